/- Length, greatest axis, what is clamped, and the vector of length One are as the document says: the law returns true for every input, and leaves its arguments as they were. -/
import Derived.Test.YtpnggkefjgpleaaLVecSizes
import Derived.KernelRfl
set_option linter.unusedVariables false
namespace Go.Xv
/- 105 _fix_Div -/
def c_fix_Div : Cfg := ⟨[0, 1, 4, 5, 6, 8, 18, 23, 26], [], [11, 12], []⟩
def ti_fix_Div : List TV := [.v (.int .i64), .v (.int .i64)]
def to_fix_Div : TV := .v (.tup [.int .i64, .bool])
def S_fix_Div (F : Nat) : FuncId → List VV → Option (Bool × VV) := words [(119, s_fix_of F), (111, s_wide_Left F), (118, s_wide_Div F), (120, s_fix_clip F)]
def W_fix_Div (F : Nat) : List LW := []
def I_fix_Div (F : Nat) : Nat → VS → (Exit → VS → R) → R := tabI c_fix_Div (W_fix_Div F)
def WJ_fix_Div (F : Nat) : List LJ := []
def J_fix_Div (F : Nat) : Nat → Nat → VS → (Exit → VS → R) → R := tabJ (WJ_fix_Div F)
def f_fix_Div (F : Nat) (a0 : Int) (a1 : Int) : R :=
  bif (ok_fix_of F a0) then (
    let v2045 : Int := (o_fix_of_0 F a0)
    let v2046 : Int := (o_fix_of_1 F a0)
    bif (ok_wide_Left F v2045 v2046 32) then (
      let v2047 : Int := (o_wide_Left_0 F v2045 v2046 32)
      let v2048 : Int := (o_wide_Left_1 F v2045 v2046 32)
      bif (ok_wide_Div F v2047 v2048 a1) then (
        let v2120 : Int := (o_wide_Div_0 F v2047 v2048 a1)
        let v2121 : Int := (o_wide_Div_1 F v2047 v2048 a1)
        bif ((o_wide_Div_3 F v2047 v2048 a1)) then (
          bif (ok_fix_clip F v2120 v2121) then (
            some (.v (.tuple #[.int .i64 ((o_fix_clip_0 F v2120 v2121)), .bool ((o_fix_clip_1 F v2120 v2121))])))
          else (
            none))
        else (
          bif ((decide (a0 > 0))) then (
            some (.v (.tuple #[.int .i64 9223372036854775807, .bool true])))
          else (
            bif ((decide (a0 < 0))) then (
              some (.v (.tuple #[.int .i64 (-9223372036854775808), .bool true])))
            else (
              some (.v (.tuple #[.int .i64 0, .bool true]))))))
      else (
        none))
    else (
      none))
  else (
    none)
theorem e_fix_Div (F : Nat) (a0 : Int) (a1 : Int) : funL PP (S_fix_Div F) c_fix_Div (I_fix_Div F) (J_fix_Div F) 105 (fTs ti_fix_Div [.i a0, .i a1]).1 = f_fix_Div F a0 a1 := by
  have h : ∀ (ok_fix_of : Nat → Int → Bool) (o_fix_of_0 : Nat → Int → Int) (o_fix_of_1 : Nat → Int → Int) (ok_wide_Left : Nat → Int → Int → Int → Bool) (o_wide_Left_0 : Nat → Int → Int → Int → Int) (o_wide_Left_1 : Nat → Int → Int → Int → Int) (ok_wide_Div : Nat → Int → Int → Int → Bool) (o_wide_Div_0 : Nat → Int → Int → Int → Int) (o_wide_Div_1 : Nat → Int → Int → Int → Int) (o_wide_Div_2 : Nat → Int → Int → Int → Int) (o_wide_Div_3 : Nat → Int → Int → Int → Bool) (ok_fix_clip : Nat → Int → Int → Bool) (o_fix_clip_0 : Nat → Int → Int → Int) (o_fix_clip_1 : Nat → Int → Int → Bool), funL PP (words [(119, spec ti_fix_of to_fix_of (fun q => (ok_fix_of F (atI (nth q 0)))) (fun q => [.i (o_fix_of_0 F (atI (nth q 0))), .i (o_fix_of_1 F (atI (nth q 0)))])), (111, spec ti_wide_Left to_wide_Left (fun q => (ok_wide_Left F (atI (nth q 0)) (atI (nth q 1)) (atI (nth q 2)))) (fun q => [.i (o_wide_Left_0 F (atI (nth q 0)) (atI (nth q 1)) (atI (nth q 2))), .i (o_wide_Left_1 F (atI (nth q 0)) (atI (nth q 1)) (atI (nth q 2)))])), (118, spec ti_wide_Div to_wide_Div (fun q => (ok_wide_Div F (atI (nth q 0)) (atI (nth q 1)) (atI (nth q 2)))) (fun q => [.i (o_wide_Div_0 F (atI (nth q 0)) (atI (nth q 1)) (atI (nth q 2))), .i (o_wide_Div_1 F (atI (nth q 0)) (atI (nth q 1)) (atI (nth q 2))), .i (o_wide_Div_2 F (atI (nth q 0)) (atI (nth q 1)) (atI (nth q 2))), .b (o_wide_Div_3 F (atI (nth q 0)) (atI (nth q 1)) (atI (nth q 2)))])), (120, spec ti_fix_clip to_fix_clip (fun q => (ok_fix_clip F (atI (nth q 0)) (atI (nth q 1)))) (fun q => [.i (o_fix_clip_0 F (atI (nth q 0)) (atI (nth q 1))), .b (o_fix_clip_1 F (atI (nth q 0)) (atI (nth q 1)))]))]) c_fix_Div (tabI c_fix_Div []) (tabJ []) 105 (fTs ti_fix_Div [.i a0, .i a1]).1 = (
  bif (ok_fix_of F a0) then (
    let v2045 : Int := (o_fix_of_0 F a0)
    let v2046 : Int := (o_fix_of_1 F a0)
    bif (ok_wide_Left F v2045 v2046 32) then (
      let v2047 : Int := (o_wide_Left_0 F v2045 v2046 32)
      let v2048 : Int := (o_wide_Left_1 F v2045 v2046 32)
      bif (ok_wide_Div F v2047 v2048 a1) then (
        let v2120 : Int := (o_wide_Div_0 F v2047 v2048 a1)
        let v2121 : Int := (o_wide_Div_1 F v2047 v2048 a1)
        bif ((o_wide_Div_3 F v2047 v2048 a1)) then (
          bif (ok_fix_clip F v2120 v2121) then (
            some (.v (.tuple #[.int .i64 ((o_fix_clip_0 F v2120 v2121)), .bool ((o_fix_clip_1 F v2120 v2121))])))
          else (
            none))
        else (
          bif ((decide (a0 > 0))) then (
            some (.v (.tuple #[.int .i64 9223372036854775807, .bool true])))
          else (
            bif ((decide (a0 < 0))) then (
              some (.v (.tuple #[.int .i64 (-9223372036854775808), .bool true])))
            else (
              some (.v (.tuple #[.int .i64 0, .bool true]))))))
      else (
        none))
    else (
      none))
  else (
    none) : R) := by
    intros
    kernel_rfl
  exact (h ok_fix_of o_fix_of_0 o_fix_of_1 ok_wide_Left o_wide_Left_0 o_wide_Left_1 ok_wide_Div o_wide_Div_0 o_wide_Div_1 o_wide_Div_2 o_wide_Div_3 ok_fix_clip o_fix_clip_0 o_fix_clip_1).trans (by kernel_rfl)
def ok_fix_Div (F : Nat) (a0 : Int) (a1 : Int) : Bool := okT to_fix_Div (f_fix_Div F a0 a1)
def o_fix_Div_0 (F : Nat) (a0 : Int) (a1 : Int) : Int := atI (nth (outT to_fix_Div (f_fix_Div F a0 a1)) 0)
def o_fix_Div_1 (F : Nat) (a0 : Int) (a1 : Int) : Bool := atB (nth (outT to_fix_Div (f_fix_Div F a0 a1)) 1)
theorem k_fix_Div (F : Nat) (a0 : Int) (a1 : Int) {z0 : Int} {z1 : Bool} (h : f_fix_Div F a0 a1 = some (.v (.tuple #[.int .i64 z0, .bool z1]))) : ok_fix_Div F a0 a1 = true ∧ o_fix_Div_0 F a0 a1 = z0 ∧ o_fix_Div_1 F a0 a1 = z1 := by
  refine ⟨?_, ?_, ?_⟩
  · unfold ok_fix_Div; rw [h]; kernel_rfl
  · unfold o_fix_Div_0; rw [h]; kernel_rfl
  · unfold o_fix_Div_1; rw [h]; kernel_rfl
def s_fix_Div (F : Nat) : List VV → Option (Bool × VV) := spec ti_fix_Div to_fix_Div (fun q => (ok_fix_Div F (atI (nth q 0)) (atI (nth q 1)))) (fun q => [.i (o_fix_Div_0 F (atI (nth q 0)) (atI (nth q 1))), .b (o_fix_Div_1 F (atI (nth q 0)) (atI (nth q 1)))])
theorem hS_fix_Div (F : Nat) : ∀ f, Good PP f (unS (S_fix_Div F f)) := words_good fun p hp => by
  simp only [List.mem_cons, List.not_mem_nil, or_false] at hp
  rcases hp with rfl | rfl | rfl | rfl
  · exact g_fix_of F
  · exact g_wide_Left F
  · exact g_wide_Div F
  · exact g_fix_clip F
theorem hl_fix_Div (F : Nat) : ∀ p ∈ loopsIn PP 105, LoopOK PP (S_fix_Div F) c_fix_Div F (I_fix_Div F) (J_fix_Div F) p :=
  loops_of [] (by kernel_rfl) all_nil
theorem hj_fix_Div (F : Nat) : ∀ p ∈ joinsIn PP c_fix_Div 105, JoinOK PP (S_fix_Div F) c_fix_Div (I_fix_Div F) (J_fix_Div F) p :=
  joins_of [] (by kernel_rfl) all_nil
theorem g_fix_Div (F : Nat) : Good PP 105 (unS (s_fix_Div F)) :=
  fun_spec (hS_fix_Div F) (by kernel_rfl) (by kernel_rfl) (C := c_fix_Div) (F := fun q => (f_fix_Div F (atI (nth q 0)) (atI (nth q 1)))) (fun _ => F) (fun _ => I_fix_Div F) (fun _ => J_fix_Div F) (fun _ => hl_fix_Div F) (fun _ => hj_fix_Div F)
    (fun q => (congrArg (funL PP (S_fix_Div F) c_fix_Div (I_fix_Div F) (J_fix_Div F) 105) (show (fTs ti_fix_Div q).1 = (fTs ti_fix_Div [.i (atI (nth q 0)), .i (atI (nth q 1))]).1 by kernel_rfl)).trans (e_fix_Div F (atI (nth q 0)) (atI (nth q 1))))
    (fun _ h => (okT_fill h).trans (congrArg some (by kernel_rfl)))

end Go.Xv
set_option linter.unusedVariables false
namespace Go.Xv
/- 106 _ref02_Div -/
def c_ref02_Div : Cfg := ⟨[0, 1, 4, 5, 6, 14, 20, 22], [], [25], []⟩
def ti_ref02_Div : List TV := [.v (.int .i64), .v (.int .i64)]
def to_ref02_Div : TV := .v (.tup [.int .i64, .bool])
def S_ref02_Div (F : Nat) : FuncId → List VV → Option (Bool × VV) := words [(31, s_ref01_Mul F), (121, s_ref01_Div F), (122, s_ref02_clip F)]
def W_ref02_Div (F : Nat) : List LW := []
def I_ref02_Div (F : Nat) : Nat → VS → (Exit → VS → R) → R := tabI c_ref02_Div (W_ref02_Div F)
def WJ_ref02_Div (F : Nat) : List LJ := []
def J_ref02_Div (F : Nat) : Nat → Nat → VS → (Exit → VS → R) → R := tabJ (WJ_ref02_Div F)
def f_ref02_Div (F : Nat) (a0 : Int) (a1 : Int) : R :=
  bif ((a1 == 0)) then (
    bif ((a0 == 0)) then (
      some (.v (.tuple #[.int .i64 0, .bool true])))
    else (
      bif ((a1 == 0)) then (
        bif ((decide (a0 > 0))) then (
          some (.v (.tuple #[.int .i64 9223372036854775807, .bool true])))
        else (
          bif ((a1 == 0)) then (
            some (.v (.tuple #[.int .i64 (-9223372036854775808), .bool true])))
          else (
            bif (ok_ref01_Mul F a0 4294967296) then (
              let v2170 : Int := (o_ref01_Mul_0 F a0 4294967296)
              let v2171 : Int := (o_ref01_Mul_1 F a0 4294967296)
              bif (ok_ref01_Div F v2170 v2171 a1) then (
                let v2353 : Int := (o_ref01_Div_0 F v2170 v2171 a1)
                let v2354 : Int := (o_ref01_Div_1 F v2170 v2171 a1)
                bif (ok_ref02_clip F v2353 v2354) then (
                  some (.v (.tuple #[.int .i64 ((o_ref02_clip_0 F v2353 v2354)), .bool ((o_ref02_clip_1 F v2353 v2354))])))
                else (
                  none))
              else (
                none))
            else (
              none))))
      else (
        bif ((a1 == 0)) then (
          some (.v (.tuple #[.int .i64 (-9223372036854775808), .bool true])))
        else (
          bif (ok_ref01_Mul F a0 4294967296) then (
            let v2362 : Int := (o_ref01_Mul_0 F a0 4294967296)
            let v2363 : Int := (o_ref01_Mul_1 F a0 4294967296)
            bif (ok_ref01_Div F v2362 v2363 a1) then (
              let v2364 : Int := (o_ref01_Div_0 F v2362 v2363 a1)
              let v2365 : Int := (o_ref01_Div_1 F v2362 v2363 a1)
              bif (ok_ref02_clip F v2364 v2365) then (
                some (.v (.tuple #[.int .i64 ((o_ref02_clip_0 F v2364 v2365)), .bool ((o_ref02_clip_1 F v2364 v2365))])))
              else (
                none))
            else (
              none))
          else (
            none)))))
  else (
    bif ((a1 == 0)) then (
      bif ((decide (a0 > 0))) then (
        some (.v (.tuple #[.int .i64 9223372036854775807, .bool true])))
      else (
        bif ((a1 == 0)) then (
          some (.v (.tuple #[.int .i64 (-9223372036854775808), .bool true])))
        else (
          bif (ok_ref01_Mul F a0 4294967296) then (
            let v2373 : Int := (o_ref01_Mul_0 F a0 4294967296)
            let v2374 : Int := (o_ref01_Mul_1 F a0 4294967296)
            bif (ok_ref01_Div F v2373 v2374 a1) then (
              let v2375 : Int := (o_ref01_Div_0 F v2373 v2374 a1)
              let v2376 : Int := (o_ref01_Div_1 F v2373 v2374 a1)
              bif (ok_ref02_clip F v2375 v2376) then (
                some (.v (.tuple #[.int .i64 ((o_ref02_clip_0 F v2375 v2376)), .bool ((o_ref02_clip_1 F v2375 v2376))])))
              else (
                none))
            else (
              none))
          else (
            none))))
    else (
      bif ((a1 == 0)) then (
        some (.v (.tuple #[.int .i64 (-9223372036854775808), .bool true])))
      else (
        bif (ok_ref01_Mul F a0 4294967296) then (
          let v2382 : Int := (o_ref01_Mul_0 F a0 4294967296)
          let v2383 : Int := (o_ref01_Mul_1 F a0 4294967296)
          bif (ok_ref01_Div F v2382 v2383 a1) then (
            let v2384 : Int := (o_ref01_Div_0 F v2382 v2383 a1)
            let v2385 : Int := (o_ref01_Div_1 F v2382 v2383 a1)
            bif (ok_ref02_clip F v2384 v2385) then (
              some (.v (.tuple #[.int .i64 ((o_ref02_clip_0 F v2384 v2385)), .bool ((o_ref02_clip_1 F v2384 v2385))])))
            else (
              none))
          else (
            none))
        else (
          none))))
theorem e_ref02_Div (F : Nat) (a0 : Int) (a1 : Int) : funL PP (S_ref02_Div F) c_ref02_Div (I_ref02_Div F) (J_ref02_Div F) 106 (fTs ti_ref02_Div [.i a0, .i a1]).1 = f_ref02_Div F a0 a1 := by
  have h : ∀ (ok_ref01_Mul : Nat → Int → Int → Bool) (o_ref01_Mul_0 : Nat → Int → Int → Int) (o_ref01_Mul_1 : Nat → Int → Int → Int) (ok_ref01_Div : Nat → Int → Int → Int → Bool) (o_ref01_Div_0 : Nat → Int → Int → Int → Int) (o_ref01_Div_1 : Nat → Int → Int → Int → Int) (o_ref01_Div_2 : Nat → Int → Int → Int → Int) (o_ref01_Div_3 : Nat → Int → Int → Int → Bool) (ok_ref02_clip : Nat → Int → Int → Bool) (o_ref02_clip_0 : Nat → Int → Int → Int) (o_ref02_clip_1 : Nat → Int → Int → Bool), funL PP (words [(31, spec ti_ref01_Mul to_ref01_Mul (fun q => (ok_ref01_Mul F (atI (nth q 0)) (atI (nth q 1)))) (fun q => [.i (o_ref01_Mul_0 F (atI (nth q 0)) (atI (nth q 1))), .i (o_ref01_Mul_1 F (atI (nth q 0)) (atI (nth q 1)))])), (121, spec ti_ref01_Div to_ref01_Div (fun q => (ok_ref01_Div F (atI (nth q 0)) (atI (nth q 1)) (atI (nth q 2)))) (fun q => [.i (o_ref01_Div_0 F (atI (nth q 0)) (atI (nth q 1)) (atI (nth q 2))), .i (o_ref01_Div_1 F (atI (nth q 0)) (atI (nth q 1)) (atI (nth q 2))), .i (o_ref01_Div_2 F (atI (nth q 0)) (atI (nth q 1)) (atI (nth q 2))), .b (o_ref01_Div_3 F (atI (nth q 0)) (atI (nth q 1)) (atI (nth q 2)))])), (122, spec ti_ref02_clip to_ref02_clip (fun q => (ok_ref02_clip F (atI (nth q 0)) (atI (nth q 1)))) (fun q => [.i (o_ref02_clip_0 F (atI (nth q 0)) (atI (nth q 1))), .b (o_ref02_clip_1 F (atI (nth q 0)) (atI (nth q 1)))]))]) c_ref02_Div (tabI c_ref02_Div []) (tabJ []) 106 (fTs ti_ref02_Div [.i a0, .i a1]).1 = (
  bif ((a1 == 0)) then (
    bif ((a0 == 0)) then (
      some (.v (.tuple #[.int .i64 0, .bool true])))
    else (
      bif ((a1 == 0)) then (
        bif ((decide (a0 > 0))) then (
          some (.v (.tuple #[.int .i64 9223372036854775807, .bool true])))
        else (
          bif ((a1 == 0)) then (
            some (.v (.tuple #[.int .i64 (-9223372036854775808), .bool true])))
          else (
            bif (ok_ref01_Mul F a0 4294967296) then (
              let v2170 : Int := (o_ref01_Mul_0 F a0 4294967296)
              let v2171 : Int := (o_ref01_Mul_1 F a0 4294967296)
              bif (ok_ref01_Div F v2170 v2171 a1) then (
                let v2353 : Int := (o_ref01_Div_0 F v2170 v2171 a1)
                let v2354 : Int := (o_ref01_Div_1 F v2170 v2171 a1)
                bif (ok_ref02_clip F v2353 v2354) then (
                  some (.v (.tuple #[.int .i64 ((o_ref02_clip_0 F v2353 v2354)), .bool ((o_ref02_clip_1 F v2353 v2354))])))
                else (
                  none))
              else (
                none))
            else (
              none))))
      else (
        bif ((a1 == 0)) then (
          some (.v (.tuple #[.int .i64 (-9223372036854775808), .bool true])))
        else (
          bif (ok_ref01_Mul F a0 4294967296) then (
            let v2362 : Int := (o_ref01_Mul_0 F a0 4294967296)
            let v2363 : Int := (o_ref01_Mul_1 F a0 4294967296)
            bif (ok_ref01_Div F v2362 v2363 a1) then (
              let v2364 : Int := (o_ref01_Div_0 F v2362 v2363 a1)
              let v2365 : Int := (o_ref01_Div_1 F v2362 v2363 a1)
              bif (ok_ref02_clip F v2364 v2365) then (
                some (.v (.tuple #[.int .i64 ((o_ref02_clip_0 F v2364 v2365)), .bool ((o_ref02_clip_1 F v2364 v2365))])))
              else (
                none))
            else (
              none))
          else (
            none)))))
  else (
    bif ((a1 == 0)) then (
      bif ((decide (a0 > 0))) then (
        some (.v (.tuple #[.int .i64 9223372036854775807, .bool true])))
      else (
        bif ((a1 == 0)) then (
          some (.v (.tuple #[.int .i64 (-9223372036854775808), .bool true])))
        else (
          bif (ok_ref01_Mul F a0 4294967296) then (
            let v2373 : Int := (o_ref01_Mul_0 F a0 4294967296)
            let v2374 : Int := (o_ref01_Mul_1 F a0 4294967296)
            bif (ok_ref01_Div F v2373 v2374 a1) then (
              let v2375 : Int := (o_ref01_Div_0 F v2373 v2374 a1)
              let v2376 : Int := (o_ref01_Div_1 F v2373 v2374 a1)
              bif (ok_ref02_clip F v2375 v2376) then (
                some (.v (.tuple #[.int .i64 ((o_ref02_clip_0 F v2375 v2376)), .bool ((o_ref02_clip_1 F v2375 v2376))])))
              else (
                none))
            else (
              none))
          else (
            none))))
    else (
      bif ((a1 == 0)) then (
        some (.v (.tuple #[.int .i64 (-9223372036854775808), .bool true])))
      else (
        bif (ok_ref01_Mul F a0 4294967296) then (
          let v2382 : Int := (o_ref01_Mul_0 F a0 4294967296)
          let v2383 : Int := (o_ref01_Mul_1 F a0 4294967296)
          bif (ok_ref01_Div F v2382 v2383 a1) then (
            let v2384 : Int := (o_ref01_Div_0 F v2382 v2383 a1)
            let v2385 : Int := (o_ref01_Div_1 F v2382 v2383 a1)
            bif (ok_ref02_clip F v2384 v2385) then (
              some (.v (.tuple #[.int .i64 ((o_ref02_clip_0 F v2384 v2385)), .bool ((o_ref02_clip_1 F v2384 v2385))])))
            else (
              none))
          else (
            none))
        else (
          none)))) : R) := by
    intros
    kernel_rfl
  exact (h ok_ref01_Mul o_ref01_Mul_0 o_ref01_Mul_1 ok_ref01_Div o_ref01_Div_0 o_ref01_Div_1 o_ref01_Div_2 o_ref01_Div_3 ok_ref02_clip o_ref02_clip_0 o_ref02_clip_1).trans (by kernel_rfl)
def ok_ref02_Div (F : Nat) (a0 : Int) (a1 : Int) : Bool := okT to_ref02_Div (f_ref02_Div F a0 a1)
def o_ref02_Div_0 (F : Nat) (a0 : Int) (a1 : Int) : Int := atI (nth (outT to_ref02_Div (f_ref02_Div F a0 a1)) 0)
def o_ref02_Div_1 (F : Nat) (a0 : Int) (a1 : Int) : Bool := atB (nth (outT to_ref02_Div (f_ref02_Div F a0 a1)) 1)
theorem k_ref02_Div (F : Nat) (a0 : Int) (a1 : Int) {z0 : Int} {z1 : Bool} (h : f_ref02_Div F a0 a1 = some (.v (.tuple #[.int .i64 z0, .bool z1]))) : ok_ref02_Div F a0 a1 = true ∧ o_ref02_Div_0 F a0 a1 = z0 ∧ o_ref02_Div_1 F a0 a1 = z1 := by
  refine ⟨?_, ?_, ?_⟩
  · unfold ok_ref02_Div; rw [h]; kernel_rfl
  · unfold o_ref02_Div_0; rw [h]; kernel_rfl
  · unfold o_ref02_Div_1; rw [h]; kernel_rfl
def s_ref02_Div (F : Nat) : List VV → Option (Bool × VV) := spec ti_ref02_Div to_ref02_Div (fun q => (ok_ref02_Div F (atI (nth q 0)) (atI (nth q 1)))) (fun q => [.i (o_ref02_Div_0 F (atI (nth q 0)) (atI (nth q 1))), .b (o_ref02_Div_1 F (atI (nth q 0)) (atI (nth q 1)))])
theorem hS_ref02_Div (F : Nat) : ∀ f, Good PP f (unS (S_ref02_Div F f)) := words_good fun p hp => by
  simp only [List.mem_cons, List.not_mem_nil, or_false] at hp
  rcases hp with rfl | rfl | rfl
  · exact g_ref01_Mul F
  · exact g_ref01_Div F
  · exact g_ref02_clip F
theorem hl_ref02_Div (F : Nat) : ∀ p ∈ loopsIn PP 106, LoopOK PP (S_ref02_Div F) c_ref02_Div F (I_ref02_Div F) (J_ref02_Div F) p :=
  loops_of [] (by kernel_rfl) all_nil
theorem hj_ref02_Div (F : Nat) : ∀ p ∈ joinsIn PP c_ref02_Div 106, JoinOK PP (S_ref02_Div F) c_ref02_Div (I_ref02_Div F) (J_ref02_Div F) p :=
  joins_of [] (by kernel_rfl) all_nil
theorem g_ref02_Div (F : Nat) : Good PP 106 (unS (s_ref02_Div F)) :=
  fun_spec (hS_ref02_Div F) (by kernel_rfl) (by kernel_rfl) (C := c_ref02_Div) (F := fun q => (f_ref02_Div F (atI (nth q 0)) (atI (nth q 1)))) (fun _ => F) (fun _ => I_ref02_Div F) (fun _ => J_ref02_Div F) (fun _ => hl_ref02_Div F) (fun _ => hj_ref02_Div F)
    (fun q => (congrArg (funL PP (S_ref02_Div F) c_ref02_Div (I_ref02_Div F) (J_ref02_Div F) 106) (show (fTs ti_ref02_Div q).1 = (fTs ti_ref02_Div [.i (atI (nth q 0)), .i (atI (nth q 1))]).1 by kernel_rfl)).trans (e_ref02_Div F (atI (nth q 0)) (atI (nth q 1))))
    (fun _ h => (okT_fill h).trans (congrArg some (by kernel_rfl)))

end Go.Xv
set_option linter.unusedVariables false
namespace Go.Xv
/- 73 _vec_bare -/
def c_vec_bare : Cfg := ⟨[0, 2, 4], [], [], []⟩
def ti_vec_bare : List TV := [.v (.int .i64)]
def to_vec_bare : TV := .v (.int .u64)
def S_vec_bare (F : Nat) : FuncId → List VV → Option (Bool × VV) := words []
def W_vec_bare (F : Nat) : List LW := []
def I_vec_bare (F : Nat) : Nat → VS → (Exit → VS → R) → R := tabI c_vec_bare (W_vec_bare F)
def WJ_vec_bare (F : Nat) : List LJ := []
def J_vec_bare (F : Nat) : Nat → Nat → VS → (Exit → VS → R) → R := tabJ (WJ_vec_bare F)
def f_vec_bare (F : Nat) (a0 : Int) : R :=
  bif ((decide (a0 < 0))) then (
    some (.v (.int .u64 ((IntKind.wrap .u64 (0 - ((IntKind.wrap .u64 a0))))))))
  else (
    some (.v (.int .u64 ((IntKind.wrap .u64 a0)))))
theorem e_vec_bare (F : Nat) (a0 : Int) : funL PP (S_vec_bare F) c_vec_bare (I_vec_bare F) (J_vec_bare F) 73 (fTs ti_vec_bare [.i a0]).1 = f_vec_bare F a0 := by
  have h : ∀ (_ : Unit), funL PP (words []) c_vec_bare (tabI c_vec_bare []) (tabJ []) 73 (fTs ti_vec_bare [.i a0]).1 = (
  bif ((decide (a0 < 0))) then (
    some (.v (.int .u64 ((IntKind.wrap .u64 (0 - ((IntKind.wrap .u64 a0))))))))
  else (
    some (.v (.int .u64 ((IntKind.wrap .u64 a0))))) : R) := by
    intros
    kernel_rfl
  exact (h ()).trans (by kernel_rfl)
def ok_vec_bare (F : Nat) (a0 : Int) : Bool := okT to_vec_bare (f_vec_bare F a0)
def o_vec_bare_0 (F : Nat) (a0 : Int) : Int := atI (nth (outT to_vec_bare (f_vec_bare F a0)) 0)
theorem k_vec_bare (F : Nat) (a0 : Int) {z0 : Int} (h : f_vec_bare F a0 = some (.v (.int .u64 z0))) : ok_vec_bare F a0 = true ∧ o_vec_bare_0 F a0 = z0 := by
  refine ⟨?_, ?_⟩
  · unfold ok_vec_bare; rw [h]; kernel_rfl
  · unfold o_vec_bare_0; rw [h]; kernel_rfl
def s_vec_bare (F : Nat) : List VV → Option (Bool × VV) := spec ti_vec_bare to_vec_bare (fun q => (ok_vec_bare F (atI (nth q 0)))) (fun q => [.i (o_vec_bare_0 F (atI (nth q 0)))])
theorem hS_vec_bare (F : Nat) : ∀ f, Good PP f (unS (S_vec_bare F f)) := words_good fun p hp => by
  cases hp
theorem hl_vec_bare (F : Nat) : ∀ p ∈ loopsIn PP 73, LoopOK PP (S_vec_bare F) c_vec_bare F (I_vec_bare F) (J_vec_bare F) p :=
  loops_of [] (by kernel_rfl) all_nil
theorem hj_vec_bare (F : Nat) : ∀ p ∈ joinsIn PP c_vec_bare 73, JoinOK PP (S_vec_bare F) c_vec_bare (I_vec_bare F) (J_vec_bare F) p :=
  joins_of [] (by kernel_rfl) all_nil
theorem g_vec_bare (F : Nat) : Good PP 73 (unS (s_vec_bare F)) :=
  fun_spec (hS_vec_bare F) (by kernel_rfl) (by kernel_rfl) (C := c_vec_bare) (F := fun q => (f_vec_bare F (atI (nth q 0)))) (fun _ => F) (fun _ => I_vec_bare F) (fun _ => J_vec_bare F) (fun _ => hl_vec_bare F) (fun _ => hj_vec_bare F)
    (fun q => (congrArg (funL PP (S_vec_bare F) c_vec_bare (I_vec_bare F) (J_vec_bare F) 73) (show (fTs ti_vec_bare q).1 = (fTs ti_vec_bare [.i (atI (nth q 0))]).1 by kernel_rfl)).trans (e_vec_bare F (atI (nth q 0))))
    (fun _ h => (okT_fill h).trans (congrArg some (by kernel_rfl)))

end Go.Xv
set_option linter.unusedVariables false
namespace Go.Xv
/- 23 _vec_Length -/
def c_vec_Length : Cfg := ⟨[0, 1, 2, 3, 4, 6, 7, 9, 10, 11, 20, 28], [(0, [0, 1, 2, 3, 4, 7, 8, 9, 10, 22, 23, 24, 25, 26, 27, 28, 29, 30])], [15, 16], []⟩
def ti_vec_Length : List TV := [.v (.agg [.int .i64, .int .i64, .int .i64])]
def to_vec_Length : TV := .v (.tup [.int .i64, .bool])
def S_vec_Length (F : Nat) : FuncId → List VV → Option (Bool × VV) := words [(73, s_vec_bare F), (72, s_root_Square F), (71, s_wide_Add F), (74, s_wide_Sign F), (75, s_root_Wide F)]
def T_vec_Length_0 : TS := ⟨[(0, .v (.agg [.int .i64, .int .i64, .int .i64])), (1, .lp 0 (.lit 0)), (2, .v (.int .i64)), (3, .v (.bool)), (4, .lp 1 (.lit 0)), (9, .v (.agg [.int .i64, .int .i64, .int .i64])), (10, .v (.int .i64))], [(0, ⟨(.ex [.v (.int .i64), .v (.int .i64), .v (.int .i64)]), true⟩), (1, ⟨(.ex [.v (.int .i64), .v (.int .u64)]), true⟩)], 2⟩
def T_vec_Length_0_0 : TS := ⟨[(0, .v (.agg [.int .i64, .int .i64, .int .i64])), (1, .lp 0 (.lit 0)), (2, .v (.int .i64)), (3, .v (.bool)), (4, .lp 1 (.lit 0)), (6, .v (.int .i64)), (9, .v (.agg [.int .i64, .int .i64, .int .i64])), (10, .v (.int .i64))], [(0, ⟨(.ex [.v (.int .i64), .v (.int .i64), .v (.int .i64)]), true⟩), (1, ⟨(.ex [.v (.int .i64), .v (.int .u64)]), true⟩)], 2⟩
def T_vec_Length_0_1 : TS := ⟨[(0, .v (.agg [.int .i64, .int .i64, .int .i64])), (1, .lp 0 (.lit 0)), (2, .v (.int .i64)), (3, .v (.bool)), (4, .lp 1 (.lit 0)), (9, .v (.agg [.int .i64, .int .i64, .int .i64])), (10, .v (.int .i64))], [(0, ⟨(.ex [.v (.int .i64), .v (.int .i64), .v (.int .i64)]), true⟩), (1, ⟨(.ex [.v (.int .i64), .v (.int .u64)]), true⟩)], 2⟩
def B_vec_Length_0 (F : Nat) (rc : Int → Int → Int → Int → Bool → Int → Int → Int → Int → Int → Int → Int → Int → Int → R) (ex0 : Int → Int → Int → Int → Bool → Int → Int → Int → Int → Int → Int → Int → Int → Int → Int → R) (ex1 : Int → Int → Int → Int → Bool → Int → Int → Int → Int → Int → Int → Int → Int → Int → R) (x0 : Int) (x1 : Int) (x2 : Int) (x3 : Int) (x4 : Bool) (x5 : Int) (x6 : Int) (x7 : Int) (x8 : Int) (x9 : Int) (x10 : Int) (x11 : Int) (x12 : Int) (x13 : Int) : R :=
  bif ((decide (x8 < 3))) then (
    bif (((decide (0 ≤ x8)) && (decide (x8 < 3))) && ((isI .i64 [.v (.int .i64 x5), .v (.int .i64 x6), .v (.int .i64 x7)][((Int.toNat x8) * 1)]?) && true)) then (
      let v1314 : Int := (iv [.v (.int .i64 x5), .v (.int .i64 x6), .v (.int .i64 x7)][((Int.toNat x8) * 1)]?)
      bif (ok_vec_bare F v1314) then (
        let v1319 : Int := (o_vec_bare_0 F v1314)
        bif (ok_root_Square F v1319) then (
          let v1351 : Int := (o_root_Square_0 F v1319)
          let v1352 : Int := (o_root_Square_1 F v1319)
          bif (ok_wide_Add F x12 x13 v1351 v1352) then (
            let v1353 : Int := (o_wide_Add_0 F x12 x13 v1351 v1352)
            let v1354 : Int := (o_wide_Add_1 F x12 x13 v1351 v1352)
            bif (ok_wide_Sign F v1353 v1354) then (
              bif ((decide (((o_wide_Sign_0 F v1353 v1354)) < 0))) then (
                ex0 x0 x1 x2 9223372036854775807 true v1314 x5 x6 x7 x8 x9 x10 x11 v1353 v1354)
              else (
                rc x0 x1 x2 x3 x4 x5 x6 x7 ((IntKind.wrap .i64 (x8 + 1))) x9 x10 x11 v1353 v1354))
            else (
              none))
          else (
            none))
        else (
          none))
      else (
        none))
    else (
      none))
  else (
    ex1 x0 x1 x2 x3 x4 x5 x6 x7 x8 x9 x10 x11 x12 x13)
def L_vec_Length_0 (F : Nat) (ex0 : Int → Int → Int → Int → Bool → Int → Int → Int → Int → Int → Int → Int → Int → Int → Int → R) (ex1 : Int → Int → Int → Int → Bool → Int → Int → Int → Int → Int → Int → Int → Int → Int → R) : Nat → Int → Int → Int → Int → Bool → Int → Int → Int → Int → Int → Int → Int → Int → Int → R
  | 0, _, _, _, _, _, _, _, _, _, _, _, _, _, _ => none
  | n + 1, x0, x1, x2, x3, x4, x5, x6, x7, x8, x9, x10, x11, x12, x13 => B_vec_Length_0 F (L_vec_Length_0 F ex0 ex1 n) ex0 ex1 x0 x1 x2 x3 x4 x5 x6 x7 x8 x9 x10 x11 x12 x13
def W_vec_Length (F : Nat) : List LW := [⟨0, T_vec_Length_0, fun k q => L_vec_Length_0 F (fun (z0 : Int) (z1 : Int) (z2 : Int) (z3 : Int) (z4 : Bool) (z5 : Int) (z6 : Int) (z7 : Int) (z8 : Int) (z9 : Int) (z10 : Int) (z11 : Int) (z12 : Int) (z13 : Int) (z14 : Int) => k .ret (fS T_vec_Length_0_0 [.i z0, .i z1, .i z2, .i z3, .b z4, .i z5, .i z6, .i z7, .i z8, .i z9, .i z10, .i z11, .i z12, .i z13, .i z14])) (fun (z0 : Int) (z1 : Int) (z2 : Int) (z3 : Int) (z4 : Bool) (z5 : Int) (z6 : Int) (z7 : Int) (z8 : Int) (z9 : Int) (z10 : Int) (z11 : Int) (z12 : Int) (z13 : Int) => k (.exit 0) (fS T_vec_Length_0_1 [.i z0, .i z1, .i z2, .i z3, .b z4, .i z5, .i z6, .i z7, .i z8, .i z9, .i z10, .i z11, .i z12, .i z13])) F (atI (nth q 0)) (atI (nth q 1)) (atI (nth q 2)) (atI (nth q 3)) (atB (nth q 4)) (atI (nth q 5)) (atI (nth q 6)) (atI (nth q 7)) (atI (nth q 8)) (atI (nth q 9)) (atI (nth q 10)) (atI (nth q 11)) (atI (nth q 12)) (atI (nth q 13))⟩]
def I_vec_Length (F : Nat) : Nat → VS → (Exit → VS → R) → R := tabI c_vec_Length (W_vec_Length F)
def WJ_vec_Length (F : Nat) : List LJ := []
def J_vec_Length (F : Nat) : Nat → Nat → VS → (Exit → VS → R) → R := tabJ (WJ_vec_Length F)
theorem lL_vec_Length_0 (F : Nat) (k : Exit → VS → R) : ∀ (n : Nat) (x0 : Int) (x1 : Int) (x2 : Int) (x3 : Int) (x4 : Bool) (x5 : Int) (x6 : Int) (x7 : Int) (x8 : Int) (x9 : Int) (x10 : Int) (x11 : Int) (x12 : Int) (x13 : Int), iterC (codeL PP (S_vec_Length F) c_vec_Length (I_vec_Length F) (J_vec_Length F) (loopAt PP 23 0) 0) (headOf c_vec_Length 0) k n (fS T_vec_Length_0 [.i x0, .i x1, .i x2, .i x3, .b x4, .i x5, .i x6, .i x7, .i x8, .i x9, .i x10, .i x11, .i x12, .i x13]) = L_vec_Length_0 F (fun (z0 : Int) (z1 : Int) (z2 : Int) (z3 : Int) (z4 : Bool) (z5 : Int) (z6 : Int) (z7 : Int) (z8 : Int) (z9 : Int) (z10 : Int) (z11 : Int) (z12 : Int) (z13 : Int) (z14 : Int) => k .ret (fS T_vec_Length_0_0 [.i z0, .i z1, .i z2, .i z3, .b z4, .i z5, .i z6, .i z7, .i z8, .i z9, .i z10, .i z11, .i z12, .i z13, .i z14])) (fun (z0 : Int) (z1 : Int) (z2 : Int) (z3 : Int) (z4 : Bool) (z5 : Int) (z6 : Int) (z7 : Int) (z8 : Int) (z9 : Int) (z10 : Int) (z11 : Int) (z12 : Int) (z13 : Int) => k (.exit 0) (fS T_vec_Length_0_1 [.i z0, .i z1, .i z2, .i z3, .b z4, .i z5, .i z6, .i z7, .i z8, .i z9, .i z10, .i z11, .i z12, .i z13])) n x0 x1 x2 x3 x4 x5 x6 x7 x8 x9 x10 x11 x12 x13
  | 0, _, _, _, _, _, _, _, _, _, _, _, _, _, _ => rfl
  | n + 1, x0, x1, x2, x3, x4, x5, x6, x7, x8, x9, x10, x11, x12, x13 => by
    have h0 : ∀ (ok_vec_bare : Nat → Int → Bool) (o_vec_bare_0 : Nat → Int → Int) (ok_root_Square : Nat → Int → Bool) (o_root_Square_0 : Nat → Int → Int) (o_root_Square_1 : Nat → Int → Int) (ok_wide_Add : Nat → Int → Int → Int → Int → Bool) (o_wide_Add_0 : Nat → Int → Int → Int → Int → Int) (o_wide_Add_1 : Nat → Int → Int → Int → Int → Int) (ok_wide_Sign : Nat → Int → Int → Bool) (o_wide_Sign_0 : Nat → Int → Int → Int) (ok_root_Wide : Nat → Int → Int → Bool) (o_root_Wide_0 : Nat → Int → Int → Int) (o_root_Wide_1 : Nat → Int → Int → Bool) (L_vec_Length_0 : Nat → (Int → Int → Int → Int → Bool → Int → Int → Int → Int → Int → Int → Int → Int → Int → Int → R) → (Int → Int → Int → Int → Bool → Int → Int → Int → Int → Int → Int → Int → Int → Int → R) → Nat → Int → Int → Int → Int → Bool → Int → Int → Int → Int → Int → Int → Int → Int → Int → R), iterC (codeL PP (words [(73, spec ti_vec_bare to_vec_bare (fun q => (ok_vec_bare F (atI (nth q 0)))) (fun q => [.i (o_vec_bare_0 F (atI (nth q 0)))])), (72, spec ti_root_Square to_root_Square (fun q => (ok_root_Square F (atI (nth q 0)))) (fun q => [.i (o_root_Square_0 F (atI (nth q 0))), .i (o_root_Square_1 F (atI (nth q 0)))])), (71, spec ti_wide_Add to_wide_Add (fun q => (ok_wide_Add F (atI (nth q 0)) (atI (nth q 1)) (atI (nth q 2)) (atI (nth q 3)))) (fun q => [.i (o_wide_Add_0 F (atI (nth q 0)) (atI (nth q 1)) (atI (nth q 2)) (atI (nth q 3))), .i (o_wide_Add_1 F (atI (nth q 0)) (atI (nth q 1)) (atI (nth q 2)) (atI (nth q 3)))])), (74, spec ti_wide_Sign to_wide_Sign (fun q => (ok_wide_Sign F (atI (nth q 0)) (atI (nth q 1)))) (fun q => [.i (o_wide_Sign_0 F (atI (nth q 0)) (atI (nth q 1)))])), (75, spec ti_root_Wide to_root_Wide (fun q => (ok_root_Wide F (atI (nth q 0)) (atI (nth q 1)))) (fun q => [.i (o_root_Wide_0 F (atI (nth q 0)) (atI (nth q 1))), .b (o_root_Wide_1 F (atI (nth q 0)) (atI (nth q 1)))]))]) c_vec_Length (tabI c_vec_Length [⟨0, T_vec_Length_0, fun k q => L_vec_Length_0 F (fun (z0 : Int) (z1 : Int) (z2 : Int) (z3 : Int) (z4 : Bool) (z5 : Int) (z6 : Int) (z7 : Int) (z8 : Int) (z9 : Int) (z10 : Int) (z11 : Int) (z12 : Int) (z13 : Int) (z14 : Int) => k .ret (fS T_vec_Length_0_0 [.i z0, .i z1, .i z2, .i z3, .b z4, .i z5, .i z6, .i z7, .i z8, .i z9, .i z10, .i z11, .i z12, .i z13, .i z14])) (fun (z0 : Int) (z1 : Int) (z2 : Int) (z3 : Int) (z4 : Bool) (z5 : Int) (z6 : Int) (z7 : Int) (z8 : Int) (z9 : Int) (z10 : Int) (z11 : Int) (z12 : Int) (z13 : Int) => k (.exit 0) (fS T_vec_Length_0_1 [.i z0, .i z1, .i z2, .i z3, .b z4, .i z5, .i z6, .i z7, .i z8, .i z9, .i z10, .i z11, .i z12, .i z13])) F (atI (nth q 0)) (atI (nth q 1)) (atI (nth q 2)) (atI (nth q 3)) (atB (nth q 4)) (atI (nth q 5)) (atI (nth q 6)) (atI (nth q 7)) (atI (nth q 8)) (atI (nth q 9)) (atI (nth q 10)) (atI (nth q 11)) (atI (nth q 12)) (atI (nth q 13))⟩]) (tabJ []) (loopAt PP 23 0) 0) (headOf c_vec_Length 0) k (n + 1) (fS T_vec_Length_0 [.i x0, .i x1, .i x2, .i x3, .b x4, .i x5, .i x6, .i x7, .i x8, .i x9, .i x10, .i x11, .i x12, .i x13]) = (fun (rc : Int → Int → Int → Int → Bool → Int → Int → Int → Int → Int → Int → Int → Int → Int → R) (ex0 : Int → Int → Int → Int → Bool → Int → Int → Int → Int → Int → Int → Int → Int → Int → Int → R) (ex1 : Int → Int → Int → Int → Bool → Int → Int → Int → Int → Int → Int → Int → Int → Int → R) (x0 : Int) (x1 : Int) (x2 : Int) (x3 : Int) (x4 : Bool) (x5 : Int) (x6 : Int) (x7 : Int) (x8 : Int) (x9 : Int) (x10 : Int) (x11 : Int) (x12 : Int) (x13 : Int) => (
  bif ((decide (x8 < 3))) then (
    bif (((decide (0 ≤ x8)) && (decide (x8 < 3))) && ((isI .i64 [.v (.int .i64 x5), .v (.int .i64 x6), .v (.int .i64 x7)][((Int.toNat x8) * 1)]?) && true)) then (
      let v1314 : Int := (iv [.v (.int .i64 x5), .v (.int .i64 x6), .v (.int .i64 x7)][((Int.toNat x8) * 1)]?)
      bif (ok_vec_bare F v1314) then (
        let v1319 : Int := (o_vec_bare_0 F v1314)
        bif (ok_root_Square F v1319) then (
          let v1351 : Int := (o_root_Square_0 F v1319)
          let v1352 : Int := (o_root_Square_1 F v1319)
          bif (ok_wide_Add F x12 x13 v1351 v1352) then (
            let v1353 : Int := (o_wide_Add_0 F x12 x13 v1351 v1352)
            let v1354 : Int := (o_wide_Add_1 F x12 x13 v1351 v1352)
            bif (ok_wide_Sign F v1353 v1354) then (
              bif ((decide (((o_wide_Sign_0 F v1353 v1354)) < 0))) then (
                ex0 x0 x1 x2 9223372036854775807 true v1314 x5 x6 x7 x8 x9 x10 x11 v1353 v1354)
              else (
                rc x0 x1 x2 x3 x4 x5 x6 x7 ((IntKind.wrap .i64 (x8 + 1))) x9 x10 x11 v1353 v1354))
            else (
              none))
          else (
            none))
        else (
          none))
      else (
        none))
    else (
      none))
  else (
    ex1 x0 x1 x2 x3 x4 x5 x6 x7 x8 x9 x10 x11 x12 x13) : R)) (fun (y0 : Int) (y1 : Int) (y2 : Int) (y3 : Int) (y4 : Bool) (y5 : Int) (y6 : Int) (y7 : Int) (y8 : Int) (y9 : Int) (y10 : Int) (y11 : Int) (y12 : Int) (y13 : Int) => iterC (codeL PP (words [(73, spec ti_vec_bare to_vec_bare (fun q => (ok_vec_bare F (atI (nth q 0)))) (fun q => [.i (o_vec_bare_0 F (atI (nth q 0)))])), (72, spec ti_root_Square to_root_Square (fun q => (ok_root_Square F (atI (nth q 0)))) (fun q => [.i (o_root_Square_0 F (atI (nth q 0))), .i (o_root_Square_1 F (atI (nth q 0)))])), (71, spec ti_wide_Add to_wide_Add (fun q => (ok_wide_Add F (atI (nth q 0)) (atI (nth q 1)) (atI (nth q 2)) (atI (nth q 3)))) (fun q => [.i (o_wide_Add_0 F (atI (nth q 0)) (atI (nth q 1)) (atI (nth q 2)) (atI (nth q 3))), .i (o_wide_Add_1 F (atI (nth q 0)) (atI (nth q 1)) (atI (nth q 2)) (atI (nth q 3)))])), (74, spec ti_wide_Sign to_wide_Sign (fun q => (ok_wide_Sign F (atI (nth q 0)) (atI (nth q 1)))) (fun q => [.i (o_wide_Sign_0 F (atI (nth q 0)) (atI (nth q 1)))])), (75, spec ti_root_Wide to_root_Wide (fun q => (ok_root_Wide F (atI (nth q 0)) (atI (nth q 1)))) (fun q => [.i (o_root_Wide_0 F (atI (nth q 0)) (atI (nth q 1))), .b (o_root_Wide_1 F (atI (nth q 0)) (atI (nth q 1)))]))]) c_vec_Length (tabI c_vec_Length [⟨0, T_vec_Length_0, fun k q => L_vec_Length_0 F (fun (z0 : Int) (z1 : Int) (z2 : Int) (z3 : Int) (z4 : Bool) (z5 : Int) (z6 : Int) (z7 : Int) (z8 : Int) (z9 : Int) (z10 : Int) (z11 : Int) (z12 : Int) (z13 : Int) (z14 : Int) => k .ret (fS T_vec_Length_0_0 [.i z0, .i z1, .i z2, .i z3, .b z4, .i z5, .i z6, .i z7, .i z8, .i z9, .i z10, .i z11, .i z12, .i z13, .i z14])) (fun (z0 : Int) (z1 : Int) (z2 : Int) (z3 : Int) (z4 : Bool) (z5 : Int) (z6 : Int) (z7 : Int) (z8 : Int) (z9 : Int) (z10 : Int) (z11 : Int) (z12 : Int) (z13 : Int) => k (.exit 0) (fS T_vec_Length_0_1 [.i z0, .i z1, .i z2, .i z3, .b z4, .i z5, .i z6, .i z7, .i z8, .i z9, .i z10, .i z11, .i z12, .i z13])) F (atI (nth q 0)) (atI (nth q 1)) (atI (nth q 2)) (atI (nth q 3)) (atB (nth q 4)) (atI (nth q 5)) (atI (nth q 6)) (atI (nth q 7)) (atI (nth q 8)) (atI (nth q 9)) (atI (nth q 10)) (atI (nth q 11)) (atI (nth q 12)) (atI (nth q 13))⟩]) (tabJ []) (loopAt PP 23 0) 0) (headOf c_vec_Length 0) k n (fS T_vec_Length_0 [.i y0, .i y1, .i y2, .i y3, .b y4, .i y5, .i y6, .i y7, .i y8, .i y9, .i y10, .i y11, .i y12, .i y13])) (fun (z0 : Int) (z1 : Int) (z2 : Int) (z3 : Int) (z4 : Bool) (z5 : Int) (z6 : Int) (z7 : Int) (z8 : Int) (z9 : Int) (z10 : Int) (z11 : Int) (z12 : Int) (z13 : Int) (z14 : Int) => k .ret (fS T_vec_Length_0_0 [.i z0, .i z1, .i z2, .i z3, .b z4, .i z5, .i z6, .i z7, .i z8, .i z9, .i z10, .i z11, .i z12, .i z13, .i z14])) (fun (z0 : Int) (z1 : Int) (z2 : Int) (z3 : Int) (z4 : Bool) (z5 : Int) (z6 : Int) (z7 : Int) (z8 : Int) (z9 : Int) (z10 : Int) (z11 : Int) (z12 : Int) (z13 : Int) => k (.exit 0) (fS T_vec_Length_0_1 [.i z0, .i z1, .i z2, .i z3, .b z4, .i z5, .i z6, .i z7, .i z8, .i z9, .i z10, .i z11, .i z12, .i z13])) x0 x1 x2 x3 x4 x5 x6 x7 x8 x9 x10 x11 x12 x13 := by
      intros
      kernel_rfl
    have h : iterC (codeL PP (S_vec_Length F) c_vec_Length (I_vec_Length F) (J_vec_Length F) (loopAt PP 23 0) 0) (headOf c_vec_Length 0) k (n + 1) (fS T_vec_Length_0 [.i x0, .i x1, .i x2, .i x3, .b x4, .i x5, .i x6, .i x7, .i x8, .i x9, .i x10, .i x11, .i x12, .i x13]) = B_vec_Length_0 F (fun (y0 : Int) (y1 : Int) (y2 : Int) (y3 : Int) (y4 : Bool) (y5 : Int) (y6 : Int) (y7 : Int) (y8 : Int) (y9 : Int) (y10 : Int) (y11 : Int) (y12 : Int) (y13 : Int) => iterC (codeL PP (S_vec_Length F) c_vec_Length (I_vec_Length F) (J_vec_Length F) (loopAt PP 23 0) 0) (headOf c_vec_Length 0) k n (fS T_vec_Length_0 [.i y0, .i y1, .i y2, .i y3, .b y4, .i y5, .i y6, .i y7, .i y8, .i y9, .i y10, .i y11, .i y12, .i y13])) (fun (z0 : Int) (z1 : Int) (z2 : Int) (z3 : Int) (z4 : Bool) (z5 : Int) (z6 : Int) (z7 : Int) (z8 : Int) (z9 : Int) (z10 : Int) (z11 : Int) (z12 : Int) (z13 : Int) (z14 : Int) => k .ret (fS T_vec_Length_0_0 [.i z0, .i z1, .i z2, .i z3, .b z4, .i z5, .i z6, .i z7, .i z8, .i z9, .i z10, .i z11, .i z12, .i z13, .i z14])) (fun (z0 : Int) (z1 : Int) (z2 : Int) (z3 : Int) (z4 : Bool) (z5 : Int) (z6 : Int) (z7 : Int) (z8 : Int) (z9 : Int) (z10 : Int) (z11 : Int) (z12 : Int) (z13 : Int) => k (.exit 0) (fS T_vec_Length_0_1 [.i z0, .i z1, .i z2, .i z3, .b z4, .i z5, .i z6, .i z7, .i z8, .i z9, .i z10, .i z11, .i z12, .i z13])) x0 x1 x2 x3 x4 x5 x6 x7 x8 x9 x10 x11 x12 x13 := (h0 ok_vec_bare o_vec_bare_0 ok_root_Square o_root_Square_0 o_root_Square_1 ok_wide_Add o_wide_Add_0 o_wide_Add_1 ok_wide_Sign o_wide_Sign_0 ok_root_Wide o_root_Wide_0 o_root_Wide_1 L_vec_Length_0).trans (by kernel_rfl)
    rw [h]
    simp only [lL_vec_Length_0 F k n]
    rfl
def f_vec_Length (F : Nat) (a0 : Int) (a1 : Int) (a2 : Int) : R :=
  L_vec_Length_0 F (fun (v1360 : Int) (v1361 : Int) (v1362 : Int) (v1363 : Int) (v1364 : Bool) (v1365 : Int) (v1366 : Int) (v1367 : Int) (v1368 : Int) (v1369 : Int) (v1370 : Int) (v1371 : Int) (v1372 : Int) (v1373 : Int) (v1374 : Int) =>
    some (.v (.tuple #[.int .i64 v1363, .bool v1364]))) (fun (v1375 : Int) (v1376 : Int) (v1377 : Int) (v1378 : Int) (v1379 : Bool) (v1380 : Int) (v1381 : Int) (v1382 : Int) (v1383 : Int) (v1384 : Int) (v1385 : Int) (v1386 : Int) (v1387 : Int) (v1388 : Int) =>
    bif (ok_root_Wide F v1387 v1388) then (
      let v1422 : Int := (o_root_Wide_0 F v1387 v1388)
      bif ((decide (v1422 > 9223372036854775807))) then (
        some (.v (.tuple #[.int .i64 9223372036854775807, .bool true])))
      else (
        some (.v (.tuple #[.int .i64 ((IntKind.wrap .i64 v1422)), .bool false]))))
    else (
      none)) F a0 a1 a2 0 false a0 a1 a2 0 a0 a1 a2 0 0
theorem e_vec_Length (F : Nat) (a0 : Int) (a1 : Int) (a2 : Int) : funL PP (S_vec_Length F) c_vec_Length (I_vec_Length F) (J_vec_Length F) 23 (fTs ti_vec_Length [.i a0, .i a1, .i a2]).1 = f_vec_Length F a0 a1 a2 := by
  have h : ∀ (ok_vec_bare : Nat → Int → Bool) (o_vec_bare_0 : Nat → Int → Int) (ok_root_Square : Nat → Int → Bool) (o_root_Square_0 : Nat → Int → Int) (o_root_Square_1 : Nat → Int → Int) (ok_wide_Add : Nat → Int → Int → Int → Int → Bool) (o_wide_Add_0 : Nat → Int → Int → Int → Int → Int) (o_wide_Add_1 : Nat → Int → Int → Int → Int → Int) (ok_wide_Sign : Nat → Int → Int → Bool) (o_wide_Sign_0 : Nat → Int → Int → Int) (ok_root_Wide : Nat → Int → Int → Bool) (o_root_Wide_0 : Nat → Int → Int → Int) (o_root_Wide_1 : Nat → Int → Int → Bool) (L_vec_Length_0 : Nat → (Int → Int → Int → Int → Bool → Int → Int → Int → Int → Int → Int → Int → Int → Int → Int → R) → (Int → Int → Int → Int → Bool → Int → Int → Int → Int → Int → Int → Int → Int → Int → R) → Nat → Int → Int → Int → Int → Bool → Int → Int → Int → Int → Int → Int → Int → Int → Int → R), funL PP (words [(73, spec ti_vec_bare to_vec_bare (fun q => (ok_vec_bare F (atI (nth q 0)))) (fun q => [.i (o_vec_bare_0 F (atI (nth q 0)))])), (72, spec ti_root_Square to_root_Square (fun q => (ok_root_Square F (atI (nth q 0)))) (fun q => [.i (o_root_Square_0 F (atI (nth q 0))), .i (o_root_Square_1 F (atI (nth q 0)))])), (71, spec ti_wide_Add to_wide_Add (fun q => (ok_wide_Add F (atI (nth q 0)) (atI (nth q 1)) (atI (nth q 2)) (atI (nth q 3)))) (fun q => [.i (o_wide_Add_0 F (atI (nth q 0)) (atI (nth q 1)) (atI (nth q 2)) (atI (nth q 3))), .i (o_wide_Add_1 F (atI (nth q 0)) (atI (nth q 1)) (atI (nth q 2)) (atI (nth q 3)))])), (74, spec ti_wide_Sign to_wide_Sign (fun q => (ok_wide_Sign F (atI (nth q 0)) (atI (nth q 1)))) (fun q => [.i (o_wide_Sign_0 F (atI (nth q 0)) (atI (nth q 1)))])), (75, spec ti_root_Wide to_root_Wide (fun q => (ok_root_Wide F (atI (nth q 0)) (atI (nth q 1)))) (fun q => [.i (o_root_Wide_0 F (atI (nth q 0)) (atI (nth q 1))), .b (o_root_Wide_1 F (atI (nth q 0)) (atI (nth q 1)))]))]) c_vec_Length (tabI c_vec_Length [⟨0, T_vec_Length_0, fun k q => L_vec_Length_0 F (fun (z0 : Int) (z1 : Int) (z2 : Int) (z3 : Int) (z4 : Bool) (z5 : Int) (z6 : Int) (z7 : Int) (z8 : Int) (z9 : Int) (z10 : Int) (z11 : Int) (z12 : Int) (z13 : Int) (z14 : Int) => k .ret (fS T_vec_Length_0_0 [.i z0, .i z1, .i z2, .i z3, .b z4, .i z5, .i z6, .i z7, .i z8, .i z9, .i z10, .i z11, .i z12, .i z13, .i z14])) (fun (z0 : Int) (z1 : Int) (z2 : Int) (z3 : Int) (z4 : Bool) (z5 : Int) (z6 : Int) (z7 : Int) (z8 : Int) (z9 : Int) (z10 : Int) (z11 : Int) (z12 : Int) (z13 : Int) => k (.exit 0) (fS T_vec_Length_0_1 [.i z0, .i z1, .i z2, .i z3, .b z4, .i z5, .i z6, .i z7, .i z8, .i z9, .i z10, .i z11, .i z12, .i z13])) F (atI (nth q 0)) (atI (nth q 1)) (atI (nth q 2)) (atI (nth q 3)) (atB (nth q 4)) (atI (nth q 5)) (atI (nth q 6)) (atI (nth q 7)) (atI (nth q 8)) (atI (nth q 9)) (atI (nth q 10)) (atI (nth q 11)) (atI (nth q 12)) (atI (nth q 13))⟩]) (tabJ []) 23 (fTs ti_vec_Length [.i a0, .i a1, .i a2]).1 = (
  L_vec_Length_0 F (fun (v1360 : Int) (v1361 : Int) (v1362 : Int) (v1363 : Int) (v1364 : Bool) (v1365 : Int) (v1366 : Int) (v1367 : Int) (v1368 : Int) (v1369 : Int) (v1370 : Int) (v1371 : Int) (v1372 : Int) (v1373 : Int) (v1374 : Int) =>
    some (.v (.tuple #[.int .i64 v1363, .bool v1364]))) (fun (v1375 : Int) (v1376 : Int) (v1377 : Int) (v1378 : Int) (v1379 : Bool) (v1380 : Int) (v1381 : Int) (v1382 : Int) (v1383 : Int) (v1384 : Int) (v1385 : Int) (v1386 : Int) (v1387 : Int) (v1388 : Int) =>
    bif (ok_root_Wide F v1387 v1388) then (
      let v1422 : Int := (o_root_Wide_0 F v1387 v1388)
      bif ((decide (v1422 > 9223372036854775807))) then (
        some (.v (.tuple #[.int .i64 9223372036854775807, .bool true])))
      else (
        some (.v (.tuple #[.int .i64 ((IntKind.wrap .i64 v1422)), .bool false]))))
    else (
      none)) F a0 a1 a2 0 false a0 a1 a2 0 a0 a1 a2 0 0 : R) := by
    intros
    kernel_rfl
  exact (h ok_vec_bare o_vec_bare_0 ok_root_Square o_root_Square_0 o_root_Square_1 ok_wide_Add o_wide_Add_0 o_wide_Add_1 ok_wide_Sign o_wide_Sign_0 ok_root_Wide o_root_Wide_0 o_root_Wide_1 L_vec_Length_0).trans (by kernel_rfl)
def ok_vec_Length (F : Nat) (a0 : Int) (a1 : Int) (a2 : Int) : Bool := okT to_vec_Length (f_vec_Length F a0 a1 a2)
def o_vec_Length_0 (F : Nat) (a0 : Int) (a1 : Int) (a2 : Int) : Int := atI (nth (outT to_vec_Length (f_vec_Length F a0 a1 a2)) 0)
def o_vec_Length_1 (F : Nat) (a0 : Int) (a1 : Int) (a2 : Int) : Bool := atB (nth (outT to_vec_Length (f_vec_Length F a0 a1 a2)) 1)
theorem k_vec_Length (F : Nat) (a0 : Int) (a1 : Int) (a2 : Int) {z0 : Int} {z1 : Bool} (h : f_vec_Length F a0 a1 a2 = some (.v (.tuple #[.int .i64 z0, .bool z1]))) : ok_vec_Length F a0 a1 a2 = true ∧ o_vec_Length_0 F a0 a1 a2 = z0 ∧ o_vec_Length_1 F a0 a1 a2 = z1 := by
  refine ⟨?_, ?_, ?_⟩
  · unfold ok_vec_Length; rw [h]; kernel_rfl
  · unfold o_vec_Length_0; rw [h]; kernel_rfl
  · unfold o_vec_Length_1; rw [h]; kernel_rfl
def s_vec_Length (F : Nat) : List VV → Option (Bool × VV) := spec ti_vec_Length to_vec_Length (fun q => (ok_vec_Length F (atI (nth q 0)) (atI (nth q 1)) (atI (nth q 2)))) (fun q => [.i (o_vec_Length_0 F (atI (nth q 0)) (atI (nth q 1)) (atI (nth q 2))), .b (o_vec_Length_1 F (atI (nth q 0)) (atI (nth q 1)) (atI (nth q 2)))])
theorem hS_vec_Length (F : Nat) : ∀ f, Good PP f (unS (S_vec_Length F f)) := words_good fun p hp => by
  simp only [List.mem_cons, List.not_mem_nil, or_false] at hp
  rcases hp with rfl | rfl | rfl | rfl | rfl
  · exact g_vec_bare F
  · exact g_root_Square F
  · exact g_wide_Add F
  · exact g_wide_Sign F
  · exact g_root_Wide F
theorem hl_vec_Length (F : Nat) : ∀ p ∈ loopsIn PP 23, LoopOK PP (S_vec_Length F) c_vec_Length F (I_vec_Length F) (J_vec_Length F) p :=
  loops_of [(0, loopAt PP 23 0)] (by kernel_rfl) (all_cons
    (loop_ok (W_vec_Length F) rfl (tab_cons (fun _ k q => Le.ofEq ((lL_vec_Length_0 F k F (atI (nth q 0)) (atI (nth q 1)) (atI (nth q 2)) (atI (nth q 3)) (atB (nth q 4)) (atI (nth q 5)) (atI (nth q 6)) (atI (nth q 7)) (atI (nth q 8)) (atI (nth q 9)) (atI (nth q 10)) (atI (nth q 11)) (atI (nth q 12)) (atI (nth q 13))).symm.trans (congrArg (iterC (codeL PP (S_vec_Length F) c_vec_Length (I_vec_Length F) (J_vec_Length F) (loopAt PP 23 0) 0) (headOf c_vec_Length 0) k F) (show fS T_vec_Length_0 [.i (atI (nth q 0)), .i (atI (nth q 1)), .i (atI (nth q 2)), .i (atI (nth q 3)), .b (atB (nth q 4)), .i (atI (nth q 5)), .i (atI (nth q 6)), .i (atI (nth q 7)), .i (atI (nth q 8)), .i (atI (nth q 9)), .i (atI (nth q 10)), .i (atI (nth q 11)), .i (atI (nth q 12)), .i (atI (nth q 13))] = fS T_vec_Length_0 q by kernel_rfl)))) tab_nil)) all_nil)
theorem hj_vec_Length (F : Nat) : ∀ p ∈ joinsIn PP c_vec_Length 23, JoinOK PP (S_vec_Length F) c_vec_Length (I_vec_Length F) (J_vec_Length F) p :=
  joins_of [] (by kernel_rfl) all_nil
theorem g_vec_Length (F : Nat) : Good PP 23 (unS (s_vec_Length F)) :=
  fun_spec (hS_vec_Length F) (by kernel_rfl) (by kernel_rfl) (C := c_vec_Length) (F := fun q => (f_vec_Length F (atI (nth q 0)) (atI (nth q 1)) (atI (nth q 2)))) (fun _ => F) (fun _ => I_vec_Length F) (fun _ => J_vec_Length F) (fun _ => hl_vec_Length F) (fun _ => hj_vec_Length F)
    (fun q => (congrArg (funL PP (S_vec_Length F) c_vec_Length (I_vec_Length F) (J_vec_Length F) 23) (show (fTs ti_vec_Length q).1 = (fTs ti_vec_Length [.i (atI (nth q 0)), .i (atI (nth q 1)), .i (atI (nth q 2))]).1 by kernel_rfl)).trans (e_vec_Length F (atI (nth q 0)) (atI (nth q 1)) (atI (nth q 2))))
    (fun _ h => (okT_fill h).trans (congrArg some (by kernel_rfl)))

end Go.Xv
set_option linter.unusedVariables false
namespace Go.Xv
/- 101 _ref06_bare -/
def c_ref06_bare : Cfg := ⟨[0, 2, 4], [], [], []⟩
def ti_ref06_bare : List TV := [.v (.int .i64)]
def to_ref06_bare : TV := .v (.int .u64)
def S_ref06_bare (F : Nat) : FuncId → List VV → Option (Bool × VV) := words []
def W_ref06_bare (F : Nat) : List LW := []
def I_ref06_bare (F : Nat) : Nat → VS → (Exit → VS → R) → R := tabI c_ref06_bare (W_ref06_bare F)
def WJ_ref06_bare (F : Nat) : List LJ := []
def J_ref06_bare (F : Nat) : Nat → Nat → VS → (Exit → VS → R) → R := tabJ (WJ_ref06_bare F)
def f_ref06_bare (F : Nat) (a0 : Int) : R :=
  bif ((decide (a0 < 0))) then (
    some (.v (.int .u64 ((IntKind.wrap .u64 (((IntKind.wrap .u64 ((IntKind.wrap .i64 (0 - ((IntKind.wrap .i64 (a0 + 1)))))))) + 1))))))
  else (
    some (.v (.int .u64 ((IntKind.wrap .u64 a0)))))
theorem e_ref06_bare (F : Nat) (a0 : Int) : funL PP (S_ref06_bare F) c_ref06_bare (I_ref06_bare F) (J_ref06_bare F) 101 (fTs ti_ref06_bare [.i a0]).1 = f_ref06_bare F a0 := by
  have h : ∀ (_ : Unit), funL PP (words []) c_ref06_bare (tabI c_ref06_bare []) (tabJ []) 101 (fTs ti_ref06_bare [.i a0]).1 = (
  bif ((decide (a0 < 0))) then (
    some (.v (.int .u64 ((IntKind.wrap .u64 (((IntKind.wrap .u64 ((IntKind.wrap .i64 (0 - ((IntKind.wrap .i64 (a0 + 1)))))))) + 1))))))
  else (
    some (.v (.int .u64 ((IntKind.wrap .u64 a0))))) : R) := by
    intros
    kernel_rfl
  exact (h ()).trans (by kernel_rfl)
def ok_ref06_bare (F : Nat) (a0 : Int) : Bool := okT to_ref06_bare (f_ref06_bare F a0)
def o_ref06_bare_0 (F : Nat) (a0 : Int) : Int := atI (nth (outT to_ref06_bare (f_ref06_bare F a0)) 0)
theorem k_ref06_bare (F : Nat) (a0 : Int) {z0 : Int} (h : f_ref06_bare F a0 = some (.v (.int .u64 z0))) : ok_ref06_bare F a0 = true ∧ o_ref06_bare_0 F a0 = z0 := by
  refine ⟨?_, ?_⟩
  · unfold ok_ref06_bare; rw [h]; kernel_rfl
  · unfold o_ref06_bare_0; rw [h]; kernel_rfl
def s_ref06_bare (F : Nat) : List VV → Option (Bool × VV) := spec ti_ref06_bare to_ref06_bare (fun q => (ok_ref06_bare F (atI (nth q 0)))) (fun q => [.i (o_ref06_bare_0 F (atI (nth q 0)))])
theorem hS_ref06_bare (F : Nat) : ∀ f, Good PP f (unS (S_ref06_bare F f)) := words_good fun p hp => by
  cases hp
theorem hl_ref06_bare (F : Nat) : ∀ p ∈ loopsIn PP 101, LoopOK PP (S_ref06_bare F) c_ref06_bare F (I_ref06_bare F) (J_ref06_bare F) p :=
  loops_of [] (by kernel_rfl) all_nil
theorem hj_ref06_bare (F : Nat) : ∀ p ∈ joinsIn PP c_ref06_bare 101, JoinOK PP (S_ref06_bare F) c_ref06_bare (I_ref06_bare F) (J_ref06_bare F) p :=
  joins_of [] (by kernel_rfl) all_nil
theorem g_ref06_bare (F : Nat) : Good PP 101 (unS (s_ref06_bare F)) :=
  fun_spec (hS_ref06_bare F) (by kernel_rfl) (by kernel_rfl) (C := c_ref06_bare) (F := fun q => (f_ref06_bare F (atI (nth q 0)))) (fun _ => F) (fun _ => I_ref06_bare F) (fun _ => J_ref06_bare F) (fun _ => hl_ref06_bare F) (fun _ => hj_ref06_bare F)
    (fun q => (congrArg (funL PP (S_ref06_bare F) c_ref06_bare (I_ref06_bare F) (J_ref06_bare F) 101) (show (fTs ti_ref06_bare q).1 = (fTs ti_ref06_bare [.i (atI (nth q 0))]).1 by kernel_rfl)).trans (e_ref06_bare F (atI (nth q 0))))
    (fun _ h => (okT_fill h).trans (congrArg some (by kernel_rfl)))

end Go.Xv
set_option linter.unusedVariables false
namespace Go.Xv
/- 59 _ref06_Length -/
def c_ref06_Length : Cfg := ⟨[0, 1, 2, 3, 4, 5, 6, 10, 22, 29], [(0, [0, 1, 2, 3, 4, 5, 6, 7, 8, 23, 24, 25, 26, 27, 28, 29, 30, 31])], [17, 18], []⟩
def ti_ref06_Length : List TV := [.v (.agg [.int .i64, .int .i64, .int .i64])]
def to_ref06_Length : TV := .v (.tup [.int .i64, .bool])
def S_ref06_Length (F : Nat) : FuncId → List VV → Option (Bool × VV) := words [(101, s_ref06_bare F), (100, s_ref04_Square F), (30, s_ref01_Add F), (102, s_ref04_Wide F)]
def T_ref06_Length_0 : TS := ⟨[(0, .v (.agg [.int .i64, .int .i64, .int .i64])), (1, .lp 0 (.lit 0)), (2, .v (.int .i64)), (3, .v (.bool)), (4, .lp 1 (.lit 0)), (5, .v (.int .i64))], [(0, ⟨(.ex [.v (.int .i64), .v (.int .i64), .v (.int .i64)]), true⟩), (1, ⟨(.ex [.v (.int .i64), .v (.int .u64)]), true⟩)], 2⟩
def T_ref06_Length_0_0 : TS := ⟨[(0, .v (.agg [.int .i64, .int .i64, .int .i64])), (1, .lp 0 (.lit 0)), (2, .v (.int .i64)), (3, .v (.bool)), (4, .lp 1 (.lit 0)), (5, .v (.int .i64))], [(0, ⟨(.ex [.v (.int .i64), .v (.int .i64), .v (.int .i64)]), true⟩), (1, ⟨(.ex [.v (.int .i64), .v (.int .u64)]), true⟩)], 2⟩
def T_ref06_Length_0_1 : TS := ⟨[(0, .v (.agg [.int .i64, .int .i64, .int .i64])), (1, .lp 0 (.lit 0)), (2, .v (.int .i64)), (3, .v (.bool)), (4, .lp 1 (.lit 0)), (5, .v (.int .i64))], [(0, ⟨(.ex [.v (.int .i64), .v (.int .i64), .v (.int .i64)]), true⟩), (1, ⟨(.ex [.v (.int .i64), .v (.int .u64)]), true⟩)], 2⟩
def B_ref06_Length_0 (F : Nat) (rc : Int → Int → Int → Int → Bool → Int → Int → Int → Int → Int → Int → R) (ex0 : Int → Int → Int → Int → Bool → Int → Int → Int → Int → Int → Int → R) (ex1 : Int → Int → Int → Int → Bool → Int → Int → Int → Int → Int → Int → R) (x0 : Int) (x1 : Int) (x2 : Int) (x3 : Int) (x4 : Bool) (x5 : Int) (x6 : Int) (x7 : Int) (x8 : Int) (x9 : Int) (x10 : Int) : R :=
  bif ((decide (x5 < 3))) then (
    bif ((decide (0 ≤ x5)) && (decide (x5 < 3))) then (
      let v1890 : Nat := (0 + ((Int.toNat x5) * 1))
      bif ((isI .i64 [.v (.int .i64 x6), .v (.int .i64 x7), .v (.int .i64 x8)][v1890]?) && true) then (
        let v1891 : Int := (iv [.v (.int .i64 x6), .v (.int .i64 x7), .v (.int .i64 x8)][v1890]?)
        bif (ok_ref06_bare F v1891) then (
          let v1898 : Int := (o_ref06_bare_0 F v1891)
          bif (ok_ref04_Square F v1898) then (
            let v1933 : Int := (o_ref04_Square_0 F v1898)
            let v1934 : Int := (o_ref04_Square_1 F v1898)
            bif (ok_ref01_Add F x9 x10 v1933 v1934) then (
              let v1935 : Int := (o_ref01_Add_0 F x9 x10 v1933 v1934)
              let v1936 : Int := (o_ref01_Add_1 F x9 x10 v1933 v1934)
              bif ((decide (v1935 < 0))) then (
                ex0 x0 x1 x2 9223372036854775807 true x5 x6 x7 x8 v1935 v1936)
              else (
                rc x0 x1 x2 x3 x4 ((IntKind.wrap .i64 (x5 + 1))) x6 x7 x8 v1935 v1936))
            else (
              none))
          else (
            none))
        else (
          none))
      else (
        none))
    else (
      none))
  else (
    ex1 x0 x1 x2 x3 x4 x5 x6 x7 x8 x9 x10)
def L_ref06_Length_0 (F : Nat) (ex0 : Int → Int → Int → Int → Bool → Int → Int → Int → Int → Int → Int → R) (ex1 : Int → Int → Int → Int → Bool → Int → Int → Int → Int → Int → Int → R) : Nat → Int → Int → Int → Int → Bool → Int → Int → Int → Int → Int → Int → R
  | 0, _, _, _, _, _, _, _, _, _, _, _ => none
  | n + 1, x0, x1, x2, x3, x4, x5, x6, x7, x8, x9, x10 => B_ref06_Length_0 F (L_ref06_Length_0 F ex0 ex1 n) ex0 ex1 x0 x1 x2 x3 x4 x5 x6 x7 x8 x9 x10
def W_ref06_Length (F : Nat) : List LW := [⟨0, T_ref06_Length_0, fun k q => L_ref06_Length_0 F (fun (z0 : Int) (z1 : Int) (z2 : Int) (z3 : Int) (z4 : Bool) (z5 : Int) (z6 : Int) (z7 : Int) (z8 : Int) (z9 : Int) (z10 : Int) => k .ret (fS T_ref06_Length_0_0 [.i z0, .i z1, .i z2, .i z3, .b z4, .i z5, .i z6, .i z7, .i z8, .i z9, .i z10])) (fun (z0 : Int) (z1 : Int) (z2 : Int) (z3 : Int) (z4 : Bool) (z5 : Int) (z6 : Int) (z7 : Int) (z8 : Int) (z9 : Int) (z10 : Int) => k (.exit 0) (fS T_ref06_Length_0_1 [.i z0, .i z1, .i z2, .i z3, .b z4, .i z5, .i z6, .i z7, .i z8, .i z9, .i z10])) F (atI (nth q 0)) (atI (nth q 1)) (atI (nth q 2)) (atI (nth q 3)) (atB (nth q 4)) (atI (nth q 5)) (atI (nth q 6)) (atI (nth q 7)) (atI (nth q 8)) (atI (nth q 9)) (atI (nth q 10))⟩]
def I_ref06_Length (F : Nat) : Nat → VS → (Exit → VS → R) → R := tabI c_ref06_Length (W_ref06_Length F)
def WJ_ref06_Length (F : Nat) : List LJ := []
def J_ref06_Length (F : Nat) : Nat → Nat → VS → (Exit → VS → R) → R := tabJ (WJ_ref06_Length F)
theorem lL_ref06_Length_0 (F : Nat) (k : Exit → VS → R) : ∀ (n : Nat) (x0 : Int) (x1 : Int) (x2 : Int) (x3 : Int) (x4 : Bool) (x5 : Int) (x6 : Int) (x7 : Int) (x8 : Int) (x9 : Int) (x10 : Int), iterC (codeL PP (S_ref06_Length F) c_ref06_Length (I_ref06_Length F) (J_ref06_Length F) (loopAt PP 59 0) 0) (headOf c_ref06_Length 0) k n (fS T_ref06_Length_0 [.i x0, .i x1, .i x2, .i x3, .b x4, .i x5, .i x6, .i x7, .i x8, .i x9, .i x10]) = L_ref06_Length_0 F (fun (z0 : Int) (z1 : Int) (z2 : Int) (z3 : Int) (z4 : Bool) (z5 : Int) (z6 : Int) (z7 : Int) (z8 : Int) (z9 : Int) (z10 : Int) => k .ret (fS T_ref06_Length_0_0 [.i z0, .i z1, .i z2, .i z3, .b z4, .i z5, .i z6, .i z7, .i z8, .i z9, .i z10])) (fun (z0 : Int) (z1 : Int) (z2 : Int) (z3 : Int) (z4 : Bool) (z5 : Int) (z6 : Int) (z7 : Int) (z8 : Int) (z9 : Int) (z10 : Int) => k (.exit 0) (fS T_ref06_Length_0_1 [.i z0, .i z1, .i z2, .i z3, .b z4, .i z5, .i z6, .i z7, .i z8, .i z9, .i z10])) n x0 x1 x2 x3 x4 x5 x6 x7 x8 x9 x10
  | 0, _, _, _, _, _, _, _, _, _, _, _ => rfl
  | n + 1, x0, x1, x2, x3, x4, x5, x6, x7, x8, x9, x10 => by
    have h0 : ∀ (ok_ref06_bare : Nat → Int → Bool) (o_ref06_bare_0 : Nat → Int → Int) (ok_ref04_Square : Nat → Int → Bool) (o_ref04_Square_0 : Nat → Int → Int) (o_ref04_Square_1 : Nat → Int → Int) (ok_ref01_Add : Nat → Int → Int → Int → Int → Bool) (o_ref01_Add_0 : Nat → Int → Int → Int → Int → Int) (o_ref01_Add_1 : Nat → Int → Int → Int → Int → Int) (ok_ref04_Wide : Nat → Int → Int → Bool) (o_ref04_Wide_0 : Nat → Int → Int → Int) (o_ref04_Wide_1 : Nat → Int → Int → Bool) (L_ref06_Length_0 : Nat → (Int → Int → Int → Int → Bool → Int → Int → Int → Int → Int → Int → R) → (Int → Int → Int → Int → Bool → Int → Int → Int → Int → Int → Int → R) → Nat → Int → Int → Int → Int → Bool → Int → Int → Int → Int → Int → Int → R), iterC (codeL PP (words [(101, spec ti_ref06_bare to_ref06_bare (fun q => (ok_ref06_bare F (atI (nth q 0)))) (fun q => [.i (o_ref06_bare_0 F (atI (nth q 0)))])), (100, spec ti_ref04_Square to_ref04_Square (fun q => (ok_ref04_Square F (atI (nth q 0)))) (fun q => [.i (o_ref04_Square_0 F (atI (nth q 0))), .i (o_ref04_Square_1 F (atI (nth q 0)))])), (30, spec ti_ref01_Add to_ref01_Add (fun q => (ok_ref01_Add F (atI (nth q 0)) (atI (nth q 1)) (atI (nth q 2)) (atI (nth q 3)))) (fun q => [.i (o_ref01_Add_0 F (atI (nth q 0)) (atI (nth q 1)) (atI (nth q 2)) (atI (nth q 3))), .i (o_ref01_Add_1 F (atI (nth q 0)) (atI (nth q 1)) (atI (nth q 2)) (atI (nth q 3)))])), (102, spec ti_ref04_Wide to_ref04_Wide (fun q => (ok_ref04_Wide F (atI (nth q 0)) (atI (nth q 1)))) (fun q => [.i (o_ref04_Wide_0 F (atI (nth q 0)) (atI (nth q 1))), .b (o_ref04_Wide_1 F (atI (nth q 0)) (atI (nth q 1)))]))]) c_ref06_Length (tabI c_ref06_Length [⟨0, T_ref06_Length_0, fun k q => L_ref06_Length_0 F (fun (z0 : Int) (z1 : Int) (z2 : Int) (z3 : Int) (z4 : Bool) (z5 : Int) (z6 : Int) (z7 : Int) (z8 : Int) (z9 : Int) (z10 : Int) => k .ret (fS T_ref06_Length_0_0 [.i z0, .i z1, .i z2, .i z3, .b z4, .i z5, .i z6, .i z7, .i z8, .i z9, .i z10])) (fun (z0 : Int) (z1 : Int) (z2 : Int) (z3 : Int) (z4 : Bool) (z5 : Int) (z6 : Int) (z7 : Int) (z8 : Int) (z9 : Int) (z10 : Int) => k (.exit 0) (fS T_ref06_Length_0_1 [.i z0, .i z1, .i z2, .i z3, .b z4, .i z5, .i z6, .i z7, .i z8, .i z9, .i z10])) F (atI (nth q 0)) (atI (nth q 1)) (atI (nth q 2)) (atI (nth q 3)) (atB (nth q 4)) (atI (nth q 5)) (atI (nth q 6)) (atI (nth q 7)) (atI (nth q 8)) (atI (nth q 9)) (atI (nth q 10))⟩]) (tabJ []) (loopAt PP 59 0) 0) (headOf c_ref06_Length 0) k (n + 1) (fS T_ref06_Length_0 [.i x0, .i x1, .i x2, .i x3, .b x4, .i x5, .i x6, .i x7, .i x8, .i x9, .i x10]) = (fun (rc : Int → Int → Int → Int → Bool → Int → Int → Int → Int → Int → Int → R) (ex0 : Int → Int → Int → Int → Bool → Int → Int → Int → Int → Int → Int → R) (ex1 : Int → Int → Int → Int → Bool → Int → Int → Int → Int → Int → Int → R) (x0 : Int) (x1 : Int) (x2 : Int) (x3 : Int) (x4 : Bool) (x5 : Int) (x6 : Int) (x7 : Int) (x8 : Int) (x9 : Int) (x10 : Int) => (
  bif ((decide (x5 < 3))) then (
    bif ((decide (0 ≤ x5)) && (decide (x5 < 3))) then (
      let v1890 : Nat := (0 + ((Int.toNat x5) * 1))
      bif ((isI .i64 [.v (.int .i64 x6), .v (.int .i64 x7), .v (.int .i64 x8)][v1890]?) && true) then (
        let v1891 : Int := (iv [.v (.int .i64 x6), .v (.int .i64 x7), .v (.int .i64 x8)][v1890]?)
        bif (ok_ref06_bare F v1891) then (
          let v1898 : Int := (o_ref06_bare_0 F v1891)
          bif (ok_ref04_Square F v1898) then (
            let v1933 : Int := (o_ref04_Square_0 F v1898)
            let v1934 : Int := (o_ref04_Square_1 F v1898)
            bif (ok_ref01_Add F x9 x10 v1933 v1934) then (
              let v1935 : Int := (o_ref01_Add_0 F x9 x10 v1933 v1934)
              let v1936 : Int := (o_ref01_Add_1 F x9 x10 v1933 v1934)
              bif ((decide (v1935 < 0))) then (
                ex0 x0 x1 x2 9223372036854775807 true x5 x6 x7 x8 v1935 v1936)
              else (
                rc x0 x1 x2 x3 x4 ((IntKind.wrap .i64 (x5 + 1))) x6 x7 x8 v1935 v1936))
            else (
              none))
          else (
            none))
        else (
          none))
      else (
        none))
    else (
      none))
  else (
    ex1 x0 x1 x2 x3 x4 x5 x6 x7 x8 x9 x10) : R)) (fun (y0 : Int) (y1 : Int) (y2 : Int) (y3 : Int) (y4 : Bool) (y5 : Int) (y6 : Int) (y7 : Int) (y8 : Int) (y9 : Int) (y10 : Int) => iterC (codeL PP (words [(101, spec ti_ref06_bare to_ref06_bare (fun q => (ok_ref06_bare F (atI (nth q 0)))) (fun q => [.i (o_ref06_bare_0 F (atI (nth q 0)))])), (100, spec ti_ref04_Square to_ref04_Square (fun q => (ok_ref04_Square F (atI (nth q 0)))) (fun q => [.i (o_ref04_Square_0 F (atI (nth q 0))), .i (o_ref04_Square_1 F (atI (nth q 0)))])), (30, spec ti_ref01_Add to_ref01_Add (fun q => (ok_ref01_Add F (atI (nth q 0)) (atI (nth q 1)) (atI (nth q 2)) (atI (nth q 3)))) (fun q => [.i (o_ref01_Add_0 F (atI (nth q 0)) (atI (nth q 1)) (atI (nth q 2)) (atI (nth q 3))), .i (o_ref01_Add_1 F (atI (nth q 0)) (atI (nth q 1)) (atI (nth q 2)) (atI (nth q 3)))])), (102, spec ti_ref04_Wide to_ref04_Wide (fun q => (ok_ref04_Wide F (atI (nth q 0)) (atI (nth q 1)))) (fun q => [.i (o_ref04_Wide_0 F (atI (nth q 0)) (atI (nth q 1))), .b (o_ref04_Wide_1 F (atI (nth q 0)) (atI (nth q 1)))]))]) c_ref06_Length (tabI c_ref06_Length [⟨0, T_ref06_Length_0, fun k q => L_ref06_Length_0 F (fun (z0 : Int) (z1 : Int) (z2 : Int) (z3 : Int) (z4 : Bool) (z5 : Int) (z6 : Int) (z7 : Int) (z8 : Int) (z9 : Int) (z10 : Int) => k .ret (fS T_ref06_Length_0_0 [.i z0, .i z1, .i z2, .i z3, .b z4, .i z5, .i z6, .i z7, .i z8, .i z9, .i z10])) (fun (z0 : Int) (z1 : Int) (z2 : Int) (z3 : Int) (z4 : Bool) (z5 : Int) (z6 : Int) (z7 : Int) (z8 : Int) (z9 : Int) (z10 : Int) => k (.exit 0) (fS T_ref06_Length_0_1 [.i z0, .i z1, .i z2, .i z3, .b z4, .i z5, .i z6, .i z7, .i z8, .i z9, .i z10])) F (atI (nth q 0)) (atI (nth q 1)) (atI (nth q 2)) (atI (nth q 3)) (atB (nth q 4)) (atI (nth q 5)) (atI (nth q 6)) (atI (nth q 7)) (atI (nth q 8)) (atI (nth q 9)) (atI (nth q 10))⟩]) (tabJ []) (loopAt PP 59 0) 0) (headOf c_ref06_Length 0) k n (fS T_ref06_Length_0 [.i y0, .i y1, .i y2, .i y3, .b y4, .i y5, .i y6, .i y7, .i y8, .i y9, .i y10])) (fun (z0 : Int) (z1 : Int) (z2 : Int) (z3 : Int) (z4 : Bool) (z5 : Int) (z6 : Int) (z7 : Int) (z8 : Int) (z9 : Int) (z10 : Int) => k .ret (fS T_ref06_Length_0_0 [.i z0, .i z1, .i z2, .i z3, .b z4, .i z5, .i z6, .i z7, .i z8, .i z9, .i z10])) (fun (z0 : Int) (z1 : Int) (z2 : Int) (z3 : Int) (z4 : Bool) (z5 : Int) (z6 : Int) (z7 : Int) (z8 : Int) (z9 : Int) (z10 : Int) => k (.exit 0) (fS T_ref06_Length_0_1 [.i z0, .i z1, .i z2, .i z3, .b z4, .i z5, .i z6, .i z7, .i z8, .i z9, .i z10])) x0 x1 x2 x3 x4 x5 x6 x7 x8 x9 x10 := by
      intros
      kernel_rfl
    have h : iterC (codeL PP (S_ref06_Length F) c_ref06_Length (I_ref06_Length F) (J_ref06_Length F) (loopAt PP 59 0) 0) (headOf c_ref06_Length 0) k (n + 1) (fS T_ref06_Length_0 [.i x0, .i x1, .i x2, .i x3, .b x4, .i x5, .i x6, .i x7, .i x8, .i x9, .i x10]) = B_ref06_Length_0 F (fun (y0 : Int) (y1 : Int) (y2 : Int) (y3 : Int) (y4 : Bool) (y5 : Int) (y6 : Int) (y7 : Int) (y8 : Int) (y9 : Int) (y10 : Int) => iterC (codeL PP (S_ref06_Length F) c_ref06_Length (I_ref06_Length F) (J_ref06_Length F) (loopAt PP 59 0) 0) (headOf c_ref06_Length 0) k n (fS T_ref06_Length_0 [.i y0, .i y1, .i y2, .i y3, .b y4, .i y5, .i y6, .i y7, .i y8, .i y9, .i y10])) (fun (z0 : Int) (z1 : Int) (z2 : Int) (z3 : Int) (z4 : Bool) (z5 : Int) (z6 : Int) (z7 : Int) (z8 : Int) (z9 : Int) (z10 : Int) => k .ret (fS T_ref06_Length_0_0 [.i z0, .i z1, .i z2, .i z3, .b z4, .i z5, .i z6, .i z7, .i z8, .i z9, .i z10])) (fun (z0 : Int) (z1 : Int) (z2 : Int) (z3 : Int) (z4 : Bool) (z5 : Int) (z6 : Int) (z7 : Int) (z8 : Int) (z9 : Int) (z10 : Int) => k (.exit 0) (fS T_ref06_Length_0_1 [.i z0, .i z1, .i z2, .i z3, .b z4, .i z5, .i z6, .i z7, .i z8, .i z9, .i z10])) x0 x1 x2 x3 x4 x5 x6 x7 x8 x9 x10 := (h0 ok_ref06_bare o_ref06_bare_0 ok_ref04_Square o_ref04_Square_0 o_ref04_Square_1 ok_ref01_Add o_ref01_Add_0 o_ref01_Add_1 ok_ref04_Wide o_ref04_Wide_0 o_ref04_Wide_1 L_ref06_Length_0).trans (by kernel_rfl)
    rw [h]
    simp only [lL_ref06_Length_0 F k n]
    rfl
def f_ref06_Length (F : Nat) (a0 : Int) (a1 : Int) (a2 : Int) : R :=
  L_ref06_Length_0 F (fun (v1939 : Int) (v1940 : Int) (v1941 : Int) (v1942 : Int) (v1943 : Bool) (v1944 : Int) (v1945 : Int) (v1946 : Int) (v1947 : Int) (v1948 : Int) (v1949 : Int) =>
    some (.v (.tuple #[.int .i64 v1942, .bool v1943]))) (fun (v1950 : Int) (v1951 : Int) (v1952 : Int) (v1953 : Int) (v1954 : Bool) (v1955 : Int) (v1956 : Int) (v1957 : Int) (v1958 : Int) (v1959 : Int) (v1960 : Int) =>
    bif (ok_ref04_Wide F v1959 v1960) then (
      let v1994 : Int := (o_ref04_Wide_0 F v1959 v1960)
      bif ((decide (v1994 > 9223372036854775807))) then (
        some (.v (.tuple #[.int .i64 9223372036854775807, .bool true])))
      else (
        some (.v (.tuple #[.int .i64 ((IntKind.wrap .i64 v1994)), .bool false]))))
    else (
      none)) F a0 a1 a2 0 false 0 a0 a1 a2 0 0
theorem e_ref06_Length (F : Nat) (a0 : Int) (a1 : Int) (a2 : Int) : funL PP (S_ref06_Length F) c_ref06_Length (I_ref06_Length F) (J_ref06_Length F) 59 (fTs ti_ref06_Length [.i a0, .i a1, .i a2]).1 = f_ref06_Length F a0 a1 a2 := by
  have h : ∀ (ok_ref06_bare : Nat → Int → Bool) (o_ref06_bare_0 : Nat → Int → Int) (ok_ref04_Square : Nat → Int → Bool) (o_ref04_Square_0 : Nat → Int → Int) (o_ref04_Square_1 : Nat → Int → Int) (ok_ref01_Add : Nat → Int → Int → Int → Int → Bool) (o_ref01_Add_0 : Nat → Int → Int → Int → Int → Int) (o_ref01_Add_1 : Nat → Int → Int → Int → Int → Int) (ok_ref04_Wide : Nat → Int → Int → Bool) (o_ref04_Wide_0 : Nat → Int → Int → Int) (o_ref04_Wide_1 : Nat → Int → Int → Bool) (L_ref06_Length_0 : Nat → (Int → Int → Int → Int → Bool → Int → Int → Int → Int → Int → Int → R) → (Int → Int → Int → Int → Bool → Int → Int → Int → Int → Int → Int → R) → Nat → Int → Int → Int → Int → Bool → Int → Int → Int → Int → Int → Int → R), funL PP (words [(101, spec ti_ref06_bare to_ref06_bare (fun q => (ok_ref06_bare F (atI (nth q 0)))) (fun q => [.i (o_ref06_bare_0 F (atI (nth q 0)))])), (100, spec ti_ref04_Square to_ref04_Square (fun q => (ok_ref04_Square F (atI (nth q 0)))) (fun q => [.i (o_ref04_Square_0 F (atI (nth q 0))), .i (o_ref04_Square_1 F (atI (nth q 0)))])), (30, spec ti_ref01_Add to_ref01_Add (fun q => (ok_ref01_Add F (atI (nth q 0)) (atI (nth q 1)) (atI (nth q 2)) (atI (nth q 3)))) (fun q => [.i (o_ref01_Add_0 F (atI (nth q 0)) (atI (nth q 1)) (atI (nth q 2)) (atI (nth q 3))), .i (o_ref01_Add_1 F (atI (nth q 0)) (atI (nth q 1)) (atI (nth q 2)) (atI (nth q 3)))])), (102, spec ti_ref04_Wide to_ref04_Wide (fun q => (ok_ref04_Wide F (atI (nth q 0)) (atI (nth q 1)))) (fun q => [.i (o_ref04_Wide_0 F (atI (nth q 0)) (atI (nth q 1))), .b (o_ref04_Wide_1 F (atI (nth q 0)) (atI (nth q 1)))]))]) c_ref06_Length (tabI c_ref06_Length [⟨0, T_ref06_Length_0, fun k q => L_ref06_Length_0 F (fun (z0 : Int) (z1 : Int) (z2 : Int) (z3 : Int) (z4 : Bool) (z5 : Int) (z6 : Int) (z7 : Int) (z8 : Int) (z9 : Int) (z10 : Int) => k .ret (fS T_ref06_Length_0_0 [.i z0, .i z1, .i z2, .i z3, .b z4, .i z5, .i z6, .i z7, .i z8, .i z9, .i z10])) (fun (z0 : Int) (z1 : Int) (z2 : Int) (z3 : Int) (z4 : Bool) (z5 : Int) (z6 : Int) (z7 : Int) (z8 : Int) (z9 : Int) (z10 : Int) => k (.exit 0) (fS T_ref06_Length_0_1 [.i z0, .i z1, .i z2, .i z3, .b z4, .i z5, .i z6, .i z7, .i z8, .i z9, .i z10])) F (atI (nth q 0)) (atI (nth q 1)) (atI (nth q 2)) (atI (nth q 3)) (atB (nth q 4)) (atI (nth q 5)) (atI (nth q 6)) (atI (nth q 7)) (atI (nth q 8)) (atI (nth q 9)) (atI (nth q 10))⟩]) (tabJ []) 59 (fTs ti_ref06_Length [.i a0, .i a1, .i a2]).1 = (
  L_ref06_Length_0 F (fun (v1939 : Int) (v1940 : Int) (v1941 : Int) (v1942 : Int) (v1943 : Bool) (v1944 : Int) (v1945 : Int) (v1946 : Int) (v1947 : Int) (v1948 : Int) (v1949 : Int) =>
    some (.v (.tuple #[.int .i64 v1942, .bool v1943]))) (fun (v1950 : Int) (v1951 : Int) (v1952 : Int) (v1953 : Int) (v1954 : Bool) (v1955 : Int) (v1956 : Int) (v1957 : Int) (v1958 : Int) (v1959 : Int) (v1960 : Int) =>
    bif (ok_ref04_Wide F v1959 v1960) then (
      let v1994 : Int := (o_ref04_Wide_0 F v1959 v1960)
      bif ((decide (v1994 > 9223372036854775807))) then (
        some (.v (.tuple #[.int .i64 9223372036854775807, .bool true])))
      else (
        some (.v (.tuple #[.int .i64 ((IntKind.wrap .i64 v1994)), .bool false]))))
    else (
      none)) F a0 a1 a2 0 false 0 a0 a1 a2 0 0 : R) := by
    intros
    kernel_rfl
  exact (h ok_ref06_bare o_ref06_bare_0 ok_ref04_Square o_ref04_Square_0 o_ref04_Square_1 ok_ref01_Add o_ref01_Add_0 o_ref01_Add_1 ok_ref04_Wide o_ref04_Wide_0 o_ref04_Wide_1 L_ref06_Length_0).trans (by kernel_rfl)
def ok_ref06_Length (F : Nat) (a0 : Int) (a1 : Int) (a2 : Int) : Bool := okT to_ref06_Length (f_ref06_Length F a0 a1 a2)
def o_ref06_Length_0 (F : Nat) (a0 : Int) (a1 : Int) (a2 : Int) : Int := atI (nth (outT to_ref06_Length (f_ref06_Length F a0 a1 a2)) 0)
def o_ref06_Length_1 (F : Nat) (a0 : Int) (a1 : Int) (a2 : Int) : Bool := atB (nth (outT to_ref06_Length (f_ref06_Length F a0 a1 a2)) 1)
theorem k_ref06_Length (F : Nat) (a0 : Int) (a1 : Int) (a2 : Int) {z0 : Int} {z1 : Bool} (h : f_ref06_Length F a0 a1 a2 = some (.v (.tuple #[.int .i64 z0, .bool z1]))) : ok_ref06_Length F a0 a1 a2 = true ∧ o_ref06_Length_0 F a0 a1 a2 = z0 ∧ o_ref06_Length_1 F a0 a1 a2 = z1 := by
  refine ⟨?_, ?_, ?_⟩
  · unfold ok_ref06_Length; rw [h]; kernel_rfl
  · unfold o_ref06_Length_0; rw [h]; kernel_rfl
  · unfold o_ref06_Length_1; rw [h]; kernel_rfl
def s_ref06_Length (F : Nat) : List VV → Option (Bool × VV) := spec ti_ref06_Length to_ref06_Length (fun q => (ok_ref06_Length F (atI (nth q 0)) (atI (nth q 1)) (atI (nth q 2)))) (fun q => [.i (o_ref06_Length_0 F (atI (nth q 0)) (atI (nth q 1)) (atI (nth q 2))), .b (o_ref06_Length_1 F (atI (nth q 0)) (atI (nth q 1)) (atI (nth q 2)))])
theorem hS_ref06_Length (F : Nat) : ∀ f, Good PP f (unS (S_ref06_Length F f)) := words_good fun p hp => by
  simp only [List.mem_cons, List.not_mem_nil, or_false] at hp
  rcases hp with rfl | rfl | rfl | rfl
  · exact g_ref06_bare F
  · exact g_ref04_Square F
  · exact g_ref01_Add F
  · exact g_ref04_Wide F
theorem hl_ref06_Length (F : Nat) : ∀ p ∈ loopsIn PP 59, LoopOK PP (S_ref06_Length F) c_ref06_Length F (I_ref06_Length F) (J_ref06_Length F) p :=
  loops_of [(0, loopAt PP 59 0)] (by kernel_rfl) (all_cons
    (loop_ok (W_ref06_Length F) rfl (tab_cons (fun _ k q => Le.ofEq ((lL_ref06_Length_0 F k F (atI (nth q 0)) (atI (nth q 1)) (atI (nth q 2)) (atI (nth q 3)) (atB (nth q 4)) (atI (nth q 5)) (atI (nth q 6)) (atI (nth q 7)) (atI (nth q 8)) (atI (nth q 9)) (atI (nth q 10))).symm.trans (congrArg (iterC (codeL PP (S_ref06_Length F) c_ref06_Length (I_ref06_Length F) (J_ref06_Length F) (loopAt PP 59 0) 0) (headOf c_ref06_Length 0) k F) (show fS T_ref06_Length_0 [.i (atI (nth q 0)), .i (atI (nth q 1)), .i (atI (nth q 2)), .i (atI (nth q 3)), .b (atB (nth q 4)), .i (atI (nth q 5)), .i (atI (nth q 6)), .i (atI (nth q 7)), .i (atI (nth q 8)), .i (atI (nth q 9)), .i (atI (nth q 10))] = fS T_ref06_Length_0 q by kernel_rfl)))) tab_nil)) all_nil)
theorem hj_ref06_Length (F : Nat) : ∀ p ∈ joinsIn PP c_ref06_Length 59, JoinOK PP (S_ref06_Length F) c_ref06_Length (I_ref06_Length F) (J_ref06_Length F) p :=
  joins_of [] (by kernel_rfl) all_nil
theorem g_ref06_Length (F : Nat) : Good PP 59 (unS (s_ref06_Length F)) :=
  fun_spec (hS_ref06_Length F) (by kernel_rfl) (by kernel_rfl) (C := c_ref06_Length) (F := fun q => (f_ref06_Length F (atI (nth q 0)) (atI (nth q 1)) (atI (nth q 2)))) (fun _ => F) (fun _ => I_ref06_Length F) (fun _ => J_ref06_Length F) (fun _ => hl_ref06_Length F) (fun _ => hj_ref06_Length F)
    (fun q => (congrArg (funL PP (S_ref06_Length F) c_ref06_Length (I_ref06_Length F) (J_ref06_Length F) 59) (show (fTs ti_ref06_Length q).1 = (fTs ti_ref06_Length [.i (atI (nth q 0)), .i (atI (nth q 1)), .i (atI (nth q 2))]).1 by kernel_rfl)).trans (e_ref06_Length F (atI (nth q 0)) (atI (nth q 1)) (atI (nth q 2))))
    (fun _ h => (okT_fill h).trans (congrArg some (by kernel_rfl)))

end Go.Xv
set_option linter.unusedVariables false
namespace Go.Xv
/- 24 _vec_Greatest -/
def c_vec_Greatest : Cfg := ⟨[0, 1, 2, 3, 5, 6, 7, 8], [(0, [0, 1, 2, 3, 6, 7, 15, 16, 17])], [], []⟩
def ti_vec_Greatest : List TV := [.v (.agg [.int .i64, .int .i64, .int .i64])]
def to_vec_Greatest : TV := .v (.int .i64)
def S_vec_Greatest (F : Nat) : FuncId → List VV → Option (Bool × VV) := words [(73, s_vec_bare F)]
def T_vec_Greatest_0 : TS := ⟨[(0, .v (.agg [.int .i64, .int .i64, .int .i64])), (1, .lp 0 (.lit 0)), (2, .v (.int .i64)), (3, .v (.int .u64)), (6, .v (.agg [.int .i64, .int .i64, .int .i64])), (7, .v (.int .i64))], [(0, ⟨(.ex [.v (.int .i64), .v (.int .i64), .v (.int .i64)]), true⟩)], 1⟩
def T_vec_Greatest_0_0 : TS := ⟨[(0, .v (.agg [.int .i64, .int .i64, .int .i64])), (1, .lp 0 (.lit 0)), (2, .v (.int .i64)), (3, .v (.int .u64)), (6, .v (.agg [.int .i64, .int .i64, .int .i64])), (7, .v (.int .i64))], [(0, ⟨(.ex [.v (.int .i64), .v (.int .i64), .v (.int .i64)]), true⟩)], 1⟩
def B_vec_Greatest_0 (F : Nat) (rc : Int → Int → Int → Int → Int → Int → Int → Int → Int → Int → Int → Int → R) (ex0 : Int → Int → Int → Int → Int → Int → Int → Int → Int → Int → Int → Int → R) (x0 : Int) (x1 : Int) (x2 : Int) (x3 : Int) (x4 : Int) (x5 : Int) (x6 : Int) (x7 : Int) (x8 : Int) (x9 : Int) (x10 : Int) (x11 : Int) : R :=
  bif ((decide (x8 < 3))) then (
    bif (((decide (0 ≤ x8)) && (decide (x8 < 3))) && ((isI .i64 [.v (.int .i64 x5), .v (.int .i64 x6), .v (.int .i64 x7)][((Int.toNat x8) * 1)]?) && true)) then (
      let v1447 : Int := (iv [.v (.int .i64 x5), .v (.int .i64 x6), .v (.int .i64 x7)][((Int.toNat x8) * 1)]?)
      bif (ok_vec_bare F v1447) then (
        let v1448 : Int := (o_vec_bare_0 F v1447)
        rc x0 x1 x2 x3 ((if v1448 > x4 then v1448 else x4)) x5 x6 x7 ((IntKind.wrap .i64 (x8 + 1))) x9 x10 x11)
      else (
        none))
    else (
      none))
  else (
    ex0 x0 x1 x2 x3 x4 x5 x6 x7 x8 x9 x10 x11)
def L_vec_Greatest_0 (F : Nat) (ex0 : Int → Int → Int → Int → Int → Int → Int → Int → Int → Int → Int → Int → R) : Nat → Int → Int → Int → Int → Int → Int → Int → Int → Int → Int → Int → Int → R
  | 0, _, _, _, _, _, _, _, _, _, _, _, _ => none
  | n + 1, x0, x1, x2, x3, x4, x5, x6, x7, x8, x9, x10, x11 => B_vec_Greatest_0 F (L_vec_Greatest_0 F ex0 n) ex0 x0 x1 x2 x3 x4 x5 x6 x7 x8 x9 x10 x11
def W_vec_Greatest (F : Nat) : List LW := [⟨0, T_vec_Greatest_0, fun k q => L_vec_Greatest_0 F (fun (z0 : Int) (z1 : Int) (z2 : Int) (z3 : Int) (z4 : Int) (z5 : Int) (z6 : Int) (z7 : Int) (z8 : Int) (z9 : Int) (z10 : Int) (z11 : Int) => k (.exit 0) (fS T_vec_Greatest_0_0 [.i z0, .i z1, .i z2, .i z3, .i z4, .i z5, .i z6, .i z7, .i z8, .i z9, .i z10, .i z11])) F (atI (nth q 0)) (atI (nth q 1)) (atI (nth q 2)) (atI (nth q 3)) (atI (nth q 4)) (atI (nth q 5)) (atI (nth q 6)) (atI (nth q 7)) (atI (nth q 8)) (atI (nth q 9)) (atI (nth q 10)) (atI (nth q 11))⟩]
def I_vec_Greatest (F : Nat) : Nat → VS → (Exit → VS → R) → R := tabI c_vec_Greatest (W_vec_Greatest F)
def WJ_vec_Greatest (F : Nat) : List LJ := []
def J_vec_Greatest (F : Nat) : Nat → Nat → VS → (Exit → VS → R) → R := tabJ (WJ_vec_Greatest F)
theorem lL_vec_Greatest_0 (F : Nat) (k : Exit → VS → R) : ∀ (n : Nat) (x0 : Int) (x1 : Int) (x2 : Int) (x3 : Int) (x4 : Int) (x5 : Int) (x6 : Int) (x7 : Int) (x8 : Int) (x9 : Int) (x10 : Int) (x11 : Int), iterC (codeL PP (S_vec_Greatest F) c_vec_Greatest (I_vec_Greatest F) (J_vec_Greatest F) (loopAt PP 24 0) 0) (headOf c_vec_Greatest 0) k n (fS T_vec_Greatest_0 [.i x0, .i x1, .i x2, .i x3, .i x4, .i x5, .i x6, .i x7, .i x8, .i x9, .i x10, .i x11]) = L_vec_Greatest_0 F (fun (z0 : Int) (z1 : Int) (z2 : Int) (z3 : Int) (z4 : Int) (z5 : Int) (z6 : Int) (z7 : Int) (z8 : Int) (z9 : Int) (z10 : Int) (z11 : Int) => k (.exit 0) (fS T_vec_Greatest_0_0 [.i z0, .i z1, .i z2, .i z3, .i z4, .i z5, .i z6, .i z7, .i z8, .i z9, .i z10, .i z11])) n x0 x1 x2 x3 x4 x5 x6 x7 x8 x9 x10 x11
  | 0, _, _, _, _, _, _, _, _, _, _, _, _ => rfl
  | n + 1, x0, x1, x2, x3, x4, x5, x6, x7, x8, x9, x10, x11 => by
    have h0 : ∀ (ok_vec_bare : Nat → Int → Bool) (o_vec_bare_0 : Nat → Int → Int) (L_vec_Greatest_0 : Nat → (Int → Int → Int → Int → Int → Int → Int → Int → Int → Int → Int → Int → R) → Nat → Int → Int → Int → Int → Int → Int → Int → Int → Int → Int → Int → Int → R), iterC (codeL PP (words [(73, spec ti_vec_bare to_vec_bare (fun q => (ok_vec_bare F (atI (nth q 0)))) (fun q => [.i (o_vec_bare_0 F (atI (nth q 0)))]))]) c_vec_Greatest (tabI c_vec_Greatest [⟨0, T_vec_Greatest_0, fun k q => L_vec_Greatest_0 F (fun (z0 : Int) (z1 : Int) (z2 : Int) (z3 : Int) (z4 : Int) (z5 : Int) (z6 : Int) (z7 : Int) (z8 : Int) (z9 : Int) (z10 : Int) (z11 : Int) => k (.exit 0) (fS T_vec_Greatest_0_0 [.i z0, .i z1, .i z2, .i z3, .i z4, .i z5, .i z6, .i z7, .i z8, .i z9, .i z10, .i z11])) F (atI (nth q 0)) (atI (nth q 1)) (atI (nth q 2)) (atI (nth q 3)) (atI (nth q 4)) (atI (nth q 5)) (atI (nth q 6)) (atI (nth q 7)) (atI (nth q 8)) (atI (nth q 9)) (atI (nth q 10)) (atI (nth q 11))⟩]) (tabJ []) (loopAt PP 24 0) 0) (headOf c_vec_Greatest 0) k (n + 1) (fS T_vec_Greatest_0 [.i x0, .i x1, .i x2, .i x3, .i x4, .i x5, .i x6, .i x7, .i x8, .i x9, .i x10, .i x11]) = (fun (rc : Int → Int → Int → Int → Int → Int → Int → Int → Int → Int → Int → Int → R) (ex0 : Int → Int → Int → Int → Int → Int → Int → Int → Int → Int → Int → Int → R) (x0 : Int) (x1 : Int) (x2 : Int) (x3 : Int) (x4 : Int) (x5 : Int) (x6 : Int) (x7 : Int) (x8 : Int) (x9 : Int) (x10 : Int) (x11 : Int) => (
  bif ((decide (x8 < 3))) then (
    bif (((decide (0 ≤ x8)) && (decide (x8 < 3))) && ((isI .i64 [.v (.int .i64 x5), .v (.int .i64 x6), .v (.int .i64 x7)][((Int.toNat x8) * 1)]?) && true)) then (
      let v1447 : Int := (iv [.v (.int .i64 x5), .v (.int .i64 x6), .v (.int .i64 x7)][((Int.toNat x8) * 1)]?)
      bif (ok_vec_bare F v1447) then (
        let v1448 : Int := (o_vec_bare_0 F v1447)
        rc x0 x1 x2 x3 ((if v1448 > x4 then v1448 else x4)) x5 x6 x7 ((IntKind.wrap .i64 (x8 + 1))) x9 x10 x11)
      else (
        none))
    else (
      none))
  else (
    ex0 x0 x1 x2 x3 x4 x5 x6 x7 x8 x9 x10 x11) : R)) (fun (y0 : Int) (y1 : Int) (y2 : Int) (y3 : Int) (y4 : Int) (y5 : Int) (y6 : Int) (y7 : Int) (y8 : Int) (y9 : Int) (y10 : Int) (y11 : Int) => iterC (codeL PP (words [(73, spec ti_vec_bare to_vec_bare (fun q => (ok_vec_bare F (atI (nth q 0)))) (fun q => [.i (o_vec_bare_0 F (atI (nth q 0)))]))]) c_vec_Greatest (tabI c_vec_Greatest [⟨0, T_vec_Greatest_0, fun k q => L_vec_Greatest_0 F (fun (z0 : Int) (z1 : Int) (z2 : Int) (z3 : Int) (z4 : Int) (z5 : Int) (z6 : Int) (z7 : Int) (z8 : Int) (z9 : Int) (z10 : Int) (z11 : Int) => k (.exit 0) (fS T_vec_Greatest_0_0 [.i z0, .i z1, .i z2, .i z3, .i z4, .i z5, .i z6, .i z7, .i z8, .i z9, .i z10, .i z11])) F (atI (nth q 0)) (atI (nth q 1)) (atI (nth q 2)) (atI (nth q 3)) (atI (nth q 4)) (atI (nth q 5)) (atI (nth q 6)) (atI (nth q 7)) (atI (nth q 8)) (atI (nth q 9)) (atI (nth q 10)) (atI (nth q 11))⟩]) (tabJ []) (loopAt PP 24 0) 0) (headOf c_vec_Greatest 0) k n (fS T_vec_Greatest_0 [.i y0, .i y1, .i y2, .i y3, .i y4, .i y5, .i y6, .i y7, .i y8, .i y9, .i y10, .i y11])) (fun (z0 : Int) (z1 : Int) (z2 : Int) (z3 : Int) (z4 : Int) (z5 : Int) (z6 : Int) (z7 : Int) (z8 : Int) (z9 : Int) (z10 : Int) (z11 : Int) => k (.exit 0) (fS T_vec_Greatest_0_0 [.i z0, .i z1, .i z2, .i z3, .i z4, .i z5, .i z6, .i z7, .i z8, .i z9, .i z10, .i z11])) x0 x1 x2 x3 x4 x5 x6 x7 x8 x9 x10 x11 := by
      intros
      kernel_rfl
    have h : iterC (codeL PP (S_vec_Greatest F) c_vec_Greatest (I_vec_Greatest F) (J_vec_Greatest F) (loopAt PP 24 0) 0) (headOf c_vec_Greatest 0) k (n + 1) (fS T_vec_Greatest_0 [.i x0, .i x1, .i x2, .i x3, .i x4, .i x5, .i x6, .i x7, .i x8, .i x9, .i x10, .i x11]) = B_vec_Greatest_0 F (fun (y0 : Int) (y1 : Int) (y2 : Int) (y3 : Int) (y4 : Int) (y5 : Int) (y6 : Int) (y7 : Int) (y8 : Int) (y9 : Int) (y10 : Int) (y11 : Int) => iterC (codeL PP (S_vec_Greatest F) c_vec_Greatest (I_vec_Greatest F) (J_vec_Greatest F) (loopAt PP 24 0) 0) (headOf c_vec_Greatest 0) k n (fS T_vec_Greatest_0 [.i y0, .i y1, .i y2, .i y3, .i y4, .i y5, .i y6, .i y7, .i y8, .i y9, .i y10, .i y11])) (fun (z0 : Int) (z1 : Int) (z2 : Int) (z3 : Int) (z4 : Int) (z5 : Int) (z6 : Int) (z7 : Int) (z8 : Int) (z9 : Int) (z10 : Int) (z11 : Int) => k (.exit 0) (fS T_vec_Greatest_0_0 [.i z0, .i z1, .i z2, .i z3, .i z4, .i z5, .i z6, .i z7, .i z8, .i z9, .i z10, .i z11])) x0 x1 x2 x3 x4 x5 x6 x7 x8 x9 x10 x11 := (h0 ok_vec_bare o_vec_bare_0 L_vec_Greatest_0).trans (by kernel_rfl)
    rw [h]
    simp only [lL_vec_Greatest_0 F k n]
    rfl
def f_vec_Greatest (F : Nat) (a0 : Int) (a1 : Int) (a2 : Int) : R :=
  L_vec_Greatest_0 F (fun (v1451 : Int) (v1452 : Int) (v1453 : Int) (v1454 : Int) (v1455 : Int) (v1456 : Int) (v1457 : Int) (v1458 : Int) (v1459 : Int) (v1460 : Int) (v1461 : Int) (v1462 : Int) =>
    some (.v (.int .i64 ((IntKind.wrap .i64 ((if 9223372036854775807 < v1455 then 9223372036854775807 else v1455))))))) F a0 a1 a2 0 0 a0 a1 a2 0 a0 a1 a2
theorem e_vec_Greatest (F : Nat) (a0 : Int) (a1 : Int) (a2 : Int) : funL PP (S_vec_Greatest F) c_vec_Greatest (I_vec_Greatest F) (J_vec_Greatest F) 24 (fTs ti_vec_Greatest [.i a0, .i a1, .i a2]).1 = f_vec_Greatest F a0 a1 a2 := by
  have h : ∀ (ok_vec_bare : Nat → Int → Bool) (o_vec_bare_0 : Nat → Int → Int) (L_vec_Greatest_0 : Nat → (Int → Int → Int → Int → Int → Int → Int → Int → Int → Int → Int → Int → R) → Nat → Int → Int → Int → Int → Int → Int → Int → Int → Int → Int → Int → Int → R), funL PP (words [(73, spec ti_vec_bare to_vec_bare (fun q => (ok_vec_bare F (atI (nth q 0)))) (fun q => [.i (o_vec_bare_0 F (atI (nth q 0)))]))]) c_vec_Greatest (tabI c_vec_Greatest [⟨0, T_vec_Greatest_0, fun k q => L_vec_Greatest_0 F (fun (z0 : Int) (z1 : Int) (z2 : Int) (z3 : Int) (z4 : Int) (z5 : Int) (z6 : Int) (z7 : Int) (z8 : Int) (z9 : Int) (z10 : Int) (z11 : Int) => k (.exit 0) (fS T_vec_Greatest_0_0 [.i z0, .i z1, .i z2, .i z3, .i z4, .i z5, .i z6, .i z7, .i z8, .i z9, .i z10, .i z11])) F (atI (nth q 0)) (atI (nth q 1)) (atI (nth q 2)) (atI (nth q 3)) (atI (nth q 4)) (atI (nth q 5)) (atI (nth q 6)) (atI (nth q 7)) (atI (nth q 8)) (atI (nth q 9)) (atI (nth q 10)) (atI (nth q 11))⟩]) (tabJ []) 24 (fTs ti_vec_Greatest [.i a0, .i a1, .i a2]).1 = (
  L_vec_Greatest_0 F (fun (v1451 : Int) (v1452 : Int) (v1453 : Int) (v1454 : Int) (v1455 : Int) (v1456 : Int) (v1457 : Int) (v1458 : Int) (v1459 : Int) (v1460 : Int) (v1461 : Int) (v1462 : Int) =>
    some (.v (.int .i64 ((IntKind.wrap .i64 ((if 9223372036854775807 < v1455 then 9223372036854775807 else v1455))))))) F a0 a1 a2 0 0 a0 a1 a2 0 a0 a1 a2 : R) := by
    intros
    kernel_rfl
  exact (h ok_vec_bare o_vec_bare_0 L_vec_Greatest_0).trans (by kernel_rfl)
def ok_vec_Greatest (F : Nat) (a0 : Int) (a1 : Int) (a2 : Int) : Bool := okT to_vec_Greatest (f_vec_Greatest F a0 a1 a2)
def o_vec_Greatest_0 (F : Nat) (a0 : Int) (a1 : Int) (a2 : Int) : Int := atI (nth (outT to_vec_Greatest (f_vec_Greatest F a0 a1 a2)) 0)
theorem k_vec_Greatest (F : Nat) (a0 : Int) (a1 : Int) (a2 : Int) {z0 : Int} (h : f_vec_Greatest F a0 a1 a2 = some (.v (.int .i64 z0))) : ok_vec_Greatest F a0 a1 a2 = true ∧ o_vec_Greatest_0 F a0 a1 a2 = z0 := by
  refine ⟨?_, ?_⟩
  · unfold ok_vec_Greatest; rw [h]; kernel_rfl
  · unfold o_vec_Greatest_0; rw [h]; kernel_rfl
def s_vec_Greatest (F : Nat) : List VV → Option (Bool × VV) := spec ti_vec_Greatest to_vec_Greatest (fun q => (ok_vec_Greatest F (atI (nth q 0)) (atI (nth q 1)) (atI (nth q 2)))) (fun q => [.i (o_vec_Greatest_0 F (atI (nth q 0)) (atI (nth q 1)) (atI (nth q 2)))])
theorem hS_vec_Greatest (F : Nat) : ∀ f, Good PP f (unS (S_vec_Greatest F f)) := words_good fun p hp => by
  simp only [List.mem_cons, List.not_mem_nil, or_false] at hp
  rcases hp with rfl
  · exact g_vec_bare F
theorem hl_vec_Greatest (F : Nat) : ∀ p ∈ loopsIn PP 24, LoopOK PP (S_vec_Greatest F) c_vec_Greatest F (I_vec_Greatest F) (J_vec_Greatest F) p :=
  loops_of [(0, loopAt PP 24 0)] (by kernel_rfl) (all_cons
    (loop_ok (W_vec_Greatest F) rfl (tab_cons (fun _ k q => Le.ofEq ((lL_vec_Greatest_0 F k F (atI (nth q 0)) (atI (nth q 1)) (atI (nth q 2)) (atI (nth q 3)) (atI (nth q 4)) (atI (nth q 5)) (atI (nth q 6)) (atI (nth q 7)) (atI (nth q 8)) (atI (nth q 9)) (atI (nth q 10)) (atI (nth q 11))).symm.trans (congrArg (iterC (codeL PP (S_vec_Greatest F) c_vec_Greatest (I_vec_Greatest F) (J_vec_Greatest F) (loopAt PP 24 0) 0) (headOf c_vec_Greatest 0) k F) (show fS T_vec_Greatest_0 [.i (atI (nth q 0)), .i (atI (nth q 1)), .i (atI (nth q 2)), .i (atI (nth q 3)), .i (atI (nth q 4)), .i (atI (nth q 5)), .i (atI (nth q 6)), .i (atI (nth q 7)), .i (atI (nth q 8)), .i (atI (nth q 9)), .i (atI (nth q 10)), .i (atI (nth q 11))] = fS T_vec_Greatest_0 q by kernel_rfl)))) tab_nil)) all_nil)
theorem hj_vec_Greatest (F : Nat) : ∀ p ∈ joinsIn PP c_vec_Greatest 24, JoinOK PP (S_vec_Greatest F) c_vec_Greatest (I_vec_Greatest F) (J_vec_Greatest F) p :=
  joins_of [] (by kernel_rfl) all_nil
theorem g_vec_Greatest (F : Nat) : Good PP 24 (unS (s_vec_Greatest F)) :=
  fun_spec (hS_vec_Greatest F) (by kernel_rfl) (by kernel_rfl) (C := c_vec_Greatest) (F := fun q => (f_vec_Greatest F (atI (nth q 0)) (atI (nth q 1)) (atI (nth q 2)))) (fun _ => F) (fun _ => I_vec_Greatest F) (fun _ => J_vec_Greatest F) (fun _ => hl_vec_Greatest F) (fun _ => hj_vec_Greatest F)
    (fun q => (congrArg (funL PP (S_vec_Greatest F) c_vec_Greatest (I_vec_Greatest F) (J_vec_Greatest F) 24) (show (fTs ti_vec_Greatest q).1 = (fTs ti_vec_Greatest [.i (atI (nth q 0)), .i (atI (nth q 1)), .i (atI (nth q 2))]).1 by kernel_rfl)).trans (e_vec_Greatest F (atI (nth q 0)) (atI (nth q 1)) (atI (nth q 2))))
    (fun _ h => (okT_fill h).trans (congrArg some (by kernel_rfl)))

end Go.Xv
set_option linter.unusedVariables false
namespace Go.Xv
/- 63 _ref06_Greatest -/
def c_ref06_Greatest : Cfg := ⟨[0, 1, 2, 3], [], [], []⟩
def ti_ref06_Greatest : List TV := [.v (.agg [.int .i64, .int .i64, .int .i64])]
def to_ref06_Greatest : TV := .v (.int .i64)
def S_ref06_Greatest (F : Nat) : FuncId → List VV → Option (Bool × VV) := words [(101, s_ref06_bare F)]
def W_ref06_Greatest (F : Nat) : List LW := []
def I_ref06_Greatest (F : Nat) : Nat → VS → (Exit → VS → R) → R := tabI c_ref06_Greatest (W_ref06_Greatest F)
def WJ_ref06_Greatest (F : Nat) : List LJ := []
def J_ref06_Greatest (F : Nat) : Nat → Nat → VS → (Exit → VS → R) → R := tabJ (WJ_ref06_Greatest F)
def f_ref06_Greatest (F : Nat) (a0 : Int) (a1 : Int) (a2 : Int) : R :=
  bif (ok_ref06_bare F a0) then (
    let v2403 : Int := (o_ref06_bare_0 F a0)
    bif (ok_ref06_bare F a1) then (
      let v2404 : Int := (o_ref06_bare_0 F a1)
      bif (ok_ref06_bare F a2) then (
        let v2405 : Int := (o_ref06_bare_0 F a2)
        let v2406 : Int := (if v2405 > (if v2404 > v2403 then v2404 else v2403) then v2405 else (if v2404 > v2403 then v2404 else v2403))
        some (.v (.int .i64 ((IntKind.wrap .i64 ((if 9223372036854775807 < v2406 then 9223372036854775807 else v2406)))))))
      else (
        none))
    else (
      none))
  else (
    none)
theorem e_ref06_Greatest (F : Nat) (a0 : Int) (a1 : Int) (a2 : Int) : funL PP (S_ref06_Greatest F) c_ref06_Greatest (I_ref06_Greatest F) (J_ref06_Greatest F) 63 (fTs ti_ref06_Greatest [.i a0, .i a1, .i a2]).1 = f_ref06_Greatest F a0 a1 a2 := by
  have h : ∀ (ok_ref06_bare : Nat → Int → Bool) (o_ref06_bare_0 : Nat → Int → Int), funL PP (words [(101, spec ti_ref06_bare to_ref06_bare (fun q => (ok_ref06_bare F (atI (nth q 0)))) (fun q => [.i (o_ref06_bare_0 F (atI (nth q 0)))]))]) c_ref06_Greatest (tabI c_ref06_Greatest []) (tabJ []) 63 (fTs ti_ref06_Greatest [.i a0, .i a1, .i a2]).1 = (
  bif (ok_ref06_bare F a0) then (
    let v2403 : Int := (o_ref06_bare_0 F a0)
    bif (ok_ref06_bare F a1) then (
      let v2404 : Int := (o_ref06_bare_0 F a1)
      bif (ok_ref06_bare F a2) then (
        let v2405 : Int := (o_ref06_bare_0 F a2)
        let v2406 : Int := (if v2405 > (if v2404 > v2403 then v2404 else v2403) then v2405 else (if v2404 > v2403 then v2404 else v2403))
        some (.v (.int .i64 ((IntKind.wrap .i64 ((if 9223372036854775807 < v2406 then 9223372036854775807 else v2406)))))))
      else (
        none))
    else (
      none))
  else (
    none) : R) := by
    intros
    kernel_rfl
  exact (h ok_ref06_bare o_ref06_bare_0).trans (by kernel_rfl)
def ok_ref06_Greatest (F : Nat) (a0 : Int) (a1 : Int) (a2 : Int) : Bool := okT to_ref06_Greatest (f_ref06_Greatest F a0 a1 a2)
def o_ref06_Greatest_0 (F : Nat) (a0 : Int) (a1 : Int) (a2 : Int) : Int := atI (nth (outT to_ref06_Greatest (f_ref06_Greatest F a0 a1 a2)) 0)
theorem k_ref06_Greatest (F : Nat) (a0 : Int) (a1 : Int) (a2 : Int) {z0 : Int} (h : f_ref06_Greatest F a0 a1 a2 = some (.v (.int .i64 z0))) : ok_ref06_Greatest F a0 a1 a2 = true ∧ o_ref06_Greatest_0 F a0 a1 a2 = z0 := by
  refine ⟨?_, ?_⟩
  · unfold ok_ref06_Greatest; rw [h]; kernel_rfl
  · unfold o_ref06_Greatest_0; rw [h]; kernel_rfl
def s_ref06_Greatest (F : Nat) : List VV → Option (Bool × VV) := spec ti_ref06_Greatest to_ref06_Greatest (fun q => (ok_ref06_Greatest F (atI (nth q 0)) (atI (nth q 1)) (atI (nth q 2)))) (fun q => [.i (o_ref06_Greatest_0 F (atI (nth q 0)) (atI (nth q 1)) (atI (nth q 2)))])
theorem hS_ref06_Greatest (F : Nat) : ∀ f, Good PP f (unS (S_ref06_Greatest F f)) := words_good fun p hp => by
  simp only [List.mem_cons, List.not_mem_nil, or_false] at hp
  rcases hp with rfl
  · exact g_ref06_bare F
theorem hl_ref06_Greatest (F : Nat) : ∀ p ∈ loopsIn PP 63, LoopOK PP (S_ref06_Greatest F) c_ref06_Greatest F (I_ref06_Greatest F) (J_ref06_Greatest F) p :=
  loops_of [] (by kernel_rfl) all_nil
theorem hj_ref06_Greatest (F : Nat) : ∀ p ∈ joinsIn PP c_ref06_Greatest 63, JoinOK PP (S_ref06_Greatest F) c_ref06_Greatest (I_ref06_Greatest F) (J_ref06_Greatest F) p :=
  joins_of [] (by kernel_rfl) all_nil
theorem g_ref06_Greatest (F : Nat) : Good PP 63 (unS (s_ref06_Greatest F)) :=
  fun_spec (hS_ref06_Greatest F) (by kernel_rfl) (by kernel_rfl) (C := c_ref06_Greatest) (F := fun q => (f_ref06_Greatest F (atI (nth q 0)) (atI (nth q 1)) (atI (nth q 2)))) (fun _ => F) (fun _ => I_ref06_Greatest F) (fun _ => J_ref06_Greatest F) (fun _ => hl_ref06_Greatest F) (fun _ => hj_ref06_Greatest F)
    (fun q => (congrArg (funL PP (S_ref06_Greatest F) c_ref06_Greatest (I_ref06_Greatest F) (J_ref06_Greatest F) 63) (show (fTs ti_ref06_Greatest q).1 = (fTs ti_ref06_Greatest [.i (atI (nth q 0)), .i (atI (nth q 1)), .i (atI (nth q 2))]).1 by kernel_rfl)).trans (e_ref06_Greatest F (atI (nth q 0)) (atI (nth q 1)) (atI (nth q 2))))
    (fun _ h => (okT_fill h).trans (congrArg some (by kernel_rfl)))

end Go.Xv
set_option linter.unusedVariables false
namespace Go.Xv
/- 22 _law06_works -/
def c_law06_works : Cfg := ⟨[0, 1, 2], [], [], []⟩
def ti_law06_works : List TV := []
def to_law06_works : TV := .v (.bool)
def S_law06_works (F : Nat) : FuncId → List VV → Option (Bool × VV) := words [(23, s_vec_Length F)]
def W_law06_works (F : Nat) : List LW := []
def I_law06_works (F : Nat) : Nat → VS → (Exit → VS → R) → R := tabI c_law06_works (W_law06_works F)
def WJ_law06_works (F : Nat) : List LJ := []
def J_law06_works (F : Nat) : Nat → Nat → VS → (Exit → VS → R) → R := tabJ (WJ_law06_works F)
def f_law06_works (F : Nat) : R :=
  bif (ok_vec_Length F 12884901888 17179869184 0) then (
    bif ((((o_vec_Length_0 F 12884901888 17179869184 0)) == 21474836480)) then (
      some (.v (.bool ((!((o_vec_Length_1 F 12884901888 17179869184 0)))))))
    else (
      some (.v (.bool false))))
  else (
    none)
theorem e_law06_works (F : Nat) : funL PP (S_law06_works F) c_law06_works (I_law06_works F) (J_law06_works F) 22 (fTs ti_law06_works []).1 = f_law06_works F := by
  have h : ∀ (ok_vec_Length : Nat → Int → Int → Int → Bool) (o_vec_Length_0 : Nat → Int → Int → Int → Int) (o_vec_Length_1 : Nat → Int → Int → Int → Bool), funL PP (words [(23, spec ti_vec_Length to_vec_Length (fun q => (ok_vec_Length F (atI (nth q 0)) (atI (nth q 1)) (atI (nth q 2)))) (fun q => [.i (o_vec_Length_0 F (atI (nth q 0)) (atI (nth q 1)) (atI (nth q 2))), .b (o_vec_Length_1 F (atI (nth q 0)) (atI (nth q 1)) (atI (nth q 2)))]))]) c_law06_works (tabI c_law06_works []) (tabJ []) 22 (fTs ti_law06_works []).1 = (
  bif (ok_vec_Length F 12884901888 17179869184 0) then (
    bif ((((o_vec_Length_0 F 12884901888 17179869184 0)) == 21474836480)) then (
      some (.v (.bool ((!((o_vec_Length_1 F 12884901888 17179869184 0)))))))
    else (
      some (.v (.bool false))))
  else (
    none) : R) := by
    intros
    kernel_rfl
  exact (h ok_vec_Length o_vec_Length_0 o_vec_Length_1).trans (by kernel_rfl)
def ok_law06_works (F : Nat) : Bool := okT to_law06_works (f_law06_works F)
def o_law06_works_0 (F : Nat) : Bool := atB (nth (outT to_law06_works (f_law06_works F)) 0)
theorem k_law06_works (F : Nat) {z0 : Bool} (h : f_law06_works F = some (.v (.bool z0))) : ok_law06_works F = true ∧ o_law06_works_0 F = z0 := by
  refine ⟨?_, ?_⟩
  · unfold ok_law06_works; rw [h]; kernel_rfl
  · unfold o_law06_works_0; rw [h]; kernel_rfl
def s_law06_works (F : Nat) : List VV → Option (Bool × VV) := spec ti_law06_works to_law06_works (fun q => (ok_law06_works F )) (fun q => [.b (o_law06_works_0 F )])
theorem hS_law06_works (F : Nat) : ∀ f, Good PP f (unS (S_law06_works F f)) := words_good fun p hp => by
  simp only [List.mem_cons, List.not_mem_nil, or_false] at hp
  rcases hp with rfl
  · exact g_vec_Length F
theorem hl_law06_works (F : Nat) : ∀ p ∈ loopsIn PP 22, LoopOK PP (S_law06_works F) c_law06_works F (I_law06_works F) (J_law06_works F) p :=
  loops_of [] (by kernel_rfl) all_nil
theorem hj_law06_works (F : Nat) : ∀ p ∈ joinsIn PP c_law06_works 22, JoinOK PP (S_law06_works F) c_law06_works (I_law06_works F) (J_law06_works F) p :=
  joins_of [] (by kernel_rfl) all_nil
theorem g_law06_works (F : Nat) : Good PP 22 (unS (s_law06_works F)) :=
  fun_spec (hS_law06_works F) (by kernel_rfl) (by kernel_rfl) (C := c_law06_works) (F := fun q => (f_law06_works F )) (fun _ => F) (fun _ => I_law06_works F) (fun _ => J_law06_works F) (fun _ => hl_law06_works F) (fun _ => hj_law06_works F)
    (fun q => (congrArg (funL PP (S_law06_works F) c_law06_works (I_law06_works F) (J_law06_works F) 22) (show (fTs ti_law06_works q).1 = (fTs ti_law06_works []).1 by kernel_rfl)).trans (e_law06_works F ))
    (fun _ h => (okT_fill h).trans (congrArg some (by kernel_rfl)))

end Go.Xv
set_option linter.unusedVariables false
namespace Go.Xv
/- 91 _vec_Clamp_1 -/
def c_vec_Clamp_1 : Cfg := ⟨[0, 1, 2, 4, 5], [], [], []⟩
def ti_vec_Clamp_1 : List TV := [.v (.int .i64), .fpx [.v (.int .i64), .v (.int .i64), .v (.int .i64)] (.lit 0), .fpx [.v (.int .i64)] (.lit 0)]
def to_vec_Clamp_1 : TV := .v (.tup [.int .i64, .bool])
def S_vec_Clamp_1 (F : Nat) : FuncId → List VV → Option (Bool × VV) := words [(92, s_fix_Clamp F)]
def W_vec_Clamp_1 (F : Nat) : List LW := []
def I_vec_Clamp_1 (F : Nat) : Nat → VS → (Exit → VS → R) → R := tabI c_vec_Clamp_1 (W_vec_Clamp_1 F)
def WJ_vec_Clamp_1 (F : Nat) : List LJ := []
def J_vec_Clamp_1 (F : Nat) : Nat → Nat → VS → (Exit → VS → R) → R := tabJ (WJ_vec_Clamp_1 F)
def f_vec_Clamp_1 (F : Nat) (a0 : Int) (a1 : Int) (a2 : Int) (a3 : Int) (a4 : Int) : R :=
  bif ((decide (0 ≤ a0)) && (decide (a0 < 3))) then (
    let v1505 : Nat := (0 + ((Int.toNat a0) * 1))
    bif ((isI .i64 [.v (.int .i64 a1), .v (.int .i64 a2), .v (.int .i64 a3)][v1505]?) && true) then (
      let v1506 : Int := (iv [.v (.int .i64 a1), .v (.int .i64 a2), .v (.int .i64 a3)][v1505]?)
      let v1507 : Int := (IntKind.wrap .i64 (0 - a4))
      bif (ok_fix_Clamp F v1506 v1507 a4) then (
        some (.v (.tuple #[.int .i64 ((o_fix_Clamp_0 F v1506 v1507 a4)), .bool ((o_fix_Clamp_1 F v1506 v1507 a4))])))
      else (
        none))
    else (
      none))
  else (
    none)
theorem e_vec_Clamp_1 (F : Nat) (a0 : Int) (a1 : Int) (a2 : Int) (a3 : Int) (a4 : Int) : funL PP (S_vec_Clamp_1 F) c_vec_Clamp_1 (I_vec_Clamp_1 F) (J_vec_Clamp_1 F) 91 (fTs ti_vec_Clamp_1 [.i a0, .i a1, .i a2, .i a3, .i a4]).1 = f_vec_Clamp_1 F a0 a1 a2 a3 a4 := by
  have h : ∀ (ok_fix_Clamp : Nat → Int → Int → Int → Bool) (o_fix_Clamp_0 : Nat → Int → Int → Int → Int) (o_fix_Clamp_1 : Nat → Int → Int → Int → Bool), funL PP (words [(92, spec ti_fix_Clamp to_fix_Clamp (fun q => (ok_fix_Clamp F (atI (nth q 0)) (atI (nth q 1)) (atI (nth q 2)))) (fun q => [.i (o_fix_Clamp_0 F (atI (nth q 0)) (atI (nth q 1)) (atI (nth q 2))), .b (o_fix_Clamp_1 F (atI (nth q 0)) (atI (nth q 1)) (atI (nth q 2)))]))]) c_vec_Clamp_1 (tabI c_vec_Clamp_1 []) (tabJ []) 91 (fTs ti_vec_Clamp_1 [.i a0, .i a1, .i a2, .i a3, .i a4]).1 = (
  bif ((decide (0 ≤ a0)) && (decide (a0 < 3))) then (
    let v1505 : Nat := (0 + ((Int.toNat a0) * 1))
    bif ((isI .i64 [.v (.int .i64 a1), .v (.int .i64 a2), .v (.int .i64 a3)][v1505]?) && true) then (
      let v1506 : Int := (iv [.v (.int .i64 a1), .v (.int .i64 a2), .v (.int .i64 a3)][v1505]?)
      let v1507 : Int := (IntKind.wrap .i64 (0 - a4))
      bif (ok_fix_Clamp F v1506 v1507 a4) then (
        some (.v (.tuple #[.int .i64 ((o_fix_Clamp_0 F v1506 v1507 a4)), .bool ((o_fix_Clamp_1 F v1506 v1507 a4))])))
      else (
        none))
    else (
      none))
  else (
    none) : R) := by
    intros
    kernel_rfl
  exact (h ok_fix_Clamp o_fix_Clamp_0 o_fix_Clamp_1).trans (by kernel_rfl)
def ok_vec_Clamp_1 (F : Nat) (a0 : Int) (a1 : Int) (a2 : Int) (a3 : Int) (a4 : Int) : Bool := okT to_vec_Clamp_1 (f_vec_Clamp_1 F a0 a1 a2 a3 a4)
def o_vec_Clamp_1_0 (F : Nat) (a0 : Int) (a1 : Int) (a2 : Int) (a3 : Int) (a4 : Int) : Int := atI (nth (outT to_vec_Clamp_1 (f_vec_Clamp_1 F a0 a1 a2 a3 a4)) 0)
def o_vec_Clamp_1_1 (F : Nat) (a0 : Int) (a1 : Int) (a2 : Int) (a3 : Int) (a4 : Int) : Bool := atB (nth (outT to_vec_Clamp_1 (f_vec_Clamp_1 F a0 a1 a2 a3 a4)) 1)
theorem k_vec_Clamp_1 (F : Nat) (a0 : Int) (a1 : Int) (a2 : Int) (a3 : Int) (a4 : Int) {z0 : Int} {z1 : Bool} (h : f_vec_Clamp_1 F a0 a1 a2 a3 a4 = some (.v (.tuple #[.int .i64 z0, .bool z1]))) : ok_vec_Clamp_1 F a0 a1 a2 a3 a4 = true ∧ o_vec_Clamp_1_0 F a0 a1 a2 a3 a4 = z0 ∧ o_vec_Clamp_1_1 F a0 a1 a2 a3 a4 = z1 := by
  refine ⟨?_, ?_, ?_⟩
  · unfold ok_vec_Clamp_1; rw [h]; kernel_rfl
  · unfold o_vec_Clamp_1_0; rw [h]; kernel_rfl
  · unfold o_vec_Clamp_1_1; rw [h]; kernel_rfl
def s_vec_Clamp_1 (F : Nat) : List VV → Option (Bool × VV) := spec ti_vec_Clamp_1 to_vec_Clamp_1 (fun q => (ok_vec_Clamp_1 F (atI (nth q 0)) (atI (nth q 1)) (atI (nth q 2)) (atI (nth q 3)) (atI (nth q 4)))) (fun q => [.i (o_vec_Clamp_1_0 F (atI (nth q 0)) (atI (nth q 1)) (atI (nth q 2)) (atI (nth q 3)) (atI (nth q 4))), .b (o_vec_Clamp_1_1 F (atI (nth q 0)) (atI (nth q 1)) (atI (nth q 2)) (atI (nth q 3)) (atI (nth q 4)))])
theorem hS_vec_Clamp_1 (F : Nat) : ∀ f, Good PP f (unS (S_vec_Clamp_1 F f)) := words_good fun p hp => by
  simp only [List.mem_cons, List.not_mem_nil, or_false] at hp
  rcases hp with rfl
  · exact g_fix_Clamp F
theorem hl_vec_Clamp_1 (F : Nat) : ∀ p ∈ loopsIn PP 91, LoopOK PP (S_vec_Clamp_1 F) c_vec_Clamp_1 F (I_vec_Clamp_1 F) (J_vec_Clamp_1 F) p :=
  loops_of [] (by kernel_rfl) all_nil
theorem hj_vec_Clamp_1 (F : Nat) : ∀ p ∈ joinsIn PP c_vec_Clamp_1 91, JoinOK PP (S_vec_Clamp_1 F) c_vec_Clamp_1 (I_vec_Clamp_1 F) (J_vec_Clamp_1 F) p :=
  joins_of [] (by kernel_rfl) all_nil
theorem g_vec_Clamp_1 (F : Nat) : Good PP 91 (unS (s_vec_Clamp_1 F)) :=
  fun_spec (hS_vec_Clamp_1 F) (by kernel_rfl) (by kernel_rfl) (C := c_vec_Clamp_1) (F := fun q => (f_vec_Clamp_1 F (atI (nth q 0)) (atI (nth q 1)) (atI (nth q 2)) (atI (nth q 3)) (atI (nth q 4)))) (fun _ => F) (fun _ => I_vec_Clamp_1 F) (fun _ => J_vec_Clamp_1 F) (fun _ => hl_vec_Clamp_1 F) (fun _ => hj_vec_Clamp_1 F)
    (fun q => (congrArg (funL PP (S_vec_Clamp_1 F) c_vec_Clamp_1 (I_vec_Clamp_1 F) (J_vec_Clamp_1 F) 91) (show (fTs ti_vec_Clamp_1 q).1 = (fTs ti_vec_Clamp_1 [.i (atI (nth q 0)), .i (atI (nth q 1)), .i (atI (nth q 2)), .i (atI (nth q 3)), .i (atI (nth q 4))]).1 by kernel_rfl)).trans (e_vec_Clamp_1 F (atI (nth q 0)) (atI (nth q 1)) (atI (nth q 2)) (atI (nth q 3)) (atI (nth q 4))))
    (fun _ h => (okT_fill h).trans (congrArg some (by kernel_rfl)))

end Go.Xv
set_option linter.unusedVariables false
namespace Go.Xv
/- 90 _vec_each -/
def c_vec_each : Cfg := ⟨[0, 2, 3, 4, 5, 6, 7, 8, 9, 10], [(0, [0, 2, 3, 4, 5, 9, 26, 27])], [], []⟩
def ti_vec_each : List TV := [.fn 91 [.fpx [.v (.int .i64), .v (.int .i64), .v (.int .i64)] (.lit 0), .fpx [.v (.int .i64)] (.lit 0)]]
def to_vec_each : TV := .v (.tup [.agg [.int .i64, .int .i64, .int .i64], .bool])
def S_vec_each (F : Nat) : FuncId → List VV → Option (Bool × VV) := words [(91, s_vec_Clamp_1 F)]
def T_vec_each_0 : TS := ⟨[(0, .fn 91 [.fpx [.v (.int .i64), .v (.int .i64), .v (.int .i64)] (.lit 0), .fpx [.v (.int .i64)] (.lit 0)]), (2, .lp 0 (.lit 0)), (3, .v (.bool)), (4, .lp 1 (.lit 0)), (5, .v (.bool)), (9, .v (.int .i64))], [(0, ⟨(.ex [.v (.int .i64), .v (.int .i64), .v (.int .i64)]), true⟩), (1, ⟨.hole, true⟩)], 2⟩
def T_vec_each_0_0 : TS := ⟨[(0, .fn 91 [.fpx [.v (.int .i64), .v (.int .i64), .v (.int .i64)] (.lit 0), .fpx [.v (.int .i64)] (.lit 0)]), (2, .lp 0 (.lit 0)), (3, .v (.bool)), (4, .lp 1 (.lit 0)), (5, .v (.bool)), (9, .v (.int .i64))], [(0, ⟨(.ex [.v (.int .i64), .v (.int .i64), .v (.int .i64)]), true⟩), (1, ⟨.hole, true⟩)], 2⟩
def B_vec_each_0 (F : Nat) (rc : Int → Int → Int → Int → Bool → Bool → Int → Int → Int → Int → List VV → R) (ex0 : Int → Int → Int → Int → Bool → Bool → Int → Int → Int → Int → List VV → R) (x0 : Int) (x1 : Int) (x2 : Int) (x3 : Int) (x4 : Bool) (x5 : Bool) (x6 : Int) (x7 : Int) (x8 : Int) (x9 : Int) (x10 : List VV) : R :=
  bif ((decide (x6 < 3))) then (
    bif (ok_vec_Clamp_1 F x6 x0 x1 x2 x3) then (
      let v1510 : Int := (o_vec_Clamp_1_0 F x6 x0 x1 x2 x3)
      bif x5 then (
        bif ((decide (0 ≤ x6)) && (decide (x6 < 3))) then (
          let v1512 : Nat := (0 + ((Int.toNat x6) * 1))
          bif (decide ((v1512 + 1) ≤ x10.length)) then (
            rc x0 x1 x2 x3 x4 true ((IntKind.wrap .i64 (x6 + 1))) x7 x8 x9 ((x10.take v1512 ++ [.v (.int .i64 v1510)] ++ x10.drop (v1512 + 1))))
          else (
            none))
        else (
          none))
      else (
        bif ((decide (0 ≤ x6)) && (decide (x6 < 3))) then (
          let v1515 : Nat := (0 + ((Int.toNat x6) * 1))
          bif (decide ((v1515 + 1) ≤ x10.length)) then (
            rc x0 x1 x2 x3 x4 ((o_vec_Clamp_1_1 F x6 x0 x1 x2 x3)) ((IntKind.wrap .i64 (x6 + 1))) x7 x8 x9 ((x10.take v1515 ++ [.v (.int .i64 v1510)] ++ x10.drop (v1515 + 1))))
          else (
            none))
        else (
          none)))
    else (
      none))
  else (
    ex0 x0 x1 x2 x3 x4 x5 x6 x7 x8 x9 x10)
def L_vec_each_0 (F : Nat) (ex0 : Int → Int → Int → Int → Bool → Bool → Int → Int → Int → Int → List VV → R) : Nat → Int → Int → Int → Int → Bool → Bool → Int → Int → Int → Int → List VV → R
  | 0, _, _, _, _, _, _, _, _, _, _, _ => none
  | n + 1, x0, x1, x2, x3, x4, x5, x6, x7, x8, x9, x10 => B_vec_each_0 F (L_vec_each_0 F ex0 n) ex0 x0 x1 x2 x3 x4 x5 x6 x7 x8 x9 x10
def W_vec_each (F : Nat) : List LW := [⟨0, T_vec_each_0, fun k q => L_vec_each_0 F (fun (z0 : Int) (z1 : Int) (z2 : Int) (z3 : Int) (z4 : Bool) (z5 : Bool) (z6 : Int) (z7 : Int) (z8 : Int) (z9 : Int) (z10 : List VV) => k (.exit 0) (fS T_vec_each_0_0 [.i z0, .i z1, .i z2, .i z3, .b z4, .b z5, .i z6, .i z7, .i z8, .i z9, .c z10])) F (atI (nth q 0)) (atI (nth q 1)) (atI (nth q 2)) (atI (nth q 3)) (atB (nth q 4)) (atB (nth q 5)) (atI (nth q 6)) (atI (nth q 7)) (atI (nth q 8)) (atI (nth q 9)) (atC (nth q 10))⟩]
def I_vec_each (F : Nat) : Nat → VS → (Exit → VS → R) → R := tabI c_vec_each (W_vec_each F)
def WJ_vec_each (F : Nat) : List LJ := []
def J_vec_each (F : Nat) : Nat → Nat → VS → (Exit → VS → R) → R := tabJ (WJ_vec_each F)
theorem lL_vec_each_0 (F : Nat) (k : Exit → VS → R) : ∀ (n : Nat) (x0 : Int) (x1 : Int) (x2 : Int) (x3 : Int) (x4 : Bool) (x5 : Bool) (x6 : Int) (x7 : Int) (x8 : Int) (x9 : Int) (x10 : List VV), iterC (codeL PP (S_vec_each F) c_vec_each (I_vec_each F) (J_vec_each F) (loopAt PP 90 0) 0) (headOf c_vec_each 0) k n (fS T_vec_each_0 [.i x0, .i x1, .i x2, .i x3, .b x4, .b x5, .i x6, .i x7, .i x8, .i x9, .c x10]) = L_vec_each_0 F (fun (z0 : Int) (z1 : Int) (z2 : Int) (z3 : Int) (z4 : Bool) (z5 : Bool) (z6 : Int) (z7 : Int) (z8 : Int) (z9 : Int) (z10 : List VV) => k (.exit 0) (fS T_vec_each_0_0 [.i z0, .i z1, .i z2, .i z3, .b z4, .b z5, .i z6, .i z7, .i z8, .i z9, .c z10])) n x0 x1 x2 x3 x4 x5 x6 x7 x8 x9 x10
  | 0, _, _, _, _, _, _, _, _, _, _, _ => rfl
  | n + 1, x0, x1, x2, x3, x4, x5, x6, x7, x8, x9, x10 => by
    have h0 : ∀ (ok_vec_Clamp_1 : Nat → Int → Int → Int → Int → Int → Bool) (o_vec_Clamp_1_0 : Nat → Int → Int → Int → Int → Int → Int) (o_vec_Clamp_1_1 : Nat → Int → Int → Int → Int → Int → Bool) (L_vec_each_0 : Nat → (Int → Int → Int → Int → Bool → Bool → Int → Int → Int → Int → List VV → R) → Nat → Int → Int → Int → Int → Bool → Bool → Int → Int → Int → Int → List VV → R), iterC (codeL PP (words [(91, spec ti_vec_Clamp_1 to_vec_Clamp_1 (fun q => (ok_vec_Clamp_1 F (atI (nth q 0)) (atI (nth q 1)) (atI (nth q 2)) (atI (nth q 3)) (atI (nth q 4)))) (fun q => [.i (o_vec_Clamp_1_0 F (atI (nth q 0)) (atI (nth q 1)) (atI (nth q 2)) (atI (nth q 3)) (atI (nth q 4))), .b (o_vec_Clamp_1_1 F (atI (nth q 0)) (atI (nth q 1)) (atI (nth q 2)) (atI (nth q 3)) (atI (nth q 4)))]))]) c_vec_each (tabI c_vec_each [⟨0, T_vec_each_0, fun k q => L_vec_each_0 F (fun (z0 : Int) (z1 : Int) (z2 : Int) (z3 : Int) (z4 : Bool) (z5 : Bool) (z6 : Int) (z7 : Int) (z8 : Int) (z9 : Int) (z10 : List VV) => k (.exit 0) (fS T_vec_each_0_0 [.i z0, .i z1, .i z2, .i z3, .b z4, .b z5, .i z6, .i z7, .i z8, .i z9, .c z10])) F (atI (nth q 0)) (atI (nth q 1)) (atI (nth q 2)) (atI (nth q 3)) (atB (nth q 4)) (atB (nth q 5)) (atI (nth q 6)) (atI (nth q 7)) (atI (nth q 8)) (atI (nth q 9)) (atC (nth q 10))⟩]) (tabJ []) (loopAt PP 90 0) 0) (headOf c_vec_each 0) k (n + 1) (fS T_vec_each_0 [.i x0, .i x1, .i x2, .i x3, .b x4, .b x5, .i x6, .i x7, .i x8, .i x9, .c x10]) = (fun (rc : Int → Int → Int → Int → Bool → Bool → Int → Int → Int → Int → List VV → R) (ex0 : Int → Int → Int → Int → Bool → Bool → Int → Int → Int → Int → List VV → R) (x0 : Int) (x1 : Int) (x2 : Int) (x3 : Int) (x4 : Bool) (x5 : Bool) (x6 : Int) (x7 : Int) (x8 : Int) (x9 : Int) (x10 : List VV) => (
  bif ((decide (x6 < 3))) then (
    bif (ok_vec_Clamp_1 F x6 x0 x1 x2 x3) then (
      let v1510 : Int := (o_vec_Clamp_1_0 F x6 x0 x1 x2 x3)
      bif x5 then (
        bif ((decide (0 ≤ x6)) && (decide (x6 < 3))) then (
          let v1512 : Nat := (0 + ((Int.toNat x6) * 1))
          bif (decide ((v1512 + 1) ≤ x10.length)) then (
            rc x0 x1 x2 x3 x4 true ((IntKind.wrap .i64 (x6 + 1))) x7 x8 x9 ((x10.take v1512 ++ [.v (.int .i64 v1510)] ++ x10.drop (v1512 + 1))))
          else (
            none))
        else (
          none))
      else (
        bif ((decide (0 ≤ x6)) && (decide (x6 < 3))) then (
          let v1515 : Nat := (0 + ((Int.toNat x6) * 1))
          bif (decide ((v1515 + 1) ≤ x10.length)) then (
            rc x0 x1 x2 x3 x4 ((o_vec_Clamp_1_1 F x6 x0 x1 x2 x3)) ((IntKind.wrap .i64 (x6 + 1))) x7 x8 x9 ((x10.take v1515 ++ [.v (.int .i64 v1510)] ++ x10.drop (v1515 + 1))))
          else (
            none))
        else (
          none)))
    else (
      none))
  else (
    ex0 x0 x1 x2 x3 x4 x5 x6 x7 x8 x9 x10) : R)) (fun (y0 : Int) (y1 : Int) (y2 : Int) (y3 : Int) (y4 : Bool) (y5 : Bool) (y6 : Int) (y7 : Int) (y8 : Int) (y9 : Int) (y10 : List VV) => iterC (codeL PP (words [(91, spec ti_vec_Clamp_1 to_vec_Clamp_1 (fun q => (ok_vec_Clamp_1 F (atI (nth q 0)) (atI (nth q 1)) (atI (nth q 2)) (atI (nth q 3)) (atI (nth q 4)))) (fun q => [.i (o_vec_Clamp_1_0 F (atI (nth q 0)) (atI (nth q 1)) (atI (nth q 2)) (atI (nth q 3)) (atI (nth q 4))), .b (o_vec_Clamp_1_1 F (atI (nth q 0)) (atI (nth q 1)) (atI (nth q 2)) (atI (nth q 3)) (atI (nth q 4)))]))]) c_vec_each (tabI c_vec_each [⟨0, T_vec_each_0, fun k q => L_vec_each_0 F (fun (z0 : Int) (z1 : Int) (z2 : Int) (z3 : Int) (z4 : Bool) (z5 : Bool) (z6 : Int) (z7 : Int) (z8 : Int) (z9 : Int) (z10 : List VV) => k (.exit 0) (fS T_vec_each_0_0 [.i z0, .i z1, .i z2, .i z3, .b z4, .b z5, .i z6, .i z7, .i z8, .i z9, .c z10])) F (atI (nth q 0)) (atI (nth q 1)) (atI (nth q 2)) (atI (nth q 3)) (atB (nth q 4)) (atB (nth q 5)) (atI (nth q 6)) (atI (nth q 7)) (atI (nth q 8)) (atI (nth q 9)) (atC (nth q 10))⟩]) (tabJ []) (loopAt PP 90 0) 0) (headOf c_vec_each 0) k n (fS T_vec_each_0 [.i y0, .i y1, .i y2, .i y3, .b y4, .b y5, .i y6, .i y7, .i y8, .i y9, .c y10])) (fun (z0 : Int) (z1 : Int) (z2 : Int) (z3 : Int) (z4 : Bool) (z5 : Bool) (z6 : Int) (z7 : Int) (z8 : Int) (z9 : Int) (z10 : List VV) => k (.exit 0) (fS T_vec_each_0_0 [.i z0, .i z1, .i z2, .i z3, .b z4, .b z5, .i z6, .i z7, .i z8, .i z9, .c z10])) x0 x1 x2 x3 x4 x5 x6 x7 x8 x9 x10 := by
      intros
      kernel_rfl
    have h : iterC (codeL PP (S_vec_each F) c_vec_each (I_vec_each F) (J_vec_each F) (loopAt PP 90 0) 0) (headOf c_vec_each 0) k (n + 1) (fS T_vec_each_0 [.i x0, .i x1, .i x2, .i x3, .b x4, .b x5, .i x6, .i x7, .i x8, .i x9, .c x10]) = B_vec_each_0 F (fun (y0 : Int) (y1 : Int) (y2 : Int) (y3 : Int) (y4 : Bool) (y5 : Bool) (y6 : Int) (y7 : Int) (y8 : Int) (y9 : Int) (y10 : List VV) => iterC (codeL PP (S_vec_each F) c_vec_each (I_vec_each F) (J_vec_each F) (loopAt PP 90 0) 0) (headOf c_vec_each 0) k n (fS T_vec_each_0 [.i y0, .i y1, .i y2, .i y3, .b y4, .b y5, .i y6, .i y7, .i y8, .i y9, .c y10])) (fun (z0 : Int) (z1 : Int) (z2 : Int) (z3 : Int) (z4 : Bool) (z5 : Bool) (z6 : Int) (z7 : Int) (z8 : Int) (z9 : Int) (z10 : List VV) => k (.exit 0) (fS T_vec_each_0_0 [.i z0, .i z1, .i z2, .i z3, .b z4, .b z5, .i z6, .i z7, .i z8, .i z9, .c z10])) x0 x1 x2 x3 x4 x5 x6 x7 x8 x9 x10 := (h0 ok_vec_Clamp_1 o_vec_Clamp_1_0 o_vec_Clamp_1_1 L_vec_each_0).trans (by kernel_rfl)
    rw [h]
    simp only [lL_vec_each_0 F k n]
    rfl
def f_vec_each (F : Nat) (a0 : Int) (a1 : Int) (a2 : Int) (a3 : Int) : R :=
  L_vec_each_0 F (fun (v1518 : Int) (v1519 : Int) (v1520 : Int) (v1521 : Int) (v1522 : Bool) (v1523 : Bool) (v1524 : Int) (v1525 : Int) (v1526 : Int) (v1527 : Int) (v1528 : List VV) =>
    bif ((isI .i64 v1528[0]?) && ((isI .i64 v1528[1]?) && ((isI .i64 v1528[2]?) && true))) then (
      some (.v (.tuple #[.agg #[.int .i64 ((iv v1528[0]?)), .int .i64 ((iv v1528[1]?)), .int .i64 ((iv v1528[2]?))], .bool v1523])))
    else (
      none)) F a0 a1 a2 a3 false false 0 0 0 0 ([.v (.int .i64 0), .v (.int .i64 0), .v (.int .i64 0)])
theorem e_vec_each (F : Nat) (a0 : Int) (a1 : Int) (a2 : Int) (a3 : Int) : funL PP (S_vec_each F) c_vec_each (I_vec_each F) (J_vec_each F) 90 (fTs ti_vec_each [.i a0, .i a1, .i a2, .i a3]).1 = f_vec_each F a0 a1 a2 a3 := by
  have h : ∀ (ok_vec_Clamp_1 : Nat → Int → Int → Int → Int → Int → Bool) (o_vec_Clamp_1_0 : Nat → Int → Int → Int → Int → Int → Int) (o_vec_Clamp_1_1 : Nat → Int → Int → Int → Int → Int → Bool) (L_vec_each_0 : Nat → (Int → Int → Int → Int → Bool → Bool → Int → Int → Int → Int → List VV → R) → Nat → Int → Int → Int → Int → Bool → Bool → Int → Int → Int → Int → List VV → R), funL PP (words [(91, spec ti_vec_Clamp_1 to_vec_Clamp_1 (fun q => (ok_vec_Clamp_1 F (atI (nth q 0)) (atI (nth q 1)) (atI (nth q 2)) (atI (nth q 3)) (atI (nth q 4)))) (fun q => [.i (o_vec_Clamp_1_0 F (atI (nth q 0)) (atI (nth q 1)) (atI (nth q 2)) (atI (nth q 3)) (atI (nth q 4))), .b (o_vec_Clamp_1_1 F (atI (nth q 0)) (atI (nth q 1)) (atI (nth q 2)) (atI (nth q 3)) (atI (nth q 4)))]))]) c_vec_each (tabI c_vec_each [⟨0, T_vec_each_0, fun k q => L_vec_each_0 F (fun (z0 : Int) (z1 : Int) (z2 : Int) (z3 : Int) (z4 : Bool) (z5 : Bool) (z6 : Int) (z7 : Int) (z8 : Int) (z9 : Int) (z10 : List VV) => k (.exit 0) (fS T_vec_each_0_0 [.i z0, .i z1, .i z2, .i z3, .b z4, .b z5, .i z6, .i z7, .i z8, .i z9, .c z10])) F (atI (nth q 0)) (atI (nth q 1)) (atI (nth q 2)) (atI (nth q 3)) (atB (nth q 4)) (atB (nth q 5)) (atI (nth q 6)) (atI (nth q 7)) (atI (nth q 8)) (atI (nth q 9)) (atC (nth q 10))⟩]) (tabJ []) 90 (fTs ti_vec_each [.i a0, .i a1, .i a2, .i a3]).1 = (
  L_vec_each_0 F (fun (v1518 : Int) (v1519 : Int) (v1520 : Int) (v1521 : Int) (v1522 : Bool) (v1523 : Bool) (v1524 : Int) (v1525 : Int) (v1526 : Int) (v1527 : Int) (v1528 : List VV) =>
    bif ((isI .i64 v1528[0]?) && ((isI .i64 v1528[1]?) && ((isI .i64 v1528[2]?) && true))) then (
      some (.v (.tuple #[.agg #[.int .i64 ((iv v1528[0]?)), .int .i64 ((iv v1528[1]?)), .int .i64 ((iv v1528[2]?))], .bool v1523])))
    else (
      none)) F a0 a1 a2 a3 false false 0 0 0 0 ([.v (.int .i64 0), .v (.int .i64 0), .v (.int .i64 0)]) : R) := by
    intros
    kernel_rfl
  exact (h ok_vec_Clamp_1 o_vec_Clamp_1_0 o_vec_Clamp_1_1 L_vec_each_0).trans (by kernel_rfl)
def ok_vec_each (F : Nat) (a0 : Int) (a1 : Int) (a2 : Int) (a3 : Int) : Bool := okT to_vec_each (f_vec_each F a0 a1 a2 a3)
def o_vec_each_0 (F : Nat) (a0 : Int) (a1 : Int) (a2 : Int) (a3 : Int) : Int := atI (nth (outT to_vec_each (f_vec_each F a0 a1 a2 a3)) 0)
def o_vec_each_1 (F : Nat) (a0 : Int) (a1 : Int) (a2 : Int) (a3 : Int) : Int := atI (nth (outT to_vec_each (f_vec_each F a0 a1 a2 a3)) 1)
def o_vec_each_2 (F : Nat) (a0 : Int) (a1 : Int) (a2 : Int) (a3 : Int) : Int := atI (nth (outT to_vec_each (f_vec_each F a0 a1 a2 a3)) 2)
def o_vec_each_3 (F : Nat) (a0 : Int) (a1 : Int) (a2 : Int) (a3 : Int) : Bool := atB (nth (outT to_vec_each (f_vec_each F a0 a1 a2 a3)) 3)
theorem k_vec_each (F : Nat) (a0 : Int) (a1 : Int) (a2 : Int) (a3 : Int) {z0 : Int} {z1 : Int} {z2 : Int} {z3 : Bool} (h : f_vec_each F a0 a1 a2 a3 = some (.v (.tuple #[.agg #[.int .i64 z0, .int .i64 z1, .int .i64 z2], .bool z3]))) : ok_vec_each F a0 a1 a2 a3 = true ∧ o_vec_each_0 F a0 a1 a2 a3 = z0 ∧ o_vec_each_1 F a0 a1 a2 a3 = z1 ∧ o_vec_each_2 F a0 a1 a2 a3 = z2 ∧ o_vec_each_3 F a0 a1 a2 a3 = z3 := by
  refine ⟨?_, ?_, ?_, ?_, ?_⟩
  · unfold ok_vec_each; rw [h]; kernel_rfl
  · unfold o_vec_each_0; rw [h]; kernel_rfl
  · unfold o_vec_each_1; rw [h]; kernel_rfl
  · unfold o_vec_each_2; rw [h]; kernel_rfl
  · unfold o_vec_each_3; rw [h]; kernel_rfl
def s_vec_each (F : Nat) : List VV → Option (Bool × VV) := spec ti_vec_each to_vec_each (fun q => (ok_vec_each F (atI (nth q 0)) (atI (nth q 1)) (atI (nth q 2)) (atI (nth q 3)))) (fun q => [.i (o_vec_each_0 F (atI (nth q 0)) (atI (nth q 1)) (atI (nth q 2)) (atI (nth q 3))), .i (o_vec_each_1 F (atI (nth q 0)) (atI (nth q 1)) (atI (nth q 2)) (atI (nth q 3))), .i (o_vec_each_2 F (atI (nth q 0)) (atI (nth q 1)) (atI (nth q 2)) (atI (nth q 3))), .b (o_vec_each_3 F (atI (nth q 0)) (atI (nth q 1)) (atI (nth q 2)) (atI (nth q 3)))])
theorem hS_vec_each (F : Nat) : ∀ f, Good PP f (unS (S_vec_each F f)) := words_good fun p hp => by
  simp only [List.mem_cons, List.not_mem_nil, or_false] at hp
  rcases hp with rfl
  · exact g_vec_Clamp_1 F
theorem hl_vec_each (F : Nat) : ∀ p ∈ loopsIn PP 90, LoopOK PP (S_vec_each F) c_vec_each F (I_vec_each F) (J_vec_each F) p :=
  loops_of [(0, loopAt PP 90 0)] (by kernel_rfl) (all_cons
    (loop_ok (W_vec_each F) rfl (tab_cons (fun _ k q => Le.ofEq ((lL_vec_each_0 F k F (atI (nth q 0)) (atI (nth q 1)) (atI (nth q 2)) (atI (nth q 3)) (atB (nth q 4)) (atB (nth q 5)) (atI (nth q 6)) (atI (nth q 7)) (atI (nth q 8)) (atI (nth q 9)) (atC (nth q 10))).symm.trans (congrArg (iterC (codeL PP (S_vec_each F) c_vec_each (I_vec_each F) (J_vec_each F) (loopAt PP 90 0) 0) (headOf c_vec_each 0) k F) (show fS T_vec_each_0 [.i (atI (nth q 0)), .i (atI (nth q 1)), .i (atI (nth q 2)), .i (atI (nth q 3)), .b (atB (nth q 4)), .b (atB (nth q 5)), .i (atI (nth q 6)), .i (atI (nth q 7)), .i (atI (nth q 8)), .i (atI (nth q 9)), .c (atC (nth q 10))] = fS T_vec_each_0 q by kernel_rfl)))) tab_nil)) all_nil)
theorem hj_vec_each (F : Nat) : ∀ p ∈ joinsIn PP c_vec_each 90, JoinOK PP (S_vec_each F) c_vec_each (I_vec_each F) (J_vec_each F) p :=
  joins_of [] (by kernel_rfl) all_nil
theorem g_vec_each (F : Nat) : Good PP 90 (unS (s_vec_each F)) :=
  fun_spec (hS_vec_each F) (by kernel_rfl) (by kernel_rfl) (C := c_vec_each) (F := fun q => (f_vec_each F (atI (nth q 0)) (atI (nth q 1)) (atI (nth q 2)) (atI (nth q 3)))) (fun _ => F) (fun _ => I_vec_each F) (fun _ => J_vec_each F) (fun _ => hl_vec_each F) (fun _ => hj_vec_each F)
    (fun q => (congrArg (funL PP (S_vec_each F) c_vec_each (I_vec_each F) (J_vec_each F) 90) (show (fTs ti_vec_each q).1 = (fTs ti_vec_each [.i (atI (nth q 0)), .i (atI (nth q 1)), .i (atI (nth q 2)), .i (atI (nth q 3))]).1 by kernel_rfl)).trans (e_vec_each F (atI (nth q 0)) (atI (nth q 1)) (atI (nth q 2)) (atI (nth q 3))))
    (fun _ h => (okT_fill h).trans (congrArg some (by kernel_rfl)))

end Go.Xv
set_option linter.unusedVariables false
namespace Go.Xv
/- 37 _vec_Clamp -/
def c_vec_Clamp : Cfg := ⟨[0, 1, 2, 4, 5, 6], [], [], []⟩
def ti_vec_Clamp : List TV := [.v (.agg [.int .i64, .int .i64, .int .i64]), .v (.int .i64)]
def to_vec_Clamp : TV := .v (.tup [.agg [.int .i64, .int .i64, .int .i64], .bool])
def S_vec_Clamp (F : Nat) : FuncId → List VV → Option (Bool × VV) := words [(90, s_vec_each F)]
def W_vec_Clamp (F : Nat) : List LW := []
def I_vec_Clamp (F : Nat) : Nat → VS → (Exit → VS → R) → R := tabI c_vec_Clamp (W_vec_Clamp F)
def WJ_vec_Clamp (F : Nat) : List LJ := []
def J_vec_Clamp (F : Nat) : Nat → Nat → VS → (Exit → VS → R) → R := tabJ (WJ_vec_Clamp F)
def f_vec_Clamp (F : Nat) (a0 : Int) (a1 : Int) (a2 : Int) (a3 : Int) : R :=
  let v1492 : Int := (if 0 > a3 then 0 else a3)
  bif (ok_vec_each F a0 a1 a2 v1492) then (
    some (.v (.tuple #[.agg #[.int .i64 ((o_vec_each_0 F a0 a1 a2 v1492)), .int .i64 ((o_vec_each_1 F a0 a1 a2 v1492)), .int .i64 ((o_vec_each_2 F a0 a1 a2 v1492))], .bool ((o_vec_each_3 F a0 a1 a2 v1492))])))
  else (
    none)
theorem e_vec_Clamp (F : Nat) (a0 : Int) (a1 : Int) (a2 : Int) (a3 : Int) : funL PP (S_vec_Clamp F) c_vec_Clamp (I_vec_Clamp F) (J_vec_Clamp F) 37 (fTs ti_vec_Clamp [.i a0, .i a1, .i a2, .i a3]).1 = f_vec_Clamp F a0 a1 a2 a3 := by
  have h : ∀ (ok_vec_each : Nat → Int → Int → Int → Int → Bool) (o_vec_each_0 : Nat → Int → Int → Int → Int → Int) (o_vec_each_1 : Nat → Int → Int → Int → Int → Int) (o_vec_each_2 : Nat → Int → Int → Int → Int → Int) (o_vec_each_3 : Nat → Int → Int → Int → Int → Bool), funL PP (words [(90, spec ti_vec_each to_vec_each (fun q => (ok_vec_each F (atI (nth q 0)) (atI (nth q 1)) (atI (nth q 2)) (atI (nth q 3)))) (fun q => [.i (o_vec_each_0 F (atI (nth q 0)) (atI (nth q 1)) (atI (nth q 2)) (atI (nth q 3))), .i (o_vec_each_1 F (atI (nth q 0)) (atI (nth q 1)) (atI (nth q 2)) (atI (nth q 3))), .i (o_vec_each_2 F (atI (nth q 0)) (atI (nth q 1)) (atI (nth q 2)) (atI (nth q 3))), .b (o_vec_each_3 F (atI (nth q 0)) (atI (nth q 1)) (atI (nth q 2)) (atI (nth q 3)))]))]) c_vec_Clamp (tabI c_vec_Clamp []) (tabJ []) 37 (fTs ti_vec_Clamp [.i a0, .i a1, .i a2, .i a3]).1 = (
  let v1492 : Int := (if 0 > a3 then 0 else a3)
  bif (ok_vec_each F a0 a1 a2 v1492) then (
    some (.v (.tuple #[.agg #[.int .i64 ((o_vec_each_0 F a0 a1 a2 v1492)), .int .i64 ((o_vec_each_1 F a0 a1 a2 v1492)), .int .i64 ((o_vec_each_2 F a0 a1 a2 v1492))], .bool ((o_vec_each_3 F a0 a1 a2 v1492))])))
  else (
    none) : R) := by
    intros
    kernel_rfl
  exact (h ok_vec_each o_vec_each_0 o_vec_each_1 o_vec_each_2 o_vec_each_3).trans (by kernel_rfl)
def ok_vec_Clamp (F : Nat) (a0 : Int) (a1 : Int) (a2 : Int) (a3 : Int) : Bool := okT to_vec_Clamp (f_vec_Clamp F a0 a1 a2 a3)
def o_vec_Clamp_0 (F : Nat) (a0 : Int) (a1 : Int) (a2 : Int) (a3 : Int) : Int := atI (nth (outT to_vec_Clamp (f_vec_Clamp F a0 a1 a2 a3)) 0)
def o_vec_Clamp_1 (F : Nat) (a0 : Int) (a1 : Int) (a2 : Int) (a3 : Int) : Int := atI (nth (outT to_vec_Clamp (f_vec_Clamp F a0 a1 a2 a3)) 1)
def o_vec_Clamp_2 (F : Nat) (a0 : Int) (a1 : Int) (a2 : Int) (a3 : Int) : Int := atI (nth (outT to_vec_Clamp (f_vec_Clamp F a0 a1 a2 a3)) 2)
def o_vec_Clamp_3 (F : Nat) (a0 : Int) (a1 : Int) (a2 : Int) (a3 : Int) : Bool := atB (nth (outT to_vec_Clamp (f_vec_Clamp F a0 a1 a2 a3)) 3)
theorem k_vec_Clamp (F : Nat) (a0 : Int) (a1 : Int) (a2 : Int) (a3 : Int) {z0 : Int} {z1 : Int} {z2 : Int} {z3 : Bool} (h : f_vec_Clamp F a0 a1 a2 a3 = some (.v (.tuple #[.agg #[.int .i64 z0, .int .i64 z1, .int .i64 z2], .bool z3]))) : ok_vec_Clamp F a0 a1 a2 a3 = true ∧ o_vec_Clamp_0 F a0 a1 a2 a3 = z0 ∧ o_vec_Clamp_1 F a0 a1 a2 a3 = z1 ∧ o_vec_Clamp_2 F a0 a1 a2 a3 = z2 ∧ o_vec_Clamp_3 F a0 a1 a2 a3 = z3 := by
  refine ⟨?_, ?_, ?_, ?_, ?_⟩
  · unfold ok_vec_Clamp; rw [h]; kernel_rfl
  · unfold o_vec_Clamp_0; rw [h]; kernel_rfl
  · unfold o_vec_Clamp_1; rw [h]; kernel_rfl
  · unfold o_vec_Clamp_2; rw [h]; kernel_rfl
  · unfold o_vec_Clamp_3; rw [h]; kernel_rfl
def s_vec_Clamp (F : Nat) : List VV → Option (Bool × VV) := spec ti_vec_Clamp to_vec_Clamp (fun q => (ok_vec_Clamp F (atI (nth q 0)) (atI (nth q 1)) (atI (nth q 2)) (atI (nth q 3)))) (fun q => [.i (o_vec_Clamp_0 F (atI (nth q 0)) (atI (nth q 1)) (atI (nth q 2)) (atI (nth q 3))), .i (o_vec_Clamp_1 F (atI (nth q 0)) (atI (nth q 1)) (atI (nth q 2)) (atI (nth q 3))), .i (o_vec_Clamp_2 F (atI (nth q 0)) (atI (nth q 1)) (atI (nth q 2)) (atI (nth q 3))), .b (o_vec_Clamp_3 F (atI (nth q 0)) (atI (nth q 1)) (atI (nth q 2)) (atI (nth q 3)))])
theorem hS_vec_Clamp (F : Nat) : ∀ f, Good PP f (unS (S_vec_Clamp F f)) := words_good fun p hp => by
  simp only [List.mem_cons, List.not_mem_nil, or_false] at hp
  rcases hp with rfl
  · exact g_vec_each F
theorem hl_vec_Clamp (F : Nat) : ∀ p ∈ loopsIn PP 37, LoopOK PP (S_vec_Clamp F) c_vec_Clamp F (I_vec_Clamp F) (J_vec_Clamp F) p :=
  loops_of [] (by kernel_rfl) all_nil
theorem hj_vec_Clamp (F : Nat) : ∀ p ∈ joinsIn PP c_vec_Clamp 37, JoinOK PP (S_vec_Clamp F) c_vec_Clamp (I_vec_Clamp F) (J_vec_Clamp F) p :=
  joins_of [] (by kernel_rfl) all_nil
theorem g_vec_Clamp (F : Nat) : Good PP 37 (unS (s_vec_Clamp F)) :=
  fun_spec (hS_vec_Clamp F) (by kernel_rfl) (by kernel_rfl) (C := c_vec_Clamp) (F := fun q => (f_vec_Clamp F (atI (nth q 0)) (atI (nth q 1)) (atI (nth q 2)) (atI (nth q 3)))) (fun _ => F) (fun _ => I_vec_Clamp F) (fun _ => J_vec_Clamp F) (fun _ => hl_vec_Clamp F) (fun _ => hj_vec_Clamp F)
    (fun q => (congrArg (funL PP (S_vec_Clamp F) c_vec_Clamp (I_vec_Clamp F) (J_vec_Clamp F) 37) (show (fTs ti_vec_Clamp q).1 = (fTs ti_vec_Clamp [.i (atI (nth q 0)), .i (atI (nth q 1)), .i (atI (nth q 2)), .i (atI (nth q 3))]).1 by kernel_rfl)).trans (e_vec_Clamp F (atI (nth q 0)) (atI (nth q 1)) (atI (nth q 2)) (atI (nth q 3))))
    (fun _ h => (okT_fill h).trans (congrArg some (by kernel_rfl)))

end Go.Xv
set_option linter.unusedVariables false
namespace Go.Xv
/- 103 _ref02_Clamp -/
def c_ref02_Clamp : Cfg := ⟨[0, 1, 2, 6, 7, 8, 11, 16, 20], [], [], []⟩
def ti_ref02_Clamp : List TV := [.v (.int .i64), .v (.int .i64), .v (.int .i64)]
def to_ref02_Clamp : TV := .v (.tup [.int .i64, .bool])
def S_ref02_Clamp (F : Nat) : FuncId → List VV → Option (Bool × VV) := words []
def W_ref02_Clamp (F : Nat) : List LW := []
def I_ref02_Clamp (F : Nat) : Nat → VS → (Exit → VS → R) → R := tabI c_ref02_Clamp (W_ref02_Clamp F)
def WJ_ref02_Clamp (F : Nat) : List LJ := []
def J_ref02_Clamp (F : Nat) : Nat → Nat → VS → (Exit → VS → R) → R := tabJ (WJ_ref02_Clamp F)
def f_ref02_Clamp (F : Nat) (a0 : Int) (a1 : Int) (a2 : Int) : R :=
  bif ((decide (a2 < a1))) then (
    some (.v (.tuple #[.int .i64 a1, .bool true])))
  else (
    bif ((decide (a0 > a2))) then (
      bif ((decide (a2 < a1))) then (
        some (.v (.tuple #[.int .i64 a1, .bool ((a1 != a0))])))
      else (
        some (.v (.tuple #[.int .i64 a2, .bool ((a2 != a0))]))))
    else (
      bif ((decide (a0 < a1))) then (
        some (.v (.tuple #[.int .i64 a1, .bool ((a1 != a0))])))
      else (
        some (.v (.tuple #[.int .i64 a0, .bool ((a0 != a0))])))))
theorem e_ref02_Clamp (F : Nat) (a0 : Int) (a1 : Int) (a2 : Int) : funL PP (S_ref02_Clamp F) c_ref02_Clamp (I_ref02_Clamp F) (J_ref02_Clamp F) 103 (fTs ti_ref02_Clamp [.i a0, .i a1, .i a2]).1 = f_ref02_Clamp F a0 a1 a2 := by
  have h : ∀ (_ : Unit), funL PP (words []) c_ref02_Clamp (tabI c_ref02_Clamp []) (tabJ []) 103 (fTs ti_ref02_Clamp [.i a0, .i a1, .i a2]).1 = (
  bif ((decide (a2 < a1))) then (
    some (.v (.tuple #[.int .i64 a1, .bool true])))
  else (
    bif ((decide (a0 > a2))) then (
      bif ((decide (a2 < a1))) then (
        some (.v (.tuple #[.int .i64 a1, .bool ((a1 != a0))])))
      else (
        some (.v (.tuple #[.int .i64 a2, .bool ((a2 != a0))]))))
    else (
      bif ((decide (a0 < a1))) then (
        some (.v (.tuple #[.int .i64 a1, .bool ((a1 != a0))])))
      else (
        some (.v (.tuple #[.int .i64 a0, .bool ((a0 != a0))]))))) : R) := by
    intros
    kernel_rfl
  exact (h ()).trans (by kernel_rfl)
def ok_ref02_Clamp (F : Nat) (a0 : Int) (a1 : Int) (a2 : Int) : Bool := okT to_ref02_Clamp (f_ref02_Clamp F a0 a1 a2)
def o_ref02_Clamp_0 (F : Nat) (a0 : Int) (a1 : Int) (a2 : Int) : Int := atI (nth (outT to_ref02_Clamp (f_ref02_Clamp F a0 a1 a2)) 0)
def o_ref02_Clamp_1 (F : Nat) (a0 : Int) (a1 : Int) (a2 : Int) : Bool := atB (nth (outT to_ref02_Clamp (f_ref02_Clamp F a0 a1 a2)) 1)
theorem k_ref02_Clamp (F : Nat) (a0 : Int) (a1 : Int) (a2 : Int) {z0 : Int} {z1 : Bool} (h : f_ref02_Clamp F a0 a1 a2 = some (.v (.tuple #[.int .i64 z0, .bool z1]))) : ok_ref02_Clamp F a0 a1 a2 = true ∧ o_ref02_Clamp_0 F a0 a1 a2 = z0 ∧ o_ref02_Clamp_1 F a0 a1 a2 = z1 := by
  refine ⟨?_, ?_, ?_⟩
  · unfold ok_ref02_Clamp; rw [h]; kernel_rfl
  · unfold o_ref02_Clamp_0; rw [h]; kernel_rfl
  · unfold o_ref02_Clamp_1; rw [h]; kernel_rfl
def s_ref02_Clamp (F : Nat) : List VV → Option (Bool × VV) := spec ti_ref02_Clamp to_ref02_Clamp (fun q => (ok_ref02_Clamp F (atI (nth q 0)) (atI (nth q 1)) (atI (nth q 2)))) (fun q => [.i (o_ref02_Clamp_0 F (atI (nth q 0)) (atI (nth q 1)) (atI (nth q 2))), .b (o_ref02_Clamp_1 F (atI (nth q 0)) (atI (nth q 1)) (atI (nth q 2)))])
theorem hS_ref02_Clamp (F : Nat) : ∀ f, Good PP f (unS (S_ref02_Clamp F f)) := words_good fun p hp => by
  cases hp
theorem hl_ref02_Clamp (F : Nat) : ∀ p ∈ loopsIn PP 103, LoopOK PP (S_ref02_Clamp F) c_ref02_Clamp F (I_ref02_Clamp F) (J_ref02_Clamp F) p :=
  loops_of [] (by kernel_rfl) all_nil
theorem hj_ref02_Clamp (F : Nat) : ∀ p ∈ joinsIn PP c_ref02_Clamp 103, JoinOK PP (S_ref02_Clamp F) c_ref02_Clamp (I_ref02_Clamp F) (J_ref02_Clamp F) p :=
  joins_of [] (by kernel_rfl) all_nil
theorem g_ref02_Clamp (F : Nat) : Good PP 103 (unS (s_ref02_Clamp F)) :=
  fun_spec (hS_ref02_Clamp F) (by kernel_rfl) (by kernel_rfl) (C := c_ref02_Clamp) (F := fun q => (f_ref02_Clamp F (atI (nth q 0)) (atI (nth q 1)) (atI (nth q 2)))) (fun _ => F) (fun _ => I_ref02_Clamp F) (fun _ => J_ref02_Clamp F) (fun _ => hl_ref02_Clamp F) (fun _ => hj_ref02_Clamp F)
    (fun q => (congrArg (funL PP (S_ref02_Clamp F) c_ref02_Clamp (I_ref02_Clamp F) (J_ref02_Clamp F) 103) (show (fTs ti_ref02_Clamp q).1 = (fTs ti_ref02_Clamp [.i (atI (nth q 0)), .i (atI (nth q 1)), .i (atI (nth q 2))]).1 by kernel_rfl)).trans (e_ref02_Clamp F (atI (nth q 0)) (atI (nth q 1)) (atI (nth q 2))))
    (fun _ h => (okT_fill h).trans (congrArg some (by kernel_rfl)))

end Go.Xv
set_option linter.unusedVariables false
namespace Go.Xv
/- 60 _ref06_Clamp -/
def c_ref06_Clamp : Cfg := ⟨[0, 1, 2, 4, 5, 6, 7, 8, 9, 10, 11, 12], [], [], []⟩
def ti_ref06_Clamp : List TV := [.v (.agg [.int .i64, .int .i64, .int .i64]), .v (.int .i64)]
def to_ref06_Clamp : TV := .v (.tup [.agg [.int .i64, .int .i64, .int .i64], .bool])
def S_ref06_Clamp (F : Nat) : FuncId → List VV → Option (Bool × VV) := words [(103, s_ref02_Clamp F)]
def W_ref06_Clamp (F : Nat) : List LW := []
def I_ref06_Clamp (F : Nat) : Nat → VS → (Exit → VS → R) → R := tabI c_ref06_Clamp (W_ref06_Clamp F)
def WJ_ref06_Clamp (F : Nat) : List LJ := []
def J_ref06_Clamp (F : Nat) : Nat → Nat → VS → (Exit → VS → R) → R := tabJ (WJ_ref06_Clamp F)
def f_ref06_Clamp (F : Nat) (a0 : Int) (a1 : Int) (a2 : Int) (a3 : Int) : R :=
  let v2004 : Int := (if 0 > a3 then 0 else a3)
  let v2005 : Int := (IntKind.wrap .i64 (0 - v2004))
  bif (ok_ref02_Clamp F a0 v2005 v2004) then (
    let v2014 : Int := (o_ref02_Clamp_0 F a0 v2005 v2004)
    let v2016 : Int := (IntKind.wrap .i64 (0 - v2004))
    bif (ok_ref02_Clamp F a1 v2016 v2004) then (
      let v2017 : Int := (o_ref02_Clamp_0 F a1 v2016 v2004)
      let v2019 : Int := (IntKind.wrap .i64 (0 - v2004))
      bif (ok_ref02_Clamp F a2 v2019 v2004) then (
        let v2020 : Int := (o_ref02_Clamp_0 F a2 v2019 v2004)
        bif ((o_ref02_Clamp_1 F a0 v2005 v2004)) then (
          some (.v (.tuple #[.agg #[.int .i64 v2014, .int .i64 v2017, .int .i64 v2020], .bool true])))
        else (
          bif ((o_ref02_Clamp_1 F a1 v2016 v2004)) then (
            some (.v (.tuple #[.agg #[.int .i64 v2014, .int .i64 v2017, .int .i64 v2020], .bool true])))
          else (
            some (.v (.tuple #[.agg #[.int .i64 v2014, .int .i64 v2017, .int .i64 v2020], .bool ((o_ref02_Clamp_1 F a2 v2019 v2004))])))))
      else (
        none))
    else (
      none))
  else (
    none)
theorem e_ref06_Clamp (F : Nat) (a0 : Int) (a1 : Int) (a2 : Int) (a3 : Int) : funL PP (S_ref06_Clamp F) c_ref06_Clamp (I_ref06_Clamp F) (J_ref06_Clamp F) 60 (fTs ti_ref06_Clamp [.i a0, .i a1, .i a2, .i a3]).1 = f_ref06_Clamp F a0 a1 a2 a3 := by
  have h : ∀ (ok_ref02_Clamp : Nat → Int → Int → Int → Bool) (o_ref02_Clamp_0 : Nat → Int → Int → Int → Int) (o_ref02_Clamp_1 : Nat → Int → Int → Int → Bool), funL PP (words [(103, spec ti_ref02_Clamp to_ref02_Clamp (fun q => (ok_ref02_Clamp F (atI (nth q 0)) (atI (nth q 1)) (atI (nth q 2)))) (fun q => [.i (o_ref02_Clamp_0 F (atI (nth q 0)) (atI (nth q 1)) (atI (nth q 2))), .b (o_ref02_Clamp_1 F (atI (nth q 0)) (atI (nth q 1)) (atI (nth q 2)))]))]) c_ref06_Clamp (tabI c_ref06_Clamp []) (tabJ []) 60 (fTs ti_ref06_Clamp [.i a0, .i a1, .i a2, .i a3]).1 = (
  let v2004 : Int := (if 0 > a3 then 0 else a3)
  let v2005 : Int := (IntKind.wrap .i64 (0 - v2004))
  bif (ok_ref02_Clamp F a0 v2005 v2004) then (
    let v2014 : Int := (o_ref02_Clamp_0 F a0 v2005 v2004)
    let v2016 : Int := (IntKind.wrap .i64 (0 - v2004))
    bif (ok_ref02_Clamp F a1 v2016 v2004) then (
      let v2017 : Int := (o_ref02_Clamp_0 F a1 v2016 v2004)
      let v2019 : Int := (IntKind.wrap .i64 (0 - v2004))
      bif (ok_ref02_Clamp F a2 v2019 v2004) then (
        let v2020 : Int := (o_ref02_Clamp_0 F a2 v2019 v2004)
        bif ((o_ref02_Clamp_1 F a0 v2005 v2004)) then (
          some (.v (.tuple #[.agg #[.int .i64 v2014, .int .i64 v2017, .int .i64 v2020], .bool true])))
        else (
          bif ((o_ref02_Clamp_1 F a1 v2016 v2004)) then (
            some (.v (.tuple #[.agg #[.int .i64 v2014, .int .i64 v2017, .int .i64 v2020], .bool true])))
          else (
            some (.v (.tuple #[.agg #[.int .i64 v2014, .int .i64 v2017, .int .i64 v2020], .bool ((o_ref02_Clamp_1 F a2 v2019 v2004))])))))
      else (
        none))
    else (
      none))
  else (
    none) : R) := by
    intros
    kernel_rfl
  exact (h ok_ref02_Clamp o_ref02_Clamp_0 o_ref02_Clamp_1).trans (by kernel_rfl)
def ok_ref06_Clamp (F : Nat) (a0 : Int) (a1 : Int) (a2 : Int) (a3 : Int) : Bool := okT to_ref06_Clamp (f_ref06_Clamp F a0 a1 a2 a3)
def o_ref06_Clamp_0 (F : Nat) (a0 : Int) (a1 : Int) (a2 : Int) (a3 : Int) : Int := atI (nth (outT to_ref06_Clamp (f_ref06_Clamp F a0 a1 a2 a3)) 0)
def o_ref06_Clamp_1 (F : Nat) (a0 : Int) (a1 : Int) (a2 : Int) (a3 : Int) : Int := atI (nth (outT to_ref06_Clamp (f_ref06_Clamp F a0 a1 a2 a3)) 1)
def o_ref06_Clamp_2 (F : Nat) (a0 : Int) (a1 : Int) (a2 : Int) (a3 : Int) : Int := atI (nth (outT to_ref06_Clamp (f_ref06_Clamp F a0 a1 a2 a3)) 2)
def o_ref06_Clamp_3 (F : Nat) (a0 : Int) (a1 : Int) (a2 : Int) (a3 : Int) : Bool := atB (nth (outT to_ref06_Clamp (f_ref06_Clamp F a0 a1 a2 a3)) 3)
theorem k_ref06_Clamp (F : Nat) (a0 : Int) (a1 : Int) (a2 : Int) (a3 : Int) {z0 : Int} {z1 : Int} {z2 : Int} {z3 : Bool} (h : f_ref06_Clamp F a0 a1 a2 a3 = some (.v (.tuple #[.agg #[.int .i64 z0, .int .i64 z1, .int .i64 z2], .bool z3]))) : ok_ref06_Clamp F a0 a1 a2 a3 = true ∧ o_ref06_Clamp_0 F a0 a1 a2 a3 = z0 ∧ o_ref06_Clamp_1 F a0 a1 a2 a3 = z1 ∧ o_ref06_Clamp_2 F a0 a1 a2 a3 = z2 ∧ o_ref06_Clamp_3 F a0 a1 a2 a3 = z3 := by
  refine ⟨?_, ?_, ?_, ?_, ?_⟩
  · unfold ok_ref06_Clamp; rw [h]; kernel_rfl
  · unfold o_ref06_Clamp_0; rw [h]; kernel_rfl
  · unfold o_ref06_Clamp_1; rw [h]; kernel_rfl
  · unfold o_ref06_Clamp_2; rw [h]; kernel_rfl
  · unfold o_ref06_Clamp_3; rw [h]; kernel_rfl
def s_ref06_Clamp (F : Nat) : List VV → Option (Bool × VV) := spec ti_ref06_Clamp to_ref06_Clamp (fun q => (ok_ref06_Clamp F (atI (nth q 0)) (atI (nth q 1)) (atI (nth q 2)) (atI (nth q 3)))) (fun q => [.i (o_ref06_Clamp_0 F (atI (nth q 0)) (atI (nth q 1)) (atI (nth q 2)) (atI (nth q 3))), .i (o_ref06_Clamp_1 F (atI (nth q 0)) (atI (nth q 1)) (atI (nth q 2)) (atI (nth q 3))), .i (o_ref06_Clamp_2 F (atI (nth q 0)) (atI (nth q 1)) (atI (nth q 2)) (atI (nth q 3))), .b (o_ref06_Clamp_3 F (atI (nth q 0)) (atI (nth q 1)) (atI (nth q 2)) (atI (nth q 3)))])
theorem hS_ref06_Clamp (F : Nat) : ∀ f, Good PP f (unS (S_ref06_Clamp F f)) := words_good fun p hp => by
  simp only [List.mem_cons, List.not_mem_nil, or_false] at hp
  rcases hp with rfl
  · exact g_ref02_Clamp F
theorem hl_ref06_Clamp (F : Nat) : ∀ p ∈ loopsIn PP 60, LoopOK PP (S_ref06_Clamp F) c_ref06_Clamp F (I_ref06_Clamp F) (J_ref06_Clamp F) p :=
  loops_of [] (by kernel_rfl) all_nil
theorem hj_ref06_Clamp (F : Nat) : ∀ p ∈ joinsIn PP c_ref06_Clamp 60, JoinOK PP (S_ref06_Clamp F) c_ref06_Clamp (I_ref06_Clamp F) (J_ref06_Clamp F) p :=
  joins_of [] (by kernel_rfl) all_nil
theorem g_ref06_Clamp (F : Nat) : Good PP 60 (unS (s_ref06_Clamp F)) :=
  fun_spec (hS_ref06_Clamp F) (by kernel_rfl) (by kernel_rfl) (C := c_ref06_Clamp) (F := fun q => (f_ref06_Clamp F (atI (nth q 0)) (atI (nth q 1)) (atI (nth q 2)) (atI (nth q 3)))) (fun _ => F) (fun _ => I_ref06_Clamp F) (fun _ => J_ref06_Clamp F) (fun _ => hl_ref06_Clamp F) (fun _ => hj_ref06_Clamp F)
    (fun q => (congrArg (funL PP (S_ref06_Clamp F) c_ref06_Clamp (I_ref06_Clamp F) (J_ref06_Clamp F) 60) (show (fTs ti_ref06_Clamp q).1 = (fTs ti_ref06_Clamp [.i (atI (nth q 0)), .i (atI (nth q 1)), .i (atI (nth q 2)), .i (atI (nth q 3))]).1 by kernel_rfl)).trans (e_ref06_Clamp F (atI (nth q 0)) (atI (nth q 1)) (atI (nth q 2)) (atI (nth q 3))))
    (fun _ h => (okT_fill h).trans (congrArg some (by kernel_rfl)))

end Go.Xv
set_option linter.unusedVariables false
namespace Go.Xv
/- 104 _vec_Unit_1 -/
def c_vec_Unit_1 : Cfg := ⟨[0, 1, 2, 4, 5], [], [], []⟩
def ti_vec_Unit_1 : List TV := [.v (.int .i64), .fpx [.v (.int .i64), .v (.int .i64), .v (.int .i64)] (.lit 0), .fpx [.v (.int .i64)] (.lit 0)]
def to_vec_Unit_1 : TV := .v (.tup [.int .i64, .bool])
def S_vec_Unit_1 (F : Nat) : FuncId → List VV → Option (Bool × VV) := words [(105, s_fix_Div F)]
def W_vec_Unit_1 (F : Nat) : List LW := []
def I_vec_Unit_1 (F : Nat) : Nat → VS → (Exit → VS → R) → R := tabI c_vec_Unit_1 (W_vec_Unit_1 F)
def WJ_vec_Unit_1 (F : Nat) : List LJ := []
def J_vec_Unit_1 (F : Nat) : Nat → Nat → VS → (Exit → VS → R) → R := tabJ (WJ_vec_Unit_1 F)
def f_vec_Unit_1 (F : Nat) (a0 : Int) (a1 : Int) (a2 : Int) (a3 : Int) (a4 : Int) : R :=
  bif ((decide (0 ≤ a0)) && (decide (a0 < 3))) then (
    let v2041 : Nat := (0 + ((Int.toNat a0) * 1))
    bif ((isI .i64 [.v (.int .i64 a1), .v (.int .i64 a2), .v (.int .i64 a3)][v2041]?) && true) then (
      let v2042 : Int := (iv [.v (.int .i64 a1), .v (.int .i64 a2), .v (.int .i64 a3)][v2041]?)
      bif (ok_fix_Div F v2042 a4) then (
        some (.v (.tuple #[.int .i64 ((o_fix_Div_0 F v2042 a4)), .bool ((o_fix_Div_1 F v2042 a4))])))
      else (
        none))
    else (
      none))
  else (
    none)
theorem e_vec_Unit_1 (F : Nat) (a0 : Int) (a1 : Int) (a2 : Int) (a3 : Int) (a4 : Int) : funL PP (S_vec_Unit_1 F) c_vec_Unit_1 (I_vec_Unit_1 F) (J_vec_Unit_1 F) 104 (fTs ti_vec_Unit_1 [.i a0, .i a1, .i a2, .i a3, .i a4]).1 = f_vec_Unit_1 F a0 a1 a2 a3 a4 := by
  have h : ∀ (ok_fix_Div : Nat → Int → Int → Bool) (o_fix_Div_0 : Nat → Int → Int → Int) (o_fix_Div_1 : Nat → Int → Int → Bool), funL PP (words [(105, spec ti_fix_Div to_fix_Div (fun q => (ok_fix_Div F (atI (nth q 0)) (atI (nth q 1)))) (fun q => [.i (o_fix_Div_0 F (atI (nth q 0)) (atI (nth q 1))), .b (o_fix_Div_1 F (atI (nth q 0)) (atI (nth q 1)))]))]) c_vec_Unit_1 (tabI c_vec_Unit_1 []) (tabJ []) 104 (fTs ti_vec_Unit_1 [.i a0, .i a1, .i a2, .i a3, .i a4]).1 = (
  bif ((decide (0 ≤ a0)) && (decide (a0 < 3))) then (
    let v2041 : Nat := (0 + ((Int.toNat a0) * 1))
    bif ((isI .i64 [.v (.int .i64 a1), .v (.int .i64 a2), .v (.int .i64 a3)][v2041]?) && true) then (
      let v2042 : Int := (iv [.v (.int .i64 a1), .v (.int .i64 a2), .v (.int .i64 a3)][v2041]?)
      bif (ok_fix_Div F v2042 a4) then (
        some (.v (.tuple #[.int .i64 ((o_fix_Div_0 F v2042 a4)), .bool ((o_fix_Div_1 F v2042 a4))])))
      else (
        none))
    else (
      none))
  else (
    none) : R) := by
    intros
    kernel_rfl
  exact (h ok_fix_Div o_fix_Div_0 o_fix_Div_1).trans (by kernel_rfl)
def ok_vec_Unit_1 (F : Nat) (a0 : Int) (a1 : Int) (a2 : Int) (a3 : Int) (a4 : Int) : Bool := okT to_vec_Unit_1 (f_vec_Unit_1 F a0 a1 a2 a3 a4)
def o_vec_Unit_1_0 (F : Nat) (a0 : Int) (a1 : Int) (a2 : Int) (a3 : Int) (a4 : Int) : Int := atI (nth (outT to_vec_Unit_1 (f_vec_Unit_1 F a0 a1 a2 a3 a4)) 0)
def o_vec_Unit_1_1 (F : Nat) (a0 : Int) (a1 : Int) (a2 : Int) (a3 : Int) (a4 : Int) : Bool := atB (nth (outT to_vec_Unit_1 (f_vec_Unit_1 F a0 a1 a2 a3 a4)) 1)
theorem k_vec_Unit_1 (F : Nat) (a0 : Int) (a1 : Int) (a2 : Int) (a3 : Int) (a4 : Int) {z0 : Int} {z1 : Bool} (h : f_vec_Unit_1 F a0 a1 a2 a3 a4 = some (.v (.tuple #[.int .i64 z0, .bool z1]))) : ok_vec_Unit_1 F a0 a1 a2 a3 a4 = true ∧ o_vec_Unit_1_0 F a0 a1 a2 a3 a4 = z0 ∧ o_vec_Unit_1_1 F a0 a1 a2 a3 a4 = z1 := by
  refine ⟨?_, ?_, ?_⟩
  · unfold ok_vec_Unit_1; rw [h]; kernel_rfl
  · unfold o_vec_Unit_1_0; rw [h]; kernel_rfl
  · unfold o_vec_Unit_1_1; rw [h]; kernel_rfl
def s_vec_Unit_1 (F : Nat) : List VV → Option (Bool × VV) := spec ti_vec_Unit_1 to_vec_Unit_1 (fun q => (ok_vec_Unit_1 F (atI (nth q 0)) (atI (nth q 1)) (atI (nth q 2)) (atI (nth q 3)) (atI (nth q 4)))) (fun q => [.i (o_vec_Unit_1_0 F (atI (nth q 0)) (atI (nth q 1)) (atI (nth q 2)) (atI (nth q 3)) (atI (nth q 4))), .b (o_vec_Unit_1_1 F (atI (nth q 0)) (atI (nth q 1)) (atI (nth q 2)) (atI (nth q 3)) (atI (nth q 4)))])
theorem hS_vec_Unit_1 (F : Nat) : ∀ f, Good PP f (unS (S_vec_Unit_1 F f)) := words_good fun p hp => by
  simp only [List.mem_cons, List.not_mem_nil, or_false] at hp
  rcases hp with rfl
  · exact g_fix_Div F
theorem hl_vec_Unit_1 (F : Nat) : ∀ p ∈ loopsIn PP 104, LoopOK PP (S_vec_Unit_1 F) c_vec_Unit_1 F (I_vec_Unit_1 F) (J_vec_Unit_1 F) p :=
  loops_of [] (by kernel_rfl) all_nil
theorem hj_vec_Unit_1 (F : Nat) : ∀ p ∈ joinsIn PP c_vec_Unit_1 104, JoinOK PP (S_vec_Unit_1 F) c_vec_Unit_1 (I_vec_Unit_1 F) (J_vec_Unit_1 F) p :=
  joins_of [] (by kernel_rfl) all_nil
theorem g_vec_Unit_1 (F : Nat) : Good PP 104 (unS (s_vec_Unit_1 F)) :=
  fun_spec (hS_vec_Unit_1 F) (by kernel_rfl) (by kernel_rfl) (C := c_vec_Unit_1) (F := fun q => (f_vec_Unit_1 F (atI (nth q 0)) (atI (nth q 1)) (atI (nth q 2)) (atI (nth q 3)) (atI (nth q 4)))) (fun _ => F) (fun _ => I_vec_Unit_1 F) (fun _ => J_vec_Unit_1 F) (fun _ => hl_vec_Unit_1 F) (fun _ => hj_vec_Unit_1 F)
    (fun q => (congrArg (funL PP (S_vec_Unit_1 F) c_vec_Unit_1 (I_vec_Unit_1 F) (J_vec_Unit_1 F) 104) (show (fTs ti_vec_Unit_1 q).1 = (fTs ti_vec_Unit_1 [.i (atI (nth q 0)), .i (atI (nth q 1)), .i (atI (nth q 2)), .i (atI (nth q 3)), .i (atI (nth q 4))]).1 by kernel_rfl)).trans (e_vec_Unit_1 F (atI (nth q 0)) (atI (nth q 1)) (atI (nth q 2)) (atI (nth q 3)) (atI (nth q 4))))
    (fun _ h => (okT_fill h).trans (congrArg some (by kernel_rfl)))

end Go.Xv
set_option linter.unusedVariables false
namespace Go.Xv
/- 90 _vec_eachv2 -/
def c_vec_eachv2 : Cfg := ⟨[0, 2, 3, 4, 5, 6, 7, 8, 9, 10], [(0, [0, 2, 3, 4, 5, 9, 26, 27])], [], []⟩
def ti_vec_eachv2 : List TV := [.fn 104 [.fpx [.v (.int .i64), .v (.int .i64), .v (.int .i64)] (.lit 0), .fpx [.v (.int .i64)] (.lit 0)]]
def to_vec_eachv2 : TV := .v (.tup [.agg [.int .i64, .int .i64, .int .i64], .bool])
def S_vec_eachv2 (F : Nat) : FuncId → List VV → Option (Bool × VV) := words [(104, s_vec_Unit_1 F)]
def T_vec_eachv2_0 : TS := ⟨[(0, .fn 104 [.fpx [.v (.int .i64), .v (.int .i64), .v (.int .i64)] (.lit 0), .fpx [.v (.int .i64)] (.lit 0)]), (2, .lp 0 (.lit 0)), (3, .v (.bool)), (4, .lp 1 (.lit 0)), (5, .v (.bool)), (9, .v (.int .i64))], [(0, ⟨(.ex [.v (.int .i64), .v (.int .i64), .v (.int .i64)]), true⟩), (1, ⟨.hole, true⟩)], 2⟩
def T_vec_eachv2_0_0 : TS := ⟨[(0, .fn 104 [.fpx [.v (.int .i64), .v (.int .i64), .v (.int .i64)] (.lit 0), .fpx [.v (.int .i64)] (.lit 0)]), (2, .lp 0 (.lit 0)), (3, .v (.bool)), (4, .lp 1 (.lit 0)), (5, .v (.bool)), (9, .v (.int .i64))], [(0, ⟨(.ex [.v (.int .i64), .v (.int .i64), .v (.int .i64)]), true⟩), (1, ⟨.hole, true⟩)], 2⟩
def B_vec_eachv2_0 (F : Nat) (rc : Int → Int → Int → Int → Bool → Bool → Int → Int → Int → Int → List VV → R) (ex0 : Int → Int → Int → Int → Bool → Bool → Int → Int → Int → Int → List VV → R) (x0 : Int) (x1 : Int) (x2 : Int) (x3 : Int) (x4 : Bool) (x5 : Bool) (x6 : Int) (x7 : Int) (x8 : Int) (x9 : Int) (x10 : List VV) : R :=
  bif ((decide (x6 < 3))) then (
    bif (ok_vec_Unit_1 F x6 x0 x1 x2 x3) then (
      let v2132 : Int := (o_vec_Unit_1_0 F x6 x0 x1 x2 x3)
      bif x5 then (
        bif ((decide (0 ≤ x6)) && (decide (x6 < 3))) then (
          let v2134 : Nat := (0 + ((Int.toNat x6) * 1))
          bif (decide ((v2134 + 1) ≤ x10.length)) then (
            rc x0 x1 x2 x3 x4 true ((IntKind.wrap .i64 (x6 + 1))) x7 x8 x9 ((x10.take v2134 ++ [.v (.int .i64 v2132)] ++ x10.drop (v2134 + 1))))
          else (
            none))
        else (
          none))
      else (
        bif ((decide (0 ≤ x6)) && (decide (x6 < 3))) then (
          let v2137 : Nat := (0 + ((Int.toNat x6) * 1))
          bif (decide ((v2137 + 1) ≤ x10.length)) then (
            rc x0 x1 x2 x3 x4 ((o_vec_Unit_1_1 F x6 x0 x1 x2 x3)) ((IntKind.wrap .i64 (x6 + 1))) x7 x8 x9 ((x10.take v2137 ++ [.v (.int .i64 v2132)] ++ x10.drop (v2137 + 1))))
          else (
            none))
        else (
          none)))
    else (
      none))
  else (
    ex0 x0 x1 x2 x3 x4 x5 x6 x7 x8 x9 x10)
def L_vec_eachv2_0 (F : Nat) (ex0 : Int → Int → Int → Int → Bool → Bool → Int → Int → Int → Int → List VV → R) : Nat → Int → Int → Int → Int → Bool → Bool → Int → Int → Int → Int → List VV → R
  | 0, _, _, _, _, _, _, _, _, _, _, _ => none
  | n + 1, x0, x1, x2, x3, x4, x5, x6, x7, x8, x9, x10 => B_vec_eachv2_0 F (L_vec_eachv2_0 F ex0 n) ex0 x0 x1 x2 x3 x4 x5 x6 x7 x8 x9 x10
def W_vec_eachv2 (F : Nat) : List LW := [⟨0, T_vec_eachv2_0, fun k q => L_vec_eachv2_0 F (fun (z0 : Int) (z1 : Int) (z2 : Int) (z3 : Int) (z4 : Bool) (z5 : Bool) (z6 : Int) (z7 : Int) (z8 : Int) (z9 : Int) (z10 : List VV) => k (.exit 0) (fS T_vec_eachv2_0_0 [.i z0, .i z1, .i z2, .i z3, .b z4, .b z5, .i z6, .i z7, .i z8, .i z9, .c z10])) F (atI (nth q 0)) (atI (nth q 1)) (atI (nth q 2)) (atI (nth q 3)) (atB (nth q 4)) (atB (nth q 5)) (atI (nth q 6)) (atI (nth q 7)) (atI (nth q 8)) (atI (nth q 9)) (atC (nth q 10))⟩]
def I_vec_eachv2 (F : Nat) : Nat → VS → (Exit → VS → R) → R := tabI c_vec_eachv2 (W_vec_eachv2 F)
def WJ_vec_eachv2 (F : Nat) : List LJ := []
def J_vec_eachv2 (F : Nat) : Nat → Nat → VS → (Exit → VS → R) → R := tabJ (WJ_vec_eachv2 F)
theorem lL_vec_eachv2_0 (F : Nat) (k : Exit → VS → R) : ∀ (n : Nat) (x0 : Int) (x1 : Int) (x2 : Int) (x3 : Int) (x4 : Bool) (x5 : Bool) (x6 : Int) (x7 : Int) (x8 : Int) (x9 : Int) (x10 : List VV), iterC (codeL PP (S_vec_eachv2 F) c_vec_eachv2 (I_vec_eachv2 F) (J_vec_eachv2 F) (loopAt PP 90 0) 0) (headOf c_vec_eachv2 0) k n (fS T_vec_eachv2_0 [.i x0, .i x1, .i x2, .i x3, .b x4, .b x5, .i x6, .i x7, .i x8, .i x9, .c x10]) = L_vec_eachv2_0 F (fun (z0 : Int) (z1 : Int) (z2 : Int) (z3 : Int) (z4 : Bool) (z5 : Bool) (z6 : Int) (z7 : Int) (z8 : Int) (z9 : Int) (z10 : List VV) => k (.exit 0) (fS T_vec_eachv2_0_0 [.i z0, .i z1, .i z2, .i z3, .b z4, .b z5, .i z6, .i z7, .i z8, .i z9, .c z10])) n x0 x1 x2 x3 x4 x5 x6 x7 x8 x9 x10
  | 0, _, _, _, _, _, _, _, _, _, _, _ => rfl
  | n + 1, x0, x1, x2, x3, x4, x5, x6, x7, x8, x9, x10 => by
    have h0 : ∀ (ok_vec_Unit_1 : Nat → Int → Int → Int → Int → Int → Bool) (o_vec_Unit_1_0 : Nat → Int → Int → Int → Int → Int → Int) (o_vec_Unit_1_1 : Nat → Int → Int → Int → Int → Int → Bool) (L_vec_eachv2_0 : Nat → (Int → Int → Int → Int → Bool → Bool → Int → Int → Int → Int → List VV → R) → Nat → Int → Int → Int → Int → Bool → Bool → Int → Int → Int → Int → List VV → R), iterC (codeL PP (words [(104, spec ti_vec_Unit_1 to_vec_Unit_1 (fun q => (ok_vec_Unit_1 F (atI (nth q 0)) (atI (nth q 1)) (atI (nth q 2)) (atI (nth q 3)) (atI (nth q 4)))) (fun q => [.i (o_vec_Unit_1_0 F (atI (nth q 0)) (atI (nth q 1)) (atI (nth q 2)) (atI (nth q 3)) (atI (nth q 4))), .b (o_vec_Unit_1_1 F (atI (nth q 0)) (atI (nth q 1)) (atI (nth q 2)) (atI (nth q 3)) (atI (nth q 4)))]))]) c_vec_eachv2 (tabI c_vec_eachv2 [⟨0, T_vec_eachv2_0, fun k q => L_vec_eachv2_0 F (fun (z0 : Int) (z1 : Int) (z2 : Int) (z3 : Int) (z4 : Bool) (z5 : Bool) (z6 : Int) (z7 : Int) (z8 : Int) (z9 : Int) (z10 : List VV) => k (.exit 0) (fS T_vec_eachv2_0_0 [.i z0, .i z1, .i z2, .i z3, .b z4, .b z5, .i z6, .i z7, .i z8, .i z9, .c z10])) F (atI (nth q 0)) (atI (nth q 1)) (atI (nth q 2)) (atI (nth q 3)) (atB (nth q 4)) (atB (nth q 5)) (atI (nth q 6)) (atI (nth q 7)) (atI (nth q 8)) (atI (nth q 9)) (atC (nth q 10))⟩]) (tabJ []) (loopAt PP 90 0) 0) (headOf c_vec_eachv2 0) k (n + 1) (fS T_vec_eachv2_0 [.i x0, .i x1, .i x2, .i x3, .b x4, .b x5, .i x6, .i x7, .i x8, .i x9, .c x10]) = (fun (rc : Int → Int → Int → Int → Bool → Bool → Int → Int → Int → Int → List VV → R) (ex0 : Int → Int → Int → Int → Bool → Bool → Int → Int → Int → Int → List VV → R) (x0 : Int) (x1 : Int) (x2 : Int) (x3 : Int) (x4 : Bool) (x5 : Bool) (x6 : Int) (x7 : Int) (x8 : Int) (x9 : Int) (x10 : List VV) => (
  bif ((decide (x6 < 3))) then (
    bif (ok_vec_Unit_1 F x6 x0 x1 x2 x3) then (
      let v2132 : Int := (o_vec_Unit_1_0 F x6 x0 x1 x2 x3)
      bif x5 then (
        bif ((decide (0 ≤ x6)) && (decide (x6 < 3))) then (
          let v2134 : Nat := (0 + ((Int.toNat x6) * 1))
          bif (decide ((v2134 + 1) ≤ x10.length)) then (
            rc x0 x1 x2 x3 x4 true ((IntKind.wrap .i64 (x6 + 1))) x7 x8 x9 ((x10.take v2134 ++ [.v (.int .i64 v2132)] ++ x10.drop (v2134 + 1))))
          else (
            none))
        else (
          none))
      else (
        bif ((decide (0 ≤ x6)) && (decide (x6 < 3))) then (
          let v2137 : Nat := (0 + ((Int.toNat x6) * 1))
          bif (decide ((v2137 + 1) ≤ x10.length)) then (
            rc x0 x1 x2 x3 x4 ((o_vec_Unit_1_1 F x6 x0 x1 x2 x3)) ((IntKind.wrap .i64 (x6 + 1))) x7 x8 x9 ((x10.take v2137 ++ [.v (.int .i64 v2132)] ++ x10.drop (v2137 + 1))))
          else (
            none))
        else (
          none)))
    else (
      none))
  else (
    ex0 x0 x1 x2 x3 x4 x5 x6 x7 x8 x9 x10) : R)) (fun (y0 : Int) (y1 : Int) (y2 : Int) (y3 : Int) (y4 : Bool) (y5 : Bool) (y6 : Int) (y7 : Int) (y8 : Int) (y9 : Int) (y10 : List VV) => iterC (codeL PP (words [(104, spec ti_vec_Unit_1 to_vec_Unit_1 (fun q => (ok_vec_Unit_1 F (atI (nth q 0)) (atI (nth q 1)) (atI (nth q 2)) (atI (nth q 3)) (atI (nth q 4)))) (fun q => [.i (o_vec_Unit_1_0 F (atI (nth q 0)) (atI (nth q 1)) (atI (nth q 2)) (atI (nth q 3)) (atI (nth q 4))), .b (o_vec_Unit_1_1 F (atI (nth q 0)) (atI (nth q 1)) (atI (nth q 2)) (atI (nth q 3)) (atI (nth q 4)))]))]) c_vec_eachv2 (tabI c_vec_eachv2 [⟨0, T_vec_eachv2_0, fun k q => L_vec_eachv2_0 F (fun (z0 : Int) (z1 : Int) (z2 : Int) (z3 : Int) (z4 : Bool) (z5 : Bool) (z6 : Int) (z7 : Int) (z8 : Int) (z9 : Int) (z10 : List VV) => k (.exit 0) (fS T_vec_eachv2_0_0 [.i z0, .i z1, .i z2, .i z3, .b z4, .b z5, .i z6, .i z7, .i z8, .i z9, .c z10])) F (atI (nth q 0)) (atI (nth q 1)) (atI (nth q 2)) (atI (nth q 3)) (atB (nth q 4)) (atB (nth q 5)) (atI (nth q 6)) (atI (nth q 7)) (atI (nth q 8)) (atI (nth q 9)) (atC (nth q 10))⟩]) (tabJ []) (loopAt PP 90 0) 0) (headOf c_vec_eachv2 0) k n (fS T_vec_eachv2_0 [.i y0, .i y1, .i y2, .i y3, .b y4, .b y5, .i y6, .i y7, .i y8, .i y9, .c y10])) (fun (z0 : Int) (z1 : Int) (z2 : Int) (z3 : Int) (z4 : Bool) (z5 : Bool) (z6 : Int) (z7 : Int) (z8 : Int) (z9 : Int) (z10 : List VV) => k (.exit 0) (fS T_vec_eachv2_0_0 [.i z0, .i z1, .i z2, .i z3, .b z4, .b z5, .i z6, .i z7, .i z8, .i z9, .c z10])) x0 x1 x2 x3 x4 x5 x6 x7 x8 x9 x10 := by
      intros
      kernel_rfl
    have h : iterC (codeL PP (S_vec_eachv2 F) c_vec_eachv2 (I_vec_eachv2 F) (J_vec_eachv2 F) (loopAt PP 90 0) 0) (headOf c_vec_eachv2 0) k (n + 1) (fS T_vec_eachv2_0 [.i x0, .i x1, .i x2, .i x3, .b x4, .b x5, .i x6, .i x7, .i x8, .i x9, .c x10]) = B_vec_eachv2_0 F (fun (y0 : Int) (y1 : Int) (y2 : Int) (y3 : Int) (y4 : Bool) (y5 : Bool) (y6 : Int) (y7 : Int) (y8 : Int) (y9 : Int) (y10 : List VV) => iterC (codeL PP (S_vec_eachv2 F) c_vec_eachv2 (I_vec_eachv2 F) (J_vec_eachv2 F) (loopAt PP 90 0) 0) (headOf c_vec_eachv2 0) k n (fS T_vec_eachv2_0 [.i y0, .i y1, .i y2, .i y3, .b y4, .b y5, .i y6, .i y7, .i y8, .i y9, .c y10])) (fun (z0 : Int) (z1 : Int) (z2 : Int) (z3 : Int) (z4 : Bool) (z5 : Bool) (z6 : Int) (z7 : Int) (z8 : Int) (z9 : Int) (z10 : List VV) => k (.exit 0) (fS T_vec_eachv2_0_0 [.i z0, .i z1, .i z2, .i z3, .b z4, .b z5, .i z6, .i z7, .i z8, .i z9, .c z10])) x0 x1 x2 x3 x4 x5 x6 x7 x8 x9 x10 := (h0 ok_vec_Unit_1 o_vec_Unit_1_0 o_vec_Unit_1_1 L_vec_eachv2_0).trans (by kernel_rfl)
    rw [h]
    simp only [lL_vec_eachv2_0 F k n]
    rfl
def f_vec_eachv2 (F : Nat) (a0 : Int) (a1 : Int) (a2 : Int) (a3 : Int) : R :=
  L_vec_eachv2_0 F (fun (v2140 : Int) (v2141 : Int) (v2142 : Int) (v2143 : Int) (v2144 : Bool) (v2145 : Bool) (v2146 : Int) (v2147 : Int) (v2148 : Int) (v2149 : Int) (v2150 : List VV) =>
    bif ((isI .i64 v2150[0]?) && ((isI .i64 v2150[1]?) && ((isI .i64 v2150[2]?) && true))) then (
      some (.v (.tuple #[.agg #[.int .i64 ((iv v2150[0]?)), .int .i64 ((iv v2150[1]?)), .int .i64 ((iv v2150[2]?))], .bool v2145])))
    else (
      none)) F a0 a1 a2 a3 false false 0 0 0 0 ([.v (.int .i64 0), .v (.int .i64 0), .v (.int .i64 0)])
theorem e_vec_eachv2 (F : Nat) (a0 : Int) (a1 : Int) (a2 : Int) (a3 : Int) : funL PP (S_vec_eachv2 F) c_vec_eachv2 (I_vec_eachv2 F) (J_vec_eachv2 F) 90 (fTs ti_vec_eachv2 [.i a0, .i a1, .i a2, .i a3]).1 = f_vec_eachv2 F a0 a1 a2 a3 := by
  have h : ∀ (ok_vec_Unit_1 : Nat → Int → Int → Int → Int → Int → Bool) (o_vec_Unit_1_0 : Nat → Int → Int → Int → Int → Int → Int) (o_vec_Unit_1_1 : Nat → Int → Int → Int → Int → Int → Bool) (L_vec_eachv2_0 : Nat → (Int → Int → Int → Int → Bool → Bool → Int → Int → Int → Int → List VV → R) → Nat → Int → Int → Int → Int → Bool → Bool → Int → Int → Int → Int → List VV → R), funL PP (words [(104, spec ti_vec_Unit_1 to_vec_Unit_1 (fun q => (ok_vec_Unit_1 F (atI (nth q 0)) (atI (nth q 1)) (atI (nth q 2)) (atI (nth q 3)) (atI (nth q 4)))) (fun q => [.i (o_vec_Unit_1_0 F (atI (nth q 0)) (atI (nth q 1)) (atI (nth q 2)) (atI (nth q 3)) (atI (nth q 4))), .b (o_vec_Unit_1_1 F (atI (nth q 0)) (atI (nth q 1)) (atI (nth q 2)) (atI (nth q 3)) (atI (nth q 4)))]))]) c_vec_eachv2 (tabI c_vec_eachv2 [⟨0, T_vec_eachv2_0, fun k q => L_vec_eachv2_0 F (fun (z0 : Int) (z1 : Int) (z2 : Int) (z3 : Int) (z4 : Bool) (z5 : Bool) (z6 : Int) (z7 : Int) (z8 : Int) (z9 : Int) (z10 : List VV) => k (.exit 0) (fS T_vec_eachv2_0_0 [.i z0, .i z1, .i z2, .i z3, .b z4, .b z5, .i z6, .i z7, .i z8, .i z9, .c z10])) F (atI (nth q 0)) (atI (nth q 1)) (atI (nth q 2)) (atI (nth q 3)) (atB (nth q 4)) (atB (nth q 5)) (atI (nth q 6)) (atI (nth q 7)) (atI (nth q 8)) (atI (nth q 9)) (atC (nth q 10))⟩]) (tabJ []) 90 (fTs ti_vec_eachv2 [.i a0, .i a1, .i a2, .i a3]).1 = (
  L_vec_eachv2_0 F (fun (v2140 : Int) (v2141 : Int) (v2142 : Int) (v2143 : Int) (v2144 : Bool) (v2145 : Bool) (v2146 : Int) (v2147 : Int) (v2148 : Int) (v2149 : Int) (v2150 : List VV) =>
    bif ((isI .i64 v2150[0]?) && ((isI .i64 v2150[1]?) && ((isI .i64 v2150[2]?) && true))) then (
      some (.v (.tuple #[.agg #[.int .i64 ((iv v2150[0]?)), .int .i64 ((iv v2150[1]?)), .int .i64 ((iv v2150[2]?))], .bool v2145])))
    else (
      none)) F a0 a1 a2 a3 false false 0 0 0 0 ([.v (.int .i64 0), .v (.int .i64 0), .v (.int .i64 0)]) : R) := by
    intros
    kernel_rfl
  exact (h ok_vec_Unit_1 o_vec_Unit_1_0 o_vec_Unit_1_1 L_vec_eachv2_0).trans (by kernel_rfl)
def ok_vec_eachv2 (F : Nat) (a0 : Int) (a1 : Int) (a2 : Int) (a3 : Int) : Bool := okT to_vec_eachv2 (f_vec_eachv2 F a0 a1 a2 a3)
def o_vec_eachv2_0 (F : Nat) (a0 : Int) (a1 : Int) (a2 : Int) (a3 : Int) : Int := atI (nth (outT to_vec_eachv2 (f_vec_eachv2 F a0 a1 a2 a3)) 0)
def o_vec_eachv2_1 (F : Nat) (a0 : Int) (a1 : Int) (a2 : Int) (a3 : Int) : Int := atI (nth (outT to_vec_eachv2 (f_vec_eachv2 F a0 a1 a2 a3)) 1)
def o_vec_eachv2_2 (F : Nat) (a0 : Int) (a1 : Int) (a2 : Int) (a3 : Int) : Int := atI (nth (outT to_vec_eachv2 (f_vec_eachv2 F a0 a1 a2 a3)) 2)
def o_vec_eachv2_3 (F : Nat) (a0 : Int) (a1 : Int) (a2 : Int) (a3 : Int) : Bool := atB (nth (outT to_vec_eachv2 (f_vec_eachv2 F a0 a1 a2 a3)) 3)
theorem k_vec_eachv2 (F : Nat) (a0 : Int) (a1 : Int) (a2 : Int) (a3 : Int) {z0 : Int} {z1 : Int} {z2 : Int} {z3 : Bool} (h : f_vec_eachv2 F a0 a1 a2 a3 = some (.v (.tuple #[.agg #[.int .i64 z0, .int .i64 z1, .int .i64 z2], .bool z3]))) : ok_vec_eachv2 F a0 a1 a2 a3 = true ∧ o_vec_eachv2_0 F a0 a1 a2 a3 = z0 ∧ o_vec_eachv2_1 F a0 a1 a2 a3 = z1 ∧ o_vec_eachv2_2 F a0 a1 a2 a3 = z2 ∧ o_vec_eachv2_3 F a0 a1 a2 a3 = z3 := by
  refine ⟨?_, ?_, ?_, ?_, ?_⟩
  · unfold ok_vec_eachv2; rw [h]; kernel_rfl
  · unfold o_vec_eachv2_0; rw [h]; kernel_rfl
  · unfold o_vec_eachv2_1; rw [h]; kernel_rfl
  · unfold o_vec_eachv2_2; rw [h]; kernel_rfl
  · unfold o_vec_eachv2_3; rw [h]; kernel_rfl
def s_vec_eachv2 (F : Nat) : List VV → Option (Bool × VV) := spec ti_vec_eachv2 to_vec_eachv2 (fun q => (ok_vec_eachv2 F (atI (nth q 0)) (atI (nth q 1)) (atI (nth q 2)) (atI (nth q 3)))) (fun q => [.i (o_vec_eachv2_0 F (atI (nth q 0)) (atI (nth q 1)) (atI (nth q 2)) (atI (nth q 3))), .i (o_vec_eachv2_1 F (atI (nth q 0)) (atI (nth q 1)) (atI (nth q 2)) (atI (nth q 3))), .i (o_vec_eachv2_2 F (atI (nth q 0)) (atI (nth q 1)) (atI (nth q 2)) (atI (nth q 3))), .b (o_vec_eachv2_3 F (atI (nth q 0)) (atI (nth q 1)) (atI (nth q 2)) (atI (nth q 3)))])
theorem hS_vec_eachv2 (F : Nat) : ∀ f, Good PP f (unS (S_vec_eachv2 F f)) := words_good fun p hp => by
  simp only [List.mem_cons, List.not_mem_nil, or_false] at hp
  rcases hp with rfl
  · exact g_vec_Unit_1 F
theorem hl_vec_eachv2 (F : Nat) : ∀ p ∈ loopsIn PP 90, LoopOK PP (S_vec_eachv2 F) c_vec_eachv2 F (I_vec_eachv2 F) (J_vec_eachv2 F) p :=
  loops_of [(0, loopAt PP 90 0)] (by kernel_rfl) (all_cons
    (loop_ok (W_vec_eachv2 F) rfl (tab_cons (fun _ k q => Le.ofEq ((lL_vec_eachv2_0 F k F (atI (nth q 0)) (atI (nth q 1)) (atI (nth q 2)) (atI (nth q 3)) (atB (nth q 4)) (atB (nth q 5)) (atI (nth q 6)) (atI (nth q 7)) (atI (nth q 8)) (atI (nth q 9)) (atC (nth q 10))).symm.trans (congrArg (iterC (codeL PP (S_vec_eachv2 F) c_vec_eachv2 (I_vec_eachv2 F) (J_vec_eachv2 F) (loopAt PP 90 0) 0) (headOf c_vec_eachv2 0) k F) (show fS T_vec_eachv2_0 [.i (atI (nth q 0)), .i (atI (nth q 1)), .i (atI (nth q 2)), .i (atI (nth q 3)), .b (atB (nth q 4)), .b (atB (nth q 5)), .i (atI (nth q 6)), .i (atI (nth q 7)), .i (atI (nth q 8)), .i (atI (nth q 9)), .c (atC (nth q 10))] = fS T_vec_eachv2_0 q by kernel_rfl)))) tab_nil)) all_nil)
theorem hj_vec_eachv2 (F : Nat) : ∀ p ∈ joinsIn PP c_vec_eachv2 90, JoinOK PP (S_vec_eachv2 F) c_vec_eachv2 (I_vec_eachv2 F) (J_vec_eachv2 F) p :=
  joins_of [] (by kernel_rfl) all_nil
theorem g_vec_eachv2 (F : Nat) : Good PP 90 (unS (s_vec_eachv2 F)) :=
  fun_spec (hS_vec_eachv2 F) (by kernel_rfl) (by kernel_rfl) (C := c_vec_eachv2) (F := fun q => (f_vec_eachv2 F (atI (nth q 0)) (atI (nth q 1)) (atI (nth q 2)) (atI (nth q 3)))) (fun _ => F) (fun _ => I_vec_eachv2 F) (fun _ => J_vec_eachv2 F) (fun _ => hl_vec_eachv2 F) (fun _ => hj_vec_eachv2 F)
    (fun q => (congrArg (funL PP (S_vec_eachv2 F) c_vec_eachv2 (I_vec_eachv2 F) (J_vec_eachv2 F) 90) (show (fTs ti_vec_eachv2 q).1 = (fTs ti_vec_eachv2 [.i (atI (nth q 0)), .i (atI (nth q 1)), .i (atI (nth q 2)), .i (atI (nth q 3))]).1 by kernel_rfl)).trans (e_vec_eachv2 F (atI (nth q 0)) (atI (nth q 1)) (atI (nth q 2)) (atI (nth q 3))))
    (fun _ h => (okT_fill h).trans (congrArg some (by kernel_rfl)))

end Go.Xv
set_option linter.unusedVariables false
namespace Go.Xv
/- 61 _vec_Unit -/
def c_vec_Unit : Cfg := ⟨[0, 1, 2, 3, 4, 5, 6, 17], [], [], []⟩
def ti_vec_Unit : List TV := [.v (.agg [.int .i64, .int .i64, .int .i64])]
def to_vec_Unit : TV := .v (.tup [.agg [.int .i64, .int .i64, .int .i64], .bool])
def S_vec_Unit (F : Nat) : FuncId → List VV → Option (Bool × VV) := words [(23, s_vec_Length F), (90, s_vec_eachv2 F)]
def W_vec_Unit (F : Nat) : List LW := []
def I_vec_Unit (F : Nat) : Nat → VS → (Exit → VS → R) → R := tabI c_vec_Unit (W_vec_Unit F)
def WJ_vec_Unit (F : Nat) : List LJ := []
def J_vec_Unit (F : Nat) : Nat → Nat → VS → (Exit → VS → R) → R := tabJ (WJ_vec_Unit F)
def f_vec_Unit (F : Nat) (a0 : Int) (a1 : Int) (a2 : Int) : R :=
  bif (ok_vec_Length F a0 a1 a2) then (
    let v2026 : Int := (o_vec_Length_0 F a0 a1 a2)
    bif ((v2026 == 0)) then (
      some (.v (.tuple #[.agg #[.int .i64 0, .int .i64 0, .int .i64 0], .bool false])))
    else (
      bif ((o_vec_Length_1 F a0 a1 a2)) then (
        some (.v (.tuple #[.agg #[.int .i64 0, .int .i64 0, .int .i64 0], .bool false])))
      else (
        bif (ok_vec_eachv2 F a0 a1 a2 v2026) then (
          some (.v (.tuple #[.agg #[.int .i64 ((o_vec_eachv2_0 F a0 a1 a2 v2026)), .int .i64 ((o_vec_eachv2_1 F a0 a1 a2 v2026)), .int .i64 ((o_vec_eachv2_2 F a0 a1 a2 v2026))], .bool true])))
        else (
          none))))
  else (
    none)
theorem e_vec_Unit (F : Nat) (a0 : Int) (a1 : Int) (a2 : Int) : funL PP (S_vec_Unit F) c_vec_Unit (I_vec_Unit F) (J_vec_Unit F) 61 (fTs ti_vec_Unit [.i a0, .i a1, .i a2]).1 = f_vec_Unit F a0 a1 a2 := by
  have h : ∀ (ok_vec_Length : Nat → Int → Int → Int → Bool) (o_vec_Length_0 : Nat → Int → Int → Int → Int) (o_vec_Length_1 : Nat → Int → Int → Int → Bool) (ok_vec_eachv2 : Nat → Int → Int → Int → Int → Bool) (o_vec_eachv2_0 : Nat → Int → Int → Int → Int → Int) (o_vec_eachv2_1 : Nat → Int → Int → Int → Int → Int) (o_vec_eachv2_2 : Nat → Int → Int → Int → Int → Int) (o_vec_eachv2_3 : Nat → Int → Int → Int → Int → Bool), funL PP (words [(23, spec ti_vec_Length to_vec_Length (fun q => (ok_vec_Length F (atI (nth q 0)) (atI (nth q 1)) (atI (nth q 2)))) (fun q => [.i (o_vec_Length_0 F (atI (nth q 0)) (atI (nth q 1)) (atI (nth q 2))), .b (o_vec_Length_1 F (atI (nth q 0)) (atI (nth q 1)) (atI (nth q 2)))])), (90, spec ti_vec_eachv2 to_vec_eachv2 (fun q => (ok_vec_eachv2 F (atI (nth q 0)) (atI (nth q 1)) (atI (nth q 2)) (atI (nth q 3)))) (fun q => [.i (o_vec_eachv2_0 F (atI (nth q 0)) (atI (nth q 1)) (atI (nth q 2)) (atI (nth q 3))), .i (o_vec_eachv2_1 F (atI (nth q 0)) (atI (nth q 1)) (atI (nth q 2)) (atI (nth q 3))), .i (o_vec_eachv2_2 F (atI (nth q 0)) (atI (nth q 1)) (atI (nth q 2)) (atI (nth q 3))), .b (o_vec_eachv2_3 F (atI (nth q 0)) (atI (nth q 1)) (atI (nth q 2)) (atI (nth q 3)))]))]) c_vec_Unit (tabI c_vec_Unit []) (tabJ []) 61 (fTs ti_vec_Unit [.i a0, .i a1, .i a2]).1 = (
  bif (ok_vec_Length F a0 a1 a2) then (
    let v2026 : Int := (o_vec_Length_0 F a0 a1 a2)
    bif ((v2026 == 0)) then (
      some (.v (.tuple #[.agg #[.int .i64 0, .int .i64 0, .int .i64 0], .bool false])))
    else (
      bif ((o_vec_Length_1 F a0 a1 a2)) then (
        some (.v (.tuple #[.agg #[.int .i64 0, .int .i64 0, .int .i64 0], .bool false])))
      else (
        bif (ok_vec_eachv2 F a0 a1 a2 v2026) then (
          some (.v (.tuple #[.agg #[.int .i64 ((o_vec_eachv2_0 F a0 a1 a2 v2026)), .int .i64 ((o_vec_eachv2_1 F a0 a1 a2 v2026)), .int .i64 ((o_vec_eachv2_2 F a0 a1 a2 v2026))], .bool true])))
        else (
          none))))
  else (
    none) : R) := by
    intros
    kernel_rfl
  exact (h ok_vec_Length o_vec_Length_0 o_vec_Length_1 ok_vec_eachv2 o_vec_eachv2_0 o_vec_eachv2_1 o_vec_eachv2_2 o_vec_eachv2_3).trans (by kernel_rfl)
def ok_vec_Unit (F : Nat) (a0 : Int) (a1 : Int) (a2 : Int) : Bool := okT to_vec_Unit (f_vec_Unit F a0 a1 a2)
def o_vec_Unit_0 (F : Nat) (a0 : Int) (a1 : Int) (a2 : Int) : Int := atI (nth (outT to_vec_Unit (f_vec_Unit F a0 a1 a2)) 0)
def o_vec_Unit_1 (F : Nat) (a0 : Int) (a1 : Int) (a2 : Int) : Int := atI (nth (outT to_vec_Unit (f_vec_Unit F a0 a1 a2)) 1)
def o_vec_Unit_2 (F : Nat) (a0 : Int) (a1 : Int) (a2 : Int) : Int := atI (nth (outT to_vec_Unit (f_vec_Unit F a0 a1 a2)) 2)
def o_vec_Unit_3 (F : Nat) (a0 : Int) (a1 : Int) (a2 : Int) : Bool := atB (nth (outT to_vec_Unit (f_vec_Unit F a0 a1 a2)) 3)
theorem k_vec_Unit (F : Nat) (a0 : Int) (a1 : Int) (a2 : Int) {z0 : Int} {z1 : Int} {z2 : Int} {z3 : Bool} (h : f_vec_Unit F a0 a1 a2 = some (.v (.tuple #[.agg #[.int .i64 z0, .int .i64 z1, .int .i64 z2], .bool z3]))) : ok_vec_Unit F a0 a1 a2 = true ∧ o_vec_Unit_0 F a0 a1 a2 = z0 ∧ o_vec_Unit_1 F a0 a1 a2 = z1 ∧ o_vec_Unit_2 F a0 a1 a2 = z2 ∧ o_vec_Unit_3 F a0 a1 a2 = z3 := by
  refine ⟨?_, ?_, ?_, ?_, ?_⟩
  · unfold ok_vec_Unit; rw [h]; kernel_rfl
  · unfold o_vec_Unit_0; rw [h]; kernel_rfl
  · unfold o_vec_Unit_1; rw [h]; kernel_rfl
  · unfold o_vec_Unit_2; rw [h]; kernel_rfl
  · unfold o_vec_Unit_3; rw [h]; kernel_rfl
def s_vec_Unit (F : Nat) : List VV → Option (Bool × VV) := spec ti_vec_Unit to_vec_Unit (fun q => (ok_vec_Unit F (atI (nth q 0)) (atI (nth q 1)) (atI (nth q 2)))) (fun q => [.i (o_vec_Unit_0 F (atI (nth q 0)) (atI (nth q 1)) (atI (nth q 2))), .i (o_vec_Unit_1 F (atI (nth q 0)) (atI (nth q 1)) (atI (nth q 2))), .i (o_vec_Unit_2 F (atI (nth q 0)) (atI (nth q 1)) (atI (nth q 2))), .b (o_vec_Unit_3 F (atI (nth q 0)) (atI (nth q 1)) (atI (nth q 2)))])
theorem hS_vec_Unit (F : Nat) : ∀ f, Good PP f (unS (S_vec_Unit F f)) := words_good fun p hp => by
  simp only [List.mem_cons, List.not_mem_nil, or_false] at hp
  rcases hp with rfl | rfl
  · exact g_vec_Length F
  · exact g_vec_eachv2 F
theorem hl_vec_Unit (F : Nat) : ∀ p ∈ loopsIn PP 61, LoopOK PP (S_vec_Unit F) c_vec_Unit F (I_vec_Unit F) (J_vec_Unit F) p :=
  loops_of [] (by kernel_rfl) all_nil
theorem hj_vec_Unit (F : Nat) : ∀ p ∈ joinsIn PP c_vec_Unit 61, JoinOK PP (S_vec_Unit F) c_vec_Unit (I_vec_Unit F) (J_vec_Unit F) p :=
  joins_of [] (by kernel_rfl) all_nil
theorem g_vec_Unit (F : Nat) : Good PP 61 (unS (s_vec_Unit F)) :=
  fun_spec (hS_vec_Unit F) (by kernel_rfl) (by kernel_rfl) (C := c_vec_Unit) (F := fun q => (f_vec_Unit F (atI (nth q 0)) (atI (nth q 1)) (atI (nth q 2)))) (fun _ => F) (fun _ => I_vec_Unit F) (fun _ => J_vec_Unit F) (fun _ => hl_vec_Unit F) (fun _ => hj_vec_Unit F)
    (fun q => (congrArg (funL PP (S_vec_Unit F) c_vec_Unit (I_vec_Unit F) (J_vec_Unit F) 61) (show (fTs ti_vec_Unit q).1 = (fTs ti_vec_Unit [.i (atI (nth q 0)), .i (atI (nth q 1)), .i (atI (nth q 2))]).1 by kernel_rfl)).trans (e_vec_Unit F (atI (nth q 0)) (atI (nth q 1)) (atI (nth q 2))))
    (fun _ h => (okT_fill h).trans (congrArg some (by kernel_rfl)))

end Go.Xv
set_option linter.unusedVariables false
namespace Go.Xv
/- 62 _ref06_Unit -/
def c_ref06_Unit : Cfg := ⟨[0, 1, 2, 3, 4, 5, 6, 8, 10, 21], [], [], []⟩
def ti_ref06_Unit : List TV := [.v (.agg [.int .i64, .int .i64, .int .i64])]
def to_ref06_Unit : TV := .v (.tup [.agg [.int .i64, .int .i64, .int .i64], .bool])
def S_ref06_Unit (F : Nat) : FuncId → List VV → Option (Bool × VV) := words [(59, s_ref06_Length F), (106, s_ref02_Div F)]
def W_ref06_Unit (F : Nat) : List LW := []
def I_ref06_Unit (F : Nat) : Nat → VS → (Exit → VS → R) → R := tabI c_ref06_Unit (W_ref06_Unit F)
def WJ_ref06_Unit (F : Nat) : List LJ := []
def J_ref06_Unit (F : Nat) : Nat → Nat → VS → (Exit → VS → R) → R := tabJ (WJ_ref06_Unit F)
def f_ref06_Unit (F : Nat) (a0 : Int) (a1 : Int) (a2 : Int) : R :=
  bif (ok_ref06_Length F a0 a1 a2) then (
    let v2162 : Int := (o_ref06_Length_0 F a0 a1 a2)
    bif ((v2162 == 0)) then (
      some (.v (.tuple #[.agg #[.int .i64 0, .int .i64 0, .int .i64 0], .bool false])))
    else (
      bif ((o_ref06_Length_1 F a0 a1 a2)) then (
        some (.v (.tuple #[.agg #[.int .i64 0, .int .i64 0, .int .i64 0], .bool false])))
      else (
        bif (ok_ref02_Div F a0 v2162) then (
          bif (ok_ref02_Div F a1 v2162) then (
            bif (ok_ref02_Div F a2 v2162) then (
              some (.v (.tuple #[.agg #[.int .i64 ((o_ref02_Div_0 F a0 v2162)), .int .i64 ((o_ref02_Div_0 F a1 v2162)), .int .i64 ((o_ref02_Div_0 F a2 v2162))], .bool true])))
            else (
              none))
          else (
            none))
        else (
          none))))
  else (
    none)
theorem e_ref06_Unit (F : Nat) (a0 : Int) (a1 : Int) (a2 : Int) : funL PP (S_ref06_Unit F) c_ref06_Unit (I_ref06_Unit F) (J_ref06_Unit F) 62 (fTs ti_ref06_Unit [.i a0, .i a1, .i a2]).1 = f_ref06_Unit F a0 a1 a2 := by
  have h : ∀ (ok_ref06_Length : Nat → Int → Int → Int → Bool) (o_ref06_Length_0 : Nat → Int → Int → Int → Int) (o_ref06_Length_1 : Nat → Int → Int → Int → Bool) (ok_ref02_Div : Nat → Int → Int → Bool) (o_ref02_Div_0 : Nat → Int → Int → Int) (o_ref02_Div_1 : Nat → Int → Int → Bool), funL PP (words [(59, spec ti_ref06_Length to_ref06_Length (fun q => (ok_ref06_Length F (atI (nth q 0)) (atI (nth q 1)) (atI (nth q 2)))) (fun q => [.i (o_ref06_Length_0 F (atI (nth q 0)) (atI (nth q 1)) (atI (nth q 2))), .b (o_ref06_Length_1 F (atI (nth q 0)) (atI (nth q 1)) (atI (nth q 2)))])), (106, spec ti_ref02_Div to_ref02_Div (fun q => (ok_ref02_Div F (atI (nth q 0)) (atI (nth q 1)))) (fun q => [.i (o_ref02_Div_0 F (atI (nth q 0)) (atI (nth q 1))), .b (o_ref02_Div_1 F (atI (nth q 0)) (atI (nth q 1)))]))]) c_ref06_Unit (tabI c_ref06_Unit []) (tabJ []) 62 (fTs ti_ref06_Unit [.i a0, .i a1, .i a2]).1 = (
  bif (ok_ref06_Length F a0 a1 a2) then (
    let v2162 : Int := (o_ref06_Length_0 F a0 a1 a2)
    bif ((v2162 == 0)) then (
      some (.v (.tuple #[.agg #[.int .i64 0, .int .i64 0, .int .i64 0], .bool false])))
    else (
      bif ((o_ref06_Length_1 F a0 a1 a2)) then (
        some (.v (.tuple #[.agg #[.int .i64 0, .int .i64 0, .int .i64 0], .bool false])))
      else (
        bif (ok_ref02_Div F a0 v2162) then (
          bif (ok_ref02_Div F a1 v2162) then (
            bif (ok_ref02_Div F a2 v2162) then (
              some (.v (.tuple #[.agg #[.int .i64 ((o_ref02_Div_0 F a0 v2162)), .int .i64 ((o_ref02_Div_0 F a1 v2162)), .int .i64 ((o_ref02_Div_0 F a2 v2162))], .bool true])))
            else (
              none))
          else (
            none))
        else (
          none))))
  else (
    none) : R) := by
    intros
    kernel_rfl
  exact (h ok_ref06_Length o_ref06_Length_0 o_ref06_Length_1 ok_ref02_Div o_ref02_Div_0 o_ref02_Div_1).trans (by kernel_rfl)
def ok_ref06_Unit (F : Nat) (a0 : Int) (a1 : Int) (a2 : Int) : Bool := okT to_ref06_Unit (f_ref06_Unit F a0 a1 a2)
def o_ref06_Unit_0 (F : Nat) (a0 : Int) (a1 : Int) (a2 : Int) : Int := atI (nth (outT to_ref06_Unit (f_ref06_Unit F a0 a1 a2)) 0)
def o_ref06_Unit_1 (F : Nat) (a0 : Int) (a1 : Int) (a2 : Int) : Int := atI (nth (outT to_ref06_Unit (f_ref06_Unit F a0 a1 a2)) 1)
def o_ref06_Unit_2 (F : Nat) (a0 : Int) (a1 : Int) (a2 : Int) : Int := atI (nth (outT to_ref06_Unit (f_ref06_Unit F a0 a1 a2)) 2)
def o_ref06_Unit_3 (F : Nat) (a0 : Int) (a1 : Int) (a2 : Int) : Bool := atB (nth (outT to_ref06_Unit (f_ref06_Unit F a0 a1 a2)) 3)
theorem k_ref06_Unit (F : Nat) (a0 : Int) (a1 : Int) (a2 : Int) {z0 : Int} {z1 : Int} {z2 : Int} {z3 : Bool} (h : f_ref06_Unit F a0 a1 a2 = some (.v (.tuple #[.agg #[.int .i64 z0, .int .i64 z1, .int .i64 z2], .bool z3]))) : ok_ref06_Unit F a0 a1 a2 = true ∧ o_ref06_Unit_0 F a0 a1 a2 = z0 ∧ o_ref06_Unit_1 F a0 a1 a2 = z1 ∧ o_ref06_Unit_2 F a0 a1 a2 = z2 ∧ o_ref06_Unit_3 F a0 a1 a2 = z3 := by
  refine ⟨?_, ?_, ?_, ?_, ?_⟩
  · unfold ok_ref06_Unit; rw [h]; kernel_rfl
  · unfold o_ref06_Unit_0; rw [h]; kernel_rfl
  · unfold o_ref06_Unit_1; rw [h]; kernel_rfl
  · unfold o_ref06_Unit_2; rw [h]; kernel_rfl
  · unfold o_ref06_Unit_3; rw [h]; kernel_rfl
def s_ref06_Unit (F : Nat) : List VV → Option (Bool × VV) := spec ti_ref06_Unit to_ref06_Unit (fun q => (ok_ref06_Unit F (atI (nth q 0)) (atI (nth q 1)) (atI (nth q 2)))) (fun q => [.i (o_ref06_Unit_0 F (atI (nth q 0)) (atI (nth q 1)) (atI (nth q 2))), .i (o_ref06_Unit_1 F (atI (nth q 0)) (atI (nth q 1)) (atI (nth q 2))), .i (o_ref06_Unit_2 F (atI (nth q 0)) (atI (nth q 1)) (atI (nth q 2))), .b (o_ref06_Unit_3 F (atI (nth q 0)) (atI (nth q 1)) (atI (nth q 2)))])
theorem hS_ref06_Unit (F : Nat) : ∀ f, Good PP f (unS (S_ref06_Unit F f)) := words_good fun p hp => by
  simp only [List.mem_cons, List.not_mem_nil, or_false] at hp
  rcases hp with rfl | rfl
  · exact g_ref06_Length F
  · exact g_ref02_Div F
theorem hl_ref06_Unit (F : Nat) : ∀ p ∈ loopsIn PP 62, LoopOK PP (S_ref06_Unit F) c_ref06_Unit F (I_ref06_Unit F) (J_ref06_Unit F) p :=
  loops_of [] (by kernel_rfl) all_nil
theorem hj_ref06_Unit (F : Nat) : ∀ p ∈ joinsIn PP c_ref06_Unit 62, JoinOK PP (S_ref06_Unit F) c_ref06_Unit (I_ref06_Unit F) (J_ref06_Unit F) p :=
  joins_of [] (by kernel_rfl) all_nil
theorem g_ref06_Unit (F : Nat) : Good PP 62 (unS (s_ref06_Unit F)) :=
  fun_spec (hS_ref06_Unit F) (by kernel_rfl) (by kernel_rfl) (C := c_ref06_Unit) (F := fun q => (f_ref06_Unit F (atI (nth q 0)) (atI (nth q 1)) (atI (nth q 2)))) (fun _ => F) (fun _ => I_ref06_Unit F) (fun _ => J_ref06_Unit F) (fun _ => hl_ref06_Unit F) (fun _ => hj_ref06_Unit F)
    (fun q => (congrArg (funL PP (S_ref06_Unit F) c_ref06_Unit (I_ref06_Unit F) (J_ref06_Unit F) 62) (show (fTs ti_ref06_Unit q).1 = (fTs ti_ref06_Unit [.i (atI (nth q 0)), .i (atI (nth q 1)), .i (atI (nth q 2))]).1 by kernel_rfl)).trans (e_ref06_Unit F (atI (nth q 0)) (atI (nth q 1)) (atI (nth q 2))))
    (fun _ h => (okT_fill h).trans (congrArg some (by kernel_rfl)))

end Go.Xv
set_option linter.unusedVariables false
namespace Go.Xv
/- 17 _law06_VecSizes -/
def c_law06_VecSizes : Cfg := ⟨[0, 1, 2, 4, 5, 6, 7, 8, 9, 10, 11, 12, 13, 14, 15, 16], [], [], []⟩
def ti_law06_VecSizes : List TV := [.v (.agg [.int .i64, .int .i64, .int .i64]), .v (.int .i64)]
def to_law06_VecSizes : TV := .v (.bool)
def S_law06_VecSizes (F : Nat) : FuncId → List VV → Option (Bool × VV) := words [(23, s_vec_Length F), (59, s_ref06_Length F), (37, s_vec_Clamp F), (60, s_ref06_Clamp F), (61, s_vec_Unit F), (62, s_ref06_Unit F), (24, s_vec_Greatest F), (63, s_ref06_Greatest F), (22, s_law06_works F)]
def W_law06_VecSizes (F : Nat) : List LW := []
def I_law06_VecSizes (F : Nat) : Nat → VS → (Exit → VS → R) → R := tabI c_law06_VecSizes (W_law06_VecSizes F)
def WJ_law06_VecSizes (F : Nat) : List LJ := []
def J_law06_VecSizes (F : Nat) : Nat → Nat → VS → (Exit → VS → R) → R := tabJ (WJ_law06_VecSizes F)
def f_law06_VecSizes (F : Nat) (a0 : Int) (a1 : Int) (a2 : Int) (a3 : Int) : R :=
  bif (ok_vec_Length F a0 a1 a2) then (
    bif (ok_ref06_Length F a0 a1 a2) then (
      bif (ok_vec_Clamp F a0 a1 a2 a3) then (
        bif (ok_ref06_Clamp F a0 a1 a2 a3) then (
          bif (ok_vec_Unit F a0 a1 a2) then (
            bif (ok_ref06_Unit F a0 a1 a2) then (
              bif ((((o_vec_Length_0 F a0 a1 a2)) == ((o_ref06_Length_0 F a0 a1 a2)))) then (
                bif ((((o_vec_Length_1 F a0 a1 a2)) == ((o_ref06_Length_1 F a0 a1 a2)))) then (
                  bif (ok_vec_Greatest F a0 a1 a2) then (
                    bif (ok_ref06_Greatest F a0 a1 a2) then (
                      bif ((((o_vec_Greatest_0 F a0 a1 a2)) == ((o_ref06_Greatest_0 F a0 a1 a2)))) then (
                        bif (((((o_vec_Clamp_0 F a0 a1 a2 a3)) == ((o_ref06_Clamp_0 F a0 a1 a2 a3))) && ((((o_vec_Clamp_1 F a0 a1 a2 a3)) == ((o_ref06_Clamp_1 F a0 a1 a2 a3))) && (((o_vec_Clamp_2 F a0 a1 a2 a3)) == ((o_ref06_Clamp_2 F a0 a1 a2 a3)))))) then (
                          bif ((((o_vec_Clamp_3 F a0 a1 a2 a3)) == ((o_ref06_Clamp_3 F a0 a1 a2 a3)))) then (
                            bif (((((o_vec_Unit_0 F a0 a1 a2)) == ((o_ref06_Unit_0 F a0 a1 a2))) && ((((o_vec_Unit_1 F a0 a1 a2)) == ((o_ref06_Unit_1 F a0 a1 a2))) && (((o_vec_Unit_2 F a0 a1 a2)) == ((o_ref06_Unit_2 F a0 a1 a2)))))) then (
                              bif ((((o_vec_Unit_3 F a0 a1 a2)) == ((o_ref06_Unit_3 F a0 a1 a2)))) then (
                                bif (ok_law06_works F) then (
                                  some (.v (.bool ((o_law06_works_0 F)))))
                                else (
                                  none))
                              else (
                                some (.v (.bool false))))
                            else (
                              some (.v (.bool false))))
                          else (
                            some (.v (.bool false))))
                        else (
                          some (.v (.bool false))))
                      else (
                        some (.v (.bool false))))
                    else (
                      none))
                  else (
                    none))
                else (
                  some (.v (.bool false))))
              else (
                some (.v (.bool false))))
            else (
              none))
          else (
            none))
        else (
          none))
      else (
        none))
    else (
      none))
  else (
    none)
theorem e_law06_VecSizes (F : Nat) (a0 : Int) (a1 : Int) (a2 : Int) (a3 : Int) : funL PP (S_law06_VecSizes F) c_law06_VecSizes (I_law06_VecSizes F) (J_law06_VecSizes F) 17 (fTs ti_law06_VecSizes [.i a0, .i a1, .i a2, .i a3]).1 = f_law06_VecSizes F a0 a1 a2 a3 := by
  have h : ∀ (ok_vec_Length : Nat → Int → Int → Int → Bool) (o_vec_Length_0 : Nat → Int → Int → Int → Int) (o_vec_Length_1 : Nat → Int → Int → Int → Bool) (ok_ref06_Length : Nat → Int → Int → Int → Bool) (o_ref06_Length_0 : Nat → Int → Int → Int → Int) (o_ref06_Length_1 : Nat → Int → Int → Int → Bool) (ok_vec_Clamp : Nat → Int → Int → Int → Int → Bool) (o_vec_Clamp_0 : Nat → Int → Int → Int → Int → Int) (o_vec_Clamp_1 : Nat → Int → Int → Int → Int → Int) (o_vec_Clamp_2 : Nat → Int → Int → Int → Int → Int) (o_vec_Clamp_3 : Nat → Int → Int → Int → Int → Bool) (ok_ref06_Clamp : Nat → Int → Int → Int → Int → Bool) (o_ref06_Clamp_0 : Nat → Int → Int → Int → Int → Int) (o_ref06_Clamp_1 : Nat → Int → Int → Int → Int → Int) (o_ref06_Clamp_2 : Nat → Int → Int → Int → Int → Int) (o_ref06_Clamp_3 : Nat → Int → Int → Int → Int → Bool) (ok_vec_Unit : Nat → Int → Int → Int → Bool) (o_vec_Unit_0 : Nat → Int → Int → Int → Int) (o_vec_Unit_1 : Nat → Int → Int → Int → Int) (o_vec_Unit_2 : Nat → Int → Int → Int → Int) (o_vec_Unit_3 : Nat → Int → Int → Int → Bool) (ok_ref06_Unit : Nat → Int → Int → Int → Bool) (o_ref06_Unit_0 : Nat → Int → Int → Int → Int) (o_ref06_Unit_1 : Nat → Int → Int → Int → Int) (o_ref06_Unit_2 : Nat → Int → Int → Int → Int) (o_ref06_Unit_3 : Nat → Int → Int → Int → Bool) (ok_vec_Greatest : Nat → Int → Int → Int → Bool) (o_vec_Greatest_0 : Nat → Int → Int → Int → Int) (ok_ref06_Greatest : Nat → Int → Int → Int → Bool) (o_ref06_Greatest_0 : Nat → Int → Int → Int → Int) (ok_law06_works : Nat → Bool) (o_law06_works_0 : Nat → Bool), funL PP (words [(23, spec ti_vec_Length to_vec_Length (fun q => (ok_vec_Length F (atI (nth q 0)) (atI (nth q 1)) (atI (nth q 2)))) (fun q => [.i (o_vec_Length_0 F (atI (nth q 0)) (atI (nth q 1)) (atI (nth q 2))), .b (o_vec_Length_1 F (atI (nth q 0)) (atI (nth q 1)) (atI (nth q 2)))])), (59, spec ti_ref06_Length to_ref06_Length (fun q => (ok_ref06_Length F (atI (nth q 0)) (atI (nth q 1)) (atI (nth q 2)))) (fun q => [.i (o_ref06_Length_0 F (atI (nth q 0)) (atI (nth q 1)) (atI (nth q 2))), .b (o_ref06_Length_1 F (atI (nth q 0)) (atI (nth q 1)) (atI (nth q 2)))])), (37, spec ti_vec_Clamp to_vec_Clamp (fun q => (ok_vec_Clamp F (atI (nth q 0)) (atI (nth q 1)) (atI (nth q 2)) (atI (nth q 3)))) (fun q => [.i (o_vec_Clamp_0 F (atI (nth q 0)) (atI (nth q 1)) (atI (nth q 2)) (atI (nth q 3))), .i (o_vec_Clamp_1 F (atI (nth q 0)) (atI (nth q 1)) (atI (nth q 2)) (atI (nth q 3))), .i (o_vec_Clamp_2 F (atI (nth q 0)) (atI (nth q 1)) (atI (nth q 2)) (atI (nth q 3))), .b (o_vec_Clamp_3 F (atI (nth q 0)) (atI (nth q 1)) (atI (nth q 2)) (atI (nth q 3)))])), (60, spec ti_ref06_Clamp to_ref06_Clamp (fun q => (ok_ref06_Clamp F (atI (nth q 0)) (atI (nth q 1)) (atI (nth q 2)) (atI (nth q 3)))) (fun q => [.i (o_ref06_Clamp_0 F (atI (nth q 0)) (atI (nth q 1)) (atI (nth q 2)) (atI (nth q 3))), .i (o_ref06_Clamp_1 F (atI (nth q 0)) (atI (nth q 1)) (atI (nth q 2)) (atI (nth q 3))), .i (o_ref06_Clamp_2 F (atI (nth q 0)) (atI (nth q 1)) (atI (nth q 2)) (atI (nth q 3))), .b (o_ref06_Clamp_3 F (atI (nth q 0)) (atI (nth q 1)) (atI (nth q 2)) (atI (nth q 3)))])), (61, spec ti_vec_Unit to_vec_Unit (fun q => (ok_vec_Unit F (atI (nth q 0)) (atI (nth q 1)) (atI (nth q 2)))) (fun q => [.i (o_vec_Unit_0 F (atI (nth q 0)) (atI (nth q 1)) (atI (nth q 2))), .i (o_vec_Unit_1 F (atI (nth q 0)) (atI (nth q 1)) (atI (nth q 2))), .i (o_vec_Unit_2 F (atI (nth q 0)) (atI (nth q 1)) (atI (nth q 2))), .b (o_vec_Unit_3 F (atI (nth q 0)) (atI (nth q 1)) (atI (nth q 2)))])), (62, spec ti_ref06_Unit to_ref06_Unit (fun q => (ok_ref06_Unit F (atI (nth q 0)) (atI (nth q 1)) (atI (nth q 2)))) (fun q => [.i (o_ref06_Unit_0 F (atI (nth q 0)) (atI (nth q 1)) (atI (nth q 2))), .i (o_ref06_Unit_1 F (atI (nth q 0)) (atI (nth q 1)) (atI (nth q 2))), .i (o_ref06_Unit_2 F (atI (nth q 0)) (atI (nth q 1)) (atI (nth q 2))), .b (o_ref06_Unit_3 F (atI (nth q 0)) (atI (nth q 1)) (atI (nth q 2)))])), (24, spec ti_vec_Greatest to_vec_Greatest (fun q => (ok_vec_Greatest F (atI (nth q 0)) (atI (nth q 1)) (atI (nth q 2)))) (fun q => [.i (o_vec_Greatest_0 F (atI (nth q 0)) (atI (nth q 1)) (atI (nth q 2)))])), (63, spec ti_ref06_Greatest to_ref06_Greatest (fun q => (ok_ref06_Greatest F (atI (nth q 0)) (atI (nth q 1)) (atI (nth q 2)))) (fun q => [.i (o_ref06_Greatest_0 F (atI (nth q 0)) (atI (nth q 1)) (atI (nth q 2)))])), (22, spec ti_law06_works to_law06_works (fun q => (ok_law06_works F )) (fun q => [.b (o_law06_works_0 F )]))]) c_law06_VecSizes (tabI c_law06_VecSizes []) (tabJ []) 17 (fTs ti_law06_VecSizes [.i a0, .i a1, .i a2, .i a3]).1 = (
  bif (ok_vec_Length F a0 a1 a2) then (
    bif (ok_ref06_Length F a0 a1 a2) then (
      bif (ok_vec_Clamp F a0 a1 a2 a3) then (
        bif (ok_ref06_Clamp F a0 a1 a2 a3) then (
          bif (ok_vec_Unit F a0 a1 a2) then (
            bif (ok_ref06_Unit F a0 a1 a2) then (
              bif ((((o_vec_Length_0 F a0 a1 a2)) == ((o_ref06_Length_0 F a0 a1 a2)))) then (
                bif ((((o_vec_Length_1 F a0 a1 a2)) == ((o_ref06_Length_1 F a0 a1 a2)))) then (
                  bif (ok_vec_Greatest F a0 a1 a2) then (
                    bif (ok_ref06_Greatest F a0 a1 a2) then (
                      bif ((((o_vec_Greatest_0 F a0 a1 a2)) == ((o_ref06_Greatest_0 F a0 a1 a2)))) then (
                        bif (((((o_vec_Clamp_0 F a0 a1 a2 a3)) == ((o_ref06_Clamp_0 F a0 a1 a2 a3))) && ((((o_vec_Clamp_1 F a0 a1 a2 a3)) == ((o_ref06_Clamp_1 F a0 a1 a2 a3))) && (((o_vec_Clamp_2 F a0 a1 a2 a3)) == ((o_ref06_Clamp_2 F a0 a1 a2 a3)))))) then (
                          bif ((((o_vec_Clamp_3 F a0 a1 a2 a3)) == ((o_ref06_Clamp_3 F a0 a1 a2 a3)))) then (
                            bif (((((o_vec_Unit_0 F a0 a1 a2)) == ((o_ref06_Unit_0 F a0 a1 a2))) && ((((o_vec_Unit_1 F a0 a1 a2)) == ((o_ref06_Unit_1 F a0 a1 a2))) && (((o_vec_Unit_2 F a0 a1 a2)) == ((o_ref06_Unit_2 F a0 a1 a2)))))) then (
                              bif ((((o_vec_Unit_3 F a0 a1 a2)) == ((o_ref06_Unit_3 F a0 a1 a2)))) then (
                                bif (ok_law06_works F) then (
                                  some (.v (.bool ((o_law06_works_0 F)))))
                                else (
                                  none))
                              else (
                                some (.v (.bool false))))
                            else (
                              some (.v (.bool false))))
                          else (
                            some (.v (.bool false))))
                        else (
                          some (.v (.bool false))))
                      else (
                        some (.v (.bool false))))
                    else (
                      none))
                  else (
                    none))
                else (
                  some (.v (.bool false))))
              else (
                some (.v (.bool false))))
            else (
              none))
          else (
            none))
        else (
          none))
      else (
        none))
    else (
      none))
  else (
    none) : R) := by
    intros
    kernel_rfl
  exact (h ok_vec_Length o_vec_Length_0 o_vec_Length_1 ok_ref06_Length o_ref06_Length_0 o_ref06_Length_1 ok_vec_Clamp o_vec_Clamp_0 o_vec_Clamp_1 o_vec_Clamp_2 o_vec_Clamp_3 ok_ref06_Clamp o_ref06_Clamp_0 o_ref06_Clamp_1 o_ref06_Clamp_2 o_ref06_Clamp_3 ok_vec_Unit o_vec_Unit_0 o_vec_Unit_1 o_vec_Unit_2 o_vec_Unit_3 ok_ref06_Unit o_ref06_Unit_0 o_ref06_Unit_1 o_ref06_Unit_2 o_ref06_Unit_3 ok_vec_Greatest o_vec_Greatest_0 ok_ref06_Greatest o_ref06_Greatest_0 ok_law06_works o_law06_works_0).trans (by kernel_rfl)
def ok_law06_VecSizes (F : Nat) (a0 : Int) (a1 : Int) (a2 : Int) (a3 : Int) : Bool := okT to_law06_VecSizes (f_law06_VecSizes F a0 a1 a2 a3)
def o_law06_VecSizes_0 (F : Nat) (a0 : Int) (a1 : Int) (a2 : Int) (a3 : Int) : Bool := atB (nth (outT to_law06_VecSizes (f_law06_VecSizes F a0 a1 a2 a3)) 0)
theorem k_law06_VecSizes (F : Nat) (a0 : Int) (a1 : Int) (a2 : Int) (a3 : Int) {z0 : Bool} (h : f_law06_VecSizes F a0 a1 a2 a3 = some (.v (.bool z0))) : ok_law06_VecSizes F a0 a1 a2 a3 = true ∧ o_law06_VecSizes_0 F a0 a1 a2 a3 = z0 := by
  refine ⟨?_, ?_⟩
  · unfold ok_law06_VecSizes; rw [h]; kernel_rfl
  · unfold o_law06_VecSizes_0; rw [h]; kernel_rfl
def s_law06_VecSizes (F : Nat) : List VV → Option (Bool × VV) := spec ti_law06_VecSizes to_law06_VecSizes (fun q => (ok_law06_VecSizes F (atI (nth q 0)) (atI (nth q 1)) (atI (nth q 2)) (atI (nth q 3)))) (fun q => [.b (o_law06_VecSizes_0 F (atI (nth q 0)) (atI (nth q 1)) (atI (nth q 2)) (atI (nth q 3)))])
theorem hS_law06_VecSizes (F : Nat) : ∀ f, Good PP f (unS (S_law06_VecSizes F f)) := words_good fun p hp => by
  simp only [List.mem_cons, List.not_mem_nil, or_false] at hp
  rcases hp with rfl | rfl | rfl | rfl | rfl | rfl | rfl | rfl | rfl
  · exact g_vec_Length F
  · exact g_ref06_Length F
  · exact g_vec_Clamp F
  · exact g_ref06_Clamp F
  · exact g_vec_Unit F
  · exact g_ref06_Unit F
  · exact g_vec_Greatest F
  · exact g_ref06_Greatest F
  · exact g_law06_works F
theorem hl_law06_VecSizes (F : Nat) : ∀ p ∈ loopsIn PP 17, LoopOK PP (S_law06_VecSizes F) c_law06_VecSizes F (I_law06_VecSizes F) (J_law06_VecSizes F) p :=
  loops_of [] (by kernel_rfl) all_nil
theorem hj_law06_VecSizes (F : Nat) : ∀ p ∈ joinsIn PP c_law06_VecSizes 17, JoinOK PP (S_law06_VecSizes F) c_law06_VecSizes (I_law06_VecSizes F) (J_law06_VecSizes F) p :=
  joins_of [] (by kernel_rfl) all_nil
theorem g_law06_VecSizes (F : Nat) : Good PP 17 (unS (s_law06_VecSizes F)) :=
  fun_spec (hS_law06_VecSizes F) (by kernel_rfl) (by kernel_rfl) (C := c_law06_VecSizes) (F := fun q => (f_law06_VecSizes F (atI (nth q 0)) (atI (nth q 1)) (atI (nth q 2)) (atI (nth q 3)))) (fun _ => F) (fun _ => I_law06_VecSizes F) (fun _ => J_law06_VecSizes F) (fun _ => hl_law06_VecSizes F) (fun _ => hj_law06_VecSizes F)
    (fun q => (congrArg (funL PP (S_law06_VecSizes F) c_law06_VecSizes (I_law06_VecSizes F) (J_law06_VecSizes F) 17) (show (fTs ti_law06_VecSizes q).1 = (fTs ti_law06_VecSizes [.i (atI (nth q 0)), .i (atI (nth q 1)), .i (atI (nth q 2)), .i (atI (nth q 3))]).1 by kernel_rfl)).trans (e_law06_VecSizes F (atI (nth q 0)) (atI (nth q 1)) (atI (nth q 2)) (atI (nth q 3))))
    (fun _ h => (okT_fill h).trans (congrArg some (by kernel_rfl)))

end Go.Xv
namespace Go.Xv
theorem p2pos (n : Nat) : (0 : Int) < 2 ^ n := Int.pow_pos (by decide)
theorem p2add (a b : Nat) : (2 : Int) ^ a * 2 ^ b = 2 ^ (a + b) := (Int.pow_add 2 a b).symm
theorem p2_64 {m : Nat} (h : m ≤ 64) : (2 : Int) ^ m * 2 ^ (64 - m) = 18446744073709551616 := by
  rw [p2add, show m + (64 - m) = 64 by omega]; decide
theorem p2cast (k : Nat) : ((2 ^ k : Nat) : Int) = 2 ^ k := by push_cast; rfl
theorem emod_mul {a P Q : Int} (hP : 0 < P) : (a * P) % (P * Q) = (a % Q) * P := by
  rw [Int.mul_comm a P, Int.mul_emod_mul_of_pos _ _ hP, Int.mul_comm]

theorem shl_small {h l : Int} {m : Nat} (hl : U64 l) (hm : m < 64) :
    IntKind.wrap .i64 (orI .u64 (((h % 18446744073709551616) * 2 ^ m) % 18446744073709551616) (l / 2 ^ (64 - m))) = hi (val h l * 2 ^ m) ∧ (l * 2 ^ m) % 18446744073709551616 = lo (val h l * 2 ^ m) := by
  have hP := p2pos m
  have hQ := p2pos (64 - m)
  have hPQ := p2_64 (m := m) (by omega)
  have eP : ((2 ^ m : Nat) : Int) = 2 ^ m := p2cast _
  have orq := fun a b => or_add_u64 m (a := a) (b := b)
  rw [eP] at orq
  generalize (2 : Int) ^ m = P at *
  generalize (2 : Int) ^ (64 - m) = Q at *
  have hv : val h l * P = h * P * 18446744073709551616 + l * P := by
    unfold val
    rw [Int.add_mul]
    have : h * 18446744073709551616 * P = h * P * 18446744073709551616 := by simp only [Int.mul_comm, Int.mul_assoc, Int.mul_left_comm]
    omega
  have hlP : 0 ≤ l / Q ∧ l / Q < P := by
    unfold U64 at hl
    exact ⟨Int.ediv_nonneg hl.1 (by omega), Int.ediv_lt_of_lt_mul hQ (by omega)⟩
  rw [hv]
  have e3 : (l * P) / 18446744073709551616 = l / Q := by
    rw [← hPQ, ← Int.ediv_ediv_of_nonneg (by omega), Int.mul_ediv_cancel _ (by omega)]
  constructor
  · have e1 : ((h % 18446744073709551616) * P) % 18446744073709551616 = (h % Q) * P := by
      rw [← hPQ, emod_mul hP, Int.emod_emod_of_dvd h (show Q ∣ P * Q from ⟨P, Int.mul_comm P Q⟩)]
    have b1 := Int.emod_nonneg h (show Q ≠ 0 by omega)
    have b2 := Int.emod_lt_of_pos h hQ
    have b3 : (h % Q) * P + l / Q < 18446744073709551616 := by
      have : (h % Q) * P ≤ (Q - 1) * P := Int.mul_le_mul_of_nonneg_right (by omega) (by omega)
      rw [Int.sub_mul, Int.mul_comm Q P] at this
      omega
    have b4 := Int.mul_nonneg b1 (show 0 ≤ P by omega)
    rw [e1, orq _ _ b1 hlP.1 hlP.2 b3, wi64]
    unfold hi
    have e2 : (h * P) % 18446744073709551616 = (h % Q) * P := by rw [← hPQ, emod_mul hP]
    rw [show (h * P * 18446744073709551616 + l * P) / 18446744073709551616 = h * P + (l * P) / 18446744073709551616 by omega, e3]
    omega
  · unfold lo
    omega

theorem shl_great {h l : Int} {m : Nat} (hm : 64 ≤ m) :
    IntKind.wrap .i64 ((l * 2 ^ (m - 64)) % 18446744073709551616) = hi (val h l * 2 ^ m) ∧ 0 = lo (val h l * 2 ^ m) := by
  have e : (2 : Int) ^ m = 2 ^ (m - 64) * 18446744073709551616 := by
    rw [show (18446744073709551616 : Int) = 2 ^ 64 by decide, p2add, show (m - 64) + 64 = m by omega]
  rw [e]
  generalize (2 : Int) ^ (m - 64) = P at *
  have hv : val h l * (P * 18446744073709551616) = (h * P * 18446744073709551616 + l * P) * 18446744073709551616 := by
    unfold val
    simp only [Int.add_mul]
    have : h * 18446744073709551616 * (P * 18446744073709551616) = h * P * 18446744073709551616 * 18446744073709551616 := by simp only [Int.mul_comm, Int.mul_assoc, Int.mul_left_comm]
    have : l * (P * 18446744073709551616) = l * P * 18446744073709551616 := by simp only [Int.mul_assoc]
    omega
  rw [hv]
  generalize h * P = a
  generalize l * P = b
  constructor
  · rw [wi64]; unfold hi; omega
  · unfold lo; omega
theorem shl_all {h l : Int} {m : Nat} (hm : 128 ≤ m) : 0 = hi (val h l * 2 ^ m) ∧ 0 = lo (val h l * 2 ^ m) := by
  have e : (2 : Int) ^ m = 2 ^ (m - 128) * 340282366920938463463374607431768211456 := by
    rw [show (340282366920938463463374607431768211456 : Int) = 2 ^ 128 by decide, p2add, show (m - 128) + 128 = m by omega]
  rw [e, ← Int.mul_assoc]
  generalize val h l * 2 ^ (m - 128) = b
  constructor
  · unfold hi; omega
  · unfold lo; omega
end Go.Xv
namespace Go.Xv
/-- one bit of a number -/
def dg (z : Int) (i : Nat) : Int := z / 2 ^ i % 2
def ds (z : Int) (n : Nat) : List VV := (List.range n).map fun i => .v (.int .i64 (dg z i))
theorem dg_01 (z : Int) (i : Nat) : 0 ≤ dg z i ∧ dg z i ≤ 1 := by unfold dg; omega
theorem ds_len (z : Int) (n : Nat) : (ds z n).length = n := by simp [ds]
theorem ds_zero (z : Int) : ds z 0 = [] := rfl
theorem ds_succ (z : Int) (n : Nat) : ds z (n + 1) = ds z n ++ [.v (.int .i64 (dg z n))] := by simp [ds, List.range_succ]
theorem ds_get (z : Int) {n i : Nat} (h : i < n) : (ds z n)[i]? = some (.v (.int .i64 (dg z i))) := by simp [ds, h]
theorem ds_take (z : Int) (n : Nat) : ((ds z n).drop 0).take (n * 1) = ds z n := by
  rw [List.drop_zero, List.take_of_length_le]
  rw [ds_len]; omega
theorem ediv2 (x : Int) (i : Nat) : x / 2 ^ i / 2 = x / 2 ^ (i + 1) := by
  rw [Int.ediv_ediv_of_nonneg (Int.le_of_lt (p2pos i))]; rfl
theorem bitlo (x : Int) {n i : Nat} (h : i < n) : (x % 2 ^ n) / 2 ^ i % 2 = x / 2 ^ i % 2 := by
  have e : (2 : Int) ^ n = 2 ^ i * (2 * 2 ^ (n - i - 1)) := by
    rw [show (2 : Int) * 2 ^ (n - i - 1) = 2 ^ (n - i) by
      rw [show n - i = (n - i - 1) + 1 by omega, Int.pow_succ]; simp [Int.mul_comm]]
    rw [p2add, show i + (n - i) = n by omega]
  have hd := Int.mul_ediv_add_emod x (2 ^ n)
  generalize hq : x / 2 ^ n = q at hd
  generalize hr : x % 2 ^ n = r at hd ⊢
  rw [← hd, e]
  have hP := p2pos i
  generalize (2 : Int) ^ i = P at *
  generalize (2 : Int) ^ (n - i - 1) = T at *
  rw [show P * (2 * T) * q + r = r + 2 * T * q * P by
    have : P * (2 * T) * q = 2 * T * q * P := by simp only [Int.mul_comm, Int.mul_left_comm]
    omega, Int.add_mul_ediv_right _ _ (by omega)]
  have : 2 * T * q = 2 * (T * q) := Int.mul_assoc ..
  omega
theorem dg_lo (z : Int) {i : Nat} (h : i < 64) : lo z / 2 ^ i % 2 = dg z i := bitlo z (n := 64) h
theorem dg_hi (z : Int) {i : Nat} (h : i < 64) : (z / 18446744073709551616 % 18446744073709551616) / 2 ^ i % 2 = dg z (64 + i) := by
  have := bitlo (z / 18446744073709551616) (n := 64) h
  rw [show (18446744073709551616 : Int) = 2 ^ 64 by decide] at *
  rw [this, Int.ediv_ediv_of_nonneg (by decide), p2add]
  rfl
/-- the number of the first bits -/
def num (z : Int) (n : Nat) : Int := z % 2 ^ n
theorem num_zero (z : Int) : num z 0 = 0 := by unfold num; omega
theorem num_succ (z : Int) (n : Nat) : num z (n + 1) = num z n + dg z n * 2 ^ n := by
  unfold num dg
  have h1 := Int.mul_ediv_add_emod z (2 ^ n)
  have h2 := Int.mul_ediv_add_emod (z / 2 ^ n) 2
  have h3 := Int.mul_ediv_add_emod z (2 ^ (n + 1))
  rw [← ediv2] at h3
  have hP := p2pos n
  have e : (2 : Int) ^ (n + 1) = 2 * 2 ^ n := by rw [Int.pow_succ, Int.mul_comm]
  rw [e] at h3 ⊢
  generalize (2 : Int) ^ n = P at *
  generalize z / P = q at *
  have : 2 * P * (q / 2) = P * (2 * (q / 2)) := by simp only [Int.mul_comm, Int.mul_left_comm]
  have : P * q = P * (2 * (q / 2) + q % 2) := by rw [h2]
  rw [Int.mul_add] at this
  rw [Int.mul_comm (q % 2) P]
  omega
theorem num_bd (z : Int) (n : Nat) : 0 ≤ num z n ∧ num z n < 2 ^ n := by
  have := p2pos n
  exact ⟨Int.emod_nonneg _ (by omega), Int.emod_lt_of_pos _ this⟩
theorem p2mono {a b : Nat} (h : a ≤ b) : (2 : Int) ^ a ≤ 2 ^ b := by
  rw [show b = a + (b - a) by omega, ← p2add]
  have h1 := p2pos a
  have h2 := p2pos (b - a)
  have : (2 : Int) ^ a * 1 ≤ 2 ^ a * 2 ^ (b - a) := Int.mul_le_mul_of_nonneg_left (by omega) (by omega)
  omega
theorem p2_lt64 {i : Nat} (h : i < 64) : (2 : Int) ^ i * 2 ≤ 18446744073709551616 := by
  have := p2mono (a := i + 1) (b := 64) (by omega)
  rw [Int.pow_succ] at this
  simpa using this
/-- the bits of a sum -/
def cy (x y : Int) (i : Nat) : Int := (num x i + num y i) / 2 ^ i
theorem cy_zero (x y : Int) : cy x y 0 = 0 := by unfold cy; rw [num_zero, num_zero]; decide
theorem cy_01 (x y : Int) (i : Nat) : 0 ≤ cy x y i ∧ cy x y i ≤ 1 := by
  unfold cy
  have h1 := num_bd x i
  have h2 := num_bd y i
  have hP := p2pos i
  generalize (2 : Int) ^ i = P at *
  refine ⟨Int.ediv_nonneg (by omega) (by omega), ?_⟩
  have : (num x i + num y i) / P < 2 := Int.ediv_lt_of_lt_mul hP (by omega)
  omega
theorem cy_succ (x y : Int) (i : Nat) : cy x y (i + 1) = (dg x i + dg y i + cy x y i) / 2 ∧ dg (x + y) i = (dg x i + dg y i + cy x y i) % 2 := by
  have hP := p2pos i
  have e1 := num_succ x i
  have e2 := num_succ y i
  constructor
  · unfold cy
    rw [e1, e2, ← ediv2]
    generalize (2 : Int) ^ i = P at *
    rw [show num x i + dg x i * P + (num y i + dg y i * P) = num x i + num y i + (dg x i + dg y i) * P by rw [Int.add_mul]; omega, Int.add_mul_ediv_right _ _ (by omega)]
    congr 1
    omega
  · unfold cy
    have h1 := Int.mul_ediv_add_emod x (2 ^ i)
    have h2 := Int.mul_ediv_add_emod y (2 ^ i)
    have h3 : (x + y) / 2 ^ i = x / 2 ^ i + y / 2 ^ i + (num x i + num y i) / 2 ^ i := by
      unfold num
      generalize (2 : Int) ^ i = P at *
      have : x + y = (x % P + y % P) + (x / P + y / P) * P := by
        rw [Int.add_mul, Int.mul_comm _ P, Int.mul_comm _ P]; omega
      rw [this, Int.add_mul_ediv_right _ _ (by omega)]
      omega
    unfold dg
    rw [h3]
    omega
theorem dg_not (z : Int) (i : Nat) : dg (-1 - z) i = 1 - dg z i := by
  have h : (-1 - z) / 2 ^ i = -1 - z / 2 ^ i := by
    have hP := p2pos i
    have h1 := Int.mul_ediv_add_emod z (2 ^ i)
    have h2 := Int.emod_nonneg z (show (2 : Int) ^ i ≠ 0 by omega)
    have h3 := Int.emod_lt_of_pos z hP
    generalize (2 : Int) ^ i = P at *
    generalize z / P = q at *
    generalize z % P = r at *
    rw [← h1, show -1 - (P * q + r) = (P - 1 - r) + (-1 - q) * P by rw [Int.sub_mul, Int.mul_comm P q]; omega, Int.add_mul_ediv_right _ _ (by omega), Int.ediv_eq_zero_of_lt (by omega) (by omega)]
    omega
  unfold dg
  rw [h]
  omega
end Go.Xv
namespace Go.Xv
def sz (a : Int) : Int := if a < 0 then -a else a
end Go.Xv
namespace Go.Xv
theorem bp {α : Type} {c : Bool} {a b x : α} (h : c = true) (h2 : a = x) : (bif c then a else b) = x := by rw [h]; exact h2
theorem bn {α : Type} {c : Bool} {a b x : α} (h : c = false) (h2 : b = x) : (bif c then a else b) = x := by rw [h]; exact h2
theorem dt {p : Prop} [Decidable p] (h : p) : decide p = true := decide_eq_true h
theorem df {p : Prop} [Decidable p] (h : ¬ p) : decide p = false := decide_eq_false h
theorem fdiv_pos (a : Int) {b : Int} (h : 0 ≤ b) : Int.fdiv a b = a / b := Int.fdiv_eq_ediv_of_nonneg a h
theorem some_int {k : IntKind} {a b : Int} (h : a = b) : (some (VV.v (.int k a)) : R) = some (.v (.int k b)) := by rw [h]
theorem some_wd {a b : Int} {z : Int} (h : a = hi z) (k : b = lo z) : (some (VV.v (.agg #[.int .i64 a, .int .u64 b])) : R) = some (wd z) := by rw [h, k]; rfl

theorem f_bare (F : Nat) {a : Int} (h : I64 a) : f_wide_bare F a = some (.v (.int .u64 (if a < 0 then -a else a))) := by
  unfold f_wide_bare
  unfold I64 at h
  by_cases h0 : a < 0
  · refine bp (dt h0) (some_int ?_)
    rw [if_pos h0, wu64, wu64]; omega
  · refine bn (df h0) (some_int ?_)
    rw [if_neg h0, wu64]; omega

theorem f_Add (F : Nat) {a b c d : Int} (hb : U64 b) (hd : U64 d) : f_wide_Add F a b c d = some (wd (val a b + val c d)) := by
  unfold f_wide_Add
  unfold U64 at hb hd
  simp only [wu64, wi64]
  by_cases h : (b + d) % 18446744073709551616 < b
  · refine bp (dt h) (some_wd ?_ ?_)
    · unfold hi val; omega
    · unfold lo val; omega
  · refine bn (df h) (some_wd ?_ ?_)
    · unfold hi val; omega
    · unfold lo val; omega

theorem f_Neg (F : Nat) {a b : Int} (ha : I64 a) (hb : U64 b) : f_wide_Neg F a b = some (wd (-val a b)) := by
  unfold f_wide_Neg
  rw [not_i64 ha, not_u64 hb]
  unfold U64 at hb
  obtain ⟨h1, h2, h3⟩ := k_wide_Add F _ _ _ _ (f_Add F (a := -1 - a) (b := 18446744073709551615 - b) (c := 0) (d := 1) (by unfold U64; omega) (by unfold U64; omega))
  refine bp h1 ?_
  rw [h2, h3]
  refine some_wd (hi_eqv ?_) (lo_eqv ?_)
  all_goals unfold Eqv val; omega

end Go.Xv
namespace Go.Xv
theorem some_bool {a b : Bool} (h : a = b) : (some (VV.v (.bool a)) : R) = some (.v (.bool b)) := by rw [h]
theorem nn (k : Nat) : (!decide ((k : Int) < 0)) = true := by rw [df (by omega)]; rfl
theorem p2min {m : Nat} (h : m ≤ 64) : min (Int.toNat (m : Int)) 64 = m := by omega

theorem f_Of (F : Nat) {n : Int} (h : I64 n) : f_wide_Of F n = some (wd n) := by
  unfold f_wide_Of
  unfold I64 at h
  refine some_wd ?_ ?_
  · rw [fdiv_pos _ (by decide)]; unfold hi; omega
  · rw [wu64]; rfl
theorem f_rOf (F : Nat) {n : Int} (h : I64 n) : f_ref01_Of F n = some (wd n) := by
  unfold f_ref01_Of
  unfold I64 at h
  by_cases h0 : n < 0
  · refine bp (dt h0) (some_wd ?_ ?_)
    · unfold hi; omega
    · rw [wu64]; rfl
  · refine bn (df h0) (some_wd ?_ ?_)
    · unfold hi; omega
    · rw [wu64]; rfl

theorem f_Left (F : Nat) {a b n : Int} (hb : U64 b) : f_wide_Left F a b n = some (wd (val a b * 2 ^ n.toNat)) := by
  unfold f_wide_Left
  have hv : (if 0 > n then 0 else n) = ((n.toNat : Nat) : Int) := by split <;> omega
  rw [hv]
  generalize n.toNat = m
  simp only [Int.toNat_natCast]
  by_cases h : 128 ≤ m
  · refine bp (dt (by omega)) ?_
    obtain ⟨h1, h2⟩ := shl_all (h := a) (l := b) h
    exact some_wd h1 h2
  · refine bn (df (by omega)) ?_
    by_cases h : 64 ≤ m
    · refine bp (dt (by omega)) ?_
      rw [wi64_in (x := (m : Int) - 64) (by unfold I64; omega), show (m : Int) - 64 = ((m - 64 : Nat) : Int) by omega]
      refine bp (nn _) ?_
      rw [p2min (by omega), wu64]
      obtain ⟨h1, h2⟩ := shl_great (h := a) (l := b) h
      exact some_wd h1 h2
    · refine bn (df (by omega)) ?_
      refine bp (nn _) ?_
      rw [wi64_in (x := 64 - (m : Int)) (by unfold I64; omega), show 64 - (m : Int) = ((64 - m : Nat) : Int) by omega]
      refine bp (nn _) (bp (nn _) ?_)
      rw [fdiv_pos _ (Int.le_of_lt (p2pos _)), show min m 64 = m by omega, p2min (by omega), wu64, wu64, wu64]
      obtain ⟨h1, h2⟩ := shl_small (h := a) hb (show m < 64 by omega)
      exact some_wd h1 h2

theorem f_Sign (F : Nat) {a b : Int} (hb : U64 b) : f_wide_Sign F a b = some (.v (.int .i64 (if val a b < 0 then -1 else if val a b = 0 then 0 else 1))) := by
  unfold f_wide_Sign val
  unfold U64 at hb
  by_cases h : a < 0
  · refine bp (dt h) (some_int ?_)
    rw [if_pos (by omega)]
  · refine bn (df h) ?_
    by_cases h2 : a = 0 ∧ b = 0
    · refine bp (by simp [h2]) (some_int ?_)
      rw [if_neg (by omega), if_pos (by omega)]
    · refine bn (by simp; omega) (some_int ?_)
      rw [if_neg (by omega), if_neg (by omega)]
theorem f_Less (F : Nat) {a b c d : Int} (hb : U64 b) (hd : U64 d) : f_wide_Less F a b c d = some (.v (.bool (decide (val a b < val c d)))) := by
  unfold f_wide_Less val
  unfold U64 at hb hd
  by_cases h : a = c
  · refine bn (by simp [h]) (some_bool ?_)
    rw [decide_eq_decide]; omega
  · refine bp (by simp [h]) (some_bool ?_)
    rw [decide_eq_decide]; omega
end Go.Xv
namespace Go.Xv
theorem lo_step (z : Int) (i : Nat) : IntKind.wrap .u64 (Int.tdiv (lo z / 2 ^ i) 2) = lo z / 2 ^ (i + 1) := by
  have h := lo_U z
  unfold U64 at h
  have h1 := Int.ediv_nonneg h.1 (Int.le_of_lt (p2pos i))
  have h2 := Int.ediv_le_self (2 ^ i) h.1
  rw [Int.tdiv_eq_ediv_of_nonneg h1, ediv2, wu64_in]
  have h3 := Int.ediv_nonneg h.1 (Int.le_of_lt (p2pos (i + 1)))
  have h4 := Int.ediv_le_self (2 ^ (i + 1)) h.1
  unfold U64; omega
theorem lo_bit (z : Int) {i : Nat} (h : i < 64) : IntKind.wrap .i64 (Int.tmod (lo z / 2 ^ i) 2) = dg z i := by
  have h0 := lo_U z
  unfold U64 at h0
  have h1 := Int.ediv_nonneg h0.1 (Int.le_of_lt (p2pos i))
  rw [Int.tmod_eq_emod_of_nonneg h1, dg_lo z h, wi64_in]
  have := dg_01 z i
  unfold I64; omega
theorem cap_ok (z : Int) (i : Nat) (h : i < 1000) : (((decide ((0 + (i * 1)) ≤ (ds z i).length)) && true) && (decide ((i + 1) * 9 ≤ bigger))) = true := by
  rw [ds_len, dt (by omega), dt (show (i + 1) * 9 ≤ bigger by unfold bigger; omega)]; rfl
theorem lp_Digits_0 (F : Nat) (ex) (z x0 x1 x5 x6 : Int) : ∀ (k n i : Nat) (x3 x4 : Int) (x7 : List VV), i + k = 64 → k < n → x3 = lo z / 2 ^ i → x4 = i → x7 = ds z i →
    L_ref01_Digits_0 F ex n x0 x1 i x3 x4 x5 x6 x7 = ex x0 x1 64 (lo z / 2 ^ 64) 64 x5 x6 (ds z 64)
  | _, 0, _, _, _, _, _, h, _, _, _ => absurd h (by omega)
  | 0, n + 1, i, _, _, _, h, _, rfl, rfl, rfl => by
    obtain rfl : i = 64 := by omega
    rw [L_ref01_Digits_0]
    unfold B_ref01_Digits_0
    exact bn (df (by omega)) rfl
  | k + 1, n + 1, i, _, _, _, h, hn, rfl, rfl, rfl => by
    rw [L_ref01_Digits_0]
    unfold B_ref01_Digits_0
    refine bp (dt (by omega)) (bp (cap_ok z _ (by omega)) ?_)
    refine lp_Digits_0 F ex z x0 x1 x5 x6 k n (i + 1) _ _ _ (by omega) (by omega) (lo_step z i) ?_ ?_
    · rw [wi64_in (by unfold I64; omega)]; push_cast; rfl
    · rw [ds_take, lo_bit z (by omega), ← ds_succ]
def up (z : Int) : Int := z / 18446744073709551616 % 18446744073709551616
theorem lp_Digits_1 (F : Nat) (ex) (z x0 x1 x3 x4 x7 x8 : Int) : ∀ (k n i j : Nat) (x5 x6 : Int) (x9 : List VV), i + k = 64 → j = 64 + i → k < n → x5 = up z / 2 ^ i → x6 = i → x9 = ds z j →
    L_ref01_Digits_1 F ex n x0 x1 j x3 x4 x5 x6 x7 x8 x9 = ex x0 x1 128 x3 x4 (up z / 2 ^ 64) 64 x7 x8 (ds z 128)
  | _, 0, _, _, _, _, _, _, _, h, _, _, _ => absurd h (by omega)
  | 0, n + 1, i, j, _, _, _, h, hj, _, rfl, rfl, rfl => by
    obtain rfl : i = 64 := by omega
    obtain rfl : j = 128 := by omega
    rw [L_ref01_Digits_1]
    unfold B_ref01_Digits_1
    exact bn (df (by omega)) rfl
  | k + 1, n + 1, i, j, _, _, _, h, hj, hn, rfl, rfl, rfl => by
    rw [L_ref01_Digits_1]
    unfold B_ref01_Digits_1
    refine bp (dt (by omega)) (bp (cap_ok z _ (by omega)) ?_)
    have e : up z = lo (z / 18446744073709551616) := rfl
    refine lp_Digits_1 F ex z x0 x1 x3 x4 x7 x8 k n (i + 1) (j + 1) _ _ _ (by omega) (by omega) (by omega) ?_ ?_ ?_
    · rw [e, lo_step]
    · rw [wi64_in (by unfold I64; omega)]; push_cast; rfl
    · rw [ds_take, e, lo_bit _ (by omega), ← dg_lo _ (by omega), ← e]
      unfold up
      rw [dg_hi z (by omega), ← hj, ← ds_succ]
theorem f_Digits (F : Nat) (hF : 200 ≤ F) {a b : Int} (hb : U64 b) : f_ref01_Digits F a b = some (.fs (ds (val a b) 128) 0 128 1) := by
  unfold f_ref01_Digits
  have hl := lo_val (h := a) hb
  rw [lp_Digits_0 F _ (val a b) a b a b 64 F 0 b 0 [] (by omega) (by omega) (by rw [hl]; simp) rfl rfl]
  rw [lp_Digits_1 F _ (val a b) a b _ _ _ _ 64 F 0 64 _ 0 _ (by omega) (by omega) (by omega) ?_ rfl rfl]
  rw [wu64]
  unfold up val
  unfold U64 at hb
  simp only [Int.pow_zero]
  omega

theorem num_iv (l : List VV) (i : Nat) (b : Int) (h : l[i]? = some (.v (.int .i64 b))) : isI .i64 l[i]? = true ∧ iv l[i]? = b := by
  rw [h]
  exact ⟨rfl, rfl⟩
theorem zmul (i : Nat) : (0 + ((Int.toNat (i : Int)) * 1)) = i := by simp
theorem lp_Number_0 (F : Nat) (ex) (z : Int) (l : List VV) (x1 : Nat) (x3 x6 x7 : Int) (h1 : 64 ≤ x1) (hl : ∀ i : Nat, i < 64 → l[i]? = some (.v (.int .i64 (dg z i)))) : ∀ (k n i : Nat) (x2 x4 x5 : Int), i + k = 64 → k < n → x2 = num z i → x4 = (2 ^ i) % 18446744073709551616 → x5 = i →
    L_ref01_Number_0 F ex n l x1 x2 x3 x4 x5 x6 x7 = ex l x1 (num z 64) x3 0 64 x6 x7
  | _, 0, _, _, _, _, _, h, _, _, _ => absurd h (by omega)
  | 0, n + 1, i, _, _, _, h, _, rfl, rfl, rfl => by
    obtain rfl : i = 64 := by omega
    rw [L_ref01_Number_0]
    unfold B_ref01_Number_0
    exact bn (df (by omega)) rfl
  | k + 1, n + 1, i, _, _, _, h, hn, rfl, rfl, rfl => by
    have hi : i < 64 := by omega
    obtain ⟨g1, g2⟩ := num_iv l i _ (hl i hi)
    have hd := dg_01 z i
    have hp := p2pos i
    have hp2 := p2_lt64 hi
    have hb := num_bd z i
    rw [L_ref01_Number_0]
    unfold B_ref01_Number_0
    refine bp (dt (by omega)) (bp (dt (by omega)) (bp (by simp; omega) (bp (by rw [zmul, g1]; rfl) ?_)))
    rw [zmul, g2, wu64_in (x := dg z i) (by unfold U64; omega)]
    refine lp_Number_0 F ex z l x1 x3 x6 x7 h1 hl k n (i + 1) _ _ _ (by omega) (by omega) ?_ ?_ ?_
    · rw [num_succ]
      generalize (2 : Int) ^ i = P at *
      rw [Int.emod_eq_of_lt (a := P) (by omega) (by omega)]
      have : 0 ≤ dg z i * P ∧ dg z i * P ≤ P := by
        rcases (show dg z i = 0 ∨ dg z i = 1 by omega) with h | h <;> rw [h] <;> omega
      rw [wu64_in (x := dg z i * P) (by unfold U64; omega), wu64_in (by unfold U64; omega)]
    · rw [wu64, Int.pow_succ]
      omega
    · rw [wi64_in (by unfold I64; omega)]; push_cast; rfl
theorem lp_Number_1 (F : Nat) (ex) (z : Int) (l : List VV) (x1 : Nat) (x2 x5 x7 x8 : Int) (h1 : 128 ≤ x1) (hl : ∀ i : Nat, i < 64 → l[64 + i]? = some (.v (.int .i64 (dg z i)))) : ∀ (k n i : Nat) (x3 x4 x6 : Int), i + k = 64 → k < n → x3 = num z i → x4 = (2 ^ i) % 18446744073709551616 → x6 = 64 + i →
    L_ref01_Number_1 F ex n l x1 x2 x3 x4 x5 x6 x7 x8 = ex l x1 x2 (num z 64) 0 x5 128 x7 x8
  | _, 0, _, _, _, _, _, h, _, _, _ => absurd h (by omega)
  | 0, n + 1, i, _, _, _, h, _, rfl, rfl, rfl => by
    obtain rfl : i = 64 := by omega
    rw [L_ref01_Number_1]
    unfold B_ref01_Number_1
    exact bn (df (by omega)) rfl
  | k + 1, n + 1, i, _, _, _, h, hn, rfl, rfl, rfl => by
    have hi : i < 64 := by omega
    obtain ⟨g1, g2⟩ := num_iv l (64 + i) _ (hl i hi)
    have hd := dg_01 z i
    have hp := p2pos i
    have hp2 := p2_lt64 hi
    have hb := num_bd z i
    have zm : (0 + ((Int.toNat (64 + (i : Int))) * 1)) = 64 + i := by omega
    rw [L_ref01_Number_1]
    unfold B_ref01_Number_1
    refine bp (dt (by omega)) (bp (dt (by omega)) (bp (by simp; omega) (bp (by rw [zm, g1]; rfl) ?_)))
    rw [zm, g2, wu64_in (x := dg z i) (by unfold U64; omega)]
    refine lp_Number_1 F ex z l x1 x2 x5 x7 x8 h1 hl k n (i + 1) _ _ _ (by omega) (by omega) ?_ ?_ ?_
    · rw [num_succ]
      generalize (2 : Int) ^ i = P at *
      rw [Int.emod_eq_of_lt (a := P) (by omega) (by omega)]
      have : 0 ≤ dg z i * P ∧ dg z i * P ≤ P := by
        rcases (show dg z i = 0 ∨ dg z i = 1 by omega) with h | h <;> rw [h] <;> omega
      rw [wu64_in (x := dg z i * P) (by unfold U64; omega), wu64_in (by unfold U64; omega)]
    · rw [wu64, Int.pow_succ]
      omega
    · rw [wi64_in (by unfold I64; omega)]; push_cast; omega
theorem dg_up (z : Int) (i : Nat) : dg z (64 + i) = dg (z / 18446744073709551616) i := by
  unfold dg
  rw [show (18446744073709551616 : Int) = 2 ^ 64 by decide, Int.ediv_ediv_of_nonneg (by decide), p2add]
theorem f_Number (F : Nat) (hF : 200 ≤ F) (z : Int) : f_ref01_Number F (ds z 128) 128 = some (wd z) := by
  unfold f_ref01_Number
  rw [lp_Number_0 F _ z (ds z 128) 128 0 0 0 (by omega) (fun i hi => ds_get z (by omega)) 64 F 0 0 1 0 (by omega) (by omega) (num_zero z).symm (by decide) rfl]
  rw [lp_Number_1 F _ (z / 18446744073709551616) (ds z 128) 128 _ _ _ _ (by omega) (fun i hi => by rw [ds_get z (by omega), dg_up]) 64 F 0 0 1 64 (by omega) (by omega) (num_zero _).symm (by decide) rfl]
  refine some_wd ?_ ?_
  · rw [wi64]; unfold num hi
    rw [show (2 : Int) ^ 64 = 18446744073709551616 by decide]
    omega
  · unfold num lo
    rw [show (2 : Int) ^ 64 = 18446744073709551616 by decide]
end Go.Xv
namespace Go.Xv
theorem wi64_s (i : Nat) (h : i < 1000) : IntKind.wrap .i64 ((i : Int) + 1) = ((i + 1 : Nat) : Int) := by
  rw [wi64_in (by unfold I64; omega)]; push_cast; rfl
theorem ix_ok (i n : Nat) (h : i < n) : ((decide (0 ≤ (i : Int))) && (decide ((i : Int) < ((n : Nat) : Int)))) = true := by
  rw [dt (by omega), dt (by omega)]; rfl
theorem isI_ds (z : Int) {i n : Nat} (h : i < n) : ((isI .i64 (ds z n)[0 + ((Int.toNat (i : Int)) * 1)]?) && true) = true := by
  rw [zmul, ds_get z h]; rfl
theorem iv_ds (z : Int) {i n : Nat} (h : i < n) : iv (ds z n)[0 + ((Int.toNat (i : Int)) * 1)]? = dg z i := by
  rw [zmul, ds_get z h]; rfl
theorem lp_Add_0 (F : Nat) (ex) (x y a b c d x9 x10 x11 x12 x13 x14 : Int) : ∀ (k n i : Nat) (x7 x8 : Int) (l : List VV), i + k = 128 → k < n → x7 = cy x y i → x8 = i → l = ds (x + y) i →
    L_ref01_Add_0 F ex n a b c d 128 128 i x7 x8 x9 x10 x11 x12 x13 x14 (ds x 128) (ds y 128) l = ex a b c d 128 128 128 (cy x y 128) 128 x9 x10 x11 x12 x13 x14 (ds x 128) (ds y 128) (ds (x + y) 128)
  | _, 0, _, _, _, _, _, h, _, _, _ => absurd h (by omega)
  | 0, n + 1, i, _, _, _, h, _, rfl, rfl, rfl => by
    obtain rfl : i = 128 := by omega
    rw [L_ref01_Add_0]
    unfold B_ref01_Add_0
    exact bn (df (by omega)) rfl
  | k + 1, n + 1, i, _, _, _, h, hn, rfl, rfl, rfl => by
    have hi : i < 128 := by omega
    rw [L_ref01_Add_0]
    unfold B_ref01_Add_0
    have h1 := dg_01 x i
    have h2 := dg_01 y i
    have h3 := cy_01 x y i
    obtain ⟨e1, e2⟩ := cy_succ x y i
    refine bp (dt (by omega)) (bp (ix_ok i 128 hi) (bp (isI_ds x hi) (bp (ix_ok i 128 hi) (bp (isI_ds y hi) ?_))))
    dsimp only
    rw [iv_ds x hi, iv_ds y hi, wi64_in (x := dg x i + dg y i) (by unfold I64; omega), wi64_in (x := dg x i + dg y i + cy x y i) (by unfold I64; omega)]
    refine bp (cap_ok _ _ (by omega)) ?_
    refine lp_Add_0 F ex x y a b c d x9 x10 x11 x12 x13 x14 k n (i + 1) _ _ _ (by omega) (by omega) ?_ (wi64_s i (by omega)) ?_
    · rw [Int.tdiv_eq_ediv_of_nonneg (by omega), ← e1, wi64_in]
      have := cy_01 x y (i + 1)
      unfold I64; omega
    · rw [ds_take, Int.tmod_eq_emod_of_nonneg (by omega), ← e2, ← ds_succ]
theorem f_rAdd (F : Nat) (hF : 200 ≤ F) {a b c d : Int} (hb : U64 b) (hd : U64 d) : f_ref01_Add F a b c d = some (wd (val a b + val c d)) := by
  unfold f_ref01_Add
  obtain ⟨h1, h2, h3⟩ := k_ref01_Digits F _ _ (f_Digits F hF (a := a) hb)
  obtain ⟨g1, g2, g3⟩ := k_ref01_Digits F _ _ (f_Digits F hF (a := c) hd)
  refine bp h1 (bp g1 ?_)
  rw [h2, h3, g2, g3]
  rw [lp_Add_0 F _ (val a b) (val c d) a b c d a b c d 0 0 128 F 0 0 0 [] (by omega) (by omega) (cy_zero _ _).symm rfl rfl]
  obtain ⟨n1, n2, n3⟩ := k_ref01_Number F _ _ (f_Number F hF (val a b + val c d))
  refine bp n1 ?_
  rw [n2, n3]; rfl
theorem lp_Neg_0 (F : Nat) (ex) (z x0 x1 x4 x5 x6 x7 : Int) : ∀ (k n i : Nat) (x3 : Int) (l : List VV), i + k = 128 → k < n → x3 = i → l = ds (-1 - z) i ++ (ds z 128).drop i →
    L_ref01_Neg_0 F ex n x0 x1 128 x3 x4 x5 x6 x7 l = ex x0 x1 128 128 x4 x5 x6 x7 (ds (-1 - z) 128)
  | _, 0, _, _, _, _, h, _, _ => absurd h (by omega)
  | 0, n + 1, i, _, _, h, _, rfl, rfl => by
    obtain rfl : i = 128 := by omega
    rw [L_ref01_Neg_0]
    unfold B_ref01_Neg_0
    refine bn (df (by omega)) ?_
    rw [List.drop_eq_nil_of_le (by rw [ds_len]; omega), List.append_nil]; rfl
  | k + 1, n + 1, i, _, _, h, hn, rfl, rfl => by
    have hi : i < 128 := by omega
    have hg : (ds (-1 - z) i ++ (ds z 128).drop i)[0 + ((Int.toNat (i : Int)) * 1)]? = some (.v (.int .i64 (dg z i))) := by
      rw [zmul, List.getElem?_append_right (by rw [ds_len]; omega), ds_len, Nat.sub_self, List.getElem?_drop, Nat.add_zero, ds_get z hi]
    rw [L_ref01_Neg_0]
    unfold B_ref01_Neg_0
    have h1 := dg_01 z i
    refine bp (dt (by omega)) (bp (ix_ok i 128 hi) (bp (by rw [hg]; rfl) (bp (ix_ok i 128 hi) (bp ?_ ?_))))
    · rw [zmul, dt]
      rw [List.length_append, List.length_drop, ds_len, ds_len]; omega
    · rw [hg]
      refine lp_Neg_0 F ex z x0 x1 x4 x5 x6 x7 k n (i + 1) _ _ (by omega) (by omega) (wi64_s i (by omega)) ?_
      rw [zmul, show iv (some (VV.v (.int .i64 (dg z i)))) = dg z i from rfl, wi64_in (by unfold I64; omega), ← dg_not, ds_succ (-1 - z) i]
      rw [List.take_append_of_le_length (by rw [ds_len]; omega), List.take_of_length_le (by rw [ds_len]; omega), List.drop_append, ds_len, List.drop_drop, List.drop_eq_nil_of_le (by rw [ds_len]; omega)]
      rw [show i + (i + 1 - i) = i + 1 by omega]
      simp
theorem f_rNeg (F : Nat) (hF : 200 ≤ F) {a b : Int} (hb : U64 b) : f_ref01_Neg F a b = some (wd (-val a b)) := by
  unfold f_ref01_Neg
  obtain ⟨h1, h2, h3⟩ := k_ref01_Digits F _ _ (f_Digits F hF (a := a) hb)
  refine bp h1 ?_
  rw [h2, h3]
  rw [lp_Neg_0 F _ (val a b) a b a b 0 0 128 F 0 0 _ (by omega) (by omega) rfl (by simp [ds_zero])]
  obtain ⟨n1, n2, n3⟩ := k_ref01_Number F _ _ (f_Number F hF (-1 - val a b))
  refine bp n1 ?_
  dsimp only
  obtain ⟨o1, o2, o3⟩ := k_ref01_Of F _ (f_rOf F (n := 1) (by unfold I64; omega))
  refine bp o1 ?_
  rw [n2, n3, o2, o3]
  obtain ⟨p1, p2, p3⟩ := k_ref01_Add F _ _ _ _ (f_rAdd F hF (a := hi (-1 - val a b)) (c := hi 1) (lo_U (-1 - val a b)) (lo_U 1))
  refine bp p1 ?_
  rw [p2, p3]
  have e : Eqv (val (hi (-1 - val a b)) (lo (-1 - val a b)) + val (hi 1) (lo 1)) (-val a b) := by
    rw [val_hl, val_hl]
    have := (W_eqv (-1 - val a b)).add (W_eqv 1)
    rw [show -1 - val a b + 1 = -val a b by omega] at this
    exact this
  exact some_wd (hi_eqv e) (lo_eqv e)
end Go.Xv
namespace Go.Xv
theorem a_Add (F : Nat) (x y : Int) : ok_wide_Add F (hi x) (lo x) (hi y) (lo y) = true ∧ o_wide_Add_0 F (hi x) (lo x) (hi y) (lo y) = hi (x + y) ∧ o_wide_Add_1 F (hi x) (lo x) (hi y) (lo y) = lo (x + y) := by
  obtain ⟨h1, h2, h3⟩ := k_wide_Add F _ _ _ _ (f_Add F (a := hi x) (c := hi y) (lo_U x) (lo_U y))
  rw [h2, h3, val_hl, val_hl]
  have e := (W_eqv x).add (W_eqv y)
  exact ⟨h1, hi_eqv e, lo_eqv e⟩
theorem a_rAdd (F : Nat) (hF : 200 ≤ F) (x y : Int) : ok_ref01_Add F (hi x) (lo x) (hi y) (lo y) = true ∧ o_ref01_Add_0 F (hi x) (lo x) (hi y) (lo y) = hi (x + y) ∧ o_ref01_Add_1 F (hi x) (lo x) (hi y) (lo y) = lo (x + y) := by
  obtain ⟨h1, h2, h3⟩ := k_ref01_Add F _ _ _ _ (f_rAdd F hF (a := hi x) (c := hi y) (lo_U x) (lo_U y))
  rw [h2, h3, val_hl, val_hl]
  have e := (W_eqv x).add (W_eqv y)
  exact ⟨h1, hi_eqv e, lo_eqv e⟩
theorem a_Neg (F : Nat) (x : Int) : ok_wide_Neg F (hi x) (lo x) = true ∧ o_wide_Neg_0 F (hi x) (lo x) = hi (-x) ∧ o_wide_Neg_1 F (hi x) (lo x) = lo (-x) := by
  obtain ⟨h1, h2, h3⟩ := k_wide_Neg F _ _ (f_Neg F (hi_I x) (lo_U x))
  rw [h2, h3, val_hl]
  exact ⟨h1, hi_eqv (W_eqv x).neg, lo_eqv (W_eqv x).neg⟩
theorem a_rNeg (F : Nat) (hF : 200 ≤ F) (x : Int) : ok_ref01_Neg F (hi x) (lo x) = true ∧ o_ref01_Neg_0 F (hi x) (lo x) = hi (-x) ∧ o_ref01_Neg_1 F (hi x) (lo x) = lo (-x) := by
  obtain ⟨h1, h2, h3⟩ := k_ref01_Neg F _ _ (f_rNeg F hF (a := hi x) (lo_U x))
  rw [h2, h3, val_hl]
  exact ⟨h1, hi_eqv (W_eqv x).neg, lo_eqv (W_eqv x).neg⟩
theorem a_Of (F : Nat) {n : Int} (h : I64 n) : ok_wide_Of F n = true ∧ o_wide_Of_0 F n = hi n ∧ o_wide_Of_1 F n = lo n := k_wide_Of F _ (f_Of F h)
theorem a_rOf (F : Nat) {n : Int} (h : I64 n) : ok_ref01_Of F n = true ∧ o_ref01_Of_0 F n = hi n ∧ o_ref01_Of_1 F n = lo n := k_ref01_Of F _ (f_rOf F h)
theorem a_Left (F : Nat) (x : Int) (n : Int) : ok_wide_Left F (hi x) (lo x) n = true ∧ o_wide_Left_0 F (hi x) (lo x) n = hi (x * 2 ^ n.toNat) ∧ o_wide_Left_1 F (hi x) (lo x) n = lo (x * 2 ^ n.toNat) := by
  obtain ⟨h1, h2, h3⟩ := k_wide_Left F _ _ n (f_Left F (a := hi x) (n := n) (lo_U x))
  rw [h2, h3, val_hl]
  exact ⟨h1, hi_eqv ((W_eqv x).mul _), lo_eqv ((W_eqv x).mul _)⟩

theorem lp_Mul_0 (F : Nat) (hF : 200 ≤ F) (ex) (a b x0 x1 x4 x5 : Int) : ∀ (k n i : Nat) (x3 x6 x7 x8 x9 : Int), i + k = 127 → k < n → x3 = i → x6 = hi (a * num b i) → x7 = lo (a * num b i) → x8 = hi (a * 2 ^ i) → x9 = lo (a * 2 ^ i) →
    L_ref01_Mul_0 F ex n x0 x1 128 x3 x4 x5 x6 x7 x8 x9 (ds b 128) = ex x0 x1 128 127 x4 x5 (hi (a * num b 127)) (lo (a * num b 127)) (hi (a * 2 ^ 127)) (lo (a * 2 ^ 127)) (ds b 128)
  | _, 0, _, _, _, _, _, _, _, h, _, _, _, _, _ => absurd h (by omega)
  | 0, n + 1, i, _, _, _, _, _, h, _, rfl, rfl, rfl, rfl, rfl => by
    obtain rfl : i = 127 := by omega
    rw [L_ref01_Mul_0]
    unfold B_ref01_Mul_0
    exact bn (df (by omega)) rfl
  | k + 1, n + 1, i, _, _, _, _, _, h, hn, rfl, rfl, rfl, rfl, rfl => by
    have hi' : i < 128 := by omega
    rw [L_ref01_Mul_0]
    unfold B_ref01_Mul_0
    refine bp (dt (by omega)) (bp (ix_ok i 128 hi') (bp (isI_ds b hi') ?_))
    rw [iv_ds b hi']
    obtain ⟨d1, d2, d3⟩ := a_rAdd F hF (a * 2 ^ i) (a * 2 ^ i)
    have e2 : a * 2 ^ i + a * 2 ^ i = a * 2 ^ (i + 1) := by rw [Int.pow_succ, ← Int.mul_assoc]; omega
    rw [e2] at d2 d3
    rcases (show dg b i = 0 ∨ dg b i = 1 by have := dg_01 b i; omega) with hd | hd
    · refine bn (by rw [hd]; rfl) (bp d1 ?_)
      have e : num b (i + 1) = num b i := by rw [num_succ, hd]; omega
      exact lp_Mul_0 F hF ex a b x0 x1 x4 x5 k n (i + 1) _ _ _ _ _ (by omega) (by omega) (wi64_s i (by omega)) (by rw [e]) (by rw [e]) d2 d3
    · obtain ⟨c1, c2, c3⟩ := a_rAdd F hF (a * num b i) (a * 2 ^ i)
      have e : a * num b i + a * 2 ^ i = a * num b (i + 1) := by rw [num_succ, hd, Int.mul_add, Int.one_mul]
      rw [e] at c2 c3
      refine bp (by rw [hd]; rfl) (bp c1 (bp d1 ?_))
      exact lp_Mul_0 F hF ex a b x0 x1 x4 x5 k n (i + 1) _ _ _ _ _ (by omega) (by omega) (wi64_s i (by omega)) c2 c3 d2 d3
theorem num_127 {b : Int} (h : W128 b) : b = num b 127 - dg b 127 * 2 ^ 127 := by
  unfold num dg
  unfold W128 at h
  rw [show (2 : Int) ^ 127 = 170141183460469231731687303715884105728 by decide]
  omega
theorem I64_W {b : Int} (h : I64 b) : W128 b := by unfold I64 at h; unfold W128; omega
theorem f_rMul (F : Nat) (hF : 200 ≤ F) {a b : Int} (ha : I64 a) (hb : I64 b) : f_ref01_Mul F a b = some (wd (a * b)) := by
  unfold f_ref01_Mul
  obtain ⟨h1, h2, h3⟩ := a_rOf F ha
  obtain ⟨g1, g2, g3⟩ := a_rOf F hb
  obtain ⟨d1, d2, d3⟩ := k_ref01_Digits F _ _ (f_Digits F hF (a := hi b) (lo_U b))
  rw [val_hl, W_in (I64_W hb)] at d2
  refine bp h1 (bp g1 ?_)
  rw [g2, g3, h2, h3]
  refine bp d1 ?_
  rw [d2, d3]
  rw [lp_Mul_0 F hF _ a b a b 0 0 127 F 0 0 0 0 _ _ (by omega) (by omega) rfl (by rw [num_zero, Int.mul_zero]; rfl) (by rw [num_zero, Int.mul_zero]; rfl) (by rw [Int.pow_zero, Int.mul_one]) (by rw [Int.pow_zero, Int.mul_one])]
  have hn := num_127 (I64_W hb)
  refine bp (dt (by decide)) (bp (isI_ds b (i := 127) (by omega)) ?_)
  have hg : iv (ds b 128)[127]? = dg b 127 := by rw [ds_get b (by omega)]; rfl
  rw [hg]
  rcases (show dg b 127 = 0 ∨ dg b 127 = 1 by have := dg_01 b 127; omega) with hd | hd
  · refine bn (by rw [hd]; rfl) ?_
    rw [hd] at hn
    rw [show num b 127 = b by omega]; rfl
  · obtain ⟨n1, n2, n3⟩ := a_rNeg F hF (a * 2 ^ 127)
    refine bp (by rw [hd]; rfl) (bp n1 ?_)
    rw [n2, n3]
    obtain ⟨c1, c2, c3⟩ := a_rAdd F hF (a * num b 127) (-(a * 2 ^ 127))
    refine bp c1 ?_
    rw [c2, c3]
    rw [hd] at hn
    have e : a * num b 127 + -(a * 2 ^ 127) = a * b := by
      rw [show num b 127 = b + 2 ^ 127 by omega, Int.mul_add]; omega
    rw [e]; rfl
theorem a_rMul (F : Nat) (hF : 200 ≤ F) {a b : Int} (ha : I64 a) (hb : I64 b) : ok_ref01_Mul F a b = true ∧ o_ref01_Mul_0 F a b = hi (a * b) ∧ o_ref01_Mul_1 F a b = lo (a * b) := k_ref01_Mul F _ _ (f_rMul F hF ha hb)
end Go.Xv
namespace Go.Xv
theorem f_rLess (F : Nat) {a b c d : Int} (hb : U64 b) (hd : U64 d) : f_ref01_Less F a b c d = some (.v (.bool (decide (val a b < val c d)))) := by
  unfold f_ref01_Less val
  unfold U64 at hb hd
  by_cases h : a < c
  · refine bp (dt h) (some_bool ?_)
    exact (dt (by omega)).symm
  · refine bn (df h) ?_
    by_cases h2 : a = c
    · refine bp (by simp [h2]) (some_bool ?_)
      rw [decide_eq_decide]; omega
    · refine bn (by simp [h2]) (some_bool ?_)
      exact (df (by omega)).symm
end Go.Xv
namespace Go.Xv
/-- one step of a division, bit by bit. -/
theorem div_step {X P T b : Int} (hP : 0 < P) (hT : 0 < T) (hPT : P * T = 170141183460469231731687303715884105728) (hX : 0 ≤ X) (hX2 : X < 340282366920938463463374607431768211456) (hb : 1 ≤ b) (hb2 : b ≤ 9223372036854775808) :
    (0 ≤ (X % (2 * T)) * P + X / (2 * T) / b ∧ (X % (2 * T)) * P + X / (2 * T) / b < 340282366920938463463374607431768211456) ∧
    ((X % (2 * T)) * P + X / (2 * T) / b) / 170141183460469231731687303715884105728 = X / T % 2 ∧
    (0 ≤ X / (2 * T) % b ∧ X / (2 * T) % b < b) ∧
    (b ≤ 2 * (X / (2 * T) % b) + X / T % 2 → X / T % b = 2 * (X / (2 * T) % b) + X / T % 2 - b ∧ ((X % (2 * T)) * P + X / (2 * T) / b) * 2 - (X / T % 2) * 340282366920938463463374607431768211456 + 1 = (X % T) * (P * 2) + X / T / b) ∧
    (2 * (X / (2 * T) % b) + X / T % 2 < b → X / T % b = 2 * (X / (2 * T) % b) + X / T % 2 ∧ ((X % (2 * T)) * P + X / (2 * T) / b) * 2 - (X / T % 2) * 340282366920938463463374607431768211456 = (X % T) * (P * 2) + X / T / b) ∧
    (X % T) * (P * 2) % 2 = 0 ∧ 0 ≤ (X % T) * (P * 2) + X / T / b ∧ (X % T) * (P * 2) + X / T / b < 340282366920938463463374607431768211456 := by
  have e1 : X / (2 * T) = X / T / 2 := by rw [Int.mul_comm, Int.ediv_ediv_of_nonneg (by omega)]
  have hd := Int.mul_ediv_add_emod X T
  have hr := Int.emod_nonneg X (show T ≠ 0 by omega)
  have hr2 := Int.emod_lt_of_pos X hT
  have hq : 0 ≤ X / T := Int.ediv_nonneg hX (by omega)
  have hqP : X / T < 2 * P := Int.ediv_lt_of_lt_mul hT (by rw [Int.mul_assoc, hPT]; omega)
  have e2 : X % (2 * T) = (X / T % 2) * T + X % T := by
    have h := Int.mul_ediv_add_emod X (2 * T)
    rw [e1] at h
    have e : X / T = 2 * (X / T / 2) + X / T % 2 := by omega
    have e3 : T * (X / T) = 2 * T * (X / T / 2) + (X / T % 2) * T := by
      have : T * (X / T) = T * (2 * (X / T / 2) + X / T % 2) := by rw [← e]
      rw [this, Int.mul_add]
      have : T * (2 * (X / T / 2)) = 2 * T * (X / T / 2) := by simp only [Int.mul_comm, Int.mul_assoc, Int.mul_left_comm]
      rw [this, Int.mul_comm T]
    omega
  rw [e1, e2]
  generalize X / T = h at *
  generalize X % T = r at *
  have hbit : 0 ≤ h % 2 ∧ h % 2 ≤ 1 := by omega
  have hH : h = 2 * (h / 2) + h % 2 := by omega
  generalize hg : h % 2 = bit at *
  generalize h / 2 = H at *
  have g1 := Int.mul_ediv_add_emod H b
  have g2 := Int.emod_nonneg H (show b ≠ 0 by omega)
  have g3 := Int.emod_lt_of_pos H (show 0 < b by omega)
  have hHP : H < P := by omega
  have hH0 : 0 ≤ H := by omega
  have hQ0 : 0 ≤ H / b := Int.ediv_nonneg hH0 (by omega)
  have hQH : H / b ≤ H := Int.ediv_le_self b hH0
  have hrP0 : 0 ≤ r * P := Int.mul_nonneg hr (by omega)
  have hrP : r * P ≤ (T - 1) * P := Int.mul_le_mul_of_nonneg_right (by omega) (by omega)
  rw [Int.sub_mul, Int.mul_comm T P, hPT] at hrP
  have hA : (bit * T + r) * P = bit * 170141183460469231731687303715884105728 + r * P := by
    rw [Int.add_mul, Int.mul_assoc, Int.mul_comm T P, hPT]
  have hrP2 : r * (P * 2) = r * P * 2 := by rw [Int.mul_assoc]
  rw [hA, hrP2]
  have hq1 : b ≤ 2 * (H % b) + bit → h % b = 2 * (H % b) + bit - b ∧ h / b = 2 * (H / b) + 1 := by
    intro hx
    have e : h = (2 * (H % b) + bit - b) + (2 * (H / b) + 1) * b := by
      rw [Int.add_mul, Int.one_mul, Int.mul_assoc, Int.mul_comm (H / b) b]; omega
    constructor
    · rw [e, Int.add_mul_emod_self_right, Int.emod_eq_of_lt (by omega) (by omega)]
    · rw [e, Int.add_mul_ediv_right _ _ (by omega), Int.ediv_eq_zero_of_lt (by omega) (by omega)]; omega
  have hq2 : 2 * (H % b) + bit < b → h % b = 2 * (H % b) + bit ∧ h / b = 2 * (H / b) := by
    intro hx
    have e : h = (2 * (H % b) + bit) + (2 * (H / b)) * b := by
      rw [Int.mul_assoc, Int.mul_comm (H / b) b]; omega
    constructor
    · rw [e, Int.add_mul_emod_self_right, Int.emod_eq_of_lt (by omega) (by omega)]
    · rw [e, Int.add_mul_ediv_right _ _ (by omega), Int.ediv_eq_zero_of_lt (by omega) (by omega)]; omega
  refine ⟨⟨by omega, by omega⟩, by omega, ⟨g2, g3⟩, fun hx => ?_, fun hx => ?_, by omega, ?_, ?_⟩
  · obtain ⟨a1, a2⟩ := hq1 hx
    refine ⟨a1, ?_⟩
    rw [a2]; omega
  · obtain ⟨a1, a2⟩ := hq2 hx
    refine ⟨a1, ?_⟩
    rw [a2]; omega
  · by_cases hx : b ≤ 2 * (H % b) + bit
    · rw [(hq1 hx).2]; omega
    · rw [(hq2 (by omega)).2]; omega
  · by_cases hx : b ≤ 2 * (H % b) + bit
    · rw [(hq1 hx).2]; omega
    · rw [(hq2 (by omega)).2]; omega
end Go.Xv
namespace Go.Xv
def clipV (z : Int) : Int := if z < -9223372036854775808 then -9223372036854775808 else if 9223372036854775807 < z then 9223372036854775807 else z
def clipC (z : Int) : Bool := decide (z < -9223372036854775808 ∨ 9223372036854775807 < z)
theorem some_clip {n : Int} {c : Bool} {z : Int} (h : n = clipV z) (k : c = clipC z) : (some (VV.v (.tuple #[.int .i64 n, .bool c])) : R) = some (.v (.tuple #[.int .i64 (clipV z), .bool (clipC z)])) := by rw [h, k]
theorem f_Clip (F : Nat) {a b : Int} (ha : I64 a) (hb : U64 b) : f_wide_Clip F a b = some (.v (.tuple #[.int .i64 (clipV (val a b)), .bool (clipC (val a b))])) := by
  unfold f_wide_Clip
  dsimp only
  obtain ⟨o1, o2, o3⟩ := a_Of F (wi64_I b)
  refine bp o1 ?_
  rw [o2, o3, wi64]
  have hv : ∀ z, z = val a b → True := fun _ _ => trivial
  unfold I64 at ha
  unfold U64 at hb
  by_cases h : -9223372036854775808 ≤ val a b ∧ val a b ≤ 9223372036854775807
  · refine bp ?_ (some_clip ?_ ?_)
    · unfold val at h
      rw [Bool.and_eq_true, beq_iff_eq, beq_iff_eq]
      unfold hi lo; omega
    · unfold clipV
      rw [if_neg (by omega), if_neg (by omega)]
      unfold val at *; omega
    · unfold clipC
      exact (df (by omega)).symm
  · refine bn ?_ ?_
    · unfold val at h
      rw [Bool.and_eq_false_iff, beq_eq_false_iff_ne, beq_eq_false_iff_ne]
      unfold hi lo; omega
    · by_cases h2 : a < 0
      · refine bp (dt h2) (some_clip ?_ ?_)
        · unfold clipV
          rw [if_pos]
          unfold val at *; omega
        · unfold clipC
          refine (dt ?_).symm
          unfold val at *; omega
      · refine bn (df h2) (some_clip ?_ ?_)
        · unfold clipV
          rw [if_neg, if_pos]
          · unfold val at *; omega
          · unfold val at *; omega
        · unfold clipC
          refine (dt ?_).symm
          unfold val at *; omega
theorem f_rClip (F : Nat) {a b : Int} (ha : I64 a) (hb : U64 b) : f_ref01_Clip F a b = some (.v (.tuple #[.int .i64 (clipV (val a b)), .bool (clipC (val a b))])) := by
  unfold f_ref01_Clip
  dsimp only
  obtain ⟨o1, o2, o3⟩ := a_rOf F (n := -9223372036854775808) (by unfold I64; omega)
  obtain ⟨p1, p2, p3⟩ := a_rOf F (n := 9223372036854775807) (by unfold I64; omega)
  obtain ⟨l1, l2⟩ := k_ref01_Less F _ _ _ _ (f_rLess F (a := a) (c := hi (-9223372036854775808)) hb (lo_U (-9223372036854775808)))
  obtain ⟨m1, m2⟩ := k_ref01_Less F _ _ _ _ (f_rLess F (a := hi 9223372036854775807) (c := a) (lo_U 9223372036854775807) hb)
  rw [val_hl, W_in (by unfold W128; omega)] at l2 m2
  refine bp o1 ?_
  rw [o2, o3]
  refine bp l1 ?_
  rw [l2]
  by_cases h : val a b < -9223372036854775808
  · refine bp (dt h) (some_clip ?_ ?_)
    · unfold clipV; rw [if_pos h]
    · unfold clipC; exact (dt (.inl h)).symm
  · refine bn (df h) (bp p1 ?_)
    rw [p2, p3]
    refine bp m1 ?_
    rw [m2]
    by_cases h2 : 9223372036854775807 < val a b
    · refine bp (dt h2) (some_clip ?_ ?_)
      · unfold clipV; rw [if_neg h, if_pos h2]
      · unfold clipC; exact (dt (.inr h2)).symm
    · refine bn (df h2) (some_clip ?_ ?_)
      · unfold clipV
        rw [if_neg h, if_neg h2, wi64]
        unfold I64 at ha
        unfold U64 at hb
        unfold val at *; omega
      · unfold clipC; exact (df (by omega)).symm
theorem a_Clip (F : Nat) {x : Int} (h : W128 x) : ok_wide_Clip F (hi x) (lo x) = true ∧ o_wide_Clip_0 F (hi x) (lo x) = clipV x ∧ o_wide_Clip_1 F (hi x) (lo x) = clipC x := by
  have := k_wide_Clip F _ _ (f_Clip F (hi_I x) (lo_U x))
  rw [val_hl, W_in h] at this
  exact this
theorem a_rClip (F : Nat) {x : Int} (h : W128 x) : ok_ref01_Clip F (hi x) (lo x) = true ∧ o_ref01_Clip_0 F (hi x) (lo x) = clipV x ∧ o_ref01_Clip_1 F (hi x) (lo x) = clipC x := by
  have := k_ref01_Clip F _ _ (f_rClip F (hi_I x) (lo_U x))
  rw [val_hl, W_in h] at this
  exact this

theorem or1 {E : Int} (h : E % 2 = 0) : orI .u64 (lo E) 1 = lo (E + 1) ∧ hi E = hi (E + 1) := by
  constructor
  · have hl := lo_U E
    unfold U64 at hl
    have e : lo E = lo E / 2 * ((2 ^ 1 : Nat) : Int) := by
      have : ((2 ^ 1 : Nat) : Int) = 2 := rfl
      rw [this]; unfold lo; omega
    have e2 : ((2 ^ 1 : Nat) : Int) = 2 := rfl
    rw [e, or_add_u64 1 (by omega) (by omega) (by rw [e2]; omega) (by rw [e2]; omega), ← e]
    unfold lo; omega
  · unfold hi; omega
theorem or_bit {R bit : Int} (hR : 0 ≤ R) (hR2 : R < 9223372036854775808) (hb : 0 ≤ bit) (hb2 : bit ≤ 1) : orI .u64 (IntKind.wrap .u64 (R * 2)) bit = 2 * R + bit := by
  have e2 : ((2 ^ 1 : Nat) : Int) = 2 := rfl
  have := or_add_u64 1 (a := R) (b := bit) hR hb (by rw [e2]; omega) (by rw [e2]; omega)
  rw [e2] at this
  rw [wu64_in (by unfold U64; omega), this]; omega
theorem up_bit {A : Int} (h : 0 ≤ A) (h2 : A < 340282366920938463463374607431768211456) : Int.fdiv (IntKind.wrap .u64 (hi A)) 9223372036854775808 = A / 170141183460469231731687303715884105728 := by
  rw [fdiv_pos _ (by decide), wu64]; unfold hi; omega
theorem p128 {i : Nat} (h : i < 128) : (2 : Int) ^ i * 2 ^ (127 - i) = 170141183460469231731687303715884105728 := by
  rw [p2add, show i + (127 - i) = 127 by omega]; decide
theorem p128' {i : Nat} (h : i < 128) : (2 : Int) ^ (128 - i) = 2 * 2 ^ (127 - i) := by
  rw [show 128 - i = (127 - i) + 1 by omega, Int.pow_succ, Int.mul_comm]
theorem lp_divide_0 (F : Nat) (ex) {X b : Int} (hX : 0 ≤ X) (hX2 : X < 340282366920938463463374607431768211456) (hb : 1 ≤ b) (hb2 : b ≤ 9223372036854775808) (x0 x1 x3 x8 x9 : Int) : ∀ (k n i : Nat) (x4 x5 x6 x7 : Int), i + k = 128 → k < n →
    x4 = X / 2 ^ (128 - i) % b → x5 = i → x6 = hi ((X % 2 ^ (128 - i)) * 2 ^ i + X / 2 ^ (128 - i) / b) → x7 = lo ((X % 2 ^ (128 - i)) * 2 ^ i + X / 2 ^ (128 - i) / b) →
    L_wide_divide_0 F ex n x0 x1 b x3 x4 x5 x6 x7 x8 x9 = ex x0 x1 b x3 (X % b) 128 (hi (X / b)) (lo (X / b)) x8 x9
  | _, 0, _, _, _, _, _, _, h, _, _, _, _ => absurd h (by omega)
  | 0, n + 1, i, _, _, _, _, h, _, rfl, rfl, rfl, rfl => by
    obtain rfl : i = 128 := by omega
    rw [L_wide_divide_0]
    unfold B_wide_divide_0
    refine bn (df (by omega)) ?_
    simp only [Nat.sub_self, Int.pow_zero, Int.ediv_one, Int.emod_one, Int.zero_mul, Int.zero_add]
    rfl
  | k + 1, n + 1, i, _, _, _, _, h, hn, rfl, rfl, rfl, rfl => by
    have hi' : i < 128 := by omega
    have ih := lp_divide_0 F ex hX hX2 hb hb2 x0 x1 x3 x8 x9 k n (i + 1)
    rw [show 128 - (i + 1) = 127 - i by omega, Int.pow_succ] at ih
    rw [L_wide_divide_0]
    unfold B_wide_divide_0
    dsimp only
    rw [p128' hi']
    obtain ⟨⟨s1, s2⟩, s3, ⟨s4, s5⟩, s6, s7, s8, s9, s10⟩ := div_step (p2pos i) (p2pos (127 - i)) (p128 hi') hX hX2 hb hb2
    generalize (2 : Int) ^ i = P at *
    generalize (2 : Int) ^ (127 - i) = T at *
    generalize hAe : X % (2 * T) * P + X / (2 * T) / b = A at *
    generalize X / (2 * T) % b = R0 at *
    have hbit : 0 ≤ X / T % 2 ∧ X / T % 2 ≤ 1 := by omega
    obtain ⟨l1, l2, l3⟩ := a_Left F A 1
    rw [show ((1 : Int).toNat) = 1 from rfl, Int.pow_one] at l2 l3
    refine bp (dt (by omega)) (bp l1 ?_)
    rw [l2, l3, up_bit s1 s2, s3, or_bit s4 (by omega) hbit.1 hbit.2]
    refine bn ?_ ?_
    · rw [fdiv_pos _ (by decide), beq_eq_false_iff_ne]; omega
    · by_cases hc : b ≤ 2 * R0 + X / T % 2
      · refine bp (dt hc) ?_
        obtain ⟨c1, c2⟩ := s6 hc
        have hE : (A * 2) % 2 = 0 := by omega
        obtain ⟨e1, e2⟩ := or1 hE
        have hq : Eqv (A * 2 + 1) (X % T * (P * 2) + X / T / b) := by unfold Eqv; omega
        refine ih _ _ _ _ (by omega) (by omega) ?_ (wi64_s i (by omega)) ?_ ?_
        · rw [c1, wu64_in]
          unfold U64; omega
        · rw [e2, hi_eqv hq]
        · rw [e1, lo_eqv hq]
      · refine bn (df hc) ?_
        obtain ⟨c1, c2⟩ := s7 (by omega)
        have hq : Eqv (A * 2) (X % T * (P * 2) + X / T / b) := by unfold Eqv; omega
        exact ih _ _ _ _ (by omega) (by omega) c1.symm (wi64_s i (by omega)) (hi_eqv hq) (lo_eqv hq)
/-- a number of 128 bits without its sign -/
def un (z : Int) : Int := z % 340282366920938463463374607431768211456
theorem un_eqv (z : Int) : Eqv (un z) z := by unfold Eqv un; omega
theorem f_divide (F : Nat) (hF : 200 ≤ F) (z : Int) {b : Int} (hb : 1 ≤ b) (hb2 : b ≤ 9223372036854775808) : f_wide_divide F (hi z) (lo z) b = some (.v (.tuple #[.agg #[.int .i64 (hi (un z / b)), .int .u64 (lo (un z / b))], .int .u64 (un z % b)])) := by
  unfold f_wide_divide
  have h1 : 0 ≤ un z ∧ un z < 340282366920938463463374607431768211456 := by unfold un; omega
  have e1 : un z / 2 ^ (128 - 0) = 0 := by
    rw [show (2 : Int) ^ (128 - 0) = 340282366920938463463374607431768211456 by decide]; omega
  have e2 : un z % 2 ^ (128 - 0) = un z := by
    rw [show (2 : Int) ^ (128 - 0) = 340282366920938463463374607431768211456 by decide]; omega
  rw [lp_divide_0 F _ h1.1 h1.2 hb hb2 (hi z) (lo z) 0 0 0 128 F 0 0 0 (hi z) (lo z) (by omega) (by omega) (by rw [e1]; simp) rfl
    (by rw [e1, e2, Int.zero_ediv, Int.pow_zero, Int.mul_one, Int.add_zero, hi_eqv (un_eqv z)]) (by rw [e1, e2, Int.zero_ediv, Int.pow_zero, Int.mul_one, Int.add_zero, lo_eqv (un_eqv z)])]
end Go.Xv
namespace Go.Xv
/-- a list of bits that fills up from its end -/
def fillL (Q : Int) (c : Nat) : List VV := List.replicate c (.v (.int .i64 0)) ++ (ds Q 128).drop c
theorem fill_len (Q : Int) {c : Nat} (h : c ≤ 128) : (fillL Q c).length = 128 := by
  unfold fillL
  rw [List.length_append, List.length_replicate, List.length_drop, ds_len]; omega
theorem drop_cons (Q : Int) {c : Nat} (h : c < 128) : (ds Q 128).drop c = .v (.int .i64 (dg Q c)) :: (ds Q 128).drop (c + 1) := by
  have h1 : c < (ds Q 128).length := by rw [ds_len]; exact h
  rw [List.drop_eq_getElem_cons h1]
  congr 1
  have := ds_get Q h
  rw [List.getElem?_eq_getElem h1] at this
  exact Option.some.inj this
theorem fill_zero (Q : Int) {c : Nat} (h : c < 128) (hd : dg Q c = 0) : fillL Q (c + 1) = fillL Q c := by
  unfold fillL
  rw [drop_cons Q h, hd, List.replicate_succ', List.append_assoc]; rfl
theorem fill_one (Q : Int) {c : Nat} (h : c < 128) (hd : dg Q c = 1) : (fillL Q (c + 1)).take c ++ [.v (.int .i64 1)] ++ (fillL Q (c + 1)).drop (c + 1) = fillL Q c := by
  unfold fillL
  rw [drop_cons Q h, hd, List.take_append_of_le_length (by rw [List.length_replicate]; omega), List.take_replicate, List.drop_append, List.length_replicate, List.drop_eq_nil_of_le (by rw [List.length_replicate]; omega)]
  rw [show min c (c + 1) = c by omega, Nat.sub_self, List.drop_zero, List.nil_append, List.append_assoc]; rfl
theorem quo_dg {X b : Int} (i : Nat) (hb : 1 ≤ b) : X / 2 ^ i / b % 2 = dg (X / b) i := by
  unfold dg
  rw [Int.ediv_ediv_of_nonneg (Int.le_of_lt (p2pos i)), Int.ediv_ediv_of_nonneg (by omega), Int.mul_comm]
theorem lp_rDiv_0 (F : Nat) (ex) {X b : Int} (hX : 0 ≤ X) (hX2 : X < 340282366920938463463374607431768211456) (hb : 1 ≤ b) (hb2 : b ≤ 9223372036854775808) (z : Int) (hz : X = un z) (x0 x1 x2 x3 : Int) (x4 : Bool) (x9 x10 x11 x12 x13 x14 : Int) : ∀ (c n : Nat) (x7 x8 : Int) (l : List VV), c ≤ 128 → c < n →
    x7 = X / 2 ^ c % b → x8 = (c : Int) - 1 → l = fillL (X / b) c →
    L_ref01_Div_0 F ex n x0 x1 x2 x3 x4 b 128 x7 x8 x9 x10 x11 x12 x13 x14 (ds z 128) l = ex x0 x1 x2 x3 x4 b 128 (X % b) (-1) x9 x10 x11 x12 x13 x14 (ds z 128) (ds (X / b) 128)
  | _, 0, _, _, _, _, h, _, _, _ => absurd h (by omega)
  | 0, n + 1, _, _, _, _, _, rfl, rfl, rfl => by
    rw [L_ref01_Div_0]
    unfold B_ref01_Div_0
    refine bn (df (by omega)) ?_
    rw [Int.pow_zero, Int.ediv_one]
    rfl
  | c + 1, n + 1, _, _, _, hc, hn, rfl, rfl, rfl => by
    have hc' : c < 128 := by omega
    have ih := lp_rDiv_0 F ex hX hX2 hb hb2 z hz x0 x1 x2 x3 x4 x9 x10 x11 x12 x13 x14 c n
    rw [L_ref01_Div_0]
    unfold B_ref01_Div_0
    dsimp only
    rw [show ((c + 1 : Nat) : Int) - 1 = (c : Int) by omega]
    have hs := div_step (P := 2 ^ (127 - c)) (T := 2 ^ c) (p2pos _) (p2pos c) (by rw [Int.mul_comm, p128 hc']) hX hX2 hb hb2
    obtain ⟨_, _, ⟨s4, s5⟩, s6, s7, _⟩ := hs
    rw [show (2 : Int) * 2 ^ c = 2 ^ (c + 1) by rw [Int.pow_succ, Int.mul_comm]] at s4 s5 s6 s7
    have hbit : X / 2 ^ c % 2 = dg z c := by
      rw [hz]
      exact bitlo z (n := 128) hc'
    have hq := quo_dg (X := X) (b := b) c hb
    have hd := dg_01 z c
    have key : (b ≤ 2 * (X / 2 ^ (c + 1) % b) + dg z c → dg (X / b) c = 1) ∧ (2 * (X / 2 ^ (c + 1) % b) + dg z c < b → dg (X / b) c = 0) := by
      rw [← hq, ← hbit]
      have e : X / 2 ^ c / 2 = X / 2 ^ (c + 1) := ediv2 X c
      clear ih hn hbit hq hd
      generalize X / 2 ^ (c + 1) = H at *
      generalize X / 2 ^ c = h at *
      have g1 := Int.mul_ediv_add_emod H b
      constructor
      · intro hx
        obtain ⟨c1, _⟩ := s6 hx
        have e1 : h = (2 * (H % b) + h % 2 - b) + (2 * (H / b) + 1) * b := by
          rw [Int.add_mul, Int.one_mul, Int.mul_assoc, Int.mul_comm (H / b) b]; omega
        have : h / b = 2 * (H / b) + 1 := by
          have h2 : h / b = ((2 * (H % b) + h % 2 - b) + (2 * (H / b) + 1) * b) / b := by rw [← e1]
          rw [h2, Int.add_mul_ediv_right _ _ (by omega), Int.ediv_eq_zero_of_lt (by omega) (by omega)]; omega
        omega
      · intro hx
        have e1 : h = (2 * (H % b) + h % 2) + (2 * (H / b)) * b := by
          rw [Int.mul_assoc, Int.mul_comm (H / b) b]; omega
        have : h / b = 2 * (H / b) := by
          have h2 : h / b = ((2 * (H % b) + h % 2) + (2 * (H / b)) * b) / b := by rw [← e1]
          rw [h2, Int.add_mul_ediv_right _ _ (by omega), Int.ediv_eq_zero_of_lt (by omega) (by omega)]; omega
        omega
    rw [hbit] at s6 s7
    generalize hR : X / 2 ^ (c + 1) % b = R0 at *
    refine bp (dt (by omega)) (bp (ix_ok c 128 hc') (bp (isI_ds z hc') ?_))
    rw [iv_ds z hc', wu64_in (x := dg z c) (by unfold U64; omega), wu64_in (x := 2 * R0) (by unfold U64; omega), wu64_in (x := 2 * R0 + dg z c) (by unfold U64; omega)]
    refine bn (df (by omega)) ?_
    have w8 : IntKind.wrap .i64 ((c : Int) - 1) = (c : Int) - 1 := wi64_in (by unfold I64; omega)
    by_cases hx : b ≤ 2 * R0 + dg z c
    · refine bp (dt hx) (bp (ix_ok c 128 hc') (bp ?_ ?_))
      · rw [zmul, fill_len _ hc, dt (by omega)]
      · refine ih _ _ _ (by omega) (by omega) ?_ w8 ?_
        · rw [(s6 hx).1, wu64_in]
          unfold U64; omega
        · rw [zmul]
          exact fill_one _ hc' (key.1 hx)
    · refine bn (df hx) ?_
      exact ih _ _ _ (by omega) (by omega) (s7 (by omega)).1.symm w8 (fill_zero _ hc' (key.2 (by omega)))
theorem qt_un {z b : Int} (hz : W128 z) (hb : I64 b) (h0 : b ≠ 0) :
    (un (if z < 0 then -z else z) / (if b < 0 then -b else b) = if (decide (z < 0)) = (decide (b < 0)) then Int.tdiv z b else -Int.tdiv z b) ∧
    un (if z < 0 then -z else z) % (if b < 0 then -b else b) = (if z < 0 then -Int.tmod z b else Int.tmod z b) := by
  have e : un (if z < 0 then -z else z) = (if z < 0 then -z else z) := by unfold un; unfold W128 at hz; split <;> omega
  rw [e]
  by_cases h1 : z < 0 <;> by_cases h2 : b < 0
  · simp only [h1, h2, if_true]
    rw [← Int.tdiv_eq_ediv_of_nonneg (by omega), ← Int.tmod_eq_emod_of_nonneg (by omega), Int.neg_tdiv_neg, Int.neg_tmod, Int.tmod_neg]
    exact ⟨rfl, rfl⟩
  · simp only [h1, h2, if_true, if_false, decide_true, decide_false]
    rw [← Int.tdiv_eq_ediv_of_nonneg (by omega), ← Int.tmod_eq_emod_of_nonneg (by omega), Int.neg_tdiv, Int.neg_tmod]
    exact ⟨rfl, rfl⟩
  · simp only [h1, h2, if_true, if_false, decide_true, decide_false]
    rw [← Int.tdiv_eq_ediv_of_nonneg (by omega), ← Int.tmod_eq_emod_of_nonneg (by omega), Int.tdiv_neg, Int.tmod_neg]
    exact ⟨rfl, rfl⟩
  · simp only [h1, h2, if_true, if_false]
    rw [← Int.tdiv_eq_ediv_of_nonneg (by omega), ← Int.tmod_eq_emod_of_nonneg (by omega)]
    exact ⟨rfl, rfl⟩
end Go.Xv
namespace Go.Xv
/-- what a division answers -/
def divR (z b : Int) : Value := if b = 0 then .tuple #[.agg #[.int .i64 0, .int .u64 0], .int .i64 0, .bool false] else .tuple #[.agg #[.int .i64 (hi (Int.tdiv z b)), .int .u64 (lo (Int.tdiv z b))], .int .i64 (Int.tmod z b), .bool true]
theorem tmod_I {z b : Int} (hb : I64 b) (h0 : b ≠ 0) : -9223372036854775808 < Int.tmod z b ∧ Int.tmod z b < 9223372036854775808 := by
  unfold I64 at hb
  have h1 := Int.emod_nonneg (if z < 0 then -z else z) (show (if b < 0 then -b else b) ≠ 0 by split <;> omega)
  have h2 := Int.emod_lt_of_pos (if z < 0 then -z else z) (show 0 < (if b < 0 then -b else b) by split <;> omega)
  have h3 : (if z < 0 then -z else z) % (if b < 0 then -b else b) = (if z < 0 then -Int.tmod z b else Int.tmod z b) := by
    by_cases hz : z < 0 <;> by_cases hbn : b < 0 <;> simp only [hz, hbn, if_true, if_false]
    · rw [← Int.tmod_eq_emod_of_nonneg (by omega), Int.neg_tmod, Int.tmod_neg]
    · rw [← Int.tmod_eq_emod_of_nonneg (by omega), Int.neg_tmod]
    · rw [← Int.tmod_eq_emod_of_nonneg (by omega), Int.tmod_neg]
    · rw [← Int.tmod_eq_emod_of_nonneg (by omega)]
  rw [h3] at h1 h2
  revert h1 h2
  by_cases hz : z < 0 <;> simp only [hz, if_true, if_false] <;> intro h1 h2 <;> split at h2 <;> omega
theorem val_neg {a b : Int} (hb : U64 b) : (val a b < 0) ↔ a < 0 := by unfold val; unfold U64 at hb; omega
theorem some_div {x y r z b : Int} (h0 : b ≠ 0) (hx : x = hi (Int.tdiv z b)) (hy : y = lo (Int.tdiv z b)) (hr : r = Int.tmod z b) :
    (some (VV.v (.tuple #[.agg #[.int .i64 x, .int .u64 y], .int .i64 r, .bool true])) : R) = some (.v (divR z b)) := by
  unfold divR
  rw [if_neg h0, hx, hy, hr]
theorem f_Div (F : Nat) (hF : 200 ≤ F) {a c b : Int} (ha : I64 a) (hc : U64 c) (hb : I64 b) : f_wide_Div F a c b = some (.v (divR (val a c) b)) := by
  unfold f_wide_Div
  dsimp only
  by_cases h0 : b = 0
  · refine bp (by simp [h0]) ?_
    unfold divR
    rw [if_pos h0]
  · refine bn (by simp [h0]) ?_
    have hz := val_W ha hc
    have hzn := val_neg (a := a) hc
    obtain ⟨q1, q2⟩ := qt_un hz hb h0
    have hm := tmod_I (z := val a c) hb h0
    obtain ⟨b1, b2⟩ := k_wide_bare F b (f_bare F hb)
    have hb1 : 1 ≤ (if b < 0 then -b else b) ∧ (if b < 0 then -b else b) ≤ 9223372036854775808 := by unfold I64 at hb; split <;> omega
    by_cases han : a < 0
    · have hvn := hzn.2 han
      simp only [hvn, if_true, decide_true] at q1 q2
      obtain ⟨n1, n2, n3⟩ := k_wide_Neg F _ _ (f_Neg F ha hc)
      obtain ⟨d1, d2, d3, d4⟩ := k_wide_divide F _ _ _ (f_divide F hF (-val a c) hb1.1 hb1.2)
      refine bp (dt han) (bp n1 (bp b1 ?_))
      rw [n2, n3, b2]
      refine bp d1 ?_
      rw [d2, d3, d4, q1, q2]
      have w1 : IntKind.wrap .i64 (0 - IntKind.wrap .i64 (-Int.tmod (val a c) b)) = Int.tmod (val a c) b := by rw [wi64, wi64]; omega
      by_cases hbn : b < 0
      · simp only [han, hbn, decide_true, if_true, BEq.rfl, Bool.not_true, cond_false, cond_true]
        exact some_div h0 rfl rfl w1
      · simp only [han, hbn, decide_true, decide_false]
        refine bp rfl ?_
        simp only [show ((true = false) ↔ False) by decide, if_false]
        obtain ⟨m1, m2, m3⟩ := a_Neg F (-Int.tdiv (val a c) b)
        refine bp m1 ?_
        rw [m2, m3, Int.neg_neg]
        exact bp rfl (some_div h0 rfl rfl w1)
    · have hvn : ¬ val a c < 0 := fun h => han (hzn.1 h)
      simp only [hvn, if_false, decide_false] at q1 q2
      have hv1 := hi_val ha hc
      have hv2 := lo_val (h := a) hc
      have hd := k_wide_divide F _ _ _ (f_divide F hF (val a c) hb1.1 hb1.2)
      rw [hv1, hv2] at hd
      obtain ⟨d1, d2, d3, d4⟩ := hd
      refine bn (df han) (bp b1 ?_)
      rw [b2]
      refine bp d1 ?_
      rw [d2, d3, d4, q1, q2]
      have w1 : IntKind.wrap .i64 (Int.tmod (val a c) b) = Int.tmod (val a c) b := by rw [wi64]; omega
      by_cases hbn : b < 0
      · simp only [han, hbn, decide_true, decide_false]
        refine bp rfl ?_
        simp only [show ((false = true) ↔ False) by decide, if_false]
        obtain ⟨m1, m2, m3⟩ := a_Neg F (-Int.tdiv (val a c) b)
        refine bp m1 ?_
        rw [m2, m3, Int.neg_neg]
        exact bn rfl (some_div h0 rfl rfl w1)
      · simp only [han, hbn, decide_false, if_true, BEq.rfl, Bool.not_true, cond_false]
        exact some_div h0 rfl rfl w1
theorem rep_flat (x : VV) : ∀ n, (List.replicate n [x]).flatten = List.replicate n x
  | 0 => rfl
  | n + 1 => by rw [List.replicate_succ, List.flatten_cons, rep_flat x n, List.replicate_succ]; rfl
theorem fill_all (Q : Int) : (List.replicate 128 [VV.v (.int .i64 0)]).flatten = fillL Q 128 := by
  unfold fillL
  rw [rep_flat, List.drop_eq_nil_of_le (by rw [ds_len]; omega), List.append_nil]
theorem rDiv_loop (F : Nat) (hF : 200 ≤ F) (ex) (z : Int) {b : Int} (hb : 1 ≤ b) (hb2 : b ≤ 9223372036854775808) (x0 x1 x2 x3 : Int) (x4 : Bool) (x9 x10 x11 x12 x13 x14 : Int) :
    L_ref01_Div_0 F ex F x0 x1 x2 x3 x4 b 128 0 127 x9 x10 x11 x12 x13 x14 (ds z 128) ((List.replicate 128 [VV.v (.int .i64 0)]).flatten) = ex x0 x1 x2 x3 x4 b 128 (un z % b) (-1) x9 x10 x11 x12 x13 x14 (ds z 128) (ds (un z / b) 128) := by
  have h1 : 0 ≤ un z ∧ un z < 340282366920938463463374607431768211456 := by unfold un; omega
  refine lp_rDiv_0 F ex h1.1 h1.2 hb hb2 z rfl x0 x1 x2 x3 x4 x9 x10 x11 x12 x13 x14 128 F 0 127 _ (by omega) (by omega) ?_ (by omega) (fill_all _)
  rw [show (2 : Int) ^ 128 = 340282366920938463463374607431768211456 by decide, Int.ediv_eq_zero_of_lt h1.1 h1.2]; simp
theorem f_rDiv (F : Nat) (hF : 200 ≤ F) {a c b : Int} (ha : I64 a) (hc : U64 c) (hb : I64 b) : f_ref01_Div F a c b = some (.v (divR (val a c) b)) := by
  unfold f_ref01_Div
  dsimp only
  by_cases h0 : b = 0
  · refine bp (by simp [h0]) ?_
    unfold divR
    rw [if_pos h0]
  · refine bn (by simp [h0]) ?_
    have hz := val_W ha hc
    have hzn := val_neg (a := a) hc
    obtain ⟨q1, q2⟩ := qt_un hz hb h0
    have hm := tmod_I (z := val a c) hb h0
    have hb1 : 1 ≤ (if b < 0 then -b else b) ∧ (if b < 0 then -b else b) ≤ 9223372036854775808 := by unfold I64 at hb; split <;> omega
    by_cases han : a < 0
    · have hvn := hzn.2 han
      simp only [hvn, if_true, decide_true] at q1 q2
      obtain ⟨n1, n2, n3⟩ := k_ref01_Neg F _ _ (f_rNeg F hF (a := a) hc)
      obtain ⟨d1, d2, d3⟩ := k_ref01_Digits F _ _ (f_Digits F hF (a := hi (-val a c)) (lo_U (-val a c)))
      have hds : ds (W (-val a c)) 128 = ds (-val a c) 128 := by
        unfold ds
        apply List.map_congr_left
        intro i hi
        have hi : i < 128 := List.mem_range.1 hi
        unfold dg
        rw [← bitlo _ hi, ← bitlo (-val a c) hi]
        have := W_eqv (-val a c)
        unfold Eqv at this
        rw [show (2 : Int) ^ 128 = 340282366920938463463374607431768211456 by decide, this]
      rw [val_hl, hds] at d2
      refine bp (dt han) (bp n1 ?_)
      rw [n2, n3]
      have w1 : IntKind.wrap .i64 (0 - IntKind.wrap .i64 (-Int.tmod (val a c) b)) = Int.tmod (val a c) b := by rw [wi64, wi64]; omega
      by_cases hbn : b < 0
      · simp only [hbn, if_true, decide_true] at q1 q2 hb1
        have hw : IntKind.wrap .u64 (IntKind.wrap .u64 (IntKind.wrap .i64 (0 - IntKind.wrap .i64 (b + 1))) + 1) = -b := by unfold I64 at hb; rw [wi64, wi64, wu64, wu64]; omega
        refine bp (dt hbn) (bp d1 ?_)
        rw [d2, d3, hw, rDiv_loop F hF _ _ hb1.1 hb1.2, q1, q2]
        obtain ⟨e1, e2, e3⟩ := k_ref01_Number F _ _ (f_Number F hF (Int.tdiv (val a c) b))
        refine bp e1 (bn (by simp [han, hbn]) (bp (dt han) ?_))
        rw [e2, e3]
        exact some_div h0 rfl rfl w1
      · simp only [hbn, if_false, decide_false, show ((true = false) ↔ False) by decide] at q1 q2 hb1
        refine bn (df hbn) (bp d1 ?_)
        rw [d2, d3, wu64_in (x := b) (by unfold I64 at hb; unfold U64; omega), rDiv_loop F hF _ _ hb1.1 hb1.2, q1, q2]
        obtain ⟨e1, e2, e3⟩ := k_ref01_Number F _ _ (f_Number F hF (-Int.tdiv (val a c) b))
        obtain ⟨m1, m2, m3⟩ := a_rNeg F hF (-Int.tdiv (val a c) b)
        refine bp e1 (bp (by simp [han, hbn]) ?_)
        rw [e2, e3]
        refine bp m1 (bp (dt han) ?_)
        rw [m2, m3, Int.neg_neg]
        exact some_div h0 rfl rfl w1
    · have hvn : ¬ val a c < 0 := fun h => han (hzn.1 h)
      simp only [hvn, if_false, decide_false] at q1 q2
      obtain ⟨d1, d2, d3⟩ := k_ref01_Digits F _ _ (f_Digits F hF (a := a) hc)
      refine bn (df han) ?_
      have w1 : IntKind.wrap .i64 (Int.tmod (val a c) b) = Int.tmod (val a c) b := by rw [wi64]; omega
      by_cases hbn : b < 0
      · simp only [hbn, if_true, decide_true, show ((false = true) ↔ False) by decide, if_false] at q1 q2 hb1
        have hw : IntKind.wrap .u64 (IntKind.wrap .u64 (IntKind.wrap .i64 (0 - IntKind.wrap .i64 (b + 1))) + 1) = -b := by unfold I64 at hb; rw [wi64, wi64, wu64, wu64]; omega
        refine bp (dt hbn) (bp d1 ?_)
        rw [d2, d3, hw, rDiv_loop F hF _ _ hb1.1 hb1.2, q1, q2]
        obtain ⟨e1, e2, e3⟩ := k_ref01_Number F _ _ (f_Number F hF (-Int.tdiv (val a c) b))
        obtain ⟨m1, m2, m3⟩ := a_rNeg F hF (-Int.tdiv (val a c) b)
        refine bp e1 (bp (by simp [han, hbn]) ?_)
        rw [e2, e3]
        refine bp m1 (bn (df han) ?_)
        rw [m2, m3, Int.neg_neg]
        exact some_div h0 rfl rfl w1
      · simp only [hbn, if_false, decide_false, if_true] at q1 q2 hb1
        refine bn (df hbn) (bp d1 ?_)
        rw [d2, d3, wu64_in (x := b) (by unfold I64 at hb; unfold U64; omega), rDiv_loop F hF _ _ hb1.1 hb1.2, q1, q2]
        obtain ⟨e1, e2, e3⟩ := k_ref01_Number F _ _ (f_Number F hF (Int.tdiv (val a c) b))
        refine bp e1 (bn (by simp [han, hbn]) (bn (df han) ?_))
        rw [e2, e3]
        exact some_div h0 rfl rfl w1
end Go.Xv
namespace Go.Xv
abbrev cp (z : Int) : VV := .v (.tuple #[.int .i64 (clipV z), .bool (clipC z)])
theorem f_fclip (F : Nat) {z : Int} (h : W128 z) : f_fix_clip F (hi z) (lo z) = some (cp z) := by
  unfold f_fix_clip
  obtain ⟨h1, h2, h3⟩ := a_Clip F h
  refine bp h1 ?_
  rw [h2, h3]
theorem a_fclip (F : Nat) {z : Int} (h : W128 z) : ok_fix_clip F (hi z) (lo z) = true ∧ o_fix_clip_0 F (hi z) (lo z) = clipV z ∧ o_fix_clip_1 F (hi z) (lo z) = clipC z := k_fix_clip F _ _ (f_fclip F h)
theorem f_rclip2 (F : Nat) {z : Int} (h : W128 z) : f_ref02_clip F (hi z) (lo z) = some (cp z) := by
  unfold f_ref02_clip
  obtain ⟨h1, h2, h3⟩ := a_rClip F h
  refine bp h1 ?_
  rw [h2, h3]
theorem a_rclip2 (F : Nat) {z : Int} (h : W128 z) : ok_ref02_clip F (hi z) (lo z) = true ∧ o_ref02_clip_0 F (hi z) (lo z) = clipV z ∧ o_ref02_clip_1 F (hi z) (lo z) = clipC z := k_ref02_clip F _ _ (f_rclip2 F h)
theorem f_fof (F : Nat) {n : Int} (h : I64 n) : f_fix_of F n = some (wd n) := by
  unfold f_fix_of
  obtain ⟨h1, h2, h3⟩ := a_Of F h
  refine bp h1 ?_
  rw [h2, h3]; rfl
theorem a_fof (F : Nat) {n : Int} (h : I64 n) : ok_fix_of F n = true ∧ o_fix_of_0 F n = hi n ∧ o_fix_of_1 F n = lo n := k_fix_of F _ (f_fof F h)

theorem p32W {a : Int} (ha : I64 a) : W128 (a * 4294967296) := by unfold I64 at ha; unfold W128; omega
theorem f_fClamp (F : Nat) {a l h : Int} : f_fix_Clamp F a l h = some (.v (.tuple #[.int .i64 (if h < l then l else min (max a l) h), .bool (if h < l then true else decide (min (max a l) h ≠ a))])) := by
  unfold f_fix_Clamp
  dsimp only
  by_cases hl : h < l
  · refine bp (dt hl) ?_
    rw [if_pos hl, if_pos hl]
  · refine bn (df hl) ?_
    rw [if_neg hl, if_neg hl]
    have e : (if h < (if l > a then l else a) then h else (if l > a then l else a)) = min (max a l) h := by split <;> (try split) <;> omega
    have e2 : (min (max a l) h != a) = decide (min (max a l) h ≠ a) := by rw [Bool.eq_iff_iff]; simp
    rw [e, e2]
end Go.Xv
namespace Go.Xv
theorem sq_lt {x y : Int} (hx : 0 ≤ x) (h : x < y) : x * x < y * y := by
  have h1 : x * x ≤ x * y := Int.mul_le_mul_of_nonneg_left (by omega) hx
  have h2 : x * y < y * y := Int.mul_lt_mul_of_pos_right h (by omega)
  omega
theorem sq_le {x y : Int} (hx : 0 ≤ x) (h : x ≤ y) : x * x ≤ y * y := by
  rcases Int.lt_or_eq_of_le h with h | rfl
  · exact Int.le_of_lt (sq_lt hx h)
  · exact Int.le_refl _
/-- a root is one only -/
theorem root_one {z x y : Int} (hx : 0 ≤ x) (hy : 0 ≤ y) (h1 : x * x ≤ z) (h2 : z < (x + 1) * (x + 1)) (h3 : y * y ≤ z) (h4 : z < (y + 1) * (y + 1)) : x = y := by
  rcases Int.lt_trichotomy x y with h | h | h
  · have := sq_le (x := x + 1) (y := y) (by omega) (by omega); omega
  · exact h
  · have := sq_le (x := y + 1) (y := x) (by omega) (by omega); omega
/-- There is a root. -/
theorem root_ex (z : Int) (hz : 0 ≤ z) : ∃ x : Int, 0 ≤ x ∧ x * x ≤ z ∧ z < (x + 1) * (x + 1) := by
  obtain ⟨n, rfl⟩ := Int.eq_ofNat_of_zero_le hz
  induction n with
  | zero => exact ⟨0, by omega, by omega, by omega⟩
  | succ n ih =>
    obtain ⟨x, h1, h2, h3⟩ := ih (by omega)
    by_cases h : (x + 1) * (x + 1) ≤ ((n + 1 : Nat) : Int)
    · refine ⟨x + 1, by omega, h, ?_⟩
      have := sq_lt (x := x + 1) (y := x + 1 + 1) (by omega) (by omega)
      push_cast
      omega
    · refine ⟨x, h1, ?_, by omega⟩
      push_cast
      omega
noncomputable def rt (z : Int) : Int := if h : 0 ≤ z then Classical.choose (root_ex z h) else 0
theorem rt_spec {z : Int} (h : 0 ≤ z) : 0 ≤ rt z ∧ rt z * rt z ≤ z ∧ z < (rt z + 1) * (rt z + 1) := by
  unfold rt
  rw [dif_pos h]
  exact Classical.choose_spec (root_ex z h)
theorem rt_eq {z x : Int} (hx : 0 ≤ x) (h1 : x * x ≤ z) (h2 : z < (x + 1) * (x + 1)) : rt z = x := by
  have h0 : 0 ≤ x * x := Int.mul_nonneg hx hx
  obtain ⟨h3, h4, h5⟩ := rt_spec (z := z) (by omega)
  exact root_one h3 hx h4 h5 h1 h2
/-- a number is not beyond the root just if its square is not above -/
theorem rt_le {z y : Int} (hz : 0 ≤ z) (hy : 0 ≤ y) : y ≤ rt z ↔ y * y ≤ z := by
  obtain ⟨h3, h4, h5⟩ := rt_spec hz
  constructor
  · intro h
    have := sq_le hy h
    omega
  · intro h
    rcases Int.lt_or_le (rt z) y with hlt | hle
    · have := sq_le (x := rt z + 1) (y := y) (by omega) (by omega); omega
    · exact hle
/-- the root's upper bits -/
theorem top_step {r P : Int} (hr : 0 ≤ r) (hP : 0 < P) : (r / (2 * P) * (2 * P) + P ≤ r → r / P * P = r / (2 * P) * (2 * P) + P) ∧ (¬ r / (2 * P) * (2 * P) + P ≤ r → r / P * P = r / (2 * P) * (2 * P)) := by
  have e : r / (2 * P) = r / P / 2 := by rw [Int.mul_comm, Int.ediv_ediv_of_nonneg (by omega)]
  have hd := Int.mul_ediv_add_emod r P
  have h2 := Int.emod_nonneg r (show P ≠ 0 by omega)
  have h3 := Int.emod_lt_of_pos r hP
  rw [e]
  generalize r / P = q at *
  have hq : 0 ≤ q ∨ q < 0 := by omega
  have e1 : q / 2 * (2 * P) = 2 * (q / 2) * P := by simp only [Int.mul_comm, Int.mul_left_comm]
  rw [e1]
  rcases (show q = 2 * (q / 2) ∨ q = 2 * (q / 2) + 1 by omega) with h | h
  · rw [← h]
    constructor
    · intro hx
      rw [Int.mul_comm q P] at hx; omega
    · intro _; rfl
  · have e2 : q * P = 2 * (q / 2) * P + P := by
      have : q * P = (2 * (q / 2) + 1) * P := by rw [← h]
      rw [this, Int.add_mul, Int.one_mul]
    rw [← e2]
    constructor
    · intro _; rfl
    · intro hx
      rw [Int.mul_comm q P] at hx; omega
end Go.Xv
namespace Go.Xv
theorem f_Square (F : Nat) {n : Int} (hn : U64 n) : f_root_Square F n = some (wd (n * n)) := by
  unfold f_root_Square
  dsimp only
  unfold U64 at hn
  rw [fdiv_pos _ (by decide), mask32_u64 hn]
  have en : n = n / 4294967296 * 4294967296 + n % 4294967296 := by omega
  have hp : 0 ≤ n / 4294967296 ∧ n / 4294967296 ≤ 4294967295 := by omega
  have hq : 0 ≤ n % 4294967296 ∧ n % 4294967296 ≤ 4294967295 := by omega
  have bd : ∀ x y : Int, (0 ≤ x ∧ x ≤ 4294967295) → (0 ≤ y ∧ y ≤ 4294967295) → 0 ≤ x * y ∧ x * y ≤ 18446744065119617025 := by
    intro x y hx hy
    have h1 := Int.mul_nonneg hx.1 hy.1
    have h2 : x * y ≤ 4294967295 * 4294967295 := Int.mul_le_mul hx.2 hy.2 hy.1 (by decide)
    exact ⟨h1, by simpa using h2⟩
  have b1 := bd _ _ hp hp
  have b2 := bd _ _ hq hq
  have b3 := bd _ _ hp hq
  have hnn : n * n = (n / 4294967296) * (n / 4294967296) * 18446744073709551616 + (n / 4294967296) * (n % 4294967296) * 8589934592 + (n % 4294967296) * (n % 4294967296) := by
    generalize n / 4294967296 = p at *
    generalize n % 4294967296 = q at *
    subst en
    simp only [Int.add_mul, Int.mul_add]
    have : p * 4294967296 * (p * 4294967296) = p * p * 18446744073709551616 := by
      rw [show (18446744073709551616 : Int) = 4294967296 * 4294967296 by decide]
      simp only [Int.mul_comm, Int.mul_assoc, Int.mul_left_comm]
    have : p * 4294967296 * q = p * q * 4294967296 := by simp only [Int.mul_comm, Int.mul_assoc, Int.mul_left_comm]
    have : q * (p * 4294967296) = p * q * 4294967296 := by simp only [Int.mul_comm, Int.mul_assoc, Int.mul_left_comm]
    omega
  rw [hnn]
  generalize n / 4294967296 * (n / 4294967296) = pp at *
  generalize n / 4294967296 * (n % 4294967296) = pq at *
  generalize n % 4294967296 * (n % 4294967296) = qq at *
  rw [wu64_in (x := pp) (by unfold U64; omega), wu64_in (x := qq) (by unfold U64; omega), wu64_in (x := pq) (by unfold U64; omega)]
  obtain ⟨l1, l2, l3⟩ := k_wide_Left F _ _ 33 (f_Left F (a := 0) (b := pq) (n := 33) (by unfold U64; omega))
  rw [show ((33 : Int).toNat) = 33 from rfl, show (2 : Int) ^ 33 = 8589934592 by decide] at l2 l3
  refine bp l1 ?_
  rw [l2, l3]
  obtain ⟨s1, s2, s3⟩ := k_wide_Add F _ _ _ _ (f_Add F (a := IntKind.wrap .i64 pp) (b := qq) (c := hi (val 0 pq * 8589934592)) (by unfold U64; omega) (lo_U (val 0 pq * 8589934592)))
  refine bp s1 ?_
  rw [s2, s3]
  have e : Eqv (val (IntKind.wrap .i64 pp) qq + val (hi (val 0 pq * 8589934592)) (lo (val 0 pq * 8589934592))) (pp * 18446744073709551616 + pq * 8589934592 + qq) := by
    rw [val_hl]
    refine ((Eqv.rfl (x := val (IntKind.wrap .i64 pp) qq)).add (W_eqv _)).trans ?_
    rw [wi64]
    unfold Eqv val; omega
  exact some_wd (hi_eqv e) (lo_eqv e)
theorem a_Square (F : Nat) {n : Int} (hn : U64 n) : ok_root_Square F n = true ∧ o_root_Square_0 F n = hi (n * n) ∧ o_root_Square_1 F n = lo (n * n) := k_root_Square F _ (f_Square F hn)
theorem lp_rSquare_0 (F : Nat) (hF : 200 ≤ F) (ex) (a b x0 x3 x4 : Int) : ∀ (k n i : Nat) (x2 x5 x6 x7 x8 : Int), i + k = 64 → k < n → x2 = i → x5 = hi (a * num b i) → x6 = lo (a * num b i) → x7 = hi (a * 2 ^ i) → x8 = lo (a * 2 ^ i) →
    L_ref04_Square_0 F ex n x0 128 x2 x3 x4 x5 x6 x7 x8 (ds b 128) = ex x0 128 64 x3 x4 (hi (a * num b 64)) (lo (a * num b 64)) (hi (a * 2 ^ 64)) (lo (a * 2 ^ 64)) (ds b 128)
  | _, 0, _, _, _, _, _, _, _, h, _, _, _, _, _ => absurd h (by omega)
  | 0, n + 1, i, _, _, _, _, _, h, _, rfl, rfl, rfl, rfl, rfl => by
    obtain rfl : i = 64 := by omega
    rw [L_ref04_Square_0]
    unfold B_ref04_Square_0
    exact bn (df (by omega)) rfl
  | k + 1, n + 1, i, _, _, _, _, _, h, hn, rfl, rfl, rfl, rfl, rfl => by
    have hi' : i < 128 := by omega
    rw [L_ref04_Square_0]
    unfold B_ref04_Square_0
    refine bp (dt (by omega)) (bp (ix_ok i 128 hi') (bp (isI_ds b hi') ?_))
    rw [iv_ds b hi']
    obtain ⟨d1, d2, d3⟩ := a_rAdd F hF (a * 2 ^ i) (a * 2 ^ i)
    have e2 : a * 2 ^ i + a * 2 ^ i = a * 2 ^ (i + 1) := by rw [Int.pow_succ, ← Int.mul_assoc]; omega
    rw [e2] at d2 d3
    rcases (show dg b i = 0 ∨ dg b i = 1 by have := dg_01 b i; omega) with hd | hd
    · refine bn (by rw [hd]; rfl) (bp d1 ?_)
      have e : num b (i + 1) = num b i := by rw [num_succ, hd]; omega
      exact lp_rSquare_0 F hF ex a b x0 x3 x4 k n (i + 1) _ _ _ _ _ (by omega) (by omega) (wi64_s i (by omega)) (by rw [e]) (by rw [e]) d2 d3
    · obtain ⟨c1, c2, c3⟩ := a_rAdd F hF (a * num b i) (a * 2 ^ i)
      have e : a * num b i + a * 2 ^ i = a * num b (i + 1) := by rw [num_succ, hd, Int.mul_add, Int.one_mul]
      rw [e] at c2 c3
      refine bp (by rw [hd]; rfl) (bp c1 (bp d1 ?_))
      exact lp_rSquare_0 F hF ex a b x0 x3 x4 k n (i + 1) _ _ _ _ _ (by omega) (by omega) (wi64_s i (by omega)) c2 c3 d2 d3
theorem hl_U {n : Int} (h : U64 n) : hi n = 0 ∧ lo n = n := by unfold U64 at h; unfold hi lo; omega
theorem f_rSquare (F : Nat) (hF : 200 ≤ F) {n : Int} (hn : U64 n) : f_ref04_Square F n = some (wd (n * n)) := by
  unfold f_ref04_Square
  obtain ⟨d1, d2, d3⟩ := k_ref01_Digits F _ _ (f_Digits F hF (a := 0) hn)
  have e0 : val 0 n = n := by unfold val; omega
  rw [e0] at d2
  obtain ⟨h1, h2⟩ := hl_U hn
  refine bp d1 ?_
  rw [d2, d3]
  rw [lp_rSquare_0 F hF _ n n n 0 0 64 F 0 0 0 0 0 n (by omega) (by omega) rfl (by rw [num_zero, Int.mul_zero]; rfl) (by rw [num_zero, Int.mul_zero]; rfl) (by rw [Int.pow_zero, Int.mul_one, h1]) (by rw [Int.pow_zero, Int.mul_one, h2])]
  have e : num n 64 = n := by
    unfold num
    unfold U64 at hn
    rw [show (2 : Int) ^ 64 = 18446744073709551616 by decide]; omega
  rw [e]; rfl
theorem a_rSquare (F : Nat) (hF : 200 ≤ F) {n : Int} (hn : U64 n) : ok_ref04_Square F n = true ∧ o_ref04_Square_0 F n = hi (n * n) ∧ o_ref04_Square_1 F n = lo (n * n) := k_ref04_Square F _ (f_rSquare F hF hn)

theorem rt_bd {z : Int} (h : 0 ≤ z) (h2 : z < 170141183460469231731687303715884105728) : 0 ≤ rt z ∧ rt z ≤ 13043817825332782212 := by
  obtain ⟨h3, h4, h5⟩ := rt_spec h
  refine ⟨h3, ?_⟩
  rcases Int.lt_or_le 13043817825332782212 (rt z) with hlt | hle
  · have := sq_le (x := 13043817825332782213) (y := rt z) (by omega) (by omega)
    have e : (13043817825332782213 : Int) * 13043817825332782213 = 170141183460469231748655437451289177369 := by decide
    omega
  · exact hle
theorem sq_bd {y : Int} (h : 0 ≤ y) (h2 : y < 18446744073709551616) : 0 ≤ y * y ∧ y * y < 340282366920938463463374607431768211456 := by
  have h1 := Int.mul_nonneg h h
  have := sq_le h (show y ≤ 18446744073709551615 by omega)
  have e : (18446744073709551615 : Int) * 18446744073709551615 = 340282366920938463426481119284349108225 := by decide
  omega
theorem lp_rootWide_0 (F : Nat) (ex) {a b : Int} (ha : I64 a) (hb : U64 b) (hz : 0 ≤ val a b) (x0 x1 x2 : Int) (x3 : Bool) : ∀ (k n i : Nat) (x4 x5 : Int), i + k = 64 → k < n → x4 = rt (val a b) / 2 ^ k * 2 ^ k → x5 = i →
    L_root_Wide_0 F ex n x0 x1 x2 x3 x4 x5 a b = ex x0 x1 x2 x3 (rt (val a b)) 64 a b
  | _, 0, _, _, _, _, h, _, _ => absurd h (by omega)
  | 0, n + 1, i, _, _, h, _, rfl, rfl => by
    obtain rfl : i = 64 := by omega
    rw [L_root_Wide_0]
    unfold B_root_Wide_0
    refine bn (df (by omega)) ?_
    rw [Int.pow_zero, Int.ediv_one, Int.mul_one]; rfl
  | k + 1, n + 1, i, _, _, h, hn, rfl, rfl => by
    have hW := val_W ha hb
    unfold W128 at hW
    obtain ⟨r1, r2⟩ := rt_bd hz hW.2
    have ih := lp_rootWide_0 F ex ha hb hz x0 x1 x2 x3 k n (i + 1)
    rw [L_root_Wide_0]
    unfold B_root_Wide_0
    dsimp only
    have hi63 : IntKind.wrap .i64 (63 - (i : Int)) = ((k : Nat) : Int) := by rw [wi64_in (by unfold I64; omega)]; omega
    have hP := p2pos k
    have hPb : (2 : Int) ^ k ≤ 9223372036854775808 := by
      have := p2mono (a := k) (b := 63) (by omega)
      simpa using this
    rw [hi63, p2min (by omega), Int.one_mul, wu64_in (x := 2 ^ k) (by unfold U64; omega)]
    obtain ⟨t1, t2⟩ := top_step (r := rt (val a b)) (P := 2 ^ k) r1 hP
    rw [show (2 : Int) * 2 ^ k = 2 ^ (k + 1) by rw [Int.pow_succ, Int.mul_comm]] at t1 t2
    have hq := Int.ediv_nonneg r1 (Int.le_of_lt (p2pos (k + 1)))
    have hqr : rt (val a b) / 2 ^ (k + 1) * 2 ^ (k + 1) ≤ rt (val a b) := Int.ediv_mul_le _ (by have := p2pos (k + 1); omega)
    have hq0 := Int.mul_nonneg hq (Int.le_of_lt (p2pos (k + 1)))
    have eor : orI .u64 (rt (val a b) / 2 ^ (k + 1) * 2 ^ (k + 1)) (2 ^ k) = rt (val a b) / 2 ^ (k + 1) * 2 ^ (k + 1) + 2 ^ k := by
      have h1 := or_add_u64 (k + 1) (a := rt (val a b) / 2 ^ (k + 1)) (b := 2 ^ k) hq (by omega)
      rw [p2cast (k + 1)] at h1
      refine h1 ?_ ?_
      · rw [Int.pow_succ]; omega
      · by_cases hk : k = 63
        · subst hk
          have : rt (val a b) / 2 ^ (63 + 1) = 0 := Int.ediv_eq_zero_of_lt r1 (by rw [show (2 : Int) ^ (63 + 1) = 18446744073709551616 by decide]; omega)
          rw [this]
          decide
        · have := p2mono (a := k) (b := 62) (by omega)
          rw [show (2 : Int) ^ 62 = 4611686018427387904 by decide] at this
          omega
    rw [eor]
    have hyU : U64 (rt (val a b) / 2 ^ (k + 1) * 2 ^ (k + 1) + 2 ^ k) := by
      have hw := orI .u64 (rt (val a b) / 2 ^ (k + 1) * 2 ^ (k + 1)) (2 ^ k)
      rw [← eor, or_u64_bv]
      exact wu64_U _
    generalize hx : rt (val a b) / 2 ^ (k + 1) * 2 ^ (k + 1) = x at *
    obtain ⟨s1, s2, s3⟩ := a_Square F hyU
    have hle := rt_le (z := val a b) (y := x + 2 ^ k) hz (by omega)
    unfold U64 at hyU
    obtain ⟨b1, b2⟩ := sq_bd hyU.1 hyU.2
    have w5 : IntKind.wrap .i64 ((i : Int) + 1) = ((i + 1 : Nat) : Int) := wi64_s i (by omega)
    refine bp (dt (by omega)) (bp (nn k) (bp s1 ?_))
    rw [s2, s3]
    generalize hs : (x + 2 ^ k) * (x + 2 ^ k) = s at *
    by_cases hhi : hi s ≥ 0
    · have hs127 : s < 170141183460469231731687303715884105728 := by unfold hi at hhi; omega
      obtain ⟨l1, l2⟩ := k_wide_Less F _ _ _ _ (f_Less F (a := a) (c := hi s) hb (lo_U s))
      rw [val_hl, W_in (by unfold W128; omega)] at l2
      refine bp (dt hhi) (bp l1 ?_)
      rw [l2]
      by_cases hc : val a b < s
      · refine bn (by rw [dt hc]; rfl) ?_
        exact ih _ _ (by omega) (by omega) (t2 (fun h => by have := hle.1 h; omega)).symm w5
      · refine bp (by rw [df hc]; rfl) ?_
        exact ih _ _ (by omega) (by omega) (t1 (hle.2 (by omega))).symm w5
    · have hs127 : 170141183460469231731687303715884105728 ≤ s := by unfold hi at hhi; omega
      refine bn (df hhi) ?_
      exact ih _ _ (by omega) (by omega) (t2 (fun h => by have := hle.1 h; omega)).symm w5
/-- what the root of a wide number answers -/
noncomputable def rootR (z : Int) : Value := if z < 0 then .tuple #[.int .u64 0, .bool false] else .tuple #[.int .u64 (rt z), .bool true]
theorem f_rootWide (F : Nat) (hF : 200 ≤ F) {a b : Int} (ha : I64 a) (hb : U64 b) : f_root_Wide F a b = some (.v (rootR (val a b))) := by
  unfold f_root_Wide rootR
  have hn := val_neg (a := a) hb
  by_cases h : a < 0
  · refine bp (dt h) ?_
    rw [if_pos (hn.2 h)]
  · have hz : 0 ≤ val a b := by
      rcases Int.lt_or_le (val a b) 0 with h2 | h2
      · exact absurd (hn.1 h2) h
      · exact h2
    refine bn (df h) ?_
    rw [if_neg (by omega)]
    have hW := val_W ha hb
    unfold W128 at hW
    obtain ⟨r1, r2⟩ := rt_bd hz hW.2
    rw [lp_rootWide_0 F _ ha hb hz a b 0 false 64 F 0 0 0 (by omega) (by omega) ?_ rfl]
    rw [Int.ediv_eq_zero_of_lt r1 (by rw [show (2 : Int) ^ 64 = 18446744073709551616 by decide]; omega)]; simp
theorem lp_rWide_0 (F : Nat) (hF : 200 ≤ F) (ex) {a b : Int} (ha : I64 a) (hb : U64 b) (hz : 0 ≤ val a b) (x0 x1 x2 : Int) (x3 : Bool) : ∀ (k n i : Nat) (x4 x5 x6 : Int), i + k = 64 → k + 1 < n → 0 ≤ x4 → x5 ≤ 13043817825332782212 → x4 ≤ rt (val a b) → rt (val a b) ≤ x5 → x5 - x4 < 2 ^ k → x6 = i →
    ∃ h' i' : Int, L_ref04_Wide_0 F ex n x0 x1 x2 x3 x4 x5 x6 a b = ex x0 x1 x2 x3 (rt (val a b)) h' i' a b
  | _, 0, _, _, _, _, _, h, _, _, _, _, _, _ => absurd h (by omega)
  | 0, n + 1, i, x4, x5, _, h, _, h0, h1, h2, h3, h4, rfl => by
    obtain rfl : x4 = rt (val a b) := by rw [Int.pow_zero] at h4; omega
    refine ⟨x5, i, ?_⟩
    rw [L_ref04_Wide_0]
    unfold B_ref04_Wide_0
    rw [Int.pow_zero] at h4
    exact bp (dt (by omega)) (bn (df (by omega)) rfl)
  | k + 1, n + 1, i, x4, x5, _, h, hn, h0, h1, h2, h3, h4, rfl => by
    rw [L_ref04_Wide_0]
    unfold B_ref04_Wide_0
    by_cases hlt : x4 < x5
    · have hd : 0 ≤ x5 - x4 := by omega
      have em : IntKind.wrap .u64 (IntKind.wrap .u64 (x4 + IntKind.wrap .u64 (Int.tdiv (IntKind.wrap .u64 (x5 - x4)) 2)) + Int.tmod (IntKind.wrap .u64 (x5 - x4)) 2) = x4 + (x5 - x4) / 2 + (x5 - x4) % 2 := by
        rw [wu64_in (x := x5 - x4) (by unfold U64; omega), Int.tdiv_eq_ediv_of_nonneg hd, Int.tmod_eq_emod_of_nonneg hd, wu64_in (x := (x5 - x4) / 2) (by unfold U64; omega), wu64_in (x := x4 + (x5 - x4) / 2) (by unfold U64; omega), wu64_in (by unfold U64; omega)]
      dsimp only
      rw [em]
      generalize hm : x4 + (x5 - x4) / 2 + (x5 - x4) % 2 = m at *
      have hm1 : x4 < m ∧ m ≤ x5 := by omega
      obtain ⟨s1, s2, s3⟩ := a_rSquare F hF (n := m) (by unfold U64; omega)
      have hsq := sq_le (x := m) (y := 13043817825332782212) (by omega) (by omega)
      have e : (13043817825332782212 : Int) * 13043817825332782212 = 170141183460469231722567801800623612944 := by decide
      have hsq0 := Int.mul_nonneg (show 0 ≤ m by omega) (show 0 ≤ m by omega)
      obtain ⟨l1, l2⟩ := k_ref01_Less F _ _ _ _ (f_rLess F (a := a) (c := hi (m * m)) hb (lo_U (m * m)))
      rw [val_hl, W_in (by unfold W128; omega)] at l2
      have hle := rt_le (z := val a b) (y := m) hz (by omega)
      rw [Int.pow_succ] at h4
      have w5 : IntKind.wrap .i64 ((i : Int) + 1) = ((i + 1 : Nat) : Int) := wi64_s i (by omega)
      by_cases hc : val a b < m * m
      · have hrm : rt (val a b) < m := by
          rcases Int.lt_or_le (rt (val a b)) m with h | h
          · exact h
          · have := hle.1 h; omega
        obtain ⟨h', i', ih⟩ := lp_rWide_0 F hF ex ha hb hz x0 x1 x2 x3 k n (i + 1) x4 (m - 1) _ (by omega) (by omega) h0 (by omega) h2 (by omega) (by omega) w5
        refine ⟨h', i', bp (dt (by omega)) (bp (dt hlt) (bp s1 ?_))⟩
        rw [s2, s3]
        refine bp l1 (bp (by rw [l2, dt hc]) ?_)
        rw [wu64_in (x := m - 1) (by unfold U64; omega)]
        exact ih
      · have hrm : m ≤ rt (val a b) := hle.2 (by omega)
        obtain ⟨h', i', ih⟩ := lp_rWide_0 F hF ex ha hb hz x0 x1 x2 x3 k n (i + 1) m x5 _ (by omega) (by omega) (by omega) h1 hrm h3 (by omega) w5
        refine ⟨h', i', bp (dt (by omega)) (bp (dt hlt) (bp s1 ?_))⟩
        rw [s2, s3]
        exact bp l1 (bn (by rw [l2, df hc]) ih)
    · obtain rfl : x4 = rt (val a b) := by omega
      exact ⟨x5, i, bp (dt (by omega)) (bn (df hlt) rfl)⟩
theorem f_rWide (F : Nat) (hF : 200 ≤ F) {a b : Int} (ha : I64 a) (hb : U64 b) : f_ref04_Wide F a b = some (.v (rootR (val a b))) := by
  unfold f_ref04_Wide rootR
  have hn := val_neg (a := a) hb
  by_cases h : a < 0
  · refine bp (dt h) ?_
    rw [if_pos (hn.2 h)]
  · have hz : 0 ≤ val a b := by
      rcases Int.lt_or_le (val a b) 0 with h2 | h2
      · exact absurd (hn.1 h2) h
      · exact h2
    refine bn (df h) ?_
    rw [if_neg (by omega)]
    have hW := val_W ha hb
    unfold W128 at hW
    obtain ⟨r1, r2⟩ := rt_bd hz hW.2
    obtain ⟨h', i', e⟩ := lp_rWide_0 F hF (fun (_ : Int) (_ : Int) (_ : Int) (_ : Bool) (v : Int) (_ : Int) (_ : Int) (_ : Int) (_ : Int) => (some (.v (.tuple #[.int .u64 v, .bool true])) : R)) ha hb hz a b 0 false 64 F 0 0 13043817825332782212 0 (by omega) (by omega) (by omega) (by omega) r1 r2 (by decide) rfl
    exact e
end Go.Xv
namespace Go.Xv
theorem tdiv_W {z b : Int} (hz : -170141183460469231731687303715884105728 < z ∧ z < 170141183460469231731687303715884105728) : W128 (Int.tdiv z b) := by
  have h : (Int.tdiv z b).natAbs ≤ z.natAbs := by
    rw [Int.natAbs_tdiv]
    exact Nat.div_le_self _ _
  unfold W128; omega
/-- a quotient of numbers with a point -/
def fdivV (a b : Int) : Int := if b = 0 then (if 0 < a then 9223372036854775807 else if a < 0 then -9223372036854775808 else 0) else clipV (Int.tdiv (a * 4294967296) b)
def fdivC (a b : Int) : Bool := if b = 0 then true else clipC (Int.tdiv (a * 4294967296) b)
theorem p32b {a : Int} (ha : I64 a) : -170141183460469231731687303715884105728 < a * 4294967296 ∧ a * 4294967296 < 170141183460469231731687303715884105728 := by unfold I64 at ha; omega
theorem f_fDiv (F : Nat) (hF : 200 ≤ F) {a b : Int} (ha : I64 a) (hb : I64 b) : f_fix_Div F a b = some (.v (.tuple #[.int .i64 (fdivV a b), .bool (fdivC a b)])) := by
  unfold f_fix_Div
  obtain ⟨h1, h2, h3⟩ := a_fof F ha
  obtain ⟨n1, n2, n3⟩ := a_Left F a 32
  rw [show ((32 : Int).toNat) = 32 from rfl, show (2 : Int) ^ 32 = 4294967296 by decide] at n2 n3
  have hd := f_Div F hF (hi_I (a * 4294967296)) (lo_U (a * 4294967296)) hb
  rw [val_hl, W_in (p32W ha)] at hd
  unfold divR at hd
  refine bp h1 ?_
  rw [h2, h3]
  refine bp n1 ?_
  rw [n2, n3]
  unfold fdivV fdivC
  by_cases h : b = 0
  · rw [if_pos h] at hd
    obtain ⟨d1, d2, d3, d4, d5⟩ := k_wide_Div F _ _ _ hd
    refine bp d1 (bn d5 ?_)
    rw [if_pos h, if_pos h]
    by_cases h1 : 0 < a
    · refine bp (dt h1) ?_
      rw [if_pos h1]
    · refine bn (df h1) ?_
      rw [if_neg h1]
      by_cases h2 : a < 0
      · refine bp (dt h2) ?_
        rw [if_pos h2]
      · refine bn (df h2) ?_
        rw [if_neg h2]
  · rw [if_neg h] at hd
    obtain ⟨d1, d2, d3, d4, d5⟩ := k_wide_Div F _ _ _ hd
    obtain ⟨c1, c2, c3⟩ := a_fclip F (tdiv_W (b := b) (p32b ha))
    refine bp d1 (bp d5 ?_)
    rw [d2, d3]
    refine bp c1 ?_
    rw [c2, c3, if_neg h, if_neg h]
theorem f_rDiv2 (F : Nat) (hF : 200 ≤ F) {a b : Int} (ha : I64 a) (hb : I64 b) : f_ref02_Div F a b = some (.v (.tuple #[.int .i64 (fdivV a b), .bool (fdivC a b)])) := by
  unfold f_ref02_Div fdivV fdivC
  by_cases h : b = 0
  · refine bp (by simp [h]) ?_
    rw [if_pos h, if_pos h]
    by_cases h0 : a = 0
    · refine bp (by simp [h0]) ?_
      rw [if_neg (by omega), if_neg (by omega)]
    · refine bn (by simp [h0]) (bp (by simp [h]) ?_)
      by_cases h1 : 0 < a
      · refine bp (dt h1) ?_
        rw [if_pos h1]
      · refine bn (df h1) (bp (by simp [h]) ?_)
        rw [if_neg h1, if_pos (by omega)]
  · have hn : (b == 0) = false := by simp [h]
    refine bn hn (bn hn (bn hn ?_))
    rw [if_neg h, if_neg h]
    obtain ⟨m1, m2, m3⟩ := a_rMul F hF ha (b := 4294967296) (by unfold I64; omega)
    have hd := f_rDiv F hF (hi_I (a * 4294967296)) (lo_U (a * 4294967296)) hb
    rw [val_hl, W_in (p32W ha)] at hd
    unfold divR at hd
    rw [if_neg h] at hd
    obtain ⟨d1, d2, d3, d4, d5⟩ := k_ref01_Div F _ _ _ hd
    obtain ⟨c1, c2, c3⟩ := a_rclip2 F (tdiv_W (b := b) (p32b ha))
    refine bp m1 ?_
    rw [m2, m3]
    refine bp d1 ?_
    rw [d2, d3]
    refine bp c1 ?_
    rw [c2, c3]
end Go.Xv
namespace Go.Xv
theorem f_vec_each' (F : Nat) (hF : 200 ≤ F) {a0 a1 a2 a3 : Int} {v0 v1 v2 : Int} {c0 c1 c2 : Bool} (h0 : ok_vec_Clamp_1 F 0 a0 a1 a2 a3 = true ∧ o_vec_Clamp_1_0 F 0 a0 a1 a2 a3 = v0 ∧ o_vec_Clamp_1_1 F 0 a0 a1 a2 a3 = c0) (h1 : ok_vec_Clamp_1 F 1 a0 a1 a2 a3 = true ∧ o_vec_Clamp_1_0 F 1 a0 a1 a2 a3 = v1 ∧ o_vec_Clamp_1_1 F 1 a0 a1 a2 a3 = c1) (h2 : ok_vec_Clamp_1 F 2 a0 a1 a2 a3 = true ∧ o_vec_Clamp_1_0 F 2 a0 a1 a2 a3 = v2 ∧ o_vec_Clamp_1_1 F 2 a0 a1 a2 a3 = c2) :
    f_vec_each F a0 a1 a2 a3 = some (.v (.tuple #[.agg #[.int .i64 v0, .int .i64 v1, .int .i64 v2], .bool (c0 || c1 || c2)])) := by
  obtain ⟨a1, a2, a3⟩ := h0
  obtain ⟨b1, b2, b3⟩ := h1
  obtain ⟨d1, d2, d3⟩ := h2
  obtain ⟨G, hG⟩ : ∃ G, F = G + 4 := ⟨F - 4, by omega⟩
  have w1 : IntKind.wrap .i64 (0 + 1) = 1 := by decide
  have w2 : IntKind.wrap .i64 (1 + 1) = 2 := by decide
  have w3 : IntKind.wrap .i64 (2 + 1) = 3 := by decide
  unfold f_vec_each
  rw [show L_vec_each_0 F _ F = L_vec_each_0 F _ (G + 4) from congrArg (L_vec_each_0 F _) hG, L_vec_each_0]
  unfold B_vec_each_0
  refine bp rfl (bp a1 (bn rfl (bp rfl (bp rfl ?_))))
  rw [a2, a3, w1, L_vec_each_0]
  unfold B_vec_each_0
  refine bp rfl (bp b1 ?_)
  rw [b2, b3, w2]
  cases c0
  · refine bn rfl (bp rfl (bp rfl ?_))
    rw [L_vec_each_0]
    unfold B_vec_each_0
    refine bp rfl (bp d1 ?_)
    rw [d2, d3, w3]
    cases c1
    · refine bn rfl (bp rfl (bp rfl ?_))
      rw [L_vec_each_0]
      unfold B_vec_each_0
      exact bn rfl (bp rfl rfl)
    · refine bp rfl (bp rfl (bp rfl ?_))
      rw [L_vec_each_0]
      unfold B_vec_each_0
      exact bn rfl (bp rfl rfl)
  · refine bp rfl (bp rfl (bp rfl ?_))
    rw [L_vec_each_0]
    unfold B_vec_each_0
    refine bp rfl (bp d1 ?_)
    rw [d2, w3]
    refine bp rfl (bp rfl (bp rfl ?_))
    rw [L_vec_each_0]
    unfold B_vec_each_0
    exact bn rfl (bp rfl (by rw [Bool.true_or, Bool.true_or]; rfl))
theorem f_vec_eachv2' (F : Nat) (hF : 200 ≤ F) {a0 a1 a2 a3 : Int} {v0 v1 v2 : Int} {c0 c1 c2 : Bool} (h0 : ok_vec_Unit_1 F 0 a0 a1 a2 a3 = true ∧ o_vec_Unit_1_0 F 0 a0 a1 a2 a3 = v0 ∧ o_vec_Unit_1_1 F 0 a0 a1 a2 a3 = c0) (h1 : ok_vec_Unit_1 F 1 a0 a1 a2 a3 = true ∧ o_vec_Unit_1_0 F 1 a0 a1 a2 a3 = v1 ∧ o_vec_Unit_1_1 F 1 a0 a1 a2 a3 = c1) (h2 : ok_vec_Unit_1 F 2 a0 a1 a2 a3 = true ∧ o_vec_Unit_1_0 F 2 a0 a1 a2 a3 = v2 ∧ o_vec_Unit_1_1 F 2 a0 a1 a2 a3 = c2) :
    f_vec_eachv2 F a0 a1 a2 a3 = some (.v (.tuple #[.agg #[.int .i64 v0, .int .i64 v1, .int .i64 v2], .bool (c0 || c1 || c2)])) := by
  obtain ⟨a1, a2, a3⟩ := h0
  obtain ⟨b1, b2, b3⟩ := h1
  obtain ⟨d1, d2, d3⟩ := h2
  obtain ⟨G, hG⟩ : ∃ G, F = G + 4 := ⟨F - 4, by omega⟩
  have w1 : IntKind.wrap .i64 (0 + 1) = 1 := by decide
  have w2 : IntKind.wrap .i64 (1 + 1) = 2 := by decide
  have w3 : IntKind.wrap .i64 (2 + 1) = 3 := by decide
  unfold f_vec_eachv2
  rw [show L_vec_eachv2_0 F _ F = L_vec_eachv2_0 F _ (G + 4) from congrArg (L_vec_eachv2_0 F _) hG, L_vec_eachv2_0]
  unfold B_vec_eachv2_0
  refine bp rfl (bp a1 (bn rfl (bp rfl (bp rfl ?_))))
  rw [a2, a3, w1, L_vec_eachv2_0]
  unfold B_vec_eachv2_0
  refine bp rfl (bp b1 ?_)
  rw [b2, b3, w2]
  cases c0
  · refine bn rfl (bp rfl (bp rfl ?_))
    rw [L_vec_eachv2_0]
    unfold B_vec_eachv2_0
    refine bp rfl (bp d1 ?_)
    rw [d2, d3, w3]
    cases c1
    · refine bn rfl (bp rfl (bp rfl ?_))
      rw [L_vec_eachv2_0]
      unfold B_vec_eachv2_0
      exact bn rfl (bp rfl rfl)
    · refine bp rfl (bp rfl (bp rfl ?_))
      rw [L_vec_eachv2_0]
      unfold B_vec_eachv2_0
      exact bn rfl (bp rfl rfl)
  · refine bp rfl (bp rfl (bp rfl ?_))
    rw [L_vec_eachv2_0]
    unfold B_vec_eachv2_0
    refine bp rfl (bp d1 ?_)
    rw [d2, w3]
    refine bp rfl (bp rfl (bp rfl ?_))
    rw [L_vec_eachv2_0]
    unfold B_vec_eachv2_0
    exact bn rfl (bp rfl (by rw [Bool.true_or, Bool.true_or]; rfl))
end Go.Xv
namespace Go.Xv
theorem mx {a b : Int} : (if b > a then b else a) = max a b := by split <;> omega
end Go.Xv
