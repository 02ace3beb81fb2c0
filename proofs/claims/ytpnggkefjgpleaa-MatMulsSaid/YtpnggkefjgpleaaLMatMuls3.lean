/- Matrices are multiplied, applied and turned over as the document says: the law returns true for every input, and leaves its arguments as they were. -/
import Derived.Test.YtpnggkefjgpleaaLMatMuls2
import Derived.KernelRfl
set_option linter.unusedVariables false
namespace Go.Xv
/- 54 _ref07_Apply -/
def c_ref07_Apply : Cfg := ⟨[0, 1, 2, 3, 4, 5, 6, 7, 8, 9, 10, 11], [], [], []⟩
def ti_ref07_Apply : List TV := [.v (.agg [.int .i64, .int .i64, .int .i64, .int .i64, .int .i64, .int .i64, .int .i64, .int .i64, .int .i64]), .v (.agg [.int .i64, .int .i64, .int .i64])]
def to_ref07_Apply : TV := .v (.tup [.agg [.int .i64, .int .i64, .int .i64], .bool])
def S_ref07_Apply (F : Nat) : FuncId → List VV → Option (Bool × VV) := words [(48, s_ref06_Dot F)]
def W_ref07_Apply (F : Nat) : List LW := []
def I_ref07_Apply (F : Nat) : Nat → VS → (Exit → VS → R) → R := tabI c_ref07_Apply (W_ref07_Apply F)
def WJ_ref07_Apply (F : Nat) : List LJ := []
def J_ref07_Apply (F : Nat) : Nat → Nat → VS → (Exit → VS → R) → R := tabJ (WJ_ref07_Apply F)
def f_ref07_Apply (F : Nat) (a0 : Int) (a1 : Int) (a2 : Int) (a3 : Int) (a4 : Int) (a5 : Int) (a6 : Int) (a7 : Int) (a8 : Int) (a9 : Int) (a10 : Int) (a11 : Int) : R :=
  bif (ok_ref06_Dot F a0 a1 a2 a9 a10 a11) then (
    let v3023 : Int := (o_ref06_Dot_0 F a0 a1 a2 a9 a10 a11)
    bif (ok_ref06_Dot F a3 a4 a5 a9 a10 a11) then (
      let v3025 : Int := (o_ref06_Dot_0 F a3 a4 a5 a9 a10 a11)
      bif (ok_ref06_Dot F a6 a7 a8 a9 a10 a11) then (
        let v3027 : Int := (o_ref06_Dot_0 F a6 a7 a8 a9 a10 a11)
        bif ((o_ref06_Dot_1 F a0 a1 a2 a9 a10 a11)) then (
          some (.v (.tuple #[.agg #[.int .i64 v3023, .int .i64 v3025, .int .i64 v3027], .bool true])))
        else (
          bif ((o_ref06_Dot_1 F a3 a4 a5 a9 a10 a11)) then (
            some (.v (.tuple #[.agg #[.int .i64 v3023, .int .i64 v3025, .int .i64 v3027], .bool true])))
          else (
            some (.v (.tuple #[.agg #[.int .i64 v3023, .int .i64 v3025, .int .i64 v3027], .bool ((o_ref06_Dot_1 F a6 a7 a8 a9 a10 a11))])))))
      else (
        none))
    else (
      none))
  else (
    none)
theorem e_ref07_Apply (F : Nat) (a0 : Int) (a1 : Int) (a2 : Int) (a3 : Int) (a4 : Int) (a5 : Int) (a6 : Int) (a7 : Int) (a8 : Int) (a9 : Int) (a10 : Int) (a11 : Int) : funL PP (S_ref07_Apply F) c_ref07_Apply (I_ref07_Apply F) (J_ref07_Apply F) 54 (fTs ti_ref07_Apply [.i a0, .i a1, .i a2, .i a3, .i a4, .i a5, .i a6, .i a7, .i a8, .i a9, .i a10, .i a11]).1 = f_ref07_Apply F a0 a1 a2 a3 a4 a5 a6 a7 a8 a9 a10 a11 := by
  have h : ∀ (ok_ref06_Dot : Nat → Int → Int → Int → Int → Int → Int → Bool) (o_ref06_Dot_0 : Nat → Int → Int → Int → Int → Int → Int → Int) (o_ref06_Dot_1 : Nat → Int → Int → Int → Int → Int → Int → Bool), funL PP (words [(48, spec ti_ref06_Dot to_ref06_Dot (fun q => (ok_ref06_Dot F (atI (nth q 0)) (atI (nth q 1)) (atI (nth q 2)) (atI (nth q 3)) (atI (nth q 4)) (atI (nth q 5)))) (fun q => [.i (o_ref06_Dot_0 F (atI (nth q 0)) (atI (nth q 1)) (atI (nth q 2)) (atI (nth q 3)) (atI (nth q 4)) (atI (nth q 5))), .b (o_ref06_Dot_1 F (atI (nth q 0)) (atI (nth q 1)) (atI (nth q 2)) (atI (nth q 3)) (atI (nth q 4)) (atI (nth q 5)))]))]) c_ref07_Apply (tabI c_ref07_Apply []) (tabJ []) 54 (fTs ti_ref07_Apply [.i a0, .i a1, .i a2, .i a3, .i a4, .i a5, .i a6, .i a7, .i a8, .i a9, .i a10, .i a11]).1 = (
  bif (ok_ref06_Dot F a0 a1 a2 a9 a10 a11) then (
    let v3023 : Int := (o_ref06_Dot_0 F a0 a1 a2 a9 a10 a11)
    bif (ok_ref06_Dot F a3 a4 a5 a9 a10 a11) then (
      let v3025 : Int := (o_ref06_Dot_0 F a3 a4 a5 a9 a10 a11)
      bif (ok_ref06_Dot F a6 a7 a8 a9 a10 a11) then (
        let v3027 : Int := (o_ref06_Dot_0 F a6 a7 a8 a9 a10 a11)
        bif ((o_ref06_Dot_1 F a0 a1 a2 a9 a10 a11)) then (
          some (.v (.tuple #[.agg #[.int .i64 v3023, .int .i64 v3025, .int .i64 v3027], .bool true])))
        else (
          bif ((o_ref06_Dot_1 F a3 a4 a5 a9 a10 a11)) then (
            some (.v (.tuple #[.agg #[.int .i64 v3023, .int .i64 v3025, .int .i64 v3027], .bool true])))
          else (
            some (.v (.tuple #[.agg #[.int .i64 v3023, .int .i64 v3025, .int .i64 v3027], .bool ((o_ref06_Dot_1 F a6 a7 a8 a9 a10 a11))])))))
      else (
        none))
    else (
      none))
  else (
    none) : R) := by
    intros
    kernel_rfl
  exact (h ok_ref06_Dot o_ref06_Dot_0 o_ref06_Dot_1).trans (by kernel_rfl)
def ok_ref07_Apply (F : Nat) (a0 : Int) (a1 : Int) (a2 : Int) (a3 : Int) (a4 : Int) (a5 : Int) (a6 : Int) (a7 : Int) (a8 : Int) (a9 : Int) (a10 : Int) (a11 : Int) : Bool := okT to_ref07_Apply (f_ref07_Apply F a0 a1 a2 a3 a4 a5 a6 a7 a8 a9 a10 a11)
def o_ref07_Apply_0 (F : Nat) (a0 : Int) (a1 : Int) (a2 : Int) (a3 : Int) (a4 : Int) (a5 : Int) (a6 : Int) (a7 : Int) (a8 : Int) (a9 : Int) (a10 : Int) (a11 : Int) : Int := atI (nth (outT to_ref07_Apply (f_ref07_Apply F a0 a1 a2 a3 a4 a5 a6 a7 a8 a9 a10 a11)) 0)
def o_ref07_Apply_1 (F : Nat) (a0 : Int) (a1 : Int) (a2 : Int) (a3 : Int) (a4 : Int) (a5 : Int) (a6 : Int) (a7 : Int) (a8 : Int) (a9 : Int) (a10 : Int) (a11 : Int) : Int := atI (nth (outT to_ref07_Apply (f_ref07_Apply F a0 a1 a2 a3 a4 a5 a6 a7 a8 a9 a10 a11)) 1)
def o_ref07_Apply_2 (F : Nat) (a0 : Int) (a1 : Int) (a2 : Int) (a3 : Int) (a4 : Int) (a5 : Int) (a6 : Int) (a7 : Int) (a8 : Int) (a9 : Int) (a10 : Int) (a11 : Int) : Int := atI (nth (outT to_ref07_Apply (f_ref07_Apply F a0 a1 a2 a3 a4 a5 a6 a7 a8 a9 a10 a11)) 2)
def o_ref07_Apply_3 (F : Nat) (a0 : Int) (a1 : Int) (a2 : Int) (a3 : Int) (a4 : Int) (a5 : Int) (a6 : Int) (a7 : Int) (a8 : Int) (a9 : Int) (a10 : Int) (a11 : Int) : Bool := atB (nth (outT to_ref07_Apply (f_ref07_Apply F a0 a1 a2 a3 a4 a5 a6 a7 a8 a9 a10 a11)) 3)
theorem k_ref07_Apply (F : Nat) (a0 : Int) (a1 : Int) (a2 : Int) (a3 : Int) (a4 : Int) (a5 : Int) (a6 : Int) (a7 : Int) (a8 : Int) (a9 : Int) (a10 : Int) (a11 : Int) {z0 : Int} {z1 : Int} {z2 : Int} {z3 : Bool} (h : f_ref07_Apply F a0 a1 a2 a3 a4 a5 a6 a7 a8 a9 a10 a11 = some (.v (.tuple #[.agg #[.int .i64 z0, .int .i64 z1, .int .i64 z2], .bool z3]))) : ok_ref07_Apply F a0 a1 a2 a3 a4 a5 a6 a7 a8 a9 a10 a11 = true ∧ o_ref07_Apply_0 F a0 a1 a2 a3 a4 a5 a6 a7 a8 a9 a10 a11 = z0 ∧ o_ref07_Apply_1 F a0 a1 a2 a3 a4 a5 a6 a7 a8 a9 a10 a11 = z1 ∧ o_ref07_Apply_2 F a0 a1 a2 a3 a4 a5 a6 a7 a8 a9 a10 a11 = z2 ∧ o_ref07_Apply_3 F a0 a1 a2 a3 a4 a5 a6 a7 a8 a9 a10 a11 = z3 := by
  refine ⟨?_, ?_, ?_, ?_, ?_⟩
  · unfold ok_ref07_Apply; rw [h]; kernel_rfl
  · unfold o_ref07_Apply_0; rw [h]; kernel_rfl
  · unfold o_ref07_Apply_1; rw [h]; kernel_rfl
  · unfold o_ref07_Apply_2; rw [h]; kernel_rfl
  · unfold o_ref07_Apply_3; rw [h]; kernel_rfl
def s_ref07_Apply (F : Nat) : List VV → Option (Bool × VV) := spec ti_ref07_Apply to_ref07_Apply (fun q => (ok_ref07_Apply F (atI (nth q 0)) (atI (nth q 1)) (atI (nth q 2)) (atI (nth q 3)) (atI (nth q 4)) (atI (nth q 5)) (atI (nth q 6)) (atI (nth q 7)) (atI (nth q 8)) (atI (nth q 9)) (atI (nth q 10)) (atI (nth q 11)))) (fun q => [.i (o_ref07_Apply_0 F (atI (nth q 0)) (atI (nth q 1)) (atI (nth q 2)) (atI (nth q 3)) (atI (nth q 4)) (atI (nth q 5)) (atI (nth q 6)) (atI (nth q 7)) (atI (nth q 8)) (atI (nth q 9)) (atI (nth q 10)) (atI (nth q 11))), .i (o_ref07_Apply_1 F (atI (nth q 0)) (atI (nth q 1)) (atI (nth q 2)) (atI (nth q 3)) (atI (nth q 4)) (atI (nth q 5)) (atI (nth q 6)) (atI (nth q 7)) (atI (nth q 8)) (atI (nth q 9)) (atI (nth q 10)) (atI (nth q 11))), .i (o_ref07_Apply_2 F (atI (nth q 0)) (atI (nth q 1)) (atI (nth q 2)) (atI (nth q 3)) (atI (nth q 4)) (atI (nth q 5)) (atI (nth q 6)) (atI (nth q 7)) (atI (nth q 8)) (atI (nth q 9)) (atI (nth q 10)) (atI (nth q 11))), .b (o_ref07_Apply_3 F (atI (nth q 0)) (atI (nth q 1)) (atI (nth q 2)) (atI (nth q 3)) (atI (nth q 4)) (atI (nth q 5)) (atI (nth q 6)) (atI (nth q 7)) (atI (nth q 8)) (atI (nth q 9)) (atI (nth q 10)) (atI (nth q 11)))])
theorem hS_ref07_Apply (F : Nat) : ∀ f, Good PP f (unS (S_ref07_Apply F f)) := words_good fun p hp => by
  simp only [List.mem_cons, List.not_mem_nil, or_false] at hp
  rcases hp with rfl
  · exact g_ref06_Dot F
theorem hl_ref07_Apply (F : Nat) : ∀ p ∈ loopsIn PP 54, LoopOK PP (S_ref07_Apply F) c_ref07_Apply F (I_ref07_Apply F) (J_ref07_Apply F) p :=
  loops_of [] (by kernel_rfl) all_nil
theorem hj_ref07_Apply (F : Nat) : ∀ p ∈ joinsIn PP c_ref07_Apply 54, JoinOK PP (S_ref07_Apply F) c_ref07_Apply (I_ref07_Apply F) (J_ref07_Apply F) p :=
  joins_of [] (by kernel_rfl) all_nil
theorem g_ref07_Apply (F : Nat) : Good PP 54 (unS (s_ref07_Apply F)) :=
  fun_spec (hS_ref07_Apply F) (by kernel_rfl) (by kernel_rfl) (C := c_ref07_Apply) (F := fun q => (f_ref07_Apply F (atI (nth q 0)) (atI (nth q 1)) (atI (nth q 2)) (atI (nth q 3)) (atI (nth q 4)) (atI (nth q 5)) (atI (nth q 6)) (atI (nth q 7)) (atI (nth q 8)) (atI (nth q 9)) (atI (nth q 10)) (atI (nth q 11)))) (fun _ => F) (fun _ => I_ref07_Apply F) (fun _ => J_ref07_Apply F) (fun _ => hl_ref07_Apply F) (fun _ => hj_ref07_Apply F)
    (fun q => (congrArg (funL PP (S_ref07_Apply F) c_ref07_Apply (I_ref07_Apply F) (J_ref07_Apply F) 54) (show (fTs ti_ref07_Apply q).1 = (fTs ti_ref07_Apply [.i (atI (nth q 0)), .i (atI (nth q 1)), .i (atI (nth q 2)), .i (atI (nth q 3)), .i (atI (nth q 4)), .i (atI (nth q 5)), .i (atI (nth q 6)), .i (atI (nth q 7)), .i (atI (nth q 8)), .i (atI (nth q 9)), .i (atI (nth q 10)), .i (atI (nth q 11))]).1 by kernel_rfl)).trans (e_ref07_Apply F (atI (nth q 0)) (atI (nth q 1)) (atI (nth q 2)) (atI (nth q 3)) (atI (nth q 4)) (atI (nth q 5)) (atI (nth q 6)) (atI (nth q 7)) (atI (nth q 8)) (atI (nth q 9)) (atI (nth q 10)) (atI (nth q 11))))
    (fun _ h => (okT_fill h).trans (congrArg some (by kernel_rfl)))

end Go.Xv
set_option linter.unusedVariables false
namespace Go.Xv
/- 52 _ref07_Mul -/
def c_ref07_Mul : Cfg := ⟨[0, 1, 2, 3, 4, 5, 6, 7, 8, 9, 10, 11, 12], [], [], []⟩
def ti_ref07_Mul : List TV := [.v (.agg [.int .i64, .int .i64, .int .i64, .int .i64, .int .i64, .int .i64, .int .i64, .int .i64, .int .i64]), .v (.agg [.int .i64, .int .i64, .int .i64, .int .i64, .int .i64, .int .i64, .int .i64, .int .i64, .int .i64])]
def to_ref07_Mul : TV := .v (.tup [.agg [.int .i64, .int .i64, .int .i64, .int .i64, .int .i64, .int .i64, .int .i64, .int .i64, .int .i64], .bool])
def S_ref07_Mul (F : Nat) : FuncId → List VV → Option (Bool × VV) := words [(56, s_ref07_Back F), (54, s_ref07_Apply F)]
def W_ref07_Mul (F : Nat) : List LW := []
def I_ref07_Mul (F : Nat) : Nat → VS → (Exit → VS → R) → R := tabI c_ref07_Mul (W_ref07_Mul F)
def WJ_ref07_Mul (F : Nat) : List LJ := []
def J_ref07_Mul (F : Nat) : Nat → Nat → VS → (Exit → VS → R) → R := tabJ (WJ_ref07_Mul F)
def f_ref07_Mul (F : Nat) (a0 : Int) (a1 : Int) (a2 : Int) (a3 : Int) (a4 : Int) (a5 : Int) (a6 : Int) (a7 : Int) (a8 : Int) (a9 : Int) (a10 : Int) (a11 : Int) (a12 : Int) (a13 : Int) (a14 : Int) (a15 : Int) (a16 : Int) (a17 : Int) : R :=
  bif (ok_ref07_Back F a9 a10 a11 a12 a13 a14 a15 a16 a17) then (
    let v3014 : Int := (o_ref07_Back_0 F a9 a10 a11 a12 a13 a14 a15 a16 a17)
    let v3015 : Int := (o_ref07_Back_1 F a9 a10 a11 a12 a13 a14 a15 a16 a17)
    let v3016 : Int := (o_ref07_Back_2 F a9 a10 a11 a12 a13 a14 a15 a16 a17)
    let v3017 : Int := (o_ref07_Back_3 F a9 a10 a11 a12 a13 a14 a15 a16 a17)
    let v3018 : Int := (o_ref07_Back_4 F a9 a10 a11 a12 a13 a14 a15 a16 a17)
    let v3019 : Int := (o_ref07_Back_5 F a9 a10 a11 a12 a13 a14 a15 a16 a17)
    let v3020 : Int := (o_ref07_Back_6 F a9 a10 a11 a12 a13 a14 a15 a16 a17)
    let v3021 : Int := (o_ref07_Back_7 F a9 a10 a11 a12 a13 a14 a15 a16 a17)
    let v3022 : Int := (o_ref07_Back_8 F a9 a10 a11 a12 a13 a14 a15 a16 a17)
    bif (ok_ref07_Apply F a0 a1 a2 a3 a4 a5 a6 a7 a8 v3014 v3015 v3016) then (
      let v3029 : Int := (o_ref07_Apply_0 F a0 a1 a2 a3 a4 a5 a6 a7 a8 v3014 v3015 v3016)
      let v3030 : Int := (o_ref07_Apply_1 F a0 a1 a2 a3 a4 a5 a6 a7 a8 v3014 v3015 v3016)
      let v3031 : Int := (o_ref07_Apply_2 F a0 a1 a2 a3 a4 a5 a6 a7 a8 v3014 v3015 v3016)
      bif (ok_ref07_Apply F a0 a1 a2 a3 a4 a5 a6 a7 a8 v3017 v3018 v3019) then (
        let v3033 : Int := (o_ref07_Apply_0 F a0 a1 a2 a3 a4 a5 a6 a7 a8 v3017 v3018 v3019)
        let v3034 : Int := (o_ref07_Apply_1 F a0 a1 a2 a3 a4 a5 a6 a7 a8 v3017 v3018 v3019)
        let v3035 : Int := (o_ref07_Apply_2 F a0 a1 a2 a3 a4 a5 a6 a7 a8 v3017 v3018 v3019)
        bif (ok_ref07_Apply F a0 a1 a2 a3 a4 a5 a6 a7 a8 v3020 v3021 v3022) then (
          let v3037 : Int := (o_ref07_Apply_0 F a0 a1 a2 a3 a4 a5 a6 a7 a8 v3020 v3021 v3022)
          let v3038 : Int := (o_ref07_Apply_1 F a0 a1 a2 a3 a4 a5 a6 a7 a8 v3020 v3021 v3022)
          let v3039 : Int := (o_ref07_Apply_2 F a0 a1 a2 a3 a4 a5 a6 a7 a8 v3020 v3021 v3022)
          bif (ok_ref07_Back F v3029 v3030 v3031 v3033 v3034 v3035 v3037 v3038 v3039) then (
            let v3041 : Int := (o_ref07_Back_0 F v3029 v3030 v3031 v3033 v3034 v3035 v3037 v3038 v3039)
            let v3042 : Int := (o_ref07_Back_1 F v3029 v3030 v3031 v3033 v3034 v3035 v3037 v3038 v3039)
            let v3043 : Int := (o_ref07_Back_2 F v3029 v3030 v3031 v3033 v3034 v3035 v3037 v3038 v3039)
            let v3044 : Int := (o_ref07_Back_3 F v3029 v3030 v3031 v3033 v3034 v3035 v3037 v3038 v3039)
            let v3045 : Int := (o_ref07_Back_4 F v3029 v3030 v3031 v3033 v3034 v3035 v3037 v3038 v3039)
            let v3046 : Int := (o_ref07_Back_5 F v3029 v3030 v3031 v3033 v3034 v3035 v3037 v3038 v3039)
            let v3047 : Int := (o_ref07_Back_6 F v3029 v3030 v3031 v3033 v3034 v3035 v3037 v3038 v3039)
            let v3048 : Int := (o_ref07_Back_7 F v3029 v3030 v3031 v3033 v3034 v3035 v3037 v3038 v3039)
            let v3049 : Int := (o_ref07_Back_8 F v3029 v3030 v3031 v3033 v3034 v3035 v3037 v3038 v3039)
            bif ((o_ref07_Apply_3 F a0 a1 a2 a3 a4 a5 a6 a7 a8 v3014 v3015 v3016)) then (
              some (.v (.tuple #[.agg #[.int .i64 v3041, .int .i64 v3042, .int .i64 v3043, .int .i64 v3044, .int .i64 v3045, .int .i64 v3046, .int .i64 v3047, .int .i64 v3048, .int .i64 v3049], .bool true])))
            else (
              bif ((o_ref07_Apply_3 F a0 a1 a2 a3 a4 a5 a6 a7 a8 v3017 v3018 v3019)) then (
                some (.v (.tuple #[.agg #[.int .i64 v3041, .int .i64 v3042, .int .i64 v3043, .int .i64 v3044, .int .i64 v3045, .int .i64 v3046, .int .i64 v3047, .int .i64 v3048, .int .i64 v3049], .bool true])))
              else (
                some (.v (.tuple #[.agg #[.int .i64 v3041, .int .i64 v3042, .int .i64 v3043, .int .i64 v3044, .int .i64 v3045, .int .i64 v3046, .int .i64 v3047, .int .i64 v3048, .int .i64 v3049], .bool ((o_ref07_Apply_3 F a0 a1 a2 a3 a4 a5 a6 a7 a8 v3020 v3021 v3022))])))))
          else (
            none))
        else (
          none))
      else (
        none))
    else (
      none))
  else (
    none)
theorem e_ref07_Mul (F : Nat) (a0 : Int) (a1 : Int) (a2 : Int) (a3 : Int) (a4 : Int) (a5 : Int) (a6 : Int) (a7 : Int) (a8 : Int) (a9 : Int) (a10 : Int) (a11 : Int) (a12 : Int) (a13 : Int) (a14 : Int) (a15 : Int) (a16 : Int) (a17 : Int) : funL PP (S_ref07_Mul F) c_ref07_Mul (I_ref07_Mul F) (J_ref07_Mul F) 52 (fTs ti_ref07_Mul [.i a0, .i a1, .i a2, .i a3, .i a4, .i a5, .i a6, .i a7, .i a8, .i a9, .i a10, .i a11, .i a12, .i a13, .i a14, .i a15, .i a16, .i a17]).1 = f_ref07_Mul F a0 a1 a2 a3 a4 a5 a6 a7 a8 a9 a10 a11 a12 a13 a14 a15 a16 a17 := by
  have h : ∀ (ok_ref07_Back : Nat → Int → Int → Int → Int → Int → Int → Int → Int → Int → Bool) (o_ref07_Back_0 : Nat → Int → Int → Int → Int → Int → Int → Int → Int → Int → Int) (o_ref07_Back_1 : Nat → Int → Int → Int → Int → Int → Int → Int → Int → Int → Int) (o_ref07_Back_2 : Nat → Int → Int → Int → Int → Int → Int → Int → Int → Int → Int) (o_ref07_Back_3 : Nat → Int → Int → Int → Int → Int → Int → Int → Int → Int → Int) (o_ref07_Back_4 : Nat → Int → Int → Int → Int → Int → Int → Int → Int → Int → Int) (o_ref07_Back_5 : Nat → Int → Int → Int → Int → Int → Int → Int → Int → Int → Int) (o_ref07_Back_6 : Nat → Int → Int → Int → Int → Int → Int → Int → Int → Int → Int) (o_ref07_Back_7 : Nat → Int → Int → Int → Int → Int → Int → Int → Int → Int → Int) (o_ref07_Back_8 : Nat → Int → Int → Int → Int → Int → Int → Int → Int → Int → Int) (ok_ref07_Apply : Nat → Int → Int → Int → Int → Int → Int → Int → Int → Int → Int → Int → Int → Bool) (o_ref07_Apply_0 : Nat → Int → Int → Int → Int → Int → Int → Int → Int → Int → Int → Int → Int → Int) (o_ref07_Apply_1 : Nat → Int → Int → Int → Int → Int → Int → Int → Int → Int → Int → Int → Int → Int) (o_ref07_Apply_2 : Nat → Int → Int → Int → Int → Int → Int → Int → Int → Int → Int → Int → Int → Int) (o_ref07_Apply_3 : Nat → Int → Int → Int → Int → Int → Int → Int → Int → Int → Int → Int → Int → Bool), funL PP (words [(56, spec ti_ref07_Back to_ref07_Back (fun q => (ok_ref07_Back F (atI (nth q 0)) (atI (nth q 1)) (atI (nth q 2)) (atI (nth q 3)) (atI (nth q 4)) (atI (nth q 5)) (atI (nth q 6)) (atI (nth q 7)) (atI (nth q 8)))) (fun q => [.i (o_ref07_Back_0 F (atI (nth q 0)) (atI (nth q 1)) (atI (nth q 2)) (atI (nth q 3)) (atI (nth q 4)) (atI (nth q 5)) (atI (nth q 6)) (atI (nth q 7)) (atI (nth q 8))), .i (o_ref07_Back_1 F (atI (nth q 0)) (atI (nth q 1)) (atI (nth q 2)) (atI (nth q 3)) (atI (nth q 4)) (atI (nth q 5)) (atI (nth q 6)) (atI (nth q 7)) (atI (nth q 8))), .i (o_ref07_Back_2 F (atI (nth q 0)) (atI (nth q 1)) (atI (nth q 2)) (atI (nth q 3)) (atI (nth q 4)) (atI (nth q 5)) (atI (nth q 6)) (atI (nth q 7)) (atI (nth q 8))), .i (o_ref07_Back_3 F (atI (nth q 0)) (atI (nth q 1)) (atI (nth q 2)) (atI (nth q 3)) (atI (nth q 4)) (atI (nth q 5)) (atI (nth q 6)) (atI (nth q 7)) (atI (nth q 8))), .i (o_ref07_Back_4 F (atI (nth q 0)) (atI (nth q 1)) (atI (nth q 2)) (atI (nth q 3)) (atI (nth q 4)) (atI (nth q 5)) (atI (nth q 6)) (atI (nth q 7)) (atI (nth q 8))), .i (o_ref07_Back_5 F (atI (nth q 0)) (atI (nth q 1)) (atI (nth q 2)) (atI (nth q 3)) (atI (nth q 4)) (atI (nth q 5)) (atI (nth q 6)) (atI (nth q 7)) (atI (nth q 8))), .i (o_ref07_Back_6 F (atI (nth q 0)) (atI (nth q 1)) (atI (nth q 2)) (atI (nth q 3)) (atI (nth q 4)) (atI (nth q 5)) (atI (nth q 6)) (atI (nth q 7)) (atI (nth q 8))), .i (o_ref07_Back_7 F (atI (nth q 0)) (atI (nth q 1)) (atI (nth q 2)) (atI (nth q 3)) (atI (nth q 4)) (atI (nth q 5)) (atI (nth q 6)) (atI (nth q 7)) (atI (nth q 8))), .i (o_ref07_Back_8 F (atI (nth q 0)) (atI (nth q 1)) (atI (nth q 2)) (atI (nth q 3)) (atI (nth q 4)) (atI (nth q 5)) (atI (nth q 6)) (atI (nth q 7)) (atI (nth q 8)))])), (54, spec ti_ref07_Apply to_ref07_Apply (fun q => (ok_ref07_Apply F (atI (nth q 0)) (atI (nth q 1)) (atI (nth q 2)) (atI (nth q 3)) (atI (nth q 4)) (atI (nth q 5)) (atI (nth q 6)) (atI (nth q 7)) (atI (nth q 8)) (atI (nth q 9)) (atI (nth q 10)) (atI (nth q 11)))) (fun q => [.i (o_ref07_Apply_0 F (atI (nth q 0)) (atI (nth q 1)) (atI (nth q 2)) (atI (nth q 3)) (atI (nth q 4)) (atI (nth q 5)) (atI (nth q 6)) (atI (nth q 7)) (atI (nth q 8)) (atI (nth q 9)) (atI (nth q 10)) (atI (nth q 11))), .i (o_ref07_Apply_1 F (atI (nth q 0)) (atI (nth q 1)) (atI (nth q 2)) (atI (nth q 3)) (atI (nth q 4)) (atI (nth q 5)) (atI (nth q 6)) (atI (nth q 7)) (atI (nth q 8)) (atI (nth q 9)) (atI (nth q 10)) (atI (nth q 11))), .i (o_ref07_Apply_2 F (atI (nth q 0)) (atI (nth q 1)) (atI (nth q 2)) (atI (nth q 3)) (atI (nth q 4)) (atI (nth q 5)) (atI (nth q 6)) (atI (nth q 7)) (atI (nth q 8)) (atI (nth q 9)) (atI (nth q 10)) (atI (nth q 11))), .b (o_ref07_Apply_3 F (atI (nth q 0)) (atI (nth q 1)) (atI (nth q 2)) (atI (nth q 3)) (atI (nth q 4)) (atI (nth q 5)) (atI (nth q 6)) (atI (nth q 7)) (atI (nth q 8)) (atI (nth q 9)) (atI (nth q 10)) (atI (nth q 11)))]))]) c_ref07_Mul (tabI c_ref07_Mul []) (tabJ []) 52 (fTs ti_ref07_Mul [.i a0, .i a1, .i a2, .i a3, .i a4, .i a5, .i a6, .i a7, .i a8, .i a9, .i a10, .i a11, .i a12, .i a13, .i a14, .i a15, .i a16, .i a17]).1 = (
  bif (ok_ref07_Back F a9 a10 a11 a12 a13 a14 a15 a16 a17) then (
    let v3014 : Int := (o_ref07_Back_0 F a9 a10 a11 a12 a13 a14 a15 a16 a17)
    let v3015 : Int := (o_ref07_Back_1 F a9 a10 a11 a12 a13 a14 a15 a16 a17)
    let v3016 : Int := (o_ref07_Back_2 F a9 a10 a11 a12 a13 a14 a15 a16 a17)
    let v3017 : Int := (o_ref07_Back_3 F a9 a10 a11 a12 a13 a14 a15 a16 a17)
    let v3018 : Int := (o_ref07_Back_4 F a9 a10 a11 a12 a13 a14 a15 a16 a17)
    let v3019 : Int := (o_ref07_Back_5 F a9 a10 a11 a12 a13 a14 a15 a16 a17)
    let v3020 : Int := (o_ref07_Back_6 F a9 a10 a11 a12 a13 a14 a15 a16 a17)
    let v3021 : Int := (o_ref07_Back_7 F a9 a10 a11 a12 a13 a14 a15 a16 a17)
    let v3022 : Int := (o_ref07_Back_8 F a9 a10 a11 a12 a13 a14 a15 a16 a17)
    bif (ok_ref07_Apply F a0 a1 a2 a3 a4 a5 a6 a7 a8 v3014 v3015 v3016) then (
      let v3029 : Int := (o_ref07_Apply_0 F a0 a1 a2 a3 a4 a5 a6 a7 a8 v3014 v3015 v3016)
      let v3030 : Int := (o_ref07_Apply_1 F a0 a1 a2 a3 a4 a5 a6 a7 a8 v3014 v3015 v3016)
      let v3031 : Int := (o_ref07_Apply_2 F a0 a1 a2 a3 a4 a5 a6 a7 a8 v3014 v3015 v3016)
      bif (ok_ref07_Apply F a0 a1 a2 a3 a4 a5 a6 a7 a8 v3017 v3018 v3019) then (
        let v3033 : Int := (o_ref07_Apply_0 F a0 a1 a2 a3 a4 a5 a6 a7 a8 v3017 v3018 v3019)
        let v3034 : Int := (o_ref07_Apply_1 F a0 a1 a2 a3 a4 a5 a6 a7 a8 v3017 v3018 v3019)
        let v3035 : Int := (o_ref07_Apply_2 F a0 a1 a2 a3 a4 a5 a6 a7 a8 v3017 v3018 v3019)
        bif (ok_ref07_Apply F a0 a1 a2 a3 a4 a5 a6 a7 a8 v3020 v3021 v3022) then (
          let v3037 : Int := (o_ref07_Apply_0 F a0 a1 a2 a3 a4 a5 a6 a7 a8 v3020 v3021 v3022)
          let v3038 : Int := (o_ref07_Apply_1 F a0 a1 a2 a3 a4 a5 a6 a7 a8 v3020 v3021 v3022)
          let v3039 : Int := (o_ref07_Apply_2 F a0 a1 a2 a3 a4 a5 a6 a7 a8 v3020 v3021 v3022)
          bif (ok_ref07_Back F v3029 v3030 v3031 v3033 v3034 v3035 v3037 v3038 v3039) then (
            let v3041 : Int := (o_ref07_Back_0 F v3029 v3030 v3031 v3033 v3034 v3035 v3037 v3038 v3039)
            let v3042 : Int := (o_ref07_Back_1 F v3029 v3030 v3031 v3033 v3034 v3035 v3037 v3038 v3039)
            let v3043 : Int := (o_ref07_Back_2 F v3029 v3030 v3031 v3033 v3034 v3035 v3037 v3038 v3039)
            let v3044 : Int := (o_ref07_Back_3 F v3029 v3030 v3031 v3033 v3034 v3035 v3037 v3038 v3039)
            let v3045 : Int := (o_ref07_Back_4 F v3029 v3030 v3031 v3033 v3034 v3035 v3037 v3038 v3039)
            let v3046 : Int := (o_ref07_Back_5 F v3029 v3030 v3031 v3033 v3034 v3035 v3037 v3038 v3039)
            let v3047 : Int := (o_ref07_Back_6 F v3029 v3030 v3031 v3033 v3034 v3035 v3037 v3038 v3039)
            let v3048 : Int := (o_ref07_Back_7 F v3029 v3030 v3031 v3033 v3034 v3035 v3037 v3038 v3039)
            let v3049 : Int := (o_ref07_Back_8 F v3029 v3030 v3031 v3033 v3034 v3035 v3037 v3038 v3039)
            bif ((o_ref07_Apply_3 F a0 a1 a2 a3 a4 a5 a6 a7 a8 v3014 v3015 v3016)) then (
              some (.v (.tuple #[.agg #[.int .i64 v3041, .int .i64 v3042, .int .i64 v3043, .int .i64 v3044, .int .i64 v3045, .int .i64 v3046, .int .i64 v3047, .int .i64 v3048, .int .i64 v3049], .bool true])))
            else (
              bif ((o_ref07_Apply_3 F a0 a1 a2 a3 a4 a5 a6 a7 a8 v3017 v3018 v3019)) then (
                some (.v (.tuple #[.agg #[.int .i64 v3041, .int .i64 v3042, .int .i64 v3043, .int .i64 v3044, .int .i64 v3045, .int .i64 v3046, .int .i64 v3047, .int .i64 v3048, .int .i64 v3049], .bool true])))
              else (
                some (.v (.tuple #[.agg #[.int .i64 v3041, .int .i64 v3042, .int .i64 v3043, .int .i64 v3044, .int .i64 v3045, .int .i64 v3046, .int .i64 v3047, .int .i64 v3048, .int .i64 v3049], .bool ((o_ref07_Apply_3 F a0 a1 a2 a3 a4 a5 a6 a7 a8 v3020 v3021 v3022))])))))
          else (
            none))
        else (
          none))
      else (
        none))
    else (
      none))
  else (
    none) : R) := by
    intros
    kernel_rfl
  exact (h ok_ref07_Back o_ref07_Back_0 o_ref07_Back_1 o_ref07_Back_2 o_ref07_Back_3 o_ref07_Back_4 o_ref07_Back_5 o_ref07_Back_6 o_ref07_Back_7 o_ref07_Back_8 ok_ref07_Apply o_ref07_Apply_0 o_ref07_Apply_1 o_ref07_Apply_2 o_ref07_Apply_3).trans (by kernel_rfl)
def ok_ref07_Mul (F : Nat) (a0 : Int) (a1 : Int) (a2 : Int) (a3 : Int) (a4 : Int) (a5 : Int) (a6 : Int) (a7 : Int) (a8 : Int) (a9 : Int) (a10 : Int) (a11 : Int) (a12 : Int) (a13 : Int) (a14 : Int) (a15 : Int) (a16 : Int) (a17 : Int) : Bool := okT to_ref07_Mul (f_ref07_Mul F a0 a1 a2 a3 a4 a5 a6 a7 a8 a9 a10 a11 a12 a13 a14 a15 a16 a17)
def o_ref07_Mul_0 (F : Nat) (a0 : Int) (a1 : Int) (a2 : Int) (a3 : Int) (a4 : Int) (a5 : Int) (a6 : Int) (a7 : Int) (a8 : Int) (a9 : Int) (a10 : Int) (a11 : Int) (a12 : Int) (a13 : Int) (a14 : Int) (a15 : Int) (a16 : Int) (a17 : Int) : Int := atI (nth (outT to_ref07_Mul (f_ref07_Mul F a0 a1 a2 a3 a4 a5 a6 a7 a8 a9 a10 a11 a12 a13 a14 a15 a16 a17)) 0)
def o_ref07_Mul_1 (F : Nat) (a0 : Int) (a1 : Int) (a2 : Int) (a3 : Int) (a4 : Int) (a5 : Int) (a6 : Int) (a7 : Int) (a8 : Int) (a9 : Int) (a10 : Int) (a11 : Int) (a12 : Int) (a13 : Int) (a14 : Int) (a15 : Int) (a16 : Int) (a17 : Int) : Int := atI (nth (outT to_ref07_Mul (f_ref07_Mul F a0 a1 a2 a3 a4 a5 a6 a7 a8 a9 a10 a11 a12 a13 a14 a15 a16 a17)) 1)
def o_ref07_Mul_2 (F : Nat) (a0 : Int) (a1 : Int) (a2 : Int) (a3 : Int) (a4 : Int) (a5 : Int) (a6 : Int) (a7 : Int) (a8 : Int) (a9 : Int) (a10 : Int) (a11 : Int) (a12 : Int) (a13 : Int) (a14 : Int) (a15 : Int) (a16 : Int) (a17 : Int) : Int := atI (nth (outT to_ref07_Mul (f_ref07_Mul F a0 a1 a2 a3 a4 a5 a6 a7 a8 a9 a10 a11 a12 a13 a14 a15 a16 a17)) 2)
def o_ref07_Mul_3 (F : Nat) (a0 : Int) (a1 : Int) (a2 : Int) (a3 : Int) (a4 : Int) (a5 : Int) (a6 : Int) (a7 : Int) (a8 : Int) (a9 : Int) (a10 : Int) (a11 : Int) (a12 : Int) (a13 : Int) (a14 : Int) (a15 : Int) (a16 : Int) (a17 : Int) : Int := atI (nth (outT to_ref07_Mul (f_ref07_Mul F a0 a1 a2 a3 a4 a5 a6 a7 a8 a9 a10 a11 a12 a13 a14 a15 a16 a17)) 3)
def o_ref07_Mul_4 (F : Nat) (a0 : Int) (a1 : Int) (a2 : Int) (a3 : Int) (a4 : Int) (a5 : Int) (a6 : Int) (a7 : Int) (a8 : Int) (a9 : Int) (a10 : Int) (a11 : Int) (a12 : Int) (a13 : Int) (a14 : Int) (a15 : Int) (a16 : Int) (a17 : Int) : Int := atI (nth (outT to_ref07_Mul (f_ref07_Mul F a0 a1 a2 a3 a4 a5 a6 a7 a8 a9 a10 a11 a12 a13 a14 a15 a16 a17)) 4)
def o_ref07_Mul_5 (F : Nat) (a0 : Int) (a1 : Int) (a2 : Int) (a3 : Int) (a4 : Int) (a5 : Int) (a6 : Int) (a7 : Int) (a8 : Int) (a9 : Int) (a10 : Int) (a11 : Int) (a12 : Int) (a13 : Int) (a14 : Int) (a15 : Int) (a16 : Int) (a17 : Int) : Int := atI (nth (outT to_ref07_Mul (f_ref07_Mul F a0 a1 a2 a3 a4 a5 a6 a7 a8 a9 a10 a11 a12 a13 a14 a15 a16 a17)) 5)
def o_ref07_Mul_6 (F : Nat) (a0 : Int) (a1 : Int) (a2 : Int) (a3 : Int) (a4 : Int) (a5 : Int) (a6 : Int) (a7 : Int) (a8 : Int) (a9 : Int) (a10 : Int) (a11 : Int) (a12 : Int) (a13 : Int) (a14 : Int) (a15 : Int) (a16 : Int) (a17 : Int) : Int := atI (nth (outT to_ref07_Mul (f_ref07_Mul F a0 a1 a2 a3 a4 a5 a6 a7 a8 a9 a10 a11 a12 a13 a14 a15 a16 a17)) 6)
def o_ref07_Mul_7 (F : Nat) (a0 : Int) (a1 : Int) (a2 : Int) (a3 : Int) (a4 : Int) (a5 : Int) (a6 : Int) (a7 : Int) (a8 : Int) (a9 : Int) (a10 : Int) (a11 : Int) (a12 : Int) (a13 : Int) (a14 : Int) (a15 : Int) (a16 : Int) (a17 : Int) : Int := atI (nth (outT to_ref07_Mul (f_ref07_Mul F a0 a1 a2 a3 a4 a5 a6 a7 a8 a9 a10 a11 a12 a13 a14 a15 a16 a17)) 7)
def o_ref07_Mul_8 (F : Nat) (a0 : Int) (a1 : Int) (a2 : Int) (a3 : Int) (a4 : Int) (a5 : Int) (a6 : Int) (a7 : Int) (a8 : Int) (a9 : Int) (a10 : Int) (a11 : Int) (a12 : Int) (a13 : Int) (a14 : Int) (a15 : Int) (a16 : Int) (a17 : Int) : Int := atI (nth (outT to_ref07_Mul (f_ref07_Mul F a0 a1 a2 a3 a4 a5 a6 a7 a8 a9 a10 a11 a12 a13 a14 a15 a16 a17)) 8)
def o_ref07_Mul_9 (F : Nat) (a0 : Int) (a1 : Int) (a2 : Int) (a3 : Int) (a4 : Int) (a5 : Int) (a6 : Int) (a7 : Int) (a8 : Int) (a9 : Int) (a10 : Int) (a11 : Int) (a12 : Int) (a13 : Int) (a14 : Int) (a15 : Int) (a16 : Int) (a17 : Int) : Bool := atB (nth (outT to_ref07_Mul (f_ref07_Mul F a0 a1 a2 a3 a4 a5 a6 a7 a8 a9 a10 a11 a12 a13 a14 a15 a16 a17)) 9)
theorem k_ref07_Mul (F : Nat) (a0 : Int) (a1 : Int) (a2 : Int) (a3 : Int) (a4 : Int) (a5 : Int) (a6 : Int) (a7 : Int) (a8 : Int) (a9 : Int) (a10 : Int) (a11 : Int) (a12 : Int) (a13 : Int) (a14 : Int) (a15 : Int) (a16 : Int) (a17 : Int) {z0 : Int} {z1 : Int} {z2 : Int} {z3 : Int} {z4 : Int} {z5 : Int} {z6 : Int} {z7 : Int} {z8 : Int} {z9 : Bool} (h : f_ref07_Mul F a0 a1 a2 a3 a4 a5 a6 a7 a8 a9 a10 a11 a12 a13 a14 a15 a16 a17 = some (.v (.tuple #[.agg #[.int .i64 z0, .int .i64 z1, .int .i64 z2, .int .i64 z3, .int .i64 z4, .int .i64 z5, .int .i64 z6, .int .i64 z7, .int .i64 z8], .bool z9]))) : ok_ref07_Mul F a0 a1 a2 a3 a4 a5 a6 a7 a8 a9 a10 a11 a12 a13 a14 a15 a16 a17 = true ∧ o_ref07_Mul_0 F a0 a1 a2 a3 a4 a5 a6 a7 a8 a9 a10 a11 a12 a13 a14 a15 a16 a17 = z0 ∧ o_ref07_Mul_1 F a0 a1 a2 a3 a4 a5 a6 a7 a8 a9 a10 a11 a12 a13 a14 a15 a16 a17 = z1 ∧ o_ref07_Mul_2 F a0 a1 a2 a3 a4 a5 a6 a7 a8 a9 a10 a11 a12 a13 a14 a15 a16 a17 = z2 ∧ o_ref07_Mul_3 F a0 a1 a2 a3 a4 a5 a6 a7 a8 a9 a10 a11 a12 a13 a14 a15 a16 a17 = z3 ∧ o_ref07_Mul_4 F a0 a1 a2 a3 a4 a5 a6 a7 a8 a9 a10 a11 a12 a13 a14 a15 a16 a17 = z4 ∧ o_ref07_Mul_5 F a0 a1 a2 a3 a4 a5 a6 a7 a8 a9 a10 a11 a12 a13 a14 a15 a16 a17 = z5 ∧ o_ref07_Mul_6 F a0 a1 a2 a3 a4 a5 a6 a7 a8 a9 a10 a11 a12 a13 a14 a15 a16 a17 = z6 ∧ o_ref07_Mul_7 F a0 a1 a2 a3 a4 a5 a6 a7 a8 a9 a10 a11 a12 a13 a14 a15 a16 a17 = z7 ∧ o_ref07_Mul_8 F a0 a1 a2 a3 a4 a5 a6 a7 a8 a9 a10 a11 a12 a13 a14 a15 a16 a17 = z8 ∧ o_ref07_Mul_9 F a0 a1 a2 a3 a4 a5 a6 a7 a8 a9 a10 a11 a12 a13 a14 a15 a16 a17 = z9 := by
  refine ⟨?_, ?_, ?_, ?_, ?_, ?_, ?_, ?_, ?_, ?_, ?_⟩
  · unfold ok_ref07_Mul; rw [h]; kernel_rfl
  · unfold o_ref07_Mul_0; rw [h]; kernel_rfl
  · unfold o_ref07_Mul_1; rw [h]; kernel_rfl
  · unfold o_ref07_Mul_2; rw [h]; kernel_rfl
  · unfold o_ref07_Mul_3; rw [h]; kernel_rfl
  · unfold o_ref07_Mul_4; rw [h]; kernel_rfl
  · unfold o_ref07_Mul_5; rw [h]; kernel_rfl
  · unfold o_ref07_Mul_6; rw [h]; kernel_rfl
  · unfold o_ref07_Mul_7; rw [h]; kernel_rfl
  · unfold o_ref07_Mul_8; rw [h]; kernel_rfl
  · unfold o_ref07_Mul_9; rw [h]; kernel_rfl
def s_ref07_Mul (F : Nat) : List VV → Option (Bool × VV) := spec ti_ref07_Mul to_ref07_Mul (fun q => (ok_ref07_Mul F (atI (nth q 0)) (atI (nth q 1)) (atI (nth q 2)) (atI (nth q 3)) (atI (nth q 4)) (atI (nth q 5)) (atI (nth q 6)) (atI (nth q 7)) (atI (nth q 8)) (atI (nth q 9)) (atI (nth q 10)) (atI (nth q 11)) (atI (nth q 12)) (atI (nth q 13)) (atI (nth q 14)) (atI (nth q 15)) (atI (nth q 16)) (atI (nth q 17)))) (fun q => [.i (o_ref07_Mul_0 F (atI (nth q 0)) (atI (nth q 1)) (atI (nth q 2)) (atI (nth q 3)) (atI (nth q 4)) (atI (nth q 5)) (atI (nth q 6)) (atI (nth q 7)) (atI (nth q 8)) (atI (nth q 9)) (atI (nth q 10)) (atI (nth q 11)) (atI (nth q 12)) (atI (nth q 13)) (atI (nth q 14)) (atI (nth q 15)) (atI (nth q 16)) (atI (nth q 17))), .i (o_ref07_Mul_1 F (atI (nth q 0)) (atI (nth q 1)) (atI (nth q 2)) (atI (nth q 3)) (atI (nth q 4)) (atI (nth q 5)) (atI (nth q 6)) (atI (nth q 7)) (atI (nth q 8)) (atI (nth q 9)) (atI (nth q 10)) (atI (nth q 11)) (atI (nth q 12)) (atI (nth q 13)) (atI (nth q 14)) (atI (nth q 15)) (atI (nth q 16)) (atI (nth q 17))), .i (o_ref07_Mul_2 F (atI (nth q 0)) (atI (nth q 1)) (atI (nth q 2)) (atI (nth q 3)) (atI (nth q 4)) (atI (nth q 5)) (atI (nth q 6)) (atI (nth q 7)) (atI (nth q 8)) (atI (nth q 9)) (atI (nth q 10)) (atI (nth q 11)) (atI (nth q 12)) (atI (nth q 13)) (atI (nth q 14)) (atI (nth q 15)) (atI (nth q 16)) (atI (nth q 17))), .i (o_ref07_Mul_3 F (atI (nth q 0)) (atI (nth q 1)) (atI (nth q 2)) (atI (nth q 3)) (atI (nth q 4)) (atI (nth q 5)) (atI (nth q 6)) (atI (nth q 7)) (atI (nth q 8)) (atI (nth q 9)) (atI (nth q 10)) (atI (nth q 11)) (atI (nth q 12)) (atI (nth q 13)) (atI (nth q 14)) (atI (nth q 15)) (atI (nth q 16)) (atI (nth q 17))), .i (o_ref07_Mul_4 F (atI (nth q 0)) (atI (nth q 1)) (atI (nth q 2)) (atI (nth q 3)) (atI (nth q 4)) (atI (nth q 5)) (atI (nth q 6)) (atI (nth q 7)) (atI (nth q 8)) (atI (nth q 9)) (atI (nth q 10)) (atI (nth q 11)) (atI (nth q 12)) (atI (nth q 13)) (atI (nth q 14)) (atI (nth q 15)) (atI (nth q 16)) (atI (nth q 17))), .i (o_ref07_Mul_5 F (atI (nth q 0)) (atI (nth q 1)) (atI (nth q 2)) (atI (nth q 3)) (atI (nth q 4)) (atI (nth q 5)) (atI (nth q 6)) (atI (nth q 7)) (atI (nth q 8)) (atI (nth q 9)) (atI (nth q 10)) (atI (nth q 11)) (atI (nth q 12)) (atI (nth q 13)) (atI (nth q 14)) (atI (nth q 15)) (atI (nth q 16)) (atI (nth q 17))), .i (o_ref07_Mul_6 F (atI (nth q 0)) (atI (nth q 1)) (atI (nth q 2)) (atI (nth q 3)) (atI (nth q 4)) (atI (nth q 5)) (atI (nth q 6)) (atI (nth q 7)) (atI (nth q 8)) (atI (nth q 9)) (atI (nth q 10)) (atI (nth q 11)) (atI (nth q 12)) (atI (nth q 13)) (atI (nth q 14)) (atI (nth q 15)) (atI (nth q 16)) (atI (nth q 17))), .i (o_ref07_Mul_7 F (atI (nth q 0)) (atI (nth q 1)) (atI (nth q 2)) (atI (nth q 3)) (atI (nth q 4)) (atI (nth q 5)) (atI (nth q 6)) (atI (nth q 7)) (atI (nth q 8)) (atI (nth q 9)) (atI (nth q 10)) (atI (nth q 11)) (atI (nth q 12)) (atI (nth q 13)) (atI (nth q 14)) (atI (nth q 15)) (atI (nth q 16)) (atI (nth q 17))), .i (o_ref07_Mul_8 F (atI (nth q 0)) (atI (nth q 1)) (atI (nth q 2)) (atI (nth q 3)) (atI (nth q 4)) (atI (nth q 5)) (atI (nth q 6)) (atI (nth q 7)) (atI (nth q 8)) (atI (nth q 9)) (atI (nth q 10)) (atI (nth q 11)) (atI (nth q 12)) (atI (nth q 13)) (atI (nth q 14)) (atI (nth q 15)) (atI (nth q 16)) (atI (nth q 17))), .b (o_ref07_Mul_9 F (atI (nth q 0)) (atI (nth q 1)) (atI (nth q 2)) (atI (nth q 3)) (atI (nth q 4)) (atI (nth q 5)) (atI (nth q 6)) (atI (nth q 7)) (atI (nth q 8)) (atI (nth q 9)) (atI (nth q 10)) (atI (nth q 11)) (atI (nth q 12)) (atI (nth q 13)) (atI (nth q 14)) (atI (nth q 15)) (atI (nth q 16)) (atI (nth q 17)))])
theorem hS_ref07_Mul (F : Nat) : ∀ f, Good PP f (unS (S_ref07_Mul F f)) := words_good fun p hp => by
  simp only [List.mem_cons, List.not_mem_nil, or_false] at hp
  rcases hp with rfl | rfl
  · exact g_ref07_Back F
  · exact g_ref07_Apply F
theorem hl_ref07_Mul (F : Nat) : ∀ p ∈ loopsIn PP 52, LoopOK PP (S_ref07_Mul F) c_ref07_Mul F (I_ref07_Mul F) (J_ref07_Mul F) p :=
  loops_of [] (by kernel_rfl) all_nil
theorem hj_ref07_Mul (F : Nat) : ∀ p ∈ joinsIn PP c_ref07_Mul 52, JoinOK PP (S_ref07_Mul F) c_ref07_Mul (I_ref07_Mul F) (J_ref07_Mul F) p :=
  joins_of [] (by kernel_rfl) all_nil
theorem g_ref07_Mul (F : Nat) : Good PP 52 (unS (s_ref07_Mul F)) :=
  fun_spec (hS_ref07_Mul F) (by kernel_rfl) (by kernel_rfl) (C := c_ref07_Mul) (F := fun q => (f_ref07_Mul F (atI (nth q 0)) (atI (nth q 1)) (atI (nth q 2)) (atI (nth q 3)) (atI (nth q 4)) (atI (nth q 5)) (atI (nth q 6)) (atI (nth q 7)) (atI (nth q 8)) (atI (nth q 9)) (atI (nth q 10)) (atI (nth q 11)) (atI (nth q 12)) (atI (nth q 13)) (atI (nth q 14)) (atI (nth q 15)) (atI (nth q 16)) (atI (nth q 17)))) (fun _ => F) (fun _ => I_ref07_Mul F) (fun _ => J_ref07_Mul F) (fun _ => hl_ref07_Mul F) (fun _ => hj_ref07_Mul F)
    (fun q => (congrArg (funL PP (S_ref07_Mul F) c_ref07_Mul (I_ref07_Mul F) (J_ref07_Mul F) 52) (show (fTs ti_ref07_Mul q).1 = (fTs ti_ref07_Mul [.i (atI (nth q 0)), .i (atI (nth q 1)), .i (atI (nth q 2)), .i (atI (nth q 3)), .i (atI (nth q 4)), .i (atI (nth q 5)), .i (atI (nth q 6)), .i (atI (nth q 7)), .i (atI (nth q 8)), .i (atI (nth q 9)), .i (atI (nth q 10)), .i (atI (nth q 11)), .i (atI (nth q 12)), .i (atI (nth q 13)), .i (atI (nth q 14)), .i (atI (nth q 15)), .i (atI (nth q 16)), .i (atI (nth q 17))]).1 by kernel_rfl)).trans (e_ref07_Mul F (atI (nth q 0)) (atI (nth q 1)) (atI (nth q 2)) (atI (nth q 3)) (atI (nth q 4)) (atI (nth q 5)) (atI (nth q 6)) (atI (nth q 7)) (atI (nth q 8)) (atI (nth q 9)) (atI (nth q 10)) (atI (nth q 11)) (atI (nth q 12)) (atI (nth q 13)) (atI (nth q 14)) (atI (nth q 15)) (atI (nth q 16)) (atI (nth q 17))))
    (fun _ h => (okT_fill h).trans (congrArg some (by kernel_rfl)))

end Go.Xv
set_option linter.unusedVariables false
namespace Go.Xv
/- 58 _ref07_Same -/
def c_ref07_Same : Cfg := ⟨[0], [], [], []⟩
def ti_ref07_Same : List TV := []
def to_ref07_Same : TV := .v (.agg [.int .i64, .int .i64, .int .i64, .int .i64, .int .i64, .int .i64, .int .i64, .int .i64, .int .i64])
def S_ref07_Same (F : Nat) : FuncId → List VV → Option (Bool × VV) := words []
def W_ref07_Same (F : Nat) : List LW := []
def I_ref07_Same (F : Nat) : Nat → VS → (Exit → VS → R) → R := tabI c_ref07_Same (W_ref07_Same F)
def WJ_ref07_Same (F : Nat) : List LJ := []
def J_ref07_Same (F : Nat) : Nat → Nat → VS → (Exit → VS → R) → R := tabJ (WJ_ref07_Same F)
def f_ref07_Same (F : Nat) : R :=
  some (.v (.agg #[.int .i64 4294967296, .int .i64 0, .int .i64 0, .int .i64 0, .int .i64 4294967296, .int .i64 0, .int .i64 0, .int .i64 0, .int .i64 4294967296]))
theorem e_ref07_Same (F : Nat) : funL PP (S_ref07_Same F) c_ref07_Same (I_ref07_Same F) (J_ref07_Same F) 58 (fTs ti_ref07_Same []).1 = f_ref07_Same F := by
  have h : ∀ (_ : Unit), funL PP (words []) c_ref07_Same (tabI c_ref07_Same []) (tabJ []) 58 (fTs ti_ref07_Same []).1 = (
  some (.v (.agg #[.int .i64 4294967296, .int .i64 0, .int .i64 0, .int .i64 0, .int .i64 4294967296, .int .i64 0, .int .i64 0, .int .i64 0, .int .i64 4294967296])) : R) := by
    intros
    kernel_rfl
  exact (h ()).trans (by kernel_rfl)
def ok_ref07_Same (F : Nat) : Bool := okT to_ref07_Same (f_ref07_Same F)
def o_ref07_Same_0 (F : Nat) : Int := atI (nth (outT to_ref07_Same (f_ref07_Same F)) 0)
def o_ref07_Same_1 (F : Nat) : Int := atI (nth (outT to_ref07_Same (f_ref07_Same F)) 1)
def o_ref07_Same_2 (F : Nat) : Int := atI (nth (outT to_ref07_Same (f_ref07_Same F)) 2)
def o_ref07_Same_3 (F : Nat) : Int := atI (nth (outT to_ref07_Same (f_ref07_Same F)) 3)
def o_ref07_Same_4 (F : Nat) : Int := atI (nth (outT to_ref07_Same (f_ref07_Same F)) 4)
def o_ref07_Same_5 (F : Nat) : Int := atI (nth (outT to_ref07_Same (f_ref07_Same F)) 5)
def o_ref07_Same_6 (F : Nat) : Int := atI (nth (outT to_ref07_Same (f_ref07_Same F)) 6)
def o_ref07_Same_7 (F : Nat) : Int := atI (nth (outT to_ref07_Same (f_ref07_Same F)) 7)
def o_ref07_Same_8 (F : Nat) : Int := atI (nth (outT to_ref07_Same (f_ref07_Same F)) 8)
theorem k_ref07_Same (F : Nat) {z0 : Int} {z1 : Int} {z2 : Int} {z3 : Int} {z4 : Int} {z5 : Int} {z6 : Int} {z7 : Int} {z8 : Int} (h : f_ref07_Same F = some (.v (.agg #[.int .i64 z0, .int .i64 z1, .int .i64 z2, .int .i64 z3, .int .i64 z4, .int .i64 z5, .int .i64 z6, .int .i64 z7, .int .i64 z8]))) : ok_ref07_Same F = true ∧ o_ref07_Same_0 F = z0 ∧ o_ref07_Same_1 F = z1 ∧ o_ref07_Same_2 F = z2 ∧ o_ref07_Same_3 F = z3 ∧ o_ref07_Same_4 F = z4 ∧ o_ref07_Same_5 F = z5 ∧ o_ref07_Same_6 F = z6 ∧ o_ref07_Same_7 F = z7 ∧ o_ref07_Same_8 F = z8 := by
  refine ⟨?_, ?_, ?_, ?_, ?_, ?_, ?_, ?_, ?_, ?_⟩
  · unfold ok_ref07_Same; rw [h]; kernel_rfl
  · unfold o_ref07_Same_0; rw [h]; kernel_rfl
  · unfold o_ref07_Same_1; rw [h]; kernel_rfl
  · unfold o_ref07_Same_2; rw [h]; kernel_rfl
  · unfold o_ref07_Same_3; rw [h]; kernel_rfl
  · unfold o_ref07_Same_4; rw [h]; kernel_rfl
  · unfold o_ref07_Same_5; rw [h]; kernel_rfl
  · unfold o_ref07_Same_6; rw [h]; kernel_rfl
  · unfold o_ref07_Same_7; rw [h]; kernel_rfl
  · unfold o_ref07_Same_8; rw [h]; kernel_rfl
def s_ref07_Same (F : Nat) : List VV → Option (Bool × VV) := spec ti_ref07_Same to_ref07_Same (fun q => (ok_ref07_Same F )) (fun q => [.i (o_ref07_Same_0 F ), .i (o_ref07_Same_1 F ), .i (o_ref07_Same_2 F ), .i (o_ref07_Same_3 F ), .i (o_ref07_Same_4 F ), .i (o_ref07_Same_5 F ), .i (o_ref07_Same_6 F ), .i (o_ref07_Same_7 F ), .i (o_ref07_Same_8 F )])
theorem hS_ref07_Same (F : Nat) : ∀ f, Good PP f (unS (S_ref07_Same F f)) := words_good fun p hp => by
  cases hp
theorem hl_ref07_Same (F : Nat) : ∀ p ∈ loopsIn PP 58, LoopOK PP (S_ref07_Same F) c_ref07_Same F (I_ref07_Same F) (J_ref07_Same F) p :=
  loops_of [] (by kernel_rfl) all_nil
theorem hj_ref07_Same (F : Nat) : ∀ p ∈ joinsIn PP c_ref07_Same 58, JoinOK PP (S_ref07_Same F) c_ref07_Same (I_ref07_Same F) (J_ref07_Same F) p :=
  joins_of [] (by kernel_rfl) all_nil
theorem g_ref07_Same (F : Nat) : Good PP 58 (unS (s_ref07_Same F)) :=
  fun_spec (hS_ref07_Same F) (by kernel_rfl) (by kernel_rfl) (C := c_ref07_Same) (F := fun q => (f_ref07_Same F )) (fun _ => F) (fun _ => I_ref07_Same F) (fun _ => J_ref07_Same F) (fun _ => hl_ref07_Same F) (fun _ => hj_ref07_Same F)
    (fun q => (congrArg (funL PP (S_ref07_Same F) c_ref07_Same (I_ref07_Same F) (J_ref07_Same F) 58) (show (fTs ti_ref07_Same q).1 = (fTs ti_ref07_Same []).1 by kernel_rfl)).trans (e_ref07_Same F ))
    (fun _ h => (okT_fill h).trans (congrArg some (by kernel_rfl)))

end Go.Xv
set_option linter.unusedVariables false
namespace Go.Xv
/- 15 _law07_MatMuls -/
def c_law07_MatMuls : Cfg := ⟨[0, 1, 2, 3, 4, 5, 6, 7, 8, 9, 10, 11, 12, 13, 14], [], [], []⟩
def ti_law07_MatMuls : List TV := [.v (.agg [.int .i64, .int .i64, .int .i64, .int .i64, .int .i64, .int .i64, .int .i64, .int .i64, .int .i64]), .v (.agg [.int .i64, .int .i64, .int .i64, .int .i64, .int .i64, .int .i64, .int .i64, .int .i64, .int .i64]), .v (.agg [.int .i64, .int .i64, .int .i64])]
def to_law07_MatMuls : TV := .v (.bool)
def S_law07_MatMuls (F : Nat) : FuncId → List VV → Option (Bool × VV) := words [(51, s_mat_Mul F), (52, s_ref07_Mul F), (53, s_mat_Apply F), (54, s_ref07_Apply F), (55, s_mat_Back F), (56, s_ref07_Back F), (57, s_mat_Same F), (58, s_ref07_Same F), (46, s_law07_works F)]
def W_law07_MatMuls (F : Nat) : List LW := []
def I_law07_MatMuls (F : Nat) : Nat → VS → (Exit → VS → R) → R := tabI c_law07_MatMuls (W_law07_MatMuls F)
def WJ_law07_MatMuls (F : Nat) : List LJ := []
def J_law07_MatMuls (F : Nat) : Nat → Nat → VS → (Exit → VS → R) → R := tabJ (WJ_law07_MatMuls F)
def f_law07_MatMuls (F : Nat) (a0 : Int) (a1 : Int) (a2 : Int) (a3 : Int) (a4 : Int) (a5 : Int) (a6 : Int) (a7 : Int) (a8 : Int) (a9 : Int) (a10 : Int) (a11 : Int) (a12 : Int) (a13 : Int) (a14 : Int) (a15 : Int) (a16 : Int) (a17 : Int) (a18 : Int) (a19 : Int) (a20 : Int) : R :=
  bif (ok_mat_Mul F a0 a1 a2 a3 a4 a5 a6 a7 a8 a9 a10 a11 a12 a13 a14 a15 a16 a17) then (
    bif (ok_ref07_Mul F a0 a1 a2 a3 a4 a5 a6 a7 a8 a9 a10 a11 a12 a13 a14 a15 a16 a17) then (
      bif (ok_mat_Apply F a0 a1 a2 a3 a4 a5 a6 a7 a8 a18 a19 a20) then (
        bif (ok_ref07_Apply F a0 a1 a2 a3 a4 a5 a6 a7 a8 a18 a19 a20) then (
          bif (((((o_mat_Mul_0 F a0 a1 a2 a3 a4 a5 a6 a7 a8 a9 a10 a11 a12 a13 a14 a15 a16 a17)) == ((o_ref07_Mul_0 F a0 a1 a2 a3 a4 a5 a6 a7 a8 a9 a10 a11 a12 a13 a14 a15 a16 a17))) && ((((o_mat_Mul_1 F a0 a1 a2 a3 a4 a5 a6 a7 a8 a9 a10 a11 a12 a13 a14 a15 a16 a17)) == ((o_ref07_Mul_1 F a0 a1 a2 a3 a4 a5 a6 a7 a8 a9 a10 a11 a12 a13 a14 a15 a16 a17))) && ((((o_mat_Mul_2 F a0 a1 a2 a3 a4 a5 a6 a7 a8 a9 a10 a11 a12 a13 a14 a15 a16 a17)) == ((o_ref07_Mul_2 F a0 a1 a2 a3 a4 a5 a6 a7 a8 a9 a10 a11 a12 a13 a14 a15 a16 a17))) && ((((o_mat_Mul_3 F a0 a1 a2 a3 a4 a5 a6 a7 a8 a9 a10 a11 a12 a13 a14 a15 a16 a17)) == ((o_ref07_Mul_3 F a0 a1 a2 a3 a4 a5 a6 a7 a8 a9 a10 a11 a12 a13 a14 a15 a16 a17))) && ((((o_mat_Mul_4 F a0 a1 a2 a3 a4 a5 a6 a7 a8 a9 a10 a11 a12 a13 a14 a15 a16 a17)) == ((o_ref07_Mul_4 F a0 a1 a2 a3 a4 a5 a6 a7 a8 a9 a10 a11 a12 a13 a14 a15 a16 a17))) && ((((o_mat_Mul_5 F a0 a1 a2 a3 a4 a5 a6 a7 a8 a9 a10 a11 a12 a13 a14 a15 a16 a17)) == ((o_ref07_Mul_5 F a0 a1 a2 a3 a4 a5 a6 a7 a8 a9 a10 a11 a12 a13 a14 a15 a16 a17))) && ((((o_mat_Mul_6 F a0 a1 a2 a3 a4 a5 a6 a7 a8 a9 a10 a11 a12 a13 a14 a15 a16 a17)) == ((o_ref07_Mul_6 F a0 a1 a2 a3 a4 a5 a6 a7 a8 a9 a10 a11 a12 a13 a14 a15 a16 a17))) && ((((o_mat_Mul_7 F a0 a1 a2 a3 a4 a5 a6 a7 a8 a9 a10 a11 a12 a13 a14 a15 a16 a17)) == ((o_ref07_Mul_7 F a0 a1 a2 a3 a4 a5 a6 a7 a8 a9 a10 a11 a12 a13 a14 a15 a16 a17))) && (((o_mat_Mul_8 F a0 a1 a2 a3 a4 a5 a6 a7 a8 a9 a10 a11 a12 a13 a14 a15 a16 a17)) == ((o_ref07_Mul_8 F a0 a1 a2 a3 a4 a5 a6 a7 a8 a9 a10 a11 a12 a13 a14 a15 a16 a17)))))))))))) then (
            bif ((((o_mat_Mul_9 F a0 a1 a2 a3 a4 a5 a6 a7 a8 a9 a10 a11 a12 a13 a14 a15 a16 a17)) == ((o_ref07_Mul_9 F a0 a1 a2 a3 a4 a5 a6 a7 a8 a9 a10 a11 a12 a13 a14 a15 a16 a17)))) then (
              bif (((((o_mat_Apply_0 F a0 a1 a2 a3 a4 a5 a6 a7 a8 a18 a19 a20)) == ((o_ref07_Apply_0 F a0 a1 a2 a3 a4 a5 a6 a7 a8 a18 a19 a20))) && ((((o_mat_Apply_1 F a0 a1 a2 a3 a4 a5 a6 a7 a8 a18 a19 a20)) == ((o_ref07_Apply_1 F a0 a1 a2 a3 a4 a5 a6 a7 a8 a18 a19 a20))) && (((o_mat_Apply_2 F a0 a1 a2 a3 a4 a5 a6 a7 a8 a18 a19 a20)) == ((o_ref07_Apply_2 F a0 a1 a2 a3 a4 a5 a6 a7 a8 a18 a19 a20)))))) then (
                bif ((((o_mat_Apply_3 F a0 a1 a2 a3 a4 a5 a6 a7 a8 a18 a19 a20)) == ((o_ref07_Apply_3 F a0 a1 a2 a3 a4 a5 a6 a7 a8 a18 a19 a20)))) then (
                  bif (ok_mat_Back F a0 a1 a2 a3 a4 a5 a6 a7 a8) then (
                    bif (ok_ref07_Back F a0 a1 a2 a3 a4 a5 a6 a7 a8) then (
                      bif (((((o_mat_Back_0 F a0 a1 a2 a3 a4 a5 a6 a7 a8)) == ((o_ref07_Back_0 F a0 a1 a2 a3 a4 a5 a6 a7 a8))) && ((((o_mat_Back_1 F a0 a1 a2 a3 a4 a5 a6 a7 a8)) == ((o_ref07_Back_1 F a0 a1 a2 a3 a4 a5 a6 a7 a8))) && ((((o_mat_Back_2 F a0 a1 a2 a3 a4 a5 a6 a7 a8)) == ((o_ref07_Back_2 F a0 a1 a2 a3 a4 a5 a6 a7 a8))) && ((((o_mat_Back_3 F a0 a1 a2 a3 a4 a5 a6 a7 a8)) == ((o_ref07_Back_3 F a0 a1 a2 a3 a4 a5 a6 a7 a8))) && ((((o_mat_Back_4 F a0 a1 a2 a3 a4 a5 a6 a7 a8)) == ((o_ref07_Back_4 F a0 a1 a2 a3 a4 a5 a6 a7 a8))) && ((((o_mat_Back_5 F a0 a1 a2 a3 a4 a5 a6 a7 a8)) == ((o_ref07_Back_5 F a0 a1 a2 a3 a4 a5 a6 a7 a8))) && ((((o_mat_Back_6 F a0 a1 a2 a3 a4 a5 a6 a7 a8)) == ((o_ref07_Back_6 F a0 a1 a2 a3 a4 a5 a6 a7 a8))) && ((((o_mat_Back_7 F a0 a1 a2 a3 a4 a5 a6 a7 a8)) == ((o_ref07_Back_7 F a0 a1 a2 a3 a4 a5 a6 a7 a8))) && (((o_mat_Back_8 F a0 a1 a2 a3 a4 a5 a6 a7 a8)) == ((o_ref07_Back_8 F a0 a1 a2 a3 a4 a5 a6 a7 a8)))))))))))) then (
                        bif (ok_mat_Same F) then (
                          bif (ok_ref07_Same F) then (
                            bif (((((o_mat_Same_0 F)) == ((o_ref07_Same_0 F))) && ((((o_mat_Same_1 F)) == ((o_ref07_Same_1 F))) && ((((o_mat_Same_2 F)) == ((o_ref07_Same_2 F))) && ((((o_mat_Same_3 F)) == ((o_ref07_Same_3 F))) && ((((o_mat_Same_4 F)) == ((o_ref07_Same_4 F))) && ((((o_mat_Same_5 F)) == ((o_ref07_Same_5 F))) && ((((o_mat_Same_6 F)) == ((o_ref07_Same_6 F))) && ((((o_mat_Same_7 F)) == ((o_ref07_Same_7 F))) && (((o_mat_Same_8 F)) == ((o_ref07_Same_8 F)))))))))))) then (
                              bif (ok_law07_works F) then (
                                some (.v (.bool ((o_law07_works_0 F)))))
                              else (
                                none))
                            else (
                              some (.v (.bool false))))
                          else (
                            none))
                        else (
                          none))
                      else (
                        some (.v (.bool false))))
                    else (
                      none))
                  else (
                    none))
                else (
                  some (.v (.bool false))))
              else (
                some (.v (.bool false))))
            else (
              some (.v (.bool false))))
          else (
            some (.v (.bool false))))
        else (
          none))
      else (
        none))
    else (
      none))
  else (
    none)
theorem e_law07_MatMuls (F : Nat) (a0 : Int) (a1 : Int) (a2 : Int) (a3 : Int) (a4 : Int) (a5 : Int) (a6 : Int) (a7 : Int) (a8 : Int) (a9 : Int) (a10 : Int) (a11 : Int) (a12 : Int) (a13 : Int) (a14 : Int) (a15 : Int) (a16 : Int) (a17 : Int) (a18 : Int) (a19 : Int) (a20 : Int) : funL PP (S_law07_MatMuls F) c_law07_MatMuls (I_law07_MatMuls F) (J_law07_MatMuls F) 15 (fTs ti_law07_MatMuls [.i a0, .i a1, .i a2, .i a3, .i a4, .i a5, .i a6, .i a7, .i a8, .i a9, .i a10, .i a11, .i a12, .i a13, .i a14, .i a15, .i a16, .i a17, .i a18, .i a19, .i a20]).1 = f_law07_MatMuls F a0 a1 a2 a3 a4 a5 a6 a7 a8 a9 a10 a11 a12 a13 a14 a15 a16 a17 a18 a19 a20 := by
  have h : ∀ (ok_mat_Mul : Nat → Int → Int → Int → Int → Int → Int → Int → Int → Int → Int → Int → Int → Int → Int → Int → Int → Int → Int → Bool) (o_mat_Mul_0 : Nat → Int → Int → Int → Int → Int → Int → Int → Int → Int → Int → Int → Int → Int → Int → Int → Int → Int → Int → Int) (o_mat_Mul_1 : Nat → Int → Int → Int → Int → Int → Int → Int → Int → Int → Int → Int → Int → Int → Int → Int → Int → Int → Int → Int) (o_mat_Mul_2 : Nat → Int → Int → Int → Int → Int → Int → Int → Int → Int → Int → Int → Int → Int → Int → Int → Int → Int → Int → Int) (o_mat_Mul_3 : Nat → Int → Int → Int → Int → Int → Int → Int → Int → Int → Int → Int → Int → Int → Int → Int → Int → Int → Int → Int) (o_mat_Mul_4 : Nat → Int → Int → Int → Int → Int → Int → Int → Int → Int → Int → Int → Int → Int → Int → Int → Int → Int → Int → Int) (o_mat_Mul_5 : Nat → Int → Int → Int → Int → Int → Int → Int → Int → Int → Int → Int → Int → Int → Int → Int → Int → Int → Int → Int) (o_mat_Mul_6 : Nat → Int → Int → Int → Int → Int → Int → Int → Int → Int → Int → Int → Int → Int → Int → Int → Int → Int → Int → Int) (o_mat_Mul_7 : Nat → Int → Int → Int → Int → Int → Int → Int → Int → Int → Int → Int → Int → Int → Int → Int → Int → Int → Int → Int) (o_mat_Mul_8 : Nat → Int → Int → Int → Int → Int → Int → Int → Int → Int → Int → Int → Int → Int → Int → Int → Int → Int → Int → Int) (o_mat_Mul_9 : Nat → Int → Int → Int → Int → Int → Int → Int → Int → Int → Int → Int → Int → Int → Int → Int → Int → Int → Int → Bool) (ok_ref07_Mul : Nat → Int → Int → Int → Int → Int → Int → Int → Int → Int → Int → Int → Int → Int → Int → Int → Int → Int → Int → Bool) (o_ref07_Mul_0 : Nat → Int → Int → Int → Int → Int → Int → Int → Int → Int → Int → Int → Int → Int → Int → Int → Int → Int → Int → Int) (o_ref07_Mul_1 : Nat → Int → Int → Int → Int → Int → Int → Int → Int → Int → Int → Int → Int → Int → Int → Int → Int → Int → Int → Int) (o_ref07_Mul_2 : Nat → Int → Int → Int → Int → Int → Int → Int → Int → Int → Int → Int → Int → Int → Int → Int → Int → Int → Int → Int) (o_ref07_Mul_3 : Nat → Int → Int → Int → Int → Int → Int → Int → Int → Int → Int → Int → Int → Int → Int → Int → Int → Int → Int → Int) (o_ref07_Mul_4 : Nat → Int → Int → Int → Int → Int → Int → Int → Int → Int → Int → Int → Int → Int → Int → Int → Int → Int → Int → Int) (o_ref07_Mul_5 : Nat → Int → Int → Int → Int → Int → Int → Int → Int → Int → Int → Int → Int → Int → Int → Int → Int → Int → Int → Int) (o_ref07_Mul_6 : Nat → Int → Int → Int → Int → Int → Int → Int → Int → Int → Int → Int → Int → Int → Int → Int → Int → Int → Int → Int) (o_ref07_Mul_7 : Nat → Int → Int → Int → Int → Int → Int → Int → Int → Int → Int → Int → Int → Int → Int → Int → Int → Int → Int → Int) (o_ref07_Mul_8 : Nat → Int → Int → Int → Int → Int → Int → Int → Int → Int → Int → Int → Int → Int → Int → Int → Int → Int → Int → Int) (o_ref07_Mul_9 : Nat → Int → Int → Int → Int → Int → Int → Int → Int → Int → Int → Int → Int → Int → Int → Int → Int → Int → Int → Bool) (ok_mat_Apply : Nat → Int → Int → Int → Int → Int → Int → Int → Int → Int → Int → Int → Int → Bool) (o_mat_Apply_0 : Nat → Int → Int → Int → Int → Int → Int → Int → Int → Int → Int → Int → Int → Int) (o_mat_Apply_1 : Nat → Int → Int → Int → Int → Int → Int → Int → Int → Int → Int → Int → Int → Int) (o_mat_Apply_2 : Nat → Int → Int → Int → Int → Int → Int → Int → Int → Int → Int → Int → Int → Int) (o_mat_Apply_3 : Nat → Int → Int → Int → Int → Int → Int → Int → Int → Int → Int → Int → Int → Bool) (ok_ref07_Apply : Nat → Int → Int → Int → Int → Int → Int → Int → Int → Int → Int → Int → Int → Bool) (o_ref07_Apply_0 : Nat → Int → Int → Int → Int → Int → Int → Int → Int → Int → Int → Int → Int → Int) (o_ref07_Apply_1 : Nat → Int → Int → Int → Int → Int → Int → Int → Int → Int → Int → Int → Int → Int) (o_ref07_Apply_2 : Nat → Int → Int → Int → Int → Int → Int → Int → Int → Int → Int → Int → Int → Int) (o_ref07_Apply_3 : Nat → Int → Int → Int → Int → Int → Int → Int → Int → Int → Int → Int → Int → Bool) (ok_mat_Back : Nat → Int → Int → Int → Int → Int → Int → Int → Int → Int → Bool) (o_mat_Back_0 : Nat → Int → Int → Int → Int → Int → Int → Int → Int → Int → Int) (o_mat_Back_1 : Nat → Int → Int → Int → Int → Int → Int → Int → Int → Int → Int) (o_mat_Back_2 : Nat → Int → Int → Int → Int → Int → Int → Int → Int → Int → Int) (o_mat_Back_3 : Nat → Int → Int → Int → Int → Int → Int → Int → Int → Int → Int) (o_mat_Back_4 : Nat → Int → Int → Int → Int → Int → Int → Int → Int → Int → Int) (o_mat_Back_5 : Nat → Int → Int → Int → Int → Int → Int → Int → Int → Int → Int) (o_mat_Back_6 : Nat → Int → Int → Int → Int → Int → Int → Int → Int → Int → Int) (o_mat_Back_7 : Nat → Int → Int → Int → Int → Int → Int → Int → Int → Int → Int) (o_mat_Back_8 : Nat → Int → Int → Int → Int → Int → Int → Int → Int → Int → Int) (ok_ref07_Back : Nat → Int → Int → Int → Int → Int → Int → Int → Int → Int → Bool) (o_ref07_Back_0 : Nat → Int → Int → Int → Int → Int → Int → Int → Int → Int → Int) (o_ref07_Back_1 : Nat → Int → Int → Int → Int → Int → Int → Int → Int → Int → Int) (o_ref07_Back_2 : Nat → Int → Int → Int → Int → Int → Int → Int → Int → Int → Int) (o_ref07_Back_3 : Nat → Int → Int → Int → Int → Int → Int → Int → Int → Int → Int) (o_ref07_Back_4 : Nat → Int → Int → Int → Int → Int → Int → Int → Int → Int → Int) (o_ref07_Back_5 : Nat → Int → Int → Int → Int → Int → Int → Int → Int → Int → Int) (o_ref07_Back_6 : Nat → Int → Int → Int → Int → Int → Int → Int → Int → Int → Int) (o_ref07_Back_7 : Nat → Int → Int → Int → Int → Int → Int → Int → Int → Int → Int) (o_ref07_Back_8 : Nat → Int → Int → Int → Int → Int → Int → Int → Int → Int → Int) (ok_mat_Same : Nat → Bool) (o_mat_Same_0 : Nat → Int) (o_mat_Same_1 : Nat → Int) (o_mat_Same_2 : Nat → Int) (o_mat_Same_3 : Nat → Int) (o_mat_Same_4 : Nat → Int) (o_mat_Same_5 : Nat → Int) (o_mat_Same_6 : Nat → Int) (o_mat_Same_7 : Nat → Int) (o_mat_Same_8 : Nat → Int) (ok_ref07_Same : Nat → Bool) (o_ref07_Same_0 : Nat → Int) (o_ref07_Same_1 : Nat → Int) (o_ref07_Same_2 : Nat → Int) (o_ref07_Same_3 : Nat → Int) (o_ref07_Same_4 : Nat → Int) (o_ref07_Same_5 : Nat → Int) (o_ref07_Same_6 : Nat → Int) (o_ref07_Same_7 : Nat → Int) (o_ref07_Same_8 : Nat → Int) (ok_law07_works : Nat → Bool) (o_law07_works_0 : Nat → Bool), funL PP (words [(51, spec ti_mat_Mul to_mat_Mul (fun q => (ok_mat_Mul F (atI (nth q 0)) (atI (nth q 1)) (atI (nth q 2)) (atI (nth q 3)) (atI (nth q 4)) (atI (nth q 5)) (atI (nth q 6)) (atI (nth q 7)) (atI (nth q 8)) (atI (nth q 9)) (atI (nth q 10)) (atI (nth q 11)) (atI (nth q 12)) (atI (nth q 13)) (atI (nth q 14)) (atI (nth q 15)) (atI (nth q 16)) (atI (nth q 17)))) (fun q => [.i (o_mat_Mul_0 F (atI (nth q 0)) (atI (nth q 1)) (atI (nth q 2)) (atI (nth q 3)) (atI (nth q 4)) (atI (nth q 5)) (atI (nth q 6)) (atI (nth q 7)) (atI (nth q 8)) (atI (nth q 9)) (atI (nth q 10)) (atI (nth q 11)) (atI (nth q 12)) (atI (nth q 13)) (atI (nth q 14)) (atI (nth q 15)) (atI (nth q 16)) (atI (nth q 17))), .i (o_mat_Mul_1 F (atI (nth q 0)) (atI (nth q 1)) (atI (nth q 2)) (atI (nth q 3)) (atI (nth q 4)) (atI (nth q 5)) (atI (nth q 6)) (atI (nth q 7)) (atI (nth q 8)) (atI (nth q 9)) (atI (nth q 10)) (atI (nth q 11)) (atI (nth q 12)) (atI (nth q 13)) (atI (nth q 14)) (atI (nth q 15)) (atI (nth q 16)) (atI (nth q 17))), .i (o_mat_Mul_2 F (atI (nth q 0)) (atI (nth q 1)) (atI (nth q 2)) (atI (nth q 3)) (atI (nth q 4)) (atI (nth q 5)) (atI (nth q 6)) (atI (nth q 7)) (atI (nth q 8)) (atI (nth q 9)) (atI (nth q 10)) (atI (nth q 11)) (atI (nth q 12)) (atI (nth q 13)) (atI (nth q 14)) (atI (nth q 15)) (atI (nth q 16)) (atI (nth q 17))), .i (o_mat_Mul_3 F (atI (nth q 0)) (atI (nth q 1)) (atI (nth q 2)) (atI (nth q 3)) (atI (nth q 4)) (atI (nth q 5)) (atI (nth q 6)) (atI (nth q 7)) (atI (nth q 8)) (atI (nth q 9)) (atI (nth q 10)) (atI (nth q 11)) (atI (nth q 12)) (atI (nth q 13)) (atI (nth q 14)) (atI (nth q 15)) (atI (nth q 16)) (atI (nth q 17))), .i (o_mat_Mul_4 F (atI (nth q 0)) (atI (nth q 1)) (atI (nth q 2)) (atI (nth q 3)) (atI (nth q 4)) (atI (nth q 5)) (atI (nth q 6)) (atI (nth q 7)) (atI (nth q 8)) (atI (nth q 9)) (atI (nth q 10)) (atI (nth q 11)) (atI (nth q 12)) (atI (nth q 13)) (atI (nth q 14)) (atI (nth q 15)) (atI (nth q 16)) (atI (nth q 17))), .i (o_mat_Mul_5 F (atI (nth q 0)) (atI (nth q 1)) (atI (nth q 2)) (atI (nth q 3)) (atI (nth q 4)) (atI (nth q 5)) (atI (nth q 6)) (atI (nth q 7)) (atI (nth q 8)) (atI (nth q 9)) (atI (nth q 10)) (atI (nth q 11)) (atI (nth q 12)) (atI (nth q 13)) (atI (nth q 14)) (atI (nth q 15)) (atI (nth q 16)) (atI (nth q 17))), .i (o_mat_Mul_6 F (atI (nth q 0)) (atI (nth q 1)) (atI (nth q 2)) (atI (nth q 3)) (atI (nth q 4)) (atI (nth q 5)) (atI (nth q 6)) (atI (nth q 7)) (atI (nth q 8)) (atI (nth q 9)) (atI (nth q 10)) (atI (nth q 11)) (atI (nth q 12)) (atI (nth q 13)) (atI (nth q 14)) (atI (nth q 15)) (atI (nth q 16)) (atI (nth q 17))), .i (o_mat_Mul_7 F (atI (nth q 0)) (atI (nth q 1)) (atI (nth q 2)) (atI (nth q 3)) (atI (nth q 4)) (atI (nth q 5)) (atI (nth q 6)) (atI (nth q 7)) (atI (nth q 8)) (atI (nth q 9)) (atI (nth q 10)) (atI (nth q 11)) (atI (nth q 12)) (atI (nth q 13)) (atI (nth q 14)) (atI (nth q 15)) (atI (nth q 16)) (atI (nth q 17))), .i (o_mat_Mul_8 F (atI (nth q 0)) (atI (nth q 1)) (atI (nth q 2)) (atI (nth q 3)) (atI (nth q 4)) (atI (nth q 5)) (atI (nth q 6)) (atI (nth q 7)) (atI (nth q 8)) (atI (nth q 9)) (atI (nth q 10)) (atI (nth q 11)) (atI (nth q 12)) (atI (nth q 13)) (atI (nth q 14)) (atI (nth q 15)) (atI (nth q 16)) (atI (nth q 17))), .b (o_mat_Mul_9 F (atI (nth q 0)) (atI (nth q 1)) (atI (nth q 2)) (atI (nth q 3)) (atI (nth q 4)) (atI (nth q 5)) (atI (nth q 6)) (atI (nth q 7)) (atI (nth q 8)) (atI (nth q 9)) (atI (nth q 10)) (atI (nth q 11)) (atI (nth q 12)) (atI (nth q 13)) (atI (nth q 14)) (atI (nth q 15)) (atI (nth q 16)) (atI (nth q 17)))])), (52, spec ti_ref07_Mul to_ref07_Mul (fun q => (ok_ref07_Mul F (atI (nth q 0)) (atI (nth q 1)) (atI (nth q 2)) (atI (nth q 3)) (atI (nth q 4)) (atI (nth q 5)) (atI (nth q 6)) (atI (nth q 7)) (atI (nth q 8)) (atI (nth q 9)) (atI (nth q 10)) (atI (nth q 11)) (atI (nth q 12)) (atI (nth q 13)) (atI (nth q 14)) (atI (nth q 15)) (atI (nth q 16)) (atI (nth q 17)))) (fun q => [.i (o_ref07_Mul_0 F (atI (nth q 0)) (atI (nth q 1)) (atI (nth q 2)) (atI (nth q 3)) (atI (nth q 4)) (atI (nth q 5)) (atI (nth q 6)) (atI (nth q 7)) (atI (nth q 8)) (atI (nth q 9)) (atI (nth q 10)) (atI (nth q 11)) (atI (nth q 12)) (atI (nth q 13)) (atI (nth q 14)) (atI (nth q 15)) (atI (nth q 16)) (atI (nth q 17))), .i (o_ref07_Mul_1 F (atI (nth q 0)) (atI (nth q 1)) (atI (nth q 2)) (atI (nth q 3)) (atI (nth q 4)) (atI (nth q 5)) (atI (nth q 6)) (atI (nth q 7)) (atI (nth q 8)) (atI (nth q 9)) (atI (nth q 10)) (atI (nth q 11)) (atI (nth q 12)) (atI (nth q 13)) (atI (nth q 14)) (atI (nth q 15)) (atI (nth q 16)) (atI (nth q 17))), .i (o_ref07_Mul_2 F (atI (nth q 0)) (atI (nth q 1)) (atI (nth q 2)) (atI (nth q 3)) (atI (nth q 4)) (atI (nth q 5)) (atI (nth q 6)) (atI (nth q 7)) (atI (nth q 8)) (atI (nth q 9)) (atI (nth q 10)) (atI (nth q 11)) (atI (nth q 12)) (atI (nth q 13)) (atI (nth q 14)) (atI (nth q 15)) (atI (nth q 16)) (atI (nth q 17))), .i (o_ref07_Mul_3 F (atI (nth q 0)) (atI (nth q 1)) (atI (nth q 2)) (atI (nth q 3)) (atI (nth q 4)) (atI (nth q 5)) (atI (nth q 6)) (atI (nth q 7)) (atI (nth q 8)) (atI (nth q 9)) (atI (nth q 10)) (atI (nth q 11)) (atI (nth q 12)) (atI (nth q 13)) (atI (nth q 14)) (atI (nth q 15)) (atI (nth q 16)) (atI (nth q 17))), .i (o_ref07_Mul_4 F (atI (nth q 0)) (atI (nth q 1)) (atI (nth q 2)) (atI (nth q 3)) (atI (nth q 4)) (atI (nth q 5)) (atI (nth q 6)) (atI (nth q 7)) (atI (nth q 8)) (atI (nth q 9)) (atI (nth q 10)) (atI (nth q 11)) (atI (nth q 12)) (atI (nth q 13)) (atI (nth q 14)) (atI (nth q 15)) (atI (nth q 16)) (atI (nth q 17))), .i (o_ref07_Mul_5 F (atI (nth q 0)) (atI (nth q 1)) (atI (nth q 2)) (atI (nth q 3)) (atI (nth q 4)) (atI (nth q 5)) (atI (nth q 6)) (atI (nth q 7)) (atI (nth q 8)) (atI (nth q 9)) (atI (nth q 10)) (atI (nth q 11)) (atI (nth q 12)) (atI (nth q 13)) (atI (nth q 14)) (atI (nth q 15)) (atI (nth q 16)) (atI (nth q 17))), .i (o_ref07_Mul_6 F (atI (nth q 0)) (atI (nth q 1)) (atI (nth q 2)) (atI (nth q 3)) (atI (nth q 4)) (atI (nth q 5)) (atI (nth q 6)) (atI (nth q 7)) (atI (nth q 8)) (atI (nth q 9)) (atI (nth q 10)) (atI (nth q 11)) (atI (nth q 12)) (atI (nth q 13)) (atI (nth q 14)) (atI (nth q 15)) (atI (nth q 16)) (atI (nth q 17))), .i (o_ref07_Mul_7 F (atI (nth q 0)) (atI (nth q 1)) (atI (nth q 2)) (atI (nth q 3)) (atI (nth q 4)) (atI (nth q 5)) (atI (nth q 6)) (atI (nth q 7)) (atI (nth q 8)) (atI (nth q 9)) (atI (nth q 10)) (atI (nth q 11)) (atI (nth q 12)) (atI (nth q 13)) (atI (nth q 14)) (atI (nth q 15)) (atI (nth q 16)) (atI (nth q 17))), .i (o_ref07_Mul_8 F (atI (nth q 0)) (atI (nth q 1)) (atI (nth q 2)) (atI (nth q 3)) (atI (nth q 4)) (atI (nth q 5)) (atI (nth q 6)) (atI (nth q 7)) (atI (nth q 8)) (atI (nth q 9)) (atI (nth q 10)) (atI (nth q 11)) (atI (nth q 12)) (atI (nth q 13)) (atI (nth q 14)) (atI (nth q 15)) (atI (nth q 16)) (atI (nth q 17))), .b (o_ref07_Mul_9 F (atI (nth q 0)) (atI (nth q 1)) (atI (nth q 2)) (atI (nth q 3)) (atI (nth q 4)) (atI (nth q 5)) (atI (nth q 6)) (atI (nth q 7)) (atI (nth q 8)) (atI (nth q 9)) (atI (nth q 10)) (atI (nth q 11)) (atI (nth q 12)) (atI (nth q 13)) (atI (nth q 14)) (atI (nth q 15)) (atI (nth q 16)) (atI (nth q 17)))])), (53, spec ti_mat_Apply to_mat_Apply (fun q => (ok_mat_Apply F (atI (nth q 0)) (atI (nth q 1)) (atI (nth q 2)) (atI (nth q 3)) (atI (nth q 4)) (atI (nth q 5)) (atI (nth q 6)) (atI (nth q 7)) (atI (nth q 8)) (atI (nth q 9)) (atI (nth q 10)) (atI (nth q 11)))) (fun q => [.i (o_mat_Apply_0 F (atI (nth q 0)) (atI (nth q 1)) (atI (nth q 2)) (atI (nth q 3)) (atI (nth q 4)) (atI (nth q 5)) (atI (nth q 6)) (atI (nth q 7)) (atI (nth q 8)) (atI (nth q 9)) (atI (nth q 10)) (atI (nth q 11))), .i (o_mat_Apply_1 F (atI (nth q 0)) (atI (nth q 1)) (atI (nth q 2)) (atI (nth q 3)) (atI (nth q 4)) (atI (nth q 5)) (atI (nth q 6)) (atI (nth q 7)) (atI (nth q 8)) (atI (nth q 9)) (atI (nth q 10)) (atI (nth q 11))), .i (o_mat_Apply_2 F (atI (nth q 0)) (atI (nth q 1)) (atI (nth q 2)) (atI (nth q 3)) (atI (nth q 4)) (atI (nth q 5)) (atI (nth q 6)) (atI (nth q 7)) (atI (nth q 8)) (atI (nth q 9)) (atI (nth q 10)) (atI (nth q 11))), .b (o_mat_Apply_3 F (atI (nth q 0)) (atI (nth q 1)) (atI (nth q 2)) (atI (nth q 3)) (atI (nth q 4)) (atI (nth q 5)) (atI (nth q 6)) (atI (nth q 7)) (atI (nth q 8)) (atI (nth q 9)) (atI (nth q 10)) (atI (nth q 11)))])), (54, spec ti_ref07_Apply to_ref07_Apply (fun q => (ok_ref07_Apply F (atI (nth q 0)) (atI (nth q 1)) (atI (nth q 2)) (atI (nth q 3)) (atI (nth q 4)) (atI (nth q 5)) (atI (nth q 6)) (atI (nth q 7)) (atI (nth q 8)) (atI (nth q 9)) (atI (nth q 10)) (atI (nth q 11)))) (fun q => [.i (o_ref07_Apply_0 F (atI (nth q 0)) (atI (nth q 1)) (atI (nth q 2)) (atI (nth q 3)) (atI (nth q 4)) (atI (nth q 5)) (atI (nth q 6)) (atI (nth q 7)) (atI (nth q 8)) (atI (nth q 9)) (atI (nth q 10)) (atI (nth q 11))), .i (o_ref07_Apply_1 F (atI (nth q 0)) (atI (nth q 1)) (atI (nth q 2)) (atI (nth q 3)) (atI (nth q 4)) (atI (nth q 5)) (atI (nth q 6)) (atI (nth q 7)) (atI (nth q 8)) (atI (nth q 9)) (atI (nth q 10)) (atI (nth q 11))), .i (o_ref07_Apply_2 F (atI (nth q 0)) (atI (nth q 1)) (atI (nth q 2)) (atI (nth q 3)) (atI (nth q 4)) (atI (nth q 5)) (atI (nth q 6)) (atI (nth q 7)) (atI (nth q 8)) (atI (nth q 9)) (atI (nth q 10)) (atI (nth q 11))), .b (o_ref07_Apply_3 F (atI (nth q 0)) (atI (nth q 1)) (atI (nth q 2)) (atI (nth q 3)) (atI (nth q 4)) (atI (nth q 5)) (atI (nth q 6)) (atI (nth q 7)) (atI (nth q 8)) (atI (nth q 9)) (atI (nth q 10)) (atI (nth q 11)))])), (55, spec ti_mat_Back to_mat_Back (fun q => (ok_mat_Back F (atI (nth q 0)) (atI (nth q 1)) (atI (nth q 2)) (atI (nth q 3)) (atI (nth q 4)) (atI (nth q 5)) (atI (nth q 6)) (atI (nth q 7)) (atI (nth q 8)))) (fun q => [.i (o_mat_Back_0 F (atI (nth q 0)) (atI (nth q 1)) (atI (nth q 2)) (atI (nth q 3)) (atI (nth q 4)) (atI (nth q 5)) (atI (nth q 6)) (atI (nth q 7)) (atI (nth q 8))), .i (o_mat_Back_1 F (atI (nth q 0)) (atI (nth q 1)) (atI (nth q 2)) (atI (nth q 3)) (atI (nth q 4)) (atI (nth q 5)) (atI (nth q 6)) (atI (nth q 7)) (atI (nth q 8))), .i (o_mat_Back_2 F (atI (nth q 0)) (atI (nth q 1)) (atI (nth q 2)) (atI (nth q 3)) (atI (nth q 4)) (atI (nth q 5)) (atI (nth q 6)) (atI (nth q 7)) (atI (nth q 8))), .i (o_mat_Back_3 F (atI (nth q 0)) (atI (nth q 1)) (atI (nth q 2)) (atI (nth q 3)) (atI (nth q 4)) (atI (nth q 5)) (atI (nth q 6)) (atI (nth q 7)) (atI (nth q 8))), .i (o_mat_Back_4 F (atI (nth q 0)) (atI (nth q 1)) (atI (nth q 2)) (atI (nth q 3)) (atI (nth q 4)) (atI (nth q 5)) (atI (nth q 6)) (atI (nth q 7)) (atI (nth q 8))), .i (o_mat_Back_5 F (atI (nth q 0)) (atI (nth q 1)) (atI (nth q 2)) (atI (nth q 3)) (atI (nth q 4)) (atI (nth q 5)) (atI (nth q 6)) (atI (nth q 7)) (atI (nth q 8))), .i (o_mat_Back_6 F (atI (nth q 0)) (atI (nth q 1)) (atI (nth q 2)) (atI (nth q 3)) (atI (nth q 4)) (atI (nth q 5)) (atI (nth q 6)) (atI (nth q 7)) (atI (nth q 8))), .i (o_mat_Back_7 F (atI (nth q 0)) (atI (nth q 1)) (atI (nth q 2)) (atI (nth q 3)) (atI (nth q 4)) (atI (nth q 5)) (atI (nth q 6)) (atI (nth q 7)) (atI (nth q 8))), .i (o_mat_Back_8 F (atI (nth q 0)) (atI (nth q 1)) (atI (nth q 2)) (atI (nth q 3)) (atI (nth q 4)) (atI (nth q 5)) (atI (nth q 6)) (atI (nth q 7)) (atI (nth q 8)))])), (56, spec ti_ref07_Back to_ref07_Back (fun q => (ok_ref07_Back F (atI (nth q 0)) (atI (nth q 1)) (atI (nth q 2)) (atI (nth q 3)) (atI (nth q 4)) (atI (nth q 5)) (atI (nth q 6)) (atI (nth q 7)) (atI (nth q 8)))) (fun q => [.i (o_ref07_Back_0 F (atI (nth q 0)) (atI (nth q 1)) (atI (nth q 2)) (atI (nth q 3)) (atI (nth q 4)) (atI (nth q 5)) (atI (nth q 6)) (atI (nth q 7)) (atI (nth q 8))), .i (o_ref07_Back_1 F (atI (nth q 0)) (atI (nth q 1)) (atI (nth q 2)) (atI (nth q 3)) (atI (nth q 4)) (atI (nth q 5)) (atI (nth q 6)) (atI (nth q 7)) (atI (nth q 8))), .i (o_ref07_Back_2 F (atI (nth q 0)) (atI (nth q 1)) (atI (nth q 2)) (atI (nth q 3)) (atI (nth q 4)) (atI (nth q 5)) (atI (nth q 6)) (atI (nth q 7)) (atI (nth q 8))), .i (o_ref07_Back_3 F (atI (nth q 0)) (atI (nth q 1)) (atI (nth q 2)) (atI (nth q 3)) (atI (nth q 4)) (atI (nth q 5)) (atI (nth q 6)) (atI (nth q 7)) (atI (nth q 8))), .i (o_ref07_Back_4 F (atI (nth q 0)) (atI (nth q 1)) (atI (nth q 2)) (atI (nth q 3)) (atI (nth q 4)) (atI (nth q 5)) (atI (nth q 6)) (atI (nth q 7)) (atI (nth q 8))), .i (o_ref07_Back_5 F (atI (nth q 0)) (atI (nth q 1)) (atI (nth q 2)) (atI (nth q 3)) (atI (nth q 4)) (atI (nth q 5)) (atI (nth q 6)) (atI (nth q 7)) (atI (nth q 8))), .i (o_ref07_Back_6 F (atI (nth q 0)) (atI (nth q 1)) (atI (nth q 2)) (atI (nth q 3)) (atI (nth q 4)) (atI (nth q 5)) (atI (nth q 6)) (atI (nth q 7)) (atI (nth q 8))), .i (o_ref07_Back_7 F (atI (nth q 0)) (atI (nth q 1)) (atI (nth q 2)) (atI (nth q 3)) (atI (nth q 4)) (atI (nth q 5)) (atI (nth q 6)) (atI (nth q 7)) (atI (nth q 8))), .i (o_ref07_Back_8 F (atI (nth q 0)) (atI (nth q 1)) (atI (nth q 2)) (atI (nth q 3)) (atI (nth q 4)) (atI (nth q 5)) (atI (nth q 6)) (atI (nth q 7)) (atI (nth q 8)))])), (57, spec ti_mat_Same to_mat_Same (fun q => (ok_mat_Same F )) (fun q => [.i (o_mat_Same_0 F ), .i (o_mat_Same_1 F ), .i (o_mat_Same_2 F ), .i (o_mat_Same_3 F ), .i (o_mat_Same_4 F ), .i (o_mat_Same_5 F ), .i (o_mat_Same_6 F ), .i (o_mat_Same_7 F ), .i (o_mat_Same_8 F )])), (58, spec ti_ref07_Same to_ref07_Same (fun q => (ok_ref07_Same F )) (fun q => [.i (o_ref07_Same_0 F ), .i (o_ref07_Same_1 F ), .i (o_ref07_Same_2 F ), .i (o_ref07_Same_3 F ), .i (o_ref07_Same_4 F ), .i (o_ref07_Same_5 F ), .i (o_ref07_Same_6 F ), .i (o_ref07_Same_7 F ), .i (o_ref07_Same_8 F )])), (46, spec ti_law07_works to_law07_works (fun q => (ok_law07_works F )) (fun q => [.b (o_law07_works_0 F )]))]) c_law07_MatMuls (tabI c_law07_MatMuls []) (tabJ []) 15 (fTs ti_law07_MatMuls [.i a0, .i a1, .i a2, .i a3, .i a4, .i a5, .i a6, .i a7, .i a8, .i a9, .i a10, .i a11, .i a12, .i a13, .i a14, .i a15, .i a16, .i a17, .i a18, .i a19, .i a20]).1 = (
  bif (ok_mat_Mul F a0 a1 a2 a3 a4 a5 a6 a7 a8 a9 a10 a11 a12 a13 a14 a15 a16 a17) then (
    bif (ok_ref07_Mul F a0 a1 a2 a3 a4 a5 a6 a7 a8 a9 a10 a11 a12 a13 a14 a15 a16 a17) then (
      bif (ok_mat_Apply F a0 a1 a2 a3 a4 a5 a6 a7 a8 a18 a19 a20) then (
        bif (ok_ref07_Apply F a0 a1 a2 a3 a4 a5 a6 a7 a8 a18 a19 a20) then (
          bif (((((o_mat_Mul_0 F a0 a1 a2 a3 a4 a5 a6 a7 a8 a9 a10 a11 a12 a13 a14 a15 a16 a17)) == ((o_ref07_Mul_0 F a0 a1 a2 a3 a4 a5 a6 a7 a8 a9 a10 a11 a12 a13 a14 a15 a16 a17))) && ((((o_mat_Mul_1 F a0 a1 a2 a3 a4 a5 a6 a7 a8 a9 a10 a11 a12 a13 a14 a15 a16 a17)) == ((o_ref07_Mul_1 F a0 a1 a2 a3 a4 a5 a6 a7 a8 a9 a10 a11 a12 a13 a14 a15 a16 a17))) && ((((o_mat_Mul_2 F a0 a1 a2 a3 a4 a5 a6 a7 a8 a9 a10 a11 a12 a13 a14 a15 a16 a17)) == ((o_ref07_Mul_2 F a0 a1 a2 a3 a4 a5 a6 a7 a8 a9 a10 a11 a12 a13 a14 a15 a16 a17))) && ((((o_mat_Mul_3 F a0 a1 a2 a3 a4 a5 a6 a7 a8 a9 a10 a11 a12 a13 a14 a15 a16 a17)) == ((o_ref07_Mul_3 F a0 a1 a2 a3 a4 a5 a6 a7 a8 a9 a10 a11 a12 a13 a14 a15 a16 a17))) && ((((o_mat_Mul_4 F a0 a1 a2 a3 a4 a5 a6 a7 a8 a9 a10 a11 a12 a13 a14 a15 a16 a17)) == ((o_ref07_Mul_4 F a0 a1 a2 a3 a4 a5 a6 a7 a8 a9 a10 a11 a12 a13 a14 a15 a16 a17))) && ((((o_mat_Mul_5 F a0 a1 a2 a3 a4 a5 a6 a7 a8 a9 a10 a11 a12 a13 a14 a15 a16 a17)) == ((o_ref07_Mul_5 F a0 a1 a2 a3 a4 a5 a6 a7 a8 a9 a10 a11 a12 a13 a14 a15 a16 a17))) && ((((o_mat_Mul_6 F a0 a1 a2 a3 a4 a5 a6 a7 a8 a9 a10 a11 a12 a13 a14 a15 a16 a17)) == ((o_ref07_Mul_6 F a0 a1 a2 a3 a4 a5 a6 a7 a8 a9 a10 a11 a12 a13 a14 a15 a16 a17))) && ((((o_mat_Mul_7 F a0 a1 a2 a3 a4 a5 a6 a7 a8 a9 a10 a11 a12 a13 a14 a15 a16 a17)) == ((o_ref07_Mul_7 F a0 a1 a2 a3 a4 a5 a6 a7 a8 a9 a10 a11 a12 a13 a14 a15 a16 a17))) && (((o_mat_Mul_8 F a0 a1 a2 a3 a4 a5 a6 a7 a8 a9 a10 a11 a12 a13 a14 a15 a16 a17)) == ((o_ref07_Mul_8 F a0 a1 a2 a3 a4 a5 a6 a7 a8 a9 a10 a11 a12 a13 a14 a15 a16 a17)))))))))))) then (
            bif ((((o_mat_Mul_9 F a0 a1 a2 a3 a4 a5 a6 a7 a8 a9 a10 a11 a12 a13 a14 a15 a16 a17)) == ((o_ref07_Mul_9 F a0 a1 a2 a3 a4 a5 a6 a7 a8 a9 a10 a11 a12 a13 a14 a15 a16 a17)))) then (
              bif (((((o_mat_Apply_0 F a0 a1 a2 a3 a4 a5 a6 a7 a8 a18 a19 a20)) == ((o_ref07_Apply_0 F a0 a1 a2 a3 a4 a5 a6 a7 a8 a18 a19 a20))) && ((((o_mat_Apply_1 F a0 a1 a2 a3 a4 a5 a6 a7 a8 a18 a19 a20)) == ((o_ref07_Apply_1 F a0 a1 a2 a3 a4 a5 a6 a7 a8 a18 a19 a20))) && (((o_mat_Apply_2 F a0 a1 a2 a3 a4 a5 a6 a7 a8 a18 a19 a20)) == ((o_ref07_Apply_2 F a0 a1 a2 a3 a4 a5 a6 a7 a8 a18 a19 a20)))))) then (
                bif ((((o_mat_Apply_3 F a0 a1 a2 a3 a4 a5 a6 a7 a8 a18 a19 a20)) == ((o_ref07_Apply_3 F a0 a1 a2 a3 a4 a5 a6 a7 a8 a18 a19 a20)))) then (
                  bif (ok_mat_Back F a0 a1 a2 a3 a4 a5 a6 a7 a8) then (
                    bif (ok_ref07_Back F a0 a1 a2 a3 a4 a5 a6 a7 a8) then (
                      bif (((((o_mat_Back_0 F a0 a1 a2 a3 a4 a5 a6 a7 a8)) == ((o_ref07_Back_0 F a0 a1 a2 a3 a4 a5 a6 a7 a8))) && ((((o_mat_Back_1 F a0 a1 a2 a3 a4 a5 a6 a7 a8)) == ((o_ref07_Back_1 F a0 a1 a2 a3 a4 a5 a6 a7 a8))) && ((((o_mat_Back_2 F a0 a1 a2 a3 a4 a5 a6 a7 a8)) == ((o_ref07_Back_2 F a0 a1 a2 a3 a4 a5 a6 a7 a8))) && ((((o_mat_Back_3 F a0 a1 a2 a3 a4 a5 a6 a7 a8)) == ((o_ref07_Back_3 F a0 a1 a2 a3 a4 a5 a6 a7 a8))) && ((((o_mat_Back_4 F a0 a1 a2 a3 a4 a5 a6 a7 a8)) == ((o_ref07_Back_4 F a0 a1 a2 a3 a4 a5 a6 a7 a8))) && ((((o_mat_Back_5 F a0 a1 a2 a3 a4 a5 a6 a7 a8)) == ((o_ref07_Back_5 F a0 a1 a2 a3 a4 a5 a6 a7 a8))) && ((((o_mat_Back_6 F a0 a1 a2 a3 a4 a5 a6 a7 a8)) == ((o_ref07_Back_6 F a0 a1 a2 a3 a4 a5 a6 a7 a8))) && ((((o_mat_Back_7 F a0 a1 a2 a3 a4 a5 a6 a7 a8)) == ((o_ref07_Back_7 F a0 a1 a2 a3 a4 a5 a6 a7 a8))) && (((o_mat_Back_8 F a0 a1 a2 a3 a4 a5 a6 a7 a8)) == ((o_ref07_Back_8 F a0 a1 a2 a3 a4 a5 a6 a7 a8)))))))))))) then (
                        bif (ok_mat_Same F) then (
                          bif (ok_ref07_Same F) then (
                            bif (((((o_mat_Same_0 F)) == ((o_ref07_Same_0 F))) && ((((o_mat_Same_1 F)) == ((o_ref07_Same_1 F))) && ((((o_mat_Same_2 F)) == ((o_ref07_Same_2 F))) && ((((o_mat_Same_3 F)) == ((o_ref07_Same_3 F))) && ((((o_mat_Same_4 F)) == ((o_ref07_Same_4 F))) && ((((o_mat_Same_5 F)) == ((o_ref07_Same_5 F))) && ((((o_mat_Same_6 F)) == ((o_ref07_Same_6 F))) && ((((o_mat_Same_7 F)) == ((o_ref07_Same_7 F))) && (((o_mat_Same_8 F)) == ((o_ref07_Same_8 F)))))))))))) then (
                              bif (ok_law07_works F) then (
                                some (.v (.bool ((o_law07_works_0 F)))))
                              else (
                                none))
                            else (
                              some (.v (.bool false))))
                          else (
                            none))
                        else (
                          none))
                      else (
                        some (.v (.bool false))))
                    else (
                      none))
                  else (
                    none))
                else (
                  some (.v (.bool false))))
              else (
                some (.v (.bool false))))
            else (
              some (.v (.bool false))))
          else (
            some (.v (.bool false))))
        else (
          none))
      else (
        none))
    else (
      none))
  else (
    none) : R) := by
    intros
    kernel_rfl
  exact (h ok_mat_Mul o_mat_Mul_0 o_mat_Mul_1 o_mat_Mul_2 o_mat_Mul_3 o_mat_Mul_4 o_mat_Mul_5 o_mat_Mul_6 o_mat_Mul_7 o_mat_Mul_8 o_mat_Mul_9 ok_ref07_Mul o_ref07_Mul_0 o_ref07_Mul_1 o_ref07_Mul_2 o_ref07_Mul_3 o_ref07_Mul_4 o_ref07_Mul_5 o_ref07_Mul_6 o_ref07_Mul_7 o_ref07_Mul_8 o_ref07_Mul_9 ok_mat_Apply o_mat_Apply_0 o_mat_Apply_1 o_mat_Apply_2 o_mat_Apply_3 ok_ref07_Apply o_ref07_Apply_0 o_ref07_Apply_1 o_ref07_Apply_2 o_ref07_Apply_3 ok_mat_Back o_mat_Back_0 o_mat_Back_1 o_mat_Back_2 o_mat_Back_3 o_mat_Back_4 o_mat_Back_5 o_mat_Back_6 o_mat_Back_7 o_mat_Back_8 ok_ref07_Back o_ref07_Back_0 o_ref07_Back_1 o_ref07_Back_2 o_ref07_Back_3 o_ref07_Back_4 o_ref07_Back_5 o_ref07_Back_6 o_ref07_Back_7 o_ref07_Back_8 ok_mat_Same o_mat_Same_0 o_mat_Same_1 o_mat_Same_2 o_mat_Same_3 o_mat_Same_4 o_mat_Same_5 o_mat_Same_6 o_mat_Same_7 o_mat_Same_8 ok_ref07_Same o_ref07_Same_0 o_ref07_Same_1 o_ref07_Same_2 o_ref07_Same_3 o_ref07_Same_4 o_ref07_Same_5 o_ref07_Same_6 o_ref07_Same_7 o_ref07_Same_8 ok_law07_works o_law07_works_0).trans (by kernel_rfl)
def ok_law07_MatMuls (F : Nat) (a0 : Int) (a1 : Int) (a2 : Int) (a3 : Int) (a4 : Int) (a5 : Int) (a6 : Int) (a7 : Int) (a8 : Int) (a9 : Int) (a10 : Int) (a11 : Int) (a12 : Int) (a13 : Int) (a14 : Int) (a15 : Int) (a16 : Int) (a17 : Int) (a18 : Int) (a19 : Int) (a20 : Int) : Bool := okT to_law07_MatMuls (f_law07_MatMuls F a0 a1 a2 a3 a4 a5 a6 a7 a8 a9 a10 a11 a12 a13 a14 a15 a16 a17 a18 a19 a20)
def o_law07_MatMuls_0 (F : Nat) (a0 : Int) (a1 : Int) (a2 : Int) (a3 : Int) (a4 : Int) (a5 : Int) (a6 : Int) (a7 : Int) (a8 : Int) (a9 : Int) (a10 : Int) (a11 : Int) (a12 : Int) (a13 : Int) (a14 : Int) (a15 : Int) (a16 : Int) (a17 : Int) (a18 : Int) (a19 : Int) (a20 : Int) : Bool := atB (nth (outT to_law07_MatMuls (f_law07_MatMuls F a0 a1 a2 a3 a4 a5 a6 a7 a8 a9 a10 a11 a12 a13 a14 a15 a16 a17 a18 a19 a20)) 0)
theorem k_law07_MatMuls (F : Nat) (a0 : Int) (a1 : Int) (a2 : Int) (a3 : Int) (a4 : Int) (a5 : Int) (a6 : Int) (a7 : Int) (a8 : Int) (a9 : Int) (a10 : Int) (a11 : Int) (a12 : Int) (a13 : Int) (a14 : Int) (a15 : Int) (a16 : Int) (a17 : Int) (a18 : Int) (a19 : Int) (a20 : Int) {z0 : Bool} (h : f_law07_MatMuls F a0 a1 a2 a3 a4 a5 a6 a7 a8 a9 a10 a11 a12 a13 a14 a15 a16 a17 a18 a19 a20 = some (.v (.bool z0))) : ok_law07_MatMuls F a0 a1 a2 a3 a4 a5 a6 a7 a8 a9 a10 a11 a12 a13 a14 a15 a16 a17 a18 a19 a20 = true ∧ o_law07_MatMuls_0 F a0 a1 a2 a3 a4 a5 a6 a7 a8 a9 a10 a11 a12 a13 a14 a15 a16 a17 a18 a19 a20 = z0 := by
  refine ⟨?_, ?_⟩
  · unfold ok_law07_MatMuls; rw [h]; kernel_rfl
  · unfold o_law07_MatMuls_0; rw [h]; kernel_rfl
def s_law07_MatMuls (F : Nat) : List VV → Option (Bool × VV) := spec ti_law07_MatMuls to_law07_MatMuls (fun q => (ok_law07_MatMuls F (atI (nth q 0)) (atI (nth q 1)) (atI (nth q 2)) (atI (nth q 3)) (atI (nth q 4)) (atI (nth q 5)) (atI (nth q 6)) (atI (nth q 7)) (atI (nth q 8)) (atI (nth q 9)) (atI (nth q 10)) (atI (nth q 11)) (atI (nth q 12)) (atI (nth q 13)) (atI (nth q 14)) (atI (nth q 15)) (atI (nth q 16)) (atI (nth q 17)) (atI (nth q 18)) (atI (nth q 19)) (atI (nth q 20)))) (fun q => [.b (o_law07_MatMuls_0 F (atI (nth q 0)) (atI (nth q 1)) (atI (nth q 2)) (atI (nth q 3)) (atI (nth q 4)) (atI (nth q 5)) (atI (nth q 6)) (atI (nth q 7)) (atI (nth q 8)) (atI (nth q 9)) (atI (nth q 10)) (atI (nth q 11)) (atI (nth q 12)) (atI (nth q 13)) (atI (nth q 14)) (atI (nth q 15)) (atI (nth q 16)) (atI (nth q 17)) (atI (nth q 18)) (atI (nth q 19)) (atI (nth q 20)))])
theorem hS_law07_MatMuls (F : Nat) : ∀ f, Good PP f (unS (S_law07_MatMuls F f)) := words_good fun p hp => by
  simp only [List.mem_cons, List.not_mem_nil, or_false] at hp
  rcases hp with rfl | rfl | rfl | rfl | rfl | rfl | rfl | rfl | rfl
  · exact g_mat_Mul F
  · exact g_ref07_Mul F
  · exact g_mat_Apply F
  · exact g_ref07_Apply F
  · exact g_mat_Back F
  · exact g_ref07_Back F
  · exact g_mat_Same F
  · exact g_ref07_Same F
  · exact g_law07_works F
theorem hl_law07_MatMuls (F : Nat) : ∀ p ∈ loopsIn PP 15, LoopOK PP (S_law07_MatMuls F) c_law07_MatMuls F (I_law07_MatMuls F) (J_law07_MatMuls F) p :=
  loops_of [] (by kernel_rfl) all_nil
theorem hj_law07_MatMuls (F : Nat) : ∀ p ∈ joinsIn PP c_law07_MatMuls 15, JoinOK PP (S_law07_MatMuls F) c_law07_MatMuls (I_law07_MatMuls F) (J_law07_MatMuls F) p :=
  joins_of [] (by kernel_rfl) all_nil
theorem g_law07_MatMuls (F : Nat) : Good PP 15 (unS (s_law07_MatMuls F)) :=
  fun_spec (hS_law07_MatMuls F) (by kernel_rfl) (by kernel_rfl) (C := c_law07_MatMuls) (F := fun q => (f_law07_MatMuls F (atI (nth q 0)) (atI (nth q 1)) (atI (nth q 2)) (atI (nth q 3)) (atI (nth q 4)) (atI (nth q 5)) (atI (nth q 6)) (atI (nth q 7)) (atI (nth q 8)) (atI (nth q 9)) (atI (nth q 10)) (atI (nth q 11)) (atI (nth q 12)) (atI (nth q 13)) (atI (nth q 14)) (atI (nth q 15)) (atI (nth q 16)) (atI (nth q 17)) (atI (nth q 18)) (atI (nth q 19)) (atI (nth q 20)))) (fun _ => F) (fun _ => I_law07_MatMuls F) (fun _ => J_law07_MatMuls F) (fun _ => hl_law07_MatMuls F) (fun _ => hj_law07_MatMuls F)
    (fun q => (congrArg (funL PP (S_law07_MatMuls F) c_law07_MatMuls (I_law07_MatMuls F) (J_law07_MatMuls F) 15) (show (fTs ti_law07_MatMuls q).1 = (fTs ti_law07_MatMuls [.i (atI (nth q 0)), .i (atI (nth q 1)), .i (atI (nth q 2)), .i (atI (nth q 3)), .i (atI (nth q 4)), .i (atI (nth q 5)), .i (atI (nth q 6)), .i (atI (nth q 7)), .i (atI (nth q 8)), .i (atI (nth q 9)), .i (atI (nth q 10)), .i (atI (nth q 11)), .i (atI (nth q 12)), .i (atI (nth q 13)), .i (atI (nth q 14)), .i (atI (nth q 15)), .i (atI (nth q 16)), .i (atI (nth q 17)), .i (atI (nth q 18)), .i (atI (nth q 19)), .i (atI (nth q 20))]).1 by kernel_rfl)).trans (e_law07_MatMuls F (atI (nth q 0)) (atI (nth q 1)) (atI (nth q 2)) (atI (nth q 3)) (atI (nth q 4)) (atI (nth q 5)) (atI (nth q 6)) (atI (nth q 7)) (atI (nth q 8)) (atI (nth q 9)) (atI (nth q 10)) (atI (nth q 11)) (atI (nth q 12)) (atI (nth q 13)) (atI (nth q 14)) (atI (nth q 15)) (atI (nth q 16)) (atI (nth q 17)) (atI (nth q 18)) (atI (nth q 19)) (atI (nth q 20))))
    (fun _ h => (okT_fill h).trans (congrArg some (by kernel_rfl)))

end Go.Xv
namespace Go.Xv
theorem p2pos (n : Nat) : (0 : Int) < 2 ^ n := Int.pow_pos (by decide)
theorem p2add (a b : Nat) : (2 : Int) ^ a * 2 ^ b = 2 ^ (a + b) := (Int.pow_add 2 a b).symm
theorem p2_64 {m : Nat} (h : m ≤ 64) : (2 : Int) ^ m * 2 ^ (64 - m) = 18446744073709551616 := by
  rw [p2add, show m + (64 - m) = 64 by omega]; decide
theorem p2cast (k : Nat) : ((2 ^ k : Nat) : Int) = 2 ^ k := by push_cast; rfl
theorem or_comm_u64 (a b : Int) : orI .u64 a b = orI .u64 b a := by rw [or_u64_bv, or_u64_bv, BitVec.or_comm]
theorem div_I64 {h P : Int} (hh : I64 h) (hP : 0 < P) : I64 (h / P) := by
  unfold I64 at *
  rcases Int.lt_or_le h 0 with hn | hn
  · constructor
    · rw [Int.le_ediv_iff_mul_le hP]
      have : -9223372036854775808 * P ≤ -9223372036854775808 * 1 := Int.mul_le_mul_of_nonpos_left (by omega) (by omega)
      omega
    · have := Int.ediv_neg_of_neg_of_pos hn hP
      omega
  · have h1 := Int.ediv_nonneg hn (Int.le_of_lt hP)
    have h2 := Int.ediv_le_self P hn
    omega
theorem emod_mul {a P Q : Int} (hP : 0 < P) : (a * P) % (P * Q) = (a % Q) * P := by
  rw [Int.mul_comm a P, Int.mul_emod_mul_of_pos _ _ hP, Int.mul_comm]

/-- a shift to the right by less than a half, put together of both halves. -/
theorem shr_small {h l : Int} {m : Nat} (hh : I64 h) (hl : U64 l) (hm : m < 64) :
    h / 2 ^ m = hi (val h l / 2 ^ m) ∧ orI .u64 (l / 2 ^ m) (((h % 18446744073709551616) * 2 ^ (64 - m)) % 18446744073709551616) = lo (val h l / 2 ^ m) := by
  have hP := p2pos m
  have hQ := p2pos (64 - m)
  have hPQ := p2_64 (m := m) (by omega)
  have hI := div_I64 hh hP
  have eP : ((2 ^ (64 - m) : Nat) : Int) = 2 ^ (64 - m) := p2cast _
  have orq := fun a b => or_add_u64 (64 - m) (a := a) (b := b)
  rw [eP] at orq
  generalize (2 : Int) ^ m = P at *
  generalize (2 : Int) ^ (64 - m) = Q at *
  have hv : val h l / P = h * Q + l / P := by
    unfold val
    rw [← hPQ, show h * (P * Q) + l = l + h * Q * P by rw [Int.mul_comm P Q, ← Int.mul_assoc]; omega, Int.add_mul_ediv_right _ _ (by omega)]
    omega
  have hlP : 0 ≤ l / P ∧ l / P < Q := by
    unfold U64 at hl
    refine ⟨Int.ediv_nonneg hl.1 (by omega), Int.ediv_lt_of_lt_mul hP ?_⟩
    rw [Int.mul_comm]; omega
  have h64 : (0 : Int) < 18446744073709551616 := by decide
  have hdd : (h * Q + l / P) / 18446744073709551616 = h / P := by
    rw [← hPQ, Int.mul_comm P Q, ← Int.ediv_ediv_of_nonneg (by omega), show h * Q + l / P = l / P + h * Q by omega, Int.add_mul_ediv_right _ _ (by omega), Int.ediv_eq_zero_of_lt hlP.1 hlP.2]
    simp
  rw [hv]
  constructor
  · unfold hi
    rw [hdd]
    unfold I64 at hI
    omega
  · have e1 : ((h % 18446744073709551616) * Q) % 18446744073709551616 = (h % P) * Q := by
      rw [← hPQ, Int.mul_comm P Q, emod_mul hQ, Int.mul_comm Q P, Int.emod_emod_of_dvd h (Int.dvd_mul_right P Q)]
    have b1 := Int.emod_nonneg h (show P ≠ 0 by omega)
    have b2 := Int.emod_lt_of_pos h hP
    have b3 : (h % P) * Q + l / P < 18446744073709551616 := by
      have : (h % P) * Q ≤ (P - 1) * Q := Int.mul_le_mul_of_nonneg_right (by omega) (by omega)
      rw [Int.sub_mul] at this
      omega
    have b4 := Int.mul_nonneg b1 (show 0 ≤ Q by omega)
    rw [e1, or_comm_u64, orq _ _ b1 hlP.1 hlP.2 b3]
    unfold lo
    have e2 : (h * Q) % 18446744073709551616 = (h % P) * Q := by rw [← hPQ, Int.mul_comm P Q, emod_mul hQ]
    omega

theorem shr_great {h l : Int} {m : Nat} (hl : U64 l) (hm : 64 ≤ m) : h / 2 ^ (m - 64) = val h l / 2 ^ m := by
  have e : (2 : Int) ^ m = 18446744073709551616 * 2 ^ (m - 64) := by
    rw [show (18446744073709551616 : Int) = 2 ^ 64 by decide, p2add, show 64 + (m - 64) = m by omega]
  rw [e, ← Int.ediv_ediv_of_nonneg (by decide)]
  congr 1
  unfold val
  unfold U64 at hl
  omega

end Go.Xv
namespace Go.Xv
/-- one bit of a number -/
def dg (z : Int) (i : Nat) : Int := z / 2 ^ i % 2
def ds (z : Int) (n : Nat) : List VV := (List.range n).map fun i => .v (.int .i64 (dg z i))
theorem dg_01 (z : Int) (i : Nat) : 0 ≤ dg z i ∧ dg z i ≤ 1 := by unfold dg; omega
theorem ds_len (z : Int) (n : Nat) : (ds z n).length = n := by simp [ds]
theorem ds_zero (z : Int) : ds z 0 = [] := rfl
theorem ds_succ (z : Int) (n : Nat) : ds z (n + 1) = ds z n ++ [.v (.int .i64 (dg z n))] := by simp [ds, List.range_succ]
theorem ds_get (z : Int) {n i : Nat} (h : i < n) : (ds z n)[i]? = some (.v (.int .i64 (dg z i))) := by simp [ds, h]
theorem ds_take (z : Int) (n : Nat) : ((ds z n).drop 0).take (n * 1) = ds z n := by
  rw [List.drop_zero, List.take_of_length_le]
  rw [ds_len]; omega
theorem ediv2 (x : Int) (i : Nat) : x / 2 ^ i / 2 = x / 2 ^ (i + 1) := by
  rw [Int.ediv_ediv_of_nonneg (Int.le_of_lt (p2pos i))]; rfl
theorem bitlo (x : Int) {n i : Nat} (h : i < n) : (x % 2 ^ n) / 2 ^ i % 2 = x / 2 ^ i % 2 := by
  have e : (2 : Int) ^ n = 2 ^ i * (2 * 2 ^ (n - i - 1)) := by
    rw [show (2 : Int) * 2 ^ (n - i - 1) = 2 ^ (n - i) by
      rw [show n - i = (n - i - 1) + 1 by omega, Int.pow_succ]; simp [Int.mul_comm]]
    rw [p2add, show i + (n - i) = n by omega]
  have hd := Int.mul_ediv_add_emod x (2 ^ n)
  generalize hq : x / 2 ^ n = q at hd
  generalize hr : x % 2 ^ n = r at hd ⊢
  rw [← hd, e]
  have hP := p2pos i
  generalize (2 : Int) ^ i = P at *
  generalize (2 : Int) ^ (n - i - 1) = T at *
  rw [show P * (2 * T) * q + r = r + 2 * T * q * P by
    have : P * (2 * T) * q = 2 * T * q * P := by simp only [Int.mul_comm, Int.mul_left_comm]
    omega, Int.add_mul_ediv_right _ _ (by omega)]
  have : 2 * T * q = 2 * (T * q) := Int.mul_assoc ..
  omega
theorem dg_lo (z : Int) {i : Nat} (h : i < 64) : lo z / 2 ^ i % 2 = dg z i := bitlo z (n := 64) h
theorem dg_hi (z : Int) {i : Nat} (h : i < 64) : (z / 18446744073709551616 % 18446744073709551616) / 2 ^ i % 2 = dg z (64 + i) := by
  have := bitlo (z / 18446744073709551616) (n := 64) h
  rw [show (18446744073709551616 : Int) = 2 ^ 64 by decide] at *
  rw [this, Int.ediv_ediv_of_nonneg (by decide), p2add]
  rfl
/-- the number of the first bits -/
def num (z : Int) (n : Nat) : Int := z % 2 ^ n
theorem num_zero (z : Int) : num z 0 = 0 := by unfold num; omega
theorem num_succ (z : Int) (n : Nat) : num z (n + 1) = num z n + dg z n * 2 ^ n := by
  unfold num dg
  have h1 := Int.mul_ediv_add_emod z (2 ^ n)
  have h2 := Int.mul_ediv_add_emod (z / 2 ^ n) 2
  have h3 := Int.mul_ediv_add_emod z (2 ^ (n + 1))
  rw [← ediv2] at h3
  have hP := p2pos n
  have e : (2 : Int) ^ (n + 1) = 2 * 2 ^ n := by rw [Int.pow_succ, Int.mul_comm]
  rw [e] at h3 ⊢
  generalize (2 : Int) ^ n = P at *
  generalize z / P = q at *
  have : 2 * P * (q / 2) = P * (2 * (q / 2)) := by simp only [Int.mul_comm, Int.mul_left_comm]
  have : P * q = P * (2 * (q / 2) + q % 2) := by rw [h2]
  rw [Int.mul_add] at this
  rw [Int.mul_comm (q % 2) P]
  omega
theorem num_bd (z : Int) (n : Nat) : 0 ≤ num z n ∧ num z n < 2 ^ n := by
  have := p2pos n
  exact ⟨Int.emod_nonneg _ (by omega), Int.emod_lt_of_pos _ this⟩
theorem p2mono {a b : Nat} (h : a ≤ b) : (2 : Int) ^ a ≤ 2 ^ b := by
  rw [show b = a + (b - a) by omega, ← p2add]
  have h1 := p2pos a
  have h2 := p2pos (b - a)
  have : (2 : Int) ^ a * 1 ≤ 2 ^ a * 2 ^ (b - a) := Int.mul_le_mul_of_nonneg_left (by omega) (by omega)
  omega
theorem p2_lt64 {i : Nat} (h : i < 64) : (2 : Int) ^ i * 2 ≤ 18446744073709551616 := by
  have := p2mono (a := i + 1) (b := 64) (by omega)
  rw [Int.pow_succ] at this
  simpa using this
/-- the bits of a sum -/
def cy (x y : Int) (i : Nat) : Int := (num x i + num y i) / 2 ^ i
theorem cy_zero (x y : Int) : cy x y 0 = 0 := by unfold cy; rw [num_zero, num_zero]; decide
theorem cy_01 (x y : Int) (i : Nat) : 0 ≤ cy x y i ∧ cy x y i ≤ 1 := by
  unfold cy
  have h1 := num_bd x i
  have h2 := num_bd y i
  have hP := p2pos i
  generalize (2 : Int) ^ i = P at *
  refine ⟨Int.ediv_nonneg (by omega) (by omega), ?_⟩
  have : (num x i + num y i) / P < 2 := Int.ediv_lt_of_lt_mul hP (by omega)
  omega
theorem cy_succ (x y : Int) (i : Nat) : cy x y (i + 1) = (dg x i + dg y i + cy x y i) / 2 ∧ dg (x + y) i = (dg x i + dg y i + cy x y i) % 2 := by
  have hP := p2pos i
  have e1 := num_succ x i
  have e2 := num_succ y i
  constructor
  · unfold cy
    rw [e1, e2, ← ediv2]
    generalize (2 : Int) ^ i = P at *
    rw [show num x i + dg x i * P + (num y i + dg y i * P) = num x i + num y i + (dg x i + dg y i) * P by rw [Int.add_mul]; omega, Int.add_mul_ediv_right _ _ (by omega)]
    congr 1
    omega
  · unfold cy
    have h1 := Int.mul_ediv_add_emod x (2 ^ i)
    have h2 := Int.mul_ediv_add_emod y (2 ^ i)
    have h3 : (x + y) / 2 ^ i = x / 2 ^ i + y / 2 ^ i + (num x i + num y i) / 2 ^ i := by
      unfold num
      generalize (2 : Int) ^ i = P at *
      have : x + y = (x % P + y % P) + (x / P + y / P) * P := by
        rw [Int.add_mul, Int.mul_comm _ P, Int.mul_comm _ P]; omega
      rw [this, Int.add_mul_ediv_right _ _ (by omega)]
      omega
    unfold dg
    rw [h3]
    omega
theorem dg_not (z : Int) (i : Nat) : dg (-1 - z) i = 1 - dg z i := by
  have h : (-1 - z) / 2 ^ i = -1 - z / 2 ^ i := by
    have hP := p2pos i
    have h1 := Int.mul_ediv_add_emod z (2 ^ i)
    have h2 := Int.emod_nonneg z (show (2 : Int) ^ i ≠ 0 by omega)
    have h3 := Int.emod_lt_of_pos z hP
    generalize (2 : Int) ^ i = P at *
    generalize z / P = q at *
    generalize z % P = r at *
    rw [← h1, show -1 - (P * q + r) = (P - 1 - r) + (-1 - q) * P by rw [Int.sub_mul, Int.mul_comm P q]; omega, Int.add_mul_ediv_right _ _ (by omega), Int.ediv_eq_zero_of_lt (by omega) (by omega)]
    omega
  unfold dg
  rw [h]
  omega
end Go.Xv
namespace Go.Xv
def angs : List Int := [536870912, 316933406, 167458907, 85004756, 42667331, 21354465, 10679838, 5340245, 2670163, 1335087, 667544, 333772, 166886, 83443, 41722, 20861, 10430, 5215, 2608, 1304, 652, 326, 163, 81, 41, 20, 10, 5, 3, 1]
def tA (i : Nat) : Int := angs.getD i 0
theorem tA_bd : ∀ i, i < 30 → 1 ≤ tA i ∧ tA i ≤ 536870912 := by decide
theorem ediv_bd {y B : Int} (h : -B ≤ y ∧ y ≤ B) (i : Nat) : -B ≤ y / 2 ^ i ∧ y / 2 ^ i ≤ B := by
  have hP := p2pos i
  generalize (2 : Int) ^ i = P at *
  rcases Int.lt_or_le y 0 with hn | hn
  · constructor
    · rw [Int.le_ediv_iff_mul_le hP]
      have : -B * P ≤ -B * 1 := Int.mul_le_mul_of_nonpos_left (by omega) (by omega)
      omega
    · have := Int.ediv_neg_of_neg_of_pos hn hP
      omega
  · have h1 := Int.ediv_nonneg hn (Int.le_of_lt hP)
    have h2 := Int.ediv_le_self P hn
    omega
def rotX (i : Nat) (o : Bool) (x y : Int) : Int := if o then x - y / 2 ^ i else x + y / 2 ^ i
def rotY (i : Nat) (o : Bool) (x y : Int) : Int := if o then y + x / 2 ^ i else y - x / 2 ^ i
theorem rot_bd {x y B : Int} (hx : -B ≤ x ∧ x ≤ B) (hy : -B ≤ y ∧ y ≤ B) (i : Nat) (o : Bool) : (-(2 * B) ≤ rotX i o x y ∧ rotX i o x y ≤ 2 * B) ∧ (-(2 * B) ≤ rotY i o x y ∧ rotY i o x y ≤ 2 * B) := by
  have h1 := ediv_bd hx i
  have h2 := ediv_bd hy i
  unfold rotX rotY
  cases o
  · simp only [Bool.false_eq_true, if_false]; omega
  · simp only [if_true]; omega
/-- sine and cosine, step by step: both parts, and what is left -/
def bS (z : Int) : Nat → Int × Int × Int
  | 0 => (2608131496, 0, z)
  | i + 1 => (rotX i (decide (0 ≤ (bS z i).2.2)) (bS z i).1 (bS z i).2.1, rotY i (decide (0 ≤ (bS z i).2.2)) (bS z i).1 (bS z i).2.1, if 0 ≤ (bS z i).2.2 then (bS z i).2.2 - tA i else (bS z i).2.2 + tA i)
theorem bS_bd (z : Int) : ∀ i, (-(2608131496 * 2 ^ i) ≤ (bS z i).1 ∧ (bS z i).1 ≤ 2608131496 * 2 ^ i) ∧ (-(2608131496 * 2 ^ i) ≤ (bS z i).2.1 ∧ (bS z i).2.1 ≤ 2608131496 * 2 ^ i)
  | 0 => by simp [bS]
  | i + 1 => by
    obtain ⟨h1, h2⟩ := bS_bd z i
    have := rot_bd h1 h2 i (decide (0 ≤ (bS z i).2.2))
    have e : (2608131496 : Int) * 2 ^ (i + 1) = 2 * (2608131496 * 2 ^ i) := by rw [Int.pow_succ]; omega
    rw [e]
    exact this
theorem bS_I (z : Int) {i : Nat} (h : i ≤ 30) : (-4611686018427387904 ≤ (bS z i).1 ∧ (bS z i).1 ≤ 4611686018427387904) ∧ (-4611686018427387904 ≤ (bS z i).2.1 ∧ (bS z i).2.1 ≤ 4611686018427387904) := by
  have h1 := bS_bd z i
  have h2 : (2608131496 : Int) * 2 ^ i ≤ 2608131496 * 2 ^ 30 := Int.mul_le_mul_of_nonneg_left (p2mono h) (by decide)
  have h3 : (2608131496 : Int) * 2 ^ 30 ≤ 4611686018427387904 := by decide
  omega
theorem bS_z {z : Int} (hz : 0 ≤ z ∧ z < 1073741824) : ∀ {i : Nat}, i ≤ 30 → -(1073741824 + 536870912 * (i : Int)) ≤ (bS z i).2.2 ∧ (bS z i).2.2 ≤ 1073741824 + 536870912 * (i : Int)
  | 0, _ => by simp only [bS]; omega
  | i + 1, h => by
    have ih := bS_z hz (i := i) (by omega)
    have := tA_bd i (by omega)
    simp only [bS]
    push_cast
    split <;> omega
def cl01 (x : Int) : Int := min (max x 0) 4294967296
theorem cl01_bd (x : Int) : 0 ≤ cl01 x ∧ cl01 x ≤ 4294967296 := by unfold cl01; omega
def bC (a : Int) : Int := cl01 (bS (a % 1073741824) 30).1
def bN (a : Int) : Int := cl01 (bS (a % 1073741824) 30).2.1
/-- cosine and sine -/
def bothC (a : Int) : Int := if a / 1073741824 = 0 then bC a else if a / 1073741824 = 1 then -bN a else if a / 1073741824 = 2 then -bC a else bN a
def bothS (a : Int) : Int := if a / 1073741824 = 0 then bN a else if a / 1073741824 = 1 then bC a else if a / 1073741824 = 2 then -bN a else -bC a
theorem both_bd (a : Int) : (-4294967296 ≤ bothC a ∧ bothC a ≤ 4294967296) ∧ (-4294967296 ≤ bothS a ∧ bothS a ≤ 4294967296) := by
  have h1 := cl01_bd (bS (a % 1073741824) 30).1
  have h2 := cl01_bd (bS (a % 1073741824) 30).2.1
  unfold bothC bothS bC bN
  constructor <;> (repeat' split) <;> omega
end Go.Xv
namespace Go.Xv
theorem bp {α : Type} {c : Bool} {a b x : α} (h : c = true) (h2 : a = x) : (bif c then a else b) = x := by rw [h]; exact h2
theorem bn {α : Type} {c : Bool} {a b x : α} (h : c = false) (h2 : b = x) : (bif c then a else b) = x := by rw [h]; exact h2
theorem dt {p : Prop} [Decidable p] (h : p) : decide p = true := decide_eq_true h
theorem df {p : Prop} [Decidable p] (h : ¬ p) : decide p = false := decide_eq_false h
theorem fdiv_pos (a : Int) {b : Int} (h : 0 ≤ b) : Int.fdiv a b = a / b := Int.fdiv_eq_ediv_of_nonneg a h
theorem some_int {k : IntKind} {a b : Int} (h : a = b) : (some (VV.v (.int k a)) : R) = some (.v (.int k b)) := by rw [h]
theorem some_wd {a b : Int} {z : Int} (h : a = hi z) (k : b = lo z) : (some (VV.v (.agg #[.int .i64 a, .int .u64 b])) : R) = some (wd z) := by rw [h, k]; rfl

theorem f_bare (F : Nat) {a : Int} (h : I64 a) : f_wide_bare F a = some (.v (.int .u64 (if a < 0 then -a else a))) := by
  unfold f_wide_bare
  unfold I64 at h
  by_cases h0 : a < 0
  · refine bp (dt h0) (some_int ?_)
    rw [if_pos h0, wu64, wu64]; omega
  · refine bn (df h0) (some_int ?_)
    rw [if_neg h0, wu64]; omega

theorem f_product (F : Nat) {a b : Int} (ha : U64 a) (hb : U64 b) : f_wide_product F a b = some (wd (a * b)) := by
  unfold f_wide_product
  unfold U64 at ha hb
  have ea : a = a / 4294967296 * 4294967296 + a % 4294967296 := by omega
  have eb : b = b / 4294967296 * 4294967296 + b % 4294967296 := by omega
  have hp : 0 ≤ a / 4294967296 ∧ a / 4294967296 ≤ 4294967295 := by omega
  have hq : 0 ≤ a % 4294967296 ∧ a % 4294967296 ≤ 4294967295 := by omega
  have hr : 0 ≤ b / 4294967296 ∧ b / 4294967296 ≤ 4294967295 := by omega
  have hs : 0 ≤ b % 4294967296 ∧ b % 4294967296 ≤ 4294967295 := by omega
  have hab : a * b = (a / 4294967296) * (b / 4294967296) * 18446744073709551616 + ((a / 4294967296) * (b % 4294967296) + (a % 4294967296) * (b / 4294967296)) * 4294967296 + (a % 4294967296) * (b % 4294967296) := by
    generalize a / 4294967296 = p at *
    generalize a % 4294967296 = q at *
    generalize b / 4294967296 = r at *
    generalize b % 4294967296 = s at *
    subst ea eb
    simp only [Int.add_mul, Int.mul_add]
    have : p * 4294967296 * (r * 4294967296) = p * r * 18446744073709551616 := by
      rw [show (18446744073709551616 : Int) = 4294967296 * 4294967296 by decide]
      simp only [Int.mul_comm, Int.mul_assoc, Int.mul_left_comm]
    have : p * 4294967296 * s = p * s * 4294967296 := by simp only [Int.mul_comm, Int.mul_assoc, Int.mul_left_comm]
    have : q * (r * 4294967296) = q * r * 4294967296 := by simp only [Int.mul_assoc]
    omega
  have bd : ∀ x y : Int, (0 ≤ x ∧ x ≤ 4294967295) → (0 ≤ y ∧ y ≤ 4294967295) → 0 ≤ x * y ∧ x * y ≤ 18446744065119617025 := by
    intro x y hx hy
    have h1 := Int.mul_nonneg hx.1 hy.1
    have h2 : x * y ≤ 4294967295 * 4294967295 := Int.mul_le_mul hx.2 hy.2 hy.1 (by decide)
    exact ⟨h1, by simpa using h2⟩
  have b1 := bd _ _ hp hr
  have b2 := bd _ _ hp hs
  have b3 := bd _ _ hq hr
  have b4 := bd _ _ hq hs
  have m1 : ∀ x, U64 x → andI .u64 x 4294967295 = x % 4294967296 := fun x hx => mask32_u64 hx
  simp only [fdiv_pos _ (show (0 : Int) ≤ 4294967296 by decide)]
  rw [m1 a ha, m1 b hb]
  rw [hab]
  clear hab ea eb
  generalize a / 4294967296 * (b / 4294967296) = pr at *
  generalize a / 4294967296 * (b % 4294967296) = ps at *
  generalize a % 4294967296 * (b / 4294967296) = qr at *
  generalize a % 4294967296 * (b % 4294967296) = qs at *
  rw [wu64_in (x := qs) (by unfold U64; omega), wu64_in (x := ps) (by unfold U64; omega), wu64_in (x := qr) (by unfold U64; omega), wu64_in (x := pr) (by unfold U64; omega)]
  rw [wu64_in (x := ps + qs / 4294967296) (by unfold U64; omega)]
  rw [m1 _ (show U64 (ps + qs / 4294967296) by unfold U64; omega), m1 qs (by unfold U64; omega)]
  rw [wu64_in (x := (ps + qs / 4294967296) % 4294967296 + qr) (by unfold U64; omega)]
  have e : IntKind.wrap .u64 (((ps + qs / 4294967296) % 4294967296 + qr) * 4294967296) = (((ps + qs / 4294967296) % 4294967296 + qr) % 4294967296) * (2 ^ 32 : Nat) := by
    rw [wu64]; omega
  rw [e, or_add_u64 32 (by omega) (by omega) (by omega) (by omega)]
  refine some_wd ?_ ?_
  · simp only [wu64, wi64]; unfold hi; omega
  · unfold lo; omega

theorem f_Add (F : Nat) {a b c d : Int} (hb : U64 b) (hd : U64 d) : f_wide_Add F a b c d = some (wd (val a b + val c d)) := by
  unfold f_wide_Add
  unfold U64 at hb hd
  simp only [wu64, wi64]
  by_cases h : (b + d) % 18446744073709551616 < b
  · refine bp (dt h) (some_wd ?_ ?_)
    · unfold hi val; omega
    · unfold lo val; omega
  · refine bn (df h) (some_wd ?_ ?_)
    · unfold hi val; omega
    · unfold lo val; omega

theorem f_Neg (F : Nat) {a b : Int} (ha : I64 a) (hb : U64 b) : f_wide_Neg F a b = some (wd (-val a b)) := by
  unfold f_wide_Neg
  rw [not_i64 ha, not_u64 hb]
  unfold U64 at hb
  obtain ⟨h1, h2, h3⟩ := k_wide_Add F _ _ _ _ (f_Add F (a := -1 - a) (b := 18446744073709551615 - b) (c := 0) (d := 1) (by unfold U64; omega) (by unfold U64; omega))
  refine bp h1 ?_
  rw [h2, h3]
  refine some_wd (hi_eqv ?_) (lo_eqv ?_)
  all_goals unfold Eqv val; omega

theorem f_Mul (F : Nat) {a b : Int} (ha : I64 a) (hb : I64 b) : f_wide_Mul F a b = some (wd (a * b)) := by
  unfold f_wide_Mul
  obtain ⟨h1, h2⟩ := k_wide_bare F a (f_bare F ha)
  obtain ⟨h3, h4⟩ := k_wide_bare F b (f_bare F hb)
  unfold I64 at ha hb
  refine bp h1 (bp h3 ?_)
  simp only [h2, h4]
  obtain ⟨p1, p2, p3⟩ := k_wide_product F _ _ (f_product F (a := if a < 0 then -a else a) (b := if b < 0 then -b else b) (by unfold U64; split <;> omega) (by unfold U64; split <;> omega))
  refine bp p1 ?_
  simp only [p2, p3]
  have neg : ∀ z : Int, (bif ok_wide_Neg F (hi z) (lo z) then (some (.v (.agg #[.int .i64 (o_wide_Neg_0 F (hi z) (lo z)), .int .u64 (o_wide_Neg_1 F (hi z) (lo z))])) : R) else none) = some (wd (-z)) := by
    intro z
    obtain ⟨n1, n2, n3⟩ := k_wide_Neg F _ _ (f_Neg F (hi_I z) (lo_U z))
    refine bp n1 ?_
    rw [n2, n3, val_hl]
    exact some_wd (hi_eqv (W_eqv z).neg) (lo_eqv (W_eqv z).neg)
  by_cases h0 : a < 0 <;> by_cases k0 : b < 0
  · simp only [h0, k0, decide_true, if_true, BEq.rfl, Bool.not_true, cond_false, Int.neg_mul_neg]; rfl
  · simp only [h0, k0, decide_true, decide_false, if_true, if_false]
    refine bp (by decide) ?_
    rw [neg, Int.neg_mul, Int.neg_neg]
  · simp only [h0, k0, decide_true, decide_false, if_true, if_false]
    refine bp (by decide) ?_
    rw [neg, Int.mul_neg, Int.neg_neg]
  · simp only [h0, k0, decide_false, if_false, BEq.rfl, Bool.not_true, cond_false]; rfl
end Go.Xv
namespace Go.Xv
theorem some_bool {a b : Bool} (h : a = b) : (some (VV.v (.bool a)) : R) = some (.v (.bool b)) := by rw [h]
theorem nn (k : Nat) : (!decide ((k : Int) < 0)) = true := by rw [df (by omega)]; rfl
theorem p2min {m : Nat} (h : m ≤ 64) : min (Int.toNat (m : Int)) 64 = m := by omega

theorem f_Of (F : Nat) {n : Int} (h : I64 n) : f_wide_Of F n = some (wd n) := by
  unfold f_wide_Of
  unfold I64 at h
  refine some_wd ?_ ?_
  · rw [fdiv_pos _ (by decide)]; unfold hi; omega
  · rw [wu64]; rfl
theorem f_rOf (F : Nat) {n : Int} (h : I64 n) : f_ref01_Of F n = some (wd n) := by
  unfold f_ref01_Of
  unfold I64 at h
  by_cases h0 : n < 0
  · refine bp (dt h0) (some_wd ?_ ?_)
    · unfold hi; omega
    · rw [wu64]; rfl
  · refine bn (df h0) (some_wd ?_ ?_)
    · unfold hi; omega
    · rw [wu64]; rfl

/-- how far a number is shifted to the right at most -/
def cl (n : Int) : Nat := (if 127 < (if 0 > n then 0 else n) then 127 else (if 0 > n then 0 else n)).toNat
theorem f_Right (F : Nat) {a b n : Int} (ha : I64 a) (hb : U64 b) : f_wide_Right F a b n = some (wd (val a b / 2 ^ cl n)) := by
  unfold f_wide_Right cl
  dsimp only
  generalize hv : (if 127 < (if 0 > n then 0 else n) then (127 : Int) else (if 0 > n then 0 else n)) = v
  have hv2 : 0 ≤ v ∧ v ≤ 127 := by
    subst hv
    split <;> split <;> omega
  obtain ⟨m, rfl⟩ := Int.eq_ofNat_of_zero_le hv2.1
  simp only [Int.toNat_natCast]
  by_cases h : 64 ≤ m
  · refine bp (dt (by omega)) ?_
    rw [wi64_in (x := (m : Int) - 64) (by unfold I64; omega), show (m : Int) - 64 = ((m - 64 : Nat) : Int) by omega]
    refine bp (nn _) ?_
    rw [p2min (by omega), fdiv_pos _ (Int.le_of_lt (p2pos _))]
    obtain ⟨h1, h2, h3⟩ := k_wide_Of F _ (f_Of F (div_I64 ha (p2pos (m - 64))))
    refine bp h1 ?_
    rw [h2, h3, ← shr_great hb h]; rfl
  · refine bn (df (by omega)) ?_
    refine bp (nn _) (bp (nn _) ?_)
    rw [wi64_in (x := 64 - (m : Int)) (by unfold I64; omega), show 64 - (m : Int) = ((64 - m : Nat) : Int) by omega]
    refine bp (nn _) ?_
    rw [fdiv_pos _ (Int.le_of_lt (p2pos _)), fdiv_pos _ (Int.le_of_lt (p2pos _)), show min m 64 = m by omega, p2min (by omega), wu64, wu64]
    obtain ⟨h1, h2⟩ := shr_small ha hb (show m < 64 by omega)
    exact some_wd h1 h2

/-- over a power of two, to the nearest one -/
def near (z : Int) (m : Nat) : Int := if m = 0 then z else z / 2 ^ m + z / 2 ^ (m - 1) % 2
theorem cl_pred {n : Int} (h : 0 < n) (h2 : n ≤ 127) : cl (n - 1) = cl n - 1 := by
  unfold cl
  rw [if_neg (show ¬ 0 > n by omega), if_neg (show ¬ 0 > n - 1 by omega), if_neg (by omega), if_neg (by omega)]
  omega
theorem lo_mod2 (z : Int) : lo z % 2 = z % 2 := by unfold lo; omega
theorem f_Near (F : Nat) {a b n : Int} (ha : I64 a) (hb : U64 b) : f_wide_Near F a b n = some (wd (near (val a b) (cl n))) := by
  unfold f_wide_Near
  by_cases h : n ≤ 0
  · rw [if_neg (show ¬ 127 < n by omega)]
    refine bp (dt h) ?_
    have : cl n = 0 := by
      unfold cl
      rw [if_neg]
      · split <;> omega
      · split <;> omega
    rw [this]
    exact some_wd (hi_val ha hb).symm (lo_val hb).symm
  · generalize hv : (if 127 < n then 127 else n) = v
    have hc : cl n = cl v := by
      subst hv
      unfold cl
      by_cases hn : 127 < n
      · rw [if_pos hn, if_neg (show ¬ 0 > n by omega), if_pos hn]; decide
      · rw [if_neg hn]
    have hv1 : 0 < v ∧ v ≤ 127 := by subst hv; split <;> omega
    refine bn (df (by omega)) ?_
    obtain ⟨h1, h2, h3⟩ := k_wide_Right F _ _ _ (f_Right F (n := v) ha hb)
    refine bp h1 ?_
    rw [wi64_in (x := v - 1) (by unfold I64; omega)]
    obtain ⟨g1, g2, g3⟩ := k_wide_Right F _ _ _ (f_Right F (n := v - 1) ha hb)
    refine bp g1 ?_
    rw [h2, h3, g3, mask1_u64 (lo_U _), lo_mod2, cl_pred hv1.1 hv1.2, ← hc]
    have hm : cl n ≠ 0 := by
      rw [hc]
      unfold cl
      rw [if_neg (show ¬ 0 > v by omega), if_neg (by omega)]
      omega
    obtain ⟨k1, k2, k3⟩ := k_wide_Add F _ _ _ _ (f_Add F (a := hi (val a b / 2 ^ cl n)) (c := 0) (d := val a b / 2 ^ (cl n - 1) % 2) (lo_U (val a b / 2 ^ cl n)) (by unfold U64; omega))
    refine bp k1 ?_
    rw [k2, k3, val_hl]
    unfold near
    rw [if_neg hm]
    refine some_wd (hi_eqv ?_) (lo_eqv ?_)
    all_goals exact (W_eqv _).add (show Eqv (val 0 _) _ by unfold val; rw [Int.zero_mul, Int.zero_add]; exact rfl)

end Go.Xv
namespace Go.Xv
theorem lo_step (z : Int) (i : Nat) : IntKind.wrap .u64 (Int.tdiv (lo z / 2 ^ i) 2) = lo z / 2 ^ (i + 1) := by
  have h := lo_U z
  unfold U64 at h
  have h1 := Int.ediv_nonneg h.1 (Int.le_of_lt (p2pos i))
  have h2 := Int.ediv_le_self (2 ^ i) h.1
  rw [Int.tdiv_eq_ediv_of_nonneg h1, ediv2, wu64_in]
  have h3 := Int.ediv_nonneg h.1 (Int.le_of_lt (p2pos (i + 1)))
  have h4 := Int.ediv_le_self (2 ^ (i + 1)) h.1
  unfold U64; omega
theorem lo_bit (z : Int) {i : Nat} (h : i < 64) : IntKind.wrap .i64 (Int.tmod (lo z / 2 ^ i) 2) = dg z i := by
  have h0 := lo_U z
  unfold U64 at h0
  have h1 := Int.ediv_nonneg h0.1 (Int.le_of_lt (p2pos i))
  rw [Int.tmod_eq_emod_of_nonneg h1, dg_lo z h, wi64_in]
  have := dg_01 z i
  unfold I64; omega
theorem cap_ok (z : Int) (i : Nat) (h : i < 1000) : (((decide ((0 + (i * 1)) ≤ (ds z i).length)) && true) && (decide ((i + 1) * 9 ≤ bigger))) = true := by
  rw [ds_len, dt (by omega), dt (show (i + 1) * 9 ≤ bigger by unfold bigger; omega)]; rfl
theorem lp_Digits_0 (F : Nat) (ex) (z x0 x1 x5 x6 : Int) : ∀ (k n i : Nat) (x3 x4 : Int) (x7 : List VV), i + k = 64 → k < n → x3 = lo z / 2 ^ i → x4 = i → x7 = ds z i →
    L_ref01_Digits_0 F ex n x0 x1 i x3 x4 x5 x6 x7 = ex x0 x1 64 (lo z / 2 ^ 64) 64 x5 x6 (ds z 64)
  | _, 0, _, _, _, _, _, h, _, _, _ => absurd h (by omega)
  | 0, n + 1, i, _, _, _, h, _, rfl, rfl, rfl => by
    obtain rfl : i = 64 := by omega
    rw [L_ref01_Digits_0]
    unfold B_ref01_Digits_0
    exact bn (df (by omega)) rfl
  | k + 1, n + 1, i, _, _, _, h, hn, rfl, rfl, rfl => by
    rw [L_ref01_Digits_0]
    unfold B_ref01_Digits_0
    refine bp (dt (by omega)) (bp (cap_ok z _ (by omega)) ?_)
    refine lp_Digits_0 F ex z x0 x1 x5 x6 k n (i + 1) _ _ _ (by omega) (by omega) (lo_step z i) ?_ ?_
    · rw [wi64_in (by unfold I64; omega)]; push_cast; rfl
    · rw [ds_take, lo_bit z (by omega), ← ds_succ]
def up (z : Int) : Int := z / 18446744073709551616 % 18446744073709551616
theorem lp_Digits_1 (F : Nat) (ex) (z x0 x1 x3 x4 x7 x8 : Int) : ∀ (k n i j : Nat) (x5 x6 : Int) (x9 : List VV), i + k = 64 → j = 64 + i → k < n → x5 = up z / 2 ^ i → x6 = i → x9 = ds z j →
    L_ref01_Digits_1 F ex n x0 x1 j x3 x4 x5 x6 x7 x8 x9 = ex x0 x1 128 x3 x4 (up z / 2 ^ 64) 64 x7 x8 (ds z 128)
  | _, 0, _, _, _, _, _, _, _, h, _, _, _ => absurd h (by omega)
  | 0, n + 1, i, j, _, _, _, h, hj, _, rfl, rfl, rfl => by
    obtain rfl : i = 64 := by omega
    obtain rfl : j = 128 := by omega
    rw [L_ref01_Digits_1]
    unfold B_ref01_Digits_1
    exact bn (df (by omega)) rfl
  | k + 1, n + 1, i, j, _, _, _, h, hj, hn, rfl, rfl, rfl => by
    rw [L_ref01_Digits_1]
    unfold B_ref01_Digits_1
    refine bp (dt (by omega)) (bp (cap_ok z _ (by omega)) ?_)
    have e : up z = lo (z / 18446744073709551616) := rfl
    refine lp_Digits_1 F ex z x0 x1 x3 x4 x7 x8 k n (i + 1) (j + 1) _ _ _ (by omega) (by omega) (by omega) ?_ ?_ ?_
    · rw [e, lo_step]
    · rw [wi64_in (by unfold I64; omega)]; push_cast; rfl
    · rw [ds_take, e, lo_bit _ (by omega), ← dg_lo _ (by omega), ← e]
      unfold up
      rw [dg_hi z (by omega), ← hj, ← ds_succ]
theorem f_Digits (F : Nat) (hF : 200 ≤ F) {a b : Int} (hb : U64 b) : f_ref01_Digits F a b = some (.fs (ds (val a b) 128) 0 128 1) := by
  unfold f_ref01_Digits
  have hl := lo_val (h := a) hb
  rw [lp_Digits_0 F _ (val a b) a b a b 64 F 0 b 0 [] (by omega) (by omega) (by rw [hl]; simp) rfl rfl]
  rw [lp_Digits_1 F _ (val a b) a b _ _ _ _ 64 F 0 64 _ 0 _ (by omega) (by omega) (by omega) ?_ rfl rfl]
  rw [wu64]
  unfold up val
  unfold U64 at hb
  simp only [Int.pow_zero]
  omega

theorem num_iv (l : List VV) (i : Nat) (b : Int) (h : l[i]? = some (.v (.int .i64 b))) : isI .i64 l[i]? = true ∧ iv l[i]? = b := by
  rw [h]
  exact ⟨rfl, rfl⟩
theorem zmul (i : Nat) : (0 + ((Int.toNat (i : Int)) * 1)) = i := by simp
theorem lp_Number_0 (F : Nat) (ex) (z : Int) (l : List VV) (x1 : Nat) (x3 x6 x7 : Int) (h1 : 64 ≤ x1) (hl : ∀ i : Nat, i < 64 → l[i]? = some (.v (.int .i64 (dg z i)))) : ∀ (k n i : Nat) (x2 x4 x5 : Int), i + k = 64 → k < n → x2 = num z i → x4 = (2 ^ i) % 18446744073709551616 → x5 = i →
    L_ref01_Number_0 F ex n l x1 x2 x3 x4 x5 x6 x7 = ex l x1 (num z 64) x3 0 64 x6 x7
  | _, 0, _, _, _, _, _, h, _, _, _ => absurd h (by omega)
  | 0, n + 1, i, _, _, _, h, _, rfl, rfl, rfl => by
    obtain rfl : i = 64 := by omega
    rw [L_ref01_Number_0]
    unfold B_ref01_Number_0
    exact bn (df (by omega)) rfl
  | k + 1, n + 1, i, _, _, _, h, hn, rfl, rfl, rfl => by
    have hi : i < 64 := by omega
    obtain ⟨g1, g2⟩ := num_iv l i _ (hl i hi)
    have hd := dg_01 z i
    have hp := p2pos i
    have hp2 := p2_lt64 hi
    have hb := num_bd z i
    rw [L_ref01_Number_0]
    unfold B_ref01_Number_0
    refine bp (dt (by omega)) (bp (dt (by omega)) (bp (by simp; omega) (bp (by rw [zmul, g1]; rfl) ?_)))
    rw [zmul, g2, wu64_in (x := dg z i) (by unfold U64; omega)]
    refine lp_Number_0 F ex z l x1 x3 x6 x7 h1 hl k n (i + 1) _ _ _ (by omega) (by omega) ?_ ?_ ?_
    · rw [num_succ]
      generalize (2 : Int) ^ i = P at *
      rw [Int.emod_eq_of_lt (a := P) (by omega) (by omega)]
      have : 0 ≤ dg z i * P ∧ dg z i * P ≤ P := by
        rcases (show dg z i = 0 ∨ dg z i = 1 by omega) with h | h <;> rw [h] <;> omega
      rw [wu64_in (x := dg z i * P) (by unfold U64; omega), wu64_in (by unfold U64; omega)]
    · rw [wu64, Int.pow_succ]
      omega
    · rw [wi64_in (by unfold I64; omega)]; push_cast; rfl
theorem lp_Number_1 (F : Nat) (ex) (z : Int) (l : List VV) (x1 : Nat) (x2 x5 x7 x8 : Int) (h1 : 128 ≤ x1) (hl : ∀ i : Nat, i < 64 → l[64 + i]? = some (.v (.int .i64 (dg z i)))) : ∀ (k n i : Nat) (x3 x4 x6 : Int), i + k = 64 → k < n → x3 = num z i → x4 = (2 ^ i) % 18446744073709551616 → x6 = 64 + i →
    L_ref01_Number_1 F ex n l x1 x2 x3 x4 x5 x6 x7 x8 = ex l x1 x2 (num z 64) 0 x5 128 x7 x8
  | _, 0, _, _, _, _, _, h, _, _, _ => absurd h (by omega)
  | 0, n + 1, i, _, _, _, h, _, rfl, rfl, rfl => by
    obtain rfl : i = 64 := by omega
    rw [L_ref01_Number_1]
    unfold B_ref01_Number_1
    exact bn (df (by omega)) rfl
  | k + 1, n + 1, i, _, _, _, h, hn, rfl, rfl, rfl => by
    have hi : i < 64 := by omega
    obtain ⟨g1, g2⟩ := num_iv l (64 + i) _ (hl i hi)
    have hd := dg_01 z i
    have hp := p2pos i
    have hp2 := p2_lt64 hi
    have hb := num_bd z i
    have zm : (0 + ((Int.toNat (64 + (i : Int))) * 1)) = 64 + i := by omega
    rw [L_ref01_Number_1]
    unfold B_ref01_Number_1
    refine bp (dt (by omega)) (bp (dt (by omega)) (bp (by simp; omega) (bp (by rw [zm, g1]; rfl) ?_)))
    rw [zm, g2, wu64_in (x := dg z i) (by unfold U64; omega)]
    refine lp_Number_1 F ex z l x1 x2 x5 x7 x8 h1 hl k n (i + 1) _ _ _ (by omega) (by omega) ?_ ?_ ?_
    · rw [num_succ]
      generalize (2 : Int) ^ i = P at *
      rw [Int.emod_eq_of_lt (a := P) (by omega) (by omega)]
      have : 0 ≤ dg z i * P ∧ dg z i * P ≤ P := by
        rcases (show dg z i = 0 ∨ dg z i = 1 by omega) with h | h <;> rw [h] <;> omega
      rw [wu64_in (x := dg z i * P) (by unfold U64; omega), wu64_in (by unfold U64; omega)]
    · rw [wu64, Int.pow_succ]
      omega
    · rw [wi64_in (by unfold I64; omega)]; push_cast; omega
theorem dg_up (z : Int) (i : Nat) : dg z (64 + i) = dg (z / 18446744073709551616) i := by
  unfold dg
  rw [show (18446744073709551616 : Int) = 2 ^ 64 by decide, Int.ediv_ediv_of_nonneg (by decide), p2add]
theorem f_Number (F : Nat) (hF : 200 ≤ F) (z : Int) : f_ref01_Number F (ds z 128) 128 = some (wd z) := by
  unfold f_ref01_Number
  rw [lp_Number_0 F _ z (ds z 128) 128 0 0 0 (by omega) (fun i hi => ds_get z (by omega)) 64 F 0 0 1 0 (by omega) (by omega) (num_zero z).symm (by decide) rfl]
  rw [lp_Number_1 F _ (z / 18446744073709551616) (ds z 128) 128 _ _ _ _ (by omega) (fun i hi => by rw [ds_get z (by omega), dg_up]) 64 F 0 0 1 64 (by omega) (by omega) (num_zero _).symm (by decide) rfl]
  refine some_wd ?_ ?_
  · rw [wi64]; unfold num hi
    rw [show (2 : Int) ^ 64 = 18446744073709551616 by decide]
    omega
  · unfold num lo
    rw [show (2 : Int) ^ 64 = 18446744073709551616 by decide]
end Go.Xv
namespace Go.Xv
theorem wi64_s (i : Nat) (h : i < 1000) : IntKind.wrap .i64 ((i : Int) + 1) = ((i + 1 : Nat) : Int) := by
  rw [wi64_in (by unfold I64; omega)]; push_cast; rfl
theorem ix_ok (i n : Nat) (h : i < n) : ((decide (0 ≤ (i : Int))) && (decide ((i : Int) < ((n : Nat) : Int)))) = true := by
  rw [dt (by omega), dt (by omega)]; rfl
theorem isI_ds (z : Int) {i n : Nat} (h : i < n) : ((isI .i64 (ds z n)[0 + ((Int.toNat (i : Int)) * 1)]?) && true) = true := by
  rw [zmul, ds_get z h]; rfl
theorem iv_ds (z : Int) {i n : Nat} (h : i < n) : iv (ds z n)[0 + ((Int.toNat (i : Int)) * 1)]? = dg z i := by
  rw [zmul, ds_get z h]; rfl
theorem lp_Add_0 (F : Nat) (ex) (x y a b c d x9 x10 x11 x12 x13 x14 : Int) : ∀ (k n i : Nat) (x7 x8 : Int) (l : List VV), i + k = 128 → k < n → x7 = cy x y i → x8 = i → l = ds (x + y) i →
    L_ref01_Add_0 F ex n a b c d 128 128 i x7 x8 x9 x10 x11 x12 x13 x14 (ds x 128) (ds y 128) l = ex a b c d 128 128 128 (cy x y 128) 128 x9 x10 x11 x12 x13 x14 (ds x 128) (ds y 128) (ds (x + y) 128)
  | _, 0, _, _, _, _, _, h, _, _, _ => absurd h (by omega)
  | 0, n + 1, i, _, _, _, h, _, rfl, rfl, rfl => by
    obtain rfl : i = 128 := by omega
    rw [L_ref01_Add_0]
    unfold B_ref01_Add_0
    exact bn (df (by omega)) rfl
  | k + 1, n + 1, i, _, _, _, h, hn, rfl, rfl, rfl => by
    have hi : i < 128 := by omega
    rw [L_ref01_Add_0]
    unfold B_ref01_Add_0
    have h1 := dg_01 x i
    have h2 := dg_01 y i
    have h3 := cy_01 x y i
    obtain ⟨e1, e2⟩ := cy_succ x y i
    refine bp (dt (by omega)) (bp (ix_ok i 128 hi) (bp (isI_ds x hi) (bp (ix_ok i 128 hi) (bp (isI_ds y hi) ?_))))
    dsimp only
    rw [iv_ds x hi, iv_ds y hi, wi64_in (x := dg x i + dg y i) (by unfold I64; omega), wi64_in (x := dg x i + dg y i + cy x y i) (by unfold I64; omega)]
    refine bp (cap_ok _ _ (by omega)) ?_
    refine lp_Add_0 F ex x y a b c d x9 x10 x11 x12 x13 x14 k n (i + 1) _ _ _ (by omega) (by omega) ?_ (wi64_s i (by omega)) ?_
    · rw [Int.tdiv_eq_ediv_of_nonneg (by omega), ← e1, wi64_in]
      have := cy_01 x y (i + 1)
      unfold I64; omega
    · rw [ds_take, Int.tmod_eq_emod_of_nonneg (by omega), ← e2, ← ds_succ]
theorem f_rAdd (F : Nat) (hF : 200 ≤ F) {a b c d : Int} (hb : U64 b) (hd : U64 d) : f_ref01_Add F a b c d = some (wd (val a b + val c d)) := by
  unfold f_ref01_Add
  obtain ⟨h1, h2, h3⟩ := k_ref01_Digits F _ _ (f_Digits F hF (a := a) hb)
  obtain ⟨g1, g2, g3⟩ := k_ref01_Digits F _ _ (f_Digits F hF (a := c) hd)
  refine bp h1 (bp g1 ?_)
  rw [h2, h3, g2, g3]
  rw [lp_Add_0 F _ (val a b) (val c d) a b c d a b c d 0 0 128 F 0 0 0 [] (by omega) (by omega) (cy_zero _ _).symm rfl rfl]
  obtain ⟨n1, n2, n3⟩ := k_ref01_Number F _ _ (f_Number F hF (val a b + val c d))
  refine bp n1 ?_
  rw [n2, n3]; rfl
theorem lp_Neg_0 (F : Nat) (ex) (z x0 x1 x4 x5 x6 x7 : Int) : ∀ (k n i : Nat) (x3 : Int) (l : List VV), i + k = 128 → k < n → x3 = i → l = ds (-1 - z) i ++ (ds z 128).drop i →
    L_ref01_Neg_0 F ex n x0 x1 128 x3 x4 x5 x6 x7 l = ex x0 x1 128 128 x4 x5 x6 x7 (ds (-1 - z) 128)
  | _, 0, _, _, _, _, h, _, _ => absurd h (by omega)
  | 0, n + 1, i, _, _, h, _, rfl, rfl => by
    obtain rfl : i = 128 := by omega
    rw [L_ref01_Neg_0]
    unfold B_ref01_Neg_0
    refine bn (df (by omega)) ?_
    rw [List.drop_eq_nil_of_le (by rw [ds_len]; omega), List.append_nil]; rfl
  | k + 1, n + 1, i, _, _, h, hn, rfl, rfl => by
    have hi : i < 128 := by omega
    have hg : (ds (-1 - z) i ++ (ds z 128).drop i)[0 + ((Int.toNat (i : Int)) * 1)]? = some (.v (.int .i64 (dg z i))) := by
      rw [zmul, List.getElem?_append_right (by rw [ds_len]; omega), ds_len, Nat.sub_self, List.getElem?_drop, Nat.add_zero, ds_get z hi]
    rw [L_ref01_Neg_0]
    unfold B_ref01_Neg_0
    have h1 := dg_01 z i
    refine bp (dt (by omega)) (bp (ix_ok i 128 hi) (bp (by rw [hg]; rfl) (bp (ix_ok i 128 hi) (bp ?_ ?_))))
    · rw [zmul, dt]
      rw [List.length_append, List.length_drop, ds_len, ds_len]; omega
    · rw [hg]
      refine lp_Neg_0 F ex z x0 x1 x4 x5 x6 x7 k n (i + 1) _ _ (by omega) (by omega) (wi64_s i (by omega)) ?_
      rw [zmul, show iv (some (VV.v (.int .i64 (dg z i)))) = dg z i from rfl, wi64_in (by unfold I64; omega), ← dg_not, ds_succ (-1 - z) i]
      rw [List.take_append_of_le_length (by rw [ds_len]; omega), List.take_of_length_le (by rw [ds_len]; omega), List.drop_append, ds_len, List.drop_drop, List.drop_eq_nil_of_le (by rw [ds_len]; omega)]
      rw [show i + (i + 1 - i) = i + 1 by omega]
      simp
theorem f_rNeg (F : Nat) (hF : 200 ≤ F) {a b : Int} (hb : U64 b) : f_ref01_Neg F a b = some (wd (-val a b)) := by
  unfold f_ref01_Neg
  obtain ⟨h1, h2, h3⟩ := k_ref01_Digits F _ _ (f_Digits F hF (a := a) hb)
  refine bp h1 ?_
  rw [h2, h3]
  rw [lp_Neg_0 F _ (val a b) a b a b 0 0 128 F 0 0 _ (by omega) (by omega) rfl (by simp [ds_zero])]
  obtain ⟨n1, n2, n3⟩ := k_ref01_Number F _ _ (f_Number F hF (-1 - val a b))
  refine bp n1 ?_
  dsimp only
  obtain ⟨o1, o2, o3⟩ := k_ref01_Of F _ (f_rOf F (n := 1) (by unfold I64; omega))
  refine bp o1 ?_
  rw [n2, n3, o2, o3]
  obtain ⟨p1, p2, p3⟩ := k_ref01_Add F _ _ _ _ (f_rAdd F hF (a := hi (-1 - val a b)) (c := hi 1) (lo_U (-1 - val a b)) (lo_U 1))
  refine bp p1 ?_
  rw [p2, p3]
  have e : Eqv (val (hi (-1 - val a b)) (lo (-1 - val a b)) + val (hi 1) (lo 1)) (-val a b) := by
    rw [val_hl, val_hl]
    have := (W_eqv (-1 - val a b)).add (W_eqv 1)
    rw [show -1 - val a b + 1 = -val a b by omega] at this
    exact this
  exact some_wd (hi_eqv e) (lo_eqv e)
end Go.Xv
namespace Go.Xv
theorem a_Add (F : Nat) (x y : Int) : ok_wide_Add F (hi x) (lo x) (hi y) (lo y) = true ∧ o_wide_Add_0 F (hi x) (lo x) (hi y) (lo y) = hi (x + y) ∧ o_wide_Add_1 F (hi x) (lo x) (hi y) (lo y) = lo (x + y) := by
  obtain ⟨h1, h2, h3⟩ := k_wide_Add F _ _ _ _ (f_Add F (a := hi x) (c := hi y) (lo_U x) (lo_U y))
  rw [h2, h3, val_hl, val_hl]
  have e := (W_eqv x).add (W_eqv y)
  exact ⟨h1, hi_eqv e, lo_eqv e⟩
theorem a_rAdd (F : Nat) (hF : 200 ≤ F) (x y : Int) : ok_ref01_Add F (hi x) (lo x) (hi y) (lo y) = true ∧ o_ref01_Add_0 F (hi x) (lo x) (hi y) (lo y) = hi (x + y) ∧ o_ref01_Add_1 F (hi x) (lo x) (hi y) (lo y) = lo (x + y) := by
  obtain ⟨h1, h2, h3⟩ := k_ref01_Add F _ _ _ _ (f_rAdd F hF (a := hi x) (c := hi y) (lo_U x) (lo_U y))
  rw [h2, h3, val_hl, val_hl]
  have e := (W_eqv x).add (W_eqv y)
  exact ⟨h1, hi_eqv e, lo_eqv e⟩
theorem a_rNeg (F : Nat) (hF : 200 ≤ F) (x : Int) : ok_ref01_Neg F (hi x) (lo x) = true ∧ o_ref01_Neg_0 F (hi x) (lo x) = hi (-x) ∧ o_ref01_Neg_1 F (hi x) (lo x) = lo (-x) := by
  obtain ⟨h1, h2, h3⟩ := k_ref01_Neg F _ _ (f_rNeg F hF (a := hi x) (lo_U x))
  rw [h2, h3, val_hl]
  exact ⟨h1, hi_eqv (W_eqv x).neg, lo_eqv (W_eqv x).neg⟩
theorem a_Of (F : Nat) {n : Int} (h : I64 n) : ok_wide_Of F n = true ∧ o_wide_Of_0 F n = hi n ∧ o_wide_Of_1 F n = lo n := k_wide_Of F _ (f_Of F h)
theorem a_rOf (F : Nat) {n : Int} (h : I64 n) : ok_ref01_Of F n = true ∧ o_ref01_Of_0 F n = hi n ∧ o_ref01_Of_1 F n = lo n := k_ref01_Of F _ (f_rOf F h)
theorem a_Mul (F : Nat) {a b : Int} (ha : I64 a) (hb : I64 b) : ok_wide_Mul F a b = true ∧ o_wide_Mul_0 F a b = hi (a * b) ∧ o_wide_Mul_1 F a b = lo (a * b) := k_wide_Mul F _ _ (f_Mul F ha hb)
theorem a_Near (F : Nat) {x : Int} (n : Int) (h : W128 x) : ok_wide_Near F (hi x) (lo x) n = true ∧ o_wide_Near_0 F (hi x) (lo x) n = hi (near x (cl n)) ∧ o_wide_Near_1 F (hi x) (lo x) n = lo (near x (cl n)) := by
  have := k_wide_Near F _ _ n (f_Near F (n := n) (hi_I x) (lo_U x))
  rw [val_hl, W_in h] at this
  exact this
theorem lp_Mul_0 (F : Nat) (hF : 200 ≤ F) (ex) (a b x0 x1 x4 x5 : Int) : ∀ (k n i : Nat) (x3 x6 x7 x8 x9 : Int), i + k = 127 → k < n → x3 = i → x6 = hi (a * num b i) → x7 = lo (a * num b i) → x8 = hi (a * 2 ^ i) → x9 = lo (a * 2 ^ i) →
    L_ref01_Mul_0 F ex n x0 x1 128 x3 x4 x5 x6 x7 x8 x9 (ds b 128) = ex x0 x1 128 127 x4 x5 (hi (a * num b 127)) (lo (a * num b 127)) (hi (a * 2 ^ 127)) (lo (a * 2 ^ 127)) (ds b 128)
  | _, 0, _, _, _, _, _, _, _, h, _, _, _, _, _ => absurd h (by omega)
  | 0, n + 1, i, _, _, _, _, _, h, _, rfl, rfl, rfl, rfl, rfl => by
    obtain rfl : i = 127 := by omega
    rw [L_ref01_Mul_0]
    unfold B_ref01_Mul_0
    exact bn (df (by omega)) rfl
  | k + 1, n + 1, i, _, _, _, _, _, h, hn, rfl, rfl, rfl, rfl, rfl => by
    have hi' : i < 128 := by omega
    rw [L_ref01_Mul_0]
    unfold B_ref01_Mul_0
    refine bp (dt (by omega)) (bp (ix_ok i 128 hi') (bp (isI_ds b hi') ?_))
    rw [iv_ds b hi']
    obtain ⟨d1, d2, d3⟩ := a_rAdd F hF (a * 2 ^ i) (a * 2 ^ i)
    have e2 : a * 2 ^ i + a * 2 ^ i = a * 2 ^ (i + 1) := by rw [Int.pow_succ, ← Int.mul_assoc]; omega
    rw [e2] at d2 d3
    rcases (show dg b i = 0 ∨ dg b i = 1 by have := dg_01 b i; omega) with hd | hd
    · refine bn (by rw [hd]; rfl) (bp d1 ?_)
      have e : num b (i + 1) = num b i := by rw [num_succ, hd]; omega
      exact lp_Mul_0 F hF ex a b x0 x1 x4 x5 k n (i + 1) _ _ _ _ _ (by omega) (by omega) (wi64_s i (by omega)) (by rw [e]) (by rw [e]) d2 d3
    · obtain ⟨c1, c2, c3⟩ := a_rAdd F hF (a * num b i) (a * 2 ^ i)
      have e : a * num b i + a * 2 ^ i = a * num b (i + 1) := by rw [num_succ, hd, Int.mul_add, Int.one_mul]
      rw [e] at c2 c3
      refine bp (by rw [hd]; rfl) (bp c1 (bp d1 ?_))
      exact lp_Mul_0 F hF ex a b x0 x1 x4 x5 k n (i + 1) _ _ _ _ _ (by omega) (by omega) (wi64_s i (by omega)) c2 c3 d2 d3
theorem num_127 {b : Int} (h : W128 b) : b = num b 127 - dg b 127 * 2 ^ 127 := by
  unfold num dg
  unfold W128 at h
  rw [show (2 : Int) ^ 127 = 170141183460469231731687303715884105728 by decide]
  omega
theorem I64_W {b : Int} (h : I64 b) : W128 b := by unfold I64 at h; unfold W128; omega
theorem f_rMul (F : Nat) (hF : 200 ≤ F) {a b : Int} (ha : I64 a) (hb : I64 b) : f_ref01_Mul F a b = some (wd (a * b)) := by
  unfold f_ref01_Mul
  obtain ⟨h1, h2, h3⟩ := a_rOf F ha
  obtain ⟨g1, g2, g3⟩ := a_rOf F hb
  obtain ⟨d1, d2, d3⟩ := k_ref01_Digits F _ _ (f_Digits F hF (a := hi b) (lo_U b))
  rw [val_hl, W_in (I64_W hb)] at d2
  refine bp h1 (bp g1 ?_)
  rw [g2, g3, h2, h3]
  refine bp d1 ?_
  rw [d2, d3]
  rw [lp_Mul_0 F hF _ a b a b 0 0 127 F 0 0 0 0 _ _ (by omega) (by omega) rfl (by rw [num_zero, Int.mul_zero]; rfl) (by rw [num_zero, Int.mul_zero]; rfl) (by rw [Int.pow_zero, Int.mul_one]) (by rw [Int.pow_zero, Int.mul_one])]
  have hn := num_127 (I64_W hb)
  refine bp (dt (by decide)) (bp (isI_ds b (i := 127) (by omega)) ?_)
  have hg : iv (ds b 128)[127]? = dg b 127 := by rw [ds_get b (by omega)]; rfl
  rw [hg]
  rcases (show dg b 127 = 0 ∨ dg b 127 = 1 by have := dg_01 b 127; omega) with hd | hd
  · refine bn (by rw [hd]; rfl) ?_
    rw [hd] at hn
    rw [show num b 127 = b by omega]; rfl
  · obtain ⟨n1, n2, n3⟩ := a_rNeg F hF (a * 2 ^ 127)
    refine bp (by rw [hd]; rfl) (bp n1 ?_)
    rw [n2, n3]
    obtain ⟨c1, c2, c3⟩ := a_rAdd F hF (a * num b 127) (-(a * 2 ^ 127))
    refine bp c1 ?_
    rw [c2, c3]
    rw [hd] at hn
    have e : a * num b 127 + -(a * 2 ^ 127) = a * b := by
      rw [show num b 127 = b + 2 ^ 127 by omega, Int.mul_add]; omega
    rw [e]; rfl
theorem a_rMul (F : Nat) (hF : 200 ≤ F) {a b : Int} (ha : I64 a) (hb : I64 b) : ok_ref01_Mul F a b = true ∧ o_ref01_Mul_0 F a b = hi (a * b) ∧ o_ref01_Mul_1 F a b = lo (a * b) := k_ref01_Mul F _ _ (f_rMul F hF ha hb)
end Go.Xv
namespace Go.Xv
theorem f_rLess (F : Nat) {a b c d : Int} (hb : U64 b) (hd : U64 d) : f_ref01_Less F a b c d = some (.v (.bool (decide (val a b < val c d)))) := by
  unfold f_ref01_Less val
  unfold U64 at hb hd
  by_cases h : a < c
  · refine bp (dt h) (some_bool ?_)
    exact (dt (by omega)).symm
  · refine bn (df h) ?_
    by_cases h2 : a = c
    · refine bp (by simp [h2]) (some_bool ?_)
      rw [decide_eq_decide]; omega
    · refine bn (by simp [h2]) (some_bool ?_)
      exact (df (by omega)).symm
theorem W_div {y : Int} (h : W128 y) (i : Nat) : W128 (y / 2 ^ i) := by
  have hP := p2pos i
  unfold W128 at *
  generalize (2 : Int) ^ i = P at *
  rcases Int.lt_or_le y 0 with hn | hn
  · constructor
    · rw [Int.le_ediv_iff_mul_le hP]
      have : -170141183460469231731687303715884105728 * P ≤ -170141183460469231731687303715884105728 * 1 := Int.mul_le_mul_of_nonpos_left (by omega) (by omega)
      omega
    · have := Int.ediv_neg_of_neg_of_pos hn hP
      omega
  · have h1 := Int.ediv_nonneg hn (Int.le_of_lt hP)
    have h2 := Int.ediv_le_self P hn
    omega
theorem dg_half (y : Int) (j : Nat) : dg (y / 2) j = dg y (j + 1) := by
  unfold dg
  rw [Int.ediv_ediv_of_nonneg (by decide), show (2 : Int) * 2 ^ j = 2 ^ (j + 1) by rw [Int.pow_succ, Int.mul_comm]]
theorem dg_sign {y : Int} (h : W128 y) : dg (y / 2) 127 = dg y 127 := by
  unfold dg
  unfold W128 at h
  rw [show (2 : Int) ^ 127 = 170141183460469231731687303715884105728 by decide]
  omega
theorem ds_shift {y : Int} (h : W128 y) : ((ds y 128).drop 1).take (127 * 1) ++ [.v (.int .i64 (dg y 127))] = ds (y / 2) 128 := by
  apply List.ext_getElem?
  intro i
  rcases Nat.lt_or_ge i 127 with hi | hi
  · rw [List.getElem?_append_left (by simp [ds_len]; omega), List.getElem?_take, if_pos (by omega), List.getElem?_drop, ds_get _ (by omega), ds_get _ (by omega), dg_half, Nat.add_comm]
  · rcases Nat.lt_or_ge i 128 with hi2 | hi2
    · obtain rfl : i = 127 := by omega
      rw [List.getElem?_append_right (by simp [ds_len]), ds_get _ (by omega), dg_sign h]
      simp [ds_len]
    · rw [List.getElem?_eq_none (by simp [ds_len]; omega), List.getElem?_eq_none (by rw [ds_len]; omega)]
theorem lp_Right_0 (F : Nat) (ex) {z : Int} (hz : W128 z) (x0 x1 x2 x6 x7 x8 x9 : Int) (m : Nat) (hm : (if 127 < x2 then 127 else x2) ≤ (m : Int)) (hm2 : (m : Int) ≤ 0 ∨ (m : Int) = (if 127 < x2 then 127 else x2)) (h128 : m ≤ 127) : ∀ (k n i : Nat) (x4 x5 : Int) (l : List VV), i + k = m → k < n → x4 = dg z 127 → x5 = i → l = ds (z / 2 ^ i) 128 →
    L_ref01_Right_0 F ex n x0 x1 x2 128 x4 x5 x6 x7 x8 x9 l = ex x0 x1 x2 128 (dg z 127) m x6 x7 x8 x9 (ds (z / 2 ^ m) 128)
  | _, 0, _, _, _, _, _, h, _, _, _ => absurd h (by omega)
  | 0, n + 1, i, _, _, _, h, _, rfl, rfl, rfl => by
    obtain rfl : i = m := by omega
    rw [L_ref01_Right_0]
    unfold B_ref01_Right_0
    exact bn (df (by omega)) rfl
  | k + 1, n + 1, i, _, _, _, h, hn, rfl, rfl, rfl => by
    rw [L_ref01_Right_0]
    unfold B_ref01_Right_0
    have hy := W_div hz i
    have hs : dg z 127 = dg (z / 2 ^ i) 127 := by
      have : ∀ j, dg (z / 2 ^ j) 127 = dg z 127 := by
        intro j
        induction j with
        | zero => simp
        | succ j ih => rw [← ediv2, dg_sign (W_div hz j), ih]
      exact (this i).symm
    refine bp (dt (by omega)) (bp rfl (bp ?_ ?_))
    · rw [ds_len, dt (by omega), dt (by unfold bigger; omega)]; rfl
    · refine lp_Right_0 F ex hz x0 x1 x2 x6 x7 x8 x9 m hm hm2 h128 k n (i + 1) _ _ _ (by omega) (by omega) rfl (wi64_s i (by omega)) ?_
      rw [hs, ds_shift hy, ediv2]
theorem f_rRight (F : Nat) (hF : 200 ≤ F) {a b n : Int} (ha : I64 a) (hb : U64 b) : f_ref01_Right F a b n = some (wd (val a b / 2 ^ cl n)) := by
  unfold f_ref01_Right
  obtain ⟨d1, d2, d3⟩ := k_ref01_Digits F _ _ (f_Digits F hF (a := a) hb)
  refine bp d1 ?_
  rw [d2, d3]
  refine bp (dt (by decide)) (bp (isI_ds (val a b) (i := 127) (by omega)) ?_)
  have hg : iv (ds (val a b) 128)[127]? = dg (val a b) 127 := by rw [ds_get _ (by omega)]; rfl
  have hm : ∃ m : Nat, (if 127 < n then 127 else n) ≤ (m : Int) ∧ ((m : Int) ≤ 0 ∨ (m : Int) = (if 127 < n then 127 else n)) ∧ m ≤ 127 ∧ cl n = m := by
    refine ⟨cl n, ?_⟩
    unfold cl
    by_cases h : 127 < n
    · rw [if_pos h, if_neg (show ¬ 0 > n by omega), if_pos h]; omega
    · rw [if_neg h]
      by_cases h2 : 0 > n
      · rw [if_pos h2, if_neg (by omega)]; omega
      · rw [if_neg h2, if_neg h]; omega
  obtain ⟨m, h1, h2, h3, h4⟩ := hm
  rw [lp_Right_0 F _ (val_W ha hb) a b n a b 0 0 m h1 h2 h3 m F 0 _ 0 _ (by omega) (by omega) hg rfl (by rw [Int.pow_zero, Int.ediv_one])]
  obtain ⟨n1, n2, n3⟩ := k_ref01_Number F _ _ (f_Number F hF (val a b / 2 ^ m))
  refine bp n1 ?_
  rw [n2, n3, h4]; rfl
theorem f_rNear (F : Nat) (hF : 200 ≤ F) {a b n : Int} (ha : I64 a) (hb : U64 b) : f_ref01_Near F a b n = some (wd (near (val a b) (cl n))) := by
  unfold f_ref01_Near
  by_cases h : n ≤ 0
  · rw [if_neg (show ¬ 127 < n by omega)]
    refine bp (dt h) ?_
    have : cl n = 0 := by
      unfold cl
      rw [if_neg]
      · split <;> omega
      · split <;> omega
    rw [this]
    exact some_wd (hi_val ha hb).symm (lo_val hb).symm
  · generalize hv : (if 127 < n then 127 else n) = v
    have hc : cl n = cl v := by
      subst hv
      unfold cl
      by_cases hn : 127 < n
      · rw [if_pos hn, if_neg (show ¬ 0 > n by omega), if_pos hn]; decide
      · rw [if_neg hn]
    have hv1 : 0 < v ∧ v ≤ 127 := by subst hv; split <;> omega
    obtain ⟨m, rfl⟩ : ∃ m : Nat, v = ((m + 1 : Nat) : Int) := ⟨(v - 1).toNat, by omega⟩
    have hcv : cl ((m + 1 : Nat) : Int) = m + 1 := by
      unfold cl
      rw [if_neg (show ¬ 0 > ((m + 1 : Nat) : Int) by omega), if_neg (by omega)]
      omega
    refine bn (df (by omega)) ?_
    obtain ⟨d1, d2, d3⟩ := k_ref01_Digits F _ _ (f_Digits F hF (a := a) hb)
    refine bp d1 ?_
    rw [d2, d3, wi64_in (x := ((m + 1 : Nat) : Int) - 1) (by unfold I64; omega), show ((m + 1 : Nat) : Int) - 1 = (m : Int) by omega]
    refine bp (ix_ok m 128 (by omega)) (bp (isI_ds _ (by omega)) ?_)
    rw [iv_ds _ (by omega)]
    obtain ⟨h1, h2, h3⟩ := k_ref01_Right F _ _ _ (f_rRight F hF (n := ((m + 1 : Nat) : Int)) ha hb)
    refine bp h1 ?_
    have hd := dg_01 (val a b) m
    obtain ⟨o1, o2, o3⟩ := a_rOf F (n := dg (val a b) m) (by unfold I64; omega)
    refine bp o1 ?_
    rw [h2, h3, o2, o3]
    obtain ⟨k1, k2, k3⟩ := a_rAdd F hF (val a b / 2 ^ cl ((m + 1 : Nat) : Int)) (dg (val a b) m)
    refine bp k1 ?_
    rw [k2, k3, hc, hcv]
    unfold near
    rw [if_neg (by omega), show m + 1 - 1 = m by omega]
    rfl
theorem a_rNear (F : Nat) (hF : 200 ≤ F) {x : Int} (n : Int) (h : W128 x) : ok_ref01_Near F (hi x) (lo x) n = true ∧ o_ref01_Near_0 F (hi x) (lo x) n = hi (near x (cl n)) ∧ o_ref01_Near_1 F (hi x) (lo x) n = lo (near x (cl n)) := by
  have := k_ref01_Near F _ _ n (f_rNear F hF (n := n) (hi_I x) (lo_U x))
  rw [val_hl, W_in h] at this
  exact this
end Go.Xv
namespace Go.Xv
def clipV (z : Int) : Int := if z < -9223372036854775808 then -9223372036854775808 else if 9223372036854775807 < z then 9223372036854775807 else z
def clipC (z : Int) : Bool := decide (z < -9223372036854775808 ∨ 9223372036854775807 < z)
theorem some_clip {n : Int} {c : Bool} {z : Int} (h : n = clipV z) (k : c = clipC z) : (some (VV.v (.tuple #[.int .i64 n, .bool c])) : R) = some (.v (.tuple #[.int .i64 (clipV z), .bool (clipC z)])) := by rw [h, k]
theorem f_Clip (F : Nat) {a b : Int} (ha : I64 a) (hb : U64 b) : f_wide_Clip F a b = some (.v (.tuple #[.int .i64 (clipV (val a b)), .bool (clipC (val a b))])) := by
  unfold f_wide_Clip
  dsimp only
  obtain ⟨o1, o2, o3⟩ := a_Of F (wi64_I b)
  refine bp o1 ?_
  rw [o2, o3, wi64]
  have hv : ∀ z, z = val a b → True := fun _ _ => trivial
  unfold I64 at ha
  unfold U64 at hb
  by_cases h : -9223372036854775808 ≤ val a b ∧ val a b ≤ 9223372036854775807
  · refine bp ?_ (some_clip ?_ ?_)
    · unfold val at h
      rw [Bool.and_eq_true, beq_iff_eq, beq_iff_eq]
      unfold hi lo; omega
    · unfold clipV
      rw [if_neg (by omega), if_neg (by omega)]
      unfold val at *; omega
    · unfold clipC
      exact (df (by omega)).symm
  · refine bn ?_ ?_
    · unfold val at h
      rw [Bool.and_eq_false_iff, beq_eq_false_iff_ne, beq_eq_false_iff_ne]
      unfold hi lo; omega
    · by_cases h2 : a < 0
      · refine bp (dt h2) (some_clip ?_ ?_)
        · unfold clipV
          rw [if_pos]
          unfold val at *; omega
        · unfold clipC
          refine (dt ?_).symm
          unfold val at *; omega
      · refine bn (df h2) (some_clip ?_ ?_)
        · unfold clipV
          rw [if_neg, if_pos]
          · unfold val at *; omega
          · unfold val at *; omega
        · unfold clipC
          refine (dt ?_).symm
          unfold val at *; omega
theorem f_rClip (F : Nat) {a b : Int} (ha : I64 a) (hb : U64 b) : f_ref01_Clip F a b = some (.v (.tuple #[.int .i64 (clipV (val a b)), .bool (clipC (val a b))])) := by
  unfold f_ref01_Clip
  dsimp only
  obtain ⟨o1, o2, o3⟩ := a_rOf F (n := -9223372036854775808) (by unfold I64; omega)
  obtain ⟨p1, p2, p3⟩ := a_rOf F (n := 9223372036854775807) (by unfold I64; omega)
  obtain ⟨l1, l2⟩ := k_ref01_Less F _ _ _ _ (f_rLess F (a := a) (c := hi (-9223372036854775808)) hb (lo_U (-9223372036854775808)))
  obtain ⟨m1, m2⟩ := k_ref01_Less F _ _ _ _ (f_rLess F (a := hi 9223372036854775807) (c := a) (lo_U 9223372036854775807) hb)
  rw [val_hl, W_in (by unfold W128; omega)] at l2 m2
  refine bp o1 ?_
  rw [o2, o3]
  refine bp l1 ?_
  rw [l2]
  by_cases h : val a b < -9223372036854775808
  · refine bp (dt h) (some_clip ?_ ?_)
    · unfold clipV; rw [if_pos h]
    · unfold clipC; exact (dt (.inl h)).symm
  · refine bn (df h) (bp p1 ?_)
    rw [p2, p3]
    refine bp m1 ?_
    rw [m2]
    by_cases h2 : 9223372036854775807 < val a b
    · refine bp (dt h2) (some_clip ?_ ?_)
      · unfold clipV; rw [if_neg h, if_pos h2]
      · unfold clipC; exact (dt (.inr h2)).symm
    · refine bn (df h2) (some_clip ?_ ?_)
      · unfold clipV
        rw [if_neg h, if_neg h2, wi64]
        unfold I64 at ha
        unfold U64 at hb
        unfold val at *; omega
      · unfold clipC; exact (df (by omega)).symm
theorem a_Clip (F : Nat) {x : Int} (h : W128 x) : ok_wide_Clip F (hi x) (lo x) = true ∧ o_wide_Clip_0 F (hi x) (lo x) = clipV x ∧ o_wide_Clip_1 F (hi x) (lo x) = clipC x := by
  have := k_wide_Clip F _ _ (f_Clip F (hi_I x) (lo_U x))
  rw [val_hl, W_in h] at this
  exact this
theorem a_rClip (F : Nat) {x : Int} (h : W128 x) : ok_ref01_Clip F (hi x) (lo x) = true ∧ o_ref01_Clip_0 F (hi x) (lo x) = clipV x ∧ o_ref01_Clip_1 F (hi x) (lo x) = clipC x := by
  have := k_ref01_Clip F _ _ (f_rClip F (hi_I x) (lo_U x))
  rw [val_hl, W_in h] at this
  exact this

end Go.Xv
namespace Go.Xv
theorem mul_bd {a b : Int} (ha : I64 a) (hb : I64 b) : -85070591730234615865843651857942052864 ≤ a * b ∧ a * b ≤ 85070591730234615865843651857942052864 := by
  unfold I64 at ha hb
  have h : (a * b).natAbs ≤ 9223372036854775808 * 9223372036854775808 := by
    rw [Int.natAbs_mul]
    exact Nat.mul_le_mul (by omega) (by omega)
  omega
theorem mul_W {a b : Int} (ha : I64 a) (hb : I64 b) : W128 (a * b) := by
  have := mul_bd ha hb
  unfold W128; omega
theorem cl32 : cl 32 = 32 := by decide
theorem f_fClamp (F : Nat) {a l h : Int} : f_fix_Clamp F a l h = some (.v (.tuple #[.int .i64 (if h < l then l else min (max a l) h), .bool (if h < l then true else decide (min (max a l) h ≠ a))])) := by
  unfold f_fix_Clamp
  dsimp only
  by_cases hl : h < l
  · refine bp (dt hl) ?_
    rw [if_pos hl, if_pos hl]
  · refine bn (df hl) ?_
    rw [if_neg hl, if_neg hl]
    have e : (if h < (if l > a then l else a) then h else (if l > a then l else a)) = min (max a l) h := by split <;> (try split) <;> omega
    have e2 : (min (max a l) h != a) = decide (min (max a l) h ≠ a) := by rw [Bool.eq_iff_iff]; simp
    rw [e, e2]
end Go.Xv
namespace Go.Xv
theorem angL_get : ∀ i : Nat, i < 30 → isI .i64 [.v (.int .i64 536870912), .v (.int .i64 316933406), .v (.int .i64 167458907), .v (.int .i64 85004756), .v (.int .i64 42667331), .v (.int .i64 21354465), .v (.int .i64 10679838), .v (.int .i64 5340245), .v (.int .i64 2670163), .v (.int .i64 1335087), .v (.int .i64 667544), .v (.int .i64 333772), .v (.int .i64 166886), .v (.int .i64 83443), .v (.int .i64 41722), .v (.int .i64 20861), .v (.int .i64 10430), .v (.int .i64 5215), .v (.int .i64 2608), .v (.int .i64 1304), .v (.int .i64 652), .v (.int .i64 326), .v (.int .i64 163), .v (.int .i64 81), .v (.int .i64 41), .v (.int .i64 20), .v (.int .i64 10), .v (.int .i64 5), .v (.int .i64 3), .v (.int .i64 1)][i]? = true ∧ iv [.v (.int .i64 536870912), .v (.int .i64 316933406), .v (.int .i64 167458907), .v (.int .i64 85004756), .v (.int .i64 42667331), .v (.int .i64 21354465), .v (.int .i64 10679838), .v (.int .i64 5340245), .v (.int .i64 2670163), .v (.int .i64 1335087), .v (.int .i64 667544), .v (.int .i64 333772), .v (.int .i64 166886), .v (.int .i64 83443), .v (.int .i64 41722), .v (.int .i64 20861), .v (.int .i64 10430), .v (.int .i64 5215), .v (.int .i64 2608), .v (.int .i64 1304), .v (.int .i64 652), .v (.int .i64 326), .v (.int .i64 163), .v (.int .i64 81), .v (.int .i64 41), .v (.int .i64 20), .v (.int .i64 10), .v (.int .i64 5), .v (.int .i64 3), .v (.int .i64 1)][i]? = tA i := by decide
theorem zmul1 (i : Nat) : (Int.toNat (i : Int)) * 1 = i := by simp
theorem turnedF (F : Nat) {x y : Int} {i : Nat} (hi : i < 64) (o : Bool) (h1 : I64 (rotX i o x y)) (h2 : I64 (rotY i o x y)) : ok_turn_pair_turned F x y i o = true ∧ o_turn_pair_turned_0 F x y i o = rotX i o x y ∧ o_turn_pair_turned_1 F x y i o = rotY i o x y := by
  refine k_turn_pair_turned F _ _ _ _ ?_
  unfold f_turn_pair_turned
  have hd : (!decide ((i : Int) < 0)) = true := nn i
  have hP := p2pos i
  rw [hd, p2min (by omega), fdiv_pos _ (by omega), fdiv_pos _ (by omega)]
  simp only [cond_true]
  unfold rotX rotY at *
  cases o
  · simp only [Bool.false_eq_true, if_false, cond_false] at *
    rw [wi64_in h1, wi64_in h2]
  · simp only [if_true, cond_true] at *
    rw [wi64_in h1, wi64_in h2]
theorem unitF (F : Nat) (x : Int) : ok_turn_unit F x = true ∧ o_turn_unit_0 F x = cl01 x := by
  refine k_turn_unit F _ ?_
  unfold f_turn_unit
  obtain ⟨h1, h2, h3⟩ := k_fix_Clamp F _ _ _ (f_fClamp F (a := x) (l := 0) (h := 4294967296))
  rw [h1, h2]
  rfl
theorem lp_turn_Both_0 (F : Nat) (ex) {z : Int} (hz : 0 ≤ z ∧ z < 1073741824) (x0 x1 x2 : Int) : ∀ (k n i : Nat) (x3 x34 x35 x36 : Int), i + k = 30 → k < n → x34 = i → x35 = (bS z i).1 → x36 = (bS z i).2.1 → x3 = (bS z i).2.2 →
    L_turn_Both_0 F ex n x0 x1 x2 x3 536870912 316933406 167458907 85004756 42667331 21354465 10679838 5340245 2670163 1335087 667544 333772 166886 83443 41722 20861 10430 5215 2608 1304 652 326 163 81 41 20 10 5 3 1 x34 x35 x36 = ex x0 x1 x2 (bS z 30).2.2 536870912 316933406 167458907 85004756 42667331 21354465 10679838 5340245 2670163 1335087 667544 333772 166886 83443 41722 20861 10430 5215 2608 1304 652 326 163 81 41 20 10 5 3 1 30 (bS z 30).1 (bS z 30).2.1
  | _, 0, _, _, _, _, _, _, h, _, _, _, _ => absurd h (by omega)
  | 0, n + 1, i, _, _, _, _, h, _, rfl, rfl, rfl, rfl => by
    obtain rfl : i = 30 := by omega
    rw [L_turn_Both_0]
    unfold B_turn_Both_0
    exact bn (df (by omega)) rfl
  | k + 1, n + 1, i, _, _, _, _, h, hn, rfl, rfl, rfl, rfl => by
    have hi' : i < 30 := by omega
    obtain ⟨g1, g2⟩ := angL_get i hi'
    have b1 := bS_I z (i := i + 1) (by omega)
    have b2 := bS_z hz (i := i) (by omega)
    have b3 := tA_bd i hi'
    obtain ⟨t1, t2, t3⟩ := turnedF F (x := (bS z i).1) (y := (bS z i).2.1) (i := i) (by omega) (decide (0 ≤ (bS z i).2.2)) (by simp only [bS] at b1; unfold I64; omega) (by simp only [bS] at b1; unfold I64; omega)
    rw [L_turn_Both_0]
    unfold B_turn_Both_0
    refine bp (dt (by omega)) (bp (by rw [zmul1, g1, show ((decide (0 ≤ (i : Int))) && (decide ((i : Int) < 30))) = true from ix_ok i 30 hi']; rfl) ?_)
    rw [zmul1, g2]
    have eg : decide ((bS z i).2.2 ≥ 0) = decide (0 ≤ (bS z i).2.2) := rfl
    rw [eg]
    refine bp t1 ?_
    rw [t2, t3]
    have w1 : IntKind.wrap .i64 ((i : Int) + 1) = ((i + 1 : Nat) : Int) := wi64_s i (by omega)
    rw [w1]
    by_cases hs : 0 ≤ (bS z i).2.2
    · refine bp (dt hs) ?_
      refine lp_turn_Both_0 F ex hz x0 x1 x2 k n (i + 1) _ _ _ _ (by omega) (by omega) rfl rfl rfl ?_
      simp only [bS]
      rw [if_pos hs, wi64_in (x := 0 - tA i) (by unfold I64; omega), wi64_in (by unfold I64; omega)]
      omega
    · refine bn (df hs) ?_
      refine lp_turn_Both_0 F ex hz x0 x1 x2 k n (i + 1) _ _ _ _ (by omega) (by omega) rfl rfl rfl ?_
      simp only [bS]
      rw [if_neg hs, wi64_in (by unfold I64; omega)]
theorem mask30_u32 {a : Int} (ha : U32 a) : andI .u32 a 1073741823 = a % 1073741824 := by
  have e : andI .u32 a 1073741823 = IntKind.wrap .u32 ((BitVec.ofInt 32 a &&& BitVec.ofInt 32 1073741823).toNat : Int) := rfl
  unfold U32 at ha
  have h1 : (BitVec.ofInt 32 a).toNat = a.toNat := by simp only [BitVec.toNat_ofInt]; omega
  have h2 : (BitVec.ofInt 32 1073741823).toNat = 2 ^ 30 - 1 := by decide
  rw [e, BitVec.toNat_and, h1, h2, Nat.and_two_pow_sub_one_eq_mod, wu32]
  omega
theorem angF (F : Nat) : ok_turn_angles F = true ∧ o_turn_angles_0 F = 536870912 ∧ o_turn_angles_1 F = 316933406 ∧ o_turn_angles_2 F = 167458907 ∧ o_turn_angles_3 F = 85004756 ∧ o_turn_angles_4 F = 42667331 ∧ o_turn_angles_5 F = 21354465 ∧ o_turn_angles_6 F = 10679838 ∧ o_turn_angles_7 F = 5340245 ∧ o_turn_angles_8 F = 2670163 ∧ o_turn_angles_9 F = 1335087 ∧ o_turn_angles_10 F = 667544 ∧ o_turn_angles_11 F = 333772 ∧ o_turn_angles_12 F = 166886 ∧ o_turn_angles_13 F = 83443 ∧ o_turn_angles_14 F = 41722 ∧ o_turn_angles_15 F = 20861 ∧ o_turn_angles_16 F = 10430 ∧ o_turn_angles_17 F = 5215 ∧ o_turn_angles_18 F = 2608 ∧ o_turn_angles_19 F = 1304 ∧ o_turn_angles_20 F = 652 ∧ o_turn_angles_21 F = 326 ∧ o_turn_angles_22 F = 163 ∧ o_turn_angles_23 F = 81 ∧ o_turn_angles_24 F = 41 ∧ o_turn_angles_25 F = 20 ∧ o_turn_angles_26 F = 10 ∧ o_turn_angles_27 F = 5 ∧ o_turn_angles_28 F = 3 ∧ o_turn_angles_29 F = 1 := k_turn_angles F rfl
theorem some_two {a b c d : Int} (h : a = c) (k : b = d) : (some (VV.v (.tuple #[.int .i64 a, .int .i64 b])) : R) = some (.v (.tuple #[.int .i64 c, .int .i64 d])) := by rw [h, k]
theorem f_tBoth (F : Nat) (hF : 200 ≤ F) {a : Int} (ha : U32 a) : f_turn_Both F a = some (.v (.tuple #[.int .i64 (bothC a), .int .i64 (bothS a)])) := by
  unfold f_turn_Both
  obtain ⟨h0, e0, e1, e2, e3, e4, e5, e6, e7, e8, e9, e10, e11, e12, e13, e14, e15, e16, e17, e18, e19, e20, e21, e22, e23, e24, e25, e26, e27, e28, e29⟩ := angF F
  refine bp h0 ?_
  rw [e0, e1, e2, e3, e4, e5, e6, e7, e8, e9, e10, e11, e12, e13, e14, e15, e16, e17, e18, e19, e20, e21, e22, e23, e24, e25, e26, e27, e28, e29, mask30_u32 ha]
  have hz : 0 ≤ a % 1073741824 ∧ a % 1073741824 < 1073741824 := by omega
  rw [wi64_in (x := a % 1073741824) (by unfold I64; omega), lp_turn_Both_0 F _ hz a 0 0 30 F 0 (a % 1073741824) 0 2608131496 0 (by omega) (by omega) rfl rfl rfl rfl]
  obtain ⟨u1, u2⟩ := unitF F (bS (a % 1073741824) 30).1
  obtain ⟨v1, v2⟩ := unitF F (bS (a % 1073741824) 30).2.1
  refine bp u1 (bp v1 ?_)
  rw [u2, v2]
  obtain ⟨F, rfl⟩ : ∃ G, F = G + 4 := ⟨F - 4, by omega⟩
  have c1 := cl01_bd (bS (a % 1073741824) 30).1
  have c2 := cl01_bd (bS (a % 1073741824) 30).2.1
  unfold U32 at ha
  have w0 : IntKind.wrap .u32 (0 + 1) = 1 := by rw [wu32]; omega
  have w1 : IntKind.wrap .u32 (1 + 1) = 2 := by rw [wu32]; omega
  have w2 : IntKind.wrap .u32 (2 + 1) = 3 := by rw [wu32]; omega
  have eC : cl01 (bS (a % 1073741824) 30).1 = bC a := rfl
  have eN : cl01 (bS (a % 1073741824) 30).2.1 = bN a := rfl
  rw [eC] at c1 ⊢
  rw [eN] at c2 ⊢
  rw [fdiv_pos _ (by decide)]
  have n1 : IntKind.wrap .i64 (0 - bN a) = -bN a := by rw [wi64_in (by unfold I64; omega)]; omega
  have n2 : IntKind.wrap .i64 (0 - bC a) = -bC a := by rw [wi64_in (by unfold I64; omega)]; omega
  have n3 : IntKind.wrap .i64 (0 - -bN a) = bN a := by rw [wi64_in (by unfold I64; omega)]; omega
  unfold bothC bothS
  rw [L_turn_Both_1]
  unfold B_turn_Both_1
  by_cases q0 : a / 1073741824 = 0
  · refine bn (df (by omega)) (some_two ?_ ?_) <;> rw [if_pos q0]
  · refine bp (dt (by omega)) ?_
    rw [w0, n1, L_turn_Both_1]
    unfold B_turn_Both_1
    by_cases q1 : a / 1073741824 = 1
    · refine bn (df (by omega)) (some_two ?_ ?_) <;> rw [if_neg q0, if_pos q1]
    · refine bp (dt (by omega)) ?_
      rw [w1, n2, L_turn_Both_1]
      unfold B_turn_Both_1
      by_cases q2 : a / 1073741824 = 2
      · refine bn (df (by omega)) (some_two ?_ ?_) <;> rw [if_neg q0, if_neg q1, if_pos q2]
      · refine bp (dt (by omega)) ?_
        rw [w2, n3, L_turn_Both_1]
        unfold B_turn_Both_1
        refine bn (df (by omega)) (some_two ?_ ?_) <;> rw [if_neg q0, if_neg q1, if_neg q2]
theorem a_tBoth (F : Nat) (hF : 200 ≤ F) {a : Int} (ha : U32 a) : ok_turn_Both F a = true ∧ o_turn_Both_0 F a = bothC a ∧ o_turn_Both_1 F a = bothS a := k_turn_Both F _ (f_tBoth F hF ha)
end Go.Xv
namespace Go.Xv
def pr (a b : Int) : Int := a * b / 4294967296 + a * b / 2147483648 % 2
theorem pr_near (a b : Int) : near (a * b) 32 = pr a b := by
  unfold near pr
  rw [if_neg (by decide), show (2 : Int) ^ 32 = 4294967296 by decide, show (2 : Int) ^ (32 - 1) = 2147483648 by decide]
theorem pr_comm (a b : Int) : pr a b = pr b a := by unfold pr; rw [Int.mul_comm]
theorem pr_bd {a b : Int} (ha : I64 a) (hb : I64 b) : -19807040628566084398385987585 ≤ pr a b ∧ pr a b ≤ 19807040628566084398385987585 := by
  have := mul_bd ha hb
  unfold pr; omega
theorem a_product (F : Nat) {a b : Int} (ha : I64 a) (hb : I64 b) : ok_vec_product F a b = true ∧ o_vec_product_0 F a b = hi (pr a b) ∧ o_vec_product_1 F a b = lo (pr a b) := by
  refine k_vec_product F _ _ ?_
  unfold f_vec_product
  obtain ⟨h1, h2, h3⟩ := a_Mul F ha hb
  obtain ⟨n1, n2, n3⟩ := a_Near F 32 (mul_W ha hb)
  rw [cl32, pr_near] at n2 n3
  refine bp h1 ?_
  rw [h2, h3]
  refine bp n1 ?_
  rw [n2, n3]
theorem a_rproduct (F : Nat) (hF : 200 ≤ F) {a b : Int} (ha : I64 a) (hb : I64 b) : ok_ref06_product F a b = true ∧ o_ref06_product_0 F a b = hi (pr a b) ∧ o_ref06_product_1 F a b = lo (pr a b) := by
  refine k_ref06_product F _ _ ?_
  unfold f_ref06_product
  obtain ⟨h1, h2, h3⟩ := a_rMul F hF ha hb
  obtain ⟨n1, n2, n3⟩ := a_rNear F hF 32 (mul_W ha hb)
  rw [cl32, pr_near] at n2 n3
  refine bp h1 ?_
  rw [h2, h3]
  refine bp n1 ?_
  rw [n2, n3]
theorem a_vclip (F : Nat) {z : Int} (h : W128 z) : ok_vec_clip F (hi z) (lo z) = true ∧ o_vec_clip_0 F (hi z) (lo z) = clipV z ∧ o_vec_clip_1 F (hi z) (lo z) = clipC z := by
  refine k_vec_clip F _ _ ?_
  unfold f_vec_clip
  obtain ⟨h1, h2, h3⟩ := a_Clip F h
  refine bp h1 ?_
  rw [h2, h3]
theorem a_rvclip (F : Nat) {z : Int} (h : W128 z) : ok_ref06_clip F (hi z) (lo z) = true ∧ o_ref06_clip_0 F (hi z) (lo z) = clipV z ∧ o_ref06_clip_1 F (hi z) (lo z) = clipC z := by
  refine k_ref06_clip F _ _ ?_
  unfold f_ref06_clip
  obtain ⟨h1, h2, h3⟩ := a_rClip F h
  refine bp h1 ?_
  rw [h2, h3]
def dotZ (a0 a1 a2 a3 a4 a5 : Int) : Int := pr a0 a3 + pr a1 a4 + pr a2 a5
theorem dot_W {a0 a1 a2 a3 a4 a5 : Int} (h0 : I64 a0) (h1 : I64 a1) (h2 : I64 a2) (h3 : I64 a3) (h4 : I64 a4) (h5 : I64 a5) : W128 (dotZ a0 a1 a2 a3 a4 a5) := by
  have := pr_bd h0 h3
  have := pr_bd h1 h4
  have := pr_bd h2 h5
  unfold dotZ W128; omega
theorem f_Dot (F : Nat) (hF : 200 ≤ F) {a0 a1 a2 a3 a4 a5 : Int} (h0 : I64 a0) (h1 : I64 a1) (h2 : I64 a2) (h3 : I64 a3) (h4 : I64 a4) (h5 : I64 a5) : f_vec_Dot F a0 a1 a2 a3 a4 a5 = some (.v (.tuple #[.int .i64 (clipV (dotZ a0 a1 a2 a3 a4 a5)), .bool (clipC (dotZ a0 a1 a2 a3 a4 a5))])) := by
  obtain ⟨p1, p2, p3⟩ := a_product F h0 h3
  obtain ⟨q1, q2, q3⟩ := a_product F h1 h4
  obtain ⟨r1, r2, r3⟩ := a_product F h2 h5
  obtain ⟨s1, s2, s3⟩ := a_Add F 0 (pr a0 a3)
  obtain ⟨t1, t2, t3⟩ := a_Add F (pr a0 a3) (pr a1 a4)
  obtain ⟨u1, u2, u3⟩ := a_Add F (pr a0 a3 + pr a1 a4) (pr a2 a5)
  obtain ⟨c1, c2, c3⟩ := a_vclip F (dot_W h0 h1 h2 h3 h4 h5)
  rw [Int.zero_add] at s2 s3
  obtain ⟨G, hG⟩ : ∃ G, F = G + 4 := ⟨F - 4, by omega⟩
  have w1 : IntKind.wrap .i64 (0 + 1) = 1 := by decide
  have w2 : IntKind.wrap .i64 (1 + 1) = 2 := by decide
  have w3 : IntKind.wrap .i64 (2 + 1) = 3 := by decide
  unfold f_vec_Dot
  rw [show L_vec_Dot_0 F _ F = L_vec_Dot_0 F _ (G + 4) from congrArg (L_vec_Dot_0 F _) hG, L_vec_Dot_0]
  unfold B_vec_Dot_0
  refine bp rfl (bp rfl (bp rfl (bp rfl (bp rfl (bp p1 ?_)))))
  have e0 : (iv [.v (.int .i64 a0), .v (.int .i64 a1), .v (.int .i64 a2)][0 + Int.toNat 0 * 1]?) = a0 := rfl
  have e3 : (iv [.v (.int .i64 a3), .v (.int .i64 a4), .v (.int .i64 a5)][0 + Int.toNat 0 * 1]?) = a3 := rfl
  rw [e0, e3, p2, p3]
  have s1' : ok_wide_Add F 0 0 (hi (pr a0 a3)) (lo (pr a0 a3)) = true := s1
  have s2' : o_wide_Add_0 F 0 0 (hi (pr a0 a3)) (lo (pr a0 a3)) = hi (pr a0 a3) := s2
  have s3' : o_wide_Add_1 F 0 0 (hi (pr a0 a3)) (lo (pr a0 a3)) = lo (pr a0 a3) := s3
  refine bp s1' ?_
  rw [s2', s3', w1, L_vec_Dot_0]
  unfold B_vec_Dot_0
  refine bp rfl (bp rfl (bp rfl (bp rfl (bp rfl (bp q1 ?_)))))
  have e1 : (iv [.v (.int .i64 a0), .v (.int .i64 a1), .v (.int .i64 a2)][0 + Int.toNat 1 * 1]?) = a1 := rfl
  have e4 : (iv [.v (.int .i64 a3), .v (.int .i64 a4), .v (.int .i64 a5)][0 + Int.toNat 1 * 1]?) = a4 := rfl
  rw [e1, e4, q2, q3]
  refine bp t1 ?_
  rw [t2, t3, w2, L_vec_Dot_0]
  unfold B_vec_Dot_0
  refine bp rfl (bp rfl (bp rfl (bp rfl (bp rfl (bp r1 ?_)))))
  have e2 : (iv [.v (.int .i64 a0), .v (.int .i64 a1), .v (.int .i64 a2)][0 + Int.toNat 2 * 1]?) = a2 := rfl
  have e5 : (iv [.v (.int .i64 a3), .v (.int .i64 a4), .v (.int .i64 a5)][0 + Int.toNat 2 * 1]?) = a5 := rfl
  rw [e2, e5, r2, r3]
  refine bp u1 ?_
  rw [u2, u3, w3, L_vec_Dot_0]
  unfold B_vec_Dot_0
  refine bn rfl ?_
  have e : pr a0 a3 + pr a1 a4 + pr a2 a5 = dotZ a0 a1 a2 a3 a4 a5 := rfl
  rw [e]
  refine bp c1 ?_
  rw [c2, c3]
theorem a_Dot (F : Nat) (hF : 200 ≤ F) {a0 a1 a2 a3 a4 a5 : Int} (h0 : I64 a0) (h1 : I64 a1) (h2 : I64 a2) (h3 : I64 a3) (h4 : I64 a4) (h5 : I64 a5) : ok_vec_Dot F a0 a1 a2 a3 a4 a5 = true ∧ o_vec_Dot_0 F a0 a1 a2 a3 a4 a5 = clipV (dotZ a0 a1 a2 a3 a4 a5) ∧ o_vec_Dot_1 F a0 a1 a2 a3 a4 a5 = clipC (dotZ a0 a1 a2 a3 a4 a5) := k_vec_Dot F _ _ _ _ _ _ (f_Dot F hF h0 h1 h2 h3 h4 h5)
theorem a_rDot (F : Nat) (hF : 200 ≤ F) {a0 a1 a2 a3 a4 a5 : Int} (h0 : I64 a0) (h1 : I64 a1) (h2 : I64 a2) (h3 : I64 a3) (h4 : I64 a4) (h5 : I64 a5) : ok_ref06_Dot F a0 a1 a2 a3 a4 a5 = true ∧ o_ref06_Dot_0 F a0 a1 a2 a3 a4 a5 = clipV (dotZ a0 a1 a2 a3 a4 a5) ∧ o_ref06_Dot_1 F a0 a1 a2 a3 a4 a5 = clipC (dotZ a0 a1 a2 a3 a4 a5) := by
  refine k_ref06_Dot F _ _ _ _ _ _ ?_
  unfold f_ref06_Dot
  obtain ⟨p1, p2, p3⟩ := a_rproduct F hF h0 h3
  obtain ⟨q1, q2, q3⟩ := a_rproduct F hF h1 h4
  obtain ⟨r1, r2, r3⟩ := a_rproduct F hF h2 h5
  obtain ⟨t1, t2, t3⟩ := a_rAdd F hF (pr a0 a3) (pr a1 a4)
  obtain ⟨u1, u2, u3⟩ := a_rAdd F hF (pr a0 a3 + pr a1 a4) (pr a2 a5)
  obtain ⟨c1, c2, c3⟩ := a_rvclip F (dot_W h0 h1 h2 h3 h4 h5)
  unfold dotZ at c1 c2 c3 ⊢
  refine bp p1 (bp q1 ?_)
  rw [p2, p3, q2, q3]
  refine bp t1 (bp r1 ?_)
  rw [t2, t3, r2, r3]
  refine bp u1 ?_
  rw [u2, u3]
  refine bp c1 ?_
  rw [c2, c3]
theorem or3 {x y z : Int} {a b c : Bool} : (bif a then (some (VV.v (.tuple #[.agg #[.int .i64 x, .int .i64 y, .int .i64 z], .bool true])) : R) else (bif b then (some (.v (.tuple #[.agg #[.int .i64 x, .int .i64 y, .int .i64 z], .bool true]))) else (some (.v (.tuple #[.agg #[.int .i64 x, .int .i64 y, .int .i64 z], .bool c]))))) = some (.v (.tuple #[.agg #[.int .i64 x, .int .i64 y, .int .i64 z], .bool (a || b || c)])) := by
  cases a <;> cases b <;> rfl
end Go.Xv
namespace Go.Xv
theorem dot_turn (a0 a1 a2 a3 a4 a5 : Int) : dotZ a3 a4 a5 a0 a1 a2 = dotZ a0 a1 a2 a3 a4 a5 := by unfold dotZ; rw [pr_comm a3, pr_comm a4, pr_comm a5]
theorem a_mSame (F : Nat) (hF : 200 ≤ F) : ok_mat_Same F = true ∧ o_mat_Same_0 F = 4294967296 ∧ o_mat_Same_1 F = 0 ∧ o_mat_Same_2 F = 0 ∧ o_mat_Same_3 F = 0 ∧ o_mat_Same_4 F = 4294967296 ∧ o_mat_Same_5 F = 0 ∧ o_mat_Same_6 F = 0 ∧ o_mat_Same_7 F = 0 ∧ o_mat_Same_8 F = 4294967296 := by
  refine k_mat_Same F ?_
  obtain ⟨G, rfl⟩ : ∃ G, F = G + 4 := ⟨F - 4, by omega⟩
  kernel_rfl
theorem a_rSame (F : Nat) : ok_ref07_Same F = true ∧ o_ref07_Same_0 F = 4294967296 ∧ o_ref07_Same_1 F = 0 ∧ o_ref07_Same_2 F = 0 ∧ o_ref07_Same_3 F = 0 ∧ o_ref07_Same_4 F = 4294967296 ∧ o_ref07_Same_5 F = 0 ∧ o_ref07_Same_6 F = 0 ∧ o_ref07_Same_7 F = 0 ∧ o_ref07_Same_8 F = 4294967296 := k_ref07_Same F rfl
theorem a_mBack (F : Nat) (hF : 200 ≤ F) (a0 a1 a2 a3 a4 a5 a6 a7 a8 : Int) : ok_mat_Back F a0 a1 a2 a3 a4 a5 a6 a7 a8 = true ∧ o_mat_Back_0 F a0 a1 a2 a3 a4 a5 a6 a7 a8 = a0 ∧ o_mat_Back_1 F a0 a1 a2 a3 a4 a5 a6 a7 a8 = a3 ∧ o_mat_Back_2 F a0 a1 a2 a3 a4 a5 a6 a7 a8 = a6 ∧ o_mat_Back_3 F a0 a1 a2 a3 a4 a5 a6 a7 a8 = a1 ∧ o_mat_Back_4 F a0 a1 a2 a3 a4 a5 a6 a7 a8 = a4 ∧ o_mat_Back_5 F a0 a1 a2 a3 a4 a5 a6 a7 a8 = a7 ∧ o_mat_Back_6 F a0 a1 a2 a3 a4 a5 a6 a7 a8 = a2 ∧ o_mat_Back_7 F a0 a1 a2 a3 a4 a5 a6 a7 a8 = a5 ∧ o_mat_Back_8 F a0 a1 a2 a3 a4 a5 a6 a7 a8 = a8 := by
  refine k_mat_Back F _ _ _ _ _ _ _ _ _ ?_
  obtain ⟨G, rfl⟩ : ∃ G, F = G + 4 := ⟨F - 4, by omega⟩
  kernel_rfl
theorem a_rBack (F : Nat) (a0 a1 a2 a3 a4 a5 a6 a7 a8 : Int) : ok_ref07_Back F a0 a1 a2 a3 a4 a5 a6 a7 a8 = true ∧ o_ref07_Back_0 F a0 a1 a2 a3 a4 a5 a6 a7 a8 = a0 ∧ o_ref07_Back_1 F a0 a1 a2 a3 a4 a5 a6 a7 a8 = a3 ∧ o_ref07_Back_2 F a0 a1 a2 a3 a4 a5 a6 a7 a8 = a6 ∧ o_ref07_Back_3 F a0 a1 a2 a3 a4 a5 a6 a7 a8 = a1 ∧ o_ref07_Back_4 F a0 a1 a2 a3 a4 a5 a6 a7 a8 = a4 ∧ o_ref07_Back_5 F a0 a1 a2 a3 a4 a5 a6 a7 a8 = a7 ∧ o_ref07_Back_6 F a0 a1 a2 a3 a4 a5 a6 a7 a8 = a2 ∧ o_ref07_Back_7 F a0 a1 a2 a3 a4 a5 a6 a7 a8 = a5 ∧ o_ref07_Back_8 F a0 a1 a2 a3 a4 a5 a6 a7 a8 = a8 := k_ref07_Back F _ _ _ _ _ _ _ _ _ rfl
theorem f_Apply' (F : Nat) (hF : 200 ≤ F) {a0 a1 a2 a3 a4 a5 a6 a7 a8 u0 u1 u2 : Int} {p0 p1 p2 : Int} {c0 c1 c2 : Bool} (d0 : ok_vec_Dot F a0 a1 a2 u0 u1 u2 = true ∧ o_vec_Dot_0 F a0 a1 a2 u0 u1 u2 = p0 ∧ o_vec_Dot_1 F a0 a1 a2 u0 u1 u2 = c0) (d1 : ok_vec_Dot F a3 a4 a5 u0 u1 u2 = true ∧ o_vec_Dot_0 F a3 a4 a5 u0 u1 u2 = p1 ∧ o_vec_Dot_1 F a3 a4 a5 u0 u1 u2 = c1) (d2 : ok_vec_Dot F a6 a7 a8 u0 u1 u2 = true ∧ o_vec_Dot_0 F a6 a7 a8 u0 u1 u2 = p2 ∧ o_vec_Dot_1 F a6 a7 a8 u0 u1 u2 = c2) :
    f_mat_Apply F a0 a1 a2 a3 a4 a5 a6 a7 a8 u0 u1 u2 = some (.v (.tuple #[.agg #[.int .i64 p0, .int .i64 p1, .int .i64 p2], .bool (c0 || c1 || c2)])) := by
  obtain ⟨d01, d02, d03⟩ := d0
  obtain ⟨d11, d12, d13⟩ := d1
  obtain ⟨d21, d22, d23⟩ := d2
  have w1 : IntKind.wrap .i64 (0 + 1) = 1 := by decide
  have w2 : IntKind.wrap .i64 (1 + 1) = 2 := by decide
  have w3 : IntKind.wrap .i64 (2 + 1) = 3 := by decide
  unfold f_mat_Apply
  obtain ⟨G, hG⟩ : ∃ G, F = G + 4 := ⟨F - 4, by omega⟩
  rw [show L_mat_Apply_0 F _ F = L_mat_Apply_0 F _ (G + 4) from congrArg (L_mat_Apply_0 F _) hG]
  have e00 : (iv [.v (.int .i64 a0), .v (.int .i64 a1), .v (.int .i64 a2), .v (.int .i64 a3), .v (.int .i64 a4), .v (.int .i64 a5), .v (.int .i64 a6), .v (.int .i64 a7), .v (.int .i64 a8)][Int.toNat 0 * 3]?) = a0 := rfl
  have e01 : (iv [.v (.int .i64 a0), .v (.int .i64 a1), .v (.int .i64 a2), .v (.int .i64 a3), .v (.int .i64 a4), .v (.int .i64 a5), .v (.int .i64 a6), .v (.int .i64 a7), .v (.int .i64 a8)][Int.toNat 0 * 3 + 1]?) = a1 := rfl
  have e02 : (iv [.v (.int .i64 a0), .v (.int .i64 a1), .v (.int .i64 a2), .v (.int .i64 a3), .v (.int .i64 a4), .v (.int .i64 a5), .v (.int .i64 a6), .v (.int .i64 a7), .v (.int .i64 a8)][Int.toNat 0 * 3 + 1 + 1]?) = a2 := rfl
  have e10 : (iv [.v (.int .i64 a0), .v (.int .i64 a1), .v (.int .i64 a2), .v (.int .i64 a3), .v (.int .i64 a4), .v (.int .i64 a5), .v (.int .i64 a6), .v (.int .i64 a7), .v (.int .i64 a8)][Int.toNat 1 * 3]?) = a3 := rfl
  have e11 : (iv [.v (.int .i64 a0), .v (.int .i64 a1), .v (.int .i64 a2), .v (.int .i64 a3), .v (.int .i64 a4), .v (.int .i64 a5), .v (.int .i64 a6), .v (.int .i64 a7), .v (.int .i64 a8)][Int.toNat 1 * 3 + 1]?) = a4 := rfl
  have e12 : (iv [.v (.int .i64 a0), .v (.int .i64 a1), .v (.int .i64 a2), .v (.int .i64 a3), .v (.int .i64 a4), .v (.int .i64 a5), .v (.int .i64 a6), .v (.int .i64 a7), .v (.int .i64 a8)][Int.toNat 1 * 3 + 1 + 1]?) = a5 := rfl
  have e20 : (iv [.v (.int .i64 a0), .v (.int .i64 a1), .v (.int .i64 a2), .v (.int .i64 a3), .v (.int .i64 a4), .v (.int .i64 a5), .v (.int .i64 a6), .v (.int .i64 a7), .v (.int .i64 a8)][Int.toNat 2 * 3]?) = a6 := rfl
  have e21 : (iv [.v (.int .i64 a0), .v (.int .i64 a1), .v (.int .i64 a2), .v (.int .i64 a3), .v (.int .i64 a4), .v (.int .i64 a5), .v (.int .i64 a6), .v (.int .i64 a7), .v (.int .i64 a8)][Int.toNat 2 * 3 + 1]?) = a7 := rfl
  have e22 : (iv [.v (.int .i64 a0), .v (.int .i64 a1), .v (.int .i64 a2), .v (.int .i64 a3), .v (.int .i64 a4), .v (.int .i64 a5), .v (.int .i64 a6), .v (.int .i64 a7), .v (.int .i64 a8)][Int.toNat 2 * 3 + 1 + 1]?) = a8 := rfl
  rw [L_mat_Apply_0]
  unfold B_mat_Apply_0
  refine bp rfl (bp rfl ?_)
  rw [e00, e01, e02]
  refine bp d01 ?_
  rw [d02, d03]
  refine bn rfl (bp rfl (bp rfl ?_))
  rw [w1]
  cases c0
  · rw [L_mat_Apply_0]
    unfold B_mat_Apply_0
    refine bp rfl (bp rfl ?_)
    rw [e10, e11, e12]
    refine bp d11 ?_
    rw [d12, d13]
    refine bn rfl (bp rfl (bp rfl ?_))
    rw [w2]
    cases c1
    · rw [L_mat_Apply_0]
      unfold B_mat_Apply_0
      refine bp rfl (bp rfl ?_)
      rw [e20, e21, e22]
      refine bp d21 ?_
      rw [d22, d23]
      refine bn rfl (bp rfl (bp rfl ?_))
      rw [w3]
      rw [L_mat_Apply_0]
      unfold B_mat_Apply_0
      exact bn rfl (bp rfl rfl)
    · rw [L_mat_Apply_0]
      unfold B_mat_Apply_0
      refine bp rfl (bp rfl ?_)
      rw [e20, e21, e22]
      refine bp d21 ?_
      rw [d22]
      refine bp rfl (bp rfl (bp rfl ?_))
      rw [w3]
      rw [L_mat_Apply_0]
      unfold B_mat_Apply_0
      exact bn rfl (bp rfl rfl)
  · rw [L_mat_Apply_0]
    unfold B_mat_Apply_0
    refine bp rfl (bp rfl ?_)
    rw [e10, e11, e12]
    refine bp d11 ?_
    rw [d12]
    refine bp rfl (bp rfl (bp rfl ?_))
    rw [w2]
    rw [L_mat_Apply_0]
    unfold B_mat_Apply_0
    refine bp rfl (bp rfl ?_)
    rw [e20, e21, e22]
    refine bp d21 ?_
    rw [d22]
    refine bp rfl (bp rfl (bp rfl ?_))
    rw [w3]
    rw [L_mat_Apply_0]
    unfold B_mat_Apply_0
    exact bn rfl (bp rfl rfl)
theorem a_mApply (F : Nat) (hF : 200 ≤ F) {a0 a1 a2 a3 a4 a5 a6 a7 a8 u0 u1 u2 : Int} (ha0 : I64 a0) (ha1 : I64 a1) (ha2 : I64 a2) (ha3 : I64 a3) (ha4 : I64 a4) (ha5 : I64 a5) (ha6 : I64 a6) (ha7 : I64 a7) (ha8 : I64 a8) (hu0 : I64 u0) (hu1 : I64 u1) (hu2 : I64 u2) : ok_mat_Apply F a0 a1 a2 a3 a4 a5 a6 a7 a8 u0 u1 u2 = true ∧ o_mat_Apply_0 F a0 a1 a2 a3 a4 a5 a6 a7 a8 u0 u1 u2 = clipV (dotZ a0 a1 a2 u0 u1 u2) ∧ o_mat_Apply_1 F a0 a1 a2 a3 a4 a5 a6 a7 a8 u0 u1 u2 = clipV (dotZ a3 a4 a5 u0 u1 u2) ∧ o_mat_Apply_2 F a0 a1 a2 a3 a4 a5 a6 a7 a8 u0 u1 u2 = clipV (dotZ a6 a7 a8 u0 u1 u2) ∧ o_mat_Apply_3 F a0 a1 a2 a3 a4 a5 a6 a7 a8 u0 u1 u2 = (clipC (dotZ a0 a1 a2 u0 u1 u2) || clipC (dotZ a3 a4 a5 u0 u1 u2) || clipC (dotZ a6 a7 a8 u0 u1 u2)) :=
  k_mat_Apply F _ _ _ _ _ _ _ _ _ _ _ _ (f_Apply' F hF (a_Dot F hF ha0 ha1 ha2 hu0 hu1 hu2) (a_Dot F hF ha3 ha4 ha5 hu0 hu1 hu2) (a_Dot F hF ha6 ha7 ha8 hu0 hu1 hu2))
theorem a_rApply (F : Nat) (hF : 200 ≤ F) {a0 a1 a2 a3 a4 a5 a6 a7 a8 u0 u1 u2 : Int} (ha0 : I64 a0) (ha1 : I64 a1) (ha2 : I64 a2) (ha3 : I64 a3) (ha4 : I64 a4) (ha5 : I64 a5) (ha6 : I64 a6) (ha7 : I64 a7) (ha8 : I64 a8) (hu0 : I64 u0) (hu1 : I64 u1) (hu2 : I64 u2) : ok_ref07_Apply F a0 a1 a2 a3 a4 a5 a6 a7 a8 u0 u1 u2 = true ∧ o_ref07_Apply_0 F a0 a1 a2 a3 a4 a5 a6 a7 a8 u0 u1 u2 = clipV (dotZ a0 a1 a2 u0 u1 u2) ∧ o_ref07_Apply_1 F a0 a1 a2 a3 a4 a5 a6 a7 a8 u0 u1 u2 = clipV (dotZ a3 a4 a5 u0 u1 u2) ∧ o_ref07_Apply_2 F a0 a1 a2 a3 a4 a5 a6 a7 a8 u0 u1 u2 = clipV (dotZ a6 a7 a8 u0 u1 u2) ∧ o_ref07_Apply_3 F a0 a1 a2 a3 a4 a5 a6 a7 a8 u0 u1 u2 = (clipC (dotZ a0 a1 a2 u0 u1 u2) || clipC (dotZ a3 a4 a5 u0 u1 u2) || clipC (dotZ a6 a7 a8 u0 u1 u2)) := by
  refine k_ref07_Apply F _ _ _ _ _ _ _ _ _ _ _ _ ?_
  unfold f_ref07_Apply
  obtain ⟨p1, p2, p3⟩ := a_rDot F hF ha0 ha1 ha2 hu0 hu1 hu2
  obtain ⟨q1, q2, q3⟩ := a_rDot F hF ha3 ha4 ha5 hu0 hu1 hu2
  obtain ⟨r1, r2, r3⟩ := a_rDot F hF ha6 ha7 ha8 hu0 hu1 hu2
  refine bp p1 (bp q1 (bp r1 ?_))
  rw [p2, p3, q2, q3, r2, r3]
  exact or3
theorem f_Mul' (F : Nat) (hF : 200 ≤ F) {a0 a1 a2 a3 a4 a5 a6 a7 a8 b0 b1 b2 b3 b4 b5 b6 b7 b8 : Int} {p0 p1 p2 p3 p4 p5 p6 p7 p8 : Int} {c0 c1 c2 : Bool} (d0 : ok_mat_Apply F b0 b3 b6 b1 b4 b7 b2 b5 b8 a0 a1 a2 = true ∧ o_mat_Apply_0 F b0 b3 b6 b1 b4 b7 b2 b5 b8 a0 a1 a2 = p0 ∧ o_mat_Apply_1 F b0 b3 b6 b1 b4 b7 b2 b5 b8 a0 a1 a2 = p1 ∧ o_mat_Apply_2 F b0 b3 b6 b1 b4 b7 b2 b5 b8 a0 a1 a2 = p2 ∧ o_mat_Apply_3 F b0 b3 b6 b1 b4 b7 b2 b5 b8 a0 a1 a2 = c0) (d1 : ok_mat_Apply F b0 b3 b6 b1 b4 b7 b2 b5 b8 a3 a4 a5 = true ∧ o_mat_Apply_0 F b0 b3 b6 b1 b4 b7 b2 b5 b8 a3 a4 a5 = p3 ∧ o_mat_Apply_1 F b0 b3 b6 b1 b4 b7 b2 b5 b8 a3 a4 a5 = p4 ∧ o_mat_Apply_2 F b0 b3 b6 b1 b4 b7 b2 b5 b8 a3 a4 a5 = p5 ∧ o_mat_Apply_3 F b0 b3 b6 b1 b4 b7 b2 b5 b8 a3 a4 a5 = c1) (d2 : ok_mat_Apply F b0 b3 b6 b1 b4 b7 b2 b5 b8 a6 a7 a8 = true ∧ o_mat_Apply_0 F b0 b3 b6 b1 b4 b7 b2 b5 b8 a6 a7 a8 = p6 ∧ o_mat_Apply_1 F b0 b3 b6 b1 b4 b7 b2 b5 b8 a6 a7 a8 = p7 ∧ o_mat_Apply_2 F b0 b3 b6 b1 b4 b7 b2 b5 b8 a6 a7 a8 = p8 ∧ o_mat_Apply_3 F b0 b3 b6 b1 b4 b7 b2 b5 b8 a6 a7 a8 = c2) :
    f_mat_Mul F a0 a1 a2 a3 a4 a5 a6 a7 a8 b0 b1 b2 b3 b4 b5 b6 b7 b8 = some (.v (.tuple #[.agg #[.int .i64 p0, .int .i64 p1, .int .i64 p2, .int .i64 p3, .int .i64 p4, .int .i64 p5, .int .i64 p6, .int .i64 p7, .int .i64 p8], .bool (c0 || c1 || c2)])) := by
  obtain ⟨d01, d02, d03, d04, d05⟩ := d0
  obtain ⟨d11, d12, d13, d14, d15⟩ := d1
  obtain ⟨d21, d22, d23, d24, d25⟩ := d2
  have w1 : IntKind.wrap .i64 (0 + 1) = 1 := by decide
  have w2 : IntKind.wrap .i64 (1 + 1) = 2 := by decide
  have w3 : IntKind.wrap .i64 (2 + 1) = 3 := by decide
  unfold f_mat_Mul
  obtain ⟨b0_, bb0, bb1, bb2, bb3, bb4, bb5, bb6, bb7, bb8⟩ := a_mBack F hF b0 b1 b2 b3 b4 b5 b6 b7 b8
  refine bp b0_ ?_
  rw [bb0, bb1, bb2, bb3, bb4, bb5, bb6, bb7, bb8]
  obtain ⟨G, hG⟩ : ∃ G, F = G + 4 := ⟨F - 4, by omega⟩
  rw [show L_mat_Mul_0 F _ F = L_mat_Mul_0 F _ (G + 4) from congrArg (L_mat_Mul_0 F _) hG]
  have e00 : (iv [.v (.int .i64 a0), .v (.int .i64 a1), .v (.int .i64 a2), .v (.int .i64 a3), .v (.int .i64 a4), .v (.int .i64 a5), .v (.int .i64 a6), .v (.int .i64 a7), .v (.int .i64 a8)][Int.toNat 0 * 3]?) = a0 := rfl
  have e01 : (iv [.v (.int .i64 a0), .v (.int .i64 a1), .v (.int .i64 a2), .v (.int .i64 a3), .v (.int .i64 a4), .v (.int .i64 a5), .v (.int .i64 a6), .v (.int .i64 a7), .v (.int .i64 a8)][Int.toNat 0 * 3 + 1]?) = a1 := rfl
  have e02 : (iv [.v (.int .i64 a0), .v (.int .i64 a1), .v (.int .i64 a2), .v (.int .i64 a3), .v (.int .i64 a4), .v (.int .i64 a5), .v (.int .i64 a6), .v (.int .i64 a7), .v (.int .i64 a8)][Int.toNat 0 * 3 + 1 + 1]?) = a2 := rfl
  have e10 : (iv [.v (.int .i64 a0), .v (.int .i64 a1), .v (.int .i64 a2), .v (.int .i64 a3), .v (.int .i64 a4), .v (.int .i64 a5), .v (.int .i64 a6), .v (.int .i64 a7), .v (.int .i64 a8)][Int.toNat 1 * 3]?) = a3 := rfl
  have e11 : (iv [.v (.int .i64 a0), .v (.int .i64 a1), .v (.int .i64 a2), .v (.int .i64 a3), .v (.int .i64 a4), .v (.int .i64 a5), .v (.int .i64 a6), .v (.int .i64 a7), .v (.int .i64 a8)][Int.toNat 1 * 3 + 1]?) = a4 := rfl
  have e12 : (iv [.v (.int .i64 a0), .v (.int .i64 a1), .v (.int .i64 a2), .v (.int .i64 a3), .v (.int .i64 a4), .v (.int .i64 a5), .v (.int .i64 a6), .v (.int .i64 a7), .v (.int .i64 a8)][Int.toNat 1 * 3 + 1 + 1]?) = a5 := rfl
  have e20 : (iv [.v (.int .i64 a0), .v (.int .i64 a1), .v (.int .i64 a2), .v (.int .i64 a3), .v (.int .i64 a4), .v (.int .i64 a5), .v (.int .i64 a6), .v (.int .i64 a7), .v (.int .i64 a8)][Int.toNat 2 * 3]?) = a6 := rfl
  have e21 : (iv [.v (.int .i64 a0), .v (.int .i64 a1), .v (.int .i64 a2), .v (.int .i64 a3), .v (.int .i64 a4), .v (.int .i64 a5), .v (.int .i64 a6), .v (.int .i64 a7), .v (.int .i64 a8)][Int.toNat 2 * 3 + 1]?) = a7 := rfl
  have e22 : (iv [.v (.int .i64 a0), .v (.int .i64 a1), .v (.int .i64 a2), .v (.int .i64 a3), .v (.int .i64 a4), .v (.int .i64 a5), .v (.int .i64 a6), .v (.int .i64 a7), .v (.int .i64 a8)][Int.toNat 2 * 3 + 1 + 1]?) = a8 := rfl
  rw [L_mat_Mul_0]
  unfold B_mat_Mul_0
  refine bp rfl (bp rfl ?_)
  rw [e00, e01, e02]
  refine bp d01 ?_
  rw [d02, d03, d04, d05]
  refine bn rfl (bp rfl (bp rfl ?_))
  rw [w1]
  cases c0
  · rw [L_mat_Mul_0]
    unfold B_mat_Mul_0
    refine bp rfl (bp rfl ?_)
    rw [e10, e11, e12]
    refine bp d11 ?_
    rw [d12, d13, d14, d15]
    refine bn rfl (bp rfl (bp rfl ?_))
    rw [w2]
    cases c1
    · rw [L_mat_Mul_0]
      unfold B_mat_Mul_0
      refine bp rfl (bp rfl ?_)
      rw [e20, e21, e22]
      refine bp d21 ?_
      rw [d22, d23, d24, d25]
      refine bn rfl (bp rfl (bp rfl ?_))
      rw [w3]
      rw [L_mat_Mul_0]
      unfold B_mat_Mul_0
      exact bn rfl (bp rfl rfl)
    · rw [L_mat_Mul_0]
      unfold B_mat_Mul_0
      refine bp rfl (bp rfl ?_)
      rw [e20, e21, e22]
      refine bp d21 ?_
      rw [d22, d23, d24]
      refine bp rfl (bp rfl (bp rfl ?_))
      rw [w3]
      rw [L_mat_Mul_0]
      unfold B_mat_Mul_0
      exact bn rfl (bp rfl rfl)
  · rw [L_mat_Mul_0]
    unfold B_mat_Mul_0
    refine bp rfl (bp rfl ?_)
    rw [e10, e11, e12]
    refine bp d11 ?_
    rw [d12, d13, d14]
    refine bp rfl (bp rfl (bp rfl ?_))
    rw [w2]
    rw [L_mat_Mul_0]
    unfold B_mat_Mul_0
    refine bp rfl (bp rfl ?_)
    rw [e20, e21, e22]
    refine bp d21 ?_
    rw [d22, d23, d24]
    refine bp rfl (bp rfl (bp rfl ?_))
    rw [w3]
    rw [L_mat_Mul_0]
    unfold B_mat_Mul_0
    exact bn rfl (bp rfl rfl)
theorem a_mMul (F : Nat) (hF : 200 ≤ F) {a0 a1 a2 a3 a4 a5 a6 a7 a8 b0 b1 b2 b3 b4 b5 b6 b7 b8 : Int} (ha0 : I64 a0) (ha1 : I64 a1) (ha2 : I64 a2) (ha3 : I64 a3) (ha4 : I64 a4) (ha5 : I64 a5) (ha6 : I64 a6) (ha7 : I64 a7) (ha8 : I64 a8) (hb0 : I64 b0) (hb1 : I64 b1) (hb2 : I64 b2) (hb3 : I64 b3) (hb4 : I64 b4) (hb5 : I64 b5) (hb6 : I64 b6) (hb7 : I64 b7) (hb8 : I64 b8) : ok_mat_Mul F a0 a1 a2 a3 a4 a5 a6 a7 a8 b0 b1 b2 b3 b4 b5 b6 b7 b8 = true ∧ o_mat_Mul_0 F a0 a1 a2 a3 a4 a5 a6 a7 a8 b0 b1 b2 b3 b4 b5 b6 b7 b8 = clipV (dotZ a0 a1 a2 b0 b3 b6) ∧ o_mat_Mul_1 F a0 a1 a2 a3 a4 a5 a6 a7 a8 b0 b1 b2 b3 b4 b5 b6 b7 b8 = clipV (dotZ a0 a1 a2 b1 b4 b7) ∧ o_mat_Mul_2 F a0 a1 a2 a3 a4 a5 a6 a7 a8 b0 b1 b2 b3 b4 b5 b6 b7 b8 = clipV (dotZ a0 a1 a2 b2 b5 b8) ∧ o_mat_Mul_3 F a0 a1 a2 a3 a4 a5 a6 a7 a8 b0 b1 b2 b3 b4 b5 b6 b7 b8 = clipV (dotZ a3 a4 a5 b0 b3 b6) ∧ o_mat_Mul_4 F a0 a1 a2 a3 a4 a5 a6 a7 a8 b0 b1 b2 b3 b4 b5 b6 b7 b8 = clipV (dotZ a3 a4 a5 b1 b4 b7) ∧ o_mat_Mul_5 F a0 a1 a2 a3 a4 a5 a6 a7 a8 b0 b1 b2 b3 b4 b5 b6 b7 b8 = clipV (dotZ a3 a4 a5 b2 b5 b8) ∧ o_mat_Mul_6 F a0 a1 a2 a3 a4 a5 a6 a7 a8 b0 b1 b2 b3 b4 b5 b6 b7 b8 = clipV (dotZ a6 a7 a8 b0 b3 b6) ∧ o_mat_Mul_7 F a0 a1 a2 a3 a4 a5 a6 a7 a8 b0 b1 b2 b3 b4 b5 b6 b7 b8 = clipV (dotZ a6 a7 a8 b1 b4 b7) ∧ o_mat_Mul_8 F a0 a1 a2 a3 a4 a5 a6 a7 a8 b0 b1 b2 b3 b4 b5 b6 b7 b8 = clipV (dotZ a6 a7 a8 b2 b5 b8) ∧ o_mat_Mul_9 F a0 a1 a2 a3 a4 a5 a6 a7 a8 b0 b1 b2 b3 b4 b5 b6 b7 b8 = ((clipC (dotZ a0 a1 a2 b0 b3 b6) || clipC (dotZ a0 a1 a2 b1 b4 b7) || clipC (dotZ a0 a1 a2 b2 b5 b8)) || (clipC (dotZ a3 a4 a5 b0 b3 b6) || clipC (dotZ a3 a4 a5 b1 b4 b7) || clipC (dotZ a3 a4 a5 b2 b5 b8)) || (clipC (dotZ a6 a7 a8 b0 b3 b6) || clipC (dotZ a6 a7 a8 b1 b4 b7) || clipC (dotZ a6 a7 a8 b2 b5 b8))) := by
  have d0 := a_mApply F hF hb0 hb3 hb6 hb1 hb4 hb7 hb2 hb5 hb8 ha0 ha1 ha2
  rw [dot_turn a0 a1 a2 b0 b3 b6, dot_turn a0 a1 a2 b1 b4 b7, dot_turn a0 a1 a2 b2 b5 b8] at d0
  have d1 := a_mApply F hF hb0 hb3 hb6 hb1 hb4 hb7 hb2 hb5 hb8 ha3 ha4 ha5
  rw [dot_turn a3 a4 a5 b0 b3 b6, dot_turn a3 a4 a5 b1 b4 b7, dot_turn a3 a4 a5 b2 b5 b8] at d1
  have d2 := a_mApply F hF hb0 hb3 hb6 hb1 hb4 hb7 hb2 hb5 hb8 ha6 ha7 ha8
  rw [dot_turn a6 a7 a8 b0 b3 b6, dot_turn a6 a7 a8 b1 b4 b7, dot_turn a6 a7 a8 b2 b5 b8] at d2
  exact k_mat_Mul F _ _ _ _ _ _ _ _ _ _ _ _ _ _ _ _ _ _ (f_Mul' F hF d0 d1 d2)
theorem or9 {a b c d e f g h i : Bool} : ((a || d || g) || (b || e || h) || (c || f || i)) = ((a || b || c) || (d || e || f) || (g || h || i)) := by
  cases a <;> cases b <;> cases c <;> cases d <;> cases e <;> cases f <;> cases g <;> cases h <;> cases i <;> rfl
theorem or3M {p0 p1 p2 p3 p4 p5 p6 p7 p8 : Int} {a b c : Bool} : (bif a then (some (VV.v (.tuple #[.agg #[.int .i64 p0, .int .i64 p1, .int .i64 p2, .int .i64 p3, .int .i64 p4, .int .i64 p5, .int .i64 p6, .int .i64 p7, .int .i64 p8], .bool true])) : R) else (bif b then (some (.v (.tuple #[.agg #[.int .i64 p0, .int .i64 p1, .int .i64 p2, .int .i64 p3, .int .i64 p4, .int .i64 p5, .int .i64 p6, .int .i64 p7, .int .i64 p8], .bool true]))) else (some (.v (.tuple #[.agg #[.int .i64 p0, .int .i64 p1, .int .i64 p2, .int .i64 p3, .int .i64 p4, .int .i64 p5, .int .i64 p6, .int .i64 p7, .int .i64 p8], .bool c]))))) = some (.v (.tuple #[.agg #[.int .i64 p0, .int .i64 p1, .int .i64 p2, .int .i64 p3, .int .i64 p4, .int .i64 p5, .int .i64 p6, .int .i64 p7, .int .i64 p8], .bool (a || b || c)])) := by
  cases a <;> cases b <;> rfl
theorem a_rMul7 (F : Nat) (hF : 200 ≤ F) {a0 a1 a2 a3 a4 a5 a6 a7 a8 b0 b1 b2 b3 b4 b5 b6 b7 b8 : Int} (ha0 : I64 a0) (ha1 : I64 a1) (ha2 : I64 a2) (ha3 : I64 a3) (ha4 : I64 a4) (ha5 : I64 a5) (ha6 : I64 a6) (ha7 : I64 a7) (ha8 : I64 a8) (hb0 : I64 b0) (hb1 : I64 b1) (hb2 : I64 b2) (hb3 : I64 b3) (hb4 : I64 b4) (hb5 : I64 b5) (hb6 : I64 b6) (hb7 : I64 b7) (hb8 : I64 b8) : ok_ref07_Mul F a0 a1 a2 a3 a4 a5 a6 a7 a8 b0 b1 b2 b3 b4 b5 b6 b7 b8 = true ∧ o_ref07_Mul_0 F a0 a1 a2 a3 a4 a5 a6 a7 a8 b0 b1 b2 b3 b4 b5 b6 b7 b8 = clipV (dotZ a0 a1 a2 b0 b3 b6) ∧ o_ref07_Mul_1 F a0 a1 a2 a3 a4 a5 a6 a7 a8 b0 b1 b2 b3 b4 b5 b6 b7 b8 = clipV (dotZ a0 a1 a2 b1 b4 b7) ∧ o_ref07_Mul_2 F a0 a1 a2 a3 a4 a5 a6 a7 a8 b0 b1 b2 b3 b4 b5 b6 b7 b8 = clipV (dotZ a0 a1 a2 b2 b5 b8) ∧ o_ref07_Mul_3 F a0 a1 a2 a3 a4 a5 a6 a7 a8 b0 b1 b2 b3 b4 b5 b6 b7 b8 = clipV (dotZ a3 a4 a5 b0 b3 b6) ∧ o_ref07_Mul_4 F a0 a1 a2 a3 a4 a5 a6 a7 a8 b0 b1 b2 b3 b4 b5 b6 b7 b8 = clipV (dotZ a3 a4 a5 b1 b4 b7) ∧ o_ref07_Mul_5 F a0 a1 a2 a3 a4 a5 a6 a7 a8 b0 b1 b2 b3 b4 b5 b6 b7 b8 = clipV (dotZ a3 a4 a5 b2 b5 b8) ∧ o_ref07_Mul_6 F a0 a1 a2 a3 a4 a5 a6 a7 a8 b0 b1 b2 b3 b4 b5 b6 b7 b8 = clipV (dotZ a6 a7 a8 b0 b3 b6) ∧ o_ref07_Mul_7 F a0 a1 a2 a3 a4 a5 a6 a7 a8 b0 b1 b2 b3 b4 b5 b6 b7 b8 = clipV (dotZ a6 a7 a8 b1 b4 b7) ∧ o_ref07_Mul_8 F a0 a1 a2 a3 a4 a5 a6 a7 a8 b0 b1 b2 b3 b4 b5 b6 b7 b8 = clipV (dotZ a6 a7 a8 b2 b5 b8) ∧ o_ref07_Mul_9 F a0 a1 a2 a3 a4 a5 a6 a7 a8 b0 b1 b2 b3 b4 b5 b6 b7 b8 = ((clipC (dotZ a0 a1 a2 b0 b3 b6) || clipC (dotZ a0 a1 a2 b1 b4 b7) || clipC (dotZ a0 a1 a2 b2 b5 b8)) || (clipC (dotZ a3 a4 a5 b0 b3 b6) || clipC (dotZ a3 a4 a5 b1 b4 b7) || clipC (dotZ a3 a4 a5 b2 b5 b8)) || (clipC (dotZ a6 a7 a8 b0 b3 b6) || clipC (dotZ a6 a7 a8 b1 b4 b7) || clipC (dotZ a6 a7 a8 b2 b5 b8))) := by
  refine k_ref07_Mul F _ _ _ _ _ _ _ _ _ _ _ _ _ _ _ _ _ _ ?_
  unfold f_ref07_Mul
  obtain ⟨b0_, bb0, bb1, bb2, bb3, bb4, bb5, bb6, bb7, bb8⟩ := a_rBack F b0 b1 b2 b3 b4 b5 b6 b7 b8
  obtain ⟨s00, s01, s02, s03, s04⟩ := a_rApply F hF ha0 ha1 ha2 ha3 ha4 ha5 ha6 ha7 ha8 hb0 hb3 hb6
  obtain ⟨s10, s11, s12, s13, s14⟩ := a_rApply F hF ha0 ha1 ha2 ha3 ha4 ha5 ha6 ha7 ha8 hb1 hb4 hb7
  obtain ⟨s20, s21, s22, s23, s24⟩ := a_rApply F hF ha0 ha1 ha2 ha3 ha4 ha5 ha6 ha7 ha8 hb2 hb5 hb8
  refine bp b0_ ?_
  rw [bb0, bb1, bb2, bb3, bb4, bb5, bb6, bb7, bb8]
  refine bp s00 (bp s10 (bp s20 ?_))
  rw [s01, s02, s03, s04, s11, s12, s13, s14, s21, s22, s23, s24]
  obtain ⟨f0_, ff0, ff1, ff2, ff3, ff4, ff5, ff6, ff7, ff8⟩ := a_rBack F (clipV (dotZ a0 a1 a2 b0 b3 b6)) (clipV (dotZ a3 a4 a5 b0 b3 b6)) (clipV (dotZ a6 a7 a8 b0 b3 b6)) (clipV (dotZ a0 a1 a2 b1 b4 b7)) (clipV (dotZ a3 a4 a5 b1 b4 b7)) (clipV (dotZ a6 a7 a8 b1 b4 b7)) (clipV (dotZ a0 a1 a2 b2 b5 b8)) (clipV (dotZ a3 a4 a5 b2 b5 b8)) (clipV (dotZ a6 a7 a8 b2 b5 b8))
  refine bp f0_ ?_
  rw [ff0, ff1, ff2, ff3, ff4, ff5, ff6, ff7, ff8]
  rw [← or9]
  exact or3M
theorem neg_both (x : Int) : IntKind.wrap .i64 (0 - bothS x) = -bothS x := by
  have := (both_bd x).2
  rw [wi64_in (by unfold I64; omega), Int.zero_sub]
theorem a_mAbout2 (F : Nat) (hF : 200 ≤ F) {x : Int} (hx : U32 x) : ok_mat_About F 2 x = true ∧ o_mat_About_0 F 2 x = (bothC x) ∧ o_mat_About_1 F 2 x = (-bothS x) ∧ o_mat_About_2 F 2 x = 0 ∧ o_mat_About_3 F 2 x = (bothS x) ∧ o_mat_About_4 F 2 x = (bothC x) ∧ o_mat_About_5 F 2 x = 0 ∧ o_mat_About_6 F 2 x = 0 ∧ o_mat_About_7 F 2 x = 0 ∧ o_mat_About_8 F 2 x = 4294967296 ∧ o_mat_About_9 F 2 x = 0 := by
  refine k_mat_About F _ _ ?_
  unfold f_mat_About
  obtain ⟨h1, h2, h3⟩ := a_tBoth F hF hx
  obtain ⟨m0, mm0, mm1, mm2, mm3, mm4, mm5, mm6, mm7, mm8⟩ := a_mSame F hF
  have w1 : Int.tmod (IntKind.wrap .i64 (2 + 1)) 3 = 0 := by decide
  have w2 : Int.tmod (IntKind.wrap .i64 (2 + 2)) 3 = 1 := by decide
  refine bn rfl (bn rfl (bp h1 ?_))
  rw [h2, h3, w1, w2]
  refine bp m0 ?_
  rw [mm0, mm1, mm2, mm3, mm4, mm5, mm6, mm7, mm8]
  dsimp only
  rw [neg_both]
  refine bp rfl (bp rfl (bp rfl (bp rfl (bp rfl (bp rfl (bp rfl (bp rfl (bp rfl (bp rfl (bp rfl (bp rfl (bp rfl ?_))))))))))))
  rfl
theorem f_works07 (F : Nat) (hF : 200 ≤ F) : f_law07_works F = some (.v (.bool true)) := by
  unfold f_law07_works
  have hI : ∀ y : Int, -4294967296 ≤ y ∧ y ≤ 4294967296 → I64 y := fun y h => by unfold I64; omega
  obtain ⟨⟨b1, b2⟩, b3, b4⟩ := both_bd 1073741824
  obtain ⟨a0_, aa0, aa1, aa2, aa3, aa4, aa5, aa6, aa7, aa8, a9_⟩ := a_mAbout2 F hF (x := 1073741824) (by unfold U32; omega)
  have eC : bothC 1073741824 = (-23) := by decide +kernel
  have eS : bothS 1073741824 = 4294967296 := by decide +kernel
  rw [eC] at aa0 aa4
  rw [eS] at aa1 aa3
  refine bp a0_ ?_
  rw [aa0, aa1, aa2, aa3, aa4, aa5, aa6, aa7, aa8]
  obtain ⟨p0_, p1, p2, p3, p4⟩ := a_mApply F hF (a0 := (-23)) (a1 := -4294967296) (a2 := 0) (a3 := 4294967296) (a4 := (-23)) (a5 := 0) (a6 := 0) (a7 := 0) (a8 := 4294967296) (u0 := 4294967296) (u1 := 0) (u2 := 0) (by unfold I64; omega) (by unfold I64; omega) (by unfold I64; omega) (by unfold I64; omega) (by unfold I64; omega) (by unfold I64; omega) (by unfold I64; omega) (by unfold I64; omega) (by unfold I64; omega) (by unfold I64; omega) (by unfold I64; omega) (by unfold I64; omega)
  obtain ⟨q0_, q1, q2, q3, q4⟩ := a_mApply F hF (a0 := (-23)) (a1 := -4294967296) (a2 := 0) (a3 := 4294967296) (a4 := (-23)) (a5 := 0) (a6 := 0) (a7 := 0) (a8 := 4294967296) (u0 := 0) (u1 := 0) (u2 := 4294967296) (by unfold I64; omega) (by unfold I64; omega) (by unfold I64; omega) (by unfold I64; omega) (by unfold I64; omega) (by unfold I64; omega) (by unfold I64; omega) (by unfold I64; omega) (by unfold I64; omega) (by unfold I64; omega) (by unfold I64; omega) (by unfold I64; omega)
  obtain ⟨m0, mm0, mm1, mm2, mm3, mm4, mm5, mm6, mm7, mm8⟩ := a_mSame F hF
  refine bp p0_ ?_
  refine bp q0_ ?_
  refine bp (by rw [a9_]; rfl) ?_
  refine bp ?_ ?_
  · rw [p2]; decide
  refine bp ?_ ?_
  · rw [p4]; decide
  refine bp ?_ ?_
  · rw [q1, q2, q3]; decide
  refine bp ?_ ?_
  · rw [q4]; decide
  refine bp m0 (some_bool ?_)
  rw [mm4]; rfl
theorem a_works07 (F : Nat) (hF : 200 ≤ F) : ok_law07_works F = true ∧ o_law07_works_0 F = true := k_law07_works F (f_works07 F hF)
end Go.Xv
namespace Go.Xv
theorem f_MatMuls (F : Nat) (hF : 200 ≤ F) {a0 a1 a2 a3 a4 a5 a6 a7 a8 a9 a10 a11 a12 a13 a14 a15 a16 a17 a18 a19 a20 : Int} (ha0 : I64 a0) (ha1 : I64 a1) (ha2 : I64 a2) (ha3 : I64 a3) (ha4 : I64 a4) (ha5 : I64 a5) (ha6 : I64 a6) (ha7 : I64 a7) (ha8 : I64 a8) (ha9 : I64 a9) (ha10 : I64 a10) (ha11 : I64 a11) (ha12 : I64 a12) (ha13 : I64 a13) (ha14 : I64 a14) (ha15 : I64 a15) (ha16 : I64 a16) (ha17 : I64 a17) (ha18 : I64 a18) (ha19 : I64 a19) (ha20 : I64 a20) : f_law07_MatMuls F a0 a1 a2 a3 a4 a5 a6 a7 a8 a9 a10 a11 a12 a13 a14 a15 a16 a17 a18 a19 a20 = some (.v (.bool true)) := by
  unfold f_law07_MatMuls
  obtain ⟨w1, w2⟩ := a_works07 F hF
  obtain ⟨p0, p1, p2, p3, p4, p5, p6, p7, p8, p9, p10⟩ := a_mMul F hF ha0 ha1 ha2 ha3 ha4 ha5 ha6 ha7 ha8 ha9 ha10 ha11 ha12 ha13 ha14 ha15 ha16 ha17
  obtain ⟨q0, q1, q2, q3, q4, q5, q6, q7, q8, q9, q10⟩ := a_rMul7 F hF ha0 ha1 ha2 ha3 ha4 ha5 ha6 ha7 ha8 ha9 ha10 ha11 ha12 ha13 ha14 ha15 ha16 ha17
  obtain ⟨r0, r1, r2, r3, r4⟩ := a_mApply F hF ha0 ha1 ha2 ha3 ha4 ha5 ha6 ha7 ha8 ha18 ha19 ha20
  obtain ⟨s0, s1, s2, s3, s4⟩ := a_rApply F hF ha0 ha1 ha2 ha3 ha4 ha5 ha6 ha7 ha8 ha18 ha19 ha20
  obtain ⟨t0, t1, t2, t3, t4, t5, t6, t7, t8, t9⟩ := a_mBack F hF a0 a1 a2 a3 a4 a5 a6 a7 a8
  obtain ⟨u0, u1, u2, u3, u4, u5, u6, u7, u8, u9⟩ := a_rBack F a0 a1 a2 a3 a4 a5 a6 a7 a8
  obtain ⟨v0, v1, v2, v3, v4, v5, v6, v7, v8, v9⟩ := a_mSame F hF
  obtain ⟨x0, x1, x2, x3, x4, x5, x6, x7, x8, x9⟩ := a_rSame F
  refine bp p0 (bp q0 (bp r0 (bp s0 (bp ?_ (bp ?_ (bp ?_ (bp ?_ (bp t0 (bp u0 (bp ?_ (bp v0 (bp x0 (bp ?_ (bp w1 (some_bool w2)))))))))))))))
  · rw [p1, p2, p3, p4, p5, p6, p7, p8, p9, q1, q2, q3, q4, q5, q6, q7, q8, q9]; simp
  · rw [p10, q10]; simp
  · rw [r1, r2, r3, s1, s2, s3]; simp
  · rw [r4, s4]; simp
  · rw [t1, t2, t3, t4, t5, t6, t7, t8, t9, u1, u2, u3, u4, u5, u6, u7, u8, u9]; simp
  · rw [v1, v2, v3, v4, v5, v6, v7, v8, v9, x1, x2, x3, x4, x5, x6, x7, x8, x9]; simp
end Go.Xv
namespace Go.Proofs.Ytpnggkefjgpleaa.matMuls
open Go.ChangeShapes Go.WideShapes Go.ChangeAt Go.RowKit Go.Xv Go.Proofs.Ytpnggkefjgpleaa.base
set_option linter.unusedVariables false
set_option maxRecDepth 100000 in
theorem lifted (os : Os) (started : os.Started) (H : Type) (enc : TypeId × Value → H) :
    ReturnsInHanded {} Try.checked os 15 .any (Rows.matMulsSpec.pre6 enc Try.prog Try.f15 Rows.matMulsRow.domain false) (Rows.matMulsSpec.post enc Try.prog Try.f15 false true false false) := by
  refine returnsInHanded_of_change (C := Try.checked) own started (by kernel_rfl) Try.func15
    (ChangeSpec.witness6 (enc := enc) (C := Try.checked) false ⟨#[], #[.agg #[.int .i64 0, .int .i64 0, .int .i64 0, .int .i64 0, .int .i64 0, .int .i64 0, .int .i64 0, .int .i64 0, .int .i64 0], .agg #[.int .i64 0, .int .i64 0, .int .i64 0, .int .i64 0, .int .i64 0, .int .i64 0, .int .i64 0, .int .i64 0, .int .i64 0], .agg #[.int .i64 0, .int .i64 0, .int .i64 0]], []⟩ 8 (by kernel_rfl) (by kernel_rfl) (by kernel_rfl) (by kernel_rfl)) ?_
  intro W base args ds gs before hval0 hW hcnd _
  have hval : ∀ (j : Nat) t v, Try.f15.params[j]? = some t → args[j]? = some v → Value.okWide Try.prog W .any base t v := hval0
  have hW' := hW
  obtain ⟨p, q, hA0, hV, rfl, hfz, hnd⟩ := hW
  have hA : DataW.TrodAll enc Try.prog W 0 (fun _ => true) true Try.f15.params.toList args.toList ds p := hA0
  rw [Try.params15] at hA hval
  obtain ⟨v0, vs0, d0, ds0, p0, q0, hargs, rfl, rfl, h0, r0⟩ := trodAll_cons hA
  obtain ⟨v1, vs1, d1, ds1, p1, q1, rfl, rfl, rfl, h1, r1⟩ := trodAll_cons r0
  obtain ⟨v2, vs2, d2, ds2, p2, q2, rfl, rfl, rfl, h2, r2⟩ := trodAll_cons r1
  obtain ⟨rfl, rfl, rfl⟩ := trodAll_nil r2
  obtain rfl : args = #[v0, v1, v2] := by cases args; simp_all
  obtain ⟨l0, rfl, f0⟩ := open_flat (ks := [some .i64, some .i64, some .i64, some .i64, some .i64, some .i64, some .i64, some .i64, some .i64]) (by kernel_rfl) (by kernel_rfl) (hval 0 55 v0 rfl rfl) h0
  obtain ⟨a0, l0, rfl, wa0, f0⟩ := fitW_some f0
  obtain ⟨a1, l0, rfl, wa1, f0⟩ := fitW_some f0
  obtain ⟨a2, l0, rfl, wa2, f0⟩ := fitW_some f0
  obtain ⟨a3, l0, rfl, wa3, f0⟩ := fitW_some f0
  obtain ⟨a4, l0, rfl, wa4, f0⟩ := fitW_some f0
  obtain ⟨a5, l0, rfl, wa5, f0⟩ := fitW_some f0
  obtain ⟨a6, l0, rfl, wa6, f0⟩ := fitW_some f0
  obtain ⟨a7, l0, rfl, wa7, f0⟩ := fitW_some f0
  obtain ⟨a8, l0, rfl, wa8, f0⟩ := fitW_some f0
  obtain rfl := fitW_nil f0
  obtain ⟨l1, rfl, f1⟩ := open_flat (ks := [some .i64, some .i64, some .i64, some .i64, some .i64, some .i64, some .i64, some .i64, some .i64]) (by kernel_rfl) (by kernel_rfl) (hval 1 55 v1 rfl rfl) h1
  obtain ⟨a9, l1, rfl, wa9, f1⟩ := fitW_some f1
  obtain ⟨a10, l1, rfl, wa10, f1⟩ := fitW_some f1
  obtain ⟨a11, l1, rfl, wa11, f1⟩ := fitW_some f1
  obtain ⟨a12, l1, rfl, wa12, f1⟩ := fitW_some f1
  obtain ⟨a13, l1, rfl, wa13, f1⟩ := fitW_some f1
  obtain ⟨a14, l1, rfl, wa14, f1⟩ := fitW_some f1
  obtain ⟨a15, l1, rfl, wa15, f1⟩ := fitW_some f1
  obtain ⟨a16, l1, rfl, wa16, f1⟩ := fitW_some f1
  obtain ⟨a17, l1, rfl, wa17, f1⟩ := fitW_some f1
  obtain rfl := fitW_nil f1
  obtain ⟨l2, rfl, f2⟩ := open_flat (ks := [some .i64, some .i64, some .i64]) (by kernel_rfl) (by kernel_rfl) (hval 2 24 v2 rfl rfl) h2
  obtain ⟨a18, l2, rfl, wa18, f2⟩ := fitW_some f2
  obtain ⟨a19, l2, rfl, wa19, f2⟩ := fitW_some f2
  obtain ⟨a20, l2, rfl, wa20, f2⟩ := fitW_some f2
  obtain rfl := fitW_nil f2
  refine law_contract laidOut (g_law07_MatMuls fuel0) (bt := 4) (by kernel_rfl) (by kernel_rfl) (by kernel_rfl) (by kernel_rfl) rfl hW' ?_
  refine ⟨[.v (.agg #[.int .i64 a0, .int .i64 a1, .int .i64 a2, .int .i64 a3, .int .i64 a4, .int .i64 a5, .int .i64 a6, .int .i64 a7, .int .i64 a8]), .v (.agg #[.int .i64 a9, .int .i64 a10, .int .i64 a11, .int .i64 a12, .int .i64 a13, .int .i64 a14, .int .i64 a15, .int .i64 a16, .int .i64 a17]), .v (.agg #[.int .i64 a18, .int .i64 a19, .int .i64 a20])], rfl, fun i x hx => ?_, unS_of ?_⟩
  · match i, hx with
    | 0, hx => exact ⟨_, rfl, by cases hx; exact Rel.v _ _⟩
    | 1, hx => exact ⟨_, rfl, by cases hx; exact Rel.v _ _⟩
    | 2, hx => exact ⟨_, rfl, by cases hx; exact Rel.v _ _⟩
    | _ + 3, hx => cases hx
  · obtain ⟨y1, y2⟩ := k_law07_MatMuls fuel0 a0 a1 a2 a3 a4 a5 a6 a7 a8 a9 a10 a11 a12 a13 a14 a15 a16 a17 a18 a19 a20 (f_MatMuls fuel0 (by unfold fuel0; omega) (wf_i64 wa0) (wf_i64 wa1) (wf_i64 wa2) (wf_i64 wa3) (wf_i64 wa4) (wf_i64 wa5) (wf_i64 wa6) (wf_i64 wa7) (wf_i64 wa8) (wf_i64 wa9) (wf_i64 wa10) (wf_i64 wa11) (wf_i64 wa12) (wf_i64 wa13) (wf_i64 wa14) (wf_i64 wa15) (wf_i64 wa16) (wf_i64 wa17) (wf_i64 wa18) (wf_i64 wa19) (wf_i64 wa20))
    have e : s_law07_MatMuls fuel0 [.v (.agg #[.int .i64 a0, .int .i64 a1, .int .i64 a2, .int .i64 a3, .int .i64 a4, .int .i64 a5, .int .i64 a6, .int .i64 a7, .int .i64 a8]), .v (.agg #[.int .i64 a9, .int .i64 a10, .int .i64 a11, .int .i64 a12, .int .i64 a13, .int .i64 a14, .int .i64 a15, .int .i64 a16, .int .i64 a17]), .v (.agg #[.int .i64 a18, .int .i64 a19, .int .i64 a20])] = some (ok_law07_MatMuls fuel0 a0 a1 a2 a3 a4 a5 a6 a7 a8 a9 a10 a11 a12 a13 a14 a15 a16 a17 a18 a19 a20, .v (.bool (o_law07_MatMuls_0 fuel0 a0 a1 a2 a3 a4 a5 a6 a7 a8 a9 a10 a11 a12 a13 a14 a15 a16 a17 a18 a19 a20))) := by kernel_rfl
    rw [e, y1, y2]
theorem over : Rows.matMulsRow.holds Try.pinned (OpenSpec.ofChange Rows.matMulsSpec) :=
  OpenClaim.holds_of_wide 15 Try.f15 rfl rfl rfl rfl rfl rfl rfl ⟨rfl, rfl, rfl, rfl, rfl⟩ rfl rfl rfl rfl rfl (by kernel_rfl) Try.func15 (joined_of (P := Try.prog) behind enter_ rfl rfl ⟨rfl, rfl⟩ (by kernel_rfl))
    (of_decide_eq_true (by kernel_rfl)) (by unfold Func.isWrapper; first | (rw [if_pos (by decide +kernel)]; kernel_rfl) | (rw [if_neg (by decide +kernel)]; exact ⟨rfl, rfl⟩))
    (fun os started H enc _ => lifted os started H enc)
/-- The statement. -/
theorem proved : Rows.MatMulsSaid := over
#print axioms proved
end Go.Proofs.Ytpnggkefjgpleaa.matMuls
