/- The functions of short numbers, of the program and of the document: what they compute. -/
import Derived.Test.YtpcblnkllakejaaF
import Derived.Test.YtpcblnkllakejaaProg
import Derived.KernelRfl
set_option linter.unusedVariables false
namespace Go.Xv
/- 25 _small_Turn -/
def c_small_Turn : Cfg := ⟨[0, 1, 4, 5, 6, 7, 8, 21], [], []⟩
def ti_small_Turn : List TV := [.v (.int .i32), .v (.int .i64)]
def to_small_Turn : TV := .v (.int .u32)
def S_small_Turn (F : Nat) : FuncId → List VV → Option (Bool × VV) := words []
def W_small_Turn (F : Nat) : List LW := []
def I_small_Turn (F : Nat) : Nat → VS → (Exit → VS → R) → R := tabI c_small_Turn (W_small_Turn F)
def f_small_Turn (F : Nat) (a0 : Int) (a1 : Int) : R :=
  let v1970 : Int := (if 0 > a1 then 0 else a1)
  let v1973 : Int := (IntKind.wrap .i64 (((IntKind.wrap .i64 a0)) * ((if 65535 < v1970 then 65535 else v1970))))
  let v1974 : Int := (IntKind.wrap .i64 (Int.tdiv v1973 100))
  let v1975 : Int := (Int.tmod v1973 100)
  bif ((decide (v1975 < 0))) then (
    some (.v (.int .u32 ((IntKind.wrap .u32 (((IntKind.wrap .u32 (((IntKind.wrap .u32 ((IntKind.wrap .i64 (v1974 - 1))))) * 65536))) + ((IntKind.wrap .u32 ((IntKind.wrap .i64 (Int.tdiv ((IntKind.wrap .i64 (((IntKind.wrap .i64 (v1975 + 100))) * 65536))) 100)))))))))))
  else (
    some (.v (.int .u32 ((IntKind.wrap .u32 (((IntKind.wrap .u32 (((IntKind.wrap .u32 v1974)) * 65536))) + ((IntKind.wrap .u32 ((IntKind.wrap .i64 (Int.tdiv ((IntKind.wrap .i64 (v1975 * 65536))) 100)))))))))))
theorem e_small_Turn (F : Nat) (a0 : Int) (a1 : Int) : funL PP (S_small_Turn F) c_small_Turn (I_small_Turn F) 25 (fTs ti_small_Turn [.i a0, .i a1]).1 = f_small_Turn F a0 a1 := by
  have h : ∀ (_ : Unit), funL PP (words []) c_small_Turn (tabI c_small_Turn []) 25 (fTs ti_small_Turn [.i a0, .i a1]).1 = (
  let v1970 : Int := (if 0 > a1 then 0 else a1)
  let v1973 : Int := (IntKind.wrap .i64 (((IntKind.wrap .i64 a0)) * ((if 65535 < v1970 then 65535 else v1970))))
  let v1974 : Int := (IntKind.wrap .i64 (Int.tdiv v1973 100))
  let v1975 : Int := (Int.tmod v1973 100)
  bif ((decide (v1975 < 0))) then (
    some (.v (.int .u32 ((IntKind.wrap .u32 (((IntKind.wrap .u32 (((IntKind.wrap .u32 ((IntKind.wrap .i64 (v1974 - 1))))) * 65536))) + ((IntKind.wrap .u32 ((IntKind.wrap .i64 (Int.tdiv ((IntKind.wrap .i64 (((IntKind.wrap .i64 (v1975 + 100))) * 65536))) 100)))))))))))
  else (
    some (.v (.int .u32 ((IntKind.wrap .u32 (((IntKind.wrap .u32 (((IntKind.wrap .u32 v1974)) * 65536))) + ((IntKind.wrap .u32 ((IntKind.wrap .i64 (Int.tdiv ((IntKind.wrap .i64 (v1975 * 65536))) 100))))))))))) : R) := by
    intros
    kernel_rfl
  exact (h ()).trans (by kernel_rfl)
def ok_small_Turn (F : Nat) (a0 : Int) (a1 : Int) : Bool := okT to_small_Turn (f_small_Turn F a0 a1)
def o_small_Turn_0 (F : Nat) (a0 : Int) (a1 : Int) : Int := atI (nth (outT to_small_Turn (f_small_Turn F a0 a1)) 0)
theorem k_small_Turn (F : Nat) (a0 : Int) (a1 : Int) {z0 : Int} (h : f_small_Turn F a0 a1 = some (.v (.int .u32 z0))) : ok_small_Turn F a0 a1 = true ∧ o_small_Turn_0 F a0 a1 = z0 := by
  refine ⟨?_, ?_⟩
  · unfold ok_small_Turn; rw [h]; kernel_rfl
  · unfold o_small_Turn_0; rw [h]; kernel_rfl
def s_small_Turn (F : Nat) : List VV → Option (Bool × VV) := spec ti_small_Turn to_small_Turn (fun q => (ok_small_Turn F (atI (nth q 0)) (atI (nth q 1)))) (fun q => [.i (o_small_Turn_0 F (atI (nth q 0)) (atI (nth q 1)))])
theorem hS_small_Turn (F : Nat) : ∀ f, Good PP f (unS (S_small_Turn F f)) := words_good fun p hp => by
  cases hp
theorem hl_small_Turn (F : Nat) : ∀ p ∈ loopsIn PP 25, LoopOK PP (S_small_Turn F) c_small_Turn F (I_small_Turn F) p :=
  loops_of [] (by kernel_rfl) all_nil
theorem g_small_Turn (F : Nat) : Good PP 25 (unS (s_small_Turn F)) :=
  fun_spec (hS_small_Turn F) (by kernel_rfl) (by kernel_rfl) (C := c_small_Turn) (F := fun q => (f_small_Turn F (atI (nth q 0)) (atI (nth q 1)))) (fun _ => F) (fun _ => I_small_Turn F) (fun _ => hl_small_Turn F)
    (fun q => (congrArg (funL PP (S_small_Turn F) c_small_Turn (I_small_Turn F) 25) (show (fTs ti_small_Turn q).1 = (fTs ti_small_Turn [.i (atI (nth q 0)), .i (atI (nth q 1))]).1 by kernel_rfl)).trans (e_small_Turn F (atI (nth q 0)) (atI (nth q 1))))
    (fun _ h => (okT_fill h).trans (congrArg some (by kernel_rfl)))

end Go.Xv
set_option linter.unusedVariables false
namespace Go.Xv
/- 26 _ref03_Turn -/
def c_ref03_Turn : Cfg := ⟨[0, 1, 4, 5, 6, 7, 8, 10, 30], [], [17]⟩
def ti_ref03_Turn : List TV := [.v (.int .i32), .v (.int .i64)]
def to_ref03_Turn : TV := .v (.int .u32)
def S_ref03_Turn (F : Nat) : FuncId → List VV → Option (Bool × VV) := words [(41, s_ref01_Mul F), (46, s_ref01_Left F), (84, s_ref01_Div F)]
def W_ref03_Turn (F : Nat) : List LW := []
def I_ref03_Turn (F : Nat) : Nat → VS → (Exit → VS → R) → R := tabI c_ref03_Turn (W_ref03_Turn F)
def f_ref03_Turn (F : Nat) (a0 : Int) (a1 : Int) : R :=
  let v1992 : Int := (if 0 > a1 then 0 else a1)
  let v1993 : Int := (if 65535 < v1992 then 65535 else v1992)
  let v1994 : Int := (IntKind.wrap .i64 a0)
  bif (ok_ref01_Mul F v1994 v1993) then (
    let v1995 : Int := (o_ref01_Mul_0 F v1994 v1993)
    let v1996 : Int := (o_ref01_Mul_1 F v1994 v1993)
    bif (ok_ref01_Left F v1995 v1996 16) then (
      let v1997 : Int := (o_ref01_Left_0 F v1995 v1996 16)
      let v1998 : Int := (o_ref01_Left_1 F v1995 v1996 16)
      bif (ok_ref01_Div F v1997 v1998 100) then (
        let v2004 : Int := (IntKind.wrap .u32 ((Int.tmod ((o_ref01_Div_1 F v1997 v1998 100)) 4294967296)))
        bif ((decide (((o_ref01_Div_2 F v1997 v1998 100)) < 0))) then (
          some (.v (.int .u32 ((IntKind.wrap .u32 (v2004 - 1))))))
        else (
          some (.v (.int .u32 v2004))))
      else (
        none))
    else (
      none))
  else (
    none)
theorem e_ref03_Turn (F : Nat) (a0 : Int) (a1 : Int) : funL PP (S_ref03_Turn F) c_ref03_Turn (I_ref03_Turn F) 26 (fTs ti_ref03_Turn [.i a0, .i a1]).1 = f_ref03_Turn F a0 a1 := by
  have h : ∀ (ok_ref01_Mul : Nat → Int → Int → Bool) (o_ref01_Mul_0 : Nat → Int → Int → Int) (o_ref01_Mul_1 : Nat → Int → Int → Int) (ok_ref01_Left : Nat → Int → Int → Int → Bool) (o_ref01_Left_0 : Nat → Int → Int → Int → Int) (o_ref01_Left_1 : Nat → Int → Int → Int → Int) (ok_ref01_Div : Nat → Int → Int → Int → Bool) (o_ref01_Div_0 : Nat → Int → Int → Int → Int) (o_ref01_Div_1 : Nat → Int → Int → Int → Int) (o_ref01_Div_2 : Nat → Int → Int → Int → Int) (o_ref01_Div_3 : Nat → Int → Int → Int → Bool), funL PP (words [(41, spec ti_ref01_Mul to_ref01_Mul (fun q => (ok_ref01_Mul F (atI (nth q 0)) (atI (nth q 1)))) (fun q => [.i (o_ref01_Mul_0 F (atI (nth q 0)) (atI (nth q 1))), .i (o_ref01_Mul_1 F (atI (nth q 0)) (atI (nth q 1)))])), (46, spec ti_ref01_Left to_ref01_Left (fun q => (ok_ref01_Left F (atI (nth q 0)) (atI (nth q 1)) (atI (nth q 2)))) (fun q => [.i (o_ref01_Left_0 F (atI (nth q 0)) (atI (nth q 1)) (atI (nth q 2))), .i (o_ref01_Left_1 F (atI (nth q 0)) (atI (nth q 1)) (atI (nth q 2)))])), (84, spec ti_ref01_Div to_ref01_Div (fun q => (ok_ref01_Div F (atI (nth q 0)) (atI (nth q 1)) (atI (nth q 2)))) (fun q => [.i (o_ref01_Div_0 F (atI (nth q 0)) (atI (nth q 1)) (atI (nth q 2))), .i (o_ref01_Div_1 F (atI (nth q 0)) (atI (nth q 1)) (atI (nth q 2))), .i (o_ref01_Div_2 F (atI (nth q 0)) (atI (nth q 1)) (atI (nth q 2))), .b (o_ref01_Div_3 F (atI (nth q 0)) (atI (nth q 1)) (atI (nth q 2)))]))]) c_ref03_Turn (tabI c_ref03_Turn []) 26 (fTs ti_ref03_Turn [.i a0, .i a1]).1 = (
  let v1992 : Int := (if 0 > a1 then 0 else a1)
  let v1993 : Int := (if 65535 < v1992 then 65535 else v1992)
  let v1994 : Int := (IntKind.wrap .i64 a0)
  bif (ok_ref01_Mul F v1994 v1993) then (
    let v1995 : Int := (o_ref01_Mul_0 F v1994 v1993)
    let v1996 : Int := (o_ref01_Mul_1 F v1994 v1993)
    bif (ok_ref01_Left F v1995 v1996 16) then (
      let v1997 : Int := (o_ref01_Left_0 F v1995 v1996 16)
      let v1998 : Int := (o_ref01_Left_1 F v1995 v1996 16)
      bif (ok_ref01_Div F v1997 v1998 100) then (
        let v2004 : Int := (IntKind.wrap .u32 ((Int.tmod ((o_ref01_Div_1 F v1997 v1998 100)) 4294967296)))
        bif ((decide (((o_ref01_Div_2 F v1997 v1998 100)) < 0))) then (
          some (.v (.int .u32 ((IntKind.wrap .u32 (v2004 - 1))))))
        else (
          some (.v (.int .u32 v2004))))
      else (
        none))
    else (
      none))
  else (
    none) : R) := by
    intros
    kernel_rfl
  exact (h ok_ref01_Mul o_ref01_Mul_0 o_ref01_Mul_1 ok_ref01_Left o_ref01_Left_0 o_ref01_Left_1 ok_ref01_Div o_ref01_Div_0 o_ref01_Div_1 o_ref01_Div_2 o_ref01_Div_3).trans (by kernel_rfl)
def ok_ref03_Turn (F : Nat) (a0 : Int) (a1 : Int) : Bool := okT to_ref03_Turn (f_ref03_Turn F a0 a1)
def o_ref03_Turn_0 (F : Nat) (a0 : Int) (a1 : Int) : Int := atI (nth (outT to_ref03_Turn (f_ref03_Turn F a0 a1)) 0)
theorem k_ref03_Turn (F : Nat) (a0 : Int) (a1 : Int) {z0 : Int} (h : f_ref03_Turn F a0 a1 = some (.v (.int .u32 z0))) : ok_ref03_Turn F a0 a1 = true ∧ o_ref03_Turn_0 F a0 a1 = z0 := by
  refine ⟨?_, ?_⟩
  · unfold ok_ref03_Turn; rw [h]; kernel_rfl
  · unfold o_ref03_Turn_0; rw [h]; kernel_rfl
def s_ref03_Turn (F : Nat) : List VV → Option (Bool × VV) := spec ti_ref03_Turn to_ref03_Turn (fun q => (ok_ref03_Turn F (atI (nth q 0)) (atI (nth q 1)))) (fun q => [.i (o_ref03_Turn_0 F (atI (nth q 0)) (atI (nth q 1)))])
theorem hS_ref03_Turn (F : Nat) : ∀ f, Good PP f (unS (S_ref03_Turn F f)) := words_good fun p hp => by
  simp only [List.mem_cons, List.not_mem_nil, or_false] at hp
  rcases hp with rfl | rfl | rfl
  · exact g_ref01_Mul F
  · exact g_ref01_Left F
  · exact g_ref01_Div F
theorem hl_ref03_Turn (F : Nat) : ∀ p ∈ loopsIn PP 26, LoopOK PP (S_ref03_Turn F) c_ref03_Turn F (I_ref03_Turn F) p :=
  loops_of [] (by kernel_rfl) all_nil
theorem g_ref03_Turn (F : Nat) : Good PP 26 (unS (s_ref03_Turn F)) :=
  fun_spec (hS_ref03_Turn F) (by kernel_rfl) (by kernel_rfl) (C := c_ref03_Turn) (F := fun q => (f_ref03_Turn F (atI (nth q 0)) (atI (nth q 1)))) (fun _ => F) (fun _ => I_ref03_Turn F) (fun _ => hl_ref03_Turn F)
    (fun q => (congrArg (funL PP (S_ref03_Turn F) c_ref03_Turn (I_ref03_Turn F) 26) (show (fTs ti_ref03_Turn q).1 = (fTs ti_ref03_Turn [.i (atI (nth q 0)), .i (atI (nth q 1))]).1 by kernel_rfl)).trans (e_ref03_Turn F (atI (nth q 0)) (atI (nth q 1))))
    (fun _ h => (okT_fill h).trans (congrArg some (by kernel_rfl)))

end Go.Xv
set_option linter.unusedVariables false
namespace Go.Xv
/- 102 _small_near -/
def c_small_near : Cfg := ⟨[0, 2], [], []⟩
def ti_small_near : List TV := [.v (.int .i64)]
def to_small_near : TV := .v (.int .i64)
def S_small_near (F : Nat) : FuncId → List VV → Option (Bool × VV) := words []
def W_small_near (F : Nat) : List LW := []
def I_small_near (F : Nat) : Nat → VS → (Exit → VS → R) → R := tabI c_small_near (W_small_near F)
def f_small_near (F : Nat) (a0 : Int) : R :=
  some (.v (.int .i64 ((IntKind.wrap .i64 (((Int.fdiv a0 (65536))) + ((andI .i64 ((Int.fdiv a0 (32768))) 1)))))))
theorem e_small_near (F : Nat) (a0 : Int) : funL PP (S_small_near F) c_small_near (I_small_near F) 102 (fTs ti_small_near [.i a0]).1 = f_small_near F a0 := by
  have h : ∀ (_ : Unit), funL PP (words []) c_small_near (tabI c_small_near []) 102 (fTs ti_small_near [.i a0]).1 = (
  some (.v (.int .i64 ((IntKind.wrap .i64 (((Int.fdiv a0 (65536))) + ((andI .i64 ((Int.fdiv a0 (32768))) 1))))))) : R) := by
    intros
    kernel_rfl
  exact (h ()).trans (by kernel_rfl)
def ok_small_near (F : Nat) (a0 : Int) : Bool := okT to_small_near (f_small_near F a0)
def o_small_near_0 (F : Nat) (a0 : Int) : Int := atI (nth (outT to_small_near (f_small_near F a0)) 0)
theorem k_small_near (F : Nat) (a0 : Int) {z0 : Int} (h : f_small_near F a0 = some (.v (.int .i64 z0))) : ok_small_near F a0 = true ∧ o_small_near_0 F a0 = z0 := by
  refine ⟨?_, ?_⟩
  · unfold ok_small_near; rw [h]; kernel_rfl
  · unfold o_small_near_0; rw [h]; kernel_rfl
def s_small_near (F : Nat) : List VV → Option (Bool × VV) := spec ti_small_near to_small_near (fun q => (ok_small_near F (atI (nth q 0)))) (fun q => [.i (o_small_near_0 F (atI (nth q 0)))])
theorem hS_small_near (F : Nat) : ∀ f, Good PP f (unS (S_small_near F f)) := words_good fun p hp => by
  cases hp
theorem hl_small_near (F : Nat) : ∀ p ∈ loopsIn PP 102, LoopOK PP (S_small_near F) c_small_near F (I_small_near F) p :=
  loops_of [] (by kernel_rfl) all_nil
theorem g_small_near (F : Nat) : Good PP 102 (unS (s_small_near F)) :=
  fun_spec (hS_small_near F) (by kernel_rfl) (by kernel_rfl) (C := c_small_near) (F := fun q => (f_small_near F (atI (nth q 0)))) (fun _ => F) (fun _ => I_small_near F) (fun _ => hl_small_near F)
    (fun q => (congrArg (funL PP (S_small_near F) c_small_near (I_small_near F) 102) (show (fTs ti_small_near q).1 = (fTs ti_small_near [.i (atI (nth q 0))]).1 by kernel_rfl)).trans (e_small_near F (atI (nth q 0))))
    (fun _ h => (okT_fill h).trans (congrArg some (by kernel_rfl)))

end Go.Xv
set_option linter.unusedVariables false
namespace Go.Xv
/- 101 _small_clip -/
def c_small_clip : Cfg := ⟨[0, 2, 3, 4], [], []⟩
def ti_small_clip : List TV := [.v (.int .i64)]
def to_small_clip : TV := .v (.tup [.int .i32, .bool])
def S_small_clip (F : Nat) : FuncId → List VV → Option (Bool × VV) := words []
def W_small_clip (F : Nat) : List LW := []
def I_small_clip (F : Nat) : Nat → VS → (Exit → VS → R) → R := tabI c_small_clip (W_small_clip F)
def f_small_clip (F : Nat) (a0 : Int) : R :=
  let v2014 : Int := (if (-2147483648) > a0 then (-2147483648) else a0)
  let v2015 : Int := (if 2147483647 < v2014 then 2147483647 else v2014)
  some (.v (.tuple #[.int .i32 ((IntKind.wrap .i32 v2015)), .bool ((v2015 != a0))]))
theorem e_small_clip (F : Nat) (a0 : Int) : funL PP (S_small_clip F) c_small_clip (I_small_clip F) 101 (fTs ti_small_clip [.i a0]).1 = f_small_clip F a0 := by
  have h : ∀ (_ : Unit), funL PP (words []) c_small_clip (tabI c_small_clip []) 101 (fTs ti_small_clip [.i a0]).1 = (
  let v2014 : Int := (if (-2147483648) > a0 then (-2147483648) else a0)
  let v2015 : Int := (if 2147483647 < v2014 then 2147483647 else v2014)
  some (.v (.tuple #[.int .i32 ((IntKind.wrap .i32 v2015)), .bool ((v2015 != a0))])) : R) := by
    intros
    kernel_rfl
  exact (h ()).trans (by kernel_rfl)
def ok_small_clip (F : Nat) (a0 : Int) : Bool := okT to_small_clip (f_small_clip F a0)
def o_small_clip_0 (F : Nat) (a0 : Int) : Int := atI (nth (outT to_small_clip (f_small_clip F a0)) 0)
def o_small_clip_1 (F : Nat) (a0 : Int) : Bool := atB (nth (outT to_small_clip (f_small_clip F a0)) 1)
theorem k_small_clip (F : Nat) (a0 : Int) {z0 : Int} {z1 : Bool} (h : f_small_clip F a0 = some (.v (.tuple #[.int .i32 z0, .bool z1]))) : ok_small_clip F a0 = true ∧ o_small_clip_0 F a0 = z0 ∧ o_small_clip_1 F a0 = z1 := by
  refine ⟨?_, ?_, ?_⟩
  · unfold ok_small_clip; rw [h]; kernel_rfl
  · unfold o_small_clip_0; rw [h]; kernel_rfl
  · unfold o_small_clip_1; rw [h]; kernel_rfl
def s_small_clip (F : Nat) : List VV → Option (Bool × VV) := spec ti_small_clip to_small_clip (fun q => (ok_small_clip F (atI (nth q 0)))) (fun q => [.i (o_small_clip_0 F (atI (nth q 0))), .b (o_small_clip_1 F (atI (nth q 0)))])
theorem hS_small_clip (F : Nat) : ∀ f, Good PP f (unS (S_small_clip F f)) := words_good fun p hp => by
  cases hp
theorem hl_small_clip (F : Nat) : ∀ p ∈ loopsIn PP 101, LoopOK PP (S_small_clip F) c_small_clip F (I_small_clip F) p :=
  loops_of [] (by kernel_rfl) all_nil
theorem g_small_clip (F : Nat) : Good PP 101 (unS (s_small_clip F)) :=
  fun_spec (hS_small_clip F) (by kernel_rfl) (by kernel_rfl) (C := c_small_clip) (F := fun q => (f_small_clip F (atI (nth q 0)))) (fun _ => F) (fun _ => I_small_clip F) (fun _ => hl_small_clip F)
    (fun q => (congrArg (funL PP (S_small_clip F) c_small_clip (I_small_clip F) 101) (show (fTs ti_small_clip q).1 = (fTs ti_small_clip [.i (atI (nth q 0))]).1 by kernel_rfl)).trans (e_small_clip F (atI (nth q 0))))
    (fun _ h => (okT_fill h).trans (congrArg some (by kernel_rfl)))

end Go.Xv
set_option linter.unusedVariables false
namespace Go.Xv
/- 38 _small_Narrow -/
def c_small_Narrow : Cfg := ⟨[0, 2, 3], [], [5]⟩
def ti_small_Narrow : List TV := [.v (.int .i64)]
def to_small_Narrow : TV := .v (.tup [.int .i32, .bool])
def S_small_Narrow (F : Nat) : FuncId → List VV → Option (Bool × VV) := words [(102, s_small_near F), (101, s_small_clip F)]
def W_small_Narrow (F : Nat) : List LW := []
def I_small_Narrow (F : Nat) : Nat → VS → (Exit → VS → R) → R := tabI c_small_Narrow (W_small_Narrow F)
def f_small_Narrow (F : Nat) (a0 : Int) : R :=
  bif (ok_small_near F a0) then (
    let v2013 : Int := (o_small_near_0 F a0)
    bif (ok_small_clip F v2013) then (
      some (.v (.tuple #[.int .i32 ((o_small_clip_0 F v2013)), .bool ((o_small_clip_1 F v2013))])))
    else (
      none))
  else (
    none)
theorem e_small_Narrow (F : Nat) (a0 : Int) : funL PP (S_small_Narrow F) c_small_Narrow (I_small_Narrow F) 38 (fTs ti_small_Narrow [.i a0]).1 = f_small_Narrow F a0 := by
  have h : ∀ (ok_small_near : Nat → Int → Bool) (o_small_near_0 : Nat → Int → Int) (ok_small_clip : Nat → Int → Bool) (o_small_clip_0 : Nat → Int → Int) (o_small_clip_1 : Nat → Int → Bool), funL PP (words [(102, spec ti_small_near to_small_near (fun q => (ok_small_near F (atI (nth q 0)))) (fun q => [.i (o_small_near_0 F (atI (nth q 0)))])), (101, spec ti_small_clip to_small_clip (fun q => (ok_small_clip F (atI (nth q 0)))) (fun q => [.i (o_small_clip_0 F (atI (nth q 0))), .b (o_small_clip_1 F (atI (nth q 0)))]))]) c_small_Narrow (tabI c_small_Narrow []) 38 (fTs ti_small_Narrow [.i a0]).1 = (
  bif (ok_small_near F a0) then (
    let v2013 : Int := (o_small_near_0 F a0)
    bif (ok_small_clip F v2013) then (
      some (.v (.tuple #[.int .i32 ((o_small_clip_0 F v2013)), .bool ((o_small_clip_1 F v2013))])))
    else (
      none))
  else (
    none) : R) := by
    intros
    kernel_rfl
  exact (h ok_small_near o_small_near_0 ok_small_clip o_small_clip_0 o_small_clip_1).trans (by kernel_rfl)
def ok_small_Narrow (F : Nat) (a0 : Int) : Bool := okT to_small_Narrow (f_small_Narrow F a0)
def o_small_Narrow_0 (F : Nat) (a0 : Int) : Int := atI (nth (outT to_small_Narrow (f_small_Narrow F a0)) 0)
def o_small_Narrow_1 (F : Nat) (a0 : Int) : Bool := atB (nth (outT to_small_Narrow (f_small_Narrow F a0)) 1)
theorem k_small_Narrow (F : Nat) (a0 : Int) {z0 : Int} {z1 : Bool} (h : f_small_Narrow F a0 = some (.v (.tuple #[.int .i32 z0, .bool z1]))) : ok_small_Narrow F a0 = true ∧ o_small_Narrow_0 F a0 = z0 ∧ o_small_Narrow_1 F a0 = z1 := by
  refine ⟨?_, ?_, ?_⟩
  · unfold ok_small_Narrow; rw [h]; kernel_rfl
  · unfold o_small_Narrow_0; rw [h]; kernel_rfl
  · unfold o_small_Narrow_1; rw [h]; kernel_rfl
def s_small_Narrow (F : Nat) : List VV → Option (Bool × VV) := spec ti_small_Narrow to_small_Narrow (fun q => (ok_small_Narrow F (atI (nth q 0)))) (fun q => [.i (o_small_Narrow_0 F (atI (nth q 0))), .b (o_small_Narrow_1 F (atI (nth q 0)))])
theorem hS_small_Narrow (F : Nat) : ∀ f, Good PP f (unS (S_small_Narrow F f)) := words_good fun p hp => by
  simp only [List.mem_cons, List.not_mem_nil, or_false] at hp
  rcases hp with rfl | rfl
  · exact g_small_near F
  · exact g_small_clip F
theorem hl_small_Narrow (F : Nat) : ∀ p ∈ loopsIn PP 38, LoopOK PP (S_small_Narrow F) c_small_Narrow F (I_small_Narrow F) p :=
  loops_of [] (by kernel_rfl) all_nil
theorem g_small_Narrow (F : Nat) : Good PP 38 (unS (s_small_Narrow F)) :=
  fun_spec (hS_small_Narrow F) (by kernel_rfl) (by kernel_rfl) (C := c_small_Narrow) (F := fun q => (f_small_Narrow F (atI (nth q 0)))) (fun _ => F) (fun _ => I_small_Narrow F) (fun _ => hl_small_Narrow F)
    (fun q => (congrArg (funL PP (S_small_Narrow F) c_small_Narrow (I_small_Narrow F) 38) (show (fTs ti_small_Narrow q).1 = (fTs ti_small_Narrow [.i (atI (nth q 0))]).1 by kernel_rfl)).trans (e_small_Narrow F (atI (nth q 0))))
    (fun _ h => (okT_fill h).trans (congrArg some (by kernel_rfl)))

end Go.Xv
set_option linter.unusedVariables false
namespace Go.Xv
/- 28 _small_Put -/
def c_small_Put : Cfg := ⟨[0, 2, 3], [], []⟩
def ti_small_Put : List TV := [.v (.int .i32)]
def to_small_Put : TV := .v (.agg [.int .u8, .int .u8, .int .u8, .int .u8])
def S_small_Put (F : Nat) : FuncId → List VV → Option (Bool × VV) := words []
def W_small_Put (F : Nat) : List LW := []
def I_small_Put (F : Nat) : Nat → VS → (Exit → VS → R) → R := tabI c_small_Put (W_small_Put F)
def f_small_Put (F : Nat) (a0 : Int) : R :=
  let v2022 : Int := (IntKind.wrap .u32 a0)
  some (.v (.agg #[.int .u8 ((IntKind.wrap .u8 ((Int.fdiv v2022 (16777216))))), .int .u8 ((IntKind.wrap .u8 ((Int.fdiv v2022 (65536))))), .int .u8 ((IntKind.wrap .u8 ((Int.fdiv v2022 (256))))), .int .u8 ((IntKind.wrap .u8 v2022))]))
theorem e_small_Put (F : Nat) (a0 : Int) : funL PP (S_small_Put F) c_small_Put (I_small_Put F) 28 (fTs ti_small_Put [.i a0]).1 = f_small_Put F a0 := by
  have h : ∀ (_ : Unit), funL PP (words []) c_small_Put (tabI c_small_Put []) 28 (fTs ti_small_Put [.i a0]).1 = (
  let v2022 : Int := (IntKind.wrap .u32 a0)
  some (.v (.agg #[.int .u8 ((IntKind.wrap .u8 ((Int.fdiv v2022 (16777216))))), .int .u8 ((IntKind.wrap .u8 ((Int.fdiv v2022 (65536))))), .int .u8 ((IntKind.wrap .u8 ((Int.fdiv v2022 (256))))), .int .u8 ((IntKind.wrap .u8 v2022))])) : R) := by
    intros
    kernel_rfl
  exact (h ()).trans (by kernel_rfl)
def ok_small_Put (F : Nat) (a0 : Int) : Bool := okT to_small_Put (f_small_Put F a0)
def o_small_Put_0 (F : Nat) (a0 : Int) : Int := atI (nth (outT to_small_Put (f_small_Put F a0)) 0)
def o_small_Put_1 (F : Nat) (a0 : Int) : Int := atI (nth (outT to_small_Put (f_small_Put F a0)) 1)
def o_small_Put_2 (F : Nat) (a0 : Int) : Int := atI (nth (outT to_small_Put (f_small_Put F a0)) 2)
def o_small_Put_3 (F : Nat) (a0 : Int) : Int := atI (nth (outT to_small_Put (f_small_Put F a0)) 3)
theorem k_small_Put (F : Nat) (a0 : Int) {z0 : Int} {z1 : Int} {z2 : Int} {z3 : Int} (h : f_small_Put F a0 = some (.v (.agg #[.int .u8 z0, .int .u8 z1, .int .u8 z2, .int .u8 z3]))) : ok_small_Put F a0 = true ∧ o_small_Put_0 F a0 = z0 ∧ o_small_Put_1 F a0 = z1 ∧ o_small_Put_2 F a0 = z2 ∧ o_small_Put_3 F a0 = z3 := by
  refine ⟨?_, ?_, ?_, ?_, ?_⟩
  · unfold ok_small_Put; rw [h]; kernel_rfl
  · unfold o_small_Put_0; rw [h]; kernel_rfl
  · unfold o_small_Put_1; rw [h]; kernel_rfl
  · unfold o_small_Put_2; rw [h]; kernel_rfl
  · unfold o_small_Put_3; rw [h]; kernel_rfl
def s_small_Put (F : Nat) : List VV → Option (Bool × VV) := spec ti_small_Put to_small_Put (fun q => (ok_small_Put F (atI (nth q 0)))) (fun q => [.i (o_small_Put_0 F (atI (nth q 0))), .i (o_small_Put_1 F (atI (nth q 0))), .i (o_small_Put_2 F (atI (nth q 0))), .i (o_small_Put_3 F (atI (nth q 0)))])
theorem hS_small_Put (F : Nat) : ∀ f, Good PP f (unS (S_small_Put F f)) := words_good fun p hp => by
  cases hp
theorem hl_small_Put (F : Nat) : ∀ p ∈ loopsIn PP 28, LoopOK PP (S_small_Put F) c_small_Put F (I_small_Put F) p :=
  loops_of [] (by kernel_rfl) all_nil
theorem g_small_Put (F : Nat) : Good PP 28 (unS (s_small_Put F)) :=
  fun_spec (hS_small_Put F) (by kernel_rfl) (by kernel_rfl) (C := c_small_Put) (F := fun q => (f_small_Put F (atI (nth q 0)))) (fun _ => F) (fun _ => I_small_Put F) (fun _ => hl_small_Put F)
    (fun q => (congrArg (funL PP (S_small_Put F) c_small_Put (I_small_Put F) 28) (show (fTs ti_small_Put q).1 = (fTs ti_small_Put [.i (atI (nth q 0))]).1 by kernel_rfl)).trans (e_small_Put F (atI (nth q 0))))
    (fun _ h => (okT_fill h).trans (congrArg some (by kernel_rfl)))

end Go.Xv
set_option linter.unusedVariables false
namespace Go.Xv
/- 35 _base_SameBytes -/
def c_base_SameBytes : Cfg := ⟨[0, 1, 4], [], []⟩
def ti_base_SameBytes : List TV := [.fs (.lit 0) .hole 1, .fs (.lit 0) .hole 1]
def to_base_SameBytes : TV := .v (.bool)
def S_base_SameBytes (F : Nat) : FuncId → List VV → Option (Bool × VV) := words []
def W_base_SameBytes (F : Nat) : List LW := []
def I_base_SameBytes (F : Nat) : Nat → VS → (Exit → VS → R) → R := tabI c_base_SameBytes (W_base_SameBytes F)
def f_base_SameBytes (F : Nat) (a0 : List VV) (a1 : Nat) (a2 : List VV) (a3 : Nat) : R :=
  bif (((byteL ((a0.drop 0).take a1)).1 && true) && (decide (a1 ≤ (a0.drop 0).length))) then (
    bif (((byteL ((a2.drop 0).take a3)).1 && true) && (decide (a3 ≤ (a2.drop 0).length))) then (
      some (.v (.bool (((ByteArray.toList (ByteArray.mk (byteL ((a0.drop 0).take a1)).2.toArray)) == (ByteArray.toList (ByteArray.mk (byteL ((a2.drop 0).take a3)).2.toArray)))))))
    else (
      none))
  else (
    none)
theorem e_base_SameBytes (F : Nat) (a0 : List VV) (a1 : Nat) (a2 : List VV) (a3 : Nat) : funL PP (S_base_SameBytes F) c_base_SameBytes (I_base_SameBytes F) 35 (fTs ti_base_SameBytes [.c a0, .n a1, .c a2, .n a3]).1 = f_base_SameBytes F a0 a1 a2 a3 := by
  have h : ∀ (_ : Unit), funL PP (words []) c_base_SameBytes (tabI c_base_SameBytes []) 35 (fTs ti_base_SameBytes [.c a0, .n a1, .c a2, .n a3]).1 = (
  bif (((byteL ((a0.drop 0).take a1)).1 && true) && (decide (a1 ≤ (a0.drop 0).length))) then (
    bif (((byteL ((a2.drop 0).take a3)).1 && true) && (decide (a3 ≤ (a2.drop 0).length))) then (
      some (.v (.bool (((ByteArray.toList (ByteArray.mk (byteL ((a0.drop 0).take a1)).2.toArray)) == (ByteArray.toList (ByteArray.mk (byteL ((a2.drop 0).take a3)).2.toArray)))))))
    else (
      none))
  else (
    none) : R) := by
    intros
    kernel_rfl
  exact (h ()).trans (by kernel_rfl)
def ok_base_SameBytes (F : Nat) (a0 : List VV) (a1 : Nat) (a2 : List VV) (a3 : Nat) : Bool := okT to_base_SameBytes (f_base_SameBytes F a0 a1 a2 a3)
def o_base_SameBytes_0 (F : Nat) (a0 : List VV) (a1 : Nat) (a2 : List VV) (a3 : Nat) : Bool := atB (nth (outT to_base_SameBytes (f_base_SameBytes F a0 a1 a2 a3)) 0)
theorem k_base_SameBytes (F : Nat) (a0 : List VV) (a1 : Nat) (a2 : List VV) (a3 : Nat) {z0 : Bool} (h : f_base_SameBytes F a0 a1 a2 a3 = some (.v (.bool z0))) : ok_base_SameBytes F a0 a1 a2 a3 = true ∧ o_base_SameBytes_0 F a0 a1 a2 a3 = z0 := by
  refine ⟨?_, ?_⟩
  · unfold ok_base_SameBytes; rw [h]; kernel_rfl
  · unfold o_base_SameBytes_0; rw [h]; kernel_rfl
def s_base_SameBytes (F : Nat) : List VV → Option (Bool × VV) := spec ti_base_SameBytes to_base_SameBytes (fun q => (ok_base_SameBytes F (atC (nth q 0)) (atN (nth q 1)) (atC (nth q 2)) (atN (nth q 3)))) (fun q => [.b (o_base_SameBytes_0 F (atC (nth q 0)) (atN (nth q 1)) (atC (nth q 2)) (atN (nth q 3)))])
theorem hS_base_SameBytes (F : Nat) : ∀ f, Good PP f (unS (S_base_SameBytes F f)) := words_good fun p hp => by
  cases hp
theorem hl_base_SameBytes (F : Nat) : ∀ p ∈ loopsIn PP 35, LoopOK PP (S_base_SameBytes F) c_base_SameBytes F (I_base_SameBytes F) p :=
  loops_of [] (by kernel_rfl) all_nil
theorem g_base_SameBytes (F : Nat) : Good PP 35 (unS (s_base_SameBytes F)) :=
  fun_spec (hS_base_SameBytes F) (by kernel_rfl) (by kernel_rfl) (C := c_base_SameBytes) (F := fun q => (f_base_SameBytes F (atC (nth q 0)) (atN (nth q 1)) (atC (nth q 2)) (atN (nth q 3)))) (fun _ => F) (fun _ => I_base_SameBytes F) (fun _ => hl_base_SameBytes F)
    (fun q => (congrArg (funL PP (S_base_SameBytes F) c_base_SameBytes (I_base_SameBytes F) 35) (show (fTs ti_base_SameBytes q).1 = (fTs ti_base_SameBytes [.c (atC (nth q 0)), .n (atN (nth q 1)), .c (atC (nth q 2)), .n (atN (nth q 3))]).1 by kernel_rfl)).trans (e_base_SameBytes F (atC (nth q 0)) (atN (nth q 1)) (atC (nth q 2)) (atN (nth q 3))))
    (fun _ h => (okT_fill h).trans (congrArg some (by kernel_rfl)))

end Go.Xv
set_option linter.unusedVariables false
namespace Go.Xv
/- 27 _law03_works -/
def c_law03_works : Cfg := ⟨[0, 1, 2, 3], [], [21]⟩
def ti_law03_works : List TV := []
def to_law03_works : TV := .v (.bool)
def S_law03_works (F : Nat) : FuncId → List VV → Option (Bool × VV) := words [(38, s_small_Narrow F), (28, s_small_Put F), (25, s_small_Turn F), (35, s_base_SameBytes F)]
def W_law03_works (F : Nat) : List LW := []
def I_law03_works (F : Nat) : Nat → VS → (Exit → VS → R) → R := tabI c_law03_works (W_law03_works F)
def f_law03_works (F : Nat) : R :=
  bif (ok_small_Narrow F 4294967296) then (
    bif (ok_small_Put F ((-2))) then (
      let v2030 : Int := (o_small_Put_0 F ((-2)))
      let v2031 : Int := (o_small_Put_1 F ((-2)))
      let v2032 : Int := (o_small_Put_2 F ((-2)))
      let v2033 : Int := (o_small_Put_3 F ((-2)))
      bif ((((o_small_Narrow_0 F 4294967296)) == 65536)) then (
        bif ((!((o_small_Narrow_1 F 4294967296)))) then (
          bif (ok_small_Turn F 65536 50) then (
            bif ((((o_small_Turn_0 F 65536 50)) == 2147483648)) then (
              bif (ok_base_SameBytes F ([.v (.int .u8 v2030), .v (.int .u8 v2031), .v (.int .u8 v2032), .v (.int .u8 v2033)]) 4 ([.v (.int .u8 255), .v (.int .u8 255), .v (.int .u8 255), .v (.int .u8 254)]) 4) then (
                some (.v (.bool ((o_base_SameBytes_0 F ([.v (.int .u8 v2030), .v (.int .u8 v2031), .v (.int .u8 v2032), .v (.int .u8 v2033)]) 4 ([.v (.int .u8 255), .v (.int .u8 255), .v (.int .u8 255), .v (.int .u8 254)]) 4)))))
              else (
                none))
            else (
              some (.v (.bool false))))
          else (
            none))
        else (
          some (.v (.bool false))))
      else (
        some (.v (.bool false))))
    else (
      none))
  else (
    none)
theorem e_law03_works (F : Nat) : funL PP (S_law03_works F) c_law03_works (I_law03_works F) 27 (fTs ti_law03_works []).1 = f_law03_works F := by
  have h : ∀ (ok_small_Narrow : Nat → Int → Bool) (o_small_Narrow_0 : Nat → Int → Int) (o_small_Narrow_1 : Nat → Int → Bool) (ok_small_Put : Nat → Int → Bool) (o_small_Put_0 : Nat → Int → Int) (o_small_Put_1 : Nat → Int → Int) (o_small_Put_2 : Nat → Int → Int) (o_small_Put_3 : Nat → Int → Int) (ok_small_Turn : Nat → Int → Int → Bool) (o_small_Turn_0 : Nat → Int → Int → Int) (ok_base_SameBytes : Nat → List VV → Nat → List VV → Nat → Bool) (o_base_SameBytes_0 : Nat → List VV → Nat → List VV → Nat → Bool), funL PP (words [(38, spec ti_small_Narrow to_small_Narrow (fun q => (ok_small_Narrow F (atI (nth q 0)))) (fun q => [.i (o_small_Narrow_0 F (atI (nth q 0))), .b (o_small_Narrow_1 F (atI (nth q 0)))])), (28, spec ti_small_Put to_small_Put (fun q => (ok_small_Put F (atI (nth q 0)))) (fun q => [.i (o_small_Put_0 F (atI (nth q 0))), .i (o_small_Put_1 F (atI (nth q 0))), .i (o_small_Put_2 F (atI (nth q 0))), .i (o_small_Put_3 F (atI (nth q 0)))])), (25, spec ti_small_Turn to_small_Turn (fun q => (ok_small_Turn F (atI (nth q 0)) (atI (nth q 1)))) (fun q => [.i (o_small_Turn_0 F (atI (nth q 0)) (atI (nth q 1)))])), (35, spec ti_base_SameBytes to_base_SameBytes (fun q => (ok_base_SameBytes F (atC (nth q 0)) (atN (nth q 1)) (atC (nth q 2)) (atN (nth q 3)))) (fun q => [.b (o_base_SameBytes_0 F (atC (nth q 0)) (atN (nth q 1)) (atC (nth q 2)) (atN (nth q 3)))]))]) c_law03_works (tabI c_law03_works []) 27 (fTs ti_law03_works []).1 = (
  bif (ok_small_Narrow F 4294967296) then (
    bif (ok_small_Put F ((-2))) then (
      let v2030 : Int := (o_small_Put_0 F ((-2)))
      let v2031 : Int := (o_small_Put_1 F ((-2)))
      let v2032 : Int := (o_small_Put_2 F ((-2)))
      let v2033 : Int := (o_small_Put_3 F ((-2)))
      bif ((((o_small_Narrow_0 F 4294967296)) == 65536)) then (
        bif ((!((o_small_Narrow_1 F 4294967296)))) then (
          bif (ok_small_Turn F 65536 50) then (
            bif ((((o_small_Turn_0 F 65536 50)) == 2147483648)) then (
              bif (ok_base_SameBytes F ([.v (.int .u8 v2030), .v (.int .u8 v2031), .v (.int .u8 v2032), .v (.int .u8 v2033)]) 4 ([.v (.int .u8 255), .v (.int .u8 255), .v (.int .u8 255), .v (.int .u8 254)]) 4) then (
                some (.v (.bool ((o_base_SameBytes_0 F ([.v (.int .u8 v2030), .v (.int .u8 v2031), .v (.int .u8 v2032), .v (.int .u8 v2033)]) 4 ([.v (.int .u8 255), .v (.int .u8 255), .v (.int .u8 255), .v (.int .u8 254)]) 4)))))
              else (
                none))
            else (
              some (.v (.bool false))))
          else (
            none))
        else (
          some (.v (.bool false))))
      else (
        some (.v (.bool false))))
    else (
      none))
  else (
    none) : R) := by
    intros
    kernel_rfl
  exact (h ok_small_Narrow o_small_Narrow_0 o_small_Narrow_1 ok_small_Put o_small_Put_0 o_small_Put_1 o_small_Put_2 o_small_Put_3 ok_small_Turn o_small_Turn_0 ok_base_SameBytes o_base_SameBytes_0).trans (by kernel_rfl)
def ok_law03_works (F : Nat) : Bool := okT to_law03_works (f_law03_works F)
def o_law03_works_0 (F : Nat) : Bool := atB (nth (outT to_law03_works (f_law03_works F)) 0)
theorem k_law03_works (F : Nat) {z0 : Bool} (h : f_law03_works F = some (.v (.bool z0))) : ok_law03_works F = true ∧ o_law03_works_0 F = z0 := by
  refine ⟨?_, ?_⟩
  · unfold ok_law03_works; rw [h]; kernel_rfl
  · unfold o_law03_works_0; rw [h]; kernel_rfl
def s_law03_works (F : Nat) : List VV → Option (Bool × VV) := spec ti_law03_works to_law03_works (fun q => (ok_law03_works F )) (fun q => [.b (o_law03_works_0 F )])
theorem hS_law03_works (F : Nat) : ∀ f, Good PP f (unS (S_law03_works F f)) := words_good fun p hp => by
  simp only [List.mem_cons, List.not_mem_nil, or_false] at hp
  rcases hp with rfl | rfl | rfl | rfl
  · exact g_small_Narrow F
  · exact g_small_Put F
  · exact g_small_Turn F
  · exact g_base_SameBytes F
theorem hl_law03_works (F : Nat) : ∀ p ∈ loopsIn PP 27, LoopOK PP (S_law03_works F) c_law03_works F (I_law03_works F) p :=
  loops_of [] (by kernel_rfl) all_nil
theorem g_law03_works (F : Nat) : Good PP 27 (unS (s_law03_works F)) :=
  fun_spec (hS_law03_works F) (by kernel_rfl) (by kernel_rfl) (C := c_law03_works) (F := fun q => (f_law03_works F )) (fun _ => F) (fun _ => I_law03_works F) (fun _ => hl_law03_works F)
    (fun q => (congrArg (funL PP (S_law03_works F) c_law03_works (I_law03_works F) 27) (show (fTs ti_law03_works q).1 = (fTs ti_law03_works []).1 by kernel_rfl)).trans (e_law03_works F ))
    (fun _ h => (okT_fill h).trans (congrArg some (by kernel_rfl)))

end Go.Xv
set_option linter.unusedVariables false
namespace Go.Xv
/- 29 _small_PutFix -/
def c_small_PutFix : Cfg := ⟨[0, 2, 3, 4], [], []⟩
def ti_small_PutFix : List TV := [.v (.int .i64)]
def to_small_PutFix : TV := .v (.agg [.int .u8, .int .u8, .int .u8, .int .u8, .int .u8, .int .u8, .int .u8, .int .u8])
def S_small_PutFix (F : Nat) : FuncId → List VV → Option (Bool × VV) := words [(28, s_small_Put F)]
def W_small_PutFix (F : Nat) : List LW := []
def I_small_PutFix (F : Nat) : Nat → VS → (Exit → VS → R) → R := tabI c_small_PutFix (W_small_PutFix F)
def f_small_PutFix (F : Nat) (a0 : Int) : R :=
  let v2060 : Int := (IntKind.wrap .i32 ((Int.fdiv a0 (4294967296))))
  bif (ok_small_Put F v2060) then (
    let v2065 : Int := (IntKind.wrap .i32 a0)
    bif (ok_small_Put F v2065) then (
      some (.v (.agg #[.int .u8 ((o_small_Put_0 F v2060)), .int .u8 ((o_small_Put_1 F v2060)), .int .u8 ((o_small_Put_2 F v2060)), .int .u8 ((o_small_Put_3 F v2060)), .int .u8 ((o_small_Put_0 F v2065)), .int .u8 ((o_small_Put_1 F v2065)), .int .u8 ((o_small_Put_2 F v2065)), .int .u8 ((o_small_Put_3 F v2065))])))
    else (
      none))
  else (
    none)
theorem e_small_PutFix (F : Nat) (a0 : Int) : funL PP (S_small_PutFix F) c_small_PutFix (I_small_PutFix F) 29 (fTs ti_small_PutFix [.i a0]).1 = f_small_PutFix F a0 := by
  have h : ∀ (ok_small_Put : Nat → Int → Bool) (o_small_Put_0 : Nat → Int → Int) (o_small_Put_1 : Nat → Int → Int) (o_small_Put_2 : Nat → Int → Int) (o_small_Put_3 : Nat → Int → Int), funL PP (words [(28, spec ti_small_Put to_small_Put (fun q => (ok_small_Put F (atI (nth q 0)))) (fun q => [.i (o_small_Put_0 F (atI (nth q 0))), .i (o_small_Put_1 F (atI (nth q 0))), .i (o_small_Put_2 F (atI (nth q 0))), .i (o_small_Put_3 F (atI (nth q 0)))]))]) c_small_PutFix (tabI c_small_PutFix []) 29 (fTs ti_small_PutFix [.i a0]).1 = (
  let v2060 : Int := (IntKind.wrap .i32 ((Int.fdiv a0 (4294967296))))
  bif (ok_small_Put F v2060) then (
    let v2065 : Int := (IntKind.wrap .i32 a0)
    bif (ok_small_Put F v2065) then (
      some (.v (.agg #[.int .u8 ((o_small_Put_0 F v2060)), .int .u8 ((o_small_Put_1 F v2060)), .int .u8 ((o_small_Put_2 F v2060)), .int .u8 ((o_small_Put_3 F v2060)), .int .u8 ((o_small_Put_0 F v2065)), .int .u8 ((o_small_Put_1 F v2065)), .int .u8 ((o_small_Put_2 F v2065)), .int .u8 ((o_small_Put_3 F v2065))])))
    else (
      none))
  else (
    none) : R) := by
    intros
    kernel_rfl
  exact (h ok_small_Put o_small_Put_0 o_small_Put_1 o_small_Put_2 o_small_Put_3).trans (by kernel_rfl)
def ok_small_PutFix (F : Nat) (a0 : Int) : Bool := okT to_small_PutFix (f_small_PutFix F a0)
def o_small_PutFix_0 (F : Nat) (a0 : Int) : Int := atI (nth (outT to_small_PutFix (f_small_PutFix F a0)) 0)
def o_small_PutFix_1 (F : Nat) (a0 : Int) : Int := atI (nth (outT to_small_PutFix (f_small_PutFix F a0)) 1)
def o_small_PutFix_2 (F : Nat) (a0 : Int) : Int := atI (nth (outT to_small_PutFix (f_small_PutFix F a0)) 2)
def o_small_PutFix_3 (F : Nat) (a0 : Int) : Int := atI (nth (outT to_small_PutFix (f_small_PutFix F a0)) 3)
def o_small_PutFix_4 (F : Nat) (a0 : Int) : Int := atI (nth (outT to_small_PutFix (f_small_PutFix F a0)) 4)
def o_small_PutFix_5 (F : Nat) (a0 : Int) : Int := atI (nth (outT to_small_PutFix (f_small_PutFix F a0)) 5)
def o_small_PutFix_6 (F : Nat) (a0 : Int) : Int := atI (nth (outT to_small_PutFix (f_small_PutFix F a0)) 6)
def o_small_PutFix_7 (F : Nat) (a0 : Int) : Int := atI (nth (outT to_small_PutFix (f_small_PutFix F a0)) 7)
theorem k_small_PutFix (F : Nat) (a0 : Int) {z0 : Int} {z1 : Int} {z2 : Int} {z3 : Int} {z4 : Int} {z5 : Int} {z6 : Int} {z7 : Int} (h : f_small_PutFix F a0 = some (.v (.agg #[.int .u8 z0, .int .u8 z1, .int .u8 z2, .int .u8 z3, .int .u8 z4, .int .u8 z5, .int .u8 z6, .int .u8 z7]))) : ok_small_PutFix F a0 = true ∧ o_small_PutFix_0 F a0 = z0 ∧ o_small_PutFix_1 F a0 = z1 ∧ o_small_PutFix_2 F a0 = z2 ∧ o_small_PutFix_3 F a0 = z3 ∧ o_small_PutFix_4 F a0 = z4 ∧ o_small_PutFix_5 F a0 = z5 ∧ o_small_PutFix_6 F a0 = z6 ∧ o_small_PutFix_7 F a0 = z7 := by
  refine ⟨?_, ?_, ?_, ?_, ?_, ?_, ?_, ?_, ?_⟩
  · unfold ok_small_PutFix; rw [h]; kernel_rfl
  · unfold o_small_PutFix_0; rw [h]; kernel_rfl
  · unfold o_small_PutFix_1; rw [h]; kernel_rfl
  · unfold o_small_PutFix_2; rw [h]; kernel_rfl
  · unfold o_small_PutFix_3; rw [h]; kernel_rfl
  · unfold o_small_PutFix_4; rw [h]; kernel_rfl
  · unfold o_small_PutFix_5; rw [h]; kernel_rfl
  · unfold o_small_PutFix_6; rw [h]; kernel_rfl
  · unfold o_small_PutFix_7; rw [h]; kernel_rfl
def s_small_PutFix (F : Nat) : List VV → Option (Bool × VV) := spec ti_small_PutFix to_small_PutFix (fun q => (ok_small_PutFix F (atI (nth q 0)))) (fun q => [.i (o_small_PutFix_0 F (atI (nth q 0))), .i (o_small_PutFix_1 F (atI (nth q 0))), .i (o_small_PutFix_2 F (atI (nth q 0))), .i (o_small_PutFix_3 F (atI (nth q 0))), .i (o_small_PutFix_4 F (atI (nth q 0))), .i (o_small_PutFix_5 F (atI (nth q 0))), .i (o_small_PutFix_6 F (atI (nth q 0))), .i (o_small_PutFix_7 F (atI (nth q 0)))])
theorem hS_small_PutFix (F : Nat) : ∀ f, Good PP f (unS (S_small_PutFix F f)) := words_good fun p hp => by
  simp only [List.mem_cons, List.not_mem_nil, or_false] at hp
  rcases hp with rfl
  · exact g_small_Put F
theorem hl_small_PutFix (F : Nat) : ∀ p ∈ loopsIn PP 29, LoopOK PP (S_small_PutFix F) c_small_PutFix F (I_small_PutFix F) p :=
  loops_of [] (by kernel_rfl) all_nil
theorem g_small_PutFix (F : Nat) : Good PP 29 (unS (s_small_PutFix F)) :=
  fun_spec (hS_small_PutFix F) (by kernel_rfl) (by kernel_rfl) (C := c_small_PutFix) (F := fun q => (f_small_PutFix F (atI (nth q 0)))) (fun _ => F) (fun _ => I_small_PutFix F) (fun _ => hl_small_PutFix F)
    (fun q => (congrArg (funL PP (S_small_PutFix F) c_small_PutFix (I_small_PutFix F) 29) (show (fTs ti_small_PutFix q).1 = (fTs ti_small_PutFix [.i (atI (nth q 0))]).1 by kernel_rfl)).trans (e_small_PutFix F (atI (nth q 0))))
    (fun _ h => (okT_fill h).trans (congrArg some (by kernel_rfl)))

end Go.Xv
set_option linter.unusedVariables false
namespace Go.Xv
/- 31 _base_Bytes -/
def c_base_Bytes : Cfg := ⟨[0, 2], [], []⟩
def ti_base_Bytes : List TV := [.fs .hole .hole 1]
def to_base_Bytes : TV := .fs (.lit 0) .hole 1
def S_base_Bytes (F : Nat) : FuncId → List VV → Option (Bool × VV) := words []
def W_base_Bytes (F : Nat) : List LW := []
def I_base_Bytes (F : Nat) : Nat → VS → (Exit → VS → R) → R := tabI c_base_Bytes (W_base_Bytes F)
def f_base_Bytes (F : Nat) (a0 : List VV) (a1 : Nat) (a2 : Nat) : R :=
  bif ((decide ((a2 * 1) ≤ (a0.drop a1).length)) && (decide ((0 + a2) * 2 ≤ bigger))) then (
    some (.fs (([] ++ ((a0.drop a1).take (a2 * 1)))) 0 ((0 + a2)) 1))
  else (
    none)
theorem e_base_Bytes (F : Nat) (a0 : List VV) (a1 : Nat) (a2 : Nat) : funL PP (S_base_Bytes F) c_base_Bytes (I_base_Bytes F) 31 (fTs ti_base_Bytes [.c a0, .n a1, .n a2]).1 = f_base_Bytes F a0 a1 a2 := by
  have h : ∀ (_ : Unit), funL PP (words []) c_base_Bytes (tabI c_base_Bytes []) 31 (fTs ti_base_Bytes [.c a0, .n a1, .n a2]).1 = (
  bif ((decide ((a2 * 1) ≤ (a0.drop a1).length)) && (decide ((0 + a2) * 2 ≤ bigger))) then (
    some (.fs (([] ++ ((a0.drop a1).take (a2 * 1)))) 0 ((0 + a2)) 1))
  else (
    none) : R) := by
    intros
    kernel_rfl
  exact (h ()).trans (by kernel_rfl)
def ok_base_Bytes (F : Nat) (a0 : List VV) (a1 : Nat) (a2 : Nat) : Bool := okT to_base_Bytes (f_base_Bytes F a0 a1 a2)
def o_base_Bytes_0 (F : Nat) (a0 : List VV) (a1 : Nat) (a2 : Nat) : List VV := atC (nth (outT to_base_Bytes (f_base_Bytes F a0 a1 a2)) 0)
def o_base_Bytes_1 (F : Nat) (a0 : List VV) (a1 : Nat) (a2 : Nat) : Nat := atN (nth (outT to_base_Bytes (f_base_Bytes F a0 a1 a2)) 1)
theorem k_base_Bytes (F : Nat) (a0 : List VV) (a1 : Nat) (a2 : Nat) {z0 : List VV} {z1 : Nat} (h : f_base_Bytes F a0 a1 a2 = some (.fs z0 0 z1 1)) : ok_base_Bytes F a0 a1 a2 = true ∧ o_base_Bytes_0 F a0 a1 a2 = z0 ∧ o_base_Bytes_1 F a0 a1 a2 = z1 := by
  refine ⟨?_, ?_, ?_⟩
  · unfold ok_base_Bytes; rw [h]; kernel_rfl
  · unfold o_base_Bytes_0; rw [h]; kernel_rfl
  · unfold o_base_Bytes_1; rw [h]; kernel_rfl
def s_base_Bytes (F : Nat) : List VV → Option (Bool × VV) := spec ti_base_Bytes to_base_Bytes (fun q => (ok_base_Bytes F (atC (nth q 0)) (atN (nth q 1)) (atN (nth q 2)))) (fun q => [.c (o_base_Bytes_0 F (atC (nth q 0)) (atN (nth q 1)) (atN (nth q 2))), .n (o_base_Bytes_1 F (atC (nth q 0)) (atN (nth q 1)) (atN (nth q 2)))])
theorem hS_base_Bytes (F : Nat) : ∀ f, Good PP f (unS (S_base_Bytes F f)) := words_good fun p hp => by
  cases hp
theorem hl_base_Bytes (F : Nat) : ∀ p ∈ loopsIn PP 31, LoopOK PP (S_base_Bytes F) c_base_Bytes F (I_base_Bytes F) p :=
  loops_of [] (by kernel_rfl) all_nil
theorem g_base_Bytes (F : Nat) : Good PP 31 (unS (s_base_Bytes F)) :=
  fun_spec (hS_base_Bytes F) (by kernel_rfl) (by kernel_rfl) (C := c_base_Bytes) (F := fun q => (f_base_Bytes F (atC (nth q 0)) (atN (nth q 1)) (atN (nth q 2)))) (fun _ => F) (fun _ => I_base_Bytes F) (fun _ => hl_base_Bytes F)
    (fun q => (congrArg (funL PP (S_base_Bytes F) c_base_Bytes (I_base_Bytes F) 31) (show (fTs ti_base_Bytes q).1 = (fTs ti_base_Bytes [.c (atC (nth q 0)), .n (atN (nth q 1)), .n (atN (nth q 2))]).1 by kernel_rfl)).trans (e_base_Bytes F (atC (nth q 0)) (atN (nth q 1)) (atN (nth q 2))))
    (fun _ h => (okT_fill h).trans (congrArg some (by kernel_rfl)))

end Go.Xv
set_option linter.unusedVariables false
namespace Go.Xv
/- 30 _small_Get -/
def c_small_Get : Cfg := ⟨[0, 2, 3, 4, 7], [], []⟩
def ti_small_Get : List TV := [.fs (.lit 0) .hole 1]
def to_small_Get : TV := .v (.tup [.int .i32, .int .i64])
def S_small_Get (F : Nat) : FuncId → List VV → Option (Bool × VV) := words []
def W_small_Get (F : Nat) : List LW := []
def I_small_Get (F : Nat) : Nat → VS → (Exit → VS → R) → R := tabI c_small_Get (W_small_Get F)
def f_small_Get (F : Nat) (a0 : List VV) (a1 : Nat) : R :=
  bif ((decide ((((a1 : Nat) : Int)) < 4))) then (
    some (.v (.tuple #[.int .i32 0, .int .i64 7])))
  else (
    bif (decide (4 ≤ a1)) then (
      bif ((isI .u8 a0[0]?) && ((isI .u8 a0[1]?) && ((isI .u8 a0[2]?) && ((isI .u8 a0[3]?) && true)))) then (
        some (.v (.tuple #[.int .i32 ((IntKind.wrap .i32 ((orI .u32 ((orI .u32 ((orI .u32 ((IntKind.wrap .u32 (((IntKind.wrap .u32 ((iv a0[0]?)))) * 16777216))) ((IntKind.wrap .u32 (((IntKind.wrap .u32 ((iv a0[1]?)))) * 65536))))) ((IntKind.wrap .u32 (((IntKind.wrap .u32 ((iv a0[2]?)))) * 256))))) ((IntKind.wrap .u32 ((iv a0[3]?)))))))), .int .i64 0])))
      else (
        none))
    else (
      none))
theorem e_small_Get (F : Nat) (a0 : List VV) (a1 : Nat) : funL PP (S_small_Get F) c_small_Get (I_small_Get F) 30 (fTs ti_small_Get [.c a0, .n a1]).1 = f_small_Get F a0 a1 := by
  have h : ∀ (_ : Unit), funL PP (words []) c_small_Get (tabI c_small_Get []) 30 (fTs ti_small_Get [.c a0, .n a1]).1 = (
  bif ((decide ((((a1 : Nat) : Int)) < 4))) then (
    some (.v (.tuple #[.int .i32 0, .int .i64 7])))
  else (
    bif (decide (4 ≤ a1)) then (
      bif ((isI .u8 a0[0]?) && ((isI .u8 a0[1]?) && ((isI .u8 a0[2]?) && ((isI .u8 a0[3]?) && true)))) then (
        some (.v (.tuple #[.int .i32 ((IntKind.wrap .i32 ((orI .u32 ((orI .u32 ((orI .u32 ((IntKind.wrap .u32 (((IntKind.wrap .u32 ((iv a0[0]?)))) * 16777216))) ((IntKind.wrap .u32 (((IntKind.wrap .u32 ((iv a0[1]?)))) * 65536))))) ((IntKind.wrap .u32 (((IntKind.wrap .u32 ((iv a0[2]?)))) * 256))))) ((IntKind.wrap .u32 ((iv a0[3]?)))))))), .int .i64 0])))
      else (
        none))
    else (
      none)) : R) := by
    intros
    kernel_rfl
  exact (h ()).trans (by kernel_rfl)
def ok_small_Get (F : Nat) (a0 : List VV) (a1 : Nat) : Bool := okT to_small_Get (f_small_Get F a0 a1)
def o_small_Get_0 (F : Nat) (a0 : List VV) (a1 : Nat) : Int := atI (nth (outT to_small_Get (f_small_Get F a0 a1)) 0)
def o_small_Get_1 (F : Nat) (a0 : List VV) (a1 : Nat) : Int := atI (nth (outT to_small_Get (f_small_Get F a0 a1)) 1)
theorem k_small_Get (F : Nat) (a0 : List VV) (a1 : Nat) {z0 : Int} {z1 : Int} (h : f_small_Get F a0 a1 = some (.v (.tuple #[.int .i32 z0, .int .i64 z1]))) : ok_small_Get F a0 a1 = true ∧ o_small_Get_0 F a0 a1 = z0 ∧ o_small_Get_1 F a0 a1 = z1 := by
  refine ⟨?_, ?_, ?_⟩
  · unfold ok_small_Get; rw [h]; kernel_rfl
  · unfold o_small_Get_0; rw [h]; kernel_rfl
  · unfold o_small_Get_1; rw [h]; kernel_rfl
def s_small_Get (F : Nat) : List VV → Option (Bool × VV) := spec ti_small_Get to_small_Get (fun q => (ok_small_Get F (atC (nth q 0)) (atN (nth q 1)))) (fun q => [.i (o_small_Get_0 F (atC (nth q 0)) (atN (nth q 1))), .i (o_small_Get_1 F (atC (nth q 0)) (atN (nth q 1)))])
theorem hS_small_Get (F : Nat) : ∀ f, Good PP f (unS (S_small_Get F f)) := words_good fun p hp => by
  cases hp
theorem hl_small_Get (F : Nat) : ∀ p ∈ loopsIn PP 30, LoopOK PP (S_small_Get F) c_small_Get F (I_small_Get F) p :=
  loops_of [] (by kernel_rfl) all_nil
theorem g_small_Get (F : Nat) : Good PP 30 (unS (s_small_Get F)) :=
  fun_spec (hS_small_Get F) (by kernel_rfl) (by kernel_rfl) (C := c_small_Get) (F := fun q => (f_small_Get F (atC (nth q 0)) (atN (nth q 1)))) (fun _ => F) (fun _ => I_small_Get F) (fun _ => hl_small_Get F)
    (fun q => (congrArg (funL PP (S_small_Get F) c_small_Get (I_small_Get F) 30) (show (fTs ti_small_Get q).1 = (fTs ti_small_Get [.c (atC (nth q 0)), .n (atN (nth q 1))]).1 by kernel_rfl)).trans (e_small_Get F (atC (nth q 0)) (atN (nth q 1))))
    (fun _ h => (okT_fill h).trans (congrArg some (by kernel_rfl)))

end Go.Xv
set_option linter.unusedVariables false
namespace Go.Xv
/- 99 _ref03_number -/
def c_ref03_number : Cfg := ⟨[0, 1, 4, 5, 6, 9], [(0, [0, 1, 4, 5, 6, 20])], []⟩
def ti_ref03_number : List TV := [.fs .hole .hole 1, .v (.int .i64)]
def to_ref03_number : TV := .v (.int .u64)
def S_ref03_number (F : Nat) : FuncId → List VV → Option (Bool × VV) := words []
def T_ref03_number_0 : TS := ⟨[(0, .fs .hole .hole 1), (1, .v (.int .i64)), (4, .v (.int .u64)), (5, .v (.int .u64)), (6, .v (.int .i64))], [], 0⟩
def T_ref03_number_0_0 : TS := ⟨[(0, .fs .hole .hole 1), (1, .v (.int .i64)), (4, .v (.int .u64)), (5, .v (.int .u64)), (6, .v (.int .i64))], [], 0⟩
def B_ref03_number_0 (F : Nat) (rc : List VV → Nat → Nat → Int → Int → Int → Int → R) (ex0 : List VV → Nat → Nat → Int → Int → Int → Int → R) (x0 : List VV) (x1 : Nat) (x2 : Nat) (x3 : Int) (x4 : Int) (x5 : Int) (x6 : Int) : R :=
  bif ((decide (x6 < x3))) then (
    bif ((decide (0 ≤ x6)) && (decide (x6 < ((x2 : Nat) : Int)))) then (
      let v2115 : Nat := (x1 + ((Int.toNat x6) * 1))
      bif ((isI .u8 x0[v2115]?) && true) then (
        rc x0 x1 x2 x3 x4 ((IntKind.wrap .u64 (((IntKind.wrap .u64 (256 * x5))) + ((IntKind.wrap .u64 ((iv x0[v2115]?))))))) ((IntKind.wrap .i64 (x6 + 1))))
      else (
        none))
    else (
      none))
  else (
    ex0 x0 x1 x2 x3 x4 x5 x6)
def L_ref03_number_0 (F : Nat) (ex0 : List VV → Nat → Nat → Int → Int → Int → Int → R) : Nat → List VV → Nat → Nat → Int → Int → Int → Int → R
  | 0, _, _, _, _, _, _, _ => none
  | n + 1, x0, x1, x2, x3, x4, x5, x6 => B_ref03_number_0 F (L_ref03_number_0 F ex0 n) ex0 x0 x1 x2 x3 x4 x5 x6
def W_ref03_number (F : Nat) : List LW := [⟨0, T_ref03_number_0, fun k q => L_ref03_number_0 F (fun (z0 : List VV) (z1 : Nat) (z2 : Nat) (z3 : Int) (z4 : Int) (z5 : Int) (z6 : Int) => k (.exit 0) (fS T_ref03_number_0_0 [.c z0, .n z1, .n z2, .i z3, .i z4, .i z5, .i z6])) F (atC (nth q 0)) (atN (nth q 1)) (atN (nth q 2)) (atI (nth q 3)) (atI (nth q 4)) (atI (nth q 5)) (atI (nth q 6))⟩]
def I_ref03_number (F : Nat) : Nat → VS → (Exit → VS → R) → R := tabI c_ref03_number (W_ref03_number F)
theorem lL_ref03_number_0 (F : Nat) (k : Exit → VS → R) : ∀ (n : Nat) (x0 : List VV) (x1 : Nat) (x2 : Nat) (x3 : Int) (x4 : Int) (x5 : Int) (x6 : Int), iterC (codeL PP (S_ref03_number F) c_ref03_number (I_ref03_number F) (loopAt PP 99 0) 0) (headOf c_ref03_number 0) k n (fS T_ref03_number_0 [.c x0, .n x1, .n x2, .i x3, .i x4, .i x5, .i x6]) = L_ref03_number_0 F (fun (z0 : List VV) (z1 : Nat) (z2 : Nat) (z3 : Int) (z4 : Int) (z5 : Int) (z6 : Int) => k (.exit 0) (fS T_ref03_number_0_0 [.c z0, .n z1, .n z2, .i z3, .i z4, .i z5, .i z6])) n x0 x1 x2 x3 x4 x5 x6
  | 0, _, _, _, _, _, _, _ => rfl
  | n + 1, x0, x1, x2, x3, x4, x5, x6 => by
    have h0 : ∀ (L_ref03_number_0 : Nat → (List VV → Nat → Nat → Int → Int → Int → Int → R) → Nat → List VV → Nat → Nat → Int → Int → Int → Int → R), iterC (codeL PP (words []) c_ref03_number (tabI c_ref03_number [⟨0, T_ref03_number_0, fun k q => L_ref03_number_0 F (fun (z0 : List VV) (z1 : Nat) (z2 : Nat) (z3 : Int) (z4 : Int) (z5 : Int) (z6 : Int) => k (.exit 0) (fS T_ref03_number_0_0 [.c z0, .n z1, .n z2, .i z3, .i z4, .i z5, .i z6])) F (atC (nth q 0)) (atN (nth q 1)) (atN (nth q 2)) (atI (nth q 3)) (atI (nth q 4)) (atI (nth q 5)) (atI (nth q 6))⟩]) (loopAt PP 99 0) 0) (headOf c_ref03_number 0) k (n + 1) (fS T_ref03_number_0 [.c x0, .n x1, .n x2, .i x3, .i x4, .i x5, .i x6]) = (fun (rc : List VV → Nat → Nat → Int → Int → Int → Int → R) (ex0 : List VV → Nat → Nat → Int → Int → Int → Int → R) (x0 : List VV) (x1 : Nat) (x2 : Nat) (x3 : Int) (x4 : Int) (x5 : Int) (x6 : Int) => (
  bif ((decide (x6 < x3))) then (
    bif ((decide (0 ≤ x6)) && (decide (x6 < ((x2 : Nat) : Int)))) then (
      let v2115 : Nat := (x1 + ((Int.toNat x6) * 1))
      bif ((isI .u8 x0[v2115]?) && true) then (
        rc x0 x1 x2 x3 x4 ((IntKind.wrap .u64 (((IntKind.wrap .u64 (256 * x5))) + ((IntKind.wrap .u64 ((iv x0[v2115]?))))))) ((IntKind.wrap .i64 (x6 + 1))))
      else (
        none))
    else (
      none))
  else (
    ex0 x0 x1 x2 x3 x4 x5 x6) : R)) (fun (y0 : List VV) (y1 : Nat) (y2 : Nat) (y3 : Int) (y4 : Int) (y5 : Int) (y6 : Int) => iterC (codeL PP (words []) c_ref03_number (tabI c_ref03_number [⟨0, T_ref03_number_0, fun k q => L_ref03_number_0 F (fun (z0 : List VV) (z1 : Nat) (z2 : Nat) (z3 : Int) (z4 : Int) (z5 : Int) (z6 : Int) => k (.exit 0) (fS T_ref03_number_0_0 [.c z0, .n z1, .n z2, .i z3, .i z4, .i z5, .i z6])) F (atC (nth q 0)) (atN (nth q 1)) (atN (nth q 2)) (atI (nth q 3)) (atI (nth q 4)) (atI (nth q 5)) (atI (nth q 6))⟩]) (loopAt PP 99 0) 0) (headOf c_ref03_number 0) k n (fS T_ref03_number_0 [.c y0, .n y1, .n y2, .i y3, .i y4, .i y5, .i y6])) (fun (z0 : List VV) (z1 : Nat) (z2 : Nat) (z3 : Int) (z4 : Int) (z5 : Int) (z6 : Int) => k (.exit 0) (fS T_ref03_number_0_0 [.c z0, .n z1, .n z2, .i z3, .i z4, .i z5, .i z6])) x0 x1 x2 x3 x4 x5 x6 := by
      intros
      kernel_rfl
    have h : iterC (codeL PP (S_ref03_number F) c_ref03_number (I_ref03_number F) (loopAt PP 99 0) 0) (headOf c_ref03_number 0) k (n + 1) (fS T_ref03_number_0 [.c x0, .n x1, .n x2, .i x3, .i x4, .i x5, .i x6]) = B_ref03_number_0 F (fun (y0 : List VV) (y1 : Nat) (y2 : Nat) (y3 : Int) (y4 : Int) (y5 : Int) (y6 : Int) => iterC (codeL PP (S_ref03_number F) c_ref03_number (I_ref03_number F) (loopAt PP 99 0) 0) (headOf c_ref03_number 0) k n (fS T_ref03_number_0 [.c y0, .n y1, .n y2, .i y3, .i y4, .i y5, .i y6])) (fun (z0 : List VV) (z1 : Nat) (z2 : Nat) (z3 : Int) (z4 : Int) (z5 : Int) (z6 : Int) => k (.exit 0) (fS T_ref03_number_0_0 [.c z0, .n z1, .n z2, .i z3, .i z4, .i z5, .i z6])) x0 x1 x2 x3 x4 x5 x6 := (h0 L_ref03_number_0).trans (by kernel_rfl)
    rw [h]
    simp only [lL_ref03_number_0 F k n]
    rfl
def f_ref03_number (F : Nat) (a0 : List VV) (a1 : Nat) (a2 : Nat) (a3 : Int) : R :=
  L_ref03_number_0 F (fun (v2120 : List VV) (v2121 : Nat) (v2122 : Nat) (v2123 : Int) (v2124 : Int) (v2125 : Int) (v2126 : Int) =>
    some (.v (.int .u64 v2125))) F a0 a1 a2 a3 0 0 0
theorem e_ref03_number (F : Nat) (a0 : List VV) (a1 : Nat) (a2 : Nat) (a3 : Int) : funL PP (S_ref03_number F) c_ref03_number (I_ref03_number F) 99 (fTs ti_ref03_number [.c a0, .n a1, .n a2, .i a3]).1 = f_ref03_number F a0 a1 a2 a3 := by
  have h : ∀ (L_ref03_number_0 : Nat → (List VV → Nat → Nat → Int → Int → Int → Int → R) → Nat → List VV → Nat → Nat → Int → Int → Int → Int → R), funL PP (words []) c_ref03_number (tabI c_ref03_number [⟨0, T_ref03_number_0, fun k q => L_ref03_number_0 F (fun (z0 : List VV) (z1 : Nat) (z2 : Nat) (z3 : Int) (z4 : Int) (z5 : Int) (z6 : Int) => k (.exit 0) (fS T_ref03_number_0_0 [.c z0, .n z1, .n z2, .i z3, .i z4, .i z5, .i z6])) F (atC (nth q 0)) (atN (nth q 1)) (atN (nth q 2)) (atI (nth q 3)) (atI (nth q 4)) (atI (nth q 5)) (atI (nth q 6))⟩]) 99 (fTs ti_ref03_number [.c a0, .n a1, .n a2, .i a3]).1 = (
  L_ref03_number_0 F (fun (v2120 : List VV) (v2121 : Nat) (v2122 : Nat) (v2123 : Int) (v2124 : Int) (v2125 : Int) (v2126 : Int) =>
    some (.v (.int .u64 v2125))) F a0 a1 a2 a3 0 0 0 : R) := by
    intros
    kernel_rfl
  exact (h L_ref03_number_0).trans (by kernel_rfl)
def ok_ref03_number (F : Nat) (a0 : List VV) (a1 : Nat) (a2 : Nat) (a3 : Int) : Bool := okT to_ref03_number (f_ref03_number F a0 a1 a2 a3)
def o_ref03_number_0 (F : Nat) (a0 : List VV) (a1 : Nat) (a2 : Nat) (a3 : Int) : Int := atI (nth (outT to_ref03_number (f_ref03_number F a0 a1 a2 a3)) 0)
theorem k_ref03_number (F : Nat) (a0 : List VV) (a1 : Nat) (a2 : Nat) (a3 : Int) {z0 : Int} (h : f_ref03_number F a0 a1 a2 a3 = some (.v (.int .u64 z0))) : ok_ref03_number F a0 a1 a2 a3 = true ∧ o_ref03_number_0 F a0 a1 a2 a3 = z0 := by
  refine ⟨?_, ?_⟩
  · unfold ok_ref03_number; rw [h]; kernel_rfl
  · unfold o_ref03_number_0; rw [h]; kernel_rfl
def s_ref03_number (F : Nat) : List VV → Option (Bool × VV) := spec ti_ref03_number to_ref03_number (fun q => (ok_ref03_number F (atC (nth q 0)) (atN (nth q 1)) (atN (nth q 2)) (atI (nth q 3)))) (fun q => [.i (o_ref03_number_0 F (atC (nth q 0)) (atN (nth q 1)) (atN (nth q 2)) (atI (nth q 3)))])
theorem hS_ref03_number (F : Nat) : ∀ f, Good PP f (unS (S_ref03_number F f)) := words_good fun p hp => by
  cases hp
theorem hl_ref03_number (F : Nat) : ∀ p ∈ loopsIn PP 99, LoopOK PP (S_ref03_number F) c_ref03_number F (I_ref03_number F) p :=
  loops_of [(0, loopAt PP 99 0)] (by kernel_rfl) (all_cons
    (loop_ok (W_ref03_number F) rfl (tab_cons (fun _ k q => Le.ofEq ((lL_ref03_number_0 F k F (atC (nth q 0)) (atN (nth q 1)) (atN (nth q 2)) (atI (nth q 3)) (atI (nth q 4)) (atI (nth q 5)) (atI (nth q 6))).symm.trans (congrArg (iterC (codeL PP (S_ref03_number F) c_ref03_number (I_ref03_number F) (loopAt PP 99 0) 0) (headOf c_ref03_number 0) k F) (show fS T_ref03_number_0 [.c (atC (nth q 0)), .n (atN (nth q 1)), .n (atN (nth q 2)), .i (atI (nth q 3)), .i (atI (nth q 4)), .i (atI (nth q 5)), .i (atI (nth q 6))] = fS T_ref03_number_0 q by kernel_rfl)))) tab_nil)) all_nil)
theorem g_ref03_number (F : Nat) : Good PP 99 (unS (s_ref03_number F)) :=
  fun_spec (hS_ref03_number F) (by kernel_rfl) (by kernel_rfl) (C := c_ref03_number) (F := fun q => (f_ref03_number F (atC (nth q 0)) (atN (nth q 1)) (atN (nth q 2)) (atI (nth q 3)))) (fun _ => F) (fun _ => I_ref03_number F) (fun _ => hl_ref03_number F)
    (fun q => (congrArg (funL PP (S_ref03_number F) c_ref03_number (I_ref03_number F) 99) (show (fTs ti_ref03_number q).1 = (fTs ti_ref03_number [.c (atC (nth q 0)), .n (atN (nth q 1)), .n (atN (nth q 2)), .i (atI (nth q 3))]).1 by kernel_rfl)).trans (e_ref03_number F (atC (nth q 0)) (atN (nth q 1)) (atN (nth q 2)) (atI (nth q 3))))
    (fun _ h => (okT_fill h).trans (congrArg some (by kernel_rfl)))

end Go.Xv
set_option linter.unusedVariables false
namespace Go.Xv
/- 32 _ref03_Get -/
def c_ref03_Get : Cfg := ⟨[0, 2, 3, 6], [], []⟩
def ti_ref03_Get : List TV := [.fs .hole .hole 1]
def to_ref03_Get : TV := .v (.tup [.int .i32, .int .i64])
def S_ref03_Get (F : Nat) : FuncId → List VV → Option (Bool × VV) := words [(99, s_ref03_number F)]
def W_ref03_Get (F : Nat) : List LW := []
def I_ref03_Get (F : Nat) : Nat → VS → (Exit → VS → R) → R := tabI c_ref03_Get (W_ref03_Get F)
def f_ref03_Get (F : Nat) (a0 : List VV) (a1 : Nat) (a2 : Nat) : R :=
  bif ((decide ((((a2 : Nat) : Int)) < 4))) then (
    some (.v (.tuple #[.int .i32 0, .int .i64 7])))
  else (
    bif (ok_ref03_number F a0 a1 a2 4) then (
      some (.v (.tuple #[.int .i32 ((IntKind.wrap .i32 ((IntKind.wrap .u32 ((o_ref03_number_0 F a0 a1 a2 4)))))), .int .i64 0])))
    else (
      none))
theorem e_ref03_Get (F : Nat) (a0 : List VV) (a1 : Nat) (a2 : Nat) : funL PP (S_ref03_Get F) c_ref03_Get (I_ref03_Get F) 32 (fTs ti_ref03_Get [.c a0, .n a1, .n a2]).1 = f_ref03_Get F a0 a1 a2 := by
  have h : ∀ (ok_ref03_number : Nat → List VV → Nat → Nat → Int → Bool) (o_ref03_number_0 : Nat → List VV → Nat → Nat → Int → Int), funL PP (words [(99, spec ti_ref03_number to_ref03_number (fun q => (ok_ref03_number F (atC (nth q 0)) (atN (nth q 1)) (atN (nth q 2)) (atI (nth q 3)))) (fun q => [.i (o_ref03_number_0 F (atC (nth q 0)) (atN (nth q 1)) (atN (nth q 2)) (atI (nth q 3)))]))]) c_ref03_Get (tabI c_ref03_Get []) 32 (fTs ti_ref03_Get [.c a0, .n a1, .n a2]).1 = (
  bif ((decide ((((a2 : Nat) : Int)) < 4))) then (
    some (.v (.tuple #[.int .i32 0, .int .i64 7])))
  else (
    bif (ok_ref03_number F a0 a1 a2 4) then (
      some (.v (.tuple #[.int .i32 ((IntKind.wrap .i32 ((IntKind.wrap .u32 ((o_ref03_number_0 F a0 a1 a2 4)))))), .int .i64 0])))
    else (
      none)) : R) := by
    intros
    kernel_rfl
  exact (h ok_ref03_number o_ref03_number_0).trans (by kernel_rfl)
def ok_ref03_Get (F : Nat) (a0 : List VV) (a1 : Nat) (a2 : Nat) : Bool := okT to_ref03_Get (f_ref03_Get F a0 a1 a2)
def o_ref03_Get_0 (F : Nat) (a0 : List VV) (a1 : Nat) (a2 : Nat) : Int := atI (nth (outT to_ref03_Get (f_ref03_Get F a0 a1 a2)) 0)
def o_ref03_Get_1 (F : Nat) (a0 : List VV) (a1 : Nat) (a2 : Nat) : Int := atI (nth (outT to_ref03_Get (f_ref03_Get F a0 a1 a2)) 1)
theorem k_ref03_Get (F : Nat) (a0 : List VV) (a1 : Nat) (a2 : Nat) {z0 : Int} {z1 : Int} (h : f_ref03_Get F a0 a1 a2 = some (.v (.tuple #[.int .i32 z0, .int .i64 z1]))) : ok_ref03_Get F a0 a1 a2 = true ∧ o_ref03_Get_0 F a0 a1 a2 = z0 ∧ o_ref03_Get_1 F a0 a1 a2 = z1 := by
  refine ⟨?_, ?_, ?_⟩
  · unfold ok_ref03_Get; rw [h]; kernel_rfl
  · unfold o_ref03_Get_0; rw [h]; kernel_rfl
  · unfold o_ref03_Get_1; rw [h]; kernel_rfl
def s_ref03_Get (F : Nat) : List VV → Option (Bool × VV) := spec ti_ref03_Get to_ref03_Get (fun q => (ok_ref03_Get F (atC (nth q 0)) (atN (nth q 1)) (atN (nth q 2)))) (fun q => [.i (o_ref03_Get_0 F (atC (nth q 0)) (atN (nth q 1)) (atN (nth q 2))), .i (o_ref03_Get_1 F (atC (nth q 0)) (atN (nth q 1)) (atN (nth q 2)))])
theorem hS_ref03_Get (F : Nat) : ∀ f, Good PP f (unS (S_ref03_Get F f)) := words_good fun p hp => by
  simp only [List.mem_cons, List.not_mem_nil, or_false] at hp
  rcases hp with rfl
  · exact g_ref03_number F
theorem hl_ref03_Get (F : Nat) : ∀ p ∈ loopsIn PP 32, LoopOK PP (S_ref03_Get F) c_ref03_Get F (I_ref03_Get F) p :=
  loops_of [] (by kernel_rfl) all_nil
theorem g_ref03_Get (F : Nat) : Good PP 32 (unS (s_ref03_Get F)) :=
  fun_spec (hS_ref03_Get F) (by kernel_rfl) (by kernel_rfl) (C := c_ref03_Get) (F := fun q => (f_ref03_Get F (atC (nth q 0)) (atN (nth q 1)) (atN (nth q 2)))) (fun _ => F) (fun _ => I_ref03_Get F) (fun _ => hl_ref03_Get F)
    (fun q => (congrArg (funL PP (S_ref03_Get F) c_ref03_Get (I_ref03_Get F) 32) (show (fTs ti_ref03_Get q).1 = (fTs ti_ref03_Get [.c (atC (nth q 0)), .n (atN (nth q 1)), .n (atN (nth q 2))]).1 by kernel_rfl)).trans (e_ref03_Get F (atC (nth q 0)) (atN (nth q 1)) (atN (nth q 2))))
    (fun _ h => (okT_fill h).trans (congrArg some (by kernel_rfl)))

end Go.Xv
set_option linter.unusedVariables false
namespace Go.Xv
/- 30 _small_Getv1 -/
def c_small_Getv1 : Cfg := ⟨[0, 2, 3, 4, 7], [], []⟩
def ti_small_Getv1 : List TV := [.fs .hole .hole 1]
def to_small_Getv1 : TV := .v (.tup [.int .i32, .int .i64])
def S_small_Getv1 (F : Nat) : FuncId → List VV → Option (Bool × VV) := words []
def W_small_Getv1 (F : Nat) : List LW := []
def I_small_Getv1 (F : Nat) : Nat → VS → (Exit → VS → R) → R := tabI c_small_Getv1 (W_small_Getv1 F)
def f_small_Getv1 (F : Nat) (a0 : List VV) (a1 : Nat) (a2 : Nat) : R :=
  bif ((decide ((((a2 : Nat) : Int)) < 4))) then (
    some (.v (.tuple #[.int .i32 0, .int .i64 7])))
  else (
    bif (decide (4 ≤ a2)) then (
      bif ((isI .u8 a0[a1]?) && ((isI .u8 a0[(a1 + 1)]?) && ((isI .u8 a0[((a1 + 1) + 1)]?) && ((isI .u8 a0[(((a1 + 1) + 1) + 1)]?) && true)))) then (
        some (.v (.tuple #[.int .i32 ((IntKind.wrap .i32 ((orI .u32 ((orI .u32 ((orI .u32 ((IntKind.wrap .u32 (((IntKind.wrap .u32 ((iv a0[a1]?)))) * 16777216))) ((IntKind.wrap .u32 (((IntKind.wrap .u32 ((iv a0[(a1 + 1)]?)))) * 65536))))) ((IntKind.wrap .u32 (((IntKind.wrap .u32 ((iv a0[((a1 + 1) + 1)]?)))) * 256))))) ((IntKind.wrap .u32 ((iv a0[(((a1 + 1) + 1) + 1)]?)))))))), .int .i64 0])))
      else (
        none))
    else (
      none))
theorem e_small_Getv1 (F : Nat) (a0 : List VV) (a1 : Nat) (a2 : Nat) : funL PP (S_small_Getv1 F) c_small_Getv1 (I_small_Getv1 F) 30 (fTs ti_small_Getv1 [.c a0, .n a1, .n a2]).1 = f_small_Getv1 F a0 a1 a2 := by
  have h : ∀ (_ : Unit), funL PP (words []) c_small_Getv1 (tabI c_small_Getv1 []) 30 (fTs ti_small_Getv1 [.c a0, .n a1, .n a2]).1 = (
  bif ((decide ((((a2 : Nat) : Int)) < 4))) then (
    some (.v (.tuple #[.int .i32 0, .int .i64 7])))
  else (
    bif (decide (4 ≤ a2)) then (
      bif ((isI .u8 a0[a1]?) && ((isI .u8 a0[(a1 + 1)]?) && ((isI .u8 a0[((a1 + 1) + 1)]?) && ((isI .u8 a0[(((a1 + 1) + 1) + 1)]?) && true)))) then (
        some (.v (.tuple #[.int .i32 ((IntKind.wrap .i32 ((orI .u32 ((orI .u32 ((orI .u32 ((IntKind.wrap .u32 (((IntKind.wrap .u32 ((iv a0[a1]?)))) * 16777216))) ((IntKind.wrap .u32 (((IntKind.wrap .u32 ((iv a0[(a1 + 1)]?)))) * 65536))))) ((IntKind.wrap .u32 (((IntKind.wrap .u32 ((iv a0[((a1 + 1) + 1)]?)))) * 256))))) ((IntKind.wrap .u32 ((iv a0[(((a1 + 1) + 1) + 1)]?)))))))), .int .i64 0])))
      else (
        none))
    else (
      none)) : R) := by
    intros
    kernel_rfl
  exact (h ()).trans (by kernel_rfl)
def ok_small_Getv1 (F : Nat) (a0 : List VV) (a1 : Nat) (a2 : Nat) : Bool := okT to_small_Getv1 (f_small_Getv1 F a0 a1 a2)
def o_small_Getv1_0 (F : Nat) (a0 : List VV) (a1 : Nat) (a2 : Nat) : Int := atI (nth (outT to_small_Getv1 (f_small_Getv1 F a0 a1 a2)) 0)
def o_small_Getv1_1 (F : Nat) (a0 : List VV) (a1 : Nat) (a2 : Nat) : Int := atI (nth (outT to_small_Getv1 (f_small_Getv1 F a0 a1 a2)) 1)
theorem k_small_Getv1 (F : Nat) (a0 : List VV) (a1 : Nat) (a2 : Nat) {z0 : Int} {z1 : Int} (h : f_small_Getv1 F a0 a1 a2 = some (.v (.tuple #[.int .i32 z0, .int .i64 z1]))) : ok_small_Getv1 F a0 a1 a2 = true ∧ o_small_Getv1_0 F a0 a1 a2 = z0 ∧ o_small_Getv1_1 F a0 a1 a2 = z1 := by
  refine ⟨?_, ?_, ?_⟩
  · unfold ok_small_Getv1; rw [h]; kernel_rfl
  · unfold o_small_Getv1_0; rw [h]; kernel_rfl
  · unfold o_small_Getv1_1; rw [h]; kernel_rfl
def s_small_Getv1 (F : Nat) : List VV → Option (Bool × VV) := spec ti_small_Getv1 to_small_Getv1 (fun q => (ok_small_Getv1 F (atC (nth q 0)) (atN (nth q 1)) (atN (nth q 2)))) (fun q => [.i (o_small_Getv1_0 F (atC (nth q 0)) (atN (nth q 1)) (atN (nth q 2))), .i (o_small_Getv1_1 F (atC (nth q 0)) (atN (nth q 1)) (atN (nth q 2)))])
theorem hS_small_Getv1 (F : Nat) : ∀ f, Good PP f (unS (S_small_Getv1 F f)) := words_good fun p hp => by
  cases hp
theorem hl_small_Getv1 (F : Nat) : ∀ p ∈ loopsIn PP 30, LoopOK PP (S_small_Getv1 F) c_small_Getv1 F (I_small_Getv1 F) p :=
  loops_of [] (by kernel_rfl) all_nil
theorem g_small_Getv1 (F : Nat) : Good PP 30 (unS (s_small_Getv1 F)) :=
  fun_spec (hS_small_Getv1 F) (by kernel_rfl) (by kernel_rfl) (C := c_small_Getv1) (F := fun q => (f_small_Getv1 F (atC (nth q 0)) (atN (nth q 1)) (atN (nth q 2)))) (fun _ => F) (fun _ => I_small_Getv1 F) (fun _ => hl_small_Getv1 F)
    (fun q => (congrArg (funL PP (S_small_Getv1 F) c_small_Getv1 (I_small_Getv1 F) 30) (show (fTs ti_small_Getv1 q).1 = (fTs ti_small_Getv1 [.c (atC (nth q 0)), .n (atN (nth q 1)), .n (atN (nth q 2))]).1 by kernel_rfl)).trans (e_small_Getv1 F (atC (nth q 0)) (atN (nth q 1)) (atN (nth q 2))))
    (fun _ h => (okT_fill h).trans (congrArg some (by kernel_rfl)))

end Go.Xv
set_option linter.unusedVariables false
namespace Go.Xv
/- 33 _small_GetFix -/
def c_small_GetFix : Cfg := ⟨[0, 2, 3, 4, 6, 10], [], []⟩
def ti_small_GetFix : List TV := [.fs (.lit 0) .hole 1]
def to_small_GetFix : TV := .v (.tup [.int .i64, .int .i64])
def S_small_GetFix (F : Nat) : FuncId → List VV → Option (Bool × VV) := words [(30, s_small_Get F), (30, s_small_Getv1 F)]
def W_small_GetFix (F : Nat) : List LW := []
def I_small_GetFix (F : Nat) : Nat → VS → (Exit → VS → R) → R := tabI c_small_GetFix (W_small_GetFix F)
def f_small_GetFix (F : Nat) (a0 : List VV) (a1 : Nat) : R :=
  bif ((decide ((((a1 : Nat) : Int)) < 8))) then (
    some (.v (.tuple #[.int .i64 0, .int .i64 7])))
  else (
    bif (ok_small_Get F a0 a1) then (
      bif ((decide (4 ≤ a1)) && (decide (a1 ≤ a1))) then (
        let v2138 : Nat := (a1 - 4)
        bif (ok_small_Getv1 F a0 4 v2138) then (
          some (.v (.tuple #[.int .i64 ((orI .i64 ((IntKind.wrap .i64 (((IntKind.wrap .i64 ((o_small_Get_0 F a0 a1)))) * 4294967296))) ((IntKind.wrap .i64 ((IntKind.wrap .u32 ((o_small_Getv1_0 F a0 4 v2138)))))))), .int .i64 0])))
        else (
          none))
      else (
        none))
    else (
      none))
theorem e_small_GetFix (F : Nat) (a0 : List VV) (a1 : Nat) : funL PP (S_small_GetFix F) c_small_GetFix (I_small_GetFix F) 33 (fTs ti_small_GetFix [.c a0, .n a1]).1 = f_small_GetFix F a0 a1 := by
  have h : ∀ (ok_small_Get : Nat → List VV → Nat → Bool) (o_small_Get_0 : Nat → List VV → Nat → Int) (o_small_Get_1 : Nat → List VV → Nat → Int) (ok_small_Getv1 : Nat → List VV → Nat → Nat → Bool) (o_small_Getv1_0 : Nat → List VV → Nat → Nat → Int) (o_small_Getv1_1 : Nat → List VV → Nat → Nat → Int), funL PP (words [(30, spec ti_small_Get to_small_Get (fun q => (ok_small_Get F (atC (nth q 0)) (atN (nth q 1)))) (fun q => [.i (o_small_Get_0 F (atC (nth q 0)) (atN (nth q 1))), .i (o_small_Get_1 F (atC (nth q 0)) (atN (nth q 1)))])), (30, spec ti_small_Getv1 to_small_Getv1 (fun q => (ok_small_Getv1 F (atC (nth q 0)) (atN (nth q 1)) (atN (nth q 2)))) (fun q => [.i (o_small_Getv1_0 F (atC (nth q 0)) (atN (nth q 1)) (atN (nth q 2))), .i (o_small_Getv1_1 F (atC (nth q 0)) (atN (nth q 1)) (atN (nth q 2)))]))]) c_small_GetFix (tabI c_small_GetFix []) 33 (fTs ti_small_GetFix [.c a0, .n a1]).1 = (
  bif ((decide ((((a1 : Nat) : Int)) < 8))) then (
    some (.v (.tuple #[.int .i64 0, .int .i64 7])))
  else (
    bif (ok_small_Get F a0 a1) then (
      bif ((decide (4 ≤ a1)) && (decide (a1 ≤ a1))) then (
        let v2138 : Nat := (a1 - 4)
        bif (ok_small_Getv1 F a0 4 v2138) then (
          some (.v (.tuple #[.int .i64 ((orI .i64 ((IntKind.wrap .i64 (((IntKind.wrap .i64 ((o_small_Get_0 F a0 a1)))) * 4294967296))) ((IntKind.wrap .i64 ((IntKind.wrap .u32 ((o_small_Getv1_0 F a0 4 v2138)))))))), .int .i64 0])))
        else (
          none))
      else (
        none))
    else (
      none)) : R) := by
    intros
    kernel_rfl
  exact (h ok_small_Get o_small_Get_0 o_small_Get_1 ok_small_Getv1 o_small_Getv1_0 o_small_Getv1_1).trans (by kernel_rfl)
def ok_small_GetFix (F : Nat) (a0 : List VV) (a1 : Nat) : Bool := okT to_small_GetFix (f_small_GetFix F a0 a1)
def o_small_GetFix_0 (F : Nat) (a0 : List VV) (a1 : Nat) : Int := atI (nth (outT to_small_GetFix (f_small_GetFix F a0 a1)) 0)
def o_small_GetFix_1 (F : Nat) (a0 : List VV) (a1 : Nat) : Int := atI (nth (outT to_small_GetFix (f_small_GetFix F a0 a1)) 1)
theorem k_small_GetFix (F : Nat) (a0 : List VV) (a1 : Nat) {z0 : Int} {z1 : Int} (h : f_small_GetFix F a0 a1 = some (.v (.tuple #[.int .i64 z0, .int .i64 z1]))) : ok_small_GetFix F a0 a1 = true ∧ o_small_GetFix_0 F a0 a1 = z0 ∧ o_small_GetFix_1 F a0 a1 = z1 := by
  refine ⟨?_, ?_, ?_⟩
  · unfold ok_small_GetFix; rw [h]; kernel_rfl
  · unfold o_small_GetFix_0; rw [h]; kernel_rfl
  · unfold o_small_GetFix_1; rw [h]; kernel_rfl
def s_small_GetFix (F : Nat) : List VV → Option (Bool × VV) := spec ti_small_GetFix to_small_GetFix (fun q => (ok_small_GetFix F (atC (nth q 0)) (atN (nth q 1)))) (fun q => [.i (o_small_GetFix_0 F (atC (nth q 0)) (atN (nth q 1))), .i (o_small_GetFix_1 F (atC (nth q 0)) (atN (nth q 1)))])
theorem hS_small_GetFix (F : Nat) : ∀ f, Good PP f (unS (S_small_GetFix F f)) := words_good fun p hp => by
  simp only [List.mem_cons, List.not_mem_nil, or_false] at hp
  rcases hp with rfl | rfl
  · exact g_small_Get F
  · exact g_small_Getv1 F
theorem hl_small_GetFix (F : Nat) : ∀ p ∈ loopsIn PP 33, LoopOK PP (S_small_GetFix F) c_small_GetFix F (I_small_GetFix F) p :=
  loops_of [] (by kernel_rfl) all_nil
theorem g_small_GetFix (F : Nat) : Good PP 33 (unS (s_small_GetFix F)) :=
  fun_spec (hS_small_GetFix F) (by kernel_rfl) (by kernel_rfl) (C := c_small_GetFix) (F := fun q => (f_small_GetFix F (atC (nth q 0)) (atN (nth q 1)))) (fun _ => F) (fun _ => I_small_GetFix F) (fun _ => hl_small_GetFix F)
    (fun q => (congrArg (funL PP (S_small_GetFix F) c_small_GetFix (I_small_GetFix F) 33) (show (fTs ti_small_GetFix q).1 = (fTs ti_small_GetFix [.c (atC (nth q 0)), .n (atN (nth q 1))]).1 by kernel_rfl)).trans (e_small_GetFix F (atC (nth q 0)) (atN (nth q 1))))
    (fun _ h => (okT_fill h).trans (congrArg some (by kernel_rfl)))

end Go.Xv
set_option linter.unusedVariables false
namespace Go.Xv
/- 34 _ref03_GetFix -/
def c_ref03_GetFix : Cfg := ⟨[0, 2, 3, 6], [], []⟩
def ti_ref03_GetFix : List TV := [.fs .hole .hole 1]
def to_ref03_GetFix : TV := .v (.tup [.int .i64, .int .i64])
def S_ref03_GetFix (F : Nat) : FuncId → List VV → Option (Bool × VV) := words [(99, s_ref03_number F)]
def W_ref03_GetFix (F : Nat) : List LW := []
def I_ref03_GetFix (F : Nat) : Nat → VS → (Exit → VS → R) → R := tabI c_ref03_GetFix (W_ref03_GetFix F)
def f_ref03_GetFix (F : Nat) (a0 : List VV) (a1 : Nat) (a2 : Nat) : R :=
  bif ((decide ((((a2 : Nat) : Int)) < 8))) then (
    some (.v (.tuple #[.int .i64 0, .int .i64 7])))
  else (
    bif (ok_ref03_number F a0 a1 a2 8) then (
      some (.v (.tuple #[.int .i64 ((IntKind.wrap .i64 ((o_ref03_number_0 F a0 a1 a2 8)))), .int .i64 0])))
    else (
      none))
theorem e_ref03_GetFix (F : Nat) (a0 : List VV) (a1 : Nat) (a2 : Nat) : funL PP (S_ref03_GetFix F) c_ref03_GetFix (I_ref03_GetFix F) 34 (fTs ti_ref03_GetFix [.c a0, .n a1, .n a2]).1 = f_ref03_GetFix F a0 a1 a2 := by
  have h : ∀ (ok_ref03_number : Nat → List VV → Nat → Nat → Int → Bool) (o_ref03_number_0 : Nat → List VV → Nat → Nat → Int → Int), funL PP (words [(99, spec ti_ref03_number to_ref03_number (fun q => (ok_ref03_number F (atC (nth q 0)) (atN (nth q 1)) (atN (nth q 2)) (atI (nth q 3)))) (fun q => [.i (o_ref03_number_0 F (atC (nth q 0)) (atN (nth q 1)) (atN (nth q 2)) (atI (nth q 3)))]))]) c_ref03_GetFix (tabI c_ref03_GetFix []) 34 (fTs ti_ref03_GetFix [.c a0, .n a1, .n a2]).1 = (
  bif ((decide ((((a2 : Nat) : Int)) < 8))) then (
    some (.v (.tuple #[.int .i64 0, .int .i64 7])))
  else (
    bif (ok_ref03_number F a0 a1 a2 8) then (
      some (.v (.tuple #[.int .i64 ((IntKind.wrap .i64 ((o_ref03_number_0 F a0 a1 a2 8)))), .int .i64 0])))
    else (
      none)) : R) := by
    intros
    kernel_rfl
  exact (h ok_ref03_number o_ref03_number_0).trans (by kernel_rfl)
def ok_ref03_GetFix (F : Nat) (a0 : List VV) (a1 : Nat) (a2 : Nat) : Bool := okT to_ref03_GetFix (f_ref03_GetFix F a0 a1 a2)
def o_ref03_GetFix_0 (F : Nat) (a0 : List VV) (a1 : Nat) (a2 : Nat) : Int := atI (nth (outT to_ref03_GetFix (f_ref03_GetFix F a0 a1 a2)) 0)
def o_ref03_GetFix_1 (F : Nat) (a0 : List VV) (a1 : Nat) (a2 : Nat) : Int := atI (nth (outT to_ref03_GetFix (f_ref03_GetFix F a0 a1 a2)) 1)
theorem k_ref03_GetFix (F : Nat) (a0 : List VV) (a1 : Nat) (a2 : Nat) {z0 : Int} {z1 : Int} (h : f_ref03_GetFix F a0 a1 a2 = some (.v (.tuple #[.int .i64 z0, .int .i64 z1]))) : ok_ref03_GetFix F a0 a1 a2 = true ∧ o_ref03_GetFix_0 F a0 a1 a2 = z0 ∧ o_ref03_GetFix_1 F a0 a1 a2 = z1 := by
  refine ⟨?_, ?_, ?_⟩
  · unfold ok_ref03_GetFix; rw [h]; kernel_rfl
  · unfold o_ref03_GetFix_0; rw [h]; kernel_rfl
  · unfold o_ref03_GetFix_1; rw [h]; kernel_rfl
def s_ref03_GetFix (F : Nat) : List VV → Option (Bool × VV) := spec ti_ref03_GetFix to_ref03_GetFix (fun q => (ok_ref03_GetFix F (atC (nth q 0)) (atN (nth q 1)) (atN (nth q 2)))) (fun q => [.i (o_ref03_GetFix_0 F (atC (nth q 0)) (atN (nth q 1)) (atN (nth q 2))), .i (o_ref03_GetFix_1 F (atC (nth q 0)) (atN (nth q 1)) (atN (nth q 2)))])
theorem hS_ref03_GetFix (F : Nat) : ∀ f, Good PP f (unS (S_ref03_GetFix F f)) := words_good fun p hp => by
  simp only [List.mem_cons, List.not_mem_nil, or_false] at hp
  rcases hp with rfl
  · exact g_ref03_number F
theorem hl_ref03_GetFix (F : Nat) : ∀ p ∈ loopsIn PP 34, LoopOK PP (S_ref03_GetFix F) c_ref03_GetFix F (I_ref03_GetFix F) p :=
  loops_of [] (by kernel_rfl) all_nil
theorem g_ref03_GetFix (F : Nat) : Good PP 34 (unS (s_ref03_GetFix F)) :=
  fun_spec (hS_ref03_GetFix F) (by kernel_rfl) (by kernel_rfl) (C := c_ref03_GetFix) (F := fun q => (f_ref03_GetFix F (atC (nth q 0)) (atN (nth q 1)) (atN (nth q 2)))) (fun _ => F) (fun _ => I_ref03_GetFix F) (fun _ => hl_ref03_GetFix F)
    (fun q => (congrArg (funL PP (S_ref03_GetFix F) c_ref03_GetFix (I_ref03_GetFix F) 34) (show (fTs ti_ref03_GetFix q).1 = (fTs ti_ref03_GetFix [.c (atC (nth q 0)), .n (atN (nth q 1)), .n (atN (nth q 2))]).1 by kernel_rfl)).trans (e_ref03_GetFix F (atC (nth q 0)) (atN (nth q 1)) (atN (nth q 2))))
    (fun _ h => (okT_fill h).trans (congrArg some (by kernel_rfl)))

end Go.Xv
set_option linter.unusedVariables false
namespace Go.Xv
/- 100 _ref03_bytes -/
def c_ref03_bytes : Cfg := ⟨[0, 1, 4, 5, 6, 10], [(0, [0, 1, 4, 5, 6, 7, 21])], []⟩
def ti_ref03_bytes : List TV := [.v (.int .u64), .v (.int .i64)]
def to_ref03_bytes : TV := .fs (.lit 0) .hole 1
def S_ref03_bytes (F : Nat) : FuncId → List VV → Option (Bool × VV) := words []
def T_ref03_bytes_0 : TS := ⟨[(0, .v (.int .u64)), (1, .v (.int .i64)), (4, .v (.nils)), (5, .ls 0 (.lit 0) .hole 1), (6, .v (.int .i64))], [(0, ⟨.hole, true⟩)], 1⟩
def T_ref03_bytes_0_0 : TS := ⟨[(0, .v (.int .u64)), (1, .v (.int .i64)), (4, .v (.nils)), (5, .ls 0 (.lit 0) .hole 1), (6, .v (.int .i64))], [(0, ⟨.hole, true⟩)], 1⟩
def B_ref03_bytes_0 (F : Nat) (rc : Int → Int → Nat → Int → List VV → R) (ex0 : Int → Int → Nat → Int → List VV → R) (x0 : Int) (x1 : Int) (x2 : Nat) (x3 : Int) (x4 : List VV) : R :=
  bif ((decide (x3 < x1))) then (
    bif ((decide ((x2 * 1) ≤ (x4.drop 0).length)) && (decide ((1 + x2) * 2 ≤ bigger))) then (
      rc ((IntKind.wrap .u64 (Int.tdiv x0 256))) x1 ((1 + x2)) ((IntKind.wrap .i64 (x3 + 1))) (([.v (.int .u8 ((IntKind.wrap .u8 ((Int.tmod x0 256)))))] ++ ((x4.drop 0).take (x2 * 1)))))
    else (
      none))
  else (
    ex0 x0 x1 x2 x3 x4)
def L_ref03_bytes_0 (F : Nat) (ex0 : Int → Int → Nat → Int → List VV → R) : Nat → Int → Int → Nat → Int → List VV → R
  | 0, _, _, _, _, _ => none
  | n + 1, x0, x1, x2, x3, x4 => B_ref03_bytes_0 F (L_ref03_bytes_0 F ex0 n) ex0 x0 x1 x2 x3 x4
def W_ref03_bytes (F : Nat) : List LW := [⟨0, T_ref03_bytes_0, fun k q => L_ref03_bytes_0 F (fun (z0 : Int) (z1 : Int) (z2 : Nat) (z3 : Int) (z4 : List VV) => k (.exit 0) (fS T_ref03_bytes_0_0 [.i z0, .i z1, .n z2, .i z3, .c z4])) F (atI (nth q 0)) (atI (nth q 1)) (atN (nth q 2)) (atI (nth q 3)) (atC (nth q 4))⟩]
def I_ref03_bytes (F : Nat) : Nat → VS → (Exit → VS → R) → R := tabI c_ref03_bytes (W_ref03_bytes F)
theorem lL_ref03_bytes_0 (F : Nat) (k : Exit → VS → R) : ∀ (n : Nat) (x0 : Int) (x1 : Int) (x2 : Nat) (x3 : Int) (x4 : List VV), iterC (codeL PP (S_ref03_bytes F) c_ref03_bytes (I_ref03_bytes F) (loopAt PP 100 0) 0) (headOf c_ref03_bytes 0) k n (fS T_ref03_bytes_0 [.i x0, .i x1, .n x2, .i x3, .c x4]) = L_ref03_bytes_0 F (fun (z0 : Int) (z1 : Int) (z2 : Nat) (z3 : Int) (z4 : List VV) => k (.exit 0) (fS T_ref03_bytes_0_0 [.i z0, .i z1, .n z2, .i z3, .c z4])) n x0 x1 x2 x3 x4
  | 0, _, _, _, _, _ => rfl
  | n + 1, x0, x1, x2, x3, x4 => by
    have h0 : ∀ (L_ref03_bytes_0 : Nat → (Int → Int → Nat → Int → List VV → R) → Nat → Int → Int → Nat → Int → List VV → R), iterC (codeL PP (words []) c_ref03_bytes (tabI c_ref03_bytes [⟨0, T_ref03_bytes_0, fun k q => L_ref03_bytes_0 F (fun (z0 : Int) (z1 : Int) (z2 : Nat) (z3 : Int) (z4 : List VV) => k (.exit 0) (fS T_ref03_bytes_0_0 [.i z0, .i z1, .n z2, .i z3, .c z4])) F (atI (nth q 0)) (atI (nth q 1)) (atN (nth q 2)) (atI (nth q 3)) (atC (nth q 4))⟩]) (loopAt PP 100 0) 0) (headOf c_ref03_bytes 0) k (n + 1) (fS T_ref03_bytes_0 [.i x0, .i x1, .n x2, .i x3, .c x4]) = (fun (rc : Int → Int → Nat → Int → List VV → R) (ex0 : Int → Int → Nat → Int → List VV → R) (x0 : Int) (x1 : Int) (x2 : Nat) (x3 : Int) (x4 : List VV) => (
  bif ((decide (x3 < x1))) then (
    bif ((decide ((x2 * 1) ≤ (x4.drop 0).length)) && (decide ((1 + x2) * 2 ≤ bigger))) then (
      rc ((IntKind.wrap .u64 (Int.tdiv x0 256))) x1 ((1 + x2)) ((IntKind.wrap .i64 (x3 + 1))) (([.v (.int .u8 ((IntKind.wrap .u8 ((Int.tmod x0 256)))))] ++ ((x4.drop 0).take (x2 * 1)))))
    else (
      none))
  else (
    ex0 x0 x1 x2 x3 x4) : R)) (fun (y0 : Int) (y1 : Int) (y2 : Nat) (y3 : Int) (y4 : List VV) => iterC (codeL PP (words []) c_ref03_bytes (tabI c_ref03_bytes [⟨0, T_ref03_bytes_0, fun k q => L_ref03_bytes_0 F (fun (z0 : Int) (z1 : Int) (z2 : Nat) (z3 : Int) (z4 : List VV) => k (.exit 0) (fS T_ref03_bytes_0_0 [.i z0, .i z1, .n z2, .i z3, .c z4])) F (atI (nth q 0)) (atI (nth q 1)) (atN (nth q 2)) (atI (nth q 3)) (atC (nth q 4))⟩]) (loopAt PP 100 0) 0) (headOf c_ref03_bytes 0) k n (fS T_ref03_bytes_0 [.i y0, .i y1, .n y2, .i y3, .c y4])) (fun (z0 : Int) (z1 : Int) (z2 : Nat) (z3 : Int) (z4 : List VV) => k (.exit 0) (fS T_ref03_bytes_0_0 [.i z0, .i z1, .n z2, .i z3, .c z4])) x0 x1 x2 x3 x4 := by
      intros
      kernel_rfl
    have h : iterC (codeL PP (S_ref03_bytes F) c_ref03_bytes (I_ref03_bytes F) (loopAt PP 100 0) 0) (headOf c_ref03_bytes 0) k (n + 1) (fS T_ref03_bytes_0 [.i x0, .i x1, .n x2, .i x3, .c x4]) = B_ref03_bytes_0 F (fun (y0 : Int) (y1 : Int) (y2 : Nat) (y3 : Int) (y4 : List VV) => iterC (codeL PP (S_ref03_bytes F) c_ref03_bytes (I_ref03_bytes F) (loopAt PP 100 0) 0) (headOf c_ref03_bytes 0) k n (fS T_ref03_bytes_0 [.i y0, .i y1, .n y2, .i y3, .c y4])) (fun (z0 : Int) (z1 : Int) (z2 : Nat) (z3 : Int) (z4 : List VV) => k (.exit 0) (fS T_ref03_bytes_0_0 [.i z0, .i z1, .n z2, .i z3, .c z4])) x0 x1 x2 x3 x4 := (h0 L_ref03_bytes_0).trans (by kernel_rfl)
    rw [h]
    simp only [lL_ref03_bytes_0 F k n]
    rfl
def f_ref03_bytes (F : Nat) (a0 : Int) (a1 : Int) : R :=
  L_ref03_bytes_0 F (fun (v2185 : Int) (v2186 : Int) (v2187 : Nat) (v2188 : Int) (v2189 : List VV) =>
    some (.fs v2189 0 v2187 1)) F a0 a1 0 0 []
theorem e_ref03_bytes (F : Nat) (a0 : Int) (a1 : Int) : funL PP (S_ref03_bytes F) c_ref03_bytes (I_ref03_bytes F) 100 (fTs ti_ref03_bytes [.i a0, .i a1]).1 = f_ref03_bytes F a0 a1 := by
  have h : ∀ (L_ref03_bytes_0 : Nat → (Int → Int → Nat → Int → List VV → R) → Nat → Int → Int → Nat → Int → List VV → R), funL PP (words []) c_ref03_bytes (tabI c_ref03_bytes [⟨0, T_ref03_bytes_0, fun k q => L_ref03_bytes_0 F (fun (z0 : Int) (z1 : Int) (z2 : Nat) (z3 : Int) (z4 : List VV) => k (.exit 0) (fS T_ref03_bytes_0_0 [.i z0, .i z1, .n z2, .i z3, .c z4])) F (atI (nth q 0)) (atI (nth q 1)) (atN (nth q 2)) (atI (nth q 3)) (atC (nth q 4))⟩]) 100 (fTs ti_ref03_bytes [.i a0, .i a1]).1 = (
  L_ref03_bytes_0 F (fun (v2185 : Int) (v2186 : Int) (v2187 : Nat) (v2188 : Int) (v2189 : List VV) =>
    some (.fs v2189 0 v2187 1)) F a0 a1 0 0 [] : R) := by
    intros
    kernel_rfl
  exact (h L_ref03_bytes_0).trans (by kernel_rfl)
def ok_ref03_bytes (F : Nat) (a0 : Int) (a1 : Int) : Bool := okT to_ref03_bytes (f_ref03_bytes F a0 a1)
def o_ref03_bytes_0 (F : Nat) (a0 : Int) (a1 : Int) : List VV := atC (nth (outT to_ref03_bytes (f_ref03_bytes F a0 a1)) 0)
def o_ref03_bytes_1 (F : Nat) (a0 : Int) (a1 : Int) : Nat := atN (nth (outT to_ref03_bytes (f_ref03_bytes F a0 a1)) 1)
theorem k_ref03_bytes (F : Nat) (a0 : Int) (a1 : Int) {z0 : List VV} {z1 : Nat} (h : f_ref03_bytes F a0 a1 = some (.fs z0 0 z1 1)) : ok_ref03_bytes F a0 a1 = true ∧ o_ref03_bytes_0 F a0 a1 = z0 ∧ o_ref03_bytes_1 F a0 a1 = z1 := by
  refine ⟨?_, ?_, ?_⟩
  · unfold ok_ref03_bytes; rw [h]; kernel_rfl
  · unfold o_ref03_bytes_0; rw [h]; kernel_rfl
  · unfold o_ref03_bytes_1; rw [h]; kernel_rfl
def s_ref03_bytes (F : Nat) : List VV → Option (Bool × VV) := spec ti_ref03_bytes to_ref03_bytes (fun q => (ok_ref03_bytes F (atI (nth q 0)) (atI (nth q 1)))) (fun q => [.c (o_ref03_bytes_0 F (atI (nth q 0)) (atI (nth q 1))), .n (o_ref03_bytes_1 F (atI (nth q 0)) (atI (nth q 1)))])
theorem hS_ref03_bytes (F : Nat) : ∀ f, Good PP f (unS (S_ref03_bytes F f)) := words_good fun p hp => by
  cases hp
theorem hl_ref03_bytes (F : Nat) : ∀ p ∈ loopsIn PP 100, LoopOK PP (S_ref03_bytes F) c_ref03_bytes F (I_ref03_bytes F) p :=
  loops_of [(0, loopAt PP 100 0)] (by kernel_rfl) (all_cons
    (loop_ok (W_ref03_bytes F) rfl (tab_cons (fun _ k q => Le.ofEq ((lL_ref03_bytes_0 F k F (atI (nth q 0)) (atI (nth q 1)) (atN (nth q 2)) (atI (nth q 3)) (atC (nth q 4))).symm.trans (congrArg (iterC (codeL PP (S_ref03_bytes F) c_ref03_bytes (I_ref03_bytes F) (loopAt PP 100 0) 0) (headOf c_ref03_bytes 0) k F) (show fS T_ref03_bytes_0 [.i (atI (nth q 0)), .i (atI (nth q 1)), .n (atN (nth q 2)), .i (atI (nth q 3)), .c (atC (nth q 4))] = fS T_ref03_bytes_0 q by kernel_rfl)))) tab_nil)) all_nil)
theorem g_ref03_bytes (F : Nat) : Good PP 100 (unS (s_ref03_bytes F)) :=
  fun_spec (hS_ref03_bytes F) (by kernel_rfl) (by kernel_rfl) (C := c_ref03_bytes) (F := fun q => (f_ref03_bytes F (atI (nth q 0)) (atI (nth q 1)))) (fun _ => F) (fun _ => I_ref03_bytes F) (fun _ => hl_ref03_bytes F)
    (fun q => (congrArg (funL PP (S_ref03_bytes F) c_ref03_bytes (I_ref03_bytes F) 100) (show (fTs ti_ref03_bytes q).1 = (fTs ti_ref03_bytes [.i (atI (nth q 0)), .i (atI (nth q 1))]).1 by kernel_rfl)).trans (e_ref03_bytes F (atI (nth q 0)) (atI (nth q 1))))
    (fun _ h => (okT_fill h).trans (congrArg some (by kernel_rfl)))

end Go.Xv
set_option linter.unusedVariables false
namespace Go.Xv
/- 36 _ref03_Put -/
def c_ref03_Put : Cfg := ⟨[0, 2], [], []⟩
def ti_ref03_Put : List TV := [.v (.int .i32)]
def to_ref03_Put : TV := .fs (.lit 0) .hole 1
def S_ref03_Put (F : Nat) : FuncId → List VV → Option (Bool × VV) := words [(100, s_ref03_bytes F)]
def W_ref03_Put (F : Nat) : List LW := []
def I_ref03_Put (F : Nat) : Nat → VS → (Exit → VS → R) → R := tabI c_ref03_Put (W_ref03_Put F)
def f_ref03_Put (F : Nat) (a0 : Int) : R :=
  let v2172 : Int := (IntKind.wrap .u64 ((IntKind.wrap .u32 a0)))
  bif (ok_ref03_bytes F v2172 4) then (
    some (.fs ((o_ref03_bytes_0 F v2172 4)) 0 ((o_ref03_bytes_1 F v2172 4)) 1))
  else (
    none)
theorem e_ref03_Put (F : Nat) (a0 : Int) : funL PP (S_ref03_Put F) c_ref03_Put (I_ref03_Put F) 36 (fTs ti_ref03_Put [.i a0]).1 = f_ref03_Put F a0 := by
  have h : ∀ (ok_ref03_bytes : Nat → Int → Int → Bool) (o_ref03_bytes_0 : Nat → Int → Int → List VV) (o_ref03_bytes_1 : Nat → Int → Int → Nat), funL PP (words [(100, spec ti_ref03_bytes to_ref03_bytes (fun q => (ok_ref03_bytes F (atI (nth q 0)) (atI (nth q 1)))) (fun q => [.c (o_ref03_bytes_0 F (atI (nth q 0)) (atI (nth q 1))), .n (o_ref03_bytes_1 F (atI (nth q 0)) (atI (nth q 1)))]))]) c_ref03_Put (tabI c_ref03_Put []) 36 (fTs ti_ref03_Put [.i a0]).1 = (
  let v2172 : Int := (IntKind.wrap .u64 ((IntKind.wrap .u32 a0)))
  bif (ok_ref03_bytes F v2172 4) then (
    some (.fs ((o_ref03_bytes_0 F v2172 4)) 0 ((o_ref03_bytes_1 F v2172 4)) 1))
  else (
    none) : R) := by
    intros
    kernel_rfl
  exact (h ok_ref03_bytes o_ref03_bytes_0 o_ref03_bytes_1).trans (by kernel_rfl)
def ok_ref03_Put (F : Nat) (a0 : Int) : Bool := okT to_ref03_Put (f_ref03_Put F a0)
def o_ref03_Put_0 (F : Nat) (a0 : Int) : List VV := atC (nth (outT to_ref03_Put (f_ref03_Put F a0)) 0)
def o_ref03_Put_1 (F : Nat) (a0 : Int) : Nat := atN (nth (outT to_ref03_Put (f_ref03_Put F a0)) 1)
theorem k_ref03_Put (F : Nat) (a0 : Int) {z0 : List VV} {z1 : Nat} (h : f_ref03_Put F a0 = some (.fs z0 0 z1 1)) : ok_ref03_Put F a0 = true ∧ o_ref03_Put_0 F a0 = z0 ∧ o_ref03_Put_1 F a0 = z1 := by
  refine ⟨?_, ?_, ?_⟩
  · unfold ok_ref03_Put; rw [h]; kernel_rfl
  · unfold o_ref03_Put_0; rw [h]; kernel_rfl
  · unfold o_ref03_Put_1; rw [h]; kernel_rfl
def s_ref03_Put (F : Nat) : List VV → Option (Bool × VV) := spec ti_ref03_Put to_ref03_Put (fun q => (ok_ref03_Put F (atI (nth q 0)))) (fun q => [.c (o_ref03_Put_0 F (atI (nth q 0))), .n (o_ref03_Put_1 F (atI (nth q 0)))])
theorem hS_ref03_Put (F : Nat) : ∀ f, Good PP f (unS (S_ref03_Put F f)) := words_good fun p hp => by
  simp only [List.mem_cons, List.not_mem_nil, or_false] at hp
  rcases hp with rfl
  · exact g_ref03_bytes F
theorem hl_ref03_Put (F : Nat) : ∀ p ∈ loopsIn PP 36, LoopOK PP (S_ref03_Put F) c_ref03_Put F (I_ref03_Put F) p :=
  loops_of [] (by kernel_rfl) all_nil
theorem g_ref03_Put (F : Nat) : Good PP 36 (unS (s_ref03_Put F)) :=
  fun_spec (hS_ref03_Put F) (by kernel_rfl) (by kernel_rfl) (C := c_ref03_Put) (F := fun q => (f_ref03_Put F (atI (nth q 0)))) (fun _ => F) (fun _ => I_ref03_Put F) (fun _ => hl_ref03_Put F)
    (fun q => (congrArg (funL PP (S_ref03_Put F) c_ref03_Put (I_ref03_Put F) 36) (show (fTs ti_ref03_Put q).1 = (fTs ti_ref03_Put [.i (atI (nth q 0))]).1 by kernel_rfl)).trans (e_ref03_Put F (atI (nth q 0))))
    (fun _ h => (okT_fill h).trans (congrArg some (by kernel_rfl)))

end Go.Xv
set_option linter.unusedVariables false
namespace Go.Xv
/- 37 _ref03_PutFix -/
def c_ref03_PutFix : Cfg := ⟨[0, 2], [], []⟩
def ti_ref03_PutFix : List TV := [.v (.int .i64)]
def to_ref03_PutFix : TV := .fs (.lit 0) .hole 1
def S_ref03_PutFix (F : Nat) : FuncId → List VV → Option (Bool × VV) := words [(100, s_ref03_bytes F)]
def W_ref03_PutFix (F : Nat) : List LW := []
def I_ref03_PutFix (F : Nat) : Nat → VS → (Exit → VS → R) → R := tabI c_ref03_PutFix (W_ref03_PutFix F)
def f_ref03_PutFix (F : Nat) (a0 : Int) : R :=
  let v2195 : Int := (IntKind.wrap .u64 a0)
  bif (ok_ref03_bytes F v2195 8) then (
    some (.fs ((o_ref03_bytes_0 F v2195 8)) 0 ((o_ref03_bytes_1 F v2195 8)) 1))
  else (
    none)
theorem e_ref03_PutFix (F : Nat) (a0 : Int) : funL PP (S_ref03_PutFix F) c_ref03_PutFix (I_ref03_PutFix F) 37 (fTs ti_ref03_PutFix [.i a0]).1 = f_ref03_PutFix F a0 := by
  have h : ∀ (ok_ref03_bytes : Nat → Int → Int → Bool) (o_ref03_bytes_0 : Nat → Int → Int → List VV) (o_ref03_bytes_1 : Nat → Int → Int → Nat), funL PP (words [(100, spec ti_ref03_bytes to_ref03_bytes (fun q => (ok_ref03_bytes F (atI (nth q 0)) (atI (nth q 1)))) (fun q => [.c (o_ref03_bytes_0 F (atI (nth q 0)) (atI (nth q 1))), .n (o_ref03_bytes_1 F (atI (nth q 0)) (atI (nth q 1)))]))]) c_ref03_PutFix (tabI c_ref03_PutFix []) 37 (fTs ti_ref03_PutFix [.i a0]).1 = (
  let v2195 : Int := (IntKind.wrap .u64 a0)
  bif (ok_ref03_bytes F v2195 8) then (
    some (.fs ((o_ref03_bytes_0 F v2195 8)) 0 ((o_ref03_bytes_1 F v2195 8)) 1))
  else (
    none) : R) := by
    intros
    kernel_rfl
  exact (h ok_ref03_bytes o_ref03_bytes_0 o_ref03_bytes_1).trans (by kernel_rfl)
def ok_ref03_PutFix (F : Nat) (a0 : Int) : Bool := okT to_ref03_PutFix (f_ref03_PutFix F a0)
def o_ref03_PutFix_0 (F : Nat) (a0 : Int) : List VV := atC (nth (outT to_ref03_PutFix (f_ref03_PutFix F a0)) 0)
def o_ref03_PutFix_1 (F : Nat) (a0 : Int) : Nat := atN (nth (outT to_ref03_PutFix (f_ref03_PutFix F a0)) 1)
theorem k_ref03_PutFix (F : Nat) (a0 : Int) {z0 : List VV} {z1 : Nat} (h : f_ref03_PutFix F a0 = some (.fs z0 0 z1 1)) : ok_ref03_PutFix F a0 = true ∧ o_ref03_PutFix_0 F a0 = z0 ∧ o_ref03_PutFix_1 F a0 = z1 := by
  refine ⟨?_, ?_, ?_⟩
  · unfold ok_ref03_PutFix; rw [h]; kernel_rfl
  · unfold o_ref03_PutFix_0; rw [h]; kernel_rfl
  · unfold o_ref03_PutFix_1; rw [h]; kernel_rfl
def s_ref03_PutFix (F : Nat) : List VV → Option (Bool × VV) := spec ti_ref03_PutFix to_ref03_PutFix (fun q => (ok_ref03_PutFix F (atI (nth q 0)))) (fun q => [.c (o_ref03_PutFix_0 F (atI (nth q 0))), .n (o_ref03_PutFix_1 F (atI (nth q 0)))])
theorem hS_ref03_PutFix (F : Nat) : ∀ f, Good PP f (unS (S_ref03_PutFix F f)) := words_good fun p hp => by
  simp only [List.mem_cons, List.not_mem_nil, or_false] at hp
  rcases hp with rfl
  · exact g_ref03_bytes F
theorem hl_ref03_PutFix (F : Nat) : ∀ p ∈ loopsIn PP 37, LoopOK PP (S_ref03_PutFix F) c_ref03_PutFix F (I_ref03_PutFix F) p :=
  loops_of [] (by kernel_rfl) all_nil
theorem g_ref03_PutFix (F : Nat) : Good PP 37 (unS (s_ref03_PutFix F)) :=
  fun_spec (hS_ref03_PutFix F) (by kernel_rfl) (by kernel_rfl) (C := c_ref03_PutFix) (F := fun q => (f_ref03_PutFix F (atI (nth q 0)))) (fun _ => F) (fun _ => I_ref03_PutFix F) (fun _ => hl_ref03_PutFix F)
    (fun q => (congrArg (funL PP (S_ref03_PutFix F) c_ref03_PutFix (I_ref03_PutFix F) 37) (show (fTs ti_ref03_PutFix q).1 = (fTs ti_ref03_PutFix [.i (atI (nth q 0))]).1 by kernel_rfl)).trans (e_ref03_PutFix F (atI (nth q 0))))
    (fun _ h => (okT_fill h).trans (congrArg some (by kernel_rfl)))

end Go.Xv
set_option linter.unusedVariables false
namespace Go.Xv
/- 39 _small_Widen -/
def c_small_Widen : Cfg := ⟨[0, 2], [], []⟩
def ti_small_Widen : List TV := [.v (.int .i32)]
def to_small_Widen : TV := .v (.int .i64)
def S_small_Widen (F : Nat) : FuncId → List VV → Option (Bool × VV) := words []
def W_small_Widen (F : Nat) : List LW := []
def I_small_Widen (F : Nat) : Nat → VS → (Exit → VS → R) → R := tabI c_small_Widen (W_small_Widen F)
def f_small_Widen (F : Nat) (a0 : Int) : R :=
  some (.v (.int .i64 ((IntKind.wrap .i64 (((IntKind.wrap .i64 a0)) * 65536)))))
theorem e_small_Widen (F : Nat) (a0 : Int) : funL PP (S_small_Widen F) c_small_Widen (I_small_Widen F) 39 (fTs ti_small_Widen [.i a0]).1 = f_small_Widen F a0 := by
  have h : ∀ (_ : Unit), funL PP (words []) c_small_Widen (tabI c_small_Widen []) 39 (fTs ti_small_Widen [.i a0]).1 = (
  some (.v (.int .i64 ((IntKind.wrap .i64 (((IntKind.wrap .i64 a0)) * 65536))))) : R) := by
    intros
    kernel_rfl
  exact (h ()).trans (by kernel_rfl)
def ok_small_Widen (F : Nat) (a0 : Int) : Bool := okT to_small_Widen (f_small_Widen F a0)
def o_small_Widen_0 (F : Nat) (a0 : Int) : Int := atI (nth (outT to_small_Widen (f_small_Widen F a0)) 0)
theorem k_small_Widen (F : Nat) (a0 : Int) {z0 : Int} (h : f_small_Widen F a0 = some (.v (.int .i64 z0))) : ok_small_Widen F a0 = true ∧ o_small_Widen_0 F a0 = z0 := by
  refine ⟨?_, ?_⟩
  · unfold ok_small_Widen; rw [h]; kernel_rfl
  · unfold o_small_Widen_0; rw [h]; kernel_rfl
def s_small_Widen (F : Nat) : List VV → Option (Bool × VV) := spec ti_small_Widen to_small_Widen (fun q => (ok_small_Widen F (atI (nth q 0)))) (fun q => [.i (o_small_Widen_0 F (atI (nth q 0)))])
theorem hS_small_Widen (F : Nat) : ∀ f, Good PP f (unS (S_small_Widen F f)) := words_good fun p hp => by
  cases hp
theorem hl_small_Widen (F : Nat) : ∀ p ∈ loopsIn PP 39, LoopOK PP (S_small_Widen F) c_small_Widen F (I_small_Widen F) p :=
  loops_of [] (by kernel_rfl) all_nil
theorem g_small_Widen (F : Nat) : Good PP 39 (unS (s_small_Widen F)) :=
  fun_spec (hS_small_Widen F) (by kernel_rfl) (by kernel_rfl) (C := c_small_Widen) (F := fun q => (f_small_Widen F (atI (nth q 0)))) (fun _ => F) (fun _ => I_small_Widen F) (fun _ => hl_small_Widen F)
    (fun q => (congrArg (funL PP (S_small_Widen F) c_small_Widen (I_small_Widen F) 39) (show (fTs ti_small_Widen q).1 = (fTs ti_small_Widen [.i (atI (nth q 0))]).1 by kernel_rfl)).trans (e_small_Widen F (atI (nth q 0))))
    (fun _ h => (okT_fill h).trans (congrArg some (by kernel_rfl)))

end Go.Xv
set_option linter.unusedVariables false
namespace Go.Xv
/- 108 _ref03_clip -/
def c_ref03_clip : Cfg := ⟨[0, 2, 3, 5, 7], [], []⟩
def ti_ref03_clip : List TV := [.v (.int .i64)]
def to_ref03_clip : TV := .v (.tup [.int .i32, .bool])
def S_ref03_clip (F : Nat) : FuncId → List VV → Option (Bool × VV) := words []
def W_ref03_clip (F : Nat) : List LW := []
def I_ref03_clip (F : Nat) : Nat → VS → (Exit → VS → R) → R := tabI c_ref03_clip (W_ref03_clip F)
def f_ref03_clip (F : Nat) (a0 : Int) : R :=
  bif ((decide (a0 > 2147483647))) then (
    some (.v (.tuple #[.int .i32 2147483647, .bool true])))
  else (
    bif ((decide (a0 < (-2147483648)))) then (
      some (.v (.tuple #[.int .i32 (-2147483648), .bool true])))
    else (
      some (.v (.tuple #[.int .i32 ((IntKind.wrap .i32 a0)), .bool false]))))
theorem e_ref03_clip (F : Nat) (a0 : Int) : funL PP (S_ref03_clip F) c_ref03_clip (I_ref03_clip F) 108 (fTs ti_ref03_clip [.i a0]).1 = f_ref03_clip F a0 := by
  have h : ∀ (_ : Unit), funL PP (words []) c_ref03_clip (tabI c_ref03_clip []) 108 (fTs ti_ref03_clip [.i a0]).1 = (
  bif ((decide (a0 > 2147483647))) then (
    some (.v (.tuple #[.int .i32 2147483647, .bool true])))
  else (
    bif ((decide (a0 < (-2147483648)))) then (
      some (.v (.tuple #[.int .i32 (-2147483648), .bool true])))
    else (
      some (.v (.tuple #[.int .i32 ((IntKind.wrap .i32 a0)), .bool false])))) : R) := by
    intros
    kernel_rfl
  exact (h ()).trans (by kernel_rfl)
def ok_ref03_clip (F : Nat) (a0 : Int) : Bool := okT to_ref03_clip (f_ref03_clip F a0)
def o_ref03_clip_0 (F : Nat) (a0 : Int) : Int := atI (nth (outT to_ref03_clip (f_ref03_clip F a0)) 0)
def o_ref03_clip_1 (F : Nat) (a0 : Int) : Bool := atB (nth (outT to_ref03_clip (f_ref03_clip F a0)) 1)
theorem k_ref03_clip (F : Nat) (a0 : Int) {z0 : Int} {z1 : Bool} (h : f_ref03_clip F a0 = some (.v (.tuple #[.int .i32 z0, .bool z1]))) : ok_ref03_clip F a0 = true ∧ o_ref03_clip_0 F a0 = z0 ∧ o_ref03_clip_1 F a0 = z1 := by
  refine ⟨?_, ?_, ?_⟩
  · unfold ok_ref03_clip; rw [h]; kernel_rfl
  · unfold o_ref03_clip_0; rw [h]; kernel_rfl
  · unfold o_ref03_clip_1; rw [h]; kernel_rfl
def s_ref03_clip (F : Nat) : List VV → Option (Bool × VV) := spec ti_ref03_clip to_ref03_clip (fun q => (ok_ref03_clip F (atI (nth q 0)))) (fun q => [.i (o_ref03_clip_0 F (atI (nth q 0))), .b (o_ref03_clip_1 F (atI (nth q 0)))])
theorem hS_ref03_clip (F : Nat) : ∀ f, Good PP f (unS (S_ref03_clip F f)) := words_good fun p hp => by
  cases hp
theorem hl_ref03_clip (F : Nat) : ∀ p ∈ loopsIn PP 108, LoopOK PP (S_ref03_clip F) c_ref03_clip F (I_ref03_clip F) p :=
  loops_of [] (by kernel_rfl) all_nil
theorem g_ref03_clip (F : Nat) : Good PP 108 (unS (s_ref03_clip F)) :=
  fun_spec (hS_ref03_clip F) (by kernel_rfl) (by kernel_rfl) (C := c_ref03_clip) (F := fun q => (f_ref03_clip F (atI (nth q 0)))) (fun _ => F) (fun _ => I_ref03_clip F) (fun _ => hl_ref03_clip F)
    (fun q => (congrArg (funL PP (S_ref03_clip F) c_ref03_clip (I_ref03_clip F) 108) (show (fTs ti_ref03_clip q).1 = (fTs ti_ref03_clip [.i (atI (nth q 0))]).1 by kernel_rfl)).trans (e_ref03_clip F (atI (nth q 0))))
    (fun _ h => (okT_fill h).trans (congrArg some (by kernel_rfl)))

end Go.Xv
set_option linter.unusedVariables false
namespace Go.Xv
/- 71 _ref03_Narrow -/
def c_ref03_Narrow : Cfg := ⟨[0, 2, 3, 4], [], [8, 9]⟩
def ti_ref03_Narrow : List TV := [.v (.int .i64)]
def to_ref03_Narrow : TV := .v (.tup [.int .i32, .bool])
def S_ref03_Narrow (F : Nat) : FuncId → List VV → Option (Bool × VV) := words [(58, s_ref01_Of F), (50, s_ref01_Near F), (86, s_ref01_Clip F), (108, s_ref03_clip F)]
def W_ref03_Narrow (F : Nat) : List LW := []
def I_ref03_Narrow (F : Nat) : Nat → VS → (Exit → VS → R) → R := tabI c_ref03_Narrow (W_ref03_Narrow F)
def f_ref03_Narrow (F : Nat) (a0 : Int) : R :=
  bif (ok_ref01_Of F a0) then (
    let v2244 : Int := (o_ref01_Of_0 F a0)
    let v2245 : Int := (o_ref01_Of_1 F a0)
    bif (ok_ref01_Near F v2244 v2245 16) then (
      let v2246 : Int := (o_ref01_Near_0 F v2244 v2245 16)
      let v2247 : Int := (o_ref01_Near_1 F v2244 v2245 16)
      bif (ok_ref01_Clip F v2246 v2247) then (
        let v2248 : Int := (o_ref01_Clip_0 F v2246 v2247)
        bif (ok_ref03_clip F v2248) then (
          some (.v (.tuple #[.int .i32 ((o_ref03_clip_0 F v2248)), .bool ((o_ref03_clip_1 F v2248))])))
        else (
          none))
      else (
        none))
    else (
      none))
  else (
    none)
theorem e_ref03_Narrow (F : Nat) (a0 : Int) : funL PP (S_ref03_Narrow F) c_ref03_Narrow (I_ref03_Narrow F) 71 (fTs ti_ref03_Narrow [.i a0]).1 = f_ref03_Narrow F a0 := by
  have h : ∀ (ok_ref01_Of : Nat → Int → Bool) (o_ref01_Of_0 : Nat → Int → Int) (o_ref01_Of_1 : Nat → Int → Int) (ok_ref01_Near : Nat → Int → Int → Int → Bool) (o_ref01_Near_0 : Nat → Int → Int → Int → Int) (o_ref01_Near_1 : Nat → Int → Int → Int → Int) (ok_ref01_Clip : Nat → Int → Int → Bool) (o_ref01_Clip_0 : Nat → Int → Int → Int) (o_ref01_Clip_1 : Nat → Int → Int → Bool) (ok_ref03_clip : Nat → Int → Bool) (o_ref03_clip_0 : Nat → Int → Int) (o_ref03_clip_1 : Nat → Int → Bool), funL PP (words [(58, spec ti_ref01_Of to_ref01_Of (fun q => (ok_ref01_Of F (atI (nth q 0)))) (fun q => [.i (o_ref01_Of_0 F (atI (nth q 0))), .i (o_ref01_Of_1 F (atI (nth q 0)))])), (50, spec ti_ref01_Near to_ref01_Near (fun q => (ok_ref01_Near F (atI (nth q 0)) (atI (nth q 1)) (atI (nth q 2)))) (fun q => [.i (o_ref01_Near_0 F (atI (nth q 0)) (atI (nth q 1)) (atI (nth q 2))), .i (o_ref01_Near_1 F (atI (nth q 0)) (atI (nth q 1)) (atI (nth q 2)))])), (86, spec ti_ref01_Clip to_ref01_Clip (fun q => (ok_ref01_Clip F (atI (nth q 0)) (atI (nth q 1)))) (fun q => [.i (o_ref01_Clip_0 F (atI (nth q 0)) (atI (nth q 1))), .b (o_ref01_Clip_1 F (atI (nth q 0)) (atI (nth q 1)))])), (108, spec ti_ref03_clip to_ref03_clip (fun q => (ok_ref03_clip F (atI (nth q 0)))) (fun q => [.i (o_ref03_clip_0 F (atI (nth q 0))), .b (o_ref03_clip_1 F (atI (nth q 0)))]))]) c_ref03_Narrow (tabI c_ref03_Narrow []) 71 (fTs ti_ref03_Narrow [.i a0]).1 = (
  bif (ok_ref01_Of F a0) then (
    let v2244 : Int := (o_ref01_Of_0 F a0)
    let v2245 : Int := (o_ref01_Of_1 F a0)
    bif (ok_ref01_Near F v2244 v2245 16) then (
      let v2246 : Int := (o_ref01_Near_0 F v2244 v2245 16)
      let v2247 : Int := (o_ref01_Near_1 F v2244 v2245 16)
      bif (ok_ref01_Clip F v2246 v2247) then (
        let v2248 : Int := (o_ref01_Clip_0 F v2246 v2247)
        bif (ok_ref03_clip F v2248) then (
          some (.v (.tuple #[.int .i32 ((o_ref03_clip_0 F v2248)), .bool ((o_ref03_clip_1 F v2248))])))
        else (
          none))
      else (
        none))
    else (
      none))
  else (
    none) : R) := by
    intros
    kernel_rfl
  exact (h ok_ref01_Of o_ref01_Of_0 o_ref01_Of_1 ok_ref01_Near o_ref01_Near_0 o_ref01_Near_1 ok_ref01_Clip o_ref01_Clip_0 o_ref01_Clip_1 ok_ref03_clip o_ref03_clip_0 o_ref03_clip_1).trans (by kernel_rfl)
def ok_ref03_Narrow (F : Nat) (a0 : Int) : Bool := okT to_ref03_Narrow (f_ref03_Narrow F a0)
def o_ref03_Narrow_0 (F : Nat) (a0 : Int) : Int := atI (nth (outT to_ref03_Narrow (f_ref03_Narrow F a0)) 0)
def o_ref03_Narrow_1 (F : Nat) (a0 : Int) : Bool := atB (nth (outT to_ref03_Narrow (f_ref03_Narrow F a0)) 1)
theorem k_ref03_Narrow (F : Nat) (a0 : Int) {z0 : Int} {z1 : Bool} (h : f_ref03_Narrow F a0 = some (.v (.tuple #[.int .i32 z0, .bool z1]))) : ok_ref03_Narrow F a0 = true ∧ o_ref03_Narrow_0 F a0 = z0 ∧ o_ref03_Narrow_1 F a0 = z1 := by
  refine ⟨?_, ?_, ?_⟩
  · unfold ok_ref03_Narrow; rw [h]; kernel_rfl
  · unfold o_ref03_Narrow_0; rw [h]; kernel_rfl
  · unfold o_ref03_Narrow_1; rw [h]; kernel_rfl
def s_ref03_Narrow (F : Nat) : List VV → Option (Bool × VV) := spec ti_ref03_Narrow to_ref03_Narrow (fun q => (ok_ref03_Narrow F (atI (nth q 0)))) (fun q => [.i (o_ref03_Narrow_0 F (atI (nth q 0))), .b (o_ref03_Narrow_1 F (atI (nth q 0)))])
theorem hS_ref03_Narrow (F : Nat) : ∀ f, Good PP f (unS (S_ref03_Narrow F f)) := words_good fun p hp => by
  simp only [List.mem_cons, List.not_mem_nil, or_false] at hp
  rcases hp with rfl | rfl | rfl | rfl
  · exact g_ref01_Of F
  · exact g_ref01_Near F
  · exact g_ref01_Clip F
  · exact g_ref03_clip F
theorem hl_ref03_Narrow (F : Nat) : ∀ p ∈ loopsIn PP 71, LoopOK PP (S_ref03_Narrow F) c_ref03_Narrow F (I_ref03_Narrow F) p :=
  loops_of [] (by kernel_rfl) all_nil
theorem g_ref03_Narrow (F : Nat) : Good PP 71 (unS (s_ref03_Narrow F)) :=
  fun_spec (hS_ref03_Narrow F) (by kernel_rfl) (by kernel_rfl) (C := c_ref03_Narrow) (F := fun q => (f_ref03_Narrow F (atI (nth q 0)))) (fun _ => F) (fun _ => I_ref03_Narrow F) (fun _ => hl_ref03_Narrow F)
    (fun q => (congrArg (funL PP (S_ref03_Narrow F) c_ref03_Narrow (I_ref03_Narrow F) 71) (show (fTs ti_ref03_Narrow q).1 = (fTs ti_ref03_Narrow [.i (atI (nth q 0))]).1 by kernel_rfl)).trans (e_ref03_Narrow F (atI (nth q 0))))
    (fun _ h => (okT_fill h).trans (congrArg some (by kernel_rfl)))

end Go.Xv
set_option linter.unusedVariables false
namespace Go.Xv
/- 72 _small_Add -/
def c_small_Add : Cfg := ⟨[0, 1, 4, 5], [], []⟩
def ti_small_Add : List TV := [.v (.int .i32), .v (.int .i32)]
def to_small_Add : TV := .v (.tup [.int .i32, .bool])
def S_small_Add (F : Nat) : FuncId → List VV → Option (Bool × VV) := words [(101, s_small_clip F)]
def W_small_Add (F : Nat) : List LW := []
def I_small_Add (F : Nat) : Nat → VS → (Exit → VS → R) → R := tabI c_small_Add (W_small_Add F)
def f_small_Add (F : Nat) (a0 : Int) (a1 : Int) : R :=
  let v2259 : Int := (IntKind.wrap .i64 (((IntKind.wrap .i64 a0)) + ((IntKind.wrap .i64 a1))))
  bif (ok_small_clip F v2259) then (
    some (.v (.tuple #[.int .i32 ((o_small_clip_0 F v2259)), .bool ((o_small_clip_1 F v2259))])))
  else (
    none)
theorem e_small_Add (F : Nat) (a0 : Int) (a1 : Int) : funL PP (S_small_Add F) c_small_Add (I_small_Add F) 72 (fTs ti_small_Add [.i a0, .i a1]).1 = f_small_Add F a0 a1 := by
  have h : ∀ (ok_small_clip : Nat → Int → Bool) (o_small_clip_0 : Nat → Int → Int) (o_small_clip_1 : Nat → Int → Bool), funL PP (words [(101, spec ti_small_clip to_small_clip (fun q => (ok_small_clip F (atI (nth q 0)))) (fun q => [.i (o_small_clip_0 F (atI (nth q 0))), .b (o_small_clip_1 F (atI (nth q 0)))]))]) c_small_Add (tabI c_small_Add []) 72 (fTs ti_small_Add [.i a0, .i a1]).1 = (
  let v2259 : Int := (IntKind.wrap .i64 (((IntKind.wrap .i64 a0)) + ((IntKind.wrap .i64 a1))))
  bif (ok_small_clip F v2259) then (
    some (.v (.tuple #[.int .i32 ((o_small_clip_0 F v2259)), .bool ((o_small_clip_1 F v2259))])))
  else (
    none) : R) := by
    intros
    kernel_rfl
  exact (h ok_small_clip o_small_clip_0 o_small_clip_1).trans (by kernel_rfl)
def ok_small_Add (F : Nat) (a0 : Int) (a1 : Int) : Bool := okT to_small_Add (f_small_Add F a0 a1)
def o_small_Add_0 (F : Nat) (a0 : Int) (a1 : Int) : Int := atI (nth (outT to_small_Add (f_small_Add F a0 a1)) 0)
def o_small_Add_1 (F : Nat) (a0 : Int) (a1 : Int) : Bool := atB (nth (outT to_small_Add (f_small_Add F a0 a1)) 1)
theorem k_small_Add (F : Nat) (a0 : Int) (a1 : Int) {z0 : Int} {z1 : Bool} (h : f_small_Add F a0 a1 = some (.v (.tuple #[.int .i32 z0, .bool z1]))) : ok_small_Add F a0 a1 = true ∧ o_small_Add_0 F a0 a1 = z0 ∧ o_small_Add_1 F a0 a1 = z1 := by
  refine ⟨?_, ?_, ?_⟩
  · unfold ok_small_Add; rw [h]; kernel_rfl
  · unfold o_small_Add_0; rw [h]; kernel_rfl
  · unfold o_small_Add_1; rw [h]; kernel_rfl
def s_small_Add (F : Nat) : List VV → Option (Bool × VV) := spec ti_small_Add to_small_Add (fun q => (ok_small_Add F (atI (nth q 0)) (atI (nth q 1)))) (fun q => [.i (o_small_Add_0 F (atI (nth q 0)) (atI (nth q 1))), .b (o_small_Add_1 F (atI (nth q 0)) (atI (nth q 1)))])
theorem hS_small_Add (F : Nat) : ∀ f, Good PP f (unS (S_small_Add F f)) := words_good fun p hp => by
  simp only [List.mem_cons, List.not_mem_nil, or_false] at hp
  rcases hp with rfl
  · exact g_small_clip F
theorem hl_small_Add (F : Nat) : ∀ p ∈ loopsIn PP 72, LoopOK PP (S_small_Add F) c_small_Add F (I_small_Add F) p :=
  loops_of [] (by kernel_rfl) all_nil
theorem g_small_Add (F : Nat) : Good PP 72 (unS (s_small_Add F)) :=
  fun_spec (hS_small_Add F) (by kernel_rfl) (by kernel_rfl) (C := c_small_Add) (F := fun q => (f_small_Add F (atI (nth q 0)) (atI (nth q 1)))) (fun _ => F) (fun _ => I_small_Add F) (fun _ => hl_small_Add F)
    (fun q => (congrArg (funL PP (S_small_Add F) c_small_Add (I_small_Add F) 72) (show (fTs ti_small_Add q).1 = (fTs ti_small_Add [.i (atI (nth q 0)), .i (atI (nth q 1))]).1 by kernel_rfl)).trans (e_small_Add F (atI (nth q 0)) (atI (nth q 1))))
    (fun _ h => (okT_fill h).trans (congrArg some (by kernel_rfl)))

end Go.Xv
set_option linter.unusedVariables false
namespace Go.Xv
/- 73 _ref03_Add -/
def c_ref03_Add : Cfg := ⟨[0, 1, 4, 5], [], []⟩
def ti_ref03_Add : List TV := [.v (.int .i32), .v (.int .i32)]
def to_ref03_Add : TV := .v (.tup [.int .i32, .bool])
def S_ref03_Add (F : Nat) : FuncId → List VV → Option (Bool × VV) := words [(108, s_ref03_clip F)]
def W_ref03_Add (F : Nat) : List LW := []
def I_ref03_Add (F : Nat) : Nat → VS → (Exit → VS → R) → R := tabI c_ref03_Add (W_ref03_Add F)
def f_ref03_Add (F : Nat) (a0 : Int) (a1 : Int) : R :=
  let v2266 : Int := (IntKind.wrap .i64 (((IntKind.wrap .i64 a0)) + ((IntKind.wrap .i64 a1))))
  bif (ok_ref03_clip F v2266) then (
    some (.v (.tuple #[.int .i32 ((o_ref03_clip_0 F v2266)), .bool ((o_ref03_clip_1 F v2266))])))
  else (
    none)
theorem e_ref03_Add (F : Nat) (a0 : Int) (a1 : Int) : funL PP (S_ref03_Add F) c_ref03_Add (I_ref03_Add F) 73 (fTs ti_ref03_Add [.i a0, .i a1]).1 = f_ref03_Add F a0 a1 := by
  have h : ∀ (ok_ref03_clip : Nat → Int → Bool) (o_ref03_clip_0 : Nat → Int → Int) (o_ref03_clip_1 : Nat → Int → Bool), funL PP (words [(108, spec ti_ref03_clip to_ref03_clip (fun q => (ok_ref03_clip F (atI (nth q 0)))) (fun q => [.i (o_ref03_clip_0 F (atI (nth q 0))), .b (o_ref03_clip_1 F (atI (nth q 0)))]))]) c_ref03_Add (tabI c_ref03_Add []) 73 (fTs ti_ref03_Add [.i a0, .i a1]).1 = (
  let v2266 : Int := (IntKind.wrap .i64 (((IntKind.wrap .i64 a0)) + ((IntKind.wrap .i64 a1))))
  bif (ok_ref03_clip F v2266) then (
    some (.v (.tuple #[.int .i32 ((o_ref03_clip_0 F v2266)), .bool ((o_ref03_clip_1 F v2266))])))
  else (
    none) : R) := by
    intros
    kernel_rfl
  exact (h ok_ref03_clip o_ref03_clip_0 o_ref03_clip_1).trans (by kernel_rfl)
def ok_ref03_Add (F : Nat) (a0 : Int) (a1 : Int) : Bool := okT to_ref03_Add (f_ref03_Add F a0 a1)
def o_ref03_Add_0 (F : Nat) (a0 : Int) (a1 : Int) : Int := atI (nth (outT to_ref03_Add (f_ref03_Add F a0 a1)) 0)
def o_ref03_Add_1 (F : Nat) (a0 : Int) (a1 : Int) : Bool := atB (nth (outT to_ref03_Add (f_ref03_Add F a0 a1)) 1)
theorem k_ref03_Add (F : Nat) (a0 : Int) (a1 : Int) {z0 : Int} {z1 : Bool} (h : f_ref03_Add F a0 a1 = some (.v (.tuple #[.int .i32 z0, .bool z1]))) : ok_ref03_Add F a0 a1 = true ∧ o_ref03_Add_0 F a0 a1 = z0 ∧ o_ref03_Add_1 F a0 a1 = z1 := by
  refine ⟨?_, ?_, ?_⟩
  · unfold ok_ref03_Add; rw [h]; kernel_rfl
  · unfold o_ref03_Add_0; rw [h]; kernel_rfl
  · unfold o_ref03_Add_1; rw [h]; kernel_rfl
def s_ref03_Add (F : Nat) : List VV → Option (Bool × VV) := spec ti_ref03_Add to_ref03_Add (fun q => (ok_ref03_Add F (atI (nth q 0)) (atI (nth q 1)))) (fun q => [.i (o_ref03_Add_0 F (atI (nth q 0)) (atI (nth q 1))), .b (o_ref03_Add_1 F (atI (nth q 0)) (atI (nth q 1)))])
theorem hS_ref03_Add (F : Nat) : ∀ f, Good PP f (unS (S_ref03_Add F f)) := words_good fun p hp => by
  simp only [List.mem_cons, List.not_mem_nil, or_false] at hp
  rcases hp with rfl
  · exact g_ref03_clip F
theorem hl_ref03_Add (F : Nat) : ∀ p ∈ loopsIn PP 73, LoopOK PP (S_ref03_Add F) c_ref03_Add F (I_ref03_Add F) p :=
  loops_of [] (by kernel_rfl) all_nil
theorem g_ref03_Add (F : Nat) : Good PP 73 (unS (s_ref03_Add F)) :=
  fun_spec (hS_ref03_Add F) (by kernel_rfl) (by kernel_rfl) (C := c_ref03_Add) (F := fun q => (f_ref03_Add F (atI (nth q 0)) (atI (nth q 1)))) (fun _ => F) (fun _ => I_ref03_Add F) (fun _ => hl_ref03_Add F)
    (fun q => (congrArg (funL PP (S_ref03_Add F) c_ref03_Add (I_ref03_Add F) 73) (show (fTs ti_ref03_Add q).1 = (fTs ti_ref03_Add [.i (atI (nth q 0)), .i (atI (nth q 1))]).1 by kernel_rfl)).trans (e_ref03_Add F (atI (nth q 0)) (atI (nth q 1))))
    (fun _ h => (okT_fill h).trans (congrArg some (by kernel_rfl)))

end Go.Xv
set_option linter.unusedVariables false
namespace Go.Xv
/- 74 _small_Mul -/
def c_small_Mul : Cfg := ⟨[0, 1, 4, 5], [], [11]⟩
def ti_small_Mul : List TV := [.v (.int .i32), .v (.int .i32)]
def to_small_Mul : TV := .v (.tup [.int .i32, .bool])
def S_small_Mul (F : Nat) : FuncId → List VV → Option (Bool × VV) := words [(102, s_small_near F), (101, s_small_clip F)]
def W_small_Mul (F : Nat) : List LW := []
def I_small_Mul (F : Nat) : Nat → VS → (Exit → VS → R) → R := tabI c_small_Mul (W_small_Mul F)
def f_small_Mul (F : Nat) (a0 : Int) (a1 : Int) : R :=
  let v2273 : Int := (IntKind.wrap .i64 (((IntKind.wrap .i64 a0)) * ((IntKind.wrap .i64 a1))))
  bif (ok_small_near F v2273) then (
    let v2274 : Int := (o_small_near_0 F v2273)
    bif (ok_small_clip F v2274) then (
      some (.v (.tuple #[.int .i32 ((o_small_clip_0 F v2274)), .bool ((o_small_clip_1 F v2274))])))
    else (
      none))
  else (
    none)
theorem e_small_Mul (F : Nat) (a0 : Int) (a1 : Int) : funL PP (S_small_Mul F) c_small_Mul (I_small_Mul F) 74 (fTs ti_small_Mul [.i a0, .i a1]).1 = f_small_Mul F a0 a1 := by
  have h : ∀ (ok_small_near : Nat → Int → Bool) (o_small_near_0 : Nat → Int → Int) (ok_small_clip : Nat → Int → Bool) (o_small_clip_0 : Nat → Int → Int) (o_small_clip_1 : Nat → Int → Bool), funL PP (words [(102, spec ti_small_near to_small_near (fun q => (ok_small_near F (atI (nth q 0)))) (fun q => [.i (o_small_near_0 F (atI (nth q 0)))])), (101, spec ti_small_clip to_small_clip (fun q => (ok_small_clip F (atI (nth q 0)))) (fun q => [.i (o_small_clip_0 F (atI (nth q 0))), .b (o_small_clip_1 F (atI (nth q 0)))]))]) c_small_Mul (tabI c_small_Mul []) 74 (fTs ti_small_Mul [.i a0, .i a1]).1 = (
  let v2273 : Int := (IntKind.wrap .i64 (((IntKind.wrap .i64 a0)) * ((IntKind.wrap .i64 a1))))
  bif (ok_small_near F v2273) then (
    let v2274 : Int := (o_small_near_0 F v2273)
    bif (ok_small_clip F v2274) then (
      some (.v (.tuple #[.int .i32 ((o_small_clip_0 F v2274)), .bool ((o_small_clip_1 F v2274))])))
    else (
      none))
  else (
    none) : R) := by
    intros
    kernel_rfl
  exact (h ok_small_near o_small_near_0 ok_small_clip o_small_clip_0 o_small_clip_1).trans (by kernel_rfl)
def ok_small_Mul (F : Nat) (a0 : Int) (a1 : Int) : Bool := okT to_small_Mul (f_small_Mul F a0 a1)
def o_small_Mul_0 (F : Nat) (a0 : Int) (a1 : Int) : Int := atI (nth (outT to_small_Mul (f_small_Mul F a0 a1)) 0)
def o_small_Mul_1 (F : Nat) (a0 : Int) (a1 : Int) : Bool := atB (nth (outT to_small_Mul (f_small_Mul F a0 a1)) 1)
theorem k_small_Mul (F : Nat) (a0 : Int) (a1 : Int) {z0 : Int} {z1 : Bool} (h : f_small_Mul F a0 a1 = some (.v (.tuple #[.int .i32 z0, .bool z1]))) : ok_small_Mul F a0 a1 = true ∧ o_small_Mul_0 F a0 a1 = z0 ∧ o_small_Mul_1 F a0 a1 = z1 := by
  refine ⟨?_, ?_, ?_⟩
  · unfold ok_small_Mul; rw [h]; kernel_rfl
  · unfold o_small_Mul_0; rw [h]; kernel_rfl
  · unfold o_small_Mul_1; rw [h]; kernel_rfl
def s_small_Mul (F : Nat) : List VV → Option (Bool × VV) := spec ti_small_Mul to_small_Mul (fun q => (ok_small_Mul F (atI (nth q 0)) (atI (nth q 1)))) (fun q => [.i (o_small_Mul_0 F (atI (nth q 0)) (atI (nth q 1))), .b (o_small_Mul_1 F (atI (nth q 0)) (atI (nth q 1)))])
theorem hS_small_Mul (F : Nat) : ∀ f, Good PP f (unS (S_small_Mul F f)) := words_good fun p hp => by
  simp only [List.mem_cons, List.not_mem_nil, or_false] at hp
  rcases hp with rfl | rfl
  · exact g_small_near F
  · exact g_small_clip F
theorem hl_small_Mul (F : Nat) : ∀ p ∈ loopsIn PP 74, LoopOK PP (S_small_Mul F) c_small_Mul F (I_small_Mul F) p :=
  loops_of [] (by kernel_rfl) all_nil
theorem g_small_Mul (F : Nat) : Good PP 74 (unS (s_small_Mul F)) :=
  fun_spec (hS_small_Mul F) (by kernel_rfl) (by kernel_rfl) (C := c_small_Mul) (F := fun q => (f_small_Mul F (atI (nth q 0)) (atI (nth q 1)))) (fun _ => F) (fun _ => I_small_Mul F) (fun _ => hl_small_Mul F)
    (fun q => (congrArg (funL PP (S_small_Mul F) c_small_Mul (I_small_Mul F) 74) (show (fTs ti_small_Mul q).1 = (fTs ti_small_Mul [.i (atI (nth q 0)), .i (atI (nth q 1))]).1 by kernel_rfl)).trans (e_small_Mul F (atI (nth q 0)) (atI (nth q 1))))
    (fun _ h => (okT_fill h).trans (congrArg some (by kernel_rfl)))

end Go.Xv
set_option linter.unusedVariables false
namespace Go.Xv
/- 75 _ref03_Mul -/
def c_ref03_Mul : Cfg := ⟨[0, 1, 4, 5, 6], [], [13, 14]⟩
def ti_ref03_Mul : List TV := [.v (.int .i32), .v (.int .i32)]
def to_ref03_Mul : TV := .v (.tup [.int .i32, .bool])
def S_ref03_Mul (F : Nat) : FuncId → List VV → Option (Bool × VV) := words [(41, s_ref01_Mul F), (50, s_ref01_Near F), (86, s_ref01_Clip F), (108, s_ref03_clip F)]
def W_ref03_Mul (F : Nat) : List LW := []
def I_ref03_Mul (F : Nat) : Nat → VS → (Exit → VS → R) → R := tabI c_ref03_Mul (W_ref03_Mul F)
def f_ref03_Mul (F : Nat) (a0 : Int) (a1 : Int) : R :=
  let v2279 : Int := (IntKind.wrap .i64 a0)
  let v2280 : Int := (IntKind.wrap .i64 a1)
  bif (ok_ref01_Mul F v2279 v2280) then (
    let v2281 : Int := (o_ref01_Mul_0 F v2279 v2280)
    let v2282 : Int := (o_ref01_Mul_1 F v2279 v2280)
    bif (ok_ref01_Near F v2281 v2282 16) then (
      let v2283 : Int := (o_ref01_Near_0 F v2281 v2282 16)
      let v2284 : Int := (o_ref01_Near_1 F v2281 v2282 16)
      bif (ok_ref01_Clip F v2283 v2284) then (
        let v2285 : Int := (o_ref01_Clip_0 F v2283 v2284)
        bif (ok_ref03_clip F v2285) then (
          some (.v (.tuple #[.int .i32 ((o_ref03_clip_0 F v2285)), .bool ((o_ref03_clip_1 F v2285))])))
        else (
          none))
      else (
        none))
    else (
      none))
  else (
    none)
theorem e_ref03_Mul (F : Nat) (a0 : Int) (a1 : Int) : funL PP (S_ref03_Mul F) c_ref03_Mul (I_ref03_Mul F) 75 (fTs ti_ref03_Mul [.i a0, .i a1]).1 = f_ref03_Mul F a0 a1 := by
  have h : ∀ (ok_ref01_Mul : Nat → Int → Int → Bool) (o_ref01_Mul_0 : Nat → Int → Int → Int) (o_ref01_Mul_1 : Nat → Int → Int → Int) (ok_ref01_Near : Nat → Int → Int → Int → Bool) (o_ref01_Near_0 : Nat → Int → Int → Int → Int) (o_ref01_Near_1 : Nat → Int → Int → Int → Int) (ok_ref01_Clip : Nat → Int → Int → Bool) (o_ref01_Clip_0 : Nat → Int → Int → Int) (o_ref01_Clip_1 : Nat → Int → Int → Bool) (ok_ref03_clip : Nat → Int → Bool) (o_ref03_clip_0 : Nat → Int → Int) (o_ref03_clip_1 : Nat → Int → Bool), funL PP (words [(41, spec ti_ref01_Mul to_ref01_Mul (fun q => (ok_ref01_Mul F (atI (nth q 0)) (atI (nth q 1)))) (fun q => [.i (o_ref01_Mul_0 F (atI (nth q 0)) (atI (nth q 1))), .i (o_ref01_Mul_1 F (atI (nth q 0)) (atI (nth q 1)))])), (50, spec ti_ref01_Near to_ref01_Near (fun q => (ok_ref01_Near F (atI (nth q 0)) (atI (nth q 1)) (atI (nth q 2)))) (fun q => [.i (o_ref01_Near_0 F (atI (nth q 0)) (atI (nth q 1)) (atI (nth q 2))), .i (o_ref01_Near_1 F (atI (nth q 0)) (atI (nth q 1)) (atI (nth q 2)))])), (86, spec ti_ref01_Clip to_ref01_Clip (fun q => (ok_ref01_Clip F (atI (nth q 0)) (atI (nth q 1)))) (fun q => [.i (o_ref01_Clip_0 F (atI (nth q 0)) (atI (nth q 1))), .b (o_ref01_Clip_1 F (atI (nth q 0)) (atI (nth q 1)))])), (108, spec ti_ref03_clip to_ref03_clip (fun q => (ok_ref03_clip F (atI (nth q 0)))) (fun q => [.i (o_ref03_clip_0 F (atI (nth q 0))), .b (o_ref03_clip_1 F (atI (nth q 0)))]))]) c_ref03_Mul (tabI c_ref03_Mul []) 75 (fTs ti_ref03_Mul [.i a0, .i a1]).1 = (
  let v2279 : Int := (IntKind.wrap .i64 a0)
  let v2280 : Int := (IntKind.wrap .i64 a1)
  bif (ok_ref01_Mul F v2279 v2280) then (
    let v2281 : Int := (o_ref01_Mul_0 F v2279 v2280)
    let v2282 : Int := (o_ref01_Mul_1 F v2279 v2280)
    bif (ok_ref01_Near F v2281 v2282 16) then (
      let v2283 : Int := (o_ref01_Near_0 F v2281 v2282 16)
      let v2284 : Int := (o_ref01_Near_1 F v2281 v2282 16)
      bif (ok_ref01_Clip F v2283 v2284) then (
        let v2285 : Int := (o_ref01_Clip_0 F v2283 v2284)
        bif (ok_ref03_clip F v2285) then (
          some (.v (.tuple #[.int .i32 ((o_ref03_clip_0 F v2285)), .bool ((o_ref03_clip_1 F v2285))])))
        else (
          none))
      else (
        none))
    else (
      none))
  else (
    none) : R) := by
    intros
    kernel_rfl
  exact (h ok_ref01_Mul o_ref01_Mul_0 o_ref01_Mul_1 ok_ref01_Near o_ref01_Near_0 o_ref01_Near_1 ok_ref01_Clip o_ref01_Clip_0 o_ref01_Clip_1 ok_ref03_clip o_ref03_clip_0 o_ref03_clip_1).trans (by kernel_rfl)
def ok_ref03_Mul (F : Nat) (a0 : Int) (a1 : Int) : Bool := okT to_ref03_Mul (f_ref03_Mul F a0 a1)
def o_ref03_Mul_0 (F : Nat) (a0 : Int) (a1 : Int) : Int := atI (nth (outT to_ref03_Mul (f_ref03_Mul F a0 a1)) 0)
def o_ref03_Mul_1 (F : Nat) (a0 : Int) (a1 : Int) : Bool := atB (nth (outT to_ref03_Mul (f_ref03_Mul F a0 a1)) 1)
theorem k_ref03_Mul (F : Nat) (a0 : Int) (a1 : Int) {z0 : Int} {z1 : Bool} (h : f_ref03_Mul F a0 a1 = some (.v (.tuple #[.int .i32 z0, .bool z1]))) : ok_ref03_Mul F a0 a1 = true ∧ o_ref03_Mul_0 F a0 a1 = z0 ∧ o_ref03_Mul_1 F a0 a1 = z1 := by
  refine ⟨?_, ?_, ?_⟩
  · unfold ok_ref03_Mul; rw [h]; kernel_rfl
  · unfold o_ref03_Mul_0; rw [h]; kernel_rfl
  · unfold o_ref03_Mul_1; rw [h]; kernel_rfl
def s_ref03_Mul (F : Nat) : List VV → Option (Bool × VV) := spec ti_ref03_Mul to_ref03_Mul (fun q => (ok_ref03_Mul F (atI (nth q 0)) (atI (nth q 1)))) (fun q => [.i (o_ref03_Mul_0 F (atI (nth q 0)) (atI (nth q 1))), .b (o_ref03_Mul_1 F (atI (nth q 0)) (atI (nth q 1)))])
theorem hS_ref03_Mul (F : Nat) : ∀ f, Good PP f (unS (S_ref03_Mul F f)) := words_good fun p hp => by
  simp only [List.mem_cons, List.not_mem_nil, or_false] at hp
  rcases hp with rfl | rfl | rfl | rfl
  · exact g_ref01_Mul F
  · exact g_ref01_Near F
  · exact g_ref01_Clip F
  · exact g_ref03_clip F
theorem hl_ref03_Mul (F : Nat) : ∀ p ∈ loopsIn PP 75, LoopOK PP (S_ref03_Mul F) c_ref03_Mul F (I_ref03_Mul F) p :=
  loops_of [] (by kernel_rfl) all_nil
theorem g_ref03_Mul (F : Nat) : Good PP 75 (unS (s_ref03_Mul F)) :=
  fun_spec (hS_ref03_Mul F) (by kernel_rfl) (by kernel_rfl) (C := c_ref03_Mul) (F := fun q => (f_ref03_Mul F (atI (nth q 0)) (atI (nth q 1)))) (fun _ => F) (fun _ => I_ref03_Mul F) (fun _ => hl_ref03_Mul F)
    (fun q => (congrArg (funL PP (S_ref03_Mul F) c_ref03_Mul (I_ref03_Mul F) 75) (show (fTs ti_ref03_Mul q).1 = (fTs ti_ref03_Mul [.i (atI (nth q 0)), .i (atI (nth q 1))]).1 by kernel_rfl)).trans (e_ref03_Mul F (atI (nth q 0)) (atI (nth q 1))))
    (fun _ h => (okT_fill h).trans (congrArg some (by kernel_rfl)))

end Go.Xv
set_option linter.unusedVariables false
namespace Go.Xv
/- 76 _small_Times -/
def c_small_Times : Cfg := ⟨[0, 1, 4, 5], [], [7]⟩
def ti_small_Times : List TV := [.v (.int .i32), .v (.int .i64)]
def to_small_Times : TV := .v (.tup [.int .i64, .bool])
def S_small_Times (F : Nat) : FuncId → List VV → Option (Bool × VV) := words [(39, s_small_Widen F), (70, s_fix_Mul F)]
def W_small_Times (F : Nat) : List LW := []
def I_small_Times (F : Nat) : Nat → VS → (Exit → VS → R) → R := tabI c_small_Times (W_small_Times F)
def f_small_Times (F : Nat) (a0 : Int) (a1 : Int) : R :=
  bif (ok_small_Widen F a0) then (
    let v2291 : Int := (o_small_Widen_0 F a0)
    bif (ok_fix_Mul F v2291 a1) then (
      some (.v (.tuple #[.int .i64 ((o_fix_Mul_0 F v2291 a1)), .bool ((o_fix_Mul_1 F v2291 a1))])))
    else (
      none))
  else (
    none)
theorem e_small_Times (F : Nat) (a0 : Int) (a1 : Int) : funL PP (S_small_Times F) c_small_Times (I_small_Times F) 76 (fTs ti_small_Times [.i a0, .i a1]).1 = f_small_Times F a0 a1 := by
  have h : ∀ (ok_small_Widen : Nat → Int → Bool) (o_small_Widen_0 : Nat → Int → Int) (ok_fix_Mul : Nat → Int → Int → Bool) (o_fix_Mul_0 : Nat → Int → Int → Int) (o_fix_Mul_1 : Nat → Int → Int → Bool), funL PP (words [(39, spec ti_small_Widen to_small_Widen (fun q => (ok_small_Widen F (atI (nth q 0)))) (fun q => [.i (o_small_Widen_0 F (atI (nth q 0)))])), (70, spec ti_fix_Mul to_fix_Mul (fun q => (ok_fix_Mul F (atI (nth q 0)) (atI (nth q 1)))) (fun q => [.i (o_fix_Mul_0 F (atI (nth q 0)) (atI (nth q 1))), .b (o_fix_Mul_1 F (atI (nth q 0)) (atI (nth q 1)))]))]) c_small_Times (tabI c_small_Times []) 76 (fTs ti_small_Times [.i a0, .i a1]).1 = (
  bif (ok_small_Widen F a0) then (
    let v2291 : Int := (o_small_Widen_0 F a0)
    bif (ok_fix_Mul F v2291 a1) then (
      some (.v (.tuple #[.int .i64 ((o_fix_Mul_0 F v2291 a1)), .bool ((o_fix_Mul_1 F v2291 a1))])))
    else (
      none))
  else (
    none) : R) := by
    intros
    kernel_rfl
  exact (h ok_small_Widen o_small_Widen_0 ok_fix_Mul o_fix_Mul_0 o_fix_Mul_1).trans (by kernel_rfl)
def ok_small_Times (F : Nat) (a0 : Int) (a1 : Int) : Bool := okT to_small_Times (f_small_Times F a0 a1)
def o_small_Times_0 (F : Nat) (a0 : Int) (a1 : Int) : Int := atI (nth (outT to_small_Times (f_small_Times F a0 a1)) 0)
def o_small_Times_1 (F : Nat) (a0 : Int) (a1 : Int) : Bool := atB (nth (outT to_small_Times (f_small_Times F a0 a1)) 1)
theorem k_small_Times (F : Nat) (a0 : Int) (a1 : Int) {z0 : Int} {z1 : Bool} (h : f_small_Times F a0 a1 = some (.v (.tuple #[.int .i64 z0, .bool z1]))) : ok_small_Times F a0 a1 = true ∧ o_small_Times_0 F a0 a1 = z0 ∧ o_small_Times_1 F a0 a1 = z1 := by
  refine ⟨?_, ?_, ?_⟩
  · unfold ok_small_Times; rw [h]; kernel_rfl
  · unfold o_small_Times_0; rw [h]; kernel_rfl
  · unfold o_small_Times_1; rw [h]; kernel_rfl
def s_small_Times (F : Nat) : List VV → Option (Bool × VV) := spec ti_small_Times to_small_Times (fun q => (ok_small_Times F (atI (nth q 0)) (atI (nth q 1)))) (fun q => [.i (o_small_Times_0 F (atI (nth q 0)) (atI (nth q 1))), .b (o_small_Times_1 F (atI (nth q 0)) (atI (nth q 1)))])
theorem hS_small_Times (F : Nat) : ∀ f, Good PP f (unS (S_small_Times F f)) := words_good fun p hp => by
  simp only [List.mem_cons, List.not_mem_nil, or_false] at hp
  rcases hp with rfl | rfl
  · exact g_small_Widen F
  · exact g_fix_Mul F
theorem hl_small_Times (F : Nat) : ∀ p ∈ loopsIn PP 76, LoopOK PP (S_small_Times F) c_small_Times F (I_small_Times F) p :=
  loops_of [] (by kernel_rfl) all_nil
theorem g_small_Times (F : Nat) : Good PP 76 (unS (s_small_Times F)) :=
  fun_spec (hS_small_Times F) (by kernel_rfl) (by kernel_rfl) (C := c_small_Times) (F := fun q => (f_small_Times F (atI (nth q 0)) (atI (nth q 1)))) (fun _ => F) (fun _ => I_small_Times F) (fun _ => hl_small_Times F)
    (fun q => (congrArg (funL PP (S_small_Times F) c_small_Times (I_small_Times F) 76) (show (fTs ti_small_Times q).1 = (fTs ti_small_Times [.i (atI (nth q 0)), .i (atI (nth q 1))]).1 by kernel_rfl)).trans (e_small_Times F (atI (nth q 0)) (atI (nth q 1))))
    (fun _ h => (okT_fill h).trans (congrArg some (by kernel_rfl)))

end Go.Xv
set_option linter.unusedVariables false
namespace Go.Xv
/- 78 _ref03_Widen -/
def c_ref03_Widen : Cfg := ⟨[0, 2], [], []⟩
def ti_ref03_Widen : List TV := [.v (.int .i32)]
def to_ref03_Widen : TV := .v (.int .i64)
def S_ref03_Widen (F : Nat) : FuncId → List VV → Option (Bool × VV) := words []
def W_ref03_Widen (F : Nat) : List LW := []
def I_ref03_Widen (F : Nat) : Nat → VS → (Exit → VS → R) → R := tabI c_ref03_Widen (W_ref03_Widen F)
def f_ref03_Widen (F : Nat) (a0 : Int) : R :=
  some (.v (.int .i64 ((IntKind.wrap .i64 (65536 * ((IntKind.wrap .i64 a0)))))))
theorem e_ref03_Widen (F : Nat) (a0 : Int) : funL PP (S_ref03_Widen F) c_ref03_Widen (I_ref03_Widen F) 78 (fTs ti_ref03_Widen [.i a0]).1 = f_ref03_Widen F a0 := by
  have h : ∀ (_ : Unit), funL PP (words []) c_ref03_Widen (tabI c_ref03_Widen []) 78 (fTs ti_ref03_Widen [.i a0]).1 = (
  some (.v (.int .i64 ((IntKind.wrap .i64 (65536 * ((IntKind.wrap .i64 a0))))))) : R) := by
    intros
    kernel_rfl
  exact (h ()).trans (by kernel_rfl)
def ok_ref03_Widen (F : Nat) (a0 : Int) : Bool := okT to_ref03_Widen (f_ref03_Widen F a0)
def o_ref03_Widen_0 (F : Nat) (a0 : Int) : Int := atI (nth (outT to_ref03_Widen (f_ref03_Widen F a0)) 0)
theorem k_ref03_Widen (F : Nat) (a0 : Int) {z0 : Int} (h : f_ref03_Widen F a0 = some (.v (.int .i64 z0))) : ok_ref03_Widen F a0 = true ∧ o_ref03_Widen_0 F a0 = z0 := by
  refine ⟨?_, ?_⟩
  · unfold ok_ref03_Widen; rw [h]; kernel_rfl
  · unfold o_ref03_Widen_0; rw [h]; kernel_rfl
def s_ref03_Widen (F : Nat) : List VV → Option (Bool × VV) := spec ti_ref03_Widen to_ref03_Widen (fun q => (ok_ref03_Widen F (atI (nth q 0)))) (fun q => [.i (o_ref03_Widen_0 F (atI (nth q 0)))])
theorem hS_ref03_Widen (F : Nat) : ∀ f, Good PP f (unS (S_ref03_Widen F f)) := words_good fun p hp => by
  cases hp
theorem hl_ref03_Widen (F : Nat) : ∀ p ∈ loopsIn PP 78, LoopOK PP (S_ref03_Widen F) c_ref03_Widen F (I_ref03_Widen F) p :=
  loops_of [] (by kernel_rfl) all_nil
theorem g_ref03_Widen (F : Nat) : Good PP 78 (unS (s_ref03_Widen F)) :=
  fun_spec (hS_ref03_Widen F) (by kernel_rfl) (by kernel_rfl) (C := c_ref03_Widen) (F := fun q => (f_ref03_Widen F (atI (nth q 0)))) (fun _ => F) (fun _ => I_ref03_Widen F) (fun _ => hl_ref03_Widen F)
    (fun q => (congrArg (funL PP (S_ref03_Widen F) c_ref03_Widen (I_ref03_Widen F) 78) (show (fTs ti_ref03_Widen q).1 = (fTs ti_ref03_Widen [.i (atI (nth q 0))]).1 by kernel_rfl)).trans (e_ref03_Widen F (atI (nth q 0))))
    (fun _ h => (okT_fill h).trans (congrArg some (by kernel_rfl)))

end Go.Xv
set_option linter.unusedVariables false
namespace Go.Xv
/- 77 _ref03_Times -/
def c_ref03_Times : Cfg := ⟨[0, 1, 4, 5], [], [7]⟩
def ti_ref03_Times : List TV := [.v (.int .i32), .v (.int .i64)]
def to_ref03_Times : TV := .v (.tup [.int .i64, .bool])
def S_ref03_Times (F : Nat) : FuncId → List VV → Option (Bool × VV) := words [(78, s_ref03_Widen F), (96, s_ref02_Mul F)]
def W_ref03_Times (F : Nat) : List LW := []
def I_ref03_Times (F : Nat) : Nat → VS → (Exit → VS → R) → R := tabI c_ref03_Times (W_ref03_Times F)
def f_ref03_Times (F : Nat) (a0 : Int) (a1 : Int) : R :=
  bif (ok_ref03_Widen F a0) then (
    let v2298 : Int := (o_ref03_Widen_0 F a0)
    bif (ok_ref02_Mul F v2298 a1) then (
      some (.v (.tuple #[.int .i64 ((o_ref02_Mul_0 F v2298 a1)), .bool ((o_ref02_Mul_1 F v2298 a1))])))
    else (
      none))
  else (
    none)
theorem e_ref03_Times (F : Nat) (a0 : Int) (a1 : Int) : funL PP (S_ref03_Times F) c_ref03_Times (I_ref03_Times F) 77 (fTs ti_ref03_Times [.i a0, .i a1]).1 = f_ref03_Times F a0 a1 := by
  have h : ∀ (ok_ref03_Widen : Nat → Int → Bool) (o_ref03_Widen_0 : Nat → Int → Int) (ok_ref02_Mul : Nat → Int → Int → Bool) (o_ref02_Mul_0 : Nat → Int → Int → Int) (o_ref02_Mul_1 : Nat → Int → Int → Bool), funL PP (words [(78, spec ti_ref03_Widen to_ref03_Widen (fun q => (ok_ref03_Widen F (atI (nth q 0)))) (fun q => [.i (o_ref03_Widen_0 F (atI (nth q 0)))])), (96, spec ti_ref02_Mul to_ref02_Mul (fun q => (ok_ref02_Mul F (atI (nth q 0)) (atI (nth q 1)))) (fun q => [.i (o_ref02_Mul_0 F (atI (nth q 0)) (atI (nth q 1))), .b (o_ref02_Mul_1 F (atI (nth q 0)) (atI (nth q 1)))]))]) c_ref03_Times (tabI c_ref03_Times []) 77 (fTs ti_ref03_Times [.i a0, .i a1]).1 = (
  bif (ok_ref03_Widen F a0) then (
    let v2298 : Int := (o_ref03_Widen_0 F a0)
    bif (ok_ref02_Mul F v2298 a1) then (
      some (.v (.tuple #[.int .i64 ((o_ref02_Mul_0 F v2298 a1)), .bool ((o_ref02_Mul_1 F v2298 a1))])))
    else (
      none))
  else (
    none) : R) := by
    intros
    kernel_rfl
  exact (h ok_ref03_Widen o_ref03_Widen_0 ok_ref02_Mul o_ref02_Mul_0 o_ref02_Mul_1).trans (by kernel_rfl)
def ok_ref03_Times (F : Nat) (a0 : Int) (a1 : Int) : Bool := okT to_ref03_Times (f_ref03_Times F a0 a1)
def o_ref03_Times_0 (F : Nat) (a0 : Int) (a1 : Int) : Int := atI (nth (outT to_ref03_Times (f_ref03_Times F a0 a1)) 0)
def o_ref03_Times_1 (F : Nat) (a0 : Int) (a1 : Int) : Bool := atB (nth (outT to_ref03_Times (f_ref03_Times F a0 a1)) 1)
theorem k_ref03_Times (F : Nat) (a0 : Int) (a1 : Int) {z0 : Int} {z1 : Bool} (h : f_ref03_Times F a0 a1 = some (.v (.tuple #[.int .i64 z0, .bool z1]))) : ok_ref03_Times F a0 a1 = true ∧ o_ref03_Times_0 F a0 a1 = z0 ∧ o_ref03_Times_1 F a0 a1 = z1 := by
  refine ⟨?_, ?_, ?_⟩
  · unfold ok_ref03_Times; rw [h]; kernel_rfl
  · unfold o_ref03_Times_0; rw [h]; kernel_rfl
  · unfold o_ref03_Times_1; rw [h]; kernel_rfl
def s_ref03_Times (F : Nat) : List VV → Option (Bool × VV) := spec ti_ref03_Times to_ref03_Times (fun q => (ok_ref03_Times F (atI (nth q 0)) (atI (nth q 1)))) (fun q => [.i (o_ref03_Times_0 F (atI (nth q 0)) (atI (nth q 1))), .b (o_ref03_Times_1 F (atI (nth q 0)) (atI (nth q 1)))])
theorem hS_ref03_Times (F : Nat) : ∀ f, Good PP f (unS (S_ref03_Times F f)) := words_good fun p hp => by
  simp only [List.mem_cons, List.not_mem_nil, or_false] at hp
  rcases hp with rfl | rfl
  · exact g_ref03_Widen F
  · exact g_ref02_Mul F
theorem hl_ref03_Times (F : Nat) : ∀ p ∈ loopsIn PP 77, LoopOK PP (S_ref03_Times F) c_ref03_Times F (I_ref03_Times F) p :=
  loops_of [] (by kernel_rfl) all_nil
theorem g_ref03_Times (F : Nat) : Good PP 77 (unS (s_ref03_Times F)) :=
  fun_spec (hS_ref03_Times F) (by kernel_rfl) (by kernel_rfl) (C := c_ref03_Times) (F := fun q => (f_ref03_Times F (atI (nth q 0)) (atI (nth q 1)))) (fun _ => F) (fun _ => I_ref03_Times F) (fun _ => hl_ref03_Times F)
    (fun q => (congrArg (funL PP (S_ref03_Times F) c_ref03_Times (I_ref03_Times F) 77) (show (fTs ti_ref03_Times q).1 = (fTs ti_ref03_Times [.i (atI (nth q 0)), .i (atI (nth q 1))]).1 by kernel_rfl)).trans (e_ref03_Times F (atI (nth q 0)) (atI (nth q 1))))
    (fun _ h => (okT_fill h).trans (congrArg some (by kernel_rfl)))

end Go.Xv
namespace Go.Xv
theorem mask1_i64 {a : Int} (ha : I64 a) : andI .i64 a 1 = a % 2 := by
  have e : (BitVec.ofInt 64 1).toNat = 1 := by decide
  rw [and_i64_bv, BitVec.toNat_and, bvI64 ha, e, Nat.and_one_is_mod, wi64]
  omega
theorem tq_neg {x : Int} (h : x < 0) (d : Int) : Int.tdiv x d = -Int.tdiv (-x) d ∧ Int.tmod x d = -Int.tmod (-x) d := by
  rw [Int.neg_tdiv, Int.neg_tmod]; omega
/-- toward 0, by a hundred -/
theorem tq100 (x : Int) : (0 ≤ x → Int.tdiv x 100 = x / 100 ∧ Int.tmod x 100 = x % 100) ∧ (x < 0 → Int.tdiv x 100 = -(-x / 100) ∧ Int.tmod x 100 = -(-x % 100)) := by
  constructor
  · intro h
    exact ⟨Int.tdiv_eq_ediv_of_nonneg h, Int.tmod_eq_emod_of_nonneg h⟩
  · intro h
    obtain ⟨h1, h2⟩ := tq_neg h 100
    rw [h1, h2, Int.tdiv_eq_ediv_of_nonneg (by omega), Int.tmod_eq_emod_of_nonneg (by omega)]
    exact ⟨rfl, rfl⟩
def tk (n : Int) : Int := if 65535 < (if 0 > n then 0 else n) then 65535 else (if 0 > n then 0 else n)
theorem tk_bd (n : Int) : 0 ≤ tk n ∧ tk n ≤ 65535 := by unfold tk; split <;> split <;> omega
theorem tk_mul {a : Int} (ha : I32 a) (n : Int) : -140737488355328 ≤ a * tk n ∧ a * tk n ≤ 140737488355328 := by
  unfold I32 at ha
  have h := tk_bd n
  have : (a * tk n).natAbs ≤ 2147483648 * 65536 := by
    rw [Int.natAbs_mul]
    exact Nat.mul_le_mul (by omega) (by omega)
  omega
def turnV (x : Int) : Int := (x * 65536 / 100) % 4294967296
theorem some_u32 {a b : Int} (h : a = b) : (some (VV.v (.int .u32 a)) : R) = some (.v (.int .u32 b)) := by rw [h]
theorem turn_put {x w r : Int} (h : x = 100 * w + r) (h1 : 0 ≤ r) (h2 : r < 100) (hw : -140737488355328 ≤ w ∧ w ≤ 140737488355328) : IntKind.wrap .u32 (IntKind.wrap .u32 (IntKind.wrap .u32 (IntKind.wrap .i64 w) * 65536) + IntKind.wrap .u32 (r * 65536 / 100)) = turnV x := by
  have e : x * 65536 / 100 = 65536 * w + r * 65536 / 100 := by omega
  unfold turnV
  rw [e, wi64_in (by unfold I64; omega)]
  simp only [wu32]
  generalize r * 65536 / 100 = s
  omega
theorem f_Turn (F : Nat) {a n : Int} (ha : I32 a) : f_small_Turn F a n = some (.v (.int .u32 (turnV (a * tk n)))) := by
  unfold f_small_Turn
  have hb := tk_mul ha n
  have hb2 := tk_bd n
  have e : (if 65535 < (if 0 > n then 0 else n) then 65535 else (if 0 > n then 0 else n)) = tk n := rfl
  dsimp only
  rw [e, wi64_in (x := a) (by unfold I32 at ha; unfold I64; omega), wi64_in (x := a * tk n) (by unfold I64; omega)]
  generalize a * tk n = x at *
  obtain ⟨q1, q2⟩ := tq100 x
  have hr : ∀ y : Int, 0 ≤ y → y ≤ 6553600 → IntKind.wrap .i64 (Int.tdiv (IntKind.wrap .i64 y) 100) = y / 100 := by
    intro y h1 h2
    rw [wi64_in (x := y) (by unfold I64; omega), Int.tdiv_eq_ediv_of_nonneg h1, wi64_in (by unfold I64; omega)]
  rcases Int.lt_or_le x 0 with hx | hx
  · obtain ⟨h1, h2⟩ := q2 hx
    rw [h1, h2]
    by_cases h0 : -(-x % 100) < 0
    · refine bp (dt h0) (some_u32 ?_)
      rw [wi64_in (x := -(-x % 100) + 100) (by unfold I64; omega), hr _ (by omega) (by omega), wi64_in (x := -(-x / 100)) (by unfold I64; omega)]
      exact turn_put (by omega) (by omega) (by omega) (by omega)
    · refine bn (df h0) (some_u32 ?_)
      rw [hr _ (by omega) (by omega)]
      exact turn_put (by omega) (by omega) (by omega) (by omega)
  · obtain ⟨h1, h2⟩ := q1 hx
    rw [h1, h2]
    refine bn (df (by omega)) (some_u32 ?_)
    rw [hr _ (by omega) (by omega)]
    exact turn_put (by omega) (by omega) (by omega) (by omega)
theorem a_Turn (F : Nat) {a : Int} (n : Int) (ha : I32 a) : ok_small_Turn F a n = true ∧ o_small_Turn_0 F a n = turnV (a * tk n) := k_small_Turn F _ _ (f_Turn F ha)
theorem f_rTurn (F : Nat) (hF : 200 ≤ F) {a n : Int} (ha : I32 a) : f_ref03_Turn F a n = some (.v (.int .u32 (turnV (a * tk n)))) := by
  unfold f_ref03_Turn
  have hb := tk_mul ha n
  have hb2 := tk_bd n
  have e : (if 65535 < (if 0 > n then 0 else n) then 65535 else (if 0 > n then 0 else n)) = tk n := rfl
  dsimp only
  have hI : I64 a := by unfold I32 at ha; unfold I64; omega
  rw [e, wi64_in hI]
  obtain ⟨m1, m2, m3⟩ := a_rMul F hF hI (b := tk n) (by unfold I64; omega)
  obtain ⟨l1, l2, l3⟩ := a_rLeft F hF (a * tk n) 16
  rw [show ((16 : Int).toNat) = 16 from rfl, show (2 : Int) ^ 16 = 65536 by decide] at l2 l3
  have hd := f_rDiv F hF (hi_I (a * tk n * 65536)) (lo_U (a * tk n * 65536)) (b := 100) (by unfold I64; omega)
  rw [val_hl, W_in (by unfold W128; omega)] at hd
  unfold divR at hd
  rw [if_neg (by decide)] at hd
  obtain ⟨d1, d2, d3, d4, d5⟩ := k_ref01_Div F _ _ _ hd
  refine bp m1 ?_
  rw [m2, m3]
  refine bp l1 ?_
  rw [l2, l3]
  refine bp d1 ?_
  rw [d3, d4]
  clear hd d1 d2 d3 d4 d5 l1 l2 l3 m1 m2 m3
  generalize a * tk n = x at *
  obtain ⟨q1, q2⟩ := tq100 (x * 65536)
  have hl := lo_U (Int.tdiv (x * 65536) 100)
  unfold U64 at hl
  have hlo : ∀ q : Int, lo q % 4294967296 = q % 4294967296 := by intro q; unfold lo; omega
  rw [Int.tmod_eq_emod_of_nonneg hl.1, hlo]
  unfold turnV
  generalize x * 65536 = y at *
  rcases Int.lt_or_le y 0 with hx | hx
  · obtain ⟨h1, h2⟩ := q2 hx
    rw [h1, h2]
    by_cases h0 : -(-y % 100) < 0
    · refine bp (dt h0) (some_u32 ?_)
      simp only [wu32]
      omega
    · refine bn (df h0) (some_u32 ?_)
      simp only [wu32]
      omega
  · obtain ⟨h1, h2⟩ := q1 hx
    rw [h1, h2]
    refine bn (df (by omega)) (some_u32 ?_)
    simp only [wu32]
    omega
/-! short numbers -/
def near16 (z : Int) : Int := z / 65536 + z / 32768 % 2
theorem near16_eq (z : Int) : near z 16 = near16 z := by
  unfold near near16
  rw [if_neg (by decide), show (2 : Int) ^ 16 = 65536 by decide, show (2 : Int) ^ (16 - 1) = 32768 by decide]
theorem f_snear (F : Nat) {z : Int} (h : I64 z) : f_small_near F z = some (.v (.int .i64 (near16 z))) := by
  unfold f_small_near
  refine some_int ?_
  unfold I64 at h
  rw [fdiv_pos _ (by decide), fdiv_pos _ (by decide), mask1_i64 (by unfold I64; omega), wi64]
  unfold near16; omega
theorem a_snear (F : Nat) {z : Int} (h : I64 z) : ok_small_near F z = true ∧ o_small_near_0 F z = near16 z := k_small_near F _ (f_snear F h)
def sclV (z : Int) : Int := if z < -2147483648 then -2147483648 else if 2147483647 < z then 2147483647 else z
def sclC (z : Int) : Bool := decide (z < -2147483648 ∨ 2147483647 < z)
abbrev sp (z : Int) : VV := .v (.tuple #[.int .i32 (sclV z), .bool (sclC z)])
theorem some_sp {n : Int} {c : Bool} {z : Int} (h : n = sclV z) (k : c = sclC z) : (some (VV.v (.tuple #[.int .i32 n, .bool c])) : R) = some (sp z) := by rw [h, k]
theorem sclV_I (z : Int) : I32 (sclV z) := by unfold I32 sclV; split <;> (try split) <;> omega
theorem f_sclip (F : Nat) (z : Int) : f_small_clip F z = some (sp z) := by
  unfold f_small_clip
  dsimp only
  have e : (if 2147483647 < (if (-2147483648) > z then (-2147483648) else z) then 2147483647 else (if (-2147483648) > z then (-2147483648) else z)) = sclV z := by
    unfold sclV; split <;> (try split) <;> (try split) <;> omega
  rw [e]
  refine some_sp ?_ ?_
  · exact wi32_in (sclV_I z)
  · unfold sclC
    rw [Bool.eq_iff_iff, bne_iff_ne, decide_eq_true_eq]
    unfold sclV; split <;> (try split) <;> omega
theorem a_sclip (F : Nat) (z : Int) : ok_small_clip F z = true ∧ o_small_clip_0 F z = sclV z ∧ o_small_clip_1 F z = sclC z := k_small_clip F _ (f_sclip F z)
theorem f_Narrow (F : Nat) {z : Int} (h : I64 z) : f_small_Narrow F z = some (sp (near16 z)) := by
  unfold f_small_Narrow
  obtain ⟨h1, h2⟩ := a_snear F h
  obtain ⟨c1, c2, c3⟩ := a_sclip F (near16 z)
  refine bp h1 ?_
  rw [h2]
  refine bp c1 ?_
  rw [c2, c3]
theorem a_Narrow (F : Nat) {z : Int} (h : I64 z) : ok_small_Narrow F z = true ∧ o_small_Narrow_0 F z = sclV (near16 z) ∧ o_small_Narrow_1 F z = sclC (near16 z) := k_small_Narrow F _ (f_Narrow F h)
/-- a byte of a number -/
def by8 (z d : Int) : Int := z / d % 256
theorem f_Put (F : Nat) {a : Int} : f_small_Put F a = some (.v (.agg #[.int .u8 (by8 a 16777216), .int .u8 (by8 a 65536), .int .u8 (by8 a 256), .int .u8 (by8 a 1)])) := by
  unfold f_small_Put
  dsimp only
  rw [fdiv_pos _ (by decide), fdiv_pos _ (by decide), fdiv_pos _ (by decide)]
  simp only [wu32, wu8]
  have e1 : a % 4294967296 / 16777216 % 256 = by8 a 16777216 := by unfold by8; omega
  have e2 : a % 4294967296 / 65536 % 256 = by8 a 65536 := by unfold by8; omega
  have e3 : a % 4294967296 / 256 % 256 = by8 a 256 := by unfold by8; omega
  have e4 : a % 4294967296 % 256 = by8 a 1 := by unfold by8; omega
  rw [e1, e2, e3, e4]
theorem a_Put (F : Nat) (a : Int) : ok_small_Put F a = true ∧ o_small_Put_0 F a = by8 a 16777216 ∧ o_small_Put_1 F a = by8 a 65536 ∧ o_small_Put_2 F a = by8 a 256 ∧ o_small_Put_3 F a = by8 a 1 := k_small_Put F _ (f_Put F)
theorem f_same (F : Nat) (l : List VV) (n : Nat) (h1 : (byteL (l.take n)).1 = true) (h2 : n ≤ l.length) : f_base_SameBytes F l n l n = some (.v (.bool true)) := by
  unfold f_base_SameBytes
  rw [List.drop_zero]
  have e : (((byteL (l.take n)).1 && true) && (decide (n ≤ l.length))) = true := by rw [h1, dt h2]; rfl
  exact bp e (bp e (some_bool BEq.rfl))
theorem a_same (F : Nat) (l : List VV) (n : Nat) (h1 : (byteL (l.take n)).1 = true) (h2 : n ≤ l.length) : ok_base_SameBytes F l n l n = true ∧ o_base_SameBytes_0 F l n l n = true := k_base_SameBytes F _ _ _ _ (f_same F l n h1 h2)
theorem f_works03 (F : Nat) : f_law03_works F = some (.v (.bool true)) := by
  unfold f_law03_works
  obtain ⟨n1, n2, n3⟩ := a_Narrow F (z := 4294967296) (by unfold I64; omega)
  obtain ⟨p1, p2, p3, p4, p5⟩ := a_Put F (-2)
  obtain ⟨t1, t2⟩ := a_Turn F (a := 65536) 50 (by unfold I32; omega)
  dsimp only
  have e1 : by8 (-2) 16777216 = 255 := by decide
  have e2 : by8 (-2) 65536 = 255 := by decide
  have e3 : by8 (-2) 256 = 255 := by decide
  have e4 : by8 (-2) 1 = 254 := by decide
  rw [p2, p3, p4, p5, e1, e2, e3, e4]
  obtain ⟨s1, s2⟩ := a_same F [.v (.int .u8 255), .v (.int .u8 255), .v (.int .u8 255), .v (.int .u8 254)] 4 rfl (by decide)
  refine bp n1 (bp p1 (bp ?_ (bp ?_ (bp t1 (bp ?_ (bp s1 ?_))))))
  · rw [n2]; decide
  · rw [n3]; decide
  · rw [t2]; decide
  · rw [s2]
theorem a_works03 (F : Nat) : ok_law03_works F = true ∧ o_law03_works_0 F = true := k_law03_works F (f_works03 F)
end Go.Xv
namespace Go.Xv
theorem I32_64 {a : Int} (h : I32 a) : I64 a := by unfold I32 at h; unfold I64; omega
theorem w16 {a : Int} (h : I32 a) : I64 (a * 65536) := by unfold I32 at h; unfold I64; omega
theorem f_Widen (F : Nat) {a : Int} (ha : I32 a) : f_small_Widen F a = some (.v (.int .i64 (a * 65536))) := by
  unfold f_small_Widen
  rw [wi64_in (I32_64 ha), wi64_in (w16 ha)]
theorem a_Widen (F : Nat) {a : Int} (ha : I32 a) : ok_small_Widen F a = true ∧ o_small_Widen_0 F a = a * 65536 := k_small_Widen F _ (f_Widen F ha)
theorem f_rWiden (F : Nat) {a : Int} (ha : I32 a) : f_ref03_Widen F a = some (.v (.int .i64 (a * 65536))) := by
  unfold f_ref03_Widen
  rw [wi64_in (I32_64 ha), Int.mul_comm, wi64_in (w16 ha)]
theorem f_r3clip (F : Nat) (z : Int) : f_ref03_clip F z = some (sp z) := by
  unfold f_ref03_clip
  by_cases h : 2147483647 < z
  · refine bp (dt h) (some_sp ?_ ?_)
    · unfold sclV; rw [if_neg (by omega), if_pos h]
    · unfold sclC; exact (dt (.inr h)).symm
  · refine bn (df h) ?_
    by_cases h2 : z < -2147483648
    · refine bp (dt h2) (some_sp ?_ ?_)
      · unfold sclV; rw [if_pos h2]
      · unfold sclC; exact (dt (.inl h2)).symm
    · refine bn (df h2) (some_sp ?_ ?_)
      · unfold sclV
        rw [if_neg h2, if_neg h, wi32_in]
        unfold I32; omega
      · unfold sclC; exact (df (by omega)).symm
theorem a_r3clip (F : Nat) (z : Int) : ok_ref03_clip F z = true ∧ o_ref03_clip_0 F z = sclV z ∧ o_ref03_clip_1 F z = sclC z := k_ref03_clip F _ (f_r3clip F z)
theorem cl16 : cl 16 = 16 := by decide
theorem r3near (F : Nat) (hF : 200 ≤ F) {z : Int} (h : -9223372036854775808 ≤ z ∧ z ≤ 9223372036854775808) :
    ok_ref01_Near F (hi z) (lo z) 16 = true ∧ ok_ref01_Clip F (o_ref01_Near_0 F (hi z) (lo z) 16) (o_ref01_Near_1 F (hi z) (lo z) 16) = true ∧
    o_ref01_Clip_0 F (o_ref01_Near_0 F (hi z) (lo z) 16) (o_ref01_Near_1 F (hi z) (lo z) 16) = near16 z := by
  obtain ⟨n1, n2, n3⟩ := a_rNear F hF 16 (x := z) (by unfold W128; omega)
  rw [cl16, near16_eq] at n2 n3
  have hI : I64 (near16 z) := by unfold near16 I64; omega
  obtain ⟨c1, c2, c3⟩ := a_rClip F (I64_W hI)
  rw [n2, n3]
  exact ⟨n1, c1, c2.trans (clip_in hI).1⟩
theorem f_rNarrow (F : Nat) (hF : 200 ≤ F) {z : Int} (h : I64 z) : f_ref03_Narrow F z = some (sp (near16 z)) := by
  unfold f_ref03_Narrow
  dsimp only
  obtain ⟨o1, o2, o3⟩ := a_rOf F h
  obtain ⟨n1, n2, n3⟩ := r3near F hF (z := z) (by unfold I64 at h; omega)
  obtain ⟨c1, c2, c3⟩ := a_r3clip F (near16 z)
  rw [o2, o3]
  refine bp o1 (bp n1 (bp n2 ?_))
  rw [n3]
  refine bp c1 ?_
  rw [c2, c3]
theorem f_sAdd (F : Nat) {a b : Int} (ha : I32 a) (hb : I32 b) : f_small_Add F a b = some (sp (a + b)) := by
  unfold f_small_Add
  obtain ⟨c1, c2, c3⟩ := a_sclip F (a + b)
  rw [wi64_in (I32_64 ha), wi64_in (I32_64 hb), wi64_in (x := a + b) (by unfold I32 at *; unfold I64; omega)]
  refine bp c1 ?_
  rw [c2, c3]
theorem f_r3Add (F : Nat) {a b : Int} (ha : I32 a) (hb : I32 b) : f_ref03_Add F a b = some (sp (a + b)) := by
  unfold f_ref03_Add
  obtain ⟨c1, c2, c3⟩ := a_r3clip F (a + b)
  rw [wi64_in (I32_64 ha), wi64_in (I32_64 hb), wi64_in (x := a + b) (by unfold I32 at *; unfold I64; omega)]
  refine bp c1 ?_
  rw [c2, c3]
theorem mul32 {a b : Int} (ha : I32 a) (hb : I32 b) : -4611686018427387904 ≤ a * b ∧ a * b ≤ 4611686018427387904 := by
  unfold I32 at ha hb
  have h : (a * b).natAbs ≤ 2147483648 * 2147483648 := by
    rw [Int.natAbs_mul]
    exact Nat.mul_le_mul (by omega) (by omega)
  omega
theorem f_sMul (F : Nat) {a b : Int} (ha : I32 a) (hb : I32 b) : f_small_Mul F a b = some (sp (near16 (a * b))) := by
  unfold f_small_Mul
  dsimp only
  have hm := mul32 ha hb
  have hI : I64 (a * b) := by unfold I64; omega
  obtain ⟨n1, n2⟩ := a_snear F hI
  obtain ⟨c1, c2, c3⟩ := a_sclip F (near16 (a * b))
  rw [wi64_in (I32_64 ha), wi64_in (I32_64 hb), wi64_in hI]
  refine bp n1 ?_
  rw [n2]
  refine bp c1 ?_
  rw [c2, c3]
theorem f_r3Mul (F : Nat) (hF : 200 ≤ F) {a b : Int} (ha : I32 a) (hb : I32 b) : f_ref03_Mul F a b = some (sp (near16 (a * b))) := by
  unfold f_ref03_Mul
  dsimp only
  rw [wi64_in (I32_64 ha), wi64_in (I32_64 hb)]
  have hm := mul32 ha hb
  obtain ⟨m1, m2, m3⟩ := a_rMul F hF (I32_64 ha) (I32_64 hb)
  obtain ⟨n1, n2, n3⟩ := r3near F hF (z := a * b) (by omega)
  obtain ⟨c1, c2, c3⟩ := a_r3clip F (near16 (a * b))
  rw [m2, m3]
  refine bp m1 (bp n1 (bp n2 ?_))
  rw [n3]
  refine bp c1 ?_
  rw [c2, c3]
theorem f_sTimes (F : Nat) {a b : Int} (ha : I32 a) (hb : I64 b) : f_small_Times F a b = some (cp (near (a * 65536 * b) 32)) := by
  unfold f_small_Times
  dsimp only
  obtain ⟨w1, w2⟩ := a_Widen F ha
  obtain ⟨m1, m2, m3⟩ := a_fMul F (w16 ha) hb
  rw [w2]
  refine bp w1 (bp m1 ?_)
  rw [m2, m3]
theorem f_r3Times (F : Nat) (hF : 200 ≤ F) {a b : Int} (ha : I32 a) (hb : I64 b) : f_ref03_Times F a b = some (cp (near (a * 65536 * b) 32)) := by
  unfold f_ref03_Times
  dsimp only
  obtain ⟨w1, w2⟩ := k_ref03_Widen F _ (f_rWiden F ha)
  obtain ⟨m1, m2, m3⟩ := k_ref02_Mul F _ _ (f_rMul2 F hF (w16 ha) hb)
  rw [w2]
  refine bp w1 (bp m1 ?_)
  rw [m2, m3]
end Go.Xv
namespace Go.Xv
theorem or_u32_bv (a b : Int) : orI .u32 a b = IntKind.wrap .u32 ((BitVec.ofInt 32 a ||| BitVec.ofInt 32 b).toNat : Int) := rfl
theorem or_add_u32 (k : Nat) {a b : Int} (ha0 : 0 ≤ a) (hb : 0 ≤ b) (hb' : b < (2 ^ k : Nat)) (hs : a * (2 ^ k : Nat) + b < 4294967296) : orI .u32 (a * (2 ^ k : Nat)) b = a * (2 ^ k : Nat) + b := by
  obtain ⟨n, rfl⟩ := Int.eq_ofNat_of_zero_le ha0
  obtain ⟨m, rfl⟩ := Int.eq_ofNat_of_zero_le hb
  have e : (n : Int) * (2 ^ k : Nat) = ((n * 2 ^ k : Nat) : Int) := by push_cast; rfl
  rw [e] at hs ⊢
  have h1 : (BitVec.ofInt 32 ((n * 2 ^ k : Nat) : Int)).toNat = n * 2 ^ k := by simp only [BitVec.toNat_ofInt]; omega
  have h2 : (BitVec.ofInt 32 (m : Int)).toNat = m := by simp only [BitVec.toNat_ofInt]; omega
  rw [or_u32_bv, BitVec.toNat_or, h1, h2, or_add_nat k n m (by omega), wu32]
  clear h1 h2 e hb'
  generalize n * 2 ^ k = N at *
  omega
/-- four bytes as a number -/
theorem put4 {p q r s : Int} (hp : U8 p) (hq : U8 q) (hr : U8 r) (hs : U8 s) :
    orI .u32 (orI .u32 (orI .u32 (IntKind.wrap .u32 (IntKind.wrap .u32 p * 16777216)) (IntKind.wrap .u32 (IntKind.wrap .u32 q * 65536))) (IntKind.wrap .u32 (IntKind.wrap .u32 r * 256))) (IntKind.wrap .u32 s) = ((p * 256 + q) * 256 + r) * 256 + s := by
  unfold U8 at *
  have e24 : ((2 ^ 24 : Nat) : Int) = 16777216 := rfl
  have e16 : ((2 ^ 16 : Nat) : Int) = 65536 := rfl
  have e8 : ((2 ^ 8 : Nat) : Int) = 256 := rfl
  have hw : ∀ x : Int, 0 ≤ x → x < 4294967296 → IntKind.wrap .u32 x = x := fun x h1 h2 => wu32_in ⟨h1, h2⟩
  rw [hw p (by omega) (by omega), hw q (by omega) (by omega), hw r (by omega) (by omega), hw s (by omega) (by omega), hw (p * 16777216) (by omega) (by omega), hw (q * 65536) (by omega) (by omega), hw (r * 256) (by omega) (by omega)]
  have s1 := or_add_u32 24 (a := p) (b := q * 65536) (by omega) (by omega) (by rw [e24]; omega) (by rw [e24]; omega)
  rw [e24] at s1
  have s2 := or_add_u32 16 (a := p * 256 + q) (b := r * 256) (by omega) (by omega) (by rw [e16]; omega) (by rw [e16]; omega)
  rw [e16] at s2
  have s3 := or_add_u32 8 (a := (p * 256 + q) * 256 + r) (b := s) (by omega) (by omega) (by rw [e8]; omega) (by rw [e8]; omega)
  rw [e8] at s3
  rw [s1, show p * 16777216 + q * 65536 = (p * 256 + q) * 65536 by omega, s2, show (p * 256 + q) * 65536 + r * 256 = ((p * 256 + q) * 256 + r) * 256 by omega, s3]
abbrev bV (n : Int) : VV := .v (.int .u8 n)
theorem f_Get4 (F : Nat) {p q r s : Int} (hp : U8 p) (hq : U8 q) (hr : U8 r) (hs : U8 s) (l : List VV) (n : Nat) (hn : 4 ≤ n) :
    f_small_Get F (bV p :: bV q :: bV r :: bV s :: l) n = some (.v (.tuple #[.int .i32 (IntKind.wrap .i32 (((p * 256 + q) * 256 + r) * 256 + s)), .int .i64 0])) := by
  unfold f_small_Get
  refine bn (df (by omega)) (bp (dt (by omega)) (bp rfl ?_))
  have := put4 hp hq hr hs
  rw [← this]
  rfl
theorem f_Get4v (F : Nat) {p q r s x0 x1 x2 x3 : Int} (hp : U8 p) (hq : U8 q) (hr : U8 r) (hs : U8 s) (l : List VV) (n : Nat) (hn : 4 ≤ n) :
    f_small_Getv1 F (bV x0 :: bV x1 :: bV x2 :: bV x3 :: bV p :: bV q :: bV r :: bV s :: l) 4 n = some (.v (.tuple #[.int .i32 (IntKind.wrap .i32 (((p * 256 + q) * 256 + r) * 256 + s)), .int .i64 0])) := by
  unfold f_small_Getv1
  refine bn (df (by omega)) (bp (dt (by omega)) (bp rfl ?_))
  have := put4 hp hq hr hs
  rw [← this]
  rfl
theorem by8_U (z d : Int) : U8 (by8 z d) := by unfold U8 by8; omega
theorem by8_4 (z : Int) : ((by8 z 16777216 * 256 + by8 z 65536) * 256 + by8 z 256) * 256 + by8 z 1 = z % 4294967296 := by unfold by8; omega
theorem f_PutFix (F : Nat) {a : Int} : f_small_PutFix F a = some (.v (.agg #[.int .u8 (by8 (a / 4294967296) 16777216), .int .u8 (by8 (a / 4294967296) 65536), .int .u8 (by8 (a / 4294967296) 256), .int .u8 (by8 (a / 4294967296) 1), .int .u8 (by8 a 16777216), .int .u8 (by8 a 65536), .int .u8 (by8 a 256), .int .u8 (by8 a 1)])) := by
  unfold f_small_PutFix
  dsimp only
  rw [fdiv_pos _ (by decide)]
  obtain ⟨p1, p2, p3, p4, p5⟩ := a_Put F (IntKind.wrap .i32 (a / 4294967296))
  obtain ⟨q1, q2, q3, q4, q5⟩ := a_Put F (IntKind.wrap .i32 a)
  refine bp p1 (bp q1 ?_)
  rw [p2, p3, p4, p5, q2, q3, q4, q5]
  have e : ∀ x : Int, by8 (IntKind.wrap .i32 x) 16777216 = by8 x 16777216 ∧ by8 (IntKind.wrap .i32 x) 65536 = by8 x 65536 ∧ by8 (IntKind.wrap .i32 x) 256 = by8 x 256 ∧ by8 (IntKind.wrap .i32 x) 1 = by8 x 1 := by
    intro x
    rw [wi32]
    unfold by8; omega
  rw [(e a).1, (e a).2.1, (e a).2.2.1, (e a).2.2.2, (e (a / 4294967296)).1, (e (a / 4294967296)).2.1, (e (a / 4294967296)).2.2.1, (e (a / 4294967296)).2.2.2]
theorem or_i64_bv (a b : Int) : orI .i64 a b = IntKind.wrap .i64 ((BitVec.ofInt 64 a ||| BitVec.ofInt 64 b).toNat : Int) := rfl
theorem or_i64_hl {h l : Int} (hh : -2147483648 ≤ h ∧ h < 2147483648) (hl : 0 ≤ l ∧ l < 4294967296) : orI .i64 (h * 4294967296) l = h * 4294967296 + l := by
  have h1 : (BitVec.ofInt 64 (h * 4294967296)).toNat = ((h % 4294967296).toNat) * 2 ^ 32 := by simp only [BitVec.toNat_ofInt]; omega
  have h2 : (BitVec.ofInt 64 l).toNat = l.toNat := by simp only [BitVec.toNat_ofInt]; omega
  rw [or_i64_bv, BitVec.toNat_or, h1, h2, or_add_nat 32 _ _ (by omega), wi64]
  omega
theorem f_GetFix8 (F : Nat) {x0 x1 x2 x3 p q r s : Int} (h0 : U8 x0) (h1 : U8 x1) (h2 : U8 x2) (h3 : U8 x3) (hp : U8 p) (hq : U8 q) (hr : U8 r) (hs : U8 s) (l : List VV) (n : Nat) (hn : 8 ≤ n) :
    f_small_GetFix F (bV x0 :: bV x1 :: bV x2 :: bV x3 :: bV p :: bV q :: bV r :: bV s :: l) n = some (.v (.tuple #[.int .i64 (IntKind.wrap .i32 (((x0 * 256 + x1) * 256 + x2) * 256 + x3) * 4294967296 + (((p * 256 + q) * 256 + r) * 256 + s)), .int .i64 0])) := by
  unfold f_small_GetFix
  dsimp only
  obtain ⟨g1, g2, _⟩ := k_small_Get F _ _ (f_Get4 F h0 h1 h2 h3 (bV p :: bV q :: bV r :: bV s :: l) n (by omega))
  obtain ⟨v1, v2, _⟩ := k_small_Getv1 F _ _ _ (f_Get4v F (x0 := x0) (x1 := x1) (x2 := x2) (x3 := x3) hp hq hr hs l (n - 4) (by omega))
  refine bn (df (by omega)) (bp g1 (bp (by simp; omega) (bp v1 ?_)))
  rw [g2, v2]
  unfold U8 at *
  have e1 : IntKind.wrap .u32 (IntKind.wrap .i32 (((p * 256 + q) * 256 + r) * 256 + s)) = ((p * 256 + q) * 256 + r) * 256 + s := by rw [wi32, wu32]; omega
  have hI := wi32_I (((x0 * 256 + x1) * 256 + x2) * 256 + x3)
  generalize IntKind.wrap .i32 (((x0 * 256 + x1) * 256 + x2) * 256 + x3) = y at *
  unfold I32 at hI
  rw [e1, wi64_in (x := y) (by unfold I64; omega), wi64_in (x := y * 4294967296) (by unfold I64; omega), wi64_in (x := ((p * 256 + q) * 256 + r) * 256 + s) (by unfold I64; omega), or_i64_hl hI (by omega)]
end Go.Xv
namespace Go.Xv
def rowB (zs : List Int) : List VV := zs.map fun n => bV n
theorem rowB_len (zs : List Int) : (rowB zs).length = zs.length := by simp [rowB]
theorem rowB_get (zs : List Int) {i : Nat} (h : i < zs.length) : isI .u8 (rowB zs)[0 + ((Int.toNat (i : Int)) * 1)]? = true ∧ iv (rowB zs)[0 + ((Int.toNat (i : Int)) * 1)]? = zs.getD i 0 := by
  rw [zmul]
  have : (rowB zs)[i]? = some (bV zs[i]) := by simp [rowB, h]
  rw [this]
  refine ⟨rfl, ?_⟩
  rw [List.getD_eq_getElem?_getD, List.getElem?_eq_getElem h]; rfl
theorem f_Bytes (F : Nat) (zs : List Int) {m : Nat} (h : m ≤ zs.length) (h2 : m ≤ 100) : f_base_Bytes F (rowB zs) 0 m = some (.fs (rowB (zs.take m)) 0 m 1) := by
  unfold f_base_Bytes
  refine bp ?_ ?_
  · rw [List.drop_zero, rowB_len, dt (by omega), dt (by unfold bigger; omega)]; rfl
  · rw [List.drop_zero, List.nil_append, Nat.zero_add, Nat.mul_one]
    unfold rowB
    rw [List.map_take]
def numW (zs : List Int) : Nat → Int
  | 0 => 0
  | i + 1 => (256 * numW zs i + zs.getD i 0) % 18446744073709551616
theorem lp_number_0 (F : Nat) (ex) (zs : List Int) (m N : Nat) (hN : N ≤ m) (hm : m ≤ zs.length) (hN2 : N < 1000) (x4 : Int) : ∀ (k n i : Nat) (x5 x6 : Int), i + k = N → k < n → x5 = numW zs i → x6 = i →
    L_ref03_number_0 F ex n (rowB zs) 0 m N x4 x5 x6 = ex (rowB zs) 0 m N x4 (numW zs N) N
  | _, 0, _, _, _, _, h, _, _ => absurd h (by omega)
  | 0, n + 1, i, _, _, h, _, rfl, rfl => by
    obtain rfl : i = N := by omega
    rw [L_ref03_number_0]
    unfold B_ref03_number_0
    exact bn (df (by omega)) rfl
  | k + 1, n + 1, i, _, _, h, hn, rfl, rfl => by
    obtain ⟨g1, g2⟩ := rowB_get zs (i := i) (by omega)
    rw [L_ref03_number_0]
    unfold B_ref03_number_0
    refine bp (dt (by omega)) (bp (ix_ok i m (by omega)) (bp (by rw [g1]; rfl) ?_))
    rw [g2]
    refine lp_number_0 F ex zs m N hN hm hN2 x4 k n (i + 1) _ _ (by omega) (by omega) ?_ (wi64_s i (by omega))
    show _ = (256 * numW zs i + zs.getD i 0) % 18446744073709551616
    simp only [wu64]
    generalize numW zs i = u
    generalize zs.getD i 0 = v
    omega
theorem f_number (F : Nat) (hF : 200 ≤ F) (zs : List Int) {m N : Nat} (hN : N ≤ m) (hm : m ≤ zs.length) (hN2 : N ≤ 8) : f_ref03_number F (rowB zs) 0 m (N : Int) = some (.v (.int .u64 (numW zs N))) := by
  unfold f_ref03_number
  rw [lp_number_0 F _ zs m N hN hm (by omega) 0 N F 0 0 0 (by omega) (by omega) rfl rfl]
theorem num4 (p q r s : Int) (l : List Int) (hp : U8 p) (hq : U8 q) (hr : U8 r) (hs : U8 s) : numW (p :: q :: r :: s :: l) 4 = ((p * 256 + q) * 256 + r) * 256 + s := by
  unfold U8 at *
  simp only [numW, List.getD_cons_zero, List.getD_cons_succ]
  omega
theorem num8 (x0 x1 x2 x3 p q r s : Int) (l : List Int) (h0 : U8 x0) (h1 : U8 x1) (h2 : U8 x2) (h3 : U8 x3) (hp : U8 p) (hq : U8 q) (hr : U8 r) (hs : U8 s) :
    numW (x0 :: x1 :: x2 :: x3 :: p :: q :: r :: s :: l) 8 = (((x0 * 256 + x1) * 256 + x2) * 256 + x3) * 4294967296 + (((p * 256 + q) * 256 + r) * 256 + s) := by
  unfold U8 at *
  simp only [numW, List.getD_cons_zero, List.getD_cons_succ]
  omega
theorem take4 {zs : List Int} (h : 4 ≤ zs.length) (hz : ∀ n ∈ zs, U8 n) : ∃ p q r s l, zs = p :: q :: r :: s :: l ∧ U8 p ∧ U8 q ∧ U8 r ∧ U8 s := by
  match zs, h with
  | p :: q :: r :: s :: l, _ => exact ⟨p, q, r, s, l, rfl, hz p (by simp), hz q (by simp), hz r (by simp), hz s (by simp)⟩
theorem f_GetR (F : Nat) (hF : 200 ≤ F) {zs : List Int} {m : Nat} (hm : m ≤ zs.length) (hz : ∀ n ∈ zs, U8 n) : ∃ x y : Int,
    f_small_Get F (rowB (zs.take m)) m = some (.v (.tuple #[.int .i32 x, .int .i64 y])) ∧ f_ref03_Get F (rowB zs) 0 m = some (.v (.tuple #[.int .i32 x, .int .i64 y])) := by
  by_cases h : m < 4
  · refine ⟨0, 7, ?_, ?_⟩
    · unfold f_small_Get
      exact bp (dt (by omega)) rfl
    · unfold f_ref03_Get
      exact bp (dt (by omega)) rfl
  · obtain ⟨n1, n2⟩ := k_ref03_number F _ _ _ _ (f_number F hF zs (m := m) (N := 4) (by omega) hm (by omega))
    obtain ⟨p, q, r, s, l, rfl, hp, hq, hr, hs⟩ := take4 (by omega) hz
    obtain ⟨k, rfl⟩ : ∃ k, m = k + 4 := ⟨m - 4, by omega⟩
    refine ⟨_, _, f_Get4 F hp hq hr hs (rowB (l.take k)) (k + 4) (by omega), ?_⟩
    unfold f_ref03_Get
    refine bn (df (by omega)) (bp n1 ?_)
    rw [show ((4 : Nat) : Int) = 4 from rfl] at n2
    rw [n2, num4 p q r s l hp hq hr hs, wu32_in (by unfold U8 at *; unfold U32; omega)]
theorem f_GetFixR (F : Nat) (hF : 200 ≤ F) {zs : List Int} {m : Nat} (hm : m ≤ zs.length) (hz : ∀ n ∈ zs, U8 n) : ∃ x y : Int,
    f_small_GetFix F (rowB (zs.take m)) m = some (.v (.tuple #[.int .i64 x, .int .i64 y])) ∧ f_ref03_GetFix F (rowB zs) 0 m = some (.v (.tuple #[.int .i64 x, .int .i64 y])) := by
  by_cases h : m < 8
  · refine ⟨0, 7, ?_, ?_⟩
    · unfold f_small_GetFix
      exact bp (dt (by omega)) rfl
    · unfold f_ref03_GetFix
      exact bp (dt (by omega)) rfl
  · obtain ⟨n1, n2⟩ := k_ref03_number F _ _ _ _ (f_number F hF zs (m := m) (N := 8) (by omega) hm (by omega))
    obtain ⟨x0, x1, x2, x3, l, rfl, h0, h1, h2, h3⟩ := take4 (by omega) hz
    obtain ⟨p, q, r, s, l, rfl, hp, hq, hr, hs⟩ := take4 (zs := l) (by simp at hm; omega) (fun n hn => hz n (by simp [hn]))
    obtain ⟨k, rfl⟩ : ∃ k, m = k + 8 := ⟨m - 8, by omega⟩
    refine ⟨_, _, f_GetFix8 F h0 h1 h2 h3 hp hq hr hs (rowB (l.take k)) (k + 8) (by omega), ?_⟩
    unfold f_ref03_GetFix
    refine bn (df (by omega)) (bp n1 ?_)
    rw [show ((8 : Nat) : Int) = 8 from rfl] at n2
    rw [n2, num8 x0 x1 x2 x3 p q r s l h0 h1 h2 h3 hp hq hr hs]
    have e : IntKind.wrap .i64 ((((x0 * 256 + x1) * 256 + x2) * 256 + x3) * 4294967296 + (((p * 256 + q) * 256 + r) * 256 + s)) = IntKind.wrap .i32 (((x0 * 256 + x1) * 256 + x2) * 256 + x3) * 4294967296 + (((p * 256 + q) * 256 + r) * 256 + s) := by
      unfold U8 at *
      rw [wi64, wi32]; omega
    rw [e]
def lst (x : Int) : Nat → List VV
  | 0 => []
  | i + 1 => bV (x / 256 ^ i % 256) :: lst x i
theorem lst_len (x : Int) : ∀ i, (lst x i).length = i
  | 0 => rfl
  | i + 1 => by rw [lst, List.length_cons, lst_len x i]
theorem p256 (i : Nat) : (0 : Int) < 256 ^ i := Int.pow_pos (by decide)
theorem lp_bytes_0 (F : Nat) (ex) {x : Int} (hx : U64 x) (N : Nat) (hN : N ≤ 8) : ∀ (k n i : Nat) (x0 x3 : Int) (l : List VV), i + k = N → k < n → x0 = x / 256 ^ i → x3 = i → l = lst x i →
    L_ref03_bytes_0 F ex n x0 N i x3 l = ex (x / 256 ^ N) N N N (lst x N)
  | _, 0, _, _, _, _, _, h, _, _, _ => absurd h (by omega)
  | 0, n + 1, i, _, _, _, h, _, rfl, rfl, rfl => by
    obtain rfl : i = N := by omega
    rw [L_ref03_bytes_0]
    unfold B_ref03_bytes_0
    exact bn (df (by omega)) rfl
  | k + 1, n + 1, i, _, _, _, h, hn, rfl, rfl, rfl => by
    unfold U64 at hx
    have h0 := Int.ediv_nonneg hx.1 (Int.le_of_lt (p256 i))
    have h1 := Int.ediv_le_self (256 ^ i) hx.1
    rw [L_ref03_bytes_0]
    unfold B_ref03_bytes_0
    refine bp (dt (by omega)) (bp ?_ ?_)
    · rw [List.drop_zero, lst_len, dt (by omega), dt (by unfold bigger; omega)]; rfl
    · rw [Nat.add_comm 1 i]
      refine lp_bytes_0 F ex hx N hN k n (i + 1) _ _ _ (by omega) (by omega) ?_ (wi64_s i (by omega)) ?_
      · have h2 := Int.ediv_nonneg hx.1 (Int.le_of_lt (p256 (i + 1)))
        have h3 := Int.ediv_le_self (256 ^ (i + 1)) hx.1
        have hU : U64 (x / 256 ^ (i + 1)) := ⟨h2, by omega⟩
        rw [Int.tdiv_eq_ediv_of_nonneg h0, Int.ediv_ediv_of_nonneg (Int.le_of_lt (p256 i)), show (256 : Int) ^ i * 256 = 256 ^ (i + 1) from (Int.pow_succ 256 i).symm, wu64_in hU]
      · rw [List.drop_zero, Nat.mul_one, List.take_of_length_le (by rw [lst_len]; omega), Int.tmod_eq_emod_of_nonneg h0, wu8]
        rw [show x / 256 ^ i % 256 % 256 = x / 256 ^ i % 256 by omega]
        rfl
theorem f_bytes (F : Nat) (hF : 200 ≤ F) {x : Int} (hx : U64 x) {N : Nat} (hN : N ≤ 8) : f_ref03_bytes F x (N : Int) = some (.fs (lst x N) 0 N 1) := by
  unfold f_ref03_bytes
  rw [lp_bytes_0 F _ hx N hN N F 0 x 0 [] (by omega) (by omega) (by simp) rfl rfl]
theorem f_rPut (F : Nat) (hF : 200 ≤ F) (a : Int) : f_ref03_Put F a = some (.fs [bV (by8 a 16777216), bV (by8 a 65536), bV (by8 a 256), bV (by8 a 1)] 0 4 1) := by
  unfold f_ref03_Put
  have hw : IntKind.wrap .u64 (IntKind.wrap .u32 a) = a % 4294967296 := by rw [wu64, wu32]; omega
  dsimp only
  rw [hw]
  obtain ⟨b1, b2, b3⟩ := k_ref03_bytes F _ _ (f_bytes F hF (x := a % 4294967296) (by unfold U64; omega) (N := 4) (by omega))
  rw [show ((4 : Nat) : Int) = 4 from rfl] at b1 b2 b3
  refine bp b1 ?_
  rw [b2, b3]
  simp only [lst, Int.reducePow, Int.ediv_one]
  have e1 : a % 4294967296 / 16777216 % 256 = by8 a 16777216 := by unfold by8; omega
  have e2 : a % 4294967296 / 65536 % 256 = by8 a 65536 := by unfold by8; omega
  have e3 : a % 4294967296 / 256 % 256 = by8 a 256 := by unfold by8; omega
  have e4 : a % 4294967296 % 256 = by8 a 1 := by unfold by8; omega
  rw [e1, e2, e3, e4]
theorem f_rPutFix (F : Nat) (hF : 200 ≤ F) (a : Int) : f_ref03_PutFix F a = some (.fs [bV (by8 (a / 4294967296) 16777216), bV (by8 (a / 4294967296) 65536), bV (by8 (a / 4294967296) 256), bV (by8 (a / 4294967296) 1), bV (by8 a 16777216), bV (by8 a 65536), bV (by8 a 256), bV (by8 a 1)] 0 8 1) := by
  unfold f_ref03_PutFix
  dsimp only
  rw [wu64]
  obtain ⟨b1, b2, b3⟩ := k_ref03_bytes F _ _ (f_bytes F hF (x := a % 18446744073709551616) (by unfold U64; omega) (N := 8) (by omega))
  rw [show ((8 : Nat) : Int) = 8 from rfl] at b1 b2 b3
  refine bp b1 ?_
  rw [b2, b3]
  simp only [lst, Int.reducePow, Int.ediv_one]
  have e1 : a % 18446744073709551616 / 72057594037927936 % 256 = by8 (a / 4294967296) 16777216 := by unfold by8; omega
  have e2 : a % 18446744073709551616 / 281474976710656 % 256 = by8 (a / 4294967296) 65536 := by unfold by8; omega
  have e3 : a % 18446744073709551616 / 1099511627776 % 256 = by8 (a / 4294967296) 256 := by unfold by8; omega
  have e4 : a % 18446744073709551616 / 4294967296 % 256 = by8 (a / 4294967296) 1 := by unfold by8; omega
  have e5 : a % 18446744073709551616 / 16777216 % 256 = by8 a 16777216 := by unfold by8; omega
  have e6 : a % 18446744073709551616 / 65536 % 256 = by8 a 65536 := by unfold by8; omega
  have e7 : a % 18446744073709551616 / 256 % 256 = by8 a 256 := by unfold by8; omega
  have e8 : a % 18446744073709551616 % 256 = by8 a 1 := by unfold by8; omega
  rw [e1, e2, e3, e4, e5, e6, e7, e8]
end Go.Xv
