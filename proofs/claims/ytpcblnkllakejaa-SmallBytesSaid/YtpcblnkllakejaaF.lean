/- The functions of numbers with a point, of the program and of the document: what they compute. -/
import Derived.Test.YtpcblnkllakejaaW2
import Derived.Test.YtpcblnkllakejaaProg
import Derived.KernelRfl
set_option linter.unusedVariables false
namespace Go.Xv
/- 107 _fix_clip -/
def c_fix_clip : Cfg := ⟨[0, 1, 2, 3, 4, 5], [], []⟩
def ti_fix_clip : List TV := [.v (.agg [.int .i64, .int .u64])]
def to_fix_clip : TV := .v (.tup [.int .i64, .bool])
def S_fix_clip (F : Nat) : FuncId → List VV → Option (Bool × VV) := words [(85, s_wide_Clip F)]
def W_fix_clip (F : Nat) : List LW := []
def I_fix_clip (F : Nat) : Nat → VS → (Exit → VS → R) → R := tabI c_fix_clip (W_fix_clip F)
def f_fix_clip (F : Nat) (a0 : Int) (a1 : Int) : R :=
  bif (ok_wide_Clip F a0 a1) then (
    some (.v (.tuple #[.int .i64 ((o_wide_Clip_0 F a0 a1)), .bool ((o_wide_Clip_1 F a0 a1))])))
  else (
    none)
theorem e_fix_clip (F : Nat) (a0 : Int) (a1 : Int) : funL PP (S_fix_clip F) c_fix_clip (I_fix_clip F) 107 (fTs ti_fix_clip [.i a0, .i a1]).1 = f_fix_clip F a0 a1 := by
  have h : ∀ (ok_wide_Clip : Nat → Int → Int → Bool) (o_wide_Clip_0 : Nat → Int → Int → Int) (o_wide_Clip_1 : Nat → Int → Int → Bool), funL PP (words [(85, spec ti_wide_Clip to_wide_Clip (fun q => (ok_wide_Clip F (atI (nth q 0)) (atI (nth q 1)))) (fun q => [.i (o_wide_Clip_0 F (atI (nth q 0)) (atI (nth q 1))), .b (o_wide_Clip_1 F (atI (nth q 0)) (atI (nth q 1)))]))]) c_fix_clip (tabI c_fix_clip []) 107 (fTs ti_fix_clip [.i a0, .i a1]).1 = (
  bif (ok_wide_Clip F a0 a1) then (
    some (.v (.tuple #[.int .i64 ((o_wide_Clip_0 F a0 a1)), .bool ((o_wide_Clip_1 F a0 a1))])))
  else (
    none) : R) := by
    intros
    kernel_rfl
  exact (h ok_wide_Clip o_wide_Clip_0 o_wide_Clip_1).trans (by kernel_rfl)
def ok_fix_clip (F : Nat) (a0 : Int) (a1 : Int) : Bool := okT to_fix_clip (f_fix_clip F a0 a1)
def o_fix_clip_0 (F : Nat) (a0 : Int) (a1 : Int) : Int := atI (nth (outT to_fix_clip (f_fix_clip F a0 a1)) 0)
def o_fix_clip_1 (F : Nat) (a0 : Int) (a1 : Int) : Bool := atB (nth (outT to_fix_clip (f_fix_clip F a0 a1)) 1)
theorem k_fix_clip (F : Nat) (a0 : Int) (a1 : Int) {z0 : Int} {z1 : Bool} (h : f_fix_clip F a0 a1 = some (.v (.tuple #[.int .i64 z0, .bool z1]))) : ok_fix_clip F a0 a1 = true ∧ o_fix_clip_0 F a0 a1 = z0 ∧ o_fix_clip_1 F a0 a1 = z1 := by
  refine ⟨?_, ?_, ?_⟩
  · unfold ok_fix_clip; rw [h]; kernel_rfl
  · unfold o_fix_clip_0; rw [h]; kernel_rfl
  · unfold o_fix_clip_1; rw [h]; kernel_rfl
def s_fix_clip (F : Nat) : List VV → Option (Bool × VV) := spec ti_fix_clip to_fix_clip (fun q => (ok_fix_clip F (atI (nth q 0)) (atI (nth q 1)))) (fun q => [.i (o_fix_clip_0 F (atI (nth q 0)) (atI (nth q 1))), .b (o_fix_clip_1 F (atI (nth q 0)) (atI (nth q 1)))])
theorem hS_fix_clip (F : Nat) : ∀ f, Good PP f (unS (S_fix_clip F f)) := words_good fun p hp => by
  simp only [List.mem_cons, List.not_mem_nil, or_false] at hp
  rcases hp with rfl
  · exact g_wide_Clip F
theorem hl_fix_clip (F : Nat) : ∀ p ∈ loopsIn PP 107, LoopOK PP (S_fix_clip F) c_fix_clip F (I_fix_clip F) p :=
  loops_of [] (by kernel_rfl) all_nil
theorem g_fix_clip (F : Nat) : Good PP 107 (unS (s_fix_clip F)) :=
  fun_spec (hS_fix_clip F) (by kernel_rfl) (by kernel_rfl) (C := c_fix_clip) (F := fun q => (f_fix_clip F (atI (nth q 0)) (atI (nth q 1)))) (fun _ => F) (fun _ => I_fix_clip F) (fun _ => hl_fix_clip F)
    (fun q => (congrArg (funL PP (S_fix_clip F) c_fix_clip (I_fix_clip F) 107) (show (fTs ti_fix_clip q).1 = (fTs ti_fix_clip [.i (atI (nth q 0)), .i (atI (nth q 1))]).1 by kernel_rfl)).trans (e_fix_clip F (atI (nth q 0)) (atI (nth q 1))))
    (fun _ h => (okT_fill h).trans (congrArg some (by kernel_rfl)))

end Go.Xv
set_option linter.unusedVariables false
namespace Go.Xv
/- 70 _fix_Mul -/
def c_fix_Mul : Cfg := ⟨[0, 1, 4, 5], [], [8, 9]⟩
def ti_fix_Mul : List TV := [.v (.int .i64), .v (.int .i64)]
def to_fix_Mul : TV := .v (.tup [.int .i64, .bool])
def S_fix_Mul (F : Nat) : FuncId → List VV → Option (Bool × VV) := words [(40, s_wide_Mul F), (49, s_wide_Near F), (107, s_fix_clip F)]
def W_fix_Mul (F : Nat) : List LW := []
def I_fix_Mul (F : Nat) : Nat → VS → (Exit → VS → R) → R := tabI c_fix_Mul (W_fix_Mul F)
def f_fix_Mul (F : Nat) (a0 : Int) (a1 : Int) : R :=
  bif (ok_wide_Mul F a0 a1) then (
    let v1630 : Int := (o_wide_Mul_0 F a0 a1)
    let v1631 : Int := (o_wide_Mul_1 F a0 a1)
    bif (ok_wide_Near F v1630 v1631 32) then (
      let v1632 : Int := (o_wide_Near_0 F v1630 v1631 32)
      let v1633 : Int := (o_wide_Near_1 F v1630 v1631 32)
      bif (ok_fix_clip F v1632 v1633) then (
        some (.v (.tuple #[.int .i64 ((o_fix_clip_0 F v1632 v1633)), .bool ((o_fix_clip_1 F v1632 v1633))])))
      else (
        none))
    else (
      none))
  else (
    none)
theorem e_fix_Mul (F : Nat) (a0 : Int) (a1 : Int) : funL PP (S_fix_Mul F) c_fix_Mul (I_fix_Mul F) 70 (fTs ti_fix_Mul [.i a0, .i a1]).1 = f_fix_Mul F a0 a1 := by
  have h : ∀ (ok_wide_Mul : Nat → Int → Int → Bool) (o_wide_Mul_0 : Nat → Int → Int → Int) (o_wide_Mul_1 : Nat → Int → Int → Int) (ok_wide_Near : Nat → Int → Int → Int → Bool) (o_wide_Near_0 : Nat → Int → Int → Int → Int) (o_wide_Near_1 : Nat → Int → Int → Int → Int) (ok_fix_clip : Nat → Int → Int → Bool) (o_fix_clip_0 : Nat → Int → Int → Int) (o_fix_clip_1 : Nat → Int → Int → Bool), funL PP (words [(40, spec ti_wide_Mul to_wide_Mul (fun q => (ok_wide_Mul F (atI (nth q 0)) (atI (nth q 1)))) (fun q => [.i (o_wide_Mul_0 F (atI (nth q 0)) (atI (nth q 1))), .i (o_wide_Mul_1 F (atI (nth q 0)) (atI (nth q 1)))])), (49, spec ti_wide_Near to_wide_Near (fun q => (ok_wide_Near F (atI (nth q 0)) (atI (nth q 1)) (atI (nth q 2)))) (fun q => [.i (o_wide_Near_0 F (atI (nth q 0)) (atI (nth q 1)) (atI (nth q 2))), .i (o_wide_Near_1 F (atI (nth q 0)) (atI (nth q 1)) (atI (nth q 2)))])), (107, spec ti_fix_clip to_fix_clip (fun q => (ok_fix_clip F (atI (nth q 0)) (atI (nth q 1)))) (fun q => [.i (o_fix_clip_0 F (atI (nth q 0)) (atI (nth q 1))), .b (o_fix_clip_1 F (atI (nth q 0)) (atI (nth q 1)))]))]) c_fix_Mul (tabI c_fix_Mul []) 70 (fTs ti_fix_Mul [.i a0, .i a1]).1 = (
  bif (ok_wide_Mul F a0 a1) then (
    let v1630 : Int := (o_wide_Mul_0 F a0 a1)
    let v1631 : Int := (o_wide_Mul_1 F a0 a1)
    bif (ok_wide_Near F v1630 v1631 32) then (
      let v1632 : Int := (o_wide_Near_0 F v1630 v1631 32)
      let v1633 : Int := (o_wide_Near_1 F v1630 v1631 32)
      bif (ok_fix_clip F v1632 v1633) then (
        some (.v (.tuple #[.int .i64 ((o_fix_clip_0 F v1632 v1633)), .bool ((o_fix_clip_1 F v1632 v1633))])))
      else (
        none))
    else (
      none))
  else (
    none) : R) := by
    intros
    kernel_rfl
  exact (h ok_wide_Mul o_wide_Mul_0 o_wide_Mul_1 ok_wide_Near o_wide_Near_0 o_wide_Near_1 ok_fix_clip o_fix_clip_0 o_fix_clip_1).trans (by kernel_rfl)
def ok_fix_Mul (F : Nat) (a0 : Int) (a1 : Int) : Bool := okT to_fix_Mul (f_fix_Mul F a0 a1)
def o_fix_Mul_0 (F : Nat) (a0 : Int) (a1 : Int) : Int := atI (nth (outT to_fix_Mul (f_fix_Mul F a0 a1)) 0)
def o_fix_Mul_1 (F : Nat) (a0 : Int) (a1 : Int) : Bool := atB (nth (outT to_fix_Mul (f_fix_Mul F a0 a1)) 1)
theorem k_fix_Mul (F : Nat) (a0 : Int) (a1 : Int) {z0 : Int} {z1 : Bool} (h : f_fix_Mul F a0 a1 = some (.v (.tuple #[.int .i64 z0, .bool z1]))) : ok_fix_Mul F a0 a1 = true ∧ o_fix_Mul_0 F a0 a1 = z0 ∧ o_fix_Mul_1 F a0 a1 = z1 := by
  refine ⟨?_, ?_, ?_⟩
  · unfold ok_fix_Mul; rw [h]; kernel_rfl
  · unfold o_fix_Mul_0; rw [h]; kernel_rfl
  · unfold o_fix_Mul_1; rw [h]; kernel_rfl
def s_fix_Mul (F : Nat) : List VV → Option (Bool × VV) := spec ti_fix_Mul to_fix_Mul (fun q => (ok_fix_Mul F (atI (nth q 0)) (atI (nth q 1)))) (fun q => [.i (o_fix_Mul_0 F (atI (nth q 0)) (atI (nth q 1))), .b (o_fix_Mul_1 F (atI (nth q 0)) (atI (nth q 1)))])
theorem hS_fix_Mul (F : Nat) : ∀ f, Good PP f (unS (S_fix_Mul F f)) := words_good fun p hp => by
  simp only [List.mem_cons, List.not_mem_nil, or_false] at hp
  rcases hp with rfl | rfl | rfl
  · exact g_wide_Mul F
  · exact g_wide_Near F
  · exact g_fix_clip F
theorem hl_fix_Mul (F : Nat) : ∀ p ∈ loopsIn PP 70, LoopOK PP (S_fix_Mul F) c_fix_Mul F (I_fix_Mul F) p :=
  loops_of [] (by kernel_rfl) all_nil
theorem g_fix_Mul (F : Nat) : Good PP 70 (unS (s_fix_Mul F)) :=
  fun_spec (hS_fix_Mul F) (by kernel_rfl) (by kernel_rfl) (C := c_fix_Mul) (F := fun q => (f_fix_Mul F (atI (nth q 0)) (atI (nth q 1)))) (fun _ => F) (fun _ => I_fix_Mul F) (fun _ => hl_fix_Mul F)
    (fun q => (congrArg (funL PP (S_fix_Mul F) c_fix_Mul (I_fix_Mul F) 70) (show (fTs ti_fix_Mul q).1 = (fTs ti_fix_Mul [.i (atI (nth q 0)), .i (atI (nth q 1))]).1 by kernel_rfl)).trans (e_fix_Mul F (atI (nth q 0)) (atI (nth q 1))))
    (fun _ h => (okT_fill h).trans (congrArg some (by kernel_rfl)))

end Go.Xv
set_option linter.unusedVariables false
namespace Go.Xv
/- 69 _fix_Add -/
def c_fix_Add : Cfg := ⟨[0, 1, 4, 5, 6, 17, 20], [], []⟩
def ti_fix_Add : List TV := [.v (.int .i64), .v (.int .i64)]
def to_fix_Add : TV := .v (.tup [.int .i64, .bool])
def S_fix_Add (F : Nat) : FuncId → List VV → Option (Bool × VV) := words []
def W_fix_Add (F : Nat) : List LW := []
def I_fix_Add (F : Nat) : Nat → VS → (Exit → VS → R) → R := tabI c_fix_Add (W_fix_Add F)
def f_fix_Add (F : Nat) (a0 : Int) (a1 : Int) : R :=
  let v1640 : Int := (IntKind.wrap .i64 (a0 + a1))
  bif ((decide (((andI .i64 ((xorI .i64 a0 v1640)) ((xorI .i64 a1 v1640)))) ≥ 0))) then (
    some (.v (.tuple #[.int .i64 v1640, .bool false])))
  else (
    bif ((decide (a0 < 0))) then (
      some (.v (.tuple #[.int .i64 (-9223372036854775808), .bool true])))
    else (
      some (.v (.tuple #[.int .i64 9223372036854775807, .bool true]))))
theorem e_fix_Add (F : Nat) (a0 : Int) (a1 : Int) : funL PP (S_fix_Add F) c_fix_Add (I_fix_Add F) 69 (fTs ti_fix_Add [.i a0, .i a1]).1 = f_fix_Add F a0 a1 := by
  have h : ∀ (_ : Unit), funL PP (words []) c_fix_Add (tabI c_fix_Add []) 69 (fTs ti_fix_Add [.i a0, .i a1]).1 = (
  let v1640 : Int := (IntKind.wrap .i64 (a0 + a1))
  bif ((decide (((andI .i64 ((xorI .i64 a0 v1640)) ((xorI .i64 a1 v1640)))) ≥ 0))) then (
    some (.v (.tuple #[.int .i64 v1640, .bool false])))
  else (
    bif ((decide (a0 < 0))) then (
      some (.v (.tuple #[.int .i64 (-9223372036854775808), .bool true])))
    else (
      some (.v (.tuple #[.int .i64 9223372036854775807, .bool true])))) : R) := by
    intros
    kernel_rfl
  exact (h ()).trans (by kernel_rfl)
def ok_fix_Add (F : Nat) (a0 : Int) (a1 : Int) : Bool := okT to_fix_Add (f_fix_Add F a0 a1)
def o_fix_Add_0 (F : Nat) (a0 : Int) (a1 : Int) : Int := atI (nth (outT to_fix_Add (f_fix_Add F a0 a1)) 0)
def o_fix_Add_1 (F : Nat) (a0 : Int) (a1 : Int) : Bool := atB (nth (outT to_fix_Add (f_fix_Add F a0 a1)) 1)
theorem k_fix_Add (F : Nat) (a0 : Int) (a1 : Int) {z0 : Int} {z1 : Bool} (h : f_fix_Add F a0 a1 = some (.v (.tuple #[.int .i64 z0, .bool z1]))) : ok_fix_Add F a0 a1 = true ∧ o_fix_Add_0 F a0 a1 = z0 ∧ o_fix_Add_1 F a0 a1 = z1 := by
  refine ⟨?_, ?_, ?_⟩
  · unfold ok_fix_Add; rw [h]; kernel_rfl
  · unfold o_fix_Add_0; rw [h]; kernel_rfl
  · unfold o_fix_Add_1; rw [h]; kernel_rfl
def s_fix_Add (F : Nat) : List VV → Option (Bool × VV) := spec ti_fix_Add to_fix_Add (fun q => (ok_fix_Add F (atI (nth q 0)) (atI (nth q 1)))) (fun q => [.i (o_fix_Add_0 F (atI (nth q 0)) (atI (nth q 1))), .b (o_fix_Add_1 F (atI (nth q 0)) (atI (nth q 1)))])
theorem hS_fix_Add (F : Nat) : ∀ f, Good PP f (unS (S_fix_Add F f)) := words_good fun p hp => by
  cases hp
theorem hl_fix_Add (F : Nat) : ∀ p ∈ loopsIn PP 69, LoopOK PP (S_fix_Add F) c_fix_Add F (I_fix_Add F) p :=
  loops_of [] (by kernel_rfl) all_nil
theorem g_fix_Add (F : Nat) : Good PP 69 (unS (s_fix_Add F)) :=
  fun_spec (hS_fix_Add F) (by kernel_rfl) (by kernel_rfl) (C := c_fix_Add) (F := fun q => (f_fix_Add F (atI (nth q 0)) (atI (nth q 1)))) (fun _ => F) (fun _ => I_fix_Add F) (fun _ => hl_fix_Add F)
    (fun q => (congrArg (funL PP (S_fix_Add F) c_fix_Add (I_fix_Add F) 69) (show (fTs ti_fix_Add q).1 = (fTs ti_fix_Add [.i (atI (nth q 0)), .i (atI (nth q 1))]).1 by kernel_rfl)).trans (e_fix_Add F (atI (nth q 0)) (atI (nth q 1))))
    (fun _ h => (okT_fill h).trans (congrArg some (by kernel_rfl)))

end Go.Xv
set_option linter.unusedVariables false
namespace Go.Xv
/- 87 _fix_Int -/
def c_fix_Int : Cfg := ⟨[0, 2, 3], [], [5, 6]⟩
def ti_fix_Int : List TV := [.v (.int .i64)]
def to_fix_Int : TV := .v (.tup [.int .i64, .bool])
def S_fix_Int (F : Nat) : FuncId → List VV → Option (Bool × VV) := words [(57, s_wide_Of F), (45, s_wide_Left F), (107, s_fix_clip F)]
def W_fix_Int (F : Nat) : List LW := []
def I_fix_Int (F : Nat) : Nat → VS → (Exit → VS → R) → R := tabI c_fix_Int (W_fix_Int F)
def f_fix_Int (F : Nat) (a0 : Int) : R :=
  bif (ok_wide_Of F a0) then (
    let v1648 : Int := (o_wide_Of_0 F a0)
    let v1649 : Int := (o_wide_Of_1 F a0)
    bif (ok_wide_Left F v1648 v1649 32) then (
      let v1650 : Int := (o_wide_Left_0 F v1648 v1649 32)
      let v1651 : Int := (o_wide_Left_1 F v1648 v1649 32)
      bif (ok_fix_clip F v1650 v1651) then (
        some (.v (.tuple #[.int .i64 ((o_fix_clip_0 F v1650 v1651)), .bool ((o_fix_clip_1 F v1650 v1651))])))
      else (
        none))
    else (
      none))
  else (
    none)
theorem e_fix_Int (F : Nat) (a0 : Int) : funL PP (S_fix_Int F) c_fix_Int (I_fix_Int F) 87 (fTs ti_fix_Int [.i a0]).1 = f_fix_Int F a0 := by
  have h : ∀ (ok_wide_Of : Nat → Int → Bool) (o_wide_Of_0 : Nat → Int → Int) (o_wide_Of_1 : Nat → Int → Int) (ok_wide_Left : Nat → Int → Int → Int → Bool) (o_wide_Left_0 : Nat → Int → Int → Int → Int) (o_wide_Left_1 : Nat → Int → Int → Int → Int) (ok_fix_clip : Nat → Int → Int → Bool) (o_fix_clip_0 : Nat → Int → Int → Int) (o_fix_clip_1 : Nat → Int → Int → Bool), funL PP (words [(57, spec ti_wide_Of to_wide_Of (fun q => (ok_wide_Of F (atI (nth q 0)))) (fun q => [.i (o_wide_Of_0 F (atI (nth q 0))), .i (o_wide_Of_1 F (atI (nth q 0)))])), (45, spec ti_wide_Left to_wide_Left (fun q => (ok_wide_Left F (atI (nth q 0)) (atI (nth q 1)) (atI (nth q 2)))) (fun q => [.i (o_wide_Left_0 F (atI (nth q 0)) (atI (nth q 1)) (atI (nth q 2))), .i (o_wide_Left_1 F (atI (nth q 0)) (atI (nth q 1)) (atI (nth q 2)))])), (107, spec ti_fix_clip to_fix_clip (fun q => (ok_fix_clip F (atI (nth q 0)) (atI (nth q 1)))) (fun q => [.i (o_fix_clip_0 F (atI (nth q 0)) (atI (nth q 1))), .b (o_fix_clip_1 F (atI (nth q 0)) (atI (nth q 1)))]))]) c_fix_Int (tabI c_fix_Int []) 87 (fTs ti_fix_Int [.i a0]).1 = (
  bif (ok_wide_Of F a0) then (
    let v1648 : Int := (o_wide_Of_0 F a0)
    let v1649 : Int := (o_wide_Of_1 F a0)
    bif (ok_wide_Left F v1648 v1649 32) then (
      let v1650 : Int := (o_wide_Left_0 F v1648 v1649 32)
      let v1651 : Int := (o_wide_Left_1 F v1648 v1649 32)
      bif (ok_fix_clip F v1650 v1651) then (
        some (.v (.tuple #[.int .i64 ((o_fix_clip_0 F v1650 v1651)), .bool ((o_fix_clip_1 F v1650 v1651))])))
      else (
        none))
    else (
      none))
  else (
    none) : R) := by
    intros
    kernel_rfl
  exact (h ok_wide_Of o_wide_Of_0 o_wide_Of_1 ok_wide_Left o_wide_Left_0 o_wide_Left_1 ok_fix_clip o_fix_clip_0 o_fix_clip_1).trans (by kernel_rfl)
def ok_fix_Int (F : Nat) (a0 : Int) : Bool := okT to_fix_Int (f_fix_Int F a0)
def o_fix_Int_0 (F : Nat) (a0 : Int) : Int := atI (nth (outT to_fix_Int (f_fix_Int F a0)) 0)
def o_fix_Int_1 (F : Nat) (a0 : Int) : Bool := atB (nth (outT to_fix_Int (f_fix_Int F a0)) 1)
theorem k_fix_Int (F : Nat) (a0 : Int) {z0 : Int} {z1 : Bool} (h : f_fix_Int F a0 = some (.v (.tuple #[.int .i64 z0, .bool z1]))) : ok_fix_Int F a0 = true ∧ o_fix_Int_0 F a0 = z0 ∧ o_fix_Int_1 F a0 = z1 := by
  refine ⟨?_, ?_, ?_⟩
  · unfold ok_fix_Int; rw [h]; kernel_rfl
  · unfold o_fix_Int_0; rw [h]; kernel_rfl
  · unfold o_fix_Int_1; rw [h]; kernel_rfl
def s_fix_Int (F : Nat) : List VV → Option (Bool × VV) := spec ti_fix_Int to_fix_Int (fun q => (ok_fix_Int F (atI (nth q 0)))) (fun q => [.i (o_fix_Int_0 F (atI (nth q 0))), .b (o_fix_Int_1 F (atI (nth q 0)))])
theorem hS_fix_Int (F : Nat) : ∀ f, Good PP f (unS (S_fix_Int F f)) := words_good fun p hp => by
  simp only [List.mem_cons, List.not_mem_nil, or_false] at hp
  rcases hp with rfl | rfl | rfl
  · exact g_wide_Of F
  · exact g_wide_Left F
  · exact g_fix_clip F
theorem hl_fix_Int (F : Nat) : ∀ p ∈ loopsIn PP 87, LoopOK PP (S_fix_Int F) c_fix_Int F (I_fix_Int F) p :=
  loops_of [] (by kernel_rfl) all_nil
theorem g_fix_Int (F : Nat) : Good PP 87 (unS (s_fix_Int F)) :=
  fun_spec (hS_fix_Int F) (by kernel_rfl) (by kernel_rfl) (C := c_fix_Int) (F := fun q => (f_fix_Int F (atI (nth q 0)))) (fun _ => F) (fun _ => I_fix_Int F) (fun _ => hl_fix_Int F)
    (fun q => (congrArg (funL PP (S_fix_Int F) c_fix_Int (I_fix_Int F) 87) (show (fTs ti_fix_Int q).1 = (fTs ti_fix_Int [.i (atI (nth q 0))]).1 by kernel_rfl)).trans (e_fix_Int F (atI (nth q 0))))
    (fun _ h => (okT_fill h).trans (congrArg some (by kernel_rfl)))

end Go.Xv
set_option linter.unusedVariables false
namespace Go.Xv
/- 68 _law02_works -/
def c_law02_works : Cfg := ⟨[0, 1, 2, 3, 4, 5], [], []⟩
def ti_law02_works : List TV := []
def to_law02_works : TV := .v (.bool)
def S_law02_works (F : Nat) : FuncId → List VV → Option (Bool × VV) := words [(70, s_fix_Mul F), (69, s_fix_Add F), (87, s_fix_Int F)]
def W_law02_works (F : Nat) : List LW := []
def I_law02_works (F : Nat) : Nat → VS → (Exit → VS → R) → R := tabI c_law02_works (W_law02_works F)
def f_law02_works (F : Nat) : R :=
  bif (ok_fix_Mul F 4294967296 4294967296) then (
    bif (ok_fix_Add F 9223372036854775807 1) then (
      bif (ok_fix_Int F ((-3))) then (
        bif ((((o_fix_Mul_0 F 4294967296 4294967296)) == 4294967296)) then (
          bif ((!((o_fix_Mul_1 F 4294967296 4294967296)))) then (
            bif ((((o_fix_Add_0 F 9223372036854775807 1)) == 9223372036854775807)) then (
              bif ((o_fix_Add_1 F 9223372036854775807 1)) then (
                some (.v (.bool ((((o_fix_Int_0 F ((-3)))) == (-12884901888))))))
              else (
                some (.v (.bool false))))
            else (
              some (.v (.bool false))))
          else (
            some (.v (.bool false))))
        else (
          some (.v (.bool false))))
      else (
        none))
    else (
      none))
  else (
    none)
theorem e_law02_works (F : Nat) : funL PP (S_law02_works F) c_law02_works (I_law02_works F) 68 (fTs ti_law02_works []).1 = f_law02_works F := by
  have h : ∀ (ok_fix_Mul : Nat → Int → Int → Bool) (o_fix_Mul_0 : Nat → Int → Int → Int) (o_fix_Mul_1 : Nat → Int → Int → Bool) (ok_fix_Add : Nat → Int → Int → Bool) (o_fix_Add_0 : Nat → Int → Int → Int) (o_fix_Add_1 : Nat → Int → Int → Bool) (ok_fix_Int : Nat → Int → Bool) (o_fix_Int_0 : Nat → Int → Int) (o_fix_Int_1 : Nat → Int → Bool), funL PP (words [(70, spec ti_fix_Mul to_fix_Mul (fun q => (ok_fix_Mul F (atI (nth q 0)) (atI (nth q 1)))) (fun q => [.i (o_fix_Mul_0 F (atI (nth q 0)) (atI (nth q 1))), .b (o_fix_Mul_1 F (atI (nth q 0)) (atI (nth q 1)))])), (69, spec ti_fix_Add to_fix_Add (fun q => (ok_fix_Add F (atI (nth q 0)) (atI (nth q 1)))) (fun q => [.i (o_fix_Add_0 F (atI (nth q 0)) (atI (nth q 1))), .b (o_fix_Add_1 F (atI (nth q 0)) (atI (nth q 1)))])), (87, spec ti_fix_Int to_fix_Int (fun q => (ok_fix_Int F (atI (nth q 0)))) (fun q => [.i (o_fix_Int_0 F (atI (nth q 0))), .b (o_fix_Int_1 F (atI (nth q 0)))]))]) c_law02_works (tabI c_law02_works []) 68 (fTs ti_law02_works []).1 = (
  bif (ok_fix_Mul F 4294967296 4294967296) then (
    bif (ok_fix_Add F 9223372036854775807 1) then (
      bif (ok_fix_Int F ((-3))) then (
        bif ((((o_fix_Mul_0 F 4294967296 4294967296)) == 4294967296)) then (
          bif ((!((o_fix_Mul_1 F 4294967296 4294967296)))) then (
            bif ((((o_fix_Add_0 F 9223372036854775807 1)) == 9223372036854775807)) then (
              bif ((o_fix_Add_1 F 9223372036854775807 1)) then (
                some (.v (.bool ((((o_fix_Int_0 F ((-3)))) == (-12884901888))))))
              else (
                some (.v (.bool false))))
            else (
              some (.v (.bool false))))
          else (
            some (.v (.bool false))))
        else (
          some (.v (.bool false))))
      else (
        none))
    else (
      none))
  else (
    none) : R) := by
    intros
    kernel_rfl
  exact (h ok_fix_Mul o_fix_Mul_0 o_fix_Mul_1 ok_fix_Add o_fix_Add_0 o_fix_Add_1 ok_fix_Int o_fix_Int_0 o_fix_Int_1).trans (by kernel_rfl)
def ok_law02_works (F : Nat) : Bool := okT to_law02_works (f_law02_works F)
def o_law02_works_0 (F : Nat) : Bool := atB (nth (outT to_law02_works (f_law02_works F)) 0)
theorem k_law02_works (F : Nat) {z0 : Bool} (h : f_law02_works F = some (.v (.bool z0))) : ok_law02_works F = true ∧ o_law02_works_0 F = z0 := by
  refine ⟨?_, ?_⟩
  · unfold ok_law02_works; rw [h]; kernel_rfl
  · unfold o_law02_works_0; rw [h]; kernel_rfl
def s_law02_works (F : Nat) : List VV → Option (Bool × VV) := spec ti_law02_works to_law02_works (fun q => (ok_law02_works F )) (fun q => [.b (o_law02_works_0 F )])
theorem hS_law02_works (F : Nat) : ∀ f, Good PP f (unS (S_law02_works F f)) := words_good fun p hp => by
  simp only [List.mem_cons, List.not_mem_nil, or_false] at hp
  rcases hp with rfl | rfl | rfl
  · exact g_fix_Mul F
  · exact g_fix_Add F
  · exact g_fix_Int F
theorem hl_law02_works (F : Nat) : ∀ p ∈ loopsIn PP 68, LoopOK PP (S_law02_works F) c_law02_works F (I_law02_works F) p :=
  loops_of [] (by kernel_rfl) all_nil
theorem g_law02_works (F : Nat) : Good PP 68 (unS (s_law02_works F)) :=
  fun_spec (hS_law02_works F) (by kernel_rfl) (by kernel_rfl) (C := c_law02_works) (F := fun q => (f_law02_works F )) (fun _ => F) (fun _ => I_law02_works F) (fun _ => hl_law02_works F)
    (fun q => (congrArg (funL PP (S_law02_works F) c_law02_works (I_law02_works F) 68) (show (fTs ti_law02_works q).1 = (fTs ti_law02_works []).1 by kernel_rfl)).trans (e_law02_works F ))
    (fun _ h => (okT_fill h).trans (congrArg some (by kernel_rfl)))

end Go.Xv
set_option linter.unusedVariables false
namespace Go.Xv
/- 109 _fix_of -/
def c_fix_of : Cfg := ⟨[0, 2], [], []⟩
def ti_fix_of : List TV := [.v (.int .i64)]
def to_fix_of : TV := .v (.agg [.int .i64, .int .u64])
def S_fix_of (F : Nat) : FuncId → List VV → Option (Bool × VV) := words [(57, s_wide_Of F)]
def W_fix_of (F : Nat) : List LW := []
def I_fix_of (F : Nat) : Nat → VS → (Exit → VS → R) → R := tabI c_fix_of (W_fix_of F)
def f_fix_of (F : Nat) (a0 : Int) : R :=
  bif (ok_wide_Of F a0) then (
    some (.v (.agg #[.int .i64 ((o_wide_Of_0 F a0)), .int .u64 ((o_wide_Of_1 F a0))])))
  else (
    none)
theorem e_fix_of (F : Nat) (a0 : Int) : funL PP (S_fix_of F) c_fix_of (I_fix_of F) 109 (fTs ti_fix_of [.i a0]).1 = f_fix_of F a0 := by
  have h : ∀ (ok_wide_Of : Nat → Int → Bool) (o_wide_Of_0 : Nat → Int → Int) (o_wide_Of_1 : Nat → Int → Int), funL PP (words [(57, spec ti_wide_Of to_wide_Of (fun q => (ok_wide_Of F (atI (nth q 0)))) (fun q => [.i (o_wide_Of_0 F (atI (nth q 0))), .i (o_wide_Of_1 F (atI (nth q 0)))]))]) c_fix_of (tabI c_fix_of []) 109 (fTs ti_fix_of [.i a0]).1 = (
  bif (ok_wide_Of F a0) then (
    some (.v (.agg #[.int .i64 ((o_wide_Of_0 F a0)), .int .u64 ((o_wide_Of_1 F a0))])))
  else (
    none) : R) := by
    intros
    kernel_rfl
  exact (h ok_wide_Of o_wide_Of_0 o_wide_Of_1).trans (by kernel_rfl)
def ok_fix_of (F : Nat) (a0 : Int) : Bool := okT to_fix_of (f_fix_of F a0)
def o_fix_of_0 (F : Nat) (a0 : Int) : Int := atI (nth (outT to_fix_of (f_fix_of F a0)) 0)
def o_fix_of_1 (F : Nat) (a0 : Int) : Int := atI (nth (outT to_fix_of (f_fix_of F a0)) 1)
theorem k_fix_of (F : Nat) (a0 : Int) {z0 : Int} {z1 : Int} (h : f_fix_of F a0 = some (.v (.agg #[.int .i64 z0, .int .u64 z1]))) : ok_fix_of F a0 = true ∧ o_fix_of_0 F a0 = z0 ∧ o_fix_of_1 F a0 = z1 := by
  refine ⟨?_, ?_, ?_⟩
  · unfold ok_fix_of; rw [h]; kernel_rfl
  · unfold o_fix_of_0; rw [h]; kernel_rfl
  · unfold o_fix_of_1; rw [h]; kernel_rfl
def s_fix_of (F : Nat) : List VV → Option (Bool × VV) := spec ti_fix_of to_fix_of (fun q => (ok_fix_of F (atI (nth q 0)))) (fun q => [.i (o_fix_of_0 F (atI (nth q 0))), .i (o_fix_of_1 F (atI (nth q 0)))])
theorem hS_fix_of (F : Nat) : ∀ f, Good PP f (unS (S_fix_of F f)) := words_good fun p hp => by
  simp only [List.mem_cons, List.not_mem_nil, or_false] at hp
  rcases hp with rfl
  · exact g_wide_Of F
theorem hl_fix_of (F : Nat) : ∀ p ∈ loopsIn PP 109, LoopOK PP (S_fix_of F) c_fix_of F (I_fix_of F) p :=
  loops_of [] (by kernel_rfl) all_nil
theorem g_fix_of (F : Nat) : Good PP 109 (unS (s_fix_of F)) :=
  fun_spec (hS_fix_of F) (by kernel_rfl) (by kernel_rfl) (C := c_fix_of) (F := fun q => (f_fix_of F (atI (nth q 0)))) (fun _ => F) (fun _ => I_fix_of F) (fun _ => hl_fix_of F)
    (fun q => (congrArg (funL PP (S_fix_of F) c_fix_of (I_fix_of F) 109) (show (fTs ti_fix_of q).1 = (fTs ti_fix_of [.i (atI (nth q 0))]).1 by kernel_rfl)).trans (e_fix_of F (atI (nth q 0))))
    (fun _ h => (okT_fill h).trans (congrArg some (by kernel_rfl)))

end Go.Xv
set_option linter.unusedVariables false
namespace Go.Xv
/- 79 _fix_Sum -/
def c_fix_Sum : Cfg := ⟨[0, 2, 3, 4, 6, 7, 8, 9, 10], [(0, [0, 2, 3, 4, 7, 8, 9, 18, 19, 20, 21])], [15]⟩
def ti_fix_Sum : List TV := [.fs .hole .hole 1]
def to_fix_Sum : TV := .v (.tup [.int .i64, .bool])
def S_fix_Sum (F : Nat) : FuncId → List VV → Option (Bool × VV) := words [(109, s_fix_of F), (43, s_wide_Add F), (107, s_fix_clip F)]
def T_fix_Sum_0 : TS := ⟨[(0, .fs .hole .hole 1), (2, .v (.int .i64)), (3, .v (.bool)), (4, .lp 0 (.lit 0)), (7, .fs .hole .hole 1), (8, .v (.int .i64)), (9, .v (.int .i64))], [(0, ⟨(.ex [.v (.int .i64), .v (.int .u64)]), true⟩)], 1⟩
def T_fix_Sum_0_0 : TS := ⟨[(0, .fs .hole .hole 1), (2, .v (.int .i64)), (3, .v (.bool)), (4, .lp 0 (.lit 0)), (7, .fs .hole .hole 1), (8, .v (.int .i64)), (9, .v (.int .i64))], [(0, ⟨(.ex [.v (.int .i64), .v (.int .u64)]), true⟩)], 1⟩
def B_fix_Sum_0 (F : Nat) (rc : List VV → Nat → Nat → Int → Bool → List VV → Nat → Nat → Int → Int → Int → Int → R) (ex0 : List VV → Nat → Nat → Int → Bool → List VV → Nat → Nat → Int → Int → Int → Int → R) (x0 : List VV) (x1 : Nat) (x2 : Nat) (x3 : Int) (x4 : Bool) (x5 : List VV) (x6 : Nat) (x7 : Nat) (x8 : Int) (x9 : Int) (x10 : Int) (x11 : Int) : R :=
  bif ((decide (x9 < x8))) then (
    bif ((decide (0 ≤ x9)) && (decide (x9 < ((x7 : Nat) : Int)))) then (
      let v1692 : Nat := (x6 + ((Int.toNat x9) * 1))
      bif ((isI .i64 x5[v1692]?) && true) then (
        let v1693 : Int := (iv x5[v1692]?)
        bif (ok_fix_of F v1693) then (
          let v1696 : Int := (o_fix_of_0 F v1693)
          let v1697 : Int := (o_fix_of_1 F v1693)
          bif (ok_wide_Add F x10 x11 v1696 v1697) then (
            rc x0 x1 x2 x3 x4 x5 x6 x7 x8 ((IntKind.wrap .i64 (x9 + 1))) ((o_wide_Add_0 F x10 x11 v1696 v1697)) ((o_wide_Add_1 F x10 x11 v1696 v1697)))
          else (
            none))
        else (
          none))
      else (
        none))
    else (
      none))
  else (
    ex0 x0 x1 x2 x3 x4 x5 x6 x7 x8 x9 x10 x11)
def L_fix_Sum_0 (F : Nat) (ex0 : List VV → Nat → Nat → Int → Bool → List VV → Nat → Nat → Int → Int → Int → Int → R) : Nat → List VV → Nat → Nat → Int → Bool → List VV → Nat → Nat → Int → Int → Int → Int → R
  | 0, _, _, _, _, _, _, _, _, _, _, _, _ => none
  | n + 1, x0, x1, x2, x3, x4, x5, x6, x7, x8, x9, x10, x11 => B_fix_Sum_0 F (L_fix_Sum_0 F ex0 n) ex0 x0 x1 x2 x3 x4 x5 x6 x7 x8 x9 x10 x11
def W_fix_Sum (F : Nat) : List LW := [⟨0, T_fix_Sum_0, fun k q => L_fix_Sum_0 F (fun (z0 : List VV) (z1 : Nat) (z2 : Nat) (z3 : Int) (z4 : Bool) (z5 : List VV) (z6 : Nat) (z7 : Nat) (z8 : Int) (z9 : Int) (z10 : Int) (z11 : Int) => k (.exit 0) (fS T_fix_Sum_0_0 [.c z0, .n z1, .n z2, .i z3, .b z4, .c z5, .n z6, .n z7, .i z8, .i z9, .i z10, .i z11])) F (atC (nth q 0)) (atN (nth q 1)) (atN (nth q 2)) (atI (nth q 3)) (atB (nth q 4)) (atC (nth q 5)) (atN (nth q 6)) (atN (nth q 7)) (atI (nth q 8)) (atI (nth q 9)) (atI (nth q 10)) (atI (nth q 11))⟩]
def I_fix_Sum (F : Nat) : Nat → VS → (Exit → VS → R) → R := tabI c_fix_Sum (W_fix_Sum F)
theorem lL_fix_Sum_0 (F : Nat) (k : Exit → VS → R) : ∀ (n : Nat) (x0 : List VV) (x1 : Nat) (x2 : Nat) (x3 : Int) (x4 : Bool) (x5 : List VV) (x6 : Nat) (x7 : Nat) (x8 : Int) (x9 : Int) (x10 : Int) (x11 : Int), iterC (codeL PP (S_fix_Sum F) c_fix_Sum (I_fix_Sum F) (loopAt PP 79 0) 0) (headOf c_fix_Sum 0) k n (fS T_fix_Sum_0 [.c x0, .n x1, .n x2, .i x3, .b x4, .c x5, .n x6, .n x7, .i x8, .i x9, .i x10, .i x11]) = L_fix_Sum_0 F (fun (z0 : List VV) (z1 : Nat) (z2 : Nat) (z3 : Int) (z4 : Bool) (z5 : List VV) (z6 : Nat) (z7 : Nat) (z8 : Int) (z9 : Int) (z10 : Int) (z11 : Int) => k (.exit 0) (fS T_fix_Sum_0_0 [.c z0, .n z1, .n z2, .i z3, .b z4, .c z5, .n z6, .n z7, .i z8, .i z9, .i z10, .i z11])) n x0 x1 x2 x3 x4 x5 x6 x7 x8 x9 x10 x11
  | 0, _, _, _, _, _, _, _, _, _, _, _, _ => rfl
  | n + 1, x0, x1, x2, x3, x4, x5, x6, x7, x8, x9, x10, x11 => by
    have h0 : ∀ (ok_fix_of : Nat → Int → Bool) (o_fix_of_0 : Nat → Int → Int) (o_fix_of_1 : Nat → Int → Int) (ok_wide_Add : Nat → Int → Int → Int → Int → Bool) (o_wide_Add_0 : Nat → Int → Int → Int → Int → Int) (o_wide_Add_1 : Nat → Int → Int → Int → Int → Int) (ok_fix_clip : Nat → Int → Int → Bool) (o_fix_clip_0 : Nat → Int → Int → Int) (o_fix_clip_1 : Nat → Int → Int → Bool) (L_fix_Sum_0 : Nat → (List VV → Nat → Nat → Int → Bool → List VV → Nat → Nat → Int → Int → Int → Int → R) → Nat → List VV → Nat → Nat → Int → Bool → List VV → Nat → Nat → Int → Int → Int → Int → R), iterC (codeL PP (words [(109, spec ti_fix_of to_fix_of (fun q => (ok_fix_of F (atI (nth q 0)))) (fun q => [.i (o_fix_of_0 F (atI (nth q 0))), .i (o_fix_of_1 F (atI (nth q 0)))])), (43, spec ti_wide_Add to_wide_Add (fun q => (ok_wide_Add F (atI (nth q 0)) (atI (nth q 1)) (atI (nth q 2)) (atI (nth q 3)))) (fun q => [.i (o_wide_Add_0 F (atI (nth q 0)) (atI (nth q 1)) (atI (nth q 2)) (atI (nth q 3))), .i (o_wide_Add_1 F (atI (nth q 0)) (atI (nth q 1)) (atI (nth q 2)) (atI (nth q 3)))])), (107, spec ti_fix_clip to_fix_clip (fun q => (ok_fix_clip F (atI (nth q 0)) (atI (nth q 1)))) (fun q => [.i (o_fix_clip_0 F (atI (nth q 0)) (atI (nth q 1))), .b (o_fix_clip_1 F (atI (nth q 0)) (atI (nth q 1)))]))]) c_fix_Sum (tabI c_fix_Sum [⟨0, T_fix_Sum_0, fun k q => L_fix_Sum_0 F (fun (z0 : List VV) (z1 : Nat) (z2 : Nat) (z3 : Int) (z4 : Bool) (z5 : List VV) (z6 : Nat) (z7 : Nat) (z8 : Int) (z9 : Int) (z10 : Int) (z11 : Int) => k (.exit 0) (fS T_fix_Sum_0_0 [.c z0, .n z1, .n z2, .i z3, .b z4, .c z5, .n z6, .n z7, .i z8, .i z9, .i z10, .i z11])) F (atC (nth q 0)) (atN (nth q 1)) (atN (nth q 2)) (atI (nth q 3)) (atB (nth q 4)) (atC (nth q 5)) (atN (nth q 6)) (atN (nth q 7)) (atI (nth q 8)) (atI (nth q 9)) (atI (nth q 10)) (atI (nth q 11))⟩]) (loopAt PP 79 0) 0) (headOf c_fix_Sum 0) k (n + 1) (fS T_fix_Sum_0 [.c x0, .n x1, .n x2, .i x3, .b x4, .c x5, .n x6, .n x7, .i x8, .i x9, .i x10, .i x11]) = (fun (rc : List VV → Nat → Nat → Int → Bool → List VV → Nat → Nat → Int → Int → Int → Int → R) (ex0 : List VV → Nat → Nat → Int → Bool → List VV → Nat → Nat → Int → Int → Int → Int → R) (x0 : List VV) (x1 : Nat) (x2 : Nat) (x3 : Int) (x4 : Bool) (x5 : List VV) (x6 : Nat) (x7 : Nat) (x8 : Int) (x9 : Int) (x10 : Int) (x11 : Int) => (
  bif ((decide (x9 < x8))) then (
    bif ((decide (0 ≤ x9)) && (decide (x9 < ((x7 : Nat) : Int)))) then (
      let v1692 : Nat := (x6 + ((Int.toNat x9) * 1))
      bif ((isI .i64 x5[v1692]?) && true) then (
        let v1693 : Int := (iv x5[v1692]?)
        bif (ok_fix_of F v1693) then (
          let v1696 : Int := (o_fix_of_0 F v1693)
          let v1697 : Int := (o_fix_of_1 F v1693)
          bif (ok_wide_Add F x10 x11 v1696 v1697) then (
            rc x0 x1 x2 x3 x4 x5 x6 x7 x8 ((IntKind.wrap .i64 (x9 + 1))) ((o_wide_Add_0 F x10 x11 v1696 v1697)) ((o_wide_Add_1 F x10 x11 v1696 v1697)))
          else (
            none))
        else (
          none))
      else (
        none))
    else (
      none))
  else (
    ex0 x0 x1 x2 x3 x4 x5 x6 x7 x8 x9 x10 x11) : R)) (fun (y0 : List VV) (y1 : Nat) (y2 : Nat) (y3 : Int) (y4 : Bool) (y5 : List VV) (y6 : Nat) (y7 : Nat) (y8 : Int) (y9 : Int) (y10 : Int) (y11 : Int) => iterC (codeL PP (words [(109, spec ti_fix_of to_fix_of (fun q => (ok_fix_of F (atI (nth q 0)))) (fun q => [.i (o_fix_of_0 F (atI (nth q 0))), .i (o_fix_of_1 F (atI (nth q 0)))])), (43, spec ti_wide_Add to_wide_Add (fun q => (ok_wide_Add F (atI (nth q 0)) (atI (nth q 1)) (atI (nth q 2)) (atI (nth q 3)))) (fun q => [.i (o_wide_Add_0 F (atI (nth q 0)) (atI (nth q 1)) (atI (nth q 2)) (atI (nth q 3))), .i (o_wide_Add_1 F (atI (nth q 0)) (atI (nth q 1)) (atI (nth q 2)) (atI (nth q 3)))])), (107, spec ti_fix_clip to_fix_clip (fun q => (ok_fix_clip F (atI (nth q 0)) (atI (nth q 1)))) (fun q => [.i (o_fix_clip_0 F (atI (nth q 0)) (atI (nth q 1))), .b (o_fix_clip_1 F (atI (nth q 0)) (atI (nth q 1)))]))]) c_fix_Sum (tabI c_fix_Sum [⟨0, T_fix_Sum_0, fun k q => L_fix_Sum_0 F (fun (z0 : List VV) (z1 : Nat) (z2 : Nat) (z3 : Int) (z4 : Bool) (z5 : List VV) (z6 : Nat) (z7 : Nat) (z8 : Int) (z9 : Int) (z10 : Int) (z11 : Int) => k (.exit 0) (fS T_fix_Sum_0_0 [.c z0, .n z1, .n z2, .i z3, .b z4, .c z5, .n z6, .n z7, .i z8, .i z9, .i z10, .i z11])) F (atC (nth q 0)) (atN (nth q 1)) (atN (nth q 2)) (atI (nth q 3)) (atB (nth q 4)) (atC (nth q 5)) (atN (nth q 6)) (atN (nth q 7)) (atI (nth q 8)) (atI (nth q 9)) (atI (nth q 10)) (atI (nth q 11))⟩]) (loopAt PP 79 0) 0) (headOf c_fix_Sum 0) k n (fS T_fix_Sum_0 [.c y0, .n y1, .n y2, .i y3, .b y4, .c y5, .n y6, .n y7, .i y8, .i y9, .i y10, .i y11])) (fun (z0 : List VV) (z1 : Nat) (z2 : Nat) (z3 : Int) (z4 : Bool) (z5 : List VV) (z6 : Nat) (z7 : Nat) (z8 : Int) (z9 : Int) (z10 : Int) (z11 : Int) => k (.exit 0) (fS T_fix_Sum_0_0 [.c z0, .n z1, .n z2, .i z3, .b z4, .c z5, .n z6, .n z7, .i z8, .i z9, .i z10, .i z11])) x0 x1 x2 x3 x4 x5 x6 x7 x8 x9 x10 x11 := by
      intros
      kernel_rfl
    have h : iterC (codeL PP (S_fix_Sum F) c_fix_Sum (I_fix_Sum F) (loopAt PP 79 0) 0) (headOf c_fix_Sum 0) k (n + 1) (fS T_fix_Sum_0 [.c x0, .n x1, .n x2, .i x3, .b x4, .c x5, .n x6, .n x7, .i x8, .i x9, .i x10, .i x11]) = B_fix_Sum_0 F (fun (y0 : List VV) (y1 : Nat) (y2 : Nat) (y3 : Int) (y4 : Bool) (y5 : List VV) (y6 : Nat) (y7 : Nat) (y8 : Int) (y9 : Int) (y10 : Int) (y11 : Int) => iterC (codeL PP (S_fix_Sum F) c_fix_Sum (I_fix_Sum F) (loopAt PP 79 0) 0) (headOf c_fix_Sum 0) k n (fS T_fix_Sum_0 [.c y0, .n y1, .n y2, .i y3, .b y4, .c y5, .n y6, .n y7, .i y8, .i y9, .i y10, .i y11])) (fun (z0 : List VV) (z1 : Nat) (z2 : Nat) (z3 : Int) (z4 : Bool) (z5 : List VV) (z6 : Nat) (z7 : Nat) (z8 : Int) (z9 : Int) (z10 : Int) (z11 : Int) => k (.exit 0) (fS T_fix_Sum_0_0 [.c z0, .n z1, .n z2, .i z3, .b z4, .c z5, .n z6, .n z7, .i z8, .i z9, .i z10, .i z11])) x0 x1 x2 x3 x4 x5 x6 x7 x8 x9 x10 x11 := (h0 ok_fix_of o_fix_of_0 o_fix_of_1 ok_wide_Add o_wide_Add_0 o_wide_Add_1 ok_fix_clip o_fix_clip_0 o_fix_clip_1 L_fix_Sum_0).trans (by kernel_rfl)
    rw [h]
    simp only [lL_fix_Sum_0 F k n]
    rfl
def f_fix_Sum (F : Nat) (a0 : List VV) (a1 : Nat) (a2 : Nat) : R :=
  L_fix_Sum_0 F (fun (v1701 : List VV) (v1702 : Nat) (v1703 : Nat) (v1704 : Int) (v1705 : Bool) (v1706 : List VV) (v1707 : Nat) (v1708 : Nat) (v1709 : Int) (v1710 : Int) (v1711 : Int) (v1712 : Int) =>
    bif (ok_fix_clip F v1711 v1712) then (
      some (.v (.tuple #[.int .i64 ((o_fix_clip_0 F v1711 v1712)), .bool ((o_fix_clip_1 F v1711 v1712))])))
    else (
      none)) F a0 a1 a2 0 false a0 a1 a2 (((a2 : Nat) : Int)) 0 0 0
theorem e_fix_Sum (F : Nat) (a0 : List VV) (a1 : Nat) (a2 : Nat) : funL PP (S_fix_Sum F) c_fix_Sum (I_fix_Sum F) 79 (fTs ti_fix_Sum [.c a0, .n a1, .n a2]).1 = f_fix_Sum F a0 a1 a2 := by
  have h : ∀ (ok_fix_of : Nat → Int → Bool) (o_fix_of_0 : Nat → Int → Int) (o_fix_of_1 : Nat → Int → Int) (ok_wide_Add : Nat → Int → Int → Int → Int → Bool) (o_wide_Add_0 : Nat → Int → Int → Int → Int → Int) (o_wide_Add_1 : Nat → Int → Int → Int → Int → Int) (ok_fix_clip : Nat → Int → Int → Bool) (o_fix_clip_0 : Nat → Int → Int → Int) (o_fix_clip_1 : Nat → Int → Int → Bool) (L_fix_Sum_0 : Nat → (List VV → Nat → Nat → Int → Bool → List VV → Nat → Nat → Int → Int → Int → Int → R) → Nat → List VV → Nat → Nat → Int → Bool → List VV → Nat → Nat → Int → Int → Int → Int → R), funL PP (words [(109, spec ti_fix_of to_fix_of (fun q => (ok_fix_of F (atI (nth q 0)))) (fun q => [.i (o_fix_of_0 F (atI (nth q 0))), .i (o_fix_of_1 F (atI (nth q 0)))])), (43, spec ti_wide_Add to_wide_Add (fun q => (ok_wide_Add F (atI (nth q 0)) (atI (nth q 1)) (atI (nth q 2)) (atI (nth q 3)))) (fun q => [.i (o_wide_Add_0 F (atI (nth q 0)) (atI (nth q 1)) (atI (nth q 2)) (atI (nth q 3))), .i (o_wide_Add_1 F (atI (nth q 0)) (atI (nth q 1)) (atI (nth q 2)) (atI (nth q 3)))])), (107, spec ti_fix_clip to_fix_clip (fun q => (ok_fix_clip F (atI (nth q 0)) (atI (nth q 1)))) (fun q => [.i (o_fix_clip_0 F (atI (nth q 0)) (atI (nth q 1))), .b (o_fix_clip_1 F (atI (nth q 0)) (atI (nth q 1)))]))]) c_fix_Sum (tabI c_fix_Sum [⟨0, T_fix_Sum_0, fun k q => L_fix_Sum_0 F (fun (z0 : List VV) (z1 : Nat) (z2 : Nat) (z3 : Int) (z4 : Bool) (z5 : List VV) (z6 : Nat) (z7 : Nat) (z8 : Int) (z9 : Int) (z10 : Int) (z11 : Int) => k (.exit 0) (fS T_fix_Sum_0_0 [.c z0, .n z1, .n z2, .i z3, .b z4, .c z5, .n z6, .n z7, .i z8, .i z9, .i z10, .i z11])) F (atC (nth q 0)) (atN (nth q 1)) (atN (nth q 2)) (atI (nth q 3)) (atB (nth q 4)) (atC (nth q 5)) (atN (nth q 6)) (atN (nth q 7)) (atI (nth q 8)) (atI (nth q 9)) (atI (nth q 10)) (atI (nth q 11))⟩]) 79 (fTs ti_fix_Sum [.c a0, .n a1, .n a2]).1 = (
  L_fix_Sum_0 F (fun (v1701 : List VV) (v1702 : Nat) (v1703 : Nat) (v1704 : Int) (v1705 : Bool) (v1706 : List VV) (v1707 : Nat) (v1708 : Nat) (v1709 : Int) (v1710 : Int) (v1711 : Int) (v1712 : Int) =>
    bif (ok_fix_clip F v1711 v1712) then (
      some (.v (.tuple #[.int .i64 ((o_fix_clip_0 F v1711 v1712)), .bool ((o_fix_clip_1 F v1711 v1712))])))
    else (
      none)) F a0 a1 a2 0 false a0 a1 a2 (((a2 : Nat) : Int)) 0 0 0 : R) := by
    intros
    kernel_rfl
  exact (h ok_fix_of o_fix_of_0 o_fix_of_1 ok_wide_Add o_wide_Add_0 o_wide_Add_1 ok_fix_clip o_fix_clip_0 o_fix_clip_1 L_fix_Sum_0).trans (by kernel_rfl)
def ok_fix_Sum (F : Nat) (a0 : List VV) (a1 : Nat) (a2 : Nat) : Bool := okT to_fix_Sum (f_fix_Sum F a0 a1 a2)
def o_fix_Sum_0 (F : Nat) (a0 : List VV) (a1 : Nat) (a2 : Nat) : Int := atI (nth (outT to_fix_Sum (f_fix_Sum F a0 a1 a2)) 0)
def o_fix_Sum_1 (F : Nat) (a0 : List VV) (a1 : Nat) (a2 : Nat) : Bool := atB (nth (outT to_fix_Sum (f_fix_Sum F a0 a1 a2)) 1)
theorem k_fix_Sum (F : Nat) (a0 : List VV) (a1 : Nat) (a2 : Nat) {z0 : Int} {z1 : Bool} (h : f_fix_Sum F a0 a1 a2 = some (.v (.tuple #[.int .i64 z0, .bool z1]))) : ok_fix_Sum F a0 a1 a2 = true ∧ o_fix_Sum_0 F a0 a1 a2 = z0 ∧ o_fix_Sum_1 F a0 a1 a2 = z1 := by
  refine ⟨?_, ?_, ?_⟩
  · unfold ok_fix_Sum; rw [h]; kernel_rfl
  · unfold o_fix_Sum_0; rw [h]; kernel_rfl
  · unfold o_fix_Sum_1; rw [h]; kernel_rfl
def s_fix_Sum (F : Nat) : List VV → Option (Bool × VV) := spec ti_fix_Sum to_fix_Sum (fun q => (ok_fix_Sum F (atC (nth q 0)) (atN (nth q 1)) (atN (nth q 2)))) (fun q => [.i (o_fix_Sum_0 F (atC (nth q 0)) (atN (nth q 1)) (atN (nth q 2))), .b (o_fix_Sum_1 F (atC (nth q 0)) (atN (nth q 1)) (atN (nth q 2)))])
theorem hS_fix_Sum (F : Nat) : ∀ f, Good PP f (unS (S_fix_Sum F f)) := words_good fun p hp => by
  simp only [List.mem_cons, List.not_mem_nil, or_false] at hp
  rcases hp with rfl | rfl | rfl
  · exact g_fix_of F
  · exact g_wide_Add F
  · exact g_fix_clip F
theorem hl_fix_Sum (F : Nat) : ∀ p ∈ loopsIn PP 79, LoopOK PP (S_fix_Sum F) c_fix_Sum F (I_fix_Sum F) p :=
  loops_of [(0, loopAt PP 79 0)] (by kernel_rfl) (all_cons
    (loop_ok (W_fix_Sum F) rfl (tab_cons (fun _ k q => Le.ofEq ((lL_fix_Sum_0 F k F (atC (nth q 0)) (atN (nth q 1)) (atN (nth q 2)) (atI (nth q 3)) (atB (nth q 4)) (atC (nth q 5)) (atN (nth q 6)) (atN (nth q 7)) (atI (nth q 8)) (atI (nth q 9)) (atI (nth q 10)) (atI (nth q 11))).symm.trans (congrArg (iterC (codeL PP (S_fix_Sum F) c_fix_Sum (I_fix_Sum F) (loopAt PP 79 0) 0) (headOf c_fix_Sum 0) k F) (show fS T_fix_Sum_0 [.c (atC (nth q 0)), .n (atN (nth q 1)), .n (atN (nth q 2)), .i (atI (nth q 3)), .b (atB (nth q 4)), .c (atC (nth q 5)), .n (atN (nth q 6)), .n (atN (nth q 7)), .i (atI (nth q 8)), .i (atI (nth q 9)), .i (atI (nth q 10)), .i (atI (nth q 11))] = fS T_fix_Sum_0 q by kernel_rfl)))) tab_nil)) all_nil)
theorem g_fix_Sum (F : Nat) : Good PP 79 (unS (s_fix_Sum F)) :=
  fun_spec (hS_fix_Sum F) (by kernel_rfl) (by kernel_rfl) (C := c_fix_Sum) (F := fun q => (f_fix_Sum F (atC (nth q 0)) (atN (nth q 1)) (atN (nth q 2)))) (fun _ => F) (fun _ => I_fix_Sum F) (fun _ => hl_fix_Sum F)
    (fun q => (congrArg (funL PP (S_fix_Sum F) c_fix_Sum (I_fix_Sum F) 79) (show (fTs ti_fix_Sum q).1 = (fTs ti_fix_Sum [.c (atC (nth q 0)), .n (atN (nth q 1)), .n (atN (nth q 2))]).1 by kernel_rfl)).trans (e_fix_Sum F (atC (nth q 0)) (atN (nth q 1)) (atN (nth q 2))))
    (fun _ h => (okT_fill h).trans (congrArg some (by kernel_rfl)))

end Go.Xv
set_option linter.unusedVariables false
namespace Go.Xv
/- 110 _ref02_clip -/
def c_ref02_clip : Cfg := ⟨[0, 1, 2, 3, 4, 5], [], []⟩
def ti_ref02_clip : List TV := [.v (.agg [.int .i64, .int .u64])]
def to_ref02_clip : TV := .v (.tup [.int .i64, .bool])
def S_ref02_clip (F : Nat) : FuncId → List VV → Option (Bool × VV) := words [(86, s_ref01_Clip F)]
def W_ref02_clip (F : Nat) : List LW := []
def I_ref02_clip (F : Nat) : Nat → VS → (Exit → VS → R) → R := tabI c_ref02_clip (W_ref02_clip F)
def f_ref02_clip (F : Nat) (a0 : Int) (a1 : Int) : R :=
  bif (ok_ref01_Clip F a0 a1) then (
    some (.v (.tuple #[.int .i64 ((o_ref01_Clip_0 F a0 a1)), .bool ((o_ref01_Clip_1 F a0 a1))])))
  else (
    none)
theorem e_ref02_clip (F : Nat) (a0 : Int) (a1 : Int) : funL PP (S_ref02_clip F) c_ref02_clip (I_ref02_clip F) 110 (fTs ti_ref02_clip [.i a0, .i a1]).1 = f_ref02_clip F a0 a1 := by
  have h : ∀ (ok_ref01_Clip : Nat → Int → Int → Bool) (o_ref01_Clip_0 : Nat → Int → Int → Int) (o_ref01_Clip_1 : Nat → Int → Int → Bool), funL PP (words [(86, spec ti_ref01_Clip to_ref01_Clip (fun q => (ok_ref01_Clip F (atI (nth q 0)) (atI (nth q 1)))) (fun q => [.i (o_ref01_Clip_0 F (atI (nth q 0)) (atI (nth q 1))), .b (o_ref01_Clip_1 F (atI (nth q 0)) (atI (nth q 1)))]))]) c_ref02_clip (tabI c_ref02_clip []) 110 (fTs ti_ref02_clip [.i a0, .i a1]).1 = (
  bif (ok_ref01_Clip F a0 a1) then (
    some (.v (.tuple #[.int .i64 ((o_ref01_Clip_0 F a0 a1)), .bool ((o_ref01_Clip_1 F a0 a1))])))
  else (
    none) : R) := by
    intros
    kernel_rfl
  exact (h ok_ref01_Clip o_ref01_Clip_0 o_ref01_Clip_1).trans (by kernel_rfl)
def ok_ref02_clip (F : Nat) (a0 : Int) (a1 : Int) : Bool := okT to_ref02_clip (f_ref02_clip F a0 a1)
def o_ref02_clip_0 (F : Nat) (a0 : Int) (a1 : Int) : Int := atI (nth (outT to_ref02_clip (f_ref02_clip F a0 a1)) 0)
def o_ref02_clip_1 (F : Nat) (a0 : Int) (a1 : Int) : Bool := atB (nth (outT to_ref02_clip (f_ref02_clip F a0 a1)) 1)
theorem k_ref02_clip (F : Nat) (a0 : Int) (a1 : Int) {z0 : Int} {z1 : Bool} (h : f_ref02_clip F a0 a1 = some (.v (.tuple #[.int .i64 z0, .bool z1]))) : ok_ref02_clip F a0 a1 = true ∧ o_ref02_clip_0 F a0 a1 = z0 ∧ o_ref02_clip_1 F a0 a1 = z1 := by
  refine ⟨?_, ?_, ?_⟩
  · unfold ok_ref02_clip; rw [h]; kernel_rfl
  · unfold o_ref02_clip_0; rw [h]; kernel_rfl
  · unfold o_ref02_clip_1; rw [h]; kernel_rfl
def s_ref02_clip (F : Nat) : List VV → Option (Bool × VV) := spec ti_ref02_clip to_ref02_clip (fun q => (ok_ref02_clip F (atI (nth q 0)) (atI (nth q 1)))) (fun q => [.i (o_ref02_clip_0 F (atI (nth q 0)) (atI (nth q 1))), .b (o_ref02_clip_1 F (atI (nth q 0)) (atI (nth q 1)))])
theorem hS_ref02_clip (F : Nat) : ∀ f, Good PP f (unS (S_ref02_clip F f)) := words_good fun p hp => by
  simp only [List.mem_cons, List.not_mem_nil, or_false] at hp
  rcases hp with rfl
  · exact g_ref01_Clip F
theorem hl_ref02_clip (F : Nat) : ∀ p ∈ loopsIn PP 110, LoopOK PP (S_ref02_clip F) c_ref02_clip F (I_ref02_clip F) p :=
  loops_of [] (by kernel_rfl) all_nil
theorem g_ref02_clip (F : Nat) : Good PP 110 (unS (s_ref02_clip F)) :=
  fun_spec (hS_ref02_clip F) (by kernel_rfl) (by kernel_rfl) (C := c_ref02_clip) (F := fun q => (f_ref02_clip F (atI (nth q 0)) (atI (nth q 1)))) (fun _ => F) (fun _ => I_ref02_clip F) (fun _ => hl_ref02_clip F)
    (fun q => (congrArg (funL PP (S_ref02_clip F) c_ref02_clip (I_ref02_clip F) 110) (show (fTs ti_ref02_clip q).1 = (fTs ti_ref02_clip [.i (atI (nth q 0)), .i (atI (nth q 1))]).1 by kernel_rfl)).trans (e_ref02_clip F (atI (nth q 0)) (atI (nth q 1))))
    (fun _ h => (okT_fill h).trans (congrArg some (by kernel_rfl)))

end Go.Xv
set_option linter.unusedVariables false
namespace Go.Xv
/- 80 _ref02_Sum -/
def c_ref02_Sum : Cfg := ⟨[0, 2, 3, 4, 5, 10], [(0, [0, 2, 3, 4, 5, 6, 20, 21, 22, 23])], [18]⟩
def ti_ref02_Sum : List TV := [.fs .hole .hole 1]
def to_ref02_Sum : TV := .v (.tup [.int .i64, .bool])
def S_ref02_Sum (F : Nat) : FuncId → List VV → Option (Bool × VV) := words [(58, s_ref01_Of F), (51, s_ref01_Add F), (110, s_ref02_clip F)]
def T_ref02_Sum_0 : TS := ⟨[(0, .fs .hole .hole 1), (2, .v (.int .i64)), (3, .v (.bool)), (4, .lp 0 (.lit 0)), (5, .v (.int .i64))], [(0, ⟨(.ex [.v (.int .i64), .v (.int .u64)]), true⟩)], 1⟩
def T_ref02_Sum_0_0 : TS := ⟨[(0, .fs .hole .hole 1), (2, .v (.int .i64)), (3, .v (.bool)), (4, .lp 0 (.lit 0)), (5, .v (.int .i64))], [(0, ⟨(.ex [.v (.int .i64), .v (.int .u64)]), true⟩)], 1⟩
def B_ref02_Sum_0 (F : Nat) (rc : List VV → Nat → Nat → Int → Bool → Int → Int → Int → R) (ex0 : List VV → Nat → Nat → Int → Bool → Int → Int → Int → R) (x0 : List VV) (x1 : Nat) (x2 : Nat) (x3 : Int) (x4 : Bool) (x5 : Int) (x6 : Int) (x7 : Int) : R :=
  bif ((decide (x5 < (((x2 : Nat) : Int))))) then (
    bif ((decide (0 ≤ x5)) && (decide (x5 < ((x2 : Nat) : Int)))) then (
      let v1727 : Nat := (x1 + ((Int.toNat x5) * 1))
      bif ((isI .i64 x0[v1727]?) && true) then (
        let v1728 : Int := (iv x0[v1727]?)
        bif (ok_ref01_Of F v1728) then (
          let v1729 : Int := (o_ref01_Of_0 F v1728)
          let v1730 : Int := (o_ref01_Of_1 F v1728)
          bif (ok_ref01_Add F x6 x7 v1729 v1730) then (
            rc x0 x1 x2 x3 x4 ((IntKind.wrap .i64 (x5 + 1))) ((o_ref01_Add_0 F x6 x7 v1729 v1730)) ((o_ref01_Add_1 F x6 x7 v1729 v1730)))
          else (
            none))
        else (
          none))
      else (
        none))
    else (
      none))
  else (
    ex0 x0 x1 x2 x3 x4 x5 x6 x7)
def L_ref02_Sum_0 (F : Nat) (ex0 : List VV → Nat → Nat → Int → Bool → Int → Int → Int → R) : Nat → List VV → Nat → Nat → Int → Bool → Int → Int → Int → R
  | 0, _, _, _, _, _, _, _, _ => none
  | n + 1, x0, x1, x2, x3, x4, x5, x6, x7 => B_ref02_Sum_0 F (L_ref02_Sum_0 F ex0 n) ex0 x0 x1 x2 x3 x4 x5 x6 x7
def W_ref02_Sum (F : Nat) : List LW := [⟨0, T_ref02_Sum_0, fun k q => L_ref02_Sum_0 F (fun (z0 : List VV) (z1 : Nat) (z2 : Nat) (z3 : Int) (z4 : Bool) (z5 : Int) (z6 : Int) (z7 : Int) => k (.exit 0) (fS T_ref02_Sum_0_0 [.c z0, .n z1, .n z2, .i z3, .b z4, .i z5, .i z6, .i z7])) F (atC (nth q 0)) (atN (nth q 1)) (atN (nth q 2)) (atI (nth q 3)) (atB (nth q 4)) (atI (nth q 5)) (atI (nth q 6)) (atI (nth q 7))⟩]
def I_ref02_Sum (F : Nat) : Nat → VS → (Exit → VS → R) → R := tabI c_ref02_Sum (W_ref02_Sum F)
theorem lL_ref02_Sum_0 (F : Nat) (k : Exit → VS → R) : ∀ (n : Nat) (x0 : List VV) (x1 : Nat) (x2 : Nat) (x3 : Int) (x4 : Bool) (x5 : Int) (x6 : Int) (x7 : Int), iterC (codeL PP (S_ref02_Sum F) c_ref02_Sum (I_ref02_Sum F) (loopAt PP 80 0) 0) (headOf c_ref02_Sum 0) k n (fS T_ref02_Sum_0 [.c x0, .n x1, .n x2, .i x3, .b x4, .i x5, .i x6, .i x7]) = L_ref02_Sum_0 F (fun (z0 : List VV) (z1 : Nat) (z2 : Nat) (z3 : Int) (z4 : Bool) (z5 : Int) (z6 : Int) (z7 : Int) => k (.exit 0) (fS T_ref02_Sum_0_0 [.c z0, .n z1, .n z2, .i z3, .b z4, .i z5, .i z6, .i z7])) n x0 x1 x2 x3 x4 x5 x6 x7
  | 0, _, _, _, _, _, _, _, _ => rfl
  | n + 1, x0, x1, x2, x3, x4, x5, x6, x7 => by
    have h0 : ∀ (ok_ref01_Of : Nat → Int → Bool) (o_ref01_Of_0 : Nat → Int → Int) (o_ref01_Of_1 : Nat → Int → Int) (ok_ref01_Add : Nat → Int → Int → Int → Int → Bool) (o_ref01_Add_0 : Nat → Int → Int → Int → Int → Int) (o_ref01_Add_1 : Nat → Int → Int → Int → Int → Int) (ok_ref02_clip : Nat → Int → Int → Bool) (o_ref02_clip_0 : Nat → Int → Int → Int) (o_ref02_clip_1 : Nat → Int → Int → Bool) (L_ref02_Sum_0 : Nat → (List VV → Nat → Nat → Int → Bool → Int → Int → Int → R) → Nat → List VV → Nat → Nat → Int → Bool → Int → Int → Int → R), iterC (codeL PP (words [(58, spec ti_ref01_Of to_ref01_Of (fun q => (ok_ref01_Of F (atI (nth q 0)))) (fun q => [.i (o_ref01_Of_0 F (atI (nth q 0))), .i (o_ref01_Of_1 F (atI (nth q 0)))])), (51, spec ti_ref01_Add to_ref01_Add (fun q => (ok_ref01_Add F (atI (nth q 0)) (atI (nth q 1)) (atI (nth q 2)) (atI (nth q 3)))) (fun q => [.i (o_ref01_Add_0 F (atI (nth q 0)) (atI (nth q 1)) (atI (nth q 2)) (atI (nth q 3))), .i (o_ref01_Add_1 F (atI (nth q 0)) (atI (nth q 1)) (atI (nth q 2)) (atI (nth q 3)))])), (110, spec ti_ref02_clip to_ref02_clip (fun q => (ok_ref02_clip F (atI (nth q 0)) (atI (nth q 1)))) (fun q => [.i (o_ref02_clip_0 F (atI (nth q 0)) (atI (nth q 1))), .b (o_ref02_clip_1 F (atI (nth q 0)) (atI (nth q 1)))]))]) c_ref02_Sum (tabI c_ref02_Sum [⟨0, T_ref02_Sum_0, fun k q => L_ref02_Sum_0 F (fun (z0 : List VV) (z1 : Nat) (z2 : Nat) (z3 : Int) (z4 : Bool) (z5 : Int) (z6 : Int) (z7 : Int) => k (.exit 0) (fS T_ref02_Sum_0_0 [.c z0, .n z1, .n z2, .i z3, .b z4, .i z5, .i z6, .i z7])) F (atC (nth q 0)) (atN (nth q 1)) (atN (nth q 2)) (atI (nth q 3)) (atB (nth q 4)) (atI (nth q 5)) (atI (nth q 6)) (atI (nth q 7))⟩]) (loopAt PP 80 0) 0) (headOf c_ref02_Sum 0) k (n + 1) (fS T_ref02_Sum_0 [.c x0, .n x1, .n x2, .i x3, .b x4, .i x5, .i x6, .i x7]) = (fun (rc : List VV → Nat → Nat → Int → Bool → Int → Int → Int → R) (ex0 : List VV → Nat → Nat → Int → Bool → Int → Int → Int → R) (x0 : List VV) (x1 : Nat) (x2 : Nat) (x3 : Int) (x4 : Bool) (x5 : Int) (x6 : Int) (x7 : Int) => (
  bif ((decide (x5 < (((x2 : Nat) : Int))))) then (
    bif ((decide (0 ≤ x5)) && (decide (x5 < ((x2 : Nat) : Int)))) then (
      let v1727 : Nat := (x1 + ((Int.toNat x5) * 1))
      bif ((isI .i64 x0[v1727]?) && true) then (
        let v1728 : Int := (iv x0[v1727]?)
        bif (ok_ref01_Of F v1728) then (
          let v1729 : Int := (o_ref01_Of_0 F v1728)
          let v1730 : Int := (o_ref01_Of_1 F v1728)
          bif (ok_ref01_Add F x6 x7 v1729 v1730) then (
            rc x0 x1 x2 x3 x4 ((IntKind.wrap .i64 (x5 + 1))) ((o_ref01_Add_0 F x6 x7 v1729 v1730)) ((o_ref01_Add_1 F x6 x7 v1729 v1730)))
          else (
            none))
        else (
          none))
      else (
        none))
    else (
      none))
  else (
    ex0 x0 x1 x2 x3 x4 x5 x6 x7) : R)) (fun (y0 : List VV) (y1 : Nat) (y2 : Nat) (y3 : Int) (y4 : Bool) (y5 : Int) (y6 : Int) (y7 : Int) => iterC (codeL PP (words [(58, spec ti_ref01_Of to_ref01_Of (fun q => (ok_ref01_Of F (atI (nth q 0)))) (fun q => [.i (o_ref01_Of_0 F (atI (nth q 0))), .i (o_ref01_Of_1 F (atI (nth q 0)))])), (51, spec ti_ref01_Add to_ref01_Add (fun q => (ok_ref01_Add F (atI (nth q 0)) (atI (nth q 1)) (atI (nth q 2)) (atI (nth q 3)))) (fun q => [.i (o_ref01_Add_0 F (atI (nth q 0)) (atI (nth q 1)) (atI (nth q 2)) (atI (nth q 3))), .i (o_ref01_Add_1 F (atI (nth q 0)) (atI (nth q 1)) (atI (nth q 2)) (atI (nth q 3)))])), (110, spec ti_ref02_clip to_ref02_clip (fun q => (ok_ref02_clip F (atI (nth q 0)) (atI (nth q 1)))) (fun q => [.i (o_ref02_clip_0 F (atI (nth q 0)) (atI (nth q 1))), .b (o_ref02_clip_1 F (atI (nth q 0)) (atI (nth q 1)))]))]) c_ref02_Sum (tabI c_ref02_Sum [⟨0, T_ref02_Sum_0, fun k q => L_ref02_Sum_0 F (fun (z0 : List VV) (z1 : Nat) (z2 : Nat) (z3 : Int) (z4 : Bool) (z5 : Int) (z6 : Int) (z7 : Int) => k (.exit 0) (fS T_ref02_Sum_0_0 [.c z0, .n z1, .n z2, .i z3, .b z4, .i z5, .i z6, .i z7])) F (atC (nth q 0)) (atN (nth q 1)) (atN (nth q 2)) (atI (nth q 3)) (atB (nth q 4)) (atI (nth q 5)) (atI (nth q 6)) (atI (nth q 7))⟩]) (loopAt PP 80 0) 0) (headOf c_ref02_Sum 0) k n (fS T_ref02_Sum_0 [.c y0, .n y1, .n y2, .i y3, .b y4, .i y5, .i y6, .i y7])) (fun (z0 : List VV) (z1 : Nat) (z2 : Nat) (z3 : Int) (z4 : Bool) (z5 : Int) (z6 : Int) (z7 : Int) => k (.exit 0) (fS T_ref02_Sum_0_0 [.c z0, .n z1, .n z2, .i z3, .b z4, .i z5, .i z6, .i z7])) x0 x1 x2 x3 x4 x5 x6 x7 := by
      intros
      kernel_rfl
    have h : iterC (codeL PP (S_ref02_Sum F) c_ref02_Sum (I_ref02_Sum F) (loopAt PP 80 0) 0) (headOf c_ref02_Sum 0) k (n + 1) (fS T_ref02_Sum_0 [.c x0, .n x1, .n x2, .i x3, .b x4, .i x5, .i x6, .i x7]) = B_ref02_Sum_0 F (fun (y0 : List VV) (y1 : Nat) (y2 : Nat) (y3 : Int) (y4 : Bool) (y5 : Int) (y6 : Int) (y7 : Int) => iterC (codeL PP (S_ref02_Sum F) c_ref02_Sum (I_ref02_Sum F) (loopAt PP 80 0) 0) (headOf c_ref02_Sum 0) k n (fS T_ref02_Sum_0 [.c y0, .n y1, .n y2, .i y3, .b y4, .i y5, .i y6, .i y7])) (fun (z0 : List VV) (z1 : Nat) (z2 : Nat) (z3 : Int) (z4 : Bool) (z5 : Int) (z6 : Int) (z7 : Int) => k (.exit 0) (fS T_ref02_Sum_0_0 [.c z0, .n z1, .n z2, .i z3, .b z4, .i z5, .i z6, .i z7])) x0 x1 x2 x3 x4 x5 x6 x7 := (h0 ok_ref01_Of o_ref01_Of_0 o_ref01_Of_1 ok_ref01_Add o_ref01_Add_0 o_ref01_Add_1 ok_ref02_clip o_ref02_clip_0 o_ref02_clip_1 L_ref02_Sum_0).trans (by kernel_rfl)
    rw [h]
    simp only [lL_ref02_Sum_0 F k n]
    rfl
def f_ref02_Sum (F : Nat) (a0 : List VV) (a1 : Nat) (a2 : Nat) : R :=
  L_ref02_Sum_0 F (fun (v1734 : List VV) (v1735 : Nat) (v1736 : Nat) (v1737 : Int) (v1738 : Bool) (v1739 : Int) (v1740 : Int) (v1741 : Int) =>
    bif (ok_ref02_clip F v1740 v1741) then (
      some (.v (.tuple #[.int .i64 ((o_ref02_clip_0 F v1740 v1741)), .bool ((o_ref02_clip_1 F v1740 v1741))])))
    else (
      none)) F a0 a1 a2 0 false 0 0 0
theorem e_ref02_Sum (F : Nat) (a0 : List VV) (a1 : Nat) (a2 : Nat) : funL PP (S_ref02_Sum F) c_ref02_Sum (I_ref02_Sum F) 80 (fTs ti_ref02_Sum [.c a0, .n a1, .n a2]).1 = f_ref02_Sum F a0 a1 a2 := by
  have h : ∀ (ok_ref01_Of : Nat → Int → Bool) (o_ref01_Of_0 : Nat → Int → Int) (o_ref01_Of_1 : Nat → Int → Int) (ok_ref01_Add : Nat → Int → Int → Int → Int → Bool) (o_ref01_Add_0 : Nat → Int → Int → Int → Int → Int) (o_ref01_Add_1 : Nat → Int → Int → Int → Int → Int) (ok_ref02_clip : Nat → Int → Int → Bool) (o_ref02_clip_0 : Nat → Int → Int → Int) (o_ref02_clip_1 : Nat → Int → Int → Bool) (L_ref02_Sum_0 : Nat → (List VV → Nat → Nat → Int → Bool → Int → Int → Int → R) → Nat → List VV → Nat → Nat → Int → Bool → Int → Int → Int → R), funL PP (words [(58, spec ti_ref01_Of to_ref01_Of (fun q => (ok_ref01_Of F (atI (nth q 0)))) (fun q => [.i (o_ref01_Of_0 F (atI (nth q 0))), .i (o_ref01_Of_1 F (atI (nth q 0)))])), (51, spec ti_ref01_Add to_ref01_Add (fun q => (ok_ref01_Add F (atI (nth q 0)) (atI (nth q 1)) (atI (nth q 2)) (atI (nth q 3)))) (fun q => [.i (o_ref01_Add_0 F (atI (nth q 0)) (atI (nth q 1)) (atI (nth q 2)) (atI (nth q 3))), .i (o_ref01_Add_1 F (atI (nth q 0)) (atI (nth q 1)) (atI (nth q 2)) (atI (nth q 3)))])), (110, spec ti_ref02_clip to_ref02_clip (fun q => (ok_ref02_clip F (atI (nth q 0)) (atI (nth q 1)))) (fun q => [.i (o_ref02_clip_0 F (atI (nth q 0)) (atI (nth q 1))), .b (o_ref02_clip_1 F (atI (nth q 0)) (atI (nth q 1)))]))]) c_ref02_Sum (tabI c_ref02_Sum [⟨0, T_ref02_Sum_0, fun k q => L_ref02_Sum_0 F (fun (z0 : List VV) (z1 : Nat) (z2 : Nat) (z3 : Int) (z4 : Bool) (z5 : Int) (z6 : Int) (z7 : Int) => k (.exit 0) (fS T_ref02_Sum_0_0 [.c z0, .n z1, .n z2, .i z3, .b z4, .i z5, .i z6, .i z7])) F (atC (nth q 0)) (atN (nth q 1)) (atN (nth q 2)) (atI (nth q 3)) (atB (nth q 4)) (atI (nth q 5)) (atI (nth q 6)) (atI (nth q 7))⟩]) 80 (fTs ti_ref02_Sum [.c a0, .n a1, .n a2]).1 = (
  L_ref02_Sum_0 F (fun (v1734 : List VV) (v1735 : Nat) (v1736 : Nat) (v1737 : Int) (v1738 : Bool) (v1739 : Int) (v1740 : Int) (v1741 : Int) =>
    bif (ok_ref02_clip F v1740 v1741) then (
      some (.v (.tuple #[.int .i64 ((o_ref02_clip_0 F v1740 v1741)), .bool ((o_ref02_clip_1 F v1740 v1741))])))
    else (
      none)) F a0 a1 a2 0 false 0 0 0 : R) := by
    intros
    kernel_rfl
  exact (h ok_ref01_Of o_ref01_Of_0 o_ref01_Of_1 ok_ref01_Add o_ref01_Add_0 o_ref01_Add_1 ok_ref02_clip o_ref02_clip_0 o_ref02_clip_1 L_ref02_Sum_0).trans (by kernel_rfl)
def ok_ref02_Sum (F : Nat) (a0 : List VV) (a1 : Nat) (a2 : Nat) : Bool := okT to_ref02_Sum (f_ref02_Sum F a0 a1 a2)
def o_ref02_Sum_0 (F : Nat) (a0 : List VV) (a1 : Nat) (a2 : Nat) : Int := atI (nth (outT to_ref02_Sum (f_ref02_Sum F a0 a1 a2)) 0)
def o_ref02_Sum_1 (F : Nat) (a0 : List VV) (a1 : Nat) (a2 : Nat) : Bool := atB (nth (outT to_ref02_Sum (f_ref02_Sum F a0 a1 a2)) 1)
theorem k_ref02_Sum (F : Nat) (a0 : List VV) (a1 : Nat) (a2 : Nat) {z0 : Int} {z1 : Bool} (h : f_ref02_Sum F a0 a1 a2 = some (.v (.tuple #[.int .i64 z0, .bool z1]))) : ok_ref02_Sum F a0 a1 a2 = true ∧ o_ref02_Sum_0 F a0 a1 a2 = z0 ∧ o_ref02_Sum_1 F a0 a1 a2 = z1 := by
  refine ⟨?_, ?_, ?_⟩
  · unfold ok_ref02_Sum; rw [h]; kernel_rfl
  · unfold o_ref02_Sum_0; rw [h]; kernel_rfl
  · unfold o_ref02_Sum_1; rw [h]; kernel_rfl
def s_ref02_Sum (F : Nat) : List VV → Option (Bool × VV) := spec ti_ref02_Sum to_ref02_Sum (fun q => (ok_ref02_Sum F (atC (nth q 0)) (atN (nth q 1)) (atN (nth q 2)))) (fun q => [.i (o_ref02_Sum_0 F (atC (nth q 0)) (atN (nth q 1)) (atN (nth q 2))), .b (o_ref02_Sum_1 F (atC (nth q 0)) (atN (nth q 1)) (atN (nth q 2)))])
theorem hS_ref02_Sum (F : Nat) : ∀ f, Good PP f (unS (S_ref02_Sum F f)) := words_good fun p hp => by
  simp only [List.mem_cons, List.not_mem_nil, or_false] at hp
  rcases hp with rfl | rfl | rfl
  · exact g_ref01_Of F
  · exact g_ref01_Add F
  · exact g_ref02_clip F
theorem hl_ref02_Sum (F : Nat) : ∀ p ∈ loopsIn PP 80, LoopOK PP (S_ref02_Sum F) c_ref02_Sum F (I_ref02_Sum F) p :=
  loops_of [(0, loopAt PP 80 0)] (by kernel_rfl) (all_cons
    (loop_ok (W_ref02_Sum F) rfl (tab_cons (fun _ k q => Le.ofEq ((lL_ref02_Sum_0 F k F (atC (nth q 0)) (atN (nth q 1)) (atN (nth q 2)) (atI (nth q 3)) (atB (nth q 4)) (atI (nth q 5)) (atI (nth q 6)) (atI (nth q 7))).symm.trans (congrArg (iterC (codeL PP (S_ref02_Sum F) c_ref02_Sum (I_ref02_Sum F) (loopAt PP 80 0) 0) (headOf c_ref02_Sum 0) k F) (show fS T_ref02_Sum_0 [.c (atC (nth q 0)), .n (atN (nth q 1)), .n (atN (nth q 2)), .i (atI (nth q 3)), .b (atB (nth q 4)), .i (atI (nth q 5)), .i (atI (nth q 6)), .i (atI (nth q 7))] = fS T_ref02_Sum_0 q by kernel_rfl)))) tab_nil)) all_nil)
theorem g_ref02_Sum (F : Nat) : Good PP 80 (unS (s_ref02_Sum F)) :=
  fun_spec (hS_ref02_Sum F) (by kernel_rfl) (by kernel_rfl) (C := c_ref02_Sum) (F := fun q => (f_ref02_Sum F (atC (nth q 0)) (atN (nth q 1)) (atN (nth q 2)))) (fun _ => F) (fun _ => I_ref02_Sum F) (fun _ => hl_ref02_Sum F)
    (fun q => (congrArg (funL PP (S_ref02_Sum F) c_ref02_Sum (I_ref02_Sum F) 80) (show (fTs ti_ref02_Sum q).1 = (fTs ti_ref02_Sum [.c (atC (nth q 0)), .n (atN (nth q 1)), .n (atN (nth q 2))]).1 by kernel_rfl)).trans (e_ref02_Sum F (atC (nth q 0)) (atN (nth q 1)) (atN (nth q 2))))
    (fun _ h => (okT_fill h).trans (congrArg some (by kernel_rfl)))

end Go.Xv
set_option linter.unusedVariables false
namespace Go.Xv
/- 81 _fix_Clamp -/
def c_fix_Clamp : Cfg := ⟨[0, 1, 2, 6, 7, 8, 11], [], []⟩
def ti_fix_Clamp : List TV := [.v (.int .i64), .v (.int .i64), .v (.int .i64)]
def to_fix_Clamp : TV := .v (.tup [.int .i64, .bool])
def S_fix_Clamp (F : Nat) : FuncId → List VV → Option (Bool × VV) := words []
def W_fix_Clamp (F : Nat) : List LW := []
def I_fix_Clamp (F : Nat) : Nat → VS → (Exit → VS → R) → R := tabI c_fix_Clamp (W_fix_Clamp F)
def f_fix_Clamp (F : Nat) (a0 : Int) (a1 : Int) (a2 : Int) : R :=
  bif ((decide (a2 < a1))) then (
    some (.v (.tuple #[.int .i64 a1, .bool true])))
  else (
    let v1756 : Int := (if a1 > a0 then a1 else a0)
    let v1757 : Int := (if a2 < v1756 then a2 else v1756)
    some (.v (.tuple #[.int .i64 v1757, .bool ((v1757 != a0))])))
theorem e_fix_Clamp (F : Nat) (a0 : Int) (a1 : Int) (a2 : Int) : funL PP (S_fix_Clamp F) c_fix_Clamp (I_fix_Clamp F) 81 (fTs ti_fix_Clamp [.i a0, .i a1, .i a2]).1 = f_fix_Clamp F a0 a1 a2 := by
  have h : ∀ (_ : Unit), funL PP (words []) c_fix_Clamp (tabI c_fix_Clamp []) 81 (fTs ti_fix_Clamp [.i a0, .i a1, .i a2]).1 = (
  bif ((decide (a2 < a1))) then (
    some (.v (.tuple #[.int .i64 a1, .bool true])))
  else (
    let v1756 : Int := (if a1 > a0 then a1 else a0)
    let v1757 : Int := (if a2 < v1756 then a2 else v1756)
    some (.v (.tuple #[.int .i64 v1757, .bool ((v1757 != a0))]))) : R) := by
    intros
    kernel_rfl
  exact (h ()).trans (by kernel_rfl)
def ok_fix_Clamp (F : Nat) (a0 : Int) (a1 : Int) (a2 : Int) : Bool := okT to_fix_Clamp (f_fix_Clamp F a0 a1 a2)
def o_fix_Clamp_0 (F : Nat) (a0 : Int) (a1 : Int) (a2 : Int) : Int := atI (nth (outT to_fix_Clamp (f_fix_Clamp F a0 a1 a2)) 0)
def o_fix_Clamp_1 (F : Nat) (a0 : Int) (a1 : Int) (a2 : Int) : Bool := atB (nth (outT to_fix_Clamp (f_fix_Clamp F a0 a1 a2)) 1)
theorem k_fix_Clamp (F : Nat) (a0 : Int) (a1 : Int) (a2 : Int) {z0 : Int} {z1 : Bool} (h : f_fix_Clamp F a0 a1 a2 = some (.v (.tuple #[.int .i64 z0, .bool z1]))) : ok_fix_Clamp F a0 a1 a2 = true ∧ o_fix_Clamp_0 F a0 a1 a2 = z0 ∧ o_fix_Clamp_1 F a0 a1 a2 = z1 := by
  refine ⟨?_, ?_, ?_⟩
  · unfold ok_fix_Clamp; rw [h]; kernel_rfl
  · unfold o_fix_Clamp_0; rw [h]; kernel_rfl
  · unfold o_fix_Clamp_1; rw [h]; kernel_rfl
def s_fix_Clamp (F : Nat) : List VV → Option (Bool × VV) := spec ti_fix_Clamp to_fix_Clamp (fun q => (ok_fix_Clamp F (atI (nth q 0)) (atI (nth q 1)) (atI (nth q 2)))) (fun q => [.i (o_fix_Clamp_0 F (atI (nth q 0)) (atI (nth q 1)) (atI (nth q 2))), .b (o_fix_Clamp_1 F (atI (nth q 0)) (atI (nth q 1)) (atI (nth q 2)))])
theorem hS_fix_Clamp (F : Nat) : ∀ f, Good PP f (unS (S_fix_Clamp F f)) := words_good fun p hp => by
  cases hp
theorem hl_fix_Clamp (F : Nat) : ∀ p ∈ loopsIn PP 81, LoopOK PP (S_fix_Clamp F) c_fix_Clamp F (I_fix_Clamp F) p :=
  loops_of [] (by kernel_rfl) all_nil
theorem g_fix_Clamp (F : Nat) : Good PP 81 (unS (s_fix_Clamp F)) :=
  fun_spec (hS_fix_Clamp F) (by kernel_rfl) (by kernel_rfl) (C := c_fix_Clamp) (F := fun q => (f_fix_Clamp F (atI (nth q 0)) (atI (nth q 1)) (atI (nth q 2)))) (fun _ => F) (fun _ => I_fix_Clamp F) (fun _ => hl_fix_Clamp F)
    (fun q => (congrArg (funL PP (S_fix_Clamp F) c_fix_Clamp (I_fix_Clamp F) 81) (show (fTs ti_fix_Clamp q).1 = (fTs ti_fix_Clamp [.i (atI (nth q 0)), .i (atI (nth q 1)), .i (atI (nth q 2))]).1 by kernel_rfl)).trans (e_fix_Clamp F (atI (nth q 0)) (atI (nth q 1)) (atI (nth q 2))))
    (fun _ h => (okT_fill h).trans (congrArg some (by kernel_rfl)))

end Go.Xv
set_option linter.unusedVariables false
namespace Go.Xv
/- 82 _fix_Mid -/
def c_fix_Mid : Cfg := ⟨[0, 1, 4], [], []⟩
def ti_fix_Mid : List TV := [.v (.int .i64), .v (.int .i64)]
def to_fix_Mid : TV := .v (.int .i64)
def S_fix_Mid (F : Nat) : FuncId → List VV → Option (Bool × VV) := words []
def W_fix_Mid (F : Nat) : List LW := []
def I_fix_Mid (F : Nat) : Nat → VS → (Exit → VS → R) → R := tabI c_fix_Mid (W_fix_Mid F)
def f_fix_Mid (F : Nat) (a0 : Int) (a1 : Int) : R :=
  some (.v (.int .i64 ((IntKind.wrap .i64 (((andI .i64 a0 a1)) + ((Int.fdiv ((xorI .i64 a0 a1)) (2))))))))
theorem e_fix_Mid (F : Nat) (a0 : Int) (a1 : Int) : funL PP (S_fix_Mid F) c_fix_Mid (I_fix_Mid F) 82 (fTs ti_fix_Mid [.i a0, .i a1]).1 = f_fix_Mid F a0 a1 := by
  have h : ∀ (_ : Unit), funL PP (words []) c_fix_Mid (tabI c_fix_Mid []) 82 (fTs ti_fix_Mid [.i a0, .i a1]).1 = (
  some (.v (.int .i64 ((IntKind.wrap .i64 (((andI .i64 a0 a1)) + ((Int.fdiv ((xorI .i64 a0 a1)) (2)))))))) : R) := by
    intros
    kernel_rfl
  exact (h ()).trans (by kernel_rfl)
def ok_fix_Mid (F : Nat) (a0 : Int) (a1 : Int) : Bool := okT to_fix_Mid (f_fix_Mid F a0 a1)
def o_fix_Mid_0 (F : Nat) (a0 : Int) (a1 : Int) : Int := atI (nth (outT to_fix_Mid (f_fix_Mid F a0 a1)) 0)
theorem k_fix_Mid (F : Nat) (a0 : Int) (a1 : Int) {z0 : Int} (h : f_fix_Mid F a0 a1 = some (.v (.int .i64 z0))) : ok_fix_Mid F a0 a1 = true ∧ o_fix_Mid_0 F a0 a1 = z0 := by
  refine ⟨?_, ?_⟩
  · unfold ok_fix_Mid; rw [h]; kernel_rfl
  · unfold o_fix_Mid_0; rw [h]; kernel_rfl
def s_fix_Mid (F : Nat) : List VV → Option (Bool × VV) := spec ti_fix_Mid to_fix_Mid (fun q => (ok_fix_Mid F (atI (nth q 0)) (atI (nth q 1)))) (fun q => [.i (o_fix_Mid_0 F (atI (nth q 0)) (atI (nth q 1)))])
theorem hS_fix_Mid (F : Nat) : ∀ f, Good PP f (unS (S_fix_Mid F f)) := words_good fun p hp => by
  cases hp
theorem hl_fix_Mid (F : Nat) : ∀ p ∈ loopsIn PP 82, LoopOK PP (S_fix_Mid F) c_fix_Mid F (I_fix_Mid F) p :=
  loops_of [] (by kernel_rfl) all_nil
theorem g_fix_Mid (F : Nat) : Good PP 82 (unS (s_fix_Mid F)) :=
  fun_spec (hS_fix_Mid F) (by kernel_rfl) (by kernel_rfl) (C := c_fix_Mid) (F := fun q => (f_fix_Mid F (atI (nth q 0)) (atI (nth q 1)))) (fun _ => F) (fun _ => I_fix_Mid F) (fun _ => hl_fix_Mid F)
    (fun q => (congrArg (funL PP (S_fix_Mid F) c_fix_Mid (I_fix_Mid F) 82) (show (fTs ti_fix_Mid q).1 = (fTs ti_fix_Mid [.i (atI (nth q 0)), .i (atI (nth q 1))]).1 by kernel_rfl)).trans (e_fix_Mid F (atI (nth q 0)) (atI (nth q 1))))
    (fun _ h => (okT_fill h).trans (congrArg some (by kernel_rfl)))

end Go.Xv
set_option linter.unusedVariables false
namespace Go.Xv
/- 88 _ref02_Int -/
def c_ref02_Int : Cfg := ⟨[0, 2, 3], [], [5]⟩
def ti_ref02_Int : List TV := [.v (.int .i64)]
def to_ref02_Int : TV := .v (.tup [.int .i64, .bool])
def S_ref02_Int (F : Nat) : FuncId → List VV → Option (Bool × VV) := words [(41, s_ref01_Mul F), (110, s_ref02_clip F)]
def W_ref02_Int (F : Nat) : List LW := []
def I_ref02_Int (F : Nat) : Nat → VS → (Exit → VS → R) → R := tabI c_ref02_Int (W_ref02_Int F)
def f_ref02_Int (F : Nat) (a0 : Int) : R :=
  bif (ok_ref01_Mul F a0 4294967296) then (
    let v1778 : Int := (o_ref01_Mul_0 F a0 4294967296)
    let v1779 : Int := (o_ref01_Mul_1 F a0 4294967296)
    bif (ok_ref02_clip F v1778 v1779) then (
      some (.v (.tuple #[.int .i64 ((o_ref02_clip_0 F v1778 v1779)), .bool ((o_ref02_clip_1 F v1778 v1779))])))
    else (
      none))
  else (
    none)
theorem e_ref02_Int (F : Nat) (a0 : Int) : funL PP (S_ref02_Int F) c_ref02_Int (I_ref02_Int F) 88 (fTs ti_ref02_Int [.i a0]).1 = f_ref02_Int F a0 := by
  have h : ∀ (ok_ref01_Mul : Nat → Int → Int → Bool) (o_ref01_Mul_0 : Nat → Int → Int → Int) (o_ref01_Mul_1 : Nat → Int → Int → Int) (ok_ref02_clip : Nat → Int → Int → Bool) (o_ref02_clip_0 : Nat → Int → Int → Int) (o_ref02_clip_1 : Nat → Int → Int → Bool), funL PP (words [(41, spec ti_ref01_Mul to_ref01_Mul (fun q => (ok_ref01_Mul F (atI (nth q 0)) (atI (nth q 1)))) (fun q => [.i (o_ref01_Mul_0 F (atI (nth q 0)) (atI (nth q 1))), .i (o_ref01_Mul_1 F (atI (nth q 0)) (atI (nth q 1)))])), (110, spec ti_ref02_clip to_ref02_clip (fun q => (ok_ref02_clip F (atI (nth q 0)) (atI (nth q 1)))) (fun q => [.i (o_ref02_clip_0 F (atI (nth q 0)) (atI (nth q 1))), .b (o_ref02_clip_1 F (atI (nth q 0)) (atI (nth q 1)))]))]) c_ref02_Int (tabI c_ref02_Int []) 88 (fTs ti_ref02_Int [.i a0]).1 = (
  bif (ok_ref01_Mul F a0 4294967296) then (
    let v1778 : Int := (o_ref01_Mul_0 F a0 4294967296)
    let v1779 : Int := (o_ref01_Mul_1 F a0 4294967296)
    bif (ok_ref02_clip F v1778 v1779) then (
      some (.v (.tuple #[.int .i64 ((o_ref02_clip_0 F v1778 v1779)), .bool ((o_ref02_clip_1 F v1778 v1779))])))
    else (
      none))
  else (
    none) : R) := by
    intros
    kernel_rfl
  exact (h ok_ref01_Mul o_ref01_Mul_0 o_ref01_Mul_1 ok_ref02_clip o_ref02_clip_0 o_ref02_clip_1).trans (by kernel_rfl)
def ok_ref02_Int (F : Nat) (a0 : Int) : Bool := okT to_ref02_Int (f_ref02_Int F a0)
def o_ref02_Int_0 (F : Nat) (a0 : Int) : Int := atI (nth (outT to_ref02_Int (f_ref02_Int F a0)) 0)
def o_ref02_Int_1 (F : Nat) (a0 : Int) : Bool := atB (nth (outT to_ref02_Int (f_ref02_Int F a0)) 1)
theorem k_ref02_Int (F : Nat) (a0 : Int) {z0 : Int} {z1 : Bool} (h : f_ref02_Int F a0 = some (.v (.tuple #[.int .i64 z0, .bool z1]))) : ok_ref02_Int F a0 = true ∧ o_ref02_Int_0 F a0 = z0 ∧ o_ref02_Int_1 F a0 = z1 := by
  refine ⟨?_, ?_, ?_⟩
  · unfold ok_ref02_Int; rw [h]; kernel_rfl
  · unfold o_ref02_Int_0; rw [h]; kernel_rfl
  · unfold o_ref02_Int_1; rw [h]; kernel_rfl
def s_ref02_Int (F : Nat) : List VV → Option (Bool × VV) := spec ti_ref02_Int to_ref02_Int (fun q => (ok_ref02_Int F (atI (nth q 0)))) (fun q => [.i (o_ref02_Int_0 F (atI (nth q 0))), .b (o_ref02_Int_1 F (atI (nth q 0)))])
theorem hS_ref02_Int (F : Nat) : ∀ f, Good PP f (unS (S_ref02_Int F f)) := words_good fun p hp => by
  simp only [List.mem_cons, List.not_mem_nil, or_false] at hp
  rcases hp with rfl | rfl
  · exact g_ref01_Mul F
  · exact g_ref02_clip F
theorem hl_ref02_Int (F : Nat) : ∀ p ∈ loopsIn PP 88, LoopOK PP (S_ref02_Int F) c_ref02_Int F (I_ref02_Int F) p :=
  loops_of [] (by kernel_rfl) all_nil
theorem g_ref02_Int (F : Nat) : Good PP 88 (unS (s_ref02_Int F)) :=
  fun_spec (hS_ref02_Int F) (by kernel_rfl) (by kernel_rfl) (C := c_ref02_Int) (F := fun q => (f_ref02_Int F (atI (nth q 0)))) (fun _ => F) (fun _ => I_ref02_Int F) (fun _ => hl_ref02_Int F)
    (fun q => (congrArg (funL PP (S_ref02_Int F) c_ref02_Int (I_ref02_Int F) 88) (show (fTs ti_ref02_Int q).1 = (fTs ti_ref02_Int [.i (atI (nth q 0))]).1 by kernel_rfl)).trans (e_ref02_Int F (atI (nth q 0))))
    (fun _ h => (okT_fill h).trans (congrArg some (by kernel_rfl)))

end Go.Xv
set_option linter.unusedVariables false
namespace Go.Xv
/- 89 _ref02_Add -/
def c_ref02_Add : Cfg := ⟨[0, 1, 4, 5], [], [7, 9, 10]⟩
def ti_ref02_Add : List TV := [.v (.int .i64), .v (.int .i64)]
def to_ref02_Add : TV := .v (.tup [.int .i64, .bool])
def S_ref02_Add (F : Nat) : FuncId → List VV → Option (Bool × VV) := words [(58, s_ref01_Of F), (51, s_ref01_Add F), (110, s_ref02_clip F)]
def W_ref02_Add (F : Nat) : List LW := []
def I_ref02_Add (F : Nat) : Nat → VS → (Exit → VS → R) → R := tabI c_ref02_Add (W_ref02_Add F)
def f_ref02_Add (F : Nat) (a0 : Int) (a1 : Int) : R :=
  bif (ok_ref01_Of F a0) then (
    let v1786 : Int := (o_ref01_Of_0 F a0)
    let v1787 : Int := (o_ref01_Of_1 F a0)
    bif (ok_ref01_Of F a1) then (
      let v1788 : Int := (o_ref01_Of_0 F a1)
      let v1789 : Int := (o_ref01_Of_1 F a1)
      bif (ok_ref01_Add F v1786 v1787 v1788 v1789) then (
        let v1790 : Int := (o_ref01_Add_0 F v1786 v1787 v1788 v1789)
        let v1791 : Int := (o_ref01_Add_1 F v1786 v1787 v1788 v1789)
        bif (ok_ref02_clip F v1790 v1791) then (
          some (.v (.tuple #[.int .i64 ((o_ref02_clip_0 F v1790 v1791)), .bool ((o_ref02_clip_1 F v1790 v1791))])))
        else (
          none))
      else (
        none))
    else (
      none))
  else (
    none)
theorem e_ref02_Add (F : Nat) (a0 : Int) (a1 : Int) : funL PP (S_ref02_Add F) c_ref02_Add (I_ref02_Add F) 89 (fTs ti_ref02_Add [.i a0, .i a1]).1 = f_ref02_Add F a0 a1 := by
  have h : ∀ (ok_ref01_Of : Nat → Int → Bool) (o_ref01_Of_0 : Nat → Int → Int) (o_ref01_Of_1 : Nat → Int → Int) (ok_ref01_Add : Nat → Int → Int → Int → Int → Bool) (o_ref01_Add_0 : Nat → Int → Int → Int → Int → Int) (o_ref01_Add_1 : Nat → Int → Int → Int → Int → Int) (ok_ref02_clip : Nat → Int → Int → Bool) (o_ref02_clip_0 : Nat → Int → Int → Int) (o_ref02_clip_1 : Nat → Int → Int → Bool), funL PP (words [(58, spec ti_ref01_Of to_ref01_Of (fun q => (ok_ref01_Of F (atI (nth q 0)))) (fun q => [.i (o_ref01_Of_0 F (atI (nth q 0))), .i (o_ref01_Of_1 F (atI (nth q 0)))])), (51, spec ti_ref01_Add to_ref01_Add (fun q => (ok_ref01_Add F (atI (nth q 0)) (atI (nth q 1)) (atI (nth q 2)) (atI (nth q 3)))) (fun q => [.i (o_ref01_Add_0 F (atI (nth q 0)) (atI (nth q 1)) (atI (nth q 2)) (atI (nth q 3))), .i (o_ref01_Add_1 F (atI (nth q 0)) (atI (nth q 1)) (atI (nth q 2)) (atI (nth q 3)))])), (110, spec ti_ref02_clip to_ref02_clip (fun q => (ok_ref02_clip F (atI (nth q 0)) (atI (nth q 1)))) (fun q => [.i (o_ref02_clip_0 F (atI (nth q 0)) (atI (nth q 1))), .b (o_ref02_clip_1 F (atI (nth q 0)) (atI (nth q 1)))]))]) c_ref02_Add (tabI c_ref02_Add []) 89 (fTs ti_ref02_Add [.i a0, .i a1]).1 = (
  bif (ok_ref01_Of F a0) then (
    let v1786 : Int := (o_ref01_Of_0 F a0)
    let v1787 : Int := (o_ref01_Of_1 F a0)
    bif (ok_ref01_Of F a1) then (
      let v1788 : Int := (o_ref01_Of_0 F a1)
      let v1789 : Int := (o_ref01_Of_1 F a1)
      bif (ok_ref01_Add F v1786 v1787 v1788 v1789) then (
        let v1790 : Int := (o_ref01_Add_0 F v1786 v1787 v1788 v1789)
        let v1791 : Int := (o_ref01_Add_1 F v1786 v1787 v1788 v1789)
        bif (ok_ref02_clip F v1790 v1791) then (
          some (.v (.tuple #[.int .i64 ((o_ref02_clip_0 F v1790 v1791)), .bool ((o_ref02_clip_1 F v1790 v1791))])))
        else (
          none))
      else (
        none))
    else (
      none))
  else (
    none) : R) := by
    intros
    kernel_rfl
  exact (h ok_ref01_Of o_ref01_Of_0 o_ref01_Of_1 ok_ref01_Add o_ref01_Add_0 o_ref01_Add_1 ok_ref02_clip o_ref02_clip_0 o_ref02_clip_1).trans (by kernel_rfl)
def ok_ref02_Add (F : Nat) (a0 : Int) (a1 : Int) : Bool := okT to_ref02_Add (f_ref02_Add F a0 a1)
def o_ref02_Add_0 (F : Nat) (a0 : Int) (a1 : Int) : Int := atI (nth (outT to_ref02_Add (f_ref02_Add F a0 a1)) 0)
def o_ref02_Add_1 (F : Nat) (a0 : Int) (a1 : Int) : Bool := atB (nth (outT to_ref02_Add (f_ref02_Add F a0 a1)) 1)
theorem k_ref02_Add (F : Nat) (a0 : Int) (a1 : Int) {z0 : Int} {z1 : Bool} (h : f_ref02_Add F a0 a1 = some (.v (.tuple #[.int .i64 z0, .bool z1]))) : ok_ref02_Add F a0 a1 = true ∧ o_ref02_Add_0 F a0 a1 = z0 ∧ o_ref02_Add_1 F a0 a1 = z1 := by
  refine ⟨?_, ?_, ?_⟩
  · unfold ok_ref02_Add; rw [h]; kernel_rfl
  · unfold o_ref02_Add_0; rw [h]; kernel_rfl
  · unfold o_ref02_Add_1; rw [h]; kernel_rfl
def s_ref02_Add (F : Nat) : List VV → Option (Bool × VV) := spec ti_ref02_Add to_ref02_Add (fun q => (ok_ref02_Add F (atI (nth q 0)) (atI (nth q 1)))) (fun q => [.i (o_ref02_Add_0 F (atI (nth q 0)) (atI (nth q 1))), .b (o_ref02_Add_1 F (atI (nth q 0)) (atI (nth q 1)))])
theorem hS_ref02_Add (F : Nat) : ∀ f, Good PP f (unS (S_ref02_Add F f)) := words_good fun p hp => by
  simp only [List.mem_cons, List.not_mem_nil, or_false] at hp
  rcases hp with rfl | rfl | rfl
  · exact g_ref01_Of F
  · exact g_ref01_Add F
  · exact g_ref02_clip F
theorem hl_ref02_Add (F : Nat) : ∀ p ∈ loopsIn PP 89, LoopOK PP (S_ref02_Add F) c_ref02_Add F (I_ref02_Add F) p :=
  loops_of [] (by kernel_rfl) all_nil
theorem g_ref02_Add (F : Nat) : Good PP 89 (unS (s_ref02_Add F)) :=
  fun_spec (hS_ref02_Add F) (by kernel_rfl) (by kernel_rfl) (C := c_ref02_Add) (F := fun q => (f_ref02_Add F (atI (nth q 0)) (atI (nth q 1)))) (fun _ => F) (fun _ => I_ref02_Add F) (fun _ => hl_ref02_Add F)
    (fun q => (congrArg (funL PP (S_ref02_Add F) c_ref02_Add (I_ref02_Add F) 89) (show (fTs ti_ref02_Add q).1 = (fTs ti_ref02_Add [.i (atI (nth q 0)), .i (atI (nth q 1))]).1 by kernel_rfl)).trans (e_ref02_Add F (atI (nth q 0)) (atI (nth q 1))))
    (fun _ h => (okT_fill h).trans (congrArg some (by kernel_rfl)))

end Go.Xv
set_option linter.unusedVariables false
namespace Go.Xv
/- 90 _fix_Sub -/
def c_fix_Sub : Cfg := ⟨[0, 1, 4, 5, 6, 17, 20], [], []⟩
def ti_fix_Sub : List TV := [.v (.int .i64), .v (.int .i64)]
def to_fix_Sub : TV := .v (.tup [.int .i64, .bool])
def S_fix_Sub (F : Nat) : FuncId → List VV → Option (Bool × VV) := words []
def W_fix_Sub (F : Nat) : List LW := []
def I_fix_Sub (F : Nat) : Nat → VS → (Exit → VS → R) → R := tabI c_fix_Sub (W_fix_Sub F)
def f_fix_Sub (F : Nat) (a0 : Int) (a1 : Int) : R :=
  let v1796 : Int := (IntKind.wrap .i64 (a0 - a1))
  bif ((decide (((andI .i64 ((xorI .i64 a0 a1)) ((xorI .i64 a0 v1796)))) ≥ 0))) then (
    some (.v (.tuple #[.int .i64 v1796, .bool false])))
  else (
    bif ((decide (a0 < 0))) then (
      some (.v (.tuple #[.int .i64 (-9223372036854775808), .bool true])))
    else (
      some (.v (.tuple #[.int .i64 9223372036854775807, .bool true]))))
theorem e_fix_Sub (F : Nat) (a0 : Int) (a1 : Int) : funL PP (S_fix_Sub F) c_fix_Sub (I_fix_Sub F) 90 (fTs ti_fix_Sub [.i a0, .i a1]).1 = f_fix_Sub F a0 a1 := by
  have h : ∀ (_ : Unit), funL PP (words []) c_fix_Sub (tabI c_fix_Sub []) 90 (fTs ti_fix_Sub [.i a0, .i a1]).1 = (
  let v1796 : Int := (IntKind.wrap .i64 (a0 - a1))
  bif ((decide (((andI .i64 ((xorI .i64 a0 a1)) ((xorI .i64 a0 v1796)))) ≥ 0))) then (
    some (.v (.tuple #[.int .i64 v1796, .bool false])))
  else (
    bif ((decide (a0 < 0))) then (
      some (.v (.tuple #[.int .i64 (-9223372036854775808), .bool true])))
    else (
      some (.v (.tuple #[.int .i64 9223372036854775807, .bool true])))) : R) := by
    intros
    kernel_rfl
  exact (h ()).trans (by kernel_rfl)
def ok_fix_Sub (F : Nat) (a0 : Int) (a1 : Int) : Bool := okT to_fix_Sub (f_fix_Sub F a0 a1)
def o_fix_Sub_0 (F : Nat) (a0 : Int) (a1 : Int) : Int := atI (nth (outT to_fix_Sub (f_fix_Sub F a0 a1)) 0)
def o_fix_Sub_1 (F : Nat) (a0 : Int) (a1 : Int) : Bool := atB (nth (outT to_fix_Sub (f_fix_Sub F a0 a1)) 1)
theorem k_fix_Sub (F : Nat) (a0 : Int) (a1 : Int) {z0 : Int} {z1 : Bool} (h : f_fix_Sub F a0 a1 = some (.v (.tuple #[.int .i64 z0, .bool z1]))) : ok_fix_Sub F a0 a1 = true ∧ o_fix_Sub_0 F a0 a1 = z0 ∧ o_fix_Sub_1 F a0 a1 = z1 := by
  refine ⟨?_, ?_, ?_⟩
  · unfold ok_fix_Sub; rw [h]; kernel_rfl
  · unfold o_fix_Sub_0; rw [h]; kernel_rfl
  · unfold o_fix_Sub_1; rw [h]; kernel_rfl
def s_fix_Sub (F : Nat) : List VV → Option (Bool × VV) := spec ti_fix_Sub to_fix_Sub (fun q => (ok_fix_Sub F (atI (nth q 0)) (atI (nth q 1)))) (fun q => [.i (o_fix_Sub_0 F (atI (nth q 0)) (atI (nth q 1))), .b (o_fix_Sub_1 F (atI (nth q 0)) (atI (nth q 1)))])
theorem hS_fix_Sub (F : Nat) : ∀ f, Good PP f (unS (S_fix_Sub F f)) := words_good fun p hp => by
  cases hp
theorem hl_fix_Sub (F : Nat) : ∀ p ∈ loopsIn PP 90, LoopOK PP (S_fix_Sub F) c_fix_Sub F (I_fix_Sub F) p :=
  loops_of [] (by kernel_rfl) all_nil
theorem g_fix_Sub (F : Nat) : Good PP 90 (unS (s_fix_Sub F)) :=
  fun_spec (hS_fix_Sub F) (by kernel_rfl) (by kernel_rfl) (C := c_fix_Sub) (F := fun q => (f_fix_Sub F (atI (nth q 0)) (atI (nth q 1)))) (fun _ => F) (fun _ => I_fix_Sub F) (fun _ => hl_fix_Sub F)
    (fun q => (congrArg (funL PP (S_fix_Sub F) c_fix_Sub (I_fix_Sub F) 90) (show (fTs ti_fix_Sub q).1 = (fTs ti_fix_Sub [.i (atI (nth q 0)), .i (atI (nth q 1))]).1 by kernel_rfl)).trans (e_fix_Sub F (atI (nth q 0)) (atI (nth q 1))))
    (fun _ h => (okT_fill h).trans (congrArg some (by kernel_rfl)))

end Go.Xv
set_option linter.unusedVariables false
namespace Go.Xv
/- 91 _ref02_Sub -/
def c_ref02_Sub : Cfg := ⟨[0, 1, 4, 5], [], [7, 9, 10, 11]⟩
def ti_ref02_Sub : List TV := [.v (.int .i64), .v (.int .i64)]
def to_ref02_Sub : TV := .v (.tup [.int .i64, .bool])
def S_ref02_Sub (F : Nat) : FuncId → List VV → Option (Bool × VV) := words [(58, s_ref01_Of F), (52, s_ref01_Neg F), (51, s_ref01_Add F), (110, s_ref02_clip F)]
def W_ref02_Sub (F : Nat) : List LW := []
def I_ref02_Sub (F : Nat) : Nat → VS → (Exit → VS → R) → R := tabI c_ref02_Sub (W_ref02_Sub F)
def f_ref02_Sub (F : Nat) (a0 : Int) (a1 : Int) : R :=
  bif (ok_ref01_Of F a0) then (
    let v1804 : Int := (o_ref01_Of_0 F a0)
    let v1805 : Int := (o_ref01_Of_1 F a0)
    bif (ok_ref01_Of F a1) then (
      let v1806 : Int := (o_ref01_Of_0 F a1)
      let v1807 : Int := (o_ref01_Of_1 F a1)
      bif (ok_ref01_Neg F v1806 v1807) then (
        let v1808 : Int := (o_ref01_Neg_0 F v1806 v1807)
        let v1809 : Int := (o_ref01_Neg_1 F v1806 v1807)
        bif (ok_ref01_Add F v1804 v1805 v1808 v1809) then (
          let v1810 : Int := (o_ref01_Add_0 F v1804 v1805 v1808 v1809)
          let v1811 : Int := (o_ref01_Add_1 F v1804 v1805 v1808 v1809)
          bif (ok_ref02_clip F v1810 v1811) then (
            some (.v (.tuple #[.int .i64 ((o_ref02_clip_0 F v1810 v1811)), .bool ((o_ref02_clip_1 F v1810 v1811))])))
          else (
            none))
        else (
          none))
      else (
        none))
    else (
      none))
  else (
    none)
theorem e_ref02_Sub (F : Nat) (a0 : Int) (a1 : Int) : funL PP (S_ref02_Sub F) c_ref02_Sub (I_ref02_Sub F) 91 (fTs ti_ref02_Sub [.i a0, .i a1]).1 = f_ref02_Sub F a0 a1 := by
  have h : ∀ (ok_ref01_Of : Nat → Int → Bool) (o_ref01_Of_0 : Nat → Int → Int) (o_ref01_Of_1 : Nat → Int → Int) (ok_ref01_Neg : Nat → Int → Int → Bool) (o_ref01_Neg_0 : Nat → Int → Int → Int) (o_ref01_Neg_1 : Nat → Int → Int → Int) (ok_ref01_Add : Nat → Int → Int → Int → Int → Bool) (o_ref01_Add_0 : Nat → Int → Int → Int → Int → Int) (o_ref01_Add_1 : Nat → Int → Int → Int → Int → Int) (ok_ref02_clip : Nat → Int → Int → Bool) (o_ref02_clip_0 : Nat → Int → Int → Int) (o_ref02_clip_1 : Nat → Int → Int → Bool), funL PP (words [(58, spec ti_ref01_Of to_ref01_Of (fun q => (ok_ref01_Of F (atI (nth q 0)))) (fun q => [.i (o_ref01_Of_0 F (atI (nth q 0))), .i (o_ref01_Of_1 F (atI (nth q 0)))])), (52, spec ti_ref01_Neg to_ref01_Neg (fun q => (ok_ref01_Neg F (atI (nth q 0)) (atI (nth q 1)))) (fun q => [.i (o_ref01_Neg_0 F (atI (nth q 0)) (atI (nth q 1))), .i (o_ref01_Neg_1 F (atI (nth q 0)) (atI (nth q 1)))])), (51, spec ti_ref01_Add to_ref01_Add (fun q => (ok_ref01_Add F (atI (nth q 0)) (atI (nth q 1)) (atI (nth q 2)) (atI (nth q 3)))) (fun q => [.i (o_ref01_Add_0 F (atI (nth q 0)) (atI (nth q 1)) (atI (nth q 2)) (atI (nth q 3))), .i (o_ref01_Add_1 F (atI (nth q 0)) (atI (nth q 1)) (atI (nth q 2)) (atI (nth q 3)))])), (110, spec ti_ref02_clip to_ref02_clip (fun q => (ok_ref02_clip F (atI (nth q 0)) (atI (nth q 1)))) (fun q => [.i (o_ref02_clip_0 F (atI (nth q 0)) (atI (nth q 1))), .b (o_ref02_clip_1 F (atI (nth q 0)) (atI (nth q 1)))]))]) c_ref02_Sub (tabI c_ref02_Sub []) 91 (fTs ti_ref02_Sub [.i a0, .i a1]).1 = (
  bif (ok_ref01_Of F a0) then (
    let v1804 : Int := (o_ref01_Of_0 F a0)
    let v1805 : Int := (o_ref01_Of_1 F a0)
    bif (ok_ref01_Of F a1) then (
      let v1806 : Int := (o_ref01_Of_0 F a1)
      let v1807 : Int := (o_ref01_Of_1 F a1)
      bif (ok_ref01_Neg F v1806 v1807) then (
        let v1808 : Int := (o_ref01_Neg_0 F v1806 v1807)
        let v1809 : Int := (o_ref01_Neg_1 F v1806 v1807)
        bif (ok_ref01_Add F v1804 v1805 v1808 v1809) then (
          let v1810 : Int := (o_ref01_Add_0 F v1804 v1805 v1808 v1809)
          let v1811 : Int := (o_ref01_Add_1 F v1804 v1805 v1808 v1809)
          bif (ok_ref02_clip F v1810 v1811) then (
            some (.v (.tuple #[.int .i64 ((o_ref02_clip_0 F v1810 v1811)), .bool ((o_ref02_clip_1 F v1810 v1811))])))
          else (
            none))
        else (
          none))
      else (
        none))
    else (
      none))
  else (
    none) : R) := by
    intros
    kernel_rfl
  exact (h ok_ref01_Of o_ref01_Of_0 o_ref01_Of_1 ok_ref01_Neg o_ref01_Neg_0 o_ref01_Neg_1 ok_ref01_Add o_ref01_Add_0 o_ref01_Add_1 ok_ref02_clip o_ref02_clip_0 o_ref02_clip_1).trans (by kernel_rfl)
def ok_ref02_Sub (F : Nat) (a0 : Int) (a1 : Int) : Bool := okT to_ref02_Sub (f_ref02_Sub F a0 a1)
def o_ref02_Sub_0 (F : Nat) (a0 : Int) (a1 : Int) : Int := atI (nth (outT to_ref02_Sub (f_ref02_Sub F a0 a1)) 0)
def o_ref02_Sub_1 (F : Nat) (a0 : Int) (a1 : Int) : Bool := atB (nth (outT to_ref02_Sub (f_ref02_Sub F a0 a1)) 1)
theorem k_ref02_Sub (F : Nat) (a0 : Int) (a1 : Int) {z0 : Int} {z1 : Bool} (h : f_ref02_Sub F a0 a1 = some (.v (.tuple #[.int .i64 z0, .bool z1]))) : ok_ref02_Sub F a0 a1 = true ∧ o_ref02_Sub_0 F a0 a1 = z0 ∧ o_ref02_Sub_1 F a0 a1 = z1 := by
  refine ⟨?_, ?_, ?_⟩
  · unfold ok_ref02_Sub; rw [h]; kernel_rfl
  · unfold o_ref02_Sub_0; rw [h]; kernel_rfl
  · unfold o_ref02_Sub_1; rw [h]; kernel_rfl
def s_ref02_Sub (F : Nat) : List VV → Option (Bool × VV) := spec ti_ref02_Sub to_ref02_Sub (fun q => (ok_ref02_Sub F (atI (nth q 0)) (atI (nth q 1)))) (fun q => [.i (o_ref02_Sub_0 F (atI (nth q 0)) (atI (nth q 1))), .b (o_ref02_Sub_1 F (atI (nth q 0)) (atI (nth q 1)))])
theorem hS_ref02_Sub (F : Nat) : ∀ f, Good PP f (unS (S_ref02_Sub F f)) := words_good fun p hp => by
  simp only [List.mem_cons, List.not_mem_nil, or_false] at hp
  rcases hp with rfl | rfl | rfl | rfl
  · exact g_ref01_Of F
  · exact g_ref01_Neg F
  · exact g_ref01_Add F
  · exact g_ref02_clip F
theorem hl_ref02_Sub (F : Nat) : ∀ p ∈ loopsIn PP 91, LoopOK PP (S_ref02_Sub F) c_ref02_Sub F (I_ref02_Sub F) p :=
  loops_of [] (by kernel_rfl) all_nil
theorem g_ref02_Sub (F : Nat) : Good PP 91 (unS (s_ref02_Sub F)) :=
  fun_spec (hS_ref02_Sub F) (by kernel_rfl) (by kernel_rfl) (C := c_ref02_Sub) (F := fun q => (f_ref02_Sub F (atI (nth q 0)) (atI (nth q 1)))) (fun _ => F) (fun _ => I_ref02_Sub F) (fun _ => hl_ref02_Sub F)
    (fun q => (congrArg (funL PP (S_ref02_Sub F) c_ref02_Sub (I_ref02_Sub F) 91) (show (fTs ti_ref02_Sub q).1 = (fTs ti_ref02_Sub [.i (atI (nth q 0)), .i (atI (nth q 1))]).1 by kernel_rfl)).trans (e_ref02_Sub F (atI (nth q 0)) (atI (nth q 1))))
    (fun _ h => (okT_fill h).trans (congrArg some (by kernel_rfl)))

end Go.Xv
set_option linter.unusedVariables false
namespace Go.Xv
/- 92 _fix_Neg -/
def c_fix_Neg : Cfg := ⟨[0, 2, 3], [], []⟩
def ti_fix_Neg : List TV := [.v (.int .i64)]
def to_fix_Neg : TV := .v (.tup [.int .i64, .bool])
def S_fix_Neg (F : Nat) : FuncId → List VV → Option (Bool × VV) := words [(90, s_fix_Sub F)]
def W_fix_Neg (F : Nat) : List LW := []
def I_fix_Neg (F : Nat) : Nat → VS → (Exit → VS → R) → R := tabI c_fix_Neg (W_fix_Neg F)
def f_fix_Neg (F : Nat) (a0 : Int) : R :=
  bif (ok_fix_Sub F 0 a0) then (
    some (.v (.tuple #[.int .i64 ((o_fix_Sub_0 F 0 a0)), .bool ((o_fix_Sub_1 F 0 a0))])))
  else (
    none)
theorem e_fix_Neg (F : Nat) (a0 : Int) : funL PP (S_fix_Neg F) c_fix_Neg (I_fix_Neg F) 92 (fTs ti_fix_Neg [.i a0]).1 = f_fix_Neg F a0 := by
  have h : ∀ (ok_fix_Sub : Nat → Int → Int → Bool) (o_fix_Sub_0 : Nat → Int → Int → Int) (o_fix_Sub_1 : Nat → Int → Int → Bool), funL PP (words [(90, spec ti_fix_Sub to_fix_Sub (fun q => (ok_fix_Sub F (atI (nth q 0)) (atI (nth q 1)))) (fun q => [.i (o_fix_Sub_0 F (atI (nth q 0)) (atI (nth q 1))), .b (o_fix_Sub_1 F (atI (nth q 0)) (atI (nth q 1)))]))]) c_fix_Neg (tabI c_fix_Neg []) 92 (fTs ti_fix_Neg [.i a0]).1 = (
  bif (ok_fix_Sub F 0 a0) then (
    some (.v (.tuple #[.int .i64 ((o_fix_Sub_0 F 0 a0)), .bool ((o_fix_Sub_1 F 0 a0))])))
  else (
    none) : R) := by
    intros
    kernel_rfl
  exact (h ok_fix_Sub o_fix_Sub_0 o_fix_Sub_1).trans (by kernel_rfl)
def ok_fix_Neg (F : Nat) (a0 : Int) : Bool := okT to_fix_Neg (f_fix_Neg F a0)
def o_fix_Neg_0 (F : Nat) (a0 : Int) : Int := atI (nth (outT to_fix_Neg (f_fix_Neg F a0)) 0)
def o_fix_Neg_1 (F : Nat) (a0 : Int) : Bool := atB (nth (outT to_fix_Neg (f_fix_Neg F a0)) 1)
theorem k_fix_Neg (F : Nat) (a0 : Int) {z0 : Int} {z1 : Bool} (h : f_fix_Neg F a0 = some (.v (.tuple #[.int .i64 z0, .bool z1]))) : ok_fix_Neg F a0 = true ∧ o_fix_Neg_0 F a0 = z0 ∧ o_fix_Neg_1 F a0 = z1 := by
  refine ⟨?_, ?_, ?_⟩
  · unfold ok_fix_Neg; rw [h]; kernel_rfl
  · unfold o_fix_Neg_0; rw [h]; kernel_rfl
  · unfold o_fix_Neg_1; rw [h]; kernel_rfl
def s_fix_Neg (F : Nat) : List VV → Option (Bool × VV) := spec ti_fix_Neg to_fix_Neg (fun q => (ok_fix_Neg F (atI (nth q 0)))) (fun q => [.i (o_fix_Neg_0 F (atI (nth q 0))), .b (o_fix_Neg_1 F (atI (nth q 0)))])
theorem hS_fix_Neg (F : Nat) : ∀ f, Good PP f (unS (S_fix_Neg F f)) := words_good fun p hp => by
  simp only [List.mem_cons, List.not_mem_nil, or_false] at hp
  rcases hp with rfl
  · exact g_fix_Sub F
theorem hl_fix_Neg (F : Nat) : ∀ p ∈ loopsIn PP 92, LoopOK PP (S_fix_Neg F) c_fix_Neg F (I_fix_Neg F) p :=
  loops_of [] (by kernel_rfl) all_nil
theorem g_fix_Neg (F : Nat) : Good PP 92 (unS (s_fix_Neg F)) :=
  fun_spec (hS_fix_Neg F) (by kernel_rfl) (by kernel_rfl) (C := c_fix_Neg) (F := fun q => (f_fix_Neg F (atI (nth q 0)))) (fun _ => F) (fun _ => I_fix_Neg F) (fun _ => hl_fix_Neg F)
    (fun q => (congrArg (funL PP (S_fix_Neg F) c_fix_Neg (I_fix_Neg F) 92) (show (fTs ti_fix_Neg q).1 = (fTs ti_fix_Neg [.i (atI (nth q 0))]).1 by kernel_rfl)).trans (e_fix_Neg F (atI (nth q 0))))
    (fun _ h => (okT_fill h).trans (congrArg some (by kernel_rfl)))

end Go.Xv
set_option linter.unusedVariables false
namespace Go.Xv
/- 93 _ref02_Neg -/
def c_ref02_Neg : Cfg := ⟨[0, 2, 3], [], []⟩
def ti_ref02_Neg : List TV := [.v (.int .i64)]
def to_ref02_Neg : TV := .v (.tup [.int .i64, .bool])
def S_ref02_Neg (F : Nat) : FuncId → List VV → Option (Bool × VV) := words [(91, s_ref02_Sub F)]
def W_ref02_Neg (F : Nat) : List LW := []
def I_ref02_Neg (F : Nat) : Nat → VS → (Exit → VS → R) → R := tabI c_ref02_Neg (W_ref02_Neg F)
def f_ref02_Neg (F : Nat) (a0 : Int) : R :=
  bif (ok_ref02_Sub F 0 a0) then (
    some (.v (.tuple #[.int .i64 ((o_ref02_Sub_0 F 0 a0)), .bool ((o_ref02_Sub_1 F 0 a0))])))
  else (
    none)
theorem e_ref02_Neg (F : Nat) (a0 : Int) : funL PP (S_ref02_Neg F) c_ref02_Neg (I_ref02_Neg F) 93 (fTs ti_ref02_Neg [.i a0]).1 = f_ref02_Neg F a0 := by
  have h : ∀ (ok_ref02_Sub : Nat → Int → Int → Bool) (o_ref02_Sub_0 : Nat → Int → Int → Int) (o_ref02_Sub_1 : Nat → Int → Int → Bool), funL PP (words [(91, spec ti_ref02_Sub to_ref02_Sub (fun q => (ok_ref02_Sub F (atI (nth q 0)) (atI (nth q 1)))) (fun q => [.i (o_ref02_Sub_0 F (atI (nth q 0)) (atI (nth q 1))), .b (o_ref02_Sub_1 F (atI (nth q 0)) (atI (nth q 1)))]))]) c_ref02_Neg (tabI c_ref02_Neg []) 93 (fTs ti_ref02_Neg [.i a0]).1 = (
  bif (ok_ref02_Sub F 0 a0) then (
    some (.v (.tuple #[.int .i64 ((o_ref02_Sub_0 F 0 a0)), .bool ((o_ref02_Sub_1 F 0 a0))])))
  else (
    none) : R) := by
    intros
    kernel_rfl
  exact (h ok_ref02_Sub o_ref02_Sub_0 o_ref02_Sub_1).trans (by kernel_rfl)
def ok_ref02_Neg (F : Nat) (a0 : Int) : Bool := okT to_ref02_Neg (f_ref02_Neg F a0)
def o_ref02_Neg_0 (F : Nat) (a0 : Int) : Int := atI (nth (outT to_ref02_Neg (f_ref02_Neg F a0)) 0)
def o_ref02_Neg_1 (F : Nat) (a0 : Int) : Bool := atB (nth (outT to_ref02_Neg (f_ref02_Neg F a0)) 1)
theorem k_ref02_Neg (F : Nat) (a0 : Int) {z0 : Int} {z1 : Bool} (h : f_ref02_Neg F a0 = some (.v (.tuple #[.int .i64 z0, .bool z1]))) : ok_ref02_Neg F a0 = true ∧ o_ref02_Neg_0 F a0 = z0 ∧ o_ref02_Neg_1 F a0 = z1 := by
  refine ⟨?_, ?_, ?_⟩
  · unfold ok_ref02_Neg; rw [h]; kernel_rfl
  · unfold o_ref02_Neg_0; rw [h]; kernel_rfl
  · unfold o_ref02_Neg_1; rw [h]; kernel_rfl
def s_ref02_Neg (F : Nat) : List VV → Option (Bool × VV) := spec ti_ref02_Neg to_ref02_Neg (fun q => (ok_ref02_Neg F (atI (nth q 0)))) (fun q => [.i (o_ref02_Neg_0 F (atI (nth q 0))), .b (o_ref02_Neg_1 F (atI (nth q 0)))])
theorem hS_ref02_Neg (F : Nat) : ∀ f, Good PP f (unS (S_ref02_Neg F f)) := words_good fun p hp => by
  simp only [List.mem_cons, List.not_mem_nil, or_false] at hp
  rcases hp with rfl
  · exact g_ref02_Sub F
theorem hl_ref02_Neg (F : Nat) : ∀ p ∈ loopsIn PP 93, LoopOK PP (S_ref02_Neg F) c_ref02_Neg F (I_ref02_Neg F) p :=
  loops_of [] (by kernel_rfl) all_nil
theorem g_ref02_Neg (F : Nat) : Good PP 93 (unS (s_ref02_Neg F)) :=
  fun_spec (hS_ref02_Neg F) (by kernel_rfl) (by kernel_rfl) (C := c_ref02_Neg) (F := fun q => (f_ref02_Neg F (atI (nth q 0)))) (fun _ => F) (fun _ => I_ref02_Neg F) (fun _ => hl_ref02_Neg F)
    (fun q => (congrArg (funL PP (S_ref02_Neg F) c_ref02_Neg (I_ref02_Neg F) 93) (show (fTs ti_ref02_Neg q).1 = (fTs ti_ref02_Neg [.i (atI (nth q 0))]).1 by kernel_rfl)).trans (e_ref02_Neg F (atI (nth q 0))))
    (fun _ h => (okT_fill h).trans (congrArg some (by kernel_rfl)))

end Go.Xv
set_option linter.unusedVariables false
namespace Go.Xv
/- 94 _fix_Abs -/
def c_fix_Abs : Cfg := ⟨[0, 2, 3, 5], [], []⟩
def ti_fix_Abs : List TV := [.v (.int .i64)]
def to_fix_Abs : TV := .v (.tup [.int .i64, .bool])
def S_fix_Abs (F : Nat) : FuncId → List VV → Option (Bool × VV) := words [(92, s_fix_Neg F)]
def W_fix_Abs (F : Nat) : List LW := []
def I_fix_Abs (F : Nat) : Nat → VS → (Exit → VS → R) → R := tabI c_fix_Abs (W_fix_Abs F)
def f_fix_Abs (F : Nat) (a0 : Int) : R :=
  bif ((decide (a0 ≥ 0))) then (
    some (.v (.tuple #[.int .i64 a0, .bool false])))
  else (
    bif (ok_fix_Neg F a0) then (
      some (.v (.tuple #[.int .i64 ((o_fix_Neg_0 F a0)), .bool ((o_fix_Neg_1 F a0))])))
    else (
      none))
theorem e_fix_Abs (F : Nat) (a0 : Int) : funL PP (S_fix_Abs F) c_fix_Abs (I_fix_Abs F) 94 (fTs ti_fix_Abs [.i a0]).1 = f_fix_Abs F a0 := by
  have h : ∀ (ok_fix_Neg : Nat → Int → Bool) (o_fix_Neg_0 : Nat → Int → Int) (o_fix_Neg_1 : Nat → Int → Bool), funL PP (words [(92, spec ti_fix_Neg to_fix_Neg (fun q => (ok_fix_Neg F (atI (nth q 0)))) (fun q => [.i (o_fix_Neg_0 F (atI (nth q 0))), .b (o_fix_Neg_1 F (atI (nth q 0)))]))]) c_fix_Abs (tabI c_fix_Abs []) 94 (fTs ti_fix_Abs [.i a0]).1 = (
  bif ((decide (a0 ≥ 0))) then (
    some (.v (.tuple #[.int .i64 a0, .bool false])))
  else (
    bif (ok_fix_Neg F a0) then (
      some (.v (.tuple #[.int .i64 ((o_fix_Neg_0 F a0)), .bool ((o_fix_Neg_1 F a0))])))
    else (
      none)) : R) := by
    intros
    kernel_rfl
  exact (h ok_fix_Neg o_fix_Neg_0 o_fix_Neg_1).trans (by kernel_rfl)
def ok_fix_Abs (F : Nat) (a0 : Int) : Bool := okT to_fix_Abs (f_fix_Abs F a0)
def o_fix_Abs_0 (F : Nat) (a0 : Int) : Int := atI (nth (outT to_fix_Abs (f_fix_Abs F a0)) 0)
def o_fix_Abs_1 (F : Nat) (a0 : Int) : Bool := atB (nth (outT to_fix_Abs (f_fix_Abs F a0)) 1)
theorem k_fix_Abs (F : Nat) (a0 : Int) {z0 : Int} {z1 : Bool} (h : f_fix_Abs F a0 = some (.v (.tuple #[.int .i64 z0, .bool z1]))) : ok_fix_Abs F a0 = true ∧ o_fix_Abs_0 F a0 = z0 ∧ o_fix_Abs_1 F a0 = z1 := by
  refine ⟨?_, ?_, ?_⟩
  · unfold ok_fix_Abs; rw [h]; kernel_rfl
  · unfold o_fix_Abs_0; rw [h]; kernel_rfl
  · unfold o_fix_Abs_1; rw [h]; kernel_rfl
def s_fix_Abs (F : Nat) : List VV → Option (Bool × VV) := spec ti_fix_Abs to_fix_Abs (fun q => (ok_fix_Abs F (atI (nth q 0)))) (fun q => [.i (o_fix_Abs_0 F (atI (nth q 0))), .b (o_fix_Abs_1 F (atI (nth q 0)))])
theorem hS_fix_Abs (F : Nat) : ∀ f, Good PP f (unS (S_fix_Abs F f)) := words_good fun p hp => by
  simp only [List.mem_cons, List.not_mem_nil, or_false] at hp
  rcases hp with rfl
  · exact g_fix_Neg F
theorem hl_fix_Abs (F : Nat) : ∀ p ∈ loopsIn PP 94, LoopOK PP (S_fix_Abs F) c_fix_Abs F (I_fix_Abs F) p :=
  loops_of [] (by kernel_rfl) all_nil
theorem g_fix_Abs (F : Nat) : Good PP 94 (unS (s_fix_Abs F)) :=
  fun_spec (hS_fix_Abs F) (by kernel_rfl) (by kernel_rfl) (C := c_fix_Abs) (F := fun q => (f_fix_Abs F (atI (nth q 0)))) (fun _ => F) (fun _ => I_fix_Abs F) (fun _ => hl_fix_Abs F)
    (fun q => (congrArg (funL PP (S_fix_Abs F) c_fix_Abs (I_fix_Abs F) 94) (show (fTs ti_fix_Abs q).1 = (fTs ti_fix_Abs [.i (atI (nth q 0))]).1 by kernel_rfl)).trans (e_fix_Abs F (atI (nth q 0))))
    (fun _ h => (okT_fill h).trans (congrArg some (by kernel_rfl)))

end Go.Xv
set_option linter.unusedVariables false
namespace Go.Xv
/- 95 _ref02_Abs -/
def c_ref02_Abs : Cfg := ⟨[0, 2, 3, 5], [], []⟩
def ti_ref02_Abs : List TV := [.v (.int .i64)]
def to_ref02_Abs : TV := .v (.tup [.int .i64, .bool])
def S_ref02_Abs (F : Nat) : FuncId → List VV → Option (Bool × VV) := words [(93, s_ref02_Neg F)]
def W_ref02_Abs (F : Nat) : List LW := []
def I_ref02_Abs (F : Nat) : Nat → VS → (Exit → VS → R) → R := tabI c_ref02_Abs (W_ref02_Abs F)
def f_ref02_Abs (F : Nat) (a0 : Int) : R :=
  bif ((decide (a0 < 0))) then (
    bif (ok_ref02_Neg F a0) then (
      some (.v (.tuple #[.int .i64 ((o_ref02_Neg_0 F a0)), .bool ((o_ref02_Neg_1 F a0))])))
    else (
      none))
  else (
    some (.v (.tuple #[.int .i64 a0, .bool false])))
theorem e_ref02_Abs (F : Nat) (a0 : Int) : funL PP (S_ref02_Abs F) c_ref02_Abs (I_ref02_Abs F) 95 (fTs ti_ref02_Abs [.i a0]).1 = f_ref02_Abs F a0 := by
  have h : ∀ (ok_ref02_Neg : Nat → Int → Bool) (o_ref02_Neg_0 : Nat → Int → Int) (o_ref02_Neg_1 : Nat → Int → Bool), funL PP (words [(93, spec ti_ref02_Neg to_ref02_Neg (fun q => (ok_ref02_Neg F (atI (nth q 0)))) (fun q => [.i (o_ref02_Neg_0 F (atI (nth q 0))), .b (o_ref02_Neg_1 F (atI (nth q 0)))]))]) c_ref02_Abs (tabI c_ref02_Abs []) 95 (fTs ti_ref02_Abs [.i a0]).1 = (
  bif ((decide (a0 < 0))) then (
    bif (ok_ref02_Neg F a0) then (
      some (.v (.tuple #[.int .i64 ((o_ref02_Neg_0 F a0)), .bool ((o_ref02_Neg_1 F a0))])))
    else (
      none))
  else (
    some (.v (.tuple #[.int .i64 a0, .bool false]))) : R) := by
    intros
    kernel_rfl
  exact (h ok_ref02_Neg o_ref02_Neg_0 o_ref02_Neg_1).trans (by kernel_rfl)
def ok_ref02_Abs (F : Nat) (a0 : Int) : Bool := okT to_ref02_Abs (f_ref02_Abs F a0)
def o_ref02_Abs_0 (F : Nat) (a0 : Int) : Int := atI (nth (outT to_ref02_Abs (f_ref02_Abs F a0)) 0)
def o_ref02_Abs_1 (F : Nat) (a0 : Int) : Bool := atB (nth (outT to_ref02_Abs (f_ref02_Abs F a0)) 1)
theorem k_ref02_Abs (F : Nat) (a0 : Int) {z0 : Int} {z1 : Bool} (h : f_ref02_Abs F a0 = some (.v (.tuple #[.int .i64 z0, .bool z1]))) : ok_ref02_Abs F a0 = true ∧ o_ref02_Abs_0 F a0 = z0 ∧ o_ref02_Abs_1 F a0 = z1 := by
  refine ⟨?_, ?_, ?_⟩
  · unfold ok_ref02_Abs; rw [h]; kernel_rfl
  · unfold o_ref02_Abs_0; rw [h]; kernel_rfl
  · unfold o_ref02_Abs_1; rw [h]; kernel_rfl
def s_ref02_Abs (F : Nat) : List VV → Option (Bool × VV) := spec ti_ref02_Abs to_ref02_Abs (fun q => (ok_ref02_Abs F (atI (nth q 0)))) (fun q => [.i (o_ref02_Abs_0 F (atI (nth q 0))), .b (o_ref02_Abs_1 F (atI (nth q 0)))])
theorem hS_ref02_Abs (F : Nat) : ∀ f, Good PP f (unS (S_ref02_Abs F f)) := words_good fun p hp => by
  simp only [List.mem_cons, List.not_mem_nil, or_false] at hp
  rcases hp with rfl
  · exact g_ref02_Neg F
theorem hl_ref02_Abs (F : Nat) : ∀ p ∈ loopsIn PP 95, LoopOK PP (S_ref02_Abs F) c_ref02_Abs F (I_ref02_Abs F) p :=
  loops_of [] (by kernel_rfl) all_nil
theorem g_ref02_Abs (F : Nat) : Good PP 95 (unS (s_ref02_Abs F)) :=
  fun_spec (hS_ref02_Abs F) (by kernel_rfl) (by kernel_rfl) (C := c_ref02_Abs) (F := fun q => (f_ref02_Abs F (atI (nth q 0)))) (fun _ => F) (fun _ => I_ref02_Abs F) (fun _ => hl_ref02_Abs F)
    (fun q => (congrArg (funL PP (S_ref02_Abs F) c_ref02_Abs (I_ref02_Abs F) 95) (show (fTs ti_ref02_Abs q).1 = (fTs ti_ref02_Abs [.i (atI (nth q 0))]).1 by kernel_rfl)).trans (e_ref02_Abs F (atI (nth q 0))))
    (fun _ h => (okT_fill h).trans (congrArg some (by kernel_rfl)))

end Go.Xv
set_option linter.unusedVariables false
namespace Go.Xv
/- 96 _ref02_Mul -/
def c_ref02_Mul : Cfg := ⟨[0, 1, 4, 5], [], [8, 9]⟩
def ti_ref02_Mul : List TV := [.v (.int .i64), .v (.int .i64)]
def to_ref02_Mul : TV := .v (.tup [.int .i64, .bool])
def S_ref02_Mul (F : Nat) : FuncId → List VV → Option (Bool × VV) := words [(41, s_ref01_Mul F), (50, s_ref01_Near F), (110, s_ref02_clip F)]
def W_ref02_Mul (F : Nat) : List LW := []
def I_ref02_Mul (F : Nat) : Nat → VS → (Exit → VS → R) → R := tabI c_ref02_Mul (W_ref02_Mul F)
def f_ref02_Mul (F : Nat) (a0 : Int) (a1 : Int) : R :=
  bif (ok_ref01_Mul F a0 a1) then (
    let v1847 : Int := (o_ref01_Mul_0 F a0 a1)
    let v1848 : Int := (o_ref01_Mul_1 F a0 a1)
    bif (ok_ref01_Near F v1847 v1848 32) then (
      let v1849 : Int := (o_ref01_Near_0 F v1847 v1848 32)
      let v1850 : Int := (o_ref01_Near_1 F v1847 v1848 32)
      bif (ok_ref02_clip F v1849 v1850) then (
        some (.v (.tuple #[.int .i64 ((o_ref02_clip_0 F v1849 v1850)), .bool ((o_ref02_clip_1 F v1849 v1850))])))
      else (
        none))
    else (
      none))
  else (
    none)
theorem e_ref02_Mul (F : Nat) (a0 : Int) (a1 : Int) : funL PP (S_ref02_Mul F) c_ref02_Mul (I_ref02_Mul F) 96 (fTs ti_ref02_Mul [.i a0, .i a1]).1 = f_ref02_Mul F a0 a1 := by
  have h : ∀ (ok_ref01_Mul : Nat → Int → Int → Bool) (o_ref01_Mul_0 : Nat → Int → Int → Int) (o_ref01_Mul_1 : Nat → Int → Int → Int) (ok_ref01_Near : Nat → Int → Int → Int → Bool) (o_ref01_Near_0 : Nat → Int → Int → Int → Int) (o_ref01_Near_1 : Nat → Int → Int → Int → Int) (ok_ref02_clip : Nat → Int → Int → Bool) (o_ref02_clip_0 : Nat → Int → Int → Int) (o_ref02_clip_1 : Nat → Int → Int → Bool), funL PP (words [(41, spec ti_ref01_Mul to_ref01_Mul (fun q => (ok_ref01_Mul F (atI (nth q 0)) (atI (nth q 1)))) (fun q => [.i (o_ref01_Mul_0 F (atI (nth q 0)) (atI (nth q 1))), .i (o_ref01_Mul_1 F (atI (nth q 0)) (atI (nth q 1)))])), (50, spec ti_ref01_Near to_ref01_Near (fun q => (ok_ref01_Near F (atI (nth q 0)) (atI (nth q 1)) (atI (nth q 2)))) (fun q => [.i (o_ref01_Near_0 F (atI (nth q 0)) (atI (nth q 1)) (atI (nth q 2))), .i (o_ref01_Near_1 F (atI (nth q 0)) (atI (nth q 1)) (atI (nth q 2)))])), (110, spec ti_ref02_clip to_ref02_clip (fun q => (ok_ref02_clip F (atI (nth q 0)) (atI (nth q 1)))) (fun q => [.i (o_ref02_clip_0 F (atI (nth q 0)) (atI (nth q 1))), .b (o_ref02_clip_1 F (atI (nth q 0)) (atI (nth q 1)))]))]) c_ref02_Mul (tabI c_ref02_Mul []) 96 (fTs ti_ref02_Mul [.i a0, .i a1]).1 = (
  bif (ok_ref01_Mul F a0 a1) then (
    let v1847 : Int := (o_ref01_Mul_0 F a0 a1)
    let v1848 : Int := (o_ref01_Mul_1 F a0 a1)
    bif (ok_ref01_Near F v1847 v1848 32) then (
      let v1849 : Int := (o_ref01_Near_0 F v1847 v1848 32)
      let v1850 : Int := (o_ref01_Near_1 F v1847 v1848 32)
      bif (ok_ref02_clip F v1849 v1850) then (
        some (.v (.tuple #[.int .i64 ((o_ref02_clip_0 F v1849 v1850)), .bool ((o_ref02_clip_1 F v1849 v1850))])))
      else (
        none))
    else (
      none))
  else (
    none) : R) := by
    intros
    kernel_rfl
  exact (h ok_ref01_Mul o_ref01_Mul_0 o_ref01_Mul_1 ok_ref01_Near o_ref01_Near_0 o_ref01_Near_1 ok_ref02_clip o_ref02_clip_0 o_ref02_clip_1).trans (by kernel_rfl)
def ok_ref02_Mul (F : Nat) (a0 : Int) (a1 : Int) : Bool := okT to_ref02_Mul (f_ref02_Mul F a0 a1)
def o_ref02_Mul_0 (F : Nat) (a0 : Int) (a1 : Int) : Int := atI (nth (outT to_ref02_Mul (f_ref02_Mul F a0 a1)) 0)
def o_ref02_Mul_1 (F : Nat) (a0 : Int) (a1 : Int) : Bool := atB (nth (outT to_ref02_Mul (f_ref02_Mul F a0 a1)) 1)
theorem k_ref02_Mul (F : Nat) (a0 : Int) (a1 : Int) {z0 : Int} {z1 : Bool} (h : f_ref02_Mul F a0 a1 = some (.v (.tuple #[.int .i64 z0, .bool z1]))) : ok_ref02_Mul F a0 a1 = true ∧ o_ref02_Mul_0 F a0 a1 = z0 ∧ o_ref02_Mul_1 F a0 a1 = z1 := by
  refine ⟨?_, ?_, ?_⟩
  · unfold ok_ref02_Mul; rw [h]; kernel_rfl
  · unfold o_ref02_Mul_0; rw [h]; kernel_rfl
  · unfold o_ref02_Mul_1; rw [h]; kernel_rfl
def s_ref02_Mul (F : Nat) : List VV → Option (Bool × VV) := spec ti_ref02_Mul to_ref02_Mul (fun q => (ok_ref02_Mul F (atI (nth q 0)) (atI (nth q 1)))) (fun q => [.i (o_ref02_Mul_0 F (atI (nth q 0)) (atI (nth q 1))), .b (o_ref02_Mul_1 F (atI (nth q 0)) (atI (nth q 1)))])
theorem hS_ref02_Mul (F : Nat) : ∀ f, Good PP f (unS (S_ref02_Mul F f)) := words_good fun p hp => by
  simp only [List.mem_cons, List.not_mem_nil, or_false] at hp
  rcases hp with rfl | rfl | rfl
  · exact g_ref01_Mul F
  · exact g_ref01_Near F
  · exact g_ref02_clip F
theorem hl_ref02_Mul (F : Nat) : ∀ p ∈ loopsIn PP 96, LoopOK PP (S_ref02_Mul F) c_ref02_Mul F (I_ref02_Mul F) p :=
  loops_of [] (by kernel_rfl) all_nil
theorem g_ref02_Mul (F : Nat) : Good PP 96 (unS (s_ref02_Mul F)) :=
  fun_spec (hS_ref02_Mul F) (by kernel_rfl) (by kernel_rfl) (C := c_ref02_Mul) (F := fun q => (f_ref02_Mul F (atI (nth q 0)) (atI (nth q 1)))) (fun _ => F) (fun _ => I_ref02_Mul F) (fun _ => hl_ref02_Mul F)
    (fun q => (congrArg (funL PP (S_ref02_Mul F) c_ref02_Mul (I_ref02_Mul F) 96) (show (fTs ti_ref02_Mul q).1 = (fTs ti_ref02_Mul [.i (atI (nth q 0)), .i (atI (nth q 1))]).1 by kernel_rfl)).trans (e_ref02_Mul F (atI (nth q 0)) (atI (nth q 1))))
    (fun _ h => (okT_fill h).trans (congrArg some (by kernel_rfl)))

end Go.Xv
set_option linter.unusedVariables false
namespace Go.Xv
/- 97 _fix_Div -/
def c_fix_Div : Cfg := ⟨[0, 1, 4, 5, 6, 8, 18, 23, 26], [], [11, 12]⟩
def ti_fix_Div : List TV := [.v (.int .i64), .v (.int .i64)]
def to_fix_Div : TV := .v (.tup [.int .i64, .bool])
def S_fix_Div (F : Nat) : FuncId → List VV → Option (Bool × VV) := words [(109, s_fix_of F), (45, s_wide_Left F), (83, s_wide_Div F), (107, s_fix_clip F)]
def W_fix_Div (F : Nat) : List LW := []
def I_fix_Div (F : Nat) : Nat → VS → (Exit → VS → R) → R := tabI c_fix_Div (W_fix_Div F)
def f_fix_Div (F : Nat) (a0 : Int) (a1 : Int) : R :=
  bif (ok_fix_of F a0) then (
    let v1855 : Int := (o_fix_of_0 F a0)
    let v1856 : Int := (o_fix_of_1 F a0)
    bif (ok_wide_Left F v1855 v1856 32) then (
      let v1857 : Int := (o_wide_Left_0 F v1855 v1856 32)
      let v1858 : Int := (o_wide_Left_1 F v1855 v1856 32)
      bif (ok_wide_Div F v1857 v1858 a1) then (
        let v1859 : Int := (o_wide_Div_0 F v1857 v1858 a1)
        let v1860 : Int := (o_wide_Div_1 F v1857 v1858 a1)
        bif ((o_wide_Div_3 F v1857 v1858 a1)) then (
          bif (ok_fix_clip F v1859 v1860) then (
            some (.v (.tuple #[.int .i64 ((o_fix_clip_0 F v1859 v1860)), .bool ((o_fix_clip_1 F v1859 v1860))])))
          else (
            none))
        else (
          bif ((decide (a0 > 0))) then (
            some (.v (.tuple #[.int .i64 9223372036854775807, .bool true])))
          else (
            bif ((decide (a0 < 0))) then (
              some (.v (.tuple #[.int .i64 (-9223372036854775808), .bool true])))
            else (
              some (.v (.tuple #[.int .i64 0, .bool true]))))))
      else (
        none))
    else (
      none))
  else (
    none)
theorem e_fix_Div (F : Nat) (a0 : Int) (a1 : Int) : funL PP (S_fix_Div F) c_fix_Div (I_fix_Div F) 97 (fTs ti_fix_Div [.i a0, .i a1]).1 = f_fix_Div F a0 a1 := by
  have h : ∀ (ok_fix_of : Nat → Int → Bool) (o_fix_of_0 : Nat → Int → Int) (o_fix_of_1 : Nat → Int → Int) (ok_wide_Left : Nat → Int → Int → Int → Bool) (o_wide_Left_0 : Nat → Int → Int → Int → Int) (o_wide_Left_1 : Nat → Int → Int → Int → Int) (ok_wide_Div : Nat → Int → Int → Int → Bool) (o_wide_Div_0 : Nat → Int → Int → Int → Int) (o_wide_Div_1 : Nat → Int → Int → Int → Int) (o_wide_Div_2 : Nat → Int → Int → Int → Int) (o_wide_Div_3 : Nat → Int → Int → Int → Bool) (ok_fix_clip : Nat → Int → Int → Bool) (o_fix_clip_0 : Nat → Int → Int → Int) (o_fix_clip_1 : Nat → Int → Int → Bool), funL PP (words [(109, spec ti_fix_of to_fix_of (fun q => (ok_fix_of F (atI (nth q 0)))) (fun q => [.i (o_fix_of_0 F (atI (nth q 0))), .i (o_fix_of_1 F (atI (nth q 0)))])), (45, spec ti_wide_Left to_wide_Left (fun q => (ok_wide_Left F (atI (nth q 0)) (atI (nth q 1)) (atI (nth q 2)))) (fun q => [.i (o_wide_Left_0 F (atI (nth q 0)) (atI (nth q 1)) (atI (nth q 2))), .i (o_wide_Left_1 F (atI (nth q 0)) (atI (nth q 1)) (atI (nth q 2)))])), (83, spec ti_wide_Div to_wide_Div (fun q => (ok_wide_Div F (atI (nth q 0)) (atI (nth q 1)) (atI (nth q 2)))) (fun q => [.i (o_wide_Div_0 F (atI (nth q 0)) (atI (nth q 1)) (atI (nth q 2))), .i (o_wide_Div_1 F (atI (nth q 0)) (atI (nth q 1)) (atI (nth q 2))), .i (o_wide_Div_2 F (atI (nth q 0)) (atI (nth q 1)) (atI (nth q 2))), .b (o_wide_Div_3 F (atI (nth q 0)) (atI (nth q 1)) (atI (nth q 2)))])), (107, spec ti_fix_clip to_fix_clip (fun q => (ok_fix_clip F (atI (nth q 0)) (atI (nth q 1)))) (fun q => [.i (o_fix_clip_0 F (atI (nth q 0)) (atI (nth q 1))), .b (o_fix_clip_1 F (atI (nth q 0)) (atI (nth q 1)))]))]) c_fix_Div (tabI c_fix_Div []) 97 (fTs ti_fix_Div [.i a0, .i a1]).1 = (
  bif (ok_fix_of F a0) then (
    let v1855 : Int := (o_fix_of_0 F a0)
    let v1856 : Int := (o_fix_of_1 F a0)
    bif (ok_wide_Left F v1855 v1856 32) then (
      let v1857 : Int := (o_wide_Left_0 F v1855 v1856 32)
      let v1858 : Int := (o_wide_Left_1 F v1855 v1856 32)
      bif (ok_wide_Div F v1857 v1858 a1) then (
        let v1859 : Int := (o_wide_Div_0 F v1857 v1858 a1)
        let v1860 : Int := (o_wide_Div_1 F v1857 v1858 a1)
        bif ((o_wide_Div_3 F v1857 v1858 a1)) then (
          bif (ok_fix_clip F v1859 v1860) then (
            some (.v (.tuple #[.int .i64 ((o_fix_clip_0 F v1859 v1860)), .bool ((o_fix_clip_1 F v1859 v1860))])))
          else (
            none))
        else (
          bif ((decide (a0 > 0))) then (
            some (.v (.tuple #[.int .i64 9223372036854775807, .bool true])))
          else (
            bif ((decide (a0 < 0))) then (
              some (.v (.tuple #[.int .i64 (-9223372036854775808), .bool true])))
            else (
              some (.v (.tuple #[.int .i64 0, .bool true]))))))
      else (
        none))
    else (
      none))
  else (
    none) : R) := by
    intros
    kernel_rfl
  exact (h ok_fix_of o_fix_of_0 o_fix_of_1 ok_wide_Left o_wide_Left_0 o_wide_Left_1 ok_wide_Div o_wide_Div_0 o_wide_Div_1 o_wide_Div_2 o_wide_Div_3 ok_fix_clip o_fix_clip_0 o_fix_clip_1).trans (by kernel_rfl)
def ok_fix_Div (F : Nat) (a0 : Int) (a1 : Int) : Bool := okT to_fix_Div (f_fix_Div F a0 a1)
def o_fix_Div_0 (F : Nat) (a0 : Int) (a1 : Int) : Int := atI (nth (outT to_fix_Div (f_fix_Div F a0 a1)) 0)
def o_fix_Div_1 (F : Nat) (a0 : Int) (a1 : Int) : Bool := atB (nth (outT to_fix_Div (f_fix_Div F a0 a1)) 1)
theorem k_fix_Div (F : Nat) (a0 : Int) (a1 : Int) {z0 : Int} {z1 : Bool} (h : f_fix_Div F a0 a1 = some (.v (.tuple #[.int .i64 z0, .bool z1]))) : ok_fix_Div F a0 a1 = true ∧ o_fix_Div_0 F a0 a1 = z0 ∧ o_fix_Div_1 F a0 a1 = z1 := by
  refine ⟨?_, ?_, ?_⟩
  · unfold ok_fix_Div; rw [h]; kernel_rfl
  · unfold o_fix_Div_0; rw [h]; kernel_rfl
  · unfold o_fix_Div_1; rw [h]; kernel_rfl
def s_fix_Div (F : Nat) : List VV → Option (Bool × VV) := spec ti_fix_Div to_fix_Div (fun q => (ok_fix_Div F (atI (nth q 0)) (atI (nth q 1)))) (fun q => [.i (o_fix_Div_0 F (atI (nth q 0)) (atI (nth q 1))), .b (o_fix_Div_1 F (atI (nth q 0)) (atI (nth q 1)))])
theorem hS_fix_Div (F : Nat) : ∀ f, Good PP f (unS (S_fix_Div F f)) := words_good fun p hp => by
  simp only [List.mem_cons, List.not_mem_nil, or_false] at hp
  rcases hp with rfl | rfl | rfl | rfl
  · exact g_fix_of F
  · exact g_wide_Left F
  · exact g_wide_Div F
  · exact g_fix_clip F
theorem hl_fix_Div (F : Nat) : ∀ p ∈ loopsIn PP 97, LoopOK PP (S_fix_Div F) c_fix_Div F (I_fix_Div F) p :=
  loops_of [] (by kernel_rfl) all_nil
theorem g_fix_Div (F : Nat) : Good PP 97 (unS (s_fix_Div F)) :=
  fun_spec (hS_fix_Div F) (by kernel_rfl) (by kernel_rfl) (C := c_fix_Div) (F := fun q => (f_fix_Div F (atI (nth q 0)) (atI (nth q 1)))) (fun _ => F) (fun _ => I_fix_Div F) (fun _ => hl_fix_Div F)
    (fun q => (congrArg (funL PP (S_fix_Div F) c_fix_Div (I_fix_Div F) 97) (show (fTs ti_fix_Div q).1 = (fTs ti_fix_Div [.i (atI (nth q 0)), .i (atI (nth q 1))]).1 by kernel_rfl)).trans (e_fix_Div F (atI (nth q 0)) (atI (nth q 1))))
    (fun _ h => (okT_fill h).trans (congrArg some (by kernel_rfl)))

end Go.Xv
set_option linter.unusedVariables false
namespace Go.Xv
/- 98 _ref02_Div -/
def c_ref02_Div : Cfg := ⟨[0, 1, 4, 5, 6, 14, 20, 22], [], [25]⟩
def ti_ref02_Div : List TV := [.v (.int .i64), .v (.int .i64)]
def to_ref02_Div : TV := .v (.tup [.int .i64, .bool])
def S_ref02_Div (F : Nat) : FuncId → List VV → Option (Bool × VV) := words [(41, s_ref01_Mul F), (84, s_ref01_Div F), (110, s_ref02_clip F)]
def W_ref02_Div (F : Nat) : List LW := []
def I_ref02_Div (F : Nat) : Nat → VS → (Exit → VS → R) → R := tabI c_ref02_Div (W_ref02_Div F)
def f_ref02_Div (F : Nat) (a0 : Int) (a1 : Int) : R :=
  bif ((a1 == 0)) then (
    bif ((a0 == 0)) then (
      some (.v (.tuple #[.int .i64 0, .bool true])))
    else (
      bif ((a1 == 0)) then (
        bif ((decide (a0 > 0))) then (
          some (.v (.tuple #[.int .i64 9223372036854775807, .bool true])))
        else (
          bif ((a1 == 0)) then (
            some (.v (.tuple #[.int .i64 (-9223372036854775808), .bool true])))
          else (
            bif (ok_ref01_Mul F a0 4294967296) then (
              let v1874 : Int := (o_ref01_Mul_0 F a0 4294967296)
              let v1875 : Int := (o_ref01_Mul_1 F a0 4294967296)
              bif (ok_ref01_Div F v1874 v1875 a1) then (
                let v1876 : Int := (o_ref01_Div_0 F v1874 v1875 a1)
                let v1877 : Int := (o_ref01_Div_1 F v1874 v1875 a1)
                bif (ok_ref02_clip F v1876 v1877) then (
                  some (.v (.tuple #[.int .i64 ((o_ref02_clip_0 F v1876 v1877)), .bool ((o_ref02_clip_1 F v1876 v1877))])))
                else (
                  none))
              else (
                none))
            else (
              none))))
      else (
        bif ((a1 == 0)) then (
          some (.v (.tuple #[.int .i64 (-9223372036854775808), .bool true])))
        else (
          bif (ok_ref01_Mul F a0 4294967296) then (
            let v1883 : Int := (o_ref01_Mul_0 F a0 4294967296)
            let v1884 : Int := (o_ref01_Mul_1 F a0 4294967296)
            bif (ok_ref01_Div F v1883 v1884 a1) then (
              let v1885 : Int := (o_ref01_Div_0 F v1883 v1884 a1)
              let v1886 : Int := (o_ref01_Div_1 F v1883 v1884 a1)
              bif (ok_ref02_clip F v1885 v1886) then (
                some (.v (.tuple #[.int .i64 ((o_ref02_clip_0 F v1885 v1886)), .bool ((o_ref02_clip_1 F v1885 v1886))])))
              else (
                none))
            else (
              none))
          else (
            none)))))
  else (
    bif ((a1 == 0)) then (
      bif ((decide (a0 > 0))) then (
        some (.v (.tuple #[.int .i64 9223372036854775807, .bool true])))
      else (
        bif ((a1 == 0)) then (
          some (.v (.tuple #[.int .i64 (-9223372036854775808), .bool true])))
        else (
          bif (ok_ref01_Mul F a0 4294967296) then (
            let v1894 : Int := (o_ref01_Mul_0 F a0 4294967296)
            let v1895 : Int := (o_ref01_Mul_1 F a0 4294967296)
            bif (ok_ref01_Div F v1894 v1895 a1) then (
              let v1896 : Int := (o_ref01_Div_0 F v1894 v1895 a1)
              let v1897 : Int := (o_ref01_Div_1 F v1894 v1895 a1)
              bif (ok_ref02_clip F v1896 v1897) then (
                some (.v (.tuple #[.int .i64 ((o_ref02_clip_0 F v1896 v1897)), .bool ((o_ref02_clip_1 F v1896 v1897))])))
              else (
                none))
            else (
              none))
          else (
            none))))
    else (
      bif ((a1 == 0)) then (
        some (.v (.tuple #[.int .i64 (-9223372036854775808), .bool true])))
      else (
        bif (ok_ref01_Mul F a0 4294967296) then (
          let v1903 : Int := (o_ref01_Mul_0 F a0 4294967296)
          let v1904 : Int := (o_ref01_Mul_1 F a0 4294967296)
          bif (ok_ref01_Div F v1903 v1904 a1) then (
            let v1905 : Int := (o_ref01_Div_0 F v1903 v1904 a1)
            let v1906 : Int := (o_ref01_Div_1 F v1903 v1904 a1)
            bif (ok_ref02_clip F v1905 v1906) then (
              some (.v (.tuple #[.int .i64 ((o_ref02_clip_0 F v1905 v1906)), .bool ((o_ref02_clip_1 F v1905 v1906))])))
            else (
              none))
          else (
            none))
        else (
          none))))
theorem e_ref02_Div (F : Nat) (a0 : Int) (a1 : Int) : funL PP (S_ref02_Div F) c_ref02_Div (I_ref02_Div F) 98 (fTs ti_ref02_Div [.i a0, .i a1]).1 = f_ref02_Div F a0 a1 := by
  have h : ∀ (ok_ref01_Mul : Nat → Int → Int → Bool) (o_ref01_Mul_0 : Nat → Int → Int → Int) (o_ref01_Mul_1 : Nat → Int → Int → Int) (ok_ref01_Div : Nat → Int → Int → Int → Bool) (o_ref01_Div_0 : Nat → Int → Int → Int → Int) (o_ref01_Div_1 : Nat → Int → Int → Int → Int) (o_ref01_Div_2 : Nat → Int → Int → Int → Int) (o_ref01_Div_3 : Nat → Int → Int → Int → Bool) (ok_ref02_clip : Nat → Int → Int → Bool) (o_ref02_clip_0 : Nat → Int → Int → Int) (o_ref02_clip_1 : Nat → Int → Int → Bool), funL PP (words [(41, spec ti_ref01_Mul to_ref01_Mul (fun q => (ok_ref01_Mul F (atI (nth q 0)) (atI (nth q 1)))) (fun q => [.i (o_ref01_Mul_0 F (atI (nth q 0)) (atI (nth q 1))), .i (o_ref01_Mul_1 F (atI (nth q 0)) (atI (nth q 1)))])), (84, spec ti_ref01_Div to_ref01_Div (fun q => (ok_ref01_Div F (atI (nth q 0)) (atI (nth q 1)) (atI (nth q 2)))) (fun q => [.i (o_ref01_Div_0 F (atI (nth q 0)) (atI (nth q 1)) (atI (nth q 2))), .i (o_ref01_Div_1 F (atI (nth q 0)) (atI (nth q 1)) (atI (nth q 2))), .i (o_ref01_Div_2 F (atI (nth q 0)) (atI (nth q 1)) (atI (nth q 2))), .b (o_ref01_Div_3 F (atI (nth q 0)) (atI (nth q 1)) (atI (nth q 2)))])), (110, spec ti_ref02_clip to_ref02_clip (fun q => (ok_ref02_clip F (atI (nth q 0)) (atI (nth q 1)))) (fun q => [.i (o_ref02_clip_0 F (atI (nth q 0)) (atI (nth q 1))), .b (o_ref02_clip_1 F (atI (nth q 0)) (atI (nth q 1)))]))]) c_ref02_Div (tabI c_ref02_Div []) 98 (fTs ti_ref02_Div [.i a0, .i a1]).1 = (
  bif ((a1 == 0)) then (
    bif ((a0 == 0)) then (
      some (.v (.tuple #[.int .i64 0, .bool true])))
    else (
      bif ((a1 == 0)) then (
        bif ((decide (a0 > 0))) then (
          some (.v (.tuple #[.int .i64 9223372036854775807, .bool true])))
        else (
          bif ((a1 == 0)) then (
            some (.v (.tuple #[.int .i64 (-9223372036854775808), .bool true])))
          else (
            bif (ok_ref01_Mul F a0 4294967296) then (
              let v1874 : Int := (o_ref01_Mul_0 F a0 4294967296)
              let v1875 : Int := (o_ref01_Mul_1 F a0 4294967296)
              bif (ok_ref01_Div F v1874 v1875 a1) then (
                let v1876 : Int := (o_ref01_Div_0 F v1874 v1875 a1)
                let v1877 : Int := (o_ref01_Div_1 F v1874 v1875 a1)
                bif (ok_ref02_clip F v1876 v1877) then (
                  some (.v (.tuple #[.int .i64 ((o_ref02_clip_0 F v1876 v1877)), .bool ((o_ref02_clip_1 F v1876 v1877))])))
                else (
                  none))
              else (
                none))
            else (
              none))))
      else (
        bif ((a1 == 0)) then (
          some (.v (.tuple #[.int .i64 (-9223372036854775808), .bool true])))
        else (
          bif (ok_ref01_Mul F a0 4294967296) then (
            let v1883 : Int := (o_ref01_Mul_0 F a0 4294967296)
            let v1884 : Int := (o_ref01_Mul_1 F a0 4294967296)
            bif (ok_ref01_Div F v1883 v1884 a1) then (
              let v1885 : Int := (o_ref01_Div_0 F v1883 v1884 a1)
              let v1886 : Int := (o_ref01_Div_1 F v1883 v1884 a1)
              bif (ok_ref02_clip F v1885 v1886) then (
                some (.v (.tuple #[.int .i64 ((o_ref02_clip_0 F v1885 v1886)), .bool ((o_ref02_clip_1 F v1885 v1886))])))
              else (
                none))
            else (
              none))
          else (
            none)))))
  else (
    bif ((a1 == 0)) then (
      bif ((decide (a0 > 0))) then (
        some (.v (.tuple #[.int .i64 9223372036854775807, .bool true])))
      else (
        bif ((a1 == 0)) then (
          some (.v (.tuple #[.int .i64 (-9223372036854775808), .bool true])))
        else (
          bif (ok_ref01_Mul F a0 4294967296) then (
            let v1894 : Int := (o_ref01_Mul_0 F a0 4294967296)
            let v1895 : Int := (o_ref01_Mul_1 F a0 4294967296)
            bif (ok_ref01_Div F v1894 v1895 a1) then (
              let v1896 : Int := (o_ref01_Div_0 F v1894 v1895 a1)
              let v1897 : Int := (o_ref01_Div_1 F v1894 v1895 a1)
              bif (ok_ref02_clip F v1896 v1897) then (
                some (.v (.tuple #[.int .i64 ((o_ref02_clip_0 F v1896 v1897)), .bool ((o_ref02_clip_1 F v1896 v1897))])))
              else (
                none))
            else (
              none))
          else (
            none))))
    else (
      bif ((a1 == 0)) then (
        some (.v (.tuple #[.int .i64 (-9223372036854775808), .bool true])))
      else (
        bif (ok_ref01_Mul F a0 4294967296) then (
          let v1903 : Int := (o_ref01_Mul_0 F a0 4294967296)
          let v1904 : Int := (o_ref01_Mul_1 F a0 4294967296)
          bif (ok_ref01_Div F v1903 v1904 a1) then (
            let v1905 : Int := (o_ref01_Div_0 F v1903 v1904 a1)
            let v1906 : Int := (o_ref01_Div_1 F v1903 v1904 a1)
            bif (ok_ref02_clip F v1905 v1906) then (
              some (.v (.tuple #[.int .i64 ((o_ref02_clip_0 F v1905 v1906)), .bool ((o_ref02_clip_1 F v1905 v1906))])))
            else (
              none))
          else (
            none))
        else (
          none)))) : R) := by
    intros
    kernel_rfl
  exact (h ok_ref01_Mul o_ref01_Mul_0 o_ref01_Mul_1 ok_ref01_Div o_ref01_Div_0 o_ref01_Div_1 o_ref01_Div_2 o_ref01_Div_3 ok_ref02_clip o_ref02_clip_0 o_ref02_clip_1).trans (by kernel_rfl)
def ok_ref02_Div (F : Nat) (a0 : Int) (a1 : Int) : Bool := okT to_ref02_Div (f_ref02_Div F a0 a1)
def o_ref02_Div_0 (F : Nat) (a0 : Int) (a1 : Int) : Int := atI (nth (outT to_ref02_Div (f_ref02_Div F a0 a1)) 0)
def o_ref02_Div_1 (F : Nat) (a0 : Int) (a1 : Int) : Bool := atB (nth (outT to_ref02_Div (f_ref02_Div F a0 a1)) 1)
theorem k_ref02_Div (F : Nat) (a0 : Int) (a1 : Int) {z0 : Int} {z1 : Bool} (h : f_ref02_Div F a0 a1 = some (.v (.tuple #[.int .i64 z0, .bool z1]))) : ok_ref02_Div F a0 a1 = true ∧ o_ref02_Div_0 F a0 a1 = z0 ∧ o_ref02_Div_1 F a0 a1 = z1 := by
  refine ⟨?_, ?_, ?_⟩
  · unfold ok_ref02_Div; rw [h]; kernel_rfl
  · unfold o_ref02_Div_0; rw [h]; kernel_rfl
  · unfold o_ref02_Div_1; rw [h]; kernel_rfl
def s_ref02_Div (F : Nat) : List VV → Option (Bool × VV) := spec ti_ref02_Div to_ref02_Div (fun q => (ok_ref02_Div F (atI (nth q 0)) (atI (nth q 1)))) (fun q => [.i (o_ref02_Div_0 F (atI (nth q 0)) (atI (nth q 1))), .b (o_ref02_Div_1 F (atI (nth q 0)) (atI (nth q 1)))])
theorem hS_ref02_Div (F : Nat) : ∀ f, Good PP f (unS (S_ref02_Div F f)) := words_good fun p hp => by
  simp only [List.mem_cons, List.not_mem_nil, or_false] at hp
  rcases hp with rfl | rfl | rfl
  · exact g_ref01_Mul F
  · exact g_ref01_Div F
  · exact g_ref02_clip F
theorem hl_ref02_Div (F : Nat) : ∀ p ∈ loopsIn PP 98, LoopOK PP (S_ref02_Div F) c_ref02_Div F (I_ref02_Div F) p :=
  loops_of [] (by kernel_rfl) all_nil
theorem g_ref02_Div (F : Nat) : Good PP 98 (unS (s_ref02_Div F)) :=
  fun_spec (hS_ref02_Div F) (by kernel_rfl) (by kernel_rfl) (C := c_ref02_Div) (F := fun q => (f_ref02_Div F (atI (nth q 0)) (atI (nth q 1)))) (fun _ => F) (fun _ => I_ref02_Div F) (fun _ => hl_ref02_Div F)
    (fun q => (congrArg (funL PP (S_ref02_Div F) c_ref02_Div (I_ref02_Div F) 98) (show (fTs ti_ref02_Div q).1 = (fTs ti_ref02_Div [.i (atI (nth q 0)), .i (atI (nth q 1))]).1 by kernel_rfl)).trans (e_ref02_Div F (atI (nth q 0)) (atI (nth q 1))))
    (fun _ h => (okT_fill h).trans (congrArg some (by kernel_rfl)))

end Go.Xv
namespace Go.Xv
theorem mul_bd {a b : Int} (ha : I64 a) (hb : I64 b) : -85070591730234615865843651857942052864 ≤ a * b ∧ a * b ≤ 85070591730234615865843651857942052864 := by
  unfold I64 at ha hb
  have h : (a * b).natAbs ≤ 9223372036854775808 * 9223372036854775808 := by
    rw [Int.natAbs_mul]
    exact Nat.mul_le_mul (by omega) (by omega)
  omega
theorem mul_W {a b : Int} (ha : I64 a) (hb : I64 b) : W128 (a * b) := by
  have := mul_bd ha hb
  unfold W128; omega
theorem cl32 : cl 32 = 32 := by decide
theorem near_W {z : Int} (h : -85070591730234615865843651857942052864 ≤ z ∧ z ≤ 85070591730234615865843651857942052864) : W128 (near z 32) := by
  unfold near
  rw [if_neg (by decide), show (2 : Int) ^ 32 = 4294967296 by decide, show (2 : Int) ^ (32 - 1) = 2147483648 by decide]
  unfold W128; omega
abbrev cp (z : Int) : VV := .v (.tuple #[.int .i64 (clipV z), .bool (clipC z)])
theorem clip_in {z : Int} (h : I64 z) : clipV z = z ∧ clipC z = false := by
  unfold I64 at h
  unfold clipV clipC
  exact ⟨by rw [if_neg (by omega), if_neg (by omega)], df (by omega)⟩

theorem f_fclip (F : Nat) {z : Int} (h : W128 z) : f_fix_clip F (hi z) (lo z) = some (cp z) := by
  unfold f_fix_clip
  obtain ⟨h1, h2, h3⟩ := a_Clip F h
  refine bp h1 ?_
  rw [h2, h3]
theorem a_fclip (F : Nat) {z : Int} (h : W128 z) : ok_fix_clip F (hi z) (lo z) = true ∧ o_fix_clip_0 F (hi z) (lo z) = clipV z ∧ o_fix_clip_1 F (hi z) (lo z) = clipC z := k_fix_clip F _ _ (f_fclip F h)
theorem f_rclip2 (F : Nat) {z : Int} (h : W128 z) : f_ref02_clip F (hi z) (lo z) = some (cp z) := by
  unfold f_ref02_clip
  obtain ⟨h1, h2, h3⟩ := a_rClip F h
  refine bp h1 ?_
  rw [h2, h3]
theorem a_rclip2 (F : Nat) {z : Int} (h : W128 z) : ok_ref02_clip F (hi z) (lo z) = true ∧ o_ref02_clip_0 F (hi z) (lo z) = clipV z ∧ o_ref02_clip_1 F (hi z) (lo z) = clipC z := k_ref02_clip F _ _ (f_rclip2 F h)
theorem f_fof (F : Nat) {n : Int} (h : I64 n) : f_fix_of F n = some (wd n) := by
  unfold f_fix_of
  obtain ⟨h1, h2, h3⟩ := a_Of F h
  refine bp h1 ?_
  rw [h2, h3]; rfl
theorem a_fof (F : Nat) {n : Int} (h : I64 n) : ok_fix_of F n = true ∧ o_fix_of_0 F n = hi n ∧ o_fix_of_1 F n = lo n := k_fix_of F _ (f_fof F h)

theorem f_fAdd (F : Nat) {a b : Int} (ha : I64 a) (hb : I64 b) : f_fix_Add F a b = some (cp (a + b)) := by
  unfold f_fix_Add
  dsimp only
  have hs := wi64_I (a + b)
  have e := wi64 (a + b)
  generalize IntKind.wrap .i64 (a + b) = s at *
  have h1 := and_neg (xorI_I a s) (xorI_I b s)
  have h2 := xor_neg ha hs
  have h3 := xor_neg hb hs
  unfold I64 at ha hb hs
  by_cases h : -9223372036854775808 ≤ a + b ∧ a + b < 9223372036854775808
  · refine bp (dt ?_) (some_clip ?_ ?_)
    · have : ¬ andI .i64 (xorI .i64 a s) (xorI .i64 b s) < 0 := by
        rw [h1, h2, h3]; omega
      omega
    · rw [(clip_in h).1]; omega
    · rw [(clip_in h).2]
  · refine bn (df ?_) ?_
    · have : andI .i64 (xorI .i64 a s) (xorI .i64 b s) < 0 := by
        rw [h1, h2, h3]; omega
      omega
    · by_cases ha0 : a < 0
      · refine bp (dt ha0) (some_clip ?_ ?_)
        · unfold clipV; rw [if_pos (by omega)]
        · unfold clipC; exact (dt (by omega)).symm
      · refine bn (df ha0) (some_clip ?_ ?_)
        · unfold clipV; rw [if_neg (by omega), if_pos (by omega)]
        · unfold clipC; exact (dt (by omega)).symm
theorem a_fAdd (F : Nat) {a b : Int} (ha : I64 a) (hb : I64 b) : ok_fix_Add F a b = true ∧ o_fix_Add_0 F a b = clipV (a + b) ∧ o_fix_Add_1 F a b = clipC (a + b) := k_fix_Add F _ _ (f_fAdd F ha hb)
theorem f_fSub (F : Nat) {a b : Int} (ha : I64 a) (hb : I64 b) : f_fix_Sub F a b = some (cp (a - b)) := by
  unfold f_fix_Sub
  dsimp only
  have hs := wi64_I (a - b)
  have e := wi64 (a - b)
  generalize IntKind.wrap .i64 (a - b) = s at *
  have h1 := and_neg (xorI_I a b) (xorI_I a s)
  have h2 := xor_neg ha hb
  have h3 := xor_neg ha hs
  unfold I64 at ha hb hs
  by_cases h : -9223372036854775808 ≤ a - b ∧ a - b < 9223372036854775808
  · refine bp (dt ?_) (some_clip ?_ ?_)
    · have : ¬ andI .i64 (xorI .i64 a b) (xorI .i64 a s) < 0 := by
        rw [h1, h2, h3]; omega
      omega
    · rw [(clip_in h).1]; omega
    · rw [(clip_in h).2]
  · refine bn (df ?_) ?_
    · have : andI .i64 (xorI .i64 a b) (xorI .i64 a s) < 0 := by
        rw [h1, h2, h3]; omega
      omega
    · by_cases ha0 : a < 0
      · refine bp (dt ha0) (some_clip ?_ ?_)
        · unfold clipV; rw [if_pos (by omega)]
        · unfold clipC; exact (dt (by omega)).symm
      · refine bn (df ha0) (some_clip ?_ ?_)
        · unfold clipV; rw [if_neg (by omega), if_pos (by omega)]
        · unfold clipC; exact (dt (by omega)).symm
theorem a_fSub (F : Nat) {a b : Int} (ha : I64 a) (hb : I64 b) : ok_fix_Sub F a b = true ∧ o_fix_Sub_0 F a b = clipV (a - b) ∧ o_fix_Sub_1 F a b = clipC (a - b) := k_fix_Sub F _ _ (f_fSub F ha hb)
theorem I0 : I64 0 := by unfold I64; omega
theorem f_fNeg (F : Nat) {a : Int} (ha : I64 a) : f_fix_Neg F a = some (cp (-a)) := by
  unfold f_fix_Neg
  obtain ⟨h1, h2, h3⟩ := a_fSub F I0 ha
  refine bp h1 ?_
  rw [h2, h3, Int.zero_sub]
theorem a_fNeg (F : Nat) {a : Int} (ha : I64 a) : ok_fix_Neg F a = true ∧ o_fix_Neg_0 F a = clipV (-a) ∧ o_fix_Neg_1 F a = clipC (-a) := k_fix_Neg F _ (f_fNeg F ha)
theorem f_fAbs (F : Nat) {a : Int} (ha : I64 a) : f_fix_Abs F a = some (cp (if a < 0 then -a else a)) := by
  unfold f_fix_Abs
  by_cases h : a < 0
  · rw [if_pos h]
    obtain ⟨h1, h2, h3⟩ := a_fNeg F ha
    refine bn (df (by omega)) (bp h1 ?_)
    rw [h2, h3]
  · rw [if_neg h]
    refine bp (dt (by omega)) (some_clip (clip_in ha).1.symm (clip_in ha).2.symm)
theorem f_fMul (F : Nat) {a b : Int} (ha : I64 a) (hb : I64 b) : f_fix_Mul F a b = some (cp (near (a * b) 32)) := by
  unfold f_fix_Mul
  obtain ⟨h1, h2, h3⟩ := a_Mul F ha hb
  obtain ⟨n1, n2, n3⟩ := a_Near F 32 (mul_W ha hb)
  obtain ⟨c1, c2, c3⟩ := a_fclip F (near_W (mul_bd ha hb))
  refine bp h1 ?_
  rw [h2, h3]
  refine bp n1 ?_
  rw [n2, n3, cl32]
  refine bp c1 ?_
  rw [c2, c3]
theorem a_fMul (F : Nat) {a b : Int} (ha : I64 a) (hb : I64 b) : ok_fix_Mul F a b = true ∧ o_fix_Mul_0 F a b = clipV (near (a * b) 32) ∧ o_fix_Mul_1 F a b = clipC (near (a * b) 32) := k_fix_Mul F _ _ (f_fMul F ha hb)
theorem p32W {a : Int} (ha : I64 a) : W128 (a * 4294967296) := by unfold I64 at ha; unfold W128; omega
theorem f_fInt (F : Nat) {a : Int} (ha : I64 a) : f_fix_Int F a = some (cp (a * 4294967296)) := by
  unfold f_fix_Int
  obtain ⟨h1, h2, h3⟩ := a_Of F ha
  obtain ⟨n1, n2, n3⟩ := a_Left F a 32
  rw [show ((32 : Int).toNat) = 32 from rfl, show (2 : Int) ^ 32 = 4294967296 by decide] at n2 n3
  obtain ⟨c1, c2, c3⟩ := a_fclip F (p32W ha)
  refine bp h1 ?_
  rw [h2, h3]
  refine bp n1 ?_
  rw [n2, n3]
  refine bp c1 ?_
  rw [c2, c3]
theorem a_fInt (F : Nat) {a : Int} (ha : I64 a) : ok_fix_Int F a = true ∧ o_fix_Int_0 F a = clipV (a * 4294967296) ∧ o_fix_Int_1 F a = clipC (a * 4294967296) := k_fix_Int F _ (f_fInt F ha)
theorem f_works02 (F : Nat) : f_law02_works F = some (.v (.bool true)) := by
  unfold f_law02_works
  obtain ⟨h1, h2, h3⟩ := a_fMul F (a := 4294967296) (b := 4294967296) (by unfold I64; omega) (by unfold I64; omega)
  obtain ⟨g1, g2, g3⟩ := a_fAdd F (a := 9223372036854775807) (b := 1) (by unfold I64; omega) (by unfold I64; omega)
  obtain ⟨i1, i2, i3⟩ := a_fInt F (a := -3) (by unfold I64; omega)
  simp only [h1, h2, h3, g1, g2, g3, i1, i2, cond_true]
  rfl
theorem a_works02 (F : Nat) : ok_law02_works F = true ∧ o_law02_works_0 F = true := k_law02_works F (f_works02 F)
theorem f_fClamp (F : Nat) {a l h : Int} : f_fix_Clamp F a l h = some (.v (.tuple #[.int .i64 (if h < l then l else min (max a l) h), .bool (if h < l then true else decide (min (max a l) h ≠ a))])) := by
  unfold f_fix_Clamp
  dsimp only
  by_cases hl : h < l
  · refine bp (dt hl) ?_
    rw [if_pos hl, if_pos hl]
  · refine bn (df hl) ?_
    rw [if_neg hl, if_neg hl]
    have e : (if h < (if l > a then l else a) then h else (if l > a then l else a)) = min (max a l) h := by split <;> (try split) <;> omega
    have e2 : (min (max a l) h != a) = decide (min (max a l) h ≠ a) := by rw [Bool.eq_iff_iff]; simp
    rw [e, e2]
theorem f_fMid (F : Nat) {a b : Int} (ha : I64 a) (hb : I64 b) : f_fix_Mid F a b = some (.v (.int .i64 ((a + b) / 2))) := by
  unfold f_fix_Mid
  refine some_int ?_
  rw [mid_i64 ha hb, fdiv_pos _ (by decide)]
/-! the document's -/
theorem f_rInt (F : Nat) (hF : 200 ≤ F) {a : Int} (ha : I64 a) : f_ref02_Int F a = some (cp (a * 4294967296)) := by
  unfold f_ref02_Int
  obtain ⟨h1, h2, h3⟩ := a_rMul F hF ha (b := 4294967296) (by unfold I64; omega)
  obtain ⟨c1, c2, c3⟩ := a_rclip2 F (p32W ha)
  refine bp h1 ?_
  rw [h2, h3]
  refine bp c1 ?_
  rw [c2, c3]
theorem f_rAdd2 (F : Nat) (hF : 200 ≤ F) {a b : Int} (ha : I64 a) (hb : I64 b) : f_ref02_Add F a b = some (cp (a + b)) := by
  unfold f_ref02_Add
  obtain ⟨h1, h2, h3⟩ := a_rOf F ha
  obtain ⟨g1, g2, g3⟩ := a_rOf F hb
  obtain ⟨s1, s2, s3⟩ := a_rAdd F hF a b
  obtain ⟨c1, c2, c3⟩ := a_rclip2 F (z := a + b) (by unfold I64 at *; unfold W128; omega)
  refine bp h1 (bp g1 ?_)
  rw [h2, h3, g2, g3]
  refine bp s1 ?_
  rw [s2, s3]
  refine bp c1 ?_
  rw [c2, c3]
theorem f_rSub2 (F : Nat) (hF : 200 ≤ F) {a b : Int} (ha : I64 a) (hb : I64 b) : f_ref02_Sub F a b = some (cp (a - b)) := by
  unfold f_ref02_Sub
  obtain ⟨h1, h2, h3⟩ := a_rOf F ha
  obtain ⟨g1, g2, g3⟩ := a_rOf F hb
  obtain ⟨n1, n2, n3⟩ := a_rNeg F hF b
  obtain ⟨s1, s2, s3⟩ := a_rAdd F hF a (-b)
  obtain ⟨c1, c2, c3⟩ := a_rclip2 F (z := a + -b) (by unfold I64 at *; unfold W128; omega)
  refine bp h1 (bp g1 ?_)
  rw [h2, h3, g2, g3]
  refine bp n1 ?_
  rw [n2, n3]
  refine bp s1 ?_
  rw [s2, s3]
  refine bp c1 ?_
  rw [c2, c3, ← Int.sub_eq_add_neg]
theorem f_rNeg2 (F : Nat) (hF : 200 ≤ F) {a : Int} (ha : I64 a) : f_ref02_Neg F a = some (cp (-a)) := by
  unfold f_ref02_Neg
  obtain ⟨h1, h2, h3⟩ := k_ref02_Sub F _ _ (f_rSub2 F hF I0 ha)
  refine bp h1 ?_
  rw [h2, h3, Int.zero_sub]
theorem f_rAbs2 (F : Nat) (hF : 200 ≤ F) {a : Int} (ha : I64 a) : f_ref02_Abs F a = some (cp (if a < 0 then -a else a)) := by
  unfold f_ref02_Abs
  by_cases h : a < 0
  · rw [if_pos h]
    obtain ⟨h1, h2, h3⟩ := k_ref02_Neg F _ (f_rNeg2 F hF ha)
    refine bp (dt h) (bp h1 ?_)
    rw [h2, h3]
  · rw [if_neg h]
    exact bn (df h) (some_clip (clip_in ha).1.symm (clip_in ha).2.symm)
theorem f_rMul2 (F : Nat) (hF : 200 ≤ F) {a b : Int} (ha : I64 a) (hb : I64 b) : f_ref02_Mul F a b = some (cp (near (a * b) 32)) := by
  unfold f_ref02_Mul
  obtain ⟨h1, h2, h3⟩ := a_rMul F hF ha hb
  obtain ⟨n1, n2, n3⟩ := a_rNear F hF 32 (mul_W ha hb)
  obtain ⟨c1, c2, c3⟩ := a_rclip2 F (near_W (mul_bd ha hb))
  refine bp h1 ?_
  rw [h2, h3]
  refine bp n1 ?_
  rw [n2, n3, cl32]
  refine bp c1 ?_
  rw [c2, c3]
end Go.Xv
namespace Go.Xv
theorem tdiv_W {z b : Int} (hz : -170141183460469231731687303715884105728 < z ∧ z < 170141183460469231731687303715884105728) : W128 (Int.tdiv z b) := by
  have h : (Int.tdiv z b).natAbs ≤ z.natAbs := by
    rw [Int.natAbs_tdiv]
    exact Nat.div_le_self _ _
  unfold W128; omega
/-- a quotient of numbers with a point -/
def fdivV (a b : Int) : Int := if b = 0 then (if 0 < a then 9223372036854775807 else if a < 0 then -9223372036854775808 else 0) else clipV (Int.tdiv (a * 4294967296) b)
def fdivC (a b : Int) : Bool := if b = 0 then true else clipC (Int.tdiv (a * 4294967296) b)
theorem p32b {a : Int} (ha : I64 a) : -170141183460469231731687303715884105728 < a * 4294967296 ∧ a * 4294967296 < 170141183460469231731687303715884105728 := by unfold I64 at ha; omega
theorem f_fDiv (F : Nat) (hF : 200 ≤ F) {a b : Int} (ha : I64 a) (hb : I64 b) : f_fix_Div F a b = some (.v (.tuple #[.int .i64 (fdivV a b), .bool (fdivC a b)])) := by
  unfold f_fix_Div
  obtain ⟨h1, h2, h3⟩ := a_fof F ha
  obtain ⟨n1, n2, n3⟩ := a_Left F a 32
  rw [show ((32 : Int).toNat) = 32 from rfl, show (2 : Int) ^ 32 = 4294967296 by decide] at n2 n3
  have hd := f_Div F hF (hi_I (a * 4294967296)) (lo_U (a * 4294967296)) hb
  rw [val_hl, W_in (p32W ha)] at hd
  unfold divR at hd
  refine bp h1 ?_
  rw [h2, h3]
  refine bp n1 ?_
  rw [n2, n3]
  unfold fdivV fdivC
  by_cases h : b = 0
  · rw [if_pos h] at hd
    obtain ⟨d1, d2, d3, d4, d5⟩ := k_wide_Div F _ _ _ hd
    refine bp d1 (bn d5 ?_)
    rw [if_pos h, if_pos h]
    by_cases h1 : 0 < a
    · refine bp (dt h1) ?_
      rw [if_pos h1]
    · refine bn (df h1) ?_
      rw [if_neg h1]
      by_cases h2 : a < 0
      · refine bp (dt h2) ?_
        rw [if_pos h2]
      · refine bn (df h2) ?_
        rw [if_neg h2]
  · rw [if_neg h] at hd
    obtain ⟨d1, d2, d3, d4, d5⟩ := k_wide_Div F _ _ _ hd
    obtain ⟨c1, c2, c3⟩ := a_fclip F (tdiv_W (b := b) (p32b ha))
    refine bp d1 (bp d5 ?_)
    rw [d2, d3]
    refine bp c1 ?_
    rw [c2, c3, if_neg h, if_neg h]
theorem f_rDiv2 (F : Nat) (hF : 200 ≤ F) {a b : Int} (ha : I64 a) (hb : I64 b) : f_ref02_Div F a b = some (.v (.tuple #[.int .i64 (fdivV a b), .bool (fdivC a b)])) := by
  unfold f_ref02_Div fdivV fdivC
  by_cases h : b = 0
  · refine bp (by simp [h]) ?_
    rw [if_pos h, if_pos h]
    by_cases h0 : a = 0
    · refine bp (by simp [h0]) ?_
      rw [if_neg (by omega), if_neg (by omega)]
    · refine bn (by simp [h0]) (bp (by simp [h]) ?_)
      by_cases h1 : 0 < a
      · refine bp (dt h1) ?_
        rw [if_pos h1]
      · refine bn (df h1) (bp (by simp [h]) ?_)
        rw [if_neg h1, if_pos (by omega)]
  · have hn : (b == 0) = false := by simp [h]
    refine bn hn (bn hn (bn hn ?_))
    rw [if_neg h, if_neg h]
    obtain ⟨m1, m2, m3⟩ := a_rMul F hF ha (b := 4294967296) (by unfold I64; omega)
    have hd := f_rDiv F hF (hi_I (a * 4294967296)) (lo_U (a * 4294967296)) hb
    rw [val_hl, W_in (p32W ha)] at hd
    unfold divR at hd
    rw [if_neg h] at hd
    obtain ⟨d1, d2, d3, d4, d5⟩ := k_ref01_Div F _ _ _ hd
    obtain ⟨c1, c2, c3⟩ := a_rclip2 F (tdiv_W (b := b) (p32b ha))
    refine bp m1 ?_
    rw [m2, m3]
    refine bp d1 ?_
    rw [d2, d3]
    refine bp c1 ?_
    rw [c2, c3]
/-- the sum of the first numbers of a row -/
def sumZ (zs : List Int) (i : Nat) : Int := (zs.take i).sum
theorem sumZ_succ (zs : List Int) {i : Nat} (h : i < zs.length) : sumZ zs (i + 1) = sumZ zs i + zs[i] := by
  unfold sumZ
  rw [List.take_succ_eq_append_getElem h, List.sum_append]
  simp
def rowV (zs : List Int) : List VV := zs.map fun n => .v (.int .i64 n)
theorem row_get (zs : List Int) {i : Nat} (h : i < zs.length) : isI .i64 (rowV zs)[0 + ((Int.toNat (i : Int)) * 1)]? = true ∧ iv (rowV zs)[0 + ((Int.toNat (i : Int)) * 1)]? = zs[i] := by
  rw [zmul]
  have : (rowV zs)[i]? = some (.v (.int .i64 zs[i])) := by simp [rowV, h]
  rw [this]
  exact ⟨rfl, rfl⟩
theorem lp_Sum_0 (F : Nat) (ex) (zs : List Int) (hz : ∀ n ∈ zs, I64 n) (l : Nat) (hl : l ≤ zs.length) (hl2 : l < 4611686018427387904) (x0 : List VV) (x1 x2 : Nat) (x3 : Int) (x4 : Bool) : ∀ (k n i : Nat) (x9 x10 x11 : Int), i + k = l → k < n → x9 = i → x10 = hi (sumZ zs i) → x11 = lo (sumZ zs i) →
    L_fix_Sum_0 F ex n x0 x1 x2 x3 x4 (rowV zs) 0 l (l : Int) x9 x10 x11 = ex x0 x1 x2 x3 x4 (rowV zs) 0 l l l (hi (sumZ zs l)) (lo (sumZ zs l))
  | _, 0, _, _, _, _, _, h, _, _, _ => absurd h (by omega)
  | 0, n + 1, i, _, _, _, h, _, rfl, rfl, rfl => by
    obtain rfl : i = l := by omega
    rw [L_fix_Sum_0]
    unfold B_fix_Sum_0
    exact bn (df (by omega)) rfl
  | k + 1, n + 1, i, _, _, _, h, hn, rfl, rfl, rfl => by
    have hi' : i < zs.length := by omega
    obtain ⟨g1, g2⟩ := row_get zs hi'
    rw [L_fix_Sum_0]
    unfold B_fix_Sum_0
    obtain ⟨o1, o2, o3⟩ := a_fof F (hz zs[i] (List.getElem_mem hi'))
    obtain ⟨s1, s2, s3⟩ := a_Add F (sumZ zs i) zs[i]
    rw [← sumZ_succ zs hi'] at s2 s3
    refine bp (dt (by omega)) (bp (ix_ok i l (by omega)) (bp (by rw [g1]; rfl) ?_))
    rw [g2]
    refine bp o1 ?_
    rw [o2, o3]
    refine bp s1 ?_
    refine lp_Sum_0 F ex zs hz l hl hl2 x0 x1 x2 x3 x4 k n (i + 1) _ _ _ (by omega) (by omega) ?_ s2 s3
    rw [wi64_in (by unfold I64; omega)]; push_cast; rfl
theorem lp_rSum_0 (F : Nat) (hF : 200 ≤ F) (ex) (zs : List Int) (hz : ∀ n ∈ zs, I64 n) (l : Nat) (hl : l ≤ zs.length) (hl2 : l < 4611686018427387904) (x3 : Int) (x4 : Bool) : ∀ (k n i : Nat) (x5 x6 x7 : Int), i + k = l → k < n → x5 = i → x6 = hi (sumZ zs i) → x7 = lo (sumZ zs i) →
    L_ref02_Sum_0 F ex n (rowV zs) 0 l x3 x4 x5 x6 x7 = ex (rowV zs) 0 l x3 x4 l (hi (sumZ zs l)) (lo (sumZ zs l))
  | _, 0, _, _, _, _, _, h, _, _, _ => absurd h (by omega)
  | 0, n + 1, i, _, _, _, h, _, rfl, rfl, rfl => by
    obtain rfl : i = l := by omega
    rw [L_ref02_Sum_0]
    unfold B_ref02_Sum_0
    exact bn (df (by omega)) rfl
  | k + 1, n + 1, i, _, _, _, h, hn, rfl, rfl, rfl => by
    have hi' : i < zs.length := by omega
    obtain ⟨g1, g2⟩ := row_get zs hi'
    rw [L_ref02_Sum_0]
    unfold B_ref02_Sum_0
    obtain ⟨o1, o2, o3⟩ := a_rOf F (hz zs[i] (List.getElem_mem hi'))
    obtain ⟨s1, s2, s3⟩ := a_rAdd F hF (sumZ zs i) zs[i]
    rw [← sumZ_succ zs hi'] at s2 s3
    refine bp (dt (by omega)) (bp (ix_ok i l (by omega)) (bp (by rw [g1]; rfl) ?_))
    rw [g2]
    refine bp o1 ?_
    rw [o2, o3]
    refine bp s1 ?_
    refine lp_rSum_0 F hF ex zs hz l hl hl2 x3 x4 k n (i + 1) _ _ _ (by omega) (by omega) ?_ s2 s3
    rw [wi64_in (by unfold I64; omega)]; push_cast; rfl
end Go.Xv
