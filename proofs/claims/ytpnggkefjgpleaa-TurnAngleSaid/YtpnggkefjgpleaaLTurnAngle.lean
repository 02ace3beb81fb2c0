/- The angle of any two numbers is as the document says: the law returns true for every input, and leaves its arguments as they were. -/
import Derived.Test.YtpnggkefjgpleaaB2
import Derived.Test.YtpnggkefjgpleaaProg
import Derived.KernelRfl
namespace Go.Xv
noncomputable abbrev PP := Proofs.Try.prog
end Go.Xv
set_option linter.unusedVariables false
namespace Go.Xv
/- 92 _fix_Clamp -/
def c_fix_Clamp : Cfg := ⟨[0, 1, 2, 6, 7, 8, 11], [], [], []⟩
def ti_fix_Clamp : List TV := [.v (.int .i64), .v (.int .i64), .v (.int .i64)]
def to_fix_Clamp : TV := .v (.tup [.int .i64, .bool])
def S_fix_Clamp (F : Nat) : FuncId → List VV → Option (Bool × VV) := words []
def W_fix_Clamp (F : Nat) : List LW := []
def I_fix_Clamp (F : Nat) : Nat → VS → (Exit → VS → R) → R := tabI c_fix_Clamp (W_fix_Clamp F)
def WJ_fix_Clamp (F : Nat) : List LJ := []
def J_fix_Clamp (F : Nat) : Nat → Nat → VS → (Exit → VS → R) → R := tabJ (WJ_fix_Clamp F)
def f_fix_Clamp (F : Nat) (a0 : Int) (a1 : Int) (a2 : Int) : R :=
  bif ((decide (a2 < a1))) then (
    some (.v (.tuple #[.int .i64 a1, .bool true])))
  else (
    let v123 : Int := (if a1 > a0 then a1 else a0)
    let v124 : Int := (if a2 < v123 then a2 else v123)
    some (.v (.tuple #[.int .i64 v124, .bool ((v124 != a0))])))
theorem e_fix_Clamp (F : Nat) (a0 : Int) (a1 : Int) (a2 : Int) : funL PP (S_fix_Clamp F) c_fix_Clamp (I_fix_Clamp F) (J_fix_Clamp F) 92 (fTs ti_fix_Clamp [.i a0, .i a1, .i a2]).1 = f_fix_Clamp F a0 a1 a2 := by
  have h : ∀ (_ : Unit), funL PP (words []) c_fix_Clamp (tabI c_fix_Clamp []) (tabJ []) 92 (fTs ti_fix_Clamp [.i a0, .i a1, .i a2]).1 = (
  bif ((decide (a2 < a1))) then (
    some (.v (.tuple #[.int .i64 a1, .bool true])))
  else (
    let v123 : Int := (if a1 > a0 then a1 else a0)
    let v124 : Int := (if a2 < v123 then a2 else v123)
    some (.v (.tuple #[.int .i64 v124, .bool ((v124 != a0))]))) : R) := by
    intros
    kernel_rfl
  exact (h ()).trans (by kernel_rfl)
def ok_fix_Clamp (F : Nat) (a0 : Int) (a1 : Int) (a2 : Int) : Bool := okT to_fix_Clamp (f_fix_Clamp F a0 a1 a2)
def o_fix_Clamp_0 (F : Nat) (a0 : Int) (a1 : Int) (a2 : Int) : Int := atI (nth (outT to_fix_Clamp (f_fix_Clamp F a0 a1 a2)) 0)
def o_fix_Clamp_1 (F : Nat) (a0 : Int) (a1 : Int) (a2 : Int) : Bool := atB (nth (outT to_fix_Clamp (f_fix_Clamp F a0 a1 a2)) 1)
theorem k_fix_Clamp (F : Nat) (a0 : Int) (a1 : Int) (a2 : Int) {z0 : Int} {z1 : Bool} (h : f_fix_Clamp F a0 a1 a2 = some (.v (.tuple #[.int .i64 z0, .bool z1]))) : ok_fix_Clamp F a0 a1 a2 = true ∧ o_fix_Clamp_0 F a0 a1 a2 = z0 ∧ o_fix_Clamp_1 F a0 a1 a2 = z1 := by
  refine ⟨?_, ?_, ?_⟩
  · unfold ok_fix_Clamp; rw [h]; kernel_rfl
  · unfold o_fix_Clamp_0; rw [h]; kernel_rfl
  · unfold o_fix_Clamp_1; rw [h]; kernel_rfl
def s_fix_Clamp (F : Nat) : List VV → Option (Bool × VV) := spec ti_fix_Clamp to_fix_Clamp (fun q => (ok_fix_Clamp F (atI (nth q 0)) (atI (nth q 1)) (atI (nth q 2)))) (fun q => [.i (o_fix_Clamp_0 F (atI (nth q 0)) (atI (nth q 1)) (atI (nth q 2))), .b (o_fix_Clamp_1 F (atI (nth q 0)) (atI (nth q 1)) (atI (nth q 2)))])
theorem hS_fix_Clamp (F : Nat) : ∀ f, Good PP f (unS (S_fix_Clamp F f)) := words_good fun p hp => by
  cases hp
theorem hl_fix_Clamp (F : Nat) : ∀ p ∈ loopsIn PP 92, LoopOK PP (S_fix_Clamp F) c_fix_Clamp F (I_fix_Clamp F) (J_fix_Clamp F) p :=
  loops_of [] (by kernel_rfl) all_nil
theorem hj_fix_Clamp (F : Nat) : ∀ p ∈ joinsIn PP c_fix_Clamp 92, JoinOK PP (S_fix_Clamp F) c_fix_Clamp (I_fix_Clamp F) (J_fix_Clamp F) p :=
  joins_of [] (by kernel_rfl) all_nil
theorem g_fix_Clamp (F : Nat) : Good PP 92 (unS (s_fix_Clamp F)) :=
  fun_spec (hS_fix_Clamp F) (by kernel_rfl) (by kernel_rfl) (C := c_fix_Clamp) (F := fun q => (f_fix_Clamp F (atI (nth q 0)) (atI (nth q 1)) (atI (nth q 2)))) (fun _ => F) (fun _ => I_fix_Clamp F) (fun _ => J_fix_Clamp F) (fun _ => hl_fix_Clamp F) (fun _ => hj_fix_Clamp F)
    (fun q => (congrArg (funL PP (S_fix_Clamp F) c_fix_Clamp (I_fix_Clamp F) (J_fix_Clamp F) 92) (show (fTs ti_fix_Clamp q).1 = (fTs ti_fix_Clamp [.i (atI (nth q 0)), .i (atI (nth q 1)), .i (atI (nth q 2))]).1 by kernel_rfl)).trans (e_fix_Clamp F (atI (nth q 0)) (atI (nth q 1)) (atI (nth q 2))))
    (fun _ h => (okT_fill h).trans (congrArg some (by kernel_rfl)))

end Go.Xv
set_option linter.unusedVariables false
namespace Go.Xv
/- 124 _fix_Sub -/
def c_fix_Sub : Cfg := ⟨[0, 1, 4, 5, 6, 17, 20], [], [], []⟩
def ti_fix_Sub : List TV := [.v (.int .i64), .v (.int .i64)]
def to_fix_Sub : TV := .v (.tup [.int .i64, .bool])
def S_fix_Sub (F : Nat) : FuncId → List VV → Option (Bool × VV) := words []
def W_fix_Sub (F : Nat) : List LW := []
def I_fix_Sub (F : Nat) : Nat → VS → (Exit → VS → R) → R := tabI c_fix_Sub (W_fix_Sub F)
def WJ_fix_Sub (F : Nat) : List LJ := []
def J_fix_Sub (F : Nat) : Nat → Nat → VS → (Exit → VS → R) → R := tabJ (WJ_fix_Sub F)
def f_fix_Sub (F : Nat) (a0 : Int) (a1 : Int) : R :=
  let v288 : Int := (IntKind.wrap .i64 (a0 - a1))
  bif ((decide (((andI .i64 ((xorI .i64 a0 a1)) ((xorI .i64 a0 v288)))) ≥ 0))) then (
    some (.v (.tuple #[.int .i64 v288, .bool false])))
  else (
    bif ((decide (a0 < 0))) then (
      some (.v (.tuple #[.int .i64 (-9223372036854775808), .bool true])))
    else (
      some (.v (.tuple #[.int .i64 9223372036854775807, .bool true]))))
theorem e_fix_Sub (F : Nat) (a0 : Int) (a1 : Int) : funL PP (S_fix_Sub F) c_fix_Sub (I_fix_Sub F) (J_fix_Sub F) 124 (fTs ti_fix_Sub [.i a0, .i a1]).1 = f_fix_Sub F a0 a1 := by
  have h : ∀ (_ : Unit), funL PP (words []) c_fix_Sub (tabI c_fix_Sub []) (tabJ []) 124 (fTs ti_fix_Sub [.i a0, .i a1]).1 = (
  let v288 : Int := (IntKind.wrap .i64 (a0 - a1))
  bif ((decide (((andI .i64 ((xorI .i64 a0 a1)) ((xorI .i64 a0 v288)))) ≥ 0))) then (
    some (.v (.tuple #[.int .i64 v288, .bool false])))
  else (
    bif ((decide (a0 < 0))) then (
      some (.v (.tuple #[.int .i64 (-9223372036854775808), .bool true])))
    else (
      some (.v (.tuple #[.int .i64 9223372036854775807, .bool true])))) : R) := by
    intros
    kernel_rfl
  exact (h ()).trans (by kernel_rfl)
def ok_fix_Sub (F : Nat) (a0 : Int) (a1 : Int) : Bool := okT to_fix_Sub (f_fix_Sub F a0 a1)
def o_fix_Sub_0 (F : Nat) (a0 : Int) (a1 : Int) : Int := atI (nth (outT to_fix_Sub (f_fix_Sub F a0 a1)) 0)
def o_fix_Sub_1 (F : Nat) (a0 : Int) (a1 : Int) : Bool := atB (nth (outT to_fix_Sub (f_fix_Sub F a0 a1)) 1)
theorem k_fix_Sub (F : Nat) (a0 : Int) (a1 : Int) {z0 : Int} {z1 : Bool} (h : f_fix_Sub F a0 a1 = some (.v (.tuple #[.int .i64 z0, .bool z1]))) : ok_fix_Sub F a0 a1 = true ∧ o_fix_Sub_0 F a0 a1 = z0 ∧ o_fix_Sub_1 F a0 a1 = z1 := by
  refine ⟨?_, ?_, ?_⟩
  · unfold ok_fix_Sub; rw [h]; kernel_rfl
  · unfold o_fix_Sub_0; rw [h]; kernel_rfl
  · unfold o_fix_Sub_1; rw [h]; kernel_rfl
def s_fix_Sub (F : Nat) : List VV → Option (Bool × VV) := spec ti_fix_Sub to_fix_Sub (fun q => (ok_fix_Sub F (atI (nth q 0)) (atI (nth q 1)))) (fun q => [.i (o_fix_Sub_0 F (atI (nth q 0)) (atI (nth q 1))), .b (o_fix_Sub_1 F (atI (nth q 0)) (atI (nth q 1)))])
theorem hS_fix_Sub (F : Nat) : ∀ f, Good PP f (unS (S_fix_Sub F f)) := words_good fun p hp => by
  cases hp
theorem hl_fix_Sub (F : Nat) : ∀ p ∈ loopsIn PP 124, LoopOK PP (S_fix_Sub F) c_fix_Sub F (I_fix_Sub F) (J_fix_Sub F) p :=
  loops_of [] (by kernel_rfl) all_nil
theorem hj_fix_Sub (F : Nat) : ∀ p ∈ joinsIn PP c_fix_Sub 124, JoinOK PP (S_fix_Sub F) c_fix_Sub (I_fix_Sub F) (J_fix_Sub F) p :=
  joins_of [] (by kernel_rfl) all_nil
theorem g_fix_Sub (F : Nat) : Good PP 124 (unS (s_fix_Sub F)) :=
  fun_spec (hS_fix_Sub F) (by kernel_rfl) (by kernel_rfl) (C := c_fix_Sub) (F := fun q => (f_fix_Sub F (atI (nth q 0)) (atI (nth q 1)))) (fun _ => F) (fun _ => I_fix_Sub F) (fun _ => J_fix_Sub F) (fun _ => hl_fix_Sub F) (fun _ => hj_fix_Sub F)
    (fun q => (congrArg (funL PP (S_fix_Sub F) c_fix_Sub (I_fix_Sub F) (J_fix_Sub F) 124) (show (fTs ti_fix_Sub q).1 = (fTs ti_fix_Sub [.i (atI (nth q 0)), .i (atI (nth q 1))]).1 by kernel_rfl)).trans (e_fix_Sub F (atI (nth q 0)) (atI (nth q 1))))
    (fun _ h => (okT_fill h).trans (congrArg some (by kernel_rfl)))

end Go.Xv
set_option linter.unusedVariables false
namespace Go.Xv
/- 113 _fix_Neg -/
def c_fix_Neg : Cfg := ⟨[0, 2, 3], [], [], []⟩
def ti_fix_Neg : List TV := [.v (.int .i64)]
def to_fix_Neg : TV := .v (.tup [.int .i64, .bool])
def S_fix_Neg (F : Nat) : FuncId → List VV → Option (Bool × VV) := words [(124, s_fix_Sub F)]
def W_fix_Neg (F : Nat) : List LW := []
def I_fix_Neg (F : Nat) : Nat → VS → (Exit → VS → R) → R := tabI c_fix_Neg (W_fix_Neg F)
def WJ_fix_Neg (F : Nat) : List LJ := []
def J_fix_Neg (F : Nat) : Nat → Nat → VS → (Exit → VS → R) → R := tabJ (WJ_fix_Neg F)
def f_fix_Neg (F : Nat) (a0 : Int) : R :=
  bif (ok_fix_Sub F 0 a0) then (
    some (.v (.tuple #[.int .i64 ((o_fix_Sub_0 F 0 a0)), .bool ((o_fix_Sub_1 F 0 a0))])))
  else (
    none)
theorem e_fix_Neg (F : Nat) (a0 : Int) : funL PP (S_fix_Neg F) c_fix_Neg (I_fix_Neg F) (J_fix_Neg F) 113 (fTs ti_fix_Neg [.i a0]).1 = f_fix_Neg F a0 := by
  have h : ∀ (ok_fix_Sub : Nat → Int → Int → Bool) (o_fix_Sub_0 : Nat → Int → Int → Int) (o_fix_Sub_1 : Nat → Int → Int → Bool), funL PP (words [(124, spec ti_fix_Sub to_fix_Sub (fun q => (ok_fix_Sub F (atI (nth q 0)) (atI (nth q 1)))) (fun q => [.i (o_fix_Sub_0 F (atI (nth q 0)) (atI (nth q 1))), .b (o_fix_Sub_1 F (atI (nth q 0)) (atI (nth q 1)))]))]) c_fix_Neg (tabI c_fix_Neg []) (tabJ []) 113 (fTs ti_fix_Neg [.i a0]).1 = (
  bif (ok_fix_Sub F 0 a0) then (
    some (.v (.tuple #[.int .i64 ((o_fix_Sub_0 F 0 a0)), .bool ((o_fix_Sub_1 F 0 a0))])))
  else (
    none) : R) := by
    intros
    kernel_rfl
  exact (h ok_fix_Sub o_fix_Sub_0 o_fix_Sub_1).trans (by kernel_rfl)
def ok_fix_Neg (F : Nat) (a0 : Int) : Bool := okT to_fix_Neg (f_fix_Neg F a0)
def o_fix_Neg_0 (F : Nat) (a0 : Int) : Int := atI (nth (outT to_fix_Neg (f_fix_Neg F a0)) 0)
def o_fix_Neg_1 (F : Nat) (a0 : Int) : Bool := atB (nth (outT to_fix_Neg (f_fix_Neg F a0)) 1)
theorem k_fix_Neg (F : Nat) (a0 : Int) {z0 : Int} {z1 : Bool} (h : f_fix_Neg F a0 = some (.v (.tuple #[.int .i64 z0, .bool z1]))) : ok_fix_Neg F a0 = true ∧ o_fix_Neg_0 F a0 = z0 ∧ o_fix_Neg_1 F a0 = z1 := by
  refine ⟨?_, ?_, ?_⟩
  · unfold ok_fix_Neg; rw [h]; kernel_rfl
  · unfold o_fix_Neg_0; rw [h]; kernel_rfl
  · unfold o_fix_Neg_1; rw [h]; kernel_rfl
def s_fix_Neg (F : Nat) : List VV → Option (Bool × VV) := spec ti_fix_Neg to_fix_Neg (fun q => (ok_fix_Neg F (atI (nth q 0)))) (fun q => [.i (o_fix_Neg_0 F (atI (nth q 0))), .b (o_fix_Neg_1 F (atI (nth q 0)))])
theorem hS_fix_Neg (F : Nat) : ∀ f, Good PP f (unS (S_fix_Neg F f)) := words_good fun p hp => by
  simp only [List.mem_cons, List.not_mem_nil, or_false] at hp
  rcases hp with rfl
  · exact g_fix_Sub F
theorem hl_fix_Neg (F : Nat) : ∀ p ∈ loopsIn PP 113, LoopOK PP (S_fix_Neg F) c_fix_Neg F (I_fix_Neg F) (J_fix_Neg F) p :=
  loops_of [] (by kernel_rfl) all_nil
theorem hj_fix_Neg (F : Nat) : ∀ p ∈ joinsIn PP c_fix_Neg 113, JoinOK PP (S_fix_Neg F) c_fix_Neg (I_fix_Neg F) (J_fix_Neg F) p :=
  joins_of [] (by kernel_rfl) all_nil
theorem g_fix_Neg (F : Nat) : Good PP 113 (unS (s_fix_Neg F)) :=
  fun_spec (hS_fix_Neg F) (by kernel_rfl) (by kernel_rfl) (C := c_fix_Neg) (F := fun q => (f_fix_Neg F (atI (nth q 0)))) (fun _ => F) (fun _ => I_fix_Neg F) (fun _ => J_fix_Neg F) (fun _ => hl_fix_Neg F) (fun _ => hj_fix_Neg F)
    (fun q => (congrArg (funL PP (S_fix_Neg F) c_fix_Neg (I_fix_Neg F) (J_fix_Neg F) 113) (show (fTs ti_fix_Neg q).1 = (fTs ti_fix_Neg [.i (atI (nth q 0))]).1 by kernel_rfl)).trans (e_fix_Neg F (atI (nth q 0))))
    (fun _ h => (okT_fill h).trans (congrArg some (by kernel_rfl)))

end Go.Xv
set_option linter.unusedVariables false
namespace Go.Xv
/- 76 _turn_angles -/
def c_turn_angles : Cfg := ⟨[0], [], [], []⟩
def ti_turn_angles : List TV := []
def to_turn_angles : TV := .v (.agg [.int .i64, .int .i64, .int .i64, .int .i64, .int .i64, .int .i64, .int .i64, .int .i64, .int .i64, .int .i64, .int .i64, .int .i64, .int .i64, .int .i64, .int .i64, .int .i64, .int .i64, .int .i64, .int .i64, .int .i64, .int .i64, .int .i64, .int .i64, .int .i64, .int .i64, .int .i64, .int .i64, .int .i64, .int .i64, .int .i64])
def S_turn_angles (F : Nat) : FuncId → List VV → Option (Bool × VV) := words []
def W_turn_angles (F : Nat) : List LW := []
def I_turn_angles (F : Nat) : Nat → VS → (Exit → VS → R) → R := tabI c_turn_angles (W_turn_angles F)
def WJ_turn_angles (F : Nat) : List LJ := []
def J_turn_angles (F : Nat) : Nat → Nat → VS → (Exit → VS → R) → R := tabJ (WJ_turn_angles F)
def f_turn_angles (F : Nat) : R :=
  some (.v (.agg #[.int .i64 536870912, .int .i64 316933406, .int .i64 167458907, .int .i64 85004756, .int .i64 42667331, .int .i64 21354465, .int .i64 10679838, .int .i64 5340245, .int .i64 2670163, .int .i64 1335087, .int .i64 667544, .int .i64 333772, .int .i64 166886, .int .i64 83443, .int .i64 41722, .int .i64 20861, .int .i64 10430, .int .i64 5215, .int .i64 2608, .int .i64 1304, .int .i64 652, .int .i64 326, .int .i64 163, .int .i64 81, .int .i64 41, .int .i64 20, .int .i64 10, .int .i64 5, .int .i64 3, .int .i64 1]))
theorem e_turn_angles (F : Nat) : funL PP (S_turn_angles F) c_turn_angles (I_turn_angles F) (J_turn_angles F) 76 (fTs ti_turn_angles []).1 = f_turn_angles F := by
  have h : ∀ (_ : Unit), funL PP (words []) c_turn_angles (tabI c_turn_angles []) (tabJ []) 76 (fTs ti_turn_angles []).1 = (
  some (.v (.agg #[.int .i64 536870912, .int .i64 316933406, .int .i64 167458907, .int .i64 85004756, .int .i64 42667331, .int .i64 21354465, .int .i64 10679838, .int .i64 5340245, .int .i64 2670163, .int .i64 1335087, .int .i64 667544, .int .i64 333772, .int .i64 166886, .int .i64 83443, .int .i64 41722, .int .i64 20861, .int .i64 10430, .int .i64 5215, .int .i64 2608, .int .i64 1304, .int .i64 652, .int .i64 326, .int .i64 163, .int .i64 81, .int .i64 41, .int .i64 20, .int .i64 10, .int .i64 5, .int .i64 3, .int .i64 1])) : R) := by
    intros
    kernel_rfl
  exact (h ()).trans (by kernel_rfl)
def ok_turn_angles (F : Nat) : Bool := okT to_turn_angles (f_turn_angles F)
def o_turn_angles_0 (F : Nat) : Int := atI (nth (outT to_turn_angles (f_turn_angles F)) 0)
def o_turn_angles_1 (F : Nat) : Int := atI (nth (outT to_turn_angles (f_turn_angles F)) 1)
def o_turn_angles_2 (F : Nat) : Int := atI (nth (outT to_turn_angles (f_turn_angles F)) 2)
def o_turn_angles_3 (F : Nat) : Int := atI (nth (outT to_turn_angles (f_turn_angles F)) 3)
def o_turn_angles_4 (F : Nat) : Int := atI (nth (outT to_turn_angles (f_turn_angles F)) 4)
def o_turn_angles_5 (F : Nat) : Int := atI (nth (outT to_turn_angles (f_turn_angles F)) 5)
def o_turn_angles_6 (F : Nat) : Int := atI (nth (outT to_turn_angles (f_turn_angles F)) 6)
def o_turn_angles_7 (F : Nat) : Int := atI (nth (outT to_turn_angles (f_turn_angles F)) 7)
def o_turn_angles_8 (F : Nat) : Int := atI (nth (outT to_turn_angles (f_turn_angles F)) 8)
def o_turn_angles_9 (F : Nat) : Int := atI (nth (outT to_turn_angles (f_turn_angles F)) 9)
def o_turn_angles_10 (F : Nat) : Int := atI (nth (outT to_turn_angles (f_turn_angles F)) 10)
def o_turn_angles_11 (F : Nat) : Int := atI (nth (outT to_turn_angles (f_turn_angles F)) 11)
def o_turn_angles_12 (F : Nat) : Int := atI (nth (outT to_turn_angles (f_turn_angles F)) 12)
def o_turn_angles_13 (F : Nat) : Int := atI (nth (outT to_turn_angles (f_turn_angles F)) 13)
def o_turn_angles_14 (F : Nat) : Int := atI (nth (outT to_turn_angles (f_turn_angles F)) 14)
def o_turn_angles_15 (F : Nat) : Int := atI (nth (outT to_turn_angles (f_turn_angles F)) 15)
def o_turn_angles_16 (F : Nat) : Int := atI (nth (outT to_turn_angles (f_turn_angles F)) 16)
def o_turn_angles_17 (F : Nat) : Int := atI (nth (outT to_turn_angles (f_turn_angles F)) 17)
def o_turn_angles_18 (F : Nat) : Int := atI (nth (outT to_turn_angles (f_turn_angles F)) 18)
def o_turn_angles_19 (F : Nat) : Int := atI (nth (outT to_turn_angles (f_turn_angles F)) 19)
def o_turn_angles_20 (F : Nat) : Int := atI (nth (outT to_turn_angles (f_turn_angles F)) 20)
def o_turn_angles_21 (F : Nat) : Int := atI (nth (outT to_turn_angles (f_turn_angles F)) 21)
def o_turn_angles_22 (F : Nat) : Int := atI (nth (outT to_turn_angles (f_turn_angles F)) 22)
def o_turn_angles_23 (F : Nat) : Int := atI (nth (outT to_turn_angles (f_turn_angles F)) 23)
def o_turn_angles_24 (F : Nat) : Int := atI (nth (outT to_turn_angles (f_turn_angles F)) 24)
def o_turn_angles_25 (F : Nat) : Int := atI (nth (outT to_turn_angles (f_turn_angles F)) 25)
def o_turn_angles_26 (F : Nat) : Int := atI (nth (outT to_turn_angles (f_turn_angles F)) 26)
def o_turn_angles_27 (F : Nat) : Int := atI (nth (outT to_turn_angles (f_turn_angles F)) 27)
def o_turn_angles_28 (F : Nat) : Int := atI (nth (outT to_turn_angles (f_turn_angles F)) 28)
def o_turn_angles_29 (F : Nat) : Int := atI (nth (outT to_turn_angles (f_turn_angles F)) 29)
theorem k_turn_angles (F : Nat) {z0 : Int} {z1 : Int} {z2 : Int} {z3 : Int} {z4 : Int} {z5 : Int} {z6 : Int} {z7 : Int} {z8 : Int} {z9 : Int} {z10 : Int} {z11 : Int} {z12 : Int} {z13 : Int} {z14 : Int} {z15 : Int} {z16 : Int} {z17 : Int} {z18 : Int} {z19 : Int} {z20 : Int} {z21 : Int} {z22 : Int} {z23 : Int} {z24 : Int} {z25 : Int} {z26 : Int} {z27 : Int} {z28 : Int} {z29 : Int} (h : f_turn_angles F = some (.v (.agg #[.int .i64 z0, .int .i64 z1, .int .i64 z2, .int .i64 z3, .int .i64 z4, .int .i64 z5, .int .i64 z6, .int .i64 z7, .int .i64 z8, .int .i64 z9, .int .i64 z10, .int .i64 z11, .int .i64 z12, .int .i64 z13, .int .i64 z14, .int .i64 z15, .int .i64 z16, .int .i64 z17, .int .i64 z18, .int .i64 z19, .int .i64 z20, .int .i64 z21, .int .i64 z22, .int .i64 z23, .int .i64 z24, .int .i64 z25, .int .i64 z26, .int .i64 z27, .int .i64 z28, .int .i64 z29]))) : ok_turn_angles F = true ∧ o_turn_angles_0 F = z0 ∧ o_turn_angles_1 F = z1 ∧ o_turn_angles_2 F = z2 ∧ o_turn_angles_3 F = z3 ∧ o_turn_angles_4 F = z4 ∧ o_turn_angles_5 F = z5 ∧ o_turn_angles_6 F = z6 ∧ o_turn_angles_7 F = z7 ∧ o_turn_angles_8 F = z8 ∧ o_turn_angles_9 F = z9 ∧ o_turn_angles_10 F = z10 ∧ o_turn_angles_11 F = z11 ∧ o_turn_angles_12 F = z12 ∧ o_turn_angles_13 F = z13 ∧ o_turn_angles_14 F = z14 ∧ o_turn_angles_15 F = z15 ∧ o_turn_angles_16 F = z16 ∧ o_turn_angles_17 F = z17 ∧ o_turn_angles_18 F = z18 ∧ o_turn_angles_19 F = z19 ∧ o_turn_angles_20 F = z20 ∧ o_turn_angles_21 F = z21 ∧ o_turn_angles_22 F = z22 ∧ o_turn_angles_23 F = z23 ∧ o_turn_angles_24 F = z24 ∧ o_turn_angles_25 F = z25 ∧ o_turn_angles_26 F = z26 ∧ o_turn_angles_27 F = z27 ∧ o_turn_angles_28 F = z28 ∧ o_turn_angles_29 F = z29 := by
  refine ⟨?_, ?_, ?_, ?_, ?_, ?_, ?_, ?_, ?_, ?_, ?_, ?_, ?_, ?_, ?_, ?_, ?_, ?_, ?_, ?_, ?_, ?_, ?_, ?_, ?_, ?_, ?_, ?_, ?_, ?_, ?_⟩
  · unfold ok_turn_angles; rw [h]; kernel_rfl
  · unfold o_turn_angles_0; rw [h]; kernel_rfl
  · unfold o_turn_angles_1; rw [h]; kernel_rfl
  · unfold o_turn_angles_2; rw [h]; kernel_rfl
  · unfold o_turn_angles_3; rw [h]; kernel_rfl
  · unfold o_turn_angles_4; rw [h]; kernel_rfl
  · unfold o_turn_angles_5; rw [h]; kernel_rfl
  · unfold o_turn_angles_6; rw [h]; kernel_rfl
  · unfold o_turn_angles_7; rw [h]; kernel_rfl
  · unfold o_turn_angles_8; rw [h]; kernel_rfl
  · unfold o_turn_angles_9; rw [h]; kernel_rfl
  · unfold o_turn_angles_10; rw [h]; kernel_rfl
  · unfold o_turn_angles_11; rw [h]; kernel_rfl
  · unfold o_turn_angles_12; rw [h]; kernel_rfl
  · unfold o_turn_angles_13; rw [h]; kernel_rfl
  · unfold o_turn_angles_14; rw [h]; kernel_rfl
  · unfold o_turn_angles_15; rw [h]; kernel_rfl
  · unfold o_turn_angles_16; rw [h]; kernel_rfl
  · unfold o_turn_angles_17; rw [h]; kernel_rfl
  · unfold o_turn_angles_18; rw [h]; kernel_rfl
  · unfold o_turn_angles_19; rw [h]; kernel_rfl
  · unfold o_turn_angles_20; rw [h]; kernel_rfl
  · unfold o_turn_angles_21; rw [h]; kernel_rfl
  · unfold o_turn_angles_22; rw [h]; kernel_rfl
  · unfold o_turn_angles_23; rw [h]; kernel_rfl
  · unfold o_turn_angles_24; rw [h]; kernel_rfl
  · unfold o_turn_angles_25; rw [h]; kernel_rfl
  · unfold o_turn_angles_26; rw [h]; kernel_rfl
  · unfold o_turn_angles_27; rw [h]; kernel_rfl
  · unfold o_turn_angles_28; rw [h]; kernel_rfl
  · unfold o_turn_angles_29; rw [h]; kernel_rfl
def s_turn_angles (F : Nat) : List VV → Option (Bool × VV) := spec ti_turn_angles to_turn_angles (fun q => (ok_turn_angles F )) (fun q => [.i (o_turn_angles_0 F ), .i (o_turn_angles_1 F ), .i (o_turn_angles_2 F ), .i (o_turn_angles_3 F ), .i (o_turn_angles_4 F ), .i (o_turn_angles_5 F ), .i (o_turn_angles_6 F ), .i (o_turn_angles_7 F ), .i (o_turn_angles_8 F ), .i (o_turn_angles_9 F ), .i (o_turn_angles_10 F ), .i (o_turn_angles_11 F ), .i (o_turn_angles_12 F ), .i (o_turn_angles_13 F ), .i (o_turn_angles_14 F ), .i (o_turn_angles_15 F ), .i (o_turn_angles_16 F ), .i (o_turn_angles_17 F ), .i (o_turn_angles_18 F ), .i (o_turn_angles_19 F ), .i (o_turn_angles_20 F ), .i (o_turn_angles_21 F ), .i (o_turn_angles_22 F ), .i (o_turn_angles_23 F ), .i (o_turn_angles_24 F ), .i (o_turn_angles_25 F ), .i (o_turn_angles_26 F ), .i (o_turn_angles_27 F ), .i (o_turn_angles_28 F ), .i (o_turn_angles_29 F )])
theorem hS_turn_angles (F : Nat) : ∀ f, Good PP f (unS (S_turn_angles F f)) := words_good fun p hp => by
  cases hp
theorem hl_turn_angles (F : Nat) : ∀ p ∈ loopsIn PP 76, LoopOK PP (S_turn_angles F) c_turn_angles F (I_turn_angles F) (J_turn_angles F) p :=
  loops_of [] (by kernel_rfl) all_nil
theorem hj_turn_angles (F : Nat) : ∀ p ∈ joinsIn PP c_turn_angles 76, JoinOK PP (S_turn_angles F) c_turn_angles (I_turn_angles F) (J_turn_angles F) p :=
  joins_of [] (by kernel_rfl) all_nil
theorem g_turn_angles (F : Nat) : Good PP 76 (unS (s_turn_angles F)) :=
  fun_spec (hS_turn_angles F) (by kernel_rfl) (by kernel_rfl) (C := c_turn_angles) (F := fun q => (f_turn_angles F )) (fun _ => F) (fun _ => I_turn_angles F) (fun _ => J_turn_angles F) (fun _ => hl_turn_angles F) (fun _ => hj_turn_angles F)
    (fun q => (congrArg (funL PP (S_turn_angles F) c_turn_angles (I_turn_angles F) (J_turn_angles F) 76) (show (fTs ti_turn_angles q).1 = (fTs ti_turn_angles []).1 by kernel_rfl)).trans (e_turn_angles F ))
    (fun _ h => (okT_fill h).trans (congrArg some (by kernel_rfl)))

end Go.Xv
set_option linter.unusedVariables false
namespace Go.Xv
/- 77 _turn_pair_turned -/
def c_turn_pair_turned : Cfg := ⟨[0, 1, 2, 3, 6, 7, 8, 17], [], [], []⟩
def ti_turn_pair_turned : List TV := [.v (.agg [.int .i64, .int .i64]), .v (.int .i64), .v (.bool)]
def to_turn_pair_turned : TV := .v (.agg [.int .i64, .int .i64])
def S_turn_pair_turned (F : Nat) : FuncId → List VV → Option (Bool × VV) := words []
def W_turn_pair_turned (F : Nat) : List LW := []
def I_turn_pair_turned (F : Nat) : Nat → VS → (Exit → VS → R) → R := tabI c_turn_pair_turned (W_turn_pair_turned F)
def WJ_turn_pair_turned (F : Nat) : List LJ := []
def J_turn_pair_turned (F : Nat) : Nat → Nat → VS → (Exit → VS → R) → R := tabJ (WJ_turn_pair_turned F)
def f_turn_pair_turned (F : Nat) (a0 : Int) (a1 : Int) (a2 : Int) (a3 : Bool) : R :=
  bif (!(decide (a2 < 0))) then (
    let v72 : Int := (Int.fdiv a0 (2 ^ (min (Int.toNat a2) 64)))
    bif (!(decide (a2 < 0))) then (
      let v73 : Int := (Int.fdiv a1 (2 ^ (min (Int.toNat a2) 64)))
      bif a3 then (
        some (.v (.agg #[.int .i64 ((IntKind.wrap .i64 (a0 - v73))), .int .i64 ((IntKind.wrap .i64 (a1 + v72)))])))
      else (
        some (.v (.agg #[.int .i64 ((IntKind.wrap .i64 (a0 + v73))), .int .i64 ((IntKind.wrap .i64 (a1 - v72)))]))))
    else (
      none))
  else (
    none)
theorem e_turn_pair_turned (F : Nat) (a0 : Int) (a1 : Int) (a2 : Int) (a3 : Bool) : funL PP (S_turn_pair_turned F) c_turn_pair_turned (I_turn_pair_turned F) (J_turn_pair_turned F) 77 (fTs ti_turn_pair_turned [.i a0, .i a1, .i a2, .b a3]).1 = f_turn_pair_turned F a0 a1 a2 a3 := by
  have h : ∀ (_ : Unit), funL PP (words []) c_turn_pair_turned (tabI c_turn_pair_turned []) (tabJ []) 77 (fTs ti_turn_pair_turned [.i a0, .i a1, .i a2, .b a3]).1 = (
  bif (!(decide (a2 < 0))) then (
    let v72 : Int := (Int.fdiv a0 (2 ^ (min (Int.toNat a2) 64)))
    bif (!(decide (a2 < 0))) then (
      let v73 : Int := (Int.fdiv a1 (2 ^ (min (Int.toNat a2) 64)))
      bif a3 then (
        some (.v (.agg #[.int .i64 ((IntKind.wrap .i64 (a0 - v73))), .int .i64 ((IntKind.wrap .i64 (a1 + v72)))])))
      else (
        some (.v (.agg #[.int .i64 ((IntKind.wrap .i64 (a0 + v73))), .int .i64 ((IntKind.wrap .i64 (a1 - v72)))]))))
    else (
      none))
  else (
    none) : R) := by
    intros
    kernel_rfl
  exact (h ()).trans (by kernel_rfl)
def ok_turn_pair_turned (F : Nat) (a0 : Int) (a1 : Int) (a2 : Int) (a3 : Bool) : Bool := okT to_turn_pair_turned (f_turn_pair_turned F a0 a1 a2 a3)
def o_turn_pair_turned_0 (F : Nat) (a0 : Int) (a1 : Int) (a2 : Int) (a3 : Bool) : Int := atI (nth (outT to_turn_pair_turned (f_turn_pair_turned F a0 a1 a2 a3)) 0)
def o_turn_pair_turned_1 (F : Nat) (a0 : Int) (a1 : Int) (a2 : Int) (a3 : Bool) : Int := atI (nth (outT to_turn_pair_turned (f_turn_pair_turned F a0 a1 a2 a3)) 1)
theorem k_turn_pair_turned (F : Nat) (a0 : Int) (a1 : Int) (a2 : Int) (a3 : Bool) {z0 : Int} {z1 : Int} (h : f_turn_pair_turned F a0 a1 a2 a3 = some (.v (.agg #[.int .i64 z0, .int .i64 z1]))) : ok_turn_pair_turned F a0 a1 a2 a3 = true ∧ o_turn_pair_turned_0 F a0 a1 a2 a3 = z0 ∧ o_turn_pair_turned_1 F a0 a1 a2 a3 = z1 := by
  refine ⟨?_, ?_, ?_⟩
  · unfold ok_turn_pair_turned; rw [h]; kernel_rfl
  · unfold o_turn_pair_turned_0; rw [h]; kernel_rfl
  · unfold o_turn_pair_turned_1; rw [h]; kernel_rfl
def s_turn_pair_turned (F : Nat) : List VV → Option (Bool × VV) := spec ti_turn_pair_turned to_turn_pair_turned (fun q => (ok_turn_pair_turned F (atI (nth q 0)) (atI (nth q 1)) (atI (nth q 2)) (atB (nth q 3)))) (fun q => [.i (o_turn_pair_turned_0 F (atI (nth q 0)) (atI (nth q 1)) (atI (nth q 2)) (atB (nth q 3))), .i (o_turn_pair_turned_1 F (atI (nth q 0)) (atI (nth q 1)) (atI (nth q 2)) (atB (nth q 3)))])
theorem hS_turn_pair_turned (F : Nat) : ∀ f, Good PP f (unS (S_turn_pair_turned F f)) := words_good fun p hp => by
  cases hp
theorem hl_turn_pair_turned (F : Nat) : ∀ p ∈ loopsIn PP 77, LoopOK PP (S_turn_pair_turned F) c_turn_pair_turned F (I_turn_pair_turned F) (J_turn_pair_turned F) p :=
  loops_of [] (by kernel_rfl) all_nil
theorem hj_turn_pair_turned (F : Nat) : ∀ p ∈ joinsIn PP c_turn_pair_turned 77, JoinOK PP (S_turn_pair_turned F) c_turn_pair_turned (I_turn_pair_turned F) (J_turn_pair_turned F) p :=
  joins_of [] (by kernel_rfl) all_nil
theorem g_turn_pair_turned (F : Nat) : Good PP 77 (unS (s_turn_pair_turned F)) :=
  fun_spec (hS_turn_pair_turned F) (by kernel_rfl) (by kernel_rfl) (C := c_turn_pair_turned) (F := fun q => (f_turn_pair_turned F (atI (nth q 0)) (atI (nth q 1)) (atI (nth q 2)) (atB (nth q 3)))) (fun _ => F) (fun _ => I_turn_pair_turned F) (fun _ => J_turn_pair_turned F) (fun _ => hl_turn_pair_turned F) (fun _ => hj_turn_pair_turned F)
    (fun q => (congrArg (funL PP (S_turn_pair_turned F) c_turn_pair_turned (I_turn_pair_turned F) (J_turn_pair_turned F) 77) (show (fTs ti_turn_pair_turned q).1 = (fTs ti_turn_pair_turned [.i (atI (nth q 0)), .i (atI (nth q 1)), .i (atI (nth q 2)), .b (atB (nth q 3))]).1 by kernel_rfl)).trans (e_turn_pair_turned F (atI (nth q 0)) (atI (nth q 1)) (atI (nth q 2)) (atB (nth q 3))))
    (fun _ h => (okT_fill h).trans (congrArg some (by kernel_rfl)))

end Go.Xv
set_option linter.unusedVariables false
namespace Go.Xv
/- 78 _turn_unit -/
def c_turn_unit : Cfg := ⟨[0, 2, 3], [], [], []⟩
def ti_turn_unit : List TV := [.v (.int .i64)]
def to_turn_unit : TV := .v (.int .i64)
def S_turn_unit (F : Nat) : FuncId → List VV → Option (Bool × VV) := words [(92, s_fix_Clamp F)]
def W_turn_unit (F : Nat) : List LW := []
def I_turn_unit (F : Nat) : Nat → VS → (Exit → VS → R) → R := tabI c_turn_unit (W_turn_unit F)
def WJ_turn_unit (F : Nat) : List LJ := []
def J_turn_unit (F : Nat) : Nat → Nat → VS → (Exit → VS → R) → R := tabJ (WJ_turn_unit F)
def f_turn_unit (F : Nat) (a0 : Int) : R :=
  bif (ok_fix_Clamp F a0 0 4294967296) then (
    some (.v (.int .i64 ((o_fix_Clamp_0 F a0 0 4294967296)))))
  else (
    none)
theorem e_turn_unit (F : Nat) (a0 : Int) : funL PP (S_turn_unit F) c_turn_unit (I_turn_unit F) (J_turn_unit F) 78 (fTs ti_turn_unit [.i a0]).1 = f_turn_unit F a0 := by
  have h : ∀ (ok_fix_Clamp : Nat → Int → Int → Int → Bool) (o_fix_Clamp_0 : Nat → Int → Int → Int → Int) (o_fix_Clamp_1 : Nat → Int → Int → Int → Bool), funL PP (words [(92, spec ti_fix_Clamp to_fix_Clamp (fun q => (ok_fix_Clamp F (atI (nth q 0)) (atI (nth q 1)) (atI (nth q 2)))) (fun q => [.i (o_fix_Clamp_0 F (atI (nth q 0)) (atI (nth q 1)) (atI (nth q 2))), .b (o_fix_Clamp_1 F (atI (nth q 0)) (atI (nth q 1)) (atI (nth q 2)))]))]) c_turn_unit (tabI c_turn_unit []) (tabJ []) 78 (fTs ti_turn_unit [.i a0]).1 = (
  bif (ok_fix_Clamp F a0 0 4294967296) then (
    some (.v (.int .i64 ((o_fix_Clamp_0 F a0 0 4294967296)))))
  else (
    none) : R) := by
    intros
    kernel_rfl
  exact (h ok_fix_Clamp o_fix_Clamp_0 o_fix_Clamp_1).trans (by kernel_rfl)
def ok_turn_unit (F : Nat) (a0 : Int) : Bool := okT to_turn_unit (f_turn_unit F a0)
def o_turn_unit_0 (F : Nat) (a0 : Int) : Int := atI (nth (outT to_turn_unit (f_turn_unit F a0)) 0)
theorem k_turn_unit (F : Nat) (a0 : Int) {z0 : Int} (h : f_turn_unit F a0 = some (.v (.int .i64 z0))) : ok_turn_unit F a0 = true ∧ o_turn_unit_0 F a0 = z0 := by
  refine ⟨?_, ?_⟩
  · unfold ok_turn_unit; rw [h]; kernel_rfl
  · unfold o_turn_unit_0; rw [h]; kernel_rfl
def s_turn_unit (F : Nat) : List VV → Option (Bool × VV) := spec ti_turn_unit to_turn_unit (fun q => (ok_turn_unit F (atI (nth q 0)))) (fun q => [.i (o_turn_unit_0 F (atI (nth q 0)))])
theorem hS_turn_unit (F : Nat) : ∀ f, Good PP f (unS (S_turn_unit F f)) := words_good fun p hp => by
  simp only [List.mem_cons, List.not_mem_nil, or_false] at hp
  rcases hp with rfl
  · exact g_fix_Clamp F
theorem hl_turn_unit (F : Nat) : ∀ p ∈ loopsIn PP 78, LoopOK PP (S_turn_unit F) c_turn_unit F (I_turn_unit F) (J_turn_unit F) p :=
  loops_of [] (by kernel_rfl) all_nil
theorem hj_turn_unit (F : Nat) : ∀ p ∈ joinsIn PP c_turn_unit 78, JoinOK PP (S_turn_unit F) c_turn_unit (I_turn_unit F) (J_turn_unit F) p :=
  joins_of [] (by kernel_rfl) all_nil
theorem g_turn_unit (F : Nat) : Good PP 78 (unS (s_turn_unit F)) :=
  fun_spec (hS_turn_unit F) (by kernel_rfl) (by kernel_rfl) (C := c_turn_unit) (F := fun q => (f_turn_unit F (atI (nth q 0)))) (fun _ => F) (fun _ => I_turn_unit F) (fun _ => J_turn_unit F) (fun _ => hl_turn_unit F) (fun _ => hj_turn_unit F)
    (fun q => (congrArg (funL PP (S_turn_unit F) c_turn_unit (I_turn_unit F) (J_turn_unit F) 78) (show (fTs ti_turn_unit q).1 = (fTs ti_turn_unit [.i (atI (nth q 0))]).1 by kernel_rfl)).trans (e_turn_unit F (atI (nth q 0))))
    (fun _ h => (okT_fill h).trans (congrArg some (by kernel_rfl)))

end Go.Xv
set_option linter.unusedVariables false
namespace Go.Xv
/- 25 _turn_Both -/
def c_turn_Both : Cfg := ⟨[0, 2, 3, 4, 5, 6, 7, 8, 9, 10, 15, 16, 17, 26, 40, 41, 42], [(0, [0, 2, 3, 4, 5, 9, 10, 11, 12, 13, 14, 15, 16, 33, 34, 35, 36, 37, 38, 39, 40, 41, 42, 43, 44, 45, 46, 47, 48]), (2, [0, 2, 3, 4, 5, 6, 7, 8, 9, 10, 11, 12, 13, 14, 15, 16, 17, 18, 19, 20, 21, 22, 23, 24, 25, 26, 27, 28, 29, 30, 31, 32, 33, 34, 35, 36, 37, 38, 39, 40, 41, 47, 48])], [], []⟩
def ti_turn_Both : List TV := [.v (.int .u32)]
def to_turn_Both : TV := .v (.tup [.int .i64, .int .i64])
def S_turn_Both (F : Nat) : FuncId → List VV → Option (Bool × VV) := words [(76, s_turn_angles F), (77, s_turn_pair_turned F), (78, s_turn_unit F)]
def T_turn_Both_0 : TS := ⟨[(0, .v (.int .u32)), (2, .v (.int .i64)), (3, .v (.int .i64)), (4, .v (.int .i64)), (5, .lp 0 (.lit 0)), (15, .v (.agg [.int .i64, .int .i64, .int .i64, .int .i64, .int .i64, .int .i64, .int .i64, .int .i64, .int .i64, .int .i64, .int .i64, .int .i64, .int .i64, .int .i64, .int .i64, .int .i64, .int .i64, .int .i64, .int .i64, .int .i64, .int .i64, .int .i64, .int .i64, .int .i64, .int .i64, .int .i64, .int .i64, .int .i64, .int .i64, .int .i64])), (16, .v (.int .i64))], [(0, ⟨(.ex [.v (.int .i64), .v (.int .i64)]), true⟩)], 1⟩
def T_turn_Both_0_0 : TS := ⟨[(0, .v (.int .u32)), (2, .v (.int .i64)), (3, .v (.int .i64)), (4, .v (.int .i64)), (5, .lp 0 (.lit 0)), (15, .v (.agg [.int .i64, .int .i64, .int .i64, .int .i64, .int .i64, .int .i64, .int .i64, .int .i64, .int .i64, .int .i64, .int .i64, .int .i64, .int .i64, .int .i64, .int .i64, .int .i64, .int .i64, .int .i64, .int .i64, .int .i64, .int .i64, .int .i64, .int .i64, .int .i64, .int .i64, .int .i64, .int .i64, .int .i64, .int .i64, .int .i64])), (16, .v (.int .i64))], [(0, ⟨(.ex [.v (.int .i64), .v (.int .i64)]), true⟩)], 1⟩
def B_turn_Both_0 (F : Nat) (rc : Int → Int → Int → Int → Int → Int → Int → Int → Int → Int → Int → Int → Int → Int → Int → Int → Int → Int → Int → Int → Int → Int → Int → Int → Int → Int → Int → Int → Int → Int → Int → Int → Int → Int → Int → Int → Int → R) (ex0 : Int → Int → Int → Int → Int → Int → Int → Int → Int → Int → Int → Int → Int → Int → Int → Int → Int → Int → Int → Int → Int → Int → Int → Int → Int → Int → Int → Int → Int → Int → Int → Int → Int → Int → Int → Int → Int → R) (x0 : Int) (x1 : Int) (x2 : Int) (x3 : Int) (x4 : Int) (x5 : Int) (x6 : Int) (x7 : Int) (x8 : Int) (x9 : Int) (x10 : Int) (x11 : Int) (x12 : Int) (x13 : Int) (x14 : Int) (x15 : Int) (x16 : Int) (x17 : Int) (x18 : Int) (x19 : Int) (x20 : Int) (x21 : Int) (x22 : Int) (x23 : Int) (x24 : Int) (x25 : Int) (x26 : Int) (x27 : Int) (x28 : Int) (x29 : Int) (x30 : Int) (x31 : Int) (x32 : Int) (x33 : Int) (x34 : Int) (x35 : Int) (x36 : Int) : R :=
  bif ((decide (x34 < 30))) then (
    bif (((decide (0 ≤ x34)) && (decide (x34 < 30))) && ((isI .i64 [.v (.int .i64 x4), .v (.int .i64 x5), .v (.int .i64 x6), .v (.int .i64 x7), .v (.int .i64 x8), .v (.int .i64 x9), .v (.int .i64 x10), .v (.int .i64 x11), .v (.int .i64 x12), .v (.int .i64 x13), .v (.int .i64 x14), .v (.int .i64 x15), .v (.int .i64 x16), .v (.int .i64 x17), .v (.int .i64 x18), .v (.int .i64 x19), .v (.int .i64 x20), .v (.int .i64 x21), .v (.int .i64 x22), .v (.int .i64 x23), .v (.int .i64 x24), .v (.int .i64 x25), .v (.int .i64 x26), .v (.int .i64 x27), .v (.int .i64 x28), .v (.int .i64 x29), .v (.int .i64 x30), .v (.int .i64 x31), .v (.int .i64 x32), .v (.int .i64 x33)][((Int.toNat x34) * 1)]?) && true)) then (
      let v70 : Int := (iv [.v (.int .i64 x4), .v (.int .i64 x5), .v (.int .i64 x6), .v (.int .i64 x7), .v (.int .i64 x8), .v (.int .i64 x9), .v (.int .i64 x10), .v (.int .i64 x11), .v (.int .i64 x12), .v (.int .i64 x13), .v (.int .i64 x14), .v (.int .i64 x15), .v (.int .i64 x16), .v (.int .i64 x17), .v (.int .i64 x18), .v (.int .i64 x19), .v (.int .i64 x20), .v (.int .i64 x21), .v (.int .i64 x22), .v (.int .i64 x23), .v (.int .i64 x24), .v (.int .i64 x25), .v (.int .i64 x26), .v (.int .i64 x27), .v (.int .i64 x28), .v (.int .i64 x29), .v (.int .i64 x30), .v (.int .i64 x31), .v (.int .i64 x32), .v (.int .i64 x33)][((Int.toNat x34) * 1)]?)
      let v71 : Bool := (decide (x3 ≥ 0))
      bif (ok_turn_pair_turned F x35 x36 x34 v71) then (
        let v78 : Int := (o_turn_pair_turned_0 F x35 x36 x34 v71)
        let v79 : Int := (o_turn_pair_turned_1 F x35 x36 x34 v71)
        bif v71 then (
          rc x0 x1 x2 ((IntKind.wrap .i64 (x3 + ((IntKind.wrap .i64 (0 - v70)))))) x4 x5 x6 x7 x8 x9 x10 x11 x12 x13 x14 x15 x16 x17 x18 x19 x20 x21 x22 x23 x24 x25 x26 x27 x28 x29 x30 x31 x32 x33 ((IntKind.wrap .i64 (x34 + 1))) v78 v79)
        else (
          rc x0 x1 x2 ((IntKind.wrap .i64 (x3 + v70))) x4 x5 x6 x7 x8 x9 x10 x11 x12 x13 x14 x15 x16 x17 x18 x19 x20 x21 x22 x23 x24 x25 x26 x27 x28 x29 x30 x31 x32 x33 ((IntKind.wrap .i64 (x34 + 1))) v78 v79))
      else (
        none))
    else (
      none))
  else (
    ex0 x0 x1 x2 x3 x4 x5 x6 x7 x8 x9 x10 x11 x12 x13 x14 x15 x16 x17 x18 x19 x20 x21 x22 x23 x24 x25 x26 x27 x28 x29 x30 x31 x32 x33 x34 x35 x36)
def L_turn_Both_0 (F : Nat) (ex0 : Int → Int → Int → Int → Int → Int → Int → Int → Int → Int → Int → Int → Int → Int → Int → Int → Int → Int → Int → Int → Int → Int → Int → Int → Int → Int → Int → Int → Int → Int → Int → Int → Int → Int → Int → Int → Int → R) : Nat → Int → Int → Int → Int → Int → Int → Int → Int → Int → Int → Int → Int → Int → Int → Int → Int → Int → Int → Int → Int → Int → Int → Int → Int → Int → Int → Int → Int → Int → Int → Int → Int → Int → Int → Int → Int → Int → R
  | 0, _, _, _, _, _, _, _, _, _, _, _, _, _, _, _, _, _, _, _, _, _, _, _, _, _, _, _, _, _, _, _, _, _, _, _, _, _ => none
  | n + 1, x0, x1, x2, x3, x4, x5, x6, x7, x8, x9, x10, x11, x12, x13, x14, x15, x16, x17, x18, x19, x20, x21, x22, x23, x24, x25, x26, x27, x28, x29, x30, x31, x32, x33, x34, x35, x36 => B_turn_Both_0 F (L_turn_Both_0 F ex0 n) ex0 x0 x1 x2 x3 x4 x5 x6 x7 x8 x9 x10 x11 x12 x13 x14 x15 x16 x17 x18 x19 x20 x21 x22 x23 x24 x25 x26 x27 x28 x29 x30 x31 x32 x33 x34 x35 x36
def T_turn_Both_1 : TS := ⟨[(0, .v (.int .u32)), (2, .v (.int .i64)), (3, .v (.int .i64)), (4, .v (.int .i64)), (5, .lp 0 (.lit 0)), (9, .v (.int .i64)), (10, .v (.int .i64)), (15, .v (.agg [.int .i64, .int .i64, .int .i64, .int .i64, .int .i64, .int .i64, .int .i64, .int .i64, .int .i64, .int .i64, .int .i64, .int .i64, .int .i64, .int .i64, .int .i64, .int .i64, .int .i64, .int .i64, .int .i64, .int .i64, .int .i64, .int .i64, .int .i64, .int .i64, .int .i64, .int .i64, .int .i64, .int .i64, .int .i64, .int .i64])), (16, .v (.int .i64)), (40, .v (.int .u32)), (41, .v (.int .u32))], [(0, ⟨(.ex [.v (.int .i64), .v (.int .i64)]), true⟩)], 1⟩
def T_turn_Both_1_0 : TS := ⟨[(0, .v (.int .u32)), (2, .v (.int .i64)), (3, .v (.int .i64)), (4, .v (.int .i64)), (5, .lp 0 (.lit 0)), (9, .v (.int .i64)), (10, .v (.int .i64)), (15, .v (.agg [.int .i64, .int .i64, .int .i64, .int .i64, .int .i64, .int .i64, .int .i64, .int .i64, .int .i64, .int .i64, .int .i64, .int .i64, .int .i64, .int .i64, .int .i64, .int .i64, .int .i64, .int .i64, .int .i64, .int .i64, .int .i64, .int .i64, .int .i64, .int .i64, .int .i64, .int .i64, .int .i64, .int .i64, .int .i64, .int .i64])), (16, .v (.int .i64)), (40, .v (.int .u32)), (41, .v (.int .u32))], [(0, ⟨(.ex [.v (.int .i64), .v (.int .i64)]), true⟩)], 1⟩
def B_turn_Both_1 (F : Nat) (rc : Int → Int → Int → Int → Int → Int → Int → Int → Int → Int → Int → Int → Int → Int → Int → Int → Int → Int → Int → Int → Int → Int → Int → Int → Int → Int → Int → Int → Int → Int → Int → Int → Int → Int → Int → Int → Int → Int → Int → Int → Int → R) (ex0 : Int → Int → Int → Int → Int → Int → Int → Int → Int → Int → Int → Int → Int → Int → Int → Int → Int → Int → Int → Int → Int → Int → Int → Int → Int → Int → Int → Int → Int → Int → Int → Int → Int → Int → Int → Int → Int → Int → Int → Int → Int → R) (x0 : Int) (x1 : Int) (x2 : Int) (x3 : Int) (x4 : Int) (x5 : Int) (x6 : Int) (x7 : Int) (x8 : Int) (x9 : Int) (x10 : Int) (x11 : Int) (x12 : Int) (x13 : Int) (x14 : Int) (x15 : Int) (x16 : Int) (x17 : Int) (x18 : Int) (x19 : Int) (x20 : Int) (x21 : Int) (x22 : Int) (x23 : Int) (x24 : Int) (x25 : Int) (x26 : Int) (x27 : Int) (x28 : Int) (x29 : Int) (x30 : Int) (x31 : Int) (x32 : Int) (x33 : Int) (x34 : Int) (x35 : Int) (x36 : Int) (x37 : Int) (x38 : Int) (x39 : Int) (x40 : Int) : R :=
  bif ((decide (x38 < x37))) then (
    rc x0 x1 x2 x3 ((IntKind.wrap .i64 (0 - x5))) x4 x6 x7 x8 x9 x10 x11 x12 x13 x14 x15 x16 x17 x18 x19 x20 x21 x22 x23 x24 x25 x26 x27 x28 x29 x30 x31 x32 x33 x34 x35 x36 x37 ((IntKind.wrap .u32 (x38 + 1))) x39 x40)
  else (
    ex0 x0 x1 x2 x3 x4 x5 x6 x7 x8 x9 x10 x11 x12 x13 x14 x15 x16 x17 x18 x19 x20 x21 x22 x23 x24 x25 x26 x27 x28 x29 x30 x31 x32 x33 x34 x35 x36 x37 x38 x39 x40)
def L_turn_Both_1 (F : Nat) (ex0 : Int → Int → Int → Int → Int → Int → Int → Int → Int → Int → Int → Int → Int → Int → Int → Int → Int → Int → Int → Int → Int → Int → Int → Int → Int → Int → Int → Int → Int → Int → Int → Int → Int → Int → Int → Int → Int → Int → Int → Int → Int → R) : Nat → Int → Int → Int → Int → Int → Int → Int → Int → Int → Int → Int → Int → Int → Int → Int → Int → Int → Int → Int → Int → Int → Int → Int → Int → Int → Int → Int → Int → Int → Int → Int → Int → Int → Int → Int → Int → Int → Int → Int → Int → Int → R
  | 0, _, _, _, _, _, _, _, _, _, _, _, _, _, _, _, _, _, _, _, _, _, _, _, _, _, _, _, _, _, _, _, _, _, _, _, _, _, _, _, _, _ => none
  | n + 1, x0, x1, x2, x3, x4, x5, x6, x7, x8, x9, x10, x11, x12, x13, x14, x15, x16, x17, x18, x19, x20, x21, x22, x23, x24, x25, x26, x27, x28, x29, x30, x31, x32, x33, x34, x35, x36, x37, x38, x39, x40 => B_turn_Both_1 F (L_turn_Both_1 F ex0 n) ex0 x0 x1 x2 x3 x4 x5 x6 x7 x8 x9 x10 x11 x12 x13 x14 x15 x16 x17 x18 x19 x20 x21 x22 x23 x24 x25 x26 x27 x28 x29 x30 x31 x32 x33 x34 x35 x36 x37 x38 x39 x40
def W_turn_Both (F : Nat) : List LW := [⟨0, T_turn_Both_0, fun k q => L_turn_Both_0 F (fun (z0 : Int) (z1 : Int) (z2 : Int) (z3 : Int) (z4 : Int) (z5 : Int) (z6 : Int) (z7 : Int) (z8 : Int) (z9 : Int) (z10 : Int) (z11 : Int) (z12 : Int) (z13 : Int) (z14 : Int) (z15 : Int) (z16 : Int) (z17 : Int) (z18 : Int) (z19 : Int) (z20 : Int) (z21 : Int) (z22 : Int) (z23 : Int) (z24 : Int) (z25 : Int) (z26 : Int) (z27 : Int) (z28 : Int) (z29 : Int) (z30 : Int) (z31 : Int) (z32 : Int) (z33 : Int) (z34 : Int) (z35 : Int) (z36 : Int) => k (.exit 0) (fS T_turn_Both_0_0 [.i z0, .i z1, .i z2, .i z3, .i z4, .i z5, .i z6, .i z7, .i z8, .i z9, .i z10, .i z11, .i z12, .i z13, .i z14, .i z15, .i z16, .i z17, .i z18, .i z19, .i z20, .i z21, .i z22, .i z23, .i z24, .i z25, .i z26, .i z27, .i z28, .i z29, .i z30, .i z31, .i z32, .i z33, .i z34, .i z35, .i z36])) F (atI (nth q 0)) (atI (nth q 1)) (atI (nth q 2)) (atI (nth q 3)) (atI (nth q 4)) (atI (nth q 5)) (atI (nth q 6)) (atI (nth q 7)) (atI (nth q 8)) (atI (nth q 9)) (atI (nth q 10)) (atI (nth q 11)) (atI (nth q 12)) (atI (nth q 13)) (atI (nth q 14)) (atI (nth q 15)) (atI (nth q 16)) (atI (nth q 17)) (atI (nth q 18)) (atI (nth q 19)) (atI (nth q 20)) (atI (nth q 21)) (atI (nth q 22)) (atI (nth q 23)) (atI (nth q 24)) (atI (nth q 25)) (atI (nth q 26)) (atI (nth q 27)) (atI (nth q 28)) (atI (nth q 29)) (atI (nth q 30)) (atI (nth q 31)) (atI (nth q 32)) (atI (nth q 33)) (atI (nth q 34)) (atI (nth q 35)) (atI (nth q 36))⟩, ⟨2, T_turn_Both_1, fun k q => L_turn_Both_1 F (fun (z0 : Int) (z1 : Int) (z2 : Int) (z3 : Int) (z4 : Int) (z5 : Int) (z6 : Int) (z7 : Int) (z8 : Int) (z9 : Int) (z10 : Int) (z11 : Int) (z12 : Int) (z13 : Int) (z14 : Int) (z15 : Int) (z16 : Int) (z17 : Int) (z18 : Int) (z19 : Int) (z20 : Int) (z21 : Int) (z22 : Int) (z23 : Int) (z24 : Int) (z25 : Int) (z26 : Int) (z27 : Int) (z28 : Int) (z29 : Int) (z30 : Int) (z31 : Int) (z32 : Int) (z33 : Int) (z34 : Int) (z35 : Int) (z36 : Int) (z37 : Int) (z38 : Int) (z39 : Int) (z40 : Int) => k (.exit 2) (fS T_turn_Both_1_0 [.i z0, .i z1, .i z2, .i z3, .i z4, .i z5, .i z6, .i z7, .i z8, .i z9, .i z10, .i z11, .i z12, .i z13, .i z14, .i z15, .i z16, .i z17, .i z18, .i z19, .i z20, .i z21, .i z22, .i z23, .i z24, .i z25, .i z26, .i z27, .i z28, .i z29, .i z30, .i z31, .i z32, .i z33, .i z34, .i z35, .i z36, .i z37, .i z38, .i z39, .i z40])) F (atI (nth q 0)) (atI (nth q 1)) (atI (nth q 2)) (atI (nth q 3)) (atI (nth q 4)) (atI (nth q 5)) (atI (nth q 6)) (atI (nth q 7)) (atI (nth q 8)) (atI (nth q 9)) (atI (nth q 10)) (atI (nth q 11)) (atI (nth q 12)) (atI (nth q 13)) (atI (nth q 14)) (atI (nth q 15)) (atI (nth q 16)) (atI (nth q 17)) (atI (nth q 18)) (atI (nth q 19)) (atI (nth q 20)) (atI (nth q 21)) (atI (nth q 22)) (atI (nth q 23)) (atI (nth q 24)) (atI (nth q 25)) (atI (nth q 26)) (atI (nth q 27)) (atI (nth q 28)) (atI (nth q 29)) (atI (nth q 30)) (atI (nth q 31)) (atI (nth q 32)) (atI (nth q 33)) (atI (nth q 34)) (atI (nth q 35)) (atI (nth q 36)) (atI (nth q 37)) (atI (nth q 38)) (atI (nth q 39)) (atI (nth q 40))⟩]
def I_turn_Both (F : Nat) : Nat → VS → (Exit → VS → R) → R := tabI c_turn_Both (W_turn_Both F)
def WJ_turn_Both (F : Nat) : List LJ := []
def J_turn_Both (F : Nat) : Nat → Nat → VS → (Exit → VS → R) → R := tabJ (WJ_turn_Both F)
theorem lL_turn_Both_0 (F : Nat) (k : Exit → VS → R) : ∀ (n : Nat) (x0 : Int) (x1 : Int) (x2 : Int) (x3 : Int) (x4 : Int) (x5 : Int) (x6 : Int) (x7 : Int) (x8 : Int) (x9 : Int) (x10 : Int) (x11 : Int) (x12 : Int) (x13 : Int) (x14 : Int) (x15 : Int) (x16 : Int) (x17 : Int) (x18 : Int) (x19 : Int) (x20 : Int) (x21 : Int) (x22 : Int) (x23 : Int) (x24 : Int) (x25 : Int) (x26 : Int) (x27 : Int) (x28 : Int) (x29 : Int) (x30 : Int) (x31 : Int) (x32 : Int) (x33 : Int) (x34 : Int) (x35 : Int) (x36 : Int), iterC (codeL PP (S_turn_Both F) c_turn_Both (I_turn_Both F) (J_turn_Both F) (loopAt PP 25 0) 0) (headOf c_turn_Both 0) k n (fS T_turn_Both_0 [.i x0, .i x1, .i x2, .i x3, .i x4, .i x5, .i x6, .i x7, .i x8, .i x9, .i x10, .i x11, .i x12, .i x13, .i x14, .i x15, .i x16, .i x17, .i x18, .i x19, .i x20, .i x21, .i x22, .i x23, .i x24, .i x25, .i x26, .i x27, .i x28, .i x29, .i x30, .i x31, .i x32, .i x33, .i x34, .i x35, .i x36]) = L_turn_Both_0 F (fun (z0 : Int) (z1 : Int) (z2 : Int) (z3 : Int) (z4 : Int) (z5 : Int) (z6 : Int) (z7 : Int) (z8 : Int) (z9 : Int) (z10 : Int) (z11 : Int) (z12 : Int) (z13 : Int) (z14 : Int) (z15 : Int) (z16 : Int) (z17 : Int) (z18 : Int) (z19 : Int) (z20 : Int) (z21 : Int) (z22 : Int) (z23 : Int) (z24 : Int) (z25 : Int) (z26 : Int) (z27 : Int) (z28 : Int) (z29 : Int) (z30 : Int) (z31 : Int) (z32 : Int) (z33 : Int) (z34 : Int) (z35 : Int) (z36 : Int) => k (.exit 0) (fS T_turn_Both_0_0 [.i z0, .i z1, .i z2, .i z3, .i z4, .i z5, .i z6, .i z7, .i z8, .i z9, .i z10, .i z11, .i z12, .i z13, .i z14, .i z15, .i z16, .i z17, .i z18, .i z19, .i z20, .i z21, .i z22, .i z23, .i z24, .i z25, .i z26, .i z27, .i z28, .i z29, .i z30, .i z31, .i z32, .i z33, .i z34, .i z35, .i z36])) n x0 x1 x2 x3 x4 x5 x6 x7 x8 x9 x10 x11 x12 x13 x14 x15 x16 x17 x18 x19 x20 x21 x22 x23 x24 x25 x26 x27 x28 x29 x30 x31 x32 x33 x34 x35 x36
  | 0, _, _, _, _, _, _, _, _, _, _, _, _, _, _, _, _, _, _, _, _, _, _, _, _, _, _, _, _, _, _, _, _, _, _, _, _, _ => rfl
  | n + 1, x0, x1, x2, x3, x4, x5, x6, x7, x8, x9, x10, x11, x12, x13, x14, x15, x16, x17, x18, x19, x20, x21, x22, x23, x24, x25, x26, x27, x28, x29, x30, x31, x32, x33, x34, x35, x36 => by
    have h0 : ∀ (ok_turn_angles : Nat → Bool) (o_turn_angles_0 : Nat → Int) (o_turn_angles_1 : Nat → Int) (o_turn_angles_2 : Nat → Int) (o_turn_angles_3 : Nat → Int) (o_turn_angles_4 : Nat → Int) (o_turn_angles_5 : Nat → Int) (o_turn_angles_6 : Nat → Int) (o_turn_angles_7 : Nat → Int) (o_turn_angles_8 : Nat → Int) (o_turn_angles_9 : Nat → Int) (o_turn_angles_10 : Nat → Int) (o_turn_angles_11 : Nat → Int) (o_turn_angles_12 : Nat → Int) (o_turn_angles_13 : Nat → Int) (o_turn_angles_14 : Nat → Int) (o_turn_angles_15 : Nat → Int) (o_turn_angles_16 : Nat → Int) (o_turn_angles_17 : Nat → Int) (o_turn_angles_18 : Nat → Int) (o_turn_angles_19 : Nat → Int) (o_turn_angles_20 : Nat → Int) (o_turn_angles_21 : Nat → Int) (o_turn_angles_22 : Nat → Int) (o_turn_angles_23 : Nat → Int) (o_turn_angles_24 : Nat → Int) (o_turn_angles_25 : Nat → Int) (o_turn_angles_26 : Nat → Int) (o_turn_angles_27 : Nat → Int) (o_turn_angles_28 : Nat → Int) (o_turn_angles_29 : Nat → Int) (ok_turn_pair_turned : Nat → Int → Int → Int → Bool → Bool) (o_turn_pair_turned_0 : Nat → Int → Int → Int → Bool → Int) (o_turn_pair_turned_1 : Nat → Int → Int → Int → Bool → Int) (ok_turn_unit : Nat → Int → Bool) (o_turn_unit_0 : Nat → Int → Int) (L_turn_Both_0 : Nat → (Int → Int → Int → Int → Int → Int → Int → Int → Int → Int → Int → Int → Int → Int → Int → Int → Int → Int → Int → Int → Int → Int → Int → Int → Int → Int → Int → Int → Int → Int → Int → Int → Int → Int → Int → Int → Int → R) → Nat → Int → Int → Int → Int → Int → Int → Int → Int → Int → Int → Int → Int → Int → Int → Int → Int → Int → Int → Int → Int → Int → Int → Int → Int → Int → Int → Int → Int → Int → Int → Int → Int → Int → Int → Int → Int → Int → R) (L_turn_Both_1 : Nat → (Int → Int → Int → Int → Int → Int → Int → Int → Int → Int → Int → Int → Int → Int → Int → Int → Int → Int → Int → Int → Int → Int → Int → Int → Int → Int → Int → Int → Int → Int → Int → Int → Int → Int → Int → Int → Int → Int → Int → Int → Int → R) → Nat → Int → Int → Int → Int → Int → Int → Int → Int → Int → Int → Int → Int → Int → Int → Int → Int → Int → Int → Int → Int → Int → Int → Int → Int → Int → Int → Int → Int → Int → Int → Int → Int → Int → Int → Int → Int → Int → Int → Int → Int → Int → R), iterC (codeL PP (words [(76, spec ti_turn_angles to_turn_angles (fun q => (ok_turn_angles F )) (fun q => [.i (o_turn_angles_0 F ), .i (o_turn_angles_1 F ), .i (o_turn_angles_2 F ), .i (o_turn_angles_3 F ), .i (o_turn_angles_4 F ), .i (o_turn_angles_5 F ), .i (o_turn_angles_6 F ), .i (o_turn_angles_7 F ), .i (o_turn_angles_8 F ), .i (o_turn_angles_9 F ), .i (o_turn_angles_10 F ), .i (o_turn_angles_11 F ), .i (o_turn_angles_12 F ), .i (o_turn_angles_13 F ), .i (o_turn_angles_14 F ), .i (o_turn_angles_15 F ), .i (o_turn_angles_16 F ), .i (o_turn_angles_17 F ), .i (o_turn_angles_18 F ), .i (o_turn_angles_19 F ), .i (o_turn_angles_20 F ), .i (o_turn_angles_21 F ), .i (o_turn_angles_22 F ), .i (o_turn_angles_23 F ), .i (o_turn_angles_24 F ), .i (o_turn_angles_25 F ), .i (o_turn_angles_26 F ), .i (o_turn_angles_27 F ), .i (o_turn_angles_28 F ), .i (o_turn_angles_29 F )])), (77, spec ti_turn_pair_turned to_turn_pair_turned (fun q => (ok_turn_pair_turned F (atI (nth q 0)) (atI (nth q 1)) (atI (nth q 2)) (atB (nth q 3)))) (fun q => [.i (o_turn_pair_turned_0 F (atI (nth q 0)) (atI (nth q 1)) (atI (nth q 2)) (atB (nth q 3))), .i (o_turn_pair_turned_1 F (atI (nth q 0)) (atI (nth q 1)) (atI (nth q 2)) (atB (nth q 3)))])), (78, spec ti_turn_unit to_turn_unit (fun q => (ok_turn_unit F (atI (nth q 0)))) (fun q => [.i (o_turn_unit_0 F (atI (nth q 0)))]))]) c_turn_Both (tabI c_turn_Both [⟨0, T_turn_Both_0, fun k q => L_turn_Both_0 F (fun (z0 : Int) (z1 : Int) (z2 : Int) (z3 : Int) (z4 : Int) (z5 : Int) (z6 : Int) (z7 : Int) (z8 : Int) (z9 : Int) (z10 : Int) (z11 : Int) (z12 : Int) (z13 : Int) (z14 : Int) (z15 : Int) (z16 : Int) (z17 : Int) (z18 : Int) (z19 : Int) (z20 : Int) (z21 : Int) (z22 : Int) (z23 : Int) (z24 : Int) (z25 : Int) (z26 : Int) (z27 : Int) (z28 : Int) (z29 : Int) (z30 : Int) (z31 : Int) (z32 : Int) (z33 : Int) (z34 : Int) (z35 : Int) (z36 : Int) => k (.exit 0) (fS T_turn_Both_0_0 [.i z0, .i z1, .i z2, .i z3, .i z4, .i z5, .i z6, .i z7, .i z8, .i z9, .i z10, .i z11, .i z12, .i z13, .i z14, .i z15, .i z16, .i z17, .i z18, .i z19, .i z20, .i z21, .i z22, .i z23, .i z24, .i z25, .i z26, .i z27, .i z28, .i z29, .i z30, .i z31, .i z32, .i z33, .i z34, .i z35, .i z36])) F (atI (nth q 0)) (atI (nth q 1)) (atI (nth q 2)) (atI (nth q 3)) (atI (nth q 4)) (atI (nth q 5)) (atI (nth q 6)) (atI (nth q 7)) (atI (nth q 8)) (atI (nth q 9)) (atI (nth q 10)) (atI (nth q 11)) (atI (nth q 12)) (atI (nth q 13)) (atI (nth q 14)) (atI (nth q 15)) (atI (nth q 16)) (atI (nth q 17)) (atI (nth q 18)) (atI (nth q 19)) (atI (nth q 20)) (atI (nth q 21)) (atI (nth q 22)) (atI (nth q 23)) (atI (nth q 24)) (atI (nth q 25)) (atI (nth q 26)) (atI (nth q 27)) (atI (nth q 28)) (atI (nth q 29)) (atI (nth q 30)) (atI (nth q 31)) (atI (nth q 32)) (atI (nth q 33)) (atI (nth q 34)) (atI (nth q 35)) (atI (nth q 36))⟩, ⟨2, T_turn_Both_1, fun k q => L_turn_Both_1 F (fun (z0 : Int) (z1 : Int) (z2 : Int) (z3 : Int) (z4 : Int) (z5 : Int) (z6 : Int) (z7 : Int) (z8 : Int) (z9 : Int) (z10 : Int) (z11 : Int) (z12 : Int) (z13 : Int) (z14 : Int) (z15 : Int) (z16 : Int) (z17 : Int) (z18 : Int) (z19 : Int) (z20 : Int) (z21 : Int) (z22 : Int) (z23 : Int) (z24 : Int) (z25 : Int) (z26 : Int) (z27 : Int) (z28 : Int) (z29 : Int) (z30 : Int) (z31 : Int) (z32 : Int) (z33 : Int) (z34 : Int) (z35 : Int) (z36 : Int) (z37 : Int) (z38 : Int) (z39 : Int) (z40 : Int) => k (.exit 2) (fS T_turn_Both_1_0 [.i z0, .i z1, .i z2, .i z3, .i z4, .i z5, .i z6, .i z7, .i z8, .i z9, .i z10, .i z11, .i z12, .i z13, .i z14, .i z15, .i z16, .i z17, .i z18, .i z19, .i z20, .i z21, .i z22, .i z23, .i z24, .i z25, .i z26, .i z27, .i z28, .i z29, .i z30, .i z31, .i z32, .i z33, .i z34, .i z35, .i z36, .i z37, .i z38, .i z39, .i z40])) F (atI (nth q 0)) (atI (nth q 1)) (atI (nth q 2)) (atI (nth q 3)) (atI (nth q 4)) (atI (nth q 5)) (atI (nth q 6)) (atI (nth q 7)) (atI (nth q 8)) (atI (nth q 9)) (atI (nth q 10)) (atI (nth q 11)) (atI (nth q 12)) (atI (nth q 13)) (atI (nth q 14)) (atI (nth q 15)) (atI (nth q 16)) (atI (nth q 17)) (atI (nth q 18)) (atI (nth q 19)) (atI (nth q 20)) (atI (nth q 21)) (atI (nth q 22)) (atI (nth q 23)) (atI (nth q 24)) (atI (nth q 25)) (atI (nth q 26)) (atI (nth q 27)) (atI (nth q 28)) (atI (nth q 29)) (atI (nth q 30)) (atI (nth q 31)) (atI (nth q 32)) (atI (nth q 33)) (atI (nth q 34)) (atI (nth q 35)) (atI (nth q 36)) (atI (nth q 37)) (atI (nth q 38)) (atI (nth q 39)) (atI (nth q 40))⟩]) (tabJ []) (loopAt PP 25 0) 0) (headOf c_turn_Both 0) k (n + 1) (fS T_turn_Both_0 [.i x0, .i x1, .i x2, .i x3, .i x4, .i x5, .i x6, .i x7, .i x8, .i x9, .i x10, .i x11, .i x12, .i x13, .i x14, .i x15, .i x16, .i x17, .i x18, .i x19, .i x20, .i x21, .i x22, .i x23, .i x24, .i x25, .i x26, .i x27, .i x28, .i x29, .i x30, .i x31, .i x32, .i x33, .i x34, .i x35, .i x36]) = (fun (rc : Int → Int → Int → Int → Int → Int → Int → Int → Int → Int → Int → Int → Int → Int → Int → Int → Int → Int → Int → Int → Int → Int → Int → Int → Int → Int → Int → Int → Int → Int → Int → Int → Int → Int → Int → Int → Int → R) (ex0 : Int → Int → Int → Int → Int → Int → Int → Int → Int → Int → Int → Int → Int → Int → Int → Int → Int → Int → Int → Int → Int → Int → Int → Int → Int → Int → Int → Int → Int → Int → Int → Int → Int → Int → Int → Int → Int → R) (x0 : Int) (x1 : Int) (x2 : Int) (x3 : Int) (x4 : Int) (x5 : Int) (x6 : Int) (x7 : Int) (x8 : Int) (x9 : Int) (x10 : Int) (x11 : Int) (x12 : Int) (x13 : Int) (x14 : Int) (x15 : Int) (x16 : Int) (x17 : Int) (x18 : Int) (x19 : Int) (x20 : Int) (x21 : Int) (x22 : Int) (x23 : Int) (x24 : Int) (x25 : Int) (x26 : Int) (x27 : Int) (x28 : Int) (x29 : Int) (x30 : Int) (x31 : Int) (x32 : Int) (x33 : Int) (x34 : Int) (x35 : Int) (x36 : Int) => (
  bif ((decide (x34 < 30))) then (
    bif (((decide (0 ≤ x34)) && (decide (x34 < 30))) && ((isI .i64 [.v (.int .i64 x4), .v (.int .i64 x5), .v (.int .i64 x6), .v (.int .i64 x7), .v (.int .i64 x8), .v (.int .i64 x9), .v (.int .i64 x10), .v (.int .i64 x11), .v (.int .i64 x12), .v (.int .i64 x13), .v (.int .i64 x14), .v (.int .i64 x15), .v (.int .i64 x16), .v (.int .i64 x17), .v (.int .i64 x18), .v (.int .i64 x19), .v (.int .i64 x20), .v (.int .i64 x21), .v (.int .i64 x22), .v (.int .i64 x23), .v (.int .i64 x24), .v (.int .i64 x25), .v (.int .i64 x26), .v (.int .i64 x27), .v (.int .i64 x28), .v (.int .i64 x29), .v (.int .i64 x30), .v (.int .i64 x31), .v (.int .i64 x32), .v (.int .i64 x33)][((Int.toNat x34) * 1)]?) && true)) then (
      let v70 : Int := (iv [.v (.int .i64 x4), .v (.int .i64 x5), .v (.int .i64 x6), .v (.int .i64 x7), .v (.int .i64 x8), .v (.int .i64 x9), .v (.int .i64 x10), .v (.int .i64 x11), .v (.int .i64 x12), .v (.int .i64 x13), .v (.int .i64 x14), .v (.int .i64 x15), .v (.int .i64 x16), .v (.int .i64 x17), .v (.int .i64 x18), .v (.int .i64 x19), .v (.int .i64 x20), .v (.int .i64 x21), .v (.int .i64 x22), .v (.int .i64 x23), .v (.int .i64 x24), .v (.int .i64 x25), .v (.int .i64 x26), .v (.int .i64 x27), .v (.int .i64 x28), .v (.int .i64 x29), .v (.int .i64 x30), .v (.int .i64 x31), .v (.int .i64 x32), .v (.int .i64 x33)][((Int.toNat x34) * 1)]?)
      let v71 : Bool := (decide (x3 ≥ 0))
      bif (ok_turn_pair_turned F x35 x36 x34 v71) then (
        let v78 : Int := (o_turn_pair_turned_0 F x35 x36 x34 v71)
        let v79 : Int := (o_turn_pair_turned_1 F x35 x36 x34 v71)
        bif v71 then (
          rc x0 x1 x2 ((IntKind.wrap .i64 (x3 + ((IntKind.wrap .i64 (0 - v70)))))) x4 x5 x6 x7 x8 x9 x10 x11 x12 x13 x14 x15 x16 x17 x18 x19 x20 x21 x22 x23 x24 x25 x26 x27 x28 x29 x30 x31 x32 x33 ((IntKind.wrap .i64 (x34 + 1))) v78 v79)
        else (
          rc x0 x1 x2 ((IntKind.wrap .i64 (x3 + v70))) x4 x5 x6 x7 x8 x9 x10 x11 x12 x13 x14 x15 x16 x17 x18 x19 x20 x21 x22 x23 x24 x25 x26 x27 x28 x29 x30 x31 x32 x33 ((IntKind.wrap .i64 (x34 + 1))) v78 v79))
      else (
        none))
    else (
      none))
  else (
    ex0 x0 x1 x2 x3 x4 x5 x6 x7 x8 x9 x10 x11 x12 x13 x14 x15 x16 x17 x18 x19 x20 x21 x22 x23 x24 x25 x26 x27 x28 x29 x30 x31 x32 x33 x34 x35 x36) : R)) (fun (y0 : Int) (y1 : Int) (y2 : Int) (y3 : Int) (y4 : Int) (y5 : Int) (y6 : Int) (y7 : Int) (y8 : Int) (y9 : Int) (y10 : Int) (y11 : Int) (y12 : Int) (y13 : Int) (y14 : Int) (y15 : Int) (y16 : Int) (y17 : Int) (y18 : Int) (y19 : Int) (y20 : Int) (y21 : Int) (y22 : Int) (y23 : Int) (y24 : Int) (y25 : Int) (y26 : Int) (y27 : Int) (y28 : Int) (y29 : Int) (y30 : Int) (y31 : Int) (y32 : Int) (y33 : Int) (y34 : Int) (y35 : Int) (y36 : Int) => iterC (codeL PP (words [(76, spec ti_turn_angles to_turn_angles (fun q => (ok_turn_angles F )) (fun q => [.i (o_turn_angles_0 F ), .i (o_turn_angles_1 F ), .i (o_turn_angles_2 F ), .i (o_turn_angles_3 F ), .i (o_turn_angles_4 F ), .i (o_turn_angles_5 F ), .i (o_turn_angles_6 F ), .i (o_turn_angles_7 F ), .i (o_turn_angles_8 F ), .i (o_turn_angles_9 F ), .i (o_turn_angles_10 F ), .i (o_turn_angles_11 F ), .i (o_turn_angles_12 F ), .i (o_turn_angles_13 F ), .i (o_turn_angles_14 F ), .i (o_turn_angles_15 F ), .i (o_turn_angles_16 F ), .i (o_turn_angles_17 F ), .i (o_turn_angles_18 F ), .i (o_turn_angles_19 F ), .i (o_turn_angles_20 F ), .i (o_turn_angles_21 F ), .i (o_turn_angles_22 F ), .i (o_turn_angles_23 F ), .i (o_turn_angles_24 F ), .i (o_turn_angles_25 F ), .i (o_turn_angles_26 F ), .i (o_turn_angles_27 F ), .i (o_turn_angles_28 F ), .i (o_turn_angles_29 F )])), (77, spec ti_turn_pair_turned to_turn_pair_turned (fun q => (ok_turn_pair_turned F (atI (nth q 0)) (atI (nth q 1)) (atI (nth q 2)) (atB (nth q 3)))) (fun q => [.i (o_turn_pair_turned_0 F (atI (nth q 0)) (atI (nth q 1)) (atI (nth q 2)) (atB (nth q 3))), .i (o_turn_pair_turned_1 F (atI (nth q 0)) (atI (nth q 1)) (atI (nth q 2)) (atB (nth q 3)))])), (78, spec ti_turn_unit to_turn_unit (fun q => (ok_turn_unit F (atI (nth q 0)))) (fun q => [.i (o_turn_unit_0 F (atI (nth q 0)))]))]) c_turn_Both (tabI c_turn_Both [⟨0, T_turn_Both_0, fun k q => L_turn_Both_0 F (fun (z0 : Int) (z1 : Int) (z2 : Int) (z3 : Int) (z4 : Int) (z5 : Int) (z6 : Int) (z7 : Int) (z8 : Int) (z9 : Int) (z10 : Int) (z11 : Int) (z12 : Int) (z13 : Int) (z14 : Int) (z15 : Int) (z16 : Int) (z17 : Int) (z18 : Int) (z19 : Int) (z20 : Int) (z21 : Int) (z22 : Int) (z23 : Int) (z24 : Int) (z25 : Int) (z26 : Int) (z27 : Int) (z28 : Int) (z29 : Int) (z30 : Int) (z31 : Int) (z32 : Int) (z33 : Int) (z34 : Int) (z35 : Int) (z36 : Int) => k (.exit 0) (fS T_turn_Both_0_0 [.i z0, .i z1, .i z2, .i z3, .i z4, .i z5, .i z6, .i z7, .i z8, .i z9, .i z10, .i z11, .i z12, .i z13, .i z14, .i z15, .i z16, .i z17, .i z18, .i z19, .i z20, .i z21, .i z22, .i z23, .i z24, .i z25, .i z26, .i z27, .i z28, .i z29, .i z30, .i z31, .i z32, .i z33, .i z34, .i z35, .i z36])) F (atI (nth q 0)) (atI (nth q 1)) (atI (nth q 2)) (atI (nth q 3)) (atI (nth q 4)) (atI (nth q 5)) (atI (nth q 6)) (atI (nth q 7)) (atI (nth q 8)) (atI (nth q 9)) (atI (nth q 10)) (atI (nth q 11)) (atI (nth q 12)) (atI (nth q 13)) (atI (nth q 14)) (atI (nth q 15)) (atI (nth q 16)) (atI (nth q 17)) (atI (nth q 18)) (atI (nth q 19)) (atI (nth q 20)) (atI (nth q 21)) (atI (nth q 22)) (atI (nth q 23)) (atI (nth q 24)) (atI (nth q 25)) (atI (nth q 26)) (atI (nth q 27)) (atI (nth q 28)) (atI (nth q 29)) (atI (nth q 30)) (atI (nth q 31)) (atI (nth q 32)) (atI (nth q 33)) (atI (nth q 34)) (atI (nth q 35)) (atI (nth q 36))⟩, ⟨2, T_turn_Both_1, fun k q => L_turn_Both_1 F (fun (z0 : Int) (z1 : Int) (z2 : Int) (z3 : Int) (z4 : Int) (z5 : Int) (z6 : Int) (z7 : Int) (z8 : Int) (z9 : Int) (z10 : Int) (z11 : Int) (z12 : Int) (z13 : Int) (z14 : Int) (z15 : Int) (z16 : Int) (z17 : Int) (z18 : Int) (z19 : Int) (z20 : Int) (z21 : Int) (z22 : Int) (z23 : Int) (z24 : Int) (z25 : Int) (z26 : Int) (z27 : Int) (z28 : Int) (z29 : Int) (z30 : Int) (z31 : Int) (z32 : Int) (z33 : Int) (z34 : Int) (z35 : Int) (z36 : Int) (z37 : Int) (z38 : Int) (z39 : Int) (z40 : Int) => k (.exit 2) (fS T_turn_Both_1_0 [.i z0, .i z1, .i z2, .i z3, .i z4, .i z5, .i z6, .i z7, .i z8, .i z9, .i z10, .i z11, .i z12, .i z13, .i z14, .i z15, .i z16, .i z17, .i z18, .i z19, .i z20, .i z21, .i z22, .i z23, .i z24, .i z25, .i z26, .i z27, .i z28, .i z29, .i z30, .i z31, .i z32, .i z33, .i z34, .i z35, .i z36, .i z37, .i z38, .i z39, .i z40])) F (atI (nth q 0)) (atI (nth q 1)) (atI (nth q 2)) (atI (nth q 3)) (atI (nth q 4)) (atI (nth q 5)) (atI (nth q 6)) (atI (nth q 7)) (atI (nth q 8)) (atI (nth q 9)) (atI (nth q 10)) (atI (nth q 11)) (atI (nth q 12)) (atI (nth q 13)) (atI (nth q 14)) (atI (nth q 15)) (atI (nth q 16)) (atI (nth q 17)) (atI (nth q 18)) (atI (nth q 19)) (atI (nth q 20)) (atI (nth q 21)) (atI (nth q 22)) (atI (nth q 23)) (atI (nth q 24)) (atI (nth q 25)) (atI (nth q 26)) (atI (nth q 27)) (atI (nth q 28)) (atI (nth q 29)) (atI (nth q 30)) (atI (nth q 31)) (atI (nth q 32)) (atI (nth q 33)) (atI (nth q 34)) (atI (nth q 35)) (atI (nth q 36)) (atI (nth q 37)) (atI (nth q 38)) (atI (nth q 39)) (atI (nth q 40))⟩]) (tabJ []) (loopAt PP 25 0) 0) (headOf c_turn_Both 0) k n (fS T_turn_Both_0 [.i y0, .i y1, .i y2, .i y3, .i y4, .i y5, .i y6, .i y7, .i y8, .i y9, .i y10, .i y11, .i y12, .i y13, .i y14, .i y15, .i y16, .i y17, .i y18, .i y19, .i y20, .i y21, .i y22, .i y23, .i y24, .i y25, .i y26, .i y27, .i y28, .i y29, .i y30, .i y31, .i y32, .i y33, .i y34, .i y35, .i y36])) (fun (z0 : Int) (z1 : Int) (z2 : Int) (z3 : Int) (z4 : Int) (z5 : Int) (z6 : Int) (z7 : Int) (z8 : Int) (z9 : Int) (z10 : Int) (z11 : Int) (z12 : Int) (z13 : Int) (z14 : Int) (z15 : Int) (z16 : Int) (z17 : Int) (z18 : Int) (z19 : Int) (z20 : Int) (z21 : Int) (z22 : Int) (z23 : Int) (z24 : Int) (z25 : Int) (z26 : Int) (z27 : Int) (z28 : Int) (z29 : Int) (z30 : Int) (z31 : Int) (z32 : Int) (z33 : Int) (z34 : Int) (z35 : Int) (z36 : Int) => k (.exit 0) (fS T_turn_Both_0_0 [.i z0, .i z1, .i z2, .i z3, .i z4, .i z5, .i z6, .i z7, .i z8, .i z9, .i z10, .i z11, .i z12, .i z13, .i z14, .i z15, .i z16, .i z17, .i z18, .i z19, .i z20, .i z21, .i z22, .i z23, .i z24, .i z25, .i z26, .i z27, .i z28, .i z29, .i z30, .i z31, .i z32, .i z33, .i z34, .i z35, .i z36])) x0 x1 x2 x3 x4 x5 x6 x7 x8 x9 x10 x11 x12 x13 x14 x15 x16 x17 x18 x19 x20 x21 x22 x23 x24 x25 x26 x27 x28 x29 x30 x31 x32 x33 x34 x35 x36 := by
      intros
      kernel_rfl
    have h : iterC (codeL PP (S_turn_Both F) c_turn_Both (I_turn_Both F) (J_turn_Both F) (loopAt PP 25 0) 0) (headOf c_turn_Both 0) k (n + 1) (fS T_turn_Both_0 [.i x0, .i x1, .i x2, .i x3, .i x4, .i x5, .i x6, .i x7, .i x8, .i x9, .i x10, .i x11, .i x12, .i x13, .i x14, .i x15, .i x16, .i x17, .i x18, .i x19, .i x20, .i x21, .i x22, .i x23, .i x24, .i x25, .i x26, .i x27, .i x28, .i x29, .i x30, .i x31, .i x32, .i x33, .i x34, .i x35, .i x36]) = B_turn_Both_0 F (fun (y0 : Int) (y1 : Int) (y2 : Int) (y3 : Int) (y4 : Int) (y5 : Int) (y6 : Int) (y7 : Int) (y8 : Int) (y9 : Int) (y10 : Int) (y11 : Int) (y12 : Int) (y13 : Int) (y14 : Int) (y15 : Int) (y16 : Int) (y17 : Int) (y18 : Int) (y19 : Int) (y20 : Int) (y21 : Int) (y22 : Int) (y23 : Int) (y24 : Int) (y25 : Int) (y26 : Int) (y27 : Int) (y28 : Int) (y29 : Int) (y30 : Int) (y31 : Int) (y32 : Int) (y33 : Int) (y34 : Int) (y35 : Int) (y36 : Int) => iterC (codeL PP (S_turn_Both F) c_turn_Both (I_turn_Both F) (J_turn_Both F) (loopAt PP 25 0) 0) (headOf c_turn_Both 0) k n (fS T_turn_Both_0 [.i y0, .i y1, .i y2, .i y3, .i y4, .i y5, .i y6, .i y7, .i y8, .i y9, .i y10, .i y11, .i y12, .i y13, .i y14, .i y15, .i y16, .i y17, .i y18, .i y19, .i y20, .i y21, .i y22, .i y23, .i y24, .i y25, .i y26, .i y27, .i y28, .i y29, .i y30, .i y31, .i y32, .i y33, .i y34, .i y35, .i y36])) (fun (z0 : Int) (z1 : Int) (z2 : Int) (z3 : Int) (z4 : Int) (z5 : Int) (z6 : Int) (z7 : Int) (z8 : Int) (z9 : Int) (z10 : Int) (z11 : Int) (z12 : Int) (z13 : Int) (z14 : Int) (z15 : Int) (z16 : Int) (z17 : Int) (z18 : Int) (z19 : Int) (z20 : Int) (z21 : Int) (z22 : Int) (z23 : Int) (z24 : Int) (z25 : Int) (z26 : Int) (z27 : Int) (z28 : Int) (z29 : Int) (z30 : Int) (z31 : Int) (z32 : Int) (z33 : Int) (z34 : Int) (z35 : Int) (z36 : Int) => k (.exit 0) (fS T_turn_Both_0_0 [.i z0, .i z1, .i z2, .i z3, .i z4, .i z5, .i z6, .i z7, .i z8, .i z9, .i z10, .i z11, .i z12, .i z13, .i z14, .i z15, .i z16, .i z17, .i z18, .i z19, .i z20, .i z21, .i z22, .i z23, .i z24, .i z25, .i z26, .i z27, .i z28, .i z29, .i z30, .i z31, .i z32, .i z33, .i z34, .i z35, .i z36])) x0 x1 x2 x3 x4 x5 x6 x7 x8 x9 x10 x11 x12 x13 x14 x15 x16 x17 x18 x19 x20 x21 x22 x23 x24 x25 x26 x27 x28 x29 x30 x31 x32 x33 x34 x35 x36 := (h0 ok_turn_angles o_turn_angles_0 o_turn_angles_1 o_turn_angles_2 o_turn_angles_3 o_turn_angles_4 o_turn_angles_5 o_turn_angles_6 o_turn_angles_7 o_turn_angles_8 o_turn_angles_9 o_turn_angles_10 o_turn_angles_11 o_turn_angles_12 o_turn_angles_13 o_turn_angles_14 o_turn_angles_15 o_turn_angles_16 o_turn_angles_17 o_turn_angles_18 o_turn_angles_19 o_turn_angles_20 o_turn_angles_21 o_turn_angles_22 o_turn_angles_23 o_turn_angles_24 o_turn_angles_25 o_turn_angles_26 o_turn_angles_27 o_turn_angles_28 o_turn_angles_29 ok_turn_pair_turned o_turn_pair_turned_0 o_turn_pair_turned_1 ok_turn_unit o_turn_unit_0 L_turn_Both_0 L_turn_Both_1).trans (by kernel_rfl)
    rw [h]
    simp only [lL_turn_Both_0 F k n]
    rfl
theorem lL_turn_Both_1 (F : Nat) (k : Exit → VS → R) : ∀ (n : Nat) (x0 : Int) (x1 : Int) (x2 : Int) (x3 : Int) (x4 : Int) (x5 : Int) (x6 : Int) (x7 : Int) (x8 : Int) (x9 : Int) (x10 : Int) (x11 : Int) (x12 : Int) (x13 : Int) (x14 : Int) (x15 : Int) (x16 : Int) (x17 : Int) (x18 : Int) (x19 : Int) (x20 : Int) (x21 : Int) (x22 : Int) (x23 : Int) (x24 : Int) (x25 : Int) (x26 : Int) (x27 : Int) (x28 : Int) (x29 : Int) (x30 : Int) (x31 : Int) (x32 : Int) (x33 : Int) (x34 : Int) (x35 : Int) (x36 : Int) (x37 : Int) (x38 : Int) (x39 : Int) (x40 : Int), iterC (codeL PP (S_turn_Both F) c_turn_Both (I_turn_Both F) (J_turn_Both F) (loopAt PP 25 1) 2) (headOf c_turn_Both 2) k n (fS T_turn_Both_1 [.i x0, .i x1, .i x2, .i x3, .i x4, .i x5, .i x6, .i x7, .i x8, .i x9, .i x10, .i x11, .i x12, .i x13, .i x14, .i x15, .i x16, .i x17, .i x18, .i x19, .i x20, .i x21, .i x22, .i x23, .i x24, .i x25, .i x26, .i x27, .i x28, .i x29, .i x30, .i x31, .i x32, .i x33, .i x34, .i x35, .i x36, .i x37, .i x38, .i x39, .i x40]) = L_turn_Both_1 F (fun (z0 : Int) (z1 : Int) (z2 : Int) (z3 : Int) (z4 : Int) (z5 : Int) (z6 : Int) (z7 : Int) (z8 : Int) (z9 : Int) (z10 : Int) (z11 : Int) (z12 : Int) (z13 : Int) (z14 : Int) (z15 : Int) (z16 : Int) (z17 : Int) (z18 : Int) (z19 : Int) (z20 : Int) (z21 : Int) (z22 : Int) (z23 : Int) (z24 : Int) (z25 : Int) (z26 : Int) (z27 : Int) (z28 : Int) (z29 : Int) (z30 : Int) (z31 : Int) (z32 : Int) (z33 : Int) (z34 : Int) (z35 : Int) (z36 : Int) (z37 : Int) (z38 : Int) (z39 : Int) (z40 : Int) => k (.exit 2) (fS T_turn_Both_1_0 [.i z0, .i z1, .i z2, .i z3, .i z4, .i z5, .i z6, .i z7, .i z8, .i z9, .i z10, .i z11, .i z12, .i z13, .i z14, .i z15, .i z16, .i z17, .i z18, .i z19, .i z20, .i z21, .i z22, .i z23, .i z24, .i z25, .i z26, .i z27, .i z28, .i z29, .i z30, .i z31, .i z32, .i z33, .i z34, .i z35, .i z36, .i z37, .i z38, .i z39, .i z40])) n x0 x1 x2 x3 x4 x5 x6 x7 x8 x9 x10 x11 x12 x13 x14 x15 x16 x17 x18 x19 x20 x21 x22 x23 x24 x25 x26 x27 x28 x29 x30 x31 x32 x33 x34 x35 x36 x37 x38 x39 x40
  | 0, _, _, _, _, _, _, _, _, _, _, _, _, _, _, _, _, _, _, _, _, _, _, _, _, _, _, _, _, _, _, _, _, _, _, _, _, _, _, _, _, _ => rfl
  | n + 1, x0, x1, x2, x3, x4, x5, x6, x7, x8, x9, x10, x11, x12, x13, x14, x15, x16, x17, x18, x19, x20, x21, x22, x23, x24, x25, x26, x27, x28, x29, x30, x31, x32, x33, x34, x35, x36, x37, x38, x39, x40 => by
    have h0 : ∀ (ok_turn_angles : Nat → Bool) (o_turn_angles_0 : Nat → Int) (o_turn_angles_1 : Nat → Int) (o_turn_angles_2 : Nat → Int) (o_turn_angles_3 : Nat → Int) (o_turn_angles_4 : Nat → Int) (o_turn_angles_5 : Nat → Int) (o_turn_angles_6 : Nat → Int) (o_turn_angles_7 : Nat → Int) (o_turn_angles_8 : Nat → Int) (o_turn_angles_9 : Nat → Int) (o_turn_angles_10 : Nat → Int) (o_turn_angles_11 : Nat → Int) (o_turn_angles_12 : Nat → Int) (o_turn_angles_13 : Nat → Int) (o_turn_angles_14 : Nat → Int) (o_turn_angles_15 : Nat → Int) (o_turn_angles_16 : Nat → Int) (o_turn_angles_17 : Nat → Int) (o_turn_angles_18 : Nat → Int) (o_turn_angles_19 : Nat → Int) (o_turn_angles_20 : Nat → Int) (o_turn_angles_21 : Nat → Int) (o_turn_angles_22 : Nat → Int) (o_turn_angles_23 : Nat → Int) (o_turn_angles_24 : Nat → Int) (o_turn_angles_25 : Nat → Int) (o_turn_angles_26 : Nat → Int) (o_turn_angles_27 : Nat → Int) (o_turn_angles_28 : Nat → Int) (o_turn_angles_29 : Nat → Int) (ok_turn_pair_turned : Nat → Int → Int → Int → Bool → Bool) (o_turn_pair_turned_0 : Nat → Int → Int → Int → Bool → Int) (o_turn_pair_turned_1 : Nat → Int → Int → Int → Bool → Int) (ok_turn_unit : Nat → Int → Bool) (o_turn_unit_0 : Nat → Int → Int) (L_turn_Both_0 : Nat → (Int → Int → Int → Int → Int → Int → Int → Int → Int → Int → Int → Int → Int → Int → Int → Int → Int → Int → Int → Int → Int → Int → Int → Int → Int → Int → Int → Int → Int → Int → Int → Int → Int → Int → Int → Int → Int → R) → Nat → Int → Int → Int → Int → Int → Int → Int → Int → Int → Int → Int → Int → Int → Int → Int → Int → Int → Int → Int → Int → Int → Int → Int → Int → Int → Int → Int → Int → Int → Int → Int → Int → Int → Int → Int → Int → Int → R) (L_turn_Both_1 : Nat → (Int → Int → Int → Int → Int → Int → Int → Int → Int → Int → Int → Int → Int → Int → Int → Int → Int → Int → Int → Int → Int → Int → Int → Int → Int → Int → Int → Int → Int → Int → Int → Int → Int → Int → Int → Int → Int → Int → Int → Int → Int → R) → Nat → Int → Int → Int → Int → Int → Int → Int → Int → Int → Int → Int → Int → Int → Int → Int → Int → Int → Int → Int → Int → Int → Int → Int → Int → Int → Int → Int → Int → Int → Int → Int → Int → Int → Int → Int → Int → Int → Int → Int → Int → Int → R), iterC (codeL PP (words [(76, spec ti_turn_angles to_turn_angles (fun q => (ok_turn_angles F )) (fun q => [.i (o_turn_angles_0 F ), .i (o_turn_angles_1 F ), .i (o_turn_angles_2 F ), .i (o_turn_angles_3 F ), .i (o_turn_angles_4 F ), .i (o_turn_angles_5 F ), .i (o_turn_angles_6 F ), .i (o_turn_angles_7 F ), .i (o_turn_angles_8 F ), .i (o_turn_angles_9 F ), .i (o_turn_angles_10 F ), .i (o_turn_angles_11 F ), .i (o_turn_angles_12 F ), .i (o_turn_angles_13 F ), .i (o_turn_angles_14 F ), .i (o_turn_angles_15 F ), .i (o_turn_angles_16 F ), .i (o_turn_angles_17 F ), .i (o_turn_angles_18 F ), .i (o_turn_angles_19 F ), .i (o_turn_angles_20 F ), .i (o_turn_angles_21 F ), .i (o_turn_angles_22 F ), .i (o_turn_angles_23 F ), .i (o_turn_angles_24 F ), .i (o_turn_angles_25 F ), .i (o_turn_angles_26 F ), .i (o_turn_angles_27 F ), .i (o_turn_angles_28 F ), .i (o_turn_angles_29 F )])), (77, spec ti_turn_pair_turned to_turn_pair_turned (fun q => (ok_turn_pair_turned F (atI (nth q 0)) (atI (nth q 1)) (atI (nth q 2)) (atB (nth q 3)))) (fun q => [.i (o_turn_pair_turned_0 F (atI (nth q 0)) (atI (nth q 1)) (atI (nth q 2)) (atB (nth q 3))), .i (o_turn_pair_turned_1 F (atI (nth q 0)) (atI (nth q 1)) (atI (nth q 2)) (atB (nth q 3)))])), (78, spec ti_turn_unit to_turn_unit (fun q => (ok_turn_unit F (atI (nth q 0)))) (fun q => [.i (o_turn_unit_0 F (atI (nth q 0)))]))]) c_turn_Both (tabI c_turn_Both [⟨0, T_turn_Both_0, fun k q => L_turn_Both_0 F (fun (z0 : Int) (z1 : Int) (z2 : Int) (z3 : Int) (z4 : Int) (z5 : Int) (z6 : Int) (z7 : Int) (z8 : Int) (z9 : Int) (z10 : Int) (z11 : Int) (z12 : Int) (z13 : Int) (z14 : Int) (z15 : Int) (z16 : Int) (z17 : Int) (z18 : Int) (z19 : Int) (z20 : Int) (z21 : Int) (z22 : Int) (z23 : Int) (z24 : Int) (z25 : Int) (z26 : Int) (z27 : Int) (z28 : Int) (z29 : Int) (z30 : Int) (z31 : Int) (z32 : Int) (z33 : Int) (z34 : Int) (z35 : Int) (z36 : Int) => k (.exit 0) (fS T_turn_Both_0_0 [.i z0, .i z1, .i z2, .i z3, .i z4, .i z5, .i z6, .i z7, .i z8, .i z9, .i z10, .i z11, .i z12, .i z13, .i z14, .i z15, .i z16, .i z17, .i z18, .i z19, .i z20, .i z21, .i z22, .i z23, .i z24, .i z25, .i z26, .i z27, .i z28, .i z29, .i z30, .i z31, .i z32, .i z33, .i z34, .i z35, .i z36])) F (atI (nth q 0)) (atI (nth q 1)) (atI (nth q 2)) (atI (nth q 3)) (atI (nth q 4)) (atI (nth q 5)) (atI (nth q 6)) (atI (nth q 7)) (atI (nth q 8)) (atI (nth q 9)) (atI (nth q 10)) (atI (nth q 11)) (atI (nth q 12)) (atI (nth q 13)) (atI (nth q 14)) (atI (nth q 15)) (atI (nth q 16)) (atI (nth q 17)) (atI (nth q 18)) (atI (nth q 19)) (atI (nth q 20)) (atI (nth q 21)) (atI (nth q 22)) (atI (nth q 23)) (atI (nth q 24)) (atI (nth q 25)) (atI (nth q 26)) (atI (nth q 27)) (atI (nth q 28)) (atI (nth q 29)) (atI (nth q 30)) (atI (nth q 31)) (atI (nth q 32)) (atI (nth q 33)) (atI (nth q 34)) (atI (nth q 35)) (atI (nth q 36))⟩, ⟨2, T_turn_Both_1, fun k q => L_turn_Both_1 F (fun (z0 : Int) (z1 : Int) (z2 : Int) (z3 : Int) (z4 : Int) (z5 : Int) (z6 : Int) (z7 : Int) (z8 : Int) (z9 : Int) (z10 : Int) (z11 : Int) (z12 : Int) (z13 : Int) (z14 : Int) (z15 : Int) (z16 : Int) (z17 : Int) (z18 : Int) (z19 : Int) (z20 : Int) (z21 : Int) (z22 : Int) (z23 : Int) (z24 : Int) (z25 : Int) (z26 : Int) (z27 : Int) (z28 : Int) (z29 : Int) (z30 : Int) (z31 : Int) (z32 : Int) (z33 : Int) (z34 : Int) (z35 : Int) (z36 : Int) (z37 : Int) (z38 : Int) (z39 : Int) (z40 : Int) => k (.exit 2) (fS T_turn_Both_1_0 [.i z0, .i z1, .i z2, .i z3, .i z4, .i z5, .i z6, .i z7, .i z8, .i z9, .i z10, .i z11, .i z12, .i z13, .i z14, .i z15, .i z16, .i z17, .i z18, .i z19, .i z20, .i z21, .i z22, .i z23, .i z24, .i z25, .i z26, .i z27, .i z28, .i z29, .i z30, .i z31, .i z32, .i z33, .i z34, .i z35, .i z36, .i z37, .i z38, .i z39, .i z40])) F (atI (nth q 0)) (atI (nth q 1)) (atI (nth q 2)) (atI (nth q 3)) (atI (nth q 4)) (atI (nth q 5)) (atI (nth q 6)) (atI (nth q 7)) (atI (nth q 8)) (atI (nth q 9)) (atI (nth q 10)) (atI (nth q 11)) (atI (nth q 12)) (atI (nth q 13)) (atI (nth q 14)) (atI (nth q 15)) (atI (nth q 16)) (atI (nth q 17)) (atI (nth q 18)) (atI (nth q 19)) (atI (nth q 20)) (atI (nth q 21)) (atI (nth q 22)) (atI (nth q 23)) (atI (nth q 24)) (atI (nth q 25)) (atI (nth q 26)) (atI (nth q 27)) (atI (nth q 28)) (atI (nth q 29)) (atI (nth q 30)) (atI (nth q 31)) (atI (nth q 32)) (atI (nth q 33)) (atI (nth q 34)) (atI (nth q 35)) (atI (nth q 36)) (atI (nth q 37)) (atI (nth q 38)) (atI (nth q 39)) (atI (nth q 40))⟩]) (tabJ []) (loopAt PP 25 1) 2) (headOf c_turn_Both 2) k (n + 1) (fS T_turn_Both_1 [.i x0, .i x1, .i x2, .i x3, .i x4, .i x5, .i x6, .i x7, .i x8, .i x9, .i x10, .i x11, .i x12, .i x13, .i x14, .i x15, .i x16, .i x17, .i x18, .i x19, .i x20, .i x21, .i x22, .i x23, .i x24, .i x25, .i x26, .i x27, .i x28, .i x29, .i x30, .i x31, .i x32, .i x33, .i x34, .i x35, .i x36, .i x37, .i x38, .i x39, .i x40]) = (fun (rc : Int → Int → Int → Int → Int → Int → Int → Int → Int → Int → Int → Int → Int → Int → Int → Int → Int → Int → Int → Int → Int → Int → Int → Int → Int → Int → Int → Int → Int → Int → Int → Int → Int → Int → Int → Int → Int → Int → Int → Int → Int → R) (ex0 : Int → Int → Int → Int → Int → Int → Int → Int → Int → Int → Int → Int → Int → Int → Int → Int → Int → Int → Int → Int → Int → Int → Int → Int → Int → Int → Int → Int → Int → Int → Int → Int → Int → Int → Int → Int → Int → Int → Int → Int → Int → R) (x0 : Int) (x1 : Int) (x2 : Int) (x3 : Int) (x4 : Int) (x5 : Int) (x6 : Int) (x7 : Int) (x8 : Int) (x9 : Int) (x10 : Int) (x11 : Int) (x12 : Int) (x13 : Int) (x14 : Int) (x15 : Int) (x16 : Int) (x17 : Int) (x18 : Int) (x19 : Int) (x20 : Int) (x21 : Int) (x22 : Int) (x23 : Int) (x24 : Int) (x25 : Int) (x26 : Int) (x27 : Int) (x28 : Int) (x29 : Int) (x30 : Int) (x31 : Int) (x32 : Int) (x33 : Int) (x34 : Int) (x35 : Int) (x36 : Int) (x37 : Int) (x38 : Int) (x39 : Int) (x40 : Int) => (
  bif ((decide (x38 < x37))) then (
    rc x0 x1 x2 x3 ((IntKind.wrap .i64 (0 - x5))) x4 x6 x7 x8 x9 x10 x11 x12 x13 x14 x15 x16 x17 x18 x19 x20 x21 x22 x23 x24 x25 x26 x27 x28 x29 x30 x31 x32 x33 x34 x35 x36 x37 ((IntKind.wrap .u32 (x38 + 1))) x39 x40)
  else (
    ex0 x0 x1 x2 x3 x4 x5 x6 x7 x8 x9 x10 x11 x12 x13 x14 x15 x16 x17 x18 x19 x20 x21 x22 x23 x24 x25 x26 x27 x28 x29 x30 x31 x32 x33 x34 x35 x36 x37 x38 x39 x40) : R)) (fun (y0 : Int) (y1 : Int) (y2 : Int) (y3 : Int) (y4 : Int) (y5 : Int) (y6 : Int) (y7 : Int) (y8 : Int) (y9 : Int) (y10 : Int) (y11 : Int) (y12 : Int) (y13 : Int) (y14 : Int) (y15 : Int) (y16 : Int) (y17 : Int) (y18 : Int) (y19 : Int) (y20 : Int) (y21 : Int) (y22 : Int) (y23 : Int) (y24 : Int) (y25 : Int) (y26 : Int) (y27 : Int) (y28 : Int) (y29 : Int) (y30 : Int) (y31 : Int) (y32 : Int) (y33 : Int) (y34 : Int) (y35 : Int) (y36 : Int) (y37 : Int) (y38 : Int) (y39 : Int) (y40 : Int) => iterC (codeL PP (words [(76, spec ti_turn_angles to_turn_angles (fun q => (ok_turn_angles F )) (fun q => [.i (o_turn_angles_0 F ), .i (o_turn_angles_1 F ), .i (o_turn_angles_2 F ), .i (o_turn_angles_3 F ), .i (o_turn_angles_4 F ), .i (o_turn_angles_5 F ), .i (o_turn_angles_6 F ), .i (o_turn_angles_7 F ), .i (o_turn_angles_8 F ), .i (o_turn_angles_9 F ), .i (o_turn_angles_10 F ), .i (o_turn_angles_11 F ), .i (o_turn_angles_12 F ), .i (o_turn_angles_13 F ), .i (o_turn_angles_14 F ), .i (o_turn_angles_15 F ), .i (o_turn_angles_16 F ), .i (o_turn_angles_17 F ), .i (o_turn_angles_18 F ), .i (o_turn_angles_19 F ), .i (o_turn_angles_20 F ), .i (o_turn_angles_21 F ), .i (o_turn_angles_22 F ), .i (o_turn_angles_23 F ), .i (o_turn_angles_24 F ), .i (o_turn_angles_25 F ), .i (o_turn_angles_26 F ), .i (o_turn_angles_27 F ), .i (o_turn_angles_28 F ), .i (o_turn_angles_29 F )])), (77, spec ti_turn_pair_turned to_turn_pair_turned (fun q => (ok_turn_pair_turned F (atI (nth q 0)) (atI (nth q 1)) (atI (nth q 2)) (atB (nth q 3)))) (fun q => [.i (o_turn_pair_turned_0 F (atI (nth q 0)) (atI (nth q 1)) (atI (nth q 2)) (atB (nth q 3))), .i (o_turn_pair_turned_1 F (atI (nth q 0)) (atI (nth q 1)) (atI (nth q 2)) (atB (nth q 3)))])), (78, spec ti_turn_unit to_turn_unit (fun q => (ok_turn_unit F (atI (nth q 0)))) (fun q => [.i (o_turn_unit_0 F (atI (nth q 0)))]))]) c_turn_Both (tabI c_turn_Both [⟨0, T_turn_Both_0, fun k q => L_turn_Both_0 F (fun (z0 : Int) (z1 : Int) (z2 : Int) (z3 : Int) (z4 : Int) (z5 : Int) (z6 : Int) (z7 : Int) (z8 : Int) (z9 : Int) (z10 : Int) (z11 : Int) (z12 : Int) (z13 : Int) (z14 : Int) (z15 : Int) (z16 : Int) (z17 : Int) (z18 : Int) (z19 : Int) (z20 : Int) (z21 : Int) (z22 : Int) (z23 : Int) (z24 : Int) (z25 : Int) (z26 : Int) (z27 : Int) (z28 : Int) (z29 : Int) (z30 : Int) (z31 : Int) (z32 : Int) (z33 : Int) (z34 : Int) (z35 : Int) (z36 : Int) => k (.exit 0) (fS T_turn_Both_0_0 [.i z0, .i z1, .i z2, .i z3, .i z4, .i z5, .i z6, .i z7, .i z8, .i z9, .i z10, .i z11, .i z12, .i z13, .i z14, .i z15, .i z16, .i z17, .i z18, .i z19, .i z20, .i z21, .i z22, .i z23, .i z24, .i z25, .i z26, .i z27, .i z28, .i z29, .i z30, .i z31, .i z32, .i z33, .i z34, .i z35, .i z36])) F (atI (nth q 0)) (atI (nth q 1)) (atI (nth q 2)) (atI (nth q 3)) (atI (nth q 4)) (atI (nth q 5)) (atI (nth q 6)) (atI (nth q 7)) (atI (nth q 8)) (atI (nth q 9)) (atI (nth q 10)) (atI (nth q 11)) (atI (nth q 12)) (atI (nth q 13)) (atI (nth q 14)) (atI (nth q 15)) (atI (nth q 16)) (atI (nth q 17)) (atI (nth q 18)) (atI (nth q 19)) (atI (nth q 20)) (atI (nth q 21)) (atI (nth q 22)) (atI (nth q 23)) (atI (nth q 24)) (atI (nth q 25)) (atI (nth q 26)) (atI (nth q 27)) (atI (nth q 28)) (atI (nth q 29)) (atI (nth q 30)) (atI (nth q 31)) (atI (nth q 32)) (atI (nth q 33)) (atI (nth q 34)) (atI (nth q 35)) (atI (nth q 36))⟩, ⟨2, T_turn_Both_1, fun k q => L_turn_Both_1 F (fun (z0 : Int) (z1 : Int) (z2 : Int) (z3 : Int) (z4 : Int) (z5 : Int) (z6 : Int) (z7 : Int) (z8 : Int) (z9 : Int) (z10 : Int) (z11 : Int) (z12 : Int) (z13 : Int) (z14 : Int) (z15 : Int) (z16 : Int) (z17 : Int) (z18 : Int) (z19 : Int) (z20 : Int) (z21 : Int) (z22 : Int) (z23 : Int) (z24 : Int) (z25 : Int) (z26 : Int) (z27 : Int) (z28 : Int) (z29 : Int) (z30 : Int) (z31 : Int) (z32 : Int) (z33 : Int) (z34 : Int) (z35 : Int) (z36 : Int) (z37 : Int) (z38 : Int) (z39 : Int) (z40 : Int) => k (.exit 2) (fS T_turn_Both_1_0 [.i z0, .i z1, .i z2, .i z3, .i z4, .i z5, .i z6, .i z7, .i z8, .i z9, .i z10, .i z11, .i z12, .i z13, .i z14, .i z15, .i z16, .i z17, .i z18, .i z19, .i z20, .i z21, .i z22, .i z23, .i z24, .i z25, .i z26, .i z27, .i z28, .i z29, .i z30, .i z31, .i z32, .i z33, .i z34, .i z35, .i z36, .i z37, .i z38, .i z39, .i z40])) F (atI (nth q 0)) (atI (nth q 1)) (atI (nth q 2)) (atI (nth q 3)) (atI (nth q 4)) (atI (nth q 5)) (atI (nth q 6)) (atI (nth q 7)) (atI (nth q 8)) (atI (nth q 9)) (atI (nth q 10)) (atI (nth q 11)) (atI (nth q 12)) (atI (nth q 13)) (atI (nth q 14)) (atI (nth q 15)) (atI (nth q 16)) (atI (nth q 17)) (atI (nth q 18)) (atI (nth q 19)) (atI (nth q 20)) (atI (nth q 21)) (atI (nth q 22)) (atI (nth q 23)) (atI (nth q 24)) (atI (nth q 25)) (atI (nth q 26)) (atI (nth q 27)) (atI (nth q 28)) (atI (nth q 29)) (atI (nth q 30)) (atI (nth q 31)) (atI (nth q 32)) (atI (nth q 33)) (atI (nth q 34)) (atI (nth q 35)) (atI (nth q 36)) (atI (nth q 37)) (atI (nth q 38)) (atI (nth q 39)) (atI (nth q 40))⟩]) (tabJ []) (loopAt PP 25 1) 2) (headOf c_turn_Both 2) k n (fS T_turn_Both_1 [.i y0, .i y1, .i y2, .i y3, .i y4, .i y5, .i y6, .i y7, .i y8, .i y9, .i y10, .i y11, .i y12, .i y13, .i y14, .i y15, .i y16, .i y17, .i y18, .i y19, .i y20, .i y21, .i y22, .i y23, .i y24, .i y25, .i y26, .i y27, .i y28, .i y29, .i y30, .i y31, .i y32, .i y33, .i y34, .i y35, .i y36, .i y37, .i y38, .i y39, .i y40])) (fun (z0 : Int) (z1 : Int) (z2 : Int) (z3 : Int) (z4 : Int) (z5 : Int) (z6 : Int) (z7 : Int) (z8 : Int) (z9 : Int) (z10 : Int) (z11 : Int) (z12 : Int) (z13 : Int) (z14 : Int) (z15 : Int) (z16 : Int) (z17 : Int) (z18 : Int) (z19 : Int) (z20 : Int) (z21 : Int) (z22 : Int) (z23 : Int) (z24 : Int) (z25 : Int) (z26 : Int) (z27 : Int) (z28 : Int) (z29 : Int) (z30 : Int) (z31 : Int) (z32 : Int) (z33 : Int) (z34 : Int) (z35 : Int) (z36 : Int) (z37 : Int) (z38 : Int) (z39 : Int) (z40 : Int) => k (.exit 2) (fS T_turn_Both_1_0 [.i z0, .i z1, .i z2, .i z3, .i z4, .i z5, .i z6, .i z7, .i z8, .i z9, .i z10, .i z11, .i z12, .i z13, .i z14, .i z15, .i z16, .i z17, .i z18, .i z19, .i z20, .i z21, .i z22, .i z23, .i z24, .i z25, .i z26, .i z27, .i z28, .i z29, .i z30, .i z31, .i z32, .i z33, .i z34, .i z35, .i z36, .i z37, .i z38, .i z39, .i z40])) x0 x1 x2 x3 x4 x5 x6 x7 x8 x9 x10 x11 x12 x13 x14 x15 x16 x17 x18 x19 x20 x21 x22 x23 x24 x25 x26 x27 x28 x29 x30 x31 x32 x33 x34 x35 x36 x37 x38 x39 x40 := by
      intros
      kernel_rfl
    have h : iterC (codeL PP (S_turn_Both F) c_turn_Both (I_turn_Both F) (J_turn_Both F) (loopAt PP 25 1) 2) (headOf c_turn_Both 2) k (n + 1) (fS T_turn_Both_1 [.i x0, .i x1, .i x2, .i x3, .i x4, .i x5, .i x6, .i x7, .i x8, .i x9, .i x10, .i x11, .i x12, .i x13, .i x14, .i x15, .i x16, .i x17, .i x18, .i x19, .i x20, .i x21, .i x22, .i x23, .i x24, .i x25, .i x26, .i x27, .i x28, .i x29, .i x30, .i x31, .i x32, .i x33, .i x34, .i x35, .i x36, .i x37, .i x38, .i x39, .i x40]) = B_turn_Both_1 F (fun (y0 : Int) (y1 : Int) (y2 : Int) (y3 : Int) (y4 : Int) (y5 : Int) (y6 : Int) (y7 : Int) (y8 : Int) (y9 : Int) (y10 : Int) (y11 : Int) (y12 : Int) (y13 : Int) (y14 : Int) (y15 : Int) (y16 : Int) (y17 : Int) (y18 : Int) (y19 : Int) (y20 : Int) (y21 : Int) (y22 : Int) (y23 : Int) (y24 : Int) (y25 : Int) (y26 : Int) (y27 : Int) (y28 : Int) (y29 : Int) (y30 : Int) (y31 : Int) (y32 : Int) (y33 : Int) (y34 : Int) (y35 : Int) (y36 : Int) (y37 : Int) (y38 : Int) (y39 : Int) (y40 : Int) => iterC (codeL PP (S_turn_Both F) c_turn_Both (I_turn_Both F) (J_turn_Both F) (loopAt PP 25 1) 2) (headOf c_turn_Both 2) k n (fS T_turn_Both_1 [.i y0, .i y1, .i y2, .i y3, .i y4, .i y5, .i y6, .i y7, .i y8, .i y9, .i y10, .i y11, .i y12, .i y13, .i y14, .i y15, .i y16, .i y17, .i y18, .i y19, .i y20, .i y21, .i y22, .i y23, .i y24, .i y25, .i y26, .i y27, .i y28, .i y29, .i y30, .i y31, .i y32, .i y33, .i y34, .i y35, .i y36, .i y37, .i y38, .i y39, .i y40])) (fun (z0 : Int) (z1 : Int) (z2 : Int) (z3 : Int) (z4 : Int) (z5 : Int) (z6 : Int) (z7 : Int) (z8 : Int) (z9 : Int) (z10 : Int) (z11 : Int) (z12 : Int) (z13 : Int) (z14 : Int) (z15 : Int) (z16 : Int) (z17 : Int) (z18 : Int) (z19 : Int) (z20 : Int) (z21 : Int) (z22 : Int) (z23 : Int) (z24 : Int) (z25 : Int) (z26 : Int) (z27 : Int) (z28 : Int) (z29 : Int) (z30 : Int) (z31 : Int) (z32 : Int) (z33 : Int) (z34 : Int) (z35 : Int) (z36 : Int) (z37 : Int) (z38 : Int) (z39 : Int) (z40 : Int) => k (.exit 2) (fS T_turn_Both_1_0 [.i z0, .i z1, .i z2, .i z3, .i z4, .i z5, .i z6, .i z7, .i z8, .i z9, .i z10, .i z11, .i z12, .i z13, .i z14, .i z15, .i z16, .i z17, .i z18, .i z19, .i z20, .i z21, .i z22, .i z23, .i z24, .i z25, .i z26, .i z27, .i z28, .i z29, .i z30, .i z31, .i z32, .i z33, .i z34, .i z35, .i z36, .i z37, .i z38, .i z39, .i z40])) x0 x1 x2 x3 x4 x5 x6 x7 x8 x9 x10 x11 x12 x13 x14 x15 x16 x17 x18 x19 x20 x21 x22 x23 x24 x25 x26 x27 x28 x29 x30 x31 x32 x33 x34 x35 x36 x37 x38 x39 x40 := (h0 ok_turn_angles o_turn_angles_0 o_turn_angles_1 o_turn_angles_2 o_turn_angles_3 o_turn_angles_4 o_turn_angles_5 o_turn_angles_6 o_turn_angles_7 o_turn_angles_8 o_turn_angles_9 o_turn_angles_10 o_turn_angles_11 o_turn_angles_12 o_turn_angles_13 o_turn_angles_14 o_turn_angles_15 o_turn_angles_16 o_turn_angles_17 o_turn_angles_18 o_turn_angles_19 o_turn_angles_20 o_turn_angles_21 o_turn_angles_22 o_turn_angles_23 o_turn_angles_24 o_turn_angles_25 o_turn_angles_26 o_turn_angles_27 o_turn_angles_28 o_turn_angles_29 ok_turn_pair_turned o_turn_pair_turned_0 o_turn_pair_turned_1 ok_turn_unit o_turn_unit_0 L_turn_Both_0 L_turn_Both_1).trans (by kernel_rfl)
    rw [h]
    simp only [lL_turn_Both_1 F k n]
    rfl
def f_turn_Both (F : Nat) (a0 : Int) : R :=
  bif (ok_turn_angles F) then (
    L_turn_Both_0 F (fun (v85 : Int) (v86 : Int) (v87 : Int) (v88 : Int) (v89 : Int) (v90 : Int) (v91 : Int) (v92 : Int) (v93 : Int) (v94 : Int) (v95 : Int) (v96 : Int) (v97 : Int) (v98 : Int) (v99 : Int) (v100 : Int) (v101 : Int) (v102 : Int) (v103 : Int) (v104 : Int) (v105 : Int) (v106 : Int) (v107 : Int) (v108 : Int) (v109 : Int) (v110 : Int) (v111 : Int) (v112 : Int) (v113 : Int) (v114 : Int) (v115 : Int) (v116 : Int) (v117 : Int) (v118 : Int) (v119 : Int) (v120 : Int) (v121 : Int) =>
      bif (ok_turn_unit F v120) then (
        bif (ok_turn_unit F v121) then (
          L_turn_Both_1 F (fun (v175 : Int) (v176 : Int) (v177 : Int) (v178 : Int) (v179 : Int) (v180 : Int) (v181 : Int) (v182 : Int) (v183 : Int) (v184 : Int) (v185 : Int) (v186 : Int) (v187 : Int) (v188 : Int) (v189 : Int) (v190 : Int) (v191 : Int) (v192 : Int) (v193 : Int) (v194 : Int) (v195 : Int) (v196 : Int) (v197 : Int) (v198 : Int) (v199 : Int) (v200 : Int) (v201 : Int) (v202 : Int) (v203 : Int) (v204 : Int) (v205 : Int) (v206 : Int) (v207 : Int) (v208 : Int) (v209 : Int) (v210 : Int) (v211 : Int) (v212 : Int) (v213 : Int) (v214 : Int) (v215 : Int) =>
            some (.v (.tuple #[.int .i64 v179, .int .i64 v180]))) F v85 v86 v87 v88 ((o_turn_unit_0 F v120)) ((o_turn_unit_0 F v121)) v89 v90 v91 v92 v93 v94 v95 v96 v97 v98 v99 v100 v101 v102 v103 v104 v105 v106 v107 v108 v109 v110 v111 v112 v113 v114 v115 v116 v117 v118 v119 ((Int.fdiv v85 (1073741824))) 0 v120 v121)
        else (
          none))
      else (
        none)) F a0 0 0 ((IntKind.wrap .i64 ((andI .u32 a0 1073741823)))) ((o_turn_angles_0 F)) ((o_turn_angles_1 F)) ((o_turn_angles_2 F)) ((o_turn_angles_3 F)) ((o_turn_angles_4 F)) ((o_turn_angles_5 F)) ((o_turn_angles_6 F)) ((o_turn_angles_7 F)) ((o_turn_angles_8 F)) ((o_turn_angles_9 F)) ((o_turn_angles_10 F)) ((o_turn_angles_11 F)) ((o_turn_angles_12 F)) ((o_turn_angles_13 F)) ((o_turn_angles_14 F)) ((o_turn_angles_15 F)) ((o_turn_angles_16 F)) ((o_turn_angles_17 F)) ((o_turn_angles_18 F)) ((o_turn_angles_19 F)) ((o_turn_angles_20 F)) ((o_turn_angles_21 F)) ((o_turn_angles_22 F)) ((o_turn_angles_23 F)) ((o_turn_angles_24 F)) ((o_turn_angles_25 F)) ((o_turn_angles_26 F)) ((o_turn_angles_27 F)) ((o_turn_angles_28 F)) ((o_turn_angles_29 F)) 0 2608131496 0)
  else (
    none)
theorem e_turn_Both (F : Nat) (a0 : Int) : funL PP (S_turn_Both F) c_turn_Both (I_turn_Both F) (J_turn_Both F) 25 (fTs ti_turn_Both [.i a0]).1 = f_turn_Both F a0 := by
  have h : ∀ (ok_turn_angles : Nat → Bool) (o_turn_angles_0 : Nat → Int) (o_turn_angles_1 : Nat → Int) (o_turn_angles_2 : Nat → Int) (o_turn_angles_3 : Nat → Int) (o_turn_angles_4 : Nat → Int) (o_turn_angles_5 : Nat → Int) (o_turn_angles_6 : Nat → Int) (o_turn_angles_7 : Nat → Int) (o_turn_angles_8 : Nat → Int) (o_turn_angles_9 : Nat → Int) (o_turn_angles_10 : Nat → Int) (o_turn_angles_11 : Nat → Int) (o_turn_angles_12 : Nat → Int) (o_turn_angles_13 : Nat → Int) (o_turn_angles_14 : Nat → Int) (o_turn_angles_15 : Nat → Int) (o_turn_angles_16 : Nat → Int) (o_turn_angles_17 : Nat → Int) (o_turn_angles_18 : Nat → Int) (o_turn_angles_19 : Nat → Int) (o_turn_angles_20 : Nat → Int) (o_turn_angles_21 : Nat → Int) (o_turn_angles_22 : Nat → Int) (o_turn_angles_23 : Nat → Int) (o_turn_angles_24 : Nat → Int) (o_turn_angles_25 : Nat → Int) (o_turn_angles_26 : Nat → Int) (o_turn_angles_27 : Nat → Int) (o_turn_angles_28 : Nat → Int) (o_turn_angles_29 : Nat → Int) (ok_turn_pair_turned : Nat → Int → Int → Int → Bool → Bool) (o_turn_pair_turned_0 : Nat → Int → Int → Int → Bool → Int) (o_turn_pair_turned_1 : Nat → Int → Int → Int → Bool → Int) (ok_turn_unit : Nat → Int → Bool) (o_turn_unit_0 : Nat → Int → Int) (L_turn_Both_0 : Nat → (Int → Int → Int → Int → Int → Int → Int → Int → Int → Int → Int → Int → Int → Int → Int → Int → Int → Int → Int → Int → Int → Int → Int → Int → Int → Int → Int → Int → Int → Int → Int → Int → Int → Int → Int → Int → Int → R) → Nat → Int → Int → Int → Int → Int → Int → Int → Int → Int → Int → Int → Int → Int → Int → Int → Int → Int → Int → Int → Int → Int → Int → Int → Int → Int → Int → Int → Int → Int → Int → Int → Int → Int → Int → Int → Int → Int → R) (L_turn_Both_1 : Nat → (Int → Int → Int → Int → Int → Int → Int → Int → Int → Int → Int → Int → Int → Int → Int → Int → Int → Int → Int → Int → Int → Int → Int → Int → Int → Int → Int → Int → Int → Int → Int → Int → Int → Int → Int → Int → Int → Int → Int → Int → Int → R) → Nat → Int → Int → Int → Int → Int → Int → Int → Int → Int → Int → Int → Int → Int → Int → Int → Int → Int → Int → Int → Int → Int → Int → Int → Int → Int → Int → Int → Int → Int → Int → Int → Int → Int → Int → Int → Int → Int → Int → Int → Int → Int → R), funL PP (words [(76, spec ti_turn_angles to_turn_angles (fun q => (ok_turn_angles F )) (fun q => [.i (o_turn_angles_0 F ), .i (o_turn_angles_1 F ), .i (o_turn_angles_2 F ), .i (o_turn_angles_3 F ), .i (o_turn_angles_4 F ), .i (o_turn_angles_5 F ), .i (o_turn_angles_6 F ), .i (o_turn_angles_7 F ), .i (o_turn_angles_8 F ), .i (o_turn_angles_9 F ), .i (o_turn_angles_10 F ), .i (o_turn_angles_11 F ), .i (o_turn_angles_12 F ), .i (o_turn_angles_13 F ), .i (o_turn_angles_14 F ), .i (o_turn_angles_15 F ), .i (o_turn_angles_16 F ), .i (o_turn_angles_17 F ), .i (o_turn_angles_18 F ), .i (o_turn_angles_19 F ), .i (o_turn_angles_20 F ), .i (o_turn_angles_21 F ), .i (o_turn_angles_22 F ), .i (o_turn_angles_23 F ), .i (o_turn_angles_24 F ), .i (o_turn_angles_25 F ), .i (o_turn_angles_26 F ), .i (o_turn_angles_27 F ), .i (o_turn_angles_28 F ), .i (o_turn_angles_29 F )])), (77, spec ti_turn_pair_turned to_turn_pair_turned (fun q => (ok_turn_pair_turned F (atI (nth q 0)) (atI (nth q 1)) (atI (nth q 2)) (atB (nth q 3)))) (fun q => [.i (o_turn_pair_turned_0 F (atI (nth q 0)) (atI (nth q 1)) (atI (nth q 2)) (atB (nth q 3))), .i (o_turn_pair_turned_1 F (atI (nth q 0)) (atI (nth q 1)) (atI (nth q 2)) (atB (nth q 3)))])), (78, spec ti_turn_unit to_turn_unit (fun q => (ok_turn_unit F (atI (nth q 0)))) (fun q => [.i (o_turn_unit_0 F (atI (nth q 0)))]))]) c_turn_Both (tabI c_turn_Both [⟨0, T_turn_Both_0, fun k q => L_turn_Both_0 F (fun (z0 : Int) (z1 : Int) (z2 : Int) (z3 : Int) (z4 : Int) (z5 : Int) (z6 : Int) (z7 : Int) (z8 : Int) (z9 : Int) (z10 : Int) (z11 : Int) (z12 : Int) (z13 : Int) (z14 : Int) (z15 : Int) (z16 : Int) (z17 : Int) (z18 : Int) (z19 : Int) (z20 : Int) (z21 : Int) (z22 : Int) (z23 : Int) (z24 : Int) (z25 : Int) (z26 : Int) (z27 : Int) (z28 : Int) (z29 : Int) (z30 : Int) (z31 : Int) (z32 : Int) (z33 : Int) (z34 : Int) (z35 : Int) (z36 : Int) => k (.exit 0) (fS T_turn_Both_0_0 [.i z0, .i z1, .i z2, .i z3, .i z4, .i z5, .i z6, .i z7, .i z8, .i z9, .i z10, .i z11, .i z12, .i z13, .i z14, .i z15, .i z16, .i z17, .i z18, .i z19, .i z20, .i z21, .i z22, .i z23, .i z24, .i z25, .i z26, .i z27, .i z28, .i z29, .i z30, .i z31, .i z32, .i z33, .i z34, .i z35, .i z36])) F (atI (nth q 0)) (atI (nth q 1)) (atI (nth q 2)) (atI (nth q 3)) (atI (nth q 4)) (atI (nth q 5)) (atI (nth q 6)) (atI (nth q 7)) (atI (nth q 8)) (atI (nth q 9)) (atI (nth q 10)) (atI (nth q 11)) (atI (nth q 12)) (atI (nth q 13)) (atI (nth q 14)) (atI (nth q 15)) (atI (nth q 16)) (atI (nth q 17)) (atI (nth q 18)) (atI (nth q 19)) (atI (nth q 20)) (atI (nth q 21)) (atI (nth q 22)) (atI (nth q 23)) (atI (nth q 24)) (atI (nth q 25)) (atI (nth q 26)) (atI (nth q 27)) (atI (nth q 28)) (atI (nth q 29)) (atI (nth q 30)) (atI (nth q 31)) (atI (nth q 32)) (atI (nth q 33)) (atI (nth q 34)) (atI (nth q 35)) (atI (nth q 36))⟩, ⟨2, T_turn_Both_1, fun k q => L_turn_Both_1 F (fun (z0 : Int) (z1 : Int) (z2 : Int) (z3 : Int) (z4 : Int) (z5 : Int) (z6 : Int) (z7 : Int) (z8 : Int) (z9 : Int) (z10 : Int) (z11 : Int) (z12 : Int) (z13 : Int) (z14 : Int) (z15 : Int) (z16 : Int) (z17 : Int) (z18 : Int) (z19 : Int) (z20 : Int) (z21 : Int) (z22 : Int) (z23 : Int) (z24 : Int) (z25 : Int) (z26 : Int) (z27 : Int) (z28 : Int) (z29 : Int) (z30 : Int) (z31 : Int) (z32 : Int) (z33 : Int) (z34 : Int) (z35 : Int) (z36 : Int) (z37 : Int) (z38 : Int) (z39 : Int) (z40 : Int) => k (.exit 2) (fS T_turn_Both_1_0 [.i z0, .i z1, .i z2, .i z3, .i z4, .i z5, .i z6, .i z7, .i z8, .i z9, .i z10, .i z11, .i z12, .i z13, .i z14, .i z15, .i z16, .i z17, .i z18, .i z19, .i z20, .i z21, .i z22, .i z23, .i z24, .i z25, .i z26, .i z27, .i z28, .i z29, .i z30, .i z31, .i z32, .i z33, .i z34, .i z35, .i z36, .i z37, .i z38, .i z39, .i z40])) F (atI (nth q 0)) (atI (nth q 1)) (atI (nth q 2)) (atI (nth q 3)) (atI (nth q 4)) (atI (nth q 5)) (atI (nth q 6)) (atI (nth q 7)) (atI (nth q 8)) (atI (nth q 9)) (atI (nth q 10)) (atI (nth q 11)) (atI (nth q 12)) (atI (nth q 13)) (atI (nth q 14)) (atI (nth q 15)) (atI (nth q 16)) (atI (nth q 17)) (atI (nth q 18)) (atI (nth q 19)) (atI (nth q 20)) (atI (nth q 21)) (atI (nth q 22)) (atI (nth q 23)) (atI (nth q 24)) (atI (nth q 25)) (atI (nth q 26)) (atI (nth q 27)) (atI (nth q 28)) (atI (nth q 29)) (atI (nth q 30)) (atI (nth q 31)) (atI (nth q 32)) (atI (nth q 33)) (atI (nth q 34)) (atI (nth q 35)) (atI (nth q 36)) (atI (nth q 37)) (atI (nth q 38)) (atI (nth q 39)) (atI (nth q 40))⟩]) (tabJ []) 25 (fTs ti_turn_Both [.i a0]).1 = (
  bif (ok_turn_angles F) then (
    L_turn_Both_0 F (fun (v85 : Int) (v86 : Int) (v87 : Int) (v88 : Int) (v89 : Int) (v90 : Int) (v91 : Int) (v92 : Int) (v93 : Int) (v94 : Int) (v95 : Int) (v96 : Int) (v97 : Int) (v98 : Int) (v99 : Int) (v100 : Int) (v101 : Int) (v102 : Int) (v103 : Int) (v104 : Int) (v105 : Int) (v106 : Int) (v107 : Int) (v108 : Int) (v109 : Int) (v110 : Int) (v111 : Int) (v112 : Int) (v113 : Int) (v114 : Int) (v115 : Int) (v116 : Int) (v117 : Int) (v118 : Int) (v119 : Int) (v120 : Int) (v121 : Int) =>
      bif (ok_turn_unit F v120) then (
        bif (ok_turn_unit F v121) then (
          L_turn_Both_1 F (fun (v175 : Int) (v176 : Int) (v177 : Int) (v178 : Int) (v179 : Int) (v180 : Int) (v181 : Int) (v182 : Int) (v183 : Int) (v184 : Int) (v185 : Int) (v186 : Int) (v187 : Int) (v188 : Int) (v189 : Int) (v190 : Int) (v191 : Int) (v192 : Int) (v193 : Int) (v194 : Int) (v195 : Int) (v196 : Int) (v197 : Int) (v198 : Int) (v199 : Int) (v200 : Int) (v201 : Int) (v202 : Int) (v203 : Int) (v204 : Int) (v205 : Int) (v206 : Int) (v207 : Int) (v208 : Int) (v209 : Int) (v210 : Int) (v211 : Int) (v212 : Int) (v213 : Int) (v214 : Int) (v215 : Int) =>
            some (.v (.tuple #[.int .i64 v179, .int .i64 v180]))) F v85 v86 v87 v88 ((o_turn_unit_0 F v120)) ((o_turn_unit_0 F v121)) v89 v90 v91 v92 v93 v94 v95 v96 v97 v98 v99 v100 v101 v102 v103 v104 v105 v106 v107 v108 v109 v110 v111 v112 v113 v114 v115 v116 v117 v118 v119 ((Int.fdiv v85 (1073741824))) 0 v120 v121)
        else (
          none))
      else (
        none)) F a0 0 0 ((IntKind.wrap .i64 ((andI .u32 a0 1073741823)))) ((o_turn_angles_0 F)) ((o_turn_angles_1 F)) ((o_turn_angles_2 F)) ((o_turn_angles_3 F)) ((o_turn_angles_4 F)) ((o_turn_angles_5 F)) ((o_turn_angles_6 F)) ((o_turn_angles_7 F)) ((o_turn_angles_8 F)) ((o_turn_angles_9 F)) ((o_turn_angles_10 F)) ((o_turn_angles_11 F)) ((o_turn_angles_12 F)) ((o_turn_angles_13 F)) ((o_turn_angles_14 F)) ((o_turn_angles_15 F)) ((o_turn_angles_16 F)) ((o_turn_angles_17 F)) ((o_turn_angles_18 F)) ((o_turn_angles_19 F)) ((o_turn_angles_20 F)) ((o_turn_angles_21 F)) ((o_turn_angles_22 F)) ((o_turn_angles_23 F)) ((o_turn_angles_24 F)) ((o_turn_angles_25 F)) ((o_turn_angles_26 F)) ((o_turn_angles_27 F)) ((o_turn_angles_28 F)) ((o_turn_angles_29 F)) 0 2608131496 0)
  else (
    none) : R) := by
    intros
    kernel_rfl
  exact (h ok_turn_angles o_turn_angles_0 o_turn_angles_1 o_turn_angles_2 o_turn_angles_3 o_turn_angles_4 o_turn_angles_5 o_turn_angles_6 o_turn_angles_7 o_turn_angles_8 o_turn_angles_9 o_turn_angles_10 o_turn_angles_11 o_turn_angles_12 o_turn_angles_13 o_turn_angles_14 o_turn_angles_15 o_turn_angles_16 o_turn_angles_17 o_turn_angles_18 o_turn_angles_19 o_turn_angles_20 o_turn_angles_21 o_turn_angles_22 o_turn_angles_23 o_turn_angles_24 o_turn_angles_25 o_turn_angles_26 o_turn_angles_27 o_turn_angles_28 o_turn_angles_29 ok_turn_pair_turned o_turn_pair_turned_0 o_turn_pair_turned_1 ok_turn_unit o_turn_unit_0 L_turn_Both_0 L_turn_Both_1).trans (by kernel_rfl)
def ok_turn_Both (F : Nat) (a0 : Int) : Bool := okT to_turn_Both (f_turn_Both F a0)
def o_turn_Both_0 (F : Nat) (a0 : Int) : Int := atI (nth (outT to_turn_Both (f_turn_Both F a0)) 0)
def o_turn_Both_1 (F : Nat) (a0 : Int) : Int := atI (nth (outT to_turn_Both (f_turn_Both F a0)) 1)
theorem k_turn_Both (F : Nat) (a0 : Int) {z0 : Int} {z1 : Int} (h : f_turn_Both F a0 = some (.v (.tuple #[.int .i64 z0, .int .i64 z1]))) : ok_turn_Both F a0 = true ∧ o_turn_Both_0 F a0 = z0 ∧ o_turn_Both_1 F a0 = z1 := by
  refine ⟨?_, ?_, ?_⟩
  · unfold ok_turn_Both; rw [h]; kernel_rfl
  · unfold o_turn_Both_0; rw [h]; kernel_rfl
  · unfold o_turn_Both_1; rw [h]; kernel_rfl
def s_turn_Both (F : Nat) : List VV → Option (Bool × VV) := spec ti_turn_Both to_turn_Both (fun q => (ok_turn_Both F (atI (nth q 0)))) (fun q => [.i (o_turn_Both_0 F (atI (nth q 0))), .i (o_turn_Both_1 F (atI (nth q 0)))])
theorem hS_turn_Both (F : Nat) : ∀ f, Good PP f (unS (S_turn_Both F f)) := words_good fun p hp => by
  simp only [List.mem_cons, List.not_mem_nil, or_false] at hp
  rcases hp with rfl | rfl | rfl
  · exact g_turn_angles F
  · exact g_turn_pair_turned F
  · exact g_turn_unit F
theorem hl_turn_Both (F : Nat) : ∀ p ∈ loopsIn PP 25, LoopOK PP (S_turn_Both F) c_turn_Both F (I_turn_Both F) (J_turn_Both F) p :=
  loops_of [(0, loopAt PP 25 0), (2, loopAt PP 25 1)] (by kernel_rfl) (all_cons
    (loop_ok (W_turn_Both F) rfl (tab_cons (fun _ k q => Le.ofEq ((lL_turn_Both_0 F k F (atI (nth q 0)) (atI (nth q 1)) (atI (nth q 2)) (atI (nth q 3)) (atI (nth q 4)) (atI (nth q 5)) (atI (nth q 6)) (atI (nth q 7)) (atI (nth q 8)) (atI (nth q 9)) (atI (nth q 10)) (atI (nth q 11)) (atI (nth q 12)) (atI (nth q 13)) (atI (nth q 14)) (atI (nth q 15)) (atI (nth q 16)) (atI (nth q 17)) (atI (nth q 18)) (atI (nth q 19)) (atI (nth q 20)) (atI (nth q 21)) (atI (nth q 22)) (atI (nth q 23)) (atI (nth q 24)) (atI (nth q 25)) (atI (nth q 26)) (atI (nth q 27)) (atI (nth q 28)) (atI (nth q 29)) (atI (nth q 30)) (atI (nth q 31)) (atI (nth q 32)) (atI (nth q 33)) (atI (nth q 34)) (atI (nth q 35)) (atI (nth q 36))).symm.trans (congrArg (iterC (codeL PP (S_turn_Both F) c_turn_Both (I_turn_Both F) (J_turn_Both F) (loopAt PP 25 0) 0) (headOf c_turn_Both 0) k F) (show fS T_turn_Both_0 [.i (atI (nth q 0)), .i (atI (nth q 1)), .i (atI (nth q 2)), .i (atI (nth q 3)), .i (atI (nth q 4)), .i (atI (nth q 5)), .i (atI (nth q 6)), .i (atI (nth q 7)), .i (atI (nth q 8)), .i (atI (nth q 9)), .i (atI (nth q 10)), .i (atI (nth q 11)), .i (atI (nth q 12)), .i (atI (nth q 13)), .i (atI (nth q 14)), .i (atI (nth q 15)), .i (atI (nth q 16)), .i (atI (nth q 17)), .i (atI (nth q 18)), .i (atI (nth q 19)), .i (atI (nth q 20)), .i (atI (nth q 21)), .i (atI (nth q 22)), .i (atI (nth q 23)), .i (atI (nth q 24)), .i (atI (nth q 25)), .i (atI (nth q 26)), .i (atI (nth q 27)), .i (atI (nth q 28)), .i (atI (nth q 29)), .i (atI (nth q 30)), .i (atI (nth q 31)), .i (atI (nth q 32)), .i (atI (nth q 33)), .i (atI (nth q 34)), .i (atI (nth q 35)), .i (atI (nth q 36))] = fS T_turn_Both_0 q by kernel_rfl)))) (tab_cons (fun h => absurd h (by decide)) tab_nil))) (all_cons
    (loop_ok (W_turn_Both F) rfl (tab_cons (fun h => absurd h (by decide)) (tab_cons (fun _ k q => Le.ofEq ((lL_turn_Both_1 F k F (atI (nth q 0)) (atI (nth q 1)) (atI (nth q 2)) (atI (nth q 3)) (atI (nth q 4)) (atI (nth q 5)) (atI (nth q 6)) (atI (nth q 7)) (atI (nth q 8)) (atI (nth q 9)) (atI (nth q 10)) (atI (nth q 11)) (atI (nth q 12)) (atI (nth q 13)) (atI (nth q 14)) (atI (nth q 15)) (atI (nth q 16)) (atI (nth q 17)) (atI (nth q 18)) (atI (nth q 19)) (atI (nth q 20)) (atI (nth q 21)) (atI (nth q 22)) (atI (nth q 23)) (atI (nth q 24)) (atI (nth q 25)) (atI (nth q 26)) (atI (nth q 27)) (atI (nth q 28)) (atI (nth q 29)) (atI (nth q 30)) (atI (nth q 31)) (atI (nth q 32)) (atI (nth q 33)) (atI (nth q 34)) (atI (nth q 35)) (atI (nth q 36)) (atI (nth q 37)) (atI (nth q 38)) (atI (nth q 39)) (atI (nth q 40))).symm.trans (congrArg (iterC (codeL PP (S_turn_Both F) c_turn_Both (I_turn_Both F) (J_turn_Both F) (loopAt PP 25 1) 2) (headOf c_turn_Both 2) k F) (show fS T_turn_Both_1 [.i (atI (nth q 0)), .i (atI (nth q 1)), .i (atI (nth q 2)), .i (atI (nth q 3)), .i (atI (nth q 4)), .i (atI (nth q 5)), .i (atI (nth q 6)), .i (atI (nth q 7)), .i (atI (nth q 8)), .i (atI (nth q 9)), .i (atI (nth q 10)), .i (atI (nth q 11)), .i (atI (nth q 12)), .i (atI (nth q 13)), .i (atI (nth q 14)), .i (atI (nth q 15)), .i (atI (nth q 16)), .i (atI (nth q 17)), .i (atI (nth q 18)), .i (atI (nth q 19)), .i (atI (nth q 20)), .i (atI (nth q 21)), .i (atI (nth q 22)), .i (atI (nth q 23)), .i (atI (nth q 24)), .i (atI (nth q 25)), .i (atI (nth q 26)), .i (atI (nth q 27)), .i (atI (nth q 28)), .i (atI (nth q 29)), .i (atI (nth q 30)), .i (atI (nth q 31)), .i (atI (nth q 32)), .i (atI (nth q 33)), .i (atI (nth q 34)), .i (atI (nth q 35)), .i (atI (nth q 36)), .i (atI (nth q 37)), .i (atI (nth q 38)), .i (atI (nth q 39)), .i (atI (nth q 40))] = fS T_turn_Both_1 q by kernel_rfl)))) tab_nil))) all_nil))
theorem hj_turn_Both (F : Nat) : ∀ p ∈ joinsIn PP c_turn_Both 25, JoinOK PP (S_turn_Both F) c_turn_Both (I_turn_Both F) (J_turn_Both F) p :=
  joins_of [] (by kernel_rfl) all_nil
theorem g_turn_Both (F : Nat) : Good PP 25 (unS (s_turn_Both F)) :=
  fun_spec (hS_turn_Both F) (by kernel_rfl) (by kernel_rfl) (C := c_turn_Both) (F := fun q => (f_turn_Both F (atI (nth q 0)))) (fun _ => F) (fun _ => I_turn_Both F) (fun _ => J_turn_Both F) (fun _ => hl_turn_Both F) (fun _ => hj_turn_Both F)
    (fun q => (congrArg (funL PP (S_turn_Both F) c_turn_Both (I_turn_Both F) (J_turn_Both F) 25) (show (fTs ti_turn_Both q).1 = (fTs ti_turn_Both [.i (atI (nth q 0))]).1 by kernel_rfl)).trans (e_turn_Both F (atI (nth q 0))))
    (fun _ h => (okT_fill h).trans (congrArg some (by kernel_rfl)))

end Go.Xv
set_option linter.unusedVariables false
namespace Go.Xv
/- 79 _ref05_over -/
def c_ref05_over : Cfg := ⟨[0, 1, 4, 5, 6, 9, 17], [(0, [0, 1, 4, 5, 20])], [], []⟩
def ti_ref05_over : List TV := [.v (.int .i64), .v (.int .i64)]
def to_ref05_over : TV := .v (.int .i64)
def S_ref05_over (F : Nat) : FuncId → List VV → Option (Bool × VV) := words []
def T_ref05_over_0 : TS := ⟨[(0, .v (.int .i64)), (1, .v (.int .i64)), (4, .v (.int .i64)), (5, .v (.int .i64))], [], 0⟩
def T_ref05_over_0_0 : TS := ⟨[(0, .v (.int .i64)), (1, .v (.int .i64)), (4, .v (.int .i64)), (5, .v (.int .i64))], [], 0⟩
def B_ref05_over_0 (F : Nat) (rc : Int → Int → Int → Int → R) (ex0 : Int → Int → Int → Int → R) (x0 : Int) (x1 : Int) (x2 : Int) (x3 : Int) : R :=
  bif ((decide (x3 < x1))) then (
    let v236 : Int := (IntKind.wrap .i64 (Int.tdiv x0 2))
    bif ((decide (((Int.tmod x0 2)) < 0))) then (
      rc ((IntKind.wrap .i64 (v236 - 1))) x1 x2 ((IntKind.wrap .i64 (x3 + 1))))
    else (
      rc v236 x1 x2 ((IntKind.wrap .i64 (x3 + 1)))))
  else (
    ex0 x0 x1 x2 x3)
def L_ref05_over_0 (F : Nat) (ex0 : Int → Int → Int → Int → R) : Nat → Int → Int → Int → Int → R
  | 0, _, _, _, _ => none
  | n + 1, x0, x1, x2, x3 => B_ref05_over_0 F (L_ref05_over_0 F ex0 n) ex0 x0 x1 x2 x3
def W_ref05_over (F : Nat) : List LW := [⟨0, T_ref05_over_0, fun k q => L_ref05_over_0 F (fun (z0 : Int) (z1 : Int) (z2 : Int) (z3 : Int) => k (.exit 0) (fS T_ref05_over_0_0 [.i z0, .i z1, .i z2, .i z3])) F (atI (nth q 0)) (atI (nth q 1)) (atI (nth q 2)) (atI (nth q 3))⟩]
def I_ref05_over (F : Nat) : Nat → VS → (Exit → VS → R) → R := tabI c_ref05_over (W_ref05_over F)
def WJ_ref05_over (F : Nat) : List LJ := []
def J_ref05_over (F : Nat) : Nat → Nat → VS → (Exit → VS → R) → R := tabJ (WJ_ref05_over F)
theorem lL_ref05_over_0 (F : Nat) (k : Exit → VS → R) : ∀ (n : Nat) (x0 : Int) (x1 : Int) (x2 : Int) (x3 : Int), iterC (codeL PP (S_ref05_over F) c_ref05_over (I_ref05_over F) (J_ref05_over F) (loopAt PP 79 0) 0) (headOf c_ref05_over 0) k n (fS T_ref05_over_0 [.i x0, .i x1, .i x2, .i x3]) = L_ref05_over_0 F (fun (z0 : Int) (z1 : Int) (z2 : Int) (z3 : Int) => k (.exit 0) (fS T_ref05_over_0_0 [.i z0, .i z1, .i z2, .i z3])) n x0 x1 x2 x3
  | 0, _, _, _, _ => rfl
  | n + 1, x0, x1, x2, x3 => by
    have h0 : ∀ (L_ref05_over_0 : Nat → (Int → Int → Int → Int → R) → Nat → Int → Int → Int → Int → R), iterC (codeL PP (words []) c_ref05_over (tabI c_ref05_over [⟨0, T_ref05_over_0, fun k q => L_ref05_over_0 F (fun (z0 : Int) (z1 : Int) (z2 : Int) (z3 : Int) => k (.exit 0) (fS T_ref05_over_0_0 [.i z0, .i z1, .i z2, .i z3])) F (atI (nth q 0)) (atI (nth q 1)) (atI (nth q 2)) (atI (nth q 3))⟩]) (tabJ []) (loopAt PP 79 0) 0) (headOf c_ref05_over 0) k (n + 1) (fS T_ref05_over_0 [.i x0, .i x1, .i x2, .i x3]) = (fun (rc : Int → Int → Int → Int → R) (ex0 : Int → Int → Int → Int → R) (x0 : Int) (x1 : Int) (x2 : Int) (x3 : Int) => (
  bif ((decide (x3 < x1))) then (
    let v236 : Int := (IntKind.wrap .i64 (Int.tdiv x0 2))
    bif ((decide (((Int.tmod x0 2)) < 0))) then (
      rc ((IntKind.wrap .i64 (v236 - 1))) x1 x2 ((IntKind.wrap .i64 (x3 + 1))))
    else (
      rc v236 x1 x2 ((IntKind.wrap .i64 (x3 + 1)))))
  else (
    ex0 x0 x1 x2 x3) : R)) (fun (y0 : Int) (y1 : Int) (y2 : Int) (y3 : Int) => iterC (codeL PP (words []) c_ref05_over (tabI c_ref05_over [⟨0, T_ref05_over_0, fun k q => L_ref05_over_0 F (fun (z0 : Int) (z1 : Int) (z2 : Int) (z3 : Int) => k (.exit 0) (fS T_ref05_over_0_0 [.i z0, .i z1, .i z2, .i z3])) F (atI (nth q 0)) (atI (nth q 1)) (atI (nth q 2)) (atI (nth q 3))⟩]) (tabJ []) (loopAt PP 79 0) 0) (headOf c_ref05_over 0) k n (fS T_ref05_over_0 [.i y0, .i y1, .i y2, .i y3])) (fun (z0 : Int) (z1 : Int) (z2 : Int) (z3 : Int) => k (.exit 0) (fS T_ref05_over_0_0 [.i z0, .i z1, .i z2, .i z3])) x0 x1 x2 x3 := by
      intros
      kernel_rfl
    have h : iterC (codeL PP (S_ref05_over F) c_ref05_over (I_ref05_over F) (J_ref05_over F) (loopAt PP 79 0) 0) (headOf c_ref05_over 0) k (n + 1) (fS T_ref05_over_0 [.i x0, .i x1, .i x2, .i x3]) = B_ref05_over_0 F (fun (y0 : Int) (y1 : Int) (y2 : Int) (y3 : Int) => iterC (codeL PP (S_ref05_over F) c_ref05_over (I_ref05_over F) (J_ref05_over F) (loopAt PP 79 0) 0) (headOf c_ref05_over 0) k n (fS T_ref05_over_0 [.i y0, .i y1, .i y2, .i y3])) (fun (z0 : Int) (z1 : Int) (z2 : Int) (z3 : Int) => k (.exit 0) (fS T_ref05_over_0_0 [.i z0, .i z1, .i z2, .i z3])) x0 x1 x2 x3 := (h0 L_ref05_over_0).trans (by kernel_rfl)
    rw [h]
    simp only [lL_ref05_over_0 F k n]
    rfl
def f_ref05_over (F : Nat) (a0 : Int) (a1 : Int) : R :=
  L_ref05_over_0 F (fun (v241 : Int) (v242 : Int) (v243 : Int) (v244 : Int) =>
    some (.v (.int .i64 v241))) F a0 a1 0 0
theorem e_ref05_over (F : Nat) (a0 : Int) (a1 : Int) : funL PP (S_ref05_over F) c_ref05_over (I_ref05_over F) (J_ref05_over F) 79 (fTs ti_ref05_over [.i a0, .i a1]).1 = f_ref05_over F a0 a1 := by
  have h : ∀ (L_ref05_over_0 : Nat → (Int → Int → Int → Int → R) → Nat → Int → Int → Int → Int → R), funL PP (words []) c_ref05_over (tabI c_ref05_over [⟨0, T_ref05_over_0, fun k q => L_ref05_over_0 F (fun (z0 : Int) (z1 : Int) (z2 : Int) (z3 : Int) => k (.exit 0) (fS T_ref05_over_0_0 [.i z0, .i z1, .i z2, .i z3])) F (atI (nth q 0)) (atI (nth q 1)) (atI (nth q 2)) (atI (nth q 3))⟩]) (tabJ []) 79 (fTs ti_ref05_over [.i a0, .i a1]).1 = (
  L_ref05_over_0 F (fun (v241 : Int) (v242 : Int) (v243 : Int) (v244 : Int) =>
    some (.v (.int .i64 v241))) F a0 a1 0 0 : R) := by
    intros
    kernel_rfl
  exact (h L_ref05_over_0).trans (by kernel_rfl)
def ok_ref05_over (F : Nat) (a0 : Int) (a1 : Int) : Bool := okT to_ref05_over (f_ref05_over F a0 a1)
def o_ref05_over_0 (F : Nat) (a0 : Int) (a1 : Int) : Int := atI (nth (outT to_ref05_over (f_ref05_over F a0 a1)) 0)
theorem k_ref05_over (F : Nat) (a0 : Int) (a1 : Int) {z0 : Int} (h : f_ref05_over F a0 a1 = some (.v (.int .i64 z0))) : ok_ref05_over F a0 a1 = true ∧ o_ref05_over_0 F a0 a1 = z0 := by
  refine ⟨?_, ?_⟩
  · unfold ok_ref05_over; rw [h]; kernel_rfl
  · unfold o_ref05_over_0; rw [h]; kernel_rfl
def s_ref05_over (F : Nat) : List VV → Option (Bool × VV) := spec ti_ref05_over to_ref05_over (fun q => (ok_ref05_over F (atI (nth q 0)) (atI (nth q 1)))) (fun q => [.i (o_ref05_over_0 F (atI (nth q 0)) (atI (nth q 1)))])
theorem hS_ref05_over (F : Nat) : ∀ f, Good PP f (unS (S_ref05_over F f)) := words_good fun p hp => by
  cases hp
theorem hl_ref05_over (F : Nat) : ∀ p ∈ loopsIn PP 79, LoopOK PP (S_ref05_over F) c_ref05_over F (I_ref05_over F) (J_ref05_over F) p :=
  loops_of [(0, loopAt PP 79 0)] (by kernel_rfl) (all_cons
    (loop_ok (W_ref05_over F) rfl (tab_cons (fun _ k q => Le.ofEq ((lL_ref05_over_0 F k F (atI (nth q 0)) (atI (nth q 1)) (atI (nth q 2)) (atI (nth q 3))).symm.trans (congrArg (iterC (codeL PP (S_ref05_over F) c_ref05_over (I_ref05_over F) (J_ref05_over F) (loopAt PP 79 0) 0) (headOf c_ref05_over 0) k F) (show fS T_ref05_over_0 [.i (atI (nth q 0)), .i (atI (nth q 1)), .i (atI (nth q 2)), .i (atI (nth q 3))] = fS T_ref05_over_0 q by kernel_rfl)))) tab_nil)) all_nil)
theorem hj_ref05_over (F : Nat) : ∀ p ∈ joinsIn PP c_ref05_over 79, JoinOK PP (S_ref05_over F) c_ref05_over (I_ref05_over F) (J_ref05_over F) p :=
  joins_of [] (by kernel_rfl) all_nil
theorem g_ref05_over (F : Nat) : Good PP 79 (unS (s_ref05_over F)) :=
  fun_spec (hS_ref05_over F) (by kernel_rfl) (by kernel_rfl) (C := c_ref05_over) (F := fun q => (f_ref05_over F (atI (nth q 0)) (atI (nth q 1)))) (fun _ => F) (fun _ => I_ref05_over F) (fun _ => J_ref05_over F) (fun _ => hl_ref05_over F) (fun _ => hj_ref05_over F)
    (fun q => (congrArg (funL PP (S_ref05_over F) c_ref05_over (I_ref05_over F) (J_ref05_over F) 79) (show (fTs ti_ref05_over q).1 = (fTs ti_ref05_over [.i (atI (nth q 0)), .i (atI (nth q 1))]).1 by kernel_rfl)).trans (e_ref05_over F (atI (nth q 0)) (atI (nth q 1))))
    (fun _ h => (okT_fill h).trans (congrArg some (by kernel_rfl)))

end Go.Xv
set_option linter.unusedVariables false
namespace Go.Xv
/- 80 _ref05_step -/
def c_ref05_step : Cfg := ⟨[0, 2, 3], [], [], []⟩
def ti_ref05_step : List TV := [.v (.int .i64)]
def to_ref05_step : TV := .v (.int .i64)
def S_ref05_step (F : Nat) : FuncId → List VV → Option (Bool × VV) := words []
def W_ref05_step (F : Nat) : List LW := []
def I_ref05_step (F : Nat) : Nat → VS → (Exit → VS → R) → R := tabI c_ref05_step (W_ref05_step F)
def WJ_ref05_step (F : Nat) : List LJ := []
def J_ref05_step (F : Nat) : Nat → Nat → VS → (Exit → VS → R) → R := tabJ (WJ_ref05_step F)
def f_ref05_step (F : Nat) (a0 : Int) : R :=
  bif ((decide (0 ≤ a0)) && (decide (a0 < 30))) then (
    let v250 : Nat := (0 + ((Int.toNat a0) * 1))
    bif ((isI .i64 [.v (.int .i64 536870912), .v (.int .i64 316933406), .v (.int .i64 167458907), .v (.int .i64 85004756), .v (.int .i64 42667331), .v (.int .i64 21354465), .v (.int .i64 10679838), .v (.int .i64 5340245), .v (.int .i64 2670163), .v (.int .i64 1335087), .v (.int .i64 667544), .v (.int .i64 333772), .v (.int .i64 166886), .v (.int .i64 83443), .v (.int .i64 41722), .v (.int .i64 20861), .v (.int .i64 10430), .v (.int .i64 5215), .v (.int .i64 2608), .v (.int .i64 1304), .v (.int .i64 652), .v (.int .i64 326), .v (.int .i64 163), .v (.int .i64 81), .v (.int .i64 41), .v (.int .i64 20), .v (.int .i64 10), .v (.int .i64 5), .v (.int .i64 3), .v (.int .i64 1)][v250]?) && true) then (
      some (.v (.int .i64 ((iv [.v (.int .i64 536870912), .v (.int .i64 316933406), .v (.int .i64 167458907), .v (.int .i64 85004756), .v (.int .i64 42667331), .v (.int .i64 21354465), .v (.int .i64 10679838), .v (.int .i64 5340245), .v (.int .i64 2670163), .v (.int .i64 1335087), .v (.int .i64 667544), .v (.int .i64 333772), .v (.int .i64 166886), .v (.int .i64 83443), .v (.int .i64 41722), .v (.int .i64 20861), .v (.int .i64 10430), .v (.int .i64 5215), .v (.int .i64 2608), .v (.int .i64 1304), .v (.int .i64 652), .v (.int .i64 326), .v (.int .i64 163), .v (.int .i64 81), .v (.int .i64 41), .v (.int .i64 20), .v (.int .i64 10), .v (.int .i64 5), .v (.int .i64 3), .v (.int .i64 1)][v250]?)))))
    else (
      none))
  else (
    none)
theorem e_ref05_step (F : Nat) (a0 : Int) : funL PP (S_ref05_step F) c_ref05_step (I_ref05_step F) (J_ref05_step F) 80 (fTs ti_ref05_step [.i a0]).1 = f_ref05_step F a0 := by
  have h : ∀ (_ : Unit), funL PP (words []) c_ref05_step (tabI c_ref05_step []) (tabJ []) 80 (fTs ti_ref05_step [.i a0]).1 = (
  bif ((decide (0 ≤ a0)) && (decide (a0 < 30))) then (
    let v250 : Nat := (0 + ((Int.toNat a0) * 1))
    bif ((isI .i64 [.v (.int .i64 536870912), .v (.int .i64 316933406), .v (.int .i64 167458907), .v (.int .i64 85004756), .v (.int .i64 42667331), .v (.int .i64 21354465), .v (.int .i64 10679838), .v (.int .i64 5340245), .v (.int .i64 2670163), .v (.int .i64 1335087), .v (.int .i64 667544), .v (.int .i64 333772), .v (.int .i64 166886), .v (.int .i64 83443), .v (.int .i64 41722), .v (.int .i64 20861), .v (.int .i64 10430), .v (.int .i64 5215), .v (.int .i64 2608), .v (.int .i64 1304), .v (.int .i64 652), .v (.int .i64 326), .v (.int .i64 163), .v (.int .i64 81), .v (.int .i64 41), .v (.int .i64 20), .v (.int .i64 10), .v (.int .i64 5), .v (.int .i64 3), .v (.int .i64 1)][v250]?) && true) then (
      some (.v (.int .i64 ((iv [.v (.int .i64 536870912), .v (.int .i64 316933406), .v (.int .i64 167458907), .v (.int .i64 85004756), .v (.int .i64 42667331), .v (.int .i64 21354465), .v (.int .i64 10679838), .v (.int .i64 5340245), .v (.int .i64 2670163), .v (.int .i64 1335087), .v (.int .i64 667544), .v (.int .i64 333772), .v (.int .i64 166886), .v (.int .i64 83443), .v (.int .i64 41722), .v (.int .i64 20861), .v (.int .i64 10430), .v (.int .i64 5215), .v (.int .i64 2608), .v (.int .i64 1304), .v (.int .i64 652), .v (.int .i64 326), .v (.int .i64 163), .v (.int .i64 81), .v (.int .i64 41), .v (.int .i64 20), .v (.int .i64 10), .v (.int .i64 5), .v (.int .i64 3), .v (.int .i64 1)][v250]?)))))
    else (
      none))
  else (
    none) : R) := by
    intros
    kernel_rfl
  exact (h ()).trans (by kernel_rfl)
def ok_ref05_step (F : Nat) (a0 : Int) : Bool := okT to_ref05_step (f_ref05_step F a0)
def o_ref05_step_0 (F : Nat) (a0 : Int) : Int := atI (nth (outT to_ref05_step (f_ref05_step F a0)) 0)
theorem k_ref05_step (F : Nat) (a0 : Int) {z0 : Int} (h : f_ref05_step F a0 = some (.v (.int .i64 z0))) : ok_ref05_step F a0 = true ∧ o_ref05_step_0 F a0 = z0 := by
  refine ⟨?_, ?_⟩
  · unfold ok_ref05_step; rw [h]; kernel_rfl
  · unfold o_ref05_step_0; rw [h]; kernel_rfl
def s_ref05_step (F : Nat) : List VV → Option (Bool × VV) := spec ti_ref05_step to_ref05_step (fun q => (ok_ref05_step F (atI (nth q 0)))) (fun q => [.i (o_ref05_step_0 F (atI (nth q 0)))])
theorem hS_ref05_step (F : Nat) : ∀ f, Good PP f (unS (S_ref05_step F f)) := words_good fun p hp => by
  cases hp
theorem hl_ref05_step (F : Nat) : ∀ p ∈ loopsIn PP 80, LoopOK PP (S_ref05_step F) c_ref05_step F (I_ref05_step F) (J_ref05_step F) p :=
  loops_of [] (by kernel_rfl) all_nil
theorem hj_ref05_step (F : Nat) : ∀ p ∈ joinsIn PP c_ref05_step 80, JoinOK PP (S_ref05_step F) c_ref05_step (I_ref05_step F) (J_ref05_step F) p :=
  joins_of [] (by kernel_rfl) all_nil
theorem g_ref05_step (F : Nat) : Good PP 80 (unS (s_ref05_step F)) :=
  fun_spec (hS_ref05_step F) (by kernel_rfl) (by kernel_rfl) (C := c_ref05_step) (F := fun q => (f_ref05_step F (atI (nth q 0)))) (fun _ => F) (fun _ => I_ref05_step F) (fun _ => J_ref05_step F) (fun _ => hl_ref05_step F) (fun _ => hj_ref05_step F)
    (fun q => (congrArg (funL PP (S_ref05_step F) c_ref05_step (I_ref05_step F) (J_ref05_step F) 80) (show (fTs ti_ref05_step q).1 = (fTs ti_ref05_step [.i (atI (nth q 0))]).1 by kernel_rfl)).trans (e_ref05_step F (atI (nth q 0))))
    (fun _ h => (okT_fill h).trans (congrArg some (by kernel_rfl)))

end Go.Xv
set_option linter.unusedVariables false
namespace Go.Xv
/- 82 _turn_opposite -/
def c_turn_opposite : Cfg := ⟨[0, 1, 4, 5, 7], [], [], []⟩
def ti_turn_opposite : List TV := [.v (.int .i64), .v (.int .i64)]
def to_turn_opposite : TV := .v (.agg [.int .i64, .int .i64])
def S_turn_opposite (F : Nat) : FuncId → List VV → Option (Bool × VV) := words [(113, s_fix_Neg F)]
def W_turn_opposite (F : Nat) : List LW := []
def I_turn_opposite (F : Nat) : Nat → VS → (Exit → VS → R) → R := tabI c_turn_opposite (W_turn_opposite F)
def WJ_turn_opposite (F : Nat) : List LJ := []
def J_turn_opposite (F : Nat) : Nat → Nat → VS → (Exit → VS → R) → R := tabJ (WJ_turn_opposite F)
def f_turn_opposite (F : Nat) (a0 : Int) (a1 : Int) : R :=
  bif (ok_fix_Neg F a0) then (
    bif (ok_fix_Neg F a1) then (
      some (.v (.agg #[.int .i64 ((o_fix_Neg_0 F a0)), .int .i64 ((o_fix_Neg_0 F a1))])))
    else (
      none))
  else (
    none)
theorem e_turn_opposite (F : Nat) (a0 : Int) (a1 : Int) : funL PP (S_turn_opposite F) c_turn_opposite (I_turn_opposite F) (J_turn_opposite F) 82 (fTs ti_turn_opposite [.i a0, .i a1]).1 = f_turn_opposite F a0 a1 := by
  have h : ∀ (ok_fix_Neg : Nat → Int → Bool) (o_fix_Neg_0 : Nat → Int → Int) (o_fix_Neg_1 : Nat → Int → Bool), funL PP (words [(113, spec ti_fix_Neg to_fix_Neg (fun q => (ok_fix_Neg F (atI (nth q 0)))) (fun q => [.i (o_fix_Neg_0 F (atI (nth q 0))), .b (o_fix_Neg_1 F (atI (nth q 0)))]))]) c_turn_opposite (tabI c_turn_opposite []) (tabJ []) 82 (fTs ti_turn_opposite [.i a0, .i a1]).1 = (
  bif (ok_fix_Neg F a0) then (
    bif (ok_fix_Neg F a1) then (
      some (.v (.agg #[.int .i64 ((o_fix_Neg_0 F a0)), .int .i64 ((o_fix_Neg_0 F a1))])))
    else (
      none))
  else (
    none) : R) := by
    intros
    kernel_rfl
  exact (h ok_fix_Neg o_fix_Neg_0 o_fix_Neg_1).trans (by kernel_rfl)
def ok_turn_opposite (F : Nat) (a0 : Int) (a1 : Int) : Bool := okT to_turn_opposite (f_turn_opposite F a0 a1)
def o_turn_opposite_0 (F : Nat) (a0 : Int) (a1 : Int) : Int := atI (nth (outT to_turn_opposite (f_turn_opposite F a0 a1)) 0)
def o_turn_opposite_1 (F : Nat) (a0 : Int) (a1 : Int) : Int := atI (nth (outT to_turn_opposite (f_turn_opposite F a0 a1)) 1)
theorem k_turn_opposite (F : Nat) (a0 : Int) (a1 : Int) {z0 : Int} {z1 : Int} (h : f_turn_opposite F a0 a1 = some (.v (.agg #[.int .i64 z0, .int .i64 z1]))) : ok_turn_opposite F a0 a1 = true ∧ o_turn_opposite_0 F a0 a1 = z0 ∧ o_turn_opposite_1 F a0 a1 = z1 := by
  refine ⟨?_, ?_, ?_⟩
  · unfold ok_turn_opposite; rw [h]; kernel_rfl
  · unfold o_turn_opposite_0; rw [h]; kernel_rfl
  · unfold o_turn_opposite_1; rw [h]; kernel_rfl
def s_turn_opposite (F : Nat) : List VV → Option (Bool × VV) := spec ti_turn_opposite to_turn_opposite (fun q => (ok_turn_opposite F (atI (nth q 0)) (atI (nth q 1)))) (fun q => [.i (o_turn_opposite_0 F (atI (nth q 0)) (atI (nth q 1))), .i (o_turn_opposite_1 F (atI (nth q 0)) (atI (nth q 1)))])
theorem hS_turn_opposite (F : Nat) : ∀ f, Good PP f (unS (S_turn_opposite F f)) := words_good fun p hp => by
  simp only [List.mem_cons, List.not_mem_nil, or_false] at hp
  rcases hp with rfl
  · exact g_fix_Neg F
theorem hl_turn_opposite (F : Nat) : ∀ p ∈ loopsIn PP 82, LoopOK PP (S_turn_opposite F) c_turn_opposite F (I_turn_opposite F) (J_turn_opposite F) p :=
  loops_of [] (by kernel_rfl) all_nil
theorem hj_turn_opposite (F : Nat) : ∀ p ∈ joinsIn PP c_turn_opposite 82, JoinOK PP (S_turn_opposite F) c_turn_opposite (I_turn_opposite F) (J_turn_opposite F) p :=
  joins_of [] (by kernel_rfl) all_nil
theorem g_turn_opposite (F : Nat) : Good PP 82 (unS (s_turn_opposite F)) :=
  fun_spec (hS_turn_opposite F) (by kernel_rfl) (by kernel_rfl) (C := c_turn_opposite) (F := fun q => (f_turn_opposite F (atI (nth q 0)) (atI (nth q 1)))) (fun _ => F) (fun _ => I_turn_opposite F) (fun _ => J_turn_opposite F) (fun _ => hl_turn_opposite F) (fun _ => hj_turn_opposite F)
    (fun q => (congrArg (funL PP (S_turn_opposite F) c_turn_opposite (I_turn_opposite F) (J_turn_opposite F) 82) (show (fTs ti_turn_opposite q).1 = (fTs ti_turn_opposite [.i (atI (nth q 0)), .i (atI (nth q 1))]).1 by kernel_rfl)).trans (e_turn_opposite F (atI (nth q 0)) (atI (nth q 1))))
    (fun _ h => (okT_fill h).trans (congrArg some (by kernel_rfl)))

end Go.Xv
set_option linter.unusedVariables false
namespace Go.Xv
/- 114 _turn_size -/
def c_turn_size : Cfg := ⟨[0, 2, 4], [], [], []⟩
def ti_turn_size : List TV := [.v (.int .i64)]
def to_turn_size : TV := .v (.int .u64)
def S_turn_size (F : Nat) : FuncId → List VV → Option (Bool × VV) := words []
def W_turn_size (F : Nat) : List LW := []
def I_turn_size (F : Nat) : Nat → VS → (Exit → VS → R) → R := tabI c_turn_size (W_turn_size F)
def WJ_turn_size (F : Nat) : List LJ := []
def J_turn_size (F : Nat) : Nat → Nat → VS → (Exit → VS → R) → R := tabJ (WJ_turn_size F)
def f_turn_size (F : Nat) (a0 : Int) : R :=
  bif ((decide (a0 < 0))) then (
    some (.v (.int .u64 ((IntKind.wrap .u64 (0 - ((IntKind.wrap .u64 a0))))))))
  else (
    some (.v (.int .u64 ((IntKind.wrap .u64 a0)))))
theorem e_turn_size (F : Nat) (a0 : Int) : funL PP (S_turn_size F) c_turn_size (I_turn_size F) (J_turn_size F) 114 (fTs ti_turn_size [.i a0]).1 = f_turn_size F a0 := by
  have h : ∀ (_ : Unit), funL PP (words []) c_turn_size (tabI c_turn_size []) (tabJ []) 114 (fTs ti_turn_size [.i a0]).1 = (
  bif ((decide (a0 < 0))) then (
    some (.v (.int .u64 ((IntKind.wrap .u64 (0 - ((IntKind.wrap .u64 a0))))))))
  else (
    some (.v (.int .u64 ((IntKind.wrap .u64 a0))))) : R) := by
    intros
    kernel_rfl
  exact (h ()).trans (by kernel_rfl)
def ok_turn_size (F : Nat) (a0 : Int) : Bool := okT to_turn_size (f_turn_size F a0)
def o_turn_size_0 (F : Nat) (a0 : Int) : Int := atI (nth (outT to_turn_size (f_turn_size F a0)) 0)
theorem k_turn_size (F : Nat) (a0 : Int) {z0 : Int} (h : f_turn_size F a0 = some (.v (.int .u64 z0))) : ok_turn_size F a0 = true ∧ o_turn_size_0 F a0 = z0 := by
  refine ⟨?_, ?_⟩
  · unfold ok_turn_size; rw [h]; kernel_rfl
  · unfold o_turn_size_0; rw [h]; kernel_rfl
def s_turn_size (F : Nat) : List VV → Option (Bool × VV) := spec ti_turn_size to_turn_size (fun q => (ok_turn_size F (atI (nth q 0)))) (fun q => [.i (o_turn_size_0 F (atI (nth q 0)))])
theorem hS_turn_size (F : Nat) : ∀ f, Good PP f (unS (S_turn_size F f)) := words_good fun p hp => by
  cases hp
theorem hl_turn_size (F : Nat) : ∀ p ∈ loopsIn PP 114, LoopOK PP (S_turn_size F) c_turn_size F (I_turn_size F) (J_turn_size F) p :=
  loops_of [] (by kernel_rfl) all_nil
theorem hj_turn_size (F : Nat) : ∀ p ∈ joinsIn PP c_turn_size 114, JoinOK PP (S_turn_size F) c_turn_size (I_turn_size F) (J_turn_size F) p :=
  joins_of [] (by kernel_rfl) all_nil
theorem g_turn_size (F : Nat) : Good PP 114 (unS (s_turn_size F)) :=
  fun_spec (hS_turn_size F) (by kernel_rfl) (by kernel_rfl) (C := c_turn_size) (F := fun q => (f_turn_size F (atI (nth q 0)))) (fun _ => F) (fun _ => I_turn_size F) (fun _ => J_turn_size F) (fun _ => hl_turn_size F) (fun _ => hj_turn_size F)
    (fun q => (congrArg (funL PP (S_turn_size F) c_turn_size (I_turn_size F) (J_turn_size F) 114) (show (fTs ti_turn_size q).1 = (fTs ti_turn_size [.i (atI (nth q 0))]).1 by kernel_rfl)).trans (e_turn_size F (atI (nth q 0))))
    (fun _ h => (okT_fill h).trans (congrArg some (by kernel_rfl)))

end Go.Xv
set_option linter.unusedVariables false
namespace Go.Xv
/- 83 _turn_pair_scaled -/
def c_turn_pair_scaled : Cfg := ⟨[0, 1, 2, 10, 25], [(0, [0, 1, 2, 18, 19, 20, 21, 22, 23, 24, 25, 26, 27, 28, 29, 30, 31, 32, 33]), (2, [0, 1, 2, 3, 4, 5, 6, 7, 8, 9, 10, 11, 12, 13, 14, 15, 16, 17, 33])], [], []⟩
def ti_turn_pair_scaled : List TV := [.v (.agg [.int .i64, .int .i64])]
def to_turn_pair_scaled : TV := .v (.agg [.int .i64, .int .i64])
def S_turn_pair_scaled (F : Nat) : FuncId → List VV → Option (Bool × VV) := words [(114, s_turn_size F)]
def T_turn_pair_scaled_0 : TS := ⟨[(0, .v (.agg [.int .i64, .int .i64])), (1, .lp 0 (.lit 0)), (2, .lp 1 (.lit 0))], [(0, ⟨(.ex [.v (.int .i64), .v (.int .i64)]), true⟩), (1, ⟨(.ex [.v (.int .i64), .v (.int .i64)]), true⟩)], 2⟩
def T_turn_pair_scaled_0_0 : TS := ⟨[(0, .v (.agg [.int .i64, .int .i64])), (1, .lp 0 (.lit 0)), (2, .lp 1 (.lit 0))], [(0, ⟨(.ex [.v (.int .i64), .v (.int .i64)]), true⟩), (1, ⟨(.ex [.v (.int .i64), .v (.int .i64)]), true⟩)], 2⟩
def B_turn_pair_scaled_0 (F : Nat) (rc : Int → Int → Int → Int → Int → Int → R) (ex0 : Int → Int → Int → Int → Int → Int → R) (x0 : Int) (x1 : Int) (x2 : Int) (x3 : Int) (x4 : Int) (x5 : Int) : R :=
  bif (ok_turn_size F x2) then (
    let v312 : Int := (o_turn_size_0 F x2)
    bif (ok_turn_size F x3) then (
      let v313 : Int := (o_turn_size_0 F x3)
      bif ((decide (((if v313 > v312 then v313 else v312)) ≥ 2305843009213693952))) then (
        rc x0 x1 ((Int.fdiv x2 (2))) ((Int.fdiv x3 (2))) x4 x5)
      else (
        ex0 x0 x1 x2 x3 x4 x5))
    else (
      none))
  else (
    none)
def L_turn_pair_scaled_0 (F : Nat) (ex0 : Int → Int → Int → Int → Int → Int → R) : Nat → Int → Int → Int → Int → Int → Int → R
  | 0, _, _, _, _, _, _ => none
  | n + 1, x0, x1, x2, x3, x4, x5 => B_turn_pair_scaled_0 F (L_turn_pair_scaled_0 F ex0 n) ex0 x0 x1 x2 x3 x4 x5
def T_turn_pair_scaled_1 : TS := ⟨[(0, .v (.agg [.int .i64, .int .i64])), (1, .lp 0 (.lit 0)), (2, .lp 1 (.lit 0))], [(0, ⟨(.ex [.v (.int .i64), .v (.int .i64)]), true⟩), (1, ⟨(.ex [.v (.int .i64), .v (.int .i64)]), true⟩)], 2⟩
def T_turn_pair_scaled_1_0 : TS := ⟨[(0, .v (.agg [.int .i64, .int .i64])), (1, .lp 0 (.lit 0)), (2, .lp 1 (.lit 0))], [(0, ⟨(.ex [.v (.int .i64), .v (.int .i64)]), true⟩), (1, ⟨(.ex [.v (.int .i64), .v (.int .i64)]), true⟩)], 2⟩
def B_turn_pair_scaled_1 (F : Nat) (rc : Int → Int → Int → Int → Int → Int → R) (ex0 : Int → Int → Int → Int → Int → Int → R) (x0 : Int) (x1 : Int) (x2 : Int) (x3 : Int) (x4 : Int) (x5 : Int) : R :=
  bif (ok_turn_size F x2) then (
    let v330 : Int := (o_turn_size_0 F x2)
    bif (ok_turn_size F x3) then (
      let v331 : Int := (o_turn_size_0 F x3)
      bif ((decide (((if v331 > v330 then v331 else v330)) < 1152921504606846976))) then (
        rc x0 x1 ((IntKind.wrap .i64 (x2 * 2))) ((IntKind.wrap .i64 (x3 * 2))) x4 x5)
      else (
        ex0 x0 x1 x2 x3 x4 x5))
    else (
      none))
  else (
    none)
def L_turn_pair_scaled_1 (F : Nat) (ex0 : Int → Int → Int → Int → Int → Int → R) : Nat → Int → Int → Int → Int → Int → Int → R
  | 0, _, _, _, _, _, _ => none
  | n + 1, x0, x1, x2, x3, x4, x5 => B_turn_pair_scaled_1 F (L_turn_pair_scaled_1 F ex0 n) ex0 x0 x1 x2 x3 x4 x5
def W_turn_pair_scaled (F : Nat) : List LW := [⟨0, T_turn_pair_scaled_0, fun k q => L_turn_pair_scaled_0 F (fun (z0 : Int) (z1 : Int) (z2 : Int) (z3 : Int) (z4 : Int) (z5 : Int) => k (.exit 0) (fS T_turn_pair_scaled_0_0 [.i z0, .i z1, .i z2, .i z3, .i z4, .i z5])) F (atI (nth q 0)) (atI (nth q 1)) (atI (nth q 2)) (atI (nth q 3)) (atI (nth q 4)) (atI (nth q 5))⟩, ⟨2, T_turn_pair_scaled_1, fun k q => L_turn_pair_scaled_1 F (fun (z0 : Int) (z1 : Int) (z2 : Int) (z3 : Int) (z4 : Int) (z5 : Int) => k (.exit 2) (fS T_turn_pair_scaled_1_0 [.i z0, .i z1, .i z2, .i z3, .i z4, .i z5])) F (atI (nth q 0)) (atI (nth q 1)) (atI (nth q 2)) (atI (nth q 3)) (atI (nth q 4)) (atI (nth q 5))⟩]
def I_turn_pair_scaled (F : Nat) : Nat → VS → (Exit → VS → R) → R := tabI c_turn_pair_scaled (W_turn_pair_scaled F)
def WJ_turn_pair_scaled (F : Nat) : List LJ := []
def J_turn_pair_scaled (F : Nat) : Nat → Nat → VS → (Exit → VS → R) → R := tabJ (WJ_turn_pair_scaled F)
theorem lL_turn_pair_scaled_0 (F : Nat) (k : Exit → VS → R) : ∀ (n : Nat) (x0 : Int) (x1 : Int) (x2 : Int) (x3 : Int) (x4 : Int) (x5 : Int), iterC (codeL PP (S_turn_pair_scaled F) c_turn_pair_scaled (I_turn_pair_scaled F) (J_turn_pair_scaled F) (loopAt PP 83 0) 0) (headOf c_turn_pair_scaled 0) k n (fS T_turn_pair_scaled_0 [.i x0, .i x1, .i x2, .i x3, .i x4, .i x5]) = L_turn_pair_scaled_0 F (fun (z0 : Int) (z1 : Int) (z2 : Int) (z3 : Int) (z4 : Int) (z5 : Int) => k (.exit 0) (fS T_turn_pair_scaled_0_0 [.i z0, .i z1, .i z2, .i z3, .i z4, .i z5])) n x0 x1 x2 x3 x4 x5
  | 0, _, _, _, _, _, _ => rfl
  | n + 1, x0, x1, x2, x3, x4, x5 => by
    have h0 : ∀ (ok_turn_size : Nat → Int → Bool) (o_turn_size_0 : Nat → Int → Int) (L_turn_pair_scaled_0 : Nat → (Int → Int → Int → Int → Int → Int → R) → Nat → Int → Int → Int → Int → Int → Int → R) (L_turn_pair_scaled_1 : Nat → (Int → Int → Int → Int → Int → Int → R) → Nat → Int → Int → Int → Int → Int → Int → R), iterC (codeL PP (words [(114, spec ti_turn_size to_turn_size (fun q => (ok_turn_size F (atI (nth q 0)))) (fun q => [.i (o_turn_size_0 F (atI (nth q 0)))]))]) c_turn_pair_scaled (tabI c_turn_pair_scaled [⟨0, T_turn_pair_scaled_0, fun k q => L_turn_pair_scaled_0 F (fun (z0 : Int) (z1 : Int) (z2 : Int) (z3 : Int) (z4 : Int) (z5 : Int) => k (.exit 0) (fS T_turn_pair_scaled_0_0 [.i z0, .i z1, .i z2, .i z3, .i z4, .i z5])) F (atI (nth q 0)) (atI (nth q 1)) (atI (nth q 2)) (atI (nth q 3)) (atI (nth q 4)) (atI (nth q 5))⟩, ⟨2, T_turn_pair_scaled_1, fun k q => L_turn_pair_scaled_1 F (fun (z0 : Int) (z1 : Int) (z2 : Int) (z3 : Int) (z4 : Int) (z5 : Int) => k (.exit 2) (fS T_turn_pair_scaled_1_0 [.i z0, .i z1, .i z2, .i z3, .i z4, .i z5])) F (atI (nth q 0)) (atI (nth q 1)) (atI (nth q 2)) (atI (nth q 3)) (atI (nth q 4)) (atI (nth q 5))⟩]) (tabJ []) (loopAt PP 83 0) 0) (headOf c_turn_pair_scaled 0) k (n + 1) (fS T_turn_pair_scaled_0 [.i x0, .i x1, .i x2, .i x3, .i x4, .i x5]) = (fun (rc : Int → Int → Int → Int → Int → Int → R) (ex0 : Int → Int → Int → Int → Int → Int → R) (x0 : Int) (x1 : Int) (x2 : Int) (x3 : Int) (x4 : Int) (x5 : Int) => (
  bif (ok_turn_size F x2) then (
    let v312 : Int := (o_turn_size_0 F x2)
    bif (ok_turn_size F x3) then (
      let v313 : Int := (o_turn_size_0 F x3)
      bif ((decide (((if v313 > v312 then v313 else v312)) ≥ 2305843009213693952))) then (
        rc x0 x1 ((Int.fdiv x2 (2))) ((Int.fdiv x3 (2))) x4 x5)
      else (
        ex0 x0 x1 x2 x3 x4 x5))
    else (
      none))
  else (
    none) : R)) (fun (y0 : Int) (y1 : Int) (y2 : Int) (y3 : Int) (y4 : Int) (y5 : Int) => iterC (codeL PP (words [(114, spec ti_turn_size to_turn_size (fun q => (ok_turn_size F (atI (nth q 0)))) (fun q => [.i (o_turn_size_0 F (atI (nth q 0)))]))]) c_turn_pair_scaled (tabI c_turn_pair_scaled [⟨0, T_turn_pair_scaled_0, fun k q => L_turn_pair_scaled_0 F (fun (z0 : Int) (z1 : Int) (z2 : Int) (z3 : Int) (z4 : Int) (z5 : Int) => k (.exit 0) (fS T_turn_pair_scaled_0_0 [.i z0, .i z1, .i z2, .i z3, .i z4, .i z5])) F (atI (nth q 0)) (atI (nth q 1)) (atI (nth q 2)) (atI (nth q 3)) (atI (nth q 4)) (atI (nth q 5))⟩, ⟨2, T_turn_pair_scaled_1, fun k q => L_turn_pair_scaled_1 F (fun (z0 : Int) (z1 : Int) (z2 : Int) (z3 : Int) (z4 : Int) (z5 : Int) => k (.exit 2) (fS T_turn_pair_scaled_1_0 [.i z0, .i z1, .i z2, .i z3, .i z4, .i z5])) F (atI (nth q 0)) (atI (nth q 1)) (atI (nth q 2)) (atI (nth q 3)) (atI (nth q 4)) (atI (nth q 5))⟩]) (tabJ []) (loopAt PP 83 0) 0) (headOf c_turn_pair_scaled 0) k n (fS T_turn_pair_scaled_0 [.i y0, .i y1, .i y2, .i y3, .i y4, .i y5])) (fun (z0 : Int) (z1 : Int) (z2 : Int) (z3 : Int) (z4 : Int) (z5 : Int) => k (.exit 0) (fS T_turn_pair_scaled_0_0 [.i z0, .i z1, .i z2, .i z3, .i z4, .i z5])) x0 x1 x2 x3 x4 x5 := by
      intros
      kernel_rfl
    have h : iterC (codeL PP (S_turn_pair_scaled F) c_turn_pair_scaled (I_turn_pair_scaled F) (J_turn_pair_scaled F) (loopAt PP 83 0) 0) (headOf c_turn_pair_scaled 0) k (n + 1) (fS T_turn_pair_scaled_0 [.i x0, .i x1, .i x2, .i x3, .i x4, .i x5]) = B_turn_pair_scaled_0 F (fun (y0 : Int) (y1 : Int) (y2 : Int) (y3 : Int) (y4 : Int) (y5 : Int) => iterC (codeL PP (S_turn_pair_scaled F) c_turn_pair_scaled (I_turn_pair_scaled F) (J_turn_pair_scaled F) (loopAt PP 83 0) 0) (headOf c_turn_pair_scaled 0) k n (fS T_turn_pair_scaled_0 [.i y0, .i y1, .i y2, .i y3, .i y4, .i y5])) (fun (z0 : Int) (z1 : Int) (z2 : Int) (z3 : Int) (z4 : Int) (z5 : Int) => k (.exit 0) (fS T_turn_pair_scaled_0_0 [.i z0, .i z1, .i z2, .i z3, .i z4, .i z5])) x0 x1 x2 x3 x4 x5 := (h0 ok_turn_size o_turn_size_0 L_turn_pair_scaled_0 L_turn_pair_scaled_1).trans (by kernel_rfl)
    rw [h]
    simp only [lL_turn_pair_scaled_0 F k n]
    rfl
theorem lL_turn_pair_scaled_1 (F : Nat) (k : Exit → VS → R) : ∀ (n : Nat) (x0 : Int) (x1 : Int) (x2 : Int) (x3 : Int) (x4 : Int) (x5 : Int), iterC (codeL PP (S_turn_pair_scaled F) c_turn_pair_scaled (I_turn_pair_scaled F) (J_turn_pair_scaled F) (loopAt PP 83 1) 2) (headOf c_turn_pair_scaled 2) k n (fS T_turn_pair_scaled_1 [.i x0, .i x1, .i x2, .i x3, .i x4, .i x5]) = L_turn_pair_scaled_1 F (fun (z0 : Int) (z1 : Int) (z2 : Int) (z3 : Int) (z4 : Int) (z5 : Int) => k (.exit 2) (fS T_turn_pair_scaled_1_0 [.i z0, .i z1, .i z2, .i z3, .i z4, .i z5])) n x0 x1 x2 x3 x4 x5
  | 0, _, _, _, _, _, _ => rfl
  | n + 1, x0, x1, x2, x3, x4, x5 => by
    have h0 : ∀ (ok_turn_size : Nat → Int → Bool) (o_turn_size_0 : Nat → Int → Int) (L_turn_pair_scaled_0 : Nat → (Int → Int → Int → Int → Int → Int → R) → Nat → Int → Int → Int → Int → Int → Int → R) (L_turn_pair_scaled_1 : Nat → (Int → Int → Int → Int → Int → Int → R) → Nat → Int → Int → Int → Int → Int → Int → R), iterC (codeL PP (words [(114, spec ti_turn_size to_turn_size (fun q => (ok_turn_size F (atI (nth q 0)))) (fun q => [.i (o_turn_size_0 F (atI (nth q 0)))]))]) c_turn_pair_scaled (tabI c_turn_pair_scaled [⟨0, T_turn_pair_scaled_0, fun k q => L_turn_pair_scaled_0 F (fun (z0 : Int) (z1 : Int) (z2 : Int) (z3 : Int) (z4 : Int) (z5 : Int) => k (.exit 0) (fS T_turn_pair_scaled_0_0 [.i z0, .i z1, .i z2, .i z3, .i z4, .i z5])) F (atI (nth q 0)) (atI (nth q 1)) (atI (nth q 2)) (atI (nth q 3)) (atI (nth q 4)) (atI (nth q 5))⟩, ⟨2, T_turn_pair_scaled_1, fun k q => L_turn_pair_scaled_1 F (fun (z0 : Int) (z1 : Int) (z2 : Int) (z3 : Int) (z4 : Int) (z5 : Int) => k (.exit 2) (fS T_turn_pair_scaled_1_0 [.i z0, .i z1, .i z2, .i z3, .i z4, .i z5])) F (atI (nth q 0)) (atI (nth q 1)) (atI (nth q 2)) (atI (nth q 3)) (atI (nth q 4)) (atI (nth q 5))⟩]) (tabJ []) (loopAt PP 83 1) 2) (headOf c_turn_pair_scaled 2) k (n + 1) (fS T_turn_pair_scaled_1 [.i x0, .i x1, .i x2, .i x3, .i x4, .i x5]) = (fun (rc : Int → Int → Int → Int → Int → Int → R) (ex0 : Int → Int → Int → Int → Int → Int → R) (x0 : Int) (x1 : Int) (x2 : Int) (x3 : Int) (x4 : Int) (x5 : Int) => (
  bif (ok_turn_size F x2) then (
    let v330 : Int := (o_turn_size_0 F x2)
    bif (ok_turn_size F x3) then (
      let v331 : Int := (o_turn_size_0 F x3)
      bif ((decide (((if v331 > v330 then v331 else v330)) < 1152921504606846976))) then (
        rc x0 x1 ((IntKind.wrap .i64 (x2 * 2))) ((IntKind.wrap .i64 (x3 * 2))) x4 x5)
      else (
        ex0 x0 x1 x2 x3 x4 x5))
    else (
      none))
  else (
    none) : R)) (fun (y0 : Int) (y1 : Int) (y2 : Int) (y3 : Int) (y4 : Int) (y5 : Int) => iterC (codeL PP (words [(114, spec ti_turn_size to_turn_size (fun q => (ok_turn_size F (atI (nth q 0)))) (fun q => [.i (o_turn_size_0 F (atI (nth q 0)))]))]) c_turn_pair_scaled (tabI c_turn_pair_scaled [⟨0, T_turn_pair_scaled_0, fun k q => L_turn_pair_scaled_0 F (fun (z0 : Int) (z1 : Int) (z2 : Int) (z3 : Int) (z4 : Int) (z5 : Int) => k (.exit 0) (fS T_turn_pair_scaled_0_0 [.i z0, .i z1, .i z2, .i z3, .i z4, .i z5])) F (atI (nth q 0)) (atI (nth q 1)) (atI (nth q 2)) (atI (nth q 3)) (atI (nth q 4)) (atI (nth q 5))⟩, ⟨2, T_turn_pair_scaled_1, fun k q => L_turn_pair_scaled_1 F (fun (z0 : Int) (z1 : Int) (z2 : Int) (z3 : Int) (z4 : Int) (z5 : Int) => k (.exit 2) (fS T_turn_pair_scaled_1_0 [.i z0, .i z1, .i z2, .i z3, .i z4, .i z5])) F (atI (nth q 0)) (atI (nth q 1)) (atI (nth q 2)) (atI (nth q 3)) (atI (nth q 4)) (atI (nth q 5))⟩]) (tabJ []) (loopAt PP 83 1) 2) (headOf c_turn_pair_scaled 2) k n (fS T_turn_pair_scaled_1 [.i y0, .i y1, .i y2, .i y3, .i y4, .i y5])) (fun (z0 : Int) (z1 : Int) (z2 : Int) (z3 : Int) (z4 : Int) (z5 : Int) => k (.exit 2) (fS T_turn_pair_scaled_1_0 [.i z0, .i z1, .i z2, .i z3, .i z4, .i z5])) x0 x1 x2 x3 x4 x5 := by
      intros
      kernel_rfl
    have h : iterC (codeL PP (S_turn_pair_scaled F) c_turn_pair_scaled (I_turn_pair_scaled F) (J_turn_pair_scaled F) (loopAt PP 83 1) 2) (headOf c_turn_pair_scaled 2) k (n + 1) (fS T_turn_pair_scaled_1 [.i x0, .i x1, .i x2, .i x3, .i x4, .i x5]) = B_turn_pair_scaled_1 F (fun (y0 : Int) (y1 : Int) (y2 : Int) (y3 : Int) (y4 : Int) (y5 : Int) => iterC (codeL PP (S_turn_pair_scaled F) c_turn_pair_scaled (I_turn_pair_scaled F) (J_turn_pair_scaled F) (loopAt PP 83 1) 2) (headOf c_turn_pair_scaled 2) k n (fS T_turn_pair_scaled_1 [.i y0, .i y1, .i y2, .i y3, .i y4, .i y5])) (fun (z0 : Int) (z1 : Int) (z2 : Int) (z3 : Int) (z4 : Int) (z5 : Int) => k (.exit 2) (fS T_turn_pair_scaled_1_0 [.i z0, .i z1, .i z2, .i z3, .i z4, .i z5])) x0 x1 x2 x3 x4 x5 := (h0 ok_turn_size o_turn_size_0 L_turn_pair_scaled_0 L_turn_pair_scaled_1).trans (by kernel_rfl)
    rw [h]
    simp only [lL_turn_pair_scaled_1 F k n]
    rfl
def f_turn_pair_scaled (F : Nat) (a0 : Int) (a1 : Int) : R :=
  L_turn_pair_scaled_0 F (fun (v318 : Int) (v319 : Int) (v320 : Int) (v321 : Int) (v322 : Int) (v323 : Int) =>
    L_turn_pair_scaled_1 F (fun (v336 : Int) (v337 : Int) (v338 : Int) (v339 : Int) (v340 : Int) (v341 : Int) =>
      some (.v (.agg #[.int .i64 v338, .int .i64 v339]))) F v318 v319 v320 v321 v322 v323) F a0 a1 a0 a1 0 0
theorem e_turn_pair_scaled (F : Nat) (a0 : Int) (a1 : Int) : funL PP (S_turn_pair_scaled F) c_turn_pair_scaled (I_turn_pair_scaled F) (J_turn_pair_scaled F) 83 (fTs ti_turn_pair_scaled [.i a0, .i a1]).1 = f_turn_pair_scaled F a0 a1 := by
  have h : ∀ (ok_turn_size : Nat → Int → Bool) (o_turn_size_0 : Nat → Int → Int) (L_turn_pair_scaled_0 : Nat → (Int → Int → Int → Int → Int → Int → R) → Nat → Int → Int → Int → Int → Int → Int → R) (L_turn_pair_scaled_1 : Nat → (Int → Int → Int → Int → Int → Int → R) → Nat → Int → Int → Int → Int → Int → Int → R), funL PP (words [(114, spec ti_turn_size to_turn_size (fun q => (ok_turn_size F (atI (nth q 0)))) (fun q => [.i (o_turn_size_0 F (atI (nth q 0)))]))]) c_turn_pair_scaled (tabI c_turn_pair_scaled [⟨0, T_turn_pair_scaled_0, fun k q => L_turn_pair_scaled_0 F (fun (z0 : Int) (z1 : Int) (z2 : Int) (z3 : Int) (z4 : Int) (z5 : Int) => k (.exit 0) (fS T_turn_pair_scaled_0_0 [.i z0, .i z1, .i z2, .i z3, .i z4, .i z5])) F (atI (nth q 0)) (atI (nth q 1)) (atI (nth q 2)) (atI (nth q 3)) (atI (nth q 4)) (atI (nth q 5))⟩, ⟨2, T_turn_pair_scaled_1, fun k q => L_turn_pair_scaled_1 F (fun (z0 : Int) (z1 : Int) (z2 : Int) (z3 : Int) (z4 : Int) (z5 : Int) => k (.exit 2) (fS T_turn_pair_scaled_1_0 [.i z0, .i z1, .i z2, .i z3, .i z4, .i z5])) F (atI (nth q 0)) (atI (nth q 1)) (atI (nth q 2)) (atI (nth q 3)) (atI (nth q 4)) (atI (nth q 5))⟩]) (tabJ []) 83 (fTs ti_turn_pair_scaled [.i a0, .i a1]).1 = (
  L_turn_pair_scaled_0 F (fun (v318 : Int) (v319 : Int) (v320 : Int) (v321 : Int) (v322 : Int) (v323 : Int) =>
    L_turn_pair_scaled_1 F (fun (v336 : Int) (v337 : Int) (v338 : Int) (v339 : Int) (v340 : Int) (v341 : Int) =>
      some (.v (.agg #[.int .i64 v338, .int .i64 v339]))) F v318 v319 v320 v321 v322 v323) F a0 a1 a0 a1 0 0 : R) := by
    intros
    kernel_rfl
  exact (h ok_turn_size o_turn_size_0 L_turn_pair_scaled_0 L_turn_pair_scaled_1).trans (by kernel_rfl)
def ok_turn_pair_scaled (F : Nat) (a0 : Int) (a1 : Int) : Bool := okT to_turn_pair_scaled (f_turn_pair_scaled F a0 a1)
def o_turn_pair_scaled_0 (F : Nat) (a0 : Int) (a1 : Int) : Int := atI (nth (outT to_turn_pair_scaled (f_turn_pair_scaled F a0 a1)) 0)
def o_turn_pair_scaled_1 (F : Nat) (a0 : Int) (a1 : Int) : Int := atI (nth (outT to_turn_pair_scaled (f_turn_pair_scaled F a0 a1)) 1)
theorem k_turn_pair_scaled (F : Nat) (a0 : Int) (a1 : Int) {z0 : Int} {z1 : Int} (h : f_turn_pair_scaled F a0 a1 = some (.v (.agg #[.int .i64 z0, .int .i64 z1]))) : ok_turn_pair_scaled F a0 a1 = true ∧ o_turn_pair_scaled_0 F a0 a1 = z0 ∧ o_turn_pair_scaled_1 F a0 a1 = z1 := by
  refine ⟨?_, ?_, ?_⟩
  · unfold ok_turn_pair_scaled; rw [h]; kernel_rfl
  · unfold o_turn_pair_scaled_0; rw [h]; kernel_rfl
  · unfold o_turn_pair_scaled_1; rw [h]; kernel_rfl
def s_turn_pair_scaled (F : Nat) : List VV → Option (Bool × VV) := spec ti_turn_pair_scaled to_turn_pair_scaled (fun q => (ok_turn_pair_scaled F (atI (nth q 0)) (atI (nth q 1)))) (fun q => [.i (o_turn_pair_scaled_0 F (atI (nth q 0)) (atI (nth q 1))), .i (o_turn_pair_scaled_1 F (atI (nth q 0)) (atI (nth q 1)))])
theorem hS_turn_pair_scaled (F : Nat) : ∀ f, Good PP f (unS (S_turn_pair_scaled F f)) := words_good fun p hp => by
  simp only [List.mem_cons, List.not_mem_nil, or_false] at hp
  rcases hp with rfl
  · exact g_turn_size F
theorem hl_turn_pair_scaled (F : Nat) : ∀ p ∈ loopsIn PP 83, LoopOK PP (S_turn_pair_scaled F) c_turn_pair_scaled F (I_turn_pair_scaled F) (J_turn_pair_scaled F) p :=
  loops_of [(0, loopAt PP 83 0), (2, loopAt PP 83 1)] (by kernel_rfl) (all_cons
    (loop_ok (W_turn_pair_scaled F) rfl (tab_cons (fun _ k q => Le.ofEq ((lL_turn_pair_scaled_0 F k F (atI (nth q 0)) (atI (nth q 1)) (atI (nth q 2)) (atI (nth q 3)) (atI (nth q 4)) (atI (nth q 5))).symm.trans (congrArg (iterC (codeL PP (S_turn_pair_scaled F) c_turn_pair_scaled (I_turn_pair_scaled F) (J_turn_pair_scaled F) (loopAt PP 83 0) 0) (headOf c_turn_pair_scaled 0) k F) (show fS T_turn_pair_scaled_0 [.i (atI (nth q 0)), .i (atI (nth q 1)), .i (atI (nth q 2)), .i (atI (nth q 3)), .i (atI (nth q 4)), .i (atI (nth q 5))] = fS T_turn_pair_scaled_0 q by kernel_rfl)))) (tab_cons (fun h => absurd h (by decide)) tab_nil))) (all_cons
    (loop_ok (W_turn_pair_scaled F) rfl (tab_cons (fun h => absurd h (by decide)) (tab_cons (fun _ k q => Le.ofEq ((lL_turn_pair_scaled_1 F k F (atI (nth q 0)) (atI (nth q 1)) (atI (nth q 2)) (atI (nth q 3)) (atI (nth q 4)) (atI (nth q 5))).symm.trans (congrArg (iterC (codeL PP (S_turn_pair_scaled F) c_turn_pair_scaled (I_turn_pair_scaled F) (J_turn_pair_scaled F) (loopAt PP 83 1) 2) (headOf c_turn_pair_scaled 2) k F) (show fS T_turn_pair_scaled_1 [.i (atI (nth q 0)), .i (atI (nth q 1)), .i (atI (nth q 2)), .i (atI (nth q 3)), .i (atI (nth q 4)), .i (atI (nth q 5))] = fS T_turn_pair_scaled_1 q by kernel_rfl)))) tab_nil))) all_nil))
theorem hj_turn_pair_scaled (F : Nat) : ∀ p ∈ joinsIn PP c_turn_pair_scaled 83, JoinOK PP (S_turn_pair_scaled F) c_turn_pair_scaled (I_turn_pair_scaled F) (J_turn_pair_scaled F) p :=
  joins_of [] (by kernel_rfl) all_nil
theorem g_turn_pair_scaled (F : Nat) : Good PP 83 (unS (s_turn_pair_scaled F)) :=
  fun_spec (hS_turn_pair_scaled F) (by kernel_rfl) (by kernel_rfl) (C := c_turn_pair_scaled) (F := fun q => (f_turn_pair_scaled F (atI (nth q 0)) (atI (nth q 1)))) (fun _ => F) (fun _ => I_turn_pair_scaled F) (fun _ => J_turn_pair_scaled F) (fun _ => hl_turn_pair_scaled F) (fun _ => hj_turn_pair_scaled F)
    (fun q => (congrArg (funL PP (S_turn_pair_scaled F) c_turn_pair_scaled (I_turn_pair_scaled F) (J_turn_pair_scaled F) 83) (show (fTs ti_turn_pair_scaled q).1 = (fTs ti_turn_pair_scaled [.i (atI (nth q 0)), .i (atI (nth q 1))]).1 by kernel_rfl)).trans (e_turn_pair_scaled F (atI (nth q 0)) (atI (nth q 1))))
    (fun _ h => (okT_fill h).trans (congrArg some (by kernel_rfl)))

end Go.Xv
set_option linter.unusedVariables false
namespace Go.Xv
/- 28 _turn_Angle -/
def c_turn_Angle : Cfg := ⟨[0, 1, 4, 5, 6, 7, 8, 9, 15, 20, 26, 27, 28, 38], [(0, [0, 1, 4, 5, 6, 10, 11, 12, 13, 14, 15, 16, 17, 18, 19, 20, 21, 22, 23, 24, 25, 26, 27, 46])], [], []⟩
def ti_turn_Angle : List TV := [.v (.int .i64), .v (.int .i64)]
def to_turn_Angle : TV := .v (.int .u32)
def S_turn_Angle (F : Nat) : FuncId → List VV → Option (Bool × VV) := words [(82, s_turn_opposite F), (83, s_turn_pair_scaled F), (76, s_turn_angles F), (77, s_turn_pair_turned F)]
def T_turn_Angle_0 : TS := ⟨[(0, .v (.int .i64)), (1, .v (.int .i64)), (4, .v (.int .u32)), (5, .lp 0 (.lit 0)), (6, .v (.int .u32)), (26, .v (.agg [.int .i64, .int .i64, .int .i64, .int .i64, .int .i64, .int .i64, .int .i64, .int .i64, .int .i64, .int .i64, .int .i64, .int .i64, .int .i64, .int .i64, .int .i64, .int .i64, .int .i64, .int .i64, .int .i64, .int .i64, .int .i64, .int .i64, .int .i64, .int .i64, .int .i64, .int .i64, .int .i64, .int .i64, .int .i64, .int .i64])), (27, .v (.int .i64))], [(0, ⟨(.ex [.v (.int .i64), .v (.int .i64)]), true⟩)], 1⟩
def T_turn_Angle_0_0 : TS := ⟨[(0, .v (.int .i64)), (1, .v (.int .i64)), (4, .v (.int .u32)), (5, .lp 0 (.lit 0)), (6, .v (.int .u32)), (26, .v (.agg [.int .i64, .int .i64, .int .i64, .int .i64, .int .i64, .int .i64, .int .i64, .int .i64, .int .i64, .int .i64, .int .i64, .int .i64, .int .i64, .int .i64, .int .i64, .int .i64, .int .i64, .int .i64, .int .i64, .int .i64, .int .i64, .int .i64, .int .i64, .int .i64, .int .i64, .int .i64, .int .i64, .int .i64, .int .i64, .int .i64])), (27, .v (.int .i64))], [(0, ⟨(.ex [.v (.int .i64), .v (.int .i64)]), true⟩)], 1⟩
def B_turn_Angle_0 (F : Nat) (rc : Int → Int → Int → Int → Int → Int → Int → Int → Int → Int → Int → Int → Int → Int → Int → Int → Int → Int → Int → Int → Int → Int → Int → Int → Int → Int → Int → Int → Int → Int → Int → Int → Int → Int → Int → Int → Int → R) (ex0 : Int → Int → Int → Int → Int → Int → Int → Int → Int → Int → Int → Int → Int → Int → Int → Int → Int → Int → Int → Int → Int → Int → Int → Int → Int → Int → Int → Int → Int → Int → Int → Int → Int → Int → Int → Int → Int → R) (x0 : Int) (x1 : Int) (x2 : Int) (x3 : Int) (x4 : Int) (x5 : Int) (x6 : Int) (x7 : Int) (x8 : Int) (x9 : Int) (x10 : Int) (x11 : Int) (x12 : Int) (x13 : Int) (x14 : Int) (x15 : Int) (x16 : Int) (x17 : Int) (x18 : Int) (x19 : Int) (x20 : Int) (x21 : Int) (x22 : Int) (x23 : Int) (x24 : Int) (x25 : Int) (x26 : Int) (x27 : Int) (x28 : Int) (x29 : Int) (x30 : Int) (x31 : Int) (x32 : Int) (x33 : Int) (x34 : Int) (x35 : Int) (x36 : Int) : R :=
  bif ((decide (x34 < 30))) then (
    bif (((decide (0 ≤ x34)) && (decide (x34 < 30))) && ((isI .i64 [.v (.int .i64 x4), .v (.int .i64 x5), .v (.int .i64 x6), .v (.int .i64 x7), .v (.int .i64 x8), .v (.int .i64 x9), .v (.int .i64 x10), .v (.int .i64 x11), .v (.int .i64 x12), .v (.int .i64 x13), .v (.int .i64 x14), .v (.int .i64 x15), .v (.int .i64 x16), .v (.int .i64 x17), .v (.int .i64 x18), .v (.int .i64 x19), .v (.int .i64 x20), .v (.int .i64 x21), .v (.int .i64 x22), .v (.int .i64 x23), .v (.int .i64 x24), .v (.int .i64 x25), .v (.int .i64 x26), .v (.int .i64 x27), .v (.int .i64 x28), .v (.int .i64 x29), .v (.int .i64 x30), .v (.int .i64 x31), .v (.int .i64 x32), .v (.int .i64 x33)][((Int.toNat x34) * 1)]?) && true)) then (
      let v412 : Int := (iv [.v (.int .i64 x4), .v (.int .i64 x5), .v (.int .i64 x6), .v (.int .i64 x7), .v (.int .i64 x8), .v (.int .i64 x9), .v (.int .i64 x10), .v (.int .i64 x11), .v (.int .i64 x12), .v (.int .i64 x13), .v (.int .i64 x14), .v (.int .i64 x15), .v (.int .i64 x16), .v (.int .i64 x17), .v (.int .i64 x18), .v (.int .i64 x19), .v (.int .i64 x20), .v (.int .i64 x21), .v (.int .i64 x22), .v (.int .i64 x23), .v (.int .i64 x24), .v (.int .i64 x25), .v (.int .i64 x26), .v (.int .i64 x27), .v (.int .i64 x28), .v (.int .i64 x29), .v (.int .i64 x30), .v (.int .i64 x31), .v (.int .i64 x32), .v (.int .i64 x33)][((Int.toNat x34) * 1)]?)
      let v413 : Bool := (decide (x36 < 0))
      bif (ok_turn_pair_turned F x35 x36 x34 v413) then (
        let v414 : Int := (o_turn_pair_turned_0 F x35 x36 x34 v413)
        let v415 : Int := (o_turn_pair_turned_1 F x35 x36 x34 v413)
        bif v413 then (
          rc x0 x1 x2 ((IntKind.wrap .u32 (x3 + ((IntKind.wrap .u32 ((IntKind.wrap .i64 (0 - v412)))))))) x4 x5 x6 x7 x8 x9 x10 x11 x12 x13 x14 x15 x16 x17 x18 x19 x20 x21 x22 x23 x24 x25 x26 x27 x28 x29 x30 x31 x32 x33 ((IntKind.wrap .i64 (x34 + 1))) v414 v415)
        else (
          rc x0 x1 x2 ((IntKind.wrap .u32 (x3 + ((IntKind.wrap .u32 v412))))) x4 x5 x6 x7 x8 x9 x10 x11 x12 x13 x14 x15 x16 x17 x18 x19 x20 x21 x22 x23 x24 x25 x26 x27 x28 x29 x30 x31 x32 x33 ((IntKind.wrap .i64 (x34 + 1))) v414 v415))
      else (
        none))
    else (
      none))
  else (
    ex0 x0 x1 x2 x3 x4 x5 x6 x7 x8 x9 x10 x11 x12 x13 x14 x15 x16 x17 x18 x19 x20 x21 x22 x23 x24 x25 x26 x27 x28 x29 x30 x31 x32 x33 x34 x35 x36)
def L_turn_Angle_0 (F : Nat) (ex0 : Int → Int → Int → Int → Int → Int → Int → Int → Int → Int → Int → Int → Int → Int → Int → Int → Int → Int → Int → Int → Int → Int → Int → Int → Int → Int → Int → Int → Int → Int → Int → Int → Int → Int → Int → Int → Int → R) : Nat → Int → Int → Int → Int → Int → Int → Int → Int → Int → Int → Int → Int → Int → Int → Int → Int → Int → Int → Int → Int → Int → Int → Int → Int → Int → Int → Int → Int → Int → Int → Int → Int → Int → Int → Int → Int → Int → R
  | 0, _, _, _, _, _, _, _, _, _, _, _, _, _, _, _, _, _, _, _, _, _, _, _, _, _, _, _, _, _, _, _, _, _, _, _, _, _ => none
  | n + 1, x0, x1, x2, x3, x4, x5, x6, x7, x8, x9, x10, x11, x12, x13, x14, x15, x16, x17, x18, x19, x20, x21, x22, x23, x24, x25, x26, x27, x28, x29, x30, x31, x32, x33, x34, x35, x36 => B_turn_Angle_0 F (L_turn_Angle_0 F ex0 n) ex0 x0 x1 x2 x3 x4 x5 x6 x7 x8 x9 x10 x11 x12 x13 x14 x15 x16 x17 x18 x19 x20 x21 x22 x23 x24 x25 x26 x27 x28 x29 x30 x31 x32 x33 x34 x35 x36
def W_turn_Angle (F : Nat) : List LW := [⟨0, T_turn_Angle_0, fun k q => L_turn_Angle_0 F (fun (z0 : Int) (z1 : Int) (z2 : Int) (z3 : Int) (z4 : Int) (z5 : Int) (z6 : Int) (z7 : Int) (z8 : Int) (z9 : Int) (z10 : Int) (z11 : Int) (z12 : Int) (z13 : Int) (z14 : Int) (z15 : Int) (z16 : Int) (z17 : Int) (z18 : Int) (z19 : Int) (z20 : Int) (z21 : Int) (z22 : Int) (z23 : Int) (z24 : Int) (z25 : Int) (z26 : Int) (z27 : Int) (z28 : Int) (z29 : Int) (z30 : Int) (z31 : Int) (z32 : Int) (z33 : Int) (z34 : Int) (z35 : Int) (z36 : Int) => k (.exit 0) (fS T_turn_Angle_0_0 [.i z0, .i z1, .i z2, .i z3, .i z4, .i z5, .i z6, .i z7, .i z8, .i z9, .i z10, .i z11, .i z12, .i z13, .i z14, .i z15, .i z16, .i z17, .i z18, .i z19, .i z20, .i z21, .i z22, .i z23, .i z24, .i z25, .i z26, .i z27, .i z28, .i z29, .i z30, .i z31, .i z32, .i z33, .i z34, .i z35, .i z36])) F (atI (nth q 0)) (atI (nth q 1)) (atI (nth q 2)) (atI (nth q 3)) (atI (nth q 4)) (atI (nth q 5)) (atI (nth q 6)) (atI (nth q 7)) (atI (nth q 8)) (atI (nth q 9)) (atI (nth q 10)) (atI (nth q 11)) (atI (nth q 12)) (atI (nth q 13)) (atI (nth q 14)) (atI (nth q 15)) (atI (nth q 16)) (atI (nth q 17)) (atI (nth q 18)) (atI (nth q 19)) (atI (nth q 20)) (atI (nth q 21)) (atI (nth q 22)) (atI (nth q 23)) (atI (nth q 24)) (atI (nth q 25)) (atI (nth q 26)) (atI (nth q 27)) (atI (nth q 28)) (atI (nth q 29)) (atI (nth q 30)) (atI (nth q 31)) (atI (nth q 32)) (atI (nth q 33)) (atI (nth q 34)) (atI (nth q 35)) (atI (nth q 36))⟩]
def I_turn_Angle (F : Nat) : Nat → VS → (Exit → VS → R) → R := tabI c_turn_Angle (W_turn_Angle F)
def WJ_turn_Angle (F : Nat) : List LJ := []
def J_turn_Angle (F : Nat) : Nat → Nat → VS → (Exit → VS → R) → R := tabJ (WJ_turn_Angle F)
theorem lL_turn_Angle_0 (F : Nat) (k : Exit → VS → R) : ∀ (n : Nat) (x0 : Int) (x1 : Int) (x2 : Int) (x3 : Int) (x4 : Int) (x5 : Int) (x6 : Int) (x7 : Int) (x8 : Int) (x9 : Int) (x10 : Int) (x11 : Int) (x12 : Int) (x13 : Int) (x14 : Int) (x15 : Int) (x16 : Int) (x17 : Int) (x18 : Int) (x19 : Int) (x20 : Int) (x21 : Int) (x22 : Int) (x23 : Int) (x24 : Int) (x25 : Int) (x26 : Int) (x27 : Int) (x28 : Int) (x29 : Int) (x30 : Int) (x31 : Int) (x32 : Int) (x33 : Int) (x34 : Int) (x35 : Int) (x36 : Int), iterC (codeL PP (S_turn_Angle F) c_turn_Angle (I_turn_Angle F) (J_turn_Angle F) (loopAt PP 28 0) 0) (headOf c_turn_Angle 0) k n (fS T_turn_Angle_0 [.i x0, .i x1, .i x2, .i x3, .i x4, .i x5, .i x6, .i x7, .i x8, .i x9, .i x10, .i x11, .i x12, .i x13, .i x14, .i x15, .i x16, .i x17, .i x18, .i x19, .i x20, .i x21, .i x22, .i x23, .i x24, .i x25, .i x26, .i x27, .i x28, .i x29, .i x30, .i x31, .i x32, .i x33, .i x34, .i x35, .i x36]) = L_turn_Angle_0 F (fun (z0 : Int) (z1 : Int) (z2 : Int) (z3 : Int) (z4 : Int) (z5 : Int) (z6 : Int) (z7 : Int) (z8 : Int) (z9 : Int) (z10 : Int) (z11 : Int) (z12 : Int) (z13 : Int) (z14 : Int) (z15 : Int) (z16 : Int) (z17 : Int) (z18 : Int) (z19 : Int) (z20 : Int) (z21 : Int) (z22 : Int) (z23 : Int) (z24 : Int) (z25 : Int) (z26 : Int) (z27 : Int) (z28 : Int) (z29 : Int) (z30 : Int) (z31 : Int) (z32 : Int) (z33 : Int) (z34 : Int) (z35 : Int) (z36 : Int) => k (.exit 0) (fS T_turn_Angle_0_0 [.i z0, .i z1, .i z2, .i z3, .i z4, .i z5, .i z6, .i z7, .i z8, .i z9, .i z10, .i z11, .i z12, .i z13, .i z14, .i z15, .i z16, .i z17, .i z18, .i z19, .i z20, .i z21, .i z22, .i z23, .i z24, .i z25, .i z26, .i z27, .i z28, .i z29, .i z30, .i z31, .i z32, .i z33, .i z34, .i z35, .i z36])) n x0 x1 x2 x3 x4 x5 x6 x7 x8 x9 x10 x11 x12 x13 x14 x15 x16 x17 x18 x19 x20 x21 x22 x23 x24 x25 x26 x27 x28 x29 x30 x31 x32 x33 x34 x35 x36
  | 0, _, _, _, _, _, _, _, _, _, _, _, _, _, _, _, _, _, _, _, _, _, _, _, _, _, _, _, _, _, _, _, _, _, _, _, _, _ => rfl
  | n + 1, x0, x1, x2, x3, x4, x5, x6, x7, x8, x9, x10, x11, x12, x13, x14, x15, x16, x17, x18, x19, x20, x21, x22, x23, x24, x25, x26, x27, x28, x29, x30, x31, x32, x33, x34, x35, x36 => by
    have h0 : ∀ (ok_turn_opposite : Nat → Int → Int → Bool) (o_turn_opposite_0 : Nat → Int → Int → Int) (o_turn_opposite_1 : Nat → Int → Int → Int) (ok_turn_pair_scaled : Nat → Int → Int → Bool) (o_turn_pair_scaled_0 : Nat → Int → Int → Int) (o_turn_pair_scaled_1 : Nat → Int → Int → Int) (ok_turn_angles : Nat → Bool) (o_turn_angles_0 : Nat → Int) (o_turn_angles_1 : Nat → Int) (o_turn_angles_2 : Nat → Int) (o_turn_angles_3 : Nat → Int) (o_turn_angles_4 : Nat → Int) (o_turn_angles_5 : Nat → Int) (o_turn_angles_6 : Nat → Int) (o_turn_angles_7 : Nat → Int) (o_turn_angles_8 : Nat → Int) (o_turn_angles_9 : Nat → Int) (o_turn_angles_10 : Nat → Int) (o_turn_angles_11 : Nat → Int) (o_turn_angles_12 : Nat → Int) (o_turn_angles_13 : Nat → Int) (o_turn_angles_14 : Nat → Int) (o_turn_angles_15 : Nat → Int) (o_turn_angles_16 : Nat → Int) (o_turn_angles_17 : Nat → Int) (o_turn_angles_18 : Nat → Int) (o_turn_angles_19 : Nat → Int) (o_turn_angles_20 : Nat → Int) (o_turn_angles_21 : Nat → Int) (o_turn_angles_22 : Nat → Int) (o_turn_angles_23 : Nat → Int) (o_turn_angles_24 : Nat → Int) (o_turn_angles_25 : Nat → Int) (o_turn_angles_26 : Nat → Int) (o_turn_angles_27 : Nat → Int) (o_turn_angles_28 : Nat → Int) (o_turn_angles_29 : Nat → Int) (ok_turn_pair_turned : Nat → Int → Int → Int → Bool → Bool) (o_turn_pair_turned_0 : Nat → Int → Int → Int → Bool → Int) (o_turn_pair_turned_1 : Nat → Int → Int → Int → Bool → Int) (L_turn_Angle_0 : Nat → (Int → Int → Int → Int → Int → Int → Int → Int → Int → Int → Int → Int → Int → Int → Int → Int → Int → Int → Int → Int → Int → Int → Int → Int → Int → Int → Int → Int → Int → Int → Int → Int → Int → Int → Int → Int → Int → R) → Nat → Int → Int → Int → Int → Int → Int → Int → Int → Int → Int → Int → Int → Int → Int → Int → Int → Int → Int → Int → Int → Int → Int → Int → Int → Int → Int → Int → Int → Int → Int → Int → Int → Int → Int → Int → Int → Int → R), iterC (codeL PP (words [(82, spec ti_turn_opposite to_turn_opposite (fun q => (ok_turn_opposite F (atI (nth q 0)) (atI (nth q 1)))) (fun q => [.i (o_turn_opposite_0 F (atI (nth q 0)) (atI (nth q 1))), .i (o_turn_opposite_1 F (atI (nth q 0)) (atI (nth q 1)))])), (83, spec ti_turn_pair_scaled to_turn_pair_scaled (fun q => (ok_turn_pair_scaled F (atI (nth q 0)) (atI (nth q 1)))) (fun q => [.i (o_turn_pair_scaled_0 F (atI (nth q 0)) (atI (nth q 1))), .i (o_turn_pair_scaled_1 F (atI (nth q 0)) (atI (nth q 1)))])), (76, spec ti_turn_angles to_turn_angles (fun q => (ok_turn_angles F )) (fun q => [.i (o_turn_angles_0 F ), .i (o_turn_angles_1 F ), .i (o_turn_angles_2 F ), .i (o_turn_angles_3 F ), .i (o_turn_angles_4 F ), .i (o_turn_angles_5 F ), .i (o_turn_angles_6 F ), .i (o_turn_angles_7 F ), .i (o_turn_angles_8 F ), .i (o_turn_angles_9 F ), .i (o_turn_angles_10 F ), .i (o_turn_angles_11 F ), .i (o_turn_angles_12 F ), .i (o_turn_angles_13 F ), .i (o_turn_angles_14 F ), .i (o_turn_angles_15 F ), .i (o_turn_angles_16 F ), .i (o_turn_angles_17 F ), .i (o_turn_angles_18 F ), .i (o_turn_angles_19 F ), .i (o_turn_angles_20 F ), .i (o_turn_angles_21 F ), .i (o_turn_angles_22 F ), .i (o_turn_angles_23 F ), .i (o_turn_angles_24 F ), .i (o_turn_angles_25 F ), .i (o_turn_angles_26 F ), .i (o_turn_angles_27 F ), .i (o_turn_angles_28 F ), .i (o_turn_angles_29 F )])), (77, spec ti_turn_pair_turned to_turn_pair_turned (fun q => (ok_turn_pair_turned F (atI (nth q 0)) (atI (nth q 1)) (atI (nth q 2)) (atB (nth q 3)))) (fun q => [.i (o_turn_pair_turned_0 F (atI (nth q 0)) (atI (nth q 1)) (atI (nth q 2)) (atB (nth q 3))), .i (o_turn_pair_turned_1 F (atI (nth q 0)) (atI (nth q 1)) (atI (nth q 2)) (atB (nth q 3)))]))]) c_turn_Angle (tabI c_turn_Angle [⟨0, T_turn_Angle_0, fun k q => L_turn_Angle_0 F (fun (z0 : Int) (z1 : Int) (z2 : Int) (z3 : Int) (z4 : Int) (z5 : Int) (z6 : Int) (z7 : Int) (z8 : Int) (z9 : Int) (z10 : Int) (z11 : Int) (z12 : Int) (z13 : Int) (z14 : Int) (z15 : Int) (z16 : Int) (z17 : Int) (z18 : Int) (z19 : Int) (z20 : Int) (z21 : Int) (z22 : Int) (z23 : Int) (z24 : Int) (z25 : Int) (z26 : Int) (z27 : Int) (z28 : Int) (z29 : Int) (z30 : Int) (z31 : Int) (z32 : Int) (z33 : Int) (z34 : Int) (z35 : Int) (z36 : Int) => k (.exit 0) (fS T_turn_Angle_0_0 [.i z0, .i z1, .i z2, .i z3, .i z4, .i z5, .i z6, .i z7, .i z8, .i z9, .i z10, .i z11, .i z12, .i z13, .i z14, .i z15, .i z16, .i z17, .i z18, .i z19, .i z20, .i z21, .i z22, .i z23, .i z24, .i z25, .i z26, .i z27, .i z28, .i z29, .i z30, .i z31, .i z32, .i z33, .i z34, .i z35, .i z36])) F (atI (nth q 0)) (atI (nth q 1)) (atI (nth q 2)) (atI (nth q 3)) (atI (nth q 4)) (atI (nth q 5)) (atI (nth q 6)) (atI (nth q 7)) (atI (nth q 8)) (atI (nth q 9)) (atI (nth q 10)) (atI (nth q 11)) (atI (nth q 12)) (atI (nth q 13)) (atI (nth q 14)) (atI (nth q 15)) (atI (nth q 16)) (atI (nth q 17)) (atI (nth q 18)) (atI (nth q 19)) (atI (nth q 20)) (atI (nth q 21)) (atI (nth q 22)) (atI (nth q 23)) (atI (nth q 24)) (atI (nth q 25)) (atI (nth q 26)) (atI (nth q 27)) (atI (nth q 28)) (atI (nth q 29)) (atI (nth q 30)) (atI (nth q 31)) (atI (nth q 32)) (atI (nth q 33)) (atI (nth q 34)) (atI (nth q 35)) (atI (nth q 36))⟩]) (tabJ []) (loopAt PP 28 0) 0) (headOf c_turn_Angle 0) k (n + 1) (fS T_turn_Angle_0 [.i x0, .i x1, .i x2, .i x3, .i x4, .i x5, .i x6, .i x7, .i x8, .i x9, .i x10, .i x11, .i x12, .i x13, .i x14, .i x15, .i x16, .i x17, .i x18, .i x19, .i x20, .i x21, .i x22, .i x23, .i x24, .i x25, .i x26, .i x27, .i x28, .i x29, .i x30, .i x31, .i x32, .i x33, .i x34, .i x35, .i x36]) = (fun (rc : Int → Int → Int → Int → Int → Int → Int → Int → Int → Int → Int → Int → Int → Int → Int → Int → Int → Int → Int → Int → Int → Int → Int → Int → Int → Int → Int → Int → Int → Int → Int → Int → Int → Int → Int → Int → Int → R) (ex0 : Int → Int → Int → Int → Int → Int → Int → Int → Int → Int → Int → Int → Int → Int → Int → Int → Int → Int → Int → Int → Int → Int → Int → Int → Int → Int → Int → Int → Int → Int → Int → Int → Int → Int → Int → Int → Int → R) (x0 : Int) (x1 : Int) (x2 : Int) (x3 : Int) (x4 : Int) (x5 : Int) (x6 : Int) (x7 : Int) (x8 : Int) (x9 : Int) (x10 : Int) (x11 : Int) (x12 : Int) (x13 : Int) (x14 : Int) (x15 : Int) (x16 : Int) (x17 : Int) (x18 : Int) (x19 : Int) (x20 : Int) (x21 : Int) (x22 : Int) (x23 : Int) (x24 : Int) (x25 : Int) (x26 : Int) (x27 : Int) (x28 : Int) (x29 : Int) (x30 : Int) (x31 : Int) (x32 : Int) (x33 : Int) (x34 : Int) (x35 : Int) (x36 : Int) => (
  bif ((decide (x34 < 30))) then (
    bif (((decide (0 ≤ x34)) && (decide (x34 < 30))) && ((isI .i64 [.v (.int .i64 x4), .v (.int .i64 x5), .v (.int .i64 x6), .v (.int .i64 x7), .v (.int .i64 x8), .v (.int .i64 x9), .v (.int .i64 x10), .v (.int .i64 x11), .v (.int .i64 x12), .v (.int .i64 x13), .v (.int .i64 x14), .v (.int .i64 x15), .v (.int .i64 x16), .v (.int .i64 x17), .v (.int .i64 x18), .v (.int .i64 x19), .v (.int .i64 x20), .v (.int .i64 x21), .v (.int .i64 x22), .v (.int .i64 x23), .v (.int .i64 x24), .v (.int .i64 x25), .v (.int .i64 x26), .v (.int .i64 x27), .v (.int .i64 x28), .v (.int .i64 x29), .v (.int .i64 x30), .v (.int .i64 x31), .v (.int .i64 x32), .v (.int .i64 x33)][((Int.toNat x34) * 1)]?) && true)) then (
      let v412 : Int := (iv [.v (.int .i64 x4), .v (.int .i64 x5), .v (.int .i64 x6), .v (.int .i64 x7), .v (.int .i64 x8), .v (.int .i64 x9), .v (.int .i64 x10), .v (.int .i64 x11), .v (.int .i64 x12), .v (.int .i64 x13), .v (.int .i64 x14), .v (.int .i64 x15), .v (.int .i64 x16), .v (.int .i64 x17), .v (.int .i64 x18), .v (.int .i64 x19), .v (.int .i64 x20), .v (.int .i64 x21), .v (.int .i64 x22), .v (.int .i64 x23), .v (.int .i64 x24), .v (.int .i64 x25), .v (.int .i64 x26), .v (.int .i64 x27), .v (.int .i64 x28), .v (.int .i64 x29), .v (.int .i64 x30), .v (.int .i64 x31), .v (.int .i64 x32), .v (.int .i64 x33)][((Int.toNat x34) * 1)]?)
      let v413 : Bool := (decide (x36 < 0))
      bif (ok_turn_pair_turned F x35 x36 x34 v413) then (
        let v414 : Int := (o_turn_pair_turned_0 F x35 x36 x34 v413)
        let v415 : Int := (o_turn_pair_turned_1 F x35 x36 x34 v413)
        bif v413 then (
          rc x0 x1 x2 ((IntKind.wrap .u32 (x3 + ((IntKind.wrap .u32 ((IntKind.wrap .i64 (0 - v412)))))))) x4 x5 x6 x7 x8 x9 x10 x11 x12 x13 x14 x15 x16 x17 x18 x19 x20 x21 x22 x23 x24 x25 x26 x27 x28 x29 x30 x31 x32 x33 ((IntKind.wrap .i64 (x34 + 1))) v414 v415)
        else (
          rc x0 x1 x2 ((IntKind.wrap .u32 (x3 + ((IntKind.wrap .u32 v412))))) x4 x5 x6 x7 x8 x9 x10 x11 x12 x13 x14 x15 x16 x17 x18 x19 x20 x21 x22 x23 x24 x25 x26 x27 x28 x29 x30 x31 x32 x33 ((IntKind.wrap .i64 (x34 + 1))) v414 v415))
      else (
        none))
    else (
      none))
  else (
    ex0 x0 x1 x2 x3 x4 x5 x6 x7 x8 x9 x10 x11 x12 x13 x14 x15 x16 x17 x18 x19 x20 x21 x22 x23 x24 x25 x26 x27 x28 x29 x30 x31 x32 x33 x34 x35 x36) : R)) (fun (y0 : Int) (y1 : Int) (y2 : Int) (y3 : Int) (y4 : Int) (y5 : Int) (y6 : Int) (y7 : Int) (y8 : Int) (y9 : Int) (y10 : Int) (y11 : Int) (y12 : Int) (y13 : Int) (y14 : Int) (y15 : Int) (y16 : Int) (y17 : Int) (y18 : Int) (y19 : Int) (y20 : Int) (y21 : Int) (y22 : Int) (y23 : Int) (y24 : Int) (y25 : Int) (y26 : Int) (y27 : Int) (y28 : Int) (y29 : Int) (y30 : Int) (y31 : Int) (y32 : Int) (y33 : Int) (y34 : Int) (y35 : Int) (y36 : Int) => iterC (codeL PP (words [(82, spec ti_turn_opposite to_turn_opposite (fun q => (ok_turn_opposite F (atI (nth q 0)) (atI (nth q 1)))) (fun q => [.i (o_turn_opposite_0 F (atI (nth q 0)) (atI (nth q 1))), .i (o_turn_opposite_1 F (atI (nth q 0)) (atI (nth q 1)))])), (83, spec ti_turn_pair_scaled to_turn_pair_scaled (fun q => (ok_turn_pair_scaled F (atI (nth q 0)) (atI (nth q 1)))) (fun q => [.i (o_turn_pair_scaled_0 F (atI (nth q 0)) (atI (nth q 1))), .i (o_turn_pair_scaled_1 F (atI (nth q 0)) (atI (nth q 1)))])), (76, spec ti_turn_angles to_turn_angles (fun q => (ok_turn_angles F )) (fun q => [.i (o_turn_angles_0 F ), .i (o_turn_angles_1 F ), .i (o_turn_angles_2 F ), .i (o_turn_angles_3 F ), .i (o_turn_angles_4 F ), .i (o_turn_angles_5 F ), .i (o_turn_angles_6 F ), .i (o_turn_angles_7 F ), .i (o_turn_angles_8 F ), .i (o_turn_angles_9 F ), .i (o_turn_angles_10 F ), .i (o_turn_angles_11 F ), .i (o_turn_angles_12 F ), .i (o_turn_angles_13 F ), .i (o_turn_angles_14 F ), .i (o_turn_angles_15 F ), .i (o_turn_angles_16 F ), .i (o_turn_angles_17 F ), .i (o_turn_angles_18 F ), .i (o_turn_angles_19 F ), .i (o_turn_angles_20 F ), .i (o_turn_angles_21 F ), .i (o_turn_angles_22 F ), .i (o_turn_angles_23 F ), .i (o_turn_angles_24 F ), .i (o_turn_angles_25 F ), .i (o_turn_angles_26 F ), .i (o_turn_angles_27 F ), .i (o_turn_angles_28 F ), .i (o_turn_angles_29 F )])), (77, spec ti_turn_pair_turned to_turn_pair_turned (fun q => (ok_turn_pair_turned F (atI (nth q 0)) (atI (nth q 1)) (atI (nth q 2)) (atB (nth q 3)))) (fun q => [.i (o_turn_pair_turned_0 F (atI (nth q 0)) (atI (nth q 1)) (atI (nth q 2)) (atB (nth q 3))), .i (o_turn_pair_turned_1 F (atI (nth q 0)) (atI (nth q 1)) (atI (nth q 2)) (atB (nth q 3)))]))]) c_turn_Angle (tabI c_turn_Angle [⟨0, T_turn_Angle_0, fun k q => L_turn_Angle_0 F (fun (z0 : Int) (z1 : Int) (z2 : Int) (z3 : Int) (z4 : Int) (z5 : Int) (z6 : Int) (z7 : Int) (z8 : Int) (z9 : Int) (z10 : Int) (z11 : Int) (z12 : Int) (z13 : Int) (z14 : Int) (z15 : Int) (z16 : Int) (z17 : Int) (z18 : Int) (z19 : Int) (z20 : Int) (z21 : Int) (z22 : Int) (z23 : Int) (z24 : Int) (z25 : Int) (z26 : Int) (z27 : Int) (z28 : Int) (z29 : Int) (z30 : Int) (z31 : Int) (z32 : Int) (z33 : Int) (z34 : Int) (z35 : Int) (z36 : Int) => k (.exit 0) (fS T_turn_Angle_0_0 [.i z0, .i z1, .i z2, .i z3, .i z4, .i z5, .i z6, .i z7, .i z8, .i z9, .i z10, .i z11, .i z12, .i z13, .i z14, .i z15, .i z16, .i z17, .i z18, .i z19, .i z20, .i z21, .i z22, .i z23, .i z24, .i z25, .i z26, .i z27, .i z28, .i z29, .i z30, .i z31, .i z32, .i z33, .i z34, .i z35, .i z36])) F (atI (nth q 0)) (atI (nth q 1)) (atI (nth q 2)) (atI (nth q 3)) (atI (nth q 4)) (atI (nth q 5)) (atI (nth q 6)) (atI (nth q 7)) (atI (nth q 8)) (atI (nth q 9)) (atI (nth q 10)) (atI (nth q 11)) (atI (nth q 12)) (atI (nth q 13)) (atI (nth q 14)) (atI (nth q 15)) (atI (nth q 16)) (atI (nth q 17)) (atI (nth q 18)) (atI (nth q 19)) (atI (nth q 20)) (atI (nth q 21)) (atI (nth q 22)) (atI (nth q 23)) (atI (nth q 24)) (atI (nth q 25)) (atI (nth q 26)) (atI (nth q 27)) (atI (nth q 28)) (atI (nth q 29)) (atI (nth q 30)) (atI (nth q 31)) (atI (nth q 32)) (atI (nth q 33)) (atI (nth q 34)) (atI (nth q 35)) (atI (nth q 36))⟩]) (tabJ []) (loopAt PP 28 0) 0) (headOf c_turn_Angle 0) k n (fS T_turn_Angle_0 [.i y0, .i y1, .i y2, .i y3, .i y4, .i y5, .i y6, .i y7, .i y8, .i y9, .i y10, .i y11, .i y12, .i y13, .i y14, .i y15, .i y16, .i y17, .i y18, .i y19, .i y20, .i y21, .i y22, .i y23, .i y24, .i y25, .i y26, .i y27, .i y28, .i y29, .i y30, .i y31, .i y32, .i y33, .i y34, .i y35, .i y36])) (fun (z0 : Int) (z1 : Int) (z2 : Int) (z3 : Int) (z4 : Int) (z5 : Int) (z6 : Int) (z7 : Int) (z8 : Int) (z9 : Int) (z10 : Int) (z11 : Int) (z12 : Int) (z13 : Int) (z14 : Int) (z15 : Int) (z16 : Int) (z17 : Int) (z18 : Int) (z19 : Int) (z20 : Int) (z21 : Int) (z22 : Int) (z23 : Int) (z24 : Int) (z25 : Int) (z26 : Int) (z27 : Int) (z28 : Int) (z29 : Int) (z30 : Int) (z31 : Int) (z32 : Int) (z33 : Int) (z34 : Int) (z35 : Int) (z36 : Int) => k (.exit 0) (fS T_turn_Angle_0_0 [.i z0, .i z1, .i z2, .i z3, .i z4, .i z5, .i z6, .i z7, .i z8, .i z9, .i z10, .i z11, .i z12, .i z13, .i z14, .i z15, .i z16, .i z17, .i z18, .i z19, .i z20, .i z21, .i z22, .i z23, .i z24, .i z25, .i z26, .i z27, .i z28, .i z29, .i z30, .i z31, .i z32, .i z33, .i z34, .i z35, .i z36])) x0 x1 x2 x3 x4 x5 x6 x7 x8 x9 x10 x11 x12 x13 x14 x15 x16 x17 x18 x19 x20 x21 x22 x23 x24 x25 x26 x27 x28 x29 x30 x31 x32 x33 x34 x35 x36 := by
      intros
      kernel_rfl
    have h : iterC (codeL PP (S_turn_Angle F) c_turn_Angle (I_turn_Angle F) (J_turn_Angle F) (loopAt PP 28 0) 0) (headOf c_turn_Angle 0) k (n + 1) (fS T_turn_Angle_0 [.i x0, .i x1, .i x2, .i x3, .i x4, .i x5, .i x6, .i x7, .i x8, .i x9, .i x10, .i x11, .i x12, .i x13, .i x14, .i x15, .i x16, .i x17, .i x18, .i x19, .i x20, .i x21, .i x22, .i x23, .i x24, .i x25, .i x26, .i x27, .i x28, .i x29, .i x30, .i x31, .i x32, .i x33, .i x34, .i x35, .i x36]) = B_turn_Angle_0 F (fun (y0 : Int) (y1 : Int) (y2 : Int) (y3 : Int) (y4 : Int) (y5 : Int) (y6 : Int) (y7 : Int) (y8 : Int) (y9 : Int) (y10 : Int) (y11 : Int) (y12 : Int) (y13 : Int) (y14 : Int) (y15 : Int) (y16 : Int) (y17 : Int) (y18 : Int) (y19 : Int) (y20 : Int) (y21 : Int) (y22 : Int) (y23 : Int) (y24 : Int) (y25 : Int) (y26 : Int) (y27 : Int) (y28 : Int) (y29 : Int) (y30 : Int) (y31 : Int) (y32 : Int) (y33 : Int) (y34 : Int) (y35 : Int) (y36 : Int) => iterC (codeL PP (S_turn_Angle F) c_turn_Angle (I_turn_Angle F) (J_turn_Angle F) (loopAt PP 28 0) 0) (headOf c_turn_Angle 0) k n (fS T_turn_Angle_0 [.i y0, .i y1, .i y2, .i y3, .i y4, .i y5, .i y6, .i y7, .i y8, .i y9, .i y10, .i y11, .i y12, .i y13, .i y14, .i y15, .i y16, .i y17, .i y18, .i y19, .i y20, .i y21, .i y22, .i y23, .i y24, .i y25, .i y26, .i y27, .i y28, .i y29, .i y30, .i y31, .i y32, .i y33, .i y34, .i y35, .i y36])) (fun (z0 : Int) (z1 : Int) (z2 : Int) (z3 : Int) (z4 : Int) (z5 : Int) (z6 : Int) (z7 : Int) (z8 : Int) (z9 : Int) (z10 : Int) (z11 : Int) (z12 : Int) (z13 : Int) (z14 : Int) (z15 : Int) (z16 : Int) (z17 : Int) (z18 : Int) (z19 : Int) (z20 : Int) (z21 : Int) (z22 : Int) (z23 : Int) (z24 : Int) (z25 : Int) (z26 : Int) (z27 : Int) (z28 : Int) (z29 : Int) (z30 : Int) (z31 : Int) (z32 : Int) (z33 : Int) (z34 : Int) (z35 : Int) (z36 : Int) => k (.exit 0) (fS T_turn_Angle_0_0 [.i z0, .i z1, .i z2, .i z3, .i z4, .i z5, .i z6, .i z7, .i z8, .i z9, .i z10, .i z11, .i z12, .i z13, .i z14, .i z15, .i z16, .i z17, .i z18, .i z19, .i z20, .i z21, .i z22, .i z23, .i z24, .i z25, .i z26, .i z27, .i z28, .i z29, .i z30, .i z31, .i z32, .i z33, .i z34, .i z35, .i z36])) x0 x1 x2 x3 x4 x5 x6 x7 x8 x9 x10 x11 x12 x13 x14 x15 x16 x17 x18 x19 x20 x21 x22 x23 x24 x25 x26 x27 x28 x29 x30 x31 x32 x33 x34 x35 x36 := (h0 ok_turn_opposite o_turn_opposite_0 o_turn_opposite_1 ok_turn_pair_scaled o_turn_pair_scaled_0 o_turn_pair_scaled_1 ok_turn_angles o_turn_angles_0 o_turn_angles_1 o_turn_angles_2 o_turn_angles_3 o_turn_angles_4 o_turn_angles_5 o_turn_angles_6 o_turn_angles_7 o_turn_angles_8 o_turn_angles_9 o_turn_angles_10 o_turn_angles_11 o_turn_angles_12 o_turn_angles_13 o_turn_angles_14 o_turn_angles_15 o_turn_angles_16 o_turn_angles_17 o_turn_angles_18 o_turn_angles_19 o_turn_angles_20 o_turn_angles_21 o_turn_angles_22 o_turn_angles_23 o_turn_angles_24 o_turn_angles_25 o_turn_angles_26 o_turn_angles_27 o_turn_angles_28 o_turn_angles_29 ok_turn_pair_turned o_turn_pair_turned_0 o_turn_pair_turned_1 L_turn_Angle_0).trans (by kernel_rfl)
    rw [h]
    simp only [lL_turn_Angle_0 F k n]
    rfl
def f_turn_Angle (F : Nat) (a0 : Int) (a1 : Int) : R :=
  bif ((a1 == 0)) then (
    bif ((a0 == 0)) then (
      some (.v (.int .u32 0)))
    else (
      bif ((decide (a1 < 0))) then (
        bif (ok_turn_opposite F a1 a0) then (
          let v300 : Int := (o_turn_opposite_0 F a1 a0)
          let v301 : Int := (o_turn_opposite_1 F a1 a0)
          bif (ok_turn_pair_scaled F v300 v301) then (
            bif (ok_turn_angles F) then (
              L_turn_Angle_0 F (fun (v423 : Int) (v424 : Int) (v425 : Int) (v426 : Int) (v427 : Int) (v428 : Int) (v429 : Int) (v430 : Int) (v431 : Int) (v432 : Int) (v433 : Int) (v434 : Int) (v435 : Int) (v436 : Int) (v437 : Int) (v438 : Int) (v439 : Int) (v440 : Int) (v441 : Int) (v442 : Int) (v443 : Int) (v444 : Int) (v445 : Int) (v446 : Int) (v447 : Int) (v448 : Int) (v449 : Int) (v450 : Int) (v451 : Int) (v452 : Int) (v453 : Int) (v454 : Int) (v455 : Int) (v456 : Int) (v457 : Int) (v458 : Int) (v459 : Int) =>
                some (.v (.int .u32 v426))) F a0 a1 0 2147483648 ((o_turn_angles_0 F)) ((o_turn_angles_1 F)) ((o_turn_angles_2 F)) ((o_turn_angles_3 F)) ((o_turn_angles_4 F)) ((o_turn_angles_5 F)) ((o_turn_angles_6 F)) ((o_turn_angles_7 F)) ((o_turn_angles_8 F)) ((o_turn_angles_9 F)) ((o_turn_angles_10 F)) ((o_turn_angles_11 F)) ((o_turn_angles_12 F)) ((o_turn_angles_13 F)) ((o_turn_angles_14 F)) ((o_turn_angles_15 F)) ((o_turn_angles_16 F)) ((o_turn_angles_17 F)) ((o_turn_angles_18 F)) ((o_turn_angles_19 F)) ((o_turn_angles_20 F)) ((o_turn_angles_21 F)) ((o_turn_angles_22 F)) ((o_turn_angles_23 F)) ((o_turn_angles_24 F)) ((o_turn_angles_25 F)) ((o_turn_angles_26 F)) ((o_turn_angles_27 F)) ((o_turn_angles_28 F)) ((o_turn_angles_29 F)) 0 ((o_turn_pair_scaled_0 F v300 v301)) ((o_turn_pair_scaled_1 F v300 v301)))
            else (
              none))
          else (
            none))
        else (
          none))
      else (
        bif (ok_turn_pair_scaled F a1 a0) then (
          bif (ok_turn_angles F) then (
            L_turn_Angle_0 F (fun (v492 : Int) (v493 : Int) (v494 : Int) (v495 : Int) (v496 : Int) (v497 : Int) (v498 : Int) (v499 : Int) (v500 : Int) (v501 : Int) (v502 : Int) (v503 : Int) (v504 : Int) (v505 : Int) (v506 : Int) (v507 : Int) (v508 : Int) (v509 : Int) (v510 : Int) (v511 : Int) (v512 : Int) (v513 : Int) (v514 : Int) (v515 : Int) (v516 : Int) (v517 : Int) (v518 : Int) (v519 : Int) (v520 : Int) (v521 : Int) (v522 : Int) (v523 : Int) (v524 : Int) (v525 : Int) (v526 : Int) (v527 : Int) (v528 : Int) =>
              some (.v (.int .u32 v495))) F a0 a1 0 0 ((o_turn_angles_0 F)) ((o_turn_angles_1 F)) ((o_turn_angles_2 F)) ((o_turn_angles_3 F)) ((o_turn_angles_4 F)) ((o_turn_angles_5 F)) ((o_turn_angles_6 F)) ((o_turn_angles_7 F)) ((o_turn_angles_8 F)) ((o_turn_angles_9 F)) ((o_turn_angles_10 F)) ((o_turn_angles_11 F)) ((o_turn_angles_12 F)) ((o_turn_angles_13 F)) ((o_turn_angles_14 F)) ((o_turn_angles_15 F)) ((o_turn_angles_16 F)) ((o_turn_angles_17 F)) ((o_turn_angles_18 F)) ((o_turn_angles_19 F)) ((o_turn_angles_20 F)) ((o_turn_angles_21 F)) ((o_turn_angles_22 F)) ((o_turn_angles_23 F)) ((o_turn_angles_24 F)) ((o_turn_angles_25 F)) ((o_turn_angles_26 F)) ((o_turn_angles_27 F)) ((o_turn_angles_28 F)) ((o_turn_angles_29 F)) 0 ((o_turn_pair_scaled_0 F a1 a0)) ((o_turn_pair_scaled_1 F a1 a0)))
          else (
            none))
        else (
          none))))
  else (
    bif ((decide (a1 < 0))) then (
      bif (ok_turn_opposite F a1 a0) then (
        let v530 : Int := (o_turn_opposite_0 F a1 a0)
        let v531 : Int := (o_turn_opposite_1 F a1 a0)
        bif (ok_turn_pair_scaled F v530 v531) then (
          bif (ok_turn_angles F) then (
            L_turn_Angle_0 F (fun (v564 : Int) (v565 : Int) (v566 : Int) (v567 : Int) (v568 : Int) (v569 : Int) (v570 : Int) (v571 : Int) (v572 : Int) (v573 : Int) (v574 : Int) (v575 : Int) (v576 : Int) (v577 : Int) (v578 : Int) (v579 : Int) (v580 : Int) (v581 : Int) (v582 : Int) (v583 : Int) (v584 : Int) (v585 : Int) (v586 : Int) (v587 : Int) (v588 : Int) (v589 : Int) (v590 : Int) (v591 : Int) (v592 : Int) (v593 : Int) (v594 : Int) (v595 : Int) (v596 : Int) (v597 : Int) (v598 : Int) (v599 : Int) (v600 : Int) =>
              some (.v (.int .u32 v567))) F a0 a1 0 2147483648 ((o_turn_angles_0 F)) ((o_turn_angles_1 F)) ((o_turn_angles_2 F)) ((o_turn_angles_3 F)) ((o_turn_angles_4 F)) ((o_turn_angles_5 F)) ((o_turn_angles_6 F)) ((o_turn_angles_7 F)) ((o_turn_angles_8 F)) ((o_turn_angles_9 F)) ((o_turn_angles_10 F)) ((o_turn_angles_11 F)) ((o_turn_angles_12 F)) ((o_turn_angles_13 F)) ((o_turn_angles_14 F)) ((o_turn_angles_15 F)) ((o_turn_angles_16 F)) ((o_turn_angles_17 F)) ((o_turn_angles_18 F)) ((o_turn_angles_19 F)) ((o_turn_angles_20 F)) ((o_turn_angles_21 F)) ((o_turn_angles_22 F)) ((o_turn_angles_23 F)) ((o_turn_angles_24 F)) ((o_turn_angles_25 F)) ((o_turn_angles_26 F)) ((o_turn_angles_27 F)) ((o_turn_angles_28 F)) ((o_turn_angles_29 F)) 0 ((o_turn_pair_scaled_0 F v530 v531)) ((o_turn_pair_scaled_1 F v530 v531)))
          else (
            none))
        else (
          none))
      else (
        none))
    else (
      bif (ok_turn_pair_scaled F a1 a0) then (
        bif (ok_turn_angles F) then (
          L_turn_Angle_0 F (fun (v633 : Int) (v634 : Int) (v635 : Int) (v636 : Int) (v637 : Int) (v638 : Int) (v639 : Int) (v640 : Int) (v641 : Int) (v642 : Int) (v643 : Int) (v644 : Int) (v645 : Int) (v646 : Int) (v647 : Int) (v648 : Int) (v649 : Int) (v650 : Int) (v651 : Int) (v652 : Int) (v653 : Int) (v654 : Int) (v655 : Int) (v656 : Int) (v657 : Int) (v658 : Int) (v659 : Int) (v660 : Int) (v661 : Int) (v662 : Int) (v663 : Int) (v664 : Int) (v665 : Int) (v666 : Int) (v667 : Int) (v668 : Int) (v669 : Int) =>
            some (.v (.int .u32 v636))) F a0 a1 0 0 ((o_turn_angles_0 F)) ((o_turn_angles_1 F)) ((o_turn_angles_2 F)) ((o_turn_angles_3 F)) ((o_turn_angles_4 F)) ((o_turn_angles_5 F)) ((o_turn_angles_6 F)) ((o_turn_angles_7 F)) ((o_turn_angles_8 F)) ((o_turn_angles_9 F)) ((o_turn_angles_10 F)) ((o_turn_angles_11 F)) ((o_turn_angles_12 F)) ((o_turn_angles_13 F)) ((o_turn_angles_14 F)) ((o_turn_angles_15 F)) ((o_turn_angles_16 F)) ((o_turn_angles_17 F)) ((o_turn_angles_18 F)) ((o_turn_angles_19 F)) ((o_turn_angles_20 F)) ((o_turn_angles_21 F)) ((o_turn_angles_22 F)) ((o_turn_angles_23 F)) ((o_turn_angles_24 F)) ((o_turn_angles_25 F)) ((o_turn_angles_26 F)) ((o_turn_angles_27 F)) ((o_turn_angles_28 F)) ((o_turn_angles_29 F)) 0 ((o_turn_pair_scaled_0 F a1 a0)) ((o_turn_pair_scaled_1 F a1 a0)))
        else (
          none))
      else (
        none)))
theorem e_turn_Angle (F : Nat) (a0 : Int) (a1 : Int) : funL PP (S_turn_Angle F) c_turn_Angle (I_turn_Angle F) (J_turn_Angle F) 28 (fTs ti_turn_Angle [.i a0, .i a1]).1 = f_turn_Angle F a0 a1 := by
  have h : ∀ (ok_turn_opposite : Nat → Int → Int → Bool) (o_turn_opposite_0 : Nat → Int → Int → Int) (o_turn_opposite_1 : Nat → Int → Int → Int) (ok_turn_pair_scaled : Nat → Int → Int → Bool) (o_turn_pair_scaled_0 : Nat → Int → Int → Int) (o_turn_pair_scaled_1 : Nat → Int → Int → Int) (ok_turn_angles : Nat → Bool) (o_turn_angles_0 : Nat → Int) (o_turn_angles_1 : Nat → Int) (o_turn_angles_2 : Nat → Int) (o_turn_angles_3 : Nat → Int) (o_turn_angles_4 : Nat → Int) (o_turn_angles_5 : Nat → Int) (o_turn_angles_6 : Nat → Int) (o_turn_angles_7 : Nat → Int) (o_turn_angles_8 : Nat → Int) (o_turn_angles_9 : Nat → Int) (o_turn_angles_10 : Nat → Int) (o_turn_angles_11 : Nat → Int) (o_turn_angles_12 : Nat → Int) (o_turn_angles_13 : Nat → Int) (o_turn_angles_14 : Nat → Int) (o_turn_angles_15 : Nat → Int) (o_turn_angles_16 : Nat → Int) (o_turn_angles_17 : Nat → Int) (o_turn_angles_18 : Nat → Int) (o_turn_angles_19 : Nat → Int) (o_turn_angles_20 : Nat → Int) (o_turn_angles_21 : Nat → Int) (o_turn_angles_22 : Nat → Int) (o_turn_angles_23 : Nat → Int) (o_turn_angles_24 : Nat → Int) (o_turn_angles_25 : Nat → Int) (o_turn_angles_26 : Nat → Int) (o_turn_angles_27 : Nat → Int) (o_turn_angles_28 : Nat → Int) (o_turn_angles_29 : Nat → Int) (ok_turn_pair_turned : Nat → Int → Int → Int → Bool → Bool) (o_turn_pair_turned_0 : Nat → Int → Int → Int → Bool → Int) (o_turn_pair_turned_1 : Nat → Int → Int → Int → Bool → Int) (L_turn_Angle_0 : Nat → (Int → Int → Int → Int → Int → Int → Int → Int → Int → Int → Int → Int → Int → Int → Int → Int → Int → Int → Int → Int → Int → Int → Int → Int → Int → Int → Int → Int → Int → Int → Int → Int → Int → Int → Int → Int → Int → R) → Nat → Int → Int → Int → Int → Int → Int → Int → Int → Int → Int → Int → Int → Int → Int → Int → Int → Int → Int → Int → Int → Int → Int → Int → Int → Int → Int → Int → Int → Int → Int → Int → Int → Int → Int → Int → Int → Int → R), funL PP (words [(82, spec ti_turn_opposite to_turn_opposite (fun q => (ok_turn_opposite F (atI (nth q 0)) (atI (nth q 1)))) (fun q => [.i (o_turn_opposite_0 F (atI (nth q 0)) (atI (nth q 1))), .i (o_turn_opposite_1 F (atI (nth q 0)) (atI (nth q 1)))])), (83, spec ti_turn_pair_scaled to_turn_pair_scaled (fun q => (ok_turn_pair_scaled F (atI (nth q 0)) (atI (nth q 1)))) (fun q => [.i (o_turn_pair_scaled_0 F (atI (nth q 0)) (atI (nth q 1))), .i (o_turn_pair_scaled_1 F (atI (nth q 0)) (atI (nth q 1)))])), (76, spec ti_turn_angles to_turn_angles (fun q => (ok_turn_angles F )) (fun q => [.i (o_turn_angles_0 F ), .i (o_turn_angles_1 F ), .i (o_turn_angles_2 F ), .i (o_turn_angles_3 F ), .i (o_turn_angles_4 F ), .i (o_turn_angles_5 F ), .i (o_turn_angles_6 F ), .i (o_turn_angles_7 F ), .i (o_turn_angles_8 F ), .i (o_turn_angles_9 F ), .i (o_turn_angles_10 F ), .i (o_turn_angles_11 F ), .i (o_turn_angles_12 F ), .i (o_turn_angles_13 F ), .i (o_turn_angles_14 F ), .i (o_turn_angles_15 F ), .i (o_turn_angles_16 F ), .i (o_turn_angles_17 F ), .i (o_turn_angles_18 F ), .i (o_turn_angles_19 F ), .i (o_turn_angles_20 F ), .i (o_turn_angles_21 F ), .i (o_turn_angles_22 F ), .i (o_turn_angles_23 F ), .i (o_turn_angles_24 F ), .i (o_turn_angles_25 F ), .i (o_turn_angles_26 F ), .i (o_turn_angles_27 F ), .i (o_turn_angles_28 F ), .i (o_turn_angles_29 F )])), (77, spec ti_turn_pair_turned to_turn_pair_turned (fun q => (ok_turn_pair_turned F (atI (nth q 0)) (atI (nth q 1)) (atI (nth q 2)) (atB (nth q 3)))) (fun q => [.i (o_turn_pair_turned_0 F (atI (nth q 0)) (atI (nth q 1)) (atI (nth q 2)) (atB (nth q 3))), .i (o_turn_pair_turned_1 F (atI (nth q 0)) (atI (nth q 1)) (atI (nth q 2)) (atB (nth q 3)))]))]) c_turn_Angle (tabI c_turn_Angle [⟨0, T_turn_Angle_0, fun k q => L_turn_Angle_0 F (fun (z0 : Int) (z1 : Int) (z2 : Int) (z3 : Int) (z4 : Int) (z5 : Int) (z6 : Int) (z7 : Int) (z8 : Int) (z9 : Int) (z10 : Int) (z11 : Int) (z12 : Int) (z13 : Int) (z14 : Int) (z15 : Int) (z16 : Int) (z17 : Int) (z18 : Int) (z19 : Int) (z20 : Int) (z21 : Int) (z22 : Int) (z23 : Int) (z24 : Int) (z25 : Int) (z26 : Int) (z27 : Int) (z28 : Int) (z29 : Int) (z30 : Int) (z31 : Int) (z32 : Int) (z33 : Int) (z34 : Int) (z35 : Int) (z36 : Int) => k (.exit 0) (fS T_turn_Angle_0_0 [.i z0, .i z1, .i z2, .i z3, .i z4, .i z5, .i z6, .i z7, .i z8, .i z9, .i z10, .i z11, .i z12, .i z13, .i z14, .i z15, .i z16, .i z17, .i z18, .i z19, .i z20, .i z21, .i z22, .i z23, .i z24, .i z25, .i z26, .i z27, .i z28, .i z29, .i z30, .i z31, .i z32, .i z33, .i z34, .i z35, .i z36])) F (atI (nth q 0)) (atI (nth q 1)) (atI (nth q 2)) (atI (nth q 3)) (atI (nth q 4)) (atI (nth q 5)) (atI (nth q 6)) (atI (nth q 7)) (atI (nth q 8)) (atI (nth q 9)) (atI (nth q 10)) (atI (nth q 11)) (atI (nth q 12)) (atI (nth q 13)) (atI (nth q 14)) (atI (nth q 15)) (atI (nth q 16)) (atI (nth q 17)) (atI (nth q 18)) (atI (nth q 19)) (atI (nth q 20)) (atI (nth q 21)) (atI (nth q 22)) (atI (nth q 23)) (atI (nth q 24)) (atI (nth q 25)) (atI (nth q 26)) (atI (nth q 27)) (atI (nth q 28)) (atI (nth q 29)) (atI (nth q 30)) (atI (nth q 31)) (atI (nth q 32)) (atI (nth q 33)) (atI (nth q 34)) (atI (nth q 35)) (atI (nth q 36))⟩]) (tabJ []) 28 (fTs ti_turn_Angle [.i a0, .i a1]).1 = (
  bif ((a1 == 0)) then (
    bif ((a0 == 0)) then (
      some (.v (.int .u32 0)))
    else (
      bif ((decide (a1 < 0))) then (
        bif (ok_turn_opposite F a1 a0) then (
          let v300 : Int := (o_turn_opposite_0 F a1 a0)
          let v301 : Int := (o_turn_opposite_1 F a1 a0)
          bif (ok_turn_pair_scaled F v300 v301) then (
            bif (ok_turn_angles F) then (
              L_turn_Angle_0 F (fun (v423 : Int) (v424 : Int) (v425 : Int) (v426 : Int) (v427 : Int) (v428 : Int) (v429 : Int) (v430 : Int) (v431 : Int) (v432 : Int) (v433 : Int) (v434 : Int) (v435 : Int) (v436 : Int) (v437 : Int) (v438 : Int) (v439 : Int) (v440 : Int) (v441 : Int) (v442 : Int) (v443 : Int) (v444 : Int) (v445 : Int) (v446 : Int) (v447 : Int) (v448 : Int) (v449 : Int) (v450 : Int) (v451 : Int) (v452 : Int) (v453 : Int) (v454 : Int) (v455 : Int) (v456 : Int) (v457 : Int) (v458 : Int) (v459 : Int) =>
                some (.v (.int .u32 v426))) F a0 a1 0 2147483648 ((o_turn_angles_0 F)) ((o_turn_angles_1 F)) ((o_turn_angles_2 F)) ((o_turn_angles_3 F)) ((o_turn_angles_4 F)) ((o_turn_angles_5 F)) ((o_turn_angles_6 F)) ((o_turn_angles_7 F)) ((o_turn_angles_8 F)) ((o_turn_angles_9 F)) ((o_turn_angles_10 F)) ((o_turn_angles_11 F)) ((o_turn_angles_12 F)) ((o_turn_angles_13 F)) ((o_turn_angles_14 F)) ((o_turn_angles_15 F)) ((o_turn_angles_16 F)) ((o_turn_angles_17 F)) ((o_turn_angles_18 F)) ((o_turn_angles_19 F)) ((o_turn_angles_20 F)) ((o_turn_angles_21 F)) ((o_turn_angles_22 F)) ((o_turn_angles_23 F)) ((o_turn_angles_24 F)) ((o_turn_angles_25 F)) ((o_turn_angles_26 F)) ((o_turn_angles_27 F)) ((o_turn_angles_28 F)) ((o_turn_angles_29 F)) 0 ((o_turn_pair_scaled_0 F v300 v301)) ((o_turn_pair_scaled_1 F v300 v301)))
            else (
              none))
          else (
            none))
        else (
          none))
      else (
        bif (ok_turn_pair_scaled F a1 a0) then (
          bif (ok_turn_angles F) then (
            L_turn_Angle_0 F (fun (v492 : Int) (v493 : Int) (v494 : Int) (v495 : Int) (v496 : Int) (v497 : Int) (v498 : Int) (v499 : Int) (v500 : Int) (v501 : Int) (v502 : Int) (v503 : Int) (v504 : Int) (v505 : Int) (v506 : Int) (v507 : Int) (v508 : Int) (v509 : Int) (v510 : Int) (v511 : Int) (v512 : Int) (v513 : Int) (v514 : Int) (v515 : Int) (v516 : Int) (v517 : Int) (v518 : Int) (v519 : Int) (v520 : Int) (v521 : Int) (v522 : Int) (v523 : Int) (v524 : Int) (v525 : Int) (v526 : Int) (v527 : Int) (v528 : Int) =>
              some (.v (.int .u32 v495))) F a0 a1 0 0 ((o_turn_angles_0 F)) ((o_turn_angles_1 F)) ((o_turn_angles_2 F)) ((o_turn_angles_3 F)) ((o_turn_angles_4 F)) ((o_turn_angles_5 F)) ((o_turn_angles_6 F)) ((o_turn_angles_7 F)) ((o_turn_angles_8 F)) ((o_turn_angles_9 F)) ((o_turn_angles_10 F)) ((o_turn_angles_11 F)) ((o_turn_angles_12 F)) ((o_turn_angles_13 F)) ((o_turn_angles_14 F)) ((o_turn_angles_15 F)) ((o_turn_angles_16 F)) ((o_turn_angles_17 F)) ((o_turn_angles_18 F)) ((o_turn_angles_19 F)) ((o_turn_angles_20 F)) ((o_turn_angles_21 F)) ((o_turn_angles_22 F)) ((o_turn_angles_23 F)) ((o_turn_angles_24 F)) ((o_turn_angles_25 F)) ((o_turn_angles_26 F)) ((o_turn_angles_27 F)) ((o_turn_angles_28 F)) ((o_turn_angles_29 F)) 0 ((o_turn_pair_scaled_0 F a1 a0)) ((o_turn_pair_scaled_1 F a1 a0)))
          else (
            none))
        else (
          none))))
  else (
    bif ((decide (a1 < 0))) then (
      bif (ok_turn_opposite F a1 a0) then (
        let v530 : Int := (o_turn_opposite_0 F a1 a0)
        let v531 : Int := (o_turn_opposite_1 F a1 a0)
        bif (ok_turn_pair_scaled F v530 v531) then (
          bif (ok_turn_angles F) then (
            L_turn_Angle_0 F (fun (v564 : Int) (v565 : Int) (v566 : Int) (v567 : Int) (v568 : Int) (v569 : Int) (v570 : Int) (v571 : Int) (v572 : Int) (v573 : Int) (v574 : Int) (v575 : Int) (v576 : Int) (v577 : Int) (v578 : Int) (v579 : Int) (v580 : Int) (v581 : Int) (v582 : Int) (v583 : Int) (v584 : Int) (v585 : Int) (v586 : Int) (v587 : Int) (v588 : Int) (v589 : Int) (v590 : Int) (v591 : Int) (v592 : Int) (v593 : Int) (v594 : Int) (v595 : Int) (v596 : Int) (v597 : Int) (v598 : Int) (v599 : Int) (v600 : Int) =>
              some (.v (.int .u32 v567))) F a0 a1 0 2147483648 ((o_turn_angles_0 F)) ((o_turn_angles_1 F)) ((o_turn_angles_2 F)) ((o_turn_angles_3 F)) ((o_turn_angles_4 F)) ((o_turn_angles_5 F)) ((o_turn_angles_6 F)) ((o_turn_angles_7 F)) ((o_turn_angles_8 F)) ((o_turn_angles_9 F)) ((o_turn_angles_10 F)) ((o_turn_angles_11 F)) ((o_turn_angles_12 F)) ((o_turn_angles_13 F)) ((o_turn_angles_14 F)) ((o_turn_angles_15 F)) ((o_turn_angles_16 F)) ((o_turn_angles_17 F)) ((o_turn_angles_18 F)) ((o_turn_angles_19 F)) ((o_turn_angles_20 F)) ((o_turn_angles_21 F)) ((o_turn_angles_22 F)) ((o_turn_angles_23 F)) ((o_turn_angles_24 F)) ((o_turn_angles_25 F)) ((o_turn_angles_26 F)) ((o_turn_angles_27 F)) ((o_turn_angles_28 F)) ((o_turn_angles_29 F)) 0 ((o_turn_pair_scaled_0 F v530 v531)) ((o_turn_pair_scaled_1 F v530 v531)))
          else (
            none))
        else (
          none))
      else (
        none))
    else (
      bif (ok_turn_pair_scaled F a1 a0) then (
        bif (ok_turn_angles F) then (
          L_turn_Angle_0 F (fun (v633 : Int) (v634 : Int) (v635 : Int) (v636 : Int) (v637 : Int) (v638 : Int) (v639 : Int) (v640 : Int) (v641 : Int) (v642 : Int) (v643 : Int) (v644 : Int) (v645 : Int) (v646 : Int) (v647 : Int) (v648 : Int) (v649 : Int) (v650 : Int) (v651 : Int) (v652 : Int) (v653 : Int) (v654 : Int) (v655 : Int) (v656 : Int) (v657 : Int) (v658 : Int) (v659 : Int) (v660 : Int) (v661 : Int) (v662 : Int) (v663 : Int) (v664 : Int) (v665 : Int) (v666 : Int) (v667 : Int) (v668 : Int) (v669 : Int) =>
            some (.v (.int .u32 v636))) F a0 a1 0 0 ((o_turn_angles_0 F)) ((o_turn_angles_1 F)) ((o_turn_angles_2 F)) ((o_turn_angles_3 F)) ((o_turn_angles_4 F)) ((o_turn_angles_5 F)) ((o_turn_angles_6 F)) ((o_turn_angles_7 F)) ((o_turn_angles_8 F)) ((o_turn_angles_9 F)) ((o_turn_angles_10 F)) ((o_turn_angles_11 F)) ((o_turn_angles_12 F)) ((o_turn_angles_13 F)) ((o_turn_angles_14 F)) ((o_turn_angles_15 F)) ((o_turn_angles_16 F)) ((o_turn_angles_17 F)) ((o_turn_angles_18 F)) ((o_turn_angles_19 F)) ((o_turn_angles_20 F)) ((o_turn_angles_21 F)) ((o_turn_angles_22 F)) ((o_turn_angles_23 F)) ((o_turn_angles_24 F)) ((o_turn_angles_25 F)) ((o_turn_angles_26 F)) ((o_turn_angles_27 F)) ((o_turn_angles_28 F)) ((o_turn_angles_29 F)) 0 ((o_turn_pair_scaled_0 F a1 a0)) ((o_turn_pair_scaled_1 F a1 a0)))
        else (
          none))
      else (
        none))) : R) := by
    intros
    kernel_rfl
  exact (h ok_turn_opposite o_turn_opposite_0 o_turn_opposite_1 ok_turn_pair_scaled o_turn_pair_scaled_0 o_turn_pair_scaled_1 ok_turn_angles o_turn_angles_0 o_turn_angles_1 o_turn_angles_2 o_turn_angles_3 o_turn_angles_4 o_turn_angles_5 o_turn_angles_6 o_turn_angles_7 o_turn_angles_8 o_turn_angles_9 o_turn_angles_10 o_turn_angles_11 o_turn_angles_12 o_turn_angles_13 o_turn_angles_14 o_turn_angles_15 o_turn_angles_16 o_turn_angles_17 o_turn_angles_18 o_turn_angles_19 o_turn_angles_20 o_turn_angles_21 o_turn_angles_22 o_turn_angles_23 o_turn_angles_24 o_turn_angles_25 o_turn_angles_26 o_turn_angles_27 o_turn_angles_28 o_turn_angles_29 ok_turn_pair_turned o_turn_pair_turned_0 o_turn_pair_turned_1 L_turn_Angle_0).trans (by kernel_rfl)
def ok_turn_Angle (F : Nat) (a0 : Int) (a1 : Int) : Bool := okT to_turn_Angle (f_turn_Angle F a0 a1)
def o_turn_Angle_0 (F : Nat) (a0 : Int) (a1 : Int) : Int := atI (nth (outT to_turn_Angle (f_turn_Angle F a0 a1)) 0)
theorem k_turn_Angle (F : Nat) (a0 : Int) (a1 : Int) {z0 : Int} (h : f_turn_Angle F a0 a1 = some (.v (.int .u32 z0))) : ok_turn_Angle F a0 a1 = true ∧ o_turn_Angle_0 F a0 a1 = z0 := by
  refine ⟨?_, ?_⟩
  · unfold ok_turn_Angle; rw [h]; kernel_rfl
  · unfold o_turn_Angle_0; rw [h]; kernel_rfl
def s_turn_Angle (F : Nat) : List VV → Option (Bool × VV) := spec ti_turn_Angle to_turn_Angle (fun q => (ok_turn_Angle F (atI (nth q 0)) (atI (nth q 1)))) (fun q => [.i (o_turn_Angle_0 F (atI (nth q 0)) (atI (nth q 1)))])
theorem hS_turn_Angle (F : Nat) : ∀ f, Good PP f (unS (S_turn_Angle F f)) := words_good fun p hp => by
  simp only [List.mem_cons, List.not_mem_nil, or_false] at hp
  rcases hp with rfl | rfl | rfl | rfl
  · exact g_turn_opposite F
  · exact g_turn_pair_scaled F
  · exact g_turn_angles F
  · exact g_turn_pair_turned F
theorem hl_turn_Angle (F : Nat) : ∀ p ∈ loopsIn PP 28, LoopOK PP (S_turn_Angle F) c_turn_Angle F (I_turn_Angle F) (J_turn_Angle F) p :=
  loops_of [(0, loopAt PP 28 0)] (by kernel_rfl) (all_cons
    (loop_ok (W_turn_Angle F) rfl (tab_cons (fun _ k q => Le.ofEq ((lL_turn_Angle_0 F k F (atI (nth q 0)) (atI (nth q 1)) (atI (nth q 2)) (atI (nth q 3)) (atI (nth q 4)) (atI (nth q 5)) (atI (nth q 6)) (atI (nth q 7)) (atI (nth q 8)) (atI (nth q 9)) (atI (nth q 10)) (atI (nth q 11)) (atI (nth q 12)) (atI (nth q 13)) (atI (nth q 14)) (atI (nth q 15)) (atI (nth q 16)) (atI (nth q 17)) (atI (nth q 18)) (atI (nth q 19)) (atI (nth q 20)) (atI (nth q 21)) (atI (nth q 22)) (atI (nth q 23)) (atI (nth q 24)) (atI (nth q 25)) (atI (nth q 26)) (atI (nth q 27)) (atI (nth q 28)) (atI (nth q 29)) (atI (nth q 30)) (atI (nth q 31)) (atI (nth q 32)) (atI (nth q 33)) (atI (nth q 34)) (atI (nth q 35)) (atI (nth q 36))).symm.trans (congrArg (iterC (codeL PP (S_turn_Angle F) c_turn_Angle (I_turn_Angle F) (J_turn_Angle F) (loopAt PP 28 0) 0) (headOf c_turn_Angle 0) k F) (show fS T_turn_Angle_0 [.i (atI (nth q 0)), .i (atI (nth q 1)), .i (atI (nth q 2)), .i (atI (nth q 3)), .i (atI (nth q 4)), .i (atI (nth q 5)), .i (atI (nth q 6)), .i (atI (nth q 7)), .i (atI (nth q 8)), .i (atI (nth q 9)), .i (atI (nth q 10)), .i (atI (nth q 11)), .i (atI (nth q 12)), .i (atI (nth q 13)), .i (atI (nth q 14)), .i (atI (nth q 15)), .i (atI (nth q 16)), .i (atI (nth q 17)), .i (atI (nth q 18)), .i (atI (nth q 19)), .i (atI (nth q 20)), .i (atI (nth q 21)), .i (atI (nth q 22)), .i (atI (nth q 23)), .i (atI (nth q 24)), .i (atI (nth q 25)), .i (atI (nth q 26)), .i (atI (nth q 27)), .i (atI (nth q 28)), .i (atI (nth q 29)), .i (atI (nth q 30)), .i (atI (nth q 31)), .i (atI (nth q 32)), .i (atI (nth q 33)), .i (atI (nth q 34)), .i (atI (nth q 35)), .i (atI (nth q 36))] = fS T_turn_Angle_0 q by kernel_rfl)))) tab_nil)) all_nil)
theorem hj_turn_Angle (F : Nat) : ∀ p ∈ joinsIn PP c_turn_Angle 28, JoinOK PP (S_turn_Angle F) c_turn_Angle (I_turn_Angle F) (J_turn_Angle F) p :=
  joins_of [] (by kernel_rfl) all_nil
theorem g_turn_Angle (F : Nat) : Good PP 28 (unS (s_turn_Angle F)) :=
  fun_spec (hS_turn_Angle F) (by kernel_rfl) (by kernel_rfl) (C := c_turn_Angle) (F := fun q => (f_turn_Angle F (atI (nth q 0)) (atI (nth q 1)))) (fun _ => F) (fun _ => I_turn_Angle F) (fun _ => J_turn_Angle F) (fun _ => hl_turn_Angle F) (fun _ => hj_turn_Angle F)
    (fun q => (congrArg (funL PP (S_turn_Angle F) c_turn_Angle (I_turn_Angle F) (J_turn_Angle F) 28) (show (fTs ti_turn_Angle q).1 = (fTs ti_turn_Angle [.i (atI (nth q 0)), .i (atI (nth q 1))]).1 by kernel_rfl)).trans (e_turn_Angle F (atI (nth q 0)) (atI (nth q 1))))
    (fun _ h => (okT_fill h).trans (congrArg some (by kernel_rfl)))

end Go.Xv
set_option linter.unusedVariables false
namespace Go.Xv
/- 84 _ref05_opposite -/
def c_ref05_opposite : Cfg := ⟨[0, 2, 4], [], [], []⟩
def ti_ref05_opposite : List TV := [.v (.int .i64)]
def to_ref05_opposite : TV := .v (.int .i64)
def S_ref05_opposite (F : Nat) : FuncId → List VV → Option (Bool × VV) := words []
def W_ref05_opposite (F : Nat) : List LW := []
def I_ref05_opposite (F : Nat) : Nat → VS → (Exit → VS → R) → R := tabI c_ref05_opposite (W_ref05_opposite F)
def WJ_ref05_opposite (F : Nat) : List LJ := []
def J_ref05_opposite (F : Nat) : Nat → Nat → VS → (Exit → VS → R) → R := tabJ (WJ_ref05_opposite F)
def f_ref05_opposite (F : Nat) (a0 : Int) : R :=
  bif ((a0 == (-9223372036854775808))) then (
    some (.v (.int .i64 9223372036854775807)))
  else (
    some (.v (.int .i64 ((IntKind.wrap .i64 (0 - a0))))))
theorem e_ref05_opposite (F : Nat) (a0 : Int) : funL PP (S_ref05_opposite F) c_ref05_opposite (I_ref05_opposite F) (J_ref05_opposite F) 84 (fTs ti_ref05_opposite [.i a0]).1 = f_ref05_opposite F a0 := by
  have h : ∀ (_ : Unit), funL PP (words []) c_ref05_opposite (tabI c_ref05_opposite []) (tabJ []) 84 (fTs ti_ref05_opposite [.i a0]).1 = (
  bif ((a0 == (-9223372036854775808))) then (
    some (.v (.int .i64 9223372036854775807)))
  else (
    some (.v (.int .i64 ((IntKind.wrap .i64 (0 - a0)))))) : R) := by
    intros
    kernel_rfl
  exact (h ()).trans (by kernel_rfl)
def ok_ref05_opposite (F : Nat) (a0 : Int) : Bool := okT to_ref05_opposite (f_ref05_opposite F a0)
def o_ref05_opposite_0 (F : Nat) (a0 : Int) : Int := atI (nth (outT to_ref05_opposite (f_ref05_opposite F a0)) 0)
theorem k_ref05_opposite (F : Nat) (a0 : Int) {z0 : Int} (h : f_ref05_opposite F a0 = some (.v (.int .i64 z0))) : ok_ref05_opposite F a0 = true ∧ o_ref05_opposite_0 F a0 = z0 := by
  refine ⟨?_, ?_⟩
  · unfold ok_ref05_opposite; rw [h]; kernel_rfl
  · unfold o_ref05_opposite_0; rw [h]; kernel_rfl
def s_ref05_opposite (F : Nat) : List VV → Option (Bool × VV) := spec ti_ref05_opposite to_ref05_opposite (fun q => (ok_ref05_opposite F (atI (nth q 0)))) (fun q => [.i (o_ref05_opposite_0 F (atI (nth q 0)))])
theorem hS_ref05_opposite (F : Nat) : ∀ f, Good PP f (unS (S_ref05_opposite F f)) := words_good fun p hp => by
  cases hp
theorem hl_ref05_opposite (F : Nat) : ∀ p ∈ loopsIn PP 84, LoopOK PP (S_ref05_opposite F) c_ref05_opposite F (I_ref05_opposite F) (J_ref05_opposite F) p :=
  loops_of [] (by kernel_rfl) all_nil
theorem hj_ref05_opposite (F : Nat) : ∀ p ∈ joinsIn PP c_ref05_opposite 84, JoinOK PP (S_ref05_opposite F) c_ref05_opposite (I_ref05_opposite F) (J_ref05_opposite F) p :=
  joins_of [] (by kernel_rfl) all_nil
theorem g_ref05_opposite (F : Nat) : Good PP 84 (unS (s_ref05_opposite F)) :=
  fun_spec (hS_ref05_opposite F) (by kernel_rfl) (by kernel_rfl) (C := c_ref05_opposite) (F := fun q => (f_ref05_opposite F (atI (nth q 0)))) (fun _ => F) (fun _ => I_ref05_opposite F) (fun _ => J_ref05_opposite F) (fun _ => hl_ref05_opposite F) (fun _ => hj_ref05_opposite F)
    (fun q => (congrArg (funL PP (S_ref05_opposite F) c_ref05_opposite (I_ref05_opposite F) (J_ref05_opposite F) 84) (show (fTs ti_ref05_opposite q).1 = (fTs ti_ref05_opposite [.i (atI (nth q 0))]).1 by kernel_rfl)).trans (e_ref05_opposite F (atI (nth q 0))))
    (fun _ h => (okT_fill h).trans (congrArg some (by kernel_rfl)))

end Go.Xv
set_option linter.unusedVariables false
namespace Go.Xv
/- 85 _ref05_bare -/
def c_ref05_bare : Cfg := ⟨[0, 2, 4], [], [], []⟩
def ti_ref05_bare : List TV := [.v (.int .i64)]
def to_ref05_bare : TV := .v (.int .u64)
def S_ref05_bare (F : Nat) : FuncId → List VV → Option (Bool × VV) := words []
def W_ref05_bare (F : Nat) : List LW := []
def I_ref05_bare (F : Nat) : Nat → VS → (Exit → VS → R) → R := tabI c_ref05_bare (W_ref05_bare F)
def WJ_ref05_bare (F : Nat) : List LJ := []
def J_ref05_bare (F : Nat) : Nat → Nat → VS → (Exit → VS → R) → R := tabJ (WJ_ref05_bare F)
def f_ref05_bare (F : Nat) (a0 : Int) : R :=
  bif ((decide (a0 < 0))) then (
    some (.v (.int .u64 ((IntKind.wrap .u64 (((IntKind.wrap .u64 ((IntKind.wrap .i64 (0 - ((IntKind.wrap .i64 (a0 + 1)))))))) + 1))))))
  else (
    some (.v (.int .u64 ((IntKind.wrap .u64 a0)))))
theorem e_ref05_bare (F : Nat) (a0 : Int) : funL PP (S_ref05_bare F) c_ref05_bare (I_ref05_bare F) (J_ref05_bare F) 85 (fTs ti_ref05_bare [.i a0]).1 = f_ref05_bare F a0 := by
  have h : ∀ (_ : Unit), funL PP (words []) c_ref05_bare (tabI c_ref05_bare []) (tabJ []) 85 (fTs ti_ref05_bare [.i a0]).1 = (
  bif ((decide (a0 < 0))) then (
    some (.v (.int .u64 ((IntKind.wrap .u64 (((IntKind.wrap .u64 ((IntKind.wrap .i64 (0 - ((IntKind.wrap .i64 (a0 + 1)))))))) + 1))))))
  else (
    some (.v (.int .u64 ((IntKind.wrap .u64 a0))))) : R) := by
    intros
    kernel_rfl
  exact (h ()).trans (by kernel_rfl)
def ok_ref05_bare (F : Nat) (a0 : Int) : Bool := okT to_ref05_bare (f_ref05_bare F a0)
def o_ref05_bare_0 (F : Nat) (a0 : Int) : Int := atI (nth (outT to_ref05_bare (f_ref05_bare F a0)) 0)
theorem k_ref05_bare (F : Nat) (a0 : Int) {z0 : Int} (h : f_ref05_bare F a0 = some (.v (.int .u64 z0))) : ok_ref05_bare F a0 = true ∧ o_ref05_bare_0 F a0 = z0 := by
  refine ⟨?_, ?_⟩
  · unfold ok_ref05_bare; rw [h]; kernel_rfl
  · unfold o_ref05_bare_0; rw [h]; kernel_rfl
def s_ref05_bare (F : Nat) : List VV → Option (Bool × VV) := spec ti_ref05_bare to_ref05_bare (fun q => (ok_ref05_bare F (atI (nth q 0)))) (fun q => [.i (o_ref05_bare_0 F (atI (nth q 0)))])
theorem hS_ref05_bare (F : Nat) : ∀ f, Good PP f (unS (S_ref05_bare F f)) := words_good fun p hp => by
  cases hp
theorem hl_ref05_bare (F : Nat) : ∀ p ∈ loopsIn PP 85, LoopOK PP (S_ref05_bare F) c_ref05_bare F (I_ref05_bare F) (J_ref05_bare F) p :=
  loops_of [] (by kernel_rfl) all_nil
theorem hj_ref05_bare (F : Nat) : ∀ p ∈ joinsIn PP c_ref05_bare 85, JoinOK PP (S_ref05_bare F) c_ref05_bare (I_ref05_bare F) (J_ref05_bare F) p :=
  joins_of [] (by kernel_rfl) all_nil
theorem g_ref05_bare (F : Nat) : Good PP 85 (unS (s_ref05_bare F)) :=
  fun_spec (hS_ref05_bare F) (by kernel_rfl) (by kernel_rfl) (C := c_ref05_bare) (F := fun q => (f_ref05_bare F (atI (nth q 0)))) (fun _ => F) (fun _ => I_ref05_bare F) (fun _ => J_ref05_bare F) (fun _ => hl_ref05_bare F) (fun _ => hj_ref05_bare F)
    (fun q => (congrArg (funL PP (S_ref05_bare F) c_ref05_bare (I_ref05_bare F) (J_ref05_bare F) 85) (show (fTs ti_ref05_bare q).1 = (fTs ti_ref05_bare [.i (atI (nth q 0))]).1 by kernel_rfl)).trans (e_ref05_bare F (atI (nth q 0))))
    (fun _ h => (okT_fill h).trans (congrArg some (by kernel_rfl)))

end Go.Xv
set_option linter.unusedVariables false
namespace Go.Xv
/- 29 _ref05_Angle -/
def c_ref05_Angle : Cfg := ⟨[0, 1, 4, 5, 6, 7, 8, 9, 10, 11, 12, 18, 22, 36, 52, 60, 70], [(0, [0, 1, 4, 5, 6, 7, 8, 9, 10, 11, 12, 13, 14, 15, 16, 17, 18, 19, 20, 21, 22, 23, 24, 25, 26, 43, 44, 45, 46, 47, 48, 49, 50, 51, 52, 53, 54, 55, 56, 57, 58, 59, 60, 61, 62, 63, 64, 65, 66, 67, 68, 69, 70, 71, 72, 73, 74, 75, 76, 77, 78, 79, 80, 81, 82, 83, 84, 85, 86, 87, 88, 89, 90, 91, 92]), (2, [0, 1, 4, 5, 6, 7, 8, 9, 10, 11, 12, 13, 14, 15, 16, 17, 18, 19, 20, 21, 22, 23, 24, 25, 26, 27, 28, 29, 30, 31, 32, 33, 34, 35, 36, 37, 38, 39, 40, 41, 42, 59, 60, 61, 62, 63, 64, 65, 66, 67, 68, 69, 70, 71, 72, 73, 74, 75, 76, 77, 78, 79, 80, 81, 82, 83, 84, 85, 86, 87, 88, 89, 90, 91, 92]), (4, [0, 1, 4, 5, 6, 7, 8, 9, 10, 13, 14, 15, 16, 17, 18, 19, 20, 21, 22, 23, 24, 25, 26, 27, 28, 29, 30, 31, 32, 33, 34, 35, 36, 37, 38, 39, 40, 41, 42, 43, 44, 45, 46, 47, 48, 49, 50, 51, 52, 53, 54, 55, 56, 57, 58, 91, 92])], [], []⟩
def ti_ref05_Angle : List TV := [.v (.int .i64), .v (.int .i64)]
def to_ref05_Angle : TV := .v (.int .u32)
def S_ref05_Angle (F : Nat) : FuncId → List VV → Option (Bool × VV) := words [(84, s_ref05_opposite F), (85, s_ref05_bare F), (79, s_ref05_over F), (80, s_ref05_step F)]
def T_ref05_Angle_0 : TS := ⟨[(0, .v (.int .i64)), (1, .v (.int .i64)), (4, .v (.int .u32)), (5, .v (.int .i64)), (6, .v (.int .i64)), (7, .v (.int .i64)), (8, .v (.int .i64))], [], 0⟩
def T_ref05_Angle_0_0 : TS := ⟨[(0, .v (.int .i64)), (1, .v (.int .i64)), (4, .v (.int .u32)), (5, .v (.int .i64)), (6, .v (.int .i64)), (7, .v (.int .i64)), (8, .v (.int .i64))], [], 0⟩
def B_ref05_Angle_0 (F : Nat) (rc : Int → Int → Int → Int → Int → Int → Int → R) (ex0 : Int → Int → Int → Int → Int → Int → Int → R) (x0 : Int) (x1 : Int) (x2 : Int) (x3 : Int) (x4 : Int) (x5 : Int) (x6 : Int) : R :=
  bif ((decide (x6 < 64))) then (
    bif (ok_ref05_bare F x3) then (
      let v706 : Int := (o_ref05_bare_0 F x3)
      bif (ok_ref05_bare F x4) then (
        let v707 : Int := (o_ref05_bare_0 F x4)
        bif ((decide (((if v707 > v706 then v707 else v706)) ≥ 2305843009213693952))) then (
          bif (ok_ref05_over F x3 1) then (
            bif (ok_ref05_over F x4 1) then (
              rc x0 x1 x2 ((o_ref05_over_0 F x3 1)) ((o_ref05_over_0 F x4 1)) x5 ((IntKind.wrap .i64 (x6 + 1))))
            else (
              none))
          else (
            none))
        else (
          ex0 x0 x1 x2 x3 x4 x5 x6))
      else (
        none))
    else (
      none))
  else (
    ex0 x0 x1 x2 x3 x4 x5 x6)
def L_ref05_Angle_0 (F : Nat) (ex0 : Int → Int → Int → Int → Int → Int → Int → R) : Nat → Int → Int → Int → Int → Int → Int → Int → R
  | 0, _, _, _, _, _, _, _ => none
  | n + 1, x0, x1, x2, x3, x4, x5, x6 => B_ref05_Angle_0 F (L_ref05_Angle_0 F ex0 n) ex0 x0 x1 x2 x3 x4 x5 x6
def T_ref05_Angle_1 : TS := ⟨[(0, .v (.int .i64)), (1, .v (.int .i64)), (4, .v (.int .u32)), (5, .v (.int .i64)), (6, .v (.int .i64)), (7, .v (.int .i64)), (8, .v (.int .i64)), (9, .v (.int .i64))], [], 0⟩
def T_ref05_Angle_1_0 : TS := ⟨[(0, .v (.int .i64)), (1, .v (.int .i64)), (4, .v (.int .u32)), (5, .v (.int .i64)), (6, .v (.int .i64)), (7, .v (.int .i64)), (8, .v (.int .i64)), (9, .v (.int .i64))], [], 0⟩
def B_ref05_Angle_1 (F : Nat) (rc : Int → Int → Int → Int → Int → Int → Int → Int → R) (ex0 : Int → Int → Int → Int → Int → Int → Int → Int → R) (x0 : Int) (x1 : Int) (x2 : Int) (x3 : Int) (x4 : Int) (x5 : Int) (x6 : Int) (x7 : Int) : R :=
  bif ((decide (x7 < 64))) then (
    bif (ok_ref05_bare F x3) then (
      let v729 : Int := (o_ref05_bare_0 F x3)
      bif (ok_ref05_bare F x4) then (
        let v730 : Int := (o_ref05_bare_0 F x4)
        bif ((decide (((if v730 > v729 then v730 else v729)) < 1152921504606846976))) then (
          rc x0 x1 x2 ((IntKind.wrap .i64 (2 * x3))) ((IntKind.wrap .i64 (2 * x4))) x5 x6 ((IntKind.wrap .i64 (x7 + 1))))
        else (
          ex0 x0 x1 x2 x3 x4 x5 x6 x7))
      else (
        none))
    else (
      none))
  else (
    ex0 x0 x1 x2 x3 x4 x5 x6 x7)
def L_ref05_Angle_1 (F : Nat) (ex0 : Int → Int → Int → Int → Int → Int → Int → Int → R) : Nat → Int → Int → Int → Int → Int → Int → Int → Int → R
  | 0, _, _, _, _, _, _, _, _ => none
  | n + 1, x0, x1, x2, x3, x4, x5, x6, x7 => B_ref05_Angle_1 F (L_ref05_Angle_1 F ex0 n) ex0 x0 x1 x2 x3 x4 x5 x6 x7
def T_ref05_Angle_2 : TS := ⟨[(0, .v (.int .i64)), (1, .v (.int .i64)), (4, .v (.int .u32)), (5, .v (.int .i64)), (6, .v (.int .i64)), (7, .v (.int .i64)), (8, .v (.int .i64)), (9, .v (.int .i64)), (10, .v (.int .i64))], [], 0⟩
def T_ref05_Angle_2_0 : TS := ⟨[(0, .v (.int .i64)), (1, .v (.int .i64)), (4, .v (.int .u32)), (5, .v (.int .i64)), (6, .v (.int .i64)), (7, .v (.int .i64)), (8, .v (.int .i64)), (9, .v (.int .i64)), (10, .v (.int .i64))], [], 0⟩
def B_ref05_Angle_2 (F : Nat) (rc : Int → Int → Int → Int → Int → Int → Int → Int → Int → R) (ex0 : Int → Int → Int → Int → Int → Int → Int → Int → Int → R) (x0 : Int) (x1 : Int) (x2 : Int) (x3 : Int) (x4 : Int) (x5 : Int) (x6 : Int) (x7 : Int) (x8 : Int) : R :=
  bif ((decide (x8 < 30))) then (
    bif (ok_ref05_over F x3 x8) then (
      let v754 : Int := (o_ref05_over_0 F x3 x8)
      bif (ok_ref05_over F x4 x8) then (
        let v755 : Int := (o_ref05_over_0 F x4 x8)
        bif ((decide (x4 ≥ 0))) then (
          bif (ok_ref05_step F x8) then (
            rc x0 x1 x2 ((IntKind.wrap .i64 (x3 + v755))) ((IntKind.wrap .i64 (x4 - v754))) ((IntKind.wrap .i64 (x5 + ((o_ref05_step_0 F x8))))) x6 x7 ((IntKind.wrap .i64 (x8 + 1))))
          else (
            none))
        else (
          bif (ok_ref05_step F x8) then (
            rc x0 x1 x2 ((IntKind.wrap .i64 (x3 - v755))) ((IntKind.wrap .i64 (x4 + v754))) ((IntKind.wrap .i64 (x5 - ((o_ref05_step_0 F x8))))) x6 x7 ((IntKind.wrap .i64 (x8 + 1))))
          else (
            none)))
      else (
        none))
    else (
      none))
  else (
    ex0 x0 x1 x2 x3 x4 x5 x6 x7 x8)
def L_ref05_Angle_2 (F : Nat) (ex0 : Int → Int → Int → Int → Int → Int → Int → Int → Int → R) : Nat → Int → Int → Int → Int → Int → Int → Int → Int → Int → R
  | 0, _, _, _, _, _, _, _, _, _ => none
  | n + 1, x0, x1, x2, x3, x4, x5, x6, x7, x8 => B_ref05_Angle_2 F (L_ref05_Angle_2 F ex0 n) ex0 x0 x1 x2 x3 x4 x5 x6 x7 x8
def W_ref05_Angle (F : Nat) : List LW := [⟨0, T_ref05_Angle_0, fun k q => L_ref05_Angle_0 F (fun (z0 : Int) (z1 : Int) (z2 : Int) (z3 : Int) (z4 : Int) (z5 : Int) (z6 : Int) => k (.exit 0) (fS T_ref05_Angle_0_0 [.i z0, .i z1, .i z2, .i z3, .i z4, .i z5, .i z6])) F (atI (nth q 0)) (atI (nth q 1)) (atI (nth q 2)) (atI (nth q 3)) (atI (nth q 4)) (atI (nth q 5)) (atI (nth q 6))⟩, ⟨2, T_ref05_Angle_1, fun k q => L_ref05_Angle_1 F (fun (z0 : Int) (z1 : Int) (z2 : Int) (z3 : Int) (z4 : Int) (z5 : Int) (z6 : Int) (z7 : Int) => k (.exit 2) (fS T_ref05_Angle_1_0 [.i z0, .i z1, .i z2, .i z3, .i z4, .i z5, .i z6, .i z7])) F (atI (nth q 0)) (atI (nth q 1)) (atI (nth q 2)) (atI (nth q 3)) (atI (nth q 4)) (atI (nth q 5)) (atI (nth q 6)) (atI (nth q 7))⟩, ⟨4, T_ref05_Angle_2, fun k q => L_ref05_Angle_2 F (fun (z0 : Int) (z1 : Int) (z2 : Int) (z3 : Int) (z4 : Int) (z5 : Int) (z6 : Int) (z7 : Int) (z8 : Int) => k (.exit 4) (fS T_ref05_Angle_2_0 [.i z0, .i z1, .i z2, .i z3, .i z4, .i z5, .i z6, .i z7, .i z8])) F (atI (nth q 0)) (atI (nth q 1)) (atI (nth q 2)) (atI (nth q 3)) (atI (nth q 4)) (atI (nth q 5)) (atI (nth q 6)) (atI (nth q 7)) (atI (nth q 8))⟩]
def I_ref05_Angle (F : Nat) : Nat → VS → (Exit → VS → R) → R := tabI c_ref05_Angle (W_ref05_Angle F)
def WJ_ref05_Angle (F : Nat) : List LJ := []
def J_ref05_Angle (F : Nat) : Nat → Nat → VS → (Exit → VS → R) → R := tabJ (WJ_ref05_Angle F)
theorem lL_ref05_Angle_0 (F : Nat) (k : Exit → VS → R) : ∀ (n : Nat) (x0 : Int) (x1 : Int) (x2 : Int) (x3 : Int) (x4 : Int) (x5 : Int) (x6 : Int), iterC (codeL PP (S_ref05_Angle F) c_ref05_Angle (I_ref05_Angle F) (J_ref05_Angle F) (loopAt PP 29 0) 0) (headOf c_ref05_Angle 0) k n (fS T_ref05_Angle_0 [.i x0, .i x1, .i x2, .i x3, .i x4, .i x5, .i x6]) = L_ref05_Angle_0 F (fun (z0 : Int) (z1 : Int) (z2 : Int) (z3 : Int) (z4 : Int) (z5 : Int) (z6 : Int) => k (.exit 0) (fS T_ref05_Angle_0_0 [.i z0, .i z1, .i z2, .i z3, .i z4, .i z5, .i z6])) n x0 x1 x2 x3 x4 x5 x6
  | 0, _, _, _, _, _, _, _ => rfl
  | n + 1, x0, x1, x2, x3, x4, x5, x6 => by
    have h0 : ∀ (ok_ref05_opposite : Nat → Int → Bool) (o_ref05_opposite_0 : Nat → Int → Int) (ok_ref05_bare : Nat → Int → Bool) (o_ref05_bare_0 : Nat → Int → Int) (ok_ref05_over : Nat → Int → Int → Bool) (o_ref05_over_0 : Nat → Int → Int → Int) (ok_ref05_step : Nat → Int → Bool) (o_ref05_step_0 : Nat → Int → Int) (L_ref05_Angle_0 : Nat → (Int → Int → Int → Int → Int → Int → Int → R) → Nat → Int → Int → Int → Int → Int → Int → Int → R) (L_ref05_Angle_1 : Nat → (Int → Int → Int → Int → Int → Int → Int → Int → R) → Nat → Int → Int → Int → Int → Int → Int → Int → Int → R) (L_ref05_Angle_2 : Nat → (Int → Int → Int → Int → Int → Int → Int → Int → Int → R) → Nat → Int → Int → Int → Int → Int → Int → Int → Int → Int → R), iterC (codeL PP (words [(84, spec ti_ref05_opposite to_ref05_opposite (fun q => (ok_ref05_opposite F (atI (nth q 0)))) (fun q => [.i (o_ref05_opposite_0 F (atI (nth q 0)))])), (85, spec ti_ref05_bare to_ref05_bare (fun q => (ok_ref05_bare F (atI (nth q 0)))) (fun q => [.i (o_ref05_bare_0 F (atI (nth q 0)))])), (79, spec ti_ref05_over to_ref05_over (fun q => (ok_ref05_over F (atI (nth q 0)) (atI (nth q 1)))) (fun q => [.i (o_ref05_over_0 F (atI (nth q 0)) (atI (nth q 1)))])), (80, spec ti_ref05_step to_ref05_step (fun q => (ok_ref05_step F (atI (nth q 0)))) (fun q => [.i (o_ref05_step_0 F (atI (nth q 0)))]))]) c_ref05_Angle (tabI c_ref05_Angle [⟨0, T_ref05_Angle_0, fun k q => L_ref05_Angle_0 F (fun (z0 : Int) (z1 : Int) (z2 : Int) (z3 : Int) (z4 : Int) (z5 : Int) (z6 : Int) => k (.exit 0) (fS T_ref05_Angle_0_0 [.i z0, .i z1, .i z2, .i z3, .i z4, .i z5, .i z6])) F (atI (nth q 0)) (atI (nth q 1)) (atI (nth q 2)) (atI (nth q 3)) (atI (nth q 4)) (atI (nth q 5)) (atI (nth q 6))⟩, ⟨2, T_ref05_Angle_1, fun k q => L_ref05_Angle_1 F (fun (z0 : Int) (z1 : Int) (z2 : Int) (z3 : Int) (z4 : Int) (z5 : Int) (z6 : Int) (z7 : Int) => k (.exit 2) (fS T_ref05_Angle_1_0 [.i z0, .i z1, .i z2, .i z3, .i z4, .i z5, .i z6, .i z7])) F (atI (nth q 0)) (atI (nth q 1)) (atI (nth q 2)) (atI (nth q 3)) (atI (nth q 4)) (atI (nth q 5)) (atI (nth q 6)) (atI (nth q 7))⟩, ⟨4, T_ref05_Angle_2, fun k q => L_ref05_Angle_2 F (fun (z0 : Int) (z1 : Int) (z2 : Int) (z3 : Int) (z4 : Int) (z5 : Int) (z6 : Int) (z7 : Int) (z8 : Int) => k (.exit 4) (fS T_ref05_Angle_2_0 [.i z0, .i z1, .i z2, .i z3, .i z4, .i z5, .i z6, .i z7, .i z8])) F (atI (nth q 0)) (atI (nth q 1)) (atI (nth q 2)) (atI (nth q 3)) (atI (nth q 4)) (atI (nth q 5)) (atI (nth q 6)) (atI (nth q 7)) (atI (nth q 8))⟩]) (tabJ []) (loopAt PP 29 0) 0) (headOf c_ref05_Angle 0) k (n + 1) (fS T_ref05_Angle_0 [.i x0, .i x1, .i x2, .i x3, .i x4, .i x5, .i x6]) = (fun (rc : Int → Int → Int → Int → Int → Int → Int → R) (ex0 : Int → Int → Int → Int → Int → Int → Int → R) (x0 : Int) (x1 : Int) (x2 : Int) (x3 : Int) (x4 : Int) (x5 : Int) (x6 : Int) => (
  bif ((decide (x6 < 64))) then (
    bif (ok_ref05_bare F x3) then (
      let v706 : Int := (o_ref05_bare_0 F x3)
      bif (ok_ref05_bare F x4) then (
        let v707 : Int := (o_ref05_bare_0 F x4)
        bif ((decide (((if v707 > v706 then v707 else v706)) ≥ 2305843009213693952))) then (
          bif (ok_ref05_over F x3 1) then (
            bif (ok_ref05_over F x4 1) then (
              rc x0 x1 x2 ((o_ref05_over_0 F x3 1)) ((o_ref05_over_0 F x4 1)) x5 ((IntKind.wrap .i64 (x6 + 1))))
            else (
              none))
          else (
            none))
        else (
          ex0 x0 x1 x2 x3 x4 x5 x6))
      else (
        none))
    else (
      none))
  else (
    ex0 x0 x1 x2 x3 x4 x5 x6) : R)) (fun (y0 : Int) (y1 : Int) (y2 : Int) (y3 : Int) (y4 : Int) (y5 : Int) (y6 : Int) => iterC (codeL PP (words [(84, spec ti_ref05_opposite to_ref05_opposite (fun q => (ok_ref05_opposite F (atI (nth q 0)))) (fun q => [.i (o_ref05_opposite_0 F (atI (nth q 0)))])), (85, spec ti_ref05_bare to_ref05_bare (fun q => (ok_ref05_bare F (atI (nth q 0)))) (fun q => [.i (o_ref05_bare_0 F (atI (nth q 0)))])), (79, spec ti_ref05_over to_ref05_over (fun q => (ok_ref05_over F (atI (nth q 0)) (atI (nth q 1)))) (fun q => [.i (o_ref05_over_0 F (atI (nth q 0)) (atI (nth q 1)))])), (80, spec ti_ref05_step to_ref05_step (fun q => (ok_ref05_step F (atI (nth q 0)))) (fun q => [.i (o_ref05_step_0 F (atI (nth q 0)))]))]) c_ref05_Angle (tabI c_ref05_Angle [⟨0, T_ref05_Angle_0, fun k q => L_ref05_Angle_0 F (fun (z0 : Int) (z1 : Int) (z2 : Int) (z3 : Int) (z4 : Int) (z5 : Int) (z6 : Int) => k (.exit 0) (fS T_ref05_Angle_0_0 [.i z0, .i z1, .i z2, .i z3, .i z4, .i z5, .i z6])) F (atI (nth q 0)) (atI (nth q 1)) (atI (nth q 2)) (atI (nth q 3)) (atI (nth q 4)) (atI (nth q 5)) (atI (nth q 6))⟩, ⟨2, T_ref05_Angle_1, fun k q => L_ref05_Angle_1 F (fun (z0 : Int) (z1 : Int) (z2 : Int) (z3 : Int) (z4 : Int) (z5 : Int) (z6 : Int) (z7 : Int) => k (.exit 2) (fS T_ref05_Angle_1_0 [.i z0, .i z1, .i z2, .i z3, .i z4, .i z5, .i z6, .i z7])) F (atI (nth q 0)) (atI (nth q 1)) (atI (nth q 2)) (atI (nth q 3)) (atI (nth q 4)) (atI (nth q 5)) (atI (nth q 6)) (atI (nth q 7))⟩, ⟨4, T_ref05_Angle_2, fun k q => L_ref05_Angle_2 F (fun (z0 : Int) (z1 : Int) (z2 : Int) (z3 : Int) (z4 : Int) (z5 : Int) (z6 : Int) (z7 : Int) (z8 : Int) => k (.exit 4) (fS T_ref05_Angle_2_0 [.i z0, .i z1, .i z2, .i z3, .i z4, .i z5, .i z6, .i z7, .i z8])) F (atI (nth q 0)) (atI (nth q 1)) (atI (nth q 2)) (atI (nth q 3)) (atI (nth q 4)) (atI (nth q 5)) (atI (nth q 6)) (atI (nth q 7)) (atI (nth q 8))⟩]) (tabJ []) (loopAt PP 29 0) 0) (headOf c_ref05_Angle 0) k n (fS T_ref05_Angle_0 [.i y0, .i y1, .i y2, .i y3, .i y4, .i y5, .i y6])) (fun (z0 : Int) (z1 : Int) (z2 : Int) (z3 : Int) (z4 : Int) (z5 : Int) (z6 : Int) => k (.exit 0) (fS T_ref05_Angle_0_0 [.i z0, .i z1, .i z2, .i z3, .i z4, .i z5, .i z6])) x0 x1 x2 x3 x4 x5 x6 := by
      intros
      kernel_rfl
    have h : iterC (codeL PP (S_ref05_Angle F) c_ref05_Angle (I_ref05_Angle F) (J_ref05_Angle F) (loopAt PP 29 0) 0) (headOf c_ref05_Angle 0) k (n + 1) (fS T_ref05_Angle_0 [.i x0, .i x1, .i x2, .i x3, .i x4, .i x5, .i x6]) = B_ref05_Angle_0 F (fun (y0 : Int) (y1 : Int) (y2 : Int) (y3 : Int) (y4 : Int) (y5 : Int) (y6 : Int) => iterC (codeL PP (S_ref05_Angle F) c_ref05_Angle (I_ref05_Angle F) (J_ref05_Angle F) (loopAt PP 29 0) 0) (headOf c_ref05_Angle 0) k n (fS T_ref05_Angle_0 [.i y0, .i y1, .i y2, .i y3, .i y4, .i y5, .i y6])) (fun (z0 : Int) (z1 : Int) (z2 : Int) (z3 : Int) (z4 : Int) (z5 : Int) (z6 : Int) => k (.exit 0) (fS T_ref05_Angle_0_0 [.i z0, .i z1, .i z2, .i z3, .i z4, .i z5, .i z6])) x0 x1 x2 x3 x4 x5 x6 := (h0 ok_ref05_opposite o_ref05_opposite_0 ok_ref05_bare o_ref05_bare_0 ok_ref05_over o_ref05_over_0 ok_ref05_step o_ref05_step_0 L_ref05_Angle_0 L_ref05_Angle_1 L_ref05_Angle_2).trans (by kernel_rfl)
    rw [h]
    simp only [lL_ref05_Angle_0 F k n]
    rfl
theorem lL_ref05_Angle_1 (F : Nat) (k : Exit → VS → R) : ∀ (n : Nat) (x0 : Int) (x1 : Int) (x2 : Int) (x3 : Int) (x4 : Int) (x5 : Int) (x6 : Int) (x7 : Int), iterC (codeL PP (S_ref05_Angle F) c_ref05_Angle (I_ref05_Angle F) (J_ref05_Angle F) (loopAt PP 29 1) 2) (headOf c_ref05_Angle 2) k n (fS T_ref05_Angle_1 [.i x0, .i x1, .i x2, .i x3, .i x4, .i x5, .i x6, .i x7]) = L_ref05_Angle_1 F (fun (z0 : Int) (z1 : Int) (z2 : Int) (z3 : Int) (z4 : Int) (z5 : Int) (z6 : Int) (z7 : Int) => k (.exit 2) (fS T_ref05_Angle_1_0 [.i z0, .i z1, .i z2, .i z3, .i z4, .i z5, .i z6, .i z7])) n x0 x1 x2 x3 x4 x5 x6 x7
  | 0, _, _, _, _, _, _, _, _ => rfl
  | n + 1, x0, x1, x2, x3, x4, x5, x6, x7 => by
    have h0 : ∀ (ok_ref05_opposite : Nat → Int → Bool) (o_ref05_opposite_0 : Nat → Int → Int) (ok_ref05_bare : Nat → Int → Bool) (o_ref05_bare_0 : Nat → Int → Int) (ok_ref05_over : Nat → Int → Int → Bool) (o_ref05_over_0 : Nat → Int → Int → Int) (ok_ref05_step : Nat → Int → Bool) (o_ref05_step_0 : Nat → Int → Int) (L_ref05_Angle_0 : Nat → (Int → Int → Int → Int → Int → Int → Int → R) → Nat → Int → Int → Int → Int → Int → Int → Int → R) (L_ref05_Angle_1 : Nat → (Int → Int → Int → Int → Int → Int → Int → Int → R) → Nat → Int → Int → Int → Int → Int → Int → Int → Int → R) (L_ref05_Angle_2 : Nat → (Int → Int → Int → Int → Int → Int → Int → Int → Int → R) → Nat → Int → Int → Int → Int → Int → Int → Int → Int → Int → R), iterC (codeL PP (words [(84, spec ti_ref05_opposite to_ref05_opposite (fun q => (ok_ref05_opposite F (atI (nth q 0)))) (fun q => [.i (o_ref05_opposite_0 F (atI (nth q 0)))])), (85, spec ti_ref05_bare to_ref05_bare (fun q => (ok_ref05_bare F (atI (nth q 0)))) (fun q => [.i (o_ref05_bare_0 F (atI (nth q 0)))])), (79, spec ti_ref05_over to_ref05_over (fun q => (ok_ref05_over F (atI (nth q 0)) (atI (nth q 1)))) (fun q => [.i (o_ref05_over_0 F (atI (nth q 0)) (atI (nth q 1)))])), (80, spec ti_ref05_step to_ref05_step (fun q => (ok_ref05_step F (atI (nth q 0)))) (fun q => [.i (o_ref05_step_0 F (atI (nth q 0)))]))]) c_ref05_Angle (tabI c_ref05_Angle [⟨0, T_ref05_Angle_0, fun k q => L_ref05_Angle_0 F (fun (z0 : Int) (z1 : Int) (z2 : Int) (z3 : Int) (z4 : Int) (z5 : Int) (z6 : Int) => k (.exit 0) (fS T_ref05_Angle_0_0 [.i z0, .i z1, .i z2, .i z3, .i z4, .i z5, .i z6])) F (atI (nth q 0)) (atI (nth q 1)) (atI (nth q 2)) (atI (nth q 3)) (atI (nth q 4)) (atI (nth q 5)) (atI (nth q 6))⟩, ⟨2, T_ref05_Angle_1, fun k q => L_ref05_Angle_1 F (fun (z0 : Int) (z1 : Int) (z2 : Int) (z3 : Int) (z4 : Int) (z5 : Int) (z6 : Int) (z7 : Int) => k (.exit 2) (fS T_ref05_Angle_1_0 [.i z0, .i z1, .i z2, .i z3, .i z4, .i z5, .i z6, .i z7])) F (atI (nth q 0)) (atI (nth q 1)) (atI (nth q 2)) (atI (nth q 3)) (atI (nth q 4)) (atI (nth q 5)) (atI (nth q 6)) (atI (nth q 7))⟩, ⟨4, T_ref05_Angle_2, fun k q => L_ref05_Angle_2 F (fun (z0 : Int) (z1 : Int) (z2 : Int) (z3 : Int) (z4 : Int) (z5 : Int) (z6 : Int) (z7 : Int) (z8 : Int) => k (.exit 4) (fS T_ref05_Angle_2_0 [.i z0, .i z1, .i z2, .i z3, .i z4, .i z5, .i z6, .i z7, .i z8])) F (atI (nth q 0)) (atI (nth q 1)) (atI (nth q 2)) (atI (nth q 3)) (atI (nth q 4)) (atI (nth q 5)) (atI (nth q 6)) (atI (nth q 7)) (atI (nth q 8))⟩]) (tabJ []) (loopAt PP 29 1) 2) (headOf c_ref05_Angle 2) k (n + 1) (fS T_ref05_Angle_1 [.i x0, .i x1, .i x2, .i x3, .i x4, .i x5, .i x6, .i x7]) = (fun (rc : Int → Int → Int → Int → Int → Int → Int → Int → R) (ex0 : Int → Int → Int → Int → Int → Int → Int → Int → R) (x0 : Int) (x1 : Int) (x2 : Int) (x3 : Int) (x4 : Int) (x5 : Int) (x6 : Int) (x7 : Int) => (
  bif ((decide (x7 < 64))) then (
    bif (ok_ref05_bare F x3) then (
      let v729 : Int := (o_ref05_bare_0 F x3)
      bif (ok_ref05_bare F x4) then (
        let v730 : Int := (o_ref05_bare_0 F x4)
        bif ((decide (((if v730 > v729 then v730 else v729)) < 1152921504606846976))) then (
          rc x0 x1 x2 ((IntKind.wrap .i64 (2 * x3))) ((IntKind.wrap .i64 (2 * x4))) x5 x6 ((IntKind.wrap .i64 (x7 + 1))))
        else (
          ex0 x0 x1 x2 x3 x4 x5 x6 x7))
      else (
        none))
    else (
      none))
  else (
    ex0 x0 x1 x2 x3 x4 x5 x6 x7) : R)) (fun (y0 : Int) (y1 : Int) (y2 : Int) (y3 : Int) (y4 : Int) (y5 : Int) (y6 : Int) (y7 : Int) => iterC (codeL PP (words [(84, spec ti_ref05_opposite to_ref05_opposite (fun q => (ok_ref05_opposite F (atI (nth q 0)))) (fun q => [.i (o_ref05_opposite_0 F (atI (nth q 0)))])), (85, spec ti_ref05_bare to_ref05_bare (fun q => (ok_ref05_bare F (atI (nth q 0)))) (fun q => [.i (o_ref05_bare_0 F (atI (nth q 0)))])), (79, spec ti_ref05_over to_ref05_over (fun q => (ok_ref05_over F (atI (nth q 0)) (atI (nth q 1)))) (fun q => [.i (o_ref05_over_0 F (atI (nth q 0)) (atI (nth q 1)))])), (80, spec ti_ref05_step to_ref05_step (fun q => (ok_ref05_step F (atI (nth q 0)))) (fun q => [.i (o_ref05_step_0 F (atI (nth q 0)))]))]) c_ref05_Angle (tabI c_ref05_Angle [⟨0, T_ref05_Angle_0, fun k q => L_ref05_Angle_0 F (fun (z0 : Int) (z1 : Int) (z2 : Int) (z3 : Int) (z4 : Int) (z5 : Int) (z6 : Int) => k (.exit 0) (fS T_ref05_Angle_0_0 [.i z0, .i z1, .i z2, .i z3, .i z4, .i z5, .i z6])) F (atI (nth q 0)) (atI (nth q 1)) (atI (nth q 2)) (atI (nth q 3)) (atI (nth q 4)) (atI (nth q 5)) (atI (nth q 6))⟩, ⟨2, T_ref05_Angle_1, fun k q => L_ref05_Angle_1 F (fun (z0 : Int) (z1 : Int) (z2 : Int) (z3 : Int) (z4 : Int) (z5 : Int) (z6 : Int) (z7 : Int) => k (.exit 2) (fS T_ref05_Angle_1_0 [.i z0, .i z1, .i z2, .i z3, .i z4, .i z5, .i z6, .i z7])) F (atI (nth q 0)) (atI (nth q 1)) (atI (nth q 2)) (atI (nth q 3)) (atI (nth q 4)) (atI (nth q 5)) (atI (nth q 6)) (atI (nth q 7))⟩, ⟨4, T_ref05_Angle_2, fun k q => L_ref05_Angle_2 F (fun (z0 : Int) (z1 : Int) (z2 : Int) (z3 : Int) (z4 : Int) (z5 : Int) (z6 : Int) (z7 : Int) (z8 : Int) => k (.exit 4) (fS T_ref05_Angle_2_0 [.i z0, .i z1, .i z2, .i z3, .i z4, .i z5, .i z6, .i z7, .i z8])) F (atI (nth q 0)) (atI (nth q 1)) (atI (nth q 2)) (atI (nth q 3)) (atI (nth q 4)) (atI (nth q 5)) (atI (nth q 6)) (atI (nth q 7)) (atI (nth q 8))⟩]) (tabJ []) (loopAt PP 29 1) 2) (headOf c_ref05_Angle 2) k n (fS T_ref05_Angle_1 [.i y0, .i y1, .i y2, .i y3, .i y4, .i y5, .i y6, .i y7])) (fun (z0 : Int) (z1 : Int) (z2 : Int) (z3 : Int) (z4 : Int) (z5 : Int) (z6 : Int) (z7 : Int) => k (.exit 2) (fS T_ref05_Angle_1_0 [.i z0, .i z1, .i z2, .i z3, .i z4, .i z5, .i z6, .i z7])) x0 x1 x2 x3 x4 x5 x6 x7 := by
      intros
      kernel_rfl
    have h : iterC (codeL PP (S_ref05_Angle F) c_ref05_Angle (I_ref05_Angle F) (J_ref05_Angle F) (loopAt PP 29 1) 2) (headOf c_ref05_Angle 2) k (n + 1) (fS T_ref05_Angle_1 [.i x0, .i x1, .i x2, .i x3, .i x4, .i x5, .i x6, .i x7]) = B_ref05_Angle_1 F (fun (y0 : Int) (y1 : Int) (y2 : Int) (y3 : Int) (y4 : Int) (y5 : Int) (y6 : Int) (y7 : Int) => iterC (codeL PP (S_ref05_Angle F) c_ref05_Angle (I_ref05_Angle F) (J_ref05_Angle F) (loopAt PP 29 1) 2) (headOf c_ref05_Angle 2) k n (fS T_ref05_Angle_1 [.i y0, .i y1, .i y2, .i y3, .i y4, .i y5, .i y6, .i y7])) (fun (z0 : Int) (z1 : Int) (z2 : Int) (z3 : Int) (z4 : Int) (z5 : Int) (z6 : Int) (z7 : Int) => k (.exit 2) (fS T_ref05_Angle_1_0 [.i z0, .i z1, .i z2, .i z3, .i z4, .i z5, .i z6, .i z7])) x0 x1 x2 x3 x4 x5 x6 x7 := (h0 ok_ref05_opposite o_ref05_opposite_0 ok_ref05_bare o_ref05_bare_0 ok_ref05_over o_ref05_over_0 ok_ref05_step o_ref05_step_0 L_ref05_Angle_0 L_ref05_Angle_1 L_ref05_Angle_2).trans (by kernel_rfl)
    rw [h]
    simp only [lL_ref05_Angle_1 F k n]
    rfl
theorem lL_ref05_Angle_2 (F : Nat) (k : Exit → VS → R) : ∀ (n : Nat) (x0 : Int) (x1 : Int) (x2 : Int) (x3 : Int) (x4 : Int) (x5 : Int) (x6 : Int) (x7 : Int) (x8 : Int), iterC (codeL PP (S_ref05_Angle F) c_ref05_Angle (I_ref05_Angle F) (J_ref05_Angle F) (loopAt PP 29 2) 4) (headOf c_ref05_Angle 4) k n (fS T_ref05_Angle_2 [.i x0, .i x1, .i x2, .i x3, .i x4, .i x5, .i x6, .i x7, .i x8]) = L_ref05_Angle_2 F (fun (z0 : Int) (z1 : Int) (z2 : Int) (z3 : Int) (z4 : Int) (z5 : Int) (z6 : Int) (z7 : Int) (z8 : Int) => k (.exit 4) (fS T_ref05_Angle_2_0 [.i z0, .i z1, .i z2, .i z3, .i z4, .i z5, .i z6, .i z7, .i z8])) n x0 x1 x2 x3 x4 x5 x6 x7 x8
  | 0, _, _, _, _, _, _, _, _, _ => rfl
  | n + 1, x0, x1, x2, x3, x4, x5, x6, x7, x8 => by
    have h0 : ∀ (ok_ref05_opposite : Nat → Int → Bool) (o_ref05_opposite_0 : Nat → Int → Int) (ok_ref05_bare : Nat → Int → Bool) (o_ref05_bare_0 : Nat → Int → Int) (ok_ref05_over : Nat → Int → Int → Bool) (o_ref05_over_0 : Nat → Int → Int → Int) (ok_ref05_step : Nat → Int → Bool) (o_ref05_step_0 : Nat → Int → Int) (L_ref05_Angle_0 : Nat → (Int → Int → Int → Int → Int → Int → Int → R) → Nat → Int → Int → Int → Int → Int → Int → Int → R) (L_ref05_Angle_1 : Nat → (Int → Int → Int → Int → Int → Int → Int → Int → R) → Nat → Int → Int → Int → Int → Int → Int → Int → Int → R) (L_ref05_Angle_2 : Nat → (Int → Int → Int → Int → Int → Int → Int → Int → Int → R) → Nat → Int → Int → Int → Int → Int → Int → Int → Int → Int → R), iterC (codeL PP (words [(84, spec ti_ref05_opposite to_ref05_opposite (fun q => (ok_ref05_opposite F (atI (nth q 0)))) (fun q => [.i (o_ref05_opposite_0 F (atI (nth q 0)))])), (85, spec ti_ref05_bare to_ref05_bare (fun q => (ok_ref05_bare F (atI (nth q 0)))) (fun q => [.i (o_ref05_bare_0 F (atI (nth q 0)))])), (79, spec ti_ref05_over to_ref05_over (fun q => (ok_ref05_over F (atI (nth q 0)) (atI (nth q 1)))) (fun q => [.i (o_ref05_over_0 F (atI (nth q 0)) (atI (nth q 1)))])), (80, spec ti_ref05_step to_ref05_step (fun q => (ok_ref05_step F (atI (nth q 0)))) (fun q => [.i (o_ref05_step_0 F (atI (nth q 0)))]))]) c_ref05_Angle (tabI c_ref05_Angle [⟨0, T_ref05_Angle_0, fun k q => L_ref05_Angle_0 F (fun (z0 : Int) (z1 : Int) (z2 : Int) (z3 : Int) (z4 : Int) (z5 : Int) (z6 : Int) => k (.exit 0) (fS T_ref05_Angle_0_0 [.i z0, .i z1, .i z2, .i z3, .i z4, .i z5, .i z6])) F (atI (nth q 0)) (atI (nth q 1)) (atI (nth q 2)) (atI (nth q 3)) (atI (nth q 4)) (atI (nth q 5)) (atI (nth q 6))⟩, ⟨2, T_ref05_Angle_1, fun k q => L_ref05_Angle_1 F (fun (z0 : Int) (z1 : Int) (z2 : Int) (z3 : Int) (z4 : Int) (z5 : Int) (z6 : Int) (z7 : Int) => k (.exit 2) (fS T_ref05_Angle_1_0 [.i z0, .i z1, .i z2, .i z3, .i z4, .i z5, .i z6, .i z7])) F (atI (nth q 0)) (atI (nth q 1)) (atI (nth q 2)) (atI (nth q 3)) (atI (nth q 4)) (atI (nth q 5)) (atI (nth q 6)) (atI (nth q 7))⟩, ⟨4, T_ref05_Angle_2, fun k q => L_ref05_Angle_2 F (fun (z0 : Int) (z1 : Int) (z2 : Int) (z3 : Int) (z4 : Int) (z5 : Int) (z6 : Int) (z7 : Int) (z8 : Int) => k (.exit 4) (fS T_ref05_Angle_2_0 [.i z0, .i z1, .i z2, .i z3, .i z4, .i z5, .i z6, .i z7, .i z8])) F (atI (nth q 0)) (atI (nth q 1)) (atI (nth q 2)) (atI (nth q 3)) (atI (nth q 4)) (atI (nth q 5)) (atI (nth q 6)) (atI (nth q 7)) (atI (nth q 8))⟩]) (tabJ []) (loopAt PP 29 2) 4) (headOf c_ref05_Angle 4) k (n + 1) (fS T_ref05_Angle_2 [.i x0, .i x1, .i x2, .i x3, .i x4, .i x5, .i x6, .i x7, .i x8]) = (fun (rc : Int → Int → Int → Int → Int → Int → Int → Int → Int → R) (ex0 : Int → Int → Int → Int → Int → Int → Int → Int → Int → R) (x0 : Int) (x1 : Int) (x2 : Int) (x3 : Int) (x4 : Int) (x5 : Int) (x6 : Int) (x7 : Int) (x8 : Int) => (
  bif ((decide (x8 < 30))) then (
    bif (ok_ref05_over F x3 x8) then (
      let v754 : Int := (o_ref05_over_0 F x3 x8)
      bif (ok_ref05_over F x4 x8) then (
        let v755 : Int := (o_ref05_over_0 F x4 x8)
        bif ((decide (x4 ≥ 0))) then (
          bif (ok_ref05_step F x8) then (
            rc x0 x1 x2 ((IntKind.wrap .i64 (x3 + v755))) ((IntKind.wrap .i64 (x4 - v754))) ((IntKind.wrap .i64 (x5 + ((o_ref05_step_0 F x8))))) x6 x7 ((IntKind.wrap .i64 (x8 + 1))))
          else (
            none))
        else (
          bif (ok_ref05_step F x8) then (
            rc x0 x1 x2 ((IntKind.wrap .i64 (x3 - v755))) ((IntKind.wrap .i64 (x4 + v754))) ((IntKind.wrap .i64 (x5 - ((o_ref05_step_0 F x8))))) x6 x7 ((IntKind.wrap .i64 (x8 + 1))))
          else (
            none)))
      else (
        none))
    else (
      none))
  else (
    ex0 x0 x1 x2 x3 x4 x5 x6 x7 x8) : R)) (fun (y0 : Int) (y1 : Int) (y2 : Int) (y3 : Int) (y4 : Int) (y5 : Int) (y6 : Int) (y7 : Int) (y8 : Int) => iterC (codeL PP (words [(84, spec ti_ref05_opposite to_ref05_opposite (fun q => (ok_ref05_opposite F (atI (nth q 0)))) (fun q => [.i (o_ref05_opposite_0 F (atI (nth q 0)))])), (85, spec ti_ref05_bare to_ref05_bare (fun q => (ok_ref05_bare F (atI (nth q 0)))) (fun q => [.i (o_ref05_bare_0 F (atI (nth q 0)))])), (79, spec ti_ref05_over to_ref05_over (fun q => (ok_ref05_over F (atI (nth q 0)) (atI (nth q 1)))) (fun q => [.i (o_ref05_over_0 F (atI (nth q 0)) (atI (nth q 1)))])), (80, spec ti_ref05_step to_ref05_step (fun q => (ok_ref05_step F (atI (nth q 0)))) (fun q => [.i (o_ref05_step_0 F (atI (nth q 0)))]))]) c_ref05_Angle (tabI c_ref05_Angle [⟨0, T_ref05_Angle_0, fun k q => L_ref05_Angle_0 F (fun (z0 : Int) (z1 : Int) (z2 : Int) (z3 : Int) (z4 : Int) (z5 : Int) (z6 : Int) => k (.exit 0) (fS T_ref05_Angle_0_0 [.i z0, .i z1, .i z2, .i z3, .i z4, .i z5, .i z6])) F (atI (nth q 0)) (atI (nth q 1)) (atI (nth q 2)) (atI (nth q 3)) (atI (nth q 4)) (atI (nth q 5)) (atI (nth q 6))⟩, ⟨2, T_ref05_Angle_1, fun k q => L_ref05_Angle_1 F (fun (z0 : Int) (z1 : Int) (z2 : Int) (z3 : Int) (z4 : Int) (z5 : Int) (z6 : Int) (z7 : Int) => k (.exit 2) (fS T_ref05_Angle_1_0 [.i z0, .i z1, .i z2, .i z3, .i z4, .i z5, .i z6, .i z7])) F (atI (nth q 0)) (atI (nth q 1)) (atI (nth q 2)) (atI (nth q 3)) (atI (nth q 4)) (atI (nth q 5)) (atI (nth q 6)) (atI (nth q 7))⟩, ⟨4, T_ref05_Angle_2, fun k q => L_ref05_Angle_2 F (fun (z0 : Int) (z1 : Int) (z2 : Int) (z3 : Int) (z4 : Int) (z5 : Int) (z6 : Int) (z7 : Int) (z8 : Int) => k (.exit 4) (fS T_ref05_Angle_2_0 [.i z0, .i z1, .i z2, .i z3, .i z4, .i z5, .i z6, .i z7, .i z8])) F (atI (nth q 0)) (atI (nth q 1)) (atI (nth q 2)) (atI (nth q 3)) (atI (nth q 4)) (atI (nth q 5)) (atI (nth q 6)) (atI (nth q 7)) (atI (nth q 8))⟩]) (tabJ []) (loopAt PP 29 2) 4) (headOf c_ref05_Angle 4) k n (fS T_ref05_Angle_2 [.i y0, .i y1, .i y2, .i y3, .i y4, .i y5, .i y6, .i y7, .i y8])) (fun (z0 : Int) (z1 : Int) (z2 : Int) (z3 : Int) (z4 : Int) (z5 : Int) (z6 : Int) (z7 : Int) (z8 : Int) => k (.exit 4) (fS T_ref05_Angle_2_0 [.i z0, .i z1, .i z2, .i z3, .i z4, .i z5, .i z6, .i z7, .i z8])) x0 x1 x2 x3 x4 x5 x6 x7 x8 := by
      intros
      kernel_rfl
    have h : iterC (codeL PP (S_ref05_Angle F) c_ref05_Angle (I_ref05_Angle F) (J_ref05_Angle F) (loopAt PP 29 2) 4) (headOf c_ref05_Angle 4) k (n + 1) (fS T_ref05_Angle_2 [.i x0, .i x1, .i x2, .i x3, .i x4, .i x5, .i x6, .i x7, .i x8]) = B_ref05_Angle_2 F (fun (y0 : Int) (y1 : Int) (y2 : Int) (y3 : Int) (y4 : Int) (y5 : Int) (y6 : Int) (y7 : Int) (y8 : Int) => iterC (codeL PP (S_ref05_Angle F) c_ref05_Angle (I_ref05_Angle F) (J_ref05_Angle F) (loopAt PP 29 2) 4) (headOf c_ref05_Angle 4) k n (fS T_ref05_Angle_2 [.i y0, .i y1, .i y2, .i y3, .i y4, .i y5, .i y6, .i y7, .i y8])) (fun (z0 : Int) (z1 : Int) (z2 : Int) (z3 : Int) (z4 : Int) (z5 : Int) (z6 : Int) (z7 : Int) (z8 : Int) => k (.exit 4) (fS T_ref05_Angle_2_0 [.i z0, .i z1, .i z2, .i z3, .i z4, .i z5, .i z6, .i z7, .i z8])) x0 x1 x2 x3 x4 x5 x6 x7 x8 := (h0 ok_ref05_opposite o_ref05_opposite_0 ok_ref05_bare o_ref05_bare_0 ok_ref05_over o_ref05_over_0 ok_ref05_step o_ref05_step_0 L_ref05_Angle_0 L_ref05_Angle_1 L_ref05_Angle_2).trans (by kernel_rfl)
    rw [h]
    simp only [lL_ref05_Angle_2 F k n]
    rfl
def f_ref05_Angle (F : Nat) (a0 : Int) (a1 : Int) : R :=
  bif ((a1 == 0)) then (
    bif ((a0 == 0)) then (
      some (.v (.int .u32 0)))
    else (
      bif ((decide (a1 < 0))) then (
        bif (ok_ref05_opposite F a1) then (
          bif (ok_ref05_opposite F a0) then (
            L_ref05_Angle_0 F (fun (v713 : Int) (v714 : Int) (v715 : Int) (v716 : Int) (v717 : Int) (v718 : Int) (v719 : Int) =>
              L_ref05_Angle_1 F (fun (v736 : Int) (v737 : Int) (v738 : Int) (v739 : Int) (v740 : Int) (v741 : Int) (v742 : Int) (v743 : Int) =>
                L_ref05_Angle_2 F (fun (v767 : Int) (v768 : Int) (v769 : Int) (v770 : Int) (v771 : Int) (v772 : Int) (v773 : Int) (v774 : Int) (v775 : Int) =>
                  some (.v (.int .u32 ((IntKind.wrap .u32 v772))))) F v736 v737 v738 v739 v740 v741 v742 v743 0) F v713 v714 v715 v716 v717 v718 v719 0) F a0 a1 0 ((o_ref05_opposite_0 F a1)) ((o_ref05_opposite_0 F a0)) 2147483648 0)
          else (
            none))
        else (
          none))
      else (
        L_ref05_Angle_0 F (fun (v777 : Int) (v778 : Int) (v779 : Int) (v780 : Int) (v781 : Int) (v782 : Int) (v783 : Int) =>
          L_ref05_Angle_1 F (fun (v784 : Int) (v785 : Int) (v786 : Int) (v787 : Int) (v788 : Int) (v789 : Int) (v790 : Int) (v791 : Int) =>
            L_ref05_Angle_2 F (fun (v792 : Int) (v793 : Int) (v794 : Int) (v795 : Int) (v796 : Int) (v797 : Int) (v798 : Int) (v799 : Int) (v800 : Int) =>
              some (.v (.int .u32 ((IntKind.wrap .u32 v797))))) F v784 v785 v786 v787 v788 v789 v790 v791 0) F v777 v778 v779 v780 v781 v782 v783 0) F a0 a1 0 a1 a0 0 0)))
  else (
    bif ((decide (a1 < 0))) then (
      bif (ok_ref05_opposite F a1) then (
        bif (ok_ref05_opposite F a0) then (
          L_ref05_Angle_0 F (fun (v805 : Int) (v806 : Int) (v807 : Int) (v808 : Int) (v809 : Int) (v810 : Int) (v811 : Int) =>
            L_ref05_Angle_1 F (fun (v812 : Int) (v813 : Int) (v814 : Int) (v815 : Int) (v816 : Int) (v817 : Int) (v818 : Int) (v819 : Int) =>
              L_ref05_Angle_2 F (fun (v820 : Int) (v821 : Int) (v822 : Int) (v823 : Int) (v824 : Int) (v825 : Int) (v826 : Int) (v827 : Int) (v828 : Int) =>
                some (.v (.int .u32 ((IntKind.wrap .u32 v825))))) F v812 v813 v814 v815 v816 v817 v818 v819 0) F v805 v806 v807 v808 v809 v810 v811 0) F a0 a1 0 ((o_ref05_opposite_0 F a1)) ((o_ref05_opposite_0 F a0)) 2147483648 0)
        else (
          none))
      else (
        none))
    else (
      L_ref05_Angle_0 F (fun (v830 : Int) (v831 : Int) (v832 : Int) (v833 : Int) (v834 : Int) (v835 : Int) (v836 : Int) =>
        L_ref05_Angle_1 F (fun (v837 : Int) (v838 : Int) (v839 : Int) (v840 : Int) (v841 : Int) (v842 : Int) (v843 : Int) (v844 : Int) =>
          L_ref05_Angle_2 F (fun (v845 : Int) (v846 : Int) (v847 : Int) (v848 : Int) (v849 : Int) (v850 : Int) (v851 : Int) (v852 : Int) (v853 : Int) =>
            some (.v (.int .u32 ((IntKind.wrap .u32 v850))))) F v837 v838 v839 v840 v841 v842 v843 v844 0) F v830 v831 v832 v833 v834 v835 v836 0) F a0 a1 0 a1 a0 0 0))
theorem e_ref05_Angle (F : Nat) (a0 : Int) (a1 : Int) : funL PP (S_ref05_Angle F) c_ref05_Angle (I_ref05_Angle F) (J_ref05_Angle F) 29 (fTs ti_ref05_Angle [.i a0, .i a1]).1 = f_ref05_Angle F a0 a1 := by
  have h : ∀ (ok_ref05_opposite : Nat → Int → Bool) (o_ref05_opposite_0 : Nat → Int → Int) (ok_ref05_bare : Nat → Int → Bool) (o_ref05_bare_0 : Nat → Int → Int) (ok_ref05_over : Nat → Int → Int → Bool) (o_ref05_over_0 : Nat → Int → Int → Int) (ok_ref05_step : Nat → Int → Bool) (o_ref05_step_0 : Nat → Int → Int) (L_ref05_Angle_0 : Nat → (Int → Int → Int → Int → Int → Int → Int → R) → Nat → Int → Int → Int → Int → Int → Int → Int → R) (L_ref05_Angle_1 : Nat → (Int → Int → Int → Int → Int → Int → Int → Int → R) → Nat → Int → Int → Int → Int → Int → Int → Int → Int → R) (L_ref05_Angle_2 : Nat → (Int → Int → Int → Int → Int → Int → Int → Int → Int → R) → Nat → Int → Int → Int → Int → Int → Int → Int → Int → Int → R), funL PP (words [(84, spec ti_ref05_opposite to_ref05_opposite (fun q => (ok_ref05_opposite F (atI (nth q 0)))) (fun q => [.i (o_ref05_opposite_0 F (atI (nth q 0)))])), (85, spec ti_ref05_bare to_ref05_bare (fun q => (ok_ref05_bare F (atI (nth q 0)))) (fun q => [.i (o_ref05_bare_0 F (atI (nth q 0)))])), (79, spec ti_ref05_over to_ref05_over (fun q => (ok_ref05_over F (atI (nth q 0)) (atI (nth q 1)))) (fun q => [.i (o_ref05_over_0 F (atI (nth q 0)) (atI (nth q 1)))])), (80, spec ti_ref05_step to_ref05_step (fun q => (ok_ref05_step F (atI (nth q 0)))) (fun q => [.i (o_ref05_step_0 F (atI (nth q 0)))]))]) c_ref05_Angle (tabI c_ref05_Angle [⟨0, T_ref05_Angle_0, fun k q => L_ref05_Angle_0 F (fun (z0 : Int) (z1 : Int) (z2 : Int) (z3 : Int) (z4 : Int) (z5 : Int) (z6 : Int) => k (.exit 0) (fS T_ref05_Angle_0_0 [.i z0, .i z1, .i z2, .i z3, .i z4, .i z5, .i z6])) F (atI (nth q 0)) (atI (nth q 1)) (atI (nth q 2)) (atI (nth q 3)) (atI (nth q 4)) (atI (nth q 5)) (atI (nth q 6))⟩, ⟨2, T_ref05_Angle_1, fun k q => L_ref05_Angle_1 F (fun (z0 : Int) (z1 : Int) (z2 : Int) (z3 : Int) (z4 : Int) (z5 : Int) (z6 : Int) (z7 : Int) => k (.exit 2) (fS T_ref05_Angle_1_0 [.i z0, .i z1, .i z2, .i z3, .i z4, .i z5, .i z6, .i z7])) F (atI (nth q 0)) (atI (nth q 1)) (atI (nth q 2)) (atI (nth q 3)) (atI (nth q 4)) (atI (nth q 5)) (atI (nth q 6)) (atI (nth q 7))⟩, ⟨4, T_ref05_Angle_2, fun k q => L_ref05_Angle_2 F (fun (z0 : Int) (z1 : Int) (z2 : Int) (z3 : Int) (z4 : Int) (z5 : Int) (z6 : Int) (z7 : Int) (z8 : Int) => k (.exit 4) (fS T_ref05_Angle_2_0 [.i z0, .i z1, .i z2, .i z3, .i z4, .i z5, .i z6, .i z7, .i z8])) F (atI (nth q 0)) (atI (nth q 1)) (atI (nth q 2)) (atI (nth q 3)) (atI (nth q 4)) (atI (nth q 5)) (atI (nth q 6)) (atI (nth q 7)) (atI (nth q 8))⟩]) (tabJ []) 29 (fTs ti_ref05_Angle [.i a0, .i a1]).1 = (
  bif ((a1 == 0)) then (
    bif ((a0 == 0)) then (
      some (.v (.int .u32 0)))
    else (
      bif ((decide (a1 < 0))) then (
        bif (ok_ref05_opposite F a1) then (
          bif (ok_ref05_opposite F a0) then (
            L_ref05_Angle_0 F (fun (v713 : Int) (v714 : Int) (v715 : Int) (v716 : Int) (v717 : Int) (v718 : Int) (v719 : Int) =>
              L_ref05_Angle_1 F (fun (v736 : Int) (v737 : Int) (v738 : Int) (v739 : Int) (v740 : Int) (v741 : Int) (v742 : Int) (v743 : Int) =>
                L_ref05_Angle_2 F (fun (v767 : Int) (v768 : Int) (v769 : Int) (v770 : Int) (v771 : Int) (v772 : Int) (v773 : Int) (v774 : Int) (v775 : Int) =>
                  some (.v (.int .u32 ((IntKind.wrap .u32 v772))))) F v736 v737 v738 v739 v740 v741 v742 v743 0) F v713 v714 v715 v716 v717 v718 v719 0) F a0 a1 0 ((o_ref05_opposite_0 F a1)) ((o_ref05_opposite_0 F a0)) 2147483648 0)
          else (
            none))
        else (
          none))
      else (
        L_ref05_Angle_0 F (fun (v777 : Int) (v778 : Int) (v779 : Int) (v780 : Int) (v781 : Int) (v782 : Int) (v783 : Int) =>
          L_ref05_Angle_1 F (fun (v784 : Int) (v785 : Int) (v786 : Int) (v787 : Int) (v788 : Int) (v789 : Int) (v790 : Int) (v791 : Int) =>
            L_ref05_Angle_2 F (fun (v792 : Int) (v793 : Int) (v794 : Int) (v795 : Int) (v796 : Int) (v797 : Int) (v798 : Int) (v799 : Int) (v800 : Int) =>
              some (.v (.int .u32 ((IntKind.wrap .u32 v797))))) F v784 v785 v786 v787 v788 v789 v790 v791 0) F v777 v778 v779 v780 v781 v782 v783 0) F a0 a1 0 a1 a0 0 0)))
  else (
    bif ((decide (a1 < 0))) then (
      bif (ok_ref05_opposite F a1) then (
        bif (ok_ref05_opposite F a0) then (
          L_ref05_Angle_0 F (fun (v805 : Int) (v806 : Int) (v807 : Int) (v808 : Int) (v809 : Int) (v810 : Int) (v811 : Int) =>
            L_ref05_Angle_1 F (fun (v812 : Int) (v813 : Int) (v814 : Int) (v815 : Int) (v816 : Int) (v817 : Int) (v818 : Int) (v819 : Int) =>
              L_ref05_Angle_2 F (fun (v820 : Int) (v821 : Int) (v822 : Int) (v823 : Int) (v824 : Int) (v825 : Int) (v826 : Int) (v827 : Int) (v828 : Int) =>
                some (.v (.int .u32 ((IntKind.wrap .u32 v825))))) F v812 v813 v814 v815 v816 v817 v818 v819 0) F v805 v806 v807 v808 v809 v810 v811 0) F a0 a1 0 ((o_ref05_opposite_0 F a1)) ((o_ref05_opposite_0 F a0)) 2147483648 0)
        else (
          none))
      else (
        none))
    else (
      L_ref05_Angle_0 F (fun (v830 : Int) (v831 : Int) (v832 : Int) (v833 : Int) (v834 : Int) (v835 : Int) (v836 : Int) =>
        L_ref05_Angle_1 F (fun (v837 : Int) (v838 : Int) (v839 : Int) (v840 : Int) (v841 : Int) (v842 : Int) (v843 : Int) (v844 : Int) =>
          L_ref05_Angle_2 F (fun (v845 : Int) (v846 : Int) (v847 : Int) (v848 : Int) (v849 : Int) (v850 : Int) (v851 : Int) (v852 : Int) (v853 : Int) =>
            some (.v (.int .u32 ((IntKind.wrap .u32 v850))))) F v837 v838 v839 v840 v841 v842 v843 v844 0) F v830 v831 v832 v833 v834 v835 v836 0) F a0 a1 0 a1 a0 0 0)) : R) := by
    intros
    kernel_rfl
  exact (h ok_ref05_opposite o_ref05_opposite_0 ok_ref05_bare o_ref05_bare_0 ok_ref05_over o_ref05_over_0 ok_ref05_step o_ref05_step_0 L_ref05_Angle_0 L_ref05_Angle_1 L_ref05_Angle_2).trans (by kernel_rfl)
def ok_ref05_Angle (F : Nat) (a0 : Int) (a1 : Int) : Bool := okT to_ref05_Angle (f_ref05_Angle F a0 a1)
def o_ref05_Angle_0 (F : Nat) (a0 : Int) (a1 : Int) : Int := atI (nth (outT to_ref05_Angle (f_ref05_Angle F a0 a1)) 0)
theorem k_ref05_Angle (F : Nat) (a0 : Int) (a1 : Int) {z0 : Int} (h : f_ref05_Angle F a0 a1 = some (.v (.int .u32 z0))) : ok_ref05_Angle F a0 a1 = true ∧ o_ref05_Angle_0 F a0 a1 = z0 := by
  refine ⟨?_, ?_⟩
  · unfold ok_ref05_Angle; rw [h]; kernel_rfl
  · unfold o_ref05_Angle_0; rw [h]; kernel_rfl
def s_ref05_Angle (F : Nat) : List VV → Option (Bool × VV) := spec ti_ref05_Angle to_ref05_Angle (fun q => (ok_ref05_Angle F (atI (nth q 0)) (atI (nth q 1)))) (fun q => [.i (o_ref05_Angle_0 F (atI (nth q 0)) (atI (nth q 1)))])
theorem hS_ref05_Angle (F : Nat) : ∀ f, Good PP f (unS (S_ref05_Angle F f)) := words_good fun p hp => by
  simp only [List.mem_cons, List.not_mem_nil, or_false] at hp
  rcases hp with rfl | rfl | rfl | rfl
  · exact g_ref05_opposite F
  · exact g_ref05_bare F
  · exact g_ref05_over F
  · exact g_ref05_step F
theorem hl_ref05_Angle (F : Nat) : ∀ p ∈ loopsIn PP 29, LoopOK PP (S_ref05_Angle F) c_ref05_Angle F (I_ref05_Angle F) (J_ref05_Angle F) p :=
  loops_of [(0, loopAt PP 29 0), (2, loopAt PP 29 1), (4, loopAt PP 29 2)] (by kernel_rfl) (all_cons
    (loop_ok (W_ref05_Angle F) rfl (tab_cons (fun _ k q => Le.ofEq ((lL_ref05_Angle_0 F k F (atI (nth q 0)) (atI (nth q 1)) (atI (nth q 2)) (atI (nth q 3)) (atI (nth q 4)) (atI (nth q 5)) (atI (nth q 6))).symm.trans (congrArg (iterC (codeL PP (S_ref05_Angle F) c_ref05_Angle (I_ref05_Angle F) (J_ref05_Angle F) (loopAt PP 29 0) 0) (headOf c_ref05_Angle 0) k F) (show fS T_ref05_Angle_0 [.i (atI (nth q 0)), .i (atI (nth q 1)), .i (atI (nth q 2)), .i (atI (nth q 3)), .i (atI (nth q 4)), .i (atI (nth q 5)), .i (atI (nth q 6))] = fS T_ref05_Angle_0 q by kernel_rfl)))) (tab_cons (fun h => absurd h (by decide)) (tab_cons (fun h => absurd h (by decide)) tab_nil)))) (all_cons
    (loop_ok (W_ref05_Angle F) rfl (tab_cons (fun h => absurd h (by decide)) (tab_cons (fun _ k q => Le.ofEq ((lL_ref05_Angle_1 F k F (atI (nth q 0)) (atI (nth q 1)) (atI (nth q 2)) (atI (nth q 3)) (atI (nth q 4)) (atI (nth q 5)) (atI (nth q 6)) (atI (nth q 7))).symm.trans (congrArg (iterC (codeL PP (S_ref05_Angle F) c_ref05_Angle (I_ref05_Angle F) (J_ref05_Angle F) (loopAt PP 29 1) 2) (headOf c_ref05_Angle 2) k F) (show fS T_ref05_Angle_1 [.i (atI (nth q 0)), .i (atI (nth q 1)), .i (atI (nth q 2)), .i (atI (nth q 3)), .i (atI (nth q 4)), .i (atI (nth q 5)), .i (atI (nth q 6)), .i (atI (nth q 7))] = fS T_ref05_Angle_1 q by kernel_rfl)))) (tab_cons (fun h => absurd h (by decide)) tab_nil)))) (all_cons
    (loop_ok (W_ref05_Angle F) rfl (tab_cons (fun h => absurd h (by decide)) (tab_cons (fun h => absurd h (by decide)) (tab_cons (fun _ k q => Le.ofEq ((lL_ref05_Angle_2 F k F (atI (nth q 0)) (atI (nth q 1)) (atI (nth q 2)) (atI (nth q 3)) (atI (nth q 4)) (atI (nth q 5)) (atI (nth q 6)) (atI (nth q 7)) (atI (nth q 8))).symm.trans (congrArg (iterC (codeL PP (S_ref05_Angle F) c_ref05_Angle (I_ref05_Angle F) (J_ref05_Angle F) (loopAt PP 29 2) 4) (headOf c_ref05_Angle 4) k F) (show fS T_ref05_Angle_2 [.i (atI (nth q 0)), .i (atI (nth q 1)), .i (atI (nth q 2)), .i (atI (nth q 3)), .i (atI (nth q 4)), .i (atI (nth q 5)), .i (atI (nth q 6)), .i (atI (nth q 7)), .i (atI (nth q 8))] = fS T_ref05_Angle_2 q by kernel_rfl)))) tab_nil)))) all_nil)))
theorem hj_ref05_Angle (F : Nat) : ∀ p ∈ joinsIn PP c_ref05_Angle 29, JoinOK PP (S_ref05_Angle F) c_ref05_Angle (I_ref05_Angle F) (J_ref05_Angle F) p :=
  joins_of [] (by kernel_rfl) all_nil
theorem g_ref05_Angle (F : Nat) : Good PP 29 (unS (s_ref05_Angle F)) :=
  fun_spec (hS_ref05_Angle F) (by kernel_rfl) (by kernel_rfl) (C := c_ref05_Angle) (F := fun q => (f_ref05_Angle F (atI (nth q 0)) (atI (nth q 1)))) (fun _ => F) (fun _ => I_ref05_Angle F) (fun _ => J_ref05_Angle F) (fun _ => hl_ref05_Angle F) (fun _ => hj_ref05_Angle F)
    (fun q => (congrArg (funL PP (S_ref05_Angle F) c_ref05_Angle (I_ref05_Angle F) (J_ref05_Angle F) 29) (show (fTs ti_ref05_Angle q).1 = (fTs ti_ref05_Angle [.i (atI (nth q 0)), .i (atI (nth q 1))]).1 by kernel_rfl)).trans (e_ref05_Angle F (atI (nth q 0)) (atI (nth q 1))))
    (fun _ h => (okT_fill h).trans (congrArg some (by kernel_rfl)))

end Go.Xv
set_option linter.unusedVariables false
namespace Go.Xv
/- 36 _law05_near -/
def c_law05_near : Cfg := ⟨[0, 1, 2, 6, 7], [], [], []⟩
def ti_law05_near : List TV := [.v (.int .u32), .v (.int .u32), .v (.int .i32)]
def to_law05_near : TV := .v (.bool)
def S_law05_near (F : Nat) : FuncId → List VV → Option (Bool × VV) := words []
def W_law05_near (F : Nat) : List LW := []
def I_law05_near (F : Nat) : Nat → VS → (Exit → VS → R) → R := tabI c_law05_near (W_law05_near F)
def WJ_law05_near (F : Nat) : List LJ := []
def J_law05_near (F : Nat) : Nat → Nat → VS → (Exit → VS → R) → R := tabJ (WJ_law05_near F)
def f_law05_near (F : Nat) (a0 : Int) (a1 : Int) (a2 : Int) : R :=
  let v672 : Int := (IntKind.wrap .i32 ((IntKind.wrap .u32 (a0 - a1))))
  bif ((decide (v672 ≤ a2))) then (
    some (.v (.bool ((decide (v672 ≥ ((IntKind.wrap .i32 (0 - a2)))))))))
  else (
    some (.v (.bool false)))
theorem e_law05_near (F : Nat) (a0 : Int) (a1 : Int) (a2 : Int) : funL PP (S_law05_near F) c_law05_near (I_law05_near F) (J_law05_near F) 36 (fTs ti_law05_near [.i a0, .i a1, .i a2]).1 = f_law05_near F a0 a1 a2 := by
  have h : ∀ (_ : Unit), funL PP (words []) c_law05_near (tabI c_law05_near []) (tabJ []) 36 (fTs ti_law05_near [.i a0, .i a1, .i a2]).1 = (
  let v672 : Int := (IntKind.wrap .i32 ((IntKind.wrap .u32 (a0 - a1))))
  bif ((decide (v672 ≤ a2))) then (
    some (.v (.bool ((decide (v672 ≥ ((IntKind.wrap .i32 (0 - a2)))))))))
  else (
    some (.v (.bool false))) : R) := by
    intros
    kernel_rfl
  exact (h ()).trans (by kernel_rfl)
def ok_law05_near (F : Nat) (a0 : Int) (a1 : Int) (a2 : Int) : Bool := okT to_law05_near (f_law05_near F a0 a1 a2)
def o_law05_near_0 (F : Nat) (a0 : Int) (a1 : Int) (a2 : Int) : Bool := atB (nth (outT to_law05_near (f_law05_near F a0 a1 a2)) 0)
theorem k_law05_near (F : Nat) (a0 : Int) (a1 : Int) (a2 : Int) {z0 : Bool} (h : f_law05_near F a0 a1 a2 = some (.v (.bool z0))) : ok_law05_near F a0 a1 a2 = true ∧ o_law05_near_0 F a0 a1 a2 = z0 := by
  refine ⟨?_, ?_⟩
  · unfold ok_law05_near; rw [h]; kernel_rfl
  · unfold o_law05_near_0; rw [h]; kernel_rfl
def s_law05_near (F : Nat) : List VV → Option (Bool × VV) := spec ti_law05_near to_law05_near (fun q => (ok_law05_near F (atI (nth q 0)) (atI (nth q 1)) (atI (nth q 2)))) (fun q => [.b (o_law05_near_0 F (atI (nth q 0)) (atI (nth q 1)) (atI (nth q 2)))])
theorem hS_law05_near (F : Nat) : ∀ f, Good PP f (unS (S_law05_near F f)) := words_good fun p hp => by
  cases hp
theorem hl_law05_near (F : Nat) : ∀ p ∈ loopsIn PP 36, LoopOK PP (S_law05_near F) c_law05_near F (I_law05_near F) (J_law05_near F) p :=
  loops_of [] (by kernel_rfl) all_nil
theorem hj_law05_near (F : Nat) : ∀ p ∈ joinsIn PP c_law05_near 36, JoinOK PP (S_law05_near F) c_law05_near (I_law05_near F) (J_law05_near F) p :=
  joins_of [] (by kernel_rfl) all_nil
theorem g_law05_near (F : Nat) : Good PP 36 (unS (s_law05_near F)) :=
  fun_spec (hS_law05_near F) (by kernel_rfl) (by kernel_rfl) (C := c_law05_near) (F := fun q => (f_law05_near F (atI (nth q 0)) (atI (nth q 1)) (atI (nth q 2)))) (fun _ => F) (fun _ => I_law05_near F) (fun _ => J_law05_near F) (fun _ => hl_law05_near F) (fun _ => hj_law05_near F)
    (fun q => (congrArg (funL PP (S_law05_near F) c_law05_near (I_law05_near F) (J_law05_near F) 36) (show (fTs ti_law05_near q).1 = (fTs ti_law05_near [.i (atI (nth q 0)), .i (atI (nth q 1)), .i (atI (nth q 2))]).1 by kernel_rfl)).trans (e_law05_near F (atI (nth q 0)) (atI (nth q 1)) (atI (nth q 2))))
    (fun _ h => (okT_fill h).trans (congrArg some (by kernel_rfl)))

end Go.Xv
set_option linter.unusedVariables false
namespace Go.Xv
/- 38 _turn_Way -/
def c_turn_Way : Cfg := ⟨[0, 1, 4], [], [], []⟩
def ti_turn_Way : List TV := [.v (.int .u32), .v (.int .u32)]
def to_turn_Way : TV := .v (.int .i32)
def S_turn_Way (F : Nat) : FuncId → List VV → Option (Bool × VV) := words []
def W_turn_Way (F : Nat) : List LW := []
def I_turn_Way (F : Nat) : Nat → VS → (Exit → VS → R) → R := tabI c_turn_Way (W_turn_Way F)
def WJ_turn_Way (F : Nat) : List LJ := []
def J_turn_Way (F : Nat) : Nat → Nat → VS → (Exit → VS → R) → R := tabJ (WJ_turn_Way F)
def f_turn_Way (F : Nat) (a0 : Int) (a1 : Int) : R :=
  some (.v (.int .i32 ((IntKind.wrap .i32 ((IntKind.wrap .u32 (a1 - a0)))))))
theorem e_turn_Way (F : Nat) (a0 : Int) (a1 : Int) : funL PP (S_turn_Way F) c_turn_Way (I_turn_Way F) (J_turn_Way F) 38 (fTs ti_turn_Way [.i a0, .i a1]).1 = f_turn_Way F a0 a1 := by
  have h : ∀ (_ : Unit), funL PP (words []) c_turn_Way (tabI c_turn_Way []) (tabJ []) 38 (fTs ti_turn_Way [.i a0, .i a1]).1 = (
  some (.v (.int .i32 ((IntKind.wrap .i32 ((IntKind.wrap .u32 (a1 - a0))))))) : R) := by
    intros
    kernel_rfl
  exact (h ()).trans (by kernel_rfl)
def ok_turn_Way (F : Nat) (a0 : Int) (a1 : Int) : Bool := okT to_turn_Way (f_turn_Way F a0 a1)
def o_turn_Way_0 (F : Nat) (a0 : Int) (a1 : Int) : Int := atI (nth (outT to_turn_Way (f_turn_Way F a0 a1)) 0)
theorem k_turn_Way (F : Nat) (a0 : Int) (a1 : Int) {z0 : Int} (h : f_turn_Way F a0 a1 = some (.v (.int .i32 z0))) : ok_turn_Way F a0 a1 = true ∧ o_turn_Way_0 F a0 a1 = z0 := by
  refine ⟨?_, ?_⟩
  · unfold ok_turn_Way; rw [h]; kernel_rfl
  · unfold o_turn_Way_0; rw [h]; kernel_rfl
def s_turn_Way (F : Nat) : List VV → Option (Bool × VV) := spec ti_turn_Way to_turn_Way (fun q => (ok_turn_Way F (atI (nth q 0)) (atI (nth q 1)))) (fun q => [.i (o_turn_Way_0 F (atI (nth q 0)) (atI (nth q 1)))])
theorem hS_turn_Way (F : Nat) : ∀ f, Good PP f (unS (S_turn_Way F f)) := words_good fun p hp => by
  cases hp
theorem hl_turn_Way (F : Nat) : ∀ p ∈ loopsIn PP 38, LoopOK PP (S_turn_Way F) c_turn_Way F (I_turn_Way F) (J_turn_Way F) p :=
  loops_of [] (by kernel_rfl) all_nil
theorem hj_turn_Way (F : Nat) : ∀ p ∈ joinsIn PP c_turn_Way 38, JoinOK PP (S_turn_Way F) c_turn_Way (I_turn_Way F) (J_turn_Way F) p :=
  joins_of [] (by kernel_rfl) all_nil
theorem g_turn_Way (F : Nat) : Good PP 38 (unS (s_turn_Way F)) :=
  fun_spec (hS_turn_Way F) (by kernel_rfl) (by kernel_rfl) (C := c_turn_Way) (F := fun q => (f_turn_Way F (atI (nth q 0)) (atI (nth q 1)))) (fun _ => F) (fun _ => I_turn_Way F) (fun _ => J_turn_Way F) (fun _ => hl_turn_Way F) (fun _ => hj_turn_Way F)
    (fun q => (congrArg (funL PP (S_turn_Way F) c_turn_Way (I_turn_Way F) (J_turn_Way F) 38) (show (fTs ti_turn_Way q).1 = (fTs ti_turn_Way [.i (atI (nth q 0)), .i (atI (nth q 1))]).1 by kernel_rfl)).trans (e_turn_Way F (atI (nth q 0)) (atI (nth q 1))))
    (fun _ h => (okT_fill h).trans (congrArg some (by kernel_rfl)))

end Go.Xv
set_option linter.unusedVariables false
namespace Go.Xv
/- 27 _law05_works -/
def c_law05_works : Cfg := ⟨[0, 1, 2], [], [7], []⟩
def ti_law05_works : List TV := []
def to_law05_works : TV := .v (.bool)
def S_law05_works (F : Nat) : FuncId → List VV → Option (Bool × VV) := words [(25, s_turn_Both F), (28, s_turn_Angle F), (36, s_law05_near F), (38, s_turn_Way F)]
def W_law05_works (F : Nat) : List LW := []
def I_law05_works (F : Nat) : Nat → VS → (Exit → VS → R) → R := tabI c_law05_works (W_law05_works F)
def WJ_law05_works (F : Nat) : List LJ := []
def J_law05_works (F : Nat) : Nat → Nat → VS → (Exit → VS → R) → R := tabJ (WJ_law05_works F)
def f_law05_works (F : Nat) : R :=
  bif (ok_turn_Both F 0) then (
    bif (ok_turn_Angle F 4294967296 4294967296) then (
      let v670 : Int := (o_turn_Angle_0 F 4294967296 4294967296)
      bif (ok_law05_near F v670 536870912 256) then (
        bif ((o_law05_near_0 F v670 536870912 256)) then (
          bif (ok_turn_Way F 1 0) then (
            bif ((((o_turn_Way_0 F 1 0)) == (-1))) then (
              bif ((decide (((o_turn_Both_0 F 0)) > 4294966272))) then (
                some (.v (.bool ((decide (((o_turn_Both_1 F 0)) < 1024))))))
              else (
                some (.v (.bool false))))
            else (
              some (.v (.bool false))))
          else (
            none))
        else (
          some (.v (.bool false))))
      else (
        none))
    else (
      none))
  else (
    none)
theorem e_law05_works (F : Nat) : funL PP (S_law05_works F) c_law05_works (I_law05_works F) (J_law05_works F) 27 (fTs ti_law05_works []).1 = f_law05_works F := by
  have h : ∀ (ok_turn_Both : Nat → Int → Bool) (o_turn_Both_0 : Nat → Int → Int) (o_turn_Both_1 : Nat → Int → Int) (ok_turn_Angle : Nat → Int → Int → Bool) (o_turn_Angle_0 : Nat → Int → Int → Int) (ok_law05_near : Nat → Int → Int → Int → Bool) (o_law05_near_0 : Nat → Int → Int → Int → Bool) (ok_turn_Way : Nat → Int → Int → Bool) (o_turn_Way_0 : Nat → Int → Int → Int), funL PP (words [(25, spec ti_turn_Both to_turn_Both (fun q => (ok_turn_Both F (atI (nth q 0)))) (fun q => [.i (o_turn_Both_0 F (atI (nth q 0))), .i (o_turn_Both_1 F (atI (nth q 0)))])), (28, spec ti_turn_Angle to_turn_Angle (fun q => (ok_turn_Angle F (atI (nth q 0)) (atI (nth q 1)))) (fun q => [.i (o_turn_Angle_0 F (atI (nth q 0)) (atI (nth q 1)))])), (36, spec ti_law05_near to_law05_near (fun q => (ok_law05_near F (atI (nth q 0)) (atI (nth q 1)) (atI (nth q 2)))) (fun q => [.b (o_law05_near_0 F (atI (nth q 0)) (atI (nth q 1)) (atI (nth q 2)))])), (38, spec ti_turn_Way to_turn_Way (fun q => (ok_turn_Way F (atI (nth q 0)) (atI (nth q 1)))) (fun q => [.i (o_turn_Way_0 F (atI (nth q 0)) (atI (nth q 1)))]))]) c_law05_works (tabI c_law05_works []) (tabJ []) 27 (fTs ti_law05_works []).1 = (
  bif (ok_turn_Both F 0) then (
    bif (ok_turn_Angle F 4294967296 4294967296) then (
      let v670 : Int := (o_turn_Angle_0 F 4294967296 4294967296)
      bif (ok_law05_near F v670 536870912 256) then (
        bif ((o_law05_near_0 F v670 536870912 256)) then (
          bif (ok_turn_Way F 1 0) then (
            bif ((((o_turn_Way_0 F 1 0)) == (-1))) then (
              bif ((decide (((o_turn_Both_0 F 0)) > 4294966272))) then (
                some (.v (.bool ((decide (((o_turn_Both_1 F 0)) < 1024))))))
              else (
                some (.v (.bool false))))
            else (
              some (.v (.bool false))))
          else (
            none))
        else (
          some (.v (.bool false))))
      else (
        none))
    else (
      none))
  else (
    none) : R) := by
    intros
    kernel_rfl
  exact (h ok_turn_Both o_turn_Both_0 o_turn_Both_1 ok_turn_Angle o_turn_Angle_0 ok_law05_near o_law05_near_0 ok_turn_Way o_turn_Way_0).trans (by kernel_rfl)
def ok_law05_works (F : Nat) : Bool := okT to_law05_works (f_law05_works F)
def o_law05_works_0 (F : Nat) : Bool := atB (nth (outT to_law05_works (f_law05_works F)) 0)
theorem k_law05_works (F : Nat) {z0 : Bool} (h : f_law05_works F = some (.v (.bool z0))) : ok_law05_works F = true ∧ o_law05_works_0 F = z0 := by
  refine ⟨?_, ?_⟩
  · unfold ok_law05_works; rw [h]; kernel_rfl
  · unfold o_law05_works_0; rw [h]; kernel_rfl
def s_law05_works (F : Nat) : List VV → Option (Bool × VV) := spec ti_law05_works to_law05_works (fun q => (ok_law05_works F )) (fun q => [.b (o_law05_works_0 F )])
theorem hS_law05_works (F : Nat) : ∀ f, Good PP f (unS (S_law05_works F f)) := words_good fun p hp => by
  simp only [List.mem_cons, List.not_mem_nil, or_false] at hp
  rcases hp with rfl | rfl | rfl | rfl
  · exact g_turn_Both F
  · exact g_turn_Angle F
  · exact g_law05_near F
  · exact g_turn_Way F
theorem hl_law05_works (F : Nat) : ∀ p ∈ loopsIn PP 27, LoopOK PP (S_law05_works F) c_law05_works F (I_law05_works F) (J_law05_works F) p :=
  loops_of [] (by kernel_rfl) all_nil
theorem hj_law05_works (F : Nat) : ∀ p ∈ joinsIn PP c_law05_works 27, JoinOK PP (S_law05_works F) c_law05_works (I_law05_works F) (J_law05_works F) p :=
  joins_of [] (by kernel_rfl) all_nil
theorem g_law05_works (F : Nat) : Good PP 27 (unS (s_law05_works F)) :=
  fun_spec (hS_law05_works F) (by kernel_rfl) (by kernel_rfl) (C := c_law05_works) (F := fun q => (f_law05_works F )) (fun _ => F) (fun _ => I_law05_works F) (fun _ => J_law05_works F) (fun _ => hl_law05_works F) (fun _ => hj_law05_works F)
    (fun q => (congrArg (funL PP (S_law05_works F) c_law05_works (I_law05_works F) (J_law05_works F) 27) (show (fTs ti_law05_works q).1 = (fTs ti_law05_works []).1 by kernel_rfl)).trans (e_law05_works F ))
    (fun _ h => (okT_fill h).trans (congrArg some (by kernel_rfl)))

end Go.Xv
set_option linter.unusedVariables false
namespace Go.Xv
/- 5 _law05_TurnAngle -/
def c_law05_TurnAngle : Cfg := ⟨[0, 1, 4], [], [], []⟩
def ti_law05_TurnAngle : List TV := [.v (.int .i64), .v (.int .i64)]
def to_law05_TurnAngle : TV := .v (.bool)
def S_law05_TurnAngle (F : Nat) : FuncId → List VV → Option (Bool × VV) := words [(28, s_turn_Angle F), (29, s_ref05_Angle F), (27, s_law05_works F)]
def W_law05_TurnAngle (F : Nat) : List LW := []
def I_law05_TurnAngle (F : Nat) : Nat → VS → (Exit → VS → R) → R := tabI c_law05_TurnAngle (W_law05_TurnAngle F)
def WJ_law05_TurnAngle (F : Nat) : List LJ := []
def J_law05_TurnAngle (F : Nat) : Nat → Nat → VS → (Exit → VS → R) → R := tabJ (WJ_law05_TurnAngle F)
def f_law05_TurnAngle (F : Nat) (a0 : Int) (a1 : Int) : R :=
  bif (ok_turn_Angle F a0 a1) then (
    bif (ok_ref05_Angle F a0 a1) then (
      bif ((((o_turn_Angle_0 F a0 a1)) == ((o_ref05_Angle_0 F a0 a1)))) then (
        bif (ok_law05_works F) then (
          some (.v (.bool ((o_law05_works_0 F)))))
        else (
          none))
      else (
        some (.v (.bool false))))
    else (
      none))
  else (
    none)
theorem e_law05_TurnAngle (F : Nat) (a0 : Int) (a1 : Int) : funL PP (S_law05_TurnAngle F) c_law05_TurnAngle (I_law05_TurnAngle F) (J_law05_TurnAngle F) 5 (fTs ti_law05_TurnAngle [.i a0, .i a1]).1 = f_law05_TurnAngle F a0 a1 := by
  have h : ∀ (ok_turn_Angle : Nat → Int → Int → Bool) (o_turn_Angle_0 : Nat → Int → Int → Int) (ok_ref05_Angle : Nat → Int → Int → Bool) (o_ref05_Angle_0 : Nat → Int → Int → Int) (ok_law05_works : Nat → Bool) (o_law05_works_0 : Nat → Bool), funL PP (words [(28, spec ti_turn_Angle to_turn_Angle (fun q => (ok_turn_Angle F (atI (nth q 0)) (atI (nth q 1)))) (fun q => [.i (o_turn_Angle_0 F (atI (nth q 0)) (atI (nth q 1)))])), (29, spec ti_ref05_Angle to_ref05_Angle (fun q => (ok_ref05_Angle F (atI (nth q 0)) (atI (nth q 1)))) (fun q => [.i (o_ref05_Angle_0 F (atI (nth q 0)) (atI (nth q 1)))])), (27, spec ti_law05_works to_law05_works (fun q => (ok_law05_works F )) (fun q => [.b (o_law05_works_0 F )]))]) c_law05_TurnAngle (tabI c_law05_TurnAngle []) (tabJ []) 5 (fTs ti_law05_TurnAngle [.i a0, .i a1]).1 = (
  bif (ok_turn_Angle F a0 a1) then (
    bif (ok_ref05_Angle F a0 a1) then (
      bif ((((o_turn_Angle_0 F a0 a1)) == ((o_ref05_Angle_0 F a0 a1)))) then (
        bif (ok_law05_works F) then (
          some (.v (.bool ((o_law05_works_0 F)))))
        else (
          none))
      else (
        some (.v (.bool false))))
    else (
      none))
  else (
    none) : R) := by
    intros
    kernel_rfl
  exact (h ok_turn_Angle o_turn_Angle_0 ok_ref05_Angle o_ref05_Angle_0 ok_law05_works o_law05_works_0).trans (by kernel_rfl)
def ok_law05_TurnAngle (F : Nat) (a0 : Int) (a1 : Int) : Bool := okT to_law05_TurnAngle (f_law05_TurnAngle F a0 a1)
def o_law05_TurnAngle_0 (F : Nat) (a0 : Int) (a1 : Int) : Bool := atB (nth (outT to_law05_TurnAngle (f_law05_TurnAngle F a0 a1)) 0)
theorem k_law05_TurnAngle (F : Nat) (a0 : Int) (a1 : Int) {z0 : Bool} (h : f_law05_TurnAngle F a0 a1 = some (.v (.bool z0))) : ok_law05_TurnAngle F a0 a1 = true ∧ o_law05_TurnAngle_0 F a0 a1 = z0 := by
  refine ⟨?_, ?_⟩
  · unfold ok_law05_TurnAngle; rw [h]; kernel_rfl
  · unfold o_law05_TurnAngle_0; rw [h]; kernel_rfl
def s_law05_TurnAngle (F : Nat) : List VV → Option (Bool × VV) := spec ti_law05_TurnAngle to_law05_TurnAngle (fun q => (ok_law05_TurnAngle F (atI (nth q 0)) (atI (nth q 1)))) (fun q => [.b (o_law05_TurnAngle_0 F (atI (nth q 0)) (atI (nth q 1)))])
theorem hS_law05_TurnAngle (F : Nat) : ∀ f, Good PP f (unS (S_law05_TurnAngle F f)) := words_good fun p hp => by
  simp only [List.mem_cons, List.not_mem_nil, or_false] at hp
  rcases hp with rfl | rfl | rfl
  · exact g_turn_Angle F
  · exact g_ref05_Angle F
  · exact g_law05_works F
theorem hl_law05_TurnAngle (F : Nat) : ∀ p ∈ loopsIn PP 5, LoopOK PP (S_law05_TurnAngle F) c_law05_TurnAngle F (I_law05_TurnAngle F) (J_law05_TurnAngle F) p :=
  loops_of [] (by kernel_rfl) all_nil
theorem hj_law05_TurnAngle (F : Nat) : ∀ p ∈ joinsIn PP c_law05_TurnAngle 5, JoinOK PP (S_law05_TurnAngle F) c_law05_TurnAngle (I_law05_TurnAngle F) (J_law05_TurnAngle F) p :=
  joins_of [] (by kernel_rfl) all_nil
theorem g_law05_TurnAngle (F : Nat) : Good PP 5 (unS (s_law05_TurnAngle F)) :=
  fun_spec (hS_law05_TurnAngle F) (by kernel_rfl) (by kernel_rfl) (C := c_law05_TurnAngle) (F := fun q => (f_law05_TurnAngle F (atI (nth q 0)) (atI (nth q 1)))) (fun _ => F) (fun _ => I_law05_TurnAngle F) (fun _ => J_law05_TurnAngle F) (fun _ => hl_law05_TurnAngle F) (fun _ => hj_law05_TurnAngle F)
    (fun q => (congrArg (funL PP (S_law05_TurnAngle F) c_law05_TurnAngle (I_law05_TurnAngle F) (J_law05_TurnAngle F) 5) (show (fTs ti_law05_TurnAngle q).1 = (fTs ti_law05_TurnAngle [.i (atI (nth q 0)), .i (atI (nth q 1))]).1 by kernel_rfl)).trans (e_law05_TurnAngle F (atI (nth q 0)) (atI (nth q 1))))
    (fun _ h => (okT_fill h).trans (congrArg some (by kernel_rfl)))

end Go.Xv
namespace Go.Xv
theorem p2pos (n : Nat) : (0 : Int) < 2 ^ n := Int.pow_pos (by decide)
theorem p2add (a b : Nat) : (2 : Int) ^ a * 2 ^ b = 2 ^ (a + b) := (Int.pow_add 2 a b).symm
end Go.Xv
namespace Go.Xv
/-- one bit of a number -/
def dg (z : Int) (i : Nat) : Int := z / 2 ^ i % 2
def ds (z : Int) (n : Nat) : List VV := (List.range n).map fun i => .v (.int .i64 (dg z i))
theorem ediv2 (x : Int) (i : Nat) : x / 2 ^ i / 2 = x / 2 ^ (i + 1) := by
  rw [Int.ediv_ediv_of_nonneg (Int.le_of_lt (p2pos i))]; rfl
theorem p2mono {a b : Nat} (h : a ≤ b) : (2 : Int) ^ a ≤ 2 ^ b := by
  rw [show b = a + (b - a) by omega, ← p2add]
  have h1 := p2pos a
  have h2 := p2pos (b - a)
  have : (2 : Int) ^ a * 1 ≤ 2 ^ a * 2 ^ (b - a) := Int.mul_le_mul_of_nonneg_left (by omega) (by omega)
  omega
end Go.Xv
namespace Go.Xv
def angs : List Int := [536870912, 316933406, 167458907, 85004756, 42667331, 21354465, 10679838, 5340245, 2670163, 1335087, 667544, 333772, 166886, 83443, 41722, 20861, 10430, 5215, 2608, 1304, 652, 326, 163, 81, 41, 20, 10, 5, 3, 1]
def tA (i : Nat) : Int := angs.getD i 0
theorem tA_bd : ∀ i, i < 30 → 1 ≤ tA i ∧ tA i ≤ 536870912 := by decide
theorem ediv_bd {y B : Int} (h : -B ≤ y ∧ y ≤ B) (i : Nat) : -B ≤ y / 2 ^ i ∧ y / 2 ^ i ≤ B := by
  have hP := p2pos i
  generalize (2 : Int) ^ i = P at *
  rcases Int.lt_or_le y 0 with hn | hn
  · constructor
    · rw [Int.le_ediv_iff_mul_le hP]
      have : -B * P ≤ -B * 1 := Int.mul_le_mul_of_nonpos_left (by omega) (by omega)
      omega
    · have := Int.ediv_neg_of_neg_of_pos hn hP
      omega
  · have h1 := Int.ediv_nonneg hn (Int.le_of_lt hP)
    have h2 := Int.ediv_le_self P hn
    omega
def rotX (i : Nat) (o : Bool) (x y : Int) : Int := if o then x - y / 2 ^ i else x + y / 2 ^ i
def rotY (i : Nat) (o : Bool) (x y : Int) : Int := if o then y + x / 2 ^ i else y - x / 2 ^ i
theorem rot_bd {x y B : Int} (hx : -B ≤ x ∧ x ≤ B) (hy : -B ≤ y ∧ y ≤ B) (i : Nat) (o : Bool) : (-(2 * B) ≤ rotX i o x y ∧ rotX i o x y ≤ 2 * B) ∧ (-(2 * B) ≤ rotY i o x y ∧ rotY i o x y ≤ 2 * B) := by
  have h1 := ediv_bd hx i
  have h2 := ediv_bd hy i
  unfold rotX rotY
  cases o
  · simp only [Bool.false_eq_true, if_false]; omega
  · simp only [if_true]; omega
/-- sine and cosine, step by step: both parts, and what is left -/
def bS (z : Int) : Nat → Int × Int × Int
  | 0 => (2608131496, 0, z)
  | i + 1 => (rotX i (decide (0 ≤ (bS z i).2.2)) (bS z i).1 (bS z i).2.1, rotY i (decide (0 ≤ (bS z i).2.2)) (bS z i).1 (bS z i).2.1, if 0 ≤ (bS z i).2.2 then (bS z i).2.2 - tA i else (bS z i).2.2 + tA i)
theorem bS_bd (z : Int) : ∀ i, (-(2608131496 * 2 ^ i) ≤ (bS z i).1 ∧ (bS z i).1 ≤ 2608131496 * 2 ^ i) ∧ (-(2608131496 * 2 ^ i) ≤ (bS z i).2.1 ∧ (bS z i).2.1 ≤ 2608131496 * 2 ^ i)
  | 0 => by simp [bS]
  | i + 1 => by
    obtain ⟨h1, h2⟩ := bS_bd z i
    have := rot_bd h1 h2 i (decide (0 ≤ (bS z i).2.2))
    have e : (2608131496 : Int) * 2 ^ (i + 1) = 2 * (2608131496 * 2 ^ i) := by rw [Int.pow_succ]; omega
    rw [e]
    exact this
theorem bS_I (z : Int) {i : Nat} (h : i ≤ 30) : (-4611686018427387904 ≤ (bS z i).1 ∧ (bS z i).1 ≤ 4611686018427387904) ∧ (-4611686018427387904 ≤ (bS z i).2.1 ∧ (bS z i).2.1 ≤ 4611686018427387904) := by
  have h1 := bS_bd z i
  have h2 : (2608131496 : Int) * 2 ^ i ≤ 2608131496 * 2 ^ 30 := Int.mul_le_mul_of_nonneg_left (p2mono h) (by decide)
  have h3 : (2608131496 : Int) * 2 ^ 30 ≤ 4611686018427387904 := by decide
  omega
theorem bS_z {z : Int} (hz : 0 ≤ z ∧ z < 1073741824) : ∀ {i : Nat}, i ≤ 30 → -(1073741824 + 536870912 * (i : Int)) ≤ (bS z i).2.2 ∧ (bS z i).2.2 ≤ 1073741824 + 536870912 * (i : Int)
  | 0, _ => by simp only [bS]; omega
  | i + 1, h => by
    have ih := bS_z hz (i := i) (by omega)
    have := tA_bd i (by omega)
    simp only [bS]
    push_cast
    split <;> omega
def cl01 (x : Int) : Int := min (max x 0) 4294967296
theorem cl01_bd (x : Int) : 0 ≤ cl01 x ∧ cl01 x ≤ 4294967296 := by unfold cl01; omega
def bC (a : Int) : Int := cl01 (bS (a % 1073741824) 30).1
def bN (a : Int) : Int := cl01 (bS (a % 1073741824) 30).2.1
/-- cosine and sine -/
def bothC (a : Int) : Int := if a / 1073741824 = 0 then bC a else if a / 1073741824 = 1 then -bN a else if a / 1073741824 = 2 then -bC a else bN a
def bothS (a : Int) : Int := if a / 1073741824 = 0 then bN a else if a / 1073741824 = 1 then bC a else if a / 1073741824 = 2 then -bN a else -bC a
/-- the angle, step by step -/
def aS (x y : Int) : Nat → Int × Int × Int
  | 0 => (x, y, 0)
  | i + 1 => (rotX i (decide ((aS x y i).2.1 < 0)) (aS x y i).1 (aS x y i).2.1, rotY i (decide ((aS x y i).2.1 < 0)) (aS x y i).1 (aS x y i).2.1, if (aS x y i).2.1 < 0 then (aS x y i).2.2 - tA i else (aS x y i).2.2 + tA i)
def sz (a : Int) : Int := if a < 0 then -a else a
/-- how often it is halved, and doubled -/
def big (x y : Int) : Int := max (sz x) (sz y)
def down : Nat → Int → Int → Int × Int
  | 0, x, y => (x, y)
  | n + 1, x, y => if 2305843009213693952 ≤ big x y then down n (x / 2) (y / 2) else (x, y)
def dbl : Nat → Int → Int → Int × Int
  | 0, x, y => (x, y)
  | n + 1, x, y => if big x y < 1152921504606846976 then dbl n (x * 2) (y * 2) else (x, y)
def scd (x y : Int) : Int × Int := dbl 64 (down 64 x y).1 (down 64 x y).2
def opp (a : Int) : Int := if a = -9223372036854775808 then 9223372036854775807 else -a
def angle (y x : Int) : Int := if x = 0 ∧ y = 0 then 0 else if x < 0 then ((aS (scd (opp x) (opp y)).1 (scd (opp x) (opp y)).2 30).2.2 + 2147483648) % 4294967296 else (aS (scd x y).1 (scd x y).2 30).2.2 % 4294967296
end Go.Xv
namespace Go.Xv
theorem bp {α : Type} {c : Bool} {a b x : α} (h : c = true) (h2 : a = x) : (bif c then a else b) = x := by rw [h]; exact h2
theorem bn {α : Type} {c : Bool} {a b x : α} (h : c = false) (h2 : b = x) : (bif c then a else b) = x := by rw [h]; exact h2
theorem dt {p : Prop} [Decidable p] (h : p) : decide p = true := decide_eq_true h
theorem df {p : Prop} [Decidable p] (h : ¬ p) : decide p = false := decide_eq_false h
theorem fdiv_pos (a : Int) {b : Int} (h : 0 ≤ b) : Int.fdiv a b = a / b := Int.fdiv_eq_ediv_of_nonneg a h
theorem some_int {k : IntKind} {a b : Int} (h : a = b) : (some (VV.v (.int k a)) : R) = some (.v (.int k b)) := by rw [h]
end Go.Xv
namespace Go.Xv
theorem some_bool {a b : Bool} (h : a = b) : (some (VV.v (.bool a)) : R) = some (.v (.bool b)) := by rw [h]
theorem nn (k : Nat) : (!decide ((k : Int) < 0)) = true := by rw [df (by omega)]; rfl
theorem p2min {m : Nat} (h : m ≤ 64) : min (Int.toNat (m : Int)) 64 = m := by omega

end Go.Xv
namespace Go.Xv
theorem zmul (i : Nat) : (0 + ((Int.toNat (i : Int)) * 1)) = i := by simp
end Go.Xv
namespace Go.Xv
theorem wi64_s (i : Nat) (h : i < 1000) : IntKind.wrap .i64 ((i : Int) + 1) = ((i + 1 : Nat) : Int) := by
  rw [wi64_in (by unfold I64; omega)]; push_cast; rfl
theorem ix_ok (i n : Nat) (h : i < n) : ((decide (0 ≤ (i : Int))) && (decide ((i : Int) < ((n : Nat) : Int)))) = true := by
  rw [dt (by omega), dt (by omega)]; rfl
end Go.Xv
namespace Go.Xv
def clipV (z : Int) : Int := if z < -9223372036854775808 then -9223372036854775808 else if 9223372036854775807 < z then 9223372036854775807 else z
def clipC (z : Int) : Bool := decide (z < -9223372036854775808 ∨ 9223372036854775807 < z)
theorem some_clip {n : Int} {c : Bool} {z : Int} (h : n = clipV z) (k : c = clipC z) : (some (VV.v (.tuple #[.int .i64 n, .bool c])) : R) = some (.v (.tuple #[.int .i64 (clipV z), .bool (clipC z)])) := by rw [h, k]
end Go.Xv
namespace Go.Xv
abbrev cp (z : Int) : VV := .v (.tuple #[.int .i64 (clipV z), .bool (clipC z)])
theorem clip_in {z : Int} (h : I64 z) : clipV z = z ∧ clipC z = false := by
  unfold I64 at h
  unfold clipV clipC
  exact ⟨by rw [if_neg (by omega), if_neg (by omega)], df (by omega)⟩

theorem f_fSub (F : Nat) {a b : Int} (ha : I64 a) (hb : I64 b) : f_fix_Sub F a b = some (cp (a - b)) := by
  unfold f_fix_Sub
  dsimp only
  have hs := wi64_I (a - b)
  have e := wi64 (a - b)
  generalize IntKind.wrap .i64 (a - b) = s at *
  have h1 := and_neg (xorI_I a b) (xorI_I a s)
  have h2 := xor_neg ha hb
  have h3 := xor_neg ha hs
  unfold I64 at ha hb hs
  by_cases h : -9223372036854775808 ≤ a - b ∧ a - b < 9223372036854775808
  · refine bp (dt ?_) (some_clip ?_ ?_)
    · have : ¬ andI .i64 (xorI .i64 a b) (xorI .i64 a s) < 0 := by
        rw [h1, h2, h3]; omega
      omega
    · rw [(clip_in h).1]; omega
    · rw [(clip_in h).2]
  · refine bn (df ?_) ?_
    · have : andI .i64 (xorI .i64 a b) (xorI .i64 a s) < 0 := by
        rw [h1, h2, h3]; omega
      omega
    · by_cases ha0 : a < 0
      · refine bp (dt ha0) (some_clip ?_ ?_)
        · unfold clipV; rw [if_pos (by omega)]
        · unfold clipC; exact (dt (by omega)).symm
      · refine bn (df ha0) (some_clip ?_ ?_)
        · unfold clipV; rw [if_neg (by omega), if_pos (by omega)]
        · unfold clipC; exact (dt (by omega)).symm
theorem a_fSub (F : Nat) {a b : Int} (ha : I64 a) (hb : I64 b) : ok_fix_Sub F a b = true ∧ o_fix_Sub_0 F a b = clipV (a - b) ∧ o_fix_Sub_1 F a b = clipC (a - b) := k_fix_Sub F _ _ (f_fSub F ha hb)
theorem I0 : I64 0 := by unfold I64; omega
theorem f_fNeg (F : Nat) {a : Int} (ha : I64 a) : f_fix_Neg F a = some (cp (-a)) := by
  unfold f_fix_Neg
  obtain ⟨h1, h2, h3⟩ := a_fSub F I0 ha
  refine bp h1 ?_
  rw [h2, h3, Int.zero_sub]
theorem a_fNeg (F : Nat) {a : Int} (ha : I64 a) : ok_fix_Neg F a = true ∧ o_fix_Neg_0 F a = clipV (-a) ∧ o_fix_Neg_1 F a = clipC (-a) := k_fix_Neg F _ (f_fNeg F ha)
theorem f_fClamp (F : Nat) {a l h : Int} : f_fix_Clamp F a l h = some (.v (.tuple #[.int .i64 (if h < l then l else min (max a l) h), .bool (if h < l then true else decide (min (max a l) h ≠ a))])) := by
  unfold f_fix_Clamp
  dsimp only
  by_cases hl : h < l
  · refine bp (dt hl) ?_
    rw [if_pos hl, if_pos hl]
  · refine bn (df hl) ?_
    rw [if_neg hl, if_neg hl]
    have e : (if h < (if l > a then l else a) then h else (if l > a then l else a)) = min (max a l) h := by split <;> (try split) <;> omega
    have e2 : (min (max a l) h != a) = decide (min (max a l) h ≠ a) := by rw [Bool.eq_iff_iff]; simp
    rw [e, e2]
end Go.Xv
