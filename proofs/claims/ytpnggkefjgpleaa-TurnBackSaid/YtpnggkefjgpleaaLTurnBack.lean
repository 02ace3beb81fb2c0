/- The angle of sine and cosine is no further from the angle than 1024 parts: the law returns true for every input, and leaves its arguments as they were. -/
import Derived.Test.YtpnggkefjgpleaaB2
import Derived.Test.YtpnggkefjgpleaaProg
import Derived.KernelRfl
namespace Go.Xv
noncomputable abbrev PP := Proofs.Try.prog
end Go.Xv
set_option linter.unusedVariables false
namespace Go.Xv
/- 92 _fix_Clamp -/
def c_fix_Clamp : Cfg := ⟨[0, 1, 2, 6, 7, 8, 11], [], [], []⟩
def ti_fix_Clamp : List TV := [.v (.int .i64), .v (.int .i64), .v (.int .i64)]
def to_fix_Clamp : TV := .v (.tup [.int .i64, .bool])
def S_fix_Clamp (F : Nat) : FuncId → List VV → Option (Bool × VV) := words []
def W_fix_Clamp (F : Nat) : List LW := []
def I_fix_Clamp (F : Nat) : Nat → VS → (Exit → VS → R) → R := tabI c_fix_Clamp (W_fix_Clamp F)
def WJ_fix_Clamp (F : Nat) : List LJ := []
def J_fix_Clamp (F : Nat) : Nat → Nat → VS → (Exit → VS → R) → R := tabJ (WJ_fix_Clamp F)
def f_fix_Clamp (F : Nat) (a0 : Int) (a1 : Int) (a2 : Int) : R :=
  bif ((decide (a2 < a1))) then (
    some (.v (.tuple #[.int .i64 a1, .bool true])))
  else (
    let v123 : Int := (if a1 > a0 then a1 else a0)
    let v124 : Int := (if a2 < v123 then a2 else v123)
    some (.v (.tuple #[.int .i64 v124, .bool ((v124 != a0))])))
theorem e_fix_Clamp (F : Nat) (a0 : Int) (a1 : Int) (a2 : Int) : funL PP (S_fix_Clamp F) c_fix_Clamp (I_fix_Clamp F) (J_fix_Clamp F) 92 (fTs ti_fix_Clamp [.i a0, .i a1, .i a2]).1 = f_fix_Clamp F a0 a1 a2 := by
  have h : ∀ (_ : Unit), funL PP (words []) c_fix_Clamp (tabI c_fix_Clamp []) (tabJ []) 92 (fTs ti_fix_Clamp [.i a0, .i a1, .i a2]).1 = (
  bif ((decide (a2 < a1))) then (
    some (.v (.tuple #[.int .i64 a1, .bool true])))
  else (
    let v123 : Int := (if a1 > a0 then a1 else a0)
    let v124 : Int := (if a2 < v123 then a2 else v123)
    some (.v (.tuple #[.int .i64 v124, .bool ((v124 != a0))]))) : R) := by
    intros
    kernel_rfl
  exact (h ()).trans (by kernel_rfl)
def ok_fix_Clamp (F : Nat) (a0 : Int) (a1 : Int) (a2 : Int) : Bool := okT to_fix_Clamp (f_fix_Clamp F a0 a1 a2)
def o_fix_Clamp_0 (F : Nat) (a0 : Int) (a1 : Int) (a2 : Int) : Int := atI (nth (outT to_fix_Clamp (f_fix_Clamp F a0 a1 a2)) 0)
def o_fix_Clamp_1 (F : Nat) (a0 : Int) (a1 : Int) (a2 : Int) : Bool := atB (nth (outT to_fix_Clamp (f_fix_Clamp F a0 a1 a2)) 1)
theorem k_fix_Clamp (F : Nat) (a0 : Int) (a1 : Int) (a2 : Int) {z0 : Int} {z1 : Bool} (h : f_fix_Clamp F a0 a1 a2 = some (.v (.tuple #[.int .i64 z0, .bool z1]))) : ok_fix_Clamp F a0 a1 a2 = true ∧ o_fix_Clamp_0 F a0 a1 a2 = z0 ∧ o_fix_Clamp_1 F a0 a1 a2 = z1 := by
  refine ⟨?_, ?_, ?_⟩
  · unfold ok_fix_Clamp; rw [h]; kernel_rfl
  · unfold o_fix_Clamp_0; rw [h]; kernel_rfl
  · unfold o_fix_Clamp_1; rw [h]; kernel_rfl
def s_fix_Clamp (F : Nat) : List VV → Option (Bool × VV) := spec ti_fix_Clamp to_fix_Clamp (fun q => (ok_fix_Clamp F (atI (nth q 0)) (atI (nth q 1)) (atI (nth q 2)))) (fun q => [.i (o_fix_Clamp_0 F (atI (nth q 0)) (atI (nth q 1)) (atI (nth q 2))), .b (o_fix_Clamp_1 F (atI (nth q 0)) (atI (nth q 1)) (atI (nth q 2)))])
theorem hS_fix_Clamp (F : Nat) : ∀ f, Good PP f (unS (S_fix_Clamp F f)) := words_good fun p hp => by
  cases hp
theorem hl_fix_Clamp (F : Nat) : ∀ p ∈ loopsIn PP 92, LoopOK PP (S_fix_Clamp F) c_fix_Clamp F (I_fix_Clamp F) (J_fix_Clamp F) p :=
  loops_of [] (by kernel_rfl) all_nil
theorem hj_fix_Clamp (F : Nat) : ∀ p ∈ joinsIn PP c_fix_Clamp 92, JoinOK PP (S_fix_Clamp F) c_fix_Clamp (I_fix_Clamp F) (J_fix_Clamp F) p :=
  joins_of [] (by kernel_rfl) all_nil
theorem g_fix_Clamp (F : Nat) : Good PP 92 (unS (s_fix_Clamp F)) :=
  fun_spec (hS_fix_Clamp F) (by kernel_rfl) (by kernel_rfl) (C := c_fix_Clamp) (F := fun q => (f_fix_Clamp F (atI (nth q 0)) (atI (nth q 1)) (atI (nth q 2)))) (fun _ => F) (fun _ => I_fix_Clamp F) (fun _ => J_fix_Clamp F) (fun _ => hl_fix_Clamp F) (fun _ => hj_fix_Clamp F)
    (fun q => (congrArg (funL PP (S_fix_Clamp F) c_fix_Clamp (I_fix_Clamp F) (J_fix_Clamp F) 92) (show (fTs ti_fix_Clamp q).1 = (fTs ti_fix_Clamp [.i (atI (nth q 0)), .i (atI (nth q 1)), .i (atI (nth q 2))]).1 by kernel_rfl)).trans (e_fix_Clamp F (atI (nth q 0)) (atI (nth q 1)) (atI (nth q 2))))
    (fun _ h => (okT_fill h).trans (congrArg some (by kernel_rfl)))

end Go.Xv
set_option linter.unusedVariables false
namespace Go.Xv
/- 124 _fix_Sub -/
def c_fix_Sub : Cfg := ⟨[0, 1, 4, 5, 6, 17, 20], [], [], []⟩
def ti_fix_Sub : List TV := [.v (.int .i64), .v (.int .i64)]
def to_fix_Sub : TV := .v (.tup [.int .i64, .bool])
def S_fix_Sub (F : Nat) : FuncId → List VV → Option (Bool × VV) := words []
def W_fix_Sub (F : Nat) : List LW := []
def I_fix_Sub (F : Nat) : Nat → VS → (Exit → VS → R) → R := tabI c_fix_Sub (W_fix_Sub F)
def WJ_fix_Sub (F : Nat) : List LJ := []
def J_fix_Sub (F : Nat) : Nat → Nat → VS → (Exit → VS → R) → R := tabJ (WJ_fix_Sub F)
def f_fix_Sub (F : Nat) (a0 : Int) (a1 : Int) : R :=
  let v288 : Int := (IntKind.wrap .i64 (a0 - a1))
  bif ((decide (((andI .i64 ((xorI .i64 a0 a1)) ((xorI .i64 a0 v288)))) ≥ 0))) then (
    some (.v (.tuple #[.int .i64 v288, .bool false])))
  else (
    bif ((decide (a0 < 0))) then (
      some (.v (.tuple #[.int .i64 (-9223372036854775808), .bool true])))
    else (
      some (.v (.tuple #[.int .i64 9223372036854775807, .bool true]))))
theorem e_fix_Sub (F : Nat) (a0 : Int) (a1 : Int) : funL PP (S_fix_Sub F) c_fix_Sub (I_fix_Sub F) (J_fix_Sub F) 124 (fTs ti_fix_Sub [.i a0, .i a1]).1 = f_fix_Sub F a0 a1 := by
  have h : ∀ (_ : Unit), funL PP (words []) c_fix_Sub (tabI c_fix_Sub []) (tabJ []) 124 (fTs ti_fix_Sub [.i a0, .i a1]).1 = (
  let v288 : Int := (IntKind.wrap .i64 (a0 - a1))
  bif ((decide (((andI .i64 ((xorI .i64 a0 a1)) ((xorI .i64 a0 v288)))) ≥ 0))) then (
    some (.v (.tuple #[.int .i64 v288, .bool false])))
  else (
    bif ((decide (a0 < 0))) then (
      some (.v (.tuple #[.int .i64 (-9223372036854775808), .bool true])))
    else (
      some (.v (.tuple #[.int .i64 9223372036854775807, .bool true])))) : R) := by
    intros
    kernel_rfl
  exact (h ()).trans (by kernel_rfl)
def ok_fix_Sub (F : Nat) (a0 : Int) (a1 : Int) : Bool := okT to_fix_Sub (f_fix_Sub F a0 a1)
def o_fix_Sub_0 (F : Nat) (a0 : Int) (a1 : Int) : Int := atI (nth (outT to_fix_Sub (f_fix_Sub F a0 a1)) 0)
def o_fix_Sub_1 (F : Nat) (a0 : Int) (a1 : Int) : Bool := atB (nth (outT to_fix_Sub (f_fix_Sub F a0 a1)) 1)
theorem k_fix_Sub (F : Nat) (a0 : Int) (a1 : Int) {z0 : Int} {z1 : Bool} (h : f_fix_Sub F a0 a1 = some (.v (.tuple #[.int .i64 z0, .bool z1]))) : ok_fix_Sub F a0 a1 = true ∧ o_fix_Sub_0 F a0 a1 = z0 ∧ o_fix_Sub_1 F a0 a1 = z1 := by
  refine ⟨?_, ?_, ?_⟩
  · unfold ok_fix_Sub; rw [h]; kernel_rfl
  · unfold o_fix_Sub_0; rw [h]; kernel_rfl
  · unfold o_fix_Sub_1; rw [h]; kernel_rfl
def s_fix_Sub (F : Nat) : List VV → Option (Bool × VV) := spec ti_fix_Sub to_fix_Sub (fun q => (ok_fix_Sub F (atI (nth q 0)) (atI (nth q 1)))) (fun q => [.i (o_fix_Sub_0 F (atI (nth q 0)) (atI (nth q 1))), .b (o_fix_Sub_1 F (atI (nth q 0)) (atI (nth q 1)))])
theorem hS_fix_Sub (F : Nat) : ∀ f, Good PP f (unS (S_fix_Sub F f)) := words_good fun p hp => by
  cases hp
theorem hl_fix_Sub (F : Nat) : ∀ p ∈ loopsIn PP 124, LoopOK PP (S_fix_Sub F) c_fix_Sub F (I_fix_Sub F) (J_fix_Sub F) p :=
  loops_of [] (by kernel_rfl) all_nil
theorem hj_fix_Sub (F : Nat) : ∀ p ∈ joinsIn PP c_fix_Sub 124, JoinOK PP (S_fix_Sub F) c_fix_Sub (I_fix_Sub F) (J_fix_Sub F) p :=
  joins_of [] (by kernel_rfl) all_nil
theorem g_fix_Sub (F : Nat) : Good PP 124 (unS (s_fix_Sub F)) :=
  fun_spec (hS_fix_Sub F) (by kernel_rfl) (by kernel_rfl) (C := c_fix_Sub) (F := fun q => (f_fix_Sub F (atI (nth q 0)) (atI (nth q 1)))) (fun _ => F) (fun _ => I_fix_Sub F) (fun _ => J_fix_Sub F) (fun _ => hl_fix_Sub F) (fun _ => hj_fix_Sub F)
    (fun q => (congrArg (funL PP (S_fix_Sub F) c_fix_Sub (I_fix_Sub F) (J_fix_Sub F) 124) (show (fTs ti_fix_Sub q).1 = (fTs ti_fix_Sub [.i (atI (nth q 0)), .i (atI (nth q 1))]).1 by kernel_rfl)).trans (e_fix_Sub F (atI (nth q 0)) (atI (nth q 1))))
    (fun _ h => (okT_fill h).trans (congrArg some (by kernel_rfl)))

end Go.Xv
set_option linter.unusedVariables false
namespace Go.Xv
/- 113 _fix_Neg -/
def c_fix_Neg : Cfg := ⟨[0, 2, 3], [], [], []⟩
def ti_fix_Neg : List TV := [.v (.int .i64)]
def to_fix_Neg : TV := .v (.tup [.int .i64, .bool])
def S_fix_Neg (F : Nat) : FuncId → List VV → Option (Bool × VV) := words [(124, s_fix_Sub F)]
def W_fix_Neg (F : Nat) : List LW := []
def I_fix_Neg (F : Nat) : Nat → VS → (Exit → VS → R) → R := tabI c_fix_Neg (W_fix_Neg F)
def WJ_fix_Neg (F : Nat) : List LJ := []
def J_fix_Neg (F : Nat) : Nat → Nat → VS → (Exit → VS → R) → R := tabJ (WJ_fix_Neg F)
def f_fix_Neg (F : Nat) (a0 : Int) : R :=
  bif (ok_fix_Sub F 0 a0) then (
    some (.v (.tuple #[.int .i64 ((o_fix_Sub_0 F 0 a0)), .bool ((o_fix_Sub_1 F 0 a0))])))
  else (
    none)
theorem e_fix_Neg (F : Nat) (a0 : Int) : funL PP (S_fix_Neg F) c_fix_Neg (I_fix_Neg F) (J_fix_Neg F) 113 (fTs ti_fix_Neg [.i a0]).1 = f_fix_Neg F a0 := by
  have h : ∀ (ok_fix_Sub : Nat → Int → Int → Bool) (o_fix_Sub_0 : Nat → Int → Int → Int) (o_fix_Sub_1 : Nat → Int → Int → Bool), funL PP (words [(124, spec ti_fix_Sub to_fix_Sub (fun q => (ok_fix_Sub F (atI (nth q 0)) (atI (nth q 1)))) (fun q => [.i (o_fix_Sub_0 F (atI (nth q 0)) (atI (nth q 1))), .b (o_fix_Sub_1 F (atI (nth q 0)) (atI (nth q 1)))]))]) c_fix_Neg (tabI c_fix_Neg []) (tabJ []) 113 (fTs ti_fix_Neg [.i a0]).1 = (
  bif (ok_fix_Sub F 0 a0) then (
    some (.v (.tuple #[.int .i64 ((o_fix_Sub_0 F 0 a0)), .bool ((o_fix_Sub_1 F 0 a0))])))
  else (
    none) : R) := by
    intros
    kernel_rfl
  exact (h ok_fix_Sub o_fix_Sub_0 o_fix_Sub_1).trans (by kernel_rfl)
def ok_fix_Neg (F : Nat) (a0 : Int) : Bool := okT to_fix_Neg (f_fix_Neg F a0)
def o_fix_Neg_0 (F : Nat) (a0 : Int) : Int := atI (nth (outT to_fix_Neg (f_fix_Neg F a0)) 0)
def o_fix_Neg_1 (F : Nat) (a0 : Int) : Bool := atB (nth (outT to_fix_Neg (f_fix_Neg F a0)) 1)
theorem k_fix_Neg (F : Nat) (a0 : Int) {z0 : Int} {z1 : Bool} (h : f_fix_Neg F a0 = some (.v (.tuple #[.int .i64 z0, .bool z1]))) : ok_fix_Neg F a0 = true ∧ o_fix_Neg_0 F a0 = z0 ∧ o_fix_Neg_1 F a0 = z1 := by
  refine ⟨?_, ?_, ?_⟩
  · unfold ok_fix_Neg; rw [h]; kernel_rfl
  · unfold o_fix_Neg_0; rw [h]; kernel_rfl
  · unfold o_fix_Neg_1; rw [h]; kernel_rfl
def s_fix_Neg (F : Nat) : List VV → Option (Bool × VV) := spec ti_fix_Neg to_fix_Neg (fun q => (ok_fix_Neg F (atI (nth q 0)))) (fun q => [.i (o_fix_Neg_0 F (atI (nth q 0))), .b (o_fix_Neg_1 F (atI (nth q 0)))])
theorem hS_fix_Neg (F : Nat) : ∀ f, Good PP f (unS (S_fix_Neg F f)) := words_good fun p hp => by
  simp only [List.mem_cons, List.not_mem_nil, or_false] at hp
  rcases hp with rfl
  · exact g_fix_Sub F
theorem hl_fix_Neg (F : Nat) : ∀ p ∈ loopsIn PP 113, LoopOK PP (S_fix_Neg F) c_fix_Neg F (I_fix_Neg F) (J_fix_Neg F) p :=
  loops_of [] (by kernel_rfl) all_nil
theorem hj_fix_Neg (F : Nat) : ∀ p ∈ joinsIn PP c_fix_Neg 113, JoinOK PP (S_fix_Neg F) c_fix_Neg (I_fix_Neg F) (J_fix_Neg F) p :=
  joins_of [] (by kernel_rfl) all_nil
theorem g_fix_Neg (F : Nat) : Good PP 113 (unS (s_fix_Neg F)) :=
  fun_spec (hS_fix_Neg F) (by kernel_rfl) (by kernel_rfl) (C := c_fix_Neg) (F := fun q => (f_fix_Neg F (atI (nth q 0)))) (fun _ => F) (fun _ => I_fix_Neg F) (fun _ => J_fix_Neg F) (fun _ => hl_fix_Neg F) (fun _ => hj_fix_Neg F)
    (fun q => (congrArg (funL PP (S_fix_Neg F) c_fix_Neg (I_fix_Neg F) (J_fix_Neg F) 113) (show (fTs ti_fix_Neg q).1 = (fTs ti_fix_Neg [.i (atI (nth q 0))]).1 by kernel_rfl)).trans (e_fix_Neg F (atI (nth q 0))))
    (fun _ h => (okT_fill h).trans (congrArg some (by kernel_rfl)))

end Go.Xv
set_option linter.unusedVariables false
namespace Go.Xv
/- 76 _turn_angles -/
def c_turn_angles : Cfg := ⟨[0], [], [], []⟩
def ti_turn_angles : List TV := []
def to_turn_angles : TV := .v (.agg [.int .i64, .int .i64, .int .i64, .int .i64, .int .i64, .int .i64, .int .i64, .int .i64, .int .i64, .int .i64, .int .i64, .int .i64, .int .i64, .int .i64, .int .i64, .int .i64, .int .i64, .int .i64, .int .i64, .int .i64, .int .i64, .int .i64, .int .i64, .int .i64, .int .i64, .int .i64, .int .i64, .int .i64, .int .i64, .int .i64])
def S_turn_angles (F : Nat) : FuncId → List VV → Option (Bool × VV) := words []
def W_turn_angles (F : Nat) : List LW := []
def I_turn_angles (F : Nat) : Nat → VS → (Exit → VS → R) → R := tabI c_turn_angles (W_turn_angles F)
def WJ_turn_angles (F : Nat) : List LJ := []
def J_turn_angles (F : Nat) : Nat → Nat → VS → (Exit → VS → R) → R := tabJ (WJ_turn_angles F)
def f_turn_angles (F : Nat) : R :=
  some (.v (.agg #[.int .i64 536870912, .int .i64 316933406, .int .i64 167458907, .int .i64 85004756, .int .i64 42667331, .int .i64 21354465, .int .i64 10679838, .int .i64 5340245, .int .i64 2670163, .int .i64 1335087, .int .i64 667544, .int .i64 333772, .int .i64 166886, .int .i64 83443, .int .i64 41722, .int .i64 20861, .int .i64 10430, .int .i64 5215, .int .i64 2608, .int .i64 1304, .int .i64 652, .int .i64 326, .int .i64 163, .int .i64 81, .int .i64 41, .int .i64 20, .int .i64 10, .int .i64 5, .int .i64 3, .int .i64 1]))
theorem e_turn_angles (F : Nat) : funL PP (S_turn_angles F) c_turn_angles (I_turn_angles F) (J_turn_angles F) 76 (fTs ti_turn_angles []).1 = f_turn_angles F := by
  have h : ∀ (_ : Unit), funL PP (words []) c_turn_angles (tabI c_turn_angles []) (tabJ []) 76 (fTs ti_turn_angles []).1 = (
  some (.v (.agg #[.int .i64 536870912, .int .i64 316933406, .int .i64 167458907, .int .i64 85004756, .int .i64 42667331, .int .i64 21354465, .int .i64 10679838, .int .i64 5340245, .int .i64 2670163, .int .i64 1335087, .int .i64 667544, .int .i64 333772, .int .i64 166886, .int .i64 83443, .int .i64 41722, .int .i64 20861, .int .i64 10430, .int .i64 5215, .int .i64 2608, .int .i64 1304, .int .i64 652, .int .i64 326, .int .i64 163, .int .i64 81, .int .i64 41, .int .i64 20, .int .i64 10, .int .i64 5, .int .i64 3, .int .i64 1])) : R) := by
    intros
    kernel_rfl
  exact (h ()).trans (by kernel_rfl)
def ok_turn_angles (F : Nat) : Bool := okT to_turn_angles (f_turn_angles F)
def o_turn_angles_0 (F : Nat) : Int := atI (nth (outT to_turn_angles (f_turn_angles F)) 0)
def o_turn_angles_1 (F : Nat) : Int := atI (nth (outT to_turn_angles (f_turn_angles F)) 1)
def o_turn_angles_2 (F : Nat) : Int := atI (nth (outT to_turn_angles (f_turn_angles F)) 2)
def o_turn_angles_3 (F : Nat) : Int := atI (nth (outT to_turn_angles (f_turn_angles F)) 3)
def o_turn_angles_4 (F : Nat) : Int := atI (nth (outT to_turn_angles (f_turn_angles F)) 4)
def o_turn_angles_5 (F : Nat) : Int := atI (nth (outT to_turn_angles (f_turn_angles F)) 5)
def o_turn_angles_6 (F : Nat) : Int := atI (nth (outT to_turn_angles (f_turn_angles F)) 6)
def o_turn_angles_7 (F : Nat) : Int := atI (nth (outT to_turn_angles (f_turn_angles F)) 7)
def o_turn_angles_8 (F : Nat) : Int := atI (nth (outT to_turn_angles (f_turn_angles F)) 8)
def o_turn_angles_9 (F : Nat) : Int := atI (nth (outT to_turn_angles (f_turn_angles F)) 9)
def o_turn_angles_10 (F : Nat) : Int := atI (nth (outT to_turn_angles (f_turn_angles F)) 10)
def o_turn_angles_11 (F : Nat) : Int := atI (nth (outT to_turn_angles (f_turn_angles F)) 11)
def o_turn_angles_12 (F : Nat) : Int := atI (nth (outT to_turn_angles (f_turn_angles F)) 12)
def o_turn_angles_13 (F : Nat) : Int := atI (nth (outT to_turn_angles (f_turn_angles F)) 13)
def o_turn_angles_14 (F : Nat) : Int := atI (nth (outT to_turn_angles (f_turn_angles F)) 14)
def o_turn_angles_15 (F : Nat) : Int := atI (nth (outT to_turn_angles (f_turn_angles F)) 15)
def o_turn_angles_16 (F : Nat) : Int := atI (nth (outT to_turn_angles (f_turn_angles F)) 16)
def o_turn_angles_17 (F : Nat) : Int := atI (nth (outT to_turn_angles (f_turn_angles F)) 17)
def o_turn_angles_18 (F : Nat) : Int := atI (nth (outT to_turn_angles (f_turn_angles F)) 18)
def o_turn_angles_19 (F : Nat) : Int := atI (nth (outT to_turn_angles (f_turn_angles F)) 19)
def o_turn_angles_20 (F : Nat) : Int := atI (nth (outT to_turn_angles (f_turn_angles F)) 20)
def o_turn_angles_21 (F : Nat) : Int := atI (nth (outT to_turn_angles (f_turn_angles F)) 21)
def o_turn_angles_22 (F : Nat) : Int := atI (nth (outT to_turn_angles (f_turn_angles F)) 22)
def o_turn_angles_23 (F : Nat) : Int := atI (nth (outT to_turn_angles (f_turn_angles F)) 23)
def o_turn_angles_24 (F : Nat) : Int := atI (nth (outT to_turn_angles (f_turn_angles F)) 24)
def o_turn_angles_25 (F : Nat) : Int := atI (nth (outT to_turn_angles (f_turn_angles F)) 25)
def o_turn_angles_26 (F : Nat) : Int := atI (nth (outT to_turn_angles (f_turn_angles F)) 26)
def o_turn_angles_27 (F : Nat) : Int := atI (nth (outT to_turn_angles (f_turn_angles F)) 27)
def o_turn_angles_28 (F : Nat) : Int := atI (nth (outT to_turn_angles (f_turn_angles F)) 28)
def o_turn_angles_29 (F : Nat) : Int := atI (nth (outT to_turn_angles (f_turn_angles F)) 29)
theorem k_turn_angles (F : Nat) {z0 : Int} {z1 : Int} {z2 : Int} {z3 : Int} {z4 : Int} {z5 : Int} {z6 : Int} {z7 : Int} {z8 : Int} {z9 : Int} {z10 : Int} {z11 : Int} {z12 : Int} {z13 : Int} {z14 : Int} {z15 : Int} {z16 : Int} {z17 : Int} {z18 : Int} {z19 : Int} {z20 : Int} {z21 : Int} {z22 : Int} {z23 : Int} {z24 : Int} {z25 : Int} {z26 : Int} {z27 : Int} {z28 : Int} {z29 : Int} (h : f_turn_angles F = some (.v (.agg #[.int .i64 z0, .int .i64 z1, .int .i64 z2, .int .i64 z3, .int .i64 z4, .int .i64 z5, .int .i64 z6, .int .i64 z7, .int .i64 z8, .int .i64 z9, .int .i64 z10, .int .i64 z11, .int .i64 z12, .int .i64 z13, .int .i64 z14, .int .i64 z15, .int .i64 z16, .int .i64 z17, .int .i64 z18, .int .i64 z19, .int .i64 z20, .int .i64 z21, .int .i64 z22, .int .i64 z23, .int .i64 z24, .int .i64 z25, .int .i64 z26, .int .i64 z27, .int .i64 z28, .int .i64 z29]))) : ok_turn_angles F = true ∧ o_turn_angles_0 F = z0 ∧ o_turn_angles_1 F = z1 ∧ o_turn_angles_2 F = z2 ∧ o_turn_angles_3 F = z3 ∧ o_turn_angles_4 F = z4 ∧ o_turn_angles_5 F = z5 ∧ o_turn_angles_6 F = z6 ∧ o_turn_angles_7 F = z7 ∧ o_turn_angles_8 F = z8 ∧ o_turn_angles_9 F = z9 ∧ o_turn_angles_10 F = z10 ∧ o_turn_angles_11 F = z11 ∧ o_turn_angles_12 F = z12 ∧ o_turn_angles_13 F = z13 ∧ o_turn_angles_14 F = z14 ∧ o_turn_angles_15 F = z15 ∧ o_turn_angles_16 F = z16 ∧ o_turn_angles_17 F = z17 ∧ o_turn_angles_18 F = z18 ∧ o_turn_angles_19 F = z19 ∧ o_turn_angles_20 F = z20 ∧ o_turn_angles_21 F = z21 ∧ o_turn_angles_22 F = z22 ∧ o_turn_angles_23 F = z23 ∧ o_turn_angles_24 F = z24 ∧ o_turn_angles_25 F = z25 ∧ o_turn_angles_26 F = z26 ∧ o_turn_angles_27 F = z27 ∧ o_turn_angles_28 F = z28 ∧ o_turn_angles_29 F = z29 := by
  refine ⟨?_, ?_, ?_, ?_, ?_, ?_, ?_, ?_, ?_, ?_, ?_, ?_, ?_, ?_, ?_, ?_, ?_, ?_, ?_, ?_, ?_, ?_, ?_, ?_, ?_, ?_, ?_, ?_, ?_, ?_, ?_⟩
  · unfold ok_turn_angles; rw [h]; kernel_rfl
  · unfold o_turn_angles_0; rw [h]; kernel_rfl
  · unfold o_turn_angles_1; rw [h]; kernel_rfl
  · unfold o_turn_angles_2; rw [h]; kernel_rfl
  · unfold o_turn_angles_3; rw [h]; kernel_rfl
  · unfold o_turn_angles_4; rw [h]; kernel_rfl
  · unfold o_turn_angles_5; rw [h]; kernel_rfl
  · unfold o_turn_angles_6; rw [h]; kernel_rfl
  · unfold o_turn_angles_7; rw [h]; kernel_rfl
  · unfold o_turn_angles_8; rw [h]; kernel_rfl
  · unfold o_turn_angles_9; rw [h]; kernel_rfl
  · unfold o_turn_angles_10; rw [h]; kernel_rfl
  · unfold o_turn_angles_11; rw [h]; kernel_rfl
  · unfold o_turn_angles_12; rw [h]; kernel_rfl
  · unfold o_turn_angles_13; rw [h]; kernel_rfl
  · unfold o_turn_angles_14; rw [h]; kernel_rfl
  · unfold o_turn_angles_15; rw [h]; kernel_rfl
  · unfold o_turn_angles_16; rw [h]; kernel_rfl
  · unfold o_turn_angles_17; rw [h]; kernel_rfl
  · unfold o_turn_angles_18; rw [h]; kernel_rfl
  · unfold o_turn_angles_19; rw [h]; kernel_rfl
  · unfold o_turn_angles_20; rw [h]; kernel_rfl
  · unfold o_turn_angles_21; rw [h]; kernel_rfl
  · unfold o_turn_angles_22; rw [h]; kernel_rfl
  · unfold o_turn_angles_23; rw [h]; kernel_rfl
  · unfold o_turn_angles_24; rw [h]; kernel_rfl
  · unfold o_turn_angles_25; rw [h]; kernel_rfl
  · unfold o_turn_angles_26; rw [h]; kernel_rfl
  · unfold o_turn_angles_27; rw [h]; kernel_rfl
  · unfold o_turn_angles_28; rw [h]; kernel_rfl
  · unfold o_turn_angles_29; rw [h]; kernel_rfl
def s_turn_angles (F : Nat) : List VV → Option (Bool × VV) := spec ti_turn_angles to_turn_angles (fun q => (ok_turn_angles F )) (fun q => [.i (o_turn_angles_0 F ), .i (o_turn_angles_1 F ), .i (o_turn_angles_2 F ), .i (o_turn_angles_3 F ), .i (o_turn_angles_4 F ), .i (o_turn_angles_5 F ), .i (o_turn_angles_6 F ), .i (o_turn_angles_7 F ), .i (o_turn_angles_8 F ), .i (o_turn_angles_9 F ), .i (o_turn_angles_10 F ), .i (o_turn_angles_11 F ), .i (o_turn_angles_12 F ), .i (o_turn_angles_13 F ), .i (o_turn_angles_14 F ), .i (o_turn_angles_15 F ), .i (o_turn_angles_16 F ), .i (o_turn_angles_17 F ), .i (o_turn_angles_18 F ), .i (o_turn_angles_19 F ), .i (o_turn_angles_20 F ), .i (o_turn_angles_21 F ), .i (o_turn_angles_22 F ), .i (o_turn_angles_23 F ), .i (o_turn_angles_24 F ), .i (o_turn_angles_25 F ), .i (o_turn_angles_26 F ), .i (o_turn_angles_27 F ), .i (o_turn_angles_28 F ), .i (o_turn_angles_29 F )])
theorem hS_turn_angles (F : Nat) : ∀ f, Good PP f (unS (S_turn_angles F f)) := words_good fun p hp => by
  cases hp
theorem hl_turn_angles (F : Nat) : ∀ p ∈ loopsIn PP 76, LoopOK PP (S_turn_angles F) c_turn_angles F (I_turn_angles F) (J_turn_angles F) p :=
  loops_of [] (by kernel_rfl) all_nil
theorem hj_turn_angles (F : Nat) : ∀ p ∈ joinsIn PP c_turn_angles 76, JoinOK PP (S_turn_angles F) c_turn_angles (I_turn_angles F) (J_turn_angles F) p :=
  joins_of [] (by kernel_rfl) all_nil
theorem g_turn_angles (F : Nat) : Good PP 76 (unS (s_turn_angles F)) :=
  fun_spec (hS_turn_angles F) (by kernel_rfl) (by kernel_rfl) (C := c_turn_angles) (F := fun q => (f_turn_angles F )) (fun _ => F) (fun _ => I_turn_angles F) (fun _ => J_turn_angles F) (fun _ => hl_turn_angles F) (fun _ => hj_turn_angles F)
    (fun q => (congrArg (funL PP (S_turn_angles F) c_turn_angles (I_turn_angles F) (J_turn_angles F) 76) (show (fTs ti_turn_angles q).1 = (fTs ti_turn_angles []).1 by kernel_rfl)).trans (e_turn_angles F ))
    (fun _ h => (okT_fill h).trans (congrArg some (by kernel_rfl)))

end Go.Xv
set_option linter.unusedVariables false
namespace Go.Xv
/- 77 _turn_pair_turned -/
def c_turn_pair_turned : Cfg := ⟨[0, 1, 2, 3, 6, 7, 8, 17], [], [], []⟩
def ti_turn_pair_turned : List TV := [.v (.agg [.int .i64, .int .i64]), .v (.int .i64), .v (.bool)]
def to_turn_pair_turned : TV := .v (.agg [.int .i64, .int .i64])
def S_turn_pair_turned (F : Nat) : FuncId → List VV → Option (Bool × VV) := words []
def W_turn_pair_turned (F : Nat) : List LW := []
def I_turn_pair_turned (F : Nat) : Nat → VS → (Exit → VS → R) → R := tabI c_turn_pair_turned (W_turn_pair_turned F)
def WJ_turn_pair_turned (F : Nat) : List LJ := []
def J_turn_pair_turned (F : Nat) : Nat → Nat → VS → (Exit → VS → R) → R := tabJ (WJ_turn_pair_turned F)
def f_turn_pair_turned (F : Nat) (a0 : Int) (a1 : Int) (a2 : Int) (a3 : Bool) : R :=
  bif (!(decide (a2 < 0))) then (
    let v72 : Int := (Int.fdiv a0 (2 ^ (min (Int.toNat a2) 64)))
    bif (!(decide (a2 < 0))) then (
      let v73 : Int := (Int.fdiv a1 (2 ^ (min (Int.toNat a2) 64)))
      bif a3 then (
        some (.v (.agg #[.int .i64 ((IntKind.wrap .i64 (a0 - v73))), .int .i64 ((IntKind.wrap .i64 (a1 + v72)))])))
      else (
        some (.v (.agg #[.int .i64 ((IntKind.wrap .i64 (a0 + v73))), .int .i64 ((IntKind.wrap .i64 (a1 - v72)))]))))
    else (
      none))
  else (
    none)
theorem e_turn_pair_turned (F : Nat) (a0 : Int) (a1 : Int) (a2 : Int) (a3 : Bool) : funL PP (S_turn_pair_turned F) c_turn_pair_turned (I_turn_pair_turned F) (J_turn_pair_turned F) 77 (fTs ti_turn_pair_turned [.i a0, .i a1, .i a2, .b a3]).1 = f_turn_pair_turned F a0 a1 a2 a3 := by
  have h : ∀ (_ : Unit), funL PP (words []) c_turn_pair_turned (tabI c_turn_pair_turned []) (tabJ []) 77 (fTs ti_turn_pair_turned [.i a0, .i a1, .i a2, .b a3]).1 = (
  bif (!(decide (a2 < 0))) then (
    let v72 : Int := (Int.fdiv a0 (2 ^ (min (Int.toNat a2) 64)))
    bif (!(decide (a2 < 0))) then (
      let v73 : Int := (Int.fdiv a1 (2 ^ (min (Int.toNat a2) 64)))
      bif a3 then (
        some (.v (.agg #[.int .i64 ((IntKind.wrap .i64 (a0 - v73))), .int .i64 ((IntKind.wrap .i64 (a1 + v72)))])))
      else (
        some (.v (.agg #[.int .i64 ((IntKind.wrap .i64 (a0 + v73))), .int .i64 ((IntKind.wrap .i64 (a1 - v72)))]))))
    else (
      none))
  else (
    none) : R) := by
    intros
    kernel_rfl
  exact (h ()).trans (by kernel_rfl)
def ok_turn_pair_turned (F : Nat) (a0 : Int) (a1 : Int) (a2 : Int) (a3 : Bool) : Bool := okT to_turn_pair_turned (f_turn_pair_turned F a0 a1 a2 a3)
def o_turn_pair_turned_0 (F : Nat) (a0 : Int) (a1 : Int) (a2 : Int) (a3 : Bool) : Int := atI (nth (outT to_turn_pair_turned (f_turn_pair_turned F a0 a1 a2 a3)) 0)
def o_turn_pair_turned_1 (F : Nat) (a0 : Int) (a1 : Int) (a2 : Int) (a3 : Bool) : Int := atI (nth (outT to_turn_pair_turned (f_turn_pair_turned F a0 a1 a2 a3)) 1)
theorem k_turn_pair_turned (F : Nat) (a0 : Int) (a1 : Int) (a2 : Int) (a3 : Bool) {z0 : Int} {z1 : Int} (h : f_turn_pair_turned F a0 a1 a2 a3 = some (.v (.agg #[.int .i64 z0, .int .i64 z1]))) : ok_turn_pair_turned F a0 a1 a2 a3 = true ∧ o_turn_pair_turned_0 F a0 a1 a2 a3 = z0 ∧ o_turn_pair_turned_1 F a0 a1 a2 a3 = z1 := by
  refine ⟨?_, ?_, ?_⟩
  · unfold ok_turn_pair_turned; rw [h]; kernel_rfl
  · unfold o_turn_pair_turned_0; rw [h]; kernel_rfl
  · unfold o_turn_pair_turned_1; rw [h]; kernel_rfl
def s_turn_pair_turned (F : Nat) : List VV → Option (Bool × VV) := spec ti_turn_pair_turned to_turn_pair_turned (fun q => (ok_turn_pair_turned F (atI (nth q 0)) (atI (nth q 1)) (atI (nth q 2)) (atB (nth q 3)))) (fun q => [.i (o_turn_pair_turned_0 F (atI (nth q 0)) (atI (nth q 1)) (atI (nth q 2)) (atB (nth q 3))), .i (o_turn_pair_turned_1 F (atI (nth q 0)) (atI (nth q 1)) (atI (nth q 2)) (atB (nth q 3)))])
theorem hS_turn_pair_turned (F : Nat) : ∀ f, Good PP f (unS (S_turn_pair_turned F f)) := words_good fun p hp => by
  cases hp
theorem hl_turn_pair_turned (F : Nat) : ∀ p ∈ loopsIn PP 77, LoopOK PP (S_turn_pair_turned F) c_turn_pair_turned F (I_turn_pair_turned F) (J_turn_pair_turned F) p :=
  loops_of [] (by kernel_rfl) all_nil
theorem hj_turn_pair_turned (F : Nat) : ∀ p ∈ joinsIn PP c_turn_pair_turned 77, JoinOK PP (S_turn_pair_turned F) c_turn_pair_turned (I_turn_pair_turned F) (J_turn_pair_turned F) p :=
  joins_of [] (by kernel_rfl) all_nil
theorem g_turn_pair_turned (F : Nat) : Good PP 77 (unS (s_turn_pair_turned F)) :=
  fun_spec (hS_turn_pair_turned F) (by kernel_rfl) (by kernel_rfl) (C := c_turn_pair_turned) (F := fun q => (f_turn_pair_turned F (atI (nth q 0)) (atI (nth q 1)) (atI (nth q 2)) (atB (nth q 3)))) (fun _ => F) (fun _ => I_turn_pair_turned F) (fun _ => J_turn_pair_turned F) (fun _ => hl_turn_pair_turned F) (fun _ => hj_turn_pair_turned F)
    (fun q => (congrArg (funL PP (S_turn_pair_turned F) c_turn_pair_turned (I_turn_pair_turned F) (J_turn_pair_turned F) 77) (show (fTs ti_turn_pair_turned q).1 = (fTs ti_turn_pair_turned [.i (atI (nth q 0)), .i (atI (nth q 1)), .i (atI (nth q 2)), .b (atB (nth q 3))]).1 by kernel_rfl)).trans (e_turn_pair_turned F (atI (nth q 0)) (atI (nth q 1)) (atI (nth q 2)) (atB (nth q 3))))
    (fun _ h => (okT_fill h).trans (congrArg some (by kernel_rfl)))

end Go.Xv
set_option linter.unusedVariables false
namespace Go.Xv
/- 78 _turn_unit -/
def c_turn_unit : Cfg := ⟨[0, 2, 3], [], [], []⟩
def ti_turn_unit : List TV := [.v (.int .i64)]
def to_turn_unit : TV := .v (.int .i64)
def S_turn_unit (F : Nat) : FuncId → List VV → Option (Bool × VV) := words [(92, s_fix_Clamp F)]
def W_turn_unit (F : Nat) : List LW := []
def I_turn_unit (F : Nat) : Nat → VS → (Exit → VS → R) → R := tabI c_turn_unit (W_turn_unit F)
def WJ_turn_unit (F : Nat) : List LJ := []
def J_turn_unit (F : Nat) : Nat → Nat → VS → (Exit → VS → R) → R := tabJ (WJ_turn_unit F)
def f_turn_unit (F : Nat) (a0 : Int) : R :=
  bif (ok_fix_Clamp F a0 0 4294967296) then (
    some (.v (.int .i64 ((o_fix_Clamp_0 F a0 0 4294967296)))))
  else (
    none)
theorem e_turn_unit (F : Nat) (a0 : Int) : funL PP (S_turn_unit F) c_turn_unit (I_turn_unit F) (J_turn_unit F) 78 (fTs ti_turn_unit [.i a0]).1 = f_turn_unit F a0 := by
  have h : ∀ (ok_fix_Clamp : Nat → Int → Int → Int → Bool) (o_fix_Clamp_0 : Nat → Int → Int → Int → Int) (o_fix_Clamp_1 : Nat → Int → Int → Int → Bool), funL PP (words [(92, spec ti_fix_Clamp to_fix_Clamp (fun q => (ok_fix_Clamp F (atI (nth q 0)) (atI (nth q 1)) (atI (nth q 2)))) (fun q => [.i (o_fix_Clamp_0 F (atI (nth q 0)) (atI (nth q 1)) (atI (nth q 2))), .b (o_fix_Clamp_1 F (atI (nth q 0)) (atI (nth q 1)) (atI (nth q 2)))]))]) c_turn_unit (tabI c_turn_unit []) (tabJ []) 78 (fTs ti_turn_unit [.i a0]).1 = (
  bif (ok_fix_Clamp F a0 0 4294967296) then (
    some (.v (.int .i64 ((o_fix_Clamp_0 F a0 0 4294967296)))))
  else (
    none) : R) := by
    intros
    kernel_rfl
  exact (h ok_fix_Clamp o_fix_Clamp_0 o_fix_Clamp_1).trans (by kernel_rfl)
def ok_turn_unit (F : Nat) (a0 : Int) : Bool := okT to_turn_unit (f_turn_unit F a0)
def o_turn_unit_0 (F : Nat) (a0 : Int) : Int := atI (nth (outT to_turn_unit (f_turn_unit F a0)) 0)
theorem k_turn_unit (F : Nat) (a0 : Int) {z0 : Int} (h : f_turn_unit F a0 = some (.v (.int .i64 z0))) : ok_turn_unit F a0 = true ∧ o_turn_unit_0 F a0 = z0 := by
  refine ⟨?_, ?_⟩
  · unfold ok_turn_unit; rw [h]; kernel_rfl
  · unfold o_turn_unit_0; rw [h]; kernel_rfl
def s_turn_unit (F : Nat) : List VV → Option (Bool × VV) := spec ti_turn_unit to_turn_unit (fun q => (ok_turn_unit F (atI (nth q 0)))) (fun q => [.i (o_turn_unit_0 F (atI (nth q 0)))])
theorem hS_turn_unit (F : Nat) : ∀ f, Good PP f (unS (S_turn_unit F f)) := words_good fun p hp => by
  simp only [List.mem_cons, List.not_mem_nil, or_false] at hp
  rcases hp with rfl
  · exact g_fix_Clamp F
theorem hl_turn_unit (F : Nat) : ∀ p ∈ loopsIn PP 78, LoopOK PP (S_turn_unit F) c_turn_unit F (I_turn_unit F) (J_turn_unit F) p :=
  loops_of [] (by kernel_rfl) all_nil
theorem hj_turn_unit (F : Nat) : ∀ p ∈ joinsIn PP c_turn_unit 78, JoinOK PP (S_turn_unit F) c_turn_unit (I_turn_unit F) (J_turn_unit F) p :=
  joins_of [] (by kernel_rfl) all_nil
theorem g_turn_unit (F : Nat) : Good PP 78 (unS (s_turn_unit F)) :=
  fun_spec (hS_turn_unit F) (by kernel_rfl) (by kernel_rfl) (C := c_turn_unit) (F := fun q => (f_turn_unit F (atI (nth q 0)))) (fun _ => F) (fun _ => I_turn_unit F) (fun _ => J_turn_unit F) (fun _ => hl_turn_unit F) (fun _ => hj_turn_unit F)
    (fun q => (congrArg (funL PP (S_turn_unit F) c_turn_unit (I_turn_unit F) (J_turn_unit F) 78) (show (fTs ti_turn_unit q).1 = (fTs ti_turn_unit [.i (atI (nth q 0))]).1 by kernel_rfl)).trans (e_turn_unit F (atI (nth q 0))))
    (fun _ h => (okT_fill h).trans (congrArg some (by kernel_rfl)))

end Go.Xv
set_option linter.unusedVariables false
namespace Go.Xv
/- 25 _turn_Both -/
def c_turn_Both : Cfg := ⟨[0, 2, 3, 4, 5, 6, 7, 8, 9, 10, 15, 16, 17, 26, 40, 41, 42], [(0, [0, 2, 3, 4, 5, 9, 10, 11, 12, 13, 14, 15, 16, 33, 34, 35, 36, 37, 38, 39, 40, 41, 42, 43, 44, 45, 46, 47, 48]), (2, [0, 2, 3, 4, 5, 6, 7, 8, 9, 10, 11, 12, 13, 14, 15, 16, 17, 18, 19, 20, 21, 22, 23, 24, 25, 26, 27, 28, 29, 30, 31, 32, 33, 34, 35, 36, 37, 38, 39, 40, 41, 47, 48])], [], []⟩
def ti_turn_Both : List TV := [.v (.int .u32)]
def to_turn_Both : TV := .v (.tup [.int .i64, .int .i64])
def S_turn_Both (F : Nat) : FuncId → List VV → Option (Bool × VV) := words [(76, s_turn_angles F), (77, s_turn_pair_turned F), (78, s_turn_unit F)]
def T_turn_Both_0 : TS := ⟨[(0, .v (.int .u32)), (2, .v (.int .i64)), (3, .v (.int .i64)), (4, .v (.int .i64)), (5, .lp 0 (.lit 0)), (15, .v (.agg [.int .i64, .int .i64, .int .i64, .int .i64, .int .i64, .int .i64, .int .i64, .int .i64, .int .i64, .int .i64, .int .i64, .int .i64, .int .i64, .int .i64, .int .i64, .int .i64, .int .i64, .int .i64, .int .i64, .int .i64, .int .i64, .int .i64, .int .i64, .int .i64, .int .i64, .int .i64, .int .i64, .int .i64, .int .i64, .int .i64])), (16, .v (.int .i64))], [(0, ⟨(.ex [.v (.int .i64), .v (.int .i64)]), true⟩)], 1⟩
def T_turn_Both_0_0 : TS := ⟨[(0, .v (.int .u32)), (2, .v (.int .i64)), (3, .v (.int .i64)), (4, .v (.int .i64)), (5, .lp 0 (.lit 0)), (15, .v (.agg [.int .i64, .int .i64, .int .i64, .int .i64, .int .i64, .int .i64, .int .i64, .int .i64, .int .i64, .int .i64, .int .i64, .int .i64, .int .i64, .int .i64, .int .i64, .int .i64, .int .i64, .int .i64, .int .i64, .int .i64, .int .i64, .int .i64, .int .i64, .int .i64, .int .i64, .int .i64, .int .i64, .int .i64, .int .i64, .int .i64])), (16, .v (.int .i64))], [(0, ⟨(.ex [.v (.int .i64), .v (.int .i64)]), true⟩)], 1⟩
def B_turn_Both_0 (F : Nat) (rc : Int → Int → Int → Int → Int → Int → Int → Int → Int → Int → Int → Int → Int → Int → Int → Int → Int → Int → Int → Int → Int → Int → Int → Int → Int → Int → Int → Int → Int → Int → Int → Int → Int → Int → Int → Int → Int → R) (ex0 : Int → Int → Int → Int → Int → Int → Int → Int → Int → Int → Int → Int → Int → Int → Int → Int → Int → Int → Int → Int → Int → Int → Int → Int → Int → Int → Int → Int → Int → Int → Int → Int → Int → Int → Int → Int → Int → R) (x0 : Int) (x1 : Int) (x2 : Int) (x3 : Int) (x4 : Int) (x5 : Int) (x6 : Int) (x7 : Int) (x8 : Int) (x9 : Int) (x10 : Int) (x11 : Int) (x12 : Int) (x13 : Int) (x14 : Int) (x15 : Int) (x16 : Int) (x17 : Int) (x18 : Int) (x19 : Int) (x20 : Int) (x21 : Int) (x22 : Int) (x23 : Int) (x24 : Int) (x25 : Int) (x26 : Int) (x27 : Int) (x28 : Int) (x29 : Int) (x30 : Int) (x31 : Int) (x32 : Int) (x33 : Int) (x34 : Int) (x35 : Int) (x36 : Int) : R :=
  bif ((decide (x34 < 30))) then (
    bif (((decide (0 ≤ x34)) && (decide (x34 < 30))) && ((isI .i64 [.v (.int .i64 x4), .v (.int .i64 x5), .v (.int .i64 x6), .v (.int .i64 x7), .v (.int .i64 x8), .v (.int .i64 x9), .v (.int .i64 x10), .v (.int .i64 x11), .v (.int .i64 x12), .v (.int .i64 x13), .v (.int .i64 x14), .v (.int .i64 x15), .v (.int .i64 x16), .v (.int .i64 x17), .v (.int .i64 x18), .v (.int .i64 x19), .v (.int .i64 x20), .v (.int .i64 x21), .v (.int .i64 x22), .v (.int .i64 x23), .v (.int .i64 x24), .v (.int .i64 x25), .v (.int .i64 x26), .v (.int .i64 x27), .v (.int .i64 x28), .v (.int .i64 x29), .v (.int .i64 x30), .v (.int .i64 x31), .v (.int .i64 x32), .v (.int .i64 x33)][((Int.toNat x34) * 1)]?) && true)) then (
      let v70 : Int := (iv [.v (.int .i64 x4), .v (.int .i64 x5), .v (.int .i64 x6), .v (.int .i64 x7), .v (.int .i64 x8), .v (.int .i64 x9), .v (.int .i64 x10), .v (.int .i64 x11), .v (.int .i64 x12), .v (.int .i64 x13), .v (.int .i64 x14), .v (.int .i64 x15), .v (.int .i64 x16), .v (.int .i64 x17), .v (.int .i64 x18), .v (.int .i64 x19), .v (.int .i64 x20), .v (.int .i64 x21), .v (.int .i64 x22), .v (.int .i64 x23), .v (.int .i64 x24), .v (.int .i64 x25), .v (.int .i64 x26), .v (.int .i64 x27), .v (.int .i64 x28), .v (.int .i64 x29), .v (.int .i64 x30), .v (.int .i64 x31), .v (.int .i64 x32), .v (.int .i64 x33)][((Int.toNat x34) * 1)]?)
      let v71 : Bool := (decide (x3 ≥ 0))
      bif (ok_turn_pair_turned F x35 x36 x34 v71) then (
        let v78 : Int := (o_turn_pair_turned_0 F x35 x36 x34 v71)
        let v79 : Int := (o_turn_pair_turned_1 F x35 x36 x34 v71)
        bif v71 then (
          rc x0 x1 x2 ((IntKind.wrap .i64 (x3 + ((IntKind.wrap .i64 (0 - v70)))))) x4 x5 x6 x7 x8 x9 x10 x11 x12 x13 x14 x15 x16 x17 x18 x19 x20 x21 x22 x23 x24 x25 x26 x27 x28 x29 x30 x31 x32 x33 ((IntKind.wrap .i64 (x34 + 1))) v78 v79)
        else (
          rc x0 x1 x2 ((IntKind.wrap .i64 (x3 + v70))) x4 x5 x6 x7 x8 x9 x10 x11 x12 x13 x14 x15 x16 x17 x18 x19 x20 x21 x22 x23 x24 x25 x26 x27 x28 x29 x30 x31 x32 x33 ((IntKind.wrap .i64 (x34 + 1))) v78 v79))
      else (
        none))
    else (
      none))
  else (
    ex0 x0 x1 x2 x3 x4 x5 x6 x7 x8 x9 x10 x11 x12 x13 x14 x15 x16 x17 x18 x19 x20 x21 x22 x23 x24 x25 x26 x27 x28 x29 x30 x31 x32 x33 x34 x35 x36)
def L_turn_Both_0 (F : Nat) (ex0 : Int → Int → Int → Int → Int → Int → Int → Int → Int → Int → Int → Int → Int → Int → Int → Int → Int → Int → Int → Int → Int → Int → Int → Int → Int → Int → Int → Int → Int → Int → Int → Int → Int → Int → Int → Int → Int → R) : Nat → Int → Int → Int → Int → Int → Int → Int → Int → Int → Int → Int → Int → Int → Int → Int → Int → Int → Int → Int → Int → Int → Int → Int → Int → Int → Int → Int → Int → Int → Int → Int → Int → Int → Int → Int → Int → Int → R
  | 0, _, _, _, _, _, _, _, _, _, _, _, _, _, _, _, _, _, _, _, _, _, _, _, _, _, _, _, _, _, _, _, _, _, _, _, _, _ => none
  | n + 1, x0, x1, x2, x3, x4, x5, x6, x7, x8, x9, x10, x11, x12, x13, x14, x15, x16, x17, x18, x19, x20, x21, x22, x23, x24, x25, x26, x27, x28, x29, x30, x31, x32, x33, x34, x35, x36 => B_turn_Both_0 F (L_turn_Both_0 F ex0 n) ex0 x0 x1 x2 x3 x4 x5 x6 x7 x8 x9 x10 x11 x12 x13 x14 x15 x16 x17 x18 x19 x20 x21 x22 x23 x24 x25 x26 x27 x28 x29 x30 x31 x32 x33 x34 x35 x36
def T_turn_Both_1 : TS := ⟨[(0, .v (.int .u32)), (2, .v (.int .i64)), (3, .v (.int .i64)), (4, .v (.int .i64)), (5, .lp 0 (.lit 0)), (9, .v (.int .i64)), (10, .v (.int .i64)), (15, .v (.agg [.int .i64, .int .i64, .int .i64, .int .i64, .int .i64, .int .i64, .int .i64, .int .i64, .int .i64, .int .i64, .int .i64, .int .i64, .int .i64, .int .i64, .int .i64, .int .i64, .int .i64, .int .i64, .int .i64, .int .i64, .int .i64, .int .i64, .int .i64, .int .i64, .int .i64, .int .i64, .int .i64, .int .i64, .int .i64, .int .i64])), (16, .v (.int .i64)), (40, .v (.int .u32)), (41, .v (.int .u32))], [(0, ⟨(.ex [.v (.int .i64), .v (.int .i64)]), true⟩)], 1⟩
def T_turn_Both_1_0 : TS := ⟨[(0, .v (.int .u32)), (2, .v (.int .i64)), (3, .v (.int .i64)), (4, .v (.int .i64)), (5, .lp 0 (.lit 0)), (9, .v (.int .i64)), (10, .v (.int .i64)), (15, .v (.agg [.int .i64, .int .i64, .int .i64, .int .i64, .int .i64, .int .i64, .int .i64, .int .i64, .int .i64, .int .i64, .int .i64, .int .i64, .int .i64, .int .i64, .int .i64, .int .i64, .int .i64, .int .i64, .int .i64, .int .i64, .int .i64, .int .i64, .int .i64, .int .i64, .int .i64, .int .i64, .int .i64, .int .i64, .int .i64, .int .i64])), (16, .v (.int .i64)), (40, .v (.int .u32)), (41, .v (.int .u32))], [(0, ⟨(.ex [.v (.int .i64), .v (.int .i64)]), true⟩)], 1⟩
def B_turn_Both_1 (F : Nat) (rc : Int → Int → Int → Int → Int → Int → Int → Int → Int → Int → Int → Int → Int → Int → Int → Int → Int → Int → Int → Int → Int → Int → Int → Int → Int → Int → Int → Int → Int → Int → Int → Int → Int → Int → Int → Int → Int → Int → Int → Int → Int → R) (ex0 : Int → Int → Int → Int → Int → Int → Int → Int → Int → Int → Int → Int → Int → Int → Int → Int → Int → Int → Int → Int → Int → Int → Int → Int → Int → Int → Int → Int → Int → Int → Int → Int → Int → Int → Int → Int → Int → Int → Int → Int → Int → R) (x0 : Int) (x1 : Int) (x2 : Int) (x3 : Int) (x4 : Int) (x5 : Int) (x6 : Int) (x7 : Int) (x8 : Int) (x9 : Int) (x10 : Int) (x11 : Int) (x12 : Int) (x13 : Int) (x14 : Int) (x15 : Int) (x16 : Int) (x17 : Int) (x18 : Int) (x19 : Int) (x20 : Int) (x21 : Int) (x22 : Int) (x23 : Int) (x24 : Int) (x25 : Int) (x26 : Int) (x27 : Int) (x28 : Int) (x29 : Int) (x30 : Int) (x31 : Int) (x32 : Int) (x33 : Int) (x34 : Int) (x35 : Int) (x36 : Int) (x37 : Int) (x38 : Int) (x39 : Int) (x40 : Int) : R :=
  bif ((decide (x38 < x37))) then (
    rc x0 x1 x2 x3 ((IntKind.wrap .i64 (0 - x5))) x4 x6 x7 x8 x9 x10 x11 x12 x13 x14 x15 x16 x17 x18 x19 x20 x21 x22 x23 x24 x25 x26 x27 x28 x29 x30 x31 x32 x33 x34 x35 x36 x37 ((IntKind.wrap .u32 (x38 + 1))) x39 x40)
  else (
    ex0 x0 x1 x2 x3 x4 x5 x6 x7 x8 x9 x10 x11 x12 x13 x14 x15 x16 x17 x18 x19 x20 x21 x22 x23 x24 x25 x26 x27 x28 x29 x30 x31 x32 x33 x34 x35 x36 x37 x38 x39 x40)
def L_turn_Both_1 (F : Nat) (ex0 : Int → Int → Int → Int → Int → Int → Int → Int → Int → Int → Int → Int → Int → Int → Int → Int → Int → Int → Int → Int → Int → Int → Int → Int → Int → Int → Int → Int → Int → Int → Int → Int → Int → Int → Int → Int → Int → Int → Int → Int → Int → R) : Nat → Int → Int → Int → Int → Int → Int → Int → Int → Int → Int → Int → Int → Int → Int → Int → Int → Int → Int → Int → Int → Int → Int → Int → Int → Int → Int → Int → Int → Int → Int → Int → Int → Int → Int → Int → Int → Int → Int → Int → Int → Int → R
  | 0, _, _, _, _, _, _, _, _, _, _, _, _, _, _, _, _, _, _, _, _, _, _, _, _, _, _, _, _, _, _, _, _, _, _, _, _, _, _, _, _, _ => none
  | n + 1, x0, x1, x2, x3, x4, x5, x6, x7, x8, x9, x10, x11, x12, x13, x14, x15, x16, x17, x18, x19, x20, x21, x22, x23, x24, x25, x26, x27, x28, x29, x30, x31, x32, x33, x34, x35, x36, x37, x38, x39, x40 => B_turn_Both_1 F (L_turn_Both_1 F ex0 n) ex0 x0 x1 x2 x3 x4 x5 x6 x7 x8 x9 x10 x11 x12 x13 x14 x15 x16 x17 x18 x19 x20 x21 x22 x23 x24 x25 x26 x27 x28 x29 x30 x31 x32 x33 x34 x35 x36 x37 x38 x39 x40
def W_turn_Both (F : Nat) : List LW := [⟨0, T_turn_Both_0, fun k q => L_turn_Both_0 F (fun (z0 : Int) (z1 : Int) (z2 : Int) (z3 : Int) (z4 : Int) (z5 : Int) (z6 : Int) (z7 : Int) (z8 : Int) (z9 : Int) (z10 : Int) (z11 : Int) (z12 : Int) (z13 : Int) (z14 : Int) (z15 : Int) (z16 : Int) (z17 : Int) (z18 : Int) (z19 : Int) (z20 : Int) (z21 : Int) (z22 : Int) (z23 : Int) (z24 : Int) (z25 : Int) (z26 : Int) (z27 : Int) (z28 : Int) (z29 : Int) (z30 : Int) (z31 : Int) (z32 : Int) (z33 : Int) (z34 : Int) (z35 : Int) (z36 : Int) => k (.exit 0) (fS T_turn_Both_0_0 [.i z0, .i z1, .i z2, .i z3, .i z4, .i z5, .i z6, .i z7, .i z8, .i z9, .i z10, .i z11, .i z12, .i z13, .i z14, .i z15, .i z16, .i z17, .i z18, .i z19, .i z20, .i z21, .i z22, .i z23, .i z24, .i z25, .i z26, .i z27, .i z28, .i z29, .i z30, .i z31, .i z32, .i z33, .i z34, .i z35, .i z36])) F (atI (nth q 0)) (atI (nth q 1)) (atI (nth q 2)) (atI (nth q 3)) (atI (nth q 4)) (atI (nth q 5)) (atI (nth q 6)) (atI (nth q 7)) (atI (nth q 8)) (atI (nth q 9)) (atI (nth q 10)) (atI (nth q 11)) (atI (nth q 12)) (atI (nth q 13)) (atI (nth q 14)) (atI (nth q 15)) (atI (nth q 16)) (atI (nth q 17)) (atI (nth q 18)) (atI (nth q 19)) (atI (nth q 20)) (atI (nth q 21)) (atI (nth q 22)) (atI (nth q 23)) (atI (nth q 24)) (atI (nth q 25)) (atI (nth q 26)) (atI (nth q 27)) (atI (nth q 28)) (atI (nth q 29)) (atI (nth q 30)) (atI (nth q 31)) (atI (nth q 32)) (atI (nth q 33)) (atI (nth q 34)) (atI (nth q 35)) (atI (nth q 36))⟩, ⟨2, T_turn_Both_1, fun k q => L_turn_Both_1 F (fun (z0 : Int) (z1 : Int) (z2 : Int) (z3 : Int) (z4 : Int) (z5 : Int) (z6 : Int) (z7 : Int) (z8 : Int) (z9 : Int) (z10 : Int) (z11 : Int) (z12 : Int) (z13 : Int) (z14 : Int) (z15 : Int) (z16 : Int) (z17 : Int) (z18 : Int) (z19 : Int) (z20 : Int) (z21 : Int) (z22 : Int) (z23 : Int) (z24 : Int) (z25 : Int) (z26 : Int) (z27 : Int) (z28 : Int) (z29 : Int) (z30 : Int) (z31 : Int) (z32 : Int) (z33 : Int) (z34 : Int) (z35 : Int) (z36 : Int) (z37 : Int) (z38 : Int) (z39 : Int) (z40 : Int) => k (.exit 2) (fS T_turn_Both_1_0 [.i z0, .i z1, .i z2, .i z3, .i z4, .i z5, .i z6, .i z7, .i z8, .i z9, .i z10, .i z11, .i z12, .i z13, .i z14, .i z15, .i z16, .i z17, .i z18, .i z19, .i z20, .i z21, .i z22, .i z23, .i z24, .i z25, .i z26, .i z27, .i z28, .i z29, .i z30, .i z31, .i z32, .i z33, .i z34, .i z35, .i z36, .i z37, .i z38, .i z39, .i z40])) F (atI (nth q 0)) (atI (nth q 1)) (atI (nth q 2)) (atI (nth q 3)) (atI (nth q 4)) (atI (nth q 5)) (atI (nth q 6)) (atI (nth q 7)) (atI (nth q 8)) (atI (nth q 9)) (atI (nth q 10)) (atI (nth q 11)) (atI (nth q 12)) (atI (nth q 13)) (atI (nth q 14)) (atI (nth q 15)) (atI (nth q 16)) (atI (nth q 17)) (atI (nth q 18)) (atI (nth q 19)) (atI (nth q 20)) (atI (nth q 21)) (atI (nth q 22)) (atI (nth q 23)) (atI (nth q 24)) (atI (nth q 25)) (atI (nth q 26)) (atI (nth q 27)) (atI (nth q 28)) (atI (nth q 29)) (atI (nth q 30)) (atI (nth q 31)) (atI (nth q 32)) (atI (nth q 33)) (atI (nth q 34)) (atI (nth q 35)) (atI (nth q 36)) (atI (nth q 37)) (atI (nth q 38)) (atI (nth q 39)) (atI (nth q 40))⟩]
def I_turn_Both (F : Nat) : Nat → VS → (Exit → VS → R) → R := tabI c_turn_Both (W_turn_Both F)
def WJ_turn_Both (F : Nat) : List LJ := []
def J_turn_Both (F : Nat) : Nat → Nat → VS → (Exit → VS → R) → R := tabJ (WJ_turn_Both F)
theorem lL_turn_Both_0 (F : Nat) (k : Exit → VS → R) : ∀ (n : Nat) (x0 : Int) (x1 : Int) (x2 : Int) (x3 : Int) (x4 : Int) (x5 : Int) (x6 : Int) (x7 : Int) (x8 : Int) (x9 : Int) (x10 : Int) (x11 : Int) (x12 : Int) (x13 : Int) (x14 : Int) (x15 : Int) (x16 : Int) (x17 : Int) (x18 : Int) (x19 : Int) (x20 : Int) (x21 : Int) (x22 : Int) (x23 : Int) (x24 : Int) (x25 : Int) (x26 : Int) (x27 : Int) (x28 : Int) (x29 : Int) (x30 : Int) (x31 : Int) (x32 : Int) (x33 : Int) (x34 : Int) (x35 : Int) (x36 : Int), iterC (codeL PP (S_turn_Both F) c_turn_Both (I_turn_Both F) (J_turn_Both F) (loopAt PP 25 0) 0) (headOf c_turn_Both 0) k n (fS T_turn_Both_0 [.i x0, .i x1, .i x2, .i x3, .i x4, .i x5, .i x6, .i x7, .i x8, .i x9, .i x10, .i x11, .i x12, .i x13, .i x14, .i x15, .i x16, .i x17, .i x18, .i x19, .i x20, .i x21, .i x22, .i x23, .i x24, .i x25, .i x26, .i x27, .i x28, .i x29, .i x30, .i x31, .i x32, .i x33, .i x34, .i x35, .i x36]) = L_turn_Both_0 F (fun (z0 : Int) (z1 : Int) (z2 : Int) (z3 : Int) (z4 : Int) (z5 : Int) (z6 : Int) (z7 : Int) (z8 : Int) (z9 : Int) (z10 : Int) (z11 : Int) (z12 : Int) (z13 : Int) (z14 : Int) (z15 : Int) (z16 : Int) (z17 : Int) (z18 : Int) (z19 : Int) (z20 : Int) (z21 : Int) (z22 : Int) (z23 : Int) (z24 : Int) (z25 : Int) (z26 : Int) (z27 : Int) (z28 : Int) (z29 : Int) (z30 : Int) (z31 : Int) (z32 : Int) (z33 : Int) (z34 : Int) (z35 : Int) (z36 : Int) => k (.exit 0) (fS T_turn_Both_0_0 [.i z0, .i z1, .i z2, .i z3, .i z4, .i z5, .i z6, .i z7, .i z8, .i z9, .i z10, .i z11, .i z12, .i z13, .i z14, .i z15, .i z16, .i z17, .i z18, .i z19, .i z20, .i z21, .i z22, .i z23, .i z24, .i z25, .i z26, .i z27, .i z28, .i z29, .i z30, .i z31, .i z32, .i z33, .i z34, .i z35, .i z36])) n x0 x1 x2 x3 x4 x5 x6 x7 x8 x9 x10 x11 x12 x13 x14 x15 x16 x17 x18 x19 x20 x21 x22 x23 x24 x25 x26 x27 x28 x29 x30 x31 x32 x33 x34 x35 x36
  | 0, _, _, _, _, _, _, _, _, _, _, _, _, _, _, _, _, _, _, _, _, _, _, _, _, _, _, _, _, _, _, _, _, _, _, _, _, _ => rfl
  | n + 1, x0, x1, x2, x3, x4, x5, x6, x7, x8, x9, x10, x11, x12, x13, x14, x15, x16, x17, x18, x19, x20, x21, x22, x23, x24, x25, x26, x27, x28, x29, x30, x31, x32, x33, x34, x35, x36 => by
    have h0 : ∀ (ok_turn_angles : Nat → Bool) (o_turn_angles_0 : Nat → Int) (o_turn_angles_1 : Nat → Int) (o_turn_angles_2 : Nat → Int) (o_turn_angles_3 : Nat → Int) (o_turn_angles_4 : Nat → Int) (o_turn_angles_5 : Nat → Int) (o_turn_angles_6 : Nat → Int) (o_turn_angles_7 : Nat → Int) (o_turn_angles_8 : Nat → Int) (o_turn_angles_9 : Nat → Int) (o_turn_angles_10 : Nat → Int) (o_turn_angles_11 : Nat → Int) (o_turn_angles_12 : Nat → Int) (o_turn_angles_13 : Nat → Int) (o_turn_angles_14 : Nat → Int) (o_turn_angles_15 : Nat → Int) (o_turn_angles_16 : Nat → Int) (o_turn_angles_17 : Nat → Int) (o_turn_angles_18 : Nat → Int) (o_turn_angles_19 : Nat → Int) (o_turn_angles_20 : Nat → Int) (o_turn_angles_21 : Nat → Int) (o_turn_angles_22 : Nat → Int) (o_turn_angles_23 : Nat → Int) (o_turn_angles_24 : Nat → Int) (o_turn_angles_25 : Nat → Int) (o_turn_angles_26 : Nat → Int) (o_turn_angles_27 : Nat → Int) (o_turn_angles_28 : Nat → Int) (o_turn_angles_29 : Nat → Int) (ok_turn_pair_turned : Nat → Int → Int → Int → Bool → Bool) (o_turn_pair_turned_0 : Nat → Int → Int → Int → Bool → Int) (o_turn_pair_turned_1 : Nat → Int → Int → Int → Bool → Int) (ok_turn_unit : Nat → Int → Bool) (o_turn_unit_0 : Nat → Int → Int) (L_turn_Both_0 : Nat → (Int → Int → Int → Int → Int → Int → Int → Int → Int → Int → Int → Int → Int → Int → Int → Int → Int → Int → Int → Int → Int → Int → Int → Int → Int → Int → Int → Int → Int → Int → Int → Int → Int → Int → Int → Int → Int → R) → Nat → Int → Int → Int → Int → Int → Int → Int → Int → Int → Int → Int → Int → Int → Int → Int → Int → Int → Int → Int → Int → Int → Int → Int → Int → Int → Int → Int → Int → Int → Int → Int → Int → Int → Int → Int → Int → Int → R) (L_turn_Both_1 : Nat → (Int → Int → Int → Int → Int → Int → Int → Int → Int → Int → Int → Int → Int → Int → Int → Int → Int → Int → Int → Int → Int → Int → Int → Int → Int → Int → Int → Int → Int → Int → Int → Int → Int → Int → Int → Int → Int → Int → Int → Int → Int → R) → Nat → Int → Int → Int → Int → Int → Int → Int → Int → Int → Int → Int → Int → Int → Int → Int → Int → Int → Int → Int → Int → Int → Int → Int → Int → Int → Int → Int → Int → Int → Int → Int → Int → Int → Int → Int → Int → Int → Int → Int → Int → Int → R), iterC (codeL PP (words [(76, spec ti_turn_angles to_turn_angles (fun q => (ok_turn_angles F )) (fun q => [.i (o_turn_angles_0 F ), .i (o_turn_angles_1 F ), .i (o_turn_angles_2 F ), .i (o_turn_angles_3 F ), .i (o_turn_angles_4 F ), .i (o_turn_angles_5 F ), .i (o_turn_angles_6 F ), .i (o_turn_angles_7 F ), .i (o_turn_angles_8 F ), .i (o_turn_angles_9 F ), .i (o_turn_angles_10 F ), .i (o_turn_angles_11 F ), .i (o_turn_angles_12 F ), .i (o_turn_angles_13 F ), .i (o_turn_angles_14 F ), .i (o_turn_angles_15 F ), .i (o_turn_angles_16 F ), .i (o_turn_angles_17 F ), .i (o_turn_angles_18 F ), .i (o_turn_angles_19 F ), .i (o_turn_angles_20 F ), .i (o_turn_angles_21 F ), .i (o_turn_angles_22 F ), .i (o_turn_angles_23 F ), .i (o_turn_angles_24 F ), .i (o_turn_angles_25 F ), .i (o_turn_angles_26 F ), .i (o_turn_angles_27 F ), .i (o_turn_angles_28 F ), .i (o_turn_angles_29 F )])), (77, spec ti_turn_pair_turned to_turn_pair_turned (fun q => (ok_turn_pair_turned F (atI (nth q 0)) (atI (nth q 1)) (atI (nth q 2)) (atB (nth q 3)))) (fun q => [.i (o_turn_pair_turned_0 F (atI (nth q 0)) (atI (nth q 1)) (atI (nth q 2)) (atB (nth q 3))), .i (o_turn_pair_turned_1 F (atI (nth q 0)) (atI (nth q 1)) (atI (nth q 2)) (atB (nth q 3)))])), (78, spec ti_turn_unit to_turn_unit (fun q => (ok_turn_unit F (atI (nth q 0)))) (fun q => [.i (o_turn_unit_0 F (atI (nth q 0)))]))]) c_turn_Both (tabI c_turn_Both [⟨0, T_turn_Both_0, fun k q => L_turn_Both_0 F (fun (z0 : Int) (z1 : Int) (z2 : Int) (z3 : Int) (z4 : Int) (z5 : Int) (z6 : Int) (z7 : Int) (z8 : Int) (z9 : Int) (z10 : Int) (z11 : Int) (z12 : Int) (z13 : Int) (z14 : Int) (z15 : Int) (z16 : Int) (z17 : Int) (z18 : Int) (z19 : Int) (z20 : Int) (z21 : Int) (z22 : Int) (z23 : Int) (z24 : Int) (z25 : Int) (z26 : Int) (z27 : Int) (z28 : Int) (z29 : Int) (z30 : Int) (z31 : Int) (z32 : Int) (z33 : Int) (z34 : Int) (z35 : Int) (z36 : Int) => k (.exit 0) (fS T_turn_Both_0_0 [.i z0, .i z1, .i z2, .i z3, .i z4, .i z5, .i z6, .i z7, .i z8, .i z9, .i z10, .i z11, .i z12, .i z13, .i z14, .i z15, .i z16, .i z17, .i z18, .i z19, .i z20, .i z21, .i z22, .i z23, .i z24, .i z25, .i z26, .i z27, .i z28, .i z29, .i z30, .i z31, .i z32, .i z33, .i z34, .i z35, .i z36])) F (atI (nth q 0)) (atI (nth q 1)) (atI (nth q 2)) (atI (nth q 3)) (atI (nth q 4)) (atI (nth q 5)) (atI (nth q 6)) (atI (nth q 7)) (atI (nth q 8)) (atI (nth q 9)) (atI (nth q 10)) (atI (nth q 11)) (atI (nth q 12)) (atI (nth q 13)) (atI (nth q 14)) (atI (nth q 15)) (atI (nth q 16)) (atI (nth q 17)) (atI (nth q 18)) (atI (nth q 19)) (atI (nth q 20)) (atI (nth q 21)) (atI (nth q 22)) (atI (nth q 23)) (atI (nth q 24)) (atI (nth q 25)) (atI (nth q 26)) (atI (nth q 27)) (atI (nth q 28)) (atI (nth q 29)) (atI (nth q 30)) (atI (nth q 31)) (atI (nth q 32)) (atI (nth q 33)) (atI (nth q 34)) (atI (nth q 35)) (atI (nth q 36))⟩, ⟨2, T_turn_Both_1, fun k q => L_turn_Both_1 F (fun (z0 : Int) (z1 : Int) (z2 : Int) (z3 : Int) (z4 : Int) (z5 : Int) (z6 : Int) (z7 : Int) (z8 : Int) (z9 : Int) (z10 : Int) (z11 : Int) (z12 : Int) (z13 : Int) (z14 : Int) (z15 : Int) (z16 : Int) (z17 : Int) (z18 : Int) (z19 : Int) (z20 : Int) (z21 : Int) (z22 : Int) (z23 : Int) (z24 : Int) (z25 : Int) (z26 : Int) (z27 : Int) (z28 : Int) (z29 : Int) (z30 : Int) (z31 : Int) (z32 : Int) (z33 : Int) (z34 : Int) (z35 : Int) (z36 : Int) (z37 : Int) (z38 : Int) (z39 : Int) (z40 : Int) => k (.exit 2) (fS T_turn_Both_1_0 [.i z0, .i z1, .i z2, .i z3, .i z4, .i z5, .i z6, .i z7, .i z8, .i z9, .i z10, .i z11, .i z12, .i z13, .i z14, .i z15, .i z16, .i z17, .i z18, .i z19, .i z20, .i z21, .i z22, .i z23, .i z24, .i z25, .i z26, .i z27, .i z28, .i z29, .i z30, .i z31, .i z32, .i z33, .i z34, .i z35, .i z36, .i z37, .i z38, .i z39, .i z40])) F (atI (nth q 0)) (atI (nth q 1)) (atI (nth q 2)) (atI (nth q 3)) (atI (nth q 4)) (atI (nth q 5)) (atI (nth q 6)) (atI (nth q 7)) (atI (nth q 8)) (atI (nth q 9)) (atI (nth q 10)) (atI (nth q 11)) (atI (nth q 12)) (atI (nth q 13)) (atI (nth q 14)) (atI (nth q 15)) (atI (nth q 16)) (atI (nth q 17)) (atI (nth q 18)) (atI (nth q 19)) (atI (nth q 20)) (atI (nth q 21)) (atI (nth q 22)) (atI (nth q 23)) (atI (nth q 24)) (atI (nth q 25)) (atI (nth q 26)) (atI (nth q 27)) (atI (nth q 28)) (atI (nth q 29)) (atI (nth q 30)) (atI (nth q 31)) (atI (nth q 32)) (atI (nth q 33)) (atI (nth q 34)) (atI (nth q 35)) (atI (nth q 36)) (atI (nth q 37)) (atI (nth q 38)) (atI (nth q 39)) (atI (nth q 40))⟩]) (tabJ []) (loopAt PP 25 0) 0) (headOf c_turn_Both 0) k (n + 1) (fS T_turn_Both_0 [.i x0, .i x1, .i x2, .i x3, .i x4, .i x5, .i x6, .i x7, .i x8, .i x9, .i x10, .i x11, .i x12, .i x13, .i x14, .i x15, .i x16, .i x17, .i x18, .i x19, .i x20, .i x21, .i x22, .i x23, .i x24, .i x25, .i x26, .i x27, .i x28, .i x29, .i x30, .i x31, .i x32, .i x33, .i x34, .i x35, .i x36]) = (fun (rc : Int → Int → Int → Int → Int → Int → Int → Int → Int → Int → Int → Int → Int → Int → Int → Int → Int → Int → Int → Int → Int → Int → Int → Int → Int → Int → Int → Int → Int → Int → Int → Int → Int → Int → Int → Int → Int → R) (ex0 : Int → Int → Int → Int → Int → Int → Int → Int → Int → Int → Int → Int → Int → Int → Int → Int → Int → Int → Int → Int → Int → Int → Int → Int → Int → Int → Int → Int → Int → Int → Int → Int → Int → Int → Int → Int → Int → R) (x0 : Int) (x1 : Int) (x2 : Int) (x3 : Int) (x4 : Int) (x5 : Int) (x6 : Int) (x7 : Int) (x8 : Int) (x9 : Int) (x10 : Int) (x11 : Int) (x12 : Int) (x13 : Int) (x14 : Int) (x15 : Int) (x16 : Int) (x17 : Int) (x18 : Int) (x19 : Int) (x20 : Int) (x21 : Int) (x22 : Int) (x23 : Int) (x24 : Int) (x25 : Int) (x26 : Int) (x27 : Int) (x28 : Int) (x29 : Int) (x30 : Int) (x31 : Int) (x32 : Int) (x33 : Int) (x34 : Int) (x35 : Int) (x36 : Int) => (
  bif ((decide (x34 < 30))) then (
    bif (((decide (0 ≤ x34)) && (decide (x34 < 30))) && ((isI .i64 [.v (.int .i64 x4), .v (.int .i64 x5), .v (.int .i64 x6), .v (.int .i64 x7), .v (.int .i64 x8), .v (.int .i64 x9), .v (.int .i64 x10), .v (.int .i64 x11), .v (.int .i64 x12), .v (.int .i64 x13), .v (.int .i64 x14), .v (.int .i64 x15), .v (.int .i64 x16), .v (.int .i64 x17), .v (.int .i64 x18), .v (.int .i64 x19), .v (.int .i64 x20), .v (.int .i64 x21), .v (.int .i64 x22), .v (.int .i64 x23), .v (.int .i64 x24), .v (.int .i64 x25), .v (.int .i64 x26), .v (.int .i64 x27), .v (.int .i64 x28), .v (.int .i64 x29), .v (.int .i64 x30), .v (.int .i64 x31), .v (.int .i64 x32), .v (.int .i64 x33)][((Int.toNat x34) * 1)]?) && true)) then (
      let v70 : Int := (iv [.v (.int .i64 x4), .v (.int .i64 x5), .v (.int .i64 x6), .v (.int .i64 x7), .v (.int .i64 x8), .v (.int .i64 x9), .v (.int .i64 x10), .v (.int .i64 x11), .v (.int .i64 x12), .v (.int .i64 x13), .v (.int .i64 x14), .v (.int .i64 x15), .v (.int .i64 x16), .v (.int .i64 x17), .v (.int .i64 x18), .v (.int .i64 x19), .v (.int .i64 x20), .v (.int .i64 x21), .v (.int .i64 x22), .v (.int .i64 x23), .v (.int .i64 x24), .v (.int .i64 x25), .v (.int .i64 x26), .v (.int .i64 x27), .v (.int .i64 x28), .v (.int .i64 x29), .v (.int .i64 x30), .v (.int .i64 x31), .v (.int .i64 x32), .v (.int .i64 x33)][((Int.toNat x34) * 1)]?)
      let v71 : Bool := (decide (x3 ≥ 0))
      bif (ok_turn_pair_turned F x35 x36 x34 v71) then (
        let v78 : Int := (o_turn_pair_turned_0 F x35 x36 x34 v71)
        let v79 : Int := (o_turn_pair_turned_1 F x35 x36 x34 v71)
        bif v71 then (
          rc x0 x1 x2 ((IntKind.wrap .i64 (x3 + ((IntKind.wrap .i64 (0 - v70)))))) x4 x5 x6 x7 x8 x9 x10 x11 x12 x13 x14 x15 x16 x17 x18 x19 x20 x21 x22 x23 x24 x25 x26 x27 x28 x29 x30 x31 x32 x33 ((IntKind.wrap .i64 (x34 + 1))) v78 v79)
        else (
          rc x0 x1 x2 ((IntKind.wrap .i64 (x3 + v70))) x4 x5 x6 x7 x8 x9 x10 x11 x12 x13 x14 x15 x16 x17 x18 x19 x20 x21 x22 x23 x24 x25 x26 x27 x28 x29 x30 x31 x32 x33 ((IntKind.wrap .i64 (x34 + 1))) v78 v79))
      else (
        none))
    else (
      none))
  else (
    ex0 x0 x1 x2 x3 x4 x5 x6 x7 x8 x9 x10 x11 x12 x13 x14 x15 x16 x17 x18 x19 x20 x21 x22 x23 x24 x25 x26 x27 x28 x29 x30 x31 x32 x33 x34 x35 x36) : R)) (fun (y0 : Int) (y1 : Int) (y2 : Int) (y3 : Int) (y4 : Int) (y5 : Int) (y6 : Int) (y7 : Int) (y8 : Int) (y9 : Int) (y10 : Int) (y11 : Int) (y12 : Int) (y13 : Int) (y14 : Int) (y15 : Int) (y16 : Int) (y17 : Int) (y18 : Int) (y19 : Int) (y20 : Int) (y21 : Int) (y22 : Int) (y23 : Int) (y24 : Int) (y25 : Int) (y26 : Int) (y27 : Int) (y28 : Int) (y29 : Int) (y30 : Int) (y31 : Int) (y32 : Int) (y33 : Int) (y34 : Int) (y35 : Int) (y36 : Int) => iterC (codeL PP (words [(76, spec ti_turn_angles to_turn_angles (fun q => (ok_turn_angles F )) (fun q => [.i (o_turn_angles_0 F ), .i (o_turn_angles_1 F ), .i (o_turn_angles_2 F ), .i (o_turn_angles_3 F ), .i (o_turn_angles_4 F ), .i (o_turn_angles_5 F ), .i (o_turn_angles_6 F ), .i (o_turn_angles_7 F ), .i (o_turn_angles_8 F ), .i (o_turn_angles_9 F ), .i (o_turn_angles_10 F ), .i (o_turn_angles_11 F ), .i (o_turn_angles_12 F ), .i (o_turn_angles_13 F ), .i (o_turn_angles_14 F ), .i (o_turn_angles_15 F ), .i (o_turn_angles_16 F ), .i (o_turn_angles_17 F ), .i (o_turn_angles_18 F ), .i (o_turn_angles_19 F ), .i (o_turn_angles_20 F ), .i (o_turn_angles_21 F ), .i (o_turn_angles_22 F ), .i (o_turn_angles_23 F ), .i (o_turn_angles_24 F ), .i (o_turn_angles_25 F ), .i (o_turn_angles_26 F ), .i (o_turn_angles_27 F ), .i (o_turn_angles_28 F ), .i (o_turn_angles_29 F )])), (77, spec ti_turn_pair_turned to_turn_pair_turned (fun q => (ok_turn_pair_turned F (atI (nth q 0)) (atI (nth q 1)) (atI (nth q 2)) (atB (nth q 3)))) (fun q => [.i (o_turn_pair_turned_0 F (atI (nth q 0)) (atI (nth q 1)) (atI (nth q 2)) (atB (nth q 3))), .i (o_turn_pair_turned_1 F (atI (nth q 0)) (atI (nth q 1)) (atI (nth q 2)) (atB (nth q 3)))])), (78, spec ti_turn_unit to_turn_unit (fun q => (ok_turn_unit F (atI (nth q 0)))) (fun q => [.i (o_turn_unit_0 F (atI (nth q 0)))]))]) c_turn_Both (tabI c_turn_Both [⟨0, T_turn_Both_0, fun k q => L_turn_Both_0 F (fun (z0 : Int) (z1 : Int) (z2 : Int) (z3 : Int) (z4 : Int) (z5 : Int) (z6 : Int) (z7 : Int) (z8 : Int) (z9 : Int) (z10 : Int) (z11 : Int) (z12 : Int) (z13 : Int) (z14 : Int) (z15 : Int) (z16 : Int) (z17 : Int) (z18 : Int) (z19 : Int) (z20 : Int) (z21 : Int) (z22 : Int) (z23 : Int) (z24 : Int) (z25 : Int) (z26 : Int) (z27 : Int) (z28 : Int) (z29 : Int) (z30 : Int) (z31 : Int) (z32 : Int) (z33 : Int) (z34 : Int) (z35 : Int) (z36 : Int) => k (.exit 0) (fS T_turn_Both_0_0 [.i z0, .i z1, .i z2, .i z3, .i z4, .i z5, .i z6, .i z7, .i z8, .i z9, .i z10, .i z11, .i z12, .i z13, .i z14, .i z15, .i z16, .i z17, .i z18, .i z19, .i z20, .i z21, .i z22, .i z23, .i z24, .i z25, .i z26, .i z27, .i z28, .i z29, .i z30, .i z31, .i z32, .i z33, .i z34, .i z35, .i z36])) F (atI (nth q 0)) (atI (nth q 1)) (atI (nth q 2)) (atI (nth q 3)) (atI (nth q 4)) (atI (nth q 5)) (atI (nth q 6)) (atI (nth q 7)) (atI (nth q 8)) (atI (nth q 9)) (atI (nth q 10)) (atI (nth q 11)) (atI (nth q 12)) (atI (nth q 13)) (atI (nth q 14)) (atI (nth q 15)) (atI (nth q 16)) (atI (nth q 17)) (atI (nth q 18)) (atI (nth q 19)) (atI (nth q 20)) (atI (nth q 21)) (atI (nth q 22)) (atI (nth q 23)) (atI (nth q 24)) (atI (nth q 25)) (atI (nth q 26)) (atI (nth q 27)) (atI (nth q 28)) (atI (nth q 29)) (atI (nth q 30)) (atI (nth q 31)) (atI (nth q 32)) (atI (nth q 33)) (atI (nth q 34)) (atI (nth q 35)) (atI (nth q 36))⟩, ⟨2, T_turn_Both_1, fun k q => L_turn_Both_1 F (fun (z0 : Int) (z1 : Int) (z2 : Int) (z3 : Int) (z4 : Int) (z5 : Int) (z6 : Int) (z7 : Int) (z8 : Int) (z9 : Int) (z10 : Int) (z11 : Int) (z12 : Int) (z13 : Int) (z14 : Int) (z15 : Int) (z16 : Int) (z17 : Int) (z18 : Int) (z19 : Int) (z20 : Int) (z21 : Int) (z22 : Int) (z23 : Int) (z24 : Int) (z25 : Int) (z26 : Int) (z27 : Int) (z28 : Int) (z29 : Int) (z30 : Int) (z31 : Int) (z32 : Int) (z33 : Int) (z34 : Int) (z35 : Int) (z36 : Int) (z37 : Int) (z38 : Int) (z39 : Int) (z40 : Int) => k (.exit 2) (fS T_turn_Both_1_0 [.i z0, .i z1, .i z2, .i z3, .i z4, .i z5, .i z6, .i z7, .i z8, .i z9, .i z10, .i z11, .i z12, .i z13, .i z14, .i z15, .i z16, .i z17, .i z18, .i z19, .i z20, .i z21, .i z22, .i z23, .i z24, .i z25, .i z26, .i z27, .i z28, .i z29, .i z30, .i z31, .i z32, .i z33, .i z34, .i z35, .i z36, .i z37, .i z38, .i z39, .i z40])) F (atI (nth q 0)) (atI (nth q 1)) (atI (nth q 2)) (atI (nth q 3)) (atI (nth q 4)) (atI (nth q 5)) (atI (nth q 6)) (atI (nth q 7)) (atI (nth q 8)) (atI (nth q 9)) (atI (nth q 10)) (atI (nth q 11)) (atI (nth q 12)) (atI (nth q 13)) (atI (nth q 14)) (atI (nth q 15)) (atI (nth q 16)) (atI (nth q 17)) (atI (nth q 18)) (atI (nth q 19)) (atI (nth q 20)) (atI (nth q 21)) (atI (nth q 22)) (atI (nth q 23)) (atI (nth q 24)) (atI (nth q 25)) (atI (nth q 26)) (atI (nth q 27)) (atI (nth q 28)) (atI (nth q 29)) (atI (nth q 30)) (atI (nth q 31)) (atI (nth q 32)) (atI (nth q 33)) (atI (nth q 34)) (atI (nth q 35)) (atI (nth q 36)) (atI (nth q 37)) (atI (nth q 38)) (atI (nth q 39)) (atI (nth q 40))⟩]) (tabJ []) (loopAt PP 25 0) 0) (headOf c_turn_Both 0) k n (fS T_turn_Both_0 [.i y0, .i y1, .i y2, .i y3, .i y4, .i y5, .i y6, .i y7, .i y8, .i y9, .i y10, .i y11, .i y12, .i y13, .i y14, .i y15, .i y16, .i y17, .i y18, .i y19, .i y20, .i y21, .i y22, .i y23, .i y24, .i y25, .i y26, .i y27, .i y28, .i y29, .i y30, .i y31, .i y32, .i y33, .i y34, .i y35, .i y36])) (fun (z0 : Int) (z1 : Int) (z2 : Int) (z3 : Int) (z4 : Int) (z5 : Int) (z6 : Int) (z7 : Int) (z8 : Int) (z9 : Int) (z10 : Int) (z11 : Int) (z12 : Int) (z13 : Int) (z14 : Int) (z15 : Int) (z16 : Int) (z17 : Int) (z18 : Int) (z19 : Int) (z20 : Int) (z21 : Int) (z22 : Int) (z23 : Int) (z24 : Int) (z25 : Int) (z26 : Int) (z27 : Int) (z28 : Int) (z29 : Int) (z30 : Int) (z31 : Int) (z32 : Int) (z33 : Int) (z34 : Int) (z35 : Int) (z36 : Int) => k (.exit 0) (fS T_turn_Both_0_0 [.i z0, .i z1, .i z2, .i z3, .i z4, .i z5, .i z6, .i z7, .i z8, .i z9, .i z10, .i z11, .i z12, .i z13, .i z14, .i z15, .i z16, .i z17, .i z18, .i z19, .i z20, .i z21, .i z22, .i z23, .i z24, .i z25, .i z26, .i z27, .i z28, .i z29, .i z30, .i z31, .i z32, .i z33, .i z34, .i z35, .i z36])) x0 x1 x2 x3 x4 x5 x6 x7 x8 x9 x10 x11 x12 x13 x14 x15 x16 x17 x18 x19 x20 x21 x22 x23 x24 x25 x26 x27 x28 x29 x30 x31 x32 x33 x34 x35 x36 := by
      intros
      kernel_rfl
    have h : iterC (codeL PP (S_turn_Both F) c_turn_Both (I_turn_Both F) (J_turn_Both F) (loopAt PP 25 0) 0) (headOf c_turn_Both 0) k (n + 1) (fS T_turn_Both_0 [.i x0, .i x1, .i x2, .i x3, .i x4, .i x5, .i x6, .i x7, .i x8, .i x9, .i x10, .i x11, .i x12, .i x13, .i x14, .i x15, .i x16, .i x17, .i x18, .i x19, .i x20, .i x21, .i x22, .i x23, .i x24, .i x25, .i x26, .i x27, .i x28, .i x29, .i x30, .i x31, .i x32, .i x33, .i x34, .i x35, .i x36]) = B_turn_Both_0 F (fun (y0 : Int) (y1 : Int) (y2 : Int) (y3 : Int) (y4 : Int) (y5 : Int) (y6 : Int) (y7 : Int) (y8 : Int) (y9 : Int) (y10 : Int) (y11 : Int) (y12 : Int) (y13 : Int) (y14 : Int) (y15 : Int) (y16 : Int) (y17 : Int) (y18 : Int) (y19 : Int) (y20 : Int) (y21 : Int) (y22 : Int) (y23 : Int) (y24 : Int) (y25 : Int) (y26 : Int) (y27 : Int) (y28 : Int) (y29 : Int) (y30 : Int) (y31 : Int) (y32 : Int) (y33 : Int) (y34 : Int) (y35 : Int) (y36 : Int) => iterC (codeL PP (S_turn_Both F) c_turn_Both (I_turn_Both F) (J_turn_Both F) (loopAt PP 25 0) 0) (headOf c_turn_Both 0) k n (fS T_turn_Both_0 [.i y0, .i y1, .i y2, .i y3, .i y4, .i y5, .i y6, .i y7, .i y8, .i y9, .i y10, .i y11, .i y12, .i y13, .i y14, .i y15, .i y16, .i y17, .i y18, .i y19, .i y20, .i y21, .i y22, .i y23, .i y24, .i y25, .i y26, .i y27, .i y28, .i y29, .i y30, .i y31, .i y32, .i y33, .i y34, .i y35, .i y36])) (fun (z0 : Int) (z1 : Int) (z2 : Int) (z3 : Int) (z4 : Int) (z5 : Int) (z6 : Int) (z7 : Int) (z8 : Int) (z9 : Int) (z10 : Int) (z11 : Int) (z12 : Int) (z13 : Int) (z14 : Int) (z15 : Int) (z16 : Int) (z17 : Int) (z18 : Int) (z19 : Int) (z20 : Int) (z21 : Int) (z22 : Int) (z23 : Int) (z24 : Int) (z25 : Int) (z26 : Int) (z27 : Int) (z28 : Int) (z29 : Int) (z30 : Int) (z31 : Int) (z32 : Int) (z33 : Int) (z34 : Int) (z35 : Int) (z36 : Int) => k (.exit 0) (fS T_turn_Both_0_0 [.i z0, .i z1, .i z2, .i z3, .i z4, .i z5, .i z6, .i z7, .i z8, .i z9, .i z10, .i z11, .i z12, .i z13, .i z14, .i z15, .i z16, .i z17, .i z18, .i z19, .i z20, .i z21, .i z22, .i z23, .i z24, .i z25, .i z26, .i z27, .i z28, .i z29, .i z30, .i z31, .i z32, .i z33, .i z34, .i z35, .i z36])) x0 x1 x2 x3 x4 x5 x6 x7 x8 x9 x10 x11 x12 x13 x14 x15 x16 x17 x18 x19 x20 x21 x22 x23 x24 x25 x26 x27 x28 x29 x30 x31 x32 x33 x34 x35 x36 := (h0 ok_turn_angles o_turn_angles_0 o_turn_angles_1 o_turn_angles_2 o_turn_angles_3 o_turn_angles_4 o_turn_angles_5 o_turn_angles_6 o_turn_angles_7 o_turn_angles_8 o_turn_angles_9 o_turn_angles_10 o_turn_angles_11 o_turn_angles_12 o_turn_angles_13 o_turn_angles_14 o_turn_angles_15 o_turn_angles_16 o_turn_angles_17 o_turn_angles_18 o_turn_angles_19 o_turn_angles_20 o_turn_angles_21 o_turn_angles_22 o_turn_angles_23 o_turn_angles_24 o_turn_angles_25 o_turn_angles_26 o_turn_angles_27 o_turn_angles_28 o_turn_angles_29 ok_turn_pair_turned o_turn_pair_turned_0 o_turn_pair_turned_1 ok_turn_unit o_turn_unit_0 L_turn_Both_0 L_turn_Both_1).trans (by kernel_rfl)
    rw [h]
    simp only [lL_turn_Both_0 F k n]
    rfl
theorem lL_turn_Both_1 (F : Nat) (k : Exit → VS → R) : ∀ (n : Nat) (x0 : Int) (x1 : Int) (x2 : Int) (x3 : Int) (x4 : Int) (x5 : Int) (x6 : Int) (x7 : Int) (x8 : Int) (x9 : Int) (x10 : Int) (x11 : Int) (x12 : Int) (x13 : Int) (x14 : Int) (x15 : Int) (x16 : Int) (x17 : Int) (x18 : Int) (x19 : Int) (x20 : Int) (x21 : Int) (x22 : Int) (x23 : Int) (x24 : Int) (x25 : Int) (x26 : Int) (x27 : Int) (x28 : Int) (x29 : Int) (x30 : Int) (x31 : Int) (x32 : Int) (x33 : Int) (x34 : Int) (x35 : Int) (x36 : Int) (x37 : Int) (x38 : Int) (x39 : Int) (x40 : Int), iterC (codeL PP (S_turn_Both F) c_turn_Both (I_turn_Both F) (J_turn_Both F) (loopAt PP 25 1) 2) (headOf c_turn_Both 2) k n (fS T_turn_Both_1 [.i x0, .i x1, .i x2, .i x3, .i x4, .i x5, .i x6, .i x7, .i x8, .i x9, .i x10, .i x11, .i x12, .i x13, .i x14, .i x15, .i x16, .i x17, .i x18, .i x19, .i x20, .i x21, .i x22, .i x23, .i x24, .i x25, .i x26, .i x27, .i x28, .i x29, .i x30, .i x31, .i x32, .i x33, .i x34, .i x35, .i x36, .i x37, .i x38, .i x39, .i x40]) = L_turn_Both_1 F (fun (z0 : Int) (z1 : Int) (z2 : Int) (z3 : Int) (z4 : Int) (z5 : Int) (z6 : Int) (z7 : Int) (z8 : Int) (z9 : Int) (z10 : Int) (z11 : Int) (z12 : Int) (z13 : Int) (z14 : Int) (z15 : Int) (z16 : Int) (z17 : Int) (z18 : Int) (z19 : Int) (z20 : Int) (z21 : Int) (z22 : Int) (z23 : Int) (z24 : Int) (z25 : Int) (z26 : Int) (z27 : Int) (z28 : Int) (z29 : Int) (z30 : Int) (z31 : Int) (z32 : Int) (z33 : Int) (z34 : Int) (z35 : Int) (z36 : Int) (z37 : Int) (z38 : Int) (z39 : Int) (z40 : Int) => k (.exit 2) (fS T_turn_Both_1_0 [.i z0, .i z1, .i z2, .i z3, .i z4, .i z5, .i z6, .i z7, .i z8, .i z9, .i z10, .i z11, .i z12, .i z13, .i z14, .i z15, .i z16, .i z17, .i z18, .i z19, .i z20, .i z21, .i z22, .i z23, .i z24, .i z25, .i z26, .i z27, .i z28, .i z29, .i z30, .i z31, .i z32, .i z33, .i z34, .i z35, .i z36, .i z37, .i z38, .i z39, .i z40])) n x0 x1 x2 x3 x4 x5 x6 x7 x8 x9 x10 x11 x12 x13 x14 x15 x16 x17 x18 x19 x20 x21 x22 x23 x24 x25 x26 x27 x28 x29 x30 x31 x32 x33 x34 x35 x36 x37 x38 x39 x40
  | 0, _, _, _, _, _, _, _, _, _, _, _, _, _, _, _, _, _, _, _, _, _, _, _, _, _, _, _, _, _, _, _, _, _, _, _, _, _, _, _, _, _ => rfl
  | n + 1, x0, x1, x2, x3, x4, x5, x6, x7, x8, x9, x10, x11, x12, x13, x14, x15, x16, x17, x18, x19, x20, x21, x22, x23, x24, x25, x26, x27, x28, x29, x30, x31, x32, x33, x34, x35, x36, x37, x38, x39, x40 => by
    have h0 : ∀ (ok_turn_angles : Nat → Bool) (o_turn_angles_0 : Nat → Int) (o_turn_angles_1 : Nat → Int) (o_turn_angles_2 : Nat → Int) (o_turn_angles_3 : Nat → Int) (o_turn_angles_4 : Nat → Int) (o_turn_angles_5 : Nat → Int) (o_turn_angles_6 : Nat → Int) (o_turn_angles_7 : Nat → Int) (o_turn_angles_8 : Nat → Int) (o_turn_angles_9 : Nat → Int) (o_turn_angles_10 : Nat → Int) (o_turn_angles_11 : Nat → Int) (o_turn_angles_12 : Nat → Int) (o_turn_angles_13 : Nat → Int) (o_turn_angles_14 : Nat → Int) (o_turn_angles_15 : Nat → Int) (o_turn_angles_16 : Nat → Int) (o_turn_angles_17 : Nat → Int) (o_turn_angles_18 : Nat → Int) (o_turn_angles_19 : Nat → Int) (o_turn_angles_20 : Nat → Int) (o_turn_angles_21 : Nat → Int) (o_turn_angles_22 : Nat → Int) (o_turn_angles_23 : Nat → Int) (o_turn_angles_24 : Nat → Int) (o_turn_angles_25 : Nat → Int) (o_turn_angles_26 : Nat → Int) (o_turn_angles_27 : Nat → Int) (o_turn_angles_28 : Nat → Int) (o_turn_angles_29 : Nat → Int) (ok_turn_pair_turned : Nat → Int → Int → Int → Bool → Bool) (o_turn_pair_turned_0 : Nat → Int → Int → Int → Bool → Int) (o_turn_pair_turned_1 : Nat → Int → Int → Int → Bool → Int) (ok_turn_unit : Nat → Int → Bool) (o_turn_unit_0 : Nat → Int → Int) (L_turn_Both_0 : Nat → (Int → Int → Int → Int → Int → Int → Int → Int → Int → Int → Int → Int → Int → Int → Int → Int → Int → Int → Int → Int → Int → Int → Int → Int → Int → Int → Int → Int → Int → Int → Int → Int → Int → Int → Int → Int → Int → R) → Nat → Int → Int → Int → Int → Int → Int → Int → Int → Int → Int → Int → Int → Int → Int → Int → Int → Int → Int → Int → Int → Int → Int → Int → Int → Int → Int → Int → Int → Int → Int → Int → Int → Int → Int → Int → Int → Int → R) (L_turn_Both_1 : Nat → (Int → Int → Int → Int → Int → Int → Int → Int → Int → Int → Int → Int → Int → Int → Int → Int → Int → Int → Int → Int → Int → Int → Int → Int → Int → Int → Int → Int → Int → Int → Int → Int → Int → Int → Int → Int → Int → Int → Int → Int → Int → R) → Nat → Int → Int → Int → Int → Int → Int → Int → Int → Int → Int → Int → Int → Int → Int → Int → Int → Int → Int → Int → Int → Int → Int → Int → Int → Int → Int → Int → Int → Int → Int → Int → Int → Int → Int → Int → Int → Int → Int → Int → Int → Int → R), iterC (codeL PP (words [(76, spec ti_turn_angles to_turn_angles (fun q => (ok_turn_angles F )) (fun q => [.i (o_turn_angles_0 F ), .i (o_turn_angles_1 F ), .i (o_turn_angles_2 F ), .i (o_turn_angles_3 F ), .i (o_turn_angles_4 F ), .i (o_turn_angles_5 F ), .i (o_turn_angles_6 F ), .i (o_turn_angles_7 F ), .i (o_turn_angles_8 F ), .i (o_turn_angles_9 F ), .i (o_turn_angles_10 F ), .i (o_turn_angles_11 F ), .i (o_turn_angles_12 F ), .i (o_turn_angles_13 F ), .i (o_turn_angles_14 F ), .i (o_turn_angles_15 F ), .i (o_turn_angles_16 F ), .i (o_turn_angles_17 F ), .i (o_turn_angles_18 F ), .i (o_turn_angles_19 F ), .i (o_turn_angles_20 F ), .i (o_turn_angles_21 F ), .i (o_turn_angles_22 F ), .i (o_turn_angles_23 F ), .i (o_turn_angles_24 F ), .i (o_turn_angles_25 F ), .i (o_turn_angles_26 F ), .i (o_turn_angles_27 F ), .i (o_turn_angles_28 F ), .i (o_turn_angles_29 F )])), (77, spec ti_turn_pair_turned to_turn_pair_turned (fun q => (ok_turn_pair_turned F (atI (nth q 0)) (atI (nth q 1)) (atI (nth q 2)) (atB (nth q 3)))) (fun q => [.i (o_turn_pair_turned_0 F (atI (nth q 0)) (atI (nth q 1)) (atI (nth q 2)) (atB (nth q 3))), .i (o_turn_pair_turned_1 F (atI (nth q 0)) (atI (nth q 1)) (atI (nth q 2)) (atB (nth q 3)))])), (78, spec ti_turn_unit to_turn_unit (fun q => (ok_turn_unit F (atI (nth q 0)))) (fun q => [.i (o_turn_unit_0 F (atI (nth q 0)))]))]) c_turn_Both (tabI c_turn_Both [⟨0, T_turn_Both_0, fun k q => L_turn_Both_0 F (fun (z0 : Int) (z1 : Int) (z2 : Int) (z3 : Int) (z4 : Int) (z5 : Int) (z6 : Int) (z7 : Int) (z8 : Int) (z9 : Int) (z10 : Int) (z11 : Int) (z12 : Int) (z13 : Int) (z14 : Int) (z15 : Int) (z16 : Int) (z17 : Int) (z18 : Int) (z19 : Int) (z20 : Int) (z21 : Int) (z22 : Int) (z23 : Int) (z24 : Int) (z25 : Int) (z26 : Int) (z27 : Int) (z28 : Int) (z29 : Int) (z30 : Int) (z31 : Int) (z32 : Int) (z33 : Int) (z34 : Int) (z35 : Int) (z36 : Int) => k (.exit 0) (fS T_turn_Both_0_0 [.i z0, .i z1, .i z2, .i z3, .i z4, .i z5, .i z6, .i z7, .i z8, .i z9, .i z10, .i z11, .i z12, .i z13, .i z14, .i z15, .i z16, .i z17, .i z18, .i z19, .i z20, .i z21, .i z22, .i z23, .i z24, .i z25, .i z26, .i z27, .i z28, .i z29, .i z30, .i z31, .i z32, .i z33, .i z34, .i z35, .i z36])) F (atI (nth q 0)) (atI (nth q 1)) (atI (nth q 2)) (atI (nth q 3)) (atI (nth q 4)) (atI (nth q 5)) (atI (nth q 6)) (atI (nth q 7)) (atI (nth q 8)) (atI (nth q 9)) (atI (nth q 10)) (atI (nth q 11)) (atI (nth q 12)) (atI (nth q 13)) (atI (nth q 14)) (atI (nth q 15)) (atI (nth q 16)) (atI (nth q 17)) (atI (nth q 18)) (atI (nth q 19)) (atI (nth q 20)) (atI (nth q 21)) (atI (nth q 22)) (atI (nth q 23)) (atI (nth q 24)) (atI (nth q 25)) (atI (nth q 26)) (atI (nth q 27)) (atI (nth q 28)) (atI (nth q 29)) (atI (nth q 30)) (atI (nth q 31)) (atI (nth q 32)) (atI (nth q 33)) (atI (nth q 34)) (atI (nth q 35)) (atI (nth q 36))⟩, ⟨2, T_turn_Both_1, fun k q => L_turn_Both_1 F (fun (z0 : Int) (z1 : Int) (z2 : Int) (z3 : Int) (z4 : Int) (z5 : Int) (z6 : Int) (z7 : Int) (z8 : Int) (z9 : Int) (z10 : Int) (z11 : Int) (z12 : Int) (z13 : Int) (z14 : Int) (z15 : Int) (z16 : Int) (z17 : Int) (z18 : Int) (z19 : Int) (z20 : Int) (z21 : Int) (z22 : Int) (z23 : Int) (z24 : Int) (z25 : Int) (z26 : Int) (z27 : Int) (z28 : Int) (z29 : Int) (z30 : Int) (z31 : Int) (z32 : Int) (z33 : Int) (z34 : Int) (z35 : Int) (z36 : Int) (z37 : Int) (z38 : Int) (z39 : Int) (z40 : Int) => k (.exit 2) (fS T_turn_Both_1_0 [.i z0, .i z1, .i z2, .i z3, .i z4, .i z5, .i z6, .i z7, .i z8, .i z9, .i z10, .i z11, .i z12, .i z13, .i z14, .i z15, .i z16, .i z17, .i z18, .i z19, .i z20, .i z21, .i z22, .i z23, .i z24, .i z25, .i z26, .i z27, .i z28, .i z29, .i z30, .i z31, .i z32, .i z33, .i z34, .i z35, .i z36, .i z37, .i z38, .i z39, .i z40])) F (atI (nth q 0)) (atI (nth q 1)) (atI (nth q 2)) (atI (nth q 3)) (atI (nth q 4)) (atI (nth q 5)) (atI (nth q 6)) (atI (nth q 7)) (atI (nth q 8)) (atI (nth q 9)) (atI (nth q 10)) (atI (nth q 11)) (atI (nth q 12)) (atI (nth q 13)) (atI (nth q 14)) (atI (nth q 15)) (atI (nth q 16)) (atI (nth q 17)) (atI (nth q 18)) (atI (nth q 19)) (atI (nth q 20)) (atI (nth q 21)) (atI (nth q 22)) (atI (nth q 23)) (atI (nth q 24)) (atI (nth q 25)) (atI (nth q 26)) (atI (nth q 27)) (atI (nth q 28)) (atI (nth q 29)) (atI (nth q 30)) (atI (nth q 31)) (atI (nth q 32)) (atI (nth q 33)) (atI (nth q 34)) (atI (nth q 35)) (atI (nth q 36)) (atI (nth q 37)) (atI (nth q 38)) (atI (nth q 39)) (atI (nth q 40))⟩]) (tabJ []) (loopAt PP 25 1) 2) (headOf c_turn_Both 2) k (n + 1) (fS T_turn_Both_1 [.i x0, .i x1, .i x2, .i x3, .i x4, .i x5, .i x6, .i x7, .i x8, .i x9, .i x10, .i x11, .i x12, .i x13, .i x14, .i x15, .i x16, .i x17, .i x18, .i x19, .i x20, .i x21, .i x22, .i x23, .i x24, .i x25, .i x26, .i x27, .i x28, .i x29, .i x30, .i x31, .i x32, .i x33, .i x34, .i x35, .i x36, .i x37, .i x38, .i x39, .i x40]) = (fun (rc : Int → Int → Int → Int → Int → Int → Int → Int → Int → Int → Int → Int → Int → Int → Int → Int → Int → Int → Int → Int → Int → Int → Int → Int → Int → Int → Int → Int → Int → Int → Int → Int → Int → Int → Int → Int → Int → Int → Int → Int → Int → R) (ex0 : Int → Int → Int → Int → Int → Int → Int → Int → Int → Int → Int → Int → Int → Int → Int → Int → Int → Int → Int → Int → Int → Int → Int → Int → Int → Int → Int → Int → Int → Int → Int → Int → Int → Int → Int → Int → Int → Int → Int → Int → Int → R) (x0 : Int) (x1 : Int) (x2 : Int) (x3 : Int) (x4 : Int) (x5 : Int) (x6 : Int) (x7 : Int) (x8 : Int) (x9 : Int) (x10 : Int) (x11 : Int) (x12 : Int) (x13 : Int) (x14 : Int) (x15 : Int) (x16 : Int) (x17 : Int) (x18 : Int) (x19 : Int) (x20 : Int) (x21 : Int) (x22 : Int) (x23 : Int) (x24 : Int) (x25 : Int) (x26 : Int) (x27 : Int) (x28 : Int) (x29 : Int) (x30 : Int) (x31 : Int) (x32 : Int) (x33 : Int) (x34 : Int) (x35 : Int) (x36 : Int) (x37 : Int) (x38 : Int) (x39 : Int) (x40 : Int) => (
  bif ((decide (x38 < x37))) then (
    rc x0 x1 x2 x3 ((IntKind.wrap .i64 (0 - x5))) x4 x6 x7 x8 x9 x10 x11 x12 x13 x14 x15 x16 x17 x18 x19 x20 x21 x22 x23 x24 x25 x26 x27 x28 x29 x30 x31 x32 x33 x34 x35 x36 x37 ((IntKind.wrap .u32 (x38 + 1))) x39 x40)
  else (
    ex0 x0 x1 x2 x3 x4 x5 x6 x7 x8 x9 x10 x11 x12 x13 x14 x15 x16 x17 x18 x19 x20 x21 x22 x23 x24 x25 x26 x27 x28 x29 x30 x31 x32 x33 x34 x35 x36 x37 x38 x39 x40) : R)) (fun (y0 : Int) (y1 : Int) (y2 : Int) (y3 : Int) (y4 : Int) (y5 : Int) (y6 : Int) (y7 : Int) (y8 : Int) (y9 : Int) (y10 : Int) (y11 : Int) (y12 : Int) (y13 : Int) (y14 : Int) (y15 : Int) (y16 : Int) (y17 : Int) (y18 : Int) (y19 : Int) (y20 : Int) (y21 : Int) (y22 : Int) (y23 : Int) (y24 : Int) (y25 : Int) (y26 : Int) (y27 : Int) (y28 : Int) (y29 : Int) (y30 : Int) (y31 : Int) (y32 : Int) (y33 : Int) (y34 : Int) (y35 : Int) (y36 : Int) (y37 : Int) (y38 : Int) (y39 : Int) (y40 : Int) => iterC (codeL PP (words [(76, spec ti_turn_angles to_turn_angles (fun q => (ok_turn_angles F )) (fun q => [.i (o_turn_angles_0 F ), .i (o_turn_angles_1 F ), .i (o_turn_angles_2 F ), .i (o_turn_angles_3 F ), .i (o_turn_angles_4 F ), .i (o_turn_angles_5 F ), .i (o_turn_angles_6 F ), .i (o_turn_angles_7 F ), .i (o_turn_angles_8 F ), .i (o_turn_angles_9 F ), .i (o_turn_angles_10 F ), .i (o_turn_angles_11 F ), .i (o_turn_angles_12 F ), .i (o_turn_angles_13 F ), .i (o_turn_angles_14 F ), .i (o_turn_angles_15 F ), .i (o_turn_angles_16 F ), .i (o_turn_angles_17 F ), .i (o_turn_angles_18 F ), .i (o_turn_angles_19 F ), .i (o_turn_angles_20 F ), .i (o_turn_angles_21 F ), .i (o_turn_angles_22 F ), .i (o_turn_angles_23 F ), .i (o_turn_angles_24 F ), .i (o_turn_angles_25 F ), .i (o_turn_angles_26 F ), .i (o_turn_angles_27 F ), .i (o_turn_angles_28 F ), .i (o_turn_angles_29 F )])), (77, spec ti_turn_pair_turned to_turn_pair_turned (fun q => (ok_turn_pair_turned F (atI (nth q 0)) (atI (nth q 1)) (atI (nth q 2)) (atB (nth q 3)))) (fun q => [.i (o_turn_pair_turned_0 F (atI (nth q 0)) (atI (nth q 1)) (atI (nth q 2)) (atB (nth q 3))), .i (o_turn_pair_turned_1 F (atI (nth q 0)) (atI (nth q 1)) (atI (nth q 2)) (atB (nth q 3)))])), (78, spec ti_turn_unit to_turn_unit (fun q => (ok_turn_unit F (atI (nth q 0)))) (fun q => [.i (o_turn_unit_0 F (atI (nth q 0)))]))]) c_turn_Both (tabI c_turn_Both [⟨0, T_turn_Both_0, fun k q => L_turn_Both_0 F (fun (z0 : Int) (z1 : Int) (z2 : Int) (z3 : Int) (z4 : Int) (z5 : Int) (z6 : Int) (z7 : Int) (z8 : Int) (z9 : Int) (z10 : Int) (z11 : Int) (z12 : Int) (z13 : Int) (z14 : Int) (z15 : Int) (z16 : Int) (z17 : Int) (z18 : Int) (z19 : Int) (z20 : Int) (z21 : Int) (z22 : Int) (z23 : Int) (z24 : Int) (z25 : Int) (z26 : Int) (z27 : Int) (z28 : Int) (z29 : Int) (z30 : Int) (z31 : Int) (z32 : Int) (z33 : Int) (z34 : Int) (z35 : Int) (z36 : Int) => k (.exit 0) (fS T_turn_Both_0_0 [.i z0, .i z1, .i z2, .i z3, .i z4, .i z5, .i z6, .i z7, .i z8, .i z9, .i z10, .i z11, .i z12, .i z13, .i z14, .i z15, .i z16, .i z17, .i z18, .i z19, .i z20, .i z21, .i z22, .i z23, .i z24, .i z25, .i z26, .i z27, .i z28, .i z29, .i z30, .i z31, .i z32, .i z33, .i z34, .i z35, .i z36])) F (atI (nth q 0)) (atI (nth q 1)) (atI (nth q 2)) (atI (nth q 3)) (atI (nth q 4)) (atI (nth q 5)) (atI (nth q 6)) (atI (nth q 7)) (atI (nth q 8)) (atI (nth q 9)) (atI (nth q 10)) (atI (nth q 11)) (atI (nth q 12)) (atI (nth q 13)) (atI (nth q 14)) (atI (nth q 15)) (atI (nth q 16)) (atI (nth q 17)) (atI (nth q 18)) (atI (nth q 19)) (atI (nth q 20)) (atI (nth q 21)) (atI (nth q 22)) (atI (nth q 23)) (atI (nth q 24)) (atI (nth q 25)) (atI (nth q 26)) (atI (nth q 27)) (atI (nth q 28)) (atI (nth q 29)) (atI (nth q 30)) (atI (nth q 31)) (atI (nth q 32)) (atI (nth q 33)) (atI (nth q 34)) (atI (nth q 35)) (atI (nth q 36))⟩, ⟨2, T_turn_Both_1, fun k q => L_turn_Both_1 F (fun (z0 : Int) (z1 : Int) (z2 : Int) (z3 : Int) (z4 : Int) (z5 : Int) (z6 : Int) (z7 : Int) (z8 : Int) (z9 : Int) (z10 : Int) (z11 : Int) (z12 : Int) (z13 : Int) (z14 : Int) (z15 : Int) (z16 : Int) (z17 : Int) (z18 : Int) (z19 : Int) (z20 : Int) (z21 : Int) (z22 : Int) (z23 : Int) (z24 : Int) (z25 : Int) (z26 : Int) (z27 : Int) (z28 : Int) (z29 : Int) (z30 : Int) (z31 : Int) (z32 : Int) (z33 : Int) (z34 : Int) (z35 : Int) (z36 : Int) (z37 : Int) (z38 : Int) (z39 : Int) (z40 : Int) => k (.exit 2) (fS T_turn_Both_1_0 [.i z0, .i z1, .i z2, .i z3, .i z4, .i z5, .i z6, .i z7, .i z8, .i z9, .i z10, .i z11, .i z12, .i z13, .i z14, .i z15, .i z16, .i z17, .i z18, .i z19, .i z20, .i z21, .i z22, .i z23, .i z24, .i z25, .i z26, .i z27, .i z28, .i z29, .i z30, .i z31, .i z32, .i z33, .i z34, .i z35, .i z36, .i z37, .i z38, .i z39, .i z40])) F (atI (nth q 0)) (atI (nth q 1)) (atI (nth q 2)) (atI (nth q 3)) (atI (nth q 4)) (atI (nth q 5)) (atI (nth q 6)) (atI (nth q 7)) (atI (nth q 8)) (atI (nth q 9)) (atI (nth q 10)) (atI (nth q 11)) (atI (nth q 12)) (atI (nth q 13)) (atI (nth q 14)) (atI (nth q 15)) (atI (nth q 16)) (atI (nth q 17)) (atI (nth q 18)) (atI (nth q 19)) (atI (nth q 20)) (atI (nth q 21)) (atI (nth q 22)) (atI (nth q 23)) (atI (nth q 24)) (atI (nth q 25)) (atI (nth q 26)) (atI (nth q 27)) (atI (nth q 28)) (atI (nth q 29)) (atI (nth q 30)) (atI (nth q 31)) (atI (nth q 32)) (atI (nth q 33)) (atI (nth q 34)) (atI (nth q 35)) (atI (nth q 36)) (atI (nth q 37)) (atI (nth q 38)) (atI (nth q 39)) (atI (nth q 40))⟩]) (tabJ []) (loopAt PP 25 1) 2) (headOf c_turn_Both 2) k n (fS T_turn_Both_1 [.i y0, .i y1, .i y2, .i y3, .i y4, .i y5, .i y6, .i y7, .i y8, .i y9, .i y10, .i y11, .i y12, .i y13, .i y14, .i y15, .i y16, .i y17, .i y18, .i y19, .i y20, .i y21, .i y22, .i y23, .i y24, .i y25, .i y26, .i y27, .i y28, .i y29, .i y30, .i y31, .i y32, .i y33, .i y34, .i y35, .i y36, .i y37, .i y38, .i y39, .i y40])) (fun (z0 : Int) (z1 : Int) (z2 : Int) (z3 : Int) (z4 : Int) (z5 : Int) (z6 : Int) (z7 : Int) (z8 : Int) (z9 : Int) (z10 : Int) (z11 : Int) (z12 : Int) (z13 : Int) (z14 : Int) (z15 : Int) (z16 : Int) (z17 : Int) (z18 : Int) (z19 : Int) (z20 : Int) (z21 : Int) (z22 : Int) (z23 : Int) (z24 : Int) (z25 : Int) (z26 : Int) (z27 : Int) (z28 : Int) (z29 : Int) (z30 : Int) (z31 : Int) (z32 : Int) (z33 : Int) (z34 : Int) (z35 : Int) (z36 : Int) (z37 : Int) (z38 : Int) (z39 : Int) (z40 : Int) => k (.exit 2) (fS T_turn_Both_1_0 [.i z0, .i z1, .i z2, .i z3, .i z4, .i z5, .i z6, .i z7, .i z8, .i z9, .i z10, .i z11, .i z12, .i z13, .i z14, .i z15, .i z16, .i z17, .i z18, .i z19, .i z20, .i z21, .i z22, .i z23, .i z24, .i z25, .i z26, .i z27, .i z28, .i z29, .i z30, .i z31, .i z32, .i z33, .i z34, .i z35, .i z36, .i z37, .i z38, .i z39, .i z40])) x0 x1 x2 x3 x4 x5 x6 x7 x8 x9 x10 x11 x12 x13 x14 x15 x16 x17 x18 x19 x20 x21 x22 x23 x24 x25 x26 x27 x28 x29 x30 x31 x32 x33 x34 x35 x36 x37 x38 x39 x40 := by
      intros
      kernel_rfl
    have h : iterC (codeL PP (S_turn_Both F) c_turn_Both (I_turn_Both F) (J_turn_Both F) (loopAt PP 25 1) 2) (headOf c_turn_Both 2) k (n + 1) (fS T_turn_Both_1 [.i x0, .i x1, .i x2, .i x3, .i x4, .i x5, .i x6, .i x7, .i x8, .i x9, .i x10, .i x11, .i x12, .i x13, .i x14, .i x15, .i x16, .i x17, .i x18, .i x19, .i x20, .i x21, .i x22, .i x23, .i x24, .i x25, .i x26, .i x27, .i x28, .i x29, .i x30, .i x31, .i x32, .i x33, .i x34, .i x35, .i x36, .i x37, .i x38, .i x39, .i x40]) = B_turn_Both_1 F (fun (y0 : Int) (y1 : Int) (y2 : Int) (y3 : Int) (y4 : Int) (y5 : Int) (y6 : Int) (y7 : Int) (y8 : Int) (y9 : Int) (y10 : Int) (y11 : Int) (y12 : Int) (y13 : Int) (y14 : Int) (y15 : Int) (y16 : Int) (y17 : Int) (y18 : Int) (y19 : Int) (y20 : Int) (y21 : Int) (y22 : Int) (y23 : Int) (y24 : Int) (y25 : Int) (y26 : Int) (y27 : Int) (y28 : Int) (y29 : Int) (y30 : Int) (y31 : Int) (y32 : Int) (y33 : Int) (y34 : Int) (y35 : Int) (y36 : Int) (y37 : Int) (y38 : Int) (y39 : Int) (y40 : Int) => iterC (codeL PP (S_turn_Both F) c_turn_Both (I_turn_Both F) (J_turn_Both F) (loopAt PP 25 1) 2) (headOf c_turn_Both 2) k n (fS T_turn_Both_1 [.i y0, .i y1, .i y2, .i y3, .i y4, .i y5, .i y6, .i y7, .i y8, .i y9, .i y10, .i y11, .i y12, .i y13, .i y14, .i y15, .i y16, .i y17, .i y18, .i y19, .i y20, .i y21, .i y22, .i y23, .i y24, .i y25, .i y26, .i y27, .i y28, .i y29, .i y30, .i y31, .i y32, .i y33, .i y34, .i y35, .i y36, .i y37, .i y38, .i y39, .i y40])) (fun (z0 : Int) (z1 : Int) (z2 : Int) (z3 : Int) (z4 : Int) (z5 : Int) (z6 : Int) (z7 : Int) (z8 : Int) (z9 : Int) (z10 : Int) (z11 : Int) (z12 : Int) (z13 : Int) (z14 : Int) (z15 : Int) (z16 : Int) (z17 : Int) (z18 : Int) (z19 : Int) (z20 : Int) (z21 : Int) (z22 : Int) (z23 : Int) (z24 : Int) (z25 : Int) (z26 : Int) (z27 : Int) (z28 : Int) (z29 : Int) (z30 : Int) (z31 : Int) (z32 : Int) (z33 : Int) (z34 : Int) (z35 : Int) (z36 : Int) (z37 : Int) (z38 : Int) (z39 : Int) (z40 : Int) => k (.exit 2) (fS T_turn_Both_1_0 [.i z0, .i z1, .i z2, .i z3, .i z4, .i z5, .i z6, .i z7, .i z8, .i z9, .i z10, .i z11, .i z12, .i z13, .i z14, .i z15, .i z16, .i z17, .i z18, .i z19, .i z20, .i z21, .i z22, .i z23, .i z24, .i z25, .i z26, .i z27, .i z28, .i z29, .i z30, .i z31, .i z32, .i z33, .i z34, .i z35, .i z36, .i z37, .i z38, .i z39, .i z40])) x0 x1 x2 x3 x4 x5 x6 x7 x8 x9 x10 x11 x12 x13 x14 x15 x16 x17 x18 x19 x20 x21 x22 x23 x24 x25 x26 x27 x28 x29 x30 x31 x32 x33 x34 x35 x36 x37 x38 x39 x40 := (h0 ok_turn_angles o_turn_angles_0 o_turn_angles_1 o_turn_angles_2 o_turn_angles_3 o_turn_angles_4 o_turn_angles_5 o_turn_angles_6 o_turn_angles_7 o_turn_angles_8 o_turn_angles_9 o_turn_angles_10 o_turn_angles_11 o_turn_angles_12 o_turn_angles_13 o_turn_angles_14 o_turn_angles_15 o_turn_angles_16 o_turn_angles_17 o_turn_angles_18 o_turn_angles_19 o_turn_angles_20 o_turn_angles_21 o_turn_angles_22 o_turn_angles_23 o_turn_angles_24 o_turn_angles_25 o_turn_angles_26 o_turn_angles_27 o_turn_angles_28 o_turn_angles_29 ok_turn_pair_turned o_turn_pair_turned_0 o_turn_pair_turned_1 ok_turn_unit o_turn_unit_0 L_turn_Both_0 L_turn_Both_1).trans (by kernel_rfl)
    rw [h]
    simp only [lL_turn_Both_1 F k n]
    rfl
def f_turn_Both (F : Nat) (a0 : Int) : R :=
  bif (ok_turn_angles F) then (
    L_turn_Both_0 F (fun (v85 : Int) (v86 : Int) (v87 : Int) (v88 : Int) (v89 : Int) (v90 : Int) (v91 : Int) (v92 : Int) (v93 : Int) (v94 : Int) (v95 : Int) (v96 : Int) (v97 : Int) (v98 : Int) (v99 : Int) (v100 : Int) (v101 : Int) (v102 : Int) (v103 : Int) (v104 : Int) (v105 : Int) (v106 : Int) (v107 : Int) (v108 : Int) (v109 : Int) (v110 : Int) (v111 : Int) (v112 : Int) (v113 : Int) (v114 : Int) (v115 : Int) (v116 : Int) (v117 : Int) (v118 : Int) (v119 : Int) (v120 : Int) (v121 : Int) =>
      bif (ok_turn_unit F v120) then (
        bif (ok_turn_unit F v121) then (
          L_turn_Both_1 F (fun (v175 : Int) (v176 : Int) (v177 : Int) (v178 : Int) (v179 : Int) (v180 : Int) (v181 : Int) (v182 : Int) (v183 : Int) (v184 : Int) (v185 : Int) (v186 : Int) (v187 : Int) (v188 : Int) (v189 : Int) (v190 : Int) (v191 : Int) (v192 : Int) (v193 : Int) (v194 : Int) (v195 : Int) (v196 : Int) (v197 : Int) (v198 : Int) (v199 : Int) (v200 : Int) (v201 : Int) (v202 : Int) (v203 : Int) (v204 : Int) (v205 : Int) (v206 : Int) (v207 : Int) (v208 : Int) (v209 : Int) (v210 : Int) (v211 : Int) (v212 : Int) (v213 : Int) (v214 : Int) (v215 : Int) =>
            some (.v (.tuple #[.int .i64 v179, .int .i64 v180]))) F v85 v86 v87 v88 ((o_turn_unit_0 F v120)) ((o_turn_unit_0 F v121)) v89 v90 v91 v92 v93 v94 v95 v96 v97 v98 v99 v100 v101 v102 v103 v104 v105 v106 v107 v108 v109 v110 v111 v112 v113 v114 v115 v116 v117 v118 v119 ((Int.fdiv v85 (1073741824))) 0 v120 v121)
        else (
          none))
      else (
        none)) F a0 0 0 ((IntKind.wrap .i64 ((andI .u32 a0 1073741823)))) ((o_turn_angles_0 F)) ((o_turn_angles_1 F)) ((o_turn_angles_2 F)) ((o_turn_angles_3 F)) ((o_turn_angles_4 F)) ((o_turn_angles_5 F)) ((o_turn_angles_6 F)) ((o_turn_angles_7 F)) ((o_turn_angles_8 F)) ((o_turn_angles_9 F)) ((o_turn_angles_10 F)) ((o_turn_angles_11 F)) ((o_turn_angles_12 F)) ((o_turn_angles_13 F)) ((o_turn_angles_14 F)) ((o_turn_angles_15 F)) ((o_turn_angles_16 F)) ((o_turn_angles_17 F)) ((o_turn_angles_18 F)) ((o_turn_angles_19 F)) ((o_turn_angles_20 F)) ((o_turn_angles_21 F)) ((o_turn_angles_22 F)) ((o_turn_angles_23 F)) ((o_turn_angles_24 F)) ((o_turn_angles_25 F)) ((o_turn_angles_26 F)) ((o_turn_angles_27 F)) ((o_turn_angles_28 F)) ((o_turn_angles_29 F)) 0 2608131496 0)
  else (
    none)
theorem e_turn_Both (F : Nat) (a0 : Int) : funL PP (S_turn_Both F) c_turn_Both (I_turn_Both F) (J_turn_Both F) 25 (fTs ti_turn_Both [.i a0]).1 = f_turn_Both F a0 := by
  have h : ∀ (ok_turn_angles : Nat → Bool) (o_turn_angles_0 : Nat → Int) (o_turn_angles_1 : Nat → Int) (o_turn_angles_2 : Nat → Int) (o_turn_angles_3 : Nat → Int) (o_turn_angles_4 : Nat → Int) (o_turn_angles_5 : Nat → Int) (o_turn_angles_6 : Nat → Int) (o_turn_angles_7 : Nat → Int) (o_turn_angles_8 : Nat → Int) (o_turn_angles_9 : Nat → Int) (o_turn_angles_10 : Nat → Int) (o_turn_angles_11 : Nat → Int) (o_turn_angles_12 : Nat → Int) (o_turn_angles_13 : Nat → Int) (o_turn_angles_14 : Nat → Int) (o_turn_angles_15 : Nat → Int) (o_turn_angles_16 : Nat → Int) (o_turn_angles_17 : Nat → Int) (o_turn_angles_18 : Nat → Int) (o_turn_angles_19 : Nat → Int) (o_turn_angles_20 : Nat → Int) (o_turn_angles_21 : Nat → Int) (o_turn_angles_22 : Nat → Int) (o_turn_angles_23 : Nat → Int) (o_turn_angles_24 : Nat → Int) (o_turn_angles_25 : Nat → Int) (o_turn_angles_26 : Nat → Int) (o_turn_angles_27 : Nat → Int) (o_turn_angles_28 : Nat → Int) (o_turn_angles_29 : Nat → Int) (ok_turn_pair_turned : Nat → Int → Int → Int → Bool → Bool) (o_turn_pair_turned_0 : Nat → Int → Int → Int → Bool → Int) (o_turn_pair_turned_1 : Nat → Int → Int → Int → Bool → Int) (ok_turn_unit : Nat → Int → Bool) (o_turn_unit_0 : Nat → Int → Int) (L_turn_Both_0 : Nat → (Int → Int → Int → Int → Int → Int → Int → Int → Int → Int → Int → Int → Int → Int → Int → Int → Int → Int → Int → Int → Int → Int → Int → Int → Int → Int → Int → Int → Int → Int → Int → Int → Int → Int → Int → Int → Int → R) → Nat → Int → Int → Int → Int → Int → Int → Int → Int → Int → Int → Int → Int → Int → Int → Int → Int → Int → Int → Int → Int → Int → Int → Int → Int → Int → Int → Int → Int → Int → Int → Int → Int → Int → Int → Int → Int → Int → R) (L_turn_Both_1 : Nat → (Int → Int → Int → Int → Int → Int → Int → Int → Int → Int → Int → Int → Int → Int → Int → Int → Int → Int → Int → Int → Int → Int → Int → Int → Int → Int → Int → Int → Int → Int → Int → Int → Int → Int → Int → Int → Int → Int → Int → Int → Int → R) → Nat → Int → Int → Int → Int → Int → Int → Int → Int → Int → Int → Int → Int → Int → Int → Int → Int → Int → Int → Int → Int → Int → Int → Int → Int → Int → Int → Int → Int → Int → Int → Int → Int → Int → Int → Int → Int → Int → Int → Int → Int → Int → R), funL PP (words [(76, spec ti_turn_angles to_turn_angles (fun q => (ok_turn_angles F )) (fun q => [.i (o_turn_angles_0 F ), .i (o_turn_angles_1 F ), .i (o_turn_angles_2 F ), .i (o_turn_angles_3 F ), .i (o_turn_angles_4 F ), .i (o_turn_angles_5 F ), .i (o_turn_angles_6 F ), .i (o_turn_angles_7 F ), .i (o_turn_angles_8 F ), .i (o_turn_angles_9 F ), .i (o_turn_angles_10 F ), .i (o_turn_angles_11 F ), .i (o_turn_angles_12 F ), .i (o_turn_angles_13 F ), .i (o_turn_angles_14 F ), .i (o_turn_angles_15 F ), .i (o_turn_angles_16 F ), .i (o_turn_angles_17 F ), .i (o_turn_angles_18 F ), .i (o_turn_angles_19 F ), .i (o_turn_angles_20 F ), .i (o_turn_angles_21 F ), .i (o_turn_angles_22 F ), .i (o_turn_angles_23 F ), .i (o_turn_angles_24 F ), .i (o_turn_angles_25 F ), .i (o_turn_angles_26 F ), .i (o_turn_angles_27 F ), .i (o_turn_angles_28 F ), .i (o_turn_angles_29 F )])), (77, spec ti_turn_pair_turned to_turn_pair_turned (fun q => (ok_turn_pair_turned F (atI (nth q 0)) (atI (nth q 1)) (atI (nth q 2)) (atB (nth q 3)))) (fun q => [.i (o_turn_pair_turned_0 F (atI (nth q 0)) (atI (nth q 1)) (atI (nth q 2)) (atB (nth q 3))), .i (o_turn_pair_turned_1 F (atI (nth q 0)) (atI (nth q 1)) (atI (nth q 2)) (atB (nth q 3)))])), (78, spec ti_turn_unit to_turn_unit (fun q => (ok_turn_unit F (atI (nth q 0)))) (fun q => [.i (o_turn_unit_0 F (atI (nth q 0)))]))]) c_turn_Both (tabI c_turn_Both [⟨0, T_turn_Both_0, fun k q => L_turn_Both_0 F (fun (z0 : Int) (z1 : Int) (z2 : Int) (z3 : Int) (z4 : Int) (z5 : Int) (z6 : Int) (z7 : Int) (z8 : Int) (z9 : Int) (z10 : Int) (z11 : Int) (z12 : Int) (z13 : Int) (z14 : Int) (z15 : Int) (z16 : Int) (z17 : Int) (z18 : Int) (z19 : Int) (z20 : Int) (z21 : Int) (z22 : Int) (z23 : Int) (z24 : Int) (z25 : Int) (z26 : Int) (z27 : Int) (z28 : Int) (z29 : Int) (z30 : Int) (z31 : Int) (z32 : Int) (z33 : Int) (z34 : Int) (z35 : Int) (z36 : Int) => k (.exit 0) (fS T_turn_Both_0_0 [.i z0, .i z1, .i z2, .i z3, .i z4, .i z5, .i z6, .i z7, .i z8, .i z9, .i z10, .i z11, .i z12, .i z13, .i z14, .i z15, .i z16, .i z17, .i z18, .i z19, .i z20, .i z21, .i z22, .i z23, .i z24, .i z25, .i z26, .i z27, .i z28, .i z29, .i z30, .i z31, .i z32, .i z33, .i z34, .i z35, .i z36])) F (atI (nth q 0)) (atI (nth q 1)) (atI (nth q 2)) (atI (nth q 3)) (atI (nth q 4)) (atI (nth q 5)) (atI (nth q 6)) (atI (nth q 7)) (atI (nth q 8)) (atI (nth q 9)) (atI (nth q 10)) (atI (nth q 11)) (atI (nth q 12)) (atI (nth q 13)) (atI (nth q 14)) (atI (nth q 15)) (atI (nth q 16)) (atI (nth q 17)) (atI (nth q 18)) (atI (nth q 19)) (atI (nth q 20)) (atI (nth q 21)) (atI (nth q 22)) (atI (nth q 23)) (atI (nth q 24)) (atI (nth q 25)) (atI (nth q 26)) (atI (nth q 27)) (atI (nth q 28)) (atI (nth q 29)) (atI (nth q 30)) (atI (nth q 31)) (atI (nth q 32)) (atI (nth q 33)) (atI (nth q 34)) (atI (nth q 35)) (atI (nth q 36))⟩, ⟨2, T_turn_Both_1, fun k q => L_turn_Both_1 F (fun (z0 : Int) (z1 : Int) (z2 : Int) (z3 : Int) (z4 : Int) (z5 : Int) (z6 : Int) (z7 : Int) (z8 : Int) (z9 : Int) (z10 : Int) (z11 : Int) (z12 : Int) (z13 : Int) (z14 : Int) (z15 : Int) (z16 : Int) (z17 : Int) (z18 : Int) (z19 : Int) (z20 : Int) (z21 : Int) (z22 : Int) (z23 : Int) (z24 : Int) (z25 : Int) (z26 : Int) (z27 : Int) (z28 : Int) (z29 : Int) (z30 : Int) (z31 : Int) (z32 : Int) (z33 : Int) (z34 : Int) (z35 : Int) (z36 : Int) (z37 : Int) (z38 : Int) (z39 : Int) (z40 : Int) => k (.exit 2) (fS T_turn_Both_1_0 [.i z0, .i z1, .i z2, .i z3, .i z4, .i z5, .i z6, .i z7, .i z8, .i z9, .i z10, .i z11, .i z12, .i z13, .i z14, .i z15, .i z16, .i z17, .i z18, .i z19, .i z20, .i z21, .i z22, .i z23, .i z24, .i z25, .i z26, .i z27, .i z28, .i z29, .i z30, .i z31, .i z32, .i z33, .i z34, .i z35, .i z36, .i z37, .i z38, .i z39, .i z40])) F (atI (nth q 0)) (atI (nth q 1)) (atI (nth q 2)) (atI (nth q 3)) (atI (nth q 4)) (atI (nth q 5)) (atI (nth q 6)) (atI (nth q 7)) (atI (nth q 8)) (atI (nth q 9)) (atI (nth q 10)) (atI (nth q 11)) (atI (nth q 12)) (atI (nth q 13)) (atI (nth q 14)) (atI (nth q 15)) (atI (nth q 16)) (atI (nth q 17)) (atI (nth q 18)) (atI (nth q 19)) (atI (nth q 20)) (atI (nth q 21)) (atI (nth q 22)) (atI (nth q 23)) (atI (nth q 24)) (atI (nth q 25)) (atI (nth q 26)) (atI (nth q 27)) (atI (nth q 28)) (atI (nth q 29)) (atI (nth q 30)) (atI (nth q 31)) (atI (nth q 32)) (atI (nth q 33)) (atI (nth q 34)) (atI (nth q 35)) (atI (nth q 36)) (atI (nth q 37)) (atI (nth q 38)) (atI (nth q 39)) (atI (nth q 40))⟩]) (tabJ []) 25 (fTs ti_turn_Both [.i a0]).1 = (
  bif (ok_turn_angles F) then (
    L_turn_Both_0 F (fun (v85 : Int) (v86 : Int) (v87 : Int) (v88 : Int) (v89 : Int) (v90 : Int) (v91 : Int) (v92 : Int) (v93 : Int) (v94 : Int) (v95 : Int) (v96 : Int) (v97 : Int) (v98 : Int) (v99 : Int) (v100 : Int) (v101 : Int) (v102 : Int) (v103 : Int) (v104 : Int) (v105 : Int) (v106 : Int) (v107 : Int) (v108 : Int) (v109 : Int) (v110 : Int) (v111 : Int) (v112 : Int) (v113 : Int) (v114 : Int) (v115 : Int) (v116 : Int) (v117 : Int) (v118 : Int) (v119 : Int) (v120 : Int) (v121 : Int) =>
      bif (ok_turn_unit F v120) then (
        bif (ok_turn_unit F v121) then (
          L_turn_Both_1 F (fun (v175 : Int) (v176 : Int) (v177 : Int) (v178 : Int) (v179 : Int) (v180 : Int) (v181 : Int) (v182 : Int) (v183 : Int) (v184 : Int) (v185 : Int) (v186 : Int) (v187 : Int) (v188 : Int) (v189 : Int) (v190 : Int) (v191 : Int) (v192 : Int) (v193 : Int) (v194 : Int) (v195 : Int) (v196 : Int) (v197 : Int) (v198 : Int) (v199 : Int) (v200 : Int) (v201 : Int) (v202 : Int) (v203 : Int) (v204 : Int) (v205 : Int) (v206 : Int) (v207 : Int) (v208 : Int) (v209 : Int) (v210 : Int) (v211 : Int) (v212 : Int) (v213 : Int) (v214 : Int) (v215 : Int) =>
            some (.v (.tuple #[.int .i64 v179, .int .i64 v180]))) F v85 v86 v87 v88 ((o_turn_unit_0 F v120)) ((o_turn_unit_0 F v121)) v89 v90 v91 v92 v93 v94 v95 v96 v97 v98 v99 v100 v101 v102 v103 v104 v105 v106 v107 v108 v109 v110 v111 v112 v113 v114 v115 v116 v117 v118 v119 ((Int.fdiv v85 (1073741824))) 0 v120 v121)
        else (
          none))
      else (
        none)) F a0 0 0 ((IntKind.wrap .i64 ((andI .u32 a0 1073741823)))) ((o_turn_angles_0 F)) ((o_turn_angles_1 F)) ((o_turn_angles_2 F)) ((o_turn_angles_3 F)) ((o_turn_angles_4 F)) ((o_turn_angles_5 F)) ((o_turn_angles_6 F)) ((o_turn_angles_7 F)) ((o_turn_angles_8 F)) ((o_turn_angles_9 F)) ((o_turn_angles_10 F)) ((o_turn_angles_11 F)) ((o_turn_angles_12 F)) ((o_turn_angles_13 F)) ((o_turn_angles_14 F)) ((o_turn_angles_15 F)) ((o_turn_angles_16 F)) ((o_turn_angles_17 F)) ((o_turn_angles_18 F)) ((o_turn_angles_19 F)) ((o_turn_angles_20 F)) ((o_turn_angles_21 F)) ((o_turn_angles_22 F)) ((o_turn_angles_23 F)) ((o_turn_angles_24 F)) ((o_turn_angles_25 F)) ((o_turn_angles_26 F)) ((o_turn_angles_27 F)) ((o_turn_angles_28 F)) ((o_turn_angles_29 F)) 0 2608131496 0)
  else (
    none) : R) := by
    intros
    kernel_rfl
  exact (h ok_turn_angles o_turn_angles_0 o_turn_angles_1 o_turn_angles_2 o_turn_angles_3 o_turn_angles_4 o_turn_angles_5 o_turn_angles_6 o_turn_angles_7 o_turn_angles_8 o_turn_angles_9 o_turn_angles_10 o_turn_angles_11 o_turn_angles_12 o_turn_angles_13 o_turn_angles_14 o_turn_angles_15 o_turn_angles_16 o_turn_angles_17 o_turn_angles_18 o_turn_angles_19 o_turn_angles_20 o_turn_angles_21 o_turn_angles_22 o_turn_angles_23 o_turn_angles_24 o_turn_angles_25 o_turn_angles_26 o_turn_angles_27 o_turn_angles_28 o_turn_angles_29 ok_turn_pair_turned o_turn_pair_turned_0 o_turn_pair_turned_1 ok_turn_unit o_turn_unit_0 L_turn_Both_0 L_turn_Both_1).trans (by kernel_rfl)
def ok_turn_Both (F : Nat) (a0 : Int) : Bool := okT to_turn_Both (f_turn_Both F a0)
def o_turn_Both_0 (F : Nat) (a0 : Int) : Int := atI (nth (outT to_turn_Both (f_turn_Both F a0)) 0)
def o_turn_Both_1 (F : Nat) (a0 : Int) : Int := atI (nth (outT to_turn_Both (f_turn_Both F a0)) 1)
theorem k_turn_Both (F : Nat) (a0 : Int) {z0 : Int} {z1 : Int} (h : f_turn_Both F a0 = some (.v (.tuple #[.int .i64 z0, .int .i64 z1]))) : ok_turn_Both F a0 = true ∧ o_turn_Both_0 F a0 = z0 ∧ o_turn_Both_1 F a0 = z1 := by
  refine ⟨?_, ?_, ?_⟩
  · unfold ok_turn_Both; rw [h]; kernel_rfl
  · unfold o_turn_Both_0; rw [h]; kernel_rfl
  · unfold o_turn_Both_1; rw [h]; kernel_rfl
def s_turn_Both (F : Nat) : List VV → Option (Bool × VV) := spec ti_turn_Both to_turn_Both (fun q => (ok_turn_Both F (atI (nth q 0)))) (fun q => [.i (o_turn_Both_0 F (atI (nth q 0))), .i (o_turn_Both_1 F (atI (nth q 0)))])
theorem hS_turn_Both (F : Nat) : ∀ f, Good PP f (unS (S_turn_Both F f)) := words_good fun p hp => by
  simp only [List.mem_cons, List.not_mem_nil, or_false] at hp
  rcases hp with rfl | rfl | rfl
  · exact g_turn_angles F
  · exact g_turn_pair_turned F
  · exact g_turn_unit F
theorem hl_turn_Both (F : Nat) : ∀ p ∈ loopsIn PP 25, LoopOK PP (S_turn_Both F) c_turn_Both F (I_turn_Both F) (J_turn_Both F) p :=
  loops_of [(0, loopAt PP 25 0), (2, loopAt PP 25 1)] (by kernel_rfl) (all_cons
    (loop_ok (W_turn_Both F) rfl (tab_cons (fun _ k q => Le.ofEq ((lL_turn_Both_0 F k F (atI (nth q 0)) (atI (nth q 1)) (atI (nth q 2)) (atI (nth q 3)) (atI (nth q 4)) (atI (nth q 5)) (atI (nth q 6)) (atI (nth q 7)) (atI (nth q 8)) (atI (nth q 9)) (atI (nth q 10)) (atI (nth q 11)) (atI (nth q 12)) (atI (nth q 13)) (atI (nth q 14)) (atI (nth q 15)) (atI (nth q 16)) (atI (nth q 17)) (atI (nth q 18)) (atI (nth q 19)) (atI (nth q 20)) (atI (nth q 21)) (atI (nth q 22)) (atI (nth q 23)) (atI (nth q 24)) (atI (nth q 25)) (atI (nth q 26)) (atI (nth q 27)) (atI (nth q 28)) (atI (nth q 29)) (atI (nth q 30)) (atI (nth q 31)) (atI (nth q 32)) (atI (nth q 33)) (atI (nth q 34)) (atI (nth q 35)) (atI (nth q 36))).symm.trans (congrArg (iterC (codeL PP (S_turn_Both F) c_turn_Both (I_turn_Both F) (J_turn_Both F) (loopAt PP 25 0) 0) (headOf c_turn_Both 0) k F) (show fS T_turn_Both_0 [.i (atI (nth q 0)), .i (atI (nth q 1)), .i (atI (nth q 2)), .i (atI (nth q 3)), .i (atI (nth q 4)), .i (atI (nth q 5)), .i (atI (nth q 6)), .i (atI (nth q 7)), .i (atI (nth q 8)), .i (atI (nth q 9)), .i (atI (nth q 10)), .i (atI (nth q 11)), .i (atI (nth q 12)), .i (atI (nth q 13)), .i (atI (nth q 14)), .i (atI (nth q 15)), .i (atI (nth q 16)), .i (atI (nth q 17)), .i (atI (nth q 18)), .i (atI (nth q 19)), .i (atI (nth q 20)), .i (atI (nth q 21)), .i (atI (nth q 22)), .i (atI (nth q 23)), .i (atI (nth q 24)), .i (atI (nth q 25)), .i (atI (nth q 26)), .i (atI (nth q 27)), .i (atI (nth q 28)), .i (atI (nth q 29)), .i (atI (nth q 30)), .i (atI (nth q 31)), .i (atI (nth q 32)), .i (atI (nth q 33)), .i (atI (nth q 34)), .i (atI (nth q 35)), .i (atI (nth q 36))] = fS T_turn_Both_0 q by kernel_rfl)))) (tab_cons (fun h => absurd h (by decide)) tab_nil))) (all_cons
    (loop_ok (W_turn_Both F) rfl (tab_cons (fun h => absurd h (by decide)) (tab_cons (fun _ k q => Le.ofEq ((lL_turn_Both_1 F k F (atI (nth q 0)) (atI (nth q 1)) (atI (nth q 2)) (atI (nth q 3)) (atI (nth q 4)) (atI (nth q 5)) (atI (nth q 6)) (atI (nth q 7)) (atI (nth q 8)) (atI (nth q 9)) (atI (nth q 10)) (atI (nth q 11)) (atI (nth q 12)) (atI (nth q 13)) (atI (nth q 14)) (atI (nth q 15)) (atI (nth q 16)) (atI (nth q 17)) (atI (nth q 18)) (atI (nth q 19)) (atI (nth q 20)) (atI (nth q 21)) (atI (nth q 22)) (atI (nth q 23)) (atI (nth q 24)) (atI (nth q 25)) (atI (nth q 26)) (atI (nth q 27)) (atI (nth q 28)) (atI (nth q 29)) (atI (nth q 30)) (atI (nth q 31)) (atI (nth q 32)) (atI (nth q 33)) (atI (nth q 34)) (atI (nth q 35)) (atI (nth q 36)) (atI (nth q 37)) (atI (nth q 38)) (atI (nth q 39)) (atI (nth q 40))).symm.trans (congrArg (iterC (codeL PP (S_turn_Both F) c_turn_Both (I_turn_Both F) (J_turn_Both F) (loopAt PP 25 1) 2) (headOf c_turn_Both 2) k F) (show fS T_turn_Both_1 [.i (atI (nth q 0)), .i (atI (nth q 1)), .i (atI (nth q 2)), .i (atI (nth q 3)), .i (atI (nth q 4)), .i (atI (nth q 5)), .i (atI (nth q 6)), .i (atI (nth q 7)), .i (atI (nth q 8)), .i (atI (nth q 9)), .i (atI (nth q 10)), .i (atI (nth q 11)), .i (atI (nth q 12)), .i (atI (nth q 13)), .i (atI (nth q 14)), .i (atI (nth q 15)), .i (atI (nth q 16)), .i (atI (nth q 17)), .i (atI (nth q 18)), .i (atI (nth q 19)), .i (atI (nth q 20)), .i (atI (nth q 21)), .i (atI (nth q 22)), .i (atI (nth q 23)), .i (atI (nth q 24)), .i (atI (nth q 25)), .i (atI (nth q 26)), .i (atI (nth q 27)), .i (atI (nth q 28)), .i (atI (nth q 29)), .i (atI (nth q 30)), .i (atI (nth q 31)), .i (atI (nth q 32)), .i (atI (nth q 33)), .i (atI (nth q 34)), .i (atI (nth q 35)), .i (atI (nth q 36)), .i (atI (nth q 37)), .i (atI (nth q 38)), .i (atI (nth q 39)), .i (atI (nth q 40))] = fS T_turn_Both_1 q by kernel_rfl)))) tab_nil))) all_nil))
theorem hj_turn_Both (F : Nat) : ∀ p ∈ joinsIn PP c_turn_Both 25, JoinOK PP (S_turn_Both F) c_turn_Both (I_turn_Both F) (J_turn_Both F) p :=
  joins_of [] (by kernel_rfl) all_nil
theorem g_turn_Both (F : Nat) : Good PP 25 (unS (s_turn_Both F)) :=
  fun_spec (hS_turn_Both F) (by kernel_rfl) (by kernel_rfl) (C := c_turn_Both) (F := fun q => (f_turn_Both F (atI (nth q 0)))) (fun _ => F) (fun _ => I_turn_Both F) (fun _ => J_turn_Both F) (fun _ => hl_turn_Both F) (fun _ => hj_turn_Both F)
    (fun q => (congrArg (funL PP (S_turn_Both F) c_turn_Both (I_turn_Both F) (J_turn_Both F) 25) (show (fTs ti_turn_Both q).1 = (fTs ti_turn_Both [.i (atI (nth q 0))]).1 by kernel_rfl)).trans (e_turn_Both F (atI (nth q 0))))
    (fun _ h => (okT_fill h).trans (congrArg some (by kernel_rfl)))

end Go.Xv
set_option linter.unusedVariables false
namespace Go.Xv
/- 82 _turn_opposite -/
def c_turn_opposite : Cfg := ⟨[0, 1, 4, 5, 7], [], [], []⟩
def ti_turn_opposite : List TV := [.v (.int .i64), .v (.int .i64)]
def to_turn_opposite : TV := .v (.agg [.int .i64, .int .i64])
def S_turn_opposite (F : Nat) : FuncId → List VV → Option (Bool × VV) := words [(113, s_fix_Neg F)]
def W_turn_opposite (F : Nat) : List LW := []
def I_turn_opposite (F : Nat) : Nat → VS → (Exit → VS → R) → R := tabI c_turn_opposite (W_turn_opposite F)
def WJ_turn_opposite (F : Nat) : List LJ := []
def J_turn_opposite (F : Nat) : Nat → Nat → VS → (Exit → VS → R) → R := tabJ (WJ_turn_opposite F)
def f_turn_opposite (F : Nat) (a0 : Int) (a1 : Int) : R :=
  bif (ok_fix_Neg F a0) then (
    bif (ok_fix_Neg F a1) then (
      some (.v (.agg #[.int .i64 ((o_fix_Neg_0 F a0)), .int .i64 ((o_fix_Neg_0 F a1))])))
    else (
      none))
  else (
    none)
theorem e_turn_opposite (F : Nat) (a0 : Int) (a1 : Int) : funL PP (S_turn_opposite F) c_turn_opposite (I_turn_opposite F) (J_turn_opposite F) 82 (fTs ti_turn_opposite [.i a0, .i a1]).1 = f_turn_opposite F a0 a1 := by
  have h : ∀ (ok_fix_Neg : Nat → Int → Bool) (o_fix_Neg_0 : Nat → Int → Int) (o_fix_Neg_1 : Nat → Int → Bool), funL PP (words [(113, spec ti_fix_Neg to_fix_Neg (fun q => (ok_fix_Neg F (atI (nth q 0)))) (fun q => [.i (o_fix_Neg_0 F (atI (nth q 0))), .b (o_fix_Neg_1 F (atI (nth q 0)))]))]) c_turn_opposite (tabI c_turn_opposite []) (tabJ []) 82 (fTs ti_turn_opposite [.i a0, .i a1]).1 = (
  bif (ok_fix_Neg F a0) then (
    bif (ok_fix_Neg F a1) then (
      some (.v (.agg #[.int .i64 ((o_fix_Neg_0 F a0)), .int .i64 ((o_fix_Neg_0 F a1))])))
    else (
      none))
  else (
    none) : R) := by
    intros
    kernel_rfl
  exact (h ok_fix_Neg o_fix_Neg_0 o_fix_Neg_1).trans (by kernel_rfl)
def ok_turn_opposite (F : Nat) (a0 : Int) (a1 : Int) : Bool := okT to_turn_opposite (f_turn_opposite F a0 a1)
def o_turn_opposite_0 (F : Nat) (a0 : Int) (a1 : Int) : Int := atI (nth (outT to_turn_opposite (f_turn_opposite F a0 a1)) 0)
def o_turn_opposite_1 (F : Nat) (a0 : Int) (a1 : Int) : Int := atI (nth (outT to_turn_opposite (f_turn_opposite F a0 a1)) 1)
theorem k_turn_opposite (F : Nat) (a0 : Int) (a1 : Int) {z0 : Int} {z1 : Int} (h : f_turn_opposite F a0 a1 = some (.v (.agg #[.int .i64 z0, .int .i64 z1]))) : ok_turn_opposite F a0 a1 = true ∧ o_turn_opposite_0 F a0 a1 = z0 ∧ o_turn_opposite_1 F a0 a1 = z1 := by
  refine ⟨?_, ?_, ?_⟩
  · unfold ok_turn_opposite; rw [h]; kernel_rfl
  · unfold o_turn_opposite_0; rw [h]; kernel_rfl
  · unfold o_turn_opposite_1; rw [h]; kernel_rfl
def s_turn_opposite (F : Nat) : List VV → Option (Bool × VV) := spec ti_turn_opposite to_turn_opposite (fun q => (ok_turn_opposite F (atI (nth q 0)) (atI (nth q 1)))) (fun q => [.i (o_turn_opposite_0 F (atI (nth q 0)) (atI (nth q 1))), .i (o_turn_opposite_1 F (atI (nth q 0)) (atI (nth q 1)))])
theorem hS_turn_opposite (F : Nat) : ∀ f, Good PP f (unS (S_turn_opposite F f)) := words_good fun p hp => by
  simp only [List.mem_cons, List.not_mem_nil, or_false] at hp
  rcases hp with rfl
  · exact g_fix_Neg F
theorem hl_turn_opposite (F : Nat) : ∀ p ∈ loopsIn PP 82, LoopOK PP (S_turn_opposite F) c_turn_opposite F (I_turn_opposite F) (J_turn_opposite F) p :=
  loops_of [] (by kernel_rfl) all_nil
theorem hj_turn_opposite (F : Nat) : ∀ p ∈ joinsIn PP c_turn_opposite 82, JoinOK PP (S_turn_opposite F) c_turn_opposite (I_turn_opposite F) (J_turn_opposite F) p :=
  joins_of [] (by kernel_rfl) all_nil
theorem g_turn_opposite (F : Nat) : Good PP 82 (unS (s_turn_opposite F)) :=
  fun_spec (hS_turn_opposite F) (by kernel_rfl) (by kernel_rfl) (C := c_turn_opposite) (F := fun q => (f_turn_opposite F (atI (nth q 0)) (atI (nth q 1)))) (fun _ => F) (fun _ => I_turn_opposite F) (fun _ => J_turn_opposite F) (fun _ => hl_turn_opposite F) (fun _ => hj_turn_opposite F)
    (fun q => (congrArg (funL PP (S_turn_opposite F) c_turn_opposite (I_turn_opposite F) (J_turn_opposite F) 82) (show (fTs ti_turn_opposite q).1 = (fTs ti_turn_opposite [.i (atI (nth q 0)), .i (atI (nth q 1))]).1 by kernel_rfl)).trans (e_turn_opposite F (atI (nth q 0)) (atI (nth q 1))))
    (fun _ h => (okT_fill h).trans (congrArg some (by kernel_rfl)))

end Go.Xv
set_option linter.unusedVariables false
namespace Go.Xv
/- 114 _turn_size -/
def c_turn_size : Cfg := ⟨[0, 2, 4], [], [], []⟩
def ti_turn_size : List TV := [.v (.int .i64)]
def to_turn_size : TV := .v (.int .u64)
def S_turn_size (F : Nat) : FuncId → List VV → Option (Bool × VV) := words []
def W_turn_size (F : Nat) : List LW := []
def I_turn_size (F : Nat) : Nat → VS → (Exit → VS → R) → R := tabI c_turn_size (W_turn_size F)
def WJ_turn_size (F : Nat) : List LJ := []
def J_turn_size (F : Nat) : Nat → Nat → VS → (Exit → VS → R) → R := tabJ (WJ_turn_size F)
def f_turn_size (F : Nat) (a0 : Int) : R :=
  bif ((decide (a0 < 0))) then (
    some (.v (.int .u64 ((IntKind.wrap .u64 (0 - ((IntKind.wrap .u64 a0))))))))
  else (
    some (.v (.int .u64 ((IntKind.wrap .u64 a0)))))
theorem e_turn_size (F : Nat) (a0 : Int) : funL PP (S_turn_size F) c_turn_size (I_turn_size F) (J_turn_size F) 114 (fTs ti_turn_size [.i a0]).1 = f_turn_size F a0 := by
  have h : ∀ (_ : Unit), funL PP (words []) c_turn_size (tabI c_turn_size []) (tabJ []) 114 (fTs ti_turn_size [.i a0]).1 = (
  bif ((decide (a0 < 0))) then (
    some (.v (.int .u64 ((IntKind.wrap .u64 (0 - ((IntKind.wrap .u64 a0))))))))
  else (
    some (.v (.int .u64 ((IntKind.wrap .u64 a0))))) : R) := by
    intros
    kernel_rfl
  exact (h ()).trans (by kernel_rfl)
def ok_turn_size (F : Nat) (a0 : Int) : Bool := okT to_turn_size (f_turn_size F a0)
def o_turn_size_0 (F : Nat) (a0 : Int) : Int := atI (nth (outT to_turn_size (f_turn_size F a0)) 0)
theorem k_turn_size (F : Nat) (a0 : Int) {z0 : Int} (h : f_turn_size F a0 = some (.v (.int .u64 z0))) : ok_turn_size F a0 = true ∧ o_turn_size_0 F a0 = z0 := by
  refine ⟨?_, ?_⟩
  · unfold ok_turn_size; rw [h]; kernel_rfl
  · unfold o_turn_size_0; rw [h]; kernel_rfl
def s_turn_size (F : Nat) : List VV → Option (Bool × VV) := spec ti_turn_size to_turn_size (fun q => (ok_turn_size F (atI (nth q 0)))) (fun q => [.i (o_turn_size_0 F (atI (nth q 0)))])
theorem hS_turn_size (F : Nat) : ∀ f, Good PP f (unS (S_turn_size F f)) := words_good fun p hp => by
  cases hp
theorem hl_turn_size (F : Nat) : ∀ p ∈ loopsIn PP 114, LoopOK PP (S_turn_size F) c_turn_size F (I_turn_size F) (J_turn_size F) p :=
  loops_of [] (by kernel_rfl) all_nil
theorem hj_turn_size (F : Nat) : ∀ p ∈ joinsIn PP c_turn_size 114, JoinOK PP (S_turn_size F) c_turn_size (I_turn_size F) (J_turn_size F) p :=
  joins_of [] (by kernel_rfl) all_nil
theorem g_turn_size (F : Nat) : Good PP 114 (unS (s_turn_size F)) :=
  fun_spec (hS_turn_size F) (by kernel_rfl) (by kernel_rfl) (C := c_turn_size) (F := fun q => (f_turn_size F (atI (nth q 0)))) (fun _ => F) (fun _ => I_turn_size F) (fun _ => J_turn_size F) (fun _ => hl_turn_size F) (fun _ => hj_turn_size F)
    (fun q => (congrArg (funL PP (S_turn_size F) c_turn_size (I_turn_size F) (J_turn_size F) 114) (show (fTs ti_turn_size q).1 = (fTs ti_turn_size [.i (atI (nth q 0))]).1 by kernel_rfl)).trans (e_turn_size F (atI (nth q 0))))
    (fun _ h => (okT_fill h).trans (congrArg some (by kernel_rfl)))

end Go.Xv
set_option linter.unusedVariables false
namespace Go.Xv
/- 83 _turn_pair_scaled -/
def c_turn_pair_scaled : Cfg := ⟨[0, 1, 2, 10, 25], [(0, [0, 1, 2, 18, 19, 20, 21, 22, 23, 24, 25, 26, 27, 28, 29, 30, 31, 32, 33]), (2, [0, 1, 2, 3, 4, 5, 6, 7, 8, 9, 10, 11, 12, 13, 14, 15, 16, 17, 33])], [], []⟩
def ti_turn_pair_scaled : List TV := [.v (.agg [.int .i64, .int .i64])]
def to_turn_pair_scaled : TV := .v (.agg [.int .i64, .int .i64])
def S_turn_pair_scaled (F : Nat) : FuncId → List VV → Option (Bool × VV) := words [(114, s_turn_size F)]
def T_turn_pair_scaled_0 : TS := ⟨[(0, .v (.agg [.int .i64, .int .i64])), (1, .lp 0 (.lit 0)), (2, .lp 1 (.lit 0))], [(0, ⟨(.ex [.v (.int .i64), .v (.int .i64)]), true⟩), (1, ⟨(.ex [.v (.int .i64), .v (.int .i64)]), true⟩)], 2⟩
def T_turn_pair_scaled_0_0 : TS := ⟨[(0, .v (.agg [.int .i64, .int .i64])), (1, .lp 0 (.lit 0)), (2, .lp 1 (.lit 0))], [(0, ⟨(.ex [.v (.int .i64), .v (.int .i64)]), true⟩), (1, ⟨(.ex [.v (.int .i64), .v (.int .i64)]), true⟩)], 2⟩
def B_turn_pair_scaled_0 (F : Nat) (rc : Int → Int → Int → Int → Int → Int → R) (ex0 : Int → Int → Int → Int → Int → Int → R) (x0 : Int) (x1 : Int) (x2 : Int) (x3 : Int) (x4 : Int) (x5 : Int) : R :=
  bif (ok_turn_size F x2) then (
    let v312 : Int := (o_turn_size_0 F x2)
    bif (ok_turn_size F x3) then (
      let v313 : Int := (o_turn_size_0 F x3)
      bif ((decide (((if v313 > v312 then v313 else v312)) ≥ 2305843009213693952))) then (
        rc x0 x1 ((Int.fdiv x2 (2))) ((Int.fdiv x3 (2))) x4 x5)
      else (
        ex0 x0 x1 x2 x3 x4 x5))
    else (
      none))
  else (
    none)
def L_turn_pair_scaled_0 (F : Nat) (ex0 : Int → Int → Int → Int → Int → Int → R) : Nat → Int → Int → Int → Int → Int → Int → R
  | 0, _, _, _, _, _, _ => none
  | n + 1, x0, x1, x2, x3, x4, x5 => B_turn_pair_scaled_0 F (L_turn_pair_scaled_0 F ex0 n) ex0 x0 x1 x2 x3 x4 x5
def T_turn_pair_scaled_1 : TS := ⟨[(0, .v (.agg [.int .i64, .int .i64])), (1, .lp 0 (.lit 0)), (2, .lp 1 (.lit 0))], [(0, ⟨(.ex [.v (.int .i64), .v (.int .i64)]), true⟩), (1, ⟨(.ex [.v (.int .i64), .v (.int .i64)]), true⟩)], 2⟩
def T_turn_pair_scaled_1_0 : TS := ⟨[(0, .v (.agg [.int .i64, .int .i64])), (1, .lp 0 (.lit 0)), (2, .lp 1 (.lit 0))], [(0, ⟨(.ex [.v (.int .i64), .v (.int .i64)]), true⟩), (1, ⟨(.ex [.v (.int .i64), .v (.int .i64)]), true⟩)], 2⟩
def B_turn_pair_scaled_1 (F : Nat) (rc : Int → Int → Int → Int → Int → Int → R) (ex0 : Int → Int → Int → Int → Int → Int → R) (x0 : Int) (x1 : Int) (x2 : Int) (x3 : Int) (x4 : Int) (x5 : Int) : R :=
  bif (ok_turn_size F x2) then (
    let v330 : Int := (o_turn_size_0 F x2)
    bif (ok_turn_size F x3) then (
      let v331 : Int := (o_turn_size_0 F x3)
      bif ((decide (((if v331 > v330 then v331 else v330)) < 1152921504606846976))) then (
        rc x0 x1 ((IntKind.wrap .i64 (x2 * 2))) ((IntKind.wrap .i64 (x3 * 2))) x4 x5)
      else (
        ex0 x0 x1 x2 x3 x4 x5))
    else (
      none))
  else (
    none)
def L_turn_pair_scaled_1 (F : Nat) (ex0 : Int → Int → Int → Int → Int → Int → R) : Nat → Int → Int → Int → Int → Int → Int → R
  | 0, _, _, _, _, _, _ => none
  | n + 1, x0, x1, x2, x3, x4, x5 => B_turn_pair_scaled_1 F (L_turn_pair_scaled_1 F ex0 n) ex0 x0 x1 x2 x3 x4 x5
def W_turn_pair_scaled (F : Nat) : List LW := [⟨0, T_turn_pair_scaled_0, fun k q => L_turn_pair_scaled_0 F (fun (z0 : Int) (z1 : Int) (z2 : Int) (z3 : Int) (z4 : Int) (z5 : Int) => k (.exit 0) (fS T_turn_pair_scaled_0_0 [.i z0, .i z1, .i z2, .i z3, .i z4, .i z5])) F (atI (nth q 0)) (atI (nth q 1)) (atI (nth q 2)) (atI (nth q 3)) (atI (nth q 4)) (atI (nth q 5))⟩, ⟨2, T_turn_pair_scaled_1, fun k q => L_turn_pair_scaled_1 F (fun (z0 : Int) (z1 : Int) (z2 : Int) (z3 : Int) (z4 : Int) (z5 : Int) => k (.exit 2) (fS T_turn_pair_scaled_1_0 [.i z0, .i z1, .i z2, .i z3, .i z4, .i z5])) F (atI (nth q 0)) (atI (nth q 1)) (atI (nth q 2)) (atI (nth q 3)) (atI (nth q 4)) (atI (nth q 5))⟩]
def I_turn_pair_scaled (F : Nat) : Nat → VS → (Exit → VS → R) → R := tabI c_turn_pair_scaled (W_turn_pair_scaled F)
def WJ_turn_pair_scaled (F : Nat) : List LJ := []
def J_turn_pair_scaled (F : Nat) : Nat → Nat → VS → (Exit → VS → R) → R := tabJ (WJ_turn_pair_scaled F)
theorem lL_turn_pair_scaled_0 (F : Nat) (k : Exit → VS → R) : ∀ (n : Nat) (x0 : Int) (x1 : Int) (x2 : Int) (x3 : Int) (x4 : Int) (x5 : Int), iterC (codeL PP (S_turn_pair_scaled F) c_turn_pair_scaled (I_turn_pair_scaled F) (J_turn_pair_scaled F) (loopAt PP 83 0) 0) (headOf c_turn_pair_scaled 0) k n (fS T_turn_pair_scaled_0 [.i x0, .i x1, .i x2, .i x3, .i x4, .i x5]) = L_turn_pair_scaled_0 F (fun (z0 : Int) (z1 : Int) (z2 : Int) (z3 : Int) (z4 : Int) (z5 : Int) => k (.exit 0) (fS T_turn_pair_scaled_0_0 [.i z0, .i z1, .i z2, .i z3, .i z4, .i z5])) n x0 x1 x2 x3 x4 x5
  | 0, _, _, _, _, _, _ => rfl
  | n + 1, x0, x1, x2, x3, x4, x5 => by
    have h0 : ∀ (ok_turn_size : Nat → Int → Bool) (o_turn_size_0 : Nat → Int → Int) (L_turn_pair_scaled_0 : Nat → (Int → Int → Int → Int → Int → Int → R) → Nat → Int → Int → Int → Int → Int → Int → R) (L_turn_pair_scaled_1 : Nat → (Int → Int → Int → Int → Int → Int → R) → Nat → Int → Int → Int → Int → Int → Int → R), iterC (codeL PP (words [(114, spec ti_turn_size to_turn_size (fun q => (ok_turn_size F (atI (nth q 0)))) (fun q => [.i (o_turn_size_0 F (atI (nth q 0)))]))]) c_turn_pair_scaled (tabI c_turn_pair_scaled [⟨0, T_turn_pair_scaled_0, fun k q => L_turn_pair_scaled_0 F (fun (z0 : Int) (z1 : Int) (z2 : Int) (z3 : Int) (z4 : Int) (z5 : Int) => k (.exit 0) (fS T_turn_pair_scaled_0_0 [.i z0, .i z1, .i z2, .i z3, .i z4, .i z5])) F (atI (nth q 0)) (atI (nth q 1)) (atI (nth q 2)) (atI (nth q 3)) (atI (nth q 4)) (atI (nth q 5))⟩, ⟨2, T_turn_pair_scaled_1, fun k q => L_turn_pair_scaled_1 F (fun (z0 : Int) (z1 : Int) (z2 : Int) (z3 : Int) (z4 : Int) (z5 : Int) => k (.exit 2) (fS T_turn_pair_scaled_1_0 [.i z0, .i z1, .i z2, .i z3, .i z4, .i z5])) F (atI (nth q 0)) (atI (nth q 1)) (atI (nth q 2)) (atI (nth q 3)) (atI (nth q 4)) (atI (nth q 5))⟩]) (tabJ []) (loopAt PP 83 0) 0) (headOf c_turn_pair_scaled 0) k (n + 1) (fS T_turn_pair_scaled_0 [.i x0, .i x1, .i x2, .i x3, .i x4, .i x5]) = (fun (rc : Int → Int → Int → Int → Int → Int → R) (ex0 : Int → Int → Int → Int → Int → Int → R) (x0 : Int) (x1 : Int) (x2 : Int) (x3 : Int) (x4 : Int) (x5 : Int) => (
  bif (ok_turn_size F x2) then (
    let v312 : Int := (o_turn_size_0 F x2)
    bif (ok_turn_size F x3) then (
      let v313 : Int := (o_turn_size_0 F x3)
      bif ((decide (((if v313 > v312 then v313 else v312)) ≥ 2305843009213693952))) then (
        rc x0 x1 ((Int.fdiv x2 (2))) ((Int.fdiv x3 (2))) x4 x5)
      else (
        ex0 x0 x1 x2 x3 x4 x5))
    else (
      none))
  else (
    none) : R)) (fun (y0 : Int) (y1 : Int) (y2 : Int) (y3 : Int) (y4 : Int) (y5 : Int) => iterC (codeL PP (words [(114, spec ti_turn_size to_turn_size (fun q => (ok_turn_size F (atI (nth q 0)))) (fun q => [.i (o_turn_size_0 F (atI (nth q 0)))]))]) c_turn_pair_scaled (tabI c_turn_pair_scaled [⟨0, T_turn_pair_scaled_0, fun k q => L_turn_pair_scaled_0 F (fun (z0 : Int) (z1 : Int) (z2 : Int) (z3 : Int) (z4 : Int) (z5 : Int) => k (.exit 0) (fS T_turn_pair_scaled_0_0 [.i z0, .i z1, .i z2, .i z3, .i z4, .i z5])) F (atI (nth q 0)) (atI (nth q 1)) (atI (nth q 2)) (atI (nth q 3)) (atI (nth q 4)) (atI (nth q 5))⟩, ⟨2, T_turn_pair_scaled_1, fun k q => L_turn_pair_scaled_1 F (fun (z0 : Int) (z1 : Int) (z2 : Int) (z3 : Int) (z4 : Int) (z5 : Int) => k (.exit 2) (fS T_turn_pair_scaled_1_0 [.i z0, .i z1, .i z2, .i z3, .i z4, .i z5])) F (atI (nth q 0)) (atI (nth q 1)) (atI (nth q 2)) (atI (nth q 3)) (atI (nth q 4)) (atI (nth q 5))⟩]) (tabJ []) (loopAt PP 83 0) 0) (headOf c_turn_pair_scaled 0) k n (fS T_turn_pair_scaled_0 [.i y0, .i y1, .i y2, .i y3, .i y4, .i y5])) (fun (z0 : Int) (z1 : Int) (z2 : Int) (z3 : Int) (z4 : Int) (z5 : Int) => k (.exit 0) (fS T_turn_pair_scaled_0_0 [.i z0, .i z1, .i z2, .i z3, .i z4, .i z5])) x0 x1 x2 x3 x4 x5 := by
      intros
      kernel_rfl
    have h : iterC (codeL PP (S_turn_pair_scaled F) c_turn_pair_scaled (I_turn_pair_scaled F) (J_turn_pair_scaled F) (loopAt PP 83 0) 0) (headOf c_turn_pair_scaled 0) k (n + 1) (fS T_turn_pair_scaled_0 [.i x0, .i x1, .i x2, .i x3, .i x4, .i x5]) = B_turn_pair_scaled_0 F (fun (y0 : Int) (y1 : Int) (y2 : Int) (y3 : Int) (y4 : Int) (y5 : Int) => iterC (codeL PP (S_turn_pair_scaled F) c_turn_pair_scaled (I_turn_pair_scaled F) (J_turn_pair_scaled F) (loopAt PP 83 0) 0) (headOf c_turn_pair_scaled 0) k n (fS T_turn_pair_scaled_0 [.i y0, .i y1, .i y2, .i y3, .i y4, .i y5])) (fun (z0 : Int) (z1 : Int) (z2 : Int) (z3 : Int) (z4 : Int) (z5 : Int) => k (.exit 0) (fS T_turn_pair_scaled_0_0 [.i z0, .i z1, .i z2, .i z3, .i z4, .i z5])) x0 x1 x2 x3 x4 x5 := (h0 ok_turn_size o_turn_size_0 L_turn_pair_scaled_0 L_turn_pair_scaled_1).trans (by kernel_rfl)
    rw [h]
    simp only [lL_turn_pair_scaled_0 F k n]
    rfl
theorem lL_turn_pair_scaled_1 (F : Nat) (k : Exit → VS → R) : ∀ (n : Nat) (x0 : Int) (x1 : Int) (x2 : Int) (x3 : Int) (x4 : Int) (x5 : Int), iterC (codeL PP (S_turn_pair_scaled F) c_turn_pair_scaled (I_turn_pair_scaled F) (J_turn_pair_scaled F) (loopAt PP 83 1) 2) (headOf c_turn_pair_scaled 2) k n (fS T_turn_pair_scaled_1 [.i x0, .i x1, .i x2, .i x3, .i x4, .i x5]) = L_turn_pair_scaled_1 F (fun (z0 : Int) (z1 : Int) (z2 : Int) (z3 : Int) (z4 : Int) (z5 : Int) => k (.exit 2) (fS T_turn_pair_scaled_1_0 [.i z0, .i z1, .i z2, .i z3, .i z4, .i z5])) n x0 x1 x2 x3 x4 x5
  | 0, _, _, _, _, _, _ => rfl
  | n + 1, x0, x1, x2, x3, x4, x5 => by
    have h0 : ∀ (ok_turn_size : Nat → Int → Bool) (o_turn_size_0 : Nat → Int → Int) (L_turn_pair_scaled_0 : Nat → (Int → Int → Int → Int → Int → Int → R) → Nat → Int → Int → Int → Int → Int → Int → R) (L_turn_pair_scaled_1 : Nat → (Int → Int → Int → Int → Int → Int → R) → Nat → Int → Int → Int → Int → Int → Int → R), iterC (codeL PP (words [(114, spec ti_turn_size to_turn_size (fun q => (ok_turn_size F (atI (nth q 0)))) (fun q => [.i (o_turn_size_0 F (atI (nth q 0)))]))]) c_turn_pair_scaled (tabI c_turn_pair_scaled [⟨0, T_turn_pair_scaled_0, fun k q => L_turn_pair_scaled_0 F (fun (z0 : Int) (z1 : Int) (z2 : Int) (z3 : Int) (z4 : Int) (z5 : Int) => k (.exit 0) (fS T_turn_pair_scaled_0_0 [.i z0, .i z1, .i z2, .i z3, .i z4, .i z5])) F (atI (nth q 0)) (atI (nth q 1)) (atI (nth q 2)) (atI (nth q 3)) (atI (nth q 4)) (atI (nth q 5))⟩, ⟨2, T_turn_pair_scaled_1, fun k q => L_turn_pair_scaled_1 F (fun (z0 : Int) (z1 : Int) (z2 : Int) (z3 : Int) (z4 : Int) (z5 : Int) => k (.exit 2) (fS T_turn_pair_scaled_1_0 [.i z0, .i z1, .i z2, .i z3, .i z4, .i z5])) F (atI (nth q 0)) (atI (nth q 1)) (atI (nth q 2)) (atI (nth q 3)) (atI (nth q 4)) (atI (nth q 5))⟩]) (tabJ []) (loopAt PP 83 1) 2) (headOf c_turn_pair_scaled 2) k (n + 1) (fS T_turn_pair_scaled_1 [.i x0, .i x1, .i x2, .i x3, .i x4, .i x5]) = (fun (rc : Int → Int → Int → Int → Int → Int → R) (ex0 : Int → Int → Int → Int → Int → Int → R) (x0 : Int) (x1 : Int) (x2 : Int) (x3 : Int) (x4 : Int) (x5 : Int) => (
  bif (ok_turn_size F x2) then (
    let v330 : Int := (o_turn_size_0 F x2)
    bif (ok_turn_size F x3) then (
      let v331 : Int := (o_turn_size_0 F x3)
      bif ((decide (((if v331 > v330 then v331 else v330)) < 1152921504606846976))) then (
        rc x0 x1 ((IntKind.wrap .i64 (x2 * 2))) ((IntKind.wrap .i64 (x3 * 2))) x4 x5)
      else (
        ex0 x0 x1 x2 x3 x4 x5))
    else (
      none))
  else (
    none) : R)) (fun (y0 : Int) (y1 : Int) (y2 : Int) (y3 : Int) (y4 : Int) (y5 : Int) => iterC (codeL PP (words [(114, spec ti_turn_size to_turn_size (fun q => (ok_turn_size F (atI (nth q 0)))) (fun q => [.i (o_turn_size_0 F (atI (nth q 0)))]))]) c_turn_pair_scaled (tabI c_turn_pair_scaled [⟨0, T_turn_pair_scaled_0, fun k q => L_turn_pair_scaled_0 F (fun (z0 : Int) (z1 : Int) (z2 : Int) (z3 : Int) (z4 : Int) (z5 : Int) => k (.exit 0) (fS T_turn_pair_scaled_0_0 [.i z0, .i z1, .i z2, .i z3, .i z4, .i z5])) F (atI (nth q 0)) (atI (nth q 1)) (atI (nth q 2)) (atI (nth q 3)) (atI (nth q 4)) (atI (nth q 5))⟩, ⟨2, T_turn_pair_scaled_1, fun k q => L_turn_pair_scaled_1 F (fun (z0 : Int) (z1 : Int) (z2 : Int) (z3 : Int) (z4 : Int) (z5 : Int) => k (.exit 2) (fS T_turn_pair_scaled_1_0 [.i z0, .i z1, .i z2, .i z3, .i z4, .i z5])) F (atI (nth q 0)) (atI (nth q 1)) (atI (nth q 2)) (atI (nth q 3)) (atI (nth q 4)) (atI (nth q 5))⟩]) (tabJ []) (loopAt PP 83 1) 2) (headOf c_turn_pair_scaled 2) k n (fS T_turn_pair_scaled_1 [.i y0, .i y1, .i y2, .i y3, .i y4, .i y5])) (fun (z0 : Int) (z1 : Int) (z2 : Int) (z3 : Int) (z4 : Int) (z5 : Int) => k (.exit 2) (fS T_turn_pair_scaled_1_0 [.i z0, .i z1, .i z2, .i z3, .i z4, .i z5])) x0 x1 x2 x3 x4 x5 := by
      intros
      kernel_rfl
    have h : iterC (codeL PP (S_turn_pair_scaled F) c_turn_pair_scaled (I_turn_pair_scaled F) (J_turn_pair_scaled F) (loopAt PP 83 1) 2) (headOf c_turn_pair_scaled 2) k (n + 1) (fS T_turn_pair_scaled_1 [.i x0, .i x1, .i x2, .i x3, .i x4, .i x5]) = B_turn_pair_scaled_1 F (fun (y0 : Int) (y1 : Int) (y2 : Int) (y3 : Int) (y4 : Int) (y5 : Int) => iterC (codeL PP (S_turn_pair_scaled F) c_turn_pair_scaled (I_turn_pair_scaled F) (J_turn_pair_scaled F) (loopAt PP 83 1) 2) (headOf c_turn_pair_scaled 2) k n (fS T_turn_pair_scaled_1 [.i y0, .i y1, .i y2, .i y3, .i y4, .i y5])) (fun (z0 : Int) (z1 : Int) (z2 : Int) (z3 : Int) (z4 : Int) (z5 : Int) => k (.exit 2) (fS T_turn_pair_scaled_1_0 [.i z0, .i z1, .i z2, .i z3, .i z4, .i z5])) x0 x1 x2 x3 x4 x5 := (h0 ok_turn_size o_turn_size_0 L_turn_pair_scaled_0 L_turn_pair_scaled_1).trans (by kernel_rfl)
    rw [h]
    simp only [lL_turn_pair_scaled_1 F k n]
    rfl
def f_turn_pair_scaled (F : Nat) (a0 : Int) (a1 : Int) : R :=
  L_turn_pair_scaled_0 F (fun (v318 : Int) (v319 : Int) (v320 : Int) (v321 : Int) (v322 : Int) (v323 : Int) =>
    L_turn_pair_scaled_1 F (fun (v336 : Int) (v337 : Int) (v338 : Int) (v339 : Int) (v340 : Int) (v341 : Int) =>
      some (.v (.agg #[.int .i64 v338, .int .i64 v339]))) F v318 v319 v320 v321 v322 v323) F a0 a1 a0 a1 0 0
theorem e_turn_pair_scaled (F : Nat) (a0 : Int) (a1 : Int) : funL PP (S_turn_pair_scaled F) c_turn_pair_scaled (I_turn_pair_scaled F) (J_turn_pair_scaled F) 83 (fTs ti_turn_pair_scaled [.i a0, .i a1]).1 = f_turn_pair_scaled F a0 a1 := by
  have h : ∀ (ok_turn_size : Nat → Int → Bool) (o_turn_size_0 : Nat → Int → Int) (L_turn_pair_scaled_0 : Nat → (Int → Int → Int → Int → Int → Int → R) → Nat → Int → Int → Int → Int → Int → Int → R) (L_turn_pair_scaled_1 : Nat → (Int → Int → Int → Int → Int → Int → R) → Nat → Int → Int → Int → Int → Int → Int → R), funL PP (words [(114, spec ti_turn_size to_turn_size (fun q => (ok_turn_size F (atI (nth q 0)))) (fun q => [.i (o_turn_size_0 F (atI (nth q 0)))]))]) c_turn_pair_scaled (tabI c_turn_pair_scaled [⟨0, T_turn_pair_scaled_0, fun k q => L_turn_pair_scaled_0 F (fun (z0 : Int) (z1 : Int) (z2 : Int) (z3 : Int) (z4 : Int) (z5 : Int) => k (.exit 0) (fS T_turn_pair_scaled_0_0 [.i z0, .i z1, .i z2, .i z3, .i z4, .i z5])) F (atI (nth q 0)) (atI (nth q 1)) (atI (nth q 2)) (atI (nth q 3)) (atI (nth q 4)) (atI (nth q 5))⟩, ⟨2, T_turn_pair_scaled_1, fun k q => L_turn_pair_scaled_1 F (fun (z0 : Int) (z1 : Int) (z2 : Int) (z3 : Int) (z4 : Int) (z5 : Int) => k (.exit 2) (fS T_turn_pair_scaled_1_0 [.i z0, .i z1, .i z2, .i z3, .i z4, .i z5])) F (atI (nth q 0)) (atI (nth q 1)) (atI (nth q 2)) (atI (nth q 3)) (atI (nth q 4)) (atI (nth q 5))⟩]) (tabJ []) 83 (fTs ti_turn_pair_scaled [.i a0, .i a1]).1 = (
  L_turn_pair_scaled_0 F (fun (v318 : Int) (v319 : Int) (v320 : Int) (v321 : Int) (v322 : Int) (v323 : Int) =>
    L_turn_pair_scaled_1 F (fun (v336 : Int) (v337 : Int) (v338 : Int) (v339 : Int) (v340 : Int) (v341 : Int) =>
      some (.v (.agg #[.int .i64 v338, .int .i64 v339]))) F v318 v319 v320 v321 v322 v323) F a0 a1 a0 a1 0 0 : R) := by
    intros
    kernel_rfl
  exact (h ok_turn_size o_turn_size_0 L_turn_pair_scaled_0 L_turn_pair_scaled_1).trans (by kernel_rfl)
def ok_turn_pair_scaled (F : Nat) (a0 : Int) (a1 : Int) : Bool := okT to_turn_pair_scaled (f_turn_pair_scaled F a0 a1)
def o_turn_pair_scaled_0 (F : Nat) (a0 : Int) (a1 : Int) : Int := atI (nth (outT to_turn_pair_scaled (f_turn_pair_scaled F a0 a1)) 0)
def o_turn_pair_scaled_1 (F : Nat) (a0 : Int) (a1 : Int) : Int := atI (nth (outT to_turn_pair_scaled (f_turn_pair_scaled F a0 a1)) 1)
theorem k_turn_pair_scaled (F : Nat) (a0 : Int) (a1 : Int) {z0 : Int} {z1 : Int} (h : f_turn_pair_scaled F a0 a1 = some (.v (.agg #[.int .i64 z0, .int .i64 z1]))) : ok_turn_pair_scaled F a0 a1 = true ∧ o_turn_pair_scaled_0 F a0 a1 = z0 ∧ o_turn_pair_scaled_1 F a0 a1 = z1 := by
  refine ⟨?_, ?_, ?_⟩
  · unfold ok_turn_pair_scaled; rw [h]; kernel_rfl
  · unfold o_turn_pair_scaled_0; rw [h]; kernel_rfl
  · unfold o_turn_pair_scaled_1; rw [h]; kernel_rfl
def s_turn_pair_scaled (F : Nat) : List VV → Option (Bool × VV) := spec ti_turn_pair_scaled to_turn_pair_scaled (fun q => (ok_turn_pair_scaled F (atI (nth q 0)) (atI (nth q 1)))) (fun q => [.i (o_turn_pair_scaled_0 F (atI (nth q 0)) (atI (nth q 1))), .i (o_turn_pair_scaled_1 F (atI (nth q 0)) (atI (nth q 1)))])
theorem hS_turn_pair_scaled (F : Nat) : ∀ f, Good PP f (unS (S_turn_pair_scaled F f)) := words_good fun p hp => by
  simp only [List.mem_cons, List.not_mem_nil, or_false] at hp
  rcases hp with rfl
  · exact g_turn_size F
theorem hl_turn_pair_scaled (F : Nat) : ∀ p ∈ loopsIn PP 83, LoopOK PP (S_turn_pair_scaled F) c_turn_pair_scaled F (I_turn_pair_scaled F) (J_turn_pair_scaled F) p :=
  loops_of [(0, loopAt PP 83 0), (2, loopAt PP 83 1)] (by kernel_rfl) (all_cons
    (loop_ok (W_turn_pair_scaled F) rfl (tab_cons (fun _ k q => Le.ofEq ((lL_turn_pair_scaled_0 F k F (atI (nth q 0)) (atI (nth q 1)) (atI (nth q 2)) (atI (nth q 3)) (atI (nth q 4)) (atI (nth q 5))).symm.trans (congrArg (iterC (codeL PP (S_turn_pair_scaled F) c_turn_pair_scaled (I_turn_pair_scaled F) (J_turn_pair_scaled F) (loopAt PP 83 0) 0) (headOf c_turn_pair_scaled 0) k F) (show fS T_turn_pair_scaled_0 [.i (atI (nth q 0)), .i (atI (nth q 1)), .i (atI (nth q 2)), .i (atI (nth q 3)), .i (atI (nth q 4)), .i (atI (nth q 5))] = fS T_turn_pair_scaled_0 q by kernel_rfl)))) (tab_cons (fun h => absurd h (by decide)) tab_nil))) (all_cons
    (loop_ok (W_turn_pair_scaled F) rfl (tab_cons (fun h => absurd h (by decide)) (tab_cons (fun _ k q => Le.ofEq ((lL_turn_pair_scaled_1 F k F (atI (nth q 0)) (atI (nth q 1)) (atI (nth q 2)) (atI (nth q 3)) (atI (nth q 4)) (atI (nth q 5))).symm.trans (congrArg (iterC (codeL PP (S_turn_pair_scaled F) c_turn_pair_scaled (I_turn_pair_scaled F) (J_turn_pair_scaled F) (loopAt PP 83 1) 2) (headOf c_turn_pair_scaled 2) k F) (show fS T_turn_pair_scaled_1 [.i (atI (nth q 0)), .i (atI (nth q 1)), .i (atI (nth q 2)), .i (atI (nth q 3)), .i (atI (nth q 4)), .i (atI (nth q 5))] = fS T_turn_pair_scaled_1 q by kernel_rfl)))) tab_nil))) all_nil))
theorem hj_turn_pair_scaled (F : Nat) : ∀ p ∈ joinsIn PP c_turn_pair_scaled 83, JoinOK PP (S_turn_pair_scaled F) c_turn_pair_scaled (I_turn_pair_scaled F) (J_turn_pair_scaled F) p :=
  joins_of [] (by kernel_rfl) all_nil
theorem g_turn_pair_scaled (F : Nat) : Good PP 83 (unS (s_turn_pair_scaled F)) :=
  fun_spec (hS_turn_pair_scaled F) (by kernel_rfl) (by kernel_rfl) (C := c_turn_pair_scaled) (F := fun q => (f_turn_pair_scaled F (atI (nth q 0)) (atI (nth q 1)))) (fun _ => F) (fun _ => I_turn_pair_scaled F) (fun _ => J_turn_pair_scaled F) (fun _ => hl_turn_pair_scaled F) (fun _ => hj_turn_pair_scaled F)
    (fun q => (congrArg (funL PP (S_turn_pair_scaled F) c_turn_pair_scaled (I_turn_pair_scaled F) (J_turn_pair_scaled F) 83) (show (fTs ti_turn_pair_scaled q).1 = (fTs ti_turn_pair_scaled [.i (atI (nth q 0)), .i (atI (nth q 1))]).1 by kernel_rfl)).trans (e_turn_pair_scaled F (atI (nth q 0)) (atI (nth q 1))))
    (fun _ h => (okT_fill h).trans (congrArg some (by kernel_rfl)))

end Go.Xv
set_option linter.unusedVariables false
namespace Go.Xv
/- 28 _turn_Angle -/
def c_turn_Angle : Cfg := ⟨[0, 1, 4, 5, 6, 7, 8, 9, 15, 20, 26, 27, 28, 38], [(0, [0, 1, 4, 5, 6, 10, 11, 12, 13, 14, 15, 16, 17, 18, 19, 20, 21, 22, 23, 24, 25, 26, 27, 46])], [], []⟩
def ti_turn_Angle : List TV := [.v (.int .i64), .v (.int .i64)]
def to_turn_Angle : TV := .v (.int .u32)
def S_turn_Angle (F : Nat) : FuncId → List VV → Option (Bool × VV) := words [(82, s_turn_opposite F), (83, s_turn_pair_scaled F), (76, s_turn_angles F), (77, s_turn_pair_turned F)]
def T_turn_Angle_0 : TS := ⟨[(0, .v (.int .i64)), (1, .v (.int .i64)), (4, .v (.int .u32)), (5, .lp 0 (.lit 0)), (6, .v (.int .u32)), (26, .v (.agg [.int .i64, .int .i64, .int .i64, .int .i64, .int .i64, .int .i64, .int .i64, .int .i64, .int .i64, .int .i64, .int .i64, .int .i64, .int .i64, .int .i64, .int .i64, .int .i64, .int .i64, .int .i64, .int .i64, .int .i64, .int .i64, .int .i64, .int .i64, .int .i64, .int .i64, .int .i64, .int .i64, .int .i64, .int .i64, .int .i64])), (27, .v (.int .i64))], [(0, ⟨(.ex [.v (.int .i64), .v (.int .i64)]), true⟩)], 1⟩
def T_turn_Angle_0_0 : TS := ⟨[(0, .v (.int .i64)), (1, .v (.int .i64)), (4, .v (.int .u32)), (5, .lp 0 (.lit 0)), (6, .v (.int .u32)), (26, .v (.agg [.int .i64, .int .i64, .int .i64, .int .i64, .int .i64, .int .i64, .int .i64, .int .i64, .int .i64, .int .i64, .int .i64, .int .i64, .int .i64, .int .i64, .int .i64, .int .i64, .int .i64, .int .i64, .int .i64, .int .i64, .int .i64, .int .i64, .int .i64, .int .i64, .int .i64, .int .i64, .int .i64, .int .i64, .int .i64, .int .i64])), (27, .v (.int .i64))], [(0, ⟨(.ex [.v (.int .i64), .v (.int .i64)]), true⟩)], 1⟩
def B_turn_Angle_0 (F : Nat) (rc : Int → Int → Int → Int → Int → Int → Int → Int → Int → Int → Int → Int → Int → Int → Int → Int → Int → Int → Int → Int → Int → Int → Int → Int → Int → Int → Int → Int → Int → Int → Int → Int → Int → Int → Int → Int → Int → R) (ex0 : Int → Int → Int → Int → Int → Int → Int → Int → Int → Int → Int → Int → Int → Int → Int → Int → Int → Int → Int → Int → Int → Int → Int → Int → Int → Int → Int → Int → Int → Int → Int → Int → Int → Int → Int → Int → Int → R) (x0 : Int) (x1 : Int) (x2 : Int) (x3 : Int) (x4 : Int) (x5 : Int) (x6 : Int) (x7 : Int) (x8 : Int) (x9 : Int) (x10 : Int) (x11 : Int) (x12 : Int) (x13 : Int) (x14 : Int) (x15 : Int) (x16 : Int) (x17 : Int) (x18 : Int) (x19 : Int) (x20 : Int) (x21 : Int) (x22 : Int) (x23 : Int) (x24 : Int) (x25 : Int) (x26 : Int) (x27 : Int) (x28 : Int) (x29 : Int) (x30 : Int) (x31 : Int) (x32 : Int) (x33 : Int) (x34 : Int) (x35 : Int) (x36 : Int) : R :=
  bif ((decide (x34 < 30))) then (
    bif (((decide (0 ≤ x34)) && (decide (x34 < 30))) && ((isI .i64 [.v (.int .i64 x4), .v (.int .i64 x5), .v (.int .i64 x6), .v (.int .i64 x7), .v (.int .i64 x8), .v (.int .i64 x9), .v (.int .i64 x10), .v (.int .i64 x11), .v (.int .i64 x12), .v (.int .i64 x13), .v (.int .i64 x14), .v (.int .i64 x15), .v (.int .i64 x16), .v (.int .i64 x17), .v (.int .i64 x18), .v (.int .i64 x19), .v (.int .i64 x20), .v (.int .i64 x21), .v (.int .i64 x22), .v (.int .i64 x23), .v (.int .i64 x24), .v (.int .i64 x25), .v (.int .i64 x26), .v (.int .i64 x27), .v (.int .i64 x28), .v (.int .i64 x29), .v (.int .i64 x30), .v (.int .i64 x31), .v (.int .i64 x32), .v (.int .i64 x33)][((Int.toNat x34) * 1)]?) && true)) then (
      let v412 : Int := (iv [.v (.int .i64 x4), .v (.int .i64 x5), .v (.int .i64 x6), .v (.int .i64 x7), .v (.int .i64 x8), .v (.int .i64 x9), .v (.int .i64 x10), .v (.int .i64 x11), .v (.int .i64 x12), .v (.int .i64 x13), .v (.int .i64 x14), .v (.int .i64 x15), .v (.int .i64 x16), .v (.int .i64 x17), .v (.int .i64 x18), .v (.int .i64 x19), .v (.int .i64 x20), .v (.int .i64 x21), .v (.int .i64 x22), .v (.int .i64 x23), .v (.int .i64 x24), .v (.int .i64 x25), .v (.int .i64 x26), .v (.int .i64 x27), .v (.int .i64 x28), .v (.int .i64 x29), .v (.int .i64 x30), .v (.int .i64 x31), .v (.int .i64 x32), .v (.int .i64 x33)][((Int.toNat x34) * 1)]?)
      let v413 : Bool := (decide (x36 < 0))
      bif (ok_turn_pair_turned F x35 x36 x34 v413) then (
        let v414 : Int := (o_turn_pair_turned_0 F x35 x36 x34 v413)
        let v415 : Int := (o_turn_pair_turned_1 F x35 x36 x34 v413)
        bif v413 then (
          rc x0 x1 x2 ((IntKind.wrap .u32 (x3 + ((IntKind.wrap .u32 ((IntKind.wrap .i64 (0 - v412)))))))) x4 x5 x6 x7 x8 x9 x10 x11 x12 x13 x14 x15 x16 x17 x18 x19 x20 x21 x22 x23 x24 x25 x26 x27 x28 x29 x30 x31 x32 x33 ((IntKind.wrap .i64 (x34 + 1))) v414 v415)
        else (
          rc x0 x1 x2 ((IntKind.wrap .u32 (x3 + ((IntKind.wrap .u32 v412))))) x4 x5 x6 x7 x8 x9 x10 x11 x12 x13 x14 x15 x16 x17 x18 x19 x20 x21 x22 x23 x24 x25 x26 x27 x28 x29 x30 x31 x32 x33 ((IntKind.wrap .i64 (x34 + 1))) v414 v415))
      else (
        none))
    else (
      none))
  else (
    ex0 x0 x1 x2 x3 x4 x5 x6 x7 x8 x9 x10 x11 x12 x13 x14 x15 x16 x17 x18 x19 x20 x21 x22 x23 x24 x25 x26 x27 x28 x29 x30 x31 x32 x33 x34 x35 x36)
def L_turn_Angle_0 (F : Nat) (ex0 : Int → Int → Int → Int → Int → Int → Int → Int → Int → Int → Int → Int → Int → Int → Int → Int → Int → Int → Int → Int → Int → Int → Int → Int → Int → Int → Int → Int → Int → Int → Int → Int → Int → Int → Int → Int → Int → R) : Nat → Int → Int → Int → Int → Int → Int → Int → Int → Int → Int → Int → Int → Int → Int → Int → Int → Int → Int → Int → Int → Int → Int → Int → Int → Int → Int → Int → Int → Int → Int → Int → Int → Int → Int → Int → Int → Int → R
  | 0, _, _, _, _, _, _, _, _, _, _, _, _, _, _, _, _, _, _, _, _, _, _, _, _, _, _, _, _, _, _, _, _, _, _, _, _, _ => none
  | n + 1, x0, x1, x2, x3, x4, x5, x6, x7, x8, x9, x10, x11, x12, x13, x14, x15, x16, x17, x18, x19, x20, x21, x22, x23, x24, x25, x26, x27, x28, x29, x30, x31, x32, x33, x34, x35, x36 => B_turn_Angle_0 F (L_turn_Angle_0 F ex0 n) ex0 x0 x1 x2 x3 x4 x5 x6 x7 x8 x9 x10 x11 x12 x13 x14 x15 x16 x17 x18 x19 x20 x21 x22 x23 x24 x25 x26 x27 x28 x29 x30 x31 x32 x33 x34 x35 x36
def W_turn_Angle (F : Nat) : List LW := [⟨0, T_turn_Angle_0, fun k q => L_turn_Angle_0 F (fun (z0 : Int) (z1 : Int) (z2 : Int) (z3 : Int) (z4 : Int) (z5 : Int) (z6 : Int) (z7 : Int) (z8 : Int) (z9 : Int) (z10 : Int) (z11 : Int) (z12 : Int) (z13 : Int) (z14 : Int) (z15 : Int) (z16 : Int) (z17 : Int) (z18 : Int) (z19 : Int) (z20 : Int) (z21 : Int) (z22 : Int) (z23 : Int) (z24 : Int) (z25 : Int) (z26 : Int) (z27 : Int) (z28 : Int) (z29 : Int) (z30 : Int) (z31 : Int) (z32 : Int) (z33 : Int) (z34 : Int) (z35 : Int) (z36 : Int) => k (.exit 0) (fS T_turn_Angle_0_0 [.i z0, .i z1, .i z2, .i z3, .i z4, .i z5, .i z6, .i z7, .i z8, .i z9, .i z10, .i z11, .i z12, .i z13, .i z14, .i z15, .i z16, .i z17, .i z18, .i z19, .i z20, .i z21, .i z22, .i z23, .i z24, .i z25, .i z26, .i z27, .i z28, .i z29, .i z30, .i z31, .i z32, .i z33, .i z34, .i z35, .i z36])) F (atI (nth q 0)) (atI (nth q 1)) (atI (nth q 2)) (atI (nth q 3)) (atI (nth q 4)) (atI (nth q 5)) (atI (nth q 6)) (atI (nth q 7)) (atI (nth q 8)) (atI (nth q 9)) (atI (nth q 10)) (atI (nth q 11)) (atI (nth q 12)) (atI (nth q 13)) (atI (nth q 14)) (atI (nth q 15)) (atI (nth q 16)) (atI (nth q 17)) (atI (nth q 18)) (atI (nth q 19)) (atI (nth q 20)) (atI (nth q 21)) (atI (nth q 22)) (atI (nth q 23)) (atI (nth q 24)) (atI (nth q 25)) (atI (nth q 26)) (atI (nth q 27)) (atI (nth q 28)) (atI (nth q 29)) (atI (nth q 30)) (atI (nth q 31)) (atI (nth q 32)) (atI (nth q 33)) (atI (nth q 34)) (atI (nth q 35)) (atI (nth q 36))⟩]
def I_turn_Angle (F : Nat) : Nat → VS → (Exit → VS → R) → R := tabI c_turn_Angle (W_turn_Angle F)
def WJ_turn_Angle (F : Nat) : List LJ := []
def J_turn_Angle (F : Nat) : Nat → Nat → VS → (Exit → VS → R) → R := tabJ (WJ_turn_Angle F)
theorem lL_turn_Angle_0 (F : Nat) (k : Exit → VS → R) : ∀ (n : Nat) (x0 : Int) (x1 : Int) (x2 : Int) (x3 : Int) (x4 : Int) (x5 : Int) (x6 : Int) (x7 : Int) (x8 : Int) (x9 : Int) (x10 : Int) (x11 : Int) (x12 : Int) (x13 : Int) (x14 : Int) (x15 : Int) (x16 : Int) (x17 : Int) (x18 : Int) (x19 : Int) (x20 : Int) (x21 : Int) (x22 : Int) (x23 : Int) (x24 : Int) (x25 : Int) (x26 : Int) (x27 : Int) (x28 : Int) (x29 : Int) (x30 : Int) (x31 : Int) (x32 : Int) (x33 : Int) (x34 : Int) (x35 : Int) (x36 : Int), iterC (codeL PP (S_turn_Angle F) c_turn_Angle (I_turn_Angle F) (J_turn_Angle F) (loopAt PP 28 0) 0) (headOf c_turn_Angle 0) k n (fS T_turn_Angle_0 [.i x0, .i x1, .i x2, .i x3, .i x4, .i x5, .i x6, .i x7, .i x8, .i x9, .i x10, .i x11, .i x12, .i x13, .i x14, .i x15, .i x16, .i x17, .i x18, .i x19, .i x20, .i x21, .i x22, .i x23, .i x24, .i x25, .i x26, .i x27, .i x28, .i x29, .i x30, .i x31, .i x32, .i x33, .i x34, .i x35, .i x36]) = L_turn_Angle_0 F (fun (z0 : Int) (z1 : Int) (z2 : Int) (z3 : Int) (z4 : Int) (z5 : Int) (z6 : Int) (z7 : Int) (z8 : Int) (z9 : Int) (z10 : Int) (z11 : Int) (z12 : Int) (z13 : Int) (z14 : Int) (z15 : Int) (z16 : Int) (z17 : Int) (z18 : Int) (z19 : Int) (z20 : Int) (z21 : Int) (z22 : Int) (z23 : Int) (z24 : Int) (z25 : Int) (z26 : Int) (z27 : Int) (z28 : Int) (z29 : Int) (z30 : Int) (z31 : Int) (z32 : Int) (z33 : Int) (z34 : Int) (z35 : Int) (z36 : Int) => k (.exit 0) (fS T_turn_Angle_0_0 [.i z0, .i z1, .i z2, .i z3, .i z4, .i z5, .i z6, .i z7, .i z8, .i z9, .i z10, .i z11, .i z12, .i z13, .i z14, .i z15, .i z16, .i z17, .i z18, .i z19, .i z20, .i z21, .i z22, .i z23, .i z24, .i z25, .i z26, .i z27, .i z28, .i z29, .i z30, .i z31, .i z32, .i z33, .i z34, .i z35, .i z36])) n x0 x1 x2 x3 x4 x5 x6 x7 x8 x9 x10 x11 x12 x13 x14 x15 x16 x17 x18 x19 x20 x21 x22 x23 x24 x25 x26 x27 x28 x29 x30 x31 x32 x33 x34 x35 x36
  | 0, _, _, _, _, _, _, _, _, _, _, _, _, _, _, _, _, _, _, _, _, _, _, _, _, _, _, _, _, _, _, _, _, _, _, _, _, _ => rfl
  | n + 1, x0, x1, x2, x3, x4, x5, x6, x7, x8, x9, x10, x11, x12, x13, x14, x15, x16, x17, x18, x19, x20, x21, x22, x23, x24, x25, x26, x27, x28, x29, x30, x31, x32, x33, x34, x35, x36 => by
    have h0 : ∀ (ok_turn_opposite : Nat → Int → Int → Bool) (o_turn_opposite_0 : Nat → Int → Int → Int) (o_turn_opposite_1 : Nat → Int → Int → Int) (ok_turn_pair_scaled : Nat → Int → Int → Bool) (o_turn_pair_scaled_0 : Nat → Int → Int → Int) (o_turn_pair_scaled_1 : Nat → Int → Int → Int) (ok_turn_angles : Nat → Bool) (o_turn_angles_0 : Nat → Int) (o_turn_angles_1 : Nat → Int) (o_turn_angles_2 : Nat → Int) (o_turn_angles_3 : Nat → Int) (o_turn_angles_4 : Nat → Int) (o_turn_angles_5 : Nat → Int) (o_turn_angles_6 : Nat → Int) (o_turn_angles_7 : Nat → Int) (o_turn_angles_8 : Nat → Int) (o_turn_angles_9 : Nat → Int) (o_turn_angles_10 : Nat → Int) (o_turn_angles_11 : Nat → Int) (o_turn_angles_12 : Nat → Int) (o_turn_angles_13 : Nat → Int) (o_turn_angles_14 : Nat → Int) (o_turn_angles_15 : Nat → Int) (o_turn_angles_16 : Nat → Int) (o_turn_angles_17 : Nat → Int) (o_turn_angles_18 : Nat → Int) (o_turn_angles_19 : Nat → Int) (o_turn_angles_20 : Nat → Int) (o_turn_angles_21 : Nat → Int) (o_turn_angles_22 : Nat → Int) (o_turn_angles_23 : Nat → Int) (o_turn_angles_24 : Nat → Int) (o_turn_angles_25 : Nat → Int) (o_turn_angles_26 : Nat → Int) (o_turn_angles_27 : Nat → Int) (o_turn_angles_28 : Nat → Int) (o_turn_angles_29 : Nat → Int) (ok_turn_pair_turned : Nat → Int → Int → Int → Bool → Bool) (o_turn_pair_turned_0 : Nat → Int → Int → Int → Bool → Int) (o_turn_pair_turned_1 : Nat → Int → Int → Int → Bool → Int) (L_turn_Angle_0 : Nat → (Int → Int → Int → Int → Int → Int → Int → Int → Int → Int → Int → Int → Int → Int → Int → Int → Int → Int → Int → Int → Int → Int → Int → Int → Int → Int → Int → Int → Int → Int → Int → Int → Int → Int → Int → Int → Int → R) → Nat → Int → Int → Int → Int → Int → Int → Int → Int → Int → Int → Int → Int → Int → Int → Int → Int → Int → Int → Int → Int → Int → Int → Int → Int → Int → Int → Int → Int → Int → Int → Int → Int → Int → Int → Int → Int → Int → R), iterC (codeL PP (words [(82, spec ti_turn_opposite to_turn_opposite (fun q => (ok_turn_opposite F (atI (nth q 0)) (atI (nth q 1)))) (fun q => [.i (o_turn_opposite_0 F (atI (nth q 0)) (atI (nth q 1))), .i (o_turn_opposite_1 F (atI (nth q 0)) (atI (nth q 1)))])), (83, spec ti_turn_pair_scaled to_turn_pair_scaled (fun q => (ok_turn_pair_scaled F (atI (nth q 0)) (atI (nth q 1)))) (fun q => [.i (o_turn_pair_scaled_0 F (atI (nth q 0)) (atI (nth q 1))), .i (o_turn_pair_scaled_1 F (atI (nth q 0)) (atI (nth q 1)))])), (76, spec ti_turn_angles to_turn_angles (fun q => (ok_turn_angles F )) (fun q => [.i (o_turn_angles_0 F ), .i (o_turn_angles_1 F ), .i (o_turn_angles_2 F ), .i (o_turn_angles_3 F ), .i (o_turn_angles_4 F ), .i (o_turn_angles_5 F ), .i (o_turn_angles_6 F ), .i (o_turn_angles_7 F ), .i (o_turn_angles_8 F ), .i (o_turn_angles_9 F ), .i (o_turn_angles_10 F ), .i (o_turn_angles_11 F ), .i (o_turn_angles_12 F ), .i (o_turn_angles_13 F ), .i (o_turn_angles_14 F ), .i (o_turn_angles_15 F ), .i (o_turn_angles_16 F ), .i (o_turn_angles_17 F ), .i (o_turn_angles_18 F ), .i (o_turn_angles_19 F ), .i (o_turn_angles_20 F ), .i (o_turn_angles_21 F ), .i (o_turn_angles_22 F ), .i (o_turn_angles_23 F ), .i (o_turn_angles_24 F ), .i (o_turn_angles_25 F ), .i (o_turn_angles_26 F ), .i (o_turn_angles_27 F ), .i (o_turn_angles_28 F ), .i (o_turn_angles_29 F )])), (77, spec ti_turn_pair_turned to_turn_pair_turned (fun q => (ok_turn_pair_turned F (atI (nth q 0)) (atI (nth q 1)) (atI (nth q 2)) (atB (nth q 3)))) (fun q => [.i (o_turn_pair_turned_0 F (atI (nth q 0)) (atI (nth q 1)) (atI (nth q 2)) (atB (nth q 3))), .i (o_turn_pair_turned_1 F (atI (nth q 0)) (atI (nth q 1)) (atI (nth q 2)) (atB (nth q 3)))]))]) c_turn_Angle (tabI c_turn_Angle [⟨0, T_turn_Angle_0, fun k q => L_turn_Angle_0 F (fun (z0 : Int) (z1 : Int) (z2 : Int) (z3 : Int) (z4 : Int) (z5 : Int) (z6 : Int) (z7 : Int) (z8 : Int) (z9 : Int) (z10 : Int) (z11 : Int) (z12 : Int) (z13 : Int) (z14 : Int) (z15 : Int) (z16 : Int) (z17 : Int) (z18 : Int) (z19 : Int) (z20 : Int) (z21 : Int) (z22 : Int) (z23 : Int) (z24 : Int) (z25 : Int) (z26 : Int) (z27 : Int) (z28 : Int) (z29 : Int) (z30 : Int) (z31 : Int) (z32 : Int) (z33 : Int) (z34 : Int) (z35 : Int) (z36 : Int) => k (.exit 0) (fS T_turn_Angle_0_0 [.i z0, .i z1, .i z2, .i z3, .i z4, .i z5, .i z6, .i z7, .i z8, .i z9, .i z10, .i z11, .i z12, .i z13, .i z14, .i z15, .i z16, .i z17, .i z18, .i z19, .i z20, .i z21, .i z22, .i z23, .i z24, .i z25, .i z26, .i z27, .i z28, .i z29, .i z30, .i z31, .i z32, .i z33, .i z34, .i z35, .i z36])) F (atI (nth q 0)) (atI (nth q 1)) (atI (nth q 2)) (atI (nth q 3)) (atI (nth q 4)) (atI (nth q 5)) (atI (nth q 6)) (atI (nth q 7)) (atI (nth q 8)) (atI (nth q 9)) (atI (nth q 10)) (atI (nth q 11)) (atI (nth q 12)) (atI (nth q 13)) (atI (nth q 14)) (atI (nth q 15)) (atI (nth q 16)) (atI (nth q 17)) (atI (nth q 18)) (atI (nth q 19)) (atI (nth q 20)) (atI (nth q 21)) (atI (nth q 22)) (atI (nth q 23)) (atI (nth q 24)) (atI (nth q 25)) (atI (nth q 26)) (atI (nth q 27)) (atI (nth q 28)) (atI (nth q 29)) (atI (nth q 30)) (atI (nth q 31)) (atI (nth q 32)) (atI (nth q 33)) (atI (nth q 34)) (atI (nth q 35)) (atI (nth q 36))⟩]) (tabJ []) (loopAt PP 28 0) 0) (headOf c_turn_Angle 0) k (n + 1) (fS T_turn_Angle_0 [.i x0, .i x1, .i x2, .i x3, .i x4, .i x5, .i x6, .i x7, .i x8, .i x9, .i x10, .i x11, .i x12, .i x13, .i x14, .i x15, .i x16, .i x17, .i x18, .i x19, .i x20, .i x21, .i x22, .i x23, .i x24, .i x25, .i x26, .i x27, .i x28, .i x29, .i x30, .i x31, .i x32, .i x33, .i x34, .i x35, .i x36]) = (fun (rc : Int → Int → Int → Int → Int → Int → Int → Int → Int → Int → Int → Int → Int → Int → Int → Int → Int → Int → Int → Int → Int → Int → Int → Int → Int → Int → Int → Int → Int → Int → Int → Int → Int → Int → Int → Int → Int → R) (ex0 : Int → Int → Int → Int → Int → Int → Int → Int → Int → Int → Int → Int → Int → Int → Int → Int → Int → Int → Int → Int → Int → Int → Int → Int → Int → Int → Int → Int → Int → Int → Int → Int → Int → Int → Int → Int → Int → R) (x0 : Int) (x1 : Int) (x2 : Int) (x3 : Int) (x4 : Int) (x5 : Int) (x6 : Int) (x7 : Int) (x8 : Int) (x9 : Int) (x10 : Int) (x11 : Int) (x12 : Int) (x13 : Int) (x14 : Int) (x15 : Int) (x16 : Int) (x17 : Int) (x18 : Int) (x19 : Int) (x20 : Int) (x21 : Int) (x22 : Int) (x23 : Int) (x24 : Int) (x25 : Int) (x26 : Int) (x27 : Int) (x28 : Int) (x29 : Int) (x30 : Int) (x31 : Int) (x32 : Int) (x33 : Int) (x34 : Int) (x35 : Int) (x36 : Int) => (
  bif ((decide (x34 < 30))) then (
    bif (((decide (0 ≤ x34)) && (decide (x34 < 30))) && ((isI .i64 [.v (.int .i64 x4), .v (.int .i64 x5), .v (.int .i64 x6), .v (.int .i64 x7), .v (.int .i64 x8), .v (.int .i64 x9), .v (.int .i64 x10), .v (.int .i64 x11), .v (.int .i64 x12), .v (.int .i64 x13), .v (.int .i64 x14), .v (.int .i64 x15), .v (.int .i64 x16), .v (.int .i64 x17), .v (.int .i64 x18), .v (.int .i64 x19), .v (.int .i64 x20), .v (.int .i64 x21), .v (.int .i64 x22), .v (.int .i64 x23), .v (.int .i64 x24), .v (.int .i64 x25), .v (.int .i64 x26), .v (.int .i64 x27), .v (.int .i64 x28), .v (.int .i64 x29), .v (.int .i64 x30), .v (.int .i64 x31), .v (.int .i64 x32), .v (.int .i64 x33)][((Int.toNat x34) * 1)]?) && true)) then (
      let v412 : Int := (iv [.v (.int .i64 x4), .v (.int .i64 x5), .v (.int .i64 x6), .v (.int .i64 x7), .v (.int .i64 x8), .v (.int .i64 x9), .v (.int .i64 x10), .v (.int .i64 x11), .v (.int .i64 x12), .v (.int .i64 x13), .v (.int .i64 x14), .v (.int .i64 x15), .v (.int .i64 x16), .v (.int .i64 x17), .v (.int .i64 x18), .v (.int .i64 x19), .v (.int .i64 x20), .v (.int .i64 x21), .v (.int .i64 x22), .v (.int .i64 x23), .v (.int .i64 x24), .v (.int .i64 x25), .v (.int .i64 x26), .v (.int .i64 x27), .v (.int .i64 x28), .v (.int .i64 x29), .v (.int .i64 x30), .v (.int .i64 x31), .v (.int .i64 x32), .v (.int .i64 x33)][((Int.toNat x34) * 1)]?)
      let v413 : Bool := (decide (x36 < 0))
      bif (ok_turn_pair_turned F x35 x36 x34 v413) then (
        let v414 : Int := (o_turn_pair_turned_0 F x35 x36 x34 v413)
        let v415 : Int := (o_turn_pair_turned_1 F x35 x36 x34 v413)
        bif v413 then (
          rc x0 x1 x2 ((IntKind.wrap .u32 (x3 + ((IntKind.wrap .u32 ((IntKind.wrap .i64 (0 - v412)))))))) x4 x5 x6 x7 x8 x9 x10 x11 x12 x13 x14 x15 x16 x17 x18 x19 x20 x21 x22 x23 x24 x25 x26 x27 x28 x29 x30 x31 x32 x33 ((IntKind.wrap .i64 (x34 + 1))) v414 v415)
        else (
          rc x0 x1 x2 ((IntKind.wrap .u32 (x3 + ((IntKind.wrap .u32 v412))))) x4 x5 x6 x7 x8 x9 x10 x11 x12 x13 x14 x15 x16 x17 x18 x19 x20 x21 x22 x23 x24 x25 x26 x27 x28 x29 x30 x31 x32 x33 ((IntKind.wrap .i64 (x34 + 1))) v414 v415))
      else (
        none))
    else (
      none))
  else (
    ex0 x0 x1 x2 x3 x4 x5 x6 x7 x8 x9 x10 x11 x12 x13 x14 x15 x16 x17 x18 x19 x20 x21 x22 x23 x24 x25 x26 x27 x28 x29 x30 x31 x32 x33 x34 x35 x36) : R)) (fun (y0 : Int) (y1 : Int) (y2 : Int) (y3 : Int) (y4 : Int) (y5 : Int) (y6 : Int) (y7 : Int) (y8 : Int) (y9 : Int) (y10 : Int) (y11 : Int) (y12 : Int) (y13 : Int) (y14 : Int) (y15 : Int) (y16 : Int) (y17 : Int) (y18 : Int) (y19 : Int) (y20 : Int) (y21 : Int) (y22 : Int) (y23 : Int) (y24 : Int) (y25 : Int) (y26 : Int) (y27 : Int) (y28 : Int) (y29 : Int) (y30 : Int) (y31 : Int) (y32 : Int) (y33 : Int) (y34 : Int) (y35 : Int) (y36 : Int) => iterC (codeL PP (words [(82, spec ti_turn_opposite to_turn_opposite (fun q => (ok_turn_opposite F (atI (nth q 0)) (atI (nth q 1)))) (fun q => [.i (o_turn_opposite_0 F (atI (nth q 0)) (atI (nth q 1))), .i (o_turn_opposite_1 F (atI (nth q 0)) (atI (nth q 1)))])), (83, spec ti_turn_pair_scaled to_turn_pair_scaled (fun q => (ok_turn_pair_scaled F (atI (nth q 0)) (atI (nth q 1)))) (fun q => [.i (o_turn_pair_scaled_0 F (atI (nth q 0)) (atI (nth q 1))), .i (o_turn_pair_scaled_1 F (atI (nth q 0)) (atI (nth q 1)))])), (76, spec ti_turn_angles to_turn_angles (fun q => (ok_turn_angles F )) (fun q => [.i (o_turn_angles_0 F ), .i (o_turn_angles_1 F ), .i (o_turn_angles_2 F ), .i (o_turn_angles_3 F ), .i (o_turn_angles_4 F ), .i (o_turn_angles_5 F ), .i (o_turn_angles_6 F ), .i (o_turn_angles_7 F ), .i (o_turn_angles_8 F ), .i (o_turn_angles_9 F ), .i (o_turn_angles_10 F ), .i (o_turn_angles_11 F ), .i (o_turn_angles_12 F ), .i (o_turn_angles_13 F ), .i (o_turn_angles_14 F ), .i (o_turn_angles_15 F ), .i (o_turn_angles_16 F ), .i (o_turn_angles_17 F ), .i (o_turn_angles_18 F ), .i (o_turn_angles_19 F ), .i (o_turn_angles_20 F ), .i (o_turn_angles_21 F ), .i (o_turn_angles_22 F ), .i (o_turn_angles_23 F ), .i (o_turn_angles_24 F ), .i (o_turn_angles_25 F ), .i (o_turn_angles_26 F ), .i (o_turn_angles_27 F ), .i (o_turn_angles_28 F ), .i (o_turn_angles_29 F )])), (77, spec ti_turn_pair_turned to_turn_pair_turned (fun q => (ok_turn_pair_turned F (atI (nth q 0)) (atI (nth q 1)) (atI (nth q 2)) (atB (nth q 3)))) (fun q => [.i (o_turn_pair_turned_0 F (atI (nth q 0)) (atI (nth q 1)) (atI (nth q 2)) (atB (nth q 3))), .i (o_turn_pair_turned_1 F (atI (nth q 0)) (atI (nth q 1)) (atI (nth q 2)) (atB (nth q 3)))]))]) c_turn_Angle (tabI c_turn_Angle [⟨0, T_turn_Angle_0, fun k q => L_turn_Angle_0 F (fun (z0 : Int) (z1 : Int) (z2 : Int) (z3 : Int) (z4 : Int) (z5 : Int) (z6 : Int) (z7 : Int) (z8 : Int) (z9 : Int) (z10 : Int) (z11 : Int) (z12 : Int) (z13 : Int) (z14 : Int) (z15 : Int) (z16 : Int) (z17 : Int) (z18 : Int) (z19 : Int) (z20 : Int) (z21 : Int) (z22 : Int) (z23 : Int) (z24 : Int) (z25 : Int) (z26 : Int) (z27 : Int) (z28 : Int) (z29 : Int) (z30 : Int) (z31 : Int) (z32 : Int) (z33 : Int) (z34 : Int) (z35 : Int) (z36 : Int) => k (.exit 0) (fS T_turn_Angle_0_0 [.i z0, .i z1, .i z2, .i z3, .i z4, .i z5, .i z6, .i z7, .i z8, .i z9, .i z10, .i z11, .i z12, .i z13, .i z14, .i z15, .i z16, .i z17, .i z18, .i z19, .i z20, .i z21, .i z22, .i z23, .i z24, .i z25, .i z26, .i z27, .i z28, .i z29, .i z30, .i z31, .i z32, .i z33, .i z34, .i z35, .i z36])) F (atI (nth q 0)) (atI (nth q 1)) (atI (nth q 2)) (atI (nth q 3)) (atI (nth q 4)) (atI (nth q 5)) (atI (nth q 6)) (atI (nth q 7)) (atI (nth q 8)) (atI (nth q 9)) (atI (nth q 10)) (atI (nth q 11)) (atI (nth q 12)) (atI (nth q 13)) (atI (nth q 14)) (atI (nth q 15)) (atI (nth q 16)) (atI (nth q 17)) (atI (nth q 18)) (atI (nth q 19)) (atI (nth q 20)) (atI (nth q 21)) (atI (nth q 22)) (atI (nth q 23)) (atI (nth q 24)) (atI (nth q 25)) (atI (nth q 26)) (atI (nth q 27)) (atI (nth q 28)) (atI (nth q 29)) (atI (nth q 30)) (atI (nth q 31)) (atI (nth q 32)) (atI (nth q 33)) (atI (nth q 34)) (atI (nth q 35)) (atI (nth q 36))⟩]) (tabJ []) (loopAt PP 28 0) 0) (headOf c_turn_Angle 0) k n (fS T_turn_Angle_0 [.i y0, .i y1, .i y2, .i y3, .i y4, .i y5, .i y6, .i y7, .i y8, .i y9, .i y10, .i y11, .i y12, .i y13, .i y14, .i y15, .i y16, .i y17, .i y18, .i y19, .i y20, .i y21, .i y22, .i y23, .i y24, .i y25, .i y26, .i y27, .i y28, .i y29, .i y30, .i y31, .i y32, .i y33, .i y34, .i y35, .i y36])) (fun (z0 : Int) (z1 : Int) (z2 : Int) (z3 : Int) (z4 : Int) (z5 : Int) (z6 : Int) (z7 : Int) (z8 : Int) (z9 : Int) (z10 : Int) (z11 : Int) (z12 : Int) (z13 : Int) (z14 : Int) (z15 : Int) (z16 : Int) (z17 : Int) (z18 : Int) (z19 : Int) (z20 : Int) (z21 : Int) (z22 : Int) (z23 : Int) (z24 : Int) (z25 : Int) (z26 : Int) (z27 : Int) (z28 : Int) (z29 : Int) (z30 : Int) (z31 : Int) (z32 : Int) (z33 : Int) (z34 : Int) (z35 : Int) (z36 : Int) => k (.exit 0) (fS T_turn_Angle_0_0 [.i z0, .i z1, .i z2, .i z3, .i z4, .i z5, .i z6, .i z7, .i z8, .i z9, .i z10, .i z11, .i z12, .i z13, .i z14, .i z15, .i z16, .i z17, .i z18, .i z19, .i z20, .i z21, .i z22, .i z23, .i z24, .i z25, .i z26, .i z27, .i z28, .i z29, .i z30, .i z31, .i z32, .i z33, .i z34, .i z35, .i z36])) x0 x1 x2 x3 x4 x5 x6 x7 x8 x9 x10 x11 x12 x13 x14 x15 x16 x17 x18 x19 x20 x21 x22 x23 x24 x25 x26 x27 x28 x29 x30 x31 x32 x33 x34 x35 x36 := by
      intros
      kernel_rfl
    have h : iterC (codeL PP (S_turn_Angle F) c_turn_Angle (I_turn_Angle F) (J_turn_Angle F) (loopAt PP 28 0) 0) (headOf c_turn_Angle 0) k (n + 1) (fS T_turn_Angle_0 [.i x0, .i x1, .i x2, .i x3, .i x4, .i x5, .i x6, .i x7, .i x8, .i x9, .i x10, .i x11, .i x12, .i x13, .i x14, .i x15, .i x16, .i x17, .i x18, .i x19, .i x20, .i x21, .i x22, .i x23, .i x24, .i x25, .i x26, .i x27, .i x28, .i x29, .i x30, .i x31, .i x32, .i x33, .i x34, .i x35, .i x36]) = B_turn_Angle_0 F (fun (y0 : Int) (y1 : Int) (y2 : Int) (y3 : Int) (y4 : Int) (y5 : Int) (y6 : Int) (y7 : Int) (y8 : Int) (y9 : Int) (y10 : Int) (y11 : Int) (y12 : Int) (y13 : Int) (y14 : Int) (y15 : Int) (y16 : Int) (y17 : Int) (y18 : Int) (y19 : Int) (y20 : Int) (y21 : Int) (y22 : Int) (y23 : Int) (y24 : Int) (y25 : Int) (y26 : Int) (y27 : Int) (y28 : Int) (y29 : Int) (y30 : Int) (y31 : Int) (y32 : Int) (y33 : Int) (y34 : Int) (y35 : Int) (y36 : Int) => iterC (codeL PP (S_turn_Angle F) c_turn_Angle (I_turn_Angle F) (J_turn_Angle F) (loopAt PP 28 0) 0) (headOf c_turn_Angle 0) k n (fS T_turn_Angle_0 [.i y0, .i y1, .i y2, .i y3, .i y4, .i y5, .i y6, .i y7, .i y8, .i y9, .i y10, .i y11, .i y12, .i y13, .i y14, .i y15, .i y16, .i y17, .i y18, .i y19, .i y20, .i y21, .i y22, .i y23, .i y24, .i y25, .i y26, .i y27, .i y28, .i y29, .i y30, .i y31, .i y32, .i y33, .i y34, .i y35, .i y36])) (fun (z0 : Int) (z1 : Int) (z2 : Int) (z3 : Int) (z4 : Int) (z5 : Int) (z6 : Int) (z7 : Int) (z8 : Int) (z9 : Int) (z10 : Int) (z11 : Int) (z12 : Int) (z13 : Int) (z14 : Int) (z15 : Int) (z16 : Int) (z17 : Int) (z18 : Int) (z19 : Int) (z20 : Int) (z21 : Int) (z22 : Int) (z23 : Int) (z24 : Int) (z25 : Int) (z26 : Int) (z27 : Int) (z28 : Int) (z29 : Int) (z30 : Int) (z31 : Int) (z32 : Int) (z33 : Int) (z34 : Int) (z35 : Int) (z36 : Int) => k (.exit 0) (fS T_turn_Angle_0_0 [.i z0, .i z1, .i z2, .i z3, .i z4, .i z5, .i z6, .i z7, .i z8, .i z9, .i z10, .i z11, .i z12, .i z13, .i z14, .i z15, .i z16, .i z17, .i z18, .i z19, .i z20, .i z21, .i z22, .i z23, .i z24, .i z25, .i z26, .i z27, .i z28, .i z29, .i z30, .i z31, .i z32, .i z33, .i z34, .i z35, .i z36])) x0 x1 x2 x3 x4 x5 x6 x7 x8 x9 x10 x11 x12 x13 x14 x15 x16 x17 x18 x19 x20 x21 x22 x23 x24 x25 x26 x27 x28 x29 x30 x31 x32 x33 x34 x35 x36 := (h0 ok_turn_opposite o_turn_opposite_0 o_turn_opposite_1 ok_turn_pair_scaled o_turn_pair_scaled_0 o_turn_pair_scaled_1 ok_turn_angles o_turn_angles_0 o_turn_angles_1 o_turn_angles_2 o_turn_angles_3 o_turn_angles_4 o_turn_angles_5 o_turn_angles_6 o_turn_angles_7 o_turn_angles_8 o_turn_angles_9 o_turn_angles_10 o_turn_angles_11 o_turn_angles_12 o_turn_angles_13 o_turn_angles_14 o_turn_angles_15 o_turn_angles_16 o_turn_angles_17 o_turn_angles_18 o_turn_angles_19 o_turn_angles_20 o_turn_angles_21 o_turn_angles_22 o_turn_angles_23 o_turn_angles_24 o_turn_angles_25 o_turn_angles_26 o_turn_angles_27 o_turn_angles_28 o_turn_angles_29 ok_turn_pair_turned o_turn_pair_turned_0 o_turn_pair_turned_1 L_turn_Angle_0).trans (by kernel_rfl)
    rw [h]
    simp only [lL_turn_Angle_0 F k n]
    rfl
def f_turn_Angle (F : Nat) (a0 : Int) (a1 : Int) : R :=
  bif ((a1 == 0)) then (
    bif ((a0 == 0)) then (
      some (.v (.int .u32 0)))
    else (
      bif ((decide (a1 < 0))) then (
        bif (ok_turn_opposite F a1 a0) then (
          let v300 : Int := (o_turn_opposite_0 F a1 a0)
          let v301 : Int := (o_turn_opposite_1 F a1 a0)
          bif (ok_turn_pair_scaled F v300 v301) then (
            bif (ok_turn_angles F) then (
              L_turn_Angle_0 F (fun (v423 : Int) (v424 : Int) (v425 : Int) (v426 : Int) (v427 : Int) (v428 : Int) (v429 : Int) (v430 : Int) (v431 : Int) (v432 : Int) (v433 : Int) (v434 : Int) (v435 : Int) (v436 : Int) (v437 : Int) (v438 : Int) (v439 : Int) (v440 : Int) (v441 : Int) (v442 : Int) (v443 : Int) (v444 : Int) (v445 : Int) (v446 : Int) (v447 : Int) (v448 : Int) (v449 : Int) (v450 : Int) (v451 : Int) (v452 : Int) (v453 : Int) (v454 : Int) (v455 : Int) (v456 : Int) (v457 : Int) (v458 : Int) (v459 : Int) =>
                some (.v (.int .u32 v426))) F a0 a1 0 2147483648 ((o_turn_angles_0 F)) ((o_turn_angles_1 F)) ((o_turn_angles_2 F)) ((o_turn_angles_3 F)) ((o_turn_angles_4 F)) ((o_turn_angles_5 F)) ((o_turn_angles_6 F)) ((o_turn_angles_7 F)) ((o_turn_angles_8 F)) ((o_turn_angles_9 F)) ((o_turn_angles_10 F)) ((o_turn_angles_11 F)) ((o_turn_angles_12 F)) ((o_turn_angles_13 F)) ((o_turn_angles_14 F)) ((o_turn_angles_15 F)) ((o_turn_angles_16 F)) ((o_turn_angles_17 F)) ((o_turn_angles_18 F)) ((o_turn_angles_19 F)) ((o_turn_angles_20 F)) ((o_turn_angles_21 F)) ((o_turn_angles_22 F)) ((o_turn_angles_23 F)) ((o_turn_angles_24 F)) ((o_turn_angles_25 F)) ((o_turn_angles_26 F)) ((o_turn_angles_27 F)) ((o_turn_angles_28 F)) ((o_turn_angles_29 F)) 0 ((o_turn_pair_scaled_0 F v300 v301)) ((o_turn_pair_scaled_1 F v300 v301)))
            else (
              none))
          else (
            none))
        else (
          none))
      else (
        bif (ok_turn_pair_scaled F a1 a0) then (
          bif (ok_turn_angles F) then (
            L_turn_Angle_0 F (fun (v492 : Int) (v493 : Int) (v494 : Int) (v495 : Int) (v496 : Int) (v497 : Int) (v498 : Int) (v499 : Int) (v500 : Int) (v501 : Int) (v502 : Int) (v503 : Int) (v504 : Int) (v505 : Int) (v506 : Int) (v507 : Int) (v508 : Int) (v509 : Int) (v510 : Int) (v511 : Int) (v512 : Int) (v513 : Int) (v514 : Int) (v515 : Int) (v516 : Int) (v517 : Int) (v518 : Int) (v519 : Int) (v520 : Int) (v521 : Int) (v522 : Int) (v523 : Int) (v524 : Int) (v525 : Int) (v526 : Int) (v527 : Int) (v528 : Int) =>
              some (.v (.int .u32 v495))) F a0 a1 0 0 ((o_turn_angles_0 F)) ((o_turn_angles_1 F)) ((o_turn_angles_2 F)) ((o_turn_angles_3 F)) ((o_turn_angles_4 F)) ((o_turn_angles_5 F)) ((o_turn_angles_6 F)) ((o_turn_angles_7 F)) ((o_turn_angles_8 F)) ((o_turn_angles_9 F)) ((o_turn_angles_10 F)) ((o_turn_angles_11 F)) ((o_turn_angles_12 F)) ((o_turn_angles_13 F)) ((o_turn_angles_14 F)) ((o_turn_angles_15 F)) ((o_turn_angles_16 F)) ((o_turn_angles_17 F)) ((o_turn_angles_18 F)) ((o_turn_angles_19 F)) ((o_turn_angles_20 F)) ((o_turn_angles_21 F)) ((o_turn_angles_22 F)) ((o_turn_angles_23 F)) ((o_turn_angles_24 F)) ((o_turn_angles_25 F)) ((o_turn_angles_26 F)) ((o_turn_angles_27 F)) ((o_turn_angles_28 F)) ((o_turn_angles_29 F)) 0 ((o_turn_pair_scaled_0 F a1 a0)) ((o_turn_pair_scaled_1 F a1 a0)))
          else (
            none))
        else (
          none))))
  else (
    bif ((decide (a1 < 0))) then (
      bif (ok_turn_opposite F a1 a0) then (
        let v530 : Int := (o_turn_opposite_0 F a1 a0)
        let v531 : Int := (o_turn_opposite_1 F a1 a0)
        bif (ok_turn_pair_scaled F v530 v531) then (
          bif (ok_turn_angles F) then (
            L_turn_Angle_0 F (fun (v564 : Int) (v565 : Int) (v566 : Int) (v567 : Int) (v568 : Int) (v569 : Int) (v570 : Int) (v571 : Int) (v572 : Int) (v573 : Int) (v574 : Int) (v575 : Int) (v576 : Int) (v577 : Int) (v578 : Int) (v579 : Int) (v580 : Int) (v581 : Int) (v582 : Int) (v583 : Int) (v584 : Int) (v585 : Int) (v586 : Int) (v587 : Int) (v588 : Int) (v589 : Int) (v590 : Int) (v591 : Int) (v592 : Int) (v593 : Int) (v594 : Int) (v595 : Int) (v596 : Int) (v597 : Int) (v598 : Int) (v599 : Int) (v600 : Int) =>
              some (.v (.int .u32 v567))) F a0 a1 0 2147483648 ((o_turn_angles_0 F)) ((o_turn_angles_1 F)) ((o_turn_angles_2 F)) ((o_turn_angles_3 F)) ((o_turn_angles_4 F)) ((o_turn_angles_5 F)) ((o_turn_angles_6 F)) ((o_turn_angles_7 F)) ((o_turn_angles_8 F)) ((o_turn_angles_9 F)) ((o_turn_angles_10 F)) ((o_turn_angles_11 F)) ((o_turn_angles_12 F)) ((o_turn_angles_13 F)) ((o_turn_angles_14 F)) ((o_turn_angles_15 F)) ((o_turn_angles_16 F)) ((o_turn_angles_17 F)) ((o_turn_angles_18 F)) ((o_turn_angles_19 F)) ((o_turn_angles_20 F)) ((o_turn_angles_21 F)) ((o_turn_angles_22 F)) ((o_turn_angles_23 F)) ((o_turn_angles_24 F)) ((o_turn_angles_25 F)) ((o_turn_angles_26 F)) ((o_turn_angles_27 F)) ((o_turn_angles_28 F)) ((o_turn_angles_29 F)) 0 ((o_turn_pair_scaled_0 F v530 v531)) ((o_turn_pair_scaled_1 F v530 v531)))
          else (
            none))
        else (
          none))
      else (
        none))
    else (
      bif (ok_turn_pair_scaled F a1 a0) then (
        bif (ok_turn_angles F) then (
          L_turn_Angle_0 F (fun (v633 : Int) (v634 : Int) (v635 : Int) (v636 : Int) (v637 : Int) (v638 : Int) (v639 : Int) (v640 : Int) (v641 : Int) (v642 : Int) (v643 : Int) (v644 : Int) (v645 : Int) (v646 : Int) (v647 : Int) (v648 : Int) (v649 : Int) (v650 : Int) (v651 : Int) (v652 : Int) (v653 : Int) (v654 : Int) (v655 : Int) (v656 : Int) (v657 : Int) (v658 : Int) (v659 : Int) (v660 : Int) (v661 : Int) (v662 : Int) (v663 : Int) (v664 : Int) (v665 : Int) (v666 : Int) (v667 : Int) (v668 : Int) (v669 : Int) =>
            some (.v (.int .u32 v636))) F a0 a1 0 0 ((o_turn_angles_0 F)) ((o_turn_angles_1 F)) ((o_turn_angles_2 F)) ((o_turn_angles_3 F)) ((o_turn_angles_4 F)) ((o_turn_angles_5 F)) ((o_turn_angles_6 F)) ((o_turn_angles_7 F)) ((o_turn_angles_8 F)) ((o_turn_angles_9 F)) ((o_turn_angles_10 F)) ((o_turn_angles_11 F)) ((o_turn_angles_12 F)) ((o_turn_angles_13 F)) ((o_turn_angles_14 F)) ((o_turn_angles_15 F)) ((o_turn_angles_16 F)) ((o_turn_angles_17 F)) ((o_turn_angles_18 F)) ((o_turn_angles_19 F)) ((o_turn_angles_20 F)) ((o_turn_angles_21 F)) ((o_turn_angles_22 F)) ((o_turn_angles_23 F)) ((o_turn_angles_24 F)) ((o_turn_angles_25 F)) ((o_turn_angles_26 F)) ((o_turn_angles_27 F)) ((o_turn_angles_28 F)) ((o_turn_angles_29 F)) 0 ((o_turn_pair_scaled_0 F a1 a0)) ((o_turn_pair_scaled_1 F a1 a0)))
        else (
          none))
      else (
        none)))
theorem e_turn_Angle (F : Nat) (a0 : Int) (a1 : Int) : funL PP (S_turn_Angle F) c_turn_Angle (I_turn_Angle F) (J_turn_Angle F) 28 (fTs ti_turn_Angle [.i a0, .i a1]).1 = f_turn_Angle F a0 a1 := by
  have h : ∀ (ok_turn_opposite : Nat → Int → Int → Bool) (o_turn_opposite_0 : Nat → Int → Int → Int) (o_turn_opposite_1 : Nat → Int → Int → Int) (ok_turn_pair_scaled : Nat → Int → Int → Bool) (o_turn_pair_scaled_0 : Nat → Int → Int → Int) (o_turn_pair_scaled_1 : Nat → Int → Int → Int) (ok_turn_angles : Nat → Bool) (o_turn_angles_0 : Nat → Int) (o_turn_angles_1 : Nat → Int) (o_turn_angles_2 : Nat → Int) (o_turn_angles_3 : Nat → Int) (o_turn_angles_4 : Nat → Int) (o_turn_angles_5 : Nat → Int) (o_turn_angles_6 : Nat → Int) (o_turn_angles_7 : Nat → Int) (o_turn_angles_8 : Nat → Int) (o_turn_angles_9 : Nat → Int) (o_turn_angles_10 : Nat → Int) (o_turn_angles_11 : Nat → Int) (o_turn_angles_12 : Nat → Int) (o_turn_angles_13 : Nat → Int) (o_turn_angles_14 : Nat → Int) (o_turn_angles_15 : Nat → Int) (o_turn_angles_16 : Nat → Int) (o_turn_angles_17 : Nat → Int) (o_turn_angles_18 : Nat → Int) (o_turn_angles_19 : Nat → Int) (o_turn_angles_20 : Nat → Int) (o_turn_angles_21 : Nat → Int) (o_turn_angles_22 : Nat → Int) (o_turn_angles_23 : Nat → Int) (o_turn_angles_24 : Nat → Int) (o_turn_angles_25 : Nat → Int) (o_turn_angles_26 : Nat → Int) (o_turn_angles_27 : Nat → Int) (o_turn_angles_28 : Nat → Int) (o_turn_angles_29 : Nat → Int) (ok_turn_pair_turned : Nat → Int → Int → Int → Bool → Bool) (o_turn_pair_turned_0 : Nat → Int → Int → Int → Bool → Int) (o_turn_pair_turned_1 : Nat → Int → Int → Int → Bool → Int) (L_turn_Angle_0 : Nat → (Int → Int → Int → Int → Int → Int → Int → Int → Int → Int → Int → Int → Int → Int → Int → Int → Int → Int → Int → Int → Int → Int → Int → Int → Int → Int → Int → Int → Int → Int → Int → Int → Int → Int → Int → Int → Int → R) → Nat → Int → Int → Int → Int → Int → Int → Int → Int → Int → Int → Int → Int → Int → Int → Int → Int → Int → Int → Int → Int → Int → Int → Int → Int → Int → Int → Int → Int → Int → Int → Int → Int → Int → Int → Int → Int → Int → R), funL PP (words [(82, spec ti_turn_opposite to_turn_opposite (fun q => (ok_turn_opposite F (atI (nth q 0)) (atI (nth q 1)))) (fun q => [.i (o_turn_opposite_0 F (atI (nth q 0)) (atI (nth q 1))), .i (o_turn_opposite_1 F (atI (nth q 0)) (atI (nth q 1)))])), (83, spec ti_turn_pair_scaled to_turn_pair_scaled (fun q => (ok_turn_pair_scaled F (atI (nth q 0)) (atI (nth q 1)))) (fun q => [.i (o_turn_pair_scaled_0 F (atI (nth q 0)) (atI (nth q 1))), .i (o_turn_pair_scaled_1 F (atI (nth q 0)) (atI (nth q 1)))])), (76, spec ti_turn_angles to_turn_angles (fun q => (ok_turn_angles F )) (fun q => [.i (o_turn_angles_0 F ), .i (o_turn_angles_1 F ), .i (o_turn_angles_2 F ), .i (o_turn_angles_3 F ), .i (o_turn_angles_4 F ), .i (o_turn_angles_5 F ), .i (o_turn_angles_6 F ), .i (o_turn_angles_7 F ), .i (o_turn_angles_8 F ), .i (o_turn_angles_9 F ), .i (o_turn_angles_10 F ), .i (o_turn_angles_11 F ), .i (o_turn_angles_12 F ), .i (o_turn_angles_13 F ), .i (o_turn_angles_14 F ), .i (o_turn_angles_15 F ), .i (o_turn_angles_16 F ), .i (o_turn_angles_17 F ), .i (o_turn_angles_18 F ), .i (o_turn_angles_19 F ), .i (o_turn_angles_20 F ), .i (o_turn_angles_21 F ), .i (o_turn_angles_22 F ), .i (o_turn_angles_23 F ), .i (o_turn_angles_24 F ), .i (o_turn_angles_25 F ), .i (o_turn_angles_26 F ), .i (o_turn_angles_27 F ), .i (o_turn_angles_28 F ), .i (o_turn_angles_29 F )])), (77, spec ti_turn_pair_turned to_turn_pair_turned (fun q => (ok_turn_pair_turned F (atI (nth q 0)) (atI (nth q 1)) (atI (nth q 2)) (atB (nth q 3)))) (fun q => [.i (o_turn_pair_turned_0 F (atI (nth q 0)) (atI (nth q 1)) (atI (nth q 2)) (atB (nth q 3))), .i (o_turn_pair_turned_1 F (atI (nth q 0)) (atI (nth q 1)) (atI (nth q 2)) (atB (nth q 3)))]))]) c_turn_Angle (tabI c_turn_Angle [⟨0, T_turn_Angle_0, fun k q => L_turn_Angle_0 F (fun (z0 : Int) (z1 : Int) (z2 : Int) (z3 : Int) (z4 : Int) (z5 : Int) (z6 : Int) (z7 : Int) (z8 : Int) (z9 : Int) (z10 : Int) (z11 : Int) (z12 : Int) (z13 : Int) (z14 : Int) (z15 : Int) (z16 : Int) (z17 : Int) (z18 : Int) (z19 : Int) (z20 : Int) (z21 : Int) (z22 : Int) (z23 : Int) (z24 : Int) (z25 : Int) (z26 : Int) (z27 : Int) (z28 : Int) (z29 : Int) (z30 : Int) (z31 : Int) (z32 : Int) (z33 : Int) (z34 : Int) (z35 : Int) (z36 : Int) => k (.exit 0) (fS T_turn_Angle_0_0 [.i z0, .i z1, .i z2, .i z3, .i z4, .i z5, .i z6, .i z7, .i z8, .i z9, .i z10, .i z11, .i z12, .i z13, .i z14, .i z15, .i z16, .i z17, .i z18, .i z19, .i z20, .i z21, .i z22, .i z23, .i z24, .i z25, .i z26, .i z27, .i z28, .i z29, .i z30, .i z31, .i z32, .i z33, .i z34, .i z35, .i z36])) F (atI (nth q 0)) (atI (nth q 1)) (atI (nth q 2)) (atI (nth q 3)) (atI (nth q 4)) (atI (nth q 5)) (atI (nth q 6)) (atI (nth q 7)) (atI (nth q 8)) (atI (nth q 9)) (atI (nth q 10)) (atI (nth q 11)) (atI (nth q 12)) (atI (nth q 13)) (atI (nth q 14)) (atI (nth q 15)) (atI (nth q 16)) (atI (nth q 17)) (atI (nth q 18)) (atI (nth q 19)) (atI (nth q 20)) (atI (nth q 21)) (atI (nth q 22)) (atI (nth q 23)) (atI (nth q 24)) (atI (nth q 25)) (atI (nth q 26)) (atI (nth q 27)) (atI (nth q 28)) (atI (nth q 29)) (atI (nth q 30)) (atI (nth q 31)) (atI (nth q 32)) (atI (nth q 33)) (atI (nth q 34)) (atI (nth q 35)) (atI (nth q 36))⟩]) (tabJ []) 28 (fTs ti_turn_Angle [.i a0, .i a1]).1 = (
  bif ((a1 == 0)) then (
    bif ((a0 == 0)) then (
      some (.v (.int .u32 0)))
    else (
      bif ((decide (a1 < 0))) then (
        bif (ok_turn_opposite F a1 a0) then (
          let v300 : Int := (o_turn_opposite_0 F a1 a0)
          let v301 : Int := (o_turn_opposite_1 F a1 a0)
          bif (ok_turn_pair_scaled F v300 v301) then (
            bif (ok_turn_angles F) then (
              L_turn_Angle_0 F (fun (v423 : Int) (v424 : Int) (v425 : Int) (v426 : Int) (v427 : Int) (v428 : Int) (v429 : Int) (v430 : Int) (v431 : Int) (v432 : Int) (v433 : Int) (v434 : Int) (v435 : Int) (v436 : Int) (v437 : Int) (v438 : Int) (v439 : Int) (v440 : Int) (v441 : Int) (v442 : Int) (v443 : Int) (v444 : Int) (v445 : Int) (v446 : Int) (v447 : Int) (v448 : Int) (v449 : Int) (v450 : Int) (v451 : Int) (v452 : Int) (v453 : Int) (v454 : Int) (v455 : Int) (v456 : Int) (v457 : Int) (v458 : Int) (v459 : Int) =>
                some (.v (.int .u32 v426))) F a0 a1 0 2147483648 ((o_turn_angles_0 F)) ((o_turn_angles_1 F)) ((o_turn_angles_2 F)) ((o_turn_angles_3 F)) ((o_turn_angles_4 F)) ((o_turn_angles_5 F)) ((o_turn_angles_6 F)) ((o_turn_angles_7 F)) ((o_turn_angles_8 F)) ((o_turn_angles_9 F)) ((o_turn_angles_10 F)) ((o_turn_angles_11 F)) ((o_turn_angles_12 F)) ((o_turn_angles_13 F)) ((o_turn_angles_14 F)) ((o_turn_angles_15 F)) ((o_turn_angles_16 F)) ((o_turn_angles_17 F)) ((o_turn_angles_18 F)) ((o_turn_angles_19 F)) ((o_turn_angles_20 F)) ((o_turn_angles_21 F)) ((o_turn_angles_22 F)) ((o_turn_angles_23 F)) ((o_turn_angles_24 F)) ((o_turn_angles_25 F)) ((o_turn_angles_26 F)) ((o_turn_angles_27 F)) ((o_turn_angles_28 F)) ((o_turn_angles_29 F)) 0 ((o_turn_pair_scaled_0 F v300 v301)) ((o_turn_pair_scaled_1 F v300 v301)))
            else (
              none))
          else (
            none))
        else (
          none))
      else (
        bif (ok_turn_pair_scaled F a1 a0) then (
          bif (ok_turn_angles F) then (
            L_turn_Angle_0 F (fun (v492 : Int) (v493 : Int) (v494 : Int) (v495 : Int) (v496 : Int) (v497 : Int) (v498 : Int) (v499 : Int) (v500 : Int) (v501 : Int) (v502 : Int) (v503 : Int) (v504 : Int) (v505 : Int) (v506 : Int) (v507 : Int) (v508 : Int) (v509 : Int) (v510 : Int) (v511 : Int) (v512 : Int) (v513 : Int) (v514 : Int) (v515 : Int) (v516 : Int) (v517 : Int) (v518 : Int) (v519 : Int) (v520 : Int) (v521 : Int) (v522 : Int) (v523 : Int) (v524 : Int) (v525 : Int) (v526 : Int) (v527 : Int) (v528 : Int) =>
              some (.v (.int .u32 v495))) F a0 a1 0 0 ((o_turn_angles_0 F)) ((o_turn_angles_1 F)) ((o_turn_angles_2 F)) ((o_turn_angles_3 F)) ((o_turn_angles_4 F)) ((o_turn_angles_5 F)) ((o_turn_angles_6 F)) ((o_turn_angles_7 F)) ((o_turn_angles_8 F)) ((o_turn_angles_9 F)) ((o_turn_angles_10 F)) ((o_turn_angles_11 F)) ((o_turn_angles_12 F)) ((o_turn_angles_13 F)) ((o_turn_angles_14 F)) ((o_turn_angles_15 F)) ((o_turn_angles_16 F)) ((o_turn_angles_17 F)) ((o_turn_angles_18 F)) ((o_turn_angles_19 F)) ((o_turn_angles_20 F)) ((o_turn_angles_21 F)) ((o_turn_angles_22 F)) ((o_turn_angles_23 F)) ((o_turn_angles_24 F)) ((o_turn_angles_25 F)) ((o_turn_angles_26 F)) ((o_turn_angles_27 F)) ((o_turn_angles_28 F)) ((o_turn_angles_29 F)) 0 ((o_turn_pair_scaled_0 F a1 a0)) ((o_turn_pair_scaled_1 F a1 a0)))
          else (
            none))
        else (
          none))))
  else (
    bif ((decide (a1 < 0))) then (
      bif (ok_turn_opposite F a1 a0) then (
        let v530 : Int := (o_turn_opposite_0 F a1 a0)
        let v531 : Int := (o_turn_opposite_1 F a1 a0)
        bif (ok_turn_pair_scaled F v530 v531) then (
          bif (ok_turn_angles F) then (
            L_turn_Angle_0 F (fun (v564 : Int) (v565 : Int) (v566 : Int) (v567 : Int) (v568 : Int) (v569 : Int) (v570 : Int) (v571 : Int) (v572 : Int) (v573 : Int) (v574 : Int) (v575 : Int) (v576 : Int) (v577 : Int) (v578 : Int) (v579 : Int) (v580 : Int) (v581 : Int) (v582 : Int) (v583 : Int) (v584 : Int) (v585 : Int) (v586 : Int) (v587 : Int) (v588 : Int) (v589 : Int) (v590 : Int) (v591 : Int) (v592 : Int) (v593 : Int) (v594 : Int) (v595 : Int) (v596 : Int) (v597 : Int) (v598 : Int) (v599 : Int) (v600 : Int) =>
              some (.v (.int .u32 v567))) F a0 a1 0 2147483648 ((o_turn_angles_0 F)) ((o_turn_angles_1 F)) ((o_turn_angles_2 F)) ((o_turn_angles_3 F)) ((o_turn_angles_4 F)) ((o_turn_angles_5 F)) ((o_turn_angles_6 F)) ((o_turn_angles_7 F)) ((o_turn_angles_8 F)) ((o_turn_angles_9 F)) ((o_turn_angles_10 F)) ((o_turn_angles_11 F)) ((o_turn_angles_12 F)) ((o_turn_angles_13 F)) ((o_turn_angles_14 F)) ((o_turn_angles_15 F)) ((o_turn_angles_16 F)) ((o_turn_angles_17 F)) ((o_turn_angles_18 F)) ((o_turn_angles_19 F)) ((o_turn_angles_20 F)) ((o_turn_angles_21 F)) ((o_turn_angles_22 F)) ((o_turn_angles_23 F)) ((o_turn_angles_24 F)) ((o_turn_angles_25 F)) ((o_turn_angles_26 F)) ((o_turn_angles_27 F)) ((o_turn_angles_28 F)) ((o_turn_angles_29 F)) 0 ((o_turn_pair_scaled_0 F v530 v531)) ((o_turn_pair_scaled_1 F v530 v531)))
          else (
            none))
        else (
          none))
      else (
        none))
    else (
      bif (ok_turn_pair_scaled F a1 a0) then (
        bif (ok_turn_angles F) then (
          L_turn_Angle_0 F (fun (v633 : Int) (v634 : Int) (v635 : Int) (v636 : Int) (v637 : Int) (v638 : Int) (v639 : Int) (v640 : Int) (v641 : Int) (v642 : Int) (v643 : Int) (v644 : Int) (v645 : Int) (v646 : Int) (v647 : Int) (v648 : Int) (v649 : Int) (v650 : Int) (v651 : Int) (v652 : Int) (v653 : Int) (v654 : Int) (v655 : Int) (v656 : Int) (v657 : Int) (v658 : Int) (v659 : Int) (v660 : Int) (v661 : Int) (v662 : Int) (v663 : Int) (v664 : Int) (v665 : Int) (v666 : Int) (v667 : Int) (v668 : Int) (v669 : Int) =>
            some (.v (.int .u32 v636))) F a0 a1 0 0 ((o_turn_angles_0 F)) ((o_turn_angles_1 F)) ((o_turn_angles_2 F)) ((o_turn_angles_3 F)) ((o_turn_angles_4 F)) ((o_turn_angles_5 F)) ((o_turn_angles_6 F)) ((o_turn_angles_7 F)) ((o_turn_angles_8 F)) ((o_turn_angles_9 F)) ((o_turn_angles_10 F)) ((o_turn_angles_11 F)) ((o_turn_angles_12 F)) ((o_turn_angles_13 F)) ((o_turn_angles_14 F)) ((o_turn_angles_15 F)) ((o_turn_angles_16 F)) ((o_turn_angles_17 F)) ((o_turn_angles_18 F)) ((o_turn_angles_19 F)) ((o_turn_angles_20 F)) ((o_turn_angles_21 F)) ((o_turn_angles_22 F)) ((o_turn_angles_23 F)) ((o_turn_angles_24 F)) ((o_turn_angles_25 F)) ((o_turn_angles_26 F)) ((o_turn_angles_27 F)) ((o_turn_angles_28 F)) ((o_turn_angles_29 F)) 0 ((o_turn_pair_scaled_0 F a1 a0)) ((o_turn_pair_scaled_1 F a1 a0)))
        else (
          none))
      else (
        none))) : R) := by
    intros
    kernel_rfl
  exact (h ok_turn_opposite o_turn_opposite_0 o_turn_opposite_1 ok_turn_pair_scaled o_turn_pair_scaled_0 o_turn_pair_scaled_1 ok_turn_angles o_turn_angles_0 o_turn_angles_1 o_turn_angles_2 o_turn_angles_3 o_turn_angles_4 o_turn_angles_5 o_turn_angles_6 o_turn_angles_7 o_turn_angles_8 o_turn_angles_9 o_turn_angles_10 o_turn_angles_11 o_turn_angles_12 o_turn_angles_13 o_turn_angles_14 o_turn_angles_15 o_turn_angles_16 o_turn_angles_17 o_turn_angles_18 o_turn_angles_19 o_turn_angles_20 o_turn_angles_21 o_turn_angles_22 o_turn_angles_23 o_turn_angles_24 o_turn_angles_25 o_turn_angles_26 o_turn_angles_27 o_turn_angles_28 o_turn_angles_29 ok_turn_pair_turned o_turn_pair_turned_0 o_turn_pair_turned_1 L_turn_Angle_0).trans (by kernel_rfl)
def ok_turn_Angle (F : Nat) (a0 : Int) (a1 : Int) : Bool := okT to_turn_Angle (f_turn_Angle F a0 a1)
def o_turn_Angle_0 (F : Nat) (a0 : Int) (a1 : Int) : Int := atI (nth (outT to_turn_Angle (f_turn_Angle F a0 a1)) 0)
theorem k_turn_Angle (F : Nat) (a0 : Int) (a1 : Int) {z0 : Int} (h : f_turn_Angle F a0 a1 = some (.v (.int .u32 z0))) : ok_turn_Angle F a0 a1 = true ∧ o_turn_Angle_0 F a0 a1 = z0 := by
  refine ⟨?_, ?_⟩
  · unfold ok_turn_Angle; rw [h]; kernel_rfl
  · unfold o_turn_Angle_0; rw [h]; kernel_rfl
def s_turn_Angle (F : Nat) : List VV → Option (Bool × VV) := spec ti_turn_Angle to_turn_Angle (fun q => (ok_turn_Angle F (atI (nth q 0)) (atI (nth q 1)))) (fun q => [.i (o_turn_Angle_0 F (atI (nth q 0)) (atI (nth q 1)))])
theorem hS_turn_Angle (F : Nat) : ∀ f, Good PP f (unS (S_turn_Angle F f)) := words_good fun p hp => by
  simp only [List.mem_cons, List.not_mem_nil, or_false] at hp
  rcases hp with rfl | rfl | rfl | rfl
  · exact g_turn_opposite F
  · exact g_turn_pair_scaled F
  · exact g_turn_angles F
  · exact g_turn_pair_turned F
theorem hl_turn_Angle (F : Nat) : ∀ p ∈ loopsIn PP 28, LoopOK PP (S_turn_Angle F) c_turn_Angle F (I_turn_Angle F) (J_turn_Angle F) p :=
  loops_of [(0, loopAt PP 28 0)] (by kernel_rfl) (all_cons
    (loop_ok (W_turn_Angle F) rfl (tab_cons (fun _ k q => Le.ofEq ((lL_turn_Angle_0 F k F (atI (nth q 0)) (atI (nth q 1)) (atI (nth q 2)) (atI (nth q 3)) (atI (nth q 4)) (atI (nth q 5)) (atI (nth q 6)) (atI (nth q 7)) (atI (nth q 8)) (atI (nth q 9)) (atI (nth q 10)) (atI (nth q 11)) (atI (nth q 12)) (atI (nth q 13)) (atI (nth q 14)) (atI (nth q 15)) (atI (nth q 16)) (atI (nth q 17)) (atI (nth q 18)) (atI (nth q 19)) (atI (nth q 20)) (atI (nth q 21)) (atI (nth q 22)) (atI (nth q 23)) (atI (nth q 24)) (atI (nth q 25)) (atI (nth q 26)) (atI (nth q 27)) (atI (nth q 28)) (atI (nth q 29)) (atI (nth q 30)) (atI (nth q 31)) (atI (nth q 32)) (atI (nth q 33)) (atI (nth q 34)) (atI (nth q 35)) (atI (nth q 36))).symm.trans (congrArg (iterC (codeL PP (S_turn_Angle F) c_turn_Angle (I_turn_Angle F) (J_turn_Angle F) (loopAt PP 28 0) 0) (headOf c_turn_Angle 0) k F) (show fS T_turn_Angle_0 [.i (atI (nth q 0)), .i (atI (nth q 1)), .i (atI (nth q 2)), .i (atI (nth q 3)), .i (atI (nth q 4)), .i (atI (nth q 5)), .i (atI (nth q 6)), .i (atI (nth q 7)), .i (atI (nth q 8)), .i (atI (nth q 9)), .i (atI (nth q 10)), .i (atI (nth q 11)), .i (atI (nth q 12)), .i (atI (nth q 13)), .i (atI (nth q 14)), .i (atI (nth q 15)), .i (atI (nth q 16)), .i (atI (nth q 17)), .i (atI (nth q 18)), .i (atI (nth q 19)), .i (atI (nth q 20)), .i (atI (nth q 21)), .i (atI (nth q 22)), .i (atI (nth q 23)), .i (atI (nth q 24)), .i (atI (nth q 25)), .i (atI (nth q 26)), .i (atI (nth q 27)), .i (atI (nth q 28)), .i (atI (nth q 29)), .i (atI (nth q 30)), .i (atI (nth q 31)), .i (atI (nth q 32)), .i (atI (nth q 33)), .i (atI (nth q 34)), .i (atI (nth q 35)), .i (atI (nth q 36))] = fS T_turn_Angle_0 q by kernel_rfl)))) tab_nil)) all_nil)
theorem hj_turn_Angle (F : Nat) : ∀ p ∈ joinsIn PP c_turn_Angle 28, JoinOK PP (S_turn_Angle F) c_turn_Angle (I_turn_Angle F) (J_turn_Angle F) p :=
  joins_of [] (by kernel_rfl) all_nil
theorem g_turn_Angle (F : Nat) : Good PP 28 (unS (s_turn_Angle F)) :=
  fun_spec (hS_turn_Angle F) (by kernel_rfl) (by kernel_rfl) (C := c_turn_Angle) (F := fun q => (f_turn_Angle F (atI (nth q 0)) (atI (nth q 1)))) (fun _ => F) (fun _ => I_turn_Angle F) (fun _ => J_turn_Angle F) (fun _ => hl_turn_Angle F) (fun _ => hj_turn_Angle F)
    (fun q => (congrArg (funL PP (S_turn_Angle F) c_turn_Angle (I_turn_Angle F) (J_turn_Angle F) 28) (show (fTs ti_turn_Angle q).1 = (fTs ti_turn_Angle [.i (atI (nth q 0)), .i (atI (nth q 1))]).1 by kernel_rfl)).trans (e_turn_Angle F (atI (nth q 0)) (atI (nth q 1))))
    (fun _ h => (okT_fill h).trans (congrArg some (by kernel_rfl)))

end Go.Xv
set_option linter.unusedVariables false
namespace Go.Xv
/- 36 _law05_near -/
def c_law05_near : Cfg := ⟨[0, 1, 2, 6, 7], [], [], []⟩
def ti_law05_near : List TV := [.v (.int .u32), .v (.int .u32), .v (.int .i32)]
def to_law05_near : TV := .v (.bool)
def S_law05_near (F : Nat) : FuncId → List VV → Option (Bool × VV) := words []
def W_law05_near (F : Nat) : List LW := []
def I_law05_near (F : Nat) : Nat → VS → (Exit → VS → R) → R := tabI c_law05_near (W_law05_near F)
def WJ_law05_near (F : Nat) : List LJ := []
def J_law05_near (F : Nat) : Nat → Nat → VS → (Exit → VS → R) → R := tabJ (WJ_law05_near F)
def f_law05_near (F : Nat) (a0 : Int) (a1 : Int) (a2 : Int) : R :=
  let v672 : Int := (IntKind.wrap .i32 ((IntKind.wrap .u32 (a0 - a1))))
  bif ((decide (v672 ≤ a2))) then (
    some (.v (.bool ((decide (v672 ≥ ((IntKind.wrap .i32 (0 - a2)))))))))
  else (
    some (.v (.bool false)))
theorem e_law05_near (F : Nat) (a0 : Int) (a1 : Int) (a2 : Int) : funL PP (S_law05_near F) c_law05_near (I_law05_near F) (J_law05_near F) 36 (fTs ti_law05_near [.i a0, .i a1, .i a2]).1 = f_law05_near F a0 a1 a2 := by
  have h : ∀ (_ : Unit), funL PP (words []) c_law05_near (tabI c_law05_near []) (tabJ []) 36 (fTs ti_law05_near [.i a0, .i a1, .i a2]).1 = (
  let v672 : Int := (IntKind.wrap .i32 ((IntKind.wrap .u32 (a0 - a1))))
  bif ((decide (v672 ≤ a2))) then (
    some (.v (.bool ((decide (v672 ≥ ((IntKind.wrap .i32 (0 - a2)))))))))
  else (
    some (.v (.bool false))) : R) := by
    intros
    kernel_rfl
  exact (h ()).trans (by kernel_rfl)
def ok_law05_near (F : Nat) (a0 : Int) (a1 : Int) (a2 : Int) : Bool := okT to_law05_near (f_law05_near F a0 a1 a2)
def o_law05_near_0 (F : Nat) (a0 : Int) (a1 : Int) (a2 : Int) : Bool := atB (nth (outT to_law05_near (f_law05_near F a0 a1 a2)) 0)
theorem k_law05_near (F : Nat) (a0 : Int) (a1 : Int) (a2 : Int) {z0 : Bool} (h : f_law05_near F a0 a1 a2 = some (.v (.bool z0))) : ok_law05_near F a0 a1 a2 = true ∧ o_law05_near_0 F a0 a1 a2 = z0 := by
  refine ⟨?_, ?_⟩
  · unfold ok_law05_near; rw [h]; kernel_rfl
  · unfold o_law05_near_0; rw [h]; kernel_rfl
def s_law05_near (F : Nat) : List VV → Option (Bool × VV) := spec ti_law05_near to_law05_near (fun q => (ok_law05_near F (atI (nth q 0)) (atI (nth q 1)) (atI (nth q 2)))) (fun q => [.b (o_law05_near_0 F (atI (nth q 0)) (atI (nth q 1)) (atI (nth q 2)))])
theorem hS_law05_near (F : Nat) : ∀ f, Good PP f (unS (S_law05_near F f)) := words_good fun p hp => by
  cases hp
theorem hl_law05_near (F : Nat) : ∀ p ∈ loopsIn PP 36, LoopOK PP (S_law05_near F) c_law05_near F (I_law05_near F) (J_law05_near F) p :=
  loops_of [] (by kernel_rfl) all_nil
theorem hj_law05_near (F : Nat) : ∀ p ∈ joinsIn PP c_law05_near 36, JoinOK PP (S_law05_near F) c_law05_near (I_law05_near F) (J_law05_near F) p :=
  joins_of [] (by kernel_rfl) all_nil
theorem g_law05_near (F : Nat) : Good PP 36 (unS (s_law05_near F)) :=
  fun_spec (hS_law05_near F) (by kernel_rfl) (by kernel_rfl) (C := c_law05_near) (F := fun q => (f_law05_near F (atI (nth q 0)) (atI (nth q 1)) (atI (nth q 2)))) (fun _ => F) (fun _ => I_law05_near F) (fun _ => J_law05_near F) (fun _ => hl_law05_near F) (fun _ => hj_law05_near F)
    (fun q => (congrArg (funL PP (S_law05_near F) c_law05_near (I_law05_near F) (J_law05_near F) 36) (show (fTs ti_law05_near q).1 = (fTs ti_law05_near [.i (atI (nth q 0)), .i (atI (nth q 1)), .i (atI (nth q 2))]).1 by kernel_rfl)).trans (e_law05_near F (atI (nth q 0)) (atI (nth q 1)) (atI (nth q 2))))
    (fun _ h => (okT_fill h).trans (congrArg some (by kernel_rfl)))

end Go.Xv
set_option linter.unusedVariables false
namespace Go.Xv
/- 38 _turn_Way -/
def c_turn_Way : Cfg := ⟨[0, 1, 4], [], [], []⟩
def ti_turn_Way : List TV := [.v (.int .u32), .v (.int .u32)]
def to_turn_Way : TV := .v (.int .i32)
def S_turn_Way (F : Nat) : FuncId → List VV → Option (Bool × VV) := words []
def W_turn_Way (F : Nat) : List LW := []
def I_turn_Way (F : Nat) : Nat → VS → (Exit → VS → R) → R := tabI c_turn_Way (W_turn_Way F)
def WJ_turn_Way (F : Nat) : List LJ := []
def J_turn_Way (F : Nat) : Nat → Nat → VS → (Exit → VS → R) → R := tabJ (WJ_turn_Way F)
def f_turn_Way (F : Nat) (a0 : Int) (a1 : Int) : R :=
  some (.v (.int .i32 ((IntKind.wrap .i32 ((IntKind.wrap .u32 (a1 - a0)))))))
theorem e_turn_Way (F : Nat) (a0 : Int) (a1 : Int) : funL PP (S_turn_Way F) c_turn_Way (I_turn_Way F) (J_turn_Way F) 38 (fTs ti_turn_Way [.i a0, .i a1]).1 = f_turn_Way F a0 a1 := by
  have h : ∀ (_ : Unit), funL PP (words []) c_turn_Way (tabI c_turn_Way []) (tabJ []) 38 (fTs ti_turn_Way [.i a0, .i a1]).1 = (
  some (.v (.int .i32 ((IntKind.wrap .i32 ((IntKind.wrap .u32 (a1 - a0))))))) : R) := by
    intros
    kernel_rfl
  exact (h ()).trans (by kernel_rfl)
def ok_turn_Way (F : Nat) (a0 : Int) (a1 : Int) : Bool := okT to_turn_Way (f_turn_Way F a0 a1)
def o_turn_Way_0 (F : Nat) (a0 : Int) (a1 : Int) : Int := atI (nth (outT to_turn_Way (f_turn_Way F a0 a1)) 0)
theorem k_turn_Way (F : Nat) (a0 : Int) (a1 : Int) {z0 : Int} (h : f_turn_Way F a0 a1 = some (.v (.int .i32 z0))) : ok_turn_Way F a0 a1 = true ∧ o_turn_Way_0 F a0 a1 = z0 := by
  refine ⟨?_, ?_⟩
  · unfold ok_turn_Way; rw [h]; kernel_rfl
  · unfold o_turn_Way_0; rw [h]; kernel_rfl
def s_turn_Way (F : Nat) : List VV → Option (Bool × VV) := spec ti_turn_Way to_turn_Way (fun q => (ok_turn_Way F (atI (nth q 0)) (atI (nth q 1)))) (fun q => [.i (o_turn_Way_0 F (atI (nth q 0)) (atI (nth q 1)))])
theorem hS_turn_Way (F : Nat) : ∀ f, Good PP f (unS (S_turn_Way F f)) := words_good fun p hp => by
  cases hp
theorem hl_turn_Way (F : Nat) : ∀ p ∈ loopsIn PP 38, LoopOK PP (S_turn_Way F) c_turn_Way F (I_turn_Way F) (J_turn_Way F) p :=
  loops_of [] (by kernel_rfl) all_nil
theorem hj_turn_Way (F : Nat) : ∀ p ∈ joinsIn PP c_turn_Way 38, JoinOK PP (S_turn_Way F) c_turn_Way (I_turn_Way F) (J_turn_Way F) p :=
  joins_of [] (by kernel_rfl) all_nil
theorem g_turn_Way (F : Nat) : Good PP 38 (unS (s_turn_Way F)) :=
  fun_spec (hS_turn_Way F) (by kernel_rfl) (by kernel_rfl) (C := c_turn_Way) (F := fun q => (f_turn_Way F (atI (nth q 0)) (atI (nth q 1)))) (fun _ => F) (fun _ => I_turn_Way F) (fun _ => J_turn_Way F) (fun _ => hl_turn_Way F) (fun _ => hj_turn_Way F)
    (fun q => (congrArg (funL PP (S_turn_Way F) c_turn_Way (I_turn_Way F) (J_turn_Way F) 38) (show (fTs ti_turn_Way q).1 = (fTs ti_turn_Way [.i (atI (nth q 0)), .i (atI (nth q 1))]).1 by kernel_rfl)).trans (e_turn_Way F (atI (nth q 0)) (atI (nth q 1))))
    (fun _ h => (okT_fill h).trans (congrArg some (by kernel_rfl)))

end Go.Xv
set_option linter.unusedVariables false
namespace Go.Xv
/- 27 _law05_works -/
def c_law05_works : Cfg := ⟨[0, 1, 2], [], [7], []⟩
def ti_law05_works : List TV := []
def to_law05_works : TV := .v (.bool)
def S_law05_works (F : Nat) : FuncId → List VV → Option (Bool × VV) := words [(25, s_turn_Both F), (28, s_turn_Angle F), (36, s_law05_near F), (38, s_turn_Way F)]
def W_law05_works (F : Nat) : List LW := []
def I_law05_works (F : Nat) : Nat → VS → (Exit → VS → R) → R := tabI c_law05_works (W_law05_works F)
def WJ_law05_works (F : Nat) : List LJ := []
def J_law05_works (F : Nat) : Nat → Nat → VS → (Exit → VS → R) → R := tabJ (WJ_law05_works F)
def f_law05_works (F : Nat) : R :=
  bif (ok_turn_Both F 0) then (
    bif (ok_turn_Angle F 4294967296 4294967296) then (
      let v670 : Int := (o_turn_Angle_0 F 4294967296 4294967296)
      bif (ok_law05_near F v670 536870912 256) then (
        bif ((o_law05_near_0 F v670 536870912 256)) then (
          bif (ok_turn_Way F 1 0) then (
            bif ((((o_turn_Way_0 F 1 0)) == (-1))) then (
              bif ((decide (((o_turn_Both_0 F 0)) > 4294966272))) then (
                some (.v (.bool ((decide (((o_turn_Both_1 F 0)) < 1024))))))
              else (
                some (.v (.bool false))))
            else (
              some (.v (.bool false))))
          else (
            none))
        else (
          some (.v (.bool false))))
      else (
        none))
    else (
      none))
  else (
    none)
theorem e_law05_works (F : Nat) : funL PP (S_law05_works F) c_law05_works (I_law05_works F) (J_law05_works F) 27 (fTs ti_law05_works []).1 = f_law05_works F := by
  have h : ∀ (ok_turn_Both : Nat → Int → Bool) (o_turn_Both_0 : Nat → Int → Int) (o_turn_Both_1 : Nat → Int → Int) (ok_turn_Angle : Nat → Int → Int → Bool) (o_turn_Angle_0 : Nat → Int → Int → Int) (ok_law05_near : Nat → Int → Int → Int → Bool) (o_law05_near_0 : Nat → Int → Int → Int → Bool) (ok_turn_Way : Nat → Int → Int → Bool) (o_turn_Way_0 : Nat → Int → Int → Int), funL PP (words [(25, spec ti_turn_Both to_turn_Both (fun q => (ok_turn_Both F (atI (nth q 0)))) (fun q => [.i (o_turn_Both_0 F (atI (nth q 0))), .i (o_turn_Both_1 F (atI (nth q 0)))])), (28, spec ti_turn_Angle to_turn_Angle (fun q => (ok_turn_Angle F (atI (nth q 0)) (atI (nth q 1)))) (fun q => [.i (o_turn_Angle_0 F (atI (nth q 0)) (atI (nth q 1)))])), (36, spec ti_law05_near to_law05_near (fun q => (ok_law05_near F (atI (nth q 0)) (atI (nth q 1)) (atI (nth q 2)))) (fun q => [.b (o_law05_near_0 F (atI (nth q 0)) (atI (nth q 1)) (atI (nth q 2)))])), (38, spec ti_turn_Way to_turn_Way (fun q => (ok_turn_Way F (atI (nth q 0)) (atI (nth q 1)))) (fun q => [.i (o_turn_Way_0 F (atI (nth q 0)) (atI (nth q 1)))]))]) c_law05_works (tabI c_law05_works []) (tabJ []) 27 (fTs ti_law05_works []).1 = (
  bif (ok_turn_Both F 0) then (
    bif (ok_turn_Angle F 4294967296 4294967296) then (
      let v670 : Int := (o_turn_Angle_0 F 4294967296 4294967296)
      bif (ok_law05_near F v670 536870912 256) then (
        bif ((o_law05_near_0 F v670 536870912 256)) then (
          bif (ok_turn_Way F 1 0) then (
            bif ((((o_turn_Way_0 F 1 0)) == (-1))) then (
              bif ((decide (((o_turn_Both_0 F 0)) > 4294966272))) then (
                some (.v (.bool ((decide (((o_turn_Both_1 F 0)) < 1024))))))
              else (
                some (.v (.bool false))))
            else (
              some (.v (.bool false))))
          else (
            none))
        else (
          some (.v (.bool false))))
      else (
        none))
    else (
      none))
  else (
    none) : R) := by
    intros
    kernel_rfl
  exact (h ok_turn_Both o_turn_Both_0 o_turn_Both_1 ok_turn_Angle o_turn_Angle_0 ok_law05_near o_law05_near_0 ok_turn_Way o_turn_Way_0).trans (by kernel_rfl)
def ok_law05_works (F : Nat) : Bool := okT to_law05_works (f_law05_works F)
def o_law05_works_0 (F : Nat) : Bool := atB (nth (outT to_law05_works (f_law05_works F)) 0)
theorem k_law05_works (F : Nat) {z0 : Bool} (h : f_law05_works F = some (.v (.bool z0))) : ok_law05_works F = true ∧ o_law05_works_0 F = z0 := by
  refine ⟨?_, ?_⟩
  · unfold ok_law05_works; rw [h]; kernel_rfl
  · unfold o_law05_works_0; rw [h]; kernel_rfl
def s_law05_works (F : Nat) : List VV → Option (Bool × VV) := spec ti_law05_works to_law05_works (fun q => (ok_law05_works F )) (fun q => [.b (o_law05_works_0 F )])
theorem hS_law05_works (F : Nat) : ∀ f, Good PP f (unS (S_law05_works F f)) := words_good fun p hp => by
  simp only [List.mem_cons, List.not_mem_nil, or_false] at hp
  rcases hp with rfl | rfl | rfl | rfl
  · exact g_turn_Both F
  · exact g_turn_Angle F
  · exact g_law05_near F
  · exact g_turn_Way F
theorem hl_law05_works (F : Nat) : ∀ p ∈ loopsIn PP 27, LoopOK PP (S_law05_works F) c_law05_works F (I_law05_works F) (J_law05_works F) p :=
  loops_of [] (by kernel_rfl) all_nil
theorem hj_law05_works (F : Nat) : ∀ p ∈ joinsIn PP c_law05_works 27, JoinOK PP (S_law05_works F) c_law05_works (I_law05_works F) (J_law05_works F) p :=
  joins_of [] (by kernel_rfl) all_nil
theorem g_law05_works (F : Nat) : Good PP 27 (unS (s_law05_works F)) :=
  fun_spec (hS_law05_works F) (by kernel_rfl) (by kernel_rfl) (C := c_law05_works) (F := fun q => (f_law05_works F )) (fun _ => F) (fun _ => I_law05_works F) (fun _ => J_law05_works F) (fun _ => hl_law05_works F) (fun _ => hj_law05_works F)
    (fun q => (congrArg (funL PP (S_law05_works F) c_law05_works (I_law05_works F) (J_law05_works F) 27) (show (fTs ti_law05_works q).1 = (fTs ti_law05_works []).1 by kernel_rfl)).trans (e_law05_works F ))
    (fun _ h => (okT_fill h).trans (congrArg some (by kernel_rfl)))

end Go.Xv
set_option linter.unusedVariables false
namespace Go.Xv
/- 8 _law05_TurnBack -/
def c_law05_TurnBack : Cfg := ⟨[0, 2, 3, 4, 6], [], [14], []⟩
def ti_law05_TurnBack : List TV := [.v (.int .u32)]
def to_law05_TurnBack : TV := .v (.bool)
def S_law05_TurnBack (F : Nat) : FuncId → List VV → Option (Bool × VV) := words [(27, s_law05_works F), (25, s_turn_Both F), (28, s_turn_Angle F), (36, s_law05_near F)]
def W_law05_TurnBack (F : Nat) : List LW := []
def I_law05_TurnBack (F : Nat) : Nat → VS → (Exit → VS → R) → R := tabI c_law05_TurnBack (W_law05_TurnBack F)
def WJ_law05_TurnBack (F : Nat) : List LJ := []
def J_law05_TurnBack (F : Nat) : Nat → Nat → VS → (Exit → VS → R) → R := tabJ (WJ_law05_TurnBack F)
def f_law05_TurnBack (F : Nat) (a0 : Int) : R :=
  bif (ok_law05_works F) then (
    bif ((!((o_law05_works_0 F)))) then (
      some (.v (.bool false)))
    else (
      bif (ok_turn_Both F a0) then (
        let v1191 : Int := (o_turn_Both_0 F a0)
        let v1192 : Int := (o_turn_Both_1 F a0)
        bif (ok_turn_Angle F v1192 v1191) then (
          let v1193 : Int := (o_turn_Angle_0 F v1192 v1191)
          bif (ok_law05_near F v1193 a0 1024) then (
            some (.v (.bool ((o_law05_near_0 F v1193 a0 1024)))))
          else (
            none))
        else (
          none))
      else (
        none)))
  else (
    none)
theorem e_law05_TurnBack (F : Nat) (a0 : Int) : funL PP (S_law05_TurnBack F) c_law05_TurnBack (I_law05_TurnBack F) (J_law05_TurnBack F) 8 (fTs ti_law05_TurnBack [.i a0]).1 = f_law05_TurnBack F a0 := by
  have h : ∀ (ok_law05_works : Nat → Bool) (o_law05_works_0 : Nat → Bool) (ok_turn_Both : Nat → Int → Bool) (o_turn_Both_0 : Nat → Int → Int) (o_turn_Both_1 : Nat → Int → Int) (ok_turn_Angle : Nat → Int → Int → Bool) (o_turn_Angle_0 : Nat → Int → Int → Int) (ok_law05_near : Nat → Int → Int → Int → Bool) (o_law05_near_0 : Nat → Int → Int → Int → Bool), funL PP (words [(27, spec ti_law05_works to_law05_works (fun q => (ok_law05_works F )) (fun q => [.b (o_law05_works_0 F )])), (25, spec ti_turn_Both to_turn_Both (fun q => (ok_turn_Both F (atI (nth q 0)))) (fun q => [.i (o_turn_Both_0 F (atI (nth q 0))), .i (o_turn_Both_1 F (atI (nth q 0)))])), (28, spec ti_turn_Angle to_turn_Angle (fun q => (ok_turn_Angle F (atI (nth q 0)) (atI (nth q 1)))) (fun q => [.i (o_turn_Angle_0 F (atI (nth q 0)) (atI (nth q 1)))])), (36, spec ti_law05_near to_law05_near (fun q => (ok_law05_near F (atI (nth q 0)) (atI (nth q 1)) (atI (nth q 2)))) (fun q => [.b (o_law05_near_0 F (atI (nth q 0)) (atI (nth q 1)) (atI (nth q 2)))]))]) c_law05_TurnBack (tabI c_law05_TurnBack []) (tabJ []) 8 (fTs ti_law05_TurnBack [.i a0]).1 = (
  bif (ok_law05_works F) then (
    bif ((!((o_law05_works_0 F)))) then (
      some (.v (.bool false)))
    else (
      bif (ok_turn_Both F a0) then (
        let v1191 : Int := (o_turn_Both_0 F a0)
        let v1192 : Int := (o_turn_Both_1 F a0)
        bif (ok_turn_Angle F v1192 v1191) then (
          let v1193 : Int := (o_turn_Angle_0 F v1192 v1191)
          bif (ok_law05_near F v1193 a0 1024) then (
            some (.v (.bool ((o_law05_near_0 F v1193 a0 1024)))))
          else (
            none))
        else (
          none))
      else (
        none)))
  else (
    none) : R) := by
    intros
    kernel_rfl
  exact (h ok_law05_works o_law05_works_0 ok_turn_Both o_turn_Both_0 o_turn_Both_1 ok_turn_Angle o_turn_Angle_0 ok_law05_near o_law05_near_0).trans (by kernel_rfl)
def ok_law05_TurnBack (F : Nat) (a0 : Int) : Bool := okT to_law05_TurnBack (f_law05_TurnBack F a0)
def o_law05_TurnBack_0 (F : Nat) (a0 : Int) : Bool := atB (nth (outT to_law05_TurnBack (f_law05_TurnBack F a0)) 0)
theorem k_law05_TurnBack (F : Nat) (a0 : Int) {z0 : Bool} (h : f_law05_TurnBack F a0 = some (.v (.bool z0))) : ok_law05_TurnBack F a0 = true ∧ o_law05_TurnBack_0 F a0 = z0 := by
  refine ⟨?_, ?_⟩
  · unfold ok_law05_TurnBack; rw [h]; kernel_rfl
  · unfold o_law05_TurnBack_0; rw [h]; kernel_rfl
def s_law05_TurnBack (F : Nat) : List VV → Option (Bool × VV) := spec ti_law05_TurnBack to_law05_TurnBack (fun q => (ok_law05_TurnBack F (atI (nth q 0)))) (fun q => [.b (o_law05_TurnBack_0 F (atI (nth q 0)))])
theorem hS_law05_TurnBack (F : Nat) : ∀ f, Good PP f (unS (S_law05_TurnBack F f)) := words_good fun p hp => by
  simp only [List.mem_cons, List.not_mem_nil, or_false] at hp
  rcases hp with rfl | rfl | rfl | rfl
  · exact g_law05_works F
  · exact g_turn_Both F
  · exact g_turn_Angle F
  · exact g_law05_near F
theorem hl_law05_TurnBack (F : Nat) : ∀ p ∈ loopsIn PP 8, LoopOK PP (S_law05_TurnBack F) c_law05_TurnBack F (I_law05_TurnBack F) (J_law05_TurnBack F) p :=
  loops_of [] (by kernel_rfl) all_nil
theorem hj_law05_TurnBack (F : Nat) : ∀ p ∈ joinsIn PP c_law05_TurnBack 8, JoinOK PP (S_law05_TurnBack F) c_law05_TurnBack (I_law05_TurnBack F) (J_law05_TurnBack F) p :=
  joins_of [] (by kernel_rfl) all_nil
theorem g_law05_TurnBack (F : Nat) : Good PP 8 (unS (s_law05_TurnBack F)) :=
  fun_spec (hS_law05_TurnBack F) (by kernel_rfl) (by kernel_rfl) (C := c_law05_TurnBack) (F := fun q => (f_law05_TurnBack F (atI (nth q 0)))) (fun _ => F) (fun _ => I_law05_TurnBack F) (fun _ => J_law05_TurnBack F) (fun _ => hl_law05_TurnBack F) (fun _ => hj_law05_TurnBack F)
    (fun q => (congrArg (funL PP (S_law05_TurnBack F) c_law05_TurnBack (I_law05_TurnBack F) (J_law05_TurnBack F) 8) (show (fTs ti_law05_TurnBack q).1 = (fTs ti_law05_TurnBack [.i (atI (nth q 0))]).1 by kernel_rfl)).trans (e_law05_TurnBack F (atI (nth q 0))))
    (fun _ h => (okT_fill h).trans (congrArg some (by kernel_rfl)))

end Go.Xv
namespace Go.Xv
theorem p2pos (n : Nat) : (0 : Int) < 2 ^ n := Int.pow_pos (by decide)
theorem p2add (a b : Nat) : (2 : Int) ^ a * 2 ^ b = 2 ^ (a + b) := (Int.pow_add 2 a b).symm
end Go.Xv
namespace Go.Xv
/-- one bit of a number -/
def dg (z : Int) (i : Nat) : Int := z / 2 ^ i % 2
def ds (z : Int) (n : Nat) : List VV := (List.range n).map fun i => .v (.int .i64 (dg z i))
theorem p2mono {a b : Nat} (h : a ≤ b) : (2 : Int) ^ a ≤ 2 ^ b := by
  rw [show b = a + (b - a) by omega, ← p2add]
  have h1 := p2pos a
  have h2 := p2pos (b - a)
  have : (2 : Int) ^ a * 1 ≤ 2 ^ a * 2 ^ (b - a) := Int.mul_le_mul_of_nonneg_left (by omega) (by omega)
  omega
end Go.Xv
namespace Go.Xv
def angs : List Int := [536870912, 316933406, 167458907, 85004756, 42667331, 21354465, 10679838, 5340245, 2670163, 1335087, 667544, 333772, 166886, 83443, 41722, 20861, 10430, 5215, 2608, 1304, 652, 326, 163, 81, 41, 20, 10, 5, 3, 1]
def tA (i : Nat) : Int := angs.getD i 0
theorem tA_bd : ∀ i, i < 30 → 1 ≤ tA i ∧ tA i ≤ 536870912 := by decide
theorem ediv_bd {y B : Int} (h : -B ≤ y ∧ y ≤ B) (i : Nat) : -B ≤ y / 2 ^ i ∧ y / 2 ^ i ≤ B := by
  have hP := p2pos i
  generalize (2 : Int) ^ i = P at *
  rcases Int.lt_or_le y 0 with hn | hn
  · constructor
    · rw [Int.le_ediv_iff_mul_le hP]
      have : -B * P ≤ -B * 1 := Int.mul_le_mul_of_nonpos_left (by omega) (by omega)
      omega
    · have := Int.ediv_neg_of_neg_of_pos hn hP
      omega
  · have h1 := Int.ediv_nonneg hn (Int.le_of_lt hP)
    have h2 := Int.ediv_le_self P hn
    omega
def rotX (i : Nat) (o : Bool) (x y : Int) : Int := if o then x - y / 2 ^ i else x + y / 2 ^ i
def rotY (i : Nat) (o : Bool) (x y : Int) : Int := if o then y + x / 2 ^ i else y - x / 2 ^ i
theorem rot_bd {x y B : Int} (hx : -B ≤ x ∧ x ≤ B) (hy : -B ≤ y ∧ y ≤ B) (i : Nat) (o : Bool) : (-(2 * B) ≤ rotX i o x y ∧ rotX i o x y ≤ 2 * B) ∧ (-(2 * B) ≤ rotY i o x y ∧ rotY i o x y ≤ 2 * B) := by
  have h1 := ediv_bd hx i
  have h2 := ediv_bd hy i
  unfold rotX rotY
  cases o
  · simp only [Bool.false_eq_true, if_false]; omega
  · simp only [if_true]; omega
/-- sine and cosine, step by step: both parts, and what is left -/
def bS (z : Int) : Nat → Int × Int × Int
  | 0 => (2608131496, 0, z)
  | i + 1 => (rotX i (decide (0 ≤ (bS z i).2.2)) (bS z i).1 (bS z i).2.1, rotY i (decide (0 ≤ (bS z i).2.2)) (bS z i).1 (bS z i).2.1, if 0 ≤ (bS z i).2.2 then (bS z i).2.2 - tA i else (bS z i).2.2 + tA i)
theorem bS_bd (z : Int) : ∀ i, (-(2608131496 * 2 ^ i) ≤ (bS z i).1 ∧ (bS z i).1 ≤ 2608131496 * 2 ^ i) ∧ (-(2608131496 * 2 ^ i) ≤ (bS z i).2.1 ∧ (bS z i).2.1 ≤ 2608131496 * 2 ^ i)
  | 0 => by simp [bS]
  | i + 1 => by
    obtain ⟨h1, h2⟩ := bS_bd z i
    have := rot_bd h1 h2 i (decide (0 ≤ (bS z i).2.2))
    have e : (2608131496 : Int) * 2 ^ (i + 1) = 2 * (2608131496 * 2 ^ i) := by rw [Int.pow_succ]; omega
    rw [e]
    exact this
theorem bS_I (z : Int) {i : Nat} (h : i ≤ 30) : (-4611686018427387904 ≤ (bS z i).1 ∧ (bS z i).1 ≤ 4611686018427387904) ∧ (-4611686018427387904 ≤ (bS z i).2.1 ∧ (bS z i).2.1 ≤ 4611686018427387904) := by
  have h1 := bS_bd z i
  have h2 : (2608131496 : Int) * 2 ^ i ≤ 2608131496 * 2 ^ 30 := Int.mul_le_mul_of_nonneg_left (p2mono h) (by decide)
  have h3 : (2608131496 : Int) * 2 ^ 30 ≤ 4611686018427387904 := by decide
  omega
theorem bS_z {z : Int} (hz : 0 ≤ z ∧ z < 1073741824) : ∀ {i : Nat}, i ≤ 30 → -(1073741824 + 536870912 * (i : Int)) ≤ (bS z i).2.2 ∧ (bS z i).2.2 ≤ 1073741824 + 536870912 * (i : Int)
  | 0, _ => by simp only [bS]; omega
  | i + 1, h => by
    have ih := bS_z hz (i := i) (by omega)
    have := tA_bd i (by omega)
    simp only [bS]
    push_cast
    split <;> omega
def cl01 (x : Int) : Int := min (max x 0) 4294967296
theorem cl01_bd (x : Int) : 0 ≤ cl01 x ∧ cl01 x ≤ 4294967296 := by unfold cl01; omega
def bC (a : Int) : Int := cl01 (bS (a % 1073741824) 30).1
def bN (a : Int) : Int := cl01 (bS (a % 1073741824) 30).2.1
/-- cosine and sine -/
def bothC (a : Int) : Int := if a / 1073741824 = 0 then bC a else if a / 1073741824 = 1 then -bN a else if a / 1073741824 = 2 then -bC a else bN a
def bothS (a : Int) : Int := if a / 1073741824 = 0 then bN a else if a / 1073741824 = 1 then bC a else if a / 1073741824 = 2 then -bN a else -bC a
theorem both_bd (a : Int) : (-4294967296 ≤ bothC a ∧ bothC a ≤ 4294967296) ∧ (-4294967296 ≤ bothS a ∧ bothS a ≤ 4294967296) := by
  have h1 := cl01_bd (bS (a % 1073741824) 30).1
  have h2 := cl01_bd (bS (a % 1073741824) 30).2.1
  unfold bothC bothS bC bN
  constructor <;> (repeat' split) <;> omega
/-- the angle, step by step -/
def aS (x y : Int) : Nat → Int × Int × Int
  | 0 => (x, y, 0)
  | i + 1 => (rotX i (decide ((aS x y i).2.1 < 0)) (aS x y i).1 (aS x y i).2.1, rotY i (decide ((aS x y i).2.1 < 0)) (aS x y i).1 (aS x y i).2.1, if (aS x y i).2.1 < 0 then (aS x y i).2.2 - tA i else (aS x y i).2.2 + tA i)
def sz (a : Int) : Int := if a < 0 then -a else a
/-- how often it is halved, and doubled -/
def big (x y : Int) : Int := max (sz x) (sz y)
def down : Nat → Int → Int → Int × Int
  | 0, x, y => (x, y)
  | n + 1, x, y => if 2305843009213693952 ≤ big x y then down n (x / 2) (y / 2) else (x, y)
def dbl : Nat → Int → Int → Int × Int
  | 0, x, y => (x, y)
  | n + 1, x, y => if big x y < 1152921504606846976 then dbl n (x * 2) (y * 2) else (x, y)
def scd (x y : Int) : Int × Int := dbl 64 (down 64 x y).1 (down 64 x y).2
def opp (a : Int) : Int := if a = -9223372036854775808 then 9223372036854775807 else -a
def angle (y x : Int) : Int := if x = 0 ∧ y = 0 then 0 else if x < 0 then ((aS (scd (opp x) (opp y)).1 (scd (opp x) (opp y)).2 30).2.2 + 2147483648) % 4294967296 else (aS (scd x y).1 (scd x y).2 30).2.2 % 4294967296
end Go.Xv
namespace Go.Xv
theorem bp {α : Type} {c : Bool} {a b x : α} (h : c = true) (h2 : a = x) : (bif c then a else b) = x := by rw [h]; exact h2
theorem bn {α : Type} {c : Bool} {a b x : α} (h : c = false) (h2 : b = x) : (bif c then a else b) = x := by rw [h]; exact h2
theorem dt {p : Prop} [Decidable p] (h : p) : decide p = true := decide_eq_true h
theorem df {p : Prop} [Decidable p] (h : ¬ p) : decide p = false := decide_eq_false h
theorem fdiv_pos (a : Int) {b : Int} (h : 0 ≤ b) : Int.fdiv a b = a / b := Int.fdiv_eq_ediv_of_nonneg a h
theorem some_int {k : IntKind} {a b : Int} (h : a = b) : (some (VV.v (.int k a)) : R) = some (.v (.int k b)) := by rw [h]
end Go.Xv
namespace Go.Xv
theorem some_bool {a b : Bool} (h : a = b) : (some (VV.v (.bool a)) : R) = some (.v (.bool b)) := by rw [h]
theorem nn (k : Nat) : (!decide ((k : Int) < 0)) = true := by rw [df (by omega)]; rfl
theorem p2min {m : Nat} (h : m ≤ 64) : min (Int.toNat (m : Int)) 64 = m := by omega

end Go.Xv
namespace Go.Xv
theorem wi64_s (i : Nat) (h : i < 1000) : IntKind.wrap .i64 ((i : Int) + 1) = ((i + 1 : Nat) : Int) := by
  rw [wi64_in (by unfold I64; omega)]; push_cast; rfl
theorem ix_ok (i n : Nat) (h : i < n) : ((decide (0 ≤ (i : Int))) && (decide ((i : Int) < ((n : Nat) : Int)))) = true := by
  rw [dt (by omega), dt (by omega)]; rfl
end Go.Xv
namespace Go.Xv
def clipV (z : Int) : Int := if z < -9223372036854775808 then -9223372036854775808 else if 9223372036854775807 < z then 9223372036854775807 else z
def clipC (z : Int) : Bool := decide (z < -9223372036854775808 ∨ 9223372036854775807 < z)
theorem some_clip {n : Int} {c : Bool} {z : Int} (h : n = clipV z) (k : c = clipC z) : (some (VV.v (.tuple #[.int .i64 n, .bool c])) : R) = some (.v (.tuple #[.int .i64 (clipV z), .bool (clipC z)])) := by rw [h, k]
end Go.Xv
namespace Go.Xv
abbrev cp (z : Int) : VV := .v (.tuple #[.int .i64 (clipV z), .bool (clipC z)])
theorem clip_in {z : Int} (h : I64 z) : clipV z = z ∧ clipC z = false := by
  unfold I64 at h
  unfold clipV clipC
  exact ⟨by rw [if_neg (by omega), if_neg (by omega)], df (by omega)⟩

theorem f_fSub (F : Nat) {a b : Int} (ha : I64 a) (hb : I64 b) : f_fix_Sub F a b = some (cp (a - b)) := by
  unfold f_fix_Sub
  dsimp only
  have hs := wi64_I (a - b)
  have e := wi64 (a - b)
  generalize IntKind.wrap .i64 (a - b) = s at *
  have h1 := and_neg (xorI_I a b) (xorI_I a s)
  have h2 := xor_neg ha hb
  have h3 := xor_neg ha hs
  unfold I64 at ha hb hs
  by_cases h : -9223372036854775808 ≤ a - b ∧ a - b < 9223372036854775808
  · refine bp (dt ?_) (some_clip ?_ ?_)
    · have : ¬ andI .i64 (xorI .i64 a b) (xorI .i64 a s) < 0 := by
        rw [h1, h2, h3]; omega
      omega
    · rw [(clip_in h).1]; omega
    · rw [(clip_in h).2]
  · refine bn (df ?_) ?_
    · have : andI .i64 (xorI .i64 a b) (xorI .i64 a s) < 0 := by
        rw [h1, h2, h3]; omega
      omega
    · by_cases ha0 : a < 0
      · refine bp (dt ha0) (some_clip ?_ ?_)
        · unfold clipV; rw [if_pos (by omega)]
        · unfold clipC; exact (dt (by omega)).symm
      · refine bn (df ha0) (some_clip ?_ ?_)
        · unfold clipV; rw [if_neg (by omega), if_pos (by omega)]
        · unfold clipC; exact (dt (by omega)).symm
theorem a_fSub (F : Nat) {a b : Int} (ha : I64 a) (hb : I64 b) : ok_fix_Sub F a b = true ∧ o_fix_Sub_0 F a b = clipV (a - b) ∧ o_fix_Sub_1 F a b = clipC (a - b) := k_fix_Sub F _ _ (f_fSub F ha hb)
theorem I0 : I64 0 := by unfold I64; omega
theorem f_fNeg (F : Nat) {a : Int} (ha : I64 a) : f_fix_Neg F a = some (cp (-a)) := by
  unfold f_fix_Neg
  obtain ⟨h1, h2, h3⟩ := a_fSub F I0 ha
  refine bp h1 ?_
  rw [h2, h3, Int.zero_sub]
theorem a_fNeg (F : Nat) {a : Int} (ha : I64 a) : ok_fix_Neg F a = true ∧ o_fix_Neg_0 F a = clipV (-a) ∧ o_fix_Neg_1 F a = clipC (-a) := k_fix_Neg F _ (f_fNeg F ha)
theorem f_fClamp (F : Nat) {a l h : Int} : f_fix_Clamp F a l h = some (.v (.tuple #[.int .i64 (if h < l then l else min (max a l) h), .bool (if h < l then true else decide (min (max a l) h ≠ a))])) := by
  unfold f_fix_Clamp
  dsimp only
  by_cases hl : h < l
  · refine bp (dt hl) ?_
    rw [if_pos hl, if_pos hl]
  · refine bn (df hl) ?_
    rw [if_neg hl, if_neg hl]
    have e : (if h < (if l > a then l else a) then h else (if l > a then l else a)) = min (max a l) h := by split <;> (try split) <;> omega
    have e2 : (min (max a l) h != a) = decide (min (max a l) h ≠ a) := by rw [Bool.eq_iff_iff]; simp
    rw [e, e2]
end Go.Xv
namespace Go.Xv
theorem angL_get : ∀ i : Nat, i < 30 → isI .i64 [.v (.int .i64 536870912), .v (.int .i64 316933406), .v (.int .i64 167458907), .v (.int .i64 85004756), .v (.int .i64 42667331), .v (.int .i64 21354465), .v (.int .i64 10679838), .v (.int .i64 5340245), .v (.int .i64 2670163), .v (.int .i64 1335087), .v (.int .i64 667544), .v (.int .i64 333772), .v (.int .i64 166886), .v (.int .i64 83443), .v (.int .i64 41722), .v (.int .i64 20861), .v (.int .i64 10430), .v (.int .i64 5215), .v (.int .i64 2608), .v (.int .i64 1304), .v (.int .i64 652), .v (.int .i64 326), .v (.int .i64 163), .v (.int .i64 81), .v (.int .i64 41), .v (.int .i64 20), .v (.int .i64 10), .v (.int .i64 5), .v (.int .i64 3), .v (.int .i64 1)][i]? = true ∧ iv [.v (.int .i64 536870912), .v (.int .i64 316933406), .v (.int .i64 167458907), .v (.int .i64 85004756), .v (.int .i64 42667331), .v (.int .i64 21354465), .v (.int .i64 10679838), .v (.int .i64 5340245), .v (.int .i64 2670163), .v (.int .i64 1335087), .v (.int .i64 667544), .v (.int .i64 333772), .v (.int .i64 166886), .v (.int .i64 83443), .v (.int .i64 41722), .v (.int .i64 20861), .v (.int .i64 10430), .v (.int .i64 5215), .v (.int .i64 2608), .v (.int .i64 1304), .v (.int .i64 652), .v (.int .i64 326), .v (.int .i64 163), .v (.int .i64 81), .v (.int .i64 41), .v (.int .i64 20), .v (.int .i64 10), .v (.int .i64 5), .v (.int .i64 3), .v (.int .i64 1)][i]? = tA i := by decide
theorem zmul1 (i : Nat) : (Int.toNat (i : Int)) * 1 = i := by simp
theorem turnedF (F : Nat) {x y : Int} {i : Nat} (hi : i < 64) (o : Bool) (h1 : I64 (rotX i o x y)) (h2 : I64 (rotY i o x y)) : ok_turn_pair_turned F x y i o = true ∧ o_turn_pair_turned_0 F x y i o = rotX i o x y ∧ o_turn_pair_turned_1 F x y i o = rotY i o x y := by
  refine k_turn_pair_turned F _ _ _ _ ?_
  unfold f_turn_pair_turned
  have hd : (!decide ((i : Int) < 0)) = true := nn i
  have hP := p2pos i
  rw [hd, p2min (by omega), fdiv_pos _ (by omega), fdiv_pos _ (by omega)]
  simp only [cond_true]
  unfold rotX rotY at *
  cases o
  · simp only [Bool.false_eq_true, if_false, cond_false] at *
    rw [wi64_in h1, wi64_in h2]
  · simp only [if_true, cond_true] at *
    rw [wi64_in h1, wi64_in h2]
theorem unitF (F : Nat) (x : Int) : ok_turn_unit F x = true ∧ o_turn_unit_0 F x = cl01 x := by
  refine k_turn_unit F _ ?_
  unfold f_turn_unit
  obtain ⟨h1, h2, h3⟩ := k_fix_Clamp F _ _ _ (f_fClamp F (a := x) (l := 0) (h := 4294967296))
  rw [h1, h2]
  rfl
theorem lp_turn_Both_0 (F : Nat) (ex) {z : Int} (hz : 0 ≤ z ∧ z < 1073741824) (x0 x1 x2 : Int) : ∀ (k n i : Nat) (x3 x34 x35 x36 : Int), i + k = 30 → k < n → x34 = i → x35 = (bS z i).1 → x36 = (bS z i).2.1 → x3 = (bS z i).2.2 →
    L_turn_Both_0 F ex n x0 x1 x2 x3 536870912 316933406 167458907 85004756 42667331 21354465 10679838 5340245 2670163 1335087 667544 333772 166886 83443 41722 20861 10430 5215 2608 1304 652 326 163 81 41 20 10 5 3 1 x34 x35 x36 = ex x0 x1 x2 (bS z 30).2.2 536870912 316933406 167458907 85004756 42667331 21354465 10679838 5340245 2670163 1335087 667544 333772 166886 83443 41722 20861 10430 5215 2608 1304 652 326 163 81 41 20 10 5 3 1 30 (bS z 30).1 (bS z 30).2.1
  | _, 0, _, _, _, _, _, _, h, _, _, _, _ => absurd h (by omega)
  | 0, n + 1, i, _, _, _, _, h, _, rfl, rfl, rfl, rfl => by
    obtain rfl : i = 30 := by omega
    rw [L_turn_Both_0]
    unfold B_turn_Both_0
    exact bn (df (by omega)) rfl
  | k + 1, n + 1, i, _, _, _, _, h, hn, rfl, rfl, rfl, rfl => by
    have hi' : i < 30 := by omega
    obtain ⟨g1, g2⟩ := angL_get i hi'
    have b1 := bS_I z (i := i + 1) (by omega)
    have b2 := bS_z hz (i := i) (by omega)
    have b3 := tA_bd i hi'
    obtain ⟨t1, t2, t3⟩ := turnedF F (x := (bS z i).1) (y := (bS z i).2.1) (i := i) (by omega) (decide (0 ≤ (bS z i).2.2)) (by simp only [bS] at b1; unfold I64; omega) (by simp only [bS] at b1; unfold I64; omega)
    rw [L_turn_Both_0]
    unfold B_turn_Both_0
    refine bp (dt (by omega)) (bp (by rw [zmul1, g1, show ((decide (0 ≤ (i : Int))) && (decide ((i : Int) < 30))) = true from ix_ok i 30 hi']; rfl) ?_)
    rw [zmul1, g2]
    have eg : decide ((bS z i).2.2 ≥ 0) = decide (0 ≤ (bS z i).2.2) := rfl
    rw [eg]
    refine bp t1 ?_
    rw [t2, t3]
    have w1 : IntKind.wrap .i64 ((i : Int) + 1) = ((i + 1 : Nat) : Int) := wi64_s i (by omega)
    rw [w1]
    by_cases hs : 0 ≤ (bS z i).2.2
    · refine bp (dt hs) ?_
      refine lp_turn_Both_0 F ex hz x0 x1 x2 k n (i + 1) _ _ _ _ (by omega) (by omega) rfl rfl rfl ?_
      simp only [bS]
      rw [if_pos hs, wi64_in (x := 0 - tA i) (by unfold I64; omega), wi64_in (by unfold I64; omega)]
      omega
    · refine bn (df hs) ?_
      refine lp_turn_Both_0 F ex hz x0 x1 x2 k n (i + 1) _ _ _ _ (by omega) (by omega) rfl rfl rfl ?_
      simp only [bS]
      rw [if_neg hs, wi64_in (by unfold I64; omega)]
theorem mask30_u32 {a : Int} (ha : U32 a) : andI .u32 a 1073741823 = a % 1073741824 := by
  have e : andI .u32 a 1073741823 = IntKind.wrap .u32 ((BitVec.ofInt 32 a &&& BitVec.ofInt 32 1073741823).toNat : Int) := rfl
  unfold U32 at ha
  have h1 : (BitVec.ofInt 32 a).toNat = a.toNat := by simp only [BitVec.toNat_ofInt]; omega
  have h2 : (BitVec.ofInt 32 1073741823).toNat = 2 ^ 30 - 1 := by decide
  rw [e, BitVec.toNat_and, h1, h2, Nat.and_two_pow_sub_one_eq_mod, wu32]
  omega
theorem angF (F : Nat) : ok_turn_angles F = true ∧ o_turn_angles_0 F = 536870912 ∧ o_turn_angles_1 F = 316933406 ∧ o_turn_angles_2 F = 167458907 ∧ o_turn_angles_3 F = 85004756 ∧ o_turn_angles_4 F = 42667331 ∧ o_turn_angles_5 F = 21354465 ∧ o_turn_angles_6 F = 10679838 ∧ o_turn_angles_7 F = 5340245 ∧ o_turn_angles_8 F = 2670163 ∧ o_turn_angles_9 F = 1335087 ∧ o_turn_angles_10 F = 667544 ∧ o_turn_angles_11 F = 333772 ∧ o_turn_angles_12 F = 166886 ∧ o_turn_angles_13 F = 83443 ∧ o_turn_angles_14 F = 41722 ∧ o_turn_angles_15 F = 20861 ∧ o_turn_angles_16 F = 10430 ∧ o_turn_angles_17 F = 5215 ∧ o_turn_angles_18 F = 2608 ∧ o_turn_angles_19 F = 1304 ∧ o_turn_angles_20 F = 652 ∧ o_turn_angles_21 F = 326 ∧ o_turn_angles_22 F = 163 ∧ o_turn_angles_23 F = 81 ∧ o_turn_angles_24 F = 41 ∧ o_turn_angles_25 F = 20 ∧ o_turn_angles_26 F = 10 ∧ o_turn_angles_27 F = 5 ∧ o_turn_angles_28 F = 3 ∧ o_turn_angles_29 F = 1 := k_turn_angles F rfl
theorem some_two {a b c d : Int} (h : a = c) (k : b = d) : (some (VV.v (.tuple #[.int .i64 a, .int .i64 b])) : R) = some (.v (.tuple #[.int .i64 c, .int .i64 d])) := by rw [h, k]
theorem f_tBoth (F : Nat) (hF : 200 ≤ F) {a : Int} (ha : U32 a) : f_turn_Both F a = some (.v (.tuple #[.int .i64 (bothC a), .int .i64 (bothS a)])) := by
  unfold f_turn_Both
  obtain ⟨h0, e0, e1, e2, e3, e4, e5, e6, e7, e8, e9, e10, e11, e12, e13, e14, e15, e16, e17, e18, e19, e20, e21, e22, e23, e24, e25, e26, e27, e28, e29⟩ := angF F
  refine bp h0 ?_
  rw [e0, e1, e2, e3, e4, e5, e6, e7, e8, e9, e10, e11, e12, e13, e14, e15, e16, e17, e18, e19, e20, e21, e22, e23, e24, e25, e26, e27, e28, e29, mask30_u32 ha]
  have hz : 0 ≤ a % 1073741824 ∧ a % 1073741824 < 1073741824 := by omega
  rw [wi64_in (x := a % 1073741824) (by unfold I64; omega), lp_turn_Both_0 F _ hz a 0 0 30 F 0 (a % 1073741824) 0 2608131496 0 (by omega) (by omega) rfl rfl rfl rfl]
  obtain ⟨u1, u2⟩ := unitF F (bS (a % 1073741824) 30).1
  obtain ⟨v1, v2⟩ := unitF F (bS (a % 1073741824) 30).2.1
  refine bp u1 (bp v1 ?_)
  rw [u2, v2]
  obtain ⟨F, rfl⟩ : ∃ G, F = G + 4 := ⟨F - 4, by omega⟩
  have c1 := cl01_bd (bS (a % 1073741824) 30).1
  have c2 := cl01_bd (bS (a % 1073741824) 30).2.1
  unfold U32 at ha
  have w0 : IntKind.wrap .u32 (0 + 1) = 1 := by rw [wu32]; omega
  have w1 : IntKind.wrap .u32 (1 + 1) = 2 := by rw [wu32]; omega
  have w2 : IntKind.wrap .u32 (2 + 1) = 3 := by rw [wu32]; omega
  have eC : cl01 (bS (a % 1073741824) 30).1 = bC a := rfl
  have eN : cl01 (bS (a % 1073741824) 30).2.1 = bN a := rfl
  rw [eC] at c1 ⊢
  rw [eN] at c2 ⊢
  rw [fdiv_pos _ (by decide)]
  have n1 : IntKind.wrap .i64 (0 - bN a) = -bN a := by rw [wi64_in (by unfold I64; omega)]; omega
  have n2 : IntKind.wrap .i64 (0 - bC a) = -bC a := by rw [wi64_in (by unfold I64; omega)]; omega
  have n3 : IntKind.wrap .i64 (0 - -bN a) = bN a := by rw [wi64_in (by unfold I64; omega)]; omega
  unfold bothC bothS
  rw [L_turn_Both_1]
  unfold B_turn_Both_1
  by_cases q0 : a / 1073741824 = 0
  · refine bn (df (by omega)) (some_two ?_ ?_) <;> rw [if_pos q0]
  · refine bp (dt (by omega)) ?_
    rw [w0, n1, L_turn_Both_1]
    unfold B_turn_Both_1
    by_cases q1 : a / 1073741824 = 1
    · refine bn (df (by omega)) (some_two ?_ ?_) <;> rw [if_neg q0, if_pos q1]
    · refine bp (dt (by omega)) ?_
      rw [w1, n2, L_turn_Both_1]
      unfold B_turn_Both_1
      by_cases q2 : a / 1073741824 = 2
      · refine bn (df (by omega)) (some_two ?_ ?_) <;> rw [if_neg q0, if_neg q1, if_pos q2]
      · refine bp (dt (by omega)) ?_
        rw [w2, n3, L_turn_Both_1]
        unfold B_turn_Both_1
        refine bn (df (by omega)) (some_two ?_ ?_) <;> rw [if_neg q0, if_neg q1, if_neg q2]
theorem a_tBoth (F : Nat) (hF : 200 ≤ F) {a : Int} (ha : U32 a) : ok_turn_Both F a = true ∧ o_turn_Both_0 F a = bothC a ∧ o_turn_Both_1 F a = bothS a := k_turn_Both F _ (f_tBoth F hF ha)
theorem I64_half {x : Int} (h : I64 x) (i : Nat) : I64 (x / 2 ^ i) := by
  unfold I64 at *
  have := ediv_bd (y := x) (B := 9223372036854775808) (by omega) i
  refine ⟨by omega, ?_⟩
  have hP := p2pos i
  rcases Int.lt_or_le x 0 with hn | hn
  · have := Int.ediv_neg_of_neg_of_pos hn hP; omega
  · have := Int.ediv_le_self (2 ^ i) hn; omega
end Go.Xv
namespace Go.Xv
theorem sz_half (x : Int) : 2 * sz (x / 2) ≤ sz x + 1 := by unfold sz; split <;> split <;> omega
theorem sz_dbl (x : Int) : sz (x * 2) = 2 * sz x := by unfold sz; split <;> split <;> omega
theorem big_half (x y : Int) : 2 * big (x / 2) (y / 2) ≤ big x y + 1 := by
  have := sz_half x
  have := sz_half y
  unfold big; omega
theorem big_dbl (x y : Int) : big (x * 2) (y * 2) = 2 * big x y := by unfold big; rw [sz_dbl, sz_dbl]; omega
theorem down_small {x y : Int} (h : big x y < 2305843009213693952) : ∀ m, down m x y = (x, y)
  | 0 => rfl
  | m + 1 => by rw [down, if_neg (by omega)]
theorem down_end : ∀ (m k : Nat) (x y : Int), big x y ≤ 2305843009213693952 * 2 ^ k → k < m → big (down m x y).1 (down m x y).2 < 2305843009213693952
  | 0, _, _, _, _, h => absurd h (by omega)
  | m + 1, k, x, y, h, hk => by
    rw [down]
    split
    · have h2 := big_half x y
      cases k with
      | zero =>
        have hs : big (x / 2) (y / 2) < 2305843009213693952 := by simp at h; omega
        rw [down_small hs]
        exact hs
      | succ k =>
        refine down_end m k _ _ ?_ (by omega)
        have e : (2 : Int) ^ (k + 1) = 2 * 2 ^ k := by rw [Int.pow_succ]; omega
        rw [e] at h
        omega
    · dsimp only; omega
theorem dbl_end : ∀ (m : Nat) (x y : Int), 1152921504606846976 ≤ big x y * 2 ^ m → 1152921504606846976 ≤ big (dbl m x y).1 (dbl m x y).2
  | 0, x, y, h => by simp [dbl] at h ⊢; omega
  | m + 1, x, y, h => by
    rw [dbl]
    split
    · refine dbl_end m _ _ ?_
      rw [big_dbl, show 2 * big x y * 2 ^ m = big x y * (2 ^ m * 2) by rw [Int.mul_comm 2 (big x y), Int.mul_assoc, Int.mul_comm 2], ← Int.pow_succ]
      exact h
    · dsimp only; omega
theorem dbl_lt : ∀ (m : Nat) (x y : Int), big x y < 2305843009213693952 → big (dbl m x y).1 (dbl m x y).2 < 2305843009213693952
  | 0, x, y, h => h
  | m + 1, x, y, h => by
    rw [dbl]
    split
    · exact dbl_lt m _ _ (by rw [big_dbl]; omega)
    · exact h
theorem down_pos : ∀ (m : Nat) (x y : Int), 1 ≤ big x y → 1 ≤ big (down m x y).1 (down m x y).2
  | 0, x, y, h => h
  | m + 1, x, y, h => by
    rw [down]
    split
    · refine down_pos m _ _ ?_
      have : ∀ z : Int, 2305843009213693952 ≤ sz z → 1 ≤ sz (z / 2) := by intro z; unfold sz; split <;> split <;> omega
      have h1 := this x
      have h2 := this y
      unfold big at *
      omega
    · exact h
theorem big_I {x y : Int} (hx : I64 x) (hy : I64 y) : big x y ≤ 2305843009213693952 * 2 ^ 2 := by
  unfold I64 at *
  unfold big sz
  split <;> split <;> omega
theorem scd_bd {x y : Int} (hx : I64 x) (hy : I64 y) (h : 1 ≤ big x y) : 1152921504606846976 ≤ big (scd x y).1 (scd x y).2 ∧ big (scd x y).1 (scd x y).2 < 2305843009213693952 := by
  have h1 := down_end 64 2 x y (big_I hx hy) (by omega)
  have h2 := down_pos 64 x y h
  unfold scd
  refine ⟨dbl_end 64 _ _ ?_, dbl_lt 64 _ _ h1⟩
  omega
theorem sz_I {x y : Int} (h : big x y < 9223372036854775808) : I64 x ∧ I64 y := by
  unfold big sz at h
  unfold I64
  split at h <;> split at h <;> omega
theorem down_sgn : ∀ (m : Nat) (x y : Int), 0 ≤ x → 0 ≤ (down m x y).1
  | 0, _, _, h => h
  | m + 1, x, y, h => by
    rw [down]
    split
    · exact down_sgn m _ _ (by omega)
    · exact h
theorem dbl_sgn : ∀ (m : Nat) (x y : Int), 0 ≤ x → 0 ≤ (dbl m x y).1
  | 0, _, _, h => h
  | m + 1, x, y, h => by
    rw [dbl]
    split
    · exact dbl_sgn m _ _ (by omega)
    · exact h
theorem scd_sgn {x y : Int} (h : 0 ≤ x) : 0 ≤ (scd x y).1 := dbl_sgn 64 _ _ (down_sgn 64 _ _ h)
theorem opp_I {a : Int} (h : I64 a) : I64 (opp a) := by unfold opp; unfold I64 at *; split <;> omega
theorem a_size (F : Nat) {a : Int} (h : I64 a) : ok_turn_size F a = true ∧ o_turn_size_0 F a = sz a := by
  refine k_turn_size F _ ?_
  unfold f_turn_size sz
  unfold I64 at h
  by_cases hs : a < 0
  · refine bp (dt hs) ?_
    rw [if_pos hs, wu64, wu64]
    congr 3
    omega
  · refine bn (df hs) ?_
    rw [if_neg hs, wu64]
    congr 3
    omega
theorem mx {a b : Int} : (if b > a then b else a) = max a b := by split <;> omega
theorem lp_scaled_0 (F : Nat) (ex) (x0 x1 x4 x5 : Int) : ∀ (m n : Nat) (x y : Int), I64 x → I64 y → m < n → big (down m x y).1 (down m x y).2 < 2305843009213693952 →
    L_turn_pair_scaled_0 F ex n x0 x1 x y x4 x5 = ex x0 x1 (down m x y).1 (down m x y).2 x4 x5
  | _, 0, _, _, _, _, h, _ => absurd h (by omega)
  | 0, n + 1, x, y, hx, hy, _, h => by
    rw [L_turn_pair_scaled_0]
    unfold B_turn_pair_scaled_0
    obtain ⟨a1, a2⟩ := a_size F hx
    obtain ⟨b1, b2⟩ := a_size F hy
    refine bp a1 (bp b1 ?_)
    rw [a2, b2]
    dsimp only
    rw [mx]
    exact bn (df (by unfold big down at h; dsimp only at h; omega)) rfl
  | m + 1, n + 1, x, y, hx, hy, hm, h => by
    rw [L_turn_pair_scaled_0]
    unfold B_turn_pair_scaled_0
    obtain ⟨a1, a2⟩ := a_size F hx
    obtain ⟨b1, b2⟩ := a_size F hy
    refine bp a1 (bp b1 ?_)
    rw [a2, b2]
    dsimp only
    rw [mx]
    rw [down] at h ⊢
    by_cases hc : 2305843009213693952 ≤ big x y
    · rw [if_pos hc] at h ⊢
      refine bp (dt hc) ?_
      rw [fdiv_pos _ (by decide), fdiv_pos _ (by decide)]
      exact lp_scaled_0 F ex x0 x1 x4 x5 m n _ _ (I64_half hx 1) (I64_half hy 1) (by omega) h
    · rw [if_neg hc]
      exact bn (df hc) rfl
theorem lp_scaled_1 (F : Nat) (ex) (x0 x1 x4 x5 : Int) : ∀ (m n : Nat) (x y : Int), I64 x → I64 y → m < n → 1152921504606846976 ≤ big (dbl m x y).1 (dbl m x y).2 →
    L_turn_pair_scaled_1 F ex n x0 x1 x y x4 x5 = ex x0 x1 (dbl m x y).1 (dbl m x y).2 x4 x5
  | _, 0, _, _, _, _, h, _ => absurd h (by omega)
  | 0, n + 1, x, y, hx, hy, _, h => by
    rw [L_turn_pair_scaled_1]
    unfold B_turn_pair_scaled_1
    obtain ⟨a1, a2⟩ := a_size F hx
    obtain ⟨b1, b2⟩ := a_size F hy
    refine bp a1 (bp b1 ?_)
    rw [a2, b2]
    dsimp only
    rw [mx]
    exact bn (df (by unfold big dbl at h; dsimp only at h; omega)) rfl
  | m + 1, n + 1, x, y, hx, hy, hm, h => by
    rw [L_turn_pair_scaled_1]
    unfold B_turn_pair_scaled_1
    obtain ⟨a1, a2⟩ := a_size F hx
    obtain ⟨b1, b2⟩ := a_size F hy
    refine bp a1 (bp b1 ?_)
    rw [a2, b2]
    dsimp only
    rw [mx]
    rw [dbl] at h ⊢
    by_cases hc : big x y < 1152921504606846976
    · rw [if_pos hc] at h ⊢
      refine bp (dt hc) ?_
      obtain ⟨i1, i2⟩ := sz_I (x := x * 2) (y := y * 2) (by rw [big_dbl]; omega)
      rw [wi64_in i1, wi64_in i2]
      exact lp_scaled_1 F ex x0 x1 x4 x5 m n _ _ i1 i2 (by omega) h
    · rw [if_neg hc]
      exact bn (df hc) rfl
theorem a_scaled (F : Nat) (hF : 200 ≤ F) {x y : Int} (hx : I64 x) (hy : I64 y) (h : 1 ≤ big x y) : ok_turn_pair_scaled F x y = true ∧ o_turn_pair_scaled_0 F x y = (scd x y).1 ∧ o_turn_pair_scaled_1 F x y = (scd x y).2 := by
  refine k_turn_pair_scaled F _ _ ?_
  unfold f_turn_pair_scaled
  have h1 := down_end 64 2 x y (big_I hx hy) (by omega)
  have h2 := down_pos 64 x y h
  obtain ⟨i1, i2⟩ := sz_I (x := (down 64 x y).1) (y := (down 64 x y).2) (by omega)
  rw [lp_scaled_0 F _ x y 0 0 64 F x y hx hy (by omega) h1]
  rw [lp_scaled_1 F _ x y 0 0 64 F _ _ i1 i2 (by omega) (dbl_end 64 _ _ (by omega))]
  rfl
/-- bounds of the steps -/
theorem aS_bd {x y : Int} (hx : 0 ≤ x ∧ x ≤ 2305843009213693952) (hy : -2305843009213693952 ≤ y ∧ y ≤ 2305843009213693952) : ∀ {i : Nat}, i ≤ 30 →
    (0 ≤ (aS x y i).1 ∧ (aS x y i).1 ≤ 6917529027641081856 - 2 * 2 ^ (61 - i)) ∧ (-2305843009213693952 ≤ (aS x y i).2.1 ∧ (aS x y i).2.1 ≤ 2305843009213693952) ∧ (-(536870912 * (i : Int)) ≤ (aS x y i).2.2 ∧ (aS x y i).2.2 ≤ 536870912 * (i : Int))
  | 0, _ => by simp only [aS]; omega
  | i + 1, h => by
    obtain ⟨h1, h2, h3⟩ := aS_bd hx hy (i := i) (by omega)
    have ht := tA_bd i (by omega)
    have hPQ : (2 : Int) ^ (61 - i) * 2 ^ i = 2305843009213693952 := by rw [p2add, show 61 - i + i = 61 by omega]; decide
    have e : (2 : Int) * 2 ^ (61 - (i + 1)) = 2 ^ (61 - i) := by
      rw [show 61 - i = (61 - (i + 1)) + 1 by omega, Int.pow_succ]; omega
    rw [e]
    have hQ := p2pos i
    have hP := p2pos (61 - i)
    have hx2 : (aS x y i).1 ≤ 2305843009213693952 * 2 ^ i := by
      match i, h1, hPQ with
      | 0, h1, _ => simp at h1 ⊢; omega
      | 1, h1, _ => simp at h1 ⊢; omega
      | i + 2, h1, _ =>
        have : (2 : Int) ^ (i + 2) = 4 * 2 ^ i := by rw [Int.pow_succ, Int.pow_succ]; omega
        have := p2pos i
        omega
    have hq0 : 0 ≤ (aS x y i).1 / 2 ^ i := Int.ediv_nonneg h1.1 (by omega)
    have hq1 : (aS x y i).1 / 2 ^ i ≤ 2305843009213693952 := Int.ediv_le_of_le_mul hQ hx2
    simp only [aS]
    have hy0 : (aS x y i).2.1 / 2 ^ i ≤ 2 ^ (61 - i) := Int.ediv_le_of_le_mul hQ (by rw [hPQ]; omega)
    have hy1 : -(2 ^ (61 - i)) ≤ (aS x y i).2.1 / 2 ^ i := (Int.le_ediv_iff_mul_le hQ).2 (by rw [Int.neg_mul, hPQ]; omega)
    by_cases hs : (aS x y i).2.1 < 0
    · have hn : (aS x y i).2.1 / 2 ^ i < 0 := Int.ediv_neg_of_neg_of_pos hs hQ
      simp only [hs, decide_true, if_true, rotX, rotY]
      push_cast
      omega
    · have hn : 0 ≤ (aS x y i).2.1 / 2 ^ i := Int.ediv_nonneg (by omega) (by omega)
      simp only [hs, decide_false, if_false, rotX, rotY, Bool.false_eq_true]
      push_cast
      omega
theorem aS_I {x y : Int} (hx : 0 ≤ x ∧ x ≤ 2305843009213693952) (hy : -2305843009213693952 ≤ y ∧ y ≤ 2305843009213693952) {i : Nat} (h : i ≤ 30) : I64 (aS x y i).1 ∧ I64 (aS x y i).2.1 := by
  obtain ⟨h1, h2, _⟩ := aS_bd hx hy h
  have := p2pos (61 - i)
  unfold I64
  omega
theorem lp_turn_Angle_0 (F : Nat) (ex) {x y z : Int} (hx : 0 ≤ x ∧ x ≤ 2305843009213693952) (hy : -2305843009213693952 ≤ y ∧ y ≤ 2305843009213693952) (x0 x1 x2 : Int) : ∀ (k n i : Nat) (x3 x34 x35 x36 : Int), i + k = 30 → k < n → x34 = i → x35 = (aS x y i).1 → x36 = (aS x y i).2.1 → x3 = ((aS x y i).2.2 + z) % 4294967296 →
    L_turn_Angle_0 F ex n x0 x1 x2 x3 536870912 316933406 167458907 85004756 42667331 21354465 10679838 5340245 2670163 1335087 667544 333772 166886 83443 41722 20861 10430 5215 2608 1304 652 326 163 81 41 20 10 5 3 1 x34 x35 x36 = ex x0 x1 x2 (((aS x y 30).2.2 + z) % 4294967296) 536870912 316933406 167458907 85004756 42667331 21354465 10679838 5340245 2670163 1335087 667544 333772 166886 83443 41722 20861 10430 5215 2608 1304 652 326 163 81 41 20 10 5 3 1 30 (aS x y 30).1 (aS x y 30).2.1
  | _, 0, _, _, _, _, _, _, h, _, _, _, _ => absurd h (by omega)
  | 0, n + 1, i, _, _, _, _, h, _, rfl, rfl, rfl, rfl => by
    obtain rfl : i = 30 := by omega
    rw [L_turn_Angle_0]
    unfold B_turn_Angle_0
    exact bn (df (by omega)) rfl
  | k + 1, n + 1, i, _, _, _, _, h, hn, rfl, rfl, rfl, rfl => by
    have hi' : i < 30 := by omega
    obtain ⟨g1, g2⟩ := angL_get i hi'
    obtain ⟨b1, b2⟩ := aS_I hx hy (i := i + 1) (by omega)
    have b3 := tA_bd i hi'
    obtain ⟨t1, t2, t3⟩ := turnedF F (x := (aS x y i).1) (y := (aS x y i).2.1) (i := i) (by omega) (decide ((aS x y i).2.1 < 0)) b1 b2
    rw [L_turn_Angle_0]
    unfold B_turn_Angle_0
    refine bp (dt (by omega)) (bp (by rw [zmul1, g1, show ((decide (0 ≤ (i : Int))) && (decide ((i : Int) < 30))) = true from ix_ok i 30 hi']; rfl) ?_)
    rw [zmul1, g2]
    refine bp t1 ?_
    rw [t2, t3]
    have w1 : IntKind.wrap .i64 ((i : Int) + 1) = ((i + 1 : Nat) : Int) := wi64_s i (by omega)
    rw [w1]
    by_cases hs : (aS x y i).2.1 < 0
    · refine bp (dt hs) ?_
      refine lp_turn_Angle_0 F ex hx hy x0 x1 x2 k n (i + 1) _ _ _ _ (by omega) (by omega) rfl rfl rfl ?_
      simp only [aS]
      rw [if_pos hs, wi64_in (x := 0 - tA i) (by unfold I64; omega), wu32, wu32]
      omega
    · refine bn (df hs) ?_
      refine lp_turn_Angle_0 F ex hx hy x0 x1 x2 k n (i + 1) _ _ _ _ (by omega) (by omega) rfl rfl rfl ?_
      simp only [aS]
      rw [if_neg hs, wu32, wu32]
      omega
end Go.Xv
namespace Go.Xv
theorem clip_opp {a : Int} (h : I64 a) : clipV (-a) = opp a := by
  unfold clipV opp; unfold I64 at h
  split <;> (try split) <;> (try split) <;> omega
theorem a_opp (F : Nat) {x y : Int} (hx : I64 x) (hy : I64 y) : ok_turn_opposite F x y = true ∧ o_turn_opposite_0 F x y = opp x ∧ o_turn_opposite_1 F x y = opp y := by
  refine k_turn_opposite F _ _ ?_
  unfold f_turn_opposite
  obtain ⟨h1, h2, _⟩ := a_fNeg F hx
  obtain ⟨g1, g2, _⟩ := a_fNeg F hy
  refine bp h1 (bp g1 ?_)
  rw [h2, g2, clip_opp hx, clip_opp hy]
theorem big_one {x y : Int} (h : ¬ (x = 0 ∧ y = 0)) : 1 ≤ big x y := by
  unfold big sz
  split <;> split <;> omega
theorem opp_pos {x : Int} (hx : I64 x) (h : x < 0) : 1 ≤ opp x := by unfold opp; split <;> omega
theorem big_to {x y : Int} (h : big x y < 2305843009213693952) (h0 : 0 ≤ x) : (0 ≤ x ∧ x ≤ 2305843009213693952) ∧ -2305843009213693952 ≤ y ∧ y ≤ 2305843009213693952 := by
  unfold big sz at h
  split at h <;> split at h <;> omega
theorem some_u32 {a b : Int} (h : a = b) : (some (VV.v (.int .u32 a)) : R) = some (.v (.int .u32 b)) := by rw [h]
theorem f_tAngle (F : Nat) (hF : 200 ≤ F) {y x : Int} (hy : I64 y) (hx : I64 x) : f_turn_Angle F y x = some (.v (.int .u32 (angle y x))) := by
  unfold f_turn_Angle
  obtain ⟨h0, e0, e1, e2, e3, e4, e5, e6, e7, e8, e9, e10, e11, e12, e13, e14, e15, e16, e17, e18, e19, e20, e21, e22, e23, e24, e25, e26, e27, e28, e29⟩ := angF F
  rw [e0, e1, e2, e3, e4, e5, e6, e7, e8, e9, e10, e11, e12, e13, e14, e15, e16, e17, e18, e19, e20, e21, e22, e23, e24, e25, e26, e27, e28, e29]
  have neg : x < 0 → angle y x = ((aS (scd (opp x) (opp y)).1 (scd (opp x) (opp y)).2 30).2.2 + 2147483648) % 4294967296 := by
    intro h; unfold angle; rw [if_neg (by omega), if_pos h]
  have pos : ¬ x < 0 → ¬ (x = 0 ∧ y = 0) → angle y x = ((aS (scd x y).1 (scd x y).2 30).2.2 + 0) % 4294967296 := by
    intro h h2; unfold angle; rw [if_neg h2, if_neg h, Int.add_zero]
  by_cases x0 : x = 0
  · refine bp (by simp [x0]) ?_
    by_cases y0 : y = 0
    · refine bp (by simp [y0]) (some_u32 ?_)
      unfold angle
      rw [if_pos ⟨x0, y0⟩]
    · have hb := big_one (x := x) (y := y) (by omega)
      obtain ⟨s1, s2, s3⟩ := a_scaled F hF hx hy hb
      obtain ⟨b1, b2⟩ := big_to (scd_bd hx hy hb).2 (scd_sgn (by omega))
      refine bn (by simp [y0]) (bn (df (by omega)) (bp s1 (bp h0 ?_)))
      rw [s2, s3, lp_turn_Angle_0 F _ (z := 0) b1 b2 _ _ _ 30 F 0 0 0 (scd x y).1 (scd x y).2 (by omega) (by omega) rfl rfl rfl rfl]
      exact some_u32 (pos (by omega) (by omega)).symm
  · refine bn (by simp [x0]) ?_
    by_cases hn : x < 0
    · have hb := big_one (x := opp x) (y := opp y) (by have := opp_pos hx hn; omega)
      obtain ⟨o1, o2, o3⟩ := a_opp F hx hy
      obtain ⟨s1, s2, s3⟩ := a_scaled F hF (opp_I hx) (opp_I hy) hb
      obtain ⟨b1, b2⟩ := big_to (scd_bd (opp_I hx) (opp_I hy) hb).2 (scd_sgn (by have := opp_pos hx hn; omega))
      refine bp (dt hn) (bp o1 ?_)
      rw [o2, o3]
      refine bp s1 (bp h0 ?_)
      rw [s2, s3, lp_turn_Angle_0 F _ (z := 2147483648) b1 b2 _ _ _ 30 F 0 2147483648 0 (scd (opp x) (opp y)).1 (scd (opp x) (opp y)).2 (by omega) (by omega) rfl rfl rfl rfl]
      exact some_u32 (neg hn).symm
    · have hb := big_one (x := x) (y := y) (by omega)
      obtain ⟨s1, s2, s3⟩ := a_scaled F hF hx hy hb
      obtain ⟨b1, b2⟩ := big_to (scd_bd hx hy hb).2 (scd_sgn (by omega))
      refine bn (df hn) (bp s1 (bp h0 ?_))
      rw [s2, s3, lp_turn_Angle_0 F _ (z := 0) b1 b2 _ _ _ 30 F 0 0 0 (scd x y).1 (scd x y).2 (by omega) (by omega) rfl rfl rfl rfl]
      exact some_u32 (pos hn (by omega)).symm
theorem a_tAngle (F : Nat) (hF : 200 ≤ F) {y x : Int} (hy : I64 y) (hx : I64 x) : ok_turn_Angle F y x = true ∧ o_turn_Angle_0 F y x = angle y x := k_turn_Angle F _ _ (f_tAngle F hF hy hx)
theorem angle_U (y x : Int) : U32 (angle y x) := by unfold angle U32; split <;> (try split) <;> omega
def wayV (a b : Int) : Int := (b - a + 2147483648) % 4294967296 - 2147483648
theorem a_Way (F : Nat) (a b : Int) : ok_turn_Way F a b = true ∧ o_turn_Way_0 F a b = wayV a b := by
  refine k_turn_Way F _ _ ?_
  unfold f_turn_Way wayV
  refine some_int ?_
  rw [wi32, wu32]; omega
theorem a_near (F : Nat) {a b n : Int} (ha : U32 a) (hb : U32 b) (hn : 0 ≤ n ∧ n < 1000000) : ok_law05_near F a b n = true ∧ o_law05_near_0 F a b n = decide (wayV b a ≤ n ∧ -n ≤ wayV b a) := by
  refine k_law05_near F _ _ _ ?_
  unfold f_law05_near
  have e : IntKind.wrap .i32 (IntKind.wrap .u32 (a - b)) = wayV b a := by unfold wayV; rw [wi32, wu32]; omega
  rw [e, wi32_in (x := 0 - n) (by unfold I32; omega)]
  dsimp only
  by_cases h1 : wayV b a ≤ n
  · refine bp (dt h1) (some_bool ?_)
    rw [Bool.eq_iff_iff]
    simp only [decide_eq_true_eq]
    omega
  · refine bn (df h1) (some_bool ?_)
    rw [df (by omega)]
theorem f_works05 (F : Nat) (hF : 200 ≤ F) : f_law05_works F = some (.v (.bool true)) := by
  unfold f_law05_works
  obtain ⟨h1, h2, h3⟩ := a_tBoth F hF (a := 0) (by unfold U32; omega)
  obtain ⟨g1, g2⟩ := a_tAngle F hF (y := 4294967296) (x := 4294967296) (by unfold I64; omega) (by unfold I64; omega)
  obtain ⟨n1, n2⟩ := a_near F (a := angle 4294967296 4294967296) (b := 536870912) (n := 256) (angle_U _ _) (by unfold U32; omega) (by omega)
  obtain ⟨w1, w2⟩ := a_Way F 1 0
  have e1 : wayV 536870912 (angle 4294967296 4294967296) ≤ 256 ∧ -256 ≤ wayV 536870912 (angle 4294967296 4294967296) := by decide +kernel
  have e2 : bothC 0 > 4294966272 := by decide +kernel
  have e3 : bothS 0 < 1024 := by decide +kernel
  refine bp h1 (bp g1 ?_)
  rw [g2]
  refine bp n1 (bp (by rw [n2]; exact dt e1) (bp w1 (bp (by rw [w2]; decide) (bp (by rw [h2]; exact dt e2) (some_bool ?_)))))
  rw [h3]
  exact dt e3
theorem a_works05 (F : Nat) (hF : 200 ≤ F) : ok_law05_works F = true ∧ o_law05_works_0 F = true := k_law05_works F (f_works05 F hF)
end Go.Xv
namespace Go.Xv
structure Cx where
  re : Rat
  im : Rat
namespace Cx
def mul (a b : Cx) : Cx := ⟨a.re * b.re - a.im * b.im, a.re * b.im + a.im * b.re⟩
def add (a b : Cx) : Cx := ⟨a.re + b.re, a.im + b.im⟩
def sub (a b : Cx) : Cx := ⟨a.re - b.re, a.im - b.im⟩
def cj (a : Cx) : Cx := ⟨a.re, -a.im⟩
def sc (r : Rat) (a : Cx) : Cx := ⟨r * a.re, r * a.im⟩
def one : Cx := ⟨1, 0⟩
def n2 (a : Cx) : Rat := a.re * a.re + a.im * a.im
theorem eqC {a b : Cx} (h1 : a.re = b.re) (h2 : a.im = b.im) : a = b := by cases a; cases b; simp_all
theorem mul_comm (a b : Cx) : mul a b = mul b a := by apply eqC <;> simp only [mul] <;> grind
theorem mul_assoc (a b c : Cx) : mul (mul a b) c = mul a (mul b c) := by apply eqC <;> simp only [mul] <;> grind
theorem mul_one (a : Cx) : mul a one = a := by apply eqC <;> simp only [mul, one] <;> grind
theorem one_mul (a : Cx) : mul one a = a := by apply eqC <;> simp only [mul, one] <;> grind
theorem n2_mul (a b : Cx) : n2 (mul a b) = n2 a * n2 b := by simp only [mul, n2]; grind
theorem n2_cj (a : Cx) : n2 (cj a) = n2 a := by simp only [cj, n2]; grind
theorem cj_mul (a b : Cx) : cj (mul a b) = mul (cj a) (cj b) := by apply eqC <;> simp only [mul, cj] <;> grind
theorem cj_cj (a : Cx) : cj (cj a) = a := by apply eqC <;> simp only [cj] <;> grind
theorem mul_cj (a : Cx) : mul a (cj a) = ⟨n2 a, 0⟩ := by apply eqC <;> simp only [mul, cj, n2] <;> grind
theorem sq_nn (a : Rat) : 0 ≤ a * a := by
  rcases Rat.le_total (a := 0) (b := a) with h | h
  · exact Rat.mul_nonneg h h
  · have := Rat.mul_nonneg (a := -a) (b := -a) (by grind) (by grind)
    grind
theorem n2_nn (a : Cx) : 0 ≤ n2 a := by
  have := sq_nn a.re
  have := sq_nn a.im
  simp only [n2]; grind
theorem le_of_sq {x y : Rat} (hy : 0 ≤ y) (h : x * x ≤ y * y) : x ≤ y := by
  rcases Rat.le_total (a := x) (b := y) with hx | hx
  · exact hx
  · by_cases he : x = y
    · grind
    · have hlt : 0 < x - y := by grind
      have h0 : 0 < x := by grind
      have h1 := Rat.mul_pos hlt h0
      have h2 := Rat.mul_nonneg (Rat.le_of_lt hlt) hy
      grind
theorem sq_le_sq {x y : Rat} (hx : 0 ≤ x) (h : x ≤ y) : x * x ≤ y * y := by
  have h1 := Rat.mul_nonneg hx (show 0 ≤ y - x by grind)
  have h2 := Rat.mul_nonneg (show 0 ≤ y by grind) (show 0 ≤ y - x by grind)
  grind
/-- not longer than -/
def Nm (a : Cx) (e : Rat) : Prop := 0 ≤ e ∧ n2 a ≤ e * e
theorem Nm.mono {a : Cx} {e f : Rat} (h : Nm a e) (k : e ≤ f) : Nm a f := by
  refine ⟨by have := h.1; grind, ?_⟩
  have := sq_le_sq h.1 k
  have := h.2
  grind
theorem Nm.add {a b : Cx} {e f : Rat} (h : Nm a e) (k : Nm b f) : Nm (add a b) (e + f) := by
  obtain ⟨h1, h2⟩ := h
  obtain ⟨k1, k2⟩ := k
  refine ⟨by grind, ?_⟩
  have hd : a.re * b.re + a.im * b.im ≤ e * f := by
    refine le_of_sq (Rat.mul_nonneg h1 k1) ?_
    have e1 := sq_nn (a.re * b.im - a.im * b.re)
    have e2 : (a.re * b.re + a.im * b.im) * (a.re * b.re + a.im * b.im) + (a.re * b.im - a.im * b.re) * (a.re * b.im - a.im * b.re) = n2 a * n2 b := by simp only [n2]; grind
    have e3 : n2 a * n2 b ≤ (e * e) * n2 b := Rat.mul_le_mul_of_nonneg_right h2 (n2_nn b)
    have e4 : (e * e) * n2 b ≤ (e * e) * (f * f) := Rat.mul_le_mul_of_nonneg_left k2 (sq_nn e)
    grind
  simp only [Cx.add, n2] at *
  grind
theorem Nm.mul {a b : Cx} {e f : Rat} (h : Nm a e) (k : Nm b f) : Nm (mul a b) (e * f) := by
  refine ⟨Rat.mul_nonneg h.1 k.1, ?_⟩
  rw [n2_mul]
  have e3 : n2 a * n2 b ≤ (e * e) * n2 b := Rat.mul_le_mul_of_nonneg_right h.2 (n2_nn b)
  have e4 : (e * e) * n2 b ≤ (e * e) * (f * f) := Rat.mul_le_mul_of_nonneg_left k.2 (sq_nn e)
  grind
theorem Nm.cj {a : Cx} {e : Rat} (h : Nm a e) : Nm (cj a) e := ⟨h.1, by rw [n2_cj]; exact h.2⟩
theorem Nm.neg {a b : Cx} {e : Rat} (h : Nm (sub a b) e) : Nm (sub b a) e := by
  refine ⟨h.1, ?_⟩
  have := h.2
  simp only [sub, n2] at *
  grind
theorem Nm.sc {a : Cx} {e r : Rat} (hr : 0 ≤ r) (h : Nm a e) : Nm (sc r a) (r * e) := by
  refine ⟨Rat.mul_nonneg hr h.1, ?_⟩
  have e1 := Rat.mul_le_mul_of_nonneg_left h.2 (sq_nn r)
  simp only [Cx.sc, n2] at *
  grind
theorem Nm.trans {a b c : Cx} {e f : Rat} (h : Nm (sub a b) e) (k : Nm (sub b c) f) : Nm (sub a c) (e + f) := by
  have := h.add k
  have e : Cx.add (sub a b) (sub b c) = sub a c := by apply eqC <;> simp only [Cx.add, sub] <;> grind
  rwa [e] at this
theorem Nm.re {a : Cx} {e : Rat} (h : Nm a e) : a.re ≤ e ∧ -e ≤ a.re := by
  have h1 := sq_nn a.im
  have h2 := h.2
  simp only [n2] at h2
  constructor
  · exact le_of_sq h.1 (by grind)
  · have := le_of_sq (x := -a.re) h.1 (by grind)
    grind
theorem Nm.im {a : Cx} {e : Rat} (h : Nm a e) : a.im ≤ e ∧ -e ≤ a.im := by
  have h1 := sq_nn a.re
  have h2 := h.2
  simp only [n2] at h2
  constructor
  · exact le_of_sq h.1 (by grind)
  · have := le_of_sq (x := -a.im) h.1 (by grind)
    grind
theorem Nm.of {a : Cx} {x y : Rat} (hx : a.re ≤ x) (hx' : -x ≤ a.re) (hy : a.im ≤ y) (hy' : -y ≤ a.im) : Nm a (x + y) := by
  have h0 : 0 ≤ x := by grind
  have k0 : 0 ≤ y := by grind
  refine ⟨by grind, ?_⟩
  have h1 : a.re * a.re ≤ x * x := by
    have := Rat.mul_nonneg (show 0 ≤ x - a.re by grind) (show 0 ≤ x + a.re by grind)
    grind
  have k1 : a.im * a.im ≤ y * y := by
    have := Rat.mul_nonneg (show 0 ≤ y - a.im by grind) (show 0 ≤ y + a.im by grind)
    grind
  have := Rat.mul_nonneg h0 k0
  simp only [n2]
  grind
/-- 1.5 is enough for two parts of at most one each -/
theorem Nm.unit {a : Cx} (hx : a.re ≤ 1) (hx' : -1 ≤ a.re) (hy : a.im ≤ 1) (hy' : -1 ≤ a.im) : Nm a (3 / 2) := by
  refine ⟨by grind, ?_⟩
  have h1 : a.re * a.re ≤ 1 := by
    have := Rat.mul_nonneg (show 0 ≤ 1 - a.re by grind) (show 0 ≤ 1 + a.re by grind)
    grind
  have k1 : a.im * a.im ≤ 1 := by
    have := Rat.mul_nonneg (show 0 ≤ 1 - a.im by grind) (show 0 ≤ 1 + a.im by grind)
    grind
  simp only [n2]
  grind
/-- what has the length 1 -/
def U (a : Cx) : Prop := n2 a = 1
theorem U.nm {a : Cx} (h : U a) : Nm a 1 := ⟨by grind, by unfold U at h; grind⟩
theorem U.mul {a b : Cx} (h : U a) (k : U b) : U (mul a b) := by unfold U at *; rw [n2_mul, h, k]; grind
theorem U.cj {a : Cx} (h : U a) : U (cj a) := by unfold U at *; rw [n2_cj, h]
theorem U.mul_cj {a : Cx} (h : U a) : Cx.mul a (Cx.cj a) = one := by rw [Cx.mul_cj]; unfold U at h; rw [h]; rfl
theorem U_one : U one := by simp only [U, n2, one]; grind
/-- to turn changes no length -/
theorem Nm.turn {a u : Cx} {e : Rat} (h : Nm a e) (k : U u) : Nm (Cx.mul a u) e := by
  have := h.mul k.nm
  rwa [Rat.mul_one] at this
theorem sub_mul (a b c : Cx) : mul (sub a b) c = sub (mul a c) (mul b c) := by apply eqC <;> simp only [mul, sub] <;> grind
end Cx
end Go.Xv
namespace Go.Xv
namespace Cx
def wA : Rat := 1329227995784915872903807060280344576
def wB : Rat := 972275833250902676855126013
def w : Cx := ⟨(wA * wA - wB * wB) / (wA * wA + wB * wB), 2 * wA * wB / (wA * wA + wB * wB)⟩
theorem w_U : U w := by unfold U; decide +kernel
def V : Nat → Cx
  | 0 => one
  | n + 1 => mul (V n) w
theorem V_U : ∀ n, U (V n)
  | 0 => U_one
  | n + 1 => (V_U n).mul w_U
theorem V_add (n : Nat) : ∀ m, V (n + m) = mul (V n) (V m)
  | 0 => (mul_one _).symm
  | m + 1 => by
    show mul (V (n + m)) w = mul (V n) (mul (V m) w)
    rw [V_add n m, mul_assoc]
def VI (n : Int) : Cx := mul (V n.toNat) (cj (V (-n).toNat))
theorem cj_one : cj one = one := by apply eqC <;> simp only [cj, one] <;> grind
theorem VI_nat (n : Nat) : VI n = V n := by
  unfold VI
  rw [Int.toNat_natCast, show (-(n : Int)).toNat = 0 by omega]
  show mul (V n) (cj one) = V n
  rw [cj_one, mul_one]
theorem VI_sub (a b : Nat) : VI ((a : Int) - b) = mul (V a) (cj (V b)) := by
  unfold VI
  rcases Nat.le_total b a with h | h
  · obtain ⟨d, rfl⟩ : ∃ d, a = d + b := ⟨a - b, by omega⟩
    rw [show (((d + b : Nat) : Int) - b).toNat = d by omega, show (-(((d + b : Nat) : Int) - b)).toNat = 0 by omega, V_add, mul_assoc, (V_U b).mul_cj]
    show mul (V d) (cj one) = _
    rw [cj_one]
  · obtain ⟨d, rfl⟩ : ∃ d, b = a + d := ⟨b - a, by omega⟩
    rw [show ((a : Int) - ((a + d : Nat) : Int)).toNat = 0 by omega, show (-((a : Int) - ((a + d : Nat) : Int))).toNat = d by omega, V_add, cj_mul, ← mul_assoc, (V_U a).mul_cj]
    rfl
theorem int_sub (n : Int) : ∃ a b : Nat, n = (a : Int) - b := ⟨n.toNat, (-n).toNat, by omega⟩
theorem VI_add (n m : Int) : VI (n + m) = mul (VI n) (VI m) := by
  obtain ⟨a, b, rfl⟩ := int_sub n
  obtain ⟨c, d, rfl⟩ := int_sub m
  rw [show (a : Int) - b + (c - d) = ((a + c : Nat) : Int) - ((b + d : Nat) : Int) by omega, VI_sub, VI_sub, VI_sub, V_add, V_add, cj_mul]
  rw [mul_assoc, mul_assoc, ← mul_assoc (V c), mul_comm (V c) (cj (V b)), mul_assoc (cj (V b))]
theorem VI_neg (n : Int) : VI (-n) = cj (VI n) := by
  obtain ⟨a, b, rfl⟩ := int_sub n
  rw [show -((a : Int) - b) = (b : Int) - a by omega, VI_sub, VI_sub, cj_mul, cj_cj, mul_comm]
theorem VI_U (n : Int) : U (VI n) := (V_U _).mul (V_U _).cj
theorem VI_zero : VI 0 = one := by rw [show (0 : Int) = ((0 : Nat) : Int) by rfl, VI_nat]; rfl
def Q : Int := 340282366920938463463374607431768211456
def q : Rat := 340282366920938463463374607431768211456
theorem Qq : ((Q : Int) : Rat) = q := by decide +kernel
theorem q0 : (0 : Rat) < q := by decide +kernel
def r : Rat := 1 / q
theorem qr : q * r = 1 := by decide +kernel
theorem r0 : (0 : Rat) < r := by decide +kernel
def toC (a b : Int) : Cx := ⟨(a : Rat) * r, (b : Rat) * r⟩
def Ap (z : Cx) (a b e : Int) : Prop := 0 ≤ e ∧ Nm (sub z (toC a b)) ((e : Rat) * r)
theorem cast_le {a b : Int} (h : a ≤ b) : (a : Rat) ≤ (b : Rat) := Rat.intCast_le_intCast.2 h
theorem floor_q (x : Int) : ((x / Q : Int) : Rat) * q ≤ x ∧ (x : Rat) ≤ ((x / Q : Int) : Rat) * q + q := by
  have h1 := Int.mul_ediv_add_emod x Q
  have h2 := Int.emod_nonneg x (show Q ≠ 0 by decide)
  have h3 := Int.emod_lt_of_pos x (show 0 < Q by decide)
  rw [← Qq, ← Rat.intCast_mul, ← Rat.intCast_add]
  refine ⟨cast_le ?_, cast_le ?_⟩
  · rw [Int.mul_comm]; omega
  · rw [Int.mul_comm]; omega
theorem floor_r (x : Int) : ((x / Q : Int) : Rat) ≤ x * r ∧ (x : Rat) * r ≤ ((x / Q : Int) : Rat) + 1 := by
  obtain ⟨h1, h2⟩ := floor_q x
  have m1 := Rat.mul_le_mul_of_nonneg_right (c := r) h1 (Rat.le_of_lt r0)
  have m2 := Rat.mul_le_mul_of_nonneg_right (c := r) h2 (Rat.le_of_lt r0)
  rw [Rat.mul_assoc, qr, Rat.mul_one] at m1
  rw [Rat.add_mul, Rat.mul_assoc, qr, Rat.mul_one] at m2
  exact ⟨m1, m2⟩
theorem Ap.mul {z y : Cx} {a b e c d f : Int} (hz : U z) (hy : U y) (h : Ap z a b e) (k : Ap y c d f) :
    Ap (mul z y) ((a * c - b * d) / Q) ((a * d + b * c) / Q) (e + f + e * f / Q + 3) := by
  obtain ⟨h0, h1⟩ := h
  obtain ⟨k0, k1⟩ := k
  have hef : 0 ≤ e * f / Q := Int.ediv_nonneg (Int.mul_nonneg h0 k0) (by decide)
  refine ⟨by omega, ?_⟩
  have e1 : Nm (toC a b) (1 + (e : Rat) * r) := by
    have := (hz.nm).add h1.neg
    have e : Cx.add z (sub (toC a b) z) = toC a b := by apply eqC <;> simp only [Cx.add, sub] <;> grind
    rwa [e] at this
  have e2 := (h1.turn hy).add (e1.mul k1)
  have f1 := floor_r (a * c - b * d)
  have f2 := floor_r (a * d + b * c)
  have f3 := floor_r (e * f)
  simp only [Rat.intCast_sub, Rat.intCast_add, Rat.intCast_mul] at f1 f2 f3
  have e3 : Nm (sub (Cx.mul (toC a b) (toC c d)) (toC ((a * c - b * d) / Q) ((a * d + b * c) / Q))) (r * (3 / 2)) := by
    have g : Nm ⟨((a : Rat) * c - b * d) * r - ((a * c - b * d) / Q : Int), ((a : Rat) * d + b * c) * r - ((a * d + b * c) / Q : Int)⟩ (3 / 2) := by
      apply Nm.unit <;> simp only <;> grind
    have g2 := g.sc (r := r) (Rat.le_of_lt r0)
    have ee : Cx.sc r ⟨((a : Rat) * c - b * d) * r - ((a * c - b * d) / Q : Int), ((a : Rat) * d + b * c) * r - ((a * d + b * c) / Q : Int)⟩ = sub (Cx.mul (toC a b) (toC c d)) (toC ((a * c - b * d) / Q) ((a * d + b * c) / Q)) := by
      apply eqC <;> simp only [Cx.sc, Cx.mul, sub, toC] <;> grind
    rwa [ee] at g2
  have e4 := e2.add e3
  have ee : Cx.add (Cx.add (Cx.mul (sub z (toC a b)) y) (Cx.mul (toC a b) (sub y (toC c d)))) (sub (Cx.mul (toC a b) (toC c d)) (toC ((a * c - b * d) / Q) ((a * d + b * c) / Q))) = sub (Cx.mul z y) (toC ((a * c - b * d) / Q) ((a * d + b * c) / Q)) := by
    apply eqC <;> simp only [Cx.add, Cx.mul, sub] <;> grind
  rw [ee] at e4
  refine e4.mono ?_
  have m5 := Rat.mul_le_mul_of_nonneg_right (c := r) f3.2 (Rat.le_of_lt r0)
  have hr := r0
  simp only [Rat.intCast_add]
  generalize ((e * f / Q : Int) : Rat) = g at *
  have t3 : ((3 : Int) : Rat) = 3 := by decide +kernel
  rw [t3]
  grind
def sq3 (p : Int × Int × Int) : Int × Int × Int := ((p.1 * p.1 - p.2.1 * p.2.1) / Q, (p.1 * p.2.1 + p.2.1 * p.1) / Q, p.2.2 + p.2.2 + p.2.2 * p.2.2 / Q + 3)
def w0 : Int := 340282366920938463099250474440462542326
def w1 : Int := 497805226624462170283482630030
def mw (p : Int × Int × Int) : Int × Int × Int := ((p.1 * w0 - p.2.1 * w1) / Q, (p.1 * w1 + p.2.1 * w0) / Q, p.2.2 + 2 + p.2.2 * 2 / Q + 3)
theorem w_Ap : Ap w w0 w1 2 := by
  refine ⟨by decide, ?_, ?_⟩
  · decide +kernel
  · decide +kernel
def pw : Nat → Nat → Int × Int × Int
  | 0, _ => (Q, 0, 0)
  | f + 1, n => if n = 0 then (Q, 0, 0) else if n % 2 = 1 then mw (sq3 (pw f (n / 2))) else sq3 (pw f (n / 2))
theorem one_Ap : Ap one Q 0 0 := by
  refine ⟨by decide, ?_, ?_⟩
  · decide +kernel
  · decide +kernel
theorem pw_ok : ∀ (f n : Nat), n < 2 ^ f → Ap (V n) (pw f n).1 (pw f n).2.1 (pw f n).2.2
  | 0, n, h => by
    obtain rfl : n = 0 := by simp at h; omega
    exact one_Ap
  | f + 1, n, h => by
    rw [pw]
    by_cases h0 : n = 0
    · rw [if_pos h0]; subst h0; exact one_Ap
    · rw [if_neg h0]
      have ih := pw_ok f (n / 2) (by rw [Nat.pow_succ] at h; omega)
      have hs := Ap.mul (V_U _) (V_U _) ih ih
      rw [← V_add] at hs
      by_cases h1 : n % 2 = 1
      · rw [if_pos h1]
        have hm := Ap.mul (V_U _) w_U hs w_Ap
        rw [show n = (n / 2 + n / 2) + 1 by omega]
        rw [show ((n / 2 + n / 2) + 1) / 2 = n / 2 by omega]
        exact hm
      · rw [if_neg h1]
        rw [show n / 2 + n / 2 = n by omega] at hs
        exact hs
end Cx
end Go.Xv
namespace Go.Xv
namespace Cx
theorem Ap.bd {z : Cx} {a b e : Int} (h : Ap z a b e) : (z.re ≤ ((a + e : Int) : Rat) * r ∧ ((a - e : Int) : Rat) * r ≤ z.re) ∧ (z.im ≤ ((b + e : Int) : Rat) * r ∧ ((b - e : Int) : Rat) * r ≤ z.im) := by
  obtain ⟨_, h⟩ := h
  have h1 := h.re
  have h2 := h.im
  simp only [sub, toC] at h1 h2
  simp only [Rat.intCast_sub, Rat.intCast_add]
  grind
theorem pw_bd (f n : Nat) (h : n < 2 ^ f) : ((V n).re ≤ (((pw f n).1 + (pw f n).2.2 : Int) : Rat) * r ∧ (((pw f n).1 - (pw f n).2.2 : Int) : Rat) * r ≤ (V n).re) ∧ ((V n).im ≤ (((pw f n).2.1 + (pw f n).2.2 : Int) : Rat) * r ∧ (((pw f n).2.1 - (pw f n).2.2 : Int) : Rat) * r ≤ (V n).im) := (pw_ok f n h).bd
def Lw : Rat := 147 / 100000000000
theorem lip1 : Nm (sub w one) Lw := ⟨by decide +kernel, by decide +kernel⟩
theorem lip (m : Nat) : ∀ d : Nat, Nm (sub (V (m + d)) (V m)) ((d : Rat) * Lw)
  | 0 => by
    refine ⟨by simp, ?_⟩
    simp only [Nat.add_zero, sub, n2]; grind
  | d + 1 => by
    have h := lip1.turn (V_U (m + d))
    have k := (lip m d).add h
    have e : Cx.add (sub (V (m + d)) (V m)) (mul (sub w one) (V (m + d))) = sub (V (m + (d + 1))) (V m) := by
      rw [← Nat.add_assoc, show V (m + d + 1) = mul (V (m + d)) w from rfl]
      apply eqC <;> simp only [Cx.add, sub, mul, one] <;> grind
    rw [e] at k
    refine k.mono ?_
    rw [Rat.natCast_add]
    show _ ≤ ((d : Rat) + ((1 : Nat) : Rat)) * Lw
    have : ((1 : Nat) : Rat) = 1 := by decide +kernel
    rw [this]
    grind
theorem cast_leN {a b : Nat} (h : a ≤ b) : (a : Rat) ≤ (b : Rat) := Rat.natCast_le_natCast.2 h
theorem lipB (m d : Nat) (h : d ≤ 268435456) : Nm (sub (V (m + d)) (V m)) (2 / 5) := by
  refine (lip m d).mono ?_
  have h1 := Rat.mul_le_mul_of_nonneg_right (c := Lw) (cast_leN h) (by decide +kernel)
  have h2 : ((268435456 : Nat) : Rat) * Lw ≤ 2 / 5 := by decide +kernel
  grind
theorem half_re {m : Nat} (h : m ≤ 536870912) : 1 / 2 ≤ (V m).re := by
  rcases Nat.le_total m 268435456 with h1 | h1
  · have k := (lipB 0 m h1).re
    rw [Nat.zero_add] at k
    simp only [sub, V, one] at k
    grind
  · obtain ⟨d, rfl⟩ : ∃ d, m = 268435456 + d := ⟨m - 268435456, by omega⟩
    have k := (lipB 268435456 d (by omega)).re
    have g := (pw_bd 30 268435456 (by decide)).1.2
    have g2 : 9 / 10 ≤ (((pw 30 268435456).1 - (pw 30 268435456).2.2 : Int) : Rat) * r := by decide +kernel
    have g3 := Rat.le_trans g2 g
    clear g g2
    simp only [sub] at k
    generalize (V (268435456 + d)).re = x at *
    generalize (V 268435456).re = y at *
    grind
theorem far_re {m : Nat} (h : 1073741824 ≤ m) (h2 : m ≤ 2684354560) : (V m).re ≤ 1 / 2 := by
  have key : ∀ g d : Nat, m = g + d → d ≤ 268435456 → (V g).re ≤ 1 / 10 → (V m).re ≤ 1 / 2 := by
    intro g d hm hd hg
    subst hm
    have k := (lipB g d hd).re
    simp only [sub] at k
    grind
  have pt : ∀ g : Nat, g < 2 ^ 33 → (((pw 33 g).1 + (pw 33 g).2.2 : Int) : Rat) * r ≤ 1 / 10 → (V g).re ≤ 1 / 10 := by
    intro g h1 h2
    have := (pw_bd 33 g h1).1.1
    grind
  have p0 := pt 1073741824 (by decide) (by decide +kernel)
  have p1 := pt 1342177280 (by decide) (by decide +kernel)
  have p2 := pt 1610612736 (by decide) (by decide +kernel)
  have p3 := pt 1879048192 (by decide) (by decide +kernel)
  have p4 := pt 2147483648 (by decide) (by decide +kernel)
  have p5 := pt 2415919104 (by decide) (by decide +kernel)
  by_cases c1 : m < 1342177280
  · exact key 1073741824 (m - 1073741824) (by omega) (by omega) p0
  by_cases c2 : m < 1610612736
  · exact key 1342177280 (m - 1342177280) (by omega) (by omega) p1
  by_cases c3 : m < 1879048192
  · exact key 1610612736 (m - 1610612736) (by omega) (by omega) p2
  by_cases c4 : m < 2147483648
  · exact key 1879048192 (m - 1879048192) (by omega) (by omega) p3
  by_cases c5 : m < 2415919104
  · exact key 2147483648 (m - 2147483648) (by omega) (by omega) p4
  · exact key 2415919104 (m - 2415919104) (by omega) (by omega) p5
/-- near 1 is only what is small -/
theorem near_one : ∀ (k m : Nat) (d : Rat), 1073741824 ≤ m * 2 ^ k → m ≤ 2684354560 → Nm (sub (V m) one) d → (m : Rat) ≤ 2684354560 * d
  | k, m, d, hk, hm, h => by
    rcases Nat.lt_or_ge m 1073741824 with hs | hs
    · match k, hk with
      | 0, hk => simp at hk; omega
      | k + 1, hk =>
        have e : Cx.add (mul (sub (V m) one) (V m)) (sub (V m) one) = sub (V (m + m)) one := by
          rw [V_add]
          apply eqC <;> simp only [Cx.add, sub, mul, one] <;> grind
        have h2 := (h.turn (V_U m)).add h
        rw [e] at h2
        have := near_one k (m + m) (d + d) (by rw [Nat.pow_succ, ← Nat.mul_assoc] at hk; rw [Nat.add_mul]; omega) (by omega) h2
        rw [Rat.natCast_add] at this
        grind
    · have h1 := far_re hs hm
      have h2 : n2 (sub (V m) one) = 2 - 2 * (V m).re := by
        have := V_U m
        simp only [U, n2, sub, one] at *
        grind
      obtain ⟨d0, hd⟩ := h
      have h3 : 1 ≤ d := le_of_sq (x := 1) d0 (by grind)
      have h4 := cast_leN hm
      have h5 : ((2684354560 : Nat) : Rat) = 2684354560 := by decide +kernel
      rw [h5] at h4
      grind
theorem near_V {m : Nat} {d : Rat} (hm : m ≤ 2684354560) (h : Nm (sub (V m) one) d) : (m : Rat) ≤ 2684354560 * d := by
  rcases Nat.eq_zero_or_pos m with h0 | h0
  · subst h0
    have := h.1
    have e : ((0 : Nat) : Rat) = 0 := by decide +kernel
    rw [e]
    grind
  · exact near_one 30 m d (by omega) hm h
theorem near_VI {n : Int} {d : Rat} (hn : -2684354560 ≤ n ∧ n ≤ 2684354560) (h : Nm (sub (VI n) one) d) : (n : Rat) ≤ 2684354560 * d ∧ -(2684354560 * d) ≤ (n : Rat) := by
  have h0 := h.1
  rcases Int.le_total 0 n with hp | hp
  · obtain ⟨m, rfl⟩ := Int.eq_ofNat_of_zero_le hp
    rw [VI_nat] at h
    have := near_V (by omega) h
    have e : ((m : Int) : Rat) = (m : Rat) := Rat.intCast_natCast m
    rw [e]
    have : (0 : Rat) ≤ (m : Rat) := Rat.natCast_nonneg
    grind
  · obtain ⟨m, hm⟩ := Int.eq_ofNat_of_zero_le (show 0 ≤ -n by omega)
    have e0 : n = -(m : Int) := by omega
    subst e0
    have hc := h.cj
    have e1 : Cx.cj (sub (VI (-(m : Int))) one) = sub (V m) one := by
      rw [VI_neg, VI_nat]
      apply eqC <;> simp only [Cx.cj, sub, one] <;> grind
    rw [e1] at hc
    have := near_V (by omega) hc
    have e : ((-(m : Int) : Int) : Rat) = -(m : Rat) := by rw [Rat.intCast_neg, Rat.intCast_natCast]
    rw [e]
    have : (0 : Rat) ≤ (m : Rat) := Rat.natCast_nonneg
    grind
/-- a hair -/
def hair : Rat := 1 / 1152921504606846976
def Ci : Cx := ⟨0, 1⟩
theorem Ci_U : U Ci := by simp only [U, n2, Ci]; grind
theorem of_pw (f n : Nat) (hn : n < 2 ^ f) (c : Cx) (x y : Rat) (h1 : (((pw f n).1 + (pw f n).2.2 : Int) : Rat) * r - c.re ≤ x) (h2 : -x ≤ (((pw f n).1 - (pw f n).2.2 : Int) : Rat) * r - c.re)
    (h3 : (((pw f n).2.1 + (pw f n).2.2 : Int) : Rat) * r - c.im ≤ y) (h4 : -y ≤ (((pw f n).2.1 - (pw f n).2.2 : Int) : Rat) * r - c.im) : Nm (sub (V n) c) (x + y) := by
  obtain ⟨⟨a1, a2⟩, a3, a4⟩ := pw_bd f n hn
  apply Nm.of <;> simp only [sub] <;> grind
theorem quarter : Nm (sub (V 1073741824) Ci) hair := by
  have := of_pw 33 1073741824 (by decide) Ci (hair / 2) (hair / 2) (by decide +kernel) (by decide +kernel) (by decide +kernel) (by decide +kernel)
  exact this.mono (by decide +kernel)
theorem whole : Nm (sub (V 4294967296) one) hair := by
  have := of_pw 34 4294967296 (by decide) one (hair / 2) (hair / 2) (by decide +kernel) (by decide +kernel) (by decide +kernel) (by decide +kernel)
  exact this.mono (by decide +kernel)
theorem half : Nm (sub (V 2147483648) ⟨-1, 0⟩) hair := by
  have := of_pw 33 2147483648 (by decide) ⟨-1, 0⟩ (hair / 2) (hair / 2) (by decide +kernel) (by decide +kernel) (by decide +kernel) (by decide +kernel)
  exact this.mono (by decide +kernel)
theorem im_nn : ∀ {m : Nat}, m ≤ 536870912 → 0 ≤ (V m).im
  | 0, _ => by simp only [V, one]; grind
  | m + 1, h => by
    have ih := im_nn (m := m) (by omega)
    have hr := half_re (m := m) (by omega)
    have w1 : 0 ≤ w.im := by decide +kernel
    have w2 : 0 ≤ w.re := by decide +kernel
    have m1 := Rat.mul_nonneg ih w2
    have m2 := Rat.mul_nonneg (show 0 ≤ (V m).re by grind) w1
    simp only [V, mul]
    grind
/-- the first quarter -/
theorem first_q {n : Nat} (h : n ≤ 1073741824) : -hair ≤ (V n).re ∧ -hair ≤ (V n).im := by
  have h0 : 0 ≤ hair := by decide +kernel
  have h5 : hair ≤ 1 / 2 := by decide +kernel
  rcases Nat.le_total n 536870912 with h1 | h1
  · have := half_re h1
    have := im_nn h1
    grind
  · obtain ⟨m, hm⟩ : ∃ m, 1073741824 = n + m := ⟨1073741824 - n, by omega⟩
    have e : V n = mul (V 1073741824) (cj (V m)) := by
      rw [hm, V_add, mul_assoc, (V_U m).mul_cj, mul_one]
    have hq := quarter.turn (V_U m).cj
    rw [sub_mul, ← e] at hq
    have k1 := hq.re
    have k2 := hq.im
    have a1 := half_re (m := m) (by omega)
    have a2 := im_nn (m := m) (by omega)
    simp only [sub, mul, Ci, cj] at k1 k2
    grind
end Cx
end Go.Xv
namespace Go.Xv
namespace Cx
/-- how much longer the steps make it, over 2^64 -/
def gL : List Int := [18446744073709551616, 26087635650665564425, 29166863343567579424, 30064514583371253785, 30298483206077454146, 30357602253914638508, 30372421684747952847, 30376129029489835462, 30377056021236072306, 30377287778897074256, 30377345718920132028, 30377360203963884889, 30377363825227197387, 30377364730543173905, 30377364956872177309, 30377365013454428739, 30377365027599991633, 30377365031136382359, 30377365032020480041, 30377365032241504461, 30377365032296760566, 30377365032310574592, 30377365032314028099, 30377365032314891476, 30377365032315107320, 30377365032315161281, 30377365032315174771, 30377365032315178144, 30377365032315178987, 30377365032315179197, 30377365032315179250]
def uu (i : Nat) : Rat := ((gL.getD i 0 : Int) : Rat) * (1 / 18446744073709551616)
def hp (i : Nat) : Rat := 1 / 2 ^ i
def eta : Rat := 1 / 1073741824
def stepC (i : Nat) (o : Bool) : Cx := ⟨1, if o then hp i else -hp i⟩
def kp (i : Nat) : Rat := if i = 0 then 3 / 2 else 1 + hp i * hp i / 2
def chk (i : Nat) : Bool := decide (n2 (sub (sc (uu i) ⟨1, hp i⟩) (sc (uu (i + 1)) (toC (pw 30 (tA i).toNat).1 (pw 30 (tA i).toNat).2.1))) ≤ (uu (i + 1) * (9 / 10 * eta)) * (uu (i + 1) * (9 / 10 * eta))) && decide (((pw 30 (tA i).toNat).2.2 : Rat) * r ≤ 1 / 10 * eta) && decide (0 ≤ uu (i + 1)) && decide (0 ≤ uu i)
theorem chk_all : ∀ i, i < 30 → chk i = true := by decide +kernel
theorem kp_all : ∀ i, i < 30 → decide (1 + hp i * hp i ≤ kp i * kp i ∧ 0 ≤ kp i) = true := by decide +kernel
theorem tab0 {i : Nat} (h : i < 30) : Nm (sub (sc (uu i) ⟨1, hp i⟩) (sc (uu (i + 1)) (VI (tA i)))) (uu (i + 1) * eta) := by
  have hc := chk_all i h
  unfold chk at hc
  simp only [Bool.and_eq_true, decide_eq_true_eq] at hc
  obtain ⟨⟨⟨c1, c2⟩, c3⟩, c4⟩ := hc
  have ht := tA_bd i h
  have e : VI (tA i) = V (tA i).toNat := by
    have : tA i = (((tA i).toNat : Nat) : Int) := by omega
    rw [this, VI_nat]
    rfl
  rw [e]
  have h1 := (pw_ok 30 (tA i).toNat (by omega)).2.neg
  have hr : (0 : Rat) ≤ 9 / 10 * eta := by decide +kernel
  have h2 : Nm (sub (sc (uu i) ⟨1, hp i⟩) (sc (uu (i + 1)) (toC (pw 30 (tA i).toNat).1 (pw 30 (tA i).toNat).2.1))) (uu (i + 1) * (9 / 10 * eta)) := ⟨Rat.mul_nonneg c3 hr, c1⟩
  have h3 := h2.add ((h1.mono c2).sc c3)
  generalize pw 30 (tA i).toNat = p at *
  generalize V (tA i).toNat = v at *
  have ee : Cx.add (sub (sc (uu i) ⟨1, hp i⟩) (sc (uu (i + 1)) (toC p.1 p.2.1))) (sc (uu (i + 1)) (sub (toC p.1 p.2.1) v)) = sub (sc (uu i) ⟨1, hp i⟩) (sc (uu (i + 1)) v) := by
    apply eqC <;> simp only [Cx.add, sub, sc] <;> grind
  rw [ee] at h3
  have e2 : uu (i + 1) * (9 / 10 * eta) + uu (i + 1) * (1 / 10 * eta) = uu (i + 1) * eta := by grind
  rwa [e2] at h3
def dt (i : Nat) (o : Bool) : Int := if o then tA i else -tA i
theorem tab {i : Nat} (h : i < 30) (o : Bool) : Nm (sub (sc (uu i) (stepC i o)) (sc (uu (i + 1)) (VI (dt i o)))) (uu (i + 1) * eta) := by
  have h1 := tab0 h
  cases o with
  | true => exact h1
  | false =>
    have h2 := h1.cj
    have e : Cx.cj (sub (sc (uu i) ⟨1, hp i⟩) (sc (uu (i + 1)) (VI (tA i)))) = sub (sc (uu i) (stepC i false)) (sc (uu (i + 1)) (VI (dt i false))) := by
      unfold dt stepC
      simp only [Bool.false_eq_true, if_false]
      rw [VI_neg]
      apply eqC <;> simp only [Cx.cj, sub, sc] <;> grind
    rwa [e] at h2
theorem step_nm {i : Nat} (h : i < 30) (o : Bool) : Nm (stepC i o) (kp i) := by
  have hc := kp_all i h
  simp only [decide_eq_true_eq] at hc
  refine ⟨hc.2, ?_⟩
  have : n2 (stepC i o) = 1 + hp i * hp i := by
    unfold stepC
    cases o <;> simp only [n2, Bool.false_eq_true, if_false, if_true] <;> grind
  rw [this]
  exact hc.1
def cx (x y : Int) : Cx := ⟨(x : Rat), (y : Rat)⟩
theorem hp_pos (i : Nat) : 0 < hp i ∧ ((2 ^ i : Int) : Rat) * hp i = 1 := by
  unfold hp
  have h : ((2 ^ i : Int) : Rat) = 2 ^ i := by rw [Rat.intCast_pow]; rfl
  have h0 : (0 : Rat) < 2 ^ i := Rat.pow_pos (by decide +kernel)
  rw [h]
  generalize (2 : Rat) ^ i = P at *
  constructor
  · rw [Rat.div_def, Rat.one_mul]
    exact Rat.inv_pos.2 h0
  · grind
theorem floor_p (y : Int) (i : Nat) : ((y / 2 ^ i : Int) : Rat) ≤ y * hp i ∧ (y : Rat) * hp i ≤ ((y / 2 ^ i : Int) : Rat) + 1 := by
  obtain ⟨h0, h1⟩ := hp_pos i
  have hP := p2pos i
  have d1 := Int.mul_ediv_add_emod y (2 ^ i)
  have d2 := Int.emod_nonneg y (show (2 : Int) ^ i ≠ 0 by omega)
  have d3 := Int.emod_lt_of_pos y hP
  generalize (2 : Int) ^ i = P at *
  have e1 : (((y / P) * P : Int) : Rat) ≤ (y : Rat) := cast_le (by rw [Int.mul_comm]; omega)
  have e2 : (y : Rat) ≤ (((y / P) * P + P : Int) : Rat) := cast_le (by rw [Int.mul_comm]; omega)
  rw [Rat.intCast_mul] at e1
  rw [Rat.intCast_add, Rat.intCast_mul] at e2
  have m1 := Rat.mul_le_mul_of_nonneg_right (c := hp i) e1 (Rat.le_of_lt h0)
  have m2 := Rat.mul_le_mul_of_nonneg_right (c := hp i) e2 (Rat.le_of_lt h0)
  rw [Rat.mul_assoc, h1, Rat.mul_one] at m1
  rw [Rat.add_mul, Rat.mul_assoc, h1, Rat.mul_one] at m2
  exact ⟨m1, m2⟩
theorem rot_nm (i : Nat) (o : Bool) (x y : Int) : Nm (sub (cx (rotX i o x y) (rotY i o x y)) (mul (cx x y) (stepC i o))) (3 / 2) := by
  have h1 := floor_p x i
  have h2 := floor_p y i
  unfold rotX rotY stepC
  cases o
  · simp only [Bool.false_eq_true, if_false, cx, Rat.intCast_add, Rat.intCast_sub]
    apply Nm.unit <;> simp only [sub, mul] <;> grind
  · simp only [if_true, cx, Rat.intCast_add, Rat.intCast_sub]
    apply Nm.unit <;> simp only [sub, mul] <;> grind
/-- one step of what lies near -/
theorem near_step {p v : Cx} {i : Nat} {o : Bool} {x y : Int} {c e : Rat} (hi : i < 30) (hp : p = cx x y) (hv : U v) (hc : 0 ≤ c) (h : Nm (sub p (sc (c * uu i) v)) e) :
    Nm (sub (cx (rotX i o x y) (rotY i o x y)) (sc (c * uu (i + 1)) (mul v (VI (dt i o))))) (e * kp i + 3 / 2 + c * (uu (i + 1) * eta)) := by
  subst hp
  have h1 := h.mul (step_nm hi o)
  have h2 := rot_nm i o x y
  have h3 := ((tab hi o).sc hc).turn hv
  have h4 := (h1.add h2).add h3
  have ee : Cx.add (Cx.add (mul (sub (cx x y) (sc (c * uu i) v)) (stepC i o)) (sub (cx (rotX i o x y) (rotY i o x y)) (mul (cx x y) (stepC i o)))) (mul (sc c (sub (sc (uu i) (stepC i o)) (sc (uu (i + 1)) (VI (dt i o))))) v) = sub (cx (rotX i o x y) (rotY i o x y)) (sc (c * uu (i + 1)) (mul v (VI (dt i o)))) := by
    apply eqC <;> simp only [Cx.add, sub, sc, mul] <;> grind
  rwa [ee] at h4
def KK : Rat := 2608131496
theorem stepB : ∀ i : Nat, i < 30 → decide (8 * (i : Rat) * kp i + 3 / 2 + KK * (uu (i + 1) * eta) ≤ 8 * ((i : Rat) + 1)) = true := by decide +kernel
theorem bS_near (z : Int) : ∀ i, i ≤ 30 → Nm (sub (cx (bS z i).1 (bS z i).2.1) (sc (KK * uu i) (VI (z - (bS z i).2.2)))) (8 * (i : Rat))
  | 0, _ => by
    refine ⟨by decide +kernel, ?_⟩
    simp only [bS]
    rw [Int.sub_self, VI_zero]
    decide +kernel
  | i + 1, h => by
    have ih := bS_near z i (by omega)
    have hs := near_step (o := decide (0 ≤ (bS z i).2.2)) (by omega) rfl (VI_U _) (by decide +kernel) ih
    have e : z - (bS z (i + 1)).2.2 = (z - (bS z i).2.2) + dt i (decide (0 ≤ (bS z i).2.2)) := by
      simp only [bS, dt]
      by_cases hz : 0 ≤ (bS z i).2.2
      · simp only [hz, decide_true, if_true]; omega
      · simp only [hz, decide_false, Bool.false_eq_true, if_false]; omega
    rw [e, VI_add]
    have hb := stepB i (by omega)
    simp only [decide_eq_true_eq] at hb
    refine Nm.mono hs ?_
    rw [Rat.natCast_add]
    exact hb
def TZ : Nat → Int
  | 0 => 1073741824
  | i + 1 => max (tA i) (TZ i - tA i)
theorem bS_left {z : Int} (hz : 0 ≤ z ∧ z < 1073741824) : ∀ i, -TZ i ≤ (bS z i).2.2 ∧ (bS z i).2.2 ≤ TZ i
  | 0 => by simp only [bS, TZ]; omega
  | i + 1 => by
    have ih := bS_left hz i
    simp only [bS, TZ]
    split <;> omega
theorem TZ30 : TZ 30 ≤ 3 := by decide +kernel
/-- of a few parts -/
theorem few {n : Int} (h : -3 ≤ n ∧ n ≤ 3) : Nm (sub (VI n) one) (1 / 200000000) := by
  have key : ∀ m : Nat, m ≤ 3 → Nm (sub (V m) one) (1 / 200000000) := by
    intro m hm
    have h1 := lip 0 m
    rw [Nat.zero_add] at h1
    refine h1.mono ?_
    have h2 := Rat.mul_le_mul_of_nonneg_right (c := Lw) (cast_leN hm) (by decide +kernel)
    have h3 : ((3 : Nat) : Rat) * Lw ≤ 1 / 200000000 := by decide +kernel
    grind
  rcases Int.le_total 0 n with hp | hp
  · obtain ⟨m, rfl⟩ := Int.eq_ofNat_of_zero_le hp
    rw [VI_nat]
    exact key m (by omega)
  · obtain ⟨m, hm⟩ := Int.eq_ofNat_of_zero_le (show 0 ≤ -n by omega)
    have e0 : n = -(m : Int) := by omega
    subst e0
    have hc := (key m (by omega)).cj
    have e1 : Cx.cj (sub (V m) one) = sub (VI (-(m : Int))) one := by
      rw [VI_neg, VI_nat]
      apply eqC <;> simp only [Cx.cj, sub, one] <;> grind
    rwa [e1] at hc
def One : Rat := 4294967296
theorem both0 {z : Int} (hz : 0 ≤ z ∧ z < 1073741824) : Nm (sub (cx (bS z 30).1 (bS z 30).2.1) (sc One (VI z))) 263 := by
  have h1 := bS_near z 30 (by omega)
  have hl := bS_left hz 30
  have hT := TZ30
  have h2 := (few (n := (bS z 30).2.2) (by omega)).neg
  have h3 := (h2.turn (VI_U (z - (bS z 30).2.2))).sc (r := KK * uu 30) (by decide +kernel)
  have e : VI z = mul (VI (z - (bS z 30).2.2)) (VI (bS z 30).2.2) := by rw [← VI_add]; congr 1; omega
  generalize (bS z 30).2.2 = l at *
  have h4 : Nm (sub (sc (KK * uu 30) (VI z)) (sc One (VI z))) 1 := by
    have := ((VI_U z).nm).sc (r := One - KK * uu 30) (by decide +kernel)
    have e : Cx.sc (One - KK * uu 30) (VI z) = sub (sc One (VI z)) (sc (KK * uu 30) (VI z)) := by apply eqC <;> simp only [sub, sc] <;> grind
    rw [e] at this
    exact (this.neg).mono (by decide +kernel)
  have e3 : Cx.sc (KK * uu 30) (mul (sub one (VI l)) (VI (z - l))) = sub (sc (KK * uu 30) (VI (z - l))) (sc (KK * uu 30) (VI z)) := by
    rw [e]; apply eqC <;> simp only [sub, sc, mul, one] <;> grind
  rw [e3] at h3
  have h5 := (h1.trans h3).trans h4
  exact h5.mono (by decide +kernel)
theorem Nm.coord {a b : Cx} {e : Rat} (h : Nm a e) (h1 : b.re * b.re ≤ a.re * a.re) (h2 : b.im * b.im ≤ a.im * a.im) : Nm b e := by
  refine ⟨h.1, ?_⟩
  have := h.2
  simp only [n2] at *
  grind
/-- clamping goes nearer to what lies between. -/
theorem clamp_near {x : Int} {t : Rat} (h0 : 0 ≤ t) (h1 : t ≤ One) : ((cl01 x : Int) : Rat) - t = 0 ∨ (((cl01 x : Int) : Rat) - t) * (((cl01 x : Int) : Rat) - t) ≤ ((x : Rat) - t) * ((x : Rat) - t) := by
  right
  have key : ∀ c d : Rat, 0 ≤ c * d → (c * c ≤ (c + d) * (c + d)) := by
    intro c d h
    have := sq_nn d
    grind
  have hcase : ((cl01 x : Int) : Rat) = x ∨ (((cl01 x : Int) : Rat) = 0 ∧ (x : Rat) ≤ 0) ∨ (((cl01 x : Int) : Rat) = One ∧ One ≤ (x : Rat)) := by
    unfold cl01
    by_cases c1 : x < 0
    · right; left
      rw [show min (max x 0) 4294967296 = 0 by omega]
      exact ⟨rfl, cast_le (b := 0) (by omega)⟩
    · by_cases c2 : 4294967296 ≤ x
      · right; right
        rw [show min (max x 0) 4294967296 = 4294967296 by omega]
        exact ⟨rfl, cast_le (a := 4294967296) c2⟩
      · left
        rw [show min (max x 0) 4294967296 = x by omega]
  rcases hcase with h | ⟨h, k⟩ | ⟨h, k⟩
  · rw [h]; exact Rat.le_refl
  · rw [h]
    have := key (0 - t) x (by have := Rat.mul_nonneg h0 (show 0 ≤ -(x : Rat) by grind); grind)
    grind
  · rw [h]
    have := key (One - t) (x - One) (Rat.mul_nonneg (by grind) (by grind))
    grind
theorem both1 {z : Int} (hz : 0 ≤ z ∧ z < 1073741824) : Nm (sub (cx (cl01 (bS z 30).1) (cl01 (bS z 30).2.1)) (sc One (VI z))) 264 := by
  have h1 := both0 hz
  obtain ⟨m, hm⟩ := Int.eq_ofNat_of_zero_le hz.1
  have hv : VI z = V m := by rw [hm, VI_nat]
  rw [hv] at h1 ⊢
  obtain ⟨q1, q2⟩ := first_q (n := m) (by omega)
  have b1 := (V_U m).nm.re
  have b2 := (V_U m).nm.im
  generalize V m = v at *
  let f : Rat → Rat := fun t => if t < 0 then 0 else t
  have hh : (0 : Rat) ≤ hair := by decide +kernel
  have hO : (0 : Rat) ≤ One := by decide +kernel
  have hOh : One * hair ≤ 1 / 8 := by decide +kernel
  have fd : ∀ t : Rat, -hair ≤ t → t ≤ 1 → (0 ≤ One * f t ∧ One * f t ≤ One) ∧ (One * f t - One * t ≤ 1 / 8 ∧ 0 ≤ One * f t - One * t) := by
    intro t h1 h2
    by_cases hn : t < 0
    · have : f t = 0 := if_pos hn
      rw [this]
      have := Rat.mul_le_mul_of_nonneg_left h1 hO
      have := Rat.mul_le_mul_of_nonneg_left (Rat.le_of_lt hn) hO
      grind
    · have : f t = t := if_neg hn
      rw [this]
      have h3 := Rat.mul_le_mul_of_nonneg_left h2 hO
      have h4 := Rat.mul_le_mul_of_nonneg_left (show 0 ≤ t by grind) hO
      grind
  obtain ⟨⟨f1, f2⟩, f3, f4⟩ := fd v.re q1 b1.1
  obtain ⟨⟨g1, g2⟩, g3, g4⟩ := fd v.im q2 b2.1
  have hT : Nm (sub (sc One v) ⟨One * f v.re, One * f v.im⟩) (1 / 8 + 1 / 8) := by
    apply Nm.of <;> simp only [sub, sc] <;> grind
  have h2 := h1.trans hT
  have c1 := clamp_near (x := (bS z 30).1) f1 f2
  have c2 := clamp_near (x := (bS z 30).2.1) g1 g2
  have h3 : Nm (sub (cx (cl01 (bS z 30).1) (cl01 (bS z 30).2.1)) ⟨One * f v.re, One * f v.im⟩) (263 + (1 / 8 + 1 / 8)) := by
    refine h2.coord ?_ ?_
    · simp only [sub, cx]
      rcases c1 with c | c
      · rw [c, Rat.zero_mul]; exact sq_nn _
      · exact c
    · simp only [sub, cx]
      rcases c2 with c | c
      · rw [c, Rat.zero_mul]; exact sq_nn _
      · exact c
  exact (h3.trans hT.neg).mono (by decide +kernel)
theorem VI_quarter : Nm (sub (VI 1073741824) Ci) hair := by
  rw [show (1073741824 : Int) = ((1073741824 : Nat) : Int) by rfl, VI_nat]
  exact quarter
/-- a quarter on -/
theorem on_quarter {c s n : Int} {e : Rat} (h : Nm (sub (cx c s) (sc One (VI n))) e) : Nm (sub (cx (-s) c) (sc One (VI (n + 1073741824)))) (e + 1 / 8) := by
  have h1 := h.turn Ci_U
  have h2 := ((VI_quarter.neg).turn (VI_U n)).sc (r := One) (by decide +kernel)
  have h3 := h1.add h2
  rw [VI_add]
  have ee : Cx.add (mul (sub (cx c s) (sc One (VI n))) Ci) (sc One (mul (sub Ci (VI 1073741824)) (VI n))) = sub (cx (-s) c) (sc One (mul (VI n) (VI 1073741824))) := by
    apply eqC <;> simp only [Cx.add, sub, sc, mul, cx, Ci, Rat.intCast_neg] <;> grind
  rw [ee] at h3
  exact h3.mono (by have : One * hair ≤ 1 / 8 := by decide +kernel
                    grind)
theorem both_near {a : Int} (ha : 0 ≤ a ∧ a < 4294967296) : Nm (sub (cx (bothC a) (bothS a)) (sc One (VI a))) 265 := by
  have h0 : Nm (sub (cx (bC a) (bN a)) (sc One (VI (a % 1073741824)))) 264 := both1 (z := a % 1073741824) (by omega)
  have h1 := on_quarter h0
  have h2 := on_quarter h1
  have h3 := on_quarter h2
  have hq : a / 1073741824 = 0 ∨ a / 1073741824 = 1 ∨ a / 1073741824 = 2 ∨ a / 1073741824 = 3 := by omega
  unfold bothC bothS
  rcases hq with h | h | h | h
  · rw [show a % 1073741824 = a by omega] at h0
    rw [if_pos h, if_pos h]
    exact h0.mono (by decide +kernel)
  · rw [show a % 1073741824 + 1073741824 = a by omega] at h1
    rw [if_neg (by omega), if_pos h, if_neg (by omega), if_pos h]
    exact h1.mono (by decide +kernel)
  · rw [show a % 1073741824 + 1073741824 + 1073741824 = a by omega] at h2
    rw [if_neg (by omega), if_neg (by omega), if_pos h, if_neg (by omega), if_neg (by omega), if_pos h]
    exact h2.mono (by decide +kernel)
  · rw [show a % 1073741824 + 1073741824 + 1073741824 + 1073741824 = a by omega, Int.neg_neg] at h3
    rw [if_neg (by omega), if_neg (by omega), if_neg (by omega), if_neg (by omega), if_neg (by omega), if_neg (by omega)]
    exact h3.mono (by decide +kernel)
/-- how long it is -/
theorem both_len {a : Int} (ha : 0 ≤ a ∧ a < 4294967296) : bothC a * bothC a + bothS a * bothS a ≤ 18446746350042288721 ∧ 18446741788787020900 ≤ bothC a * bothC a + bothS a * bothS a := by
  have h := both_near ha
  have hu := ((VI_U a).nm).sc (r := One) (by decide +kernel)
  have e0 : n2 (cx (bothC a) (bothS a)) = ((bothC a * bothC a + bothS a * bothS a : Int) : Rat) := by
    simp only [n2, cx, Rat.intCast_add, Rat.intCast_mul]
  constructor
  · have h1 := h.add hu
    have e : Cx.add (sub (cx (bothC a) (bothS a)) (sc One (VI a))) (sc One (VI a)) = cx (bothC a) (bothS a) := by apply eqC <;> simp only [Cx.add, sub] <;> grind
    rw [e] at h1
    have h2 := h1.2
    rw [e0] at h2
    have h3 : (265 + One * 1) * (265 + One * 1) = ((18446746350042288721 : Int) : Rat) := by decide +kernel
    rw [h3] at h2
    have := Rat.intCast_le_intCast.1 h2
    omega
  · rcases Int.lt_or_le (bothC a * bothC a + bothS a * bothS a) 18446741788787020900 with hl | hl
    · exfalso
      have k : Nm (cx (bothC a) (bothS a)) (One - 266) := by
        refine ⟨by decide +kernel, ?_⟩
        rw [e0]
        have h3 : (One - 266) * (One - 266) = ((18446741788787020900 : Int) : Rat) := by decide +kernel
        rw [h3]
        exact cast_le (by omega)
      have h1 := k.add h.neg
      have e : Cx.add (cx (bothC a) (bothS a)) (sub (sc One (VI a)) (cx (bothC a) (bothS a))) = sc One (VI a) := by apply eqC <;> simp only [Cx.add, sub] <;> grind
      rw [e] at h1
      have h2 := h1.2
      have e3 : n2 (sc One (VI a)) = One * One := by
        have := VI_U a
        simp only [U, n2, sc] at *
        grind
      rw [e3] at h2
      have : ¬ One * One ≤ (One - 266 + 265) * (One - 266 + 265) := by decide +kernel
      exact this h2
    · exact hl
end Cx
end Go.Xv
