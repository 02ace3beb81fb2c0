/- FuseTells: what the code pulls, fades, checks and bounds is as the reference does. -/
import Derived.Test.YtiahhalhbacgaaaB2
import Derived.Test.YtiahhalhbacgaaaProg
import Derived.KernelRfl
namespace Go.Xv
noncomputable abbrev PP := Proofs.Try.prog
end Go.Xv
set_option linter.unusedVariables false
namespace Go.Xv
/- 66 _wide_Add -/
def c_wide_Add : Cfg := ⟨[0, 1, 2, 3, 4, 5, 6, 22], [], [], []⟩
def ti_wide_Add : List TV := [.v (.agg [.int .i64, .int .u64]), .v (.agg [.int .i64, .int .u64])]
def to_wide_Add : TV := .v (.agg [.int .i64, .int .u64])
def S_wide_Add (F : Nat) : FuncId → List VV → Option (Bool × VV) := words []
def W_wide_Add (F : Nat) : List LW := []
def I_wide_Add (F : Nat) : Nat → VS → (Exit → VS → R) → R := tabI c_wide_Add (W_wide_Add F)
def WJ_wide_Add (F : Nat) : List LJ := []
def J_wide_Add (F : Nat) : Nat → Nat → VS → (Exit → VS → R) → R := tabJ (WJ_wide_Add F)
def f_wide_Add (F : Nat) (a0 : Int) (a1 : Int) (a2 : Int) (a3 : Int) : R :=
  let v104 : Int := (IntKind.wrap .u64 (a1 + a3))
  let v107 : Int := (IntKind.wrap .u64 (((IntKind.wrap .u64 a0)) + ((IntKind.wrap .u64 a2))))
  bif ((decide (v104 < a1))) then (
    some (.v (.agg #[.int .i64 ((IntKind.wrap .i64 ((IntKind.wrap .u64 (v107 + 1))))), .int .u64 v104])))
  else (
    some (.v (.agg #[.int .i64 ((IntKind.wrap .i64 v107)), .int .u64 v104])))
theorem e_wide_Add (F : Nat) (a0 : Int) (a1 : Int) (a2 : Int) (a3 : Int) : funL PP (S_wide_Add F) c_wide_Add (I_wide_Add F) (J_wide_Add F) 66 (fTs ti_wide_Add [.i a0, .i a1, .i a2, .i a3]).1 = f_wide_Add F a0 a1 a2 a3 := by
  have h : ∀ (_ : Unit), funL PP (words []) c_wide_Add (tabI c_wide_Add []) (tabJ []) 66 (fTs ti_wide_Add [.i a0, .i a1, .i a2, .i a3]).1 = (
  let v104 : Int := (IntKind.wrap .u64 (a1 + a3))
  let v107 : Int := (IntKind.wrap .u64 (((IntKind.wrap .u64 a0)) + ((IntKind.wrap .u64 a2))))
  bif ((decide (v104 < a1))) then (
    some (.v (.agg #[.int .i64 ((IntKind.wrap .i64 ((IntKind.wrap .u64 (v107 + 1))))), .int .u64 v104])))
  else (
    some (.v (.agg #[.int .i64 ((IntKind.wrap .i64 v107)), .int .u64 v104]))) : R) := by
    intros
    kernel_rfl
  exact (h ()).trans (by kernel_rfl)
def ok_wide_Add (F : Nat) (a0 : Int) (a1 : Int) (a2 : Int) (a3 : Int) : Bool := okT to_wide_Add (f_wide_Add F a0 a1 a2 a3)
def o_wide_Add_0 (F : Nat) (a0 : Int) (a1 : Int) (a2 : Int) (a3 : Int) : Int := atI (nth (outT to_wide_Add (f_wide_Add F a0 a1 a2 a3)) 0)
def o_wide_Add_1 (F : Nat) (a0 : Int) (a1 : Int) (a2 : Int) (a3 : Int) : Int := atI (nth (outT to_wide_Add (f_wide_Add F a0 a1 a2 a3)) 1)
theorem k_wide_Add (F : Nat) (a0 : Int) (a1 : Int) (a2 : Int) (a3 : Int) {z0 : Int} {z1 : Int} (h : f_wide_Add F a0 a1 a2 a3 = some (.v (.agg #[.int .i64 z0, .int .u64 z1]))) : ok_wide_Add F a0 a1 a2 a3 = true ∧ o_wide_Add_0 F a0 a1 a2 a3 = z0 ∧ o_wide_Add_1 F a0 a1 a2 a3 = z1 := by
  refine ⟨?_, ?_, ?_⟩
  · unfold ok_wide_Add; rw [h]; kernel_rfl
  · unfold o_wide_Add_0; rw [h]; kernel_rfl
  · unfold o_wide_Add_1; rw [h]; kernel_rfl
def s_wide_Add (F : Nat) : List VV → Option (Bool × VV) := spec ti_wide_Add to_wide_Add (fun q => (ok_wide_Add F (atI (nth q 0)) (atI (nth q 1)) (atI (nth q 2)) (atI (nth q 3)))) (fun q => [.i (o_wide_Add_0 F (atI (nth q 0)) (atI (nth q 1)) (atI (nth q 2)) (atI (nth q 3))), .i (o_wide_Add_1 F (atI (nth q 0)) (atI (nth q 1)) (atI (nth q 2)) (atI (nth q 3)))])
theorem hS_wide_Add (F : Nat) : ∀ f, Good PP f (unS (S_wide_Add F f)) := words_good fun p hp => by
  cases hp
theorem hl_wide_Add (F : Nat) : ∀ p ∈ loopsIn PP 66, LoopOK PP (S_wide_Add F) c_wide_Add F (I_wide_Add F) (J_wide_Add F) p :=
  loops_of [] (by kernel_rfl) all_nil
theorem hj_wide_Add (F : Nat) : ∀ p ∈ joinsIn PP c_wide_Add 66, JoinOK PP (S_wide_Add F) c_wide_Add (I_wide_Add F) (J_wide_Add F) p :=
  joins_of [] (by kernel_rfl) all_nil
theorem g_wide_Add (F : Nat) : Good PP 66 (unS (s_wide_Add F)) :=
  fun_spec (hS_wide_Add F) (by kernel_rfl) (by kernel_rfl) (C := c_wide_Add) (F := fun q => (f_wide_Add F (atI (nth q 0)) (atI (nth q 1)) (atI (nth q 2)) (atI (nth q 3)))) (fun _ => F) (fun _ => I_wide_Add F) (fun _ => J_wide_Add F) (fun _ => hl_wide_Add F) (fun _ => hj_wide_Add F)
    (fun q => (congrArg (funL PP (S_wide_Add F) c_wide_Add (I_wide_Add F) (J_wide_Add F) 66) (show (fTs ti_wide_Add q).1 = (fTs ti_wide_Add [.i (atI (nth q 0)), .i (atI (nth q 1)), .i (atI (nth q 2)), .i (atI (nth q 3))]).1 by kernel_rfl)).trans (e_wide_Add F (atI (nth q 0)) (atI (nth q 1)) (atI (nth q 2)) (atI (nth q 3))))
    (fun _ h => (okT_fill h).trans (congrArg some (by kernel_rfl)))

end Go.Xv
set_option linter.unusedVariables false
namespace Go.Xv
/- 61 _ref01_Of -/
def c_ref01_Of : Cfg := ⟨[0, 2, 4], [], [], []⟩
def ti_ref01_Of : List TV := [.v (.int .i64)]
def to_ref01_Of : TV := .v (.agg [.int .i64, .int .u64])
def S_ref01_Of (F : Nat) : FuncId → List VV → Option (Bool × VV) := words []
def W_ref01_Of (F : Nat) : List LW := []
def I_ref01_Of (F : Nat) : Nat → VS → (Exit → VS → R) → R := tabI c_ref01_Of (W_ref01_Of F)
def WJ_ref01_Of (F : Nat) : List LJ := []
def J_ref01_Of (F : Nat) : Nat → Nat → VS → (Exit → VS → R) → R := tabJ (WJ_ref01_Of F)
def f_ref01_Of (F : Nat) (a0 : Int) : R :=
  bif ((decide (a0 < 0))) then (
    some (.v (.agg #[.int .i64 (-1), .int .u64 ((IntKind.wrap .u64 a0))])))
  else (
    some (.v (.agg #[.int .i64 0, .int .u64 ((IntKind.wrap .u64 a0))])))
theorem e_ref01_Of (F : Nat) (a0 : Int) : funL PP (S_ref01_Of F) c_ref01_Of (I_ref01_Of F) (J_ref01_Of F) 61 (fTs ti_ref01_Of [.i a0]).1 = f_ref01_Of F a0 := by
  have h : ∀ (_ : Unit), funL PP (words []) c_ref01_Of (tabI c_ref01_Of []) (tabJ []) 61 (fTs ti_ref01_Of [.i a0]).1 = (
  bif ((decide (a0 < 0))) then (
    some (.v (.agg #[.int .i64 (-1), .int .u64 ((IntKind.wrap .u64 a0))])))
  else (
    some (.v (.agg #[.int .i64 0, .int .u64 ((IntKind.wrap .u64 a0))]))) : R) := by
    intros
    kernel_rfl
  exact (h ()).trans (by kernel_rfl)
def ok_ref01_Of (F : Nat) (a0 : Int) : Bool := okT to_ref01_Of (f_ref01_Of F a0)
def o_ref01_Of_0 (F : Nat) (a0 : Int) : Int := atI (nth (outT to_ref01_Of (f_ref01_Of F a0)) 0)
def o_ref01_Of_1 (F : Nat) (a0 : Int) : Int := atI (nth (outT to_ref01_Of (f_ref01_Of F a0)) 1)
theorem k_ref01_Of (F : Nat) (a0 : Int) {z0 : Int} {z1 : Int} (h : f_ref01_Of F a0 = some (.v (.agg #[.int .i64 z0, .int .u64 z1]))) : ok_ref01_Of F a0 = true ∧ o_ref01_Of_0 F a0 = z0 ∧ o_ref01_Of_1 F a0 = z1 := by
  refine ⟨?_, ?_, ?_⟩
  · unfold ok_ref01_Of; rw [h]; kernel_rfl
  · unfold o_ref01_Of_0; rw [h]; kernel_rfl
  · unfold o_ref01_Of_1; rw [h]; kernel_rfl
def s_ref01_Of (F : Nat) : List VV → Option (Bool × VV) := spec ti_ref01_Of to_ref01_Of (fun q => (ok_ref01_Of F (atI (nth q 0)))) (fun q => [.i (o_ref01_Of_0 F (atI (nth q 0))), .i (o_ref01_Of_1 F (atI (nth q 0)))])
theorem hS_ref01_Of (F : Nat) : ∀ f, Good PP f (unS (S_ref01_Of F f)) := words_good fun p hp => by
  cases hp
theorem hl_ref01_Of (F : Nat) : ∀ p ∈ loopsIn PP 61, LoopOK PP (S_ref01_Of F) c_ref01_Of F (I_ref01_Of F) (J_ref01_Of F) p :=
  loops_of [] (by kernel_rfl) all_nil
theorem hj_ref01_Of (F : Nat) : ∀ p ∈ joinsIn PP c_ref01_Of 61, JoinOK PP (S_ref01_Of F) c_ref01_Of (I_ref01_Of F) (J_ref01_Of F) p :=
  joins_of [] (by kernel_rfl) all_nil
theorem g_ref01_Of (F : Nat) : Good PP 61 (unS (s_ref01_Of F)) :=
  fun_spec (hS_ref01_Of F) (by kernel_rfl) (by kernel_rfl) (C := c_ref01_Of) (F := fun q => (f_ref01_Of F (atI (nth q 0)))) (fun _ => F) (fun _ => I_ref01_Of F) (fun _ => J_ref01_Of F) (fun _ => hl_ref01_Of F) (fun _ => hj_ref01_Of F)
    (fun q => (congrArg (funL PP (S_ref01_Of F) c_ref01_Of (I_ref01_Of F) (J_ref01_Of F) 61) (show (fTs ti_ref01_Of q).1 = (fTs ti_ref01_Of [.i (atI (nth q 0))]).1 by kernel_rfl)).trans (e_ref01_Of F (atI (nth q 0))))
    (fun _ h => (okT_fill h).trans (congrArg some (by kernel_rfl)))

end Go.Xv
set_option linter.unusedVariables false
namespace Go.Xv
/- 86 _wide_Left -/
def c_wide_Left : Cfg := ⟨[0, 1, 2, 4, 7, 11], [], [], []⟩
def ti_wide_Left : List TV := [.v (.agg [.int .i64, .int .u64]), .v (.int .i64)]
def to_wide_Left : TV := .v (.agg [.int .i64, .int .u64])
def S_wide_Left (F : Nat) : FuncId → List VV → Option (Bool × VV) := words []
def W_wide_Left (F : Nat) : List LW := []
def I_wide_Left (F : Nat) : Nat → VS → (Exit → VS → R) → R := tabI c_wide_Left (W_wide_Left F)
def WJ_wide_Left (F : Nat) : List LJ := []
def J_wide_Left (F : Nat) : Nat → Nat → VS → (Exit → VS → R) → R := tabJ (WJ_wide_Left F)
def f_wide_Left (F : Nat) (a0 : Int) (a1 : Int) (a2 : Int) : R :=
  let v221 : Int := (if 0 > a2 then 0 else a2)
  bif ((decide (v221 ≥ 128))) then (
    some (.v (.agg #[.int .i64 0, .int .u64 0])))
  else (
    bif ((decide (v221 ≥ 64))) then (
      let v224 : Int := (IntKind.wrap .i64 (v221 - 64))
      bif (!(decide (v224 < 0))) then (
        some (.v (.agg #[.int .i64 ((IntKind.wrap .i64 ((IntKind.wrap .u64 (a1 * 2 ^ (min (Int.toNat v224) 64)))))), .int .u64 0])))
      else (
        none))
    else (
      bif (!(decide (v221 < 0))) then (
        let v229 : Int := (IntKind.wrap .i64 (64 - v221))
        bif (!(decide (v229 < 0))) then (
          bif (!(decide (v221 < 0))) then (
            some (.v (.agg #[.int .i64 ((IntKind.wrap .i64 ((orI .u64 ((IntKind.wrap .u64 (((IntKind.wrap .u64 a0)) * 2 ^ (min (Int.toNat v221) 64)))) ((Int.fdiv a1 (2 ^ (min (Int.toNat v229) 64)))))))), .int .u64 ((IntKind.wrap .u64 (a1 * 2 ^ (min (Int.toNat v221) 64))))])))
          else (
            none))
        else (
          none))
      else (
        none)))
theorem e_wide_Left (F : Nat) (a0 : Int) (a1 : Int) (a2 : Int) : funL PP (S_wide_Left F) c_wide_Left (I_wide_Left F) (J_wide_Left F) 86 (fTs ti_wide_Left [.i a0, .i a1, .i a2]).1 = f_wide_Left F a0 a1 a2 := by
  have h : ∀ (_ : Unit), funL PP (words []) c_wide_Left (tabI c_wide_Left []) (tabJ []) 86 (fTs ti_wide_Left [.i a0, .i a1, .i a2]).1 = (
  let v221 : Int := (if 0 > a2 then 0 else a2)
  bif ((decide (v221 ≥ 128))) then (
    some (.v (.agg #[.int .i64 0, .int .u64 0])))
  else (
    bif ((decide (v221 ≥ 64))) then (
      let v224 : Int := (IntKind.wrap .i64 (v221 - 64))
      bif (!(decide (v224 < 0))) then (
        some (.v (.agg #[.int .i64 ((IntKind.wrap .i64 ((IntKind.wrap .u64 (a1 * 2 ^ (min (Int.toNat v224) 64)))))), .int .u64 0])))
      else (
        none))
    else (
      bif (!(decide (v221 < 0))) then (
        let v229 : Int := (IntKind.wrap .i64 (64 - v221))
        bif (!(decide (v229 < 0))) then (
          bif (!(decide (v221 < 0))) then (
            some (.v (.agg #[.int .i64 ((IntKind.wrap .i64 ((orI .u64 ((IntKind.wrap .u64 (((IntKind.wrap .u64 a0)) * 2 ^ (min (Int.toNat v221) 64)))) ((Int.fdiv a1 (2 ^ (min (Int.toNat v229) 64)))))))), .int .u64 ((IntKind.wrap .u64 (a1 * 2 ^ (min (Int.toNat v221) 64))))])))
          else (
            none))
        else (
          none))
      else (
        none))) : R) := by
    intros
    kernel_rfl
  exact (h ()).trans (by kernel_rfl)
def ok_wide_Left (F : Nat) (a0 : Int) (a1 : Int) (a2 : Int) : Bool := okT to_wide_Left (f_wide_Left F a0 a1 a2)
def o_wide_Left_0 (F : Nat) (a0 : Int) (a1 : Int) (a2 : Int) : Int := atI (nth (outT to_wide_Left (f_wide_Left F a0 a1 a2)) 0)
def o_wide_Left_1 (F : Nat) (a0 : Int) (a1 : Int) (a2 : Int) : Int := atI (nth (outT to_wide_Left (f_wide_Left F a0 a1 a2)) 1)
theorem k_wide_Left (F : Nat) (a0 : Int) (a1 : Int) (a2 : Int) {z0 : Int} {z1 : Int} (h : f_wide_Left F a0 a1 a2 = some (.v (.agg #[.int .i64 z0, .int .u64 z1]))) : ok_wide_Left F a0 a1 a2 = true ∧ o_wide_Left_0 F a0 a1 a2 = z0 ∧ o_wide_Left_1 F a0 a1 a2 = z1 := by
  refine ⟨?_, ?_, ?_⟩
  · unfold ok_wide_Left; rw [h]; kernel_rfl
  · unfold o_wide_Left_0; rw [h]; kernel_rfl
  · unfold o_wide_Left_1; rw [h]; kernel_rfl
def s_wide_Left (F : Nat) : List VV → Option (Bool × VV) := spec ti_wide_Left to_wide_Left (fun q => (ok_wide_Left F (atI (nth q 0)) (atI (nth q 1)) (atI (nth q 2)))) (fun q => [.i (o_wide_Left_0 F (atI (nth q 0)) (atI (nth q 1)) (atI (nth q 2))), .i (o_wide_Left_1 F (atI (nth q 0)) (atI (nth q 1)) (atI (nth q 2)))])
theorem hS_wide_Left (F : Nat) : ∀ f, Good PP f (unS (S_wide_Left F f)) := words_good fun p hp => by
  cases hp
theorem hl_wide_Left (F : Nat) : ∀ p ∈ loopsIn PP 86, LoopOK PP (S_wide_Left F) c_wide_Left F (I_wide_Left F) (J_wide_Left F) p :=
  loops_of [] (by kernel_rfl) all_nil
theorem hj_wide_Left (F : Nat) : ∀ p ∈ joinsIn PP c_wide_Left 86, JoinOK PP (S_wide_Left F) c_wide_Left (I_wide_Left F) (J_wide_Left F) p :=
  joins_of [] (by kernel_rfl) all_nil
theorem g_wide_Left (F : Nat) : Good PP 86 (unS (s_wide_Left F)) :=
  fun_spec (hS_wide_Left F) (by kernel_rfl) (by kernel_rfl) (C := c_wide_Left) (F := fun q => (f_wide_Left F (atI (nth q 0)) (atI (nth q 1)) (atI (nth q 2)))) (fun _ => F) (fun _ => I_wide_Left F) (fun _ => J_wide_Left F) (fun _ => hl_wide_Left F) (fun _ => hj_wide_Left F)
    (fun q => (congrArg (funL PP (S_wide_Left F) c_wide_Left (I_wide_Left F) (J_wide_Left F) 86) (show (fTs ti_wide_Left q).1 = (fTs ti_wide_Left [.i (atI (nth q 0)), .i (atI (nth q 1)), .i (atI (nth q 2))]).1 by kernel_rfl)).trans (e_wide_Left F (atI (nth q 0)) (atI (nth q 1)) (atI (nth q 2))))
    (fun _ h => (okT_fill h).trans (congrArg some (by kernel_rfl)))

end Go.Xv
set_option linter.unusedVariables false
namespace Go.Xv
/- 87 _wide_Of -/
def c_wide_Of : Cfg := ⟨[0, 2], [], [], []⟩
def ti_wide_Of : List TV := [.v (.int .i64)]
def to_wide_Of : TV := .v (.agg [.int .i64, .int .u64])
def S_wide_Of (F : Nat) : FuncId → List VV → Option (Bool × VV) := words []
def W_wide_Of (F : Nat) : List LW := []
def I_wide_Of (F : Nat) : Nat → VS → (Exit → VS → R) → R := tabI c_wide_Of (W_wide_Of F)
def WJ_wide_Of (F : Nat) : List LJ := []
def J_wide_Of (F : Nat) : Nat → Nat → VS → (Exit → VS → R) → R := tabJ (WJ_wide_Of F)
def f_wide_Of (F : Nat) (a0 : Int) : R :=
  some (.v (.agg #[.int .i64 ((Int.fdiv a0 (9223372036854775808))), .int .u64 ((IntKind.wrap .u64 a0))]))
theorem e_wide_Of (F : Nat) (a0 : Int) : funL PP (S_wide_Of F) c_wide_Of (I_wide_Of F) (J_wide_Of F) 87 (fTs ti_wide_Of [.i a0]).1 = f_wide_Of F a0 := by
  have h : ∀ (_ : Unit), funL PP (words []) c_wide_Of (tabI c_wide_Of []) (tabJ []) 87 (fTs ti_wide_Of [.i a0]).1 = (
  some (.v (.agg #[.int .i64 ((Int.fdiv a0 (9223372036854775808))), .int .u64 ((IntKind.wrap .u64 a0))])) : R) := by
    intros
    kernel_rfl
  exact (h ()).trans (by kernel_rfl)
def ok_wide_Of (F : Nat) (a0 : Int) : Bool := okT to_wide_Of (f_wide_Of F a0)
def o_wide_Of_0 (F : Nat) (a0 : Int) : Int := atI (nth (outT to_wide_Of (f_wide_Of F a0)) 0)
def o_wide_Of_1 (F : Nat) (a0 : Int) : Int := atI (nth (outT to_wide_Of (f_wide_Of F a0)) 1)
theorem k_wide_Of (F : Nat) (a0 : Int) {z0 : Int} {z1 : Int} (h : f_wide_Of F a0 = some (.v (.agg #[.int .i64 z0, .int .u64 z1]))) : ok_wide_Of F a0 = true ∧ o_wide_Of_0 F a0 = z0 ∧ o_wide_Of_1 F a0 = z1 := by
  refine ⟨?_, ?_, ?_⟩
  · unfold ok_wide_Of; rw [h]; kernel_rfl
  · unfold o_wide_Of_0; rw [h]; kernel_rfl
  · unfold o_wide_Of_1; rw [h]; kernel_rfl
def s_wide_Of (F : Nat) : List VV → Option (Bool × VV) := spec ti_wide_Of to_wide_Of (fun q => (ok_wide_Of F (atI (nth q 0)))) (fun q => [.i (o_wide_Of_0 F (atI (nth q 0))), .i (o_wide_Of_1 F (atI (nth q 0)))])
theorem hS_wide_Of (F : Nat) : ∀ f, Good PP f (unS (S_wide_Of F f)) := words_good fun p hp => by
  cases hp
theorem hl_wide_Of (F : Nat) : ∀ p ∈ loopsIn PP 87, LoopOK PP (S_wide_Of F) c_wide_Of F (I_wide_Of F) (J_wide_Of F) p :=
  loops_of [] (by kernel_rfl) all_nil
theorem hj_wide_Of (F : Nat) : ∀ p ∈ joinsIn PP c_wide_Of 87, JoinOK PP (S_wide_Of F) c_wide_Of (I_wide_Of F) (J_wide_Of F) p :=
  joins_of [] (by kernel_rfl) all_nil
theorem g_wide_Of (F : Nat) : Good PP 87 (unS (s_wide_Of F)) :=
  fun_spec (hS_wide_Of F) (by kernel_rfl) (by kernel_rfl) (C := c_wide_Of) (F := fun q => (f_wide_Of F (atI (nth q 0)))) (fun _ => F) (fun _ => I_wide_Of F) (fun _ => J_wide_Of F) (fun _ => hl_wide_Of F) (fun _ => hj_wide_Of F)
    (fun q => (congrArg (funL PP (S_wide_Of F) c_wide_Of (I_wide_Of F) (J_wide_Of F) 87) (show (fTs ti_wide_Of q).1 = (fTs ti_wide_Of [.i (atI (nth q 0))]).1 by kernel_rfl)).trans (e_wide_Of F (atI (nth q 0))))
    (fun _ h => (okT_fill h).trans (congrArg some (by kernel_rfl)))

end Go.Xv
set_option linter.unusedVariables false
namespace Go.Xv
/- 70 _ref01_Digits -/
def c_ref01_Digits : Cfg := ⟨[0, 1, 2, 3, 4, 5, 6, 7, 12, 27], [(0, [0, 1, 2, 3, 4, 5, 6, 7, 8, 9, 10, 23, 24, 25, 26, 27, 28, 29, 30, 31, 32, 33, 34, 35, 36, 37, 38]), (2, [0, 1, 2, 3, 4, 5, 6, 7, 8, 9, 10, 11, 12, 13, 14, 15, 16, 17, 18, 19, 20, 21, 22, 23, 24, 25, 38])], [19, 34], []⟩
def ti_ref01_Digits : List TV := [.v (.agg [.int .i64, .int .u64])]
def to_ref01_Digits : TV := .fs (.lit 0) .hole 1
def S_ref01_Digits (F : Nat) : FuncId → List VV → Option (Bool × VV) := words []
def T_ref01_Digits_0 : TS := ⟨[(0, .v (.agg [.int .i64, .int .u64])), (1, .lp 0 (.lit 0)), (2, .v (.nils)), (3, .ls 1 (.lit 0) .hole 1), (4, .v (.int .u64)), (5, .v (.int .i64))], [(0, ⟨(.ex [.v (.int .i64), .v (.int .u64)]), true⟩), (1, ⟨.hole, true⟩)], 2⟩
def T_ref01_Digits_0_0 : TS := ⟨[(0, .v (.agg [.int .i64, .int .u64])), (1, .lp 0 (.lit 0)), (2, .v (.nils)), (3, .ls 1 (.lit 0) .hole 1), (4, .v (.int .u64)), (5, .v (.int .i64))], [(0, ⟨(.ex [.v (.int .i64), .v (.int .u64)]), true⟩), (1, ⟨.hole, true⟩)], 2⟩
def B_ref01_Digits_0 (F : Nat) (rc : Int → Int → Nat → Int → Int → Int → Int → List VV → R) (ex0 : Int → Int → Nat → Int → Int → Int → Int → List VV → R) (x0 : Int) (x1 : Int) (x2 : Nat) (x3 : Int) (x4 : Int) (x5 : Int) (x6 : Int) (x7 : List VV) : R :=
  bif ((decide (x4 < 64))) then (
    bif (((decide ((0 + (x2 * 1)) ≤ x7.length)) && true) && (decide ((x2 + 1) * 9 ≤ bigger))) then (
      rc x0 x1 ((x2 + 1)) ((IntKind.wrap .u64 (Int.tdiv x3 2))) ((IntKind.wrap .i64 (x4 + 1))) x5 x6 ((((x7.drop 0).take (x2 * 1)) ++ [.v (.int .i64 ((IntKind.wrap .i64 ((Int.tmod x3 2)))))])))
    else (
      none))
  else (
    ex0 x0 x1 x2 x3 x4 x5 x6 x7)
def L_ref01_Digits_0 (F : Nat) (ex0 : Int → Int → Nat → Int → Int → Int → Int → List VV → R) : Nat → Int → Int → Nat → Int → Int → Int → Int → List VV → R
  | 0, _, _, _, _, _, _, _, _ => none
  | n + 1, x0, x1, x2, x3, x4, x5, x6, x7 => B_ref01_Digits_0 F (L_ref01_Digits_0 F ex0 n) ex0 x0 x1 x2 x3 x4 x5 x6 x7
def T_ref01_Digits_1 : TS := ⟨[(0, .v (.agg [.int .i64, .int .u64])), (1, .lp 0 (.lit 0)), (2, .v (.nils)), (3, .ls 1 (.lit 0) .hole 1), (4, .v (.int .u64)), (5, .v (.int .i64)), (6, .v (.int .u64)), (7, .v (.int .i64))], [(0, ⟨(.ex [.v (.int .i64), .v (.int .u64)]), true⟩), (1, ⟨.hole, true⟩)], 2⟩
def T_ref01_Digits_1_0 : TS := ⟨[(0, .v (.agg [.int .i64, .int .u64])), (1, .lp 0 (.lit 0)), (2, .v (.nils)), (3, .ls 1 (.lit 0) .hole 1), (4, .v (.int .u64)), (5, .v (.int .i64)), (6, .v (.int .u64)), (7, .v (.int .i64))], [(0, ⟨(.ex [.v (.int .i64), .v (.int .u64)]), true⟩), (1, ⟨.hole, true⟩)], 2⟩
def B_ref01_Digits_1 (F : Nat) (rc : Int → Int → Nat → Int → Int → Int → Int → Int → Int → List VV → R) (ex0 : Int → Int → Nat → Int → Int → Int → Int → Int → Int → List VV → R) (x0 : Int) (x1 : Int) (x2 : Nat) (x3 : Int) (x4 : Int) (x5 : Int) (x6 : Int) (x7 : Int) (x8 : Int) (x9 : List VV) : R :=
  bif ((decide (x6 < 64))) then (
    bif (((decide ((0 + (x2 * 1)) ≤ x9.length)) && true) && (decide ((x2 + 1) * 9 ≤ bigger))) then (
      rc x0 x1 ((x2 + 1)) x3 x4 ((IntKind.wrap .u64 (Int.tdiv x5 2))) ((IntKind.wrap .i64 (x6 + 1))) x7 x8 ((((x9.drop 0).take (x2 * 1)) ++ [.v (.int .i64 ((IntKind.wrap .i64 ((Int.tmod x5 2)))))])))
    else (
      none))
  else (
    ex0 x0 x1 x2 x3 x4 x5 x6 x7 x8 x9)
def L_ref01_Digits_1 (F : Nat) (ex0 : Int → Int → Nat → Int → Int → Int → Int → Int → Int → List VV → R) : Nat → Int → Int → Nat → Int → Int → Int → Int → Int → Int → List VV → R
  | 0, _, _, _, _, _, _, _, _, _, _ => none
  | n + 1, x0, x1, x2, x3, x4, x5, x6, x7, x8, x9 => B_ref01_Digits_1 F (L_ref01_Digits_1 F ex0 n) ex0 x0 x1 x2 x3 x4 x5 x6 x7 x8 x9
def W_ref01_Digits (F : Nat) : List LW := [⟨0, T_ref01_Digits_0, fun k q => L_ref01_Digits_0 F (fun (z0 : Int) (z1 : Int) (z2 : Nat) (z3 : Int) (z4 : Int) (z5 : Int) (z6 : Int) (z7 : List VV) => k (.exit 0) (fS T_ref01_Digits_0_0 [.i z0, .i z1, .n z2, .i z3, .i z4, .i z5, .i z6, .c z7])) F (atI (nth q 0)) (atI (nth q 1)) (atN (nth q 2)) (atI (nth q 3)) (atI (nth q 4)) (atI (nth q 5)) (atI (nth q 6)) (atC (nth q 7))⟩, ⟨2, T_ref01_Digits_1, fun k q => L_ref01_Digits_1 F (fun (z0 : Int) (z1 : Int) (z2 : Nat) (z3 : Int) (z4 : Int) (z5 : Int) (z6 : Int) (z7 : Int) (z8 : Int) (z9 : List VV) => k (.exit 2) (fS T_ref01_Digits_1_0 [.i z0, .i z1, .n z2, .i z3, .i z4, .i z5, .i z6, .i z7, .i z8, .c z9])) F (atI (nth q 0)) (atI (nth q 1)) (atN (nth q 2)) (atI (nth q 3)) (atI (nth q 4)) (atI (nth q 5)) (atI (nth q 6)) (atI (nth q 7)) (atI (nth q 8)) (atC (nth q 9))⟩]
def I_ref01_Digits (F : Nat) : Nat → VS → (Exit → VS → R) → R := tabI c_ref01_Digits (W_ref01_Digits F)
def WJ_ref01_Digits (F : Nat) : List LJ := []
def J_ref01_Digits (F : Nat) : Nat → Nat → VS → (Exit → VS → R) → R := tabJ (WJ_ref01_Digits F)
theorem lL_ref01_Digits_0 (F : Nat) (k : Exit → VS → R) : ∀ (n : Nat) (x0 : Int) (x1 : Int) (x2 : Nat) (x3 : Int) (x4 : Int) (x5 : Int) (x6 : Int) (x7 : List VV), iterC (codeL PP (S_ref01_Digits F) c_ref01_Digits (I_ref01_Digits F) (J_ref01_Digits F) (loopAt PP 70 0) 0) (headOf c_ref01_Digits 0) k n (fS T_ref01_Digits_0 [.i x0, .i x1, .n x2, .i x3, .i x4, .i x5, .i x6, .c x7]) = L_ref01_Digits_0 F (fun (z0 : Int) (z1 : Int) (z2 : Nat) (z3 : Int) (z4 : Int) (z5 : Int) (z6 : Int) (z7 : List VV) => k (.exit 0) (fS T_ref01_Digits_0_0 [.i z0, .i z1, .n z2, .i z3, .i z4, .i z5, .i z6, .c z7])) n x0 x1 x2 x3 x4 x5 x6 x7
  | 0, _, _, _, _, _, _, _, _ => rfl
  | n + 1, x0, x1, x2, x3, x4, x5, x6, x7 => by
    have h0 : ∀ (L_ref01_Digits_0 : Nat → (Int → Int → Nat → Int → Int → Int → Int → List VV → R) → Nat → Int → Int → Nat → Int → Int → Int → Int → List VV → R) (L_ref01_Digits_1 : Nat → (Int → Int → Nat → Int → Int → Int → Int → Int → Int → List VV → R) → Nat → Int → Int → Nat → Int → Int → Int → Int → Int → Int → List VV → R), iterC (codeL PP (words []) c_ref01_Digits (tabI c_ref01_Digits [⟨0, T_ref01_Digits_0, fun k q => L_ref01_Digits_0 F (fun (z0 : Int) (z1 : Int) (z2 : Nat) (z3 : Int) (z4 : Int) (z5 : Int) (z6 : Int) (z7 : List VV) => k (.exit 0) (fS T_ref01_Digits_0_0 [.i z0, .i z1, .n z2, .i z3, .i z4, .i z5, .i z6, .c z7])) F (atI (nth q 0)) (atI (nth q 1)) (atN (nth q 2)) (atI (nth q 3)) (atI (nth q 4)) (atI (nth q 5)) (atI (nth q 6)) (atC (nth q 7))⟩, ⟨2, T_ref01_Digits_1, fun k q => L_ref01_Digits_1 F (fun (z0 : Int) (z1 : Int) (z2 : Nat) (z3 : Int) (z4 : Int) (z5 : Int) (z6 : Int) (z7 : Int) (z8 : Int) (z9 : List VV) => k (.exit 2) (fS T_ref01_Digits_1_0 [.i z0, .i z1, .n z2, .i z3, .i z4, .i z5, .i z6, .i z7, .i z8, .c z9])) F (atI (nth q 0)) (atI (nth q 1)) (atN (nth q 2)) (atI (nth q 3)) (atI (nth q 4)) (atI (nth q 5)) (atI (nth q 6)) (atI (nth q 7)) (atI (nth q 8)) (atC (nth q 9))⟩]) (tabJ []) (loopAt PP 70 0) 0) (headOf c_ref01_Digits 0) k (n + 1) (fS T_ref01_Digits_0 [.i x0, .i x1, .n x2, .i x3, .i x4, .i x5, .i x6, .c x7]) = (fun (rc : Int → Int → Nat → Int → Int → Int → Int → List VV → R) (ex0 : Int → Int → Nat → Int → Int → Int → Int → List VV → R) (x0 : Int) (x1 : Int) (x2 : Nat) (x3 : Int) (x4 : Int) (x5 : Int) (x6 : Int) (x7 : List VV) => (
  bif ((decide (x4 < 64))) then (
    bif (((decide ((0 + (x2 * 1)) ≤ x7.length)) && true) && (decide ((x2 + 1) * 9 ≤ bigger))) then (
      rc x0 x1 ((x2 + 1)) ((IntKind.wrap .u64 (Int.tdiv x3 2))) ((IntKind.wrap .i64 (x4 + 1))) x5 x6 ((((x7.drop 0).take (x2 * 1)) ++ [.v (.int .i64 ((IntKind.wrap .i64 ((Int.tmod x3 2)))))])))
    else (
      none))
  else (
    ex0 x0 x1 x2 x3 x4 x5 x6 x7) : R)) (fun (y0 : Int) (y1 : Int) (y2 : Nat) (y3 : Int) (y4 : Int) (y5 : Int) (y6 : Int) (y7 : List VV) => iterC (codeL PP (words []) c_ref01_Digits (tabI c_ref01_Digits [⟨0, T_ref01_Digits_0, fun k q => L_ref01_Digits_0 F (fun (z0 : Int) (z1 : Int) (z2 : Nat) (z3 : Int) (z4 : Int) (z5 : Int) (z6 : Int) (z7 : List VV) => k (.exit 0) (fS T_ref01_Digits_0_0 [.i z0, .i z1, .n z2, .i z3, .i z4, .i z5, .i z6, .c z7])) F (atI (nth q 0)) (atI (nth q 1)) (atN (nth q 2)) (atI (nth q 3)) (atI (nth q 4)) (atI (nth q 5)) (atI (nth q 6)) (atC (nth q 7))⟩, ⟨2, T_ref01_Digits_1, fun k q => L_ref01_Digits_1 F (fun (z0 : Int) (z1 : Int) (z2 : Nat) (z3 : Int) (z4 : Int) (z5 : Int) (z6 : Int) (z7 : Int) (z8 : Int) (z9 : List VV) => k (.exit 2) (fS T_ref01_Digits_1_0 [.i z0, .i z1, .n z2, .i z3, .i z4, .i z5, .i z6, .i z7, .i z8, .c z9])) F (atI (nth q 0)) (atI (nth q 1)) (atN (nth q 2)) (atI (nth q 3)) (atI (nth q 4)) (atI (nth q 5)) (atI (nth q 6)) (atI (nth q 7)) (atI (nth q 8)) (atC (nth q 9))⟩]) (tabJ []) (loopAt PP 70 0) 0) (headOf c_ref01_Digits 0) k n (fS T_ref01_Digits_0 [.i y0, .i y1, .n y2, .i y3, .i y4, .i y5, .i y6, .c y7])) (fun (z0 : Int) (z1 : Int) (z2 : Nat) (z3 : Int) (z4 : Int) (z5 : Int) (z6 : Int) (z7 : List VV) => k (.exit 0) (fS T_ref01_Digits_0_0 [.i z0, .i z1, .n z2, .i z3, .i z4, .i z5, .i z6, .c z7])) x0 x1 x2 x3 x4 x5 x6 x7 := by
      intros
      kernel_rfl
    have h : iterC (codeL PP (S_ref01_Digits F) c_ref01_Digits (I_ref01_Digits F) (J_ref01_Digits F) (loopAt PP 70 0) 0) (headOf c_ref01_Digits 0) k (n + 1) (fS T_ref01_Digits_0 [.i x0, .i x1, .n x2, .i x3, .i x4, .i x5, .i x6, .c x7]) = B_ref01_Digits_0 F (fun (y0 : Int) (y1 : Int) (y2 : Nat) (y3 : Int) (y4 : Int) (y5 : Int) (y6 : Int) (y7 : List VV) => iterC (codeL PP (S_ref01_Digits F) c_ref01_Digits (I_ref01_Digits F) (J_ref01_Digits F) (loopAt PP 70 0) 0) (headOf c_ref01_Digits 0) k n (fS T_ref01_Digits_0 [.i y0, .i y1, .n y2, .i y3, .i y4, .i y5, .i y6, .c y7])) (fun (z0 : Int) (z1 : Int) (z2 : Nat) (z3 : Int) (z4 : Int) (z5 : Int) (z6 : Int) (z7 : List VV) => k (.exit 0) (fS T_ref01_Digits_0_0 [.i z0, .i z1, .n z2, .i z3, .i z4, .i z5, .i z6, .c z7])) x0 x1 x2 x3 x4 x5 x6 x7 := (h0 L_ref01_Digits_0 L_ref01_Digits_1).trans (by kernel_rfl)
    rw [h]
    simp only [lL_ref01_Digits_0 F k n]
    rfl
theorem lL_ref01_Digits_1 (F : Nat) (k : Exit → VS → R) : ∀ (n : Nat) (x0 : Int) (x1 : Int) (x2 : Nat) (x3 : Int) (x4 : Int) (x5 : Int) (x6 : Int) (x7 : Int) (x8 : Int) (x9 : List VV), iterC (codeL PP (S_ref01_Digits F) c_ref01_Digits (I_ref01_Digits F) (J_ref01_Digits F) (loopAt PP 70 1) 2) (headOf c_ref01_Digits 2) k n (fS T_ref01_Digits_1 [.i x0, .i x1, .n x2, .i x3, .i x4, .i x5, .i x6, .i x7, .i x8, .c x9]) = L_ref01_Digits_1 F (fun (z0 : Int) (z1 : Int) (z2 : Nat) (z3 : Int) (z4 : Int) (z5 : Int) (z6 : Int) (z7 : Int) (z8 : Int) (z9 : List VV) => k (.exit 2) (fS T_ref01_Digits_1_0 [.i z0, .i z1, .n z2, .i z3, .i z4, .i z5, .i z6, .i z7, .i z8, .c z9])) n x0 x1 x2 x3 x4 x5 x6 x7 x8 x9
  | 0, _, _, _, _, _, _, _, _, _, _ => rfl
  | n + 1, x0, x1, x2, x3, x4, x5, x6, x7, x8, x9 => by
    have h0 : ∀ (L_ref01_Digits_0 : Nat → (Int → Int → Nat → Int → Int → Int → Int → List VV → R) → Nat → Int → Int → Nat → Int → Int → Int → Int → List VV → R) (L_ref01_Digits_1 : Nat → (Int → Int → Nat → Int → Int → Int → Int → Int → Int → List VV → R) → Nat → Int → Int → Nat → Int → Int → Int → Int → Int → Int → List VV → R), iterC (codeL PP (words []) c_ref01_Digits (tabI c_ref01_Digits [⟨0, T_ref01_Digits_0, fun k q => L_ref01_Digits_0 F (fun (z0 : Int) (z1 : Int) (z2 : Nat) (z3 : Int) (z4 : Int) (z5 : Int) (z6 : Int) (z7 : List VV) => k (.exit 0) (fS T_ref01_Digits_0_0 [.i z0, .i z1, .n z2, .i z3, .i z4, .i z5, .i z6, .c z7])) F (atI (nth q 0)) (atI (nth q 1)) (atN (nth q 2)) (atI (nth q 3)) (atI (nth q 4)) (atI (nth q 5)) (atI (nth q 6)) (atC (nth q 7))⟩, ⟨2, T_ref01_Digits_1, fun k q => L_ref01_Digits_1 F (fun (z0 : Int) (z1 : Int) (z2 : Nat) (z3 : Int) (z4 : Int) (z5 : Int) (z6 : Int) (z7 : Int) (z8 : Int) (z9 : List VV) => k (.exit 2) (fS T_ref01_Digits_1_0 [.i z0, .i z1, .n z2, .i z3, .i z4, .i z5, .i z6, .i z7, .i z8, .c z9])) F (atI (nth q 0)) (atI (nth q 1)) (atN (nth q 2)) (atI (nth q 3)) (atI (nth q 4)) (atI (nth q 5)) (atI (nth q 6)) (atI (nth q 7)) (atI (nth q 8)) (atC (nth q 9))⟩]) (tabJ []) (loopAt PP 70 1) 2) (headOf c_ref01_Digits 2) k (n + 1) (fS T_ref01_Digits_1 [.i x0, .i x1, .n x2, .i x3, .i x4, .i x5, .i x6, .i x7, .i x8, .c x9]) = (fun (rc : Int → Int → Nat → Int → Int → Int → Int → Int → Int → List VV → R) (ex0 : Int → Int → Nat → Int → Int → Int → Int → Int → Int → List VV → R) (x0 : Int) (x1 : Int) (x2 : Nat) (x3 : Int) (x4 : Int) (x5 : Int) (x6 : Int) (x7 : Int) (x8 : Int) (x9 : List VV) => (
  bif ((decide (x6 < 64))) then (
    bif (((decide ((0 + (x2 * 1)) ≤ x9.length)) && true) && (decide ((x2 + 1) * 9 ≤ bigger))) then (
      rc x0 x1 ((x2 + 1)) x3 x4 ((IntKind.wrap .u64 (Int.tdiv x5 2))) ((IntKind.wrap .i64 (x6 + 1))) x7 x8 ((((x9.drop 0).take (x2 * 1)) ++ [.v (.int .i64 ((IntKind.wrap .i64 ((Int.tmod x5 2)))))])))
    else (
      none))
  else (
    ex0 x0 x1 x2 x3 x4 x5 x6 x7 x8 x9) : R)) (fun (y0 : Int) (y1 : Int) (y2 : Nat) (y3 : Int) (y4 : Int) (y5 : Int) (y6 : Int) (y7 : Int) (y8 : Int) (y9 : List VV) => iterC (codeL PP (words []) c_ref01_Digits (tabI c_ref01_Digits [⟨0, T_ref01_Digits_0, fun k q => L_ref01_Digits_0 F (fun (z0 : Int) (z1 : Int) (z2 : Nat) (z3 : Int) (z4 : Int) (z5 : Int) (z6 : Int) (z7 : List VV) => k (.exit 0) (fS T_ref01_Digits_0_0 [.i z0, .i z1, .n z2, .i z3, .i z4, .i z5, .i z6, .c z7])) F (atI (nth q 0)) (atI (nth q 1)) (atN (nth q 2)) (atI (nth q 3)) (atI (nth q 4)) (atI (nth q 5)) (atI (nth q 6)) (atC (nth q 7))⟩, ⟨2, T_ref01_Digits_1, fun k q => L_ref01_Digits_1 F (fun (z0 : Int) (z1 : Int) (z2 : Nat) (z3 : Int) (z4 : Int) (z5 : Int) (z6 : Int) (z7 : Int) (z8 : Int) (z9 : List VV) => k (.exit 2) (fS T_ref01_Digits_1_0 [.i z0, .i z1, .n z2, .i z3, .i z4, .i z5, .i z6, .i z7, .i z8, .c z9])) F (atI (nth q 0)) (atI (nth q 1)) (atN (nth q 2)) (atI (nth q 3)) (atI (nth q 4)) (atI (nth q 5)) (atI (nth q 6)) (atI (nth q 7)) (atI (nth q 8)) (atC (nth q 9))⟩]) (tabJ []) (loopAt PP 70 1) 2) (headOf c_ref01_Digits 2) k n (fS T_ref01_Digits_1 [.i y0, .i y1, .n y2, .i y3, .i y4, .i y5, .i y6, .i y7, .i y8, .c y9])) (fun (z0 : Int) (z1 : Int) (z2 : Nat) (z3 : Int) (z4 : Int) (z5 : Int) (z6 : Int) (z7 : Int) (z8 : Int) (z9 : List VV) => k (.exit 2) (fS T_ref01_Digits_1_0 [.i z0, .i z1, .n z2, .i z3, .i z4, .i z5, .i z6, .i z7, .i z8, .c z9])) x0 x1 x2 x3 x4 x5 x6 x7 x8 x9 := by
      intros
      kernel_rfl
    have h : iterC (codeL PP (S_ref01_Digits F) c_ref01_Digits (I_ref01_Digits F) (J_ref01_Digits F) (loopAt PP 70 1) 2) (headOf c_ref01_Digits 2) k (n + 1) (fS T_ref01_Digits_1 [.i x0, .i x1, .n x2, .i x3, .i x4, .i x5, .i x6, .i x7, .i x8, .c x9]) = B_ref01_Digits_1 F (fun (y0 : Int) (y1 : Int) (y2 : Nat) (y3 : Int) (y4 : Int) (y5 : Int) (y6 : Int) (y7 : Int) (y8 : Int) (y9 : List VV) => iterC (codeL PP (S_ref01_Digits F) c_ref01_Digits (I_ref01_Digits F) (J_ref01_Digits F) (loopAt PP 70 1) 2) (headOf c_ref01_Digits 2) k n (fS T_ref01_Digits_1 [.i y0, .i y1, .n y2, .i y3, .i y4, .i y5, .i y6, .i y7, .i y8, .c y9])) (fun (z0 : Int) (z1 : Int) (z2 : Nat) (z3 : Int) (z4 : Int) (z5 : Int) (z6 : Int) (z7 : Int) (z8 : Int) (z9 : List VV) => k (.exit 2) (fS T_ref01_Digits_1_0 [.i z0, .i z1, .n z2, .i z3, .i z4, .i z5, .i z6, .i z7, .i z8, .c z9])) x0 x1 x2 x3 x4 x5 x6 x7 x8 x9 := (h0 L_ref01_Digits_0 L_ref01_Digits_1).trans (by kernel_rfl)
    rw [h]
    simp only [lL_ref01_Digits_1 F k n]
    rfl
def f_ref01_Digits (F : Nat) (a0 : Int) (a1 : Int) : R :=
  L_ref01_Digits_0 F (fun (v2067 : Int) (v2068 : Int) (v2069 : Nat) (v2070 : Int) (v2071 : Int) (v2072 : Int) (v2073 : Int) (v2074 : List VV) =>
    L_ref01_Digits_1 F (fun (v2093 : Int) (v2094 : Int) (v2095 : Nat) (v2096 : Int) (v2097 : Int) (v2098 : Int) (v2099 : Int) (v2100 : Int) (v2101 : Int) (v2102 : List VV) =>
      some (.fs v2102 0 v2095 1)) F v2067 v2068 v2069 v2070 v2071 ((IntKind.wrap .u64 v2072)) 0 v2072 v2073 v2074) F a0 a1 0 a1 0 a0 a1 []
theorem e_ref01_Digits (F : Nat) (a0 : Int) (a1 : Int) : funL PP (S_ref01_Digits F) c_ref01_Digits (I_ref01_Digits F) (J_ref01_Digits F) 70 (fTs ti_ref01_Digits [.i a0, .i a1]).1 = f_ref01_Digits F a0 a1 := by
  have h : ∀ (L_ref01_Digits_0 : Nat → (Int → Int → Nat → Int → Int → Int → Int → List VV → R) → Nat → Int → Int → Nat → Int → Int → Int → Int → List VV → R) (L_ref01_Digits_1 : Nat → (Int → Int → Nat → Int → Int → Int → Int → Int → Int → List VV → R) → Nat → Int → Int → Nat → Int → Int → Int → Int → Int → Int → List VV → R), funL PP (words []) c_ref01_Digits (tabI c_ref01_Digits [⟨0, T_ref01_Digits_0, fun k q => L_ref01_Digits_0 F (fun (z0 : Int) (z1 : Int) (z2 : Nat) (z3 : Int) (z4 : Int) (z5 : Int) (z6 : Int) (z7 : List VV) => k (.exit 0) (fS T_ref01_Digits_0_0 [.i z0, .i z1, .n z2, .i z3, .i z4, .i z5, .i z6, .c z7])) F (atI (nth q 0)) (atI (nth q 1)) (atN (nth q 2)) (atI (nth q 3)) (atI (nth q 4)) (atI (nth q 5)) (atI (nth q 6)) (atC (nth q 7))⟩, ⟨2, T_ref01_Digits_1, fun k q => L_ref01_Digits_1 F (fun (z0 : Int) (z1 : Int) (z2 : Nat) (z3 : Int) (z4 : Int) (z5 : Int) (z6 : Int) (z7 : Int) (z8 : Int) (z9 : List VV) => k (.exit 2) (fS T_ref01_Digits_1_0 [.i z0, .i z1, .n z2, .i z3, .i z4, .i z5, .i z6, .i z7, .i z8, .c z9])) F (atI (nth q 0)) (atI (nth q 1)) (atN (nth q 2)) (atI (nth q 3)) (atI (nth q 4)) (atI (nth q 5)) (atI (nth q 6)) (atI (nth q 7)) (atI (nth q 8)) (atC (nth q 9))⟩]) (tabJ []) 70 (fTs ti_ref01_Digits [.i a0, .i a1]).1 = (
  L_ref01_Digits_0 F (fun (v2067 : Int) (v2068 : Int) (v2069 : Nat) (v2070 : Int) (v2071 : Int) (v2072 : Int) (v2073 : Int) (v2074 : List VV) =>
    L_ref01_Digits_1 F (fun (v2093 : Int) (v2094 : Int) (v2095 : Nat) (v2096 : Int) (v2097 : Int) (v2098 : Int) (v2099 : Int) (v2100 : Int) (v2101 : Int) (v2102 : List VV) =>
      some (.fs v2102 0 v2095 1)) F v2067 v2068 v2069 v2070 v2071 ((IntKind.wrap .u64 v2072)) 0 v2072 v2073 v2074) F a0 a1 0 a1 0 a0 a1 [] : R) := by
    intros
    kernel_rfl
  exact (h L_ref01_Digits_0 L_ref01_Digits_1).trans (by kernel_rfl)
def ok_ref01_Digits (F : Nat) (a0 : Int) (a1 : Int) : Bool := okT to_ref01_Digits (f_ref01_Digits F a0 a1)
def o_ref01_Digits_0 (F : Nat) (a0 : Int) (a1 : Int) : List VV := atC (nth (outT to_ref01_Digits (f_ref01_Digits F a0 a1)) 0)
def o_ref01_Digits_1 (F : Nat) (a0 : Int) (a1 : Int) : Nat := atN (nth (outT to_ref01_Digits (f_ref01_Digits F a0 a1)) 1)
theorem k_ref01_Digits (F : Nat) (a0 : Int) (a1 : Int) {z0 : List VV} {z1 : Nat} (h : f_ref01_Digits F a0 a1 = some (.fs z0 0 z1 1)) : ok_ref01_Digits F a0 a1 = true ∧ o_ref01_Digits_0 F a0 a1 = z0 ∧ o_ref01_Digits_1 F a0 a1 = z1 := by
  refine ⟨?_, ?_, ?_⟩
  · unfold ok_ref01_Digits; rw [h]; kernel_rfl
  · unfold o_ref01_Digits_0; rw [h]; kernel_rfl
  · unfold o_ref01_Digits_1; rw [h]; kernel_rfl
def s_ref01_Digits (F : Nat) : List VV → Option (Bool × VV) := spec ti_ref01_Digits to_ref01_Digits (fun q => (ok_ref01_Digits F (atI (nth q 0)) (atI (nth q 1)))) (fun q => [.c (o_ref01_Digits_0 F (atI (nth q 0)) (atI (nth q 1))), .n (o_ref01_Digits_1 F (atI (nth q 0)) (atI (nth q 1)))])
theorem hS_ref01_Digits (F : Nat) : ∀ f, Good PP f (unS (S_ref01_Digits F f)) := words_good fun p hp => by
  cases hp
theorem hl_ref01_Digits (F : Nat) : ∀ p ∈ loopsIn PP 70, LoopOK PP (S_ref01_Digits F) c_ref01_Digits F (I_ref01_Digits F) (J_ref01_Digits F) p :=
  loops_of [(0, loopAt PP 70 0), (2, loopAt PP 70 1)] (by kernel_rfl) (all_cons
    (loop_ok (W_ref01_Digits F) rfl (tab_cons (fun _ k q => Le.ofEq ((lL_ref01_Digits_0 F k F (atI (nth q 0)) (atI (nth q 1)) (atN (nth q 2)) (atI (nth q 3)) (atI (nth q 4)) (atI (nth q 5)) (atI (nth q 6)) (atC (nth q 7))).symm.trans (congrArg (iterC (codeL PP (S_ref01_Digits F) c_ref01_Digits (I_ref01_Digits F) (J_ref01_Digits F) (loopAt PP 70 0) 0) (headOf c_ref01_Digits 0) k F) (show fS T_ref01_Digits_0 [.i (atI (nth q 0)), .i (atI (nth q 1)), .n (atN (nth q 2)), .i (atI (nth q 3)), .i (atI (nth q 4)), .i (atI (nth q 5)), .i (atI (nth q 6)), .c (atC (nth q 7))] = fS T_ref01_Digits_0 q by kernel_rfl)))) (tab_cons (fun h => absurd h (by decide)) tab_nil))) (all_cons
    (loop_ok (W_ref01_Digits F) rfl (tab_cons (fun h => absurd h (by decide)) (tab_cons (fun _ k q => Le.ofEq ((lL_ref01_Digits_1 F k F (atI (nth q 0)) (atI (nth q 1)) (atN (nth q 2)) (atI (nth q 3)) (atI (nth q 4)) (atI (nth q 5)) (atI (nth q 6)) (atI (nth q 7)) (atI (nth q 8)) (atC (nth q 9))).symm.trans (congrArg (iterC (codeL PP (S_ref01_Digits F) c_ref01_Digits (I_ref01_Digits F) (J_ref01_Digits F) (loopAt PP 70 1) 2) (headOf c_ref01_Digits 2) k F) (show fS T_ref01_Digits_1 [.i (atI (nth q 0)), .i (atI (nth q 1)), .n (atN (nth q 2)), .i (atI (nth q 3)), .i (atI (nth q 4)), .i (atI (nth q 5)), .i (atI (nth q 6)), .i (atI (nth q 7)), .i (atI (nth q 8)), .c (atC (nth q 9))] = fS T_ref01_Digits_1 q by kernel_rfl)))) tab_nil))) all_nil))
theorem hj_ref01_Digits (F : Nat) : ∀ p ∈ joinsIn PP c_ref01_Digits 70, JoinOK PP (S_ref01_Digits F) c_ref01_Digits (I_ref01_Digits F) (J_ref01_Digits F) p :=
  joins_of [] (by kernel_rfl) all_nil
theorem g_ref01_Digits (F : Nat) : Good PP 70 (unS (s_ref01_Digits F)) :=
  fun_spec (hS_ref01_Digits F) (by kernel_rfl) (by kernel_rfl) (C := c_ref01_Digits) (F := fun q => (f_ref01_Digits F (atI (nth q 0)) (atI (nth q 1)))) (fun _ => F) (fun _ => I_ref01_Digits F) (fun _ => J_ref01_Digits F) (fun _ => hl_ref01_Digits F) (fun _ => hj_ref01_Digits F)
    (fun q => (congrArg (funL PP (S_ref01_Digits F) c_ref01_Digits (I_ref01_Digits F) (J_ref01_Digits F) 70) (show (fTs ti_ref01_Digits q).1 = (fTs ti_ref01_Digits [.i (atI (nth q 0)), .i (atI (nth q 1))]).1 by kernel_rfl)).trans (e_ref01_Digits F (atI (nth q 0)) (atI (nth q 1))))
    (fun _ h => (okT_fill h).trans (congrArg some (by kernel_rfl)))

end Go.Xv
set_option linter.unusedVariables false
namespace Go.Xv
/- 80 _ref01_Number -/
def c_ref01_Number : Cfg := ⟨[0, 2, 3, 4, 5, 6, 7, 15, 36], [(0, [0, 2, 3, 4, 5, 6, 7, 29, 30, 31, 32, 33, 34, 35, 36, 37, 38, 39, 40, 41, 42, 43, 44, 45, 46, 47, 48, 49, 50, 51, 52, 53]), (2, [0, 2, 3, 4, 5, 6, 7, 8, 9, 10, 11, 12, 13, 14, 15, 16, 17, 18, 19, 20, 21, 22, 23, 24, 25, 26, 27, 28, 50, 51, 52, 53])], [], []⟩
def ti_ref01_Number : List TV := [.fs (.lit 0) .hole 1]
def to_ref01_Number : TV := .v (.agg [.int .i64, .int .u64])
def S_ref01_Number (F : Nat) : FuncId → List VV → Option (Bool × VV) := words []
def T_ref01_Number_0 : TS := ⟨[(0, .fs (.lit 0) .hole 1), (2, .lp 0 (.lit 0)), (3, .v (.int .u64)), (4, .v (.int .u64)), (5, .v (.int .u64)), (6, .v (.int .i64))], [(0, ⟨(.ex [.v (.int .i64), .v (.int .u64)]), true⟩)], 1⟩
def T_ref01_Number_0_0 : TS := ⟨[(0, .fs (.lit 0) .hole 1), (2, .lp 0 (.lit 0)), (3, .v (.int .u64)), (4, .v (.int .u64)), (5, .v (.int .u64)), (6, .v (.int .i64))], [(0, ⟨(.ex [.v (.int .i64), .v (.int .u64)]), true⟩)], 1⟩
def B_ref01_Number_0 (F : Nat) (rc : List VV → Nat → Int → Int → Int → Int → Int → Int → R) (ex0 : List VV → Nat → Int → Int → Int → Int → Int → Int → R) (x0 : List VV) (x1 : Nat) (x2 : Int) (x3 : Int) (x4 : Int) (x5 : Int) (x6 : Int) (x7 : Int) : R :=
  bif ((decide (x5 < 64))) then (
    bif ((decide (x5 < (((x1 : Nat) : Int))))) then (
      bif ((decide (0 ≤ x5)) && (decide (x5 < ((x1 : Nat) : Int)))) then (
        let v2183 : Nat := (0 + ((Int.toNat x5) * 1))
        bif ((isI .i64 x0[v2183]?) && true) then (
          rc x0 x1 ((IntKind.wrap .u64 (x2 + ((IntKind.wrap .u64 (((IntKind.wrap .u64 ((iv x0[v2183]?)))) * x4)))))) x3 ((IntKind.wrap .u64 (2 * x4))) ((IntKind.wrap .i64 (x5 + 1))) x6 x7)
        else (
          none))
      else (
        none))
    else (
      ex0 x0 x1 x2 x3 x4 x5 x6 x7))
  else (
    ex0 x0 x1 x2 x3 x4 x5 x6 x7)
def L_ref01_Number_0 (F : Nat) (ex0 : List VV → Nat → Int → Int → Int → Int → Int → Int → R) : Nat → List VV → Nat → Int → Int → Int → Int → Int → Int → R
  | 0, _, _, _, _, _, _, _, _ => none
  | n + 1, x0, x1, x2, x3, x4, x5, x6, x7 => B_ref01_Number_0 F (L_ref01_Number_0 F ex0 n) ex0 x0 x1 x2 x3 x4 x5 x6 x7
def T_ref01_Number_1 : TS := ⟨[(0, .fs (.lit 0) .hole 1), (2, .lp 0 (.lit 0)), (3, .v (.int .u64)), (4, .v (.int .u64)), (5, .v (.int .u64)), (6, .v (.int .i64)), (7, .v (.int .i64))], [(0, ⟨(.ex [.v (.int .i64), .v (.int .u64)]), true⟩)], 1⟩
def T_ref01_Number_1_0 : TS := ⟨[(0, .fs (.lit 0) .hole 1), (2, .lp 0 (.lit 0)), (3, .v (.int .u64)), (4, .v (.int .u64)), (5, .v (.int .u64)), (6, .v (.int .i64)), (7, .v (.int .i64))], [(0, ⟨(.ex [.v (.int .i64), .v (.int .u64)]), true⟩)], 1⟩
def B_ref01_Number_1 (F : Nat) (rc : List VV → Nat → Int → Int → Int → Int → Int → Int → Int → R) (ex0 : List VV → Nat → Int → Int → Int → Int → Int → Int → Int → R) (x0 : List VV) (x1 : Nat) (x2 : Int) (x3 : Int) (x4 : Int) (x5 : Int) (x6 : Int) (x7 : Int) (x8 : Int) : R :=
  bif ((decide (x6 < 128))) then (
    bif ((decide (x6 < (((x1 : Nat) : Int))))) then (
      bif ((decide (0 ≤ x6)) && (decide (x6 < ((x1 : Nat) : Int)))) then (
        let v2210 : Nat := (0 + ((Int.toNat x6) * 1))
        bif ((isI .i64 x0[v2210]?) && true) then (
          rc x0 x1 x2 ((IntKind.wrap .u64 (x3 + ((IntKind.wrap .u64 (((IntKind.wrap .u64 ((iv x0[v2210]?)))) * x4)))))) ((IntKind.wrap .u64 (2 * x4))) x5 ((IntKind.wrap .i64 (x6 + 1))) x7 x8)
        else (
          none))
      else (
        none))
    else (
      ex0 x0 x1 x2 x3 x4 x5 x6 x7 x8))
  else (
    ex0 x0 x1 x2 x3 x4 x5 x6 x7 x8)
def L_ref01_Number_1 (F : Nat) (ex0 : List VV → Nat → Int → Int → Int → Int → Int → Int → Int → R) : Nat → List VV → Nat → Int → Int → Int → Int → Int → Int → Int → R
  | 0, _, _, _, _, _, _, _, _, _ => none
  | n + 1, x0, x1, x2, x3, x4, x5, x6, x7, x8 => B_ref01_Number_1 F (L_ref01_Number_1 F ex0 n) ex0 x0 x1 x2 x3 x4 x5 x6 x7 x8
def W_ref01_Number (F : Nat) : List LW := [⟨0, T_ref01_Number_0, fun k q => L_ref01_Number_0 F (fun (z0 : List VV) (z1 : Nat) (z2 : Int) (z3 : Int) (z4 : Int) (z5 : Int) (z6 : Int) (z7 : Int) => k (.exit 0) (fS T_ref01_Number_0_0 [.c z0, .n z1, .i z2, .i z3, .i z4, .i z5, .i z6, .i z7])) F (atC (nth q 0)) (atN (nth q 1)) (atI (nth q 2)) (atI (nth q 3)) (atI (nth q 4)) (atI (nth q 5)) (atI (nth q 6)) (atI (nth q 7))⟩, ⟨2, T_ref01_Number_1, fun k q => L_ref01_Number_1 F (fun (z0 : List VV) (z1 : Nat) (z2 : Int) (z3 : Int) (z4 : Int) (z5 : Int) (z6 : Int) (z7 : Int) (z8 : Int) => k (.exit 2) (fS T_ref01_Number_1_0 [.c z0, .n z1, .i z2, .i z3, .i z4, .i z5, .i z6, .i z7, .i z8])) F (atC (nth q 0)) (atN (nth q 1)) (atI (nth q 2)) (atI (nth q 3)) (atI (nth q 4)) (atI (nth q 5)) (atI (nth q 6)) (atI (nth q 7)) (atI (nth q 8))⟩]
def I_ref01_Number (F : Nat) : Nat → VS → (Exit → VS → R) → R := tabI c_ref01_Number (W_ref01_Number F)
def WJ_ref01_Number (F : Nat) : List LJ := []
def J_ref01_Number (F : Nat) : Nat → Nat → VS → (Exit → VS → R) → R := tabJ (WJ_ref01_Number F)
theorem lL_ref01_Number_0 (F : Nat) (k : Exit → VS → R) : ∀ (n : Nat) (x0 : List VV) (x1 : Nat) (x2 : Int) (x3 : Int) (x4 : Int) (x5 : Int) (x6 : Int) (x7 : Int), iterC (codeL PP (S_ref01_Number F) c_ref01_Number (I_ref01_Number F) (J_ref01_Number F) (loopAt PP 80 0) 0) (headOf c_ref01_Number 0) k n (fS T_ref01_Number_0 [.c x0, .n x1, .i x2, .i x3, .i x4, .i x5, .i x6, .i x7]) = L_ref01_Number_0 F (fun (z0 : List VV) (z1 : Nat) (z2 : Int) (z3 : Int) (z4 : Int) (z5 : Int) (z6 : Int) (z7 : Int) => k (.exit 0) (fS T_ref01_Number_0_0 [.c z0, .n z1, .i z2, .i z3, .i z4, .i z5, .i z6, .i z7])) n x0 x1 x2 x3 x4 x5 x6 x7
  | 0, _, _, _, _, _, _, _, _ => rfl
  | n + 1, x0, x1, x2, x3, x4, x5, x6, x7 => by
    have h0 : ∀ (L_ref01_Number_0 : Nat → (List VV → Nat → Int → Int → Int → Int → Int → Int → R) → Nat → List VV → Nat → Int → Int → Int → Int → Int → Int → R) (L_ref01_Number_1 : Nat → (List VV → Nat → Int → Int → Int → Int → Int → Int → Int → R) → Nat → List VV → Nat → Int → Int → Int → Int → Int → Int → Int → R), iterC (codeL PP (words []) c_ref01_Number (tabI c_ref01_Number [⟨0, T_ref01_Number_0, fun k q => L_ref01_Number_0 F (fun (z0 : List VV) (z1 : Nat) (z2 : Int) (z3 : Int) (z4 : Int) (z5 : Int) (z6 : Int) (z7 : Int) => k (.exit 0) (fS T_ref01_Number_0_0 [.c z0, .n z1, .i z2, .i z3, .i z4, .i z5, .i z6, .i z7])) F (atC (nth q 0)) (atN (nth q 1)) (atI (nth q 2)) (atI (nth q 3)) (atI (nth q 4)) (atI (nth q 5)) (atI (nth q 6)) (atI (nth q 7))⟩, ⟨2, T_ref01_Number_1, fun k q => L_ref01_Number_1 F (fun (z0 : List VV) (z1 : Nat) (z2 : Int) (z3 : Int) (z4 : Int) (z5 : Int) (z6 : Int) (z7 : Int) (z8 : Int) => k (.exit 2) (fS T_ref01_Number_1_0 [.c z0, .n z1, .i z2, .i z3, .i z4, .i z5, .i z6, .i z7, .i z8])) F (atC (nth q 0)) (atN (nth q 1)) (atI (nth q 2)) (atI (nth q 3)) (atI (nth q 4)) (atI (nth q 5)) (atI (nth q 6)) (atI (nth q 7)) (atI (nth q 8))⟩]) (tabJ []) (loopAt PP 80 0) 0) (headOf c_ref01_Number 0) k (n + 1) (fS T_ref01_Number_0 [.c x0, .n x1, .i x2, .i x3, .i x4, .i x5, .i x6, .i x7]) = (fun (rc : List VV → Nat → Int → Int → Int → Int → Int → Int → R) (ex0 : List VV → Nat → Int → Int → Int → Int → Int → Int → R) (x0 : List VV) (x1 : Nat) (x2 : Int) (x3 : Int) (x4 : Int) (x5 : Int) (x6 : Int) (x7 : Int) => (
  bif ((decide (x5 < 64))) then (
    bif ((decide (x5 < (((x1 : Nat) : Int))))) then (
      bif ((decide (0 ≤ x5)) && (decide (x5 < ((x1 : Nat) : Int)))) then (
        let v2183 : Nat := (0 + ((Int.toNat x5) * 1))
        bif ((isI .i64 x0[v2183]?) && true) then (
          rc x0 x1 ((IntKind.wrap .u64 (x2 + ((IntKind.wrap .u64 (((IntKind.wrap .u64 ((iv x0[v2183]?)))) * x4)))))) x3 ((IntKind.wrap .u64 (2 * x4))) ((IntKind.wrap .i64 (x5 + 1))) x6 x7)
        else (
          none))
      else (
        none))
    else (
      ex0 x0 x1 x2 x3 x4 x5 x6 x7))
  else (
    ex0 x0 x1 x2 x3 x4 x5 x6 x7) : R)) (fun (y0 : List VV) (y1 : Nat) (y2 : Int) (y3 : Int) (y4 : Int) (y5 : Int) (y6 : Int) (y7 : Int) => iterC (codeL PP (words []) c_ref01_Number (tabI c_ref01_Number [⟨0, T_ref01_Number_0, fun k q => L_ref01_Number_0 F (fun (z0 : List VV) (z1 : Nat) (z2 : Int) (z3 : Int) (z4 : Int) (z5 : Int) (z6 : Int) (z7 : Int) => k (.exit 0) (fS T_ref01_Number_0_0 [.c z0, .n z1, .i z2, .i z3, .i z4, .i z5, .i z6, .i z7])) F (atC (nth q 0)) (atN (nth q 1)) (atI (nth q 2)) (atI (nth q 3)) (atI (nth q 4)) (atI (nth q 5)) (atI (nth q 6)) (atI (nth q 7))⟩, ⟨2, T_ref01_Number_1, fun k q => L_ref01_Number_1 F (fun (z0 : List VV) (z1 : Nat) (z2 : Int) (z3 : Int) (z4 : Int) (z5 : Int) (z6 : Int) (z7 : Int) (z8 : Int) => k (.exit 2) (fS T_ref01_Number_1_0 [.c z0, .n z1, .i z2, .i z3, .i z4, .i z5, .i z6, .i z7, .i z8])) F (atC (nth q 0)) (atN (nth q 1)) (atI (nth q 2)) (atI (nth q 3)) (atI (nth q 4)) (atI (nth q 5)) (atI (nth q 6)) (atI (nth q 7)) (atI (nth q 8))⟩]) (tabJ []) (loopAt PP 80 0) 0) (headOf c_ref01_Number 0) k n (fS T_ref01_Number_0 [.c y0, .n y1, .i y2, .i y3, .i y4, .i y5, .i y6, .i y7])) (fun (z0 : List VV) (z1 : Nat) (z2 : Int) (z3 : Int) (z4 : Int) (z5 : Int) (z6 : Int) (z7 : Int) => k (.exit 0) (fS T_ref01_Number_0_0 [.c z0, .n z1, .i z2, .i z3, .i z4, .i z5, .i z6, .i z7])) x0 x1 x2 x3 x4 x5 x6 x7 := by
      intros
      kernel_rfl
    have h : iterC (codeL PP (S_ref01_Number F) c_ref01_Number (I_ref01_Number F) (J_ref01_Number F) (loopAt PP 80 0) 0) (headOf c_ref01_Number 0) k (n + 1) (fS T_ref01_Number_0 [.c x0, .n x1, .i x2, .i x3, .i x4, .i x5, .i x6, .i x7]) = B_ref01_Number_0 F (fun (y0 : List VV) (y1 : Nat) (y2 : Int) (y3 : Int) (y4 : Int) (y5 : Int) (y6 : Int) (y7 : Int) => iterC (codeL PP (S_ref01_Number F) c_ref01_Number (I_ref01_Number F) (J_ref01_Number F) (loopAt PP 80 0) 0) (headOf c_ref01_Number 0) k n (fS T_ref01_Number_0 [.c y0, .n y1, .i y2, .i y3, .i y4, .i y5, .i y6, .i y7])) (fun (z0 : List VV) (z1 : Nat) (z2 : Int) (z3 : Int) (z4 : Int) (z5 : Int) (z6 : Int) (z7 : Int) => k (.exit 0) (fS T_ref01_Number_0_0 [.c z0, .n z1, .i z2, .i z3, .i z4, .i z5, .i z6, .i z7])) x0 x1 x2 x3 x4 x5 x6 x7 := (h0 L_ref01_Number_0 L_ref01_Number_1).trans (by kernel_rfl)
    rw [h]
    simp only [lL_ref01_Number_0 F k n]
    rfl
theorem lL_ref01_Number_1 (F : Nat) (k : Exit → VS → R) : ∀ (n : Nat) (x0 : List VV) (x1 : Nat) (x2 : Int) (x3 : Int) (x4 : Int) (x5 : Int) (x6 : Int) (x7 : Int) (x8 : Int), iterC (codeL PP (S_ref01_Number F) c_ref01_Number (I_ref01_Number F) (J_ref01_Number F) (loopAt PP 80 1) 2) (headOf c_ref01_Number 2) k n (fS T_ref01_Number_1 [.c x0, .n x1, .i x2, .i x3, .i x4, .i x5, .i x6, .i x7, .i x8]) = L_ref01_Number_1 F (fun (z0 : List VV) (z1 : Nat) (z2 : Int) (z3 : Int) (z4 : Int) (z5 : Int) (z6 : Int) (z7 : Int) (z8 : Int) => k (.exit 2) (fS T_ref01_Number_1_0 [.c z0, .n z1, .i z2, .i z3, .i z4, .i z5, .i z6, .i z7, .i z8])) n x0 x1 x2 x3 x4 x5 x6 x7 x8
  | 0, _, _, _, _, _, _, _, _, _ => rfl
  | n + 1, x0, x1, x2, x3, x4, x5, x6, x7, x8 => by
    have h0 : ∀ (L_ref01_Number_0 : Nat → (List VV → Nat → Int → Int → Int → Int → Int → Int → R) → Nat → List VV → Nat → Int → Int → Int → Int → Int → Int → R) (L_ref01_Number_1 : Nat → (List VV → Nat → Int → Int → Int → Int → Int → Int → Int → R) → Nat → List VV → Nat → Int → Int → Int → Int → Int → Int → Int → R), iterC (codeL PP (words []) c_ref01_Number (tabI c_ref01_Number [⟨0, T_ref01_Number_0, fun k q => L_ref01_Number_0 F (fun (z0 : List VV) (z1 : Nat) (z2 : Int) (z3 : Int) (z4 : Int) (z5 : Int) (z6 : Int) (z7 : Int) => k (.exit 0) (fS T_ref01_Number_0_0 [.c z0, .n z1, .i z2, .i z3, .i z4, .i z5, .i z6, .i z7])) F (atC (nth q 0)) (atN (nth q 1)) (atI (nth q 2)) (atI (nth q 3)) (atI (nth q 4)) (atI (nth q 5)) (atI (nth q 6)) (atI (nth q 7))⟩, ⟨2, T_ref01_Number_1, fun k q => L_ref01_Number_1 F (fun (z0 : List VV) (z1 : Nat) (z2 : Int) (z3 : Int) (z4 : Int) (z5 : Int) (z6 : Int) (z7 : Int) (z8 : Int) => k (.exit 2) (fS T_ref01_Number_1_0 [.c z0, .n z1, .i z2, .i z3, .i z4, .i z5, .i z6, .i z7, .i z8])) F (atC (nth q 0)) (atN (nth q 1)) (atI (nth q 2)) (atI (nth q 3)) (atI (nth q 4)) (atI (nth q 5)) (atI (nth q 6)) (atI (nth q 7)) (atI (nth q 8))⟩]) (tabJ []) (loopAt PP 80 1) 2) (headOf c_ref01_Number 2) k (n + 1) (fS T_ref01_Number_1 [.c x0, .n x1, .i x2, .i x3, .i x4, .i x5, .i x6, .i x7, .i x8]) = (fun (rc : List VV → Nat → Int → Int → Int → Int → Int → Int → Int → R) (ex0 : List VV → Nat → Int → Int → Int → Int → Int → Int → Int → R) (x0 : List VV) (x1 : Nat) (x2 : Int) (x3 : Int) (x4 : Int) (x5 : Int) (x6 : Int) (x7 : Int) (x8 : Int) => (
  bif ((decide (x6 < 128))) then (
    bif ((decide (x6 < (((x1 : Nat) : Int))))) then (
      bif ((decide (0 ≤ x6)) && (decide (x6 < ((x1 : Nat) : Int)))) then (
        let v2210 : Nat := (0 + ((Int.toNat x6) * 1))
        bif ((isI .i64 x0[v2210]?) && true) then (
          rc x0 x1 x2 ((IntKind.wrap .u64 (x3 + ((IntKind.wrap .u64 (((IntKind.wrap .u64 ((iv x0[v2210]?)))) * x4)))))) ((IntKind.wrap .u64 (2 * x4))) x5 ((IntKind.wrap .i64 (x6 + 1))) x7 x8)
        else (
          none))
      else (
        none))
    else (
      ex0 x0 x1 x2 x3 x4 x5 x6 x7 x8))
  else (
    ex0 x0 x1 x2 x3 x4 x5 x6 x7 x8) : R)) (fun (y0 : List VV) (y1 : Nat) (y2 : Int) (y3 : Int) (y4 : Int) (y5 : Int) (y6 : Int) (y7 : Int) (y8 : Int) => iterC (codeL PP (words []) c_ref01_Number (tabI c_ref01_Number [⟨0, T_ref01_Number_0, fun k q => L_ref01_Number_0 F (fun (z0 : List VV) (z1 : Nat) (z2 : Int) (z3 : Int) (z4 : Int) (z5 : Int) (z6 : Int) (z7 : Int) => k (.exit 0) (fS T_ref01_Number_0_0 [.c z0, .n z1, .i z2, .i z3, .i z4, .i z5, .i z6, .i z7])) F (atC (nth q 0)) (atN (nth q 1)) (atI (nth q 2)) (atI (nth q 3)) (atI (nth q 4)) (atI (nth q 5)) (atI (nth q 6)) (atI (nth q 7))⟩, ⟨2, T_ref01_Number_1, fun k q => L_ref01_Number_1 F (fun (z0 : List VV) (z1 : Nat) (z2 : Int) (z3 : Int) (z4 : Int) (z5 : Int) (z6 : Int) (z7 : Int) (z8 : Int) => k (.exit 2) (fS T_ref01_Number_1_0 [.c z0, .n z1, .i z2, .i z3, .i z4, .i z5, .i z6, .i z7, .i z8])) F (atC (nth q 0)) (atN (nth q 1)) (atI (nth q 2)) (atI (nth q 3)) (atI (nth q 4)) (atI (nth q 5)) (atI (nth q 6)) (atI (nth q 7)) (atI (nth q 8))⟩]) (tabJ []) (loopAt PP 80 1) 2) (headOf c_ref01_Number 2) k n (fS T_ref01_Number_1 [.c y0, .n y1, .i y2, .i y3, .i y4, .i y5, .i y6, .i y7, .i y8])) (fun (z0 : List VV) (z1 : Nat) (z2 : Int) (z3 : Int) (z4 : Int) (z5 : Int) (z6 : Int) (z7 : Int) (z8 : Int) => k (.exit 2) (fS T_ref01_Number_1_0 [.c z0, .n z1, .i z2, .i z3, .i z4, .i z5, .i z6, .i z7, .i z8])) x0 x1 x2 x3 x4 x5 x6 x7 x8 := by
      intros
      kernel_rfl
    have h : iterC (codeL PP (S_ref01_Number F) c_ref01_Number (I_ref01_Number F) (J_ref01_Number F) (loopAt PP 80 1) 2) (headOf c_ref01_Number 2) k (n + 1) (fS T_ref01_Number_1 [.c x0, .n x1, .i x2, .i x3, .i x4, .i x5, .i x6, .i x7, .i x8]) = B_ref01_Number_1 F (fun (y0 : List VV) (y1 : Nat) (y2 : Int) (y3 : Int) (y4 : Int) (y5 : Int) (y6 : Int) (y7 : Int) (y8 : Int) => iterC (codeL PP (S_ref01_Number F) c_ref01_Number (I_ref01_Number F) (J_ref01_Number F) (loopAt PP 80 1) 2) (headOf c_ref01_Number 2) k n (fS T_ref01_Number_1 [.c y0, .n y1, .i y2, .i y3, .i y4, .i y5, .i y6, .i y7, .i y8])) (fun (z0 : List VV) (z1 : Nat) (z2 : Int) (z3 : Int) (z4 : Int) (z5 : Int) (z6 : Int) (z7 : Int) (z8 : Int) => k (.exit 2) (fS T_ref01_Number_1_0 [.c z0, .n z1, .i z2, .i z3, .i z4, .i z5, .i z6, .i z7, .i z8])) x0 x1 x2 x3 x4 x5 x6 x7 x8 := (h0 L_ref01_Number_0 L_ref01_Number_1).trans (by kernel_rfl)
    rw [h]
    simp only [lL_ref01_Number_1 F k n]
    rfl
def f_ref01_Number (F : Nat) (a0 : List VV) (a1 : Nat) : R :=
  L_ref01_Number_0 F (fun (v2190 : List VV) (v2191 : Nat) (v2192 : Int) (v2193 : Int) (v2194 : Int) (v2195 : Int) (v2196 : Int) (v2197 : Int) =>
    L_ref01_Number_1 F (fun (v2217 : List VV) (v2218 : Nat) (v2219 : Int) (v2220 : Int) (v2221 : Int) (v2222 : Int) (v2223 : Int) (v2224 : Int) (v2225 : Int) =>
      some (.v (.agg #[.int .i64 ((IntKind.wrap .i64 v2220)), .int .u64 v2219]))) F v2190 v2191 v2192 v2193 1 v2195 64 v2196 v2197) F a0 a1 0 0 1 0 0 0
theorem e_ref01_Number (F : Nat) (a0 : List VV) (a1 : Nat) : funL PP (S_ref01_Number F) c_ref01_Number (I_ref01_Number F) (J_ref01_Number F) 80 (fTs ti_ref01_Number [.c a0, .n a1]).1 = f_ref01_Number F a0 a1 := by
  have h : ∀ (L_ref01_Number_0 : Nat → (List VV → Nat → Int → Int → Int → Int → Int → Int → R) → Nat → List VV → Nat → Int → Int → Int → Int → Int → Int → R) (L_ref01_Number_1 : Nat → (List VV → Nat → Int → Int → Int → Int → Int → Int → Int → R) → Nat → List VV → Nat → Int → Int → Int → Int → Int → Int → Int → R), funL PP (words []) c_ref01_Number (tabI c_ref01_Number [⟨0, T_ref01_Number_0, fun k q => L_ref01_Number_0 F (fun (z0 : List VV) (z1 : Nat) (z2 : Int) (z3 : Int) (z4 : Int) (z5 : Int) (z6 : Int) (z7 : Int) => k (.exit 0) (fS T_ref01_Number_0_0 [.c z0, .n z1, .i z2, .i z3, .i z4, .i z5, .i z6, .i z7])) F (atC (nth q 0)) (atN (nth q 1)) (atI (nth q 2)) (atI (nth q 3)) (atI (nth q 4)) (atI (nth q 5)) (atI (nth q 6)) (atI (nth q 7))⟩, ⟨2, T_ref01_Number_1, fun k q => L_ref01_Number_1 F (fun (z0 : List VV) (z1 : Nat) (z2 : Int) (z3 : Int) (z4 : Int) (z5 : Int) (z6 : Int) (z7 : Int) (z8 : Int) => k (.exit 2) (fS T_ref01_Number_1_0 [.c z0, .n z1, .i z2, .i z3, .i z4, .i z5, .i z6, .i z7, .i z8])) F (atC (nth q 0)) (atN (nth q 1)) (atI (nth q 2)) (atI (nth q 3)) (atI (nth q 4)) (atI (nth q 5)) (atI (nth q 6)) (atI (nth q 7)) (atI (nth q 8))⟩]) (tabJ []) 80 (fTs ti_ref01_Number [.c a0, .n a1]).1 = (
  L_ref01_Number_0 F (fun (v2190 : List VV) (v2191 : Nat) (v2192 : Int) (v2193 : Int) (v2194 : Int) (v2195 : Int) (v2196 : Int) (v2197 : Int) =>
    L_ref01_Number_1 F (fun (v2217 : List VV) (v2218 : Nat) (v2219 : Int) (v2220 : Int) (v2221 : Int) (v2222 : Int) (v2223 : Int) (v2224 : Int) (v2225 : Int) =>
      some (.v (.agg #[.int .i64 ((IntKind.wrap .i64 v2220)), .int .u64 v2219]))) F v2190 v2191 v2192 v2193 1 v2195 64 v2196 v2197) F a0 a1 0 0 1 0 0 0 : R) := by
    intros
    kernel_rfl
  exact (h L_ref01_Number_0 L_ref01_Number_1).trans (by kernel_rfl)
def ok_ref01_Number (F : Nat) (a0 : List VV) (a1 : Nat) : Bool := okT to_ref01_Number (f_ref01_Number F a0 a1)
def o_ref01_Number_0 (F : Nat) (a0 : List VV) (a1 : Nat) : Int := atI (nth (outT to_ref01_Number (f_ref01_Number F a0 a1)) 0)
def o_ref01_Number_1 (F : Nat) (a0 : List VV) (a1 : Nat) : Int := atI (nth (outT to_ref01_Number (f_ref01_Number F a0 a1)) 1)
theorem k_ref01_Number (F : Nat) (a0 : List VV) (a1 : Nat) {z0 : Int} {z1 : Int} (h : f_ref01_Number F a0 a1 = some (.v (.agg #[.int .i64 z0, .int .u64 z1]))) : ok_ref01_Number F a0 a1 = true ∧ o_ref01_Number_0 F a0 a1 = z0 ∧ o_ref01_Number_1 F a0 a1 = z1 := by
  refine ⟨?_, ?_, ?_⟩
  · unfold ok_ref01_Number; rw [h]; kernel_rfl
  · unfold o_ref01_Number_0; rw [h]; kernel_rfl
  · unfold o_ref01_Number_1; rw [h]; kernel_rfl
def s_ref01_Number (F : Nat) : List VV → Option (Bool × VV) := spec ti_ref01_Number to_ref01_Number (fun q => (ok_ref01_Number F (atC (nth q 0)) (atN (nth q 1)))) (fun q => [.i (o_ref01_Number_0 F (atC (nth q 0)) (atN (nth q 1))), .i (o_ref01_Number_1 F (atC (nth q 0)) (atN (nth q 1)))])
theorem hS_ref01_Number (F : Nat) : ∀ f, Good PP f (unS (S_ref01_Number F f)) := words_good fun p hp => by
  cases hp
theorem hl_ref01_Number (F : Nat) : ∀ p ∈ loopsIn PP 80, LoopOK PP (S_ref01_Number F) c_ref01_Number F (I_ref01_Number F) (J_ref01_Number F) p :=
  loops_of [(0, loopAt PP 80 0), (2, loopAt PP 80 1)] (by kernel_rfl) (all_cons
    (loop_ok (W_ref01_Number F) rfl (tab_cons (fun _ k q => Le.ofEq ((lL_ref01_Number_0 F k F (atC (nth q 0)) (atN (nth q 1)) (atI (nth q 2)) (atI (nth q 3)) (atI (nth q 4)) (atI (nth q 5)) (atI (nth q 6)) (atI (nth q 7))).symm.trans (congrArg (iterC (codeL PP (S_ref01_Number F) c_ref01_Number (I_ref01_Number F) (J_ref01_Number F) (loopAt PP 80 0) 0) (headOf c_ref01_Number 0) k F) (show fS T_ref01_Number_0 [.c (atC (nth q 0)), .n (atN (nth q 1)), .i (atI (nth q 2)), .i (atI (nth q 3)), .i (atI (nth q 4)), .i (atI (nth q 5)), .i (atI (nth q 6)), .i (atI (nth q 7))] = fS T_ref01_Number_0 q by kernel_rfl)))) (tab_cons (fun h => absurd h (by decide)) tab_nil))) (all_cons
    (loop_ok (W_ref01_Number F) rfl (tab_cons (fun h => absurd h (by decide)) (tab_cons (fun _ k q => Le.ofEq ((lL_ref01_Number_1 F k F (atC (nth q 0)) (atN (nth q 1)) (atI (nth q 2)) (atI (nth q 3)) (atI (nth q 4)) (atI (nth q 5)) (atI (nth q 6)) (atI (nth q 7)) (atI (nth q 8))).symm.trans (congrArg (iterC (codeL PP (S_ref01_Number F) c_ref01_Number (I_ref01_Number F) (J_ref01_Number F) (loopAt PP 80 1) 2) (headOf c_ref01_Number 2) k F) (show fS T_ref01_Number_1 [.c (atC (nth q 0)), .n (atN (nth q 1)), .i (atI (nth q 2)), .i (atI (nth q 3)), .i (atI (nth q 4)), .i (atI (nth q 5)), .i (atI (nth q 6)), .i (atI (nth q 7)), .i (atI (nth q 8))] = fS T_ref01_Number_1 q by kernel_rfl)))) tab_nil))) all_nil))
theorem hj_ref01_Number (F : Nat) : ∀ p ∈ joinsIn PP c_ref01_Number 80, JoinOK PP (S_ref01_Number F) c_ref01_Number (I_ref01_Number F) (J_ref01_Number F) p :=
  joins_of [] (by kernel_rfl) all_nil
theorem g_ref01_Number (F : Nat) : Good PP 80 (unS (s_ref01_Number F)) :=
  fun_spec (hS_ref01_Number F) (by kernel_rfl) (by kernel_rfl) (C := c_ref01_Number) (F := fun q => (f_ref01_Number F (atC (nth q 0)) (atN (nth q 1)))) (fun _ => F) (fun _ => I_ref01_Number F) (fun _ => J_ref01_Number F) (fun _ => hl_ref01_Number F) (fun _ => hj_ref01_Number F)
    (fun q => (congrArg (funL PP (S_ref01_Number F) c_ref01_Number (I_ref01_Number F) (J_ref01_Number F) 80) (show (fTs ti_ref01_Number q).1 = (fTs ti_ref01_Number [.c (atC (nth q 0)), .n (atN (nth q 1))]).1 by kernel_rfl)).trans (e_ref01_Number F (atC (nth q 0)) (atN (nth q 1))))
    (fun _ h => (okT_fill h).trans (congrArg some (by kernel_rfl)))

end Go.Xv
set_option linter.unusedVariables false
namespace Go.Xv
/- 63 _ref01_Add -/
def c_ref01_Add : Cfg := ⟨[0, 1, 2, 3, 4, 5, 6, 7, 8, 9, 10, 17], [(0, [0, 1, 2, 3, 4, 5, 6, 7, 8, 9, 11, 12, 13, 14, 15, 38, 39])], [34], []⟩
def ti_ref01_Add : List TV := [.v (.agg [.int .i64, .int .u64]), .v (.agg [.int .i64, .int .u64])]
def to_ref01_Add : TV := .v (.agg [.int .i64, .int .u64])
def S_ref01_Add (F : Nat) : FuncId → List VV → Option (Bool × VV) := words [(70, s_ref01_Digits F), (80, s_ref01_Number F)]
def T_ref01_Add_0 : TS := ⟨[(0, .v (.agg [.int .i64, .int .u64])), (1, .v (.agg [.int .i64, .int .u64])), (2, .lp 0 (.lit 0)), (3, .lp 1 (.lit 0)), (4, .lp 2 (.lit 0)), (5, .ls 3 (.lit 0) .hole 1), (6, .ls 4 (.lit 0) .hole 1), (7, .ls 5 (.lit 0) .hole 1), (8, .v (.int .i64)), (9, .v (.int .i64))], [(0, ⟨(.ex [.v (.int .i64), .v (.int .u64)]), true⟩), (1, ⟨(.ex [.v (.int .i64), .v (.int .u64)]), true⟩), (2, ⟨(.ex [.v (.int .i64), .v (.int .u64)]), true⟩), (3, ⟨.hole, true⟩), (4, ⟨.hole, true⟩), (5, ⟨.hole, true⟩)], 6⟩
def T_ref01_Add_0_0 : TS := ⟨[(0, .v (.agg [.int .i64, .int .u64])), (1, .v (.agg [.int .i64, .int .u64])), (2, .lp 0 (.lit 0)), (3, .lp 1 (.lit 0)), (4, .lp 2 (.lit 0)), (5, .ls 3 (.lit 0) .hole 1), (6, .ls 4 (.lit 0) .hole 1), (7, .ls 5 (.lit 0) .hole 1), (8, .v (.int .i64)), (9, .v (.int .i64))], [(0, ⟨(.ex [.v (.int .i64), .v (.int .u64)]), true⟩), (1, ⟨(.ex [.v (.int .i64), .v (.int .u64)]), true⟩), (2, ⟨(.ex [.v (.int .i64), .v (.int .u64)]), true⟩), (3, ⟨.hole, true⟩), (4, ⟨.hole, true⟩), (5, ⟨.hole, true⟩)], 6⟩
def B_ref01_Add_0 (F : Nat) (rc : Int → Int → Int → Int → Nat → Nat → Nat → Int → Int → Int → Int → Int → Int → Int → Int → List VV → List VV → List VV → R) (ex0 : Int → Int → Int → Int → Nat → Nat → Nat → Int → Int → Int → Int → Int → Int → Int → Int → List VV → List VV → List VV → R) (x0 : Int) (x1 : Int) (x2 : Int) (x3 : Int) (x4 : Nat) (x5 : Nat) (x6 : Nat) (x7 : Int) (x8 : Int) (x9 : Int) (x10 : Int) (x11 : Int) (x12 : Int) (x13 : Int) (x14 : Int) (x15 : List VV) (x16 : List VV) (x17 : List VV) : R :=
  bif ((decide (x8 < 128))) then (
    bif ((decide (0 ≤ x8)) && (decide (x8 < ((x4 : Nat) : Int)))) then (
      let v2143 : Nat := (0 + ((Int.toNat x8) * 1))
      bif ((isI .i64 x15[v2143]?) && true) then (
        bif ((decide (0 ≤ x8)) && (decide (x8 < ((x5 : Nat) : Int)))) then (
          let v2145 : Nat := (0 + ((Int.toNat x8) * 1))
          bif ((isI .i64 x16[v2145]?) && true) then (
            let v2148 : Int := (IntKind.wrap .i64 (((IntKind.wrap .i64 (((iv x15[v2143]?)) + ((iv x16[v2145]?))))) + x7))
            bif (((decide ((0 + (x6 * 1)) ≤ x17.length)) && true) && (decide ((x6 + 1) * 9 ≤ bigger))) then (
              rc x0 x1 x2 x3 x4 x5 ((x6 + 1)) ((IntKind.wrap .i64 (Int.tdiv v2148 2))) ((IntKind.wrap .i64 (x8 + 1))) x9 x10 x11 x12 x13 x14 x15 x16 ((((x17.drop 0).take (x6 * 1)) ++ [.v (.int .i64 ((Int.tmod v2148 2)))])))
            else (
              none))
          else (
            none))
        else (
          none))
      else (
        none))
    else (
      none))
  else (
    ex0 x0 x1 x2 x3 x4 x5 x6 x7 x8 x9 x10 x11 x12 x13 x14 x15 x16 x17)
def L_ref01_Add_0 (F : Nat) (ex0 : Int → Int → Int → Int → Nat → Nat → Nat → Int → Int → Int → Int → Int → Int → Int → Int → List VV → List VV → List VV → R) : Nat → Int → Int → Int → Int → Nat → Nat → Nat → Int → Int → Int → Int → Int → Int → Int → Int → List VV → List VV → List VV → R
  | 0, _, _, _, _, _, _, _, _, _, _, _, _, _, _, _, _, _, _ => none
  | n + 1, x0, x1, x2, x3, x4, x5, x6, x7, x8, x9, x10, x11, x12, x13, x14, x15, x16, x17 => B_ref01_Add_0 F (L_ref01_Add_0 F ex0 n) ex0 x0 x1 x2 x3 x4 x5 x6 x7 x8 x9 x10 x11 x12 x13 x14 x15 x16 x17
def W_ref01_Add (F : Nat) : List LW := [⟨0, T_ref01_Add_0, fun k q => L_ref01_Add_0 F (fun (z0 : Int) (z1 : Int) (z2 : Int) (z3 : Int) (z4 : Nat) (z5 : Nat) (z6 : Nat) (z7 : Int) (z8 : Int) (z9 : Int) (z10 : Int) (z11 : Int) (z12 : Int) (z13 : Int) (z14 : Int) (z15 : List VV) (z16 : List VV) (z17 : List VV) => k (.exit 0) (fS T_ref01_Add_0_0 [.i z0, .i z1, .i z2, .i z3, .n z4, .n z5, .n z6, .i z7, .i z8, .i z9, .i z10, .i z11, .i z12, .i z13, .i z14, .c z15, .c z16, .c z17])) F (atI (nth q 0)) (atI (nth q 1)) (atI (nth q 2)) (atI (nth q 3)) (atN (nth q 4)) (atN (nth q 5)) (atN (nth q 6)) (atI (nth q 7)) (atI (nth q 8)) (atI (nth q 9)) (atI (nth q 10)) (atI (nth q 11)) (atI (nth q 12)) (atI (nth q 13)) (atI (nth q 14)) (atC (nth q 15)) (atC (nth q 16)) (atC (nth q 17))⟩]
def I_ref01_Add (F : Nat) : Nat → VS → (Exit → VS → R) → R := tabI c_ref01_Add (W_ref01_Add F)
def WJ_ref01_Add (F : Nat) : List LJ := []
def J_ref01_Add (F : Nat) : Nat → Nat → VS → (Exit → VS → R) → R := tabJ (WJ_ref01_Add F)
theorem lL_ref01_Add_0 (F : Nat) (k : Exit → VS → R) : ∀ (n : Nat) (x0 : Int) (x1 : Int) (x2 : Int) (x3 : Int) (x4 : Nat) (x5 : Nat) (x6 : Nat) (x7 : Int) (x8 : Int) (x9 : Int) (x10 : Int) (x11 : Int) (x12 : Int) (x13 : Int) (x14 : Int) (x15 : List VV) (x16 : List VV) (x17 : List VV), iterC (codeL PP (S_ref01_Add F) c_ref01_Add (I_ref01_Add F) (J_ref01_Add F) (loopAt PP 63 0) 0) (headOf c_ref01_Add 0) k n (fS T_ref01_Add_0 [.i x0, .i x1, .i x2, .i x3, .n x4, .n x5, .n x6, .i x7, .i x8, .i x9, .i x10, .i x11, .i x12, .i x13, .i x14, .c x15, .c x16, .c x17]) = L_ref01_Add_0 F (fun (z0 : Int) (z1 : Int) (z2 : Int) (z3 : Int) (z4 : Nat) (z5 : Nat) (z6 : Nat) (z7 : Int) (z8 : Int) (z9 : Int) (z10 : Int) (z11 : Int) (z12 : Int) (z13 : Int) (z14 : Int) (z15 : List VV) (z16 : List VV) (z17 : List VV) => k (.exit 0) (fS T_ref01_Add_0_0 [.i z0, .i z1, .i z2, .i z3, .n z4, .n z5, .n z6, .i z7, .i z8, .i z9, .i z10, .i z11, .i z12, .i z13, .i z14, .c z15, .c z16, .c z17])) n x0 x1 x2 x3 x4 x5 x6 x7 x8 x9 x10 x11 x12 x13 x14 x15 x16 x17
  | 0, _, _, _, _, _, _, _, _, _, _, _, _, _, _, _, _, _, _ => rfl
  | n + 1, x0, x1, x2, x3, x4, x5, x6, x7, x8, x9, x10, x11, x12, x13, x14, x15, x16, x17 => by
    have h0 : ∀ (ok_ref01_Digits : Nat → Int → Int → Bool) (o_ref01_Digits_0 : Nat → Int → Int → List VV) (o_ref01_Digits_1 : Nat → Int → Int → Nat) (ok_ref01_Number : Nat → List VV → Nat → Bool) (o_ref01_Number_0 : Nat → List VV → Nat → Int) (o_ref01_Number_1 : Nat → List VV → Nat → Int) (L_ref01_Add_0 : Nat → (Int → Int → Int → Int → Nat → Nat → Nat → Int → Int → Int → Int → Int → Int → Int → Int → List VV → List VV → List VV → R) → Nat → Int → Int → Int → Int → Nat → Nat → Nat → Int → Int → Int → Int → Int → Int → Int → Int → List VV → List VV → List VV → R), iterC (codeL PP (words [(70, spec ti_ref01_Digits to_ref01_Digits (fun q => (ok_ref01_Digits F (atI (nth q 0)) (atI (nth q 1)))) (fun q => [.c (o_ref01_Digits_0 F (atI (nth q 0)) (atI (nth q 1))), .n (o_ref01_Digits_1 F (atI (nth q 0)) (atI (nth q 1)))])), (80, spec ti_ref01_Number to_ref01_Number (fun q => (ok_ref01_Number F (atC (nth q 0)) (atN (nth q 1)))) (fun q => [.i (o_ref01_Number_0 F (atC (nth q 0)) (atN (nth q 1))), .i (o_ref01_Number_1 F (atC (nth q 0)) (atN (nth q 1)))]))]) c_ref01_Add (tabI c_ref01_Add [⟨0, T_ref01_Add_0, fun k q => L_ref01_Add_0 F (fun (z0 : Int) (z1 : Int) (z2 : Int) (z3 : Int) (z4 : Nat) (z5 : Nat) (z6 : Nat) (z7 : Int) (z8 : Int) (z9 : Int) (z10 : Int) (z11 : Int) (z12 : Int) (z13 : Int) (z14 : Int) (z15 : List VV) (z16 : List VV) (z17 : List VV) => k (.exit 0) (fS T_ref01_Add_0_0 [.i z0, .i z1, .i z2, .i z3, .n z4, .n z5, .n z6, .i z7, .i z8, .i z9, .i z10, .i z11, .i z12, .i z13, .i z14, .c z15, .c z16, .c z17])) F (atI (nth q 0)) (atI (nth q 1)) (atI (nth q 2)) (atI (nth q 3)) (atN (nth q 4)) (atN (nth q 5)) (atN (nth q 6)) (atI (nth q 7)) (atI (nth q 8)) (atI (nth q 9)) (atI (nth q 10)) (atI (nth q 11)) (atI (nth q 12)) (atI (nth q 13)) (atI (nth q 14)) (atC (nth q 15)) (atC (nth q 16)) (atC (nth q 17))⟩]) (tabJ []) (loopAt PP 63 0) 0) (headOf c_ref01_Add 0) k (n + 1) (fS T_ref01_Add_0 [.i x0, .i x1, .i x2, .i x3, .n x4, .n x5, .n x6, .i x7, .i x8, .i x9, .i x10, .i x11, .i x12, .i x13, .i x14, .c x15, .c x16, .c x17]) = (fun (rc : Int → Int → Int → Int → Nat → Nat → Nat → Int → Int → Int → Int → Int → Int → Int → Int → List VV → List VV → List VV → R) (ex0 : Int → Int → Int → Int → Nat → Nat → Nat → Int → Int → Int → Int → Int → Int → Int → Int → List VV → List VV → List VV → R) (x0 : Int) (x1 : Int) (x2 : Int) (x3 : Int) (x4 : Nat) (x5 : Nat) (x6 : Nat) (x7 : Int) (x8 : Int) (x9 : Int) (x10 : Int) (x11 : Int) (x12 : Int) (x13 : Int) (x14 : Int) (x15 : List VV) (x16 : List VV) (x17 : List VV) => (
  bif ((decide (x8 < 128))) then (
    bif ((decide (0 ≤ x8)) && (decide (x8 < ((x4 : Nat) : Int)))) then (
      let v2143 : Nat := (0 + ((Int.toNat x8) * 1))
      bif ((isI .i64 x15[v2143]?) && true) then (
        bif ((decide (0 ≤ x8)) && (decide (x8 < ((x5 : Nat) : Int)))) then (
          let v2145 : Nat := (0 + ((Int.toNat x8) * 1))
          bif ((isI .i64 x16[v2145]?) && true) then (
            let v2148 : Int := (IntKind.wrap .i64 (((IntKind.wrap .i64 (((iv x15[v2143]?)) + ((iv x16[v2145]?))))) + x7))
            bif (((decide ((0 + (x6 * 1)) ≤ x17.length)) && true) && (decide ((x6 + 1) * 9 ≤ bigger))) then (
              rc x0 x1 x2 x3 x4 x5 ((x6 + 1)) ((IntKind.wrap .i64 (Int.tdiv v2148 2))) ((IntKind.wrap .i64 (x8 + 1))) x9 x10 x11 x12 x13 x14 x15 x16 ((((x17.drop 0).take (x6 * 1)) ++ [.v (.int .i64 ((Int.tmod v2148 2)))])))
            else (
              none))
          else (
            none))
        else (
          none))
      else (
        none))
    else (
      none))
  else (
    ex0 x0 x1 x2 x3 x4 x5 x6 x7 x8 x9 x10 x11 x12 x13 x14 x15 x16 x17) : R)) (fun (y0 : Int) (y1 : Int) (y2 : Int) (y3 : Int) (y4 : Nat) (y5 : Nat) (y6 : Nat) (y7 : Int) (y8 : Int) (y9 : Int) (y10 : Int) (y11 : Int) (y12 : Int) (y13 : Int) (y14 : Int) (y15 : List VV) (y16 : List VV) (y17 : List VV) => iterC (codeL PP (words [(70, spec ti_ref01_Digits to_ref01_Digits (fun q => (ok_ref01_Digits F (atI (nth q 0)) (atI (nth q 1)))) (fun q => [.c (o_ref01_Digits_0 F (atI (nth q 0)) (atI (nth q 1))), .n (o_ref01_Digits_1 F (atI (nth q 0)) (atI (nth q 1)))])), (80, spec ti_ref01_Number to_ref01_Number (fun q => (ok_ref01_Number F (atC (nth q 0)) (atN (nth q 1)))) (fun q => [.i (o_ref01_Number_0 F (atC (nth q 0)) (atN (nth q 1))), .i (o_ref01_Number_1 F (atC (nth q 0)) (atN (nth q 1)))]))]) c_ref01_Add (tabI c_ref01_Add [⟨0, T_ref01_Add_0, fun k q => L_ref01_Add_0 F (fun (z0 : Int) (z1 : Int) (z2 : Int) (z3 : Int) (z4 : Nat) (z5 : Nat) (z6 : Nat) (z7 : Int) (z8 : Int) (z9 : Int) (z10 : Int) (z11 : Int) (z12 : Int) (z13 : Int) (z14 : Int) (z15 : List VV) (z16 : List VV) (z17 : List VV) => k (.exit 0) (fS T_ref01_Add_0_0 [.i z0, .i z1, .i z2, .i z3, .n z4, .n z5, .n z6, .i z7, .i z8, .i z9, .i z10, .i z11, .i z12, .i z13, .i z14, .c z15, .c z16, .c z17])) F (atI (nth q 0)) (atI (nth q 1)) (atI (nth q 2)) (atI (nth q 3)) (atN (nth q 4)) (atN (nth q 5)) (atN (nth q 6)) (atI (nth q 7)) (atI (nth q 8)) (atI (nth q 9)) (atI (nth q 10)) (atI (nth q 11)) (atI (nth q 12)) (atI (nth q 13)) (atI (nth q 14)) (atC (nth q 15)) (atC (nth q 16)) (atC (nth q 17))⟩]) (tabJ []) (loopAt PP 63 0) 0) (headOf c_ref01_Add 0) k n (fS T_ref01_Add_0 [.i y0, .i y1, .i y2, .i y3, .n y4, .n y5, .n y6, .i y7, .i y8, .i y9, .i y10, .i y11, .i y12, .i y13, .i y14, .c y15, .c y16, .c y17])) (fun (z0 : Int) (z1 : Int) (z2 : Int) (z3 : Int) (z4 : Nat) (z5 : Nat) (z6 : Nat) (z7 : Int) (z8 : Int) (z9 : Int) (z10 : Int) (z11 : Int) (z12 : Int) (z13 : Int) (z14 : Int) (z15 : List VV) (z16 : List VV) (z17 : List VV) => k (.exit 0) (fS T_ref01_Add_0_0 [.i z0, .i z1, .i z2, .i z3, .n z4, .n z5, .n z6, .i z7, .i z8, .i z9, .i z10, .i z11, .i z12, .i z13, .i z14, .c z15, .c z16, .c z17])) x0 x1 x2 x3 x4 x5 x6 x7 x8 x9 x10 x11 x12 x13 x14 x15 x16 x17 := by
      intros
      kernel_rfl
    have h : iterC (codeL PP (S_ref01_Add F) c_ref01_Add (I_ref01_Add F) (J_ref01_Add F) (loopAt PP 63 0) 0) (headOf c_ref01_Add 0) k (n + 1) (fS T_ref01_Add_0 [.i x0, .i x1, .i x2, .i x3, .n x4, .n x5, .n x6, .i x7, .i x8, .i x9, .i x10, .i x11, .i x12, .i x13, .i x14, .c x15, .c x16, .c x17]) = B_ref01_Add_0 F (fun (y0 : Int) (y1 : Int) (y2 : Int) (y3 : Int) (y4 : Nat) (y5 : Nat) (y6 : Nat) (y7 : Int) (y8 : Int) (y9 : Int) (y10 : Int) (y11 : Int) (y12 : Int) (y13 : Int) (y14 : Int) (y15 : List VV) (y16 : List VV) (y17 : List VV) => iterC (codeL PP (S_ref01_Add F) c_ref01_Add (I_ref01_Add F) (J_ref01_Add F) (loopAt PP 63 0) 0) (headOf c_ref01_Add 0) k n (fS T_ref01_Add_0 [.i y0, .i y1, .i y2, .i y3, .n y4, .n y5, .n y6, .i y7, .i y8, .i y9, .i y10, .i y11, .i y12, .i y13, .i y14, .c y15, .c y16, .c y17])) (fun (z0 : Int) (z1 : Int) (z2 : Int) (z3 : Int) (z4 : Nat) (z5 : Nat) (z6 : Nat) (z7 : Int) (z8 : Int) (z9 : Int) (z10 : Int) (z11 : Int) (z12 : Int) (z13 : Int) (z14 : Int) (z15 : List VV) (z16 : List VV) (z17 : List VV) => k (.exit 0) (fS T_ref01_Add_0_0 [.i z0, .i z1, .i z2, .i z3, .n z4, .n z5, .n z6, .i z7, .i z8, .i z9, .i z10, .i z11, .i z12, .i z13, .i z14, .c z15, .c z16, .c z17])) x0 x1 x2 x3 x4 x5 x6 x7 x8 x9 x10 x11 x12 x13 x14 x15 x16 x17 := (h0 ok_ref01_Digits o_ref01_Digits_0 o_ref01_Digits_1 ok_ref01_Number o_ref01_Number_0 o_ref01_Number_1 L_ref01_Add_0).trans (by kernel_rfl)
    rw [h]
    simp only [lL_ref01_Add_0 F k n]
    rfl
def f_ref01_Add (F : Nat) (a0 : Int) (a1 : Int) (a2 : Int) (a3 : Int) : R :=
  bif (ok_ref01_Digits F a0 a1) then (
    bif (ok_ref01_Digits F a2 a3) then (
      L_ref01_Add_0 F (fun (v2154 : Int) (v2155 : Int) (v2156 : Int) (v2157 : Int) (v2158 : Nat) (v2159 : Nat) (v2160 : Nat) (v2161 : Int) (v2162 : Int) (v2163 : Int) (v2164 : Int) (v2165 : Int) (v2166 : Int) (v2167 : Int) (v2168 : Int) (v2169 : List VV) (v2170 : List VV) (v2171 : List VV) =>
        bif (ok_ref01_Number F v2171 v2160) then (
          some (.v (.agg #[.int .i64 ((o_ref01_Number_0 F v2171 v2160)), .int .u64 ((o_ref01_Number_1 F v2171 v2160))])))
        else (
          none)) F a0 a1 a2 a3 ((o_ref01_Digits_1 F a0 a1)) ((o_ref01_Digits_1 F a2 a3)) 0 0 0 a0 a1 a2 a3 0 0 ((o_ref01_Digits_0 F a0 a1)) ((o_ref01_Digits_0 F a2 a3)) [])
    else (
      none))
  else (
    none)
theorem e_ref01_Add (F : Nat) (a0 : Int) (a1 : Int) (a2 : Int) (a3 : Int) : funL PP (S_ref01_Add F) c_ref01_Add (I_ref01_Add F) (J_ref01_Add F) 63 (fTs ti_ref01_Add [.i a0, .i a1, .i a2, .i a3]).1 = f_ref01_Add F a0 a1 a2 a3 := by
  have h : ∀ (ok_ref01_Digits : Nat → Int → Int → Bool) (o_ref01_Digits_0 : Nat → Int → Int → List VV) (o_ref01_Digits_1 : Nat → Int → Int → Nat) (ok_ref01_Number : Nat → List VV → Nat → Bool) (o_ref01_Number_0 : Nat → List VV → Nat → Int) (o_ref01_Number_1 : Nat → List VV → Nat → Int) (L_ref01_Add_0 : Nat → (Int → Int → Int → Int → Nat → Nat → Nat → Int → Int → Int → Int → Int → Int → Int → Int → List VV → List VV → List VV → R) → Nat → Int → Int → Int → Int → Nat → Nat → Nat → Int → Int → Int → Int → Int → Int → Int → Int → List VV → List VV → List VV → R), funL PP (words [(70, spec ti_ref01_Digits to_ref01_Digits (fun q => (ok_ref01_Digits F (atI (nth q 0)) (atI (nth q 1)))) (fun q => [.c (o_ref01_Digits_0 F (atI (nth q 0)) (atI (nth q 1))), .n (o_ref01_Digits_1 F (atI (nth q 0)) (atI (nth q 1)))])), (80, spec ti_ref01_Number to_ref01_Number (fun q => (ok_ref01_Number F (atC (nth q 0)) (atN (nth q 1)))) (fun q => [.i (o_ref01_Number_0 F (atC (nth q 0)) (atN (nth q 1))), .i (o_ref01_Number_1 F (atC (nth q 0)) (atN (nth q 1)))]))]) c_ref01_Add (tabI c_ref01_Add [⟨0, T_ref01_Add_0, fun k q => L_ref01_Add_0 F (fun (z0 : Int) (z1 : Int) (z2 : Int) (z3 : Int) (z4 : Nat) (z5 : Nat) (z6 : Nat) (z7 : Int) (z8 : Int) (z9 : Int) (z10 : Int) (z11 : Int) (z12 : Int) (z13 : Int) (z14 : Int) (z15 : List VV) (z16 : List VV) (z17 : List VV) => k (.exit 0) (fS T_ref01_Add_0_0 [.i z0, .i z1, .i z2, .i z3, .n z4, .n z5, .n z6, .i z7, .i z8, .i z9, .i z10, .i z11, .i z12, .i z13, .i z14, .c z15, .c z16, .c z17])) F (atI (nth q 0)) (atI (nth q 1)) (atI (nth q 2)) (atI (nth q 3)) (atN (nth q 4)) (atN (nth q 5)) (atN (nth q 6)) (atI (nth q 7)) (atI (nth q 8)) (atI (nth q 9)) (atI (nth q 10)) (atI (nth q 11)) (atI (nth q 12)) (atI (nth q 13)) (atI (nth q 14)) (atC (nth q 15)) (atC (nth q 16)) (atC (nth q 17))⟩]) (tabJ []) 63 (fTs ti_ref01_Add [.i a0, .i a1, .i a2, .i a3]).1 = (
  bif (ok_ref01_Digits F a0 a1) then (
    bif (ok_ref01_Digits F a2 a3) then (
      L_ref01_Add_0 F (fun (v2154 : Int) (v2155 : Int) (v2156 : Int) (v2157 : Int) (v2158 : Nat) (v2159 : Nat) (v2160 : Nat) (v2161 : Int) (v2162 : Int) (v2163 : Int) (v2164 : Int) (v2165 : Int) (v2166 : Int) (v2167 : Int) (v2168 : Int) (v2169 : List VV) (v2170 : List VV) (v2171 : List VV) =>
        bif (ok_ref01_Number F v2171 v2160) then (
          some (.v (.agg #[.int .i64 ((o_ref01_Number_0 F v2171 v2160)), .int .u64 ((o_ref01_Number_1 F v2171 v2160))])))
        else (
          none)) F a0 a1 a2 a3 ((o_ref01_Digits_1 F a0 a1)) ((o_ref01_Digits_1 F a2 a3)) 0 0 0 a0 a1 a2 a3 0 0 ((o_ref01_Digits_0 F a0 a1)) ((o_ref01_Digits_0 F a2 a3)) [])
    else (
      none))
  else (
    none) : R) := by
    intros
    kernel_rfl
  exact (h ok_ref01_Digits o_ref01_Digits_0 o_ref01_Digits_1 ok_ref01_Number o_ref01_Number_0 o_ref01_Number_1 L_ref01_Add_0).trans (by kernel_rfl)
def ok_ref01_Add (F : Nat) (a0 : Int) (a1 : Int) (a2 : Int) (a3 : Int) : Bool := okT to_ref01_Add (f_ref01_Add F a0 a1 a2 a3)
def o_ref01_Add_0 (F : Nat) (a0 : Int) (a1 : Int) (a2 : Int) (a3 : Int) : Int := atI (nth (outT to_ref01_Add (f_ref01_Add F a0 a1 a2 a3)) 0)
def o_ref01_Add_1 (F : Nat) (a0 : Int) (a1 : Int) (a2 : Int) (a3 : Int) : Int := atI (nth (outT to_ref01_Add (f_ref01_Add F a0 a1 a2 a3)) 1)
theorem k_ref01_Add (F : Nat) (a0 : Int) (a1 : Int) (a2 : Int) (a3 : Int) {z0 : Int} {z1 : Int} (h : f_ref01_Add F a0 a1 a2 a3 = some (.v (.agg #[.int .i64 z0, .int .u64 z1]))) : ok_ref01_Add F a0 a1 a2 a3 = true ∧ o_ref01_Add_0 F a0 a1 a2 a3 = z0 ∧ o_ref01_Add_1 F a0 a1 a2 a3 = z1 := by
  refine ⟨?_, ?_, ?_⟩
  · unfold ok_ref01_Add; rw [h]; kernel_rfl
  · unfold o_ref01_Add_0; rw [h]; kernel_rfl
  · unfold o_ref01_Add_1; rw [h]; kernel_rfl
def s_ref01_Add (F : Nat) : List VV → Option (Bool × VV) := spec ti_ref01_Add to_ref01_Add (fun q => (ok_ref01_Add F (atI (nth q 0)) (atI (nth q 1)) (atI (nth q 2)) (atI (nth q 3)))) (fun q => [.i (o_ref01_Add_0 F (atI (nth q 0)) (atI (nth q 1)) (atI (nth q 2)) (atI (nth q 3))), .i (o_ref01_Add_1 F (atI (nth q 0)) (atI (nth q 1)) (atI (nth q 2)) (atI (nth q 3)))])
theorem hS_ref01_Add (F : Nat) : ∀ f, Good PP f (unS (S_ref01_Add F f)) := words_good fun p hp => by
  simp only [List.mem_cons, List.not_mem_nil, or_false] at hp
  rcases hp with rfl | rfl
  · exact g_ref01_Digits F
  · exact g_ref01_Number F
theorem hl_ref01_Add (F : Nat) : ∀ p ∈ loopsIn PP 63, LoopOK PP (S_ref01_Add F) c_ref01_Add F (I_ref01_Add F) (J_ref01_Add F) p :=
  loops_of [(0, loopAt PP 63 0)] (by kernel_rfl) (all_cons
    (loop_ok (W_ref01_Add F) rfl (tab_cons (fun _ k q => Le.ofEq ((lL_ref01_Add_0 F k F (atI (nth q 0)) (atI (nth q 1)) (atI (nth q 2)) (atI (nth q 3)) (atN (nth q 4)) (atN (nth q 5)) (atN (nth q 6)) (atI (nth q 7)) (atI (nth q 8)) (atI (nth q 9)) (atI (nth q 10)) (atI (nth q 11)) (atI (nth q 12)) (atI (nth q 13)) (atI (nth q 14)) (atC (nth q 15)) (atC (nth q 16)) (atC (nth q 17))).symm.trans (congrArg (iterC (codeL PP (S_ref01_Add F) c_ref01_Add (I_ref01_Add F) (J_ref01_Add F) (loopAt PP 63 0) 0) (headOf c_ref01_Add 0) k F) (show fS T_ref01_Add_0 [.i (atI (nth q 0)), .i (atI (nth q 1)), .i (atI (nth q 2)), .i (atI (nth q 3)), .n (atN (nth q 4)), .n (atN (nth q 5)), .n (atN (nth q 6)), .i (atI (nth q 7)), .i (atI (nth q 8)), .i (atI (nth q 9)), .i (atI (nth q 10)), .i (atI (nth q 11)), .i (atI (nth q 12)), .i (atI (nth q 13)), .i (atI (nth q 14)), .c (atC (nth q 15)), .c (atC (nth q 16)), .c (atC (nth q 17))] = fS T_ref01_Add_0 q by kernel_rfl)))) tab_nil)) all_nil)
theorem hj_ref01_Add (F : Nat) : ∀ p ∈ joinsIn PP c_ref01_Add 63, JoinOK PP (S_ref01_Add F) c_ref01_Add (I_ref01_Add F) (J_ref01_Add F) p :=
  joins_of [] (by kernel_rfl) all_nil
theorem g_ref01_Add (F : Nat) : Good PP 63 (unS (s_ref01_Add F)) :=
  fun_spec (hS_ref01_Add F) (by kernel_rfl) (by kernel_rfl) (C := c_ref01_Add) (F := fun q => (f_ref01_Add F (atI (nth q 0)) (atI (nth q 1)) (atI (nth q 2)) (atI (nth q 3)))) (fun _ => F) (fun _ => I_ref01_Add F) (fun _ => J_ref01_Add F) (fun _ => hl_ref01_Add F) (fun _ => hj_ref01_Add F)
    (fun q => (congrArg (funL PP (S_ref01_Add F) c_ref01_Add (I_ref01_Add F) (J_ref01_Add F) 63) (show (fTs ti_ref01_Add q).1 = (fTs ti_ref01_Add [.i (atI (nth q 0)), .i (atI (nth q 1)), .i (atI (nth q 2)), .i (atI (nth q 3))]).1 by kernel_rfl)).trans (e_ref01_Add F (atI (nth q 0)) (atI (nth q 1)) (atI (nth q 2)) (atI (nth q 3))))
    (fun _ h => (okT_fill h).trans (congrArg some (by kernel_rfl)))

end Go.Xv
set_option linter.unusedVariables false
namespace Go.Xv
/- 71 _ref01_Neg -/
def c_ref01_Neg : Cfg := ⟨[0, 1, 2, 3, 4, 8], [(0, [0, 1, 2, 3, 4, 5, 6, 19, 20, 21, 22])], [20, 21], []⟩
def ti_ref01_Neg : List TV := [.v (.agg [.int .i64, .int .u64])]
def to_ref01_Neg : TV := .v (.agg [.int .i64, .int .u64])
def S_ref01_Neg (F : Nat) : FuncId → List VV → Option (Bool × VV) := words [(70, s_ref01_Digits F), (80, s_ref01_Number F), (61, s_ref01_Of F), (63, s_ref01_Add F)]
def T_ref01_Neg_0 : TS := ⟨[(0, .v (.agg [.int .i64, .int .u64])), (1, .lp 0 (.lit 0)), (2, .lp 1 (.lit 0)), (3, .ls 2 (.lit 0) .hole 1), (4, .v (.int .i64))], [(0, ⟨(.ex [.v (.int .i64), .v (.int .u64)]), true⟩), (1, ⟨(.ex [.v (.int .i64), .v (.int .u64)]), true⟩), (2, ⟨.hole, true⟩)], 3⟩
def T_ref01_Neg_0_0 : TS := ⟨[(0, .v (.agg [.int .i64, .int .u64])), (1, .lp 0 (.lit 0)), (2, .lp 1 (.lit 0)), (3, .ls 2 (.lit 0) .hole 1), (4, .v (.int .i64))], [(0, ⟨(.ex [.v (.int .i64), .v (.int .u64)]), true⟩), (1, ⟨(.ex [.v (.int .i64), .v (.int .u64)]), true⟩), (2, ⟨.hole, true⟩)], 3⟩
def B_ref01_Neg_0 (F : Nat) (rc : Int → Int → Nat → Int → Int → Int → Int → Int → List VV → R) (ex0 : Int → Int → Nat → Int → Int → Int → Int → Int → List VV → R) (x0 : Int) (x1 : Int) (x2 : Nat) (x3 : Int) (x4 : Int) (x5 : Int) (x6 : Int) (x7 : Int) (x8 : List VV) : R :=
  bif ((decide (x3 < 128))) then (
    bif ((decide (0 ≤ x3)) && (decide (x3 < ((x2 : Nat) : Int)))) then (
      let v2262 : Nat := (0 + ((Int.toNat x3) * 1))
      bif ((isI .i64 x8[v2262]?) && true) then (
        bif ((decide (0 ≤ x3)) && (decide (x3 < ((x2 : Nat) : Int)))) then (
          let v2265 : Nat := (0 + ((Int.toNat x3) * 1))
          bif (decide ((v2265 + 1) ≤ x8.length)) then (
            rc x0 x1 x2 ((IntKind.wrap .i64 (x3 + 1))) x4 x5 x6 x7 ((x8.take v2265 ++ [.v (.int .i64 ((IntKind.wrap .i64 (1 - ((iv x8[v2262]?))))))] ++ x8.drop (v2265 + 1))))
          else (
            none))
        else (
          none))
      else (
        none))
    else (
      none))
  else (
    ex0 x0 x1 x2 x3 x4 x5 x6 x7 x8)
def L_ref01_Neg_0 (F : Nat) (ex0 : Int → Int → Nat → Int → Int → Int → Int → Int → List VV → R) : Nat → Int → Int → Nat → Int → Int → Int → Int → Int → List VV → R
  | 0, _, _, _, _, _, _, _, _, _ => none
  | n + 1, x0, x1, x2, x3, x4, x5, x6, x7, x8 => B_ref01_Neg_0 F (L_ref01_Neg_0 F ex0 n) ex0 x0 x1 x2 x3 x4 x5 x6 x7 x8
def W_ref01_Neg (F : Nat) : List LW := [⟨0, T_ref01_Neg_0, fun k q => L_ref01_Neg_0 F (fun (z0 : Int) (z1 : Int) (z2 : Nat) (z3 : Int) (z4 : Int) (z5 : Int) (z6 : Int) (z7 : Int) (z8 : List VV) => k (.exit 0) (fS T_ref01_Neg_0_0 [.i z0, .i z1, .n z2, .i z3, .i z4, .i z5, .i z6, .i z7, .c z8])) F (atI (nth q 0)) (atI (nth q 1)) (atN (nth q 2)) (atI (nth q 3)) (atI (nth q 4)) (atI (nth q 5)) (atI (nth q 6)) (atI (nth q 7)) (atC (nth q 8))⟩]
def I_ref01_Neg (F : Nat) : Nat → VS → (Exit → VS → R) → R := tabI c_ref01_Neg (W_ref01_Neg F)
def WJ_ref01_Neg (F : Nat) : List LJ := []
def J_ref01_Neg (F : Nat) : Nat → Nat → VS → (Exit → VS → R) → R := tabJ (WJ_ref01_Neg F)
theorem lL_ref01_Neg_0 (F : Nat) (k : Exit → VS → R) : ∀ (n : Nat) (x0 : Int) (x1 : Int) (x2 : Nat) (x3 : Int) (x4 : Int) (x5 : Int) (x6 : Int) (x7 : Int) (x8 : List VV), iterC (codeL PP (S_ref01_Neg F) c_ref01_Neg (I_ref01_Neg F) (J_ref01_Neg F) (loopAt PP 71 0) 0) (headOf c_ref01_Neg 0) k n (fS T_ref01_Neg_0 [.i x0, .i x1, .n x2, .i x3, .i x4, .i x5, .i x6, .i x7, .c x8]) = L_ref01_Neg_0 F (fun (z0 : Int) (z1 : Int) (z2 : Nat) (z3 : Int) (z4 : Int) (z5 : Int) (z6 : Int) (z7 : Int) (z8 : List VV) => k (.exit 0) (fS T_ref01_Neg_0_0 [.i z0, .i z1, .n z2, .i z3, .i z4, .i z5, .i z6, .i z7, .c z8])) n x0 x1 x2 x3 x4 x5 x6 x7 x8
  | 0, _, _, _, _, _, _, _, _, _ => rfl
  | n + 1, x0, x1, x2, x3, x4, x5, x6, x7, x8 => by
    have h0 : ∀ (ok_ref01_Digits : Nat → Int → Int → Bool) (o_ref01_Digits_0 : Nat → Int → Int → List VV) (o_ref01_Digits_1 : Nat → Int → Int → Nat) (ok_ref01_Number : Nat → List VV → Nat → Bool) (o_ref01_Number_0 : Nat → List VV → Nat → Int) (o_ref01_Number_1 : Nat → List VV → Nat → Int) (ok_ref01_Of : Nat → Int → Bool) (o_ref01_Of_0 : Nat → Int → Int) (o_ref01_Of_1 : Nat → Int → Int) (ok_ref01_Add : Nat → Int → Int → Int → Int → Bool) (o_ref01_Add_0 : Nat → Int → Int → Int → Int → Int) (o_ref01_Add_1 : Nat → Int → Int → Int → Int → Int) (L_ref01_Neg_0 : Nat → (Int → Int → Nat → Int → Int → Int → Int → Int → List VV → R) → Nat → Int → Int → Nat → Int → Int → Int → Int → Int → List VV → R), iterC (codeL PP (words [(70, spec ti_ref01_Digits to_ref01_Digits (fun q => (ok_ref01_Digits F (atI (nth q 0)) (atI (nth q 1)))) (fun q => [.c (o_ref01_Digits_0 F (atI (nth q 0)) (atI (nth q 1))), .n (o_ref01_Digits_1 F (atI (nth q 0)) (atI (nth q 1)))])), (80, spec ti_ref01_Number to_ref01_Number (fun q => (ok_ref01_Number F (atC (nth q 0)) (atN (nth q 1)))) (fun q => [.i (o_ref01_Number_0 F (atC (nth q 0)) (atN (nth q 1))), .i (o_ref01_Number_1 F (atC (nth q 0)) (atN (nth q 1)))])), (61, spec ti_ref01_Of to_ref01_Of (fun q => (ok_ref01_Of F (atI (nth q 0)))) (fun q => [.i (o_ref01_Of_0 F (atI (nth q 0))), .i (o_ref01_Of_1 F (atI (nth q 0)))])), (63, spec ti_ref01_Add to_ref01_Add (fun q => (ok_ref01_Add F (atI (nth q 0)) (atI (nth q 1)) (atI (nth q 2)) (atI (nth q 3)))) (fun q => [.i (o_ref01_Add_0 F (atI (nth q 0)) (atI (nth q 1)) (atI (nth q 2)) (atI (nth q 3))), .i (o_ref01_Add_1 F (atI (nth q 0)) (atI (nth q 1)) (atI (nth q 2)) (atI (nth q 3)))]))]) c_ref01_Neg (tabI c_ref01_Neg [⟨0, T_ref01_Neg_0, fun k q => L_ref01_Neg_0 F (fun (z0 : Int) (z1 : Int) (z2 : Nat) (z3 : Int) (z4 : Int) (z5 : Int) (z6 : Int) (z7 : Int) (z8 : List VV) => k (.exit 0) (fS T_ref01_Neg_0_0 [.i z0, .i z1, .n z2, .i z3, .i z4, .i z5, .i z6, .i z7, .c z8])) F (atI (nth q 0)) (atI (nth q 1)) (atN (nth q 2)) (atI (nth q 3)) (atI (nth q 4)) (atI (nth q 5)) (atI (nth q 6)) (atI (nth q 7)) (atC (nth q 8))⟩]) (tabJ []) (loopAt PP 71 0) 0) (headOf c_ref01_Neg 0) k (n + 1) (fS T_ref01_Neg_0 [.i x0, .i x1, .n x2, .i x3, .i x4, .i x5, .i x6, .i x7, .c x8]) = (fun (rc : Int → Int → Nat → Int → Int → Int → Int → Int → List VV → R) (ex0 : Int → Int → Nat → Int → Int → Int → Int → Int → List VV → R) (x0 : Int) (x1 : Int) (x2 : Nat) (x3 : Int) (x4 : Int) (x5 : Int) (x6 : Int) (x7 : Int) (x8 : List VV) => (
  bif ((decide (x3 < 128))) then (
    bif ((decide (0 ≤ x3)) && (decide (x3 < ((x2 : Nat) : Int)))) then (
      let v2262 : Nat := (0 + ((Int.toNat x3) * 1))
      bif ((isI .i64 x8[v2262]?) && true) then (
        bif ((decide (0 ≤ x3)) && (decide (x3 < ((x2 : Nat) : Int)))) then (
          let v2265 : Nat := (0 + ((Int.toNat x3) * 1))
          bif (decide ((v2265 + 1) ≤ x8.length)) then (
            rc x0 x1 x2 ((IntKind.wrap .i64 (x3 + 1))) x4 x5 x6 x7 ((x8.take v2265 ++ [.v (.int .i64 ((IntKind.wrap .i64 (1 - ((iv x8[v2262]?))))))] ++ x8.drop (v2265 + 1))))
          else (
            none))
        else (
          none))
      else (
        none))
    else (
      none))
  else (
    ex0 x0 x1 x2 x3 x4 x5 x6 x7 x8) : R)) (fun (y0 : Int) (y1 : Int) (y2 : Nat) (y3 : Int) (y4 : Int) (y5 : Int) (y6 : Int) (y7 : Int) (y8 : List VV) => iterC (codeL PP (words [(70, spec ti_ref01_Digits to_ref01_Digits (fun q => (ok_ref01_Digits F (atI (nth q 0)) (atI (nth q 1)))) (fun q => [.c (o_ref01_Digits_0 F (atI (nth q 0)) (atI (nth q 1))), .n (o_ref01_Digits_1 F (atI (nth q 0)) (atI (nth q 1)))])), (80, spec ti_ref01_Number to_ref01_Number (fun q => (ok_ref01_Number F (atC (nth q 0)) (atN (nth q 1)))) (fun q => [.i (o_ref01_Number_0 F (atC (nth q 0)) (atN (nth q 1))), .i (o_ref01_Number_1 F (atC (nth q 0)) (atN (nth q 1)))])), (61, spec ti_ref01_Of to_ref01_Of (fun q => (ok_ref01_Of F (atI (nth q 0)))) (fun q => [.i (o_ref01_Of_0 F (atI (nth q 0))), .i (o_ref01_Of_1 F (atI (nth q 0)))])), (63, spec ti_ref01_Add to_ref01_Add (fun q => (ok_ref01_Add F (atI (nth q 0)) (atI (nth q 1)) (atI (nth q 2)) (atI (nth q 3)))) (fun q => [.i (o_ref01_Add_0 F (atI (nth q 0)) (atI (nth q 1)) (atI (nth q 2)) (atI (nth q 3))), .i (o_ref01_Add_1 F (atI (nth q 0)) (atI (nth q 1)) (atI (nth q 2)) (atI (nth q 3)))]))]) c_ref01_Neg (tabI c_ref01_Neg [⟨0, T_ref01_Neg_0, fun k q => L_ref01_Neg_0 F (fun (z0 : Int) (z1 : Int) (z2 : Nat) (z3 : Int) (z4 : Int) (z5 : Int) (z6 : Int) (z7 : Int) (z8 : List VV) => k (.exit 0) (fS T_ref01_Neg_0_0 [.i z0, .i z1, .n z2, .i z3, .i z4, .i z5, .i z6, .i z7, .c z8])) F (atI (nth q 0)) (atI (nth q 1)) (atN (nth q 2)) (atI (nth q 3)) (atI (nth q 4)) (atI (nth q 5)) (atI (nth q 6)) (atI (nth q 7)) (atC (nth q 8))⟩]) (tabJ []) (loopAt PP 71 0) 0) (headOf c_ref01_Neg 0) k n (fS T_ref01_Neg_0 [.i y0, .i y1, .n y2, .i y3, .i y4, .i y5, .i y6, .i y7, .c y8])) (fun (z0 : Int) (z1 : Int) (z2 : Nat) (z3 : Int) (z4 : Int) (z5 : Int) (z6 : Int) (z7 : Int) (z8 : List VV) => k (.exit 0) (fS T_ref01_Neg_0_0 [.i z0, .i z1, .n z2, .i z3, .i z4, .i z5, .i z6, .i z7, .c z8])) x0 x1 x2 x3 x4 x5 x6 x7 x8 := by
      intros
      kernel_rfl
    have h : iterC (codeL PP (S_ref01_Neg F) c_ref01_Neg (I_ref01_Neg F) (J_ref01_Neg F) (loopAt PP 71 0) 0) (headOf c_ref01_Neg 0) k (n + 1) (fS T_ref01_Neg_0 [.i x0, .i x1, .n x2, .i x3, .i x4, .i x5, .i x6, .i x7, .c x8]) = B_ref01_Neg_0 F (fun (y0 : Int) (y1 : Int) (y2 : Nat) (y3 : Int) (y4 : Int) (y5 : Int) (y6 : Int) (y7 : Int) (y8 : List VV) => iterC (codeL PP (S_ref01_Neg F) c_ref01_Neg (I_ref01_Neg F) (J_ref01_Neg F) (loopAt PP 71 0) 0) (headOf c_ref01_Neg 0) k n (fS T_ref01_Neg_0 [.i y0, .i y1, .n y2, .i y3, .i y4, .i y5, .i y6, .i y7, .c y8])) (fun (z0 : Int) (z1 : Int) (z2 : Nat) (z3 : Int) (z4 : Int) (z5 : Int) (z6 : Int) (z7 : Int) (z8 : List VV) => k (.exit 0) (fS T_ref01_Neg_0_0 [.i z0, .i z1, .n z2, .i z3, .i z4, .i z5, .i z6, .i z7, .c z8])) x0 x1 x2 x3 x4 x5 x6 x7 x8 := (h0 ok_ref01_Digits o_ref01_Digits_0 o_ref01_Digits_1 ok_ref01_Number o_ref01_Number_0 o_ref01_Number_1 ok_ref01_Of o_ref01_Of_0 o_ref01_Of_1 ok_ref01_Add o_ref01_Add_0 o_ref01_Add_1 L_ref01_Neg_0).trans (by kernel_rfl)
    rw [h]
    simp only [lL_ref01_Neg_0 F k n]
    rfl
def f_ref01_Neg (F : Nat) (a0 : Int) (a1 : Int) : R :=
  bif (ok_ref01_Digits F a0 a1) then (
    L_ref01_Neg_0 F (fun (v2268 : Int) (v2269 : Int) (v2270 : Nat) (v2271 : Int) (v2272 : Int) (v2273 : Int) (v2274 : Int) (v2275 : Int) (v2276 : List VV) =>
      bif (ok_ref01_Number F v2276 v2270) then (
        let v2277 : Int := (o_ref01_Number_0 F v2276 v2270)
        let v2278 : Int := (o_ref01_Number_1 F v2276 v2270)
        bif (ok_ref01_Of F 1) then (
          let v2279 : Int := (o_ref01_Of_0 F 1)
          let v2280 : Int := (o_ref01_Of_1 F 1)
          bif (ok_ref01_Add F v2277 v2278 v2279 v2280) then (
            some (.v (.agg #[.int .i64 ((o_ref01_Add_0 F v2277 v2278 v2279 v2280)), .int .u64 ((o_ref01_Add_1 F v2277 v2278 v2279 v2280))])))
          else (
            none))
        else (
          none))
      else (
        none)) F a0 a1 ((o_ref01_Digits_1 F a0 a1)) 0 a0 a1 0 0 ((o_ref01_Digits_0 F a0 a1)))
  else (
    none)
theorem e_ref01_Neg (F : Nat) (a0 : Int) (a1 : Int) : funL PP (S_ref01_Neg F) c_ref01_Neg (I_ref01_Neg F) (J_ref01_Neg F) 71 (fTs ti_ref01_Neg [.i a0, .i a1]).1 = f_ref01_Neg F a0 a1 := by
  have h : ∀ (ok_ref01_Digits : Nat → Int → Int → Bool) (o_ref01_Digits_0 : Nat → Int → Int → List VV) (o_ref01_Digits_1 : Nat → Int → Int → Nat) (ok_ref01_Number : Nat → List VV → Nat → Bool) (o_ref01_Number_0 : Nat → List VV → Nat → Int) (o_ref01_Number_1 : Nat → List VV → Nat → Int) (ok_ref01_Of : Nat → Int → Bool) (o_ref01_Of_0 : Nat → Int → Int) (o_ref01_Of_1 : Nat → Int → Int) (ok_ref01_Add : Nat → Int → Int → Int → Int → Bool) (o_ref01_Add_0 : Nat → Int → Int → Int → Int → Int) (o_ref01_Add_1 : Nat → Int → Int → Int → Int → Int) (L_ref01_Neg_0 : Nat → (Int → Int → Nat → Int → Int → Int → Int → Int → List VV → R) → Nat → Int → Int → Nat → Int → Int → Int → Int → Int → List VV → R), funL PP (words [(70, spec ti_ref01_Digits to_ref01_Digits (fun q => (ok_ref01_Digits F (atI (nth q 0)) (atI (nth q 1)))) (fun q => [.c (o_ref01_Digits_0 F (atI (nth q 0)) (atI (nth q 1))), .n (o_ref01_Digits_1 F (atI (nth q 0)) (atI (nth q 1)))])), (80, spec ti_ref01_Number to_ref01_Number (fun q => (ok_ref01_Number F (atC (nth q 0)) (atN (nth q 1)))) (fun q => [.i (o_ref01_Number_0 F (atC (nth q 0)) (atN (nth q 1))), .i (o_ref01_Number_1 F (atC (nth q 0)) (atN (nth q 1)))])), (61, spec ti_ref01_Of to_ref01_Of (fun q => (ok_ref01_Of F (atI (nth q 0)))) (fun q => [.i (o_ref01_Of_0 F (atI (nth q 0))), .i (o_ref01_Of_1 F (atI (nth q 0)))])), (63, spec ti_ref01_Add to_ref01_Add (fun q => (ok_ref01_Add F (atI (nth q 0)) (atI (nth q 1)) (atI (nth q 2)) (atI (nth q 3)))) (fun q => [.i (o_ref01_Add_0 F (atI (nth q 0)) (atI (nth q 1)) (atI (nth q 2)) (atI (nth q 3))), .i (o_ref01_Add_1 F (atI (nth q 0)) (atI (nth q 1)) (atI (nth q 2)) (atI (nth q 3)))]))]) c_ref01_Neg (tabI c_ref01_Neg [⟨0, T_ref01_Neg_0, fun k q => L_ref01_Neg_0 F (fun (z0 : Int) (z1 : Int) (z2 : Nat) (z3 : Int) (z4 : Int) (z5 : Int) (z6 : Int) (z7 : Int) (z8 : List VV) => k (.exit 0) (fS T_ref01_Neg_0_0 [.i z0, .i z1, .n z2, .i z3, .i z4, .i z5, .i z6, .i z7, .c z8])) F (atI (nth q 0)) (atI (nth q 1)) (atN (nth q 2)) (atI (nth q 3)) (atI (nth q 4)) (atI (nth q 5)) (atI (nth q 6)) (atI (nth q 7)) (atC (nth q 8))⟩]) (tabJ []) 71 (fTs ti_ref01_Neg [.i a0, .i a1]).1 = (
  bif (ok_ref01_Digits F a0 a1) then (
    L_ref01_Neg_0 F (fun (v2268 : Int) (v2269 : Int) (v2270 : Nat) (v2271 : Int) (v2272 : Int) (v2273 : Int) (v2274 : Int) (v2275 : Int) (v2276 : List VV) =>
      bif (ok_ref01_Number F v2276 v2270) then (
        let v2277 : Int := (o_ref01_Number_0 F v2276 v2270)
        let v2278 : Int := (o_ref01_Number_1 F v2276 v2270)
        bif (ok_ref01_Of F 1) then (
          let v2279 : Int := (o_ref01_Of_0 F 1)
          let v2280 : Int := (o_ref01_Of_1 F 1)
          bif (ok_ref01_Add F v2277 v2278 v2279 v2280) then (
            some (.v (.agg #[.int .i64 ((o_ref01_Add_0 F v2277 v2278 v2279 v2280)), .int .u64 ((o_ref01_Add_1 F v2277 v2278 v2279 v2280))])))
          else (
            none))
        else (
          none))
      else (
        none)) F a0 a1 ((o_ref01_Digits_1 F a0 a1)) 0 a0 a1 0 0 ((o_ref01_Digits_0 F a0 a1)))
  else (
    none) : R) := by
    intros
    kernel_rfl
  exact (h ok_ref01_Digits o_ref01_Digits_0 o_ref01_Digits_1 ok_ref01_Number o_ref01_Number_0 o_ref01_Number_1 ok_ref01_Of o_ref01_Of_0 o_ref01_Of_1 ok_ref01_Add o_ref01_Add_0 o_ref01_Add_1 L_ref01_Neg_0).trans (by kernel_rfl)
def ok_ref01_Neg (F : Nat) (a0 : Int) (a1 : Int) : Bool := okT to_ref01_Neg (f_ref01_Neg F a0 a1)
def o_ref01_Neg_0 (F : Nat) (a0 : Int) (a1 : Int) : Int := atI (nth (outT to_ref01_Neg (f_ref01_Neg F a0 a1)) 0)
def o_ref01_Neg_1 (F : Nat) (a0 : Int) (a1 : Int) : Int := atI (nth (outT to_ref01_Neg (f_ref01_Neg F a0 a1)) 1)
theorem k_ref01_Neg (F : Nat) (a0 : Int) (a1 : Int) {z0 : Int} {z1 : Int} (h : f_ref01_Neg F a0 a1 = some (.v (.agg #[.int .i64 z0, .int .u64 z1]))) : ok_ref01_Neg F a0 a1 = true ∧ o_ref01_Neg_0 F a0 a1 = z0 ∧ o_ref01_Neg_1 F a0 a1 = z1 := by
  refine ⟨?_, ?_, ?_⟩
  · unfold ok_ref01_Neg; rw [h]; kernel_rfl
  · unfold o_ref01_Neg_0; rw [h]; kernel_rfl
  · unfold o_ref01_Neg_1; rw [h]; kernel_rfl
def s_ref01_Neg (F : Nat) : List VV → Option (Bool × VV) := spec ti_ref01_Neg to_ref01_Neg (fun q => (ok_ref01_Neg F (atI (nth q 0)) (atI (nth q 1)))) (fun q => [.i (o_ref01_Neg_0 F (atI (nth q 0)) (atI (nth q 1))), .i (o_ref01_Neg_1 F (atI (nth q 0)) (atI (nth q 1)))])
theorem hS_ref01_Neg (F : Nat) : ∀ f, Good PP f (unS (S_ref01_Neg F f)) := words_good fun p hp => by
  simp only [List.mem_cons, List.not_mem_nil, or_false] at hp
  rcases hp with rfl | rfl | rfl | rfl
  · exact g_ref01_Digits F
  · exact g_ref01_Number F
  · exact g_ref01_Of F
  · exact g_ref01_Add F
theorem hl_ref01_Neg (F : Nat) : ∀ p ∈ loopsIn PP 71, LoopOK PP (S_ref01_Neg F) c_ref01_Neg F (I_ref01_Neg F) (J_ref01_Neg F) p :=
  loops_of [(0, loopAt PP 71 0)] (by kernel_rfl) (all_cons
    (loop_ok (W_ref01_Neg F) rfl (tab_cons (fun _ k q => Le.ofEq ((lL_ref01_Neg_0 F k F (atI (nth q 0)) (atI (nth q 1)) (atN (nth q 2)) (atI (nth q 3)) (atI (nth q 4)) (atI (nth q 5)) (atI (nth q 6)) (atI (nth q 7)) (atC (nth q 8))).symm.trans (congrArg (iterC (codeL PP (S_ref01_Neg F) c_ref01_Neg (I_ref01_Neg F) (J_ref01_Neg F) (loopAt PP 71 0) 0) (headOf c_ref01_Neg 0) k F) (show fS T_ref01_Neg_0 [.i (atI (nth q 0)), .i (atI (nth q 1)), .n (atN (nth q 2)), .i (atI (nth q 3)), .i (atI (nth q 4)), .i (atI (nth q 5)), .i (atI (nth q 6)), .i (atI (nth q 7)), .c (atC (nth q 8))] = fS T_ref01_Neg_0 q by kernel_rfl)))) tab_nil)) all_nil)
theorem hj_ref01_Neg (F : Nat) : ∀ p ∈ joinsIn PP c_ref01_Neg 71, JoinOK PP (S_ref01_Neg F) c_ref01_Neg (I_ref01_Neg F) (J_ref01_Neg F) p :=
  joins_of [] (by kernel_rfl) all_nil
theorem g_ref01_Neg (F : Nat) : Good PP 71 (unS (s_ref01_Neg F)) :=
  fun_spec (hS_ref01_Neg F) (by kernel_rfl) (by kernel_rfl) (C := c_ref01_Neg) (F := fun q => (f_ref01_Neg F (atI (nth q 0)) (atI (nth q 1)))) (fun _ => F) (fun _ => I_ref01_Neg F) (fun _ => J_ref01_Neg F) (fun _ => hl_ref01_Neg F) (fun _ => hj_ref01_Neg F)
    (fun q => (congrArg (funL PP (S_ref01_Neg F) c_ref01_Neg (I_ref01_Neg F) (J_ref01_Neg F) 71) (show (fTs ti_ref01_Neg q).1 = (fTs ti_ref01_Neg [.i (atI (nth q 0)), .i (atI (nth q 1))]).1 by kernel_rfl)).trans (e_ref01_Neg F (atI (nth q 0)) (atI (nth q 1))))
    (fun _ h => (okT_fill h).trans (congrArg some (by kernel_rfl)))

end Go.Xv
set_option linter.unusedVariables false
namespace Go.Xv
/- 42 _ref01_Mul -/
def c_ref01_Mul : Cfg := ⟨[0, 1, 4, 5, 6, 7, 8, 16, 23, 33], [(0, [0, 1, 4, 5, 6, 7, 8, 9, 10, 11, 12, 13, 14, 30, 31, 32, 33, 34, 35, 36, 37, 38])], [13, 36], []⟩
def ti_ref01_Mul : List TV := [.v (.int .i64), .v (.int .i64)]
def to_ref01_Mul : TV := .v (.agg [.int .i64, .int .u64])
def S_ref01_Mul (F : Nat) : FuncId → List VV → Option (Bool × VV) := words [(61, s_ref01_Of F), (70, s_ref01_Digits F), (63, s_ref01_Add F), (71, s_ref01_Neg F)]
def T_ref01_Mul_0 : TS := ⟨[(0, .v (.int .i64)), (1, .v (.int .i64)), (4, .lp 0 (.lit 0)), (5, .lp 1 (.lit 0)), (6, .lp 2 (.lit 0)), (7, .ls 3 (.lit 0) .hole 1), (8, .v (.int .i64))], [(0, ⟨(.ex [.v (.int .i64), .v (.int .u64)]), true⟩), (1, ⟨(.ex [.v (.int .i64), .v (.int .u64)]), true⟩), (2, ⟨(.ex [.v (.int .i64), .v (.int .u64)]), true⟩), (3, ⟨.hole, true⟩)], 4⟩
def T_ref01_Mul_0_0 : TS := ⟨[(0, .v (.int .i64)), (1, .v (.int .i64)), (4, .lp 0 (.lit 0)), (5, .lp 1 (.lit 0)), (6, .lp 2 (.lit 0)), (7, .ls 3 (.lit 0) .hole 1), (8, .v (.int .i64))], [(0, ⟨(.ex [.v (.int .i64), .v (.int .u64)]), true⟩), (1, ⟨(.ex [.v (.int .i64), .v (.int .u64)]), true⟩), (2, ⟨(.ex [.v (.int .i64), .v (.int .u64)]), true⟩), (3, ⟨.hole, true⟩)], 4⟩
def B_ref01_Mul_0 (F : Nat) (rc : Int → Int → Nat → Int → Int → Int → Int → Int → Int → Int → List VV → R) (ex0 : Int → Int → Nat → Int → Int → Int → Int → Int → Int → Int → List VV → R) (x0 : Int) (x1 : Int) (x2 : Nat) (x3 : Int) (x4 : Int) (x5 : Int) (x6 : Int) (x7 : Int) (x8 : Int) (x9 : Int) (x10 : List VV) : R :=
  bif ((decide (x3 < 127))) then (
    bif ((decide (0 ≤ x3)) && (decide (x3 < ((x2 : Nat) : Int)))) then (
      let v2117 : Nat := (0 + ((Int.toNat x3) * 1))
      bif ((isI .i64 x10[v2117]?) && true) then (
        bif ((((iv x10[v2117]?)) == 1)) then (
          bif (ok_ref01_Add F x6 x7 x8 x9) then (
            bif (ok_ref01_Add F x8 x9 x8 x9) then (
              rc x0 x1 x2 ((IntKind.wrap .i64 (x3 + 1))) x4 x5 ((o_ref01_Add_0 F x6 x7 x8 x9)) ((o_ref01_Add_1 F x6 x7 x8 x9)) ((o_ref01_Add_0 F x8 x9 x8 x9)) ((o_ref01_Add_1 F x8 x9 x8 x9)) x10)
            else (
              none))
          else (
            none))
        else (
          bif (ok_ref01_Add F x8 x9 x8 x9) then (
            rc x0 x1 x2 ((IntKind.wrap .i64 (x3 + 1))) x4 x5 x6 x7 ((o_ref01_Add_0 F x8 x9 x8 x9)) ((o_ref01_Add_1 F x8 x9 x8 x9)) x10)
          else (
            none)))
      else (
        none))
    else (
      none))
  else (
    ex0 x0 x1 x2 x3 x4 x5 x6 x7 x8 x9 x10)
def L_ref01_Mul_0 (F : Nat) (ex0 : Int → Int → Nat → Int → Int → Int → Int → Int → Int → Int → List VV → R) : Nat → Int → Int → Nat → Int → Int → Int → Int → Int → Int → Int → List VV → R
  | 0, _, _, _, _, _, _, _, _, _, _, _ => none
  | n + 1, x0, x1, x2, x3, x4, x5, x6, x7, x8, x9, x10 => B_ref01_Mul_0 F (L_ref01_Mul_0 F ex0 n) ex0 x0 x1 x2 x3 x4 x5 x6 x7 x8 x9 x10
def W_ref01_Mul (F : Nat) : List LW := [⟨0, T_ref01_Mul_0, fun k q => L_ref01_Mul_0 F (fun (z0 : Int) (z1 : Int) (z2 : Nat) (z3 : Int) (z4 : Int) (z5 : Int) (z6 : Int) (z7 : Int) (z8 : Int) (z9 : Int) (z10 : List VV) => k (.exit 0) (fS T_ref01_Mul_0_0 [.i z0, .i z1, .n z2, .i z3, .i z4, .i z5, .i z6, .i z7, .i z8, .i z9, .c z10])) F (atI (nth q 0)) (atI (nth q 1)) (atN (nth q 2)) (atI (nth q 3)) (atI (nth q 4)) (atI (nth q 5)) (atI (nth q 6)) (atI (nth q 7)) (atI (nth q 8)) (atI (nth q 9)) (atC (nth q 10))⟩]
def I_ref01_Mul (F : Nat) : Nat → VS → (Exit → VS → R) → R := tabI c_ref01_Mul (W_ref01_Mul F)
def WJ_ref01_Mul (F : Nat) : List LJ := []
def J_ref01_Mul (F : Nat) : Nat → Nat → VS → (Exit → VS → R) → R := tabJ (WJ_ref01_Mul F)
theorem lL_ref01_Mul_0 (F : Nat) (k : Exit → VS → R) : ∀ (n : Nat) (x0 : Int) (x1 : Int) (x2 : Nat) (x3 : Int) (x4 : Int) (x5 : Int) (x6 : Int) (x7 : Int) (x8 : Int) (x9 : Int) (x10 : List VV), iterC (codeL PP (S_ref01_Mul F) c_ref01_Mul (I_ref01_Mul F) (J_ref01_Mul F) (loopAt PP 42 0) 0) (headOf c_ref01_Mul 0) k n (fS T_ref01_Mul_0 [.i x0, .i x1, .n x2, .i x3, .i x4, .i x5, .i x6, .i x7, .i x8, .i x9, .c x10]) = L_ref01_Mul_0 F (fun (z0 : Int) (z1 : Int) (z2 : Nat) (z3 : Int) (z4 : Int) (z5 : Int) (z6 : Int) (z7 : Int) (z8 : Int) (z9 : Int) (z10 : List VV) => k (.exit 0) (fS T_ref01_Mul_0_0 [.i z0, .i z1, .n z2, .i z3, .i z4, .i z5, .i z6, .i z7, .i z8, .i z9, .c z10])) n x0 x1 x2 x3 x4 x5 x6 x7 x8 x9 x10
  | 0, _, _, _, _, _, _, _, _, _, _, _ => rfl
  | n + 1, x0, x1, x2, x3, x4, x5, x6, x7, x8, x9, x10 => by
    have h0 : ∀ (ok_ref01_Of : Nat → Int → Bool) (o_ref01_Of_0 : Nat → Int → Int) (o_ref01_Of_1 : Nat → Int → Int) (ok_ref01_Digits : Nat → Int → Int → Bool) (o_ref01_Digits_0 : Nat → Int → Int → List VV) (o_ref01_Digits_1 : Nat → Int → Int → Nat) (ok_ref01_Add : Nat → Int → Int → Int → Int → Bool) (o_ref01_Add_0 : Nat → Int → Int → Int → Int → Int) (o_ref01_Add_1 : Nat → Int → Int → Int → Int → Int) (ok_ref01_Neg : Nat → Int → Int → Bool) (o_ref01_Neg_0 : Nat → Int → Int → Int) (o_ref01_Neg_1 : Nat → Int → Int → Int) (L_ref01_Mul_0 : Nat → (Int → Int → Nat → Int → Int → Int → Int → Int → Int → Int → List VV → R) → Nat → Int → Int → Nat → Int → Int → Int → Int → Int → Int → Int → List VV → R), iterC (codeL PP (words [(61, spec ti_ref01_Of to_ref01_Of (fun q => (ok_ref01_Of F (atI (nth q 0)))) (fun q => [.i (o_ref01_Of_0 F (atI (nth q 0))), .i (o_ref01_Of_1 F (atI (nth q 0)))])), (70, spec ti_ref01_Digits to_ref01_Digits (fun q => (ok_ref01_Digits F (atI (nth q 0)) (atI (nth q 1)))) (fun q => [.c (o_ref01_Digits_0 F (atI (nth q 0)) (atI (nth q 1))), .n (o_ref01_Digits_1 F (atI (nth q 0)) (atI (nth q 1)))])), (63, spec ti_ref01_Add to_ref01_Add (fun q => (ok_ref01_Add F (atI (nth q 0)) (atI (nth q 1)) (atI (nth q 2)) (atI (nth q 3)))) (fun q => [.i (o_ref01_Add_0 F (atI (nth q 0)) (atI (nth q 1)) (atI (nth q 2)) (atI (nth q 3))), .i (o_ref01_Add_1 F (atI (nth q 0)) (atI (nth q 1)) (atI (nth q 2)) (atI (nth q 3)))])), (71, spec ti_ref01_Neg to_ref01_Neg (fun q => (ok_ref01_Neg F (atI (nth q 0)) (atI (nth q 1)))) (fun q => [.i (o_ref01_Neg_0 F (atI (nth q 0)) (atI (nth q 1))), .i (o_ref01_Neg_1 F (atI (nth q 0)) (atI (nth q 1)))]))]) c_ref01_Mul (tabI c_ref01_Mul [⟨0, T_ref01_Mul_0, fun k q => L_ref01_Mul_0 F (fun (z0 : Int) (z1 : Int) (z2 : Nat) (z3 : Int) (z4 : Int) (z5 : Int) (z6 : Int) (z7 : Int) (z8 : Int) (z9 : Int) (z10 : List VV) => k (.exit 0) (fS T_ref01_Mul_0_0 [.i z0, .i z1, .n z2, .i z3, .i z4, .i z5, .i z6, .i z7, .i z8, .i z9, .c z10])) F (atI (nth q 0)) (atI (nth q 1)) (atN (nth q 2)) (atI (nth q 3)) (atI (nth q 4)) (atI (nth q 5)) (atI (nth q 6)) (atI (nth q 7)) (atI (nth q 8)) (atI (nth q 9)) (atC (nth q 10))⟩]) (tabJ []) (loopAt PP 42 0) 0) (headOf c_ref01_Mul 0) k (n + 1) (fS T_ref01_Mul_0 [.i x0, .i x1, .n x2, .i x3, .i x4, .i x5, .i x6, .i x7, .i x8, .i x9, .c x10]) = (fun (rc : Int → Int → Nat → Int → Int → Int → Int → Int → Int → Int → List VV → R) (ex0 : Int → Int → Nat → Int → Int → Int → Int → Int → Int → Int → List VV → R) (x0 : Int) (x1 : Int) (x2 : Nat) (x3 : Int) (x4 : Int) (x5 : Int) (x6 : Int) (x7 : Int) (x8 : Int) (x9 : Int) (x10 : List VV) => (
  bif ((decide (x3 < 127))) then (
    bif ((decide (0 ≤ x3)) && (decide (x3 < ((x2 : Nat) : Int)))) then (
      let v2117 : Nat := (0 + ((Int.toNat x3) * 1))
      bif ((isI .i64 x10[v2117]?) && true) then (
        bif ((((iv x10[v2117]?)) == 1)) then (
          bif (ok_ref01_Add F x6 x7 x8 x9) then (
            bif (ok_ref01_Add F x8 x9 x8 x9) then (
              rc x0 x1 x2 ((IntKind.wrap .i64 (x3 + 1))) x4 x5 ((o_ref01_Add_0 F x6 x7 x8 x9)) ((o_ref01_Add_1 F x6 x7 x8 x9)) ((o_ref01_Add_0 F x8 x9 x8 x9)) ((o_ref01_Add_1 F x8 x9 x8 x9)) x10)
            else (
              none))
          else (
            none))
        else (
          bif (ok_ref01_Add F x8 x9 x8 x9) then (
            rc x0 x1 x2 ((IntKind.wrap .i64 (x3 + 1))) x4 x5 x6 x7 ((o_ref01_Add_0 F x8 x9 x8 x9)) ((o_ref01_Add_1 F x8 x9 x8 x9)) x10)
          else (
            none)))
      else (
        none))
    else (
      none))
  else (
    ex0 x0 x1 x2 x3 x4 x5 x6 x7 x8 x9 x10) : R)) (fun (y0 : Int) (y1 : Int) (y2 : Nat) (y3 : Int) (y4 : Int) (y5 : Int) (y6 : Int) (y7 : Int) (y8 : Int) (y9 : Int) (y10 : List VV) => iterC (codeL PP (words [(61, spec ti_ref01_Of to_ref01_Of (fun q => (ok_ref01_Of F (atI (nth q 0)))) (fun q => [.i (o_ref01_Of_0 F (atI (nth q 0))), .i (o_ref01_Of_1 F (atI (nth q 0)))])), (70, spec ti_ref01_Digits to_ref01_Digits (fun q => (ok_ref01_Digits F (atI (nth q 0)) (atI (nth q 1)))) (fun q => [.c (o_ref01_Digits_0 F (atI (nth q 0)) (atI (nth q 1))), .n (o_ref01_Digits_1 F (atI (nth q 0)) (atI (nth q 1)))])), (63, spec ti_ref01_Add to_ref01_Add (fun q => (ok_ref01_Add F (atI (nth q 0)) (atI (nth q 1)) (atI (nth q 2)) (atI (nth q 3)))) (fun q => [.i (o_ref01_Add_0 F (atI (nth q 0)) (atI (nth q 1)) (atI (nth q 2)) (atI (nth q 3))), .i (o_ref01_Add_1 F (atI (nth q 0)) (atI (nth q 1)) (atI (nth q 2)) (atI (nth q 3)))])), (71, spec ti_ref01_Neg to_ref01_Neg (fun q => (ok_ref01_Neg F (atI (nth q 0)) (atI (nth q 1)))) (fun q => [.i (o_ref01_Neg_0 F (atI (nth q 0)) (atI (nth q 1))), .i (o_ref01_Neg_1 F (atI (nth q 0)) (atI (nth q 1)))]))]) c_ref01_Mul (tabI c_ref01_Mul [⟨0, T_ref01_Mul_0, fun k q => L_ref01_Mul_0 F (fun (z0 : Int) (z1 : Int) (z2 : Nat) (z3 : Int) (z4 : Int) (z5 : Int) (z6 : Int) (z7 : Int) (z8 : Int) (z9 : Int) (z10 : List VV) => k (.exit 0) (fS T_ref01_Mul_0_0 [.i z0, .i z1, .n z2, .i z3, .i z4, .i z5, .i z6, .i z7, .i z8, .i z9, .c z10])) F (atI (nth q 0)) (atI (nth q 1)) (atN (nth q 2)) (atI (nth q 3)) (atI (nth q 4)) (atI (nth q 5)) (atI (nth q 6)) (atI (nth q 7)) (atI (nth q 8)) (atI (nth q 9)) (atC (nth q 10))⟩]) (tabJ []) (loopAt PP 42 0) 0) (headOf c_ref01_Mul 0) k n (fS T_ref01_Mul_0 [.i y0, .i y1, .n y2, .i y3, .i y4, .i y5, .i y6, .i y7, .i y8, .i y9, .c y10])) (fun (z0 : Int) (z1 : Int) (z2 : Nat) (z3 : Int) (z4 : Int) (z5 : Int) (z6 : Int) (z7 : Int) (z8 : Int) (z9 : Int) (z10 : List VV) => k (.exit 0) (fS T_ref01_Mul_0_0 [.i z0, .i z1, .n z2, .i z3, .i z4, .i z5, .i z6, .i z7, .i z8, .i z9, .c z10])) x0 x1 x2 x3 x4 x5 x6 x7 x8 x9 x10 := by
      intros
      kernel_rfl
    have h : iterC (codeL PP (S_ref01_Mul F) c_ref01_Mul (I_ref01_Mul F) (J_ref01_Mul F) (loopAt PP 42 0) 0) (headOf c_ref01_Mul 0) k (n + 1) (fS T_ref01_Mul_0 [.i x0, .i x1, .n x2, .i x3, .i x4, .i x5, .i x6, .i x7, .i x8, .i x9, .c x10]) = B_ref01_Mul_0 F (fun (y0 : Int) (y1 : Int) (y2 : Nat) (y3 : Int) (y4 : Int) (y5 : Int) (y6 : Int) (y7 : Int) (y8 : Int) (y9 : Int) (y10 : List VV) => iterC (codeL PP (S_ref01_Mul F) c_ref01_Mul (I_ref01_Mul F) (J_ref01_Mul F) (loopAt PP 42 0) 0) (headOf c_ref01_Mul 0) k n (fS T_ref01_Mul_0 [.i y0, .i y1, .n y2, .i y3, .i y4, .i y5, .i y6, .i y7, .i y8, .i y9, .c y10])) (fun (z0 : Int) (z1 : Int) (z2 : Nat) (z3 : Int) (z4 : Int) (z5 : Int) (z6 : Int) (z7 : Int) (z8 : Int) (z9 : Int) (z10 : List VV) => k (.exit 0) (fS T_ref01_Mul_0_0 [.i z0, .i z1, .n z2, .i z3, .i z4, .i z5, .i z6, .i z7, .i z8, .i z9, .c z10])) x0 x1 x2 x3 x4 x5 x6 x7 x8 x9 x10 := (h0 ok_ref01_Of o_ref01_Of_0 o_ref01_Of_1 ok_ref01_Digits o_ref01_Digits_0 o_ref01_Digits_1 ok_ref01_Add o_ref01_Add_0 o_ref01_Add_1 ok_ref01_Neg o_ref01_Neg_0 o_ref01_Neg_1 L_ref01_Mul_0).trans (by kernel_rfl)
    rw [h]
    simp only [lL_ref01_Mul_0 F k n]
    rfl
def f_ref01_Mul (F : Nat) (a0 : Int) (a1 : Int) : R :=
  bif (ok_ref01_Of F a0) then (
    bif (ok_ref01_Of F a1) then (
      let v2050 : Int := (o_ref01_Of_0 F a1)
      let v2051 : Int := (o_ref01_Of_1 F a1)
      bif (ok_ref01_Digits F v2050 v2051) then (
        L_ref01_Mul_0 F (fun (v2237 : Int) (v2238 : Int) (v2239 : Nat) (v2240 : Int) (v2241 : Int) (v2242 : Int) (v2243 : Int) (v2244 : Int) (v2245 : Int) (v2246 : Int) (v2247 : List VV) =>
          bif (decide (127 < ((v2239 : Nat) : Int))) then (
            bif ((isI .i64 v2247[127]?) && true) then (
              bif ((((iv v2247[127]?)) == 1)) then (
                bif (ok_ref01_Neg F v2245 v2246) then (
                  let v2283 : Int := (o_ref01_Neg_0 F v2245 v2246)
                  let v2284 : Int := (o_ref01_Neg_1 F v2245 v2246)
                  bif (ok_ref01_Add F v2243 v2244 v2283 v2284) then (
                    some (.v (.agg #[.int .i64 ((o_ref01_Add_0 F v2243 v2244 v2283 v2284)), .int .u64 ((o_ref01_Add_1 F v2243 v2244 v2283 v2284))])))
                  else (
                    none))
                else (
                  none))
              else (
                some (.v (.agg #[.int .i64 v2243, .int .u64 v2244]))))
            else (
              none))
          else (
            none)) F a0 a1 ((o_ref01_Digits_1 F v2050 v2051)) 0 0 0 0 0 ((o_ref01_Of_0 F a0)) ((o_ref01_Of_1 F a0)) ((o_ref01_Digits_0 F v2050 v2051)))
      else (
        none))
    else (
      none))
  else (
    none)
theorem e_ref01_Mul (F : Nat) (a0 : Int) (a1 : Int) : funL PP (S_ref01_Mul F) c_ref01_Mul (I_ref01_Mul F) (J_ref01_Mul F) 42 (fTs ti_ref01_Mul [.i a0, .i a1]).1 = f_ref01_Mul F a0 a1 := by
  have h : ∀ (ok_ref01_Of : Nat → Int → Bool) (o_ref01_Of_0 : Nat → Int → Int) (o_ref01_Of_1 : Nat → Int → Int) (ok_ref01_Digits : Nat → Int → Int → Bool) (o_ref01_Digits_0 : Nat → Int → Int → List VV) (o_ref01_Digits_1 : Nat → Int → Int → Nat) (ok_ref01_Add : Nat → Int → Int → Int → Int → Bool) (o_ref01_Add_0 : Nat → Int → Int → Int → Int → Int) (o_ref01_Add_1 : Nat → Int → Int → Int → Int → Int) (ok_ref01_Neg : Nat → Int → Int → Bool) (o_ref01_Neg_0 : Nat → Int → Int → Int) (o_ref01_Neg_1 : Nat → Int → Int → Int) (L_ref01_Mul_0 : Nat → (Int → Int → Nat → Int → Int → Int → Int → Int → Int → Int → List VV → R) → Nat → Int → Int → Nat → Int → Int → Int → Int → Int → Int → Int → List VV → R), funL PP (words [(61, spec ti_ref01_Of to_ref01_Of (fun q => (ok_ref01_Of F (atI (nth q 0)))) (fun q => [.i (o_ref01_Of_0 F (atI (nth q 0))), .i (o_ref01_Of_1 F (atI (nth q 0)))])), (70, spec ti_ref01_Digits to_ref01_Digits (fun q => (ok_ref01_Digits F (atI (nth q 0)) (atI (nth q 1)))) (fun q => [.c (o_ref01_Digits_0 F (atI (nth q 0)) (atI (nth q 1))), .n (o_ref01_Digits_1 F (atI (nth q 0)) (atI (nth q 1)))])), (63, spec ti_ref01_Add to_ref01_Add (fun q => (ok_ref01_Add F (atI (nth q 0)) (atI (nth q 1)) (atI (nth q 2)) (atI (nth q 3)))) (fun q => [.i (o_ref01_Add_0 F (atI (nth q 0)) (atI (nth q 1)) (atI (nth q 2)) (atI (nth q 3))), .i (o_ref01_Add_1 F (atI (nth q 0)) (atI (nth q 1)) (atI (nth q 2)) (atI (nth q 3)))])), (71, spec ti_ref01_Neg to_ref01_Neg (fun q => (ok_ref01_Neg F (atI (nth q 0)) (atI (nth q 1)))) (fun q => [.i (o_ref01_Neg_0 F (atI (nth q 0)) (atI (nth q 1))), .i (o_ref01_Neg_1 F (atI (nth q 0)) (atI (nth q 1)))]))]) c_ref01_Mul (tabI c_ref01_Mul [⟨0, T_ref01_Mul_0, fun k q => L_ref01_Mul_0 F (fun (z0 : Int) (z1 : Int) (z2 : Nat) (z3 : Int) (z4 : Int) (z5 : Int) (z6 : Int) (z7 : Int) (z8 : Int) (z9 : Int) (z10 : List VV) => k (.exit 0) (fS T_ref01_Mul_0_0 [.i z0, .i z1, .n z2, .i z3, .i z4, .i z5, .i z6, .i z7, .i z8, .i z9, .c z10])) F (atI (nth q 0)) (atI (nth q 1)) (atN (nth q 2)) (atI (nth q 3)) (atI (nth q 4)) (atI (nth q 5)) (atI (nth q 6)) (atI (nth q 7)) (atI (nth q 8)) (atI (nth q 9)) (atC (nth q 10))⟩]) (tabJ []) 42 (fTs ti_ref01_Mul [.i a0, .i a1]).1 = (
  bif (ok_ref01_Of F a0) then (
    bif (ok_ref01_Of F a1) then (
      let v2050 : Int := (o_ref01_Of_0 F a1)
      let v2051 : Int := (o_ref01_Of_1 F a1)
      bif (ok_ref01_Digits F v2050 v2051) then (
        L_ref01_Mul_0 F (fun (v2237 : Int) (v2238 : Int) (v2239 : Nat) (v2240 : Int) (v2241 : Int) (v2242 : Int) (v2243 : Int) (v2244 : Int) (v2245 : Int) (v2246 : Int) (v2247 : List VV) =>
          bif (decide (127 < ((v2239 : Nat) : Int))) then (
            bif ((isI .i64 v2247[127]?) && true) then (
              bif ((((iv v2247[127]?)) == 1)) then (
                bif (ok_ref01_Neg F v2245 v2246) then (
                  let v2283 : Int := (o_ref01_Neg_0 F v2245 v2246)
                  let v2284 : Int := (o_ref01_Neg_1 F v2245 v2246)
                  bif (ok_ref01_Add F v2243 v2244 v2283 v2284) then (
                    some (.v (.agg #[.int .i64 ((o_ref01_Add_0 F v2243 v2244 v2283 v2284)), .int .u64 ((o_ref01_Add_1 F v2243 v2244 v2283 v2284))])))
                  else (
                    none))
                else (
                  none))
              else (
                some (.v (.agg #[.int .i64 v2243, .int .u64 v2244]))))
            else (
              none))
          else (
            none)) F a0 a1 ((o_ref01_Digits_1 F v2050 v2051)) 0 0 0 0 0 ((o_ref01_Of_0 F a0)) ((o_ref01_Of_1 F a0)) ((o_ref01_Digits_0 F v2050 v2051)))
      else (
        none))
    else (
      none))
  else (
    none) : R) := by
    intros
    kernel_rfl
  exact (h ok_ref01_Of o_ref01_Of_0 o_ref01_Of_1 ok_ref01_Digits o_ref01_Digits_0 o_ref01_Digits_1 ok_ref01_Add o_ref01_Add_0 o_ref01_Add_1 ok_ref01_Neg o_ref01_Neg_0 o_ref01_Neg_1 L_ref01_Mul_0).trans (by kernel_rfl)
def ok_ref01_Mul (F : Nat) (a0 : Int) (a1 : Int) : Bool := okT to_ref01_Mul (f_ref01_Mul F a0 a1)
def o_ref01_Mul_0 (F : Nat) (a0 : Int) (a1 : Int) : Int := atI (nth (outT to_ref01_Mul (f_ref01_Mul F a0 a1)) 0)
def o_ref01_Mul_1 (F : Nat) (a0 : Int) (a1 : Int) : Int := atI (nth (outT to_ref01_Mul (f_ref01_Mul F a0 a1)) 1)
theorem k_ref01_Mul (F : Nat) (a0 : Int) (a1 : Int) {z0 : Int} {z1 : Int} (h : f_ref01_Mul F a0 a1 = some (.v (.agg #[.int .i64 z0, .int .u64 z1]))) : ok_ref01_Mul F a0 a1 = true ∧ o_ref01_Mul_0 F a0 a1 = z0 ∧ o_ref01_Mul_1 F a0 a1 = z1 := by
  refine ⟨?_, ?_, ?_⟩
  · unfold ok_ref01_Mul; rw [h]; kernel_rfl
  · unfold o_ref01_Mul_0; rw [h]; kernel_rfl
  · unfold o_ref01_Mul_1; rw [h]; kernel_rfl
def s_ref01_Mul (F : Nat) : List VV → Option (Bool × VV) := spec ti_ref01_Mul to_ref01_Mul (fun q => (ok_ref01_Mul F (atI (nth q 0)) (atI (nth q 1)))) (fun q => [.i (o_ref01_Mul_0 F (atI (nth q 0)) (atI (nth q 1))), .i (o_ref01_Mul_1 F (atI (nth q 0)) (atI (nth q 1)))])
theorem hS_ref01_Mul (F : Nat) : ∀ f, Good PP f (unS (S_ref01_Mul F f)) := words_good fun p hp => by
  simp only [List.mem_cons, List.not_mem_nil, or_false] at hp
  rcases hp with rfl | rfl | rfl | rfl
  · exact g_ref01_Of F
  · exact g_ref01_Digits F
  · exact g_ref01_Add F
  · exact g_ref01_Neg F
theorem hl_ref01_Mul (F : Nat) : ∀ p ∈ loopsIn PP 42, LoopOK PP (S_ref01_Mul F) c_ref01_Mul F (I_ref01_Mul F) (J_ref01_Mul F) p :=
  loops_of [(0, loopAt PP 42 0)] (by kernel_rfl) (all_cons
    (loop_ok (W_ref01_Mul F) rfl (tab_cons (fun _ k q => Le.ofEq ((lL_ref01_Mul_0 F k F (atI (nth q 0)) (atI (nth q 1)) (atN (nth q 2)) (atI (nth q 3)) (atI (nth q 4)) (atI (nth q 5)) (atI (nth q 6)) (atI (nth q 7)) (atI (nth q 8)) (atI (nth q 9)) (atC (nth q 10))).symm.trans (congrArg (iterC (codeL PP (S_ref01_Mul F) c_ref01_Mul (I_ref01_Mul F) (J_ref01_Mul F) (loopAt PP 42 0) 0) (headOf c_ref01_Mul 0) k F) (show fS T_ref01_Mul_0 [.i (atI (nth q 0)), .i (atI (nth q 1)), .n (atN (nth q 2)), .i (atI (nth q 3)), .i (atI (nth q 4)), .i (atI (nth q 5)), .i (atI (nth q 6)), .i (atI (nth q 7)), .i (atI (nth q 8)), .i (atI (nth q 9)), .c (atC (nth q 10))] = fS T_ref01_Mul_0 q by kernel_rfl)))) tab_nil)) all_nil)
theorem hj_ref01_Mul (F : Nat) : ∀ p ∈ joinsIn PP c_ref01_Mul 42, JoinOK PP (S_ref01_Mul F) c_ref01_Mul (I_ref01_Mul F) (J_ref01_Mul F) p :=
  joins_of [] (by kernel_rfl) all_nil
theorem g_ref01_Mul (F : Nat) : Good PP 42 (unS (s_ref01_Mul F)) :=
  fun_spec (hS_ref01_Mul F) (by kernel_rfl) (by kernel_rfl) (C := c_ref01_Mul) (F := fun q => (f_ref01_Mul F (atI (nth q 0)) (atI (nth q 1)))) (fun _ => F) (fun _ => I_ref01_Mul F) (fun _ => J_ref01_Mul F) (fun _ => hl_ref01_Mul F) (fun _ => hj_ref01_Mul F)
    (fun q => (congrArg (funL PP (S_ref01_Mul F) c_ref01_Mul (I_ref01_Mul F) (J_ref01_Mul F) 42) (show (fTs ti_ref01_Mul q).1 = (fTs ti_ref01_Mul [.i (atI (nth q 0)), .i (atI (nth q 1))]).1 by kernel_rfl)).trans (e_ref01_Mul F (atI (nth q 0)) (atI (nth q 1))))
    (fun _ h => (okT_fill h).trans (congrArg some (by kernel_rfl)))

end Go.Xv
set_option linter.unusedVariables false
namespace Go.Xv
/- 49 _ref01_Left -/
def c_ref01_Left : Cfg := ⟨[0, 1, 2, 4, 5, 9], [(0, [0, 1, 2, 4, 5, 15])], [], []⟩
def ti_ref01_Left : List TV := [.v (.agg [.int .i64, .int .u64]), .v (.int .i64)]
def to_ref01_Left : TV := .v (.agg [.int .i64, .int .u64])
def S_ref01_Left (F : Nat) : FuncId → List VV → Option (Bool × VV) := words [(63, s_ref01_Add F)]
def T_ref01_Left_0 : TS := ⟨[(0, .v (.agg [.int .i64, .int .u64])), (1, .v (.int .i64)), (2, .lp 0 (.lit 0)), (4, .lp 1 (.lit 0)), (5, .v (.int .i64))], [(0, ⟨(.ex [.v (.int .i64), .v (.int .u64)]), true⟩), (1, ⟨(.ex [.v (.int .i64), .v (.int .u64)]), true⟩)], 2⟩
def T_ref01_Left_0_0 : TS := ⟨[(0, .v (.agg [.int .i64, .int .u64])), (1, .v (.int .i64)), (2, .lp 0 (.lit 0)), (4, .lp 1 (.lit 0)), (5, .v (.int .i64))], [(0, ⟨(.ex [.v (.int .i64), .v (.int .u64)]), true⟩), (1, ⟨(.ex [.v (.int .i64), .v (.int .u64)]), true⟩)], 2⟩
def B_ref01_Left_0 (F : Nat) (rc : Int → Int → Int → Int → Int → Int → Int → Int → R) (ex0 : Int → Int → Int → Int → Int → Int → Int → Int → R) (x0 : Int) (x1 : Int) (x2 : Int) (x3 : Int) (x4 : Int) (x5 : Int) (x6 : Int) (x7 : Int) : R :=
  bif ((decide (x3 < ((if 128 < x2 then 128 else x2))))) then (
    bif (ok_ref01_Add F x4 x5 x4 x5) then (
      rc x0 x1 x2 ((IntKind.wrap .i64 (x3 + 1))) ((o_ref01_Add_0 F x4 x5 x4 x5)) ((o_ref01_Add_1 F x4 x5 x4 x5)) x6 x7)
    else (
      none))
  else (
    ex0 x0 x1 x2 x3 x4 x5 x6 x7)
def L_ref01_Left_0 (F : Nat) (ex0 : Int → Int → Int → Int → Int → Int → Int → Int → R) : Nat → Int → Int → Int → Int → Int → Int → Int → Int → R
  | 0, _, _, _, _, _, _, _, _ => none
  | n + 1, x0, x1, x2, x3, x4, x5, x6, x7 => B_ref01_Left_0 F (L_ref01_Left_0 F ex0 n) ex0 x0 x1 x2 x3 x4 x5 x6 x7
def W_ref01_Left (F : Nat) : List LW := [⟨0, T_ref01_Left_0, fun k q => L_ref01_Left_0 F (fun (z0 : Int) (z1 : Int) (z2 : Int) (z3 : Int) (z4 : Int) (z5 : Int) (z6 : Int) (z7 : Int) => k (.exit 0) (fS T_ref01_Left_0_0 [.i z0, .i z1, .i z2, .i z3, .i z4, .i z5, .i z6, .i z7])) F (atI (nth q 0)) (atI (nth q 1)) (atI (nth q 2)) (atI (nth q 3)) (atI (nth q 4)) (atI (nth q 5)) (atI (nth q 6)) (atI (nth q 7))⟩]
def I_ref01_Left (F : Nat) : Nat → VS → (Exit → VS → R) → R := tabI c_ref01_Left (W_ref01_Left F)
def WJ_ref01_Left (F : Nat) : List LJ := []
def J_ref01_Left (F : Nat) : Nat → Nat → VS → (Exit → VS → R) → R := tabJ (WJ_ref01_Left F)
theorem lL_ref01_Left_0 (F : Nat) (k : Exit → VS → R) : ∀ (n : Nat) (x0 : Int) (x1 : Int) (x2 : Int) (x3 : Int) (x4 : Int) (x5 : Int) (x6 : Int) (x7 : Int), iterC (codeL PP (S_ref01_Left F) c_ref01_Left (I_ref01_Left F) (J_ref01_Left F) (loopAt PP 49 0) 0) (headOf c_ref01_Left 0) k n (fS T_ref01_Left_0 [.i x0, .i x1, .i x2, .i x3, .i x4, .i x5, .i x6, .i x7]) = L_ref01_Left_0 F (fun (z0 : Int) (z1 : Int) (z2 : Int) (z3 : Int) (z4 : Int) (z5 : Int) (z6 : Int) (z7 : Int) => k (.exit 0) (fS T_ref01_Left_0_0 [.i z0, .i z1, .i z2, .i z3, .i z4, .i z5, .i z6, .i z7])) n x0 x1 x2 x3 x4 x5 x6 x7
  | 0, _, _, _, _, _, _, _, _ => rfl
  | n + 1, x0, x1, x2, x3, x4, x5, x6, x7 => by
    have h0 : ∀ (ok_ref01_Add : Nat → Int → Int → Int → Int → Bool) (o_ref01_Add_0 : Nat → Int → Int → Int → Int → Int) (o_ref01_Add_1 : Nat → Int → Int → Int → Int → Int) (L_ref01_Left_0 : Nat → (Int → Int → Int → Int → Int → Int → Int → Int → R) → Nat → Int → Int → Int → Int → Int → Int → Int → Int → R), iterC (codeL PP (words [(63, spec ti_ref01_Add to_ref01_Add (fun q => (ok_ref01_Add F (atI (nth q 0)) (atI (nth q 1)) (atI (nth q 2)) (atI (nth q 3)))) (fun q => [.i (o_ref01_Add_0 F (atI (nth q 0)) (atI (nth q 1)) (atI (nth q 2)) (atI (nth q 3))), .i (o_ref01_Add_1 F (atI (nth q 0)) (atI (nth q 1)) (atI (nth q 2)) (atI (nth q 3)))]))]) c_ref01_Left (tabI c_ref01_Left [⟨0, T_ref01_Left_0, fun k q => L_ref01_Left_0 F (fun (z0 : Int) (z1 : Int) (z2 : Int) (z3 : Int) (z4 : Int) (z5 : Int) (z6 : Int) (z7 : Int) => k (.exit 0) (fS T_ref01_Left_0_0 [.i z0, .i z1, .i z2, .i z3, .i z4, .i z5, .i z6, .i z7])) F (atI (nth q 0)) (atI (nth q 1)) (atI (nth q 2)) (atI (nth q 3)) (atI (nth q 4)) (atI (nth q 5)) (atI (nth q 6)) (atI (nth q 7))⟩]) (tabJ []) (loopAt PP 49 0) 0) (headOf c_ref01_Left 0) k (n + 1) (fS T_ref01_Left_0 [.i x0, .i x1, .i x2, .i x3, .i x4, .i x5, .i x6, .i x7]) = (fun (rc : Int → Int → Int → Int → Int → Int → Int → Int → R) (ex0 : Int → Int → Int → Int → Int → Int → Int → Int → R) (x0 : Int) (x1 : Int) (x2 : Int) (x3 : Int) (x4 : Int) (x5 : Int) (x6 : Int) (x7 : Int) => (
  bif ((decide (x3 < ((if 128 < x2 then 128 else x2))))) then (
    bif (ok_ref01_Add F x4 x5 x4 x5) then (
      rc x0 x1 x2 ((IntKind.wrap .i64 (x3 + 1))) ((o_ref01_Add_0 F x4 x5 x4 x5)) ((o_ref01_Add_1 F x4 x5 x4 x5)) x6 x7)
    else (
      none))
  else (
    ex0 x0 x1 x2 x3 x4 x5 x6 x7) : R)) (fun (y0 : Int) (y1 : Int) (y2 : Int) (y3 : Int) (y4 : Int) (y5 : Int) (y6 : Int) (y7 : Int) => iterC (codeL PP (words [(63, spec ti_ref01_Add to_ref01_Add (fun q => (ok_ref01_Add F (atI (nth q 0)) (atI (nth q 1)) (atI (nth q 2)) (atI (nth q 3)))) (fun q => [.i (o_ref01_Add_0 F (atI (nth q 0)) (atI (nth q 1)) (atI (nth q 2)) (atI (nth q 3))), .i (o_ref01_Add_1 F (atI (nth q 0)) (atI (nth q 1)) (atI (nth q 2)) (atI (nth q 3)))]))]) c_ref01_Left (tabI c_ref01_Left [⟨0, T_ref01_Left_0, fun k q => L_ref01_Left_0 F (fun (z0 : Int) (z1 : Int) (z2 : Int) (z3 : Int) (z4 : Int) (z5 : Int) (z6 : Int) (z7 : Int) => k (.exit 0) (fS T_ref01_Left_0_0 [.i z0, .i z1, .i z2, .i z3, .i z4, .i z5, .i z6, .i z7])) F (atI (nth q 0)) (atI (nth q 1)) (atI (nth q 2)) (atI (nth q 3)) (atI (nth q 4)) (atI (nth q 5)) (atI (nth q 6)) (atI (nth q 7))⟩]) (tabJ []) (loopAt PP 49 0) 0) (headOf c_ref01_Left 0) k n (fS T_ref01_Left_0 [.i y0, .i y1, .i y2, .i y3, .i y4, .i y5, .i y6, .i y7])) (fun (z0 : Int) (z1 : Int) (z2 : Int) (z3 : Int) (z4 : Int) (z5 : Int) (z6 : Int) (z7 : Int) => k (.exit 0) (fS T_ref01_Left_0_0 [.i z0, .i z1, .i z2, .i z3, .i z4, .i z5, .i z6, .i z7])) x0 x1 x2 x3 x4 x5 x6 x7 := by
      intros
      kernel_rfl
    have h : iterC (codeL PP (S_ref01_Left F) c_ref01_Left (I_ref01_Left F) (J_ref01_Left F) (loopAt PP 49 0) 0) (headOf c_ref01_Left 0) k (n + 1) (fS T_ref01_Left_0 [.i x0, .i x1, .i x2, .i x3, .i x4, .i x5, .i x6, .i x7]) = B_ref01_Left_0 F (fun (y0 : Int) (y1 : Int) (y2 : Int) (y3 : Int) (y4 : Int) (y5 : Int) (y6 : Int) (y7 : Int) => iterC (codeL PP (S_ref01_Left F) c_ref01_Left (I_ref01_Left F) (J_ref01_Left F) (loopAt PP 49 0) 0) (headOf c_ref01_Left 0) k n (fS T_ref01_Left_0 [.i y0, .i y1, .i y2, .i y3, .i y4, .i y5, .i y6, .i y7])) (fun (z0 : Int) (z1 : Int) (z2 : Int) (z3 : Int) (z4 : Int) (z5 : Int) (z6 : Int) (z7 : Int) => k (.exit 0) (fS T_ref01_Left_0_0 [.i z0, .i z1, .i z2, .i z3, .i z4, .i z5, .i z6, .i z7])) x0 x1 x2 x3 x4 x5 x6 x7 := (h0 ok_ref01_Add o_ref01_Add_0 o_ref01_Add_1 L_ref01_Left_0).trans (by kernel_rfl)
    rw [h]
    simp only [lL_ref01_Left_0 F k n]
    rfl
def f_ref01_Left (F : Nat) (a0 : Int) (a1 : Int) (a2 : Int) : R :=
  L_ref01_Left_0 F (fun (v2302 : Int) (v2303 : Int) (v2304 : Int) (v2305 : Int) (v2306 : Int) (v2307 : Int) (v2308 : Int) (v2309 : Int) =>
    some (.v (.agg #[.int .i64 v2306, .int .u64 v2307]))) F a0 a1 a2 0 a0 a1 0 0
theorem e_ref01_Left (F : Nat) (a0 : Int) (a1 : Int) (a2 : Int) : funL PP (S_ref01_Left F) c_ref01_Left (I_ref01_Left F) (J_ref01_Left F) 49 (fTs ti_ref01_Left [.i a0, .i a1, .i a2]).1 = f_ref01_Left F a0 a1 a2 := by
  have h : ∀ (ok_ref01_Add : Nat → Int → Int → Int → Int → Bool) (o_ref01_Add_0 : Nat → Int → Int → Int → Int → Int) (o_ref01_Add_1 : Nat → Int → Int → Int → Int → Int) (L_ref01_Left_0 : Nat → (Int → Int → Int → Int → Int → Int → Int → Int → R) → Nat → Int → Int → Int → Int → Int → Int → Int → Int → R), funL PP (words [(63, spec ti_ref01_Add to_ref01_Add (fun q => (ok_ref01_Add F (atI (nth q 0)) (atI (nth q 1)) (atI (nth q 2)) (atI (nth q 3)))) (fun q => [.i (o_ref01_Add_0 F (atI (nth q 0)) (atI (nth q 1)) (atI (nth q 2)) (atI (nth q 3))), .i (o_ref01_Add_1 F (atI (nth q 0)) (atI (nth q 1)) (atI (nth q 2)) (atI (nth q 3)))]))]) c_ref01_Left (tabI c_ref01_Left [⟨0, T_ref01_Left_0, fun k q => L_ref01_Left_0 F (fun (z0 : Int) (z1 : Int) (z2 : Int) (z3 : Int) (z4 : Int) (z5 : Int) (z6 : Int) (z7 : Int) => k (.exit 0) (fS T_ref01_Left_0_0 [.i z0, .i z1, .i z2, .i z3, .i z4, .i z5, .i z6, .i z7])) F (atI (nth q 0)) (atI (nth q 1)) (atI (nth q 2)) (atI (nth q 3)) (atI (nth q 4)) (atI (nth q 5)) (atI (nth q 6)) (atI (nth q 7))⟩]) (tabJ []) 49 (fTs ti_ref01_Left [.i a0, .i a1, .i a2]).1 = (
  L_ref01_Left_0 F (fun (v2302 : Int) (v2303 : Int) (v2304 : Int) (v2305 : Int) (v2306 : Int) (v2307 : Int) (v2308 : Int) (v2309 : Int) =>
    some (.v (.agg #[.int .i64 v2306, .int .u64 v2307]))) F a0 a1 a2 0 a0 a1 0 0 : R) := by
    intros
    kernel_rfl
  exact (h ok_ref01_Add o_ref01_Add_0 o_ref01_Add_1 L_ref01_Left_0).trans (by kernel_rfl)
def ok_ref01_Left (F : Nat) (a0 : Int) (a1 : Int) (a2 : Int) : Bool := okT to_ref01_Left (f_ref01_Left F a0 a1 a2)
def o_ref01_Left_0 (F : Nat) (a0 : Int) (a1 : Int) (a2 : Int) : Int := atI (nth (outT to_ref01_Left (f_ref01_Left F a0 a1 a2)) 0)
def o_ref01_Left_1 (F : Nat) (a0 : Int) (a1 : Int) (a2 : Int) : Int := atI (nth (outT to_ref01_Left (f_ref01_Left F a0 a1 a2)) 1)
theorem k_ref01_Left (F : Nat) (a0 : Int) (a1 : Int) (a2 : Int) {z0 : Int} {z1 : Int} (h : f_ref01_Left F a0 a1 a2 = some (.v (.agg #[.int .i64 z0, .int .u64 z1]))) : ok_ref01_Left F a0 a1 a2 = true ∧ o_ref01_Left_0 F a0 a1 a2 = z0 ∧ o_ref01_Left_1 F a0 a1 a2 = z1 := by
  refine ⟨?_, ?_, ?_⟩
  · unfold ok_ref01_Left; rw [h]; kernel_rfl
  · unfold o_ref01_Left_0; rw [h]; kernel_rfl
  · unfold o_ref01_Left_1; rw [h]; kernel_rfl
def s_ref01_Left (F : Nat) : List VV → Option (Bool × VV) := spec ti_ref01_Left to_ref01_Left (fun q => (ok_ref01_Left F (atI (nth q 0)) (atI (nth q 1)) (atI (nth q 2)))) (fun q => [.i (o_ref01_Left_0 F (atI (nth q 0)) (atI (nth q 1)) (atI (nth q 2))), .i (o_ref01_Left_1 F (atI (nth q 0)) (atI (nth q 1)) (atI (nth q 2)))])
theorem hS_ref01_Left (F : Nat) : ∀ f, Good PP f (unS (S_ref01_Left F f)) := words_good fun p hp => by
  simp only [List.mem_cons, List.not_mem_nil, or_false] at hp
  rcases hp with rfl
  · exact g_ref01_Add F
theorem hl_ref01_Left (F : Nat) : ∀ p ∈ loopsIn PP 49, LoopOK PP (S_ref01_Left F) c_ref01_Left F (I_ref01_Left F) (J_ref01_Left F) p :=
  loops_of [(0, loopAt PP 49 0)] (by kernel_rfl) (all_cons
    (loop_ok (W_ref01_Left F) rfl (tab_cons (fun _ k q => Le.ofEq ((lL_ref01_Left_0 F k F (atI (nth q 0)) (atI (nth q 1)) (atI (nth q 2)) (atI (nth q 3)) (atI (nth q 4)) (atI (nth q 5)) (atI (nth q 6)) (atI (nth q 7))).symm.trans (congrArg (iterC (codeL PP (S_ref01_Left F) c_ref01_Left (I_ref01_Left F) (J_ref01_Left F) (loopAt PP 49 0) 0) (headOf c_ref01_Left 0) k F) (show fS T_ref01_Left_0 [.i (atI (nth q 0)), .i (atI (nth q 1)), .i (atI (nth q 2)), .i (atI (nth q 3)), .i (atI (nth q 4)), .i (atI (nth q 5)), .i (atI (nth q 6)), .i (atI (nth q 7))] = fS T_ref01_Left_0 q by kernel_rfl)))) tab_nil)) all_nil)
theorem hj_ref01_Left (F : Nat) : ∀ p ∈ joinsIn PP c_ref01_Left 49, JoinOK PP (S_ref01_Left F) c_ref01_Left (I_ref01_Left F) (J_ref01_Left F) p :=
  joins_of [] (by kernel_rfl) all_nil
theorem g_ref01_Left (F : Nat) : Good PP 49 (unS (s_ref01_Left F)) :=
  fun_spec (hS_ref01_Left F) (by kernel_rfl) (by kernel_rfl) (C := c_ref01_Left) (F := fun q => (f_ref01_Left F (atI (nth q 0)) (atI (nth q 1)) (atI (nth q 2)))) (fun _ => F) (fun _ => I_ref01_Left F) (fun _ => J_ref01_Left F) (fun _ => hl_ref01_Left F) (fun _ => hj_ref01_Left F)
    (fun q => (congrArg (funL PP (S_ref01_Left F) c_ref01_Left (I_ref01_Left F) (J_ref01_Left F) 49) (show (fTs ti_ref01_Left q).1 = (fTs ti_ref01_Left [.i (atI (nth q 0)), .i (atI (nth q 1)), .i (atI (nth q 2))]).1 by kernel_rfl)).trans (e_ref01_Left F (atI (nth q 0)) (atI (nth q 1)) (atI (nth q 2))))
    (fun _ h => (okT_fill h).trans (congrArg some (by kernel_rfl)))

end Go.Xv
set_option linter.unusedVariables false
namespace Go.Xv
/- 69 _ref01_Less -/
def c_ref01_Less : Cfg := ⟨[0, 1, 2, 3, 4], [], [], []⟩
def ti_ref01_Less : List TV := [.v (.agg [.int .i64, .int .u64]), .v (.agg [.int .i64, .int .u64])]
def to_ref01_Less : TV := .v (.bool)
def S_ref01_Less (F : Nat) : FuncId → List VV → Option (Bool × VV) := words []
def W_ref01_Less (F : Nat) : List LW := []
def I_ref01_Less (F : Nat) : Nat → VS → (Exit → VS → R) → R := tabI c_ref01_Less (W_ref01_Less F)
def WJ_ref01_Less (F : Nat) : List LJ := []
def J_ref01_Less (F : Nat) : Nat → Nat → VS → (Exit → VS → R) → R := tabJ (WJ_ref01_Less F)
def f_ref01_Less (F : Nat) (a0 : Int) (a1 : Int) (a2 : Int) (a3 : Int) : R :=
  bif ((decide (a0 < a2))) then (
    some (.v (.bool true)))
  else (
    bif ((a0 == a2)) then (
      some (.v (.bool ((decide (a1 < a3))))))
    else (
      some (.v (.bool false))))
theorem e_ref01_Less (F : Nat) (a0 : Int) (a1 : Int) (a2 : Int) (a3 : Int) : funL PP (S_ref01_Less F) c_ref01_Less (I_ref01_Less F) (J_ref01_Less F) 69 (fTs ti_ref01_Less [.i a0, .i a1, .i a2, .i a3]).1 = f_ref01_Less F a0 a1 a2 a3 := by
  have h : ∀ (_ : Unit), funL PP (words []) c_ref01_Less (tabI c_ref01_Less []) (tabJ []) 69 (fTs ti_ref01_Less [.i a0, .i a1, .i a2, .i a3]).1 = (
  bif ((decide (a0 < a2))) then (
    some (.v (.bool true)))
  else (
    bif ((a0 == a2)) then (
      some (.v (.bool ((decide (a1 < a3))))))
    else (
      some (.v (.bool false)))) : R) := by
    intros
    kernel_rfl
  exact (h ()).trans (by kernel_rfl)
def ok_ref01_Less (F : Nat) (a0 : Int) (a1 : Int) (a2 : Int) (a3 : Int) : Bool := okT to_ref01_Less (f_ref01_Less F a0 a1 a2 a3)
def o_ref01_Less_0 (F : Nat) (a0 : Int) (a1 : Int) (a2 : Int) (a3 : Int) : Bool := atB (nth (outT to_ref01_Less (f_ref01_Less F a0 a1 a2 a3)) 0)
theorem k_ref01_Less (F : Nat) (a0 : Int) (a1 : Int) (a2 : Int) (a3 : Int) {z0 : Bool} (h : f_ref01_Less F a0 a1 a2 a3 = some (.v (.bool z0))) : ok_ref01_Less F a0 a1 a2 a3 = true ∧ o_ref01_Less_0 F a0 a1 a2 a3 = z0 := by
  refine ⟨?_, ?_⟩
  · unfold ok_ref01_Less; rw [h]; kernel_rfl
  · unfold o_ref01_Less_0; rw [h]; kernel_rfl
def s_ref01_Less (F : Nat) : List VV → Option (Bool × VV) := spec ti_ref01_Less to_ref01_Less (fun q => (ok_ref01_Less F (atI (nth q 0)) (atI (nth q 1)) (atI (nth q 2)) (atI (nth q 3)))) (fun q => [.b (o_ref01_Less_0 F (atI (nth q 0)) (atI (nth q 1)) (atI (nth q 2)) (atI (nth q 3)))])
theorem hS_ref01_Less (F : Nat) : ∀ f, Good PP f (unS (S_ref01_Less F f)) := words_good fun p hp => by
  cases hp
theorem hl_ref01_Less (F : Nat) : ∀ p ∈ loopsIn PP 69, LoopOK PP (S_ref01_Less F) c_ref01_Less F (I_ref01_Less F) (J_ref01_Less F) p :=
  loops_of [] (by kernel_rfl) all_nil
theorem hj_ref01_Less (F : Nat) : ∀ p ∈ joinsIn PP c_ref01_Less 69, JoinOK PP (S_ref01_Less F) c_ref01_Less (I_ref01_Less F) (J_ref01_Less F) p :=
  joins_of [] (by kernel_rfl) all_nil
theorem g_ref01_Less (F : Nat) : Good PP 69 (unS (s_ref01_Less F)) :=
  fun_spec (hS_ref01_Less F) (by kernel_rfl) (by kernel_rfl) (C := c_ref01_Less) (F := fun q => (f_ref01_Less F (atI (nth q 0)) (atI (nth q 1)) (atI (nth q 2)) (atI (nth q 3)))) (fun _ => F) (fun _ => I_ref01_Less F) (fun _ => J_ref01_Less F) (fun _ => hl_ref01_Less F) (fun _ => hj_ref01_Less F)
    (fun q => (congrArg (funL PP (S_ref01_Less F) c_ref01_Less (I_ref01_Less F) (J_ref01_Less F) 69) (show (fTs ti_ref01_Less q).1 = (fTs ti_ref01_Less [.i (atI (nth q 0)), .i (atI (nth q 1)), .i (atI (nth q 2)), .i (atI (nth q 3))]).1 by kernel_rfl)).trans (e_ref01_Less F (atI (nth q 0)) (atI (nth q 1)) (atI (nth q 2)) (atI (nth q 3))))
    (fun _ h => (okT_fill h).trans (congrArg some (by kernel_rfl)))

end Go.Xv
set_option linter.unusedVariables false
namespace Go.Xv
/- 62 _ref01_Right -/
def c_ref01_Right : Cfg := ⟨[0, 1, 2, 4, 5, 6, 7, 16], [(0, [0, 1, 2, 4, 5, 6, 7, 8, 9, 10, 11, 12, 24, 25])], [22], []⟩
def ti_ref01_Right : List TV := [.v (.agg [.int .i64, .int .u64]), .v (.int .i64)]
def to_ref01_Right : TV := .v (.agg [.int .i64, .int .u64])
def S_ref01_Right (F : Nat) : FuncId → List VV → Option (Bool × VV) := words [(70, s_ref01_Digits F), (80, s_ref01_Number F)]
def T_ref01_Right_0 : TS := ⟨[(0, .v (.agg [.int .i64, .int .u64])), (1, .v (.int .i64)), (2, .lp 0 (.lit 0)), (4, .lp 1 (.lit 0)), (5, .ls 2 (.lit 0) .hole 1), (6, .v (.int .i64)), (7, .v (.int .i64))], [(0, ⟨(.ex [.v (.int .i64), .v (.int .u64)]), true⟩), (1, ⟨(.ex [.v (.int .i64), .v (.int .u64)]), true⟩), (2, ⟨.hole, true⟩)], 3⟩
def T_ref01_Right_0_0 : TS := ⟨[(0, .v (.agg [.int .i64, .int .u64])), (1, .v (.int .i64)), (2, .lp 0 (.lit 0)), (4, .lp 1 (.lit 0)), (5, .ls 2 (.lit 0) .hole 1), (6, .v (.int .i64)), (7, .v (.int .i64))], [(0, ⟨(.ex [.v (.int .i64), .v (.int .u64)]), true⟩), (1, ⟨(.ex [.v (.int .i64), .v (.int .u64)]), true⟩), (2, ⟨.hole, true⟩)], 3⟩
def B_ref01_Right_0 (F : Nat) (rc : Int → Int → Int → Nat → Int → Int → Int → Int → Int → Int → List VV → R) (ex0 : Int → Int → Int → Nat → Int → Int → Int → Int → Int → Int → List VV → R) (x0 : Int) (x1 : Int) (x2 : Int) (x3 : Nat) (x4 : Int) (x5 : Int) (x6 : Int) (x7 : Int) (x8 : Int) (x9 : Int) (x10 : List VV) : R :=
  bif ((decide (x5 < ((if 127 < x2 then 127 else x2))))) then (
    bif ((decide (1 ≤ x3)) && (decide (x3 ≤ x3))) then (
      let v2838 : Nat := (x3 - 1)
      bif (((decide ((1 + (v2838 * 1)) ≤ x10.length)) && true) && (decide ((v2838 + 1) * 9 ≤ bigger))) then (
        rc x0 x1 x2 ((v2838 + 1)) x4 ((IntKind.wrap .i64 (x5 + 1))) x6 x7 x8 x9 ((((x10.drop 1).take (v2838 * 1)) ++ [.v (.int .i64 x4)])))
      else (
        none))
    else (
      none))
  else (
    ex0 x0 x1 x2 x3 x4 x5 x6 x7 x8 x9 x10)
def L_ref01_Right_0 (F : Nat) (ex0 : Int → Int → Int → Nat → Int → Int → Int → Int → Int → Int → List VV → R) : Nat → Int → Int → Int → Nat → Int → Int → Int → Int → Int → Int → List VV → R
  | 0, _, _, _, _, _, _, _, _, _, _, _ => none
  | n + 1, x0, x1, x2, x3, x4, x5, x6, x7, x8, x9, x10 => B_ref01_Right_0 F (L_ref01_Right_0 F ex0 n) ex0 x0 x1 x2 x3 x4 x5 x6 x7 x8 x9 x10
def W_ref01_Right (F : Nat) : List LW := [⟨0, T_ref01_Right_0, fun k q => L_ref01_Right_0 F (fun (z0 : Int) (z1 : Int) (z2 : Int) (z3 : Nat) (z4 : Int) (z5 : Int) (z6 : Int) (z7 : Int) (z8 : Int) (z9 : Int) (z10 : List VV) => k (.exit 0) (fS T_ref01_Right_0_0 [.i z0, .i z1, .i z2, .n z3, .i z4, .i z5, .i z6, .i z7, .i z8, .i z9, .c z10])) F (atI (nth q 0)) (atI (nth q 1)) (atI (nth q 2)) (atN (nth q 3)) (atI (nth q 4)) (atI (nth q 5)) (atI (nth q 6)) (atI (nth q 7)) (atI (nth q 8)) (atI (nth q 9)) (atC (nth q 10))⟩]
def I_ref01_Right (F : Nat) : Nat → VS → (Exit → VS → R) → R := tabI c_ref01_Right (W_ref01_Right F)
def WJ_ref01_Right (F : Nat) : List LJ := []
def J_ref01_Right (F : Nat) : Nat → Nat → VS → (Exit → VS → R) → R := tabJ (WJ_ref01_Right F)
theorem lL_ref01_Right_0 (F : Nat) (k : Exit → VS → R) : ∀ (n : Nat) (x0 : Int) (x1 : Int) (x2 : Int) (x3 : Nat) (x4 : Int) (x5 : Int) (x6 : Int) (x7 : Int) (x8 : Int) (x9 : Int) (x10 : List VV), iterC (codeL PP (S_ref01_Right F) c_ref01_Right (I_ref01_Right F) (J_ref01_Right F) (loopAt PP 62 0) 0) (headOf c_ref01_Right 0) k n (fS T_ref01_Right_0 [.i x0, .i x1, .i x2, .n x3, .i x4, .i x5, .i x6, .i x7, .i x8, .i x9, .c x10]) = L_ref01_Right_0 F (fun (z0 : Int) (z1 : Int) (z2 : Int) (z3 : Nat) (z4 : Int) (z5 : Int) (z6 : Int) (z7 : Int) (z8 : Int) (z9 : Int) (z10 : List VV) => k (.exit 0) (fS T_ref01_Right_0_0 [.i z0, .i z1, .i z2, .n z3, .i z4, .i z5, .i z6, .i z7, .i z8, .i z9, .c z10])) n x0 x1 x2 x3 x4 x5 x6 x7 x8 x9 x10
  | 0, _, _, _, _, _, _, _, _, _, _, _ => rfl
  | n + 1, x0, x1, x2, x3, x4, x5, x6, x7, x8, x9, x10 => by
    have h0 : ∀ (ok_ref01_Digits : Nat → Int → Int → Bool) (o_ref01_Digits_0 : Nat → Int → Int → List VV) (o_ref01_Digits_1 : Nat → Int → Int → Nat) (ok_ref01_Number : Nat → List VV → Nat → Bool) (o_ref01_Number_0 : Nat → List VV → Nat → Int) (o_ref01_Number_1 : Nat → List VV → Nat → Int) (L_ref01_Right_0 : Nat → (Int → Int → Int → Nat → Int → Int → Int → Int → Int → Int → List VV → R) → Nat → Int → Int → Int → Nat → Int → Int → Int → Int → Int → Int → List VV → R), iterC (codeL PP (words [(70, spec ti_ref01_Digits to_ref01_Digits (fun q => (ok_ref01_Digits F (atI (nth q 0)) (atI (nth q 1)))) (fun q => [.c (o_ref01_Digits_0 F (atI (nth q 0)) (atI (nth q 1))), .n (o_ref01_Digits_1 F (atI (nth q 0)) (atI (nth q 1)))])), (80, spec ti_ref01_Number to_ref01_Number (fun q => (ok_ref01_Number F (atC (nth q 0)) (atN (nth q 1)))) (fun q => [.i (o_ref01_Number_0 F (atC (nth q 0)) (atN (nth q 1))), .i (o_ref01_Number_1 F (atC (nth q 0)) (atN (nth q 1)))]))]) c_ref01_Right (tabI c_ref01_Right [⟨0, T_ref01_Right_0, fun k q => L_ref01_Right_0 F (fun (z0 : Int) (z1 : Int) (z2 : Int) (z3 : Nat) (z4 : Int) (z5 : Int) (z6 : Int) (z7 : Int) (z8 : Int) (z9 : Int) (z10 : List VV) => k (.exit 0) (fS T_ref01_Right_0_0 [.i z0, .i z1, .i z2, .n z3, .i z4, .i z5, .i z6, .i z7, .i z8, .i z9, .c z10])) F (atI (nth q 0)) (atI (nth q 1)) (atI (nth q 2)) (atN (nth q 3)) (atI (nth q 4)) (atI (nth q 5)) (atI (nth q 6)) (atI (nth q 7)) (atI (nth q 8)) (atI (nth q 9)) (atC (nth q 10))⟩]) (tabJ []) (loopAt PP 62 0) 0) (headOf c_ref01_Right 0) k (n + 1) (fS T_ref01_Right_0 [.i x0, .i x1, .i x2, .n x3, .i x4, .i x5, .i x6, .i x7, .i x8, .i x9, .c x10]) = (fun (rc : Int → Int → Int → Nat → Int → Int → Int → Int → Int → Int → List VV → R) (ex0 : Int → Int → Int → Nat → Int → Int → Int → Int → Int → Int → List VV → R) (x0 : Int) (x1 : Int) (x2 : Int) (x3 : Nat) (x4 : Int) (x5 : Int) (x6 : Int) (x7 : Int) (x8 : Int) (x9 : Int) (x10 : List VV) => (
  bif ((decide (x5 < ((if 127 < x2 then 127 else x2))))) then (
    bif ((decide (1 ≤ x3)) && (decide (x3 ≤ x3))) then (
      let v2838 : Nat := (x3 - 1)
      bif (((decide ((1 + (v2838 * 1)) ≤ x10.length)) && true) && (decide ((v2838 + 1) * 9 ≤ bigger))) then (
        rc x0 x1 x2 ((v2838 + 1)) x4 ((IntKind.wrap .i64 (x5 + 1))) x6 x7 x8 x9 ((((x10.drop 1).take (v2838 * 1)) ++ [.v (.int .i64 x4)])))
      else (
        none))
    else (
      none))
  else (
    ex0 x0 x1 x2 x3 x4 x5 x6 x7 x8 x9 x10) : R)) (fun (y0 : Int) (y1 : Int) (y2 : Int) (y3 : Nat) (y4 : Int) (y5 : Int) (y6 : Int) (y7 : Int) (y8 : Int) (y9 : Int) (y10 : List VV) => iterC (codeL PP (words [(70, spec ti_ref01_Digits to_ref01_Digits (fun q => (ok_ref01_Digits F (atI (nth q 0)) (atI (nth q 1)))) (fun q => [.c (o_ref01_Digits_0 F (atI (nth q 0)) (atI (nth q 1))), .n (o_ref01_Digits_1 F (atI (nth q 0)) (atI (nth q 1)))])), (80, spec ti_ref01_Number to_ref01_Number (fun q => (ok_ref01_Number F (atC (nth q 0)) (atN (nth q 1)))) (fun q => [.i (o_ref01_Number_0 F (atC (nth q 0)) (atN (nth q 1))), .i (o_ref01_Number_1 F (atC (nth q 0)) (atN (nth q 1)))]))]) c_ref01_Right (tabI c_ref01_Right [⟨0, T_ref01_Right_0, fun k q => L_ref01_Right_0 F (fun (z0 : Int) (z1 : Int) (z2 : Int) (z3 : Nat) (z4 : Int) (z5 : Int) (z6 : Int) (z7 : Int) (z8 : Int) (z9 : Int) (z10 : List VV) => k (.exit 0) (fS T_ref01_Right_0_0 [.i z0, .i z1, .i z2, .n z3, .i z4, .i z5, .i z6, .i z7, .i z8, .i z9, .c z10])) F (atI (nth q 0)) (atI (nth q 1)) (atI (nth q 2)) (atN (nth q 3)) (atI (nth q 4)) (atI (nth q 5)) (atI (nth q 6)) (atI (nth q 7)) (atI (nth q 8)) (atI (nth q 9)) (atC (nth q 10))⟩]) (tabJ []) (loopAt PP 62 0) 0) (headOf c_ref01_Right 0) k n (fS T_ref01_Right_0 [.i y0, .i y1, .i y2, .n y3, .i y4, .i y5, .i y6, .i y7, .i y8, .i y9, .c y10])) (fun (z0 : Int) (z1 : Int) (z2 : Int) (z3 : Nat) (z4 : Int) (z5 : Int) (z6 : Int) (z7 : Int) (z8 : Int) (z9 : Int) (z10 : List VV) => k (.exit 0) (fS T_ref01_Right_0_0 [.i z0, .i z1, .i z2, .n z3, .i z4, .i z5, .i z6, .i z7, .i z8, .i z9, .c z10])) x0 x1 x2 x3 x4 x5 x6 x7 x8 x9 x10 := by
      intros
      kernel_rfl
    have h : iterC (codeL PP (S_ref01_Right F) c_ref01_Right (I_ref01_Right F) (J_ref01_Right F) (loopAt PP 62 0) 0) (headOf c_ref01_Right 0) k (n + 1) (fS T_ref01_Right_0 [.i x0, .i x1, .i x2, .n x3, .i x4, .i x5, .i x6, .i x7, .i x8, .i x9, .c x10]) = B_ref01_Right_0 F (fun (y0 : Int) (y1 : Int) (y2 : Int) (y3 : Nat) (y4 : Int) (y5 : Int) (y6 : Int) (y7 : Int) (y8 : Int) (y9 : Int) (y10 : List VV) => iterC (codeL PP (S_ref01_Right F) c_ref01_Right (I_ref01_Right F) (J_ref01_Right F) (loopAt PP 62 0) 0) (headOf c_ref01_Right 0) k n (fS T_ref01_Right_0 [.i y0, .i y1, .i y2, .n y3, .i y4, .i y5, .i y6, .i y7, .i y8, .i y9, .c y10])) (fun (z0 : Int) (z1 : Int) (z2 : Int) (z3 : Nat) (z4 : Int) (z5 : Int) (z6 : Int) (z7 : Int) (z8 : Int) (z9 : Int) (z10 : List VV) => k (.exit 0) (fS T_ref01_Right_0_0 [.i z0, .i z1, .i z2, .n z3, .i z4, .i z5, .i z6, .i z7, .i z8, .i z9, .c z10])) x0 x1 x2 x3 x4 x5 x6 x7 x8 x9 x10 := (h0 ok_ref01_Digits o_ref01_Digits_0 o_ref01_Digits_1 ok_ref01_Number o_ref01_Number_0 o_ref01_Number_1 L_ref01_Right_0).trans (by kernel_rfl)
    rw [h]
    simp only [lL_ref01_Right_0 F k n]
    rfl
def f_ref01_Right (F : Nat) (a0 : Int) (a1 : Int) (a2 : Int) : R :=
  bif (ok_ref01_Digits F a0 a1) then (
    let v2822 : Nat := (o_ref01_Digits_1 F a0 a1)
    let v2823 : List VV := (o_ref01_Digits_0 F a0 a1)
    bif (decide (127 < ((v2822 : Nat) : Int))) then (
      bif ((isI .i64 v2823[127]?) && true) then (
        L_ref01_Right_0 F (fun (v2842 : Int) (v2843 : Int) (v2844 : Int) (v2845 : Nat) (v2846 : Int) (v2847 : Int) (v2848 : Int) (v2849 : Int) (v2850 : Int) (v2851 : Int) (v2852 : List VV) =>
          bif (ok_ref01_Number F v2852 v2845) then (
            some (.v (.agg #[.int .i64 ((o_ref01_Number_0 F v2852 v2845)), .int .u64 ((o_ref01_Number_1 F v2852 v2845))])))
          else (
            none)) F a0 a1 a2 v2822 ((iv v2823[127]?)) 0 a0 a1 0 0 v2823)
      else (
        none))
    else (
      none))
  else (
    none)
theorem e_ref01_Right (F : Nat) (a0 : Int) (a1 : Int) (a2 : Int) : funL PP (S_ref01_Right F) c_ref01_Right (I_ref01_Right F) (J_ref01_Right F) 62 (fTs ti_ref01_Right [.i a0, .i a1, .i a2]).1 = f_ref01_Right F a0 a1 a2 := by
  have h : ∀ (ok_ref01_Digits : Nat → Int → Int → Bool) (o_ref01_Digits_0 : Nat → Int → Int → List VV) (o_ref01_Digits_1 : Nat → Int → Int → Nat) (ok_ref01_Number : Nat → List VV → Nat → Bool) (o_ref01_Number_0 : Nat → List VV → Nat → Int) (o_ref01_Number_1 : Nat → List VV → Nat → Int) (L_ref01_Right_0 : Nat → (Int → Int → Int → Nat → Int → Int → Int → Int → Int → Int → List VV → R) → Nat → Int → Int → Int → Nat → Int → Int → Int → Int → Int → Int → List VV → R), funL PP (words [(70, spec ti_ref01_Digits to_ref01_Digits (fun q => (ok_ref01_Digits F (atI (nth q 0)) (atI (nth q 1)))) (fun q => [.c (o_ref01_Digits_0 F (atI (nth q 0)) (atI (nth q 1))), .n (o_ref01_Digits_1 F (atI (nth q 0)) (atI (nth q 1)))])), (80, spec ti_ref01_Number to_ref01_Number (fun q => (ok_ref01_Number F (atC (nth q 0)) (atN (nth q 1)))) (fun q => [.i (o_ref01_Number_0 F (atC (nth q 0)) (atN (nth q 1))), .i (o_ref01_Number_1 F (atC (nth q 0)) (atN (nth q 1)))]))]) c_ref01_Right (tabI c_ref01_Right [⟨0, T_ref01_Right_0, fun k q => L_ref01_Right_0 F (fun (z0 : Int) (z1 : Int) (z2 : Int) (z3 : Nat) (z4 : Int) (z5 : Int) (z6 : Int) (z7 : Int) (z8 : Int) (z9 : Int) (z10 : List VV) => k (.exit 0) (fS T_ref01_Right_0_0 [.i z0, .i z1, .i z2, .n z3, .i z4, .i z5, .i z6, .i z7, .i z8, .i z9, .c z10])) F (atI (nth q 0)) (atI (nth q 1)) (atI (nth q 2)) (atN (nth q 3)) (atI (nth q 4)) (atI (nth q 5)) (atI (nth q 6)) (atI (nth q 7)) (atI (nth q 8)) (atI (nth q 9)) (atC (nth q 10))⟩]) (tabJ []) 62 (fTs ti_ref01_Right [.i a0, .i a1, .i a2]).1 = (
  bif (ok_ref01_Digits F a0 a1) then (
    let v2822 : Nat := (o_ref01_Digits_1 F a0 a1)
    let v2823 : List VV := (o_ref01_Digits_0 F a0 a1)
    bif (decide (127 < ((v2822 : Nat) : Int))) then (
      bif ((isI .i64 v2823[127]?) && true) then (
        L_ref01_Right_0 F (fun (v2842 : Int) (v2843 : Int) (v2844 : Int) (v2845 : Nat) (v2846 : Int) (v2847 : Int) (v2848 : Int) (v2849 : Int) (v2850 : Int) (v2851 : Int) (v2852 : List VV) =>
          bif (ok_ref01_Number F v2852 v2845) then (
            some (.v (.agg #[.int .i64 ((o_ref01_Number_0 F v2852 v2845)), .int .u64 ((o_ref01_Number_1 F v2852 v2845))])))
          else (
            none)) F a0 a1 a2 v2822 ((iv v2823[127]?)) 0 a0 a1 0 0 v2823)
      else (
        none))
    else (
      none))
  else (
    none) : R) := by
    intros
    kernel_rfl
  exact (h ok_ref01_Digits o_ref01_Digits_0 o_ref01_Digits_1 ok_ref01_Number o_ref01_Number_0 o_ref01_Number_1 L_ref01_Right_0).trans (by kernel_rfl)
def ok_ref01_Right (F : Nat) (a0 : Int) (a1 : Int) (a2 : Int) : Bool := okT to_ref01_Right (f_ref01_Right F a0 a1 a2)
def o_ref01_Right_0 (F : Nat) (a0 : Int) (a1 : Int) (a2 : Int) : Int := atI (nth (outT to_ref01_Right (f_ref01_Right F a0 a1 a2)) 0)
def o_ref01_Right_1 (F : Nat) (a0 : Int) (a1 : Int) (a2 : Int) : Int := atI (nth (outT to_ref01_Right (f_ref01_Right F a0 a1 a2)) 1)
theorem k_ref01_Right (F : Nat) (a0 : Int) (a1 : Int) (a2 : Int) {z0 : Int} {z1 : Int} (h : f_ref01_Right F a0 a1 a2 = some (.v (.agg #[.int .i64 z0, .int .u64 z1]))) : ok_ref01_Right F a0 a1 a2 = true ∧ o_ref01_Right_0 F a0 a1 a2 = z0 ∧ o_ref01_Right_1 F a0 a1 a2 = z1 := by
  refine ⟨?_, ?_, ?_⟩
  · unfold ok_ref01_Right; rw [h]; kernel_rfl
  · unfold o_ref01_Right_0; rw [h]; kernel_rfl
  · unfold o_ref01_Right_1; rw [h]; kernel_rfl
def s_ref01_Right (F : Nat) : List VV → Option (Bool × VV) := spec ti_ref01_Right to_ref01_Right (fun q => (ok_ref01_Right F (atI (nth q 0)) (atI (nth q 1)) (atI (nth q 2)))) (fun q => [.i (o_ref01_Right_0 F (atI (nth q 0)) (atI (nth q 1)) (atI (nth q 2))), .i (o_ref01_Right_1 F (atI (nth q 0)) (atI (nth q 1)) (atI (nth q 2)))])
theorem hS_ref01_Right (F : Nat) : ∀ f, Good PP f (unS (S_ref01_Right F f)) := words_good fun p hp => by
  simp only [List.mem_cons, List.not_mem_nil, or_false] at hp
  rcases hp with rfl | rfl
  · exact g_ref01_Digits F
  · exact g_ref01_Number F
theorem hl_ref01_Right (F : Nat) : ∀ p ∈ loopsIn PP 62, LoopOK PP (S_ref01_Right F) c_ref01_Right F (I_ref01_Right F) (J_ref01_Right F) p :=
  loops_of [(0, loopAt PP 62 0)] (by kernel_rfl) (all_cons
    (loop_ok (W_ref01_Right F) rfl (tab_cons (fun _ k q => Le.ofEq ((lL_ref01_Right_0 F k F (atI (nth q 0)) (atI (nth q 1)) (atI (nth q 2)) (atN (nth q 3)) (atI (nth q 4)) (atI (nth q 5)) (atI (nth q 6)) (atI (nth q 7)) (atI (nth q 8)) (atI (nth q 9)) (atC (nth q 10))).symm.trans (congrArg (iterC (codeL PP (S_ref01_Right F) c_ref01_Right (I_ref01_Right F) (J_ref01_Right F) (loopAt PP 62 0) 0) (headOf c_ref01_Right 0) k F) (show fS T_ref01_Right_0 [.i (atI (nth q 0)), .i (atI (nth q 1)), .i (atI (nth q 2)), .n (atN (nth q 3)), .i (atI (nth q 4)), .i (atI (nth q 5)), .i (atI (nth q 6)), .i (atI (nth q 7)), .i (atI (nth q 8)), .i (atI (nth q 9)), .c (atC (nth q 10))] = fS T_ref01_Right_0 q by kernel_rfl)))) tab_nil)) all_nil)
theorem hj_ref01_Right (F : Nat) : ∀ p ∈ joinsIn PP c_ref01_Right 62, JoinOK PP (S_ref01_Right F) c_ref01_Right (I_ref01_Right F) (J_ref01_Right F) p :=
  joins_of [] (by kernel_rfl) all_nil
theorem g_ref01_Right (F : Nat) : Good PP 62 (unS (s_ref01_Right F)) :=
  fun_spec (hS_ref01_Right F) (by kernel_rfl) (by kernel_rfl) (C := c_ref01_Right) (F := fun q => (f_ref01_Right F (atI (nth q 0)) (atI (nth q 1)) (atI (nth q 2)))) (fun _ => F) (fun _ => I_ref01_Right F) (fun _ => J_ref01_Right F) (fun _ => hl_ref01_Right F) (fun _ => hj_ref01_Right F)
    (fun q => (congrArg (funL PP (S_ref01_Right F) c_ref01_Right (I_ref01_Right F) (J_ref01_Right F) 62) (show (fTs ti_ref01_Right q).1 = (fTs ti_ref01_Right [.i (atI (nth q 0)), .i (atI (nth q 1)), .i (atI (nth q 2))]).1 by kernel_rfl)).trans (e_ref01_Right F (atI (nth q 0)) (atI (nth q 1)) (atI (nth q 2))))
    (fun _ h => (okT_fill h).trans (congrArg some (by kernel_rfl)))

end Go.Xv
set_option linter.unusedVariables false
namespace Go.Xv
/- 41 _ref01_Clip -/
def c_ref01_Clip : Cfg := ⟨[0, 1, 2, 3, 6, 9], [], [5, 7], []⟩
def ti_ref01_Clip : List TV := [.v (.agg [.int .i64, .int .u64])]
def to_ref01_Clip : TV := .v (.tup [.int .i64, .bool])
def S_ref01_Clip (F : Nat) : FuncId → List VV → Option (Bool × VV) := words [(61, s_ref01_Of F), (69, s_ref01_Less F)]
def W_ref01_Clip (F : Nat) : List LW := []
def I_ref01_Clip (F : Nat) : Nat → VS → (Exit → VS → R) → R := tabI c_ref01_Clip (W_ref01_Clip F)
def WJ_ref01_Clip (F : Nat) : List LJ := []
def J_ref01_Clip (F : Nat) : Nat → Nat → VS → (Exit → VS → R) → R := tabJ (WJ_ref01_Clip F)
def f_ref01_Clip (F : Nat) (a0 : Int) (a1 : Int) : R :=
  bif (ok_ref01_Of F ((-9223372036854775808))) then (
    let v2873 : Int := (o_ref01_Of_0 F ((-9223372036854775808)))
    let v2874 : Int := (o_ref01_Of_1 F ((-9223372036854775808)))
    bif (ok_ref01_Less F a0 a1 v2873 v2874) then (
      bif ((o_ref01_Less_0 F a0 a1 v2873 v2874)) then (
        some (.v (.tuple #[.int .i64 (-9223372036854775808), .bool true])))
      else (
        bif (ok_ref01_Of F 9223372036854775807) then (
          let v2879 : Int := (o_ref01_Of_0 F 9223372036854775807)
          let v2880 : Int := (o_ref01_Of_1 F 9223372036854775807)
          bif (ok_ref01_Less F v2879 v2880 a0 a1) then (
            bif ((o_ref01_Less_0 F v2879 v2880 a0 a1)) then (
              some (.v (.tuple #[.int .i64 9223372036854775807, .bool true])))
            else (
              some (.v (.tuple #[.int .i64 ((IntKind.wrap .i64 a1)), .bool false]))))
          else (
            none))
        else (
          none)))
    else (
      none))
  else (
    none)
theorem e_ref01_Clip (F : Nat) (a0 : Int) (a1 : Int) : funL PP (S_ref01_Clip F) c_ref01_Clip (I_ref01_Clip F) (J_ref01_Clip F) 41 (fTs ti_ref01_Clip [.i a0, .i a1]).1 = f_ref01_Clip F a0 a1 := by
  have h : ∀ (ok_ref01_Of : Nat → Int → Bool) (o_ref01_Of_0 : Nat → Int → Int) (o_ref01_Of_1 : Nat → Int → Int) (ok_ref01_Less : Nat → Int → Int → Int → Int → Bool) (o_ref01_Less_0 : Nat → Int → Int → Int → Int → Bool), funL PP (words [(61, spec ti_ref01_Of to_ref01_Of (fun q => (ok_ref01_Of F (atI (nth q 0)))) (fun q => [.i (o_ref01_Of_0 F (atI (nth q 0))), .i (o_ref01_Of_1 F (atI (nth q 0)))])), (69, spec ti_ref01_Less to_ref01_Less (fun q => (ok_ref01_Less F (atI (nth q 0)) (atI (nth q 1)) (atI (nth q 2)) (atI (nth q 3)))) (fun q => [.b (o_ref01_Less_0 F (atI (nth q 0)) (atI (nth q 1)) (atI (nth q 2)) (atI (nth q 3)))]))]) c_ref01_Clip (tabI c_ref01_Clip []) (tabJ []) 41 (fTs ti_ref01_Clip [.i a0, .i a1]).1 = (
  bif (ok_ref01_Of F ((-9223372036854775808))) then (
    let v2873 : Int := (o_ref01_Of_0 F ((-9223372036854775808)))
    let v2874 : Int := (o_ref01_Of_1 F ((-9223372036854775808)))
    bif (ok_ref01_Less F a0 a1 v2873 v2874) then (
      bif ((o_ref01_Less_0 F a0 a1 v2873 v2874)) then (
        some (.v (.tuple #[.int .i64 (-9223372036854775808), .bool true])))
      else (
        bif (ok_ref01_Of F 9223372036854775807) then (
          let v2879 : Int := (o_ref01_Of_0 F 9223372036854775807)
          let v2880 : Int := (o_ref01_Of_1 F 9223372036854775807)
          bif (ok_ref01_Less F v2879 v2880 a0 a1) then (
            bif ((o_ref01_Less_0 F v2879 v2880 a0 a1)) then (
              some (.v (.tuple #[.int .i64 9223372036854775807, .bool true])))
            else (
              some (.v (.tuple #[.int .i64 ((IntKind.wrap .i64 a1)), .bool false]))))
          else (
            none))
        else (
          none)))
    else (
      none))
  else (
    none) : R) := by
    intros
    kernel_rfl
  exact (h ok_ref01_Of o_ref01_Of_0 o_ref01_Of_1 ok_ref01_Less o_ref01_Less_0).trans (by kernel_rfl)
def ok_ref01_Clip (F : Nat) (a0 : Int) (a1 : Int) : Bool := okT to_ref01_Clip (f_ref01_Clip F a0 a1)
def o_ref01_Clip_0 (F : Nat) (a0 : Int) (a1 : Int) : Int := atI (nth (outT to_ref01_Clip (f_ref01_Clip F a0 a1)) 0)
def o_ref01_Clip_1 (F : Nat) (a0 : Int) (a1 : Int) : Bool := atB (nth (outT to_ref01_Clip (f_ref01_Clip F a0 a1)) 1)
theorem k_ref01_Clip (F : Nat) (a0 : Int) (a1 : Int) {z0 : Int} {z1 : Bool} (h : f_ref01_Clip F a0 a1 = some (.v (.tuple #[.int .i64 z0, .bool z1]))) : ok_ref01_Clip F a0 a1 = true ∧ o_ref01_Clip_0 F a0 a1 = z0 ∧ o_ref01_Clip_1 F a0 a1 = z1 := by
  refine ⟨?_, ?_, ?_⟩
  · unfold ok_ref01_Clip; rw [h]; kernel_rfl
  · unfold o_ref01_Clip_0; rw [h]; kernel_rfl
  · unfold o_ref01_Clip_1; rw [h]; kernel_rfl
def s_ref01_Clip (F : Nat) : List VV → Option (Bool × VV) := spec ti_ref01_Clip to_ref01_Clip (fun q => (ok_ref01_Clip F (atI (nth q 0)) (atI (nth q 1)))) (fun q => [.i (o_ref01_Clip_0 F (atI (nth q 0)) (atI (nth q 1))), .b (o_ref01_Clip_1 F (atI (nth q 0)) (atI (nth q 1)))])
theorem hS_ref01_Clip (F : Nat) : ∀ f, Good PP f (unS (S_ref01_Clip F f)) := words_good fun p hp => by
  simp only [List.mem_cons, List.not_mem_nil, or_false] at hp
  rcases hp with rfl | rfl
  · exact g_ref01_Of F
  · exact g_ref01_Less F
theorem hl_ref01_Clip (F : Nat) : ∀ p ∈ loopsIn PP 41, LoopOK PP (S_ref01_Clip F) c_ref01_Clip F (I_ref01_Clip F) (J_ref01_Clip F) p :=
  loops_of [] (by kernel_rfl) all_nil
theorem hj_ref01_Clip (F : Nat) : ∀ p ∈ joinsIn PP c_ref01_Clip 41, JoinOK PP (S_ref01_Clip F) c_ref01_Clip (I_ref01_Clip F) (J_ref01_Clip F) p :=
  joins_of [] (by kernel_rfl) all_nil
theorem g_ref01_Clip (F : Nat) : Good PP 41 (unS (s_ref01_Clip F)) :=
  fun_spec (hS_ref01_Clip F) (by kernel_rfl) (by kernel_rfl) (C := c_ref01_Clip) (F := fun q => (f_ref01_Clip F (atI (nth q 0)) (atI (nth q 1)))) (fun _ => F) (fun _ => I_ref01_Clip F) (fun _ => J_ref01_Clip F) (fun _ => hl_ref01_Clip F) (fun _ => hj_ref01_Clip F)
    (fun q => (congrArg (funL PP (S_ref01_Clip F) c_ref01_Clip (I_ref01_Clip F) (J_ref01_Clip F) 41) (show (fTs ti_ref01_Clip q).1 = (fTs ti_ref01_Clip [.i (atI (nth q 0)), .i (atI (nth q 1))]).1 by kernel_rfl)).trans (e_ref01_Clip F (atI (nth q 0)) (atI (nth q 1))))
    (fun _ h => (okT_fill h).trans (congrArg some (by kernel_rfl)))

end Go.Xv
set_option linter.unusedVariables false
namespace Go.Xv
/- 88 _wide_Clip -/
def c_wide_Clip : Cfg := ⟨[0, 1, 2, 3, 4, 8, 14], [], [], []⟩
def ti_wide_Clip : List TV := [.v (.agg [.int .i64, .int .u64])]
def to_wide_Clip : TV := .v (.tup [.int .i64, .bool])
def S_wide_Clip (F : Nat) : FuncId → List VV → Option (Bool × VV) := words [(87, s_wide_Of F)]
def W_wide_Clip (F : Nat) : List LW := []
def I_wide_Clip (F : Nat) : Nat → VS → (Exit → VS → R) → R := tabI c_wide_Clip (W_wide_Clip F)
def WJ_wide_Clip (F : Nat) : List LJ := []
def J_wide_Clip (F : Nat) : Nat → Nat → VS → (Exit → VS → R) → R := tabJ (WJ_wide_Clip F)
def f_wide_Clip (F : Nat) (a0 : Int) (a1 : Int) : R :=
  let v157 : Int := (IntKind.wrap .i64 a1)
  bif (ok_wide_Of F v157) then (
    bif (((((o_wide_Of_0 F v157)) == a0) && (((o_wide_Of_1 F v157)) == a1))) then (
      some (.v (.tuple #[.int .i64 v157, .bool false])))
    else (
      bif ((decide (a0 < 0))) then (
        some (.v (.tuple #[.int .i64 (-9223372036854775808), .bool true])))
      else (
        some (.v (.tuple #[.int .i64 9223372036854775807, .bool true])))))
  else (
    none)
theorem e_wide_Clip (F : Nat) (a0 : Int) (a1 : Int) : funL PP (S_wide_Clip F) c_wide_Clip (I_wide_Clip F) (J_wide_Clip F) 88 (fTs ti_wide_Clip [.i a0, .i a1]).1 = f_wide_Clip F a0 a1 := by
  have h : ∀ (ok_wide_Of : Nat → Int → Bool) (o_wide_Of_0 : Nat → Int → Int) (o_wide_Of_1 : Nat → Int → Int), funL PP (words [(87, spec ti_wide_Of to_wide_Of (fun q => (ok_wide_Of F (atI (nth q 0)))) (fun q => [.i (o_wide_Of_0 F (atI (nth q 0))), .i (o_wide_Of_1 F (atI (nth q 0)))]))]) c_wide_Clip (tabI c_wide_Clip []) (tabJ []) 88 (fTs ti_wide_Clip [.i a0, .i a1]).1 = (
  let v157 : Int := (IntKind.wrap .i64 a1)
  bif (ok_wide_Of F v157) then (
    bif (((((o_wide_Of_0 F v157)) == a0) && (((o_wide_Of_1 F v157)) == a1))) then (
      some (.v (.tuple #[.int .i64 v157, .bool false])))
    else (
      bif ((decide (a0 < 0))) then (
        some (.v (.tuple #[.int .i64 (-9223372036854775808), .bool true])))
      else (
        some (.v (.tuple #[.int .i64 9223372036854775807, .bool true])))))
  else (
    none) : R) := by
    intros
    kernel_rfl
  exact (h ok_wide_Of o_wide_Of_0 o_wide_Of_1).trans (by kernel_rfl)
def ok_wide_Clip (F : Nat) (a0 : Int) (a1 : Int) : Bool := okT to_wide_Clip (f_wide_Clip F a0 a1)
def o_wide_Clip_0 (F : Nat) (a0 : Int) (a1 : Int) : Int := atI (nth (outT to_wide_Clip (f_wide_Clip F a0 a1)) 0)
def o_wide_Clip_1 (F : Nat) (a0 : Int) (a1 : Int) : Bool := atB (nth (outT to_wide_Clip (f_wide_Clip F a0 a1)) 1)
theorem k_wide_Clip (F : Nat) (a0 : Int) (a1 : Int) {z0 : Int} {z1 : Bool} (h : f_wide_Clip F a0 a1 = some (.v (.tuple #[.int .i64 z0, .bool z1]))) : ok_wide_Clip F a0 a1 = true ∧ o_wide_Clip_0 F a0 a1 = z0 ∧ o_wide_Clip_1 F a0 a1 = z1 := by
  refine ⟨?_, ?_, ?_⟩
  · unfold ok_wide_Clip; rw [h]; kernel_rfl
  · unfold o_wide_Clip_0; rw [h]; kernel_rfl
  · unfold o_wide_Clip_1; rw [h]; kernel_rfl
def s_wide_Clip (F : Nat) : List VV → Option (Bool × VV) := spec ti_wide_Clip to_wide_Clip (fun q => (ok_wide_Clip F (atI (nth q 0)) (atI (nth q 1)))) (fun q => [.i (o_wide_Clip_0 F (atI (nth q 0)) (atI (nth q 1))), .b (o_wide_Clip_1 F (atI (nth q 0)) (atI (nth q 1)))])
theorem hS_wide_Clip (F : Nat) : ∀ f, Good PP f (unS (S_wide_Clip F f)) := words_good fun p hp => by
  simp only [List.mem_cons, List.not_mem_nil, or_false] at hp
  rcases hp with rfl
  · exact g_wide_Of F
theorem hl_wide_Clip (F : Nat) : ∀ p ∈ loopsIn PP 88, LoopOK PP (S_wide_Clip F) c_wide_Clip F (I_wide_Clip F) (J_wide_Clip F) p :=
  loops_of [] (by kernel_rfl) all_nil
theorem hj_wide_Clip (F : Nat) : ∀ p ∈ joinsIn PP c_wide_Clip 88, JoinOK PP (S_wide_Clip F) c_wide_Clip (I_wide_Clip F) (J_wide_Clip F) p :=
  joins_of [] (by kernel_rfl) all_nil
theorem g_wide_Clip (F : Nat) : Good PP 88 (unS (s_wide_Clip F)) :=
  fun_spec (hS_wide_Clip F) (by kernel_rfl) (by kernel_rfl) (C := c_wide_Clip) (F := fun q => (f_wide_Clip F (atI (nth q 0)) (atI (nth q 1)))) (fun _ => F) (fun _ => I_wide_Clip F) (fun _ => J_wide_Clip F) (fun _ => hl_wide_Clip F) (fun _ => hj_wide_Clip F)
    (fun q => (congrArg (funL PP (S_wide_Clip F) c_wide_Clip (I_wide_Clip F) (J_wide_Clip F) 88) (show (fTs ti_wide_Clip q).1 = (fTs ti_wide_Clip [.i (atI (nth q 0)), .i (atI (nth q 1))]).1 by kernel_rfl)).trans (e_wide_Clip F (atI (nth q 0)) (atI (nth q 1))))
    (fun _ h => (okT_fill h).trans (congrArg some (by kernel_rfl)))

end Go.Xv
set_option linter.unusedVariables false
namespace Go.Xv
/- 59 _fix_Add -/
def c_fix_Add : Cfg := ⟨[0, 1, 4, 5, 6, 17, 20], [], [], []⟩
def ti_fix_Add : List TV := [.v (.int .i64), .v (.int .i64)]
def to_fix_Add : TV := .v (.tup [.int .i64, .bool])
def S_fix_Add (F : Nat) : FuncId → List VV → Option (Bool × VV) := words []
def W_fix_Add (F : Nat) : List LW := []
def I_fix_Add (F : Nat) : Nat → VS → (Exit → VS → R) → R := tabI c_fix_Add (W_fix_Add F)
def WJ_fix_Add (F : Nat) : List LJ := []
def J_fix_Add (F : Nat) : Nat → Nat → VS → (Exit → VS → R) → R := tabJ (WJ_fix_Add F)
def f_fix_Add (F : Nat) (a0 : Int) (a1 : Int) : R :=
  let v3199 : Int := (IntKind.wrap .i64 (a0 + a1))
  bif ((decide (((andI .i64 ((xorI .i64 a0 v3199)) ((xorI .i64 a1 v3199)))) ≥ 0))) then (
    some (.v (.tuple #[.int .i64 v3199, .bool false])))
  else (
    bif ((decide (a0 < 0))) then (
      some (.v (.tuple #[.int .i64 (-9223372036854775808), .bool true])))
    else (
      some (.v (.tuple #[.int .i64 9223372036854775807, .bool true]))))
theorem e_fix_Add (F : Nat) (a0 : Int) (a1 : Int) : funL PP (S_fix_Add F) c_fix_Add (I_fix_Add F) (J_fix_Add F) 59 (fTs ti_fix_Add [.i a0, .i a1]).1 = f_fix_Add F a0 a1 := by
  have h : ∀ (_ : Unit), funL PP (words []) c_fix_Add (tabI c_fix_Add []) (tabJ []) 59 (fTs ti_fix_Add [.i a0, .i a1]).1 = (
  let v3199 : Int := (IntKind.wrap .i64 (a0 + a1))
  bif ((decide (((andI .i64 ((xorI .i64 a0 v3199)) ((xorI .i64 a1 v3199)))) ≥ 0))) then (
    some (.v (.tuple #[.int .i64 v3199, .bool false])))
  else (
    bif ((decide (a0 < 0))) then (
      some (.v (.tuple #[.int .i64 (-9223372036854775808), .bool true])))
    else (
      some (.v (.tuple #[.int .i64 9223372036854775807, .bool true])))) : R) := by
    intros
    kernel_rfl
  exact (h ()).trans (by kernel_rfl)
def ok_fix_Add (F : Nat) (a0 : Int) (a1 : Int) : Bool := okT to_fix_Add (f_fix_Add F a0 a1)
def o_fix_Add_0 (F : Nat) (a0 : Int) (a1 : Int) : Int := atI (nth (outT to_fix_Add (f_fix_Add F a0 a1)) 0)
def o_fix_Add_1 (F : Nat) (a0 : Int) (a1 : Int) : Bool := atB (nth (outT to_fix_Add (f_fix_Add F a0 a1)) 1)
theorem k_fix_Add (F : Nat) (a0 : Int) (a1 : Int) {z0 : Int} {z1 : Bool} (h : f_fix_Add F a0 a1 = some (.v (.tuple #[.int .i64 z0, .bool z1]))) : ok_fix_Add F a0 a1 = true ∧ o_fix_Add_0 F a0 a1 = z0 ∧ o_fix_Add_1 F a0 a1 = z1 := by
  refine ⟨?_, ?_, ?_⟩
  · unfold ok_fix_Add; rw [h]; kernel_rfl
  · unfold o_fix_Add_0; rw [h]; kernel_rfl
  · unfold o_fix_Add_1; rw [h]; kernel_rfl
def s_fix_Add (F : Nat) : List VV → Option (Bool × VV) := spec ti_fix_Add to_fix_Add (fun q => (ok_fix_Add F (atI (nth q 0)) (atI (nth q 1)))) (fun q => [.i (o_fix_Add_0 F (atI (nth q 0)) (atI (nth q 1))), .b (o_fix_Add_1 F (atI (nth q 0)) (atI (nth q 1)))])
theorem hS_fix_Add (F : Nat) : ∀ f, Good PP f (unS (S_fix_Add F f)) := words_good fun p hp => by
  cases hp
theorem hl_fix_Add (F : Nat) : ∀ p ∈ loopsIn PP 59, LoopOK PP (S_fix_Add F) c_fix_Add F (I_fix_Add F) (J_fix_Add F) p :=
  loops_of [] (by kernel_rfl) all_nil
theorem hj_fix_Add (F : Nat) : ∀ p ∈ joinsIn PP c_fix_Add 59, JoinOK PP (S_fix_Add F) c_fix_Add (I_fix_Add F) (J_fix_Add F) p :=
  joins_of [] (by kernel_rfl) all_nil
theorem g_fix_Add (F : Nat) : Good PP 59 (unS (s_fix_Add F)) :=
  fun_spec (hS_fix_Add F) (by kernel_rfl) (by kernel_rfl) (C := c_fix_Add) (F := fun q => (f_fix_Add F (atI (nth q 0)) (atI (nth q 1)))) (fun _ => F) (fun _ => I_fix_Add F) (fun _ => J_fix_Add F) (fun _ => hl_fix_Add F) (fun _ => hj_fix_Add F)
    (fun q => (congrArg (funL PP (S_fix_Add F) c_fix_Add (I_fix_Add F) (J_fix_Add F) 59) (show (fTs ti_fix_Add q).1 = (fTs ti_fix_Add [.i (atI (nth q 0)), .i (atI (nth q 1))]).1 by kernel_rfl)).trans (e_fix_Add F (atI (nth q 0)) (atI (nth q 1))))
    (fun _ h => (okT_fill h).trans (congrArg some (by kernel_rfl)))

end Go.Xv
set_option linter.unusedVariables false
namespace Go.Xv
/- 58 _fix_Clamp -/
def c_fix_Clamp : Cfg := ⟨[0, 1, 2, 6, 7, 8, 11], [], [], []⟩
def ti_fix_Clamp : List TV := [.v (.int .i64), .v (.int .i64), .v (.int .i64)]
def to_fix_Clamp : TV := .v (.tup [.int .i64, .bool])
def S_fix_Clamp (F : Nat) : FuncId → List VV → Option (Bool × VV) := words []
def W_fix_Clamp (F : Nat) : List LW := []
def I_fix_Clamp (F : Nat) : Nat → VS → (Exit → VS → R) → R := tabI c_fix_Clamp (W_fix_Clamp F)
def WJ_fix_Clamp (F : Nat) : List LJ := []
def J_fix_Clamp (F : Nat) : Nat → Nat → VS → (Exit → VS → R) → R := tabJ (WJ_fix_Clamp F)
def f_fix_Clamp (F : Nat) (a0 : Int) (a1 : Int) (a2 : Int) : R :=
  bif ((decide (a2 < a1))) then (
    some (.v (.tuple #[.int .i64 a1, .bool true])))
  else (
    let v17 : Int := (if a1 > a0 then a1 else a0)
    let v18 : Int := (if a2 < v17 then a2 else v17)
    some (.v (.tuple #[.int .i64 v18, .bool ((v18 != a0))])))
theorem e_fix_Clamp (F : Nat) (a0 : Int) (a1 : Int) (a2 : Int) : funL PP (S_fix_Clamp F) c_fix_Clamp (I_fix_Clamp F) (J_fix_Clamp F) 58 (fTs ti_fix_Clamp [.i a0, .i a1, .i a2]).1 = f_fix_Clamp F a0 a1 a2 := by
  have h : ∀ (_ : Unit), funL PP (words []) c_fix_Clamp (tabI c_fix_Clamp []) (tabJ []) 58 (fTs ti_fix_Clamp [.i a0, .i a1, .i a2]).1 = (
  bif ((decide (a2 < a1))) then (
    some (.v (.tuple #[.int .i64 a1, .bool true])))
  else (
    let v17 : Int := (if a1 > a0 then a1 else a0)
    let v18 : Int := (if a2 < v17 then a2 else v17)
    some (.v (.tuple #[.int .i64 v18, .bool ((v18 != a0))]))) : R) := by
    intros
    kernel_rfl
  exact (h ()).trans (by kernel_rfl)
def ok_fix_Clamp (F : Nat) (a0 : Int) (a1 : Int) (a2 : Int) : Bool := okT to_fix_Clamp (f_fix_Clamp F a0 a1 a2)
def o_fix_Clamp_0 (F : Nat) (a0 : Int) (a1 : Int) (a2 : Int) : Int := atI (nth (outT to_fix_Clamp (f_fix_Clamp F a0 a1 a2)) 0)
def o_fix_Clamp_1 (F : Nat) (a0 : Int) (a1 : Int) (a2 : Int) : Bool := atB (nth (outT to_fix_Clamp (f_fix_Clamp F a0 a1 a2)) 1)
theorem k_fix_Clamp (F : Nat) (a0 : Int) (a1 : Int) (a2 : Int) {z0 : Int} {z1 : Bool} (h : f_fix_Clamp F a0 a1 a2 = some (.v (.tuple #[.int .i64 z0, .bool z1]))) : ok_fix_Clamp F a0 a1 a2 = true ∧ o_fix_Clamp_0 F a0 a1 a2 = z0 ∧ o_fix_Clamp_1 F a0 a1 a2 = z1 := by
  refine ⟨?_, ?_, ?_⟩
  · unfold ok_fix_Clamp; rw [h]; kernel_rfl
  · unfold o_fix_Clamp_0; rw [h]; kernel_rfl
  · unfold o_fix_Clamp_1; rw [h]; kernel_rfl
def s_fix_Clamp (F : Nat) : List VV → Option (Bool × VV) := spec ti_fix_Clamp to_fix_Clamp (fun q => (ok_fix_Clamp F (atI (nth q 0)) (atI (nth q 1)) (atI (nth q 2)))) (fun q => [.i (o_fix_Clamp_0 F (atI (nth q 0)) (atI (nth q 1)) (atI (nth q 2))), .b (o_fix_Clamp_1 F (atI (nth q 0)) (atI (nth q 1)) (atI (nth q 2)))])
theorem hS_fix_Clamp (F : Nat) : ∀ f, Good PP f (unS (S_fix_Clamp F f)) := words_good fun p hp => by
  cases hp
theorem hl_fix_Clamp (F : Nat) : ∀ p ∈ loopsIn PP 58, LoopOK PP (S_fix_Clamp F) c_fix_Clamp F (I_fix_Clamp F) (J_fix_Clamp F) p :=
  loops_of [] (by kernel_rfl) all_nil
theorem hj_fix_Clamp (F : Nat) : ∀ p ∈ joinsIn PP c_fix_Clamp 58, JoinOK PP (S_fix_Clamp F) c_fix_Clamp (I_fix_Clamp F) (J_fix_Clamp F) p :=
  joins_of [] (by kernel_rfl) all_nil
theorem g_fix_Clamp (F : Nat) : Good PP 58 (unS (s_fix_Clamp F)) :=
  fun_spec (hS_fix_Clamp F) (by kernel_rfl) (by kernel_rfl) (C := c_fix_Clamp) (F := fun q => (f_fix_Clamp F (atI (nth q 0)) (atI (nth q 1)) (atI (nth q 2)))) (fun _ => F) (fun _ => I_fix_Clamp F) (fun _ => J_fix_Clamp F) (fun _ => hl_fix_Clamp F) (fun _ => hj_fix_Clamp F)
    (fun q => (congrArg (funL PP (S_fix_Clamp F) c_fix_Clamp (I_fix_Clamp F) (J_fix_Clamp F) 58) (show (fTs ti_fix_Clamp q).1 = (fTs ti_fix_Clamp [.i (atI (nth q 0)), .i (atI (nth q 1)), .i (atI (nth q 2))]).1 by kernel_rfl)).trans (e_fix_Clamp F (atI (nth q 0)) (atI (nth q 1)) (atI (nth q 2))))
    (fun _ h => (okT_fill h).trans (congrArg some (by kernel_rfl)))

end Go.Xv
set_option linter.unusedVariables false
namespace Go.Xv
/- 68 _fix_clip -/
def c_fix_clip : Cfg := ⟨[0, 1, 2, 3, 4, 5], [], [], []⟩
def ti_fix_clip : List TV := [.v (.agg [.int .i64, .int .u64])]
def to_fix_clip : TV := .v (.tup [.int .i64, .bool])
def S_fix_clip (F : Nat) : FuncId → List VV → Option (Bool × VV) := words [(88, s_wide_Clip F)]
def W_fix_clip (F : Nat) : List LW := []
def I_fix_clip (F : Nat) : Nat → VS → (Exit → VS → R) → R := tabI c_fix_clip (W_fix_clip F)
def WJ_fix_clip (F : Nat) : List LJ := []
def J_fix_clip (F : Nat) : Nat → Nat → VS → (Exit → VS → R) → R := tabJ (WJ_fix_clip F)
def f_fix_clip (F : Nat) (a0 : Int) (a1 : Int) : R :=
  bif (ok_wide_Clip F a0 a1) then (
    some (.v (.tuple #[.int .i64 ((o_wide_Clip_0 F a0 a1)), .bool ((o_wide_Clip_1 F a0 a1))])))
  else (
    none)
theorem e_fix_clip (F : Nat) (a0 : Int) (a1 : Int) : funL PP (S_fix_clip F) c_fix_clip (I_fix_clip F) (J_fix_clip F) 68 (fTs ti_fix_clip [.i a0, .i a1]).1 = f_fix_clip F a0 a1 := by
  have h : ∀ (ok_wide_Clip : Nat → Int → Int → Bool) (o_wide_Clip_0 : Nat → Int → Int → Int) (o_wide_Clip_1 : Nat → Int → Int → Bool), funL PP (words [(88, spec ti_wide_Clip to_wide_Clip (fun q => (ok_wide_Clip F (atI (nth q 0)) (atI (nth q 1)))) (fun q => [.i (o_wide_Clip_0 F (atI (nth q 0)) (atI (nth q 1))), .b (o_wide_Clip_1 F (atI (nth q 0)) (atI (nth q 1)))]))]) c_fix_clip (tabI c_fix_clip []) (tabJ []) 68 (fTs ti_fix_clip [.i a0, .i a1]).1 = (
  bif (ok_wide_Clip F a0 a1) then (
    some (.v (.tuple #[.int .i64 ((o_wide_Clip_0 F a0 a1)), .bool ((o_wide_Clip_1 F a0 a1))])))
  else (
    none) : R) := by
    intros
    kernel_rfl
  exact (h ok_wide_Clip o_wide_Clip_0 o_wide_Clip_1).trans (by kernel_rfl)
def ok_fix_clip (F : Nat) (a0 : Int) (a1 : Int) : Bool := okT to_fix_clip (f_fix_clip F a0 a1)
def o_fix_clip_0 (F : Nat) (a0 : Int) (a1 : Int) : Int := atI (nth (outT to_fix_clip (f_fix_clip F a0 a1)) 0)
def o_fix_clip_1 (F : Nat) (a0 : Int) (a1 : Int) : Bool := atB (nth (outT to_fix_clip (f_fix_clip F a0 a1)) 1)
theorem k_fix_clip (F : Nat) (a0 : Int) (a1 : Int) {z0 : Int} {z1 : Bool} (h : f_fix_clip F a0 a1 = some (.v (.tuple #[.int .i64 z0, .bool z1]))) : ok_fix_clip F a0 a1 = true ∧ o_fix_clip_0 F a0 a1 = z0 ∧ o_fix_clip_1 F a0 a1 = z1 := by
  refine ⟨?_, ?_, ?_⟩
  · unfold ok_fix_clip; rw [h]; kernel_rfl
  · unfold o_fix_clip_0; rw [h]; kernel_rfl
  · unfold o_fix_clip_1; rw [h]; kernel_rfl
def s_fix_clip (F : Nat) : List VV → Option (Bool × VV) := spec ti_fix_clip to_fix_clip (fun q => (ok_fix_clip F (atI (nth q 0)) (atI (nth q 1)))) (fun q => [.i (o_fix_clip_0 F (atI (nth q 0)) (atI (nth q 1))), .b (o_fix_clip_1 F (atI (nth q 0)) (atI (nth q 1)))])
theorem hS_fix_clip (F : Nat) : ∀ f, Good PP f (unS (S_fix_clip F f)) := words_good fun p hp => by
  simp only [List.mem_cons, List.not_mem_nil, or_false] at hp
  rcases hp with rfl
  · exact g_wide_Clip F
theorem hl_fix_clip (F : Nat) : ∀ p ∈ loopsIn PP 68, LoopOK PP (S_fix_clip F) c_fix_clip F (I_fix_clip F) (J_fix_clip F) p :=
  loops_of [] (by kernel_rfl) all_nil
theorem hj_fix_clip (F : Nat) : ∀ p ∈ joinsIn PP c_fix_clip 68, JoinOK PP (S_fix_clip F) c_fix_clip (I_fix_clip F) (J_fix_clip F) p :=
  joins_of [] (by kernel_rfl) all_nil
theorem g_fix_clip (F : Nat) : Good PP 68 (unS (s_fix_clip F)) :=
  fun_spec (hS_fix_clip F) (by kernel_rfl) (by kernel_rfl) (C := c_fix_clip) (F := fun q => (f_fix_clip F (atI (nth q 0)) (atI (nth q 1)))) (fun _ => F) (fun _ => I_fix_clip F) (fun _ => J_fix_clip F) (fun _ => hl_fix_clip F) (fun _ => hj_fix_clip F)
    (fun q => (congrArg (funL PP (S_fix_clip F) c_fix_clip (I_fix_clip F) (J_fix_clip F) 68) (show (fTs ti_fix_clip q).1 = (fTs ti_fix_clip [.i (atI (nth q 0)), .i (atI (nth q 1))]).1 by kernel_rfl)).trans (e_fix_clip F (atI (nth q 0)) (atI (nth q 1))))
    (fun _ h => (okT_fill h).trans (congrArg some (by kernel_rfl)))

end Go.Xv
set_option linter.unusedVariables false
namespace Go.Xv
/- 67 _fix_of -/
def c_fix_of : Cfg := ⟨[0, 2], [], [], []⟩
def ti_fix_of : List TV := [.v (.int .i64)]
def to_fix_of : TV := .v (.agg [.int .i64, .int .u64])
def S_fix_of (F : Nat) : FuncId → List VV → Option (Bool × VV) := words [(87, s_wide_Of F)]
def W_fix_of (F : Nat) : List LW := []
def I_fix_of (F : Nat) : Nat → VS → (Exit → VS → R) → R := tabI c_fix_of (W_fix_of F)
def WJ_fix_of (F : Nat) : List LJ := []
def J_fix_of (F : Nat) : Nat → Nat → VS → (Exit → VS → R) → R := tabJ (WJ_fix_of F)
def f_fix_of (F : Nat) (a0 : Int) : R :=
  bif (ok_wide_Of F a0) then (
    some (.v (.agg #[.int .i64 ((o_wide_Of_0 F a0)), .int .u64 ((o_wide_Of_1 F a0))])))
  else (
    none)
theorem e_fix_of (F : Nat) (a0 : Int) : funL PP (S_fix_of F) c_fix_of (I_fix_of F) (J_fix_of F) 67 (fTs ti_fix_of [.i a0]).1 = f_fix_of F a0 := by
  have h : ∀ (ok_wide_Of : Nat → Int → Bool) (o_wide_Of_0 : Nat → Int → Int) (o_wide_Of_1 : Nat → Int → Int), funL PP (words [(87, spec ti_wide_Of to_wide_Of (fun q => (ok_wide_Of F (atI (nth q 0)))) (fun q => [.i (o_wide_Of_0 F (atI (nth q 0))), .i (o_wide_Of_1 F (atI (nth q 0)))]))]) c_fix_of (tabI c_fix_of []) (tabJ []) 67 (fTs ti_fix_of [.i a0]).1 = (
  bif (ok_wide_Of F a0) then (
    some (.v (.agg #[.int .i64 ((o_wide_Of_0 F a0)), .int .u64 ((o_wide_Of_1 F a0))])))
  else (
    none) : R) := by
    intros
    kernel_rfl
  exact (h ok_wide_Of o_wide_Of_0 o_wide_Of_1).trans (by kernel_rfl)
def ok_fix_of (F : Nat) (a0 : Int) : Bool := okT to_fix_of (f_fix_of F a0)
def o_fix_of_0 (F : Nat) (a0 : Int) : Int := atI (nth (outT to_fix_of (f_fix_of F a0)) 0)
def o_fix_of_1 (F : Nat) (a0 : Int) : Int := atI (nth (outT to_fix_of (f_fix_of F a0)) 1)
theorem k_fix_of (F : Nat) (a0 : Int) {z0 : Int} {z1 : Int} (h : f_fix_of F a0 = some (.v (.agg #[.int .i64 z0, .int .u64 z1]))) : ok_fix_of F a0 = true ∧ o_fix_of_0 F a0 = z0 ∧ o_fix_of_1 F a0 = z1 := by
  refine ⟨?_, ?_, ?_⟩
  · unfold ok_fix_of; rw [h]; kernel_rfl
  · unfold o_fix_of_0; rw [h]; kernel_rfl
  · unfold o_fix_of_1; rw [h]; kernel_rfl
def s_fix_of (F : Nat) : List VV → Option (Bool × VV) := spec ti_fix_of to_fix_of (fun q => (ok_fix_of F (atI (nth q 0)))) (fun q => [.i (o_fix_of_0 F (atI (nth q 0))), .i (o_fix_of_1 F (atI (nth q 0)))])
theorem hS_fix_of (F : Nat) : ∀ f, Good PP f (unS (S_fix_of F f)) := words_good fun p hp => by
  simp only [List.mem_cons, List.not_mem_nil, or_false] at hp
  rcases hp with rfl
  · exact g_wide_Of F
theorem hl_fix_of (F : Nat) : ∀ p ∈ loopsIn PP 67, LoopOK PP (S_fix_of F) c_fix_of F (I_fix_of F) (J_fix_of F) p :=
  loops_of [] (by kernel_rfl) all_nil
theorem hj_fix_of (F : Nat) : ∀ p ∈ joinsIn PP c_fix_of 67, JoinOK PP (S_fix_of F) c_fix_of (I_fix_of F) (J_fix_of F) p :=
  joins_of [] (by kernel_rfl) all_nil
theorem g_fix_of (F : Nat) : Good PP 67 (unS (s_fix_of F)) :=
  fun_spec (hS_fix_of F) (by kernel_rfl) (by kernel_rfl) (C := c_fix_of) (F := fun q => (f_fix_of F (atI (nth q 0)))) (fun _ => F) (fun _ => I_fix_of F) (fun _ => J_fix_of F) (fun _ => hl_fix_of F) (fun _ => hj_fix_of F)
    (fun q => (congrArg (funL PP (S_fix_of F) c_fix_of (I_fix_of F) (J_fix_of F) 67) (show (fTs ti_fix_of q).1 = (fTs ti_fix_of [.i (atI (nth q 0))]).1 by kernel_rfl)).trans (e_fix_of F (atI (nth q 0))))
    (fun _ h => (okT_fill h).trans (congrArg some (by kernel_rfl)))

end Go.Xv
set_option linter.unusedVariables false
namespace Go.Xv
/- 60 _ref02_clip -/
def c_ref02_clip : Cfg := ⟨[0, 1, 2, 3, 4, 5], [], [], []⟩
def ti_ref02_clip : List TV := [.v (.agg [.int .i64, .int .u64])]
def to_ref02_clip : TV := .v (.tup [.int .i64, .bool])
def S_ref02_clip (F : Nat) : FuncId → List VV → Option (Bool × VV) := words [(41, s_ref01_Clip F)]
def W_ref02_clip (F : Nat) : List LW := []
def I_ref02_clip (F : Nat) : Nat → VS → (Exit → VS → R) → R := tabI c_ref02_clip (W_ref02_clip F)
def WJ_ref02_clip (F : Nat) : List LJ := []
def J_ref02_clip (F : Nat) : Nat → Nat → VS → (Exit → VS → R) → R := tabJ (WJ_ref02_clip F)
def f_ref02_clip (F : Nat) (a0 : Int) (a1 : Int) : R :=
  bif (ok_ref01_Clip F a0 a1) then (
    some (.v (.tuple #[.int .i64 ((o_ref01_Clip_0 F a0 a1)), .bool ((o_ref01_Clip_1 F a0 a1))])))
  else (
    none)
theorem e_ref02_clip (F : Nat) (a0 : Int) (a1 : Int) : funL PP (S_ref02_clip F) c_ref02_clip (I_ref02_clip F) (J_ref02_clip F) 60 (fTs ti_ref02_clip [.i a0, .i a1]).1 = f_ref02_clip F a0 a1 := by
  have h : ∀ (ok_ref01_Clip : Nat → Int → Int → Bool) (o_ref01_Clip_0 : Nat → Int → Int → Int) (o_ref01_Clip_1 : Nat → Int → Int → Bool), funL PP (words [(41, spec ti_ref01_Clip to_ref01_Clip (fun q => (ok_ref01_Clip F (atI (nth q 0)) (atI (nth q 1)))) (fun q => [.i (o_ref01_Clip_0 F (atI (nth q 0)) (atI (nth q 1))), .b (o_ref01_Clip_1 F (atI (nth q 0)) (atI (nth q 1)))]))]) c_ref02_clip (tabI c_ref02_clip []) (tabJ []) 60 (fTs ti_ref02_clip [.i a0, .i a1]).1 = (
  bif (ok_ref01_Clip F a0 a1) then (
    some (.v (.tuple #[.int .i64 ((o_ref01_Clip_0 F a0 a1)), .bool ((o_ref01_Clip_1 F a0 a1))])))
  else (
    none) : R) := by
    intros
    kernel_rfl
  exact (h ok_ref01_Clip o_ref01_Clip_0 o_ref01_Clip_1).trans (by kernel_rfl)
def ok_ref02_clip (F : Nat) (a0 : Int) (a1 : Int) : Bool := okT to_ref02_clip (f_ref02_clip F a0 a1)
def o_ref02_clip_0 (F : Nat) (a0 : Int) (a1 : Int) : Int := atI (nth (outT to_ref02_clip (f_ref02_clip F a0 a1)) 0)
def o_ref02_clip_1 (F : Nat) (a0 : Int) (a1 : Int) : Bool := atB (nth (outT to_ref02_clip (f_ref02_clip F a0 a1)) 1)
theorem k_ref02_clip (F : Nat) (a0 : Int) (a1 : Int) {z0 : Int} {z1 : Bool} (h : f_ref02_clip F a0 a1 = some (.v (.tuple #[.int .i64 z0, .bool z1]))) : ok_ref02_clip F a0 a1 = true ∧ o_ref02_clip_0 F a0 a1 = z0 ∧ o_ref02_clip_1 F a0 a1 = z1 := by
  refine ⟨?_, ?_, ?_⟩
  · unfold ok_ref02_clip; rw [h]; kernel_rfl
  · unfold o_ref02_clip_0; rw [h]; kernel_rfl
  · unfold o_ref02_clip_1; rw [h]; kernel_rfl
def s_ref02_clip (F : Nat) : List VV → Option (Bool × VV) := spec ti_ref02_clip to_ref02_clip (fun q => (ok_ref02_clip F (atI (nth q 0)) (atI (nth q 1)))) (fun q => [.i (o_ref02_clip_0 F (atI (nth q 0)) (atI (nth q 1))), .b (o_ref02_clip_1 F (atI (nth q 0)) (atI (nth q 1)))])
theorem hS_ref02_clip (F : Nat) : ∀ f, Good PP f (unS (S_ref02_clip F f)) := words_good fun p hp => by
  simp only [List.mem_cons, List.not_mem_nil, or_false] at hp
  rcases hp with rfl
  · exact g_ref01_Clip F
theorem hl_ref02_clip (F : Nat) : ∀ p ∈ loopsIn PP 60, LoopOK PP (S_ref02_clip F) c_ref02_clip F (I_ref02_clip F) (J_ref02_clip F) p :=
  loops_of [] (by kernel_rfl) all_nil
theorem hj_ref02_clip (F : Nat) : ∀ p ∈ joinsIn PP c_ref02_clip 60, JoinOK PP (S_ref02_clip F) c_ref02_clip (I_ref02_clip F) (J_ref02_clip F) p :=
  joins_of [] (by kernel_rfl) all_nil
theorem g_ref02_clip (F : Nat) : Good PP 60 (unS (s_ref02_clip F)) :=
  fun_spec (hS_ref02_clip F) (by kernel_rfl) (by kernel_rfl) (C := c_ref02_clip) (F := fun q => (f_ref02_clip F (atI (nth q 0)) (atI (nth q 1)))) (fun _ => F) (fun _ => I_ref02_clip F) (fun _ => J_ref02_clip F) (fun _ => hl_ref02_clip F) (fun _ => hj_ref02_clip F)
    (fun q => (congrArg (funL PP (S_ref02_clip F) c_ref02_clip (I_ref02_clip F) (J_ref02_clip F) 60) (show (fTs ti_ref02_clip q).1 = (fTs ti_ref02_clip [.i (atI (nth q 0)), .i (atI (nth q 1))]).1 by kernel_rfl)).trans (e_ref02_clip F (atI (nth q 0)) (atI (nth q 1))))
    (fun _ h => (okT_fill h).trans (congrArg some (by kernel_rfl)))

end Go.Xv
set_option linter.unusedVariables false
namespace Go.Xv
/- 36 _ref02_Add -/
def c_ref02_Add : Cfg := ⟨[0, 1, 4, 5], [], [7, 9, 10], []⟩
def ti_ref02_Add : List TV := [.v (.int .i64), .v (.int .i64)]
def to_ref02_Add : TV := .v (.tup [.int .i64, .bool])
def S_ref02_Add (F : Nat) : FuncId → List VV → Option (Bool × VV) := words [(61, s_ref01_Of F), (63, s_ref01_Add F), (60, s_ref02_clip F)]
def W_ref02_Add (F : Nat) : List LW := []
def I_ref02_Add (F : Nat) : Nat → VS → (Exit → VS → R) → R := tabI c_ref02_Add (W_ref02_Add F)
def WJ_ref02_Add (F : Nat) : List LJ := []
def J_ref02_Add (F : Nat) : Nat → Nat → VS → (Exit → VS → R) → R := tabJ (WJ_ref02_Add F)
def f_ref02_Add (F : Nat) (a0 : Int) (a1 : Int) : R :=
  bif (ok_ref01_Of F a0) then (
    let v3556 : Int := (o_ref01_Of_0 F a0)
    let v3557 : Int := (o_ref01_Of_1 F a0)
    bif (ok_ref01_Of F a1) then (
      let v3558 : Int := (o_ref01_Of_0 F a1)
      let v3559 : Int := (o_ref01_Of_1 F a1)
      bif (ok_ref01_Add F v3556 v3557 v3558 v3559) then (
        let v3560 : Int := (o_ref01_Add_0 F v3556 v3557 v3558 v3559)
        let v3561 : Int := (o_ref01_Add_1 F v3556 v3557 v3558 v3559)
        bif (ok_ref02_clip F v3560 v3561) then (
          some (.v (.tuple #[.int .i64 ((o_ref02_clip_0 F v3560 v3561)), .bool ((o_ref02_clip_1 F v3560 v3561))])))
        else (
          none))
      else (
        none))
    else (
      none))
  else (
    none)
theorem e_ref02_Add (F : Nat) (a0 : Int) (a1 : Int) : funL PP (S_ref02_Add F) c_ref02_Add (I_ref02_Add F) (J_ref02_Add F) 36 (fTs ti_ref02_Add [.i a0, .i a1]).1 = f_ref02_Add F a0 a1 := by
  have h : ∀ (ok_ref01_Of : Nat → Int → Bool) (o_ref01_Of_0 : Nat → Int → Int) (o_ref01_Of_1 : Nat → Int → Int) (ok_ref01_Add : Nat → Int → Int → Int → Int → Bool) (o_ref01_Add_0 : Nat → Int → Int → Int → Int → Int) (o_ref01_Add_1 : Nat → Int → Int → Int → Int → Int) (ok_ref02_clip : Nat → Int → Int → Bool) (o_ref02_clip_0 : Nat → Int → Int → Int) (o_ref02_clip_1 : Nat → Int → Int → Bool), funL PP (words [(61, spec ti_ref01_Of to_ref01_Of (fun q => (ok_ref01_Of F (atI (nth q 0)))) (fun q => [.i (o_ref01_Of_0 F (atI (nth q 0))), .i (o_ref01_Of_1 F (atI (nth q 0)))])), (63, spec ti_ref01_Add to_ref01_Add (fun q => (ok_ref01_Add F (atI (nth q 0)) (atI (nth q 1)) (atI (nth q 2)) (atI (nth q 3)))) (fun q => [.i (o_ref01_Add_0 F (atI (nth q 0)) (atI (nth q 1)) (atI (nth q 2)) (atI (nth q 3))), .i (o_ref01_Add_1 F (atI (nth q 0)) (atI (nth q 1)) (atI (nth q 2)) (atI (nth q 3)))])), (60, spec ti_ref02_clip to_ref02_clip (fun q => (ok_ref02_clip F (atI (nth q 0)) (atI (nth q 1)))) (fun q => [.i (o_ref02_clip_0 F (atI (nth q 0)) (atI (nth q 1))), .b (o_ref02_clip_1 F (atI (nth q 0)) (atI (nth q 1)))]))]) c_ref02_Add (tabI c_ref02_Add []) (tabJ []) 36 (fTs ti_ref02_Add [.i a0, .i a1]).1 = (
  bif (ok_ref01_Of F a0) then (
    let v3556 : Int := (o_ref01_Of_0 F a0)
    let v3557 : Int := (o_ref01_Of_1 F a0)
    bif (ok_ref01_Of F a1) then (
      let v3558 : Int := (o_ref01_Of_0 F a1)
      let v3559 : Int := (o_ref01_Of_1 F a1)
      bif (ok_ref01_Add F v3556 v3557 v3558 v3559) then (
        let v3560 : Int := (o_ref01_Add_0 F v3556 v3557 v3558 v3559)
        let v3561 : Int := (o_ref01_Add_1 F v3556 v3557 v3558 v3559)
        bif (ok_ref02_clip F v3560 v3561) then (
          some (.v (.tuple #[.int .i64 ((o_ref02_clip_0 F v3560 v3561)), .bool ((o_ref02_clip_1 F v3560 v3561))])))
        else (
          none))
      else (
        none))
    else (
      none))
  else (
    none) : R) := by
    intros
    kernel_rfl
  exact (h ok_ref01_Of o_ref01_Of_0 o_ref01_Of_1 ok_ref01_Add o_ref01_Add_0 o_ref01_Add_1 ok_ref02_clip o_ref02_clip_0 o_ref02_clip_1).trans (by kernel_rfl)
def ok_ref02_Add (F : Nat) (a0 : Int) (a1 : Int) : Bool := okT to_ref02_Add (f_ref02_Add F a0 a1)
def o_ref02_Add_0 (F : Nat) (a0 : Int) (a1 : Int) : Int := atI (nth (outT to_ref02_Add (f_ref02_Add F a0 a1)) 0)
def o_ref02_Add_1 (F : Nat) (a0 : Int) (a1 : Int) : Bool := atB (nth (outT to_ref02_Add (f_ref02_Add F a0 a1)) 1)
theorem k_ref02_Add (F : Nat) (a0 : Int) (a1 : Int) {z0 : Int} {z1 : Bool} (h : f_ref02_Add F a0 a1 = some (.v (.tuple #[.int .i64 z0, .bool z1]))) : ok_ref02_Add F a0 a1 = true ∧ o_ref02_Add_0 F a0 a1 = z0 ∧ o_ref02_Add_1 F a0 a1 = z1 := by
  refine ⟨?_, ?_, ?_⟩
  · unfold ok_ref02_Add; rw [h]; kernel_rfl
  · unfold o_ref02_Add_0; rw [h]; kernel_rfl
  · unfold o_ref02_Add_1; rw [h]; kernel_rfl
def s_ref02_Add (F : Nat) : List VV → Option (Bool × VV) := spec ti_ref02_Add to_ref02_Add (fun q => (ok_ref02_Add F (atI (nth q 0)) (atI (nth q 1)))) (fun q => [.i (o_ref02_Add_0 F (atI (nth q 0)) (atI (nth q 1))), .b (o_ref02_Add_1 F (atI (nth q 0)) (atI (nth q 1)))])
theorem hS_ref02_Add (F : Nat) : ∀ f, Good PP f (unS (S_ref02_Add F f)) := words_good fun p hp => by
  simp only [List.mem_cons, List.not_mem_nil, or_false] at hp
  rcases hp with rfl | rfl | rfl
  · exact g_ref01_Of F
  · exact g_ref01_Add F
  · exact g_ref02_clip F
theorem hl_ref02_Add (F : Nat) : ∀ p ∈ loopsIn PP 36, LoopOK PP (S_ref02_Add F) c_ref02_Add F (I_ref02_Add F) (J_ref02_Add F) p :=
  loops_of [] (by kernel_rfl) all_nil
theorem hj_ref02_Add (F : Nat) : ∀ p ∈ joinsIn PP c_ref02_Add 36, JoinOK PP (S_ref02_Add F) c_ref02_Add (I_ref02_Add F) (J_ref02_Add F) p :=
  joins_of [] (by kernel_rfl) all_nil
theorem g_ref02_Add (F : Nat) : Good PP 36 (unS (s_ref02_Add F)) :=
  fun_spec (hS_ref02_Add F) (by kernel_rfl) (by kernel_rfl) (C := c_ref02_Add) (F := fun q => (f_ref02_Add F (atI (nth q 0)) (atI (nth q 1)))) (fun _ => F) (fun _ => I_ref02_Add F) (fun _ => J_ref02_Add F) (fun _ => hl_ref02_Add F) (fun _ => hj_ref02_Add F)
    (fun q => (congrArg (funL PP (S_ref02_Add F) c_ref02_Add (I_ref02_Add F) (J_ref02_Add F) 36) (show (fTs ti_ref02_Add q).1 = (fTs ti_ref02_Add [.i (atI (nth q 0)), .i (atI (nth q 1))]).1 by kernel_rfl)).trans (e_ref02_Add F (atI (nth q 0)) (atI (nth q 1))))
    (fun _ h => (okT_fill h).trans (congrArg some (by kernel_rfl)))

end Go.Xv
set_option linter.unusedVariables false
namespace Go.Xv
/- 65 _vec_Clamp_1 -/
def c_vec_Clamp_1 : Cfg := ⟨[0, 1, 2, 4, 5], [], [], []⟩
def ti_vec_Clamp_1 : List TV := [.v (.int .i64), .fpx [.v (.int .i64), .v (.int .i64), .v (.int .i64)] (.lit 0), .fpx [.v (.int .i64)] (.lit 0)]
def to_vec_Clamp_1 : TV := .v (.tup [.int .i64, .bool])
def S_vec_Clamp_1 (F : Nat) : FuncId → List VV → Option (Bool × VV) := words [(58, s_fix_Clamp F)]
def W_vec_Clamp_1 (F : Nat) : List LW := []
def I_vec_Clamp_1 (F : Nat) : Nat → VS → (Exit → VS → R) → R := tabI c_vec_Clamp_1 (W_vec_Clamp_1 F)
def WJ_vec_Clamp_1 (F : Nat) : List LJ := []
def J_vec_Clamp_1 (F : Nat) : Nat → Nat → VS → (Exit → VS → R) → R := tabJ (WJ_vec_Clamp_1 F)
def f_vec_Clamp_1 (F : Nat) (a0 : Int) (a1 : Int) (a2 : Int) (a3 : Int) (a4 : Int) : R :=
  bif ((decide (0 ≤ a0)) && (decide (a0 < 3))) then (
    let v13 : Nat := (0 + ((Int.toNat a0) * 1))
    bif ((isI .i64 [.v (.int .i64 a1), .v (.int .i64 a2), .v (.int .i64 a3)][v13]?) && true) then (
      let v14 : Int := (iv [.v (.int .i64 a1), .v (.int .i64 a2), .v (.int .i64 a3)][v13]?)
      let v15 : Int := (IntKind.wrap .i64 (0 - a4))
      bif (ok_fix_Clamp F v14 v15 a4) then (
        some (.v (.tuple #[.int .i64 ((o_fix_Clamp_0 F v14 v15 a4)), .bool ((o_fix_Clamp_1 F v14 v15 a4))])))
      else (
        none))
    else (
      none))
  else (
    none)
theorem e_vec_Clamp_1 (F : Nat) (a0 : Int) (a1 : Int) (a2 : Int) (a3 : Int) (a4 : Int) : funL PP (S_vec_Clamp_1 F) c_vec_Clamp_1 (I_vec_Clamp_1 F) (J_vec_Clamp_1 F) 65 (fTs ti_vec_Clamp_1 [.i a0, .i a1, .i a2, .i a3, .i a4]).1 = f_vec_Clamp_1 F a0 a1 a2 a3 a4 := by
  have h : ∀ (ok_fix_Clamp : Nat → Int → Int → Int → Bool) (o_fix_Clamp_0 : Nat → Int → Int → Int → Int) (o_fix_Clamp_1 : Nat → Int → Int → Int → Bool), funL PP (words [(58, spec ti_fix_Clamp to_fix_Clamp (fun q => (ok_fix_Clamp F (atI (nth q 0)) (atI (nth q 1)) (atI (nth q 2)))) (fun q => [.i (o_fix_Clamp_0 F (atI (nth q 0)) (atI (nth q 1)) (atI (nth q 2))), .b (o_fix_Clamp_1 F (atI (nth q 0)) (atI (nth q 1)) (atI (nth q 2)))]))]) c_vec_Clamp_1 (tabI c_vec_Clamp_1 []) (tabJ []) 65 (fTs ti_vec_Clamp_1 [.i a0, .i a1, .i a2, .i a3, .i a4]).1 = (
  bif ((decide (0 ≤ a0)) && (decide (a0 < 3))) then (
    let v13 : Nat := (0 + ((Int.toNat a0) * 1))
    bif ((isI .i64 [.v (.int .i64 a1), .v (.int .i64 a2), .v (.int .i64 a3)][v13]?) && true) then (
      let v14 : Int := (iv [.v (.int .i64 a1), .v (.int .i64 a2), .v (.int .i64 a3)][v13]?)
      let v15 : Int := (IntKind.wrap .i64 (0 - a4))
      bif (ok_fix_Clamp F v14 v15 a4) then (
        some (.v (.tuple #[.int .i64 ((o_fix_Clamp_0 F v14 v15 a4)), .bool ((o_fix_Clamp_1 F v14 v15 a4))])))
      else (
        none))
    else (
      none))
  else (
    none) : R) := by
    intros
    kernel_rfl
  exact (h ok_fix_Clamp o_fix_Clamp_0 o_fix_Clamp_1).trans (by kernel_rfl)
def ok_vec_Clamp_1 (F : Nat) (a0 : Int) (a1 : Int) (a2 : Int) (a3 : Int) (a4 : Int) : Bool := okT to_vec_Clamp_1 (f_vec_Clamp_1 F a0 a1 a2 a3 a4)
def o_vec_Clamp_1_0 (F : Nat) (a0 : Int) (a1 : Int) (a2 : Int) (a3 : Int) (a4 : Int) : Int := atI (nth (outT to_vec_Clamp_1 (f_vec_Clamp_1 F a0 a1 a2 a3 a4)) 0)
def o_vec_Clamp_1_1 (F : Nat) (a0 : Int) (a1 : Int) (a2 : Int) (a3 : Int) (a4 : Int) : Bool := atB (nth (outT to_vec_Clamp_1 (f_vec_Clamp_1 F a0 a1 a2 a3 a4)) 1)
theorem k_vec_Clamp_1 (F : Nat) (a0 : Int) (a1 : Int) (a2 : Int) (a3 : Int) (a4 : Int) {z0 : Int} {z1 : Bool} (h : f_vec_Clamp_1 F a0 a1 a2 a3 a4 = some (.v (.tuple #[.int .i64 z0, .bool z1]))) : ok_vec_Clamp_1 F a0 a1 a2 a3 a4 = true ∧ o_vec_Clamp_1_0 F a0 a1 a2 a3 a4 = z0 ∧ o_vec_Clamp_1_1 F a0 a1 a2 a3 a4 = z1 := by
  refine ⟨?_, ?_, ?_⟩
  · unfold ok_vec_Clamp_1; rw [h]; kernel_rfl
  · unfold o_vec_Clamp_1_0; rw [h]; kernel_rfl
  · unfold o_vec_Clamp_1_1; rw [h]; kernel_rfl
def s_vec_Clamp_1 (F : Nat) : List VV → Option (Bool × VV) := spec ti_vec_Clamp_1 to_vec_Clamp_1 (fun q => (ok_vec_Clamp_1 F (atI (nth q 0)) (atI (nth q 1)) (atI (nth q 2)) (atI (nth q 3)) (atI (nth q 4)))) (fun q => [.i (o_vec_Clamp_1_0 F (atI (nth q 0)) (atI (nth q 1)) (atI (nth q 2)) (atI (nth q 3)) (atI (nth q 4))), .b (o_vec_Clamp_1_1 F (atI (nth q 0)) (atI (nth q 1)) (atI (nth q 2)) (atI (nth q 3)) (atI (nth q 4)))])
theorem hS_vec_Clamp_1 (F : Nat) : ∀ f, Good PP f (unS (S_vec_Clamp_1 F f)) := words_good fun p hp => by
  simp only [List.mem_cons, List.not_mem_nil, or_false] at hp
  rcases hp with rfl
  · exact g_fix_Clamp F
theorem hl_vec_Clamp_1 (F : Nat) : ∀ p ∈ loopsIn PP 65, LoopOK PP (S_vec_Clamp_1 F) c_vec_Clamp_1 F (I_vec_Clamp_1 F) (J_vec_Clamp_1 F) p :=
  loops_of [] (by kernel_rfl) all_nil
theorem hj_vec_Clamp_1 (F : Nat) : ∀ p ∈ joinsIn PP c_vec_Clamp_1 65, JoinOK PP (S_vec_Clamp_1 F) c_vec_Clamp_1 (I_vec_Clamp_1 F) (J_vec_Clamp_1 F) p :=
  joins_of [] (by kernel_rfl) all_nil
theorem g_vec_Clamp_1 (F : Nat) : Good PP 65 (unS (s_vec_Clamp_1 F)) :=
  fun_spec (hS_vec_Clamp_1 F) (by kernel_rfl) (by kernel_rfl) (C := c_vec_Clamp_1) (F := fun q => (f_vec_Clamp_1 F (atI (nth q 0)) (atI (nth q 1)) (atI (nth q 2)) (atI (nth q 3)) (atI (nth q 4)))) (fun _ => F) (fun _ => I_vec_Clamp_1 F) (fun _ => J_vec_Clamp_1 F) (fun _ => hl_vec_Clamp_1 F) (fun _ => hj_vec_Clamp_1 F)
    (fun q => (congrArg (funL PP (S_vec_Clamp_1 F) c_vec_Clamp_1 (I_vec_Clamp_1 F) (J_vec_Clamp_1 F) 65) (show (fTs ti_vec_Clamp_1 q).1 = (fTs ti_vec_Clamp_1 [.i (atI (nth q 0)), .i (atI (nth q 1)), .i (atI (nth q 2)), .i (atI (nth q 3)), .i (atI (nth q 4))]).1 by kernel_rfl)).trans (e_vec_Clamp_1 F (atI (nth q 0)) (atI (nth q 1)) (atI (nth q 2)) (atI (nth q 3)) (atI (nth q 4))))
    (fun _ h => (okT_fill h).trans (congrArg some (by kernel_rfl)))

end Go.Xv
set_option linter.unusedVariables false
namespace Go.Xv
/- 64 _vec_each -/
def c_vec_each : Cfg := ⟨[0, 2, 3, 4, 5, 6, 7, 8, 9, 10], [(0, [0, 2, 3, 4, 5, 9, 26, 27])], [], []⟩
def ti_vec_each : List TV := [.fn 65 [.fpx [.v (.int .i64), .v (.int .i64), .v (.int .i64)] (.lit 0), .fpx [.v (.int .i64)] (.lit 0)]]
def to_vec_each : TV := .v (.tup [.agg [.int .i64, .int .i64, .int .i64], .bool])
def S_vec_each (F : Nat) : FuncId → List VV → Option (Bool × VV) := words [(65, s_vec_Clamp_1 F)]
def T_vec_each_0 : TS := ⟨[(0, .fn 65 [.fpx [.v (.int .i64), .v (.int .i64), .v (.int .i64)] (.lit 0), .fpx [.v (.int .i64)] (.lit 0)]), (2, .lp 0 (.lit 0)), (3, .v (.bool)), (4, .lp 1 (.lit 0)), (5, .v (.bool)), (9, .v (.int .i64))], [(0, ⟨(.ex [.v (.int .i64), .v (.int .i64), .v (.int .i64)]), true⟩), (1, ⟨.hole, true⟩)], 2⟩
def T_vec_each_0_0 : TS := ⟨[(0, .fn 65 [.fpx [.v (.int .i64), .v (.int .i64), .v (.int .i64)] (.lit 0), .fpx [.v (.int .i64)] (.lit 0)]), (2, .lp 0 (.lit 0)), (3, .v (.bool)), (4, .lp 1 (.lit 0)), (5, .v (.bool)), (9, .v (.int .i64))], [(0, ⟨(.ex [.v (.int .i64), .v (.int .i64), .v (.int .i64)]), true⟩), (1, ⟨.hole, true⟩)], 2⟩
def B_vec_each_0 (F : Nat) (rc : Int → Int → Int → Int → Bool → Bool → Int → Int → Int → Int → List VV → R) (ex0 : Int → Int → Int → Int → Bool → Bool → Int → Int → Int → Int → List VV → R) (x0 : Int) (x1 : Int) (x2 : Int) (x3 : Int) (x4 : Bool) (x5 : Bool) (x6 : Int) (x7 : Int) (x8 : Int) (x9 : Int) (x10 : List VV) : R :=
  bif ((decide (x6 < 3))) then (
    bif (ok_vec_Clamp_1 F x6 x0 x1 x2 x3) then (
      let v22 : Int := (o_vec_Clamp_1_0 F x6 x0 x1 x2 x3)
      bif x5 then (
        bif ((decide (0 ≤ x6)) && (decide (x6 < 3))) then (
          let v24 : Nat := (0 + ((Int.toNat x6) * 1))
          bif (decide ((v24 + 1) ≤ x10.length)) then (
            rc x0 x1 x2 x3 x4 true ((IntKind.wrap .i64 (x6 + 1))) x7 x8 x9 ((x10.take v24 ++ [.v (.int .i64 v22)] ++ x10.drop (v24 + 1))))
          else (
            none))
        else (
          none))
      else (
        bif ((decide (0 ≤ x6)) && (decide (x6 < 3))) then (
          let v27 : Nat := (0 + ((Int.toNat x6) * 1))
          bif (decide ((v27 + 1) ≤ x10.length)) then (
            rc x0 x1 x2 x3 x4 ((o_vec_Clamp_1_1 F x6 x0 x1 x2 x3)) ((IntKind.wrap .i64 (x6 + 1))) x7 x8 x9 ((x10.take v27 ++ [.v (.int .i64 v22)] ++ x10.drop (v27 + 1))))
          else (
            none))
        else (
          none)))
    else (
      none))
  else (
    ex0 x0 x1 x2 x3 x4 x5 x6 x7 x8 x9 x10)
def L_vec_each_0 (F : Nat) (ex0 : Int → Int → Int → Int → Bool → Bool → Int → Int → Int → Int → List VV → R) : Nat → Int → Int → Int → Int → Bool → Bool → Int → Int → Int → Int → List VV → R
  | 0, _, _, _, _, _, _, _, _, _, _, _ => none
  | n + 1, x0, x1, x2, x3, x4, x5, x6, x7, x8, x9, x10 => B_vec_each_0 F (L_vec_each_0 F ex0 n) ex0 x0 x1 x2 x3 x4 x5 x6 x7 x8 x9 x10
def W_vec_each (F : Nat) : List LW := [⟨0, T_vec_each_0, fun k q => L_vec_each_0 F (fun (z0 : Int) (z1 : Int) (z2 : Int) (z3 : Int) (z4 : Bool) (z5 : Bool) (z6 : Int) (z7 : Int) (z8 : Int) (z9 : Int) (z10 : List VV) => k (.exit 0) (fS T_vec_each_0_0 [.i z0, .i z1, .i z2, .i z3, .b z4, .b z5, .i z6, .i z7, .i z8, .i z9, .c z10])) F (atI (nth q 0)) (atI (nth q 1)) (atI (nth q 2)) (atI (nth q 3)) (atB (nth q 4)) (atB (nth q 5)) (atI (nth q 6)) (atI (nth q 7)) (atI (nth q 8)) (atI (nth q 9)) (atC (nth q 10))⟩]
def I_vec_each (F : Nat) : Nat → VS → (Exit → VS → R) → R := tabI c_vec_each (W_vec_each F)
def WJ_vec_each (F : Nat) : List LJ := []
def J_vec_each (F : Nat) : Nat → Nat → VS → (Exit → VS → R) → R := tabJ (WJ_vec_each F)
theorem lL_vec_each_0 (F : Nat) (k : Exit → VS → R) : ∀ (n : Nat) (x0 : Int) (x1 : Int) (x2 : Int) (x3 : Int) (x4 : Bool) (x5 : Bool) (x6 : Int) (x7 : Int) (x8 : Int) (x9 : Int) (x10 : List VV), iterC (codeL PP (S_vec_each F) c_vec_each (I_vec_each F) (J_vec_each F) (loopAt PP 64 0) 0) (headOf c_vec_each 0) k n (fS T_vec_each_0 [.i x0, .i x1, .i x2, .i x3, .b x4, .b x5, .i x6, .i x7, .i x8, .i x9, .c x10]) = L_vec_each_0 F (fun (z0 : Int) (z1 : Int) (z2 : Int) (z3 : Int) (z4 : Bool) (z5 : Bool) (z6 : Int) (z7 : Int) (z8 : Int) (z9 : Int) (z10 : List VV) => k (.exit 0) (fS T_vec_each_0_0 [.i z0, .i z1, .i z2, .i z3, .b z4, .b z5, .i z6, .i z7, .i z8, .i z9, .c z10])) n x0 x1 x2 x3 x4 x5 x6 x7 x8 x9 x10
  | 0, _, _, _, _, _, _, _, _, _, _, _ => rfl
  | n + 1, x0, x1, x2, x3, x4, x5, x6, x7, x8, x9, x10 => by
    have h0 : ∀ (ok_vec_Clamp_1 : Nat → Int → Int → Int → Int → Int → Bool) (o_vec_Clamp_1_0 : Nat → Int → Int → Int → Int → Int → Int) (o_vec_Clamp_1_1 : Nat → Int → Int → Int → Int → Int → Bool) (L_vec_each_0 : Nat → (Int → Int → Int → Int → Bool → Bool → Int → Int → Int → Int → List VV → R) → Nat → Int → Int → Int → Int → Bool → Bool → Int → Int → Int → Int → List VV → R), iterC (codeL PP (words [(65, spec ti_vec_Clamp_1 to_vec_Clamp_1 (fun q => (ok_vec_Clamp_1 F (atI (nth q 0)) (atI (nth q 1)) (atI (nth q 2)) (atI (nth q 3)) (atI (nth q 4)))) (fun q => [.i (o_vec_Clamp_1_0 F (atI (nth q 0)) (atI (nth q 1)) (atI (nth q 2)) (atI (nth q 3)) (atI (nth q 4))), .b (o_vec_Clamp_1_1 F (atI (nth q 0)) (atI (nth q 1)) (atI (nth q 2)) (atI (nth q 3)) (atI (nth q 4)))]))]) c_vec_each (tabI c_vec_each [⟨0, T_vec_each_0, fun k q => L_vec_each_0 F (fun (z0 : Int) (z1 : Int) (z2 : Int) (z3 : Int) (z4 : Bool) (z5 : Bool) (z6 : Int) (z7 : Int) (z8 : Int) (z9 : Int) (z10 : List VV) => k (.exit 0) (fS T_vec_each_0_0 [.i z0, .i z1, .i z2, .i z3, .b z4, .b z5, .i z6, .i z7, .i z8, .i z9, .c z10])) F (atI (nth q 0)) (atI (nth q 1)) (atI (nth q 2)) (atI (nth q 3)) (atB (nth q 4)) (atB (nth q 5)) (atI (nth q 6)) (atI (nth q 7)) (atI (nth q 8)) (atI (nth q 9)) (atC (nth q 10))⟩]) (tabJ []) (loopAt PP 64 0) 0) (headOf c_vec_each 0) k (n + 1) (fS T_vec_each_0 [.i x0, .i x1, .i x2, .i x3, .b x4, .b x5, .i x6, .i x7, .i x8, .i x9, .c x10]) = (fun (rc : Int → Int → Int → Int → Bool → Bool → Int → Int → Int → Int → List VV → R) (ex0 : Int → Int → Int → Int → Bool → Bool → Int → Int → Int → Int → List VV → R) (x0 : Int) (x1 : Int) (x2 : Int) (x3 : Int) (x4 : Bool) (x5 : Bool) (x6 : Int) (x7 : Int) (x8 : Int) (x9 : Int) (x10 : List VV) => (
  bif ((decide (x6 < 3))) then (
    bif (ok_vec_Clamp_1 F x6 x0 x1 x2 x3) then (
      let v22 : Int := (o_vec_Clamp_1_0 F x6 x0 x1 x2 x3)
      bif x5 then (
        bif ((decide (0 ≤ x6)) && (decide (x6 < 3))) then (
          let v24 : Nat := (0 + ((Int.toNat x6) * 1))
          bif (decide ((v24 + 1) ≤ x10.length)) then (
            rc x0 x1 x2 x3 x4 true ((IntKind.wrap .i64 (x6 + 1))) x7 x8 x9 ((x10.take v24 ++ [.v (.int .i64 v22)] ++ x10.drop (v24 + 1))))
          else (
            none))
        else (
          none))
      else (
        bif ((decide (0 ≤ x6)) && (decide (x6 < 3))) then (
          let v27 : Nat := (0 + ((Int.toNat x6) * 1))
          bif (decide ((v27 + 1) ≤ x10.length)) then (
            rc x0 x1 x2 x3 x4 ((o_vec_Clamp_1_1 F x6 x0 x1 x2 x3)) ((IntKind.wrap .i64 (x6 + 1))) x7 x8 x9 ((x10.take v27 ++ [.v (.int .i64 v22)] ++ x10.drop (v27 + 1))))
          else (
            none))
        else (
          none)))
    else (
      none))
  else (
    ex0 x0 x1 x2 x3 x4 x5 x6 x7 x8 x9 x10) : R)) (fun (y0 : Int) (y1 : Int) (y2 : Int) (y3 : Int) (y4 : Bool) (y5 : Bool) (y6 : Int) (y7 : Int) (y8 : Int) (y9 : Int) (y10 : List VV) => iterC (codeL PP (words [(65, spec ti_vec_Clamp_1 to_vec_Clamp_1 (fun q => (ok_vec_Clamp_1 F (atI (nth q 0)) (atI (nth q 1)) (atI (nth q 2)) (atI (nth q 3)) (atI (nth q 4)))) (fun q => [.i (o_vec_Clamp_1_0 F (atI (nth q 0)) (atI (nth q 1)) (atI (nth q 2)) (atI (nth q 3)) (atI (nth q 4))), .b (o_vec_Clamp_1_1 F (atI (nth q 0)) (atI (nth q 1)) (atI (nth q 2)) (atI (nth q 3)) (atI (nth q 4)))]))]) c_vec_each (tabI c_vec_each [⟨0, T_vec_each_0, fun k q => L_vec_each_0 F (fun (z0 : Int) (z1 : Int) (z2 : Int) (z3 : Int) (z4 : Bool) (z5 : Bool) (z6 : Int) (z7 : Int) (z8 : Int) (z9 : Int) (z10 : List VV) => k (.exit 0) (fS T_vec_each_0_0 [.i z0, .i z1, .i z2, .i z3, .b z4, .b z5, .i z6, .i z7, .i z8, .i z9, .c z10])) F (atI (nth q 0)) (atI (nth q 1)) (atI (nth q 2)) (atI (nth q 3)) (atB (nth q 4)) (atB (nth q 5)) (atI (nth q 6)) (atI (nth q 7)) (atI (nth q 8)) (atI (nth q 9)) (atC (nth q 10))⟩]) (tabJ []) (loopAt PP 64 0) 0) (headOf c_vec_each 0) k n (fS T_vec_each_0 [.i y0, .i y1, .i y2, .i y3, .b y4, .b y5, .i y6, .i y7, .i y8, .i y9, .c y10])) (fun (z0 : Int) (z1 : Int) (z2 : Int) (z3 : Int) (z4 : Bool) (z5 : Bool) (z6 : Int) (z7 : Int) (z8 : Int) (z9 : Int) (z10 : List VV) => k (.exit 0) (fS T_vec_each_0_0 [.i z0, .i z1, .i z2, .i z3, .b z4, .b z5, .i z6, .i z7, .i z8, .i z9, .c z10])) x0 x1 x2 x3 x4 x5 x6 x7 x8 x9 x10 := by
      intros
      kernel_rfl
    have h : iterC (codeL PP (S_vec_each F) c_vec_each (I_vec_each F) (J_vec_each F) (loopAt PP 64 0) 0) (headOf c_vec_each 0) k (n + 1) (fS T_vec_each_0 [.i x0, .i x1, .i x2, .i x3, .b x4, .b x5, .i x6, .i x7, .i x8, .i x9, .c x10]) = B_vec_each_0 F (fun (y0 : Int) (y1 : Int) (y2 : Int) (y3 : Int) (y4 : Bool) (y5 : Bool) (y6 : Int) (y7 : Int) (y8 : Int) (y9 : Int) (y10 : List VV) => iterC (codeL PP (S_vec_each F) c_vec_each (I_vec_each F) (J_vec_each F) (loopAt PP 64 0) 0) (headOf c_vec_each 0) k n (fS T_vec_each_0 [.i y0, .i y1, .i y2, .i y3, .b y4, .b y5, .i y6, .i y7, .i y8, .i y9, .c y10])) (fun (z0 : Int) (z1 : Int) (z2 : Int) (z3 : Int) (z4 : Bool) (z5 : Bool) (z6 : Int) (z7 : Int) (z8 : Int) (z9 : Int) (z10 : List VV) => k (.exit 0) (fS T_vec_each_0_0 [.i z0, .i z1, .i z2, .i z3, .b z4, .b z5, .i z6, .i z7, .i z8, .i z9, .c z10])) x0 x1 x2 x3 x4 x5 x6 x7 x8 x9 x10 := (h0 ok_vec_Clamp_1 o_vec_Clamp_1_0 o_vec_Clamp_1_1 L_vec_each_0).trans (by kernel_rfl)
    rw [h]
    simp only [lL_vec_each_0 F k n]
    rfl
def f_vec_each (F : Nat) (a0 : Int) (a1 : Int) (a2 : Int) (a3 : Int) : R :=
  L_vec_each_0 F (fun (v30 : Int) (v31 : Int) (v32 : Int) (v33 : Int) (v34 : Bool) (v35 : Bool) (v36 : Int) (v37 : Int) (v38 : Int) (v39 : Int) (v40 : List VV) =>
    bif ((isI .i64 v40[0]?) && ((isI .i64 v40[1]?) && ((isI .i64 v40[2]?) && true))) then (
      some (.v (.tuple #[.agg #[.int .i64 ((iv v40[0]?)), .int .i64 ((iv v40[1]?)), .int .i64 ((iv v40[2]?))], .bool v35])))
    else (
      none)) F a0 a1 a2 a3 false false 0 0 0 0 ([.v (.int .i64 0), .v (.int .i64 0), .v (.int .i64 0)])
theorem e_vec_each (F : Nat) (a0 : Int) (a1 : Int) (a2 : Int) (a3 : Int) : funL PP (S_vec_each F) c_vec_each (I_vec_each F) (J_vec_each F) 64 (fTs ti_vec_each [.i a0, .i a1, .i a2, .i a3]).1 = f_vec_each F a0 a1 a2 a3 := by
  have h : ∀ (ok_vec_Clamp_1 : Nat → Int → Int → Int → Int → Int → Bool) (o_vec_Clamp_1_0 : Nat → Int → Int → Int → Int → Int → Int) (o_vec_Clamp_1_1 : Nat → Int → Int → Int → Int → Int → Bool) (L_vec_each_0 : Nat → (Int → Int → Int → Int → Bool → Bool → Int → Int → Int → Int → List VV → R) → Nat → Int → Int → Int → Int → Bool → Bool → Int → Int → Int → Int → List VV → R), funL PP (words [(65, spec ti_vec_Clamp_1 to_vec_Clamp_1 (fun q => (ok_vec_Clamp_1 F (atI (nth q 0)) (atI (nth q 1)) (atI (nth q 2)) (atI (nth q 3)) (atI (nth q 4)))) (fun q => [.i (o_vec_Clamp_1_0 F (atI (nth q 0)) (atI (nth q 1)) (atI (nth q 2)) (atI (nth q 3)) (atI (nth q 4))), .b (o_vec_Clamp_1_1 F (atI (nth q 0)) (atI (nth q 1)) (atI (nth q 2)) (atI (nth q 3)) (atI (nth q 4)))]))]) c_vec_each (tabI c_vec_each [⟨0, T_vec_each_0, fun k q => L_vec_each_0 F (fun (z0 : Int) (z1 : Int) (z2 : Int) (z3 : Int) (z4 : Bool) (z5 : Bool) (z6 : Int) (z7 : Int) (z8 : Int) (z9 : Int) (z10 : List VV) => k (.exit 0) (fS T_vec_each_0_0 [.i z0, .i z1, .i z2, .i z3, .b z4, .b z5, .i z6, .i z7, .i z8, .i z9, .c z10])) F (atI (nth q 0)) (atI (nth q 1)) (atI (nth q 2)) (atI (nth q 3)) (atB (nth q 4)) (atB (nth q 5)) (atI (nth q 6)) (atI (nth q 7)) (atI (nth q 8)) (atI (nth q 9)) (atC (nth q 10))⟩]) (tabJ []) 64 (fTs ti_vec_each [.i a0, .i a1, .i a2, .i a3]).1 = (
  L_vec_each_0 F (fun (v30 : Int) (v31 : Int) (v32 : Int) (v33 : Int) (v34 : Bool) (v35 : Bool) (v36 : Int) (v37 : Int) (v38 : Int) (v39 : Int) (v40 : List VV) =>
    bif ((isI .i64 v40[0]?) && ((isI .i64 v40[1]?) && ((isI .i64 v40[2]?) && true))) then (
      some (.v (.tuple #[.agg #[.int .i64 ((iv v40[0]?)), .int .i64 ((iv v40[1]?)), .int .i64 ((iv v40[2]?))], .bool v35])))
    else (
      none)) F a0 a1 a2 a3 false false 0 0 0 0 ([.v (.int .i64 0), .v (.int .i64 0), .v (.int .i64 0)]) : R) := by
    intros
    kernel_rfl
  exact (h ok_vec_Clamp_1 o_vec_Clamp_1_0 o_vec_Clamp_1_1 L_vec_each_0).trans (by kernel_rfl)
def ok_vec_each (F : Nat) (a0 : Int) (a1 : Int) (a2 : Int) (a3 : Int) : Bool := okT to_vec_each (f_vec_each F a0 a1 a2 a3)
def o_vec_each_0 (F : Nat) (a0 : Int) (a1 : Int) (a2 : Int) (a3 : Int) : Int := atI (nth (outT to_vec_each (f_vec_each F a0 a1 a2 a3)) 0)
def o_vec_each_1 (F : Nat) (a0 : Int) (a1 : Int) (a2 : Int) (a3 : Int) : Int := atI (nth (outT to_vec_each (f_vec_each F a0 a1 a2 a3)) 1)
def o_vec_each_2 (F : Nat) (a0 : Int) (a1 : Int) (a2 : Int) (a3 : Int) : Int := atI (nth (outT to_vec_each (f_vec_each F a0 a1 a2 a3)) 2)
def o_vec_each_3 (F : Nat) (a0 : Int) (a1 : Int) (a2 : Int) (a3 : Int) : Bool := atB (nth (outT to_vec_each (f_vec_each F a0 a1 a2 a3)) 3)
theorem k_vec_each (F : Nat) (a0 : Int) (a1 : Int) (a2 : Int) (a3 : Int) {z0 : Int} {z1 : Int} {z2 : Int} {z3 : Bool} (h : f_vec_each F a0 a1 a2 a3 = some (.v (.tuple #[.agg #[.int .i64 z0, .int .i64 z1, .int .i64 z2], .bool z3]))) : ok_vec_each F a0 a1 a2 a3 = true ∧ o_vec_each_0 F a0 a1 a2 a3 = z0 ∧ o_vec_each_1 F a0 a1 a2 a3 = z1 ∧ o_vec_each_2 F a0 a1 a2 a3 = z2 ∧ o_vec_each_3 F a0 a1 a2 a3 = z3 := by
  refine ⟨?_, ?_, ?_, ?_, ?_⟩
  · unfold ok_vec_each; rw [h]; kernel_rfl
  · unfold o_vec_each_0; rw [h]; kernel_rfl
  · unfold o_vec_each_1; rw [h]; kernel_rfl
  · unfold o_vec_each_2; rw [h]; kernel_rfl
  · unfold o_vec_each_3; rw [h]; kernel_rfl
def s_vec_each (F : Nat) : List VV → Option (Bool × VV) := spec ti_vec_each to_vec_each (fun q => (ok_vec_each F (atI (nth q 0)) (atI (nth q 1)) (atI (nth q 2)) (atI (nth q 3)))) (fun q => [.i (o_vec_each_0 F (atI (nth q 0)) (atI (nth q 1)) (atI (nth q 2)) (atI (nth q 3))), .i (o_vec_each_1 F (atI (nth q 0)) (atI (nth q 1)) (atI (nth q 2)) (atI (nth q 3))), .i (o_vec_each_2 F (atI (nth q 0)) (atI (nth q 1)) (atI (nth q 2)) (atI (nth q 3))), .b (o_vec_each_3 F (atI (nth q 0)) (atI (nth q 1)) (atI (nth q 2)) (atI (nth q 3)))])
theorem hS_vec_each (F : Nat) : ∀ f, Good PP f (unS (S_vec_each F f)) := words_good fun p hp => by
  simp only [List.mem_cons, List.not_mem_nil, or_false] at hp
  rcases hp with rfl
  · exact g_vec_Clamp_1 F
theorem hl_vec_each (F : Nat) : ∀ p ∈ loopsIn PP 64, LoopOK PP (S_vec_each F) c_vec_each F (I_vec_each F) (J_vec_each F) p :=
  loops_of [(0, loopAt PP 64 0)] (by kernel_rfl) (all_cons
    (loop_ok (W_vec_each F) rfl (tab_cons (fun _ k q => Le.ofEq ((lL_vec_each_0 F k F (atI (nth q 0)) (atI (nth q 1)) (atI (nth q 2)) (atI (nth q 3)) (atB (nth q 4)) (atB (nth q 5)) (atI (nth q 6)) (atI (nth q 7)) (atI (nth q 8)) (atI (nth q 9)) (atC (nth q 10))).symm.trans (congrArg (iterC (codeL PP (S_vec_each F) c_vec_each (I_vec_each F) (J_vec_each F) (loopAt PP 64 0) 0) (headOf c_vec_each 0) k F) (show fS T_vec_each_0 [.i (atI (nth q 0)), .i (atI (nth q 1)), .i (atI (nth q 2)), .i (atI (nth q 3)), .b (atB (nth q 4)), .b (atB (nth q 5)), .i (atI (nth q 6)), .i (atI (nth q 7)), .i (atI (nth q 8)), .i (atI (nth q 9)), .c (atC (nth q 10))] = fS T_vec_each_0 q by kernel_rfl)))) tab_nil)) all_nil)
theorem hj_vec_each (F : Nat) : ∀ p ∈ joinsIn PP c_vec_each 64, JoinOK PP (S_vec_each F) c_vec_each (I_vec_each F) (J_vec_each F) p :=
  joins_of [] (by kernel_rfl) all_nil
theorem g_vec_each (F : Nat) : Good PP 64 (unS (s_vec_each F)) :=
  fun_spec (hS_vec_each F) (by kernel_rfl) (by kernel_rfl) (C := c_vec_each) (F := fun q => (f_vec_each F (atI (nth q 0)) (atI (nth q 1)) (atI (nth q 2)) (atI (nth q 3)))) (fun _ => F) (fun _ => I_vec_each F) (fun _ => J_vec_each F) (fun _ => hl_vec_each F) (fun _ => hj_vec_each F)
    (fun q => (congrArg (funL PP (S_vec_each F) c_vec_each (I_vec_each F) (J_vec_each F) 64) (show (fTs ti_vec_each q).1 = (fTs ti_vec_each [.i (atI (nth q 0)), .i (atI (nth q 1)), .i (atI (nth q 2)), .i (atI (nth q 3))]).1 by kernel_rfl)).trans (e_vec_each F (atI (nth q 0)) (atI (nth q 1)) (atI (nth q 2)) (atI (nth q 3))))
    (fun _ h => (okT_fill h).trans (congrArg some (by kernel_rfl)))

end Go.Xv
set_option linter.unusedVariables false
namespace Go.Xv
/- 35 _ref02_Clamp -/
def c_ref02_Clamp : Cfg := ⟨[0, 1, 2, 6, 7, 8, 11, 16, 20], [], [], []⟩
def ti_ref02_Clamp : List TV := [.v (.int .i64), .v (.int .i64), .v (.int .i64)]
def to_ref02_Clamp : TV := .v (.tup [.int .i64, .bool])
def S_ref02_Clamp (F : Nat) : FuncId → List VV → Option (Bool × VV) := words []
def W_ref02_Clamp (F : Nat) : List LW := []
def I_ref02_Clamp (F : Nat) : Nat → VS → (Exit → VS → R) → R := tabI c_ref02_Clamp (W_ref02_Clamp F)
def WJ_ref02_Clamp (F : Nat) : List LJ := []
def J_ref02_Clamp (F : Nat) : Nat → Nat → VS → (Exit → VS → R) → R := tabJ (WJ_ref02_Clamp F)
def f_ref02_Clamp (F : Nat) (a0 : Int) (a1 : Int) (a2 : Int) : R :=
  bif ((decide (a2 < a1))) then (
    some (.v (.tuple #[.int .i64 a1, .bool true])))
  else (
    bif ((decide (a0 > a2))) then (
      bif ((decide (a2 < a1))) then (
        some (.v (.tuple #[.int .i64 a1, .bool ((a1 != a0))])))
      else (
        some (.v (.tuple #[.int .i64 a2, .bool ((a2 != a0))]))))
    else (
      bif ((decide (a0 < a1))) then (
        some (.v (.tuple #[.int .i64 a1, .bool ((a1 != a0))])))
      else (
        some (.v (.tuple #[.int .i64 a0, .bool ((a0 != a0))])))))
theorem e_ref02_Clamp (F : Nat) (a0 : Int) (a1 : Int) (a2 : Int) : funL PP (S_ref02_Clamp F) c_ref02_Clamp (I_ref02_Clamp F) (J_ref02_Clamp F) 35 (fTs ti_ref02_Clamp [.i a0, .i a1, .i a2]).1 = f_ref02_Clamp F a0 a1 a2 := by
  have h : ∀ (_ : Unit), funL PP (words []) c_ref02_Clamp (tabI c_ref02_Clamp []) (tabJ []) 35 (fTs ti_ref02_Clamp [.i a0, .i a1, .i a2]).1 = (
  bif ((decide (a2 < a1))) then (
    some (.v (.tuple #[.int .i64 a1, .bool true])))
  else (
    bif ((decide (a0 > a2))) then (
      bif ((decide (a2 < a1))) then (
        some (.v (.tuple #[.int .i64 a1, .bool ((a1 != a0))])))
      else (
        some (.v (.tuple #[.int .i64 a2, .bool ((a2 != a0))]))))
    else (
      bif ((decide (a0 < a1))) then (
        some (.v (.tuple #[.int .i64 a1, .bool ((a1 != a0))])))
      else (
        some (.v (.tuple #[.int .i64 a0, .bool ((a0 != a0))]))))) : R) := by
    intros
    kernel_rfl
  exact (h ()).trans (by kernel_rfl)
def ok_ref02_Clamp (F : Nat) (a0 : Int) (a1 : Int) (a2 : Int) : Bool := okT to_ref02_Clamp (f_ref02_Clamp F a0 a1 a2)
def o_ref02_Clamp_0 (F : Nat) (a0 : Int) (a1 : Int) (a2 : Int) : Int := atI (nth (outT to_ref02_Clamp (f_ref02_Clamp F a0 a1 a2)) 0)
def o_ref02_Clamp_1 (F : Nat) (a0 : Int) (a1 : Int) (a2 : Int) : Bool := atB (nth (outT to_ref02_Clamp (f_ref02_Clamp F a0 a1 a2)) 1)
theorem k_ref02_Clamp (F : Nat) (a0 : Int) (a1 : Int) (a2 : Int) {z0 : Int} {z1 : Bool} (h : f_ref02_Clamp F a0 a1 a2 = some (.v (.tuple #[.int .i64 z0, .bool z1]))) : ok_ref02_Clamp F a0 a1 a2 = true ∧ o_ref02_Clamp_0 F a0 a1 a2 = z0 ∧ o_ref02_Clamp_1 F a0 a1 a2 = z1 := by
  refine ⟨?_, ?_, ?_⟩
  · unfold ok_ref02_Clamp; rw [h]; kernel_rfl
  · unfold o_ref02_Clamp_0; rw [h]; kernel_rfl
  · unfold o_ref02_Clamp_1; rw [h]; kernel_rfl
def s_ref02_Clamp (F : Nat) : List VV → Option (Bool × VV) := spec ti_ref02_Clamp to_ref02_Clamp (fun q => (ok_ref02_Clamp F (atI (nth q 0)) (atI (nth q 1)) (atI (nth q 2)))) (fun q => [.i (o_ref02_Clamp_0 F (atI (nth q 0)) (atI (nth q 1)) (atI (nth q 2))), .b (o_ref02_Clamp_1 F (atI (nth q 0)) (atI (nth q 1)) (atI (nth q 2)))])
theorem hS_ref02_Clamp (F : Nat) : ∀ f, Good PP f (unS (S_ref02_Clamp F f)) := words_good fun p hp => by
  cases hp
theorem hl_ref02_Clamp (F : Nat) : ∀ p ∈ loopsIn PP 35, LoopOK PP (S_ref02_Clamp F) c_ref02_Clamp F (I_ref02_Clamp F) (J_ref02_Clamp F) p :=
  loops_of [] (by kernel_rfl) all_nil
theorem hj_ref02_Clamp (F : Nat) : ∀ p ∈ joinsIn PP c_ref02_Clamp 35, JoinOK PP (S_ref02_Clamp F) c_ref02_Clamp (I_ref02_Clamp F) (J_ref02_Clamp F) p :=
  joins_of [] (by kernel_rfl) all_nil
theorem g_ref02_Clamp (F : Nat) : Good PP 35 (unS (s_ref02_Clamp F)) :=
  fun_spec (hS_ref02_Clamp F) (by kernel_rfl) (by kernel_rfl) (C := c_ref02_Clamp) (F := fun q => (f_ref02_Clamp F (atI (nth q 0)) (atI (nth q 1)) (atI (nth q 2)))) (fun _ => F) (fun _ => I_ref02_Clamp F) (fun _ => J_ref02_Clamp F) (fun _ => hl_ref02_Clamp F) (fun _ => hj_ref02_Clamp F)
    (fun q => (congrArg (funL PP (S_ref02_Clamp F) c_ref02_Clamp (I_ref02_Clamp F) (J_ref02_Clamp F) 35) (show (fTs ti_ref02_Clamp q).1 = (fTs ti_ref02_Clamp [.i (atI (nth q 0)), .i (atI (nth q 1)), .i (atI (nth q 2))]).1 by kernel_rfl)).trans (e_ref02_Clamp F (atI (nth q 0)) (atI (nth q 1)) (atI (nth q 2))))
    (fun _ h => (okT_fill h).trans (congrArg some (by kernel_rfl)))

end Go.Xv
set_option linter.unusedVariables false
namespace Go.Xv
/- 39 _vec_Clamp -/
def c_vec_Clamp : Cfg := ⟨[0, 1, 2, 4, 5, 6], [], [], []⟩
def ti_vec_Clamp : List TV := [.v (.agg [.int .i64, .int .i64, .int .i64]), .v (.int .i64)]
def to_vec_Clamp : TV := .v (.tup [.agg [.int .i64, .int .i64, .int .i64], .bool])
def S_vec_Clamp (F : Nat) : FuncId → List VV → Option (Bool × VV) := words [(64, s_vec_each F)]
def W_vec_Clamp (F : Nat) : List LW := []
def I_vec_Clamp (F : Nat) : Nat → VS → (Exit → VS → R) → R := tabI c_vec_Clamp (W_vec_Clamp F)
def WJ_vec_Clamp (F : Nat) : List LJ := []
def J_vec_Clamp (F : Nat) : Nat → Nat → VS → (Exit → VS → R) → R := tabJ (WJ_vec_Clamp F)
def f_vec_Clamp (F : Nat) (a0 : Int) (a1 : Int) (a2 : Int) (a3 : Int) : R :=
  let v0 : Int := (if 0 > a3 then 0 else a3)
  bif (ok_vec_each F a0 a1 a2 v0) then (
    some (.v (.tuple #[.agg #[.int .i64 ((o_vec_each_0 F a0 a1 a2 v0)), .int .i64 ((o_vec_each_1 F a0 a1 a2 v0)), .int .i64 ((o_vec_each_2 F a0 a1 a2 v0))], .bool ((o_vec_each_3 F a0 a1 a2 v0))])))
  else (
    none)
theorem e_vec_Clamp (F : Nat) (a0 : Int) (a1 : Int) (a2 : Int) (a3 : Int) : funL PP (S_vec_Clamp F) c_vec_Clamp (I_vec_Clamp F) (J_vec_Clamp F) 39 (fTs ti_vec_Clamp [.i a0, .i a1, .i a2, .i a3]).1 = f_vec_Clamp F a0 a1 a2 a3 := by
  have h : ∀ (ok_vec_each : Nat → Int → Int → Int → Int → Bool) (o_vec_each_0 : Nat → Int → Int → Int → Int → Int) (o_vec_each_1 : Nat → Int → Int → Int → Int → Int) (o_vec_each_2 : Nat → Int → Int → Int → Int → Int) (o_vec_each_3 : Nat → Int → Int → Int → Int → Bool), funL PP (words [(64, spec ti_vec_each to_vec_each (fun q => (ok_vec_each F (atI (nth q 0)) (atI (nth q 1)) (atI (nth q 2)) (atI (nth q 3)))) (fun q => [.i (o_vec_each_0 F (atI (nth q 0)) (atI (nth q 1)) (atI (nth q 2)) (atI (nth q 3))), .i (o_vec_each_1 F (atI (nth q 0)) (atI (nth q 1)) (atI (nth q 2)) (atI (nth q 3))), .i (o_vec_each_2 F (atI (nth q 0)) (atI (nth q 1)) (atI (nth q 2)) (atI (nth q 3))), .b (o_vec_each_3 F (atI (nth q 0)) (atI (nth q 1)) (atI (nth q 2)) (atI (nth q 3)))]))]) c_vec_Clamp (tabI c_vec_Clamp []) (tabJ []) 39 (fTs ti_vec_Clamp [.i a0, .i a1, .i a2, .i a3]).1 = (
  let v0 : Int := (if 0 > a3 then 0 else a3)
  bif (ok_vec_each F a0 a1 a2 v0) then (
    some (.v (.tuple #[.agg #[.int .i64 ((o_vec_each_0 F a0 a1 a2 v0)), .int .i64 ((o_vec_each_1 F a0 a1 a2 v0)), .int .i64 ((o_vec_each_2 F a0 a1 a2 v0))], .bool ((o_vec_each_3 F a0 a1 a2 v0))])))
  else (
    none) : R) := by
    intros
    kernel_rfl
  exact (h ok_vec_each o_vec_each_0 o_vec_each_1 o_vec_each_2 o_vec_each_3).trans (by kernel_rfl)
def ok_vec_Clamp (F : Nat) (a0 : Int) (a1 : Int) (a2 : Int) (a3 : Int) : Bool := okT to_vec_Clamp (f_vec_Clamp F a0 a1 a2 a3)
def o_vec_Clamp_0 (F : Nat) (a0 : Int) (a1 : Int) (a2 : Int) (a3 : Int) : Int := atI (nth (outT to_vec_Clamp (f_vec_Clamp F a0 a1 a2 a3)) 0)
def o_vec_Clamp_1 (F : Nat) (a0 : Int) (a1 : Int) (a2 : Int) (a3 : Int) : Int := atI (nth (outT to_vec_Clamp (f_vec_Clamp F a0 a1 a2 a3)) 1)
def o_vec_Clamp_2 (F : Nat) (a0 : Int) (a1 : Int) (a2 : Int) (a3 : Int) : Int := atI (nth (outT to_vec_Clamp (f_vec_Clamp F a0 a1 a2 a3)) 2)
def o_vec_Clamp_3 (F : Nat) (a0 : Int) (a1 : Int) (a2 : Int) (a3 : Int) : Bool := atB (nth (outT to_vec_Clamp (f_vec_Clamp F a0 a1 a2 a3)) 3)
theorem k_vec_Clamp (F : Nat) (a0 : Int) (a1 : Int) (a2 : Int) (a3 : Int) {z0 : Int} {z1 : Int} {z2 : Int} {z3 : Bool} (h : f_vec_Clamp F a0 a1 a2 a3 = some (.v (.tuple #[.agg #[.int .i64 z0, .int .i64 z1, .int .i64 z2], .bool z3]))) : ok_vec_Clamp F a0 a1 a2 a3 = true ∧ o_vec_Clamp_0 F a0 a1 a2 a3 = z0 ∧ o_vec_Clamp_1 F a0 a1 a2 a3 = z1 ∧ o_vec_Clamp_2 F a0 a1 a2 a3 = z2 ∧ o_vec_Clamp_3 F a0 a1 a2 a3 = z3 := by
  refine ⟨?_, ?_, ?_, ?_, ?_⟩
  · unfold ok_vec_Clamp; rw [h]; kernel_rfl
  · unfold o_vec_Clamp_0; rw [h]; kernel_rfl
  · unfold o_vec_Clamp_1; rw [h]; kernel_rfl
  · unfold o_vec_Clamp_2; rw [h]; kernel_rfl
  · unfold o_vec_Clamp_3; rw [h]; kernel_rfl
def s_vec_Clamp (F : Nat) : List VV → Option (Bool × VV) := spec ti_vec_Clamp to_vec_Clamp (fun q => (ok_vec_Clamp F (atI (nth q 0)) (atI (nth q 1)) (atI (nth q 2)) (atI (nth q 3)))) (fun q => [.i (o_vec_Clamp_0 F (atI (nth q 0)) (atI (nth q 1)) (atI (nth q 2)) (atI (nth q 3))), .i (o_vec_Clamp_1 F (atI (nth q 0)) (atI (nth q 1)) (atI (nth q 2)) (atI (nth q 3))), .i (o_vec_Clamp_2 F (atI (nth q 0)) (atI (nth q 1)) (atI (nth q 2)) (atI (nth q 3))), .b (o_vec_Clamp_3 F (atI (nth q 0)) (atI (nth q 1)) (atI (nth q 2)) (atI (nth q 3)))])
theorem hS_vec_Clamp (F : Nat) : ∀ f, Good PP f (unS (S_vec_Clamp F f)) := words_good fun p hp => by
  simp only [List.mem_cons, List.not_mem_nil, or_false] at hp
  rcases hp with rfl
  · exact g_vec_each F
theorem hl_vec_Clamp (F : Nat) : ∀ p ∈ loopsIn PP 39, LoopOK PP (S_vec_Clamp F) c_vec_Clamp F (I_vec_Clamp F) (J_vec_Clamp F) p :=
  loops_of [] (by kernel_rfl) all_nil
theorem hj_vec_Clamp (F : Nat) : ∀ p ∈ joinsIn PP c_vec_Clamp 39, JoinOK PP (S_vec_Clamp F) c_vec_Clamp (I_vec_Clamp F) (J_vec_Clamp F) p :=
  joins_of [] (by kernel_rfl) all_nil
theorem g_vec_Clamp (F : Nat) : Good PP 39 (unS (s_vec_Clamp F)) :=
  fun_spec (hS_vec_Clamp F) (by kernel_rfl) (by kernel_rfl) (C := c_vec_Clamp) (F := fun q => (f_vec_Clamp F (atI (nth q 0)) (atI (nth q 1)) (atI (nth q 2)) (atI (nth q 3)))) (fun _ => F) (fun _ => I_vec_Clamp F) (fun _ => J_vec_Clamp F) (fun _ => hl_vec_Clamp F) (fun _ => hj_vec_Clamp F)
    (fun q => (congrArg (funL PP (S_vec_Clamp F) c_vec_Clamp (I_vec_Clamp F) (J_vec_Clamp F) 39) (show (fTs ti_vec_Clamp q).1 = (fTs ti_vec_Clamp [.i (atI (nth q 0)), .i (atI (nth q 1)), .i (atI (nth q 2)), .i (atI (nth q 3))]).1 by kernel_rfl)).trans (e_vec_Clamp F (atI (nth q 0)) (atI (nth q 1)) (atI (nth q 2)) (atI (nth q 3))))
    (fun _ h => (okT_fill h).trans (congrArg some (by kernel_rfl)))

end Go.Xv
set_option linter.unusedVariables false
namespace Go.Xv
/- 10 _fuse_Check -/
def c_fuse_Check : Cfg := ⟨[0, 1, 2, 30], [], [], []⟩
def ti_fuse_Check : List TV := [.v (.agg [.int .i64, .int .i64, .int .i64, .int .i64])]
def to_fuse_Check : TV := .v (.int .i64)
def S_fuse_Check (F : Nat) : FuncId → List VV → Option (Bool × VV) := words []
def W_fuse_Check (F : Nat) : List LW := []
def I_fuse_Check (F : Nat) : Nat → VS → (Exit → VS → R) → R := tabI c_fuse_Check (W_fuse_Check F)
def WJ_fuse_Check (F : Nat) : List LJ := []
def J_fuse_Check (F : Nat) : Nat → Nat → VS → (Exit → VS → R) → R := tabJ (WJ_fuse_Check F)
def f_fuse_Check (F : Nat) (a0 : Int) (a1 : Int) (a2 : Int) (a3 : Int) : R :=
  bif ((decide (a0 < 0))) then (
    some (.v (.int .i64 2)))
  else (
    bif ((decide (a0 > 16))) then (
      some (.v (.int .i64 2)))
    else (
      bif ((decide (a1 < 0))) then (
        some (.v (.int .i64 2)))
      else (
        bif ((decide (a2 < 0))) then (
          some (.v (.int .i64 2)))
        else (
          bif ((decide (a3 < 1))) then (
            some (.v (.int .i64 2)))
          else (
            bif ((decide (a3 > 65535))) then (
              some (.v (.int .i64 2)))
            else (
              some (.v (.int .i64 0))))))))
theorem e_fuse_Check (F : Nat) (a0 : Int) (a1 : Int) (a2 : Int) (a3 : Int) : funL PP (S_fuse_Check F) c_fuse_Check (I_fuse_Check F) (J_fuse_Check F) 10 (fTs ti_fuse_Check [.i a0, .i a1, .i a2, .i a3]).1 = f_fuse_Check F a0 a1 a2 a3 := by
  have h : ∀ (_ : Unit), funL PP (words []) c_fuse_Check (tabI c_fuse_Check []) (tabJ []) 10 (fTs ti_fuse_Check [.i a0, .i a1, .i a2, .i a3]).1 = (
  bif ((decide (a0 < 0))) then (
    some (.v (.int .i64 2)))
  else (
    bif ((decide (a0 > 16))) then (
      some (.v (.int .i64 2)))
    else (
      bif ((decide (a1 < 0))) then (
        some (.v (.int .i64 2)))
      else (
        bif ((decide (a2 < 0))) then (
          some (.v (.int .i64 2)))
        else (
          bif ((decide (a3 < 1))) then (
            some (.v (.int .i64 2)))
          else (
            bif ((decide (a3 > 65535))) then (
              some (.v (.int .i64 2)))
            else (
              some (.v (.int .i64 0)))))))) : R) := by
    intros
    kernel_rfl
  exact (h ()).trans (by kernel_rfl)
def ok_fuse_Check (F : Nat) (a0 : Int) (a1 : Int) (a2 : Int) (a3 : Int) : Bool := okT to_fuse_Check (f_fuse_Check F a0 a1 a2 a3)
def o_fuse_Check_0 (F : Nat) (a0 : Int) (a1 : Int) (a2 : Int) (a3 : Int) : Int := atI (nth (outT to_fuse_Check (f_fuse_Check F a0 a1 a2 a3)) 0)
theorem k_fuse_Check (F : Nat) (a0 : Int) (a1 : Int) (a2 : Int) (a3 : Int) {z0 : Int} (h : f_fuse_Check F a0 a1 a2 a3 = some (.v (.int .i64 z0))) : ok_fuse_Check F a0 a1 a2 a3 = true ∧ o_fuse_Check_0 F a0 a1 a2 a3 = z0 := by
  refine ⟨?_, ?_⟩
  · unfold ok_fuse_Check; rw [h]; kernel_rfl
  · unfold o_fuse_Check_0; rw [h]; kernel_rfl
def s_fuse_Check (F : Nat) : List VV → Option (Bool × VV) := spec ti_fuse_Check to_fuse_Check (fun q => (ok_fuse_Check F (atI (nth q 0)) (atI (nth q 1)) (atI (nth q 2)) (atI (nth q 3)))) (fun q => [.i (o_fuse_Check_0 F (atI (nth q 0)) (atI (nth q 1)) (atI (nth q 2)) (atI (nth q 3)))])
theorem hS_fuse_Check (F : Nat) : ∀ f, Good PP f (unS (S_fuse_Check F f)) := words_good fun p hp => by
  cases hp
theorem hl_fuse_Check (F : Nat) : ∀ p ∈ loopsIn PP 10, LoopOK PP (S_fuse_Check F) c_fuse_Check F (I_fuse_Check F) (J_fuse_Check F) p :=
  loops_of [] (by kernel_rfl) all_nil
theorem hj_fuse_Check (F : Nat) : ∀ p ∈ joinsIn PP c_fuse_Check 10, JoinOK PP (S_fuse_Check F) c_fuse_Check (I_fuse_Check F) (J_fuse_Check F) p :=
  joins_of [] (by kernel_rfl) all_nil
theorem g_fuse_Check (F : Nat) : Good PP 10 (unS (s_fuse_Check F)) :=
  fun_spec (hS_fuse_Check F) (by kernel_rfl) (by kernel_rfl) (C := c_fuse_Check) (F := fun q => (f_fuse_Check F (atI (nth q 0)) (atI (nth q 1)) (atI (nth q 2)) (atI (nth q 3)))) (fun _ => F) (fun _ => I_fuse_Check F) (fun _ => J_fuse_Check F) (fun _ => hl_fuse_Check F) (fun _ => hj_fuse_Check F)
    (fun q => (congrArg (funL PP (S_fuse_Check F) c_fuse_Check (I_fuse_Check F) (J_fuse_Check F) 10) (show (fTs ti_fuse_Check q).1 = (fTs ti_fuse_Check [.i (atI (nth q 0)), .i (atI (nth q 1)), .i (atI (nth q 2)), .i (atI (nth q 3))]).1 by kernel_rfl)).trans (e_fuse_Check F (atI (nth q 0)) (atI (nth q 1)) (atI (nth q 2)) (atI (nth q 3))))
    (fun _ h => (okT_fill h).trans (congrArg some (by kernel_rfl)))

end Go.Xv
set_option linter.unusedVariables false
namespace Go.Xv
/- 38 _fuse_tick -/
def c_fuse_tick : Cfg := ⟨[0, 2], [], [], []⟩
def ti_fuse_tick : List TV := [.v (.int .i64)]
def to_fuse_tick : TV := .v (.bool)
def S_fuse_tick (F : Nat) : FuncId → List VV → Option (Bool × VV) := words []
def W_fuse_tick (F : Nat) : List LW := []
def I_fuse_tick (F : Nat) : Nat → VS → (Exit → VS → R) → R := tabI c_fuse_tick (W_fuse_tick F)
def WJ_fuse_tick (F : Nat) : List LJ := []
def J_fuse_tick (F : Nat) : Nat → Nat → VS → (Exit → VS → R) → R := tabJ (WJ_fuse_tick F)
def f_fuse_tick (F : Nat) (a0 : Int) : R :=
  bif ((decide (a0 ≥ 0))) then (
    some (.v (.bool ((decide (a0 ≤ 1099511627776))))))
  else (
    some (.v (.bool false)))
theorem e_fuse_tick (F : Nat) (a0 : Int) : funL PP (S_fuse_tick F) c_fuse_tick (I_fuse_tick F) (J_fuse_tick F) 38 (fTs ti_fuse_tick [.i a0]).1 = f_fuse_tick F a0 := by
  have h : ∀ (_ : Unit), funL PP (words []) c_fuse_tick (tabI c_fuse_tick []) (tabJ []) 38 (fTs ti_fuse_tick [.i a0]).1 = (
  bif ((decide (a0 ≥ 0))) then (
    some (.v (.bool ((decide (a0 ≤ 1099511627776))))))
  else (
    some (.v (.bool false))) : R) := by
    intros
    kernel_rfl
  exact (h ()).trans (by kernel_rfl)
def ok_fuse_tick (F : Nat) (a0 : Int) : Bool := okT to_fuse_tick (f_fuse_tick F a0)
def o_fuse_tick_0 (F : Nat) (a0 : Int) : Bool := atB (nth (outT to_fuse_tick (f_fuse_tick F a0)) 0)
theorem k_fuse_tick (F : Nat) (a0 : Int) {z0 : Bool} (h : f_fuse_tick F a0 = some (.v (.bool z0))) : ok_fuse_tick F a0 = true ∧ o_fuse_tick_0 F a0 = z0 := by
  refine ⟨?_, ?_⟩
  · unfold ok_fuse_tick; rw [h]; kernel_rfl
  · unfold o_fuse_tick_0; rw [h]; kernel_rfl
def s_fuse_tick (F : Nat) : List VV → Option (Bool × VV) := spec ti_fuse_tick to_fuse_tick (fun q => (ok_fuse_tick F (atI (nth q 0)))) (fun q => [.b (o_fuse_tick_0 F (atI (nth q 0)))])
theorem hS_fuse_tick (F : Nat) : ∀ f, Good PP f (unS (S_fuse_tick F f)) := words_good fun p hp => by
  cases hp
theorem hl_fuse_tick (F : Nat) : ∀ p ∈ loopsIn PP 38, LoopOK PP (S_fuse_tick F) c_fuse_tick F (I_fuse_tick F) (J_fuse_tick F) p :=
  loops_of [] (by kernel_rfl) all_nil
theorem hj_fuse_tick (F : Nat) : ∀ p ∈ joinsIn PP c_fuse_tick 38, JoinOK PP (S_fuse_tick F) c_fuse_tick (I_fuse_tick F) (J_fuse_tick F) p :=
  joins_of [] (by kernel_rfl) all_nil
theorem g_fuse_tick (F : Nat) : Good PP 38 (unS (s_fuse_tick F)) :=
  fun_spec (hS_fuse_tick F) (by kernel_rfl) (by kernel_rfl) (C := c_fuse_tick) (F := fun q => (f_fuse_tick F (atI (nth q 0)))) (fun _ => F) (fun _ => I_fuse_tick F) (fun _ => J_fuse_tick F) (fun _ => hl_fuse_tick F) (fun _ => hj_fuse_tick F)
    (fun q => (congrArg (funL PP (S_fuse_tick F) c_fuse_tick (I_fuse_tick F) (J_fuse_tick F) 38) (show (fTs ti_fuse_tick q).1 = (fTs ti_fuse_tick [.i (atI (nth q 0))]).1 by kernel_rfl)).trans (e_fuse_tick F (atI (nth q 0))))
    (fun _ h => (okT_fill h).trans (congrArg some (by kernel_rfl)))

end Go.Xv
set_option linter.unusedVariables false
namespace Go.Xv
/- 18 _fuse_Right -/
def c_fuse_Right : Cfg := ⟨[0, 1, 2, 3, 4, 6, 15, 24], [], [], []⟩
def ti_fuse_Right : List TV := [.v (.agg [.int .i64, .int .i64, .int .i64, .int .i64]), .v (.agg [.int .i64, .int .i64, .int .i64, .int .i64])]
def to_fuse_Right : TV := .v (.int .i64)
def S_fuse_Right (F : Nat) : FuncId → List VV → Option (Bool × VV) := words [(10, s_fuse_Check F), (38, s_fuse_tick F), (39, s_vec_Clamp F)]
def W_fuse_Right (F : Nat) : List LW := []
def I_fuse_Right (F : Nat) : Nat → VS → (Exit → VS → R) → R := tabI c_fuse_Right (W_fuse_Right F)
def WJ_fuse_Right (F : Nat) : List LJ := []
def J_fuse_Right (F : Nat) : Nat → Nat → VS → (Exit → VS → R) → R := tabJ (WJ_fuse_Right F)
def f_fuse_Right (F : Nat) (a0 : Int) (a1 : Int) (a2 : Int) (a3 : Int) (a4 : Int) (a5 : Int) (a6 : Int) (a7 : Int) : R :=
  bif (ok_fuse_Check F a0 a1 a2 a3) then (
    bif ((((o_fuse_Check_0 F a0 a1 a2 a3)) != 0)) then (
      some (.v (.int .i64 2)))
    else (
      bif (ok_fuse_tick F a7) then (
        bif ((!((o_fuse_tick_0 F a7)))) then (
          some (.v (.int .i64 2)))
        else (
          bif (ok_vec_Clamp F a4 a5 a6 a2) then (
            bif ((o_vec_Clamp_3 F a4 a5 a6 a2)) then (
              some (.v (.int .i64 2)))
            else (
              some (.v (.int .i64 0))))
          else (
            none)))
      else (
        none)))
  else (
    none)
theorem e_fuse_Right (F : Nat) (a0 : Int) (a1 : Int) (a2 : Int) (a3 : Int) (a4 : Int) (a5 : Int) (a6 : Int) (a7 : Int) : funL PP (S_fuse_Right F) c_fuse_Right (I_fuse_Right F) (J_fuse_Right F) 18 (fTs ti_fuse_Right [.i a0, .i a1, .i a2, .i a3, .i a4, .i a5, .i a6, .i a7]).1 = f_fuse_Right F a0 a1 a2 a3 a4 a5 a6 a7 := by
  have h : ∀ (ok_fuse_Check : Nat → Int → Int → Int → Int → Bool) (o_fuse_Check_0 : Nat → Int → Int → Int → Int → Int) (ok_fuse_tick : Nat → Int → Bool) (o_fuse_tick_0 : Nat → Int → Bool) (ok_vec_Clamp : Nat → Int → Int → Int → Int → Bool) (o_vec_Clamp_0 : Nat → Int → Int → Int → Int → Int) (o_vec_Clamp_1 : Nat → Int → Int → Int → Int → Int) (o_vec_Clamp_2 : Nat → Int → Int → Int → Int → Int) (o_vec_Clamp_3 : Nat → Int → Int → Int → Int → Bool), funL PP (words [(10, spec ti_fuse_Check to_fuse_Check (fun q => (ok_fuse_Check F (atI (nth q 0)) (atI (nth q 1)) (atI (nth q 2)) (atI (nth q 3)))) (fun q => [.i (o_fuse_Check_0 F (atI (nth q 0)) (atI (nth q 1)) (atI (nth q 2)) (atI (nth q 3)))])), (38, spec ti_fuse_tick to_fuse_tick (fun q => (ok_fuse_tick F (atI (nth q 0)))) (fun q => [.b (o_fuse_tick_0 F (atI (nth q 0)))])), (39, spec ti_vec_Clamp to_vec_Clamp (fun q => (ok_vec_Clamp F (atI (nth q 0)) (atI (nth q 1)) (atI (nth q 2)) (atI (nth q 3)))) (fun q => [.i (o_vec_Clamp_0 F (atI (nth q 0)) (atI (nth q 1)) (atI (nth q 2)) (atI (nth q 3))), .i (o_vec_Clamp_1 F (atI (nth q 0)) (atI (nth q 1)) (atI (nth q 2)) (atI (nth q 3))), .i (o_vec_Clamp_2 F (atI (nth q 0)) (atI (nth q 1)) (atI (nth q 2)) (atI (nth q 3))), .b (o_vec_Clamp_3 F (atI (nth q 0)) (atI (nth q 1)) (atI (nth q 2)) (atI (nth q 3)))]))]) c_fuse_Right (tabI c_fuse_Right []) (tabJ []) 18 (fTs ti_fuse_Right [.i a0, .i a1, .i a2, .i a3, .i a4, .i a5, .i a6, .i a7]).1 = (
  bif (ok_fuse_Check F a0 a1 a2 a3) then (
    bif ((((o_fuse_Check_0 F a0 a1 a2 a3)) != 0)) then (
      some (.v (.int .i64 2)))
    else (
      bif (ok_fuse_tick F a7) then (
        bif ((!((o_fuse_tick_0 F a7)))) then (
          some (.v (.int .i64 2)))
        else (
          bif (ok_vec_Clamp F a4 a5 a6 a2) then (
            bif ((o_vec_Clamp_3 F a4 a5 a6 a2)) then (
              some (.v (.int .i64 2)))
            else (
              some (.v (.int .i64 0))))
          else (
            none)))
      else (
        none)))
  else (
    none) : R) := by
    intros
    kernel_rfl
  exact (h ok_fuse_Check o_fuse_Check_0 ok_fuse_tick o_fuse_tick_0 ok_vec_Clamp o_vec_Clamp_0 o_vec_Clamp_1 o_vec_Clamp_2 o_vec_Clamp_3).trans (by kernel_rfl)
def ok_fuse_Right (F : Nat) (a0 : Int) (a1 : Int) (a2 : Int) (a3 : Int) (a4 : Int) (a5 : Int) (a6 : Int) (a7 : Int) : Bool := okT to_fuse_Right (f_fuse_Right F a0 a1 a2 a3 a4 a5 a6 a7)
def o_fuse_Right_0 (F : Nat) (a0 : Int) (a1 : Int) (a2 : Int) (a3 : Int) (a4 : Int) (a5 : Int) (a6 : Int) (a7 : Int) : Int := atI (nth (outT to_fuse_Right (f_fuse_Right F a0 a1 a2 a3 a4 a5 a6 a7)) 0)
theorem k_fuse_Right (F : Nat) (a0 : Int) (a1 : Int) (a2 : Int) (a3 : Int) (a4 : Int) (a5 : Int) (a6 : Int) (a7 : Int) {z0 : Int} (h : f_fuse_Right F a0 a1 a2 a3 a4 a5 a6 a7 = some (.v (.int .i64 z0))) : ok_fuse_Right F a0 a1 a2 a3 a4 a5 a6 a7 = true ∧ o_fuse_Right_0 F a0 a1 a2 a3 a4 a5 a6 a7 = z0 := by
  refine ⟨?_, ?_⟩
  · unfold ok_fuse_Right; rw [h]; kernel_rfl
  · unfold o_fuse_Right_0; rw [h]; kernel_rfl
def s_fuse_Right (F : Nat) : List VV → Option (Bool × VV) := spec ti_fuse_Right to_fuse_Right (fun q => (ok_fuse_Right F (atI (nth q 0)) (atI (nth q 1)) (atI (nth q 2)) (atI (nth q 3)) (atI (nth q 4)) (atI (nth q 5)) (atI (nth q 6)) (atI (nth q 7)))) (fun q => [.i (o_fuse_Right_0 F (atI (nth q 0)) (atI (nth q 1)) (atI (nth q 2)) (atI (nth q 3)) (atI (nth q 4)) (atI (nth q 5)) (atI (nth q 6)) (atI (nth q 7)))])
theorem hS_fuse_Right (F : Nat) : ∀ f, Good PP f (unS (S_fuse_Right F f)) := words_good fun p hp => by
  simp only [List.mem_cons, List.not_mem_nil, or_false] at hp
  rcases hp with rfl | rfl | rfl
  · exact g_fuse_Check F
  · exact g_fuse_tick F
  · exact g_vec_Clamp F
theorem hl_fuse_Right (F : Nat) : ∀ p ∈ loopsIn PP 18, LoopOK PP (S_fuse_Right F) c_fuse_Right F (I_fuse_Right F) (J_fuse_Right F) p :=
  loops_of [] (by kernel_rfl) all_nil
theorem hj_fuse_Right (F : Nat) : ∀ p ∈ joinsIn PP c_fuse_Right 18, JoinOK PP (S_fuse_Right F) c_fuse_Right (I_fuse_Right F) (J_fuse_Right F) p :=
  joins_of [] (by kernel_rfl) all_nil
theorem g_fuse_Right (F : Nat) : Good PP 18 (unS (s_fuse_Right F)) :=
  fun_spec (hS_fuse_Right F) (by kernel_rfl) (by kernel_rfl) (C := c_fuse_Right) (F := fun q => (f_fuse_Right F (atI (nth q 0)) (atI (nth q 1)) (atI (nth q 2)) (atI (nth q 3)) (atI (nth q 4)) (atI (nth q 5)) (atI (nth q 6)) (atI (nth q 7)))) (fun _ => F) (fun _ => I_fuse_Right F) (fun _ => J_fuse_Right F) (fun _ => hl_fuse_Right F) (fun _ => hj_fuse_Right F)
    (fun q => (congrArg (funL PP (S_fuse_Right F) c_fuse_Right (I_fuse_Right F) (J_fuse_Right F) 18) (show (fTs ti_fuse_Right q).1 = (fTs ti_fuse_Right [.i (atI (nth q 0)), .i (atI (nth q 1)), .i (atI (nth q 2)), .i (atI (nth q 3)), .i (atI (nth q 4)), .i (atI (nth q 5)), .i (atI (nth q 6)), .i (atI (nth q 7))]).1 by kernel_rfl)).trans (e_fuse_Right F (atI (nth q 0)) (atI (nth q 1)) (atI (nth q 2)) (atI (nth q 3)) (atI (nth q 4)) (atI (nth q 5)) (atI (nth q 6)) (atI (nth q 7))))
    (fun _ h => (okT_fill h).trans (congrArg some (by kernel_rfl)))

end Go.Xv
set_option linter.unusedVariables false
namespace Go.Xv
/- 31 _fuse_may -/
def c_fuse_may : Cfg := ⟨[0, 1, 2, 3, 4, 6], [], [], []⟩
def ti_fuse_may : List TV := [.v (.agg [.int .i64, .int .i64, .int .i64, .int .i64]), .v (.agg [.int .i64, .int .i64, .int .i64, .int .i64]), .v (.int .i64)]
def to_fuse_may : TV := .v (.bool)
def S_fuse_may (F : Nat) : FuncId → List VV → Option (Bool × VV) := words [(18, s_fuse_Right F), (38, s_fuse_tick F)]
def W_fuse_may (F : Nat) : List LW := []
def I_fuse_may (F : Nat) : Nat → VS → (Exit → VS → R) → R := tabI c_fuse_may (W_fuse_may F)
def WJ_fuse_may (F : Nat) : List LJ := []
def J_fuse_may (F : Nat) : Nat → Nat → VS → (Exit → VS → R) → R := tabJ (WJ_fuse_may F)
def f_fuse_may (F : Nat) (a0 : Int) (a1 : Int) (a2 : Int) (a3 : Int) (a4 : Int) (a5 : Int) (a6 : Int) (a7 : Int) (a8 : Int) : R :=
  bif (ok_fuse_Right F a0 a1 a2 a3 a4 a5 a6 a7) then (
    bif ((((o_fuse_Right_0 F a0 a1 a2 a3 a4 a5 a6 a7)) == 0)) then (
      bif ((decide (a8 ≥ a7))) then (
        bif (ok_fuse_tick F a8) then (
          some (.v (.bool ((o_fuse_tick_0 F a8)))))
        else (
          none))
      else (
        some (.v (.bool false))))
    else (
      some (.v (.bool false))))
  else (
    none)
theorem e_fuse_may (F : Nat) (a0 : Int) (a1 : Int) (a2 : Int) (a3 : Int) (a4 : Int) (a5 : Int) (a6 : Int) (a7 : Int) (a8 : Int) : funL PP (S_fuse_may F) c_fuse_may (I_fuse_may F) (J_fuse_may F) 31 (fTs ti_fuse_may [.i a0, .i a1, .i a2, .i a3, .i a4, .i a5, .i a6, .i a7, .i a8]).1 = f_fuse_may F a0 a1 a2 a3 a4 a5 a6 a7 a8 := by
  have h : ∀ (ok_fuse_Right : Nat → Int → Int → Int → Int → Int → Int → Int → Int → Bool) (o_fuse_Right_0 : Nat → Int → Int → Int → Int → Int → Int → Int → Int → Int) (ok_fuse_tick : Nat → Int → Bool) (o_fuse_tick_0 : Nat → Int → Bool), funL PP (words [(18, spec ti_fuse_Right to_fuse_Right (fun q => (ok_fuse_Right F (atI (nth q 0)) (atI (nth q 1)) (atI (nth q 2)) (atI (nth q 3)) (atI (nth q 4)) (atI (nth q 5)) (atI (nth q 6)) (atI (nth q 7)))) (fun q => [.i (o_fuse_Right_0 F (atI (nth q 0)) (atI (nth q 1)) (atI (nth q 2)) (atI (nth q 3)) (atI (nth q 4)) (atI (nth q 5)) (atI (nth q 6)) (atI (nth q 7)))])), (38, spec ti_fuse_tick to_fuse_tick (fun q => (ok_fuse_tick F (atI (nth q 0)))) (fun q => [.b (o_fuse_tick_0 F (atI (nth q 0)))]))]) c_fuse_may (tabI c_fuse_may []) (tabJ []) 31 (fTs ti_fuse_may [.i a0, .i a1, .i a2, .i a3, .i a4, .i a5, .i a6, .i a7, .i a8]).1 = (
  bif (ok_fuse_Right F a0 a1 a2 a3 a4 a5 a6 a7) then (
    bif ((((o_fuse_Right_0 F a0 a1 a2 a3 a4 a5 a6 a7)) == 0)) then (
      bif ((decide (a8 ≥ a7))) then (
        bif (ok_fuse_tick F a8) then (
          some (.v (.bool ((o_fuse_tick_0 F a8)))))
        else (
          none))
      else (
        some (.v (.bool false))))
    else (
      some (.v (.bool false))))
  else (
    none) : R) := by
    intros
    kernel_rfl
  exact (h ok_fuse_Right o_fuse_Right_0 ok_fuse_tick o_fuse_tick_0).trans (by kernel_rfl)
def ok_fuse_may (F : Nat) (a0 : Int) (a1 : Int) (a2 : Int) (a3 : Int) (a4 : Int) (a5 : Int) (a6 : Int) (a7 : Int) (a8 : Int) : Bool := okT to_fuse_may (f_fuse_may F a0 a1 a2 a3 a4 a5 a6 a7 a8)
def o_fuse_may_0 (F : Nat) (a0 : Int) (a1 : Int) (a2 : Int) (a3 : Int) (a4 : Int) (a5 : Int) (a6 : Int) (a7 : Int) (a8 : Int) : Bool := atB (nth (outT to_fuse_may (f_fuse_may F a0 a1 a2 a3 a4 a5 a6 a7 a8)) 0)
theorem k_fuse_may (F : Nat) (a0 : Int) (a1 : Int) (a2 : Int) (a3 : Int) (a4 : Int) (a5 : Int) (a6 : Int) (a7 : Int) (a8 : Int) {z0 : Bool} (h : f_fuse_may F a0 a1 a2 a3 a4 a5 a6 a7 a8 = some (.v (.bool z0))) : ok_fuse_may F a0 a1 a2 a3 a4 a5 a6 a7 a8 = true ∧ o_fuse_may_0 F a0 a1 a2 a3 a4 a5 a6 a7 a8 = z0 := by
  refine ⟨?_, ?_⟩
  · unfold ok_fuse_may; rw [h]; kernel_rfl
  · unfold o_fuse_may_0; rw [h]; kernel_rfl
def s_fuse_may (F : Nat) : List VV → Option (Bool × VV) := spec ti_fuse_may to_fuse_may (fun q => (ok_fuse_may F (atI (nth q 0)) (atI (nth q 1)) (atI (nth q 2)) (atI (nth q 3)) (atI (nth q 4)) (atI (nth q 5)) (atI (nth q 6)) (atI (nth q 7)) (atI (nth q 8)))) (fun q => [.b (o_fuse_may_0 F (atI (nth q 0)) (atI (nth q 1)) (atI (nth q 2)) (atI (nth q 3)) (atI (nth q 4)) (atI (nth q 5)) (atI (nth q 6)) (atI (nth q 7)) (atI (nth q 8)))])
theorem hS_fuse_may (F : Nat) : ∀ f, Good PP f (unS (S_fuse_may F f)) := words_good fun p hp => by
  simp only [List.mem_cons, List.not_mem_nil, or_false] at hp
  rcases hp with rfl | rfl
  · exact g_fuse_Right F
  · exact g_fuse_tick F
theorem hl_fuse_may (F : Nat) : ∀ p ∈ loopsIn PP 31, LoopOK PP (S_fuse_may F) c_fuse_may F (I_fuse_may F) (J_fuse_may F) p :=
  loops_of [] (by kernel_rfl) all_nil
theorem hj_fuse_may (F : Nat) : ∀ p ∈ joinsIn PP c_fuse_may 31, JoinOK PP (S_fuse_may F) c_fuse_may (I_fuse_may F) (J_fuse_may F) p :=
  joins_of [] (by kernel_rfl) all_nil
theorem g_fuse_may (F : Nat) : Good PP 31 (unS (s_fuse_may F)) :=
  fun_spec (hS_fuse_may F) (by kernel_rfl) (by kernel_rfl) (C := c_fuse_may) (F := fun q => (f_fuse_may F (atI (nth q 0)) (atI (nth q 1)) (atI (nth q 2)) (atI (nth q 3)) (atI (nth q 4)) (atI (nth q 5)) (atI (nth q 6)) (atI (nth q 7)) (atI (nth q 8)))) (fun _ => F) (fun _ => I_fuse_may F) (fun _ => J_fuse_may F) (fun _ => hl_fuse_may F) (fun _ => hj_fuse_may F)
    (fun q => (congrArg (funL PP (S_fuse_may F) c_fuse_may (I_fuse_may F) (J_fuse_may F) 31) (show (fTs ti_fuse_may q).1 = (fTs ti_fuse_may [.i (atI (nth q 0)), .i (atI (nth q 1)), .i (atI (nth q 2)), .i (atI (nth q 3)), .i (atI (nth q 4)), .i (atI (nth q 5)), .i (atI (nth q 6)), .i (atI (nth q 7)), .i (atI (nth q 8))]).1 by kernel_rfl)).trans (e_fuse_may F (atI (nth q 0)) (atI (nth q 1)) (atI (nth q 2)) (atI (nth q 3)) (atI (nth q 4)) (atI (nth q 5)) (atI (nth q 6)) (atI (nth q 7)) (atI (nth q 8))))
    (fun _ h => (okT_fill h).trans (congrArg some (by kernel_rfl)))

end Go.Xv
set_option linter.unusedVariables false
namespace Go.Xv
/- 57 _fix_Shift -/
def c_fix_Shift : Cfg := ⟨[0, 1, 4, 5, 7], [], [9, 12], []⟩
def ti_fix_Shift : List TV := [.v (.int .i64), .v (.int .i64)]
def to_fix_Shift : TV := .v (.tup [.int .i64, .bool])
def S_fix_Shift (F : Nat) : FuncId → List VV → Option (Bool × VV) := words [(67, s_fix_of F), (86, s_wide_Left F), (68, s_fix_clip F)]
def W_fix_Shift (F : Nat) : List LW := []
def I_fix_Shift (F : Nat) : Nat → VS → (Exit → VS → R) → R := tabI c_fix_Shift (W_fix_Shift F)
def WJ_fix_Shift (F : Nat) : List LJ := []
def J_fix_Shift (F : Nat) : Nat → Nat → VS → (Exit → VS → R) → R := tabJ (WJ_fix_Shift F)
def f_fix_Shift (F : Nat) (a0 : Int) (a1 : Int) : R :=
  bif ((decide (a1 ≥ 0))) then (
    bif (ok_fix_of F a0) then (
      let v3183 : Int := (o_fix_of_0 F a0)
      let v3184 : Int := (o_fix_of_1 F a0)
      let v3185 : Int := (if 64 < a1 then 64 else a1)
      bif (ok_wide_Left F v3183 v3184 v3185) then (
        let v3186 : Int := (o_wide_Left_0 F v3183 v3184 v3185)
        let v3187 : Int := (o_wide_Left_1 F v3183 v3184 v3185)
        bif (ok_fix_clip F v3186 v3187) then (
          some (.v (.tuple #[.int .i64 ((o_fix_clip_0 F v3186 v3187)), .bool ((o_fix_clip_1 F v3186 v3187))])))
        else (
          none))
      else (
        none))
    else (
      none))
  else (
    let v3191 : Int := (IntKind.wrap .i64 (0 - ((if (-64) > a1 then (-64) else a1))))
    let v3192 : Int := (if v3191 < 63 then v3191 else 63)
    bif (!(decide (v3192 < 0))) then (
      some (.v (.tuple #[.int .i64 ((Int.fdiv a0 (2 ^ (min (Int.toNat v3192) 64)))), .bool false])))
    else (
      none))
theorem e_fix_Shift (F : Nat) (a0 : Int) (a1 : Int) : funL PP (S_fix_Shift F) c_fix_Shift (I_fix_Shift F) (J_fix_Shift F) 57 (fTs ti_fix_Shift [.i a0, .i a1]).1 = f_fix_Shift F a0 a1 := by
  have h : ∀ (ok_fix_of : Nat → Int → Bool) (o_fix_of_0 : Nat → Int → Int) (o_fix_of_1 : Nat → Int → Int) (ok_wide_Left : Nat → Int → Int → Int → Bool) (o_wide_Left_0 : Nat → Int → Int → Int → Int) (o_wide_Left_1 : Nat → Int → Int → Int → Int) (ok_fix_clip : Nat → Int → Int → Bool) (o_fix_clip_0 : Nat → Int → Int → Int) (o_fix_clip_1 : Nat → Int → Int → Bool), funL PP (words [(67, spec ti_fix_of to_fix_of (fun q => (ok_fix_of F (atI (nth q 0)))) (fun q => [.i (o_fix_of_0 F (atI (nth q 0))), .i (o_fix_of_1 F (atI (nth q 0)))])), (86, spec ti_wide_Left to_wide_Left (fun q => (ok_wide_Left F (atI (nth q 0)) (atI (nth q 1)) (atI (nth q 2)))) (fun q => [.i (o_wide_Left_0 F (atI (nth q 0)) (atI (nth q 1)) (atI (nth q 2))), .i (o_wide_Left_1 F (atI (nth q 0)) (atI (nth q 1)) (atI (nth q 2)))])), (68, spec ti_fix_clip to_fix_clip (fun q => (ok_fix_clip F (atI (nth q 0)) (atI (nth q 1)))) (fun q => [.i (o_fix_clip_0 F (atI (nth q 0)) (atI (nth q 1))), .b (o_fix_clip_1 F (atI (nth q 0)) (atI (nth q 1)))]))]) c_fix_Shift (tabI c_fix_Shift []) (tabJ []) 57 (fTs ti_fix_Shift [.i a0, .i a1]).1 = (
  bif ((decide (a1 ≥ 0))) then (
    bif (ok_fix_of F a0) then (
      let v3183 : Int := (o_fix_of_0 F a0)
      let v3184 : Int := (o_fix_of_1 F a0)
      let v3185 : Int := (if 64 < a1 then 64 else a1)
      bif (ok_wide_Left F v3183 v3184 v3185) then (
        let v3186 : Int := (o_wide_Left_0 F v3183 v3184 v3185)
        let v3187 : Int := (o_wide_Left_1 F v3183 v3184 v3185)
        bif (ok_fix_clip F v3186 v3187) then (
          some (.v (.tuple #[.int .i64 ((o_fix_clip_0 F v3186 v3187)), .bool ((o_fix_clip_1 F v3186 v3187))])))
        else (
          none))
      else (
        none))
    else (
      none))
  else (
    let v3191 : Int := (IntKind.wrap .i64 (0 - ((if (-64) > a1 then (-64) else a1))))
    let v3192 : Int := (if v3191 < 63 then v3191 else 63)
    bif (!(decide (v3192 < 0))) then (
      some (.v (.tuple #[.int .i64 ((Int.fdiv a0 (2 ^ (min (Int.toNat v3192) 64)))), .bool false])))
    else (
      none)) : R) := by
    intros
    kernel_rfl
  exact (h ok_fix_of o_fix_of_0 o_fix_of_1 ok_wide_Left o_wide_Left_0 o_wide_Left_1 ok_fix_clip o_fix_clip_0 o_fix_clip_1).trans (by kernel_rfl)
def ok_fix_Shift (F : Nat) (a0 : Int) (a1 : Int) : Bool := okT to_fix_Shift (f_fix_Shift F a0 a1)
def o_fix_Shift_0 (F : Nat) (a0 : Int) (a1 : Int) : Int := atI (nth (outT to_fix_Shift (f_fix_Shift F a0 a1)) 0)
def o_fix_Shift_1 (F : Nat) (a0 : Int) (a1 : Int) : Bool := atB (nth (outT to_fix_Shift (f_fix_Shift F a0 a1)) 1)
theorem k_fix_Shift (F : Nat) (a0 : Int) (a1 : Int) {z0 : Int} {z1 : Bool} (h : f_fix_Shift F a0 a1 = some (.v (.tuple #[.int .i64 z0, .bool z1]))) : ok_fix_Shift F a0 a1 = true ∧ o_fix_Shift_0 F a0 a1 = z0 ∧ o_fix_Shift_1 F a0 a1 = z1 := by
  refine ⟨?_, ?_, ?_⟩
  · unfold ok_fix_Shift; rw [h]; kernel_rfl
  · unfold o_fix_Shift_0; rw [h]; kernel_rfl
  · unfold o_fix_Shift_1; rw [h]; kernel_rfl
def s_fix_Shift (F : Nat) : List VV → Option (Bool × VV) := spec ti_fix_Shift to_fix_Shift (fun q => (ok_fix_Shift F (atI (nth q 0)) (atI (nth q 1)))) (fun q => [.i (o_fix_Shift_0 F (atI (nth q 0)) (atI (nth q 1))), .b (o_fix_Shift_1 F (atI (nth q 0)) (atI (nth q 1)))])
theorem hS_fix_Shift (F : Nat) : ∀ f, Good PP f (unS (S_fix_Shift F f)) := words_good fun p hp => by
  simp only [List.mem_cons, List.not_mem_nil, or_false] at hp
  rcases hp with rfl | rfl | rfl
  · exact g_fix_of F
  · exact g_wide_Left F
  · exact g_fix_clip F
theorem hl_fix_Shift (F : Nat) : ∀ p ∈ loopsIn PP 57, LoopOK PP (S_fix_Shift F) c_fix_Shift F (I_fix_Shift F) (J_fix_Shift F) p :=
  loops_of [] (by kernel_rfl) all_nil
theorem hj_fix_Shift (F : Nat) : ∀ p ∈ joinsIn PP c_fix_Shift 57, JoinOK PP (S_fix_Shift F) c_fix_Shift (I_fix_Shift F) (J_fix_Shift F) p :=
  joins_of [] (by kernel_rfl) all_nil
theorem g_fix_Shift (F : Nat) : Good PP 57 (unS (s_fix_Shift F)) :=
  fun_spec (hS_fix_Shift F) (by kernel_rfl) (by kernel_rfl) (C := c_fix_Shift) (F := fun q => (f_fix_Shift F (atI (nth q 0)) (atI (nth q 1)))) (fun _ => F) (fun _ => I_fix_Shift F) (fun _ => J_fix_Shift F) (fun _ => hl_fix_Shift F) (fun _ => hj_fix_Shift F)
    (fun q => (congrArg (funL PP (S_fix_Shift F) c_fix_Shift (I_fix_Shift F) (J_fix_Shift F) 57) (show (fTs ti_fix_Shift q).1 = (fTs ti_fix_Shift [.i (atI (nth q 0)), .i (atI (nth q 1))]).1 by kernel_rfl)).trans (e_fix_Shift F (atI (nth q 0)) (atI (nth q 1))))
    (fun _ h => (okT_fill h).trans (congrArg some (by kernel_rfl)))

end Go.Xv
set_option linter.unusedVariables false
namespace Go.Xv
/- 33 _fuse_Rule_pulled -/
def c_fuse_Rule_pulled : Cfg := ⟨[0, 1, 2, 3, 6, 7], [], [], []⟩
def ti_fuse_Rule_pulled : List TV := [.v (.agg [.int .i64, .int .i64, .int .i64, .int .i64]), .v (.int .i64), .v (.int .i64)]
def to_fuse_Rule_pulled : TV := .v (.int .i64)
def S_fuse_Rule_pulled (F : Nat) : FuncId → List VV → Option (Bool × VV) := words [(57, s_fix_Shift F), (58, s_fix_Clamp F), (59, s_fix_Add F)]
def W_fuse_Rule_pulled (F : Nat) : List LW := []
def I_fuse_Rule_pulled (F : Nat) : Nat → VS → (Exit → VS → R) → R := tabI c_fuse_Rule_pulled (W_fuse_Rule_pulled F)
def WJ_fuse_Rule_pulled (F : Nat) : List LJ := []
def J_fuse_Rule_pulled (F : Nat) : Nat → Nat → VS → (Exit → VS → R) → R := tabJ (WJ_fuse_Rule_pulled F)
def f_fuse_Rule_pulled (F : Nat) (a0 : Int) (a1 : Int) (a2 : Int) (a3 : Int) (a4 : Int) (a5 : Int) : R :=
  let v3181 : Int := (IntKind.wrap .i64 (0 - a0))
  bif (ok_fix_Shift F a5 v3181) then (
    let v3194 : Int := (o_fix_Shift_0 F a5 v3181)
    let v3196 : Int := (IntKind.wrap .i64 (0 - a1))
    bif (ok_fix_Clamp F v3194 v3196 a1) then (
      let v3197 : Int := (o_fix_Clamp_0 F v3194 v3196 a1)
      bif (ok_fix_Add F a4 v3197) then (
        let v3205 : Int := (o_fix_Add_0 F a4 v3197)
        let v3207 : Int := (IntKind.wrap .i64 (0 - a2))
        bif (ok_fix_Clamp F v3205 v3207 a2) then (
          some (.v (.int .i64 ((o_fix_Clamp_0 F v3205 v3207 a2)))))
        else (
          none))
      else (
        none))
    else (
      none))
  else (
    none)
theorem e_fuse_Rule_pulled (F : Nat) (a0 : Int) (a1 : Int) (a2 : Int) (a3 : Int) (a4 : Int) (a5 : Int) : funL PP (S_fuse_Rule_pulled F) c_fuse_Rule_pulled (I_fuse_Rule_pulled F) (J_fuse_Rule_pulled F) 33 (fTs ti_fuse_Rule_pulled [.i a0, .i a1, .i a2, .i a3, .i a4, .i a5]).1 = f_fuse_Rule_pulled F a0 a1 a2 a3 a4 a5 := by
  have h : ∀ (ok_fix_Shift : Nat → Int → Int → Bool) (o_fix_Shift_0 : Nat → Int → Int → Int) (o_fix_Shift_1 : Nat → Int → Int → Bool) (ok_fix_Clamp : Nat → Int → Int → Int → Bool) (o_fix_Clamp_0 : Nat → Int → Int → Int → Int) (o_fix_Clamp_1 : Nat → Int → Int → Int → Bool) (ok_fix_Add : Nat → Int → Int → Bool) (o_fix_Add_0 : Nat → Int → Int → Int) (o_fix_Add_1 : Nat → Int → Int → Bool), funL PP (words [(57, spec ti_fix_Shift to_fix_Shift (fun q => (ok_fix_Shift F (atI (nth q 0)) (atI (nth q 1)))) (fun q => [.i (o_fix_Shift_0 F (atI (nth q 0)) (atI (nth q 1))), .b (o_fix_Shift_1 F (atI (nth q 0)) (atI (nth q 1)))])), (58, spec ti_fix_Clamp to_fix_Clamp (fun q => (ok_fix_Clamp F (atI (nth q 0)) (atI (nth q 1)) (atI (nth q 2)))) (fun q => [.i (o_fix_Clamp_0 F (atI (nth q 0)) (atI (nth q 1)) (atI (nth q 2))), .b (o_fix_Clamp_1 F (atI (nth q 0)) (atI (nth q 1)) (atI (nth q 2)))])), (59, spec ti_fix_Add to_fix_Add (fun q => (ok_fix_Add F (atI (nth q 0)) (atI (nth q 1)))) (fun q => [.i (o_fix_Add_0 F (atI (nth q 0)) (atI (nth q 1))), .b (o_fix_Add_1 F (atI (nth q 0)) (atI (nth q 1)))]))]) c_fuse_Rule_pulled (tabI c_fuse_Rule_pulled []) (tabJ []) 33 (fTs ti_fuse_Rule_pulled [.i a0, .i a1, .i a2, .i a3, .i a4, .i a5]).1 = (
  let v3181 : Int := (IntKind.wrap .i64 (0 - a0))
  bif (ok_fix_Shift F a5 v3181) then (
    let v3194 : Int := (o_fix_Shift_0 F a5 v3181)
    let v3196 : Int := (IntKind.wrap .i64 (0 - a1))
    bif (ok_fix_Clamp F v3194 v3196 a1) then (
      let v3197 : Int := (o_fix_Clamp_0 F v3194 v3196 a1)
      bif (ok_fix_Add F a4 v3197) then (
        let v3205 : Int := (o_fix_Add_0 F a4 v3197)
        let v3207 : Int := (IntKind.wrap .i64 (0 - a2))
        bif (ok_fix_Clamp F v3205 v3207 a2) then (
          some (.v (.int .i64 ((o_fix_Clamp_0 F v3205 v3207 a2)))))
        else (
          none))
      else (
        none))
    else (
      none))
  else (
    none) : R) := by
    intros
    kernel_rfl
  exact (h ok_fix_Shift o_fix_Shift_0 o_fix_Shift_1 ok_fix_Clamp o_fix_Clamp_0 o_fix_Clamp_1 ok_fix_Add o_fix_Add_0 o_fix_Add_1).trans (by kernel_rfl)
def ok_fuse_Rule_pulled (F : Nat) (a0 : Int) (a1 : Int) (a2 : Int) (a3 : Int) (a4 : Int) (a5 : Int) : Bool := okT to_fuse_Rule_pulled (f_fuse_Rule_pulled F a0 a1 a2 a3 a4 a5)
def o_fuse_Rule_pulled_0 (F : Nat) (a0 : Int) (a1 : Int) (a2 : Int) (a3 : Int) (a4 : Int) (a5 : Int) : Int := atI (nth (outT to_fuse_Rule_pulled (f_fuse_Rule_pulled F a0 a1 a2 a3 a4 a5)) 0)
theorem k_fuse_Rule_pulled (F : Nat) (a0 : Int) (a1 : Int) (a2 : Int) (a3 : Int) (a4 : Int) (a5 : Int) {z0 : Int} (h : f_fuse_Rule_pulled F a0 a1 a2 a3 a4 a5 = some (.v (.int .i64 z0))) : ok_fuse_Rule_pulled F a0 a1 a2 a3 a4 a5 = true ∧ o_fuse_Rule_pulled_0 F a0 a1 a2 a3 a4 a5 = z0 := by
  refine ⟨?_, ?_⟩
  · unfold ok_fuse_Rule_pulled; rw [h]; kernel_rfl
  · unfold o_fuse_Rule_pulled_0; rw [h]; kernel_rfl
def s_fuse_Rule_pulled (F : Nat) : List VV → Option (Bool × VV) := spec ti_fuse_Rule_pulled to_fuse_Rule_pulled (fun q => (ok_fuse_Rule_pulled F (atI (nth q 0)) (atI (nth q 1)) (atI (nth q 2)) (atI (nth q 3)) (atI (nth q 4)) (atI (nth q 5)))) (fun q => [.i (o_fuse_Rule_pulled_0 F (atI (nth q 0)) (atI (nth q 1)) (atI (nth q 2)) (atI (nth q 3)) (atI (nth q 4)) (atI (nth q 5)))])
theorem hS_fuse_Rule_pulled (F : Nat) : ∀ f, Good PP f (unS (S_fuse_Rule_pulled F f)) := words_good fun p hp => by
  simp only [List.mem_cons, List.not_mem_nil, or_false] at hp
  rcases hp with rfl | rfl | rfl
  · exact g_fix_Shift F
  · exact g_fix_Clamp F
  · exact g_fix_Add F
theorem hl_fuse_Rule_pulled (F : Nat) : ∀ p ∈ loopsIn PP 33, LoopOK PP (S_fuse_Rule_pulled F) c_fuse_Rule_pulled F (I_fuse_Rule_pulled F) (J_fuse_Rule_pulled F) p :=
  loops_of [] (by kernel_rfl) all_nil
theorem hj_fuse_Rule_pulled (F : Nat) : ∀ p ∈ joinsIn PP c_fuse_Rule_pulled 33, JoinOK PP (S_fuse_Rule_pulled F) c_fuse_Rule_pulled (I_fuse_Rule_pulled F) (J_fuse_Rule_pulled F) p :=
  joins_of [] (by kernel_rfl) all_nil
theorem g_fuse_Rule_pulled (F : Nat) : Good PP 33 (unS (s_fuse_Rule_pulled F)) :=
  fun_spec (hS_fuse_Rule_pulled F) (by kernel_rfl) (by kernel_rfl) (C := c_fuse_Rule_pulled) (F := fun q => (f_fuse_Rule_pulled F (atI (nth q 0)) (atI (nth q 1)) (atI (nth q 2)) (atI (nth q 3)) (atI (nth q 4)) (atI (nth q 5)))) (fun _ => F) (fun _ => I_fuse_Rule_pulled F) (fun _ => J_fuse_Rule_pulled F) (fun _ => hl_fuse_Rule_pulled F) (fun _ => hj_fuse_Rule_pulled F)
    (fun q => (congrArg (funL PP (S_fuse_Rule_pulled F) c_fuse_Rule_pulled (I_fuse_Rule_pulled F) (J_fuse_Rule_pulled F) 33) (show (fTs ti_fuse_Rule_pulled q).1 = (fTs ti_fuse_Rule_pulled [.i (atI (nth q 0)), .i (atI (nth q 1)), .i (atI (nth q 2)), .i (atI (nth q 3)), .i (atI (nth q 4)), .i (atI (nth q 5))]).1 by kernel_rfl)).trans (e_fuse_Rule_pulled F (atI (nth q 0)) (atI (nth q 1)) (atI (nth q 2)) (atI (nth q 3)) (atI (nth q 4)) (atI (nth q 5))))
    (fun _ h => (okT_fill h).trans (congrArg some (by kernel_rfl)))

end Go.Xv
set_option linter.unusedVariables false
namespace Go.Xv
/- 32 _fuse_each -/
def c_fuse_each : Cfg := ⟨[0, 1, 2, 3, 5, 6, 8, 9, 10, 11, 12, 13, 14, 22], [(0, [0, 1, 2, 3, 5, 6, 8, 9, 12, 13, 32])], [], []⟩
def ti_fuse_each : List TV := [.fn 1000033 [.v (.agg [.int .i64, .int .i64, .int .i64, .int .i64])], .v (.agg [.int .i64, .int .i64, .int .i64]), .v (.agg [.int .i64, .int .i64, .int .i64]), .v (.int .i64)]
def to_fuse_each : TV := .v (.agg [.int .i64, .int .i64, .int .i64])
def S_fuse_each (F : Nat) : FuncId → List VV → Option (Bool × VV) := words [(33, s_fuse_Rule_pulled F)]
def T_fuse_each_0 : TS := ⟨[(0, .fn 1000033 [.v (.agg [.int .i64, .int .i64, .int .i64, .int .i64])]), (1, .v (.agg [.int .i64, .int .i64, .int .i64])), (2, .v (.agg [.int .i64, .int .i64, .int .i64])), (3, .v (.int .i64)), (5, .lp 0 (.lit 0)), (6, .lp 1 (.lit 0)), (8, .lp 2 (.lit 0)), (9, .lp 3 (.lit 0)), (12, .v (.agg [.int .i64, .int .i64, .int .i64])), (13, .v (.int .i64))], [(0, ⟨(.ex [.v (.int .i64), .v (.int .i64), .v (.int .i64)]), true⟩), (1, ⟨(.ex [.v (.int .i64), .v (.int .i64), .v (.int .i64)]), true⟩), (2, ⟨(.ex [.v (.int .i64), .v (.int .i64), .v (.int .i64)]), true⟩), (3, ⟨.hole, true⟩)], 4⟩
def T_fuse_each_0_0 : TS := ⟨[(0, .fn 1000033 [.v (.agg [.int .i64, .int .i64, .int .i64, .int .i64])]), (1, .v (.agg [.int .i64, .int .i64, .int .i64])), (2, .v (.agg [.int .i64, .int .i64, .int .i64])), (3, .v (.int .i64)), (5, .lp 0 (.lit 0)), (6, .lp 1 (.lit 0)), (8, .lp 2 (.lit 0)), (9, .lp 3 (.lit 0)), (12, .v (.agg [.int .i64, .int .i64, .int .i64])), (13, .v (.int .i64))], [(0, ⟨(.ex [.v (.int .i64), .v (.int .i64), .v (.int .i64)]), true⟩), (1, ⟨(.ex [.v (.int .i64), .v (.int .i64), .v (.int .i64)]), true⟩), (2, ⟨(.ex [.v (.int .i64), .v (.int .i64), .v (.int .i64)]), true⟩), (3, ⟨.hole, true⟩)], 4⟩
def B_fuse_each_0 (F : Nat) (rc : Int → Int → Int → Int → Int → Int → Int → Int → Int → Int → Int → Int → Int → Int → Int → Int → Int → Int → Int → Int → Int → Int → Int → Int → List VV → R) (ex0 : Int → Int → Int → Int → Int → Int → Int → Int → Int → Int → Int → Int → Int → Int → Int → Int → Int → Int → Int → Int → Int → Int → Int → Int → List VV → R) (x0 : Int) (x1 : Int) (x2 : Int) (x3 : Int) (x4 : Int) (x5 : Int) (x6 : Int) (x7 : Int) (x8 : Int) (x9 : Int) (x10 : Int) (x11 : Int) (x12 : Int) (x13 : Int) (x14 : Int) (x15 : Int) (x16 : Int) (x17 : Int) (x18 : Int) (x19 : Int) (x20 : Int) (x21 : Int) (x22 : Int) (x23 : Int) (x24 : List VV) : R :=
  bif ((decide (x14 < 3))) then (
    bif (((decide (0 ≤ x14)) && (decide (x14 < 3))) && ((isI .i64 [.v (.int .i64 x11), .v (.int .i64 x12), .v (.int .i64 x13)][((Int.toNat x14) * 1)]?) && true)) then (
      let v3175 : Int := (iv [.v (.int .i64 x11), .v (.int .i64 x12), .v (.int .i64 x13)][((Int.toNat x14) * 1)]?)
      bif ((decide (0 ≤ x14)) && (decide (x14 < 3))) then (
        let v3176 : Nat := (0 + ((Int.toNat x14) * 1))
        bif (decide ((v3176 + 1) ≤ x24.length)) then (
          let v3177 : List VV := (x24.take v3176 ++ [.v (.int .i64 v3175)] ++ x24.drop (v3176 + 1))
          bif ((decide (x14 < x10))) then (
            bif ((decide (0 ≤ x14)) && (decide (x14 < 3))) then (
              let v3179 : Nat := (0 + ((Int.toNat x14) * 1))
              bif ((isI .i64 [.v (.int .i64 x18), .v (.int .i64 x19), .v (.int .i64 x20)][v3179]?) && true) then (
                let v3180 : Int := (iv [.v (.int .i64 x18), .v (.int .i64 x19), .v (.int .i64 x20)][v3179]?)
                bif (ok_fuse_Rule_pulled F x0 x1 x2 x3 v3175 v3180) then (
                  bif ((decide (0 ≤ x14)) && (decide (x14 < 3))) then (
                    let v3211 : Nat := (0 + ((Int.toNat x14) * 1))
                    bif (decide ((v3211 + 1) ≤ v3177.length)) then (
                      rc x0 x1 x2 x3 x4 x5 x6 x7 x8 x9 x10 x11 x12 x13 ((IntKind.wrap .i64 (x14 + 1))) x15 x16 x17 x18 x19 x20 x21 x22 x23 ((v3177.take v3211 ++ [.v (.int .i64 ((o_fuse_Rule_pulled_0 F x0 x1 x2 x3 v3175 v3180)))] ++ v3177.drop (v3211 + 1))))
                    else (
                      none))
                  else (
                    none))
                else (
                  none))
              else (
                none))
            else (
              none))
          else (
            rc x0 x1 x2 x3 x4 x5 x6 x7 x8 x9 x10 x11 x12 x13 ((IntKind.wrap .i64 (x14 + 1))) x15 x16 x17 x18 x19 x20 x21 x22 x23 v3177))
        else (
          none))
      else (
        none))
    else (
      none))
  else (
    ex0 x0 x1 x2 x3 x4 x5 x6 x7 x8 x9 x10 x11 x12 x13 x14 x15 x16 x17 x18 x19 x20 x21 x22 x23 x24)
def L_fuse_each_0 (F : Nat) (ex0 : Int → Int → Int → Int → Int → Int → Int → Int → Int → Int → Int → Int → Int → Int → Int → Int → Int → Int → Int → Int → Int → Int → Int → Int → List VV → R) : Nat → Int → Int → Int → Int → Int → Int → Int → Int → Int → Int → Int → Int → Int → Int → Int → Int → Int → Int → Int → Int → Int → Int → Int → Int → List VV → R
  | 0, _, _, _, _, _, _, _, _, _, _, _, _, _, _, _, _, _, _, _, _, _, _, _, _, _ => none
  | n + 1, x0, x1, x2, x3, x4, x5, x6, x7, x8, x9, x10, x11, x12, x13, x14, x15, x16, x17, x18, x19, x20, x21, x22, x23, x24 => B_fuse_each_0 F (L_fuse_each_0 F ex0 n) ex0 x0 x1 x2 x3 x4 x5 x6 x7 x8 x9 x10 x11 x12 x13 x14 x15 x16 x17 x18 x19 x20 x21 x22 x23 x24
def W_fuse_each (F : Nat) : List LW := [⟨0, T_fuse_each_0, fun k q => L_fuse_each_0 F (fun (z0 : Int) (z1 : Int) (z2 : Int) (z3 : Int) (z4 : Int) (z5 : Int) (z6 : Int) (z7 : Int) (z8 : Int) (z9 : Int) (z10 : Int) (z11 : Int) (z12 : Int) (z13 : Int) (z14 : Int) (z15 : Int) (z16 : Int) (z17 : Int) (z18 : Int) (z19 : Int) (z20 : Int) (z21 : Int) (z22 : Int) (z23 : Int) (z24 : List VV) => k (.exit 0) (fS T_fuse_each_0_0 [.i z0, .i z1, .i z2, .i z3, .i z4, .i z5, .i z6, .i z7, .i z8, .i z9, .i z10, .i z11, .i z12, .i z13, .i z14, .i z15, .i z16, .i z17, .i z18, .i z19, .i z20, .i z21, .i z22, .i z23, .c z24])) F (atI (nth q 0)) (atI (nth q 1)) (atI (nth q 2)) (atI (nth q 3)) (atI (nth q 4)) (atI (nth q 5)) (atI (nth q 6)) (atI (nth q 7)) (atI (nth q 8)) (atI (nth q 9)) (atI (nth q 10)) (atI (nth q 11)) (atI (nth q 12)) (atI (nth q 13)) (atI (nth q 14)) (atI (nth q 15)) (atI (nth q 16)) (atI (nth q 17)) (atI (nth q 18)) (atI (nth q 19)) (atI (nth q 20)) (atI (nth q 21)) (atI (nth q 22)) (atI (nth q 23)) (atC (nth q 24))⟩]
def I_fuse_each (F : Nat) : Nat → VS → (Exit → VS → R) → R := tabI c_fuse_each (W_fuse_each F)
def WJ_fuse_each (F : Nat) : List LJ := []
def J_fuse_each (F : Nat) : Nat → Nat → VS → (Exit → VS → R) → R := tabJ (WJ_fuse_each F)
theorem lL_fuse_each_0 (F : Nat) (k : Exit → VS → R) : ∀ (n : Nat) (x0 : Int) (x1 : Int) (x2 : Int) (x3 : Int) (x4 : Int) (x5 : Int) (x6 : Int) (x7 : Int) (x8 : Int) (x9 : Int) (x10 : Int) (x11 : Int) (x12 : Int) (x13 : Int) (x14 : Int) (x15 : Int) (x16 : Int) (x17 : Int) (x18 : Int) (x19 : Int) (x20 : Int) (x21 : Int) (x22 : Int) (x23 : Int) (x24 : List VV), iterC (codeL PP (S_fuse_each F) c_fuse_each (I_fuse_each F) (J_fuse_each F) (loopAt PP 32 0) 0) (headOf c_fuse_each 0) k n (fS T_fuse_each_0 [.i x0, .i x1, .i x2, .i x3, .i x4, .i x5, .i x6, .i x7, .i x8, .i x9, .i x10, .i x11, .i x12, .i x13, .i x14, .i x15, .i x16, .i x17, .i x18, .i x19, .i x20, .i x21, .i x22, .i x23, .c x24]) = L_fuse_each_0 F (fun (z0 : Int) (z1 : Int) (z2 : Int) (z3 : Int) (z4 : Int) (z5 : Int) (z6 : Int) (z7 : Int) (z8 : Int) (z9 : Int) (z10 : Int) (z11 : Int) (z12 : Int) (z13 : Int) (z14 : Int) (z15 : Int) (z16 : Int) (z17 : Int) (z18 : Int) (z19 : Int) (z20 : Int) (z21 : Int) (z22 : Int) (z23 : Int) (z24 : List VV) => k (.exit 0) (fS T_fuse_each_0_0 [.i z0, .i z1, .i z2, .i z3, .i z4, .i z5, .i z6, .i z7, .i z8, .i z9, .i z10, .i z11, .i z12, .i z13, .i z14, .i z15, .i z16, .i z17, .i z18, .i z19, .i z20, .i z21, .i z22, .i z23, .c z24])) n x0 x1 x2 x3 x4 x5 x6 x7 x8 x9 x10 x11 x12 x13 x14 x15 x16 x17 x18 x19 x20 x21 x22 x23 x24
  | 0, _, _, _, _, _, _, _, _, _, _, _, _, _, _, _, _, _, _, _, _, _, _, _, _, _ => rfl
  | n + 1, x0, x1, x2, x3, x4, x5, x6, x7, x8, x9, x10, x11, x12, x13, x14, x15, x16, x17, x18, x19, x20, x21, x22, x23, x24 => by
    have h0 : ∀ (ok_fuse_Rule_pulled : Nat → Int → Int → Int → Int → Int → Int → Bool) (o_fuse_Rule_pulled_0 : Nat → Int → Int → Int → Int → Int → Int → Int) (L_fuse_each_0 : Nat → (Int → Int → Int → Int → Int → Int → Int → Int → Int → Int → Int → Int → Int → Int → Int → Int → Int → Int → Int → Int → Int → Int → Int → Int → List VV → R) → Nat → Int → Int → Int → Int → Int → Int → Int → Int → Int → Int → Int → Int → Int → Int → Int → Int → Int → Int → Int → Int → Int → Int → Int → Int → List VV → R), iterC (codeL PP (words [(33, spec ti_fuse_Rule_pulled to_fuse_Rule_pulled (fun q => (ok_fuse_Rule_pulled F (atI (nth q 0)) (atI (nth q 1)) (atI (nth q 2)) (atI (nth q 3)) (atI (nth q 4)) (atI (nth q 5)))) (fun q => [.i (o_fuse_Rule_pulled_0 F (atI (nth q 0)) (atI (nth q 1)) (atI (nth q 2)) (atI (nth q 3)) (atI (nth q 4)) (atI (nth q 5)))]))]) c_fuse_each (tabI c_fuse_each [⟨0, T_fuse_each_0, fun k q => L_fuse_each_0 F (fun (z0 : Int) (z1 : Int) (z2 : Int) (z3 : Int) (z4 : Int) (z5 : Int) (z6 : Int) (z7 : Int) (z8 : Int) (z9 : Int) (z10 : Int) (z11 : Int) (z12 : Int) (z13 : Int) (z14 : Int) (z15 : Int) (z16 : Int) (z17 : Int) (z18 : Int) (z19 : Int) (z20 : Int) (z21 : Int) (z22 : Int) (z23 : Int) (z24 : List VV) => k (.exit 0) (fS T_fuse_each_0_0 [.i z0, .i z1, .i z2, .i z3, .i z4, .i z5, .i z6, .i z7, .i z8, .i z9, .i z10, .i z11, .i z12, .i z13, .i z14, .i z15, .i z16, .i z17, .i z18, .i z19, .i z20, .i z21, .i z22, .i z23, .c z24])) F (atI (nth q 0)) (atI (nth q 1)) (atI (nth q 2)) (atI (nth q 3)) (atI (nth q 4)) (atI (nth q 5)) (atI (nth q 6)) (atI (nth q 7)) (atI (nth q 8)) (atI (nth q 9)) (atI (nth q 10)) (atI (nth q 11)) (atI (nth q 12)) (atI (nth q 13)) (atI (nth q 14)) (atI (nth q 15)) (atI (nth q 16)) (atI (nth q 17)) (atI (nth q 18)) (atI (nth q 19)) (atI (nth q 20)) (atI (nth q 21)) (atI (nth q 22)) (atI (nth q 23)) (atC (nth q 24))⟩]) (tabJ []) (loopAt PP 32 0) 0) (headOf c_fuse_each 0) k (n + 1) (fS T_fuse_each_0 [.i x0, .i x1, .i x2, .i x3, .i x4, .i x5, .i x6, .i x7, .i x8, .i x9, .i x10, .i x11, .i x12, .i x13, .i x14, .i x15, .i x16, .i x17, .i x18, .i x19, .i x20, .i x21, .i x22, .i x23, .c x24]) = (fun (rc : Int → Int → Int → Int → Int → Int → Int → Int → Int → Int → Int → Int → Int → Int → Int → Int → Int → Int → Int → Int → Int → Int → Int → Int → List VV → R) (ex0 : Int → Int → Int → Int → Int → Int → Int → Int → Int → Int → Int → Int → Int → Int → Int → Int → Int → Int → Int → Int → Int → Int → Int → Int → List VV → R) (x0 : Int) (x1 : Int) (x2 : Int) (x3 : Int) (x4 : Int) (x5 : Int) (x6 : Int) (x7 : Int) (x8 : Int) (x9 : Int) (x10 : Int) (x11 : Int) (x12 : Int) (x13 : Int) (x14 : Int) (x15 : Int) (x16 : Int) (x17 : Int) (x18 : Int) (x19 : Int) (x20 : Int) (x21 : Int) (x22 : Int) (x23 : Int) (x24 : List VV) => (
  bif ((decide (x14 < 3))) then (
    bif (((decide (0 ≤ x14)) && (decide (x14 < 3))) && ((isI .i64 [.v (.int .i64 x11), .v (.int .i64 x12), .v (.int .i64 x13)][((Int.toNat x14) * 1)]?) && true)) then (
      let v3175 : Int := (iv [.v (.int .i64 x11), .v (.int .i64 x12), .v (.int .i64 x13)][((Int.toNat x14) * 1)]?)
      bif ((decide (0 ≤ x14)) && (decide (x14 < 3))) then (
        let v3176 : Nat := (0 + ((Int.toNat x14) * 1))
        bif (decide ((v3176 + 1) ≤ x24.length)) then (
          let v3177 : List VV := (x24.take v3176 ++ [.v (.int .i64 v3175)] ++ x24.drop (v3176 + 1))
          bif ((decide (x14 < x10))) then (
            bif ((decide (0 ≤ x14)) && (decide (x14 < 3))) then (
              let v3179 : Nat := (0 + ((Int.toNat x14) * 1))
              bif ((isI .i64 [.v (.int .i64 x18), .v (.int .i64 x19), .v (.int .i64 x20)][v3179]?) && true) then (
                let v3180 : Int := (iv [.v (.int .i64 x18), .v (.int .i64 x19), .v (.int .i64 x20)][v3179]?)
                bif (ok_fuse_Rule_pulled F x0 x1 x2 x3 v3175 v3180) then (
                  bif ((decide (0 ≤ x14)) && (decide (x14 < 3))) then (
                    let v3211 : Nat := (0 + ((Int.toNat x14) * 1))
                    bif (decide ((v3211 + 1) ≤ v3177.length)) then (
                      rc x0 x1 x2 x3 x4 x5 x6 x7 x8 x9 x10 x11 x12 x13 ((IntKind.wrap .i64 (x14 + 1))) x15 x16 x17 x18 x19 x20 x21 x22 x23 ((v3177.take v3211 ++ [.v (.int .i64 ((o_fuse_Rule_pulled_0 F x0 x1 x2 x3 v3175 v3180)))] ++ v3177.drop (v3211 + 1))))
                    else (
                      none))
                  else (
                    none))
                else (
                  none))
              else (
                none))
            else (
              none))
          else (
            rc x0 x1 x2 x3 x4 x5 x6 x7 x8 x9 x10 x11 x12 x13 ((IntKind.wrap .i64 (x14 + 1))) x15 x16 x17 x18 x19 x20 x21 x22 x23 v3177))
        else (
          none))
      else (
        none))
    else (
      none))
  else (
    ex0 x0 x1 x2 x3 x4 x5 x6 x7 x8 x9 x10 x11 x12 x13 x14 x15 x16 x17 x18 x19 x20 x21 x22 x23 x24) : R)) (fun (y0 : Int) (y1 : Int) (y2 : Int) (y3 : Int) (y4 : Int) (y5 : Int) (y6 : Int) (y7 : Int) (y8 : Int) (y9 : Int) (y10 : Int) (y11 : Int) (y12 : Int) (y13 : Int) (y14 : Int) (y15 : Int) (y16 : Int) (y17 : Int) (y18 : Int) (y19 : Int) (y20 : Int) (y21 : Int) (y22 : Int) (y23 : Int) (y24 : List VV) => iterC (codeL PP (words [(33, spec ti_fuse_Rule_pulled to_fuse_Rule_pulled (fun q => (ok_fuse_Rule_pulled F (atI (nth q 0)) (atI (nth q 1)) (atI (nth q 2)) (atI (nth q 3)) (atI (nth q 4)) (atI (nth q 5)))) (fun q => [.i (o_fuse_Rule_pulled_0 F (atI (nth q 0)) (atI (nth q 1)) (atI (nth q 2)) (atI (nth q 3)) (atI (nth q 4)) (atI (nth q 5)))]))]) c_fuse_each (tabI c_fuse_each [⟨0, T_fuse_each_0, fun k q => L_fuse_each_0 F (fun (z0 : Int) (z1 : Int) (z2 : Int) (z3 : Int) (z4 : Int) (z5 : Int) (z6 : Int) (z7 : Int) (z8 : Int) (z9 : Int) (z10 : Int) (z11 : Int) (z12 : Int) (z13 : Int) (z14 : Int) (z15 : Int) (z16 : Int) (z17 : Int) (z18 : Int) (z19 : Int) (z20 : Int) (z21 : Int) (z22 : Int) (z23 : Int) (z24 : List VV) => k (.exit 0) (fS T_fuse_each_0_0 [.i z0, .i z1, .i z2, .i z3, .i z4, .i z5, .i z6, .i z7, .i z8, .i z9, .i z10, .i z11, .i z12, .i z13, .i z14, .i z15, .i z16, .i z17, .i z18, .i z19, .i z20, .i z21, .i z22, .i z23, .c z24])) F (atI (nth q 0)) (atI (nth q 1)) (atI (nth q 2)) (atI (nth q 3)) (atI (nth q 4)) (atI (nth q 5)) (atI (nth q 6)) (atI (nth q 7)) (atI (nth q 8)) (atI (nth q 9)) (atI (nth q 10)) (atI (nth q 11)) (atI (nth q 12)) (atI (nth q 13)) (atI (nth q 14)) (atI (nth q 15)) (atI (nth q 16)) (atI (nth q 17)) (atI (nth q 18)) (atI (nth q 19)) (atI (nth q 20)) (atI (nth q 21)) (atI (nth q 22)) (atI (nth q 23)) (atC (nth q 24))⟩]) (tabJ []) (loopAt PP 32 0) 0) (headOf c_fuse_each 0) k n (fS T_fuse_each_0 [.i y0, .i y1, .i y2, .i y3, .i y4, .i y5, .i y6, .i y7, .i y8, .i y9, .i y10, .i y11, .i y12, .i y13, .i y14, .i y15, .i y16, .i y17, .i y18, .i y19, .i y20, .i y21, .i y22, .i y23, .c y24])) (fun (z0 : Int) (z1 : Int) (z2 : Int) (z3 : Int) (z4 : Int) (z5 : Int) (z6 : Int) (z7 : Int) (z8 : Int) (z9 : Int) (z10 : Int) (z11 : Int) (z12 : Int) (z13 : Int) (z14 : Int) (z15 : Int) (z16 : Int) (z17 : Int) (z18 : Int) (z19 : Int) (z20 : Int) (z21 : Int) (z22 : Int) (z23 : Int) (z24 : List VV) => k (.exit 0) (fS T_fuse_each_0_0 [.i z0, .i z1, .i z2, .i z3, .i z4, .i z5, .i z6, .i z7, .i z8, .i z9, .i z10, .i z11, .i z12, .i z13, .i z14, .i z15, .i z16, .i z17, .i z18, .i z19, .i z20, .i z21, .i z22, .i z23, .c z24])) x0 x1 x2 x3 x4 x5 x6 x7 x8 x9 x10 x11 x12 x13 x14 x15 x16 x17 x18 x19 x20 x21 x22 x23 x24 := by
      intros
      kernel_rfl
    have h : iterC (codeL PP (S_fuse_each F) c_fuse_each (I_fuse_each F) (J_fuse_each F) (loopAt PP 32 0) 0) (headOf c_fuse_each 0) k (n + 1) (fS T_fuse_each_0 [.i x0, .i x1, .i x2, .i x3, .i x4, .i x5, .i x6, .i x7, .i x8, .i x9, .i x10, .i x11, .i x12, .i x13, .i x14, .i x15, .i x16, .i x17, .i x18, .i x19, .i x20, .i x21, .i x22, .i x23, .c x24]) = B_fuse_each_0 F (fun (y0 : Int) (y1 : Int) (y2 : Int) (y3 : Int) (y4 : Int) (y5 : Int) (y6 : Int) (y7 : Int) (y8 : Int) (y9 : Int) (y10 : Int) (y11 : Int) (y12 : Int) (y13 : Int) (y14 : Int) (y15 : Int) (y16 : Int) (y17 : Int) (y18 : Int) (y19 : Int) (y20 : Int) (y21 : Int) (y22 : Int) (y23 : Int) (y24 : List VV) => iterC (codeL PP (S_fuse_each F) c_fuse_each (I_fuse_each F) (J_fuse_each F) (loopAt PP 32 0) 0) (headOf c_fuse_each 0) k n (fS T_fuse_each_0 [.i y0, .i y1, .i y2, .i y3, .i y4, .i y5, .i y6, .i y7, .i y8, .i y9, .i y10, .i y11, .i y12, .i y13, .i y14, .i y15, .i y16, .i y17, .i y18, .i y19, .i y20, .i y21, .i y22, .i y23, .c y24])) (fun (z0 : Int) (z1 : Int) (z2 : Int) (z3 : Int) (z4 : Int) (z5 : Int) (z6 : Int) (z7 : Int) (z8 : Int) (z9 : Int) (z10 : Int) (z11 : Int) (z12 : Int) (z13 : Int) (z14 : Int) (z15 : Int) (z16 : Int) (z17 : Int) (z18 : Int) (z19 : Int) (z20 : Int) (z21 : Int) (z22 : Int) (z23 : Int) (z24 : List VV) => k (.exit 0) (fS T_fuse_each_0_0 [.i z0, .i z1, .i z2, .i z3, .i z4, .i z5, .i z6, .i z7, .i z8, .i z9, .i z10, .i z11, .i z12, .i z13, .i z14, .i z15, .i z16, .i z17, .i z18, .i z19, .i z20, .i z21, .i z22, .i z23, .c z24])) x0 x1 x2 x3 x4 x5 x6 x7 x8 x9 x10 x11 x12 x13 x14 x15 x16 x17 x18 x19 x20 x21 x22 x23 x24 := (h0 ok_fuse_Rule_pulled o_fuse_Rule_pulled_0 L_fuse_each_0).trans (by kernel_rfl)
    rw [h]
    simp only [lL_fuse_each_0 F k n]
    rfl
def f_fuse_each (F : Nat) (a0 : Int) (a1 : Int) (a2 : Int) (a3 : Int) (a4 : Int) (a5 : Int) (a6 : Int) (a7 : Int) (a8 : Int) (a9 : Int) (a10 : Int) : R :=
  L_fuse_each_0 F (fun (v3215 : Int) (v3216 : Int) (v3217 : Int) (v3218 : Int) (v3219 : Int) (v3220 : Int) (v3221 : Int) (v3222 : Int) (v3223 : Int) (v3224 : Int) (v3225 : Int) (v3226 : Int) (v3227 : Int) (v3228 : Int) (v3229 : Int) (v3230 : Int) (v3231 : Int) (v3232 : Int) (v3233 : Int) (v3234 : Int) (v3235 : Int) (v3236 : Int) (v3237 : Int) (v3238 : Int) (v3239 : List VV) =>
    bif ((isI .i64 v3239[0]?) && ((isI .i64 v3239[1]?) && ((isI .i64 v3239[2]?) && true))) then (
      some (.v (.agg #[.int .i64 ((iv v3239[0]?)), .int .i64 ((iv v3239[1]?)), .int .i64 ((iv v3239[2]?))])))
    else (
      none)) F a0 a1 a2 a3 a4 a5 a6 a7 a8 a9 a10 a4 a5 a6 0 a4 a5 a6 a7 a8 a9 0 0 0 ([.v (.int .i64 0), .v (.int .i64 0), .v (.int .i64 0)])
theorem e_fuse_each (F : Nat) (a0 : Int) (a1 : Int) (a2 : Int) (a3 : Int) (a4 : Int) (a5 : Int) (a6 : Int) (a7 : Int) (a8 : Int) (a9 : Int) (a10 : Int) : funL PP (S_fuse_each F) c_fuse_each (I_fuse_each F) (J_fuse_each F) 32 (fTs ti_fuse_each [.i a0, .i a1, .i a2, .i a3, .i a4, .i a5, .i a6, .i a7, .i a8, .i a9, .i a10]).1 = f_fuse_each F a0 a1 a2 a3 a4 a5 a6 a7 a8 a9 a10 := by
  have h : ∀ (ok_fuse_Rule_pulled : Nat → Int → Int → Int → Int → Int → Int → Bool) (o_fuse_Rule_pulled_0 : Nat → Int → Int → Int → Int → Int → Int → Int) (L_fuse_each_0 : Nat → (Int → Int → Int → Int → Int → Int → Int → Int → Int → Int → Int → Int → Int → Int → Int → Int → Int → Int → Int → Int → Int → Int → Int → Int → List VV → R) → Nat → Int → Int → Int → Int → Int → Int → Int → Int → Int → Int → Int → Int → Int → Int → Int → Int → Int → Int → Int → Int → Int → Int → Int → Int → List VV → R), funL PP (words [(33, spec ti_fuse_Rule_pulled to_fuse_Rule_pulled (fun q => (ok_fuse_Rule_pulled F (atI (nth q 0)) (atI (nth q 1)) (atI (nth q 2)) (atI (nth q 3)) (atI (nth q 4)) (atI (nth q 5)))) (fun q => [.i (o_fuse_Rule_pulled_0 F (atI (nth q 0)) (atI (nth q 1)) (atI (nth q 2)) (atI (nth q 3)) (atI (nth q 4)) (atI (nth q 5)))]))]) c_fuse_each (tabI c_fuse_each [⟨0, T_fuse_each_0, fun k q => L_fuse_each_0 F (fun (z0 : Int) (z1 : Int) (z2 : Int) (z3 : Int) (z4 : Int) (z5 : Int) (z6 : Int) (z7 : Int) (z8 : Int) (z9 : Int) (z10 : Int) (z11 : Int) (z12 : Int) (z13 : Int) (z14 : Int) (z15 : Int) (z16 : Int) (z17 : Int) (z18 : Int) (z19 : Int) (z20 : Int) (z21 : Int) (z22 : Int) (z23 : Int) (z24 : List VV) => k (.exit 0) (fS T_fuse_each_0_0 [.i z0, .i z1, .i z2, .i z3, .i z4, .i z5, .i z6, .i z7, .i z8, .i z9, .i z10, .i z11, .i z12, .i z13, .i z14, .i z15, .i z16, .i z17, .i z18, .i z19, .i z20, .i z21, .i z22, .i z23, .c z24])) F (atI (nth q 0)) (atI (nth q 1)) (atI (nth q 2)) (atI (nth q 3)) (atI (nth q 4)) (atI (nth q 5)) (atI (nth q 6)) (atI (nth q 7)) (atI (nth q 8)) (atI (nth q 9)) (atI (nth q 10)) (atI (nth q 11)) (atI (nth q 12)) (atI (nth q 13)) (atI (nth q 14)) (atI (nth q 15)) (atI (nth q 16)) (atI (nth q 17)) (atI (nth q 18)) (atI (nth q 19)) (atI (nth q 20)) (atI (nth q 21)) (atI (nth q 22)) (atI (nth q 23)) (atC (nth q 24))⟩]) (tabJ []) 32 (fTs ti_fuse_each [.i a0, .i a1, .i a2, .i a3, .i a4, .i a5, .i a6, .i a7, .i a8, .i a9, .i a10]).1 = (
  L_fuse_each_0 F (fun (v3215 : Int) (v3216 : Int) (v3217 : Int) (v3218 : Int) (v3219 : Int) (v3220 : Int) (v3221 : Int) (v3222 : Int) (v3223 : Int) (v3224 : Int) (v3225 : Int) (v3226 : Int) (v3227 : Int) (v3228 : Int) (v3229 : Int) (v3230 : Int) (v3231 : Int) (v3232 : Int) (v3233 : Int) (v3234 : Int) (v3235 : Int) (v3236 : Int) (v3237 : Int) (v3238 : Int) (v3239 : List VV) =>
    bif ((isI .i64 v3239[0]?) && ((isI .i64 v3239[1]?) && ((isI .i64 v3239[2]?) && true))) then (
      some (.v (.agg #[.int .i64 ((iv v3239[0]?)), .int .i64 ((iv v3239[1]?)), .int .i64 ((iv v3239[2]?))])))
    else (
      none)) F a0 a1 a2 a3 a4 a5 a6 a7 a8 a9 a10 a4 a5 a6 0 a4 a5 a6 a7 a8 a9 0 0 0 ([.v (.int .i64 0), .v (.int .i64 0), .v (.int .i64 0)]) : R) := by
    intros
    kernel_rfl
  exact (h ok_fuse_Rule_pulled o_fuse_Rule_pulled_0 L_fuse_each_0).trans (by kernel_rfl)
def ok_fuse_each (F : Nat) (a0 : Int) (a1 : Int) (a2 : Int) (a3 : Int) (a4 : Int) (a5 : Int) (a6 : Int) (a7 : Int) (a8 : Int) (a9 : Int) (a10 : Int) : Bool := okT to_fuse_each (f_fuse_each F a0 a1 a2 a3 a4 a5 a6 a7 a8 a9 a10)
def o_fuse_each_0 (F : Nat) (a0 : Int) (a1 : Int) (a2 : Int) (a3 : Int) (a4 : Int) (a5 : Int) (a6 : Int) (a7 : Int) (a8 : Int) (a9 : Int) (a10 : Int) : Int := atI (nth (outT to_fuse_each (f_fuse_each F a0 a1 a2 a3 a4 a5 a6 a7 a8 a9 a10)) 0)
def o_fuse_each_1 (F : Nat) (a0 : Int) (a1 : Int) (a2 : Int) (a3 : Int) (a4 : Int) (a5 : Int) (a6 : Int) (a7 : Int) (a8 : Int) (a9 : Int) (a10 : Int) : Int := atI (nth (outT to_fuse_each (f_fuse_each F a0 a1 a2 a3 a4 a5 a6 a7 a8 a9 a10)) 1)
def o_fuse_each_2 (F : Nat) (a0 : Int) (a1 : Int) (a2 : Int) (a3 : Int) (a4 : Int) (a5 : Int) (a6 : Int) (a7 : Int) (a8 : Int) (a9 : Int) (a10 : Int) : Int := atI (nth (outT to_fuse_each (f_fuse_each F a0 a1 a2 a3 a4 a5 a6 a7 a8 a9 a10)) 2)
theorem k_fuse_each (F : Nat) (a0 : Int) (a1 : Int) (a2 : Int) (a3 : Int) (a4 : Int) (a5 : Int) (a6 : Int) (a7 : Int) (a8 : Int) (a9 : Int) (a10 : Int) {z0 : Int} {z1 : Int} {z2 : Int} (h : f_fuse_each F a0 a1 a2 a3 a4 a5 a6 a7 a8 a9 a10 = some (.v (.agg #[.int .i64 z0, .int .i64 z1, .int .i64 z2]))) : ok_fuse_each F a0 a1 a2 a3 a4 a5 a6 a7 a8 a9 a10 = true ∧ o_fuse_each_0 F a0 a1 a2 a3 a4 a5 a6 a7 a8 a9 a10 = z0 ∧ o_fuse_each_1 F a0 a1 a2 a3 a4 a5 a6 a7 a8 a9 a10 = z1 ∧ o_fuse_each_2 F a0 a1 a2 a3 a4 a5 a6 a7 a8 a9 a10 = z2 := by
  refine ⟨?_, ?_, ?_, ?_⟩
  · unfold ok_fuse_each; rw [h]; kernel_rfl
  · unfold o_fuse_each_0; rw [h]; kernel_rfl
  · unfold o_fuse_each_1; rw [h]; kernel_rfl
  · unfold o_fuse_each_2; rw [h]; kernel_rfl
def s_fuse_each (F : Nat) : List VV → Option (Bool × VV) := spec ti_fuse_each to_fuse_each (fun q => (ok_fuse_each F (atI (nth q 0)) (atI (nth q 1)) (atI (nth q 2)) (atI (nth q 3)) (atI (nth q 4)) (atI (nth q 5)) (atI (nth q 6)) (atI (nth q 7)) (atI (nth q 8)) (atI (nth q 9)) (atI (nth q 10)))) (fun q => [.i (o_fuse_each_0 F (atI (nth q 0)) (atI (nth q 1)) (atI (nth q 2)) (atI (nth q 3)) (atI (nth q 4)) (atI (nth q 5)) (atI (nth q 6)) (atI (nth q 7)) (atI (nth q 8)) (atI (nth q 9)) (atI (nth q 10))), .i (o_fuse_each_1 F (atI (nth q 0)) (atI (nth q 1)) (atI (nth q 2)) (atI (nth q 3)) (atI (nth q 4)) (atI (nth q 5)) (atI (nth q 6)) (atI (nth q 7)) (atI (nth q 8)) (atI (nth q 9)) (atI (nth q 10))), .i (o_fuse_each_2 F (atI (nth q 0)) (atI (nth q 1)) (atI (nth q 2)) (atI (nth q 3)) (atI (nth q 4)) (atI (nth q 5)) (atI (nth q 6)) (atI (nth q 7)) (atI (nth q 8)) (atI (nth q 9)) (atI (nth q 10)))])
theorem hS_fuse_each (F : Nat) : ∀ f, Good PP f (unS (S_fuse_each F f)) := words_good fun p hp => by
  simp only [List.mem_cons, List.not_mem_nil, or_false] at hp
  rcases hp with rfl
  · exact g_fuse_Rule_pulled F
theorem hl_fuse_each (F : Nat) : ∀ p ∈ loopsIn PP 32, LoopOK PP (S_fuse_each F) c_fuse_each F (I_fuse_each F) (J_fuse_each F) p :=
  loops_of [(0, loopAt PP 32 0)] (by kernel_rfl) (all_cons
    (loop_ok (W_fuse_each F) rfl (tab_cons (fun _ k q => Le.ofEq ((lL_fuse_each_0 F k F (atI (nth q 0)) (atI (nth q 1)) (atI (nth q 2)) (atI (nth q 3)) (atI (nth q 4)) (atI (nth q 5)) (atI (nth q 6)) (atI (nth q 7)) (atI (nth q 8)) (atI (nth q 9)) (atI (nth q 10)) (atI (nth q 11)) (atI (nth q 12)) (atI (nth q 13)) (atI (nth q 14)) (atI (nth q 15)) (atI (nth q 16)) (atI (nth q 17)) (atI (nth q 18)) (atI (nth q 19)) (atI (nth q 20)) (atI (nth q 21)) (atI (nth q 22)) (atI (nth q 23)) (atC (nth q 24))).symm.trans (congrArg (iterC (codeL PP (S_fuse_each F) c_fuse_each (I_fuse_each F) (J_fuse_each F) (loopAt PP 32 0) 0) (headOf c_fuse_each 0) k F) (show fS T_fuse_each_0 [.i (atI (nth q 0)), .i (atI (nth q 1)), .i (atI (nth q 2)), .i (atI (nth q 3)), .i (atI (nth q 4)), .i (atI (nth q 5)), .i (atI (nth q 6)), .i (atI (nth q 7)), .i (atI (nth q 8)), .i (atI (nth q 9)), .i (atI (nth q 10)), .i (atI (nth q 11)), .i (atI (nth q 12)), .i (atI (nth q 13)), .i (atI (nth q 14)), .i (atI (nth q 15)), .i (atI (nth q 16)), .i (atI (nth q 17)), .i (atI (nth q 18)), .i (atI (nth q 19)), .i (atI (nth q 20)), .i (atI (nth q 21)), .i (atI (nth q 22)), .i (atI (nth q 23)), .c (atC (nth q 24))] = fS T_fuse_each_0 q by kernel_rfl)))) tab_nil)) all_nil)
theorem hj_fuse_each (F : Nat) : ∀ p ∈ joinsIn PP c_fuse_each 32, JoinOK PP (S_fuse_each F) c_fuse_each (I_fuse_each F) (J_fuse_each F) p :=
  joins_of [] (by kernel_rfl) all_nil
theorem g_fuse_each (F : Nat) : Good PP 32 (unS (s_fuse_each F)) :=
  fun_spec (hS_fuse_each F) (by kernel_rfl) (by kernel_rfl) (C := c_fuse_each) (F := fun q => (f_fuse_each F (atI (nth q 0)) (atI (nth q 1)) (atI (nth q 2)) (atI (nth q 3)) (atI (nth q 4)) (atI (nth q 5)) (atI (nth q 6)) (atI (nth q 7)) (atI (nth q 8)) (atI (nth q 9)) (atI (nth q 10)))) (fun _ => F) (fun _ => I_fuse_each F) (fun _ => J_fuse_each F) (fun _ => hl_fuse_each F) (fun _ => hj_fuse_each F)
    (fun q => (congrArg (funL PP (S_fuse_each F) c_fuse_each (I_fuse_each F) (J_fuse_each F) 32) (show (fTs ti_fuse_each q).1 = (fTs ti_fuse_each [.i (atI (nth q 0)), .i (atI (nth q 1)), .i (atI (nth q 2)), .i (atI (nth q 3)), .i (atI (nth q 4)), .i (atI (nth q 5)), .i (atI (nth q 6)), .i (atI (nth q 7)), .i (atI (nth q 8)), .i (atI (nth q 9)), .i (atI (nth q 10))]).1 by kernel_rfl)).trans (e_fuse_each F (atI (nth q 0)) (atI (nth q 1)) (atI (nth q 2)) (atI (nth q 3)) (atI (nth q 4)) (atI (nth q 5)) (atI (nth q 6)) (atI (nth q 7)) (atI (nth q 8)) (atI (nth q 9)) (atI (nth q 10))))
    (fun _ h => (okT_fill h).trans (congrArg some (by kernel_rfl)))

end Go.Xv
