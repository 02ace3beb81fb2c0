/- FuseBounded: no axis is ever above the limit, or changes by more than Step at once. -/
import Derived.Test.YtiahhalhbacgaaaBX2
import Derived.Test.YtiahhalhbacgaaaProg
import Derived.KernelRfl
namespace Go.Xv
abbrev iI (q : List At) (i : Nat) : Int := atI (nth q i)
abbrev iN (q : List At) (i : Nat) : Nat := atN (nth q i)
abbrev iB (q : List At) (i : Nat) : Bool := atB (nth q i)
abbrev Y0 : Type := Nat → Int → Int → Int → Bool
abbrev Y1 : Type := Nat → Int → Int → Int → Int
abbrev Y2 : Type := Nat → Int → Int → Int → Int → Int → Bool
abbrev Y3 : Type := Nat → Int → Int → Int → Int → Int → Int
abbrev Y4 : Type := Int → Int → Int → Int → Bool → Bool → Int → Int → Int → Int → List VV → R
abbrev Y5 : Type := Nat → Int → Int → Int → Int → Bool → Bool → Int → Int → Int → Int → List VV → R
abbrev Y6 : Type := Nat → Int → Int → Int → Int → Bool
abbrev Y7 : Type := Nat → Int → Int → Int → Int → Int
abbrev Y8 : Type := Nat → Int → Int → Int → Int → Int → Int → Int → Int → Bool
abbrev Y9 : Type := Nat → Int → Int → Int → Int → Int → Int → Int → Int → Int
abbrev Y10 : Type := Nat → Int → Int → Int → Int → Int → Int → Bool
abbrev Y11 : Type := Nat → Int → Int → Int → Int → Int → Int → Int
abbrev Y12 : Type := Int → Int → Int → Int → Int → Int → Int → Int → Int → Int → Int → Int → Int → Int → Int → Int → Int → Int → Int → Int → Int → Int → Int → Int → List VV → R
abbrev Y13 : Type := Nat → Int → Int → Int → Int → Int → Int → Int → Int → Int → Int → Int → Int → Int → Int → Int → Int → Int → Int → Int → Int → Int → Int → Int → Int → List VV → R
abbrev Y14 : Type := Nat → Int → Int → Int → Int → Int → Int → Int → Int → Int → Bool
abbrev Y15 : Type := Nat → Int → Int → Int → Int → Int → Int → Int → Int → Int → Int → Int → Bool
abbrev Y16 : Type := Nat → Int → Int → Int → Int → Int → Int → Int → Int → Int → Int → Int → Int
abbrev Y17 : Type := List VV → Nat → Int → Bool → List VV → Nat → Int → Int → Int → Int → R
abbrev Y18 : Type := Nat → List VV → Nat → Int → Bool → List VV → Nat → Int → Int → Int → Int → R
abbrev Y19 : Type := Nat → List VV → Nat → Bool
abbrev Y20 : Type := Nat → List VV → Nat → Int
abbrev Y21 : Type := Nat → Int → Int → Int → Int → Int → Int → Int → Int → Int → Int → Int → Int → Int → Bool
abbrev Y22 : Type := Nat → Int → Int → Int → Int → Int → Int → Int → Int → Int → Int → Int → Int → Int → Int
abbrev Y23 : Type := Int → Int → Int → Int → List VV → Nat → Nat → List VV → Nat → Nat → Bool → Int → Int → Int → Int → Int → Int → Int → Int → Int → Int → Int → Int → Int → Int → Int → Int → Int → R
abbrev Y24 : Type := Int → Int → Int → Int → List VV → Nat → Nat → List VV → Nat → Nat → Bool → Int → Int → Int → Int → Int → Int → Int → Int → Int → Int → Int → Int → Int → Int → Int → Int → Int → Int → Int → R
abbrev Y25 : Type := Nat → Int → Int → Int → Int → List VV → Nat → Nat → List VV → Nat → Nat → Bool → Int → Int → Int → Int → Int → Int → Int → Int → Int → Int → Int → Int → Int → Int → Int → Int → Int → R
abbrev Y26 : Type := Int → Int → Int → Int → List VV → Nat → Nat → List VV → Nat → Nat → Bool → Int → Int → Int → Int → Int → Int → Int → Int → Int → Int → Int → Int → Int → Int → Int → Int → R
abbrev Y27 : Type := Nat → Int → Int → Int → Int → Int → Int → Int → Int → Int → Int
abbrev Y28 : Type := Int → Int → Int → Int → List VV → Nat → Nat → List VV → Nat → Nat → Bool → Int → Int → Int → Int → Int → Int → Int → Int → Int → Int → Int → R
abbrev Y29 : Type := Int → Int → Int → Int → List VV → Nat → Nat → List VV → Nat → Nat → Bool → Int → Int → Int → Int → Int → Int → Int → Int → Int → Int → R
abbrev Y30 : Type := Nat → Int → Int → Int → Int → List VV → Nat → Nat → List VV → Nat → Nat → Bool → Int → Int → Int → Int → Int → Int → Int → Int → Int → Int → R
end Go.Xv
namespace Go.Xv
noncomputable abbrev PP := Proofs.Try.prog
end Go.Xv
set_option linter.unusedVariables false
namespace Go.Xv
/- 66 _wide_Add -/
def c_w : Cfg := ⟨[0, 1, 2, 3, 4, 5, 6, 22], [], [], []⟩
def ti_w : List TV := [.v (.agg [.int .i64, .int .u64]), .v (.agg [.int .i64, .int .u64])]
def to_w : TV := .v (.agg [.int .i64, .int .u64])
def S_w (F : Nat) : FuncId → List VV → Option (Bool × VV) := words []
def W_w (F : Nat) : List LW := []
def I_w (F : Nat) : Nat → VS → (Exit → VS → R) → R := tabI c_w (W_w F)
def WJ_w (F : Nat) : List LJ := []
def J_w (F : Nat) : Nat → Nat → VS → (Exit → VS → R) → R := tabJ (WJ_w F)
def fg_w (F : Nat) (a0 a1 a2 a3 : Int) : R :=
 let v104 : Int := (IntKind.wrap .u64 (a1 + a3))
 let v107 : Int := (IntKind.wrap .u64 (((IntKind.wrap .u64 a0)) + ((IntKind.wrap .u64 a2))))
 bif ((decide (v104 < a1))) then (
 some (.v (.agg #[.int .i64 ((IntKind.wrap .i64 ((IntKind.wrap .u64 (v107 + 1))))), .int .u64 v104])))
 else (
 some (.v (.agg #[.int .i64 ((IntKind.wrap .i64 v107)), .int .u64 v104])))
def f_w (F : Nat) (a0 a1 a2 a3 : Int) : R := fg_w F a0 a1 a2 a3
theorem e_w (F : Nat) (a0 a1 a2 a3 : Int) : funL PP (S_w F) c_w (I_w F) (J_w F) 66 (fTs ti_w [.i a0, .i a1, .i a2, .i a3]).1 = f_w F a0 a1 a2 a3 := by
  have h : ∀ (_ : Unit), funL PP (words []) c_w (tabI c_w []) (tabJ []) 66 (fTs ti_w [.i a0, .i a1, .i a2, .i a3]).1 = fg_w F a0 a1 a2 a3 := by
    intros
    kernel_rfl
  exact (h ()).trans (by kernel_rfl)
def ok_w (F : Nat) (a0 a1 a2 a3 : Int) : Bool := okT to_w (f_w F a0 a1 a2 a3)
def o_w_0 (F : Nat) (a0 a1 a2 a3 : Int) : Int := atI (nth (outT to_w (f_w F a0 a1 a2 a3)) 0)
def o_w_1 (F : Nat) (a0 a1 a2 a3 : Int) : Int := atI (nth (outT to_w (f_w F a0 a1 a2 a3)) 1)
theorem k_w (F : Nat) (a0 a1 a2 a3 : Int) {z0 : Int} {z1 : Int} (h : f_w F a0 a1 a2 a3 = some (.v (.agg #[.int .i64 z0, .int .u64 z1]))) : ok_w F a0 a1 a2 a3 = true ∧ o_w_0 F a0 a1 a2 a3 = z0 ∧ o_w_1 F a0 a1 a2 a3 = z1 := by
  refine ⟨?_, ?_, ?_⟩
  · unfold ok_w; rw [h]; kernel_rfl
  · unfold o_w_0; rw [h]; kernel_rfl
  · unfold o_w_1; rw [h]; kernel_rfl
def z_w (k : Y6) (r0 : Y7) (r1 : Y7) (F : Nat) : List VV → Option (Bool × VV) := spec ti_w to_w (fun q => (k F (iI q 0) (iI q 1) (iI q 2) (iI q 3))) (fun q => [.i (r0 F (iI q 0) (iI q 1) (iI q 2) (iI q 3)), .i (r1 F (iI q 0) (iI q 1) (iI q 2) (iI q 3))])
def s_w (F : Nat) : List VV → Option (Bool × VV) := z_w ok_w o_w_0 o_w_1 F
theorem hS_w (F : Nat) : ∀ f, Good PP f (unS (S_w F f)) := words_good fun p hp => by
  cases hp
theorem hl_w (F : Nat) : ∀ p ∈ loopsIn PP 66, LoopOK PP (S_w F) c_w F (I_w F) (J_w F) p :=
  loops_of [] (by kernel_rfl) all_nil
theorem hj_w (F : Nat) : ∀ p ∈ joinsIn PP c_w 66, JoinOK PP (S_w F) c_w (I_w F) (J_w F) p :=
  joins_of [] (by kernel_rfl) all_nil
theorem g_w (F : Nat) : Good PP 66 (unS (s_w F)) :=
  fun_spec (hS_w F) (by kernel_rfl) (by kernel_rfl) (C := c_w) (F := fun q => (f_w F (iI q 0) (iI q 1) (iI q 2) (iI q 3))) (fun _ => F) (fun _ => I_w F) (fun _ => J_w F) (fun _ => hl_w F) (fun _ => hj_w F)
    (fun q => (congrArg (funL PP (S_w F) c_w (I_w F) (J_w F) 66) (show (fTs ti_w q).1 = (fTs ti_w [.i (iI q 0), .i (iI q 1), .i (iI q 2), .i (iI q 3)]).1 by kernel_rfl)).trans (e_w F (iI q 0) (iI q 1) (iI q 2) (iI q 3)))
    (fun _ h => (okT_fill h).trans (congrArg some (by kernel_rfl)))

end Go.Xv
set_option linter.unusedVariables false
namespace Go.Xv
/- 86 _wide_Left -/
def c_s : Cfg := ⟨[0, 1, 2, 4, 7, 11], [], [], []⟩
def ti_s : List TV := [.v (.agg [.int .i64, .int .u64]), .v (.int .i64)]
def to_s : TV := .v (.agg [.int .i64, .int .u64])
def S_s (F : Nat) : FuncId → List VV → Option (Bool × VV) := words []
def W_s (F : Nat) : List LW := []
def I_s (F : Nat) : Nat → VS → (Exit → VS → R) → R := tabI c_s (W_s F)
def WJ_s (F : Nat) : List LJ := []
def J_s (F : Nat) : Nat → Nat → VS → (Exit → VS → R) → R := tabJ (WJ_s F)
def fg_s (F : Nat) (a0 a1 a2 : Int) : R :=
 let v221 : Int := (if 0 > a2 then 0 else a2)
 bif ((decide (v221 ≥ 128))) then (
 some (.v (.agg #[.int .i64 0, .int .u64 0])))
 else (
 bif ((decide (v221 ≥ 64))) then (
 let v224 : Int := (IntKind.wrap .i64 (v221 - 64))
 bif (!(decide (v224 < 0))) then (
 some (.v (.agg #[.int .i64 ((IntKind.wrap .i64 ((IntKind.wrap .u64 (a1 * 2 ^ (min (Int.toNat v224) 64)))))), .int .u64 0]))) else none)
 else (
 bif (!(decide (v221 < 0))) then (
 let v229 : Int := (IntKind.wrap .i64 (64 - v221))
 bif (!(decide (v229 < 0))) then (
 bif (!(decide (v221 < 0))) then (
 some (.v (.agg #[.int .i64 ((IntKind.wrap .i64 ((orI .u64 ((IntKind.wrap .u64 (((IntKind.wrap .u64 a0)) * 2 ^ (min (Int.toNat v221) 64)))) ((Int.fdiv a1 (2 ^ (min (Int.toNat v229) 64)))))))), .int .u64 ((IntKind.wrap .u64 (a1 * 2 ^ (min (Int.toNat v221) 64))))]))) else none) else none) else none))
def f_s (F : Nat) (a0 a1 a2 : Int) : R := fg_s F a0 a1 a2
theorem e_s (F : Nat) (a0 a1 a2 : Int) : funL PP (S_s F) c_s (I_s F) (J_s F) 86 (fTs ti_s [.i a0, .i a1, .i a2]).1 = f_s F a0 a1 a2 := by
  have h : ∀ (_ : Unit), funL PP (words []) c_s (tabI c_s []) (tabJ []) 86 (fTs ti_s [.i a0, .i a1, .i a2]).1 = fg_s F a0 a1 a2 := by
    intros
    kernel_rfl
  exact (h ()).trans (by kernel_rfl)
def ok_s (F : Nat) (a0 a1 a2 : Int) : Bool := okT to_s (f_s F a0 a1 a2)
def o_s_0 (F : Nat) (a0 a1 a2 : Int) : Int := atI (nth (outT to_s (f_s F a0 a1 a2)) 0)
def o_s_1 (F : Nat) (a0 a1 a2 : Int) : Int := atI (nth (outT to_s (f_s F a0 a1 a2)) 1)
theorem k_s (F : Nat) (a0 a1 a2 : Int) {z0 : Int} {z1 : Int} (h : f_s F a0 a1 a2 = some (.v (.agg #[.int .i64 z0, .int .u64 z1]))) : ok_s F a0 a1 a2 = true ∧ o_s_0 F a0 a1 a2 = z0 ∧ o_s_1 F a0 a1 a2 = z1 := by
  refine ⟨?_, ?_, ?_⟩
  · unfold ok_s; rw [h]; kernel_rfl
  · unfold o_s_0; rw [h]; kernel_rfl
  · unfold o_s_1; rw [h]; kernel_rfl
def s_s (F : Nat) : List VV → Option (Bool × VV) := spec ti_s to_s (fun q => (ok_s F (iI q 0) (iI q 1) (iI q 2))) (fun q => [.i (o_s_0 F (iI q 0) (iI q 1) (iI q 2)), .i (o_s_1 F (iI q 0) (iI q 1) (iI q 2))])
theorem hS_s (F : Nat) : ∀ f, Good PP f (unS (S_s F f)) := words_good fun p hp => by
  cases hp
theorem hl_s (F : Nat) : ∀ p ∈ loopsIn PP 86, LoopOK PP (S_s F) c_s F (I_s F) (J_s F) p :=
  loops_of [] (by kernel_rfl) all_nil
theorem hj_s (F : Nat) : ∀ p ∈ joinsIn PP c_s 86, JoinOK PP (S_s F) c_s (I_s F) (J_s F) p :=
  joins_of [] (by kernel_rfl) all_nil
theorem g_s (F : Nat) : Good PP 86 (unS (s_s F)) :=
  fun_spec (hS_s F) (by kernel_rfl) (by kernel_rfl) (C := c_s) (F := fun q => (f_s F (iI q 0) (iI q 1) (iI q 2))) (fun _ => F) (fun _ => I_s F) (fun _ => J_s F) (fun _ => hl_s F) (fun _ => hj_s F)
    (fun q => (congrArg (funL PP (S_s F) c_s (I_s F) (J_s F) 86) (show (fTs ti_s q).1 = (fTs ti_s [.i (iI q 0), .i (iI q 1), .i (iI q 2)]).1 by kernel_rfl)).trans (e_s F (iI q 0) (iI q 1) (iI q 2)))
    (fun _ h => (okT_fill h).trans (congrArg some (by kernel_rfl)))

end Go.Xv
set_option linter.unusedVariables false
namespace Go.Xv
/- 87 _wide_Of -/
def c_z : Cfg := ⟨[0, 2], [], [], []⟩
def ti_z : List TV := [.v (.int .i64)]
def to_z : TV := .v (.agg [.int .i64, .int .u64])
def S_z (F : Nat) : FuncId → List VV → Option (Bool × VV) := words []
def W_z (F : Nat) : List LW := []
def I_z (F : Nat) : Nat → VS → (Exit → VS → R) → R := tabI c_z (W_z F)
def WJ_z (F : Nat) : List LJ := []
def J_z (F : Nat) : Nat → Nat → VS → (Exit → VS → R) → R := tabJ (WJ_z F)
def fg_z (F : Nat) (a0 : Int) : R :=
 some (.v (.agg #[.int .i64 ((Int.fdiv a0 (9223372036854775808))), .int .u64 ((IntKind.wrap .u64 a0))]))
def f_z (F : Nat) (a0 : Int) : R := fg_z F a0
theorem e_z (F : Nat) (a0 : Int) : funL PP (S_z F) c_z (I_z F) (J_z F) 87 (fTs ti_z [.i a0]).1 = f_z F a0 := by
  have h : ∀ (_ : Unit), funL PP (words []) c_z (tabI c_z []) (tabJ []) 87 (fTs ti_z [.i a0]).1 = fg_z F a0 := by
    intros
    kernel_rfl
  exact (h ()).trans (by kernel_rfl)
def ok_z (F : Nat) (a0 : Int) : Bool := okT to_z (f_z F a0)
def o_z_0 (F : Nat) (a0 : Int) : Int := atI (nth (outT to_z (f_z F a0)) 0)
def o_z_1 (F : Nat) (a0 : Int) : Int := atI (nth (outT to_z (f_z F a0)) 1)
theorem k_z (F : Nat) (a0 : Int) {z0 : Int} {z1 : Int} (h : f_z F a0 = some (.v (.agg #[.int .i64 z0, .int .u64 z1]))) : ok_z F a0 = true ∧ o_z_0 F a0 = z0 ∧ o_z_1 F a0 = z1 := by
  refine ⟨?_, ?_, ?_⟩
  · unfold ok_z; rw [h]; kernel_rfl
  · unfold o_z_0; rw [h]; kernel_rfl
  · unfold o_z_1; rw [h]; kernel_rfl
def z_z (k : Nat → Int → Bool) (r0 : Nat → Int → Int) (r1 : Nat → Int → Int) (F : Nat) : List VV → Option (Bool × VV) := spec ti_z to_z (fun q => (k F (iI q 0))) (fun q => [.i (r0 F (iI q 0)), .i (r1 F (iI q 0))])
def s_z (F : Nat) : List VV → Option (Bool × VV) := z_z ok_z o_z_0 o_z_1 F
theorem hS_z (F : Nat) : ∀ f, Good PP f (unS (S_z F f)) := words_good fun p hp => by
  cases hp
theorem hl_z (F : Nat) : ∀ p ∈ loopsIn PP 87, LoopOK PP (S_z F) c_z F (I_z F) (J_z F) p :=
  loops_of [] (by kernel_rfl) all_nil
theorem hj_z (F : Nat) : ∀ p ∈ joinsIn PP c_z 87, JoinOK PP (S_z F) c_z (I_z F) (J_z F) p :=
  joins_of [] (by kernel_rfl) all_nil
theorem g_z (F : Nat) : Good PP 87 (unS (s_z F)) :=
  fun_spec (hS_z F) (by kernel_rfl) (by kernel_rfl) (C := c_z) (F := fun q => (f_z F (iI q 0))) (fun _ => F) (fun _ => I_z F) (fun _ => J_z F) (fun _ => hl_z F) (fun _ => hj_z F)
    (fun q => (congrArg (funL PP (S_z F) c_z (I_z F) (J_z F) 87) (show (fTs ti_z q).1 = (fTs ti_z [.i (iI q 0)]).1 by kernel_rfl)).trans (e_z F (iI q 0)))
    (fun _ h => (okT_fill h).trans (congrArg some (by kernel_rfl)))

end Go.Xv
set_option linter.unusedVariables false
namespace Go.Xv
/- 88 _wide_Clip -/
def c_r : Cfg := ⟨[0, 1, 2, 3, 4, 8, 14], [], [], []⟩
def ti_r : List TV := [.v (.agg [.int .i64, .int .u64])]
def to_r : TV := .v (.tup [.int .i64, .bool])
def S_r (F : Nat) : FuncId → List VV → Option (Bool × VV) := words [(87, s_z F)]
def W_r (F : Nat) : List LW := []
def I_r (F : Nat) : Nat → VS → (Exit → VS → R) → R := tabI c_r (W_r F)
def WJ_r (F : Nat) : List LJ := []
def J_r (F : Nat) : Nat → Nat → VS → (Exit → VS → R) → R := tabJ (WJ_r F)
def fg_r (ok_z : Nat → Int → Bool) (o_z_0 : Nat → Int → Int) (o_z_1 : Nat → Int → Int) (F : Nat) (a0 a1 : Int) : R :=
 let v157 : Int := (IntKind.wrap .i64 a1)
 bif (ok_z F v157) then (
 bif (((((o_z_0 F v157)) == a0) && (((o_z_1 F v157)) == a1))) then (
 some (.v (.tuple #[.int .i64 v157, .bool false])))
 else (
 bif ((decide (a0 < 0))) then (
 some (.v (.tuple #[.int .i64 (-9223372036854775808), .bool true])))
 else (
 some (.v (.tuple #[.int .i64 9223372036854775807, .bool true]))))) else none
def f_r (F : Nat) (a0 a1 : Int) : R := fg_r ok_z o_z_0 o_z_1 F a0 a1
theorem e_r (F : Nat) (a0 a1 : Int) : funL PP (S_r F) c_r (I_r F) (J_r F) 88 (fTs ti_r [.i a0, .i a1]).1 = f_r F a0 a1 := by
  have h : ∀ (ok_z : Nat → Int → Bool) (o_z_0 : Nat → Int → Int) (o_z_1 : Nat → Int → Int), funL PP (words [(87, z_z ok_z o_z_0 o_z_1 F)]) c_r (tabI c_r []) (tabJ []) 88 (fTs ti_r [.i a0, .i a1]).1 = fg_r ok_z o_z_0 o_z_1 F a0 a1 := by
    intros
    kernel_rfl
  exact (h ok_z o_z_0 o_z_1).trans (by kernel_rfl)
def ok_r (F : Nat) (a0 a1 : Int) : Bool := okT to_r (f_r F a0 a1)
def o_r_0 (F : Nat) (a0 a1 : Int) : Int := atI (nth (outT to_r (f_r F a0 a1)) 0)
def o_r_1 (F : Nat) (a0 a1 : Int) : Bool := atB (nth (outT to_r (f_r F a0 a1)) 1)
theorem k_r (F : Nat) (a0 a1 : Int) {z0 : Int} {z1 : Bool} (h : f_r F a0 a1 = some (.v (.tuple #[.int .i64 z0, .bool z1]))) : ok_r F a0 a1 = true ∧ o_r_0 F a0 a1 = z0 ∧ o_r_1 F a0 a1 = z1 := by
  refine ⟨?_, ?_, ?_⟩
  · unfold ok_r; rw [h]; kernel_rfl
  · unfold o_r_0; rw [h]; kernel_rfl
  · unfold o_r_1; rw [h]; kernel_rfl
def s_r (F : Nat) : List VV → Option (Bool × VV) := spec ti_r to_r (fun q => (ok_r F (iI q 0) (iI q 1))) (fun q => [.i (o_r_0 F (iI q 0) (iI q 1)), .b (o_r_1 F (iI q 0) (iI q 1))])
theorem hS_r (F : Nat) : ∀ f, Good PP f (unS (S_r F f)) := words_good fun p hp => by
  simp only [List.mem_cons, List.not_mem_nil, or_false] at hp
  rcases hp with rfl
  · exact g_z F
theorem hl_r (F : Nat) : ∀ p ∈ loopsIn PP 88, LoopOK PP (S_r F) c_r F (I_r F) (J_r F) p :=
  loops_of [] (by kernel_rfl) all_nil
theorem hj_r (F : Nat) : ∀ p ∈ joinsIn PP c_r 88, JoinOK PP (S_r F) c_r (I_r F) (J_r F) p :=
  joins_of [] (by kernel_rfl) all_nil
theorem g_r (F : Nat) : Good PP 88 (unS (s_r F)) :=
  fun_spec (hS_r F) (by kernel_rfl) (by kernel_rfl) (C := c_r) (F := fun q => (f_r F (iI q 0) (iI q 1))) (fun _ => F) (fun _ => I_r F) (fun _ => J_r F) (fun _ => hl_r F) (fun _ => hj_r F)
    (fun q => (congrArg (funL PP (S_r F) c_r (I_r F) (J_r F) 88) (show (fTs ti_r q).1 = (fTs ti_r [.i (iI q 0), .i (iI q 1)]).1 by kernel_rfl)).trans (e_r F (iI q 0) (iI q 1)))
    (fun _ h => (okT_fill h).trans (congrArg some (by kernel_rfl)))

end Go.Xv
set_option linter.unusedVariables false
namespace Go.Xv
/- 59 _fix_Add -/
def c_x : Cfg := ⟨[0, 1, 4, 5, 6, 17, 20], [], [], []⟩
def ti_x : List TV := [.v (.int .i64), .v (.int .i64)]
def to_x : TV := .v (.tup [.int .i64, .bool])
def S_x (F : Nat) : FuncId → List VV → Option (Bool × VV) := words []
def W_x (F : Nat) : List LW := []
def I_x (F : Nat) : Nat → VS → (Exit → VS → R) → R := tabI c_x (W_x F)
def WJ_x (F : Nat) : List LJ := []
def J_x (F : Nat) : Nat → Nat → VS → (Exit → VS → R) → R := tabJ (WJ_x F)
def fg_x (F : Nat) (a0 a1 : Int) : R :=
 let v3199 : Int := (IntKind.wrap .i64 (a0 + a1))
 bif ((decide (((andI .i64 ((xorI .i64 a0 v3199)) ((xorI .i64 a1 v3199)))) ≥ 0))) then (
 some (.v (.tuple #[.int .i64 v3199, .bool false])))
 else (
 bif ((decide (a0 < 0))) then (
 some (.v (.tuple #[.int .i64 (-9223372036854775808), .bool true])))
 else (
 some (.v (.tuple #[.int .i64 9223372036854775807, .bool true]))))
def f_x (F : Nat) (a0 a1 : Int) : R := fg_x F a0 a1
theorem e_x (F : Nat) (a0 a1 : Int) : funL PP (S_x F) c_x (I_x F) (J_x F) 59 (fTs ti_x [.i a0, .i a1]).1 = f_x F a0 a1 := by
  have h : ∀ (_ : Unit), funL PP (words []) c_x (tabI c_x []) (tabJ []) 59 (fTs ti_x [.i a0, .i a1]).1 = fg_x F a0 a1 := by
    intros
    kernel_rfl
  exact (h ()).trans (by kernel_rfl)
def ok_x (F : Nat) (a0 a1 : Int) : Bool := okT to_x (f_x F a0 a1)
def o_x_0 (F : Nat) (a0 a1 : Int) : Int := atI (nth (outT to_x (f_x F a0 a1)) 0)
def o_x_1 (F : Nat) (a0 a1 : Int) : Bool := atB (nth (outT to_x (f_x F a0 a1)) 1)
theorem k_x (F : Nat) (a0 a1 : Int) {z0 : Int} {z1 : Bool} (h : f_x F a0 a1 = some (.v (.tuple #[.int .i64 z0, .bool z1]))) : ok_x F a0 a1 = true ∧ o_x_0 F a0 a1 = z0 ∧ o_x_1 F a0 a1 = z1 := by
  refine ⟨?_, ?_, ?_⟩
  · unfold ok_x; rw [h]; kernel_rfl
  · unfold o_x_0; rw [h]; kernel_rfl
  · unfold o_x_1; rw [h]; kernel_rfl
def s_x (F : Nat) : List VV → Option (Bool × VV) := spec ti_x to_x (fun q => (ok_x F (iI q 0) (iI q 1))) (fun q => [.i (o_x_0 F (iI q 0) (iI q 1)), .b (o_x_1 F (iI q 0) (iI q 1))])
theorem hS_x (F : Nat) : ∀ f, Good PP f (unS (S_x F f)) := words_good fun p hp => by
  cases hp
theorem hl_x (F : Nat) : ∀ p ∈ loopsIn PP 59, LoopOK PP (S_x F) c_x F (I_x F) (J_x F) p :=
  loops_of [] (by kernel_rfl) all_nil
theorem hj_x (F : Nat) : ∀ p ∈ joinsIn PP c_x 59, JoinOK PP (S_x F) c_x (I_x F) (J_x F) p :=
  joins_of [] (by kernel_rfl) all_nil
theorem g_x (F : Nat) : Good PP 59 (unS (s_x F)) :=
  fun_spec (hS_x F) (by kernel_rfl) (by kernel_rfl) (C := c_x) (F := fun q => (f_x F (iI q 0) (iI q 1))) (fun _ => F) (fun _ => I_x F) (fun _ => J_x F) (fun _ => hl_x F) (fun _ => hj_x F)
    (fun q => (congrArg (funL PP (S_x F) c_x (I_x F) (J_x F) 59) (show (fTs ti_x q).1 = (fTs ti_x [.i (iI q 0), .i (iI q 1)]).1 by kernel_rfl)).trans (e_x F (iI q 0) (iI q 1)))
    (fun _ h => (okT_fill h).trans (congrArg some (by kernel_rfl)))

end Go.Xv
set_option linter.unusedVariables false
namespace Go.Xv
/- 58 _fix_Clamp -/
def c_k : Cfg := ⟨[0, 1, 2, 6, 7, 8, 11], [], [], []⟩
def ti_k : List TV := [.v (.int .i64), .v (.int .i64), .v (.int .i64)]
def to_k : TV := .v (.tup [.int .i64, .bool])
def S_k (F : Nat) : FuncId → List VV → Option (Bool × VV) := words []
def W_k (F : Nat) : List LW := []
def I_k (F : Nat) : Nat → VS → (Exit → VS → R) → R := tabI c_k (W_k F)
def WJ_k (F : Nat) : List LJ := []
def J_k (F : Nat) : Nat → Nat → VS → (Exit → VS → R) → R := tabJ (WJ_k F)
def fg_k (F : Nat) (a0 a1 a2 : Int) : R :=
 bif ((decide (a2 < a1))) then (
 some (.v (.tuple #[.int .i64 a1, .bool true])))
 else (
 let v17 : Int := (if a1 > a0 then a1 else a0)
 let v18 : Int := (if a2 < v17 then a2 else v17)
 some (.v (.tuple #[.int .i64 v18, .bool ((v18 != a0))])))
def f_k (F : Nat) (a0 a1 a2 : Int) : R := fg_k F a0 a1 a2
theorem e_k (F : Nat) (a0 a1 a2 : Int) : funL PP (S_k F) c_k (I_k F) (J_k F) 58 (fTs ti_k [.i a0, .i a1, .i a2]).1 = f_k F a0 a1 a2 := by
  have h : ∀ (_ : Unit), funL PP (words []) c_k (tabI c_k []) (tabJ []) 58 (fTs ti_k [.i a0, .i a1, .i a2]).1 = fg_k F a0 a1 a2 := by
    intros
    kernel_rfl
  exact (h ()).trans (by kernel_rfl)
def ok_k (F : Nat) (a0 a1 a2 : Int) : Bool := okT to_k (f_k F a0 a1 a2)
def o_k_0 (F : Nat) (a0 a1 a2 : Int) : Int := atI (nth (outT to_k (f_k F a0 a1 a2)) 0)
def o_k_1 (F : Nat) (a0 a1 a2 : Int) : Bool := atB (nth (outT to_k (f_k F a0 a1 a2)) 1)
theorem k_k (F : Nat) (a0 a1 a2 : Int) {z0 : Int} {z1 : Bool} (h : f_k F a0 a1 a2 = some (.v (.tuple #[.int .i64 z0, .bool z1]))) : ok_k F a0 a1 a2 = true ∧ o_k_0 F a0 a1 a2 = z0 ∧ o_k_1 F a0 a1 a2 = z1 := by
  refine ⟨?_, ?_, ?_⟩
  · unfold ok_k; rw [h]; kernel_rfl
  · unfold o_k_0; rw [h]; kernel_rfl
  · unfold o_k_1; rw [h]; kernel_rfl
def z_k (k : Y0) (r0 : Y1) (r1 : Y0) (F : Nat) : List VV → Option (Bool × VV) := spec ti_k to_k (fun q => (k F (iI q 0) (iI q 1) (iI q 2))) (fun q => [.i (r0 F (iI q 0) (iI q 1) (iI q 2)), .b (r1 F (iI q 0) (iI q 1) (iI q 2))])
def s_k (F : Nat) : List VV → Option (Bool × VV) := z_k ok_k o_k_0 o_k_1 F
theorem hS_k (F : Nat) : ∀ f, Good PP f (unS (S_k F f)) := words_good fun p hp => by
  cases hp
theorem hl_k (F : Nat) : ∀ p ∈ loopsIn PP 58, LoopOK PP (S_k F) c_k F (I_k F) (J_k F) p :=
  loops_of [] (by kernel_rfl) all_nil
theorem hj_k (F : Nat) : ∀ p ∈ joinsIn PP c_k 58, JoinOK PP (S_k F) c_k (I_k F) (J_k F) p :=
  joins_of [] (by kernel_rfl) all_nil
theorem g_k (F : Nat) : Good PP 58 (unS (s_k F)) :=
  fun_spec (hS_k F) (by kernel_rfl) (by kernel_rfl) (C := c_k) (F := fun q => (f_k F (iI q 0) (iI q 1) (iI q 2))) (fun _ => F) (fun _ => I_k F) (fun _ => J_k F) (fun _ => hl_k F) (fun _ => hj_k F)
    (fun q => (congrArg (funL PP (S_k F) c_k (I_k F) (J_k F) 58) (show (fTs ti_k q).1 = (fTs ti_k [.i (iI q 0), .i (iI q 1), .i (iI q 2)]).1 by kernel_rfl)).trans (e_k F (iI q 0) (iI q 1) (iI q 2)))
    (fun _ h => (okT_fill h).trans (congrArg some (by kernel_rfl)))

end Go.Xv
set_option linter.unusedVariables false
namespace Go.Xv
/- 68 _fix_clip -/
def c_t : Cfg := ⟨[0, 1, 2, 3, 4, 5], [], [], []⟩
def ti_t : List TV := [.v (.agg [.int .i64, .int .u64])]
def to_t : TV := .v (.tup [.int .i64, .bool])
def S_t (F : Nat) : FuncId → List VV → Option (Bool × VV) := words [(88, s_r F)]
def W_t (F : Nat) : List LW := []
def I_t (F : Nat) : Nat → VS → (Exit → VS → R) → R := tabI c_t (W_t F)
def WJ_t (F : Nat) : List LJ := []
def J_t (F : Nat) : Nat → Nat → VS → (Exit → VS → R) → R := tabJ (WJ_t F)
def fg_t (ok_r : Nat → Int → Int → Bool) (o_r_0 : Nat → Int → Int → Int) (o_r_1 : Nat → Int → Int → Bool) (F : Nat) (a0 a1 : Int) : R :=
 bif (ok_r F a0 a1) then (
 some (.v (.tuple #[.int .i64 ((o_r_0 F a0 a1)), .bool ((o_r_1 F a0 a1))]))) else none
def f_t (F : Nat) (a0 a1 : Int) : R := fg_t ok_r o_r_0 o_r_1 F a0 a1
theorem e_t (F : Nat) (a0 a1 : Int) : funL PP (S_t F) c_t (I_t F) (J_t F) 68 (fTs ti_t [.i a0, .i a1]).1 = f_t F a0 a1 := by
  have h : ∀ (ok_r : Nat → Int → Int → Bool) (o_r_0 : Nat → Int → Int → Int) (o_r_1 : Nat → Int → Int → Bool), funL PP (words [(88, spec ti_r to_r (fun q => (ok_r F (iI q 0) (iI q 1))) (fun q => [.i (o_r_0 F (iI q 0) (iI q 1)), .b (o_r_1 F (iI q 0) (iI q 1))]))]) c_t (tabI c_t []) (tabJ []) 68 (fTs ti_t [.i a0, .i a1]).1 = fg_t ok_r o_r_0 o_r_1 F a0 a1 := by
    intros
    kernel_rfl
  exact (h ok_r o_r_0 o_r_1).trans (by kernel_rfl)
def ok_t (F : Nat) (a0 a1 : Int) : Bool := okT to_t (f_t F a0 a1)
def o_t_0 (F : Nat) (a0 a1 : Int) : Int := atI (nth (outT to_t (f_t F a0 a1)) 0)
def o_t_1 (F : Nat) (a0 a1 : Int) : Bool := atB (nth (outT to_t (f_t F a0 a1)) 1)
theorem k_t (F : Nat) (a0 a1 : Int) {z0 : Int} {z1 : Bool} (h : f_t F a0 a1 = some (.v (.tuple #[.int .i64 z0, .bool z1]))) : ok_t F a0 a1 = true ∧ o_t_0 F a0 a1 = z0 ∧ o_t_1 F a0 a1 = z1 := by
  refine ⟨?_, ?_, ?_⟩
  · unfold ok_t; rw [h]; kernel_rfl
  · unfold o_t_0; rw [h]; kernel_rfl
  · unfold o_t_1; rw [h]; kernel_rfl
def z_t (k : Nat → Int → Int → Bool) (r0 : Nat → Int → Int → Int) (r1 : Nat → Int → Int → Bool) (F : Nat) : List VV → Option (Bool × VV) := spec ti_t to_t (fun q => (k F (iI q 0) (iI q 1))) (fun q => [.i (r0 F (iI q 0) (iI q 1)), .b (r1 F (iI q 0) (iI q 1))])
def s_t (F : Nat) : List VV → Option (Bool × VV) := z_t ok_t o_t_0 o_t_1 F
theorem hS_t (F : Nat) : ∀ f, Good PP f (unS (S_t F f)) := words_good fun p hp => by
  simp only [List.mem_cons, List.not_mem_nil, or_false] at hp
  rcases hp with rfl
  · exact g_r F
theorem hl_t (F : Nat) : ∀ p ∈ loopsIn PP 68, LoopOK PP (S_t F) c_t F (I_t F) (J_t F) p :=
  loops_of [] (by kernel_rfl) all_nil
theorem hj_t (F : Nat) : ∀ p ∈ joinsIn PP c_t 68, JoinOK PP (S_t F) c_t (I_t F) (J_t F) p :=
  joins_of [] (by kernel_rfl) all_nil
theorem g_t (F : Nat) : Good PP 68 (unS (s_t F)) :=
  fun_spec (hS_t F) (by kernel_rfl) (by kernel_rfl) (C := c_t) (F := fun q => (f_t F (iI q 0) (iI q 1))) (fun _ => F) (fun _ => I_t F) (fun _ => J_t F) (fun _ => hl_t F) (fun _ => hj_t F)
    (fun q => (congrArg (funL PP (S_t F) c_t (I_t F) (J_t F) 68) (show (fTs ti_t q).1 = (fTs ti_t [.i (iI q 0), .i (iI q 1)]).1 by kernel_rfl)).trans (e_t F (iI q 0) (iI q 1)))
    (fun _ h => (okT_fill h).trans (congrArg some (by kernel_rfl)))

end Go.Xv
set_option linter.unusedVariables false
namespace Go.Xv
/- 67 _fix_of -/
def c_aa : Cfg := ⟨[0, 2], [], [], []⟩
def ti_aa : List TV := [.v (.int .i64)]
def to_aa : TV := .v (.agg [.int .i64, .int .u64])
def S_aa (F : Nat) : FuncId → List VV → Option (Bool × VV) := words [(87, s_z F)]
def W_aa (F : Nat) : List LW := []
def I_aa (F : Nat) : Nat → VS → (Exit → VS → R) → R := tabI c_aa (W_aa F)
def WJ_aa (F : Nat) : List LJ := []
def J_aa (F : Nat) : Nat → Nat → VS → (Exit → VS → R) → R := tabJ (WJ_aa F)
def fg_aa (ok_z : Nat → Int → Bool) (o_z_0 : Nat → Int → Int) (o_z_1 : Nat → Int → Int) (F : Nat) (a0 : Int) : R :=
 bif (ok_z F a0) then (
 some (.v (.agg #[.int .i64 ((o_z_0 F a0)), .int .u64 ((o_z_1 F a0))]))) else none
def f_aa (F : Nat) (a0 : Int) : R := fg_aa ok_z o_z_0 o_z_1 F a0
theorem e_aa (F : Nat) (a0 : Int) : funL PP (S_aa F) c_aa (I_aa F) (J_aa F) 67 (fTs ti_aa [.i a0]).1 = f_aa F a0 := by
  have h : ∀ (ok_z : Nat → Int → Bool) (o_z_0 : Nat → Int → Int) (o_z_1 : Nat → Int → Int), funL PP (words [(87, z_z ok_z o_z_0 o_z_1 F)]) c_aa (tabI c_aa []) (tabJ []) 67 (fTs ti_aa [.i a0]).1 = fg_aa ok_z o_z_0 o_z_1 F a0 := by
    intros
    kernel_rfl
  exact (h ok_z o_z_0 o_z_1).trans (by kernel_rfl)
def ok_aa (F : Nat) (a0 : Int) : Bool := okT to_aa (f_aa F a0)
def o_aa_0 (F : Nat) (a0 : Int) : Int := atI (nth (outT to_aa (f_aa F a0)) 0)
def o_aa_1 (F : Nat) (a0 : Int) : Int := atI (nth (outT to_aa (f_aa F a0)) 1)
theorem k_aa (F : Nat) (a0 : Int) {z0 : Int} {z1 : Int} (h : f_aa F a0 = some (.v (.agg #[.int .i64 z0, .int .u64 z1]))) : ok_aa F a0 = true ∧ o_aa_0 F a0 = z0 ∧ o_aa_1 F a0 = z1 := by
  refine ⟨?_, ?_, ?_⟩
  · unfold ok_aa; rw [h]; kernel_rfl
  · unfold o_aa_0; rw [h]; kernel_rfl
  · unfold o_aa_1; rw [h]; kernel_rfl
def z_aa (k : Nat → Int → Bool) (r0 : Nat → Int → Int) (r1 : Nat → Int → Int) (F : Nat) : List VV → Option (Bool × VV) := spec ti_aa to_aa (fun q => (k F (iI q 0))) (fun q => [.i (r0 F (iI q 0)), .i (r1 F (iI q 0))])
def s_aa (F : Nat) : List VV → Option (Bool × VV) := z_aa ok_aa o_aa_0 o_aa_1 F
theorem hS_aa (F : Nat) : ∀ f, Good PP f (unS (S_aa F f)) := words_good fun p hp => by
  simp only [List.mem_cons, List.not_mem_nil, or_false] at hp
  rcases hp with rfl
  · exact g_z F
theorem hl_aa (F : Nat) : ∀ p ∈ loopsIn PP 67, LoopOK PP (S_aa F) c_aa F (I_aa F) (J_aa F) p :=
  loops_of [] (by kernel_rfl) all_nil
theorem hj_aa (F : Nat) : ∀ p ∈ joinsIn PP c_aa 67, JoinOK PP (S_aa F) c_aa (I_aa F) (J_aa F) p :=
  joins_of [] (by kernel_rfl) all_nil
theorem g_aa (F : Nat) : Good PP 67 (unS (s_aa F)) :=
  fun_spec (hS_aa F) (by kernel_rfl) (by kernel_rfl) (C := c_aa) (F := fun q => (f_aa F (iI q 0))) (fun _ => F) (fun _ => I_aa F) (fun _ => J_aa F) (fun _ => hl_aa F) (fun _ => hj_aa F)
    (fun q => (congrArg (funL PP (S_aa F) c_aa (I_aa F) (J_aa F) 67) (show (fTs ti_aa q).1 = (fTs ti_aa [.i (iI q 0)]).1 by kernel_rfl)).trans (e_aa F (iI q 0)))
    (fun _ h => (okT_fill h).trans (congrArg some (by kernel_rfl)))

end Go.Xv
set_option linter.unusedVariables false
namespace Go.Xv
/- 65 _vec_Clamp_1 -/
def c_f : Cfg := ⟨[0, 1, 2, 4, 5], [], [], []⟩
def ti_f : List TV := [.v (.int .i64), .fpx [.v (.int .i64), .v (.int .i64), .v (.int .i64)] (.lit 0), .fpx [.v (.int .i64)] (.lit 0)]
def to_f : TV := .v (.tup [.int .i64, .bool])
def S_f (F : Nat) : FuncId → List VV → Option (Bool × VV) := words [(58, s_k F)]
def W_f (F : Nat) : List LW := []
def I_f (F : Nat) : Nat → VS → (Exit → VS → R) → R := tabI c_f (W_f F)
def WJ_f (F : Nat) : List LJ := []
def J_f (F : Nat) : Nat → Nat → VS → (Exit → VS → R) → R := tabJ (WJ_f F)
def fg_f (ok_k : Y0) (o_k_0 : Y1) (o_k_1 : Y0) (F : Nat) (a0 a1 a2 a3 a4 : Int) : R :=
 bif ((decide (0 ≤ a0)) && (decide (a0 < 3))) then (
 let v13 : Nat := (0 + ((Int.toNat a0) * 1))
 bif ((isI .i64 [.v (.int .i64 a1), .v (.int .i64 a2), .v (.int .i64 a3)][v13]?) && true) then (
 let v14 : Int := (iv [.v (.int .i64 a1), .v (.int .i64 a2), .v (.int .i64 a3)][v13]?)
 let v15 : Int := (IntKind.wrap .i64 (0 - a4))
 bif (ok_k F v14 v15 a4) then (
 some (.v (.tuple #[.int .i64 ((o_k_0 F v14 v15 a4)), .bool ((o_k_1 F v14 v15 a4))]))) else none) else none) else none
def f_f (F : Nat) (a0 a1 a2 a3 a4 : Int) : R := fg_f ok_k o_k_0 o_k_1 F a0 a1 a2 a3 a4
theorem e_f (F : Nat) (a0 a1 a2 a3 a4 : Int) : funL PP (S_f F) c_f (I_f F) (J_f F) 65 (fTs ti_f [.i a0, .i a1, .i a2, .i a3, .i a4]).1 = f_f F a0 a1 a2 a3 a4 := by
  have h : ∀ (ok_k : Y0) (o_k_0 : Y1) (o_k_1 : Y0), funL PP (words [(58, z_k ok_k o_k_0 o_k_1 F)]) c_f (tabI c_f []) (tabJ []) 65 (fTs ti_f [.i a0, .i a1, .i a2, .i a3, .i a4]).1 = fg_f ok_k o_k_0 o_k_1 F a0 a1 a2 a3 a4 := by
    intros
    kernel_rfl
  exact (h ok_k o_k_0 o_k_1).trans (by kernel_rfl)
def ok_f (F : Nat) (a0 a1 a2 a3 a4 : Int) : Bool := okT to_f (f_f F a0 a1 a2 a3 a4)
def o_f_0 (F : Nat) (a0 a1 a2 a3 a4 : Int) : Int := atI (nth (outT to_f (f_f F a0 a1 a2 a3 a4)) 0)
def o_f_1 (F : Nat) (a0 a1 a2 a3 a4 : Int) : Bool := atB (nth (outT to_f (f_f F a0 a1 a2 a3 a4)) 1)
theorem k_f (F : Nat) (a0 a1 a2 a3 a4 : Int) {z0 : Int} {z1 : Bool} (h : f_f F a0 a1 a2 a3 a4 = some (.v (.tuple #[.int .i64 z0, .bool z1]))) : ok_f F a0 a1 a2 a3 a4 = true ∧ o_f_0 F a0 a1 a2 a3 a4 = z0 ∧ o_f_1 F a0 a1 a2 a3 a4 = z1 := by
  refine ⟨?_, ?_, ?_⟩
  · unfold ok_f; rw [h]; kernel_rfl
  · unfold o_f_0; rw [h]; kernel_rfl
  · unfold o_f_1; rw [h]; kernel_rfl
def z_f (k : Y2) (r0 : Y3) (r1 : Y2) (F : Nat) : List VV → Option (Bool × VV) := spec ti_f to_f (fun q => (k F (iI q 0) (iI q 1) (iI q 2) (iI q 3) (iI q 4))) (fun q => [.i (r0 F (iI q 0) (iI q 1) (iI q 2) (iI q 3) (iI q 4)), .b (r1 F (iI q 0) (iI q 1) (iI q 2) (iI q 3) (iI q 4))])
def s_f (F : Nat) : List VV → Option (Bool × VV) := z_f ok_f o_f_0 o_f_1 F
theorem hS_f (F : Nat) : ∀ f, Good PP f (unS (S_f F f)) := words_good fun p hp => by
  simp only [List.mem_cons, List.not_mem_nil, or_false] at hp
  rcases hp with rfl
  · exact g_k F
theorem hl_f (F : Nat) : ∀ p ∈ loopsIn PP 65, LoopOK PP (S_f F) c_f F (I_f F) (J_f F) p :=
  loops_of [] (by kernel_rfl) all_nil
theorem hj_f (F : Nat) : ∀ p ∈ joinsIn PP c_f 65, JoinOK PP (S_f F) c_f (I_f F) (J_f F) p :=
  joins_of [] (by kernel_rfl) all_nil
theorem g_f (F : Nat) : Good PP 65 (unS (s_f F)) :=
  fun_spec (hS_f F) (by kernel_rfl) (by kernel_rfl) (C := c_f) (F := fun q => (f_f F (iI q 0) (iI q 1) (iI q 2) (iI q 3) (iI q 4))) (fun _ => F) (fun _ => I_f F) (fun _ => J_f F) (fun _ => hl_f F) (fun _ => hj_f F)
    (fun q => (congrArg (funL PP (S_f F) c_f (I_f F) (J_f F) 65) (show (fTs ti_f q).1 = (fTs ti_f [.i (iI q 0), .i (iI q 1), .i (iI q 2), .i (iI q 3), .i (iI q 4)]).1 by kernel_rfl)).trans (e_f F (iI q 0) (iI q 1) (iI q 2) (iI q 3) (iI q 4)))
    (fun _ h => (okT_fill h).trans (congrArg some (by kernel_rfl)))

end Go.Xv
set_option linter.unusedVariables false
namespace Go.Xv
/- 64 _vec_each -/
def c_v : Cfg := ⟨[0, 2, 3, 4, 5, 6, 7, 8, 9, 10], [(0, [0, 2, 3, 4, 5, 9, 26, 27])], [], []⟩
def ti_v : List TV := [.fn 65 [.fpx [.v (.int .i64), .v (.int .i64), .v (.int .i64)] (.lit 0), .fpx [.v (.int .i64)] (.lit 0)]]
def to_v : TV := .v (.tup [.agg [.int .i64, .int .i64, .int .i64], .bool])
def S_v (F : Nat) : FuncId → List VV → Option (Bool × VV) := words [(65, s_f F)]
def T_v_0 : TS := ⟨[(0, .fn 65 [.fpx [.v (.int .i64), .v (.int .i64), .v (.int .i64)] (.lit 0), .fpx [.v (.int .i64)] (.lit 0)]), (2, .lp 0 (.lit 0)), (3, .v (.bool)), (4, .lp 1 (.lit 0)), (5, .v (.bool)), (9, .v (.int .i64))], [(0, ⟨(.ex [.v (.int .i64), .v (.int .i64), .v (.int .i64)]), true⟩), (1, ⟨.hole, true⟩)], 2⟩
def T_v_0_0 : TS := ⟨[(0, .fn 65 [.fpx [.v (.int .i64), .v (.int .i64), .v (.int .i64)] (.lit 0), .fpx [.v (.int .i64)] (.lit 0)]), (2, .lp 0 (.lit 0)), (3, .v (.bool)), (4, .lp 1 (.lit 0)), (5, .v (.bool)), (9, .v (.int .i64))], [(0, ⟨(.ex [.v (.int .i64), .v (.int .i64), .v (.int .i64)]), true⟩), (1, ⟨.hole, true⟩)], 2⟩
def K_vec_each_0_0e0 (k : Exit → VS → R) : Y4 := fun (z0 z1 z2 z3 : Int) (z4 z5 : Bool) (z6 z7 z8 z9 : Int) (z10 : List VV) => k (.exit 0) (fS T_v_0_0 [.i z0, .i z1, .i z2, .i z3, .b z4, .b z5, .i z6, .i z7, .i z8, .i z9, .c z10])
def Bg_v_0 (ok_f : Y2) (o_f_0 : Y3) (o_f_1 : Y2) (F : Nat) (rc : Y4) (ex0 : Y4) (x0 x1 x2 x3 : Int) (x4 x5 : Bool) (x6 x7 x8 x9 : Int) (x10 : List VV) : R :=
 bif ((decide (x6 < 3))) then (
 bif (ok_f F x6 x0 x1 x2 x3) then (
 let v22 : Int := (o_f_0 F x6 x0 x1 x2 x3)
 bif x5 then (
 bif ((decide (0 ≤ x6)) && (decide (x6 < 3))) then (
 let v24 : Nat := (0 + ((Int.toNat x6) * 1))
 bif (decide ((v24 + 1) ≤ x10.length)) then (
 rc x0 x1 x2 x3 x4 true ((IntKind.wrap .i64 (x6 + 1))) x7 x8 x9 ((x10.take v24 ++ [.v (.int .i64 v22)] ++ x10.drop (v24 + 1)))) else none) else none)
 else (
 bif ((decide (0 ≤ x6)) && (decide (x6 < 3))) then (
 let v27 : Nat := (0 + ((Int.toNat x6) * 1))
 bif (decide ((v27 + 1) ≤ x10.length)) then (
 rc x0 x1 x2 x3 x4 ((o_f_1 F x6 x0 x1 x2 x3)) ((IntKind.wrap .i64 (x6 + 1))) x7 x8 x9 ((x10.take v27 ++ [.v (.int .i64 v22)] ++ x10.drop (v27 + 1)))) else none) else none)) else none)
 else (
 ex0 x0 x1 x2 x3 x4 x5 x6 x7 x8 x9 x10)
def B_v_0 (F : Nat) (rc : Y4) (ex0 : Y4) (x0 x1 x2 x3 : Int) (x4 x5 : Bool) (x6 x7 x8 x9 : Int) (x10 : List VV) : R := Bg_v_0 ok_f o_f_0 o_f_1 F rc ex0 x0 x1 x2 x3 x4 x5 x6 x7 x8 x9 x10
def L_v_0 (F : Nat) (ex0 : Y4) : Y5
  | 0, _, _, _, _, _, _, _, _, _, _, _ => none
  | n + 1, x0, x1, x2, x3, x4, x5, x6, x7, x8, x9, x10 => B_v_0 F (L_v_0 F ex0 n) ex0 x0 x1 x2 x3 x4 x5 x6 x7 x8 x9 x10
def W_v (F : Nat) : List LW := [⟨0, T_v_0, fun k q => L_v_0 F (K_vec_each_0_0e0 k) F (iI q 0) (iI q 1) (iI q 2) (iI q 3) (iB q 4) (iB q 5) (iI q 6) (iI q 7) (iI q 8) (iI q 9) (atC (nth q 10))⟩]
def I_v (F : Nat) : Nat → VS → (Exit → VS → R) → R := tabI c_v (W_v F)
def WJ_v (F : Nat) : List LJ := []
def J_v (F : Nat) : Nat → Nat → VS → (Exit → VS → R) → R := tabJ (WJ_v F)
theorem lL_v_0 (F : Nat) (k : Exit → VS → R) : ∀ (n : Nat) (x0 x1 x2 x3 : Int) (x4 x5 : Bool) (x6 x7 x8 x9 : Int) (x10 : List VV), iterC (codeL PP (S_v F) c_v (I_v F) (J_v F) (loopAt PP 64 0) 0) (headOf c_v 0) k n (fS T_v_0 [.i x0, .i x1, .i x2, .i x3, .b x4, .b x5, .i x6, .i x7, .i x8, .i x9, .c x10]) = L_v_0 F (K_vec_each_0_0e0 k) n x0 x1 x2 x3 x4 x5 x6 x7 x8 x9 x10
  | 0, _, _, _, _, _, _, _, _, _, _, _ => rfl
  | n + 1, x0, x1, x2, x3, x4, x5, x6, x7, x8, x9, x10 => by
    have h0 : ∀ (ok_f : Y2) (o_f_0 : Y3) (o_f_1 : Y2) (L_v_0 : Nat → (Y4) → Y5), iterC (codeL PP (words [(65, z_f ok_f o_f_0 o_f_1 F)]) c_v (tabI c_v [⟨0, T_v_0, fun k q => L_v_0 F (K_vec_each_0_0e0 k) F (iI q 0) (iI q 1) (iI q 2) (iI q 3) (iB q 4) (iB q 5) (iI q 6) (iI q 7) (iI q 8) (iI q 9) (atC (nth q 10))⟩]) (tabJ []) (loopAt PP 64 0) 0) (headOf c_v 0) k (n + 1) (fS T_v_0 [.i x0, .i x1, .i x2, .i x3, .b x4, .b x5, .i x6, .i x7, .i x8, .i x9, .c x10]) = (Bg_v_0 ok_f o_f_0 o_f_1 F) (fun (y0 y1 y2 y3 : Int) (y4 y5 : Bool) (y6 y7 y8 y9 : Int) (y10 : List VV) => iterC (codeL PP (words [(65, z_f ok_f o_f_0 o_f_1 F)]) c_v (tabI c_v [⟨0, T_v_0, fun k q => L_v_0 F (K_vec_each_0_0e0 k) F (iI q 0) (iI q 1) (iI q 2) (iI q 3) (iB q 4) (iB q 5) (iI q 6) (iI q 7) (iI q 8) (iI q 9) (atC (nth q 10))⟩]) (tabJ []) (loopAt PP 64 0) 0) (headOf c_v 0) k n (fS T_v_0 [.i y0, .i y1, .i y2, .i y3, .b y4, .b y5, .i y6, .i y7, .i y8, .i y9, .c y10])) (K_vec_each_0_0e0 k) x0 x1 x2 x3 x4 x5 x6 x7 x8 x9 x10 := by
      intros
      kernel_rfl
    have h : iterC (codeL PP (S_v F) c_v (I_v F) (J_v F) (loopAt PP 64 0) 0) (headOf c_v 0) k (n + 1) (fS T_v_0 [.i x0, .i x1, .i x2, .i x3, .b x4, .b x5, .i x6, .i x7, .i x8, .i x9, .c x10]) = B_v_0 F (fun (y0 y1 y2 y3 : Int) (y4 y5 : Bool) (y6 y7 y8 y9 : Int) (y10 : List VV) => iterC (codeL PP (S_v F) c_v (I_v F) (J_v F) (loopAt PP 64 0) 0) (headOf c_v 0) k n (fS T_v_0 [.i y0, .i y1, .i y2, .i y3, .b y4, .b y5, .i y6, .i y7, .i y8, .i y9, .c y10])) (K_vec_each_0_0e0 k) x0 x1 x2 x3 x4 x5 x6 x7 x8 x9 x10 := (h0 ok_f o_f_0 o_f_1 L_v_0).trans (by kernel_rfl)
    rw [h]
    simp only [lL_v_0 F k n]
    rfl
def fg_v (L_v_0 : Nat → (Y4) → Y5) (F : Nat) (a0 a1 a2 a3 : Int) : R :=
 L_v_0 F (fun (v30 v31 v32 v33 : Int) (v34 v35 : Bool) (v36 v37 v38 v39 : Int) (v40 : List VV) =>
 bif ((isI .i64 v40[0]?) && ((isI .i64 v40[1]?) && ((isI .i64 v40[2]?) && true))) then (
 some (.v (.tuple #[.agg #[.int .i64 ((iv v40[0]?)), .int .i64 ((iv v40[1]?)), .int .i64 ((iv v40[2]?))], .bool v35]))) else none) F a0 a1 a2 a3 false false 0 0 0 0 ([.v (.int .i64 0), .v (.int .i64 0), .v (.int .i64 0)])
def f_v (F : Nat) (a0 a1 a2 a3 : Int) : R := fg_v L_v_0 F a0 a1 a2 a3
theorem e_v (F : Nat) (a0 a1 a2 a3 : Int) : funL PP (S_v F) c_v (I_v F) (J_v F) 64 (fTs ti_v [.i a0, .i a1, .i a2, .i a3]).1 = f_v F a0 a1 a2 a3 := by
  have h : ∀ (ok_f : Y2) (o_f_0 : Y3) (o_f_1 : Y2) (L_v_0 : Nat → (Y4) → Y5), funL PP (words [(65, z_f ok_f o_f_0 o_f_1 F)]) c_v (tabI c_v [⟨0, T_v_0, fun k q => L_v_0 F (K_vec_each_0_0e0 k) F (iI q 0) (iI q 1) (iI q 2) (iI q 3) (iB q 4) (iB q 5) (iI q 6) (iI q 7) (iI q 8) (iI q 9) (atC (nth q 10))⟩]) (tabJ []) 64 (fTs ti_v [.i a0, .i a1, .i a2, .i a3]).1 = fg_v L_v_0 F a0 a1 a2 a3 := by
    intros
    kernel_rfl
  exact (h ok_f o_f_0 o_f_1 L_v_0).trans (by kernel_rfl)
def ok_v (F : Nat) (a0 a1 a2 a3 : Int) : Bool := okT to_v (f_v F a0 a1 a2 a3)
def o_v_0 (F : Nat) (a0 a1 a2 a3 : Int) : Int := atI (nth (outT to_v (f_v F a0 a1 a2 a3)) 0)
def o_v_1 (F : Nat) (a0 a1 a2 a3 : Int) : Int := atI (nth (outT to_v (f_v F a0 a1 a2 a3)) 1)
def o_v_2 (F : Nat) (a0 a1 a2 a3 : Int) : Int := atI (nth (outT to_v (f_v F a0 a1 a2 a3)) 2)
def o_v_3 (F : Nat) (a0 a1 a2 a3 : Int) : Bool := atB (nth (outT to_v (f_v F a0 a1 a2 a3)) 3)
theorem k_v (F : Nat) (a0 a1 a2 a3 : Int) {z0 : Int} {z1 : Int} {z2 : Int} {z3 : Bool} (h : f_v F a0 a1 a2 a3 = some (.v (.tuple #[.agg #[.int .i64 z0, .int .i64 z1, .int .i64 z2], .bool z3]))) : ok_v F a0 a1 a2 a3 = true ∧ o_v_0 F a0 a1 a2 a3 = z0 ∧ o_v_1 F a0 a1 a2 a3 = z1 ∧ o_v_2 F a0 a1 a2 a3 = z2 ∧ o_v_3 F a0 a1 a2 a3 = z3 := by
  refine ⟨?_, ?_, ?_, ?_, ?_⟩
  · unfold ok_v; rw [h]; kernel_rfl
  · unfold o_v_0; rw [h]; kernel_rfl
  · unfold o_v_1; rw [h]; kernel_rfl
  · unfold o_v_2; rw [h]; kernel_rfl
  · unfold o_v_3; rw [h]; kernel_rfl
def s_v (F : Nat) : List VV → Option (Bool × VV) := spec ti_v to_v (fun q => (ok_v F (iI q 0) (iI q 1) (iI q 2) (iI q 3))) (fun q => [.i (o_v_0 F (iI q 0) (iI q 1) (iI q 2) (iI q 3)), .i (o_v_1 F (iI q 0) (iI q 1) (iI q 2) (iI q 3)), .i (o_v_2 F (iI q 0) (iI q 1) (iI q 2) (iI q 3)), .b (o_v_3 F (iI q 0) (iI q 1) (iI q 2) (iI q 3))])
theorem hS_v (F : Nat) : ∀ f, Good PP f (unS (S_v F f)) := words_good fun p hp => by
  simp only [List.mem_cons, List.not_mem_nil, or_false] at hp
  rcases hp with rfl
  · exact g_f F
theorem hl_v (F : Nat) : ∀ p ∈ loopsIn PP 64, LoopOK PP (S_v F) c_v F (I_v F) (J_v F) p :=
  loops_of [(0, loopAt PP 64 0)] (by kernel_rfl) (all_cons
    (loop_ok (W_v F) rfl (tab_cons (fun _ k q => Le.ofEq ((lL_v_0 F k F (iI q 0) (iI q 1) (iI q 2) (iI q 3) (iB q 4) (iB q 5) (iI q 6) (iI q 7) (iI q 8) (iI q 9) (atC (nth q 10))).symm.trans (congrArg (iterC (codeL PP (S_v F) c_v (I_v F) (J_v F) (loopAt PP 64 0) 0) (headOf c_v 0) k F) (show fS T_v_0 [.i (iI q 0), .i (iI q 1), .i (iI q 2), .i (iI q 3), .b (iB q 4), .b (iB q 5), .i (iI q 6), .i (iI q 7), .i (iI q 8), .i (iI q 9), .c (atC (nth q 10))] = fS T_v_0 q by kernel_rfl)))) tab_nil)) all_nil)
theorem hj_v (F : Nat) : ∀ p ∈ joinsIn PP c_v 64, JoinOK PP (S_v F) c_v (I_v F) (J_v F) p :=
  joins_of [] (by kernel_rfl) all_nil
theorem g_v (F : Nat) : Good PP 64 (unS (s_v F)) :=
  fun_spec (hS_v F) (by kernel_rfl) (by kernel_rfl) (C := c_v) (F := fun q => (f_v F (iI q 0) (iI q 1) (iI q 2) (iI q 3))) (fun _ => F) (fun _ => I_v F) (fun _ => J_v F) (fun _ => hl_v F) (fun _ => hj_v F)
    (fun q => (congrArg (funL PP (S_v F) c_v (I_v F) (J_v F) 64) (show (fTs ti_v q).1 = (fTs ti_v [.i (iI q 0), .i (iI q 1), .i (iI q 2), .i (iI q 3)]).1 by kernel_rfl)).trans (e_v F (iI q 0) (iI q 1) (iI q 2) (iI q 3)))
    (fun _ h => (okT_fill h).trans (congrArg some (by kernel_rfl)))

end Go.Xv
set_option linter.unusedVariables false
namespace Go.Xv
/- 39 _vec_Clamp -/
def c_q : Cfg := ⟨[0, 1, 2, 4, 5, 6], [], [], []⟩
def ti_q : List TV := [.v (.agg [.int .i64, .int .i64, .int .i64]), .v (.int .i64)]
def to_q : TV := .v (.tup [.agg [.int .i64, .int .i64, .int .i64], .bool])
def S_q (F : Nat) : FuncId → List VV → Option (Bool × VV) := words [(64, s_v F)]
def W_q (F : Nat) : List LW := []
def I_q (F : Nat) : Nat → VS → (Exit → VS → R) → R := tabI c_q (W_q F)
def WJ_q (F : Nat) : List LJ := []
def J_q (F : Nat) : Nat → Nat → VS → (Exit → VS → R) → R := tabJ (WJ_q F)
def fg_q (ok_v : Y6) (o_v_0 : Y7) (o_v_1 : Y7) (o_v_2 : Y7) (o_v_3 : Y6) (F : Nat) (a0 a1 a2 a3 : Int) : R :=
 let v0 : Int := (if 0 > a3 then 0 else a3)
 bif (ok_v F a0 a1 a2 v0) then (
 some (.v (.tuple #[.agg #[.int .i64 ((o_v_0 F a0 a1 a2 v0)), .int .i64 ((o_v_1 F a0 a1 a2 v0)), .int .i64 ((o_v_2 F a0 a1 a2 v0))], .bool ((o_v_3 F a0 a1 a2 v0))]))) else none
def f_q (F : Nat) (a0 a1 a2 a3 : Int) : R := fg_q ok_v o_v_0 o_v_1 o_v_2 o_v_3 F a0 a1 a2 a3
theorem e_q (F : Nat) (a0 a1 a2 a3 : Int) : funL PP (S_q F) c_q (I_q F) (J_q F) 39 (fTs ti_q [.i a0, .i a1, .i a2, .i a3]).1 = f_q F a0 a1 a2 a3 := by
  have h : ∀ (ok_v : Y6) (o_v_0 : Y7) (o_v_1 : Y7) (o_v_2 : Y7) (o_v_3 : Y6), funL PP (words [(64, spec ti_v to_v (fun q => (ok_v F (iI q 0) (iI q 1) (iI q 2) (iI q 3))) (fun q => [.i (o_v_0 F (iI q 0) (iI q 1) (iI q 2) (iI q 3)), .i (o_v_1 F (iI q 0) (iI q 1) (iI q 2) (iI q 3)), .i (o_v_2 F (iI q 0) (iI q 1) (iI q 2) (iI q 3)), .b (o_v_3 F (iI q 0) (iI q 1) (iI q 2) (iI q 3))]))]) c_q (tabI c_q []) (tabJ []) 39 (fTs ti_q [.i a0, .i a1, .i a2, .i a3]).1 = fg_q ok_v o_v_0 o_v_1 o_v_2 o_v_3 F a0 a1 a2 a3 := by
    intros
    kernel_rfl
  exact (h ok_v o_v_0 o_v_1 o_v_2 o_v_3).trans (by kernel_rfl)
def ok_q (F : Nat) (a0 a1 a2 a3 : Int) : Bool := okT to_q (f_q F a0 a1 a2 a3)
def o_q_0 (F : Nat) (a0 a1 a2 a3 : Int) : Int := atI (nth (outT to_q (f_q F a0 a1 a2 a3)) 0)
def o_f (F : Nat) (a0 a1 a2 a3 : Int) : Int := atI (nth (outT to_q (f_q F a0 a1 a2 a3)) 1)
def o_q_2 (F : Nat) (a0 a1 a2 a3 : Int) : Int := atI (nth (outT to_q (f_q F a0 a1 a2 a3)) 2)
def o_q_3 (F : Nat) (a0 a1 a2 a3 : Int) : Bool := atB (nth (outT to_q (f_q F a0 a1 a2 a3)) 3)
theorem k_q (F : Nat) (a0 a1 a2 a3 : Int) {z0 : Int} {z1 : Int} {z2 : Int} {z3 : Bool} (h : f_q F a0 a1 a2 a3 = some (.v (.tuple #[.agg #[.int .i64 z0, .int .i64 z1, .int .i64 z2], .bool z3]))) : ok_q F a0 a1 a2 a3 = true ∧ o_q_0 F a0 a1 a2 a3 = z0 ∧ o_f F a0 a1 a2 a3 = z1 ∧ o_q_2 F a0 a1 a2 a3 = z2 ∧ o_q_3 F a0 a1 a2 a3 = z3 := by
  refine ⟨?_, ?_, ?_, ?_, ?_⟩
  · unfold ok_q; rw [h]; kernel_rfl
  · unfold o_q_0; rw [h]; kernel_rfl
  · unfold o_f; rw [h]; kernel_rfl
  · unfold o_q_2; rw [h]; kernel_rfl
  · unfold o_q_3; rw [h]; kernel_rfl
def s_q (F : Nat) : List VV → Option (Bool × VV) := spec ti_q to_q (fun q => (ok_q F (iI q 0) (iI q 1) (iI q 2) (iI q 3))) (fun q => [.i (o_q_0 F (iI q 0) (iI q 1) (iI q 2) (iI q 3)), .i (o_f F (iI q 0) (iI q 1) (iI q 2) (iI q 3)), .i (o_q_2 F (iI q 0) (iI q 1) (iI q 2) (iI q 3)), .b (o_q_3 F (iI q 0) (iI q 1) (iI q 2) (iI q 3))])
theorem hS_q (F : Nat) : ∀ f, Good PP f (unS (S_q F f)) := words_good fun p hp => by
  simp only [List.mem_cons, List.not_mem_nil, or_false] at hp
  rcases hp with rfl
  · exact g_v F
theorem hl_q (F : Nat) : ∀ p ∈ loopsIn PP 39, LoopOK PP (S_q F) c_q F (I_q F) (J_q F) p :=
  loops_of [] (by kernel_rfl) all_nil
theorem hj_q (F : Nat) : ∀ p ∈ joinsIn PP c_q 39, JoinOK PP (S_q F) c_q (I_q F) (J_q F) p :=
  joins_of [] (by kernel_rfl) all_nil
theorem g_q (F : Nat) : Good PP 39 (unS (s_q F)) :=
  fun_spec (hS_q F) (by kernel_rfl) (by kernel_rfl) (C := c_q) (F := fun q => (f_q F (iI q 0) (iI q 1) (iI q 2) (iI q 3))) (fun _ => F) (fun _ => I_q F) (fun _ => J_q F) (fun _ => hl_q F) (fun _ => hj_q F)
    (fun q => (congrArg (funL PP (S_q F) c_q (I_q F) (J_q F) 39) (show (fTs ti_q q).1 = (fTs ti_q [.i (iI q 0), .i (iI q 1), .i (iI q 2), .i (iI q 3)]).1 by kernel_rfl)).trans (e_q F (iI q 0) (iI q 1) (iI q 2) (iI q 3)))
    (fun _ h => (okT_fill h).trans (congrArg some (by kernel_rfl)))

end Go.Xv
set_option linter.unusedVariables false
namespace Go.Xv
/- 22 _base_Among -/
def c_g : Cfg := ⟨[0, 1, 4, 6], [], [], []⟩
def ti_g : List TV := [.v (.int .i64), .v (.int .i64)]
def to_g : TV := .v (.int .i64)
def S_g (F : Nat) : FuncId → List VV → Option (Bool × VV) := words []
def W_g (F : Nat) : List LW := []
def I_g (F : Nat) : Nat → VS → (Exit → VS → R) → R := tabI c_g (W_g F)
def WJ_g (F : Nat) : List LJ := []
def J_g (F : Nat) : Nat → Nat → VS → (Exit → VS → R) → R := tabJ (WJ_g F)
def fg_g (F : Nat) (a0 a1 : Int) : R :=
 bif ((decide (a1 < 1))) then (
 some (.v (.int .i64 0)))
 else (
 let v2004 : Int := (IntKind.wrap .u64 a1)
 bif (!(decide (v2004 = 0))) then (
 some (.v (.int .i64 ((IntKind.wrap .i64 ((Int.tmod ((IntKind.wrap .u64 a0)) v2004))))))) else none)
def f_g (F : Nat) (a0 a1 : Int) : R := fg_g F a0 a1
theorem e_g (F : Nat) (a0 a1 : Int) : funL PP (S_g F) c_g (I_g F) (J_g F) 22 (fTs ti_g [.i a0, .i a1]).1 = f_g F a0 a1 := by
  have h : ∀ (_ : Unit), funL PP (words []) c_g (tabI c_g []) (tabJ []) 22 (fTs ti_g [.i a0, .i a1]).1 = fg_g F a0 a1 := by
    intros
    kernel_rfl
  exact (h ()).trans (by kernel_rfl)
def ok_g (F : Nat) (a0 a1 : Int) : Bool := okT to_g (f_g F a0 a1)
def o_g_0 (F : Nat) (a0 a1 : Int) : Int := atI (nth (outT to_g (f_g F a0 a1)) 0)
theorem k_g (F : Nat) (a0 a1 : Int) {z0 : Int} (h : f_g F a0 a1 = some (.v (.int .i64 z0))) : ok_g F a0 a1 = true ∧ o_g_0 F a0 a1 = z0 := by
  refine ⟨?_, ?_⟩
  · unfold ok_g; rw [h]; kernel_rfl
  · unfold o_g_0; rw [h]; kernel_rfl
def z_g (k : Nat → Int → Int → Bool) (r0 : Nat → Int → Int → Int) (F : Nat) : List VV → Option (Bool × VV) := spec ti_g to_g (fun q => (k F (iI q 0) (iI q 1))) (fun q => [.i (r0 F (iI q 0) (iI q 1))])
def s_g (F : Nat) : List VV → Option (Bool × VV) := z_g ok_g o_g_0 F
theorem hS_g (F : Nat) : ∀ f, Good PP f (unS (S_g F f)) := words_good fun p hp => by
  cases hp
theorem hl_g (F : Nat) : ∀ p ∈ loopsIn PP 22, LoopOK PP (S_g F) c_g F (I_g F) (J_g F) p :=
  loops_of [] (by kernel_rfl) all_nil
theorem hj_g (F : Nat) : ∀ p ∈ joinsIn PP c_g 22, JoinOK PP (S_g F) c_g (I_g F) (J_g F) p :=
  joins_of [] (by kernel_rfl) all_nil
theorem g_g (F : Nat) : Good PP 22 (unS (s_g F)) :=
  fun_spec (hS_g F) (by kernel_rfl) (by kernel_rfl) (C := c_g) (F := fun q => (f_g F (iI q 0) (iI q 1))) (fun _ => F) (fun _ => I_g F) (fun _ => J_g F) (fun _ => hl_g F) (fun _ => hj_g F)
    (fun q => (congrArg (funL PP (S_g F) c_g (I_g F) (J_g F) 22) (show (fTs ti_g q).1 = (fTs ti_g [.i (iI q 0), .i (iI q 1)]).1 by kernel_rfl)).trans (e_g F (iI q 0) (iI q 1)))
    (fun _ h => (okT_fill h).trans (congrArg some (by kernel_rfl)))

end Go.Xv
set_option linter.unusedVariables false
namespace Go.Xv
/- 10 _fuse_Check -/
def c_i : Cfg := ⟨[0, 1, 2, 30], [], [], []⟩
def ti_i : List TV := [.v (.agg [.int .i64, .int .i64, .int .i64, .int .i64])]
def to_i : TV := .v (.int .i64)
def S_i (F : Nat) : FuncId → List VV → Option (Bool × VV) := words []
def W_i (F : Nat) : List LW := []
def I_i (F : Nat) : Nat → VS → (Exit → VS → R) → R := tabI c_i (W_i F)
def WJ_i (F : Nat) : List LJ := []
def J_i (F : Nat) : Nat → Nat → VS → (Exit → VS → R) → R := tabJ (WJ_i F)
def fg_i (F : Nat) (a0 a1 a2 a3 : Int) : R :=
 bif ((decide (a0 < 0))) then (
 some (.v (.int .i64 2)))
 else (
 bif ((decide (a0 > 16))) then (
 some (.v (.int .i64 2)))
 else (
 bif ((decide (a1 < 0))) then (
 some (.v (.int .i64 2)))
 else (
 bif ((decide (a2 < 0))) then (
 some (.v (.int .i64 2)))
 else (
 bif ((decide (a3 < 1))) then (
 some (.v (.int .i64 2)))
 else (
 bif ((decide (a3 > 65535))) then (
 some (.v (.int .i64 2)))
 else (
 some (.v (.int .i64 0))))))))
def f_i (F : Nat) (a0 a1 a2 a3 : Int) : R := fg_i F a0 a1 a2 a3
theorem e_i (F : Nat) (a0 a1 a2 a3 : Int) : funL PP (S_i F) c_i (I_i F) (J_i F) 10 (fTs ti_i [.i a0, .i a1, .i a2, .i a3]).1 = f_i F a0 a1 a2 a3 := by
  have h : ∀ (_ : Unit), funL PP (words []) c_i (tabI c_i []) (tabJ []) 10 (fTs ti_i [.i a0, .i a1, .i a2, .i a3]).1 = fg_i F a0 a1 a2 a3 := by
    intros
    kernel_rfl
  exact (h ()).trans (by kernel_rfl)
def ok_i (F : Nat) (a0 a1 a2 a3 : Int) : Bool := okT to_i (f_i F a0 a1 a2 a3)
def o_i_0 (F : Nat) (a0 a1 a2 a3 : Int) : Int := atI (nth (outT to_i (f_i F a0 a1 a2 a3)) 0)
theorem k_i (F : Nat) (a0 a1 a2 a3 : Int) {z0 : Int} (h : f_i F a0 a1 a2 a3 = some (.v (.int .i64 z0))) : ok_i F a0 a1 a2 a3 = true ∧ o_i_0 F a0 a1 a2 a3 = z0 := by
  refine ⟨?_, ?_⟩
  · unfold ok_i; rw [h]; kernel_rfl
  · unfold o_i_0; rw [h]; kernel_rfl
def z_i (k : Y6) (r0 : Y7) (F : Nat) : List VV → Option (Bool × VV) := spec ti_i to_i (fun q => (k F (iI q 0) (iI q 1) (iI q 2) (iI q 3))) (fun q => [.i (r0 F (iI q 0) (iI q 1) (iI q 2) (iI q 3))])
def s_i (F : Nat) : List VV → Option (Bool × VV) := z_i ok_i o_i_0 F
theorem hS_i (F : Nat) : ∀ f, Good PP f (unS (S_i F f)) := words_good fun p hp => by
  cases hp
theorem hl_i (F : Nat) : ∀ p ∈ loopsIn PP 10, LoopOK PP (S_i F) c_i F (I_i F) (J_i F) p :=
  loops_of [] (by kernel_rfl) all_nil
theorem hj_i (F : Nat) : ∀ p ∈ joinsIn PP c_i 10, JoinOK PP (S_i F) c_i (I_i F) (J_i F) p :=
  joins_of [] (by kernel_rfl) all_nil
theorem g_i (F : Nat) : Good PP 10 (unS (s_i F)) :=
  fun_spec (hS_i F) (by kernel_rfl) (by kernel_rfl) (C := c_i) (F := fun q => (f_i F (iI q 0) (iI q 1) (iI q 2) (iI q 3))) (fun _ => F) (fun _ => I_i F) (fun _ => J_i F) (fun _ => hl_i F) (fun _ => hj_i F)
    (fun q => (congrArg (funL PP (S_i F) c_i (I_i F) (J_i F) 10) (show (fTs ti_i q).1 = (fTs ti_i [.i (iI q 0), .i (iI q 1), .i (iI q 2), .i (iI q 3)]).1 by kernel_rfl)).trans (e_i F (iI q 0) (iI q 1) (iI q 2) (iI q 3)))
    (fun _ h => (okT_fill h).trans (congrArg some (by kernel_rfl)))

end Go.Xv
set_option linter.unusedVariables false
namespace Go.Xv
/- 38 _fuse_tick -/
def c_p : Cfg := ⟨[0, 2], [], [], []⟩
def ti_p : List TV := [.v (.int .i64)]
def to_p : TV := .v (.bool)
def S_p (F : Nat) : FuncId → List VV → Option (Bool × VV) := words []
def W_p (F : Nat) : List LW := []
def I_p (F : Nat) : Nat → VS → (Exit → VS → R) → R := tabI c_p (W_p F)
def WJ_p (F : Nat) : List LJ := []
def J_p (F : Nat) : Nat → Nat → VS → (Exit → VS → R) → R := tabJ (WJ_p F)
def fg_p (F : Nat) (a0 : Int) : R :=
 bif ((decide (a0 ≥ 0))) then (
 some (.v (.bool ((decide (a0 ≤ 1099511627776))))))
 else (
 some (.v (.bool false)))
def f_p (F : Nat) (a0 : Int) : R := fg_p F a0
theorem e_p (F : Nat) (a0 : Int) : funL PP (S_p F) c_p (I_p F) (J_p F) 38 (fTs ti_p [.i a0]).1 = f_p F a0 := by
  have h : ∀ (_ : Unit), funL PP (words []) c_p (tabI c_p []) (tabJ []) 38 (fTs ti_p [.i a0]).1 = fg_p F a0 := by
    intros
    kernel_rfl
  exact (h ()).trans (by kernel_rfl)
def ok_p (F : Nat) (a0 : Int) : Bool := okT to_p (f_p F a0)
def o_p_0 (F : Nat) (a0 : Int) : Bool := atB (nth (outT to_p (f_p F a0)) 0)
theorem k_p (F : Nat) (a0 : Int) {z0 : Bool} (h : f_p F a0 = some (.v (.bool z0))) : ok_p F a0 = true ∧ o_p_0 F a0 = z0 := by
  refine ⟨?_, ?_⟩
  · unfold ok_p; rw [h]; kernel_rfl
  · unfold o_p_0; rw [h]; kernel_rfl
def z_p (k : Nat → Int → Bool) (r0 : Nat → Int → Bool) (F : Nat) : List VV → Option (Bool × VV) := spec ti_p to_p (fun q => (k F (iI q 0))) (fun q => [.b (r0 F (iI q 0))])
def s_p (F : Nat) : List VV → Option (Bool × VV) := z_p ok_p o_p_0 F
theorem hS_p (F : Nat) : ∀ f, Good PP f (unS (S_p F f)) := words_good fun p hp => by
  cases hp
theorem hl_p (F : Nat) : ∀ p ∈ loopsIn PP 38, LoopOK PP (S_p F) c_p F (I_p F) (J_p F) p :=
  loops_of [] (by kernel_rfl) all_nil
theorem hj_p (F : Nat) : ∀ p ∈ joinsIn PP c_p 38, JoinOK PP (S_p F) c_p (I_p F) (J_p F) p :=
  joins_of [] (by kernel_rfl) all_nil
theorem g_p (F : Nat) : Good PP 38 (unS (s_p F)) :=
  fun_spec (hS_p F) (by kernel_rfl) (by kernel_rfl) (C := c_p) (F := fun q => (f_p F (iI q 0))) (fun _ => F) (fun _ => I_p F) (fun _ => J_p F) (fun _ => hl_p F) (fun _ => hj_p F)
    (fun q => (congrArg (funL PP (S_p F) c_p (I_p F) (J_p F) 38) (show (fTs ti_p q).1 = (fTs ti_p [.i (iI q 0)]).1 by kernel_rfl)).trans (e_p F (iI q 0)))
    (fun _ h => (okT_fill h).trans (congrArg some (by kernel_rfl)))

end Go.Xv
set_option linter.unusedVariables false
namespace Go.Xv
/- 18 _fuse_Right -/
def c_j : Cfg := ⟨[0, 1, 2, 3, 4, 6, 15, 24], [], [], []⟩
def ti_j : List TV := [.v (.agg [.int .i64, .int .i64, .int .i64, .int .i64]), .v (.agg [.int .i64, .int .i64, .int .i64, .int .i64])]
def to_j : TV := .v (.int .i64)
def S_j (F : Nat) : FuncId → List VV → Option (Bool × VV) := words [(10, s_i F), (38, s_p F), (39, s_q F)]
def W_j (F : Nat) : List LW := []
def I_j (F : Nat) : Nat → VS → (Exit → VS → R) → R := tabI c_j (W_j F)
def WJ_j (F : Nat) : List LJ := []
def J_j (F : Nat) : Nat → Nat → VS → (Exit → VS → R) → R := tabJ (WJ_j F)
def fg_j (ok_i : Y6) (o_i_0 : Y7) (ok_p : Nat → Int → Bool) (o_p_0 : Nat → Int → Bool) (ok_q : Y6) (o_q_3 : Y6) (F : Nat) (a0 a1 a2 a3 a4 a5 a6 a7 : Int) : R :=
 bif (ok_i F a0 a1 a2 a3) then (
 bif ((((o_i_0 F a0 a1 a2 a3)) != 0)) then (
 some (.v (.int .i64 2)))
 else (
 bif (ok_p F a7) then (
 bif ((!((o_p_0 F a7)))) then (
 some (.v (.int .i64 2)))
 else (
 bif (ok_q F a4 a5 a6 a2) then (
 bif ((o_q_3 F a4 a5 a6 a2)) then (
 some (.v (.int .i64 2)))
 else (
 some (.v (.int .i64 0)))) else none)) else none)) else none
def f_j (F : Nat) (a0 a1 a2 a3 a4 a5 a6 a7 : Int) : R := fg_j ok_i o_i_0 ok_p o_p_0 ok_q o_q_3 F a0 a1 a2 a3 a4 a5 a6 a7
theorem e_j (F : Nat) (a0 a1 a2 a3 a4 a5 a6 a7 : Int) : funL PP (S_j F) c_j (I_j F) (J_j F) 18 (fTs ti_j [.i a0, .i a1, .i a2, .i a3, .i a4, .i a5, .i a6, .i a7]).1 = f_j F a0 a1 a2 a3 a4 a5 a6 a7 := by
  have h : ∀ (ok_i : Y6) (o_i_0 : Y7) (ok_p : Nat → Int → Bool) (o_p_0 : Nat → Int → Bool) (ok_q : Y6) (o_q_0 : Y7) (o_f : Y7) (o_q_2 : Y7) (o_q_3 : Y6), funL PP (words [(10, z_i ok_i o_i_0 F), (38, z_p ok_p o_p_0 F), (39, spec ti_q to_q (fun q => (ok_q F (iI q 0) (iI q 1) (iI q 2) (iI q 3))) (fun q => [.i (o_q_0 F (iI q 0) (iI q 1) (iI q 2) (iI q 3)), .i (o_f F (iI q 0) (iI q 1) (iI q 2) (iI q 3)), .i (o_q_2 F (iI q 0) (iI q 1) (iI q 2) (iI q 3)), .b (o_q_3 F (iI q 0) (iI q 1) (iI q 2) (iI q 3))]))]) c_j (tabI c_j []) (tabJ []) 18 (fTs ti_j [.i a0, .i a1, .i a2, .i a3, .i a4, .i a5, .i a6, .i a7]).1 = fg_j ok_i o_i_0 ok_p o_p_0 ok_q o_q_3 F a0 a1 a2 a3 a4 a5 a6 a7 := by
    intros
    kernel_rfl
  exact (h ok_i o_i_0 ok_p o_p_0 ok_q o_q_0 o_f o_q_2 o_q_3).trans (by kernel_rfl)
def ok_j (F : Nat) (a0 a1 a2 a3 a4 a5 a6 a7 : Int) : Bool := okT to_j (f_j F a0 a1 a2 a3 a4 a5 a6 a7)
def o_j_0 (F : Nat) (a0 a1 a2 a3 a4 a5 a6 a7 : Int) : Int := atI (nth (outT to_j (f_j F a0 a1 a2 a3 a4 a5 a6 a7)) 0)
theorem k_j (F : Nat) (a0 a1 a2 a3 a4 a5 a6 a7 : Int) {z0 : Int} (h : f_j F a0 a1 a2 a3 a4 a5 a6 a7 = some (.v (.int .i64 z0))) : ok_j F a0 a1 a2 a3 a4 a5 a6 a7 = true ∧ o_j_0 F a0 a1 a2 a3 a4 a5 a6 a7 = z0 := by
  refine ⟨?_, ?_⟩
  · unfold ok_j; rw [h]; kernel_rfl
  · unfold o_j_0; rw [h]; kernel_rfl
def z_j (k : Y8) (r0 : Y9) (F : Nat) : List VV → Option (Bool × VV) := spec ti_j to_j (fun q => (k F (iI q 0) (iI q 1) (iI q 2) (iI q 3) (iI q 4) (iI q 5) (iI q 6) (iI q 7))) (fun q => [.i (r0 F (iI q 0) (iI q 1) (iI q 2) (iI q 3) (iI q 4) (iI q 5) (iI q 6) (iI q 7))])
def s_j (F : Nat) : List VV → Option (Bool × VV) := z_j ok_j o_j_0 F
theorem hS_j (F : Nat) : ∀ f, Good PP f (unS (S_j F f)) := words_good fun p hp => by
  simp only [List.mem_cons, List.not_mem_nil, or_false] at hp
  rcases hp with rfl | rfl | rfl
  · exact g_i F
  · exact g_p F
  · exact g_q F
theorem hl_j (F : Nat) : ∀ p ∈ loopsIn PP 18, LoopOK PP (S_j F) c_j F (I_j F) (J_j F) p :=
  loops_of [] (by kernel_rfl) all_nil
theorem hj_j (F : Nat) : ∀ p ∈ joinsIn PP c_j 18, JoinOK PP (S_j F) c_j (I_j F) (J_j F) p :=
  joins_of [] (by kernel_rfl) all_nil
theorem g_j (F : Nat) : Good PP 18 (unS (s_j F)) :=
  fun_spec (hS_j F) (by kernel_rfl) (by kernel_rfl) (C := c_j) (F := fun q => (f_j F (iI q 0) (iI q 1) (iI q 2) (iI q 3) (iI q 4) (iI q 5) (iI q 6) (iI q 7))) (fun _ => F) (fun _ => I_j F) (fun _ => J_j F) (fun _ => hl_j F) (fun _ => hj_j F)
    (fun q => (congrArg (funL PP (S_j F) c_j (I_j F) (J_j F) 18) (show (fTs ti_j q).1 = (fTs ti_j [.i (iI q 0), .i (iI q 1), .i (iI q 2), .i (iI q 3), .i (iI q 4), .i (iI q 5), .i (iI q 6), .i (iI q 7)]).1 by kernel_rfl)).trans (e_j F (iI q 0) (iI q 1) (iI q 2) (iI q 3) (iI q 4) (iI q 5) (iI q 6) (iI q 7)))
    (fun _ h => (okT_fill h).trans (congrArg some (by kernel_rfl)))

end Go.Xv
set_option linter.unusedVariables false
namespace Go.Xv
/- 31 _fuse_may -/
def c_u : Cfg := ⟨[0, 1, 2, 3, 4, 6], [], [], []⟩
def ti_u : List TV := [.v (.agg [.int .i64, .int .i64, .int .i64, .int .i64]), .v (.agg [.int .i64, .int .i64, .int .i64, .int .i64]), .v (.int .i64)]
def to_u : TV := .v (.bool)
def S_u (F : Nat) : FuncId → List VV → Option (Bool × VV) := words [(18, s_j F), (38, s_p F)]
def W_u (F : Nat) : List LW := []
def I_u (F : Nat) : Nat → VS → (Exit → VS → R) → R := tabI c_u (W_u F)
def WJ_u (F : Nat) : List LJ := []
def J_u (F : Nat) : Nat → Nat → VS → (Exit → VS → R) → R := tabJ (WJ_u F)
def fg_u (ok_j : Y8) (o_j_0 : Y9) (ok_p : Nat → Int → Bool) (o_p_0 : Nat → Int → Bool) (F : Nat) (a0 a1 a2 a3 a4 a5 a6 a7 a8 : Int) : R :=
 bif (ok_j F a0 a1 a2 a3 a4 a5 a6 a7) then (
 bif ((((o_j_0 F a0 a1 a2 a3 a4 a5 a6 a7)) == 0)) then (
 bif ((decide (a8 ≥ a7))) then (
 bif (ok_p F a8) then (
 some (.v (.bool ((o_p_0 F a8))))) else none)
 else (
 some (.v (.bool false))))
 else (
 some (.v (.bool false)))) else none
def f_u (F : Nat) (a0 a1 a2 a3 a4 a5 a6 a7 a8 : Int) : R := fg_u ok_j o_j_0 ok_p o_p_0 F a0 a1 a2 a3 a4 a5 a6 a7 a8
theorem e_u (F : Nat) (a0 a1 a2 a3 a4 a5 a6 a7 a8 : Int) : funL PP (S_u F) c_u (I_u F) (J_u F) 31 (fTs ti_u [.i a0, .i a1, .i a2, .i a3, .i a4, .i a5, .i a6, .i a7, .i a8]).1 = f_u F a0 a1 a2 a3 a4 a5 a6 a7 a8 := by
  have h : ∀ (ok_j : Y8) (o_j_0 : Y9) (ok_p : Nat → Int → Bool) (o_p_0 : Nat → Int → Bool), funL PP (words [(18, z_j ok_j o_j_0 F), (38, z_p ok_p o_p_0 F)]) c_u (tabI c_u []) (tabJ []) 31 (fTs ti_u [.i a0, .i a1, .i a2, .i a3, .i a4, .i a5, .i a6, .i a7, .i a8]).1 = fg_u ok_j o_j_0 ok_p o_p_0 F a0 a1 a2 a3 a4 a5 a6 a7 a8 := by
    intros
    kernel_rfl
  exact (h ok_j o_j_0 ok_p o_p_0).trans (by kernel_rfl)
def ok_u (F : Nat) (a0 a1 a2 a3 a4 a5 a6 a7 a8 : Int) : Bool := okT to_u (f_u F a0 a1 a2 a3 a4 a5 a6 a7 a8)
def o_u_0 (F : Nat) (a0 a1 a2 a3 a4 a5 a6 a7 a8 : Int) : Bool := atB (nth (outT to_u (f_u F a0 a1 a2 a3 a4 a5 a6 a7 a8)) 0)
theorem k_u (F : Nat) (a0 a1 a2 a3 a4 a5 a6 a7 a8 : Int) {z0 : Bool} (h : f_u F a0 a1 a2 a3 a4 a5 a6 a7 a8 = some (.v (.bool z0))) : ok_u F a0 a1 a2 a3 a4 a5 a6 a7 a8 = true ∧ o_u_0 F a0 a1 a2 a3 a4 a5 a6 a7 a8 = z0 := by
  refine ⟨?_, ?_⟩
  · unfold ok_u; rw [h]; kernel_rfl
  · unfold o_u_0; rw [h]; kernel_rfl
def z_u (k : Y14) (r0 : Y14) (F : Nat) : List VV → Option (Bool × VV) := spec ti_u to_u (fun q => (k F (iI q 0) (iI q 1) (iI q 2) (iI q 3) (iI q 4) (iI q 5) (iI q 6) (iI q 7) (iI q 8))) (fun q => [.b (r0 F (iI q 0) (iI q 1) (iI q 2) (iI q 3) (iI q 4) (iI q 5) (iI q 6) (iI q 7) (iI q 8))])
def s_u (F : Nat) : List VV → Option (Bool × VV) := z_u ok_u o_u_0 F
theorem hS_u (F : Nat) : ∀ f, Good PP f (unS (S_u F f)) := words_good fun p hp => by
  simp only [List.mem_cons, List.not_mem_nil, or_false] at hp
  rcases hp with rfl | rfl
  · exact g_j F
  · exact g_p F
theorem hl_u (F : Nat) : ∀ p ∈ loopsIn PP 31, LoopOK PP (S_u F) c_u F (I_u F) (J_u F) p :=
  loops_of [] (by kernel_rfl) all_nil
theorem hj_u (F : Nat) : ∀ p ∈ joinsIn PP c_u 31, JoinOK PP (S_u F) c_u (I_u F) (J_u F) p :=
  joins_of [] (by kernel_rfl) all_nil
theorem g_u (F : Nat) : Good PP 31 (unS (s_u F)) :=
  fun_spec (hS_u F) (by kernel_rfl) (by kernel_rfl) (C := c_u) (F := fun q => (f_u F (iI q 0) (iI q 1) (iI q 2) (iI q 3) (iI q 4) (iI q 5) (iI q 6) (iI q 7) (iI q 8))) (fun _ => F) (fun _ => I_u F) (fun _ => J_u F) (fun _ => hl_u F) (fun _ => hj_u F)
    (fun q => (congrArg (funL PP (S_u F) c_u (I_u F) (J_u F) 31) (show (fTs ti_u q).1 = (fTs ti_u [.i (iI q 0), .i (iI q 1), .i (iI q 2), .i (iI q 3), .i (iI q 4), .i (iI q 5), .i (iI q 6), .i (iI q 7), .i (iI q 8)]).1 by kernel_rfl)).trans (e_u F (iI q 0) (iI q 1) (iI q 2) (iI q 3) (iI q 4) (iI q 5) (iI q 6) (iI q 7) (iI q 8)))
    (fun _ h => (okT_fill h).trans (congrArg some (by kernel_rfl)))

end Go.Xv
set_option linter.unusedVariables false
namespace Go.Xv
/- 57 _fix_Shift -/
def c_l : Cfg := ⟨[0, 1, 4, 5, 7], [], [9, 12], []⟩
def ti_l : List TV := [.v (.int .i64), .v (.int .i64)]
def to_l : TV := .v (.tup [.int .i64, .bool])
def S_l (F : Nat) : FuncId → List VV → Option (Bool × VV) := words [(67, s_aa F), (86, s_s F), (68, s_t F)]
def W_l (F : Nat) : List LW := []
def I_l (F : Nat) : Nat → VS → (Exit → VS → R) → R := tabI c_l (W_l F)
def WJ_l (F : Nat) : List LJ := []
def J_l (F : Nat) : Nat → Nat → VS → (Exit → VS → R) → R := tabJ (WJ_l F)
def fg_l (ok_aa : Nat → Int → Bool) (o_aa_0 : Nat → Int → Int) (o_aa_1 : Nat → Int → Int) (ok_s : Y0) (o_s_0 : Y1) (o_s_1 : Y1) (ok_t : Nat → Int → Int → Bool) (o_t_0 : Nat → Int → Int → Int) (o_t_1 : Nat → Int → Int → Bool) (F : Nat) (a0 a1 : Int) : R :=
 bif ((decide (a1 ≥ 0))) then (
 bif (ok_aa F a0) then (
 let v3183 : Int := (o_aa_0 F a0)
 let v3184 : Int := (o_aa_1 F a0)
 let v3185 : Int := (if 64 < a1 then 64 else a1)
 bif (ok_s F v3183 v3184 v3185) then (
 let v3186 : Int := (o_s_0 F v3183 v3184 v3185)
 let v3187 : Int := (o_s_1 F v3183 v3184 v3185)
 bif (ok_t F v3186 v3187) then (
 some (.v (.tuple #[.int .i64 ((o_t_0 F v3186 v3187)), .bool ((o_t_1 F v3186 v3187))]))) else none) else none) else none)
 else (
 let v3191 : Int := (IntKind.wrap .i64 (0 - ((if (-64) > a1 then (-64) else a1))))
 let v3192 : Int := (if v3191 < 63 then v3191 else 63)
 bif (!(decide (v3192 < 0))) then (
 some (.v (.tuple #[.int .i64 ((Int.fdiv a0 (2 ^ (min (Int.toNat v3192) 64)))), .bool false]))) else none)
def f_l (F : Nat) (a0 a1 : Int) : R := fg_l ok_aa o_aa_0 o_aa_1 ok_s o_s_0 o_s_1 ok_t o_t_0 o_t_1 F a0 a1
theorem e_l (F : Nat) (a0 a1 : Int) : funL PP (S_l F) c_l (I_l F) (J_l F) 57 (fTs ti_l [.i a0, .i a1]).1 = f_l F a0 a1 := by
  have h : ∀ (ok_aa : Nat → Int → Bool) (o_aa_0 : Nat → Int → Int) (o_aa_1 : Nat → Int → Int) (ok_s : Y0) (o_s_0 : Y1) (o_s_1 : Y1) (ok_t : Nat → Int → Int → Bool) (o_t_0 : Nat → Int → Int → Int) (o_t_1 : Nat → Int → Int → Bool), funL PP (words [(67, z_aa ok_aa o_aa_0 o_aa_1 F), (86, spec ti_s to_s (fun q => (ok_s F (iI q 0) (iI q 1) (iI q 2))) (fun q => [.i (o_s_0 F (iI q 0) (iI q 1) (iI q 2)), .i (o_s_1 F (iI q 0) (iI q 1) (iI q 2))])), (68, z_t ok_t o_t_0 o_t_1 F)]) c_l (tabI c_l []) (tabJ []) 57 (fTs ti_l [.i a0, .i a1]).1 = fg_l ok_aa o_aa_0 o_aa_1 ok_s o_s_0 o_s_1 ok_t o_t_0 o_t_1 F a0 a1 := by
    intros
    kernel_rfl
  exact (h ok_aa o_aa_0 o_aa_1 ok_s o_s_0 o_s_1 ok_t o_t_0 o_t_1).trans (by kernel_rfl)
def ok_l (F : Nat) (a0 a1 : Int) : Bool := okT to_l (f_l F a0 a1)
def o_l_0 (F : Nat) (a0 a1 : Int) : Int := atI (nth (outT to_l (f_l F a0 a1)) 0)
def o_l_1 (F : Nat) (a0 a1 : Int) : Bool := atB (nth (outT to_l (f_l F a0 a1)) 1)
theorem k_l (F : Nat) (a0 a1 : Int) {z0 : Int} {z1 : Bool} (h : f_l F a0 a1 = some (.v (.tuple #[.int .i64 z0, .bool z1]))) : ok_l F a0 a1 = true ∧ o_l_0 F a0 a1 = z0 ∧ o_l_1 F a0 a1 = z1 := by
  refine ⟨?_, ?_, ?_⟩
  · unfold ok_l; rw [h]; kernel_rfl
  · unfold o_l_0; rw [h]; kernel_rfl
  · unfold o_l_1; rw [h]; kernel_rfl
def s_l (F : Nat) : List VV → Option (Bool × VV) := spec ti_l to_l (fun q => (ok_l F (iI q 0) (iI q 1))) (fun q => [.i (o_l_0 F (iI q 0) (iI q 1)), .b (o_l_1 F (iI q 0) (iI q 1))])
theorem hS_l (F : Nat) : ∀ f, Good PP f (unS (S_l F f)) := words_good fun p hp => by
  simp only [List.mem_cons, List.not_mem_nil, or_false] at hp
  rcases hp with rfl | rfl | rfl
  · exact g_aa F
  · exact g_s F
  · exact g_t F
theorem hl_l (F : Nat) : ∀ p ∈ loopsIn PP 57, LoopOK PP (S_l F) c_l F (I_l F) (J_l F) p :=
  loops_of [] (by kernel_rfl) all_nil
theorem hj_l (F : Nat) : ∀ p ∈ joinsIn PP c_l 57, JoinOK PP (S_l F) c_l (I_l F) (J_l F) p :=
  joins_of [] (by kernel_rfl) all_nil
theorem g_l (F : Nat) : Good PP 57 (unS (s_l F)) :=
  fun_spec (hS_l F) (by kernel_rfl) (by kernel_rfl) (C := c_l) (F := fun q => (f_l F (iI q 0) (iI q 1))) (fun _ => F) (fun _ => I_l F) (fun _ => J_l F) (fun _ => hl_l F) (fun _ => hj_l F)
    (fun q => (congrArg (funL PP (S_l F) c_l (I_l F) (J_l F) 57) (show (fTs ti_l q).1 = (fTs ti_l [.i (iI q 0), .i (iI q 1)]).1 by kernel_rfl)).trans (e_l F (iI q 0) (iI q 1)))
    (fun _ h => (okT_fill h).trans (congrArg some (by kernel_rfl)))

end Go.Xv
set_option linter.unusedVariables false
namespace Go.Xv
/- 33 _fuse_Rule_pulled -/
def c_b : Cfg := ⟨[0, 1, 2, 3, 6, 7], [], [], []⟩
def ti_b : List TV := [.v (.agg [.int .i64, .int .i64, .int .i64, .int .i64]), .v (.int .i64), .v (.int .i64)]
def to_b : TV := .v (.int .i64)
def S_b (F : Nat) : FuncId → List VV → Option (Bool × VV) := words [(57, s_l F), (58, s_k F), (59, s_x F)]
def W_b (F : Nat) : List LW := []
def I_b (F : Nat) : Nat → VS → (Exit → VS → R) → R := tabI c_b (W_b F)
def WJ_b (F : Nat) : List LJ := []
def J_b (F : Nat) : Nat → Nat → VS → (Exit → VS → R) → R := tabJ (WJ_b F)
def fg_b (ok_l : Nat → Int → Int → Bool) (o_l_0 : Nat → Int → Int → Int) (ok_k : Y0) (o_k_0 : Y1) (ok_x : Nat → Int → Int → Bool) (o_x_0 : Nat → Int → Int → Int) (F : Nat) (a0 a1 a2 a3 a4 a5 : Int) : R :=
 let v3181 : Int := (IntKind.wrap .i64 (0 - a0))
 bif (ok_l F a5 v3181) then (
 let v3194 : Int := (o_l_0 F a5 v3181)
 let v3196 : Int := (IntKind.wrap .i64 (0 - a1))
 bif (ok_k F v3194 v3196 a1) then (
 let v3197 : Int := (o_k_0 F v3194 v3196 a1)
 bif (ok_x F a4 v3197) then (
 let v3205 : Int := (o_x_0 F a4 v3197)
 let v3207 : Int := (IntKind.wrap .i64 (0 - a2))
 bif (ok_k F v3205 v3207 a2) then (
 some (.v (.int .i64 ((o_k_0 F v3205 v3207 a2))))) else none) else none) else none) else none
def f_b (F : Nat) (a0 a1 a2 a3 a4 a5 : Int) : R := fg_b ok_l o_l_0 ok_k o_k_0 ok_x o_x_0 F a0 a1 a2 a3 a4 a5
theorem e_b (F : Nat) (a0 a1 a2 a3 a4 a5 : Int) : funL PP (S_b F) c_b (I_b F) (J_b F) 33 (fTs ti_b [.i a0, .i a1, .i a2, .i a3, .i a4, .i a5]).1 = f_b F a0 a1 a2 a3 a4 a5 := by
  have h : ∀ (ok_l : Nat → Int → Int → Bool) (o_l_0 : Nat → Int → Int → Int) (o_l_1 : Nat → Int → Int → Bool) (ok_k : Y0) (o_k_0 : Y1) (o_k_1 : Y0) (ok_x : Nat → Int → Int → Bool) (o_x_0 : Nat → Int → Int → Int) (o_x_1 : Nat → Int → Int → Bool), funL PP (words [(57, spec ti_l to_l (fun q => (ok_l F (iI q 0) (iI q 1))) (fun q => [.i (o_l_0 F (iI q 0) (iI q 1)), .b (o_l_1 F (iI q 0) (iI q 1))])), (58, z_k ok_k o_k_0 o_k_1 F), (59, spec ti_x to_x (fun q => (ok_x F (iI q 0) (iI q 1))) (fun q => [.i (o_x_0 F (iI q 0) (iI q 1)), .b (o_x_1 F (iI q 0) (iI q 1))]))]) c_b (tabI c_b []) (tabJ []) 33 (fTs ti_b [.i a0, .i a1, .i a2, .i a3, .i a4, .i a5]).1 = fg_b ok_l o_l_0 ok_k o_k_0 ok_x o_x_0 F a0 a1 a2 a3 a4 a5 := by
    intros
    kernel_rfl
  exact (h ok_l o_l_0 o_l_1 ok_k o_k_0 o_k_1 ok_x o_x_0 o_x_1).trans (by kernel_rfl)
def ok_b (F : Nat) (a0 a1 a2 a3 a4 a5 : Int) : Bool := okT to_b (f_b F a0 a1 a2 a3 a4 a5)
def o_b_0 (F : Nat) (a0 a1 a2 a3 a4 a5 : Int) : Int := atI (nth (outT to_b (f_b F a0 a1 a2 a3 a4 a5)) 0)
theorem k_b (F : Nat) (a0 a1 a2 a3 a4 a5 : Int) {z0 : Int} (h : f_b F a0 a1 a2 a3 a4 a5 = some (.v (.int .i64 z0))) : ok_b F a0 a1 a2 a3 a4 a5 = true ∧ o_b_0 F a0 a1 a2 a3 a4 a5 = z0 := by
  refine ⟨?_, ?_⟩
  · unfold ok_b; rw [h]; kernel_rfl
  · unfold o_b_0; rw [h]; kernel_rfl
def z_b (k : Y10) (r0 : Y11) (F : Nat) : List VV → Option (Bool × VV) := spec ti_b to_b (fun q => (k F (iI q 0) (iI q 1) (iI q 2) (iI q 3) (iI q 4) (iI q 5))) (fun q => [.i (r0 F (iI q 0) (iI q 1) (iI q 2) (iI q 3) (iI q 4) (iI q 5))])
def s_b (F : Nat) : List VV → Option (Bool × VV) := z_b ok_b o_b_0 F
theorem hS_b (F : Nat) : ∀ f, Good PP f (unS (S_b F f)) := words_good fun p hp => by
  simp only [List.mem_cons, List.not_mem_nil, or_false] at hp
  rcases hp with rfl | rfl | rfl
  · exact g_l F
  · exact g_k F
  · exact g_x F
theorem hl_b (F : Nat) : ∀ p ∈ loopsIn PP 33, LoopOK PP (S_b F) c_b F (I_b F) (J_b F) p :=
  loops_of [] (by kernel_rfl) all_nil
theorem hj_b (F : Nat) : ∀ p ∈ joinsIn PP c_b 33, JoinOK PP (S_b F) c_b (I_b F) (J_b F) p :=
  joins_of [] (by kernel_rfl) all_nil
theorem g_b (F : Nat) : Good PP 33 (unS (s_b F)) :=
  fun_spec (hS_b F) (by kernel_rfl) (by kernel_rfl) (C := c_b) (F := fun q => (f_b F (iI q 0) (iI q 1) (iI q 2) (iI q 3) (iI q 4) (iI q 5))) (fun _ => F) (fun _ => I_b F) (fun _ => J_b F) (fun _ => hl_b F) (fun _ => hj_b F)
    (fun q => (congrArg (funL PP (S_b F) c_b (I_b F) (J_b F) 33) (show (fTs ti_b q).1 = (fTs ti_b [.i (iI q 0), .i (iI q 1), .i (iI q 2), .i (iI q 3), .i (iI q 4), .i (iI q 5)]).1 by kernel_rfl)).trans (e_b F (iI q 0) (iI q 1) (iI q 2) (iI q 3) (iI q 4) (iI q 5)))
    (fun _ h => (okT_fill h).trans (congrArg some (by kernel_rfl)))

end Go.Xv
set_option linter.unusedVariables false
namespace Go.Xv
/- 32 _fuse_each -/
def c_o : Cfg := ⟨[0, 1, 2, 3, 5, 6, 8, 9, 10, 11, 12, 13, 14, 22], [(0, [0, 1, 2, 3, 5, 6, 8, 9, 12, 13, 32])], [], []⟩
def ti_o : List TV := [.fn 1000033 [.v (.agg [.int .i64, .int .i64, .int .i64, .int .i64])], .v (.agg [.int .i64, .int .i64, .int .i64]), .v (.agg [.int .i64, .int .i64, .int .i64]), .v (.int .i64)]
def to_o : TV := .v (.agg [.int .i64, .int .i64, .int .i64])
def S_o (F : Nat) : FuncId → List VV → Option (Bool × VV) := words [(33, s_b F)]
def T_o_0 : TS := ⟨[(0, .fn 1000033 [.v (.agg [.int .i64, .int .i64, .int .i64, .int .i64])]), (1, .v (.agg [.int .i64, .int .i64, .int .i64])), (2, .v (.agg [.int .i64, .int .i64, .int .i64])), (3, .v (.int .i64)), (5, .lp 0 (.lit 0)), (6, .lp 1 (.lit 0)), (8, .lp 2 (.lit 0)), (9, .lp 3 (.lit 0)), (12, .v (.agg [.int .i64, .int .i64, .int .i64])), (13, .v (.int .i64))], [(0, ⟨(.ex [.v (.int .i64), .v (.int .i64), .v (.int .i64)]), true⟩), (1, ⟨(.ex [.v (.int .i64), .v (.int .i64), .v (.int .i64)]), true⟩), (2, ⟨(.ex [.v (.int .i64), .v (.int .i64), .v (.int .i64)]), true⟩), (3, ⟨.hole, true⟩)], 4⟩
def T_o_0_0 : TS := ⟨[(0, .fn 1000033 [.v (.agg [.int .i64, .int .i64, .int .i64, .int .i64])]), (1, .v (.agg [.int .i64, .int .i64, .int .i64])), (2, .v (.agg [.int .i64, .int .i64, .int .i64])), (3, .v (.int .i64)), (5, .lp 0 (.lit 0)), (6, .lp 1 (.lit 0)), (8, .lp 2 (.lit 0)), (9, .lp 3 (.lit 0)), (12, .v (.agg [.int .i64, .int .i64, .int .i64])), (13, .v (.int .i64))], [(0, ⟨(.ex [.v (.int .i64), .v (.int .i64), .v (.int .i64)]), true⟩), (1, ⟨(.ex [.v (.int .i64), .v (.int .i64), .v (.int .i64)]), true⟩), (2, ⟨(.ex [.v (.int .i64), .v (.int .i64), .v (.int .i64)]), true⟩), (3, ⟨.hole, true⟩)], 4⟩
def K_fuse_each_0_0e0 (k : Exit → VS → R) : Y12 := fun (z0 z1 z2 z3 z4 z5 z6 z7 z8 z9 z10 z11 z12 z13 z14 z15 z16 z17 z18 z19 z20 z21 z22 z23 : Int) (z24 : List VV) => k (.exit 0) (fS T_o_0_0 [.i z0, .i z1, .i z2, .i z3, .i z4, .i z5, .i z6, .i z7, .i z8, .i z9, .i z10, .i z11, .i z12, .i z13, .i z14, .i z15, .i z16, .i z17, .i z18, .i z19, .i z20, .i z21, .i z22, .i z23, .c z24])
def Bg_o_0 (ok_b : Y10) (o_b_0 : Y11) (F : Nat) (rc : Y12) (ex0 : Y12) (x0 x1 x2 x3 x4 x5 x6 x7 x8 x9 x10 x11 x12 x13 x14 x15 x16 x17 x18 x19 x20 x21 x22 x23 : Int) (x24 : List VV) : R :=
 bif ((decide (x14 < 3))) then (
 bif (((decide (0 ≤ x14)) && (decide (x14 < 3))) && ((isI .i64 [.v (.int .i64 x11), .v (.int .i64 x12), .v (.int .i64 x13)][((Int.toNat x14) * 1)]?) && true)) then (
 let v3175 : Int := (iv [.v (.int .i64 x11), .v (.int .i64 x12), .v (.int .i64 x13)][((Int.toNat x14) * 1)]?)
 bif ((decide (0 ≤ x14)) && (decide (x14 < 3))) then (
 let v3176 : Nat := (0 + ((Int.toNat x14) * 1))
 bif (decide ((v3176 + 1) ≤ x24.length)) then (
 let v3177 : List VV := (x24.take v3176 ++ [.v (.int .i64 v3175)] ++ x24.drop (v3176 + 1))
 bif ((decide (x14 < x10))) then (
 bif ((decide (0 ≤ x14)) && (decide (x14 < 3))) then (
 let v3179 : Nat := (0 + ((Int.toNat x14) * 1))
 bif ((isI .i64 [.v (.int .i64 x18), .v (.int .i64 x19), .v (.int .i64 x20)][v3179]?) && true) then (
 let v3180 : Int := (iv [.v (.int .i64 x18), .v (.int .i64 x19), .v (.int .i64 x20)][v3179]?)
 bif (ok_b F x0 x1 x2 x3 v3175 v3180) then (
 bif ((decide (0 ≤ x14)) && (decide (x14 < 3))) then (
 let v3211 : Nat := (0 + ((Int.toNat x14) * 1))
 bif (decide ((v3211 + 1) ≤ v3177.length)) then (
 rc x0 x1 x2 x3 x4 x5 x6 x7 x8 x9 x10 x11 x12 x13 ((IntKind.wrap .i64 (x14 + 1))) x15 x16 x17 x18 x19 x20 x21 x22 x23 ((v3177.take v3211 ++ [.v (.int .i64 ((o_b_0 F x0 x1 x2 x3 v3175 v3180)))] ++ v3177.drop (v3211 + 1)))) else none) else none) else none) else none) else none)
 else (
 rc x0 x1 x2 x3 x4 x5 x6 x7 x8 x9 x10 x11 x12 x13 ((IntKind.wrap .i64 (x14 + 1))) x15 x16 x17 x18 x19 x20 x21 x22 x23 v3177)) else none) else none) else none)
 else (
 ex0 x0 x1 x2 x3 x4 x5 x6 x7 x8 x9 x10 x11 x12 x13 x14 x15 x16 x17 x18 x19 x20 x21 x22 x23 x24)
def B_o_0 (F : Nat) (rc : Y12) (ex0 : Y12) (x0 x1 x2 x3 x4 x5 x6 x7 x8 x9 x10 x11 x12 x13 x14 x15 x16 x17 x18 x19 x20 x21 x22 x23 : Int) (x24 : List VV) : R := Bg_o_0 ok_b o_b_0 F rc ex0 x0 x1 x2 x3 x4 x5 x6 x7 x8 x9 x10 x11 x12 x13 x14 x15 x16 x17 x18 x19 x20 x21 x22 x23 x24
def L_o_0 (F : Nat) (ex0 : Y12) : Y13
  | 0, _, _, _, _, _, _, _, _, _, _, _, _, _, _, _, _, _, _, _, _, _, _, _, _, _ => none
  | n + 1, x0, x1, x2, x3, x4, x5, x6, x7, x8, x9, x10, x11, x12, x13, x14, x15, x16, x17, x18, x19, x20, x21, x22, x23, x24 => B_o_0 F (L_o_0 F ex0 n) ex0 x0 x1 x2 x3 x4 x5 x6 x7 x8 x9 x10 x11 x12 x13 x14 x15 x16 x17 x18 x19 x20 x21 x22 x23 x24
def W_o (F : Nat) : List LW := [⟨0, T_o_0, fun k q => L_o_0 F (K_fuse_each_0_0e0 k) F (iI q 0) (iI q 1) (iI q 2) (iI q 3) (iI q 4) (iI q 5) (iI q 6) (iI q 7) (iI q 8) (iI q 9) (iI q 10) (iI q 11) (iI q 12) (iI q 13) (iI q 14) (iI q 15) (iI q 16) (iI q 17) (iI q 18) (iI q 19) (iI q 20) (iI q 21) (iI q 22) (iI q 23) (atC (nth q 24))⟩]
def I_o (F : Nat) : Nat → VS → (Exit → VS → R) → R := tabI c_o (W_o F)
def WJ_o (F : Nat) : List LJ := []
def J_o (F : Nat) : Nat → Nat → VS → (Exit → VS → R) → R := tabJ (WJ_o F)
theorem lL_o_0 (F : Nat) (k : Exit → VS → R) : ∀ (n : Nat) (x0 x1 x2 x3 x4 x5 x6 x7 x8 x9 x10 x11 x12 x13 x14 x15 x16 x17 x18 x19 x20 x21 x22 x23 : Int) (x24 : List VV), iterC (codeL PP (S_o F) c_o (I_o F) (J_o F) (loopAt PP 32 0) 0) (headOf c_o 0) k n (fS T_o_0 [.i x0, .i x1, .i x2, .i x3, .i x4, .i x5, .i x6, .i x7, .i x8, .i x9, .i x10, .i x11, .i x12, .i x13, .i x14, .i x15, .i x16, .i x17, .i x18, .i x19, .i x20, .i x21, .i x22, .i x23, .c x24]) = L_o_0 F (K_fuse_each_0_0e0 k) n x0 x1 x2 x3 x4 x5 x6 x7 x8 x9 x10 x11 x12 x13 x14 x15 x16 x17 x18 x19 x20 x21 x22 x23 x24
  | 0, _, _, _, _, _, _, _, _, _, _, _, _, _, _, _, _, _, _, _, _, _, _, _, _, _ => rfl
  | n + 1, x0, x1, x2, x3, x4, x5, x6, x7, x8, x9, x10, x11, x12, x13, x14, x15, x16, x17, x18, x19, x20, x21, x22, x23, x24 => by
    have h0 : ∀ (ok_b : Y10) (o_b_0 : Y11) (L_o_0 : Nat → (Y12) → Y13), iterC (codeL PP (words [(33, z_b ok_b o_b_0 F)]) c_o (tabI c_o [⟨0, T_o_0, fun k q => L_o_0 F (K_fuse_each_0_0e0 k) F (iI q 0) (iI q 1) (iI q 2) (iI q 3) (iI q 4) (iI q 5) (iI q 6) (iI q 7) (iI q 8) (iI q 9) (iI q 10) (iI q 11) (iI q 12) (iI q 13) (iI q 14) (iI q 15) (iI q 16) (iI q 17) (iI q 18) (iI q 19) (iI q 20) (iI q 21) (iI q 22) (iI q 23) (atC (nth q 24))⟩]) (tabJ []) (loopAt PP 32 0) 0) (headOf c_o 0) k (n + 1) (fS T_o_0 [.i x0, .i x1, .i x2, .i x3, .i x4, .i x5, .i x6, .i x7, .i x8, .i x9, .i x10, .i x11, .i x12, .i x13, .i x14, .i x15, .i x16, .i x17, .i x18, .i x19, .i x20, .i x21, .i x22, .i x23, .c x24]) = (Bg_o_0 ok_b o_b_0 F) (fun (y0 y1 y2 y3 y4 y5 y6 y7 y8 y9 y10 y11 y12 y13 y14 y15 y16 y17 y18 y19 y20 y21 y22 y23 : Int) (y24 : List VV) => iterC (codeL PP (words [(33, z_b ok_b o_b_0 F)]) c_o (tabI c_o [⟨0, T_o_0, fun k q => L_o_0 F (K_fuse_each_0_0e0 k) F (iI q 0) (iI q 1) (iI q 2) (iI q 3) (iI q 4) (iI q 5) (iI q 6) (iI q 7) (iI q 8) (iI q 9) (iI q 10) (iI q 11) (iI q 12) (iI q 13) (iI q 14) (iI q 15) (iI q 16) (iI q 17) (iI q 18) (iI q 19) (iI q 20) (iI q 21) (iI q 22) (iI q 23) (atC (nth q 24))⟩]) (tabJ []) (loopAt PP 32 0) 0) (headOf c_o 0) k n (fS T_o_0 [.i y0, .i y1, .i y2, .i y3, .i y4, .i y5, .i y6, .i y7, .i y8, .i y9, .i y10, .i y11, .i y12, .i y13, .i y14, .i y15, .i y16, .i y17, .i y18, .i y19, .i y20, .i y21, .i y22, .i y23, .c y24])) (K_fuse_each_0_0e0 k) x0 x1 x2 x3 x4 x5 x6 x7 x8 x9 x10 x11 x12 x13 x14 x15 x16 x17 x18 x19 x20 x21 x22 x23 x24 := by
      intros
      kernel_rfl
    have h : iterC (codeL PP (S_o F) c_o (I_o F) (J_o F) (loopAt PP 32 0) 0) (headOf c_o 0) k (n + 1) (fS T_o_0 [.i x0, .i x1, .i x2, .i x3, .i x4, .i x5, .i x6, .i x7, .i x8, .i x9, .i x10, .i x11, .i x12, .i x13, .i x14, .i x15, .i x16, .i x17, .i x18, .i x19, .i x20, .i x21, .i x22, .i x23, .c x24]) = B_o_0 F (fun (y0 y1 y2 y3 y4 y5 y6 y7 y8 y9 y10 y11 y12 y13 y14 y15 y16 y17 y18 y19 y20 y21 y22 y23 : Int) (y24 : List VV) => iterC (codeL PP (S_o F) c_o (I_o F) (J_o F) (loopAt PP 32 0) 0) (headOf c_o 0) k n (fS T_o_0 [.i y0, .i y1, .i y2, .i y3, .i y4, .i y5, .i y6, .i y7, .i y8, .i y9, .i y10, .i y11, .i y12, .i y13, .i y14, .i y15, .i y16, .i y17, .i y18, .i y19, .i y20, .i y21, .i y22, .i y23, .c y24])) (K_fuse_each_0_0e0 k) x0 x1 x2 x3 x4 x5 x6 x7 x8 x9 x10 x11 x12 x13 x14 x15 x16 x17 x18 x19 x20 x21 x22 x23 x24 := (h0 ok_b o_b_0 L_o_0).trans (by kernel_rfl)
    rw [h]
    simp only [lL_o_0 F k n]
    rfl
def fg_o (L_o_0 : Nat → (Y12) → Y13) (F : Nat) (a0 a1 a2 a3 a4 a5 a6 a7 a8 a9 a10 : Int) : R :=
 L_o_0 F (fun (v3215 v3216 v3217 v3218 v3219 v3220 v3221 v3222 v3223 v3224 v3225 v3226 v3227 v3228 v3229 v3230 v3231 v3232 v3233 v3234 v3235 v3236 v3237 v3238 : Int) (v3239 : List VV) =>
 bif ((isI .i64 v3239[0]?) && ((isI .i64 v3239[1]?) && ((isI .i64 v3239[2]?) && true))) then (
 some (.v (.agg #[.int .i64 ((iv v3239[0]?)), .int .i64 ((iv v3239[1]?)), .int .i64 ((iv v3239[2]?))]))) else none) F a0 a1 a2 a3 a4 a5 a6 a7 a8 a9 a10 a4 a5 a6 0 a4 a5 a6 a7 a8 a9 0 0 0 ([.v (.int .i64 0), .v (.int .i64 0), .v (.int .i64 0)])
def f_o (F : Nat) (a0 a1 a2 a3 a4 a5 a6 a7 a8 a9 a10 : Int) : R := fg_o L_o_0 F a0 a1 a2 a3 a4 a5 a6 a7 a8 a9 a10
theorem e_o (F : Nat) (a0 a1 a2 a3 a4 a5 a6 a7 a8 a9 a10 : Int) : funL PP (S_o F) c_o (I_o F) (J_o F) 32 (fTs ti_o [.i a0, .i a1, .i a2, .i a3, .i a4, .i a5, .i a6, .i a7, .i a8, .i a9, .i a10]).1 = f_o F a0 a1 a2 a3 a4 a5 a6 a7 a8 a9 a10 := by
  have h : ∀ (ok_b : Y10) (o_b_0 : Y11) (L_o_0 : Nat → (Y12) → Y13), funL PP (words [(33, z_b ok_b o_b_0 F)]) c_o (tabI c_o [⟨0, T_o_0, fun k q => L_o_0 F (K_fuse_each_0_0e0 k) F (iI q 0) (iI q 1) (iI q 2) (iI q 3) (iI q 4) (iI q 5) (iI q 6) (iI q 7) (iI q 8) (iI q 9) (iI q 10) (iI q 11) (iI q 12) (iI q 13) (iI q 14) (iI q 15) (iI q 16) (iI q 17) (iI q 18) (iI q 19) (iI q 20) (iI q 21) (iI q 22) (iI q 23) (atC (nth q 24))⟩]) (tabJ []) 32 (fTs ti_o [.i a0, .i a1, .i a2, .i a3, .i a4, .i a5, .i a6, .i a7, .i a8, .i a9, .i a10]).1 = fg_o L_o_0 F a0 a1 a2 a3 a4 a5 a6 a7 a8 a9 a10 := by
    intros
    kernel_rfl
  exact (h ok_b o_b_0 L_o_0).trans (by kernel_rfl)
def ok_o (F : Nat) (a0 a1 a2 a3 a4 a5 a6 a7 a8 a9 a10 : Int) : Bool := okT to_o (f_o F a0 a1 a2 a3 a4 a5 a6 a7 a8 a9 a10)
def o_o_0 (F : Nat) (a0 a1 a2 a3 a4 a5 a6 a7 a8 a9 a10 : Int) : Int := atI (nth (outT to_o (f_o F a0 a1 a2 a3 a4 a5 a6 a7 a8 a9 a10)) 0)
def o_o_1 (F : Nat) (a0 a1 a2 a3 a4 a5 a6 a7 a8 a9 a10 : Int) : Int := atI (nth (outT to_o (f_o F a0 a1 a2 a3 a4 a5 a6 a7 a8 a9 a10)) 1)
def o_o_2 (F : Nat) (a0 a1 a2 a3 a4 a5 a6 a7 a8 a9 a10 : Int) : Int := atI (nth (outT to_o (f_o F a0 a1 a2 a3 a4 a5 a6 a7 a8 a9 a10)) 2)
theorem k_o (F : Nat) (a0 a1 a2 a3 a4 a5 a6 a7 a8 a9 a10 : Int) {z0 : Int} {z1 : Int} {z2 : Int} (h : f_o F a0 a1 a2 a3 a4 a5 a6 a7 a8 a9 a10 = some (.v (.agg #[.int .i64 z0, .int .i64 z1, .int .i64 z2]))) : ok_o F a0 a1 a2 a3 a4 a5 a6 a7 a8 a9 a10 = true ∧ o_o_0 F a0 a1 a2 a3 a4 a5 a6 a7 a8 a9 a10 = z0 ∧ o_o_1 F a0 a1 a2 a3 a4 a5 a6 a7 a8 a9 a10 = z1 ∧ o_o_2 F a0 a1 a2 a3 a4 a5 a6 a7 a8 a9 a10 = z2 := by
  refine ⟨?_, ?_, ?_, ?_⟩
  · unfold ok_o; rw [h]; kernel_rfl
  · unfold o_o_0; rw [h]; kernel_rfl
  · unfold o_o_1; rw [h]; kernel_rfl
  · unfold o_o_2; rw [h]; kernel_rfl
def s_o (F : Nat) : List VV → Option (Bool × VV) := spec ti_o to_o (fun q => (ok_o F (iI q 0) (iI q 1) (iI q 2) (iI q 3) (iI q 4) (iI q 5) (iI q 6) (iI q 7) (iI q 8) (iI q 9) (iI q 10))) (fun q => [.i (o_o_0 F (iI q 0) (iI q 1) (iI q 2) (iI q 3) (iI q 4) (iI q 5) (iI q 6) (iI q 7) (iI q 8) (iI q 9) (iI q 10)), .i (o_o_1 F (iI q 0) (iI q 1) (iI q 2) (iI q 3) (iI q 4) (iI q 5) (iI q 6) (iI q 7) (iI q 8) (iI q 9) (iI q 10)), .i (o_o_2 F (iI q 0) (iI q 1) (iI q 2) (iI q 3) (iI q 4) (iI q 5) (iI q 6) (iI q 7) (iI q 8) (iI q 9) (iI q 10))])
theorem hS_o (F : Nat) : ∀ f, Good PP f (unS (S_o F f)) := words_good fun p hp => by
  simp only [List.mem_cons, List.not_mem_nil, or_false] at hp
  rcases hp with rfl
  · exact g_b F
theorem hl_o (F : Nat) : ∀ p ∈ loopsIn PP 32, LoopOK PP (S_o F) c_o F (I_o F) (J_o F) p :=
  loops_of [(0, loopAt PP 32 0)] (by kernel_rfl) (all_cons
    (loop_ok (W_o F) rfl (tab_cons (fun _ k q => Le.ofEq ((lL_o_0 F k F (iI q 0) (iI q 1) (iI q 2) (iI q 3) (iI q 4) (iI q 5) (iI q 6) (iI q 7) (iI q 8) (iI q 9) (iI q 10) (iI q 11) (iI q 12) (iI q 13) (iI q 14) (iI q 15) (iI q 16) (iI q 17) (iI q 18) (iI q 19) (iI q 20) (iI q 21) (iI q 22) (iI q 23) (atC (nth q 24))).symm.trans (congrArg (iterC (codeL PP (S_o F) c_o (I_o F) (J_o F) (loopAt PP 32 0) 0) (headOf c_o 0) k F) (show fS T_o_0 [.i (iI q 0), .i (iI q 1), .i (iI q 2), .i (iI q 3), .i (iI q 4), .i (iI q 5), .i (iI q 6), .i (iI q 7), .i (iI q 8), .i (iI q 9), .i (iI q 10), .i (iI q 11), .i (iI q 12), .i (iI q 13), .i (iI q 14), .i (iI q 15), .i (iI q 16), .i (iI q 17), .i (iI q 18), .i (iI q 19), .i (iI q 20), .i (iI q 21), .i (iI q 22), .i (iI q 23), .c (atC (nth q 24))] = fS T_o_0 q by kernel_rfl)))) tab_nil)) all_nil)
theorem hj_o (F : Nat) : ∀ p ∈ joinsIn PP c_o 32, JoinOK PP (S_o F) c_o (I_o F) (J_o F) p :=
  joins_of [] (by kernel_rfl) all_nil
theorem g_o (F : Nat) : Good PP 32 (unS (s_o F)) :=
  fun_spec (hS_o F) (by kernel_rfl) (by kernel_rfl) (C := c_o) (F := fun q => (f_o F (iI q 0) (iI q 1) (iI q 2) (iI q 3) (iI q 4) (iI q 5) (iI q 6) (iI q 7) (iI q 8) (iI q 9) (iI q 10))) (fun _ => F) (fun _ => I_o F) (fun _ => J_o F) (fun _ => hl_o F) (fun _ => hj_o F)
    (fun q => (congrArg (funL PP (S_o F) c_o (I_o F) (J_o F) 32) (show (fTs ti_o q).1 = (fTs ti_o [.i (iI q 0), .i (iI q 1), .i (iI q 2), .i (iI q 3), .i (iI q 4), .i (iI q 5), .i (iI q 6), .i (iI q 7), .i (iI q 8), .i (iI q 9), .i (iI q 10)]).1 by kernel_rfl)).trans (e_o F (iI q 0) (iI q 1) (iI q 2) (iI q 3) (iI q 4) (iI q 5) (iI q 6) (iI q 7) (iI q 8) (iI q 9) (iI q 10)))
    (fun _ h => (okT_fill h).trans (congrArg some (by kernel_rfl)))

end Go.Xv
set_option linter.unusedVariables false
namespace Go.Xv
/- 11 _fuse_Pull -/
def c_n : Cfg := ⟨[0, 1, 2, 3, 4, 5, 6, 7, 10, 11, 24], [], [], []⟩
def ti_n : List TV := [.v (.agg [.int .i64, .int .i64, .int .i64, .int .i64]), .v (.agg [.int .i64, .int .i64, .int .i64, .int .i64]), .v (.agg [.int .i64, .int .i64, .int .i64]), .v (.int .i64), .v (.int .i64)]
def to_n : TV := .v (.tup [.agg [.int .i64, .int .i64, .int .i64, .int .i64], .int .i64])
def S_n (F : Nat) : FuncId → List VV → Option (Bool × VV) := words [(31, s_u F), (32, s_o F)]
def W_n (F : Nat) : List LW := []
def I_n (F : Nat) : Nat → VS → (Exit → VS → R) → R := tabI c_n (W_n F)
def WJ_n (F : Nat) : List LJ := []
def J_n (F : Nat) : Nat → Nat → VS → (Exit → VS → R) → R := tabJ (WJ_n F)
def fg_n (ok_u : Y14) (o_u_0 : Y14) (ok_o : Y15) (o_o_0 : Y16) (o_o_1 : Y16) (o_o_2 : Y16) (F : Nat) (a0 a1 a2 a3 a4 a5 a6 a7 a8 a9 a10 a11 a12 : Int) : R :=
 bif (ok_u F a0 a1 a2 a3 a4 a5 a6 a7 a12) then (
 bif ((!((o_u_0 F a0 a1 a2 a3 a4 a5 a6 a7 a12)))) then (
 some (.v (.tuple #[.agg #[.int .i64 0, .int .i64 0, .int .i64 0, .int .i64 0], .int .i64 2])))
 else (
 bif ((decide (a11 < 0))) then (
 some (.v (.tuple #[.agg #[.int .i64 0, .int .i64 0, .int .i64 0, .int .i64 0], .int .i64 2])))
 else (
 bif ((decide (a11 > 3))) then (
 some (.v (.tuple #[.agg #[.int .i64 0, .int .i64 0, .int .i64 0, .int .i64 0], .int .i64 2])))
 else (
 bif (ok_o F a0 a1 a2 a3 a4 a5 a6 a8 a9 a10 a11) then (
 some (.v (.tuple #[.agg #[.int .i64 ((o_o_0 F a0 a1 a2 a3 a4 a5 a6 a8 a9 a10 a11)), .int .i64 ((o_o_1 F a0 a1 a2 a3 a4 a5 a6 a8 a9 a10 a11)), .int .i64 ((o_o_2 F a0 a1 a2 a3 a4 a5 a6 a8 a9 a10 a11)), .int .i64 a12], .int .i64 0]))) else none)))) else none
def f_n (F : Nat) (a0 a1 a2 a3 a4 a5 a6 a7 a8 a9 a10 a11 a12 : Int) : R := fg_n ok_u o_u_0 ok_o o_o_0 o_o_1 o_o_2 F a0 a1 a2 a3 a4 a5 a6 a7 a8 a9 a10 a11 a12
theorem e_n (F : Nat) (a0 a1 a2 a3 a4 a5 a6 a7 a8 a9 a10 a11 a12 : Int) : funL PP (S_n F) c_n (I_n F) (J_n F) 11 (fTs ti_n [.i a0, .i a1, .i a2, .i a3, .i a4, .i a5, .i a6, .i a7, .i a8, .i a9, .i a10, .i a11, .i a12]).1 = f_n F a0 a1 a2 a3 a4 a5 a6 a7 a8 a9 a10 a11 a12 := by
  have h : ∀ (ok_u : Y14) (o_u_0 : Y14) (ok_o : Y15) (o_o_0 : Y16) (o_o_1 : Y16) (o_o_2 : Y16), funL PP (words [(31, z_u ok_u o_u_0 F), (32, spec ti_o to_o (fun q => (ok_o F (iI q 0) (iI q 1) (iI q 2) (iI q 3) (iI q 4) (iI q 5) (iI q 6) (iI q 7) (iI q 8) (iI q 9) (iI q 10))) (fun q => [.i (o_o_0 F (iI q 0) (iI q 1) (iI q 2) (iI q 3) (iI q 4) (iI q 5) (iI q 6) (iI q 7) (iI q 8) (iI q 9) (iI q 10)), .i (o_o_1 F (iI q 0) (iI q 1) (iI q 2) (iI q 3) (iI q 4) (iI q 5) (iI q 6) (iI q 7) (iI q 8) (iI q 9) (iI q 10)), .i (o_o_2 F (iI q 0) (iI q 1) (iI q 2) (iI q 3) (iI q 4) (iI q 5) (iI q 6) (iI q 7) (iI q 8) (iI q 9) (iI q 10))]))]) c_n (tabI c_n []) (tabJ []) 11 (fTs ti_n [.i a0, .i a1, .i a2, .i a3, .i a4, .i a5, .i a6, .i a7, .i a8, .i a9, .i a10, .i a11, .i a12]).1 = fg_n ok_u o_u_0 ok_o o_o_0 o_o_1 o_o_2 F a0 a1 a2 a3 a4 a5 a6 a7 a8 a9 a10 a11 a12 := by
    intros
    kernel_rfl
  exact (h ok_u o_u_0 ok_o o_o_0 o_o_1 o_o_2).trans (by kernel_rfl)
def ok_n (F : Nat) (a0 a1 a2 a3 a4 a5 a6 a7 a8 a9 a10 a11 a12 : Int) : Bool := okT to_n (f_n F a0 a1 a2 a3 a4 a5 a6 a7 a8 a9 a10 a11 a12)
def o_n_0 (F : Nat) (a0 a1 a2 a3 a4 a5 a6 a7 a8 a9 a10 a11 a12 : Int) : Int := atI (nth (outT to_n (f_n F a0 a1 a2 a3 a4 a5 a6 a7 a8 a9 a10 a11 a12)) 0)
def o_n_1 (F : Nat) (a0 a1 a2 a3 a4 a5 a6 a7 a8 a9 a10 a11 a12 : Int) : Int := atI (nth (outT to_n (f_n F a0 a1 a2 a3 a4 a5 a6 a7 a8 a9 a10 a11 a12)) 1)
def o_n_2 (F : Nat) (a0 a1 a2 a3 a4 a5 a6 a7 a8 a9 a10 a11 a12 : Int) : Int := atI (nth (outT to_n (f_n F a0 a1 a2 a3 a4 a5 a6 a7 a8 a9 a10 a11 a12)) 2)
def o_n_3 (F : Nat) (a0 a1 a2 a3 a4 a5 a6 a7 a8 a9 a10 a11 a12 : Int) : Int := atI (nth (outT to_n (f_n F a0 a1 a2 a3 a4 a5 a6 a7 a8 a9 a10 a11 a12)) 3)
def o_n_4 (F : Nat) (a0 a1 a2 a3 a4 a5 a6 a7 a8 a9 a10 a11 a12 : Int) : Int := atI (nth (outT to_n (f_n F a0 a1 a2 a3 a4 a5 a6 a7 a8 a9 a10 a11 a12)) 4)
theorem k_n (F : Nat) (a0 a1 a2 a3 a4 a5 a6 a7 a8 a9 a10 a11 a12 : Int) {z0 : Int} {z1 : Int} {z2 : Int} {z3 : Int} {z4 : Int} (h : f_n F a0 a1 a2 a3 a4 a5 a6 a7 a8 a9 a10 a11 a12 = some (.v (.tuple #[.agg #[.int .i64 z0, .int .i64 z1, .int .i64 z2, .int .i64 z3], .int .i64 z4]))) : ok_n F a0 a1 a2 a3 a4 a5 a6 a7 a8 a9 a10 a11 a12 = true ∧ o_n_0 F a0 a1 a2 a3 a4 a5 a6 a7 a8 a9 a10 a11 a12 = z0 ∧ o_n_1 F a0 a1 a2 a3 a4 a5 a6 a7 a8 a9 a10 a11 a12 = z1 ∧ o_n_2 F a0 a1 a2 a3 a4 a5 a6 a7 a8 a9 a10 a11 a12 = z2 ∧ o_n_3 F a0 a1 a2 a3 a4 a5 a6 a7 a8 a9 a10 a11 a12 = z3 ∧ o_n_4 F a0 a1 a2 a3 a4 a5 a6 a7 a8 a9 a10 a11 a12 = z4 := by
  refine ⟨?_, ?_, ?_, ?_, ?_, ?_⟩
  · unfold ok_n; rw [h]; kernel_rfl
  · unfold o_n_0; rw [h]; kernel_rfl
  · unfold o_n_1; rw [h]; kernel_rfl
  · unfold o_n_2; rw [h]; kernel_rfl
  · unfold o_n_3; rw [h]; kernel_rfl
  · unfold o_n_4; rw [h]; kernel_rfl
def z_n (k : Y21) (r0 : Y22) (r1 : Y22) (r2 : Y22) (r3 : Y22) (r4 : Y22) (F : Nat) : List VV → Option (Bool × VV) := spec ti_n to_n (fun q => (k F (iI q 0) (iI q 1) (iI q 2) (iI q 3) (iI q 4) (iI q 5) (iI q 6) (iI q 7) (iI q 8) (iI q 9) (iI q 10) (iI q 11) (iI q 12))) (fun q => [.i (r0 F (iI q 0) (iI q 1) (iI q 2) (iI q 3) (iI q 4) (iI q 5) (iI q 6) (iI q 7) (iI q 8) (iI q 9) (iI q 10) (iI q 11) (iI q 12)), .i (r1 F (iI q 0) (iI q 1) (iI q 2) (iI q 3) (iI q 4) (iI q 5) (iI q 6) (iI q 7) (iI q 8) (iI q 9) (iI q 10) (iI q 11) (iI q 12)), .i (r2 F (iI q 0) (iI q 1) (iI q 2) (iI q 3) (iI q 4) (iI q 5) (iI q 6) (iI q 7) (iI q 8) (iI q 9) (iI q 10) (iI q 11) (iI q 12)), .i (r3 F (iI q 0) (iI q 1) (iI q 2) (iI q 3) (iI q 4) (iI q 5) (iI q 6) (iI q 7) (iI q 8) (iI q 9) (iI q 10) (iI q 11) (iI q 12)), .i (r4 F (iI q 0) (iI q 1) (iI q 2) (iI q 3) (iI q 4) (iI q 5) (iI q 6) (iI q 7) (iI q 8) (iI q 9) (iI q 10) (iI q 11) (iI q 12))])
def s_n (F : Nat) : List VV → Option (Bool × VV) := z_n ok_n o_n_0 o_n_1 o_n_2 o_n_3 o_n_4 F
theorem hS_n (F : Nat) : ∀ f, Good PP f (unS (S_n F f)) := words_good fun p hp => by
  simp only [List.mem_cons, List.not_mem_nil, or_false] at hp
  rcases hp with rfl | rfl
  · exact g_u F
  · exact g_o F
theorem hl_n (F : Nat) : ∀ p ∈ loopsIn PP 11, LoopOK PP (S_n F) c_n F (I_n F) (J_n F) p :=
  loops_of [] (by kernel_rfl) all_nil
theorem hj_n (F : Nat) : ∀ p ∈ joinsIn PP c_n 11, JoinOK PP (S_n F) c_n (I_n F) (J_n F) p :=
  joins_of [] (by kernel_rfl) all_nil
theorem g_n (F : Nat) : Good PP 11 (unS (s_n F)) :=
  fun_spec (hS_n F) (by kernel_rfl) (by kernel_rfl) (C := c_n) (F := fun q => (f_n F (iI q 0) (iI q 1) (iI q 2) (iI q 3) (iI q 4) (iI q 5) (iI q 6) (iI q 7) (iI q 8) (iI q 9) (iI q 10) (iI q 11) (iI q 12))) (fun _ => F) (fun _ => I_n F) (fun _ => J_n F) (fun _ => hl_n F) (fun _ => hj_n F)
    (fun q => (congrArg (funL PP (S_n F) c_n (I_n F) (J_n F) 11) (show (fTs ti_n q).1 = (fTs ti_n [.i (iI q 0), .i (iI q 1), .i (iI q 2), .i (iI q 3), .i (iI q 4), .i (iI q 5), .i (iI q 6), .i (iI q 7), .i (iI q 8), .i (iI q 9), .i (iI q 10), .i (iI q 11), .i (iI q 12)]).1 by kernel_rfl)).trans (e_n F (iI q 0) (iI q 1) (iI q 2) (iI q 3) (iI q 4) (iI q 5) (iI q 6) (iI q 7) (iI q 8) (iI q 9) (iI q 10) (iI q 11) (iI q 12)))
    (fun _ h => (okT_fill h).trans (congrArg some (by kernel_rfl)))

end Go.Xv
set_option linter.unusedVariables false
namespace Go.Xv
/- 37 _fuse_Rule_faded -/
def c_c : Cfg := ⟨[0, 1, 3, 6, 8], [], [], []⟩
def ti_c : List TV := [.v (.agg [.int .i64, .int .i64, .int .i64, .int .i64]), .v (.int .i64), .v (.int .i64)]
def to_c : TV := .v (.int .i64)
def S_c (F : Nat) : FuncId → List VV → Option (Bool × VV) := words []
def W_c (F : Nat) : List LW := []
def I_c (F : Nat) : Nat → VS → (Exit → VS → R) → R := tabI c_c (W_c F)
def WJ_c (F : Nat) : List LJ := []
def J_c (F : Nat) : Nat → Nat → VS → (Exit → VS → R) → R := tabJ (WJ_c F)
def fg_c (F : Nat) (a0 a1 a2 a3 a4 a5 : Int) : R :=
 bif ((decide (a4 > 0))) then (
 let v3649 : Int := (IntKind.wrap .i64 (a4 - a1))
 some (.v (.int .i64 ((if 0 > v3649 then 0 else v3649)))))
 else (
 let v3651 : Int := (IntKind.wrap .i64 (a4 + a1))
 some (.v (.int .i64 ((if 0 < v3651 then 0 else v3651)))))
def f_c (F : Nat) (a0 a1 a2 a3 a4 a5 : Int) : R := fg_c F a0 a1 a2 a3 a4 a5
theorem e_c (F : Nat) (a0 a1 a2 a3 a4 a5 : Int) : funL PP (S_c F) c_c (I_c F) (J_c F) 37 (fTs ti_c [.i a0, .i a1, .i a2, .i a3, .i a4, .i a5]).1 = f_c F a0 a1 a2 a3 a4 a5 := by
  have h : ∀ (_ : Unit), funL PP (words []) c_c (tabI c_c []) (tabJ []) 37 (fTs ti_c [.i a0, .i a1, .i a2, .i a3, .i a4, .i a5]).1 = fg_c F a0 a1 a2 a3 a4 a5 := by
    intros
    kernel_rfl
  exact (h ()).trans (by kernel_rfl)
def ok_c (F : Nat) (a0 a1 a2 a3 a4 a5 : Int) : Bool := okT to_c (f_c F a0 a1 a2 a3 a4 a5)
def o_c_0 (F : Nat) (a0 a1 a2 a3 a4 a5 : Int) : Int := atI (nth (outT to_c (f_c F a0 a1 a2 a3 a4 a5)) 0)
theorem k_c (F : Nat) (a0 a1 a2 a3 a4 a5 : Int) {z0 : Int} (h : f_c F a0 a1 a2 a3 a4 a5 = some (.v (.int .i64 z0))) : ok_c F a0 a1 a2 a3 a4 a5 = true ∧ o_c_0 F a0 a1 a2 a3 a4 a5 = z0 := by
  refine ⟨?_, ?_⟩
  · unfold ok_c; rw [h]; kernel_rfl
  · unfold o_c_0; rw [h]; kernel_rfl
def z_c (k : Y10) (r0 : Y11) (F : Nat) : List VV → Option (Bool × VV) := spec ti_c to_c (fun q => (k F (iI q 0) (iI q 1) (iI q 2) (iI q 3) (iI q 4) (iI q 5))) (fun q => [.i (r0 F (iI q 0) (iI q 1) (iI q 2) (iI q 3) (iI q 4) (iI q 5))])
def s_c (F : Nat) : List VV → Option (Bool × VV) := z_c ok_c o_c_0 F
theorem hS_c (F : Nat) : ∀ f, Good PP f (unS (S_c F f)) := words_good fun p hp => by
  cases hp
theorem hl_c (F : Nat) : ∀ p ∈ loopsIn PP 37, LoopOK PP (S_c F) c_c F (I_c F) (J_c F) p :=
  loops_of [] (by kernel_rfl) all_nil
theorem hj_c (F : Nat) : ∀ p ∈ joinsIn PP c_c 37, JoinOK PP (S_c F) c_c (I_c F) (J_c F) p :=
  joins_of [] (by kernel_rfl) all_nil
theorem g_c (F : Nat) : Good PP 37 (unS (s_c F)) :=
  fun_spec (hS_c F) (by kernel_rfl) (by kernel_rfl) (C := c_c) (F := fun q => (f_c F (iI q 0) (iI q 1) (iI q 2) (iI q 3) (iI q 4) (iI q 5))) (fun _ => F) (fun _ => I_c F) (fun _ => J_c F) (fun _ => hl_c F) (fun _ => hj_c F)
    (fun q => (congrArg (funL PP (S_c F) c_c (I_c F) (J_c F) 37) (show (fTs ti_c q).1 = (fTs ti_c [.i (iI q 0), .i (iI q 1), .i (iI q 2), .i (iI q 3), .i (iI q 4), .i (iI q 5)]).1 by kernel_rfl)).trans (e_c F (iI q 0) (iI q 1) (iI q 2) (iI q 3) (iI q 4) (iI q 5)))
    (fun _ h => (okT_fill h).trans (congrArg some (by kernel_rfl)))

end Go.Xv
set_option linter.unusedVariables false
namespace Go.Xv
/- 32 _fuse_eachv1 -/
def c_d : Cfg := ⟨[0, 1, 2, 3, 5, 6, 8, 9, 10, 11, 12, 13, 14, 22], [(0, [0, 1, 2, 3, 5, 6, 8, 9, 12, 13, 32])], [], []⟩
def ti_d : List TV := [.fn 1000037 [.v (.agg [.int .i64, .int .i64, .int .i64, .int .i64])], .v (.agg [.int .i64, .int .i64, .int .i64]), .v (.agg [.int .i64, .int .i64, .int .i64]), .v (.int .i64)]
def to_d : TV := .v (.agg [.int .i64, .int .i64, .int .i64])
def S_d (F : Nat) : FuncId → List VV → Option (Bool × VV) := words [(37, s_c F)]
def T_d_0 : TS := ⟨[(0, .fn 1000037 [.v (.agg [.int .i64, .int .i64, .int .i64, .int .i64])]), (1, .v (.agg [.int .i64, .int .i64, .int .i64])), (2, .v (.agg [.int .i64, .int .i64, .int .i64])), (3, .v (.int .i64)), (5, .lp 0 (.lit 0)), (6, .lp 1 (.lit 0)), (8, .lp 2 (.lit 0)), (9, .lp 3 (.lit 0)), (12, .v (.agg [.int .i64, .int .i64, .int .i64])), (13, .v (.int .i64))], [(0, ⟨(.ex [.v (.int .i64), .v (.int .i64), .v (.int .i64)]), true⟩), (1, ⟨(.ex [.v (.int .i64), .v (.int .i64), .v (.int .i64)]), true⟩), (2, ⟨(.ex [.v (.int .i64), .v (.int .i64), .v (.int .i64)]), true⟩), (3, ⟨.hole, true⟩)], 4⟩
def T_d_0_0 : TS := ⟨[(0, .fn 1000037 [.v (.agg [.int .i64, .int .i64, .int .i64, .int .i64])]), (1, .v (.agg [.int .i64, .int .i64, .int .i64])), (2, .v (.agg [.int .i64, .int .i64, .int .i64])), (3, .v (.int .i64)), (5, .lp 0 (.lit 0)), (6, .lp 1 (.lit 0)), (8, .lp 2 (.lit 0)), (9, .lp 3 (.lit 0)), (12, .v (.agg [.int .i64, .int .i64, .int .i64])), (13, .v (.int .i64))], [(0, ⟨(.ex [.v (.int .i64), .v (.int .i64), .v (.int .i64)]), true⟩), (1, ⟨(.ex [.v (.int .i64), .v (.int .i64), .v (.int .i64)]), true⟩), (2, ⟨(.ex [.v (.int .i64), .v (.int .i64), .v (.int .i64)]), true⟩), (3, ⟨.hole, true⟩)], 4⟩
def K_fuse_eachv1_0_0e0 (k : Exit → VS → R) : Y12 := fun (z0 z1 z2 z3 z4 z5 z6 z7 z8 z9 z10 z11 z12 z13 z14 z15 z16 z17 z18 z19 z20 z21 z22 z23 : Int) (z24 : List VV) => k (.exit 0) (fS T_d_0_0 [.i z0, .i z1, .i z2, .i z3, .i z4, .i z5, .i z6, .i z7, .i z8, .i z9, .i z10, .i z11, .i z12, .i z13, .i z14, .i z15, .i z16, .i z17, .i z18, .i z19, .i z20, .i z21, .i z22, .i z23, .c z24])
def Bg_d_0 (ok_c : Y10) (o_c_0 : Y11) (F : Nat) (rc : Y12) (ex0 : Y12) (x0 x1 x2 x3 x4 x5 x6 x7 x8 x9 x10 x11 x12 x13 x14 x15 x16 x17 x18 x19 x20 x21 x22 x23 : Int) (x24 : List VV) : R :=
 bif ((decide (x14 < 3))) then (
 bif (((decide (0 ≤ x14)) && (decide (x14 < 3))) && ((isI .i64 [.v (.int .i64 x11), .v (.int .i64 x12), .v (.int .i64 x13)][((Int.toNat x14) * 1)]?) && true)) then (
 let v3642 : Int := (iv [.v (.int .i64 x11), .v (.int .i64 x12), .v (.int .i64 x13)][((Int.toNat x14) * 1)]?)
 bif ((decide (0 ≤ x14)) && (decide (x14 < 3))) then (
 let v3643 : Nat := (0 + ((Int.toNat x14) * 1))
 bif (decide ((v3643 + 1) ≤ x24.length)) then (
 let v3644 : List VV := (x24.take v3643 ++ [.v (.int .i64 v3642)] ++ x24.drop (v3643 + 1))
 bif ((decide (x14 < x10))) then (
 bif ((decide (0 ≤ x14)) && (decide (x14 < 3))) then (
 let v3646 : Nat := (0 + ((Int.toNat x14) * 1))
 bif ((isI .i64 [.v (.int .i64 x18), .v (.int .i64 x19), .v (.int .i64 x20)][v3646]?) && true) then (
 let v3647 : Int := (iv [.v (.int .i64 x18), .v (.int .i64 x19), .v (.int .i64 x20)][v3646]?)
 bif (ok_c F x0 x1 x2 x3 v3642 v3647) then (
 bif ((decide (0 ≤ x14)) && (decide (x14 < 3))) then (
 let v3654 : Nat := (0 + ((Int.toNat x14) * 1))
 bif (decide ((v3654 + 1) ≤ v3644.length)) then (
 rc x0 x1 x2 x3 x4 x5 x6 x7 x8 x9 x10 x11 x12 x13 ((IntKind.wrap .i64 (x14 + 1))) x15 x16 x17 x18 x19 x20 x21 x22 x23 ((v3644.take v3654 ++ [.v (.int .i64 ((o_c_0 F x0 x1 x2 x3 v3642 v3647)))] ++ v3644.drop (v3654 + 1)))) else none) else none) else none) else none) else none)
 else (
 rc x0 x1 x2 x3 x4 x5 x6 x7 x8 x9 x10 x11 x12 x13 ((IntKind.wrap .i64 (x14 + 1))) x15 x16 x17 x18 x19 x20 x21 x22 x23 v3644)) else none) else none) else none)
 else (
 ex0 x0 x1 x2 x3 x4 x5 x6 x7 x8 x9 x10 x11 x12 x13 x14 x15 x16 x17 x18 x19 x20 x21 x22 x23 x24)
def B_d_0 (F : Nat) (rc : Y12) (ex0 : Y12) (x0 x1 x2 x3 x4 x5 x6 x7 x8 x9 x10 x11 x12 x13 x14 x15 x16 x17 x18 x19 x20 x21 x22 x23 : Int) (x24 : List VV) : R := Bg_d_0 ok_c o_c_0 F rc ex0 x0 x1 x2 x3 x4 x5 x6 x7 x8 x9 x10 x11 x12 x13 x14 x15 x16 x17 x18 x19 x20 x21 x22 x23 x24
def L_d_0 (F : Nat) (ex0 : Y12) : Y13
  | 0, _, _, _, _, _, _, _, _, _, _, _, _, _, _, _, _, _, _, _, _, _, _, _, _, _ => none
  | n + 1, x0, x1, x2, x3, x4, x5, x6, x7, x8, x9, x10, x11, x12, x13, x14, x15, x16, x17, x18, x19, x20, x21, x22, x23, x24 => B_d_0 F (L_d_0 F ex0 n) ex0 x0 x1 x2 x3 x4 x5 x6 x7 x8 x9 x10 x11 x12 x13 x14 x15 x16 x17 x18 x19 x20 x21 x22 x23 x24
def W_d (F : Nat) : List LW := [⟨0, T_d_0, fun k q => L_d_0 F (K_fuse_eachv1_0_0e0 k) F (iI q 0) (iI q 1) (iI q 2) (iI q 3) (iI q 4) (iI q 5) (iI q 6) (iI q 7) (iI q 8) (iI q 9) (iI q 10) (iI q 11) (iI q 12) (iI q 13) (iI q 14) (iI q 15) (iI q 16) (iI q 17) (iI q 18) (iI q 19) (iI q 20) (iI q 21) (iI q 22) (iI q 23) (atC (nth q 24))⟩]
def I_d (F : Nat) : Nat → VS → (Exit → VS → R) → R := tabI c_d (W_d F)
def WJ_d (F : Nat) : List LJ := []
def J_d (F : Nat) : Nat → Nat → VS → (Exit → VS → R) → R := tabJ (WJ_d F)
theorem lL_d_0 (F : Nat) (k : Exit → VS → R) : ∀ (n : Nat) (x0 x1 x2 x3 x4 x5 x6 x7 x8 x9 x10 x11 x12 x13 x14 x15 x16 x17 x18 x19 x20 x21 x22 x23 : Int) (x24 : List VV), iterC (codeL PP (S_d F) c_d (I_d F) (J_d F) (loopAt PP 32 0) 0) (headOf c_d 0) k n (fS T_d_0 [.i x0, .i x1, .i x2, .i x3, .i x4, .i x5, .i x6, .i x7, .i x8, .i x9, .i x10, .i x11, .i x12, .i x13, .i x14, .i x15, .i x16, .i x17, .i x18, .i x19, .i x20, .i x21, .i x22, .i x23, .c x24]) = L_d_0 F (K_fuse_eachv1_0_0e0 k) n x0 x1 x2 x3 x4 x5 x6 x7 x8 x9 x10 x11 x12 x13 x14 x15 x16 x17 x18 x19 x20 x21 x22 x23 x24
  | 0, _, _, _, _, _, _, _, _, _, _, _, _, _, _, _, _, _, _, _, _, _, _, _, _, _ => rfl
  | n + 1, x0, x1, x2, x3, x4, x5, x6, x7, x8, x9, x10, x11, x12, x13, x14, x15, x16, x17, x18, x19, x20, x21, x22, x23, x24 => by
    have h0 : ∀ (ok_c : Y10) (o_c_0 : Y11) (L_d_0 : Nat → (Y12) → Y13), iterC (codeL PP (words [(37, z_c ok_c o_c_0 F)]) c_d (tabI c_d [⟨0, T_d_0, fun k q => L_d_0 F (K_fuse_eachv1_0_0e0 k) F (iI q 0) (iI q 1) (iI q 2) (iI q 3) (iI q 4) (iI q 5) (iI q 6) (iI q 7) (iI q 8) (iI q 9) (iI q 10) (iI q 11) (iI q 12) (iI q 13) (iI q 14) (iI q 15) (iI q 16) (iI q 17) (iI q 18) (iI q 19) (iI q 20) (iI q 21) (iI q 22) (iI q 23) (atC (nth q 24))⟩]) (tabJ []) (loopAt PP 32 0) 0) (headOf c_d 0) k (n + 1) (fS T_d_0 [.i x0, .i x1, .i x2, .i x3, .i x4, .i x5, .i x6, .i x7, .i x8, .i x9, .i x10, .i x11, .i x12, .i x13, .i x14, .i x15, .i x16, .i x17, .i x18, .i x19, .i x20, .i x21, .i x22, .i x23, .c x24]) = (Bg_d_0 ok_c o_c_0 F) (fun (y0 y1 y2 y3 y4 y5 y6 y7 y8 y9 y10 y11 y12 y13 y14 y15 y16 y17 y18 y19 y20 y21 y22 y23 : Int) (y24 : List VV) => iterC (codeL PP (words [(37, z_c ok_c o_c_0 F)]) c_d (tabI c_d [⟨0, T_d_0, fun k q => L_d_0 F (K_fuse_eachv1_0_0e0 k) F (iI q 0) (iI q 1) (iI q 2) (iI q 3) (iI q 4) (iI q 5) (iI q 6) (iI q 7) (iI q 8) (iI q 9) (iI q 10) (iI q 11) (iI q 12) (iI q 13) (iI q 14) (iI q 15) (iI q 16) (iI q 17) (iI q 18) (iI q 19) (iI q 20) (iI q 21) (iI q 22) (iI q 23) (atC (nth q 24))⟩]) (tabJ []) (loopAt PP 32 0) 0) (headOf c_d 0) k n (fS T_d_0 [.i y0, .i y1, .i y2, .i y3, .i y4, .i y5, .i y6, .i y7, .i y8, .i y9, .i y10, .i y11, .i y12, .i y13, .i y14, .i y15, .i y16, .i y17, .i y18, .i y19, .i y20, .i y21, .i y22, .i y23, .c y24])) (K_fuse_eachv1_0_0e0 k) x0 x1 x2 x3 x4 x5 x6 x7 x8 x9 x10 x11 x12 x13 x14 x15 x16 x17 x18 x19 x20 x21 x22 x23 x24 := by
      intros
      kernel_rfl
    have h : iterC (codeL PP (S_d F) c_d (I_d F) (J_d F) (loopAt PP 32 0) 0) (headOf c_d 0) k (n + 1) (fS T_d_0 [.i x0, .i x1, .i x2, .i x3, .i x4, .i x5, .i x6, .i x7, .i x8, .i x9, .i x10, .i x11, .i x12, .i x13, .i x14, .i x15, .i x16, .i x17, .i x18, .i x19, .i x20, .i x21, .i x22, .i x23, .c x24]) = B_d_0 F (fun (y0 y1 y2 y3 y4 y5 y6 y7 y8 y9 y10 y11 y12 y13 y14 y15 y16 y17 y18 y19 y20 y21 y22 y23 : Int) (y24 : List VV) => iterC (codeL PP (S_d F) c_d (I_d F) (J_d F) (loopAt PP 32 0) 0) (headOf c_d 0) k n (fS T_d_0 [.i y0, .i y1, .i y2, .i y3, .i y4, .i y5, .i y6, .i y7, .i y8, .i y9, .i y10, .i y11, .i y12, .i y13, .i y14, .i y15, .i y16, .i y17, .i y18, .i y19, .i y20, .i y21, .i y22, .i y23, .c y24])) (K_fuse_eachv1_0_0e0 k) x0 x1 x2 x3 x4 x5 x6 x7 x8 x9 x10 x11 x12 x13 x14 x15 x16 x17 x18 x19 x20 x21 x22 x23 x24 := (h0 ok_c o_c_0 L_d_0).trans (by kernel_rfl)
    rw [h]
    simp only [lL_d_0 F k n]
    rfl
def fg_d (L_d_0 : Nat → (Y12) → Y13) (F : Nat) (a0 a1 a2 a3 a4 a5 a6 a7 a8 a9 a10 : Int) : R :=
 L_d_0 F (fun (v3658 v3659 v3660 v3661 v3662 v3663 v3664 v3665 v3666 v3667 v3668 v3669 v3670 v3671 v3672 v3673 v3674 v3675 v3676 v3677 v3678 v3679 v3680 v3681 : Int) (v3682 : List VV) =>
 bif ((isI .i64 v3682[0]?) && ((isI .i64 v3682[1]?) && ((isI .i64 v3682[2]?) && true))) then (
 some (.v (.agg #[.int .i64 ((iv v3682[0]?)), .int .i64 ((iv v3682[1]?)), .int .i64 ((iv v3682[2]?))]))) else none) F a0 a1 a2 a3 a4 a5 a6 a7 a8 a9 a10 a4 a5 a6 0 a4 a5 a6 a7 a8 a9 0 0 0 ([.v (.int .i64 0), .v (.int .i64 0), .v (.int .i64 0)])
def f_d (F : Nat) (a0 a1 a2 a3 a4 a5 a6 a7 a8 a9 a10 : Int) : R := fg_d L_d_0 F a0 a1 a2 a3 a4 a5 a6 a7 a8 a9 a10
theorem e_d (F : Nat) (a0 a1 a2 a3 a4 a5 a6 a7 a8 a9 a10 : Int) : funL PP (S_d F) c_d (I_d F) (J_d F) 32 (fTs ti_d [.i a0, .i a1, .i a2, .i a3, .i a4, .i a5, .i a6, .i a7, .i a8, .i a9, .i a10]).1 = f_d F a0 a1 a2 a3 a4 a5 a6 a7 a8 a9 a10 := by
  have h : ∀ (ok_c : Y10) (o_c_0 : Y11) (L_d_0 : Nat → (Y12) → Y13), funL PP (words [(37, z_c ok_c o_c_0 F)]) c_d (tabI c_d [⟨0, T_d_0, fun k q => L_d_0 F (K_fuse_eachv1_0_0e0 k) F (iI q 0) (iI q 1) (iI q 2) (iI q 3) (iI q 4) (iI q 5) (iI q 6) (iI q 7) (iI q 8) (iI q 9) (iI q 10) (iI q 11) (iI q 12) (iI q 13) (iI q 14) (iI q 15) (iI q 16) (iI q 17) (iI q 18) (iI q 19) (iI q 20) (iI q 21) (iI q 22) (iI q 23) (atC (nth q 24))⟩]) (tabJ []) 32 (fTs ti_d [.i a0, .i a1, .i a2, .i a3, .i a4, .i a5, .i a6, .i a7, .i a8, .i a9, .i a10]).1 = fg_d L_d_0 F a0 a1 a2 a3 a4 a5 a6 a7 a8 a9 a10 := by
    intros
    kernel_rfl
  exact (h ok_c o_c_0 L_d_0).trans (by kernel_rfl)
def ok_d (F : Nat) (a0 a1 a2 a3 a4 a5 a6 a7 a8 a9 a10 : Int) : Bool := okT to_d (f_d F a0 a1 a2 a3 a4 a5 a6 a7 a8 a9 a10)
def o_d_0 (F : Nat) (a0 a1 a2 a3 a4 a5 a6 a7 a8 a9 a10 : Int) : Int := atI (nth (outT to_d (f_d F a0 a1 a2 a3 a4 a5 a6 a7 a8 a9 a10)) 0)
def o_d_1 (F : Nat) (a0 a1 a2 a3 a4 a5 a6 a7 a8 a9 a10 : Int) : Int := atI (nth (outT to_d (f_d F a0 a1 a2 a3 a4 a5 a6 a7 a8 a9 a10)) 1)
def o_d_2 (F : Nat) (a0 a1 a2 a3 a4 a5 a6 a7 a8 a9 a10 : Int) : Int := atI (nth (outT to_d (f_d F a0 a1 a2 a3 a4 a5 a6 a7 a8 a9 a10)) 2)
theorem k_d (F : Nat) (a0 a1 a2 a3 a4 a5 a6 a7 a8 a9 a10 : Int) {z0 : Int} {z1 : Int} {z2 : Int} (h : f_d F a0 a1 a2 a3 a4 a5 a6 a7 a8 a9 a10 = some (.v (.agg #[.int .i64 z0, .int .i64 z1, .int .i64 z2]))) : ok_d F a0 a1 a2 a3 a4 a5 a6 a7 a8 a9 a10 = true ∧ o_d_0 F a0 a1 a2 a3 a4 a5 a6 a7 a8 a9 a10 = z0 ∧ o_d_1 F a0 a1 a2 a3 a4 a5 a6 a7 a8 a9 a10 = z1 ∧ o_d_2 F a0 a1 a2 a3 a4 a5 a6 a7 a8 a9 a10 = z2 := by
  refine ⟨?_, ?_, ?_, ?_⟩
  · unfold ok_d; rw [h]; kernel_rfl
  · unfold o_d_0; rw [h]; kernel_rfl
  · unfold o_d_1; rw [h]; kernel_rfl
  · unfold o_d_2; rw [h]; kernel_rfl
def s_d (F : Nat) : List VV → Option (Bool × VV) := spec ti_d to_d (fun q => (ok_d F (iI q 0) (iI q 1) (iI q 2) (iI q 3) (iI q 4) (iI q 5) (iI q 6) (iI q 7) (iI q 8) (iI q 9) (iI q 10))) (fun q => [.i (o_d_0 F (iI q 0) (iI q 1) (iI q 2) (iI q 3) (iI q 4) (iI q 5) (iI q 6) (iI q 7) (iI q 8) (iI q 9) (iI q 10)), .i (o_d_1 F (iI q 0) (iI q 1) (iI q 2) (iI q 3) (iI q 4) (iI q 5) (iI q 6) (iI q 7) (iI q 8) (iI q 9) (iI q 10)), .i (o_d_2 F (iI q 0) (iI q 1) (iI q 2) (iI q 3) (iI q 4) (iI q 5) (iI q 6) (iI q 7) (iI q 8) (iI q 9) (iI q 10))])
theorem hS_d (F : Nat) : ∀ f, Good PP f (unS (S_d F f)) := words_good fun p hp => by
  simp only [List.mem_cons, List.not_mem_nil, or_false] at hp
  rcases hp with rfl
  · exact g_c F
theorem hl_d (F : Nat) : ∀ p ∈ loopsIn PP 32, LoopOK PP (S_d F) c_d F (I_d F) (J_d F) p :=
  loops_of [(0, loopAt PP 32 0)] (by kernel_rfl) (all_cons
    (loop_ok (W_d F) rfl (tab_cons (fun _ k q => Le.ofEq ((lL_d_0 F k F (iI q 0) (iI q 1) (iI q 2) (iI q 3) (iI q 4) (iI q 5) (iI q 6) (iI q 7) (iI q 8) (iI q 9) (iI q 10) (iI q 11) (iI q 12) (iI q 13) (iI q 14) (iI q 15) (iI q 16) (iI q 17) (iI q 18) (iI q 19) (iI q 20) (iI q 21) (iI q 22) (iI q 23) (atC (nth q 24))).symm.trans (congrArg (iterC (codeL PP (S_d F) c_d (I_d F) (J_d F) (loopAt PP 32 0) 0) (headOf c_d 0) k F) (show fS T_d_0 [.i (iI q 0), .i (iI q 1), .i (iI q 2), .i (iI q 3), .i (iI q 4), .i (iI q 5), .i (iI q 6), .i (iI q 7), .i (iI q 8), .i (iI q 9), .i (iI q 10), .i (iI q 11), .i (iI q 12), .i (iI q 13), .i (iI q 14), .i (iI q 15), .i (iI q 16), .i (iI q 17), .i (iI q 18), .i (iI q 19), .i (iI q 20), .i (iI q 21), .i (iI q 22), .i (iI q 23), .c (atC (nth q 24))] = fS T_d_0 q by kernel_rfl)))) tab_nil)) all_nil)
theorem hj_d (F : Nat) : ∀ p ∈ joinsIn PP c_d 32, JoinOK PP (S_d F) c_d (I_d F) (J_d F) p :=
  joins_of [] (by kernel_rfl) all_nil
theorem g_d (F : Nat) : Good PP 32 (unS (s_d F)) :=
  fun_spec (hS_d F) (by kernel_rfl) (by kernel_rfl) (C := c_d) (F := fun q => (f_d F (iI q 0) (iI q 1) (iI q 2) (iI q 3) (iI q 4) (iI q 5) (iI q 6) (iI q 7) (iI q 8) (iI q 9) (iI q 10))) (fun _ => F) (fun _ => I_d F) (fun _ => J_d F) (fun _ => hl_d F) (fun _ => hj_d F)
    (fun q => (congrArg (funL PP (S_d F) c_d (I_d F) (J_d F) 32) (show (fTs ti_d q).1 = (fTs ti_d [.i (iI q 0), .i (iI q 1), .i (iI q 2), .i (iI q 3), .i (iI q 4), .i (iI q 5), .i (iI q 6), .i (iI q 7), .i (iI q 8), .i (iI q 9), .i (iI q 10)]).1 by kernel_rfl)).trans (e_d F (iI q 0) (iI q 1) (iI q 2) (iI q 3) (iI q 4) (iI q 5) (iI q 6) (iI q 7) (iI q 8) (iI q 9) (iI q 10)))
    (fun _ h => (okT_fill h).trans (congrArg some (by kernel_rfl)))

end Go.Xv
set_option linter.unusedVariables false
namespace Go.Xv
/- 15 _fuse_Fade -/
def c_m : Cfg := ⟨[0, 1, 2, 3, 4, 6, 7, 8, 15], [], [], []⟩
def ti_m : List TV := [.v (.agg [.int .i64, .int .i64, .int .i64, .int .i64]), .v (.agg [.int .i64, .int .i64, .int .i64, .int .i64]), .v (.int .i64)]
def to_m : TV := .v (.tup [.agg [.int .i64, .int .i64, .int .i64, .int .i64], .int .i64])
def S_m (F : Nat) : FuncId → List VV → Option (Bool × VV) := words [(31, s_u F), (32, s_d F)]
def W_m (F : Nat) : List LW := []
def I_m (F : Nat) : Nat → VS → (Exit → VS → R) → R := tabI c_m (W_m F)
def WJ_m (F : Nat) : List LJ := []
def J_m (F : Nat) : Nat → Nat → VS → (Exit → VS → R) → R := tabJ (WJ_m F)
def fg_m (ok_u : Y14) (o_u_0 : Y14) (ok_d : Y15) (o_d_0 : Y16) (o_d_1 : Y16) (o_d_2 : Y16) (F : Nat) (a0 a1 a2 a3 a4 a5 a6 a7 a8 : Int) : R :=
 bif (ok_u F a0 a1 a2 a3 a4 a5 a6 a7 a8) then (
 bif ((!((o_u_0 F a0 a1 a2 a3 a4 a5 a6 a7 a8)))) then (
 some (.v (.tuple #[.agg #[.int .i64 0, .int .i64 0, .int .i64 0, .int .i64 0], .int .i64 2])))
 else (
 bif ((decide (((IntKind.wrap .i64 (a8 - a7))) ≤ a3))) then (
 some (.v (.tuple #[.agg #[.int .i64 a4, .int .i64 a5, .int .i64 a6, .int .i64 a7], .int .i64 0])))
 else (
 bif (ok_d F a0 a1 a2 a3 a4 a5 a6 0 0 0 3) then (
 some (.v (.tuple #[.agg #[.int .i64 ((o_d_0 F a0 a1 a2 a3 a4 a5 a6 0 0 0 3)), .int .i64 ((o_d_1 F a0 a1 a2 a3 a4 a5 a6 0 0 0 3)), .int .i64 ((o_d_2 F a0 a1 a2 a3 a4 a5 a6 0 0 0 3)), .int .i64 a7], .int .i64 0]))) else none))) else none
def f_m (F : Nat) (a0 a1 a2 a3 a4 a5 a6 a7 a8 : Int) : R := fg_m ok_u o_u_0 ok_d o_d_0 o_d_1 o_d_2 F a0 a1 a2 a3 a4 a5 a6 a7 a8
theorem e_m (F : Nat) (a0 a1 a2 a3 a4 a5 a6 a7 a8 : Int) : funL PP (S_m F) c_m (I_m F) (J_m F) 15 (fTs ti_m [.i a0, .i a1, .i a2, .i a3, .i a4, .i a5, .i a6, .i a7, .i a8]).1 = f_m F a0 a1 a2 a3 a4 a5 a6 a7 a8 := by
  have h : ∀ (ok_u : Y14) (o_u_0 : Y14) (ok_d : Y15) (o_d_0 : Y16) (o_d_1 : Y16) (o_d_2 : Y16), funL PP (words [(31, z_u ok_u o_u_0 F), (32, spec ti_d to_d (fun q => (ok_d F (iI q 0) (iI q 1) (iI q 2) (iI q 3) (iI q 4) (iI q 5) (iI q 6) (iI q 7) (iI q 8) (iI q 9) (iI q 10))) (fun q => [.i (o_d_0 F (iI q 0) (iI q 1) (iI q 2) (iI q 3) (iI q 4) (iI q 5) (iI q 6) (iI q 7) (iI q 8) (iI q 9) (iI q 10)), .i (o_d_1 F (iI q 0) (iI q 1) (iI q 2) (iI q 3) (iI q 4) (iI q 5) (iI q 6) (iI q 7) (iI q 8) (iI q 9) (iI q 10)), .i (o_d_2 F (iI q 0) (iI q 1) (iI q 2) (iI q 3) (iI q 4) (iI q 5) (iI q 6) (iI q 7) (iI q 8) (iI q 9) (iI q 10))]))]) c_m (tabI c_m []) (tabJ []) 15 (fTs ti_m [.i a0, .i a1, .i a2, .i a3, .i a4, .i a5, .i a6, .i a7, .i a8]).1 = fg_m ok_u o_u_0 ok_d o_d_0 o_d_1 o_d_2 F a0 a1 a2 a3 a4 a5 a6 a7 a8 := by
    intros
    kernel_rfl
  exact (h ok_u o_u_0 ok_d o_d_0 o_d_1 o_d_2).trans (by kernel_rfl)
def ok_m (F : Nat) (a0 a1 a2 a3 a4 a5 a6 a7 a8 : Int) : Bool := okT to_m (f_m F a0 a1 a2 a3 a4 a5 a6 a7 a8)
def o_m_0 (F : Nat) (a0 a1 a2 a3 a4 a5 a6 a7 a8 : Int) : Int := atI (nth (outT to_m (f_m F a0 a1 a2 a3 a4 a5 a6 a7 a8)) 0)
def o_m_1 (F : Nat) (a0 a1 a2 a3 a4 a5 a6 a7 a8 : Int) : Int := atI (nth (outT to_m (f_m F a0 a1 a2 a3 a4 a5 a6 a7 a8)) 1)
def o_m_2 (F : Nat) (a0 a1 a2 a3 a4 a5 a6 a7 a8 : Int) : Int := atI (nth (outT to_m (f_m F a0 a1 a2 a3 a4 a5 a6 a7 a8)) 2)
def o_m_3 (F : Nat) (a0 a1 a2 a3 a4 a5 a6 a7 a8 : Int) : Int := atI (nth (outT to_m (f_m F a0 a1 a2 a3 a4 a5 a6 a7 a8)) 3)
def o_m_4 (F : Nat) (a0 a1 a2 a3 a4 a5 a6 a7 a8 : Int) : Int := atI (nth (outT to_m (f_m F a0 a1 a2 a3 a4 a5 a6 a7 a8)) 4)
theorem k_m (F : Nat) (a0 a1 a2 a3 a4 a5 a6 a7 a8 : Int) {z0 : Int} {z1 : Int} {z2 : Int} {z3 : Int} {z4 : Int} (h : f_m F a0 a1 a2 a3 a4 a5 a6 a7 a8 = some (.v (.tuple #[.agg #[.int .i64 z0, .int .i64 z1, .int .i64 z2, .int .i64 z3], .int .i64 z4]))) : ok_m F a0 a1 a2 a3 a4 a5 a6 a7 a8 = true ∧ o_m_0 F a0 a1 a2 a3 a4 a5 a6 a7 a8 = z0 ∧ o_m_1 F a0 a1 a2 a3 a4 a5 a6 a7 a8 = z1 ∧ o_m_2 F a0 a1 a2 a3 a4 a5 a6 a7 a8 = z2 ∧ o_m_3 F a0 a1 a2 a3 a4 a5 a6 a7 a8 = z3 ∧ o_m_4 F a0 a1 a2 a3 a4 a5 a6 a7 a8 = z4 := by
  refine ⟨?_, ?_, ?_, ?_, ?_, ?_⟩
  · unfold ok_m; rw [h]; kernel_rfl
  · unfold o_m_0; rw [h]; kernel_rfl
  · unfold o_m_1; rw [h]; kernel_rfl
  · unfold o_m_2; rw [h]; kernel_rfl
  · unfold o_m_3; rw [h]; kernel_rfl
  · unfold o_m_4; rw [h]; kernel_rfl
def z_m (k : Y14) (r0 : Y27) (r1 : Y27) (r2 : Y27) (r3 : Y27) (r4 : Y27) (F : Nat) : List VV → Option (Bool × VV) := spec ti_m to_m (fun q => (k F (iI q 0) (iI q 1) (iI q 2) (iI q 3) (iI q 4) (iI q 5) (iI q 6) (iI q 7) (iI q 8))) (fun q => [.i (r0 F (iI q 0) (iI q 1) (iI q 2) (iI q 3) (iI q 4) (iI q 5) (iI q 6) (iI q 7) (iI q 8)), .i (r1 F (iI q 0) (iI q 1) (iI q 2) (iI q 3) (iI q 4) (iI q 5) (iI q 6) (iI q 7) (iI q 8)), .i (r2 F (iI q 0) (iI q 1) (iI q 2) (iI q 3) (iI q 4) (iI q 5) (iI q 6) (iI q 7) (iI q 8)), .i (r3 F (iI q 0) (iI q 1) (iI q 2) (iI q 3) (iI q 4) (iI q 5) (iI q 6) (iI q 7) (iI q 8)), .i (r4 F (iI q 0) (iI q 1) (iI q 2) (iI q 3) (iI q 4) (iI q 5) (iI q 6) (iI q 7) (iI q 8))])
def s_m (F : Nat) : List VV → Option (Bool × VV) := z_m ok_m o_m_0 o_m_1 o_m_2 o_m_3 o_m_4 F
theorem hS_m (F : Nat) : ∀ f, Good PP f (unS (S_m F f)) := words_good fun p hp => by
  simp only [List.mem_cons, List.not_mem_nil, or_false] at hp
  rcases hp with rfl | rfl
  · exact g_u F
  · exact g_d F
theorem hl_m (F : Nat) : ∀ p ∈ loopsIn PP 15, LoopOK PP (S_m F) c_m F (I_m F) (J_m F) p :=
  loops_of [] (by kernel_rfl) all_nil
theorem hj_m (F : Nat) : ∀ p ∈ joinsIn PP c_m 15, JoinOK PP (S_m F) c_m (I_m F) (J_m F) p :=
  joins_of [] (by kernel_rfl) all_nil
theorem g_m (F : Nat) : Good PP 15 (unS (s_m F)) :=
  fun_spec (hS_m F) (by kernel_rfl) (by kernel_rfl) (C := c_m) (F := fun q => (f_m F (iI q 0) (iI q 1) (iI q 2) (iI q 3) (iI q 4) (iI q 5) (iI q 6) (iI q 7) (iI q 8))) (fun _ => F) (fun _ => I_m F) (fun _ => J_m F) (fun _ => hl_m F) (fun _ => hj_m F)
    (fun q => (congrArg (funL PP (S_m F) c_m (I_m F) (J_m F) 15) (show (fTs ti_m q).1 = (fTs ti_m [.i (iI q 0), .i (iI q 1), .i (iI q 2), .i (iI q 3), .i (iI q 4), .i (iI q 5), .i (iI q 6), .i (iI q 7), .i (iI q 8)]).1 by kernel_rfl)).trans (e_m F (iI q 0) (iI q 1) (iI q 2) (iI q 3) (iI q 4) (iI q 5) (iI q 6) (iI q 7) (iI q 8)))
    (fun _ h => (okT_fill h).trans (congrArg some (by kernel_rfl)))

end Go.Xv
set_option linter.unusedVariables false
namespace Go.Xv
/- 40 _fix_Sum -/
def c_y : Cfg := ⟨[0, 2, 3, 4, 6, 7, 8, 9, 10], [(0, [0, 2, 3, 4, 7, 8, 9, 18, 19, 20, 21])], [15], []⟩
def ti_y : List TV := [.fs (.lit 0) .hole 1]
def to_y : TV := .v (.tup [.int .i64, .bool])
def S_y (F : Nat) : FuncId → List VV → Option (Bool × VV) := words [(67, s_aa F), (66, s_w F), (68, s_t F)]
def T_y_0 : TS := ⟨[(0, .fs (.lit 0) .hole 1), (2, .v (.int .i64)), (3, .v (.bool)), (4, .lp 0 (.lit 0)), (7, .fs (.lit 0) .hole 1), (8, .v (.int .i64)), (9, .v (.int .i64))], [(0, ⟨(.ex [.v (.int .i64), .v (.int .u64)]), true⟩)], 1⟩
def T_y_0_0 : TS := ⟨[(0, .fs (.lit 0) .hole 1), (2, .v (.int .i64)), (3, .v (.bool)), (4, .lp 0 (.lit 0)), (7, .fs (.lit 0) .hole 1), (8, .v (.int .i64)), (9, .v (.int .i64))], [(0, ⟨(.ex [.v (.int .i64), .v (.int .u64)]), true⟩)], 1⟩
def K_fix_Sum_0_0e0 (k : Exit → VS → R) : Y17 := fun (z0 : List VV) (z1 : Nat) (z2 : Int) (z3 : Bool) (z4 : List VV) (z5 : Nat) (z6 z7 z8 z9 : Int) => k (.exit 0) (fS T_y_0_0 [.c z0, .n z1, .i z2, .b z3, .c z4, .n z5, .i z6, .i z7, .i z8, .i z9])
def Bg_y_0 (ok_aa : Nat → Int → Bool) (o_aa_0 : Nat → Int → Int) (o_aa_1 : Nat → Int → Int) (ok_w : Y6) (o_w_0 : Y7) (o_w_1 : Y7) (F : Nat) (rc : Y17) (ex0 : Y17) (x0 : List VV) (x1 : Nat) (x2 : Int) (x3 : Bool) (x4 : List VV) (x5 : Nat) (x6 x7 x8 x9 : Int) : R :=
 bif ((decide (x7 < x6))) then (
 bif ((decide (0 ≤ x7)) && (decide (x7 < ((x5 : Nat) : Int)))) then (
 let v3281 : Nat := (0 + ((Int.toNat x7) * 1))
 bif ((isI .i64 x4[v3281]?) && true) then (
 let v3282 : Int := (iv x4[v3281]?)
 bif (ok_aa F v3282) then (
 let v3283 : Int := (o_aa_0 F v3282)
 let v3284 : Int := (o_aa_1 F v3282)
 bif (ok_w F x8 x9 v3283 v3284) then (
 rc x0 x1 x2 x3 x4 x5 x6 ((IntKind.wrap .i64 (x7 + 1))) ((o_w_0 F x8 x9 v3283 v3284)) ((o_w_1 F x8 x9 v3283 v3284))) else none) else none) else none) else none)
 else (
 ex0 x0 x1 x2 x3 x4 x5 x6 x7 x8 x9)
def B_y_0 (F : Nat) (rc : Y17) (ex0 : Y17) (x0 : List VV) (x1 : Nat) (x2 : Int) (x3 : Bool) (x4 : List VV) (x5 : Nat) (x6 x7 x8 x9 : Int) : R := Bg_y_0 ok_aa o_aa_0 o_aa_1 ok_w o_w_0 o_w_1 F rc ex0 x0 x1 x2 x3 x4 x5 x6 x7 x8 x9
def L_y_0 (F : Nat) (ex0 : Y17) : Y18
  | 0, _, _, _, _, _, _, _, _, _, _ => none
  | n + 1, x0, x1, x2, x3, x4, x5, x6, x7, x8, x9 => B_y_0 F (L_y_0 F ex0 n) ex0 x0 x1 x2 x3 x4 x5 x6 x7 x8 x9
def W_y (F : Nat) : List LW := [⟨0, T_y_0, fun k q => L_y_0 F (K_fix_Sum_0_0e0 k) F (atC (nth q 0)) (iN q 1) (iI q 2) (iB q 3) (atC (nth q 4)) (iN q 5) (iI q 6) (iI q 7) (iI q 8) (iI q 9)⟩]
def I_y (F : Nat) : Nat → VS → (Exit → VS → R) → R := tabI c_y (W_y F)
def WJ_y (F : Nat) : List LJ := []
def J_y (F : Nat) : Nat → Nat → VS → (Exit → VS → R) → R := tabJ (WJ_y F)
theorem lL_y_0 (F : Nat) (k : Exit → VS → R) : ∀ (n : Nat) (x0 : List VV) (x1 : Nat) (x2 : Int) (x3 : Bool) (x4 : List VV) (x5 : Nat) (x6 x7 x8 x9 : Int), iterC (codeL PP (S_y F) c_y (I_y F) (J_y F) (loopAt PP 40 0) 0) (headOf c_y 0) k n (fS T_y_0 [.c x0, .n x1, .i x2, .b x3, .c x4, .n x5, .i x6, .i x7, .i x8, .i x9]) = L_y_0 F (K_fix_Sum_0_0e0 k) n x0 x1 x2 x3 x4 x5 x6 x7 x8 x9
  | 0, _, _, _, _, _, _, _, _, _, _ => rfl
  | n + 1, x0, x1, x2, x3, x4, x5, x6, x7, x8, x9 => by
    have h0 : ∀ (ok_aa : Nat → Int → Bool) (o_aa_0 : Nat → Int → Int) (o_aa_1 : Nat → Int → Int) (ok_w : Y6) (o_w_0 : Y7) (o_w_1 : Y7) (ok_t : Nat → Int → Int → Bool) (o_t_0 : Nat → Int → Int → Int) (o_t_1 : Nat → Int → Int → Bool) (L_y_0 : Nat → (Y17) → Y18), iterC (codeL PP (words [(67, z_aa ok_aa o_aa_0 o_aa_1 F), (66, z_w ok_w o_w_0 o_w_1 F), (68, z_t ok_t o_t_0 o_t_1 F)]) c_y (tabI c_y [⟨0, T_y_0, fun k q => L_y_0 F (K_fix_Sum_0_0e0 k) F (atC (nth q 0)) (iN q 1) (iI q 2) (iB q 3) (atC (nth q 4)) (iN q 5) (iI q 6) (iI q 7) (iI q 8) (iI q 9)⟩]) (tabJ []) (loopAt PP 40 0) 0) (headOf c_y 0) k (n + 1) (fS T_y_0 [.c x0, .n x1, .i x2, .b x3, .c x4, .n x5, .i x6, .i x7, .i x8, .i x9]) = (Bg_y_0 ok_aa o_aa_0 o_aa_1 ok_w o_w_0 o_w_1 F) (fun (y0 : List VV) (y1 : Nat) (y2 : Int) (y3 : Bool) (y4 : List VV) (y5 : Nat) (y6 y7 y8 y9 : Int) => iterC (codeL PP (words [(67, z_aa ok_aa o_aa_0 o_aa_1 F), (66, z_w ok_w o_w_0 o_w_1 F), (68, z_t ok_t o_t_0 o_t_1 F)]) c_y (tabI c_y [⟨0, T_y_0, fun k q => L_y_0 F (K_fix_Sum_0_0e0 k) F (atC (nth q 0)) (iN q 1) (iI q 2) (iB q 3) (atC (nth q 4)) (iN q 5) (iI q 6) (iI q 7) (iI q 8) (iI q 9)⟩]) (tabJ []) (loopAt PP 40 0) 0) (headOf c_y 0) k n (fS T_y_0 [.c y0, .n y1, .i y2, .b y3, .c y4, .n y5, .i y6, .i y7, .i y8, .i y9])) (K_fix_Sum_0_0e0 k) x0 x1 x2 x3 x4 x5 x6 x7 x8 x9 := by
      intros
      kernel_rfl
    have h : iterC (codeL PP (S_y F) c_y (I_y F) (J_y F) (loopAt PP 40 0) 0) (headOf c_y 0) k (n + 1) (fS T_y_0 [.c x0, .n x1, .i x2, .b x3, .c x4, .n x5, .i x6, .i x7, .i x8, .i x9]) = B_y_0 F (fun (y0 : List VV) (y1 : Nat) (y2 : Int) (y3 : Bool) (y4 : List VV) (y5 : Nat) (y6 y7 y8 y9 : Int) => iterC (codeL PP (S_y F) c_y (I_y F) (J_y F) (loopAt PP 40 0) 0) (headOf c_y 0) k n (fS T_y_0 [.c y0, .n y1, .i y2, .b y3, .c y4, .n y5, .i y6, .i y7, .i y8, .i y9])) (K_fix_Sum_0_0e0 k) x0 x1 x2 x3 x4 x5 x6 x7 x8 x9 := (h0 ok_aa o_aa_0 o_aa_1 ok_w o_w_0 o_w_1 ok_t o_t_0 o_t_1 L_y_0).trans (by kernel_rfl)
    rw [h]
    simp only [lL_y_0 F k n]
    rfl
def fg_y (ok_t : Nat → Int → Int → Bool) (o_t_0 : Nat → Int → Int → Int) (o_t_1 : Nat → Int → Int → Bool) (L_y_0 : Nat → (Y17) → Y18) (F : Nat) (a0 : List VV) (a1 : Nat) : R :=
 L_y_0 F (fun (v3288 : List VV) (v3289 : Nat) (v3290 : Int) (v3291 : Bool) (v3292 : List VV) (v3293 : Nat) (v3294 v3295 v3296 v3297 : Int) =>
 bif (ok_t F v3296 v3297) then (
 some (.v (.tuple #[.int .i64 ((o_t_0 F v3296 v3297)), .bool ((o_t_1 F v3296 v3297))]))) else none) F a0 a1 0 false a0 a1 (((a1 : Nat) : Int)) 0 0 0
def f_y (F : Nat) (a0 : List VV) (a1 : Nat) : R := fg_y ok_t o_t_0 o_t_1 L_y_0 F a0 a1
theorem e_y (F : Nat) (a0 : List VV) (a1 : Nat) : funL PP (S_y F) c_y (I_y F) (J_y F) 40 (fTs ti_y [.c a0, .n a1]).1 = f_y F a0 a1 := by
  have h : ∀ (ok_aa : Nat → Int → Bool) (o_aa_0 : Nat → Int → Int) (o_aa_1 : Nat → Int → Int) (ok_w : Y6) (o_w_0 : Y7) (o_w_1 : Y7) (ok_t : Nat → Int → Int → Bool) (o_t_0 : Nat → Int → Int → Int) (o_t_1 : Nat → Int → Int → Bool) (L_y_0 : Nat → (Y17) → Y18), funL PP (words [(67, z_aa ok_aa o_aa_0 o_aa_1 F), (66, z_w ok_w o_w_0 o_w_1 F), (68, z_t ok_t o_t_0 o_t_1 F)]) c_y (tabI c_y [⟨0, T_y_0, fun k q => L_y_0 F (K_fix_Sum_0_0e0 k) F (atC (nth q 0)) (iN q 1) (iI q 2) (iB q 3) (atC (nth q 4)) (iN q 5) (iI q 6) (iI q 7) (iI q 8) (iI q 9)⟩]) (tabJ []) 40 (fTs ti_y [.c a0, .n a1]).1 = fg_y ok_t o_t_0 o_t_1 L_y_0 F a0 a1 := by
    intros
    kernel_rfl
  exact (h ok_aa o_aa_0 o_aa_1 ok_w o_w_0 o_w_1 ok_t o_t_0 o_t_1 L_y_0).trans (by kernel_rfl)
def ok_y (F : Nat) (a0 : List VV) (a1 : Nat) : Bool := okT to_y (f_y F a0 a1)
def o_y_0 (F : Nat) (a0 : List VV) (a1 : Nat) : Int := atI (nth (outT to_y (f_y F a0 a1)) 0)
def o_y_1 (F : Nat) (a0 : List VV) (a1 : Nat) : Bool := atB (nth (outT to_y (f_y F a0 a1)) 1)
theorem k_y (F : Nat) (a0 : List VV) (a1 : Nat) {z0 : Int} {z1 : Bool} (h : f_y F a0 a1 = some (.v (.tuple #[.int .i64 z0, .bool z1]))) : ok_y F a0 a1 = true ∧ o_y_0 F a0 a1 = z0 ∧ o_y_1 F a0 a1 = z1 := by
  refine ⟨?_, ?_, ?_⟩
  · unfold ok_y; rw [h]; kernel_rfl
  · unfold o_y_0; rw [h]; kernel_rfl
  · unfold o_y_1; rw [h]; kernel_rfl
def s_y (F : Nat) : List VV → Option (Bool × VV) := spec ti_y to_y (fun q => (ok_y F (atC (nth q 0)) (iN q 1))) (fun q => [.i (o_y_0 F (atC (nth q 0)) (iN q 1)), .b (o_y_1 F (atC (nth q 0)) (iN q 1))])
theorem hS_y (F : Nat) : ∀ f, Good PP f (unS (S_y F f)) := words_good fun p hp => by
  simp only [List.mem_cons, List.not_mem_nil, or_false] at hp
  rcases hp with rfl | rfl | rfl
  · exact g_aa F
  · exact g_w F
  · exact g_t F
theorem hl_y (F : Nat) : ∀ p ∈ loopsIn PP 40, LoopOK PP (S_y F) c_y F (I_y F) (J_y F) p :=
  loops_of [(0, loopAt PP 40 0)] (by kernel_rfl) (all_cons
    (loop_ok (W_y F) rfl (tab_cons (fun _ k q => Le.ofEq ((lL_y_0 F k F (atC (nth q 0)) (iN q 1) (iI q 2) (iB q 3) (atC (nth q 4)) (iN q 5) (iI q 6) (iI q 7) (iI q 8) (iI q 9)).symm.trans (congrArg (iterC (codeL PP (S_y F) c_y (I_y F) (J_y F) (loopAt PP 40 0) 0) (headOf c_y 0) k F) (show fS T_y_0 [.c (atC (nth q 0)), .n (iN q 1), .i (iI q 2), .b (iB q 3), .c (atC (nth q 4)), .n (iN q 5), .i (iI q 6), .i (iI q 7), .i (iI q 8), .i (iI q 9)] = fS T_y_0 q by kernel_rfl)))) tab_nil)) all_nil)
theorem hj_y (F : Nat) : ∀ p ∈ joinsIn PP c_y 40, JoinOK PP (S_y F) c_y (I_y F) (J_y F) p :=
  joins_of [] (by kernel_rfl) all_nil
theorem g_y (F : Nat) : Good PP 40 (unS (s_y F)) :=
  fun_spec (hS_y F) (by kernel_rfl) (by kernel_rfl) (C := c_y) (F := fun q => (f_y F (atC (nth q 0)) (iN q 1))) (fun _ => F) (fun _ => I_y F) (fun _ => J_y F) (fun _ => hl_y F) (fun _ => hj_y F)
    (fun q => (congrArg (funL PP (S_y F) c_y (I_y F) (J_y F) 40) (show (fTs ti_y q).1 = (fTs ti_y [.c (atC (nth q 0)), .n (iN q 1)]).1 by kernel_rfl)).trans (e_y F (atC (nth q 0)) (iN q 1)))
    (fun _ h => (okT_fill h).trans (congrArg some (by kernel_rfl)))

end Go.Xv
set_option linter.unusedVariables false
namespace Go.Xv
/- 20 _fuse_Bound -/
def c_h : Cfg := ⟨[0, 1, 2, 3, 8, 9, 10, 11, 25], [], [35], []⟩
def ti_h : List TV := [.v (.int .i64), .v (.int .i64), .v (.int .i64), .v (.int .i64)]
def to_h : TV := .v (.int .i64)
def S_h (F : Nat) : FuncId → List VV → Option (Bool × VV) := words [(40, s_y F)]
def W_h (F : Nat) : List LW := []
def I_h (F : Nat) : Nat → VS → (Exit → VS → R) → R := tabI c_h (W_h F)
def WJ_h (F : Nat) : List LJ := []
def J_h (F : Nat) : Nat → Nat → VS → (Exit → VS → R) → R := tabJ (WJ_h F)
def fg_h (ok_y : Y19) (o_y_0 : Y20) (F : Nat) (a0 a1 a2 a3 : Int) : R :=
 let v3261 : Int := (if 0 > a3 then 0 else a3)
 let v3262 : Int := (if 65535 < v3261 then 65535 else v3261)
 let v3263 : Int := (if 0 > a1 then 0 else a1)
 bif ((decide (v3262 > 0))) then (
 bif (!(decide (v3262 = 0))) then (
 bif ((decide (v3263 > ((IntKind.wrap .i64 (Int.tdiv 9223372036854775807 v3262)))))) then (
 let v3267 : Int := (if 0 > a0 then 0 else a0)
 let v3268 : Int := (if 0 > a2 then 0 else a2)
 bif (ok_y F ([.v (.int .i64 v3267), .v (.int .i64 v3268), .v (.int .i64 9223372036854775807)]) 3) then (
 some (.v (.int .i64 ((o_y_0 F ([.v (.int .i64 v3267), .v (.int .i64 v3268), .v (.int .i64 9223372036854775807)]) 3))))) else none)
 else (
 let v3302 : Int := (IntKind.wrap .i64 (v3263 * v3262))
 let v3303 : Int := (if 0 > a0 then 0 else a0)
 let v3304 : Int := (if 0 > a2 then 0 else a2)
 bif (ok_y F ([.v (.int .i64 v3303), .v (.int .i64 v3304), .v (.int .i64 v3302)]) 3) then (
 some (.v (.int .i64 ((o_y_0 F ([.v (.int .i64 v3303), .v (.int .i64 v3304), .v (.int .i64 v3302)]) 3))))) else none)) else none)
 else (
 let v3307 : Int := (IntKind.wrap .i64 (v3263 * v3262))
 let v3308 : Int := (if 0 > a0 then 0 else a0)
 let v3309 : Int := (if 0 > a2 then 0 else a2)
 bif (ok_y F ([.v (.int .i64 v3308), .v (.int .i64 v3309), .v (.int .i64 v3307)]) 3) then (
 some (.v (.int .i64 ((o_y_0 F ([.v (.int .i64 v3308), .v (.int .i64 v3309), .v (.int .i64 v3307)]) 3))))) else none)
def f_h (F : Nat) (a0 a1 a2 a3 : Int) : R := fg_h ok_y o_y_0 F a0 a1 a2 a3
theorem e_h (F : Nat) (a0 a1 a2 a3 : Int) : funL PP (S_h F) c_h (I_h F) (J_h F) 20 (fTs ti_h [.i a0, .i a1, .i a2, .i a3]).1 = f_h F a0 a1 a2 a3 := by
  have h : ∀ (ok_y : Y19) (o_y_0 : Y20) (o_y_1 : Y19), funL PP (words [(40, spec ti_y to_y (fun q => (ok_y F (atC (nth q 0)) (iN q 1))) (fun q => [.i (o_y_0 F (atC (nth q 0)) (iN q 1)), .b (o_y_1 F (atC (nth q 0)) (iN q 1))]))]) c_h (tabI c_h []) (tabJ []) 20 (fTs ti_h [.i a0, .i a1, .i a2, .i a3]).1 = fg_h ok_y o_y_0 F a0 a1 a2 a3 := by
    intros
    kernel_rfl
  exact (h ok_y o_y_0 o_y_1).trans (by kernel_rfl)
def ok_h (F : Nat) (a0 a1 a2 a3 : Int) : Bool := okT to_h (f_h F a0 a1 a2 a3)
def o_h_0 (F : Nat) (a0 a1 a2 a3 : Int) : Int := atI (nth (outT to_h (f_h F a0 a1 a2 a3)) 0)
theorem k_h (F : Nat) (a0 a1 a2 a3 : Int) {z0 : Int} (h : f_h F a0 a1 a2 a3 = some (.v (.int .i64 z0))) : ok_h F a0 a1 a2 a3 = true ∧ o_h_0 F a0 a1 a2 a3 = z0 := by
  refine ⟨?_, ?_⟩
  · unfold ok_h; rw [h]; kernel_rfl
  · unfold o_h_0; rw [h]; kernel_rfl
def s_h (F : Nat) : List VV → Option (Bool × VV) := spec ti_h to_h (fun q => (ok_h F (iI q 0) (iI q 1) (iI q 2) (iI q 3))) (fun q => [.i (o_h_0 F (iI q 0) (iI q 1) (iI q 2) (iI q 3))])
theorem hS_h (F : Nat) : ∀ f, Good PP f (unS (S_h F f)) := words_good fun p hp => by
  simp only [List.mem_cons, List.not_mem_nil, or_false] at hp
  rcases hp with rfl
  · exact g_y F
theorem hl_h (F : Nat) : ∀ p ∈ loopsIn PP 20, LoopOK PP (S_h F) c_h F (I_h F) (J_h F) p :=
  loops_of [] (by kernel_rfl) all_nil
theorem hj_h (F : Nat) : ∀ p ∈ joinsIn PP c_h 20, JoinOK PP (S_h F) c_h (I_h F) (J_h F) p :=
  joins_of [] (by kernel_rfl) all_nil
theorem g_h (F : Nat) : Good PP 20 (unS (s_h F)) :=
  fun_spec (hS_h F) (by kernel_rfl) (by kernel_rfl) (C := c_h) (F := fun q => (f_h F (iI q 0) (iI q 1) (iI q 2) (iI q 3))) (fun _ => F) (fun _ => I_h F) (fun _ => J_h F) (fun _ => hl_h F) (fun _ => hj_h F)
    (fun q => (congrArg (funL PP (S_h F) c_h (I_h F) (J_h F) 20) (show (fTs ti_h q).1 = (fTs ti_h [.i (iI q 0), .i (iI q 1), .i (iI q 2), .i (iI q 3)]).1 by kernel_rfl)).trans (e_h F (iI q 0) (iI q 1) (iI q 2) (iI q 3)))
    (fun _ h => (okT_fill h).trans (congrArg some (by kernel_rfl)))

end Go.Xv
set_option linter.unusedVariables false
namespace Go.Xv
/- 9 _law28_works -/
def c_e : Cfg := ⟨[0, 1, 2, 3, 4, 5], [], [], []⟩
def ti_e : List TV := []
def to_e : TV := .v (.bool)
def S_e (F : Nat) : FuncId → List VV → Option (Bool × VV) := words [(11, s_n F), (20, s_h F)]
def W_e (F : Nat) : List LW := []
def I_e (F : Nat) : Nat → VS → (Exit → VS → R) → R := tabI c_e (W_e F)
def WJ_e (F : Nat) : List LJ := []
def J_e (F : Nat) : Nat → Nat → VS → (Exit → VS → R) → R := tabJ (WJ_e F)
def fg_e (ok_n : Y21) (o_n_0 : Y22) (o_n_1 : Y22) (o_n_2 : Y22) (o_n_3 : Y22) (o_n_4 : Y22) (ok_h : Y6) (o_h_0 : Y7) (F : Nat) : R :=
 bif (ok_n F 1 10 100 5 0 0 0 0 6 0 0 3 1) then (
 let v3246 : Int := (o_n_0 F 1 10 100 5 0 0 0 0 6 0 0 3 1)
 let v3247 : Int := (o_n_1 F 1 10 100 5 0 0 0 0 6 0 0 3 1)
 let v3248 : Int := (o_n_2 F 1 10 100 5 0 0 0 0 6 0 0 3 1)
 let v3249 : Int := (o_n_3 F 1 10 100 5 0 0 0 0 6 0 0 3 1)
 bif (ok_n F 1 10 100 5 v3246 v3247 v3248 v3249 60 0 0 3 2) then (
 bif (((v3246 == 3) && ((v3247 == 0) && (v3248 == 0)))) then (
 bif (((((o_n_0 F 1 10 100 5 v3246 v3247 v3248 v3249 60 0 0 3 2)) == 13) && ((((o_n_1 F 1 10 100 5 v3246 v3247 v3248 v3249 60 0 0 3 2)) == 0) && (((o_n_2 F 1 10 100 5 v3246 v3247 v3248 v3249 60 0 0 3 2)) == 0)))) then (
 bif ((((o_n_4 F 1 10 100 5 0 0 0 0 6 0 0 3 1)) == 0)) then (
 bif ((((o_n_4 F 1 10 100 5 v3246 v3247 v3248 v3249 60 0 0 3 2)) == 0)) then (
 bif ((((o_n_3 F 1 10 100 5 v3246 v3247 v3248 v3249 60 0 0 3 2)) == 2)) then (
 bif (ok_h F 1 2 3 4) then (
 some (.v (.bool ((((o_h_0 F 1 2 3 4)) == 12))))) else none)
 else (
 some (.v (.bool false))))
 else (
 some (.v (.bool false))))
 else (
 some (.v (.bool false))))
 else (
 some (.v (.bool false))))
 else (
 some (.v (.bool false)))) else none) else none
def f_e (F : Nat) : R := fg_e ok_n o_n_0 o_n_1 o_n_2 o_n_3 o_n_4 ok_h o_h_0 F
theorem e_e (F : Nat) : funL PP (S_e F) c_e (I_e F) (J_e F) 9 (fTs ti_e []).1 = f_e F := by
  have h : ∀ (ok_n : Y21) (o_n_0 : Y22) (o_n_1 : Y22) (o_n_2 : Y22) (o_n_3 : Y22) (o_n_4 : Y22) (ok_h : Y6) (o_h_0 : Y7), funL PP (words [(11, z_n ok_n o_n_0 o_n_1 o_n_2 o_n_3 o_n_4 F), (20, spec ti_h to_h (fun q => (ok_h F (iI q 0) (iI q 1) (iI q 2) (iI q 3))) (fun q => [.i (o_h_0 F (iI q 0) (iI q 1) (iI q 2) (iI q 3))]))]) c_e (tabI c_e []) (tabJ []) 9 (fTs ti_e []).1 = fg_e ok_n o_n_0 o_n_1 o_n_2 o_n_3 o_n_4 ok_h o_h_0 F := by
    intros
    kernel_rfl
  exact (h ok_n o_n_0 o_n_1 o_n_2 o_n_3 o_n_4 ok_h o_h_0).trans (by kernel_rfl)
def ok_e (F : Nat) : Bool := okT to_e (f_e F)
def o_e_0 (F : Nat) : Bool := atB (nth (outT to_e (f_e F)) 0)
theorem k_e (F : Nat) {z0 : Bool} (h : f_e F = some (.v (.bool z0))) : ok_e F = true ∧ o_e_0 F = z0 := by
  refine ⟨?_, ?_⟩
  · unfold ok_e; rw [h]; kernel_rfl
  · unfold o_e_0; rw [h]; kernel_rfl
def z_e (k : Nat → Bool) (r0 : Nat → Bool) (F : Nat) : List VV → Option (Bool × VV) := spec ti_e to_e (fun q => (k F)) (fun q => [.b (r0 F )])
def s_e (F : Nat) : List VV → Option (Bool × VV) := z_e ok_e o_e_0 F
theorem hS_e (F : Nat) : ∀ f, Good PP f (unS (S_e F f)) := words_good fun p hp => by
  simp only [List.mem_cons, List.not_mem_nil, or_false] at hp
  rcases hp with rfl | rfl
  · exact g_n F
  · exact g_h F
theorem hl_e (F : Nat) : ∀ p ∈ loopsIn PP 9, LoopOK PP (S_e F) c_e F (I_e F) (J_e F) p :=
  loops_of [] (by kernel_rfl) all_nil
theorem hj_e (F : Nat) : ∀ p ∈ joinsIn PP c_e 9, JoinOK PP (S_e F) c_e (I_e F) (J_e F) p :=
  joins_of [] (by kernel_rfl) all_nil
theorem g_e (F : Nat) : Good PP 9 (unS (s_e F)) :=
  fun_spec (hS_e F) (by kernel_rfl) (by kernel_rfl) (C := c_e) (F := fun q => (f_e F )) (fun _ => F) (fun _ => I_e F) (fun _ => J_e F) (fun _ => hl_e F) (fun _ => hj_e F)
    (fun q => (congrArg (funL PP (S_e F) c_e (I_e F) (J_e F) 9) (show (fTs ti_e q).1 = (fTs ti_e []).1 by kernel_rfl)).trans (e_e F ))
    (fun _ h => (okT_fill h).trans (congrArg some (by kernel_rfl)))

end Go.Xv
set_option linter.unusedVariables false
namespace Go.Xv
/- 5 _law28_FuseBounded -/
def c_a : Cfg := ⟨[0, 1, 2, 3, 6, 8, 9, 10, 11, 12, 13, 14, 15, 16, 17, 19, 22, 40, 46, 55, 86, 88, 126], [(0, [0, 1, 2, 3, 6, 7, 8, 9, 10, 11, 18, 19, 20, 21, 22, 23, 24, 25, 26, 27, 28, 29, 30, 31, 32]), (2, [0, 1, 2, 3, 6, 7, 8, 9, 10, 11, 12, 13, 14, 15, 18, 19, 20, 21, 22, 23, 24, 25, 26, 27, 28, 29, 30, 31, 32, 33, 34, 35, 36, 37, 38, 39, 40, 41, 42, 43, 44, 45, 46, 47, 48, 49, 50, 51, 52, 53, 54, 55, 56, 57, 58, 59, 60, 61, 62, 63, 64, 65, 66, 67, 68, 69, 70, 71, 72, 73, 74, 75, 76, 77, 78, 79, 80, 81, 82, 83, 84, 85, 86])], [], [(11, [0, 1, 2, 3, 6, 8, 9, 10, 11, 12, 13, 14, 15, 16, 17, 19, 22, 40, 46, 55, 86, 88, 126]), (14, [0, 1, 2, 3, 6, 8, 9, 10, 11, 12, 13, 14, 15, 16, 17, 19, 22, 40, 46, 55, 86, 88, 126]), (21, [0, 1, 2, 3, 6, 8, 9, 10, 11, 12, 13, 14, 15, 16, 17, 19, 22, 40, 46, 55, 86, 88, 126]), (23, [0, 1, 2, 3, 6, 8, 9, 10, 11, 12, 13, 14, 15, 16, 17, 19, 22, 40, 46, 55, 86, 88, 126])]⟩
def ti_a : List TV := [.v (.agg [.int .i64, .int .i64, .int .i64, .int .i64]), .fs .hole .hole 3, .fs .hole .hole 1]
def to_a : TV := .v (.bool)
def S_a (F : Nat) : FuncId → List VV → Option (Bool × VV) := words [(9, s_e F), (10, s_i F), (11, s_n F), (22, s_g F), (15, s_m F), (18, s_j F)]
def T_a_0 : TS := ⟨[(0, .v (.agg [.int .i64, .int .i64, .int .i64, .int .i64])), (1, .fs .hole .hole 3), (2, .fs .hole .hole 1), (3, .lp 0 (.lit 0)), (6, .v (.bool)), (9, .lp 1 (.lit 0)), (10, .v (.int .i64)), (11, .v (.int .i64)), (12, .v (.int .i64)), (13, .lp 2 (.lit 0)), (14, .v (.int .i64)), (15, .v (.int .i64))], [(0, ⟨(.ex [.v (.int .i64), .v (.int .i64), .v (.int .i64), .v (.int .i64)]), true⟩), (1, ⟨(.ex [.v (.int .i64), .v (.int .i64), .v (.int .i64), .v (.int .i64)]), true⟩), (2, ⟨(.ex [.v (.int .i64), .v (.int .i64), .v (.int .i64), .v (.int .i64)]), true⟩)], 3⟩
def T_a_0_0 : TS := ⟨[(0, .v (.agg [.int .i64, .int .i64, .int .i64, .int .i64])), (1, .fs .hole .hole 3), (2, .fs .hole .hole 1), (3, .lp 0 (.lit 0)), (6, .v (.bool)), (9, .lp 1 (.lit 0)), (10, .v (.int .i64)), (11, .v (.int .i64)), (12, .v (.int .i64)), (13, .lp 2 (.lit 0)), (14, .v (.int .i64)), (15, .v (.int .i64)), (16, .v (.int .i64)), (17, .v (.int .i64))], [(0, ⟨(.ex [.v (.int .i64), .v (.int .i64), .v (.int .i64), .v (.int .i64)]), true⟩), (1, ⟨(.ex [.v (.int .i64), .v (.int .i64), .v (.int .i64), .v (.int .i64)]), true⟩), (2, ⟨(.ex [.v (.int .i64), .v (.int .i64), .v (.int .i64), .v (.int .i64)]), true⟩)], 3⟩
def K_law28_FuseBounded_0_0r (k : Exit → VS → R) : Y24 := fun (z0 z1 z2 z3 : Int) (z4 : List VV) (z5 z6 : Nat) (z7 : List VV) (z8 z9 : Nat) (z10 : Bool) (z11 z12 z13 z14 z15 z16 z17 z18 z19 z20 z21 z22 z23 z24 z25 z26 z27 z28 z29 : Int) => k .ret (fS T_a_0_0 [.i z0, .i z1, .i z2, .i z3, .c z4, .n z5, .n z6, .c z7, .n z8, .n z9, .b z10, .i z11, .i z12, .i z13, .i z14, .i z15, .i z16, .i z17, .i z18, .i z19, .i z20, .i z21, .i z22, .i z23, .i z24, .i z25, .i z26, .i z27, .i z28, .i z29])
def T_a_0_1 : TS := ⟨[(0, .v (.agg [.int .i64, .int .i64, .int .i64, .int .i64])), (1, .fs .hole .hole 3), (2, .fs .hole .hole 1), (3, .lp 0 (.lit 0)), (6, .v (.bool)), (9, .lp 1 (.lit 0)), (10, .v (.int .i64)), (11, .v (.int .i64)), (12, .v (.int .i64)), (13, .lp 2 (.lit 0)), (14, .v (.int .i64)), (15, .v (.int .i64))], [(0, ⟨(.ex [.v (.int .i64), .v (.int .i64), .v (.int .i64), .v (.int .i64)]), true⟩), (1, ⟨(.ex [.v (.int .i64), .v (.int .i64), .v (.int .i64), .v (.int .i64)]), true⟩), (2, ⟨(.ex [.v (.int .i64), .v (.int .i64), .v (.int .i64), .v (.int .i64)]), true⟩)], 3⟩
def K_law28_FuseBounded_0_1e2 (k : Exit → VS → R) : Y23 := fun (z0 z1 z2 z3 : Int) (z4 : List VV) (z5 z6 : Nat) (z7 : List VV) (z8 z9 : Nat) (z10 : Bool) (z11 z12 z13 z14 z15 z16 z17 z18 z19 z20 z21 z22 z23 z24 z25 z26 z27 : Int) => k (.exit 2) (fS T_a_0_1 [.i z0, .i z1, .i z2, .i z3, .c z4, .n z5, .n z6, .c z7, .n z8, .n z9, .b z10, .i z11, .i z12, .i z13, .i z14, .i z15, .i z16, .i z17, .i z18, .i z19, .i z20, .i z21, .i z22, .i z23, .i z24, .i z25, .i z26, .i z27])
def Bg_a_0 (F : Nat) (rc : Y23) (ex0 : Y24) (ex1 : Y23) (x0 x1 x2 x3 : Int) (x4 : List VV) (x5 x6 : Nat) (x7 : List VV) (x8 x9 : Nat) (x10 : Bool) (x11 x12 x13 x14 x15 x16 x17 x18 x19 x20 x21 x22 x23 x24 x25 x26 x27 : Int) : R :=
 bif ((decide (x15 < 3))) then (
 bif ((decide (0 ≤ x15)) && (decide (x15 < 3))) then (
 let v4043 : Nat := (0 + ((Int.toNat x15) * 1))
 bif ((isI .i64 [.v (.int .i64 x20), .v (.int .i64 x21), .v (.int .i64 x22), .v (.int .i64 x23)][v4043]?) && true) then (
 bif ((decide (0 ≤ x15)) && (decide (x15 < 3))) then (
 let v4046 : Nat := (0 + ((Int.toNat x15) * 1))
 bif ((isI .i64 [.v (.int .i64 x24), .v (.int .i64 x25), .v (.int .i64 x26), .v (.int .i64 x27)][v4046]?) && true) then (
 let v4049 : Int := (IntKind.wrap .i64 (((IntKind.wrap .i64 (Int.tdiv ((iv [.v (.int .i64 x20), .v (.int .i64 x21), .v (.int .i64 x22), .v (.int .i64 x23)][v4043]?)) 2))) - ((IntKind.wrap .i64 (Int.tdiv ((iv [.v (.int .i64 x24), .v (.int .i64 x25), .v (.int .i64 x26), .v (.int .i64 x27)][v4046]?)) 2)))))
 bif ((decide (0 ≤ x15)) && (decide (x15 < 3))) then (
 let v4050 : Nat := (0 + ((Int.toNat x15) * 1))
 bif ((isI .i64 [.v (.int .i64 x24), .v (.int .i64 x25), .v (.int .i64 x26), .v (.int .i64 x27)][v4050]?) && true) then (
 bif ((decide (0 ≤ x15)) && (decide (x15 < 3))) then (
 let v4053 : Nat := (0 + ((Int.toNat x15) * 1))
 bif ((isI .i64 [.v (.int .i64 x20), .v (.int .i64 x21), .v (.int .i64 x22), .v (.int .i64 x23)][v4053]?) && true) then (
 let v4056 : Int := (IntKind.wrap .i64 (((IntKind.wrap .i64 (Int.tdiv ((iv [.v (.int .i64 x24), .v (.int .i64 x25), .v (.int .i64 x26), .v (.int .i64 x27)][v4050]?)) 2))) - ((IntKind.wrap .i64 (Int.tdiv ((iv [.v (.int .i64 x20), .v (.int .i64 x21), .v (.int .i64 x22), .v (.int .i64 x23)][v4053]?)) 2)))))
 bif ((decide (v4049 > ((IntKind.wrap .i64 (((IntKind.wrap .i64 (Int.tdiv x17 2))) + 1)))))) then (
 ex0 x0 x1 x2 x3 x4 x5 x6 x7 x8 x9 false x11 x12 x13 x14 x15 v4049 v4056 x16 x17 x18 x19 x20 x21 x22 x23 x24 x25 x26 x27)
 else (
 bif ((decide (v4056 > ((IntKind.wrap .i64 (((IntKind.wrap .i64 (Int.tdiv x17 2))) + 1)))))) then (
 ex0 x0 x1 x2 x3 x4 x5 x6 x7 x8 x9 false x11 x12 x13 x14 x15 v4049 v4056 x16 x17 x18 x19 x20 x21 x22 x23 x24 x25 x26 x27)
 else (
 rc x0 x1 x2 x3 x4 x5 x6 x7 x8 x9 x10 x11 x12 x13 x14 ((IntKind.wrap .i64 (x15 + 1))) x16 x17 x18 x19 x20 x21 x22 x23 x24 x25 x26 x27))) else none) else none) else none) else none) else none) else none) else none) else none)
 else (
 ex1 x0 x1 x2 x3 x4 x5 x6 x7 x8 x9 x10 x11 x12 x13 x14 x15 x16 x17 x18 x19 x20 x21 x22 x23 x24 x25 x26 x27)
def B_a_0 (F : Nat) (rc : Y23) (ex0 : Y24) (ex1 : Y23) (x0 x1 x2 x3 : Int) (x4 : List VV) (x5 x6 : Nat) (x7 : List VV) (x8 x9 : Nat) (x10 : Bool) (x11 x12 x13 x14 x15 x16 x17 x18 x19 x20 x21 x22 x23 x24 x25 x26 x27 : Int) : R := Bg_a_0 F rc ex0 ex1 x0 x1 x2 x3 x4 x5 x6 x7 x8 x9 x10 x11 x12 x13 x14 x15 x16 x17 x18 x19 x20 x21 x22 x23 x24 x25 x26 x27
def L_a_0 (F : Nat) (ex0 : Y24) (ex1 : Y23) : Y25
  | 0, _, _, _, _, _, _, _, _, _, _, _, _, _, _, _, _, _, _, _, _, _, _, _, _, _, _, _, _ => none
  | n + 1, x0, x1, x2, x3, x4, x5, x6, x7, x8, x9, x10, x11, x12, x13, x14, x15, x16, x17, x18, x19, x20, x21, x22, x23, x24, x25, x26, x27 => B_a_0 F (L_a_0 F ex0 ex1 n) ex0 ex1 x0 x1 x2 x3 x4 x5 x6 x7 x8 x9 x10 x11 x12 x13 x14 x15 x16 x17 x18 x19 x20 x21 x22 x23 x24 x25 x26 x27
def TN_a_0 : TS := ⟨[(0, .v (.agg [.int .i64, .int .i64, .int .i64, .int .i64])), (1, .fs .hole .hole 3), (2, .fs .hole .hole 1), (3, .lp 0 (.lit 0)), (6, .v (.bool)), (9, .lp 1 (.lit 0)), (10, .v (.int .i64)), (11, .v (.int .i64)), (12, .v (.int .i64)), (13, .lp 2 (.lit 0)), (14, .v (.int .i64))], [(0, ⟨(.ex [.v (.int .i64), .v (.int .i64), .v (.int .i64), .v (.int .i64)]), true⟩), (1, ⟨(.ex [.v (.int .i64), .v (.int .i64), .v (.int .i64), .v (.int .i64)]), true⟩), (2, ⟨(.ex [.v (.int .i64), .v (.int .i64), .v (.int .i64), .v (.int .i64)]), true⟩)], 3⟩
def TN_a_0_0 : TS := ⟨[(0, .v (.agg [.int .i64, .int .i64, .int .i64, .int .i64])), (1, .fs .hole .hole 3), (2, .fs .hole .hole 1), (3, .lp 0 (.lit 0)), (6, .v (.bool)), (9, .lp 1 (.lit 0)), (10, .v (.int .i64)), (11, .v (.int .i64)), (12, .v (.int .i64)), (13, .lp 2 (.lit 0)), (14, .v (.int .i64)), (15, .v (.int .i64)), (16, .v (.int .i64)), (17, .v (.int .i64))], [(0, ⟨(.ex [.v (.int .i64), .v (.int .i64), .v (.int .i64), .v (.int .i64)]), true⟩), (1, ⟨(.ex [.v (.int .i64), .v (.int .i64), .v (.int .i64), .v (.int .i64)]), true⟩), (2, ⟨(.ex [.v (.int .i64), .v (.int .i64), .v (.int .i64), .v (.int .i64)]), true⟩)], 3⟩
def KN_law28_FuseBounded_0_0r (k : Exit → VS → R) : Y24 := fun (z0 z1 z2 z3 : Int) (z4 : List VV) (z5 z6 : Nat) (z7 : List VV) (z8 z9 : Nat) (z10 : Bool) (z11 z12 z13 z14 z15 z16 z17 z18 z19 z20 z21 z22 z23 z24 z25 z26 z27 z28 z29 : Int) => k .ret (fS TN_a_0_0 [.i z0, .i z1, .i z2, .i z3, .c z4, .n z5, .n z6, .c z7, .n z8, .n z9, .b z10, .i z11, .i z12, .i z13, .i z14, .i z15, .i z16, .i z17, .i z18, .i z19, .i z20, .i z21, .i z22, .i z23, .i z24, .i z25, .i z26, .i z27, .i z28, .i z29])
def TN_a_0_1 : TS := ⟨[(0, .v (.agg [.int .i64, .int .i64, .int .i64, .int .i64])), (1, .fs .hole .hole 3), (2, .fs .hole .hole 1), (3, .lp 0 (.lit 0)), (6, .v (.bool)), (9, .lp 1 (.lit 0)), (10, .v (.int .i64)), (11, .v (.int .i64)), (12, .v (.int .i64)), (13, .lp 2 (.lit 0)), (14, .v (.int .i64)), (15, .v (.int .i64))], [(0, ⟨(.ex [.v (.int .i64), .v (.int .i64), .v (.int .i64), .v (.int .i64)]), true⟩), (1, ⟨(.ex [.v (.int .i64), .v (.int .i64), .v (.int .i64), .v (.int .i64)]), true⟩), (2, ⟨(.ex [.v (.int .i64), .v (.int .i64), .v (.int .i64), .v (.int .i64)]), true⟩)], 3⟩
def KN_law28_FuseBounded_0_1n (k : Exit → VS → R) : Y23 := fun (z0 z1 z2 z3 : Int) (z4 : List VV) (z5 z6 : Nat) (z7 : List VV) (z8 z9 : Nat) (z10 : Bool) (z11 z12 z13 z14 z15 z16 z17 z18 z19 z20 z21 z22 z23 z24 z25 z26 z27 : Int) => k .normal (fS TN_a_0_1 [.i z0, .i z1, .i z2, .i z3, .c z4, .n z5, .n z6, .c z7, .n z8, .n z9, .b z10, .i z11, .i z12, .i z13, .i z14, .i z15, .i z16, .i z17, .i z18, .i z19, .i z20, .i z21, .i z22, .i z23, .i z24, .i z25, .i z26, .i z27])
def Ng_a_0 (L_a_0 : Nat → (Y24) → (Y23) → Y25) (F : Nat) (ex0 : Y24) (ex1 : Y23) (x0 x1 x2 x3 : Int) (x4 : List VV) (x5 x6 : Nat) (x7 : List VV) (x8 x9 : Nat) (x10 : Bool) (x11 x12 x13 x14 x15 x16 x17 x18 x19 x20 x21 x22 x23 x24 x25 x26 : Int) : R :=
 L_a_0 F (fun (v4064 v4065 v4066 v4067 : Int) (v4068 : List VV) (v4069 v4070 : Nat) (v4071 : List VV) (v4072 v4073 : Nat) (v4074 : Bool) (v4075 v4076 v4077 v4078 v4079 v4080 v4081 v4082 v4083 v4084 v4085 v4086 v4087 v4088 v4089 v4090 v4091 v4092 v4093 : Int) =>
 ex0 v4064 v4065 v4066 v4067 v4068 v4069 v4070 v4071 v4072 v4073 v4074 v4075 v4076 v4077 v4078 v4079 v4080 v4081 v4082 v4083 v4084 v4085 v4086 v4087 v4088 v4089 v4090 v4091 v4092 v4093) (fun (v4094 v4095 v4096 v4097 : Int) (v4098 : List VV) (v4099 v4100 : Nat) (v4101 : List VV) (v4102 v4103 : Nat) (v4104 : Bool) (v4105 v4106 v4107 v4108 v4109 v4110 v4111 v4112 v4113 v4114 v4115 v4116 v4117 v4118 v4119 v4120 v4121 : Int) =>
 ex1 v4094 v4095 v4096 v4097 v4098 v4099 v4100 v4101 v4102 v4103 v4104 v4105 v4106 v4107 v4108 v4109 v4110 v4111 v4112 v4113 v4114 v4115 v4116 v4117 v4118 v4119 v4120 v4121) F x0 x1 x2 x3 x4 x5 x6 x7 x8 x9 x10 x11 x12 x13 x14 0 x15 x16 x17 x18 x19 x20 x21 x22 x23 x24 x25 x26
def N_a_0 (F : Nat) (ex0 : Y24) (ex1 : Y23) (x0 x1 x2 x3 : Int) (x4 : List VV) (x5 x6 : Nat) (x7 : List VV) (x8 x9 : Nat) (x10 : Bool) (x11 x12 x13 x14 x15 x16 x17 x18 x19 x20 x21 x22 x23 x24 x25 x26 : Int) : R := Ng_a_0 L_a_0 F ex0 ex1 x0 x1 x2 x3 x4 x5 x6 x7 x8 x9 x10 x11 x12 x13 x14 x15 x16 x17 x18 x19 x20 x21 x22 x23 x24 x25 x26
def TN_a_1 : TS := ⟨[(0, .v (.agg [.int .i64, .int .i64, .int .i64, .int .i64])), (1, .fs .hole .hole 3), (2, .fs .hole .hole 1), (3, .lp 0 (.lit 0)), (6, .v (.bool)), (9, .lp 1 (.lit 0)), (10, .v (.int .i64)), (11, .v (.int .i64)), (12, .v (.int .i64)), (13, .lp 2 (.lit 0)), (14, .v (.int .i64))], [(0, ⟨(.ex [.v (.int .i64), .v (.int .i64), .v (.int .i64), .v (.int .i64)]), true⟩), (1, ⟨(.ex [.v (.int .i64), .v (.int .i64), .v (.int .i64), .v (.int .i64)]), true⟩), (2, ⟨(.ex [.v (.int .i64), .v (.int .i64), .v (.int .i64), .v (.int .i64)]), true⟩)], 3⟩
def TN_a_1_0 : TS := ⟨[(0, .v (.agg [.int .i64, .int .i64, .int .i64, .int .i64])), (1, .fs .hole .hole 3), (2, .fs .hole .hole 1), (3, .lp 0 (.lit 0)), (6, .v (.bool)), (9, .lp 1 (.lit 0)), (10, .v (.int .i64)), (11, .v (.int .i64)), (12, .v (.int .i64)), (13, .lp 2 (.lit 0)), (14, .v (.int .i64))], [(0, ⟨(.ex [.v (.int .i64), .v (.int .i64), .v (.int .i64), .v (.int .i64)]), true⟩), (1, ⟨(.ex [.v (.int .i64), .v (.int .i64), .v (.int .i64), .v (.int .i64)]), true⟩), (2, ⟨(.ex [.v (.int .i64), .v (.int .i64), .v (.int .i64), .v (.int .i64)]), true⟩)], 3⟩
def KN_law28_FuseBounded_1_0r (k : Exit → VS → R) : Y26 := fun (z0 z1 z2 z3 : Int) (z4 : List VV) (z5 z6 : Nat) (z7 : List VV) (z8 z9 : Nat) (z10 : Bool) (z11 z12 z13 z14 z15 z16 z17 z18 z19 z20 z21 z22 z23 z24 z25 z26 : Int) => k .ret (fS TN_a_1_0 [.i z0, .i z1, .i z2, .i z3, .c z4, .n z5, .n z6, .c z7, .n z8, .n z9, .b z10, .i z11, .i z12, .i z13, .i z14, .i z15, .i z16, .i z17, .i z18, .i z19, .i z20, .i z21, .i z22, .i z23, .i z24, .i z25, .i z26])
def TN_a_1_1 : TS := ⟨[(0, .v (.agg [.int .i64, .int .i64, .int .i64, .int .i64])), (1, .fs .hole .hole 3), (2, .fs .hole .hole 1), (3, .lp 0 (.lit 0)), (6, .v (.bool)), (9, .lp 1 (.lit 0)), (10, .v (.int .i64)), (11, .v (.int .i64)), (12, .v (.int .i64)), (13, .lp 2 (.lit 0)), (14, .v (.int .i64)), (15, .v (.int .i64)), (16, .v (.int .i64)), (17, .v (.int .i64))], [(0, ⟨(.ex [.v (.int .i64), .v (.int .i64), .v (.int .i64), .v (.int .i64)]), true⟩), (1, ⟨(.ex [.v (.int .i64), .v (.int .i64), .v (.int .i64), .v (.int .i64)]), true⟩), (2, ⟨(.ex [.v (.int .i64), .v (.int .i64), .v (.int .i64), .v (.int .i64)]), true⟩)], 3⟩
def KN_law28_FuseBounded_1_1r (k : Exit → VS → R) : Y24 := fun (z0 z1 z2 z3 : Int) (z4 : List VV) (z5 z6 : Nat) (z7 : List VV) (z8 z9 : Nat) (z10 : Bool) (z11 z12 z13 z14 z15 z16 z17 z18 z19 z20 z21 z22 z23 z24 z25 z26 z27 z28 z29 : Int) => k .ret (fS TN_a_1_1 [.i z0, .i z1, .i z2, .i z3, .c z4, .n z5, .n z6, .c z7, .n z8, .n z9, .b z10, .i z11, .i z12, .i z13, .i z14, .i z15, .i z16, .i z17, .i z18, .i z19, .i z20, .i z21, .i z22, .i z23, .i z24, .i z25, .i z26, .i z27, .i z28, .i z29])
def TN_a_1_2 : TS := ⟨[(0, .v (.agg [.int .i64, .int .i64, .int .i64, .int .i64])), (1, .fs .hole .hole 3), (2, .fs .hole .hole 1), (3, .lp 0 (.lit 0)), (6, .v (.bool)), (9, .lp 1 (.lit 0)), (10, .v (.int .i64)), (11, .v (.int .i64)), (12, .v (.int .i64)), (13, .lp 2 (.lit 0)), (14, .v (.int .i64)), (15, .v (.int .i64))], [(0, ⟨(.ex [.v (.int .i64), .v (.int .i64), .v (.int .i64), .v (.int .i64)]), true⟩), (1, ⟨(.ex [.v (.int .i64), .v (.int .i64), .v (.int .i64), .v (.int .i64)]), true⟩), (2, ⟨(.ex [.v (.int .i64), .v (.int .i64), .v (.int .i64), .v (.int .i64)]), true⟩)], 3⟩
def KN_law28_FuseBounded_1_2n (k : Exit → VS → R) : Y23 := fun (z0 z1 z2 z3 : Int) (z4 : List VV) (z5 z6 : Nat) (z7 : List VV) (z8 z9 : Nat) (z10 : Bool) (z11 z12 z13 z14 z15 z16 z17 z18 z19 z20 z21 z22 z23 z24 z25 z26 z27 : Int) => k .normal (fS TN_a_1_2 [.i z0, .i z1, .i z2, .i z3, .c z4, .n z5, .n z6, .c z7, .n z8, .n z9, .b z10, .i z11, .i z12, .i z13, .i z14, .i z15, .i z16, .i z17, .i z18, .i z19, .i z20, .i z21, .i z22, .i z23, .i z24, .i z25, .i z26, .i z27])
def Ng_a_1 (ok_j : Y8) (o_j_0 : Y9) (N_a_0 : Nat → (Y24) → (Y23) → Y26) (F : Nat) (ex0 : Y26) (ex1 : Y24) (ex2 : Y23) (x0 x1 x2 x3 : Int) (x4 : List VV) (x5 x6 : Nat) (x7 : List VV) (x8 x9 : Nat) (x10 : Bool) (x11 x12 x13 x14 x15 x16 x17 x18 x19 x20 x21 x22 x23 x24 x25 x26 : Int) : R :=
 bif ((x14 != 0)) then (
 ex0 x0 x1 x2 x3 x4 x5 x6 x7 x8 x9 false x11 x12 x13 x14 x15 x16 x17 x18 x19 x20 x21 x22 x23 x24 x25 x26)
 else (
 bif (ok_j F x15 x16 x17 x18 x19 x20 x21 x22) then (
 bif ((((o_j_0 F x15 x16 x17 x18 x19 x20 x21 x22)) != 0)) then (
 ex0 x0 x1 x2 x3 x4 x5 x6 x7 x8 x9 false x11 x12 x13 x14 x15 x16 x17 x18 x19 x20 x21 x22 x23 x24 x25 x26)
 else (
 N_a_0 F (fun (v4122 v4123 v4124 v4125 : Int) (v4126 : List VV) (v4127 v4128 : Nat) (v4129 : List VV) (v4130 v4131 : Nat) (v4132 : Bool) (v4133 v4134 v4135 v4136 v4137 v4138 v4139 v4140 v4141 v4142 v4143 v4144 v4145 v4146 v4147 v4148 v4149 v4150 v4151 : Int) =>
 ex1 v4122 v4123 v4124 v4125 v4126 v4127 v4128 v4129 v4130 v4131 v4132 v4133 v4134 v4135 v4136 v4137 v4138 v4139 v4140 v4141 v4142 v4143 v4144 v4145 v4146 v4147 v4148 v4149 v4150 v4151) (fun (v4152 v4153 v4154 v4155 : Int) (v4156 : List VV) (v4157 v4158 : Nat) (v4159 : List VV) (v4160 v4161 : Nat) (v4162 : Bool) (v4163 v4164 v4165 v4166 v4167 v4168 v4169 v4170 v4171 v4172 v4173 v4174 v4175 v4176 v4177 v4178 v4179 : Int) =>
 ex2 v4152 v4153 v4154 v4155 v4156 v4157 v4158 v4159 v4160 v4161 v4162 v4163 v4164 v4165 v4166 v4167 v4168 v4169 v4170 v4171 v4172 v4173 v4174 v4175 v4176 v4177 v4178 v4179) x0 x1 x2 x3 x4 x5 x6 x7 x8 x9 x10 x11 x12 x13 x14 x15 x16 x17 x18 x19 x20 x21 x22 x23 x24 x25 x26)) else none)
def N_a_1 (F : Nat) (ex0 : Y26) (ex1 : Y24) (ex2 : Y23) (x0 x1 x2 x3 : Int) (x4 : List VV) (x5 x6 : Nat) (x7 : List VV) (x8 x9 : Nat) (x10 : Bool) (x11 x12 x13 x14 x15 x16 x17 x18 x19 x20 x21 x22 x23 x24 x25 x26 : Int) : R := Ng_a_1 ok_j o_j_0 N_a_0 F ex0 ex1 ex2 x0 x1 x2 x3 x4 x5 x6 x7 x8 x9 x10 x11 x12 x13 x14 x15 x16 x17 x18 x19 x20 x21 x22 x23 x24 x25 x26
def TN_a_2 : TS := ⟨[(0, .v (.agg [.int .i64, .int .i64, .int .i64, .int .i64])), (1, .fs .hole .hole 3), (2, .fs .hole .hole 1), (3, .lp 0 (.lit 0)), (6, .v (.bool)), (9, .lp 1 (.lit 0)), (10, .v (.int .i64)), (11, .v (.int .i64)), (12, .v (.int .i64))], [(0, ⟨(.ex [.v (.int .i64), .v (.int .i64), .v (.int .i64), .v (.int .i64)]), true⟩), (1, ⟨(.ex [.v (.int .i64), .v (.int .i64), .v (.int .i64), .v (.int .i64)]), true⟩)], 2⟩
def TN_a_2_0 : TS := ⟨[(0, .v (.agg [.int .i64, .int .i64, .int .i64, .int .i64])), (1, .fs .hole .hole 3), (2, .fs .hole .hole 1), (3, .lp 0 (.lit 0)), (6, .v (.bool)), (9, .lp 1 (.lit 0)), (10, .v (.int .i64)), (11, .v (.int .i64)), (12, .v (.int .i64)), (13, .lp 2 (.lit 0)), (14, .v (.int .i64))], [(0, ⟨(.ex [.v (.int .i64), .v (.int .i64), .v (.int .i64), .v (.int .i64)]), true⟩), (1, ⟨(.ex [.v (.int .i64), .v (.int .i64), .v (.int .i64), .v (.int .i64)]), true⟩), (2, ⟨(.ex [.v (.int .i64), .v (.int .i64), .v (.int .i64), .v (.int .i64)]), true⟩)], 3⟩
def KN_law28_FuseBounded_2_0r (k : Exit → VS → R) : Y26 := fun (z0 z1 z2 z3 : Int) (z4 : List VV) (z5 z6 : Nat) (z7 : List VV) (z8 z9 : Nat) (z10 : Bool) (z11 z12 z13 z14 z15 z16 z17 z18 z19 z20 z21 z22 z23 z24 z25 z26 : Int) => k .ret (fS TN_a_2_0 [.i z0, .i z1, .i z2, .i z3, .c z4, .n z5, .n z6, .c z7, .n z8, .n z9, .b z10, .i z11, .i z12, .i z13, .i z14, .i z15, .i z16, .i z17, .i z18, .i z19, .i z20, .i z21, .i z22, .i z23, .i z24, .i z25, .i z26])
def TN_a_2_1 : TS := ⟨[(0, .v (.agg [.int .i64, .int .i64, .int .i64, .int .i64])), (1, .fs .hole .hole 3), (2, .fs .hole .hole 1), (3, .lp 0 (.lit 0)), (6, .v (.bool)), (9, .lp 1 (.lit 0)), (10, .v (.int .i64)), (11, .v (.int .i64)), (12, .v (.int .i64)), (13, .lp 2 (.lit 0)), (14, .v (.int .i64)), (15, .v (.int .i64)), (16, .v (.int .i64)), (17, .v (.int .i64))], [(0, ⟨(.ex [.v (.int .i64), .v (.int .i64), .v (.int .i64), .v (.int .i64)]), true⟩), (1, ⟨(.ex [.v (.int .i64), .v (.int .i64), .v (.int .i64), .v (.int .i64)]), true⟩), (2, ⟨(.ex [.v (.int .i64), .v (.int .i64), .v (.int .i64), .v (.int .i64)]), true⟩)], 3⟩
def KN_law28_FuseBounded_2_1r (k : Exit → VS → R) : Y24 := fun (z0 z1 z2 z3 : Int) (z4 : List VV) (z5 z6 : Nat) (z7 : List VV) (z8 z9 : Nat) (z10 : Bool) (z11 z12 z13 z14 z15 z16 z17 z18 z19 z20 z21 z22 z23 z24 z25 z26 z27 z28 z29 : Int) => k .ret (fS TN_a_2_1 [.i z0, .i z1, .i z2, .i z3, .c z4, .n z5, .n z6, .c z7, .n z8, .n z9, .b z10, .i z11, .i z12, .i z13, .i z14, .i z15, .i z16, .i z17, .i z18, .i z19, .i z20, .i z21, .i z22, .i z23, .i z24, .i z25, .i z26, .i z27, .i z28, .i z29])
def TN_a_2_2 : TS := ⟨[(0, .v (.agg [.int .i64, .int .i64, .int .i64, .int .i64])), (1, .fs .hole .hole 3), (2, .fs .hole .hole 1), (3, .lp 0 (.lit 0)), (6, .v (.bool)), (9, .lp 1 (.lit 0)), (10, .v (.int .i64)), (11, .v (.int .i64)), (12, .v (.int .i64)), (13, .lp 2 (.lit 0)), (14, .v (.int .i64)), (15, .v (.int .i64))], [(0, ⟨(.ex [.v (.int .i64), .v (.int .i64), .v (.int .i64), .v (.int .i64)]), true⟩), (1, ⟨(.ex [.v (.int .i64), .v (.int .i64), .v (.int .i64), .v (.int .i64)]), true⟩), (2, ⟨(.ex [.v (.int .i64), .v (.int .i64), .v (.int .i64), .v (.int .i64)]), true⟩)], 3⟩
def KN_law28_FuseBounded_2_2n (k : Exit → VS → R) : Y23 := fun (z0 z1 z2 z3 : Int) (z4 : List VV) (z5 z6 : Nat) (z7 : List VV) (z8 z9 : Nat) (z10 : Bool) (z11 z12 z13 z14 z15 z16 z17 z18 z19 z20 z21 z22 z23 z24 z25 z26 z27 : Int) => k .normal (fS TN_a_2_2 [.i z0, .i z1, .i z2, .i z3, .c z4, .n z5, .n z6, .c z7, .n z8, .n z9, .b z10, .i z11, .i z12, .i z13, .i z14, .i z15, .i z16, .i z17, .i z18, .i z19, .i z20, .i z21, .i z22, .i z23, .i z24, .i z25, .i z26, .i z27])
def Ng_a_2 (ok_n : Y21) (o_n_0 : Y22) (o_n_1 : Y22) (o_n_2 : Y22) (o_n_3 : Y22) (o_n_4 : Y22) (ok_m : Y14) (o_m_0 : Y27) (o_m_1 : Y27) (o_m_2 : Y27) (o_m_3 : Y27) (o_m_4 : Y27) (N_a_1 : Nat → (Y26) → (Y24) → (Y23) → Y26) (F : Nat) (ex0 : Y26) (ex1 : Y24) (ex2 : Y23) (x0 x1 x2 x3 : Int) (x4 : List VV) (x5 x6 : Nat) (x7 : List VV) (x8 x9 : Nat) (x10 : Bool) (x11 x12 x13 x14 x15 x16 x17 x18 x19 x20 x21 : Int) : R :=
 bif ((decide (x13 < 0))) then (
 let v3951 : Int := (IntKind.wrap .i64 (x11 + 40000))
 bif (ok_m F x14 x15 x16 x17 x18 x19 x20 x21 v3951) then (
 N_a_1 F (fun (v4180 v4181 v4182 v4183 : Int) (v4184 : List VV) (v4185 v4186 : Nat) (v4187 : List VV) (v4188 v4189 : Nat) (v4190 : Bool) (v4191 v4192 v4193 v4194 v4195 v4196 v4197 v4198 v4199 v4200 v4201 v4202 v4203 v4204 v4205 v4206 : Int) =>
 ex0 v4180 v4181 v4182 v4183 v4184 v4185 v4186 v4187 v4188 v4189 v4190 v4191 v4192 v4193 v4194 v4195 v4196 v4197 v4198 v4199 v4200 v4201 v4202 v4203 v4204 v4205 v4206) (fun (v4207 v4208 v4209 v4210 : Int) (v4211 : List VV) (v4212 v4213 : Nat) (v4214 : List VV) (v4215 v4216 : Nat) (v4217 : Bool) (v4218 v4219 v4220 v4221 v4222 v4223 v4224 v4225 v4226 v4227 v4228 v4229 v4230 v4231 v4232 v4233 v4234 v4235 v4236 : Int) =>
 ex1 v4207 v4208 v4209 v4210 v4211 v4212 v4213 v4214 v4215 v4216 v4217 v4218 v4219 v4220 v4221 v4222 v4223 v4224 v4225 v4226 v4227 v4228 v4229 v4230 v4231 v4232 v4233 v4234 v4235 v4236) (fun (v4237 v4238 v4239 v4240 : Int) (v4241 : List VV) (v4242 v4243 : Nat) (v4244 : List VV) (v4245 v4246 : Nat) (v4247 : Bool) (v4248 v4249 v4250 v4251 v4252 v4253 v4254 v4255 v4256 v4257 v4258 v4259 v4260 v4261 v4262 v4263 v4264 : Int) =>
 ex2 v4237 v4238 v4239 v4240 v4241 v4242 v4243 v4244 v4245 v4246 v4247 v4248 v4249 v4250 v4251 v4252 v4253 v4254 v4255 v4256 v4257 v4258 v4259 v4260 v4261 v4262 v4263 v4264) x0 x1 x2 x3 x4 x5 x6 x7 x8 x9 x10 v3951 x12 x13 ((o_m_4 F x14 x15 x16 x17 x18 x19 x20 x21 v3951)) x14 x15 x16 x17 ((o_m_0 F x14 x15 x16 x17 x18 x19 x20 x21 v3951)) ((o_m_1 F x14 x15 x16 x17 x18 x19 x20 x21 v3951)) ((o_m_2 F x14 x15 x16 x17 x18 x19 x20 x21 v3951)) ((o_m_3 F x14 x15 x16 x17 x18 x19 x20 x21 v3951)) x18 x19 x20 x21) else none)
 else (
 let v4265 : Int := (IntKind.wrap .i64 (x11 + 1))
 bif ((decide (0 ≤ x12)) && (decide (x12 < ((x6 : Nat) : Int)))) then (
 let v4266 : Nat := (x5 + ((Int.toNat x12) * 3))
 bif ((isI .i64 x4[v4266]?) && ((isI .i64 x4[(v4266 + 1)]?) && ((isI .i64 x4[((v4266 + 1) + 1)]?) && true))) then (
 let v4267 : Int := (iv x4[v4266]?)
 let v4268 : Int := (iv x4[(v4266 + 1)]?)
 let v4269 : Int := (iv x4[((v4266 + 1) + 1)]?)
 bif (ok_n F x14 x15 x16 x17 x18 x19 x20 x21 v4267 v4268 v4269 x13 v4265) then (
 N_a_1 F (fun (v4275 v4276 v4277 v4278 : Int) (v4279 : List VV) (v4280 v4281 : Nat) (v4282 : List VV) (v4283 v4284 : Nat) (v4285 : Bool) (v4286 v4287 v4288 v4289 v4290 v4291 v4292 v4293 v4294 v4295 v4296 v4297 v4298 v4299 v4300 v4301 : Int) =>
 ex0 v4275 v4276 v4277 v4278 v4279 v4280 v4281 v4282 v4283 v4284 v4285 v4286 v4287 v4288 v4289 v4290 v4291 v4292 v4293 v4294 v4295 v4296 v4297 v4298 v4299 v4300 v4301) (fun (v4302 v4303 v4304 v4305 : Int) (v4306 : List VV) (v4307 v4308 : Nat) (v4309 : List VV) (v4310 v4311 : Nat) (v4312 : Bool) (v4313 v4314 v4315 v4316 v4317 v4318 v4319 v4320 v4321 v4322 v4323 v4324 v4325 v4326 v4327 v4328 v4329 v4330 v4331 : Int) =>
 ex1 v4302 v4303 v4304 v4305 v4306 v4307 v4308 v4309 v4310 v4311 v4312 v4313 v4314 v4315 v4316 v4317 v4318 v4319 v4320 v4321 v4322 v4323 v4324 v4325 v4326 v4327 v4328 v4329 v4330 v4331) (fun (v4332 v4333 v4334 v4335 : Int) (v4336 : List VV) (v4337 v4338 : Nat) (v4339 : List VV) (v4340 v4341 : Nat) (v4342 : Bool) (v4343 v4344 v4345 v4346 v4347 v4348 v4349 v4350 v4351 v4352 v4353 v4354 v4355 v4356 v4357 v4358 v4359 : Int) =>
 ex2 v4332 v4333 v4334 v4335 v4336 v4337 v4338 v4339 v4340 v4341 v4342 v4343 v4344 v4345 v4346 v4347 v4348 v4349 v4350 v4351 v4352 v4353 v4354 v4355 v4356 v4357 v4358 v4359) x0 x1 x2 x3 x4 x5 x6 x7 x8 x9 x10 v4265 x12 x13 ((o_n_4 F x14 x15 x16 x17 x18 x19 x20 x21 v4267 v4268 v4269 x13 v4265)) x14 x15 x16 x17 ((o_n_0 F x14 x15 x16 x17 x18 x19 x20 x21 v4267 v4268 v4269 x13 v4265)) ((o_n_1 F x14 x15 x16 x17 x18 x19 x20 x21 v4267 v4268 v4269 x13 v4265)) ((o_n_2 F x14 x15 x16 x17 x18 x19 x20 x21 v4267 v4268 v4269 x13 v4265)) ((o_n_3 F x14 x15 x16 x17 x18 x19 x20 x21 v4267 v4268 v4269 x13 v4265)) x18 x19 x20 x21) else none) else none) else none)
def N_a_2 (F : Nat) (ex0 : Y26) (ex1 : Y24) (ex2 : Y23) (x0 x1 x2 x3 : Int) (x4 : List VV) (x5 x6 : Nat) (x7 : List VV) (x8 x9 : Nat) (x10 : Bool) (x11 x12 x13 x14 x15 x16 x17 x18 x19 x20 x21 : Int) : R := Ng_a_2 ok_n o_n_0 o_n_1 o_n_2 o_n_3 o_n_4 ok_m o_m_0 o_m_1 o_m_2 o_m_3 o_m_4 N_a_1 F ex0 ex1 ex2 x0 x1 x2 x3 x4 x5 x6 x7 x8 x9 x10 x11 x12 x13 x14 x15 x16 x17 x18 x19 x20 x21
def TN_a_3 : TS := ⟨[(0, .v (.agg [.int .i64, .int .i64, .int .i64, .int .i64])), (1, .fs .hole .hole 3), (2, .fs .hole .hole 1), (3, .lp 0 (.lit 0)), (6, .v (.bool)), (9, .lp 1 (.lit 0)), (10, .v (.int .i64)), (11, .v (.int .i64))], [(0, ⟨(.ex [.v (.int .i64), .v (.int .i64), .v (.int .i64), .v (.int .i64)]), true⟩), (1, ⟨(.ex [.v (.int .i64), .v (.int .i64), .v (.int .i64), .v (.int .i64)]), true⟩)], 2⟩
def TN_a_3_0 : TS := ⟨[(0, .v (.agg [.int .i64, .int .i64, .int .i64, .int .i64])), (1, .fs .hole .hole 3), (2, .fs .hole .hole 1), (3, .lp 0 (.lit 0)), (6, .v (.bool)), (9, .lp 1 (.lit 0)), (10, .v (.int .i64)), (11, .v (.int .i64)), (12, .v (.int .i64)), (13, .lp 2 (.lit 0)), (14, .v (.int .i64))], [(0, ⟨(.ex [.v (.int .i64), .v (.int .i64), .v (.int .i64), .v (.int .i64)]), true⟩), (1, ⟨(.ex [.v (.int .i64), .v (.int .i64), .v (.int .i64), .v (.int .i64)]), true⟩), (2, ⟨(.ex [.v (.int .i64), .v (.int .i64), .v (.int .i64), .v (.int .i64)]), true⟩)], 3⟩
def KN_law28_FuseBounded_3_0r (k : Exit → VS → R) : Y26 := fun (z0 z1 z2 z3 : Int) (z4 : List VV) (z5 z6 : Nat) (z7 : List VV) (z8 z9 : Nat) (z10 : Bool) (z11 z12 z13 z14 z15 z16 z17 z18 z19 z20 z21 z22 z23 z24 z25 z26 : Int) => k .ret (fS TN_a_3_0 [.i z0, .i z1, .i z2, .i z3, .c z4, .n z5, .n z6, .c z7, .n z8, .n z9, .b z10, .i z11, .i z12, .i z13, .i z14, .i z15, .i z16, .i z17, .i z18, .i z19, .i z20, .i z21, .i z22, .i z23, .i z24, .i z25, .i z26])
def TN_a_3_1 : TS := ⟨[(0, .v (.agg [.int .i64, .int .i64, .int .i64, .int .i64])), (1, .fs .hole .hole 3), (2, .fs .hole .hole 1), (3, .lp 0 (.lit 0)), (6, .v (.bool)), (9, .lp 1 (.lit 0)), (10, .v (.int .i64)), (11, .v (.int .i64)), (12, .v (.int .i64)), (13, .lp 2 (.lit 0)), (14, .v (.int .i64)), (15, .v (.int .i64)), (16, .v (.int .i64)), (17, .v (.int .i64))], [(0, ⟨(.ex [.v (.int .i64), .v (.int .i64), .v (.int .i64), .v (.int .i64)]), true⟩), (1, ⟨(.ex [.v (.int .i64), .v (.int .i64), .v (.int .i64), .v (.int .i64)]), true⟩), (2, ⟨(.ex [.v (.int .i64), .v (.int .i64), .v (.int .i64), .v (.int .i64)]), true⟩)], 3⟩
def KN_law28_FuseBounded_3_1r (k : Exit → VS → R) : Y24 := fun (z0 z1 z2 z3 : Int) (z4 : List VV) (z5 z6 : Nat) (z7 : List VV) (z8 z9 : Nat) (z10 : Bool) (z11 z12 z13 z14 z15 z16 z17 z18 z19 z20 z21 z22 z23 z24 z25 z26 z27 z28 z29 : Int) => k .ret (fS TN_a_3_1 [.i z0, .i z1, .i z2, .i z3, .c z4, .n z5, .n z6, .c z7, .n z8, .n z9, .b z10, .i z11, .i z12, .i z13, .i z14, .i z15, .i z16, .i z17, .i z18, .i z19, .i z20, .i z21, .i z22, .i z23, .i z24, .i z25, .i z26, .i z27, .i z28, .i z29])
def TN_a_3_2 : TS := ⟨[(0, .v (.agg [.int .i64, .int .i64, .int .i64, .int .i64])), (1, .fs .hole .hole 3), (2, .fs .hole .hole 1), (3, .lp 0 (.lit 0)), (6, .v (.bool)), (9, .lp 1 (.lit 0)), (10, .v (.int .i64)), (11, .v (.int .i64)), (12, .v (.int .i64)), (13, .lp 2 (.lit 0)), (14, .v (.int .i64)), (15, .v (.int .i64))], [(0, ⟨(.ex [.v (.int .i64), .v (.int .i64), .v (.int .i64), .v (.int .i64)]), true⟩), (1, ⟨(.ex [.v (.int .i64), .v (.int .i64), .v (.int .i64), .v (.int .i64)]), true⟩), (2, ⟨(.ex [.v (.int .i64), .v (.int .i64), .v (.int .i64), .v (.int .i64)]), true⟩)], 3⟩
def KN_law28_FuseBounded_3_2n (k : Exit → VS → R) : Y23 := fun (z0 z1 z2 z3 : Int) (z4 : List VV) (z5 z6 : Nat) (z7 : List VV) (z8 z9 : Nat) (z10 : Bool) (z11 z12 z13 z14 z15 z16 z17 z18 z19 z20 z21 z22 z23 z24 z25 z26 z27 : Int) => k .normal (fS TN_a_3_2 [.i z0, .i z1, .i z2, .i z3, .c z4, .n z5, .n z6, .c z7, .n z8, .n z9, .b z10, .i z11, .i z12, .i z13, .i z14, .i z15, .i z16, .i z17, .i z18, .i z19, .i z20, .i z21, .i z22, .i z23, .i z24, .i z25, .i z26, .i z27])
def Ng_a_3 (ok_g : Nat → Int → Int → Bool) (o_g_0 : Nat → Int → Int → Int) (N_a_2 : Nat → (Y26) → (Y24) → (Y23) → Y28) (F : Nat) (ex0 : Y26) (ex1 : Y24) (ex2 : Y23) (x0 x1 x2 x3 : Int) (x4 : List VV) (x5 x6 : Nat) (x7 : List VV) (x8 x9 : Nat) (x10 : Bool) (x11 x12 x13 x14 x15 x16 x17 x18 x19 x20 : Int) : R :=
 bif ((decide (x12 < (((x9 : Nat) : Int))))) then (
 bif ((decide (0 ≤ x12)) && (decide (x12 < ((x9 : Nat) : Int)))) then (
 let v3924 : Nat := (x8 + ((Int.toNat x12) * 1))
 bif ((isI .i64 x7[v3924]?) && true) then (
 let v3925 : Int := (iv x7[v3924]?)
 bif (ok_g F v3925 5) then (
 N_a_2 F (fun (v4360 v4361 v4362 v4363 : Int) (v4364 : List VV) (v4365 v4366 : Nat) (v4367 : List VV) (v4368 v4369 : Nat) (v4370 : Bool) (v4371 v4372 v4373 v4374 v4375 v4376 v4377 v4378 v4379 v4380 v4381 v4382 v4383 v4384 v4385 v4386 : Int) =>
 ex0 v4360 v4361 v4362 v4363 v4364 v4365 v4366 v4367 v4368 v4369 v4370 v4371 v4372 v4373 v4374 v4375 v4376 v4377 v4378 v4379 v4380 v4381 v4382 v4383 v4384 v4385 v4386) (fun (v4387 v4388 v4389 v4390 : Int) (v4391 : List VV) (v4392 v4393 : Nat) (v4394 : List VV) (v4395 v4396 : Nat) (v4397 : Bool) (v4398 v4399 v4400 v4401 v4402 v4403 v4404 v4405 v4406 v4407 v4408 v4409 v4410 v4411 v4412 v4413 v4414 v4415 v4416 : Int) =>
 ex1 v4387 v4388 v4389 v4390 v4391 v4392 v4393 v4394 v4395 v4396 v4397 v4398 v4399 v4400 v4401 v4402 v4403 v4404 v4405 v4406 v4407 v4408 v4409 v4410 v4411 v4412 v4413 v4414 v4415 v4416) (fun (v4417 v4418 v4419 v4420 : Int) (v4421 : List VV) (v4422 v4423 : Nat) (v4424 : List VV) (v4425 v4426 : Nat) (v4427 : Bool) (v4428 v4429 v4430 v4431 v4432 v4433 v4434 v4435 v4436 v4437 v4438 v4439 v4440 v4441 v4442 v4443 v4444 : Int) =>
 ex2 v4417 v4418 v4419 v4420 v4421 v4422 v4423 v4424 v4425 v4426 v4427 v4428 ((IntKind.wrap .i64 (v4429 + 1))) v4430 v4431 v4432 v4433 v4434 v4435 v4436 v4437 v4438 v4439 v4440 v4441 v4442 v4443 v4444) x0 x1 x2 x3 x4 x5 x6 x7 x8 x9 x10 x11 x12 ((IntKind.wrap .i64 (((o_g_0 F v3925 5)) - 1))) x13 x14 x15 x16 x17 x18 x19 x20) else none) else none) else none)
 else (
 N_a_2 F (fun (v4446 v4447 v4448 v4449 : Int) (v4450 : List VV) (v4451 v4452 : Nat) (v4453 : List VV) (v4454 v4455 : Nat) (v4456 : Bool) (v4457 v4458 v4459 v4460 v4461 v4462 v4463 v4464 v4465 v4466 v4467 v4468 v4469 v4470 v4471 v4472 : Int) =>
 ex0 v4446 v4447 v4448 v4449 v4450 v4451 v4452 v4453 v4454 v4455 v4456 v4457 v4458 v4459 v4460 v4461 v4462 v4463 v4464 v4465 v4466 v4467 v4468 v4469 v4470 v4471 v4472) (fun (v4473 v4474 v4475 v4476 : Int) (v4477 : List VV) (v4478 v4479 : Nat) (v4480 : List VV) (v4481 v4482 : Nat) (v4483 : Bool) (v4484 v4485 v4486 v4487 v4488 v4489 v4490 v4491 v4492 v4493 v4494 v4495 v4496 v4497 v4498 v4499 v4500 v4501 v4502 : Int) =>
 ex1 v4473 v4474 v4475 v4476 v4477 v4478 v4479 v4480 v4481 v4482 v4483 v4484 v4485 v4486 v4487 v4488 v4489 v4490 v4491 v4492 v4493 v4494 v4495 v4496 v4497 v4498 v4499 v4500 v4501 v4502) (fun (v4503 v4504 v4505 v4506 : Int) (v4507 : List VV) (v4508 v4509 : Nat) (v4510 : List VV) (v4511 v4512 : Nat) (v4513 : Bool) (v4514 v4515 v4516 v4517 v4518 v4519 v4520 v4521 v4522 v4523 v4524 v4525 v4526 v4527 v4528 v4529 v4530 : Int) =>
 ex2 v4503 v4504 v4505 v4506 v4507 v4508 v4509 v4510 v4511 v4512 v4513 v4514 ((IntKind.wrap .i64 (v4515 + 1))) v4516 v4517 v4518 v4519 v4520 v4521 v4522 v4523 v4524 v4525 v4526 v4527 v4528 v4529 v4530) x0 x1 x2 x3 x4 x5 x6 x7 x8 x9 x10 x11 x12 3 x13 x14 x15 x16 x17 x18 x19 x20)
def N_a_3 (F : Nat) (ex0 : Y26) (ex1 : Y24) (ex2 : Y23) (x0 x1 x2 x3 : Int) (x4 : List VV) (x5 x6 : Nat) (x7 : List VV) (x8 x9 : Nat) (x10 : Bool) (x11 x12 x13 x14 x15 x16 x17 x18 x19 x20 : Int) : R := Ng_a_3 ok_g o_g_0 N_a_2 F ex0 ex1 ex2 x0 x1 x2 x3 x4 x5 x6 x7 x8 x9 x10 x11 x12 x13 x14 x15 x16 x17 x18 x19 x20
def T_a_1 : TS := ⟨[(0, .v (.agg [.int .i64, .int .i64, .int .i64, .int .i64])), (1, .fs .hole .hole 3), (2, .fs .hole .hole 1), (3, .lp 0 (.lit 0)), (6, .v (.bool)), (9, .lp 1 (.lit 0)), (10, .v (.int .i64)), (11, .v (.int .i64))], [(0, ⟨(.ex [.v (.int .i64), .v (.int .i64), .v (.int .i64), .v (.int .i64)]), true⟩), (1, ⟨(.ex [.v (.int .i64), .v (.int .i64), .v (.int .i64), .v (.int .i64)]), true⟩)], 2⟩
def T_a_1_0 : TS := ⟨[(0, .v (.agg [.int .i64, .int .i64, .int .i64, .int .i64])), (1, .fs .hole .hole 3), (2, .fs .hole .hole 1), (3, .lp 0 (.lit 0)), (6, .v (.bool)), (9, .lp 1 (.lit 0)), (10, .v (.int .i64)), (11, .v (.int .i64)), (12, .v (.int .i64)), (13, .lp 2 (.lit 0)), (14, .v (.int .i64))], [(0, ⟨(.ex [.v (.int .i64), .v (.int .i64), .v (.int .i64), .v (.int .i64)]), true⟩), (1, ⟨(.ex [.v (.int .i64), .v (.int .i64), .v (.int .i64), .v (.int .i64)]), true⟩), (2, ⟨(.ex [.v (.int .i64), .v (.int .i64), .v (.int .i64), .v (.int .i64)]), true⟩)], 3⟩
def K_law28_FuseBounded_1_0r (k : Exit → VS → R) : Y26 := fun (z0 z1 z2 z3 : Int) (z4 : List VV) (z5 z6 : Nat) (z7 : List VV) (z8 z9 : Nat) (z10 : Bool) (z11 z12 z13 z14 z15 z16 z17 z18 z19 z20 z21 z22 z23 z24 z25 z26 : Int) => k .ret (fS T_a_1_0 [.i z0, .i z1, .i z2, .i z3, .c z4, .n z5, .n z6, .c z7, .n z8, .n z9, .b z10, .i z11, .i z12, .i z13, .i z14, .i z15, .i z16, .i z17, .i z18, .i z19, .i z20, .i z21, .i z22, .i z23, .i z24, .i z25, .i z26])
def T_a_1_1 : TS := ⟨[(0, .v (.agg [.int .i64, .int .i64, .int .i64, .int .i64])), (1, .fs .hole .hole 3), (2, .fs .hole .hole 1), (3, .lp 0 (.lit 0)), (6, .v (.bool)), (9, .lp 1 (.lit 0)), (10, .v (.int .i64)), (11, .v (.int .i64)), (12, .v (.int .i64)), (13, .lp 2 (.lit 0)), (14, .v (.int .i64)), (15, .v (.int .i64)), (16, .v (.int .i64)), (17, .v (.int .i64))], [(0, ⟨(.ex [.v (.int .i64), .v (.int .i64), .v (.int .i64), .v (.int .i64)]), true⟩), (1, ⟨(.ex [.v (.int .i64), .v (.int .i64), .v (.int .i64), .v (.int .i64)]), true⟩), (2, ⟨(.ex [.v (.int .i64), .v (.int .i64), .v (.int .i64), .v (.int .i64)]), true⟩)], 3⟩
def K_law28_FuseBounded_1_1r (k : Exit → VS → R) : Y24 := fun (z0 z1 z2 z3 : Int) (z4 : List VV) (z5 z6 : Nat) (z7 : List VV) (z8 z9 : Nat) (z10 : Bool) (z11 z12 z13 z14 z15 z16 z17 z18 z19 z20 z21 z22 z23 z24 z25 z26 z27 z28 z29 : Int) => k .ret (fS T_a_1_1 [.i z0, .i z1, .i z2, .i z3, .c z4, .n z5, .n z6, .c z7, .n z8, .n z9, .b z10, .i z11, .i z12, .i z13, .i z14, .i z15, .i z16, .i z17, .i z18, .i z19, .i z20, .i z21, .i z22, .i z23, .i z24, .i z25, .i z26, .i z27, .i z28, .i z29])
def T_a_1_2 : TS := ⟨[(0, .v (.agg [.int .i64, .int .i64, .int .i64, .int .i64])), (1, .fs .hole .hole 3), (2, .fs .hole .hole 1), (3, .lp 0 (.lit 0)), (6, .v (.bool)), (9, .lp 1 (.lit 0)), (10, .v (.int .i64)), (11, .v (.int .i64))], [(0, ⟨(.ex [.v (.int .i64), .v (.int .i64), .v (.int .i64), .v (.int .i64)]), true⟩), (1, ⟨(.ex [.v (.int .i64), .v (.int .i64), .v (.int .i64), .v (.int .i64)]), true⟩)], 2⟩
def K_law28_FuseBounded_1_2e0 (k : Exit → VS → R) : Y29 := fun (z0 z1 z2 z3 : Int) (z4 : List VV) (z5 z6 : Nat) (z7 : List VV) (z8 z9 : Nat) (z10 : Bool) (z11 z12 z13 z14 z15 z16 z17 z18 z19 z20 : Int) => k (.exit 0) (fS T_a_1_2 [.i z0, .i z1, .i z2, .i z3, .c z4, .n z5, .n z6, .c z7, .n z8, .n z9, .b z10, .i z11, .i z12, .i z13, .i z14, .i z15, .i z16, .i z17, .i z18, .i z19, .i z20])
def Bg_a_1 (N_a_3 : Nat → (Y26) → (Y24) → (Y23) → Y29) (F : Nat) (rc : Y29) (ex0 : Y26) (ex1 : Y24) (ex2 : Y29) (x0 x1 x2 x3 : Int) (x4 : List VV) (x5 x6 : Nat) (x7 : List VV) (x8 x9 : Nat) (x10 : Bool) (x11 x12 x13 x14 x15 x16 x17 x18 x19 x20 : Int) : R :=
 bif ((decide (x12 < (((x6 : Nat) : Int))))) then (
 bif ((decide (x12 < 60))) then (
 N_a_3 F (fun (v4532 v4533 v4534 v4535 : Int) (v4536 : List VV) (v4537 v4538 : Nat) (v4539 : List VV) (v4540 v4541 : Nat) (v4542 : Bool) (v4543 v4544 v4545 v4546 v4547 v4548 v4549 v4550 v4551 v4552 v4553 v4554 v4555 v4556 v4557 v4558 : Int) =>
 ex0 v4532 v4533 v4534 v4535 v4536 v4537 v4538 v4539 v4540 v4541 v4542 v4543 v4544 v4545 v4546 v4547 v4548 v4549 v4550 v4551 v4552 v4553 v4554 v4555 v4556 v4557 v4558) (fun (v4559 v4560 v4561 v4562 : Int) (v4563 : List VV) (v4564 v4565 : Nat) (v4566 : List VV) (v4567 v4568 : Nat) (v4569 : Bool) (v4570 v4571 v4572 v4573 v4574 v4575 v4576 v4577 v4578 v4579 v4580 v4581 v4582 v4583 v4584 v4585 v4586 v4587 v4588 : Int) =>
 ex1 v4559 v4560 v4561 v4562 v4563 v4564 v4565 v4566 v4567 v4568 v4569 v4570 v4571 v4572 v4573 v4574 v4575 v4576 v4577 v4578 v4579 v4580 v4581 v4582 v4583 v4584 v4585 v4586 v4587 v4588) (fun (v4589 v4590 v4591 v4592 : Int) (v4593 : List VV) (v4594 v4595 : Nat) (v4596 : List VV) (v4597 v4598 : Nat) (v4599 : Bool) (v4600 v4601 v4602 v4603 v4604 v4605 v4606 v4607 v4608 v4609 v4610 v4611 v4612 v4613 v4614 v4615 v4616 : Int) =>
 rc v4589 v4590 v4591 v4592 v4593 v4594 v4595 v4596 v4597 v4598 v4599 v4600 v4601 v4605 v4606 v4607 v4608 v4609 v4610 v4611 v4612) x0 x1 x2 x3 x4 x5 x6 x7 x8 x9 x10 x11 x12 x13 x14 x15 x16 x17 x18 x19 x20)
 else (
 ex2 x0 x1 x2 x3 x4 x5 x6 x7 x8 x9 x10 x11 x12 x13 x14 x15 x16 x17 x18 x19 x20))
 else (
 ex2 x0 x1 x2 x3 x4 x5 x6 x7 x8 x9 x10 x11 x12 x13 x14 x15 x16 x17 x18 x19 x20)
def B_a_1 (F : Nat) (rc : Y29) (ex0 : Y26) (ex1 : Y24) (ex2 : Y29) (x0 x1 x2 x3 : Int) (x4 : List VV) (x5 x6 : Nat) (x7 : List VV) (x8 x9 : Nat) (x10 : Bool) (x11 x12 x13 x14 x15 x16 x17 x18 x19 x20 : Int) : R := Bg_a_1 N_a_3 F rc ex0 ex1 ex2 x0 x1 x2 x3 x4 x5 x6 x7 x8 x9 x10 x11 x12 x13 x14 x15 x16 x17 x18 x19 x20
def L_a_1 (F : Nat) (ex0 : Y26) (ex1 : Y24) (ex2 : Y29) : Y30
  | 0, _, _, _, _, _, _, _, _, _, _, _, _, _, _, _, _, _, _, _, _, _ => none
  | n + 1, x0, x1, x2, x3, x4, x5, x6, x7, x8, x9, x10, x11, x12, x13, x14, x15, x16, x17, x18, x19, x20 => B_a_1 F (L_a_1 F ex0 ex1 ex2 n) ex0 ex1 ex2 x0 x1 x2 x3 x4 x5 x6 x7 x8 x9 x10 x11 x12 x13 x14 x15 x16 x17 x18 x19 x20
def W_a (F : Nat) : List LW := [⟨2, T_a_0, fun k q => L_a_0 F (K_law28_FuseBounded_0_0r k) (K_law28_FuseBounded_0_1e2 k) F (iI q 0) (iI q 1) (iI q 2) (iI q 3) (atC (nth q 4)) (iN q 5) (iN q 6) (atC (nth q 7)) (iN q 8) (iN q 9) (iB q 10) (iI q 11) (iI q 12) (iI q 13) (iI q 14) (iI q 15) (iI q 16) (iI q 17) (iI q 18) (iI q 19) (iI q 20) (iI q 21) (iI q 22) (iI q 23) (iI q 24) (iI q 25) (iI q 26) (iI q 27)⟩, ⟨0, T_a_1, fun k q => L_a_1 F (K_law28_FuseBounded_1_0r k) (K_law28_FuseBounded_1_1r k) (K_law28_FuseBounded_1_2e0 k) F (iI q 0) (iI q 1) (iI q 2) (iI q 3) (atC (nth q 4)) (iN q 5) (iN q 6) (atC (nth q 7)) (iN q 8) (iN q 9) (iB q 10) (iI q 11) (iI q 12) (iI q 13) (iI q 14) (iI q 15) (iI q 16) (iI q 17) (iI q 18) (iI q 19) (iI q 20)⟩]
def I_a (F : Nat) : Nat → VS → (Exit → VS → R) → R := tabI c_a (W_a F)
def WJ_a (F : Nat) : List LJ := [⟨23, 1, TN_a_0, fun k q => N_a_0 F (KN_law28_FuseBounded_0_0r k) (KN_law28_FuseBounded_0_1n k) (iI q 0) (iI q 1) (iI q 2) (iI q 3) (atC (nth q 4)) (iN q 5) (iN q 6) (atC (nth q 7)) (iN q 8) (iN q 9) (iB q 10) (iI q 11) (iI q 12) (iI q 13) (iI q 14) (iI q 15) (iI q 16) (iI q 17) (iI q 18) (iI q 19) (iI q 20) (iI q 21) (iI q 22) (iI q 23) (iI q 24) (iI q 25) (iI q 26)⟩, ⟨21, 1, TN_a_1, fun k q => N_a_1 F (KN_law28_FuseBounded_1_0r k) (KN_law28_FuseBounded_1_1r k) (KN_law28_FuseBounded_1_2n k) (iI q 0) (iI q 1) (iI q 2) (iI q 3) (atC (nth q 4)) (iN q 5) (iN q 6) (atC (nth q 7)) (iN q 8) (iN q 9) (iB q 10) (iI q 11) (iI q 12) (iI q 13) (iI q 14) (iI q 15) (iI q 16) (iI q 17) (iI q 18) (iI q 19) (iI q 20) (iI q 21) (iI q 22) (iI q 23) (iI q 24) (iI q 25) (iI q 26)⟩, ⟨14, 1, TN_a_2, fun k q => N_a_2 F (KN_law28_FuseBounded_2_0r k) (KN_law28_FuseBounded_2_1r k) (KN_law28_FuseBounded_2_2n k) (iI q 0) (iI q 1) (iI q 2) (iI q 3) (atC (nth q 4)) (iN q 5) (iN q 6) (atC (nth q 7)) (iN q 8) (iN q 9) (iB q 10) (iI q 11) (iI q 12) (iI q 13) (iI q 14) (iI q 15) (iI q 16) (iI q 17) (iI q 18) (iI q 19) (iI q 20) (iI q 21)⟩, ⟨11, 0, TN_a_3, fun k q => N_a_3 F (KN_law28_FuseBounded_3_0r k) (KN_law28_FuseBounded_3_1r k) (KN_law28_FuseBounded_3_2n k) (iI q 0) (iI q 1) (iI q 2) (iI q 3) (atC (nth q 4)) (iN q 5) (iN q 6) (atC (nth q 7)) (iN q 8) (iN q 9) (iB q 10) (iI q 11) (iI q 12) (iI q 13) (iI q 14) (iI q 15) (iI q 16) (iI q 17) (iI q 18) (iI q 19) (iI q 20)⟩]
def J_a (F : Nat) : Nat → Nat → VS → (Exit → VS → R) → R := tabJ (WJ_a F)
theorem lL_a_0 (F : Nat) (k : Exit → VS → R) : ∀ (n : Nat) (x0 x1 x2 x3 : Int) (x4 : List VV) (x5 x6 : Nat) (x7 : List VV) (x8 x9 : Nat) (x10 : Bool) (x11 x12 x13 x14 x15 x16 x17 x18 x19 x20 x21 x22 x23 x24 x25 x26 x27 : Int), iterC (codeL PP (S_a F) c_a (I_a F) (J_a F) (loopAt PP 5 1) 2) (headOf c_a 2) k n (fS T_a_0 [.i x0, .i x1, .i x2, .i x3, .c x4, .n x5, .n x6, .c x7, .n x8, .n x9, .b x10, .i x11, .i x12, .i x13, .i x14, .i x15, .i x16, .i x17, .i x18, .i x19, .i x20, .i x21, .i x22, .i x23, .i x24, .i x25, .i x26, .i x27]) = L_a_0 F (K_law28_FuseBounded_0_0r k) (K_law28_FuseBounded_0_1e2 k) n x0 x1 x2 x3 x4 x5 x6 x7 x8 x9 x10 x11 x12 x13 x14 x15 x16 x17 x18 x19 x20 x21 x22 x23 x24 x25 x26 x27
  | 0, _, _, _, _, _, _, _, _, _, _, _, _, _, _, _, _, _, _, _, _, _, _, _, _, _, _, _, _ => rfl
  | n + 1, x0, x1, x2, x3, x4, x5, x6, x7, x8, x9, x10, x11, x12, x13, x14, x15, x16, x17, x18, x19, x20, x21, x22, x23, x24, x25, x26, x27 => by
    have h0 : ∀ (ok_e : Nat → Bool) (o_e_0 : Nat → Bool) (ok_i : Y6) (o_i_0 : Y7) (ok_n : Y21) (o_n_0 : Y22) (o_n_1 : Y22) (o_n_2 : Y22) (o_n_3 : Y22) (o_n_4 : Y22) (ok_g : Nat → Int → Int → Bool) (o_g_0 : Nat → Int → Int → Int) (ok_m : Y14) (o_m_0 : Y27) (o_m_1 : Y27) (o_m_2 : Y27) (o_m_3 : Y27) (o_m_4 : Y27) (ok_j : Y8) (o_j_0 : Y9) (L_a_0 : Nat → (Y24) → (Y23) → Y25) (L_a_1 : Nat → (Y26) → (Y24) → (Y29) → Y30) (N_a_0 : Nat → (Y24) → (Y23) → Y26) (N_a_1 : Nat → (Y26) → (Y24) → (Y23) → Y26) (N_a_2 : Nat → (Y26) → (Y24) → (Y23) → Y28) (N_a_3 : Nat → (Y26) → (Y24) → (Y23) → Y29), iterC (codeL PP (words [(9, z_e ok_e o_e_0 F), (10, z_i ok_i o_i_0 F), (11, z_n ok_n o_n_0 o_n_1 o_n_2 o_n_3 o_n_4 F), (22, z_g ok_g o_g_0 F), (15, z_m ok_m o_m_0 o_m_1 o_m_2 o_m_3 o_m_4 F), (18, z_j ok_j o_j_0 F)]) c_a (tabI c_a [⟨2, T_a_0, fun k q => L_a_0 F (K_law28_FuseBounded_0_0r k) (K_law28_FuseBounded_0_1e2 k) F (iI q 0) (iI q 1) (iI q 2) (iI q 3) (atC (nth q 4)) (iN q 5) (iN q 6) (atC (nth q 7)) (iN q 8) (iN q 9) (iB q 10) (iI q 11) (iI q 12) (iI q 13) (iI q 14) (iI q 15) (iI q 16) (iI q 17) (iI q 18) (iI q 19) (iI q 20) (iI q 21) (iI q 22) (iI q 23) (iI q 24) (iI q 25) (iI q 26) (iI q 27)⟩, ⟨0, T_a_1, fun k q => L_a_1 F (K_law28_FuseBounded_1_0r k) (K_law28_FuseBounded_1_1r k) (K_law28_FuseBounded_1_2e0 k) F (iI q 0) (iI q 1) (iI q 2) (iI q 3) (atC (nth q 4)) (iN q 5) (iN q 6) (atC (nth q 7)) (iN q 8) (iN q 9) (iB q 10) (iI q 11) (iI q 12) (iI q 13) (iI q 14) (iI q 15) (iI q 16) (iI q 17) (iI q 18) (iI q 19) (iI q 20)⟩]) (tabJ [⟨23, 1, TN_a_0, fun k q => N_a_0 F (KN_law28_FuseBounded_0_0r k) (KN_law28_FuseBounded_0_1n k) (iI q 0) (iI q 1) (iI q 2) (iI q 3) (atC (nth q 4)) (iN q 5) (iN q 6) (atC (nth q 7)) (iN q 8) (iN q 9) (iB q 10) (iI q 11) (iI q 12) (iI q 13) (iI q 14) (iI q 15) (iI q 16) (iI q 17) (iI q 18) (iI q 19) (iI q 20) (iI q 21) (iI q 22) (iI q 23) (iI q 24) (iI q 25) (iI q 26)⟩, ⟨21, 1, TN_a_1, fun k q => N_a_1 F (KN_law28_FuseBounded_1_0r k) (KN_law28_FuseBounded_1_1r k) (KN_law28_FuseBounded_1_2n k) (iI q 0) (iI q 1) (iI q 2) (iI q 3) (atC (nth q 4)) (iN q 5) (iN q 6) (atC (nth q 7)) (iN q 8) (iN q 9) (iB q 10) (iI q 11) (iI q 12) (iI q 13) (iI q 14) (iI q 15) (iI q 16) (iI q 17) (iI q 18) (iI q 19) (iI q 20) (iI q 21) (iI q 22) (iI q 23) (iI q 24) (iI q 25) (iI q 26)⟩, ⟨14, 1, TN_a_2, fun k q => N_a_2 F (KN_law28_FuseBounded_2_0r k) (KN_law28_FuseBounded_2_1r k) (KN_law28_FuseBounded_2_2n k) (iI q 0) (iI q 1) (iI q 2) (iI q 3) (atC (nth q 4)) (iN q 5) (iN q 6) (atC (nth q 7)) (iN q 8) (iN q 9) (iB q 10) (iI q 11) (iI q 12) (iI q 13) (iI q 14) (iI q 15) (iI q 16) (iI q 17) (iI q 18) (iI q 19) (iI q 20) (iI q 21)⟩, ⟨11, 0, TN_a_3, fun k q => N_a_3 F (KN_law28_FuseBounded_3_0r k) (KN_law28_FuseBounded_3_1r k) (KN_law28_FuseBounded_3_2n k) (iI q 0) (iI q 1) (iI q 2) (iI q 3) (atC (nth q 4)) (iN q 5) (iN q 6) (atC (nth q 7)) (iN q 8) (iN q 9) (iB q 10) (iI q 11) (iI q 12) (iI q 13) (iI q 14) (iI q 15) (iI q 16) (iI q 17) (iI q 18) (iI q 19) (iI q 20)⟩]) (loopAt PP 5 1) 2) (headOf c_a 2) k (n + 1) (fS T_a_0 [.i x0, .i x1, .i x2, .i x3, .c x4, .n x5, .n x6, .c x7, .n x8, .n x9, .b x10, .i x11, .i x12, .i x13, .i x14, .i x15, .i x16, .i x17, .i x18, .i x19, .i x20, .i x21, .i x22, .i x23, .i x24, .i x25, .i x26, .i x27]) = (Bg_a_0 F) (fun (y0 y1 y2 y3 : Int) (y4 : List VV) (y5 y6 : Nat) (y7 : List VV) (y8 y9 : Nat) (y10 : Bool) (y11 y12 y13 y14 y15 y16 y17 y18 y19 y20 y21 y22 y23 y24 y25 y26 y27 : Int) => iterC (codeL PP (words [(9, z_e ok_e o_e_0 F), (10, z_i ok_i o_i_0 F), (11, z_n ok_n o_n_0 o_n_1 o_n_2 o_n_3 o_n_4 F), (22, z_g ok_g o_g_0 F), (15, z_m ok_m o_m_0 o_m_1 o_m_2 o_m_3 o_m_4 F), (18, z_j ok_j o_j_0 F)]) c_a (tabI c_a [⟨2, T_a_0, fun k q => L_a_0 F (K_law28_FuseBounded_0_0r k) (K_law28_FuseBounded_0_1e2 k) F (iI q 0) (iI q 1) (iI q 2) (iI q 3) (atC (nth q 4)) (iN q 5) (iN q 6) (atC (nth q 7)) (iN q 8) (iN q 9) (iB q 10) (iI q 11) (iI q 12) (iI q 13) (iI q 14) (iI q 15) (iI q 16) (iI q 17) (iI q 18) (iI q 19) (iI q 20) (iI q 21) (iI q 22) (iI q 23) (iI q 24) (iI q 25) (iI q 26) (iI q 27)⟩, ⟨0, T_a_1, fun k q => L_a_1 F (K_law28_FuseBounded_1_0r k) (K_law28_FuseBounded_1_1r k) (K_law28_FuseBounded_1_2e0 k) F (iI q 0) (iI q 1) (iI q 2) (iI q 3) (atC (nth q 4)) (iN q 5) (iN q 6) (atC (nth q 7)) (iN q 8) (iN q 9) (iB q 10) (iI q 11) (iI q 12) (iI q 13) (iI q 14) (iI q 15) (iI q 16) (iI q 17) (iI q 18) (iI q 19) (iI q 20)⟩]) (tabJ [⟨23, 1, TN_a_0, fun k q => N_a_0 F (KN_law28_FuseBounded_0_0r k) (KN_law28_FuseBounded_0_1n k) (iI q 0) (iI q 1) (iI q 2) (iI q 3) (atC (nth q 4)) (iN q 5) (iN q 6) (atC (nth q 7)) (iN q 8) (iN q 9) (iB q 10) (iI q 11) (iI q 12) (iI q 13) (iI q 14) (iI q 15) (iI q 16) (iI q 17) (iI q 18) (iI q 19) (iI q 20) (iI q 21) (iI q 22) (iI q 23) (iI q 24) (iI q 25) (iI q 26)⟩, ⟨21, 1, TN_a_1, fun k q => N_a_1 F (KN_law28_FuseBounded_1_0r k) (KN_law28_FuseBounded_1_1r k) (KN_law28_FuseBounded_1_2n k) (iI q 0) (iI q 1) (iI q 2) (iI q 3) (atC (nth q 4)) (iN q 5) (iN q 6) (atC (nth q 7)) (iN q 8) (iN q 9) (iB q 10) (iI q 11) (iI q 12) (iI q 13) (iI q 14) (iI q 15) (iI q 16) (iI q 17) (iI q 18) (iI q 19) (iI q 20) (iI q 21) (iI q 22) (iI q 23) (iI q 24) (iI q 25) (iI q 26)⟩, ⟨14, 1, TN_a_2, fun k q => N_a_2 F (KN_law28_FuseBounded_2_0r k) (KN_law28_FuseBounded_2_1r k) (KN_law28_FuseBounded_2_2n k) (iI q 0) (iI q 1) (iI q 2) (iI q 3) (atC (nth q 4)) (iN q 5) (iN q 6) (atC (nth q 7)) (iN q 8) (iN q 9) (iB q 10) (iI q 11) (iI q 12) (iI q 13) (iI q 14) (iI q 15) (iI q 16) (iI q 17) (iI q 18) (iI q 19) (iI q 20) (iI q 21)⟩, ⟨11, 0, TN_a_3, fun k q => N_a_3 F (KN_law28_FuseBounded_3_0r k) (KN_law28_FuseBounded_3_1r k) (KN_law28_FuseBounded_3_2n k) (iI q 0) (iI q 1) (iI q 2) (iI q 3) (atC (nth q 4)) (iN q 5) (iN q 6) (atC (nth q 7)) (iN q 8) (iN q 9) (iB q 10) (iI q 11) (iI q 12) (iI q 13) (iI q 14) (iI q 15) (iI q 16) (iI q 17) (iI q 18) (iI q 19) (iI q 20)⟩]) (loopAt PP 5 1) 2) (headOf c_a 2) k n (fS T_a_0 [.i y0, .i y1, .i y2, .i y3, .c y4, .n y5, .n y6, .c y7, .n y8, .n y9, .b y10, .i y11, .i y12, .i y13, .i y14, .i y15, .i y16, .i y17, .i y18, .i y19, .i y20, .i y21, .i y22, .i y23, .i y24, .i y25, .i y26, .i y27])) (K_law28_FuseBounded_0_0r k) (K_law28_FuseBounded_0_1e2 k) x0 x1 x2 x3 x4 x5 x6 x7 x8 x9 x10 x11 x12 x13 x14 x15 x16 x17 x18 x19 x20 x21 x22 x23 x24 x25 x26 x27 := by
      intros
      kernel_rfl
    have h : iterC (codeL PP (S_a F) c_a (I_a F) (J_a F) (loopAt PP 5 1) 2) (headOf c_a 2) k (n + 1) (fS T_a_0 [.i x0, .i x1, .i x2, .i x3, .c x4, .n x5, .n x6, .c x7, .n x8, .n x9, .b x10, .i x11, .i x12, .i x13, .i x14, .i x15, .i x16, .i x17, .i x18, .i x19, .i x20, .i x21, .i x22, .i x23, .i x24, .i x25, .i x26, .i x27]) = B_a_0 F (fun (y0 y1 y2 y3 : Int) (y4 : List VV) (y5 y6 : Nat) (y7 : List VV) (y8 y9 : Nat) (y10 : Bool) (y11 y12 y13 y14 y15 y16 y17 y18 y19 y20 y21 y22 y23 y24 y25 y26 y27 : Int) => iterC (codeL PP (S_a F) c_a (I_a F) (J_a F) (loopAt PP 5 1) 2) (headOf c_a 2) k n (fS T_a_0 [.i y0, .i y1, .i y2, .i y3, .c y4, .n y5, .n y6, .c y7, .n y8, .n y9, .b y10, .i y11, .i y12, .i y13, .i y14, .i y15, .i y16, .i y17, .i y18, .i y19, .i y20, .i y21, .i y22, .i y23, .i y24, .i y25, .i y26, .i y27])) (K_law28_FuseBounded_0_0r k) (K_law28_FuseBounded_0_1e2 k) x0 x1 x2 x3 x4 x5 x6 x7 x8 x9 x10 x11 x12 x13 x14 x15 x16 x17 x18 x19 x20 x21 x22 x23 x24 x25 x26 x27 := (h0 ok_e o_e_0 ok_i o_i_0 ok_n o_n_0 o_n_1 o_n_2 o_n_3 o_n_4 ok_g o_g_0 ok_m o_m_0 o_m_1 o_m_2 o_m_3 o_m_4 ok_j o_j_0 L_a_0 L_a_1 N_a_0 N_a_1 N_a_2 N_a_3).trans (by kernel_rfl)
    rw [h]
    simp only [lL_a_0 F k n]
    rfl
theorem nN_a_0 (F : Nat) (k : Exit → VS → R) (x0 x1 x2 x3 : Int) (x4 : List VV) (x5 x6 : Nat) (x7 : List VV) (x8 x9 : Nat) (x10 : Bool) (x11 x12 x13 x14 x15 x16 x17 x18 x19 x20 x21 x22 x23 x24 x25 x26 : Int) : codeL PP (S_a F) c_a (I_a F) (J_a F) (joinAt PP c_a 5 3) 1 (fS TN_a_0 [.i x0, .i x1, .i x2, .i x3, .c x4, .n x5, .n x6, .c x7, .n x8, .n x9, .b x10, .i x11, .i x12, .i x13, .i x14, .i x15, .i x16, .i x17, .i x18, .i x19, .i x20, .i x21, .i x22, .i x23, .i x24, .i x25, .i x26]) k = N_a_0 F (KN_law28_FuseBounded_0_0r k) (KN_law28_FuseBounded_0_1n k) x0 x1 x2 x3 x4 x5 x6 x7 x8 x9 x10 x11 x12 x13 x14 x15 x16 x17 x18 x19 x20 x21 x22 x23 x24 x25 x26 := by
  have h0 : ∀ (ok_e : Nat → Bool) (o_e_0 : Nat → Bool) (ok_i : Y6) (o_i_0 : Y7) (ok_n : Y21) (o_n_0 : Y22) (o_n_1 : Y22) (o_n_2 : Y22) (o_n_3 : Y22) (o_n_4 : Y22) (ok_g : Nat → Int → Int → Bool) (o_g_0 : Nat → Int → Int → Int) (ok_m : Y14) (o_m_0 : Y27) (o_m_1 : Y27) (o_m_2 : Y27) (o_m_3 : Y27) (o_m_4 : Y27) (ok_j : Y8) (o_j_0 : Y9) (L_a_0 : Nat → (Y24) → (Y23) → Y25) (L_a_1 : Nat → (Y26) → (Y24) → (Y29) → Y30) (N_a_0 : Nat → (Y24) → (Y23) → Y26) (N_a_1 : Nat → (Y26) → (Y24) → (Y23) → Y26) (N_a_2 : Nat → (Y26) → (Y24) → (Y23) → Y28) (N_a_3 : Nat → (Y26) → (Y24) → (Y23) → Y29), codeL PP (words [(9, z_e ok_e o_e_0 F), (10, z_i ok_i o_i_0 F), (11, z_n ok_n o_n_0 o_n_1 o_n_2 o_n_3 o_n_4 F), (22, z_g ok_g o_g_0 F), (15, z_m ok_m o_m_0 o_m_1 o_m_2 o_m_3 o_m_4 F), (18, z_j ok_j o_j_0 F)]) c_a (tabI c_a [⟨2, T_a_0, fun k q => L_a_0 F (K_law28_FuseBounded_0_0r k) (K_law28_FuseBounded_0_1e2 k) F (iI q 0) (iI q 1) (iI q 2) (iI q 3) (atC (nth q 4)) (iN q 5) (iN q 6) (atC (nth q 7)) (iN q 8) (iN q 9) (iB q 10) (iI q 11) (iI q 12) (iI q 13) (iI q 14) (iI q 15) (iI q 16) (iI q 17) (iI q 18) (iI q 19) (iI q 20) (iI q 21) (iI q 22) (iI q 23) (iI q 24) (iI q 25) (iI q 26) (iI q 27)⟩, ⟨0, T_a_1, fun k q => L_a_1 F (K_law28_FuseBounded_1_0r k) (K_law28_FuseBounded_1_1r k) (K_law28_FuseBounded_1_2e0 k) F (iI q 0) (iI q 1) (iI q 2) (iI q 3) (atC (nth q 4)) (iN q 5) (iN q 6) (atC (nth q 7)) (iN q 8) (iN q 9) (iB q 10) (iI q 11) (iI q 12) (iI q 13) (iI q 14) (iI q 15) (iI q 16) (iI q 17) (iI q 18) (iI q 19) (iI q 20)⟩]) (tabJ [⟨23, 1, TN_a_0, fun k q => N_a_0 F (KN_law28_FuseBounded_0_0r k) (KN_law28_FuseBounded_0_1n k) (iI q 0) (iI q 1) (iI q 2) (iI q 3) (atC (nth q 4)) (iN q 5) (iN q 6) (atC (nth q 7)) (iN q 8) (iN q 9) (iB q 10) (iI q 11) (iI q 12) (iI q 13) (iI q 14) (iI q 15) (iI q 16) (iI q 17) (iI q 18) (iI q 19) (iI q 20) (iI q 21) (iI q 22) (iI q 23) (iI q 24) (iI q 25) (iI q 26)⟩, ⟨21, 1, TN_a_1, fun k q => N_a_1 F (KN_law28_FuseBounded_1_0r k) (KN_law28_FuseBounded_1_1r k) (KN_law28_FuseBounded_1_2n k) (iI q 0) (iI q 1) (iI q 2) (iI q 3) (atC (nth q 4)) (iN q 5) (iN q 6) (atC (nth q 7)) (iN q 8) (iN q 9) (iB q 10) (iI q 11) (iI q 12) (iI q 13) (iI q 14) (iI q 15) (iI q 16) (iI q 17) (iI q 18) (iI q 19) (iI q 20) (iI q 21) (iI q 22) (iI q 23) (iI q 24) (iI q 25) (iI q 26)⟩, ⟨14, 1, TN_a_2, fun k q => N_a_2 F (KN_law28_FuseBounded_2_0r k) (KN_law28_FuseBounded_2_1r k) (KN_law28_FuseBounded_2_2n k) (iI q 0) (iI q 1) (iI q 2) (iI q 3) (atC (nth q 4)) (iN q 5) (iN q 6) (atC (nth q 7)) (iN q 8) (iN q 9) (iB q 10) (iI q 11) (iI q 12) (iI q 13) (iI q 14) (iI q 15) (iI q 16) (iI q 17) (iI q 18) (iI q 19) (iI q 20) (iI q 21)⟩, ⟨11, 0, TN_a_3, fun k q => N_a_3 F (KN_law28_FuseBounded_3_0r k) (KN_law28_FuseBounded_3_1r k) (KN_law28_FuseBounded_3_2n k) (iI q 0) (iI q 1) (iI q 2) (iI q 3) (atC (nth q 4)) (iN q 5) (iN q 6) (atC (nth q 7)) (iN q 8) (iN q 9) (iB q 10) (iI q 11) (iI q 12) (iI q 13) (iI q 14) (iI q 15) (iI q 16) (iI q 17) (iI q 18) (iI q 19) (iI q 20)⟩]) (joinAt PP c_a 5 3) 1 (fS TN_a_0 [.i x0, .i x1, .i x2, .i x3, .c x4, .n x5, .n x6, .c x7, .n x8, .n x9, .b x10, .i x11, .i x12, .i x13, .i x14, .i x15, .i x16, .i x17, .i x18, .i x19, .i x20, .i x21, .i x22, .i x23, .i x24, .i x25, .i x26]) k = (fun (ex0 : Y24) (ex1 : Y23) => Ng_a_0 L_a_0 F ex0 ex1 x0 x1 x2 x3 x4 x5 x6 x7 x8 x9 x10 x11 x12 x13 x14 x15 x16 x17 x18 x19 x20 x21 x22 x23 x24 x25 x26) (KN_law28_FuseBounded_0_0r k) (KN_law28_FuseBounded_0_1n k) := by
    intros
    kernel_rfl
  exact (h0 ok_e o_e_0 ok_i o_i_0 ok_n o_n_0 o_n_1 o_n_2 o_n_3 o_n_4 ok_g o_g_0 ok_m o_m_0 o_m_1 o_m_2 o_m_3 o_m_4 ok_j o_j_0 L_a_0 L_a_1 N_a_0 N_a_1 N_a_2 N_a_3).trans (by kernel_rfl)
theorem nN_a_1 (F : Nat) (k : Exit → VS → R) (x0 x1 x2 x3 : Int) (x4 : List VV) (x5 x6 : Nat) (x7 : List VV) (x8 x9 : Nat) (x10 : Bool) (x11 x12 x13 x14 x15 x16 x17 x18 x19 x20 x21 x22 x23 x24 x25 x26 : Int) : codeL PP (S_a F) c_a (I_a F) (J_a F) (joinAt PP c_a 5 2) 1 (fS TN_a_1 [.i x0, .i x1, .i x2, .i x3, .c x4, .n x5, .n x6, .c x7, .n x8, .n x9, .b x10, .i x11, .i x12, .i x13, .i x14, .i x15, .i x16, .i x17, .i x18, .i x19, .i x20, .i x21, .i x22, .i x23, .i x24, .i x25, .i x26]) k = N_a_1 F (KN_law28_FuseBounded_1_0r k) (KN_law28_FuseBounded_1_1r k) (KN_law28_FuseBounded_1_2n k) x0 x1 x2 x3 x4 x5 x6 x7 x8 x9 x10 x11 x12 x13 x14 x15 x16 x17 x18 x19 x20 x21 x22 x23 x24 x25 x26 := by
  have h0 : ∀ (ok_e : Nat → Bool) (o_e_0 : Nat → Bool) (ok_i : Y6) (o_i_0 : Y7) (ok_n : Y21) (o_n_0 : Y22) (o_n_1 : Y22) (o_n_2 : Y22) (o_n_3 : Y22) (o_n_4 : Y22) (ok_g : Nat → Int → Int → Bool) (o_g_0 : Nat → Int → Int → Int) (ok_m : Y14) (o_m_0 : Y27) (o_m_1 : Y27) (o_m_2 : Y27) (o_m_3 : Y27) (o_m_4 : Y27) (ok_j : Y8) (o_j_0 : Y9) (L_a_0 : Nat → (Y24) → (Y23) → Y25) (L_a_1 : Nat → (Y26) → (Y24) → (Y29) → Y30) (N_a_0 : Nat → (Y24) → (Y23) → Y26) (N_a_1 : Nat → (Y26) → (Y24) → (Y23) → Y26) (N_a_2 : Nat → (Y26) → (Y24) → (Y23) → Y28) (N_a_3 : Nat → (Y26) → (Y24) → (Y23) → Y29), codeL PP (words [(9, z_e ok_e o_e_0 F), (10, z_i ok_i o_i_0 F), (11, z_n ok_n o_n_0 o_n_1 o_n_2 o_n_3 o_n_4 F), (22, z_g ok_g o_g_0 F), (15, z_m ok_m o_m_0 o_m_1 o_m_2 o_m_3 o_m_4 F), (18, z_j ok_j o_j_0 F)]) c_a (tabI c_a [⟨2, T_a_0, fun k q => L_a_0 F (K_law28_FuseBounded_0_0r k) (K_law28_FuseBounded_0_1e2 k) F (iI q 0) (iI q 1) (iI q 2) (iI q 3) (atC (nth q 4)) (iN q 5) (iN q 6) (atC (nth q 7)) (iN q 8) (iN q 9) (iB q 10) (iI q 11) (iI q 12) (iI q 13) (iI q 14) (iI q 15) (iI q 16) (iI q 17) (iI q 18) (iI q 19) (iI q 20) (iI q 21) (iI q 22) (iI q 23) (iI q 24) (iI q 25) (iI q 26) (iI q 27)⟩, ⟨0, T_a_1, fun k q => L_a_1 F (K_law28_FuseBounded_1_0r k) (K_law28_FuseBounded_1_1r k) (K_law28_FuseBounded_1_2e0 k) F (iI q 0) (iI q 1) (iI q 2) (iI q 3) (atC (nth q 4)) (iN q 5) (iN q 6) (atC (nth q 7)) (iN q 8) (iN q 9) (iB q 10) (iI q 11) (iI q 12) (iI q 13) (iI q 14) (iI q 15) (iI q 16) (iI q 17) (iI q 18) (iI q 19) (iI q 20)⟩]) (tabJ [⟨23, 1, TN_a_0, fun k q => N_a_0 F (KN_law28_FuseBounded_0_0r k) (KN_law28_FuseBounded_0_1n k) (iI q 0) (iI q 1) (iI q 2) (iI q 3) (atC (nth q 4)) (iN q 5) (iN q 6) (atC (nth q 7)) (iN q 8) (iN q 9) (iB q 10) (iI q 11) (iI q 12) (iI q 13) (iI q 14) (iI q 15) (iI q 16) (iI q 17) (iI q 18) (iI q 19) (iI q 20) (iI q 21) (iI q 22) (iI q 23) (iI q 24) (iI q 25) (iI q 26)⟩, ⟨21, 1, TN_a_1, fun k q => N_a_1 F (KN_law28_FuseBounded_1_0r k) (KN_law28_FuseBounded_1_1r k) (KN_law28_FuseBounded_1_2n k) (iI q 0) (iI q 1) (iI q 2) (iI q 3) (atC (nth q 4)) (iN q 5) (iN q 6) (atC (nth q 7)) (iN q 8) (iN q 9) (iB q 10) (iI q 11) (iI q 12) (iI q 13) (iI q 14) (iI q 15) (iI q 16) (iI q 17) (iI q 18) (iI q 19) (iI q 20) (iI q 21) (iI q 22) (iI q 23) (iI q 24) (iI q 25) (iI q 26)⟩, ⟨14, 1, TN_a_2, fun k q => N_a_2 F (KN_law28_FuseBounded_2_0r k) (KN_law28_FuseBounded_2_1r k) (KN_law28_FuseBounded_2_2n k) (iI q 0) (iI q 1) (iI q 2) (iI q 3) (atC (nth q 4)) (iN q 5) (iN q 6) (atC (nth q 7)) (iN q 8) (iN q 9) (iB q 10) (iI q 11) (iI q 12) (iI q 13) (iI q 14) (iI q 15) (iI q 16) (iI q 17) (iI q 18) (iI q 19) (iI q 20) (iI q 21)⟩, ⟨11, 0, TN_a_3, fun k q => N_a_3 F (KN_law28_FuseBounded_3_0r k) (KN_law28_FuseBounded_3_1r k) (KN_law28_FuseBounded_3_2n k) (iI q 0) (iI q 1) (iI q 2) (iI q 3) (atC (nth q 4)) (iN q 5) (iN q 6) (atC (nth q 7)) (iN q 8) (iN q 9) (iB q 10) (iI q 11) (iI q 12) (iI q 13) (iI q 14) (iI q 15) (iI q 16) (iI q 17) (iI q 18) (iI q 19) (iI q 20)⟩]) (joinAt PP c_a 5 2) 1 (fS TN_a_1 [.i x0, .i x1, .i x2, .i x3, .c x4, .n x5, .n x6, .c x7, .n x8, .n x9, .b x10, .i x11, .i x12, .i x13, .i x14, .i x15, .i x16, .i x17, .i x18, .i x19, .i x20, .i x21, .i x22, .i x23, .i x24, .i x25, .i x26]) k = (fun (ex0 : Y26) (ex1 : Y24) (ex2 : Y23) => Ng_a_1 ok_j o_j_0 N_a_0 F ex0 ex1 ex2 x0 x1 x2 x3 x4 x5 x6 x7 x8 x9 x10 x11 x12 x13 x14 x15 x16 x17 x18 x19 x20 x21 x22 x23 x24 x25 x26) (KN_law28_FuseBounded_1_0r k) (KN_law28_FuseBounded_1_1r k) (KN_law28_FuseBounded_1_2n k) := by
    intros
    kernel_rfl
  exact (h0 ok_e o_e_0 ok_i o_i_0 ok_n o_n_0 o_n_1 o_n_2 o_n_3 o_n_4 ok_g o_g_0 ok_m o_m_0 o_m_1 o_m_2 o_m_3 o_m_4 ok_j o_j_0 L_a_0 L_a_1 N_a_0 N_a_1 N_a_2 N_a_3).trans (by kernel_rfl)
theorem nN_a_2 (F : Nat) (k : Exit → VS → R) (x0 x1 x2 x3 : Int) (x4 : List VV) (x5 x6 : Nat) (x7 : List VV) (x8 x9 : Nat) (x10 : Bool) (x11 x12 x13 x14 x15 x16 x17 x18 x19 x20 x21 : Int) : codeL PP (S_a F) c_a (I_a F) (J_a F) (joinAt PP c_a 5 1) 1 (fS TN_a_2 [.i x0, .i x1, .i x2, .i x3, .c x4, .n x5, .n x6, .c x7, .n x8, .n x9, .b x10, .i x11, .i x12, .i x13, .i x14, .i x15, .i x16, .i x17, .i x18, .i x19, .i x20, .i x21]) k = N_a_2 F (KN_law28_FuseBounded_2_0r k) (KN_law28_FuseBounded_2_1r k) (KN_law28_FuseBounded_2_2n k) x0 x1 x2 x3 x4 x5 x6 x7 x8 x9 x10 x11 x12 x13 x14 x15 x16 x17 x18 x19 x20 x21 := by
  have h0 : ∀ (ok_e : Nat → Bool) (o_e_0 : Nat → Bool) (ok_i : Y6) (o_i_0 : Y7) (ok_n : Y21) (o_n_0 : Y22) (o_n_1 : Y22) (o_n_2 : Y22) (o_n_3 : Y22) (o_n_4 : Y22) (ok_g : Nat → Int → Int → Bool) (o_g_0 : Nat → Int → Int → Int) (ok_m : Y14) (o_m_0 : Y27) (o_m_1 : Y27) (o_m_2 : Y27) (o_m_3 : Y27) (o_m_4 : Y27) (ok_j : Y8) (o_j_0 : Y9) (L_a_0 : Nat → (Y24) → (Y23) → Y25) (L_a_1 : Nat → (Y26) → (Y24) → (Y29) → Y30) (N_a_0 : Nat → (Y24) → (Y23) → Y26) (N_a_1 : Nat → (Y26) → (Y24) → (Y23) → Y26) (N_a_2 : Nat → (Y26) → (Y24) → (Y23) → Y28) (N_a_3 : Nat → (Y26) → (Y24) → (Y23) → Y29), codeL PP (words [(9, z_e ok_e o_e_0 F), (10, z_i ok_i o_i_0 F), (11, z_n ok_n o_n_0 o_n_1 o_n_2 o_n_3 o_n_4 F), (22, z_g ok_g o_g_0 F), (15, z_m ok_m o_m_0 o_m_1 o_m_2 o_m_3 o_m_4 F), (18, z_j ok_j o_j_0 F)]) c_a (tabI c_a [⟨2, T_a_0, fun k q => L_a_0 F (K_law28_FuseBounded_0_0r k) (K_law28_FuseBounded_0_1e2 k) F (iI q 0) (iI q 1) (iI q 2) (iI q 3) (atC (nth q 4)) (iN q 5) (iN q 6) (atC (nth q 7)) (iN q 8) (iN q 9) (iB q 10) (iI q 11) (iI q 12) (iI q 13) (iI q 14) (iI q 15) (iI q 16) (iI q 17) (iI q 18) (iI q 19) (iI q 20) (iI q 21) (iI q 22) (iI q 23) (iI q 24) (iI q 25) (iI q 26) (iI q 27)⟩, ⟨0, T_a_1, fun k q => L_a_1 F (K_law28_FuseBounded_1_0r k) (K_law28_FuseBounded_1_1r k) (K_law28_FuseBounded_1_2e0 k) F (iI q 0) (iI q 1) (iI q 2) (iI q 3) (atC (nth q 4)) (iN q 5) (iN q 6) (atC (nth q 7)) (iN q 8) (iN q 9) (iB q 10) (iI q 11) (iI q 12) (iI q 13) (iI q 14) (iI q 15) (iI q 16) (iI q 17) (iI q 18) (iI q 19) (iI q 20)⟩]) (tabJ [⟨23, 1, TN_a_0, fun k q => N_a_0 F (KN_law28_FuseBounded_0_0r k) (KN_law28_FuseBounded_0_1n k) (iI q 0) (iI q 1) (iI q 2) (iI q 3) (atC (nth q 4)) (iN q 5) (iN q 6) (atC (nth q 7)) (iN q 8) (iN q 9) (iB q 10) (iI q 11) (iI q 12) (iI q 13) (iI q 14) (iI q 15) (iI q 16) (iI q 17) (iI q 18) (iI q 19) (iI q 20) (iI q 21) (iI q 22) (iI q 23) (iI q 24) (iI q 25) (iI q 26)⟩, ⟨21, 1, TN_a_1, fun k q => N_a_1 F (KN_law28_FuseBounded_1_0r k) (KN_law28_FuseBounded_1_1r k) (KN_law28_FuseBounded_1_2n k) (iI q 0) (iI q 1) (iI q 2) (iI q 3) (atC (nth q 4)) (iN q 5) (iN q 6) (atC (nth q 7)) (iN q 8) (iN q 9) (iB q 10) (iI q 11) (iI q 12) (iI q 13) (iI q 14) (iI q 15) (iI q 16) (iI q 17) (iI q 18) (iI q 19) (iI q 20) (iI q 21) (iI q 22) (iI q 23) (iI q 24) (iI q 25) (iI q 26)⟩, ⟨14, 1, TN_a_2, fun k q => N_a_2 F (KN_law28_FuseBounded_2_0r k) (KN_law28_FuseBounded_2_1r k) (KN_law28_FuseBounded_2_2n k) (iI q 0) (iI q 1) (iI q 2) (iI q 3) (atC (nth q 4)) (iN q 5) (iN q 6) (atC (nth q 7)) (iN q 8) (iN q 9) (iB q 10) (iI q 11) (iI q 12) (iI q 13) (iI q 14) (iI q 15) (iI q 16) (iI q 17) (iI q 18) (iI q 19) (iI q 20) (iI q 21)⟩, ⟨11, 0, TN_a_3, fun k q => N_a_3 F (KN_law28_FuseBounded_3_0r k) (KN_law28_FuseBounded_3_1r k) (KN_law28_FuseBounded_3_2n k) (iI q 0) (iI q 1) (iI q 2) (iI q 3) (atC (nth q 4)) (iN q 5) (iN q 6) (atC (nth q 7)) (iN q 8) (iN q 9) (iB q 10) (iI q 11) (iI q 12) (iI q 13) (iI q 14) (iI q 15) (iI q 16) (iI q 17) (iI q 18) (iI q 19) (iI q 20)⟩]) (joinAt PP c_a 5 1) 1 (fS TN_a_2 [.i x0, .i x1, .i x2, .i x3, .c x4, .n x5, .n x6, .c x7, .n x8, .n x9, .b x10, .i x11, .i x12, .i x13, .i x14, .i x15, .i x16, .i x17, .i x18, .i x19, .i x20, .i x21]) k = (fun (ex0 : Y26) (ex1 : Y24) (ex2 : Y23) => Ng_a_2 ok_n o_n_0 o_n_1 o_n_2 o_n_3 o_n_4 ok_m o_m_0 o_m_1 o_m_2 o_m_3 o_m_4 N_a_1 F ex0 ex1 ex2 x0 x1 x2 x3 x4 x5 x6 x7 x8 x9 x10 x11 x12 x13 x14 x15 x16 x17 x18 x19 x20 x21) (KN_law28_FuseBounded_2_0r k) (KN_law28_FuseBounded_2_1r k) (KN_law28_FuseBounded_2_2n k) := by
    intros
    kernel_rfl
  exact (h0 ok_e o_e_0 ok_i o_i_0 ok_n o_n_0 o_n_1 o_n_2 o_n_3 o_n_4 ok_g o_g_0 ok_m o_m_0 o_m_1 o_m_2 o_m_3 o_m_4 ok_j o_j_0 L_a_0 L_a_1 N_a_0 N_a_1 N_a_2 N_a_3).trans (by kernel_rfl)
theorem nN_a_3 (F : Nat) (k : Exit → VS → R) (x0 x1 x2 x3 : Int) (x4 : List VV) (x5 x6 : Nat) (x7 : List VV) (x8 x9 : Nat) (x10 : Bool) (x11 x12 x13 x14 x15 x16 x17 x18 x19 x20 : Int) : codeL PP (S_a F) c_a (I_a F) (J_a F) (joinAt PP c_a 5 0) 0 (fS TN_a_3 [.i x0, .i x1, .i x2, .i x3, .c x4, .n x5, .n x6, .c x7, .n x8, .n x9, .b x10, .i x11, .i x12, .i x13, .i x14, .i x15, .i x16, .i x17, .i x18, .i x19, .i x20]) k = N_a_3 F (KN_law28_FuseBounded_3_0r k) (KN_law28_FuseBounded_3_1r k) (KN_law28_FuseBounded_3_2n k) x0 x1 x2 x3 x4 x5 x6 x7 x8 x9 x10 x11 x12 x13 x14 x15 x16 x17 x18 x19 x20 := by
  have h0 : ∀ (ok_e : Nat → Bool) (o_e_0 : Nat → Bool) (ok_i : Y6) (o_i_0 : Y7) (ok_n : Y21) (o_n_0 : Y22) (o_n_1 : Y22) (o_n_2 : Y22) (o_n_3 : Y22) (o_n_4 : Y22) (ok_g : Nat → Int → Int → Bool) (o_g_0 : Nat → Int → Int → Int) (ok_m : Y14) (o_m_0 : Y27) (o_m_1 : Y27) (o_m_2 : Y27) (o_m_3 : Y27) (o_m_4 : Y27) (ok_j : Y8) (o_j_0 : Y9) (L_a_0 : Nat → (Y24) → (Y23) → Y25) (L_a_1 : Nat → (Y26) → (Y24) → (Y29) → Y30) (N_a_0 : Nat → (Y24) → (Y23) → Y26) (N_a_1 : Nat → (Y26) → (Y24) → (Y23) → Y26) (N_a_2 : Nat → (Y26) → (Y24) → (Y23) → Y28) (N_a_3 : Nat → (Y26) → (Y24) → (Y23) → Y29), codeL PP (words [(9, z_e ok_e o_e_0 F), (10, z_i ok_i o_i_0 F), (11, z_n ok_n o_n_0 o_n_1 o_n_2 o_n_3 o_n_4 F), (22, z_g ok_g o_g_0 F), (15, z_m ok_m o_m_0 o_m_1 o_m_2 o_m_3 o_m_4 F), (18, z_j ok_j o_j_0 F)]) c_a (tabI c_a [⟨2, T_a_0, fun k q => L_a_0 F (K_law28_FuseBounded_0_0r k) (K_law28_FuseBounded_0_1e2 k) F (iI q 0) (iI q 1) (iI q 2) (iI q 3) (atC (nth q 4)) (iN q 5) (iN q 6) (atC (nth q 7)) (iN q 8) (iN q 9) (iB q 10) (iI q 11) (iI q 12) (iI q 13) (iI q 14) (iI q 15) (iI q 16) (iI q 17) (iI q 18) (iI q 19) (iI q 20) (iI q 21) (iI q 22) (iI q 23) (iI q 24) (iI q 25) (iI q 26) (iI q 27)⟩, ⟨0, T_a_1, fun k q => L_a_1 F (K_law28_FuseBounded_1_0r k) (K_law28_FuseBounded_1_1r k) (K_law28_FuseBounded_1_2e0 k) F (iI q 0) (iI q 1) (iI q 2) (iI q 3) (atC (nth q 4)) (iN q 5) (iN q 6) (atC (nth q 7)) (iN q 8) (iN q 9) (iB q 10) (iI q 11) (iI q 12) (iI q 13) (iI q 14) (iI q 15) (iI q 16) (iI q 17) (iI q 18) (iI q 19) (iI q 20)⟩]) (tabJ [⟨23, 1, TN_a_0, fun k q => N_a_0 F (KN_law28_FuseBounded_0_0r k) (KN_law28_FuseBounded_0_1n k) (iI q 0) (iI q 1) (iI q 2) (iI q 3) (atC (nth q 4)) (iN q 5) (iN q 6) (atC (nth q 7)) (iN q 8) (iN q 9) (iB q 10) (iI q 11) (iI q 12) (iI q 13) (iI q 14) (iI q 15) (iI q 16) (iI q 17) (iI q 18) (iI q 19) (iI q 20) (iI q 21) (iI q 22) (iI q 23) (iI q 24) (iI q 25) (iI q 26)⟩, ⟨21, 1, TN_a_1, fun k q => N_a_1 F (KN_law28_FuseBounded_1_0r k) (KN_law28_FuseBounded_1_1r k) (KN_law28_FuseBounded_1_2n k) (iI q 0) (iI q 1) (iI q 2) (iI q 3) (atC (nth q 4)) (iN q 5) (iN q 6) (atC (nth q 7)) (iN q 8) (iN q 9) (iB q 10) (iI q 11) (iI q 12) (iI q 13) (iI q 14) (iI q 15) (iI q 16) (iI q 17) (iI q 18) (iI q 19) (iI q 20) (iI q 21) (iI q 22) (iI q 23) (iI q 24) (iI q 25) (iI q 26)⟩, ⟨14, 1, TN_a_2, fun k q => N_a_2 F (KN_law28_FuseBounded_2_0r k) (KN_law28_FuseBounded_2_1r k) (KN_law28_FuseBounded_2_2n k) (iI q 0) (iI q 1) (iI q 2) (iI q 3) (atC (nth q 4)) (iN q 5) (iN q 6) (atC (nth q 7)) (iN q 8) (iN q 9) (iB q 10) (iI q 11) (iI q 12) (iI q 13) (iI q 14) (iI q 15) (iI q 16) (iI q 17) (iI q 18) (iI q 19) (iI q 20) (iI q 21)⟩, ⟨11, 0, TN_a_3, fun k q => N_a_3 F (KN_law28_FuseBounded_3_0r k) (KN_law28_FuseBounded_3_1r k) (KN_law28_FuseBounded_3_2n k) (iI q 0) (iI q 1) (iI q 2) (iI q 3) (atC (nth q 4)) (iN q 5) (iN q 6) (atC (nth q 7)) (iN q 8) (iN q 9) (iB q 10) (iI q 11) (iI q 12) (iI q 13) (iI q 14) (iI q 15) (iI q 16) (iI q 17) (iI q 18) (iI q 19) (iI q 20)⟩]) (joinAt PP c_a 5 0) 0 (fS TN_a_3 [.i x0, .i x1, .i x2, .i x3, .c x4, .n x5, .n x6, .c x7, .n x8, .n x9, .b x10, .i x11, .i x12, .i x13, .i x14, .i x15, .i x16, .i x17, .i x18, .i x19, .i x20]) k = (fun (ex0 : Y26) (ex1 : Y24) (ex2 : Y23) => Ng_a_3 ok_g o_g_0 N_a_2 F ex0 ex1 ex2 x0 x1 x2 x3 x4 x5 x6 x7 x8 x9 x10 x11 x12 x13 x14 x15 x16 x17 x18 x19 x20) (KN_law28_FuseBounded_3_0r k) (KN_law28_FuseBounded_3_1r k) (KN_law28_FuseBounded_3_2n k) := by
    intros
    kernel_rfl
  exact (h0 ok_e o_e_0 ok_i o_i_0 ok_n o_n_0 o_n_1 o_n_2 o_n_3 o_n_4 ok_g o_g_0 ok_m o_m_0 o_m_1 o_m_2 o_m_3 o_m_4 ok_j o_j_0 L_a_0 L_a_1 N_a_0 N_a_1 N_a_2 N_a_3).trans (by kernel_rfl)
theorem lL_a_1 (F : Nat) (k : Exit → VS → R) : ∀ (n : Nat) (x0 x1 x2 x3 : Int) (x4 : List VV) (x5 x6 : Nat) (x7 : List VV) (x8 x9 : Nat) (x10 : Bool) (x11 x12 x13 x14 x15 x16 x17 x18 x19 x20 : Int), iterC (codeL PP (S_a F) c_a (I_a F) (J_a F) (loopAt PP 5 0) 0) (headOf c_a 0) k n (fS T_a_1 [.i x0, .i x1, .i x2, .i x3, .c x4, .n x5, .n x6, .c x7, .n x8, .n x9, .b x10, .i x11, .i x12, .i x13, .i x14, .i x15, .i x16, .i x17, .i x18, .i x19, .i x20]) = L_a_1 F (K_law28_FuseBounded_1_0r k) (K_law28_FuseBounded_1_1r k) (K_law28_FuseBounded_1_2e0 k) n x0 x1 x2 x3 x4 x5 x6 x7 x8 x9 x10 x11 x12 x13 x14 x15 x16 x17 x18 x19 x20
  | 0, _, _, _, _, _, _, _, _, _, _, _, _, _, _, _, _, _, _, _, _, _ => rfl
  | n + 1, x0, x1, x2, x3, x4, x5, x6, x7, x8, x9, x10, x11, x12, x13, x14, x15, x16, x17, x18, x19, x20 => by
    have h0 : ∀ (ok_e : Nat → Bool) (o_e_0 : Nat → Bool) (ok_i : Y6) (o_i_0 : Y7) (ok_n : Y21) (o_n_0 : Y22) (o_n_1 : Y22) (o_n_2 : Y22) (o_n_3 : Y22) (o_n_4 : Y22) (ok_g : Nat → Int → Int → Bool) (o_g_0 : Nat → Int → Int → Int) (ok_m : Y14) (o_m_0 : Y27) (o_m_1 : Y27) (o_m_2 : Y27) (o_m_3 : Y27) (o_m_4 : Y27) (ok_j : Y8) (o_j_0 : Y9) (L_a_0 : Nat → (Y24) → (Y23) → Y25) (L_a_1 : Nat → (Y26) → (Y24) → (Y29) → Y30) (N_a_0 : Nat → (Y24) → (Y23) → Y26) (N_a_1 : Nat → (Y26) → (Y24) → (Y23) → Y26) (N_a_2 : Nat → (Y26) → (Y24) → (Y23) → Y28) (N_a_3 : Nat → (Y26) → (Y24) → (Y23) → Y29), iterC (codeL PP (words [(9, z_e ok_e o_e_0 F), (10, z_i ok_i o_i_0 F), (11, z_n ok_n o_n_0 o_n_1 o_n_2 o_n_3 o_n_4 F), (22, z_g ok_g o_g_0 F), (15, z_m ok_m o_m_0 o_m_1 o_m_2 o_m_3 o_m_4 F), (18, z_j ok_j o_j_0 F)]) c_a (tabI c_a [⟨2, T_a_0, fun k q => L_a_0 F (K_law28_FuseBounded_0_0r k) (K_law28_FuseBounded_0_1e2 k) F (iI q 0) (iI q 1) (iI q 2) (iI q 3) (atC (nth q 4)) (iN q 5) (iN q 6) (atC (nth q 7)) (iN q 8) (iN q 9) (iB q 10) (iI q 11) (iI q 12) (iI q 13) (iI q 14) (iI q 15) (iI q 16) (iI q 17) (iI q 18) (iI q 19) (iI q 20) (iI q 21) (iI q 22) (iI q 23) (iI q 24) (iI q 25) (iI q 26) (iI q 27)⟩, ⟨0, T_a_1, fun k q => L_a_1 F (K_law28_FuseBounded_1_0r k) (K_law28_FuseBounded_1_1r k) (K_law28_FuseBounded_1_2e0 k) F (iI q 0) (iI q 1) (iI q 2) (iI q 3) (atC (nth q 4)) (iN q 5) (iN q 6) (atC (nth q 7)) (iN q 8) (iN q 9) (iB q 10) (iI q 11) (iI q 12) (iI q 13) (iI q 14) (iI q 15) (iI q 16) (iI q 17) (iI q 18) (iI q 19) (iI q 20)⟩]) (tabJ [⟨23, 1, TN_a_0, fun k q => N_a_0 F (KN_law28_FuseBounded_0_0r k) (KN_law28_FuseBounded_0_1n k) (iI q 0) (iI q 1) (iI q 2) (iI q 3) (atC (nth q 4)) (iN q 5) (iN q 6) (atC (nth q 7)) (iN q 8) (iN q 9) (iB q 10) (iI q 11) (iI q 12) (iI q 13) (iI q 14) (iI q 15) (iI q 16) (iI q 17) (iI q 18) (iI q 19) (iI q 20) (iI q 21) (iI q 22) (iI q 23) (iI q 24) (iI q 25) (iI q 26)⟩, ⟨21, 1, TN_a_1, fun k q => N_a_1 F (KN_law28_FuseBounded_1_0r k) (KN_law28_FuseBounded_1_1r k) (KN_law28_FuseBounded_1_2n k) (iI q 0) (iI q 1) (iI q 2) (iI q 3) (atC (nth q 4)) (iN q 5) (iN q 6) (atC (nth q 7)) (iN q 8) (iN q 9) (iB q 10) (iI q 11) (iI q 12) (iI q 13) (iI q 14) (iI q 15) (iI q 16) (iI q 17) (iI q 18) (iI q 19) (iI q 20) (iI q 21) (iI q 22) (iI q 23) (iI q 24) (iI q 25) (iI q 26)⟩, ⟨14, 1, TN_a_2, fun k q => N_a_2 F (KN_law28_FuseBounded_2_0r k) (KN_law28_FuseBounded_2_1r k) (KN_law28_FuseBounded_2_2n k) (iI q 0) (iI q 1) (iI q 2) (iI q 3) (atC (nth q 4)) (iN q 5) (iN q 6) (atC (nth q 7)) (iN q 8) (iN q 9) (iB q 10) (iI q 11) (iI q 12) (iI q 13) (iI q 14) (iI q 15) (iI q 16) (iI q 17) (iI q 18) (iI q 19) (iI q 20) (iI q 21)⟩, ⟨11, 0, TN_a_3, fun k q => N_a_3 F (KN_law28_FuseBounded_3_0r k) (KN_law28_FuseBounded_3_1r k) (KN_law28_FuseBounded_3_2n k) (iI q 0) (iI q 1) (iI q 2) (iI q 3) (atC (nth q 4)) (iN q 5) (iN q 6) (atC (nth q 7)) (iN q 8) (iN q 9) (iB q 10) (iI q 11) (iI q 12) (iI q 13) (iI q 14) (iI q 15) (iI q 16) (iI q 17) (iI q 18) (iI q 19) (iI q 20)⟩]) (loopAt PP 5 0) 0) (headOf c_a 0) k (n + 1) (fS T_a_1 [.i x0, .i x1, .i x2, .i x3, .c x4, .n x5, .n x6, .c x7, .n x8, .n x9, .b x10, .i x11, .i x12, .i x13, .i x14, .i x15, .i x16, .i x17, .i x18, .i x19, .i x20]) = (Bg_a_1 N_a_3 F) (fun (y0 y1 y2 y3 : Int) (y4 : List VV) (y5 y6 : Nat) (y7 : List VV) (y8 y9 : Nat) (y10 : Bool) (y11 y12 y13 y14 y15 y16 y17 y18 y19 y20 : Int) => iterC (codeL PP (words [(9, z_e ok_e o_e_0 F), (10, z_i ok_i o_i_0 F), (11, z_n ok_n o_n_0 o_n_1 o_n_2 o_n_3 o_n_4 F), (22, z_g ok_g o_g_0 F), (15, z_m ok_m o_m_0 o_m_1 o_m_2 o_m_3 o_m_4 F), (18, z_j ok_j o_j_0 F)]) c_a (tabI c_a [⟨2, T_a_0, fun k q => L_a_0 F (K_law28_FuseBounded_0_0r k) (K_law28_FuseBounded_0_1e2 k) F (iI q 0) (iI q 1) (iI q 2) (iI q 3) (atC (nth q 4)) (iN q 5) (iN q 6) (atC (nth q 7)) (iN q 8) (iN q 9) (iB q 10) (iI q 11) (iI q 12) (iI q 13) (iI q 14) (iI q 15) (iI q 16) (iI q 17) (iI q 18) (iI q 19) (iI q 20) (iI q 21) (iI q 22) (iI q 23) (iI q 24) (iI q 25) (iI q 26) (iI q 27)⟩, ⟨0, T_a_1, fun k q => L_a_1 F (K_law28_FuseBounded_1_0r k) (K_law28_FuseBounded_1_1r k) (K_law28_FuseBounded_1_2e0 k) F (iI q 0) (iI q 1) (iI q 2) (iI q 3) (atC (nth q 4)) (iN q 5) (iN q 6) (atC (nth q 7)) (iN q 8) (iN q 9) (iB q 10) (iI q 11) (iI q 12) (iI q 13) (iI q 14) (iI q 15) (iI q 16) (iI q 17) (iI q 18) (iI q 19) (iI q 20)⟩]) (tabJ [⟨23, 1, TN_a_0, fun k q => N_a_0 F (KN_law28_FuseBounded_0_0r k) (KN_law28_FuseBounded_0_1n k) (iI q 0) (iI q 1) (iI q 2) (iI q 3) (atC (nth q 4)) (iN q 5) (iN q 6) (atC (nth q 7)) (iN q 8) (iN q 9) (iB q 10) (iI q 11) (iI q 12) (iI q 13) (iI q 14) (iI q 15) (iI q 16) (iI q 17) (iI q 18) (iI q 19) (iI q 20) (iI q 21) (iI q 22) (iI q 23) (iI q 24) (iI q 25) (iI q 26)⟩, ⟨21, 1, TN_a_1, fun k q => N_a_1 F (KN_law28_FuseBounded_1_0r k) (KN_law28_FuseBounded_1_1r k) (KN_law28_FuseBounded_1_2n k) (iI q 0) (iI q 1) (iI q 2) (iI q 3) (atC (nth q 4)) (iN q 5) (iN q 6) (atC (nth q 7)) (iN q 8) (iN q 9) (iB q 10) (iI q 11) (iI q 12) (iI q 13) (iI q 14) (iI q 15) (iI q 16) (iI q 17) (iI q 18) (iI q 19) (iI q 20) (iI q 21) (iI q 22) (iI q 23) (iI q 24) (iI q 25) (iI q 26)⟩, ⟨14, 1, TN_a_2, fun k q => N_a_2 F (KN_law28_FuseBounded_2_0r k) (KN_law28_FuseBounded_2_1r k) (KN_law28_FuseBounded_2_2n k) (iI q 0) (iI q 1) (iI q 2) (iI q 3) (atC (nth q 4)) (iN q 5) (iN q 6) (atC (nth q 7)) (iN q 8) (iN q 9) (iB q 10) (iI q 11) (iI q 12) (iI q 13) (iI q 14) (iI q 15) (iI q 16) (iI q 17) (iI q 18) (iI q 19) (iI q 20) (iI q 21)⟩, ⟨11, 0, TN_a_3, fun k q => N_a_3 F (KN_law28_FuseBounded_3_0r k) (KN_law28_FuseBounded_3_1r k) (KN_law28_FuseBounded_3_2n k) (iI q 0) (iI q 1) (iI q 2) (iI q 3) (atC (nth q 4)) (iN q 5) (iN q 6) (atC (nth q 7)) (iN q 8) (iN q 9) (iB q 10) (iI q 11) (iI q 12) (iI q 13) (iI q 14) (iI q 15) (iI q 16) (iI q 17) (iI q 18) (iI q 19) (iI q 20)⟩]) (loopAt PP 5 0) 0) (headOf c_a 0) k n (fS T_a_1 [.i y0, .i y1, .i y2, .i y3, .c y4, .n y5, .n y6, .c y7, .n y8, .n y9, .b y10, .i y11, .i y12, .i y13, .i y14, .i y15, .i y16, .i y17, .i y18, .i y19, .i y20])) (K_law28_FuseBounded_1_0r k) (K_law28_FuseBounded_1_1r k) (K_law28_FuseBounded_1_2e0 k) x0 x1 x2 x3 x4 x5 x6 x7 x8 x9 x10 x11 x12 x13 x14 x15 x16 x17 x18 x19 x20 := by
      intros
      kernel_rfl
    have h : iterC (codeL PP (S_a F) c_a (I_a F) (J_a F) (loopAt PP 5 0) 0) (headOf c_a 0) k (n + 1) (fS T_a_1 [.i x0, .i x1, .i x2, .i x3, .c x4, .n x5, .n x6, .c x7, .n x8, .n x9, .b x10, .i x11, .i x12, .i x13, .i x14, .i x15, .i x16, .i x17, .i x18, .i x19, .i x20]) = B_a_1 F (fun (y0 y1 y2 y3 : Int) (y4 : List VV) (y5 y6 : Nat) (y7 : List VV) (y8 y9 : Nat) (y10 : Bool) (y11 y12 y13 y14 y15 y16 y17 y18 y19 y20 : Int) => iterC (codeL PP (S_a F) c_a (I_a F) (J_a F) (loopAt PP 5 0) 0) (headOf c_a 0) k n (fS T_a_1 [.i y0, .i y1, .i y2, .i y3, .c y4, .n y5, .n y6, .c y7, .n y8, .n y9, .b y10, .i y11, .i y12, .i y13, .i y14, .i y15, .i y16, .i y17, .i y18, .i y19, .i y20])) (K_law28_FuseBounded_1_0r k) (K_law28_FuseBounded_1_1r k) (K_law28_FuseBounded_1_2e0 k) x0 x1 x2 x3 x4 x5 x6 x7 x8 x9 x10 x11 x12 x13 x14 x15 x16 x17 x18 x19 x20 := (h0 ok_e o_e_0 ok_i o_i_0 ok_n o_n_0 o_n_1 o_n_2 o_n_3 o_n_4 ok_g o_g_0 ok_m o_m_0 o_m_1 o_m_2 o_m_3 o_m_4 ok_j o_j_0 L_a_0 L_a_1 N_a_0 N_a_1 N_a_2 N_a_3).trans (by kernel_rfl)
    rw [h]
    simp only [lL_a_1 F k n]
    rfl
def fg_a (ok_e : Nat → Bool) (o_e_0 : Nat → Bool) (ok_i : Y6) (o_i_0 : Y7) (ok_n : Y21) (o_n_4 : Y22) (L_a_1 : Nat → (Y26) → (Y24) → (Y29) → Y30) (F : Nat) (a0 a1 a2 a3 : Int) (a4 : List VV) (a5 a6 : Nat) (a7 : List VV) (a8 a9 : Nat) : R :=
 bif (ok_e F) then (
 bif ((!((o_e_0 F)))) then (
 some (.v (.bool false)))
 else (
 bif (ok_i F a0 a1 a2 a3) then (
 bif ((((o_i_0 F a0 a1 a2 a3)) != 0)) then (
 bif (ok_n F a0 a1 a2 a3 0 0 0 0 0 0 0 3 0) then (
 some (.v (.bool ((((o_n_4 F a0 a1 a2 a3 0 0 0 0 0 0 0 3 0)) == 2))))) else none)
 else (
 L_a_1 F (fun (v4617 v4618 v4619 v4620 : Int) (v4621 : List VV) (v4622 v4623 : Nat) (v4624 : List VV) (v4625 v4626 : Nat) (v4627 : Bool) (v4628 v4629 v4630 v4631 v4632 v4633 v4634 v4635 v4636 v4637 v4638 v4639 v4640 v4641 v4642 v4643 : Int) =>
 some (.v (.bool v4627))) (fun (v4644 v4645 v4646 v4647 : Int) (v4648 : List VV) (v4649 v4650 : Nat) (v4651 : List VV) (v4652 v4653 : Nat) (v4654 : Bool) (v4655 v4656 v4657 v4658 v4659 v4660 v4661 v4662 v4663 v4664 v4665 v4666 v4667 v4668 v4669 v4670 v4671 v4672 v4673 : Int) =>
 some (.v (.bool v4654))) (fun (v4674 v4675 v4676 v4677 : Int) (v4678 : List VV) (v4679 v4680 : Nat) (v4681 : List VV) (v4682 v4683 : Nat) (v4684 : Bool) (v4685 v4686 v4687 v4688 v4689 v4690 v4691 v4692 v4693 v4694 : Int) =>
 some (.v (.bool true))) F a0 a1 a2 a3 a4 a5 a6 a7 a8 a9 false 0 0 a0 a1 a2 a3 0 0 0 0)) else none)) else none
def f_a (F : Nat) (a0 a1 a2 a3 : Int) (a4 : List VV) (a5 a6 : Nat) (a7 : List VV) (a8 a9 : Nat) : R := fg_a ok_e o_e_0 ok_i o_i_0 ok_n o_n_4 L_a_1 F a0 a1 a2 a3 a4 a5 a6 a7 a8 a9
theorem e_a (F : Nat) (a0 a1 a2 a3 : Int) (a4 : List VV) (a5 a6 : Nat) (a7 : List VV) (a8 a9 : Nat) : funL PP (S_a F) c_a (I_a F) (J_a F) 5 (fTs ti_a [.i a0, .i a1, .i a2, .i a3, .c a4, .n a5, .n a6, .c a7, .n a8, .n a9]).1 = f_a F a0 a1 a2 a3 a4 a5 a6 a7 a8 a9 := by
  have h : ∀ (ok_e : Nat → Bool) (o_e_0 : Nat → Bool) (ok_i : Y6) (o_i_0 : Y7) (ok_n : Y21) (o_n_0 : Y22) (o_n_1 : Y22) (o_n_2 : Y22) (o_n_3 : Y22) (o_n_4 : Y22) (ok_g : Nat → Int → Int → Bool) (o_g_0 : Nat → Int → Int → Int) (ok_m : Y14) (o_m_0 : Y27) (o_m_1 : Y27) (o_m_2 : Y27) (o_m_3 : Y27) (o_m_4 : Y27) (ok_j : Y8) (o_j_0 : Y9) (L_a_0 : Nat → (Y24) → (Y23) → Y25) (L_a_1 : Nat → (Y26) → (Y24) → (Y29) → Y30) (N_a_0 : Nat → (Y24) → (Y23) → Y26) (N_a_1 : Nat → (Y26) → (Y24) → (Y23) → Y26) (N_a_2 : Nat → (Y26) → (Y24) → (Y23) → Y28) (N_a_3 : Nat → (Y26) → (Y24) → (Y23) → Y29), funL PP (words [(9, z_e ok_e o_e_0 F), (10, z_i ok_i o_i_0 F), (11, z_n ok_n o_n_0 o_n_1 o_n_2 o_n_3 o_n_4 F), (22, z_g ok_g o_g_0 F), (15, z_m ok_m o_m_0 o_m_1 o_m_2 o_m_3 o_m_4 F), (18, z_j ok_j o_j_0 F)]) c_a (tabI c_a [⟨2, T_a_0, fun k q => L_a_0 F (K_law28_FuseBounded_0_0r k) (K_law28_FuseBounded_0_1e2 k) F (iI q 0) (iI q 1) (iI q 2) (iI q 3) (atC (nth q 4)) (iN q 5) (iN q 6) (atC (nth q 7)) (iN q 8) (iN q 9) (iB q 10) (iI q 11) (iI q 12) (iI q 13) (iI q 14) (iI q 15) (iI q 16) (iI q 17) (iI q 18) (iI q 19) (iI q 20) (iI q 21) (iI q 22) (iI q 23) (iI q 24) (iI q 25) (iI q 26) (iI q 27)⟩, ⟨0, T_a_1, fun k q => L_a_1 F (K_law28_FuseBounded_1_0r k) (K_law28_FuseBounded_1_1r k) (K_law28_FuseBounded_1_2e0 k) F (iI q 0) (iI q 1) (iI q 2) (iI q 3) (atC (nth q 4)) (iN q 5) (iN q 6) (atC (nth q 7)) (iN q 8) (iN q 9) (iB q 10) (iI q 11) (iI q 12) (iI q 13) (iI q 14) (iI q 15) (iI q 16) (iI q 17) (iI q 18) (iI q 19) (iI q 20)⟩]) (tabJ [⟨23, 1, TN_a_0, fun k q => N_a_0 F (KN_law28_FuseBounded_0_0r k) (KN_law28_FuseBounded_0_1n k) (iI q 0) (iI q 1) (iI q 2) (iI q 3) (atC (nth q 4)) (iN q 5) (iN q 6) (atC (nth q 7)) (iN q 8) (iN q 9) (iB q 10) (iI q 11) (iI q 12) (iI q 13) (iI q 14) (iI q 15) (iI q 16) (iI q 17) (iI q 18) (iI q 19) (iI q 20) (iI q 21) (iI q 22) (iI q 23) (iI q 24) (iI q 25) (iI q 26)⟩, ⟨21, 1, TN_a_1, fun k q => N_a_1 F (KN_law28_FuseBounded_1_0r k) (KN_law28_FuseBounded_1_1r k) (KN_law28_FuseBounded_1_2n k) (iI q 0) (iI q 1) (iI q 2) (iI q 3) (atC (nth q 4)) (iN q 5) (iN q 6) (atC (nth q 7)) (iN q 8) (iN q 9) (iB q 10) (iI q 11) (iI q 12) (iI q 13) (iI q 14) (iI q 15) (iI q 16) (iI q 17) (iI q 18) (iI q 19) (iI q 20) (iI q 21) (iI q 22) (iI q 23) (iI q 24) (iI q 25) (iI q 26)⟩, ⟨14, 1, TN_a_2, fun k q => N_a_2 F (KN_law28_FuseBounded_2_0r k) (KN_law28_FuseBounded_2_1r k) (KN_law28_FuseBounded_2_2n k) (iI q 0) (iI q 1) (iI q 2) (iI q 3) (atC (nth q 4)) (iN q 5) (iN q 6) (atC (nth q 7)) (iN q 8) (iN q 9) (iB q 10) (iI q 11) (iI q 12) (iI q 13) (iI q 14) (iI q 15) (iI q 16) (iI q 17) (iI q 18) (iI q 19) (iI q 20) (iI q 21)⟩, ⟨11, 0, TN_a_3, fun k q => N_a_3 F (KN_law28_FuseBounded_3_0r k) (KN_law28_FuseBounded_3_1r k) (KN_law28_FuseBounded_3_2n k) (iI q 0) (iI q 1) (iI q 2) (iI q 3) (atC (nth q 4)) (iN q 5) (iN q 6) (atC (nth q 7)) (iN q 8) (iN q 9) (iB q 10) (iI q 11) (iI q 12) (iI q 13) (iI q 14) (iI q 15) (iI q 16) (iI q 17) (iI q 18) (iI q 19) (iI q 20)⟩]) 5 (fTs ti_a [.i a0, .i a1, .i a2, .i a3, .c a4, .n a5, .n a6, .c a7, .n a8, .n a9]).1 = fg_a ok_e o_e_0 ok_i o_i_0 ok_n o_n_4 L_a_1 F a0 a1 a2 a3 a4 a5 a6 a7 a8 a9 := by
    intros
    kernel_rfl
  exact (h ok_e o_e_0 ok_i o_i_0 ok_n o_n_0 o_n_1 o_n_2 o_n_3 o_n_4 ok_g o_g_0 ok_m o_m_0 o_m_1 o_m_2 o_m_3 o_m_4 ok_j o_j_0 L_a_0 L_a_1 N_a_0 N_a_1 N_a_2 N_a_3).trans (by kernel_rfl)
def ok_a (F : Nat) (a0 a1 a2 a3 : Int) (a4 : List VV) (a5 a6 : Nat) (a7 : List VV) (a8 a9 : Nat) : Bool := okT to_a (f_a F a0 a1 a2 a3 a4 a5 a6 a7 a8 a9)
def o_a_0 (F : Nat) (a0 a1 a2 a3 : Int) (a4 : List VV) (a5 a6 : Nat) (a7 : List VV) (a8 a9 : Nat) : Bool := atB (nth (outT to_a (f_a F a0 a1 a2 a3 a4 a5 a6 a7 a8 a9)) 0)
theorem k_a (F : Nat) (a0 a1 a2 a3 : Int) (a4 : List VV) (a5 a6 : Nat) (a7 : List VV) (a8 a9 : Nat) {z0 : Bool} (h : f_a F a0 a1 a2 a3 a4 a5 a6 a7 a8 a9 = some (.v (.bool z0))) : ok_a F a0 a1 a2 a3 a4 a5 a6 a7 a8 a9 = true ∧ o_a_0 F a0 a1 a2 a3 a4 a5 a6 a7 a8 a9 = z0 := by
  refine ⟨?_, ?_⟩
  · unfold ok_a; rw [h]; kernel_rfl
  · unfold o_a_0; rw [h]; kernel_rfl
def s_a (F : Nat) : List VV → Option (Bool × VV) := spec ti_a to_a (fun q => (ok_a F (iI q 0) (iI q 1) (iI q 2) (iI q 3) (atC (nth q 4)) (iN q 5) (iN q 6) (atC (nth q 7)) (iN q 8) (iN q 9))) (fun q => [.b (o_a_0 F (iI q 0) (iI q 1) (iI q 2) (iI q 3) (atC (nth q 4)) (iN q 5) (iN q 6) (atC (nth q 7)) (iN q 8) (iN q 9))])
theorem hS_a (F : Nat) : ∀ f, Good PP f (unS (S_a F f)) := words_good fun p hp => by
  simp only [List.mem_cons, List.not_mem_nil, or_false] at hp
  rcases hp with rfl | rfl | rfl | rfl | rfl | rfl
  · exact g_e F
  · exact g_i F
  · exact g_n F
  · exact g_g F
  · exact g_m F
  · exact g_j F
theorem hl_a (F : Nat) : ∀ p ∈ loopsIn PP 5, LoopOK PP (S_a F) c_a F (I_a F) (J_a F) p :=
  loops_of [(0, loopAt PP 5 0), (2, loopAt PP 5 1)] (by kernel_rfl) (all_cons
    (loop_ok (W_a F) rfl (tab_cons (fun h => absurd h (by decide)) (tab_cons (fun _ k q => Le.ofEq ((lL_a_1 F k F (iI q 0) (iI q 1) (iI q 2) (iI q 3) (atC (nth q 4)) (iN q 5) (iN q 6) (atC (nth q 7)) (iN q 8) (iN q 9) (iB q 10) (iI q 11) (iI q 12) (iI q 13) (iI q 14) (iI q 15) (iI q 16) (iI q 17) (iI q 18) (iI q 19) (iI q 20)).symm.trans (congrArg (iterC (codeL PP (S_a F) c_a (I_a F) (J_a F) (loopAt PP 5 0) 0) (headOf c_a 0) k F) (show fS T_a_1 [.i (iI q 0), .i (iI q 1), .i (iI q 2), .i (iI q 3), .c (atC (nth q 4)), .n (iN q 5), .n (iN q 6), .c (atC (nth q 7)), .n (iN q 8), .n (iN q 9), .b (iB q 10), .i (iI q 11), .i (iI q 12), .i (iI q 13), .i (iI q 14), .i (iI q 15), .i (iI q 16), .i (iI q 17), .i (iI q 18), .i (iI q 19), .i (iI q 20)] = fS T_a_1 q by kernel_rfl)))) tab_nil))) (all_cons
    (loop_ok (W_a F) rfl (tab_cons (fun _ k q => Le.ofEq ((lL_a_0 F k F (iI q 0) (iI q 1) (iI q 2) (iI q 3) (atC (nth q 4)) (iN q 5) (iN q 6) (atC (nth q 7)) (iN q 8) (iN q 9) (iB q 10) (iI q 11) (iI q 12) (iI q 13) (iI q 14) (iI q 15) (iI q 16) (iI q 17) (iI q 18) (iI q 19) (iI q 20) (iI q 21) (iI q 22) (iI q 23) (iI q 24) (iI q 25) (iI q 26) (iI q 27)).symm.trans (congrArg (iterC (codeL PP (S_a F) c_a (I_a F) (J_a F) (loopAt PP 5 1) 2) (headOf c_a 2) k F) (show fS T_a_0 [.i (iI q 0), .i (iI q 1), .i (iI q 2), .i (iI q 3), .c (atC (nth q 4)), .n (iN q 5), .n (iN q 6), .c (atC (nth q 7)), .n (iN q 8), .n (iN q 9), .b (iB q 10), .i (iI q 11), .i (iI q 12), .i (iI q 13), .i (iI q 14), .i (iI q 15), .i (iI q 16), .i (iI q 17), .i (iI q 18), .i (iI q 19), .i (iI q 20), .i (iI q 21), .i (iI q 22), .i (iI q 23), .i (iI q 24), .i (iI q 25), .i (iI q 26), .i (iI q 27)] = fS T_a_0 q by kernel_rfl)))) (tab_cons (fun h => absurd h (by decide)) tab_nil))) all_nil))
theorem hj_a (F : Nat) : ∀ p ∈ joinsIn PP c_a 5, JoinOK PP (S_a F) c_a (I_a F) (J_a F) p :=
  joins_of [(11, 0, joinAt PP c_a 5 0), (14, 1, joinAt PP c_a 5 1), (21, 1, joinAt PP c_a 5 2), (23, 1, joinAt PP c_a 5 3)] (by kernel_rfl) (all_cons
    (join_ok (WJ_a F) rfl (jtab_cons (fun h _ => absurd h (by decide)) (jtab_cons (fun h _ => absurd h (by decide)) (jtab_cons (fun h _ => absurd h (by decide)) (jtab_cons (fun _ _ k q => Le.ofEq ((nN_a_3 F k (iI q 0) (iI q 1) (iI q 2) (iI q 3) (atC (nth q 4)) (iN q 5) (iN q 6) (atC (nth q 7)) (iN q 8) (iN q 9) (iB q 10) (iI q 11) (iI q 12) (iI q 13) (iI q 14) (iI q 15) (iI q 16) (iI q 17) (iI q 18) (iI q 19) (iI q 20)).symm.trans (congrArg (fun s => codeL PP (S_a F) c_a (I_a F) (J_a F) (joinAt PP c_a 5 0) 0 s k) (show fS TN_a_3 [.i (iI q 0), .i (iI q 1), .i (iI q 2), .i (iI q 3), .c (atC (nth q 4)), .n (iN q 5), .n (iN q 6), .c (atC (nth q 7)), .n (iN q 8), .n (iN q 9), .b (iB q 10), .i (iI q 11), .i (iI q 12), .i (iI q 13), .i (iI q 14), .i (iI q 15), .i (iI q 16), .i (iI q 17), .i (iI q 18), .i (iI q 19), .i (iI q 20)] = fS TN_a_3 q by kernel_rfl)))) jtab_nil))))) (all_cons
    (join_ok (WJ_a F) rfl (jtab_cons (fun h _ => absurd h (by decide)) (jtab_cons (fun h _ => absurd h (by decide)) (jtab_cons (fun _ _ k q => Le.ofEq ((nN_a_2 F k (iI q 0) (iI q 1) (iI q 2) (iI q 3) (atC (nth q 4)) (iN q 5) (iN q 6) (atC (nth q 7)) (iN q 8) (iN q 9) (iB q 10) (iI q 11) (iI q 12) (iI q 13) (iI q 14) (iI q 15) (iI q 16) (iI q 17) (iI q 18) (iI q 19) (iI q 20) (iI q 21)).symm.trans (congrArg (fun s => codeL PP (S_a F) c_a (I_a F) (J_a F) (joinAt PP c_a 5 1) 1 s k) (show fS TN_a_2 [.i (iI q 0), .i (iI q 1), .i (iI q 2), .i (iI q 3), .c (atC (nth q 4)), .n (iN q 5), .n (iN q 6), .c (atC (nth q 7)), .n (iN q 8), .n (iN q 9), .b (iB q 10), .i (iI q 11), .i (iI q 12), .i (iI q 13), .i (iI q 14), .i (iI q 15), .i (iI q 16), .i (iI q 17), .i (iI q 18), .i (iI q 19), .i (iI q 20), .i (iI q 21)] = fS TN_a_2 q by kernel_rfl)))) (jtab_cons (fun h _ => absurd h (by decide)) jtab_nil))))) (all_cons
    (join_ok (WJ_a F) rfl (jtab_cons (fun h _ => absurd h (by decide)) (jtab_cons (fun _ _ k q => Le.ofEq ((nN_a_1 F k (iI q 0) (iI q 1) (iI q 2) (iI q 3) (atC (nth q 4)) (iN q 5) (iN q 6) (atC (nth q 7)) (iN q 8) (iN q 9) (iB q 10) (iI q 11) (iI q 12) (iI q 13) (iI q 14) (iI q 15) (iI q 16) (iI q 17) (iI q 18) (iI q 19) (iI q 20) (iI q 21) (iI q 22) (iI q 23) (iI q 24) (iI q 25) (iI q 26)).symm.trans (congrArg (fun s => codeL PP (S_a F) c_a (I_a F) (J_a F) (joinAt PP c_a 5 2) 1 s k) (show fS TN_a_1 [.i (iI q 0), .i (iI q 1), .i (iI q 2), .i (iI q 3), .c (atC (nth q 4)), .n (iN q 5), .n (iN q 6), .c (atC (nth q 7)), .n (iN q 8), .n (iN q 9), .b (iB q 10), .i (iI q 11), .i (iI q 12), .i (iI q 13), .i (iI q 14), .i (iI q 15), .i (iI q 16), .i (iI q 17), .i (iI q 18), .i (iI q 19), .i (iI q 20), .i (iI q 21), .i (iI q 22), .i (iI q 23), .i (iI q 24), .i (iI q 25), .i (iI q 26)] = fS TN_a_1 q by kernel_rfl)))) (jtab_cons (fun h _ => absurd h (by decide)) (jtab_cons (fun h _ => absurd h (by decide)) jtab_nil))))) (all_cons
    (join_ok (WJ_a F) rfl (jtab_cons (fun _ _ k q => Le.ofEq ((nN_a_0 F k (iI q 0) (iI q 1) (iI q 2) (iI q 3) (atC (nth q 4)) (iN q 5) (iN q 6) (atC (nth q 7)) (iN q 8) (iN q 9) (iB q 10) (iI q 11) (iI q 12) (iI q 13) (iI q 14) (iI q 15) (iI q 16) (iI q 17) (iI q 18) (iI q 19) (iI q 20) (iI q 21) (iI q 22) (iI q 23) (iI q 24) (iI q 25) (iI q 26)).symm.trans (congrArg (fun s => codeL PP (S_a F) c_a (I_a F) (J_a F) (joinAt PP c_a 5 3) 1 s k) (show fS TN_a_0 [.i (iI q 0), .i (iI q 1), .i (iI q 2), .i (iI q 3), .c (atC (nth q 4)), .n (iN q 5), .n (iN q 6), .c (atC (nth q 7)), .n (iN q 8), .n (iN q 9), .b (iB q 10), .i (iI q 11), .i (iI q 12), .i (iI q 13), .i (iI q 14), .i (iI q 15), .i (iI q 16), .i (iI q 17), .i (iI q 18), .i (iI q 19), .i (iI q 20), .i (iI q 21), .i (iI q 22), .i (iI q 23), .i (iI q 24), .i (iI q 25), .i (iI q 26)] = fS TN_a_0 q by kernel_rfl)))) (jtab_cons (fun h _ => absurd h (by decide)) (jtab_cons (fun h _ => absurd h (by decide)) (jtab_cons (fun h _ => absurd h (by decide)) jtab_nil))))) all_nil))))
theorem g_a (F : Nat) : Good PP 5 (unS (s_a F)) :=
  fun_spec (hS_a F) (by kernel_rfl) (by kernel_rfl) (C := c_a) (F := fun q => (f_a F (iI q 0) (iI q 1) (iI q 2) (iI q 3) (atC (nth q 4)) (iN q 5) (iN q 6) (atC (nth q 7)) (iN q 8) (iN q 9))) (fun _ => F) (fun _ => I_a F) (fun _ => J_a F) (fun _ => hl_a F) (fun _ => hj_a F)
    (fun q => (congrArg (funL PP (S_a F) c_a (I_a F) (J_a F) 5) (show (fTs ti_a q).1 = (fTs ti_a [.i (iI q 0), .i (iI q 1), .i (iI q 2), .i (iI q 3), .c (atC (nth q 4)), .n (iN q 5), .n (iN q 6), .c (atC (nth q 7)), .n (iN q 8), .n (iN q 9)]).1 by kernel_rfl)).trans (e_a F (iI q 0) (iI q 1) (iI q 2) (iI q 3) (atC (nth q 4)) (iN q 5) (iN q 6) (atC (nth q 7)) (iN q 8) (iN q 9)))
    (fun _ h => (okT_fill h).trans (congrArg some (by kernel_rfl)))

end Go.Xv
namespace Go.Xv
theorem p2pos (n : Nat) : (0 : Int) < 2 ^ n := Int.pow_pos (by decide)
theorem p2add (a b : Nat) : (2 : Int) ^ a * 2 ^ b = 2 ^ (a + b) := (Int.pow_add 2 a b).symm
theorem p2_64 {m : Nat} (h : m ≤ 64) : (2 : Int) ^ m * 2 ^ (64 - m) = 18446744073709551616 := by
  rw [p2add, show m + (64 - m) = 64 by omega]; decide
theorem p2cast (k : Nat) : ((2 ^ k : Nat) : Int) = 2 ^ k := by push_cast; rfl
theorem emod_mul {a P Q : Int} (hP : 0 < P) : (a * P) % (P * Q) = (a % Q) * P := by
  rw [Int.mul_comm a P, Int.mul_emod_mul_of_pos _ _ hP, Int.mul_comm]

theorem shl_small {h l : Int} {m : Nat} (hl : U64 l) (hm : m < 64) :
    IntKind.wrap .i64 (orI .u64 (((h % 18446744073709551616) * 2 ^ m) % 18446744073709551616) (l / 2 ^ (64 - m))) = hi (val h l * 2 ^ m) ∧ (l * 2 ^ m) % 18446744073709551616 = lo (val h l * 2 ^ m) := by
  have hP := p2pos m
  have hQ := p2pos (64 - m)
  have hPQ := p2_64 (m := m) (by omega)
  have eP : ((2 ^ m : Nat) : Int) = 2 ^ m := p2cast _
  have orq := fun a b => or_add_u64 m (a := a) (b := b)
  rw [eP] at orq
  generalize (2 : Int) ^ m = P at *
  generalize (2 : Int) ^ (64 - m) = Q at *
  have hv : val h l * P = h * P * 18446744073709551616 + l * P := by
    unfold val
    rw [Int.add_mul]
    have : h * 18446744073709551616 * P = h * P * 18446744073709551616 := by simp only [Int.mul_comm, Int.mul_assoc, Int.mul_left_comm]
    omega
  have hlP : 0 ≤ l / Q ∧ l / Q < P := by
    unfold U64 at hl
    exact ⟨Int.ediv_nonneg hl.1 (by omega), Int.ediv_lt_of_lt_mul hQ (by omega)⟩
  rw [hv]
  have e3 : (l * P) / 18446744073709551616 = l / Q := by
    rw [← hPQ, ← Int.ediv_ediv_of_nonneg (by omega), Int.mul_ediv_cancel _ (by omega)]
  constructor
  · have e1 : ((h % 18446744073709551616) * P) % 18446744073709551616 = (h % Q) * P := by
      rw [← hPQ, emod_mul hP, Int.emod_emod_of_dvd h (show Q ∣ P * Q from ⟨P, Int.mul_comm P Q⟩)]
    have b1 := Int.emod_nonneg h (show Q ≠ 0 by omega)
    have b2 := Int.emod_lt_of_pos h hQ
    have b3 : (h % Q) * P + l / Q < 18446744073709551616 := by
      have : (h % Q) * P ≤ (Q - 1) * P := Int.mul_le_mul_of_nonneg_right (by omega) (by omega)
      rw [Int.sub_mul, Int.mul_comm Q P] at this
      omega
    have b4 := Int.mul_nonneg b1 (show 0 ≤ P by omega)
    rw [e1, orq _ _ b1 hlP.1 hlP.2 b3, wi64]
    unfold hi
    have e2 : (h * P) % 18446744073709551616 = (h % Q) * P := by rw [← hPQ, emod_mul hP]
    rw [show (h * P * 18446744073709551616 + l * P) / 18446744073709551616 = h * P + (l * P) / 18446744073709551616 by omega, e3]
    omega
  · unfold lo
    omega

theorem shl_great {h l : Int} {m : Nat} (hm : 64 ≤ m) :
    IntKind.wrap .i64 ((l * 2 ^ (m - 64)) % 18446744073709551616) = hi (val h l * 2 ^ m) ∧ 0 = lo (val h l * 2 ^ m) := by
  have e : (2 : Int) ^ m = 2 ^ (m - 64) * 18446744073709551616 := by
    rw [show (18446744073709551616 : Int) = 2 ^ 64 by decide, p2add, show (m - 64) + 64 = m by omega]
  rw [e]
  generalize (2 : Int) ^ (m - 64) = P at *
  have hv : val h l * (P * 18446744073709551616) = (h * P * 18446744073709551616 + l * P) * 18446744073709551616 := by
    unfold val
    simp only [Int.add_mul]
    have : h * 18446744073709551616 * (P * 18446744073709551616) = h * P * 18446744073709551616 * 18446744073709551616 := by simp only [Int.mul_comm, Int.mul_assoc, Int.mul_left_comm]
    have : l * (P * 18446744073709551616) = l * P * 18446744073709551616 := by simp only [Int.mul_assoc]
    omega
  rw [hv]
  generalize h * P = a
  generalize l * P = b
  constructor
  · rw [wi64]; unfold hi; omega
  · unfold lo; omega
theorem shl_all {h l : Int} {m : Nat} (hm : 128 ≤ m) : 0 = hi (val h l * 2 ^ m) ∧ 0 = lo (val h l * 2 ^ m) := by
  have e : (2 : Int) ^ m = 2 ^ (m - 128) * 340282366920938463463374607431768211456 := by
    rw [show (340282366920938463463374607431768211456 : Int) = 2 ^ 128 by decide, p2add, show (m - 128) + 128 = m by omega]
  rw [e, ← Int.mul_assoc]
  generalize val h l * 2 ^ (m - 128) = b
  constructor
  · unfold hi; omega
  · unfold lo; omega
end Go.Xv
namespace Go.Xv
/-- one bit of a number -/
def dg (z : Int) (i : Nat) : Int := z / 2 ^ i % 2
def ds (z : Int) (n : Nat) : List VV := (List.range n).map fun i => .v (.int .i64 (dg z i))
end Go.Xv
namespace Go.Xv
def angs : List Int := [536870912, 316933406, 167458907, 85004756, 42667331, 21354465, 10679838, 5340245, 2670163, 1335087, 667544, 333772, 166886, 83443, 41722, 20861, 10430, 5215, 2608, 1304, 652, 326, 163, 81, 41, 20, 10, 5, 3, 1]
def tA (i : Nat) : Int := angs.getD i 0
end Go.Xv
namespace Go.Xv
theorem bp {α : Type} {c : Bool} {a b x : α} (h : c = true) (h2 : a = x) : (bif c then a else b) = x := by rw [h]; exact h2
theorem bn {α : Type} {c : Bool} {a b x : α} (h : c = false) (h2 : b = x) : (bif c then a else b) = x := by rw [h]; exact h2
theorem dt {p : Prop} [Decidable p] (h : p) : decide p = true := decide_eq_true h
theorem df {p : Prop} [Decidable p] (h : ¬ p) : decide p = false := decide_eq_false h
theorem fdiv_pos (a : Int) {b : Int} (h : 0 ≤ b) : Int.fdiv a b = a / b := Int.fdiv_eq_ediv_of_nonneg a h
theorem some_int {k : IntKind} {a b : Int} (h : a = b) : (some (VV.v (.int k a)) : R) = some (.v (.int k b)) := by rw [h]
theorem some_wd {a b : Int} {z : Int} (h : a = hi z) (k : b = lo z) : (some (VV.v (.agg #[.int .i64 a, .int .u64 b])) : R) = some (wd z) := by rw [h, k]; rfl

theorem f_Add (F : Nat) {a b c d : Int} (hb : U64 b) (hd : U64 d) : f_w F a b c d = some (wd (val a b + val c d)) := by
  unfold f_w fg_w
  unfold U64 at hb hd
  simp only [wu64, wi64]
  by_cases h : (b + d) % 18446744073709551616 < b
  · refine bp (dt h) (some_wd ?_ ?_)
    · unfold hi val; omega
    · unfold lo val; omega
  · refine bn (df h) (some_wd ?_ ?_)
    · unfold hi val; omega
    · unfold lo val; omega

end Go.Xv
namespace Go.Xv
theorem some_bool {a b : Bool} (h : a = b) : (some (VV.v (.bool a)) : R) = some (.v (.bool b)) := by rw [h]
theorem nn (k : Nat) : (!decide ((k : Int) < 0)) = true := by rw [df (by omega)]; rfl
theorem p2min {m : Nat} (h : m ≤ 64) : min (Int.toNat (m : Int)) 64 = m := by omega

theorem f_Of (F : Nat) {n : Int} (h : I64 n) : f_z F n = some (wd n) := by
  unfold f_z fg_z
  unfold I64 at h
  refine some_wd ?_ ?_
  · rw [fdiv_pos _ (by decide)]; unfold hi; omega
  · rw [wu64]; rfl
theorem f_Left (F : Nat) {a b n : Int} (hb : U64 b) : f_s F a b n = some (wd (val a b * 2 ^ n.toNat)) := by
  unfold f_s fg_s
  have hv : (if 0 > n then 0 else n) = ((n.toNat : Nat) : Int) := by split <;> omega
  rw [hv]
  generalize n.toNat = m
  simp only [Int.toNat_natCast]
  by_cases h : 128 ≤ m
  · refine bp (dt (by omega)) ?_
    obtain ⟨h1, h2⟩ := shl_all (h := a) (l := b) h
    exact some_wd h1 h2
  · refine bn (df (by omega)) ?_
    by_cases h : 64 ≤ m
    · refine bp (dt (by omega)) ?_
      rw [wi64_in (x := (m : Int) - 64) (by unfold I64; omega), show (m : Int) - 64 = ((m - 64 : Nat) : Int) by omega]
      refine bp (nn _) ?_
      rw [p2min (by omega), wu64]
      obtain ⟨h1, h2⟩ := shl_great (h := a) (l := b) h
      exact some_wd h1 h2
    · refine bn (df (by omega)) ?_
      refine bp (nn _) ?_
      rw [wi64_in (x := 64 - (m : Int)) (by unfold I64; omega), show 64 - (m : Int) = ((64 - m : Nat) : Int) by omega]
      refine bp (nn _) (bp (nn _) ?_)
      rw [fdiv_pos _ (Int.le_of_lt (p2pos _)), show min m 64 = m by omega, p2min (by omega), wu64, wu64, wu64]
      obtain ⟨h1, h2⟩ := shl_small (h := a) hb (show m < 64 by omega)
      exact some_wd h1 h2

end Go.Xv
namespace Go.Xv
theorem a_Add (F : Nat) (x y : Int) : ok_w F (hi x) (lo x) (hi y) (lo y) = true ∧ o_w_0 F (hi x) (lo x) (hi y) (lo y) = hi (x + y) ∧ o_w_1 F (hi x) (lo x) (hi y) (lo y) = lo (x + y) := by
  obtain ⟨h1, h2, h3⟩ := k_w F _ _ _ _ (f_Add F (a := hi x) (c := hi y) (lo_U x) (lo_U y))
  rw [h2, h3, val_hl, val_hl]
  have e := (W_eqv x).add (W_eqv y)
  exact ⟨h1, hi_eqv e, lo_eqv e⟩
theorem a_Of (F : Nat) {n : Int} (h : I64 n) : ok_z F n = true ∧ o_z_0 F n = hi n ∧ o_z_1 F n = lo n := k_z F _ (f_Of F h)
theorem a_Left (F : Nat) (x n : Int) : ok_s F (hi x) (lo x) n = true ∧ o_s_0 F (hi x) (lo x) n = hi (x * 2 ^ n.toNat) ∧ o_s_1 F (hi x) (lo x) n = lo (x * 2 ^ n.toNat) := by
  obtain ⟨h1, h2, h3⟩ := k_s F _ _ n (f_Left F (a := hi x) (n := n) (lo_U x))
  rw [h2, h3, val_hl]
  exact ⟨h1, hi_eqv ((W_eqv x).mul _), lo_eqv ((W_eqv x).mul _)⟩

end Go.Xv
namespace Go.Xv
def clipV (z : Int) : Int := if z < -9223372036854775808 then -9223372036854775808 else if 9223372036854775807 < z then 9223372036854775807 else z
def clipC (z : Int) : Bool := decide (z < -9223372036854775808 ∨ 9223372036854775807 < z)
theorem some_clip {n : Int} {c : Bool} {z : Int} (h : n = clipV z) (k : c = clipC z) : (some (VV.v (.tuple #[.int .i64 n, .bool c])) : R) = some (.v (.tuple #[.int .i64 (clipV z), .bool (clipC z)])) := by rw [h, k]
theorem f_Clip (F : Nat) {a b : Int} (ha : I64 a) (hb : U64 b) : f_r F a b = some (.v (.tuple #[.int .i64 (clipV (val a b)), .bool (clipC (val a b))])) := by
  unfold f_r fg_r
  dsimp only
  obtain ⟨o1, o2, o3⟩ := a_Of F (wi64_I b)
  refine bp o1 ?_
  rw [o2, o3, wi64]
  have hv : ∀ z, z = val a b → True := fun _ _ => trivial
  unfold I64 at ha
  unfold U64 at hb
  by_cases h : -9223372036854775808 ≤ val a b ∧ val a b ≤ 9223372036854775807
  · refine bp ?_ (some_clip ?_ ?_)
    · unfold val at h
      rw [Bool.and_eq_true, beq_iff_eq, beq_iff_eq]
      unfold hi lo; omega
    · unfold clipV
      rw [if_neg (by omega), if_neg (by omega)]
      unfold val at *; omega
    · unfold clipC
      exact (df (by omega)).symm
  · refine bn ?_ ?_
    · unfold val at h
      rw [Bool.and_eq_false_iff, beq_eq_false_iff_ne, beq_eq_false_iff_ne]
      unfold hi lo; omega
    · by_cases h2 : a < 0
      · refine bp (dt h2) (some_clip ?_ ?_)
        · unfold clipV
          rw [if_pos]
          unfold val at *; omega
        · unfold clipC
          refine (dt ?_).symm
          unfold val at *; omega
      · refine bn (df h2) (some_clip ?_ ?_)
        · unfold clipV
          rw [if_neg, if_pos]
          · unfold val at *; omega
          · unfold val at *; omega
        · unfold clipC
          refine (dt ?_).symm
          unfold val at *; omega
theorem a_Clip (F : Nat) {x : Int} (h : W128 x) : ok_r F (hi x) (lo x) = true ∧ o_r_0 F (hi x) (lo x) = clipV x ∧ o_r_1 F (hi x) (lo x) = clipC x := by
  have := k_r F _ _ (f_Clip F (hi_I x) (lo_U x))
  rw [val_hl, W_in h] at this
  exact this
end Go.Xv
namespace Go.Xv
abbrev cp (z : Int) : VV := .v (.tuple #[.int .i64 (clipV z), .bool (clipC z)])
theorem clip_in {z : Int} (h : I64 z) : clipV z = z ∧ clipC z = false := by
  unfold I64 at h
  unfold clipV clipC
  exact ⟨by rw [if_neg (by omega), if_neg (by omega)], df (by omega)⟩

theorem f_fclip (F : Nat) {z : Int} (h : W128 z) : f_t F (hi z) (lo z) = some (cp z) := by
  unfold f_t fg_t
  obtain ⟨h1, h2, h3⟩ := a_Clip F h
  refine bp h1 ?_
  rw [h2, h3]
theorem a_fclip (F : Nat) {z : Int} (h : W128 z) : ok_t F (hi z) (lo z) = true ∧ o_t_0 F (hi z) (lo z) = clipV z ∧ o_t_1 F (hi z) (lo z) = clipC z := k_t F _ _ (f_fclip F h)
theorem f_fof (F : Nat) {n : Int} (h : I64 n) : f_aa F n = some (wd n) := by
  unfold f_aa fg_aa
  obtain ⟨h1, h2, h3⟩ := a_Of F h
  refine bp h1 ?_
  rw [h2, h3]; rfl
theorem a_fof (F : Nat) {n : Int} (h : I64 n) : ok_aa F n = true ∧ o_aa_0 F n = hi n ∧ o_aa_1 F n = lo n := k_aa F _ (f_fof F h)

theorem f_fAdd (F : Nat) {a b : Int} (ha : I64 a) (hb : I64 b) : f_x F a b = some (cp (a + b)) := by
  unfold f_x fg_x
  dsimp only
  have hs := wi64_I (a + b)
  have e := wi64 (a + b)
  generalize IntKind.wrap .i64 (a + b) = s at *
  have h1 := and_neg (xorI_I a s) (xorI_I b s)
  have h2 := xor_neg ha hs
  have h3 := xor_neg hb hs
  unfold I64 at ha hb hs
  by_cases h : -9223372036854775808 ≤ a + b ∧ a + b < 9223372036854775808
  · refine bp (dt ?_) (some_clip ?_ ?_)
    · have : ¬ andI .i64 (xorI .i64 a s) (xorI .i64 b s) < 0 := by
        rw [h1, h2, h3]; omega
      omega
    · rw [(clip_in h).1]; omega
    · rw [(clip_in h).2]
  · refine bn (df ?_) ?_
    · have : andI .i64 (xorI .i64 a s) (xorI .i64 b s) < 0 := by
        rw [h1, h2, h3]; omega
      omega
    · by_cases ha0 : a < 0
      · refine bp (dt ha0) (some_clip ?_ ?_)
        · unfold clipV; rw [if_pos (by omega)]
        · unfold clipC; exact (dt (by omega)).symm
      · refine bn (df ha0) (some_clip ?_ ?_)
        · unfold clipV; rw [if_neg (by omega), if_pos (by omega)]
        · unfold clipC; exact (dt (by omega)).symm
theorem a_fAdd (F : Nat) {a b : Int} (ha : I64 a) (hb : I64 b) : ok_x F a b = true ∧ o_x_0 F a b = clipV (a + b) ∧ o_x_1 F a b = clipC (a + b) := k_x F _ _ (f_fAdd F ha hb)
theorem f_fClamp (F : Nat) {a l h : Int} : f_k F a l h = some (.v (.tuple #[.int .i64 (if h < l then l else min (max a l) h), .bool (if h < l then true else decide (min (max a l) h ≠ a))])) := by
  unfold f_k fg_k
  dsimp only
  by_cases hl : h < l
  · refine bp (dt hl) ?_
    rw [if_pos hl, if_pos hl]
  · refine bn (df hl) ?_
    rw [if_neg hl, if_neg hl]
    have e : (if h < (if l > a then l else a) then h else (if l > a then l else a)) = min (max a l) h := by split <;> (try split) <;> omega
    have e2 : (min (max a l) h != a) = decide (min (max a l) h ≠ a) := by rw [Bool.eq_iff_iff]; simp
    rw [e, e2]
end Go.Xv
namespace Go.Xv
theorem f_vec_each' (F : Nat) (hF : 200 ≤ F) {a0 a1 a2 a3 : Int} {v0 v1 v2 : Int} {c0 c1 c2 : Bool} (h0 : ok_f F 0 a0 a1 a2 a3 = true ∧ o_f_0 F 0 a0 a1 a2 a3 = v0 ∧ o_f_1 F 0 a0 a1 a2 a3 = c0) (h1 : ok_f F 1 a0 a1 a2 a3 = true ∧ o_f_0 F 1 a0 a1 a2 a3 = v1 ∧ o_f_1 F 1 a0 a1 a2 a3 = c1) (h2 : ok_f F 2 a0 a1 a2 a3 = true ∧ o_f_0 F 2 a0 a1 a2 a3 = v2 ∧ o_f_1 F 2 a0 a1 a2 a3 = c2) :
    f_v F a0 a1 a2 a3 = some (.v (.tuple #[.agg #[.int .i64 v0, .int .i64 v1, .int .i64 v2], .bool (c0 || c1 || c2)])) := by
  obtain ⟨a1, a2, a3⟩ := h0
  obtain ⟨b1, b2, b3⟩ := h1
  obtain ⟨d1, d2, d3⟩ := h2
  obtain ⟨G, hG⟩ : ∃ G, F = G + 4 := ⟨F - 4, by omega⟩
  have w1 : IntKind.wrap .i64 (0 + 1) = 1 := by decide
  have w2 : IntKind.wrap .i64 (1 + 1) = 2 := by decide
  have w3 : IntKind.wrap .i64 (2 + 1) = 3 := by decide
  unfold f_v fg_v
  rw [show L_v_0 F _ F = L_v_0 F _ (G + 4) from congrArg (L_v_0 F _) hG, L_v_0]
  unfold B_v_0 Bg_v_0
  refine bp rfl (bp a1 (bn rfl (bp rfl (bp rfl ?_))))
  rw [a2, a3, w1, L_v_0]
  unfold B_v_0 Bg_v_0
  refine bp rfl (bp b1 ?_)
  rw [b2, b3, w2]
  cases c0
  · refine bn rfl (bp rfl (bp rfl ?_))
    rw [L_v_0]
    unfold B_v_0 Bg_v_0
    refine bp rfl (bp d1 ?_)
    rw [d2, d3, w3]
    cases c1
    · refine bn rfl (bp rfl (bp rfl ?_))
      rw [L_v_0]
      unfold B_v_0 Bg_v_0
      exact bn rfl (bp rfl rfl)
    · refine bp rfl (bp rfl (bp rfl ?_))
      rw [L_v_0]
      unfold B_v_0 Bg_v_0
      exact bn rfl (bp rfl rfl)
  · refine bp rfl (bp rfl (bp rfl ?_))
    rw [L_v_0]
    unfold B_v_0 Bg_v_0
    refine bp rfl (bp d1 ?_)
    rw [d2, w3]
    refine bp rfl (bp rfl (bp rfl ?_))
    rw [L_v_0]
    unfold B_v_0 Bg_v_0
    exact bn rfl (bp rfl (by rw [Bool.true_or, Bool.true_or]; rfl))
end Go.Xv
namespace Go.Xv
def clmV (a m : Int) : Int := min (max a (-m)) m
def clmC (a m : Int) : Bool := decide (min (max a (-m)) m ≠ a)
theorem w_neg {m : Int} (hm : 0 ≤ m ∧ m ≤ 9223372036854775807) : IntKind.wrap .i64 (0 - m) = -m := by rw [wi64_in (by unfold I64; omega), Int.zero_sub]
theorem clampF (F : Nat) {a m : Int} (hm : 0 ≤ m) : ok_k F a (-m) m = true ∧ o_k_0 F a (-m) m = clmV a m ∧ o_k_1 F a (-m) m = clmC a m := by
  obtain ⟨h1, h2, h3⟩ := k_k F _ _ _ (f_fClamp F (a := a) (l := -m) (h := m))
  rw [if_neg (by omega)] at h2 h3
  exact ⟨h1, h2, h3⟩
theorem a_Clamp_0 (F : Nat) {a0 a1 a2 m : Int} (hm : 0 ≤ m ∧ m ≤ 9223372036854775807) : ok_f F 0 a0 a1 a2 m = true ∧ o_f_0 F 0 a0 a1 a2 m = clmV a0 m ∧ o_f_1 F 0 a0 a1 a2 m = clmC a0 m := by
  refine k_f F _ _ _ _ _ ?_
  unfold f_f fg_f
  rw [w_neg hm]
  obtain ⟨h1, h2, h3⟩ := clampF F (a := a0) hm.1
  refine bp rfl (bp rfl (bp h1 ?_))
  exact congrArg some (show VV.v (.tuple #[.int .i64 (o_k_0 F a0 (-m) m), .bool (o_k_1 F a0 (-m) m)]) = _ by rw [h2, h3])
theorem a_Clamp_1 (F : Nat) {a0 a1 a2 m : Int} (hm : 0 ≤ m ∧ m ≤ 9223372036854775807) : ok_f F 1 a0 a1 a2 m = true ∧ o_f_0 F 1 a0 a1 a2 m = clmV a1 m ∧ o_f_1 F 1 a0 a1 a2 m = clmC a1 m := by
  refine k_f F _ _ _ _ _ ?_
  unfold f_f fg_f
  rw [w_neg hm]
  obtain ⟨h1, h2, h3⟩ := clampF F (a := a1) hm.1
  refine bp rfl (bp rfl (bp h1 ?_))
  exact congrArg some (show VV.v (.tuple #[.int .i64 (o_k_0 F a1 (-m) m), .bool (o_k_1 F a1 (-m) m)]) = _ by rw [h2, h3])
theorem a_Clamp_2 (F : Nat) {a0 a1 a2 m : Int} (hm : 0 ≤ m ∧ m ≤ 9223372036854775807) : ok_f F 2 a0 a1 a2 m = true ∧ o_f_0 F 2 a0 a1 a2 m = clmV a2 m ∧ o_f_1 F 2 a0 a1 a2 m = clmC a2 m := by
  refine k_f F _ _ _ _ _ ?_
  unfold f_f fg_f
  rw [w_neg hm]
  obtain ⟨h1, h2, h3⟩ := clampF F (a := a2) hm.1
  refine bp rfl (bp rfl (bp h1 ?_))
  exact congrArg some (show VV.v (.tuple #[.int .i64 (o_k_0 F a2 (-m) m), .bool (o_k_1 F a2 (-m) m)]) = _ by rw [h2, h3])
theorem hl0 : hi 0 = 0 ∧ lo 0 = 0 := by decide
theorem mx0 {a : Int} : (if 0 > a then 0 else a) = max a 0 := by split <;> omega
theorem a_vClamp (F : Nat) (hF : 200 ≤ F) {a0 a1 a2 a3 : Int} (h3 : I64 a3) : ok_q F a0 a1 a2 a3 = true ∧ o_q_0 F a0 a1 a2 a3 = clmV a0 (max a3 0) ∧ o_f F a0 a1 a2 a3 = clmV a1 (max a3 0) ∧ o_q_2 F a0 a1 a2 a3 = clmV a2 (max a3 0) ∧ o_q_3 F a0 a1 a2 a3 = (clmC a0 (max a3 0) || clmC a1 (max a3 0) || clmC a2 (max a3 0)) := by
  refine k_q F _ _ _ _ ?_
  unfold f_q fg_q
  rw [mx0]
  have hm : 0 ≤ max a3 0 ∧ max a3 0 ≤ 9223372036854775807 := by unfold I64 at h3; omega
  obtain ⟨e1, e2, e3, e4, e5⟩ := k_v F _ _ _ _ (f_vec_each' F hF (a_Clamp_0 F hm) (a_Clamp_1 F hm) (a_Clamp_2 F hm))
  refine bp e1 ?_
  rw [e2, e3, e4, e5]
end Go.Xv
namespace Go.Xv
structure Cx where
  re : Rat
  im : Rat
namespace Cx
def add (a b : Cx) : Cx := ⟨a.re + b.re, a.im + b.im⟩
def sub (a b : Cx) : Cx := ⟨a.re - b.re, a.im - b.im⟩
def n2 (a : Cx) : Rat := a.re * a.re + a.im * a.im
theorem eqC {a b : Cx} (h1 : a.re = b.re) (h2 : a.im = b.im) : a = b := by cases a; cases b; simp_all
theorem sq_nn (a : Rat) : 0 ≤ a * a := by
  rcases Rat.le_total (a := 0) (b := a) with h | h
  · exact Rat.mul_nonneg h h
  · have := Rat.mul_nonneg (a := -a) (b := -a) (by grind) (by grind)
    grind
theorem n2_nn (a : Cx) : 0 ≤ n2 a := by
  have := sq_nn a.re
  have := sq_nn a.im
  simp only [n2]; grind
theorem le_of_sq {x y : Rat} (hy : 0 ≤ y) (h : x * x ≤ y * y) : x ≤ y := by
  rcases Rat.le_total (a := x) (b := y) with hx | hx
  · exact hx
  · by_cases he : x = y
    · grind
    · have hlt : 0 < x - y := by grind
      have h0 : 0 < x := by grind
      have h1 := Rat.mul_pos hlt h0
      have h2 := Rat.mul_nonneg (Rat.le_of_lt hlt) hy
      grind
/-- not longer than -/
def Nm (a : Cx) (e : Rat) : Prop := 0 ≤ e ∧ n2 a ≤ e * e
theorem Nm.add {a b : Cx} {e f : Rat} (h : Nm a e) (k : Nm b f) : Nm (add a b) (e + f) := by
  obtain ⟨h1, h2⟩ := h
  obtain ⟨k1, k2⟩ := k
  refine ⟨by grind, ?_⟩
  have hd : a.re * b.re + a.im * b.im ≤ e * f := by
    refine le_of_sq (Rat.mul_nonneg h1 k1) ?_
    have e1 := sq_nn (a.re * b.im - a.im * b.re)
    have e2 : (a.re * b.re + a.im * b.im) * (a.re * b.re + a.im * b.im) + (a.re * b.im - a.im * b.re) * (a.re * b.im - a.im * b.re) = n2 a * n2 b := by simp only [n2]; grind
    have e3 : n2 a * n2 b ≤ (e * e) * n2 b := Rat.mul_le_mul_of_nonneg_right h2 (n2_nn b)
    have e4 : (e * e) * n2 b ≤ (e * e) * (f * f) := Rat.mul_le_mul_of_nonneg_left k2 (sq_nn e)
    grind
  simp only [Cx.add, n2] at *
  grind
theorem Nm.trans {a b c : Cx} {e f : Rat} (h : Nm (sub a b) e) (k : Nm (sub b c) f) : Nm (sub a c) (e + f) := by
  have := h.add k
  have e : Cx.add (sub a b) (sub b c) = sub a c := by apply eqC <;> simp only [Cx.add, sub] <;> grind
  rwa [e] at this
end Cx
end Go.Xv
namespace Go.Xv
namespace Cx
def wA : Rat := 1329227995784915872903807060280344576
def wB : Rat := 972275833250902676855126013
def w : Cx := ⟨(wA * wA - wB * wB) / (wA * wA + wB * wB), 2 * wA * wB / (wA * wA + wB * wB)⟩
def q : Rat := 340282366920938463463374607431768211456
theorem q0 : (0 : Rat) < q := by decide +kernel
def r : Rat := 1 / q
theorem r0 : (0 : Rat) < r := by decide +kernel
def w0 : Int := 340282366920938463099250474440462542326
def w1 : Int := 497805226624462170283482630030
end Cx
end Go.Xv
namespace Go.Xv
namespace Cx
def hp (i : Nat) : Rat := 1 / 2 ^ i
def dt (i : Nat) (o : Bool) : Int := if o then tA i else -tA i
end Cx
end Go.Xv
namespace Go.Xv
def RuleOK (g s l h : Int) : Prop := 0 ≤ g ∧ g ≤ 16 ∧ 0 ≤ s ∧ 0 ≤ l ∧ 1 ≤ h ∧ h ≤ 65535
instance (g s l h : Int) : Decidable (RuleOK g s l h) := by unfold RuleOK; infer_instance
def CorrOK (l c0 c1 c2 t : Int) : Prop := (0 ≤ t ∧ t ≤ 1099511627776) ∧ (-l ≤ c0 ∧ c0 ≤ l) ∧ (-l ≤ c1 ∧ c1 ≤ l) ∧ (-l ≤ c2 ∧ c2 ≤ l)
instance (l c0 c1 c2 t : Int) : Decidable (CorrOK l c0 c1 c2 t) := by unfold CorrOK; infer_instance
def errV (p : Prop) [Decidable p] : Int := if p then 0 else 2
theorem some_err {p : Prop} [Decidable p] (h : p) : (some (VV.v (.int .i64 0)) : R) = some (.v (.int .i64 (errV p))) := by unfold errV; rw [if_pos h]
theorem some_no {p : Prop} [Decidable p] (h : ¬ p) : (some (VV.v (.int .i64 2)) : R) = some (.v (.int .i64 (errV p))) := by unfold errV; rw [if_neg h]
theorem err_ok {p : Prop} [Decidable p] (h : p) : errV p = 0 := if_pos h
theorem err_no {p : Prop} [Decidable p] (h : ¬ p) : errV p = 2 := if_neg h

theorem a_fCheck (F : Nat) (g s l h : Int) : ok_i F g s l h = true ∧ o_i_0 F g s l h = errV (RuleOK g s l h) := by
  refine k_i F _ _ _ _ ?_
  unfold f_i fg_i
  by_cases h1 : g < 0
  · exact bp (dt h1) (some_no (by unfold RuleOK; omega))
  refine bn (df h1) ?_
  by_cases h2 : g > 16
  · exact bp (dt h2) (some_no (by unfold RuleOK; omega))
  refine bn (df h2) ?_
  by_cases h3 : s < 0
  · exact bp (dt h3) (some_no (by unfold RuleOK; omega))
  refine bn (df h3) ?_
  by_cases h4 : l < 0
  · exact bp (dt h4) (some_no (by unfold RuleOK; omega))
  refine bn (df h4) ?_
  by_cases h5 : h < 1
  · exact bp (dt h5) (some_no (by unfold RuleOK; omega))
  refine bn (df h5) ?_
  by_cases h6 : h > 65535
  · exact bp (dt h6) (some_no (by unfold RuleOK; omega))
  exact bn (df h6) (some_err (by unfold RuleOK; omega))

theorem a_tick (F : Nat) (t : Int) : ok_p F t = true ∧ o_p_0 F t = decide (0 ≤ t ∧ t ≤ 1099511627776) := by
  refine k_p F _ ?_
  unfold f_p fg_p
  by_cases h : t ≥ 0
  · exact bp (dt h) (some_bool (decide_eq_decide.2 (by omega)))
  · exact bn (df h) (some_bool (df (by omega)).symm)
theorem clmC_iff {a l : Int} : clmC a l = false ↔ -l ≤ a ∧ a ≤ l ∨ (l < 0 ∧ min (max a (-l)) l = a) := by
  unfold clmC
  simp only [decide_eq_false_iff_not, ne_eq, Classical.not_not]
  omega
theorem a_fRight (F : Nat) (hF : 200 ≤ F) {g s l h c0 c1 c2 t : Int} (hl : I64 l) : ok_j F g s l h c0 c1 c2 t = true ∧ o_j_0 F g s l h c0 c1 c2 t = errV (RuleOK g s l h ∧ CorrOK l c0 c1 c2 t) := by
  refine k_j F _ _ _ _ _ _ _ _ ?_
  unfold f_j fg_j
  obtain ⟨k1, k2⟩ := a_fCheck F g s l h
  obtain ⟨t1, t2⟩ := a_tick F t
  refine bp k1 ?_
  rw [k2]
  by_cases hr : RuleOK g s l h
  · rw [err_ok hr]
    refine bn rfl (bp t1 ?_)
    rw [t2]
    by_cases ht : 0 ≤ t ∧ t ≤ 1099511627776
    · rw [dt ht]
      obtain ⟨v1, v2, v3, v4, v5⟩ := a_vClamp F hF (a0 := c0) (a1 := c1) (a2 := c2) hl
      refine bn rfl (bp v1 ?_)
      rw [v5]
      have hl0 : max l 0 = l := by unfold RuleOK at hr; omega
      rw [hl0]
      have h0 : 0 ≤ l := by unfold RuleOK at hr; omega
      by_cases hc : (-l ≤ c0 ∧ c0 ≤ l) ∧ (-l ≤ c1 ∧ c1 ≤ l) ∧ (-l ≤ c2 ∧ c2 ≤ l)
      · rw [clmC_iff.2 (.inl hc.1), clmC_iff.2 (.inl hc.2.1), clmC_iff.2 (.inl hc.2.2)]
        exact bn rfl (some_err ⟨hr, ht, hc⟩)
      · refine bp ?_ (some_no fun h => hc h.2.2)
        cases e0 : clmC c0 l
        · cases e1 : clmC c1 l
          · cases e2 : clmC c2 l
            · exfalso
              have := clmC_iff.1 e0
              have := clmC_iff.1 e1
              have := clmC_iff.1 e2
              omega
            · rfl
          · rfl
        · rfl
    · rw [df ht]
      exact bp rfl (some_no fun h => ht h.2.1)
  · rw [err_no hr]
    exact bp rfl (some_no fun h => hr h.1)
theorem a_fmay (F : Nat) (hF : 200 ≤ F) {g s l h c0 c1 c2 la t : Int} (hl : I64 l) : ok_u F g s l h c0 c1 c2 la t = true ∧ o_u_0 F g s l h c0 c1 c2 la t = decide (RuleOK g s l h ∧ CorrOK l c0 c1 c2 la ∧ la ≤ t ∧ t ≤ 1099511627776) := by
  refine k_u F _ _ _ _ _ _ _ _ _ ?_
  unfold f_u fg_u
  obtain ⟨k1, k2⟩ := a_fRight F hF (g := g) (s := s) (h := h) (c0 := c0) (c1 := c1) (c2 := c2) (t := la) hl
  obtain ⟨t1, t2⟩ := a_tick F t
  refine bp k1 ?_
  rw [k2]
  by_cases hr : RuleOK g s l h ∧ CorrOK l c0 c1 c2 la
  · rw [err_ok hr]
    refine bp rfl ?_
    by_cases hle : t ≥ la
    · refine bp (dt hle) (bp t1 ?_)
      rw [t2]
      refine some_bool (decide_eq_decide.2 ?_)
      have := hr.2.1
      constructor
      · intro h; exact ⟨hr.1, hr.2, hle, h.2⟩
      · intro h; exact ⟨by omega, h.2.2.2⟩
    · exact bn (df hle) (some_bool (df fun h => hle h.2.2.1).symm)
  · rw [err_no hr]
    exact bn rfl (some_bool (df fun h => hr ⟨h.1, h.2.1⟩).symm)
def pullV (g s l c off : Int) : Int := clmV (clipV (c + clmV (off / 2 ^ g.toNat) s)) l
def fadeV (s c : Int) : Int := if 0 < c then max (c - s) 0 else min (c + s) 0
theorem cm_I {a m : Int} (h0 : 0 ≤ m) (h1 : m ≤ 9223372036854775807) : I64 (clmV a m) := by unfold clmV I64; omega
theorem I_W {z : Int} (h : I64 z) : W128 z := by unfold I64 at h; unfold W128; omega
theorem neg_in {g : Int} (h0 : 0 ≤ g) (h1 : g ≤ 9223372036854775807) : IntKind.wrap .i64 (0 - g) = -g := by rw [wi64_in (by unfold I64; omega)]; omega
theorem a_fShift (F : Nat) {a g : Int} (ha : I64 a) (h0 : 0 ≤ g) (h1 : g ≤ 16) : ok_l F a (-g) = true ∧ o_l_0 F a (-g) = a / 2 ^ g.toNat ∧ o_l_1 F a (-g) = false := by
  refine k_l F _ _ ?_
  unfold f_l fg_l
  dsimp only
  by_cases hg : g = 0
  · subst hg
    obtain ⟨f1, f2, f3⟩ := a_fof F ha
    refine bp (dt (by omega)) (bp f1 ?_)
    rw [f2, f3, if_neg (by omega)]
    obtain ⟨l1, l2, l3⟩ := a_Left F a (-0)
    refine bp l1 ?_
    rw [l2, l3]
    have e : a * 2 ^ (-0 : Int).toNat = a := by simp
    rw [e]
    obtain ⟨c1, c2, c3⟩ := a_fclip F (I_W ha)
    refine bp c1 ?_
    rw [c2, c3, (clip_in ha).1, (clip_in ha).2]
    have e2 : a / 2 ^ (0 : Int).toNat = a := by simp
    rw [e2]
  · refine bn (df (by omega)) ?_
    rw [if_neg (show ¬ (-64 : Int) > -g by omega)]
    have e : IntKind.wrap .i64 (0 - -g) = g := by rw [wi64_in (by unfold I64; omega)]; omega
    rw [e, if_pos (by omega)]
    refine bp (by rw [df (by omega)]; rfl) ?_
    have e2 : min (Int.toNat g) 64 = g.toNat := by omega
    rw [e2]
    refine congrArg some (congrArg VV.v ?_)
    have e3 : a.fdiv (2 ^ g.toNat) = a / 2 ^ g.toNat := by
      rw [Int.fdiv_eq_ediv_of_nonneg]
      have h3 : (0 : Int) < 2 ^ g.toNat := Int.pow_pos (by decide)
      omega
    rw [e3]
theorem a_pulled (F : Nat) {g s l h c off : Int} (hr : RuleOK g s l h) (hs : I64 s) (hl : I64 l) (hc : I64 c) (ho : I64 off) : ok_b F g s l h c off = true ∧ o_b_0 F g s l h c off = pullV g s l c off := by
  refine k_b F _ _ _ _ _ _ ?_
  unfold f_b fg_b
  dsimp only
  obtain ⟨r1, r2, r3, r4, _, _⟩ := hr
  have hs2 : s ≤ 9223372036854775807 := by unfold I64 at hs; omega
  have hl2 : l ≤ 9223372036854775807 := by unfold I64 at hl; omega
  rw [neg_in r1 (by omega), neg_in r3 hs2, neg_in r4 hl2]
  obtain ⟨a1, a2, _⟩ := a_fShift F ho r1 r2
  refine bp a1 ?_
  rw [a2]
  obtain ⟨b1, b2, _⟩ := clampF F (a := off / 2 ^ g.toNat) r3
  refine bp b1 ?_
  rw [b2]
  obtain ⟨c1, c2, _⟩ := a_fAdd F hc (cm_I (a := off / 2 ^ g.toNat) r3 hs2)
  refine bp c1 ?_
  rw [c2]
  obtain ⟨d1, d2, _⟩ := clampF F (a := clipV (c + clmV (off / 2 ^ g.toNat) s)) r4
  refine bp d1 ?_
  rw [d2]
  rfl
theorem a_faded (F : Nat) {g s l h c off : Int} (hs0 : 0 ≤ s) (hs : I64 s) (hc : I64 c) : ok_c F g s l h c off = true ∧ o_c_0 F g s l h c off = fadeV s c := by
  refine k_c F _ _ _ _ _ _ ?_
  unfold f_c fg_c fadeV
  dsimp only
  unfold I64 at *
  by_cases h : c > 0
  · refine bp (dt h) ?_
    rw [wi64_in (by unfold I64; omega), if_pos h]
    exact some_int (by split <;> omega)
  · refine bn (df h) ?_
    rw [wi64_in (by unfold I64; omega), if_neg h]
    exact some_int (by split <;> omega)
def axV (n k p c : Int) : Int := if k < n then p else c
theorem f_o_0 (F : Nat) (hF : 200 ≤ F) {g s l h c0 c1 c2 o0 o1 o2  : Int}  :
    f_o F g s l h c0 c1 c2 o0 o1 o2 0 = some (.v (.agg #[.int .i64 c0, .int .i64 c1, .int .i64 c2])) := by
  obtain ⟨G, hG⟩ : ∃ G, F = G + 4 := ⟨F - 4, by omega⟩
  have w0 : IntKind.wrap .i64 (0 + 1) = 1 := by decide
  have w1 : IntKind.wrap .i64 (1 + 1) = 2 := by decide
  have w2 : IntKind.wrap .i64 (2 + 1) = 3 := by decide
  unfold f_o fg_o
  rw [show L_o_0 F _ F = L_o_0 F _ (G + 4) from congrArg (L_o_0 F _) hG]
  rw [L_o_0]
  unfold B_o_0 Bg_o_0
  dsimp only
  refine bp rfl (bp rfl (bp rfl (bp rfl (bn rfl ?_))))
  rw [show (iv [VV.v (.int .i64 c0), .v (.int .i64 c1), .v (.int .i64 c2)][Int.toNat 0 * 1]?) = c0 from rfl, w0]
  rw [L_o_0]
  unfold B_o_0 Bg_o_0
  dsimp only
  refine bp rfl (bp rfl (bp rfl (bp rfl (bn rfl ?_))))
  rw [show (iv [VV.v (.int .i64 c0), .v (.int .i64 c1), .v (.int .i64 c2)][Int.toNat 1 * 1]?) = c1 from rfl, w1]
  rw [L_o_0]
  unfold B_o_0 Bg_o_0
  dsimp only
  refine bp rfl (bp rfl (bp rfl (bp rfl (bn rfl ?_))))
  rw [show (iv [VV.v (.int .i64 c0), .v (.int .i64 c1), .v (.int .i64 c2)][Int.toNat 2 * 1]?) = c2 from rfl, w2]
  rw [L_o_0]
  unfold B_o_0 Bg_o_0
  dsimp only
  refine bn rfl (bp rfl rfl)
theorem f_o_1 (F : Nat) (hF : 200 ≤ F) {g s l h c0 c1 c2 o0 o1 o2 q0 : Int} (p0 : ok_b F g s l h c0 o0 = true ∧ o_b_0 F g s l h c0 o0 = q0) :
    f_o F g s l h c0 c1 c2 o0 o1 o2 1 = some (.v (.agg #[.int .i64 q0, .int .i64 c1, .int .i64 c2])) := by
  obtain ⟨G, hG⟩ : ∃ G, F = G + 4 := ⟨F - 4, by omega⟩
  have w0 : IntKind.wrap .i64 (0 + 1) = 1 := by decide
  have w1 : IntKind.wrap .i64 (1 + 1) = 2 := by decide
  have w2 : IntKind.wrap .i64 (2 + 1) = 3 := by decide
  unfold f_o fg_o
  rw [show L_o_0 F _ F = L_o_0 F _ (G + 4) from congrArg (L_o_0 F _) hG]
  rw [L_o_0]
  unfold B_o_0 Bg_o_0
  dsimp only
  refine bp rfl (bp rfl (bp rfl (bp rfl (bp rfl (bp rfl (bp rfl (bp p0.1 (bp rfl (bp rfl ?_)))))))))
  rw [show (iv [VV.v (.int .i64 c0), .v (.int .i64 c1), .v (.int .i64 c2)][Int.toNat 0 * 1]?) = c0 from rfl, show (iv [VV.v (.int .i64 o0), .v (.int .i64 o1), .v (.int .i64 o2)][0 + Int.toNat 0 * 1]?) = o0 from rfl, p0.2, w0]
  rw [L_o_0]
  unfold B_o_0 Bg_o_0
  dsimp only
  refine bp rfl (bp rfl (bp rfl (bp rfl (bn rfl ?_))))
  rw [show (iv [VV.v (.int .i64 c0), .v (.int .i64 c1), .v (.int .i64 c2)][Int.toNat 1 * 1]?) = c1 from rfl, w1]
  rw [L_o_0]
  unfold B_o_0 Bg_o_0
  dsimp only
  refine bp rfl (bp rfl (bp rfl (bp rfl (bn rfl ?_))))
  rw [show (iv [VV.v (.int .i64 c0), .v (.int .i64 c1), .v (.int .i64 c2)][Int.toNat 2 * 1]?) = c2 from rfl, w2]
  rw [L_o_0]
  unfold B_o_0 Bg_o_0
  dsimp only
  refine bn rfl (bp rfl rfl)
theorem f_o_2 (F : Nat) (hF : 200 ≤ F) {g s l h c0 c1 c2 o0 o1 o2 q0 q1 : Int} (p0 : ok_b F g s l h c0 o0 = true ∧ o_b_0 F g s l h c0 o0 = q0) (p1 : ok_b F g s l h c1 o1 = true ∧ o_b_0 F g s l h c1 o1 = q1) :
    f_o F g s l h c0 c1 c2 o0 o1 o2 2 = some (.v (.agg #[.int .i64 q0, .int .i64 q1, .int .i64 c2])) := by
  obtain ⟨G, hG⟩ : ∃ G, F = G + 4 := ⟨F - 4, by omega⟩
  have w0 : IntKind.wrap .i64 (0 + 1) = 1 := by decide
  have w1 : IntKind.wrap .i64 (1 + 1) = 2 := by decide
  have w2 : IntKind.wrap .i64 (2 + 1) = 3 := by decide
  unfold f_o fg_o
  rw [show L_o_0 F _ F = L_o_0 F _ (G + 4) from congrArg (L_o_0 F _) hG]
  rw [L_o_0]
  unfold B_o_0 Bg_o_0
  dsimp only
  refine bp rfl (bp rfl (bp rfl (bp rfl (bp rfl (bp rfl (bp rfl (bp p0.1 (bp rfl (bp rfl ?_)))))))))
  rw [show (iv [VV.v (.int .i64 c0), .v (.int .i64 c1), .v (.int .i64 c2)][Int.toNat 0 * 1]?) = c0 from rfl, show (iv [VV.v (.int .i64 o0), .v (.int .i64 o1), .v (.int .i64 o2)][0 + Int.toNat 0 * 1]?) = o0 from rfl, p0.2, w0]
  rw [L_o_0]
  unfold B_o_0 Bg_o_0
  dsimp only
  refine bp rfl (bp rfl (bp rfl (bp rfl (bp rfl (bp rfl (bp rfl (bp p1.1 (bp rfl (bp rfl ?_)))))))))
  rw [show (iv [VV.v (.int .i64 c0), .v (.int .i64 c1), .v (.int .i64 c2)][Int.toNat 1 * 1]?) = c1 from rfl, show (iv [VV.v (.int .i64 o0), .v (.int .i64 o1), .v (.int .i64 o2)][0 + Int.toNat 1 * 1]?) = o1 from rfl, p1.2, w1]
  rw [L_o_0]
  unfold B_o_0 Bg_o_0
  dsimp only
  refine bp rfl (bp rfl (bp rfl (bp rfl (bn rfl ?_))))
  rw [show (iv [VV.v (.int .i64 c0), .v (.int .i64 c1), .v (.int .i64 c2)][Int.toNat 2 * 1]?) = c2 from rfl, w2]
  rw [L_o_0]
  unfold B_o_0 Bg_o_0
  dsimp only
  refine bn rfl (bp rfl rfl)
theorem f_o_3 (F : Nat) (hF : 200 ≤ F) {g s l h c0 c1 c2 o0 o1 o2 q0 q1 q2 : Int} (p0 : ok_b F g s l h c0 o0 = true ∧ o_b_0 F g s l h c0 o0 = q0) (p1 : ok_b F g s l h c1 o1 = true ∧ o_b_0 F g s l h c1 o1 = q1) (p2 : ok_b F g s l h c2 o2 = true ∧ o_b_0 F g s l h c2 o2 = q2) :
    f_o F g s l h c0 c1 c2 o0 o1 o2 3 = some (.v (.agg #[.int .i64 q0, .int .i64 q1, .int .i64 q2])) := by
  obtain ⟨G, hG⟩ : ∃ G, F = G + 4 := ⟨F - 4, by omega⟩
  have w0 : IntKind.wrap .i64 (0 + 1) = 1 := by decide
  have w1 : IntKind.wrap .i64 (1 + 1) = 2 := by decide
  have w2 : IntKind.wrap .i64 (2 + 1) = 3 := by decide
  unfold f_o fg_o
  rw [show L_o_0 F _ F = L_o_0 F _ (G + 4) from congrArg (L_o_0 F _) hG]
  rw [L_o_0]
  unfold B_o_0 Bg_o_0
  dsimp only
  refine bp rfl (bp rfl (bp rfl (bp rfl (bp rfl (bp rfl (bp rfl (bp p0.1 (bp rfl (bp rfl ?_)))))))))
  rw [show (iv [VV.v (.int .i64 c0), .v (.int .i64 c1), .v (.int .i64 c2)][Int.toNat 0 * 1]?) = c0 from rfl, show (iv [VV.v (.int .i64 o0), .v (.int .i64 o1), .v (.int .i64 o2)][0 + Int.toNat 0 * 1]?) = o0 from rfl, p0.2, w0]
  rw [L_o_0]
  unfold B_o_0 Bg_o_0
  dsimp only
  refine bp rfl (bp rfl (bp rfl (bp rfl (bp rfl (bp rfl (bp rfl (bp p1.1 (bp rfl (bp rfl ?_)))))))))
  rw [show (iv [VV.v (.int .i64 c0), .v (.int .i64 c1), .v (.int .i64 c2)][Int.toNat 1 * 1]?) = c1 from rfl, show (iv [VV.v (.int .i64 o0), .v (.int .i64 o1), .v (.int .i64 o2)][0 + Int.toNat 1 * 1]?) = o1 from rfl, p1.2, w1]
  rw [L_o_0]
  unfold B_o_0 Bg_o_0
  dsimp only
  refine bp rfl (bp rfl (bp rfl (bp rfl (bp rfl (bp rfl (bp rfl (bp p2.1 (bp rfl (bp rfl ?_)))))))))
  rw [show (iv [VV.v (.int .i64 c0), .v (.int .i64 c1), .v (.int .i64 c2)][Int.toNat 2 * 1]?) = c2 from rfl, show (iv [VV.v (.int .i64 o0), .v (.int .i64 o1), .v (.int .i64 o2)][0 + Int.toNat 2 * 1]?) = o2 from rfl, p2.2, w2]
  rw [L_o_0]
  unfold B_o_0 Bg_o_0
  dsimp only
  refine bn rfl (bp rfl rfl)
theorem f_d_3 (F : Nat) (hF : 200 ≤ F) {g s l h c0 c1 c2 o0 o1 o2 q0 q1 q2 : Int} (p0 : ok_c F g s l h c0 o0 = true ∧ o_c_0 F g s l h c0 o0 = q0) (p1 : ok_c F g s l h c1 o1 = true ∧ o_c_0 F g s l h c1 o1 = q1) (p2 : ok_c F g s l h c2 o2 = true ∧ o_c_0 F g s l h c2 o2 = q2) :
    f_d F g s l h c0 c1 c2 o0 o1 o2 3 = some (.v (.agg #[.int .i64 q0, .int .i64 q1, .int .i64 q2])) := by
  obtain ⟨G, hG⟩ : ∃ G, F = G + 4 := ⟨F - 4, by omega⟩
  have w0 : IntKind.wrap .i64 (0 + 1) = 1 := by decide
  have w1 : IntKind.wrap .i64 (1 + 1) = 2 := by decide
  have w2 : IntKind.wrap .i64 (2 + 1) = 3 := by decide
  unfold f_d fg_d
  rw [show L_d_0 F _ F = L_d_0 F _ (G + 4) from congrArg (L_d_0 F _) hG]
  rw [L_d_0]
  unfold B_d_0 Bg_d_0
  dsimp only
  refine bp rfl (bp rfl (bp rfl (bp rfl (bp rfl (bp rfl (bp rfl (bp p0.1 (bp rfl (bp rfl ?_)))))))))
  rw [show (iv [VV.v (.int .i64 c0), .v (.int .i64 c1), .v (.int .i64 c2)][Int.toNat 0 * 1]?) = c0 from rfl, show (iv [VV.v (.int .i64 o0), .v (.int .i64 o1), .v (.int .i64 o2)][0 + Int.toNat 0 * 1]?) = o0 from rfl, p0.2, w0]
  rw [L_d_0]
  unfold B_d_0 Bg_d_0
  dsimp only
  refine bp rfl (bp rfl (bp rfl (bp rfl (bp rfl (bp rfl (bp rfl (bp p1.1 (bp rfl (bp rfl ?_)))))))))
  rw [show (iv [VV.v (.int .i64 c0), .v (.int .i64 c1), .v (.int .i64 c2)][Int.toNat 1 * 1]?) = c1 from rfl, show (iv [VV.v (.int .i64 o0), .v (.int .i64 o1), .v (.int .i64 o2)][0 + Int.toNat 1 * 1]?) = o1 from rfl, p1.2, w1]
  rw [L_d_0]
  unfold B_d_0 Bg_d_0
  dsimp only
  refine bp rfl (bp rfl (bp rfl (bp rfl (bp rfl (bp rfl (bp rfl (bp p2.1 (bp rfl (bp rfl ?_)))))))))
  rw [show (iv [VV.v (.int .i64 c0), .v (.int .i64 c1), .v (.int .i64 c2)][Int.toNat 2 * 1]?) = c2 from rfl, show (iv [VV.v (.int .i64 o0), .v (.int .i64 o1), .v (.int .i64 o2)][0 + Int.toNat 2 * 1]?) = o2 from rfl, p2.2, w2]
  rw [L_d_0]
  unfold B_d_0 Bg_d_0
  dsimp only
  refine bn rfl (bp rfl rfl)
end Go.Xv
namespace Go.Xv
theorem ax1 {n k p c : Int} (h : k < n) : axV n k p c = p := if_pos h
theorem ax0 {n k p c : Int} (h : ¬ k < n) : axV n k p c = c := if_neg h
theorem n_cases {n : Int} (h0 : 0 ≤ n) (h1 : n ≤ 3) : n = 0 ∨ n = 1 ∨ n = 2 ∨ n = 3 := by omega
theorem a_each (F : Nat) (hF : 200 ≤ F) {g s l h c0 c1 c2 o0 o1 o2 n : Int} (hr : RuleOK g s l h) (hs : I64 s) (hl : I64 l) (hc0 : I64 c0) (hc1 : I64 c1) (hc2 : I64 c2) (ho0 : I64 o0) (ho1 : I64 o1) (ho2 : I64 o2) (hn0 : 0 ≤ n) (hn1 : n ≤ 3) :
    ok_o F g s l h c0 c1 c2 o0 o1 o2 n = true ∧ o_o_0 F g s l h c0 c1 c2 o0 o1 o2 n = axV n 0 (pullV g s l c0 o0) c0 ∧ o_o_1 F g s l h c0 c1 c2 o0 o1 o2 n = axV n 1 (pullV g s l c1 o1) c1 ∧ o_o_2 F g s l h c0 c1 c2 o0 o1 o2 n = axV n 2 (pullV g s l c2 o2) c2 := by
  have p0 := a_pulled F (c := c0) (off := o0) hr hs hl hc0 ho0
  have p1 := a_pulled F (c := c1) (off := o1) hr hs hl hc1 ho1
  have p2 := a_pulled F (c := c2) (off := o2) hr hs hl hc2 ho2
  rcases n_cases hn0 hn1 with rfl | rfl | rfl | rfl
  · rw [ax0 (by decide), ax0 (by decide), ax0 (by decide)]; exact k_o F _ _ _ _ _ _ _ _ _ _ _ (f_o_0 F hF)
  · rw [ax1 (by decide), ax0 (by decide), ax0 (by decide)]; exact k_o F _ _ _ _ _ _ _ _ _ _ _ (f_o_1 F hF p0)
  · rw [ax1 (by decide), ax1 (by decide), ax0 (by decide)]; exact k_o F _ _ _ _ _ _ _ _ _ _ _ (f_o_2 F hF p0 p1)
  · rw [ax1 (by decide), ax1 (by decide), ax1 (by decide)]; exact k_o F _ _ _ _ _ _ _ _ _ _ _ (f_o_3 F hF p0 p1 p2)
theorem a_eachv1 (F : Nat) (hF : 200 ≤ F) {g s l h c0 c1 c2 : Int} (h0 : 0 ≤ s) (hs : I64 s) (hc0 : I64 c0) (hc1 : I64 c1) (hc2 : I64 c2) :
    ok_d F g s l h c0 c1 c2 0 0 0 3 = true ∧ o_d_0 F g s l h c0 c1 c2 0 0 0 3 = fadeV s c0 ∧ o_d_1 F g s l h c0 c1 c2 0 0 0 3 = fadeV s c1 ∧ o_d_2 F g s l h c0 c1 c2 0 0 0 3 = fadeV s c2 :=
  k_d F _ _ _ _ _ _ _ _ _ _ _ (f_d_3 F hF (a_faded F h0 hs hc0) (a_faded F h0 hs hc1) (a_faded F h0 hs hc2))
def PullOK (g s l h c0 c1 c2 la n t : Int) : Prop := RuleOK g s l h ∧ CorrOK l c0 c1 c2 la ∧ (la ≤ t ∧ t ≤ 1099511627776) ∧ 0 ≤ n ∧ n ≤ 3
instance (g s l h c0 c1 c2 la n t : Int) : Decidable (PullOK g s l h c0 c1 c2 la n t) := by unfold PullOK; infer_instance
theorem corr_I {l c0 c1 c2 t : Int} (hl : I64 l) (h : CorrOK l c0 c1 c2 t) : I64 c0 ∧ I64 c1 ∧ I64 c2 := by unfold CorrOK at h; unfold I64 at *; omega
theorem five {a b c d e a' b' c' d' e' : Int} (h1 : a = a') (h2 : b = b') (h3 : c = c') (h4 : d = d') (h5 : e = e') : (some (VV.v (.tuple #[.agg #[.int .i64 a, .int .i64 b, .int .i64 c, .int .i64 d], .int .i64 e])) : R) = some (.v (.tuple #[.agg #[.int .i64 a', .int .i64 b', .int .i64 c', .int .i64 d'], .int .i64 e'])) := by rw [h1, h2, h3, h4, h5]
theorem f_fPull_ok (F : Nat) (hF : 200 ≤ F) {g s l h c0 c1 c2 la o0 o1 o2 n t : Int} (hs : I64 s) (hl : I64 l) (ho0 : I64 o0) (ho1 : I64 o1) (ho2 : I64 o2) (hp : PullOK g s l h c0 c1 c2 la n t) :
    f_n F g s l h c0 c1 c2 la o0 o1 o2 n t = some (.v (.tuple #[.agg #[.int .i64 (axV n 0 (pullV g s l c0 o0) c0), .int .i64 (axV n 1 (pullV g s l c1 o1) c1), .int .i64 (axV n 2 (pullV g s l c2 o2) c2), .int .i64 t], .int .i64 0])) := by
  obtain ⟨hr, hc, ht, hn0, hn1⟩ := hp
  obtain ⟨i0, i1, i2⟩ := corr_I hl hc
  unfold f_n fg_n
  obtain ⟨m1, m2⟩ := a_fmay F hF (g := g) (s := s) (h := h) (c0 := c0) (c1 := c1) (c2 := c2) (la := la) (t := t) hl
  obtain ⟨e0, e1, e2, e3⟩ := a_each F hF hr hs hl i0 i1 i2 ho0 ho1 ho2 hn0 hn1
  refine bp m1 (bn (by rw [m2, dt ⟨hr, hc, ht⟩]; rfl) (bn (df (by omega)) (bn (df (by omega)) (bp e0 (five e1 e2 e3 rfl rfl)))))
theorem f_fPull_no (F : Nat) (hF : 200 ≤ F) {g s l h c0 c1 c2 la o0 o1 o2 n t : Int} (hl : I64 l) (hp : ¬ PullOK g s l h c0 c1 c2 la n t) :
    f_n F g s l h c0 c1 c2 la o0 o1 o2 n t = some (.v (.tuple #[.agg #[.int .i64 0, .int .i64 0, .int .i64 0, .int .i64 0], .int .i64 2])) := by
  unfold f_n fg_n
  obtain ⟨m1, m2⟩ := a_fmay F hF (g := g) (s := s) (h := h) (c0 := c0) (c1 := c1) (c2 := c2) (la := la) (t := t) hl
  refine bp m1 ?_
  rw [m2]
  by_cases h1 : RuleOK g s l h ∧ CorrOK l c0 c1 c2 la ∧ la ≤ t ∧ t ≤ 1099511627776
  · refine bn (by rw [dt h1]; rfl) ?_
    by_cases h2 : n < 0
    · exact bp (dt h2) rfl
    refine bn (df h2) ?_
    by_cases h3 : n > 3
    · exact bp (dt h3) rfl
    exact absurd ⟨h1.1, h1.2.1, h1.2.2, by omega, by omega⟩ hp
  · exact bp (by rw [df h1]; rfl) rfl
def FadeOK (g s l h c0 c1 c2 la t : Int) : Prop := RuleOK g s l h ∧ CorrOK l c0 c1 c2 la ∧ (la ≤ t ∧ t ≤ 1099511627776)
instance (g s l h c0 c1 c2 la t : Int) : Decidable (FadeOK g s l h c0 c1 c2 la t) := by unfold FadeOK; infer_instance
def fdV (s h la t c : Int) : Int := if t - la ≤ h then c else fadeV s c
theorem f_fFade_ok (F : Nat) (hF : 200 ≤ F) {g s l h c0 c1 c2 la t : Int} (hs : I64 s) (hl : I64 l) (hp : FadeOK g s l h c0 c1 c2 la t) :
    f_m F g s l h c0 c1 c2 la t = some (.v (.tuple #[.agg #[.int .i64 (fdV s h la t c0), .int .i64 (fdV s h la t c1), .int .i64 (fdV s h la t c2), .int .i64 la], .int .i64 0])) := by
  obtain ⟨hr, hc, ht⟩ := hp
  obtain ⟨i0, i1, i2⟩ := corr_I hl hc
  unfold f_m fg_m
  obtain ⟨m1, m2⟩ := a_fmay F hF (g := g) (s := s) (h := h) (c0 := c0) (c1 := c1) (c2 := c2) (la := la) (t := t) hl
  obtain ⟨e0, e1, e2, e3⟩ := a_eachv1 F hF (g := g) (l := l) (h := h) hr.2.2.1 hs i0 i1 i2
  refine bp m1 (bn (by rw [m2, dt ⟨hr, hc, ht⟩]; rfl) ?_)
  have hla := hc.1
  rw [wi64_in (by unfold I64; omega)]
  unfold fdV
  by_cases h1 : t - la ≤ h
  · refine bp (dt h1) ?_
    rw [if_pos h1, if_pos h1, if_pos h1]
  · refine bn (df h1) (bp e0 ?_)
    rw [if_neg h1, if_neg h1, if_neg h1]
    exact five e1 e2 e3 rfl rfl
theorem hi0 : hi 0 = 0 := by decide
theorem lo0 : lo 0 = 0 := by decide
theorem a_fSum3 (F : Nat) (hF : 200 ≤ F) {a b c : Int} (ha : I64 a) (hb : I64 b) (hc : I64 c) : ok_y F [.v (.int .i64 a), .v (.int .i64 b), .v (.int .i64 c)] 3 = true ∧ o_y_0 F [.v (.int .i64 a), .v (.int .i64 b), .v (.int .i64 c)] 3 = clipV (a + b + c) ∧ o_y_1 F [.v (.int .i64 a), .v (.int .i64 b), .v (.int .i64 c)] 3 = clipC (a + b + c) := by
  refine k_y F _ _ ?_
  obtain ⟨G, hG⟩ : ∃ G, F = G + 4 := ⟨F - 4, by omega⟩
  have w0 : IntKind.wrap .i64 (0 + 1) = 1 := by decide
  have w1 : IntKind.wrap .i64 (1 + 1) = 2 := by decide
  have w2 : IntKind.wrap .i64 (2 + 1) = 3 := by decide
  obtain ⟨o1, o2, o3⟩ := a_fof F ha
  obtain ⟨p1, p2, p3⟩ := a_fof F hb
  obtain ⟨q1, q2, q3⟩ := a_fof F hc
  have s := a_Add F 0 a
  rw [hi0, lo0, Int.zero_add] at s
  obtain ⟨s1, s2, s3⟩ := s
  obtain ⟨t1, t2, t3⟩ := a_Add F a b
  obtain ⟨u1, u2, u3⟩ := a_Add F (a + b) c
  obtain ⟨c1, c2, c3⟩ := a_fclip F (z := a + b + c) (by unfold I64 at *; unfold W128; omega)
  unfold f_y fg_y
  rw [show L_y_0 F _ F = L_y_0 F _ (G + 4) from congrArg (L_y_0 F _) hG, L_y_0]
  unfold B_y_0 Bg_y_0
  dsimp only
  refine bp rfl (bp rfl (bp rfl ?_))
  rw [show (iv [VV.v (.int .i64 a), .v (.int .i64 b), .v (.int .i64 c)][0 + Int.toNat 0 * 1]?) = a from rfl]
  refine bp o1 ?_
  rw [o2, o3]
  refine bp s1 ?_
  rw [s2, s3, w0, L_y_0]
  unfold B_y_0 Bg_y_0
  dsimp only
  refine bp rfl (bp rfl (bp rfl ?_))
  rw [show (iv [VV.v (.int .i64 a), .v (.int .i64 b), .v (.int .i64 c)][0 + Int.toNat 1 * 1]?) = b from rfl]
  refine bp p1 ?_
  rw [p2, p3]
  refine bp t1 ?_
  rw [t2, t3, w1, L_y_0]
  unfold B_y_0 Bg_y_0
  dsimp only
  refine bp rfl (bp rfl (bp rfl ?_))
  rw [show (iv [VV.v (.int .i64 a), .v (.int .i64 b), .v (.int .i64 c)][0 + Int.toNat 2 * 1]?) = c from rfl]
  refine bp q1 ?_
  rw [q2, q3]
  refine bp u1 ?_
  rw [u2, u3, w2, L_y_0]
  unfold B_y_0 Bg_y_0
  dsimp only
  refine bn rfl (bp c1 ?_)
  rw [c2, c3]
def nnV (x : Int) : Int := if 0 > x then 0 else x
def capV (t : Int) : Int := if 65535 < nnV t then 65535 else nnV t
theorem nn_I {x : Int} (h : I64 x) : I64 (nnV x) ∧ 0 ≤ nnV x := by unfold nnV; unfold I64 at *; split <;> omega
theorem cap_b (t : Int) : 0 ≤ capV t ∧ capV t ≤ 65535 := by unfold capV nnV; split <;> split <;> omega
def boundV (h k g t : Int) : Int := clipV (nnV h + nnV g + clipV (nnV k * capV t))
theorem prod_cap {k n : Int} (h0 : 0 ≤ k) (h1 : k ≤ 9223372036854775807) (hn : 0 < n) : (k > Int.tdiv 9223372036854775807 n ↔ 9223372036854775807 < k * n) := by
  rw [Int.tdiv_eq_ediv_of_nonneg (by omega)]
  constructor
  · intro h
    exact (Int.ediv_lt_iff_lt_mul hn).1 h
  · intro h
    exact (Int.ediv_lt_iff_lt_mul hn).2 h
theorem prod_b {k n : Int} (h0 : 0 ≤ k) (h1 : k ≤ 9223372036854775807) (hn : 0 ≤ n) (hn2 : n ≤ 65535) : 0 ≤ k * n ∧ k * n ≤ 9223372036854775807 * 65535 := by
  refine ⟨Int.mul_nonneg h0 hn, ?_⟩
  exact Int.mul_le_mul h1 hn2 hn (by omega)
theorem a_fBound (F : Nat) (hF : 200 ≤ F) {h k g t : Int} (hh : I64 h) (hk : I64 k) (hg : I64 g) : ok_h F h k g t = true ∧ o_h_0 F h k g t = boundV h k g t := by
  refine k_h F _ _ _ _ ?_
  unfold f_h fg_h
  dsimp only
  rw [show (if 65535 < (if 0 > t then 0 else t) then 65535 else (if 0 > t then 0 else t)) = capV t from rfl, show (if 0 > k then 0 else k) = nnV k from rfl, show (if 0 > h then 0 else h) = nnV h from rfl, show (if 0 > g then 0 else g) = nnV g from rfl]
  obtain ⟨b0, b1⟩ := cap_b t
  obtain ⟨kI, k0⟩ := nn_I hk
  obtain ⟨hI, _⟩ := nn_I hh
  obtain ⟨gI, _⟩ := nn_I hg
  have k1 : nnV k ≤ 9223372036854775807 := by unfold I64 at kI; omega
  obtain ⟨z0, z1⟩ := prod_b k0 k1 b0 b1
  have fin : ∀ d, I64 d → d = clipV (nnV k * capV t) → (bif ok_y F [.v (.int .i64 (nnV h)), .v (.int .i64 (nnV g)), .v (.int .i64 d)] 3 then (some (.v (.int .i64 (o_y_0 F [.v (.int .i64 (nnV h)), .v (.int .i64 (nnV g)), .v (.int .i64 d)] 3))) : R) else none) = some (.v (.int .i64 (boundV h k g t))) := by
    intro d hd he
    obtain ⟨s1, s2, _⟩ := a_fSum3 F hF hI gI hd
    refine bp s1 (some_int ?_)
    rw [s2, he]
    rfl
  by_cases hn : capV t > 0
  · refine bp (dt hn) (bp (by rw [df (by omega)]; rfl) ?_)
    have hq : Int.tdiv 9223372036854775807 (capV t) ≤ 9223372036854775807 ∧ 0 ≤ Int.tdiv 9223372036854775807 (capV t) := by
      rw [Int.tdiv_eq_ediv_of_nonneg (by omega)]
      exact ⟨Int.ediv_le_self _ (by omega), Int.ediv_nonneg (by omega) (by omega)⟩
    rw [wi64_in (by unfold I64; omega)]
    by_cases hp : nnV k > Int.tdiv 9223372036854775807 (capV t)
    · refine bp (dt hp) (fin _ (by unfold I64; omega) ?_)
      have := (prod_cap k0 k1 hn).1 hp
      unfold clipV
      rw [if_neg (by omega), if_pos this]
    · refine bn (df hp) (fin _ ?_ ?_)
      · rw [wi64]; unfold I64; omega
      · have := mt (prod_cap k0 k1 hn).2 hp
        rw [wi64_in (by unfold I64; omega), (clip_in (by unfold I64; omega)).1]
  · have e : capV t = 0 := by omega
    refine bn (df hn) (fin _ ?_ ?_)
    · rw [wi64]; unfold I64; omega
    · rw [e, Int.mul_zero]; decide
theorem a_works28 (F : Nat) (hF : 200 ≤ F) : ok_e F = true ∧ o_e_0 F = true := by
  refine k_e F ?_
  unfold f_e fg_e
  dsimp only
  obtain ⟨p0, p1, p2, p3, p4, p5⟩ := k_n F _ _ _ _ _ _ _ _ _ _ _ _ _ (f_fPull_ok F hF (g := 1) (s := 10) (l := 100) (h := 5) (c0 := 0) (c1 := 0) (c2 := 0) (la := 0) (o0 := 6) (o1 := 0) (o2 := 0) (n := 3) (t := 1) (by unfold I64; omega) (by unfold I64; omega) (by unfold I64; omega) (by unfold I64; omega) (by unfold I64; omega) (by decide))
  have e0 : axV 3 0 (pullV 1 10 100 0 6) 0 = 3 := by decide
  have e1 : axV 3 1 (pullV 1 10 100 0 0) 0 = 0 := by decide
  have e2 : axV 3 2 (pullV 1 10 100 0 0) 0 = 0 := by decide
  rw [e0] at p1
  rw [e1] at p2
  rw [e2] at p3
  obtain ⟨q0, q1, q2, q3, q4, q5⟩ := k_n F _ _ _ _ _ _ _ _ _ _ _ _ _ (f_fPull_ok F hF (g := 1) (s := 10) (l := 100) (h := 5) (c0 := 3) (c1 := 0) (c2 := 0) (la := 1) (o0 := 60) (o1 := 0) (o2 := 0) (n := 3) (t := 2) (by unfold I64; omega) (by unfold I64; omega) (by unfold I64; omega) (by unfold I64; omega) (by unfold I64; omega) (by decide))
  have g0 : axV 3 0 (pullV 1 10 100 3 60) 3 = 13 := by decide
  rw [g0] at q1
  rw [e1] at q2
  rw [e2] at q3
  obtain ⟨b1, b2⟩ := a_fBound F hF (h := 1) (k := 2) (g := 3) (t := 4) (by unfold I64; omega) (by unfold I64; omega) (by unfold I64; omega)
  have e3 : boundV 1 2 3 4 = 12 := by decide
  rw [e3] at b2
  rw [p1, p2, p3, p4]
  refine bp p0 (bp q0 (bp rfl (bp (by rw [q1, q2, q3]; rfl) (bp (by rw [p5]; rfl) (bp (by rw [q5]; rfl) (bp (by rw [q4]; rfl) (bp b1 (some_bool (by rw [b2]; rfl)))))))))
end Go.Xv
