/- The sum of any numbers is as the document says: the law returns true for every input, and leaves its arguments as they were. -/
import Derived.Test.YtpcblnkllakejaaF
import Derived.Test.YtpcblnkllakejaaX
import Derived.Test.YtpcblnkllakejaaProg
import Derived.KernelRfl
set_option linter.unusedVariables false
namespace Go.Xv
/- 18 _law02_FixSums -/
def c_law02_FixSums : Cfg := ⟨[0, 2, 3, 4, 5, 6], [], []⟩
def ti_law02_FixSums : List TV := [.fs .hole .hole 1]
def to_law02_FixSums : TV := .v (.bool)
def S_law02_FixSums (F : Nat) : FuncId → List VV → Option (Bool × VV) := words [(79, s_fix_Sum F), (80, s_ref02_Sum F), (68, s_law02_works F)]
def W_law02_FixSums (F : Nat) : List LW := []
def I_law02_FixSums (F : Nat) : Nat → VS → (Exit → VS → R) → R := tabI c_law02_FixSums (W_law02_FixSums F)
def f_law02_FixSums (F : Nat) (a0 : List VV) (a1 : Nat) (a2 : Nat) : R :=
  let v1675 : Int := ((a2 : Nat) : Int)
  let v1676 : Int := (if 60 < v1675 then 60 else v1675)
  bif (((decide (0 ≤ v1676)) && (decide (0 ≤ (Int.toNat v1676)))) && (decide ((Int.toNat v1676) ≤ a2))) then (
    let v1677 : Nat := (Int.toNat v1676)
    bif (ok_fix_Sum F a0 a1 v1677) then (
      bif (ok_ref02_Sum F a0 a1 v1677) then (
        bif ((((o_fix_Sum_0 F a0 a1 v1677)) == ((o_ref02_Sum_0 F a0 a1 v1677)))) then (
          bif ((((o_fix_Sum_1 F a0 a1 v1677)) == ((o_ref02_Sum_1 F a0 a1 v1677)))) then (
            bif (ok_law02_works F) then (
              some (.v (.bool ((o_law02_works_0 F)))))
            else (
              none))
          else (
            some (.v (.bool false))))
        else (
          some (.v (.bool false))))
      else (
        none))
    else (
      none))
  else (
    none)
theorem e_law02_FixSums (F : Nat) (a0 : List VV) (a1 : Nat) (a2 : Nat) : funL PP (S_law02_FixSums F) c_law02_FixSums (I_law02_FixSums F) 18 (fTs ti_law02_FixSums [.c a0, .n a1, .n a2]).1 = f_law02_FixSums F a0 a1 a2 := by
  have h : ∀ (ok_fix_Sum : Nat → List VV → Nat → Nat → Bool) (o_fix_Sum_0 : Nat → List VV → Nat → Nat → Int) (o_fix_Sum_1 : Nat → List VV → Nat → Nat → Bool) (ok_ref02_Sum : Nat → List VV → Nat → Nat → Bool) (o_ref02_Sum_0 : Nat → List VV → Nat → Nat → Int) (o_ref02_Sum_1 : Nat → List VV → Nat → Nat → Bool) (ok_law02_works : Nat → Bool) (o_law02_works_0 : Nat → Bool), funL PP (words [(79, spec ti_fix_Sum to_fix_Sum (fun q => (ok_fix_Sum F (atC (nth q 0)) (atN (nth q 1)) (atN (nth q 2)))) (fun q => [.i (o_fix_Sum_0 F (atC (nth q 0)) (atN (nth q 1)) (atN (nth q 2))), .b (o_fix_Sum_1 F (atC (nth q 0)) (atN (nth q 1)) (atN (nth q 2)))])), (80, spec ti_ref02_Sum to_ref02_Sum (fun q => (ok_ref02_Sum F (atC (nth q 0)) (atN (nth q 1)) (atN (nth q 2)))) (fun q => [.i (o_ref02_Sum_0 F (atC (nth q 0)) (atN (nth q 1)) (atN (nth q 2))), .b (o_ref02_Sum_1 F (atC (nth q 0)) (atN (nth q 1)) (atN (nth q 2)))])), (68, spec ti_law02_works to_law02_works (fun q => (ok_law02_works F )) (fun q => [.b (o_law02_works_0 F )]))]) c_law02_FixSums (tabI c_law02_FixSums []) 18 (fTs ti_law02_FixSums [.c a0, .n a1, .n a2]).1 = (
  let v1675 : Int := ((a2 : Nat) : Int)
  let v1676 : Int := (if 60 < v1675 then 60 else v1675)
  bif (((decide (0 ≤ v1676)) && (decide (0 ≤ (Int.toNat v1676)))) && (decide ((Int.toNat v1676) ≤ a2))) then (
    let v1677 : Nat := (Int.toNat v1676)
    bif (ok_fix_Sum F a0 a1 v1677) then (
      bif (ok_ref02_Sum F a0 a1 v1677) then (
        bif ((((o_fix_Sum_0 F a0 a1 v1677)) == ((o_ref02_Sum_0 F a0 a1 v1677)))) then (
          bif ((((o_fix_Sum_1 F a0 a1 v1677)) == ((o_ref02_Sum_1 F a0 a1 v1677)))) then (
            bif (ok_law02_works F) then (
              some (.v (.bool ((o_law02_works_0 F)))))
            else (
              none))
          else (
            some (.v (.bool false))))
        else (
          some (.v (.bool false))))
      else (
        none))
    else (
      none))
  else (
    none) : R) := by
    intros
    kernel_rfl
  exact (h ok_fix_Sum o_fix_Sum_0 o_fix_Sum_1 ok_ref02_Sum o_ref02_Sum_0 o_ref02_Sum_1 ok_law02_works o_law02_works_0).trans (by kernel_rfl)
def ok_law02_FixSums (F : Nat) (a0 : List VV) (a1 : Nat) (a2 : Nat) : Bool := okT to_law02_FixSums (f_law02_FixSums F a0 a1 a2)
def o_law02_FixSums_0 (F : Nat) (a0 : List VV) (a1 : Nat) (a2 : Nat) : Bool := atB (nth (outT to_law02_FixSums (f_law02_FixSums F a0 a1 a2)) 0)
theorem k_law02_FixSums (F : Nat) (a0 : List VV) (a1 : Nat) (a2 : Nat) {z0 : Bool} (h : f_law02_FixSums F a0 a1 a2 = some (.v (.bool z0))) : ok_law02_FixSums F a0 a1 a2 = true ∧ o_law02_FixSums_0 F a0 a1 a2 = z0 := by
  refine ⟨?_, ?_⟩
  · unfold ok_law02_FixSums; rw [h]; kernel_rfl
  · unfold o_law02_FixSums_0; rw [h]; kernel_rfl
def s_law02_FixSums (F : Nat) : List VV → Option (Bool × VV) := spec ti_law02_FixSums to_law02_FixSums (fun q => (ok_law02_FixSums F (atC (nth q 0)) (atN (nth q 1)) (atN (nth q 2)))) (fun q => [.b (o_law02_FixSums_0 F (atC (nth q 0)) (atN (nth q 1)) (atN (nth q 2)))])
theorem hS_law02_FixSums (F : Nat) : ∀ f, Good PP f (unS (S_law02_FixSums F f)) := words_good fun p hp => by
  simp only [List.mem_cons, List.not_mem_nil, or_false] at hp
  rcases hp with rfl | rfl | rfl
  · exact g_fix_Sum F
  · exact g_ref02_Sum F
  · exact g_law02_works F
theorem hl_law02_FixSums (F : Nat) : ∀ p ∈ loopsIn PP 18, LoopOK PP (S_law02_FixSums F) c_law02_FixSums F (I_law02_FixSums F) p :=
  loops_of [] (by kernel_rfl) all_nil
theorem g_law02_FixSums (F : Nat) : Good PP 18 (unS (s_law02_FixSums F)) :=
  fun_spec (hS_law02_FixSums F) (by kernel_rfl) (by kernel_rfl) (C := c_law02_FixSums) (F := fun q => (f_law02_FixSums F (atC (nth q 0)) (atN (nth q 1)) (atN (nth q 2)))) (fun _ => F) (fun _ => I_law02_FixSums F) (fun _ => hl_law02_FixSums F)
    (fun q => (congrArg (funL PP (S_law02_FixSums F) c_law02_FixSums (I_law02_FixSums F) 18) (show (fTs ti_law02_FixSums q).1 = (fTs ti_law02_FixSums [.c (atC (nth q 0)), .n (atN (nth q 1)), .n (atN (nth q 2))]).1 by kernel_rfl)).trans (e_law02_FixSums F (atC (nth q 0)) (atN (nth q 1)) (atN (nth q 2))))
    (fun _ h => (okT_fill h).trans (congrArg some (by kernel_rfl)))

end Go.Xv
namespace Go.Xv
theorem sum_bd (zs : List Int) (hz : ∀ n ∈ zs, I64 n) : ∀ i, i ≤ zs.length → -(i * 9223372036854775808 : Int) ≤ sumZ zs i ∧ sumZ zs i ≤ i * 9223372036854775808 := by
  intro i
  induction i with
  | zero => intro _; simp [sumZ]
  | succ i ih =>
    intro h
    obtain ⟨h1, h2⟩ := ih (by omega)
    have := hz zs[i] (List.getElem_mem (by omega))
    rw [sumZ_succ zs (by omega)]
    unfold I64 at this
    push_cast
    omega
theorem f_FixSums (F : Nat) (hF : 200 ≤ F) {zs : List Int} {len : Nat} (hz : ∀ n ∈ zs, I64 n) (hl : len ≤ zs.length) : f_law02_FixSums F (zs.map fun n => .v (.int .i64 n)) 0 len = some (.v (.bool true)) := by
  unfold f_law02_FixSums
  dsimp only
  obtain ⟨m, hm, hm1, hm2⟩ : ∃ m : Nat, (if 60 < ((len : Nat) : Int) then 60 else ((len : Nat) : Int)) = (m : Int) ∧ m ≤ len ∧ m ≤ 60 := by
    by_cases h : 60 < ((len : Nat) : Int)
    · exact ⟨60, by rw [if_pos h]; rfl, by omega, by omega⟩
    · exact ⟨len, by rw [if_neg h], by omega, by omega⟩
  rw [hm, Int.toNat_natCast]
  have hb := sum_bd zs hz m (by omega)
  have hW : W128 (sumZ zs m) := by unfold W128; omega
  have e1 : f_fix_Sum F (rowV zs) 0 m = some (cp (sumZ zs m)) := by
    unfold f_fix_Sum
    rw [lp_Sum_0 F _ zs hz m (by omega) (by omega) _ _ _ _ _ m F 0 0 0 0 (by omega) (by omega) rfl (by simp [sumZ]; rfl) (by simp [sumZ]; rfl)]
    obtain ⟨c1, c2, c3⟩ := a_fclip F hW
    refine bp c1 ?_
    rw [c2, c3]
  have e2 : f_ref02_Sum F (rowV zs) 0 m = some (cp (sumZ zs m)) := by
    unfold f_ref02_Sum
    rw [lp_rSum_0 F hF _ zs hz m (by omega) (by omega) _ _ m F 0 0 0 0 (by omega) (by omega) rfl (by simp [sumZ]; rfl) (by simp [sumZ]; rfl)]
    obtain ⟨c1, c2, c3⟩ := a_rclip2 F hW
    refine bp c1 ?_
    rw [c2, c3]
  obtain ⟨h1, h2, h3⟩ := k_fix_Sum F _ _ _ e1
  obtain ⟨g1, g2, g3⟩ := k_ref02_Sum F _ _ _ e2
  obtain ⟨w1, w2⟩ := a_works02 F
  refine bp ?_ (bp h1 (bp g1 (bp (by rw [show (zs.map fun n => VV.v (.int .i64 n)) = rowV zs from rfl, h2, g2]; simp) (bp (by rw [show (zs.map fun n => VV.v (.int .i64 n)) = rowV zs from rfl, h3, g3]; simp) (bp w1 ?_)))))
  · rw [dt (by omega), dt (by omega), dt (by omega)]; rfl
  · rw [w2]
end Go.Xv
namespace Go.Proofs.Ytpcblnkllakejaa.fixSums
open Go.ChangeShapes Go.WideShapes Go.ChangeAt Go.RowKit Go.Xv Go.Proofs.Ytpcblnkllakejaa.base
set_option linter.unusedVariables false
set_option maxRecDepth 100000 in
theorem lifted (os : Os) (started : os.Started) (H : Type) (enc : TypeId × Value → H) :
    ReturnsInHanded {} Try.checked os 18 .any (Rows.fixSumsSpec.pre6 enc Try.prog Try.f18 Rows.fixSumsRow.domain false) (Rows.fixSumsSpec.post enc Try.prog Try.f18 false true false false) := by
  refine returnsInHanded_of_change (C := Try.checked) own started (by kernel_rfl) Try.func18
    (ChangeSpec.witness6 (enc := enc) (C := Try.checked) false ⟨#[], #[.slice none 0 0], []⟩ 8 (by kernel_rfl) (by kernel_rfl) (by kernel_rfl) (by kernel_rfl)) ?_
  intro W base args ds gs before hval0 hW hcnd _
  have hval : ∀ (j : Nat) t v, Try.f18.params[j]? = some t → args[j]? = some v → Value.okWide Try.prog W .any base t v := hval0
  have hW' := hW
  obtain ⟨p, q, hA0, hV, rfl, hfz, hnd⟩ := hW
  have hA : DataW.TrodAll enc Try.prog W 0 (fun _ => true) true Try.f18.params.toList args.toList ds p := hA0
  rw [Try.params18] at hA hval
  obtain ⟨v0, vs0, d0, ds0, p0, q0, hargs, rfl, rfl, h0, r0⟩ := trodAll_cons hA
  obtain ⟨rfl, rfl, rfl⟩ := trodAll_nil r0
  obtain rfl : args = #[v0] := by cases args; simp_all
  obtain ⟨z0, len0, cap0, p0, rfl, hl0, hz0, hw0, hr0⟩ := open_row (e := 27) (k := .i64) (by kernel_rfl) (by kernel_rfl) (by kernel_rfl) (hval 0 77 v0 rfl rfl) h0
  refine law_contract laidOut (g_law02_FixSums fuel0) (bt := 4) (by kernel_rfl) (by kernel_rfl) (by kernel_rfl) (by kernel_rfl) rfl hW' ?_
  refine ⟨[.fs (z0.map fun n => .v (.int .i64 n)) 0 len0 1], rfl, fun i x hx => ?_, unS_of ?_⟩
  · match i, hx with
    | 0, hx => exact ⟨_, rfl, by cases hx; exact hr0 _⟩
    | _ + 1, hx => cases hx
  · obtain ⟨y1, y2⟩ := k_law02_FixSums fuel0 (z0.map fun n => .v (.int .i64 n)) 0 len0 (f_FixSums fuel0 (by unfold fuel0; omega) (fun n hn => wf_i64 (hw0 n hn)) hl0)
    have e : s_law02_FixSums fuel0 [.fs (z0.map fun n => .v (.int .i64 n)) 0 len0 1] = some (ok_law02_FixSums fuel0 (z0.map fun n => .v (.int .i64 n)) 0 len0, .v (.bool (o_law02_FixSums_0 fuel0 (z0.map fun n => .v (.int .i64 n)) 0 len0))) := by kernel_rfl
    rw [e, y1, y2]
theorem over : Rows.fixSumsRow.holds Try.pinned (OpenSpec.ofChange Rows.fixSumsSpec) :=
  OpenClaim.holds_of_wide 18 Try.f18 rfl rfl rfl rfl rfl rfl rfl ⟨rfl, rfl, rfl, rfl, rfl⟩ rfl rfl rfl rfl rfl (by kernel_rfl) Try.func18 (joined_of (P := Try.prog) behind enter_ rfl rfl ⟨rfl, rfl⟩ (by kernel_rfl))
    (of_decide_eq_true (by kernel_rfl)) (by unfold Func.isWrapper; first | (rw [if_pos (by decide +kernel)]; kernel_rfl) | (rw [if_neg (by decide +kernel)]; exact ⟨rfl, rfl⟩))
    (fun os started H enc _ => lifted os started H enc)
/-- The statement. -/
theorem proved : Rows.FixSumsSaid := over
#print axioms proved
end Go.Proofs.Ytpcblnkllakejaa.fixSums
