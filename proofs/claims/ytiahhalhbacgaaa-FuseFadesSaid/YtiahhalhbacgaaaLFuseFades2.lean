/- FuseFades: what nothing pulls is 0 in the end. -/
import Derived.Test.YtiahhalhbacgaaaLFuseFades
namespace Go.Xv
def RuleOK (g s l h : Int) : Prop := 0 ≤ g ∧ g ≤ 16 ∧ 0 ≤ s ∧ 0 ≤ l ∧ 1 ≤ h ∧ h ≤ 65535
instance (g s l h : Int) : Decidable (RuleOK g s l h) := by unfold RuleOK; infer_instance
def CorrOK (l c0 c1 c2 t : Int) : Prop := (0 ≤ t ∧ t ≤ 1099511627776) ∧ (-l ≤ c0 ∧ c0 ≤ l) ∧ (-l ≤ c1 ∧ c1 ≤ l) ∧ (-l ≤ c2 ∧ c2 ≤ l)
instance (l c0 c1 c2 t : Int) : Decidable (CorrOK l c0 c1 c2 t) := by unfold CorrOK; infer_instance
def errV (p : Prop) [Decidable p] : Int := if p then 0 else 2
theorem some_err {p : Prop} [Decidable p] (h : p) : (some (VV.v (.int .i64 0)) : R) = some (.v (.int .i64 (errV p))) := by unfold errV; rw [if_pos h]
theorem some_no {p : Prop} [Decidable p] (h : ¬ p) : (some (VV.v (.int .i64 2)) : R) = some (.v (.int .i64 (errV p))) := by unfold errV; rw [if_neg h]
theorem err_ok {p : Prop} [Decidable p] (h : p) : errV p = 0 := if_pos h
theorem err_no {p : Prop} [Decidable p] (h : ¬ p) : errV p = 2 := if_neg h

theorem a_fCheck (F : Nat) (g s l h : Int) : ok_fuse_Check F g s l h = true ∧ o_fuse_Check_0 F g s l h = errV (RuleOK g s l h) := by
  refine k_fuse_Check F _ _ _ _ ?_
  unfold f_fuse_Check
  by_cases h1 : g < 0
  · exact bp (dt h1) (some_no (by unfold RuleOK; omega))
  refine bn (df h1) ?_
  by_cases h2 : g > 16
  · exact bp (dt h2) (some_no (by unfold RuleOK; omega))
  refine bn (df h2) ?_
  by_cases h3 : s < 0
  · exact bp (dt h3) (some_no (by unfold RuleOK; omega))
  refine bn (df h3) ?_
  by_cases h4 : l < 0
  · exact bp (dt h4) (some_no (by unfold RuleOK; omega))
  refine bn (df h4) ?_
  by_cases h5 : h < 1
  · exact bp (dt h5) (some_no (by unfold RuleOK; omega))
  refine bn (df h5) ?_
  by_cases h6 : h > 65535
  · exact bp (dt h6) (some_no (by unfold RuleOK; omega))
  exact bn (df h6) (some_err (by unfold RuleOK; omega))

theorem a_tick (F : Nat) (t : Int) : ok_fuse_tick F t = true ∧ o_fuse_tick_0 F t = decide (0 ≤ t ∧ t ≤ 1099511627776) := by
  refine k_fuse_tick F _ ?_
  unfold f_fuse_tick
  by_cases h : t ≥ 0
  · exact bp (dt h) (some_bool (decide_eq_decide.2 (by omega)))
  · exact bn (df h) (some_bool (df (by omega)).symm)
theorem clmC_iff {a l : Int} : clmC a l = false ↔ -l ≤ a ∧ a ≤ l ∨ (l < 0 ∧ min (max a (-l)) l = a) := by
  unfold clmC
  simp only [decide_eq_false_iff_not, ne_eq, Classical.not_not]
  omega
theorem a_fRight (F : Nat) (hF : 200 ≤ F) {g s l h c0 c1 c2 t : Int} (hl : I64 l) : ok_fuse_Right F g s l h c0 c1 c2 t = true ∧ o_fuse_Right_0 F g s l h c0 c1 c2 t = errV (RuleOK g s l h ∧ CorrOK l c0 c1 c2 t) := by
  refine k_fuse_Right F _ _ _ _ _ _ _ _ ?_
  unfold f_fuse_Right
  obtain ⟨k1, k2⟩ := a_fCheck F g s l h
  obtain ⟨t1, t2⟩ := a_tick F t
  refine bp k1 ?_
  rw [k2]
  by_cases hr : RuleOK g s l h
  · rw [err_ok hr]
    refine bn rfl (bp t1 ?_)
    rw [t2]
    by_cases ht : 0 ≤ t ∧ t ≤ 1099511627776
    · rw [dt ht]
      obtain ⟨v1, v2, v3, v4, v5⟩ := a_vClamp F hF (a0 := c0) (a1 := c1) (a2 := c2) hl
      refine bn rfl (bp v1 ?_)
      rw [v5]
      have hl0 : max l 0 = l := by unfold RuleOK at hr; omega
      rw [hl0]
      have h0 : 0 ≤ l := by unfold RuleOK at hr; omega
      by_cases hc : (-l ≤ c0 ∧ c0 ≤ l) ∧ (-l ≤ c1 ∧ c1 ≤ l) ∧ (-l ≤ c2 ∧ c2 ≤ l)
      · rw [clmC_iff.2 (.inl hc.1), clmC_iff.2 (.inl hc.2.1), clmC_iff.2 (.inl hc.2.2)]
        exact bn rfl (some_err ⟨hr, ht, hc⟩)
      · refine bp ?_ (some_no fun h => hc h.2.2)
        cases e0 : clmC c0 l
        · cases e1 : clmC c1 l
          · cases e2 : clmC c2 l
            · exfalso
              have := clmC_iff.1 e0
              have := clmC_iff.1 e1
              have := clmC_iff.1 e2
              omega
            · rfl
          · rfl
        · rfl
    · rw [df ht]
      exact bp rfl (some_no fun h => ht h.2.1)
  · rw [err_no hr]
    exact bp rfl (some_no fun h => hr h.1)
theorem a_fmay (F : Nat) (hF : 200 ≤ F) {g s l h c0 c1 c2 la t : Int} (hl : I64 l) : ok_fuse_may F g s l h c0 c1 c2 la t = true ∧ o_fuse_may_0 F g s l h c0 c1 c2 la t = decide (RuleOK g s l h ∧ CorrOK l c0 c1 c2 la ∧ la ≤ t ∧ t ≤ 1099511627776) := by
  refine k_fuse_may F _ _ _ _ _ _ _ _ _ ?_
  unfold f_fuse_may
  obtain ⟨k1, k2⟩ := a_fRight F hF (g := g) (s := s) (h := h) (c0 := c0) (c1 := c1) (c2 := c2) (t := la) hl
  obtain ⟨t1, t2⟩ := a_tick F t
  refine bp k1 ?_
  rw [k2]
  by_cases hr : RuleOK g s l h ∧ CorrOK l c0 c1 c2 la
  · rw [err_ok hr]
    refine bp rfl ?_
    by_cases hle : t ≥ la
    · refine bp (dt hle) (bp t1 ?_)
      rw [t2]
      refine some_bool (decide_eq_decide.2 ?_)
      have := hr.2.1
      constructor
      · intro h; exact ⟨hr.1, hr.2, hle, h.2⟩
      · intro h; exact ⟨by omega, h.2.2.2⟩
    · exact bn (df hle) (some_bool (df fun h => hle h.2.2.1).symm)
  · rw [err_no hr]
    exact bn rfl (some_bool (df fun h => hr ⟨h.1, h.2.1⟩).symm)
def pullV (g s l c off : Int) : Int := clmV (clipV (c + clmV (off / 2 ^ g.toNat) s)) l
def fadeV (s c : Int) : Int := if 0 < c then max (c - s) 0 else min (c + s) 0
theorem cm_I {a m : Int} (h0 : 0 ≤ m) (h1 : m ≤ 9223372036854775807) : I64 (clmV a m) := by unfold clmV I64; omega
theorem I_W {z : Int} (h : I64 z) : W128 z := by unfold I64 at h; unfold W128; omega
theorem neg_in {g : Int} (h0 : 0 ≤ g) (h1 : g ≤ 9223372036854775807) : IntKind.wrap .i64 (0 - g) = -g := by rw [wi64_in (by unfold I64; omega)]; omega
theorem a_fShift (F : Nat) {a g : Int} (ha : I64 a) (h0 : 0 ≤ g) (h1 : g ≤ 16) : ok_fix_Shift F a (-g) = true ∧ o_fix_Shift_0 F a (-g) = a / 2 ^ g.toNat ∧ o_fix_Shift_1 F a (-g) = false := by
  refine k_fix_Shift F _ _ ?_
  unfold f_fix_Shift
  dsimp only
  by_cases hg : g = 0
  · subst hg
    obtain ⟨f1, f2, f3⟩ := a_fof F ha
    refine bp (dt (by omega)) (bp f1 ?_)
    rw [f2, f3, if_neg (by omega)]
    obtain ⟨l1, l2, l3⟩ := a_Left F a (-0)
    refine bp l1 ?_
    rw [l2, l3]
    have e : a * 2 ^ (-0 : Int).toNat = a := by simp
    rw [e]
    obtain ⟨c1, c2, c3⟩ := a_fclip F (I_W ha)
    refine bp c1 ?_
    rw [c2, c3, (clip_in ha).1, (clip_in ha).2]
    have e2 : a / 2 ^ (0 : Int).toNat = a := by simp
    rw [e2]
  · refine bn (df (by omega)) ?_
    rw [if_neg (show ¬ (-64 : Int) > -g by omega)]
    have e : IntKind.wrap .i64 (0 - -g) = g := by rw [wi64_in (by unfold I64; omega)]; omega
    rw [e, if_pos (by omega)]
    refine bp (by rw [df (by omega)]; rfl) ?_
    have e2 : min (Int.toNat g) 64 = g.toNat := by omega
    rw [e2]
    refine congrArg some (congrArg VV.v ?_)
    have e3 : a.fdiv (2 ^ g.toNat) = a / 2 ^ g.toNat := by
      rw [Int.fdiv_eq_ediv_of_nonneg]
      have h3 : (0 : Int) < 2 ^ g.toNat := Int.pow_pos (by decide)
      omega
    rw [e3]
theorem a_pulled (F : Nat) {g s l h c off : Int} (hr : RuleOK g s l h) (hs : I64 s) (hl : I64 l) (hc : I64 c) (ho : I64 off) : ok_fuse_Rule_pulled F g s l h c off = true ∧ o_fuse_Rule_pulled_0 F g s l h c off = pullV g s l c off := by
  refine k_fuse_Rule_pulled F _ _ _ _ _ _ ?_
  unfold f_fuse_Rule_pulled
  dsimp only
  obtain ⟨r1, r2, r3, r4, _, _⟩ := hr
  have hs2 : s ≤ 9223372036854775807 := by unfold I64 at hs; omega
  have hl2 : l ≤ 9223372036854775807 := by unfold I64 at hl; omega
  rw [neg_in r1 (by omega), neg_in r3 hs2, neg_in r4 hl2]
  obtain ⟨a1, a2, _⟩ := a_fShift F ho r1 r2
  refine bp a1 ?_
  rw [a2]
  obtain ⟨b1, b2, _⟩ := clampF F (a := off / 2 ^ g.toNat) r3
  refine bp b1 ?_
  rw [b2]
  obtain ⟨c1, c2, _⟩ := a_fAdd F hc (cm_I (a := off / 2 ^ g.toNat) r3 hs2)
  refine bp c1 ?_
  rw [c2]
  obtain ⟨d1, d2, _⟩ := clampF F (a := clipV (c + clmV (off / 2 ^ g.toNat) s)) r4
  refine bp d1 ?_
  rw [d2]
  rfl
theorem a_faded (F : Nat) {g s l h c off : Int} (hs0 : 0 ≤ s) (hs : I64 s) (hc : I64 c) : ok_fuse_Rule_faded F g s l h c off = true ∧ o_fuse_Rule_faded_0 F g s l h c off = fadeV s c := by
  refine k_fuse_Rule_faded F _ _ _ _ _ _ ?_
  unfold f_fuse_Rule_faded fadeV
  dsimp only
  unfold I64 at *
  by_cases h : c > 0
  · refine bp (dt h) ?_
    rw [wi64_in (by unfold I64; omega), if_pos h]
    exact some_int (by split <;> omega)
  · refine bn (df h) ?_
    rw [wi64_in (by unfold I64; omega), if_neg h]
    exact some_int (by split <;> omega)
def axV (n k p c : Int) : Int := if k < n then p else c
theorem f_fuse_each_0 (F : Nat) (hF : 200 ≤ F) {g s l h c0 c1 c2 o0 o1 o2  : Int}  :
    f_fuse_each F g s l h c0 c1 c2 o0 o1 o2 0 = some (.v (.agg #[.int .i64 c0, .int .i64 c1, .int .i64 c2])) := by
  obtain ⟨G, hG⟩ : ∃ G, F = G + 4 := ⟨F - 4, by omega⟩
  have w0 : IntKind.wrap .i64 (0 + 1) = 1 := by decide
  have w1 : IntKind.wrap .i64 (1 + 1) = 2 := by decide
  have w2 : IntKind.wrap .i64 (2 + 1) = 3 := by decide
  unfold f_fuse_each
  rw [show L_fuse_each_0 F _ F = L_fuse_each_0 F _ (G + 4) from congrArg (L_fuse_each_0 F _) hG]
  rw [L_fuse_each_0]
  unfold B_fuse_each_0
  dsimp only
  refine bp rfl (bp rfl (bp rfl (bp rfl (bn rfl ?_))))
  rw [show (iv [VV.v (.int .i64 c0), .v (.int .i64 c1), .v (.int .i64 c2)][Int.toNat 0 * 1]?) = c0 from rfl, w0]
  rw [L_fuse_each_0]
  unfold B_fuse_each_0
  dsimp only
  refine bp rfl (bp rfl (bp rfl (bp rfl (bn rfl ?_))))
  rw [show (iv [VV.v (.int .i64 c0), .v (.int .i64 c1), .v (.int .i64 c2)][Int.toNat 1 * 1]?) = c1 from rfl, w1]
  rw [L_fuse_each_0]
  unfold B_fuse_each_0
  dsimp only
  refine bp rfl (bp rfl (bp rfl (bp rfl (bn rfl ?_))))
  rw [show (iv [VV.v (.int .i64 c0), .v (.int .i64 c1), .v (.int .i64 c2)][Int.toNat 2 * 1]?) = c2 from rfl, w2]
  rw [L_fuse_each_0]
  unfold B_fuse_each_0
  dsimp only
  refine bn rfl (bp rfl rfl)
theorem f_fuse_each_1 (F : Nat) (hF : 200 ≤ F) {g s l h c0 c1 c2 o0 o1 o2 q0 : Int} (p0 : ok_fuse_Rule_pulled F g s l h c0 o0 = true ∧ o_fuse_Rule_pulled_0 F g s l h c0 o0 = q0) :
    f_fuse_each F g s l h c0 c1 c2 o0 o1 o2 1 = some (.v (.agg #[.int .i64 q0, .int .i64 c1, .int .i64 c2])) := by
  obtain ⟨G, hG⟩ : ∃ G, F = G + 4 := ⟨F - 4, by omega⟩
  have w0 : IntKind.wrap .i64 (0 + 1) = 1 := by decide
  have w1 : IntKind.wrap .i64 (1 + 1) = 2 := by decide
  have w2 : IntKind.wrap .i64 (2 + 1) = 3 := by decide
  unfold f_fuse_each
  rw [show L_fuse_each_0 F _ F = L_fuse_each_0 F _ (G + 4) from congrArg (L_fuse_each_0 F _) hG]
  rw [L_fuse_each_0]
  unfold B_fuse_each_0
  dsimp only
  refine bp rfl (bp rfl (bp rfl (bp rfl (bp rfl (bp rfl (bp rfl (bp p0.1 (bp rfl (bp rfl ?_)))))))))
  rw [show (iv [VV.v (.int .i64 c0), .v (.int .i64 c1), .v (.int .i64 c2)][Int.toNat 0 * 1]?) = c0 from rfl, show (iv [VV.v (.int .i64 o0), .v (.int .i64 o1), .v (.int .i64 o2)][0 + Int.toNat 0 * 1]?) = o0 from rfl, p0.2, w0]
  rw [L_fuse_each_0]
  unfold B_fuse_each_0
  dsimp only
  refine bp rfl (bp rfl (bp rfl (bp rfl (bn rfl ?_))))
  rw [show (iv [VV.v (.int .i64 c0), .v (.int .i64 c1), .v (.int .i64 c2)][Int.toNat 1 * 1]?) = c1 from rfl, w1]
  rw [L_fuse_each_0]
  unfold B_fuse_each_0
  dsimp only
  refine bp rfl (bp rfl (bp rfl (bp rfl (bn rfl ?_))))
  rw [show (iv [VV.v (.int .i64 c0), .v (.int .i64 c1), .v (.int .i64 c2)][Int.toNat 2 * 1]?) = c2 from rfl, w2]
  rw [L_fuse_each_0]
  unfold B_fuse_each_0
  dsimp only
  refine bn rfl (bp rfl rfl)
theorem f_fuse_each_2 (F : Nat) (hF : 200 ≤ F) {g s l h c0 c1 c2 o0 o1 o2 q0 q1 : Int} (p0 : ok_fuse_Rule_pulled F g s l h c0 o0 = true ∧ o_fuse_Rule_pulled_0 F g s l h c0 o0 = q0) (p1 : ok_fuse_Rule_pulled F g s l h c1 o1 = true ∧ o_fuse_Rule_pulled_0 F g s l h c1 o1 = q1) :
    f_fuse_each F g s l h c0 c1 c2 o0 o1 o2 2 = some (.v (.agg #[.int .i64 q0, .int .i64 q1, .int .i64 c2])) := by
  obtain ⟨G, hG⟩ : ∃ G, F = G + 4 := ⟨F - 4, by omega⟩
  have w0 : IntKind.wrap .i64 (0 + 1) = 1 := by decide
  have w1 : IntKind.wrap .i64 (1 + 1) = 2 := by decide
  have w2 : IntKind.wrap .i64 (2 + 1) = 3 := by decide
  unfold f_fuse_each
  rw [show L_fuse_each_0 F _ F = L_fuse_each_0 F _ (G + 4) from congrArg (L_fuse_each_0 F _) hG]
  rw [L_fuse_each_0]
  unfold B_fuse_each_0
  dsimp only
  refine bp rfl (bp rfl (bp rfl (bp rfl (bp rfl (bp rfl (bp rfl (bp p0.1 (bp rfl (bp rfl ?_)))))))))
  rw [show (iv [VV.v (.int .i64 c0), .v (.int .i64 c1), .v (.int .i64 c2)][Int.toNat 0 * 1]?) = c0 from rfl, show (iv [VV.v (.int .i64 o0), .v (.int .i64 o1), .v (.int .i64 o2)][0 + Int.toNat 0 * 1]?) = o0 from rfl, p0.2, w0]
  rw [L_fuse_each_0]
  unfold B_fuse_each_0
  dsimp only
  refine bp rfl (bp rfl (bp rfl (bp rfl (bp rfl (bp rfl (bp rfl (bp p1.1 (bp rfl (bp rfl ?_)))))))))
  rw [show (iv [VV.v (.int .i64 c0), .v (.int .i64 c1), .v (.int .i64 c2)][Int.toNat 1 * 1]?) = c1 from rfl, show (iv [VV.v (.int .i64 o0), .v (.int .i64 o1), .v (.int .i64 o2)][0 + Int.toNat 1 * 1]?) = o1 from rfl, p1.2, w1]
  rw [L_fuse_each_0]
  unfold B_fuse_each_0
  dsimp only
  refine bp rfl (bp rfl (bp rfl (bp rfl (bn rfl ?_))))
  rw [show (iv [VV.v (.int .i64 c0), .v (.int .i64 c1), .v (.int .i64 c2)][Int.toNat 2 * 1]?) = c2 from rfl, w2]
  rw [L_fuse_each_0]
  unfold B_fuse_each_0
  dsimp only
  refine bn rfl (bp rfl rfl)
theorem f_fuse_each_3 (F : Nat) (hF : 200 ≤ F) {g s l h c0 c1 c2 o0 o1 o2 q0 q1 q2 : Int} (p0 : ok_fuse_Rule_pulled F g s l h c0 o0 = true ∧ o_fuse_Rule_pulled_0 F g s l h c0 o0 = q0) (p1 : ok_fuse_Rule_pulled F g s l h c1 o1 = true ∧ o_fuse_Rule_pulled_0 F g s l h c1 o1 = q1) (p2 : ok_fuse_Rule_pulled F g s l h c2 o2 = true ∧ o_fuse_Rule_pulled_0 F g s l h c2 o2 = q2) :
    f_fuse_each F g s l h c0 c1 c2 o0 o1 o2 3 = some (.v (.agg #[.int .i64 q0, .int .i64 q1, .int .i64 q2])) := by
  obtain ⟨G, hG⟩ : ∃ G, F = G + 4 := ⟨F - 4, by omega⟩
  have w0 : IntKind.wrap .i64 (0 + 1) = 1 := by decide
  have w1 : IntKind.wrap .i64 (1 + 1) = 2 := by decide
  have w2 : IntKind.wrap .i64 (2 + 1) = 3 := by decide
  unfold f_fuse_each
  rw [show L_fuse_each_0 F _ F = L_fuse_each_0 F _ (G + 4) from congrArg (L_fuse_each_0 F _) hG]
  rw [L_fuse_each_0]
  unfold B_fuse_each_0
  dsimp only
  refine bp rfl (bp rfl (bp rfl (bp rfl (bp rfl (bp rfl (bp rfl (bp p0.1 (bp rfl (bp rfl ?_)))))))))
  rw [show (iv [VV.v (.int .i64 c0), .v (.int .i64 c1), .v (.int .i64 c2)][Int.toNat 0 * 1]?) = c0 from rfl, show (iv [VV.v (.int .i64 o0), .v (.int .i64 o1), .v (.int .i64 o2)][0 + Int.toNat 0 * 1]?) = o0 from rfl, p0.2, w0]
  rw [L_fuse_each_0]
  unfold B_fuse_each_0
  dsimp only
  refine bp rfl (bp rfl (bp rfl (bp rfl (bp rfl (bp rfl (bp rfl (bp p1.1 (bp rfl (bp rfl ?_)))))))))
  rw [show (iv [VV.v (.int .i64 c0), .v (.int .i64 c1), .v (.int .i64 c2)][Int.toNat 1 * 1]?) = c1 from rfl, show (iv [VV.v (.int .i64 o0), .v (.int .i64 o1), .v (.int .i64 o2)][0 + Int.toNat 1 * 1]?) = o1 from rfl, p1.2, w1]
  rw [L_fuse_each_0]
  unfold B_fuse_each_0
  dsimp only
  refine bp rfl (bp rfl (bp rfl (bp rfl (bp rfl (bp rfl (bp rfl (bp p2.1 (bp rfl (bp rfl ?_)))))))))
  rw [show (iv [VV.v (.int .i64 c0), .v (.int .i64 c1), .v (.int .i64 c2)][Int.toNat 2 * 1]?) = c2 from rfl, show (iv [VV.v (.int .i64 o0), .v (.int .i64 o1), .v (.int .i64 o2)][0 + Int.toNat 2 * 1]?) = o2 from rfl, p2.2, w2]
  rw [L_fuse_each_0]
  unfold B_fuse_each_0
  dsimp only
  refine bn rfl (bp rfl rfl)
theorem f_fuse_eachv1_3 (F : Nat) (hF : 200 ≤ F) {g s l h c0 c1 c2 o0 o1 o2 q0 q1 q2 : Int} (p0 : ok_fuse_Rule_faded F g s l h c0 o0 = true ∧ o_fuse_Rule_faded_0 F g s l h c0 o0 = q0) (p1 : ok_fuse_Rule_faded F g s l h c1 o1 = true ∧ o_fuse_Rule_faded_0 F g s l h c1 o1 = q1) (p2 : ok_fuse_Rule_faded F g s l h c2 o2 = true ∧ o_fuse_Rule_faded_0 F g s l h c2 o2 = q2) :
    f_fuse_eachv1 F g s l h c0 c1 c2 o0 o1 o2 3 = some (.v (.agg #[.int .i64 q0, .int .i64 q1, .int .i64 q2])) := by
  obtain ⟨G, hG⟩ : ∃ G, F = G + 4 := ⟨F - 4, by omega⟩
  have w0 : IntKind.wrap .i64 (0 + 1) = 1 := by decide
  have w1 : IntKind.wrap .i64 (1 + 1) = 2 := by decide
  have w2 : IntKind.wrap .i64 (2 + 1) = 3 := by decide
  unfold f_fuse_eachv1
  rw [show L_fuse_eachv1_0 F _ F = L_fuse_eachv1_0 F _ (G + 4) from congrArg (L_fuse_eachv1_0 F _) hG]
  rw [L_fuse_eachv1_0]
  unfold B_fuse_eachv1_0
  dsimp only
  refine bp rfl (bp rfl (bp rfl (bp rfl (bp rfl (bp rfl (bp rfl (bp p0.1 (bp rfl (bp rfl ?_)))))))))
  rw [show (iv [VV.v (.int .i64 c0), .v (.int .i64 c1), .v (.int .i64 c2)][Int.toNat 0 * 1]?) = c0 from rfl, show (iv [VV.v (.int .i64 o0), .v (.int .i64 o1), .v (.int .i64 o2)][0 + Int.toNat 0 * 1]?) = o0 from rfl, p0.2, w0]
  rw [L_fuse_eachv1_0]
  unfold B_fuse_eachv1_0
  dsimp only
  refine bp rfl (bp rfl (bp rfl (bp rfl (bp rfl (bp rfl (bp rfl (bp p1.1 (bp rfl (bp rfl ?_)))))))))
  rw [show (iv [VV.v (.int .i64 c0), .v (.int .i64 c1), .v (.int .i64 c2)][Int.toNat 1 * 1]?) = c1 from rfl, show (iv [VV.v (.int .i64 o0), .v (.int .i64 o1), .v (.int .i64 o2)][0 + Int.toNat 1 * 1]?) = o1 from rfl, p1.2, w1]
  rw [L_fuse_eachv1_0]
  unfold B_fuse_eachv1_0
  dsimp only
  refine bp rfl (bp rfl (bp rfl (bp rfl (bp rfl (bp rfl (bp rfl (bp p2.1 (bp rfl (bp rfl ?_)))))))))
  rw [show (iv [VV.v (.int .i64 c0), .v (.int .i64 c1), .v (.int .i64 c2)][Int.toNat 2 * 1]?) = c2 from rfl, show (iv [VV.v (.int .i64 o0), .v (.int .i64 o1), .v (.int .i64 o2)][0 + Int.toNat 2 * 1]?) = o2 from rfl, p2.2, w2]
  rw [L_fuse_eachv1_0]
  unfold B_fuse_eachv1_0
  dsimp only
  refine bn rfl (bp rfl rfl)
end Go.Xv
namespace Go.Xv
theorem ax1 {n k p c : Int} (h : k < n) : axV n k p c = p := if_pos h
theorem ax0 {n k p c : Int} (h : ¬ k < n) : axV n k p c = c := if_neg h
theorem n_cases {n : Int} (h0 : 0 ≤ n) (h1 : n ≤ 3) : n = 0 ∨ n = 1 ∨ n = 2 ∨ n = 3 := by omega
theorem a_each (F : Nat) (hF : 200 ≤ F) {g s l h c0 c1 c2 o0 o1 o2 n : Int} (hr : RuleOK g s l h) (hs : I64 s) (hl : I64 l) (hc0 : I64 c0) (hc1 : I64 c1) (hc2 : I64 c2) (ho0 : I64 o0) (ho1 : I64 o1) (ho2 : I64 o2) (hn0 : 0 ≤ n) (hn1 : n ≤ 3) :
    ok_fuse_each F g s l h c0 c1 c2 o0 o1 o2 n = true ∧ o_fuse_each_0 F g s l h c0 c1 c2 o0 o1 o2 n = axV n 0 (pullV g s l c0 o0) c0 ∧ o_fuse_each_1 F g s l h c0 c1 c2 o0 o1 o2 n = axV n 1 (pullV g s l c1 o1) c1 ∧ o_fuse_each_2 F g s l h c0 c1 c2 o0 o1 o2 n = axV n 2 (pullV g s l c2 o2) c2 := by
  have p0 := a_pulled F (c := c0) (off := o0) hr hs hl hc0 ho0
  have p1 := a_pulled F (c := c1) (off := o1) hr hs hl hc1 ho1
  have p2 := a_pulled F (c := c2) (off := o2) hr hs hl hc2 ho2
  rcases n_cases hn0 hn1 with rfl | rfl | rfl | rfl
  · rw [ax0 (by decide), ax0 (by decide), ax0 (by decide)]; exact k_fuse_each F _ _ _ _ _ _ _ _ _ _ _ (f_fuse_each_0 F hF)
  · rw [ax1 (by decide), ax0 (by decide), ax0 (by decide)]; exact k_fuse_each F _ _ _ _ _ _ _ _ _ _ _ (f_fuse_each_1 F hF p0)
  · rw [ax1 (by decide), ax1 (by decide), ax0 (by decide)]; exact k_fuse_each F _ _ _ _ _ _ _ _ _ _ _ (f_fuse_each_2 F hF p0 p1)
  · rw [ax1 (by decide), ax1 (by decide), ax1 (by decide)]; exact k_fuse_each F _ _ _ _ _ _ _ _ _ _ _ (f_fuse_each_3 F hF p0 p1 p2)
theorem a_eachv1 (F : Nat) (hF : 200 ≤ F) {g s l h c0 c1 c2 : Int} (h0 : 0 ≤ s) (hs : I64 s) (hc0 : I64 c0) (hc1 : I64 c1) (hc2 : I64 c2) :
    ok_fuse_eachv1 F g s l h c0 c1 c2 0 0 0 3 = true ∧ o_fuse_eachv1_0 F g s l h c0 c1 c2 0 0 0 3 = fadeV s c0 ∧ o_fuse_eachv1_1 F g s l h c0 c1 c2 0 0 0 3 = fadeV s c1 ∧ o_fuse_eachv1_2 F g s l h c0 c1 c2 0 0 0 3 = fadeV s c2 :=
  k_fuse_eachv1 F _ _ _ _ _ _ _ _ _ _ _ (f_fuse_eachv1_3 F hF (a_faded F h0 hs hc0) (a_faded F h0 hs hc1) (a_faded F h0 hs hc2))
def PullOK (g s l h c0 c1 c2 la n t : Int) : Prop := RuleOK g s l h ∧ CorrOK l c0 c1 c2 la ∧ (la ≤ t ∧ t ≤ 1099511627776) ∧ 0 ≤ n ∧ n ≤ 3
instance (g s l h c0 c1 c2 la n t : Int) : Decidable (PullOK g s l h c0 c1 c2 la n t) := by unfold PullOK; infer_instance
theorem corr_I {l c0 c1 c2 t : Int} (hl : I64 l) (h : CorrOK l c0 c1 c2 t) : I64 c0 ∧ I64 c1 ∧ I64 c2 := by unfold CorrOK at h; unfold I64 at *; omega
theorem five {a b c d e a' b' c' d' e' : Int} (h1 : a = a') (h2 : b = b') (h3 : c = c') (h4 : d = d') (h5 : e = e') : (some (VV.v (.tuple #[.agg #[.int .i64 a, .int .i64 b, .int .i64 c, .int .i64 d], .int .i64 e])) : R) = some (.v (.tuple #[.agg #[.int .i64 a', .int .i64 b', .int .i64 c', .int .i64 d'], .int .i64 e'])) := by rw [h1, h2, h3, h4, h5]
theorem f_fPull_ok (F : Nat) (hF : 200 ≤ F) {g s l h c0 c1 c2 la o0 o1 o2 n t : Int} (hs : I64 s) (hl : I64 l) (ho0 : I64 o0) (ho1 : I64 o1) (ho2 : I64 o2) (hp : PullOK g s l h c0 c1 c2 la n t) :
    f_fuse_Pull F g s l h c0 c1 c2 la o0 o1 o2 n t = some (.v (.tuple #[.agg #[.int .i64 (axV n 0 (pullV g s l c0 o0) c0), .int .i64 (axV n 1 (pullV g s l c1 o1) c1), .int .i64 (axV n 2 (pullV g s l c2 o2) c2), .int .i64 t], .int .i64 0])) := by
  obtain ⟨hr, hc, ht, hn0, hn1⟩ := hp
  obtain ⟨i0, i1, i2⟩ := corr_I hl hc
  unfold f_fuse_Pull
  obtain ⟨m1, m2⟩ := a_fmay F hF (g := g) (s := s) (h := h) (c0 := c0) (c1 := c1) (c2 := c2) (la := la) (t := t) hl
  obtain ⟨e0, e1, e2, e3⟩ := a_each F hF hr hs hl i0 i1 i2 ho0 ho1 ho2 hn0 hn1
  refine bp m1 (bn (by rw [m2, dt ⟨hr, hc, ht⟩]; rfl) (bn (df (by omega)) (bn (df (by omega)) (bp e0 (five e1 e2 e3 rfl rfl)))))
def FadeOK (g s l h c0 c1 c2 la t : Int) : Prop := RuleOK g s l h ∧ CorrOK l c0 c1 c2 la ∧ (la ≤ t ∧ t ≤ 1099511627776)
instance (g s l h c0 c1 c2 la t : Int) : Decidable (FadeOK g s l h c0 c1 c2 la t) := by unfold FadeOK; infer_instance
def fdV (s h la t c : Int) : Int := if t - la ≤ h then c else fadeV s c
theorem f_fFade_ok (F : Nat) (hF : 200 ≤ F) {g s l h c0 c1 c2 la t : Int} (hs : I64 s) (hl : I64 l) (hp : FadeOK g s l h c0 c1 c2 la t) :
    f_fuse_Fade F g s l h c0 c1 c2 la t = some (.v (.tuple #[.agg #[.int .i64 (fdV s h la t c0), .int .i64 (fdV s h la t c1), .int .i64 (fdV s h la t c2), .int .i64 la], .int .i64 0])) := by
  obtain ⟨hr, hc, ht⟩ := hp
  obtain ⟨i0, i1, i2⟩ := corr_I hl hc
  unfold f_fuse_Fade
  obtain ⟨m1, m2⟩ := a_fmay F hF (g := g) (s := s) (h := h) (c0 := c0) (c1 := c1) (c2 := c2) (la := la) (t := t) hl
  obtain ⟨e0, e1, e2, e3⟩ := a_eachv1 F hF (g := g) (l := l) (h := h) hr.2.2.1 hs i0 i1 i2
  refine bp m1 (bn (by rw [m2, dt ⟨hr, hc, ht⟩]; rfl) ?_)
  have hla := hc.1
  rw [wi64_in (by unfold I64; omega)]
  unfold fdV
  by_cases h1 : t - la ≤ h
  · refine bp (dt h1) ?_
    rw [if_pos h1, if_pos h1, if_pos h1]
  · refine bn (df h1) (bp e0 ?_)
    rw [if_neg h1, if_neg h1, if_neg h1]
    exact five e1 e2 e3 rfl rfl
theorem hi0 : hi 0 = 0 := by decide
theorem lo0 : lo 0 = 0 := by decide
theorem a_fSum3 (F : Nat) (hF : 200 ≤ F) {a b c : Int} (ha : I64 a) (hb : I64 b) (hc : I64 c) : ok_fix_Sum F [.v (.int .i64 a), .v (.int .i64 b), .v (.int .i64 c)] 3 = true ∧ o_fix_Sum_0 F [.v (.int .i64 a), .v (.int .i64 b), .v (.int .i64 c)] 3 = clipV (a + b + c) ∧ o_fix_Sum_1 F [.v (.int .i64 a), .v (.int .i64 b), .v (.int .i64 c)] 3 = clipC (a + b + c) := by
  refine k_fix_Sum F _ _ ?_
  obtain ⟨G, hG⟩ : ∃ G, F = G + 4 := ⟨F - 4, by omega⟩
  have w0 : IntKind.wrap .i64 (0 + 1) = 1 := by decide
  have w1 : IntKind.wrap .i64 (1 + 1) = 2 := by decide
  have w2 : IntKind.wrap .i64 (2 + 1) = 3 := by decide
  obtain ⟨o1, o2, o3⟩ := a_fof F ha
  obtain ⟨p1, p2, p3⟩ := a_fof F hb
  obtain ⟨q1, q2, q3⟩ := a_fof F hc
  have s := a_Add F 0 a
  rw [hi0, lo0, Int.zero_add] at s
  obtain ⟨s1, s2, s3⟩ := s
  obtain ⟨t1, t2, t3⟩ := a_Add F a b
  obtain ⟨u1, u2, u3⟩ := a_Add F (a + b) c
  obtain ⟨c1, c2, c3⟩ := a_fclip F (z := a + b + c) (by unfold I64 at *; unfold W128; omega)
  unfold f_fix_Sum
  rw [show L_fix_Sum_0 F _ F = L_fix_Sum_0 F _ (G + 4) from congrArg (L_fix_Sum_0 F _) hG, L_fix_Sum_0]
  unfold B_fix_Sum_0
  dsimp only
  refine bp rfl (bp rfl (bp rfl ?_))
  rw [show (iv [VV.v (.int .i64 a), .v (.int .i64 b), .v (.int .i64 c)][0 + Int.toNat 0 * 1]?) = a from rfl]
  refine bp o1 ?_
  rw [o2, o3]
  refine bp s1 ?_
  rw [s2, s3, w0, L_fix_Sum_0]
  unfold B_fix_Sum_0
  dsimp only
  refine bp rfl (bp rfl (bp rfl ?_))
  rw [show (iv [VV.v (.int .i64 a), .v (.int .i64 b), .v (.int .i64 c)][0 + Int.toNat 1 * 1]?) = b from rfl]
  refine bp p1 ?_
  rw [p2, p3]
  refine bp t1 ?_
  rw [t2, t3, w1, L_fix_Sum_0]
  unfold B_fix_Sum_0
  dsimp only
  refine bp rfl (bp rfl (bp rfl ?_))
  rw [show (iv [VV.v (.int .i64 a), .v (.int .i64 b), .v (.int .i64 c)][0 + Int.toNat 2 * 1]?) = c from rfl]
  refine bp q1 ?_
  rw [q2, q3]
  refine bp u1 ?_
  rw [u2, u3, w2, L_fix_Sum_0]
  unfold B_fix_Sum_0
  dsimp only
  refine bn rfl (bp c1 ?_)
  rw [c2, c3]
def nnV (x : Int) : Int := if 0 > x then 0 else x
def capV (t : Int) : Int := if 65535 < nnV t then 65535 else nnV t
theorem nn_I {x : Int} (h : I64 x) : I64 (nnV x) ∧ 0 ≤ nnV x := by unfold nnV; unfold I64 at *; split <;> omega
theorem cap_b (t : Int) : 0 ≤ capV t ∧ capV t ≤ 65535 := by unfold capV nnV; split <;> split <;> omega
def boundV (h k g t : Int) : Int := clipV (nnV h + nnV g + clipV (nnV k * capV t))
theorem prod_cap {k n : Int} (h0 : 0 ≤ k) (h1 : k ≤ 9223372036854775807) (hn : 0 < n) : (k > Int.tdiv 9223372036854775807 n ↔ 9223372036854775807 < k * n) := by
  rw [Int.tdiv_eq_ediv_of_nonneg (by omega)]
  constructor
  · intro h
    exact (Int.ediv_lt_iff_lt_mul hn).1 h
  · intro h
    exact (Int.ediv_lt_iff_lt_mul hn).2 h
theorem prod_b {k n : Int} (h0 : 0 ≤ k) (h1 : k ≤ 9223372036854775807) (hn : 0 ≤ n) (hn2 : n ≤ 65535) : 0 ≤ k * n ∧ k * n ≤ 9223372036854775807 * 65535 := by
  refine ⟨Int.mul_nonneg h0 hn, ?_⟩
  exact Int.mul_le_mul h1 hn2 hn (by omega)
theorem a_fBound (F : Nat) (hF : 200 ≤ F) {h k g t : Int} (hh : I64 h) (hk : I64 k) (hg : I64 g) : ok_fuse_Bound F h k g t = true ∧ o_fuse_Bound_0 F h k g t = boundV h k g t := by
  refine k_fuse_Bound F _ _ _ _ ?_
  unfold f_fuse_Bound
  dsimp only
  rw [show (if 65535 < (if 0 > t then 0 else t) then 65535 else (if 0 > t then 0 else t)) = capV t from rfl, show (if 0 > k then 0 else k) = nnV k from rfl, show (if 0 > h then 0 else h) = nnV h from rfl, show (if 0 > g then 0 else g) = nnV g from rfl]
  obtain ⟨b0, b1⟩ := cap_b t
  obtain ⟨kI, k0⟩ := nn_I hk
  obtain ⟨hI, _⟩ := nn_I hh
  obtain ⟨gI, _⟩ := nn_I hg
  have k1 : nnV k ≤ 9223372036854775807 := by unfold I64 at kI; omega
  obtain ⟨z0, z1⟩ := prod_b k0 k1 b0 b1
  have fin : ∀ d, I64 d → d = clipV (nnV k * capV t) → (bif ok_fix_Sum F [.v (.int .i64 (nnV h)), .v (.int .i64 (nnV g)), .v (.int .i64 d)] 3 then (some (.v (.int .i64 (o_fix_Sum_0 F [.v (.int .i64 (nnV h)), .v (.int .i64 (nnV g)), .v (.int .i64 d)] 3))) : R) else none) = some (.v (.int .i64 (boundV h k g t))) := by
    intro d hd he
    obtain ⟨s1, s2, _⟩ := a_fSum3 F hF hI gI hd
    refine bp s1 (some_int ?_)
    rw [s2, he]
    rfl
  by_cases hn : capV t > 0
  · refine bp (dt hn) (bp (by rw [df (by omega)]; rfl) ?_)
    have hq : Int.tdiv 9223372036854775807 (capV t) ≤ 9223372036854775807 ∧ 0 ≤ Int.tdiv 9223372036854775807 (capV t) := by
      rw [Int.tdiv_eq_ediv_of_nonneg (by omega)]
      exact ⟨Int.ediv_le_self _ (by omega), Int.ediv_nonneg (by omega) (by omega)⟩
    rw [wi64_in (by unfold I64; omega)]
    by_cases hp : nnV k > Int.tdiv 9223372036854775807 (capV t)
    · refine bp (dt hp) (fin _ (by unfold I64; omega) ?_)
      have := (prod_cap k0 k1 hn).1 hp
      unfold clipV
      rw [if_neg (by omega), if_pos this]
    · refine bn (df hp) (fin _ ?_ ?_)
      · rw [wi64]; unfold I64; omega
      · have := mt (prod_cap k0 k1 hn).2 hp
        rw [wi64_in (by unfold I64; omega), (clip_in (by unfold I64; omega)).1]
  · have e : capV t = 0 := by omega
    refine bn (df hn) (fin _ ?_ ?_)
    · rw [wi64]; unfold I64; omega
    · rw [e, Int.mul_zero]; decide
theorem a_works28 (F : Nat) (hF : 200 ≤ F) : ok_law28_works F = true ∧ o_law28_works_0 F = true := by
  refine k_law28_works F ?_
  unfold f_law28_works
  dsimp only
  obtain ⟨p0, p1, p2, p3, p4, p5⟩ := k_fuse_Pull F _ _ _ _ _ _ _ _ _ _ _ _ _ (f_fPull_ok F hF (g := 1) (s := 10) (l := 100) (h := 5) (c0 := 0) (c1 := 0) (c2 := 0) (la := 0) (o0 := 6) (o1 := 0) (o2 := 0) (n := 3) (t := 1) (by unfold I64; omega) (by unfold I64; omega) (by unfold I64; omega) (by unfold I64; omega) (by unfold I64; omega) (by decide))
  have e0 : axV 3 0 (pullV 1 10 100 0 6) 0 = 3 := by decide
  have e1 : axV 3 1 (pullV 1 10 100 0 0) 0 = 0 := by decide
  have e2 : axV 3 2 (pullV 1 10 100 0 0) 0 = 0 := by decide
  rw [e0] at p1
  rw [e1] at p2
  rw [e2] at p3
  obtain ⟨q0, q1, q2, q3, q4, q5⟩ := k_fuse_Pull F _ _ _ _ _ _ _ _ _ _ _ _ _ (f_fPull_ok F hF (g := 1) (s := 10) (l := 100) (h := 5) (c0 := 3) (c1 := 0) (c2 := 0) (la := 1) (o0 := 60) (o1 := 0) (o2 := 0) (n := 3) (t := 2) (by unfold I64; omega) (by unfold I64; omega) (by unfold I64; omega) (by unfold I64; omega) (by unfold I64; omega) (by decide))
  have g0 : axV 3 0 (pullV 1 10 100 3 60) 3 = 13 := by decide
  rw [g0] at q1
  rw [e1] at q2
  rw [e2] at q3
  obtain ⟨b1, b2⟩ := a_fBound F hF (h := 1) (k := 2) (g := 3) (t := 4) (by unfold I64; omega) (by unfold I64; omega) (by unfold I64; omega)
  have e3 : boundV 1 2 3 4 = 12 := by decide
  rw [e3] at b2
  rw [p1, p2, p3, p4]
  refine bp p0 (bp q0 (bp rfl (bp (by rw [q1, q2, q3]; rfl) (bp (by rw [p5]; rfl) (bp (by rw [q5]; rfl) (bp (by rw [q4]; rfl) (bp b1 (some_bool (by rw [b2]; rfl)))))))))
end Go.Xv
namespace Go.Xv
def I16 (x : Int) : Prop := -32768 ≤ x ∧ x < 32768
theorem wf_i16 {n : Int} (h : (Lit.int .i16 n).wf = true) : I16 n := by
  simp [Lit.wf, IntKind.min, IntKind.max, IntKind.signed, IntKind.bits] at h
  unfold I16; omega
/-- what is left behind i ticks. -/
def Bd (L S H i c : Int) : Prop := (-L ≤ c ∧ c ≤ L) ∧ (H < i → -(max 0 (L - (i - 1 - H) * S)) ≤ c ∧ c ≤ max 0 (L - (i - 1 - H) * S))
theorem bd_step {L S H i c : Int} (hL : 0 ≤ L) (hS : 0 < S) (h : Bd L S H i c) : Bd L S H (i + 1) (fdV S H 0 i c) := by
  obtain ⟨h1, h2⟩ := h
  unfold fdV
  by_cases hi : i - 0 ≤ H
  · rw [if_pos hi]
    refine ⟨h1, fun h3 => ?_⟩
    have e : (i + 1 - 1 - H) * S = 0 := by rw [show i + 1 - 1 - H = 0 by omega, Int.zero_mul]
    rw [e]; omega
  · rw [if_neg hi]
    have h3 := h2 (by omega)
    have e : (i + 1 - 1 - H) * S = (i - 1 - H) * S + S := by rw [show i + 1 - 1 - H = (i - 1 - H) + 1 by omega, Int.add_mul, Int.one_mul]
    unfold Bd
    rw [e]
    generalize (i - 1 - H) * S = w at *
    unfold fadeV
    split <;> omega
theorem lp_Fades (F : Nat) (hF : 200 ≤ F) (ex0) (x0 x1 x2 x3 x4 x5 : Int) (x6 : Bool) {L S H : Int} (hr : RuleOK 0 S L H) (hS : 0 < S ∧ S ≤ 1000) (hL : L ≤ 10000) (hH : H ≤ 1000) {e : Nat} (he : (e : Int) = H + L / S + 1) (he2 : e ≤ 5000) :
    ∀ (k n i : Nat) (x7 c0 c1 c2 : Int), i + k = e + 1 → k < n → 1 ≤ i → Bd L S H i c0 → Bd L S H i c1 → Bd L S H i c2 →
      L_law28_FuseFades_0 F ex0 (fun _ _ _ _ _ _ _ _ _ _ _ _ _ _ _ _ _ v0 v1 v2 _ => some (.v (.bool ((v0 == 0) && ((v1 == 0) && (v2 == 0)))))) n x0 x1 x2 x3 x4 x5 x6 x7 e i x3 x4 x5 0 S L H c0 c1 c2 0 = some (.v (.bool true))
  | _, 0, _, _, _, _, _, _, h, _, _, _, _ => absurd h (by omega)
  | 0, n + 1, i, x7, c0, c1, c2, hi, _, _, b0, b1, b2 => by
    rw [L_law28_FuseFades_0]
    unfold B_law28_FuseFades_0
    dsimp only
    refine bn (df (by omega)) ?_
    have hz : ∀ c, Bd L S H i c → c = 0 := by
      intro c h
      have h3 := h.2 (by have := Int.ediv_nonneg hr.2.2.2.1 (show 0 ≤ S by omega); omega)
      have h4 : L < (L / S + 1) * S := Int.lt_ediv_add_one_mul_self L hS.1
      rw [show (i : Int) - 1 - H = L / S + 1 by omega] at h3
      generalize (L / S + 1) * S = w at *
      omega
    rw [hz c0 b0, hz c1 b1, hz c2 b2]
    rfl
  | k + 1, n + 1, i, x7, c0, c1, c2, hi, hk, h1, b0, b1, b2 => by
    have ih := lp_Fades F hF ex0 x0 x1 x2 x3 x4 x5 x6 hr hS hL hH he he2 k n (i + 1)
    have l0 : 0 ≤ L := hr.2.2.2.1
    obtain ⟨p0, p1, p2, p3, p4, p5⟩ := k_fuse_Fade F _ _ _ _ _ _ _ _ _ (f_fFade_ok F hF (g := 0) (s := S) (l := L) (h := H) (c0 := c0) (c1 := c1) (c2 := c2) (la := 0) (t := i) (by unfold I64; omega) (by unfold I64; omega) ⟨hr, ⟨⟨by omega, by omega⟩, b0.1, b1.1, b2.1⟩, by omega, by omega⟩)
    have s0' := bd_step l0 hS.1 b0
    have s1' := bd_step l0 hS.1 b1
    have s2' := bd_step l0 hS.1 b2
    rw [L_law28_FuseFades_0]
    unfold B_law28_FuseFades_0
    dsimp only
    rw [p1, p2, p3, p4, p5]
    have w : IntKind.wrap .i64 ((i : Int) + 1) = ((i + 1 : Nat) : Int) := by rw [wi64_in (by unfold I64; omega)]; omega
    rw [w]
    have hc : (i : Int) + 1 = ((i + 1 : Nat) : Int) := by omega
    rw [hc] at s0' s1' s2'
    refine bp (dt (by omega)) (bp p0 (bn rfl ?_))
    by_cases hq : (i : Int) ≤ H
    · refine bp (dt hq) (bn ?_ (ih _ _ _ _ (by omega) (by omega) (by omega) s0' s1' s2'))
      unfold fdV
      rw [if_pos (by omega), if_pos (by omega), if_pos (by omega)]
      simp
    · exact bn (df hq) (ih _ _ _ _ (by omega) (by omega) (by omega) s0' s1' s2')
theorem f_FuseFades (F : Nat) (hF : 4000 ≤ F) {a0 a1 a2 a3 a4 a5 : Int} (h0 : U8 a0) (h1 : U8 a1) (h2 : U8 a2) (h3 : I16 a3) (h4 : I16 a4) (h5 : I16 a5) :
    f_law28_FuseFades F a0 a1 a2 a3 a4 a5 = some (.v (.bool true)) := by
  obtain ⟨w0, w1⟩ := a_works28 F (by omega)
  unfold U8 at h0 h1 h2
  unfold I16 at h3 h4 h5
  unfold f_law28_FuseFades
  dsimp only
  have e2 : Int.tmod a2 20 = a2 % 20 := Int.tmod_eq_emod_of_nonneg h2.1
  rw [e2]
  have q0 : IntKind.wrap .i64 a0 = a0 := wi64_in (by unfold I64; omega)
  have q1 : IntKind.wrap .i64 a1 = a1 := wi64_in (by unfold I64; omega)
  have q2 : IntKind.wrap .i64 (a2 % 20) = a2 % 20 := wi64_in (by unfold I64; omega)
  have q3 : IntKind.wrap .i64 a3 = a3 := wi64_in (by unfold I64; omega)
  have q4 : IntKind.wrap .i64 a4 = a4 := wi64_in (by unfold I64; omega)
  have q5 : IntKind.wrap .i64 a5 = a5 := wi64_in (by unfold I64; omega)
  have q6 : IntKind.wrap .i64 (1 + a0) = 1 + a0 := wi64_in (by unfold I64; omega)
  have q7 : IntKind.wrap .i64 (10 * a1) = 10 * a1 := wi64_in (by unfold I64; omega)
  have q8 : IntKind.wrap .i64 (1 + a2 % 20) = 1 + a2 % 20 := wi64_in (by unfold I64; omega)
  rw [q0, q1, q2, q3, q4, q5, q6, q7, q8]
  generalize hS : 1 + a0 = S at *
  generalize hL : 10 * a1 = L at *
  generalize hH : 1 + a2 % 20 = H at *
  have bS : 0 < S ∧ S ≤ 1000 := by omega
  have bL : 0 ≤ L ∧ L ≤ 2550 := by omega
  have bH : 1 ≤ H ∧ H ≤ 20 := by omega
  have hd : Int.tdiv L S = L / S := Int.tdiv_eq_ediv_of_nonneg bL.1
  have bd : 0 ≤ L / S ∧ L / S ≤ L := ⟨Int.ediv_nonneg bL.1 (by omega), Int.ediv_le_self _ bL.1⟩
  have q9 : IntKind.wrap .i64 (L / S) = L / S := wi64_in (by unfold I64; omega)
  have q10 : IntKind.wrap .i64 (H + L / S) = H + L / S := wi64_in (by unfold I64; omega)
  have q11 : IntKind.wrap .i64 (H + L / S + 1) = H + L / S + 1 := wi64_in (by unfold I64; omega)
  rw [hd, q9, q10, q11]
  have hr0 : RuleOK 0 L L H := ⟨by omega, by omega, by omega, by omega, by omega, by omega⟩
  have hr : RuleOK 0 S L H := ⟨by omega, by omega, by omega, by omega, by omega, by omega⟩
  have iL : I64 L := by unfold I64; omega
  obtain ⟨p0, p1, p2, p3, p4, p5⟩ := k_fuse_Pull F _ _ _ _ _ _ _ _ _ _ _ _ _ (f_fPull_ok F (by omega) (g := 0) (s := L) (l := L) (h := H) (c0 := 0) (c1 := 0) (c2 := 0) (la := 0) (o0 := a3) (o1 := a4) (o2 := a5) (n := 3) (t := 0) iL iL (by unfold I64; omega) (by unfold I64; omega) (by unfold I64; omega) ⟨hr0, ⟨⟨by omega, by omega⟩, ⟨by omega, by omega⟩, ⟨by omega, by omega⟩, ⟨by omega, by omega⟩⟩, ⟨by omega, by omega⟩, by omega, by omega⟩)
  rw [ax1 (by decide)] at p1
  rw [ax1 (by decide)] at p2
  rw [ax1 (by decide)] at p3
  rw [p1, p2, p3, p4, p5]
  have bd0 : ∀ v, Bd L S H 1 (pullV 0 L L 0 v) := by
    intro v
    refine ⟨by unfold pullV clmV; omega, fun h => ?_⟩
    exfalso; omega
  refine bp w0 (bn (by rw [w1]; rfl) (bp p0 (bn rfl (bp (by rw [df (by omega)]; rfl) ?_))))
  have eN : H + L / S + 1 = (((H + L / S + 1).toNat : Nat) : Int) := by omega
  rw [eN]
  exact lp_Fades F (by omega) _ a0 a1 a2 a3 a4 a5 false hr bS (by omega) (by omega) (e := (H + L / S + 1).toNat) (by omega) (by omega) (H + L / S + 1).toNat F 1 0 _ _ _ (by omega) (by omega) (by omega) (bd0 a3) (bd0 a4) (bd0 a5)
end Go.Xv
namespace Go.Proofs.Ytiahhalhbacgaaa.fuseFades
open Go.ChangeShapes Go.WideShapes Go.ChangeAt Go.RowKit Go.Xv Go.Proofs.Ytiahhalhbacgaaa.base
set_option linter.unusedVariables false
set_option maxRecDepth 100000 in
theorem lifted (os : Os) (started : os.Started) (H : Type) (enc : TypeId × Value → H) :
    ReturnsInHanded {} Try.checked os 6 .any (Rows.fuseFadesSpec.pre6 enc Try.prog Try.f6 Rows.fuseFadesRow.domain false) (Rows.fuseFadesSpec.post enc Try.prog Try.f6 false true false false) := by
  refine returnsInHanded_of_change (C := Try.checked) own started (by kernel_rfl) Try.func6
    (ChangeSpec.witness6 (enc := enc) (C := Try.checked) false ⟨#[], #[.int .u8 0, .int .u8 0, .int .u8 0, .agg #[.int .i16 0, .int .i16 0, .int .i16 0]], []⟩ 8 (by kernel_rfl) (by kernel_rfl) (by kernel_rfl) (by kernel_rfl)) ?_
  intro W base args ds gs before hval0 hW hcnd _
  have hval : ∀ (j : Nat) t v, Try.f6.params[j]? = some t → args[j]? = some v → Value.okWide Try.prog W .any base t v := hval0
  have hW' := hW
  obtain ⟨p, q, hA0, hV, rfl, hfz, hnd⟩ := hW
  have hA : DataW.TrodAll enc Try.prog W 0 (fun _ => true) true Try.f6.params.toList args.toList ds p := hA0
  rw [Try.params6] at hA hval
  obtain ⟨v0, vs0, d0, ds0, p0, q0, hargs, rfl, rfl, h0, r0⟩ := trodAll_cons hA
  obtain ⟨v1, vs1, d1, ds1, p1, q1, rfl, rfl, rfl, h1, r1⟩ := trodAll_cons r0
  obtain ⟨v2, vs2, d2, ds2, p2, q2, rfl, rfl, rfl, h2, r2⟩ := trodAll_cons r1
  obtain ⟨v3, vs3, d3, ds3, p3, q3, rfl, rfl, rfl, h3, r3⟩ := trodAll_cons r2
  obtain ⟨rfl, rfl, rfl⟩ := trodAll_nil r3
  obtain rfl : args = #[v0, v1, v2, v3] := by cases args; simp_all
  obtain ⟨a0, rfl, wa0⟩ := open_num (k := .u8) (by kernel_rfl) (hval 0 5 v0 rfl rfl) h0
  obtain ⟨a1, rfl, wa1⟩ := open_num (k := .u8) (by kernel_rfl) (hval 1 5 v1 rfl rfl) h1
  obtain ⟨a2, rfl, wa2⟩ := open_num (k := .u8) (by kernel_rfl) (hval 2 5 v2 rfl rfl) h2
  obtain ⟨l3, rfl, f3⟩ := open_flat (ks := [some .i16, some .i16, some .i16]) (by kernel_rfl) (by kernel_rfl) (hval 3 53 v3 rfl rfl) h3
  obtain ⟨a3, l3, rfl, wa3, f3⟩ := fitW_some f3
  obtain ⟨a4, l3, rfl, wa4, f3⟩ := fitW_some f3
  obtain ⟨a5, l3, rfl, wa5, f3⟩ := fitW_some f3
  obtain rfl := fitW_nil f3
  refine law_contract laidOut (g_law28_FuseFades fuel0) (bt := 4) (by kernel_rfl) (by kernel_rfl) (by kernel_rfl) (by kernel_rfl) rfl hW' ?_
  refine ⟨[.v (.int .u8 a0), .v (.int .u8 a1), .v (.int .u8 a2), .v (.agg #[.int .i16 a3, .int .i16 a4, .int .i16 a5])], rfl, fun i x hx => ?_, unS_of ?_⟩
  · match i, hx with
    | 0, hx => exact ⟨_, rfl, by cases hx; exact Rel.v _ _⟩
    | 1, hx => exact ⟨_, rfl, by cases hx; exact Rel.v _ _⟩
    | 2, hx => exact ⟨_, rfl, by cases hx; exact Rel.v _ _⟩
    | 3, hx => exact ⟨_, rfl, by cases hx; exact Rel.v _ _⟩
    | _ + 4, hx => cases hx
  · obtain ⟨y1, y2⟩ := k_law28_FuseFades fuel0 a0 a1 a2 a3 a4 a5 (f_FuseFades fuel0 (by unfold fuel0; omega) (wf_u8 wa0) (wf_u8 wa1) (wf_u8 wa2) (wf_i16 wa3) (wf_i16 wa4) (wf_i16 wa5))
    have e : s_law28_FuseFades fuel0 [.v (.int .u8 a0), .v (.int .u8 a1), .v (.int .u8 a2), .v (.agg #[.int .i16 a3, .int .i16 a4, .int .i16 a5])] = some (ok_law28_FuseFades fuel0 a0 a1 a2 a3 a4 a5, .v (.bool (o_law28_FuseFades_0 fuel0 a0 a1 a2 a3 a4 a5))) := by kernel_rfl
    rw [e, y1, y2]
theorem over : Rows.fuseFadesRow.holds Try.pinned (OpenSpec.ofChange Rows.fuseFadesSpec) :=
  OpenClaim.holds_of_wide 6 Try.f6 rfl rfl rfl rfl rfl rfl rfl ⟨rfl, rfl, rfl, rfl, rfl⟩ rfl rfl rfl rfl rfl (by kernel_rfl) Try.func6 (joined_of (P := Try.prog) behind enter_ rfl rfl ⟨rfl, rfl⟩ (by kernel_rfl))
    (of_decide_eq_true (by kernel_rfl)) (by unfold Func.isWrapper; first | (rw [if_pos (by decide +kernel)]; kernel_rfl) | (rw [if_neg (by decide +kernel)]; exact ⟨rfl, rfl⟩))
    (fun os started H enc _ => lifted os started H enc)
/-- The statement. -/
theorem proved : Rows.FuseFadesSaid := over
#print axioms proved
end Go.Proofs.Ytiahhalhbacgaaa.fuseFades
