/- AttUpright: steps from New on leave an attitude that is off by little, and that may be. -/
import Derived.Test.YtiahhalhbacgaaaLAttUpright3
import Derived.KernelRfl
namespace Go.Xv
theorem a_Sgn (F : Nat) {z : Int} (h0 : 0 ≤ z) (h1 : z < 340282366920938463463374607431768211456) : ok_kb F (hi z) (lo z) = true ∧ decide (o_kb_0 F (hi z) (lo z) < 0) = decide (170141183460469231731687303715884105728 ≤ z) := by
  obtain ⟨e1, e2⟩ := k_kb F _ _ (f_Sign F (a := hi z) (lo_U z))
  refine ⟨e1, ?_⟩
  rw [e2, val_hl]
  have := hi_neg h0 h1
  rw [Bool.eq_iff_iff]
  simp only [decide_eq_true_eq]
  split
  · omega
  · split <;> omega
theorem a_rootW (F : Nat) (hF : 200 ≤ F) {z : Int} (h0 : 0 ≤ z) (h1 : z < 170141183460469231731687303715884105728) : ok_za F (hi z) (lo z) = true ∧ o_za_0 F (hi z) (lo z) = rt z := by
  have h := f_rootWide F hF (hi_I z) (lo_U z)
  rw [val_hl, W_in (by unfold W128; omega)] at h
  unfold rootR at h
  rw [if_neg (by omega)] at h
  obtain ⟨e1, e2, _⟩ := k_za F _ _ h
  exact ⟨e1, e2⟩
theorem len_end {z : Int} (h0 : 0 ≤ z) : (bif decide (rt z > 9223372036854775807) then (some (.v (.tuple #[.int .i64 9223372036854775807, .bool true])) : R) else some (.v (.tuple #[.int .i64 (IntKind.wrap .i64 (rt z)), .bool false]))) = some (.v (.tuple #[.int .i64 (lenV z), .bool (lenC z)])) := by
  have hs := rt_small h0
  have hr := (rt_spec h0).1
  by_cases h : z < 85070591730234615865843651857942052864
  · refine bn (df (by have := hs.2 h; omega)) (len_some ?_ ?_)
    · unfold lenV; rw [if_pos h, wi64_in (by have := hs.2 h; unfold I64; omega)]
    · unfold lenC; rw [df (by omega)]
  · refine bp (dt ?_) (len_some ?_ ?_)
    · rcases Int.lt_or_le 9223372036854775807 (rt z) with hl | hl
      · exact hl
      · exact absurd (hs.1 hl) h
    · unfold lenV; rw [if_neg h]
    · unfold lenC; rw [dt (by omega)]
theorem f_Length (F : Nat) (hF : 200 ≤ F) {a b c : Int} (ha : I64 a) (hb : I64 b) (hc : I64 c) : f_fa F a b c = some (.v (.tuple #[.int .i64 (lenV (sq3 a b c)), .bool (lenC (sq3 a b c))])) := by
  obtain ⟨p1, p2⟩ := a_vbare F ha
  obtain ⟨q1, q2⟩ := a_vbare F hb
  obtain ⟨r1, r2⟩ := a_vbare F hc
  obtain ⟨s1, s2, s3⟩ := a_Square F (sz_U ha)
  obtain ⟨t1, t2, t3⟩ := a_Square F (sz_U hb)
  obtain ⟨u1, u2, u3⟩ := a_Square F (sz_U hc)
  rw [sz_sq] at s2 s3 t2 t3 u2 u3
  have ba := sq_bd64 ha
  have bb := sq_bd64 hb
  have bc := sq_bd64 hc
  obtain ⟨v1, v2, v3⟩ := a_Add F 0 (a * a)
  obtain ⟨w1, w2, w3⟩ := a_Add F (a * a) (b * b)
  obtain ⟨x1, x2, x3⟩ := a_Add F (a * a + b * b) (c * c)
  rw [Int.zero_add] at v2 v3
  have v1' : ok_ub F 0 0 (hi (a * a)) (lo (a * a)) = true := v1
  have v2' : o_ub_0 F 0 0 (hi (a * a)) (lo (a * a)) = hi (a * a) := v2
  have v3' : o_ub_1 F 0 0 (hi (a * a)) (lo (a * a)) = lo (a * a) := v3
  obtain ⟨g1, g2⟩ := a_Sgn F (z := a * a) (by omega) (by omega)
  obtain ⟨i1, i2⟩ := a_Sgn F (z := a * a + b * b) (by omega) (by omega)
  obtain ⟨j1, j2⟩ := a_Sgn F (z := a * a + b * b + c * c) (by omega) (by omega)
  obtain ⟨G, hG⟩ : ∃ G, F = G + 4 := ⟨F - 4, by omega⟩
  have y1 : IntKind.wrap .i64 (0 + 1) = 1 := by decide
  have y2 : IntKind.wrap .i64 (1 + 1) = 2 := by decide
  have y3 : IntKind.wrap .i64 (2 + 1) = 3 := by decide
  unfold f_fa fg_fa
  rw [show L_fa_0 F _ _ F = L_fa_0 F _ _ (G + 4) from congrArg (L_fa_0 F _ _) hG, L_fa_0]
  unfold B_fa_0 Bg_fa_0
  have e0 : (iv [.v (.int .i64 a), .v (.int .i64 b), .v (.int .i64 c)][Int.toNat 0 * 1]?) = a := rfl
  have e1 : (iv [.v (.int .i64 a), .v (.int .i64 b), .v (.int .i64 c)][Int.toNat 1 * 1]?) = b := rfl
  have e2 : (iv [.v (.int .i64 a), .v (.int .i64 b), .v (.int .i64 c)][Int.toNat 2 * 1]?) = c := rfl
  refine bp rfl (bp rfl ?_)
  rw [e0]
  refine bp p1 ?_
  rw [p2]
  refine bp s1 ?_
  rw [s2, s3]
  refine bp v1' ?_
  rw [v2', v3']
  refine bp g1 ?_
  rw [g2]
  refine bn (df (by omega)) ?_
  rw [y1, L_fa_0]
  unfold B_fa_0 Bg_fa_0
  refine bp rfl (bp rfl ?_)
  rw [e1]
  refine bp q1 ?_
  rw [q2]
  refine bp t1 ?_
  rw [t2, t3]
  refine bp w1 ?_
  rw [w2, w3]
  refine bp i1 ?_
  rw [i2]
  by_cases hz : 170141183460469231731687303715884105728 ≤ a * a + b * b
  · exact bp (dt hz) (len_big (by unfold sq3; omega))
  · refine bn (df hz) ?_
    rw [y2, L_fa_0]
    unfold B_fa_0 Bg_fa_0
    refine bp rfl (bp rfl ?_)
    rw [e2]
    refine bp r1 ?_
    rw [r2]
    refine bp u1 ?_
    rw [u2, u3]
    refine bp x1 ?_
    rw [x2, x3]
    refine bp j1 ?_
    rw [j2]
    by_cases hz2 : 170141183460469231731687303715884105728 ≤ a * a + b * b + c * c
    · exact bp (dt hz2) (len_big (by unfold sq3; omega))
    · refine bn (df hz2) ?_
      rw [y3, L_fa_0]
      unfold B_fa_0 Bg_fa_0
      refine bn rfl ?_
      obtain ⟨k1, k2⟩ := a_rootW F hF (z := a * a + b * b + c * c) (by omega) (by omega)
      refine bp k1 ?_
      rw [k2]
      exact len_end (z := a * a + b * b + c * c) (by omega)
theorem a_Length (F : Nat) (hF : 200 ≤ F) {a b c : Int} (ha : I64 a) (hb : I64 b) (hc : I64 c) : ok_fa F a b c = true ∧ o_fa_0 F a b c = lenV (sq3 a b c) ∧ o_fa_1 F a b c = lenC (sq3 a b c) := k_fa F _ _ _ (f_Length F hF ha hb hc)
/-- the greatest axis -/
def gr3 (a b c : Int) : Int := min (max (sz a) (max (sz b) (sz c))) 9223372036854775807
theorem f_Greatest (F : Nat) (hF : 200 ≤ F) {a b c : Int} (ha : I64 a) (hb : I64 b) (hc : I64 c) : f_i F a b c = some (.v (.int .i64 (gr3 a b c))) := by
  obtain ⟨p1, p2⟩ := a_vbare F ha
  obtain ⟨q1, q2⟩ := a_vbare F hb
  obtain ⟨r1, r2⟩ := a_vbare F hc
  have ua := sz_U ha
  have ub := sz_U hb
  have uc := sz_U hc
  obtain ⟨G, hG⟩ : ∃ G, F = G + 4 := ⟨F - 4, by omega⟩
  have y1 : IntKind.wrap .i64 (0 + 1) = 1 := by decide
  have y2 : IntKind.wrap .i64 (1 + 1) = 2 := by decide
  have y3 : IntKind.wrap .i64 (2 + 1) = 3 := by decide
  unfold f_i fg_i
  rw [show L_i_0 F _ F = L_i_0 F _ (G + 4) from congrArg (L_i_0 F _) hG, L_i_0]
  unfold B_i_0 Bg_i_0
  have e0 : (iv [.v (.int .i64 a), .v (.int .i64 b), .v (.int .i64 c)][Int.toNat 0 * 1]?) = a := rfl
  have e1 : (iv [.v (.int .i64 a), .v (.int .i64 b), .v (.int .i64 c)][Int.toNat 1 * 1]?) = b := rfl
  have e2 : (iv [.v (.int .i64 a), .v (.int .i64 b), .v (.int .i64 c)][Int.toNat 2 * 1]?) = c := rfl
  refine bp rfl (bp rfl ?_)
  rw [e0]
  refine bp p1 ?_
  rw [p2, y1, L_i_0]
  unfold B_i_0 Bg_i_0
  refine bp rfl (bp rfl ?_)
  rw [e1]
  refine bp q1 ?_
  rw [q2, y2, L_i_0]
  unfold B_i_0 Bg_i_0
  refine bp rfl (bp rfl ?_)
  rw [e2]
  refine bp r1 ?_
  rw [r2, y3, L_i_0]
  unfold B_i_0 Bg_i_0
  refine bn rfl (some_int ?_)
  unfold U64 at ua ub uc
  rw [mx, mx, mx]
  have em : max (max (max 0 (sz a)) (sz b)) (sz c) = max (sz a) (max (sz b) (sz c)) := by omega
  rw [em]
  unfold gr3
  generalize max (sz a) (max (sz b) (sz c)) = m at *
  have hm : (if 9223372036854775807 < m then 9223372036854775807 else m) = min m 9223372036854775807 := by split <;> omega
  rw [hm, wi64_in]
  unfold I64; omega
theorem a_Greatest (F : Nat) (hF : 200 ≤ F) {a b c : Int} (ha : I64 a) (hb : I64 b) (hc : I64 c) : ok_i F a b c = true ∧ o_i_0 F a b c = gr3 a b c := k_i F _ _ _ (f_Greatest F hF ha hb hc)
theorem a_rGreatest (F : Nat) {a b c : Int} (ha : I64 a) (hb : I64 b) (hc : I64 c) : ok_d F a b c = true ∧ o_d_0 F a b c = gr3 a b c := by
  refine k_d F _ _ _ ?_
  unfold f_d fg_d
  obtain ⟨p1, p2⟩ := a_r6bare F ha
  obtain ⟨q1, q2⟩ := a_r6bare F hb
  obtain ⟨r1, r2⟩ := a_r6bare F hc
  have ua := sz_U ha
  have ub := sz_U hb
  have uc := sz_U hc
  unfold U64 at ua ub uc
  refine bp p1 (bp q1 (bp r1 (some_int ?_)))
  rw [p2, q2, r2]
  rw [mx, mx]
  have em : max (max (sz a) (sz b)) (sz c) = max (sz a) (max (sz b) (sz c)) := by omega
  rw [em]
  unfold gr3
  generalize max (sz a) (max (sz b) (sz c)) = m at *
  have hm : (if 9223372036854775807 < m then 9223372036854775807 else m) = min m 9223372036854775807 := by split <;> omega
  rw [hm, wi64_in]
  unfold I64; omega
/-- over the length -/
noncomputable def unitOK (a b c : Int) : Bool := !decide (lenV (sq3 a b c) = 0) && !lenC (sq3 a b c)
noncomputable def unV (k a b c : Int) : Int := if unitOK a b c = true then fdivV k (lenV (sq3 a b c)) else 0
theorem len_I {z : Int} (h : 0 ≤ z) : 0 ≤ lenV z ∧ I64 (lenV z) := by
  have h1 := (rt_spec h).1
  unfold lenV I64
  by_cases hz : z < 85070591730234615865843651857942052864
  · have := (rt_small h).2 hz
    rw [if_pos hz]; omega
  · rw [if_neg hz]; omega
theorem sq3_nn {a b c : Int} (ha : I64 a) (hb : I64 b) (hc : I64 c) : 0 ≤ sq3 a b c := by
  have := sq_bd64 ha
  have := sq_bd64 hb
  have := sq_bd64 hc
  unfold sq3; omega
theorem some_un {x y z x' y' z' : Int} {c c' : Bool} (h1 : x = x') (h2 : y = y') (h3 : z = z') (h4 : c = c') : (some (VV.v (.tuple #[.agg #[.int .i64 x, .int .i64 y, .int .i64 z], .bool c])) : R) = some (.v (.tuple #[.agg #[.int .i64 x', .int .i64 y', .int .i64 z'], .bool c'])) := by rw [h1, h2, h3, h4]
theorem f_Unit (F : Nat) (hF : 200 ≤ F) {a b c : Int} (ha : I64 a) (hb : I64 b) (hc : I64 c) : f_rb F a b c = some (.v (.tuple #[.agg #[.int .i64 (unV a a b c), .int .i64 (unV b a b c), .int .i64 (unV c a b c)], .bool (unitOK a b c)])) := by
  unfold f_rb fg_rb
  obtain ⟨l1, l2, l3⟩ := a_Length F hF ha hb hc
  have hl := len_I (sq3_nn ha hb hc)
  obtain ⟨e1, e2, e3, e4, e5⟩ := k_ia F _ _ _ _ (f_vec_eachv2' F hF (a_Unit_0 F hF (a1 := b) (a2 := c) ha hl.2) (a_Unit_1 F hF (a0 := a) (a2 := c) hb hl.2) (a_Unit_2 F hF (a0 := a) (a1 := b) hc hl.2))
  refine bp l1 ?_
  rw [l2, l3]
  unfold unV unitOK
  generalize lenV (sq3 a b c) = n at *
  generalize lenC (sq3 a b c) = k at *
  by_cases h0 : n = 0
  · refine bp (by simp [h0]) (some_un ?_ ?_ ?_ ?_) <;> simp [h0]
  · refine bn (by simp [h0]) ?_
    cases k
    · refine bn rfl (bp e1 (some_un ?_ ?_ ?_ ?_))
      · rw [e2]; simp [h0]
      · rw [e3]; simp [h0]
      · rw [e4]; simp [h0]
      · simp [h0]
    · refine bp rfl (some_un ?_ ?_ ?_ ?_) <;> simp
theorem a_vUnit (F : Nat) (hF : 200 ≤ F) {a b c : Int} (ha : I64 a) (hb : I64 b) (hc : I64 c) : ok_rb F a b c = true ∧ o_rb_0 F a b c = unV a a b c ∧ o_ga F a b c = unV b a b c ∧ o_rb_2 F a b c = unV c a b c ∧ o_rb_3 F a b c = unitOK a b c := k_rb F _ _ _ (f_Unit F hF ha hb hc)
end Go.Xv
namespace Go.Xv
theorem clip_opp {a : Int} (h : I64 a) : clipV (-a) = opp a := by
  unfold clipV opp; unfold I64 at h
  split <;> (try split) <;> (try split) <;> omega
theorem a_opp (F : Nat) {x y : Int} (hx : I64 x) (hy : I64 y) : ok_f F x y = true ∧ o_f_0 F x y = opp x ∧ o_f_1 F x y = opp y := by
  refine k_f F _ _ ?_
  unfold f_f fg_f
  obtain ⟨h1, h2, _⟩ := a_fNeg F hx
  obtain ⟨g1, g2, _⟩ := a_fNeg F hy
  refine bp h1 (bp g1 ?_)
  rw [h2, g2, clip_opp hx, clip_opp hy]
theorem big_one {x y : Int} (h : ¬ (x = 0 ∧ y = 0)) : 1 ≤ big x y := by
  unfold big sz
  split <;> split <;> omega
theorem opp_pos {x : Int} (hx : I64 x) (h : x < 0) : 1 ≤ opp x := by unfold opp; split <;> omega
theorem big_to {x y : Int} (h : big x y < 2305843009213693952) (h0 : 0 ≤ x) : (0 ≤ x ∧ x ≤ 2305843009213693952) ∧ -2305843009213693952 ≤ y ∧ y ≤ 2305843009213693952 := by
  unfold big sz at h
  split at h <;> split at h <;> omega
theorem f_tAngle (F : Nat) (hF : 200 ≤ F) {y x : Int} (hy : I64 y) (hx : I64 x) : f_ea F y x = some (.v (.int .u32 (angle y x))) := by
  unfold f_ea fg_ea
  obtain ⟨h0, e0, e1, e2, e3, e4, e5, e6, e7, e8, e9, e10, e11, e12, e13, e14, e15, e16, e17, e18, e19, e20, e21, e22, e23, e24, e25, e26, e27, e28, e29⟩ := angF F
  rw [e0, e1, e2, e3, e4, e5, e6, e7, e8, e9, e10, e11, e12, e13, e14, e15, e16, e17, e18, e19, e20, e21, e22, e23, e24, e25, e26, e27, e28, e29]
  have neg : x < 0 → angle y x = ((aS (scd (opp x) (opp y)).1 (scd (opp x) (opp y)).2 30).2.2 + 2147483648) % 4294967296 := by
    intro h; unfold angle; rw [if_neg (by omega), if_pos h]
  have pos : ¬ x < 0 → ¬ (x = 0 ∧ y = 0) → angle y x = ((aS (scd x y).1 (scd x y).2 30).2.2 + 0) % 4294967296 := by
    intro h h2; unfold angle; rw [if_neg h2, if_neg h, Int.add_zero]
  by_cases x0 : x = 0
  · refine bp (by simp [x0]) ?_
    by_cases y0 : y = 0
    · refine bp (by simp [y0]) (some_u32 ?_)
      unfold angle
      rw [if_pos ⟨x0, y0⟩]
    · have hb := big_one (x := x) (y := y) (by omega)
      obtain ⟨s1, s2, s3⟩ := a_scaled F hF hx hy hb
      obtain ⟨b1, b2⟩ := big_to (scd_bd hx hy hb).2 (scd_sgn (by omega))
      refine bn (by simp [y0]) (bn (df (by omega)) (bp s1 (bp h0 ?_)))
      rw [s2, s3, lp_turn_Angle_0 F _ (z := 0) b1 b2 _ _ _ 30 F 0 0 0 (scd x y).1 (scd x y).2 (by omega) (by omega) rfl rfl rfl rfl]
      exact some_u32 (pos (by omega) (by omega)).symm
  · refine bn (by simp [x0]) ?_
    by_cases hn : x < 0
    · have hb := big_one (x := opp x) (y := opp y) (by have := opp_pos hx hn; omega)
      obtain ⟨o1, o2, o3⟩ := a_opp F hx hy
      obtain ⟨s1, s2, s3⟩ := a_scaled F hF (opp_I hx) (opp_I hy) hb
      obtain ⟨b1, b2⟩ := big_to (scd_bd (opp_I hx) (opp_I hy) hb).2 (scd_sgn (by have := opp_pos hx hn; omega))
      refine bp (dt hn) (bp o1 ?_)
      rw [o2, o3]
      refine bp s1 (bp h0 ?_)
      rw [s2, s3, lp_turn_Angle_0 F _ (z := 2147483648) b1 b2 _ _ _ 30 F 0 2147483648 0 (scd (opp x) (opp y)).1 (scd (opp x) (opp y)).2 (by omega) (by omega) rfl rfl rfl rfl]
      exact some_u32 (neg hn).symm
    · have hb := big_one (x := x) (y := y) (by omega)
      obtain ⟨s1, s2, s3⟩ := a_scaled F hF hx hy hb
      obtain ⟨b1, b2⟩ := big_to (scd_bd hx hy hb).2 (scd_sgn (by omega))
      refine bn (df hn) (bp s1 (bp h0 ?_))
      rw [s2, s3, lp_turn_Angle_0 F _ (z := 0) b1 b2 _ _ _ 30 F 0 0 0 (scd x y).1 (scd x y).2 (by omega) (by omega) rfl rfl rfl rfl]
      exact some_u32 (pos hn (by omega)).symm
theorem a_tAngle (F : Nat) (hF : 200 ≤ F) {y x : Int} (hy : I64 y) (hx : I64 x) : ok_ea F y x = true ∧ o_ea_0 F y x = angle y x := k_ea F _ _ (f_tAngle F hF hy hx)
theorem angle_U (y x : Int) : U32 (angle y x) := by unfold angle U32; split <;> (try split) <;> omega
end Go.Xv
namespace Go.Xv
theorem dot_turn (a0 a1 a2 a3 a4 a5 : Int) : dotZ a3 a4 a5 a0 a1 a2 = dotZ a0 a1 a2 a3 a4 a5 := by unfold dotZ; rw [pr_comm a3, pr_comm a4, pr_comm a5]
theorem a_mSame (F : Nat) (hF : 200 ≤ F) : ok_pb F = true ∧ o_pb_0 F = 4294967296 ∧ o_pb_1 F = 0 ∧ o_pb_2 F = 0 ∧ o_pb_3 F = 0 ∧ o_pb_4 F = 4294967296 ∧ o_pb_5 F = 0 ∧ o_pb_6 F = 0 ∧ o_pb_7 F = 0 ∧ o_pb_8 F = 4294967296 := by
  refine k_pb F ?_
  obtain ⟨G, rfl⟩ : ∃ G, F = G + 4 := ⟨F - 4, by omega⟩
  kernel_rfl
theorem a_rSame (F : Nat) : ok_ca F = true ∧ o_ca_0 F = 4294967296 ∧ o_ca_1 F = 0 ∧ o_ca_2 F = 0 ∧ o_ca_3 F = 0 ∧ o_ca_4 F = 4294967296 ∧ o_ca_5 F = 0 ∧ o_ca_6 F = 0 ∧ o_ca_7 F = 0 ∧ o_ca_8 F = 4294967296 := k_ca F rfl
theorem a_mBack (F : Nat) (hF : 200 ≤ F) (a0 a1 a2 a3 a4 a5 a6 a7 a8 : Int) : ok_ob F a0 a1 a2 a3 a4 a5 a6 a7 a8 = true ∧ o_ob_0 F a0 a1 a2 a3 a4 a5 a6 a7 a8 = a0 ∧ o_ob_1 F a0 a1 a2 a3 a4 a5 a6 a7 a8 = a3 ∧ o_ob_2 F a0 a1 a2 a3 a4 a5 a6 a7 a8 = a6 ∧ o_ob_3 F a0 a1 a2 a3 a4 a5 a6 a7 a8 = a1 ∧ o_ob_4 F a0 a1 a2 a3 a4 a5 a6 a7 a8 = a4 ∧ o_ob_5 F a0 a1 a2 a3 a4 a5 a6 a7 a8 = a7 ∧ o_ob_6 F a0 a1 a2 a3 a4 a5 a6 a7 a8 = a2 ∧ o_ob_7 F a0 a1 a2 a3 a4 a5 a6 a7 a8 = a5 ∧ o_ob_8 F a0 a1 a2 a3 a4 a5 a6 a7 a8 = a8 := by
  refine k_ob F _ _ _ _ _ _ _ _ _ ?_
  obtain ⟨G, rfl⟩ : ∃ G, F = G + 4 := ⟨F - 4, by omega⟩
  kernel_rfl
theorem a_rBack (F : Nat) (a0 a1 a2 a3 a4 a5 a6 a7 a8 : Int) : ok_ba F a0 a1 a2 a3 a4 a5 a6 a7 a8 = true ∧ o_ba_0 F a0 a1 a2 a3 a4 a5 a6 a7 a8 = a0 ∧ o_ba_1 F a0 a1 a2 a3 a4 a5 a6 a7 a8 = a3 ∧ o_ba_2 F a0 a1 a2 a3 a4 a5 a6 a7 a8 = a6 ∧ o_ba_3 F a0 a1 a2 a3 a4 a5 a6 a7 a8 = a1 ∧ o_ba_4 F a0 a1 a2 a3 a4 a5 a6 a7 a8 = a4 ∧ o_ba_5 F a0 a1 a2 a3 a4 a5 a6 a7 a8 = a7 ∧ o_ba_6 F a0 a1 a2 a3 a4 a5 a6 a7 a8 = a2 ∧ o_ba_7 F a0 a1 a2 a3 a4 a5 a6 a7 a8 = a5 ∧ o_ba_8 F a0 a1 a2 a3 a4 a5 a6 a7 a8 = a8 := k_ba F _ _ _ _ _ _ _ _ _ rfl
theorem f_Apply' (F : Nat) (hF : 200 ≤ F) {a0 a1 a2 a3 a4 a5 a6 a7 a8 u0 u1 u2 : Int} {p0 p1 p2 : Int} {c0 c1 c2 : Bool} (d0 : ok_fc F a0 a1 a2 u0 u1 u2 = true ∧ o_fc_0 F a0 a1 a2 u0 u1 u2 = p0 ∧ o_fc_1 F a0 a1 a2 u0 u1 u2 = c0) (d1 : ok_fc F a3 a4 a5 u0 u1 u2 = true ∧ o_fc_0 F a3 a4 a5 u0 u1 u2 = p1 ∧ o_fc_1 F a3 a4 a5 u0 u1 u2 = c1) (d2 : ok_fc F a6 a7 a8 u0 u1 u2 = true ∧ o_fc_0 F a6 a7 a8 u0 u1 u2 = p2 ∧ o_fc_1 F a6 a7 a8 u0 u1 u2 = c2) :
    f_pa F a0 a1 a2 a3 a4 a5 a6 a7 a8 u0 u1 u2 = some (.v (.tuple #[.agg #[.int .i64 p0, .int .i64 p1, .int .i64 p2], .bool (c0 || c1 || c2)])) := by
  obtain ⟨d01, d02, d03⟩ := d0
  obtain ⟨d11, d12, d13⟩ := d1
  obtain ⟨d21, d22, d23⟩ := d2
  have w1 : IntKind.wrap .i64 (0 + 1) = 1 := by decide
  have w2 : IntKind.wrap .i64 (1 + 1) = 2 := by decide
  have w3 : IntKind.wrap .i64 (2 + 1) = 3 := by decide
  unfold f_pa fg_pa
  obtain ⟨G, hG⟩ : ∃ G, F = G + 4 := ⟨F - 4, by omega⟩
  rw [show L_pa_0 F _ F = L_pa_0 F _ (G + 4) from congrArg (L_pa_0 F _) hG]
  have e00 : (iv [.v (.int .i64 a0), .v (.int .i64 a1), .v (.int .i64 a2), .v (.int .i64 a3), .v (.int .i64 a4), .v (.int .i64 a5), .v (.int .i64 a6), .v (.int .i64 a7), .v (.int .i64 a8)][Int.toNat 0 * 3]?) = a0 := rfl
  have e01 : (iv [.v (.int .i64 a0), .v (.int .i64 a1), .v (.int .i64 a2), .v (.int .i64 a3), .v (.int .i64 a4), .v (.int .i64 a5), .v (.int .i64 a6), .v (.int .i64 a7), .v (.int .i64 a8)][Int.toNat 0 * 3 + 1]?) = a1 := rfl
  have e02 : (iv [.v (.int .i64 a0), .v (.int .i64 a1), .v (.int .i64 a2), .v (.int .i64 a3), .v (.int .i64 a4), .v (.int .i64 a5), .v (.int .i64 a6), .v (.int .i64 a7), .v (.int .i64 a8)][Int.toNat 0 * 3 + 1 + 1]?) = a2 := rfl
  have e10 : (iv [.v (.int .i64 a0), .v (.int .i64 a1), .v (.int .i64 a2), .v (.int .i64 a3), .v (.int .i64 a4), .v (.int .i64 a5), .v (.int .i64 a6), .v (.int .i64 a7), .v (.int .i64 a8)][Int.toNat 1 * 3]?) = a3 := rfl
  have e11 : (iv [.v (.int .i64 a0), .v (.int .i64 a1), .v (.int .i64 a2), .v (.int .i64 a3), .v (.int .i64 a4), .v (.int .i64 a5), .v (.int .i64 a6), .v (.int .i64 a7), .v (.int .i64 a8)][Int.toNat 1 * 3 + 1]?) = a4 := rfl
  have e12 : (iv [.v (.int .i64 a0), .v (.int .i64 a1), .v (.int .i64 a2), .v (.int .i64 a3), .v (.int .i64 a4), .v (.int .i64 a5), .v (.int .i64 a6), .v (.int .i64 a7), .v (.int .i64 a8)][Int.toNat 1 * 3 + 1 + 1]?) = a5 := rfl
  have e20 : (iv [.v (.int .i64 a0), .v (.int .i64 a1), .v (.int .i64 a2), .v (.int .i64 a3), .v (.int .i64 a4), .v (.int .i64 a5), .v (.int .i64 a6), .v (.int .i64 a7), .v (.int .i64 a8)][Int.toNat 2 * 3]?) = a6 := rfl
  have e21 : (iv [.v (.int .i64 a0), .v (.int .i64 a1), .v (.int .i64 a2), .v (.int .i64 a3), .v (.int .i64 a4), .v (.int .i64 a5), .v (.int .i64 a6), .v (.int .i64 a7), .v (.int .i64 a8)][Int.toNat 2 * 3 + 1]?) = a7 := rfl
  have e22 : (iv [.v (.int .i64 a0), .v (.int .i64 a1), .v (.int .i64 a2), .v (.int .i64 a3), .v (.int .i64 a4), .v (.int .i64 a5), .v (.int .i64 a6), .v (.int .i64 a7), .v (.int .i64 a8)][Int.toNat 2 * 3 + 1 + 1]?) = a8 := rfl
  rw [L_pa_0]
  unfold B_pa_0 Bg_pa_0
  refine bp rfl (bp rfl ?_)
  rw [e00, e01, e02]
  refine bp d01 ?_
  rw [d02, d03]
  refine bn rfl (bp rfl (bp rfl ?_))
  rw [w1]
  cases c0
  · rw [L_pa_0]
    unfold B_pa_0 Bg_pa_0
    refine bp rfl (bp rfl ?_)
    rw [e10, e11, e12]
    refine bp d11 ?_
    rw [d12, d13]
    refine bn rfl (bp rfl (bp rfl ?_))
    rw [w2]
    cases c1
    · rw [L_pa_0]
      unfold B_pa_0 Bg_pa_0
      refine bp rfl (bp rfl ?_)
      rw [e20, e21, e22]
      refine bp d21 ?_
      rw [d22, d23]
      refine bn rfl (bp rfl (bp rfl ?_))
      rw [w3]
      rw [L_pa_0]
      unfold B_pa_0 Bg_pa_0
      exact bn rfl (bp rfl rfl)
    · rw [L_pa_0]
      unfold B_pa_0 Bg_pa_0
      refine bp rfl (bp rfl ?_)
      rw [e20, e21, e22]
      refine bp d21 ?_
      rw [d22]
      refine bp rfl (bp rfl (bp rfl ?_))
      rw [w3]
      rw [L_pa_0]
      unfold B_pa_0 Bg_pa_0
      exact bn rfl (bp rfl rfl)
  · rw [L_pa_0]
    unfold B_pa_0 Bg_pa_0
    refine bp rfl (bp rfl ?_)
    rw [e10, e11, e12]
    refine bp d11 ?_
    rw [d12]
    refine bp rfl (bp rfl (bp rfl ?_))
    rw [w2]
    rw [L_pa_0]
    unfold B_pa_0 Bg_pa_0
    refine bp rfl (bp rfl ?_)
    rw [e20, e21, e22]
    refine bp d21 ?_
    rw [d22]
    refine bp rfl (bp rfl (bp rfl ?_))
    rw [w3]
    rw [L_pa_0]
    unfold B_pa_0 Bg_pa_0
    exact bn rfl (bp rfl rfl)
theorem a_mApply (F : Nat) (hF : 200 ≤ F) {a0 a1 a2 a3 a4 a5 a6 a7 a8 u0 u1 u2 : Int} (ha0 : I64 a0) (ha1 : I64 a1) (ha2 : I64 a2) (ha3 : I64 a3) (ha4 : I64 a4) (ha5 : I64 a5) (ha6 : I64 a6) (ha7 : I64 a7) (ha8 : I64 a8) (hu0 : I64 u0) (hu1 : I64 u1) (hu2 : I64 u2) : ok_pa F a0 a1 a2 a3 a4 a5 a6 a7 a8 u0 u1 u2 = true ∧ o_pa_0 F a0 a1 a2 a3 a4 a5 a6 a7 a8 u0 u1 u2 = clipV (dotZ a0 a1 a2 u0 u1 u2) ∧ o_pa_1 F a0 a1 a2 a3 a4 a5 a6 a7 a8 u0 u1 u2 = clipV (dotZ a3 a4 a5 u0 u1 u2) ∧ o_pa_2 F a0 a1 a2 a3 a4 a5 a6 a7 a8 u0 u1 u2 = clipV (dotZ a6 a7 a8 u0 u1 u2) ∧ o_pa_3 F a0 a1 a2 a3 a4 a5 a6 a7 a8 u0 u1 u2 = (clipC (dotZ a0 a1 a2 u0 u1 u2) || clipC (dotZ a3 a4 a5 u0 u1 u2) || clipC (dotZ a6 a7 a8 u0 u1 u2)) :=
  k_pa F _ _ _ _ _ _ _ _ _ _ _ _ (f_Apply' F hF (a_Dot F hF ha0 ha1 ha2 hu0 hu1 hu2) (a_Dot F hF ha3 ha4 ha5 hu0 hu1 hu2) (a_Dot F hF ha6 ha7 ha8 hu0 hu1 hu2))
theorem a_rApply (F : Nat) (hF : 200 ≤ F) {a0 a1 a2 a3 a4 a5 a6 a7 a8 u0 u1 u2 : Int} (ha0 : I64 a0) (ha1 : I64 a1) (ha2 : I64 a2) (ha3 : I64 a3) (ha4 : I64 a4) (ha5 : I64 a5) (ha6 : I64 a6) (ha7 : I64 a7) (ha8 : I64 a8) (hu0 : I64 u0) (hu1 : I64 u1) (hu2 : I64 u2) : ok_o F a0 a1 a2 a3 a4 a5 a6 a7 a8 u0 u1 u2 = true ∧ o_o_0 F a0 a1 a2 a3 a4 a5 a6 a7 a8 u0 u1 u2 = clipV (dotZ a0 a1 a2 u0 u1 u2) ∧ o_o_1 F a0 a1 a2 a3 a4 a5 a6 a7 a8 u0 u1 u2 = clipV (dotZ a3 a4 a5 u0 u1 u2) ∧ o_o_2 F a0 a1 a2 a3 a4 a5 a6 a7 a8 u0 u1 u2 = clipV (dotZ a6 a7 a8 u0 u1 u2) ∧ o_o_3 F a0 a1 a2 a3 a4 a5 a6 a7 a8 u0 u1 u2 = (clipC (dotZ a0 a1 a2 u0 u1 u2) || clipC (dotZ a3 a4 a5 u0 u1 u2) || clipC (dotZ a6 a7 a8 u0 u1 u2)) := by
  refine k_o F _ _ _ _ _ _ _ _ _ _ _ _ ?_
  unfold f_o fg_o
  obtain ⟨p1, p2, p3⟩ := a_rDot F hF ha0 ha1 ha2 hu0 hu1 hu2
  obtain ⟨q1, q2, q3⟩ := a_rDot F hF ha3 ha4 ha5 hu0 hu1 hu2
  obtain ⟨r1, r2, r3⟩ := a_rDot F hF ha6 ha7 ha8 hu0 hu1 hu2
  refine bp p1 (bp q1 (bp r1 ?_))
  rw [p2, p3, q2, q3, r2, r3]
  exact or3
theorem f_Mul' (F : Nat) (hF : 200 ≤ F) {a0 a1 a2 a3 a4 a5 a6 a7 a8 b0 b1 b2 b3 b4 b5 b6 b7 b8 : Int} {p0 p1 p2 p3 p4 p5 p6 p7 p8 : Int} {c0 c1 c2 : Bool} (d0 : ok_pa F b0 b3 b6 b1 b4 b7 b2 b5 b8 a0 a1 a2 = true ∧ o_pa_0 F b0 b3 b6 b1 b4 b7 b2 b5 b8 a0 a1 a2 = p0 ∧ o_pa_1 F b0 b3 b6 b1 b4 b7 b2 b5 b8 a0 a1 a2 = p1 ∧ o_pa_2 F b0 b3 b6 b1 b4 b7 b2 b5 b8 a0 a1 a2 = p2 ∧ o_pa_3 F b0 b3 b6 b1 b4 b7 b2 b5 b8 a0 a1 a2 = c0) (d1 : ok_pa F b0 b3 b6 b1 b4 b7 b2 b5 b8 a3 a4 a5 = true ∧ o_pa_0 F b0 b3 b6 b1 b4 b7 b2 b5 b8 a3 a4 a5 = p3 ∧ o_pa_1 F b0 b3 b6 b1 b4 b7 b2 b5 b8 a3 a4 a5 = p4 ∧ o_pa_2 F b0 b3 b6 b1 b4 b7 b2 b5 b8 a3 a4 a5 = p5 ∧ o_pa_3 F b0 b3 b6 b1 b4 b7 b2 b5 b8 a3 a4 a5 = c1) (d2 : ok_pa F b0 b3 b6 b1 b4 b7 b2 b5 b8 a6 a7 a8 = true ∧ o_pa_0 F b0 b3 b6 b1 b4 b7 b2 b5 b8 a6 a7 a8 = p6 ∧ o_pa_1 F b0 b3 b6 b1 b4 b7 b2 b5 b8 a6 a7 a8 = p7 ∧ o_pa_2 F b0 b3 b6 b1 b4 b7 b2 b5 b8 a6 a7 a8 = p8 ∧ o_pa_3 F b0 b3 b6 b1 b4 b7 b2 b5 b8 a6 a7 a8 = c2) :
    f_dc F a0 a1 a2 a3 a4 a5 a6 a7 a8 b0 b1 b2 b3 b4 b5 b6 b7 b8 = some (.v (.tuple #[.agg #[.int .i64 p0, .int .i64 p1, .int .i64 p2, .int .i64 p3, .int .i64 p4, .int .i64 p5, .int .i64 p6, .int .i64 p7, .int .i64 p8], .bool (c0 || c1 || c2)])) := by
  obtain ⟨d01, d02, d03, d04, d05⟩ := d0
  obtain ⟨d11, d12, d13, d14, d15⟩ := d1
  obtain ⟨d21, d22, d23, d24, d25⟩ := d2
  have w1 : IntKind.wrap .i64 (0 + 1) = 1 := by decide
  have w2 : IntKind.wrap .i64 (1 + 1) = 2 := by decide
  have w3 : IntKind.wrap .i64 (2 + 1) = 3 := by decide
  unfold f_dc fg_dc
  obtain ⟨b0_, bb0, bb1, bb2, bb3, bb4, bb5, bb6, bb7, bb8⟩ := a_mBack F hF b0 b1 b2 b3 b4 b5 b6 b7 b8
  refine bp b0_ ?_
  rw [bb0, bb1, bb2, bb3, bb4, bb5, bb6, bb7, bb8]
  obtain ⟨G, hG⟩ : ∃ G, F = G + 4 := ⟨F - 4, by omega⟩
  rw [show L_dc_0 F _ F = L_dc_0 F _ (G + 4) from congrArg (L_dc_0 F _) hG]
  have e00 : (iv [.v (.int .i64 a0), .v (.int .i64 a1), .v (.int .i64 a2), .v (.int .i64 a3), .v (.int .i64 a4), .v (.int .i64 a5), .v (.int .i64 a6), .v (.int .i64 a7), .v (.int .i64 a8)][Int.toNat 0 * 3]?) = a0 := rfl
  have e01 : (iv [.v (.int .i64 a0), .v (.int .i64 a1), .v (.int .i64 a2), .v (.int .i64 a3), .v (.int .i64 a4), .v (.int .i64 a5), .v (.int .i64 a6), .v (.int .i64 a7), .v (.int .i64 a8)][Int.toNat 0 * 3 + 1]?) = a1 := rfl
  have e02 : (iv [.v (.int .i64 a0), .v (.int .i64 a1), .v (.int .i64 a2), .v (.int .i64 a3), .v (.int .i64 a4), .v (.int .i64 a5), .v (.int .i64 a6), .v (.int .i64 a7), .v (.int .i64 a8)][Int.toNat 0 * 3 + 1 + 1]?) = a2 := rfl
  have e10 : (iv [.v (.int .i64 a0), .v (.int .i64 a1), .v (.int .i64 a2), .v (.int .i64 a3), .v (.int .i64 a4), .v (.int .i64 a5), .v (.int .i64 a6), .v (.int .i64 a7), .v (.int .i64 a8)][Int.toNat 1 * 3]?) = a3 := rfl
  have e11 : (iv [.v (.int .i64 a0), .v (.int .i64 a1), .v (.int .i64 a2), .v (.int .i64 a3), .v (.int .i64 a4), .v (.int .i64 a5), .v (.int .i64 a6), .v (.int .i64 a7), .v (.int .i64 a8)][Int.toNat 1 * 3 + 1]?) = a4 := rfl
  have e12 : (iv [.v (.int .i64 a0), .v (.int .i64 a1), .v (.int .i64 a2), .v (.int .i64 a3), .v (.int .i64 a4), .v (.int .i64 a5), .v (.int .i64 a6), .v (.int .i64 a7), .v (.int .i64 a8)][Int.toNat 1 * 3 + 1 + 1]?) = a5 := rfl
  have e20 : (iv [.v (.int .i64 a0), .v (.int .i64 a1), .v (.int .i64 a2), .v (.int .i64 a3), .v (.int .i64 a4), .v (.int .i64 a5), .v (.int .i64 a6), .v (.int .i64 a7), .v (.int .i64 a8)][Int.toNat 2 * 3]?) = a6 := rfl
  have e21 : (iv [.v (.int .i64 a0), .v (.int .i64 a1), .v (.int .i64 a2), .v (.int .i64 a3), .v (.int .i64 a4), .v (.int .i64 a5), .v (.int .i64 a6), .v (.int .i64 a7), .v (.int .i64 a8)][Int.toNat 2 * 3 + 1]?) = a7 := rfl
  have e22 : (iv [.v (.int .i64 a0), .v (.int .i64 a1), .v (.int .i64 a2), .v (.int .i64 a3), .v (.int .i64 a4), .v (.int .i64 a5), .v (.int .i64 a6), .v (.int .i64 a7), .v (.int .i64 a8)][Int.toNat 2 * 3 + 1 + 1]?) = a8 := rfl
  rw [L_dc_0]
  unfold B_dc_0 Bg_dc_0
  refine bp rfl (bp rfl ?_)
  rw [e00, e01, e02]
  refine bp d01 ?_
  rw [d02, d03, d04, d05]
  refine bn rfl (bp rfl (bp rfl ?_))
  rw [w1]
  cases c0
  · rw [L_dc_0]
    unfold B_dc_0 Bg_dc_0
    refine bp rfl (bp rfl ?_)
    rw [e10, e11, e12]
    refine bp d11 ?_
    rw [d12, d13, d14, d15]
    refine bn rfl (bp rfl (bp rfl ?_))
    rw [w2]
    cases c1
    · rw [L_dc_0]
      unfold B_dc_0 Bg_dc_0
      refine bp rfl (bp rfl ?_)
      rw [e20, e21, e22]
      refine bp d21 ?_
      rw [d22, d23, d24, d25]
      refine bn rfl (bp rfl (bp rfl ?_))
      rw [w3]
      rw [L_dc_0]
      unfold B_dc_0 Bg_dc_0
      exact bn rfl (bp rfl rfl)
    · rw [L_dc_0]
      unfold B_dc_0 Bg_dc_0
      refine bp rfl (bp rfl ?_)
      rw [e20, e21, e22]
      refine bp d21 ?_
      rw [d22, d23, d24]
      refine bp rfl (bp rfl (bp rfl ?_))
      rw [w3]
      rw [L_dc_0]
      unfold B_dc_0 Bg_dc_0
      exact bn rfl (bp rfl rfl)
  · rw [L_dc_0]
    unfold B_dc_0 Bg_dc_0
    refine bp rfl (bp rfl ?_)
    rw [e10, e11, e12]
    refine bp d11 ?_
    rw [d12, d13, d14]
    refine bp rfl (bp rfl (bp rfl ?_))
    rw [w2]
    rw [L_dc_0]
    unfold B_dc_0 Bg_dc_0
    refine bp rfl (bp rfl ?_)
    rw [e20, e21, e22]
    refine bp d21 ?_
    rw [d22, d23, d24]
    refine bp rfl (bp rfl (bp rfl ?_))
    rw [w3]
    rw [L_dc_0]
    unfold B_dc_0 Bg_dc_0
    exact bn rfl (bp rfl rfl)
theorem a_mMul (F : Nat) (hF : 200 ≤ F) {a0 a1 a2 a3 a4 a5 a6 a7 a8 b0 b1 b2 b3 b4 b5 b6 b7 b8 : Int} (ha0 : I64 a0) (ha1 : I64 a1) (ha2 : I64 a2) (ha3 : I64 a3) (ha4 : I64 a4) (ha5 : I64 a5) (ha6 : I64 a6) (ha7 : I64 a7) (ha8 : I64 a8) (hb0 : I64 b0) (hb1 : I64 b1) (hb2 : I64 b2) (hb3 : I64 b3) (hb4 : I64 b4) (hb5 : I64 b5) (hb6 : I64 b6) (hb7 : I64 b7) (hb8 : I64 b8) : ok_dc F a0 a1 a2 a3 a4 a5 a6 a7 a8 b0 b1 b2 b3 b4 b5 b6 b7 b8 = true ∧ o_dc_0 F a0 a1 a2 a3 a4 a5 a6 a7 a8 b0 b1 b2 b3 b4 b5 b6 b7 b8 = clipV (dotZ a0 a1 a2 b0 b3 b6) ∧ o_dc_1 F a0 a1 a2 a3 a4 a5 a6 a7 a8 b0 b1 b2 b3 b4 b5 b6 b7 b8 = clipV (dotZ a0 a1 a2 b1 b4 b7) ∧ o_dc_2 F a0 a1 a2 a3 a4 a5 a6 a7 a8 b0 b1 b2 b3 b4 b5 b6 b7 b8 = clipV (dotZ a0 a1 a2 b2 b5 b8) ∧ o_dc_3 F a0 a1 a2 a3 a4 a5 a6 a7 a8 b0 b1 b2 b3 b4 b5 b6 b7 b8 = clipV (dotZ a3 a4 a5 b0 b3 b6) ∧ o_dc_4 F a0 a1 a2 a3 a4 a5 a6 a7 a8 b0 b1 b2 b3 b4 b5 b6 b7 b8 = clipV (dotZ a3 a4 a5 b1 b4 b7) ∧ o_dc_5 F a0 a1 a2 a3 a4 a5 a6 a7 a8 b0 b1 b2 b3 b4 b5 b6 b7 b8 = clipV (dotZ a3 a4 a5 b2 b5 b8) ∧ o_dc_6 F a0 a1 a2 a3 a4 a5 a6 a7 a8 b0 b1 b2 b3 b4 b5 b6 b7 b8 = clipV (dotZ a6 a7 a8 b0 b3 b6) ∧ o_dc_7 F a0 a1 a2 a3 a4 a5 a6 a7 a8 b0 b1 b2 b3 b4 b5 b6 b7 b8 = clipV (dotZ a6 a7 a8 b1 b4 b7) ∧ o_dc_8 F a0 a1 a2 a3 a4 a5 a6 a7 a8 b0 b1 b2 b3 b4 b5 b6 b7 b8 = clipV (dotZ a6 a7 a8 b2 b5 b8) ∧ o_dc_9 F a0 a1 a2 a3 a4 a5 a6 a7 a8 b0 b1 b2 b3 b4 b5 b6 b7 b8 = ((clipC (dotZ a0 a1 a2 b0 b3 b6) || clipC (dotZ a0 a1 a2 b1 b4 b7) || clipC (dotZ a0 a1 a2 b2 b5 b8)) || (clipC (dotZ a3 a4 a5 b0 b3 b6) || clipC (dotZ a3 a4 a5 b1 b4 b7) || clipC (dotZ a3 a4 a5 b2 b5 b8)) || (clipC (dotZ a6 a7 a8 b0 b3 b6) || clipC (dotZ a6 a7 a8 b1 b4 b7) || clipC (dotZ a6 a7 a8 b2 b5 b8))) := by
  have d0 := a_mApply F hF hb0 hb3 hb6 hb1 hb4 hb7 hb2 hb5 hb8 ha0 ha1 ha2
  rw [dot_turn a0 a1 a2 b0 b3 b6, dot_turn a0 a1 a2 b1 b4 b7, dot_turn a0 a1 a2 b2 b5 b8] at d0
  have d1 := a_mApply F hF hb0 hb3 hb6 hb1 hb4 hb7 hb2 hb5 hb8 ha3 ha4 ha5
  rw [dot_turn a3 a4 a5 b0 b3 b6, dot_turn a3 a4 a5 b1 b4 b7, dot_turn a3 a4 a5 b2 b5 b8] at d1
  have d2 := a_mApply F hF hb0 hb3 hb6 hb1 hb4 hb7 hb2 hb5 hb8 ha6 ha7 ha8
  rw [dot_turn a6 a7 a8 b0 b3 b6, dot_turn a6 a7 a8 b1 b4 b7, dot_turn a6 a7 a8 b2 b5 b8] at d2
  exact k_dc F _ _ _ _ _ _ _ _ _ _ _ _ _ _ _ _ _ _ (f_Mul' F hF d0 d1 d2)
theorem or9 {a b c d e f g h i : Bool} : ((a || d || g) || (b || e || h) || (c || f || i)) = ((a || b || c) || (d || e || f) || (g || h || i)) := by
  cases a <;> cases b <;> cases c <;> cases d <;> cases e <;> cases f <;> cases g <;> cases h <;> cases i <;> rfl
theorem or3M {p0 p1 p2 p3 p4 p5 p6 p7 p8 : Int} {a b c : Bool} : (bif a then (some (VV.v (.tuple #[.agg #[.int .i64 p0, .int .i64 p1, .int .i64 p2, .int .i64 p3, .int .i64 p4, .int .i64 p5, .int .i64 p6, .int .i64 p7, .int .i64 p8], .bool true])) : R) else (bif b then (some (.v (.tuple #[.agg #[.int .i64 p0, .int .i64 p1, .int .i64 p2, .int .i64 p3, .int .i64 p4, .int .i64 p5, .int .i64 p6, .int .i64 p7, .int .i64 p8], .bool true]))) else (some (.v (.tuple #[.agg #[.int .i64 p0, .int .i64 p1, .int .i64 p2, .int .i64 p3, .int .i64 p4, .int .i64 p5, .int .i64 p6, .int .i64 p7, .int .i64 p8], .bool c]))))) = some (.v (.tuple #[.agg #[.int .i64 p0, .int .i64 p1, .int .i64 p2, .int .i64 p3, .int .i64 p4, .int .i64 p5, .int .i64 p6, .int .i64 p7, .int .i64 p8], .bool (a || b || c)])) := by
  cases a <;> cases b <;> rfl
theorem a_rMul7 (F : Nat) (hF : 200 ≤ F) {a0 a1 a2 a3 a4 a5 a6 a7 a8 b0 b1 b2 b3 b4 b5 b6 b7 b8 : Int} (ha0 : I64 a0) (ha1 : I64 a1) (ha2 : I64 a2) (ha3 : I64 a3) (ha4 : I64 a4) (ha5 : I64 a5) (ha6 : I64 a6) (ha7 : I64 a7) (ha8 : I64 a8) (hb0 : I64 b0) (hb1 : I64 b1) (hb2 : I64 b2) (hb3 : I64 b3) (hb4 : I64 b4) (hb5 : I64 b5) (hb6 : I64 b6) (hb7 : I64 b7) (hb8 : I64 b8) : ok_xa F a0 a1 a2 a3 a4 a5 a6 a7 a8 b0 b1 b2 b3 b4 b5 b6 b7 b8 = true ∧ o_xa_0 F a0 a1 a2 a3 a4 a5 a6 a7 a8 b0 b1 b2 b3 b4 b5 b6 b7 b8 = clipV (dotZ a0 a1 a2 b0 b3 b6) ∧ o_xa_1 F a0 a1 a2 a3 a4 a5 a6 a7 a8 b0 b1 b2 b3 b4 b5 b6 b7 b8 = clipV (dotZ a0 a1 a2 b1 b4 b7) ∧ o_xa_2 F a0 a1 a2 a3 a4 a5 a6 a7 a8 b0 b1 b2 b3 b4 b5 b6 b7 b8 = clipV (dotZ a0 a1 a2 b2 b5 b8) ∧ o_xa_3 F a0 a1 a2 a3 a4 a5 a6 a7 a8 b0 b1 b2 b3 b4 b5 b6 b7 b8 = clipV (dotZ a3 a4 a5 b0 b3 b6) ∧ o_xa_4 F a0 a1 a2 a3 a4 a5 a6 a7 a8 b0 b1 b2 b3 b4 b5 b6 b7 b8 = clipV (dotZ a3 a4 a5 b1 b4 b7) ∧ o_xa_5 F a0 a1 a2 a3 a4 a5 a6 a7 a8 b0 b1 b2 b3 b4 b5 b6 b7 b8 = clipV (dotZ a3 a4 a5 b2 b5 b8) ∧ o_xa_6 F a0 a1 a2 a3 a4 a5 a6 a7 a8 b0 b1 b2 b3 b4 b5 b6 b7 b8 = clipV (dotZ a6 a7 a8 b0 b3 b6) ∧ o_xa_7 F a0 a1 a2 a3 a4 a5 a6 a7 a8 b0 b1 b2 b3 b4 b5 b6 b7 b8 = clipV (dotZ a6 a7 a8 b1 b4 b7) ∧ o_xa_8 F a0 a1 a2 a3 a4 a5 a6 a7 a8 b0 b1 b2 b3 b4 b5 b6 b7 b8 = clipV (dotZ a6 a7 a8 b2 b5 b8) ∧ o_xa_9 F a0 a1 a2 a3 a4 a5 a6 a7 a8 b0 b1 b2 b3 b4 b5 b6 b7 b8 = ((clipC (dotZ a0 a1 a2 b0 b3 b6) || clipC (dotZ a0 a1 a2 b1 b4 b7) || clipC (dotZ a0 a1 a2 b2 b5 b8)) || (clipC (dotZ a3 a4 a5 b0 b3 b6) || clipC (dotZ a3 a4 a5 b1 b4 b7) || clipC (dotZ a3 a4 a5 b2 b5 b8)) || (clipC (dotZ a6 a7 a8 b0 b3 b6) || clipC (dotZ a6 a7 a8 b1 b4 b7) || clipC (dotZ a6 a7 a8 b2 b5 b8))) := by
  refine k_xa F _ _ _ _ _ _ _ _ _ _ _ _ _ _ _ _ _ _ ?_
  unfold f_xa fg_xa
  obtain ⟨b0_, bb0, bb1, bb2, bb3, bb4, bb5, bb6, bb7, bb8⟩ := a_rBack F b0 b1 b2 b3 b4 b5 b6 b7 b8
  obtain ⟨s00, s01, s02, s03, s04⟩ := a_rApply F hF ha0 ha1 ha2 ha3 ha4 ha5 ha6 ha7 ha8 hb0 hb3 hb6
  obtain ⟨s10, s11, s12, s13, s14⟩ := a_rApply F hF ha0 ha1 ha2 ha3 ha4 ha5 ha6 ha7 ha8 hb1 hb4 hb7
  obtain ⟨s20, s21, s22, s23, s24⟩ := a_rApply F hF ha0 ha1 ha2 ha3 ha4 ha5 ha6 ha7 ha8 hb2 hb5 hb8
  refine bp b0_ ?_
  rw [bb0, bb1, bb2, bb3, bb4, bb5, bb6, bb7, bb8]
  refine bp s00 (bp s10 (bp s20 ?_))
  rw [s01, s02, s03, s04, s11, s12, s13, s14, s21, s22, s23, s24]
  obtain ⟨f0_, ff0, ff1, ff2, ff3, ff4, ff5, ff6, ff7, ff8⟩ := a_rBack F (clipV (dotZ a0 a1 a2 b0 b3 b6)) (clipV (dotZ a3 a4 a5 b0 b3 b6)) (clipV (dotZ a6 a7 a8 b0 b3 b6)) (clipV (dotZ a0 a1 a2 b1 b4 b7)) (clipV (dotZ a3 a4 a5 b1 b4 b7)) (clipV (dotZ a6 a7 a8 b1 b4 b7)) (clipV (dotZ a0 a1 a2 b2 b5 b8)) (clipV (dotZ a3 a4 a5 b2 b5 b8)) (clipV (dotZ a6 a7 a8 b2 b5 b8))
  refine bp f0_ ?_
  rw [ff0, ff1, ff2, ff3, ff4, ff5, ff6, ff7, ff8]
  rw [← or9]
  exact or3M
theorem neg_both (x : Int) : IntKind.wrap .i64 (0 - bothS x) = -bothS x := by
  have := (both_bd x).2
  rw [wi64_in (by unfold I64; omega), Int.zero_sub]
theorem a_mAbout0 (F : Nat) (hF : 200 ≤ F) {x : Int} (hx : U32 x) : ok_oa F 0 x = true ∧ o_oa_0 F 0 x = 4294967296 ∧ o_oa_1 F 0 x = 0 ∧ o_oa_2 F 0 x = 0 ∧ o_oa_3 F 0 x = 0 ∧ o_oa_4 F 0 x = (bothC x) ∧ o_oa_5 F 0 x = (-bothS x) ∧ o_oa_6 F 0 x = 0 ∧ o_oa_7 F 0 x = (bothS x) ∧ o_oa_8 F 0 x = (bothC x) ∧ o_oa_9 F 0 x = 0 := by
  refine k_oa F _ _ ?_
  unfold f_oa fg_oa
  obtain ⟨h1, h2, h3⟩ := a_tBoth F hF hx
  obtain ⟨m0, mm0, mm1, mm2, mm3, mm4, mm5, mm6, mm7, mm8⟩ := a_mSame F hF
  have w1 : Int.tmod (IntKind.wrap .i64 (0 + 1)) 3 = 1 := by decide
  have w2 : Int.tmod (IntKind.wrap .i64 (0 + 2)) 3 = 2 := by decide
  refine bn rfl (bn rfl (bp h1 ?_))
  rw [h2, h3, w1, w2]
  refine bp m0 ?_
  rw [mm0, mm1, mm2, mm3, mm4, mm5, mm6, mm7, mm8]
  dsimp only
  rw [neg_both]
  refine bp rfl (bp rfl (bp rfl (bp rfl (bp rfl (bp rfl (bp rfl (bp rfl (bp rfl (bp rfl (bp rfl (bp rfl (bp rfl ?_))))))))))))
  rfl
theorem a_mAbout1 (F : Nat) (hF : 200 ≤ F) {x : Int} (hx : U32 x) : ok_oa F 1 x = true ∧ o_oa_0 F 1 x = (bothC x) ∧ o_oa_1 F 1 x = 0 ∧ o_oa_2 F 1 x = (bothS x) ∧ o_oa_3 F 1 x = 0 ∧ o_oa_4 F 1 x = 4294967296 ∧ o_oa_5 F 1 x = 0 ∧ o_oa_6 F 1 x = (-bothS x) ∧ o_oa_7 F 1 x = 0 ∧ o_oa_8 F 1 x = (bothC x) ∧ o_oa_9 F 1 x = 0 := by
  refine k_oa F _ _ ?_
  unfold f_oa fg_oa
  obtain ⟨h1, h2, h3⟩ := a_tBoth F hF hx
  obtain ⟨m0, mm0, mm1, mm2, mm3, mm4, mm5, mm6, mm7, mm8⟩ := a_mSame F hF
  have w1 : Int.tmod (IntKind.wrap .i64 (1 + 1)) 3 = 2 := by decide
  have w2 : Int.tmod (IntKind.wrap .i64 (1 + 2)) 3 = 0 := by decide
  refine bn rfl (bn rfl (bp h1 ?_))
  rw [h2, h3, w1, w2]
  refine bp m0 ?_
  rw [mm0, mm1, mm2, mm3, mm4, mm5, mm6, mm7, mm8]
  dsimp only
  rw [neg_both]
  refine bp rfl (bp rfl (bp rfl (bp rfl (bp rfl (bp rfl (bp rfl (bp rfl (bp rfl (bp rfl (bp rfl (bp rfl (bp rfl ?_))))))))))))
  rfl
theorem a_mAbout2 (F : Nat) (hF : 200 ≤ F) {x : Int} (hx : U32 x) : ok_oa F 2 x = true ∧ o_oa_0 F 2 x = (bothC x) ∧ o_oa_1 F 2 x = (-bothS x) ∧ o_oa_2 F 2 x = 0 ∧ o_oa_3 F 2 x = (bothS x) ∧ o_oa_4 F 2 x = (bothC x) ∧ o_oa_5 F 2 x = 0 ∧ o_oa_6 F 2 x = 0 ∧ o_oa_7 F 2 x = 0 ∧ o_oa_8 F 2 x = 4294967296 ∧ o_oa_9 F 2 x = 0 := by
  refine k_oa F _ _ ?_
  unfold f_oa fg_oa
  obtain ⟨h1, h2, h3⟩ := a_tBoth F hF hx
  obtain ⟨m0, mm0, mm1, mm2, mm3, mm4, mm5, mm6, mm7, mm8⟩ := a_mSame F hF
  have w1 : Int.tmod (IntKind.wrap .i64 (2 + 1)) 3 = 0 := by decide
  have w2 : Int.tmod (IntKind.wrap .i64 (2 + 2)) 3 = 1 := by decide
  refine bn rfl (bn rfl (bp h1 ?_))
  rw [h2, h3, w1, w2]
  refine bp m0 ?_
  rw [mm0, mm1, mm2, mm3, mm4, mm5, mm6, mm7, mm8]
  dsimp only
  rw [neg_both]
  refine bp rfl (bp rfl (bp rfl (bp rfl (bp rfl (bp rfl (bp rfl (bp rfl (bp rfl (bp rfl (bp rfl (bp rfl (bp rfl ?_))))))))))))
  rfl
theorem a_Heading (F : Nat) (hF : 200 ≤ F) {a0 a1 a2 a3 a4 a5 a6 a7 a8 : Int} (ha0 : I64 a0) (ha3 : I64 a3) : ok_m F a0 a1 a2 a3 a4 a5 a6 a7 a8 = true ∧ o_m_0 F a0 a1 a2 a3 a4 a5 a6 a7 a8 = angle a3 a0 := by
  refine k_m F _ _ _ _ _ _ _ _ _ ?_
  unfold f_m fg_m
  obtain ⟨h1, h2⟩ := a_tAngle F hF ha3 ha0
  refine bp h1 ?_
  rw [h2]
end Go.Xv
namespace Go.Xv
theorem gr3_nn (a b c : Int) : 0 ≤ gr3 a b c := by
  have : 0 ≤ sz a := by unfold sz; split <;> omega
  unfold gr3; omega
/-- how far a row of the products is off -/
def row3 (p q r s t u : Int) : Int := gr3 (clipV (p - s)) (clipV (q - t)) (clipV (r - u))
theorem row3_nn (p q r s t u : Int) : 0 ≤ row3 p q r s t u := gr3_nn _ _ _
def off9 (a0 a1 a2 a3 a4 a5 a6 a7 a8 : Int) : Int := max (row3 (clipV (dotZ a0 a1 a2 a0 a1 a2)) (clipV (dotZ a0 a1 a2 a3 a4 a5)) (clipV (dotZ a0 a1 a2 a6 a7 a8)) 4294967296 0 0) (max (row3 (clipV (dotZ a3 a4 a5 a0 a1 a2)) (clipV (dotZ a3 a4 a5 a3 a4 a5)) (clipV (dotZ a3 a4 a5 a6 a7 a8)) 0 4294967296 0) (row3 (clipV (dotZ a6 a7 a8 a0 a1 a2)) (clipV (dotZ a6 a7 a8 a3 a4 a5)) (clipV (dotZ a6 a7 a8 a6 a7 a8)) 0 0 4294967296))
theorem h_mat_Off (F : Nat) (hF : 200 ≤ F) {a0 a1 a2 a3 a4 a5 a6 a7 a8 p0 p1 p2 p3 p4 p5 p6 p7 p8 : Int} (i0 : I64 p0) (i1 : I64 p1) (i2 : I64 p2) (i3 : I64 p3) (i4 : I64 p4) (i5 : I64 p5) (i6 : I64 p6) (i7 : I64 p7) (i8 : I64 p8) : L_ec_0 F (fun (v0 v1 v2 v3 v4 v5 v6 v7 v8 v9 v10 v11 v12 v13 v14 v15 v16 v17 v18 v19 v20 v21 v22 v23 v24 v25 v26 v27 v28 v29 v30 v31 v32 v33 v34 v35 v36 v37 v38 : Int) => some (.v (.int .i64 v10))) F a0 a1 a2 a3 a4 a5 a6 a7 a8 0 0 p0 p1 p2 p3 p4 p5 p6 p7 p8 0 a0 a1 a2 a3 a4 a5 a6 a7 a8 p0 p1 p2 p3 p4 p5 p6 p7 p8 = (some (.v (.int .i64 (max (row3 p0 p1 p2 4294967296 0 0) (max (row3 p3 p4 p5 0 4294967296 0) (row3 p6 p7 p8 0 0 4294967296))))) : R) := by
  have w1 : IntKind.wrap .i64 (0 + 1) = 1 := by decide
  have w2 : IntKind.wrap .i64 (1 + 1) = 2 := by decide
  have w3 : IntKind.wrap .i64 (2 + 1) = 3 := by decide
  obtain ⟨s0_, ss0, ss1, ss2, ss3, ss4, ss5, ss6, ss7, ss8⟩ := a_mSame F hF
  have e00 : (iv [.v (.int .i64 p0), .v (.int .i64 p1), .v (.int .i64 p2), .v (.int .i64 p3), .v (.int .i64 p4), .v (.int .i64 p5), .v (.int .i64 p6), .v (.int .i64 p7), .v (.int .i64 p8)][Int.toNat 0 * 3]?) = p0 := rfl
  have e01 : (iv [.v (.int .i64 p0), .v (.int .i64 p1), .v (.int .i64 p2), .v (.int .i64 p3), .v (.int .i64 p4), .v (.int .i64 p5), .v (.int .i64 p6), .v (.int .i64 p7), .v (.int .i64 p8)][Int.toNat 0 * 3 + 1]?) = p1 := rfl
  have e02 : (iv [.v (.int .i64 p0), .v (.int .i64 p1), .v (.int .i64 p2), .v (.int .i64 p3), .v (.int .i64 p4), .v (.int .i64 p5), .v (.int .i64 p6), .v (.int .i64 p7), .v (.int .i64 p8)][Int.toNat 0 * 3 + 1 + 1]?) = p2 := rfl
  have e10 : (iv [.v (.int .i64 p0), .v (.int .i64 p1), .v (.int .i64 p2), .v (.int .i64 p3), .v (.int .i64 p4), .v (.int .i64 p5), .v (.int .i64 p6), .v (.int .i64 p7), .v (.int .i64 p8)][Int.toNat 1 * 3]?) = p3 := rfl
  have e11 : (iv [.v (.int .i64 p0), .v (.int .i64 p1), .v (.int .i64 p2), .v (.int .i64 p3), .v (.int .i64 p4), .v (.int .i64 p5), .v (.int .i64 p6), .v (.int .i64 p7), .v (.int .i64 p8)][Int.toNat 1 * 3 + 1]?) = p4 := rfl
  have e12 : (iv [.v (.int .i64 p0), .v (.int .i64 p1), .v (.int .i64 p2), .v (.int .i64 p3), .v (.int .i64 p4), .v (.int .i64 p5), .v (.int .i64 p6), .v (.int .i64 p7), .v (.int .i64 p8)][Int.toNat 1 * 3 + 1 + 1]?) = p5 := rfl
  have e20 : (iv [.v (.int .i64 p0), .v (.int .i64 p1), .v (.int .i64 p2), .v (.int .i64 p3), .v (.int .i64 p4), .v (.int .i64 p5), .v (.int .i64 p6), .v (.int .i64 p7), .v (.int .i64 p8)][Int.toNat 2 * 3]?) = p6 := rfl
  have e21 : (iv [.v (.int .i64 p0), .v (.int .i64 p1), .v (.int .i64 p2), .v (.int .i64 p3), .v (.int .i64 p4), .v (.int .i64 p5), .v (.int .i64 p6), .v (.int .i64 p7), .v (.int .i64 p8)][Int.toNat 2 * 3 + 1]?) = p7 := rfl
  have e22 : (iv [.v (.int .i64 p0), .v (.int .i64 p1), .v (.int .i64 p2), .v (.int .i64 p3), .v (.int .i64 p4), .v (.int .i64 p5), .v (.int .i64 p6), .v (.int .i64 p7), .v (.int .i64 p8)][Int.toNat 2 * 3 + 1 + 1]?) = p8 := rfl
  have g00 : (iv [.v (.int .i64 4294967296), .v (.int .i64 0), .v (.int .i64 0), .v (.int .i64 0), .v (.int .i64 4294967296), .v (.int .i64 0), .v (.int .i64 0), .v (.int .i64 0), .v (.int .i64 4294967296)][Int.toNat 0 * 3]?) = 4294967296 := rfl
  have g01 : (iv [.v (.int .i64 4294967296), .v (.int .i64 0), .v (.int .i64 0), .v (.int .i64 0), .v (.int .i64 4294967296), .v (.int .i64 0), .v (.int .i64 0), .v (.int .i64 0), .v (.int .i64 4294967296)][Int.toNat 0 * 3 + 1]?) = 0 := rfl
  have g02 : (iv [.v (.int .i64 4294967296), .v (.int .i64 0), .v (.int .i64 0), .v (.int .i64 0), .v (.int .i64 4294967296), .v (.int .i64 0), .v (.int .i64 0), .v (.int .i64 0), .v (.int .i64 4294967296)][Int.toNat 0 * 3 + 1 + 1]?) = 0 := rfl
  have g10 : (iv [.v (.int .i64 4294967296), .v (.int .i64 0), .v (.int .i64 0), .v (.int .i64 0), .v (.int .i64 4294967296), .v (.int .i64 0), .v (.int .i64 0), .v (.int .i64 0), .v (.int .i64 4294967296)][Int.toNat 1 * 3]?) = 0 := rfl
  have g11 : (iv [.v (.int .i64 4294967296), .v (.int .i64 0), .v (.int .i64 0), .v (.int .i64 0), .v (.int .i64 4294967296), .v (.int .i64 0), .v (.int .i64 0), .v (.int .i64 0), .v (.int .i64 4294967296)][Int.toNat 1 * 3 + 1]?) = 4294967296 := rfl
  have g12 : (iv [.v (.int .i64 4294967296), .v (.int .i64 0), .v (.int .i64 0), .v (.int .i64 0), .v (.int .i64 4294967296), .v (.int .i64 0), .v (.int .i64 0), .v (.int .i64 0), .v (.int .i64 4294967296)][Int.toNat 1 * 3 + 1 + 1]?) = 0 := rfl
  have g20 : (iv [.v (.int .i64 4294967296), .v (.int .i64 0), .v (.int .i64 0), .v (.int .i64 0), .v (.int .i64 4294967296), .v (.int .i64 0), .v (.int .i64 0), .v (.int .i64 0), .v (.int .i64 4294967296)][Int.toNat 2 * 3]?) = 0 := rfl
  have g21 : (iv [.v (.int .i64 4294967296), .v (.int .i64 0), .v (.int .i64 0), .v (.int .i64 0), .v (.int .i64 4294967296), .v (.int .i64 0), .v (.int .i64 0), .v (.int .i64 0), .v (.int .i64 4294967296)][Int.toNat 2 * 3 + 1]?) = 0 := rfl
  have g22 : (iv [.v (.int .i64 4294967296), .v (.int .i64 0), .v (.int .i64 0), .v (.int .i64 0), .v (.int .i64 4294967296), .v (.int .i64 0), .v (.int .i64 0), .v (.int .i64 0), .v (.int .i64 4294967296)][Int.toNat 2 * 3 + 1 + 1]?) = 4294967296 := rfl
  have j0 : I64 0 := by unfold I64; omega
  have jO : I64 4294967296 := by unfold I64; omega
  obtain ⟨x00, x01, x02, x03, _⟩ := a_Sub F hF i0 i1 i2 jO j0 j0
  obtain ⟨y00, y01⟩ := a_Greatest F hF (clipV_I (p0 - 4294967296)) (clipV_I (p1 - 0)) (clipV_I (p2 - 0))
  obtain ⟨x10, x11, x12, x13, _⟩ := a_Sub F hF i3 i4 i5 j0 jO j0
  obtain ⟨y10, y11⟩ := a_Greatest F hF (clipV_I (p3 - 0)) (clipV_I (p4 - 4294967296)) (clipV_I (p5 - 0))
  obtain ⟨x20, x21, x22, x23, _⟩ := a_Sub F hF i6 i7 i8 j0 j0 jO
  obtain ⟨y20, y21⟩ := a_Greatest F hF (clipV_I (p6 - 0)) (clipV_I (p7 - 0)) (clipV_I (p8 - 4294967296))
  obtain ⟨G, hG⟩ : ∃ G, F = G + 4 := ⟨F - 4, by omega⟩
  rw [show L_ec_0 F _ F = L_ec_0 F _ (G + 4) from congrArg (L_ec_0 F _) hG]
  rw [L_ec_0]
  unfold B_ec_0 Bg_ec_0
  refine bp rfl (bp rfl ?_)
  rw [e00, e01, e02]
  refine bp s0_ ?_
  rw [ss0, ss1, ss2, ss3, ss4, ss5, ss6, ss7, ss8]
  refine bp rfl ?_
  rw [g00, g01, g02]
  refine bp x00 ?_
  rw [x01, x02, x03]
  refine bp y00 ?_
  rw [y01, w1]
  rw [L_ec_0]
  unfold B_ec_0 Bg_ec_0
  refine bp rfl (bp rfl ?_)
  rw [e10, e11, e12]
  refine bp s0_ ?_
  rw [ss0, ss1, ss2, ss3, ss4, ss5, ss6, ss7, ss8]
  refine bp rfl ?_
  rw [g10, g11, g12]
  refine bp x10 ?_
  rw [x11, x12, x13]
  refine bp y10 ?_
  rw [y11, w2]
  rw [L_ec_0]
  unfold B_ec_0 Bg_ec_0
  refine bp rfl (bp rfl ?_)
  rw [e20, e21, e22]
  refine bp s0_ ?_
  rw [ss0, ss1, ss2, ss3, ss4, ss5, ss6, ss7, ss8]
  refine bp rfl ?_
  rw [g20, g21, g22]
  refine bp x20 ?_
  rw [x21, x22, x23]
  refine bp y20 ?_
  rw [y21, w3]
  rw [L_ec_0]
  unfold B_ec_0 Bg_ec_0
  refine bn rfl (some_int ?_)
  have n0 := row3_nn p0 p1 p2 4294967296 0 0
  have n1 := row3_nn p3 p4 p5 0 4294967296 0
  have n2 := row3_nn p6 p7 p8 0 0 4294967296
  unfold row3 at *
  rw [mx, mx, mx]
  omega
theorem h_ref07_Off (F : Nat) (hF : 200 ≤ F) {a0 a1 a2 a3 a4 a5 a6 a7 a8 p0 p1 p2 p3 p4 p5 p6 p7 p8 : Int} (i0 : I64 p0) (i1 : I64 p1) (i2 : I64 p2) (i3 : I64 p3) (i4 : I64 p4) (i5 : I64 p5) (i6 : I64 p6) (i7 : I64 p7) (i8 : I64 p8) : L_ya_0 F (fun (v0 v1 v2 v3 v4 v5 v6 v7 v8 v9 v10 v11 v12 v13 v14 v15 v16 v17 v18 v19 v20 v21 v22 v23 v24 v25 v26 v27 v28 v29 : Int) => some (.v (.int .i64 v10))) F a0 a1 a2 a3 a4 a5 a6 a7 a8 0 0 0 a0 a1 a2 a3 a4 a5 a6 a7 a8 p0 p1 p2 p3 p4 p5 p6 p7 p8 = (some (.v (.int .i64 (max (row3 p0 p1 p2 4294967296 0 0) (max (row3 p3 p4 p5 0 4294967296 0) (row3 p6 p7 p8 0 0 4294967296))))) : R) := by
  have w1 : IntKind.wrap .i64 (0 + 1) = 1 := by decide
  have w2 : IntKind.wrap .i64 (1 + 1) = 2 := by decide
  have w3 : IntKind.wrap .i64 (2 + 1) = 3 := by decide
  obtain ⟨s0_, ss0, ss1, ss2, ss3, ss4, ss5, ss6, ss7, ss8⟩ := a_rSame F
  have e00 : (iv [.v (.int .i64 p0), .v (.int .i64 p1), .v (.int .i64 p2), .v (.int .i64 p3), .v (.int .i64 p4), .v (.int .i64 p5), .v (.int .i64 p6), .v (.int .i64 p7), .v (.int .i64 p8)][0 + Int.toNat 0 * 3]?) = p0 := rfl
  have e01 : (iv [.v (.int .i64 p0), .v (.int .i64 p1), .v (.int .i64 p2), .v (.int .i64 p3), .v (.int .i64 p4), .v (.int .i64 p5), .v (.int .i64 p6), .v (.int .i64 p7), .v (.int .i64 p8)][0 + Int.toNat 0 * 3 + 1]?) = p1 := rfl
  have e02 : (iv [.v (.int .i64 p0), .v (.int .i64 p1), .v (.int .i64 p2), .v (.int .i64 p3), .v (.int .i64 p4), .v (.int .i64 p5), .v (.int .i64 p6), .v (.int .i64 p7), .v (.int .i64 p8)][0 + Int.toNat 0 * 3 + 1 + 1]?) = p2 := rfl
  have e10 : (iv [.v (.int .i64 p0), .v (.int .i64 p1), .v (.int .i64 p2), .v (.int .i64 p3), .v (.int .i64 p4), .v (.int .i64 p5), .v (.int .i64 p6), .v (.int .i64 p7), .v (.int .i64 p8)][0 + Int.toNat 1 * 3]?) = p3 := rfl
  have e11 : (iv [.v (.int .i64 p0), .v (.int .i64 p1), .v (.int .i64 p2), .v (.int .i64 p3), .v (.int .i64 p4), .v (.int .i64 p5), .v (.int .i64 p6), .v (.int .i64 p7), .v (.int .i64 p8)][0 + Int.toNat 1 * 3 + 1]?) = p4 := rfl
  have e12 : (iv [.v (.int .i64 p0), .v (.int .i64 p1), .v (.int .i64 p2), .v (.int .i64 p3), .v (.int .i64 p4), .v (.int .i64 p5), .v (.int .i64 p6), .v (.int .i64 p7), .v (.int .i64 p8)][0 + Int.toNat 1 * 3 + 1 + 1]?) = p5 := rfl
  have e20 : (iv [.v (.int .i64 p0), .v (.int .i64 p1), .v (.int .i64 p2), .v (.int .i64 p3), .v (.int .i64 p4), .v (.int .i64 p5), .v (.int .i64 p6), .v (.int .i64 p7), .v (.int .i64 p8)][0 + Int.toNat 2 * 3]?) = p6 := rfl
  have e21 : (iv [.v (.int .i64 p0), .v (.int .i64 p1), .v (.int .i64 p2), .v (.int .i64 p3), .v (.int .i64 p4), .v (.int .i64 p5), .v (.int .i64 p6), .v (.int .i64 p7), .v (.int .i64 p8)][0 + Int.toNat 2 * 3 + 1]?) = p7 := rfl
  have e22 : (iv [.v (.int .i64 p0), .v (.int .i64 p1), .v (.int .i64 p2), .v (.int .i64 p3), .v (.int .i64 p4), .v (.int .i64 p5), .v (.int .i64 p6), .v (.int .i64 p7), .v (.int .i64 p8)][0 + Int.toNat 2 * 3 + 1 + 1]?) = p8 := rfl
  have g00 : (iv [.v (.int .i64 4294967296), .v (.int .i64 0), .v (.int .i64 0), .v (.int .i64 0), .v (.int .i64 4294967296), .v (.int .i64 0), .v (.int .i64 0), .v (.int .i64 0), .v (.int .i64 4294967296)][Int.toNat 0 * 3]?) = 4294967296 := rfl
  have g01 : (iv [.v (.int .i64 4294967296), .v (.int .i64 0), .v (.int .i64 0), .v (.int .i64 0), .v (.int .i64 4294967296), .v (.int .i64 0), .v (.int .i64 0), .v (.int .i64 0), .v (.int .i64 4294967296)][Int.toNat 0 * 3 + 1]?) = 0 := rfl
  have g02 : (iv [.v (.int .i64 4294967296), .v (.int .i64 0), .v (.int .i64 0), .v (.int .i64 0), .v (.int .i64 4294967296), .v (.int .i64 0), .v (.int .i64 0), .v (.int .i64 0), .v (.int .i64 4294967296)][Int.toNat 0 * 3 + 1 + 1]?) = 0 := rfl
  have g10 : (iv [.v (.int .i64 4294967296), .v (.int .i64 0), .v (.int .i64 0), .v (.int .i64 0), .v (.int .i64 4294967296), .v (.int .i64 0), .v (.int .i64 0), .v (.int .i64 0), .v (.int .i64 4294967296)][Int.toNat 1 * 3]?) = 0 := rfl
  have g11 : (iv [.v (.int .i64 4294967296), .v (.int .i64 0), .v (.int .i64 0), .v (.int .i64 0), .v (.int .i64 4294967296), .v (.int .i64 0), .v (.int .i64 0), .v (.int .i64 0), .v (.int .i64 4294967296)][Int.toNat 1 * 3 + 1]?) = 4294967296 := rfl
  have g12 : (iv [.v (.int .i64 4294967296), .v (.int .i64 0), .v (.int .i64 0), .v (.int .i64 0), .v (.int .i64 4294967296), .v (.int .i64 0), .v (.int .i64 0), .v (.int .i64 0), .v (.int .i64 4294967296)][Int.toNat 1 * 3 + 1 + 1]?) = 0 := rfl
  have g20 : (iv [.v (.int .i64 4294967296), .v (.int .i64 0), .v (.int .i64 0), .v (.int .i64 0), .v (.int .i64 4294967296), .v (.int .i64 0), .v (.int .i64 0), .v (.int .i64 0), .v (.int .i64 4294967296)][Int.toNat 2 * 3]?) = 0 := rfl
  have g21 : (iv [.v (.int .i64 4294967296), .v (.int .i64 0), .v (.int .i64 0), .v (.int .i64 0), .v (.int .i64 4294967296), .v (.int .i64 0), .v (.int .i64 0), .v (.int .i64 0), .v (.int .i64 4294967296)][Int.toNat 2 * 3 + 1]?) = 0 := rfl
  have g22 : (iv [.v (.int .i64 4294967296), .v (.int .i64 0), .v (.int .i64 0), .v (.int .i64 0), .v (.int .i64 4294967296), .v (.int .i64 0), .v (.int .i64 0), .v (.int .i64 0), .v (.int .i64 4294967296)][Int.toNat 2 * 3 + 1 + 1]?) = 4294967296 := rfl
  have j0 : I64 0 := by unfold I64; omega
  have jO : I64 4294967296 := by unfold I64; omega
  obtain ⟨x00, x01, x02, x03, _⟩ := a_rSub6 F hF i0 i1 i2 jO j0 j0
  obtain ⟨y00, y01⟩ := a_rGreatest F (clipV_I (p0 - 4294967296)) (clipV_I (p1 - 0)) (clipV_I (p2 - 0))
  obtain ⟨x10, x11, x12, x13, _⟩ := a_rSub6 F hF i3 i4 i5 j0 jO j0
  obtain ⟨y10, y11⟩ := a_rGreatest F (clipV_I (p3 - 0)) (clipV_I (p4 - 4294967296)) (clipV_I (p5 - 0))
  obtain ⟨x20, x21, x22, x23, _⟩ := a_rSub6 F hF i6 i7 i8 j0 j0 jO
  obtain ⟨y20, y21⟩ := a_rGreatest F (clipV_I (p6 - 0)) (clipV_I (p7 - 0)) (clipV_I (p8 - 4294967296))
  obtain ⟨G, hG⟩ : ∃ G, F = G + 4 := ⟨F - 4, by omega⟩
  rw [show L_ya_0 F _ F = L_ya_0 F _ (G + 4) from congrArg (L_ya_0 F _) hG]
  rw [L_ya_0]
  unfold B_ya_0 Bg_ya_0
  refine bp rfl (bp rfl (bp rfl ?_))
  rw [e00, e01, e02]
  refine bp s0_ ?_
  rw [ss0, ss1, ss2, ss3, ss4, ss5, ss6, ss7, ss8]
  refine bp rfl ?_
  rw [g00, g01, g02]
  refine bp x00 ?_
  rw [x01, x02, x03]
  refine bp y00 ?_
  rw [y01, w1]
  rw [L_ya_0]
  unfold B_ya_0 Bg_ya_0
  refine bp rfl (bp rfl (bp rfl ?_))
  rw [e10, e11, e12]
  refine bp s0_ ?_
  rw [ss0, ss1, ss2, ss3, ss4, ss5, ss6, ss7, ss8]
  refine bp rfl ?_
  rw [g10, g11, g12]
  refine bp x10 ?_
  rw [x11, x12, x13]
  refine bp y10 ?_
  rw [y11, w2]
  rw [L_ya_0]
  unfold B_ya_0 Bg_ya_0
  refine bp rfl (bp rfl (bp rfl ?_))
  rw [e20, e21, e22]
  refine bp s0_ ?_
  rw [ss0, ss1, ss2, ss3, ss4, ss5, ss6, ss7, ss8]
  refine bp rfl ?_
  rw [g20, g21, g22]
  refine bp x20 ?_
  rw [x21, x22, x23]
  refine bp y20 ?_
  rw [y21, w3]
  rw [L_ya_0]
  unfold B_ya_0 Bg_ya_0
  refine bn rfl (some_int ?_)
  have n0 := row3_nn p0 p1 p2 4294967296 0 0
  have n1 := row3_nn p3 p4 p5 0 4294967296 0
  have n2 := row3_nn p6 p7 p8 0 0 4294967296
  unfold row3 at *
  rw [mx, mx, mx]
  omega
theorem a_mat_Off (F : Nat) (hF : 200 ≤ F) {a0 a1 a2 a3 a4 a5 a6 a7 a8 : Int} (ha0 : I64 a0) (ha1 : I64 a1) (ha2 : I64 a2) (ha3 : I64 a3) (ha4 : I64 a4) (ha5 : I64 a5) (ha6 : I64 a6) (ha7 : I64 a7) (ha8 : I64 a8) : ok_ec F a0 a1 a2 a3 a4 a5 a6 a7 a8 = true ∧ o_ec_0 F a0 a1 a2 a3 a4 a5 a6 a7 a8 = off9 a0 a1 a2 a3 a4 a5 a6 a7 a8 := by
  refine k_ec F _ _ _ _ _ _ _ _ _ ?_
  unfold f_ec fg_ec
  obtain ⟨b0_, bb0, bb1, bb2, bb3, bb4, bb5, bb6, bb7, bb8⟩ := a_mBack F hF a0 a1 a2 a3 a4 a5 a6 a7 a8
  obtain ⟨m0_, mm0, mm1, mm2, mm3, mm4, mm5, mm6, mm7, mm8, _⟩ := a_mMul F hF ha0 ha1 ha2 ha3 ha4 ha5 ha6 ha7 ha8 ha0 ha3 ha6 ha1 ha4 ha7 ha2 ha5 ha8
  refine bp b0_ ?_
  rw [bb0, bb1, bb2, bb3, bb4, bb5, bb6, bb7, bb8]
  refine bp m0_ ?_
  rw [mm0, mm1, mm2, mm3, mm4, mm5, mm6, mm7, mm8]
  have i0 : I64 (clipV (dotZ a0 a1 a2 a0 a1 a2)) := clipV_I _
  have i1 : I64 (clipV (dotZ a0 a1 a2 a3 a4 a5)) := clipV_I _
  have i2 : I64 (clipV (dotZ a0 a1 a2 a6 a7 a8)) := clipV_I _
  have i3 : I64 (clipV (dotZ a3 a4 a5 a0 a1 a2)) := clipV_I _
  have i4 : I64 (clipV (dotZ a3 a4 a5 a3 a4 a5)) := clipV_I _
  have i5 : I64 (clipV (dotZ a3 a4 a5 a6 a7 a8)) := clipV_I _
  have i6 : I64 (clipV (dotZ a6 a7 a8 a0 a1 a2)) := clipV_I _
  have i7 : I64 (clipV (dotZ a6 a7 a8 a3 a4 a5)) := clipV_I _
  have i8 : I64 (clipV (dotZ a6 a7 a8 a6 a7 a8)) := clipV_I _
  unfold off9
  exact h_mat_Off F hF (clipV_I _) (clipV_I _) (clipV_I _) (clipV_I _) (clipV_I _) (clipV_I _) (clipV_I _) (clipV_I _) (clipV_I _)
theorem a_ref07_Off (F : Nat) (hF : 200 ≤ F) {a0 a1 a2 a3 a4 a5 a6 a7 a8 : Int} (ha0 : I64 a0) (ha1 : I64 a1) (ha2 : I64 a2) (ha3 : I64 a3) (ha4 : I64 a4) (ha5 : I64 a5) (ha6 : I64 a6) (ha7 : I64 a7) (ha8 : I64 a8) : ok_ya F a0 a1 a2 a3 a4 a5 a6 a7 a8 = true ∧ o_ya_0 F a0 a1 a2 a3 a4 a5 a6 a7 a8 = off9 a0 a1 a2 a3 a4 a5 a6 a7 a8 := by
  refine k_ya F _ _ _ _ _ _ _ _ _ ?_
  unfold f_ya fg_ya
  obtain ⟨b0_, bb0, bb1, bb2, bb3, bb4, bb5, bb6, bb7, bb8⟩ := a_rBack F a0 a1 a2 a3 a4 a5 a6 a7 a8
  obtain ⟨m0_, mm0, mm1, mm2, mm3, mm4, mm5, mm6, mm7, mm8, _⟩ := a_rMul7 F hF ha0 ha1 ha2 ha3 ha4 ha5 ha6 ha7 ha8 ha0 ha3 ha6 ha1 ha4 ha7 ha2 ha5 ha8
  refine bp b0_ ?_
  rw [bb0, bb1, bb2, bb3, bb4, bb5, bb6, bb7, bb8]
  refine bp m0_ ?_
  rw [mm0, mm1, mm2, mm3, mm4, mm5, mm6, mm7, mm8]
  have i0 : I64 (clipV (dotZ a0 a1 a2 a0 a1 a2)) := clipV_I _
  have i1 : I64 (clipV (dotZ a0 a1 a2 a3 a4 a5)) := clipV_I _
  have i2 : I64 (clipV (dotZ a0 a1 a2 a6 a7 a8)) := clipV_I _
  have i3 : I64 (clipV (dotZ a3 a4 a5 a0 a1 a2)) := clipV_I _
  have i4 : I64 (clipV (dotZ a3 a4 a5 a3 a4 a5)) := clipV_I _
  have i5 : I64 (clipV (dotZ a3 a4 a5 a6 a7 a8)) := clipV_I _
  have i6 : I64 (clipV (dotZ a6 a7 a8 a0 a1 a2)) := clipV_I _
  have i7 : I64 (clipV (dotZ a6 a7 a8 a3 a4 a5)) := clipV_I _
  have i8 : I64 (clipV (dotZ a6 a7 a8 a6 a7 a8)) := clipV_I _
  unfold off9
  exact h_ref07_Off F hF (clipV_I _) (clipV_I _) (clipV_I _) (clipV_I _) (clipV_I _) (clipV_I _) (clipV_I _) (clipV_I _) (clipV_I _)
noncomputable def oD (a0 a1 a2 a3 a4 a5 a6 a7 a8 : Int) : Int := clipV (dotZ a3 a4 a5 (unV a0 a0 a1 a2) (unV a1 a0 a1 a2) (unV a2 a0 a1 a2))
noncomputable def oR0 (a0 a1 a2 a3 a4 a5 a6 a7 a8 : Int) : Int := clipV (a3 - clipV (pr (unV a0 a0 a1 a2) (oD a0 a1 a2 a3 a4 a5 a6 a7 a8)))
noncomputable def oR1 (a0 a1 a2 a3 a4 a5 a6 a7 a8 : Int) : Int := clipV (a4 - clipV (pr (unV a1 a0 a1 a2) (oD a0 a1 a2 a3 a4 a5 a6 a7 a8)))
noncomputable def oR2 (a0 a1 a2 a3 a4 a5 a6 a7 a8 : Int) : Int := clipV (a5 - clipV (pr (unV a2 a0 a1 a2) (oD a0 a1 a2 a3 a4 a5 a6 a7 a8)))
noncomputable def oY0 (a0 a1 a2 a3 a4 a5 a6 a7 a8 : Int) : Int := unV (oR0 a0 a1 a2 a3 a4 a5 a6 a7 a8) (oR0 a0 a1 a2 a3 a4 a5 a6 a7 a8) (oR1 a0 a1 a2 a3 a4 a5 a6 a7 a8) (oR2 a0 a1 a2 a3 a4 a5 a6 a7 a8)
noncomputable def oY1 (a0 a1 a2 a3 a4 a5 a6 a7 a8 : Int) : Int := unV (oR1 a0 a1 a2 a3 a4 a5 a6 a7 a8) (oR0 a0 a1 a2 a3 a4 a5 a6 a7 a8) (oR1 a0 a1 a2 a3 a4 a5 a6 a7 a8) (oR2 a0 a1 a2 a3 a4 a5 a6 a7 a8)
noncomputable def oY2 (a0 a1 a2 a3 a4 a5 a6 a7 a8 : Int) : Int := unV (oR2 a0 a1 a2 a3 a4 a5 a6 a7 a8) (oR0 a0 a1 a2 a3 a4 a5 a6 a7 a8) (oR1 a0 a1 a2 a3 a4 a5 a6 a7 a8) (oR2 a0 a1 a2 a3 a4 a5 a6 a7 a8)
noncomputable def oZ0 (a0 a1 a2 a3 a4 a5 a6 a7 a8 : Int) : Int := clipV (arZ (unV a1 a0 a1 a2) (oY2 a0 a1 a2 a3 a4 a5 a6 a7 a8) (unV a2 a0 a1 a2) (oY1 a0 a1 a2 a3 a4 a5 a6 a7 a8))
noncomputable def oZ1 (a0 a1 a2 a3 a4 a5 a6 a7 a8 : Int) : Int := clipV (arZ (unV a2 a0 a1 a2) (oY0 a0 a1 a2 a3 a4 a5 a6 a7 a8) (unV a0 a0 a1 a2) (oY2 a0 a1 a2 a3 a4 a5 a6 a7 a8))
noncomputable def oZ2 (a0 a1 a2 a3 a4 a5 a6 a7 a8 : Int) : Int := clipV (arZ (unV a0 a0 a1 a2) (oY1 a0 a1 a2 a3 a4 a5 a6 a7 a8) (unV a1 a0 a1 a2) (oY0 a0 a1 a2 a3 a4 a5 a6 a7 a8))
noncomputable def ortC (a0 a1 a2 a3 a4 a5 a6 a7 a8 : Int) : Bool := unitOK a0 a1 a2 && (unitOK (oR0 a0 a1 a2 a3 a4 a5 a6 a7 a8) (oR1 a0 a1 a2 a3 a4 a5 a6 a7 a8) (oR2 a0 a1 a2 a3 a4 a5 a6 a7 a8) && (!clipC (dotZ a3 a4 a5 (unV a0 a0 a1 a2) (unV a1 a0 a1 a2) (unV a2 a0 a1 a2)) && (!(clipC (pr (unV a0 a0 a1 a2) (oD a0 a1 a2 a3 a4 a5 a6 a7 a8)) || clipC (pr (unV a1 a0 a1 a2) (oD a0 a1 a2 a3 a4 a5 a6 a7 a8)) || clipC (pr (unV a2 a0 a1 a2) (oD a0 a1 a2 a3 a4 a5 a6 a7 a8))) && (!(clipC (a3 - clipV (pr (unV a0 a0 a1 a2) (oD a0 a1 a2 a3 a4 a5 a6 a7 a8))) || clipC (a4 - clipV (pr (unV a1 a0 a1 a2) (oD a0 a1 a2 a3 a4 a5 a6 a7 a8))) || clipC (a5 - clipV (pr (unV a2 a0 a1 a2) (oD a0 a1 a2 a3 a4 a5 a6 a7 a8)))) && !(clipC (arZ (unV a1 a0 a1 a2) (oY2 a0 a1 a2 a3 a4 a5 a6 a7 a8) (unV a2 a0 a1 a2) (oY1 a0 a1 a2 a3 a4 a5 a6 a7 a8)) || clipC (arZ (unV a2 a0 a1 a2) (oY0 a0 a1 a2 a3 a4 a5 a6 a7 a8) (unV a0 a0 a1 a2) (oY2 a0 a1 a2 a3 a4 a5 a6 a7 a8)) || clipC (arZ (unV a0 a0 a1 a2) (oY1 a0 a1 a2 a3 a4 a5 a6 a7 a8) (unV a1 a0 a1 a2) (oY0 a0 a1 a2 a3 a4 a5 a6 a7 a8)))))))
noncomputable def ort0 (a0 a1 a2 a3 a4 a5 a6 a7 a8 : Int) : Int := if ortC a0 a1 a2 a3 a4 a5 a6 a7 a8 = true then (unV a0 a0 a1 a2) else 4294967296
noncomputable def ort1 (a0 a1 a2 a3 a4 a5 a6 a7 a8 : Int) : Int := if ortC a0 a1 a2 a3 a4 a5 a6 a7 a8 = true then (unV a1 a0 a1 a2) else 0
noncomputable def ort2 (a0 a1 a2 a3 a4 a5 a6 a7 a8 : Int) : Int := if ortC a0 a1 a2 a3 a4 a5 a6 a7 a8 = true then (unV a2 a0 a1 a2) else 0
noncomputable def ort3 (a0 a1 a2 a3 a4 a5 a6 a7 a8 : Int) : Int := if ortC a0 a1 a2 a3 a4 a5 a6 a7 a8 = true then (oY0 a0 a1 a2 a3 a4 a5 a6 a7 a8) else 0
noncomputable def ort4 (a0 a1 a2 a3 a4 a5 a6 a7 a8 : Int) : Int := if ortC a0 a1 a2 a3 a4 a5 a6 a7 a8 = true then (oY1 a0 a1 a2 a3 a4 a5 a6 a7 a8) else 4294967296
noncomputable def ort5 (a0 a1 a2 a3 a4 a5 a6 a7 a8 : Int) : Int := if ortC a0 a1 a2 a3 a4 a5 a6 a7 a8 = true then (oY2 a0 a1 a2 a3 a4 a5 a6 a7 a8) else 0
noncomputable def ort6 (a0 a1 a2 a3 a4 a5 a6 a7 a8 : Int) : Int := if ortC a0 a1 a2 a3 a4 a5 a6 a7 a8 = true then (oZ0 a0 a1 a2 a3 a4 a5 a6 a7 a8) else 0
noncomputable def ort7 (a0 a1 a2 a3 a4 a5 a6 a7 a8 : Int) : Int := if ortC a0 a1 a2 a3 a4 a5 a6 a7 a8 = true then (oZ1 a0 a1 a2 a3 a4 a5 a6 a7 a8) else 0
noncomputable def ort8 (a0 a1 a2 a3 a4 a5 a6 a7 a8 : Int) : Int := if ortC a0 a1 a2 a3 a4 a5 a6 a7 a8 = true then (oZ2 a0 a1 a2 a3 a4 a5 a6 a7 a8) else 4294967296
theorem fdivV_I (a b : Int) : I64 (fdivV a b) := by
  unfold fdivV
  split
  · unfold I64; split <;> (try split) <;> omega
  · exact clipV_I _
theorem unV_I (k a b c : Int) : I64 (unV k a b c) := by
  unfold unV
  split
  · exact fdivV_I _ _
  · unfold I64; omega
theorem some_mat {x0 x1 x2 x3 x4 x5 x6 x7 x8 y0 y1 y2 y3 y4 y5 y6 y7 y8 : Int} {c d : Bool} (h0 : x0 = y0) (h1 : x1 = y1) (h2 : x2 = y2) (h3 : x3 = y3) (h4 : x4 = y4) (h5 : x5 = y5) (h6 : x6 = y6) (h7 : x7 = y7) (h8 : x8 = y8) (h : c = d) : (some (VV.v (.tuple #[.agg #[.int .i64 x0, .int .i64 x1, .int .i64 x2, .int .i64 x3, .int .i64 x4, .int .i64 x5, .int .i64 x6, .int .i64 x7, .int .i64 x8], .bool c])) : R) = some (.v (.tuple #[.agg #[.int .i64 y0, .int .i64 y1, .int .i64 y2, .int .i64 y3, .int .i64 y4, .int .i64 y5, .int .i64 y6, .int .i64 y7, .int .i64 y8], .bool d])) := by
  rw [h0, h1, h2, h3, h4, h5, h6, h7, h8, h]
theorem ort_no {a0 a1 a2 a3 a4 a5 a6 a7 a8 : Int} (h : ortC a0 a1 a2 a3 a4 a5 a6 a7 a8 = false) : (some (VV.v (.tuple #[.agg #[.int .i64 4294967296, .int .i64 0, .int .i64 0, .int .i64 0, .int .i64 4294967296, .int .i64 0, .int .i64 0, .int .i64 0, .int .i64 4294967296], .bool false])) : R) = some (.v (.tuple #[.agg #[.int .i64 (ort0 a0 a1 a2 a3 a4 a5 a6 a7 a8), .int .i64 (ort1 a0 a1 a2 a3 a4 a5 a6 a7 a8), .int .i64 (ort2 a0 a1 a2 a3 a4 a5 a6 a7 a8), .int .i64 (ort3 a0 a1 a2 a3 a4 a5 a6 a7 a8), .int .i64 (ort4 a0 a1 a2 a3 a4 a5 a6 a7 a8), .int .i64 (ort5 a0 a1 a2 a3 a4 a5 a6 a7 a8), .int .i64 (ort6 a0 a1 a2 a3 a4 a5 a6 a7 a8), .int .i64 (ort7 a0 a1 a2 a3 a4 a5 a6 a7 a8), .int .i64 (ort8 a0 a1 a2 a3 a4 a5 a6 a7 a8)], .bool (ortC a0 a1 a2 a3 a4 a5 a6 a7 a8)])) := by
  refine some_mat ?_ ?_ ?_ ?_ ?_ ?_ ?_ ?_ ?_ h.symm
  · unfold ort0; rw [h]; rfl
  · unfold ort1; rw [h]; rfl
  · unfold ort2; rw [h]; rfl
  · unfold ort3; rw [h]; rfl
  · unfold ort4; rw [h]; rfl
  · unfold ort5; rw [h]; rfl
  · unfold ort6; rw [h]; rfl
  · unfold ort7; rw [h]; rfl
  · unfold ort8; rw [h]; rfl
theorem ort_yes {a0 a1 a2 a3 a4 a5 a6 a7 a8 : Int} (h : ortC a0 a1 a2 a3 a4 a5 a6 a7 a8 = true) : (some (VV.v (.tuple #[.agg #[.int .i64 (unV a0 a0 a1 a2), .int .i64 (unV a1 a0 a1 a2), .int .i64 (unV a2 a0 a1 a2), .int .i64 (oY0 a0 a1 a2 a3 a4 a5 a6 a7 a8), .int .i64 (oY1 a0 a1 a2 a3 a4 a5 a6 a7 a8), .int .i64 (oY2 a0 a1 a2 a3 a4 a5 a6 a7 a8), .int .i64 (oZ0 a0 a1 a2 a3 a4 a5 a6 a7 a8), .int .i64 (oZ1 a0 a1 a2 a3 a4 a5 a6 a7 a8), .int .i64 (oZ2 a0 a1 a2 a3 a4 a5 a6 a7 a8)], .bool true])) : R) = some (.v (.tuple #[.agg #[.int .i64 (ort0 a0 a1 a2 a3 a4 a5 a6 a7 a8), .int .i64 (ort1 a0 a1 a2 a3 a4 a5 a6 a7 a8), .int .i64 (ort2 a0 a1 a2 a3 a4 a5 a6 a7 a8), .int .i64 (ort3 a0 a1 a2 a3 a4 a5 a6 a7 a8), .int .i64 (ort4 a0 a1 a2 a3 a4 a5 a6 a7 a8), .int .i64 (ort5 a0 a1 a2 a3 a4 a5 a6 a7 a8), .int .i64 (ort6 a0 a1 a2 a3 a4 a5 a6 a7 a8), .int .i64 (ort7 a0 a1 a2 a3 a4 a5 a6 a7 a8), .int .i64 (ort8 a0 a1 a2 a3 a4 a5 a6 a7 a8)], .bool (ortC a0 a1 a2 a3 a4 a5 a6 a7 a8)])) := by
  refine some_mat ?_ ?_ ?_ ?_ ?_ ?_ ?_ ?_ ?_ h.symm
  · unfold ort0; rw [if_pos h]
  · unfold ort1; rw [if_pos h]
  · unfold ort2; rw [if_pos h]
  · unfold ort3; rw [if_pos h]
  · unfold ort4; rw [if_pos h]
  · unfold ort5; rw [if_pos h]
  · unfold ort6; rw [if_pos h]
  · unfold ort7; rw [if_pos h]
  · unfold ort8; rw [if_pos h]
theorem f_mat_Ortho' (F : Nat) (hF : 200 ≤ F) {a0 a1 a2 a3 a4 a5 a6 a7 a8 : Int} (ha0 : I64 a0) (ha1 : I64 a1) (ha2 : I64 a2) (ha3 : I64 a3) (ha4 : I64 a4) (ha5 : I64 a5) (ha6 : I64 a6) (ha7 : I64 a7) (ha8 : I64 a8) : f_qa F a0 a1 a2 a3 a4 a5 a6 a7 a8 = some (.v (.tuple #[.agg #[.int .i64 (ort0 a0 a1 a2 a3 a4 a5 a6 a7 a8), .int .i64 (ort1 a0 a1 a2 a3 a4 a5 a6 a7 a8), .int .i64 (ort2 a0 a1 a2 a3 a4 a5 a6 a7 a8), .int .i64 (ort3 a0 a1 a2 a3 a4 a5 a6 a7 a8), .int .i64 (ort4 a0 a1 a2 a3 a4 a5 a6 a7 a8), .int .i64 (ort5 a0 a1 a2 a3 a4 a5 a6 a7 a8), .int .i64 (ort6 a0 a1 a2 a3 a4 a5 a6 a7 a8), .int .i64 (ort7 a0 a1 a2 a3 a4 a5 a6 a7 a8), .int .i64 (ort8 a0 a1 a2 a3 a4 a5 a6 a7 a8)], .bool (ortC a0 a1 a2 a3 a4 a5 a6 a7 a8)])) := by
  unfold f_qa fg_qa
  obtain ⟨u0, u1, u2, u3, u4⟩ := a_vUnit F hF ha0 ha1 ha2
  obtain ⟨s0_, ss0, ss1, ss2, ss3, ss4, ss5, ss6, ss7, ss8⟩ := a_mSame F hF
  have no := fun h => ort_no (a0 := a0) (a1 := a1) (a2 := a2) (a3 := a3) (a4 := a4) (a5 := a5) (a6 := a6) (a7 := a7) (a8 := a8) h
  have yes := fun h => ort_yes (a0 := a0) (a1 := a1) (a2 := a2) (a3 := a3) (a4 := a4) (a5 := a5) (a6 := a6) (a7 := a7) (a8 := a8) h
  have dx0 := unV_I a0 a0 a1 a2
  have dx1 := unV_I a1 a0 a1 a2
  have dx2 := unV_I a2 a0 a1 a2
  obtain ⟨d0, d1, d2⟩ := a_Dot F hF ha3 ha4 ha5 dx0 dx1 dx2
  obtain ⟨c0, c1, c2, c3, c4⟩ := a_Scale F hF dx0 dx1 dx2 (clipV_I (dotZ a3 a4 a5 (unV a0 a0 a1 a2) (unV a1 a0 a1 a2) (unV a2 a0 a1 a2)))
  obtain ⟨b0, b1, b2, b3, b4⟩ := a_Sub F hF ha3 ha4 ha5 (clipV_I (pr (unV a0 a0 a1 a2) (clipV (dotZ a3 a4 a5 (unV a0 a0 a1 a2) (unV a1 a0 a1 a2) (unV a2 a0 a1 a2))))) (clipV_I (pr (unV a1 a0 a1 a2) (clipV (dotZ a3 a4 a5 (unV a0 a0 a1 a2) (unV a1 a0 a1 a2) (unV a2 a0 a1 a2))))) (clipV_I (pr (unV a2 a0 a1 a2) (clipV (dotZ a3 a4 a5 (unV a0 a0 a1 a2) (unV a1 a0 a1 a2) (unV a2 a0 a1 a2)))))
  obtain ⟨v0, v1, v2, v3, v4⟩ := a_vUnit F hF (clipV_I (a3 - clipV (pr (unV a0 a0 a1 a2) (clipV (dotZ a3 a4 a5 (unV a0 a0 a1 a2) (unV a1 a0 a1 a2) (unV a2 a0 a1 a2)))))) (clipV_I (a4 - clipV (pr (unV a1 a0 a1 a2) (clipV (dotZ a3 a4 a5 (unV a0 a0 a1 a2) (unV a1 a0 a1 a2) (unV a2 a0 a1 a2)))))) (clipV_I (a5 - clipV (pr (unV a2 a0 a1 a2) (clipV (dotZ a3 a4 a5 (unV a0 a0 a1 a2) (unV a1 a0 a1 a2) (unV a2 a0 a1 a2))))))
  obtain ⟨k0, k1, k2, k3, k4⟩ := a_Cross F hF dx0 dx1 dx2 (unV_I (clipV (a3 - clipV (pr (unV a0 a0 a1 a2) (clipV (dotZ a3 a4 a5 (unV a0 a0 a1 a2) (unV a1 a0 a1 a2) (unV a2 a0 a1 a2)))))) (clipV (a3 - clipV (pr (unV a0 a0 a1 a2) (clipV (dotZ a3 a4 a5 (unV a0 a0 a1 a2) (unV a1 a0 a1 a2) (unV a2 a0 a1 a2)))))) (clipV (a4 - clipV (pr (unV a1 a0 a1 a2) (clipV (dotZ a3 a4 a5 (unV a0 a0 a1 a2) (unV a1 a0 a1 a2) (unV a2 a0 a1 a2)))))) (clipV (a5 - clipV (pr (unV a2 a0 a1 a2) (clipV (dotZ a3 a4 a5 (unV a0 a0 a1 a2) (unV a1 a0 a1 a2) (unV a2 a0 a1 a2))))))) (unV_I (clipV (a4 - clipV (pr (unV a1 a0 a1 a2) (clipV (dotZ a3 a4 a5 (unV a0 a0 a1 a2) (unV a1 a0 a1 a2) (unV a2 a0 a1 a2)))))) (clipV (a3 - clipV (pr (unV a0 a0 a1 a2) (clipV (dotZ a3 a4 a5 (unV a0 a0 a1 a2) (unV a1 a0 a1 a2) (unV a2 a0 a1 a2)))))) (clipV (a4 - clipV (pr (unV a1 a0 a1 a2) (clipV (dotZ a3 a4 a5 (unV a0 a0 a1 a2) (unV a1 a0 a1 a2) (unV a2 a0 a1 a2)))))) (clipV (a5 - clipV (pr (unV a2 a0 a1 a2) (clipV (dotZ a3 a4 a5 (unV a0 a0 a1 a2) (unV a1 a0 a1 a2) (unV a2 a0 a1 a2))))))) (unV_I (clipV (a5 - clipV (pr (unV a2 a0 a1 a2) (clipV (dotZ a3 a4 a5 (unV a0 a0 a1 a2) (unV a1 a0 a1 a2) (unV a2 a0 a1 a2)))))) (clipV (a3 - clipV (pr (unV a0 a0 a1 a2) (clipV (dotZ a3 a4 a5 (unV a0 a0 a1 a2) (unV a1 a0 a1 a2) (unV a2 a0 a1 a2)))))) (clipV (a4 - clipV (pr (unV a1 a0 a1 a2) (clipV (dotZ a3 a4 a5 (unV a0 a0 a1 a2) (unV a1 a0 a1 a2) (unV a2 a0 a1 a2)))))) (clipV (a5 - clipV (pr (unV a2 a0 a1 a2) (clipV (dotZ a3 a4 a5 (unV a0 a0 a1 a2) (unV a1 a0 a1 a2) (unV a2 a0 a1 a2)))))))
  refine bp u0 ?_
  rw [u1, u2, u3, u4]
  cases q0 : unitOK a0 a1 a2 with
  | false => exact bp rfl (bp s0_ (by rw [ss0, ss1, ss2, ss3, ss4, ss5, ss6, ss7, ss8]; exact no (by unfold ortC; rw [q0]; rfl)))
  | true =>
    refine bn rfl (bp d0 ?_)
    rw [d1, d2]
    refine bp c0 ?_
    rw [c1, c2, c3, c4]
    refine bp b0 ?_
    rw [b1, b2, b3, b4]
    refine bp v0 ?_
    rw [v1, v2, v3, v4]
    have eo : ortC a0 a1 a2 a3 a4 a5 a6 a7 a8 = (true && ((unitOK (clipV (a3 - clipV (pr (unV a0 a0 a1 a2) (clipV (dotZ a3 a4 a5 (unV a0 a0 a1 a2) (unV a1 a0 a1 a2) (unV a2 a0 a1 a2)))))) (clipV (a4 - clipV (pr (unV a1 a0 a1 a2) (clipV (dotZ a3 a4 a5 (unV a0 a0 a1 a2) (unV a1 a0 a1 a2) (unV a2 a0 a1 a2)))))) (clipV (a5 - clipV (pr (unV a2 a0 a1 a2) (clipV (dotZ a3 a4 a5 (unV a0 a0 a1 a2) (unV a1 a0 a1 a2) (unV a2 a0 a1 a2))))))) && (!clipC (dotZ a3 a4 a5 (unV a0 a0 a1 a2) (unV a1 a0 a1 a2) (unV a2 a0 a1 a2)) && (!(clipC (pr (unV a0 a0 a1 a2) (clipV (dotZ a3 a4 a5 (unV a0 a0 a1 a2) (unV a1 a0 a1 a2) (unV a2 a0 a1 a2)))) || clipC (pr (unV a1 a0 a1 a2) (clipV (dotZ a3 a4 a5 (unV a0 a0 a1 a2) (unV a1 a0 a1 a2) (unV a2 a0 a1 a2)))) || clipC (pr (unV a2 a0 a1 a2) (clipV (dotZ a3 a4 a5 (unV a0 a0 a1 a2) (unV a1 a0 a1 a2) (unV a2 a0 a1 a2))))) && (!(clipC (a3 - clipV (pr (unV a0 a0 a1 a2) (clipV (dotZ a3 a4 a5 (unV a0 a0 a1 a2) (unV a1 a0 a1 a2) (unV a2 a0 a1 a2))))) || clipC (a4 - clipV (pr (unV a1 a0 a1 a2) (clipV (dotZ a3 a4 a5 (unV a0 a0 a1 a2) (unV a1 a0 a1 a2) (unV a2 a0 a1 a2))))) || clipC (a5 - clipV (pr (unV a2 a0 a1 a2) (clipV (dotZ a3 a4 a5 (unV a0 a0 a1 a2) (unV a1 a0 a1 a2) (unV a2 a0 a1 a2)))))) && !(clipC (arZ (unV a1 a0 a1 a2) (unV (clipV (a5 - clipV (pr (unV a2 a0 a1 a2) (clipV (dotZ a3 a4 a5 (unV a0 a0 a1 a2) (unV a1 a0 a1 a2) (unV a2 a0 a1 a2)))))) (clipV (a3 - clipV (pr (unV a0 a0 a1 a2) (clipV (dotZ a3 a4 a5 (unV a0 a0 a1 a2) (unV a1 a0 a1 a2) (unV a2 a0 a1 a2)))))) (clipV (a4 - clipV (pr (unV a1 a0 a1 a2) (clipV (dotZ a3 a4 a5 (unV a0 a0 a1 a2) (unV a1 a0 a1 a2) (unV a2 a0 a1 a2)))))) (clipV (a5 - clipV (pr (unV a2 a0 a1 a2) (clipV (dotZ a3 a4 a5 (unV a0 a0 a1 a2) (unV a1 a0 a1 a2) (unV a2 a0 a1 a2))))))) (unV a2 a0 a1 a2) (unV (clipV (a4 - clipV (pr (unV a1 a0 a1 a2) (clipV (dotZ a3 a4 a5 (unV a0 a0 a1 a2) (unV a1 a0 a1 a2) (unV a2 a0 a1 a2)))))) (clipV (a3 - clipV (pr (unV a0 a0 a1 a2) (clipV (dotZ a3 a4 a5 (unV a0 a0 a1 a2) (unV a1 a0 a1 a2) (unV a2 a0 a1 a2)))))) (clipV (a4 - clipV (pr (unV a1 a0 a1 a2) (clipV (dotZ a3 a4 a5 (unV a0 a0 a1 a2) (unV a1 a0 a1 a2) (unV a2 a0 a1 a2)))))) (clipV (a5 - clipV (pr (unV a2 a0 a1 a2) (clipV (dotZ a3 a4 a5 (unV a0 a0 a1 a2) (unV a1 a0 a1 a2) (unV a2 a0 a1 a2)))))))) || clipC (arZ (unV a2 a0 a1 a2) (unV (clipV (a3 - clipV (pr (unV a0 a0 a1 a2) (clipV (dotZ a3 a4 a5 (unV a0 a0 a1 a2) (unV a1 a0 a1 a2) (unV a2 a0 a1 a2)))))) (clipV (a3 - clipV (pr (unV a0 a0 a1 a2) (clipV (dotZ a3 a4 a5 (unV a0 a0 a1 a2) (unV a1 a0 a1 a2) (unV a2 a0 a1 a2)))))) (clipV (a4 - clipV (pr (unV a1 a0 a1 a2) (clipV (dotZ a3 a4 a5 (unV a0 a0 a1 a2) (unV a1 a0 a1 a2) (unV a2 a0 a1 a2)))))) (clipV (a5 - clipV (pr (unV a2 a0 a1 a2) (clipV (dotZ a3 a4 a5 (unV a0 a0 a1 a2) (unV a1 a0 a1 a2) (unV a2 a0 a1 a2))))))) (unV a0 a0 a1 a2) (unV (clipV (a5 - clipV (pr (unV a2 a0 a1 a2) (clipV (dotZ a3 a4 a5 (unV a0 a0 a1 a2) (unV a1 a0 a1 a2) (unV a2 a0 a1 a2)))))) (clipV (a3 - clipV (pr (unV a0 a0 a1 a2) (clipV (dotZ a3 a4 a5 (unV a0 a0 a1 a2) (unV a1 a0 a1 a2) (unV a2 a0 a1 a2)))))) (clipV (a4 - clipV (pr (unV a1 a0 a1 a2) (clipV (dotZ a3 a4 a5 (unV a0 a0 a1 a2) (unV a1 a0 a1 a2) (unV a2 a0 a1 a2)))))) (clipV (a5 - clipV (pr (unV a2 a0 a1 a2) (clipV (dotZ a3 a4 a5 (unV a0 a0 a1 a2) (unV a1 a0 a1 a2) (unV a2 a0 a1 a2)))))))) || clipC (arZ (unV a0 a0 a1 a2) (unV (clipV (a4 - clipV (pr (unV a1 a0 a1 a2) (clipV (dotZ a3 a4 a5 (unV a0 a0 a1 a2) (unV a1 a0 a1 a2) (unV a2 a0 a1 a2)))))) (clipV (a3 - clipV (pr (unV a0 a0 a1 a2) (clipV (dotZ a3 a4 a5 (unV a0 a0 a1 a2) (unV a1 a0 a1 a2) (unV a2 a0 a1 a2)))))) (clipV (a4 - clipV (pr (unV a1 a0 a1 a2) (clipV (dotZ a3 a4 a5 (unV a0 a0 a1 a2) (unV a1 a0 a1 a2) (unV a2 a0 a1 a2)))))) (clipV (a5 - clipV (pr (unV a2 a0 a1 a2) (clipV (dotZ a3 a4 a5 (unV a0 a0 a1 a2) (unV a1 a0 a1 a2) (unV a2 a0 a1 a2))))))) (unV a1 a0 a1 a2) (unV (clipV (a3 - clipV (pr (unV a0 a0 a1 a2) (clipV (dotZ a3 a4 a5 (unV a0 a0 a1 a2) (unV a1 a0 a1 a2) (unV a2 a0 a1 a2)))))) (clipV (a3 - clipV (pr (unV a0 a0 a1 a2) (clipV (dotZ a3 a4 a5 (unV a0 a0 a1 a2) (unV a1 a0 a1 a2) (unV a2 a0 a1 a2)))))) (clipV (a4 - clipV (pr (unV a1 a0 a1 a2) (clipV (dotZ a3 a4 a5 (unV a0 a0 a1 a2) (unV a1 a0 a1 a2) (unV a2 a0 a1 a2)))))) (clipV (a5 - clipV (pr (unV a2 a0 a1 a2) (clipV (dotZ a3 a4 a5 (unV a0 a0 a1 a2) (unV a1 a0 a1 a2) (unV a2 a0 a1 a2)))))))))))))) := by rw [← q0]; rfl
    refine bp k0 ?_
    rw [k1, k2, k3, k4]
    cases q1 : (unitOK (clipV (a3 - clipV (pr (unV a0 a0 a1 a2) (clipV (dotZ a3 a4 a5 (unV a0 a0 a1 a2) (unV a1 a0 a1 a2) (unV a2 a0 a1 a2)))))) (clipV (a4 - clipV (pr (unV a1 a0 a1 a2) (clipV (dotZ a3 a4 a5 (unV a0 a0 a1 a2) (unV a1 a0 a1 a2) (unV a2 a0 a1 a2)))))) (clipV (a5 - clipV (pr (unV a2 a0 a1 a2) (clipV (dotZ a3 a4 a5 (unV a0 a0 a1 a2) (unV a1 a0 a1 a2) (unV a2 a0 a1 a2))))))) with
    | false => exact bp rfl (bp s0_ (by rw [ss0, ss1, ss2, ss3, ss4, ss5, ss6, ss7, ss8]; exact no (by rw [eo, q1]; simp)))
    | true =>
      refine bn rfl ?_
      cases q2 : clipC (dotZ a3 a4 a5 (unV a0 a0 a1 a2) (unV a1 a0 a1 a2) (unV a2 a0 a1 a2)) with
      | true => exact bp rfl (bp s0_ (by rw [ss0, ss1, ss2, ss3, ss4, ss5, ss6, ss7, ss8]; exact no (by rw [eo, q2]; simp)))
      | false =>
        refine bn rfl ?_
        cases q3 : (clipC (pr (unV a0 a0 a1 a2) (clipV (dotZ a3 a4 a5 (unV a0 a0 a1 a2) (unV a1 a0 a1 a2) (unV a2 a0 a1 a2)))) || clipC (pr (unV a1 a0 a1 a2) (clipV (dotZ a3 a4 a5 (unV a0 a0 a1 a2) (unV a1 a0 a1 a2) (unV a2 a0 a1 a2)))) || clipC (pr (unV a2 a0 a1 a2) (clipV (dotZ a3 a4 a5 (unV a0 a0 a1 a2) (unV a1 a0 a1 a2) (unV a2 a0 a1 a2))))) with
        | true => exact bp rfl (bp s0_ (by rw [ss0, ss1, ss2, ss3, ss4, ss5, ss6, ss7, ss8]; exact no (by rw [eo, q3]; simp)))
        | false =>
          refine bn rfl ?_
          cases q4 : (clipC (a3 - clipV (pr (unV a0 a0 a1 a2) (clipV (dotZ a3 a4 a5 (unV a0 a0 a1 a2) (unV a1 a0 a1 a2) (unV a2 a0 a1 a2))))) || clipC (a4 - clipV (pr (unV a1 a0 a1 a2) (clipV (dotZ a3 a4 a5 (unV a0 a0 a1 a2) (unV a1 a0 a1 a2) (unV a2 a0 a1 a2))))) || clipC (a5 - clipV (pr (unV a2 a0 a1 a2) (clipV (dotZ a3 a4 a5 (unV a0 a0 a1 a2) (unV a1 a0 a1 a2) (unV a2 a0 a1 a2)))))) with
          | true => exact bp rfl (bp s0_ (by rw [ss0, ss1, ss2, ss3, ss4, ss5, ss6, ss7, ss8]; exact no (by rw [eo, q4]; simp)))
          | false =>
            refine bn rfl ?_
            cases q5 : (clipC (arZ (unV a1 a0 a1 a2) (unV (clipV (a5 - clipV (pr (unV a2 a0 a1 a2) (clipV (dotZ a3 a4 a5 (unV a0 a0 a1 a2) (unV a1 a0 a1 a2) (unV a2 a0 a1 a2)))))) (clipV (a3 - clipV (pr (unV a0 a0 a1 a2) (clipV (dotZ a3 a4 a5 (unV a0 a0 a1 a2) (unV a1 a0 a1 a2) (unV a2 a0 a1 a2)))))) (clipV (a4 - clipV (pr (unV a1 a0 a1 a2) (clipV (dotZ a3 a4 a5 (unV a0 a0 a1 a2) (unV a1 a0 a1 a2) (unV a2 a0 a1 a2)))))) (clipV (a5 - clipV (pr (unV a2 a0 a1 a2) (clipV (dotZ a3 a4 a5 (unV a0 a0 a1 a2) (unV a1 a0 a1 a2) (unV a2 a0 a1 a2))))))) (unV a2 a0 a1 a2) (unV (clipV (a4 - clipV (pr (unV a1 a0 a1 a2) (clipV (dotZ a3 a4 a5 (unV a0 a0 a1 a2) (unV a1 a0 a1 a2) (unV a2 a0 a1 a2)))))) (clipV (a3 - clipV (pr (unV a0 a0 a1 a2) (clipV (dotZ a3 a4 a5 (unV a0 a0 a1 a2) (unV a1 a0 a1 a2) (unV a2 a0 a1 a2)))))) (clipV (a4 - clipV (pr (unV a1 a0 a1 a2) (clipV (dotZ a3 a4 a5 (unV a0 a0 a1 a2) (unV a1 a0 a1 a2) (unV a2 a0 a1 a2)))))) (clipV (a5 - clipV (pr (unV a2 a0 a1 a2) (clipV (dotZ a3 a4 a5 (unV a0 a0 a1 a2) (unV a1 a0 a1 a2) (unV a2 a0 a1 a2)))))))) || clipC (arZ (unV a2 a0 a1 a2) (unV (clipV (a3 - clipV (pr (unV a0 a0 a1 a2) (clipV (dotZ a3 a4 a5 (unV a0 a0 a1 a2) (unV a1 a0 a1 a2) (unV a2 a0 a1 a2)))))) (clipV (a3 - clipV (pr (unV a0 a0 a1 a2) (clipV (dotZ a3 a4 a5 (unV a0 a0 a1 a2) (unV a1 a0 a1 a2) (unV a2 a0 a1 a2)))))) (clipV (a4 - clipV (pr (unV a1 a0 a1 a2) (clipV (dotZ a3 a4 a5 (unV a0 a0 a1 a2) (unV a1 a0 a1 a2) (unV a2 a0 a1 a2)))))) (clipV (a5 - clipV (pr (unV a2 a0 a1 a2) (clipV (dotZ a3 a4 a5 (unV a0 a0 a1 a2) (unV a1 a0 a1 a2) (unV a2 a0 a1 a2))))))) (unV a0 a0 a1 a2) (unV (clipV (a5 - clipV (pr (unV a2 a0 a1 a2) (clipV (dotZ a3 a4 a5 (unV a0 a0 a1 a2) (unV a1 a0 a1 a2) (unV a2 a0 a1 a2)))))) (clipV (a3 - clipV (pr (unV a0 a0 a1 a2) (clipV (dotZ a3 a4 a5 (unV a0 a0 a1 a2) (unV a1 a0 a1 a2) (unV a2 a0 a1 a2)))))) (clipV (a4 - clipV (pr (unV a1 a0 a1 a2) (clipV (dotZ a3 a4 a5 (unV a0 a0 a1 a2) (unV a1 a0 a1 a2) (unV a2 a0 a1 a2)))))) (clipV (a5 - clipV (pr (unV a2 a0 a1 a2) (clipV (dotZ a3 a4 a5 (unV a0 a0 a1 a2) (unV a1 a0 a1 a2) (unV a2 a0 a1 a2)))))))) || clipC (arZ (unV a0 a0 a1 a2) (unV (clipV (a4 - clipV (pr (unV a1 a0 a1 a2) (clipV (dotZ a3 a4 a5 (unV a0 a0 a1 a2) (unV a1 a0 a1 a2) (unV a2 a0 a1 a2)))))) (clipV (a3 - clipV (pr (unV a0 a0 a1 a2) (clipV (dotZ a3 a4 a5 (unV a0 a0 a1 a2) (unV a1 a0 a1 a2) (unV a2 a0 a1 a2)))))) (clipV (a4 - clipV (pr (unV a1 a0 a1 a2) (clipV (dotZ a3 a4 a5 (unV a0 a0 a1 a2) (unV a1 a0 a1 a2) (unV a2 a0 a1 a2)))))) (clipV (a5 - clipV (pr (unV a2 a0 a1 a2) (clipV (dotZ a3 a4 a5 (unV a0 a0 a1 a2) (unV a1 a0 a1 a2) (unV a2 a0 a1 a2))))))) (unV a1 a0 a1 a2) (unV (clipV (a3 - clipV (pr (unV a0 a0 a1 a2) (clipV (dotZ a3 a4 a5 (unV a0 a0 a1 a2) (unV a1 a0 a1 a2) (unV a2 a0 a1 a2)))))) (clipV (a3 - clipV (pr (unV a0 a0 a1 a2) (clipV (dotZ a3 a4 a5 (unV a0 a0 a1 a2) (unV a1 a0 a1 a2) (unV a2 a0 a1 a2)))))) (clipV (a4 - clipV (pr (unV a1 a0 a1 a2) (clipV (dotZ a3 a4 a5 (unV a0 a0 a1 a2) (unV a1 a0 a1 a2) (unV a2 a0 a1 a2)))))) (clipV (a5 - clipV (pr (unV a2 a0 a1 a2) (clipV (dotZ a3 a4 a5 (unV a0 a0 a1 a2) (unV a1 a0 a1 a2) (unV a2 a0 a1 a2))))))))) with
            | true => exact bp rfl (bp s0_ (by rw [ss0, ss1, ss2, ss3, ss4, ss5, ss6, ss7, ss8]; exact no (by rw [eo, q5]; simp)))
            | false =>
              refine bn rfl ?_
              exact yes (by rw [eo, q1, q2, q3, q4, q5]; rfl)
theorem a_mat_Ortho (F : Nat) (hF : 200 ≤ F) {a0 a1 a2 a3 a4 a5 a6 a7 a8 : Int} (ha0 : I64 a0) (ha1 : I64 a1) (ha2 : I64 a2) (ha3 : I64 a3) (ha4 : I64 a4) (ha5 : I64 a5) (ha6 : I64 a6) (ha7 : I64 a7) (ha8 : I64 a8) : ok_qa F a0 a1 a2 a3 a4 a5 a6 a7 a8 = true ∧ o_qa_0 F a0 a1 a2 a3 a4 a5 a6 a7 a8 = ort0 a0 a1 a2 a3 a4 a5 a6 a7 a8 ∧ o_qa_1 F a0 a1 a2 a3 a4 a5 a6 a7 a8 = ort1 a0 a1 a2 a3 a4 a5 a6 a7 a8 ∧ o_qa_2 F a0 a1 a2 a3 a4 a5 a6 a7 a8 = ort2 a0 a1 a2 a3 a4 a5 a6 a7 a8 ∧ o_qa_3 F a0 a1 a2 a3 a4 a5 a6 a7 a8 = ort3 a0 a1 a2 a3 a4 a5 a6 a7 a8 ∧ o_qa_4 F a0 a1 a2 a3 a4 a5 a6 a7 a8 = ort4 a0 a1 a2 a3 a4 a5 a6 a7 a8 ∧ o_qa_5 F a0 a1 a2 a3 a4 a5 a6 a7 a8 = ort5 a0 a1 a2 a3 a4 a5 a6 a7 a8 ∧ o_qa_6 F a0 a1 a2 a3 a4 a5 a6 a7 a8 = ort6 a0 a1 a2 a3 a4 a5 a6 a7 a8 ∧ o_qa_7 F a0 a1 a2 a3 a4 a5 a6 a7 a8 = ort7 a0 a1 a2 a3 a4 a5 a6 a7 a8 ∧ o_qa_8 F a0 a1 a2 a3 a4 a5 a6 a7 a8 = ort8 a0 a1 a2 a3 a4 a5 a6 a7 a8 ∧ o_qa_9 F a0 a1 a2 a3 a4 a5 a6 a7 a8 = ortC a0 a1 a2 a3 a4 a5 a6 a7 a8 := k_qa F _ _ _ _ _ _ _ _ _ (f_mat_Ortho' F hF ha0 ha1 ha2 ha3 ha4 ha5 ha6 ha7 ha8)
end Go.Xv
namespace Go.Xv
structure Cx where
  re : Rat
  im : Rat
namespace Cx
def mul (a b : Cx) : Cx := ⟨a.re * b.re - a.im * b.im, a.re * b.im + a.im * b.re⟩
def add (a b : Cx) : Cx := ⟨a.re + b.re, a.im + b.im⟩
def sub (a b : Cx) : Cx := ⟨a.re - b.re, a.im - b.im⟩
def cj (a : Cx) : Cx := ⟨a.re, -a.im⟩
def sc (r : Rat) (a : Cx) : Cx := ⟨r * a.re, r * a.im⟩
def one : Cx := ⟨1, 0⟩
def n2 (a : Cx) : Rat := a.re * a.re + a.im * a.im
theorem eqC {a b : Cx} (h1 : a.re = b.re) (h2 : a.im = b.im) : a = b := by cases a; cases b; simp_all
theorem mul_comm (a b : Cx) : mul a b = mul b a := by apply eqC <;> simp only [mul] <;> grind
theorem mul_assoc (a b c : Cx) : mul (mul a b) c = mul a (mul b c) := by apply eqC <;> simp only [mul] <;> grind
theorem mul_one (a : Cx) : mul a one = a := by apply eqC <;> simp only [mul, one] <;> grind
theorem one_mul (a : Cx) : mul one a = a := by apply eqC <;> simp only [mul, one] <;> grind
theorem n2_mul (a b : Cx) : n2 (mul a b) = n2 a * n2 b := by simp only [mul, n2]; grind
theorem n2_cj (a : Cx) : n2 (cj a) = n2 a := by simp only [cj, n2]; grind
theorem cj_mul (a b : Cx) : cj (mul a b) = mul (cj a) (cj b) := by apply eqC <;> simp only [mul, cj] <;> grind
theorem cj_cj (a : Cx) : cj (cj a) = a := by apply eqC <;> simp only [cj] <;> grind
theorem mul_cj (a : Cx) : mul a (cj a) = ⟨n2 a, 0⟩ := by apply eqC <;> simp only [mul, cj, n2] <;> grind
theorem sq_nn (a : Rat) : 0 ≤ a * a := by
  rcases Rat.le_total (a := 0) (b := a) with h | h
  · exact Rat.mul_nonneg h h
  · have := Rat.mul_nonneg (a := -a) (b := -a) (by grind) (by grind)
    grind
theorem n2_nn (a : Cx) : 0 ≤ n2 a := by
  have := sq_nn a.re
  have := sq_nn a.im
  simp only [n2]; grind
theorem le_of_sq {x y : Rat} (hy : 0 ≤ y) (h : x * x ≤ y * y) : x ≤ y := by
  rcases Rat.le_total (a := x) (b := y) with hx | hx
  · exact hx
  · by_cases he : x = y
    · grind
    · have hlt : 0 < x - y := by grind
      have h0 : 0 < x := by grind
      have h1 := Rat.mul_pos hlt h0
      have h2 := Rat.mul_nonneg (Rat.le_of_lt hlt) hy
      grind
theorem sq_le_sq {x y : Rat} (hx : 0 ≤ x) (h : x ≤ y) : x * x ≤ y * y := by
  have h1 := Rat.mul_nonneg hx (show 0 ≤ y - x by grind)
  have h2 := Rat.mul_nonneg (show 0 ≤ y by grind) (show 0 ≤ y - x by grind)
  grind
/-- not longer than -/
def Nm (a : Cx) (e : Rat) : Prop := 0 ≤ e ∧ n2 a ≤ e * e
theorem Nm.mono {a : Cx} {e f : Rat} (h : Nm a e) (k : e ≤ f) : Nm a f := by
  refine ⟨by have := h.1; grind, ?_⟩
  have := sq_le_sq h.1 k
  have := h.2
  grind
theorem Nm.add {a b : Cx} {e f : Rat} (h : Nm a e) (k : Nm b f) : Nm (add a b) (e + f) := by
  obtain ⟨h1, h2⟩ := h
  obtain ⟨k1, k2⟩ := k
  refine ⟨by grind, ?_⟩
  have hd : a.re * b.re + a.im * b.im ≤ e * f := by
    refine le_of_sq (Rat.mul_nonneg h1 k1) ?_
    have e1 := sq_nn (a.re * b.im - a.im * b.re)
    have e2 : (a.re * b.re + a.im * b.im) * (a.re * b.re + a.im * b.im) + (a.re * b.im - a.im * b.re) * (a.re * b.im - a.im * b.re) = n2 a * n2 b := by simp only [n2]; grind
    have e3 : n2 a * n2 b ≤ (e * e) * n2 b := Rat.mul_le_mul_of_nonneg_right h2 (n2_nn b)
    have e4 : (e * e) * n2 b ≤ (e * e) * (f * f) := Rat.mul_le_mul_of_nonneg_left k2 (sq_nn e)
    grind
  simp only [Cx.add, n2] at *
  grind
theorem Nm.mul {a b : Cx} {e f : Rat} (h : Nm a e) (k : Nm b f) : Nm (mul a b) (e * f) := by
  refine ⟨Rat.mul_nonneg h.1 k.1, ?_⟩
  rw [n2_mul]
  have e3 : n2 a * n2 b ≤ (e * e) * n2 b := Rat.mul_le_mul_of_nonneg_right h.2 (n2_nn b)
  have e4 : (e * e) * n2 b ≤ (e * e) * (f * f) := Rat.mul_le_mul_of_nonneg_left k.2 (sq_nn e)
  grind
theorem Nm.cj {a : Cx} {e : Rat} (h : Nm a e) : Nm (cj a) e := ⟨h.1, by rw [n2_cj]; exact h.2⟩
theorem Nm.neg {a b : Cx} {e : Rat} (h : Nm (sub a b) e) : Nm (sub b a) e := by
  refine ⟨h.1, ?_⟩
  have := h.2
  simp only [sub, n2] at *
  grind
theorem Nm.sc {a : Cx} {e r : Rat} (hr : 0 ≤ r) (h : Nm a e) : Nm (sc r a) (r * e) := by
  refine ⟨Rat.mul_nonneg hr h.1, ?_⟩
  have e1 := Rat.mul_le_mul_of_nonneg_left h.2 (sq_nn r)
  simp only [Cx.sc, n2] at *
  grind
theorem Nm.trans {a b c : Cx} {e f : Rat} (h : Nm (sub a b) e) (k : Nm (sub b c) f) : Nm (sub a c) (e + f) := by
  have := h.add k
  have e : Cx.add (sub a b) (sub b c) = sub a c := by apply eqC <;> simp only [Cx.add, sub] <;> grind
  rwa [e] at this
theorem Nm.re {a : Cx} {e : Rat} (h : Nm a e) : a.re ≤ e ∧ -e ≤ a.re := by
  have h1 := sq_nn a.im
  have h2 := h.2
  simp only [n2] at h2
  constructor
  · exact le_of_sq h.1 (by grind)
  · have := le_of_sq (x := -a.re) h.1 (by grind)
    grind
theorem Nm.im {a : Cx} {e : Rat} (h : Nm a e) : a.im ≤ e ∧ -e ≤ a.im := by
  have h1 := sq_nn a.re
  have h2 := h.2
  simp only [n2] at h2
  constructor
  · exact le_of_sq h.1 (by grind)
  · have := le_of_sq (x := -a.im) h.1 (by grind)
    grind
theorem Nm.of {a : Cx} {x y : Rat} (hx : a.re ≤ x) (hx' : -x ≤ a.re) (hy : a.im ≤ y) (hy' : -y ≤ a.im) : Nm a (x + y) := by
  have h0 : 0 ≤ x := by grind
  have k0 : 0 ≤ y := by grind
  refine ⟨by grind, ?_⟩
  have h1 : a.re * a.re ≤ x * x := by
    have := Rat.mul_nonneg (show 0 ≤ x - a.re by grind) (show 0 ≤ x + a.re by grind)
    grind
  have k1 : a.im * a.im ≤ y * y := by
    have := Rat.mul_nonneg (show 0 ≤ y - a.im by grind) (show 0 ≤ y + a.im by grind)
    grind
  have := Rat.mul_nonneg h0 k0
  simp only [n2]
  grind
/-- 1.5 is enough for two parts of at most one each -/
theorem Nm.unit {a : Cx} (hx : a.re ≤ 1) (hx' : -1 ≤ a.re) (hy : a.im ≤ 1) (hy' : -1 ≤ a.im) : Nm a (3 / 2) := by
  refine ⟨by grind, ?_⟩
  have h1 : a.re * a.re ≤ 1 := by
    have := Rat.mul_nonneg (show 0 ≤ 1 - a.re by grind) (show 0 ≤ 1 + a.re by grind)
    grind
  have k1 : a.im * a.im ≤ 1 := by
    have := Rat.mul_nonneg (show 0 ≤ 1 - a.im by grind) (show 0 ≤ 1 + a.im by grind)
    grind
  simp only [n2]
  grind
/-- what has the length 1 -/
def U (a : Cx) : Prop := n2 a = 1
theorem U.nm {a : Cx} (h : U a) : Nm a 1 := ⟨by grind, by unfold U at h; grind⟩
theorem U.mul {a b : Cx} (h : U a) (k : U b) : U (mul a b) := by unfold U at *; rw [n2_mul, h, k]; grind
theorem U.cj {a : Cx} (h : U a) : U (cj a) := by unfold U at *; rw [n2_cj, h]
theorem U.mul_cj {a : Cx} (h : U a) : Cx.mul a (Cx.cj a) = one := by rw [Cx.mul_cj]; unfold U at h; rw [h]; rfl
theorem U_one : U one := by simp only [U, n2, one]; grind
/-- to turn changes no length -/
theorem Nm.turn {a u : Cx} {e : Rat} (h : Nm a e) (k : U u) : Nm (Cx.mul a u) e := by
  have := h.mul k.nm
  rwa [Rat.mul_one] at this
theorem sub_mul (a b c : Cx) : mul (sub a b) c = sub (mul a c) (mul b c) := by apply eqC <;> simp only [mul, sub] <;> grind
theorem mul_sub (a b c : Cx) : mul c (sub a b) = sub (mul c a) (mul c b) := by apply eqC <;> simp only [mul, sub] <;> grind
end Cx
end Go.Xv
namespace Go.Xv
namespace Cx
def wA : Rat := 1329227995784915872903807060280344576
def wB : Rat := 972275833250902676855126013
def w : Cx := ⟨(wA * wA - wB * wB) / (wA * wA + wB * wB), 2 * wA * wB / (wA * wA + wB * wB)⟩
theorem w_U : U w := by unfold U; decide +kernel
def V : Nat → Cx
  | 0 => one
  | n + 1 => mul (V n) w
theorem V_U : ∀ n, U (V n)
  | 0 => U_one
  | n + 1 => (V_U n).mul w_U
theorem V_add (n : Nat) : ∀ m, V (n + m) = mul (V n) (V m)
  | 0 => (mul_one _).symm
  | m + 1 => by
    show mul (V (n + m)) w = mul (V n) (mul (V m) w)
    rw [V_add n m, mul_assoc]
def VI (n : Int) : Cx := mul (V n.toNat) (cj (V (-n).toNat))
theorem cj_one : cj one = one := by apply eqC <;> simp only [cj, one] <;> grind
theorem VI_nat (n : Nat) : VI n = V n := by
  unfold VI
  rw [Int.toNat_natCast, show (-(n : Int)).toNat = 0 by omega]
  show mul (V n) (cj one) = V n
  rw [cj_one, mul_one]
theorem VI_sub (a b : Nat) : VI ((a : Int) - b) = mul (V a) (cj (V b)) := by
  unfold VI
  rcases Nat.le_total b a with h | h
  · obtain ⟨d, rfl⟩ : ∃ d, a = d + b := ⟨a - b, by omega⟩
    rw [show (((d + b : Nat) : Int) - b).toNat = d by omega, show (-(((d + b : Nat) : Int) - b)).toNat = 0 by omega, V_add, mul_assoc, (V_U b).mul_cj]
    show mul (V d) (cj one) = _
    rw [cj_one]
  · obtain ⟨d, rfl⟩ : ∃ d, b = a + d := ⟨b - a, by omega⟩
    rw [show ((a : Int) - ((a + d : Nat) : Int)).toNat = 0 by omega, show (-((a : Int) - ((a + d : Nat) : Int))).toNat = d by omega, V_add, cj_mul, ← mul_assoc, (V_U a).mul_cj]
    rfl
theorem int_sub (n : Int) : ∃ a b : Nat, n = (a : Int) - b := ⟨n.toNat, (-n).toNat, by omega⟩
theorem VI_add (n m : Int) : VI (n + m) = mul (VI n) (VI m) := by
  obtain ⟨a, b, rfl⟩ := int_sub n
  obtain ⟨c, d, rfl⟩ := int_sub m
  rw [show (a : Int) - b + (c - d) = ((a + c : Nat) : Int) - ((b + d : Nat) : Int) by omega, VI_sub, VI_sub, VI_sub, V_add, V_add, cj_mul]
  rw [mul_assoc, mul_assoc, ← mul_assoc (V c), mul_comm (V c) (cj (V b)), mul_assoc (cj (V b))]
theorem VI_neg (n : Int) : VI (-n) = cj (VI n) := by
  obtain ⟨a, b, rfl⟩ := int_sub n
  rw [show -((a : Int) - b) = (b : Int) - a by omega, VI_sub, VI_sub, cj_mul, cj_cj, mul_comm]
theorem VI_U (n : Int) : U (VI n) := (V_U _).mul (V_U _).cj
theorem VI_zero : VI 0 = one := by rw [show (0 : Int) = ((0 : Nat) : Int) by rfl, VI_nat]; rfl
def Q : Int := 340282366920938463463374607431768211456
def q : Rat := 340282366920938463463374607431768211456
theorem Qq : ((Q : Int) : Rat) = q := by decide +kernel
theorem q0 : (0 : Rat) < q := by decide +kernel
def r : Rat := 1 / q
theorem qr : q * r = 1 := by decide +kernel
theorem r0 : (0 : Rat) < r := by decide +kernel
def toC (a b : Int) : Cx := ⟨(a : Rat) * r, (b : Rat) * r⟩
def Ap (z : Cx) (a b e : Int) : Prop := 0 ≤ e ∧ Nm (sub z (toC a b)) ((e : Rat) * r)
theorem cast_le {a b : Int} (h : a ≤ b) : (a : Rat) ≤ (b : Rat) := Rat.intCast_le_intCast.2 h
theorem floor_q (x : Int) : ((x / Q : Int) : Rat) * q ≤ x ∧ (x : Rat) ≤ ((x / Q : Int) : Rat) * q + q := by
  have h1 := Int.mul_ediv_add_emod x Q
  have h2 := Int.emod_nonneg x (show Q ≠ 0 by decide)
  have h3 := Int.emod_lt_of_pos x (show 0 < Q by decide)
  rw [← Qq, ← Rat.intCast_mul, ← Rat.intCast_add]
  refine ⟨cast_le ?_, cast_le ?_⟩
  · rw [Int.mul_comm]; omega
  · rw [Int.mul_comm]; omega
theorem floor_r (x : Int) : ((x / Q : Int) : Rat) ≤ x * r ∧ (x : Rat) * r ≤ ((x / Q : Int) : Rat) + 1 := by
  obtain ⟨h1, h2⟩ := floor_q x
  have m1 := Rat.mul_le_mul_of_nonneg_right (c := r) h1 (Rat.le_of_lt r0)
  have m2 := Rat.mul_le_mul_of_nonneg_right (c := r) h2 (Rat.le_of_lt r0)
  rw [Rat.mul_assoc, qr, Rat.mul_one] at m1
  rw [Rat.add_mul, Rat.mul_assoc, qr, Rat.mul_one] at m2
  exact ⟨m1, m2⟩
theorem Ap.mul {z y : Cx} {a b e c d f : Int} (hz : U z) (hy : U y) (h : Ap z a b e) (k : Ap y c d f) :
    Ap (mul z y) ((a * c - b * d) / Q) ((a * d + b * c) / Q) (e + f + e * f / Q + 3) := by
  obtain ⟨h0, h1⟩ := h
  obtain ⟨k0, k1⟩ := k
  have hef : 0 ≤ e * f / Q := Int.ediv_nonneg (Int.mul_nonneg h0 k0) (by decide)
  refine ⟨by omega, ?_⟩
  have e1 : Nm (toC a b) (1 + (e : Rat) * r) := by
    have := (hz.nm).add h1.neg
    have e : Cx.add z (sub (toC a b) z) = toC a b := by apply eqC <;> simp only [Cx.add, sub] <;> grind
    rwa [e] at this
  have e2 := (h1.turn hy).add (e1.mul k1)
  have f1 := floor_r (a * c - b * d)
  have f2 := floor_r (a * d + b * c)
  have f3 := floor_r (e * f)
  simp only [Rat.intCast_sub, Rat.intCast_add, Rat.intCast_mul] at f1 f2 f3
  have e3 : Nm (sub (Cx.mul (toC a b) (toC c d)) (toC ((a * c - b * d) / Q) ((a * d + b * c) / Q))) (r * (3 / 2)) := by
    have g : Nm ⟨((a : Rat) * c - b * d) * r - ((a * c - b * d) / Q : Int), ((a : Rat) * d + b * c) * r - ((a * d + b * c) / Q : Int)⟩ (3 / 2) := by
      apply Nm.unit <;> simp only <;> grind
    have g2 := g.sc (r := r) (Rat.le_of_lt r0)
    have ee : Cx.sc r ⟨((a : Rat) * c - b * d) * r - ((a * c - b * d) / Q : Int), ((a : Rat) * d + b * c) * r - ((a * d + b * c) / Q : Int)⟩ = sub (Cx.mul (toC a b) (toC c d)) (toC ((a * c - b * d) / Q) ((a * d + b * c) / Q)) := by
      apply eqC <;> simp only [Cx.sc, Cx.mul, sub, toC] <;> grind
    rwa [ee] at g2
  have e4 := e2.add e3
  have ee : Cx.add (Cx.add (Cx.mul (sub z (toC a b)) y) (Cx.mul (toC a b) (sub y (toC c d)))) (sub (Cx.mul (toC a b) (toC c d)) (toC ((a * c - b * d) / Q) ((a * d + b * c) / Q))) = sub (Cx.mul z y) (toC ((a * c - b * d) / Q) ((a * d + b * c) / Q)) := by
    apply eqC <;> simp only [Cx.add, Cx.mul, sub] <;> grind
  rw [ee] at e4
  refine e4.mono ?_
  have m5 := Rat.mul_le_mul_of_nonneg_right (c := r) f3.2 (Rat.le_of_lt r0)
  have hr := r0
  simp only [Rat.intCast_add]
  generalize ((e * f / Q : Int) : Rat) = g at *
  have t3 : ((3 : Int) : Rat) = 3 := by decide +kernel
  rw [t3]
  grind
def sq3 (p : Int × Int × Int) : Int × Int × Int := ((p.1 * p.1 - p.2.1 * p.2.1) / Q, (p.1 * p.2.1 + p.2.1 * p.1) / Q, p.2.2 + p.2.2 + p.2.2 * p.2.2 / Q + 3)
def w0 : Int := 340282366920938463099250474440462542326
def w1 : Int := 497805226624462170283482630030
def mw (p : Int × Int × Int) : Int × Int × Int := ((p.1 * w0 - p.2.1 * w1) / Q, (p.1 * w1 + p.2.1 * w0) / Q, p.2.2 + 2 + p.2.2 * 2 / Q + 3)
theorem w_Ap : Ap w w0 w1 2 := by
  refine ⟨by decide, ?_, ?_⟩
  · decide +kernel
  · decide +kernel
def pw : Nat → Nat → Int × Int × Int
  | 0, _ => (Q, 0, 0)
  | f + 1, n => if n = 0 then (Q, 0, 0) else if n % 2 = 1 then mw (sq3 (pw f (n / 2))) else sq3 (pw f (n / 2))
theorem one_Ap : Ap one Q 0 0 := by
  refine ⟨by decide, ?_, ?_⟩
  · decide +kernel
  · decide +kernel
theorem pw_ok : ∀ (f n : Nat), n < 2 ^ f → Ap (V n) (pw f n).1 (pw f n).2.1 (pw f n).2.2
  | 0, n, h => by
    obtain rfl : n = 0 := by simp at h; omega
    exact one_Ap
  | f + 1, n, h => by
    rw [pw]
    by_cases h0 : n = 0
    · rw [if_pos h0]; subst h0; exact one_Ap
    · rw [if_neg h0]
      have ih := pw_ok f (n / 2) (by rw [Nat.pow_succ] at h; omega)
      have hs := Ap.mul (V_U _) (V_U _) ih ih
      rw [← V_add] at hs
      by_cases h1 : n % 2 = 1
      · rw [if_pos h1]
        have hm := Ap.mul (V_U _) w_U hs w_Ap
        rw [show n = (n / 2 + n / 2) + 1 by omega]
        rw [show ((n / 2 + n / 2) + 1) / 2 = n / 2 by omega]
        exact hm
      · rw [if_neg h1]
        rw [show n / 2 + n / 2 = n by omega] at hs
        exact hs
end Cx
end Go.Xv
namespace Go.Xv
namespace Cx
theorem Ap.bd {z : Cx} {a b e : Int} (h : Ap z a b e) : (z.re ≤ ((a + e : Int) : Rat) * r ∧ ((a - e : Int) : Rat) * r ≤ z.re) ∧ (z.im ≤ ((b + e : Int) : Rat) * r ∧ ((b - e : Int) : Rat) * r ≤ z.im) := by
  obtain ⟨_, h⟩ := h
  have h1 := h.re
  have h2 := h.im
  simp only [sub, toC] at h1 h2
  simp only [Rat.intCast_sub, Rat.intCast_add]
  grind
theorem pw_bd (f n : Nat) (h : n < 2 ^ f) : ((V n).re ≤ (((pw f n).1 + (pw f n).2.2 : Int) : Rat) * r ∧ (((pw f n).1 - (pw f n).2.2 : Int) : Rat) * r ≤ (V n).re) ∧ ((V n).im ≤ (((pw f n).2.1 + (pw f n).2.2 : Int) : Rat) * r ∧ (((pw f n).2.1 - (pw f n).2.2 : Int) : Rat) * r ≤ (V n).im) := (pw_ok f n h).bd
def Lw : Rat := 147 / 100000000000
theorem lip1 : Nm (sub w one) Lw := ⟨by decide +kernel, by decide +kernel⟩
theorem lip (m : Nat) : ∀ d : Nat, Nm (sub (V (m + d)) (V m)) ((d : Rat) * Lw)
  | 0 => by
    refine ⟨by simp, ?_⟩
    simp only [Nat.add_zero, sub, n2]; grind
  | d + 1 => by
    have h := lip1.turn (V_U (m + d))
    have k := (lip m d).add h
    have e : Cx.add (sub (V (m + d)) (V m)) (mul (sub w one) (V (m + d))) = sub (V (m + (d + 1))) (V m) := by
      rw [← Nat.add_assoc, show V (m + d + 1) = mul (V (m + d)) w from rfl]
      apply eqC <;> simp only [Cx.add, sub, mul, one] <;> grind
    rw [e] at k
    refine k.mono ?_
    rw [Rat.natCast_add]
    show _ ≤ ((d : Rat) + ((1 : Nat) : Rat)) * Lw
    have : ((1 : Nat) : Rat) = 1 := by decide +kernel
    rw [this]
    grind
theorem cast_leN {a b : Nat} (h : a ≤ b) : (a : Rat) ≤ (b : Rat) := Rat.natCast_le_natCast.2 h
theorem lipB (m d : Nat) (h : d ≤ 268435456) : Nm (sub (V (m + d)) (V m)) (2 / 5) := by
  refine (lip m d).mono ?_
  have h1 := Rat.mul_le_mul_of_nonneg_right (c := Lw) (cast_leN h) (by decide +kernel)
  have h2 : ((268435456 : Nat) : Rat) * Lw ≤ 2 / 5 := by decide +kernel
  grind
theorem half_re {m : Nat} (h : m ≤ 536870912) : 1 / 2 ≤ (V m).re := by
  rcases Nat.le_total m 268435456 with h1 | h1
  · have k := (lipB 0 m h1).re
    rw [Nat.zero_add] at k
    simp only [sub, V, one] at k
    grind
  · obtain ⟨d, rfl⟩ : ∃ d, m = 268435456 + d := ⟨m - 268435456, by omega⟩
    have k := (lipB 268435456 d (by omega)).re
    have g := (pw_bd 30 268435456 (by decide)).1.2
    have g2 : 9 / 10 ≤ (((pw 30 268435456).1 - (pw 30 268435456).2.2 : Int) : Rat) * r := by decide +kernel
    have g3 := Rat.le_trans g2 g
    clear g g2
    simp only [sub] at k
    generalize (V (268435456 + d)).re = x at *
    generalize (V 268435456).re = y at *
    grind
theorem far_re {m : Nat} (h : 1073741824 ≤ m) (h2 : m ≤ 2684354560) : (V m).re ≤ 1 / 2 := by
  have key : ∀ g d : Nat, m = g + d → d ≤ 268435456 → (V g).re ≤ 1 / 10 → (V m).re ≤ 1 / 2 := by
    intro g d hm hd hg
    subst hm
    have k := (lipB g d hd).re
    simp only [sub] at k
    grind
  have pt : ∀ g : Nat, g < 2 ^ 33 → (((pw 33 g).1 + (pw 33 g).2.2 : Int) : Rat) * r ≤ 1 / 10 → (V g).re ≤ 1 / 10 := by
    intro g h1 h2
    have := (pw_bd 33 g h1).1.1
    grind
  have p0 := pt 1073741824 (by decide) (by decide +kernel)
  have p1 := pt 1342177280 (by decide) (by decide +kernel)
  have p2 := pt 1610612736 (by decide) (by decide +kernel)
  have p3 := pt 1879048192 (by decide) (by decide +kernel)
  have p4 := pt 2147483648 (by decide) (by decide +kernel)
  have p5 := pt 2415919104 (by decide) (by decide +kernel)
  by_cases c1 : m < 1342177280
  · exact key 1073741824 (m - 1073741824) (by omega) (by omega) p0
  by_cases c2 : m < 1610612736
  · exact key 1342177280 (m - 1342177280) (by omega) (by omega) p1
  by_cases c3 : m < 1879048192
  · exact key 1610612736 (m - 1610612736) (by omega) (by omega) p2
  by_cases c4 : m < 2147483648
  · exact key 1879048192 (m - 1879048192) (by omega) (by omega) p3
  by_cases c5 : m < 2415919104
  · exact key 2147483648 (m - 2147483648) (by omega) (by omega) p4
  · exact key 2415919104 (m - 2415919104) (by omega) (by omega) p5
/-- near 1 is only what is small -/
theorem near_one : ∀ (k m : Nat) (d : Rat), 1073741824 ≤ m * 2 ^ k → m ≤ 2684354560 → Nm (sub (V m) one) d → (m : Rat) ≤ 2684354560 * d
  | k, m, d, hk, hm, h => by
    rcases Nat.lt_or_ge m 1073741824 with hs | hs
    · match k, hk with
      | 0, hk => simp at hk; omega
      | k + 1, hk =>
        have e : Cx.add (mul (sub (V m) one) (V m)) (sub (V m) one) = sub (V (m + m)) one := by
          rw [V_add]
          apply eqC <;> simp only [Cx.add, sub, mul, one] <;> grind
        have h2 := (h.turn (V_U m)).add h
        rw [e] at h2
        have := near_one k (m + m) (d + d) (by rw [Nat.pow_succ, ← Nat.mul_assoc] at hk; rw [Nat.add_mul]; omega) (by omega) h2
        rw [Rat.natCast_add] at this
        grind
    · have h1 := far_re hs hm
      have h2 : n2 (sub (V m) one) = 2 - 2 * (V m).re := by
        have := V_U m
        simp only [U, n2, sub, one] at *
        grind
      obtain ⟨d0, hd⟩ := h
      have h3 : 1 ≤ d := le_of_sq (x := 1) d0 (by grind)
      have h4 := cast_leN hm
      have h5 : ((2684354560 : Nat) : Rat) = 2684354560 := by decide +kernel
      rw [h5] at h4
      grind
theorem near_V {m : Nat} {d : Rat} (hm : m ≤ 2684354560) (h : Nm (sub (V m) one) d) : (m : Rat) ≤ 2684354560 * d := by
  rcases Nat.eq_zero_or_pos m with h0 | h0
  · subst h0
    have := h.1
    have e : ((0 : Nat) : Rat) = 0 := by decide +kernel
    rw [e]
    grind
  · exact near_one 30 m d (by omega) hm h
theorem near_VI {n : Int} {d : Rat} (hn : -2684354560 ≤ n ∧ n ≤ 2684354560) (h : Nm (sub (VI n) one) d) : (n : Rat) ≤ 2684354560 * d ∧ -(2684354560 * d) ≤ (n : Rat) := by
  have h0 := h.1
  rcases Int.le_total 0 n with hp | hp
  · obtain ⟨m, rfl⟩ := Int.eq_ofNat_of_zero_le hp
    rw [VI_nat] at h
    have := near_V (by omega) h
    have e : ((m : Int) : Rat) = (m : Rat) := Rat.intCast_natCast m
    rw [e]
    have : (0 : Rat) ≤ (m : Rat) := Rat.natCast_nonneg
    grind
  · obtain ⟨m, hm⟩ := Int.eq_ofNat_of_zero_le (show 0 ≤ -n by omega)
    have e0 : n = -(m : Int) := by omega
    subst e0
    have hc := h.cj
    have e1 : Cx.cj (sub (VI (-(m : Int))) one) = sub (V m) one := by
      rw [VI_neg, VI_nat]
      apply eqC <;> simp only [Cx.cj, sub, one] <;> grind
    rw [e1] at hc
    have := near_V (by omega) hc
    have e : ((-(m : Int) : Int) : Rat) = -(m : Rat) := by rw [Rat.intCast_neg, Rat.intCast_natCast]
    rw [e]
    have : (0 : Rat) ≤ (m : Rat) := Rat.natCast_nonneg
    grind
/-- a hair -/
def hair : Rat := 1 / 1152921504606846976
def Ci : Cx := ⟨0, 1⟩
theorem Ci_U : U Ci := by simp only [U, n2, Ci]; grind
theorem of_pw (f n : Nat) (hn : n < 2 ^ f) (c : Cx) (x y : Rat) (h1 : (((pw f n).1 + (pw f n).2.2 : Int) : Rat) * r - c.re ≤ x) (h2 : -x ≤ (((pw f n).1 - (pw f n).2.2 : Int) : Rat) * r - c.re)
    (h3 : (((pw f n).2.1 + (pw f n).2.2 : Int) : Rat) * r - c.im ≤ y) (h4 : -y ≤ (((pw f n).2.1 - (pw f n).2.2 : Int) : Rat) * r - c.im) : Nm (sub (V n) c) (x + y) := by
  obtain ⟨⟨a1, a2⟩, a3, a4⟩ := pw_bd f n hn
  apply Nm.of <;> simp only [sub] <;> grind
theorem quarter : Nm (sub (V 1073741824) Ci) hair := by
  have := of_pw 33 1073741824 (by decide) Ci (hair / 2) (hair / 2) (by decide +kernel) (by decide +kernel) (by decide +kernel) (by decide +kernel)
  exact this.mono (by decide +kernel)
theorem whole : Nm (sub (V 4294967296) one) hair := by
  have := of_pw 34 4294967296 (by decide) one (hair / 2) (hair / 2) (by decide +kernel) (by decide +kernel) (by decide +kernel) (by decide +kernel)
  exact this.mono (by decide +kernel)
theorem half : Nm (sub (V 2147483648) ⟨-1, 0⟩) hair := by
  have := of_pw 33 2147483648 (by decide) ⟨-1, 0⟩ (hair / 2) (hair / 2) (by decide +kernel) (by decide +kernel) (by decide +kernel) (by decide +kernel)
  exact this.mono (by decide +kernel)
theorem im_nn : ∀ {m : Nat}, m ≤ 536870912 → 0 ≤ (V m).im
  | 0, _ => by simp only [V, one]; grind
  | m + 1, h => by
    have ih := im_nn (m := m) (by omega)
    have hr := half_re (m := m) (by omega)
    have w1 : 0 ≤ w.im := by decide +kernel
    have w2 : 0 ≤ w.re := by decide +kernel
    have m1 := Rat.mul_nonneg ih w2
    have m2 := Rat.mul_nonneg (show 0 ≤ (V m).re by grind) w1
    simp only [V, mul]
    grind
/-- the first quarter -/
theorem first_q {n : Nat} (h : n ≤ 1073741824) : -hair ≤ (V n).re ∧ -hair ≤ (V n).im := by
  have h0 : 0 ≤ hair := by decide +kernel
  have h5 : hair ≤ 1 / 2 := by decide +kernel
  rcases Nat.le_total n 536870912 with h1 | h1
  · have := half_re h1
    have := im_nn h1
    grind
  · obtain ⟨m, hm⟩ : ∃ m, 1073741824 = n + m := ⟨1073741824 - n, by omega⟩
    have e : V n = mul (V 1073741824) (cj (V m)) := by
      rw [hm, V_add, mul_assoc, (V_U m).mul_cj, mul_one]
    have hq := quarter.turn (V_U m).cj
    rw [sub_mul, ← e] at hq
    have k1 := hq.re
    have k2 := hq.im
    have a1 := half_re (m := m) (by omega)
    have a2 := im_nn (m := m) (by omega)
    simp only [sub, mul, Ci, cj] at k1 k2
    grind
end Cx
end Go.Xv
namespace Go.Xv
namespace Cx
/-- how much longer the steps make it, over 2^64 -/
def gL : List Int := [18446744073709551616, 26087635650665564425, 29166863343567579424, 30064514583371253785, 30298483206077454146, 30357602253914638508, 30372421684747952847, 30376129029489835462, 30377056021236072306, 30377287778897074256, 30377345718920132028, 30377360203963884889, 30377363825227197387, 30377364730543173905, 30377364956872177309, 30377365013454428739, 30377365027599991633, 30377365031136382359, 30377365032020480041, 30377365032241504461, 30377365032296760566, 30377365032310574592, 30377365032314028099, 30377365032314891476, 30377365032315107320, 30377365032315161281, 30377365032315174771, 30377365032315178144, 30377365032315178987, 30377365032315179197, 30377365032315179250]
def uu (i : Nat) : Rat := ((gL.getD i 0 : Int) : Rat) * (1 / 18446744073709551616)
def hp (i : Nat) : Rat := 1 / 2 ^ i
def eta : Rat := 1 / 1073741824
def stepC (i : Nat) (o : Bool) : Cx := ⟨1, if o then hp i else -hp i⟩
def kp (i : Nat) : Rat := if i = 0 then 3 / 2 else 1 + hp i * hp i / 2
def chk (i : Nat) : Bool := decide (n2 (sub (sc (uu i) ⟨1, hp i⟩) (sc (uu (i + 1)) (toC (pw 30 (tA i).toNat).1 (pw 30 (tA i).toNat).2.1))) ≤ (uu (i + 1) * (9 / 10 * eta)) * (uu (i + 1) * (9 / 10 * eta))) && decide (((pw 30 (tA i).toNat).2.2 : Rat) * r ≤ 1 / 10 * eta) && decide (0 ≤ uu (i + 1)) && decide (0 ≤ uu i)
theorem chk_all : ∀ i, i < 30 → chk i = true := by decide +kernel
theorem kp_all : ∀ i, i < 30 → decide (1 + hp i * hp i ≤ kp i * kp i ∧ 0 ≤ kp i) = true := by decide +kernel
theorem tab0 {i : Nat} (h : i < 30) : Nm (sub (sc (uu i) ⟨1, hp i⟩) (sc (uu (i + 1)) (VI (tA i)))) (uu (i + 1) * eta) := by
  have hc := chk_all i h
  unfold chk at hc
  simp only [Bool.and_eq_true, decide_eq_true_eq] at hc
  obtain ⟨⟨⟨c1, c2⟩, c3⟩, c4⟩ := hc
  have ht := tA_bd i h
  have e : VI (tA i) = V (tA i).toNat := by
    have : tA i = (((tA i).toNat : Nat) : Int) := by omega
    rw [this, VI_nat]
    rfl
  rw [e]
  have h1 := (pw_ok 30 (tA i).toNat (by omega)).2.neg
  have hr : (0 : Rat) ≤ 9 / 10 * eta := by decide +kernel
  have h2 : Nm (sub (sc (uu i) ⟨1, hp i⟩) (sc (uu (i + 1)) (toC (pw 30 (tA i).toNat).1 (pw 30 (tA i).toNat).2.1))) (uu (i + 1) * (9 / 10 * eta)) := ⟨Rat.mul_nonneg c3 hr, c1⟩
  have h3 := h2.add ((h1.mono c2).sc c3)
  generalize pw 30 (tA i).toNat = p at *
  generalize V (tA i).toNat = v at *
  have ee : Cx.add (sub (sc (uu i) ⟨1, hp i⟩) (sc (uu (i + 1)) (toC p.1 p.2.1))) (sc (uu (i + 1)) (sub (toC p.1 p.2.1) v)) = sub (sc (uu i) ⟨1, hp i⟩) (sc (uu (i + 1)) v) := by
    apply eqC <;> simp only [Cx.add, sub, sc] <;> grind
  rw [ee] at h3
  have e2 : uu (i + 1) * (9 / 10 * eta) + uu (i + 1) * (1 / 10 * eta) = uu (i + 1) * eta := by grind
  rwa [e2] at h3
def dt (i : Nat) (o : Bool) : Int := if o then tA i else -tA i
theorem tab {i : Nat} (h : i < 30) (o : Bool) : Nm (sub (sc (uu i) (stepC i o)) (sc (uu (i + 1)) (VI (dt i o)))) (uu (i + 1) * eta) := by
  have h1 := tab0 h
  cases o with
  | true => exact h1
  | false =>
    have h2 := h1.cj
    have e : Cx.cj (sub (sc (uu i) ⟨1, hp i⟩) (sc (uu (i + 1)) (VI (tA i)))) = sub (sc (uu i) (stepC i false)) (sc (uu (i + 1)) (VI (dt i false))) := by
      unfold dt stepC
      simp only [Bool.false_eq_true, if_false]
      rw [VI_neg]
      apply eqC <;> simp only [Cx.cj, sub, sc] <;> grind
    rwa [e] at h2
theorem step_nm {i : Nat} (h : i < 30) (o : Bool) : Nm (stepC i o) (kp i) := by
  have hc := kp_all i h
  simp only [decide_eq_true_eq] at hc
  refine ⟨hc.2, ?_⟩
  have : n2 (stepC i o) = 1 + hp i * hp i := by
    unfold stepC
    cases o <;> simp only [n2, Bool.false_eq_true, if_false, if_true] <;> grind
  rw [this]
  exact hc.1
def cx (x y : Int) : Cx := ⟨(x : Rat), (y : Rat)⟩
theorem hp_pos (i : Nat) : 0 < hp i ∧ ((2 ^ i : Int) : Rat) * hp i = 1 := by
  unfold hp
  have h : ((2 ^ i : Int) : Rat) = 2 ^ i := by rw [Rat.intCast_pow]; rfl
  have h0 : (0 : Rat) < 2 ^ i := Rat.pow_pos (by decide +kernel)
  rw [h]
  generalize (2 : Rat) ^ i = P at *
  constructor
  · rw [Rat.div_def, Rat.one_mul]
    exact Rat.inv_pos.2 h0
  · grind
theorem floor_p (y : Int) (i : Nat) : ((y / 2 ^ i : Int) : Rat) ≤ y * hp i ∧ (y : Rat) * hp i ≤ ((y / 2 ^ i : Int) : Rat) + 1 := by
  obtain ⟨h0, h1⟩ := hp_pos i
  have hP := p2pos i
  have d1 := Int.mul_ediv_add_emod y (2 ^ i)
  have d2 := Int.emod_nonneg y (show (2 : Int) ^ i ≠ 0 by omega)
  have d3 := Int.emod_lt_of_pos y hP
  generalize (2 : Int) ^ i = P at *
  have e1 : (((y / P) * P : Int) : Rat) ≤ (y : Rat) := cast_le (by rw [Int.mul_comm]; omega)
  have e2 : (y : Rat) ≤ (((y / P) * P + P : Int) : Rat) := cast_le (by rw [Int.mul_comm]; omega)
  rw [Rat.intCast_mul] at e1
  rw [Rat.intCast_add, Rat.intCast_mul] at e2
  have m1 := Rat.mul_le_mul_of_nonneg_right (c := hp i) e1 (Rat.le_of_lt h0)
  have m2 := Rat.mul_le_mul_of_nonneg_right (c := hp i) e2 (Rat.le_of_lt h0)
  rw [Rat.mul_assoc, h1, Rat.mul_one] at m1
  rw [Rat.add_mul, Rat.mul_assoc, h1, Rat.mul_one] at m2
  exact ⟨m1, m2⟩
theorem rot_nm (i : Nat) (o : Bool) (x y : Int) : Nm (sub (cx (rotX i o x y) (rotY i o x y)) (mul (cx x y) (stepC i o))) (3 / 2) := by
  have h1 := floor_p x i
  have h2 := floor_p y i
  unfold rotX rotY stepC
  cases o
  · simp only [Bool.false_eq_true, if_false, cx, Rat.intCast_add, Rat.intCast_sub]
    apply Nm.unit <;> simp only [sub, mul] <;> grind
  · simp only [if_true, cx, Rat.intCast_add, Rat.intCast_sub]
    apply Nm.unit <;> simp only [sub, mul] <;> grind
/-- one step of what lies near -/
theorem near_step {p v : Cx} {i : Nat} {o : Bool} {x y : Int} {c e : Rat} (hi : i < 30) (hp : p = cx x y) (hv : U v) (hc : 0 ≤ c) (h : Nm (sub p (sc (c * uu i) v)) e) :
    Nm (sub (cx (rotX i o x y) (rotY i o x y)) (sc (c * uu (i + 1)) (mul v (VI (dt i o))))) (e * kp i + 3 / 2 + c * (uu (i + 1) * eta)) := by
  subst hp
  have h1 := h.mul (step_nm hi o)
  have h2 := rot_nm i o x y
  have h3 := ((tab hi o).sc hc).turn hv
  have h4 := (h1.add h2).add h3
  have ee : Cx.add (Cx.add (mul (sub (cx x y) (sc (c * uu i) v)) (stepC i o)) (sub (cx (rotX i o x y) (rotY i o x y)) (mul (cx x y) (stepC i o)))) (mul (sc c (sub (sc (uu i) (stepC i o)) (sc (uu (i + 1)) (VI (dt i o))))) v) = sub (cx (rotX i o x y) (rotY i o x y)) (sc (c * uu (i + 1)) (mul v (VI (dt i o)))) := by
    apply eqC <;> simp only [Cx.add, sub, sc, mul] <;> grind
  rwa [ee] at h4
def KK : Rat := 2608131496
theorem stepB : ∀ i : Nat, i < 30 → decide (8 * (i : Rat) * kp i + 3 / 2 + KK * (uu (i + 1) * eta) ≤ 8 * ((i : Rat) + 1)) = true := by decide +kernel
theorem bS_near (z : Int) : ∀ i, i ≤ 30 → Nm (sub (cx (bS z i).1 (bS z i).2.1) (sc (KK * uu i) (VI (z - (bS z i).2.2)))) (8 * (i : Rat))
  | 0, _ => by
    refine ⟨by decide +kernel, ?_⟩
    simp only [bS]
    rw [Int.sub_self, VI_zero]
    decide +kernel
  | i + 1, h => by
    have ih := bS_near z i (by omega)
    have hs := near_step (o := decide (0 ≤ (bS z i).2.2)) (by omega) rfl (VI_U _) (by decide +kernel) ih
    have e : z - (bS z (i + 1)).2.2 = (z - (bS z i).2.2) + dt i (decide (0 ≤ (bS z i).2.2)) := by
      simp only [bS, dt]
      by_cases hz : 0 ≤ (bS z i).2.2
      · simp only [hz, decide_true, if_true]; omega
      · simp only [hz, decide_false, Bool.false_eq_true, if_false]; omega
    rw [e, VI_add]
    have hb := stepB i (by omega)
    simp only [decide_eq_true_eq] at hb
    refine Nm.mono hs ?_
    rw [Rat.natCast_add]
    exact hb
def TZ : Nat → Int
  | 0 => 1073741824
  | i + 1 => max (tA i) (TZ i - tA i)
theorem bS_left {z : Int} (hz : 0 ≤ z ∧ z < 1073741824) : ∀ i, -TZ i ≤ (bS z i).2.2 ∧ (bS z i).2.2 ≤ TZ i
  | 0 => by simp only [bS, TZ]; omega
  | i + 1 => by
    have ih := bS_left hz i
    simp only [bS, TZ]
    split <;> omega
theorem TZ30 : TZ 30 ≤ 3 := by decide +kernel
/-- of a few parts -/
theorem few {n : Int} (h : -3 ≤ n ∧ n ≤ 3) : Nm (sub (VI n) one) (1 / 200000000) := by
  have key : ∀ m : Nat, m ≤ 3 → Nm (sub (V m) one) (1 / 200000000) := by
    intro m hm
    have h1 := lip 0 m
    rw [Nat.zero_add] at h1
    refine h1.mono ?_
    have h2 := Rat.mul_le_mul_of_nonneg_right (c := Lw) (cast_leN hm) (by decide +kernel)
    have h3 : ((3 : Nat) : Rat) * Lw ≤ 1 / 200000000 := by decide +kernel
    grind
  rcases Int.le_total 0 n with hp | hp
  · obtain ⟨m, rfl⟩ := Int.eq_ofNat_of_zero_le hp
    rw [VI_nat]
    exact key m (by omega)
  · obtain ⟨m, hm⟩ := Int.eq_ofNat_of_zero_le (show 0 ≤ -n by omega)
    have e0 : n = -(m : Int) := by omega
    subst e0
    have hc := (key m (by omega)).cj
    have e1 : Cx.cj (sub (V m) one) = sub (VI (-(m : Int))) one := by
      rw [VI_neg, VI_nat]
      apply eqC <;> simp only [Cx.cj, sub, one] <;> grind
    rwa [e1] at hc
def One : Rat := 4294967296
theorem both0 {z : Int} (hz : 0 ≤ z ∧ z < 1073741824) : Nm (sub (cx (bS z 30).1 (bS z 30).2.1) (sc One (VI z))) 263 := by
  have h1 := bS_near z 30 (by omega)
  have hl := bS_left hz 30
  have hT := TZ30
  have h2 := (few (n := (bS z 30).2.2) (by omega)).neg
  have h3 := (h2.turn (VI_U (z - (bS z 30).2.2))).sc (r := KK * uu 30) (by decide +kernel)
  have e : VI z = mul (VI (z - (bS z 30).2.2)) (VI (bS z 30).2.2) := by rw [← VI_add]; congr 1; omega
  generalize (bS z 30).2.2 = l at *
  have h4 : Nm (sub (sc (KK * uu 30) (VI z)) (sc One (VI z))) 1 := by
    have := ((VI_U z).nm).sc (r := One - KK * uu 30) (by decide +kernel)
    have e : Cx.sc (One - KK * uu 30) (VI z) = sub (sc One (VI z)) (sc (KK * uu 30) (VI z)) := by apply eqC <;> simp only [sub, sc] <;> grind
    rw [e] at this
    exact (this.neg).mono (by decide +kernel)
  have e3 : Cx.sc (KK * uu 30) (mul (sub one (VI l)) (VI (z - l))) = sub (sc (KK * uu 30) (VI (z - l))) (sc (KK * uu 30) (VI z)) := by
    rw [e]; apply eqC <;> simp only [sub, sc, mul, one] <;> grind
  rw [e3] at h3
  have h5 := (h1.trans h3).trans h4
  exact h5.mono (by decide +kernel)
theorem Nm.coord {a b : Cx} {e : Rat} (h : Nm a e) (h1 : b.re * b.re ≤ a.re * a.re) (h2 : b.im * b.im ≤ a.im * a.im) : Nm b e := by
  refine ⟨h.1, ?_⟩
  have := h.2
  simp only [n2] at *
  grind
/-- clamping goes nearer to what lies between. -/
theorem clamp_near {x : Int} {t : Rat} (h0 : 0 ≤ t) (h1 : t ≤ One) : ((cl01 x : Int) : Rat) - t = 0 ∨ (((cl01 x : Int) : Rat) - t) * (((cl01 x : Int) : Rat) - t) ≤ ((x : Rat) - t) * ((x : Rat) - t) := by
  right
  have key : ∀ c d : Rat, 0 ≤ c * d → (c * c ≤ (c + d) * (c + d)) := by
    intro c d h
    have := sq_nn d
    grind
  have hcase : ((cl01 x : Int) : Rat) = x ∨ (((cl01 x : Int) : Rat) = 0 ∧ (x : Rat) ≤ 0) ∨ (((cl01 x : Int) : Rat) = One ∧ One ≤ (x : Rat)) := by
    unfold cl01
    by_cases c1 : x < 0
    · right; left
      rw [show min (max x 0) 4294967296 = 0 by omega]
      exact ⟨rfl, cast_le (b := 0) (by omega)⟩
    · by_cases c2 : 4294967296 ≤ x
      · right; right
        rw [show min (max x 0) 4294967296 = 4294967296 by omega]
        exact ⟨rfl, cast_le (a := 4294967296) c2⟩
      · left
        rw [show min (max x 0) 4294967296 = x by omega]
  rcases hcase with h | ⟨h, k⟩ | ⟨h, k⟩
  · rw [h]; exact Rat.le_refl
  · rw [h]
    have := key (0 - t) x (by have := Rat.mul_nonneg h0 (show 0 ≤ -(x : Rat) by grind); grind)
    grind
  · rw [h]
    have := key (One - t) (x - One) (Rat.mul_nonneg (by grind) (by grind))
    grind
theorem both1 {z : Int} (hz : 0 ≤ z ∧ z < 1073741824) : Nm (sub (cx (cl01 (bS z 30).1) (cl01 (bS z 30).2.1)) (sc One (VI z))) 264 := by
  have h1 := both0 hz
  obtain ⟨m, hm⟩ := Int.eq_ofNat_of_zero_le hz.1
  have hv : VI z = V m := by rw [hm, VI_nat]
  rw [hv] at h1 ⊢
  obtain ⟨q1, q2⟩ := first_q (n := m) (by omega)
  have b1 := (V_U m).nm.re
  have b2 := (V_U m).nm.im
  generalize V m = v at *
  let f : Rat → Rat := fun t => if t < 0 then 0 else t
  have hh : (0 : Rat) ≤ hair := by decide +kernel
  have hO : (0 : Rat) ≤ One := by decide +kernel
  have hOh : One * hair ≤ 1 / 8 := by decide +kernel
  have fd : ∀ t : Rat, -hair ≤ t → t ≤ 1 → (0 ≤ One * f t ∧ One * f t ≤ One) ∧ (One * f t - One * t ≤ 1 / 8 ∧ 0 ≤ One * f t - One * t) := by
    intro t h1 h2
    by_cases hn : t < 0
    · have : f t = 0 := if_pos hn
      rw [this]
      have := Rat.mul_le_mul_of_nonneg_left h1 hO
      have := Rat.mul_le_mul_of_nonneg_left (Rat.le_of_lt hn) hO
      grind
    · have : f t = t := if_neg hn
      rw [this]
      have h3 := Rat.mul_le_mul_of_nonneg_left h2 hO
      have h4 := Rat.mul_le_mul_of_nonneg_left (show 0 ≤ t by grind) hO
      grind
  obtain ⟨⟨f1, f2⟩, f3, f4⟩ := fd v.re q1 b1.1
  obtain ⟨⟨g1, g2⟩, g3, g4⟩ := fd v.im q2 b2.1
  have hT : Nm (sub (sc One v) ⟨One * f v.re, One * f v.im⟩) (1 / 8 + 1 / 8) := by
    apply Nm.of <;> simp only [sub, sc] <;> grind
  have h2 := h1.trans hT
  have c1 := clamp_near (x := (bS z 30).1) f1 f2
  have c2 := clamp_near (x := (bS z 30).2.1) g1 g2
  have h3 : Nm (sub (cx (cl01 (bS z 30).1) (cl01 (bS z 30).2.1)) ⟨One * f v.re, One * f v.im⟩) (263 + (1 / 8 + 1 / 8)) := by
    refine h2.coord ?_ ?_
    · simp only [sub, cx]
      rcases c1 with c | c
      · rw [c, Rat.zero_mul]; exact sq_nn _
      · exact c
    · simp only [sub, cx]
      rcases c2 with c | c
      · rw [c, Rat.zero_mul]; exact sq_nn _
      · exact c
  exact (h3.trans hT.neg).mono (by decide +kernel)
theorem VI_quarter : Nm (sub (VI 1073741824) Ci) hair := by
  rw [show (1073741824 : Int) = ((1073741824 : Nat) : Int) by rfl, VI_nat]
  exact quarter
/-- a quarter on -/
theorem on_quarter {c s n : Int} {e : Rat} (h : Nm (sub (cx c s) (sc One (VI n))) e) : Nm (sub (cx (-s) c) (sc One (VI (n + 1073741824)))) (e + 1 / 8) := by
  have h1 := h.turn Ci_U
  have h2 := ((VI_quarter.neg).turn (VI_U n)).sc (r := One) (by decide +kernel)
  have h3 := h1.add h2
  rw [VI_add]
  have ee : Cx.add (mul (sub (cx c s) (sc One (VI n))) Ci) (sc One (mul (sub Ci (VI 1073741824)) (VI n))) = sub (cx (-s) c) (sc One (mul (VI n) (VI 1073741824))) := by
    apply eqC <;> simp only [Cx.add, sub, sc, mul, cx, Ci, Rat.intCast_neg] <;> grind
  rw [ee] at h3
  exact h3.mono (by have : One * hair ≤ 1 / 8 := by decide +kernel
                    grind)
theorem both_near {a : Int} (ha : 0 ≤ a ∧ a < 4294967296) : Nm (sub (cx (bothC a) (bothS a)) (sc One (VI a))) 265 := by
  have h0 : Nm (sub (cx (bC a) (bN a)) (sc One (VI (a % 1073741824)))) 264 := both1 (z := a % 1073741824) (by omega)
  have h1 := on_quarter h0
  have h2 := on_quarter h1
  have h3 := on_quarter h2
  have hq : a / 1073741824 = 0 ∨ a / 1073741824 = 1 ∨ a / 1073741824 = 2 ∨ a / 1073741824 = 3 := by omega
  unfold bothC bothS
  rcases hq with h | h | h | h
  · rw [show a % 1073741824 = a by omega] at h0
    rw [if_pos h, if_pos h]
    exact h0.mono (by decide +kernel)
  · rw [show a % 1073741824 + 1073741824 = a by omega] at h1
    rw [if_neg (by omega), if_pos h, if_neg (by omega), if_pos h]
    exact h1.mono (by decide +kernel)
  · rw [show a % 1073741824 + 1073741824 + 1073741824 = a by omega] at h2
    rw [if_neg (by omega), if_neg (by omega), if_pos h, if_neg (by omega), if_neg (by omega), if_pos h]
    exact h2.mono (by decide +kernel)
  · rw [show a % 1073741824 + 1073741824 + 1073741824 + 1073741824 = a by omega, Int.neg_neg] at h3
    rw [if_neg (by omega), if_neg (by omega), if_neg (by omega), if_neg (by omega), if_neg (by omega), if_neg (by omega)]
    exact h3.mono (by decide +kernel)
/-- how long it is -/
theorem both_len {a : Int} (ha : 0 ≤ a ∧ a < 4294967296) : bothC a * bothC a + bothS a * bothS a ≤ 18446746350042288721 ∧ 18446741788787020900 ≤ bothC a * bothC a + bothS a * bothS a := by
  have h := both_near ha
  have hu := ((VI_U a).nm).sc (r := One) (by decide +kernel)
  have e0 : n2 (cx (bothC a) (bothS a)) = ((bothC a * bothC a + bothS a * bothS a : Int) : Rat) := by
    simp only [n2, cx, Rat.intCast_add, Rat.intCast_mul]
  constructor
  · have h1 := h.add hu
    have e : Cx.add (sub (cx (bothC a) (bothS a)) (sc One (VI a))) (sc One (VI a)) = cx (bothC a) (bothS a) := by apply eqC <;> simp only [Cx.add, sub] <;> grind
    rw [e] at h1
    have h2 := h1.2
    rw [e0] at h2
    have h3 : (265 + One * 1) * (265 + One * 1) = ((18446746350042288721 : Int) : Rat) := by decide +kernel
    rw [h3] at h2
    have := Rat.intCast_le_intCast.1 h2
    omega
  · rcases Int.lt_or_le (bothC a * bothC a + bothS a * bothS a) 18446741788787020900 with hl | hl
    · exfalso
      have k : Nm (cx (bothC a) (bothS a)) (One - 266) := by
        refine ⟨by decide +kernel, ?_⟩
        rw [e0]
        have h3 : (One - 266) * (One - 266) = ((18446741788787020900 : Int) : Rat) := by decide +kernel
        rw [h3]
        exact cast_le (by omega)
      have h1 := k.add h.neg
      have e : Cx.add (cx (bothC a) (bothS a)) (sub (sc One (VI a)) (cx (bothC a) (bothS a))) = sc One (VI a) := by apply eqC <;> simp only [Cx.add, sub] <;> grind
      rw [e] at h1
      have h2 := h1.2
      have e3 : n2 (sc One (VI a)) = One * One := by
        have := VI_U a
        simp only [U, n2, sc] at *
        grind
      rw [e3] at h2
      have : ¬ One * One ≤ (One - 266 + 265) * (One - 266 + 265) := by decide +kernel
      exact this h2
    · exact hl
end Cx
end Go.Xv
namespace Go.Xv
namespace Cx
theorem near_stepA {p v : Cx} {p0 : Cx} {i : Nat} {o : Bool} {x y : Int} {m e : Rat} (hi : i < 30) (hp : p = cx x y) (hv : U v) (h0 : Nm p0 m) (h : Nm (sub (mul p v) (sc (uu i) p0)) e) :
    Nm (sub (mul (cx (rotX i o x y) (rotY i o x y)) (mul v (cj (VI (dt i o))))) (sc (uu (i + 1)) p0)) (e * kp i + 3 / 2 + m * (uu (i + 1) * eta)) := by
  subst hp
  have hU := (VI_U (dt i o)).cj
  have h1 := (h.mul (step_nm hi o)).turn hU
  have h2 := (rot_nm i o x y).turn (hv.mul hU)
  have h3 := (h0.mul (tab hi o)).turn hU
  have h4 := (h1.add h2).add h3
  have hu : mul (VI (dt i o)) (cj (VI (dt i o))) = one := (VI_U (dt i o)).mul_cj
  have ee : Cx.add (Cx.add (mul (mul (sub (mul (cx x y) v) (sc (uu i) p0)) (stepC i o)) (cj (VI (dt i o)))) (mul (sub (cx (rotX i o x y) (rotY i o x y)) (mul (cx x y) (stepC i o))) (mul v (cj (VI (dt i o)))))) (mul (mul p0 (sub (sc (uu i) (stepC i o)) (sc (uu (i + 1)) (VI (dt i o))))) (cj (VI (dt i o)))) =
      sub (mul (cx (rotX i o x y) (rotY i o x y)) (mul v (cj (VI (dt i o))))) (sc (uu (i + 1)) (mul p0 (mul (VI (dt i o)) (cj (VI (dt i o)))))) := by
    apply eqC <;> simp only [Cx.add, sub, sc, mul] <;> grind
  rw [ee, hu, mul_one] at h4
  exact h4
theorem stepA : ∀ i : Nat, i < 30 → decide (3 * (i : Rat) * kp i + 1 / 1000 + 3 / 2 * uu (i + 1) ≤ 3 * ((i : Rat) + 1)) = true := by decide +kernel
theorem aS_near {x y : Int} {m : Rat} (hm : 1152921504606846976 ≤ m) (h0 : Nm (cx x y) (3 / 2 * m)) : ∀ i, i ≤ 30 → Nm (sub (mul (cx (aS x y i).1 (aS x y i).2.1) (VI (aS x y i).2.2)) (sc (uu i) (cx x y))) (3 * (i : Rat) * (m * eta))
  | 0, _ => by
    simp only [aS]
    rw [VI_zero, mul_one]
    have e : uu 0 = 1 := by decide +kernel
    rw [e]
    refine ⟨?_, ?_⟩
    · have : ((0 : Nat) : Rat) = 0 := by decide +kernel
      rw [this]; grind
    · simp only [n2, sub, sc, cx]
      have : ((0 : Nat) : Rat) = 0 := by decide +kernel
      rw [this]; grind
  | i + 1, h => by
    have ih := aS_near hm h0 i (by omega)
    have hs := near_stepA (o := decide ((aS x y i).2.1 < 0)) (by omega) rfl (VI_U _) h0 ih
    have e : (aS x y (i + 1)).2.2 = (aS x y i).2.2 + -dt i (decide ((aS x y i).2.1 < 0)) := by
      simp only [aS, dt]
      by_cases hz : (aS x y i).2.1 < 0
      · simp only [hz, decide_true, if_true]; omega
      · simp only [hz, decide_false, Bool.false_eq_true, if_false]; omega
    rw [e, VI_add, VI_neg]
    have hb := stepA i (by omega)
    simp only [decide_eq_true_eq] at hb
    refine Nm.mono hs ?_
    have hc : ((i + 1 : Nat) : Rat) = (i : Rat) + 1 := by rw [Rat.natCast_add]; rfl
    rw [hc]
    have hme : 1500 ≤ m * eta := by
      have := Rat.mul_le_mul_of_nonneg_right (c := eta) hm (by decide +kernel)
      have h2 : (1500 : Rat) ≤ 1152921504606846976 * eta := by decide +kernel
      grind
    have hb2 := Rat.mul_le_mul_of_nonneg_right (c := m * eta) hb (by grind)
    generalize kp i = K at *
    generalize uu (i + 1) = u at *
    generalize (i : Rat) = j at *
    generalize eta = t at *
    generalize hM : m * t = M at *
    have e1 : (3 * j * K + 1 / 1000 + 3 / 2 * u) * M = 3 * j * M * K + 1 / 1000 * M + 3 / 2 * m * (u * t) := by rw [← hM]; grind
    rw [e1] at hb2
    grind
/-- what is left across is little -/
theorem aS_thin {x y : Int} (hx : 0 ≤ x ∧ x ≤ 2305843009213693952) (hy : -2305843009213693952 ≤ y ∧ y ≤ 2305843009213693952) : ∀ i : Nat, 1 ≤ i → i ≤ 30 →
    (aS x y i).2.1 * 2 ^ i ≤ 2 * (aS x y i).1 + i * 2 ^ i ∧ -(2 * (aS x y i).1 + i * 2 ^ i) ≤ (aS x y i).2.1 * 2 ^ i
  | 0, h, _ => absurd h (by omega)
  | 1, _, _ => by
    simp only [aS, rotX, rotY]
    by_cases h : y < 0
    · simp [h]; omega
    · simp [h]; omega
  | i + 2, _, h2 => by
    obtain ⟨h3, h4⟩ := aS_thin hx hy (i + 1) (by omega) (by omega)
    obtain ⟨⟨b1, b2⟩, _, _⟩ := aS_bd hx hy (i := i + 1) (by omega)
    have hP := p2pos (i + 1)
    have e : (2 : Int) ^ (i + 2) = 2 * 2 ^ (i + 1) := by rw [Int.pow_succ]; omega
    have d1 := Int.mul_ediv_add_emod (aS x y (i + 1)).1 (2 ^ (i + 1))
    have d2 := Int.emod_nonneg (aS x y (i + 1)).1 (show (2 : Int) ^ (i + 1) ≠ 0 by omega)
    have d3 := Int.emod_lt_of_pos (aS x y (i + 1)).1 hP
    have f1 := Int.mul_ediv_add_emod (aS x y (i + 1)).2.1 (2 ^ (i + 1))
    have f2 := Int.emod_nonneg (aS x y (i + 1)).2.1 (show (2 : Int) ^ (i + 1) ≠ 0 by omega)
    have f3 := Int.emod_lt_of_pos (aS x y (i + 1)).2.1 hP
    have es : aS x y (i + 2) = (rotX (i + 1) (decide ((aS x y (i + 1)).2.1 < 0)) (aS x y (i + 1)).1 (aS x y (i + 1)).2.1, rotY (i + 1) (decide ((aS x y (i + 1)).2.1 < 0)) (aS x y (i + 1)).1 (aS x y (i + 1)).2.1, if (aS x y (i + 1)).2.1 < 0 then (aS x y (i + 1)).2.2 - tA (i + 1) else (aS x y (i + 1)).2.2 + tA (i + 1)) := rfl
    rw [es, e]
    have ec : ((i + 2 : Nat) : Int) = ((i + 1 : Nat) : Int) + 1 := by omega
    rw [ec]
    have hj : 0 ≤ ((i + 1 : Nat) : Int) * 2 ^ (i + 1) := Int.mul_nonneg (by omega) (by omega)
    generalize ((i + 1 : Nat) : Int) = j at *
    generalize (aS x y (i + 1)).1 = X at *
    generalize (aS x y (i + 1)).2.1 = Y at *
    simp only
    unfold rotX rotY
    generalize (2 : Int) ^ (i + 1) = P at *
    have m0 : (X / P) * (2 * P) = 2 * (P * (X / P)) := by rw [Int.mul_comm (X / P), Int.mul_assoc]
    have m1 : (j + 1) * (2 * P) = 2 * (j * P) + 2 * P := by rw [Int.add_mul, Int.one_mul, ← Int.mul_assoc, Int.mul_comm j 2, Int.mul_assoc]
    have m2 : Y * (2 * P) = 2 * (Y * P) := by rw [← Int.mul_assoc, Int.mul_comm Y 2, Int.mul_assoc]
    by_cases h : Y < 0
    · have hn : Y / P < 0 := Int.ediv_neg_of_neg_of_pos h hP
      have hY : Y * P ≤ 0 := Int.mul_nonpos_of_nonpos_of_nonneg (by omega) (by omega)
      simp only [h, decide_true, if_true]
      rw [Int.add_mul, m0, m1, m2]
      omega
    · have hn : 0 ≤ Y / P := Int.ediv_nonneg (by omega) (by omega)
      have hY : 0 ≤ Y * P := Int.mul_nonneg (by omega) (by omega)
      simp only [h, decide_false, Bool.false_eq_true, if_false]
      rw [Int.sub_mul, m0, m1, m2]
      omega
theorem gap {u v : Cx} {s t d : Rat} (hu : U u) (hv : U v) (hs : 0 ≤ s) (ht : 0 ≤ t) (h : Nm (sub (sc s u) (sc t v)) d) : s - t ≤ d ∧ t - s ≤ d := by
  have h2 := h.2
  have hr : u.re * v.re + u.im * v.im ≤ 1 := by
    refine le_of_sq (by decide +kernel) ?_
    have e1 := sq_nn (u.re * v.im - u.im * v.re)
    have e2 : (u.re * v.re + u.im * v.im) * (u.re * v.re + u.im * v.im) + (u.re * v.im - u.im * v.re) * (u.re * v.im - u.im * v.re) = n2 u * n2 v := by simp only [n2]; grind
    unfold U at hu hv
    rw [hu, hv] at e2
    grind
  have h3 := Rat.mul_le_mul_of_nonneg_left hr (Rat.mul_nonneg hs ht)
  have e : n2 (sub (sc s u) (sc t v)) = s * s * n2 u + t * t * n2 v - 2 * (s * t * (u.re * v.re + u.im * v.im)) := by simp only [n2, sub, sc]; grind
  unfold U at hu hv
  rw [e, hu, hv] at h2
  have k : (s - t) * (s - t) ≤ d * d := by grind
  constructor
  · exact le_of_sq h.1 k
  · exact le_of_sq h.1 (by grind)
theorem n2_sc (s : Rat) (u : Cx) : n2 (sc s u) = s * s * n2 u := by simp only [n2, sc]; grind
/-- What the steps end with, of numbers that are scaled. -/
theorem aS_end {x y : Int} (hx : 0 ≤ x ∧ x ≤ 2305843009213693952) (hy : -2305843009213693952 ≤ y ∧ y ≤ 2305843009213693952) {m : Int} (hm : 1152921504606846976 ≤ m) (h1 : x ≤ m) (h2 : -m ≤ y ∧ y ≤ m) (h3 : x = m ∨ y = m ∨ y = -m) :
    ∃ s : Rat, 0 < s ∧ Nm (sub (cx x y) (sc s (VI (aS x y 30).2.2))) (s * (59 / 1073741824)) := by
  have hM : (1152921504606846976 : Rat) ≤ (m : Rat) := cast_le (a := 1152921504606846976) hm
  have c1 : (x : Rat) ≤ (m : Rat) := cast_le h1
  have c0 : (0 : Rat) ≤ (x : Rat) := cast_le (a := 0) hx.1
  have c2 : (y : Rat) ≤ (m : Rat) := cast_le h2.2
  have c3 : -(m : Rat) ≤ (y : Rat) := by
    have := cast_le h2.1
    rw [Rat.intCast_neg] at this
    exact this
  have hlow : (m : Rat) * (m : Rat) ≤ n2 (cx x y) := by
    simp only [n2, cx]
    have s1 := sq_nn (x : Rat)
    have s2 := sq_nn (y : Rat)
    rcases h3 with h | h | h
    · rw [h]; grind
    · rw [h]; grind
    · rw [h, Rat.intCast_neg]; grind
  have h0 : Nm (cx x y) (3 / 2 * (m : Rat)) := by
    have q1 := Rat.mul_nonneg (show 0 ≤ (m : Rat) - x by grind) (show 0 ≤ (m : Rat) + x by grind)
    have q2 := Rat.mul_nonneg (show 0 ≤ (m : Rat) - y by grind) (show 0 ≤ (m : Rat) + y by grind)
    have q3 := sq_nn (m : Rat)
    refine ⟨by grind, ?_⟩
    simp only [n2, cx]
    grind
  have hn := aS_near hM h0 30 (by omega)
  obtain ⟨t1, t2⟩ := aS_thin hx hy 30 (by omega) (by omega)
  obtain ⟨⟨b1, _⟩, _, _⟩ := aS_bd hx hy (i := 30) (by omega)
  generalize (aS x y 30).1 = X at *
  generalize (aS x y 30).2.1 = Y at *
  have hv := VI_U (aS x y 30).2.2
  generalize VI (aS x y 30).2.2 = v at *
  have hX : (0 : Rat) ≤ (X : Rat) := cast_le (a := 0) b1
  have hY1 : (Y : Rat) * 1073741824 ≤ 2 * (X : Rat) + 32212254720 := by
    have := cast_le (a := Y * 1073741824) (b := 2 * X + 32212254720) (by omega)
    simp only [Rat.intCast_add, Rat.intCast_mul] at this
    exact this
  have hY2 : -(2 * (X : Rat) + 32212254720) ≤ (Y : Rat) * 1073741824 := by
    have := cast_le (a := -(2 * X + 32212254720)) (b := Y * 1073741824) (by omega)
    simp only [Rat.intCast_add, Rat.intCast_mul, Rat.intCast_neg] at this
    exact this
  have hc : Nm (sub (sc (X : Rat) v) (mul (cx X Y) v)) ((X : Rat) * (2 / 1073741824) + 30) := by
    have k : Nm (sub ⟨(X : Rat), 0⟩ (cx X Y)) (0 + ((X : Rat) * (2 / 1073741824) + 30)) := by
      apply Nm.of <;> simp only [sub, cx] <;> grind
    have k2 := k.turn hv
    have e : mul (sub ⟨(X : Rat), 0⟩ (cx X Y)) v = sub (sc (X : Rat) v) (mul (cx X Y) v) := by
      apply eqC <;> simp only [sub, sc, mul] <;> grind
    rw [e, Rat.zero_add] at k2
    exact k2
  have hd := hc.trans hn
  have ec : ((30 : Nat) : Rat) = 30 := by decide +kernel
  rw [ec] at hd
  have u1 : 8 / 5 + 4 / 100 ≤ uu 30 := by decide +kernel
  have u2 : uu 30 ≤ 1647 / 1000 := by decide +kernel
  -- X is large
  have hbig : 8 / 5 * (m : Rat) ≤ (X : Rat) := by
    rcases Rat.le_total (a := 8 / 5 * (m : Rat)) (b := (X : Rat)) with h | h
    · exact h
    · exfalso
      have k1 := ((hv.nm).sc hX).add hd.neg
      have e : Cx.add (sc (X : Rat) v) (sub (sc (uu 30) (cx x y)) (sc (X : Rat) v)) = sc (uu 30) (cx x y) := by apply eqC <;> simp only [Cx.add, sub] <;> grind
      rw [e] at k1
      have k2 := k1.mono (f := 161 / 100 * (m : Rat)) (by unfold eta; grind)
      have k3 := k2.2
      rw [n2_sc] at k3
      have k4 := Rat.mul_le_mul_of_nonneg_left hlow (sq_nn (uu 30))
      have k5 := sq_le_sq (x := 163 / 100) (y := uu 30) (by decide +kernel) (by grind)
      have k6 := Rat.mul_le_mul_of_nonneg_right k5 (sq_nn (m : Rat))
      have k7 := Rat.mul_pos (show 0 < (m : Rat) by grind) (show 0 < (m : Rat) by grind)
      generalize uu 30 * uu 30 = z at *
      generalize n2 (cx x y) = a at *
      grind
  have hu0 : 0 < uu 30 := by decide +kernel
  have hui : uu 30 * (uu 30)⁻¹ = 1 := Rat.mul_inv_cancel _ (by grind)
  have hip : 0 < (uu 30)⁻¹ := Rat.inv_pos.2 hu0
  generalize (uu 30)⁻¹ = g at *
  refine ⟨g * X, Rat.mul_pos hip (by grind), ?_⟩
  have hf := (hd.neg).sc (Rat.le_of_lt hip)
  have e : Cx.sc g (sub (sc (uu 30) (cx x y)) (sc (X : Rat) v)) = sub (cx x y) (sc (g * X) v) := by
    apply eqC <;> simp only [sub, sc] <;> grind
  rw [e] at hf
  refine hf.mono ?_
  have k : (X : Rat) * (2 / 1073741824) + 30 + 3 * 30 * ((m : Rat) * eta) ≤ X * (59 / 1073741824) := by unfold eta; grind
  have := Rat.mul_le_mul_of_nonneg_left k (Rat.le_of_lt hip)
  grind
end Cx
end Go.Xv
namespace Go.Xv
namespace Cx
theorem whole_nat : ∀ j : Nat, Nm (sub (V (4294967296 * j)) one) ((j : Rat) * hair)
  | 0 => by
    rw [Nat.mul_zero]
    have : ((0 : Nat) : Rat) = 0 := by decide +kernel
    rw [this]
    refine ⟨by grind, ?_⟩
    simp only [V, n2, sub, one]; grind
  | j + 1 => by
    have ih := (whole_nat j).add (whole.turn (V_U (4294967296 * j)))
    rw [Nat.mul_add, Nat.mul_one, V_add]
    have hc : ((j + 1 : Nat) : Rat) = (j : Rat) + 1 := by rw [Rat.natCast_add]; rfl
    generalize V (4294967296 * j) = u at *
    generalize V 4294967296 = v at *
    have e : Cx.add (sub u one) (mul (sub v one) u) = sub (mul u v) one := by
      apply eqC <;> simp only [Cx.add, sub, mul, one] <;> grind
    rw [e] at ih
    rw [hc]
    exact ih.mono (by grind)
theorem whole_int {j : Int} (h : -8 ≤ j ∧ j ≤ 8) : Nm (sub (VI (4294967296 * j)) one) (8 * hair) := by
  have hh : (0 : Rat) ≤ hair := by decide +kernel
  have key : ∀ m : Nat, m ≤ 8 → Nm (sub (V (4294967296 * m)) one) (8 * hair) := by
    intro m hm
    refine (whole_nat m).mono ?_
    exact Rat.mul_le_mul_of_nonneg_right (cast_leN hm) hh
  rcases Int.le_total 0 j with hp | hp
  · obtain ⟨m, rfl⟩ := Int.eq_ofNat_of_zero_le hp
    rw [show (4294967296 : Int) * (m : Int) = ((4294967296 * m : Nat) : Int) by omega, VI_nat]
    exact key m (by omega)
  · obtain ⟨m, hm⟩ := Int.eq_ofNat_of_zero_le (show 0 ≤ -j by omega)
    have e0 : 4294967296 * j = -((4294967296 * m : Nat) : Int) := by omega
    have hc := (key m (by omega)).cj
    rw [e0, VI_neg, VI_nat]
    generalize V (4294967296 * m) = u at *
    have e1 : Cx.cj (sub u one) = sub (cj u) one := by apply eqC <;> simp only [Cx.cj, sub, one] <;> grind
    rwa [e1] at hc
/-- whole turns change nothing -/
theorem VI_mod {z t : Int} (h : z % 4294967296 = t % 4294967296) (h1 : -17179869184 ≤ z - t ∧ z - t ≤ 17179869184) : Nm (sub (VI z) (VI t)) (8 * hair) := by
  have hj : z - t = 4294967296 * ((z - t) / 4294967296) := by omega
  have k := (whole_int (j := (z - t) / 4294967296) (by omega)).turn (VI_U t)
  have e : VI z = mul (VI (4294967296 * ((z - t) / 4294967296))) (VI t) := by rw [← VI_add, ← hj]; congr 1; omega
  rw [e]
  generalize VI (4294967296 * ((z - t) / 4294967296)) = u at *
  have e1 : mul (sub u one) (VI t) = sub (mul u (VI t)) (VI t) := by apply eqC <;> simp only [mul, sub, one] <;> grind
  rwa [e1] at k
theorem VI_half (n : Int) : Nm (sub (VI (n + 2147483648)) (sc (-1) (VI n))) hair := by
  have k := half.turn (VI_U n)
  rw [VI_add, show VI 2147483648 = V 2147483648 from VI_nat 2147483648]
  generalize V 2147483648 = u at *
  have e1 : mul (sub u ⟨-1, 0⟩) (VI n) = sub (mul (VI n) u) (sc (-1) (VI n)) := by apply eqC <;> simp only [mul, sub, sc] <;> grind
  rwa [e1] at k
/-- an angle near 0 -/
theorem near_mod {n : Int} {d : Rat} (hn : -17179869184 ≤ n ∧ n ≤ 17179869184) (h : Nm (sub (VI n) one) d) : (((n + 2147483648) % 4294967296 - 2147483648 : Int) : Rat) ≤ 2684354560 * (d + 8 * hair) ∧ -(2684354560 * (d + 8 * hair)) ≤ (((n + 2147483648) % 4294967296 - 2147483648 : Int) : Rat) := by
  have k := VI_mod (z := (n + 2147483648) % 4294967296 - 2147483648) (t := n) (by omega) (by omega)
  have k2 := k.trans h
  refine near_VI (by omega) (k2.mono (by grind))
theorem dbl_pow : ∀ (n : Nat) (x y : Int), ∃ k : Nat, dbl n x y = (x * 2 ^ k, y * 2 ^ k)
  | 0, x, y => ⟨0, by simp [dbl]⟩
  | n + 1, x, y => by
    rw [dbl]
    split
    · obtain ⟨k, hk⟩ := dbl_pow n (x * 2) (y * 2)
      refine ⟨k + 1, ?_⟩
      rw [hk, Int.pow_succ, Int.mul_comm (2 ^ k) 2, ← Int.mul_assoc, ← Int.mul_assoc]
    · exact ⟨0, by simp⟩
theorem scd_pow {x y : Int} (hb : big x y < 2305843009213693952) : ∃ k : Nat, scd x y = (x * 2 ^ k, y * 2 ^ k) := by
  unfold scd
  rw [down_small hb]
  exact dbl_pow 64 x y
/-- of a pair to the right of 0 -/
theorem right_near {x y : Int} (h0 : 0 ≤ x) (h1 : 1 ≤ big x y) (hb : big x y < 2305843009213693952) :
    ∃ s : Rat, 0 < s ∧ Nm (sub (cx x y) (sc s (VI (aS (scd x y).1 (scd x y).2 30).2.2))) (s * (59 / 1073741824)) := by
  obtain ⟨i1, i2⟩ := sz_I (x := x) (y := y) (by omega)
  have hs := scd_bd i1 i2 h1
  have hg := scd_sgn (y := y) h0
  obtain ⟨b1, b2⟩ := big_to hs.2 hg
  obtain ⟨k, hk⟩ := scd_pow hb
  obtain ⟨s, s0, hn⟩ := aS_end b1 b2 (m := big (scd x y).1 (scd x y).2) hs.1 (by unfold big sz; omega) (by unfold big sz; omega) (by unfold big sz; omega)
  generalize (aS (scd x y).1 (scd x y).2 30).2.2 = z at *
  rw [hk] at hn
  obtain ⟨p0, p1⟩ := hp_pos k
  refine ⟨hp k * s, Rat.mul_pos p0 s0, ?_⟩
  have h2 := hn.sc (Rat.le_of_lt p0)
  have e : Cx.sc (hp k) (sub (cx (x * 2 ^ k) (y * 2 ^ k)) (sc s (VI z))) = sub (cx x y) (sc (hp k * s) (VI z)) := by
    simp only [cx, Rat.intCast_mul]
    generalize ((2 ^ k : Int) : Rat) = P at *
    apply eqC <;> simp only [sub, sc] <;> grind
  dsimp only at h2
  rw [e] at h2
  exact h2.mono (by grind)
theorem aS_far (x y : Int) : ∀ i : Nat, i ≤ 30 → -(536870912 * (i : Int)) ≤ (aS x y i).2.2 ∧ (aS x y i).2.2 ≤ 536870912 * (i : Int)
  | 0, _ => by simp only [aS]; omega
  | i + 1, h => by
    have ih := aS_far x y i (by omega)
    have := tA_bd i (by omega)
    simp only [aS]
    split <;> omega
/-- The angle of two numbers is where they lie. -/
theorem angle_near {x y : Int} (h : ¬ (x = 0 ∧ y = 0)) (hb : big x y < 2305843009213693952) : ∃ s : Rat, 0 < s ∧ Nm (sub (cx x y) (sc s (VI (angle y x)))) (s * (60 / 1073741824)) := by
  have h1 := big_one h
  have fin : ∀ (s : Rat) (u v : Cx), 0 < s → Nm (sub (cx x y) (sc s u)) (s * (59 / 1073741824)) → Nm (sub u v) (9 * hair) → Nm (sub (cx x y) (sc s v)) (s * (60 / 1073741824)) := by
    intro s u v s0 k1 k2
    have k3 := k1.add (k2.sc (Rat.le_of_lt s0))
    have e : Cx.add (sub (cx x y) (sc s u)) (sc s (sub u v)) = sub (cx x y) (sc s v) := by apply eqC <;> simp only [Cx.add, sub, sc] <;> grind
    rw [e] at k3
    have hh : (59 / 1073741824 : Rat) + 9 * hair ≤ 60 / 1073741824 := by decide +kernel
    have := Rat.mul_le_mul_of_nonneg_left hh (Rat.le_of_lt s0)
    exact k3.mono (by grind)
  have hh : (0 : Rat) ≤ hair := by decide +kernel
  unfold angle
  rw [if_neg h]
  by_cases hn : x < 0
  · rw [if_pos hn]
    have ox : opp x = -x := by unfold opp; rw [if_neg (by unfold big sz at hb; omega)]
    have oy : opp y = -y := by unfold opp; rw [if_neg (by unfold big sz at hb; omega)]
    rw [ox, oy]
    have hbn : big (-x) (-y) = big x y := by unfold big sz; omega
    obtain ⟨s, s0, k⟩ := right_near (x := -x) (y := -y) (by omega) (by omega) (by omega)
    have hz := aS_far (scd (-x) (-y)).1 (scd (-x) (-y)).2 30 (by omega)
    generalize (aS (scd (-x) (-y)).1 (scd (-x) (-y)).2 30).2.2 = z at *
    refine ⟨s, s0, fin s (sc (-1) (VI z)) _ s0 ?_ ?_⟩
    · have k2 := k.neg
      have e : sub (sc s (VI z)) (cx (-x) (-y)) = sub (cx x y) (sc s (sc (-1) (VI z))) := by
        apply eqC <;> simp only [sub, sc, cx, Rat.intCast_neg] <;> grind
      rwa [e] at k2
    · have k3 := (VI_half z).neg.trans (VI_mod (z := z + 2147483648) (t := (z + 2147483648) % 4294967296) (by omega) (by omega))
      exact k3.mono (by grind)
  · rw [if_neg hn]
    obtain ⟨s, s0, k⟩ := right_near (x := x) (y := y) (by omega) h1 hb
    have hz := aS_far (scd x y).1 (scd x y).2 30 (by omega)
    generalize (aS (scd x y).1 (scd x y).2 30).2.2 = z at *
    refine ⟨s, s0, fin s (VI z) _ s0 k ?_⟩
    exact (VI_mod (z := z) (t := z % 4294967296) (by omega) (by omega)).mono (by grind)
/-- two directions that are near -/
theorem dir_near {s t e : Rat} {a b : Int} (hs : 0 < s) (ht : 0 ≤ t) (h : Nm (sub (sc s (VI a)) (sc t (VI b))) e) : Nm (sub (VI (a - b)) one) (s⁻¹ * (2 * e)) := by
  have hg := gap (VI_U a) (VI_U b) (Rat.le_of_lt hs) ht h
  have k : Nm (sub (sc t (VI b)) (sc s (VI b))) e := by
    have e1 : sub (sc t (VI b)) (sc s (VI b)) = sc (t - s) (VI b) := by apply eqC <;> simp only [sub, sc] <;> grind
    rw [e1]
    refine ⟨h.1, ?_⟩
    rw [n2_sc]
    have := VI_U b
    unfold U at this
    rw [this]
    have m1 := Rat.mul_nonneg (show 0 ≤ e - (t - s) by grind) (show 0 ≤ e + (t - s) by grind)
    grind
  have k2 := ((h.trans k).turn (VI_U b).cj).sc (Rat.le_of_lt (Rat.inv_pos.2 hs))
  have hi : s * s⁻¹ = 1 := Rat.mul_inv_cancel _ (by grind)
  generalize s⁻¹ = g at *
  rw [Int.sub_eq_add_neg, VI_add, VI_neg]
  have hu := (VI_U b).mul_cj
  generalize VI b = v at *
  generalize VI a = u at *
  have ee : Cx.sc g (mul (sub (sc s u) (sc s v)) (cj v)) = sub (mul u (cj v)) (mul v (cj v)) := by
    apply eqC <;> simp only [sub, sc, mul, cj] <;> grind
  rw [ee, hu] at k2
  exact k2.mono (by grind)
end Cx
end Go.Xv
namespace Go.Xv
theorem pr_one (a : Int) : pr 4294967296 a = a ∧ pr a 4294967296 = a := by
  have : pr a 4294967296 = a := by unfold pr; omega
  exact ⟨by rw [pr_comm]; exact this, this⟩
theorem pr_nil (a : Int) : pr 0 a = 0 ∧ pr a 0 = 0 := by
  have : pr a 0 = 0 := by unfold pr; rw [Int.mul_zero]; decide
  exact ⟨by rw [pr_comm]; exact this, this⟩
theorem dot_0 (x y z : Int) : dotZ 4294967296 0 0 x y z = x ∧ dotZ x y z 4294967296 0 0 = x := by
  unfold dotZ
  rw [(pr_one x).1, (pr_one x).2, (pr_nil y).1, (pr_nil y).2, (pr_nil z).1, (pr_nil z).2]
  omega
theorem dot_1 (x y z : Int) : dotZ 0 4294967296 0 x y z = y ∧ dotZ x y z 0 4294967296 0 = y := by
  unfold dotZ
  rw [(pr_one y).1, (pr_one y).2, (pr_nil x).1, (pr_nil x).2, (pr_nil z).1, (pr_nil z).2]
  omega
theorem dot_2 (x y z : Int) : dotZ 0 0 4294967296 x y z = z ∧ dotZ x y z 0 0 4294967296 = z := by
  unfold dotZ
  rw [(pr_one z).1, (pr_one z).2, (pr_nil x).1, (pr_nil x).2, (pr_nil y).1, (pr_nil y).2]
  omega
theorem row3_le {p q r s t u m : Int} (hm : 0 ≤ m ∧ m ≤ 1099511627776) (hp : -m ≤ p - s ∧ p - s ≤ m) (hq : -m ≤ q - t ∧ q - t ≤ m) (hr : -m ≤ r - u ∧ r - u ≤ m) : 0 ≤ row3 p q r s t u ∧ row3 p q r s t u ≤ m := by
  have e : ∀ x : Int, -m ≤ x ∧ x ≤ m → clipV x = x := fun x h => by unfold clipV; rw [if_neg (by omega), if_neg (by omega)]
  unfold row3 gr3 sz
  rw [e _ hp, e _ hq, e _ hr]
  split <;> split <;> split <;> omega
theorem off9_le {a0 a1 a2 a3 a4 a5 a6 a7 a8 m : Int} (hm : 0 ≤ m ∧ m ≤ 1099511627776) (h : (-m ≤ dotZ a0 a1 a2 a0 a1 a2 - 4294967296 ∧ dotZ a0 a1 a2 a0 a1 a2 - 4294967296 ≤ m) ∧ (-m ≤ dotZ a0 a1 a2 a3 a4 a5 - 0 ∧ dotZ a0 a1 a2 a3 a4 a5 - 0 ≤ m) ∧ (-m ≤ dotZ a0 a1 a2 a6 a7 a8 - 0 ∧ dotZ a0 a1 a2 a6 a7 a8 - 0 ≤ m) ∧ (-m ≤ dotZ a3 a4 a5 a0 a1 a2 - 0 ∧ dotZ a3 a4 a5 a0 a1 a2 - 0 ≤ m) ∧ (-m ≤ dotZ a3 a4 a5 a3 a4 a5 - 4294967296 ∧ dotZ a3 a4 a5 a3 a4 a5 - 4294967296 ≤ m) ∧ (-m ≤ dotZ a3 a4 a5 a6 a7 a8 - 0 ∧ dotZ a3 a4 a5 a6 a7 a8 - 0 ≤ m) ∧ (-m ≤ dotZ a6 a7 a8 a0 a1 a2 - 0 ∧ dotZ a6 a7 a8 a0 a1 a2 - 0 ≤ m) ∧ (-m ≤ dotZ a6 a7 a8 a3 a4 a5 - 0 ∧ dotZ a6 a7 a8 a3 a4 a5 - 0 ≤ m) ∧ (-m ≤ dotZ a6 a7 a8 a6 a7 a8 - 4294967296 ∧ dotZ a6 a7 a8 a6 a7 a8 - 4294967296 ≤ m)) : 0 ≤ off9 a0 a1 a2 a3 a4 a5 a6 a7 a8 ∧ off9 a0 a1 a2 a3 a4 a5 a6 a7 a8 ≤ m := by
  obtain ⟨h0, h1, h2, h3, h4, h5, h6, h7, h8⟩ := h
  have e : ∀ x : Int, -1099511627776 ≤ x ∧ x ≤ 1103806595072 → clipV x = x := fun x h => by unfold clipV; rw [if_neg (by omega), if_neg (by omega)]
  unfold off9
  rw [e (dotZ a0 a1 a2 a0 a1 a2) (by omega), e (dotZ a0 a1 a2 a3 a4 a5) (by omega), e (dotZ a0 a1 a2 a6 a7 a8) (by omega), e (dotZ a3 a4 a5 a0 a1 a2) (by omega), e (dotZ a3 a4 a5 a3 a4 a5) (by omega), e (dotZ a3 a4 a5 a6 a7 a8) (by omega), e (dotZ a6 a7 a8 a0 a1 a2) (by omega), e (dotZ a6 a7 a8 a3 a4 a5) (by omega), e (dotZ a6 a7 a8 a6 a7 a8) (by omega)]
  have r0 := row3_le hm (p := dotZ a0 a1 a2 a0 a1 a2) (q := dotZ a0 a1 a2 a3 a4 a5) (r := dotZ a0 a1 a2 a6 a7 a8) (s := 4294967296) (t := 0) (u := 0) (by omega) (by omega) (by omega)
  have r1 := row3_le hm (p := dotZ a3 a4 a5 a0 a1 a2) (q := dotZ a3 a4 a5 a3 a4 a5) (r := dotZ a3 a4 a5 a6 a7 a8) (s := 0) (t := 4294967296) (u := 0) (by omega) (by omega) (by omega)
  have r2 := row3_le hm (p := dotZ a6 a7 a8 a0 a1 a2) (q := dotZ a6 a7 a8 a3 a4 a5) (r := dotZ a6 a7 a8 a6 a7 a8) (s := 0) (t := 0) (u := 4294967296) (by omega) (by omega) (by omega)
  omega
end Go.Xv
namespace Go.Xv
theorem bdm {x y A B : Int} (hx : -A ≤ x ∧ x ≤ A) (hy : -B ≤ y ∧ y ≤ B) : -(A * B) ≤ x * y ∧ x * y ≤ A * B := by
  have hA : 0 ≤ A := by omega
  have h1 := Int.mul_nonneg (show 0 ≤ A - x by omega) (show 0 ≤ B + y by omega)
  have h2 := Int.mul_nonneg (show 0 ≤ A + x by omega) (show 0 ≤ B - y by omega)
  have h3 := Int.mul_nonneg (show 0 ≤ A - x by omega) (show 0 ≤ B - y by omega)
  have h4 := Int.mul_nonneg (show 0 ≤ A + x by omega) (show 0 ≤ B + y by omega)
  rw [Int.sub_mul, Int.mul_add, Int.mul_add] at h1
  rw [Int.add_mul, Int.mul_sub, Int.mul_sub] at h2
  rw [Int.sub_mul, Int.mul_sub, Int.mul_sub] at h3
  rw [Int.add_mul, Int.mul_add, Int.mul_add] at h4
  omega
theorem pr_rd (x y : Int) : -2147483648 ≤ 4294967296 * pr x y - x * y ∧ 4294967296 * pr x y - x * y ≤ 2147483648 := by unfold pr; omega
theorem sq_nn (x : Int) : 0 ≤ x * x := by
  rcases Int.le_total 0 x with h | h
  · exact Int.mul_nonneg h h
  · have := Int.mul_nonneg (show 0 ≤ -x by omega) (show 0 ≤ -x by omega)
    rw [Int.neg_mul_neg] at this
    exact this
theorem abs_of_sq {x n : Int} (hn : 0 ≤ n) (h : x * x ≤ n * n + 2 * n) : -n ≤ x ∧ x ≤ n := by
  constructor
  · rcases Int.lt_or_le x (-n) with hl | hl
    · have := sq_le (x := n + 1) (y := -x) (by omega) (by omega)
      rw [Int.neg_mul_neg, Int.add_mul, Int.mul_add] at this
      omega
    · exact hl
  · rcases Int.lt_or_le n x with hl | hl
    · have := sq_le (x := n + 1) (y := x) (by omega) (by omega)
      rw [Int.add_mul, Int.mul_add] at this
      omega
    · exact hl
theorem abs_le_sq {x B : Int} (hB : 0 ≤ B) (h : x * x ≤ B * B) : -B ≤ x ∧ x ≤ B := abs_of_sq hB (by omega)
def dot3 (x0 x1 x2 y0 y1 y2 : Int) : Int := x0 * y0 + x1 * y1 + x2 * y2
theorem dot_rd (x0 x1 x2 y0 y1 y2 : Int) : -6442450944 ≤ 4294967296 * dotZ x0 x1 x2 y0 y1 y2 - dot3 x0 x1 x2 y0 y1 y2 ∧ 4294967296 * dotZ x0 x1 x2 y0 y1 y2 - dot3 x0 x1 x2 y0 y1 y2 ≤ 6442450944 := by
  have := pr_rd x0 y0
  have := pr_rd x1 y1
  have := pr_rd x2 y2
  unfold dotZ dot3
  omega
/-- over its length -/
theorem unit_math {a0 a1 a2 n x0 x1 x2 r0 r1 r2 : Int} (h1 : n * n ≤ dot3 a0 a1 a2 a0 a1 a2) (h2 : dot3 a0 a1 a2 a0 a1 a2 ≤ n * n + 2 * n) (hn : 3779571220 ≤ n)
    (e0 : n * x0 = a0 * 4294967296 - r0) (e1 : n * x1 = a1 * 4294967296 - r1) (e2 : n * x2 = a2 * 4294967296 - r2)
    (b0 : -n ≤ r0 ∧ r0 ≤ n) (b1 : -n ≤ r1 ∧ r1 ≤ n) (b2 : -n ≤ r2 ∧ r2 ≤ n) :
    (-30064771072 ≤ dot3 x0 x1 x2 x0 x1 x2 - 18446744073709551616 ∧ dot3 x0 x1 x2 x0 x1 x2 - 18446744073709551616 ≤ 38654705664) ∧ (-n ≤ a0 ∧ a0 ≤ n) ∧ (-n ≤ a1 ∧ a1 ≤ n) ∧ (-n ≤ a2 ∧ a2 ≤ n) := by
  have hn0 : 0 ≤ n := by omega
  have s0 := sq_nn a0
  have s1 := sq_nn a1
  have s2 := sq_nn a2
  have c0 := abs_of_sq (x := a0) hn0 (by unfold dot3 at h2; omega)
  have c1 := abs_of_sq (x := a1) hn0 (by unfold dot3 at h2; omega)
  have c2 := abs_of_sq (x := a2) hn0 (by unfold dot3 at h2; omega)
  refine ⟨?_, c0, c1, c2⟩
  have p0 := bdm c0 b0
  have p1 := bdm c1 b1
  have p2 := bdm c2 b2
  have q0 := bdm b0 b0
  have q1 := bdm b1 b1
  have q2 := bdm b2 b2
  have t0 := sq_nn r0
  have t1 := sq_nn r1
  have t2 := sq_nn r2
  have k0 : (n * x0) * (n * x0) = (a0 * 4294967296 - r0) * (a0 * 4294967296 - r0) := by rw [e0]
  have k1 : (n * x1) * (n * x1) = (a1 * 4294967296 - r1) * (a1 * 4294967296 - r1) := by rw [e1]
  have k2 : (n * x2) * (n * x2) = (a2 * 4294967296 - r2) * (a2 * 4294967296 - r2) := by rw [e2]
  have key : (n * n) * (dot3 x0 x1 x2 x0 x1 x2 - 18446744073709551616) = 18446744073709551616 * (dot3 a0 a1 a2 a0 a1 a2 - n * n) - 8589934592 * (a0 * r0 + a1 * r1 + a2 * r2) + (r0 * r0 + r1 * r1 + r2 * r2) := by
    unfold dot3
    grind
  have hnn : 3779571220 * n ≤ n * n := Int.mul_le_mul_of_nonneg_right hn hn0
  have hpos : 0 < n * n := Int.mul_pos (by omega) (by omega)
  generalize dot3 a0 a1 a2 a0 a1 a2 = N at *
  generalize dot3 x0 x1 x2 x0 x1 x2 - 18446744073709551616 = D at *
  constructor
  · refine Int.le_of_mul_le_mul_left (a := n * n) ?_ hpos
    rw [key]
    omega
  · refine Int.le_of_mul_le_mul_left (a := n * n) ?_ hpos
    rw [key]
    omega
theorem quo_bd {n a x r : Int} (hn : 0 < n) (e : n * x = a * 4294967296 - r) (b : -n ≤ r ∧ r ≤ n) (c : -n ≤ a ∧ a ≤ n) : -4294967297 ≤ x ∧ x ≤ 4294967297 := by
  constructor
  · refine Int.le_of_mul_le_mul_left (a := n) ?_ hn
    rw [e]; omega
  · refine Int.le_of_mul_le_mul_left (a := n) ?_ hn
    rw [e]; omega
/-- the second row, less what is along the first -/
theorem rest_math {a0 a1 a2 b0 b1 b2 n x0 x1 x2 r0 r1 r2 d e0 e1 e2 : Int} (hn : 3779571220 ≤ n)
    (g0 : n * x0 = a0 * 4294967296 - r0) (g1 : n * x1 = a1 * 4294967296 - r1) (g2 : n * x2 = a2 * 4294967296 - r2)
    (k0 : -n ≤ r0 ∧ r0 ≤ n) (k1 : -n ≤ r1 ∧ r1 ≤ n) (k2 : -n ≤ r2 ∧ r2 ≤ n)
    (hx : -30064771072 ≤ dot3 x0 x1 x2 x0 x1 x2 - 18446744073709551616 ∧ dot3 x0 x1 x2 x0 x1 x2 - 18446744073709551616 ≤ 38654705664)
    (y0 : -4294967297 ≤ x0 ∧ x0 ≤ 4294967297) (y1 : -4294967297 ≤ x1 ∧ x1 ≤ 4294967297) (y2 : -4294967297 ≤ x2 ∧ x2 ≤ 4294967297)
    (hb : 14941862699704736808 ≤ dot3 b0 b1 b2 b0 b1 b2 ∧ dot3 b0 b1 b2 b0 b1 b2 ≤ 22320560329188557455)
    (hab : -1844674407370955161 ≤ dot3 a0 a1 a2 b0 b1 b2 ∧ dot3 a0 a1 a2 b0 b1 b2 ≤ 1844674407370955161)
    (hd : d = dotZ b0 b1 b2 x0 x1 x2) (h0 : e0 = pr x0 d) (h1 : e1 = pr x1 d) (h2 : e2 = pr x2 d) :
    (-500000000 ≤ d ∧ d ≤ 500000000) ∧ ((-500000000 ≤ e0 ∧ e0 ≤ 500000000) ∧ (-500000000 ≤ e1 ∧ e1 ≤ 500000000) ∧ (-500000000 ≤ e2 ∧ e2 ≤ 500000000)) ∧
    (-4724464026 ≤ b0 ∧ b0 ≤ 4724464026) ∧ (-4724464026 ≤ b1 ∧ b1 ≤ 4724464026) ∧ (-4724464026 ≤ b2 ∧ b2 ≤ 4724464026) ∧
    (-17609365914 ≤ dot3 (b0 - e0) (b1 - e1) (b2 - e2) x0 x1 x2 ∧ dot3 (b0 - e0) (b1 - e1) (b2 - e2) x0 x1 x2 ≤ 17609365914) ∧
    (14300000000000000000 ≤ dot3 (b0 - e0) (b1 - e1) (b2 - e2) (b0 - e0) (b1 - e1) (b2 - e2) ∧ dot3 (b0 - e0) (b1 - e1) (b2 - e2) (b0 - e0) (b1 - e1) (b2 - e2) ≤ 24000000000000000000) := by
  have n0 : 0 < n := by omega
  have sb0 := sq_nn b0
  have sb1 := sq_nn b1
  have sb2 := sq_nn b2
  have c0 := abs_le_sq (x := b0) (B := 4724464026) (by omega) (by unfold dot3 at hb; omega)
  have c1 := abs_le_sq (x := b1) (B := 4724464026) (by omega) (by unfold dot3 at hb; omega)
  have c2 := abs_le_sq (x := b2) (B := 4724464026) (by omega) (by unfold dot3 at hb; omega)
  -- along the first
  have p0 := bdm c0 k0
  have p1 := bdm c1 k1
  have p2 := bdm c2 k2
  have key1 : n * dot3 b0 b1 b2 x0 x1 x2 = 4294967296 * dot3 a0 a1 a2 b0 b1 b2 - (b0 * r0 + b1 * r1 + b2 * r2) := by
    have : n * dot3 b0 b1 b2 x0 x1 x2 = b0 * (n * x0) + b1 * (n * x1) + b2 * (n * x2) := by unfold dot3; grind
    rw [this, g0, g1, g2]
    unfold dot3; grind
  have hbx : -2140000000000000000 ≤ dot3 b0 b1 b2 x0 x1 x2 ∧ dot3 b0 b1 b2 x0 x1 x2 ≤ 2140000000000000000 := by
    constructor
    · refine Int.le_of_mul_le_mul_left (a := n) ?_ n0
      rw [key1]; omega
    · refine Int.le_of_mul_le_mul_left (a := n) ?_ n0
      rw [key1]; omega
  have hrd := dot_rd b0 b1 b2 x0 x1 x2
  rw [← hd] at hrd
  have dB : -500000000 ≤ d ∧ d ≤ 500000000 := by omega
  have t0 := pr_rd x0 d
  have t1 := pr_rd x1 d
  have t2 := pr_rd x2 d
  rw [← h0] at t0
  rw [← h1] at t1
  rw [← h2] at t2
  have m0 := bdm y0 dB
  have m1 := bdm y1 dB
  have m2 := bdm y2 dB
  have eB0 : -500000001 ≤ e0 ∧ e0 ≤ 500000001 := by omega
  have eB1 : -500000001 ≤ e1 ∧ e1 ≤ 500000001 := by omega
  have eB2 : -500000001 ≤ e2 ∧ e2 ≤ 500000001 := by omega
  have dB2 : -498262451 ≤ d ∧ d ≤ 498262451 := by omega
  have m0' := bdm y0 dB2
  have m1' := bdm y1 dB2
  have m2' := bdm y2 dB2
  have eC0 : -500000000 ≤ e0 ∧ e0 ≤ 500000000 := by omega
  have eC1 : -500000000 ≤ e1 ∧ e1 ≤ 500000000 := by omega
  have eC2 : -500000000 ≤ e2 ∧ e2 ≤ 500000000 := by omega
  refine ⟨dB, ⟨eC0, eC1, eC2⟩, c0, c1, c2, ?_, ?_⟩
  · -- across
    have hDX := bdm dB (show -38654705664 ≤ dot3 x0 x1 x2 x0 x1 x2 - 18446744073709551616 ∧ dot3 x0 x1 x2 x0 x1 x2 - 18446744073709551616 ≤ 38654705664 by omega)
    have u0 := bdm t0 y0
    have u1 := bdm t1 y1
    have u2 := bdm t2 y2
    have key2 : 4294967296 * dot3 (b0 - e0) (b1 - e1) (b2 - e2) x0 x1 x2 = -(4294967296 * (4294967296 * d - dot3 b0 b1 b2 x0 x1 x2)) - d * (dot3 x0 x1 x2 x0 x1 x2 - 18446744073709551616) - ((4294967296 * e0 - x0 * d) * x0 + (4294967296 * e1 - x1 * d) * x1 + (4294967296 * e2 - x2 * d) * x2) := by
      unfold dot3; grind
    omega
  · have hDB := bdm dB2 hbx
    have u0 := bdm t0 c0
    have u1 := bdm t1 c1
    have u2 := bdm t2 c2
    have v0 := bdm eC0 eC0
    have v1 := bdm eC1 eC1
    have v2 := bdm eC2 eC2
    have w0 := sq_nn e0
    have w1 := sq_nn e1
    have w2 := sq_nn e2
    have key3 : 4294967296 * dot3 (b0 - e0) (b1 - e1) (b2 - e2) (b0 - e0) (b1 - e1) (b2 - e2) = 4294967296 * dot3 b0 b1 b2 b0 b1 b2 - 2 * (d * dot3 b0 b1 b2 x0 x1 x2 + ((4294967296 * e0 - x0 * d) * b0 + (4294967296 * e1 - x1 * d) * b1 + (4294967296 * e2 - x2 * d) * b2)) + 4294967296 * (e0 * e0 + e1 * e1 + e2 * e2) := by
      unfold dot3; grind
    omega
/-- both rows, and what is across -/
theorem cross_math {f0 f1 f2 m x0 x1 x2 y0 y1 y2 r0 r1 r2 z0 z1 z2 : Int} (hm : 3779571220 ≤ m)
    (g0 : m * y0 = f0 * 4294967296 - r0) (g1 : m * y1 = f1 * 4294967296 - r1) (g2 : m * y2 = f2 * 4294967296 - r2)
    (k0 : -m ≤ r0 ∧ r0 ≤ m) (k1 : -m ≤ r1 ∧ r1 ≤ m) (k2 : -m ≤ r2 ∧ r2 ≤ m)
    (hx : -30064771072 ≤ dot3 x0 x1 x2 x0 x1 x2 - 18446744073709551616 ∧ dot3 x0 x1 x2 x0 x1 x2 - 18446744073709551616 ≤ 38654705664)
    (hy : -30064771072 ≤ dot3 y0 y1 y2 y0 y1 y2 - 18446744073709551616 ∧ dot3 y0 y1 y2 y0 y1 y2 - 18446744073709551616 ≤ 38654705664)
    (cx0 : -4294967297 ≤ x0 ∧ x0 ≤ 4294967297) (cx1 : -4294967297 ≤ x1 ∧ x1 ≤ 4294967297) (cx2 : -4294967297 ≤ x2 ∧ x2 ≤ 4294967297)
    (cy0 : -4294967297 ≤ y0 ∧ y0 ≤ 4294967297) (cy1 : -4294967297 ≤ y1 ∧ y1 ≤ 4294967297) (cy2 : -4294967297 ≤ y2 ∧ y2 ≤ 4294967297)
    (hf : -17609365914 ≤ dot3 f0 f1 f2 x0 x1 x2 ∧ dot3 f0 f1 f2 x0 x1 x2 ≤ 17609365914)
    (h0 : z0 = arZ x1 y2 x2 y1) (h1 : z1 = arZ x2 y0 x0 y2) (h2 : z2 = arZ x0 y1 x1 y0) :
    (-34359738368 ≤ dot3 x0 x1 x2 y0 y1 y2 ∧ dot3 x0 x1 x2 y0 y1 y2 ≤ 34359738368) ∧
    (-107374182400 ≤ dot3 z0 z1 z2 z0 z1 z2 - 18446744073709551616 ∧ dot3 z0 z1 z2 z0 z1 z2 - 18446744073709551616 ≤ 107374182400) ∧
    (-17179869184 ≤ dot3 z0 z1 z2 x0 x1 x2 ∧ dot3 z0 z1 z2 x0 x1 x2 ≤ 17179869184) ∧ (-17179869184 ≤ dot3 z0 z1 z2 y0 y1 y2 ∧ dot3 z0 z1 z2 y0 y1 y2 ≤ 17179869184) ∧
    (-4300000000 ≤ z0 ∧ z0 ≤ 4300000000) ∧ (-4300000000 ≤ z1 ∧ z1 ≤ 4300000000) ∧ (-4300000000 ≤ z2 ∧ z2 ≤ 4300000000) := by
  have m0 : 0 < m := by omega
  have p0 := bdm cx0 k0
  have p1 := bdm cx1 k1
  have p2 := bdm cx2 k2
  have key1 : m * dot3 x0 x1 x2 y0 y1 y2 = 4294967296 * dot3 f0 f1 f2 x0 x1 x2 - (x0 * r0 + x1 * r1 + x2 * r2) := by
    have : m * dot3 x0 x1 x2 y0 y1 y2 = x0 * (m * y0) + x1 * (m * y1) + x2 * (m * y2) := by unfold dot3; grind
    rw [this, g0, g1, g2]
    unfold dot3; grind
  have hxy : -34359738368 ≤ dot3 x0 x1 x2 y0 y1 y2 ∧ dot3 x0 x1 x2 y0 y1 y2 ≤ 34359738368 := by
    constructor
    · refine Int.le_of_mul_le_mul_left (a := m) ?_ m0
      rw [key1]; omega
    · refine Int.le_of_mul_le_mul_left (a := m) ?_ m0
      rw [key1]; omega
  refine ⟨hxy, ?_⟩
  -- what is across, exactly
  have t1 := pr_rd x1 y2
  have t2 := pr_rd x2 y1
  have t3 := pr_rd x2 y0
  have t4 := pr_rd x0 y2
  have t5 := pr_rd x0 y1
  have t6 := pr_rd x1 y0
  have u0 : -4294967296 ≤ 4294967296 * z0 - (x1 * y2 - x2 * y1) ∧ 4294967296 * z0 - (x1 * y2 - x2 * y1) ≤ 4294967296 := by rw [h0]; unfold arZ; omega
  have u1 : -4294967296 ≤ 4294967296 * z1 - (x2 * y0 - x0 * y2) ∧ 4294967296 * z1 - (x2 * y0 - x0 * y2) ≤ 4294967296 := by rw [h1]; unfold arZ; omega
  have u2 : -4294967296 ≤ 4294967296 * z2 - (x0 * y1 - x1 * y0) ∧ 4294967296 * z2 - (x0 * y1 - x1 * y0) ≤ 4294967296 := by rw [h2]; unfold arZ; omega
  clear h0 h1 h2 t1 t2 t3 t4 t5 t6 key1 p0 p1 p2 g0 g1 g2 k0 k1 k2 hf
  have hCC : (x1 * y2 - x2 * y1) * (x1 * y2 - x2 * y1) + (x2 * y0 - x0 * y2) * (x2 * y0 - x0 * y2) + (x0 * y1 - x1 * y0) * (x0 * y1 - x1 * y0) = dot3 x0 x1 x2 x0 x1 x2 * dot3 y0 y1 y2 y0 y1 y2 - dot3 x0 x1 x2 y0 y1 y2 * dot3 x0 x1 x2 y0 y1 y2 := by
    unfold dot3; grind
  have hCX : (x1 * y2 - x2 * y1) * x0 + (x2 * y0 - x0 * y2) * x1 + (x0 * y1 - x1 * y0) * x2 = 0 := by grind
  have hCY : (x1 * y2 - x2 * y1) * y0 + (x2 * y0 - x0 * y2) * y1 + (x0 * y1 - x1 * y0) * y2 = 0 := by grind
  have hq := bdm hxy hxy
  have hq0 := sq_nn (dot3 x0 x1 x2 y0 y1 y2)
  have hXY : dot3 x0 x1 x2 x0 x1 x2 * dot3 y0 y1 y2 y0 y1 y2 = 340282366920938463463374607431768211456 + 18446744073709551616 * (dot3 x0 x1 x2 x0 x1 x2 - 18446744073709551616) + 18446744073709551616 * (dot3 y0 y1 y2 y0 y1 y2 - 18446744073709551616) + (dot3 x0 x1 x2 x0 x1 x2 - 18446744073709551616) * (dot3 y0 y1 y2 y0 y1 y2 - 18446744073709551616) := by grind
  have hP := bdm (show -38654705664 ≤ dot3 x0 x1 x2 x0 x1 x2 - 18446744073709551616 ∧ dot3 x0 x1 x2 x0 x1 x2 - 18446744073709551616 ≤ 38654705664 by omega) (show -38654705664 ≤ dot3 y0 y1 y2 y0 y1 y2 - 18446744073709551616 ∧ dot3 y0 y1 y2 y0 y1 y2 - 18446744073709551616 ≤ 38654705664 by omega)
  generalize x1 * y2 - x2 * y1 = C0 at *
  generalize x2 * y0 - x0 * y2 = C1 at *
  generalize x0 * y1 - x1 * y0 = C2 at *
  rw [hXY] at hCC
  have s0 := sq_nn C0
  have s1 := sq_nn C1
  have s2 := sq_nn C2
  have hC0 := abs_le_sq (x := C0) (B := 18446744200000000000) (by omega) (by omega)
  have hC1 := abs_le_sq (x := C1) (B := 18446744200000000000) (by omega) (by omega)
  have hC2 := abs_le_sq (x := C2) (B := 18446744200000000000) (by omega) (by omega)
  have w0 : -4300000000 ≤ z0 ∧ z0 ≤ 4300000000 := by omega
  have w1 : -4300000000 ≤ z1 ∧ z1 ≤ 4300000000 := by omega
  have w2 : -4300000000 ≤ z2 ∧ z2 ≤ 4300000000 := by omega
  refine ⟨?_, ?_, ?_, w0, w1, w2⟩
  · have v0 := bdm u0 hC0
    have v1 := bdm u1 hC1
    have v2 := bdm u2 hC2
    have x0' := bdm u0 u0
    have x1' := bdm u1 u1
    have x2' := bdm u2 u2
    have y0' := sq_nn (4294967296 * z0 - C0)
    have y1' := sq_nn (4294967296 * z1 - C1)
    have y2' := sq_nn (4294967296 * z2 - C2)
    have key : 18446744073709551616 * dot3 z0 z1 z2 z0 z1 z2 = (C0 * C0 + C1 * C1 + C2 * C2) + 2 * ((4294967296 * z0 - C0) * C0 + (4294967296 * z1 - C1) * C1 + (4294967296 * z2 - C2) * C2) + ((4294967296 * z0 - C0) * (4294967296 * z0 - C0) + (4294967296 * z1 - C1) * (4294967296 * z1 - C1) + (4294967296 * z2 - C2) * (4294967296 * z2 - C2)) := by
      unfold dot3; grind
    omega
  · have v0 := bdm u0 cx0
    have v1 := bdm u1 cx1
    have v2 := bdm u2 cx2
    have key : 4294967296 * dot3 z0 z1 z2 x0 x1 x2 = ((4294967296 * z0 - C0) * x0 + (4294967296 * z1 - C1) * x1 + (4294967296 * z2 - C2) * x2) + (C0 * x0 + C1 * x1 + C2 * x2) := by
      unfold dot3; grind
    omega
  · have v0 := bdm u0 cy0
    have v1 := bdm u1 cy1
    have v2 := bdm u2 cy2
    have key : 4294967296 * dot3 z0 z1 z2 y0 y1 y2 = ((4294967296 * z0 - C0) * y0 + (4294967296 * z1 - C1) * y1 + (4294967296 * z2 - C2) * y2) + (C0 * y0 + C1 * y1 + C2 * y2) := by
      unfold dot3; grind
    omega
end Go.Xv
namespace Go.Xv
theorem tdiv_fact {a n : Int} (hn : 0 < n) : n * Int.tdiv a n = a - Int.tmod a n ∧ -n ≤ Int.tmod a n ∧ Int.tmod a n ≤ n := by
  have h := Int.mul_tdiv_add_tmod a n
  rcases Int.le_total 0 a with h0 | h0
  · have e := Int.tmod_eq_emod_of_nonneg (b := n) h0
    have h1 := Int.emod_nonneg a (show n ≠ 0 by omega)
    have h2 := Int.emod_lt_of_pos a hn
    omega
  · have e := Int.tmod_eq_emod_of_nonneg (a := -a) (b := n) (by omega)
    rw [Int.neg_tmod] at e
    have h1 := Int.emod_nonneg (-a) (show n ≠ 0 by omega)
    have h2 := Int.emod_lt_of_pos (-a) hn
    omega
theorem unit_fact {a0 a1 a2 : Int} (h : 14300000000000000000 ≤ dot3 a0 a1 a2 a0 a1 a2 ∧ dot3 a0 a1 a2 a0 a1 a2 ≤ 24000000000000000000) :
    unitOK a0 a1 a2 = true ∧ ∃ n r0 r1 r2 : Int, 3779571220 ≤ n ∧ n * n ≤ dot3 a0 a1 a2 a0 a1 a2 ∧ dot3 a0 a1 a2 a0 a1 a2 ≤ n * n + 2 * n ∧
      (n * unV a0 a0 a1 a2 = a0 * 4294967296 - r0 ∧ n * unV a1 a0 a1 a2 = a1 * 4294967296 - r1 ∧ n * unV a2 a0 a1 a2 = a2 * 4294967296 - r2) ∧
      (-n ≤ r0 ∧ r0 ≤ n) ∧ (-n ≤ r1 ∧ r1 ≤ n) ∧ (-n ≤ r2 ∧ r2 ≤ n) := by
  have e3 : sq3 a0 a1 a2 = dot3 a0 a1 a2 a0 a1 a2 := rfl
  obtain ⟨r1, r2, r3⟩ := rt_spec (z := sq3 a0 a1 a2) (by omega)
  have hlow : 3779571220 ≤ rt (sq3 a0 a1 a2) := (rt_le (by omega) (by omega)).2 (by omega)
  have hl : lenV (sq3 a0 a1 a2) = rt (sq3 a0 a1 a2) := by unfold lenV; rw [if_pos (by omega)]
  have hc : lenC (sq3 a0 a1 a2) = false := by unfold lenC; exact df (by omega)
  have hok : unitOK a0 a1 a2 = true := by
    unfold unitOK
    rw [hl, hc, df (by omega)]
    rfl
  rw [Int.add_mul, Int.mul_add] at r3
  have hn0 : 0 ≤ rt (sq3 a0 a1 a2) := r1
  have s0 := sq_nn a0
  have s1 := sq_nn a1
  have s2 := sq_nn a2
  have c0 := abs_of_sq (x := a0) hn0 (by unfold sq3 at *; omega)
  have c1 := abs_of_sq (x := a1) hn0 (by unfold sq3 at *; omega)
  have c2 := abs_of_sq (x := a2) hn0 (by unfold sq3 at *; omega)
  have key : ∀ a : Int, -rt (sq3 a0 a1 a2) ≤ a ∧ a ≤ rt (sq3 a0 a1 a2) → rt (sq3 a0 a1 a2) * unV a a0 a1 a2 = a * 4294967296 - Int.tmod (a * 4294967296) (rt (sq3 a0 a1 a2)) := by
    intro a ha
    obtain ⟨t1, t2⟩ := tdiv_fact (a := a * 4294967296) (n := rt (sq3 a0 a1 a2)) (by omega)
    have q := quo_bd (n := rt (sq3 a0 a1 a2)) (by omega) t1 t2 ha
    unfold unV
    rw [if_pos hok, hl]
    unfold fdivV
    rw [if_neg (by omega), (clip_in (by unfold I64; omega)).1]
    exact t1
  refine ⟨hok, rt (sq3 a0 a1 a2), _, _, _, hlow, by omega, by omega, ⟨key a0 c0, key a1 c1, key a2 c2⟩, ?_, ?_, ?_⟩
  · exact (tdiv_fact (by omega)).2
  · exact (tdiv_fact (by omega)).2
  · exact (tdiv_fact (by omega)).2
theorem clip_sm {z : Int} (h : -100000000000 ≤ z ∧ z ≤ 100000000000) : clipV z = z ∧ clipC z = false := clip_in (by unfold I64; omega)
theorem dot3_comm (x0 x1 x2 y0 y1 y2 : Int) : dot3 x0 x1 x2 y0 y1 y2 = dot3 y0 y1 y2 x0 x1 x2 := by unfold dot3; rw [Int.mul_comm x0, Int.mul_comm x1, Int.mul_comm x2]
end Go.Xv
namespace Go.Xv
/-- rows that are nearly upright: how far their products are off -/
def RowsE (E a0 a1 a2 a3 a4 a5 a6 a7 a8 : Int) : Prop := (-E ≤ dot3 a0 a1 a2 a0 a1 a2 - 18446744073709551616 ∧ dot3 a0 a1 a2 a0 a1 a2 - 18446744073709551616 ≤ E) ∧ (-E ≤ dot3 a3 a4 a5 a3 a4 a5 - 18446744073709551616 ∧ dot3 a3 a4 a5 a3 a4 a5 - 18446744073709551616 ≤ E) ∧ (-E ≤ dot3 a6 a7 a8 a6 a7 a8 - 18446744073709551616 ∧ dot3 a6 a7 a8 a6 a7 a8 - 18446744073709551616 ≤ E) ∧ (-E ≤ dot3 a0 a1 a2 a3 a4 a5 - 0 ∧ dot3 a0 a1 a2 a3 a4 a5 - 0 ≤ E) ∧ (-E ≤ dot3 a0 a1 a2 a6 a7 a8 - 0 ∧ dot3 a0 a1 a2 a6 a7 a8 - 0 ≤ E) ∧ (-E ≤ dot3 a3 a4 a5 a6 a7 a8 - 0 ∧ dot3 a3 a4 a5 a6 a7 a8 - 0 ≤ E)
theorem ortho_full {a0 a1 a2 a3 a4 a5 a6 a7 a8 : Int} (ha : 14300000000000000000 ≤ dot3 a0 a1 a2 a0 a1 a2 ∧ dot3 a0 a1 a2 a0 a1 a2 ≤ 24000000000000000000)
    (hb : 14941862699704736808 ≤ dot3 a3 a4 a5 a3 a4 a5 ∧ dot3 a3 a4 a5 a3 a4 a5 ≤ 22320560329188557455)
    (hab : -1844674407370955161 ≤ dot3 a0 a1 a2 a3 a4 a5 ∧ dot3 a0 a1 a2 a3 a4 a5 ≤ 1844674407370955161) :
    ortC a0 a1 a2 a3 a4 a5 a6 a7 a8 = true ∧ RowsE 107374182400 (ort0 a0 a1 a2 a3 a4 a5 a6 a7 a8) (ort1 a0 a1 a2 a3 a4 a5 a6 a7 a8) (ort2 a0 a1 a2 a3 a4 a5 a6 a7 a8) (ort3 a0 a1 a2 a3 a4 a5 a6 a7 a8) (ort4 a0 a1 a2 a3 a4 a5 a6 a7 a8) (ort5 a0 a1 a2 a3 a4 a5 a6 a7 a8) (ort6 a0 a1 a2 a3 a4 a5 a6 a7 a8) (ort7 a0 a1 a2 a3 a4 a5 a6 a7 a8) (ort8 a0 a1 a2 a3 a4 a5 a6 a7 a8) ∧ (-4300000000 ≤ (ort0 a0 a1 a2 a3 a4 a5 a6 a7 a8) ∧ (ort0 a0 a1 a2 a3 a4 a5 a6 a7 a8) ≤ 4300000000) ∧ (-4300000000 ≤ (ort1 a0 a1 a2 a3 a4 a5 a6 a7 a8) ∧ (ort1 a0 a1 a2 a3 a4 a5 a6 a7 a8) ≤ 4300000000) ∧ (-4300000000 ≤ (ort2 a0 a1 a2 a3 a4 a5 a6 a7 a8) ∧ (ort2 a0 a1 a2 a3 a4 a5 a6 a7 a8) ≤ 4300000000) ∧ (-4300000000 ≤ (ort3 a0 a1 a2 a3 a4 a5 a6 a7 a8) ∧ (ort3 a0 a1 a2 a3 a4 a5 a6 a7 a8) ≤ 4300000000) ∧ (-4300000000 ≤ (ort4 a0 a1 a2 a3 a4 a5 a6 a7 a8) ∧ (ort4 a0 a1 a2 a3 a4 a5 a6 a7 a8) ≤ 4300000000) ∧ (-4300000000 ≤ (ort5 a0 a1 a2 a3 a4 a5 a6 a7 a8) ∧ (ort5 a0 a1 a2 a3 a4 a5 a6 a7 a8) ≤ 4300000000) ∧ (-4300000000 ≤ (ort6 a0 a1 a2 a3 a4 a5 a6 a7 a8) ∧ (ort6 a0 a1 a2 a3 a4 a5 a6 a7 a8) ≤ 4300000000) ∧ (-4300000000 ≤ (ort7 a0 a1 a2 a3 a4 a5 a6 a7 a8) ∧ (ort7 a0 a1 a2 a3 a4 a5 a6 a7 a8) ≤ 4300000000) ∧ (-4300000000 ≤ (ort8 a0 a1 a2 a3 a4 a5 a6 a7 a8) ∧ (ort8 a0 a1 a2 a3 a4 a5 a6 a7 a8) ≤ 4300000000) ∧ ∃ n r0 r1 r2 : Int, 3779571220 ≤ n ∧ n * n ≤ dot3 a0 a1 a2 a0 a1 a2 ∧ dot3 a0 a1 a2 a0 a1 a2 ≤ n * n + 2 * n ∧ (n * (ort0 a0 a1 a2 a3 a4 a5 a6 a7 a8) = a0 * 4294967296 - r0 ∧ n * (ort1 a0 a1 a2 a3 a4 a5 a6 a7 a8) = a1 * 4294967296 - r1 ∧ n * (ort2 a0 a1 a2 a3 a4 a5 a6 a7 a8) = a2 * 4294967296 - r2) ∧ (-n ≤ r0 ∧ r0 ≤ n) ∧ (-n ≤ r1 ∧ r1 ≤ n) ∧ (-n ≤ r2 ∧ r2 ≤ n) ∧ 0 < dot3 (ort3 a0 a1 a2 a3 a4 a5 a6 a7 a8) (ort4 a0 a1 a2 a3 a4 a5 a6 a7 a8) (ort5 a0 a1 a2 a3 a4 a5 a6 a7 a8) a3 a4 a5 := by
  obtain ⟨ua, n, r0, r1, r2, hn, n1, n2, ⟨g0, g1, g2⟩, k0, k1, k2⟩ := unit_fact ha
  obtain ⟨hx, q0, q1, q2⟩ := unit_math n1 n2 hn g0 g1 g2 k0 k1 k2
  have y0 := quo_bd (by omega) g0 k0 q0
  have y1 := quo_bd (by omega) g1 k1 q1
  have y2 := quo_bd (by omega) g2 k2 q2
  obtain ⟨hd, ⟨he0, he1, he2⟩, c0, c1, c2, hfx, hff⟩ := rest_math hn g0 g1 g2 k0 k1 k2 hx y0 y1 y2 hb hab rfl rfl rfl rfl
  have hD : oD a0 a1 a2 a3 a4 a5 a6 a7 a8 = dotZ a3 a4 a5 (unV a0 a0 a1 a2) (unV a1 a0 a1 a2) (unV a2 a0 a1 a2) := (clip_sm (by omega)).1
  have hDc : clipC (dotZ a3 a4 a5 (unV a0 a0 a1 a2) (unV a1 a0 a1 a2) (unV a2 a0 a1 a2)) = false := (clip_sm (by omega)).2
  have hR0 : oR0 a0 a1 a2 a3 a4 a5 a6 a7 a8 = a3 - pr (unV a0 a0 a1 a2) (dotZ a3 a4 a5 (unV a0 a0 a1 a2) (unV a1 a0 a1 a2) (unV a2 a0 a1 a2)) := by
    unfold oR0
    rw [hD, (clip_sm (z := pr (unV a0 a0 a1 a2) (dotZ a3 a4 a5 (unV a0 a0 a1 a2) (unV a1 a0 a1 a2) (unV a2 a0 a1 a2))) (by omega)).1, (clip_sm (by omega)).1]
  have sc0 : clipC (pr (unV a0 a0 a1 a2) (oD a0 a1 a2 a3 a4 a5 a6 a7 a8)) = false := by rw [hD]; exact (clip_sm (by omega)).2
  have sb0 : clipC (a3 - clipV (pr (unV a0 a0 a1 a2) (oD a0 a1 a2 a3 a4 a5 a6 a7 a8))) = false := by
    rw [hD, (clip_sm (z := pr (unV a0 a0 a1 a2) (dotZ a3 a4 a5 (unV a0 a0 a1 a2) (unV a1 a0 a1 a2) (unV a2 a0 a1 a2))) (by omega)).1]
    exact (clip_sm (by omega)).2
  have hR1 : oR1 a0 a1 a2 a3 a4 a5 a6 a7 a8 = a4 - pr (unV a1 a0 a1 a2) (dotZ a3 a4 a5 (unV a0 a0 a1 a2) (unV a1 a0 a1 a2) (unV a2 a0 a1 a2)) := by
    unfold oR1
    rw [hD, (clip_sm (z := pr (unV a1 a0 a1 a2) (dotZ a3 a4 a5 (unV a0 a0 a1 a2) (unV a1 a0 a1 a2) (unV a2 a0 a1 a2))) (by omega)).1, (clip_sm (by omega)).1]
  have sc1 : clipC (pr (unV a1 a0 a1 a2) (oD a0 a1 a2 a3 a4 a5 a6 a7 a8)) = false := by rw [hD]; exact (clip_sm (by omega)).2
  have sb1 : clipC (a4 - clipV (pr (unV a1 a0 a1 a2) (oD a0 a1 a2 a3 a4 a5 a6 a7 a8))) = false := by
    rw [hD, (clip_sm (z := pr (unV a1 a0 a1 a2) (dotZ a3 a4 a5 (unV a0 a0 a1 a2) (unV a1 a0 a1 a2) (unV a2 a0 a1 a2))) (by omega)).1]
    exact (clip_sm (by omega)).2
  have hR2 : oR2 a0 a1 a2 a3 a4 a5 a6 a7 a8 = a5 - pr (unV a2 a0 a1 a2) (dotZ a3 a4 a5 (unV a0 a0 a1 a2) (unV a1 a0 a1 a2) (unV a2 a0 a1 a2)) := by
    unfold oR2
    rw [hD, (clip_sm (z := pr (unV a2 a0 a1 a2) (dotZ a3 a4 a5 (unV a0 a0 a1 a2) (unV a1 a0 a1 a2) (unV a2 a0 a1 a2))) (by omega)).1, (clip_sm (by omega)).1]
  have sc2 : clipC (pr (unV a2 a0 a1 a2) (oD a0 a1 a2 a3 a4 a5 a6 a7 a8)) = false := by rw [hD]; exact (clip_sm (by omega)).2
  have sb2 : clipC (a5 - clipV (pr (unV a2 a0 a1 a2) (oD a0 a1 a2 a3 a4 a5 a6 a7 a8))) = false := by
    rw [hD, (clip_sm (z := pr (unV a2 a0 a1 a2) (dotZ a3 a4 a5 (unV a0 a0 a1 a2) (unV a1 a0 a1 a2) (unV a2 a0 a1 a2))) (by omega)).1]
    exact (clip_sm (by omega)).2
  rw [← hR0, ← hR1, ← hR2] at hfx hff
  obtain ⟨ub, m, s0, s1, s2, hm, m1, m2, ⟨j0, j1, j2⟩, l0, l1, l2⟩ := unit_fact hff
  obtain ⟨hy, p0, p1, p2⟩ := unit_math m1 m2 hm j0 j1 j2 l0 l1 l2
  have v0 := quo_bd (by omega) j0 l0 p0
  have v1 := quo_bd (by omega) j1 l1 p1
  have v2 := quo_bd (by omega) j2 l2 p2
  obtain ⟨hxy, hz, hzx, hzy, w0, w1, w2⟩ := cross_math (y0 := oY0 a0 a1 a2 a3 a4 a5 a6 a7 a8) (y1 := oY1 a0 a1 a2 a3 a4 a5 a6 a7 a8) (y2 := oY2 a0 a1 a2 a3 a4 a5 a6 a7 a8) hm j0 j1 j2 l0 l1 l2 hx hy y0 y1 y2 v0 v1 v2 hfx rfl rfl rfl
  have hZ0 : oZ0 a0 a1 a2 a3 a4 a5 a6 a7 a8 = arZ (unV a1 a0 a1 a2) (oY2 a0 a1 a2 a3 a4 a5 a6 a7 a8) (unV a2 a0 a1 a2) (oY1 a0 a1 a2 a3 a4 a5 a6 a7 a8) := (clip_sm (z := arZ (unV a1 a0 a1 a2) (oY2 a0 a1 a2 a3 a4 a5 a6 a7 a8) (unV a2 a0 a1 a2) (oY1 a0 a1 a2 a3 a4 a5 a6 a7 a8)) (by omega)).1
  have cz0 : clipC (arZ (unV a1 a0 a1 a2) (oY2 a0 a1 a2 a3 a4 a5 a6 a7 a8) (unV a2 a0 a1 a2) (oY1 a0 a1 a2 a3 a4 a5 a6 a7 a8)) = false := (clip_sm (by omega)).2
  have hZ1 : oZ1 a0 a1 a2 a3 a4 a5 a6 a7 a8 = arZ (unV a2 a0 a1 a2) (oY0 a0 a1 a2 a3 a4 a5 a6 a7 a8) (unV a0 a0 a1 a2) (oY2 a0 a1 a2 a3 a4 a5 a6 a7 a8) := (clip_sm (z := arZ (unV a2 a0 a1 a2) (oY0 a0 a1 a2 a3 a4 a5 a6 a7 a8) (unV a0 a0 a1 a2) (oY2 a0 a1 a2 a3 a4 a5 a6 a7 a8)) (by omega)).1
  have cz1 : clipC (arZ (unV a2 a0 a1 a2) (oY0 a0 a1 a2 a3 a4 a5 a6 a7 a8) (unV a0 a0 a1 a2) (oY2 a0 a1 a2 a3 a4 a5 a6 a7 a8)) = false := (clip_sm (by omega)).2
  have hZ2 : oZ2 a0 a1 a2 a3 a4 a5 a6 a7 a8 = arZ (unV a0 a0 a1 a2) (oY1 a0 a1 a2 a3 a4 a5 a6 a7 a8) (unV a1 a0 a1 a2) (oY0 a0 a1 a2 a3 a4 a5 a6 a7 a8) := (clip_sm (z := arZ (unV a0 a0 a1 a2) (oY1 a0 a1 a2 a3 a4 a5 a6 a7 a8) (unV a1 a0 a1 a2) (oY0 a0 a1 a2 a3 a4 a5 a6 a7 a8)) (by omega)).1
  have cz2 : clipC (arZ (unV a0 a0 a1 a2) (oY1 a0 a1 a2 a3 a4 a5 a6 a7 a8) (unV a1 a0 a1 a2) (oY0 a0 a1 a2 a3 a4 a5 a6 a7 a8)) = false := (clip_sm (by omega)).2
  have hC : ortC a0 a1 a2 a3 a4 a5 a6 a7 a8 = true := by
    unfold ortC
    rw [ua, ub, hDc, sc0, sc1, sc2, sb0, sb1, sb2, cz0, cz1, cz2]
    rfl
  have o0 : (ort0 a0 a1 a2 a3 a4 a5 a6 a7 a8) = (unV a0 a0 a1 a2) := if_pos hC
  have o1 : (ort1 a0 a1 a2 a3 a4 a5 a6 a7 a8) = (unV a1 a0 a1 a2) := if_pos hC
  have o2 : (ort2 a0 a1 a2 a3 a4 a5 a6 a7 a8) = (unV a2 a0 a1 a2) := if_pos hC
  have o3 : (ort3 a0 a1 a2 a3 a4 a5 a6 a7 a8) = (oY0 a0 a1 a2 a3 a4 a5 a6 a7 a8) := if_pos hC
  have o4 : (ort4 a0 a1 a2 a3 a4 a5 a6 a7 a8) = (oY1 a0 a1 a2 a3 a4 a5 a6 a7 a8) := if_pos hC
  have o5 : (ort5 a0 a1 a2 a3 a4 a5 a6 a7 a8) = (oY2 a0 a1 a2 a3 a4 a5 a6 a7 a8) := if_pos hC
  have o6 : (ort6 a0 a1 a2 a3 a4 a5 a6 a7 a8) = (oZ0 a0 a1 a2 a3 a4 a5 a6 a7 a8) := if_pos hC
  have o7 : (ort7 a0 a1 a2 a3 a4 a5 a6 a7 a8) = (oZ1 a0 a1 a2 a3 a4 a5 a6 a7 a8) := if_pos hC
  have o8 : (ort8 a0 a1 a2 a3 a4 a5 a6 a7 a8) = (oZ2 a0 a1 a2 a3 a4 a5 a6 a7 a8) := if_pos hC
  rw [o0, o1, o2, o3, o4, o5, o6, o7, o8]
  have hy' : -30064771072 ≤ dot3 (oY0 a0 a1 a2 a3 a4 a5 a6 a7 a8) (oY1 a0 a1 a2 a3 a4 a5 a6 a7 a8) (oY2 a0 a1 a2 a3 a4 a5 a6 a7 a8) (oY0 a0 a1 a2 a3 a4 a5 a6 a7 a8) (oY1 a0 a1 a2 a3 a4 a5 a6 a7 a8) (oY2 a0 a1 a2 a3 a4 a5 a6 a7 a8) - 18446744073709551616 ∧ dot3 (oY0 a0 a1 a2 a3 a4 a5 a6 a7 a8) (oY1 a0 a1 a2 a3 a4 a5 a6 a7 a8) (oY2 a0 a1 a2 a3 a4 a5 a6 a7 a8) (oY0 a0 a1 a2 a3 a4 a5 a6 a7 a8) (oY1 a0 a1 a2 a3 a4 a5 a6 a7 a8) (oY2 a0 a1 a2 a3 a4 a5 a6 a7 a8) - 18446744073709551616 ≤ 38654705664 := hy
  have v0' : -4294967297 ≤ oY0 a0 a1 a2 a3 a4 a5 a6 a7 a8 ∧ oY0 a0 a1 a2 a3 a4 a5 a6 a7 a8 ≤ 4294967297 := v0
  have v1' : -4294967297 ≤ oY1 a0 a1 a2 a3 a4 a5 a6 a7 a8 ∧ oY1 a0 a1 a2 a3 a4 a5 a6 a7 a8 ≤ 4294967297 := v1
  have v2' : -4294967297 ≤ oY2 a0 a1 a2 a3 a4 a5 a6 a7 a8 ∧ oY2 a0 a1 a2 a3 a4 a5 a6 a7 a8 ≤ 4294967297 := v2
  rw [← hZ0] at hz hzx hzy w0
  rw [← hZ1] at hz hzx hzy w1
  rw [← hZ2] at hz hzx hzy w2
  have hyb : 0 < dot3 (oY0 a0 a1 a2 a3 a4 a5 a6 a7 a8) (oY1 a0 a1 a2 a3 a4 a5 a6 a7 a8) (oY2 a0 a1 a2 a3 a4 a5 a6 a7 a8) a3 a4 a5 := by
    have mb := (abs_le_sq (x := m) (B := 4900000000) (by omega) (by omega))
    have t0 := bdm he0 c0
    have t1 := bdm he1 c1
    have t2 := bdm he2 c2
    have u0 := bdm (show -4900000000 ≤ s0 ∧ s0 ≤ 4900000000 by omega) c0
    have u1 := bdm (show -4900000000 ≤ s1 ∧ s1 ≤ 4900000000 by omega) c1
    have u2 := bdm (show -4900000000 ≤ s2 ∧ s2 ≤ 4900000000 by omega) c2
    have j0' : m * oY0 a0 a1 a2 a3 a4 a5 a6 a7 a8 = (a3 - (pr (unV a0 a0 a1 a2) (dotZ a3 a4 a5 (unV a0 a0 a1 a2) (unV a1 a0 a1 a2) (unV a2 a0 a1 a2)))) * 4294967296 - s0 := by rw [← hR0]; exact j0
    have j1' : m * oY1 a0 a1 a2 a3 a4 a5 a6 a7 a8 = (a4 - (pr (unV a1 a0 a1 a2) (dotZ a3 a4 a5 (unV a0 a0 a1 a2) (unV a1 a0 a1 a2) (unV a2 a0 a1 a2)))) * 4294967296 - s1 := by rw [← hR1]; exact j1
    have j2' : m * oY2 a0 a1 a2 a3 a4 a5 a6 a7 a8 = (a5 - (pr (unV a2 a0 a1 a2) (dotZ a3 a4 a5 (unV a0 a0 a1 a2) (unV a1 a0 a1 a2) (unV a2 a0 a1 a2)))) * 4294967296 - s2 := by rw [← hR2]; exact j2
    generalize (pr (unV a0 a0 a1 a2) (dotZ a3 a4 a5 (unV a0 a0 a1 a2) (unV a1 a0 a1 a2) (unV a2 a0 a1 a2))) = E0 at *
    generalize (pr (unV a1 a0 a1 a2) (dotZ a3 a4 a5 (unV a0 a0 a1 a2) (unV a1 a0 a1 a2) (unV a2 a0 a1 a2))) = E1 at *
    generalize (pr (unV a2 a0 a1 a2) (dotZ a3 a4 a5 (unV a0 a0 a1 a2) (unV a1 a0 a1 a2) (unV a2 a0 a1 a2))) = E2 at *
    have key : m * dot3 (oY0 a0 a1 a2 a3 a4 a5 a6 a7 a8) (oY1 a0 a1 a2 a3 a4 a5 a6 a7 a8) (oY2 a0 a1 a2 a3 a4 a5 a6 a7 a8) a3 a4 a5 = 4294967296 * (dot3 a3 a4 a5 a3 a4 a5 - (E0 * a3 + E1 * a4 + E2 * a5)) - (s0 * a3 + s1 * a4 + s2 * a5) := by
      have : m * dot3 (oY0 a0 a1 a2 a3 a4 a5 a6 a7 a8) (oY1 a0 a1 a2 a3 a4 a5 a6 a7 a8) (oY2 a0 a1 a2 a3 a4 a5 a6 a7 a8) a3 a4 a5 = (m * oY0 a0 a1 a2 a3 a4 a5 a6 a7 a8) * a3 + (m * oY1 a0 a1 a2 a3 a4 a5 a6 a7 a8) * a4 + (m * oY2 a0 a1 a2 a3 a4 a5 a6 a7 a8) * a5 := by unfold dot3; grind
      rw [this, j0', j1', j2']
      unfold dot3; grind
    have hpos : 0 < m * dot3 (oY0 a0 a1 a2 a3 a4 a5 a6 a7 a8) (oY1 a0 a1 a2 a3 a4 a5 a6 a7 a8) (oY2 a0 a1 a2 a3 a4 a5 a6 a7 a8) a3 a4 a5 := by omega
    rcases Int.lt_or_le 0 (dot3 (oY0 a0 a1 a2 a3 a4 a5 a6 a7 a8) (oY1 a0 a1 a2 a3 a4 a5 a6 a7 a8) (oY2 a0 a1 a2 a3 a4 a5 a6 a7 a8) a3 a4 a5) with hl | hl
    · exact hl
    · have := Int.mul_nonpos_of_nonneg_of_nonpos (show 0 ≤ m by omega) hl
      omega
  have hzx' := dot3_comm (oZ0 a0 a1 a2 a3 a4 a5 a6 a7 a8) (oZ1 a0 a1 a2 a3 a4 a5 a6 a7 a8) (oZ2 a0 a1 a2 a3 a4 a5 a6 a7 a8) (unV a0 a0 a1 a2) (unV a1 a0 a1 a2) (unV a2 a0 a1 a2)
  have hzy' := dot3_comm (oZ0 a0 a1 a2 a3 a4 a5 a6 a7 a8) (oZ1 a0 a1 a2 a3 a4 a5 a6 a7 a8) (oZ2 a0 a1 a2 a3 a4 a5 a6 a7 a8) (oY0 a0 a1 a2 a3 a4 a5 a6 a7 a8) (oY1 a0 a1 a2 a3 a4 a5 a6 a7 a8) (oY2 a0 a1 a2 a3 a4 a5 a6 a7 a8)
  refine ⟨hC, ⟨?_, ?_, ?_, ?_, ?_, ?_⟩, by omega, by omega, by omega, by omega, by omega, by omega, by omega, by omega, by omega, n, r0, r1, r2, hn, n1, n2, ⟨g0, g1, g2⟩, k0, k1, k2, hyb⟩ <;> omega
/-- numbers in three rows -/
structure Mt where
  a0 : Int
  a1 : Int
  a2 : Int
  a3 : Int
  a4 : Int
  a5 : Int
  a6 : Int
  a7 : Int
  a8 : Int
def sameM : Mt := ⟨4294967296, 0, 0, 0, 4294967296, 0, 0, 0, 4294967296⟩
def mulM (A B : Mt) : Mt := ⟨clipV (dotZ A.a0 A.a1 A.a2 B.a0 B.a3 B.a6), clipV (dotZ A.a0 A.a1 A.a2 B.a1 B.a4 B.a7), clipV (dotZ A.a0 A.a1 A.a2 B.a2 B.a5 B.a8), clipV (dotZ A.a3 A.a4 A.a5 B.a0 B.a3 B.a6), clipV (dotZ A.a3 A.a4 A.a5 B.a1 B.a4 B.a7), clipV (dotZ A.a3 A.a4 A.a5 B.a2 B.a5 B.a8), clipV (dotZ A.a6 A.a7 A.a8 B.a0 B.a3 B.a6), clipV (dotZ A.a6 A.a7 A.a8 B.a1 B.a4 B.a7), clipV (dotZ A.a6 A.a7 A.a8 B.a2 B.a5 B.a8)⟩
def mulK (A B : Mt) : Bool := ((clipC (dotZ A.a0 A.a1 A.a2 B.a0 B.a3 B.a6) || clipC (dotZ A.a0 A.a1 A.a2 B.a1 B.a4 B.a7) || clipC (dotZ A.a0 A.a1 A.a2 B.a2 B.a5 B.a8)) || (clipC (dotZ A.a3 A.a4 A.a5 B.a0 B.a3 B.a6) || clipC (dotZ A.a3 A.a4 A.a5 B.a1 B.a4 B.a7) || clipC (dotZ A.a3 A.a4 A.a5 B.a2 B.a5 B.a8)) || (clipC (dotZ A.a6 A.a7 A.a8 B.a0 B.a3 B.a6) || clipC (dotZ A.a6 A.a7 A.a8 B.a1 B.a4 B.a7) || clipC (dotZ A.a6 A.a7 A.a8 B.a2 B.a5 B.a8)))
def abM (k : Nat) (x : Int) : Mt := match k with
  | 0 => ⟨4294967296, 0, 0, 0, (bothC x), (-bothS x), 0, (bothS x), (bothC x)⟩
  | 1 => ⟨(bothC x), 0, (bothS x), 0, 4294967296, 0, (-bothS x), 0, (bothC x)⟩
  | _ => ⟨(bothC x), (-bothS x), 0, (bothS x), (bothC x), 0, 0, 0, 4294967296⟩
noncomputable def upM (A : Mt) : Mt := ⟨ort0 A.a0 A.a1 A.a2 A.a3 A.a4 A.a5 A.a6 A.a7 A.a8, ort1 A.a0 A.a1 A.a2 A.a3 A.a4 A.a5 A.a6 A.a7 A.a8, ort2 A.a0 A.a1 A.a2 A.a3 A.a4 A.a5 A.a6 A.a7 A.a8, ort3 A.a0 A.a1 A.a2 A.a3 A.a4 A.a5 A.a6 A.a7 A.a8, ort4 A.a0 A.a1 A.a2 A.a3 A.a4 A.a5 A.a6 A.a7 A.a8, ort5 A.a0 A.a1 A.a2 A.a3 A.a4 A.a5 A.a6 A.a7 A.a8, ort6 A.a0 A.a1 A.a2 A.a3 A.a4 A.a5 A.a6 A.a7 A.a8, ort7 A.a0 A.a1 A.a2 A.a3 A.a4 A.a5 A.a6 A.a7 A.a8, ort8 A.a0 A.a1 A.a2 A.a3 A.a4 A.a5 A.a6 A.a7 A.a8⟩
def offM (A : Mt) : Int := off9 A.a0 A.a1 A.a2 A.a3 A.a4 A.a5 A.a6 A.a7 A.a8
/-- nearly upright -/
def NearM (E : Int) (A : Mt) : Prop := RowsE E A.a0 A.a1 A.a2 A.a3 A.a4 A.a5 A.a6 A.a7 A.a8
theorem near_bd {E : Int} {A : Mt} (hE : E ≤ 232000000000000) (h : NearM E A) : (-4300000000 ≤ A.a0 ∧ A.a0 ≤ 4300000000) ∧ (-4300000000 ≤ A.a1 ∧ A.a1 ≤ 4300000000) ∧ (-4300000000 ≤ A.a2 ∧ A.a2 ≤ 4300000000) ∧ (-4300000000 ≤ A.a3 ∧ A.a3 ≤ 4300000000) ∧ (-4300000000 ≤ A.a4 ∧ A.a4 ≤ 4300000000) ∧ (-4300000000 ≤ A.a5 ∧ A.a5 ≤ 4300000000) ∧ (-4300000000 ≤ A.a6 ∧ A.a6 ≤ 4300000000) ∧ (-4300000000 ≤ A.a7 ∧ A.a7 ≤ 4300000000) ∧ (-4300000000 ≤ A.a8 ∧ A.a8 ≤ 4300000000) := by
  obtain ⟨h0, h1, h2, _, _, _⟩ := h
  unfold dot3 at h0 h1 h2
  have s0 := sq_nn A.a0
  have s1 := sq_nn A.a1
  have s2 := sq_nn A.a2
  have s3 := sq_nn A.a3
  have s4 := sq_nn A.a4
  have s5 := sq_nn A.a5
  have s6 := sq_nn A.a6
  have s7 := sq_nn A.a7
  have s8 := sq_nn A.a8
  refine ⟨abs_le_sq (by omega) (by omega), abs_le_sq (by omega) (by omega), abs_le_sq (by omega) (by omega), abs_le_sq (by omega) (by omega), abs_le_sq (by omega) (by omega), abs_le_sq (by omega) (by omega), abs_le_sq (by omega) (by omega), abs_le_sq (by omega) (by omega), abs_le_sq (by omega) (by omega)⟩
theorem tw {x y p q x' y' p' q' c s : Int} (bx : -4300000000 ≤ x ∧ x ≤ 4300000000) (b_y : -4300000000 ≤ y ∧ y ≤ 4300000000) (bx' : -4300000000 ≤ x' ∧ x' ≤ 4300000000) (b_y' : -4300000000 ≤ y' ∧ y' ≤ 4300000000) (bc : -4294967296 ≤ c ∧ c ≤ 4294967296) (bs : -4294967296 ≤ s ∧ s ≤ 4294967296) (hl : -2300000000000 ≤ c * c + s * s - 18446744073709551616 ∧ c * c + s * s - 18446744073709551616 ≤ 2300000000000)
    (hp : -6442450944 ≤ 4294967296 * p - (x * c + y * s) ∧ 4294967296 * p - (x * c + y * s) ≤ 6442450944) (hq : -6442450944 ≤ 4294967296 * q - (y * c - x * s) ∧ 4294967296 * q - (y * c - x * s) ≤ 6442450944) (hp' : -6442450944 ≤ 4294967296 * p' - (x' * c + y' * s) ∧ 4294967296 * p' - (x' * c + y' * s) ≤ 6442450944) (hq' : -6442450944 ≤ 4294967296 * q' - (y' * c - x' * s) ∧ 4294967296 * q' - (y' * c - x' * s) ≤ 6442450944) :
    -4767413698560 ≤ p * p' + q * q' - (x * x' + y * y') ∧ p * p' + q * q' - (x * x' + y * y') ≤ 4767413698560 := by
  have u0 := bdm bx bc
  have u1 := bdm bx bs
  have u2 := bdm b_y bc
  have u3 := bdm b_y bs
  have v0 := bdm bx' bc
  have v1 := bdm bx' bs
  have v2 := bdm b_y' bc
  have v3 := bdm b_y' bs
  have m1 := bdm bx bx'
  have m2 := bdm b_y b_y'
  have m3 := bdm (x := x * x' + y * y') (A := 36980000000000000000) (by omega) hl
  have n1 := bdm (x := x * c + y * s) (A := 36936718745600000000) (by omega) hp'
  have n2 := bdm hp (y := x' * c + y' * s) (B := 36936718745600000000) (by omega)
  have n3 := bdm hp hp'
  have n4 := bdm (x := y * c - x * s) (A := 36936718745600000000) (by omega) hq'
  have n5 := bdm hq (y := y' * c - x' * s) (B := 36936718745600000000) (by omega)
  have n6 := bdm hq hq'
  have key : 18446744073709551616 * (p * p' + q * q') = 18446744073709551616 * (x * x' + y * y') + (x * x' + y * y') * (c * c + s * s - 18446744073709551616) + ((x * c + y * s) * (4294967296 * p' - (x' * c + y' * s)) + (4294967296 * p - (x * c + y * s)) * (x' * c + y' * s) + (4294967296 * p - (x * c + y * s)) * (4294967296 * p' - (x' * c + y' * s))) + ((y * c - x * s) * (4294967296 * q' - (y' * c - x' * s)) + (4294967296 * q - (y * c - x * s)) * (y' * c - x' * s) + (4294967296 * q - (y * c - x * s)) * (4294967296 * q' - (y' * c - x' * s))) := by grind
  omega
theorem near_mul0 {E x : Int} {A : Mt} (hE : E ≤ 226000000000000) (h : NearM E A) (hx : 0 ≤ x ∧ x < 4294967296) : NearM (E + 4767413698560) (mulM A (abM 0 x)) ∧ mulK A (abM 0 x) = false := by
  have hb := near_bd (by omega) h
  obtain ⟨b0, b1, b2, b3, b4, b5, b6, b7, b8⟩ := hb
  obtain ⟨h00, h11, h22, h01, h02, h12⟩ := h
  have hl : -2300000000000 ≤ bothC x * bothC x + bothS x * bothS x - 18446744073709551616 ∧ bothC x * bothC x + bothS x * bothS x - 18446744073709551616 ≤ 2300000000000 := by have := Cx.both_len hx; omega
  obtain ⟨⟨c1, c2⟩, s1, s2⟩ := both_bd x
  have u0 := bdm b1 (show -4294967296 ≤ bothC x ∧ bothC x ≤ 4294967296 from ⟨c1, c2⟩)
  have v0 := bdm b1 (show -4294967296 ≤ bothS x ∧ bothS x ≤ 4294967296 from ⟨s1, s2⟩)
  have w0 := bdm b2 (show -4294967296 ≤ bothC x ∧ bothC x ≤ 4294967296 from ⟨c1, c2⟩)
  have y0 := bdm b2 (show -4294967296 ≤ bothS x ∧ bothS x ≤ 4294967296 from ⟨s1, s2⟩)
  have z0 := dot_rd A.a0 A.a1 A.a2 4294967296 0 0
  have z1 := dot_rd A.a0 A.a1 A.a2 0 (bothC x) (bothS x)
  have z2 := dot_rd A.a0 A.a1 A.a2 0 (-bothS x) (bothC x)
  have x0 := (dot_0 A.a0 A.a1 A.a2).2
  have u1 := bdm b4 (show -4294967296 ≤ bothC x ∧ bothC x ≤ 4294967296 from ⟨c1, c2⟩)
  have v1 := bdm b4 (show -4294967296 ≤ bothS x ∧ bothS x ≤ 4294967296 from ⟨s1, s2⟩)
  have w1 := bdm b5 (show -4294967296 ≤ bothC x ∧ bothC x ≤ 4294967296 from ⟨c1, c2⟩)
  have y1 := bdm b5 (show -4294967296 ≤ bothS x ∧ bothS x ≤ 4294967296 from ⟨s1, s2⟩)
  have z3 := dot_rd A.a3 A.a4 A.a5 4294967296 0 0
  have z4 := dot_rd A.a3 A.a4 A.a5 0 (bothC x) (bothS x)
  have z5 := dot_rd A.a3 A.a4 A.a5 0 (-bothS x) (bothC x)
  have x1 := (dot_0 A.a3 A.a4 A.a5).2
  have u2 := bdm b7 (show -4294967296 ≤ bothC x ∧ bothC x ≤ 4294967296 from ⟨c1, c2⟩)
  have v2 := bdm b7 (show -4294967296 ≤ bothS x ∧ bothS x ≤ 4294967296 from ⟨s1, s2⟩)
  have w2 := bdm b8 (show -4294967296 ≤ bothC x ∧ bothC x ≤ 4294967296 from ⟨c1, c2⟩)
  have y2 := bdm b8 (show -4294967296 ≤ bothS x ∧ bothS x ≤ 4294967296 from ⟨s1, s2⟩)
  have z6 := dot_rd A.a6 A.a7 A.a8 4294967296 0 0
  have z7 := dot_rd A.a6 A.a7 A.a8 0 (bothC x) (bothS x)
  have z8 := dot_rd A.a6 A.a7 A.a8 0 (-bothS x) (bothC x)
  have x2 := (dot_0 A.a6 A.a7 A.a8).2
  have e1 : ∀ y : Int, y * -bothS x = -(y * bothS x) := fun y => Int.mul_neg _ _
  simp only [dot3, Int.mul_zero, Int.zero_add, Int.add_zero, e1] at z1 z2 z4 z5 z7 z8
  have d0 : -100000000000 ≤ dotZ A.a0 A.a1 A.a2 4294967296 0 0 ∧ dotZ A.a0 A.a1 A.a2 4294967296 0 0 ≤ 100000000000 := by omega
  obtain ⟨f0, g0⟩ := clip_sm d0
  have d1 : -100000000000 ≤ dotZ A.a0 A.a1 A.a2 0 (bothC x) (bothS x) ∧ dotZ A.a0 A.a1 A.a2 0 (bothC x) (bothS x) ≤ 100000000000 := by omega
  obtain ⟨f1, g1⟩ := clip_sm d1
  have d2 : -100000000000 ≤ dotZ A.a0 A.a1 A.a2 0 (-bothS x) (bothC x) ∧ dotZ A.a0 A.a1 A.a2 0 (-bothS x) (bothC x) ≤ 100000000000 := by omega
  obtain ⟨f2, g2⟩ := clip_sm d2
  have d3 : -100000000000 ≤ dotZ A.a3 A.a4 A.a5 4294967296 0 0 ∧ dotZ A.a3 A.a4 A.a5 4294967296 0 0 ≤ 100000000000 := by omega
  obtain ⟨f3, g3⟩ := clip_sm d3
  have d4 : -100000000000 ≤ dotZ A.a3 A.a4 A.a5 0 (bothC x) (bothS x) ∧ dotZ A.a3 A.a4 A.a5 0 (bothC x) (bothS x) ≤ 100000000000 := by omega
  obtain ⟨f4, g4⟩ := clip_sm d4
  have d5 : -100000000000 ≤ dotZ A.a3 A.a4 A.a5 0 (-bothS x) (bothC x) ∧ dotZ A.a3 A.a4 A.a5 0 (-bothS x) (bothC x) ≤ 100000000000 := by omega
  obtain ⟨f5, g5⟩ := clip_sm d5
  have d6 : -100000000000 ≤ dotZ A.a6 A.a7 A.a8 4294967296 0 0 ∧ dotZ A.a6 A.a7 A.a8 4294967296 0 0 ≤ 100000000000 := by omega
  obtain ⟨f6, g6⟩ := clip_sm d6
  have d7 : -100000000000 ≤ dotZ A.a6 A.a7 A.a8 0 (bothC x) (bothS x) ∧ dotZ A.a6 A.a7 A.a8 0 (bothC x) (bothS x) ≤ 100000000000 := by omega
  obtain ⟨f7, g7⟩ := clip_sm d7
  have d8 : -100000000000 ≤ dotZ A.a6 A.a7 A.a8 0 (-bothS x) (bothC x) ∧ dotZ A.a6 A.a7 A.a8 0 (-bothS x) (bothC x) ≤ 100000000000 := by omega
  obtain ⟨f8, g8⟩ := clip_sm d8
  have hM : mulM A (abM 0 x) = ⟨A.a0, dotZ A.a0 A.a1 A.a2 0 (bothC x) (bothS x), dotZ A.a0 A.a1 A.a2 0 (-bothS x) (bothC x), A.a3, dotZ A.a3 A.a4 A.a5 0 (bothC x) (bothS x), dotZ A.a3 A.a4 A.a5 0 (-bothS x) (bothC x), A.a6, dotZ A.a6 A.a7 A.a8 0 (bothC x) (bothS x), dotZ A.a6 A.a7 A.a8 0 (-bothS x) (bothC x)⟩ := by
    show (⟨clipV (dotZ A.a0 A.a1 A.a2 4294967296 0 0), clipV (dotZ A.a0 A.a1 A.a2 0 (bothC x) (bothS x)), clipV (dotZ A.a0 A.a1 A.a2 0 (-bothS x) (bothC x)), clipV (dotZ A.a3 A.a4 A.a5 4294967296 0 0), clipV (dotZ A.a3 A.a4 A.a5 0 (bothC x) (bothS x)), clipV (dotZ A.a3 A.a4 A.a5 0 (-bothS x) (bothC x)), clipV (dotZ A.a6 A.a7 A.a8 4294967296 0 0), clipV (dotZ A.a6 A.a7 A.a8 0 (bothC x) (bothS x)), clipV (dotZ A.a6 A.a7 A.a8 0 (-bothS x) (bothC x))⟩ : Mt) = _
    rw [f0, f1, f2, f3, f4, f5, f6, f7, f8, x0, x1, x2]
  have hK : mulK A (abM 0 x) = false := by
    show ((clipC (dotZ A.a0 A.a1 A.a2 4294967296 0 0) || clipC (dotZ A.a0 A.a1 A.a2 0 (bothC x) (bothS x)) || clipC (dotZ A.a0 A.a1 A.a2 0 (-bothS x) (bothC x))) || (clipC (dotZ A.a3 A.a4 A.a5 4294967296 0 0) || clipC (dotZ A.a3 A.a4 A.a5 0 (bothC x) (bothS x)) || clipC (dotZ A.a3 A.a4 A.a5 0 (-bothS x) (bothC x))) || (clipC (dotZ A.a6 A.a7 A.a8 4294967296 0 0) || clipC (dotZ A.a6 A.a7 A.a8 0 (bothC x) (bothS x)) || clipC (dotZ A.a6 A.a7 A.a8 0 (-bothS x) (bothC x)))) = false
    rw [g0, g1, g2, g3, g4, g5, g6, g7, g8]
    rfl
  refine ⟨?_, hK⟩
  rw [hM]
  generalize hp0 : dotZ A.a0 A.a1 A.a2 0 (bothC x) (bothS x) = p0 at *
  generalize hq0 : dotZ A.a0 A.a1 A.a2 0 (-bothS x) (bothC x) = q0 at *
  generalize hp1 : dotZ A.a3 A.a4 A.a5 0 (bothC x) (bothS x) = p1 at *
  generalize hq1 : dotZ A.a3 A.a4 A.a5 0 (-bothS x) (bothC x) = q1 at *
  generalize hp2 : dotZ A.a6 A.a7 A.a8 0 (bothC x) (bothS x) = p2 at *
  generalize hq2 : dotZ A.a6 A.a7 A.a8 0 (-bothS x) (bothC x) = q2 at *
  generalize bothC x = c at *
  generalize bothS x = s at *
  have k00 : -(E + 4767413698560) ≤ dot3 A.a0 p0 q0 A.a0 p0 q0 - 18446744073709551616 ∧ dot3 A.a0 p0 q0 A.a0 p0 q0 - 18446744073709551616 ≤ E + 4767413698560 := by
    have := tw b1 b2 b1 b2 ⟨c1, c2⟩ ⟨s1, s2⟩ hl (p := p0) (q := q0) (p' := p0) (q' := q0) (by omega) (by omega) (by omega) (by omega)
    unfold dot3 at *; omega
  have k11 : -(E + 4767413698560) ≤ dot3 A.a3 p1 q1 A.a3 p1 q1 - 18446744073709551616 ∧ dot3 A.a3 p1 q1 A.a3 p1 q1 - 18446744073709551616 ≤ E + 4767413698560 := by
    have := tw b4 b5 b4 b5 ⟨c1, c2⟩ ⟨s1, s2⟩ hl (p := p1) (q := q1) (p' := p1) (q' := q1) (by omega) (by omega) (by omega) (by omega)
    unfold dot3 at *; omega
  have k22 : -(E + 4767413698560) ≤ dot3 A.a6 p2 q2 A.a6 p2 q2 - 18446744073709551616 ∧ dot3 A.a6 p2 q2 A.a6 p2 q2 - 18446744073709551616 ≤ E + 4767413698560 := by
    have := tw b7 b8 b7 b8 ⟨c1, c2⟩ ⟨s1, s2⟩ hl (p := p2) (q := q2) (p' := p2) (q' := q2) (by omega) (by omega) (by omega) (by omega)
    unfold dot3 at *; omega
  have k01 : -(E + 4767413698560) ≤ dot3 A.a0 p0 q0 A.a3 p1 q1 - 0 ∧ dot3 A.a0 p0 q0 A.a3 p1 q1 - 0 ≤ E + 4767413698560 := by
    have := tw b1 b2 b4 b5 ⟨c1, c2⟩ ⟨s1, s2⟩ hl (p := p0) (q := q0) (p' := p1) (q' := q1) (by omega) (by omega) (by omega) (by omega)
    unfold dot3 at *; omega
  have k02 : -(E + 4767413698560) ≤ dot3 A.a0 p0 q0 A.a6 p2 q2 - 0 ∧ dot3 A.a0 p0 q0 A.a6 p2 q2 - 0 ≤ E + 4767413698560 := by
    have := tw b1 b2 b7 b8 ⟨c1, c2⟩ ⟨s1, s2⟩ hl (p := p0) (q := q0) (p' := p2) (q' := q2) (by omega) (by omega) (by omega) (by omega)
    unfold dot3 at *; omega
  have k12 : -(E + 4767413698560) ≤ dot3 A.a3 p1 q1 A.a6 p2 q2 - 0 ∧ dot3 A.a3 p1 q1 A.a6 p2 q2 - 0 ≤ E + 4767413698560 := by
    have := tw b4 b5 b7 b8 ⟨c1, c2⟩ ⟨s1, s2⟩ hl (p := p1) (q := q1) (p' := p2) (q' := q2) (by omega) (by omega) (by omega) (by omega)
    unfold dot3 at *; omega
  exact ⟨k00, k11, k22, k01, k02, k12⟩
theorem near_mul1 {E x : Int} {A : Mt} (hE : E ≤ 226000000000000) (h : NearM E A) (hx : 0 ≤ x ∧ x < 4294967296) : NearM (E + 4767413698560) (mulM A (abM 1 x)) ∧ mulK A (abM 1 x) = false := by
  have hb := near_bd (by omega) h
  obtain ⟨b0, b1, b2, b3, b4, b5, b6, b7, b8⟩ := hb
  obtain ⟨h00, h11, h22, h01, h02, h12⟩ := h
  have hl : -2300000000000 ≤ bothC x * bothC x + bothS x * bothS x - 18446744073709551616 ∧ bothC x * bothC x + bothS x * bothS x - 18446744073709551616 ≤ 2300000000000 := by have := Cx.both_len hx; omega
  obtain ⟨⟨c1, c2⟩, s1, s2⟩ := both_bd x
  have u0 := bdm b2 (show -4294967296 ≤ bothC x ∧ bothC x ≤ 4294967296 from ⟨c1, c2⟩)
  have v0 := bdm b2 (show -4294967296 ≤ bothS x ∧ bothS x ≤ 4294967296 from ⟨s1, s2⟩)
  have w0 := bdm b0 (show -4294967296 ≤ bothC x ∧ bothC x ≤ 4294967296 from ⟨c1, c2⟩)
  have y0 := bdm b0 (show -4294967296 ≤ bothS x ∧ bothS x ≤ 4294967296 from ⟨s1, s2⟩)
  have z0 := dot_rd A.a0 A.a1 A.a2 (bothC x) 0 (-bothS x)
  have z1 := dot_rd A.a0 A.a1 A.a2 0 4294967296 0
  have z2 := dot_rd A.a0 A.a1 A.a2 (bothS x) 0 (bothC x)
  have x0 := (dot_1 A.a0 A.a1 A.a2).2
  have u1 := bdm b5 (show -4294967296 ≤ bothC x ∧ bothC x ≤ 4294967296 from ⟨c1, c2⟩)
  have v1 := bdm b5 (show -4294967296 ≤ bothS x ∧ bothS x ≤ 4294967296 from ⟨s1, s2⟩)
  have w1 := bdm b3 (show -4294967296 ≤ bothC x ∧ bothC x ≤ 4294967296 from ⟨c1, c2⟩)
  have y1 := bdm b3 (show -4294967296 ≤ bothS x ∧ bothS x ≤ 4294967296 from ⟨s1, s2⟩)
  have z3 := dot_rd A.a3 A.a4 A.a5 (bothC x) 0 (-bothS x)
  have z4 := dot_rd A.a3 A.a4 A.a5 0 4294967296 0
  have z5 := dot_rd A.a3 A.a4 A.a5 (bothS x) 0 (bothC x)
  have x1 := (dot_1 A.a3 A.a4 A.a5).2
  have u2 := bdm b8 (show -4294967296 ≤ bothC x ∧ bothC x ≤ 4294967296 from ⟨c1, c2⟩)
  have v2 := bdm b8 (show -4294967296 ≤ bothS x ∧ bothS x ≤ 4294967296 from ⟨s1, s2⟩)
  have w2 := bdm b6 (show -4294967296 ≤ bothC x ∧ bothC x ≤ 4294967296 from ⟨c1, c2⟩)
  have y2 := bdm b6 (show -4294967296 ≤ bothS x ∧ bothS x ≤ 4294967296 from ⟨s1, s2⟩)
  have z6 := dot_rd A.a6 A.a7 A.a8 (bothC x) 0 (-bothS x)
  have z7 := dot_rd A.a6 A.a7 A.a8 0 4294967296 0
  have z8 := dot_rd A.a6 A.a7 A.a8 (bothS x) 0 (bothC x)
  have x2 := (dot_1 A.a6 A.a7 A.a8).2
  have e1 : ∀ y : Int, y * -bothS x = -(y * bothS x) := fun y => Int.mul_neg _ _
  simp only [dot3, Int.mul_zero, Int.zero_add, Int.add_zero, e1] at z2 z0 z5 z3 z8 z6
  have d0 : -100000000000 ≤ dotZ A.a0 A.a1 A.a2 (bothC x) 0 (-bothS x) ∧ dotZ A.a0 A.a1 A.a2 (bothC x) 0 (-bothS x) ≤ 100000000000 := by omega
  obtain ⟨f0, g0⟩ := clip_sm d0
  have d1 : -100000000000 ≤ dotZ A.a0 A.a1 A.a2 0 4294967296 0 ∧ dotZ A.a0 A.a1 A.a2 0 4294967296 0 ≤ 100000000000 := by omega
  obtain ⟨f1, g1⟩ := clip_sm d1
  have d2 : -100000000000 ≤ dotZ A.a0 A.a1 A.a2 (bothS x) 0 (bothC x) ∧ dotZ A.a0 A.a1 A.a2 (bothS x) 0 (bothC x) ≤ 100000000000 := by omega
  obtain ⟨f2, g2⟩ := clip_sm d2
  have d3 : -100000000000 ≤ dotZ A.a3 A.a4 A.a5 (bothC x) 0 (-bothS x) ∧ dotZ A.a3 A.a4 A.a5 (bothC x) 0 (-bothS x) ≤ 100000000000 := by omega
  obtain ⟨f3, g3⟩ := clip_sm d3
  have d4 : -100000000000 ≤ dotZ A.a3 A.a4 A.a5 0 4294967296 0 ∧ dotZ A.a3 A.a4 A.a5 0 4294967296 0 ≤ 100000000000 := by omega
  obtain ⟨f4, g4⟩ := clip_sm d4
  have d5 : -100000000000 ≤ dotZ A.a3 A.a4 A.a5 (bothS x) 0 (bothC x) ∧ dotZ A.a3 A.a4 A.a5 (bothS x) 0 (bothC x) ≤ 100000000000 := by omega
  obtain ⟨f5, g5⟩ := clip_sm d5
  have d6 : -100000000000 ≤ dotZ A.a6 A.a7 A.a8 (bothC x) 0 (-bothS x) ∧ dotZ A.a6 A.a7 A.a8 (bothC x) 0 (-bothS x) ≤ 100000000000 := by omega
  obtain ⟨f6, g6⟩ := clip_sm d6
  have d7 : -100000000000 ≤ dotZ A.a6 A.a7 A.a8 0 4294967296 0 ∧ dotZ A.a6 A.a7 A.a8 0 4294967296 0 ≤ 100000000000 := by omega
  obtain ⟨f7, g7⟩ := clip_sm d7
  have d8 : -100000000000 ≤ dotZ A.a6 A.a7 A.a8 (bothS x) 0 (bothC x) ∧ dotZ A.a6 A.a7 A.a8 (bothS x) 0 (bothC x) ≤ 100000000000 := by omega
  obtain ⟨f8, g8⟩ := clip_sm d8
  have hM : mulM A (abM 1 x) = ⟨dotZ A.a0 A.a1 A.a2 (bothC x) 0 (-bothS x), A.a1, dotZ A.a0 A.a1 A.a2 (bothS x) 0 (bothC x), dotZ A.a3 A.a4 A.a5 (bothC x) 0 (-bothS x), A.a4, dotZ A.a3 A.a4 A.a5 (bothS x) 0 (bothC x), dotZ A.a6 A.a7 A.a8 (bothC x) 0 (-bothS x), A.a7, dotZ A.a6 A.a7 A.a8 (bothS x) 0 (bothC x)⟩ := by
    show (⟨clipV (dotZ A.a0 A.a1 A.a2 (bothC x) 0 (-bothS x)), clipV (dotZ A.a0 A.a1 A.a2 0 4294967296 0), clipV (dotZ A.a0 A.a1 A.a2 (bothS x) 0 (bothC x)), clipV (dotZ A.a3 A.a4 A.a5 (bothC x) 0 (-bothS x)), clipV (dotZ A.a3 A.a4 A.a5 0 4294967296 0), clipV (dotZ A.a3 A.a4 A.a5 (bothS x) 0 (bothC x)), clipV (dotZ A.a6 A.a7 A.a8 (bothC x) 0 (-bothS x)), clipV (dotZ A.a6 A.a7 A.a8 0 4294967296 0), clipV (dotZ A.a6 A.a7 A.a8 (bothS x) 0 (bothC x))⟩ : Mt) = _
    rw [f0, f1, f2, f3, f4, f5, f6, f7, f8, x0, x1, x2]
  have hK : mulK A (abM 1 x) = false := by
    show ((clipC (dotZ A.a0 A.a1 A.a2 (bothC x) 0 (-bothS x)) || clipC (dotZ A.a0 A.a1 A.a2 0 4294967296 0) || clipC (dotZ A.a0 A.a1 A.a2 (bothS x) 0 (bothC x))) || (clipC (dotZ A.a3 A.a4 A.a5 (bothC x) 0 (-bothS x)) || clipC (dotZ A.a3 A.a4 A.a5 0 4294967296 0) || clipC (dotZ A.a3 A.a4 A.a5 (bothS x) 0 (bothC x))) || (clipC (dotZ A.a6 A.a7 A.a8 (bothC x) 0 (-bothS x)) || clipC (dotZ A.a6 A.a7 A.a8 0 4294967296 0) || clipC (dotZ A.a6 A.a7 A.a8 (bothS x) 0 (bothC x)))) = false
    rw [g0, g1, g2, g3, g4, g5, g6, g7, g8]
    rfl
  refine ⟨?_, hK⟩
  rw [hM]
  generalize hp0 : dotZ A.a0 A.a1 A.a2 (bothS x) 0 (bothC x) = p0 at *
  generalize hq0 : dotZ A.a0 A.a1 A.a2 (bothC x) 0 (-bothS x) = q0 at *
  generalize hp1 : dotZ A.a3 A.a4 A.a5 (bothS x) 0 (bothC x) = p1 at *
  generalize hq1 : dotZ A.a3 A.a4 A.a5 (bothC x) 0 (-bothS x) = q1 at *
  generalize hp2 : dotZ A.a6 A.a7 A.a8 (bothS x) 0 (bothC x) = p2 at *
  generalize hq2 : dotZ A.a6 A.a7 A.a8 (bothC x) 0 (-bothS x) = q2 at *
  generalize bothC x = c at *
  generalize bothS x = s at *
  have k00 : -(E + 4767413698560) ≤ dot3 q0 A.a1 p0 q0 A.a1 p0 - 18446744073709551616 ∧ dot3 q0 A.a1 p0 q0 A.a1 p0 - 18446744073709551616 ≤ E + 4767413698560 := by
    have := tw b2 b0 b2 b0 ⟨c1, c2⟩ ⟨s1, s2⟩ hl (p := p0) (q := q0) (p' := p0) (q' := q0) (by omega) (by omega) (by omega) (by omega)
    unfold dot3 at *; omega
  have k11 : -(E + 4767413698560) ≤ dot3 q1 A.a4 p1 q1 A.a4 p1 - 18446744073709551616 ∧ dot3 q1 A.a4 p1 q1 A.a4 p1 - 18446744073709551616 ≤ E + 4767413698560 := by
    have := tw b5 b3 b5 b3 ⟨c1, c2⟩ ⟨s1, s2⟩ hl (p := p1) (q := q1) (p' := p1) (q' := q1) (by omega) (by omega) (by omega) (by omega)
    unfold dot3 at *; omega
  have k22 : -(E + 4767413698560) ≤ dot3 q2 A.a7 p2 q2 A.a7 p2 - 18446744073709551616 ∧ dot3 q2 A.a7 p2 q2 A.a7 p2 - 18446744073709551616 ≤ E + 4767413698560 := by
    have := tw b8 b6 b8 b6 ⟨c1, c2⟩ ⟨s1, s2⟩ hl (p := p2) (q := q2) (p' := p2) (q' := q2) (by omega) (by omega) (by omega) (by omega)
    unfold dot3 at *; omega
  have k01 : -(E + 4767413698560) ≤ dot3 q0 A.a1 p0 q1 A.a4 p1 - 0 ∧ dot3 q0 A.a1 p0 q1 A.a4 p1 - 0 ≤ E + 4767413698560 := by
    have := tw b2 b0 b5 b3 ⟨c1, c2⟩ ⟨s1, s2⟩ hl (p := p0) (q := q0) (p' := p1) (q' := q1) (by omega) (by omega) (by omega) (by omega)
    unfold dot3 at *; omega
  have k02 : -(E + 4767413698560) ≤ dot3 q0 A.a1 p0 q2 A.a7 p2 - 0 ∧ dot3 q0 A.a1 p0 q2 A.a7 p2 - 0 ≤ E + 4767413698560 := by
    have := tw b2 b0 b8 b6 ⟨c1, c2⟩ ⟨s1, s2⟩ hl (p := p0) (q := q0) (p' := p2) (q' := q2) (by omega) (by omega) (by omega) (by omega)
    unfold dot3 at *; omega
  have k12 : -(E + 4767413698560) ≤ dot3 q1 A.a4 p1 q2 A.a7 p2 - 0 ∧ dot3 q1 A.a4 p1 q2 A.a7 p2 - 0 ≤ E + 4767413698560 := by
    have := tw b5 b3 b8 b6 ⟨c1, c2⟩ ⟨s1, s2⟩ hl (p := p1) (q := q1) (p' := p2) (q' := q2) (by omega) (by omega) (by omega) (by omega)
    unfold dot3 at *; omega
  exact ⟨k00, k11, k22, k01, k02, k12⟩
theorem near_mul2 {E x : Int} {A : Mt} (hE : E ≤ 226000000000000) (h : NearM E A) (hx : 0 ≤ x ∧ x < 4294967296) : NearM (E + 4767413698560) (mulM A (abM 2 x)) ∧ mulK A (abM 2 x) = false := by
  have hb := near_bd (by omega) h
  obtain ⟨b0, b1, b2, b3, b4, b5, b6, b7, b8⟩ := hb
  obtain ⟨h00, h11, h22, h01, h02, h12⟩ := h
  have hl : -2300000000000 ≤ bothC x * bothC x + bothS x * bothS x - 18446744073709551616 ∧ bothC x * bothC x + bothS x * bothS x - 18446744073709551616 ≤ 2300000000000 := by have := Cx.both_len hx; omega
  obtain ⟨⟨c1, c2⟩, s1, s2⟩ := both_bd x
  have u0 := bdm b0 (show -4294967296 ≤ bothC x ∧ bothC x ≤ 4294967296 from ⟨c1, c2⟩)
  have v0 := bdm b0 (show -4294967296 ≤ bothS x ∧ bothS x ≤ 4294967296 from ⟨s1, s2⟩)
  have w0 := bdm b1 (show -4294967296 ≤ bothC x ∧ bothC x ≤ 4294967296 from ⟨c1, c2⟩)
  have y0 := bdm b1 (show -4294967296 ≤ bothS x ∧ bothS x ≤ 4294967296 from ⟨s1, s2⟩)
  have z0 := dot_rd A.a0 A.a1 A.a2 (bothC x) (bothS x) 0
  have z1 := dot_rd A.a0 A.a1 A.a2 (-bothS x) (bothC x) 0
  have z2 := dot_rd A.a0 A.a1 A.a2 0 0 4294967296
  have x0 := (dot_2 A.a0 A.a1 A.a2).2
  have u1 := bdm b3 (show -4294967296 ≤ bothC x ∧ bothC x ≤ 4294967296 from ⟨c1, c2⟩)
  have v1 := bdm b3 (show -4294967296 ≤ bothS x ∧ bothS x ≤ 4294967296 from ⟨s1, s2⟩)
  have w1 := bdm b4 (show -4294967296 ≤ bothC x ∧ bothC x ≤ 4294967296 from ⟨c1, c2⟩)
  have y1 := bdm b4 (show -4294967296 ≤ bothS x ∧ bothS x ≤ 4294967296 from ⟨s1, s2⟩)
  have z3 := dot_rd A.a3 A.a4 A.a5 (bothC x) (bothS x) 0
  have z4 := dot_rd A.a3 A.a4 A.a5 (-bothS x) (bothC x) 0
  have z5 := dot_rd A.a3 A.a4 A.a5 0 0 4294967296
  have x1 := (dot_2 A.a3 A.a4 A.a5).2
  have u2 := bdm b6 (show -4294967296 ≤ bothC x ∧ bothC x ≤ 4294967296 from ⟨c1, c2⟩)
  have v2 := bdm b6 (show -4294967296 ≤ bothS x ∧ bothS x ≤ 4294967296 from ⟨s1, s2⟩)
  have w2 := bdm b7 (show -4294967296 ≤ bothC x ∧ bothC x ≤ 4294967296 from ⟨c1, c2⟩)
  have y2 := bdm b7 (show -4294967296 ≤ bothS x ∧ bothS x ≤ 4294967296 from ⟨s1, s2⟩)
  have z6 := dot_rd A.a6 A.a7 A.a8 (bothC x) (bothS x) 0
  have z7 := dot_rd A.a6 A.a7 A.a8 (-bothS x) (bothC x) 0
  have z8 := dot_rd A.a6 A.a7 A.a8 0 0 4294967296
  have x2 := (dot_2 A.a6 A.a7 A.a8).2
  have e1 : ∀ y : Int, y * -bothS x = -(y * bothS x) := fun y => Int.mul_neg _ _
  simp only [dot3, Int.mul_zero, Int.zero_add, Int.add_zero, e1] at z0 z1 z3 z4 z6 z7
  have d0 : -100000000000 ≤ dotZ A.a0 A.a1 A.a2 (bothC x) (bothS x) 0 ∧ dotZ A.a0 A.a1 A.a2 (bothC x) (bothS x) 0 ≤ 100000000000 := by omega
  obtain ⟨f0, g0⟩ := clip_sm d0
  have d1 : -100000000000 ≤ dotZ A.a0 A.a1 A.a2 (-bothS x) (bothC x) 0 ∧ dotZ A.a0 A.a1 A.a2 (-bothS x) (bothC x) 0 ≤ 100000000000 := by omega
  obtain ⟨f1, g1⟩ := clip_sm d1
  have d2 : -100000000000 ≤ dotZ A.a0 A.a1 A.a2 0 0 4294967296 ∧ dotZ A.a0 A.a1 A.a2 0 0 4294967296 ≤ 100000000000 := by omega
  obtain ⟨f2, g2⟩ := clip_sm d2
  have d3 : -100000000000 ≤ dotZ A.a3 A.a4 A.a5 (bothC x) (bothS x) 0 ∧ dotZ A.a3 A.a4 A.a5 (bothC x) (bothS x) 0 ≤ 100000000000 := by omega
  obtain ⟨f3, g3⟩ := clip_sm d3
  have d4 : -100000000000 ≤ dotZ A.a3 A.a4 A.a5 (-bothS x) (bothC x) 0 ∧ dotZ A.a3 A.a4 A.a5 (-bothS x) (bothC x) 0 ≤ 100000000000 := by omega
  obtain ⟨f4, g4⟩ := clip_sm d4
  have d5 : -100000000000 ≤ dotZ A.a3 A.a4 A.a5 0 0 4294967296 ∧ dotZ A.a3 A.a4 A.a5 0 0 4294967296 ≤ 100000000000 := by omega
  obtain ⟨f5, g5⟩ := clip_sm d5
  have d6 : -100000000000 ≤ dotZ A.a6 A.a7 A.a8 (bothC x) (bothS x) 0 ∧ dotZ A.a6 A.a7 A.a8 (bothC x) (bothS x) 0 ≤ 100000000000 := by omega
  obtain ⟨f6, g6⟩ := clip_sm d6
  have d7 : -100000000000 ≤ dotZ A.a6 A.a7 A.a8 (-bothS x) (bothC x) 0 ∧ dotZ A.a6 A.a7 A.a8 (-bothS x) (bothC x) 0 ≤ 100000000000 := by omega
  obtain ⟨f7, g7⟩ := clip_sm d7
  have d8 : -100000000000 ≤ dotZ A.a6 A.a7 A.a8 0 0 4294967296 ∧ dotZ A.a6 A.a7 A.a8 0 0 4294967296 ≤ 100000000000 := by omega
  obtain ⟨f8, g8⟩ := clip_sm d8
  have hM : mulM A (abM 2 x) = ⟨dotZ A.a0 A.a1 A.a2 (bothC x) (bothS x) 0, dotZ A.a0 A.a1 A.a2 (-bothS x) (bothC x) 0, A.a2, dotZ A.a3 A.a4 A.a5 (bothC x) (bothS x) 0, dotZ A.a3 A.a4 A.a5 (-bothS x) (bothC x) 0, A.a5, dotZ A.a6 A.a7 A.a8 (bothC x) (bothS x) 0, dotZ A.a6 A.a7 A.a8 (-bothS x) (bothC x) 0, A.a8⟩ := by
    show (⟨clipV (dotZ A.a0 A.a1 A.a2 (bothC x) (bothS x) 0), clipV (dotZ A.a0 A.a1 A.a2 (-bothS x) (bothC x) 0), clipV (dotZ A.a0 A.a1 A.a2 0 0 4294967296), clipV (dotZ A.a3 A.a4 A.a5 (bothC x) (bothS x) 0), clipV (dotZ A.a3 A.a4 A.a5 (-bothS x) (bothC x) 0), clipV (dotZ A.a3 A.a4 A.a5 0 0 4294967296), clipV (dotZ A.a6 A.a7 A.a8 (bothC x) (bothS x) 0), clipV (dotZ A.a6 A.a7 A.a8 (-bothS x) (bothC x) 0), clipV (dotZ A.a6 A.a7 A.a8 0 0 4294967296)⟩ : Mt) = _
    rw [f0, f1, f2, f3, f4, f5, f6, f7, f8, x0, x1, x2]
  have hK : mulK A (abM 2 x) = false := by
    show ((clipC (dotZ A.a0 A.a1 A.a2 (bothC x) (bothS x) 0) || clipC (dotZ A.a0 A.a1 A.a2 (-bothS x) (bothC x) 0) || clipC (dotZ A.a0 A.a1 A.a2 0 0 4294967296)) || (clipC (dotZ A.a3 A.a4 A.a5 (bothC x) (bothS x) 0) || clipC (dotZ A.a3 A.a4 A.a5 (-bothS x) (bothC x) 0) || clipC (dotZ A.a3 A.a4 A.a5 0 0 4294967296)) || (clipC (dotZ A.a6 A.a7 A.a8 (bothC x) (bothS x) 0) || clipC (dotZ A.a6 A.a7 A.a8 (-bothS x) (bothC x) 0) || clipC (dotZ A.a6 A.a7 A.a8 0 0 4294967296))) = false
    rw [g0, g1, g2, g3, g4, g5, g6, g7, g8]
    rfl
  refine ⟨?_, hK⟩
  rw [hM]
  generalize hp0 : dotZ A.a0 A.a1 A.a2 (bothC x) (bothS x) 0 = p0 at *
  generalize hq0 : dotZ A.a0 A.a1 A.a2 (-bothS x) (bothC x) 0 = q0 at *
  generalize hp1 : dotZ A.a3 A.a4 A.a5 (bothC x) (bothS x) 0 = p1 at *
  generalize hq1 : dotZ A.a3 A.a4 A.a5 (-bothS x) (bothC x) 0 = q1 at *
  generalize hp2 : dotZ A.a6 A.a7 A.a8 (bothC x) (bothS x) 0 = p2 at *
  generalize hq2 : dotZ A.a6 A.a7 A.a8 (-bothS x) (bothC x) 0 = q2 at *
  generalize bothC x = c at *
  generalize bothS x = s at *
  have k00 : -(E + 4767413698560) ≤ dot3 p0 q0 A.a2 p0 q0 A.a2 - 18446744073709551616 ∧ dot3 p0 q0 A.a2 p0 q0 A.a2 - 18446744073709551616 ≤ E + 4767413698560 := by
    have := tw b0 b1 b0 b1 ⟨c1, c2⟩ ⟨s1, s2⟩ hl (p := p0) (q := q0) (p' := p0) (q' := q0) (by omega) (by omega) (by omega) (by omega)
    unfold dot3 at *; omega
  have k11 : -(E + 4767413698560) ≤ dot3 p1 q1 A.a5 p1 q1 A.a5 - 18446744073709551616 ∧ dot3 p1 q1 A.a5 p1 q1 A.a5 - 18446744073709551616 ≤ E + 4767413698560 := by
    have := tw b3 b4 b3 b4 ⟨c1, c2⟩ ⟨s1, s2⟩ hl (p := p1) (q := q1) (p' := p1) (q' := q1) (by omega) (by omega) (by omega) (by omega)
    unfold dot3 at *; omega
  have k22 : -(E + 4767413698560) ≤ dot3 p2 q2 A.a8 p2 q2 A.a8 - 18446744073709551616 ∧ dot3 p2 q2 A.a8 p2 q2 A.a8 - 18446744073709551616 ≤ E + 4767413698560 := by
    have := tw b6 b7 b6 b7 ⟨c1, c2⟩ ⟨s1, s2⟩ hl (p := p2) (q := q2) (p' := p2) (q' := q2) (by omega) (by omega) (by omega) (by omega)
    unfold dot3 at *; omega
  have k01 : -(E + 4767413698560) ≤ dot3 p0 q0 A.a2 p1 q1 A.a5 - 0 ∧ dot3 p0 q0 A.a2 p1 q1 A.a5 - 0 ≤ E + 4767413698560 := by
    have := tw b0 b1 b3 b4 ⟨c1, c2⟩ ⟨s1, s2⟩ hl (p := p0) (q := q0) (p' := p1) (q' := q1) (by omega) (by omega) (by omega) (by omega)
    unfold dot3 at *; omega
  have k02 : -(E + 4767413698560) ≤ dot3 p0 q0 A.a2 p2 q2 A.a8 - 0 ∧ dot3 p0 q0 A.a2 p2 q2 A.a8 - 0 ≤ E + 4767413698560 := by
    have := tw b0 b1 b6 b7 ⟨c1, c2⟩ ⟨s1, s2⟩ hl (p := p0) (q := q0) (p' := p2) (q' := q2) (by omega) (by omega) (by omega) (by omega)
    unfold dot3 at *; omega
  have k12 : -(E + 4767413698560) ≤ dot3 p1 q1 A.a5 p2 q2 A.a8 - 0 ∧ dot3 p1 q1 A.a5 p2 q2 A.a8 - 0 ≤ E + 4767413698560 := by
    have := tw b3 b4 b6 b7 ⟨c1, c2⟩ ⟨s1, s2⟩ hl (p := p1) (q := q1) (p' := p2) (q' := q2) (by omega) (by omega) (by omega) (by omega)
    unfold dot3 at *; omega
  exact ⟨k00, k11, k22, k01, k02, k12⟩
theorem near_mul {E x : Int} {A : Mt} (k : Nat) (hE : E ≤ 226000000000000) (h : NearM E A) (hx : 0 ≤ x ∧ x < 4294967296) : NearM (E + 4767413698560) (mulM A (abM k x)) ∧ mulK A (abM k x) = false := by
  match k with
  | 0 => exact near_mul0 hE h hx
  | 1 => exact near_mul1 hE h hx
  | k + 2 => exact near_mul2 hE h hx
theorem near_off {E : Int} {A : Mt} (hE : 0 ≤ E ∧ E ≤ 232000000000000) (h : NearM E A) : 0 ≤ offM A ∧ offM A ≤ E / 4294967296 + 3 := by
  obtain ⟨h00, h11, h22, h01, h02, h12⟩ := h
  unfold offM
  refine off9_le (by omega) ?_
  have r00 := dot_rd A.a0 A.a1 A.a2 A.a0 A.a1 A.a2
  have r01 := dot_rd A.a0 A.a1 A.a2 A.a3 A.a4 A.a5
  have r02 := dot_rd A.a0 A.a1 A.a2 A.a6 A.a7 A.a8
  have r10 := dot_rd A.a3 A.a4 A.a5 A.a0 A.a1 A.a2
  have r11 := dot_rd A.a3 A.a4 A.a5 A.a3 A.a4 A.a5
  have r12 := dot_rd A.a3 A.a4 A.a5 A.a6 A.a7 A.a8
  have r20 := dot_rd A.a6 A.a7 A.a8 A.a0 A.a1 A.a2
  have r21 := dot_rd A.a6 A.a7 A.a8 A.a3 A.a4 A.a5
  have r22 := dot_rd A.a6 A.a7 A.a8 A.a6 A.a7 A.a8
  have c10 := dot3_comm A.a3 A.a4 A.a5 A.a0 A.a1 A.a2
  have c20 := dot3_comm A.a6 A.a7 A.a8 A.a0 A.a1 A.a2
  have c21 := dot3_comm A.a6 A.a7 A.a8 A.a3 A.a4 A.a5
  refine ⟨?_, ?_, ?_, ?_, ?_, ?_, ?_, ?_, ?_⟩ <;> omega
theorem near_same : NearM 0 sameM := by unfold NearM RowsE; decide
theorem near_up {E : Int} {A : Mt} (hE : E ≤ 232000000000000) (h : NearM E A) : NearM 107374182400 (upM A) ∧ ortC A.a0 A.a1 A.a2 A.a3 A.a4 A.a5 A.a6 A.a7 A.a8 = true := by
  obtain ⟨h00, h11, h22, h01, h02, h12⟩ := h
  obtain ⟨g0, g1, _⟩ := ortho_full (a0 := A.a0) (a1 := A.a1) (a2 := A.a2) (a3 := A.a3) (a4 := A.a4) (a5 := A.a5) (a6 := A.a6) (a7 := A.a7) (a8 := A.a8) (show 14300000000000000000 ≤ dot3 A.a0 A.a1 A.a2 A.a0 A.a1 A.a2 ∧ dot3 A.a0 A.a1 A.a2 A.a0 A.a1 A.a2 ≤ 24000000000000000000 by omega) (by omega) (by omega)
  exact ⟨g1, g0⟩
end Go.Xv
namespace Go.Xv
def goM (M : Mt) (k : Nat) (b : Int) : Mt := if b = 0 then M else mulM M (abM k b)
def goK (M : Mt) (k : Nat) (b : Int) : Bool := if b = 0 then false else mulK M (abM k b)
structure Att where
  m : Mt
  n : Int
def go3 (M : Mt) (b0 b1 b2 : Int) : Mt := goM (goM (goM M 0 b0) 1 b1) 2 b2
def go3K (M : Mt) (b0 b1 b2 : Int) : Bool := goK M 0 b0 || goK (goM M 0 b0) 1 b1 || goK (goM (goM M 0 b0) 1 b1) 2 b2
noncomputable def stepA (a : Att) (b0 b1 b2 : Int) : Att := if 15 ≤ a.n then ⟨upM (go3 a.m b0 b1 b2), 0⟩ else ⟨go3 a.m b0 b1 b2, a.n + 1⟩
def newA : Att := ⟨sameM, 0⟩
theorem near_mono {E E' : Int} {A : Mt} (h : NearM E A) (k : E ≤ E') : NearM E' A := by
  obtain ⟨h0, h1, h2, h3, h4, h5⟩ := h
  refine ⟨?_, ?_, ?_, ?_, ?_, ?_⟩ <;> omega
theorem near_go {E b : Int} {A : Mt} (k : Nat) (hE : E ≤ 226000000000000) (h : NearM E A) (hb : 0 ≤ b ∧ b < 4294967296) : NearM (E + 4767413698560) (goM A k b) ∧ goK A k b = false := by
  unfold goM goK
  by_cases h0 : b = 0
  · rw [if_pos h0, if_pos h0]
    exact ⟨near_mono h (by omega), rfl⟩
  · rw [if_neg h0, if_neg h0]
    exact near_mul k hE h hb
theorem near_go3 {E b0 b1 b2 : Int} {A : Mt} (hE : E ≤ 216000000000000) (h : NearM E A) (h0 : 0 ≤ b0 ∧ b0 < 4294967296) (h1 : 0 ≤ b1 ∧ b1 < 4294967296) (h2 : 0 ≤ b2 ∧ b2 < 4294967296) :
    NearM (E + 14302241095680) (go3 A b0 b1 b2) ∧ go3K A b0 b1 b2 = false := by
  obtain ⟨g0, k0⟩ := near_go 0 (by omega) h h0
  obtain ⟨g1, k1⟩ := near_go 1 (by omega) g0 h1
  obtain ⟨g2, k2⟩ := near_go 2 (by omega) g1 h2
  refine ⟨near_mono g2 (by omega), ?_⟩
  unfold go3K
  rw [k0, k1, k2]
  rfl
/-- what steps keep -/
def InvA (a : Att) : Prop := 0 ≤ a.n ∧ a.n ≤ 15 ∧ NearM (107374182400 + 14302241095680 * a.n) a.m
theorem inv_new : InvA newA := ⟨by decide, by decide, near_mono near_same (by decide)⟩
theorem inv_step {a : Att} {b0 b1 b2 : Int} (h : InvA a) (h0 : 0 ≤ b0 ∧ b0 < 4294967296) (h1 : 0 ≤ b1 ∧ b1 < 4294967296) (h2 : 0 ≤ b2 ∧ b2 < 4294967296) : InvA (stepA a b0 b1 b2) ∧ go3K a.m b0 b1 b2 = false := by
  obtain ⟨n0, n1, hn⟩ := h
  obtain ⟨g, k⟩ := near_go3 (by omega) hn h0 h1 h2
  refine ⟨?_, k⟩
  unfold stepA
  by_cases hc : 15 ≤ a.n
  · rw [if_pos hc]
    exact ⟨by dsimp only; omega, by dsimp only; omega, near_mono (near_up (by omega) g).1 (by dsimp only; omega)⟩
  · rw [if_neg hc]
    refine ⟨by dsimp only; omega, by dsimp only; omega, near_mono g (by dsimp only; omega)⟩
theorem inv_off {a : Att} (h : InvA a) : 0 ≤ offM a.m ∧ offM a.m ≤ 65536 := by
  obtain ⟨n0, n1, hn⟩ := h
  have := near_off (by omega) hn
  omega
/-- without rates -/
theorem go3_0 (M : Mt) : go3 M 0 0 0 = M ∧ go3K M 0 0 0 = false := ⟨rfl, rfl⟩
theorem unV_one {k a b c : Int} (h : sq3 a b c = 18446744073709551616) : unV k a b c = clipV (Int.tdiv (k * 4294967296) 4294967296) := by
  have hr : rt 18446744073709551616 = 4294967296 := rt_eq (by omega) (by decide) (by decide)
  have hl : lenV (sq3 a b c) = 4294967296 := by rw [h]; unfold lenV; rw [if_pos (by decide), hr]
  have hc : lenC (sq3 a b c) = false := by rw [h]; decide
  have hok : unitOK a b c = true := by unfold unitOK; rw [hl, hc]; rfl
  unfold unV
  rw [if_pos hok, hl]
  unfold fdivV
  rw [if_neg (by decide)]
theorem up_same : upM sameM = sameM := by
  have hC := (near_up (by decide) near_same).2
  have x0 : unV 4294967296 4294967296 0 0 = 4294967296 := by rw [unV_one (by decide)]; decide
  have x1 : unV 0 4294967296 0 0 = 0 := by rw [unV_one (by decide)]; decide
  have hD : oD 4294967296 0 0 0 4294967296 0 0 0 4294967296 = 0 := by unfold oD; rw [x0, x1]; decide
  have r0 : oR0 4294967296 0 0 0 4294967296 0 0 0 4294967296 = 0 := by unfold oR0; rw [x0, hD]; decide
  have r1 : oR1 4294967296 0 0 0 4294967296 0 0 0 4294967296 = 4294967296 := by unfold oR1; rw [x1, hD]; decide
  have r2 : oR2 4294967296 0 0 0 4294967296 0 0 0 4294967296 = 0 := by unfold oR2; rw [x1, hD]; decide
  have y0 : oY0 4294967296 0 0 0 4294967296 0 0 0 4294967296 = 0 := by unfold oY0; rw [r0, r1, r2, unV_one (by decide)]; decide
  have y1 : oY1 4294967296 0 0 0 4294967296 0 0 0 4294967296 = 4294967296 := by unfold oY1; rw [r0, r1, r2, unV_one (by decide)]; decide
  have y2 : oY2 4294967296 0 0 0 4294967296 0 0 0 4294967296 = 0 := by unfold oY2; rw [r0, r1, r2, unV_one (by decide)]; decide
  have z0 : oZ0 4294967296 0 0 0 4294967296 0 0 0 4294967296 = 0 := by unfold oZ0; rw [x1, y1, y2]; decide
  have z1 : oZ1 4294967296 0 0 0 4294967296 0 0 0 4294967296 = 0 := by unfold oZ1; rw [x0, x1, y0, y2]; decide
  have z2 : oZ2 4294967296 0 0 0 4294967296 0 0 0 4294967296 = 4294967296 := by unfold oZ2; rw [x0, x1, y0, y1]; decide
  show (⟨_, _, _, _, _, _, _, _, _⟩ : Mt) = _
  unfold ort0 ort1 ort2 ort3 ort4 ort5 ort6 ort7 ort8
  have hC' : ortC 4294967296 0 0 0 4294967296 0 0 0 4294967296 = true := hC
  show (⟨if ortC 4294967296 0 0 0 4294967296 0 0 0 4294967296 = true then _ else _, if ortC 4294967296 0 0 0 4294967296 0 0 0 4294967296 = true then _ else _, if ortC 4294967296 0 0 0 4294967296 0 0 0 4294967296 = true then _ else _, if ortC 4294967296 0 0 0 4294967296 0 0 0 4294967296 = true then _ else _, if ortC 4294967296 0 0 0 4294967296 0 0 0 4294967296 = true then _ else _, if ortC 4294967296 0 0 0 4294967296 0 0 0 4294967296 = true then _ else _, if ortC 4294967296 0 0 0 4294967296 0 0 0 4294967296 = true then _ else _, if ortC 4294967296 0 0 0 4294967296 0 0 0 4294967296 = true then _ else _, if ortC 4294967296 0 0 0 4294967296 0 0 0 4294967296 = true then _ else _⟩ : Mt) = _
  simp only [if_pos hC']
  show (⟨unV 4294967296 4294967296 0 0, unV 0 4294967296 0 0, unV 0 4294967296 0 0, oY0 4294967296 0 0 0 4294967296 0 0 0 4294967296, oY1 4294967296 0 0 0 4294967296 0 0 0 4294967296, oY2 4294967296 0 0 0 4294967296 0 0 0 4294967296, oZ0 4294967296 0 0 0 4294967296 0 0 0 4294967296, oZ1 4294967296 0 0 0 4294967296 0 0 0 4294967296, oZ2 4294967296 0 0 0 4294967296 0 0 0 4294967296⟩ : Mt) = _
  rw [x0, x1, y0, y1, y2, z0, z1, z2]
  rfl
theorem step_same {a : Att} (h : a.m = sameM) : (stepA a 0 0 0).m = sameM := by
  unfold stepA
  split
  · show upM (go3 a.m 0 0 0) = sameM
    rw [(go3_0 _).1, h, up_same]
  · exact h
end Go.Xv
namespace Go.Xv
namespace Cx
theorem One0 : (0 : Rat) < One := by decide +kernel
theorem near_turned {u v c s u' v' : Int} (hu : -4294967296 ≤ 4294967296 * u' - (u * c - v * s) ∧ 4294967296 * u' - (u * c - v * s) ≤ 4294967296) (hv : -4294967296 ≤ 4294967296 * v' - (u * s + v * c) ∧ 4294967296 * v' - (u * s + v * c) ≤ 4294967296) :
    Nm (sub (cx u' v') (sc (1 / 4294967296) (mul (cx u v) (cx c s)))) (3 / 2) := by
  have a1 := cast_le hu.1
  have a2 := cast_le hu.2
  have a3 := cast_le hv.1
  have a4 := cast_le hv.2
  simp only [Rat.intCast_sub, Rat.intCast_add, Rat.intCast_mul, Rat.intCast_neg] at a1 a2 a3 a4
  have e : ((4294967296 : Int) : Rat) = 4294967296 := by decide +kernel
  rw [e] at a1 a2 a3 a4
  apply Nm.unit <;> simp only [sub, sc, mul, cx] <;> grind
/-- one turn more -/
theorem turn_more {u v u' v' x t : Int} {e : Rat} (hx : 0 ≤ x ∧ x < 4294967296) (ht : 0 ≤ t ∧ t < 4294967296)
    (hu : -4294967296 ≤ 4294967296 * u' - (u * bothC x - v * bothS x) ∧ 4294967296 * u' - (u * bothC x - v * bothS x) ≤ 4294967296)
    (hv : -4294967296 ≤ 4294967296 * v' - (u * bothS x + v * bothC x) ∧ 4294967296 * v' - (u * bothS x + v * bothC x) ≤ 4294967296)
    (hn : Nm (cx u v) (4300000000 : Rat)) (h : Nm (sub (cx u v) (sc One (VI t))) e) : Nm (sub (cx u' v') (sc One (VI ((t + x) % 4294967296)))) (e + 268) := by
  have h1 := near_turned hu hv
  have h2 := (hn.mul (both_near hx)).sc (r := 1 / 4294967296) (by decide +kernel)
  have h3 := h.turn (VI_U x)
  have h4 := (VI_mod (z := t + x) (t := (t + x) % 4294967296) (by omega) (by omega)).sc (Rat.le_of_lt One0)
  have h5 := ((h1.add h2).add h3).add h4
  have ee : Cx.add (Cx.add (Cx.add (sub (cx u' v') (sc (1 / 4294967296) (mul (cx u v) (cx (bothC x) (bothS x))))) (sc (1 / 4294967296) (mul (cx u v) (sub (cx (bothC x) (bothS x)) (sc One (VI x)))))) (mul (sub (cx u v) (sc One (VI t))) (VI x))) (sc One (sub (VI (t + x)) (VI ((t + x) % 4294967296)))) = sub (cx u' v') (sc One (VI ((t + x) % 4294967296))) := by
    rw [VI_add]
    generalize VI ((t + x) % 4294967296) = w
    unfold One
    apply eqC <;> simp only [Cx.add, sub, sc, mul] <;> grind
  rw [ee] at h5
  refine h5.mono ?_
  have : (3 / 2 : Rat) + 1 / 4294967296 * (4300000000 * 265) + One * (8 * hair) ≤ 268 := by decide +kernel
  grind
theorem n2_cx (u v : Int) : n2 (cx u v) = ((u * u + v * v : Int) : Rat) := by simp only [n2, cx, Rat.intCast_add, Rat.intCast_mul]
/-- as long as One, and near a direction -/
theorem len_near {u v : Int} {t : Int} {q d : Rat} (hq : 0 ≤ q) (hl : -107374182400 ≤ u * u + v * v - 18446744073709551616 ∧ u * u + v * v - 18446744073709551616 ≤ 107374182400) (h : Nm (sub (cx u v) (sc q (VI t))) d) : Nm (sub (cx u v) (sc One (VI t))) (2 * d + 14) := by
  have hd := h.1
  have k1 := cast_le (a := u * u + v * v) (b := 18446744181083734016) (by omega)
  have k2 := cast_le (a := 18446743966335369216) (b := u * u + v * v) (by omega)
  have e1 : ((18446744181083734016 : Int) : Rat) ≤ (One + 13) * (One + 13) := by decide +kernel
  have e2 : (One - 13) * (One - 13) ≤ ((18446743966335369216 : Int) : Rat) := by decide +kernel
  have hn := n2_cx u v
  have u1 : Nm (cx u v) (One + 13) := ⟨by decide +kernel, by rw [hn]; exact Rat.le_trans k1 e1⟩
  have hU := VI_U t
  -- q is not above
  have q1 : q ≤ One + 13 + d := by
    have := (u1.add h.neg)
    have e : Cx.add (cx u v) (sub (sc q (VI t)) (cx u v)) = sc q (VI t) := by apply eqC <;> simp only [Cx.add, sub] <;> grind
    rw [e] at this
    have k := this.2
    rw [n2_sc] at k
    unfold U at hU
    rw [hU, Rat.mul_one] at k
    exact le_of_sq this.1 k
  have q2 : One - 13 ≤ q + d := by
    have := (hU.nm.sc hq).add h
    have e : Cx.add (sc q (VI t)) (sub (cx u v) (sc q (VI t))) = cx u v := by apply eqC <;> simp only [Cx.add, sub] <;> grind
    rw [e, Rat.mul_one] at this
    have k := this.2
    rw [hn] at k
    exact le_of_sq this.1 (Rat.le_trans e2 (Rat.le_trans k2 k))
  have h2 : Nm (sub (sc q (VI t)) (sc One (VI t))) (d + 13) := by
    have e1 : sub (sc q (VI t)) (sc One (VI t)) = sc (q - One) (VI t) := by apply eqC <;> simp only [sub, sc] <;> grind
    rw [e1]
    refine ⟨by grind, ?_⟩
    rw [n2_sc]
    unfold U at hU
    rw [hU]
    have m1 := Rat.mul_nonneg (show 0 ≤ (d + 13) - (q - One) by grind) (show 0 ≤ (d + 13) + (q - One) by grind)
    grind
  exact (h.trans h2).mono (by grind)
theorem Nm.opp {a : Cx} {e : Rat} (h : Nm a e) : Nm (Cx.sc (-1) a) e := by
  refine ⟨h.1, ?_⟩
  have := h.2
  rw [n2_sc]
  grind
/-- over its length it points as before -/
theorem unit_near {u v n x y r s t : Int} {e : Rat} (hn : 4290000000 ≤ n) (hn2 : n ≤ 4300000000) (gx : n * x = u * 4294967296 - r) (gy : n * y = v * 4294967296 - s) (hr : -n ≤ r ∧ r ≤ n) (hs : -n ≤ s ∧ s ≤ n)
    (hl : -107374182400 ≤ x * x + y * y - 18446744073709551616 ∧ x * x + y * y - 18446744073709551616 ≤ 107374182400) (h : Nm (sub (cx u v) (sc One (VI t))) e) : Nm (sub (cx x y) (sc One (VI t))) (21 / 10 * e + 30) := by
  have n0 : (4290000000 : Rat) ≤ (n : Rat) := cast_le (a := 4290000000) hn
  have hi : (n : Rat) * (n : Rat)⁻¹ = 1 := Rat.mul_inv_cancel _ (by grind)
  have hp : 0 < (n : Rat)⁻¹ := Rat.inv_pos.2 (by grind)
  have hs1 : (n : Rat)⁻¹ * 4294967296 ≤ 102 / 100 := by
    have := Rat.mul_le_mul_of_nonneg_left n0 (Rat.le_of_lt hp)
    grind
  have q1 := congrArg (fun z : Int => (z : Rat)) gx
  have q2 := congrArg (fun z : Int => (z : Rat)) gy
  simp only [Rat.intCast_sub, Rat.intCast_mul] at q1 q2
  have e0 : ((4294967296 : Int) : Rat) = 4294967296 := by decide +kernel
  rw [e0] at q1 q2
  have r1 := cast_le hr.1
  have r2 := cast_le hr.2
  have s1 := cast_le hs.1
  have s2 := cast_le hs.2
  rw [Rat.intCast_neg] at r1 s1
  have hrs : Nm (cx r s) ((n : Rat) + n) := by apply Nm.of <;> simp only [cx] <;> grind
  have h1 := (h.sc (r := (n : Rat)⁻¹ * 4294967296) (by grind)).add (Nm.opp (hrs.sc (Rat.le_of_lt hp)))
  have ee : Cx.add (sc ((n : Rat)⁻¹ * 4294967296) (sub (cx u v) (sc One (VI t)))) (sc (-1) (sc (n : Rat)⁻¹ (cx r s))) = sub (cx x y) (sc ((n : Rat)⁻¹ * 4294967296 * One) (VI t)) := by
    have x1 : (x : Rat) = (n : Rat)⁻¹ * (u * 4294967296 - r) := by rw [← q1, ← Rat.mul_assoc, Rat.mul_comm (n : Rat)⁻¹, hi, Rat.one_mul]
    have y1 : (y : Rat) = (n : Rat)⁻¹ * (v * 4294967296 - s) := by rw [← q2, ← Rat.mul_assoc, Rat.mul_comm (n : Rat)⁻¹, hi, Rat.one_mul]
    generalize (n : Rat)⁻¹ = g at *
    apply eqC <;> simp only [Cx.add, sub, sc, cx, x1, y1] <;> grind
  rw [ee] at h1
  have h2 := len_near (Rat.mul_nonneg (Rat.mul_nonneg (Rat.le_of_lt hp) (by decide +kernel)) (Rat.le_of_lt One0)) hl h1
  refine h2.mono ?_
  have he := h.1
  have m1 := Rat.mul_le_mul_of_nonneg_right hs1 he
  grind
end Cx
end Go.Xv
namespace Go.Xv
namespace Cx
/-- about axis 2 alone -/
def P2 (M : Mt) : Prop := M.a2 = 0 ∧ M.a5 = 0 ∧ M.a6 = 0 ∧ M.a7 = 0
def Dir (M : Mt) (t : Int) (e : Rat) : Prop := P2 M ∧ Nm (sub (cx M.a0 (-M.a1)) (sc One (VI t))) e ∧ Nm (sub (cx M.a4 M.a3) (sc One (VI t))) e
theorem dir_mono {M : Mt} {t : Int} {e f : Rat} (h : Dir M t e) (k : e ≤ f) : Dir M t f := ⟨h.1, h.2.1.mono k, h.2.2.mono k⟩
theorem nm_bd {u v : Int} (h : u * u + v * v ≤ 18490000000000000000) : Nm (cx u v) (4300000000 : Rat) := by
  refine ⟨by decide +kernel, ?_⟩
  rw [n2_cx]
  have e : (4300000000 : Rat) * 4300000000 = ((18490000000000000000 : Int) : Rat) := by decide +kernel
  rw [e]
  exact cast_le h
theorem dir_mul {M : Mt} {E t x : Int} {e : Rat} (hE : E ≤ 226000000000000) (h : NearM E M) (ht : 0 ≤ t ∧ t < 4294967296) (hx : 0 ≤ x ∧ x < 4294967296) (hd : Dir M t e) : Dir (mulM M (abM 2 x)) ((t + x) % 4294967296) (e + 268) := by
  have hb := near_bd (by omega) h
  obtain ⟨b0, b1, b2, b3, b4, b5, b6, b7, b8⟩ := hb
  obtain ⟨h00, h11, _, _, _, _⟩ := h
  obtain ⟨⟨p2, p5, p6, p7⟩, d0, d1⟩ := hd
  obtain ⟨⟨c1, c2⟩, s1, s2⟩ := both_bd x
  unfold dot3 at h00 h11
  rw [p2, Int.zero_mul, Int.add_zero] at h00
  rw [p5, Int.zero_mul, Int.add_zero] at h11
  -- the entries
  have e0 : (mulM M (abM 2 x)).a0 = clipV (pr M.a0 (bothC x) + pr M.a1 (bothS x)) := by
    show clipV (pr M.a0 (bothC x) + pr M.a1 (bothS x) + pr M.a2 0) = _
    rw [(pr_nil _).2, Int.add_zero]
  have e1 : (mulM M (abM 2 x)).a1 = clipV (pr M.a0 (-bothS x) + pr M.a1 (bothC x)) := by
    show clipV (pr M.a0 (-bothS x) + pr M.a1 (bothC x) + pr M.a2 0) = _
    rw [(pr_nil _).2, Int.add_zero]
  have e3 : (mulM M (abM 2 x)).a3 = clipV (pr M.a3 (bothC x) + pr M.a4 (bothS x)) := by
    show clipV (pr M.a3 (bothC x) + pr M.a4 (bothS x) + pr M.a5 0) = _
    rw [(pr_nil _).2, Int.add_zero]
  have e4 : (mulM M (abM 2 x)).a4 = clipV (pr M.a3 (-bothS x) + pr M.a4 (bothC x)) := by
    show clipV (pr M.a3 (-bothS x) + pr M.a4 (bothC x) + pr M.a5 0) = _
    rw [(pr_nil _).2, Int.add_zero]
  have e2 : (mulM M (abM 2 x)).a2 = 0 := by
    show clipV (pr M.a0 0 + pr M.a1 0 + pr M.a2 4294967296) = 0
    rw [(pr_nil _).2, (pr_nil _).2, p2, (pr_nil _).1]; decide
  have e5 : (mulM M (abM 2 x)).a5 = 0 := by
    show clipV (pr M.a3 0 + pr M.a4 0 + pr M.a5 4294967296) = 0
    rw [(pr_nil _).2, (pr_nil _).2, p5, (pr_nil _).1]; decide
  have e6 : (mulM M (abM 2 x)).a6 = 0 := by
    show clipV (pr M.a6 (bothC x) + pr M.a7 (bothS x) + pr M.a8 0) = 0
    rw [p6, p7, (pr_nil _).1, (pr_nil _).1, (pr_nil _).2]; decide
  have e7 : (mulM M (abM 2 x)).a7 = 0 := by
    show clipV (pr M.a6 (-bothS x) + pr M.a7 (bothC x) + pr M.a8 0) = 0
    rw [p6, p7, (pr_nil _).1, (pr_nil _).1, (pr_nil _).2]; decide
  have q0 := pr_rd M.a0 (bothC x)
  have q1 := pr_rd M.a1 (bothS x)
  have q2 := pr_rd M.a0 (-bothS x)
  have q3 := pr_rd M.a1 (bothC x)
  have q4 := pr_rd M.a3 (bothC x)
  have q5 := pr_rd M.a4 (bothS x)
  have q6 := pr_rd M.a3 (-bothS x)
  have q7 := pr_rd M.a4 (bothC x)
  have m0 := bdm b0 (show -4294967296 ≤ bothC x ∧ bothC x ≤ 4294967296 from ⟨c1, c2⟩)
  have m1 := bdm b1 (show -4294967296 ≤ bothS x ∧ bothS x ≤ 4294967296 from ⟨s1, s2⟩)
  have m2 := bdm b0 (show -4294967296 ≤ -bothS x ∧ -bothS x ≤ 4294967296 by omega)
  have m3 := bdm b1 (show -4294967296 ≤ bothC x ∧ bothC x ≤ 4294967296 from ⟨c1, c2⟩)
  have m4 := bdm b3 (show -4294967296 ≤ bothC x ∧ bothC x ≤ 4294967296 from ⟨c1, c2⟩)
  have m5 := bdm b4 (show -4294967296 ≤ bothS x ∧ bothS x ≤ 4294967296 from ⟨s1, s2⟩)
  have m6 := bdm b3 (show -4294967296 ≤ -bothS x ∧ -bothS x ≤ 4294967296 by omega)
  have m7 := bdm b4 (show -4294967296 ≤ bothC x ∧ bothC x ≤ 4294967296 from ⟨c1, c2⟩)
  rw [(clip_sm (by omega)).1] at e0 e1 e3 e4
  have n1 : ∀ y : Int, y * -bothS x = -(y * bothS x) := fun y => Int.mul_neg _ _
  have n2 : ∀ y : Int, -M.a1 * y = -(M.a1 * y) := fun y => Int.neg_mul _ _
  have n3 : (-M.a1) * (-M.a1) = M.a1 * M.a1 := Int.neg_mul_neg _ _
  rw [n1] at q2 q6
  refine ⟨⟨e2, e5, e6, e7⟩, ?_, ?_⟩
  · rw [e0, e1]
    refine turn_more hx ht ?_ ?_ (nm_bd (by rw [n3]; omega)) d0
    · rw [n2]; omega
    · rw [n2]; omega
  · rw [e3, e4]
    refine turn_more hx ht ?_ ?_ (nm_bd (by omega)) d1
    · omega
    · omega
end Cx
end Go.Xv
namespace Go.Xv
theorem unV_nil (a b c : Int) : unV 0 a b c = 0 := by
  unfold unV
  split
  · unfold fdivV
    split
    · rfl
    · rw [Int.zero_mul, Int.zero_tdiv]; decide
  · rfl
namespace Cx
/-- two of one length, nearly upright to each other: they lie side by side, or face each other -/
theorem two_ways {a b c d : Int} (h1 : -107374182400 ≤ a * a + b * b - 18446744073709551616 ∧ a * a + b * b - 18446744073709551616 ≤ 107374182400)
    (h2 : -107374182400 ≤ c * c + d * d - 18446744073709551616 ∧ c * c + d * d - 18446744073709551616 ≤ 107374182400) (h3 : -107374182400 ≤ a * d - b * c ∧ a * d - b * c ≤ 107374182400) :
    Nm (sub (cx a b) (cx c d)) 38 ∨ Nm (add (cx a b) (cx c d)) 38 := by
  have hR : (a * c + b * d) * (a * c + b * d) = (a * a + b * b) * (c * c + d * d) - (a * d - b * c) * (a * d - b * c) := by grind
  have hT : (a * a + b * b + (c * c + d * d) - 1400) * (a * a + b * b + (c * c + d * d) - 1400) ≤ (2 * (a * c + b * d)) * (2 * (a * c + b * d)) := by
    have k1 := bdm (show -214748364800 ≤ a * a + b * b - (c * c + d * d) ∧ a * a + b * b - (c * c + d * d) ≤ 214748364800 by omega) (show -214748364800 ≤ a * a + b * b - (c * c + d * d) ∧ a * a + b * b - (c * c + d * d) ≤ 214748364800 by omega)
    have k2 := bdm h3 h3
    have e : (2 * (a * c + b * d)) * (2 * (a * c + b * d)) = 4 * ((a * a + b * b) * (c * c + d * d)) - 4 * ((a * d - b * c) * (a * d - b * c)) := by grind
    have e2 : (a * a + b * b + (c * c + d * d) - 1400) * (a * a + b * b + (c * c + d * d) - 1400) = 4 * ((a * a + b * b) * (c * c + d * d)) + (a * a + b * b - (c * c + d * d)) * (a * a + b * b - (c * c + d * d)) - 2800 * (a * a + b * b + (c * c + d * d)) + 1960000 := by grind
    rw [e, e2]
    omega
  have n0 : n2 (sub (cx a b) (cx c d)) = ((a * a + b * b + (c * c + d * d) - 2 * (a * c + b * d) : Int) : Rat) := by
    simp only [n2, sub, cx, Rat.intCast_add, Rat.intCast_sub, Rat.intCast_mul]
    have : ((2 : Int) : Rat) = 2 := by decide +kernel
    rw [this]; grind
  have n1 : n2 (add (cx a b) (cx c d)) = ((a * a + b * b + (c * c + d * d) + 2 * (a * c + b * d) : Int) : Rat) := by
    simp only [n2, add, cx, Rat.intCast_add, Rat.intCast_sub, Rat.intCast_mul]
    have : ((2 : Int) : Rat) = 2 := by decide +kernel
    rw [this]; grind
  have e14 : ((1400 : Int) : Rat) ≤ 38 * 38 := by decide +kernel
  rcases Int.le_total 0 (a * c + b * d) with hp | hp
  · left
    have hb : a * a + b * b + (c * c + d * d) - 1400 ≤ 2 * (a * c + b * d) := by
      rcases Int.lt_or_le (2 * (a * c + b * d)) (a * a + b * b + (c * c + d * d) - 1400) with hl | hl
      · have := sq_lt (x := 2 * (a * c + b * d)) (y := a * a + b * b + (c * c + d * d) - 1400) (by omega) hl
        omega
      · exact hl
    refine ⟨by decide +kernel, ?_⟩
    rw [n0]
    exact Rat.le_trans (cast_le (by omega)) e14
  · right
    have hb : a * a + b * b + (c * c + d * d) - 1400 ≤ -(2 * (a * c + b * d)) := by
      rcases Int.lt_or_le (-(2 * (a * c + b * d))) (a * a + b * b + (c * c + d * d) - 1400) with hl | hl
      · have := sq_lt (x := -(2 * (a * c + b * d))) (y := a * a + b * b + (c * c + d * d) - 1400) (by omega) hl
        rw [Int.neg_mul_neg] at this
        omega
      · exact hl
    refine ⟨by decide +kernel, ?_⟩
    rw [n1]
    exact Rat.le_trans (cast_le (by omega)) e14
/-- what faces away is told by the rows before -/
theorem not_away {u v a b c d t : Int} {e f : Rat} (he : e ≤ 1000000) (hf : f ≤ 1000000) (hA : Nm (sub (cx a b) (sc One (VI t))) f) (hB : Nm (add (cx a b) (cx c d)) 38) (hz : Nm (sub (cx u v) (sc One (VI t))) e) (hu : u * u + v * v ≤ 18490000000000000000) (hpos : 0 < c * u + d * v) : False := by
  have hU := VI_U t
  have f0 := hA.1
  have e0 := hz.1
  have d1 := hB.add hA.neg
  have ed : add (add (cx a b) (cx c d)) (sub (sc One (VI t)) (cx a b)) = add (cx c d) (sc One (VI t)) := by apply eqC <;> simp only [add, sub] <;> grind
  rw [ed] at d1
  have k1 := (d1.mul (nm_bd hu).cj)
  have k2 := ((hz.cj).mul (hU.nm.sc (Rat.le_of_lt One0)))
  have k3 := k1.add k2.opp
  have hV := hU.mul_cj
  have ee : add (mul (add (cx c d) (sc One (VI t))) (cj (cx u v))) (sc (-1) (mul (cj (sub (cx u v) (sc One (VI t)))) (sc One (VI t)))) = add (mul (cx c d) (cj (cx u v))) (sc (One * One) (mul (VI t) (cj (VI t)))) := by
    apply eqC <;> simp only [add, sub, sc, mul, cj] <;> grind
  rw [ee, hV] at k3
  have k4 := k3.re.1
  have hp : (0 : Rat) < ((c * u + d * v : Int) : Rat) := Rat.intCast_pos.2 hpos
  simp only [Rat.intCast_add, Rat.intCast_mul] at hp
  simp only [add, mul, cj, cx, sc, one] at k4
  have m1 : (38 + f) * 4300000000 + e * (One * 1) ≤ (38 + 1000000) * 4300000000 + 1000000 * (One * 1) := by
    have := One0
    have h1 := Rat.mul_le_mul_of_nonneg_right he (Rat.le_of_lt One0)
    grind
  have m2 : (38 + 1000000 : Rat) * 4300000000 + 1000000 * (One * 1) < One * One := by decide +kernel
  grind
theorem dir_up {M : Mt} {E t : Int} {e : Rat} (hE : E ≤ 232000000000000) (he : e ≤ 100000) (h : NearM E M) (hd : Dir M t e) : Dir (upM M) t (21 / 10 * e + 70) := by
  obtain ⟨h00, h11, h22, h01, h02, h12⟩ := h
  obtain ⟨⟨p2, p5, p6, p7⟩, d0, d1⟩ := hd
  obtain ⟨hC, ⟨g00, g11, g22, g01, g02, g12⟩, _, _, _, _, _, _, _, _, _, n, r0, r1, r2, hn, n1, n2, ⟨q0, q1, q2⟩, k0, k1, k2, hyb⟩ := ortho_full (a0 := M.a0) (a1 := M.a1) (a2 := M.a2) (a3 := M.a3) (a4 := M.a4) (a5 := M.a5) (a6 := M.a6) (a7 := M.a7) (a8 := M.a8) (by omega) (by omega) (by omega)
  have x2 : ort2 M.a0 M.a1 M.a2 M.a3 M.a4 M.a5 M.a6 M.a7 M.a8 = 0 := by
    unfold ort2; rw [if_pos hC, p2, unV_nil]
  have X2 : unV M.a2 M.a0 M.a1 M.a2 = 0 := by rw [p2, unV_nil]
  have R2 : oR2 M.a0 M.a1 M.a2 M.a3 M.a4 M.a5 M.a6 M.a7 M.a8 = 0 := by
    unfold oR2; rw [X2, (pr_nil _).1, p5]; decide
  have Y2 : oY2 M.a0 M.a1 M.a2 M.a3 M.a4 M.a5 M.a6 M.a7 M.a8 = 0 := by unfold oY2; rw [R2, unV_nil]
  have x5 : ort5 M.a0 M.a1 M.a2 M.a3 M.a4 M.a5 M.a6 M.a7 M.a8 = 0 := by unfold ort5; rw [if_pos hC, Y2]
  have x6 : ort6 M.a0 M.a1 M.a2 M.a3 M.a4 M.a5 M.a6 M.a7 M.a8 = 0 := by
    unfold ort6; rw [if_pos hC]; unfold oZ0 arZ; rw [Y2, X2, (pr_nil _).1, (pr_nil _).2]; decide
  have x7 : ort7 M.a0 M.a1 M.a2 M.a3 M.a4 M.a5 M.a6 M.a7 M.a8 = 0 := by
    unfold ort7; rw [if_pos hC]; unfold oZ1 arZ; rw [Y2, X2, (pr_nil _).1, (pr_nil _).2]; decide
  rw [x2] at g00 g01
  rw [x5] at g11 g01 hyb
  show P2 (upM M) ∧ Nm (sub (cx (ort0 M.a0 M.a1 M.a2 M.a3 M.a4 M.a5 M.a6 M.a7 M.a8) (-ort1 M.a0 M.a1 M.a2 M.a3 M.a4 M.a5 M.a6 M.a7 M.a8)) (sc One (VI t))) (21 / 10 * e + 70) ∧ Nm (sub (cx (ort4 M.a0 M.a1 M.a2 M.a3 M.a4 M.a5 M.a6 M.a7 M.a8) (ort3 M.a0 M.a1 M.a2 M.a3 M.a4 M.a5 M.a6 M.a7 M.a8)) (sc One (VI t))) (21 / 10 * e + 70)
  refine ⟨⟨x2, x5, x6, x7⟩, ?_⟩
  unfold dot3 at *
  generalize ort0 M.a0 M.a1 M.a2 M.a3 M.a4 M.a5 M.a6 M.a7 M.a8 = X0 at *
  generalize ort1 M.a0 M.a1 M.a2 M.a3 M.a4 M.a5 M.a6 M.a7 M.a8 = X1 at *
  generalize ort3 M.a0 M.a1 M.a2 M.a3 M.a4 M.a5 M.a6 M.a7 M.a8 = Y0 at *
  generalize ort4 M.a0 M.a1 M.a2 M.a3 M.a4 M.a5 M.a6 M.a7 M.a8 = Y1 at *
  clear x2 x5 x6 x7 X2 R2 Y2 hC h22 h02 h12 g22 g02 g12 q2 k2
  simp only [p2, p5, Int.mul_zero, Int.zero_mul, Int.add_zero] at h00 h11 h01 g00 g11 g01 n1 n2 hyb
  have hnl : 4290000000 ≤ n := by
    rcases Int.lt_or_le n 4290000000 with hl | hl
    · have := sq_le (x := n) (y := 4289999999) (by omega) (by omega)
      omega
    · exact hl
  have hnu := (abs_le_sq (x := n) (B := 4300000000) (by omega) (by omega)).2
  have nn : X1 * X1 = -X1 * -X1 := (Int.neg_mul_neg _ _).symm
  have z0 := unit_near (u := M.a0) (v := -M.a1) (x := X0) (y := -X1) (r := r0) (s := -r1) hnl hnu q0 (by rw [Int.mul_neg, q1, Int.neg_mul]; omega) k0 (by omega) (by rw [← nn]; omega) d0
  refine ⟨z0.mono (by grind), ?_⟩
  have hw := two_ways (a := X0) (b := -X1) (c := Y1) (d := Y0) (by rw [← nn]; omega) (by omega) (by rw [Int.neg_mul, Int.sub_neg]; omega)
  have d00 := d0.1
  rcases hw with hw | hw
  · exact (hw.neg.trans z0).mono (by grind)
  · exfalso
    exact not_away (u := M.a4) (v := M.a3) (by grind) (by grind) z0 hw d1 (by omega) (by omega)
/-- what a step does -/
theorem dir_step {a : Att} {t b : Int} {e : Rat} (he : e ≤ 90000) (h : InvA a) (ht : 0 ≤ t ∧ t < 4294967296) (hb : 0 ≤ b ∧ b < 4294967296) (hd : Dir a.m t e) : Dir (Go.Xv.stepA a 0 0 b).m ((t + b) % 4294967296) (if 15 ≤ a.n then 21 / 10 * (e + 268) + 70 else e + 268) := by
  obtain ⟨n0, n1, hn⟩ := h
  have hg : go3 a.m 0 0 b = goM a.m 2 b := rfl
  have hd2 : Dir (goM a.m 2 b) ((t + b) % 4294967296) (e + 268) := by
    unfold goM
    by_cases h0 : b = 0
    · rw [if_pos h0, h0, Int.add_zero, Int.emod_eq_of_lt ht.1 ht.2]
      exact dir_mono hd (by grind)
    · rw [if_neg h0]
      exact dir_mul (by omega) hn ht hb hd
  unfold Go.Xv.stepA
  by_cases hc : 15 ≤ a.n
  · rw [if_pos hc, if_pos hc]
    show Dir (upM (go3 a.m 0 0 b)) _ _
    rw [hg]
    obtain ⟨g, _⟩ := near_go 2 (by omega) hn hb
    exact dir_up (by omega) (by grind) g hd2
  · rw [if_neg hc, if_neg hc]
    show Dir (go3 a.m 0 0 b) _ _
    rw [hg]
    exact hd2
/-- where the heading is -/
theorem head_near {x y t N : Int} {e : Rat} (he : e ≤ 1000000) (ht : 0 ≤ t ∧ t < 4294967296) (h : Nm (sub (cx x y) (sc One (VI t))) e) (hN : 5 / 4 * (e + 242) ≤ (N : Rat)) :
    -N ≤ (angle y x - t + 2147483648) % 4294967296 - 2147483648 ∧ (angle y x - t + 2147483648) % 4294967296 - 2147483648 ≤ N := by
  have e0 := h.1
  have hU := VI_U t
  have hu := (h.add (hU.nm.sc (Rat.le_of_lt One0)))
  have ee : add (sub (cx x y) (sc One (VI t))) (sc One (VI t)) = cx x y := by apply eqC <;> simp only [add, sub] <;> grind
  rw [ee] at hu
  have hb := hu.mono (f := ((4300000000 : Int) : Rat)) (by
    have : (1000000 : Rat) + One * 1 ≤ ((4300000000 : Int) : Rat) := by decide +kernel
    grind)
  have x1 := Rat.intCast_le_intCast.1 hb.re.1
  have x2 : -4300000000 ≤ x := Rat.intCast_le_intCast.1 (by have := hb.re.2; rw [← Rat.intCast_neg] at this; exact this)
  have y1 := Rat.intCast_le_intCast.1 hb.im.1
  have y2 : -4300000000 ≤ y := Rat.intCast_le_intCast.1 (by have := hb.im.2; rw [← Rat.intCast_neg] at this; exact this)
  have hne : ¬ (x = 0 ∧ y = 0) := by
    rintro ⟨rfl, rfl⟩
    have k := h.2
    have e1 : n2 (sub (cx 0 0) (sc One (VI t))) = One * One := by
      have : n2 (sub (cx 0 0) (sc One (VI t))) = One * One * n2 (VI t) := by
        simp only [n2, sub, cx, sc]
        have : ((0 : Int) : Rat) = 0 := by decide +kernel
        rw [this]; grind
      rw [this]
      unfold U at hU
      rw [hU]; grind
    rw [e1] at k
    have := sq_le_sq e0 he
    have m : (1000000 : Rat) * 1000000 < One * One := by decide +kernel
    grind
  obtain ⟨s, s0, k⟩ := angle_near (x := x) (y := y) hne (by unfold big sz; omega)
  have hA := angle_U y x
  unfold U32 at hA
  generalize angle y x = g at *
  have h1 := h.neg.trans k
  have hg := gap hU (VI_U g) (Rat.le_of_lt One0) (Rat.le_of_lt s0) h1
  have hs : s ≤ 4297000000 := by unfold One at *; grind
  have h2 := dir_near One0 (Rat.le_of_lt s0) (h1.mono (f := e + 2402 / 10) (by grind))
  have h4 : Nm (sub (VI (g - t)) one) (One⁻¹ * (2 * (e + 2402 / 10))) := by
    have e : g - t = -(t - g) := by omega
    rw [e, VI_neg]
    have := h2.cj
    generalize VI (t - g) = u at *
    have e1 : Cx.cj (sub u one) = sub (cj u) one := by apply eqC <;> simp only [Cx.cj, sub, one] <;> grind
    rwa [e1] at this
  obtain ⟨m1, m2⟩ := near_mod (by omega) h4
  have hi : One⁻¹ = 1 / 4294967296 := by decide +kernel
  have hh : 2684354560 * (8 * hair) ≤ 1 := by decide +kernel
  rw [hi] at m1 m2
  constructor
  · refine Rat.intCast_le_intCast.1 ?_
    rw [Rat.intCast_neg]
    grind
  · exact Rat.intCast_le_intCast.1 (by grind)
end Cx
end Go.Xv
namespace Go.Xv
theorem tq_neg {x : Int} (h : x < 0) (d : Int) : Int.tdiv x d = -Int.tdiv (-x) d ∧ Int.tmod x d = -Int.tmod (-x) d := by
  rw [Int.neg_tdiv, Int.neg_tmod]; omega
/-- toward 0, by a hundred -/
theorem tq100 (x : Int) : (0 ≤ x → Int.tdiv x 100 = x / 100 ∧ Int.tmod x 100 = x % 100) ∧ (x < 0 → Int.tdiv x 100 = -(-x / 100) ∧ Int.tmod x 100 = -(-x % 100)) := by
  constructor
  · intro h
    exact ⟨Int.tdiv_eq_ediv_of_nonneg h, Int.tmod_eq_emod_of_nonneg h⟩
  · intro h
    obtain ⟨h1, h2⟩ := tq_neg h 100
    rw [h1, h2, Int.tdiv_eq_ediv_of_nonneg (by omega), Int.tmod_eq_emod_of_nonneg (by omega)]
    exact ⟨rfl, rfl⟩
def tk (n : Int) : Int := if 65535 < (if 0 > n then 0 else n) then 65535 else (if 0 > n then 0 else n)
theorem tk_bd (n : Int) : 0 ≤ tk n ∧ tk n ≤ 65535 := by unfold tk; split <;> split <;> omega
theorem tk_mul {a : Int} (ha : I32 a) (n : Int) : -140737488355328 ≤ a * tk n ∧ a * tk n ≤ 140737488355328 := by
  unfold I32 at ha
  have h := tk_bd n
  have : (a * tk n).natAbs ≤ 2147483648 * 65536 := by
    rw [Int.natAbs_mul]
    exact Nat.mul_le_mul (by omega) (by omega)
  omega
def turnV (x : Int) : Int := (x * 65536 / 100) % 4294967296
theorem turn_put {x w r : Int} (h : x = 100 * w + r) (h1 : 0 ≤ r) (h2 : r < 100) (hw : -140737488355328 ≤ w ∧ w ≤ 140737488355328) : IntKind.wrap .u32 (IntKind.wrap .u32 (IntKind.wrap .u32 (IntKind.wrap .i64 w) * 65536) + IntKind.wrap .u32 (r * 65536 / 100)) = turnV x := by
  have e : x * 65536 / 100 = 65536 * w + r * 65536 / 100 := by omega
  unfold turnV
  rw [e, wi64_in (by unfold I64; omega)]
  simp only [wu32]
  generalize r * 65536 / 100 = s
  omega
theorem f_Turn (F : Nat) {a n : Int} (ha : I32 a) : f_da F a n = some (.v (.int .u32 (turnV (a * tk n)))) := by
  unfold f_da fg_da
  have hb := tk_mul ha n
  have hb2 := tk_bd n
  have e : (if 65535 < (if 0 > n then 0 else n) then 65535 else (if 0 > n then 0 else n)) = tk n := rfl
  dsimp only
  rw [e, wi64_in (x := a) (by unfold I32 at ha; unfold I64; omega), wi64_in (x := a * tk n) (by unfold I64; omega)]
  generalize a * tk n = x at *
  obtain ⟨q1, q2⟩ := tq100 x
  have hr : ∀ y : Int, 0 ≤ y → y ≤ 6553600 → IntKind.wrap .i64 (Int.tdiv (IntKind.wrap .i64 y) 100) = y / 100 := by
    intro y h1 h2
    rw [wi64_in (x := y) (by unfold I64; omega), Int.tdiv_eq_ediv_of_nonneg h1, wi64_in (by unfold I64; omega)]
  rcases Int.lt_or_le x 0 with hx | hx
  · obtain ⟨h1, h2⟩ := q2 hx
    rw [h1, h2]
    by_cases h0 : -(-x % 100) < 0
    · refine bp (dt h0) (some_u32 ?_)
      rw [wi64_in (x := -(-x % 100) + 100) (by unfold I64; omega), hr _ (by omega) (by omega), wi64_in (x := -(-x / 100)) (by unfold I64; omega)]
      exact turn_put (by omega) (by omega) (by omega) (by omega)
    · refine bn (df h0) (some_u32 ?_)
      rw [hr _ (by omega) (by omega)]
      exact turn_put (by omega) (by omega) (by omega) (by omega)
  · obtain ⟨h1, h2⟩ := q1 hx
    rw [h1, h2]
    refine bn (df (by omega)) (some_u32 ?_)
    rw [hr _ (by omega) (by omega)]
    exact turn_put (by omega) (by omega) (by omega) (by omega)
theorem a_Turn (F : Nat) {a : Int} (n : Int) (ha : I32 a) : ok_da F a n = true ∧ o_da_0 F a n = turnV (a * tk n) := k_da F _ _ (f_Turn F ha)
end Go.Xv
namespace Go.Xv
def MI (M : Mt) : Prop := I64 M.a0 ∧ I64 M.a1 ∧ I64 M.a2 ∧ I64 M.a3 ∧ I64 M.a4 ∧ I64 M.a5 ∧ I64 M.a6 ∧ I64 M.a7 ∧ I64 M.a8
theorem mi_mul (A B : Mt) : MI (mulM A B) := ⟨clipV_I _, clipV_I _, clipV_I _, clipV_I _, clipV_I _, clipV_I _, clipV_I _, clipV_I _, clipV_I _⟩
theorem mi_near {E : Int} {A : Mt} (hE : E ≤ 232000000000000) (h : NearM E A) : MI A := by
  have hb := near_bd hE h
  unfold MI I64
  omega
theorem mi_ab (k : Nat) (x : Int) : MI (abM k x) := by
  obtain ⟨⟨c1, c2⟩, s1, s2⟩ := both_bd x
  have z : I64 0 := by unfold I64; omega
  have n : I64 4294967296 := by unfold I64; omega
  have c : I64 (bothC x) := by unfold I64; omega
  have s : I64 (bothS x) := by unfold I64; omega
  have ns : I64 (-bothS x) := by unfold I64; omega
  match k with
  | 0 => exact ⟨n, z, z, z, c, ns, z, s, c⟩
  | 1 => exact ⟨c, z, s, z, n, z, ns, z, c⟩
  | _ + 2 => exact ⟨c, ns, z, s, c, z, z, z, n⟩
theorem mi_go {M : Mt} (h : MI M) (k : Nat) (b : Int) : MI (goM M k b) := by
  unfold goM
  split
  · exact h
  · exact mi_mul _ _

theorem m_About0 (F : Nat) (hF : 200 ≤ F) {x : Int} (hx : U32 x) : ok_oa F 0 x = true ∧ o_oa_0 F 0 x = (abM 0 x).a0 ∧ o_oa_1 F 0 x = (abM 0 x).a1 ∧ o_oa_2 F 0 x = (abM 0 x).a2 ∧ o_oa_3 F 0 x = (abM 0 x).a3 ∧ o_oa_4 F 0 x = (abM 0 x).a4 ∧ o_oa_5 F 0 x = (abM 0 x).a5 ∧ o_oa_6 F 0 x = (abM 0 x).a6 ∧ o_oa_7 F 0 x = (abM 0 x).a7 ∧ o_oa_8 F 0 x = (abM 0 x).a8 := by
  obtain ⟨h, h0, h1, h2, h3, h4, h5, h6, h7, h8, _⟩ := a_mAbout0 F hF hx
  exact ⟨h, h0, h1, h2, h3, h4, h5, h6, h7, h8⟩
theorem m_About1 (F : Nat) (hF : 200 ≤ F) {x : Int} (hx : U32 x) : ok_oa F 1 x = true ∧ o_oa_0 F 1 x = (abM 1 x).a0 ∧ o_oa_1 F 1 x = (abM 1 x).a1 ∧ o_oa_2 F 1 x = (abM 1 x).a2 ∧ o_oa_3 F 1 x = (abM 1 x).a3 ∧ o_oa_4 F 1 x = (abM 1 x).a4 ∧ o_oa_5 F 1 x = (abM 1 x).a5 ∧ o_oa_6 F 1 x = (abM 1 x).a6 ∧ o_oa_7 F 1 x = (abM 1 x).a7 ∧ o_oa_8 F 1 x = (abM 1 x).a8 := by
  obtain ⟨h, h0, h1, h2, h3, h4, h5, h6, h7, h8, _⟩ := a_mAbout1 F hF hx
  exact ⟨h, h0, h1, h2, h3, h4, h5, h6, h7, h8⟩
theorem m_About2 (F : Nat) (hF : 200 ≤ F) {x : Int} (hx : U32 x) : ok_oa F 2 x = true ∧ o_oa_0 F 2 x = (abM 2 x).a0 ∧ o_oa_1 F 2 x = (abM 2 x).a1 ∧ o_oa_2 F 2 x = (abM 2 x).a2 ∧ o_oa_3 F 2 x = (abM 2 x).a3 ∧ o_oa_4 F 2 x = (abM 2 x).a4 ∧ o_oa_5 F 2 x = (abM 2 x).a5 ∧ o_oa_6 F 2 x = (abM 2 x).a6 ∧ o_oa_7 F 2 x = (abM 2 x).a7 ∧ o_oa_8 F 2 x = (abM 2 x).a8 := by
  obtain ⟨h, h0, h1, h2, h3, h4, h5, h6, h7, h8, _⟩ := a_mAbout2 F hF hx
  exact ⟨h, h0, h1, h2, h3, h4, h5, h6, h7, h8⟩
theorem m_Mul (F : Nat) (hF : 200 ≤ F) {A B : Mt} (hA : MI A) (hB : MI B) : ok_dc F A.a0 A.a1 A.a2 A.a3 A.a4 A.a5 A.a6 A.a7 A.a8 B.a0 B.a1 B.a2 B.a3 B.a4 B.a5 B.a6 B.a7 B.a8 = true ∧ o_dc_0 F A.a0 A.a1 A.a2 A.a3 A.a4 A.a5 A.a6 A.a7 A.a8 B.a0 B.a1 B.a2 B.a3 B.a4 B.a5 B.a6 B.a7 B.a8 = (mulM A B).a0 ∧ o_dc_1 F A.a0 A.a1 A.a2 A.a3 A.a4 A.a5 A.a6 A.a7 A.a8 B.a0 B.a1 B.a2 B.a3 B.a4 B.a5 B.a6 B.a7 B.a8 = (mulM A B).a1 ∧ o_dc_2 F A.a0 A.a1 A.a2 A.a3 A.a4 A.a5 A.a6 A.a7 A.a8 B.a0 B.a1 B.a2 B.a3 B.a4 B.a5 B.a6 B.a7 B.a8 = (mulM A B).a2 ∧ o_dc_3 F A.a0 A.a1 A.a2 A.a3 A.a4 A.a5 A.a6 A.a7 A.a8 B.a0 B.a1 B.a2 B.a3 B.a4 B.a5 B.a6 B.a7 B.a8 = (mulM A B).a3 ∧ o_dc_4 F A.a0 A.a1 A.a2 A.a3 A.a4 A.a5 A.a6 A.a7 A.a8 B.a0 B.a1 B.a2 B.a3 B.a4 B.a5 B.a6 B.a7 B.a8 = (mulM A B).a4 ∧ o_dc_5 F A.a0 A.a1 A.a2 A.a3 A.a4 A.a5 A.a6 A.a7 A.a8 B.a0 B.a1 B.a2 B.a3 B.a4 B.a5 B.a6 B.a7 B.a8 = (mulM A B).a5 ∧ o_dc_6 F A.a0 A.a1 A.a2 A.a3 A.a4 A.a5 A.a6 A.a7 A.a8 B.a0 B.a1 B.a2 B.a3 B.a4 B.a5 B.a6 B.a7 B.a8 = (mulM A B).a6 ∧ o_dc_7 F A.a0 A.a1 A.a2 A.a3 A.a4 A.a5 A.a6 A.a7 A.a8 B.a0 B.a1 B.a2 B.a3 B.a4 B.a5 B.a6 B.a7 B.a8 = (mulM A B).a7 ∧ o_dc_8 F A.a0 A.a1 A.a2 A.a3 A.a4 A.a5 A.a6 A.a7 A.a8 B.a0 B.a1 B.a2 B.a3 B.a4 B.a5 B.a6 B.a7 B.a8 = (mulM A B).a8 ∧ o_dc_9 F A.a0 A.a1 A.a2 A.a3 A.a4 A.a5 A.a6 A.a7 A.a8 B.a0 B.a1 B.a2 B.a3 B.a4 B.a5 B.a6 B.a7 B.a8 = mulK A B := by
  obtain ⟨x0, x1, x2, x3, x4, x5, x6, x7, x8⟩ := hA
  obtain ⟨y0, y1, y2, y3, y4, y5, y6, y7, y8⟩ := hB
  exact a_mMul F hF x0 x1 x2 x3 x4 x5 x6 x7 x8 y0 y1 y2 y3 y4 y5 y6 y7 y8
theorem m_Ortho (F : Nat) (hF : 200 ≤ F) {A : Mt} (hA : MI A) : ok_qa F A.a0 A.a1 A.a2 A.a3 A.a4 A.a5 A.a6 A.a7 A.a8 = true ∧ o_qa_0 F A.a0 A.a1 A.a2 A.a3 A.a4 A.a5 A.a6 A.a7 A.a8 = (upM A).a0 ∧ o_qa_1 F A.a0 A.a1 A.a2 A.a3 A.a4 A.a5 A.a6 A.a7 A.a8 = (upM A).a1 ∧ o_qa_2 F A.a0 A.a1 A.a2 A.a3 A.a4 A.a5 A.a6 A.a7 A.a8 = (upM A).a2 ∧ o_qa_3 F A.a0 A.a1 A.a2 A.a3 A.a4 A.a5 A.a6 A.a7 A.a8 = (upM A).a3 ∧ o_qa_4 F A.a0 A.a1 A.a2 A.a3 A.a4 A.a5 A.a6 A.a7 A.a8 = (upM A).a4 ∧ o_qa_5 F A.a0 A.a1 A.a2 A.a3 A.a4 A.a5 A.a6 A.a7 A.a8 = (upM A).a5 ∧ o_qa_6 F A.a0 A.a1 A.a2 A.a3 A.a4 A.a5 A.a6 A.a7 A.a8 = (upM A).a6 ∧ o_qa_7 F A.a0 A.a1 A.a2 A.a3 A.a4 A.a5 A.a6 A.a7 A.a8 = (upM A).a7 ∧ o_qa_8 F A.a0 A.a1 A.a2 A.a3 A.a4 A.a5 A.a6 A.a7 A.a8 = (upM A).a8 := by
  obtain ⟨x0, x1, x2, x3, x4, x5, x6, x7, x8⟩ := hA
  obtain ⟨h, h0, h1, h2, h3, h4, h5, h6, h7, h8, _⟩ := a_mat_Ortho F hF x0 x1 x2 x3 x4 x5 x6 x7 x8
  exact ⟨h, h0, h1, h2, h3, h4, h5, h6, h7, h8⟩
def rateV (r : Int) : Int := if (-2147483647) > r then (-2147483647) else r
theorem rate_I {r : Int} (h : I32 r) : I32 (rateV r) := by unfold rateV; unfold I32 at *; split <;> omega
def byV (r t : Int) : Int := turnV (rateV r * tk t)
theorem by_b (r t : Int) : 0 ≤ byV r t ∧ byV r t < 4294967296 := by unfold byV turnV; omega

theorem st_0 (F : Nat) (hF : 200 ≤ F) (ex) (G : Nat) (x0 x1 x2 x3 x4 x5 x6 x7 x8 x9 x10 x11 x12 : Int) (x14 : Bool) (x20 x21 x22 x23 x24 x25 x26 x27 x28 x29 x30 x31 x32 x33 x34 x35 x36 x37 x38 x39 x40 x41 x42 : Int) {t r0 r1 r2 : Int} (hr : I32 r0) (any : Bool) {M : Mt} (hM : MI M) :
    L_mb_0 F ex (G + 1) x0 x1 x2 x3 x4 x5 x6 x7 x8 x9 x10 x11 x12 t x14 any r0 r1 r2 0 x20 x21 x22 x23 x24 x25 x26 x27 x28 x29 x30 x31 x32 x33 x34 x35 x36 x37 x38 x39 x40 x41 x42 M.a0 M.a1 M.a2 M.a3 M.a4 M.a5 M.a6 M.a7 M.a8 = L_mb_0 F ex G x0 x1 x2 x3 x4 x5 x6 x7 x8 x9 x10 x11 x12 t x14 (any || goK M 0 (byV r0 t)) r0 r1 r2 1 x20 x21 x22 x23 x24 x25 x26 x27 x28 x29 x30 x31 x32 x33 x34 x35 x36 x37 x38 x39 x40 x41 x42 (goM M 0 (byV r0 t)).a0 (goM M 0 (byV r0 t)).a1 (goM M 0 (byV r0 t)).a2 (goM M 0 (byV r0 t)).a3 (goM M 0 (byV r0 t)).a4 (goM M 0 (byV r0 t)).a5 (goM M 0 (byV r0 t)).a6 (goM M 0 (byV r0 t)).a7 (goM M 0 (byV r0 t)).a8 := by
  have w : IntKind.wrap .i64 (0 + 1) = 1 := by decide
  obtain ⟨t1, t2⟩ := a_Turn F t (rate_I hr)
  have hb := by_b r0 t
  rw [L_mb_0]
  unfold B_mb_0 Bg_mb_0
  dsimp only
  refine bp rfl (bp rfl ?_)
  rw [show (iv [VV.v (.int .i32 r0), .v (.int .i32 r1), .v (.int .i32 r2)][Int.toNat 0 * 1]?) = r0 from rfl, show (if (-2147483647) > r0 then (-2147483647) else r0) = rateV r0 from rfl, w]
  refine bp t1 ?_
  rw [t2, show turnV (rateV r0 * tk t) = byV r0 t from rfl]
  by_cases h0 : byV r0 t = 0
  · refine bp (by rw [h0]; rfl) ?_
    unfold goM goK
    rw [if_pos h0, if_pos h0, Bool.or_false]
  · obtain ⟨a, a0, a1, a2, a3, a4, a5, a6, a7, a8⟩ := m_About0 F hF (x := byV r0 t) hb
    obtain ⟨m, m0, m1, m2, m3, m4, m5, m6, m7, m8, m9⟩ := m_Mul F hF hM (mi_ab 0 (byV r0 t))
    refine bn (by simpa using h0) (bp a ?_)
    rw [a0, a1, a2, a3, a4, a5, a6, a7, a8]
    refine bp m ?_
    rw [m0, m1, m2, m3, m4, m5, m6, m7, m8, m9]
    unfold goM goK
    rw [if_neg h0, if_neg h0]
    cases any
    · rfl
    · rfl

theorem st_1 (F : Nat) (hF : 200 ≤ F) (ex) (G : Nat) (x0 x1 x2 x3 x4 x5 x6 x7 x8 x9 x10 x11 x12 : Int) (x14 : Bool) (x20 x21 x22 x23 x24 x25 x26 x27 x28 x29 x30 x31 x32 x33 x34 x35 x36 x37 x38 x39 x40 x41 x42 : Int) {t r0 r1 r2 : Int} (hr : I32 r1) (any : Bool) {M : Mt} (hM : MI M) :
    L_mb_0 F ex (G + 1) x0 x1 x2 x3 x4 x5 x6 x7 x8 x9 x10 x11 x12 t x14 any r0 r1 r2 1 x20 x21 x22 x23 x24 x25 x26 x27 x28 x29 x30 x31 x32 x33 x34 x35 x36 x37 x38 x39 x40 x41 x42 M.a0 M.a1 M.a2 M.a3 M.a4 M.a5 M.a6 M.a7 M.a8 = L_mb_0 F ex G x0 x1 x2 x3 x4 x5 x6 x7 x8 x9 x10 x11 x12 t x14 (any || goK M 1 (byV r1 t)) r0 r1 r2 2 x20 x21 x22 x23 x24 x25 x26 x27 x28 x29 x30 x31 x32 x33 x34 x35 x36 x37 x38 x39 x40 x41 x42 (goM M 1 (byV r1 t)).a0 (goM M 1 (byV r1 t)).a1 (goM M 1 (byV r1 t)).a2 (goM M 1 (byV r1 t)).a3 (goM M 1 (byV r1 t)).a4 (goM M 1 (byV r1 t)).a5 (goM M 1 (byV r1 t)).a6 (goM M 1 (byV r1 t)).a7 (goM M 1 (byV r1 t)).a8 := by
  have w : IntKind.wrap .i64 (1 + 1) = 2 := by decide
  obtain ⟨t1, t2⟩ := a_Turn F t (rate_I hr)
  have hb := by_b r1 t
  rw [L_mb_0]
  unfold B_mb_0 Bg_mb_0
  dsimp only
  refine bp rfl (bp rfl ?_)
  rw [show (iv [VV.v (.int .i32 r0), .v (.int .i32 r1), .v (.int .i32 r2)][Int.toNat 1 * 1]?) = r1 from rfl, show (if (-2147483647) > r1 then (-2147483647) else r1) = rateV r1 from rfl, w]
  refine bp t1 ?_
  rw [t2, show turnV (rateV r1 * tk t) = byV r1 t from rfl]
  by_cases h0 : byV r1 t = 0
  · refine bp (by rw [h0]; rfl) ?_
    unfold goM goK
    rw [if_pos h0, if_pos h0, Bool.or_false]
  · obtain ⟨a, a0, a1, a2, a3, a4, a5, a6, a7, a8⟩ := m_About1 F hF (x := byV r1 t) hb
    obtain ⟨m, m0, m1, m2, m3, m4, m5, m6, m7, m8, m9⟩ := m_Mul F hF hM (mi_ab 1 (byV r1 t))
    refine bn (by simpa using h0) (bp a ?_)
    rw [a0, a1, a2, a3, a4, a5, a6, a7, a8]
    refine bp m ?_
    rw [m0, m1, m2, m3, m4, m5, m6, m7, m8, m9]
    unfold goM goK
    rw [if_neg h0, if_neg h0]
    cases any
    · rfl
    · rfl

theorem st_2 (F : Nat) (hF : 200 ≤ F) (ex) (G : Nat) (x0 x1 x2 x3 x4 x5 x6 x7 x8 x9 x10 x11 x12 : Int) (x14 : Bool) (x20 x21 x22 x23 x24 x25 x26 x27 x28 x29 x30 x31 x32 x33 x34 x35 x36 x37 x38 x39 x40 x41 x42 : Int) {t r0 r1 r2 : Int} (hr : I32 r2) (any : Bool) {M : Mt} (hM : MI M) :
    L_mb_0 F ex (G + 1) x0 x1 x2 x3 x4 x5 x6 x7 x8 x9 x10 x11 x12 t x14 any r0 r1 r2 2 x20 x21 x22 x23 x24 x25 x26 x27 x28 x29 x30 x31 x32 x33 x34 x35 x36 x37 x38 x39 x40 x41 x42 M.a0 M.a1 M.a2 M.a3 M.a4 M.a5 M.a6 M.a7 M.a8 = L_mb_0 F ex G x0 x1 x2 x3 x4 x5 x6 x7 x8 x9 x10 x11 x12 t x14 (any || goK M 2 (byV r2 t)) r0 r1 r2 3 x20 x21 x22 x23 x24 x25 x26 x27 x28 x29 x30 x31 x32 x33 x34 x35 x36 x37 x38 x39 x40 x41 x42 (goM M 2 (byV r2 t)).a0 (goM M 2 (byV r2 t)).a1 (goM M 2 (byV r2 t)).a2 (goM M 2 (byV r2 t)).a3 (goM M 2 (byV r2 t)).a4 (goM M 2 (byV r2 t)).a5 (goM M 2 (byV r2 t)).a6 (goM M 2 (byV r2 t)).a7 (goM M 2 (byV r2 t)).a8 := by
  have w : IntKind.wrap .i64 (2 + 1) = 3 := by decide
  obtain ⟨t1, t2⟩ := a_Turn F t (rate_I hr)
  have hb := by_b r2 t
  rw [L_mb_0]
  unfold B_mb_0 Bg_mb_0
  dsimp only
  refine bp rfl (bp rfl ?_)
  rw [show (iv [VV.v (.int .i32 r0), .v (.int .i32 r1), .v (.int .i32 r2)][Int.toNat 2 * 1]?) = r2 from rfl, show (if (-2147483647) > r2 then (-2147483647) else r2) = rateV r2 from rfl, w]
  refine bp t1 ?_
  rw [t2, show turnV (rateV r2 * tk t) = byV r2 t from rfl]
  by_cases h0 : byV r2 t = 0
  · refine bp (by rw [h0]; rfl) ?_
    unfold goM goK
    rw [if_pos h0, if_pos h0, Bool.or_false]
  · obtain ⟨a, a0, a1, a2, a3, a4, a5, a6, a7, a8⟩ := m_About2 F hF (x := byV r2 t) hb
    obtain ⟨m, m0, m1, m2, m3, m4, m5, m6, m7, m8, m9⟩ := m_Mul F hF hM (mi_ab 2 (byV r2 t))
    refine bn (by simpa using h0) (bp a ?_)
    rw [a0, a1, a2, a3, a4, a5, a6, a7, a8]
    refine bp m ?_
    rw [m0, m1, m2, m3, m4, m5, m6, m7, m8, m9]
    unfold goM goK
    rw [if_neg h0, if_neg h0]
    cases any
    · rfl
    · rfl

theorem f_Step (F : Nat) (hF : 200 ≤ F) {a : Att} (hM : MI a.m) (hn : a.n < 9223372036854775807 ∧ -9223372036854775808 ≤ a.n) {r0 r1 r2 t : Int} (h0 : I32 r0) (h1 : I32 r1) (h2 : I32 r2) :
    f_mb F a.m.a0 a.m.a1 a.m.a2 a.m.a3 a.m.a4 a.m.a5 a.m.a6 a.m.a7 a.m.a8 a.n r0 r1 r2 t = some (.v (.tuple #[.agg #[.int .i64 (stepA a (byV r0 t) (byV r1 t) (byV r2 t)).m.a0, .int .i64 (stepA a (byV r0 t) (byV r1 t) (byV r2 t)).m.a1, .int .i64 (stepA a (byV r0 t) (byV r1 t) (byV r2 t)).m.a2, .int .i64 (stepA a (byV r0 t) (byV r1 t) (byV r2 t)).m.a3, .int .i64 (stepA a (byV r0 t) (byV r1 t) (byV r2 t)).m.a4, .int .i64 (stepA a (byV r0 t) (byV r1 t) (byV r2 t)).m.a5, .int .i64 (stepA a (byV r0 t) (byV r1 t) (byV r2 t)).m.a6, .int .i64 (stepA a (byV r0 t) (byV r1 t) (byV r2 t)).m.a7, .int .i64 (stepA a (byV r0 t) (byV r1 t) (byV r2 t)).m.a8, .int .i64 (stepA a (byV r0 t) (byV r1 t) (byV r2 t)).n], .bool (go3K a.m (byV r0 t) (byV r1 t) (byV r2 t))])) := by
  obtain ⟨G, hG⟩ : ∃ G, F = G + 4 := ⟨F - 4, by omega⟩
  have g0 := mi_go hM 0 (byV r0 t)
  have g1 := mi_go g0 1 (byV r1 t)
  have g2 := mi_go g1 2 (byV r2 t)
  unfold f_mb fg_mb
  rw [show L_mb_0 F _ F = L_mb_0 F _ (G + 4) from congrArg (L_mb_0 F _) hG]
  rw [st_0 F hF _ (G + 3) (hr := h0) (any := false) (hM := hM), st_1 F hF _ (G + 2) (hr := h1) (hM := g0), st_2 F hF _ (G + 1) (hr := h2) (hM := g1), L_mb_0]
  unfold B_mb_0 Bg_mb_0
  refine bn rfl ?_
  have ek : (false || goK a.m 0 (byV r0 t) || goK (goM a.m 0 (byV r0 t)) 1 (byV r1 t) || goK (goM (goM a.m 0 (byV r0 t)) 1 (byV r1 t)) 2 (byV r2 t)) = go3K a.m (byV r0 t) (byV r1 t) (byV r2 t) := by rw [Bool.false_or]; rfl
  rw [ek]
  have hg : goM (goM (goM a.m 0 (byV r0 t)) 1 (byV r1 t)) 2 (byV r2 t) = go3 a.m (byV r0 t) (byV r1 t) (byV r2 t) := rfl
  rw [hg] at g2 ⊢
  generalize hK : go3K a.m (byV r0 t) (byV r1 t) (byV r2 t) = K
  unfold stepA
  generalize go3 a.m (byV r0 t) (byV r1 t) (byV r2 t) = B at *
  by_cases hc : 15 ≤ a.n
  · rw [if_pos hc]
    obtain ⟨m, m0, m1, m2, m3, m4, m5, m6, m7, m8⟩ := m_Ortho F hF g2
    refine bp (dt hc) (bp m ?_)
    rw [m0, m1, m2, m3, m4, m5, m6, m7, m8]
  · rw [if_neg hc]
    refine bn (df (by omega)) ?_
    rw [wi64_in (by unfold I64; omega)]

theorem a_Step (F : Nat) (hF : 200 ≤ F) {a : Att} (hM : MI a.m) (hn : a.n < 9223372036854775807 ∧ -9223372036854775808 ≤ a.n) {r0 r1 r2 t : Int} (h0 : I32 r0) (h1 : I32 r1) (h2 : I32 r2) : ok_mb F a.m.a0 a.m.a1 a.m.a2 a.m.a3 a.m.a4 a.m.a5 a.m.a6 a.m.a7 a.m.a8 a.n r0 r1 r2 t = true ∧ o_mb_0 F a.m.a0 a.m.a1 a.m.a2 a.m.a3 a.m.a4 a.m.a5 a.m.a6 a.m.a7 a.m.a8 a.n r0 r1 r2 t = (stepA a (byV r0 t) (byV r1 t) (byV r2 t)).m.a0 ∧ o_mb_1 F a.m.a0 a.m.a1 a.m.a2 a.m.a3 a.m.a4 a.m.a5 a.m.a6 a.m.a7 a.m.a8 a.n r0 r1 r2 t = (stepA a (byV r0 t) (byV r1 t) (byV r2 t)).m.a1 ∧ o_mb_2 F a.m.a0 a.m.a1 a.m.a2 a.m.a3 a.m.a4 a.m.a5 a.m.a6 a.m.a7 a.m.a8 a.n r0 r1 r2 t = (stepA a (byV r0 t) (byV r1 t) (byV r2 t)).m.a2 ∧ o_mb_3 F a.m.a0 a.m.a1 a.m.a2 a.m.a3 a.m.a4 a.m.a5 a.m.a6 a.m.a7 a.m.a8 a.n r0 r1 r2 t = (stepA a (byV r0 t) (byV r1 t) (byV r2 t)).m.a3 ∧ o_mb_4 F a.m.a0 a.m.a1 a.m.a2 a.m.a3 a.m.a4 a.m.a5 a.m.a6 a.m.a7 a.m.a8 a.n r0 r1 r2 t = (stepA a (byV r0 t) (byV r1 t) (byV r2 t)).m.a4 ∧ o_mb_5 F a.m.a0 a.m.a1 a.m.a2 a.m.a3 a.m.a4 a.m.a5 a.m.a6 a.m.a7 a.m.a8 a.n r0 r1 r2 t = (stepA a (byV r0 t) (byV r1 t) (byV r2 t)).m.a5 ∧ o_mb_6 F a.m.a0 a.m.a1 a.m.a2 a.m.a3 a.m.a4 a.m.a5 a.m.a6 a.m.a7 a.m.a8 a.n r0 r1 r2 t = (stepA a (byV r0 t) (byV r1 t) (byV r2 t)).m.a6 ∧ o_mb_7 F a.m.a0 a.m.a1 a.m.a2 a.m.a3 a.m.a4 a.m.a5 a.m.a6 a.m.a7 a.m.a8 a.n r0 r1 r2 t = (stepA a (byV r0 t) (byV r1 t) (byV r2 t)).m.a7 ∧ o_mb_8 F a.m.a0 a.m.a1 a.m.a2 a.m.a3 a.m.a4 a.m.a5 a.m.a6 a.m.a7 a.m.a8 a.n r0 r1 r2 t = (stepA a (byV r0 t) (byV r1 t) (byV r2 t)).m.a8 ∧ o_mb_9 F a.m.a0 a.m.a1 a.m.a2 a.m.a3 a.m.a4 a.m.a5 a.m.a6 a.m.a7 a.m.a8 a.n r0 r1 r2 t = (stepA a (byV r0 t) (byV r1 t) (byV r2 t)).n ∧ o_mb_10 F a.m.a0 a.m.a1 a.m.a2 a.m.a3 a.m.a4 a.m.a5 a.m.a6 a.m.a7 a.m.a8 a.n r0 r1 r2 t = go3K a.m (byV r0 t) (byV r1 t) (byV r2 t) := k_mb F _ _ _ _ _ _ _ _ _ _ _ _ _ _ (f_Step F hF hM hn h0 h1 h2)
theorem a_New (F : Nat) (hF : 200 ≤ F) : ok_yb F = true ∧ o_yb_0 F = newA.m.a0 ∧ o_yb_1 F = newA.m.a1 ∧ o_yb_2 F = newA.m.a2 ∧ o_yb_3 F = newA.m.a3 ∧ o_yb_4 F = newA.m.a4 ∧ o_yb_5 F = newA.m.a5 ∧ o_yb_6 F = newA.m.a6 ∧ o_yb_7 F = newA.m.a7 ∧ o_yb_8 F = newA.m.a8 ∧ o_yb_9 F = newA.n := by
  refine k_yb F ?_
  unfold f_yb fg_yb
  obtain ⟨m, m0, m1, m2, m3, m4, m5, m6, m7, m8⟩ := a_mSame F hF
  refine bp m ?_
  rw [m0, m1, m2, m3, m4, m5, m6, m7, m8]
  rfl
theorem a_aHeading (F : Nat) (hF : 200 ≤ F) {a : Att} (hM : MI a.m) : ok_k F a.m.a0 a.m.a1 a.m.a2 a.m.a3 a.m.a4 a.m.a5 a.m.a6 a.m.a7 a.m.a8 a.n = true ∧ o_k_0 F a.m.a0 a.m.a1 a.m.a2 a.m.a3 a.m.a4 a.m.a5 a.m.a6 a.m.a7 a.m.a8 a.n = angle a.m.a3 a.m.a0 := by
  refine k_k F _ _ _ _ _ _ _ _ _ _ ?_
  unfold f_k fg_k
  obtain ⟨h, k⟩ := a_Heading F hF (a1 := a.m.a1) (a2 := a.m.a2) (a4 := a.m.a4) (a5 := a.m.a5) (a6 := a.m.a6) (a7 := a.m.a7) (a8 := a.m.a8) hM.1 hM.2.2.2.1
  refine bp h ?_
  rw [k]
theorem mi_inv {a : Att} (h : InvA a) : MI a.m ∧ (a.n < 9223372036854775807 ∧ -9223372036854775808 ≤ a.n) := by
  obtain ⟨n0, n1, hn⟩ := h
  exact ⟨mi_near (by omega) hn, by omega⟩
/-- which way it heads, from 0 -/
def turnsV (g t : Int) : Int := (g - t + 2147483648) % 4294967296 - 2147483648
theorem wrap_turns {g t : Int} (t' : Int) (h : t' % 4294967296 = t % 4294967296) : IntKind.wrap .i32 (IntKind.wrap .u32 (g - t')) = turnsV g t := by
  rw [wi32, wu32]
  unfold turnsV
  omega
namespace Cx
theorem head_dir {M : Mt} {t N : Int} {e : Rat} (he : e ≤ 500000) (ht : 0 ≤ t ∧ t < 4294967296) (h : Dir M t e) (hN : 5 / 4 * (2 * e + 242) ≤ (N : Rat)) : -N ≤ turnsV (angle M.a3 M.a0) t ∧ turnsV (angle M.a3 M.a0) t ≤ N := by
  have k0 := h.2.1.re
  have k1 := h.2.2.im
  have hn : Nm (sub (cx M.a0 M.a3) (sc One (VI t))) (e + e) := Nm.of (a := sub (cx M.a0 M.a3) (sc One (VI t))) k0.1 (by have := k0.2; exact this) k1.1 k1.2
  exact head_near (e := e + e) (by grind) ht hn (by grind)
end Cx
namespace Cx
theorem dir_new : Dir newA.m 0 0 := by
  have hv : VI 0 = one := VI_zero
  have e : sub (cx 4294967296 0) (sc One (VI 0)) = ⟨0, 0⟩ := by
    rw [hv]
    apply eqC <;> simp only [sub, cx, sc, one] <;> decide +kernel
  have nz : Nm (sub (cx 4294967296 0) (sc One (VI 0))) 0 := by
    rw [e]
    exact ⟨by decide +kernel, by decide +kernel⟩
  exact ⟨⟨rfl, rfl, rfl, rfl⟩, nz, nz⟩
end Cx
theorem a_works27 (F : Nat) (hF : 200 ≤ F) : ok_l F = true ∧ o_l_0 F = true := by
  refine k_l F ?_
  unfold f_l fg_l
  dsimp only
  obtain ⟨n, n0, n1, n2, n3, n4, n5, n6, n7, n8, n9⟩ := a_New F hF
  rw [n0, n1, n2, n3, n4, n5, n6, n7, n8, n9]
  obtain ⟨hM, hn⟩ := mi_inv inv_new
  have z : I32 0 := by unfold I32; omega
  obtain ⟨s, s0, s1, s2, s3, s4, s5, s6, s7, s8, s9, s10⟩ := a_Step F hF hM hn (t := 25) z z (show I32 65536 by unfold I32; omega)
  have b0 : byV 0 25 = 0 := by decide
  have b2 : byV 65536 25 = 1073741824 := by decide
  rw [b0, b2] at s0 s1 s2 s3 s4 s5 s6 s7 s8 s9 s10
  rw [s0, s1, s2, s3, s4, s5, s6, s7, s8, s9, s10]
  obtain ⟨hi, hk⟩ := inv_step inv_new (show (0 : Int) ≤ 0 ∧ (0 : Int) < 4294967296 by omega) (show (0 : Int) ≤ 0 ∧ (0 : Int) < 4294967296 by omega) (show (0 : Int) ≤ 1073741824 ∧ (1073741824 : Int) < 4294967296 by omega)
  have hd := Cx.dir_step (a := newA) (t := 0) (b := 1073741824) (e := 0) (by decide +kernel) inv_new (by omega) (by omega) Cx.dir_new
  rw [if_neg (show ¬ 15 ≤ newA.n by decide), show ((0 : Int) + 1073741824) % 4294967296 = 1073741824 by decide] at hd
  obtain ⟨hh, hv⟩ := a_aHeading F hF (mi_inv hi).1
  have hq := Cx.head_dir (N := 4095) (by decide +kernel) (by omega) hd (by decide +kernel)
  have hn1 : (stepA newA 0 0 1073741824).n = 1 := by unfold stepA; rw [if_neg (show ¬ 15 ≤ newA.n by decide)]; rfl
  refine bp n (bp s (bp hh ?_))
  rw [hv, wrap_turns (t := 1073741824) 1073741824 rfl, hk, hn1]
  refine bp rfl (bp (dt (by omega)) (bp (dt (by omega)) rfl))
end Go.Xv
namespace Go.Xv
theorem rows_get (k : IntKind) (zs : List Int) {j : Nat} (h : j < zs.length) : isI k (zs.map fun z => VV.v (.int k z))[j]? = true ∧ iv (zs.map fun z => VV.v (.int k z))[j]? = zs[j] := by
  have : (zs.map fun z => VV.v (.int k z))[j]? = some (.v (.int k zs[j])) := by simp [h]
  rw [this]
  exact ⟨by simp [isI], rfl⟩
theorem a_aCheck (F : Nat) (hF : 200 ≤ F) {a : Att} (h : InvA a) : ok_ma F a.m.a0 a.m.a1 a.m.a2 a.m.a3 a.m.a4 a.m.a5 a.m.a6 a.m.a7 a.m.a8 a.n = true ∧ o_ma_0 F a.m.a0 a.m.a1 a.m.a2 a.m.a3 a.m.a4 a.m.a5 a.m.a6 a.m.a7 a.m.a8 a.n = 0 := by
  refine k_ma F _ _ _ _ _ _ _ _ _ _ ?_
  unfold f_ma fg_ma
  obtain ⟨i0, i1, i2, i3, i4, i5, i6, i7, i8⟩ := (mi_inv h).1
  obtain ⟨o0, o1⟩ := a_mat_Off F hF i0 i1 i2 i3 i4 i5 i6 i7 i8
  have hb := inv_off h
  unfold offM at hb
  obtain ⟨n0, n1, _⟩ := h
  refine bn (df (by omega)) (bn (df (by omega)) (bp o0 (bn (by rw [o1]; exact df (by omega)) rfl)))
theorem lp_Upright (F : Nat) (hF : 200 ≤ F) (ex0) (zs : List Int) (hz : ∀ z ∈ zs, I32 z) {len : Nat} (hlen : len * 3 ≤ zs.length) (t : Int) (x4 : Bool) :
    ∀ (k n i : Nat) (a b : Att), i + k = 100 → k < n → InvA a → InvA b → b.m = sameM →
      L_a_0 F ex0 (fun _ _ _ _ _ _ _ _ _ _ _ _ _ _ _ _ _ _ _ _ _ _ _ _ _ _ => some (.v (.bool true))) n (zs.map fun z => .v (.int .i32 z)) 0 len t x4 i a.m.a0 a.m.a1 a.m.a2 a.m.a3 a.m.a4 a.m.a5 a.m.a6 a.m.a7 a.m.a8 a.n b.m.a0 b.m.a1 b.m.a2 b.m.a3 b.m.a4 b.m.a5 b.m.a6 b.m.a7 b.m.a8 b.n = some (.v (.bool true))
  | _, 0, _, _, _, _, h, _, _, _ => absurd h (by omega)
  | 0, n + 1, i, a, b, hi, _, _, _, _ => by
    rw [L_a_0]
    unfold B_a_0 Bg_a_0
    dsimp only
    by_cases h : (i : Int) < len
    · exact bp (dt h) (bn (df (by omega)) rfl)
    · exact bn (df h) rfl
  | k + 1, n + 1, i, a, b, hi, hk, hA, hB, hs => by
    have ih := lp_Upright F hF ex0 zs hz hlen t x4 k n (i + 1)
    have w : IntKind.wrap .i64 ((i : Int) + 1) = ((i + 1 : Nat) : Int) := by rw [wi64_in (by unfold I64; omega)]; omega
    rw [L_a_0]
    unfold B_a_0 Bg_a_0
    dsimp only
    by_cases h : (i : Int) < len
    · obtain ⟨g0, e0⟩ := rows_get .i32 zs (j := i * 3) (by omega)
      obtain ⟨g1, e1⟩ := rows_get .i32 zs (j := i * 3 + 1) (by omega)
      obtain ⟨g2, e2⟩ := rows_get .i32 zs (j := i * 3 + 1 + 1) (by omega)
      have r0 : I32 zs[i * 3] := hz _ (List.getElem_mem _)
      have r1 : I32 zs[i * 3 + 1] := hz _ (List.getElem_mem _)
      have r2 : I32 zs[i * 3 + 1 + 1] := hz _ (List.getElem_mem _)
      have z : I32 0 := by unfold I32; omega
      obtain ⟨hM, hN⟩ := mi_inv hA
      obtain ⟨hM2, hN2⟩ := mi_inv hB
      obtain ⟨s', s0, s1, s2, s3, s4, s5, s6, s7, s8, s9, s10⟩ := a_Step F hF hM hN (t := t) r0 r1 r2
      obtain ⟨u', u0, u1, u2, u3, u4, u5, u6, u7, u8, u9, u10⟩ := a_Step F hF hM2 hN2 (t := t) z z z
      have b0 : byV 0 t = 0 := by
        unfold byV
        rw [show rateV 0 = 0 by decide, Int.zero_mul]; decide
      rw [b0] at u0 u1 u2 u3 u4 u5 u6 u7 u8 u9 u10
      have zz : (0 : Int) ≤ 0 ∧ (0 : Int) < 4294967296 := by omega
      obtain ⟨hA', kA⟩ := inv_step hA (by_b zs[i * 3] t) (by_b zs[i * 3 + 1] t) (by_b zs[i * 3 + 1 + 1] t)
      obtain ⟨hB', kB⟩ := inv_step hB zz zz zz
      have hs' := step_same hs
      rw [show 0 + Int.toNat (i : Int) * 3 = i * 3 by rw [Int.toNat_natCast]; omega, e0, e1, e2, s0, s1, s2, s3, s4, s5, s6, s7, s8, s9, s10, u0, u1, u2, u3, u4, u5, u6, u7, u8, u9, u10, kA, kB, w]
      generalize stepA a (byV zs[i * 3] t) (byV zs[i * 3 + 1] t) (byV zs[i * 3 + 1 + 1] t) = a' at *
      generalize stepA b 0 0 0 = b' at *
      obtain ⟨c0, c1⟩ := a_aCheck F hF hA'
      obtain ⟨i0, i1, i2, i3, i4, i5, i6, i7, i8⟩ := (mi_inv hA').1
      obtain ⟨o0, o1⟩ := a_ref07_Off F hF i0 i1 i2 i3 i4 i5 i6 i7 i8
      have hb := inv_off hA'
      unfold offM at hb
      obtain ⟨m, m0, m1, m2, m3, m4, m5, m6, m7, m8⟩ := a_rSame F
      rw [c1, o1, m0, m1, m2, m3, m4, m5, m6, m7, m8]
      have ih2 := ih a' b' (by omega) (by omega) hA' hB' hs'
      refine bp (dt h) (bp (dt (by omega)) (bp (by rw [dt (by omega), dt (by omega)]; rfl) (bp (by rw [g0, g1, g2]; rfl) (bp s' (bp u' (bn rfl (bn rfl (bp c0 (bn rfl (bp o0 (bn (df (by omega)) (bp m (bn ?_ ih2)))))))))))))
      rw [hs']
      rfl
    · exact bn (df h) rfl
theorem f_AttUpright (F : Nat) (hF : 200 ≤ F) {zs : List Int} {len : Nat} {t : Int} (hz : ∀ z ∈ zs, I32 z) (hlen : len * 3 ≤ zs.length) (_ht : I64 t) :
    f_a F (zs.map fun n => .v (.int .i32 n)) 0 len t = some (.v (.bool true)) := by
  obtain ⟨w0, w1⟩ := a_works27 F hF
  obtain ⟨n, n0, n1, n2, n3, n4, n5, n6, n7, n8, n9⟩ := a_New F hF
  unfold f_a fg_a
  refine bp w0 (bn (by rw [w1]; rfl) (bp n (bp n ?_)))
  rw [n0, n1, n2, n3, n4, n5, n6, n7, n8, n9]
  exact lp_Upright F hF _ zs hz hlen _ false 100 F 0 newA newA (by omega) (by omega) inv_new inv_new rfl
end Go.Xv
namespace Go.Proofs.Ytiahhalhbacgaaa.attUpright
open Go.ChangeShapes Go.WideShapes Go.ChangeAt Go.RowKit Go.Xv Go.Proofs.Ytiahhalhbacgaaa.base
set_option linter.unusedVariables false
set_option maxRecDepth 100000 in
theorem lifted (os : Os) (started : os.Started) (H : Type) (enc : TypeId × Value → H) :
    ReturnsInHanded {} Try.checked os 8 .any (Rows.attUprightSpec.pre6 enc Try.prog Try.f8 Rows.attUprightRow.domain false) (Rows.attUprightSpec.post enc Try.prog Try.f8 false true false false) := by
  refine returnsInHanded_of_change (C := Try.checked) own started (by kernel_rfl) Try.func8
    (ChangeSpec.witness6 (enc := enc) (C := Try.checked) false ⟨#[], #[.slice none 0 0, .int .i64 0], []⟩ 8 (by kernel_rfl) (by kernel_rfl) (by kernel_rfl) (by kernel_rfl)) ?_
  intro W base args ds gs before hval0 hW hcnd _
  have hval : ∀ (j : Nat) t v, Try.f8.params[j]? = some t → args[j]? = some v → Value.okWide Try.prog W .any base t v := hval0
  have hW' := hW
  obtain ⟨p, q, hA0, hV, rfl, hfz, hnd⟩ := hW
  have hA : DataW.TrodAll enc Try.prog W 0 (fun _ => true) true Try.f8.params.toList args.toList ds p := hA0
  rw [Try.params8] at hA hval
  obtain ⟨v0, vs0, d0, ds0, p0, q0, hargs, rfl, rfl, h0, r0⟩ := trodAll_cons hA
  obtain ⟨v1, vs1, d1, ds1, p1, q1, rfl, rfl, rfl, h1, r1⟩ := trodAll_cons r0
  obtain ⟨rfl, rfl, rfl⟩ := trodAll_nil r1
  obtain rfl : args = #[v0, v1] := by cases args; simp_all
  obtain ⟨z0, len0, cap0, p0, rfl, hl0, hw0, hr0⟩ := open_rows_int 3 (e := 65) (k := .i32) (by kernel_rfl) (by kernel_rfl) (by kernel_rfl) rfl (hval 0 69 v0 rfl rfl) h0
  obtain ⟨a0, rfl, wa0⟩ := open_num (k := .i64) (by kernel_rfl) (hval 1 3 v1 rfl rfl) h1
  refine law_contract laidOut (g_a fuel0) (bt := 4) (by kernel_rfl) (by kernel_rfl) (by kernel_rfl) (by kernel_rfl) rfl hW' ?_
  refine ⟨[.fs (z0.map fun n => .v (.int .i32 n)) 0 len0 3, .v (.int .i64 a0)], rfl, fun i x hx => ?_, unS_of ?_⟩
  · match i, hx with
    | 0, hx => exact ⟨_, rfl, by cases hx; exact hr0 _⟩
    | 1, hx => exact ⟨_, rfl, by cases hx; exact Rel.v _ _⟩
    | _ + 2, hx => cases hx
  · obtain ⟨y1, y2⟩ := k_a fuel0 (z0.map fun n => .v (.int .i32 n)) 0 len0 a0 (f_AttUpright fuel0 (by unfold fuel0; omega) (fun n hn => wf_i32 (hw0 n hn)) hl0 (wf_i64 wa0))
    have e : s_a fuel0 [.fs (z0.map fun n => .v (.int .i32 n)) 0 len0 3, .v (.int .i64 a0)] = some (ok_a fuel0 (z0.map fun n => .v (.int .i32 n)) 0 len0 a0, .v (.bool (o_a_0 fuel0 (z0.map fun n => .v (.int .i32 n)) 0 len0 a0))) := by kernel_rfl
    rw [e, y1, y2]
theorem over : Rows.attUprightRow.holds Try.pinned (OpenSpec.ofChange Rows.attUprightSpec) :=
  OpenClaim.holds_of_wide 8 Try.f8 rfl rfl rfl rfl rfl rfl rfl ⟨rfl, rfl, rfl, rfl, rfl⟩ rfl rfl rfl rfl rfl (by kernel_rfl) Try.func8 (joined_of (P := Try.prog) behind enter_ rfl rfl ⟨rfl, rfl⟩ (by kernel_rfl))
    (of_decide_eq_true (by kernel_rfl)) (by unfold Func.isWrapper; first | (rw [if_pos (by decide +kernel)]; kernel_rfl) | (rw [if_neg (by decide +kernel)]; exact ⟨rfl, rfl⟩))
    (fun os started H enc _ => lifted os started H enc)
/-- The statement. -/
theorem proved : Rows.AttUprightSaid := over
#print axioms proved
end Go.Proofs.Ytiahhalhbacgaaa.attUpright
