/- Length, greatest axis, what is clamped, and the vector of length One are as the document says: the law returns true for every input, and leaves its arguments as they were. -/
import Derived.Test.YtpnggkefjgpleaaLVecSizes2
namespace Go.Xv
def clmV (a m : Int) : Int := min (max a (-m)) m
def clmC (a m : Int) : Bool := decide (min (max a (-m)) m ≠ a)
theorem w_neg {m : Int} (hm : 0 ≤ m ∧ m ≤ 9223372036854775807) : IntKind.wrap .i64 (0 - m) = -m := by rw [wi64_in (by unfold I64; omega), Int.zero_sub]
theorem clampF (F : Nat) {a m : Int} (hm : 0 ≤ m) : ok_fix_Clamp F a (-m) m = true ∧ o_fix_Clamp_0 F a (-m) m = clmV a m ∧ o_fix_Clamp_1 F a (-m) m = clmC a m := by
  obtain ⟨h1, h2, h3⟩ := k_fix_Clamp F _ _ _ (f_fClamp F (a := a) (l := -m) (h := m))
  rw [if_neg (by omega)] at h2 h3
  exact ⟨h1, h2, h3⟩
theorem a_Clamp_0 (F : Nat) {a0 a1 a2 m : Int} (hm : 0 ≤ m ∧ m ≤ 9223372036854775807) : ok_vec_Clamp_1 F 0 a0 a1 a2 m = true ∧ o_vec_Clamp_1_0 F 0 a0 a1 a2 m = clmV a0 m ∧ o_vec_Clamp_1_1 F 0 a0 a1 a2 m = clmC a0 m := by
  refine k_vec_Clamp_1 F _ _ _ _ _ ?_
  unfold f_vec_Clamp_1
  rw [w_neg hm]
  obtain ⟨h1, h2, h3⟩ := clampF F (a := a0) hm.1
  refine bp rfl (bp rfl (bp h1 ?_))
  exact congrArg some (show VV.v (.tuple #[.int .i64 (o_fix_Clamp_0 F a0 (-m) m), .bool (o_fix_Clamp_1 F a0 (-m) m)]) = _ by rw [h2, h3])
theorem a_Unit_0 (F : Nat) (hF : 200 ≤ F) {a0 a1 a2 m : Int} (h : I64 a0) (hm : I64 m) : ok_vec_Unit_1 F 0 a0 a1 a2 m = true ∧ o_vec_Unit_1_0 F 0 a0 a1 a2 m = fdivV a0 m ∧ o_vec_Unit_1_1 F 0 a0 a1 a2 m = fdivC a0 m := by
  refine k_vec_Unit_1 F _ _ _ _ _ ?_
  unfold f_vec_Unit_1
  obtain ⟨h1, h2, h3⟩ := k_fix_Div F _ _ (f_fDiv F hF h hm)
  refine bp rfl (bp rfl (bp h1 ?_))
  exact congrArg some (show VV.v (.tuple #[.int .i64 (o_fix_Div_0 F a0 m), .bool (o_fix_Div_1 F a0 m)]) = _ by rw [h2, h3])
theorem a_Clamp_1 (F : Nat) {a0 a1 a2 m : Int} (hm : 0 ≤ m ∧ m ≤ 9223372036854775807) : ok_vec_Clamp_1 F 1 a0 a1 a2 m = true ∧ o_vec_Clamp_1_0 F 1 a0 a1 a2 m = clmV a1 m ∧ o_vec_Clamp_1_1 F 1 a0 a1 a2 m = clmC a1 m := by
  refine k_vec_Clamp_1 F _ _ _ _ _ ?_
  unfold f_vec_Clamp_1
  rw [w_neg hm]
  obtain ⟨h1, h2, h3⟩ := clampF F (a := a1) hm.1
  refine bp rfl (bp rfl (bp h1 ?_))
  exact congrArg some (show VV.v (.tuple #[.int .i64 (o_fix_Clamp_0 F a1 (-m) m), .bool (o_fix_Clamp_1 F a1 (-m) m)]) = _ by rw [h2, h3])
theorem a_Unit_1 (F : Nat) (hF : 200 ≤ F) {a0 a1 a2 m : Int} (h : I64 a1) (hm : I64 m) : ok_vec_Unit_1 F 1 a0 a1 a2 m = true ∧ o_vec_Unit_1_0 F 1 a0 a1 a2 m = fdivV a1 m ∧ o_vec_Unit_1_1 F 1 a0 a1 a2 m = fdivC a1 m := by
  refine k_vec_Unit_1 F _ _ _ _ _ ?_
  unfold f_vec_Unit_1
  obtain ⟨h1, h2, h3⟩ := k_fix_Div F _ _ (f_fDiv F hF h hm)
  refine bp rfl (bp rfl (bp h1 ?_))
  exact congrArg some (show VV.v (.tuple #[.int .i64 (o_fix_Div_0 F a1 m), .bool (o_fix_Div_1 F a1 m)]) = _ by rw [h2, h3])
theorem a_Clamp_2 (F : Nat) {a0 a1 a2 m : Int} (hm : 0 ≤ m ∧ m ≤ 9223372036854775807) : ok_vec_Clamp_1 F 2 a0 a1 a2 m = true ∧ o_vec_Clamp_1_0 F 2 a0 a1 a2 m = clmV a2 m ∧ o_vec_Clamp_1_1 F 2 a0 a1 a2 m = clmC a2 m := by
  refine k_vec_Clamp_1 F _ _ _ _ _ ?_
  unfold f_vec_Clamp_1
  rw [w_neg hm]
  obtain ⟨h1, h2, h3⟩ := clampF F (a := a2) hm.1
  refine bp rfl (bp rfl (bp h1 ?_))
  exact congrArg some (show VV.v (.tuple #[.int .i64 (o_fix_Clamp_0 F a2 (-m) m), .bool (o_fix_Clamp_1 F a2 (-m) m)]) = _ by rw [h2, h3])
theorem a_Unit_2 (F : Nat) (hF : 200 ≤ F) {a0 a1 a2 m : Int} (h : I64 a2) (hm : I64 m) : ok_vec_Unit_1 F 2 a0 a1 a2 m = true ∧ o_vec_Unit_1_0 F 2 a0 a1 a2 m = fdivV a2 m ∧ o_vec_Unit_1_1 F 2 a0 a1 a2 m = fdivC a2 m := by
  refine k_vec_Unit_1 F _ _ _ _ _ ?_
  unfold f_vec_Unit_1
  obtain ⟨h1, h2, h3⟩ := k_fix_Div F _ _ (f_fDiv F hF h hm)
  refine bp rfl (bp rfl (bp h1 ?_))
  exact congrArg some (show VV.v (.tuple #[.int .i64 (o_fix_Div_0 F a2 m), .bool (o_fix_Div_1 F a2 m)]) = _ by rw [h2, h3])
theorem or3 {x y z : Int} {a b c : Bool} : (bif a then (some (VV.v (.tuple #[.agg #[.int .i64 x, .int .i64 y, .int .i64 z], .bool true])) : R) else (bif b then (some (.v (.tuple #[.agg #[.int .i64 x, .int .i64 y, .int .i64 z], .bool true]))) else (some (.v (.tuple #[.agg #[.int .i64 x, .int .i64 y, .int .i64 z], .bool c]))))) = some (.v (.tuple #[.agg #[.int .i64 x, .int .i64 y, .int .i64 z], .bool (a || b || c)])) := by
  cases a <;> cases b <;> rfl
theorem mx0 {a : Int} : (if 0 > a then 0 else a) = max a 0 := by split <;> omega
theorem a_vClamp (F : Nat) (hF : 200 ≤ F) {a0 a1 a2 a3 : Int} (h3 : I64 a3) : ok_vec_Clamp F a0 a1 a2 a3 = true ∧ o_vec_Clamp_0 F a0 a1 a2 a3 = clmV a0 (max a3 0) ∧ o_vec_Clamp_1 F a0 a1 a2 a3 = clmV a1 (max a3 0) ∧ o_vec_Clamp_2 F a0 a1 a2 a3 = clmV a2 (max a3 0) ∧ o_vec_Clamp_3 F a0 a1 a2 a3 = (clmC a0 (max a3 0) || clmC a1 (max a3 0) || clmC a2 (max a3 0)) := by
  refine k_vec_Clamp F _ _ _ _ ?_
  unfold f_vec_Clamp
  rw [mx0]
  have hm : 0 ≤ max a3 0 ∧ max a3 0 ≤ 9223372036854775807 := by unfold I64 at h3; omega
  obtain ⟨e1, e2, e3, e4, e5⟩ := k_vec_each F _ _ _ _ (f_vec_each' F hF (a_Clamp_0 F hm) (a_Clamp_1 F hm) (a_Clamp_2 F hm))
  refine bp e1 ?_
  rw [e2, e3, e4, e5]
theorem rClampF (F : Nat) {a m : Int} (hm : 0 ≤ m) : ok_ref02_Clamp F a (-m) m = true ∧ o_ref02_Clamp_0 F a (-m) m = clmV a m ∧ o_ref02_Clamp_1 F a (-m) m = clmC a m := by
  refine k_ref02_Clamp F _ _ _ ?_
  unfold f_ref02_Clamp clmV clmC
  have cong : ∀ {n z : Int} {c d : Bool}, n = z → c = d → (some (VV.v (.tuple #[.int .i64 n, .bool c])) : R) = some (.v (.tuple #[.int .i64 z, .bool d])) := by intro n z c d h k; rw [h, k]
  refine bn (df (by omega)) ?_
  by_cases h1 : a > m
  · refine bp (dt h1) (bn (df (by omega)) (cong (by omega) ?_))
    rw [show min (max a (-m)) m = m by omega, Bool.eq_iff_iff]
    simp
  · refine bn (df h1) ?_
    by_cases h2 : a < -m
    · refine bp (dt h2) (cong (by omega) ?_)
      rw [show min (max a (-m)) m = -m by omega, Bool.eq_iff_iff]
      simp
    · refine bn (df h2) (cong (by omega) ?_)
      rw [show min (max a (-m)) m = a by omega]
      simp
theorem a_rvClamp (F : Nat) {a0 a1 a2 a3 : Int} (h3 : I64 a3) : ok_ref06_Clamp F a0 a1 a2 a3 = true ∧ o_ref06_Clamp_0 F a0 a1 a2 a3 = clmV a0 (max a3 0) ∧ o_ref06_Clamp_1 F a0 a1 a2 a3 = clmV a1 (max a3 0) ∧ o_ref06_Clamp_2 F a0 a1 a2 a3 = clmV a2 (max a3 0) ∧ o_ref06_Clamp_3 F a0 a1 a2 a3 = (clmC a0 (max a3 0) || clmC a1 (max a3 0) || clmC a2 (max a3 0)) := by
  refine k_ref06_Clamp F _ _ _ _ ?_
  unfold f_ref06_Clamp
  rw [mx0]
  have hm : 0 ≤ max a3 0 ∧ max a3 0 ≤ 9223372036854775807 := by unfold I64 at h3; omega
  obtain ⟨p1, p2, p3⟩ := rClampF F (a := a0) hm.1
  obtain ⟨q1, q2, q3⟩ := rClampF F (a := a1) hm.1
  obtain ⟨r1, r2, r3⟩ := rClampF F (a := a2) hm.1
  dsimp only
  rw [w_neg hm]
  refine bp p1 (bp q1 (bp r1 ?_))
  rw [p2, p3, q2, q3, r2, r3]
  exact or3
theorem sz_U {a : Int} (h : I64 a) : U64 (sz a) := by unfold sz; unfold I64 at h; unfold U64; split <;> omega
theorem sz_sq (a : Int) : sz a * sz a = a * a := by
  unfold sz
  split
  · rw [Int.neg_mul_neg]
  · rfl
theorem a_vbare (F : Nat) {a : Int} (h : I64 a) : ok_vec_bare F a = true ∧ o_vec_bare_0 F a = sz a := by
  refine k_vec_bare F _ ?_
  unfold f_vec_bare sz
  unfold I64 at h
  by_cases hs : a < 0
  · refine bp (dt hs) ?_
    rw [if_pos hs, wu64, wu64]
    congr 3
    omega
  · refine bn (df hs) ?_
    rw [if_neg hs, wu64]
    congr 3
    omega
theorem a_r6bare (F : Nat) {a : Int} (h : I64 a) : ok_ref06_bare F a = true ∧ o_ref06_bare_0 F a = sz a := by
  refine k_ref06_bare F _ ?_
  unfold f_ref06_bare sz
  unfold I64 at h
  by_cases hs : a < 0
  · refine bp (dt hs) ?_
    rw [if_pos hs, wi64_in (x := a + 1) (by unfold I64; omega), wi64_in (by unfold I64; omega), wu64, wu64]
    congr 3
    omega
  · refine bn (df hs) ?_
    rw [if_neg hs, wu64]
    congr 3
    omega
def sq3 (a b c : Int) : Int := a * a + b * b + c * c
noncomputable def lenV (z : Int) : Int := if z < 85070591730234615865843651857942052864 then rt z else 9223372036854775807
def lenC (z : Int) : Bool := decide (85070591730234615865843651857942052864 ≤ z)
theorem sq_bd64 {a : Int} (h : I64 a) : 0 ≤ a * a ∧ a * a ≤ 85070591730234615865843651857942052864 := by
  have h1 := sz_sq a
  have h2 : 0 ≤ sz a ∧ sz a ≤ 9223372036854775808 := by unfold sz; unfold I64 at h; split <;> omega
  have h3 := sq_le h2.1 h2.2
  have h4 := Int.mul_nonneg h2.1 h2.1
  omega
theorem rt_small {z : Int} (h0 : 0 ≤ z) : (rt z ≤ 9223372036854775807) ↔ z < 85070591730234615865843651857942052864 := by
  obtain ⟨h1, h2, h3⟩ := rt_spec h0
  constructor
  · intro h
    have := sq_le (x := rt z + 1) (y := 9223372036854775808) (by omega) (by omega)
    omega
  · intro h
    rcases Int.lt_or_le 9223372036854775807 (rt z) with hl | hl
    · have := sq_le (x := 9223372036854775808) (y := rt z) (by omega) (by omega)
      omega
    · exact hl
theorem len_some {n : Int} {c : Bool} {z : Int} (h : n = lenV z) (k : c = lenC z) : (some (VV.v (.tuple #[.int .i64 n, .bool c])) : R) = some (.v (.tuple #[.int .i64 (lenV z), .bool (lenC z)])) := by rw [h, k]
theorem len_big {z : Int} (h : 170141183460469231731687303715884105728 ≤ z) : (some (VV.v (.tuple #[.int .i64 9223372036854775807, .bool true])) : R) = some (.v (.tuple #[.int .i64 (lenV z), .bool (lenC z)])) := by
  refine len_some ?_ ?_
  · unfold lenV; rw [if_neg (by omega)]
  · unfold lenC; rw [dt (by omega)]
theorem hi_neg {z : Int} (h0 : 0 ≤ z) (h1 : z < 340282366920938463463374607431768211456) : (170141183460469231731687303715884105728 ≤ z ↔ W z < 0) := by unfold W; omega
end Go.Xv
namespace Go.Xv
theorem a_Sgn (F : Nat) {z : Int} (h0 : 0 ≤ z) (h1 : z < 340282366920938463463374607431768211456) : ok_wide_Sign F (hi z) (lo z) = true ∧ decide (o_wide_Sign_0 F (hi z) (lo z) < 0) = decide (170141183460469231731687303715884105728 ≤ z) := by
  obtain ⟨e1, e2⟩ := k_wide_Sign F _ _ (f_Sign F (a := hi z) (lo_U z))
  refine ⟨e1, ?_⟩
  rw [e2, val_hl]
  have := hi_neg h0 h1
  rw [Bool.eq_iff_iff]
  simp only [decide_eq_true_eq]
  split
  · omega
  · split <;> omega
theorem hi_sgn {z : Int} (h0 : 0 ≤ z) (h1 : z < 340282366920938463463374607431768211456) : decide (hi z < 0) = decide (170141183460469231731687303715884105728 ≤ z) := by
  rw [Bool.eq_iff_iff]
  simp only [decide_eq_true_eq]
  unfold hi; omega
theorem a_rootW (F : Nat) (hF : 200 ≤ F) {z : Int} (h0 : 0 ≤ z) (h1 : z < 170141183460469231731687303715884105728) : ok_root_Wide F (hi z) (lo z) = true ∧ o_root_Wide_0 F (hi z) (lo z) = rt z := by
  have h := f_rootWide F hF (hi_I z) (lo_U z)
  rw [val_hl, W_in (by unfold W128; omega)] at h
  unfold rootR at h
  rw [if_neg (by omega)] at h
  obtain ⟨e1, e2, _⟩ := k_root_Wide F _ _ h
  exact ⟨e1, e2⟩
theorem a_rrootW (F : Nat) (hF : 200 ≤ F) {z : Int} (h0 : 0 ≤ z) (h1 : z < 170141183460469231731687303715884105728) : ok_ref04_Wide F (hi z) (lo z) = true ∧ o_ref04_Wide_0 F (hi z) (lo z) = rt z := by
  have h := f_rWide F hF (hi_I z) (lo_U z)
  rw [val_hl, W_in (by unfold W128; omega)] at h
  unfold rootR at h
  rw [if_neg (by omega)] at h
  obtain ⟨e1, e2, _⟩ := k_ref04_Wide F _ _ h
  exact ⟨e1, e2⟩
theorem len_end {z : Int} (h0 : 0 ≤ z) : (bif decide (rt z > 9223372036854775807) then (some (.v (.tuple #[.int .i64 9223372036854775807, .bool true])) : R) else some (.v (.tuple #[.int .i64 (IntKind.wrap .i64 (rt z)), .bool false]))) = some (.v (.tuple #[.int .i64 (lenV z), .bool (lenC z)])) := by
  have hs := rt_small h0
  have hr := (rt_spec h0).1
  by_cases h : z < 85070591730234615865843651857942052864
  · refine bn (df (by have := hs.2 h; omega)) (len_some ?_ ?_)
    · unfold lenV; rw [if_pos h, wi64_in (by have := hs.2 h; unfold I64; omega)]
    · unfold lenC; rw [df (by omega)]
  · refine bp (dt ?_) (len_some ?_ ?_)
    · rcases Int.lt_or_le 9223372036854775807 (rt z) with hl | hl
      · exact hl
      · exact absurd (hs.1 hl) h
    · unfold lenV; rw [if_neg h]
    · unfold lenC; rw [dt (by omega)]
theorem f_Length (F : Nat) (hF : 200 ≤ F) {a b c : Int} (ha : I64 a) (hb : I64 b) (hc : I64 c) : f_vec_Length F a b c = some (.v (.tuple #[.int .i64 (lenV (sq3 a b c)), .bool (lenC (sq3 a b c))])) := by
  obtain ⟨p1, p2⟩ := a_vbare F ha
  obtain ⟨q1, q2⟩ := a_vbare F hb
  obtain ⟨r1, r2⟩ := a_vbare F hc
  obtain ⟨s1, s2, s3⟩ := a_Square F (sz_U ha)
  obtain ⟨t1, t2, t3⟩ := a_Square F (sz_U hb)
  obtain ⟨u1, u2, u3⟩ := a_Square F (sz_U hc)
  rw [sz_sq] at s2 s3 t2 t3 u2 u3
  have ba := sq_bd64 ha
  have bb := sq_bd64 hb
  have bc := sq_bd64 hc
  obtain ⟨v1, v2, v3⟩ := a_Add F 0 (a * a)
  obtain ⟨w1, w2, w3⟩ := a_Add F (a * a) (b * b)
  obtain ⟨x1, x2, x3⟩ := a_Add F (a * a + b * b) (c * c)
  rw [Int.zero_add] at v2 v3
  have v1' : ok_wide_Add F 0 0 (hi (a * a)) (lo (a * a)) = true := v1
  have v2' : o_wide_Add_0 F 0 0 (hi (a * a)) (lo (a * a)) = hi (a * a) := v2
  have v3' : o_wide_Add_1 F 0 0 (hi (a * a)) (lo (a * a)) = lo (a * a) := v3
  obtain ⟨g1, g2⟩ := a_Sgn F (z := a * a) (by omega) (by omega)
  obtain ⟨i1, i2⟩ := a_Sgn F (z := a * a + b * b) (by omega) (by omega)
  obtain ⟨j1, j2⟩ := a_Sgn F (z := a * a + b * b + c * c) (by omega) (by omega)
  obtain ⟨G, hG⟩ : ∃ G, F = G + 4 := ⟨F - 4, by omega⟩
  have y1 : IntKind.wrap .i64 (0 + 1) = 1 := by decide
  have y2 : IntKind.wrap .i64 (1 + 1) = 2 := by decide
  have y3 : IntKind.wrap .i64 (2 + 1) = 3 := by decide
  unfold f_vec_Length
  rw [show L_vec_Length_0 F _ _ F = L_vec_Length_0 F _ _ (G + 4) from congrArg (L_vec_Length_0 F _ _) hG, L_vec_Length_0]
  unfold B_vec_Length_0
  have e0 : (iv [.v (.int .i64 a), .v (.int .i64 b), .v (.int .i64 c)][Int.toNat 0 * 1]?) = a := rfl
  have e1 : (iv [.v (.int .i64 a), .v (.int .i64 b), .v (.int .i64 c)][Int.toNat 1 * 1]?) = b := rfl
  have e2 : (iv [.v (.int .i64 a), .v (.int .i64 b), .v (.int .i64 c)][Int.toNat 2 * 1]?) = c := rfl
  refine bp rfl (bp rfl ?_)
  rw [e0]
  refine bp p1 ?_
  rw [p2]
  refine bp s1 ?_
  rw [s2, s3]
  refine bp v1' ?_
  rw [v2', v3']
  refine bp g1 ?_
  rw [g2]
  refine bn (df (by omega)) ?_
  rw [y1, L_vec_Length_0]
  unfold B_vec_Length_0
  refine bp rfl (bp rfl ?_)
  rw [e1]
  refine bp q1 ?_
  rw [q2]
  refine bp t1 ?_
  rw [t2, t3]
  refine bp w1 ?_
  rw [w2, w3]
  refine bp i1 ?_
  rw [i2]
  by_cases hz : 170141183460469231731687303715884105728 ≤ a * a + b * b
  · exact bp (dt hz) (len_big (by unfold sq3; omega))
  · refine bn (df hz) ?_
    rw [y2, L_vec_Length_0]
    unfold B_vec_Length_0
    refine bp rfl (bp rfl ?_)
    rw [e2]
    refine bp r1 ?_
    rw [r2]
    refine bp u1 ?_
    rw [u2, u3]
    refine bp x1 ?_
    rw [x2, x3]
    refine bp j1 ?_
    rw [j2]
    by_cases hz2 : 170141183460469231731687303715884105728 ≤ a * a + b * b + c * c
    · exact bp (dt hz2) (len_big (by unfold sq3; omega))
    · refine bn (df hz2) ?_
      rw [y3, L_vec_Length_0]
      unfold B_vec_Length_0
      refine bn rfl ?_
      obtain ⟨k1, k2⟩ := a_rootW F hF (z := a * a + b * b + c * c) (by omega) (by omega)
      refine bp k1 ?_
      rw [k2]
      exact len_end (z := a * a + b * b + c * c) (by omega)
theorem a_Length (F : Nat) (hF : 200 ≤ F) {a b c : Int} (ha : I64 a) (hb : I64 b) (hc : I64 c) : ok_vec_Length F a b c = true ∧ o_vec_Length_0 F a b c = lenV (sq3 a b c) ∧ o_vec_Length_1 F a b c = lenC (sq3 a b c) := k_vec_Length F _ _ _ (f_Length F hF ha hb hc)
theorem f_rLength (F : Nat) (hF : 200 ≤ F) {a b c : Int} (ha : I64 a) (hb : I64 b) (hc : I64 c) : f_ref06_Length F a b c = some (.v (.tuple #[.int .i64 (lenV (sq3 a b c)), .bool (lenC (sq3 a b c))])) := by
  obtain ⟨p1, p2⟩ := a_r6bare F ha
  obtain ⟨q1, q2⟩ := a_r6bare F hb
  obtain ⟨r1, r2⟩ := a_r6bare F hc
  obtain ⟨s1, s2, s3⟩ := a_rSquare F hF (sz_U ha)
  obtain ⟨t1, t2, t3⟩ := a_rSquare F hF (sz_U hb)
  obtain ⟨u1, u2, u3⟩ := a_rSquare F hF (sz_U hc)
  rw [sz_sq] at s2 s3 t2 t3 u2 u3
  have ba := sq_bd64 ha
  have bb := sq_bd64 hb
  have bc := sq_bd64 hc
  obtain ⟨v1, v2, v3⟩ := a_rAdd F hF 0 (a * a)
  obtain ⟨w1, w2, w3⟩ := a_rAdd F hF (a * a) (b * b)
  obtain ⟨x1, x2, x3⟩ := a_rAdd F hF (a * a + b * b) (c * c)
  rw [Int.zero_add] at v2 v3
  have v1' : ok_ref01_Add F 0 0 (hi (a * a)) (lo (a * a)) = true := v1
  have v2' : o_ref01_Add_0 F 0 0 (hi (a * a)) (lo (a * a)) = hi (a * a) := v2
  have v3' : o_ref01_Add_1 F 0 0 (hi (a * a)) (lo (a * a)) = lo (a * a) := v3
  have g2 := hi_sgn (z := a * a) (by omega) (by omega)
  have i2 := hi_sgn (z := a * a + b * b) (by omega) (by omega)
  have j2 := hi_sgn (z := a * a + b * b + c * c) (by omega) (by omega)
  obtain ⟨G, hG⟩ : ∃ G, F = G + 4 := ⟨F - 4, by omega⟩
  have y1 : IntKind.wrap .i64 (0 + 1) = 1 := by decide
  have y2 : IntKind.wrap .i64 (1 + 1) = 2 := by decide
  have y3 : IntKind.wrap .i64 (2 + 1) = 3 := by decide
  unfold f_ref06_Length
  rw [show L_ref06_Length_0 F _ _ F = L_ref06_Length_0 F _ _ (G + 4) from congrArg (L_ref06_Length_0 F _ _) hG, L_ref06_Length_0]
  unfold B_ref06_Length_0
  have e0 : (iv [.v (.int .i64 a), .v (.int .i64 b), .v (.int .i64 c)][0 + Int.toNat 0 * 1]?) = a := rfl
  have e1 : (iv [.v (.int .i64 a), .v (.int .i64 b), .v (.int .i64 c)][0 + Int.toNat 1 * 1]?) = b := rfl
  have e2 : (iv [.v (.int .i64 a), .v (.int .i64 b), .v (.int .i64 c)][0 + Int.toNat 2 * 1]?) = c := rfl
  refine bp rfl (bp rfl (bp rfl ?_))
  rw [e0]
  refine bp p1 ?_
  rw [p2]
  refine bp s1 ?_
  rw [s2, s3]
  refine bp v1' ?_
  rw [v2', v3']
  dsimp only
  rw [g2]
  refine bn (df (by omega)) ?_
  rw [y1, L_ref06_Length_0]
  unfold B_ref06_Length_0
  refine bp rfl (bp rfl (bp rfl ?_))
  rw [e1]
  refine bp q1 ?_
  rw [q2]
  refine bp t1 ?_
  rw [t2, t3]
  refine bp w1 ?_
  rw [w2, w3]
  dsimp only
  rw [i2]
  by_cases hz : 170141183460469231731687303715884105728 ≤ a * a + b * b
  · exact bp (dt hz) (len_big (by unfold sq3; omega))
  · refine bn (df hz) ?_
    rw [y2, L_ref06_Length_0]
    unfold B_ref06_Length_0
    refine bp rfl (bp rfl (bp rfl ?_))
    rw [e2]
    refine bp r1 ?_
    rw [r2]
    refine bp u1 ?_
    rw [u2, u3]
    refine bp x1 ?_
    rw [x2, x3]
    dsimp only
    rw [j2]
    by_cases hz2 : 170141183460469231731687303715884105728 ≤ a * a + b * b + c * c
    · exact bp (dt hz2) (len_big (by unfold sq3; omega))
    · refine bn (df hz2) ?_
      rw [y3, L_ref06_Length_0]
      unfold B_ref06_Length_0
      refine bn rfl ?_
      obtain ⟨k1, k2⟩ := a_rrootW F hF (z := a * a + b * b + c * c) (by omega) (by omega)
      refine bp k1 ?_
      rw [k2]
      exact len_end (z := a * a + b * b + c * c) (by omega)
theorem a_rLength (F : Nat) (hF : 200 ≤ F) {a b c : Int} (ha : I64 a) (hb : I64 b) (hc : I64 c) : ok_ref06_Length F a b c = true ∧ o_ref06_Length_0 F a b c = lenV (sq3 a b c) ∧ o_ref06_Length_1 F a b c = lenC (sq3 a b c) := k_ref06_Length F _ _ _ (f_rLength F hF ha hb hc)
/-- the greatest axis -/
def gr3 (a b c : Int) : Int := min (max (sz a) (max (sz b) (sz c))) 9223372036854775807
theorem f_Greatest (F : Nat) (hF : 200 ≤ F) {a b c : Int} (ha : I64 a) (hb : I64 b) (hc : I64 c) : f_vec_Greatest F a b c = some (.v (.int .i64 (gr3 a b c))) := by
  obtain ⟨p1, p2⟩ := a_vbare F ha
  obtain ⟨q1, q2⟩ := a_vbare F hb
  obtain ⟨r1, r2⟩ := a_vbare F hc
  have ua := sz_U ha
  have ub := sz_U hb
  have uc := sz_U hc
  obtain ⟨G, hG⟩ : ∃ G, F = G + 4 := ⟨F - 4, by omega⟩
  have y1 : IntKind.wrap .i64 (0 + 1) = 1 := by decide
  have y2 : IntKind.wrap .i64 (1 + 1) = 2 := by decide
  have y3 : IntKind.wrap .i64 (2 + 1) = 3 := by decide
  unfold f_vec_Greatest
  rw [show L_vec_Greatest_0 F _ F = L_vec_Greatest_0 F _ (G + 4) from congrArg (L_vec_Greatest_0 F _) hG, L_vec_Greatest_0]
  unfold B_vec_Greatest_0
  have e0 : (iv [.v (.int .i64 a), .v (.int .i64 b), .v (.int .i64 c)][Int.toNat 0 * 1]?) = a := rfl
  have e1 : (iv [.v (.int .i64 a), .v (.int .i64 b), .v (.int .i64 c)][Int.toNat 1 * 1]?) = b := rfl
  have e2 : (iv [.v (.int .i64 a), .v (.int .i64 b), .v (.int .i64 c)][Int.toNat 2 * 1]?) = c := rfl
  refine bp rfl (bp rfl ?_)
  rw [e0]
  refine bp p1 ?_
  rw [p2, y1, L_vec_Greatest_0]
  unfold B_vec_Greatest_0
  refine bp rfl (bp rfl ?_)
  rw [e1]
  refine bp q1 ?_
  rw [q2, y2, L_vec_Greatest_0]
  unfold B_vec_Greatest_0
  refine bp rfl (bp rfl ?_)
  rw [e2]
  refine bp r1 ?_
  rw [r2, y3, L_vec_Greatest_0]
  unfold B_vec_Greatest_0
  refine bn rfl (some_int ?_)
  unfold U64 at ua ub uc
  rw [mx, mx, mx]
  have em : max (max (max 0 (sz a)) (sz b)) (sz c) = max (sz a) (max (sz b) (sz c)) := by omega
  rw [em]
  unfold gr3
  generalize max (sz a) (max (sz b) (sz c)) = m at *
  have hm : (if 9223372036854775807 < m then 9223372036854775807 else m) = min m 9223372036854775807 := by split <;> omega
  rw [hm, wi64_in]
  unfold I64; omega
theorem a_Greatest (F : Nat) (hF : 200 ≤ F) {a b c : Int} (ha : I64 a) (hb : I64 b) (hc : I64 c) : ok_vec_Greatest F a b c = true ∧ o_vec_Greatest_0 F a b c = gr3 a b c := k_vec_Greatest F _ _ _ (f_Greatest F hF ha hb hc)
theorem a_rGreatest (F : Nat) {a b c : Int} (ha : I64 a) (hb : I64 b) (hc : I64 c) : ok_ref06_Greatest F a b c = true ∧ o_ref06_Greatest_0 F a b c = gr3 a b c := by
  refine k_ref06_Greatest F _ _ _ ?_
  unfold f_ref06_Greatest
  obtain ⟨p1, p2⟩ := a_r6bare F ha
  obtain ⟨q1, q2⟩ := a_r6bare F hb
  obtain ⟨r1, r2⟩ := a_r6bare F hc
  have ua := sz_U ha
  have ub := sz_U hb
  have uc := sz_U hc
  unfold U64 at ua ub uc
  refine bp p1 (bp q1 (bp r1 (some_int ?_)))
  rw [p2, q2, r2]
  rw [mx, mx]
  have em : max (max (sz a) (sz b)) (sz c) = max (sz a) (max (sz b) (sz c)) := by omega
  rw [em]
  unfold gr3
  generalize max (sz a) (max (sz b) (sz c)) = m at *
  have hm : (if 9223372036854775807 < m then 9223372036854775807 else m) = min m 9223372036854775807 := by split <;> omega
  rw [hm, wi64_in]
  unfold I64; omega
/-- over the length -/
noncomputable def unitOK (a b c : Int) : Bool := !decide (lenV (sq3 a b c) = 0) && !lenC (sq3 a b c)
noncomputable def unV (k a b c : Int) : Int := if unitOK a b c = true then fdivV k (lenV (sq3 a b c)) else 0
theorem len_I {z : Int} (h : 0 ≤ z) : 0 ≤ lenV z ∧ I64 (lenV z) := by
  have h1 := (rt_spec h).1
  unfold lenV I64
  by_cases hz : z < 85070591730234615865843651857942052864
  · have := (rt_small h).2 hz
    rw [if_pos hz]; omega
  · rw [if_neg hz]; omega
theorem sq3_nn {a b c : Int} (ha : I64 a) (hb : I64 b) (hc : I64 c) : 0 ≤ sq3 a b c := by
  have := sq_bd64 ha
  have := sq_bd64 hb
  have := sq_bd64 hc
  unfold sq3; omega
theorem some_un {x y z x' y' z' : Int} {c c' : Bool} (h1 : x = x') (h2 : y = y') (h3 : z = z') (h4 : c = c') : (some (VV.v (.tuple #[.agg #[.int .i64 x, .int .i64 y, .int .i64 z], .bool c])) : R) = some (.v (.tuple #[.agg #[.int .i64 x', .int .i64 y', .int .i64 z'], .bool c'])) := by rw [h1, h2, h3, h4]
theorem f_Unit (F : Nat) (hF : 200 ≤ F) {a b c : Int} (ha : I64 a) (hb : I64 b) (hc : I64 c) : f_vec_Unit F a b c = some (.v (.tuple #[.agg #[.int .i64 (unV a a b c), .int .i64 (unV b a b c), .int .i64 (unV c a b c)], .bool (unitOK a b c)])) := by
  unfold f_vec_Unit
  obtain ⟨l1, l2, l3⟩ := a_Length F hF ha hb hc
  have hl := len_I (sq3_nn ha hb hc)
  obtain ⟨e1, e2, e3, e4, e5⟩ := k_vec_eachv2 F _ _ _ _ (f_vec_eachv2' F hF (a_Unit_0 F hF (a1 := b) (a2 := c) ha hl.2) (a_Unit_1 F hF (a0 := a) (a2 := c) hb hl.2) (a_Unit_2 F hF (a0 := a) (a1 := b) hc hl.2))
  refine bp l1 ?_
  rw [l2, l3]
  unfold unV unitOK
  generalize lenV (sq3 a b c) = n at *
  generalize lenC (sq3 a b c) = k at *
  by_cases h0 : n = 0
  · refine bp (by simp [h0]) (some_un ?_ ?_ ?_ ?_) <;> simp [h0]
  · refine bn (by simp [h0]) ?_
    cases k
    · refine bn rfl (bp e1 (some_un ?_ ?_ ?_ ?_))
      · rw [e2]; simp [h0]
      · rw [e3]; simp [h0]
      · rw [e4]; simp [h0]
      · simp [h0]
    · refine bp rfl (some_un ?_ ?_ ?_ ?_) <;> simp
theorem a_vUnit (F : Nat) (hF : 200 ≤ F) {a b c : Int} (ha : I64 a) (hb : I64 b) (hc : I64 c) : ok_vec_Unit F a b c = true ∧ o_vec_Unit_0 F a b c = unV a a b c ∧ o_vec_Unit_1 F a b c = unV b a b c ∧ o_vec_Unit_2 F a b c = unV c a b c ∧ o_vec_Unit_3 F a b c = unitOK a b c := k_vec_Unit F _ _ _ (f_Unit F hF ha hb hc)
theorem f_r6Unit (F : Nat) (hF : 200 ≤ F) {a b c : Int} (ha : I64 a) (hb : I64 b) (hc : I64 c) : f_ref06_Unit F a b c = some (.v (.tuple #[.agg #[.int .i64 (unV a a b c), .int .i64 (unV b a b c), .int .i64 (unV c a b c)], .bool (unitOK a b c)])) := by
  unfold f_ref06_Unit
  obtain ⟨l1, l2, l3⟩ := a_rLength F hF ha hb hc
  have hl := len_I (sq3_nn ha hb hc)
  obtain ⟨p1, p2, _⟩ := k_ref02_Div F _ _ (f_rDiv2 F hF ha hl.2)
  obtain ⟨q1, q2, _⟩ := k_ref02_Div F _ _ (f_rDiv2 F hF hb hl.2)
  obtain ⟨r1, r2, _⟩ := k_ref02_Div F _ _ (f_rDiv2 F hF hc hl.2)
  refine bp l1 ?_
  rw [l2, l3]
  unfold unV unitOK
  generalize lenV (sq3 a b c) = n at *
  generalize lenC (sq3 a b c) = k at *
  by_cases h0 : n = 0
  · refine bp (by simp [h0]) (some_un ?_ ?_ ?_ ?_) <;> simp [h0]
  · refine bn (by simp [h0]) ?_
    cases k
    · refine bn rfl (bp p1 (bp q1 (bp r1 (some_un ?_ ?_ ?_ ?_))))
      · rw [p2]; simp [h0]
      · rw [q2]; simp [h0]
      · rw [r2]; simp [h0]
      · simp [h0]
    · refine bp rfl (some_un ?_ ?_ ?_ ?_) <;> simp
theorem a_r6Unit (F : Nat) (hF : 200 ≤ F) {a b c : Int} (ha : I64 a) (hb : I64 b) (hc : I64 c) : ok_ref06_Unit F a b c = true ∧ o_ref06_Unit_0 F a b c = unV a a b c ∧ o_ref06_Unit_1 F a b c = unV b a b c ∧ o_ref06_Unit_2 F a b c = unV c a b c ∧ o_ref06_Unit_3 F a b c = unitOK a b c := k_ref06_Unit F _ _ _ (f_r6Unit F hF ha hb hc)
theorem f_works06 (F : Nat) (hF : 200 ≤ F) : f_law06_works F = some (.v (.bool true)) := by
  unfold f_law06_works
  obtain ⟨l1, l2, l3⟩ := a_Length F hF (a := 12884901888) (b := 17179869184) (c := 0) (by unfold I64; omega) (by unfold I64; omega) (by unfold I64; omega)
  have hz : sq3 12884901888 17179869184 0 = 461168601842738790400 := by decide
  have hr : rt 461168601842738790400 = 21474836480 := rt_eq (by omega) (by decide) (by decide)
  rw [hz] at l2 l3
  refine bp l1 (bp ?_ (some_bool ?_))
  · rw [l2]; unfold lenV; rw [if_pos (by decide), hr]; rfl
  · rw [l3]; decide
theorem a_works06 (F : Nat) (hF : 200 ≤ F) : ok_law06_works F = true ∧ o_law06_works_0 F = true := k_law06_works F (f_works06 F hF)
end Go.Xv
namespace Go.Xv
theorem f_VecSizes (F : Nat) (hF : 200 ≤ F) {a0 a1 a2 a3 : Int} (h0 : I64 a0) (h1 : I64 a1) (h2 : I64 a2) (h3 : I64 a3) : f_law06_VecSizes F a0 a1 a2 a3 = some (.v (.bool true)) := by
  unfold f_law06_VecSizes
  obtain ⟨w1, w2⟩ := a_works06 F hF
  obtain ⟨p1, p2, p3⟩ := a_Length F hF h0 h1 h2
  obtain ⟨q1, q2, q3⟩ := a_rLength F hF h0 h1 h2
  obtain ⟨r1, r2, r3, r4, r5⟩ := a_vClamp F hF (a0 := a0) (a1 := a1) (a2 := a2) h3
  obtain ⟨s1, s2, s3, s4, s5⟩ := a_rvClamp F (a0 := a0) (a1 := a1) (a2 := a2) h3
  obtain ⟨t1, t2, t3, t4, t5⟩ := a_vUnit F hF h0 h1 h2
  obtain ⟨u1, u2, u3, u4, u5⟩ := a_r6Unit F hF h0 h1 h2
  obtain ⟨g1, g2⟩ := a_Greatest F hF h0 h1 h2
  obtain ⟨k1, k2⟩ := a_rGreatest F h0 h1 h2
  simp only [p1, p2, p3, q1, q2, q3, r1, r2, r3, r4, r5, s1, s2, s3, s4, s5, t1, t2, t3, t4, t5, u1, u2, u3, u4, u5, g1, g2, k1, k2, w1, w2, BEq.rfl, cond_true, Bool.and_self]
end Go.Xv
namespace Go.Proofs.Ytpnggkefjgpleaa.vecSizes
open Go.ChangeShapes Go.WideShapes Go.ChangeAt Go.RowKit Go.Xv Go.Proofs.Ytpnggkefjgpleaa.base
set_option linter.unusedVariables false
set_option maxRecDepth 100000 in
theorem lifted (os : Os) (started : os.Started) (H : Type) (enc : TypeId × Value → H) :
    ReturnsInHanded {} Try.checked os 17 .any (Rows.vecSizesSpec.pre6 enc Try.prog Try.f17 Rows.vecSizesRow.domain false) (Rows.vecSizesSpec.post enc Try.prog Try.f17 false true false false) := by
  refine returnsInHanded_of_change (C := Try.checked) own started (by kernel_rfl) Try.func17
    (ChangeSpec.witness6 (enc := enc) (C := Try.checked) false ⟨#[], #[.agg #[.int .i64 0, .int .i64 0, .int .i64 0], .int .i64 0], []⟩ 8 (by kernel_rfl) (by kernel_rfl) (by kernel_rfl) (by kernel_rfl)) ?_
  intro W base args ds gs before hval0 hW hcnd _
  have hval : ∀ (j : Nat) t v, Try.f17.params[j]? = some t → args[j]? = some v → Value.okWide Try.prog W .any base t v := hval0
  have hW' := hW
  obtain ⟨p, q, hA0, hV, rfl, hfz, hnd⟩ := hW
  have hA : DataW.TrodAll enc Try.prog W 0 (fun _ => true) true Try.f17.params.toList args.toList ds p := hA0
  rw [Try.params17] at hA hval
  obtain ⟨v0, vs0, d0, ds0, p0, q0, hargs, rfl, rfl, h0, r0⟩ := trodAll_cons hA
  obtain ⟨v1, vs1, d1, ds1, p1, q1, rfl, rfl, rfl, h1, r1⟩ := trodAll_cons r0
  obtain ⟨rfl, rfl, rfl⟩ := trodAll_nil r1
  obtain rfl : args = #[v0, v1] := by cases args; simp_all
  obtain ⟨l0, rfl, f0⟩ := open_flat (ks := [some .i64, some .i64, some .i64]) (by kernel_rfl) (by kernel_rfl) (hval 0 24 v0 rfl rfl) h0
  obtain ⟨a0, l0, rfl, wa0, f0⟩ := fitW_some f0
  obtain ⟨a1, l0, rfl, wa1, f0⟩ := fitW_some f0
  obtain ⟨a2, l0, rfl, wa2, f0⟩ := fitW_some f0
  obtain rfl := fitW_nil f0
  obtain ⟨a3, rfl, wa3⟩ := open_num (k := .i64) (by kernel_rfl) (hval 1 22 v1 rfl rfl) h1
  refine law_contract laidOut (g_law06_VecSizes fuel0) (bt := 4) (by kernel_rfl) (by kernel_rfl) (by kernel_rfl) (by kernel_rfl) rfl hW' ?_
  refine ⟨[.v (.agg #[.int .i64 a0, .int .i64 a1, .int .i64 a2]), .v (.int .i64 a3)], rfl, fun i x hx => ?_, unS_of ?_⟩
  · match i, hx with
    | 0, hx => exact ⟨_, rfl, by cases hx; exact Rel.v _ _⟩
    | 1, hx => exact ⟨_, rfl, by cases hx; exact Rel.v _ _⟩
    | _ + 2, hx => cases hx
  · obtain ⟨y1, y2⟩ := k_law06_VecSizes fuel0 a0 a1 a2 a3 (f_VecSizes fuel0 (by unfold fuel0; omega) (wf_i64 wa0) (wf_i64 wa1) (wf_i64 wa2) (wf_i64 wa3))
    have e : s_law06_VecSizes fuel0 [.v (.agg #[.int .i64 a0, .int .i64 a1, .int .i64 a2]), .v (.int .i64 a3)] = some (ok_law06_VecSizes fuel0 a0 a1 a2 a3, .v (.bool (o_law06_VecSizes_0 fuel0 a0 a1 a2 a3))) := by kernel_rfl
    rw [e, y1, y2]
theorem over : Rows.vecSizesRow.holds Try.pinned (OpenSpec.ofChange Rows.vecSizesSpec) :=
  OpenClaim.holds_of_wide 17 Try.f17 rfl rfl rfl rfl rfl rfl rfl ⟨rfl, rfl, rfl, rfl, rfl⟩ rfl rfl rfl rfl rfl (by kernel_rfl) Try.func17 (joined_of (P := Try.prog) behind enter_ rfl rfl ⟨rfl, rfl⟩ (by kernel_rfl))
    (of_decide_eq_true (by kernel_rfl)) (by unfold Func.isWrapper; first | (rw [if_pos (by decide +kernel)]; kernel_rfl) | (rw [if_neg (by decide +kernel)]; exact ⟨rfl, rfl⟩))
    (fun os started H enc _ => lifted os started H enc)
/-- The statement. -/
theorem proved : Rows.VecSizesSaid := over
#print axioms proved
end Go.Proofs.Ytpnggkefjgpleaa.vecSizes
