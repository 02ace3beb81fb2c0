/- The angle of any two numbers is as the document says: the law returns true for every input, and leaves its arguments as they were. -/
import Derived.Test.YtpnggkefjgpleaaLTurnAngle
namespace Go.Xv
theorem angL_get : ∀ i : Nat, i < 30 → isI .i64 [.v (.int .i64 536870912), .v (.int .i64 316933406), .v (.int .i64 167458907), .v (.int .i64 85004756), .v (.int .i64 42667331), .v (.int .i64 21354465), .v (.int .i64 10679838), .v (.int .i64 5340245), .v (.int .i64 2670163), .v (.int .i64 1335087), .v (.int .i64 667544), .v (.int .i64 333772), .v (.int .i64 166886), .v (.int .i64 83443), .v (.int .i64 41722), .v (.int .i64 20861), .v (.int .i64 10430), .v (.int .i64 5215), .v (.int .i64 2608), .v (.int .i64 1304), .v (.int .i64 652), .v (.int .i64 326), .v (.int .i64 163), .v (.int .i64 81), .v (.int .i64 41), .v (.int .i64 20), .v (.int .i64 10), .v (.int .i64 5), .v (.int .i64 3), .v (.int .i64 1)][i]? = true ∧ iv [.v (.int .i64 536870912), .v (.int .i64 316933406), .v (.int .i64 167458907), .v (.int .i64 85004756), .v (.int .i64 42667331), .v (.int .i64 21354465), .v (.int .i64 10679838), .v (.int .i64 5340245), .v (.int .i64 2670163), .v (.int .i64 1335087), .v (.int .i64 667544), .v (.int .i64 333772), .v (.int .i64 166886), .v (.int .i64 83443), .v (.int .i64 41722), .v (.int .i64 20861), .v (.int .i64 10430), .v (.int .i64 5215), .v (.int .i64 2608), .v (.int .i64 1304), .v (.int .i64 652), .v (.int .i64 326), .v (.int .i64 163), .v (.int .i64 81), .v (.int .i64 41), .v (.int .i64 20), .v (.int .i64 10), .v (.int .i64 5), .v (.int .i64 3), .v (.int .i64 1)][i]? = tA i := by decide
theorem zmul1 (i : Nat) : (Int.toNat (i : Int)) * 1 = i := by simp
theorem turnedF (F : Nat) {x y : Int} {i : Nat} (hi : i < 64) (o : Bool) (h1 : I64 (rotX i o x y)) (h2 : I64 (rotY i o x y)) : ok_turn_pair_turned F x y i o = true ∧ o_turn_pair_turned_0 F x y i o = rotX i o x y ∧ o_turn_pair_turned_1 F x y i o = rotY i o x y := by
  refine k_turn_pair_turned F _ _ _ _ ?_
  unfold f_turn_pair_turned
  have hd : (!decide ((i : Int) < 0)) = true := nn i
  have hP := p2pos i
  rw [hd, p2min (by omega), fdiv_pos _ (by omega), fdiv_pos _ (by omega)]
  simp only [cond_true]
  unfold rotX rotY at *
  cases o
  · simp only [Bool.false_eq_true, if_false, cond_false] at *
    rw [wi64_in h1, wi64_in h2]
  · simp only [if_true, cond_true] at *
    rw [wi64_in h1, wi64_in h2]
theorem unitF (F : Nat) (x : Int) : ok_turn_unit F x = true ∧ o_turn_unit_0 F x = cl01 x := by
  refine k_turn_unit F _ ?_
  unfold f_turn_unit
  obtain ⟨h1, h2, h3⟩ := k_fix_Clamp F _ _ _ (f_fClamp F (a := x) (l := 0) (h := 4294967296))
  rw [h1, h2]
  rfl
theorem lp_turn_Both_0 (F : Nat) (ex) {z : Int} (hz : 0 ≤ z ∧ z < 1073741824) (x0 x1 x2 : Int) : ∀ (k n i : Nat) (x3 x34 x35 x36 : Int), i + k = 30 → k < n → x34 = i → x35 = (bS z i).1 → x36 = (bS z i).2.1 → x3 = (bS z i).2.2 →
    L_turn_Both_0 F ex n x0 x1 x2 x3 536870912 316933406 167458907 85004756 42667331 21354465 10679838 5340245 2670163 1335087 667544 333772 166886 83443 41722 20861 10430 5215 2608 1304 652 326 163 81 41 20 10 5 3 1 x34 x35 x36 = ex x0 x1 x2 (bS z 30).2.2 536870912 316933406 167458907 85004756 42667331 21354465 10679838 5340245 2670163 1335087 667544 333772 166886 83443 41722 20861 10430 5215 2608 1304 652 326 163 81 41 20 10 5 3 1 30 (bS z 30).1 (bS z 30).2.1
  | _, 0, _, _, _, _, _, _, h, _, _, _, _ => absurd h (by omega)
  | 0, n + 1, i, _, _, _, _, h, _, rfl, rfl, rfl, rfl => by
    obtain rfl : i = 30 := by omega
    rw [L_turn_Both_0]
    unfold B_turn_Both_0
    exact bn (df (by omega)) rfl
  | k + 1, n + 1, i, _, _, _, _, h, hn, rfl, rfl, rfl, rfl => by
    have hi' : i < 30 := by omega
    obtain ⟨g1, g2⟩ := angL_get i hi'
    have b1 := bS_I z (i := i + 1) (by omega)
    have b2 := bS_z hz (i := i) (by omega)
    have b3 := tA_bd i hi'
    obtain ⟨t1, t2, t3⟩ := turnedF F (x := (bS z i).1) (y := (bS z i).2.1) (i := i) (by omega) (decide (0 ≤ (bS z i).2.2)) (by simp only [bS] at b1; unfold I64; omega) (by simp only [bS] at b1; unfold I64; omega)
    rw [L_turn_Both_0]
    unfold B_turn_Both_0
    refine bp (dt (by omega)) (bp (by rw [zmul1, g1, show ((decide (0 ≤ (i : Int))) && (decide ((i : Int) < 30))) = true from ix_ok i 30 hi']; rfl) ?_)
    rw [zmul1, g2]
    have eg : decide ((bS z i).2.2 ≥ 0) = decide (0 ≤ (bS z i).2.2) := rfl
    rw [eg]
    refine bp t1 ?_
    rw [t2, t3]
    have w1 : IntKind.wrap .i64 ((i : Int) + 1) = ((i + 1 : Nat) : Int) := wi64_s i (by omega)
    rw [w1]
    by_cases hs : 0 ≤ (bS z i).2.2
    · refine bp (dt hs) ?_
      refine lp_turn_Both_0 F ex hz x0 x1 x2 k n (i + 1) _ _ _ _ (by omega) (by omega) rfl rfl rfl ?_
      simp only [bS]
      rw [if_pos hs, wi64_in (x := 0 - tA i) (by unfold I64; omega), wi64_in (by unfold I64; omega)]
      omega
    · refine bn (df hs) ?_
      refine lp_turn_Both_0 F ex hz x0 x1 x2 k n (i + 1) _ _ _ _ (by omega) (by omega) rfl rfl rfl ?_
      simp only [bS]
      rw [if_neg hs, wi64_in (by unfold I64; omega)]
theorem mask30_u32 {a : Int} (ha : U32 a) : andI .u32 a 1073741823 = a % 1073741824 := by
  have e : andI .u32 a 1073741823 = IntKind.wrap .u32 ((BitVec.ofInt 32 a &&& BitVec.ofInt 32 1073741823).toNat : Int) := rfl
  unfold U32 at ha
  have h1 : (BitVec.ofInt 32 a).toNat = a.toNat := by simp only [BitVec.toNat_ofInt]; omega
  have h2 : (BitVec.ofInt 32 1073741823).toNat = 2 ^ 30 - 1 := by decide
  rw [e, BitVec.toNat_and, h1, h2, Nat.and_two_pow_sub_one_eq_mod, wu32]
  omega
theorem angF (F : Nat) : ok_turn_angles F = true ∧ o_turn_angles_0 F = 536870912 ∧ o_turn_angles_1 F = 316933406 ∧ o_turn_angles_2 F = 167458907 ∧ o_turn_angles_3 F = 85004756 ∧ o_turn_angles_4 F = 42667331 ∧ o_turn_angles_5 F = 21354465 ∧ o_turn_angles_6 F = 10679838 ∧ o_turn_angles_7 F = 5340245 ∧ o_turn_angles_8 F = 2670163 ∧ o_turn_angles_9 F = 1335087 ∧ o_turn_angles_10 F = 667544 ∧ o_turn_angles_11 F = 333772 ∧ o_turn_angles_12 F = 166886 ∧ o_turn_angles_13 F = 83443 ∧ o_turn_angles_14 F = 41722 ∧ o_turn_angles_15 F = 20861 ∧ o_turn_angles_16 F = 10430 ∧ o_turn_angles_17 F = 5215 ∧ o_turn_angles_18 F = 2608 ∧ o_turn_angles_19 F = 1304 ∧ o_turn_angles_20 F = 652 ∧ o_turn_angles_21 F = 326 ∧ o_turn_angles_22 F = 163 ∧ o_turn_angles_23 F = 81 ∧ o_turn_angles_24 F = 41 ∧ o_turn_angles_25 F = 20 ∧ o_turn_angles_26 F = 10 ∧ o_turn_angles_27 F = 5 ∧ o_turn_angles_28 F = 3 ∧ o_turn_angles_29 F = 1 := k_turn_angles F rfl
theorem some_two {a b c d : Int} (h : a = c) (k : b = d) : (some (VV.v (.tuple #[.int .i64 a, .int .i64 b])) : R) = some (.v (.tuple #[.int .i64 c, .int .i64 d])) := by rw [h, k]
theorem f_tBoth (F : Nat) (hF : 200 ≤ F) {a : Int} (ha : U32 a) : f_turn_Both F a = some (.v (.tuple #[.int .i64 (bothC a), .int .i64 (bothS a)])) := by
  unfold f_turn_Both
  obtain ⟨h0, e0, e1, e2, e3, e4, e5, e6, e7, e8, e9, e10, e11, e12, e13, e14, e15, e16, e17, e18, e19, e20, e21, e22, e23, e24, e25, e26, e27, e28, e29⟩ := angF F
  refine bp h0 ?_
  rw [e0, e1, e2, e3, e4, e5, e6, e7, e8, e9, e10, e11, e12, e13, e14, e15, e16, e17, e18, e19, e20, e21, e22, e23, e24, e25, e26, e27, e28, e29, mask30_u32 ha]
  have hz : 0 ≤ a % 1073741824 ∧ a % 1073741824 < 1073741824 := by omega
  rw [wi64_in (x := a % 1073741824) (by unfold I64; omega), lp_turn_Both_0 F _ hz a 0 0 30 F 0 (a % 1073741824) 0 2608131496 0 (by omega) (by omega) rfl rfl rfl rfl]
  obtain ⟨u1, u2⟩ := unitF F (bS (a % 1073741824) 30).1
  obtain ⟨v1, v2⟩ := unitF F (bS (a % 1073741824) 30).2.1
  refine bp u1 (bp v1 ?_)
  rw [u2, v2]
  obtain ⟨F, rfl⟩ : ∃ G, F = G + 4 := ⟨F - 4, by omega⟩
  have c1 := cl01_bd (bS (a % 1073741824) 30).1
  have c2 := cl01_bd (bS (a % 1073741824) 30).2.1
  unfold U32 at ha
  have w0 : IntKind.wrap .u32 (0 + 1) = 1 := by rw [wu32]; omega
  have w1 : IntKind.wrap .u32 (1 + 1) = 2 := by rw [wu32]; omega
  have w2 : IntKind.wrap .u32 (2 + 1) = 3 := by rw [wu32]; omega
  have eC : cl01 (bS (a % 1073741824) 30).1 = bC a := rfl
  have eN : cl01 (bS (a % 1073741824) 30).2.1 = bN a := rfl
  rw [eC] at c1 ⊢
  rw [eN] at c2 ⊢
  rw [fdiv_pos _ (by decide)]
  have n1 : IntKind.wrap .i64 (0 - bN a) = -bN a := by rw [wi64_in (by unfold I64; omega)]; omega
  have n2 : IntKind.wrap .i64 (0 - bC a) = -bC a := by rw [wi64_in (by unfold I64; omega)]; omega
  have n3 : IntKind.wrap .i64 (0 - -bN a) = bN a := by rw [wi64_in (by unfold I64; omega)]; omega
  unfold bothC bothS
  rw [L_turn_Both_1]
  unfold B_turn_Both_1
  by_cases q0 : a / 1073741824 = 0
  · refine bn (df (by omega)) (some_two ?_ ?_) <;> rw [if_pos q0]
  · refine bp (dt (by omega)) ?_
    rw [w0, n1, L_turn_Both_1]
    unfold B_turn_Both_1
    by_cases q1 : a / 1073741824 = 1
    · refine bn (df (by omega)) (some_two ?_ ?_) <;> rw [if_neg q0, if_pos q1]
    · refine bp (dt (by omega)) ?_
      rw [w1, n2, L_turn_Both_1]
      unfold B_turn_Both_1
      by_cases q2 : a / 1073741824 = 2
      · refine bn (df (by omega)) (some_two ?_ ?_) <;> rw [if_neg q0, if_neg q1, if_pos q2]
      · refine bp (dt (by omega)) ?_
        rw [w2, n3, L_turn_Both_1]
        unfold B_turn_Both_1
        refine bn (df (by omega)) (some_two ?_ ?_) <;> rw [if_neg q0, if_neg q1, if_neg q2]
theorem a_tBoth (F : Nat) (hF : 200 ≤ F) {a : Int} (ha : U32 a) : ok_turn_Both F a = true ∧ o_turn_Both_0 F a = bothC a ∧ o_turn_Both_1 F a = bothS a := k_turn_Both F _ (f_tBoth F hF ha)
theorem tq2_neg {x : Int} (h : x < 0) (d : Int) : Int.tdiv x d = -Int.tdiv (-x) d ∧ Int.tmod x d = -Int.tmod (-x) d := by
  constructor
  · rw [Int.neg_tdiv]; omega
  · rw [Int.neg_tmod]; omega
theorem tq2 (x : Int) : (0 ≤ x → Int.tdiv x 2 = x / 2 ∧ Int.tmod x 2 = x % 2) ∧ (x < 0 → Int.tdiv x 2 = -(-x / 2) ∧ Int.tmod x 2 = -(-x % 2)) := by
  refine ⟨fun h => ⟨Int.tdiv_eq_ediv_of_nonneg h, Int.tmod_eq_emod_of_nonneg h⟩, fun h => ?_⟩
  obtain ⟨h1, h2⟩ := tq2_neg h 2
  rw [h1, h2, Int.tdiv_eq_ediv_of_nonneg (by omega), Int.tmod_eq_emod_of_nonneg (by omega)]
  exact ⟨rfl, rfl⟩
theorem half_up (x : Int) (h : I64 x) : (Int.tmod x 2 < 0 → IntKind.wrap .i64 (IntKind.wrap .i64 (Int.tdiv x 2) - 1) = x / 2) ∧ (¬ Int.tmod x 2 < 0 → IntKind.wrap .i64 (Int.tdiv x 2) = x / 2) := by
  unfold I64 at h
  obtain ⟨q1, q2⟩ := tq2 x
  have e1 : IntKind.wrap .i64 (Int.tdiv x 2) = Int.tdiv x 2 := wi64_in (by unfold I64; omega)
  rw [e1]
  constructor
  · intro hm
    rw [wi64_in (by unfold I64; omega)]
    omega
  · intro hm
    omega
theorem I64_half {x : Int} (h : I64 x) (i : Nat) : I64 (x / 2 ^ i) := by
  unfold I64 at *
  have := ediv_bd (y := x) (B := 9223372036854775808) (by omega) i
  refine ⟨by omega, ?_⟩
  have hP := p2pos i
  rcases Int.lt_or_le x 0 with hn | hn
  · have := Int.ediv_neg_of_neg_of_pos hn hP; omega
  · have := Int.ediv_le_self (2 ^ i) hn; omega
theorem lp_over_0 (F : Nat) (ex) {x : Int} (hx : I64 x) (m : Nat) (hm : m < 1000) (x2 : Int) : ∀ (k n i : Nat) (x0 x3 : Int), i + k = m → k < n → x0 = x / 2 ^ i → x3 = i →
    L_ref05_over_0 F ex n x0 m x2 x3 = ex (x / 2 ^ m) m x2 m
  | _, 0, _, _, _, _, h, _, _ => absurd h (by omega)
  | 0, n + 1, i, _, _, h, _, rfl, rfl => by
    obtain rfl : i = m := by omega
    rw [L_ref05_over_0]
    unfold B_ref05_over_0
    exact bn (df (by omega)) rfl
  | k + 1, n + 1, i, _, _, h, hn, rfl, rfl => by
    rw [L_ref05_over_0]
    unfold B_ref05_over_0
    refine bp (dt (by omega)) ?_
    obtain ⟨h1, h2⟩ := half_up _ (I64_half hx i)
    have w1 : IntKind.wrap .i64 ((i : Int) + 1) = ((i + 1 : Nat) : Int) := wi64_s i (by omega)
    dsimp only
    by_cases hc : Int.tmod (x / 2 ^ i) 2 < 0
    · refine bp (dt hc) ?_
      exact lp_over_0 F ex hx m hm x2 k n (i + 1) _ _ (by omega) (by omega) (by rw [h1 hc, ediv2]) w1
    · refine bn (df hc) ?_
      exact lp_over_0 F ex hx m hm x2 k n (i + 1) _ _ (by omega) (by omega) (by rw [h2 hc, ediv2]) w1
theorem a_over (F : Nat) (hF : 200 ≤ F) {x : Int} (hx : I64 x) {m : Nat} (hm : m < 100) : ok_ref05_over F x m = true ∧ o_ref05_over_0 F x m = x / 2 ^ m := by
  refine k_ref05_over F _ _ ?_
  unfold f_ref05_over
  rw [lp_over_0 F _ hx m (by omega) 0 m F 0 x 0 (by omega) (by omega) (by simp) rfl]
theorem a_step (F : Nat) {i : Nat} (hi : i < 30) : ok_ref05_step F i = true ∧ o_ref05_step_0 F i = tA i := by
  refine k_ref05_step F _ ?_
  unfold f_ref05_step
  obtain ⟨g1, g2⟩ := angL_get i hi
  refine bp (ix_ok i 30 hi) ?_
  dsimp only
  rw [zmul]
  refine bp (by rw [g1]; rfl) ?_
  rw [g2]
end Go.Xv
namespace Go.Xv
theorem sz_half (x : Int) : 2 * sz (x / 2) ≤ sz x + 1 := by unfold sz; split <;> split <;> omega
theorem sz_dbl (x : Int) : sz (x * 2) = 2 * sz x := by unfold sz; split <;> split <;> omega
theorem big_half (x y : Int) : 2 * big (x / 2) (y / 2) ≤ big x y + 1 := by
  have := sz_half x
  have := sz_half y
  unfold big; omega
theorem big_dbl (x y : Int) : big (x * 2) (y * 2) = 2 * big x y := by unfold big; rw [sz_dbl, sz_dbl]; omega
theorem down_small {x y : Int} (h : big x y < 2305843009213693952) : ∀ m, down m x y = (x, y)
  | 0 => rfl
  | m + 1 => by rw [down, if_neg (by omega)]
theorem down_end : ∀ (m k : Nat) (x y : Int), big x y ≤ 2305843009213693952 * 2 ^ k → k < m → big (down m x y).1 (down m x y).2 < 2305843009213693952
  | 0, _, _, _, _, h => absurd h (by omega)
  | m + 1, k, x, y, h, hk => by
    rw [down]
    split
    · have h2 := big_half x y
      cases k with
      | zero =>
        have hs : big (x / 2) (y / 2) < 2305843009213693952 := by simp at h; omega
        rw [down_small hs]
        exact hs
      | succ k =>
        refine down_end m k _ _ ?_ (by omega)
        have e : (2 : Int) ^ (k + 1) = 2 * 2 ^ k := by rw [Int.pow_succ]; omega
        rw [e] at h
        omega
    · dsimp only; omega
theorem dbl_end : ∀ (m : Nat) (x y : Int), 1152921504606846976 ≤ big x y * 2 ^ m → 1152921504606846976 ≤ big (dbl m x y).1 (dbl m x y).2
  | 0, x, y, h => by simp [dbl] at h ⊢; omega
  | m + 1, x, y, h => by
    rw [dbl]
    split
    · refine dbl_end m _ _ ?_
      rw [big_dbl, show 2 * big x y * 2 ^ m = big x y * (2 ^ m * 2) by rw [Int.mul_comm 2 (big x y), Int.mul_assoc, Int.mul_comm 2], ← Int.pow_succ]
      exact h
    · dsimp only; omega
theorem dbl_lt : ∀ (m : Nat) (x y : Int), big x y < 2305843009213693952 → big (dbl m x y).1 (dbl m x y).2 < 2305843009213693952
  | 0, x, y, h => h
  | m + 1, x, y, h => by
    rw [dbl]
    split
    · exact dbl_lt m _ _ (by rw [big_dbl]; omega)
    · exact h
theorem down_pos : ∀ (m : Nat) (x y : Int), 1 ≤ big x y → 1 ≤ big (down m x y).1 (down m x y).2
  | 0, x, y, h => h
  | m + 1, x, y, h => by
    rw [down]
    split
    · refine down_pos m _ _ ?_
      have : ∀ z : Int, 2305843009213693952 ≤ sz z → 1 ≤ sz (z / 2) := by intro z; unfold sz; split <;> split <;> omega
      have h1 := this x
      have h2 := this y
      unfold big at *
      omega
    · exact h
theorem big_I {x y : Int} (hx : I64 x) (hy : I64 y) : big x y ≤ 2305843009213693952 * 2 ^ 2 := by
  unfold I64 at *
  unfold big sz
  split <;> split <;> omega
theorem scd_bd {x y : Int} (hx : I64 x) (hy : I64 y) (h : 1 ≤ big x y) : 1152921504606846976 ≤ big (scd x y).1 (scd x y).2 ∧ big (scd x y).1 (scd x y).2 < 2305843009213693952 := by
  have h1 := down_end 64 2 x y (big_I hx hy) (by omega)
  have h2 := down_pos 64 x y h
  unfold scd
  refine ⟨dbl_end 64 _ _ ?_, dbl_lt 64 _ _ h1⟩
  omega
theorem sz_I {x y : Int} (h : big x y < 9223372036854775808) : I64 x ∧ I64 y := by
  unfold big sz at h
  unfold I64
  split at h <;> split at h <;> omega
theorem down_sgn : ∀ (m : Nat) (x y : Int), 0 ≤ x → 0 ≤ (down m x y).1
  | 0, _, _, h => h
  | m + 1, x, y, h => by
    rw [down]
    split
    · exact down_sgn m _ _ (by omega)
    · exact h
theorem dbl_sgn : ∀ (m : Nat) (x y : Int), 0 ≤ x → 0 ≤ (dbl m x y).1
  | 0, _, _, h => h
  | m + 1, x, y, h => by
    rw [dbl]
    split
    · exact dbl_sgn m _ _ (by omega)
    · exact h
theorem scd_sgn {x y : Int} (h : 0 ≤ x) : 0 ≤ (scd x y).1 := dbl_sgn 64 _ _ (down_sgn 64 _ _ h)
theorem opp_I {a : Int} (h : I64 a) : I64 (opp a) := by unfold opp; unfold I64 at *; split <;> omega
theorem a_size (F : Nat) {a : Int} (h : I64 a) : ok_turn_size F a = true ∧ o_turn_size_0 F a = sz a := by
  refine k_turn_size F _ ?_
  unfold f_turn_size sz
  unfold I64 at h
  by_cases hs : a < 0
  · refine bp (dt hs) ?_
    rw [if_pos hs, wu64, wu64]
    congr 3
    omega
  · refine bn (df hs) ?_
    rw [if_neg hs, wu64]
    congr 3
    omega
theorem a_r5bare (F : Nat) {a : Int} (h : I64 a) : ok_ref05_bare F a = true ∧ o_ref05_bare_0 F a = sz a := by
  refine k_ref05_bare F _ ?_
  unfold f_ref05_bare sz
  unfold I64 at h
  by_cases hs : a < 0
  · refine bp (dt hs) ?_
    rw [if_pos hs, wi64_in (x := a + 1) (by unfold I64; omega), wi64_in (by unfold I64; omega), wu64, wu64]
    congr 3
    omega
  · refine bn (df hs) ?_
    rw [if_neg hs, wu64]
    congr 3
    omega
theorem mx {a b : Int} : (if b > a then b else a) = max a b := by split <;> omega
theorem lp_scaled_0 (F : Nat) (ex) (x0 x1 x4 x5 : Int) : ∀ (m n : Nat) (x y : Int), I64 x → I64 y → m < n → big (down m x y).1 (down m x y).2 < 2305843009213693952 →
    L_turn_pair_scaled_0 F ex n x0 x1 x y x4 x5 = ex x0 x1 (down m x y).1 (down m x y).2 x4 x5
  | _, 0, _, _, _, _, h, _ => absurd h (by omega)
  | 0, n + 1, x, y, hx, hy, _, h => by
    rw [L_turn_pair_scaled_0]
    unfold B_turn_pair_scaled_0
    obtain ⟨a1, a2⟩ := a_size F hx
    obtain ⟨b1, b2⟩ := a_size F hy
    refine bp a1 (bp b1 ?_)
    rw [a2, b2]
    dsimp only
    rw [mx]
    exact bn (df (by unfold big down at h; dsimp only at h; omega)) rfl
  | m + 1, n + 1, x, y, hx, hy, hm, h => by
    rw [L_turn_pair_scaled_0]
    unfold B_turn_pair_scaled_0
    obtain ⟨a1, a2⟩ := a_size F hx
    obtain ⟨b1, b2⟩ := a_size F hy
    refine bp a1 (bp b1 ?_)
    rw [a2, b2]
    dsimp only
    rw [mx]
    rw [down] at h ⊢
    by_cases hc : 2305843009213693952 ≤ big x y
    · rw [if_pos hc] at h ⊢
      refine bp (dt hc) ?_
      rw [fdiv_pos _ (by decide), fdiv_pos _ (by decide)]
      exact lp_scaled_0 F ex x0 x1 x4 x5 m n _ _ (I64_half hx 1) (I64_half hy 1) (by omega) h
    · rw [if_neg hc]
      exact bn (df hc) rfl
theorem lp_scaled_1 (F : Nat) (ex) (x0 x1 x4 x5 : Int) : ∀ (m n : Nat) (x y : Int), I64 x → I64 y → m < n → 1152921504606846976 ≤ big (dbl m x y).1 (dbl m x y).2 →
    L_turn_pair_scaled_1 F ex n x0 x1 x y x4 x5 = ex x0 x1 (dbl m x y).1 (dbl m x y).2 x4 x5
  | _, 0, _, _, _, _, h, _ => absurd h (by omega)
  | 0, n + 1, x, y, hx, hy, _, h => by
    rw [L_turn_pair_scaled_1]
    unfold B_turn_pair_scaled_1
    obtain ⟨a1, a2⟩ := a_size F hx
    obtain ⟨b1, b2⟩ := a_size F hy
    refine bp a1 (bp b1 ?_)
    rw [a2, b2]
    dsimp only
    rw [mx]
    exact bn (df (by unfold big dbl at h; dsimp only at h; omega)) rfl
  | m + 1, n + 1, x, y, hx, hy, hm, h => by
    rw [L_turn_pair_scaled_1]
    unfold B_turn_pair_scaled_1
    obtain ⟨a1, a2⟩ := a_size F hx
    obtain ⟨b1, b2⟩ := a_size F hy
    refine bp a1 (bp b1 ?_)
    rw [a2, b2]
    dsimp only
    rw [mx]
    rw [dbl] at h ⊢
    by_cases hc : big x y < 1152921504606846976
    · rw [if_pos hc] at h ⊢
      refine bp (dt hc) ?_
      obtain ⟨i1, i2⟩ := sz_I (x := x * 2) (y := y * 2) (by rw [big_dbl]; omega)
      rw [wi64_in i1, wi64_in i2]
      exact lp_scaled_1 F ex x0 x1 x4 x5 m n _ _ i1 i2 (by omega) h
    · rw [if_neg hc]
      exact bn (df hc) rfl
theorem a_scaled (F : Nat) (hF : 200 ≤ F) {x y : Int} (hx : I64 x) (hy : I64 y) (h : 1 ≤ big x y) : ok_turn_pair_scaled F x y = true ∧ o_turn_pair_scaled_0 F x y = (scd x y).1 ∧ o_turn_pair_scaled_1 F x y = (scd x y).2 := by
  refine k_turn_pair_scaled F _ _ ?_
  unfold f_turn_pair_scaled
  have h1 := down_end 64 2 x y (big_I hx hy) (by omega)
  have h2 := down_pos 64 x y h
  obtain ⟨i1, i2⟩ := sz_I (x := (down 64 x y).1) (y := (down 64 x y).2) (by omega)
  rw [lp_scaled_0 F _ x y 0 0 64 F x y hx hy (by omega) h1]
  rw [lp_scaled_1 F _ x y 0 0 64 F _ _ i1 i2 (by omega) (dbl_end 64 _ _ (by omega))]
  rfl
theorem lp_rscaled_0 (F : Nat) (hF : 200 ≤ F) (ex) (x0 x1 x2 x5 : Int) : ∀ (m n i : Nat) (x y x6 : Int), I64 x → I64 y → m < n → x6 = i → i + m < 64 → big (down m x y).1 (down m x y).2 < 2305843009213693952 →
    ∃ j : Nat, L_ref05_Angle_0 F ex n x0 x1 x2 x y x5 x6 = ex x0 x1 x2 (down m x y).1 (down m x y).2 x5 j
  | _, 0, _, _, _, _, _, _, h, _, _, _ => absurd h (by omega)
  | 0, n + 1, i, x, y, _, hx, hy, _, rfl, hi, h => by
    refine ⟨i, ?_⟩
    rw [L_ref05_Angle_0]
    unfold B_ref05_Angle_0
    obtain ⟨a1, a2⟩ := a_r5bare F hx
    obtain ⟨b1, b2⟩ := a_r5bare F hy
    refine bp (dt (by omega)) (bp a1 (bp b1 ?_))
    rw [a2, b2]
    dsimp only
    rw [mx]
    exact bn (df (by unfold big down at h; dsimp only at h; omega)) rfl
  | m + 1, n + 1, i, x, y, _, hx, hy, hm, rfl, hi, h => by
    rw [L_ref05_Angle_0]
    unfold B_ref05_Angle_0
    obtain ⟨a1, a2⟩ := a_r5bare F hx
    obtain ⟨b1, b2⟩ := a_r5bare F hy
    rw [down] at h ⊢
    rw [bp (x := _) (dt (show (i : Int) < 64 by omega)) rfl, bp (x := _) a1 rfl, bp (x := _) b1 rfl, a2, b2]
    dsimp only
    rw [mx]
    by_cases hc : 2305843009213693952 ≤ big x y
    · rw [if_pos hc] at h ⊢
      obtain ⟨o1, o2⟩ := a_over F hF hx (m := 1) (by omega)
      obtain ⟨p1, p2⟩ := a_over F hF hy (m := 1) (by omega)
      rw [bp (x := _) (dt (show max (sz x) (sz y) ≥ 2305843009213693952 from hc)) rfl]
      have o1' : ok_ref05_over F x 1 = true := o1
      have o2' : o_ref05_over_0 F x 1 = x / 2 := o2
      have p1' : ok_ref05_over F y 1 = true := p1
      have p2' : o_ref05_over_0 F y 1 = y / 2 := p2
      rw [bp (x := _) o1' rfl, bp (x := _) p1' rfl, o2', p2']
      exact lp_rscaled_0 F hF ex x0 x1 x2 x5 m n (i + 1) _ _ _ (I64_half hx 1) (I64_half hy 1) (by omega) (wi64_s i (by omega)) (by omega) h
    · rw [if_neg hc]
      exact ⟨i, bn (df hc) rfl⟩
theorem lp_rscaled_1 (F : Nat) (ex) (x0 x1 x2 x5 x6 : Int) : ∀ (m n i : Nat) (x y x7 : Int), I64 x → I64 y → m < n → x7 = i → i + m < 64 → 1152921504606846976 ≤ big (dbl m x y).1 (dbl m x y).2 →
    ∃ j : Nat, L_ref05_Angle_1 F ex n x0 x1 x2 x y x5 x6 x7 = ex x0 x1 x2 (dbl m x y).1 (dbl m x y).2 x5 x6 j
  | _, 0, _, _, _, _, _, _, h, _, _, _ => absurd h (by omega)
  | 0, n + 1, i, x, y, _, hx, hy, _, rfl, hi, h => by
    refine ⟨i, ?_⟩
    rw [L_ref05_Angle_1]
    unfold B_ref05_Angle_1
    obtain ⟨a1, a2⟩ := a_r5bare F hx
    obtain ⟨b1, b2⟩ := a_r5bare F hy
    refine bp (dt (by omega)) (bp a1 (bp b1 ?_))
    rw [a2, b2]
    dsimp only
    rw [mx]
    exact bn (df (by unfold big dbl at h; dsimp only at h; omega)) rfl
  | m + 1, n + 1, i, x, y, _, hx, hy, hm, rfl, hi, h => by
    rw [L_ref05_Angle_1]
    unfold B_ref05_Angle_1
    obtain ⟨a1, a2⟩ := a_r5bare F hx
    obtain ⟨b1, b2⟩ := a_r5bare F hy
    rw [dbl] at h ⊢
    rw [bp (x := _) (dt (show (i : Int) < 64 by omega)) rfl, bp (x := _) a1 rfl, bp (x := _) b1 rfl, a2, b2]
    dsimp only
    rw [mx]
    by_cases hc : big x y < 1152921504606846976
    · rw [if_pos hc] at h ⊢
      obtain ⟨i1, i2⟩ := sz_I (x := x * 2) (y := y * 2) (by rw [big_dbl]; omega)
      rw [bp (x := _) (dt (show max (sz x) (sz y) < 1152921504606846976 from hc)) rfl, Int.mul_comm 2 x, Int.mul_comm 2 y, wi64_in i1, wi64_in i2]
      exact lp_rscaled_1 F ex x0 x1 x2 x5 x6 m n (i + 1) _ _ _ i1 i2 (by omega) (wi64_s i (by omega)) (by omega) h
    · rw [if_neg hc]
      exact ⟨i, bn (df hc) rfl⟩
/-- bounds of the steps -/
theorem aS_bd {x y : Int} (hx : 0 ≤ x ∧ x ≤ 2305843009213693952) (hy : -2305843009213693952 ≤ y ∧ y ≤ 2305843009213693952) : ∀ {i : Nat}, i ≤ 30 →
    (0 ≤ (aS x y i).1 ∧ (aS x y i).1 ≤ 6917529027641081856 - 2 * 2 ^ (61 - i)) ∧ (-2305843009213693952 ≤ (aS x y i).2.1 ∧ (aS x y i).2.1 ≤ 2305843009213693952) ∧ (-(536870912 * (i : Int)) ≤ (aS x y i).2.2 ∧ (aS x y i).2.2 ≤ 536870912 * (i : Int))
  | 0, _ => by simp only [aS]; omega
  | i + 1, h => by
    obtain ⟨h1, h2, h3⟩ := aS_bd hx hy (i := i) (by omega)
    have ht := tA_bd i (by omega)
    have hPQ : (2 : Int) ^ (61 - i) * 2 ^ i = 2305843009213693952 := by rw [p2add, show 61 - i + i = 61 by omega]; decide
    have e : (2 : Int) * 2 ^ (61 - (i + 1)) = 2 ^ (61 - i) := by
      rw [show 61 - i = (61 - (i + 1)) + 1 by omega, Int.pow_succ]; omega
    rw [e]
    have hQ := p2pos i
    have hP := p2pos (61 - i)
    have hx2 : (aS x y i).1 ≤ 2305843009213693952 * 2 ^ i := by
      match i, h1, hPQ with
      | 0, h1, _ => simp at h1 ⊢; omega
      | 1, h1, _ => simp at h1 ⊢; omega
      | i + 2, h1, _ =>
        have : (2 : Int) ^ (i + 2) = 4 * 2 ^ i := by rw [Int.pow_succ, Int.pow_succ]; omega
        have := p2pos i
        omega
    have hq0 : 0 ≤ (aS x y i).1 / 2 ^ i := Int.ediv_nonneg h1.1 (by omega)
    have hq1 : (aS x y i).1 / 2 ^ i ≤ 2305843009213693952 := Int.ediv_le_of_le_mul hQ hx2
    simp only [aS]
    have hy0 : (aS x y i).2.1 / 2 ^ i ≤ 2 ^ (61 - i) := Int.ediv_le_of_le_mul hQ (by rw [hPQ]; omega)
    have hy1 : -(2 ^ (61 - i)) ≤ (aS x y i).2.1 / 2 ^ i := (Int.le_ediv_iff_mul_le hQ).2 (by rw [Int.neg_mul, hPQ]; omega)
    by_cases hs : (aS x y i).2.1 < 0
    · have hn : (aS x y i).2.1 / 2 ^ i < 0 := Int.ediv_neg_of_neg_of_pos hs hQ
      simp only [hs, decide_true, if_true, rotX, rotY]
      push_cast
      omega
    · have hn : 0 ≤ (aS x y i).2.1 / 2 ^ i := Int.ediv_nonneg (by omega) (by omega)
      simp only [hs, decide_false, if_false, rotX, rotY, Bool.false_eq_true]
      push_cast
      omega
theorem aS_I {x y : Int} (hx : 0 ≤ x ∧ x ≤ 2305843009213693952) (hy : -2305843009213693952 ≤ y ∧ y ≤ 2305843009213693952) {i : Nat} (h : i ≤ 30) : I64 (aS x y i).1 ∧ I64 (aS x y i).2.1 := by
  obtain ⟨h1, h2, _⟩ := aS_bd hx hy h
  have := p2pos (61 - i)
  unfold I64
  omega
theorem lp_turn_Angle_0 (F : Nat) (ex) {x y z : Int} (hx : 0 ≤ x ∧ x ≤ 2305843009213693952) (hy : -2305843009213693952 ≤ y ∧ y ≤ 2305843009213693952) (x0 x1 x2 : Int) : ∀ (k n i : Nat) (x3 x34 x35 x36 : Int), i + k = 30 → k < n → x34 = i → x35 = (aS x y i).1 → x36 = (aS x y i).2.1 → x3 = ((aS x y i).2.2 + z) % 4294967296 →
    L_turn_Angle_0 F ex n x0 x1 x2 x3 536870912 316933406 167458907 85004756 42667331 21354465 10679838 5340245 2670163 1335087 667544 333772 166886 83443 41722 20861 10430 5215 2608 1304 652 326 163 81 41 20 10 5 3 1 x34 x35 x36 = ex x0 x1 x2 (((aS x y 30).2.2 + z) % 4294967296) 536870912 316933406 167458907 85004756 42667331 21354465 10679838 5340245 2670163 1335087 667544 333772 166886 83443 41722 20861 10430 5215 2608 1304 652 326 163 81 41 20 10 5 3 1 30 (aS x y 30).1 (aS x y 30).2.1
  | _, 0, _, _, _, _, _, _, h, _, _, _, _ => absurd h (by omega)
  | 0, n + 1, i, _, _, _, _, h, _, rfl, rfl, rfl, rfl => by
    obtain rfl : i = 30 := by omega
    rw [L_turn_Angle_0]
    unfold B_turn_Angle_0
    exact bn (df (by omega)) rfl
  | k + 1, n + 1, i, _, _, _, _, h, hn, rfl, rfl, rfl, rfl => by
    have hi' : i < 30 := by omega
    obtain ⟨g1, g2⟩ := angL_get i hi'
    obtain ⟨b1, b2⟩ := aS_I hx hy (i := i + 1) (by omega)
    have b3 := tA_bd i hi'
    obtain ⟨t1, t2, t3⟩ := turnedF F (x := (aS x y i).1) (y := (aS x y i).2.1) (i := i) (by omega) (decide ((aS x y i).2.1 < 0)) b1 b2
    rw [L_turn_Angle_0]
    unfold B_turn_Angle_0
    refine bp (dt (by omega)) (bp (by rw [zmul1, g1, show ((decide (0 ≤ (i : Int))) && (decide ((i : Int) < 30))) = true from ix_ok i 30 hi']; rfl) ?_)
    rw [zmul1, g2]
    refine bp t1 ?_
    rw [t2, t3]
    have w1 : IntKind.wrap .i64 ((i : Int) + 1) = ((i + 1 : Nat) : Int) := wi64_s i (by omega)
    rw [w1]
    by_cases hs : (aS x y i).2.1 < 0
    · refine bp (dt hs) ?_
      refine lp_turn_Angle_0 F ex hx hy x0 x1 x2 k n (i + 1) _ _ _ _ (by omega) (by omega) rfl rfl rfl ?_
      simp only [aS]
      rw [if_pos hs, wi64_in (x := 0 - tA i) (by unfold I64; omega), wu32, wu32]
      omega
    · refine bn (df hs) ?_
      refine lp_turn_Angle_0 F ex hx hy x0 x1 x2 k n (i + 1) _ _ _ _ (by omega) (by omega) rfl rfl rfl ?_
      simp only [aS]
      rw [if_neg hs, wu32, wu32]
      omega
theorem lp_rAngle_2 (F : Nat) (hF : 200 ≤ F) (ex) {x y z : Int} (hx : 0 ≤ x ∧ x ≤ 2305843009213693952) (hy : -2305843009213693952 ≤ y ∧ y ≤ 2305843009213693952) (hz : 0 ≤ z ∧ z ≤ 4294967296) (x0 x1 x2 x6 x7 : Int) : ∀ (k n i : Nat) (x3 x4 x5 x8 : Int), i + k = 30 → k < n → x8 = i → x3 = (aS x y i).1 → x4 = (aS x y i).2.1 → x5 = (aS x y i).2.2 + z →
    L_ref05_Angle_2 F ex n x0 x1 x2 x3 x4 x5 x6 x7 x8 = ex x0 x1 x2 (aS x y 30).1 (aS x y 30).2.1 ((aS x y 30).2.2 + z) x6 x7 30
  | _, 0, _, _, _, _, _, _, h, _, _, _, _ => absurd h (by omega)
  | 0, n + 1, i, _, _, _, _, h, _, rfl, rfl, rfl, rfl => by
    obtain rfl : i = 30 := by omega
    rw [L_ref05_Angle_2]
    unfold B_ref05_Angle_2
    exact bn (df (by omega)) rfl
  | k + 1, n + 1, i, _, _, _, _, h, hn, rfl, rfl, rfl, rfl => by
    have hi' : i < 30 := by omega
    obtain ⟨b1, b2⟩ := aS_I hx hy (i := i + 1) (by omega)
    obtain ⟨c1, c2⟩ := aS_I hx hy (i := i) (by omega)
    obtain ⟨_, _, b4⟩ := aS_bd hx hy (i := i) (by omega)
    have b3 := tA_bd i hi'
    obtain ⟨g1, g2⟩ := a_over F hF c1 (m := i) (by omega)
    obtain ⟨j1, j2⟩ := a_over F hF c2 (m := i) (by omega)
    obtain ⟨s1, s2⟩ := a_step F hi'
    rw [L_ref05_Angle_2]
    unfold B_ref05_Angle_2
    refine bp (dt (by omega)) (bp g1 (bp j1 ?_))
    rw [g2, j2]
    have w1 : IntKind.wrap .i64 ((i : Int) + 1) = ((i + 1 : Nat) : Int) := wi64_s i (by omega)
    rw [w1]
    by_cases hs : (aS x y i).2.1 < 0
    · refine bn (df (by omega)) (bp s1 ?_)
      rw [s2]
      simp only [aS, rotX, rotY, hs, decide_true, if_true] at b1 b2
      refine lp_rAngle_2 F hF ex hx hy hz x0 x1 x2 x6 x7 k n (i + 1) _ _ _ _ (by omega) (by omega) rfl ?_ ?_ ?_
      · simp only [aS, rotX, hs, decide_true, if_true]; rw [wi64_in b1]
      · simp only [aS, rotY, hs, decide_true, if_true]; rw [wi64_in b2]
      · simp only [aS, hs, if_true]; rw [wi64_in (by unfold I64; omega)]; omega
    · refine bp (dt (by omega)) (bp s1 ?_)
      rw [s2]
      simp only [aS, rotX, rotY, hs, decide_false, Bool.false_eq_true, if_false] at b1 b2
      refine lp_rAngle_2 F hF ex hx hy hz x0 x1 x2 x6 x7 k n (i + 1) _ _ _ _ (by omega) (by omega) rfl ?_ ?_ ?_
      · simp only [aS, rotX, hs, decide_false, Bool.false_eq_true, if_false]; rw [wi64_in b1]
      · simp only [aS, rotY, hs, decide_false, Bool.false_eq_true, if_false]; rw [wi64_in b2]
      · simp only [aS, hs, if_false]; rw [wi64_in (by unfold I64; omega)]; omega
end Go.Xv
namespace Go.Xv
theorem clip_opp {a : Int} (h : I64 a) : clipV (-a) = opp a := by
  unfold clipV opp; unfold I64 at h
  split <;> (try split) <;> (try split) <;> omega
theorem a_opp (F : Nat) {x y : Int} (hx : I64 x) (hy : I64 y) : ok_turn_opposite F x y = true ∧ o_turn_opposite_0 F x y = opp x ∧ o_turn_opposite_1 F x y = opp y := by
  refine k_turn_opposite F _ _ ?_
  unfold f_turn_opposite
  obtain ⟨h1, h2, _⟩ := a_fNeg F hx
  obtain ⟨g1, g2, _⟩ := a_fNeg F hy
  refine bp h1 (bp g1 ?_)
  rw [h2, g2, clip_opp hx, clip_opp hy]
theorem a_r5opp (F : Nat) {x : Int} (hx : I64 x) : ok_ref05_opposite F x = true ∧ o_ref05_opposite_0 F x = opp x := by
  refine k_ref05_opposite F _ ?_
  unfold f_ref05_opposite opp
  unfold I64 at hx
  by_cases h : x = -9223372036854775808
  · refine bp (by simp [h]) ?_
    rw [if_pos h]
  · refine bn (by simp [h]) ?_
    rw [if_neg h, wi64_in (by unfold I64; omega), Int.zero_sub]
theorem big_one {x y : Int} (h : ¬ (x = 0 ∧ y = 0)) : 1 ≤ big x y := by
  unfold big sz
  split <;> split <;> omega
theorem opp_pos {x : Int} (hx : I64 x) (h : x < 0) : 1 ≤ opp x := by unfold opp; split <;> omega
theorem big_to {x y : Int} (h : big x y < 2305843009213693952) (h0 : 0 ≤ x) : (0 ≤ x ∧ x ≤ 2305843009213693952) ∧ -2305843009213693952 ≤ y ∧ y ≤ 2305843009213693952 := by
  unfold big sz at h
  split at h <;> split at h <;> omega
theorem some_u32 {a b : Int} (h : a = b) : (some (VV.v (.int .u32 a)) : R) = some (.v (.int .u32 b)) := by rw [h]
theorem f_tAngle (F : Nat) (hF : 200 ≤ F) {y x : Int} (hy : I64 y) (hx : I64 x) : f_turn_Angle F y x = some (.v (.int .u32 (angle y x))) := by
  unfold f_turn_Angle
  obtain ⟨h0, e0, e1, e2, e3, e4, e5, e6, e7, e8, e9, e10, e11, e12, e13, e14, e15, e16, e17, e18, e19, e20, e21, e22, e23, e24, e25, e26, e27, e28, e29⟩ := angF F
  rw [e0, e1, e2, e3, e4, e5, e6, e7, e8, e9, e10, e11, e12, e13, e14, e15, e16, e17, e18, e19, e20, e21, e22, e23, e24, e25, e26, e27, e28, e29]
  have neg : x < 0 → angle y x = ((aS (scd (opp x) (opp y)).1 (scd (opp x) (opp y)).2 30).2.2 + 2147483648) % 4294967296 := by
    intro h; unfold angle; rw [if_neg (by omega), if_pos h]
  have pos : ¬ x < 0 → ¬ (x = 0 ∧ y = 0) → angle y x = ((aS (scd x y).1 (scd x y).2 30).2.2 + 0) % 4294967296 := by
    intro h h2; unfold angle; rw [if_neg h2, if_neg h, Int.add_zero]
  by_cases x0 : x = 0
  · refine bp (by simp [x0]) ?_
    by_cases y0 : y = 0
    · refine bp (by simp [y0]) (some_u32 ?_)
      unfold angle
      rw [if_pos ⟨x0, y0⟩]
    · have hb := big_one (x := x) (y := y) (by omega)
      obtain ⟨s1, s2, s3⟩ := a_scaled F hF hx hy hb
      obtain ⟨b1, b2⟩ := big_to (scd_bd hx hy hb).2 (scd_sgn (by omega))
      refine bn (by simp [y0]) (bn (df (by omega)) (bp s1 (bp h0 ?_)))
      rw [s2, s3, lp_turn_Angle_0 F _ (z := 0) b1 b2 _ _ _ 30 F 0 0 0 (scd x y).1 (scd x y).2 (by omega) (by omega) rfl rfl rfl rfl]
      exact some_u32 (pos (by omega) (by omega)).symm
  · refine bn (by simp [x0]) ?_
    by_cases hn : x < 0
    · have hb := big_one (x := opp x) (y := opp y) (by have := opp_pos hx hn; omega)
      obtain ⟨o1, o2, o3⟩ := a_opp F hx hy
      obtain ⟨s1, s2, s3⟩ := a_scaled F hF (opp_I hx) (opp_I hy) hb
      obtain ⟨b1, b2⟩ := big_to (scd_bd (opp_I hx) (opp_I hy) hb).2 (scd_sgn (by have := opp_pos hx hn; omega))
      refine bp (dt hn) (bp o1 ?_)
      rw [o2, o3]
      refine bp s1 (bp h0 ?_)
      rw [s2, s3, lp_turn_Angle_0 F _ (z := 2147483648) b1 b2 _ _ _ 30 F 0 2147483648 0 (scd (opp x) (opp y)).1 (scd (opp x) (opp y)).2 (by omega) (by omega) rfl rfl rfl rfl]
      exact some_u32 (neg hn).symm
    · have hb := big_one (x := x) (y := y) (by omega)
      obtain ⟨s1, s2, s3⟩ := a_scaled F hF hx hy hb
      obtain ⟨b1, b2⟩ := big_to (scd_bd hx hy hb).2 (scd_sgn (by omega))
      refine bn (df hn) (bp s1 (bp h0 ?_))
      rw [s2, s3, lp_turn_Angle_0 F _ (z := 0) b1 b2 _ _ _ 30 F 0 0 0 (scd x y).1 (scd x y).2 (by omega) (by omega) rfl rfl rfl rfl]
      exact some_u32 (pos hn (by omega)).symm
theorem a_tAngle (F : Nat) (hF : 200 ≤ F) {y x : Int} (hy : I64 y) (hx : I64 x) : ok_turn_Angle F y x = true ∧ o_turn_Angle_0 F y x = angle y x := k_turn_Angle F _ _ (f_tAngle F hF hy hx)
theorem angle_U (y x : Int) : U32 (angle y x) := by unfold angle U32; split <;> (try split) <;> omega
theorem down_32 : ∀ (m n : Nat) (x y : Int), m ≤ n → big (down m x y).1 (down m x y).2 < 2305843009213693952 → down n x y = down m x y
  | 0, n, x, y, _, h => by rw [down_small (by exact h)]; rfl
  | m + 1, 0, _, _, h, _ => absurd h (by omega)
  | m + 1, n + 1, x, y, hm, h => by
    rw [down] at h
    rw [down, down]
    by_cases hc : 2305843009213693952 ≤ big x y
    · rw [if_pos hc] at h ⊢
      rw [if_pos hc]
      exact down_32 m n _ _ (by omega) h
    · rw [if_neg hc, if_neg hc]
theorem dbl_all : ∀ (m n : Nat) (x y : Int), m ≤ n → 1152921504606846976 ≤ big (dbl m x y).1 (dbl m x y).2 → dbl n x y = dbl m x y
  | 0, 0, _, _, _, _ => rfl
  | 0, n + 1, x, y, _, h => if_neg (by unfold big dbl at h; dsimp only at h; unfold big; omega)
  | m + 1, 0, _, _, h, _ => absurd h (by omega)
  | m + 1, n + 1, x, y, hm, h => by
    rw [dbl] at h
    rw [dbl, dbl]
    by_cases hc : big x y < 1152921504606846976
    · rw [if_pos hc] at h ⊢
      rw [if_pos hc]
      exact dbl_all m n _ _ (by omega) h
    · rw [if_neg hc, if_neg hc]
theorem rscd (F : Nat) (hF : 200 ≤ F) (ex0) (x0 x1 x2 z : Int) {x y : Int} (hx : I64 x) (hy : I64 y) (hb : 1 ≤ big x y) (h0 : 0 ≤ x) (hz : 0 ≤ z ∧ z ≤ 4294967296)
    (hex : ∀ a b c d e f g h i, ex0 a b c d e f g h i = (some (.v (.int .u32 (IntKind.wrap .u32 f))) : R)) :
    L_ref05_Angle_0 F (fun a b c d e f g => L_ref05_Angle_1 F (fun a b c d e f g h => L_ref05_Angle_2 F ex0 F a b c d e f g h 0) F a b c d e f g 0) F x0 x1 x2 x y z 0 = some (.v (.int .u32 (((aS (scd x y).1 (scd x y).2 30).2.2 + z) % 4294967296))) := by
  have h1 := down_end 62 2 x y (big_I hx hy) (by omega)
  have h2 := down_pos 62 x y hb
  have hd := down_32 62 64 x y (by omega) h1
  have h4 := dbl_end 62 (down 62 x y).1 (down 62 x y).2 (by omega)
  have he := dbl_all 62 64 (down 62 x y).1 (down 62 x y).2 (by omega) h4
  have es : scd x y = dbl 62 (down 62 x y).1 (down 62 x y).2 := by unfold scd; rw [hd, he]
  obtain ⟨i1, i2⟩ := sz_I (x := (down 62 x y).1) (y := (down 62 x y).2) (by omega)
  have hs := scd_bd hx hy hb
  obtain ⟨b1, b2⟩ := big_to hs.2 (scd_sgn h0)
  obtain ⟨j, hj⟩ := lp_rscaled_0 F hF (fun a b c d e f g => L_ref05_Angle_1 F (fun a b c d e f g h => L_ref05_Angle_2 F ex0 F a b c d e f g h 0) F a b c d e f g 0) x0 x1 x2 z 62 F 0 x y 0 hx hy (by omega) rfl (by omega) h1
  rw [hj]
  obtain ⟨l, hl⟩ := lp_rscaled_1 F (fun a b c d e f g h => L_ref05_Angle_2 F ex0 F a b c d e f g h 0) x0 x1 x2 z j 62 F 0 (down 62 x y).1 (down 62 x y).2 0 i1 i2 (by omega) rfl (by omega) h4
  rw [hl]
  rw [← es, lp_rAngle_2 F hF _ b1 b2 hz _ _ _ _ _ 30 F 0 (scd x y).1 (scd x y).2 z 0 (by omega) (by omega) rfl rfl rfl (by simp [aS]), hex, wu32]
theorem f_rAngle (F : Nat) (hF : 200 ≤ F) {y x : Int} (hy : I64 y) (hx : I64 x) : f_ref05_Angle F y x = some (.v (.int .u32 (angle y x))) := by
  unfold f_ref05_Angle
  have neg : x < 0 → angle y x = ((aS (scd (opp x) (opp y)).1 (scd (opp x) (opp y)).2 30).2.2 + 2147483648) % 4294967296 := by
    intro h; unfold angle; rw [if_neg (by omega), if_pos h]
  have pos : ¬ x < 0 → ¬ (x = 0 ∧ y = 0) → angle y x = ((aS (scd x y).1 (scd x y).2 30).2.2 + 0) % 4294967296 := by
    intro h h2; unfold angle; rw [if_neg h2, if_neg h, Int.add_zero]
  by_cases x0 : x = 0
  · refine bp (by simp [x0]) ?_
    by_cases y0 : y = 0
    · refine bp (by simp [y0]) (some_u32 ?_)
      unfold angle
      rw [if_pos ⟨x0, y0⟩]
    · have hb := big_one (x := x) (y := y) (by omega)
      refine bn (by simp [y0]) (bn (df (by omega)) ?_)
      rw [pos (by omega) (by omega)]
      exact rscd F hF _ _ _ _ _ hx hy hb (by omega) (by omega) (fun _ _ _ _ _ _ _ _ _ => rfl)
  · refine bn (by simp [x0]) ?_
    by_cases hn : x < 0
    · have hb := big_one (x := opp x) (y := opp y) (by have := opp_pos hx hn; omega)
      obtain ⟨o1, o2⟩ := a_r5opp F hx
      obtain ⟨p1, p2⟩ := a_r5opp F hy
      refine bp (dt hn) (bp o1 (bp p1 ?_))
      rw [o2, p2, neg hn]
      exact rscd F hF _ _ _ _ _ (opp_I hx) (opp_I hy) hb (by have := opp_pos hx hn; omega) (by omega) (fun _ _ _ _ _ _ _ _ _ => rfl)
    · have hb := big_one (x := x) (y := y) (by omega)
      refine bn (df hn) ?_
      rw [pos hn (by omega)]
      exact rscd F hF _ _ _ _ _ hx hy hb (by omega) (by omega) (fun _ _ _ _ _ _ _ _ _ => rfl)
theorem a_rAngle (F : Nat) (hF : 200 ≤ F) {y x : Int} (hy : I64 y) (hx : I64 x) : ok_ref05_Angle F y x = true ∧ o_ref05_Angle_0 F y x = angle y x := k_ref05_Angle F _ _ (f_rAngle F hF hy hx)
def wayV (a b : Int) : Int := (b - a + 2147483648) % 4294967296 - 2147483648
theorem a_Way (F : Nat) (a b : Int) : ok_turn_Way F a b = true ∧ o_turn_Way_0 F a b = wayV a b := by
  refine k_turn_Way F _ _ ?_
  unfold f_turn_Way wayV
  refine some_int ?_
  rw [wi32, wu32]; omega
theorem a_near (F : Nat) {a b n : Int} (ha : U32 a) (hb : U32 b) (hn : 0 ≤ n ∧ n < 1000000) : ok_law05_near F a b n = true ∧ o_law05_near_0 F a b n = decide (wayV b a ≤ n ∧ -n ≤ wayV b a) := by
  refine k_law05_near F _ _ _ ?_
  unfold f_law05_near
  have e : IntKind.wrap .i32 (IntKind.wrap .u32 (a - b)) = wayV b a := by unfold wayV; rw [wi32, wu32]; omega
  rw [e, wi32_in (x := 0 - n) (by unfold I32; omega)]
  dsimp only
  by_cases h1 : wayV b a ≤ n
  · refine bp (dt h1) (some_bool ?_)
    rw [Bool.eq_iff_iff]
    simp only [decide_eq_true_eq]
    omega
  · refine bn (df h1) (some_bool ?_)
    rw [df (by omega)]
theorem f_works05 (F : Nat) (hF : 200 ≤ F) : f_law05_works F = some (.v (.bool true)) := by
  unfold f_law05_works
  obtain ⟨h1, h2, h3⟩ := a_tBoth F hF (a := 0) (by unfold U32; omega)
  obtain ⟨g1, g2⟩ := a_tAngle F hF (y := 4294967296) (x := 4294967296) (by unfold I64; omega) (by unfold I64; omega)
  obtain ⟨n1, n2⟩ := a_near F (a := angle 4294967296 4294967296) (b := 536870912) (n := 256) (angle_U _ _) (by unfold U32; omega) (by omega)
  obtain ⟨w1, w2⟩ := a_Way F 1 0
  have e1 : wayV 536870912 (angle 4294967296 4294967296) ≤ 256 ∧ -256 ≤ wayV 536870912 (angle 4294967296 4294967296) := by decide +kernel
  have e2 : bothC 0 > 4294966272 := by decide +kernel
  have e3 : bothS 0 < 1024 := by decide +kernel
  refine bp h1 (bp g1 ?_)
  rw [g2]
  refine bp n1 (bp (by rw [n2]; exact dt e1) (bp w1 (bp (by rw [w2]; decide) (bp (by rw [h2]; exact dt e2) (some_bool ?_)))))
  rw [h3]
  exact dt e3
theorem a_works05 (F : Nat) (hF : 200 ≤ F) : ok_law05_works F = true ∧ o_law05_works_0 F = true := k_law05_works F (f_works05 F hF)
end Go.Xv
namespace Go.Xv
theorem f_TurnAngle (F : Nat) (hF : 200 ≤ F) {y x : Int} (hy : I64 y) (hx : I64 x) : f_law05_TurnAngle F y x = some (.v (.bool true)) := by
  unfold f_law05_TurnAngle
  obtain ⟨h1, h2⟩ := a_tAngle F hF hy hx
  obtain ⟨g1, g2⟩ := a_rAngle F hF hy hx
  obtain ⟨w1, w2⟩ := a_works05 F hF
  simp only [h1, h2, g1, g2, w1, w2, BEq.rfl, cond_true]
end Go.Xv
namespace Go.Proofs.Ytpnggkefjgpleaa.turnAngle
open Go.ChangeShapes Go.WideShapes Go.ChangeAt Go.RowKit Go.Xv Go.Proofs.Ytpnggkefjgpleaa.base
set_option linter.unusedVariables false
set_option maxRecDepth 100000 in
theorem lifted (os : Os) (started : os.Started) (H : Type) (enc : TypeId × Value → H) :
    ReturnsInHanded {} Try.checked os 5 .any (Rows.turnAngleSpec.pre6 enc Try.prog Try.f5 Rows.turnAngleRow.domain false) (Rows.turnAngleSpec.post enc Try.prog Try.f5 false true false false) := by
  refine returnsInHanded_of_change (C := Try.checked) own started (by kernel_rfl) Try.func5
    (ChangeSpec.witness6 (enc := enc) (C := Try.checked) false ⟨#[], #[.int .i64 0, .int .i64 0], []⟩ 8 (by kernel_rfl) (by kernel_rfl) (by kernel_rfl) (by kernel_rfl)) ?_
  intro W base args ds gs before hval0 hW hcnd _
  have hval : ∀ (j : Nat) t v, Try.f5.params[j]? = some t → args[j]? = some v → Value.okWide Try.prog W .any base t v := hval0
  have hW' := hW
  obtain ⟨p, q, hA0, hV, rfl, hfz, hnd⟩ := hW
  have hA : DataW.TrodAll enc Try.prog W 0 (fun _ => true) true Try.f5.params.toList args.toList ds p := hA0
  rw [Try.params5] at hA hval
  obtain ⟨v0, vs0, d0, ds0, p0, q0, hargs, rfl, rfl, h0, r0⟩ := trodAll_cons hA
  obtain ⟨v1, vs1, d1, ds1, p1, q1, rfl, rfl, rfl, h1, r1⟩ := trodAll_cons r0
  obtain ⟨rfl, rfl, rfl⟩ := trodAll_nil r1
  obtain rfl : args = #[v0, v1] := by cases args; simp_all
  obtain ⟨a0, rfl, wa0⟩ := open_num (k := .i64) (by kernel_rfl) (hval 0 22 v0 rfl rfl) h0
  obtain ⟨a1, rfl, wa1⟩ := open_num (k := .i64) (by kernel_rfl) (hval 1 22 v1 rfl rfl) h1
  refine law_contract laidOut (g_law05_TurnAngle fuel0) (bt := 4) (by kernel_rfl) (by kernel_rfl) (by kernel_rfl) (by kernel_rfl) rfl hW' ?_
  refine ⟨[.v (.int .i64 a0), .v (.int .i64 a1)], rfl, fun i x hx => ?_, unS_of ?_⟩
  · match i, hx with
    | 0, hx => exact ⟨_, rfl, by cases hx; exact Rel.v _ _⟩
    | 1, hx => exact ⟨_, rfl, by cases hx; exact Rel.v _ _⟩
    | _ + 2, hx => cases hx
  · obtain ⟨y1, y2⟩ := k_law05_TurnAngle fuel0 a0 a1 (f_TurnAngle fuel0 (by unfold fuel0; omega) (wf_i64 wa0) (wf_i64 wa1))
    have e : s_law05_TurnAngle fuel0 [.v (.int .i64 a0), .v (.int .i64 a1)] = some (ok_law05_TurnAngle fuel0 a0 a1, .v (.bool (o_law05_TurnAngle_0 fuel0 a0 a1))) := by kernel_rfl
    rw [e, y1, y2]
theorem over : Rows.turnAngleRow.holds Try.pinned (OpenSpec.ofChange Rows.turnAngleSpec) :=
  OpenClaim.holds_of_wide 5 Try.f5 rfl rfl rfl rfl rfl rfl rfl ⟨rfl, rfl, rfl, rfl, rfl⟩ rfl rfl rfl rfl rfl (by kernel_rfl) Try.func5 (joined_of (P := Try.prog) behind enter_ rfl rfl ⟨rfl, rfl⟩ (by kernel_rfl))
    (of_decide_eq_true (by kernel_rfl)) (by unfold Func.isWrapper; first | (rw [if_pos (by decide +kernel)]; kernel_rfl) | (rw [if_neg (by decide +kernel)]; exact ⟨rfl, rfl⟩))
    (fun os started H enc _ => lifted os started H enc)
/-- The statement. -/
theorem proved : Rows.TurnAngleSaid := over
#print axioms proved
end Go.Proofs.Ytpnggkefjgpleaa.turnAngle
