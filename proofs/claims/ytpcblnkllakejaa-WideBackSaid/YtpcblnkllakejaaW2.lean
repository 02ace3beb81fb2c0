/- The functions of wide numbers, of the program and of the document: what they compute (their loops end within the steps that are given). -/
import Derived.Test.YtpcblnkllakejaaW
namespace Go.Xv
theorem bp {α : Type} {c : Bool} {a b x : α} (h : c = true) (h2 : a = x) : (bif c then a else b) = x := by rw [h]; exact h2
theorem bn {α : Type} {c : Bool} {a b x : α} (h : c = false) (h2 : b = x) : (bif c then a else b) = x := by rw [h]; exact h2
theorem dt {p : Prop} [Decidable p] (h : p) : decide p = true := decide_eq_true h
theorem df {p : Prop} [Decidable p] (h : ¬ p) : decide p = false := decide_eq_false h
theorem fdiv_pos (a : Int) {b : Int} (h : 0 ≤ b) : Int.fdiv a b = a / b := Int.fdiv_eq_ediv_of_nonneg a h
theorem some_int {k : IntKind} {a b : Int} (h : a = b) : (some (VV.v (.int k a)) : R) = some (.v (.int k b)) := by rw [h]
theorem some_wd {a b : Int} {z : Int} (h : a = hi z) (k : b = lo z) : (some (VV.v (.agg #[.int .i64 a, .int .u64 b])) : R) = some (wd z) := by rw [h, k]; rfl

theorem f_bare (F : Nat) {a : Int} (h : I64 a) : f_wide_bare F a = some (.v (.int .u64 (if a < 0 then -a else a))) := by
  unfold f_wide_bare
  unfold I64 at h
  by_cases h0 : a < 0
  · refine bp (dt h0) (some_int ?_)
    rw [if_pos h0, wu64, wu64]; omega
  · refine bn (df h0) (some_int ?_)
    rw [if_neg h0, wu64]; omega

theorem f_product (F : Nat) {a b : Int} (ha : U64 a) (hb : U64 b) : f_wide_product F a b = some (wd (a * b)) := by
  unfold f_wide_product
  unfold U64 at ha hb
  have ea : a = a / 4294967296 * 4294967296 + a % 4294967296 := by omega
  have eb : b = b / 4294967296 * 4294967296 + b % 4294967296 := by omega
  have hp : 0 ≤ a / 4294967296 ∧ a / 4294967296 ≤ 4294967295 := by omega
  have hq : 0 ≤ a % 4294967296 ∧ a % 4294967296 ≤ 4294967295 := by omega
  have hr : 0 ≤ b / 4294967296 ∧ b / 4294967296 ≤ 4294967295 := by omega
  have hs : 0 ≤ b % 4294967296 ∧ b % 4294967296 ≤ 4294967295 := by omega
  have hab : a * b = (a / 4294967296) * (b / 4294967296) * 18446744073709551616 + ((a / 4294967296) * (b % 4294967296) + (a % 4294967296) * (b / 4294967296)) * 4294967296 + (a % 4294967296) * (b % 4294967296) := by
    generalize a / 4294967296 = p at *
    generalize a % 4294967296 = q at *
    generalize b / 4294967296 = r at *
    generalize b % 4294967296 = s at *
    subst ea eb
    simp only [Int.add_mul, Int.mul_add]
    have : p * 4294967296 * (r * 4294967296) = p * r * 18446744073709551616 := by
      rw [show (18446744073709551616 : Int) = 4294967296 * 4294967296 by decide]
      simp only [Int.mul_comm, Int.mul_assoc, Int.mul_left_comm]
    have : p * 4294967296 * s = p * s * 4294967296 := by simp only [Int.mul_comm, Int.mul_assoc, Int.mul_left_comm]
    have : q * (r * 4294967296) = q * r * 4294967296 := by simp only [Int.mul_assoc]
    omega
  have bd : ∀ x y : Int, (0 ≤ x ∧ x ≤ 4294967295) → (0 ≤ y ∧ y ≤ 4294967295) → 0 ≤ x * y ∧ x * y ≤ 18446744065119617025 := by
    intro x y hx hy
    have h1 := Int.mul_nonneg hx.1 hy.1
    have h2 : x * y ≤ 4294967295 * 4294967295 := Int.mul_le_mul hx.2 hy.2 hy.1 (by decide)
    exact ⟨h1, by simpa using h2⟩
  have b1 := bd _ _ hp hr
  have b2 := bd _ _ hp hs
  have b3 := bd _ _ hq hr
  have b4 := bd _ _ hq hs
  have m1 : ∀ x, U64 x → andI .u64 x 4294967295 = x % 4294967296 := fun x hx => mask32_u64 hx
  simp only [fdiv_pos _ (show (0 : Int) ≤ 4294967296 by decide)]
  rw [m1 a ha, m1 b hb]
  rw [hab]
  clear hab ea eb
  generalize a / 4294967296 * (b / 4294967296) = pr at *
  generalize a / 4294967296 * (b % 4294967296) = ps at *
  generalize a % 4294967296 * (b / 4294967296) = qr at *
  generalize a % 4294967296 * (b % 4294967296) = qs at *
  rw [wu64_in (x := qs) (by unfold U64; omega), wu64_in (x := ps) (by unfold U64; omega), wu64_in (x := qr) (by unfold U64; omega), wu64_in (x := pr) (by unfold U64; omega)]
  rw [wu64_in (x := ps + qs / 4294967296) (by unfold U64; omega)]
  rw [m1 _ (show U64 (ps + qs / 4294967296) by unfold U64; omega), m1 qs (by unfold U64; omega)]
  rw [wu64_in (x := (ps + qs / 4294967296) % 4294967296 + qr) (by unfold U64; omega)]
  have e : IntKind.wrap .u64 (((ps + qs / 4294967296) % 4294967296 + qr) * 4294967296) = (((ps + qs / 4294967296) % 4294967296 + qr) % 4294967296) * (2 ^ 32 : Nat) := by
    rw [wu64]; omega
  rw [e, or_add_u64 32 (by omega) (by omega) (by omega) (by omega)]
  refine some_wd ?_ ?_
  · simp only [wu64, wi64]; unfold hi; omega
  · unfold lo; omega

theorem f_Add (F : Nat) {a b c d : Int} (hb : U64 b) (hd : U64 d) : f_wide_Add F a b c d = some (wd (val a b + val c d)) := by
  unfold f_wide_Add
  unfold U64 at hb hd
  simp only [wu64, wi64]
  by_cases h : (b + d) % 18446744073709551616 < b
  · refine bp (dt h) (some_wd ?_ ?_)
    · unfold hi val; omega
    · unfold lo val; omega
  · refine bn (df h) (some_wd ?_ ?_)
    · unfold hi val; omega
    · unfold lo val; omega

theorem f_Neg (F : Nat) {a b : Int} (ha : I64 a) (hb : U64 b) : f_wide_Neg F a b = some (wd (-val a b)) := by
  unfold f_wide_Neg
  rw [not_i64 ha, not_u64 hb]
  unfold U64 at hb
  obtain ⟨h1, h2, h3⟩ := k_wide_Add F _ _ _ _ (f_Add F (a := -1 - a) (b := 18446744073709551615 - b) (c := 0) (d := 1) (by unfold U64; omega) (by unfold U64; omega))
  refine bp h1 ?_
  rw [h2, h3]
  refine some_wd (hi_eqv ?_) (lo_eqv ?_)
  all_goals unfold Eqv val; omega

theorem f_Mul (F : Nat) {a b : Int} (ha : I64 a) (hb : I64 b) : f_wide_Mul F a b = some (wd (a * b)) := by
  unfold f_wide_Mul
  obtain ⟨h1, h2⟩ := k_wide_bare F a (f_bare F ha)
  obtain ⟨h3, h4⟩ := k_wide_bare F b (f_bare F hb)
  unfold I64 at ha hb
  refine bp h1 (bp h3 ?_)
  simp only [h2, h4]
  obtain ⟨p1, p2, p3⟩ := k_wide_product F _ _ (f_product F (a := if a < 0 then -a else a) (b := if b < 0 then -b else b) (by unfold U64; split <;> omega) (by unfold U64; split <;> omega))
  refine bp p1 ?_
  simp only [p2, p3]
  have neg : ∀ z : Int, (bif ok_wide_Neg F (hi z) (lo z) then (some (.v (.agg #[.int .i64 (o_wide_Neg_0 F (hi z) (lo z)), .int .u64 (o_wide_Neg_1 F (hi z) (lo z))])) : R) else none) = some (wd (-z)) := by
    intro z
    obtain ⟨n1, n2, n3⟩ := k_wide_Neg F _ _ (f_Neg F (hi_I z) (lo_U z))
    refine bp n1 ?_
    rw [n2, n3, val_hl]
    exact some_wd (hi_eqv (W_eqv z).neg) (lo_eqv (W_eqv z).neg)
  by_cases h0 : a < 0 <;> by_cases k0 : b < 0
  · simp only [h0, k0, decide_true, if_true, BEq.rfl, Bool.not_true, cond_false, Int.neg_mul_neg]; rfl
  · simp only [h0, k0, decide_true, decide_false, if_true, if_false]
    refine bp (by decide) ?_
    rw [neg, Int.neg_mul, Int.neg_neg]
  · simp only [h0, k0, decide_true, decide_false, if_true, if_false]
    refine bp (by decide) ?_
    rw [neg, Int.mul_neg, Int.neg_neg]
  · simp only [h0, k0, decide_false, if_false, BEq.rfl, Bool.not_true, cond_false]; rfl
end Go.Xv
namespace Go.Xv
theorem some_bool {a b : Bool} (h : a = b) : (some (VV.v (.bool a)) : R) = some (.v (.bool b)) := by rw [h]
theorem nn (k : Nat) : (!decide ((k : Int) < 0)) = true := by rw [df (by omega)]; rfl
theorem p2min {m : Nat} (h : m ≤ 64) : min (Int.toNat (m : Int)) 64 = m := by omega

theorem f_Of (F : Nat) {n : Int} (h : I64 n) : f_wide_Of F n = some (wd n) := by
  unfold f_wide_Of
  unfold I64 at h
  refine some_wd ?_ ?_
  · rw [fdiv_pos _ (by decide)]; unfold hi; omega
  · rw [wu64]; rfl
theorem f_rOf (F : Nat) {n : Int} (h : I64 n) : f_ref01_Of F n = some (wd n) := by
  unfold f_ref01_Of
  unfold I64 at h
  by_cases h0 : n < 0
  · refine bp (dt h0) (some_wd ?_ ?_)
    · unfold hi; omega
    · rw [wu64]; rfl
  · refine bn (df h0) (some_wd ?_ ?_)
    · unfold hi; omega
    · rw [wu64]; rfl

/-- how far a number is shifted to the right at most -/
def cl (n : Int) : Nat := (if 127 < (if 0 > n then 0 else n) then 127 else (if 0 > n then 0 else n)).toNat
theorem f_Right (F : Nat) {a b n : Int} (ha : I64 a) (hb : U64 b) : f_wide_Right F a b n = some (wd (val a b / 2 ^ cl n)) := by
  unfold f_wide_Right cl
  dsimp only
  generalize hv : (if 127 < (if 0 > n then 0 else n) then (127 : Int) else (if 0 > n then 0 else n)) = v
  have hv2 : 0 ≤ v ∧ v ≤ 127 := by
    subst hv
    split <;> split <;> omega
  obtain ⟨m, rfl⟩ := Int.eq_ofNat_of_zero_le hv2.1
  simp only [Int.toNat_natCast]
  by_cases h : 64 ≤ m
  · refine bp (dt (by omega)) ?_
    rw [wi64_in (x := (m : Int) - 64) (by unfold I64; omega), show (m : Int) - 64 = ((m - 64 : Nat) : Int) by omega]
    refine bp (nn _) ?_
    rw [p2min (by omega), fdiv_pos _ (Int.le_of_lt (p2pos _))]
    obtain ⟨h1, h2, h3⟩ := k_wide_Of F _ (f_Of F (div_I64 ha (p2pos (m - 64))))
    refine bp h1 ?_
    rw [h2, h3, ← shr_great hb h]; rfl
  · refine bn (df (by omega)) ?_
    refine bp (nn _) (bp (nn _) ?_)
    rw [wi64_in (x := 64 - (m : Int)) (by unfold I64; omega), show 64 - (m : Int) = ((64 - m : Nat) : Int) by omega]
    refine bp (nn _) ?_
    rw [fdiv_pos _ (Int.le_of_lt (p2pos _)), fdiv_pos _ (Int.le_of_lt (p2pos _)), show min m 64 = m by omega, p2min (by omega), wu64, wu64]
    obtain ⟨h1, h2⟩ := shr_small ha hb (show m < 64 by omega)
    exact some_wd h1 h2

theorem f_Left (F : Nat) {a b n : Int} (hb : U64 b) : f_wide_Left F a b n = some (wd (val a b * 2 ^ n.toNat)) := by
  unfold f_wide_Left
  have hv : (if 0 > n then 0 else n) = ((n.toNat : Nat) : Int) := by split <;> omega
  rw [hv]
  generalize n.toNat = m
  simp only [Int.toNat_natCast]
  by_cases h : 128 ≤ m
  · refine bp (dt (by omega)) ?_
    obtain ⟨h1, h2⟩ := shl_all (h := a) (l := b) h
    exact some_wd h1 h2
  · refine bn (df (by omega)) ?_
    by_cases h : 64 ≤ m
    · refine bp (dt (by omega)) ?_
      rw [wi64_in (x := (m : Int) - 64) (by unfold I64; omega), show (m : Int) - 64 = ((m - 64 : Nat) : Int) by omega]
      refine bp (nn _) ?_
      rw [p2min (by omega), wu64]
      obtain ⟨h1, h2⟩ := shl_great (h := a) (l := b) h
      exact some_wd h1 h2
    · refine bn (df (by omega)) ?_
      refine bp (nn _) ?_
      rw [wi64_in (x := 64 - (m : Int)) (by unfold I64; omega), show 64 - (m : Int) = ((64 - m : Nat) : Int) by omega]
      refine bp (nn _) (bp (nn _) ?_)
      rw [fdiv_pos _ (Int.le_of_lt (p2pos _)), show min m 64 = m by omega, p2min (by omega), wu64, wu64, wu64]
      obtain ⟨h1, h2⟩ := shl_small (h := a) hb (show m < 64 by omega)
      exact some_wd h1 h2

/-- over a power of two, to the nearest one -/
def near (z : Int) (m : Nat) : Int := if m = 0 then z else z / 2 ^ m + z / 2 ^ (m - 1) % 2
theorem cl_pred {n : Int} (h : 0 < n) (h2 : n ≤ 127) : cl (n - 1) = cl n - 1 := by
  unfold cl
  rw [if_neg (show ¬ 0 > n by omega), if_neg (show ¬ 0 > n - 1 by omega), if_neg (by omega), if_neg (by omega)]
  omega
theorem lo_mod2 (z : Int) : lo z % 2 = z % 2 := by unfold lo; omega
theorem f_Near (F : Nat) {a b n : Int} (ha : I64 a) (hb : U64 b) : f_wide_Near F a b n = some (wd (near (val a b) (cl n))) := by
  unfold f_wide_Near
  by_cases h : n ≤ 0
  · rw [if_neg (show ¬ 127 < n by omega)]
    refine bp (dt h) ?_
    have : cl n = 0 := by
      unfold cl
      rw [if_neg]
      · split <;> omega
      · split <;> omega
    rw [this]
    exact some_wd (hi_val ha hb).symm (lo_val hb).symm
  · generalize hv : (if 127 < n then 127 else n) = v
    have hc : cl n = cl v := by
      subst hv
      unfold cl
      by_cases hn : 127 < n
      · rw [if_pos hn, if_neg (show ¬ 0 > n by omega), if_pos hn]; decide
      · rw [if_neg hn]
    have hv1 : 0 < v ∧ v ≤ 127 := by subst hv; split <;> omega
    refine bn (df (by omega)) ?_
    obtain ⟨h1, h2, h3⟩ := k_wide_Right F _ _ _ (f_Right F (n := v) ha hb)
    refine bp h1 ?_
    rw [wi64_in (x := v - 1) (by unfold I64; omega)]
    obtain ⟨g1, g2, g3⟩ := k_wide_Right F _ _ _ (f_Right F (n := v - 1) ha hb)
    refine bp g1 ?_
    rw [h2, h3, g3, mask1_u64 (lo_U _), lo_mod2, cl_pred hv1.1 hv1.2, ← hc]
    have hm : cl n ≠ 0 := by
      rw [hc]
      unfold cl
      rw [if_neg (show ¬ 0 > v by omega), if_neg (by omega)]
      omega
    obtain ⟨k1, k2, k3⟩ := k_wide_Add F _ _ _ _ (f_Add F (a := hi (val a b / 2 ^ cl n)) (c := 0) (d := val a b / 2 ^ (cl n - 1) % 2) (lo_U (val a b / 2 ^ cl n)) (by unfold U64; omega))
    refine bp k1 ?_
    rw [k2, k3, val_hl]
    unfold near
    rw [if_neg hm]
    refine some_wd (hi_eqv ?_) (lo_eqv ?_)
    all_goals exact (W_eqv _).add (show Eqv (val 0 _) _ by unfold val; rw [Int.zero_mul, Int.zero_add]; exact rfl)

theorem f_Sign (F : Nat) {a b : Int} (hb : U64 b) : f_wide_Sign F a b = some (.v (.int .i64 (if val a b < 0 then -1 else if val a b = 0 then 0 else 1))) := by
  unfold f_wide_Sign val
  unfold U64 at hb
  by_cases h : a < 0
  · refine bp (dt h) (some_int ?_)
    rw [if_pos (by omega)]
  · refine bn (df h) ?_
    by_cases h2 : a = 0 ∧ b = 0
    · refine bp (by simp [h2]) (some_int ?_)
      rw [if_neg (by omega), if_pos (by omega)]
    · refine bn (by simp; omega) (some_int ?_)
      rw [if_neg (by omega), if_neg (by omega)]
theorem f_rSign (F : Nat) {a b : Int} (hb : U64 b) : f_ref01_Sign F a b = some (.v (.int .i64 (if val a b < 0 then -1 else if val a b = 0 then 0 else 1))) := by
  unfold f_ref01_Sign val
  unfold U64 at hb
  by_cases h : a < 0
  · refine bp (dt h) (some_int ?_)
    rw [if_pos (by omega)]
  · refine bn (df h) ?_
    by_cases h2 : a = 0
    · refine bp (by simp [h2]) ?_
      by_cases h3 : b = 0
      · refine bp (by simp [h3]) (some_int ?_)
        rw [if_neg (by omega), if_pos (by omega)]
      · refine bn (by simp [h3]) (some_int ?_)
        rw [if_neg (by omega), if_neg (by omega)]
    · refine bn (by simp [h2]) (some_int ?_)
      rw [if_neg (by omega), if_neg (by omega)]
theorem f_Less (F : Nat) {a b c d : Int} (hb : U64 b) (hd : U64 d) : f_wide_Less F a b c d = some (.v (.bool (decide (val a b < val c d)))) := by
  unfold f_wide_Less val
  unfold U64 at hb hd
  by_cases h : a = c
  · refine bn (by simp [h]) (some_bool ?_)
    rw [decide_eq_decide]; omega
  · refine bp (by simp [h]) (some_bool ?_)
    rw [decide_eq_decide]; omega
end Go.Xv
namespace Go.Xv
theorem lo_step (z : Int) (i : Nat) : IntKind.wrap .u64 (Int.tdiv (lo z / 2 ^ i) 2) = lo z / 2 ^ (i + 1) := by
  have h := lo_U z
  unfold U64 at h
  have h1 := Int.ediv_nonneg h.1 (Int.le_of_lt (p2pos i))
  have h2 := Int.ediv_le_self (2 ^ i) h.1
  rw [Int.tdiv_eq_ediv_of_nonneg h1, ediv2, wu64_in]
  have h3 := Int.ediv_nonneg h.1 (Int.le_of_lt (p2pos (i + 1)))
  have h4 := Int.ediv_le_self (2 ^ (i + 1)) h.1
  unfold U64; omega
theorem lo_bit (z : Int) {i : Nat} (h : i < 64) : IntKind.wrap .i64 (Int.tmod (lo z / 2 ^ i) 2) = dg z i := by
  have h0 := lo_U z
  unfold U64 at h0
  have h1 := Int.ediv_nonneg h0.1 (Int.le_of_lt (p2pos i))
  rw [Int.tmod_eq_emod_of_nonneg h1, dg_lo z h, wi64_in]
  have := dg_01 z i
  unfold I64; omega
theorem cap_ok (z : Int) (i : Nat) (h : i < 1000) : (((decide ((0 + (i * 1)) ≤ (ds z i).length)) && true) && (decide ((i + 1) * 9 ≤ bigger))) = true := by
  rw [ds_len, dt (by omega), dt (show (i + 1) * 9 ≤ bigger by unfold bigger; omega)]; rfl
theorem lp_Digits_0 (F : Nat) (ex) (z x0 x1 x5 x6 : Int) : ∀ (k n i : Nat) (x3 x4 : Int) (x7 : List VV), i + k = 64 → k < n → x3 = lo z / 2 ^ i → x4 = i → x7 = ds z i →
    L_ref01_Digits_0 F ex n x0 x1 i x3 x4 x5 x6 x7 = ex x0 x1 64 (lo z / 2 ^ 64) 64 x5 x6 (ds z 64)
  | _, 0, _, _, _, _, _, h, _, _, _ => absurd h (by omega)
  | 0, n + 1, i, _, _, _, h, _, rfl, rfl, rfl => by
    obtain rfl : i = 64 := by omega
    rw [L_ref01_Digits_0]
    unfold B_ref01_Digits_0
    exact bn (df (by omega)) rfl
  | k + 1, n + 1, i, _, _, _, h, hn, rfl, rfl, rfl => by
    rw [L_ref01_Digits_0]
    unfold B_ref01_Digits_0
    refine bp (dt (by omega)) (bp (cap_ok z _ (by omega)) ?_)
    refine lp_Digits_0 F ex z x0 x1 x5 x6 k n (i + 1) _ _ _ (by omega) (by omega) (lo_step z i) ?_ ?_
    · rw [wi64_in (by unfold I64; omega)]; push_cast; rfl
    · rw [ds_take, lo_bit z (by omega), ← ds_succ]
def up (z : Int) : Int := z / 18446744073709551616 % 18446744073709551616
theorem lp_Digits_1 (F : Nat) (ex) (z x0 x1 x3 x4 x7 x8 : Int) : ∀ (k n i j : Nat) (x5 x6 : Int) (x9 : List VV), i + k = 64 → j = 64 + i → k < n → x5 = up z / 2 ^ i → x6 = i → x9 = ds z j →
    L_ref01_Digits_1 F ex n x0 x1 j x3 x4 x5 x6 x7 x8 x9 = ex x0 x1 128 x3 x4 (up z / 2 ^ 64) 64 x7 x8 (ds z 128)
  | _, 0, _, _, _, _, _, _, _, h, _, _, _ => absurd h (by omega)
  | 0, n + 1, i, j, _, _, _, h, hj, _, rfl, rfl, rfl => by
    obtain rfl : i = 64 := by omega
    obtain rfl : j = 128 := by omega
    rw [L_ref01_Digits_1]
    unfold B_ref01_Digits_1
    exact bn (df (by omega)) rfl
  | k + 1, n + 1, i, j, _, _, _, h, hj, hn, rfl, rfl, rfl => by
    rw [L_ref01_Digits_1]
    unfold B_ref01_Digits_1
    refine bp (dt (by omega)) (bp (cap_ok z _ (by omega)) ?_)
    have e : up z = lo (z / 18446744073709551616) := rfl
    refine lp_Digits_1 F ex z x0 x1 x3 x4 x7 x8 k n (i + 1) (j + 1) _ _ _ (by omega) (by omega) (by omega) ?_ ?_ ?_
    · rw [e, lo_step]
    · rw [wi64_in (by unfold I64; omega)]; push_cast; rfl
    · rw [ds_take, e, lo_bit _ (by omega), ← dg_lo _ (by omega), ← e]
      unfold up
      rw [dg_hi z (by omega), ← hj, ← ds_succ]
theorem f_Digits (F : Nat) (hF : 200 ≤ F) {a b : Int} (hb : U64 b) : f_ref01_Digits F a b = some (.fs (ds (val a b) 128) 0 128 1) := by
  unfold f_ref01_Digits
  have hl := lo_val (h := a) hb
  rw [lp_Digits_0 F _ (val a b) a b a b 64 F 0 b 0 [] (by omega) (by omega) (by rw [hl]; simp) rfl rfl]
  rw [lp_Digits_1 F _ (val a b) a b _ _ _ _ 64 F 0 64 _ 0 _ (by omega) (by omega) (by omega) ?_ rfl rfl]
  rw [wu64]
  unfold up val
  unfold U64 at hb
  simp only [Int.pow_zero]
  omega

theorem num_iv (l : List VV) (i : Nat) (b : Int) (h : l[i]? = some (.v (.int .i64 b))) : isI .i64 l[i]? = true ∧ iv l[i]? = b := by
  rw [h]
  exact ⟨rfl, rfl⟩
theorem zmul (i : Nat) : (0 + ((Int.toNat (i : Int)) * 1)) = i := by simp
theorem lp_Number_0 (F : Nat) (ex) (z : Int) (l : List VV) (x1 : Nat) (x3 x6 x7 : Int) (h1 : 64 ≤ x1) (hl : ∀ i : Nat, i < 64 → l[i]? = some (.v (.int .i64 (dg z i)))) : ∀ (k n i : Nat) (x2 x4 x5 : Int), i + k = 64 → k < n → x2 = num z i → x4 = (2 ^ i) % 18446744073709551616 → x5 = i →
    L_ref01_Number_0 F ex n l x1 x2 x3 x4 x5 x6 x7 = ex l x1 (num z 64) x3 0 64 x6 x7
  | _, 0, _, _, _, _, _, h, _, _, _ => absurd h (by omega)
  | 0, n + 1, i, _, _, _, h, _, rfl, rfl, rfl => by
    obtain rfl : i = 64 := by omega
    rw [L_ref01_Number_0]
    unfold B_ref01_Number_0
    exact bn (df (by omega)) rfl
  | k + 1, n + 1, i, _, _, _, h, hn, rfl, rfl, rfl => by
    have hi : i < 64 := by omega
    obtain ⟨g1, g2⟩ := num_iv l i _ (hl i hi)
    have hd := dg_01 z i
    have hp := p2pos i
    have hp2 := p2_lt64 hi
    have hb := num_bd z i
    rw [L_ref01_Number_0]
    unfold B_ref01_Number_0
    refine bp (dt (by omega)) (bp (dt (by omega)) (bp (by simp; omega) (bp (by rw [zmul, g1]; rfl) ?_)))
    rw [zmul, g2, wu64_in (x := dg z i) (by unfold U64; omega)]
    refine lp_Number_0 F ex z l x1 x3 x6 x7 h1 hl k n (i + 1) _ _ _ (by omega) (by omega) ?_ ?_ ?_
    · rw [num_succ]
      generalize (2 : Int) ^ i = P at *
      rw [Int.emod_eq_of_lt (a := P) (by omega) (by omega)]
      have : 0 ≤ dg z i * P ∧ dg z i * P ≤ P := by
        rcases (show dg z i = 0 ∨ dg z i = 1 by omega) with h | h <;> rw [h] <;> omega
      rw [wu64_in (x := dg z i * P) (by unfold U64; omega), wu64_in (by unfold U64; omega)]
    · rw [wu64, Int.pow_succ]
      omega
    · rw [wi64_in (by unfold I64; omega)]; push_cast; rfl
theorem lp_Number_1 (F : Nat) (ex) (z : Int) (l : List VV) (x1 : Nat) (x2 x5 x7 x8 : Int) (h1 : 128 ≤ x1) (hl : ∀ i : Nat, i < 64 → l[64 + i]? = some (.v (.int .i64 (dg z i)))) : ∀ (k n i : Nat) (x3 x4 x6 : Int), i + k = 64 → k < n → x3 = num z i → x4 = (2 ^ i) % 18446744073709551616 → x6 = 64 + i →
    L_ref01_Number_1 F ex n l x1 x2 x3 x4 x5 x6 x7 x8 = ex l x1 x2 (num z 64) 0 x5 128 x7 x8
  | _, 0, _, _, _, _, _, h, _, _, _ => absurd h (by omega)
  | 0, n + 1, i, _, _, _, h, _, rfl, rfl, rfl => by
    obtain rfl : i = 64 := by omega
    rw [L_ref01_Number_1]
    unfold B_ref01_Number_1
    exact bn (df (by omega)) rfl
  | k + 1, n + 1, i, _, _, _, h, hn, rfl, rfl, rfl => by
    have hi : i < 64 := by omega
    obtain ⟨g1, g2⟩ := num_iv l (64 + i) _ (hl i hi)
    have hd := dg_01 z i
    have hp := p2pos i
    have hp2 := p2_lt64 hi
    have hb := num_bd z i
    have zm : (0 + ((Int.toNat (64 + (i : Int))) * 1)) = 64 + i := by omega
    rw [L_ref01_Number_1]
    unfold B_ref01_Number_1
    refine bp (dt (by omega)) (bp (dt (by omega)) (bp (by simp; omega) (bp (by rw [zm, g1]; rfl) ?_)))
    rw [zm, g2, wu64_in (x := dg z i) (by unfold U64; omega)]
    refine lp_Number_1 F ex z l x1 x2 x5 x7 x8 h1 hl k n (i + 1) _ _ _ (by omega) (by omega) ?_ ?_ ?_
    · rw [num_succ]
      generalize (2 : Int) ^ i = P at *
      rw [Int.emod_eq_of_lt (a := P) (by omega) (by omega)]
      have : 0 ≤ dg z i * P ∧ dg z i * P ≤ P := by
        rcases (show dg z i = 0 ∨ dg z i = 1 by omega) with h | h <;> rw [h] <;> omega
      rw [wu64_in (x := dg z i * P) (by unfold U64; omega), wu64_in (by unfold U64; omega)]
    · rw [wu64, Int.pow_succ]
      omega
    · rw [wi64_in (by unfold I64; omega)]; push_cast; omega
theorem dg_up (z : Int) (i : Nat) : dg z (64 + i) = dg (z / 18446744073709551616) i := by
  unfold dg
  rw [show (18446744073709551616 : Int) = 2 ^ 64 by decide, Int.ediv_ediv_of_nonneg (by decide), p2add]
theorem f_Number (F : Nat) (hF : 200 ≤ F) (z : Int) : f_ref01_Number F (ds z 128) 128 = some (wd z) := by
  unfold f_ref01_Number
  rw [lp_Number_0 F _ z (ds z 128) 128 0 0 0 (by omega) (fun i hi => ds_get z (by omega)) 64 F 0 0 1 0 (by omega) (by omega) (num_zero z).symm (by decide) rfl]
  rw [lp_Number_1 F _ (z / 18446744073709551616) (ds z 128) 128 _ _ _ _ (by omega) (fun i hi => by rw [ds_get z (by omega), dg_up]) 64 F 0 0 1 64 (by omega) (by omega) (num_zero _).symm (by decide) rfl]
  refine some_wd ?_ ?_
  · rw [wi64]; unfold num hi
    rw [show (2 : Int) ^ 64 = 18446744073709551616 by decide]
    omega
  · unfold num lo
    rw [show (2 : Int) ^ 64 = 18446744073709551616 by decide]
end Go.Xv
namespace Go.Xv
theorem wi64_s (i : Nat) (h : i < 1000) : IntKind.wrap .i64 ((i : Int) + 1) = ((i + 1 : Nat) : Int) := by
  rw [wi64_in (by unfold I64; omega)]; push_cast; rfl
theorem ix_ok (i n : Nat) (h : i < n) : ((decide (0 ≤ (i : Int))) && (decide ((i : Int) < ((n : Nat) : Int)))) = true := by
  rw [dt (by omega), dt (by omega)]; rfl
theorem isI_ds (z : Int) {i n : Nat} (h : i < n) : ((isI .i64 (ds z n)[0 + ((Int.toNat (i : Int)) * 1)]?) && true) = true := by
  rw [zmul, ds_get z h]; rfl
theorem iv_ds (z : Int) {i n : Nat} (h : i < n) : iv (ds z n)[0 + ((Int.toNat (i : Int)) * 1)]? = dg z i := by
  rw [zmul, ds_get z h]; rfl
theorem lp_Add_0 (F : Nat) (ex) (x y a b c d x9 x10 x11 x12 x13 x14 : Int) : ∀ (k n i : Nat) (x7 x8 : Int) (l : List VV), i + k = 128 → k < n → x7 = cy x y i → x8 = i → l = ds (x + y) i →
    L_ref01_Add_0 F ex n a b c d 128 128 i x7 x8 x9 x10 x11 x12 x13 x14 (ds x 128) (ds y 128) l = ex a b c d 128 128 128 (cy x y 128) 128 x9 x10 x11 x12 x13 x14 (ds x 128) (ds y 128) (ds (x + y) 128)
  | _, 0, _, _, _, _, _, h, _, _, _ => absurd h (by omega)
  | 0, n + 1, i, _, _, _, h, _, rfl, rfl, rfl => by
    obtain rfl : i = 128 := by omega
    rw [L_ref01_Add_0]
    unfold B_ref01_Add_0
    exact bn (df (by omega)) rfl
  | k + 1, n + 1, i, _, _, _, h, hn, rfl, rfl, rfl => by
    have hi : i < 128 := by omega
    rw [L_ref01_Add_0]
    unfold B_ref01_Add_0
    have h1 := dg_01 x i
    have h2 := dg_01 y i
    have h3 := cy_01 x y i
    obtain ⟨e1, e2⟩ := cy_succ x y i
    refine bp (dt (by omega)) (bp (ix_ok i 128 hi) (bp (isI_ds x hi) (bp (ix_ok i 128 hi) (bp (isI_ds y hi) ?_))))
    dsimp only
    rw [iv_ds x hi, iv_ds y hi, wi64_in (x := dg x i + dg y i) (by unfold I64; omega), wi64_in (x := dg x i + dg y i + cy x y i) (by unfold I64; omega)]
    refine bp (cap_ok _ _ (by omega)) ?_
    refine lp_Add_0 F ex x y a b c d x9 x10 x11 x12 x13 x14 k n (i + 1) _ _ _ (by omega) (by omega) ?_ (wi64_s i (by omega)) ?_
    · rw [Int.tdiv_eq_ediv_of_nonneg (by omega), ← e1, wi64_in]
      have := cy_01 x y (i + 1)
      unfold I64; omega
    · rw [ds_take, Int.tmod_eq_emod_of_nonneg (by omega), ← e2, ← ds_succ]
theorem f_rAdd (F : Nat) (hF : 200 ≤ F) {a b c d : Int} (hb : U64 b) (hd : U64 d) : f_ref01_Add F a b c d = some (wd (val a b + val c d)) := by
  unfold f_ref01_Add
  obtain ⟨h1, h2, h3⟩ := k_ref01_Digits F _ _ (f_Digits F hF (a := a) hb)
  obtain ⟨g1, g2, g3⟩ := k_ref01_Digits F _ _ (f_Digits F hF (a := c) hd)
  refine bp h1 (bp g1 ?_)
  rw [h2, h3, g2, g3]
  rw [lp_Add_0 F _ (val a b) (val c d) a b c d a b c d 0 0 128 F 0 0 0 [] (by omega) (by omega) (cy_zero _ _).symm rfl rfl]
  obtain ⟨n1, n2, n3⟩ := k_ref01_Number F _ _ (f_Number F hF (val a b + val c d))
  refine bp n1 ?_
  rw [n2, n3]; rfl
theorem lp_Neg_0 (F : Nat) (ex) (z x0 x1 x4 x5 x6 x7 : Int) : ∀ (k n i : Nat) (x3 : Int) (l : List VV), i + k = 128 → k < n → x3 = i → l = ds (-1 - z) i ++ (ds z 128).drop i →
    L_ref01_Neg_0 F ex n x0 x1 128 x3 x4 x5 x6 x7 l = ex x0 x1 128 128 x4 x5 x6 x7 (ds (-1 - z) 128)
  | _, 0, _, _, _, _, h, _, _ => absurd h (by omega)
  | 0, n + 1, i, _, _, h, _, rfl, rfl => by
    obtain rfl : i = 128 := by omega
    rw [L_ref01_Neg_0]
    unfold B_ref01_Neg_0
    refine bn (df (by omega)) ?_
    rw [List.drop_eq_nil_of_le (by rw [ds_len]; omega), List.append_nil]; rfl
  | k + 1, n + 1, i, _, _, h, hn, rfl, rfl => by
    have hi : i < 128 := by omega
    have hg : (ds (-1 - z) i ++ (ds z 128).drop i)[0 + ((Int.toNat (i : Int)) * 1)]? = some (.v (.int .i64 (dg z i))) := by
      rw [zmul, List.getElem?_append_right (by rw [ds_len]; omega), ds_len, Nat.sub_self, List.getElem?_drop, Nat.add_zero, ds_get z hi]
    rw [L_ref01_Neg_0]
    unfold B_ref01_Neg_0
    have h1 := dg_01 z i
    refine bp (dt (by omega)) (bp (ix_ok i 128 hi) (bp (by rw [hg]; rfl) (bp (ix_ok i 128 hi) (bp ?_ ?_))))
    · rw [zmul, dt]
      rw [List.length_append, List.length_drop, ds_len, ds_len]; omega
    · rw [hg]
      refine lp_Neg_0 F ex z x0 x1 x4 x5 x6 x7 k n (i + 1) _ _ (by omega) (by omega) (wi64_s i (by omega)) ?_
      rw [zmul, show iv (some (VV.v (.int .i64 (dg z i)))) = dg z i from rfl, wi64_in (by unfold I64; omega), ← dg_not, ds_succ (-1 - z) i]
      rw [List.take_append_of_le_length (by rw [ds_len]; omega), List.take_of_length_le (by rw [ds_len]; omega), List.drop_append, ds_len, List.drop_drop, List.drop_eq_nil_of_le (by rw [ds_len]; omega)]
      rw [show i + (i + 1 - i) = i + 1 by omega]
      simp
theorem f_rNeg (F : Nat) (hF : 200 ≤ F) {a b : Int} (hb : U64 b) : f_ref01_Neg F a b = some (wd (-val a b)) := by
  unfold f_ref01_Neg
  obtain ⟨h1, h2, h3⟩ := k_ref01_Digits F _ _ (f_Digits F hF (a := a) hb)
  refine bp h1 ?_
  rw [h2, h3]
  rw [lp_Neg_0 F _ (val a b) a b a b 0 0 128 F 0 0 _ (by omega) (by omega) rfl (by simp [ds_zero])]
  obtain ⟨n1, n2, n3⟩ := k_ref01_Number F _ _ (f_Number F hF (-1 - val a b))
  refine bp n1 ?_
  dsimp only
  obtain ⟨o1, o2, o3⟩ := k_ref01_Of F _ (f_rOf F (n := 1) (by unfold I64; omega))
  refine bp o1 ?_
  rw [n2, n3, o2, o3]
  obtain ⟨p1, p2, p3⟩ := k_ref01_Add F _ _ _ _ (f_rAdd F hF (a := hi (-1 - val a b)) (c := hi 1) (lo_U (-1 - val a b)) (lo_U 1))
  refine bp p1 ?_
  rw [p2, p3]
  have e : Eqv (val (hi (-1 - val a b)) (lo (-1 - val a b)) + val (hi 1) (lo 1)) (-val a b) := by
    rw [val_hl, val_hl]
    have := (W_eqv (-1 - val a b)).add (W_eqv 1)
    rw [show -1 - val a b + 1 = -val a b by omega] at this
    exact this
  exact some_wd (hi_eqv e) (lo_eqv e)
end Go.Xv
namespace Go.Xv
theorem a_Add (F : Nat) (x y : Int) : ok_wide_Add F (hi x) (lo x) (hi y) (lo y) = true ∧ o_wide_Add_0 F (hi x) (lo x) (hi y) (lo y) = hi (x + y) ∧ o_wide_Add_1 F (hi x) (lo x) (hi y) (lo y) = lo (x + y) := by
  obtain ⟨h1, h2, h3⟩ := k_wide_Add F _ _ _ _ (f_Add F (a := hi x) (c := hi y) (lo_U x) (lo_U y))
  rw [h2, h3, val_hl, val_hl]
  have e := (W_eqv x).add (W_eqv y)
  exact ⟨h1, hi_eqv e, lo_eqv e⟩
theorem a_rAdd (F : Nat) (hF : 200 ≤ F) (x y : Int) : ok_ref01_Add F (hi x) (lo x) (hi y) (lo y) = true ∧ o_ref01_Add_0 F (hi x) (lo x) (hi y) (lo y) = hi (x + y) ∧ o_ref01_Add_1 F (hi x) (lo x) (hi y) (lo y) = lo (x + y) := by
  obtain ⟨h1, h2, h3⟩ := k_ref01_Add F _ _ _ _ (f_rAdd F hF (a := hi x) (c := hi y) (lo_U x) (lo_U y))
  rw [h2, h3, val_hl, val_hl]
  have e := (W_eqv x).add (W_eqv y)
  exact ⟨h1, hi_eqv e, lo_eqv e⟩
theorem a_Neg (F : Nat) (x : Int) : ok_wide_Neg F (hi x) (lo x) = true ∧ o_wide_Neg_0 F (hi x) (lo x) = hi (-x) ∧ o_wide_Neg_1 F (hi x) (lo x) = lo (-x) := by
  obtain ⟨h1, h2, h3⟩ := k_wide_Neg F _ _ (f_Neg F (hi_I x) (lo_U x))
  rw [h2, h3, val_hl]
  exact ⟨h1, hi_eqv (W_eqv x).neg, lo_eqv (W_eqv x).neg⟩
theorem a_rNeg (F : Nat) (hF : 200 ≤ F) (x : Int) : ok_ref01_Neg F (hi x) (lo x) = true ∧ o_ref01_Neg_0 F (hi x) (lo x) = hi (-x) ∧ o_ref01_Neg_1 F (hi x) (lo x) = lo (-x) := by
  obtain ⟨h1, h2, h3⟩ := k_ref01_Neg F _ _ (f_rNeg F hF (a := hi x) (lo_U x))
  rw [h2, h3, val_hl]
  exact ⟨h1, hi_eqv (W_eqv x).neg, lo_eqv (W_eqv x).neg⟩
theorem a_Of (F : Nat) {n : Int} (h : I64 n) : ok_wide_Of F n = true ∧ o_wide_Of_0 F n = hi n ∧ o_wide_Of_1 F n = lo n := k_wide_Of F _ (f_Of F h)
theorem a_rOf (F : Nat) {n : Int} (h : I64 n) : ok_ref01_Of F n = true ∧ o_ref01_Of_0 F n = hi n ∧ o_ref01_Of_1 F n = lo n := k_ref01_Of F _ (f_rOf F h)
theorem a_Mul (F : Nat) {a b : Int} (ha : I64 a) (hb : I64 b) : ok_wide_Mul F a b = true ∧ o_wide_Mul_0 F a b = hi (a * b) ∧ o_wide_Mul_1 F a b = lo (a * b) := k_wide_Mul F _ _ (f_Mul F ha hb)
theorem a_Near (F : Nat) {x : Int} (n : Int) (h : W128 x) : ok_wide_Near F (hi x) (lo x) n = true ∧ o_wide_Near_0 F (hi x) (lo x) n = hi (near x (cl n)) ∧ o_wide_Near_1 F (hi x) (lo x) n = lo (near x (cl n)) := by
  have := k_wide_Near F _ _ n (f_Near F (n := n) (hi_I x) (lo_U x))
  rw [val_hl, W_in h] at this
  exact this
theorem a_Right (F : Nat) {x : Int} (n : Int) (h : W128 x) : ok_wide_Right F (hi x) (lo x) n = true ∧ o_wide_Right_0 F (hi x) (lo x) n = hi (x / 2 ^ cl n) ∧ o_wide_Right_1 F (hi x) (lo x) n = lo (x / 2 ^ cl n) := by
  have := k_wide_Right F _ _ n (f_Right F (n := n) (hi_I x) (lo_U x))
  rw [val_hl, W_in h] at this
  exact this
theorem a_Left (F : Nat) (x : Int) (n : Int) : ok_wide_Left F (hi x) (lo x) n = true ∧ o_wide_Left_0 F (hi x) (lo x) n = hi (x * 2 ^ n.toNat) ∧ o_wide_Left_1 F (hi x) (lo x) n = lo (x * 2 ^ n.toNat) := by
  obtain ⟨h1, h2, h3⟩ := k_wide_Left F _ _ n (f_Left F (a := hi x) (n := n) (lo_U x))
  rw [h2, h3, val_hl]
  exact ⟨h1, hi_eqv ((W_eqv x).mul _), lo_eqv ((W_eqv x).mul _)⟩

theorem f_works01 (F : Nat) : f_law01_works F = some (.v (.bool true)) := by
  unfold f_law01_works
  obtain ⟨h1, h2, h3⟩ := a_Mul F (a := 4611686018427387904) (b := 4) (by unfold I64; omega) (by unfold I64; omega)
  obtain ⟨i1, i2, i3⟩ := a_Of F (n := 3) (by unfold I64; omega)
  obtain ⟨j1, j2, j3⟩ := a_Of F (n := 2) (by unfold I64; omega)
  obtain ⟨k1, k2, k3⟩ := a_Of F (n := -3) (by unfold I64; omega)
  obtain ⟨l1, l2, l3⟩ := a_Of F (n := -1) (by unfold I64; omega)
  obtain ⟨m1, m2, m3⟩ := a_Near F (x := 3) 1 (by unfold W128; omega)
  obtain ⟨n1, n2, n3⟩ := a_Near F (x := -3) 1 (by unfold W128; omega)
  rw [h1, h2, h3]
  simp only [i1, i2, i3, j1, j2, j3, k1, k2, k3, l1, l2, l3, m1, m2, m3, n1, n2, n3, cond_true]
  rfl

theorem lp_Mul_0 (F : Nat) (hF : 200 ≤ F) (ex) (a b x0 x1 x4 x5 : Int) : ∀ (k n i : Nat) (x3 x6 x7 x8 x9 : Int), i + k = 127 → k < n → x3 = i → x6 = hi (a * num b i) → x7 = lo (a * num b i) → x8 = hi (a * 2 ^ i) → x9 = lo (a * 2 ^ i) →
    L_ref01_Mul_0 F ex n x0 x1 128 x3 x4 x5 x6 x7 x8 x9 (ds b 128) = ex x0 x1 128 127 x4 x5 (hi (a * num b 127)) (lo (a * num b 127)) (hi (a * 2 ^ 127)) (lo (a * 2 ^ 127)) (ds b 128)
  | _, 0, _, _, _, _, _, _, _, h, _, _, _, _, _ => absurd h (by omega)
  | 0, n + 1, i, _, _, _, _, _, h, _, rfl, rfl, rfl, rfl, rfl => by
    obtain rfl : i = 127 := by omega
    rw [L_ref01_Mul_0]
    unfold B_ref01_Mul_0
    exact bn (df (by omega)) rfl
  | k + 1, n + 1, i, _, _, _, _, _, h, hn, rfl, rfl, rfl, rfl, rfl => by
    have hi' : i < 128 := by omega
    rw [L_ref01_Mul_0]
    unfold B_ref01_Mul_0
    refine bp (dt (by omega)) (bp (ix_ok i 128 hi') (bp (isI_ds b hi') ?_))
    rw [iv_ds b hi']
    obtain ⟨d1, d2, d3⟩ := a_rAdd F hF (a * 2 ^ i) (a * 2 ^ i)
    have e2 : a * 2 ^ i + a * 2 ^ i = a * 2 ^ (i + 1) := by rw [Int.pow_succ, ← Int.mul_assoc]; omega
    rw [e2] at d2 d3
    rcases (show dg b i = 0 ∨ dg b i = 1 by have := dg_01 b i; omega) with hd | hd
    · refine bn (by rw [hd]; rfl) (bp d1 ?_)
      have e : num b (i + 1) = num b i := by rw [num_succ, hd]; omega
      exact lp_Mul_0 F hF ex a b x0 x1 x4 x5 k n (i + 1) _ _ _ _ _ (by omega) (by omega) (wi64_s i (by omega)) (by rw [e]) (by rw [e]) d2 d3
    · obtain ⟨c1, c2, c3⟩ := a_rAdd F hF (a * num b i) (a * 2 ^ i)
      have e : a * num b i + a * 2 ^ i = a * num b (i + 1) := by rw [num_succ, hd, Int.mul_add, Int.one_mul]
      rw [e] at c2 c3
      refine bp (by rw [hd]; rfl) (bp c1 (bp d1 ?_))
      exact lp_Mul_0 F hF ex a b x0 x1 x4 x5 k n (i + 1) _ _ _ _ _ (by omega) (by omega) (wi64_s i (by omega)) c2 c3 d2 d3
theorem num_127 {b : Int} (h : W128 b) : b = num b 127 - dg b 127 * 2 ^ 127 := by
  unfold num dg
  unfold W128 at h
  rw [show (2 : Int) ^ 127 = 170141183460469231731687303715884105728 by decide]
  omega
theorem I64_W {b : Int} (h : I64 b) : W128 b := by unfold I64 at h; unfold W128; omega
theorem f_rMul (F : Nat) (hF : 200 ≤ F) {a b : Int} (ha : I64 a) (hb : I64 b) : f_ref01_Mul F a b = some (wd (a * b)) := by
  unfold f_ref01_Mul
  obtain ⟨h1, h2, h3⟩ := a_rOf F ha
  obtain ⟨g1, g2, g3⟩ := a_rOf F hb
  obtain ⟨d1, d2, d3⟩ := k_ref01_Digits F _ _ (f_Digits F hF (a := hi b) (lo_U b))
  rw [val_hl, W_in (I64_W hb)] at d2
  refine bp h1 (bp g1 ?_)
  rw [g2, g3, h2, h3]
  refine bp d1 ?_
  rw [d2, d3]
  rw [lp_Mul_0 F hF _ a b a b 0 0 127 F 0 0 0 0 _ _ (by omega) (by omega) rfl (by rw [num_zero, Int.mul_zero]; rfl) (by rw [num_zero, Int.mul_zero]; rfl) (by rw [Int.pow_zero, Int.mul_one]) (by rw [Int.pow_zero, Int.mul_one])]
  have hn := num_127 (I64_W hb)
  refine bp (dt (by decide)) (bp (isI_ds b (i := 127) (by omega)) ?_)
  have hg : iv (ds b 128)[127]? = dg b 127 := by rw [ds_get b (by omega)]; rfl
  rw [hg]
  rcases (show dg b 127 = 0 ∨ dg b 127 = 1 by have := dg_01 b 127; omega) with hd | hd
  · refine bn (by rw [hd]; rfl) ?_
    rw [hd] at hn
    rw [show num b 127 = b by omega]; rfl
  · obtain ⟨n1, n2, n3⟩ := a_rNeg F hF (a * 2 ^ 127)
    refine bp (by rw [hd]; rfl) (bp n1 ?_)
    rw [n2, n3]
    obtain ⟨c1, c2, c3⟩ := a_rAdd F hF (a * num b 127) (-(a * 2 ^ 127))
    refine bp c1 ?_
    rw [c2, c3]
    rw [hd] at hn
    have e : a * num b 127 + -(a * 2 ^ 127) = a * b := by
      rw [show num b 127 = b + 2 ^ 127 by omega, Int.mul_add]; omega
    rw [e]; rfl
theorem a_rMul (F : Nat) (hF : 200 ≤ F) {a b : Int} (ha : I64 a) (hb : I64 b) : ok_ref01_Mul F a b = true ∧ o_ref01_Mul_0 F a b = hi (a * b) ∧ o_ref01_Mul_1 F a b = lo (a * b) := k_ref01_Mul F _ _ (f_rMul F hF ha hb)
theorem a_works01 (F : Nat) : ok_law01_works F = true ∧ o_law01_works_0 F = true := k_law01_works F (f_works01 F)
end Go.Xv
namespace Go.Xv
theorem f_rLess (F : Nat) {a b c d : Int} (hb : U64 b) (hd : U64 d) : f_ref01_Less F a b c d = some (.v (.bool (decide (val a b < val c d)))) := by
  unfold f_ref01_Less val
  unfold U64 at hb hd
  by_cases h : a < c
  · refine bp (dt h) (some_bool ?_)
    exact (dt (by omega)).symm
  · refine bn (df h) ?_
    by_cases h2 : a = c
    · refine bp (by simp [h2]) (some_bool ?_)
      rw [decide_eq_decide]; omega
    · refine bn (by simp [h2]) (some_bool ?_)
      exact (df (by omega)).symm
theorem a_Less (F : Nat) {x y : Int} (hx : W128 x) (hy : W128 y) : ok_wide_Less F (hi x) (lo x) (hi y) (lo y) = true ∧ o_wide_Less_0 F (hi x) (lo x) (hi y) (lo y) = decide (x < y) := by
  have := k_wide_Less F _ _ _ _ (f_Less F (a := hi x) (c := hi y) (lo_U x) (lo_U y))
  rw [val_hl, val_hl, W_in hx, W_in hy] at this
  exact this
theorem a_rLess (F : Nat) {x y : Int} (hx : W128 x) (hy : W128 y) : ok_ref01_Less F (hi x) (lo x) (hi y) (lo y) = true ∧ o_ref01_Less_0 F (hi x) (lo x) (hi y) (lo y) = decide (x < y) := by
  have := k_ref01_Less F _ _ _ _ (f_rLess F (a := hi x) (c := hi y) (lo_U x) (lo_U y))
  rw [val_hl, val_hl, W_in hx, W_in hy] at this
  exact this

/-! ### the document's shifts -/
theorem lp_Left_0 (F : Nat) (hF : 200 ≤ F) (ex) (z x0 x1 x2 x6 x7 : Int) (m : Nat) (hm : (if 128 < x2 then 128 else x2) ≤ (m : Int)) (hm2 : (m : Int) ≤ 0 ∨ (m : Int) = (if 128 < x2 then 128 else x2)) (h128 : m ≤ 128) : ∀ (k n i : Nat) (x3 x4 x5 : Int), i + k = m → k < n → x3 = i → x4 = hi (z * 2 ^ i) → x5 = lo (z * 2 ^ i) →
    L_ref01_Left_0 F ex n x0 x1 x2 x3 x4 x5 x6 x7 = ex x0 x1 x2 m (hi (z * 2 ^ m)) (lo (z * 2 ^ m)) x6 x7
  | _, 0, _, _, _, _, _, h, _, _, _ => absurd h (by omega)
  | 0, n + 1, i, _, _, _, h, _, rfl, rfl, rfl => by
    obtain rfl : i = m := by omega
    rw [L_ref01_Left_0]
    unfold B_ref01_Left_0
    exact bn (df (by omega)) rfl
  | k + 1, n + 1, i, _, _, _, h, hn, rfl, rfl, rfl => by
    rw [L_ref01_Left_0]
    unfold B_ref01_Left_0
    obtain ⟨d1, d2, d3⟩ := a_rAdd F hF (z * 2 ^ i) (z * 2 ^ i)
    have e2 : z * 2 ^ i + z * 2 ^ i = z * 2 ^ (i + 1) := by rw [Int.pow_succ, ← Int.mul_assoc]; omega
    rw [e2] at d2 d3
    refine bp (dt (by omega)) (bp d1 ?_)
    exact lp_Left_0 F hF ex z x0 x1 x2 x6 x7 m hm hm2 h128 k n (i + 1) _ _ _ (by omega) (by omega) (wi64_s i (by omega)) d2 d3
theorem f_rLeft (F : Nat) (hF : 200 ≤ F) {a b n : Int} (ha : I64 a) (hb : U64 b) : f_ref01_Left F a b n = some (wd (val a b * 2 ^ n.toNat)) := by
  unfold f_ref01_Left
  have hm : ∃ m : Nat, (if 128 < n then 128 else n) ≤ (m : Int) ∧ ((m : Int) ≤ 0 ∨ (m : Int) = (if 128 < n then 128 else n)) ∧ m ≤ 128 ∧ (n.toNat = m ∨ 128 ≤ n.toNat ∧ m = 128) := by
    by_cases h : 128 < n
    · exact ⟨128, by rw [if_pos h]; omega, .inr (by rw [if_pos h]; omega), by omega, .inr (by omega)⟩
    · exact ⟨n.toNat, by rw [if_neg h]; omega, by rw [if_neg h]; omega, by omega, .inl rfl⟩
  obtain ⟨m, h1, h2, h3, h4⟩ := hm
  rw [lp_Left_0 F hF _ (val a b) a b n 0 0 m h1 h2 h3 m F 0 0 a b (by omega) (by omega) rfl (by rw [Int.pow_zero, Int.mul_one, hi_val ha hb]) (by rw [Int.pow_zero, Int.mul_one, lo_val hb])]
  rcases h4 with h4 | ⟨h4, rfl⟩
  · rw [h4]; rfl
  · obtain ⟨e1, e2⟩ := shl_all (h := a) (l := b) h4
    obtain ⟨e3, e4⟩ := shl_all (h := a) (l := b) (m := 128) (by omega)
    exact some_wd (e3.symm.trans e1) (e4.symm.trans e2)
theorem a_rLeft (F : Nat) (hF : 200 ≤ F) (x : Int) (n : Int) : ok_ref01_Left F (hi x) (lo x) n = true ∧ o_ref01_Left_0 F (hi x) (lo x) n = hi (x * 2 ^ n.toNat) ∧ o_ref01_Left_1 F (hi x) (lo x) n = lo (x * 2 ^ n.toNat) := by
  obtain ⟨h1, h2, h3⟩ := k_ref01_Left F _ _ n (f_rLeft F hF (n := n) (hi_I x) (lo_U x))
  rw [h2, h3, val_hl]
  exact ⟨h1, hi_eqv ((W_eqv x).mul _), lo_eqv ((W_eqv x).mul _)⟩

theorem W_div {y : Int} (h : W128 y) (i : Nat) : W128 (y / 2 ^ i) := by
  have hP := p2pos i
  unfold W128 at *
  generalize (2 : Int) ^ i = P at *
  rcases Int.lt_or_le y 0 with hn | hn
  · constructor
    · rw [Int.le_ediv_iff_mul_le hP]
      have : -170141183460469231731687303715884105728 * P ≤ -170141183460469231731687303715884105728 * 1 := Int.mul_le_mul_of_nonpos_left (by omega) (by omega)
      omega
    · have := Int.ediv_neg_of_neg_of_pos hn hP
      omega
  · have h1 := Int.ediv_nonneg hn (Int.le_of_lt hP)
    have h2 := Int.ediv_le_self P hn
    omega
theorem dg_half (y : Int) (j : Nat) : dg (y / 2) j = dg y (j + 1) := by
  unfold dg
  rw [Int.ediv_ediv_of_nonneg (by decide), show (2 : Int) * 2 ^ j = 2 ^ (j + 1) by rw [Int.pow_succ, Int.mul_comm]]
theorem dg_sign {y : Int} (h : W128 y) : dg (y / 2) 127 = dg y 127 := by
  unfold dg
  unfold W128 at h
  rw [show (2 : Int) ^ 127 = 170141183460469231731687303715884105728 by decide]
  omega
theorem ds_shift {y : Int} (h : W128 y) : ((ds y 128).drop 1).take (127 * 1) ++ [.v (.int .i64 (dg y 127))] = ds (y / 2) 128 := by
  apply List.ext_getElem?
  intro i
  rcases Nat.lt_or_ge i 127 with hi | hi
  · rw [List.getElem?_append_left (by simp [ds_len]; omega), List.getElem?_take, if_pos (by omega), List.getElem?_drop, ds_get _ (by omega), ds_get _ (by omega), dg_half, Nat.add_comm]
  · rcases Nat.lt_or_ge i 128 with hi2 | hi2
    · obtain rfl : i = 127 := by omega
      rw [List.getElem?_append_right (by simp [ds_len]), ds_get _ (by omega), dg_sign h]
      simp [ds_len]
    · rw [List.getElem?_eq_none (by simp [ds_len]; omega), List.getElem?_eq_none (by rw [ds_len]; omega)]
theorem lp_Right_0 (F : Nat) (ex) {z : Int} (hz : W128 z) (x0 x1 x2 x6 x7 x8 x9 : Int) (m : Nat) (hm : (if 127 < x2 then 127 else x2) ≤ (m : Int)) (hm2 : (m : Int) ≤ 0 ∨ (m : Int) = (if 127 < x2 then 127 else x2)) (h128 : m ≤ 127) : ∀ (k n i : Nat) (x4 x5 : Int) (l : List VV), i + k = m → k < n → x4 = dg z 127 → x5 = i → l = ds (z / 2 ^ i) 128 →
    L_ref01_Right_0 F ex n x0 x1 x2 128 x4 x5 x6 x7 x8 x9 l = ex x0 x1 x2 128 (dg z 127) m x6 x7 x8 x9 (ds (z / 2 ^ m) 128)
  | _, 0, _, _, _, _, _, h, _, _, _ => absurd h (by omega)
  | 0, n + 1, i, _, _, _, h, _, rfl, rfl, rfl => by
    obtain rfl : i = m := by omega
    rw [L_ref01_Right_0]
    unfold B_ref01_Right_0
    exact bn (df (by omega)) rfl
  | k + 1, n + 1, i, _, _, _, h, hn, rfl, rfl, rfl => by
    rw [L_ref01_Right_0]
    unfold B_ref01_Right_0
    have hy := W_div hz i
    have hs : dg z 127 = dg (z / 2 ^ i) 127 := by
      have : ∀ j, dg (z / 2 ^ j) 127 = dg z 127 := by
        intro j
        induction j with
        | zero => simp
        | succ j ih => rw [← ediv2, dg_sign (W_div hz j), ih]
      exact (this i).symm
    refine bp (dt (by omega)) (bp rfl (bp ?_ ?_))
    · rw [ds_len, dt (by omega), dt (by unfold bigger; omega)]; rfl
    · refine lp_Right_0 F ex hz x0 x1 x2 x6 x7 x8 x9 m hm hm2 h128 k n (i + 1) _ _ _ (by omega) (by omega) rfl (wi64_s i (by omega)) ?_
      rw [hs, ds_shift hy, ediv2]
theorem f_rRight (F : Nat) (hF : 200 ≤ F) {a b n : Int} (ha : I64 a) (hb : U64 b) : f_ref01_Right F a b n = some (wd (val a b / 2 ^ cl n)) := by
  unfold f_ref01_Right
  obtain ⟨d1, d2, d3⟩ := k_ref01_Digits F _ _ (f_Digits F hF (a := a) hb)
  refine bp d1 ?_
  rw [d2, d3]
  refine bp (dt (by decide)) (bp (isI_ds (val a b) (i := 127) (by omega)) ?_)
  have hg : iv (ds (val a b) 128)[127]? = dg (val a b) 127 := by rw [ds_get _ (by omega)]; rfl
  have hm : ∃ m : Nat, (if 127 < n then 127 else n) ≤ (m : Int) ∧ ((m : Int) ≤ 0 ∨ (m : Int) = (if 127 < n then 127 else n)) ∧ m ≤ 127 ∧ cl n = m := by
    refine ⟨cl n, ?_⟩
    unfold cl
    by_cases h : 127 < n
    · rw [if_pos h, if_neg (show ¬ 0 > n by omega), if_pos h]; omega
    · rw [if_neg h]
      by_cases h2 : 0 > n
      · rw [if_pos h2, if_neg (by omega)]; omega
      · rw [if_neg h2, if_neg h]; omega
  obtain ⟨m, h1, h2, h3, h4⟩ := hm
  rw [lp_Right_0 F _ (val_W ha hb) a b n a b 0 0 m h1 h2 h3 m F 0 _ 0 _ (by omega) (by omega) hg rfl (by rw [Int.pow_zero, Int.ediv_one])]
  obtain ⟨n1, n2, n3⟩ := k_ref01_Number F _ _ (f_Number F hF (val a b / 2 ^ m))
  refine bp n1 ?_
  rw [n2, n3, h4]; rfl
theorem a_rRight (F : Nat) (hF : 200 ≤ F) {x : Int} (n : Int) (h : W128 x) : ok_ref01_Right F (hi x) (lo x) n = true ∧ o_ref01_Right_0 F (hi x) (lo x) n = hi (x / 2 ^ cl n) ∧ o_ref01_Right_1 F (hi x) (lo x) n = lo (x / 2 ^ cl n) := by
  have := k_ref01_Right F _ _ n (f_rRight F hF (n := n) (hi_I x) (lo_U x))
  rw [val_hl, W_in h] at this
  exact this
theorem f_rNear (F : Nat) (hF : 200 ≤ F) {a b n : Int} (ha : I64 a) (hb : U64 b) : f_ref01_Near F a b n = some (wd (near (val a b) (cl n))) := by
  unfold f_ref01_Near
  by_cases h : n ≤ 0
  · rw [if_neg (show ¬ 127 < n by omega)]
    refine bp (dt h) ?_
    have : cl n = 0 := by
      unfold cl
      rw [if_neg]
      · split <;> omega
      · split <;> omega
    rw [this]
    exact some_wd (hi_val ha hb).symm (lo_val hb).symm
  · generalize hv : (if 127 < n then 127 else n) = v
    have hc : cl n = cl v := by
      subst hv
      unfold cl
      by_cases hn : 127 < n
      · rw [if_pos hn, if_neg (show ¬ 0 > n by omega), if_pos hn]; decide
      · rw [if_neg hn]
    have hv1 : 0 < v ∧ v ≤ 127 := by subst hv; split <;> omega
    obtain ⟨m, rfl⟩ : ∃ m : Nat, v = ((m + 1 : Nat) : Int) := ⟨(v - 1).toNat, by omega⟩
    have hcv : cl ((m + 1 : Nat) : Int) = m + 1 := by
      unfold cl
      rw [if_neg (show ¬ 0 > ((m + 1 : Nat) : Int) by omega), if_neg (by omega)]
      omega
    refine bn (df (by omega)) ?_
    obtain ⟨d1, d2, d3⟩ := k_ref01_Digits F _ _ (f_Digits F hF (a := a) hb)
    refine bp d1 ?_
    rw [d2, d3, wi64_in (x := ((m + 1 : Nat) : Int) - 1) (by unfold I64; omega), show ((m + 1 : Nat) : Int) - 1 = (m : Int) by omega]
    refine bp (ix_ok m 128 (by omega)) (bp (isI_ds _ (by omega)) ?_)
    rw [iv_ds _ (by omega)]
    obtain ⟨h1, h2, h3⟩ := k_ref01_Right F _ _ _ (f_rRight F hF (n := ((m + 1 : Nat) : Int)) ha hb)
    refine bp h1 ?_
    have hd := dg_01 (val a b) m
    obtain ⟨o1, o2, o3⟩ := a_rOf F (n := dg (val a b) m) (by unfold I64; omega)
    refine bp o1 ?_
    rw [h2, h3, o2, o3]
    obtain ⟨k1, k2, k3⟩ := a_rAdd F hF (val a b / 2 ^ cl ((m + 1 : Nat) : Int)) (dg (val a b) m)
    refine bp k1 ?_
    rw [k2, k3, hc, hcv]
    unfold near
    rw [if_neg (by omega), show m + 1 - 1 = m by omega]
    rfl
theorem a_rNear (F : Nat) (hF : 200 ≤ F) {x : Int} (n : Int) (h : W128 x) : ok_ref01_Near F (hi x) (lo x) n = true ∧ o_ref01_Near_0 F (hi x) (lo x) n = hi (near x (cl n)) ∧ o_ref01_Near_1 F (hi x) (lo x) n = lo (near x (cl n)) := by
  have := k_ref01_Near F _ _ n (f_rNear F hF (n := n) (hi_I x) (lo_U x))
  rw [val_hl, W_in h] at this
  exact this
end Go.Xv
namespace Go.Xv
/-- one step of a division, bit by bit. -/
theorem div_step {X P T b : Int} (hP : 0 < P) (hT : 0 < T) (hPT : P * T = 170141183460469231731687303715884105728) (hX : 0 ≤ X) (hX2 : X < 340282366920938463463374607431768211456) (hb : 1 ≤ b) (hb2 : b ≤ 9223372036854775808) :
    (0 ≤ (X % (2 * T)) * P + X / (2 * T) / b ∧ (X % (2 * T)) * P + X / (2 * T) / b < 340282366920938463463374607431768211456) ∧
    ((X % (2 * T)) * P + X / (2 * T) / b) / 170141183460469231731687303715884105728 = X / T % 2 ∧
    (0 ≤ X / (2 * T) % b ∧ X / (2 * T) % b < b) ∧
    (b ≤ 2 * (X / (2 * T) % b) + X / T % 2 → X / T % b = 2 * (X / (2 * T) % b) + X / T % 2 - b ∧ ((X % (2 * T)) * P + X / (2 * T) / b) * 2 - (X / T % 2) * 340282366920938463463374607431768211456 + 1 = (X % T) * (P * 2) + X / T / b) ∧
    (2 * (X / (2 * T) % b) + X / T % 2 < b → X / T % b = 2 * (X / (2 * T) % b) + X / T % 2 ∧ ((X % (2 * T)) * P + X / (2 * T) / b) * 2 - (X / T % 2) * 340282366920938463463374607431768211456 = (X % T) * (P * 2) + X / T / b) ∧
    (X % T) * (P * 2) % 2 = 0 ∧ 0 ≤ (X % T) * (P * 2) + X / T / b ∧ (X % T) * (P * 2) + X / T / b < 340282366920938463463374607431768211456 := by
  have e1 : X / (2 * T) = X / T / 2 := by rw [Int.mul_comm, Int.ediv_ediv_of_nonneg (by omega)]
  have hd := Int.mul_ediv_add_emod X T
  have hr := Int.emod_nonneg X (show T ≠ 0 by omega)
  have hr2 := Int.emod_lt_of_pos X hT
  have hq : 0 ≤ X / T := Int.ediv_nonneg hX (by omega)
  have hqP : X / T < 2 * P := Int.ediv_lt_of_lt_mul hT (by rw [Int.mul_assoc, hPT]; omega)
  have e2 : X % (2 * T) = (X / T % 2) * T + X % T := by
    have h := Int.mul_ediv_add_emod X (2 * T)
    rw [e1] at h
    have e : X / T = 2 * (X / T / 2) + X / T % 2 := by omega
    have e3 : T * (X / T) = 2 * T * (X / T / 2) + (X / T % 2) * T := by
      have : T * (X / T) = T * (2 * (X / T / 2) + X / T % 2) := by rw [← e]
      rw [this, Int.mul_add]
      have : T * (2 * (X / T / 2)) = 2 * T * (X / T / 2) := by simp only [Int.mul_comm, Int.mul_assoc, Int.mul_left_comm]
      rw [this, Int.mul_comm T]
    omega
  rw [e1, e2]
  generalize X / T = h at *
  generalize X % T = r at *
  have hbit : 0 ≤ h % 2 ∧ h % 2 ≤ 1 := by omega
  have hH : h = 2 * (h / 2) + h % 2 := by omega
  generalize hg : h % 2 = bit at *
  generalize h / 2 = H at *
  have g1 := Int.mul_ediv_add_emod H b
  have g2 := Int.emod_nonneg H (show b ≠ 0 by omega)
  have g3 := Int.emod_lt_of_pos H (show 0 < b by omega)
  have hHP : H < P := by omega
  have hH0 : 0 ≤ H := by omega
  have hQ0 : 0 ≤ H / b := Int.ediv_nonneg hH0 (by omega)
  have hQH : H / b ≤ H := Int.ediv_le_self b hH0
  have hrP0 : 0 ≤ r * P := Int.mul_nonneg hr (by omega)
  have hrP : r * P ≤ (T - 1) * P := Int.mul_le_mul_of_nonneg_right (by omega) (by omega)
  rw [Int.sub_mul, Int.mul_comm T P, hPT] at hrP
  have hA : (bit * T + r) * P = bit * 170141183460469231731687303715884105728 + r * P := by
    rw [Int.add_mul, Int.mul_assoc, Int.mul_comm T P, hPT]
  have hrP2 : r * (P * 2) = r * P * 2 := by rw [Int.mul_assoc]
  rw [hA, hrP2]
  have hq1 : b ≤ 2 * (H % b) + bit → h % b = 2 * (H % b) + bit - b ∧ h / b = 2 * (H / b) + 1 := by
    intro hx
    have e : h = (2 * (H % b) + bit - b) + (2 * (H / b) + 1) * b := by
      rw [Int.add_mul, Int.one_mul, Int.mul_assoc, Int.mul_comm (H / b) b]; omega
    constructor
    · rw [e, Int.add_mul_emod_self_right, Int.emod_eq_of_lt (by omega) (by omega)]
    · rw [e, Int.add_mul_ediv_right _ _ (by omega), Int.ediv_eq_zero_of_lt (by omega) (by omega)]; omega
  have hq2 : 2 * (H % b) + bit < b → h % b = 2 * (H % b) + bit ∧ h / b = 2 * (H / b) := by
    intro hx
    have e : h = (2 * (H % b) + bit) + (2 * (H / b)) * b := by
      rw [Int.mul_assoc, Int.mul_comm (H / b) b]; omega
    constructor
    · rw [e, Int.add_mul_emod_self_right, Int.emod_eq_of_lt (by omega) (by omega)]
    · rw [e, Int.add_mul_ediv_right _ _ (by omega), Int.ediv_eq_zero_of_lt (by omega) (by omega)]; omega
  refine ⟨⟨by omega, by omega⟩, by omega, ⟨g2, g3⟩, fun hx => ?_, fun hx => ?_, by omega, ?_, ?_⟩
  · obtain ⟨a1, a2⟩ := hq1 hx
    refine ⟨a1, ?_⟩
    rw [a2]; omega
  · obtain ⟨a1, a2⟩ := hq2 hx
    refine ⟨a1, ?_⟩
    rw [a2]; omega
  · by_cases hx : b ≤ 2 * (H % b) + bit
    · rw [(hq1 hx).2]; omega
    · rw [(hq2 (by omega)).2]; omega
  · by_cases hx : b ≤ 2 * (H % b) + bit
    · rw [(hq1 hx).2]; omega
    · rw [(hq2 (by omega)).2]; omega
end Go.Xv
namespace Go.Xv
def clipV (z : Int) : Int := if z < -9223372036854775808 then -9223372036854775808 else if 9223372036854775807 < z then 9223372036854775807 else z
def clipC (z : Int) : Bool := decide (z < -9223372036854775808 ∨ 9223372036854775807 < z)
theorem clipV_I (z : Int) : I64 (clipV z) := by unfold I64 clipV; split <;> (try split) <;> omega
theorem some_clip {n : Int} {c : Bool} {z : Int} (h : n = clipV z) (k : c = clipC z) : (some (VV.v (.tuple #[.int .i64 n, .bool c])) : R) = some (.v (.tuple #[.int .i64 (clipV z), .bool (clipC z)])) := by rw [h, k]
theorem f_Clip (F : Nat) {a b : Int} (ha : I64 a) (hb : U64 b) : f_wide_Clip F a b = some (.v (.tuple #[.int .i64 (clipV (val a b)), .bool (clipC (val a b))])) := by
  unfold f_wide_Clip
  dsimp only
  obtain ⟨o1, o2, o3⟩ := a_Of F (wi64_I b)
  refine bp o1 ?_
  rw [o2, o3, wi64]
  have hv : ∀ z, z = val a b → True := fun _ _ => trivial
  unfold I64 at ha
  unfold U64 at hb
  by_cases h : -9223372036854775808 ≤ val a b ∧ val a b ≤ 9223372036854775807
  · refine bp ?_ (some_clip ?_ ?_)
    · unfold val at h
      rw [Bool.and_eq_true, beq_iff_eq, beq_iff_eq]
      unfold hi lo; omega
    · unfold clipV
      rw [if_neg (by omega), if_neg (by omega)]
      unfold val at *; omega
    · unfold clipC
      exact (df (by omega)).symm
  · refine bn ?_ ?_
    · unfold val at h
      rw [Bool.and_eq_false_iff, beq_eq_false_iff_ne, beq_eq_false_iff_ne]
      unfold hi lo; omega
    · by_cases h2 : a < 0
      · refine bp (dt h2) (some_clip ?_ ?_)
        · unfold clipV
          rw [if_pos]
          unfold val at *; omega
        · unfold clipC
          refine (dt ?_).symm
          unfold val at *; omega
      · refine bn (df h2) (some_clip ?_ ?_)
        · unfold clipV
          rw [if_neg, if_pos]
          · unfold val at *; omega
          · unfold val at *; omega
        · unfold clipC
          refine (dt ?_).symm
          unfold val at *; omega
theorem f_rClip (F : Nat) {a b : Int} (ha : I64 a) (hb : U64 b) : f_ref01_Clip F a b = some (.v (.tuple #[.int .i64 (clipV (val a b)), .bool (clipC (val a b))])) := by
  unfold f_ref01_Clip
  dsimp only
  obtain ⟨o1, o2, o3⟩ := a_rOf F (n := -9223372036854775808) (by unfold I64; omega)
  obtain ⟨p1, p2, p3⟩ := a_rOf F (n := 9223372036854775807) (by unfold I64; omega)
  obtain ⟨l1, l2⟩ := k_ref01_Less F _ _ _ _ (f_rLess F (a := a) (c := hi (-9223372036854775808)) hb (lo_U (-9223372036854775808)))
  obtain ⟨m1, m2⟩ := k_ref01_Less F _ _ _ _ (f_rLess F (a := hi 9223372036854775807) (c := a) (lo_U 9223372036854775807) hb)
  rw [val_hl, W_in (by unfold W128; omega)] at l2 m2
  refine bp o1 ?_
  rw [o2, o3]
  refine bp l1 ?_
  rw [l2]
  by_cases h : val a b < -9223372036854775808
  · refine bp (dt h) (some_clip ?_ ?_)
    · unfold clipV; rw [if_pos h]
    · unfold clipC; exact (dt (.inl h)).symm
  · refine bn (df h) (bp p1 ?_)
    rw [p2, p3]
    refine bp m1 ?_
    rw [m2]
    by_cases h2 : 9223372036854775807 < val a b
    · refine bp (dt h2) (some_clip ?_ ?_)
      · unfold clipV; rw [if_neg h, if_pos h2]
      · unfold clipC; exact (dt (.inr h2)).symm
    · refine bn (df h2) (some_clip ?_ ?_)
      · unfold clipV
        rw [if_neg h, if_neg h2, wi64]
        unfold I64 at ha
        unfold U64 at hb
        unfold val at *; omega
      · unfold clipC; exact (df (by omega)).symm
theorem a_Clip (F : Nat) {x : Int} (h : W128 x) : ok_wide_Clip F (hi x) (lo x) = true ∧ o_wide_Clip_0 F (hi x) (lo x) = clipV x ∧ o_wide_Clip_1 F (hi x) (lo x) = clipC x := by
  have := k_wide_Clip F _ _ (f_Clip F (hi_I x) (lo_U x))
  rw [val_hl, W_in h] at this
  exact this
theorem a_rClip (F : Nat) {x : Int} (h : W128 x) : ok_ref01_Clip F (hi x) (lo x) = true ∧ o_ref01_Clip_0 F (hi x) (lo x) = clipV x ∧ o_ref01_Clip_1 F (hi x) (lo x) = clipC x := by
  have := k_ref01_Clip F _ _ (f_rClip F (hi_I x) (lo_U x))
  rw [val_hl, W_in h] at this
  exact this

theorem or1 {E : Int} (h : E % 2 = 0) : orI .u64 (lo E) 1 = lo (E + 1) ∧ hi E = hi (E + 1) := by
  constructor
  · have hl := lo_U E
    unfold U64 at hl
    have e : lo E = lo E / 2 * ((2 ^ 1 : Nat) : Int) := by
      have : ((2 ^ 1 : Nat) : Int) = 2 := rfl
      rw [this]; unfold lo; omega
    have e2 : ((2 ^ 1 : Nat) : Int) = 2 := rfl
    rw [e, or_add_u64 1 (by omega) (by omega) (by rw [e2]; omega) (by rw [e2]; omega), ← e]
    unfold lo; omega
  · unfold hi; omega
theorem or_bit {R bit : Int} (hR : 0 ≤ R) (hR2 : R < 9223372036854775808) (hb : 0 ≤ bit) (hb2 : bit ≤ 1) : orI .u64 (IntKind.wrap .u64 (R * 2)) bit = 2 * R + bit := by
  have e2 : ((2 ^ 1 : Nat) : Int) = 2 := rfl
  have := or_add_u64 1 (a := R) (b := bit) hR hb (by rw [e2]; omega) (by rw [e2]; omega)
  rw [e2] at this
  rw [wu64_in (by unfold U64; omega), this]; omega
theorem up_bit {A : Int} (h : 0 ≤ A) (h2 : A < 340282366920938463463374607431768211456) : Int.fdiv (IntKind.wrap .u64 (hi A)) 9223372036854775808 = A / 170141183460469231731687303715884105728 := by
  rw [fdiv_pos _ (by decide), wu64]; unfold hi; omega
theorem p128 {i : Nat} (h : i < 128) : (2 : Int) ^ i * 2 ^ (127 - i) = 170141183460469231731687303715884105728 := by
  rw [p2add, show i + (127 - i) = 127 by omega]; decide
theorem p128' {i : Nat} (h : i < 128) : (2 : Int) ^ (128 - i) = 2 * 2 ^ (127 - i) := by
  rw [show 128 - i = (127 - i) + 1 by omega, Int.pow_succ, Int.mul_comm]
theorem lp_divide_0 (F : Nat) (ex) {X b : Int} (hX : 0 ≤ X) (hX2 : X < 340282366920938463463374607431768211456) (hb : 1 ≤ b) (hb2 : b ≤ 9223372036854775808) (x0 x1 x3 x8 x9 : Int) : ∀ (k n i : Nat) (x4 x5 x6 x7 : Int), i + k = 128 → k < n →
    x4 = X / 2 ^ (128 - i) % b → x5 = i → x6 = hi ((X % 2 ^ (128 - i)) * 2 ^ i + X / 2 ^ (128 - i) / b) → x7 = lo ((X % 2 ^ (128 - i)) * 2 ^ i + X / 2 ^ (128 - i) / b) →
    L_wide_divide_0 F ex n x0 x1 b x3 x4 x5 x6 x7 x8 x9 = ex x0 x1 b x3 (X % b) 128 (hi (X / b)) (lo (X / b)) x8 x9
  | _, 0, _, _, _, _, _, _, h, _, _, _, _ => absurd h (by omega)
  | 0, n + 1, i, _, _, _, _, h, _, rfl, rfl, rfl, rfl => by
    obtain rfl : i = 128 := by omega
    rw [L_wide_divide_0]
    unfold B_wide_divide_0
    refine bn (df (by omega)) ?_
    simp only [Nat.sub_self, Int.pow_zero, Int.ediv_one, Int.emod_one, Int.zero_mul, Int.zero_add]
    rfl
  | k + 1, n + 1, i, _, _, _, _, h, hn, rfl, rfl, rfl, rfl => by
    have hi' : i < 128 := by omega
    have ih := lp_divide_0 F ex hX hX2 hb hb2 x0 x1 x3 x8 x9 k n (i + 1)
    rw [show 128 - (i + 1) = 127 - i by omega, Int.pow_succ] at ih
    rw [L_wide_divide_0]
    unfold B_wide_divide_0
    dsimp only
    rw [p128' hi']
    obtain ⟨⟨s1, s2⟩, s3, ⟨s4, s5⟩, s6, s7, s8, s9, s10⟩ := div_step (p2pos i) (p2pos (127 - i)) (p128 hi') hX hX2 hb hb2
    generalize (2 : Int) ^ i = P at *
    generalize (2 : Int) ^ (127 - i) = T at *
    generalize hAe : X % (2 * T) * P + X / (2 * T) / b = A at *
    generalize X / (2 * T) % b = R0 at *
    have hbit : 0 ≤ X / T % 2 ∧ X / T % 2 ≤ 1 := by omega
    obtain ⟨l1, l2, l3⟩ := a_Left F A 1
    rw [show ((1 : Int).toNat) = 1 from rfl, Int.pow_one] at l2 l3
    refine bp (dt (by omega)) (bp l1 ?_)
    rw [l2, l3, up_bit s1 s2, s3, or_bit s4 (by omega) hbit.1 hbit.2]
    refine bn ?_ ?_
    · rw [fdiv_pos _ (by decide), beq_eq_false_iff_ne]; omega
    · by_cases hc : b ≤ 2 * R0 + X / T % 2
      · refine bp (dt hc) ?_
        obtain ⟨c1, c2⟩ := s6 hc
        have hE : (A * 2) % 2 = 0 := by omega
        obtain ⟨e1, e2⟩ := or1 hE
        have hq : Eqv (A * 2 + 1) (X % T * (P * 2) + X / T / b) := by unfold Eqv; omega
        refine ih _ _ _ _ (by omega) (by omega) ?_ (wi64_s i (by omega)) ?_ ?_
        · rw [c1, wu64_in]
          unfold U64; omega
        · rw [e2, hi_eqv hq]
        · rw [e1, lo_eqv hq]
      · refine bn (df hc) ?_
        obtain ⟨c1, c2⟩ := s7 (by omega)
        have hq : Eqv (A * 2) (X % T * (P * 2) + X / T / b) := by unfold Eqv; omega
        exact ih _ _ _ _ (by omega) (by omega) c1.symm (wi64_s i (by omega)) (hi_eqv hq) (lo_eqv hq)
/-- a number of 128 bits without its sign -/
def un (z : Int) : Int := z % 340282366920938463463374607431768211456
theorem un_eqv (z : Int) : Eqv (un z) z := by unfold Eqv un; omega
theorem f_divide (F : Nat) (hF : 200 ≤ F) (z : Int) {b : Int} (hb : 1 ≤ b) (hb2 : b ≤ 9223372036854775808) : f_wide_divide F (hi z) (lo z) b = some (.v (.tuple #[.agg #[.int .i64 (hi (un z / b)), .int .u64 (lo (un z / b))], .int .u64 (un z % b)])) := by
  unfold f_wide_divide
  have h1 : 0 ≤ un z ∧ un z < 340282366920938463463374607431768211456 := by unfold un; omega
  have e1 : un z / 2 ^ (128 - 0) = 0 := by
    rw [show (2 : Int) ^ (128 - 0) = 340282366920938463463374607431768211456 by decide]; omega
  have e2 : un z % 2 ^ (128 - 0) = un z := by
    rw [show (2 : Int) ^ (128 - 0) = 340282366920938463463374607431768211456 by decide]; omega
  rw [lp_divide_0 F _ h1.1 h1.2 hb hb2 (hi z) (lo z) 0 0 0 128 F 0 0 0 (hi z) (lo z) (by omega) (by omega) (by rw [e1]; simp) rfl
    (by rw [e1, e2, Int.zero_ediv, Int.pow_zero, Int.mul_one, Int.add_zero, hi_eqv (un_eqv z)]) (by rw [e1, e2, Int.zero_ediv, Int.pow_zero, Int.mul_one, Int.add_zero, lo_eqv (un_eqv z)])]
end Go.Xv
namespace Go.Xv
/-- a list of bits that fills up from its end -/
def fillL (Q : Int) (c : Nat) : List VV := List.replicate c (.v (.int .i64 0)) ++ (ds Q 128).drop c
theorem fill_len (Q : Int) {c : Nat} (h : c ≤ 128) : (fillL Q c).length = 128 := by
  unfold fillL
  rw [List.length_append, List.length_replicate, List.length_drop, ds_len]; omega
theorem drop_cons (Q : Int) {c : Nat} (h : c < 128) : (ds Q 128).drop c = .v (.int .i64 (dg Q c)) :: (ds Q 128).drop (c + 1) := by
  have h1 : c < (ds Q 128).length := by rw [ds_len]; exact h
  rw [List.drop_eq_getElem_cons h1]
  congr 1
  have := ds_get Q h
  rw [List.getElem?_eq_getElem h1] at this
  exact Option.some.inj this
theorem fill_zero (Q : Int) {c : Nat} (h : c < 128) (hd : dg Q c = 0) : fillL Q (c + 1) = fillL Q c := by
  unfold fillL
  rw [drop_cons Q h, hd, List.replicate_succ', List.append_assoc]; rfl
theorem fill_one (Q : Int) {c : Nat} (h : c < 128) (hd : dg Q c = 1) : (fillL Q (c + 1)).take c ++ [.v (.int .i64 1)] ++ (fillL Q (c + 1)).drop (c + 1) = fillL Q c := by
  unfold fillL
  rw [drop_cons Q h, hd, List.take_append_of_le_length (by rw [List.length_replicate]; omega), List.take_replicate, List.drop_append, List.length_replicate, List.drop_eq_nil_of_le (by rw [List.length_replicate]; omega)]
  rw [show min c (c + 1) = c by omega, Nat.sub_self, List.drop_zero, List.nil_append, List.append_assoc]; rfl
theorem quo_dg {X b : Int} (i : Nat) (hb : 1 ≤ b) : X / 2 ^ i / b % 2 = dg (X / b) i := by
  unfold dg
  rw [Int.ediv_ediv_of_nonneg (Int.le_of_lt (p2pos i)), Int.ediv_ediv_of_nonneg (by omega), Int.mul_comm]
theorem lp_rDiv_0 (F : Nat) (ex) {X b : Int} (hX : 0 ≤ X) (hX2 : X < 340282366920938463463374607431768211456) (hb : 1 ≤ b) (hb2 : b ≤ 9223372036854775808) (z : Int) (hz : X = un z) (x0 x1 x2 x3 : Int) (x4 : Bool) (x9 x10 x11 x12 x13 x14 : Int) : ∀ (c n : Nat) (x7 x8 : Int) (l : List VV), c ≤ 128 → c < n →
    x7 = X / 2 ^ c % b → x8 = (c : Int) - 1 → l = fillL (X / b) c →
    L_ref01_Div_0 F ex n x0 x1 x2 x3 x4 b 128 x7 x8 x9 x10 x11 x12 x13 x14 (ds z 128) l = ex x0 x1 x2 x3 x4 b 128 (X % b) (-1) x9 x10 x11 x12 x13 x14 (ds z 128) (ds (X / b) 128)
  | _, 0, _, _, _, _, h, _, _, _ => absurd h (by omega)
  | 0, n + 1, _, _, _, _, _, rfl, rfl, rfl => by
    rw [L_ref01_Div_0]
    unfold B_ref01_Div_0
    refine bn (df (by omega)) ?_
    rw [Int.pow_zero, Int.ediv_one]
    rfl
  | c + 1, n + 1, _, _, _, hc, hn, rfl, rfl, rfl => by
    have hc' : c < 128 := by omega
    have ih := lp_rDiv_0 F ex hX hX2 hb hb2 z hz x0 x1 x2 x3 x4 x9 x10 x11 x12 x13 x14 c n
    rw [L_ref01_Div_0]
    unfold B_ref01_Div_0
    dsimp only
    rw [show ((c + 1 : Nat) : Int) - 1 = (c : Int) by omega]
    have hs := div_step (P := 2 ^ (127 - c)) (T := 2 ^ c) (p2pos _) (p2pos c) (by rw [Int.mul_comm, p128 hc']) hX hX2 hb hb2
    obtain ⟨_, _, ⟨s4, s5⟩, s6, s7, _⟩ := hs
    rw [show (2 : Int) * 2 ^ c = 2 ^ (c + 1) by rw [Int.pow_succ, Int.mul_comm]] at s4 s5 s6 s7
    have hbit : X / 2 ^ c % 2 = dg z c := by
      rw [hz]
      exact bitlo z (n := 128) hc'
    have hq := quo_dg (X := X) (b := b) c hb
    have hd := dg_01 z c
    have key : (b ≤ 2 * (X / 2 ^ (c + 1) % b) + dg z c → dg (X / b) c = 1) ∧ (2 * (X / 2 ^ (c + 1) % b) + dg z c < b → dg (X / b) c = 0) := by
      rw [← hq, ← hbit]
      have e : X / 2 ^ c / 2 = X / 2 ^ (c + 1) := ediv2 X c
      clear ih hn hbit hq hd
      generalize X / 2 ^ (c + 1) = H at *
      generalize X / 2 ^ c = h at *
      have g1 := Int.mul_ediv_add_emod H b
      constructor
      · intro hx
        obtain ⟨c1, _⟩ := s6 hx
        have e1 : h = (2 * (H % b) + h % 2 - b) + (2 * (H / b) + 1) * b := by
          rw [Int.add_mul, Int.one_mul, Int.mul_assoc, Int.mul_comm (H / b) b]; omega
        have : h / b = 2 * (H / b) + 1 := by
          have h2 : h / b = ((2 * (H % b) + h % 2 - b) + (2 * (H / b) + 1) * b) / b := by rw [← e1]
          rw [h2, Int.add_mul_ediv_right _ _ (by omega), Int.ediv_eq_zero_of_lt (by omega) (by omega)]; omega
        omega
      · intro hx
        have e1 : h = (2 * (H % b) + h % 2) + (2 * (H / b)) * b := by
          rw [Int.mul_assoc, Int.mul_comm (H / b) b]; omega
        have : h / b = 2 * (H / b) := by
          have h2 : h / b = ((2 * (H % b) + h % 2) + (2 * (H / b)) * b) / b := by rw [← e1]
          rw [h2, Int.add_mul_ediv_right _ _ (by omega), Int.ediv_eq_zero_of_lt (by omega) (by omega)]; omega
        omega
    rw [hbit] at s6 s7
    generalize hR : X / 2 ^ (c + 1) % b = R0 at *
    refine bp (dt (by omega)) (bp (ix_ok c 128 hc') (bp (isI_ds z hc') ?_))
    rw [iv_ds z hc', wu64_in (x := dg z c) (by unfold U64; omega), wu64_in (x := 2 * R0) (by unfold U64; omega), wu64_in (x := 2 * R0 + dg z c) (by unfold U64; omega)]
    refine bn (df (by omega)) ?_
    have w8 : IntKind.wrap .i64 ((c : Int) - 1) = (c : Int) - 1 := wi64_in (by unfold I64; omega)
    by_cases hx : b ≤ 2 * R0 + dg z c
    · refine bp (dt hx) (bp (ix_ok c 128 hc') (bp ?_ ?_))
      · rw [zmul, fill_len _ hc, dt (by omega)]
      · refine ih _ _ _ (by omega) (by omega) ?_ w8 ?_
        · rw [(s6 hx).1, wu64_in]
          unfold U64; omega
        · rw [zmul]
          exact fill_one _ hc' (key.1 hx)
    · refine bn (df hx) ?_
      exact ih _ _ _ (by omega) (by omega) (s7 (by omega)).1.symm w8 (fill_zero _ hc' (key.2 (by omega)))
/-- the quotient toward 0, of numbers of which b is not 0. -/
def qt (z b : Int) : Int := Int.tdiv z b
theorem qt_un {z b : Int} (hz : W128 z) (hb : I64 b) (h0 : b ≠ 0) :
    (un (if z < 0 then -z else z) / (if b < 0 then -b else b) = if (decide (z < 0)) = (decide (b < 0)) then Int.tdiv z b else -Int.tdiv z b) ∧
    un (if z < 0 then -z else z) % (if b < 0 then -b else b) = (if z < 0 then -Int.tmod z b else Int.tmod z b) := by
  have e : un (if z < 0 then -z else z) = (if z < 0 then -z else z) := by unfold un; unfold W128 at hz; split <;> omega
  rw [e]
  by_cases h1 : z < 0 <;> by_cases h2 : b < 0
  · simp only [h1, h2, if_true]
    rw [← Int.tdiv_eq_ediv_of_nonneg (by omega), ← Int.tmod_eq_emod_of_nonneg (by omega), Int.neg_tdiv_neg, Int.neg_tmod, Int.tmod_neg]
    exact ⟨rfl, rfl⟩
  · simp only [h1, h2, if_true, if_false, decide_true, decide_false]
    rw [← Int.tdiv_eq_ediv_of_nonneg (by omega), ← Int.tmod_eq_emod_of_nonneg (by omega), Int.neg_tdiv, Int.neg_tmod]
    exact ⟨rfl, rfl⟩
  · simp only [h1, h2, if_true, if_false, decide_true, decide_false]
    rw [← Int.tdiv_eq_ediv_of_nonneg (by omega), ← Int.tmod_eq_emod_of_nonneg (by omega), Int.tdiv_neg, Int.tmod_neg]
    exact ⟨rfl, rfl⟩
  · simp only [h1, h2, if_true, if_false]
    rw [← Int.tdiv_eq_ediv_of_nonneg (by omega), ← Int.tmod_eq_emod_of_nonneg (by omega)]
    exact ⟨rfl, rfl⟩
end Go.Xv
namespace Go.Xv
/-- what a division answers -/
def divR (z b : Int) : Value := if b = 0 then .tuple #[.agg #[.int .i64 0, .int .u64 0], .int .i64 0, .bool false] else .tuple #[.agg #[.int .i64 (hi (Int.tdiv z b)), .int .u64 (lo (Int.tdiv z b))], .int .i64 (Int.tmod z b), .bool true]
theorem tmod_I {z b : Int} (hb : I64 b) (h0 : b ≠ 0) : -9223372036854775808 < Int.tmod z b ∧ Int.tmod z b < 9223372036854775808 := by
  unfold I64 at hb
  have h1 := Int.emod_nonneg (if z < 0 then -z else z) (show (if b < 0 then -b else b) ≠ 0 by split <;> omega)
  have h2 := Int.emod_lt_of_pos (if z < 0 then -z else z) (show 0 < (if b < 0 then -b else b) by split <;> omega)
  have h3 : (if z < 0 then -z else z) % (if b < 0 then -b else b) = (if z < 0 then -Int.tmod z b else Int.tmod z b) := by
    by_cases hz : z < 0 <;> by_cases hbn : b < 0 <;> simp only [hz, hbn, if_true, if_false]
    · rw [← Int.tmod_eq_emod_of_nonneg (by omega), Int.neg_tmod, Int.tmod_neg]
    · rw [← Int.tmod_eq_emod_of_nonneg (by omega), Int.neg_tmod]
    · rw [← Int.tmod_eq_emod_of_nonneg (by omega), Int.tmod_neg]
    · rw [← Int.tmod_eq_emod_of_nonneg (by omega)]
  rw [h3] at h1 h2
  revert h1 h2
  by_cases hz : z < 0 <;> simp only [hz, if_true, if_false] <;> intro h1 h2 <;> split at h2 <;> omega
theorem val_neg {a b : Int} (hb : U64 b) : (val a b < 0) ↔ a < 0 := by unfold val; unfold U64 at hb; omega
theorem some_div {x y r z b : Int} (h0 : b ≠ 0) (hx : x = hi (Int.tdiv z b)) (hy : y = lo (Int.tdiv z b)) (hr : r = Int.tmod z b) :
    (some (VV.v (.tuple #[.agg #[.int .i64 x, .int .u64 y], .int .i64 r, .bool true])) : R) = some (.v (divR z b)) := by
  unfold divR
  rw [if_neg h0, hx, hy, hr]
theorem f_Div (F : Nat) (hF : 200 ≤ F) {a c b : Int} (ha : I64 a) (hc : U64 c) (hb : I64 b) : f_wide_Div F a c b = some (.v (divR (val a c) b)) := by
  unfold f_wide_Div
  dsimp only
  by_cases h0 : b = 0
  · refine bp (by simp [h0]) ?_
    unfold divR
    rw [if_pos h0]
  · refine bn (by simp [h0]) ?_
    have hz := val_W ha hc
    have hzn := val_neg (a := a) hc
    obtain ⟨q1, q2⟩ := qt_un hz hb h0
    have hm := tmod_I (z := val a c) hb h0
    obtain ⟨b1, b2⟩ := k_wide_bare F b (f_bare F hb)
    have hb1 : 1 ≤ (if b < 0 then -b else b) ∧ (if b < 0 then -b else b) ≤ 9223372036854775808 := by unfold I64 at hb; split <;> omega
    by_cases han : a < 0
    · have hvn := hzn.2 han
      simp only [hvn, if_true, decide_true] at q1 q2
      obtain ⟨n1, n2, n3⟩ := k_wide_Neg F _ _ (f_Neg F ha hc)
      obtain ⟨d1, d2, d3, d4⟩ := k_wide_divide F _ _ _ (f_divide F hF (-val a c) hb1.1 hb1.2)
      refine bp (dt han) (bp n1 (bp b1 ?_))
      rw [n2, n3, b2]
      refine bp d1 ?_
      rw [d2, d3, d4, q1, q2]
      have w1 : IntKind.wrap .i64 (0 - IntKind.wrap .i64 (-Int.tmod (val a c) b)) = Int.tmod (val a c) b := by rw [wi64, wi64]; omega
      by_cases hbn : b < 0
      · simp only [han, hbn, decide_true, if_true, BEq.rfl, Bool.not_true, cond_false, cond_true]
        exact some_div h0 rfl rfl w1
      · simp only [han, hbn, decide_true, decide_false]
        refine bp rfl ?_
        simp only [show ((true = false) ↔ False) by decide, if_false]
        obtain ⟨m1, m2, m3⟩ := a_Neg F (-Int.tdiv (val a c) b)
        refine bp m1 ?_
        rw [m2, m3, Int.neg_neg]
        exact bp rfl (some_div h0 rfl rfl w1)
    · have hvn : ¬ val a c < 0 := fun h => han (hzn.1 h)
      simp only [hvn, if_false, decide_false] at q1 q2
      have hv1 := hi_val ha hc
      have hv2 := lo_val (h := a) hc
      have hd := k_wide_divide F _ _ _ (f_divide F hF (val a c) hb1.1 hb1.2)
      rw [hv1, hv2] at hd
      obtain ⟨d1, d2, d3, d4⟩ := hd
      refine bn (df han) (bp b1 ?_)
      rw [b2]
      refine bp d1 ?_
      rw [d2, d3, d4, q1, q2]
      have w1 : IntKind.wrap .i64 (Int.tmod (val a c) b) = Int.tmod (val a c) b := by rw [wi64]; omega
      by_cases hbn : b < 0
      · simp only [han, hbn, decide_true, decide_false]
        refine bp rfl ?_
        simp only [show ((false = true) ↔ False) by decide, if_false]
        obtain ⟨m1, m2, m3⟩ := a_Neg F (-Int.tdiv (val a c) b)
        refine bp m1 ?_
        rw [m2, m3, Int.neg_neg]
        exact bn rfl (some_div h0 rfl rfl w1)
      · simp only [han, hbn, decide_false, if_true, BEq.rfl, Bool.not_true, cond_false]
        exact some_div h0 rfl rfl w1
theorem rep_flat (x : VV) : ∀ n, (List.replicate n [x]).flatten = List.replicate n x
  | 0 => rfl
  | n + 1 => by rw [List.replicate_succ, List.flatten_cons, rep_flat x n, List.replicate_succ]; rfl
theorem fill_all (Q : Int) : (List.replicate 128 [VV.v (.int .i64 0)]).flatten = fillL Q 128 := by
  unfold fillL
  rw [rep_flat, List.drop_eq_nil_of_le (by rw [ds_len]; omega), List.append_nil]
theorem rDiv_loop (F : Nat) (hF : 200 ≤ F) (ex) (z : Int) {b : Int} (hb : 1 ≤ b) (hb2 : b ≤ 9223372036854775808) (x0 x1 x2 x3 : Int) (x4 : Bool) (x9 x10 x11 x12 x13 x14 : Int) :
    L_ref01_Div_0 F ex F x0 x1 x2 x3 x4 b 128 0 127 x9 x10 x11 x12 x13 x14 (ds z 128) ((List.replicate 128 [VV.v (.int .i64 0)]).flatten) = ex x0 x1 x2 x3 x4 b 128 (un z % b) (-1) x9 x10 x11 x12 x13 x14 (ds z 128) (ds (un z / b) 128) := by
  have h1 : 0 ≤ un z ∧ un z < 340282366920938463463374607431768211456 := by unfold un; omega
  refine lp_rDiv_0 F ex h1.1 h1.2 hb hb2 z rfl x0 x1 x2 x3 x4 x9 x10 x11 x12 x13 x14 128 F 0 127 _ (by omega) (by omega) ?_ (by omega) (fill_all _)
  rw [show (2 : Int) ^ 128 = 340282366920938463463374607431768211456 by decide, Int.ediv_eq_zero_of_lt h1.1 h1.2]; simp
theorem f_rDiv (F : Nat) (hF : 200 ≤ F) {a c b : Int} (ha : I64 a) (hc : U64 c) (hb : I64 b) : f_ref01_Div F a c b = some (.v (divR (val a c) b)) := by
  unfold f_ref01_Div
  dsimp only
  by_cases h0 : b = 0
  · refine bp (by simp [h0]) ?_
    unfold divR
    rw [if_pos h0]
  · refine bn (by simp [h0]) ?_
    have hz := val_W ha hc
    have hzn := val_neg (a := a) hc
    obtain ⟨q1, q2⟩ := qt_un hz hb h0
    have hm := tmod_I (z := val a c) hb h0
    have hb1 : 1 ≤ (if b < 0 then -b else b) ∧ (if b < 0 then -b else b) ≤ 9223372036854775808 := by unfold I64 at hb; split <;> omega
    by_cases han : a < 0
    · have hvn := hzn.2 han
      simp only [hvn, if_true, decide_true] at q1 q2
      obtain ⟨n1, n2, n3⟩ := k_ref01_Neg F _ _ (f_rNeg F hF (a := a) hc)
      obtain ⟨d1, d2, d3⟩ := k_ref01_Digits F _ _ (f_Digits F hF (a := hi (-val a c)) (lo_U (-val a c)))
      have hds : ds (W (-val a c)) 128 = ds (-val a c) 128 := by
        unfold ds
        apply List.map_congr_left
        intro i hi
        have hi : i < 128 := List.mem_range.1 hi
        unfold dg
        rw [← bitlo _ hi, ← bitlo (-val a c) hi]
        have := W_eqv (-val a c)
        unfold Eqv at this
        rw [show (2 : Int) ^ 128 = 340282366920938463463374607431768211456 by decide, this]
      rw [val_hl, hds] at d2
      refine bp (dt han) (bp n1 ?_)
      rw [n2, n3]
      have w1 : IntKind.wrap .i64 (0 - IntKind.wrap .i64 (-Int.tmod (val a c) b)) = Int.tmod (val a c) b := by rw [wi64, wi64]; omega
      by_cases hbn : b < 0
      · simp only [hbn, if_true, decide_true] at q1 q2 hb1
        have hw : IntKind.wrap .u64 (IntKind.wrap .u64 (IntKind.wrap .i64 (0 - IntKind.wrap .i64 (b + 1))) + 1) = -b := by unfold I64 at hb; rw [wi64, wi64, wu64, wu64]; omega
        refine bp (dt hbn) (bp d1 ?_)
        rw [d2, d3, hw, rDiv_loop F hF _ _ hb1.1 hb1.2, q1, q2]
        obtain ⟨e1, e2, e3⟩ := k_ref01_Number F _ _ (f_Number F hF (Int.tdiv (val a c) b))
        refine bp e1 (bn (by simp [han, hbn]) (bp (dt han) ?_))
        rw [e2, e3]
        exact some_div h0 rfl rfl w1
      · simp only [hbn, if_false, decide_false, show ((true = false) ↔ False) by decide] at q1 q2 hb1
        refine bn (df hbn) (bp d1 ?_)
        rw [d2, d3, wu64_in (x := b) (by unfold I64 at hb; unfold U64; omega), rDiv_loop F hF _ _ hb1.1 hb1.2, q1, q2]
        obtain ⟨e1, e2, e3⟩ := k_ref01_Number F _ _ (f_Number F hF (-Int.tdiv (val a c) b))
        obtain ⟨m1, m2, m3⟩ := a_rNeg F hF (-Int.tdiv (val a c) b)
        refine bp e1 (bp (by simp [han, hbn]) ?_)
        rw [e2, e3]
        refine bp m1 (bp (dt han) ?_)
        rw [m2, m3, Int.neg_neg]
        exact some_div h0 rfl rfl w1
    · have hvn : ¬ val a c < 0 := fun h => han (hzn.1 h)
      simp only [hvn, if_false, decide_false] at q1 q2
      obtain ⟨d1, d2, d3⟩ := k_ref01_Digits F _ _ (f_Digits F hF (a := a) hc)
      refine bn (df han) ?_
      have w1 : IntKind.wrap .i64 (Int.tmod (val a c) b) = Int.tmod (val a c) b := by rw [wi64]; omega
      by_cases hbn : b < 0
      · simp only [hbn, if_true, decide_true, show ((false = true) ↔ False) by decide, if_false] at q1 q2 hb1
        have hw : IntKind.wrap .u64 (IntKind.wrap .u64 (IntKind.wrap .i64 (0 - IntKind.wrap .i64 (b + 1))) + 1) = -b := by unfold I64 at hb; rw [wi64, wi64, wu64, wu64]; omega
        refine bp (dt hbn) (bp d1 ?_)
        rw [d2, d3, hw, rDiv_loop F hF _ _ hb1.1 hb1.2, q1, q2]
        obtain ⟨e1, e2, e3⟩ := k_ref01_Number F _ _ (f_Number F hF (-Int.tdiv (val a c) b))
        obtain ⟨m1, m2, m3⟩ := a_rNeg F hF (-Int.tdiv (val a c) b)
        refine bp e1 (bp (by simp [han, hbn]) ?_)
        rw [e2, e3]
        refine bp m1 (bn (df han) ?_)
        rw [m2, m3, Int.neg_neg]
        exact some_div h0 rfl rfl w1
      · simp only [hbn, if_false, decide_false, if_true] at q1 q2 hb1
        refine bn (df hbn) (bp d1 ?_)
        rw [d2, d3, wu64_in (x := b) (by unfold I64 at hb; unfold U64; omega), rDiv_loop F hF _ _ hb1.1 hb1.2, q1, q2]
        obtain ⟨e1, e2, e3⟩ := k_ref01_Number F _ _ (f_Number F hF (Int.tdiv (val a c) b))
        refine bp e1 (bn (by simp [han, hbn]) (bn (df han) ?_))
        rw [e2, e3]
        exact some_div h0 rfl rfl w1
end Go.Xv
