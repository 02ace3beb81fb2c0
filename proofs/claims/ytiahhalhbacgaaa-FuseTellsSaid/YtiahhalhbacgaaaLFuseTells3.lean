/- FuseTells: what the code pulls, fades, checks and bounds is as the reference does. -/
import Derived.Test.YtiahhalhbacgaaaLFuseTells2
namespace Go.Xv
theorem lo_step (z : Int) (i : Nat) : IntKind.wrap .u64 (Int.tdiv (lo z / 2 ^ i) 2) = lo z / 2 ^ (i + 1) := by
  have h := lo_U z
  unfold U64 at h
  have h1 := Int.ediv_nonneg h.1 (Int.le_of_lt (p2pos i))
  have h2 := Int.ediv_le_self (2 ^ i) h.1
  rw [Int.tdiv_eq_ediv_of_nonneg h1, ediv2, wu64_in]
  have h3 := Int.ediv_nonneg h.1 (Int.le_of_lt (p2pos (i + 1)))
  have h4 := Int.ediv_le_self (2 ^ (i + 1)) h.1
  unfold U64; omega
theorem lo_bit (z : Int) {i : Nat} (h : i < 64) : IntKind.wrap .i64 (Int.tmod (lo z / 2 ^ i) 2) = dg z i := by
  have h0 := lo_U z
  unfold U64 at h0
  have h1 := Int.ediv_nonneg h0.1 (Int.le_of_lt (p2pos i))
  rw [Int.tmod_eq_emod_of_nonneg h1, dg_lo z h, wi64_in]
  have := dg_01 z i
  unfold I64; omega
theorem cap_ok (z : Int) (i : Nat) (h : i < 1000) : (((decide ((0 + (i * 1)) ≤ (ds z i).length)) && true) && (decide ((i + 1) * 9 ≤ bigger))) = true := by
  rw [ds_len, dt (by omega), dt (show (i + 1) * 9 ≤ bigger by unfold bigger; omega)]; rfl
theorem lp_Digits_0 (F : Nat) (ex) (z x0 x1 x5 x6 : Int) : ∀ (k n i : Nat) (x3 x4 : Int) (x7 : List VV), i + k = 64 → k < n → x3 = lo z / 2 ^ i → x4 = i → x7 = ds z i →
    L_ref01_Digits_0 F ex n x0 x1 i x3 x4 x5 x6 x7 = ex x0 x1 64 (lo z / 2 ^ 64) 64 x5 x6 (ds z 64)
  | _, 0, _, _, _, _, _, h, _, _, _ => absurd h (by omega)
  | 0, n + 1, i, _, _, _, h, _, rfl, rfl, rfl => by
    obtain rfl : i = 64 := by omega
    rw [L_ref01_Digits_0]
    unfold B_ref01_Digits_0
    exact bn (df (by omega)) rfl
  | k + 1, n + 1, i, _, _, _, h, hn, rfl, rfl, rfl => by
    rw [L_ref01_Digits_0]
    unfold B_ref01_Digits_0
    refine bp (dt (by omega)) (bp (cap_ok z _ (by omega)) ?_)
    refine lp_Digits_0 F ex z x0 x1 x5 x6 k n (i + 1) _ _ _ (by omega) (by omega) (lo_step z i) ?_ ?_
    · rw [wi64_in (by unfold I64; omega)]; push_cast; rfl
    · rw [ds_take, lo_bit z (by omega), ← ds_succ]
def up (z : Int) : Int := z / 18446744073709551616 % 18446744073709551616
theorem lp_Digits_1 (F : Nat) (ex) (z x0 x1 x3 x4 x7 x8 : Int) : ∀ (k n i j : Nat) (x5 x6 : Int) (x9 : List VV), i + k = 64 → j = 64 + i → k < n → x5 = up z / 2 ^ i → x6 = i → x9 = ds z j →
    L_ref01_Digits_1 F ex n x0 x1 j x3 x4 x5 x6 x7 x8 x9 = ex x0 x1 128 x3 x4 (up z / 2 ^ 64) 64 x7 x8 (ds z 128)
  | _, 0, _, _, _, _, _, _, _, h, _, _, _ => absurd h (by omega)
  | 0, n + 1, i, j, _, _, _, h, hj, _, rfl, rfl, rfl => by
    obtain rfl : i = 64 := by omega
    obtain rfl : j = 128 := by omega
    rw [L_ref01_Digits_1]
    unfold B_ref01_Digits_1
    exact bn (df (by omega)) rfl
  | k + 1, n + 1, i, j, _, _, _, h, hj, hn, rfl, rfl, rfl => by
    rw [L_ref01_Digits_1]
    unfold B_ref01_Digits_1
    refine bp (dt (by omega)) (bp (cap_ok z _ (by omega)) ?_)
    have e : up z = lo (z / 18446744073709551616) := rfl
    refine lp_Digits_1 F ex z x0 x1 x3 x4 x7 x8 k n (i + 1) (j + 1) _ _ _ (by omega) (by omega) (by omega) ?_ ?_ ?_
    · rw [e, lo_step]
    · rw [wi64_in (by unfold I64; omega)]; push_cast; rfl
    · rw [ds_take, e, lo_bit _ (by omega), ← dg_lo _ (by omega), ← e]
      unfold up
      rw [dg_hi z (by omega), ← hj, ← ds_succ]
theorem f_Digits (F : Nat) (hF : 200 ≤ F) {a b : Int} (hb : U64 b) : f_ref01_Digits F a b = some (.fs (ds (val a b) 128) 0 128 1) := by
  unfold f_ref01_Digits
  have hl := lo_val (h := a) hb
  rw [lp_Digits_0 F _ (val a b) a b a b 64 F 0 b 0 [] (by omega) (by omega) (by rw [hl]; simp) rfl rfl]
  rw [lp_Digits_1 F _ (val a b) a b _ _ _ _ 64 F 0 64 _ 0 _ (by omega) (by omega) (by omega) ?_ rfl rfl]
  rw [wu64]
  unfold up val
  unfold U64 at hb
  simp only [Int.pow_zero]
  omega

theorem num_iv (l : List VV) (i : Nat) (b : Int) (h : l[i]? = some (.v (.int .i64 b))) : isI .i64 l[i]? = true ∧ iv l[i]? = b := by
  rw [h]
  exact ⟨rfl, rfl⟩
theorem zmul (i : Nat) : (0 + ((Int.toNat (i : Int)) * 1)) = i := by simp
theorem lp_Number_0 (F : Nat) (ex) (z : Int) (l : List VV) (x1 : Nat) (x3 x6 x7 : Int) (h1 : 64 ≤ x1) (hl : ∀ i : Nat, i < 64 → l[i]? = some (.v (.int .i64 (dg z i)))) : ∀ (k n i : Nat) (x2 x4 x5 : Int), i + k = 64 → k < n → x2 = num z i → x4 = (2 ^ i) % 18446744073709551616 → x5 = i →
    L_ref01_Number_0 F ex n l x1 x2 x3 x4 x5 x6 x7 = ex l x1 (num z 64) x3 0 64 x6 x7
  | _, 0, _, _, _, _, _, h, _, _, _ => absurd h (by omega)
  | 0, n + 1, i, _, _, _, h, _, rfl, rfl, rfl => by
    obtain rfl : i = 64 := by omega
    rw [L_ref01_Number_0]
    unfold B_ref01_Number_0
    exact bn (df (by omega)) rfl
  | k + 1, n + 1, i, _, _, _, h, hn, rfl, rfl, rfl => by
    have hi : i < 64 := by omega
    obtain ⟨g1, g2⟩ := num_iv l i _ (hl i hi)
    have hd := dg_01 z i
    have hp := p2pos i
    have hp2 := p2_lt64 hi
    have hb := num_bd z i
    rw [L_ref01_Number_0]
    unfold B_ref01_Number_0
    refine bp (dt (by omega)) (bp (dt (by omega)) (bp (by simp; omega) (bp (by rw [zmul, g1]; rfl) ?_)))
    rw [zmul, g2, wu64_in (x := dg z i) (by unfold U64; omega)]
    refine lp_Number_0 F ex z l x1 x3 x6 x7 h1 hl k n (i + 1) _ _ _ (by omega) (by omega) ?_ ?_ ?_
    · rw [num_succ]
      generalize (2 : Int) ^ i = P at *
      rw [Int.emod_eq_of_lt (a := P) (by omega) (by omega)]
      have : 0 ≤ dg z i * P ∧ dg z i * P ≤ P := by
        rcases (show dg z i = 0 ∨ dg z i = 1 by omega) with h | h <;> rw [h] <;> omega
      rw [wu64_in (x := dg z i * P) (by unfold U64; omega), wu64_in (by unfold U64; omega)]
    · rw [wu64, Int.pow_succ]
      omega
    · rw [wi64_in (by unfold I64; omega)]; push_cast; rfl
theorem lp_Number_1 (F : Nat) (ex) (z : Int) (l : List VV) (x1 : Nat) (x2 x5 x7 x8 : Int) (h1 : 128 ≤ x1) (hl : ∀ i : Nat, i < 64 → l[64 + i]? = some (.v (.int .i64 (dg z i)))) : ∀ (k n i : Nat) (x3 x4 x6 : Int), i + k = 64 → k < n → x3 = num z i → x4 = (2 ^ i) % 18446744073709551616 → x6 = 64 + i →
    L_ref01_Number_1 F ex n l x1 x2 x3 x4 x5 x6 x7 x8 = ex l x1 x2 (num z 64) 0 x5 128 x7 x8
  | _, 0, _, _, _, _, _, h, _, _, _ => absurd h (by omega)
  | 0, n + 1, i, _, _, _, h, _, rfl, rfl, rfl => by
    obtain rfl : i = 64 := by omega
    rw [L_ref01_Number_1]
    unfold B_ref01_Number_1
    exact bn (df (by omega)) rfl
  | k + 1, n + 1, i, _, _, _, h, hn, rfl, rfl, rfl => by
    have hi : i < 64 := by omega
    obtain ⟨g1, g2⟩ := num_iv l (64 + i) _ (hl i hi)
    have hd := dg_01 z i
    have hp := p2pos i
    have hp2 := p2_lt64 hi
    have hb := num_bd z i
    have zm : (0 + ((Int.toNat (64 + (i : Int))) * 1)) = 64 + i := by omega
    rw [L_ref01_Number_1]
    unfold B_ref01_Number_1
    refine bp (dt (by omega)) (bp (dt (by omega)) (bp (by simp; omega) (bp (by rw [zm, g1]; rfl) ?_)))
    rw [zm, g2, wu64_in (x := dg z i) (by unfold U64; omega)]
    refine lp_Number_1 F ex z l x1 x2 x5 x7 x8 h1 hl k n (i + 1) _ _ _ (by omega) (by omega) ?_ ?_ ?_
    · rw [num_succ]
      generalize (2 : Int) ^ i = P at *
      rw [Int.emod_eq_of_lt (a := P) (by omega) (by omega)]
      have : 0 ≤ dg z i * P ∧ dg z i * P ≤ P := by
        rcases (show dg z i = 0 ∨ dg z i = 1 by omega) with h | h <;> rw [h] <;> omega
      rw [wu64_in (x := dg z i * P) (by unfold U64; omega), wu64_in (by unfold U64; omega)]
    · rw [wu64, Int.pow_succ]
      omega
    · rw [wi64_in (by unfold I64; omega)]; push_cast; omega
theorem dg_up (z : Int) (i : Nat) : dg z (64 + i) = dg (z / 18446744073709551616) i := by
  unfold dg
  rw [show (18446744073709551616 : Int) = 2 ^ 64 by decide, Int.ediv_ediv_of_nonneg (by decide), p2add]
theorem f_Number (F : Nat) (hF : 200 ≤ F) (z : Int) : f_ref01_Number F (ds z 128) 128 = some (wd z) := by
  unfold f_ref01_Number
  rw [lp_Number_0 F _ z (ds z 128) 128 0 0 0 (by omega) (fun i hi => ds_get z (by omega)) 64 F 0 0 1 0 (by omega) (by omega) (num_zero z).symm (by decide) rfl]
  rw [lp_Number_1 F _ (z / 18446744073709551616) (ds z 128) 128 _ _ _ _ (by omega) (fun i hi => by rw [ds_get z (by omega), dg_up]) 64 F 0 0 1 64 (by omega) (by omega) (num_zero _).symm (by decide) rfl]
  refine some_wd ?_ ?_
  · rw [wi64]; unfold num hi
    rw [show (2 : Int) ^ 64 = 18446744073709551616 by decide]
    omega
  · unfold num lo
    rw [show (2 : Int) ^ 64 = 18446744073709551616 by decide]
end Go.Xv
namespace Go.Xv
theorem wi64_s (i : Nat) (h : i < 1000) : IntKind.wrap .i64 ((i : Int) + 1) = ((i + 1 : Nat) : Int) := by
  rw [wi64_in (by unfold I64; omega)]; push_cast; rfl
theorem ix_ok (i n : Nat) (h : i < n) : ((decide (0 ≤ (i : Int))) && (decide ((i : Int) < ((n : Nat) : Int)))) = true := by
  rw [dt (by omega), dt (by omega)]; rfl
theorem isI_ds (z : Int) {i n : Nat} (h : i < n) : ((isI .i64 (ds z n)[0 + ((Int.toNat (i : Int)) * 1)]?) && true) = true := by
  rw [zmul, ds_get z h]; rfl
theorem iv_ds (z : Int) {i n : Nat} (h : i < n) : iv (ds z n)[0 + ((Int.toNat (i : Int)) * 1)]? = dg z i := by
  rw [zmul, ds_get z h]; rfl
theorem lp_Add_0 (F : Nat) (ex) (x y a b c d x9 x10 x11 x12 x13 x14 : Int) : ∀ (k n i : Nat) (x7 x8 : Int) (l : List VV), i + k = 128 → k < n → x7 = cy x y i → x8 = i → l = ds (x + y) i →
    L_ref01_Add_0 F ex n a b c d 128 128 i x7 x8 x9 x10 x11 x12 x13 x14 (ds x 128) (ds y 128) l = ex a b c d 128 128 128 (cy x y 128) 128 x9 x10 x11 x12 x13 x14 (ds x 128) (ds y 128) (ds (x + y) 128)
  | _, 0, _, _, _, _, _, h, _, _, _ => absurd h (by omega)
  | 0, n + 1, i, _, _, _, h, _, rfl, rfl, rfl => by
    obtain rfl : i = 128 := by omega
    rw [L_ref01_Add_0]
    unfold B_ref01_Add_0
    exact bn (df (by omega)) rfl
  | k + 1, n + 1, i, _, _, _, h, hn, rfl, rfl, rfl => by
    have hi : i < 128 := by omega
    rw [L_ref01_Add_0]
    unfold B_ref01_Add_0
    have h1 := dg_01 x i
    have h2 := dg_01 y i
    have h3 := cy_01 x y i
    obtain ⟨e1, e2⟩ := cy_succ x y i
    refine bp (dt (by omega)) (bp (ix_ok i 128 hi) (bp (isI_ds x hi) (bp (ix_ok i 128 hi) (bp (isI_ds y hi) ?_))))
    dsimp only
    rw [iv_ds x hi, iv_ds y hi, wi64_in (x := dg x i + dg y i) (by unfold I64; omega), wi64_in (x := dg x i + dg y i + cy x y i) (by unfold I64; omega)]
    refine bp (cap_ok _ _ (by omega)) ?_
    refine lp_Add_0 F ex x y a b c d x9 x10 x11 x12 x13 x14 k n (i + 1) _ _ _ (by omega) (by omega) ?_ (wi64_s i (by omega)) ?_
    · rw [Int.tdiv_eq_ediv_of_nonneg (by omega), ← e1, wi64_in]
      have := cy_01 x y (i + 1)
      unfold I64; omega
    · rw [ds_take, Int.tmod_eq_emod_of_nonneg (by omega), ← e2, ← ds_succ]
theorem f_rAdd (F : Nat) (hF : 200 ≤ F) {a b c d : Int} (hb : U64 b) (hd : U64 d) : f_ref01_Add F a b c d = some (wd (val a b + val c d)) := by
  unfold f_ref01_Add
  obtain ⟨h1, h2, h3⟩ := k_ref01_Digits F _ _ (f_Digits F hF (a := a) hb)
  obtain ⟨g1, g2, g3⟩ := k_ref01_Digits F _ _ (f_Digits F hF (a := c) hd)
  refine bp h1 (bp g1 ?_)
  rw [h2, h3, g2, g3]
  rw [lp_Add_0 F _ (val a b) (val c d) a b c d a b c d 0 0 128 F 0 0 0 [] (by omega) (by omega) (cy_zero _ _).symm rfl rfl]
  obtain ⟨n1, n2, n3⟩ := k_ref01_Number F _ _ (f_Number F hF (val a b + val c d))
  refine bp n1 ?_
  rw [n2, n3]; rfl
theorem lp_Neg_0 (F : Nat) (ex) (z x0 x1 x4 x5 x6 x7 : Int) : ∀ (k n i : Nat) (x3 : Int) (l : List VV), i + k = 128 → k < n → x3 = i → l = ds (-1 - z) i ++ (ds z 128).drop i →
    L_ref01_Neg_0 F ex n x0 x1 128 x3 x4 x5 x6 x7 l = ex x0 x1 128 128 x4 x5 x6 x7 (ds (-1 - z) 128)
  | _, 0, _, _, _, _, h, _, _ => absurd h (by omega)
  | 0, n + 1, i, _, _, h, _, rfl, rfl => by
    obtain rfl : i = 128 := by omega
    rw [L_ref01_Neg_0]
    unfold B_ref01_Neg_0
    refine bn (df (by omega)) ?_
    rw [List.drop_eq_nil_of_le (by rw [ds_len]; omega), List.append_nil]; rfl
  | k + 1, n + 1, i, _, _, h, hn, rfl, rfl => by
    have hi : i < 128 := by omega
    have hg : (ds (-1 - z) i ++ (ds z 128).drop i)[0 + ((Int.toNat (i : Int)) * 1)]? = some (.v (.int .i64 (dg z i))) := by
      rw [zmul, List.getElem?_append_right (by rw [ds_len]; omega), ds_len, Nat.sub_self, List.getElem?_drop, Nat.add_zero, ds_get z hi]
    rw [L_ref01_Neg_0]
    unfold B_ref01_Neg_0
    have h1 := dg_01 z i
    refine bp (dt (by omega)) (bp (ix_ok i 128 hi) (bp (by rw [hg]; rfl) (bp (ix_ok i 128 hi) (bp ?_ ?_))))
    · rw [zmul, dt]
      rw [List.length_append, List.length_drop, ds_len, ds_len]; omega
    · rw [hg]
      refine lp_Neg_0 F ex z x0 x1 x4 x5 x6 x7 k n (i + 1) _ _ (by omega) (by omega) (wi64_s i (by omega)) ?_
      rw [zmul, show iv (some (VV.v (.int .i64 (dg z i)))) = dg z i from rfl, wi64_in (by unfold I64; omega), ← dg_not, ds_succ (-1 - z) i]
      rw [List.take_append_of_le_length (by rw [ds_len]; omega), List.take_of_length_le (by rw [ds_len]; omega), List.drop_append, ds_len, List.drop_drop, List.drop_eq_nil_of_le (by rw [ds_len]; omega)]
      rw [show i + (i + 1 - i) = i + 1 by omega]
      simp
theorem f_rNeg (F : Nat) (hF : 200 ≤ F) {a b : Int} (hb : U64 b) : f_ref01_Neg F a b = some (wd (-val a b)) := by
  unfold f_ref01_Neg
  obtain ⟨h1, h2, h3⟩ := k_ref01_Digits F _ _ (f_Digits F hF (a := a) hb)
  refine bp h1 ?_
  rw [h2, h3]
  rw [lp_Neg_0 F _ (val a b) a b a b 0 0 128 F 0 0 _ (by omega) (by omega) rfl (by simp [ds_zero])]
  obtain ⟨n1, n2, n3⟩ := k_ref01_Number F _ _ (f_Number F hF (-1 - val a b))
  refine bp n1 ?_
  dsimp only
  obtain ⟨o1, o2, o3⟩ := k_ref01_Of F _ (f_rOf F (n := 1) (by unfold I64; omega))
  refine bp o1 ?_
  rw [n2, n3, o2, o3]
  obtain ⟨p1, p2, p3⟩ := k_ref01_Add F _ _ _ _ (f_rAdd F hF (a := hi (-1 - val a b)) (c := hi 1) (lo_U (-1 - val a b)) (lo_U 1))
  refine bp p1 ?_
  rw [p2, p3]
  have e : Eqv (val (hi (-1 - val a b)) (lo (-1 - val a b)) + val (hi 1) (lo 1)) (-val a b) := by
    rw [val_hl, val_hl]
    have := (W_eqv (-1 - val a b)).add (W_eqv 1)
    rw [show -1 - val a b + 1 = -val a b by omega] at this
    exact this
  exact some_wd (hi_eqv e) (lo_eqv e)
end Go.Xv
namespace Go.Xv
theorem a_Add (F : Nat) (x y : Int) : ok_wide_Add F (hi x) (lo x) (hi y) (lo y) = true ∧ o_wide_Add_0 F (hi x) (lo x) (hi y) (lo y) = hi (x + y) ∧ o_wide_Add_1 F (hi x) (lo x) (hi y) (lo y) = lo (x + y) := by
  obtain ⟨h1, h2, h3⟩ := k_wide_Add F _ _ _ _ (f_Add F (a := hi x) (c := hi y) (lo_U x) (lo_U y))
  rw [h2, h3, val_hl, val_hl]
  have e := (W_eqv x).add (W_eqv y)
  exact ⟨h1, hi_eqv e, lo_eqv e⟩
theorem a_rAdd (F : Nat) (hF : 200 ≤ F) (x y : Int) : ok_ref01_Add F (hi x) (lo x) (hi y) (lo y) = true ∧ o_ref01_Add_0 F (hi x) (lo x) (hi y) (lo y) = hi (x + y) ∧ o_ref01_Add_1 F (hi x) (lo x) (hi y) (lo y) = lo (x + y) := by
  obtain ⟨h1, h2, h3⟩ := k_ref01_Add F _ _ _ _ (f_rAdd F hF (a := hi x) (c := hi y) (lo_U x) (lo_U y))
  rw [h2, h3, val_hl, val_hl]
  have e := (W_eqv x).add (W_eqv y)
  exact ⟨h1, hi_eqv e, lo_eqv e⟩
theorem a_rNeg (F : Nat) (hF : 200 ≤ F) (x : Int) : ok_ref01_Neg F (hi x) (lo x) = true ∧ o_ref01_Neg_0 F (hi x) (lo x) = hi (-x) ∧ o_ref01_Neg_1 F (hi x) (lo x) = lo (-x) := by
  obtain ⟨h1, h2, h3⟩ := k_ref01_Neg F _ _ (f_rNeg F hF (a := hi x) (lo_U x))
  rw [h2, h3, val_hl]
  exact ⟨h1, hi_eqv (W_eqv x).neg, lo_eqv (W_eqv x).neg⟩
theorem a_Of (F : Nat) {n : Int} (h : I64 n) : ok_wide_Of F n = true ∧ o_wide_Of_0 F n = hi n ∧ o_wide_Of_1 F n = lo n := k_wide_Of F _ (f_Of F h)
theorem a_rOf (F : Nat) {n : Int} (h : I64 n) : ok_ref01_Of F n = true ∧ o_ref01_Of_0 F n = hi n ∧ o_ref01_Of_1 F n = lo n := k_ref01_Of F _ (f_rOf F h)
theorem a_Left (F : Nat) (x : Int) (n : Int) : ok_wide_Left F (hi x) (lo x) n = true ∧ o_wide_Left_0 F (hi x) (lo x) n = hi (x * 2 ^ n.toNat) ∧ o_wide_Left_1 F (hi x) (lo x) n = lo (x * 2 ^ n.toNat) := by
  obtain ⟨h1, h2, h3⟩ := k_wide_Left F _ _ n (f_Left F (a := hi x) (n := n) (lo_U x))
  rw [h2, h3, val_hl]
  exact ⟨h1, hi_eqv ((W_eqv x).mul _), lo_eqv ((W_eqv x).mul _)⟩

theorem lp_Mul_0 (F : Nat) (hF : 200 ≤ F) (ex) (a b x0 x1 x4 x5 : Int) : ∀ (k n i : Nat) (x3 x6 x7 x8 x9 : Int), i + k = 127 → k < n → x3 = i → x6 = hi (a * num b i) → x7 = lo (a * num b i) → x8 = hi (a * 2 ^ i) → x9 = lo (a * 2 ^ i) →
    L_ref01_Mul_0 F ex n x0 x1 128 x3 x4 x5 x6 x7 x8 x9 (ds b 128) = ex x0 x1 128 127 x4 x5 (hi (a * num b 127)) (lo (a * num b 127)) (hi (a * 2 ^ 127)) (lo (a * 2 ^ 127)) (ds b 128)
  | _, 0, _, _, _, _, _, _, _, h, _, _, _, _, _ => absurd h (by omega)
  | 0, n + 1, i, _, _, _, _, _, h, _, rfl, rfl, rfl, rfl, rfl => by
    obtain rfl : i = 127 := by omega
    rw [L_ref01_Mul_0]
    unfold B_ref01_Mul_0
    exact bn (df (by omega)) rfl
  | k + 1, n + 1, i, _, _, _, _, _, h, hn, rfl, rfl, rfl, rfl, rfl => by
    have hi' : i < 128 := by omega
    rw [L_ref01_Mul_0]
    unfold B_ref01_Mul_0
    refine bp (dt (by omega)) (bp (ix_ok i 128 hi') (bp (isI_ds b hi') ?_))
    rw [iv_ds b hi']
    obtain ⟨d1, d2, d3⟩ := a_rAdd F hF (a * 2 ^ i) (a * 2 ^ i)
    have e2 : a * 2 ^ i + a * 2 ^ i = a * 2 ^ (i + 1) := by rw [Int.pow_succ, ← Int.mul_assoc]; omega
    rw [e2] at d2 d3
    rcases (show dg b i = 0 ∨ dg b i = 1 by have := dg_01 b i; omega) with hd | hd
    · refine bn (by rw [hd]; rfl) (bp d1 ?_)
      have e : num b (i + 1) = num b i := by rw [num_succ, hd]; omega
      exact lp_Mul_0 F hF ex a b x0 x1 x4 x5 k n (i + 1) _ _ _ _ _ (by omega) (by omega) (wi64_s i (by omega)) (by rw [e]) (by rw [e]) d2 d3
    · obtain ⟨c1, c2, c3⟩ := a_rAdd F hF (a * num b i) (a * 2 ^ i)
      have e : a * num b i + a * 2 ^ i = a * num b (i + 1) := by rw [num_succ, hd, Int.mul_add, Int.one_mul]
      rw [e] at c2 c3
      refine bp (by rw [hd]; rfl) (bp c1 (bp d1 ?_))
      exact lp_Mul_0 F hF ex a b x0 x1 x4 x5 k n (i + 1) _ _ _ _ _ (by omega) (by omega) (wi64_s i (by omega)) c2 c3 d2 d3
theorem num_127 {b : Int} (h : W128 b) : b = num b 127 - dg b 127 * 2 ^ 127 := by
  unfold num dg
  unfold W128 at h
  rw [show (2 : Int) ^ 127 = 170141183460469231731687303715884105728 by decide]
  omega
theorem I64_W {b : Int} (h : I64 b) : W128 b := by unfold I64 at h; unfold W128; omega
theorem f_rMul (F : Nat) (hF : 200 ≤ F) {a b : Int} (ha : I64 a) (hb : I64 b) : f_ref01_Mul F a b = some (wd (a * b)) := by
  unfold f_ref01_Mul
  obtain ⟨h1, h2, h3⟩ := a_rOf F ha
  obtain ⟨g1, g2, g3⟩ := a_rOf F hb
  obtain ⟨d1, d2, d3⟩ := k_ref01_Digits F _ _ (f_Digits F hF (a := hi b) (lo_U b))
  rw [val_hl, W_in (I64_W hb)] at d2
  refine bp h1 (bp g1 ?_)
  rw [g2, g3, h2, h3]
  refine bp d1 ?_
  rw [d2, d3]
  rw [lp_Mul_0 F hF _ a b a b 0 0 127 F 0 0 0 0 _ _ (by omega) (by omega) rfl (by rw [num_zero, Int.mul_zero]; rfl) (by rw [num_zero, Int.mul_zero]; rfl) (by rw [Int.pow_zero, Int.mul_one]) (by rw [Int.pow_zero, Int.mul_one])]
  have hn := num_127 (I64_W hb)
  refine bp (dt (by decide)) (bp (isI_ds b (i := 127) (by omega)) ?_)
  have hg : iv (ds b 128)[127]? = dg b 127 := by rw [ds_get b (by omega)]; rfl
  rw [hg]
  rcases (show dg b 127 = 0 ∨ dg b 127 = 1 by have := dg_01 b 127; omega) with hd | hd
  · refine bn (by rw [hd]; rfl) ?_
    rw [hd] at hn
    rw [show num b 127 = b by omega]; rfl
  · obtain ⟨n1, n2, n3⟩ := a_rNeg F hF (a * 2 ^ 127)
    refine bp (by rw [hd]; rfl) (bp n1 ?_)
    rw [n2, n3]
    obtain ⟨c1, c2, c3⟩ := a_rAdd F hF (a * num b 127) (-(a * 2 ^ 127))
    refine bp c1 ?_
    rw [c2, c3]
    rw [hd] at hn
    have e : a * num b 127 + -(a * 2 ^ 127) = a * b := by
      rw [show num b 127 = b + 2 ^ 127 by omega, Int.mul_add]; omega
    rw [e]; rfl
theorem a_rMul (F : Nat) (hF : 200 ≤ F) {a b : Int} (ha : I64 a) (hb : I64 b) : ok_ref01_Mul F a b = true ∧ o_ref01_Mul_0 F a b = hi (a * b) ∧ o_ref01_Mul_1 F a b = lo (a * b) := k_ref01_Mul F _ _ (f_rMul F hF ha hb)
end Go.Xv
namespace Go.Xv
theorem f_rLess (F : Nat) {a b c d : Int} (hb : U64 b) (hd : U64 d) : f_ref01_Less F a b c d = some (.v (.bool (decide (val a b < val c d)))) := by
  unfold f_ref01_Less val
  unfold U64 at hb hd
  by_cases h : a < c
  · refine bp (dt h) (some_bool ?_)
    exact (dt (by omega)).symm
  · refine bn (df h) ?_
    by_cases h2 : a = c
    · refine bp (by simp [h2]) (some_bool ?_)
      rw [decide_eq_decide]; omega
    · refine bn (by simp [h2]) (some_bool ?_)
      exact (df (by omega)).symm
theorem lp_Left_0 (F : Nat) (hF : 200 ≤ F) (ex) (z x0 x1 x2 x6 x7 : Int) (m : Nat) (hm : (if 128 < x2 then 128 else x2) ≤ (m : Int)) (hm2 : (m : Int) ≤ 0 ∨ (m : Int) = (if 128 < x2 then 128 else x2)) (h128 : m ≤ 128) : ∀ (k n i : Nat) (x3 x4 x5 : Int), i + k = m → k < n → x3 = i → x4 = hi (z * 2 ^ i) → x5 = lo (z * 2 ^ i) →
    L_ref01_Left_0 F ex n x0 x1 x2 x3 x4 x5 x6 x7 = ex x0 x1 x2 m (hi (z * 2 ^ m)) (lo (z * 2 ^ m)) x6 x7
  | _, 0, _, _, _, _, _, h, _, _, _ => absurd h (by omega)
  | 0, n + 1, i, _, _, _, h, _, rfl, rfl, rfl => by
    obtain rfl : i = m := by omega
    rw [L_ref01_Left_0]
    unfold B_ref01_Left_0
    exact bn (df (by omega)) rfl
  | k + 1, n + 1, i, _, _, _, h, hn, rfl, rfl, rfl => by
    rw [L_ref01_Left_0]
    unfold B_ref01_Left_0
    obtain ⟨d1, d2, d3⟩ := a_rAdd F hF (z * 2 ^ i) (z * 2 ^ i)
    have e2 : z * 2 ^ i + z * 2 ^ i = z * 2 ^ (i + 1) := by rw [Int.pow_succ, ← Int.mul_assoc]; omega
    rw [e2] at d2 d3
    refine bp (dt (by omega)) (bp d1 ?_)
    exact lp_Left_0 F hF ex z x0 x1 x2 x6 x7 m hm hm2 h128 k n (i + 1) _ _ _ (by omega) (by omega) (wi64_s i (by omega)) d2 d3
theorem f_rLeft (F : Nat) (hF : 200 ≤ F) {a b n : Int} (ha : I64 a) (hb : U64 b) : f_ref01_Left F a b n = some (wd (val a b * 2 ^ n.toNat)) := by
  unfold f_ref01_Left
  have hm : ∃ m : Nat, (if 128 < n then 128 else n) ≤ (m : Int) ∧ ((m : Int) ≤ 0 ∨ (m : Int) = (if 128 < n then 128 else n)) ∧ m ≤ 128 ∧ (n.toNat = m ∨ 128 ≤ n.toNat ∧ m = 128) := by
    by_cases h : 128 < n
    · exact ⟨128, by rw [if_pos h]; omega, .inr (by rw [if_pos h]; omega), by omega, .inr (by omega)⟩
    · exact ⟨n.toNat, by rw [if_neg h]; omega, by rw [if_neg h]; omega, by omega, .inl rfl⟩
  obtain ⟨m, h1, h2, h3, h4⟩ := hm
  rw [lp_Left_0 F hF _ (val a b) a b n 0 0 m h1 h2 h3 m F 0 0 a b (by omega) (by omega) rfl (by rw [Int.pow_zero, Int.mul_one, hi_val ha hb]) (by rw [Int.pow_zero, Int.mul_one, lo_val hb])]
  rcases h4 with h4 | ⟨h4, rfl⟩
  · rw [h4]; rfl
  · obtain ⟨e1, e2⟩ := shl_all (h := a) (l := b) h4
    obtain ⟨e3, e4⟩ := shl_all (h := a) (l := b) (m := 128) (by omega)
    exact some_wd (e3.symm.trans e1) (e4.symm.trans e2)
theorem a_rLeft (F : Nat) (hF : 200 ≤ F) (x : Int) (n : Int) : ok_ref01_Left F (hi x) (lo x) n = true ∧ o_ref01_Left_0 F (hi x) (lo x) n = hi (x * 2 ^ n.toNat) ∧ o_ref01_Left_1 F (hi x) (lo x) n = lo (x * 2 ^ n.toNat) := by
  obtain ⟨h1, h2, h3⟩ := k_ref01_Left F _ _ n (f_rLeft F hF (n := n) (hi_I x) (lo_U x))
  rw [h2, h3, val_hl]
  exact ⟨h1, hi_eqv ((W_eqv x).mul _), lo_eqv ((W_eqv x).mul _)⟩

theorem W_div {y : Int} (h : W128 y) (i : Nat) : W128 (y / 2 ^ i) := by
  have hP := p2pos i
  unfold W128 at *
  generalize (2 : Int) ^ i = P at *
  rcases Int.lt_or_le y 0 with hn | hn
  · constructor
    · rw [Int.le_ediv_iff_mul_le hP]
      have : -170141183460469231731687303715884105728 * P ≤ -170141183460469231731687303715884105728 * 1 := Int.mul_le_mul_of_nonpos_left (by omega) (by omega)
      omega
    · have := Int.ediv_neg_of_neg_of_pos hn hP
      omega
  · have h1 := Int.ediv_nonneg hn (Int.le_of_lt hP)
    have h2 := Int.ediv_le_self P hn
    omega
theorem dg_half (y : Int) (j : Nat) : dg (y / 2) j = dg y (j + 1) := by
  unfold dg
  rw [Int.ediv_ediv_of_nonneg (by decide), show (2 : Int) * 2 ^ j = 2 ^ (j + 1) by rw [Int.pow_succ, Int.mul_comm]]
theorem dg_sign {y : Int} (h : W128 y) : dg (y / 2) 127 = dg y 127 := by
  unfold dg
  unfold W128 at h
  rw [show (2 : Int) ^ 127 = 170141183460469231731687303715884105728 by decide]
  omega
theorem ds_shift {y : Int} (h : W128 y) : ((ds y 128).drop 1).take (127 * 1) ++ [.v (.int .i64 (dg y 127))] = ds (y / 2) 128 := by
  apply List.ext_getElem?
  intro i
  rcases Nat.lt_or_ge i 127 with hi | hi
  · rw [List.getElem?_append_left (by simp [ds_len]; omega), List.getElem?_take, if_pos (by omega), List.getElem?_drop, ds_get _ (by omega), ds_get _ (by omega), dg_half, Nat.add_comm]
  · rcases Nat.lt_or_ge i 128 with hi2 | hi2
    · obtain rfl : i = 127 := by omega
      rw [List.getElem?_append_right (by simp [ds_len]), ds_get _ (by omega), dg_sign h]
      simp [ds_len]
    · rw [List.getElem?_eq_none (by simp [ds_len]; omega), List.getElem?_eq_none (by rw [ds_len]; omega)]
theorem lp_Right_0 (F : Nat) (ex) {z : Int} (hz : W128 z) (x0 x1 x2 x6 x7 x8 x9 : Int) (m : Nat) (hm : (if 127 < x2 then 127 else x2) ≤ (m : Int)) (hm2 : (m : Int) ≤ 0 ∨ (m : Int) = (if 127 < x2 then 127 else x2)) (h128 : m ≤ 127) : ∀ (k n i : Nat) (x4 x5 : Int) (l : List VV), i + k = m → k < n → x4 = dg z 127 → x5 = i → l = ds (z / 2 ^ i) 128 →
    L_ref01_Right_0 F ex n x0 x1 x2 128 x4 x5 x6 x7 x8 x9 l = ex x0 x1 x2 128 (dg z 127) m x6 x7 x8 x9 (ds (z / 2 ^ m) 128)
  | _, 0, _, _, _, _, _, h, _, _, _ => absurd h (by omega)
  | 0, n + 1, i, _, _, _, h, _, rfl, rfl, rfl => by
    obtain rfl : i = m := by omega
    rw [L_ref01_Right_0]
    unfold B_ref01_Right_0
    exact bn (df (by omega)) rfl
  | k + 1, n + 1, i, _, _, _, h, hn, rfl, rfl, rfl => by
    rw [L_ref01_Right_0]
    unfold B_ref01_Right_0
    have hy := W_div hz i
    have hs : dg z 127 = dg (z / 2 ^ i) 127 := by
      have : ∀ j, dg (z / 2 ^ j) 127 = dg z 127 := by
        intro j
        induction j with
        | zero => simp
        | succ j ih => rw [← ediv2, dg_sign (W_div hz j), ih]
      exact (this i).symm
    refine bp (dt (by omega)) (bp rfl (bp ?_ ?_))
    · rw [ds_len, dt (by omega), dt (by unfold bigger; omega)]; rfl
    · refine lp_Right_0 F ex hz x0 x1 x2 x6 x7 x8 x9 m hm hm2 h128 k n (i + 1) _ _ _ (by omega) (by omega) rfl (wi64_s i (by omega)) ?_
      rw [hs, ds_shift hy, ediv2]
theorem f_rRight (F : Nat) (hF : 200 ≤ F) {a b n : Int} (ha : I64 a) (hb : U64 b) : f_ref01_Right F a b n = some (wd (val a b / 2 ^ cl n)) := by
  unfold f_ref01_Right
  obtain ⟨d1, d2, d3⟩ := k_ref01_Digits F _ _ (f_Digits F hF (a := a) hb)
  refine bp d1 ?_
  rw [d2, d3]
  refine bp (dt (by decide)) (bp (isI_ds (val a b) (i := 127) (by omega)) ?_)
  have hg : iv (ds (val a b) 128)[127]? = dg (val a b) 127 := by rw [ds_get _ (by omega)]; rfl
  have hm : ∃ m : Nat, (if 127 < n then 127 else n) ≤ (m : Int) ∧ ((m : Int) ≤ 0 ∨ (m : Int) = (if 127 < n then 127 else n)) ∧ m ≤ 127 ∧ cl n = m := by
    refine ⟨cl n, ?_⟩
    unfold cl
    by_cases h : 127 < n
    · rw [if_pos h, if_neg (show ¬ 0 > n by omega), if_pos h]; omega
    · rw [if_neg h]
      by_cases h2 : 0 > n
      · rw [if_pos h2, if_neg (by omega)]; omega
      · rw [if_neg h2, if_neg h]; omega
  obtain ⟨m, h1, h2, h3, h4⟩ := hm
  rw [lp_Right_0 F _ (val_W ha hb) a b n a b 0 0 m h1 h2 h3 m F 0 _ 0 _ (by omega) (by omega) hg rfl (by rw [Int.pow_zero, Int.ediv_one])]
  obtain ⟨n1, n2, n3⟩ := k_ref01_Number F _ _ (f_Number F hF (val a b / 2 ^ m))
  refine bp n1 ?_
  rw [n2, n3, h4]; rfl
theorem a_rRight (F : Nat) (hF : 200 ≤ F) {x : Int} (n : Int) (h : W128 x) : ok_ref01_Right F (hi x) (lo x) n = true ∧ o_ref01_Right_0 F (hi x) (lo x) n = hi (x / 2 ^ cl n) ∧ o_ref01_Right_1 F (hi x) (lo x) n = lo (x / 2 ^ cl n) := by
  have := k_ref01_Right F _ _ n (f_rRight F hF (n := n) (hi_I x) (lo_U x))
  rw [val_hl, W_in h] at this
  exact this
end Go.Xv
namespace Go.Xv
def clipV (z : Int) : Int := if z < -9223372036854775808 then -9223372036854775808 else if 9223372036854775807 < z then 9223372036854775807 else z
def clipC (z : Int) : Bool := decide (z < -9223372036854775808 ∨ 9223372036854775807 < z)
theorem clipV_I (z : Int) : I64 (clipV z) := by unfold I64 clipV; split <;> (try split) <;> omega
theorem some_clip {n : Int} {c : Bool} {z : Int} (h : n = clipV z) (k : c = clipC z) : (some (VV.v (.tuple #[.int .i64 n, .bool c])) : R) = some (.v (.tuple #[.int .i64 (clipV z), .bool (clipC z)])) := by rw [h, k]
theorem f_Clip (F : Nat) {a b : Int} (ha : I64 a) (hb : U64 b) : f_wide_Clip F a b = some (.v (.tuple #[.int .i64 (clipV (val a b)), .bool (clipC (val a b))])) := by
  unfold f_wide_Clip
  dsimp only
  obtain ⟨o1, o2, o3⟩ := a_Of F (wi64_I b)
  refine bp o1 ?_
  rw [o2, o3, wi64]
  have hv : ∀ z, z = val a b → True := fun _ _ => trivial
  unfold I64 at ha
  unfold U64 at hb
  by_cases h : -9223372036854775808 ≤ val a b ∧ val a b ≤ 9223372036854775807
  · refine bp ?_ (some_clip ?_ ?_)
    · unfold val at h
      rw [Bool.and_eq_true, beq_iff_eq, beq_iff_eq]
      unfold hi lo; omega
    · unfold clipV
      rw [if_neg (by omega), if_neg (by omega)]
      unfold val at *; omega
    · unfold clipC
      exact (df (by omega)).symm
  · refine bn ?_ ?_
    · unfold val at h
      rw [Bool.and_eq_false_iff, beq_eq_false_iff_ne, beq_eq_false_iff_ne]
      unfold hi lo; omega
    · by_cases h2 : a < 0
      · refine bp (dt h2) (some_clip ?_ ?_)
        · unfold clipV
          rw [if_pos]
          unfold val at *; omega
        · unfold clipC
          refine (dt ?_).symm
          unfold val at *; omega
      · refine bn (df h2) (some_clip ?_ ?_)
        · unfold clipV
          rw [if_neg, if_pos]
          · unfold val at *; omega
          · unfold val at *; omega
        · unfold clipC
          refine (dt ?_).symm
          unfold val at *; omega
theorem f_rClip (F : Nat) {a b : Int} (ha : I64 a) (hb : U64 b) : f_ref01_Clip F a b = some (.v (.tuple #[.int .i64 (clipV (val a b)), .bool (clipC (val a b))])) := by
  unfold f_ref01_Clip
  dsimp only
  obtain ⟨o1, o2, o3⟩ := a_rOf F (n := -9223372036854775808) (by unfold I64; omega)
  obtain ⟨p1, p2, p3⟩ := a_rOf F (n := 9223372036854775807) (by unfold I64; omega)
  obtain ⟨l1, l2⟩ := k_ref01_Less F _ _ _ _ (f_rLess F (a := a) (c := hi (-9223372036854775808)) hb (lo_U (-9223372036854775808)))
  obtain ⟨m1, m2⟩ := k_ref01_Less F _ _ _ _ (f_rLess F (a := hi 9223372036854775807) (c := a) (lo_U 9223372036854775807) hb)
  rw [val_hl, W_in (by unfold W128; omega)] at l2 m2
  refine bp o1 ?_
  rw [o2, o3]
  refine bp l1 ?_
  rw [l2]
  by_cases h : val a b < -9223372036854775808
  · refine bp (dt h) (some_clip ?_ ?_)
    · unfold clipV; rw [if_pos h]
    · unfold clipC; exact (dt (.inl h)).symm
  · refine bn (df h) (bp p1 ?_)
    rw [p2, p3]
    refine bp m1 ?_
    rw [m2]
    by_cases h2 : 9223372036854775807 < val a b
    · refine bp (dt h2) (some_clip ?_ ?_)
      · unfold clipV; rw [if_neg h, if_pos h2]
      · unfold clipC; exact (dt (.inr h2)).symm
    · refine bn (df h2) (some_clip ?_ ?_)
      · unfold clipV
        rw [if_neg h, if_neg h2, wi64]
        unfold I64 at ha
        unfold U64 at hb
        unfold val at *; omega
      · unfold clipC; exact (df (by omega)).symm
theorem a_Clip (F : Nat) {x : Int} (h : W128 x) : ok_wide_Clip F (hi x) (lo x) = true ∧ o_wide_Clip_0 F (hi x) (lo x) = clipV x ∧ o_wide_Clip_1 F (hi x) (lo x) = clipC x := by
  have := k_wide_Clip F _ _ (f_Clip F (hi_I x) (lo_U x))
  rw [val_hl, W_in h] at this
  exact this
theorem a_rClip (F : Nat) {x : Int} (h : W128 x) : ok_ref01_Clip F (hi x) (lo x) = true ∧ o_ref01_Clip_0 F (hi x) (lo x) = clipV x ∧ o_ref01_Clip_1 F (hi x) (lo x) = clipC x := by
  have := k_ref01_Clip F _ _ (f_rClip F (hi_I x) (lo_U x))
  rw [val_hl, W_in h] at this
  exact this

end Go.Xv
namespace Go.Xv
abbrev cp (z : Int) : VV := .v (.tuple #[.int .i64 (clipV z), .bool (clipC z)])
theorem clip_in {z : Int} (h : I64 z) : clipV z = z ∧ clipC z = false := by
  unfold I64 at h
  unfold clipV clipC
  exact ⟨by rw [if_neg (by omega), if_neg (by omega)], df (by omega)⟩

theorem f_fclip (F : Nat) {z : Int} (h : W128 z) : f_fix_clip F (hi z) (lo z) = some (cp z) := by
  unfold f_fix_clip
  obtain ⟨h1, h2, h3⟩ := a_Clip F h
  refine bp h1 ?_
  rw [h2, h3]
theorem a_fclip (F : Nat) {z : Int} (h : W128 z) : ok_fix_clip F (hi z) (lo z) = true ∧ o_fix_clip_0 F (hi z) (lo z) = clipV z ∧ o_fix_clip_1 F (hi z) (lo z) = clipC z := k_fix_clip F _ _ (f_fclip F h)
theorem f_rclip2 (F : Nat) {z : Int} (h : W128 z) : f_ref02_clip F (hi z) (lo z) = some (cp z) := by
  unfold f_ref02_clip
  obtain ⟨h1, h2, h3⟩ := a_rClip F h
  refine bp h1 ?_
  rw [h2, h3]
theorem a_rclip2 (F : Nat) {z : Int} (h : W128 z) : ok_ref02_clip F (hi z) (lo z) = true ∧ o_ref02_clip_0 F (hi z) (lo z) = clipV z ∧ o_ref02_clip_1 F (hi z) (lo z) = clipC z := k_ref02_clip F _ _ (f_rclip2 F h)
theorem f_fof (F : Nat) {n : Int} (h : I64 n) : f_fix_of F n = some (wd n) := by
  unfold f_fix_of
  obtain ⟨h1, h2, h3⟩ := a_Of F h
  refine bp h1 ?_
  rw [h2, h3]; rfl
theorem a_fof (F : Nat) {n : Int} (h : I64 n) : ok_fix_of F n = true ∧ o_fix_of_0 F n = hi n ∧ o_fix_of_1 F n = lo n := k_fix_of F _ (f_fof F h)

theorem f_fAdd (F : Nat) {a b : Int} (ha : I64 a) (hb : I64 b) : f_fix_Add F a b = some (cp (a + b)) := by
  unfold f_fix_Add
  dsimp only
  have hs := wi64_I (a + b)
  have e := wi64 (a + b)
  generalize IntKind.wrap .i64 (a + b) = s at *
  have h1 := and_neg (xorI_I a s) (xorI_I b s)
  have h2 := xor_neg ha hs
  have h3 := xor_neg hb hs
  unfold I64 at ha hb hs
  by_cases h : -9223372036854775808 ≤ a + b ∧ a + b < 9223372036854775808
  · refine bp (dt ?_) (some_clip ?_ ?_)
    · have : ¬ andI .i64 (xorI .i64 a s) (xorI .i64 b s) < 0 := by
        rw [h1, h2, h3]; omega
      omega
    · rw [(clip_in h).1]; omega
    · rw [(clip_in h).2]
  · refine bn (df ?_) ?_
    · have : andI .i64 (xorI .i64 a s) (xorI .i64 b s) < 0 := by
        rw [h1, h2, h3]; omega
      omega
    · by_cases ha0 : a < 0
      · refine bp (dt ha0) (some_clip ?_ ?_)
        · unfold clipV; rw [if_pos (by omega)]
        · unfold clipC; exact (dt (by omega)).symm
      · refine bn (df ha0) (some_clip ?_ ?_)
        · unfold clipV; rw [if_neg (by omega), if_pos (by omega)]
        · unfold clipC; exact (dt (by omega)).symm
theorem a_fAdd (F : Nat) {a b : Int} (ha : I64 a) (hb : I64 b) : ok_fix_Add F a b = true ∧ o_fix_Add_0 F a b = clipV (a + b) ∧ o_fix_Add_1 F a b = clipC (a + b) := k_fix_Add F _ _ (f_fAdd F ha hb)
theorem f_fClamp (F : Nat) {a l h : Int} : f_fix_Clamp F a l h = some (.v (.tuple #[.int .i64 (if h < l then l else min (max a l) h), .bool (if h < l then true else decide (min (max a l) h ≠ a))])) := by
  unfold f_fix_Clamp
  dsimp only
  by_cases hl : h < l
  · refine bp (dt hl) ?_
    rw [if_pos hl, if_pos hl]
  · refine bn (df hl) ?_
    rw [if_neg hl, if_neg hl]
    have e : (if h < (if l > a then l else a) then h else (if l > a then l else a)) = min (max a l) h := by split <;> (try split) <;> omega
    have e2 : (min (max a l) h != a) = decide (min (max a l) h ≠ a) := by rw [Bool.eq_iff_iff]; simp
    rw [e, e2]
theorem f_rAdd2 (F : Nat) (hF : 200 ≤ F) {a b : Int} (ha : I64 a) (hb : I64 b) : f_ref02_Add F a b = some (cp (a + b)) := by
  unfold f_ref02_Add
  obtain ⟨h1, h2, h3⟩ := a_rOf F ha
  obtain ⟨g1, g2, g3⟩ := a_rOf F hb
  obtain ⟨s1, s2, s3⟩ := a_rAdd F hF a b
  obtain ⟨c1, c2, c3⟩ := a_rclip2 F (z := a + b) (by unfold I64 at *; unfold W128; omega)
  refine bp h1 (bp g1 ?_)
  rw [h2, h3, g2, g3]
  refine bp s1 ?_
  rw [s2, s3]
  refine bp c1 ?_
  rw [c2, c3]
end Go.Xv
namespace Go.Xv
theorem f_vec_each' (F : Nat) (hF : 200 ≤ F) {a0 a1 a2 a3 : Int} {v0 v1 v2 : Int} {c0 c1 c2 : Bool} (h0 : ok_vec_Clamp_1 F 0 a0 a1 a2 a3 = true ∧ o_vec_Clamp_1_0 F 0 a0 a1 a2 a3 = v0 ∧ o_vec_Clamp_1_1 F 0 a0 a1 a2 a3 = c0) (h1 : ok_vec_Clamp_1 F 1 a0 a1 a2 a3 = true ∧ o_vec_Clamp_1_0 F 1 a0 a1 a2 a3 = v1 ∧ o_vec_Clamp_1_1 F 1 a0 a1 a2 a3 = c1) (h2 : ok_vec_Clamp_1 F 2 a0 a1 a2 a3 = true ∧ o_vec_Clamp_1_0 F 2 a0 a1 a2 a3 = v2 ∧ o_vec_Clamp_1_1 F 2 a0 a1 a2 a3 = c2) :
    f_vec_each F a0 a1 a2 a3 = some (.v (.tuple #[.agg #[.int .i64 v0, .int .i64 v1, .int .i64 v2], .bool (c0 || c1 || c2)])) := by
  obtain ⟨a1, a2, a3⟩ := h0
  obtain ⟨b1, b2, b3⟩ := h1
  obtain ⟨d1, d2, d3⟩ := h2
  obtain ⟨G, hG⟩ : ∃ G, F = G + 4 := ⟨F - 4, by omega⟩
  have w1 : IntKind.wrap .i64 (0 + 1) = 1 := by decide
  have w2 : IntKind.wrap .i64 (1 + 1) = 2 := by decide
  have w3 : IntKind.wrap .i64 (2 + 1) = 3 := by decide
  unfold f_vec_each
  rw [show L_vec_each_0 F _ F = L_vec_each_0 F _ (G + 4) from congrArg (L_vec_each_0 F _) hG, L_vec_each_0]
  unfold B_vec_each_0
  refine bp rfl (bp a1 (bn rfl (bp rfl (bp rfl ?_))))
  rw [a2, a3, w1, L_vec_each_0]
  unfold B_vec_each_0
  refine bp rfl (bp b1 ?_)
  rw [b2, b3, w2]
  cases c0
  · refine bn rfl (bp rfl (bp rfl ?_))
    rw [L_vec_each_0]
    unfold B_vec_each_0
    refine bp rfl (bp d1 ?_)
    rw [d2, d3, w3]
    cases c1
    · refine bn rfl (bp rfl (bp rfl ?_))
      rw [L_vec_each_0]
      unfold B_vec_each_0
      exact bn rfl (bp rfl rfl)
    · refine bp rfl (bp rfl (bp rfl ?_))
      rw [L_vec_each_0]
      unfold B_vec_each_0
      exact bn rfl (bp rfl rfl)
  · refine bp rfl (bp rfl (bp rfl ?_))
    rw [L_vec_each_0]
    unfold B_vec_each_0
    refine bp rfl (bp d1 ?_)
    rw [d2, w3]
    refine bp rfl (bp rfl (bp rfl ?_))
    rw [L_vec_each_0]
    unfold B_vec_each_0
    exact bn rfl (bp rfl (by rw [Bool.true_or, Bool.true_or]; rfl))
end Go.Xv
namespace Go.Xv
def clmV (a m : Int) : Int := min (max a (-m)) m
def clmC (a m : Int) : Bool := decide (min (max a (-m)) m ≠ a)
theorem w_neg {m : Int} (hm : 0 ≤ m ∧ m ≤ 9223372036854775807) : IntKind.wrap .i64 (0 - m) = -m := by rw [wi64_in (by unfold I64; omega), Int.zero_sub]
theorem clampF (F : Nat) {a m : Int} (hm : 0 ≤ m) : ok_fix_Clamp F a (-m) m = true ∧ o_fix_Clamp_0 F a (-m) m = clmV a m ∧ o_fix_Clamp_1 F a (-m) m = clmC a m := by
  obtain ⟨h1, h2, h3⟩ := k_fix_Clamp F _ _ _ (f_fClamp F (a := a) (l := -m) (h := m))
  rw [if_neg (by omega)] at h2 h3
  exact ⟨h1, h2, h3⟩
theorem a_Clamp_0 (F : Nat) {a0 a1 a2 m : Int} (hm : 0 ≤ m ∧ m ≤ 9223372036854775807) : ok_vec_Clamp_1 F 0 a0 a1 a2 m = true ∧ o_vec_Clamp_1_0 F 0 a0 a1 a2 m = clmV a0 m ∧ o_vec_Clamp_1_1 F 0 a0 a1 a2 m = clmC a0 m := by
  refine k_vec_Clamp_1 F _ _ _ _ _ ?_
  unfold f_vec_Clamp_1
  rw [w_neg hm]
  obtain ⟨h1, h2, h3⟩ := clampF F (a := a0) hm.1
  refine bp rfl (bp rfl (bp h1 ?_))
  exact congrArg some (show VV.v (.tuple #[.int .i64 (o_fix_Clamp_0 F a0 (-m) m), .bool (o_fix_Clamp_1 F a0 (-m) m)]) = _ by rw [h2, h3])
theorem a_Clamp_1 (F : Nat) {a0 a1 a2 m : Int} (hm : 0 ≤ m ∧ m ≤ 9223372036854775807) : ok_vec_Clamp_1 F 1 a0 a1 a2 m = true ∧ o_vec_Clamp_1_0 F 1 a0 a1 a2 m = clmV a1 m ∧ o_vec_Clamp_1_1 F 1 a0 a1 a2 m = clmC a1 m := by
  refine k_vec_Clamp_1 F _ _ _ _ _ ?_
  unfold f_vec_Clamp_1
  rw [w_neg hm]
  obtain ⟨h1, h2, h3⟩ := clampF F (a := a1) hm.1
  refine bp rfl (bp rfl (bp h1 ?_))
  exact congrArg some (show VV.v (.tuple #[.int .i64 (o_fix_Clamp_0 F a1 (-m) m), .bool (o_fix_Clamp_1 F a1 (-m) m)]) = _ by rw [h2, h3])
theorem a_Clamp_2 (F : Nat) {a0 a1 a2 m : Int} (hm : 0 ≤ m ∧ m ≤ 9223372036854775807) : ok_vec_Clamp_1 F 2 a0 a1 a2 m = true ∧ o_vec_Clamp_1_0 F 2 a0 a1 a2 m = clmV a2 m ∧ o_vec_Clamp_1_1 F 2 a0 a1 a2 m = clmC a2 m := by
  refine k_vec_Clamp_1 F _ _ _ _ _ ?_
  unfold f_vec_Clamp_1
  rw [w_neg hm]
  obtain ⟨h1, h2, h3⟩ := clampF F (a := a2) hm.1
  refine bp rfl (bp rfl (bp h1 ?_))
  exact congrArg some (show VV.v (.tuple #[.int .i64 (o_fix_Clamp_0 F a2 (-m) m), .bool (o_fix_Clamp_1 F a2 (-m) m)]) = _ by rw [h2, h3])
theorem hl0 : hi 0 = 0 ∧ lo 0 = 0 := by decide
theorem mx0 {a : Int} : (if 0 > a then 0 else a) = max a 0 := by split <;> omega
theorem a_vClamp (F : Nat) (hF : 200 ≤ F) {a0 a1 a2 a3 : Int} (h3 : I64 a3) : ok_vec_Clamp F a0 a1 a2 a3 = true ∧ o_vec_Clamp_0 F a0 a1 a2 a3 = clmV a0 (max a3 0) ∧ o_vec_Clamp_1 F a0 a1 a2 a3 = clmV a1 (max a3 0) ∧ o_vec_Clamp_2 F a0 a1 a2 a3 = clmV a2 (max a3 0) ∧ o_vec_Clamp_3 F a0 a1 a2 a3 = (clmC a0 (max a3 0) || clmC a1 (max a3 0) || clmC a2 (max a3 0)) := by
  refine k_vec_Clamp F _ _ _ _ ?_
  unfold f_vec_Clamp
  rw [mx0]
  have hm : 0 ≤ max a3 0 ∧ max a3 0 ≤ 9223372036854775807 := by unfold I64 at h3; omega
  obtain ⟨e1, e2, e3, e4, e5⟩ := k_vec_each F _ _ _ _ (f_vec_each' F hF (a_Clamp_0 F hm) (a_Clamp_1 F hm) (a_Clamp_2 F hm))
  refine bp e1 ?_
  rw [e2, e3, e4, e5]
theorem rClampF (F : Nat) {a m : Int} (hm : 0 ≤ m) : ok_ref02_Clamp F a (-m) m = true ∧ o_ref02_Clamp_0 F a (-m) m = clmV a m ∧ o_ref02_Clamp_1 F a (-m) m = clmC a m := by
  refine k_ref02_Clamp F _ _ _ ?_
  unfold f_ref02_Clamp clmV clmC
  have cong : ∀ {n z : Int} {c d : Bool}, n = z → c = d → (some (VV.v (.tuple #[.int .i64 n, .bool c])) : R) = some (.v (.tuple #[.int .i64 z, .bool d])) := by intro n z c d h k; rw [h, k]
  refine bn (df (by omega)) ?_
  by_cases h1 : a > m
  · refine bp (dt h1) (bn (df (by omega)) (cong (by omega) ?_))
    rw [show min (max a (-m)) m = m by omega, Bool.eq_iff_iff]
    simp
  · refine bn (df h1) ?_
    by_cases h2 : a < -m
    · refine bp (dt h2) (cong (by omega) ?_)
      rw [show min (max a (-m)) m = -m by omega, Bool.eq_iff_iff]
      simp
    · refine bn (df h2) (cong (by omega) ?_)
      rw [show min (max a (-m)) m = a by omega]
      simp
end Go.Xv
namespace Go.Xv
structure Cx where
  re : Rat
  im : Rat
namespace Cx
def add (a b : Cx) : Cx := ⟨a.re + b.re, a.im + b.im⟩
def sub (a b : Cx) : Cx := ⟨a.re - b.re, a.im - b.im⟩
def n2 (a : Cx) : Rat := a.re * a.re + a.im * a.im
theorem eqC {a b : Cx} (h1 : a.re = b.re) (h2 : a.im = b.im) : a = b := by cases a; cases b; simp_all
theorem sq_nn (a : Rat) : 0 ≤ a * a := by
  rcases Rat.le_total (a := 0) (b := a) with h | h
  · exact Rat.mul_nonneg h h
  · have := Rat.mul_nonneg (a := -a) (b := -a) (by grind) (by grind)
    grind
theorem n2_nn (a : Cx) : 0 ≤ n2 a := by
  have := sq_nn a.re
  have := sq_nn a.im
  simp only [n2]; grind
theorem le_of_sq {x y : Rat} (hy : 0 ≤ y) (h : x * x ≤ y * y) : x ≤ y := by
  rcases Rat.le_total (a := x) (b := y) with hx | hx
  · exact hx
  · by_cases he : x = y
    · grind
    · have hlt : 0 < x - y := by grind
      have h0 : 0 < x := by grind
      have h1 := Rat.mul_pos hlt h0
      have h2 := Rat.mul_nonneg (Rat.le_of_lt hlt) hy
      grind
/-- not longer than -/
def Nm (a : Cx) (e : Rat) : Prop := 0 ≤ e ∧ n2 a ≤ e * e
theorem Nm.add {a b : Cx} {e f : Rat} (h : Nm a e) (k : Nm b f) : Nm (add a b) (e + f) := by
  obtain ⟨h1, h2⟩ := h
  obtain ⟨k1, k2⟩ := k
  refine ⟨by grind, ?_⟩
  have hd : a.re * b.re + a.im * b.im ≤ e * f := by
    refine le_of_sq (Rat.mul_nonneg h1 k1) ?_
    have e1 := sq_nn (a.re * b.im - a.im * b.re)
    have e2 : (a.re * b.re + a.im * b.im) * (a.re * b.re + a.im * b.im) + (a.re * b.im - a.im * b.re) * (a.re * b.im - a.im * b.re) = n2 a * n2 b := by simp only [n2]; grind
    have e3 : n2 a * n2 b ≤ (e * e) * n2 b := Rat.mul_le_mul_of_nonneg_right h2 (n2_nn b)
    have e4 : (e * e) * n2 b ≤ (e * e) * (f * f) := Rat.mul_le_mul_of_nonneg_left k2 (sq_nn e)
    grind
  simp only [Cx.add, n2] at *
  grind
theorem Nm.trans {a b c : Cx} {e f : Rat} (h : Nm (sub a b) e) (k : Nm (sub b c) f) : Nm (sub a c) (e + f) := by
  have := h.add k
  have e : Cx.add (sub a b) (sub b c) = sub a c := by apply eqC <;> simp only [Cx.add, sub] <;> grind
  rwa [e] at this
end Cx
end Go.Xv
namespace Go.Xv
namespace Cx
def wA : Rat := 1329227995784915872903807060280344576
def wB : Rat := 972275833250902676855126013
def w : Cx := ⟨(wA * wA - wB * wB) / (wA * wA + wB * wB), 2 * wA * wB / (wA * wA + wB * wB)⟩
def q : Rat := 340282366920938463463374607431768211456
theorem q0 : (0 : Rat) < q := by decide +kernel
def r : Rat := 1 / q
theorem r0 : (0 : Rat) < r := by decide +kernel
def w0 : Int := 340282366920938463099250474440462542326
def w1 : Int := 497805226624462170283482630030
end Cx
end Go.Xv
namespace Go.Xv
namespace Cx
def hp (i : Nat) : Rat := 1 / 2 ^ i
def dt (i : Nat) (o : Bool) : Int := if o then tA i else -tA i
end Cx
end Go.Xv
namespace Go.Xv
def RuleOK (g s l h : Int) : Prop := 0 ≤ g ∧ g ≤ 16 ∧ 0 ≤ s ∧ 0 ≤ l ∧ 1 ≤ h ∧ h ≤ 65535
instance (g s l h : Int) : Decidable (RuleOK g s l h) := by unfold RuleOK; infer_instance
def CorrOK (l c0 c1 c2 t : Int) : Prop := (0 ≤ t ∧ t ≤ 1099511627776) ∧ (-l ≤ c0 ∧ c0 ≤ l) ∧ (-l ≤ c1 ∧ c1 ≤ l) ∧ (-l ≤ c2 ∧ c2 ≤ l)
instance (l c0 c1 c2 t : Int) : Decidable (CorrOK l c0 c1 c2 t) := by unfold CorrOK; infer_instance
def errV (p : Prop) [Decidable p] : Int := if p then 0 else 2
theorem some_err {p : Prop} [Decidable p] (h : p) : (some (VV.v (.int .i64 0)) : R) = some (.v (.int .i64 (errV p))) := by unfold errV; rw [if_pos h]
theorem some_no {p : Prop} [Decidable p] (h : ¬ p) : (some (VV.v (.int .i64 2)) : R) = some (.v (.int .i64 (errV p))) := by unfold errV; rw [if_neg h]
theorem err_ok {p : Prop} [Decidable p] (h : p) : errV p = 0 := if_pos h
theorem err_no {p : Prop} [Decidable p] (h : ¬ p) : errV p = 2 := if_neg h

theorem a_fCheck (F : Nat) (g s l h : Int) : ok_fuse_Check F g s l h = true ∧ o_fuse_Check_0 F g s l h = errV (RuleOK g s l h) := by
  refine k_fuse_Check F _ _ _ _ ?_
  unfold f_fuse_Check
  by_cases h1 : g < 0
  · exact bp (dt h1) (some_no (by unfold RuleOK; omega))
  refine bn (df h1) ?_
  by_cases h2 : g > 16
  · exact bp (dt h2) (some_no (by unfold RuleOK; omega))
  refine bn (df h2) ?_
  by_cases h3 : s < 0
  · exact bp (dt h3) (some_no (by unfold RuleOK; omega))
  refine bn (df h3) ?_
  by_cases h4 : l < 0
  · exact bp (dt h4) (some_no (by unfold RuleOK; omega))
  refine bn (df h4) ?_
  by_cases h5 : h < 1
  · exact bp (dt h5) (some_no (by unfold RuleOK; omega))
  refine bn (df h5) ?_
  by_cases h6 : h > 65535
  · exact bp (dt h6) (some_no (by unfold RuleOK; omega))
  exact bn (df h6) (some_err (by unfold RuleOK; omega))

theorem a_rCheck (F : Nat) (g s l h : Int) : ok_ref28_Check F g s l h = true ∧ o_ref28_Check_0 F g s l h = errV (RuleOK g s l h) := by
  refine k_ref28_Check F _ _ _ _ ?_
  unfold f_ref28_Check
  by_cases h1 : g < 0
  · exact bp (dt h1) (some_no (by unfold RuleOK; omega))
  refine bn (df h1) ?_
  by_cases h2 : g > 16
  · exact bp (dt h2) (some_no (by unfold RuleOK; omega))
  refine bn (df h2) ?_
  by_cases h3 : s < 0
  · exact bp (dt h3) (some_no (by unfold RuleOK; omega))
  refine bn (df h3) ?_
  by_cases h4 : l < 0
  · exact bp (dt h4) (some_no (by unfold RuleOK; omega))
  refine bn (df h4) ?_
  by_cases h5 : h < 1
  · exact bp (dt h5) (some_no (by unfold RuleOK; omega))
  refine bn (df h5) ?_
  by_cases h6 : h > 65535
  · exact bp (dt h6) (some_no (by unfold RuleOK; omega))
  exact bn (df h6) (some_err (by unfold RuleOK; omega))

theorem a_tick (F : Nat) (t : Int) : ok_fuse_tick F t = true ∧ o_fuse_tick_0 F t = decide (0 ≤ t ∧ t ≤ 1099511627776) := by
  refine k_fuse_tick F _ ?_
  unfold f_fuse_tick
  by_cases h : t ≥ 0
  · exact bp (dt h) (some_bool (decide_eq_decide.2 (by omega)))
  · exact bn (df h) (some_bool (df (by omega)).symm)
theorem clmC_iff {a l : Int} : clmC a l = false ↔ -l ≤ a ∧ a ≤ l ∨ (l < 0 ∧ min (max a (-l)) l = a) := by
  unfold clmC
  simp only [decide_eq_false_iff_not, ne_eq, Classical.not_not]
  omega
theorem a_fRight (F : Nat) (hF : 200 ≤ F) {g s l h c0 c1 c2 t : Int} (hl : I64 l) : ok_fuse_Right F g s l h c0 c1 c2 t = true ∧ o_fuse_Right_0 F g s l h c0 c1 c2 t = errV (RuleOK g s l h ∧ CorrOK l c0 c1 c2 t) := by
  refine k_fuse_Right F _ _ _ _ _ _ _ _ ?_
  unfold f_fuse_Right
  obtain ⟨k1, k2⟩ := a_fCheck F g s l h
  obtain ⟨t1, t2⟩ := a_tick F t
  refine bp k1 ?_
  rw [k2]
  by_cases hr : RuleOK g s l h
  · rw [err_ok hr]
    refine bn rfl (bp t1 ?_)
    rw [t2]
    by_cases ht : 0 ≤ t ∧ t ≤ 1099511627776
    · rw [dt ht]
      obtain ⟨v1, v2, v3, v4, v5⟩ := a_vClamp F hF (a0 := c0) (a1 := c1) (a2 := c2) hl
      refine bn rfl (bp v1 ?_)
      rw [v5]
      have hl0 : max l 0 = l := by unfold RuleOK at hr; omega
      rw [hl0]
      have h0 : 0 ≤ l := by unfold RuleOK at hr; omega
      by_cases hc : (-l ≤ c0 ∧ c0 ≤ l) ∧ (-l ≤ c1 ∧ c1 ≤ l) ∧ (-l ≤ c2 ∧ c2 ≤ l)
      · rw [clmC_iff.2 (.inl hc.1), clmC_iff.2 (.inl hc.2.1), clmC_iff.2 (.inl hc.2.2)]
        exact bn rfl (some_err ⟨hr, ht, hc⟩)
      · refine bp ?_ (some_no fun h => hc h.2.2)
        cases e0 : clmC c0 l
        · cases e1 : clmC c1 l
          · cases e2 : clmC c2 l
            · exfalso
              have := clmC_iff.1 e0
              have := clmC_iff.1 e1
              have := clmC_iff.1 e2
              omega
            · rfl
          · rfl
        · rfl
    · rw [df ht]
      exact bp rfl (some_no fun h => ht h.2.1)
  · rw [err_no hr]
    exact bp rfl (some_no fun h => hr h.1)
theorem a_fmay (F : Nat) (hF : 200 ≤ F) {g s l h c0 c1 c2 la t : Int} (hl : I64 l) : ok_fuse_may F g s l h c0 c1 c2 la t = true ∧ o_fuse_may_0 F g s l h c0 c1 c2 la t = decide (RuleOK g s l h ∧ CorrOK l c0 c1 c2 la ∧ la ≤ t ∧ t ≤ 1099511627776) := by
  refine k_fuse_may F _ _ _ _ _ _ _ _ _ ?_
  unfold f_fuse_may
  obtain ⟨k1, k2⟩ := a_fRight F hF (g := g) (s := s) (h := h) (c0 := c0) (c1 := c1) (c2 := c2) (t := la) hl
  obtain ⟨t1, t2⟩ := a_tick F t
  refine bp k1 ?_
  rw [k2]
  by_cases hr : RuleOK g s l h ∧ CorrOK l c0 c1 c2 la
  · rw [err_ok hr]
    refine bp rfl ?_
    by_cases hle : t ≥ la
    · refine bp (dt hle) (bp t1 ?_)
      rw [t2]
      refine some_bool (decide_eq_decide.2 ?_)
      have := hr.2.1
      constructor
      · intro h; exact ⟨hr.1, hr.2, hle, h.2⟩
      · intro h; exact ⟨by omega, h.2.2.2⟩
    · exact bn (df hle) (some_bool (df fun h => hle h.2.2.1).symm)
  · rw [err_no hr]
    exact bn rfl (some_bool (df fun h => hr ⟨h.1, h.2.1⟩).symm)
def pullV (g s l c off : Int) : Int := clmV (clipV (c + clmV (off / 2 ^ g.toNat) s)) l
def fadeV (s c : Int) : Int := if 0 < c then max (c - s) 0 else min (c + s) 0
theorem cm_I {a m : Int} (h0 : 0 ≤ m) (h1 : m ≤ 9223372036854775807) : I64 (clmV a m) := by unfold clmV I64; omega
theorem div2_I {a : Int} (ha : I64 a) (n : Nat) : I64 (a / 2 ^ n) := by
  unfold I64 at *
  have h2 : (1 : Int) ≤ 2 ^ n := by have h3 : (0 : Int) < 2 ^ n := Int.pow_pos (by decide); omega
  refine ⟨?_, ?_⟩
  · refine (Int.le_ediv_iff_mul_le (by omega)).2 ?_
    have := Int.mul_le_mul_of_nonneg_left h2 (show (0 : Int) ≤ 9223372036854775808 by omega)
    omega
  · refine Int.ediv_lt_of_lt_mul (by omega) ?_
    have := Int.mul_le_mul_of_nonneg_left h2 (show (0 : Int) ≤ 9223372036854775808 by omega)
    omega
theorem I_W {z : Int} (h : I64 z) : W128 z := by unfold I64 at h; unfold W128; omega
theorem neg_in {g : Int} (h0 : 0 ≤ g) (h1 : g ≤ 9223372036854775807) : IntKind.wrap .i64 (0 - g) = -g := by rw [wi64_in (by unfold I64; omega)]; omega
theorem a_fShift (F : Nat) {a g : Int} (ha : I64 a) (h0 : 0 ≤ g) (h1 : g ≤ 16) : ok_fix_Shift F a (-g) = true ∧ o_fix_Shift_0 F a (-g) = a / 2 ^ g.toNat ∧ o_fix_Shift_1 F a (-g) = false := by
  refine k_fix_Shift F _ _ ?_
  unfold f_fix_Shift
  dsimp only
  by_cases hg : g = 0
  · subst hg
    obtain ⟨f1, f2, f3⟩ := a_fof F ha
    refine bp (dt (by omega)) (bp f1 ?_)
    rw [f2, f3, if_neg (by omega)]
    obtain ⟨l1, l2, l3⟩ := a_Left F a (-0)
    refine bp l1 ?_
    rw [l2, l3]
    have e : a * 2 ^ (-0 : Int).toNat = a := by simp
    rw [e]
    obtain ⟨c1, c2, c3⟩ := a_fclip F (I_W ha)
    refine bp c1 ?_
    rw [c2, c3, (clip_in ha).1, (clip_in ha).2]
    have e2 : a / 2 ^ (0 : Int).toNat = a := by simp
    rw [e2]
  · refine bn (df (by omega)) ?_
    rw [if_neg (show ¬ (-64 : Int) > -g by omega)]
    have e : IntKind.wrap .i64 (0 - -g) = g := by rw [wi64_in (by unfold I64; omega)]; omega
    rw [e, if_pos (by omega)]
    refine bp (by rw [df (by omega)]; rfl) ?_
    have e2 : min (Int.toNat g) 64 = g.toNat := by omega
    rw [e2]
    refine congrArg some (congrArg VV.v ?_)
    have e3 : a.fdiv (2 ^ g.toNat) = a / 2 ^ g.toNat := by
      rw [Int.fdiv_eq_ediv_of_nonneg]
      have h3 : (0 : Int) < 2 ^ g.toNat := Int.pow_pos (by decide)
      omega
    rw [e3]
theorem a_r2Shift (F : Nat) (hF : 200 ≤ F) {a g : Int} (ha : I64 a) (h0 : 0 ≤ g) (h1 : g ≤ 16) : ok_ref02_Shift F a (-g) = true ∧ o_ref02_Shift_0 F a (-g) = a / 2 ^ g.toNat ∧ o_ref02_Shift_1 F a (-g) = false := by
  refine k_ref02_Shift F _ _ ?_
  unfold f_ref02_Shift
  dsimp only
  obtain ⟨f1, f2, f3⟩ := a_rOf F ha
  by_cases hg : g = 0
  · subst hg
    refine bp (dt (by omega)) (bp f1 ?_)
    rw [f2, f3, if_neg (by omega)]
    obtain ⟨l1, l2, l3⟩ := a_rLeft F hF a (-0)
    refine bp l1 ?_
    rw [l2, l3]
    have e : a * 2 ^ (-0 : Int).toNat = a := by simp
    rw [e]
    obtain ⟨c1, c2, c3⟩ := a_rclip2 F (I_W ha)
    refine bp c1 ?_
    rw [c2, c3, (clip_in ha).1, (clip_in ha).2]
    have e2 : a / 2 ^ (0 : Int).toNat = a := by simp
    rw [e2]
  · refine bn (df (by omega)) (bp f1 ?_)
    rw [f2, f3, if_neg (show ¬ (-127 : Int) > -g by omega)]
    have e : IntKind.wrap .i64 (0 - -g) = g := by rw [wi64_in (by unfold I64; omega)]; omega
    rw [e, if_pos (by omega)]
    obtain ⟨l1, l2, l3⟩ := a_rRight F hF g (I_W ha)
    have e2 : cl g = g.toNat := by unfold cl; omega
    rw [e2] at l2 l3
    refine bp l1 ?_
    rw [l2, l3]
    obtain ⟨c1, c2, c3⟩ := a_rclip2 F (I_W (div2_I ha g.toNat))
    refine bp c1 ?_
    rw [c2, c3, (clip_in (div2_I ha _)).1, (clip_in (div2_I ha _)).2]
theorem a_rAdd2 (F : Nat) (hF : 200 ≤ F) {a b : Int} (ha : I64 a) (hb : I64 b) : ok_ref02_Add F a b = true ∧ o_ref02_Add_0 F a b = clipV (a + b) ∧ o_ref02_Add_1 F a b = clipC (a + b) := k_ref02_Add F _ _ (f_rAdd2 F hF ha hb)
theorem a_pulled (F : Nat) {g s l h c off : Int} (hr : RuleOK g s l h) (hs : I64 s) (hl : I64 l) (hc : I64 c) (ho : I64 off) : ok_fuse_Rule_pulled F g s l h c off = true ∧ o_fuse_Rule_pulled_0 F g s l h c off = pullV g s l c off := by
  refine k_fuse_Rule_pulled F _ _ _ _ _ _ ?_
  unfold f_fuse_Rule_pulled
  dsimp only
  obtain ⟨r1, r2, r3, r4, _, _⟩ := hr
  have hs2 : s ≤ 9223372036854775807 := by unfold I64 at hs; omega
  have hl2 : l ≤ 9223372036854775807 := by unfold I64 at hl; omega
  rw [neg_in r1 (by omega), neg_in r3 hs2, neg_in r4 hl2]
  obtain ⟨a1, a2, _⟩ := a_fShift F ho r1 r2
  refine bp a1 ?_
  rw [a2]
  obtain ⟨b1, b2, _⟩ := clampF F (a := off / 2 ^ g.toNat) r3
  refine bp b1 ?_
  rw [b2]
  obtain ⟨c1, c2, _⟩ := a_fAdd F hc (cm_I (a := off / 2 ^ g.toNat) r3 hs2)
  refine bp c1 ?_
  rw [c2]
  obtain ⟨d1, d2, _⟩ := clampF F (a := clipV (c + clmV (off / 2 ^ g.toNat) s)) r4
  refine bp d1 ?_
  rw [d2]
  rfl
theorem a_faded (F : Nat) {g s l h c off : Int} (hs0 : 0 ≤ s) (hs : I64 s) (hc : I64 c) : ok_fuse_Rule_faded F g s l h c off = true ∧ o_fuse_Rule_faded_0 F g s l h c off = fadeV s c := by
  refine k_fuse_Rule_faded F _ _ _ _ _ _ ?_
  unfold f_fuse_Rule_faded fadeV
  dsimp only
  unfold I64 at *
  by_cases h : c > 0
  · refine bp (dt h) ?_
    rw [wi64_in (by unfold I64; omega), if_pos h]
    exact some_int (by split <;> omega)
  · refine bn (df h) ?_
    rw [wi64_in (by unfold I64; omega), if_neg h]
    exact some_int (by split <;> omega)
def axV (n k p c : Int) : Int := if k < n then p else c
theorem f_fuse_each_0 (F : Nat) (hF : 200 ≤ F) {g s l h c0 c1 c2 o0 o1 o2  : Int}  :
    f_fuse_each F g s l h c0 c1 c2 o0 o1 o2 0 = some (.v (.agg #[.int .i64 c0, .int .i64 c1, .int .i64 c2])) := by
  obtain ⟨G, hG⟩ : ∃ G, F = G + 4 := ⟨F - 4, by omega⟩
  have w0 : IntKind.wrap .i64 (0 + 1) = 1 := by decide
  have w1 : IntKind.wrap .i64 (1 + 1) = 2 := by decide
  have w2 : IntKind.wrap .i64 (2 + 1) = 3 := by decide
  unfold f_fuse_each
  rw [show L_fuse_each_0 F _ F = L_fuse_each_0 F _ (G + 4) from congrArg (L_fuse_each_0 F _) hG]
  rw [L_fuse_each_0]
  unfold B_fuse_each_0
  dsimp only
  refine bp rfl (bp rfl (bp rfl (bp rfl (bn rfl ?_))))
  rw [show (iv [VV.v (.int .i64 c0), .v (.int .i64 c1), .v (.int .i64 c2)][Int.toNat 0 * 1]?) = c0 from rfl, w0]
  rw [L_fuse_each_0]
  unfold B_fuse_each_0
  dsimp only
  refine bp rfl (bp rfl (bp rfl (bp rfl (bn rfl ?_))))
  rw [show (iv [VV.v (.int .i64 c0), .v (.int .i64 c1), .v (.int .i64 c2)][Int.toNat 1 * 1]?) = c1 from rfl, w1]
  rw [L_fuse_each_0]
  unfold B_fuse_each_0
  dsimp only
  refine bp rfl (bp rfl (bp rfl (bp rfl (bn rfl ?_))))
  rw [show (iv [VV.v (.int .i64 c0), .v (.int .i64 c1), .v (.int .i64 c2)][Int.toNat 2 * 1]?) = c2 from rfl, w2]
  rw [L_fuse_each_0]
  unfold B_fuse_each_0
  dsimp only
  refine bn rfl (bp rfl rfl)
theorem f_fuse_each_1 (F : Nat) (hF : 200 ≤ F) {g s l h c0 c1 c2 o0 o1 o2 q0 : Int} (p0 : ok_fuse_Rule_pulled F g s l h c0 o0 = true ∧ o_fuse_Rule_pulled_0 F g s l h c0 o0 = q0) :
    f_fuse_each F g s l h c0 c1 c2 o0 o1 o2 1 = some (.v (.agg #[.int .i64 q0, .int .i64 c1, .int .i64 c2])) := by
  obtain ⟨G, hG⟩ : ∃ G, F = G + 4 := ⟨F - 4, by omega⟩
  have w0 : IntKind.wrap .i64 (0 + 1) = 1 := by decide
  have w1 : IntKind.wrap .i64 (1 + 1) = 2 := by decide
  have w2 : IntKind.wrap .i64 (2 + 1) = 3 := by decide
  unfold f_fuse_each
  rw [show L_fuse_each_0 F _ F = L_fuse_each_0 F _ (G + 4) from congrArg (L_fuse_each_0 F _) hG]
  rw [L_fuse_each_0]
  unfold B_fuse_each_0
  dsimp only
  refine bp rfl (bp rfl (bp rfl (bp rfl (bp rfl (bp rfl (bp rfl (bp p0.1 (bp rfl (bp rfl ?_)))))))))
  rw [show (iv [VV.v (.int .i64 c0), .v (.int .i64 c1), .v (.int .i64 c2)][Int.toNat 0 * 1]?) = c0 from rfl, show (iv [VV.v (.int .i64 o0), .v (.int .i64 o1), .v (.int .i64 o2)][0 + Int.toNat 0 * 1]?) = o0 from rfl, p0.2, w0]
  rw [L_fuse_each_0]
  unfold B_fuse_each_0
  dsimp only
  refine bp rfl (bp rfl (bp rfl (bp rfl (bn rfl ?_))))
  rw [show (iv [VV.v (.int .i64 c0), .v (.int .i64 c1), .v (.int .i64 c2)][Int.toNat 1 * 1]?) = c1 from rfl, w1]
  rw [L_fuse_each_0]
  unfold B_fuse_each_0
  dsimp only
  refine bp rfl (bp rfl (bp rfl (bp rfl (bn rfl ?_))))
  rw [show (iv [VV.v (.int .i64 c0), .v (.int .i64 c1), .v (.int .i64 c2)][Int.toNat 2 * 1]?) = c2 from rfl, w2]
  rw [L_fuse_each_0]
  unfold B_fuse_each_0
  dsimp only
  refine bn rfl (bp rfl rfl)
theorem f_fuse_each_2 (F : Nat) (hF : 200 ≤ F) {g s l h c0 c1 c2 o0 o1 o2 q0 q1 : Int} (p0 : ok_fuse_Rule_pulled F g s l h c0 o0 = true ∧ o_fuse_Rule_pulled_0 F g s l h c0 o0 = q0) (p1 : ok_fuse_Rule_pulled F g s l h c1 o1 = true ∧ o_fuse_Rule_pulled_0 F g s l h c1 o1 = q1) :
    f_fuse_each F g s l h c0 c1 c2 o0 o1 o2 2 = some (.v (.agg #[.int .i64 q0, .int .i64 q1, .int .i64 c2])) := by
  obtain ⟨G, hG⟩ : ∃ G, F = G + 4 := ⟨F - 4, by omega⟩
  have w0 : IntKind.wrap .i64 (0 + 1) = 1 := by decide
  have w1 : IntKind.wrap .i64 (1 + 1) = 2 := by decide
  have w2 : IntKind.wrap .i64 (2 + 1) = 3 := by decide
  unfold f_fuse_each
  rw [show L_fuse_each_0 F _ F = L_fuse_each_0 F _ (G + 4) from congrArg (L_fuse_each_0 F _) hG]
  rw [L_fuse_each_0]
  unfold B_fuse_each_0
  dsimp only
  refine bp rfl (bp rfl (bp rfl (bp rfl (bp rfl (bp rfl (bp rfl (bp p0.1 (bp rfl (bp rfl ?_)))))))))
  rw [show (iv [VV.v (.int .i64 c0), .v (.int .i64 c1), .v (.int .i64 c2)][Int.toNat 0 * 1]?) = c0 from rfl, show (iv [VV.v (.int .i64 o0), .v (.int .i64 o1), .v (.int .i64 o2)][0 + Int.toNat 0 * 1]?) = o0 from rfl, p0.2, w0]
  rw [L_fuse_each_0]
  unfold B_fuse_each_0
  dsimp only
  refine bp rfl (bp rfl (bp rfl (bp rfl (bp rfl (bp rfl (bp rfl (bp p1.1 (bp rfl (bp rfl ?_)))))))))
  rw [show (iv [VV.v (.int .i64 c0), .v (.int .i64 c1), .v (.int .i64 c2)][Int.toNat 1 * 1]?) = c1 from rfl, show (iv [VV.v (.int .i64 o0), .v (.int .i64 o1), .v (.int .i64 o2)][0 + Int.toNat 1 * 1]?) = o1 from rfl, p1.2, w1]
  rw [L_fuse_each_0]
  unfold B_fuse_each_0
  dsimp only
  refine bp rfl (bp rfl (bp rfl (bp rfl (bn rfl ?_))))
  rw [show (iv [VV.v (.int .i64 c0), .v (.int .i64 c1), .v (.int .i64 c2)][Int.toNat 2 * 1]?) = c2 from rfl, w2]
  rw [L_fuse_each_0]
  unfold B_fuse_each_0
  dsimp only
  refine bn rfl (bp rfl rfl)
theorem f_fuse_each_3 (F : Nat) (hF : 200 ≤ F) {g s l h c0 c1 c2 o0 o1 o2 q0 q1 q2 : Int} (p0 : ok_fuse_Rule_pulled F g s l h c0 o0 = true ∧ o_fuse_Rule_pulled_0 F g s l h c0 o0 = q0) (p1 : ok_fuse_Rule_pulled F g s l h c1 o1 = true ∧ o_fuse_Rule_pulled_0 F g s l h c1 o1 = q1) (p2 : ok_fuse_Rule_pulled F g s l h c2 o2 = true ∧ o_fuse_Rule_pulled_0 F g s l h c2 o2 = q2) :
    f_fuse_each F g s l h c0 c1 c2 o0 o1 o2 3 = some (.v (.agg #[.int .i64 q0, .int .i64 q1, .int .i64 q2])) := by
  obtain ⟨G, hG⟩ : ∃ G, F = G + 4 := ⟨F - 4, by omega⟩
  have w0 : IntKind.wrap .i64 (0 + 1) = 1 := by decide
  have w1 : IntKind.wrap .i64 (1 + 1) = 2 := by decide
  have w2 : IntKind.wrap .i64 (2 + 1) = 3 := by decide
  unfold f_fuse_each
  rw [show L_fuse_each_0 F _ F = L_fuse_each_0 F _ (G + 4) from congrArg (L_fuse_each_0 F _) hG]
  rw [L_fuse_each_0]
  unfold B_fuse_each_0
  dsimp only
  refine bp rfl (bp rfl (bp rfl (bp rfl (bp rfl (bp rfl (bp rfl (bp p0.1 (bp rfl (bp rfl ?_)))))))))
  rw [show (iv [VV.v (.int .i64 c0), .v (.int .i64 c1), .v (.int .i64 c2)][Int.toNat 0 * 1]?) = c0 from rfl, show (iv [VV.v (.int .i64 o0), .v (.int .i64 o1), .v (.int .i64 o2)][0 + Int.toNat 0 * 1]?) = o0 from rfl, p0.2, w0]
  rw [L_fuse_each_0]
  unfold B_fuse_each_0
  dsimp only
  refine bp rfl (bp rfl (bp rfl (bp rfl (bp rfl (bp rfl (bp rfl (bp p1.1 (bp rfl (bp rfl ?_)))))))))
  rw [show (iv [VV.v (.int .i64 c0), .v (.int .i64 c1), .v (.int .i64 c2)][Int.toNat 1 * 1]?) = c1 from rfl, show (iv [VV.v (.int .i64 o0), .v (.int .i64 o1), .v (.int .i64 o2)][0 + Int.toNat 1 * 1]?) = o1 from rfl, p1.2, w1]
  rw [L_fuse_each_0]
  unfold B_fuse_each_0
  dsimp only
  refine bp rfl (bp rfl (bp rfl (bp rfl (bp rfl (bp rfl (bp rfl (bp p2.1 (bp rfl (bp rfl ?_)))))))))
  rw [show (iv [VV.v (.int .i64 c0), .v (.int .i64 c1), .v (.int .i64 c2)][Int.toNat 2 * 1]?) = c2 from rfl, show (iv [VV.v (.int .i64 o0), .v (.int .i64 o1), .v (.int .i64 o2)][0 + Int.toNat 2 * 1]?) = o2 from rfl, p2.2, w2]
  rw [L_fuse_each_0]
  unfold B_fuse_each_0
  dsimp only
  refine bn rfl (bp rfl rfl)
theorem f_fuse_eachv1_3 (F : Nat) (hF : 200 ≤ F) {g s l h c0 c1 c2 o0 o1 o2 q0 q1 q2 : Int} (p0 : ok_fuse_Rule_faded F g s l h c0 o0 = true ∧ o_fuse_Rule_faded_0 F g s l h c0 o0 = q0) (p1 : ok_fuse_Rule_faded F g s l h c1 o1 = true ∧ o_fuse_Rule_faded_0 F g s l h c1 o1 = q1) (p2 : ok_fuse_Rule_faded F g s l h c2 o2 = true ∧ o_fuse_Rule_faded_0 F g s l h c2 o2 = q2) :
    f_fuse_eachv1 F g s l h c0 c1 c2 o0 o1 o2 3 = some (.v (.agg #[.int .i64 q0, .int .i64 q1, .int .i64 q2])) := by
  obtain ⟨G, hG⟩ : ∃ G, F = G + 4 := ⟨F - 4, by omega⟩
  have w0 : IntKind.wrap .i64 (0 + 1) = 1 := by decide
  have w1 : IntKind.wrap .i64 (1 + 1) = 2 := by decide
  have w2 : IntKind.wrap .i64 (2 + 1) = 3 := by decide
  unfold f_fuse_eachv1
  rw [show L_fuse_eachv1_0 F _ F = L_fuse_eachv1_0 F _ (G + 4) from congrArg (L_fuse_eachv1_0 F _) hG]
  rw [L_fuse_eachv1_0]
  unfold B_fuse_eachv1_0
  dsimp only
  refine bp rfl (bp rfl (bp rfl (bp rfl (bp rfl (bp rfl (bp rfl (bp p0.1 (bp rfl (bp rfl ?_)))))))))
  rw [show (iv [VV.v (.int .i64 c0), .v (.int .i64 c1), .v (.int .i64 c2)][Int.toNat 0 * 1]?) = c0 from rfl, show (iv [VV.v (.int .i64 o0), .v (.int .i64 o1), .v (.int .i64 o2)][0 + Int.toNat 0 * 1]?) = o0 from rfl, p0.2, w0]
  rw [L_fuse_eachv1_0]
  unfold B_fuse_eachv1_0
  dsimp only
  refine bp rfl (bp rfl (bp rfl (bp rfl (bp rfl (bp rfl (bp rfl (bp p1.1 (bp rfl (bp rfl ?_)))))))))
  rw [show (iv [VV.v (.int .i64 c0), .v (.int .i64 c1), .v (.int .i64 c2)][Int.toNat 1 * 1]?) = c1 from rfl, show (iv [VV.v (.int .i64 o0), .v (.int .i64 o1), .v (.int .i64 o2)][0 + Int.toNat 1 * 1]?) = o1 from rfl, p1.2, w1]
  rw [L_fuse_eachv1_0]
  unfold B_fuse_eachv1_0
  dsimp only
  refine bp rfl (bp rfl (bp rfl (bp rfl (bp rfl (bp rfl (bp rfl (bp p2.1 (bp rfl (bp rfl ?_)))))))))
  rw [show (iv [VV.v (.int .i64 c0), .v (.int .i64 c1), .v (.int .i64 c2)][Int.toNat 2 * 1]?) = c2 from rfl, show (iv [VV.v (.int .i64 o0), .v (.int .i64 o1), .v (.int .i64 o2)][0 + Int.toNat 2 * 1]?) = o2 from rfl, p2.2, w2]
  rw [L_fuse_eachv1_0]
  unfold B_fuse_eachv1_0
  dsimp only
  refine bn rfl (bp rfl rfl)
end Go.Xv
namespace Go.Xv
theorem ax1 {n k p c : Int} (h : k < n) : axV n k p c = p := if_pos h
theorem ax0 {n k p c : Int} (h : ¬ k < n) : axV n k p c = c := if_neg h
theorem n_cases {n : Int} (h0 : 0 ≤ n) (h1 : n ≤ 3) : n = 0 ∨ n = 1 ∨ n = 2 ∨ n = 3 := by omega
theorem a_each (F : Nat) (hF : 200 ≤ F) {g s l h c0 c1 c2 o0 o1 o2 n : Int} (hr : RuleOK g s l h) (hs : I64 s) (hl : I64 l) (hc0 : I64 c0) (hc1 : I64 c1) (hc2 : I64 c2) (ho0 : I64 o0) (ho1 : I64 o1) (ho2 : I64 o2) (hn0 : 0 ≤ n) (hn1 : n ≤ 3) :
    ok_fuse_each F g s l h c0 c1 c2 o0 o1 o2 n = true ∧ o_fuse_each_0 F g s l h c0 c1 c2 o0 o1 o2 n = axV n 0 (pullV g s l c0 o0) c0 ∧ o_fuse_each_1 F g s l h c0 c1 c2 o0 o1 o2 n = axV n 1 (pullV g s l c1 o1) c1 ∧ o_fuse_each_2 F g s l h c0 c1 c2 o0 o1 o2 n = axV n 2 (pullV g s l c2 o2) c2 := by
  have p0 := a_pulled F (c := c0) (off := o0) hr hs hl hc0 ho0
  have p1 := a_pulled F (c := c1) (off := o1) hr hs hl hc1 ho1
  have p2 := a_pulled F (c := c2) (off := o2) hr hs hl hc2 ho2
  rcases n_cases hn0 hn1 with rfl | rfl | rfl | rfl
  · rw [ax0 (by decide), ax0 (by decide), ax0 (by decide)]; exact k_fuse_each F _ _ _ _ _ _ _ _ _ _ _ (f_fuse_each_0 F hF)
  · rw [ax1 (by decide), ax0 (by decide), ax0 (by decide)]; exact k_fuse_each F _ _ _ _ _ _ _ _ _ _ _ (f_fuse_each_1 F hF p0)
  · rw [ax1 (by decide), ax1 (by decide), ax0 (by decide)]; exact k_fuse_each F _ _ _ _ _ _ _ _ _ _ _ (f_fuse_each_2 F hF p0 p1)
  · rw [ax1 (by decide), ax1 (by decide), ax1 (by decide)]; exact k_fuse_each F _ _ _ _ _ _ _ _ _ _ _ (f_fuse_each_3 F hF p0 p1 p2)
theorem a_eachv1 (F : Nat) (hF : 200 ≤ F) {g s l h c0 c1 c2 : Int} (h0 : 0 ≤ s) (hs : I64 s) (hc0 : I64 c0) (hc1 : I64 c1) (hc2 : I64 c2) :
    ok_fuse_eachv1 F g s l h c0 c1 c2 0 0 0 3 = true ∧ o_fuse_eachv1_0 F g s l h c0 c1 c2 0 0 0 3 = fadeV s c0 ∧ o_fuse_eachv1_1 F g s l h c0 c1 c2 0 0 0 3 = fadeV s c1 ∧ o_fuse_eachv1_2 F g s l h c0 c1 c2 0 0 0 3 = fadeV s c2 :=
  k_fuse_eachv1 F _ _ _ _ _ _ _ _ _ _ _ (f_fuse_eachv1_3 F hF (a_faded F h0 hs hc0) (a_faded F h0 hs hc1) (a_faded F h0 hs hc2))
def PullOK (g s l h c0 c1 c2 la n t : Int) : Prop := RuleOK g s l h ∧ CorrOK l c0 c1 c2 la ∧ (la ≤ t ∧ t ≤ 1099511627776) ∧ 0 ≤ n ∧ n ≤ 3
instance (g s l h c0 c1 c2 la n t : Int) : Decidable (PullOK g s l h c0 c1 c2 la n t) := by unfold PullOK; infer_instance
theorem corr_I {l c0 c1 c2 t : Int} (hl : I64 l) (h : CorrOK l c0 c1 c2 t) : I64 c0 ∧ I64 c1 ∧ I64 c2 := by unfold CorrOK at h; unfold I64 at *; omega
theorem five {a b c d e a' b' c' d' e' : Int} (h1 : a = a') (h2 : b = b') (h3 : c = c') (h4 : d = d') (h5 : e = e') : (some (VV.v (.tuple #[.agg #[.int .i64 a, .int .i64 b, .int .i64 c, .int .i64 d], .int .i64 e])) : R) = some (.v (.tuple #[.agg #[.int .i64 a', .int .i64 b', .int .i64 c', .int .i64 d'], .int .i64 e'])) := by rw [h1, h2, h3, h4, h5]
theorem f_fPull_ok (F : Nat) (hF : 200 ≤ F) {g s l h c0 c1 c2 la o0 o1 o2 n t : Int} (hs : I64 s) (hl : I64 l) (ho0 : I64 o0) (ho1 : I64 o1) (ho2 : I64 o2) (hp : PullOK g s l h c0 c1 c2 la n t) :
    f_fuse_Pull F g s l h c0 c1 c2 la o0 o1 o2 n t = some (.v (.tuple #[.agg #[.int .i64 (axV n 0 (pullV g s l c0 o0) c0), .int .i64 (axV n 1 (pullV g s l c1 o1) c1), .int .i64 (axV n 2 (pullV g s l c2 o2) c2), .int .i64 t], .int .i64 0])) := by
  obtain ⟨hr, hc, ht, hn0, hn1⟩ := hp
  obtain ⟨i0, i1, i2⟩ := corr_I hl hc
  unfold f_fuse_Pull
  obtain ⟨m1, m2⟩ := a_fmay F hF (g := g) (s := s) (h := h) (c0 := c0) (c1 := c1) (c2 := c2) (la := la) (t := t) hl
  obtain ⟨e0, e1, e2, e3⟩ := a_each F hF hr hs hl i0 i1 i2 ho0 ho1 ho2 hn0 hn1
  refine bp m1 (bn (by rw [m2, dt ⟨hr, hc, ht⟩]; rfl) (bn (df (by omega)) (bn (df (by omega)) (bp e0 (five e1 e2 e3 rfl rfl)))))
theorem f_fPull_no (F : Nat) (hF : 200 ≤ F) {g s l h c0 c1 c2 la o0 o1 o2 n t : Int} (hl : I64 l) (hp : ¬ PullOK g s l h c0 c1 c2 la n t) :
    f_fuse_Pull F g s l h c0 c1 c2 la o0 o1 o2 n t = some (.v (.tuple #[.agg #[.int .i64 0, .int .i64 0, .int .i64 0, .int .i64 0], .int .i64 2])) := by
  unfold f_fuse_Pull
  obtain ⟨m1, m2⟩ := a_fmay F hF (g := g) (s := s) (h := h) (c0 := c0) (c1 := c1) (c2 := c2) (la := la) (t := t) hl
  refine bp m1 ?_
  rw [m2]
  by_cases h1 : RuleOK g s l h ∧ CorrOK l c0 c1 c2 la ∧ la ≤ t ∧ t ≤ 1099511627776
  · refine bn (by rw [dt h1]; rfl) ?_
    by_cases h2 : n < 0
    · exact bp (dt h2) rfl
    refine bn (df h2) ?_
    by_cases h3 : n > 3
    · exact bp (dt h3) rfl
    exact absurd ⟨h1.1, h1.2.1, h1.2.2, by omega, by omega⟩ hp
  · exact bp (by rw [df h1]; rfl) rfl
def FadeOK (g s l h c0 c1 c2 la t : Int) : Prop := RuleOK g s l h ∧ CorrOK l c0 c1 c2 la ∧ (la ≤ t ∧ t ≤ 1099511627776)
instance (g s l h c0 c1 c2 la t : Int) : Decidable (FadeOK g s l h c0 c1 c2 la t) := by unfold FadeOK; infer_instance
def fdV (s h la t c : Int) : Int := if t - la ≤ h then c else fadeV s c
theorem f_fFade_ok (F : Nat) (hF : 200 ≤ F) {g s l h c0 c1 c2 la t : Int} (hs : I64 s) (hl : I64 l) (hp : FadeOK g s l h c0 c1 c2 la t) :
    f_fuse_Fade F g s l h c0 c1 c2 la t = some (.v (.tuple #[.agg #[.int .i64 (fdV s h la t c0), .int .i64 (fdV s h la t c1), .int .i64 (fdV s h la t c2), .int .i64 la], .int .i64 0])) := by
  obtain ⟨hr, hc, ht⟩ := hp
  obtain ⟨i0, i1, i2⟩ := corr_I hl hc
  unfold f_fuse_Fade
  obtain ⟨m1, m2⟩ := a_fmay F hF (g := g) (s := s) (h := h) (c0 := c0) (c1 := c1) (c2 := c2) (la := la) (t := t) hl
  obtain ⟨e0, e1, e2, e3⟩ := a_eachv1 F hF (g := g) (l := l) (h := h) hr.2.2.1 hs i0 i1 i2
  refine bp m1 (bn (by rw [m2, dt ⟨hr, hc, ht⟩]; rfl) ?_)
  have hla := hc.1
  rw [wi64_in (by unfold I64; omega)]
  unfold fdV
  by_cases h1 : t - la ≤ h
  · refine bp (dt h1) ?_
    rw [if_pos h1, if_pos h1, if_pos h1]
  · refine bn (df h1) (bp e0 ?_)
    rw [if_neg h1, if_neg h1, if_neg h1]
    exact five e1 e2 e3 rfl rfl
theorem f_fFade_no (F : Nat) (hF : 200 ≤ F) {g s l h c0 c1 c2 la t : Int} (hl : I64 l) (hp : ¬ FadeOK g s l h c0 c1 c2 la t) :
    f_fuse_Fade F g s l h c0 c1 c2 la t = some (.v (.tuple #[.agg #[.int .i64 0, .int .i64 0, .int .i64 0, .int .i64 0], .int .i64 2])) := by
  unfold f_fuse_Fade
  obtain ⟨m1, m2⟩ := a_fmay F hF (g := g) (s := s) (h := h) (c0 := c0) (c1 := c1) (c2 := c2) (la := la) (t := t) hl
  refine bp m1 (bp (by rw [m2, df fun h1 => hp ⟨h1.1, h1.2.1, h1.2.2⟩]; rfl) rfl)
theorem a_rRight28 (F : Nat) (hF : 200 ≤ F) {g s l h c0 c1 c2 t : Int} (hl : I64 l) : ok_ref28_Right F g s l h c0 c1 c2 t = true ∧ o_ref28_Right_0 F g s l h c0 c1 c2 t = errV (RuleOK g s l h ∧ CorrOK l c0 c1 c2 t) := by
  refine k_ref28_Right F _ _ _ _ _ _ _ _ ?_
  unfold f_ref28_Right
  obtain ⟨k1, k2⟩ := a_rCheck F g s l h
  refine bp k1 ?_
  rw [k2]
  by_cases hr : RuleOK g s l h
  · rw [err_ok hr]
    refine bn rfl ?_
    by_cases h1 : t < 0
    · exact bp (dt h1) (some_no fun h => by have := h.2.1; omega)
    refine bn (df h1) ?_
    by_cases h2 : t > 1099511627776
    · exact bp (dt h2) (some_no fun h => by have := h.2.1; omega)
    refine bn (df h2) ?_
    obtain ⟨G, hG⟩ : ∃ G, F = G + 4 := ⟨F - 4, by omega⟩
    have w0 : IntKind.wrap .i64 (0 + 1) = 1 := by decide
    have w1 : IntKind.wrap .i64 (1 + 1) = 2 := by decide
    have w2 : IntKind.wrap .i64 (2 + 1) = 3 := by decide
    have hn : IntKind.wrap .i64 (0 - l) = -l := neg_in hr.2.2.2.1 (by unfold I64 at hl; omega)
    rw [show L_ref28_Right_0 F _ _ F = L_ref28_Right_0 F _ _ (G + 4) from congrArg (L_ref28_Right_0 F _ _) hG]
    rw [L_ref28_Right_0]
    unfold B_ref28_Right_0
    dsimp only
    refine bp rfl (bp rfl (bp rfl ?_))
    rw [show (iv [VV.v (.int .i64 c0), .v (.int .i64 c1), .v (.int .i64 c2), .v (.int .i64 t)][0 + Int.toNat 0 * 1]?) = c0 from rfl, hn, w0]
    by_cases a0 : c0 > l
    · exact bp (dt a0) (some_no fun h => by have := h.2; unfold CorrOK at this; omega)
    refine bn (df a0) (bp rfl (bp rfl ?_))
    by_cases b0 : c0 < -l
    · exact bp (dt b0) (some_no fun h => by have := h.2; unfold CorrOK at this; omega)
    refine bn (df b0) ?_
    rw [L_ref28_Right_0]
    unfold B_ref28_Right_0
    dsimp only
    refine bp rfl (bp rfl (bp rfl ?_))
    rw [show (iv [VV.v (.int .i64 c0), .v (.int .i64 c1), .v (.int .i64 c2), .v (.int .i64 t)][0 + Int.toNat 1 * 1]?) = c1 from rfl, hn, w1]
    by_cases a1 : c1 > l
    · exact bp (dt a1) (some_no fun h => by have := h.2; unfold CorrOK at this; omega)
    refine bn (df a1) (bp rfl (bp rfl ?_))
    by_cases b1 : c1 < -l
    · exact bp (dt b1) (some_no fun h => by have := h.2; unfold CorrOK at this; omega)
    refine bn (df b1) ?_
    rw [L_ref28_Right_0]
    unfold B_ref28_Right_0
    dsimp only
    refine bp rfl (bp rfl (bp rfl ?_))
    rw [show (iv [VV.v (.int .i64 c0), .v (.int .i64 c1), .v (.int .i64 c2), .v (.int .i64 t)][0 + Int.toNat 2 * 1]?) = c2 from rfl, hn, w2]
    by_cases a2 : c2 > l
    · exact bp (dt a2) (some_no fun h => by have := h.2; unfold CorrOK at this; omega)
    refine bn (df a2) (bp rfl (bp rfl ?_))
    by_cases b2 : c2 < -l
    · exact bp (dt b2) (some_no fun h => by have := h.2; unfold CorrOK at this; omega)
    refine bn (df b2) ?_
    rw [L_ref28_Right_0]
    unfold B_ref28_Right_0
    dsimp only
    exact bn rfl (some_err ⟨hr, by unfold CorrOK; omega⟩)
  · rw [err_no hr]
    exact bp rfl (some_no fun h => hr h.1)

theorem lp_rPull_0 (F : Nat) (hF : 200 ≤ F) {g s l h c0 c1 c2 la o0 o1 o2 t : Int} (hr : RuleOK g s l h) (hs : I64 s) (hl : I64 l) (hc0 : I64 c0) (hc1 : I64 c1) (hc2 : I64 c2) (ho0 : I64 o0) (ho1 : I64 o1) (ho2 : I64 o2) (ex : List VV → R) (y0 y1 y2 y3 y4 : Int) (G : Nat) : ∃ x14 : Int, ∃ l' : List VV, l' = [.v (.int .i64 c0), .v (.int .i64 c1), .v (.int .i64 c2), .v (.int .i64 t)] ∧
    L_ref28_Pull_0 F (fun _ _ _ _ _ _ _ _ _ _ _ _ _ _ _ _ _ _ _ _ _ _ _ _ _ _ _ _ _ _ q => ex q) (G + 4) g s l h c0 c1 c2 la o0 o1 o2 0 t y0 0 g s l h c0 c1 c2 la o0 o1 o2 y1 y2 y3 y4 [.v (.int .i64 c0), .v (.int .i64 c1), .v (.int .i64 c2), .v (.int .i64 t)] = ex l' := by
  have w0 : IntKind.wrap .i64 (0 + 1) = 1 := by decide
  have w1 : IntKind.wrap .i64 (1 + 1) = 2 := by decide
  have w2 : IntKind.wrap .i64 (2 + 1) = 3 := by decide
  obtain ⟨r1, r2, r3, r4, _, _⟩ := hr
  have hs2 : s ≤ 9223372036854775807 := by unfold I64 at hs; omega
  have hl2 : l ≤ 9223372036854775807 := by unfold I64 at hl; omega
  refine ⟨0, _, rfl, ?_⟩
  rw [L_ref28_Pull_0]
  unfold B_ref28_Pull_0
  dsimp only
  exact bn rfl rfl

theorem lp_rPull_1 (F : Nat) (hF : 200 ≤ F) {g s l h c0 c1 c2 la o0 o1 o2 t : Int} (hr : RuleOK g s l h) (hs : I64 s) (hl : I64 l) (hc0 : I64 c0) (hc1 : I64 c1) (hc2 : I64 c2) (ho0 : I64 o0) (ho1 : I64 o1) (ho2 : I64 o2) (ex : List VV → R) (y0 y1 y2 y3 y4 : Int) (G : Nat) : ∃ x14 : Int, ∃ l' : List VV, l' = [.v (.int .i64 (pullV g s l c0 o0)), .v (.int .i64 c1), .v (.int .i64 c2), .v (.int .i64 t)] ∧
    L_ref28_Pull_0 F (fun _ _ _ _ _ _ _ _ _ _ _ _ _ _ _ _ _ _ _ _ _ _ _ _ _ _ _ _ _ _ q => ex q) (G + 4) g s l h c0 c1 c2 la o0 o1 o2 1 t y0 0 g s l h c0 c1 c2 la o0 o1 o2 y1 y2 y3 y4 [.v (.int .i64 c0), .v (.int .i64 c1), .v (.int .i64 c2), .v (.int .i64 t)] = ex l' := by
  have w0 : IntKind.wrap .i64 (0 + 1) = 1 := by decide
  have w1 : IntKind.wrap .i64 (1 + 1) = 2 := by decide
  have w2 : IntKind.wrap .i64 (2 + 1) = 3 := by decide
  obtain ⟨r1, r2, r3, r4, _, _⟩ := hr
  have hs2 : s ≤ 9223372036854775807 := by unfold I64 at hs; omega
  have hl2 : l ≤ 9223372036854775807 := by unfold I64 at hl; omega
  refine ⟨0, _, rfl, ?_⟩
  obtain ⟨s0, t0, _⟩ := a_r2Shift F hF ho0 r1 r2
  obtain ⟨u0, v0, _⟩ := rClampF F (a := o0 / 2 ^ g.toNat) r3
  obtain ⟨a0, b0, _⟩ := a_rAdd2 F hF hc0 (cm_I (a := o0 / 2 ^ g.toNat) r3 hs2)
  obtain ⟨d0, e0, _⟩ := rClampF F (a := clipV (c0 + clmV (o0 / 2 ^ g.toNat) s)) r4
  rw [L_ref28_Pull_0]
  unfold B_ref28_Pull_0
  dsimp only
  refine bp rfl (bp rfl (bp rfl ?_))
  rw [show (iv [VV.v (.int .i64 o0), .v (.int .i64 o1), .v (.int .i64 o2)][0 + Int.toNat 0 * 1]?) = o0 from rfl, neg_in r1 (by omega), neg_in r3 hs2, neg_in r4 hl2]
  refine bp s0 ?_
  rw [t0]
  refine bp u0 (bp rfl (bp rfl ?_))
  rw [v0, show (iv [VV.v (.int .i64 c0), .v (.int .i64 c1), .v (.int .i64 c2), .v (.int .i64 la)][0 + Int.toNat 0 * 1]?) = c0 from rfl]
  refine bp a0 ?_
  rw [b0]
  refine bp d0 (bp rfl (bp rfl ?_))
  rw [e0, w0]
  rw [L_ref28_Pull_0]
  unfold B_ref28_Pull_0
  dsimp only
  exact bn rfl rfl

theorem lp_rPull_2 (F : Nat) (hF : 200 ≤ F) {g s l h c0 c1 c2 la o0 o1 o2 t : Int} (hr : RuleOK g s l h) (hs : I64 s) (hl : I64 l) (hc0 : I64 c0) (hc1 : I64 c1) (hc2 : I64 c2) (ho0 : I64 o0) (ho1 : I64 o1) (ho2 : I64 o2) (ex : List VV → R) (y0 y1 y2 y3 y4 : Int) (G : Nat) : ∃ x14 : Int, ∃ l' : List VV, l' = [.v (.int .i64 (pullV g s l c0 o0)), .v (.int .i64 (pullV g s l c1 o1)), .v (.int .i64 c2), .v (.int .i64 t)] ∧
    L_ref28_Pull_0 F (fun _ _ _ _ _ _ _ _ _ _ _ _ _ _ _ _ _ _ _ _ _ _ _ _ _ _ _ _ _ _ q => ex q) (G + 4) g s l h c0 c1 c2 la o0 o1 o2 2 t y0 0 g s l h c0 c1 c2 la o0 o1 o2 y1 y2 y3 y4 [.v (.int .i64 c0), .v (.int .i64 c1), .v (.int .i64 c2), .v (.int .i64 t)] = ex l' := by
  have w0 : IntKind.wrap .i64 (0 + 1) = 1 := by decide
  have w1 : IntKind.wrap .i64 (1 + 1) = 2 := by decide
  have w2 : IntKind.wrap .i64 (2 + 1) = 3 := by decide
  obtain ⟨r1, r2, r3, r4, _, _⟩ := hr
  have hs2 : s ≤ 9223372036854775807 := by unfold I64 at hs; omega
  have hl2 : l ≤ 9223372036854775807 := by unfold I64 at hl; omega
  refine ⟨0, _, rfl, ?_⟩
  obtain ⟨s0, t0, _⟩ := a_r2Shift F hF ho0 r1 r2
  obtain ⟨u0, v0, _⟩ := rClampF F (a := o0 / 2 ^ g.toNat) r3
  obtain ⟨a0, b0, _⟩ := a_rAdd2 F hF hc0 (cm_I (a := o0 / 2 ^ g.toNat) r3 hs2)
  obtain ⟨d0, e0, _⟩ := rClampF F (a := clipV (c0 + clmV (o0 / 2 ^ g.toNat) s)) r4
  rw [L_ref28_Pull_0]
  unfold B_ref28_Pull_0
  dsimp only
  refine bp rfl (bp rfl (bp rfl ?_))
  rw [show (iv [VV.v (.int .i64 o0), .v (.int .i64 o1), .v (.int .i64 o2)][0 + Int.toNat 0 * 1]?) = o0 from rfl, neg_in r1 (by omega), neg_in r3 hs2, neg_in r4 hl2]
  refine bp s0 ?_
  rw [t0]
  refine bp u0 (bp rfl (bp rfl ?_))
  rw [v0, show (iv [VV.v (.int .i64 c0), .v (.int .i64 c1), .v (.int .i64 c2), .v (.int .i64 la)][0 + Int.toNat 0 * 1]?) = c0 from rfl]
  refine bp a0 ?_
  rw [b0]
  refine bp d0 (bp rfl (bp rfl ?_))
  rw [e0, w0]
  obtain ⟨s1, t1, _⟩ := a_r2Shift F hF ho1 r1 r2
  obtain ⟨u1, v1, _⟩ := rClampF F (a := o1 / 2 ^ g.toNat) r3
  obtain ⟨a1, b1, _⟩ := a_rAdd2 F hF hc1 (cm_I (a := o1 / 2 ^ g.toNat) r3 hs2)
  obtain ⟨d1, e1, _⟩ := rClampF F (a := clipV (c1 + clmV (o1 / 2 ^ g.toNat) s)) r4
  rw [L_ref28_Pull_0]
  unfold B_ref28_Pull_0
  dsimp only
  refine bp rfl (bp rfl (bp rfl ?_))
  rw [show (iv [VV.v (.int .i64 o0), .v (.int .i64 o1), .v (.int .i64 o2)][0 + Int.toNat 1 * 1]?) = o1 from rfl, neg_in r1 (by omega), neg_in r3 hs2, neg_in r4 hl2]
  refine bp s1 ?_
  rw [t1]
  refine bp u1 (bp rfl (bp rfl ?_))
  rw [v1, show (iv [VV.v (.int .i64 c0), .v (.int .i64 c1), .v (.int .i64 c2), .v (.int .i64 la)][0 + Int.toNat 1 * 1]?) = c1 from rfl]
  refine bp a1 ?_
  rw [b1]
  refine bp d1 (bp rfl (bp rfl ?_))
  rw [e1, w1]
  rw [L_ref28_Pull_0]
  unfold B_ref28_Pull_0
  dsimp only
  exact bn rfl rfl

theorem lp_rPull_3 (F : Nat) (hF : 200 ≤ F) {g s l h c0 c1 c2 la o0 o1 o2 t : Int} (hr : RuleOK g s l h) (hs : I64 s) (hl : I64 l) (hc0 : I64 c0) (hc1 : I64 c1) (hc2 : I64 c2) (ho0 : I64 o0) (ho1 : I64 o1) (ho2 : I64 o2) (ex : List VV → R) (y0 y1 y2 y3 y4 : Int) (G : Nat) : ∃ x14 : Int, ∃ l' : List VV, l' = [.v (.int .i64 (pullV g s l c0 o0)), .v (.int .i64 (pullV g s l c1 o1)), .v (.int .i64 (pullV g s l c2 o2)), .v (.int .i64 t)] ∧
    L_ref28_Pull_0 F (fun _ _ _ _ _ _ _ _ _ _ _ _ _ _ _ _ _ _ _ _ _ _ _ _ _ _ _ _ _ _ q => ex q) (G + 4) g s l h c0 c1 c2 la o0 o1 o2 3 t y0 0 g s l h c0 c1 c2 la o0 o1 o2 y1 y2 y3 y4 [.v (.int .i64 c0), .v (.int .i64 c1), .v (.int .i64 c2), .v (.int .i64 t)] = ex l' := by
  have w0 : IntKind.wrap .i64 (0 + 1) = 1 := by decide
  have w1 : IntKind.wrap .i64 (1 + 1) = 2 := by decide
  have w2 : IntKind.wrap .i64 (2 + 1) = 3 := by decide
  obtain ⟨r1, r2, r3, r4, _, _⟩ := hr
  have hs2 : s ≤ 9223372036854775807 := by unfold I64 at hs; omega
  have hl2 : l ≤ 9223372036854775807 := by unfold I64 at hl; omega
  refine ⟨0, _, rfl, ?_⟩
  obtain ⟨s0, t0, _⟩ := a_r2Shift F hF ho0 r1 r2
  obtain ⟨u0, v0, _⟩ := rClampF F (a := o0 / 2 ^ g.toNat) r3
  obtain ⟨a0, b0, _⟩ := a_rAdd2 F hF hc0 (cm_I (a := o0 / 2 ^ g.toNat) r3 hs2)
  obtain ⟨d0, e0, _⟩ := rClampF F (a := clipV (c0 + clmV (o0 / 2 ^ g.toNat) s)) r4
  rw [L_ref28_Pull_0]
  unfold B_ref28_Pull_0
  dsimp only
  refine bp rfl (bp rfl (bp rfl ?_))
  rw [show (iv [VV.v (.int .i64 o0), .v (.int .i64 o1), .v (.int .i64 o2)][0 + Int.toNat 0 * 1]?) = o0 from rfl, neg_in r1 (by omega), neg_in r3 hs2, neg_in r4 hl2]
  refine bp s0 ?_
  rw [t0]
  refine bp u0 (bp rfl (bp rfl ?_))
  rw [v0, show (iv [VV.v (.int .i64 c0), .v (.int .i64 c1), .v (.int .i64 c2), .v (.int .i64 la)][0 + Int.toNat 0 * 1]?) = c0 from rfl]
  refine bp a0 ?_
  rw [b0]
  refine bp d0 (bp rfl (bp rfl ?_))
  rw [e0, w0]
  obtain ⟨s1, t1, _⟩ := a_r2Shift F hF ho1 r1 r2
  obtain ⟨u1, v1, _⟩ := rClampF F (a := o1 / 2 ^ g.toNat) r3
  obtain ⟨a1, b1, _⟩ := a_rAdd2 F hF hc1 (cm_I (a := o1 / 2 ^ g.toNat) r3 hs2)
  obtain ⟨d1, e1, _⟩ := rClampF F (a := clipV (c1 + clmV (o1 / 2 ^ g.toNat) s)) r4
  rw [L_ref28_Pull_0]
  unfold B_ref28_Pull_0
  dsimp only
  refine bp rfl (bp rfl (bp rfl ?_))
  rw [show (iv [VV.v (.int .i64 o0), .v (.int .i64 o1), .v (.int .i64 o2)][0 + Int.toNat 1 * 1]?) = o1 from rfl, neg_in r1 (by omega), neg_in r3 hs2, neg_in r4 hl2]
  refine bp s1 ?_
  rw [t1]
  refine bp u1 (bp rfl (bp rfl ?_))
  rw [v1, show (iv [VV.v (.int .i64 c0), .v (.int .i64 c1), .v (.int .i64 c2), .v (.int .i64 la)][0 + Int.toNat 1 * 1]?) = c1 from rfl]
  refine bp a1 ?_
  rw [b1]
  refine bp d1 (bp rfl (bp rfl ?_))
  rw [e1, w1]
  obtain ⟨s2, t2, _⟩ := a_r2Shift F hF ho2 r1 r2
  obtain ⟨u2, v2, _⟩ := rClampF F (a := o2 / 2 ^ g.toNat) r3
  obtain ⟨a2, b2, _⟩ := a_rAdd2 F hF hc2 (cm_I (a := o2 / 2 ^ g.toNat) r3 hs2)
  obtain ⟨d2, e2, _⟩ := rClampF F (a := clipV (c2 + clmV (o2 / 2 ^ g.toNat) s)) r4
  rw [L_ref28_Pull_0]
  unfold B_ref28_Pull_0
  dsimp only
  refine bp rfl (bp rfl (bp rfl ?_))
  rw [show (iv [VV.v (.int .i64 o0), .v (.int .i64 o1), .v (.int .i64 o2)][0 + Int.toNat 2 * 1]?) = o2 from rfl, neg_in r1 (by omega), neg_in r3 hs2, neg_in r4 hl2]
  refine bp s2 ?_
  rw [t2]
  refine bp u2 (bp rfl (bp rfl ?_))
  rw [v2, show (iv [VV.v (.int .i64 c0), .v (.int .i64 c1), .v (.int .i64 c2), .v (.int .i64 la)][0 + Int.toNat 2 * 1]?) = c2 from rfl]
  refine bp a2 ?_
  rw [b2]
  refine bp d2 (bp rfl (bp rfl ?_))
  rw [e2, w2]
  rw [L_ref28_Pull_0]
  unfold B_ref28_Pull_0
  dsimp only
  exact bn rfl rfl

theorem f_rPull_ok (F : Nat) (hF : 200 ≤ F) {g s l h c0 c1 c2 la o0 o1 o2 n t : Int} (hs : I64 s) (hl : I64 l) (ho0 : I64 o0) (ho1 : I64 o1) (ho2 : I64 o2) (hp : PullOK g s l h c0 c1 c2 la n t) :
    f_ref28_Pull F g s l h c0 c1 c2 la o0 o1 o2 n t = some (.v (.tuple #[.agg #[.int .i64 (axV n 0 (pullV g s l c0 o0) c0), .int .i64 (axV n 1 (pullV g s l c1 o1) c1), .int .i64 (axV n 2 (pullV g s l c2 o2) c2), .int .i64 t], .int .i64 0])) := by
  obtain ⟨hr, hc, ht, hn0, hn1⟩ := hp
  obtain ⟨i0, i1, i2⟩ := corr_I hl hc
  unfold f_ref28_Pull
  obtain ⟨m1, m2⟩ := a_rRight28 F hF (g := g) (s := s) (h := h) (c0 := c0) (c1 := c1) (c2 := c2) (t := la) hl
  obtain ⟨G, hG⟩ : ∃ G, F = G + 4 := ⟨F - 4, by omega⟩
  refine bp m1 (bn (by rw [m2, err_ok ⟨hr, hc⟩]; rfl) (bn (df (by omega)) (bn (df (by omega)) (bn (df (by omega)) (bn (df (by omega)) ?_)))))
  rw [show L_ref28_Pull_0 F _ F = L_ref28_Pull_0 F _ (G + 4) from congrArg (L_ref28_Pull_0 F _) hG]
  rcases n_cases hn0 hn1 with rfl | rfl | rfl | rfl
  · obtain ⟨_, l', hl', e⟩ := lp_rPull_0 F hF (t := t) (la := la) hr hs hl i0 i1 i2 ho0 ho1 ho2 (fun v => bif ((isI .i64 v[0]?) && ((isI .i64 v[1]?) && ((isI .i64 v[2]?) && ((isI .i64 v[3]?) && true)))) then some (.v (.tuple #[.agg #[.int .i64 (iv v[0]?), .int .i64 (iv v[1]?), .int .i64 (iv v[2]?), .int .i64 (iv v[3]?)], .int .i64 0])) else none) 0 0 0 0 0 G
    refine e.trans ?_
    rw [ax0 (by decide), ax0 (by decide), ax0 (by decide), hl']
    rfl
  · obtain ⟨_, l', hl', e⟩ := lp_rPull_1 F hF (t := t) (la := la) hr hs hl i0 i1 i2 ho0 ho1 ho2 (fun v => bif ((isI .i64 v[0]?) && ((isI .i64 v[1]?) && ((isI .i64 v[2]?) && ((isI .i64 v[3]?) && true)))) then some (.v (.tuple #[.agg #[.int .i64 (iv v[0]?), .int .i64 (iv v[1]?), .int .i64 (iv v[2]?), .int .i64 (iv v[3]?)], .int .i64 0])) else none) 0 0 0 0 0 G
    refine e.trans ?_
    rw [ax1 (by decide), ax0 (by decide), ax0 (by decide), hl']
    rfl
  · obtain ⟨_, l', hl', e⟩ := lp_rPull_2 F hF (t := t) (la := la) hr hs hl i0 i1 i2 ho0 ho1 ho2 (fun v => bif ((isI .i64 v[0]?) && ((isI .i64 v[1]?) && ((isI .i64 v[2]?) && ((isI .i64 v[3]?) && true)))) then some (.v (.tuple #[.agg #[.int .i64 (iv v[0]?), .int .i64 (iv v[1]?), .int .i64 (iv v[2]?), .int .i64 (iv v[3]?)], .int .i64 0])) else none) 0 0 0 0 0 G
    refine e.trans ?_
    rw [ax1 (by decide), ax1 (by decide), ax0 (by decide), hl']
    rfl
  · obtain ⟨_, l', hl', e⟩ := lp_rPull_3 F hF (t := t) (la := la) hr hs hl i0 i1 i2 ho0 ho1 ho2 (fun v => bif ((isI .i64 v[0]?) && ((isI .i64 v[1]?) && ((isI .i64 v[2]?) && ((isI .i64 v[3]?) && true)))) then some (.v (.tuple #[.agg #[.int .i64 (iv v[0]?), .int .i64 (iv v[1]?), .int .i64 (iv v[2]?), .int .i64 (iv v[3]?)], .int .i64 0])) else none) 0 0 0 0 0 G
    refine e.trans ?_
    rw [ax1 (by decide), ax1 (by decide), ax1 (by decide), hl']
    rfl
theorem f_rPull_no (F : Nat) (hF : 200 ≤ F) {g s l h c0 c1 c2 la o0 o1 o2 n t : Int} (hl : I64 l) (hp : ¬ PullOK g s l h c0 c1 c2 la n t) :
    f_ref28_Pull F g s l h c0 c1 c2 la o0 o1 o2 n t = some (.v (.tuple #[.agg #[.int .i64 0, .int .i64 0, .int .i64 0, .int .i64 0], .int .i64 2])) := by
  unfold f_ref28_Pull
  obtain ⟨m1, m2⟩ := a_rRight28 F hF (g := g) (s := s) (h := h) (c0 := c0) (c1 := c1) (c2 := c2) (t := la) hl
  refine bp m1 ?_
  rw [m2]
  by_cases h1 : RuleOK g s l h ∧ CorrOK l c0 c1 c2 la
  · refine bn (by rw [err_ok h1]; rfl) ?_
    by_cases h2 : n < 0
    · exact bp (dt h2) rfl
    refine bn (df h2) ?_
    by_cases h3 : n > 3
    · exact bp (dt h3) rfl
    refine bn (df h3) ?_
    by_cases h4 : t < la
    · exact bp (dt h4) rfl
    refine bn (df h4) ?_
    by_cases h5 : t > 1099511627776
    · exact bp (dt h5) rfl
    exact absurd ⟨h1.1, h1.2, by omega, by omega, by omega⟩ hp
  · exact bp (by rw [err_no h1]; rfl) rfl

theorem lp_rFade_0 (F : Nat) (ex) (G : Nat) {s c0 c1 c2 la : Int} (h0 : 0 ≤ s) (hs : I64 s) (hc : I64 c0) (x0 x1 x2 x3 x4 x5 x6 x7 x8 x9 x11 x13 x14 x19 x20 x21 x22 q1 q2 q3 : Int) :
    L_ref28_Fade_0 F ex (G + 1) x0 x1 x2 x3 x4 x5 x6 x7 x8 x9 0 x11 s x13 x14 c0 c1 c2 la x19 x20 x21 x22 [.v (.int .i64 c0), .v (.int .i64 q1), .v (.int .i64 q2), .v (.int .i64 q3)] = L_ref28_Fade_0 F ex G x0 x1 x2 x3 x4 x5 x6 x7 x8 x9 1 x11 s x13 x14 c0 c1 c2 la x19 x20 x21 x22 [.v (.int .i64 (fadeV s c0)), .v (.int .i64 q1), .v (.int .i64 q2), .v (.int .i64 q3)] := by
  have w : IntKind.wrap .i64 (0 + 1) = 1 := by decide
  rw [L_ref28_Fade_0]
  unfold B_ref28_Fade_0
  dsimp only
  refine bp rfl (bp rfl (bp rfl ?_))
  rw [show (iv [VV.v (.int .i64 c0), .v (.int .i64 c1), .v (.int .i64 c2), .v (.int .i64 la)][0 + Int.toNat 0 * 1]?) = c0 from rfl, w]
  unfold I64 at *
  by_cases h1 : c0 > 0
  · refine bp (dt h1) (bp rfl (bp rfl (bp rfl (bp rfl (bp rfl (bp rfl (bn (df (by omega)) ?_)))))))
    rw [wi64_in (by unfold I64; omega)]
    have e : (if 0 > c0 - s then 0 else c0 - s) = fadeV s c0 := by unfold fadeV; rw [if_pos h1]; split <;> omega
    rw [e]
    rfl
  · refine bn (df h1) (bp rfl (bp rfl ?_))
    by_cases h2 : c0 < 0
    · refine bp (dt h2) (bp rfl (bp rfl (bp rfl (bp rfl ?_))))
      rw [wi64_in (by unfold I64; omega)]
      have e : (if 0 < c0 + s then 0 else c0 + s) = fadeV s c0 := by unfold fadeV; rw [if_neg h1]; split <;> omega
      rw [e]
      rfl
    · refine bn (df h2) ?_
      have e : fadeV s c0 = c0 := by unfold fadeV; rw [if_neg h1]; omega
      rw [e]

theorem lp_rFade_1 (F : Nat) (ex) (G : Nat) {s c0 c1 c2 la : Int} (h0 : 0 ≤ s) (hs : I64 s) (hc : I64 c1) (x0 x1 x2 x3 x4 x5 x6 x7 x8 x9 x11 x13 x14 x19 x20 x21 x22 q0 q2 q3 : Int) :
    L_ref28_Fade_0 F ex (G + 1) x0 x1 x2 x3 x4 x5 x6 x7 x8 x9 1 x11 s x13 x14 c0 c1 c2 la x19 x20 x21 x22 [.v (.int .i64 q0), .v (.int .i64 c1), .v (.int .i64 q2), .v (.int .i64 q3)] = L_ref28_Fade_0 F ex G x0 x1 x2 x3 x4 x5 x6 x7 x8 x9 2 x11 s x13 x14 c0 c1 c2 la x19 x20 x21 x22 [.v (.int .i64 q0), .v (.int .i64 (fadeV s c1)), .v (.int .i64 q2), .v (.int .i64 q3)] := by
  have w : IntKind.wrap .i64 (1 + 1) = 2 := by decide
  rw [L_ref28_Fade_0]
  unfold B_ref28_Fade_0
  dsimp only
  refine bp rfl (bp rfl (bp rfl ?_))
  rw [show (iv [VV.v (.int .i64 c0), .v (.int .i64 c1), .v (.int .i64 c2), .v (.int .i64 la)][0 + Int.toNat 1 * 1]?) = c1 from rfl, w]
  unfold I64 at *
  by_cases h1 : c1 > 0
  · refine bp (dt h1) (bp rfl (bp rfl (bp rfl (bp rfl (bp rfl (bp rfl (bn (df (by omega)) ?_)))))))
    rw [wi64_in (by unfold I64; omega)]
    have e : (if 0 > c1 - s then 0 else c1 - s) = fadeV s c1 := by unfold fadeV; rw [if_pos h1]; split <;> omega
    rw [e]
    rfl
  · refine bn (df h1) (bp rfl (bp rfl ?_))
    by_cases h2 : c1 < 0
    · refine bp (dt h2) (bp rfl (bp rfl (bp rfl (bp rfl ?_))))
      rw [wi64_in (by unfold I64; omega)]
      have e : (if 0 < c1 + s then 0 else c1 + s) = fadeV s c1 := by unfold fadeV; rw [if_neg h1]; split <;> omega
      rw [e]
      rfl
    · refine bn (df h2) ?_
      have e : fadeV s c1 = c1 := by unfold fadeV; rw [if_neg h1]; omega
      rw [e]

theorem lp_rFade_2 (F : Nat) (ex) (G : Nat) {s c0 c1 c2 la : Int} (h0 : 0 ≤ s) (hs : I64 s) (hc : I64 c2) (x0 x1 x2 x3 x4 x5 x6 x7 x8 x9 x11 x13 x14 x19 x20 x21 x22 q0 q1 q3 : Int) :
    L_ref28_Fade_0 F ex (G + 1) x0 x1 x2 x3 x4 x5 x6 x7 x8 x9 2 x11 s x13 x14 c0 c1 c2 la x19 x20 x21 x22 [.v (.int .i64 q0), .v (.int .i64 q1), .v (.int .i64 c2), .v (.int .i64 q3)] = L_ref28_Fade_0 F ex G x0 x1 x2 x3 x4 x5 x6 x7 x8 x9 3 x11 s x13 x14 c0 c1 c2 la x19 x20 x21 x22 [.v (.int .i64 q0), .v (.int .i64 q1), .v (.int .i64 (fadeV s c2)), .v (.int .i64 q3)] := by
  have w : IntKind.wrap .i64 (2 + 1) = 3 := by decide
  rw [L_ref28_Fade_0]
  unfold B_ref28_Fade_0
  dsimp only
  refine bp rfl (bp rfl (bp rfl ?_))
  rw [show (iv [VV.v (.int .i64 c0), .v (.int .i64 c1), .v (.int .i64 c2), .v (.int .i64 la)][0 + Int.toNat 2 * 1]?) = c2 from rfl, w]
  unfold I64 at *
  by_cases h1 : c2 > 0
  · refine bp (dt h1) (bp rfl (bp rfl (bp rfl (bp rfl (bp rfl (bp rfl (bn (df (by omega)) ?_)))))))
    rw [wi64_in (by unfold I64; omega)]
    have e : (if 0 > c2 - s then 0 else c2 - s) = fadeV s c2 := by unfold fadeV; rw [if_pos h1]; split <;> omega
    rw [e]
    rfl
  · refine bn (df h1) (bp rfl (bp rfl ?_))
    by_cases h2 : c2 < 0
    · refine bp (dt h2) (bp rfl (bp rfl (bp rfl (bp rfl ?_))))
      rw [wi64_in (by unfold I64; omega)]
      have e : (if 0 < c2 + s then 0 else c2 + s) = fadeV s c2 := by unfold fadeV; rw [if_neg h1]; split <;> omega
      rw [e]
      rfl
    · refine bn (df h2) ?_
      have e : fadeV s c2 = c2 := by unfold fadeV; rw [if_neg h1]; omega
      rw [e]

theorem f_rFade_ok (F : Nat) (hF : 200 ≤ F) {g s l h c0 c1 c2 la t : Int} (hs : I64 s) (hl : I64 l) (hp : FadeOK g s l h c0 c1 c2 la t) :
    f_ref28_Fade F g s l h c0 c1 c2 la t = some (.v (.tuple #[.agg #[.int .i64 (fdV s h la t c0), .int .i64 (fdV s h la t c1), .int .i64 (fdV s h la t c2), .int .i64 la], .int .i64 0])) := by
  obtain ⟨hr, hc, ht⟩ := hp
  obtain ⟨i0, i1, i2⟩ := corr_I hl hc
  unfold f_ref28_Fade
  obtain ⟨m1, m2⟩ := a_rRight28 F hF (g := g) (s := s) (h := h) (c0 := c0) (c1 := c1) (c2 := c2) (t := la) hl
  refine bp m1 (bn (by rw [m2, err_ok ⟨hr, hc⟩]; rfl) (bn (df (by omega)) (bn (df (by omega)) ?_)))
  have hla := hc.1
  rw [wi64_in (by unfold I64; omega)]
  unfold fdV
  by_cases h1 : t - la ≤ h
  · refine bp (dt h1) ?_
    rw [if_pos h1, if_pos h1, if_pos h1]
  · refine bn (df h1) ?_
    rw [if_neg h1, if_neg h1, if_neg h1]
    obtain ⟨G, hG⟩ : ∃ G, F = G + 4 := ⟨F - 4, by omega⟩
    rw [show L_ref28_Fade_0 F _ F = L_ref28_Fade_0 F _ (G + 4) from congrArg (L_ref28_Fade_0 F _) hG]
    rw [lp_rFade_0 F _ (G + 3) hr.2.2.1 hs i0, lp_rFade_1 F _ (G + 2) hr.2.2.1 hs i1, lp_rFade_2 F _ (G + 1) hr.2.2.1 hs i2, L_ref28_Fade_0]
    unfold B_ref28_Fade_0
    exact bn rfl (bp rfl rfl)
theorem f_rFade_no (F : Nat) (hF : 200 ≤ F) {g s l h c0 c1 c2 la t : Int} (hl : I64 l) (hp : ¬ FadeOK g s l h c0 c1 c2 la t) :
    f_ref28_Fade F g s l h c0 c1 c2 la t = some (.v (.tuple #[.agg #[.int .i64 0, .int .i64 0, .int .i64 0, .int .i64 0], .int .i64 2])) := by
  unfold f_ref28_Fade
  obtain ⟨m1, m2⟩ := a_rRight28 F hF (g := g) (s := s) (h := h) (c0 := c0) (c1 := c1) (c2 := c2) (t := la) hl
  refine bp m1 ?_
  rw [m2]
  by_cases h1 : RuleOK g s l h ∧ CorrOK l c0 c1 c2 la
  · refine bn (by rw [err_ok h1]; rfl) ?_
    by_cases h4 : t < la
    · exact bp (dt h4) rfl
    refine bn (df h4) ?_
    by_cases h5 : t > 1099511627776
    · exact bp (dt h5) rfl
    exact absurd ⟨h1.1, h1.2, by omega, by omega⟩ hp
  · exact bp (by rw [err_no h1]; rfl) rfl
theorem hi0 : hi 0 = 0 := by decide
theorem lo0 : lo 0 = 0 := by decide
theorem a_fSum3 (F : Nat) (hF : 200 ≤ F) {a b c : Int} (ha : I64 a) (hb : I64 b) (hc : I64 c) : ok_fix_Sum F [.v (.int .i64 a), .v (.int .i64 b), .v (.int .i64 c)] 3 = true ∧ o_fix_Sum_0 F [.v (.int .i64 a), .v (.int .i64 b), .v (.int .i64 c)] 3 = clipV (a + b + c) ∧ o_fix_Sum_1 F [.v (.int .i64 a), .v (.int .i64 b), .v (.int .i64 c)] 3 = clipC (a + b + c) := by
  refine k_fix_Sum F _ _ ?_
  obtain ⟨G, hG⟩ : ∃ G, F = G + 4 := ⟨F - 4, by omega⟩
  have w0 : IntKind.wrap .i64 (0 + 1) = 1 := by decide
  have w1 : IntKind.wrap .i64 (1 + 1) = 2 := by decide
  have w2 : IntKind.wrap .i64 (2 + 1) = 3 := by decide
  obtain ⟨o1, o2, o3⟩ := a_fof F ha
  obtain ⟨p1, p2, p3⟩ := a_fof F hb
  obtain ⟨q1, q2, q3⟩ := a_fof F hc
  have s := a_Add F 0 a
  rw [hi0, lo0, Int.zero_add] at s
  obtain ⟨s1, s2, s3⟩ := s
  obtain ⟨t1, t2, t3⟩ := a_Add F a b
  obtain ⟨u1, u2, u3⟩ := a_Add F (a + b) c
  obtain ⟨c1, c2, c3⟩ := a_fclip F (z := a + b + c) (by unfold I64 at *; unfold W128; omega)
  unfold f_fix_Sum
  rw [show L_fix_Sum_0 F _ F = L_fix_Sum_0 F _ (G + 4) from congrArg (L_fix_Sum_0 F _) hG, L_fix_Sum_0]
  unfold B_fix_Sum_0
  dsimp only
  refine bp rfl (bp rfl (bp rfl ?_))
  rw [show (iv [VV.v (.int .i64 a), .v (.int .i64 b), .v (.int .i64 c)][0 + Int.toNat 0 * 1]?) = a from rfl]
  refine bp o1 ?_
  rw [o2, o3]
  refine bp s1 ?_
  rw [s2, s3, w0, L_fix_Sum_0]
  unfold B_fix_Sum_0
  dsimp only
  refine bp rfl (bp rfl (bp rfl ?_))
  rw [show (iv [VV.v (.int .i64 a), .v (.int .i64 b), .v (.int .i64 c)][0 + Int.toNat 1 * 1]?) = b from rfl]
  refine bp p1 ?_
  rw [p2, p3]
  refine bp t1 ?_
  rw [t2, t3, w1, L_fix_Sum_0]
  unfold B_fix_Sum_0
  dsimp only
  refine bp rfl (bp rfl (bp rfl ?_))
  rw [show (iv [VV.v (.int .i64 a), .v (.int .i64 b), .v (.int .i64 c)][0 + Int.toNat 2 * 1]?) = c from rfl]
  refine bp q1 ?_
  rw [q2, q3]
  refine bp u1 ?_
  rw [u2, u3, w2, L_fix_Sum_0]
  unfold B_fix_Sum_0
  dsimp only
  refine bn rfl (bp c1 ?_)
  rw [c2, c3]
theorem a_rSum3 (F : Nat) (hF : 200 ≤ F) {a b c : Int} (ha : I64 a) (hb : I64 b) (hc : I64 c) : ok_ref02_Sum F [.v (.int .i64 a), .v (.int .i64 b), .v (.int .i64 c)] 3 = true ∧ o_ref02_Sum_0 F [.v (.int .i64 a), .v (.int .i64 b), .v (.int .i64 c)] 3 = clipV (a + b + c) ∧ o_ref02_Sum_1 F [.v (.int .i64 a), .v (.int .i64 b), .v (.int .i64 c)] 3 = clipC (a + b + c) := by
  refine k_ref02_Sum F _ _ ?_
  obtain ⟨G, hG⟩ : ∃ G, F = G + 4 := ⟨F - 4, by omega⟩
  have w0 : IntKind.wrap .i64 (0 + 1) = 1 := by decide
  have w1 : IntKind.wrap .i64 (1 + 1) = 2 := by decide
  have w2 : IntKind.wrap .i64 (2 + 1) = 3 := by decide
  obtain ⟨o1, o2, o3⟩ := a_rOf F ha
  obtain ⟨p1, p2, p3⟩ := a_rOf F hb
  obtain ⟨q1, q2, q3⟩ := a_rOf F hc
  have s := a_rAdd F hF 0 a
  rw [hi0, lo0, Int.zero_add] at s
  obtain ⟨s1, s2, s3⟩ := s
  obtain ⟨t1, t2, t3⟩ := a_rAdd F hF a b
  obtain ⟨u1, u2, u3⟩ := a_rAdd F hF (a + b) c
  obtain ⟨c1, c2, c3⟩ := a_rclip2 F (z := a + b + c) (by unfold I64 at *; unfold W128; omega)
  unfold f_ref02_Sum
  rw [show L_ref02_Sum_0 F _ F = L_ref02_Sum_0 F _ (G + 4) from congrArg (L_ref02_Sum_0 F _) hG, L_ref02_Sum_0]
  unfold B_ref02_Sum_0
  dsimp only
  refine bp rfl (bp rfl (bp rfl ?_))
  rw [show (iv [VV.v (.int .i64 a), .v (.int .i64 b), .v (.int .i64 c)][0 + Int.toNat 0 * 1]?) = a from rfl]
  refine bp o1 ?_
  rw [o2, o3]
  refine bp s1 ?_
  rw [s2, s3, w0, L_ref02_Sum_0]
  unfold B_ref02_Sum_0
  dsimp only
  refine bp rfl (bp rfl (bp rfl ?_))
  rw [show (iv [VV.v (.int .i64 a), .v (.int .i64 b), .v (.int .i64 c)][0 + Int.toNat 1 * 1]?) = b from rfl]
  refine bp p1 ?_
  rw [p2, p3]
  refine bp t1 ?_
  rw [t2, t3, w1, L_ref02_Sum_0]
  unfold B_ref02_Sum_0
  dsimp only
  refine bp rfl (bp rfl (bp rfl ?_))
  rw [show (iv [VV.v (.int .i64 a), .v (.int .i64 b), .v (.int .i64 c)][0 + Int.toNat 2 * 1]?) = c from rfl]
  refine bp q1 ?_
  rw [q2, q3]
  refine bp u1 ?_
  rw [u2, u3, w2, L_ref02_Sum_0]
  unfold B_ref02_Sum_0
  dsimp only
  refine bn rfl (bp c1 ?_)
  rw [c2, c3]
def nnV (x : Int) : Int := if 0 > x then 0 else x
def capV (t : Int) : Int := if 65535 < nnV t then 65535 else nnV t
theorem nn_I {x : Int} (h : I64 x) : I64 (nnV x) ∧ 0 ≤ nnV x := by unfold nnV; unfold I64 at *; split <;> omega
theorem cap_b (t : Int) : 0 ≤ capV t ∧ capV t ≤ 65535 := by unfold capV nnV; split <;> split <;> omega
def boundV (h k g t : Int) : Int := clipV (nnV h + nnV g + clipV (nnV k * capV t))
theorem prod_cap {k n : Int} (h0 : 0 ≤ k) (h1 : k ≤ 9223372036854775807) (hn : 0 < n) : (k > Int.tdiv 9223372036854775807 n ↔ 9223372036854775807 < k * n) := by
  rw [Int.tdiv_eq_ediv_of_nonneg (by omega)]
  constructor
  · intro h
    exact (Int.ediv_lt_iff_lt_mul hn).1 h
  · intro h
    exact (Int.ediv_lt_iff_lt_mul hn).2 h
theorem prod_b {k n : Int} (h0 : 0 ≤ k) (h1 : k ≤ 9223372036854775807) (hn : 0 ≤ n) (hn2 : n ≤ 65535) : 0 ≤ k * n ∧ k * n ≤ 9223372036854775807 * 65535 := by
  refine ⟨Int.mul_nonneg h0 hn, ?_⟩
  exact Int.mul_le_mul h1 hn2 hn (by omega)
theorem a_fBound (F : Nat) (hF : 200 ≤ F) {h k g t : Int} (hh : I64 h) (hk : I64 k) (hg : I64 g) : ok_fuse_Bound F h k g t = true ∧ o_fuse_Bound_0 F h k g t = boundV h k g t := by
  refine k_fuse_Bound F _ _ _ _ ?_
  unfold f_fuse_Bound
  dsimp only
  rw [show (if 65535 < (if 0 > t then 0 else t) then 65535 else (if 0 > t then 0 else t)) = capV t from rfl, show (if 0 > k then 0 else k) = nnV k from rfl, show (if 0 > h then 0 else h) = nnV h from rfl, show (if 0 > g then 0 else g) = nnV g from rfl]
  obtain ⟨b0, b1⟩ := cap_b t
  obtain ⟨kI, k0⟩ := nn_I hk
  obtain ⟨hI, _⟩ := nn_I hh
  obtain ⟨gI, _⟩ := nn_I hg
  have k1 : nnV k ≤ 9223372036854775807 := by unfold I64 at kI; omega
  obtain ⟨z0, z1⟩ := prod_b k0 k1 b0 b1
  have fin : ∀ d, I64 d → d = clipV (nnV k * capV t) → (bif ok_fix_Sum F [.v (.int .i64 (nnV h)), .v (.int .i64 (nnV g)), .v (.int .i64 d)] 3 then (some (.v (.int .i64 (o_fix_Sum_0 F [.v (.int .i64 (nnV h)), .v (.int .i64 (nnV g)), .v (.int .i64 d)] 3))) : R) else none) = some (.v (.int .i64 (boundV h k g t))) := by
    intro d hd he
    obtain ⟨s1, s2, _⟩ := a_fSum3 F hF hI gI hd
    refine bp s1 (some_int ?_)
    rw [s2, he]
    rfl
  by_cases hn : capV t > 0
  · refine bp (dt hn) (bp (by rw [df (by omega)]; rfl) ?_)
    have hq : Int.tdiv 9223372036854775807 (capV t) ≤ 9223372036854775807 ∧ 0 ≤ Int.tdiv 9223372036854775807 (capV t) := by
      rw [Int.tdiv_eq_ediv_of_nonneg (by omega)]
      exact ⟨Int.ediv_le_self _ (by omega), Int.ediv_nonneg (by omega) (by omega)⟩
    rw [wi64_in (by unfold I64; omega)]
    by_cases hp : nnV k > Int.tdiv 9223372036854775807 (capV t)
    · refine bp (dt hp) (fin _ (by unfold I64; omega) ?_)
      have := (prod_cap k0 k1 hn).1 hp
      unfold clipV
      rw [if_neg (by omega), if_pos this]
    · refine bn (df hp) (fin _ ?_ ?_)
      · rw [wi64]; unfold I64; omega
      · have := mt (prod_cap k0 k1 hn).2 hp
        rw [wi64_in (by unfold I64; omega), (clip_in (by unfold I64; omega)).1]
  · have e : capV t = 0 := by omega
    refine bn (df hn) (fin _ ?_ ?_)
    · rw [wi64]; unfold I64; omega
    · rw [e, Int.mul_zero]; decide
theorem a_rBound (F : Nat) (hF : 200 ≤ F) {h k g t : Int} (hh : I64 h) (hk : I64 k) (hg : I64 g) : ok_ref28_Bound F h k g t = true ∧ o_ref28_Bound_0 F h k g t = boundV h k g t := by
  refine k_ref28_Bound F _ _ _ _ ?_
  unfold f_ref28_Bound
  dsimp only
  rw [show (if 65535 < (if 0 > t then 0 else t) then 65535 else (if 0 > t then 0 else t)) = capV t from rfl, show (if 0 > k then 0 else k) = nnV k from rfl, show (if 0 > h then 0 else h) = nnV h from rfl, show (if 0 > g then 0 else g) = nnV g from rfl]
  obtain ⟨b0, b1⟩ := cap_b t
  obtain ⟨kI, k0⟩ := nn_I hk
  obtain ⟨hI, _⟩ := nn_I hh
  obtain ⟨gI, _⟩ := nn_I hg
  have k1 : nnV k ≤ 9223372036854775807 := by unfold I64 at kI; omega
  obtain ⟨z0, z1⟩ := prod_b k0 k1 b0 b1
  obtain ⟨m1, m2, m3⟩ := a_rMul F hF kI (show I64 (capV t) by unfold I64; omega)
  refine bp m1 ?_
  rw [m2, m3]
  obtain ⟨c1, c2, _⟩ := a_rClip F (x := nnV k * capV t) (by unfold W128; omega)
  refine bp c1 ?_
  rw [c2]
  obtain ⟨s1, s2, _⟩ := a_rSum3 F hF hI gI (clipV_I (nnV k * capV t))
  refine bp s1 (some_int ?_)
  rw [s2]
  rfl
theorem a_rule (F : Nat) (g s l h : Int) : ok_law28_rule F g s l h = true ∧ o_law28_rule_0 F g s l h = g ∧ o_law28_rule_1 F g s l h = s ∧ o_law28_rule_2 F g s l h = l ∧ o_law28_rule_3 F g s l h = h := k_law28_rule F _ _ _ _ rfl
theorem a_corr (F : Nat) (g s l h : Int) : ok_law28_corr F g s l h = true ∧ o_law28_corr_0 F g s l h = g ∧ o_law28_corr_1 F g s l h = s ∧ o_law28_corr_2 F g s l h = l ∧ o_law28_corr_3 F g s l h = h := k_law28_corr F _ _ _ _ rfl
theorem a_works28 (F : Nat) (hF : 200 ≤ F) : ok_law28_works F = true ∧ o_law28_works_0 F = true := by
  refine k_law28_works F ?_
  unfold f_law28_works
  dsimp only
  obtain ⟨p0, p1, p2, p3, p4, p5⟩ := k_fuse_Pull F _ _ _ _ _ _ _ _ _ _ _ _ _ (f_fPull_ok F hF (g := 1) (s := 10) (l := 100) (h := 5) (c0 := 0) (c1 := 0) (c2 := 0) (la := 0) (o0 := 6) (o1 := 0) (o2 := 0) (n := 3) (t := 1) (by unfold I64; omega) (by unfold I64; omega) (by unfold I64; omega) (by unfold I64; omega) (by unfold I64; omega) (by decide))
  have e0 : axV 3 0 (pullV 1 10 100 0 6) 0 = 3 := by decide
  have e1 : axV 3 1 (pullV 1 10 100 0 0) 0 = 0 := by decide
  have e2 : axV 3 2 (pullV 1 10 100 0 0) 0 = 0 := by decide
  rw [e0] at p1
  rw [e1] at p2
  rw [e2] at p3
  obtain ⟨q0, q1, q2, q3, q4, q5⟩ := k_fuse_Pull F _ _ _ _ _ _ _ _ _ _ _ _ _ (f_fPull_ok F hF (g := 1) (s := 10) (l := 100) (h := 5) (c0 := 3) (c1 := 0) (c2 := 0) (la := 1) (o0 := 60) (o1 := 0) (o2 := 0) (n := 3) (t := 2) (by unfold I64; omega) (by unfold I64; omega) (by unfold I64; omega) (by unfold I64; omega) (by unfold I64; omega) (by decide))
  have g0 : axV 3 0 (pullV 1 10 100 3 60) 3 = 13 := by decide
  rw [g0] at q1
  rw [e1] at q2
  rw [e2] at q3
  obtain ⟨b1, b2⟩ := a_fBound F hF (h := 1) (k := 2) (g := 3) (t := 4) (by unfold I64; omega) (by unfold I64; omega) (by unfold I64; omega)
  have e3 : boundV 1 2 3 4 = 12 := by decide
  rw [e3] at b2
  rw [p1, p2, p3, p4]
  refine bp p0 (bp q0 (bp rfl (bp (by rw [q1, q2, q3]; rfl) (bp (by rw [p5]; rfl) (bp (by rw [q5]; rfl) (bp (by rw [q4]; rfl) (bp b1 (some_bool (by rw [b2]; rfl)))))))))
end Go.Xv
namespace Go.Xv
theorem f_FuseTells (F : Nat) (hF : 200 ≤ F) {a0 a1 a2 a3 a4 a5 a6 a7 a8 a9 a10 a11 a12 a13 : Int} (h0 : I64 a0) (h1 : I64 a1) (h2 : I64 a2) (h3 : I64 a3) (h4 : I64 a4) (h5 : I64 a5) (h6 : I64 a6) (h7 : I64 a7) (h8 : I64 a8) (h9 : I64 a9) (h10 : I64 a10) (h11 : I64 a11) (h12 : I64 a12) (h13 : I64 a13) :
    f_law28_FuseTells F a0 a1 a2 a3 a4 a5 a6 a7 a8 a9 a10 a11 a12 a13 = some (.v (.bool true)) := by
  obtain ⟨x0, x1, x2, x3, x4, pl, rl⟩ : ∃ x0 x1 x2 x3 x4 : Int, f_fuse_Pull F a0 a1 a2 a3 a4 a5 a6 a7 a8 a9 a10 a11 a12 = some (.v (.tuple #[.agg #[.int .i64 x0, .int .i64 x1, .int .i64 x2, .int .i64 x3], .int .i64 x4])) ∧ f_ref28_Pull F a0 a1 a2 a3 a4 a5 a6 a7 a8 a9 a10 a11 a12 = some (.v (.tuple #[.agg #[.int .i64 x0, .int .i64 x1, .int .i64 x2, .int .i64 x3], .int .i64 x4])) := by
    by_cases hp : PullOK a0 a1 a2 a3 a4 a5 a6 a7 a11 a12
    · exact ⟨_, _, _, _, _, f_fPull_ok F hF h1 h2 h8 h9 h10 hp, f_rPull_ok F hF h1 h2 h8 h9 h10 hp⟩
    · exact ⟨_, _, _, _, _, f_fPull_no F hF h2 hp, f_rPull_no F hF h2 hp⟩
  obtain ⟨y0, y1, y2, y3, y4, fl, gl⟩ : ∃ x0 x1 x2 x3 x4 : Int, f_fuse_Fade F a0 a1 a2 a3 a4 a5 a6 a7 a12 = some (.v (.tuple #[.agg #[.int .i64 x0, .int .i64 x1, .int .i64 x2, .int .i64 x3], .int .i64 x4])) ∧ f_ref28_Fade F a0 a1 a2 a3 a4 a5 a6 a7 a12 = some (.v (.tuple #[.agg #[.int .i64 x0, .int .i64 x1, .int .i64 x2, .int .i64 x3], .int .i64 x4])) := by
    by_cases hp : FadeOK a0 a1 a2 a3 a4 a5 a6 a7 a12
    · exact ⟨_, _, _, _, _, f_fFade_ok F hF h1 h2 hp, f_rFade_ok F hF h1 h2 hp⟩
    · exact ⟨_, _, _, _, _, f_fFade_no F hF h2 hp, f_rFade_no F hF h2 hp⟩
  obtain ⟨p0, p1, p2, p3, p4, p5⟩ := k_fuse_Pull F _ _ _ _ _ _ _ _ _ _ _ _ _ pl
  obtain ⟨q0, q1, q2, q3, q4, q5⟩ := k_ref28_Pull F _ _ _ _ _ _ _ _ _ _ _ _ _ rl
  obtain ⟨s0, s1, s2, s3, s4, s5⟩ := k_fuse_Fade F _ _ _ _ _ _ _ _ _ fl
  obtain ⟨t0, t1, t2, t3, t4, t5⟩ := k_ref28_Fade F _ _ _ _ _ _ _ _ _ gl
  obtain ⟨r0, r1, r2, r3, r4⟩ := a_rule F a0 a1 a2 a3
  obtain ⟨c0, c1, c2, c3, c4⟩ := a_corr F a4 a5 a6 a7
  obtain ⟨d0, d1, d2, d3, d4⟩ := a_corr F x0 x1 x2 x3
  obtain ⟨e0, e1, e2, e3, e4⟩ := a_corr F y0 y1 y2 y3
  obtain ⟨k0, k1⟩ := a_fCheck F a0 a1 a2 a3
  obtain ⟨l0, l1⟩ := a_rCheck F a0 a1 a2 a3
  obtain ⟨m0, m1⟩ := a_fRight F hF (g := a0) (s := a1) (h := a3) (c0 := a4) (c1 := a5) (c2 := a6) (t := a7) h2
  obtain ⟨n0, n1⟩ := a_rRight28 F hF (g := a0) (s := a1) (h := a3) (c0 := a4) (c1 := a5) (c2 := a6) (t := a7) h2
  obtain ⟨u0, u1⟩ := a_fBound F hF (h := a8) (k := a13) (g := a9) (t := a12) h8 h13 h9
  obtain ⟨v0, v1⟩ := a_rBound F hF (h := a8) (k := a13) (g := a9) (t := a12) h8 h13 h9
  obtain ⟨w0, w1⟩ := a_works28 F hF
  unfold f_law28_FuseTells
  dsimp only
  simp only [r1, r2, r3, r4, c1, c2, c3, c4, p1, p2, p3, p4, p5, q1, q2, q3, q4, q5, s1, s2, s3, s4, s5, t1, t2, t3, t4, t5, d1, d2, d3, d4, e1, e2, e3, e4, k1, l1, m1, n1, u1, v1, w1]
  have b : ∀ x : Int, (x == x) = true := fun x => by simp
  refine bp p0 (bp r0 (bp c0 (bp q0 (bp s0 (bp r0 (bp c0 (bp t0 (bp d0 (bp (by simp) (bp (b _) (bp e0 (bp (by simp) (bp (b _) (bp k0 (bp r0 (bp l0 (bp (b _) (bp m0 (bp r0 (bp c0 (bp n0 (bp (b _) (bp u0 (bp v0 (bp (b _) (bp w0 rfl))))))))))))))))))))))))))
end Go.Xv
namespace Go.Proofs.Ytiahhalhbacgaaa.fuseTells
open Go.ChangeShapes Go.WideShapes Go.ChangeAt Go.RowKit Go.Xv Go.Proofs.Ytiahhalhbacgaaa.base
set_option linter.unusedVariables false
set_option maxRecDepth 100000 in
theorem lifted (os : Os) (started : os.Started) (H : Type) (enc : TypeId × Value → H) :
    ReturnsInHanded {} Try.checked os 4 .any (Rows.fuseTellsSpec.pre6 enc Try.prog Try.f4 Rows.fuseTellsRow.domain false) (Rows.fuseTellsSpec.post enc Try.prog Try.f4 false true false false) := by
  refine returnsInHanded_of_change (C := Try.checked) own started (by kernel_rfl) Try.func4
    (ChangeSpec.witness6 (enc := enc) (C := Try.checked) false ⟨#[], #[.agg #[.int .i64 0, .int .i64 0, .int .i64 0, .int .i64 0], .agg #[.int .i64 0, .int .i64 0, .int .i64 0, .int .i64 0], .agg #[.int .i64 0, .int .i64 0, .int .i64 0], .int .i64 0, .int .i64 0, .int .i64 0], []⟩ 8 (by kernel_rfl) (by kernel_rfl) (by kernel_rfl) (by kernel_rfl)) ?_
  intro W base args ds gs before hval0 hW hcnd _
  have hval : ∀ (j : Nat) t v, Try.f4.params[j]? = some t → args[j]? = some v → Value.okWide Try.prog W .any base t v := hval0
  have hW' := hW
  obtain ⟨p, q, hA0, hV, rfl, hfz, hnd⟩ := hW
  have hA : DataW.TrodAll enc Try.prog W 0 (fun _ => true) true Try.f4.params.toList args.toList ds p := hA0
  rw [Try.params4] at hA hval
  obtain ⟨v0, vs0, d0, ds0, p0, q0, hargs, rfl, rfl, h0, r0⟩ := trodAll_cons hA
  obtain ⟨v1, vs1, d1, ds1, p1, q1, rfl, rfl, rfl, h1, r1⟩ := trodAll_cons r0
  obtain ⟨v2, vs2, d2, ds2, p2, q2, rfl, rfl, rfl, h2, r2⟩ := trodAll_cons r1
  obtain ⟨v3, vs3, d3, ds3, p3, q3, rfl, rfl, rfl, h3, r3⟩ := trodAll_cons r2
  obtain ⟨v4, vs4, d4, ds4, p4, q4, rfl, rfl, rfl, h4, r4⟩ := trodAll_cons r3
  obtain ⟨v5, vs5, d5, ds5, p5, q5, rfl, rfl, rfl, h5, r5⟩ := trodAll_cons r4
  obtain ⟨rfl, rfl, rfl⟩ := trodAll_nil r5
  obtain rfl : args = #[v0, v1, v2, v3, v4, v5] := by cases args; simp_all
  obtain ⟨l0, rfl, f0⟩ := open_flat (ks := [some .i64, some .i64, some .i64, some .i64]) (by kernel_rfl) (by kernel_rfl) (hval 0 24 v0 rfl rfl) h0
  obtain ⟨a0, l0, rfl, wa0, f0⟩ := fitW_some f0
  obtain ⟨a1, l0, rfl, wa1, f0⟩ := fitW_some f0
  obtain ⟨a2, l0, rfl, wa2, f0⟩ := fitW_some f0
  obtain ⟨a3, l0, rfl, wa3, f0⟩ := fitW_some f0
  obtain rfl := fitW_nil f0
  obtain ⟨l1, rfl, f1⟩ := open_flat (ks := [some .i64, some .i64, some .i64, some .i64]) (by kernel_rfl) (by kernel_rfl) (hval 1 31 v1 rfl rfl) h1
  obtain ⟨a4, l1, rfl, wa4, f1⟩ := fitW_some f1
  obtain ⟨a5, l1, rfl, wa5, f1⟩ := fitW_some f1
  obtain ⟨a6, l1, rfl, wa6, f1⟩ := fitW_some f1
  obtain ⟨a7, l1, rfl, wa7, f1⟩ := fitW_some f1
  obtain rfl := fitW_nil f1
  obtain ⟨l2, rfl, f2⟩ := open_flat (ks := [some .i64, some .i64, some .i64]) (by kernel_rfl) (by kernel_rfl) (hval 2 29 v2 rfl rfl) h2
  obtain ⟨a8, l2, rfl, wa8, f2⟩ := fitW_some f2
  obtain ⟨a9, l2, rfl, wa9, f2⟩ := fitW_some f2
  obtain ⟨a10, l2, rfl, wa10, f2⟩ := fitW_some f2
  obtain rfl := fitW_nil f2
  obtain ⟨a11, rfl, wa11⟩ := open_num (k := .i64) (by kernel_rfl) (hval 3 3 v3 rfl rfl) h3
  obtain ⟨a12, rfl, wa12⟩ := open_num (k := .i64) (by kernel_rfl) (hval 4 3 v4 rfl rfl) h4
  obtain ⟨a13, rfl, wa13⟩ := open_num (k := .i64) (by kernel_rfl) (hval 5 22 v5 rfl rfl) h5
  refine law_contract laidOut (g_law28_FuseTells fuel0) (bt := 4) (by kernel_rfl) (by kernel_rfl) (by kernel_rfl) (by kernel_rfl) rfl hW' ?_
  refine ⟨[.v (.agg #[.int .i64 a0, .int .i64 a1, .int .i64 a2, .int .i64 a3]), .v (.agg #[.int .i64 a4, .int .i64 a5, .int .i64 a6, .int .i64 a7]), .v (.agg #[.int .i64 a8, .int .i64 a9, .int .i64 a10]), .v (.int .i64 a11), .v (.int .i64 a12), .v (.int .i64 a13)], rfl, fun i x hx => ?_, unS_of ?_⟩
  · match i, hx with
    | 0, hx => exact ⟨_, rfl, by cases hx; exact Rel.v _ _⟩
    | 1, hx => exact ⟨_, rfl, by cases hx; exact Rel.v _ _⟩
    | 2, hx => exact ⟨_, rfl, by cases hx; exact Rel.v _ _⟩
    | 3, hx => exact ⟨_, rfl, by cases hx; exact Rel.v _ _⟩
    | 4, hx => exact ⟨_, rfl, by cases hx; exact Rel.v _ _⟩
    | 5, hx => exact ⟨_, rfl, by cases hx; exact Rel.v _ _⟩
    | _ + 6, hx => cases hx
  · obtain ⟨y1, y2⟩ := k_law28_FuseTells fuel0 a0 a1 a2 a3 a4 a5 a6 a7 a8 a9 a10 a11 a12 a13 (f_FuseTells fuel0 (by unfold fuel0; omega) (wf_i64 wa0) (wf_i64 wa1) (wf_i64 wa2) (wf_i64 wa3) (wf_i64 wa4) (wf_i64 wa5) (wf_i64 wa6) (wf_i64 wa7) (wf_i64 wa8) (wf_i64 wa9) (wf_i64 wa10) (wf_i64 wa11) (wf_i64 wa12) (wf_i64 wa13))
    have e : s_law28_FuseTells fuel0 [.v (.agg #[.int .i64 a0, .int .i64 a1, .int .i64 a2, .int .i64 a3]), .v (.agg #[.int .i64 a4, .int .i64 a5, .int .i64 a6, .int .i64 a7]), .v (.agg #[.int .i64 a8, .int .i64 a9, .int .i64 a10]), .v (.int .i64 a11), .v (.int .i64 a12), .v (.int .i64 a13)] = some (ok_law28_FuseTells fuel0 a0 a1 a2 a3 a4 a5 a6 a7 a8 a9 a10 a11 a12 a13, .v (.bool (o_law28_FuseTells_0 fuel0 a0 a1 a2 a3 a4 a5 a6 a7 a8 a9 a10 a11 a12 a13))) := by kernel_rfl
    rw [e, y1, y2]
theorem over : Rows.fuseTellsRow.holds Try.pinned (OpenSpec.ofChange Rows.fuseTellsSpec) :=
  OpenClaim.holds_of_wide 4 Try.f4 rfl rfl rfl rfl rfl rfl rfl ⟨rfl, rfl, rfl, rfl, rfl⟩ rfl rfl rfl rfl rfl (by kernel_rfl) Try.func4 (joined_of (P := Try.prog) behind enter_ rfl rfl ⟨rfl, rfl⟩ (by kernel_rfl))
    (of_decide_eq_true (by kernel_rfl)) (by unfold Func.isWrapper; first | (rw [if_pos (by decide +kernel)]; kernel_rfl) | (rw [if_neg (by decide +kernel)]; exact ⟨rfl, rfl⟩))
    (fun os started H enc _ => lifted os started H enc)
/-- The statement. -/
theorem proved : Rows.FuseTellsSaid := over
#print axioms proved
end Go.Proofs.Ytiahhalhbacgaaa.fuseTells
