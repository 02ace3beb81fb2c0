/- Any matrix is made upright, how far it is off, and its heading, as the document says: the law returns true for every input, and leaves its arguments as they were. -/
import Derived.Test.YtpnggkefjgpleaaLMatTells3
import Derived.KernelRfl
namespace Go.Xv
theorem lo_step (z : Int) (i : Nat) : IntKind.wrap .u64 (Int.tdiv (lo z / 2 ^ i) 2) = lo z / 2 ^ (i + 1) := by
  have h := lo_U z
  unfold U64 at h
  have h1 := Int.ediv_nonneg h.1 (Int.le_of_lt (p2pos i))
  have h2 := Int.ediv_le_self (2 ^ i) h.1
  rw [Int.tdiv_eq_ediv_of_nonneg h1, ediv2, wu64_in]
  have h3 := Int.ediv_nonneg h.1 (Int.le_of_lt (p2pos (i + 1)))
  have h4 := Int.ediv_le_self (2 ^ (i + 1)) h.1
  unfold U64; omega
theorem lo_bit (z : Int) {i : Nat} (h : i < 64) : IntKind.wrap .i64 (Int.tmod (lo z / 2 ^ i) 2) = dg z i := by
  have h0 := lo_U z
  unfold U64 at h0
  have h1 := Int.ediv_nonneg h0.1 (Int.le_of_lt (p2pos i))
  rw [Int.tmod_eq_emod_of_nonneg h1, dg_lo z h, wi64_in]
  have := dg_01 z i
  unfold I64; omega
theorem cap_ok (z : Int) (i : Nat) (h : i < 1000) : (((decide ((0 + (i * 1)) ≤ (ds z i).length)) && true) && (decide ((i + 1) * 9 ≤ bigger))) = true := by
  rw [ds_len, dt (by omega), dt (show (i + 1) * 9 ≤ bigger by unfold bigger; omega)]; rfl
theorem lp_Digits_0 (F : Nat) (ex) (z x0 x1 x5 x6 : Int) : ∀ (k n i : Nat) (x3 x4 : Int) (x7 : List VV), i + k = 64 → k < n → x3 = lo z / 2 ^ i → x4 = i → x7 = ds z i →
    L_i_0 F ex n x0 x1 i x3 x4 x5 x6 x7 = ex x0 x1 64 (lo z / 2 ^ 64) 64 x5 x6 (ds z 64)
  | _, 0, _, _, _, _, _, h, _, _, _ => absurd h (by omega)
  | 0, n + 1, i, _, _, _, h, _, rfl, rfl, rfl => by
    obtain rfl : i = 64 := by omega
    rw [L_i_0]
    unfold B_i_0 Bg_i_0
    exact bn (df (by omega)) rfl
  | k + 1, n + 1, i, _, _, _, h, hn, rfl, rfl, rfl => by
    rw [L_i_0]
    unfold B_i_0 Bg_i_0
    refine bp (dt (by omega)) (bp (cap_ok z _ (by omega)) ?_)
    refine lp_Digits_0 F ex z x0 x1 x5 x6 k n (i + 1) _ _ _ (by omega) (by omega) (lo_step z i) ?_ ?_
    · rw [wi64_in (by unfold I64; omega)]; push_cast; rfl
    · rw [ds_take, lo_bit z (by omega), ← ds_succ]
def up (z : Int) : Int := z / 18446744073709551616 % 18446744073709551616
theorem lp_Digits_1 (F : Nat) (ex) (z x0 x1 x3 x4 x7 x8 : Int) : ∀ (k n i j : Nat) (x5 x6 : Int) (x9 : List VV), i + k = 64 → j = 64 + i → k < n → x5 = up z / 2 ^ i → x6 = i → x9 = ds z j →
    L_i_1 F ex n x0 x1 j x3 x4 x5 x6 x7 x8 x9 = ex x0 x1 128 x3 x4 (up z / 2 ^ 64) 64 x7 x8 (ds z 128)
  | _, 0, _, _, _, _, _, _, _, h, _, _, _ => absurd h (by omega)
  | 0, n + 1, i, j, _, _, _, h, hj, _, rfl, rfl, rfl => by
    obtain rfl : i = 64 := by omega
    obtain rfl : j = 128 := by omega
    rw [L_i_1]
    unfold B_i_1 Bg_i_1
    exact bn (df (by omega)) rfl
  | k + 1, n + 1, i, j, _, _, _, h, hj, hn, rfl, rfl, rfl => by
    rw [L_i_1]
    unfold B_i_1 Bg_i_1
    refine bp (dt (by omega)) (bp (cap_ok z _ (by omega)) ?_)
    have e : up z = lo (z / 18446744073709551616) := rfl
    refine lp_Digits_1 F ex z x0 x1 x3 x4 x7 x8 k n (i + 1) (j + 1) _ _ _ (by omega) (by omega) (by omega) ?_ ?_ ?_
    · rw [e, lo_step]
    · rw [wi64_in (by unfold I64; omega)]; push_cast; rfl
    · rw [ds_take, e, lo_bit _ (by omega), ← dg_lo _ (by omega), ← e]
      unfold up
      rw [dg_hi z (by omega), ← hj, ← ds_succ]
theorem f_Digits (F : Nat) (hF : 200 ≤ F) {a b : Int} (hb : U64 b) : f_i F a b = some (.fs (ds (val a b) 128) 0 128 1) := by
  unfold f_i fg_i
  have hl := lo_val (h := a) hb
  rw [lp_Digits_0 F _ (val a b) a b a b 64 F 0 b 0 [] (by omega) (by omega) (by rw [hl]; simp) rfl rfl]
  rw [lp_Digits_1 F _ (val a b) a b _ _ _ _ 64 F 0 64 _ 0 _ (by omega) (by omega) (by omega) ?_ rfl rfl]
  rw [wu64]
  unfold up val
  unfold U64 at hb
  simp only [Int.pow_zero]
  omega

theorem num_iv (l : List VV) (i : Nat) (b : Int) (h : l[i]? = some (.v (.int .i64 b))) : isI .i64 l[i]? = true ∧ iv l[i]? = b := by
  rw [h]
  exact ⟨rfl, rfl⟩
theorem zmul (i : Nat) : (0 + ((Int.toNat (i : Int)) * 1)) = i := by simp
theorem lp_Number_0 (F : Nat) (ex) (z : Int) (l : List VV) (x1 : Nat) (x3 x6 x7 : Int) (h1 : 64 ≤ x1) (hl : ∀ i : Nat, i < 64 → l[i]? = some (.v (.int .i64 (dg z i)))) : ∀ (k n i : Nat) (x2 x4 x5 : Int), i + k = 64 → k < n → x2 = num z i → x4 = (2 ^ i) % 18446744073709551616 → x5 = i →
    L_j_0 F ex n l x1 x2 x3 x4 x5 x6 x7 = ex l x1 (num z 64) x3 0 64 x6 x7
  | _, 0, _, _, _, _, _, h, _, _, _ => absurd h (by omega)
  | 0, n + 1, i, _, _, _, h, _, rfl, rfl, rfl => by
    obtain rfl : i = 64 := by omega
    rw [L_j_0]
    unfold B_j_0 Bg_j_0
    exact bn (df (by omega)) rfl
  | k + 1, n + 1, i, _, _, _, h, hn, rfl, rfl, rfl => by
    have hi : i < 64 := by omega
    obtain ⟨g1, g2⟩ := num_iv l i _ (hl i hi)
    have hd := dg_01 z i
    have hp := p2pos i
    have hp2 := p2_lt64 hi
    have hb := num_bd z i
    rw [L_j_0]
    unfold B_j_0 Bg_j_0
    refine bp (dt (by omega)) (bp (dt (by omega)) (bp (by simp; omega) (bp (by rw [zmul, g1]; rfl) ?_)))
    rw [zmul, g2, wu64_in (x := dg z i) (by unfold U64; omega)]
    refine lp_Number_0 F ex z l x1 x3 x6 x7 h1 hl k n (i + 1) _ _ _ (by omega) (by omega) ?_ ?_ ?_
    · rw [num_succ]
      generalize (2 : Int) ^ i = P at *
      rw [Int.emod_eq_of_lt (a := P) (by omega) (by omega)]
      have : 0 ≤ dg z i * P ∧ dg z i * P ≤ P := by
        rcases (show dg z i = 0 ∨ dg z i = 1 by omega) with h | h <;> rw [h] <;> omega
      rw [wu64_in (x := dg z i * P) (by unfold U64; omega), wu64_in (by unfold U64; omega)]
    · rw [wu64, Int.pow_succ]
      omega
    · rw [wi64_in (by unfold I64; omega)]; push_cast; rfl
theorem lp_Number_1 (F : Nat) (ex) (z : Int) (l : List VV) (x1 : Nat) (x2 x5 x7 x8 : Int) (h1 : 128 ≤ x1) (hl : ∀ i : Nat, i < 64 → l[64 + i]? = some (.v (.int .i64 (dg z i)))) : ∀ (k n i : Nat) (x3 x4 x6 : Int), i + k = 64 → k < n → x3 = num z i → x4 = (2 ^ i) % 18446744073709551616 → x6 = 64 + i →
    L_j_1 F ex n l x1 x2 x3 x4 x5 x6 x7 x8 = ex l x1 x2 (num z 64) 0 x5 128 x7 x8
  | _, 0, _, _, _, _, _, h, _, _, _ => absurd h (by omega)
  | 0, n + 1, i, _, _, _, h, _, rfl, rfl, rfl => by
    obtain rfl : i = 64 := by omega
    rw [L_j_1]
    unfold B_j_1 Bg_j_1
    exact bn (df (by omega)) rfl
  | k + 1, n + 1, i, _, _, _, h, hn, rfl, rfl, rfl => by
    have hi : i < 64 := by omega
    obtain ⟨g1, g2⟩ := num_iv l (64 + i) _ (hl i hi)
    have hd := dg_01 z i
    have hp := p2pos i
    have hp2 := p2_lt64 hi
    have hb := num_bd z i
    have zm : (0 + ((Int.toNat (64 + (i : Int))) * 1)) = 64 + i := by omega
    rw [L_j_1]
    unfold B_j_1 Bg_j_1
    refine bp (dt (by omega)) (bp (dt (by omega)) (bp (by simp; omega) (bp (by rw [zm, g1]; rfl) ?_)))
    rw [zm, g2, wu64_in (x := dg z i) (by unfold U64; omega)]
    refine lp_Number_1 F ex z l x1 x2 x5 x7 x8 h1 hl k n (i + 1) _ _ _ (by omega) (by omega) ?_ ?_ ?_
    · rw [num_succ]
      generalize (2 : Int) ^ i = P at *
      rw [Int.emod_eq_of_lt (a := P) (by omega) (by omega)]
      have : 0 ≤ dg z i * P ∧ dg z i * P ≤ P := by
        rcases (show dg z i = 0 ∨ dg z i = 1 by omega) with h | h <;> rw [h] <;> omega
      rw [wu64_in (x := dg z i * P) (by unfold U64; omega), wu64_in (by unfold U64; omega)]
    · rw [wu64, Int.pow_succ]
      omega
    · rw [wi64_in (by unfold I64; omega)]; push_cast; omega
theorem dg_up (z : Int) (i : Nat) : dg z (64 + i) = dg (z / 18446744073709551616) i := by
  unfold dg
  rw [show (18446744073709551616 : Int) = 2 ^ 64 by decide, Int.ediv_ediv_of_nonneg (by decide), p2add]
theorem f_Number (F : Nat) (hF : 200 ≤ F) (z : Int) : f_j F (ds z 128) 128 = some (wd z) := by
  unfold f_j fg_j
  rw [lp_Number_0 F _ z (ds z 128) 128 0 0 0 (by omega) (fun i hi => ds_get z (by omega)) 64 F 0 0 1 0 (by omega) (by omega) (num_zero z).symm (by decide) rfl]
  rw [lp_Number_1 F _ (z / 18446744073709551616) (ds z 128) 128 _ _ _ _ (by omega) (fun i hi => by rw [ds_get z (by omega), dg_up]) 64 F 0 0 1 64 (by omega) (by omega) (num_zero _).symm (by decide) rfl]
  refine some_wd ?_ ?_
  · rw [wi64]; unfold num hi
    rw [show (2 : Int) ^ 64 = 18446744073709551616 by decide]
    omega
  · unfold num lo
    rw [show (2 : Int) ^ 64 = 18446744073709551616 by decide]
end Go.Xv
namespace Go.Xv
theorem wi64_s (i : Nat) (h : i < 1000) : IntKind.wrap .i64 ((i : Int) + 1) = ((i + 1 : Nat) : Int) := by
  rw [wi64_in (by unfold I64; omega)]; push_cast; rfl
theorem ix_ok (i n : Nat) (h : i < n) : ((decide (0 ≤ (i : Int))) && (decide ((i : Int) < ((n : Nat) : Int)))) = true := by
  rw [dt (by omega), dt (by omega)]; rfl
theorem isI_ds (z : Int) {i n : Nat} (h : i < n) : ((isI .i64 (ds z n)[0 + ((Int.toNat (i : Int)) * 1)]?) && true) = true := by
  rw [zmul, ds_get z h]; rfl
theorem iv_ds (z : Int) {i n : Nat} (h : i < n) : iv (ds z n)[0 + ((Int.toNat (i : Int)) * 1)]? = dg z i := by
  rw [zmul, ds_get z h]; rfl
theorem lp_Add_0 (F : Nat) (ex) (x y a b c d x9 x10 x11 x12 x13 x14 : Int) : ∀ (k n i : Nat) (x7 x8 : Int) (l : List VV), i + k = 128 → k < n → x7 = cy x y i → x8 = i → l = ds (x + y) i →
    L_cb_0 F ex n a b c d 128 128 i x7 x8 x9 x10 x11 x12 x13 x14 (ds x 128) (ds y 128) l = ex a b c d 128 128 128 (cy x y 128) 128 x9 x10 x11 x12 x13 x14 (ds x 128) (ds y 128) (ds (x + y) 128)
  | _, 0, _, _, _, _, _, h, _, _, _ => absurd h (by omega)
  | 0, n + 1, i, _, _, _, h, _, rfl, rfl, rfl => by
    obtain rfl : i = 128 := by omega
    rw [L_cb_0]
    unfold B_cb_0 Bg_cb_0
    exact bn (df (by omega)) rfl
  | k + 1, n + 1, i, _, _, _, h, hn, rfl, rfl, rfl => by
    have hi : i < 128 := by omega
    rw [L_cb_0]
    unfold B_cb_0 Bg_cb_0
    have h1 := dg_01 x i
    have h2 := dg_01 y i
    have h3 := cy_01 x y i
    obtain ⟨e1, e2⟩ := cy_succ x y i
    refine bp (dt (by omega)) (bp (ix_ok i 128 hi) (bp (isI_ds x hi) (bp (ix_ok i 128 hi) (bp (isI_ds y hi) ?_))))
    dsimp only
    rw [iv_ds x hi, iv_ds y hi, wi64_in (x := dg x i + dg y i) (by unfold I64; omega), wi64_in (x := dg x i + dg y i + cy x y i) (by unfold I64; omega)]
    refine bp (cap_ok _ _ (by omega)) ?_
    refine lp_Add_0 F ex x y a b c d x9 x10 x11 x12 x13 x14 k n (i + 1) _ _ _ (by omega) (by omega) ?_ (wi64_s i (by omega)) ?_
    · rw [Int.tdiv_eq_ediv_of_nonneg (by omega), ← e1, wi64_in]
      have := cy_01 x y (i + 1)
      unfold I64; omega
    · rw [ds_take, Int.tmod_eq_emod_of_nonneg (by omega), ← e2, ← ds_succ]
theorem f_rAdd (F : Nat) (hF : 200 ≤ F) {a b c d : Int} (hb : U64 b) (hd : U64 d) : f_cb F a b c d = some (wd (val a b + val c d)) := by
  unfold f_cb fg_cb
  obtain ⟨h1, h2, h3⟩ := k_i F _ _ (f_Digits F hF (a := a) hb)
  obtain ⟨g1, g2, g3⟩ := k_i F _ _ (f_Digits F hF (a := c) hd)
  refine bp h1 (bp g1 ?_)
  rw [h2, h3, g2, g3]
  rw [lp_Add_0 F _ (val a b) (val c d) a b c d a b c d 0 0 128 F 0 0 0 [] (by omega) (by omega) (cy_zero _ _).symm rfl rfl]
  obtain ⟨n1, n2, n3⟩ := k_j F _ _ (f_Number F hF (val a b + val c d))
  refine bp n1 ?_
  rw [n2, n3]; rfl
theorem lp_Neg_0 (F : Nat) (ex) (z x0 x1 x4 x5 x6 x7 : Int) : ∀ (k n i : Nat) (x3 : Int) (l : List VV), i + k = 128 → k < n → x3 = i → l = ds (-1 - z) i ++ (ds z 128).drop i →
    L_fb_0 F ex n x0 x1 128 x3 x4 x5 x6 x7 l = ex x0 x1 128 128 x4 x5 x6 x7 (ds (-1 - z) 128)
  | _, 0, _, _, _, _, h, _, _ => absurd h (by omega)
  | 0, n + 1, i, _, _, h, _, rfl, rfl => by
    obtain rfl : i = 128 := by omega
    rw [L_fb_0]
    unfold B_fb_0 Bg_fb_0
    refine bn (df (by omega)) ?_
    rw [List.drop_eq_nil_of_le (by rw [ds_len]; omega), List.append_nil]; rfl
  | k + 1, n + 1, i, _, _, h, hn, rfl, rfl => by
    have hi : i < 128 := by omega
    have hg : (ds (-1 - z) i ++ (ds z 128).drop i)[0 + ((Int.toNat (i : Int)) * 1)]? = some (.v (.int .i64 (dg z i))) := by
      rw [zmul, List.getElem?_append_right (by rw [ds_len]; omega), ds_len, Nat.sub_self, List.getElem?_drop, Nat.add_zero, ds_get z hi]
    rw [L_fb_0]
    unfold B_fb_0 Bg_fb_0
    have h1 := dg_01 z i
    refine bp (dt (by omega)) (bp (ix_ok i 128 hi) (bp (by rw [hg]; rfl) (bp (ix_ok i 128 hi) (bp ?_ ?_))))
    · rw [zmul, dt]
      rw [List.length_append, List.length_drop, ds_len, ds_len]; omega
    · rw [hg]
      refine lp_Neg_0 F ex z x0 x1 x4 x5 x6 x7 k n (i + 1) _ _ (by omega) (by omega) (wi64_s i (by omega)) ?_
      rw [zmul, show iv (some (VV.v (.int .i64 (dg z i)))) = dg z i from rfl, wi64_in (by unfold I64; omega), ← dg_not, ds_succ (-1 - z) i]
      rw [List.take_append_of_le_length (by rw [ds_len]; omega), List.take_of_length_le (by rw [ds_len]; omega), List.drop_append, ds_len, List.drop_drop, List.drop_eq_nil_of_le (by rw [ds_len]; omega)]
      rw [show i + (i + 1 - i) = i + 1 by omega]
      simp
theorem f_rNeg (F : Nat) (hF : 200 ≤ F) {a b : Int} (hb : U64 b) : f_fb F a b = some (wd (-val a b)) := by
  unfold f_fb fg_fb
  obtain ⟨h1, h2, h3⟩ := k_i F _ _ (f_Digits F hF (a := a) hb)
  refine bp h1 ?_
  rw [h2, h3]
  rw [lp_Neg_0 F _ (val a b) a b a b 0 0 128 F 0 0 _ (by omega) (by omega) rfl (by simp [ds_zero])]
  obtain ⟨n1, n2, n3⟩ := k_j F _ _ (f_Number F hF (-1 - val a b))
  refine bp n1 ?_
  dsimp only
  obtain ⟨o1, o2, o3⟩ := k_dc F _ (f_rOf F (n := 1) (by unfold I64; omega))
  refine bp o1 ?_
  rw [n2, n3, o2, o3]
  obtain ⟨p1, p2, p3⟩ := k_cb F _ _ _ _ (f_rAdd F hF (a := hi (-1 - val a b)) (c := hi 1) (lo_U (-1 - val a b)) (lo_U 1))
  refine bp p1 ?_
  rw [p2, p3]
  have e : Eqv (val (hi (-1 - val a b)) (lo (-1 - val a b)) + val (hi 1) (lo 1)) (-val a b) := by
    rw [val_hl, val_hl]
    have := (W_eqv (-1 - val a b)).add (W_eqv 1)
    rw [show -1 - val a b + 1 = -val a b by omega] at this
    exact this
  exact some_wd (hi_eqv e) (lo_eqv e)
end Go.Xv
namespace Go.Xv
theorem a_Add (F : Nat) (x y : Int) : ok_hc F (hi x) (lo x) (hi y) (lo y) = true ∧ o_hc_0 F (hi x) (lo x) (hi y) (lo y) = hi (x + y) ∧ o_hc_1 F (hi x) (lo x) (hi y) (lo y) = lo (x + y) := by
  obtain ⟨h1, h2, h3⟩ := k_hc F _ _ _ _ (f_Add F (a := hi x) (c := hi y) (lo_U x) (lo_U y))
  rw [h2, h3, val_hl, val_hl]
  have e := (W_eqv x).add (W_eqv y)
  exact ⟨h1, hi_eqv e, lo_eqv e⟩
theorem a_rAdd (F : Nat) (hF : 200 ≤ F) (x y : Int) : ok_cb F (hi x) (lo x) (hi y) (lo y) = true ∧ o_cb_0 F (hi x) (lo x) (hi y) (lo y) = hi (x + y) ∧ o_cb_1 F (hi x) (lo x) (hi y) (lo y) = lo (x + y) := by
  obtain ⟨h1, h2, h3⟩ := k_cb F _ _ _ _ (f_rAdd F hF (a := hi x) (c := hi y) (lo_U x) (lo_U y))
  rw [h2, h3, val_hl, val_hl]
  have e := (W_eqv x).add (W_eqv y)
  exact ⟨h1, hi_eqv e, lo_eqv e⟩
theorem a_Neg (F : Nat) (x : Int) : ok_kc F (hi x) (lo x) = true ∧ o_kc_0 F (hi x) (lo x) = hi (-x) ∧ o_kc_1 F (hi x) (lo x) = lo (-x) := by
  obtain ⟨h1, h2, h3⟩ := k_kc F _ _ (f_Neg F (hi_I x) (lo_U x))
  rw [h2, h3, val_hl]
  exact ⟨h1, hi_eqv (W_eqv x).neg, lo_eqv (W_eqv x).neg⟩
theorem a_rNeg (F : Nat) (hF : 200 ≤ F) (x : Int) : ok_fb F (hi x) (lo x) = true ∧ o_fb_0 F (hi x) (lo x) = hi (-x) ∧ o_fb_1 F (hi x) (lo x) = lo (-x) := by
  obtain ⟨h1, h2, h3⟩ := k_fb F _ _ (f_rNeg F hF (a := hi x) (lo_U x))
  rw [h2, h3, val_hl]
  exact ⟨h1, hi_eqv (W_eqv x).neg, lo_eqv (W_eqv x).neg⟩
theorem a_Of (F : Nat) {n : Int} (h : I64 n) : ok_tc F n = true ∧ o_tc_0 F n = hi n ∧ o_tc_1 F n = lo n := k_tc F _ (f_Of F h)
theorem a_rOf (F : Nat) {n : Int} (h : I64 n) : ok_dc F n = true ∧ o_dc_0 F n = hi n ∧ o_dc_1 F n = lo n := k_dc F _ (f_rOf F h)
theorem a_Mul (F : Nat) {a b : Int} (ha : I64 a) (hb : I64 b) : ok_jc F a b = true ∧ o_jc_0 F a b = hi (a * b) ∧ o_jc_1 F a b = lo (a * b) := k_jc F _ _ (f_Mul F ha hb)
theorem a_Near (F : Nat) {x : Int} (n : Int) (h : W128 x) : ok_xb F (hi x) (lo x) n = true ∧ o_xb_0 F (hi x) (lo x) n = hi (near x (cl n)) ∧ o_xb_1 F (hi x) (lo x) n = lo (near x (cl n)) := by
  have := k_xb F _ _ n (f_Near F (n := n) (hi_I x) (lo_U x))
  rw [val_hl, W_in h] at this
  exact this
theorem a_Left (F : Nat) (x n : Int) : ok_vb F (hi x) (lo x) n = true ∧ o_vb_0 F (hi x) (lo x) n = hi (x * 2 ^ n.toNat) ∧ o_vb_1 F (hi x) (lo x) n = lo (x * 2 ^ n.toNat) := by
  obtain ⟨h1, h2, h3⟩ := k_vb F _ _ n (f_Left F (a := hi x) (n := n) (lo_U x))
  rw [h2, h3, val_hl]
  exact ⟨h1, hi_eqv ((W_eqv x).mul _), lo_eqv ((W_eqv x).mul _)⟩

theorem lp_Mul_0 (F : Nat) (hF : 200 ≤ F) (ex) (a b x0 x1 x4 x5 : Int) : ∀ (k n i : Nat) (x3 x6 x7 x8 x9 : Int), i + k = 127 → k < n → x3 = i → x6 = hi (a * num b i) → x7 = lo (a * num b i) → x8 = hi (a * 2 ^ i) → x9 = lo (a * 2 ^ i) →
    L_eb_0 F ex n x0 x1 128 x3 x4 x5 x6 x7 x8 x9 (ds b 128) = ex x0 x1 128 127 x4 x5 (hi (a * num b 127)) (lo (a * num b 127)) (hi (a * 2 ^ 127)) (lo (a * 2 ^ 127)) (ds b 128)
  | _, 0, _, _, _, _, _, _, _, h, _, _, _, _, _ => absurd h (by omega)
  | 0, n + 1, i, _, _, _, _, _, h, _, rfl, rfl, rfl, rfl, rfl => by
    obtain rfl : i = 127 := by omega
    rw [L_eb_0]
    unfold B_eb_0 Bg_eb_0
    exact bn (df (by omega)) rfl
  | k + 1, n + 1, i, _, _, _, _, _, h, hn, rfl, rfl, rfl, rfl, rfl => by
    have hi' : i < 128 := by omega
    rw [L_eb_0]
    unfold B_eb_0 Bg_eb_0
    refine bp (dt (by omega)) (bp (ix_ok i 128 hi') (bp (isI_ds b hi') ?_))
    rw [iv_ds b hi']
    obtain ⟨d1, d2, d3⟩ := a_rAdd F hF (a * 2 ^ i) (a * 2 ^ i)
    have e2 : a * 2 ^ i + a * 2 ^ i = a * 2 ^ (i + 1) := by rw [Int.pow_succ, ← Int.mul_assoc]; omega
    rw [e2] at d2 d3
    rcases (show dg b i = 0 ∨ dg b i = 1 by have := dg_01 b i; omega) with hd | hd
    · refine bn (by rw [hd]; rfl) (bp d1 ?_)
      have e : num b (i + 1) = num b i := by rw [num_succ, hd]; omega
      exact lp_Mul_0 F hF ex a b x0 x1 x4 x5 k n (i + 1) _ _ _ _ _ (by omega) (by omega) (wi64_s i (by omega)) (by rw [e]) (by rw [e]) d2 d3
    · obtain ⟨c1, c2, c3⟩ := a_rAdd F hF (a * num b i) (a * 2 ^ i)
      have e : a * num b i + a * 2 ^ i = a * num b (i + 1) := by rw [num_succ, hd, Int.mul_add, Int.one_mul]
      rw [e] at c2 c3
      refine bp (by rw [hd]; rfl) (bp c1 (bp d1 ?_))
      exact lp_Mul_0 F hF ex a b x0 x1 x4 x5 k n (i + 1) _ _ _ _ _ (by omega) (by omega) (wi64_s i (by omega)) c2 c3 d2 d3
theorem num_127 {b : Int} (h : W128 b) : b = num b 127 - dg b 127 * 2 ^ 127 := by
  unfold num dg
  unfold W128 at h
  rw [show (2 : Int) ^ 127 = 170141183460469231731687303715884105728 by decide]
  omega
theorem I64_W {b : Int} (h : I64 b) : W128 b := by unfold I64 at h; unfold W128; omega
theorem f_rMul (F : Nat) (hF : 200 ≤ F) {a b : Int} (ha : I64 a) (hb : I64 b) : f_eb F a b = some (wd (a * b)) := by
  unfold f_eb fg_eb
  obtain ⟨h1, h2, h3⟩ := a_rOf F ha
  obtain ⟨g1, g2, g3⟩ := a_rOf F hb
  obtain ⟨d1, d2, d3⟩ := k_i F _ _ (f_Digits F hF (a := hi b) (lo_U b))
  rw [val_hl, W_in (I64_W hb)] at d2
  refine bp h1 (bp g1 ?_)
  rw [g2, g3, h2, h3]
  refine bp d1 ?_
  rw [d2, d3]
  rw [lp_Mul_0 F hF _ a b a b 0 0 127 F 0 0 0 0 _ _ (by omega) (by omega) rfl (by rw [num_zero, Int.mul_zero]; rfl) (by rw [num_zero, Int.mul_zero]; rfl) (by rw [Int.pow_zero, Int.mul_one]) (by rw [Int.pow_zero, Int.mul_one])]
  have hn := num_127 (I64_W hb)
  refine bp (dt (by decide)) (bp (isI_ds b (i := 127) (by omega)) ?_)
  have hg : iv (ds b 128)[127]? = dg b 127 := by rw [ds_get b (by omega)]; rfl
  rw [hg]
  rcases (show dg b 127 = 0 ∨ dg b 127 = 1 by have := dg_01 b 127; omega) with hd | hd
  · refine bn (by rw [hd]; rfl) ?_
    rw [hd] at hn
    rw [show num b 127 = b by omega]; rfl
  · obtain ⟨n1, n2, n3⟩ := a_rNeg F hF (a * 2 ^ 127)
    refine bp (by rw [hd]; rfl) (bp n1 ?_)
    rw [n2, n3]
    obtain ⟨c1, c2, c3⟩ := a_rAdd F hF (a * num b 127) (-(a * 2 ^ 127))
    refine bp c1 ?_
    rw [c2, c3]
    rw [hd] at hn
    have e : a * num b 127 + -(a * 2 ^ 127) = a * b := by
      rw [show num b 127 = b + 2 ^ 127 by omega, Int.mul_add]; omega
    rw [e]; rfl
theorem a_rMul (F : Nat) (hF : 200 ≤ F) {a b : Int} (ha : I64 a) (hb : I64 b) : ok_eb F a b = true ∧ o_eb_0 F a b = hi (a * b) ∧ o_eb_1 F a b = lo (a * b) := k_eb F _ _ (f_rMul F hF ha hb)
end Go.Xv
namespace Go.Xv
theorem f_rLess (F : Nat) {a b c d : Int} (hb : U64 b) (hd : U64 d) : f_da F a b c d = some (.v (.bool (decide (val a b < val c d)))) := by
  unfold f_da fg_da val
  unfold U64 at hb hd
  by_cases h : a < c
  · refine bp (dt h) (some_bool ?_)
    exact (dt (by omega)).symm
  · refine bn (df h) ?_
    by_cases h2 : a = c
    · refine bp (by simp [h2]) (some_bool ?_)
      rw [decide_eq_decide]; omega
    · refine bn (by simp [h2]) (some_bool ?_)
      exact (df (by omega)).symm
theorem W_div {y : Int} (h : W128 y) (i : Nat) : W128 (y / 2 ^ i) := by
  have hP := p2pos i
  unfold W128 at *
  generalize (2 : Int) ^ i = P at *
  rcases Int.lt_or_le y 0 with hn | hn
  · constructor
    · rw [Int.le_ediv_iff_mul_le hP]
      have : -170141183460469231731687303715884105728 * P ≤ -170141183460469231731687303715884105728 * 1 := Int.mul_le_mul_of_nonpos_left (by omega) (by omega)
      omega
    · have := Int.ediv_neg_of_neg_of_pos hn hP
      omega
  · have h1 := Int.ediv_nonneg hn (Int.le_of_lt hP)
    have h2 := Int.ediv_le_self P hn
    omega
theorem dg_half (y : Int) (j : Nat) : dg (y / 2) j = dg y (j + 1) := by
  unfold dg
  rw [Int.ediv_ediv_of_nonneg (by decide), show (2 : Int) * 2 ^ j = 2 ^ (j + 1) by rw [Int.pow_succ, Int.mul_comm]]
theorem dg_sign {y : Int} (h : W128 y) : dg (y / 2) 127 = dg y 127 := by
  unfold dg
  unfold W128 at h
  rw [show (2 : Int) ^ 127 = 170141183460469231731687303715884105728 by decide]
  omega
theorem ds_shift {y : Int} (h : W128 y) : ((ds y 128).drop 1).take (127 * 1) ++ [.v (.int .i64 (dg y 127))] = ds (y / 2) 128 := by
  apply List.ext_getElem?
  intro i
  rcases Nat.lt_or_ge i 127 with hi | hi
  · rw [List.getElem?_append_left (by simp [ds_len]; omega), List.getElem?_take, if_pos (by omega), List.getElem?_drop, ds_get _ (by omega), ds_get _ (by omega), dg_half, Nat.add_comm]
  · rcases Nat.lt_or_ge i 128 with hi2 | hi2
    · obtain rfl : i = 127 := by omega
      rw [List.getElem?_append_right (by simp [ds_len]), ds_get _ (by omega), dg_sign h]
      simp [ds_len]
    · rw [List.getElem?_eq_none (by simp [ds_len]; omega), List.getElem?_eq_none (by rw [ds_len]; omega)]
theorem lp_Right_0 (F : Nat) (ex) {z : Int} (hz : W128 z) (x0 x1 x2 x6 x7 x8 x9 : Int) (m : Nat) (hm : (if 127 < x2 then 127 else x2) ≤ (m : Int)) (hm2 : (m : Int) ≤ 0 ∨ (m : Int) = (if 127 < x2 then 127 else x2)) (h128 : m ≤ 127) : ∀ (k n i : Nat) (x4 x5 : Int) (l : List VV), i + k = m → k < n → x4 = dg z 127 → x5 = i → l = ds (z / 2 ^ i) 128 →
    L_q_0 F ex n x0 x1 x2 128 x4 x5 x6 x7 x8 x9 l = ex x0 x1 x2 128 (dg z 127) m x6 x7 x8 x9 (ds (z / 2 ^ m) 128)
  | _, 0, _, _, _, _, _, h, _, _, _ => absurd h (by omega)
  | 0, n + 1, i, _, _, _, h, _, rfl, rfl, rfl => by
    obtain rfl : i = m := by omega
    rw [L_q_0]
    unfold B_q_0 Bg_q_0
    exact bn (df (by omega)) rfl
  | k + 1, n + 1, i, _, _, _, h, hn, rfl, rfl, rfl => by
    rw [L_q_0]
    unfold B_q_0 Bg_q_0
    have hy := W_div hz i
    have hs : dg z 127 = dg (z / 2 ^ i) 127 := by
      have : ∀ j, dg (z / 2 ^ j) 127 = dg z 127 := by
        intro j
        induction j with
        | zero => simp
        | succ j ih => rw [← ediv2, dg_sign (W_div hz j), ih]
      exact (this i).symm
    refine bp (dt (by omega)) (bp rfl (bp ?_ ?_))
    · rw [ds_len, dt (by omega), dt (by unfold bigger; omega)]; rfl
    · refine lp_Right_0 F ex hz x0 x1 x2 x6 x7 x8 x9 m hm hm2 h128 k n (i + 1) _ _ _ (by omega) (by omega) rfl (wi64_s i (by omega)) ?_
      rw [hs, ds_shift hy, ediv2]
theorem f_rRight (F : Nat) (hF : 200 ≤ F) {a b n : Int} (ha : I64 a) (hb : U64 b) : f_q F a b n = some (wd (val a b / 2 ^ cl n)) := by
  unfold f_q fg_q
  obtain ⟨d1, d2, d3⟩ := k_i F _ _ (f_Digits F hF (a := a) hb)
  refine bp d1 ?_
  rw [d2, d3]
  refine bp (dt (by decide)) (bp (isI_ds (val a b) (i := 127) (by omega)) ?_)
  have hg : iv (ds (val a b) 128)[127]? = dg (val a b) 127 := by rw [ds_get _ (by omega)]; rfl
  have hm : ∃ m : Nat, (if 127 < n then 127 else n) ≤ (m : Int) ∧ ((m : Int) ≤ 0 ∨ (m : Int) = (if 127 < n then 127 else n)) ∧ m ≤ 127 ∧ cl n = m := by
    refine ⟨cl n, ?_⟩
    unfold cl
    by_cases h : 127 < n
    · rw [if_pos h, if_neg (show ¬ 0 > n by omega), if_pos h]; omega
    · rw [if_neg h]
      by_cases h2 : 0 > n
      · rw [if_pos h2, if_neg (by omega)]; omega
      · rw [if_neg h2, if_neg h]; omega
  obtain ⟨m, h1, h2, h3, h4⟩ := hm
  rw [lp_Right_0 F _ (val_W ha hb) a b n a b 0 0 m h1 h2 h3 m F 0 _ 0 _ (by omega) (by omega) hg rfl (by rw [Int.pow_zero, Int.ediv_one])]
  obtain ⟨n1, n2, n3⟩ := k_j F _ _ (f_Number F hF (val a b / 2 ^ m))
  refine bp n1 ?_
  rw [n2, n3, h4]; rfl
theorem f_rNear (F : Nat) (hF : 200 ≤ F) {a b n : Int} (ha : I64 a) (hb : U64 b) : f_ea F a b n = some (wd (near (val a b) (cl n))) := by
  unfold f_ea fg_ea
  by_cases h : n ≤ 0
  · rw [if_neg (show ¬ 127 < n by omega)]
    refine bp (dt h) ?_
    have : cl n = 0 := by
      unfold cl
      rw [if_neg]
      · split <;> omega
      · split <;> omega
    rw [this]
    exact some_wd (hi_val ha hb).symm (lo_val hb).symm
  · generalize hv : (if 127 < n then 127 else n) = v
    have hc : cl n = cl v := by
      subst hv
      unfold cl
      by_cases hn : 127 < n
      · rw [if_pos hn, if_neg (show ¬ 0 > n by omega), if_pos hn]; decide
      · rw [if_neg hn]
    have hv1 : 0 < v ∧ v ≤ 127 := by subst hv; split <;> omega
    obtain ⟨m, rfl⟩ : ∃ m : Nat, v = ((m + 1 : Nat) : Int) := ⟨(v - 1).toNat, by omega⟩
    have hcv : cl ((m + 1 : Nat) : Int) = m + 1 := by
      unfold cl
      rw [if_neg (show ¬ 0 > ((m + 1 : Nat) : Int) by omega), if_neg (by omega)]
      omega
    refine bn (df (by omega)) ?_
    obtain ⟨d1, d2, d3⟩ := k_i F _ _ (f_Digits F hF (a := a) hb)
    refine bp d1 ?_
    rw [d2, d3, wi64_in (x := ((m + 1 : Nat) : Int) - 1) (by unfold I64; omega), show ((m + 1 : Nat) : Int) - 1 = (m : Int) by omega]
    refine bp (ix_ok m 128 (by omega)) (bp (isI_ds _ (by omega)) ?_)
    rw [iv_ds _ (by omega)]
    obtain ⟨h1, h2, h3⟩ := k_q F _ _ _ (f_rRight F hF (n := ((m + 1 : Nat) : Int)) ha hb)
    refine bp h1 ?_
    have hd := dg_01 (val a b) m
    obtain ⟨o1, o2, o3⟩ := a_rOf F (n := dg (val a b) m) (by unfold I64; omega)
    refine bp o1 ?_
    rw [h2, h3, o2, o3]
    obtain ⟨k1, k2, k3⟩ := a_rAdd F hF (val a b / 2 ^ cl ((m + 1 : Nat) : Int)) (dg (val a b) m)
    refine bp k1 ?_
    rw [k2, k3, hc, hcv]
    unfold near
    rw [if_neg (by omega), show m + 1 - 1 = m by omega]
    rfl
theorem a_rNear (F : Nat) (hF : 200 ≤ F) {x : Int} (n : Int) (h : W128 x) : ok_ea F (hi x) (lo x) n = true ∧ o_ea_0 F (hi x) (lo x) n = hi (near x (cl n)) ∧ o_ea_1 F (hi x) (lo x) n = lo (near x (cl n)) := by
  have := k_ea F _ _ n (f_rNear F hF (n := n) (hi_I x) (lo_U x))
  rw [val_hl, W_in h] at this
  exact this
end Go.Xv
namespace Go.Xv
/-- one step of a division, bit by bit. -/
theorem div_step {X P T b : Int} (hP : 0 < P) (hT : 0 < T) (hPT : P * T = 170141183460469231731687303715884105728) (hX : 0 ≤ X) (hX2 : X < 340282366920938463463374607431768211456) (hb : 1 ≤ b) (hb2 : b ≤ 9223372036854775808) :
    (0 ≤ (X % (2 * T)) * P + X / (2 * T) / b ∧ (X % (2 * T)) * P + X / (2 * T) / b < 340282366920938463463374607431768211456) ∧
    ((X % (2 * T)) * P + X / (2 * T) / b) / 170141183460469231731687303715884105728 = X / T % 2 ∧
    (0 ≤ X / (2 * T) % b ∧ X / (2 * T) % b < b) ∧
    (b ≤ 2 * (X / (2 * T) % b) + X / T % 2 → X / T % b = 2 * (X / (2 * T) % b) + X / T % 2 - b ∧ ((X % (2 * T)) * P + X / (2 * T) / b) * 2 - (X / T % 2) * 340282366920938463463374607431768211456 + 1 = (X % T) * (P * 2) + X / T / b) ∧
    (2 * (X / (2 * T) % b) + X / T % 2 < b → X / T % b = 2 * (X / (2 * T) % b) + X / T % 2 ∧ ((X % (2 * T)) * P + X / (2 * T) / b) * 2 - (X / T % 2) * 340282366920938463463374607431768211456 = (X % T) * (P * 2) + X / T / b) ∧
    (X % T) * (P * 2) % 2 = 0 ∧ 0 ≤ (X % T) * (P * 2) + X / T / b ∧ (X % T) * (P * 2) + X / T / b < 340282366920938463463374607431768211456 := by
  have e1 : X / (2 * T) = X / T / 2 := by rw [Int.mul_comm, Int.ediv_ediv_of_nonneg (by omega)]
  have hd := Int.mul_ediv_add_emod X T
  have hr := Int.emod_nonneg X (show T ≠ 0 by omega)
  have hr2 := Int.emod_lt_of_pos X hT
  have hq : 0 ≤ X / T := Int.ediv_nonneg hX (by omega)
  have hqP : X / T < 2 * P := Int.ediv_lt_of_lt_mul hT (by rw [Int.mul_assoc, hPT]; omega)
  have e2 : X % (2 * T) = (X / T % 2) * T + X % T := by
    have h := Int.mul_ediv_add_emod X (2 * T)
    rw [e1] at h
    have e : X / T = 2 * (X / T / 2) + X / T % 2 := by omega
    have e3 : T * (X / T) = 2 * T * (X / T / 2) + (X / T % 2) * T := by
      have : T * (X / T) = T * (2 * (X / T / 2) + X / T % 2) := by rw [← e]
      rw [this, Int.mul_add]
      have : T * (2 * (X / T / 2)) = 2 * T * (X / T / 2) := by simp only [Int.mul_comm, Int.mul_assoc, Int.mul_left_comm]
      rw [this, Int.mul_comm T]
    omega
  rw [e1, e2]
  generalize X / T = h at *
  generalize X % T = r at *
  have hbit : 0 ≤ h % 2 ∧ h % 2 ≤ 1 := by omega
  have hH : h = 2 * (h / 2) + h % 2 := by omega
  generalize hg : h % 2 = bit at *
  generalize h / 2 = H at *
  have g1 := Int.mul_ediv_add_emod H b
  have g2 := Int.emod_nonneg H (show b ≠ 0 by omega)
  have g3 := Int.emod_lt_of_pos H (show 0 < b by omega)
  have hHP : H < P := by omega
  have hH0 : 0 ≤ H := by omega
  have hQ0 : 0 ≤ H / b := Int.ediv_nonneg hH0 (by omega)
  have hQH : H / b ≤ H := Int.ediv_le_self b hH0
  have hrP0 : 0 ≤ r * P := Int.mul_nonneg hr (by omega)
  have hrP : r * P ≤ (T - 1) * P := Int.mul_le_mul_of_nonneg_right (by omega) (by omega)
  rw [Int.sub_mul, Int.mul_comm T P, hPT] at hrP
  have hA : (bit * T + r) * P = bit * 170141183460469231731687303715884105728 + r * P := by
    rw [Int.add_mul, Int.mul_assoc, Int.mul_comm T P, hPT]
  have hrP2 : r * (P * 2) = r * P * 2 := by rw [Int.mul_assoc]
  rw [hA, hrP2]
  have hq1 : b ≤ 2 * (H % b) + bit → h % b = 2 * (H % b) + bit - b ∧ h / b = 2 * (H / b) + 1 := by
    intro hx
    have e : h = (2 * (H % b) + bit - b) + (2 * (H / b) + 1) * b := by
      rw [Int.add_mul, Int.one_mul, Int.mul_assoc, Int.mul_comm (H / b) b]; omega
    constructor
    · rw [e, Int.add_mul_emod_self_right, Int.emod_eq_of_lt (by omega) (by omega)]
    · rw [e, Int.add_mul_ediv_right _ _ (by omega), Int.ediv_eq_zero_of_lt (by omega) (by omega)]; omega
  have hq2 : 2 * (H % b) + bit < b → h % b = 2 * (H % b) + bit ∧ h / b = 2 * (H / b) := by
    intro hx
    have e : h = (2 * (H % b) + bit) + (2 * (H / b)) * b := by
      rw [Int.mul_assoc, Int.mul_comm (H / b) b]; omega
    constructor
    · rw [e, Int.add_mul_emod_self_right, Int.emod_eq_of_lt (by omega) (by omega)]
    · rw [e, Int.add_mul_ediv_right _ _ (by omega), Int.ediv_eq_zero_of_lt (by omega) (by omega)]; omega
  refine ⟨⟨by omega, by omega⟩, by omega, ⟨g2, g3⟩, fun hx => ?_, fun hx => ?_, by omega, ?_, ?_⟩
  · obtain ⟨a1, a2⟩ := hq1 hx
    refine ⟨a1, ?_⟩
    rw [a2]; omega
  · obtain ⟨a1, a2⟩ := hq2 hx
    refine ⟨a1, ?_⟩
    rw [a2]; omega
  · by_cases hx : b ≤ 2 * (H % b) + bit
    · rw [(hq1 hx).2]; omega
    · rw [(hq2 (by omega)).2]; omega
  · by_cases hx : b ≤ 2 * (H % b) + bit
    · rw [(hq1 hx).2]; omega
    · rw [(hq2 (by omega)).2]; omega
end Go.Xv
namespace Go.Xv
def clipV (z : Int) : Int := if z < -9223372036854775808 then -9223372036854775808 else if 9223372036854775807 < z then 9223372036854775807 else z
def clipC (z : Int) : Bool := decide (z < -9223372036854775808 ∨ 9223372036854775807 < z)
theorem clipV_I (z : Int) : I64 (clipV z) := by unfold I64 clipV; split <;> (try split) <;> omega
theorem some_clip {n : Int} {c : Bool} {z : Int} (h : n = clipV z) (k : c = clipC z) : (some (VV.v (.tuple #[.int .i64 n, .bool c])) : R) = some (.v (.tuple #[.int .i64 (clipV z), .bool (clipC z)])) := by rw [h, k]
theorem f_Clip (F : Nat) {a b : Int} (ha : I64 a) (hb : U64 b) : f_ub F a b = some (.v (.tuple #[.int .i64 (clipV (val a b)), .bool (clipC (val a b))])) := by
  unfold f_ub fg_ub
  dsimp only
  obtain ⟨o1, o2, o3⟩ := a_Of F (wi64_I b)
  refine bp o1 ?_
  rw [o2, o3, wi64]
  have hv : ∀ z, z = val a b → True := fun _ _ => trivial
  unfold I64 at ha
  unfold U64 at hb
  by_cases h : -9223372036854775808 ≤ val a b ∧ val a b ≤ 9223372036854775807
  · refine bp ?_ (some_clip ?_ ?_)
    · unfold val at h
      rw [Bool.and_eq_true, beq_iff_eq, beq_iff_eq]
      unfold hi lo; omega
    · unfold clipV
      rw [if_neg (by omega), if_neg (by omega)]
      unfold val at *; omega
    · unfold clipC
      exact (df (by omega)).symm
  · refine bn ?_ ?_
    · unfold val at h
      rw [Bool.and_eq_false_iff, beq_eq_false_iff_ne, beq_eq_false_iff_ne]
      unfold hi lo; omega
    · by_cases h2 : a < 0
      · refine bp (dt h2) (some_clip ?_ ?_)
        · unfold clipV
          rw [if_pos]
          unfold val at *; omega
        · unfold clipC
          refine (dt ?_).symm
          unfold val at *; omega
      · refine bn (df h2) (some_clip ?_ ?_)
        · unfold clipV
          rw [if_neg, if_pos]
          · unfold val at *; omega
          · unfold val at *; omega
        · unfold clipC
          refine (dt ?_).symm
          unfold val at *; omega
theorem f_rClip (F : Nat) {a b : Int} (ha : I64 a) (hb : U64 b) : f_ca F a b = some (.v (.tuple #[.int .i64 (clipV (val a b)), .bool (clipC (val a b))])) := by
  unfold f_ca fg_ca
  dsimp only
  obtain ⟨o1, o2, o3⟩ := a_rOf F (n := -9223372036854775808) (by unfold I64; omega)
  obtain ⟨p1, p2, p3⟩ := a_rOf F (n := 9223372036854775807) (by unfold I64; omega)
  obtain ⟨l1, l2⟩ := k_da F _ _ _ _ (f_rLess F (a := a) (c := hi (-9223372036854775808)) hb (lo_U (-9223372036854775808)))
  obtain ⟨m1, m2⟩ := k_da F _ _ _ _ (f_rLess F (a := hi 9223372036854775807) (c := a) (lo_U 9223372036854775807) hb)
  rw [val_hl, W_in (by unfold W128; omega)] at l2 m2
  refine bp o1 ?_
  rw [o2, o3]
  refine bp l1 ?_
  rw [l2]
  by_cases h : val a b < -9223372036854775808
  · refine bp (dt h) (some_clip ?_ ?_)
    · unfold clipV; rw [if_pos h]
    · unfold clipC; exact (dt (.inl h)).symm
  · refine bn (df h) (bp p1 ?_)
    rw [p2, p3]
    refine bp m1 ?_
    rw [m2]
    by_cases h2 : 9223372036854775807 < val a b
    · refine bp (dt h2) (some_clip ?_ ?_)
      · unfold clipV; rw [if_neg h, if_pos h2]
      · unfold clipC; exact (dt (.inr h2)).symm
    · refine bn (df h2) (some_clip ?_ ?_)
      · unfold clipV
        rw [if_neg h, if_neg h2, wi64]
        unfold I64 at ha
        unfold U64 at hb
        unfold val at *; omega
      · unfold clipC; exact (df (by omega)).symm
theorem a_Clip (F : Nat) {x : Int} (h : W128 x) : ok_ub F (hi x) (lo x) = true ∧ o_ub_0 F (hi x) (lo x) = clipV x ∧ o_ub_1 F (hi x) (lo x) = clipC x := by
  have := k_ub F _ _ (f_Clip F (hi_I x) (lo_U x))
  rw [val_hl, W_in h] at this
  exact this
theorem a_rClip (F : Nat) {x : Int} (h : W128 x) : ok_ca F (hi x) (lo x) = true ∧ o_ca_0 F (hi x) (lo x) = clipV x ∧ o_ca_1 F (hi x) (lo x) = clipC x := by
  have := k_ca F _ _ (f_rClip F (hi_I x) (lo_U x))
  rw [val_hl, W_in h] at this
  exact this

theorem or1 {E : Int} (h : E % 2 = 0) : orI .u64 (lo E) 1 = lo (E + 1) ∧ hi E = hi (E + 1) := by
  constructor
  · have hl := lo_U E
    unfold U64 at hl
    have e : lo E = lo E / 2 * ((2 ^ 1 : Nat) : Int) := by
      have : ((2 ^ 1 : Nat) : Int) = 2 := rfl
      rw [this]; unfold lo; omega
    have e2 : ((2 ^ 1 : Nat) : Int) = 2 := rfl
    rw [e, or_add_u64 1 (by omega) (by omega) (by rw [e2]; omega) (by rw [e2]; omega), ← e]
    unfold lo; omega
  · unfold hi; omega
theorem or_bit {R bit : Int} (hR : 0 ≤ R) (hR2 : R < 9223372036854775808) (hb : 0 ≤ bit) (hb2 : bit ≤ 1) : orI .u64 (IntKind.wrap .u64 (R * 2)) bit = 2 * R + bit := by
  have e2 : ((2 ^ 1 : Nat) : Int) = 2 := rfl
  have := or_add_u64 1 (a := R) (b := bit) hR hb (by rw [e2]; omega) (by rw [e2]; omega)
  rw [e2] at this
  rw [wu64_in (by unfold U64; omega), this]; omega
theorem up_bit {A : Int} (h : 0 ≤ A) (h2 : A < 340282366920938463463374607431768211456) : Int.fdiv (IntKind.wrap .u64 (hi A)) 9223372036854775808 = A / 170141183460469231731687303715884105728 := by
  rw [fdiv_pos _ (by decide), wu64]; unfold hi; omega
theorem p128 {i : Nat} (h : i < 128) : (2 : Int) ^ i * 2 ^ (127 - i) = 170141183460469231731687303715884105728 := by
  rw [p2add, show i + (127 - i) = 127 by omega]; decide
theorem p128' {i : Nat} (h : i < 128) : (2 : Int) ^ (128 - i) = 2 * 2 ^ (127 - i) := by
  rw [show 128 - i = (127 - i) + 1 by omega, Int.pow_succ, Int.mul_comm]
theorem lp_divide_0 (F : Nat) (ex) {X b : Int} (hX : 0 ≤ X) (hX2 : X < 340282366920938463463374607431768211456) (hb : 1 ≤ b) (hb2 : b ≤ 9223372036854775808) (x0 x1 x3 x8 x9 : Int) : ∀ (k n i : Nat) (x4 x5 x6 x7 : Int), i + k = 128 → k < n →
    x4 = X / 2 ^ (128 - i) % b → x5 = i → x6 = hi ((X % 2 ^ (128 - i)) * 2 ^ i + X / 2 ^ (128 - i) / b) → x7 = lo ((X % 2 ^ (128 - i)) * 2 ^ i + X / 2 ^ (128 - i) / b) →
    L_ba_0 F ex n x0 x1 b x3 x4 x5 x6 x7 x8 x9 = ex x0 x1 b x3 (X % b) 128 (hi (X / b)) (lo (X / b)) x8 x9
  | _, 0, _, _, _, _, _, _, h, _, _, _, _ => absurd h (by omega)
  | 0, n + 1, i, _, _, _, _, h, _, rfl, rfl, rfl, rfl => by
    obtain rfl : i = 128 := by omega
    rw [L_ba_0]
    unfold B_ba_0 Bg_ba_0
    refine bn (df (by omega)) ?_
    simp only [Nat.sub_self, Int.pow_zero, Int.ediv_one, Int.emod_one, Int.zero_mul, Int.zero_add]
    rfl
  | k + 1, n + 1, i, _, _, _, _, h, hn, rfl, rfl, rfl, rfl => by
    have hi' : i < 128 := by omega
    have ih := lp_divide_0 F ex hX hX2 hb hb2 x0 x1 x3 x8 x9 k n (i + 1)
    rw [show 128 - (i + 1) = 127 - i by omega, Int.pow_succ] at ih
    rw [L_ba_0]
    unfold B_ba_0 Bg_ba_0
    dsimp only
    rw [p128' hi']
    obtain ⟨⟨s1, s2⟩, s3, ⟨s4, s5⟩, s6, s7, s8, s9, s10⟩ := div_step (p2pos i) (p2pos (127 - i)) (p128 hi') hX hX2 hb hb2
    generalize (2 : Int) ^ i = P at *
    generalize (2 : Int) ^ (127 - i) = T at *
    generalize hAe : X % (2 * T) * P + X / (2 * T) / b = A at *
    generalize X / (2 * T) % b = R0 at *
    have hbit : 0 ≤ X / T % 2 ∧ X / T % 2 ≤ 1 := by omega
    obtain ⟨l1, l2, l3⟩ := a_Left F A 1
    rw [show ((1 : Int).toNat) = 1 from rfl, Int.pow_one] at l2 l3
    refine bp (dt (by omega)) (bp l1 ?_)
    rw [l2, l3, up_bit s1 s2, s3, or_bit s4 (by omega) hbit.1 hbit.2]
    refine bn ?_ ?_
    · rw [fdiv_pos _ (by decide), beq_eq_false_iff_ne]; omega
    · by_cases hc : b ≤ 2 * R0 + X / T % 2
      · refine bp (dt hc) ?_
        obtain ⟨c1, c2⟩ := s6 hc
        have hE : (A * 2) % 2 = 0 := by omega
        obtain ⟨e1, e2⟩ := or1 hE
        have hq : Eqv (A * 2 + 1) (X % T * (P * 2) + X / T / b) := by unfold Eqv; omega
        refine ih _ _ _ _ (by omega) (by omega) ?_ (wi64_s i (by omega)) ?_ ?_
        · rw [c1, wu64_in]
          unfold U64; omega
        · rw [e2, hi_eqv hq]
        · rw [e1, lo_eqv hq]
      · refine bn (df hc) ?_
        obtain ⟨c1, c2⟩ := s7 (by omega)
        have hq : Eqv (A * 2) (X % T * (P * 2) + X / T / b) := by unfold Eqv; omega
        exact ih _ _ _ _ (by omega) (by omega) c1.symm (wi64_s i (by omega)) (hi_eqv hq) (lo_eqv hq)
/-- a number of 128 bits without its sign -/
def un (z : Int) : Int := z % 340282366920938463463374607431768211456
theorem un_eqv (z : Int) : Eqv (un z) z := by unfold Eqv un; omega
theorem f_divide (F : Nat) (hF : 200 ≤ F) (z : Int) {b : Int} (hb : 1 ≤ b) (hb2 : b ≤ 9223372036854775808) : f_ba F (hi z) (lo z) b = some (.v (.tuple #[.agg #[.int .i64 (hi (un z / b)), .int .u64 (lo (un z / b))], .int .u64 (un z % b)])) := by
  unfold f_ba fg_ba
  have h1 : 0 ≤ un z ∧ un z < 340282366920938463463374607431768211456 := by unfold un; omega
  have e1 : un z / 2 ^ (128 - 0) = 0 := by
    rw [show (2 : Int) ^ (128 - 0) = 340282366920938463463374607431768211456 by decide]; omega
  have e2 : un z % 2 ^ (128 - 0) = un z := by
    rw [show (2 : Int) ^ (128 - 0) = 340282366920938463463374607431768211456 by decide]; omega
  rw [lp_divide_0 F _ h1.1 h1.2 hb hb2 (hi z) (lo z) 0 0 0 128 F 0 0 0 (hi z) (lo z) (by omega) (by omega) (by rw [e1]; simp) rfl
    (by rw [e1, e2, Int.zero_ediv, Int.pow_zero, Int.mul_one, Int.add_zero, hi_eqv (un_eqv z)]) (by rw [e1, e2, Int.zero_ediv, Int.pow_zero, Int.mul_one, Int.add_zero, lo_eqv (un_eqv z)])]
end Go.Xv
namespace Go.Xv
/-- a list of bits that fills up from its end -/
def fillL (Q : Int) (c : Nat) : List VV := List.replicate c (.v (.int .i64 0)) ++ (ds Q 128).drop c
theorem fill_len (Q : Int) {c : Nat} (h : c ≤ 128) : (fillL Q c).length = 128 := by
  unfold fillL
  rw [List.length_append, List.length_replicate, List.length_drop, ds_len]; omega
theorem drop_cons (Q : Int) {c : Nat} (h : c < 128) : (ds Q 128).drop c = .v (.int .i64 (dg Q c)) :: (ds Q 128).drop (c + 1) := by
  have h1 : c < (ds Q 128).length := by rw [ds_len]; exact h
  rw [List.drop_eq_getElem_cons h1]
  congr 1
  have := ds_get Q h
  rw [List.getElem?_eq_getElem h1] at this
  exact Option.some.inj this
theorem fill_zero (Q : Int) {c : Nat} (h : c < 128) (hd : dg Q c = 0) : fillL Q (c + 1) = fillL Q c := by
  unfold fillL
  rw [drop_cons Q h, hd, List.replicate_succ', List.append_assoc]; rfl
theorem fill_one (Q : Int) {c : Nat} (h : c < 128) (hd : dg Q c = 1) : (fillL Q (c + 1)).take c ++ [.v (.int .i64 1)] ++ (fillL Q (c + 1)).drop (c + 1) = fillL Q c := by
  unfold fillL
  rw [drop_cons Q h, hd, List.take_append_of_le_length (by rw [List.length_replicate]; omega), List.take_replicate, List.drop_append, List.length_replicate, List.drop_eq_nil_of_le (by rw [List.length_replicate]; omega)]
  rw [show min c (c + 1) = c by omega, Nat.sub_self, List.drop_zero, List.nil_append, List.append_assoc]; rfl
theorem quo_dg {X b : Int} (i : Nat) (hb : 1 ≤ b) : X / 2 ^ i / b % 2 = dg (X / b) i := by
  unfold dg
  rw [Int.ediv_ediv_of_nonneg (Int.le_of_lt (p2pos i)), Int.ediv_ediv_of_nonneg (by omega), Int.mul_comm]
theorem lp_rDiv_0 (F : Nat) (ex) {X b : Int} (hX : 0 ≤ X) (hX2 : X < 340282366920938463463374607431768211456) (hb : 1 ≤ b) (hb2 : b ≤ 9223372036854775808) (z : Int) (hz : X = un z) (x0 x1 x2 x3 : Int) (x4 : Bool) (x9 x10 x11 x12 x13 x14 : Int) : ∀ (c n : Nat) (x7 x8 : Int) (l : List VV), c ≤ 128 → c < n →
    x7 = X / 2 ^ c % b → x8 = (c : Int) - 1 → l = fillL (X / b) c →
    L_db_0 F ex n x0 x1 x2 x3 x4 b 128 x7 x8 x9 x10 x11 x12 x13 x14 (ds z 128) l = ex x0 x1 x2 x3 x4 b 128 (X % b) (-1) x9 x10 x11 x12 x13 x14 (ds z 128) (ds (X / b) 128)
  | _, 0, _, _, _, _, h, _, _, _ => absurd h (by omega)
  | 0, n + 1, _, _, _, _, _, rfl, rfl, rfl => by
    rw [L_db_0]
    unfold B_db_0 Bg_db_0
    refine bn (df (by omega)) ?_
    rw [Int.pow_zero, Int.ediv_one]
    rfl
  | c + 1, n + 1, _, _, _, hc, hn, rfl, rfl, rfl => by
    have hc' : c < 128 := by omega
    have ih := lp_rDiv_0 F ex hX hX2 hb hb2 z hz x0 x1 x2 x3 x4 x9 x10 x11 x12 x13 x14 c n
    rw [L_db_0]
    unfold B_db_0 Bg_db_0
    dsimp only
    rw [show ((c + 1 : Nat) : Int) - 1 = (c : Int) by omega]
    have hs := div_step (P := 2 ^ (127 - c)) (T := 2 ^ c) (p2pos _) (p2pos c) (by rw [Int.mul_comm, p128 hc']) hX hX2 hb hb2
    obtain ⟨_, _, ⟨s4, s5⟩, s6, s7, _⟩ := hs
    rw [show (2 : Int) * 2 ^ c = 2 ^ (c + 1) by rw [Int.pow_succ, Int.mul_comm]] at s4 s5 s6 s7
    have hbit : X / 2 ^ c % 2 = dg z c := by
      rw [hz]
      exact bitlo z (n := 128) hc'
    have hq := quo_dg (X := X) (b := b) c hb
    have hd := dg_01 z c
    have key : (b ≤ 2 * (X / 2 ^ (c + 1) % b) + dg z c → dg (X / b) c = 1) ∧ (2 * (X / 2 ^ (c + 1) % b) + dg z c < b → dg (X / b) c = 0) := by
      rw [← hq, ← hbit]
      have e : X / 2 ^ c / 2 = X / 2 ^ (c + 1) := ediv2 X c
      clear ih hn hbit hq hd
      generalize X / 2 ^ (c + 1) = H at *
      generalize X / 2 ^ c = h at *
      have g1 := Int.mul_ediv_add_emod H b
      constructor
      · intro hx
        obtain ⟨c1, _⟩ := s6 hx
        have e1 : h = (2 * (H % b) + h % 2 - b) + (2 * (H / b) + 1) * b := by
          rw [Int.add_mul, Int.one_mul, Int.mul_assoc, Int.mul_comm (H / b) b]; omega
        have : h / b = 2 * (H / b) + 1 := by
          have h2 : h / b = ((2 * (H % b) + h % 2 - b) + (2 * (H / b) + 1) * b) / b := by rw [← e1]
          rw [h2, Int.add_mul_ediv_right _ _ (by omega), Int.ediv_eq_zero_of_lt (by omega) (by omega)]; omega
        omega
      · intro hx
        have e1 : h = (2 * (H % b) + h % 2) + (2 * (H / b)) * b := by
          rw [Int.mul_assoc, Int.mul_comm (H / b) b]; omega
        have : h / b = 2 * (H / b) := by
          have h2 : h / b = ((2 * (H % b) + h % 2) + (2 * (H / b)) * b) / b := by rw [← e1]
          rw [h2, Int.add_mul_ediv_right _ _ (by omega), Int.ediv_eq_zero_of_lt (by omega) (by omega)]; omega
        omega
    rw [hbit] at s6 s7
    generalize hR : X / 2 ^ (c + 1) % b = R0 at *
    refine bp (dt (by omega)) (bp (ix_ok c 128 hc') (bp (isI_ds z hc') ?_))
    rw [iv_ds z hc', wu64_in (x := dg z c) (by unfold U64; omega), wu64_in (x := 2 * R0) (by unfold U64; omega), wu64_in (x := 2 * R0 + dg z c) (by unfold U64; omega)]
    refine bn (df (by omega)) ?_
    have w8 : IntKind.wrap .i64 ((c : Int) - 1) = (c : Int) - 1 := wi64_in (by unfold I64; omega)
    by_cases hx : b ≤ 2 * R0 + dg z c
    · refine bp (dt hx) (bp (ix_ok c 128 hc') (bp ?_ ?_))
      · rw [zmul, fill_len _ hc, dt (by omega)]
      · refine ih _ _ _ (by omega) (by omega) ?_ w8 ?_
        · rw [(s6 hx).1, wu64_in]
          unfold U64; omega
        · rw [zmul]
          exact fill_one _ hc' (key.1 hx)
    · refine bn (df hx) ?_
      exact ih _ _ _ (by omega) (by omega) (s7 (by omega)).1.symm w8 (fill_zero _ hc' (key.2 (by omega)))
theorem qt_un {z b : Int} (hz : W128 z) (hb : I64 b) (h0 : b ≠ 0) :
    (un (if z < 0 then -z else z) / (if b < 0 then -b else b) = if (decide (z < 0)) = (decide (b < 0)) then Int.tdiv z b else -Int.tdiv z b) ∧
    un (if z < 0 then -z else z) % (if b < 0 then -b else b) = (if z < 0 then -Int.tmod z b else Int.tmod z b) := by
  have e : un (if z < 0 then -z else z) = (if z < 0 then -z else z) := by unfold un; unfold W128 at hz; split <;> omega
  rw [e]
  by_cases h1 : z < 0 <;> by_cases h2 : b < 0
  · simp only [h1, h2, if_true]
    rw [← Int.tdiv_eq_ediv_of_nonneg (by omega), ← Int.tmod_eq_emod_of_nonneg (by omega), Int.neg_tdiv_neg, Int.neg_tmod, Int.tmod_neg]
    exact ⟨rfl, rfl⟩
  · simp only [h1, h2, if_true, if_false, decide_true, decide_false]
    rw [← Int.tdiv_eq_ediv_of_nonneg (by omega), ← Int.tmod_eq_emod_of_nonneg (by omega), Int.neg_tdiv, Int.neg_tmod]
    exact ⟨rfl, rfl⟩
  · simp only [h1, h2, if_true, if_false, decide_true, decide_false]
    rw [← Int.tdiv_eq_ediv_of_nonneg (by omega), ← Int.tmod_eq_emod_of_nonneg (by omega), Int.tdiv_neg, Int.tmod_neg]
    exact ⟨rfl, rfl⟩
  · simp only [h1, h2, if_true, if_false]
    rw [← Int.tdiv_eq_ediv_of_nonneg (by omega), ← Int.tmod_eq_emod_of_nonneg (by omega)]
    exact ⟨rfl, rfl⟩
end Go.Xv
namespace Go.Xv
/-- what a division answers -/
def divR (z b : Int) : Value := if b = 0 then .tuple #[.agg #[.int .i64 0, .int .u64 0], .int .i64 0, .bool false] else .tuple #[.agg #[.int .i64 (hi (Int.tdiv z b)), .int .u64 (lo (Int.tdiv z b))], .int .i64 (Int.tmod z b), .bool true]
theorem tmod_I {z b : Int} (hb : I64 b) (h0 : b ≠ 0) : -9223372036854775808 < Int.tmod z b ∧ Int.tmod z b < 9223372036854775808 := by
  unfold I64 at hb
  have h1 := Int.emod_nonneg (if z < 0 then -z else z) (show (if b < 0 then -b else b) ≠ 0 by split <;> omega)
  have h2 := Int.emod_lt_of_pos (if z < 0 then -z else z) (show 0 < (if b < 0 then -b else b) by split <;> omega)
  have h3 : (if z < 0 then -z else z) % (if b < 0 then -b else b) = (if z < 0 then -Int.tmod z b else Int.tmod z b) := by
    by_cases hz : z < 0 <;> by_cases hbn : b < 0 <;> simp only [hz, hbn, if_true, if_false]
    · rw [← Int.tmod_eq_emod_of_nonneg (by omega), Int.neg_tmod, Int.tmod_neg]
    · rw [← Int.tmod_eq_emod_of_nonneg (by omega), Int.neg_tmod]
    · rw [← Int.tmod_eq_emod_of_nonneg (by omega), Int.tmod_neg]
    · rw [← Int.tmod_eq_emod_of_nonneg (by omega)]
  rw [h3] at h1 h2
  revert h1 h2
  by_cases hz : z < 0 <;> simp only [hz, if_true, if_false] <;> intro h1 h2 <;> split at h2 <;> omega
theorem val_neg {a b : Int} (hb : U64 b) : (val a b < 0) ↔ a < 0 := by unfold val; unfold U64 at hb; omega
theorem some_div {x y r z b : Int} (h0 : b ≠ 0) (hx : x = hi (Int.tdiv z b)) (hy : y = lo (Int.tdiv z b)) (hr : r = Int.tmod z b) :
    (some (VV.v (.tuple #[.agg #[.int .i64 x, .int .u64 y], .int .i64 r, .bool true])) : R) = some (.v (divR z b)) := by
  unfold divR
  rw [if_neg h0, hx, hy, hr]
theorem f_Div (F : Nat) (hF : 200 ≤ F) {a c b : Int} (ha : I64 a) (hc : U64 c) (hb : I64 b) : f_ic F a c b = some (.v (divR (val a c) b)) := by
  unfold f_ic fg_ic
  dsimp only
  by_cases h0 : b = 0
  · refine bp (by simp [h0]) ?_
    unfold divR
    rw [if_pos h0]
  · refine bn (by simp [h0]) ?_
    have hz := val_W ha hc
    have hzn := val_neg (a := a) hc
    obtain ⟨q1, q2⟩ := qt_un hz hb h0
    have hm := tmod_I (z := val a c) hb h0
    obtain ⟨b1, b2⟩ := k_zb F b (f_bare F hb)
    have hb1 : 1 ≤ (if b < 0 then -b else b) ∧ (if b < 0 then -b else b) ≤ 9223372036854775808 := by unfold I64 at hb; split <;> omega
    by_cases han : a < 0
    · have hvn := hzn.2 han
      simp only [hvn, if_true, decide_true] at q1 q2
      obtain ⟨n1, n2, n3⟩ := k_kc F _ _ (f_Neg F ha hc)
      obtain ⟨d1, d2, d3, d4⟩ := k_ba F _ _ _ (f_divide F hF (-val a c) hb1.1 hb1.2)
      refine bp (dt han) (bp n1 (bp b1 ?_))
      rw [n2, n3, b2]
      refine bp d1 ?_
      rw [d2, d3, d4, q1, q2]
      have w1 : IntKind.wrap .i64 (0 - IntKind.wrap .i64 (-Int.tmod (val a c) b)) = Int.tmod (val a c) b := by rw [wi64, wi64]; omega
      by_cases hbn : b < 0
      · simp only [han, hbn, decide_true, if_true, BEq.rfl, Bool.not_true, cond_false, cond_true]
        exact some_div h0 rfl rfl w1
      · simp only [han, hbn, decide_true, decide_false]
        refine bp rfl ?_
        simp only [show ((true = false) ↔ False) by decide, if_false]
        obtain ⟨m1, m2, m3⟩ := a_Neg F (-Int.tdiv (val a c) b)
        refine bp m1 ?_
        rw [m2, m3, Int.neg_neg]
        exact bp rfl (some_div h0 rfl rfl w1)
    · have hvn : ¬ val a c < 0 := fun h => han (hzn.1 h)
      simp only [hvn, if_false, decide_false] at q1 q2
      have hv1 := hi_val ha hc
      have hv2 := lo_val (h := a) hc
      have hd := k_ba F _ _ _ (f_divide F hF (val a c) hb1.1 hb1.2)
      rw [hv1, hv2] at hd
      obtain ⟨d1, d2, d3, d4⟩ := hd
      refine bn (df han) (bp b1 ?_)
      rw [b2]
      refine bp d1 ?_
      rw [d2, d3, d4, q1, q2]
      have w1 : IntKind.wrap .i64 (Int.tmod (val a c) b) = Int.tmod (val a c) b := by rw [wi64]; omega
      by_cases hbn : b < 0
      · simp only [han, hbn, decide_true, decide_false]
        refine bp rfl ?_
        simp only [show ((false = true) ↔ False) by decide, if_false]
        obtain ⟨m1, m2, m3⟩ := a_Neg F (-Int.tdiv (val a c) b)
        refine bp m1 ?_
        rw [m2, m3, Int.neg_neg]
        exact bn rfl (some_div h0 rfl rfl w1)
      · simp only [han, hbn, decide_false, if_true, BEq.rfl, Bool.not_true, cond_false]
        exact some_div h0 rfl rfl w1
theorem rep_flat (x : VV) : ∀ n, (List.replicate n [x]).flatten = List.replicate n x
  | 0 => rfl
  | n + 1 => by rw [List.replicate_succ, List.flatten_cons, rep_flat x n, List.replicate_succ]; rfl
theorem fill_all (Q : Int) : (List.replicate 128 [VV.v (.int .i64 0)]).flatten = fillL Q 128 := by
  unfold fillL
  rw [rep_flat, List.drop_eq_nil_of_le (by rw [ds_len]; omega), List.append_nil]
theorem rDiv_loop (F : Nat) (hF : 200 ≤ F) (ex) (z : Int) {b : Int} (hb : 1 ≤ b) (hb2 : b ≤ 9223372036854775808) (x0 x1 x2 x3 : Int) (x4 : Bool) (x9 x10 x11 x12 x13 x14 : Int) :
    L_db_0 F ex F x0 x1 x2 x3 x4 b 128 0 127 x9 x10 x11 x12 x13 x14 (ds z 128) ((List.replicate 128 [VV.v (.int .i64 0)]).flatten) = ex x0 x1 x2 x3 x4 b 128 (un z % b) (-1) x9 x10 x11 x12 x13 x14 (ds z 128) (ds (un z / b) 128) := by
  have h1 : 0 ≤ un z ∧ un z < 340282366920938463463374607431768211456 := by unfold un; omega
  refine lp_rDiv_0 F ex h1.1 h1.2 hb hb2 z rfl x0 x1 x2 x3 x4 x9 x10 x11 x12 x13 x14 128 F 0 127 _ (by omega) (by omega) ?_ (by omega) (fill_all _)
  rw [show (2 : Int) ^ 128 = 340282366920938463463374607431768211456 by decide, Int.ediv_eq_zero_of_lt h1.1 h1.2]; simp
theorem f_rDiv (F : Nat) (hF : 200 ≤ F) {a c b : Int} (ha : I64 a) (hc : U64 c) (hb : I64 b) : f_db F a c b = some (.v (divR (val a c) b)) := by
  unfold f_db fg_db
  dsimp only
  by_cases h0 : b = 0
  · refine bp (by simp [h0]) ?_
    unfold divR
    rw [if_pos h0]
  · refine bn (by simp [h0]) ?_
    have hz := val_W ha hc
    have hzn := val_neg (a := a) hc
    obtain ⟨q1, q2⟩ := qt_un hz hb h0
    have hm := tmod_I (z := val a c) hb h0
    have hb1 : 1 ≤ (if b < 0 then -b else b) ∧ (if b < 0 then -b else b) ≤ 9223372036854775808 := by unfold I64 at hb; split <;> omega
    by_cases han : a < 0
    · have hvn := hzn.2 han
      simp only [hvn, if_true, decide_true] at q1 q2
      obtain ⟨n1, n2, n3⟩ := k_fb F _ _ (f_rNeg F hF (a := a) hc)
      obtain ⟨d1, d2, d3⟩ := k_i F _ _ (f_Digits F hF (a := hi (-val a c)) (lo_U (-val a c)))
      have hds : ds (W (-val a c)) 128 = ds (-val a c) 128 := by
        unfold ds
        apply List.map_congr_left
        intro i hi
        have hi : i < 128 := List.mem_range.1 hi
        unfold dg
        rw [← bitlo _ hi, ← bitlo (-val a c) hi]
        have := W_eqv (-val a c)
        unfold Eqv at this
        rw [show (2 : Int) ^ 128 = 340282366920938463463374607431768211456 by decide, this]
      rw [val_hl, hds] at d2
      refine bp (dt han) (bp n1 ?_)
      rw [n2, n3]
      have w1 : IntKind.wrap .i64 (0 - IntKind.wrap .i64 (-Int.tmod (val a c) b)) = Int.tmod (val a c) b := by rw [wi64, wi64]; omega
      by_cases hbn : b < 0
      · simp only [hbn, if_true, decide_true] at q1 q2 hb1
        have hw : IntKind.wrap .u64 (IntKind.wrap .u64 (IntKind.wrap .i64 (0 - IntKind.wrap .i64 (b + 1))) + 1) = -b := by unfold I64 at hb; rw [wi64, wi64, wu64, wu64]; omega
        refine bp (dt hbn) (bp d1 ?_)
        rw [d2, d3, hw, rDiv_loop F hF _ _ hb1.1 hb1.2, q1, q2]
        obtain ⟨e1, e2, e3⟩ := k_j F _ _ (f_Number F hF (Int.tdiv (val a c) b))
        refine bp e1 (bn (by simp [han, hbn]) (bp (dt han) ?_))
        rw [e2, e3]
        exact some_div h0 rfl rfl w1
      · simp only [hbn, if_false, decide_false, show ((true = false) ↔ False) by decide] at q1 q2 hb1
        refine bn (df hbn) (bp d1 ?_)
        rw [d2, d3, wu64_in (x := b) (by unfold I64 at hb; unfold U64; omega), rDiv_loop F hF _ _ hb1.1 hb1.2, q1, q2]
        obtain ⟨e1, e2, e3⟩ := k_j F _ _ (f_Number F hF (-Int.tdiv (val a c) b))
        obtain ⟨m1, m2, m3⟩ := a_rNeg F hF (-Int.tdiv (val a c) b)
        refine bp e1 (bp (by simp [han, hbn]) ?_)
        rw [e2, e3]
        refine bp m1 (bp (dt han) ?_)
        rw [m2, m3, Int.neg_neg]
        exact some_div h0 rfl rfl w1
    · have hvn : ¬ val a c < 0 := fun h => han (hzn.1 h)
      simp only [hvn, if_false, decide_false] at q1 q2
      obtain ⟨d1, d2, d3⟩ := k_i F _ _ (f_Digits F hF (a := a) hc)
      refine bn (df han) ?_
      have w1 : IntKind.wrap .i64 (Int.tmod (val a c) b) = Int.tmod (val a c) b := by rw [wi64]; omega
      by_cases hbn : b < 0
      · simp only [hbn, if_true, decide_true, show ((false = true) ↔ False) by decide, if_false] at q1 q2 hb1
        have hw : IntKind.wrap .u64 (IntKind.wrap .u64 (IntKind.wrap .i64 (0 - IntKind.wrap .i64 (b + 1))) + 1) = -b := by unfold I64 at hb; rw [wi64, wi64, wu64, wu64]; omega
        refine bp (dt hbn) (bp d1 ?_)
        rw [d2, d3, hw, rDiv_loop F hF _ _ hb1.1 hb1.2, q1, q2]
        obtain ⟨e1, e2, e3⟩ := k_j F _ _ (f_Number F hF (-Int.tdiv (val a c) b))
        obtain ⟨m1, m2, m3⟩ := a_rNeg F hF (-Int.tdiv (val a c) b)
        refine bp e1 (bp (by simp [han, hbn]) ?_)
        rw [e2, e3]
        refine bp m1 (bn (df han) ?_)
        rw [m2, m3, Int.neg_neg]
        exact some_div h0 rfl rfl w1
      · simp only [hbn, if_false, decide_false, if_true] at q1 q2 hb1
        refine bn (df hbn) (bp d1 ?_)
        rw [d2, d3, wu64_in (x := b) (by unfold I64 at hb; unfold U64; omega), rDiv_loop F hF _ _ hb1.1 hb1.2, q1, q2]
        obtain ⟨e1, e2, e3⟩ := k_j F _ _ (f_Number F hF (Int.tdiv (val a c) b))
        refine bp e1 (bn (by simp [han, hbn]) (bn (df han) ?_))
        rw [e2, e3]
        exact some_div h0 rfl rfl w1
end Go.Xv
namespace Go.Xv
theorem mul_bd {a b : Int} (ha : I64 a) (hb : I64 b) : -85070591730234615865843651857942052864 ≤ a * b ∧ a * b ≤ 85070591730234615865843651857942052864 := by
  unfold I64 at ha hb
  have h : (a * b).natAbs ≤ 9223372036854775808 * 9223372036854775808 := by
    rw [Int.natAbs_mul]
    exact Nat.mul_le_mul (by omega) (by omega)
  omega
theorem mul_W {a b : Int} (ha : I64 a) (hb : I64 b) : W128 (a * b) := by
  have := mul_bd ha hb
  unfold W128; omega
theorem cl32 : cl 32 = 32 := by decide
theorem near_W {z : Int} (h : -85070591730234615865843651857942052864 ≤ z ∧ z ≤ 85070591730234615865843651857942052864) : W128 (near z 32) := by
  unfold near
  rw [if_neg (by decide), show (2 : Int) ^ 32 = 4294967296 by decide, show (2 : Int) ^ (32 - 1) = 2147483648 by decide]
  unfold W128; omega
abbrev cp (z : Int) : VV := .v (.tuple #[.int .i64 (clipV z), .bool (clipC z)])
theorem clip_in {z : Int} (h : I64 z) : clipV z = z ∧ clipC z = false := by
  unfold I64 at h
  unfold clipV clipC
  exact ⟨by rw [if_neg (by omega), if_neg (by omega)], df (by omega)⟩

theorem f_fclip (F : Nat) {z : Int} (h : W128 z) : f_ac F (hi z) (lo z) = some (cp z) := by
  unfold f_ac fg_ac
  obtain ⟨h1, h2, h3⟩ := a_Clip F h
  refine bp h1 ?_
  rw [h2, h3]
theorem a_fclip (F : Nat) {z : Int} (h : W128 z) : ok_ac F (hi z) (lo z) = true ∧ o_ac_0 F (hi z) (lo z) = clipV z ∧ o_ac_1 F (hi z) (lo z) = clipC z := k_ac F _ _ (f_fclip F h)
theorem f_rclip2 (F : Nat) {z : Int} (h : W128 z) : f_fa F (hi z) (lo z) = some (cp z) := by
  unfold f_fa fg_fa
  obtain ⟨h1, h2, h3⟩ := a_rClip F h
  refine bp h1 ?_
  rw [h2, h3]
theorem a_rclip2 (F : Nat) {z : Int} (h : W128 z) : ok_fa F (hi z) (lo z) = true ∧ o_fa_0 F (hi z) (lo z) = clipV z ∧ o_fa_1 F (hi z) (lo z) = clipC z := k_fa F _ _ (f_rclip2 F h)
theorem f_fof (F : Nat) {n : Int} (h : I64 n) : f_uc F n = some (wd n) := by
  unfold f_uc fg_uc
  obtain ⟨h1, h2, h3⟩ := a_Of F h
  refine bp h1 ?_
  rw [h2, h3]; rfl
theorem a_fof (F : Nat) {n : Int} (h : I64 n) : ok_uc F n = true ∧ o_uc_0 F n = hi n ∧ o_uc_1 F n = lo n := k_uc F _ (f_fof F h)

theorem f_fSub (F : Nat) {a b : Int} (ha : I64 a) (hb : I64 b) : f_oc F a b = some (cp (a - b)) := by
  unfold f_oc fg_oc
  dsimp only
  have hs := wi64_I (a - b)
  have e := wi64 (a - b)
  generalize IntKind.wrap .i64 (a - b) = s at *
  have h1 := and_neg (xorI_I a b) (xorI_I a s)
  have h2 := xor_neg ha hb
  have h3 := xor_neg ha hs
  unfold I64 at ha hb hs
  by_cases h : -9223372036854775808 ≤ a - b ∧ a - b < 9223372036854775808
  · refine bp (dt ?_) (some_clip ?_ ?_)
    · have : ¬ andI .i64 (xorI .i64 a b) (xorI .i64 a s) < 0 := by
        rw [h1, h2, h3]; omega
      omega
    · rw [(clip_in h).1]; omega
    · rw [(clip_in h).2]
  · refine bn (df ?_) ?_
    · have : andI .i64 (xorI .i64 a b) (xorI .i64 a s) < 0 := by
        rw [h1, h2, h3]; omega
      omega
    · by_cases ha0 : a < 0
      · refine bp (dt ha0) (some_clip ?_ ?_)
        · unfold clipV; rw [if_pos (by omega)]
        · unfold clipC; exact (dt (by omega)).symm
      · refine bn (df ha0) (some_clip ?_ ?_)
        · unfold clipV; rw [if_neg (by omega), if_pos (by omega)]
        · unfold clipC; exact (dt (by omega)).symm
theorem a_fSub (F : Nat) {a b : Int} (ha : I64 a) (hb : I64 b) : ok_oc F a b = true ∧ o_oc_0 F a b = clipV (a - b) ∧ o_oc_1 F a b = clipC (a - b) := k_oc F _ _ (f_fSub F ha hb)
theorem I0 : I64 0 := by unfold I64; omega
theorem f_fNeg (F : Nat) {a : Int} (ha : I64 a) : f_nc F a = some (cp (-a)) := by
  unfold f_nc fg_nc
  obtain ⟨h1, h2, h3⟩ := a_fSub F I0 ha
  refine bp h1 ?_
  rw [h2, h3, Int.zero_sub]
theorem a_fNeg (F : Nat) {a : Int} (ha : I64 a) : ok_nc F a = true ∧ o_nc_0 F a = clipV (-a) ∧ o_nc_1 F a = clipC (-a) := k_nc F _ (f_fNeg F ha)
theorem f_fMul (F : Nat) {a b : Int} (ha : I64 a) (hb : I64 b) : f_mc F a b = some (cp (near (a * b) 32)) := by
  unfold f_mc fg_mc
  obtain ⟨h1, h2, h3⟩ := a_Mul F ha hb
  obtain ⟨n1, n2, n3⟩ := a_Near F 32 (mul_W ha hb)
  obtain ⟨c1, c2, c3⟩ := a_fclip F (near_W (mul_bd ha hb))
  refine bp h1 ?_
  rw [h2, h3]
  refine bp n1 ?_
  rw [n2, n3, cl32]
  refine bp c1 ?_
  rw [c2, c3]
theorem a_fMul (F : Nat) {a b : Int} (ha : I64 a) (hb : I64 b) : ok_mc F a b = true ∧ o_mc_0 F a b = clipV (near (a * b) 32) ∧ o_mc_1 F a b = clipC (near (a * b) 32) := k_mc F _ _ (f_fMul F ha hb)
theorem p32W {a : Int} (ha : I64 a) : W128 (a * 4294967296) := by unfold I64 at ha; unfold W128; omega
theorem f_fClamp (F : Nat) {a l h : Int} : f_ya F a l h = some (.v (.tuple #[.int .i64 (if h < l then l else min (max a l) h), .bool (if h < l then true else decide (min (max a l) h ≠ a))])) := by
  unfold f_ya fg_ya
  dsimp only
  by_cases hl : h < l
  · refine bp (dt hl) ?_
    rw [if_pos hl, if_pos hl]
  · refine bn (df hl) ?_
    rw [if_neg hl, if_neg hl]
    have e : (if h < (if l > a then l else a) then h else (if l > a then l else a)) = min (max a l) h := by split <;> (try split) <;> omega
    have e2 : (min (max a l) h != a) = decide (min (max a l) h ≠ a) := by rw [Bool.eq_iff_iff]; simp
    rw [e, e2]
theorem f_rSub2 (F : Nat) (hF : 200 ≤ F) {a b : Int} (ha : I64 a) (hb : I64 b) : f_ib F a b = some (cp (a - b)) := by
  unfold f_ib fg_ib
  obtain ⟨h1, h2, h3⟩ := a_rOf F ha
  obtain ⟨g1, g2, g3⟩ := a_rOf F hb
  obtain ⟨n1, n2, n3⟩ := a_rNeg F hF b
  obtain ⟨s1, s2, s3⟩ := a_rAdd F hF a (-b)
  obtain ⟨c1, c2, c3⟩ := a_rclip2 F (z := a + -b) (by unfold I64 at *; unfold W128; omega)
  refine bp h1 (bp g1 ?_)
  rw [h2, h3, g2, g3]
  refine bp n1 ?_
  rw [n2, n3]
  refine bp s1 ?_
  rw [s2, s3]
  refine bp c1 ?_
  rw [c2, c3, ← Int.sub_eq_add_neg]
theorem f_rMul2 (F : Nat) (hF : 200 ≤ F) {a b : Int} (ha : I64 a) (hb : I64 b) : f_hb F a b = some (cp (near (a * b) 32)) := by
  unfold f_hb fg_hb
  obtain ⟨h1, h2, h3⟩ := a_rMul F hF ha hb
  obtain ⟨n1, n2, n3⟩ := a_rNear F hF 32 (mul_W ha hb)
  obtain ⟨c1, c2, c3⟩ := a_rclip2 F (near_W (mul_bd ha hb))
  refine bp h1 ?_
  rw [h2, h3]
  refine bp n1 ?_
  rw [n2, n3, cl32]
  refine bp c1 ?_
  rw [c2, c3]
end Go.Xv
namespace Go.Xv
theorem angL_get : ∀ i : Nat, i < 30 → isI .i64 [.v (.int .i64 536870912), .v (.int .i64 316933406), .v (.int .i64 167458907), .v (.int .i64 85004756), .v (.int .i64 42667331), .v (.int .i64 21354465), .v (.int .i64 10679838), .v (.int .i64 5340245), .v (.int .i64 2670163), .v (.int .i64 1335087), .v (.int .i64 667544), .v (.int .i64 333772), .v (.int .i64 166886), .v (.int .i64 83443), .v (.int .i64 41722), .v (.int .i64 20861), .v (.int .i64 10430), .v (.int .i64 5215), .v (.int .i64 2608), .v (.int .i64 1304), .v (.int .i64 652), .v (.int .i64 326), .v (.int .i64 163), .v (.int .i64 81), .v (.int .i64 41), .v (.int .i64 20), .v (.int .i64 10), .v (.int .i64 5), .v (.int .i64 3), .v (.int .i64 1)][i]? = true ∧ iv [.v (.int .i64 536870912), .v (.int .i64 316933406), .v (.int .i64 167458907), .v (.int .i64 85004756), .v (.int .i64 42667331), .v (.int .i64 21354465), .v (.int .i64 10679838), .v (.int .i64 5340245), .v (.int .i64 2670163), .v (.int .i64 1335087), .v (.int .i64 667544), .v (.int .i64 333772), .v (.int .i64 166886), .v (.int .i64 83443), .v (.int .i64 41722), .v (.int .i64 20861), .v (.int .i64 10430), .v (.int .i64 5215), .v (.int .i64 2608), .v (.int .i64 1304), .v (.int .i64 652), .v (.int .i64 326), .v (.int .i64 163), .v (.int .i64 81), .v (.int .i64 41), .v (.int .i64 20), .v (.int .i64 10), .v (.int .i64 5), .v (.int .i64 3), .v (.int .i64 1)][i]? = tA i := by decide
theorem zmul1 (i : Nat) : (Int.toNat (i : Int)) * 1 = i := by simp
theorem turnedF (F : Nat) {x y : Int} {i : Nat} (hi : i < 64) (o : Bool) (h1 : I64 (rotX i o x y)) (h2 : I64 (rotY i o x y)) : ok_b F x y i o = true ∧ o_b_0 F x y i o = rotX i o x y ∧ o_b_1 F x y i o = rotY i o x y := by
  refine k_b F _ _ _ _ ?_
  unfold f_b fg_b
  have hd : (!decide ((i : Int) < 0)) = true := nn i
  have hP := p2pos i
  rw [hd, p2min (by omega), fdiv_pos _ (by omega), fdiv_pos _ (by omega)]
  simp only [cond_true]
  unfold rotX rotY at *
  cases o
  · simp only [Bool.false_eq_true, if_false, cond_false] at *
    rw [wi64_in h1, wi64_in h2]
  · simp only [if_true, cond_true] at *
    rw [wi64_in h1, wi64_in h2]
theorem unitF (F : Nat) (x : Int) : ok_qb F x = true ∧ o_qb_0 F x = cl01 x := by
  refine k_qb F _ ?_
  unfold f_qb fg_qb
  obtain ⟨h1, h2, h3⟩ := k_ya F _ _ _ (f_fClamp F (a := x) (l := 0) (h := 4294967296))
  rw [h1, h2]
  rfl
theorem lp_turn_Both_0 (F : Nat) (ex) {z : Int} (hz : 0 ≤ z ∧ z < 1073741824) (x0 x1 x2 : Int) : ∀ (k n i : Nat) (x3 x34 x35 x36 : Int), i + k = 30 → k < n → x34 = i → x35 = (bS z i).1 → x36 = (bS z i).2.1 → x3 = (bS z i).2.2 →
    L_ob_0 F ex n x0 x1 x2 x3 536870912 316933406 167458907 85004756 42667331 21354465 10679838 5340245 2670163 1335087 667544 333772 166886 83443 41722 20861 10430 5215 2608 1304 652 326 163 81 41 20 10 5 3 1 x34 x35 x36 = ex x0 x1 x2 (bS z 30).2.2 536870912 316933406 167458907 85004756 42667331 21354465 10679838 5340245 2670163 1335087 667544 333772 166886 83443 41722 20861 10430 5215 2608 1304 652 326 163 81 41 20 10 5 3 1 30 (bS z 30).1 (bS z 30).2.1
  | _, 0, _, _, _, _, _, _, h, _, _, _, _ => absurd h (by omega)
  | 0, n + 1, i, _, _, _, _, h, _, rfl, rfl, rfl, rfl => by
    obtain rfl : i = 30 := by omega
    rw [L_ob_0]
    unfold B_ob_0 Bg_ob_0
    exact bn (df (by omega)) rfl
  | k + 1, n + 1, i, _, _, _, _, h, hn, rfl, rfl, rfl, rfl => by
    have hi' : i < 30 := by omega
    obtain ⟨g1, g2⟩ := angL_get i hi'
    have b1 := bS_I z (i := i + 1) (by omega)
    have b2 := bS_z hz (i := i) (by omega)
    have b3 := tA_bd i hi'
    obtain ⟨t1, t2, t3⟩ := turnedF F (x := (bS z i).1) (y := (bS z i).2.1) (i := i) (by omega) (decide (0 ≤ (bS z i).2.2)) (by simp only [bS] at b1; unfold I64; omega) (by simp only [bS] at b1; unfold I64; omega)
    rw [L_ob_0]
    unfold B_ob_0 Bg_ob_0
    refine bp (dt (by omega)) (bp (by rw [zmul1, g1, show ((decide (0 ≤ (i : Int))) && (decide ((i : Int) < 30))) = true from ix_ok i 30 hi']; rfl) ?_)
    rw [zmul1, g2]
    have eg : decide ((bS z i).2.2 ≥ 0) = decide (0 ≤ (bS z i).2.2) := rfl
    rw [eg]
    refine bp t1 ?_
    rw [t2, t3]
    have w1 : IntKind.wrap .i64 ((i : Int) + 1) = ((i + 1 : Nat) : Int) := wi64_s i (by omega)
    rw [w1]
    by_cases hs : 0 ≤ (bS z i).2.2
    · refine bp (dt hs) ?_
      refine lp_turn_Both_0 F ex hz x0 x1 x2 k n (i + 1) _ _ _ _ (by omega) (by omega) rfl rfl rfl ?_
      simp only [bS]
      rw [if_pos hs, wi64_in (x := 0 - tA i) (by unfold I64; omega), wi64_in (by unfold I64; omega)]
      omega
    · refine bn (df hs) ?_
      refine lp_turn_Both_0 F ex hz x0 x1 x2 k n (i + 1) _ _ _ _ (by omega) (by omega) rfl rfl rfl ?_
      simp only [bS]
      rw [if_neg hs, wi64_in (by unfold I64; omega)]
theorem mask30_u32 {a : Int} (ha : U32 a) : andI .u32 a 1073741823 = a % 1073741824 := by
  have e : andI .u32 a 1073741823 = IntKind.wrap .u32 ((BitVec.ofInt 32 a &&& BitVec.ofInt 32 1073741823).toNat : Int) := rfl
  unfold U32 at ha
  have h1 : (BitVec.ofInt 32 a).toNat = a.toNat := by simp only [BitVec.toNat_ofInt]; omega
  have h2 : (BitVec.ofInt 32 1073741823).toNat = 2 ^ 30 - 1 := by decide
  rw [e, BitVec.toNat_and, h1, h2, Nat.and_two_pow_sub_one_eq_mod, wu32]
  omega
theorem angF (F : Nat) : ok_x F = true ∧ o_x_0 F = 536870912 ∧ o_x_1 F = 316933406 ∧ o_x_2 F = 167458907 ∧ o_x_3 F = 85004756 ∧ o_x_4 F = 42667331 ∧ o_x_5 F = 21354465 ∧ o_x_6 F = 10679838 ∧ o_x_7 F = 5340245 ∧ o_x_8 F = 2670163 ∧ o_x_9 F = 1335087 ∧ o_x_10 F = 667544 ∧ o_x_11 F = 333772 ∧ o_x_12 F = 166886 ∧ o_x_13 F = 83443 ∧ o_x_14 F = 41722 ∧ o_x_15 F = 20861 ∧ o_x_16 F = 10430 ∧ o_x_17 F = 5215 ∧ o_x_18 F = 2608 ∧ o_x_19 F = 1304 ∧ o_x_20 F = 652 ∧ o_x_21 F = 326 ∧ o_x_22 F = 163 ∧ o_x_23 F = 81 ∧ o_x_24 F = 41 ∧ o_x_25 F = 20 ∧ o_x_26 F = 10 ∧ o_x_27 F = 5 ∧ o_x_28 F = 3 ∧ o_x_29 F = 1 := k_x F rfl
theorem some_two {a b c d : Int} (h : a = c) (k : b = d) : (some (VV.v (.tuple #[.int .i64 a, .int .i64 b])) : R) = some (.v (.tuple #[.int .i64 c, .int .i64 d])) := by rw [h, k]
theorem f_tBoth (F : Nat) (hF : 200 ≤ F) {a : Int} (ha : U32 a) : f_ob F a = some (.v (.tuple #[.int .i64 (bothC a), .int .i64 (bothS a)])) := by
  unfold f_ob fg_ob
  obtain ⟨h0, e0, e1, e2, e3, e4, e5, e6, e7, e8, e9, e10, e11, e12, e13, e14, e15, e16, e17, e18, e19, e20, e21, e22, e23, e24, e25, e26, e27, e28, e29⟩ := angF F
  refine bp h0 ?_
  rw [e0, e1, e2, e3, e4, e5, e6, e7, e8, e9, e10, e11, e12, e13, e14, e15, e16, e17, e18, e19, e20, e21, e22, e23, e24, e25, e26, e27, e28, e29, mask30_u32 ha]
  have hz : 0 ≤ a % 1073741824 ∧ a % 1073741824 < 1073741824 := by omega
  rw [wi64_in (x := a % 1073741824) (by unfold I64; omega), lp_turn_Both_0 F _ hz a 0 0 30 F 0 (a % 1073741824) 0 2608131496 0 (by omega) (by omega) rfl rfl rfl rfl]
  obtain ⟨u1, u2⟩ := unitF F (bS (a % 1073741824) 30).1
  obtain ⟨v1, v2⟩ := unitF F (bS (a % 1073741824) 30).2.1
  refine bp u1 (bp v1 ?_)
  rw [u2, v2]
  obtain ⟨F, rfl⟩ : ∃ G, F = G + 4 := ⟨F - 4, by omega⟩
  have c1 := cl01_bd (bS (a % 1073741824) 30).1
  have c2 := cl01_bd (bS (a % 1073741824) 30).2.1
  unfold U32 at ha
  have w0 : IntKind.wrap .u32 (0 + 1) = 1 := by rw [wu32]; omega
  have w1 : IntKind.wrap .u32 (1 + 1) = 2 := by rw [wu32]; omega
  have w2 : IntKind.wrap .u32 (2 + 1) = 3 := by rw [wu32]; omega
  have eC : cl01 (bS (a % 1073741824) 30).1 = bC a := rfl
  have eN : cl01 (bS (a % 1073741824) 30).2.1 = bN a := rfl
  rw [eC] at c1 ⊢
  rw [eN] at c2 ⊢
  rw [fdiv_pos _ (by decide)]
  have n1 : IntKind.wrap .i64 (0 - bN a) = -bN a := by rw [wi64_in (by unfold I64; omega)]; omega
  have n2 : IntKind.wrap .i64 (0 - bC a) = -bC a := by rw [wi64_in (by unfold I64; omega)]; omega
  have n3 : IntKind.wrap .i64 (0 - -bN a) = bN a := by rw [wi64_in (by unfold I64; omega)]; omega
  unfold bothC bothS
  rw [L_ob_1]
  unfold B_ob_1 Bg_ob_1
  by_cases q0 : a / 1073741824 = 0
  · refine bn (df (by omega)) (some_two ?_ ?_) <;> rw [if_pos q0]
  · refine bp (dt (by omega)) ?_
    rw [w0, n1, L_ob_1]
    unfold B_ob_1 Bg_ob_1
    by_cases q1 : a / 1073741824 = 1
    · refine bn (df (by omega)) (some_two ?_ ?_) <;> rw [if_neg q0, if_pos q1]
    · refine bp (dt (by omega)) ?_
      rw [w1, n2, L_ob_1]
      unfold B_ob_1 Bg_ob_1
      by_cases q2 : a / 1073741824 = 2
      · refine bn (df (by omega)) (some_two ?_ ?_) <;> rw [if_neg q0, if_neg q1, if_pos q2]
      · refine bp (dt (by omega)) ?_
        rw [w2, n3, L_ob_1]
        unfold B_ob_1 Bg_ob_1
        refine bn (df (by omega)) (some_two ?_ ?_) <;> rw [if_neg q0, if_neg q1, if_neg q2]
theorem a_tBoth (F : Nat) (hF : 200 ≤ F) {a : Int} (ha : U32 a) : ok_ob F a = true ∧ o_ob_0 F a = bothC a ∧ o_ob_1 F a = bothS a := k_ob F _ (f_tBoth F hF ha)
theorem tq2_neg {x : Int} (h : x < 0) (d : Int) : Int.tdiv x d = -Int.tdiv (-x) d ∧ Int.tmod x d = -Int.tmod (-x) d := by
  constructor
  · rw [Int.neg_tdiv]; omega
  · rw [Int.neg_tmod]; omega
theorem tq2 (x : Int) : (0 ≤ x → Int.tdiv x 2 = x / 2 ∧ Int.tmod x 2 = x % 2) ∧ (x < 0 → Int.tdiv x 2 = -(-x / 2) ∧ Int.tmod x 2 = -(-x % 2)) := by
  refine ⟨fun h => ⟨Int.tdiv_eq_ediv_of_nonneg h, Int.tmod_eq_emod_of_nonneg h⟩, fun h => ?_⟩
  obtain ⟨h1, h2⟩ := tq2_neg h 2
  rw [h1, h2, Int.tdiv_eq_ediv_of_nonneg (by omega), Int.tmod_eq_emod_of_nonneg (by omega)]
  exact ⟨rfl, rfl⟩
theorem half_up (x : Int) (h : I64 x) : (Int.tmod x 2 < 0 → IntKind.wrap .i64 (IntKind.wrap .i64 (Int.tdiv x 2) - 1) = x / 2) ∧ (¬ Int.tmod x 2 < 0 → IntKind.wrap .i64 (Int.tdiv x 2) = x / 2) := by
  unfold I64 at h
  obtain ⟨q1, q2⟩ := tq2 x
  have e1 : IntKind.wrap .i64 (Int.tdiv x 2) = Int.tdiv x 2 := wi64_in (by unfold I64; omega)
  rw [e1]
  constructor
  · intro hm
    rw [wi64_in (by unfold I64; omega)]
    omega
  · intro hm
    omega
theorem I64_half {x : Int} (h : I64 x) (i : Nat) : I64 (x / 2 ^ i) := by
  unfold I64 at *
  have := ediv_bd (y := x) (B := 9223372036854775808) (by omega) i
  refine ⟨by omega, ?_⟩
  have hP := p2pos i
  rcases Int.lt_or_le x 0 with hn | hn
  · have := Int.ediv_neg_of_neg_of_pos hn hP; omega
  · have := Int.ediv_le_self (2 ^ i) hn; omega
theorem lp_over_0 (F : Nat) (ex) {x : Int} (hx : I64 x) (m : Nat) (hm : m < 1000) (x2 : Int) : ∀ (k n i : Nat) (x0 x3 : Int), i + k = m → k < n → x0 = x / 2 ^ i → x3 = i →
    L_ia_0 F ex n x0 m x2 x3 = ex (x / 2 ^ m) m x2 m
  | _, 0, _, _, _, _, h, _, _ => absurd h (by omega)
  | 0, n + 1, i, _, _, h, _, rfl, rfl => by
    obtain rfl : i = m := by omega
    rw [L_ia_0]
    unfold B_ia_0 Bg_ia_0
    exact bn (df (by omega)) rfl
  | k + 1, n + 1, i, _, _, h, hn, rfl, rfl => by
    rw [L_ia_0]
    unfold B_ia_0 Bg_ia_0
    refine bp (dt (by omega)) ?_
    obtain ⟨h1, h2⟩ := half_up _ (I64_half hx i)
    have w1 : IntKind.wrap .i64 ((i : Int) + 1) = ((i + 1 : Nat) : Int) := wi64_s i (by omega)
    dsimp only
    by_cases hc : Int.tmod (x / 2 ^ i) 2 < 0
    · refine bp (dt hc) ?_
      exact lp_over_0 F ex hx m hm x2 k n (i + 1) _ _ (by omega) (by omega) (by rw [h1 hc, ediv2]) w1
    · refine bn (df hc) ?_
      exact lp_over_0 F ex hx m hm x2 k n (i + 1) _ _ (by omega) (by omega) (by rw [h2 hc, ediv2]) w1
theorem a_over (F : Nat) (hF : 200 ≤ F) {x : Int} (hx : I64 x) {m : Nat} (hm : m < 100) : ok_ia F x m = true ∧ o_ia_0 F x m = x / 2 ^ m := by
  refine k_ia F _ _ ?_
  unfold f_ia fg_ia
  rw [lp_over_0 F _ hx m (by omega) 0 m F 0 x 0 (by omega) (by omega) (by simp) rfl]
theorem a_step (F : Nat) {i : Nat} (hi : i < 30) : ok_ja F i = true ∧ o_ja_0 F i = tA i := by
  refine k_ja F _ ?_
  unfold f_ja fg_ja
  obtain ⟨g1, g2⟩ := angL_get i hi
  refine bp (ix_ok i 30 hi) ?_
  dsimp only
  rw [zmul]
  refine bp (by rw [g1]; rfl) ?_
  rw [g2]
end Go.Xv
namespace Go.Xv
theorem sq_lt {x y : Int} (hx : 0 ≤ x) (h : x < y) : x * x < y * y := by
  have h1 : x * x ≤ x * y := Int.mul_le_mul_of_nonneg_left (by omega) hx
  have h2 : x * y < y * y := Int.mul_lt_mul_of_pos_right h (by omega)
  omega
theorem sq_le {x y : Int} (hx : 0 ≤ x) (h : x ≤ y) : x * x ≤ y * y := by
  rcases Int.lt_or_eq_of_le h with h | rfl
  · exact Int.le_of_lt (sq_lt hx h)
  · exact Int.le_refl _
/-- There is a root. -/
theorem root_ex (z : Int) (hz : 0 ≤ z) : ∃ x : Int, 0 ≤ x ∧ x * x ≤ z ∧ z < (x + 1) * (x + 1) := by
  obtain ⟨n, rfl⟩ := Int.eq_ofNat_of_zero_le hz
  induction n with
  | zero => exact ⟨0, by omega, by omega, by omega⟩
  | succ n ih =>
    obtain ⟨x, h1, h2, h3⟩ := ih (by omega)
    by_cases h : (x + 1) * (x + 1) ≤ ((n + 1 : Nat) : Int)
    · refine ⟨x + 1, by omega, h, ?_⟩
      have := sq_lt (x := x + 1) (y := x + 1 + 1) (by omega) (by omega)
      push_cast
      omega
    · refine ⟨x, h1, ?_, by omega⟩
      push_cast
      omega
noncomputable def rt (z : Int) : Int := if h : 0 ≤ z then Classical.choose (root_ex z h) else 0
theorem rt_spec {z : Int} (h : 0 ≤ z) : 0 ≤ rt z ∧ rt z * rt z ≤ z ∧ z < (rt z + 1) * (rt z + 1) := by
  unfold rt
  rw [dif_pos h]
  exact Classical.choose_spec (root_ex z h)
/-- a number is not beyond the root just if its square is not above -/
theorem rt_le {z y : Int} (hz : 0 ≤ z) (hy : 0 ≤ y) : y ≤ rt z ↔ y * y ≤ z := by
  obtain ⟨h3, h4, h5⟩ := rt_spec hz
  constructor
  · intro h
    have := sq_le hy h
    omega
  · intro h
    rcases Int.lt_or_le (rt z) y with hlt | hle
    · have := sq_le (x := rt z + 1) (y := y) (by omega) (by omega); omega
    · exact hle
/-- the root's upper bits -/
theorem top_step {r P : Int} (hr : 0 ≤ r) (hP : 0 < P) : (r / (2 * P) * (2 * P) + P ≤ r → r / P * P = r / (2 * P) * (2 * P) + P) ∧ (¬ r / (2 * P) * (2 * P) + P ≤ r → r / P * P = r / (2 * P) * (2 * P)) := by
  have e : r / (2 * P) = r / P / 2 := by rw [Int.mul_comm, Int.ediv_ediv_of_nonneg (by omega)]
  have hd := Int.mul_ediv_add_emod r P
  have h2 := Int.emod_nonneg r (show P ≠ 0 by omega)
  have h3 := Int.emod_lt_of_pos r hP
  rw [e]
  generalize r / P = q at *
  have hq : 0 ≤ q ∨ q < 0 := by omega
  have e1 : q / 2 * (2 * P) = 2 * (q / 2) * P := by simp only [Int.mul_comm, Int.mul_left_comm]
  rw [e1]
  rcases (show q = 2 * (q / 2) ∨ q = 2 * (q / 2) + 1 by omega) with h | h
  · rw [← h]
    constructor
    · intro hx
      rw [Int.mul_comm q P] at hx; omega
    · intro _; rfl
  · have e2 : q * P = 2 * (q / 2) * P + P := by
      have : q * P = (2 * (q / 2) + 1) * P := by rw [← h]
      rw [this, Int.add_mul, Int.one_mul]
    rw [← e2]
    constructor
    · intro _; rfl
    · intro hx
      rw [Int.mul_comm q P] at hx; omega
end Go.Xv
namespace Go.Xv
theorem f_Square (F : Nat) {n : Int} (hn : U64 n) : f_w F n = some (wd (n * n)) := by
  unfold f_w fg_w
  dsimp only
  unfold U64 at hn
  rw [fdiv_pos _ (by decide), mask32_u64 hn]
  have en : n = n / 4294967296 * 4294967296 + n % 4294967296 := by omega
  have hp : 0 ≤ n / 4294967296 ∧ n / 4294967296 ≤ 4294967295 := by omega
  have hq : 0 ≤ n % 4294967296 ∧ n % 4294967296 ≤ 4294967295 := by omega
  have bd : ∀ x y : Int, (0 ≤ x ∧ x ≤ 4294967295) → (0 ≤ y ∧ y ≤ 4294967295) → 0 ≤ x * y ∧ x * y ≤ 18446744065119617025 := by
    intro x y hx hy
    have h1 := Int.mul_nonneg hx.1 hy.1
    have h2 : x * y ≤ 4294967295 * 4294967295 := Int.mul_le_mul hx.2 hy.2 hy.1 (by decide)
    exact ⟨h1, by simpa using h2⟩
  have b1 := bd _ _ hp hp
  have b2 := bd _ _ hq hq
  have b3 := bd _ _ hp hq
  have hnn : n * n = (n / 4294967296) * (n / 4294967296) * 18446744073709551616 + (n / 4294967296) * (n % 4294967296) * 8589934592 + (n % 4294967296) * (n % 4294967296) := by
    generalize n / 4294967296 = p at *
    generalize n % 4294967296 = q at *
    subst en
    simp only [Int.add_mul, Int.mul_add]
    have : p * 4294967296 * (p * 4294967296) = p * p * 18446744073709551616 := by
      rw [show (18446744073709551616 : Int) = 4294967296 * 4294967296 by decide]
      simp only [Int.mul_comm, Int.mul_assoc, Int.mul_left_comm]
    have : p * 4294967296 * q = p * q * 4294967296 := by simp only [Int.mul_comm, Int.mul_assoc, Int.mul_left_comm]
    have : q * (p * 4294967296) = p * q * 4294967296 := by simp only [Int.mul_comm, Int.mul_assoc, Int.mul_left_comm]
    omega
  rw [hnn]
  generalize n / 4294967296 * (n / 4294967296) = pp at *
  generalize n / 4294967296 * (n % 4294967296) = pq at *
  generalize n % 4294967296 * (n % 4294967296) = qq at *
  rw [wu64_in (x := pp) (by unfold U64; omega), wu64_in (x := qq) (by unfold U64; omega), wu64_in (x := pq) (by unfold U64; omega)]
  obtain ⟨l1, l2, l3⟩ := k_vb F _ _ 33 (f_Left F (a := 0) (b := pq) (n := 33) (by unfold U64; omega))
  rw [show ((33 : Int).toNat) = 33 from rfl, show (2 : Int) ^ 33 = 8589934592 by decide] at l2 l3
  refine bp l1 ?_
  rw [l2, l3]
  obtain ⟨s1, s2, s3⟩ := k_hc F _ _ _ _ (f_Add F (a := IntKind.wrap .i64 pp) (b := qq) (c := hi (val 0 pq * 8589934592)) (by unfold U64; omega) (lo_U (val 0 pq * 8589934592)))
  refine bp s1 ?_
  rw [s2, s3]
  have e : Eqv (val (IntKind.wrap .i64 pp) qq + val (hi (val 0 pq * 8589934592)) (lo (val 0 pq * 8589934592))) (pp * 18446744073709551616 + pq * 8589934592 + qq) := by
    rw [val_hl]
    refine ((Eqv.rfl (x := val (IntKind.wrap .i64 pp) qq)).add (W_eqv _)).trans ?_
    rw [wi64]
    unfold Eqv val; omega
  exact some_wd (hi_eqv e) (lo_eqv e)
theorem a_Square (F : Nat) {n : Int} (hn : U64 n) : ok_w F n = true ∧ o_w_0 F n = hi (n * n) ∧ o_w_1 F n = lo (n * n) := k_w F _ (f_Square F hn)
theorem lp_rSquare_0 (F : Nat) (hF : 200 ≤ F) (ex) (a b x0 x3 x4 : Int) : ∀ (k n i : Nat) (x2 x5 x6 x7 x8 : Int), i + k = 64 → k < n → x2 = i → x5 = hi (a * num b i) → x6 = lo (a * num b i) → x7 = hi (a * 2 ^ i) → x8 = lo (a * 2 ^ i) →
    L_k_0 F ex n x0 128 x2 x3 x4 x5 x6 x7 x8 (ds b 128) = ex x0 128 64 x3 x4 (hi (a * num b 64)) (lo (a * num b 64)) (hi (a * 2 ^ 64)) (lo (a * 2 ^ 64)) (ds b 128)
  | _, 0, _, _, _, _, _, _, _, h, _, _, _, _, _ => absurd h (by omega)
  | 0, n + 1, i, _, _, _, _, _, h, _, rfl, rfl, rfl, rfl, rfl => by
    obtain rfl : i = 64 := by omega
    rw [L_k_0]
    unfold B_k_0 Bg_k_0
    exact bn (df (by omega)) rfl
  | k + 1, n + 1, i, _, _, _, _, _, h, hn, rfl, rfl, rfl, rfl, rfl => by
    have hi' : i < 128 := by omega
    rw [L_k_0]
    unfold B_k_0 Bg_k_0
    refine bp (dt (by omega)) (bp (ix_ok i 128 hi') (bp (isI_ds b hi') ?_))
    rw [iv_ds b hi']
    obtain ⟨d1, d2, d3⟩ := a_rAdd F hF (a * 2 ^ i) (a * 2 ^ i)
    have e2 : a * 2 ^ i + a * 2 ^ i = a * 2 ^ (i + 1) := by rw [Int.pow_succ, ← Int.mul_assoc]; omega
    rw [e2] at d2 d3
    rcases (show dg b i = 0 ∨ dg b i = 1 by have := dg_01 b i; omega) with hd | hd
    · refine bn (by rw [hd]; rfl) (bp d1 ?_)
      have e : num b (i + 1) = num b i := by rw [num_succ, hd]; omega
      exact lp_rSquare_0 F hF ex a b x0 x3 x4 k n (i + 1) _ _ _ _ _ (by omega) (by omega) (wi64_s i (by omega)) (by rw [e]) (by rw [e]) d2 d3
    · obtain ⟨c1, c2, c3⟩ := a_rAdd F hF (a * num b i) (a * 2 ^ i)
      have e : a * num b i + a * 2 ^ i = a * num b (i + 1) := by rw [num_succ, hd, Int.mul_add, Int.one_mul]
      rw [e] at c2 c3
      refine bp (by rw [hd]; rfl) (bp c1 (bp d1 ?_))
      exact lp_rSquare_0 F hF ex a b x0 x3 x4 k n (i + 1) _ _ _ _ _ (by omega) (by omega) (wi64_s i (by omega)) c2 c3 d2 d3
theorem hl_U {n : Int} (h : U64 n) : hi n = 0 ∧ lo n = n := by unfold U64 at h; unfold hi lo; omega
theorem f_rSquare (F : Nat) (hF : 200 ≤ F) {n : Int} (hn : U64 n) : f_k F n = some (wd (n * n)) := by
  unfold f_k fg_k
  obtain ⟨d1, d2, d3⟩ := k_i F _ _ (f_Digits F hF (a := 0) hn)
  have e0 : val 0 n = n := by unfold val; omega
  rw [e0] at d2
  obtain ⟨h1, h2⟩ := hl_U hn
  refine bp d1 ?_
  rw [d2, d3]
  rw [lp_rSquare_0 F hF _ n n n 0 0 64 F 0 0 0 0 0 n (by omega) (by omega) rfl (by rw [num_zero, Int.mul_zero]; rfl) (by rw [num_zero, Int.mul_zero]; rfl) (by rw [Int.pow_zero, Int.mul_one, h1]) (by rw [Int.pow_zero, Int.mul_one, h2])]
  have e : num n 64 = n := by
    unfold num
    unfold U64 at hn
    rw [show (2 : Int) ^ 64 = 18446744073709551616 by decide]; omega
  rw [e]; rfl
theorem a_rSquare (F : Nat) (hF : 200 ≤ F) {n : Int} (hn : U64 n) : ok_k F n = true ∧ o_k_0 F n = hi (n * n) ∧ o_k_1 F n = lo (n * n) := k_k F _ (f_rSquare F hF hn)

theorem rt_bd {z : Int} (h : 0 ≤ z) (h2 : z < 170141183460469231731687303715884105728) : 0 ≤ rt z ∧ rt z ≤ 13043817825332782212 := by
  obtain ⟨h3, h4, h5⟩ := rt_spec h
  refine ⟨h3, ?_⟩
  rcases Int.lt_or_le 13043817825332782212 (rt z) with hlt | hle
  · have := sq_le (x := 13043817825332782213) (y := rt z) (by omega) (by omega)
    have e : (13043817825332782213 : Int) * 13043817825332782213 = 170141183460469231748655437451289177369 := by decide
    omega
  · exact hle
theorem sq_bd {y : Int} (h : 0 ≤ y) (h2 : y < 18446744073709551616) : 0 ≤ y * y ∧ y * y < 340282366920938463463374607431768211456 := by
  have h1 := Int.mul_nonneg h h
  have := sq_le h (show y ≤ 18446744073709551615 by omega)
  have e : (18446744073709551615 : Int) * 18446744073709551615 = 340282366920938463426481119284349108225 := by decide
  omega
theorem lp_rootWide_0 (F : Nat) (ex) {a b : Int} (ha : I64 a) (hb : U64 b) (hz : 0 ≤ val a b) (x0 x1 x2 : Int) (x3 : Bool) : ∀ (k n i : Nat) (x4 x5 : Int), i + k = 64 → k < n → x4 = rt (val a b) / 2 ^ k * 2 ^ k → x5 = i →
    L_nb_0 F ex n x0 x1 x2 x3 x4 x5 a b = ex x0 x1 x2 x3 (rt (val a b)) 64 a b
  | _, 0, _, _, _, _, h, _, _ => absurd h (by omega)
  | 0, n + 1, i, _, _, h, _, rfl, rfl => by
    obtain rfl : i = 64 := by omega
    rw [L_nb_0]
    unfold B_nb_0 Bg_nb_0
    refine bn (df (by omega)) ?_
    rw [Int.pow_zero, Int.ediv_one, Int.mul_one]; rfl
  | k + 1, n + 1, i, _, _, h, hn, rfl, rfl => by
    have hW := val_W ha hb
    unfold W128 at hW
    obtain ⟨r1, r2⟩ := rt_bd hz hW.2
    have ih := lp_rootWide_0 F ex ha hb hz x0 x1 x2 x3 k n (i + 1)
    rw [L_nb_0]
    unfold B_nb_0 Bg_nb_0
    dsimp only
    have hi63 : IntKind.wrap .i64 (63 - (i : Int)) = ((k : Nat) : Int) := by rw [wi64_in (by unfold I64; omega)]; omega
    have hP := p2pos k
    have hPb : (2 : Int) ^ k ≤ 9223372036854775808 := by
      have := p2mono (a := k) (b := 63) (by omega)
      simpa using this
    rw [hi63, p2min (by omega), Int.one_mul, wu64_in (x := 2 ^ k) (by unfold U64; omega)]
    obtain ⟨t1, t2⟩ := top_step (r := rt (val a b)) (P := 2 ^ k) r1 hP
    rw [show (2 : Int) * 2 ^ k = 2 ^ (k + 1) by rw [Int.pow_succ, Int.mul_comm]] at t1 t2
    have hq := Int.ediv_nonneg r1 (Int.le_of_lt (p2pos (k + 1)))
    have hqr : rt (val a b) / 2 ^ (k + 1) * 2 ^ (k + 1) ≤ rt (val a b) := Int.ediv_mul_le _ (by have := p2pos (k + 1); omega)
    have hq0 := Int.mul_nonneg hq (Int.le_of_lt (p2pos (k + 1)))
    have eor : orI .u64 (rt (val a b) / 2 ^ (k + 1) * 2 ^ (k + 1)) (2 ^ k) = rt (val a b) / 2 ^ (k + 1) * 2 ^ (k + 1) + 2 ^ k := by
      have h1 := or_add_u64 (k + 1) (a := rt (val a b) / 2 ^ (k + 1)) (b := 2 ^ k) hq (by omega)
      rw [p2cast (k + 1)] at h1
      refine h1 ?_ ?_
      · rw [Int.pow_succ]; omega
      · by_cases hk : k = 63
        · subst hk
          have : rt (val a b) / 2 ^ (63 + 1) = 0 := Int.ediv_eq_zero_of_lt r1 (by rw [show (2 : Int) ^ (63 + 1) = 18446744073709551616 by decide]; omega)
          rw [this]
          decide
        · have := p2mono (a := k) (b := 62) (by omega)
          rw [show (2 : Int) ^ 62 = 4611686018427387904 by decide] at this
          omega
    rw [eor]
    have hyU : U64 (rt (val a b) / 2 ^ (k + 1) * 2 ^ (k + 1) + 2 ^ k) := by
      have hw := orI .u64 (rt (val a b) / 2 ^ (k + 1) * 2 ^ (k + 1)) (2 ^ k)
      rw [← eor, or_u64_bv]
      exact wu64_U _
    generalize hx : rt (val a b) / 2 ^ (k + 1) * 2 ^ (k + 1) = x at *
    obtain ⟨s1, s2, s3⟩ := a_Square F hyU
    have hle := rt_le (z := val a b) (y := x + 2 ^ k) hz (by omega)
    unfold U64 at hyU
    obtain ⟨b1, b2⟩ := sq_bd hyU.1 hyU.2
    have w5 : IntKind.wrap .i64 ((i : Int) + 1) = ((i + 1 : Nat) : Int) := wi64_s i (by omega)
    refine bp (dt (by omega)) (bp (nn k) (bp s1 ?_))
    rw [s2, s3]
    generalize hs : (x + 2 ^ k) * (x + 2 ^ k) = s at *
    by_cases hhi : hi s ≥ 0
    · have hs127 : s < 170141183460469231731687303715884105728 := by unfold hi at hhi; omega
      obtain ⟨l1, l2⟩ := k_wb F _ _ _ _ (f_Less F (a := a) (c := hi s) hb (lo_U s))
      rw [val_hl, W_in (by unfold W128; omega)] at l2
      refine bp (dt hhi) (bp l1 ?_)
      rw [l2]
      by_cases hc : val a b < s
      · refine bn (by rw [dt hc]; rfl) ?_
        exact ih _ _ (by omega) (by omega) (t2 (fun h => by have := hle.1 h; omega)).symm w5
      · refine bp (by rw [df hc]; rfl) ?_
        exact ih _ _ (by omega) (by omega) (t1 (hle.2 (by omega))).symm w5
    · have hs127 : 170141183460469231731687303715884105728 ≤ s := by unfold hi at hhi; omega
      refine bn (df hhi) ?_
      exact ih _ _ (by omega) (by omega) (t2 (fun h => by have := hle.1 h; omega)).symm w5
/-- what the root of a wide number answers -/
noncomputable def rootR (z : Int) : Value := if z < 0 then .tuple #[.int .u64 0, .bool false] else .tuple #[.int .u64 (rt z), .bool true]
theorem f_rootWide (F : Nat) (hF : 200 ≤ F) {a b : Int} (ha : I64 a) (hb : U64 b) : f_nb F a b = some (.v (rootR (val a b))) := by
  unfold f_nb fg_nb rootR
  have hn := val_neg (a := a) hb
  by_cases h : a < 0
  · refine bp (dt h) ?_
    rw [if_pos (hn.2 h)]
  · have hz : 0 ≤ val a b := by
      rcases Int.lt_or_le (val a b) 0 with h2 | h2
      · exact absurd (hn.1 h2) h
      · exact h2
    refine bn (df h) ?_
    rw [if_neg (by omega)]
    have hW := val_W ha hb
    unfold W128 at hW
    obtain ⟨r1, r2⟩ := rt_bd hz hW.2
    rw [lp_rootWide_0 F _ ha hb hz a b 0 false 64 F 0 0 0 (by omega) (by omega) ?_ rfl]
    rw [Int.ediv_eq_zero_of_lt r1 (by rw [show (2 : Int) ^ 64 = 18446744073709551616 by decide]; omega)]; simp
theorem lp_rWide_0 (F : Nat) (hF : 200 ≤ F) (ex) {a b : Int} (ha : I64 a) (hb : U64 b) (hz : 0 ≤ val a b) (x0 x1 x2 : Int) (x3 : Bool) : ∀ (k n i : Nat) (x4 x5 x6 : Int), i + k = 64 → k + 1 < n → 0 ≤ x4 → x5 ≤ 13043817825332782212 → x4 ≤ rt (val a b) → rt (val a b) ≤ x5 → x5 - x4 < 2 ^ k → x6 = i →
    ∃ h' i' : Int, L_ga_0 F ex n x0 x1 x2 x3 x4 x5 x6 a b = ex x0 x1 x2 x3 (rt (val a b)) h' i' a b
  | _, 0, _, _, _, _, _, h, _, _, _, _, _, _ => absurd h (by omega)
  | 0, n + 1, i, x4, x5, _, h, _, h0, h1, h2, h3, h4, rfl => by
    obtain rfl : x4 = rt (val a b) := by rw [Int.pow_zero] at h4; omega
    refine ⟨x5, i, ?_⟩
    rw [L_ga_0]
    unfold B_ga_0 Bg_ga_0
    rw [Int.pow_zero] at h4
    exact bp (dt (by omega)) (bn (df (by omega)) rfl)
  | k + 1, n + 1, i, x4, x5, _, h, hn, h0, h1, h2, h3, h4, rfl => by
    rw [L_ga_0]
    unfold B_ga_0 Bg_ga_0
    by_cases hlt : x4 < x5
    · have hd : 0 ≤ x5 - x4 := by omega
      have em : IntKind.wrap .u64 (IntKind.wrap .u64 (x4 + IntKind.wrap .u64 (Int.tdiv (IntKind.wrap .u64 (x5 - x4)) 2)) + Int.tmod (IntKind.wrap .u64 (x5 - x4)) 2) = x4 + (x5 - x4) / 2 + (x5 - x4) % 2 := by
        rw [wu64_in (x := x5 - x4) (by unfold U64; omega), Int.tdiv_eq_ediv_of_nonneg hd, Int.tmod_eq_emod_of_nonneg hd, wu64_in (x := (x5 - x4) / 2) (by unfold U64; omega), wu64_in (x := x4 + (x5 - x4) / 2) (by unfold U64; omega), wu64_in (by unfold U64; omega)]
      dsimp only
      rw [em]
      generalize hm : x4 + (x5 - x4) / 2 + (x5 - x4) % 2 = m at *
      have hm1 : x4 < m ∧ m ≤ x5 := by omega
      obtain ⟨s1, s2, s3⟩ := a_rSquare F hF (n := m) (by unfold U64; omega)
      have hsq := sq_le (x := m) (y := 13043817825332782212) (by omega) (by omega)
      have e : (13043817825332782212 : Int) * 13043817825332782212 = 170141183460469231722567801800623612944 := by decide
      have hsq0 := Int.mul_nonneg (show 0 ≤ m by omega) (show 0 ≤ m by omega)
      obtain ⟨l1, l2⟩ := k_da F _ _ _ _ (f_rLess F (a := a) (c := hi (m * m)) hb (lo_U (m * m)))
      rw [val_hl, W_in (by unfold W128; omega)] at l2
      have hle := rt_le (z := val a b) (y := m) hz (by omega)
      rw [Int.pow_succ] at h4
      have w5 : IntKind.wrap .i64 ((i : Int) + 1) = ((i + 1 : Nat) : Int) := wi64_s i (by omega)
      by_cases hc : val a b < m * m
      · have hrm : rt (val a b) < m := by
          rcases Int.lt_or_le (rt (val a b)) m with h | h
          · exact h
          · have := hle.1 h; omega
        obtain ⟨h', i', ih⟩ := lp_rWide_0 F hF ex ha hb hz x0 x1 x2 x3 k n (i + 1) x4 (m - 1) _ (by omega) (by omega) h0 (by omega) h2 (by omega) (by omega) w5
        refine ⟨h', i', bp (dt (by omega)) (bp (dt hlt) (bp s1 ?_))⟩
        rw [s2, s3]
        refine bp l1 (bp (by rw [l2, dt hc]) ?_)
        rw [wu64_in (x := m - 1) (by unfold U64; omega)]
        exact ih
      · have hrm : m ≤ rt (val a b) := hle.2 (by omega)
        obtain ⟨h', i', ih⟩ := lp_rWide_0 F hF ex ha hb hz x0 x1 x2 x3 k n (i + 1) m x5 _ (by omega) (by omega) (by omega) h1 hrm h3 (by omega) w5
        refine ⟨h', i', bp (dt (by omega)) (bp (dt hlt) (bp s1 ?_))⟩
        rw [s2, s3]
        exact bp l1 (bn (by rw [l2, df hc]) ih)
    · obtain rfl : x4 = rt (val a b) := by omega
      exact ⟨x5, i, bp (dt (by omega)) (bn (df hlt) rfl)⟩
theorem f_rWide (F : Nat) (hF : 200 ≤ F) {a b : Int} (ha : I64 a) (hb : U64 b) : f_ga F a b = some (.v (rootR (val a b))) := by
  unfold f_ga fg_ga rootR
  have hn := val_neg (a := a) hb
  by_cases h : a < 0
  · refine bp (dt h) ?_
    rw [if_pos (hn.2 h)]
  · have hz : 0 ≤ val a b := by
      rcases Int.lt_or_le (val a b) 0 with h2 | h2
      · exact absurd (hn.1 h2) h
      · exact h2
    refine bn (df h) ?_
    rw [if_neg (by omega)]
    have hW := val_W ha hb
    unfold W128 at hW
    obtain ⟨r1, r2⟩ := rt_bd hz hW.2
    obtain ⟨h', i', e⟩ := lp_rWide_0 F hF (fun (_ _ _ : Int) (_ : Bool) (v _ _ _ _ : Int) => (some (.v (.tuple #[.int .u64 v, .bool true])) : R)) ha hb hz a b 0 false 64 F 0 0 13043817825332782212 0 (by omega) (by omega) (by omega) (by omega) r1 r2 (by decide) rfl
    exact e
end Go.Xv
namespace Go.Xv
theorem some_u32 {a b : Int} (h : a = b) : (some (VV.v (.int .u32 a)) : R) = some (.v (.int .u32 b)) := by rw [h]
end Go.Xv
namespace Go.Xv
theorem tdiv_W {z b : Int} (hz : -170141183460469231731687303715884105728 < z ∧ z < 170141183460469231731687303715884105728) : W128 (Int.tdiv z b) := by
  have h : (Int.tdiv z b).natAbs ≤ z.natAbs := by
    rw [Int.natAbs_tdiv]
    exact Nat.div_le_self _ _
  unfold W128; omega
/-- a quotient of numbers with a point -/
def fdivV (a b : Int) : Int := if b = 0 then (if 0 < a then 9223372036854775807 else if a < 0 then -9223372036854775808 else 0) else clipV (Int.tdiv (a * 4294967296) b)
def fdivC (a b : Int) : Bool := if b = 0 then true else clipC (Int.tdiv (a * 4294967296) b)
theorem p32b {a : Int} (ha : I64 a) : -170141183460469231731687303715884105728 < a * 4294967296 ∧ a * 4294967296 < 170141183460469231731687303715884105728 := by unfold I64 at ha; omega
theorem f_fDiv (F : Nat) (hF : 200 ≤ F) {a b : Int} (ha : I64 a) (hb : I64 b) : f_lc F a b = some (.v (.tuple #[.int .i64 (fdivV a b), .bool (fdivC a b)])) := by
  unfold f_lc fg_lc
  obtain ⟨h1, h2, h3⟩ := a_fof F ha
  obtain ⟨n1, n2, n3⟩ := a_Left F a 32
  rw [show ((32 : Int).toNat) = 32 from rfl, show (2 : Int) ^ 32 = 4294967296 by decide] at n2 n3
  have hd := f_Div F hF (hi_I (a * 4294967296)) (lo_U (a * 4294967296)) hb
  rw [val_hl, W_in (p32W ha)] at hd
  unfold divR at hd
  refine bp h1 ?_
  rw [h2, h3]
  refine bp n1 ?_
  rw [n2, n3]
  unfold fdivV fdivC
  by_cases h : b = 0
  · rw [if_pos h] at hd
    obtain ⟨d1, d2, d3, d4, d5⟩ := k_ic F _ _ _ hd
    refine bp d1 (bn d5 ?_)
    rw [if_pos h, if_pos h]
    by_cases h1 : 0 < a
    · refine bp (dt h1) ?_
      rw [if_pos h1]
    · refine bn (df h1) ?_
      rw [if_neg h1]
      by_cases h2 : a < 0
      · refine bp (dt h2) ?_
        rw [if_pos h2]
      · refine bn (df h2) ?_
        rw [if_neg h2]
  · rw [if_neg h] at hd
    obtain ⟨d1, d2, d3, d4, d5⟩ := k_ic F _ _ _ hd
    obtain ⟨c1, c2, c3⟩ := a_fclip F (tdiv_W (b := b) (p32b ha))
    refine bp d1 (bp d5 ?_)
    rw [d2, d3]
    refine bp c1 ?_
    rw [c2, c3, if_neg h, if_neg h]
theorem f_rDiv2 (F : Nat) (hF : 200 ≤ F) {a b : Int} (ha : I64 a) (hb : I64 b) : f_gb F a b = some (.v (.tuple #[.int .i64 (fdivV a b), .bool (fdivC a b)])) := by
  unfold f_gb fg_gb fdivV fdivC
  by_cases h : b = 0
  · refine bp (by simp [h]) ?_
    rw [if_pos h, if_pos h]
    by_cases h0 : a = 0
    · refine bp (by simp [h0]) ?_
      rw [if_neg (by omega), if_neg (by omega)]
    · refine bn (by simp [h0]) (bp (by simp [h]) ?_)
      by_cases h1 : 0 < a
      · refine bp (dt h1) ?_
        rw [if_pos h1]
      · refine bn (df h1) (bp (by simp [h]) ?_)
        rw [if_neg h1, if_pos (by omega)]
  · have hn : (b == 0) = false := by simp [h]
    refine bn hn (bn hn (bn hn ?_))
    rw [if_neg h, if_neg h]
    obtain ⟨m1, m2, m3⟩ := a_rMul F hF ha (b := 4294967296) (by unfold I64; omega)
    have hd := f_rDiv F hF (hi_I (a * 4294967296)) (lo_U (a * 4294967296)) hb
    rw [val_hl, W_in (p32W ha)] at hd
    unfold divR at hd
    rw [if_neg h] at hd
    obtain ⟨d1, d2, d3, d4, d5⟩ := k_db F _ _ _ hd
    obtain ⟨c1, c2, c3⟩ := a_rclip2 F (tdiv_W (b := b) (p32b ha))
    refine bp m1 ?_
    rw [m2, m3]
    refine bp d1 ?_
    rw [d2, d3]
    refine bp c1 ?_
    rw [c2, c3]
end Go.Xv
namespace Go.Xv
theorem f_vec_eachv1' (F : Nat) (hF : 200 ≤ F) {a0 a1 a2 a3 a4 a5 : Int} {v0 v1 v2 : Int} {c0 c1 c2 : Bool} (h0 : ok_y F 0 a0 a1 a2 a3 a4 a5 = true ∧ o_y_0 F 0 a0 a1 a2 a3 a4 a5 = v0 ∧ o_y_1 F 0 a0 a1 a2 a3 a4 a5 = c0) (h1 : ok_y F 1 a0 a1 a2 a3 a4 a5 = true ∧ o_y_0 F 1 a0 a1 a2 a3 a4 a5 = v1 ∧ o_y_1 F 1 a0 a1 a2 a3 a4 a5 = c1) (h2 : ok_y F 2 a0 a1 a2 a3 a4 a5 = true ∧ o_y_0 F 2 a0 a1 a2 a3 a4 a5 = v2 ∧ o_y_1 F 2 a0 a1 a2 a3 a4 a5 = c2) :
    f_ta F a0 a1 a2 a3 a4 a5 = some (.v (.tuple #[.agg #[.int .i64 v0, .int .i64 v1, .int .i64 v2], .bool (c0 || c1 || c2)])) := by
  obtain ⟨a1, a2, a3⟩ := h0
  obtain ⟨b1, b2, b3⟩ := h1
  obtain ⟨d1, d2, d3⟩ := h2
  obtain ⟨G, hG⟩ : ∃ G, F = G + 4 := ⟨F - 4, by omega⟩
  have w1 : IntKind.wrap .i64 (0 + 1) = 1 := by decide
  have w2 : IntKind.wrap .i64 (1 + 1) = 2 := by decide
  have w3 : IntKind.wrap .i64 (2 + 1) = 3 := by decide
  unfold f_ta fg_ta
  rw [show L_ta_0 F _ F = L_ta_0 F _ (G + 4) from congrArg (L_ta_0 F _) hG, L_ta_0]
  unfold B_ta_0 Bg_ta_0
  refine bp rfl (bp a1 (bn rfl (bp rfl (bp rfl ?_))))
  rw [a2, a3, w1, L_ta_0]
  unfold B_ta_0 Bg_ta_0
  refine bp rfl (bp b1 ?_)
  rw [b2, b3, w2]
  cases c0
  · refine bn rfl (bp rfl (bp rfl ?_))
    rw [L_ta_0]
    unfold B_ta_0 Bg_ta_0
    refine bp rfl (bp d1 ?_)
    rw [d2, d3, w3]
    cases c1
    · refine bn rfl (bp rfl (bp rfl ?_))
      rw [L_ta_0]
      unfold B_ta_0 Bg_ta_0
      exact bn rfl (bp rfl rfl)
    · refine bp rfl (bp rfl (bp rfl ?_))
      rw [L_ta_0]
      unfold B_ta_0 Bg_ta_0
      exact bn rfl (bp rfl rfl)
  · refine bp rfl (bp rfl (bp rfl ?_))
    rw [L_ta_0]
    unfold B_ta_0 Bg_ta_0
    refine bp rfl (bp d1 ?_)
    rw [d2, w3]
    refine bp rfl (bp rfl (bp rfl ?_))
    rw [L_ta_0]
    unfold B_ta_0 Bg_ta_0
    exact bn rfl (bp rfl (by rw [Bool.true_or, Bool.true_or]; rfl))
theorem f_vec_eachv2' (F : Nat) (hF : 200 ≤ F) {a0 a1 a2 a3 : Int} {v0 v1 v2 : Int} {c0 c1 c2 : Bool} (h0 : ok_sa F 0 a0 a1 a2 a3 = true ∧ o_sa_0 F 0 a0 a1 a2 a3 = v0 ∧ o_sa_1 F 0 a0 a1 a2 a3 = c0) (h1 : ok_sa F 1 a0 a1 a2 a3 = true ∧ o_sa_0 F 1 a0 a1 a2 a3 = v1 ∧ o_sa_1 F 1 a0 a1 a2 a3 = c1) (h2 : ok_sa F 2 a0 a1 a2 a3 = true ∧ o_sa_0 F 2 a0 a1 a2 a3 = v2 ∧ o_sa_1 F 2 a0 a1 a2 a3 = c2) :
    f_ua F a0 a1 a2 a3 = some (.v (.tuple #[.agg #[.int .i64 v0, .int .i64 v1, .int .i64 v2], .bool (c0 || c1 || c2)])) := by
  obtain ⟨a1, a2, a3⟩ := h0
  obtain ⟨b1, b2, b3⟩ := h1
  obtain ⟨d1, d2, d3⟩ := h2
  obtain ⟨G, hG⟩ : ∃ G, F = G + 4 := ⟨F - 4, by omega⟩
  have w1 : IntKind.wrap .i64 (0 + 1) = 1 := by decide
  have w2 : IntKind.wrap .i64 (1 + 1) = 2 := by decide
  have w3 : IntKind.wrap .i64 (2 + 1) = 3 := by decide
  unfold f_ua fg_ua
  rw [show L_ua_0 F _ F = L_ua_0 F _ (G + 4) from congrArg (L_ua_0 F _) hG, L_ua_0]
  unfold B_ua_0 Bg_ua_0
  refine bp rfl (bp a1 (bn rfl (bp rfl (bp rfl ?_))))
  rw [a2, a3, w1, L_ua_0]
  unfold B_ua_0 Bg_ua_0
  refine bp rfl (bp b1 ?_)
  rw [b2, b3, w2]
  cases c0
  · refine bn rfl (bp rfl (bp rfl ?_))
    rw [L_ua_0]
    unfold B_ua_0 Bg_ua_0
    refine bp rfl (bp d1 ?_)
    rw [d2, d3, w3]
    cases c1
    · refine bn rfl (bp rfl (bp rfl ?_))
      rw [L_ua_0]
      unfold B_ua_0 Bg_ua_0
      exact bn rfl (bp rfl rfl)
    · refine bp rfl (bp rfl (bp rfl ?_))
      rw [L_ua_0]
      unfold B_ua_0 Bg_ua_0
      exact bn rfl (bp rfl rfl)
  · refine bp rfl (bp rfl (bp rfl ?_))
    rw [L_ua_0]
    unfold B_ua_0 Bg_ua_0
    refine bp rfl (bp d1 ?_)
    rw [d2, w3]
    refine bp rfl (bp rfl (bp rfl ?_))
    rw [L_ua_0]
    unfold B_ua_0 Bg_ua_0
    exact bn rfl (bp rfl (by rw [Bool.true_or, Bool.true_or]; rfl))
theorem f_vec_eachv3' (F : Nat) (hF : 200 ≤ F) {a0 a1 a2 a3 a4 a5 : Int} {v0 v1 v2 : Int} {c0 c1 c2 : Bool} (h0 : ok_tb F 0 a0 a1 a2 a3 a4 a5 = true ∧ o_tb_0 F 0 a0 a1 a2 a3 a4 a5 = v0 ∧ o_tb_1 F 0 a0 a1 a2 a3 a4 a5 = c0) (h1 : ok_tb F 1 a0 a1 a2 a3 a4 a5 = true ∧ o_tb_0 F 1 a0 a1 a2 a3 a4 a5 = v1 ∧ o_tb_1 F 1 a0 a1 a2 a3 a4 a5 = c1) (h2 : ok_tb F 2 a0 a1 a2 a3 a4 a5 = true ∧ o_tb_0 F 2 a0 a1 a2 a3 a4 a5 = v2 ∧ o_tb_1 F 2 a0 a1 a2 a3 a4 a5 = c2) :
    f_va F a0 a1 a2 a3 a4 a5 = some (.v (.tuple #[.agg #[.int .i64 v0, .int .i64 v1, .int .i64 v2], .bool (c0 || c1 || c2)])) := by
  obtain ⟨a1, a2, a3⟩ := h0
  obtain ⟨b1, b2, b3⟩ := h1
  obtain ⟨d1, d2, d3⟩ := h2
  obtain ⟨G, hG⟩ : ∃ G, F = G + 4 := ⟨F - 4, by omega⟩
  have w1 : IntKind.wrap .i64 (0 + 1) = 1 := by decide
  have w2 : IntKind.wrap .i64 (1 + 1) = 2 := by decide
  have w3 : IntKind.wrap .i64 (2 + 1) = 3 := by decide
  unfold f_va fg_va
  rw [show L_va_0 F _ F = L_va_0 F _ (G + 4) from congrArg (L_va_0 F _) hG, L_va_0]
  unfold B_va_0 Bg_va_0
  refine bp rfl (bp a1 (bn rfl (bp rfl (bp rfl ?_))))
  rw [a2, a3, w1, L_va_0]
  unfold B_va_0 Bg_va_0
  refine bp rfl (bp b1 ?_)
  rw [b2, b3, w2]
  cases c0
  · refine bn rfl (bp rfl (bp rfl ?_))
    rw [L_va_0]
    unfold B_va_0 Bg_va_0
    refine bp rfl (bp d1 ?_)
    rw [d2, d3, w3]
    cases c1
    · refine bn rfl (bp rfl (bp rfl ?_))
      rw [L_va_0]
      unfold B_va_0 Bg_va_0
      exact bn rfl (bp rfl rfl)
    · refine bp rfl (bp rfl (bp rfl ?_))
      rw [L_va_0]
      unfold B_va_0 Bg_va_0
      exact bn rfl (bp rfl rfl)
  · refine bp rfl (bp rfl (bp rfl ?_))
    rw [L_va_0]
    unfold B_va_0 Bg_va_0
    refine bp rfl (bp d1 ?_)
    rw [d2, w3]
    refine bp rfl (bp rfl (bp rfl ?_))
    rw [L_va_0]
    unfold B_va_0 Bg_va_0
    exact bn rfl (bp rfl (by rw [Bool.true_or, Bool.true_or]; rfl))
theorem f_vec_eachv4' (F : Nat) (hF : 200 ≤ F) {a0 a1 a2 a3 : Int} {v0 v1 v2 : Int} {c0 c1 c2 : Bool} (h0 : ok_z F 0 a0 a1 a2 a3 = true ∧ o_z_0 F 0 a0 a1 a2 a3 = v0 ∧ o_z_1 F 0 a0 a1 a2 a3 = c0) (h1 : ok_z F 1 a0 a1 a2 a3 = true ∧ o_z_0 F 1 a0 a1 a2 a3 = v1 ∧ o_z_1 F 1 a0 a1 a2 a3 = c1) (h2 : ok_z F 2 a0 a1 a2 a3 = true ∧ o_z_0 F 2 a0 a1 a2 a3 = v2 ∧ o_z_1 F 2 a0 a1 a2 a3 = c2) :
    f_wa F a0 a1 a2 a3 = some (.v (.tuple #[.agg #[.int .i64 v0, .int .i64 v1, .int .i64 v2], .bool (c0 || c1 || c2)])) := by
  obtain ⟨a1, a2, a3⟩ := h0
  obtain ⟨b1, b2, b3⟩ := h1
  obtain ⟨d1, d2, d3⟩ := h2
  obtain ⟨G, hG⟩ : ∃ G, F = G + 4 := ⟨F - 4, by omega⟩
  have w1 : IntKind.wrap .i64 (0 + 1) = 1 := by decide
  have w2 : IntKind.wrap .i64 (1 + 1) = 2 := by decide
  have w3 : IntKind.wrap .i64 (2 + 1) = 3 := by decide
  unfold f_wa fg_wa
  rw [show L_wa_0 F _ F = L_wa_0 F _ (G + 4) from congrArg (L_wa_0 F _) hG, L_wa_0]
  unfold B_wa_0 Bg_wa_0
  refine bp rfl (bp a1 (bn rfl (bp rfl (bp rfl ?_))))
  rw [a2, a3, w1, L_wa_0]
  unfold B_wa_0 Bg_wa_0
  refine bp rfl (bp b1 ?_)
  rw [b2, b3, w2]
  cases c0
  · refine bn rfl (bp rfl (bp rfl ?_))
    rw [L_wa_0]
    unfold B_wa_0 Bg_wa_0
    refine bp rfl (bp d1 ?_)
    rw [d2, d3, w3]
    cases c1
    · refine bn rfl (bp rfl (bp rfl ?_))
      rw [L_wa_0]
      unfold B_wa_0 Bg_wa_0
      exact bn rfl (bp rfl rfl)
    · refine bp rfl (bp rfl (bp rfl ?_))
      rw [L_wa_0]
      unfold B_wa_0 Bg_wa_0
      exact bn rfl (bp rfl rfl)
  · refine bp rfl (bp rfl (bp rfl ?_))
    rw [L_wa_0]
    unfold B_wa_0 Bg_wa_0
    refine bp rfl (bp d1 ?_)
    rw [d2, w3]
    refine bp rfl (bp rfl (bp rfl ?_))
    rw [L_wa_0]
    unfold B_wa_0 Bg_wa_0
    exact bn rfl (bp rfl (by rw [Bool.true_or, Bool.true_or]; rfl))
end Go.Xv
namespace Go.Xv
theorem sz_half (x : Int) : 2 * sz (x / 2) ≤ sz x + 1 := by unfold sz; split <;> split <;> omega
theorem sz_dbl (x : Int) : sz (x * 2) = 2 * sz x := by unfold sz; split <;> split <;> omega
theorem big_half (x y : Int) : 2 * big (x / 2) (y / 2) ≤ big x y + 1 := by
  have := sz_half x
  have := sz_half y
  unfold big; omega
theorem big_dbl (x y : Int) : big (x * 2) (y * 2) = 2 * big x y := by unfold big; rw [sz_dbl, sz_dbl]; omega
theorem down_small {x y : Int} (h : big x y < 2305843009213693952) : ∀ m, down m x y = (x, y)
  | 0 => rfl
  | m + 1 => by rw [down, if_neg (by omega)]
theorem down_end : ∀ (m k : Nat) (x y : Int), big x y ≤ 2305843009213693952 * 2 ^ k → k < m → big (down m x y).1 (down m x y).2 < 2305843009213693952
  | 0, _, _, _, _, h => absurd h (by omega)
  | m + 1, k, x, y, h, hk => by
    rw [down]
    split
    · have h2 := big_half x y
      cases k with
      | zero =>
        have hs : big (x / 2) (y / 2) < 2305843009213693952 := by simp at h; omega
        rw [down_small hs]
        exact hs
      | succ k =>
        refine down_end m k _ _ ?_ (by omega)
        have e : (2 : Int) ^ (k + 1) = 2 * 2 ^ k := by rw [Int.pow_succ]; omega
        rw [e] at h
        omega
    · dsimp only; omega
theorem dbl_end : ∀ (m : Nat) (x y : Int), 1152921504606846976 ≤ big x y * 2 ^ m → 1152921504606846976 ≤ big (dbl m x y).1 (dbl m x y).2
  | 0, x, y, h => by simp [dbl] at h ⊢; omega
  | m + 1, x, y, h => by
    rw [dbl]
    split
    · refine dbl_end m _ _ ?_
      rw [big_dbl, show 2 * big x y * 2 ^ m = big x y * (2 ^ m * 2) by rw [Int.mul_comm 2 (big x y), Int.mul_assoc, Int.mul_comm 2], ← Int.pow_succ]
      exact h
    · dsimp only; omega
theorem dbl_lt : ∀ (m : Nat) (x y : Int), big x y < 2305843009213693952 → big (dbl m x y).1 (dbl m x y).2 < 2305843009213693952
  | 0, x, y, h => h
  | m + 1, x, y, h => by
    rw [dbl]
    split
    · exact dbl_lt m _ _ (by rw [big_dbl]; omega)
    · exact h
theorem down_pos : ∀ (m : Nat) (x y : Int), 1 ≤ big x y → 1 ≤ big (down m x y).1 (down m x y).2
  | 0, x, y, h => h
  | m + 1, x, y, h => by
    rw [down]
    split
    · refine down_pos m _ _ ?_
      have : ∀ z : Int, 2305843009213693952 ≤ sz z → 1 ≤ sz (z / 2) := by intro z; unfold sz; split <;> split <;> omega
      have h1 := this x
      have h2 := this y
      unfold big at *
      omega
    · exact h
theorem big_I {x y : Int} (hx : I64 x) (hy : I64 y) : big x y ≤ 2305843009213693952 * 2 ^ 2 := by
  unfold I64 at *
  unfold big sz
  split <;> split <;> omega
theorem scd_bd {x y : Int} (hx : I64 x) (hy : I64 y) (h : 1 ≤ big x y) : 1152921504606846976 ≤ big (scd x y).1 (scd x y).2 ∧ big (scd x y).1 (scd x y).2 < 2305843009213693952 := by
  have h1 := down_end 64 2 x y (big_I hx hy) (by omega)
  have h2 := down_pos 64 x y h
  unfold scd
  refine ⟨dbl_end 64 _ _ ?_, dbl_lt 64 _ _ h1⟩
  omega
theorem sz_I {x y : Int} (h : big x y < 9223372036854775808) : I64 x ∧ I64 y := by
  unfold big sz at h
  unfold I64
  split at h <;> split at h <;> omega
theorem down_sgn : ∀ (m : Nat) (x y : Int), 0 ≤ x → 0 ≤ (down m x y).1
  | 0, _, _, h => h
  | m + 1, x, y, h => by
    rw [down]
    split
    · exact down_sgn m _ _ (by omega)
    · exact h
theorem dbl_sgn : ∀ (m : Nat) (x y : Int), 0 ≤ x → 0 ≤ (dbl m x y).1
  | 0, _, _, h => h
  | m + 1, x, y, h => by
    rw [dbl]
    split
    · exact dbl_sgn m _ _ (by omega)
    · exact h
theorem scd_sgn {x y : Int} (h : 0 ≤ x) : 0 ≤ (scd x y).1 := dbl_sgn 64 _ _ (down_sgn 64 _ _ h)
theorem opp_I {a : Int} (h : I64 a) : I64 (opp a) := by unfold opp; unfold I64 at *; split <;> omega
theorem a_size (F : Nat) {a : Int} (h : I64 a) : ok_pb F a = true ∧ o_pb_0 F a = sz a := by
  refine k_pb F _ ?_
  unfold f_pb fg_pb sz
  unfold I64 at h
  by_cases hs : a < 0
  · refine bp (dt hs) ?_
    rw [if_pos hs, wu64, wu64]
    congr 3
    omega
  · refine bn (df hs) ?_
    rw [if_neg hs, wu64]
    congr 3
    omega
theorem a_r5bare (F : Nat) {a : Int} (h : I64 a) : ok_ha F a = true ∧ o_ha_0 F a = sz a := by
  refine k_ha F _ ?_
  unfold f_ha fg_ha sz
  unfold I64 at h
  by_cases hs : a < 0
  · refine bp (dt hs) ?_
    rw [if_pos hs, wi64_in (x := a + 1) (by unfold I64; omega), wi64_in (by unfold I64; omega), wu64, wu64]
    congr 3
    omega
  · refine bn (df hs) ?_
    rw [if_neg hs, wu64]
    congr 3
    omega
theorem mx {a b : Int} : (if b > a then b else a) = max a b := by split <;> omega
theorem lp_scaled_0 (F : Nat) (ex) (x0 x1 x4 x5 : Int) : ∀ (m n : Nat) (x y : Int), I64 x → I64 y → m < n → big (down m x y).1 (down m x y).2 < 2305843009213693952 →
    L_a_0 F ex n x0 x1 x y x4 x5 = ex x0 x1 (down m x y).1 (down m x y).2 x4 x5
  | _, 0, _, _, _, _, h, _ => absurd h (by omega)
  | 0, n + 1, x, y, hx, hy, _, h => by
    rw [L_a_0]
    unfold B_a_0 Bg_a_0
    obtain ⟨a1, a2⟩ := a_size F hx
    obtain ⟨b1, b2⟩ := a_size F hy
    refine bp a1 (bp b1 ?_)
    rw [a2, b2]
    dsimp only
    rw [mx]
    exact bn (df (by unfold big down at h; dsimp only at h; omega)) rfl
  | m + 1, n + 1, x, y, hx, hy, hm, h => by
    rw [L_a_0]
    unfold B_a_0 Bg_a_0
    obtain ⟨a1, a2⟩ := a_size F hx
    obtain ⟨b1, b2⟩ := a_size F hy
    refine bp a1 (bp b1 ?_)
    rw [a2, b2]
    dsimp only
    rw [mx]
    rw [down] at h ⊢
    by_cases hc : 2305843009213693952 ≤ big x y
    · rw [if_pos hc] at h ⊢
      refine bp (dt hc) ?_
      rw [fdiv_pos _ (by decide), fdiv_pos _ (by decide)]
      exact lp_scaled_0 F ex x0 x1 x4 x5 m n _ _ (I64_half hx 1) (I64_half hy 1) (by omega) h
    · rw [if_neg hc]
      exact bn (df hc) rfl
theorem lp_scaled_1 (F : Nat) (ex) (x0 x1 x4 x5 : Int) : ∀ (m n : Nat) (x y : Int), I64 x → I64 y → m < n → 1152921504606846976 ≤ big (dbl m x y).1 (dbl m x y).2 →
    L_a_1 F ex n x0 x1 x y x4 x5 = ex x0 x1 (dbl m x y).1 (dbl m x y).2 x4 x5
  | _, 0, _, _, _, _, h, _ => absurd h (by omega)
  | 0, n + 1, x, y, hx, hy, _, h => by
    rw [L_a_1]
    unfold B_a_1 Bg_a_1
    obtain ⟨a1, a2⟩ := a_size F hx
    obtain ⟨b1, b2⟩ := a_size F hy
    refine bp a1 (bp b1 ?_)
    rw [a2, b2]
    dsimp only
    rw [mx]
    exact bn (df (by unfold big dbl at h; dsimp only at h; omega)) rfl
  | m + 1, n + 1, x, y, hx, hy, hm, h => by
    rw [L_a_1]
    unfold B_a_1 Bg_a_1
    obtain ⟨a1, a2⟩ := a_size F hx
    obtain ⟨b1, b2⟩ := a_size F hy
    refine bp a1 (bp b1 ?_)
    rw [a2, b2]
    dsimp only
    rw [mx]
    rw [dbl] at h ⊢
    by_cases hc : big x y < 1152921504606846976
    · rw [if_pos hc] at h ⊢
      refine bp (dt hc) ?_
      obtain ⟨i1, i2⟩ := sz_I (x := x * 2) (y := y * 2) (by rw [big_dbl]; omega)
      rw [wi64_in i1, wi64_in i2]
      exact lp_scaled_1 F ex x0 x1 x4 x5 m n _ _ i1 i2 (by omega) h
    · rw [if_neg hc]
      exact bn (df hc) rfl
theorem a_scaled (F : Nat) (hF : 200 ≤ F) {x y : Int} (hx : I64 x) (hy : I64 y) (h : 1 ≤ big x y) : ok_a F x y = true ∧ o_a_0 F x y = (scd x y).1 ∧ o_a_1 F x y = (scd x y).2 := by
  refine k_a F _ _ ?_
  unfold f_a fg_a
  have h1 := down_end 64 2 x y (big_I hx hy) (by omega)
  have h2 := down_pos 64 x y h
  obtain ⟨i1, i2⟩ := sz_I (x := (down 64 x y).1) (y := (down 64 x y).2) (by omega)
  rw [lp_scaled_0 F _ x y 0 0 64 F x y hx hy (by omega) h1]
  rw [lp_scaled_1 F _ x y 0 0 64 F _ _ i1 i2 (by omega) (dbl_end 64 _ _ (by omega))]
  rfl
theorem lp_rscaled_0 (F : Nat) (hF : 200 ≤ F) (ex) (x0 x1 x2 x5 : Int) : ∀ (m n i : Nat) (x y x6 : Int), I64 x → I64 y → m < n → x6 = i → i + m < 64 → big (down m x y).1 (down m x y).2 < 2305843009213693952 →
    ∃ j : Nat, L_r_0 F ex n x0 x1 x2 x y x5 x6 = ex x0 x1 x2 (down m x y).1 (down m x y).2 x5 j
  | _, 0, _, _, _, _, _, _, h, _, _, _ => absurd h (by omega)
  | 0, n + 1, i, x, y, _, hx, hy, _, rfl, hi, h => by
    refine ⟨i, ?_⟩
    rw [L_r_0]
    unfold B_r_0 Bg_r_0
    obtain ⟨a1, a2⟩ := a_r5bare F hx
    obtain ⟨b1, b2⟩ := a_r5bare F hy
    refine bp (dt (by omega)) (bp a1 (bp b1 ?_))
    rw [a2, b2]
    dsimp only
    rw [mx]
    exact bn (df (by unfold big down at h; dsimp only at h; omega)) rfl
  | m + 1, n + 1, i, x, y, _, hx, hy, hm, rfl, hi, h => by
    rw [L_r_0]
    unfold B_r_0 Bg_r_0
    obtain ⟨a1, a2⟩ := a_r5bare F hx
    obtain ⟨b1, b2⟩ := a_r5bare F hy
    rw [down] at h ⊢
    rw [bp (x := _) (dt (show (i : Int) < 64 by omega)) rfl, bp (x := _) a1 rfl, bp (x := _) b1 rfl, a2, b2]
    dsimp only
    rw [mx]
    by_cases hc : 2305843009213693952 ≤ big x y
    · rw [if_pos hc] at h ⊢
      obtain ⟨o1, o2⟩ := a_over F hF hx (m := 1) (by omega)
      obtain ⟨p1, p2⟩ := a_over F hF hy (m := 1) (by omega)
      rw [bp (x := _) (dt (show max (sz x) (sz y) ≥ 2305843009213693952 from hc)) rfl]
      have o1' : ok_ia F x 1 = true := o1
      have o2' : o_ia_0 F x 1 = x / 2 := o2
      have p1' : ok_ia F y 1 = true := p1
      have p2' : o_ia_0 F y 1 = y / 2 := p2
      rw [bp (x := _) o1' rfl, bp (x := _) p1' rfl, o2', p2']
      exact lp_rscaled_0 F hF ex x0 x1 x2 x5 m n (i + 1) _ _ _ (I64_half hx 1) (I64_half hy 1) (by omega) (wi64_s i (by omega)) (by omega) h
    · rw [if_neg hc]
      exact ⟨i, bn (df hc) rfl⟩
theorem lp_rscaled_1 (F : Nat) (ex) (x0 x1 x2 x5 x6 : Int) : ∀ (m n i : Nat) (x y x7 : Int), I64 x → I64 y → m < n → x7 = i → i + m < 64 → 1152921504606846976 ≤ big (dbl m x y).1 (dbl m x y).2 →
    ∃ j : Nat, L_r_1 F ex n x0 x1 x2 x y x5 x6 x7 = ex x0 x1 x2 (dbl m x y).1 (dbl m x y).2 x5 x6 j
  | _, 0, _, _, _, _, _, _, h, _, _, _ => absurd h (by omega)
  | 0, n + 1, i, x, y, _, hx, hy, _, rfl, hi, h => by
    refine ⟨i, ?_⟩
    rw [L_r_1]
    unfold B_r_1 Bg_r_1
    obtain ⟨a1, a2⟩ := a_r5bare F hx
    obtain ⟨b1, b2⟩ := a_r5bare F hy
    refine bp (dt (by omega)) (bp a1 (bp b1 ?_))
    rw [a2, b2]
    dsimp only
    rw [mx]
    exact bn (df (by unfold big dbl at h; dsimp only at h; omega)) rfl
  | m + 1, n + 1, i, x, y, _, hx, hy, hm, rfl, hi, h => by
    rw [L_r_1]
    unfold B_r_1 Bg_r_1
    obtain ⟨a1, a2⟩ := a_r5bare F hx
    obtain ⟨b1, b2⟩ := a_r5bare F hy
    rw [dbl] at h ⊢
    rw [bp (x := _) (dt (show (i : Int) < 64 by omega)) rfl, bp (x := _) a1 rfl, bp (x := _) b1 rfl, a2, b2]
    dsimp only
    rw [mx]
    by_cases hc : big x y < 1152921504606846976
    · rw [if_pos hc] at h ⊢
      obtain ⟨i1, i2⟩ := sz_I (x := x * 2) (y := y * 2) (by rw [big_dbl]; omega)
      rw [bp (x := _) (dt (show max (sz x) (sz y) < 1152921504606846976 from hc)) rfl, Int.mul_comm 2 x, Int.mul_comm 2 y, wi64_in i1, wi64_in i2]
      exact lp_rscaled_1 F ex x0 x1 x2 x5 x6 m n (i + 1) _ _ _ i1 i2 (by omega) (wi64_s i (by omega)) (by omega) h
    · rw [if_neg hc]
      exact ⟨i, bn (df hc) rfl⟩
/-- bounds of the steps -/
theorem aS_bd {x y : Int} (hx : 0 ≤ x ∧ x ≤ 2305843009213693952) (hy : -2305843009213693952 ≤ y ∧ y ≤ 2305843009213693952) : ∀ {i : Nat}, i ≤ 30 →
    (0 ≤ (aS x y i).1 ∧ (aS x y i).1 ≤ 6917529027641081856 - 2 * 2 ^ (61 - i)) ∧ (-2305843009213693952 ≤ (aS x y i).2.1 ∧ (aS x y i).2.1 ≤ 2305843009213693952) ∧ (-(536870912 * (i : Int)) ≤ (aS x y i).2.2 ∧ (aS x y i).2.2 ≤ 536870912 * (i : Int))
  | 0, _ => by simp only [aS]; omega
  | i + 1, h => by
    obtain ⟨h1, h2, h3⟩ := aS_bd hx hy (i := i) (by omega)
    have ht := tA_bd i (by omega)
    have hPQ : (2 : Int) ^ (61 - i) * 2 ^ i = 2305843009213693952 := by rw [p2add, show 61 - i + i = 61 by omega]; decide
    have e : (2 : Int) * 2 ^ (61 - (i + 1)) = 2 ^ (61 - i) := by
      rw [show 61 - i = (61 - (i + 1)) + 1 by omega, Int.pow_succ]; omega
    rw [e]
    have hQ := p2pos i
    have hP := p2pos (61 - i)
    have hx2 : (aS x y i).1 ≤ 2305843009213693952 * 2 ^ i := by
      match i, h1, hPQ with
      | 0, h1, _ => simp at h1 ⊢; omega
      | 1, h1, _ => simp at h1 ⊢; omega
      | i + 2, h1, _ =>
        have : (2 : Int) ^ (i + 2) = 4 * 2 ^ i := by rw [Int.pow_succ, Int.pow_succ]; omega
        have := p2pos i
        omega
    have hq0 : 0 ≤ (aS x y i).1 / 2 ^ i := Int.ediv_nonneg h1.1 (by omega)
    have hq1 : (aS x y i).1 / 2 ^ i ≤ 2305843009213693952 := Int.ediv_le_of_le_mul hQ hx2
    simp only [aS]
    have hy0 : (aS x y i).2.1 / 2 ^ i ≤ 2 ^ (61 - i) := Int.ediv_le_of_le_mul hQ (by rw [hPQ]; omega)
    have hy1 : -(2 ^ (61 - i)) ≤ (aS x y i).2.1 / 2 ^ i := (Int.le_ediv_iff_mul_le hQ).2 (by rw [Int.neg_mul, hPQ]; omega)
    by_cases hs : (aS x y i).2.1 < 0
    · have hn : (aS x y i).2.1 / 2 ^ i < 0 := Int.ediv_neg_of_neg_of_pos hs hQ
      simp only [hs, decide_true, if_true, rotX, rotY]
      push_cast
      omega
    · have hn : 0 ≤ (aS x y i).2.1 / 2 ^ i := Int.ediv_nonneg (by omega) (by omega)
      simp only [hs, decide_false, if_false, rotX, rotY, Bool.false_eq_true]
      push_cast
      omega
theorem aS_I {x y : Int} (hx : 0 ≤ x ∧ x ≤ 2305843009213693952) (hy : -2305843009213693952 ≤ y ∧ y ≤ 2305843009213693952) {i : Nat} (h : i ≤ 30) : I64 (aS x y i).1 ∧ I64 (aS x y i).2.1 := by
  obtain ⟨h1, h2, _⟩ := aS_bd hx hy h
  have := p2pos (61 - i)
  unfold I64
  omega
theorem lp_turn_Angle_0 (F : Nat) (ex) {x y z : Int} (hx : 0 ≤ x ∧ x ≤ 2305843009213693952) (hy : -2305843009213693952 ≤ y ∧ y ≤ 2305843009213693952) (x0 x1 x2 : Int) : ∀ (k n i : Nat) (x3 x34 x35 x36 : Int), i + k = 30 → k < n → x34 = i → x35 = (aS x y i).1 → x36 = (aS x y i).2.1 → x3 = ((aS x y i).2.2 + z) % 4294967296 →
    L_qa_0 F ex n x0 x1 x2 x3 536870912 316933406 167458907 85004756 42667331 21354465 10679838 5340245 2670163 1335087 667544 333772 166886 83443 41722 20861 10430 5215 2608 1304 652 326 163 81 41 20 10 5 3 1 x34 x35 x36 = ex x0 x1 x2 (((aS x y 30).2.2 + z) % 4294967296) 536870912 316933406 167458907 85004756 42667331 21354465 10679838 5340245 2670163 1335087 667544 333772 166886 83443 41722 20861 10430 5215 2608 1304 652 326 163 81 41 20 10 5 3 1 30 (aS x y 30).1 (aS x y 30).2.1
  | _, 0, _, _, _, _, _, _, h, _, _, _, _ => absurd h (by omega)
  | 0, n + 1, i, _, _, _, _, h, _, rfl, rfl, rfl, rfl => by
    obtain rfl : i = 30 := by omega
    rw [L_qa_0]
    unfold B_qa_0 Bg_qa_0
    exact bn (df (by omega)) rfl
  | k + 1, n + 1, i, _, _, _, _, h, hn, rfl, rfl, rfl, rfl => by
    have hi' : i < 30 := by omega
    obtain ⟨g1, g2⟩ := angL_get i hi'
    obtain ⟨b1, b2⟩ := aS_I hx hy (i := i + 1) (by omega)
    have b3 := tA_bd i hi'
    obtain ⟨t1, t2, t3⟩ := turnedF F (x := (aS x y i).1) (y := (aS x y i).2.1) (i := i) (by omega) (decide ((aS x y i).2.1 < 0)) b1 b2
    rw [L_qa_0]
    unfold B_qa_0 Bg_qa_0
    refine bp (dt (by omega)) (bp (by rw [zmul1, g1, show ((decide (0 ≤ (i : Int))) && (decide ((i : Int) < 30))) = true from ix_ok i 30 hi']; rfl) ?_)
    rw [zmul1, g2]
    refine bp t1 ?_
    rw [t2, t3]
    have w1 : IntKind.wrap .i64 ((i : Int) + 1) = ((i + 1 : Nat) : Int) := wi64_s i (by omega)
    rw [w1]
    by_cases hs : (aS x y i).2.1 < 0
    · refine bp (dt hs) ?_
      refine lp_turn_Angle_0 F ex hx hy x0 x1 x2 k n (i + 1) _ _ _ _ (by omega) (by omega) rfl rfl rfl ?_
      simp only [aS]
      rw [if_pos hs, wi64_in (x := 0 - tA i) (by unfold I64; omega), wu32, wu32]
      omega
    · refine bn (df hs) ?_
      refine lp_turn_Angle_0 F ex hx hy x0 x1 x2 k n (i + 1) _ _ _ _ (by omega) (by omega) rfl rfl rfl ?_
      simp only [aS]
      rw [if_neg hs, wu32, wu32]
      omega
theorem lp_rAngle_2 (F : Nat) (hF : 200 ≤ F) (ex) {x y z : Int} (hx : 0 ≤ x ∧ x ≤ 2305843009213693952) (hy : -2305843009213693952 ≤ y ∧ y ≤ 2305843009213693952) (hz : 0 ≤ z ∧ z ≤ 4294967296) (x0 x1 x2 x6 x7 : Int) : ∀ (k n i : Nat) (x3 x4 x5 x8 : Int), i + k = 30 → k < n → x8 = i → x3 = (aS x y i).1 → x4 = (aS x y i).2.1 → x5 = (aS x y i).2.2 + z →
    L_r_2 F ex n x0 x1 x2 x3 x4 x5 x6 x7 x8 = ex x0 x1 x2 (aS x y 30).1 (aS x y 30).2.1 ((aS x y 30).2.2 + z) x6 x7 30
  | _, 0, _, _, _, _, _, _, h, _, _, _, _ => absurd h (by omega)
  | 0, n + 1, i, _, _, _, _, h, _, rfl, rfl, rfl, rfl => by
    obtain rfl : i = 30 := by omega
    rw [L_r_2]
    unfold B_r_2 Bg_r_2
    exact bn (df (by omega)) rfl
  | k + 1, n + 1, i, _, _, _, _, h, hn, rfl, rfl, rfl, rfl => by
    have hi' : i < 30 := by omega
    obtain ⟨b1, b2⟩ := aS_I hx hy (i := i + 1) (by omega)
    obtain ⟨c1, c2⟩ := aS_I hx hy (i := i) (by omega)
    obtain ⟨_, _, b4⟩ := aS_bd hx hy (i := i) (by omega)
    have b3 := tA_bd i hi'
    obtain ⟨g1, g2⟩ := a_over F hF c1 (m := i) (by omega)
    obtain ⟨j1, j2⟩ := a_over F hF c2 (m := i) (by omega)
    obtain ⟨s1, s2⟩ := a_step F hi'
    rw [L_r_2]
    unfold B_r_2 Bg_r_2
    refine bp (dt (by omega)) (bp g1 (bp j1 ?_))
    rw [g2, j2]
    have w1 : IntKind.wrap .i64 ((i : Int) + 1) = ((i + 1 : Nat) : Int) := wi64_s i (by omega)
    rw [w1]
    by_cases hs : (aS x y i).2.1 < 0
    · refine bn (df (by omega)) (bp s1 ?_)
      rw [s2]
      simp only [aS, rotX, rotY, hs, decide_true, if_true] at b1 b2
      refine lp_rAngle_2 F hF ex hx hy hz x0 x1 x2 x6 x7 k n (i + 1) _ _ _ _ (by omega) (by omega) rfl ?_ ?_ ?_
      · simp only [aS, rotX, hs, decide_true, if_true]; rw [wi64_in b1]
      · simp only [aS, rotY, hs, decide_true, if_true]; rw [wi64_in b2]
      · simp only [aS, hs, if_true]; rw [wi64_in (by unfold I64; omega)]; omega
    · refine bp (dt (by omega)) (bp s1 ?_)
      rw [s2]
      simp only [aS, rotX, rotY, hs, decide_false, Bool.false_eq_true, if_false] at b1 b2
      refine lp_rAngle_2 F hF ex hx hy hz x0 x1 x2 x6 x7 k n (i + 1) _ _ _ _ (by omega) (by omega) rfl ?_ ?_ ?_
      · simp only [aS, rotX, hs, decide_false, Bool.false_eq_true, if_false]; rw [wi64_in b1]
      · simp only [aS, rotY, hs, decide_false, Bool.false_eq_true, if_false]; rw [wi64_in b2]
      · simp only [aS, hs, if_false]; rw [wi64_in (by unfold I64; omega)]; omega
end Go.Xv
namespace Go.Xv
theorem a_Unit_0 (F : Nat) (hF : 200 ≤ F) {a0 a1 a2 m : Int} (h : I64 a0) (hm : I64 m) : ok_sa F 0 a0 a1 a2 m = true ∧ o_sa_0 F 0 a0 a1 a2 m = fdivV a0 m ∧ o_sa_1 F 0 a0 a1 a2 m = fdivC a0 m := by
  refine k_sa F _ _ _ _ _ ?_
  unfold f_sa fg_sa
  obtain ⟨h1, h2, h3⟩ := k_lc F _ _ (f_fDiv F hF h hm)
  refine bp rfl (bp rfl (bp h1 ?_))
  exact congrArg some (show VV.v (.tuple #[.int .i64 (o_lc_0 F a0 m), .bool (o_lc_1 F a0 m)]) = _ by rw [h2, h3])
theorem a_Scale_0 (F : Nat) {a0 a1 a2 m : Int} (h : I64 a0) (hm : I64 m) : ok_z F 0 a0 a1 a2 m = true ∧ o_z_0 F 0 a0 a1 a2 m = clipV (near (a0 * m) 32) ∧ o_z_1 F 0 a0 a1 a2 m = clipC (near (a0 * m) 32) := by
  refine k_z F _ _ _ _ _ ?_
  unfold f_z fg_z
  obtain ⟨h1, h2, h3⟩ := a_fMul F h hm
  refine bp rfl (bp rfl (bp h1 ?_))
  exact congrArg some (show VV.v (.tuple #[.int .i64 (o_mc_0 F a0 m), .bool (o_mc_1 F a0 m)]) = _ by rw [h2, h3])
theorem a_Sub_0 (F : Nat) {a0 a1 a2 a3 a4 a5 : Int} (h : I64 a0) (hm : I64 a3) : ok_tb F 0 a0 a1 a2 a3 a4 a5 = true ∧ o_tb_0 F 0 a0 a1 a2 a3 a4 a5 = clipV (a0 - a3) ∧ o_tb_1 F 0 a0 a1 a2 a3 a4 a5 = clipC (a0 - a3) := by
  refine k_tb F _ _ _ _ _ _ _ ?_
  unfold f_tb fg_tb
  obtain ⟨h1, h2, h3⟩ := a_fSub F h hm
  refine bp rfl (bp rfl (bp rfl (bp rfl (bp h1 ?_))))
  exact congrArg some (show VV.v (.tuple #[.int .i64 (o_oc_0 F a0 a3), .bool (o_oc_1 F a0 a3)]) = _ by rw [h2, h3])
theorem a_Unit_1 (F : Nat) (hF : 200 ≤ F) {a0 a1 a2 m : Int} (h : I64 a1) (hm : I64 m) : ok_sa F 1 a0 a1 a2 m = true ∧ o_sa_0 F 1 a0 a1 a2 m = fdivV a1 m ∧ o_sa_1 F 1 a0 a1 a2 m = fdivC a1 m := by
  refine k_sa F _ _ _ _ _ ?_
  unfold f_sa fg_sa
  obtain ⟨h1, h2, h3⟩ := k_lc F _ _ (f_fDiv F hF h hm)
  refine bp rfl (bp rfl (bp h1 ?_))
  exact congrArg some (show VV.v (.tuple #[.int .i64 (o_lc_0 F a1 m), .bool (o_lc_1 F a1 m)]) = _ by rw [h2, h3])
theorem a_Scale_1 (F : Nat) {a0 a1 a2 m : Int} (h : I64 a1) (hm : I64 m) : ok_z F 1 a0 a1 a2 m = true ∧ o_z_0 F 1 a0 a1 a2 m = clipV (near (a1 * m) 32) ∧ o_z_1 F 1 a0 a1 a2 m = clipC (near (a1 * m) 32) := by
  refine k_z F _ _ _ _ _ ?_
  unfold f_z fg_z
  obtain ⟨h1, h2, h3⟩ := a_fMul F h hm
  refine bp rfl (bp rfl (bp h1 ?_))
  exact congrArg some (show VV.v (.tuple #[.int .i64 (o_mc_0 F a1 m), .bool (o_mc_1 F a1 m)]) = _ by rw [h2, h3])
theorem a_Sub_1 (F : Nat) {a0 a1 a2 a3 a4 a5 : Int} (h : I64 a1) (hm : I64 a4) : ok_tb F 1 a0 a1 a2 a3 a4 a5 = true ∧ o_tb_0 F 1 a0 a1 a2 a3 a4 a5 = clipV (a1 - a4) ∧ o_tb_1 F 1 a0 a1 a2 a3 a4 a5 = clipC (a1 - a4) := by
  refine k_tb F _ _ _ _ _ _ _ ?_
  unfold f_tb fg_tb
  obtain ⟨h1, h2, h3⟩ := a_fSub F h hm
  refine bp rfl (bp rfl (bp rfl (bp rfl (bp h1 ?_))))
  exact congrArg some (show VV.v (.tuple #[.int .i64 (o_oc_0 F a1 a4), .bool (o_oc_1 F a1 a4)]) = _ by rw [h2, h3])
theorem a_Unit_2 (F : Nat) (hF : 200 ≤ F) {a0 a1 a2 m : Int} (h : I64 a2) (hm : I64 m) : ok_sa F 2 a0 a1 a2 m = true ∧ o_sa_0 F 2 a0 a1 a2 m = fdivV a2 m ∧ o_sa_1 F 2 a0 a1 a2 m = fdivC a2 m := by
  refine k_sa F _ _ _ _ _ ?_
  unfold f_sa fg_sa
  obtain ⟨h1, h2, h3⟩ := k_lc F _ _ (f_fDiv F hF h hm)
  refine bp rfl (bp rfl (bp h1 ?_))
  exact congrArg some (show VV.v (.tuple #[.int .i64 (o_lc_0 F a2 m), .bool (o_lc_1 F a2 m)]) = _ by rw [h2, h3])
theorem a_Scale_2 (F : Nat) {a0 a1 a2 m : Int} (h : I64 a2) (hm : I64 m) : ok_z F 2 a0 a1 a2 m = true ∧ o_z_0 F 2 a0 a1 a2 m = clipV (near (a2 * m) 32) ∧ o_z_1 F 2 a0 a1 a2 m = clipC (near (a2 * m) 32) := by
  refine k_z F _ _ _ _ _ ?_
  unfold f_z fg_z
  obtain ⟨h1, h2, h3⟩ := a_fMul F h hm
  refine bp rfl (bp rfl (bp h1 ?_))
  exact congrArg some (show VV.v (.tuple #[.int .i64 (o_mc_0 F a2 m), .bool (o_mc_1 F a2 m)]) = _ by rw [h2, h3])
theorem a_Sub_2 (F : Nat) {a0 a1 a2 a3 a4 a5 : Int} (h : I64 a2) (hm : I64 a5) : ok_tb F 2 a0 a1 a2 a3 a4 a5 = true ∧ o_tb_0 F 2 a0 a1 a2 a3 a4 a5 = clipV (a2 - a5) ∧ o_tb_1 F 2 a0 a1 a2 a3 a4 a5 = clipC (a2 - a5) := by
  refine k_tb F _ _ _ _ _ _ _ ?_
  unfold f_tb fg_tb
  obtain ⟨h1, h2, h3⟩ := a_fSub F h hm
  refine bp rfl (bp rfl (bp rfl (bp rfl (bp h1 ?_))))
  exact congrArg some (show VV.v (.tuple #[.int .i64 (o_oc_0 F a2 a5), .bool (o_oc_1 F a2 a5)]) = _ by rw [h2, h3])
def pr (a b : Int) : Int := a * b / 4294967296 + a * b / 2147483648 % 2
theorem pr_near (a b : Int) : near (a * b) 32 = pr a b := by
  unfold near pr
  rw [if_neg (by decide), show (2 : Int) ^ 32 = 4294967296 by decide, show (2 : Int) ^ (32 - 1) = 2147483648 by decide]
theorem pr_comm (a b : Int) : pr a b = pr b a := by unfold pr; rw [Int.mul_comm]
theorem pr_bd {a b : Int} (ha : I64 a) (hb : I64 b) : -19807040628566084398385987585 ≤ pr a b ∧ pr a b ≤ 19807040628566084398385987585 := by
  have := mul_bd ha hb
  unfold pr; omega
theorem a_product (F : Nat) {a b : Int} (ha : I64 a) (hb : I64 b) : ok_aa F a b = true ∧ o_aa_0 F a b = hi (pr a b) ∧ o_aa_1 F a b = lo (pr a b) := by
  refine k_aa F _ _ ?_
  unfold f_aa fg_aa
  obtain ⟨h1, h2, h3⟩ := a_Mul F ha hb
  obtain ⟨n1, n2, n3⟩ := a_Near F 32 (mul_W ha hb)
  rw [cl32, pr_near] at n2 n3
  refine bp h1 ?_
  rw [h2, h3]
  refine bp n1 ?_
  rw [n2, n3]
theorem a_rproduct (F : Nat) (hF : 200 ≤ F) {a b : Int} (ha : I64 a) (hb : I64 b) : ok_f F a b = true ∧ o_f_0 F a b = hi (pr a b) ∧ o_f_1 F a b = lo (pr a b) := by
  refine k_f F _ _ ?_
  unfold f_f fg_f
  obtain ⟨h1, h2, h3⟩ := a_rMul F hF ha hb
  obtain ⟨n1, n2, n3⟩ := a_rNear F hF 32 (mul_W ha hb)
  rw [cl32, pr_near] at n2 n3
  refine bp h1 ?_
  rw [h2, h3]
  refine bp n1 ?_
  rw [n2, n3]
theorem a_vclip (F : Nat) {z : Int} (h : W128 z) : ok_gc F (hi z) (lo z) = true ∧ o_gc_0 F (hi z) (lo z) = clipV z ∧ o_gc_1 F (hi z) (lo z) = clipC z := by
  refine k_gc F _ _ ?_
  unfold f_gc fg_gc
  obtain ⟨h1, h2, h3⟩ := a_Clip F h
  refine bp h1 ?_
  rw [h2, h3]
theorem a_rvclip (F : Nat) {z : Int} (h : W128 z) : ok_na F (hi z) (lo z) = true ∧ o_na_0 F (hi z) (lo z) = clipV z ∧ o_na_1 F (hi z) (lo z) = clipC z := by
  refine k_na F _ _ ?_
  unfold f_na fg_na
  obtain ⟨h1, h2, h3⟩ := a_rClip F h
  refine bp h1 ?_
  rw [h2, h3]
def dotZ (a0 a1 a2 a3 a4 a5 : Int) : Int := pr a0 a3 + pr a1 a4 + pr a2 a5
theorem dot_W {a0 a1 a2 a3 a4 a5 : Int} (h0 : I64 a0) (h1 : I64 a1) (h2 : I64 a2) (h3 : I64 a3) (h4 : I64 a4) (h5 : I64 a5) : W128 (dotZ a0 a1 a2 a3 a4 a5) := by
  have := pr_bd h0 h3
  have := pr_bd h1 h4
  have := pr_bd h2 h5
  unfold dotZ W128; omega
theorem f_Dot (F : Nat) (hF : 200 ≤ F) {a0 a1 a2 a3 a4 a5 : Int} (h0 : I64 a0) (h1 : I64 a1) (h2 : I64 a2) (h3 : I64 a3) (h4 : I64 a4) (h5 : I64 a5) : f_rc F a0 a1 a2 a3 a4 a5 = some (.v (.tuple #[.int .i64 (clipV (dotZ a0 a1 a2 a3 a4 a5)), .bool (clipC (dotZ a0 a1 a2 a3 a4 a5))])) := by
  obtain ⟨p1, p2, p3⟩ := a_product F h0 h3
  obtain ⟨q1, q2, q3⟩ := a_product F h1 h4
  obtain ⟨r1, r2, r3⟩ := a_product F h2 h5
  obtain ⟨s1, s2, s3⟩ := a_Add F 0 (pr a0 a3)
  obtain ⟨t1, t2, t3⟩ := a_Add F (pr a0 a3) (pr a1 a4)
  obtain ⟨u1, u2, u3⟩ := a_Add F (pr a0 a3 + pr a1 a4) (pr a2 a5)
  obtain ⟨c1, c2, c3⟩ := a_vclip F (dot_W h0 h1 h2 h3 h4 h5)
  rw [Int.zero_add] at s2 s3
  obtain ⟨G, hG⟩ : ∃ G, F = G + 4 := ⟨F - 4, by omega⟩
  have w1 : IntKind.wrap .i64 (0 + 1) = 1 := by decide
  have w2 : IntKind.wrap .i64 (1 + 1) = 2 := by decide
  have w3 : IntKind.wrap .i64 (2 + 1) = 3 := by decide
  unfold f_rc fg_rc
  rw [show L_rc_0 F _ F = L_rc_0 F _ (G + 4) from congrArg (L_rc_0 F _) hG, L_rc_0]
  unfold B_rc_0 Bg_rc_0
  refine bp rfl (bp rfl (bp rfl (bp rfl (bp rfl (bp p1 ?_)))))
  have e0 : (iv [.v (.int .i64 a0), .v (.int .i64 a1), .v (.int .i64 a2)][0 + Int.toNat 0 * 1]?) = a0 := rfl
  have e3 : (iv [.v (.int .i64 a3), .v (.int .i64 a4), .v (.int .i64 a5)][0 + Int.toNat 0 * 1]?) = a3 := rfl
  rw [e0, e3, p2, p3]
  have s1' : ok_hc F 0 0 (hi (pr a0 a3)) (lo (pr a0 a3)) = true := s1
  have s2' : o_hc_0 F 0 0 (hi (pr a0 a3)) (lo (pr a0 a3)) = hi (pr a0 a3) := s2
  have s3' : o_hc_1 F 0 0 (hi (pr a0 a3)) (lo (pr a0 a3)) = lo (pr a0 a3) := s3
  refine bp s1' ?_
  rw [s2', s3', w1, L_rc_0]
  unfold B_rc_0 Bg_rc_0
  refine bp rfl (bp rfl (bp rfl (bp rfl (bp rfl (bp q1 ?_)))))
  have e1 : (iv [.v (.int .i64 a0), .v (.int .i64 a1), .v (.int .i64 a2)][0 + Int.toNat 1 * 1]?) = a1 := rfl
  have e4 : (iv [.v (.int .i64 a3), .v (.int .i64 a4), .v (.int .i64 a5)][0 + Int.toNat 1 * 1]?) = a4 := rfl
  rw [e1, e4, q2, q3]
  refine bp t1 ?_
  rw [t2, t3, w2, L_rc_0]
  unfold B_rc_0 Bg_rc_0
  refine bp rfl (bp rfl (bp rfl (bp rfl (bp rfl (bp r1 ?_)))))
  have e2 : (iv [.v (.int .i64 a0), .v (.int .i64 a1), .v (.int .i64 a2)][0 + Int.toNat 2 * 1]?) = a2 := rfl
  have e5 : (iv [.v (.int .i64 a3), .v (.int .i64 a4), .v (.int .i64 a5)][0 + Int.toNat 2 * 1]?) = a5 := rfl
  rw [e2, e5, r2, r3]
  refine bp u1 ?_
  rw [u2, u3, w3, L_rc_0]
  unfold B_rc_0 Bg_rc_0
  refine bn rfl ?_
  have e : pr a0 a3 + pr a1 a4 + pr a2 a5 = dotZ a0 a1 a2 a3 a4 a5 := rfl
  rw [e]
  refine bp c1 ?_
  rw [c2, c3]
theorem a_Dot (F : Nat) (hF : 200 ≤ F) {a0 a1 a2 a3 a4 a5 : Int} (h0 : I64 a0) (h1 : I64 a1) (h2 : I64 a2) (h3 : I64 a3) (h4 : I64 a4) (h5 : I64 a5) : ok_rc F a0 a1 a2 a3 a4 a5 = true ∧ o_rc_0 F a0 a1 a2 a3 a4 a5 = clipV (dotZ a0 a1 a2 a3 a4 a5) ∧ o_rc_1 F a0 a1 a2 a3 a4 a5 = clipC (dotZ a0 a1 a2 a3 a4 a5) := k_rc F _ _ _ _ _ _ (f_Dot F hF h0 h1 h2 h3 h4 h5)
theorem a_rDot (F : Nat) (hF : 200 ≤ F) {a0 a1 a2 a3 a4 a5 : Int} (h0 : I64 a0) (h1 : I64 a1) (h2 : I64 a2) (h3 : I64 a3) (h4 : I64 a4) (h5 : I64 a5) : ok_jb F a0 a1 a2 a3 a4 a5 = true ∧ o_jb_0 F a0 a1 a2 a3 a4 a5 = clipV (dotZ a0 a1 a2 a3 a4 a5) ∧ o_jb_1 F a0 a1 a2 a3 a4 a5 = clipC (dotZ a0 a1 a2 a3 a4 a5) := by
  refine k_jb F _ _ _ _ _ _ ?_
  unfold f_jb fg_jb
  obtain ⟨p1, p2, p3⟩ := a_rproduct F hF h0 h3
  obtain ⟨q1, q2, q3⟩ := a_rproduct F hF h1 h4
  obtain ⟨r1, r2, r3⟩ := a_rproduct F hF h2 h5
  obtain ⟨t1, t2, t3⟩ := a_rAdd F hF (pr a0 a3) (pr a1 a4)
  obtain ⟨u1, u2, u3⟩ := a_rAdd F hF (pr a0 a3 + pr a1 a4) (pr a2 a5)
  obtain ⟨c1, c2, c3⟩ := a_rvclip F (dot_W h0 h1 h2 h3 h4 h5)
  unfold dotZ at c1 c2 c3 ⊢
  refine bp p1 (bp q1 ?_)
  rw [p2, p3, q2, q3]
  refine bp t1 (bp r1 ?_)
  rw [t2, t3, r2, r3]
  refine bp u1 ?_
  rw [u2, u3]
  refine bp c1 ?_
  rw [c2, c3]
def arZ (a b c d : Int) : Int := pr a b - pr c d
theorem ar_W {a b c d : Int} (h0 : I64 a) (h1 : I64 b) (h2 : I64 c) (h3 : I64 d) : W128 (arZ a b c d) := by
  have := pr_bd h0 h1
  have := pr_bd h2 h3
  unfold arZ W128; omega
theorem a_Cross_0 (F : Nat) {a0 a1 a2 a3 a4 a5 : Int} (h0 : I64 a0) (h1 : I64 a1) (h2 : I64 a2) (h3 : I64 a3) (h4 : I64 a4) (h5 : I64 a5) : ok_y F 0 a0 a1 a2 a3 a4 a5 = true ∧ o_y_0 F 0 a0 a1 a2 a3 a4 a5 = clipV (arZ a1 a5 a2 a4) ∧ o_y_1 F 0 a0 a1 a2 a3 a4 a5 = clipC (arZ a1 a5 a2 a4) := by
  refine k_y F _ _ _ _ _ _ _ ?_
  unfold f_y fg_y
  obtain ⟨p1, p2, p3⟩ := a_product F h1 h5
  obtain ⟨q1, q2, q3⟩ := a_product F h2 h4
  obtain ⟨n1, n2, n3⟩ := a_Neg F (pr a2 a4)
  obtain ⟨s1, s2, s3⟩ := a_Add F (pr a1 a5) (-pr a2 a4)
  obtain ⟨c1, c2, c3⟩ := a_vclip F (ar_W h1 h5 h2 h4)
  unfold arZ at c1 c2 c3 ⊢
  rw [Int.sub_eq_add_neg] at c1 c2 c3 ⊢
  have w1 : Int.tmod (IntKind.wrap .i64 (0 + 1)) 3 = 1 := by decide
  have w2 : Int.tmod (IntKind.wrap .i64 (0 + 2)) 3 = 2 := by decide
  rw [w1, w2]
  refine bp rfl (bp rfl (bp rfl (bp rfl (bp p1 (bp rfl (bp rfl (bp rfl (bp rfl (bp q1 ?_)))))))))
  have e1 : (iv [.v (.int .i64 a0), .v (.int .i64 a1), .v (.int .i64 a2)][0 + Int.toNat 1 * 1]?) = a1 := rfl
  have e2 : (iv [.v (.int .i64 a0), .v (.int .i64 a1), .v (.int .i64 a2)][0 + Int.toNat 2 * 1]?) = a2 := rfl
  have e3 : (iv [.v (.int .i64 a3), .v (.int .i64 a4), .v (.int .i64 a5)][0 + Int.toNat 1 * 1]?) = a4 := rfl
  have e4 : (iv [.v (.int .i64 a3), .v (.int .i64 a4), .v (.int .i64 a5)][0 + Int.toNat 2 * 1]?) = a5 := rfl
  rw [e1, e2, e3, e4, p2, p3, q2, q3]
  refine bp n1 ?_
  rw [n2, n3]
  refine bp s1 ?_
  rw [s2, s3]
  refine bp c1 ?_
  rw [c2, c3]
theorem a_Cross_1 (F : Nat) {a0 a1 a2 a3 a4 a5 : Int} (h0 : I64 a0) (h1 : I64 a1) (h2 : I64 a2) (h3 : I64 a3) (h4 : I64 a4) (h5 : I64 a5) : ok_y F 1 a0 a1 a2 a3 a4 a5 = true ∧ o_y_0 F 1 a0 a1 a2 a3 a4 a5 = clipV (arZ a2 a3 a0 a5) ∧ o_y_1 F 1 a0 a1 a2 a3 a4 a5 = clipC (arZ a2 a3 a0 a5) := by
  refine k_y F _ _ _ _ _ _ _ ?_
  unfold f_y fg_y
  obtain ⟨p1, p2, p3⟩ := a_product F h2 h3
  obtain ⟨q1, q2, q3⟩ := a_product F h0 h5
  obtain ⟨n1, n2, n3⟩ := a_Neg F (pr a0 a5)
  obtain ⟨s1, s2, s3⟩ := a_Add F (pr a2 a3) (-pr a0 a5)
  obtain ⟨c1, c2, c3⟩ := a_vclip F (ar_W h2 h3 h0 h5)
  unfold arZ at c1 c2 c3 ⊢
  rw [Int.sub_eq_add_neg] at c1 c2 c3 ⊢
  have w1 : Int.tmod (IntKind.wrap .i64 (1 + 1)) 3 = 2 := by decide
  have w2 : Int.tmod (IntKind.wrap .i64 (1 + 2)) 3 = 0 := by decide
  rw [w1, w2]
  refine bp rfl (bp rfl (bp rfl (bp rfl (bp p1 (bp rfl (bp rfl (bp rfl (bp rfl (bp q1 ?_)))))))))
  have e1 : (iv [.v (.int .i64 a0), .v (.int .i64 a1), .v (.int .i64 a2)][0 + Int.toNat 2 * 1]?) = a2 := rfl
  have e2 : (iv [.v (.int .i64 a0), .v (.int .i64 a1), .v (.int .i64 a2)][0 + Int.toNat 0 * 1]?) = a0 := rfl
  have e3 : (iv [.v (.int .i64 a3), .v (.int .i64 a4), .v (.int .i64 a5)][0 + Int.toNat 2 * 1]?) = a5 := rfl
  have e4 : (iv [.v (.int .i64 a3), .v (.int .i64 a4), .v (.int .i64 a5)][0 + Int.toNat 0 * 1]?) = a3 := rfl
  rw [e1, e2, e3, e4, p2, p3, q2, q3]
  refine bp n1 ?_
  rw [n2, n3]
  refine bp s1 ?_
  rw [s2, s3]
  refine bp c1 ?_
  rw [c2, c3]
theorem a_Cross_2 (F : Nat) {a0 a1 a2 a3 a4 a5 : Int} (h0 : I64 a0) (h1 : I64 a1) (h2 : I64 a2) (h3 : I64 a3) (h4 : I64 a4) (h5 : I64 a5) : ok_y F 2 a0 a1 a2 a3 a4 a5 = true ∧ o_y_0 F 2 a0 a1 a2 a3 a4 a5 = clipV (arZ a0 a4 a1 a3) ∧ o_y_1 F 2 a0 a1 a2 a3 a4 a5 = clipC (arZ a0 a4 a1 a3) := by
  refine k_y F _ _ _ _ _ _ _ ?_
  unfold f_y fg_y
  obtain ⟨p1, p2, p3⟩ := a_product F h0 h4
  obtain ⟨q1, q2, q3⟩ := a_product F h1 h3
  obtain ⟨n1, n2, n3⟩ := a_Neg F (pr a1 a3)
  obtain ⟨s1, s2, s3⟩ := a_Add F (pr a0 a4) (-pr a1 a3)
  obtain ⟨c1, c2, c3⟩ := a_vclip F (ar_W h0 h4 h1 h3)
  unfold arZ at c1 c2 c3 ⊢
  rw [Int.sub_eq_add_neg] at c1 c2 c3 ⊢
  have w1 : Int.tmod (IntKind.wrap .i64 (2 + 1)) 3 = 0 := by decide
  have w2 : Int.tmod (IntKind.wrap .i64 (2 + 2)) 3 = 1 := by decide
  rw [w1, w2]
  refine bp rfl (bp rfl (bp rfl (bp rfl (bp p1 (bp rfl (bp rfl (bp rfl (bp rfl (bp q1 ?_)))))))))
  have e1 : (iv [.v (.int .i64 a0), .v (.int .i64 a1), .v (.int .i64 a2)][0 + Int.toNat 0 * 1]?) = a0 := rfl
  have e2 : (iv [.v (.int .i64 a0), .v (.int .i64 a1), .v (.int .i64 a2)][0 + Int.toNat 1 * 1]?) = a1 := rfl
  have e3 : (iv [.v (.int .i64 a3), .v (.int .i64 a4), .v (.int .i64 a5)][0 + Int.toNat 0 * 1]?) = a3 := rfl
  have e4 : (iv [.v (.int .i64 a3), .v (.int .i64 a4), .v (.int .i64 a5)][0 + Int.toNat 1 * 1]?) = a4 := rfl
  rw [e1, e2, e3, e4, p2, p3, q2, q3]
  refine bp n1 ?_
  rw [n2, n3]
  refine bp s1 ?_
  rw [s2, s3]
  refine bp c1 ?_
  rw [c2, c3]
theorem a_Cross (F : Nat) (hF : 200 ≤ F) {a0 a1 a2 a3 a4 a5 : Int} (h0 : I64 a0) (h1 : I64 a1) (h2 : I64 a2) (h3 : I64 a3) (h4 : I64 a4) (h5 : I64 a5) : ok_rb F a0 a1 a2 a3 a4 a5 = true ∧ o_rb_0 F a0 a1 a2 a3 a4 a5 = clipV (arZ a1 a5 a2 a4) ∧ o_y F a0 a1 a2 a3 a4 a5 = clipV (arZ a2 a3 a0 a5) ∧ o_rb_2 F a0 a1 a2 a3 a4 a5 = clipV (arZ a0 a4 a1 a3) ∧ o_rb_3 F a0 a1 a2 a3 a4 a5 = (clipC (arZ a1 a5 a2 a4) || clipC (arZ a2 a3 a0 a5) || clipC (arZ a0 a4 a1 a3)) := by
  refine k_rb F _ _ _ _ _ _ ?_
  unfold f_rb fg_rb
  obtain ⟨e1, e2, e3, e4, e5⟩ := k_ta F _ _ _ _ _ _ (f_vec_eachv1' F hF (a_Cross_0 F h0 h1 h2 h3 h4 h5) (a_Cross_1 F h0 h1 h2 h3 h4 h5) (a_Cross_2 F h0 h1 h2 h3 h4 h5))
  refine bp e1 ?_
  rw [e2, e3, e4, e5]
theorem a_area (F : Nat) (hF : 200 ≤ F) {a b c d : Int} (h0 : I64 a) (h1 : I64 b) (h2 : I64 c) (h3 : I64 d) : ok_la F a b c d = true ∧ o_la_0 F a b c d = clipV (arZ a b c d) ∧ o_la_1 F a b c d = clipC (arZ a b c d) := by
  refine k_la F _ _ _ _ ?_
  unfold f_la fg_la
  obtain ⟨p1, p2, p3⟩ := a_rproduct F hF h0 h1
  obtain ⟨q1, q2, q3⟩ := a_rproduct F hF h2 h3
  obtain ⟨n1, n2, n3⟩ := a_rNeg F hF (pr c d)
  obtain ⟨s1, s2, s3⟩ := a_rAdd F hF (pr a b) (-pr c d)
  obtain ⟨c1, c2, c3⟩ := a_rvclip F (ar_W h0 h1 h2 h3)
  unfold arZ at c1 c2 c3 ⊢
  rw [Int.sub_eq_add_neg] at c1 c2 c3 ⊢
  refine bp p1 (bp q1 ?_)
  rw [p2, p3, q2, q3]
  refine bp n1 ?_
  rw [n2, n3]
  refine bp s1 ?_
  rw [s2, s3]
  refine bp c1 ?_
  rw [c2, c3]
theorem or3 {x y z : Int} {a b c : Bool} : (bif a then (some (VV.v (.tuple #[.agg #[.int .i64 x, .int .i64 y, .int .i64 z], .bool true])) : R) else (bif b then (some (.v (.tuple #[.agg #[.int .i64 x, .int .i64 y, .int .i64 z], .bool true]))) else (some (.v (.tuple #[.agg #[.int .i64 x, .int .i64 y, .int .i64 z], .bool c]))))) = some (.v (.tuple #[.agg #[.int .i64 x, .int .i64 y, .int .i64 z], .bool (a || b || c)])) := by
  cases a <;> cases b <;> rfl
theorem a_rCross (F : Nat) (hF : 200 ≤ F) {a0 a1 a2 a3 a4 a5 : Int} (h0 : I64 a0) (h1 : I64 a1) (h2 : I64 a2) (h3 : I64 a3) (h4 : I64 a4) (h5 : I64 a5) : ok_s F a0 a1 a2 a3 a4 a5 = true ∧ o_s_0 F a0 a1 a2 a3 a4 a5 = clipV (arZ a1 a5 a2 a4) ∧ o_s_1 F a0 a1 a2 a3 a4 a5 = clipV (arZ a2 a3 a0 a5) ∧ o_s_2 F a0 a1 a2 a3 a4 a5 = clipV (arZ a0 a4 a1 a3) ∧ o_s_3 F a0 a1 a2 a3 a4 a5 = (clipC (arZ a1 a5 a2 a4) || clipC (arZ a2 a3 a0 a5) || clipC (arZ a0 a4 a1 a3)) := by
  refine k_s F _ _ _ _ _ _ ?_
  unfold f_s fg_s
  obtain ⟨p1, p2, p3⟩ := a_area F hF h1 h5 h2 h4
  obtain ⟨q1, q2, q3⟩ := a_area F hF h2 h3 h0 h5
  obtain ⟨r1, r2, r3⟩ := a_area F hF h0 h4 h1 h3
  refine bp p1 (bp q1 (bp r1 ?_))
  rw [p2, p3, q2, q3, r2, r3]
  exact or3
theorem a_Sub (F : Nat) (hF : 200 ≤ F) {a0 a1 a2 a3 a4 a5 : Int} (h0 : I64 a0) (h1 : I64 a1) (h2 : I64 a2) (h3 : I64 a3) (h4 : I64 a4) (h5 : I64 a5) : ok_sc F a0 a1 a2 a3 a4 a5 = true ∧ o_sc_0 F a0 a1 a2 a3 a4 a5 = clipV (a0 - a3) ∧ o_tb F a0 a1 a2 a3 a4 a5 = clipV (a1 - a4) ∧ o_sc_2 F a0 a1 a2 a3 a4 a5 = clipV (a2 - a5) ∧ o_sc_3 F a0 a1 a2 a3 a4 a5 = (clipC (a0 - a3) || clipC (a1 - a4) || clipC (a2 - a5)) := by
  refine k_sc F _ _ _ _ _ _ ?_
  unfold f_sc fg_sc
  obtain ⟨e1, e2, e3, e4, e5⟩ := k_va F _ _ _ _ _ _ (f_vec_eachv3' F hF (a_Sub_0 F h0 h3) (a_Sub_1 F h1 h4) (a_Sub_2 F h2 h5))
  refine bp e1 ?_
  rw [e2, e3, e4, e5]
theorem a_rSub6 (F : Nat) (hF : 200 ≤ F) {a0 a1 a2 a3 a4 a5 : Int} (h0 : I64 a0) (h1 : I64 a1) (h2 : I64 a2) (h3 : I64 a3) (h4 : I64 a4) (h5 : I64 a5) : ok_kb F a0 a1 a2 a3 a4 a5 = true ∧ o_kb_0 F a0 a1 a2 a3 a4 a5 = clipV (a0 - a3) ∧ o_kb_1 F a0 a1 a2 a3 a4 a5 = clipV (a1 - a4) ∧ o_kb_2 F a0 a1 a2 a3 a4 a5 = clipV (a2 - a5) ∧ o_kb_3 F a0 a1 a2 a3 a4 a5 = (clipC (a0 - a3) || clipC (a1 - a4) || clipC (a2 - a5)) := by
  refine k_kb F _ _ _ _ _ _ ?_
  unfold f_kb fg_kb
  obtain ⟨p1, p2, p3⟩ := k_ib F _ _ (f_rSub2 F hF h0 h3)
  obtain ⟨q1, q2, q3⟩ := k_ib F _ _ (f_rSub2 F hF h1 h4)
  obtain ⟨r1, r2, r3⟩ := k_ib F _ _ (f_rSub2 F hF h2 h5)
  refine bp p1 (bp q1 (bp r1 ?_))
  rw [p2, p3, q2, q3, r2, r3]
  exact or3
theorem a_Scale (F : Nat) (hF : 200 ≤ F) {a0 a1 a2 a3 : Int} (h0 : I64 a0) (h1 : I64 a1) (h2 : I64 a2) (h3 : I64 a3) : ok_sb F a0 a1 a2 a3 = true ∧ o_sb_0 F a0 a1 a2 a3 = clipV (pr a0 a3) ∧ o_z F a0 a1 a2 a3 = clipV (pr a1 a3) ∧ o_sb_2 F a0 a1 a2 a3 = clipV (pr a2 a3) ∧ o_sb_3 F a0 a1 a2 a3 = (clipC (pr a0 a3) || clipC (pr a1 a3) || clipC (pr a2 a3)) := by
  refine k_sb F _ _ _ _ ?_
  unfold f_sb fg_sb
  obtain ⟨e1, e2, e3, e4, e5⟩ := k_wa F _ _ _ _ (f_vec_eachv4' F hF (a_Scale_0 F h0 h3) (a_Scale_1 F h1 h3) (a_Scale_2 F h2 h3))
  refine bp e1 ?_
  rw [e2, e3, e4, e5]
  simp only [pr_near]
theorem a_rScale6 (F : Nat) (hF : 200 ≤ F) {a0 a1 a2 a3 : Int} (h0 : I64 a0) (h1 : I64 a1) (h2 : I64 a2) (h3 : I64 a3) : ok_t F a0 a1 a2 a3 = true ∧ o_t_0 F a0 a1 a2 a3 = clipV (pr a0 a3) ∧ o_t_1 F a0 a1 a2 a3 = clipV (pr a1 a3) ∧ o_t_2 F a0 a1 a2 a3 = clipV (pr a2 a3) ∧ o_t_3 F a0 a1 a2 a3 = (clipC (pr a0 a3) || clipC (pr a1 a3) || clipC (pr a2 a3)) := by
  refine k_t F _ _ _ _ ?_
  unfold f_t fg_t
  obtain ⟨p1, p2, p3⟩ := k_hb F _ _ (f_rMul2 F hF h0 h3)
  obtain ⟨q1, q2, q3⟩ := k_hb F _ _ (f_rMul2 F hF h1 h3)
  obtain ⟨r1, r2, r3⟩ := k_hb F _ _ (f_rMul2 F hF h2 h3)
  refine bp p1 (bp q1 (bp r1 ?_))
  rw [p2, p3, q2, q3, r2, r3]
  simp only [pr_near]
  exact or3
theorem sz_U {a : Int} (h : I64 a) : U64 (sz a) := by unfold sz; unfold I64 at h; unfold U64; split <;> omega
theorem sz_sq (a : Int) : sz a * sz a = a * a := by
  unfold sz
  split
  · rw [Int.neg_mul_neg]
  · rfl
theorem a_vbare (F : Nat) {a : Int} (h : I64 a) : ok_fc F a = true ∧ o_fc_0 F a = sz a := by
  refine k_fc F _ ?_
  unfold f_fc fg_fc sz
  unfold I64 at h
  by_cases hs : a < 0
  · refine bp (dt hs) ?_
    rw [if_pos hs, wu64, wu64]
    congr 3
    omega
  · refine bn (df hs) ?_
    rw [if_neg hs, wu64]
    congr 3
    omega
theorem a_r6bare (F : Nat) {a : Int} (h : I64 a) : ok_ma F a = true ∧ o_ma_0 F a = sz a := by
  refine k_ma F _ ?_
  unfold f_ma fg_ma sz
  unfold I64 at h
  by_cases hs : a < 0
  · refine bp (dt hs) ?_
    rw [if_pos hs, wi64_in (x := a + 1) (by unfold I64; omega), wi64_in (by unfold I64; omega), wu64, wu64]
    congr 3
    omega
  · refine bn (df hs) ?_
    rw [if_neg hs, wu64]
    congr 3
    omega
def sq3 (a b c : Int) : Int := a * a + b * b + c * c
noncomputable def lenV (z : Int) : Int := if z < 85070591730234615865843651857942052864 then rt z else 9223372036854775807
def lenC (z : Int) : Bool := decide (85070591730234615865843651857942052864 ≤ z)
theorem sq_bd64 {a : Int} (h : I64 a) : 0 ≤ a * a ∧ a * a ≤ 85070591730234615865843651857942052864 := by
  have h1 := sz_sq a
  have h2 : 0 ≤ sz a ∧ sz a ≤ 9223372036854775808 := by unfold sz; unfold I64 at h; split <;> omega
  have h3 := sq_le h2.1 h2.2
  have h4 := Int.mul_nonneg h2.1 h2.1
  omega
theorem rt_small {z : Int} (h0 : 0 ≤ z) : (rt z ≤ 9223372036854775807) ↔ z < 85070591730234615865843651857942052864 := by
  obtain ⟨h1, h2, h3⟩ := rt_spec h0
  constructor
  · intro h
    have := sq_le (x := rt z + 1) (y := 9223372036854775808) (by omega) (by omega)
    omega
  · intro h
    rcases Int.lt_or_le 9223372036854775807 (rt z) with hl | hl
    · have := sq_le (x := 9223372036854775808) (y := rt z) (by omega) (by omega)
      omega
    · exact hl
theorem len_some {n : Int} {c : Bool} {z : Int} (h : n = lenV z) (k : c = lenC z) : (some (VV.v (.tuple #[.int .i64 n, .bool c])) : R) = some (.v (.tuple #[.int .i64 (lenV z), .bool (lenC z)])) := by rw [h, k]
theorem len_big {z : Int} (h : 170141183460469231731687303715884105728 ≤ z) : (some (VV.v (.tuple #[.int .i64 9223372036854775807, .bool true])) : R) = some (.v (.tuple #[.int .i64 (lenV z), .bool (lenC z)])) := by
  refine len_some ?_ ?_
  · unfold lenV; rw [if_neg (by omega)]
  · unfold lenC; rw [dt (by omega)]
theorem hi_neg {z : Int} (h0 : 0 ≤ z) (h1 : z < 340282366920938463463374607431768211456) : (170141183460469231731687303715884105728 ≤ z ↔ W z < 0) := by unfold W; omega
end Go.Xv
namespace Go.Xv
theorem a_Sgn (F : Nat) {z : Int} (h0 : 0 ≤ z) (h1 : z < 340282366920938463463374607431768211456) : ok_yb F (hi z) (lo z) = true ∧ decide (o_yb_0 F (hi z) (lo z) < 0) = decide (170141183460469231731687303715884105728 ≤ z) := by
  obtain ⟨e1, e2⟩ := k_yb F _ _ (f_Sign F (a := hi z) (lo_U z))
  refine ⟨e1, ?_⟩
  rw [e2, val_hl]
  have := hi_neg h0 h1
  rw [Bool.eq_iff_iff]
  simp only [decide_eq_true_eq]
  split
  · omega
  · split <;> omega
theorem hi_sgn {z : Int} (h0 : 0 ≤ z) (h1 : z < 340282366920938463463374607431768211456) : decide (hi z < 0) = decide (170141183460469231731687303715884105728 ≤ z) := by
  rw [Bool.eq_iff_iff]
  simp only [decide_eq_true_eq]
  unfold hi; omega
theorem a_rootW (F : Nat) (hF : 200 ≤ F) {z : Int} (h0 : 0 ≤ z) (h1 : z < 170141183460469231731687303715884105728) : ok_nb F (hi z) (lo z) = true ∧ o_nb_0 F (hi z) (lo z) = rt z := by
  have h := f_rootWide F hF (hi_I z) (lo_U z)
  rw [val_hl, W_in (by unfold W128; omega)] at h
  unfold rootR at h
  rw [if_neg (by omega)] at h
  obtain ⟨e1, e2, _⟩ := k_nb F _ _ h
  exact ⟨e1, e2⟩
theorem a_rrootW (F : Nat) (hF : 200 ≤ F) {z : Int} (h0 : 0 ≤ z) (h1 : z < 170141183460469231731687303715884105728) : ok_ga F (hi z) (lo z) = true ∧ o_ga_0 F (hi z) (lo z) = rt z := by
  have h := f_rWide F hF (hi_I z) (lo_U z)
  rw [val_hl, W_in (by unfold W128; omega)] at h
  unfold rootR at h
  rw [if_neg (by omega)] at h
  obtain ⟨e1, e2, _⟩ := k_ga F _ _ h
  exact ⟨e1, e2⟩
theorem len_end {z : Int} (h0 : 0 ≤ z) : (bif decide (rt z > 9223372036854775807) then (some (.v (.tuple #[.int .i64 9223372036854775807, .bool true])) : R) else some (.v (.tuple #[.int .i64 (IntKind.wrap .i64 (rt z)), .bool false]))) = some (.v (.tuple #[.int .i64 (lenV z), .bool (lenC z)])) := by
  have hs := rt_small h0
  have hr := (rt_spec h0).1
  by_cases h : z < 85070591730234615865843651857942052864
  · refine bn (df (by have := hs.2 h; omega)) (len_some ?_ ?_)
    · unfold lenV; rw [if_pos h, wi64_in (by have := hs.2 h; unfold I64; omega)]
    · unfold lenC; rw [df (by omega)]
  · refine bp (dt ?_) (len_some ?_ ?_)
    · rcases Int.lt_or_le 9223372036854775807 (rt z) with hl | hl
      · exact hl
      · exact absurd (hs.1 hl) h
    · unfold lenV; rw [if_neg h]
    · unfold lenC; rw [dt (by omega)]
theorem f_Length (F : Nat) (hF : 200 ≤ F) {a b c : Int} (ha : I64 a) (hb : I64 b) (hc : I64 c) : f_ra F a b c = some (.v (.tuple #[.int .i64 (lenV (sq3 a b c)), .bool (lenC (sq3 a b c))])) := by
  obtain ⟨p1, p2⟩ := a_vbare F ha
  obtain ⟨q1, q2⟩ := a_vbare F hb
  obtain ⟨r1, r2⟩ := a_vbare F hc
  obtain ⟨s1, s2, s3⟩ := a_Square F (sz_U ha)
  obtain ⟨t1, t2, t3⟩ := a_Square F (sz_U hb)
  obtain ⟨u1, u2, u3⟩ := a_Square F (sz_U hc)
  rw [sz_sq] at s2 s3 t2 t3 u2 u3
  have ba := sq_bd64 ha
  have bb := sq_bd64 hb
  have bc := sq_bd64 hc
  obtain ⟨v1, v2, v3⟩ := a_Add F 0 (a * a)
  obtain ⟨w1, w2, w3⟩ := a_Add F (a * a) (b * b)
  obtain ⟨x1, x2, x3⟩ := a_Add F (a * a + b * b) (c * c)
  rw [Int.zero_add] at v2 v3
  have v1' : ok_hc F 0 0 (hi (a * a)) (lo (a * a)) = true := v1
  have v2' : o_hc_0 F 0 0 (hi (a * a)) (lo (a * a)) = hi (a * a) := v2
  have v3' : o_hc_1 F 0 0 (hi (a * a)) (lo (a * a)) = lo (a * a) := v3
  obtain ⟨g1, g2⟩ := a_Sgn F (z := a * a) (by omega) (by omega)
  obtain ⟨i1, i2⟩ := a_Sgn F (z := a * a + b * b) (by omega) (by omega)
  obtain ⟨j1, j2⟩ := a_Sgn F (z := a * a + b * b + c * c) (by omega) (by omega)
  obtain ⟨G, hG⟩ : ∃ G, F = G + 4 := ⟨F - 4, by omega⟩
  have y1 : IntKind.wrap .i64 (0 + 1) = 1 := by decide
  have y2 : IntKind.wrap .i64 (1 + 1) = 2 := by decide
  have y3 : IntKind.wrap .i64 (2 + 1) = 3 := by decide
  unfold f_ra fg_ra
  rw [show L_ra_0 F _ _ F = L_ra_0 F _ _ (G + 4) from congrArg (L_ra_0 F _ _) hG, L_ra_0]
  unfold B_ra_0 Bg_ra_0
  have e0 : (iv [.v (.int .i64 a), .v (.int .i64 b), .v (.int .i64 c)][Int.toNat 0 * 1]?) = a := rfl
  have e1 : (iv [.v (.int .i64 a), .v (.int .i64 b), .v (.int .i64 c)][Int.toNat 1 * 1]?) = b := rfl
  have e2 : (iv [.v (.int .i64 a), .v (.int .i64 b), .v (.int .i64 c)][Int.toNat 2 * 1]?) = c := rfl
  refine bp rfl (bp rfl ?_)
  rw [e0]
  refine bp p1 ?_
  rw [p2]
  refine bp s1 ?_
  rw [s2, s3]
  refine bp v1' ?_
  rw [v2', v3']
  refine bp g1 ?_
  rw [g2]
  refine bn (df (by omega)) ?_
  rw [y1, L_ra_0]
  unfold B_ra_0 Bg_ra_0
  refine bp rfl (bp rfl ?_)
  rw [e1]
  refine bp q1 ?_
  rw [q2]
  refine bp t1 ?_
  rw [t2, t3]
  refine bp w1 ?_
  rw [w2, w3]
  refine bp i1 ?_
  rw [i2]
  by_cases hz : 170141183460469231731687303715884105728 ≤ a * a + b * b
  · exact bp (dt hz) (len_big (by unfold sq3; omega))
  · refine bn (df hz) ?_
    rw [y2, L_ra_0]
    unfold B_ra_0 Bg_ra_0
    refine bp rfl (bp rfl ?_)
    rw [e2]
    refine bp r1 ?_
    rw [r2]
    refine bp u1 ?_
    rw [u2, u3]
    refine bp x1 ?_
    rw [x2, x3]
    refine bp j1 ?_
    rw [j2]
    by_cases hz2 : 170141183460469231731687303715884105728 ≤ a * a + b * b + c * c
    · exact bp (dt hz2) (len_big (by unfold sq3; omega))
    · refine bn (df hz2) ?_
      rw [y3, L_ra_0]
      unfold B_ra_0 Bg_ra_0
      refine bn rfl ?_
      obtain ⟨k1, k2⟩ := a_rootW F hF (z := a * a + b * b + c * c) (by omega) (by omega)
      refine bp k1 ?_
      rw [k2]
      exact len_end (z := a * a + b * b + c * c) (by omega)
theorem a_Length (F : Nat) (hF : 200 ≤ F) {a b c : Int} (ha : I64 a) (hb : I64 b) (hc : I64 c) : ok_ra F a b c = true ∧ o_ra_0 F a b c = lenV (sq3 a b c) ∧ o_ra_1 F a b c = lenC (sq3 a b c) := k_ra F _ _ _ (f_Length F hF ha hb hc)
theorem f_rLength (F : Nat) (hF : 200 ≤ F) {a b c : Int} (ha : I64 a) (hb : I64 b) (hc : I64 c) : f_l F a b c = some (.v (.tuple #[.int .i64 (lenV (sq3 a b c)), .bool (lenC (sq3 a b c))])) := by
  obtain ⟨p1, p2⟩ := a_r6bare F ha
  obtain ⟨q1, q2⟩ := a_r6bare F hb
  obtain ⟨r1, r2⟩ := a_r6bare F hc
  obtain ⟨s1, s2, s3⟩ := a_rSquare F hF (sz_U ha)
  obtain ⟨t1, t2, t3⟩ := a_rSquare F hF (sz_U hb)
  obtain ⟨u1, u2, u3⟩ := a_rSquare F hF (sz_U hc)
  rw [sz_sq] at s2 s3 t2 t3 u2 u3
  have ba := sq_bd64 ha
  have bb := sq_bd64 hb
  have bc := sq_bd64 hc
  obtain ⟨v1, v2, v3⟩ := a_rAdd F hF 0 (a * a)
  obtain ⟨w1, w2, w3⟩ := a_rAdd F hF (a * a) (b * b)
  obtain ⟨x1, x2, x3⟩ := a_rAdd F hF (a * a + b * b) (c * c)
  rw [Int.zero_add] at v2 v3
  have v1' : ok_cb F 0 0 (hi (a * a)) (lo (a * a)) = true := v1
  have v2' : o_cb_0 F 0 0 (hi (a * a)) (lo (a * a)) = hi (a * a) := v2
  have v3' : o_cb_1 F 0 0 (hi (a * a)) (lo (a * a)) = lo (a * a) := v3
  have g2 := hi_sgn (z := a * a) (by omega) (by omega)
  have i2 := hi_sgn (z := a * a + b * b) (by omega) (by omega)
  have j2 := hi_sgn (z := a * a + b * b + c * c) (by omega) (by omega)
  obtain ⟨G, hG⟩ : ∃ G, F = G + 4 := ⟨F - 4, by omega⟩
  have y1 : IntKind.wrap .i64 (0 + 1) = 1 := by decide
  have y2 : IntKind.wrap .i64 (1 + 1) = 2 := by decide
  have y3 : IntKind.wrap .i64 (2 + 1) = 3 := by decide
  unfold f_l fg_l
  rw [show L_l_0 F _ _ F = L_l_0 F _ _ (G + 4) from congrArg (L_l_0 F _ _) hG, L_l_0]
  unfold B_l_0 Bg_l_0
  have e0 : (iv [.v (.int .i64 a), .v (.int .i64 b), .v (.int .i64 c)][0 + Int.toNat 0 * 1]?) = a := rfl
  have e1 : (iv [.v (.int .i64 a), .v (.int .i64 b), .v (.int .i64 c)][0 + Int.toNat 1 * 1]?) = b := rfl
  have e2 : (iv [.v (.int .i64 a), .v (.int .i64 b), .v (.int .i64 c)][0 + Int.toNat 2 * 1]?) = c := rfl
  refine bp rfl (bp rfl (bp rfl ?_))
  rw [e0]
  refine bp p1 ?_
  rw [p2]
  refine bp s1 ?_
  rw [s2, s3]
  refine bp v1' ?_
  rw [v2', v3']
  dsimp only
  rw [g2]
  refine bn (df (by omega)) ?_
  rw [y1, L_l_0]
  unfold B_l_0 Bg_l_0
  refine bp rfl (bp rfl (bp rfl ?_))
  rw [e1]
  refine bp q1 ?_
  rw [q2]
  refine bp t1 ?_
  rw [t2, t3]
  refine bp w1 ?_
  rw [w2, w3]
  dsimp only
  rw [i2]
  by_cases hz : 170141183460469231731687303715884105728 ≤ a * a + b * b
  · exact bp (dt hz) (len_big (by unfold sq3; omega))
  · refine bn (df hz) ?_
    rw [y2, L_l_0]
    unfold B_l_0 Bg_l_0
    refine bp rfl (bp rfl (bp rfl ?_))
    rw [e2]
    refine bp r1 ?_
    rw [r2]
    refine bp u1 ?_
    rw [u2, u3]
    refine bp x1 ?_
    rw [x2, x3]
    dsimp only
    rw [j2]
    by_cases hz2 : 170141183460469231731687303715884105728 ≤ a * a + b * b + c * c
    · exact bp (dt hz2) (len_big (by unfold sq3; omega))
    · refine bn (df hz2) ?_
      rw [y3, L_l_0]
      unfold B_l_0 Bg_l_0
      refine bn rfl ?_
      obtain ⟨k1, k2⟩ := a_rrootW F hF (z := a * a + b * b + c * c) (by omega) (by omega)
      refine bp k1 ?_
      rw [k2]
      exact len_end (z := a * a + b * b + c * c) (by omega)
theorem a_rLength (F : Nat) (hF : 200 ≤ F) {a b c : Int} (ha : I64 a) (hb : I64 b) (hc : I64 c) : ok_l F a b c = true ∧ o_l_0 F a b c = lenV (sq3 a b c) ∧ o_l_1 F a b c = lenC (sq3 a b c) := k_l F _ _ _ (f_rLength F hF ha hb hc)
/-- the greatest axis -/
def gr3 (a b c : Int) : Int := min (max (sz a) (max (sz b) (sz c))) 9223372036854775807
theorem f_Greatest (F : Nat) (hF : 200 ≤ F) {a b c : Int} (ha : I64 a) (hb : I64 b) (hc : I64 c) : f_m F a b c = some (.v (.int .i64 (gr3 a b c))) := by
  obtain ⟨p1, p2⟩ := a_vbare F ha
  obtain ⟨q1, q2⟩ := a_vbare F hb
  obtain ⟨r1, r2⟩ := a_vbare F hc
  have ua := sz_U ha
  have ub := sz_U hb
  have uc := sz_U hc
  obtain ⟨G, hG⟩ : ∃ G, F = G + 4 := ⟨F - 4, by omega⟩
  have y1 : IntKind.wrap .i64 (0 + 1) = 1 := by decide
  have y2 : IntKind.wrap .i64 (1 + 1) = 2 := by decide
  have y3 : IntKind.wrap .i64 (2 + 1) = 3 := by decide
  unfold f_m fg_m
  rw [show L_m_0 F _ F = L_m_0 F _ (G + 4) from congrArg (L_m_0 F _) hG, L_m_0]
  unfold B_m_0 Bg_m_0
  have e0 : (iv [.v (.int .i64 a), .v (.int .i64 b), .v (.int .i64 c)][Int.toNat 0 * 1]?) = a := rfl
  have e1 : (iv [.v (.int .i64 a), .v (.int .i64 b), .v (.int .i64 c)][Int.toNat 1 * 1]?) = b := rfl
  have e2 : (iv [.v (.int .i64 a), .v (.int .i64 b), .v (.int .i64 c)][Int.toNat 2 * 1]?) = c := rfl
  refine bp rfl (bp rfl ?_)
  rw [e0]
  refine bp p1 ?_
  rw [p2, y1, L_m_0]
  unfold B_m_0 Bg_m_0
  refine bp rfl (bp rfl ?_)
  rw [e1]
  refine bp q1 ?_
  rw [q2, y2, L_m_0]
  unfold B_m_0 Bg_m_0
  refine bp rfl (bp rfl ?_)
  rw [e2]
  refine bp r1 ?_
  rw [r2, y3, L_m_0]
  unfold B_m_0 Bg_m_0
  refine bn rfl (some_int ?_)
  unfold U64 at ua ub uc
  rw [mx, mx, mx]
  have em : max (max (max 0 (sz a)) (sz b)) (sz c) = max (sz a) (max (sz b) (sz c)) := by omega
  rw [em]
  unfold gr3
  generalize max (sz a) (max (sz b) (sz c)) = m at *
  have hm : (if 9223372036854775807 < m then 9223372036854775807 else m) = min m 9223372036854775807 := by split <;> omega
  rw [hm, wi64_in]
  unfold I64; omega
theorem a_Greatest (F : Nat) (hF : 200 ≤ F) {a b c : Int} (ha : I64 a) (hb : I64 b) (hc : I64 c) : ok_m F a b c = true ∧ o_m_0 F a b c = gr3 a b c := k_m F _ _ _ (f_Greatest F hF ha hb hc)
theorem a_rGreatest (F : Nat) {a b c : Int} (ha : I64 a) (hb : I64 b) (hc : I64 c) : ok_e F a b c = true ∧ o_e_0 F a b c = gr3 a b c := by
  refine k_e F _ _ _ ?_
  unfold f_e fg_e
  obtain ⟨p1, p2⟩ := a_r6bare F ha
  obtain ⟨q1, q2⟩ := a_r6bare F hb
  obtain ⟨r1, r2⟩ := a_r6bare F hc
  have ua := sz_U ha
  have ub := sz_U hb
  have uc := sz_U hc
  unfold U64 at ua ub uc
  refine bp p1 (bp q1 (bp r1 (some_int ?_)))
  rw [p2, q2, r2]
  rw [mx, mx]
  have em : max (max (sz a) (sz b)) (sz c) = max (sz a) (max (sz b) (sz c)) := by omega
  rw [em]
  unfold gr3
  generalize max (sz a) (max (sz b) (sz c)) = m at *
  have hm : (if 9223372036854775807 < m then 9223372036854775807 else m) = min m 9223372036854775807 := by split <;> omega
  rw [hm, wi64_in]
  unfold I64; omega
/-- over the length -/
noncomputable def unitOK (a b c : Int) : Bool := !decide (lenV (sq3 a b c) = 0) && !lenC (sq3 a b c)
noncomputable def unV (k a b c : Int) : Int := if unitOK a b c = true then fdivV k (lenV (sq3 a b c)) else 0
theorem len_I {z : Int} (h : 0 ≤ z) : 0 ≤ lenV z ∧ I64 (lenV z) := by
  have h1 := (rt_spec h).1
  unfold lenV I64
  by_cases hz : z < 85070591730234615865843651857942052864
  · have := (rt_small h).2 hz
    rw [if_pos hz]; omega
  · rw [if_neg hz]; omega
theorem sq3_nn {a b c : Int} (ha : I64 a) (hb : I64 b) (hc : I64 c) : 0 ≤ sq3 a b c := by
  have := sq_bd64 ha
  have := sq_bd64 hb
  have := sq_bd64 hc
  unfold sq3; omega
theorem some_un {x y z x' y' z' : Int} {c c' : Bool} (h1 : x = x') (h2 : y = y') (h3 : z = z') (h4 : c = c') : (some (VV.v (.tuple #[.agg #[.int .i64 x, .int .i64 y, .int .i64 z], .bool c])) : R) = some (.v (.tuple #[.agg #[.int .i64 x', .int .i64 y', .int .i64 z'], .bool c'])) := by rw [h1, h2, h3, h4]
theorem f_Unit (F : Nat) (hF : 200 ≤ F) {a b c : Int} (ha : I64 a) (hb : I64 b) (hc : I64 c) : f_ec F a b c = some (.v (.tuple #[.agg #[.int .i64 (unV a a b c), .int .i64 (unV b a b c), .int .i64 (unV c a b c)], .bool (unitOK a b c)])) := by
  unfold f_ec fg_ec
  obtain ⟨l1, l2, l3⟩ := a_Length F hF ha hb hc
  have hl := len_I (sq3_nn ha hb hc)
  obtain ⟨e1, e2, e3, e4, e5⟩ := k_ua F _ _ _ _ (f_vec_eachv2' F hF (a_Unit_0 F hF (a1 := b) (a2 := c) ha hl.2) (a_Unit_1 F hF (a0 := a) (a2 := c) hb hl.2) (a_Unit_2 F hF (a0 := a) (a1 := b) hc hl.2))
  refine bp l1 ?_
  rw [l2, l3]
  unfold unV unitOK
  generalize lenV (sq3 a b c) = n at *
  generalize lenC (sq3 a b c) = k at *
  by_cases h0 : n = 0
  · refine bp (by simp [h0]) (some_un ?_ ?_ ?_ ?_) <;> simp [h0]
  · refine bn (by simp [h0]) ?_
    cases k
    · refine bn rfl (bp e1 (some_un ?_ ?_ ?_ ?_))
      · rw [e2]; simp [h0]
      · rw [e3]; simp [h0]
      · rw [e4]; simp [h0]
      · simp [h0]
    · refine bp rfl (some_un ?_ ?_ ?_ ?_) <;> simp
theorem a_vUnit (F : Nat) (hF : 200 ≤ F) {a b c : Int} (ha : I64 a) (hb : I64 b) (hc : I64 c) : ok_ec F a b c = true ∧ o_ec_0 F a b c = unV a a b c ∧ o_sa F a b c = unV b a b c ∧ o_ec_2 F a b c = unV c a b c ∧ o_ec_3 F a b c = unitOK a b c := k_ec F _ _ _ (f_Unit F hF ha hb hc)
theorem f_r6Unit (F : Nat) (hF : 200 ≤ F) {a b c : Int} (ha : I64 a) (hb : I64 b) (hc : I64 c) : f_ka F a b c = some (.v (.tuple #[.agg #[.int .i64 (unV a a b c), .int .i64 (unV b a b c), .int .i64 (unV c a b c)], .bool (unitOK a b c)])) := by
  unfold f_ka fg_ka
  obtain ⟨l1, l2, l3⟩ := a_rLength F hF ha hb hc
  have hl := len_I (sq3_nn ha hb hc)
  obtain ⟨p1, p2, _⟩ := k_gb F _ _ (f_rDiv2 F hF ha hl.2)
  obtain ⟨q1, q2, _⟩ := k_gb F _ _ (f_rDiv2 F hF hb hl.2)
  obtain ⟨r1, r2, _⟩ := k_gb F _ _ (f_rDiv2 F hF hc hl.2)
  refine bp l1 ?_
  rw [l2, l3]
  unfold unV unitOK
  generalize lenV (sq3 a b c) = n at *
  generalize lenC (sq3 a b c) = k at *
  by_cases h0 : n = 0
  · refine bp (by simp [h0]) (some_un ?_ ?_ ?_ ?_) <;> simp [h0]
  · refine bn (by simp [h0]) ?_
    cases k
    · refine bn rfl (bp p1 (bp q1 (bp r1 (some_un ?_ ?_ ?_ ?_))))
      · rw [p2]; simp [h0]
      · rw [q2]; simp [h0]
      · rw [r2]; simp [h0]
      · simp [h0]
    · refine bp rfl (some_un ?_ ?_ ?_ ?_) <;> simp
theorem a_r6Unit (F : Nat) (hF : 200 ≤ F) {a b c : Int} (ha : I64 a) (hb : I64 b) (hc : I64 c) : ok_ka F a b c = true ∧ o_ka_0 F a b c = unV a a b c ∧ o_ka_1 F a b c = unV b a b c ∧ o_ka_2 F a b c = unV c a b c ∧ o_ka_3 F a b c = unitOK a b c := k_ka F _ _ _ (f_r6Unit F hF ha hb hc)
end Go.Xv
namespace Go.Xv
theorem clip_opp {a : Int} (h : I64 a) : clipV (-a) = opp a := by
  unfold clipV opp; unfold I64 at h
  split <;> (try split) <;> (try split) <;> omega
theorem a_opp (F : Nat) {x y : Int} (hx : I64 x) (hy : I64 y) : ok_h F x y = true ∧ o_h_0 F x y = opp x ∧ o_h_1 F x y = opp y := by
  refine k_h F _ _ ?_
  unfold f_h fg_h
  obtain ⟨h1, h2, _⟩ := a_fNeg F hx
  obtain ⟨g1, g2, _⟩ := a_fNeg F hy
  refine bp h1 (bp g1 ?_)
  rw [h2, g2, clip_opp hx, clip_opp hy]
theorem a_r5opp (F : Nat) {x : Int} (hx : I64 x) : ok_d F x = true ∧ o_d_0 F x = opp x := by
  refine k_d F _ ?_
  unfold f_d fg_d opp
  unfold I64 at hx
  by_cases h : x = -9223372036854775808
  · refine bp (by simp [h]) ?_
    rw [if_pos h]
  · refine bn (by simp [h]) ?_
    rw [if_neg h, wi64_in (by unfold I64; omega), Int.zero_sub]
theorem big_one {x y : Int} (h : ¬ (x = 0 ∧ y = 0)) : 1 ≤ big x y := by
  unfold big sz
  split <;> split <;> omega
theorem opp_pos {x : Int} (hx : I64 x) (h : x < 0) : 1 ≤ opp x := by unfold opp; split <;> omega
theorem big_to {x y : Int} (h : big x y < 2305843009213693952) (h0 : 0 ≤ x) : (0 ≤ x ∧ x ≤ 2305843009213693952) ∧ -2305843009213693952 ≤ y ∧ y ≤ 2305843009213693952 := by
  unfold big sz at h
  split at h <;> split at h <;> omega
theorem f_tAngle (F : Nat) (hF : 200 ≤ F) {y x : Int} (hy : I64 y) (hx : I64 x) : f_qa F y x = some (.v (.int .u32 (angle y x))) := by
  unfold f_qa fg_qa
  obtain ⟨h0, e0, e1, e2, e3, e4, e5, e6, e7, e8, e9, e10, e11, e12, e13, e14, e15, e16, e17, e18, e19, e20, e21, e22, e23, e24, e25, e26, e27, e28, e29⟩ := angF F
  rw [e0, e1, e2, e3, e4, e5, e6, e7, e8, e9, e10, e11, e12, e13, e14, e15, e16, e17, e18, e19, e20, e21, e22, e23, e24, e25, e26, e27, e28, e29]
  have neg : x < 0 → angle y x = ((aS (scd (opp x) (opp y)).1 (scd (opp x) (opp y)).2 30).2.2 + 2147483648) % 4294967296 := by
    intro h; unfold angle; rw [if_neg (by omega), if_pos h]
  have pos : ¬ x < 0 → ¬ (x = 0 ∧ y = 0) → angle y x = ((aS (scd x y).1 (scd x y).2 30).2.2 + 0) % 4294967296 := by
    intro h h2; unfold angle; rw [if_neg h2, if_neg h, Int.add_zero]
  by_cases x0 : x = 0
  · refine bp (by simp [x0]) ?_
    by_cases y0 : y = 0
    · refine bp (by simp [y0]) (some_u32 ?_)
      unfold angle
      rw [if_pos ⟨x0, y0⟩]
    · have hb := big_one (x := x) (y := y) (by omega)
      obtain ⟨s1, s2, s3⟩ := a_scaled F hF hx hy hb
      obtain ⟨b1, b2⟩ := big_to (scd_bd hx hy hb).2 (scd_sgn (by omega))
      refine bn (by simp [y0]) (bn (df (by omega)) (bp s1 (bp h0 ?_)))
      rw [s2, s3, lp_turn_Angle_0 F _ (z := 0) b1 b2 _ _ _ 30 F 0 0 0 (scd x y).1 (scd x y).2 (by omega) (by omega) rfl rfl rfl rfl]
      exact some_u32 (pos (by omega) (by omega)).symm
  · refine bn (by simp [x0]) ?_
    by_cases hn : x < 0
    · have hb := big_one (x := opp x) (y := opp y) (by have := opp_pos hx hn; omega)
      obtain ⟨o1, o2, o3⟩ := a_opp F hx hy
      obtain ⟨s1, s2, s3⟩ := a_scaled F hF (opp_I hx) (opp_I hy) hb
      obtain ⟨b1, b2⟩ := big_to (scd_bd (opp_I hx) (opp_I hy) hb).2 (scd_sgn (by have := opp_pos hx hn; omega))
      refine bp (dt hn) (bp o1 ?_)
      rw [o2, o3]
      refine bp s1 (bp h0 ?_)
      rw [s2, s3, lp_turn_Angle_0 F _ (z := 2147483648) b1 b2 _ _ _ 30 F 0 2147483648 0 (scd (opp x) (opp y)).1 (scd (opp x) (opp y)).2 (by omega) (by omega) rfl rfl rfl rfl]
      exact some_u32 (neg hn).symm
    · have hb := big_one (x := x) (y := y) (by omega)
      obtain ⟨s1, s2, s3⟩ := a_scaled F hF hx hy hb
      obtain ⟨b1, b2⟩ := big_to (scd_bd hx hy hb).2 (scd_sgn (by omega))
      refine bn (df hn) (bp s1 (bp h0 ?_))
      rw [s2, s3, lp_turn_Angle_0 F _ (z := 0) b1 b2 _ _ _ 30 F 0 0 0 (scd x y).1 (scd x y).2 (by omega) (by omega) rfl rfl rfl rfl]
      exact some_u32 (pos hn (by omega)).symm
theorem a_tAngle (F : Nat) (hF : 200 ≤ F) {y x : Int} (hy : I64 y) (hx : I64 x) : ok_qa F y x = true ∧ o_qa_0 F y x = angle y x := k_qa F _ _ (f_tAngle F hF hy hx)
theorem down_32 : ∀ (m n : Nat) (x y : Int), m ≤ n → big (down m x y).1 (down m x y).2 < 2305843009213693952 → down n x y = down m x y
  | 0, n, x, y, _, h => by rw [down_small (by exact h)]; rfl
  | m + 1, 0, _, _, h, _ => absurd h (by omega)
  | m + 1, n + 1, x, y, hm, h => by
    rw [down] at h
    rw [down, down]
    by_cases hc : 2305843009213693952 ≤ big x y
    · rw [if_pos hc] at h ⊢
      rw [if_pos hc]
      exact down_32 m n _ _ (by omega) h
    · rw [if_neg hc, if_neg hc]
theorem dbl_all : ∀ (m n : Nat) (x y : Int), m ≤ n → 1152921504606846976 ≤ big (dbl m x y).1 (dbl m x y).2 → dbl n x y = dbl m x y
  | 0, 0, _, _, _, _ => rfl
  | 0, n + 1, x, y, _, h => if_neg (by unfold big dbl at h; dsimp only at h; unfold big; omega)
  | m + 1, 0, _, _, h, _ => absurd h (by omega)
  | m + 1, n + 1, x, y, hm, h => by
    rw [dbl] at h
    rw [dbl, dbl]
    by_cases hc : big x y < 1152921504606846976
    · rw [if_pos hc] at h ⊢
      rw [if_pos hc]
      exact dbl_all m n _ _ (by omega) h
    · rw [if_neg hc, if_neg hc]
theorem rscd (F : Nat) (hF : 200 ≤ F) (ex0) (x0 x1 x2 z : Int) {x y : Int} (hx : I64 x) (hy : I64 y) (hb : 1 ≤ big x y) (h0 : 0 ≤ x) (hz : 0 ≤ z ∧ z ≤ 4294967296)
    (hex : ∀ a b c d e f g h i, ex0 a b c d e f g h i = (some (.v (.int .u32 (IntKind.wrap .u32 f))) : R)) :
    L_r_0 F (fun a b c d e f g => L_r_1 F (fun a b c d e f g h => L_r_2 F ex0 F a b c d e f g h 0) F a b c d e f g 0) F x0 x1 x2 x y z 0 = some (.v (.int .u32 (((aS (scd x y).1 (scd x y).2 30).2.2 + z) % 4294967296))) := by
  have h1 := down_end 62 2 x y (big_I hx hy) (by omega)
  have h2 := down_pos 62 x y hb
  have hd := down_32 62 64 x y (by omega) h1
  have h4 := dbl_end 62 (down 62 x y).1 (down 62 x y).2 (by omega)
  have he := dbl_all 62 64 (down 62 x y).1 (down 62 x y).2 (by omega) h4
  have es : scd x y = dbl 62 (down 62 x y).1 (down 62 x y).2 := by unfold scd; rw [hd, he]
  obtain ⟨i1, i2⟩ := sz_I (x := (down 62 x y).1) (y := (down 62 x y).2) (by omega)
  have hs := scd_bd hx hy hb
  obtain ⟨b1, b2⟩ := big_to hs.2 (scd_sgn h0)
  obtain ⟨j, hj⟩ := lp_rscaled_0 F hF (fun a b c d e f g => L_r_1 F (fun a b c d e f g h => L_r_2 F ex0 F a b c d e f g h 0) F a b c d e f g 0) x0 x1 x2 z 62 F 0 x y 0 hx hy (by omega) rfl (by omega) h1
  rw [hj]
  obtain ⟨l, hl⟩ := lp_rscaled_1 F (fun a b c d e f g h => L_r_2 F ex0 F a b c d e f g h 0) x0 x1 x2 z j 62 F 0 (down 62 x y).1 (down 62 x y).2 0 i1 i2 (by omega) rfl (by omega) h4
  rw [hl]
  rw [← es, lp_rAngle_2 F hF _ b1 b2 hz _ _ _ _ _ 30 F 0 (scd x y).1 (scd x y).2 z 0 (by omega) (by omega) rfl rfl rfl (by simp [aS]), hex, wu32]
theorem f_rAngle (F : Nat) (hF : 200 ≤ F) {y x : Int} (hy : I64 y) (hx : I64 x) : f_r F y x = some (.v (.int .u32 (angle y x))) := by
  unfold f_r fg_r
  have neg : x < 0 → angle y x = ((aS (scd (opp x) (opp y)).1 (scd (opp x) (opp y)).2 30).2.2 + 2147483648) % 4294967296 := by
    intro h; unfold angle; rw [if_neg (by omega), if_pos h]
  have pos : ¬ x < 0 → ¬ (x = 0 ∧ y = 0) → angle y x = ((aS (scd x y).1 (scd x y).2 30).2.2 + 0) % 4294967296 := by
    intro h h2; unfold angle; rw [if_neg h2, if_neg h, Int.add_zero]
  by_cases x0 : x = 0
  · refine bp (by simp [x0]) ?_
    by_cases y0 : y = 0
    · refine bp (by simp [y0]) (some_u32 ?_)
      unfold angle
      rw [if_pos ⟨x0, y0⟩]
    · have hb := big_one (x := x) (y := y) (by omega)
      refine bn (by simp [y0]) (bn (df (by omega)) ?_)
      rw [pos (by omega) (by omega)]
      exact rscd F hF _ _ _ _ _ hx hy hb (by omega) (by omega) (fun _ _ _ _ _ _ _ _ _ => rfl)
  · refine bn (by simp [x0]) ?_
    by_cases hn : x < 0
    · have hb := big_one (x := opp x) (y := opp y) (by have := opp_pos hx hn; omega)
      obtain ⟨o1, o2⟩ := a_r5opp F hx
      obtain ⟨p1, p2⟩ := a_r5opp F hy
      refine bp (dt hn) (bp o1 (bp p1 ?_))
      rw [o2, p2, neg hn]
      exact rscd F hF _ _ _ _ _ (opp_I hx) (opp_I hy) hb (by have := opp_pos hx hn; omega) (by omega) (fun _ _ _ _ _ _ _ _ _ => rfl)
    · have hb := big_one (x := x) (y := y) (by omega)
      refine bn (df hn) ?_
      rw [pos hn (by omega)]
      exact rscd F hF _ _ _ _ _ hx hy hb (by omega) (by omega) (fun _ _ _ _ _ _ _ _ _ => rfl)
theorem a_rAngle (F : Nat) (hF : 200 ≤ F) {y x : Int} (hy : I64 y) (hx : I64 x) : ok_r F y x = true ∧ o_r_0 F y x = angle y x := k_r F _ _ (f_rAngle F hF hy hx)
end Go.Xv
namespace Go.Xv
theorem dot_turn (a0 a1 a2 a3 a4 a5 : Int) : dotZ a3 a4 a5 a0 a1 a2 = dotZ a0 a1 a2 a3 a4 a5 := by unfold dotZ; rw [pr_comm a3, pr_comm a4, pr_comm a5]
theorem a_mSame (F : Nat) (hF : 200 ≤ F) : ok_cc F = true ∧ o_cc_0 F = 4294967296 ∧ o_cc_1 F = 0 ∧ o_cc_2 F = 0 ∧ o_cc_3 F = 0 ∧ o_cc_4 F = 4294967296 ∧ o_cc_5 F = 0 ∧ o_cc_6 F = 0 ∧ o_cc_7 F = 0 ∧ o_cc_8 F = 4294967296 := by
  refine k_cc F ?_
  obtain ⟨G, rfl⟩ : ∃ G, F = G + 4 := ⟨F - 4, by omega⟩
  kernel_rfl
theorem a_rSame (F : Nat) : ok_pa F = true ∧ o_pa_0 F = 4294967296 ∧ o_pa_1 F = 0 ∧ o_pa_2 F = 0 ∧ o_pa_3 F = 0 ∧ o_pa_4 F = 4294967296 ∧ o_pa_5 F = 0 ∧ o_pa_6 F = 0 ∧ o_pa_7 F = 0 ∧ o_pa_8 F = 4294967296 := k_pa F rfl
theorem a_mBack (F : Nat) (hF : 200 ≤ F) (a0 a1 a2 a3 a4 a5 a6 a7 a8 : Int) : ok_bc F a0 a1 a2 a3 a4 a5 a6 a7 a8 = true ∧ o_bc_0 F a0 a1 a2 a3 a4 a5 a6 a7 a8 = a0 ∧ o_bc_1 F a0 a1 a2 a3 a4 a5 a6 a7 a8 = a3 ∧ o_bc_2 F a0 a1 a2 a3 a4 a5 a6 a7 a8 = a6 ∧ o_bc_3 F a0 a1 a2 a3 a4 a5 a6 a7 a8 = a1 ∧ o_bc_4 F a0 a1 a2 a3 a4 a5 a6 a7 a8 = a4 ∧ o_bc_5 F a0 a1 a2 a3 a4 a5 a6 a7 a8 = a7 ∧ o_bc_6 F a0 a1 a2 a3 a4 a5 a6 a7 a8 = a2 ∧ o_bc_7 F a0 a1 a2 a3 a4 a5 a6 a7 a8 = a5 ∧ o_bc_8 F a0 a1 a2 a3 a4 a5 a6 a7 a8 = a8 := by
  refine k_bc F _ _ _ _ _ _ _ _ _ ?_
  obtain ⟨G, rfl⟩ : ∃ G, F = G + 4 := ⟨F - 4, by omega⟩
  kernel_rfl
theorem a_rBack (F : Nat) (a0 a1 a2 a3 a4 a5 a6 a7 a8 : Int) : ok_oa F a0 a1 a2 a3 a4 a5 a6 a7 a8 = true ∧ o_oa_0 F a0 a1 a2 a3 a4 a5 a6 a7 a8 = a0 ∧ o_oa_1 F a0 a1 a2 a3 a4 a5 a6 a7 a8 = a3 ∧ o_oa_2 F a0 a1 a2 a3 a4 a5 a6 a7 a8 = a6 ∧ o_oa_3 F a0 a1 a2 a3 a4 a5 a6 a7 a8 = a1 ∧ o_oa_4 F a0 a1 a2 a3 a4 a5 a6 a7 a8 = a4 ∧ o_oa_5 F a0 a1 a2 a3 a4 a5 a6 a7 a8 = a7 ∧ o_oa_6 F a0 a1 a2 a3 a4 a5 a6 a7 a8 = a2 ∧ o_oa_7 F a0 a1 a2 a3 a4 a5 a6 a7 a8 = a5 ∧ o_oa_8 F a0 a1 a2 a3 a4 a5 a6 a7 a8 = a8 := k_oa F _ _ _ _ _ _ _ _ _ rfl
theorem f_Apply' (F : Nat) (hF : 200 ≤ F) {a0 a1 a2 a3 a4 a5 a6 a7 a8 u0 u1 u2 : Int} {p0 p1 p2 : Int} {c0 c1 c2 : Bool} (d0 : ok_rc F a0 a1 a2 u0 u1 u2 = true ∧ o_rc_0 F a0 a1 a2 u0 u1 u2 = p0 ∧ o_rc_1 F a0 a1 a2 u0 u1 u2 = c0) (d1 : ok_rc F a3 a4 a5 u0 u1 u2 = true ∧ o_rc_0 F a3 a4 a5 u0 u1 u2 = p1 ∧ o_rc_1 F a3 a4 a5 u0 u1 u2 = c1) (d2 : ok_rc F a6 a7 a8 u0 u1 u2 = true ∧ o_rc_0 F a6 a7 a8 u0 u1 u2 = p2 ∧ o_rc_1 F a6 a7 a8 u0 u1 u2 = c2) :
    f_ab F a0 a1 a2 a3 a4 a5 a6 a7 a8 u0 u1 u2 = some (.v (.tuple #[.agg #[.int .i64 p0, .int .i64 p1, .int .i64 p2], .bool (c0 || c1 || c2)])) := by
  obtain ⟨d01, d02, d03⟩ := d0
  obtain ⟨d11, d12, d13⟩ := d1
  obtain ⟨d21, d22, d23⟩ := d2
  have w1 : IntKind.wrap .i64 (0 + 1) = 1 := by decide
  have w2 : IntKind.wrap .i64 (1 + 1) = 2 := by decide
  have w3 : IntKind.wrap .i64 (2 + 1) = 3 := by decide
  unfold f_ab fg_ab
  obtain ⟨G, hG⟩ : ∃ G, F = G + 4 := ⟨F - 4, by omega⟩
  rw [show L_ab_0 F _ F = L_ab_0 F _ (G + 4) from congrArg (L_ab_0 F _) hG]
  have e00 : (iv [.v (.int .i64 a0), .v (.int .i64 a1), .v (.int .i64 a2), .v (.int .i64 a3), .v (.int .i64 a4), .v (.int .i64 a5), .v (.int .i64 a6), .v (.int .i64 a7), .v (.int .i64 a8)][Int.toNat 0 * 3]?) = a0 := rfl
  have e01 : (iv [.v (.int .i64 a0), .v (.int .i64 a1), .v (.int .i64 a2), .v (.int .i64 a3), .v (.int .i64 a4), .v (.int .i64 a5), .v (.int .i64 a6), .v (.int .i64 a7), .v (.int .i64 a8)][Int.toNat 0 * 3 + 1]?) = a1 := rfl
  have e02 : (iv [.v (.int .i64 a0), .v (.int .i64 a1), .v (.int .i64 a2), .v (.int .i64 a3), .v (.int .i64 a4), .v (.int .i64 a5), .v (.int .i64 a6), .v (.int .i64 a7), .v (.int .i64 a8)][Int.toNat 0 * 3 + 1 + 1]?) = a2 := rfl
  have e10 : (iv [.v (.int .i64 a0), .v (.int .i64 a1), .v (.int .i64 a2), .v (.int .i64 a3), .v (.int .i64 a4), .v (.int .i64 a5), .v (.int .i64 a6), .v (.int .i64 a7), .v (.int .i64 a8)][Int.toNat 1 * 3]?) = a3 := rfl
  have e11 : (iv [.v (.int .i64 a0), .v (.int .i64 a1), .v (.int .i64 a2), .v (.int .i64 a3), .v (.int .i64 a4), .v (.int .i64 a5), .v (.int .i64 a6), .v (.int .i64 a7), .v (.int .i64 a8)][Int.toNat 1 * 3 + 1]?) = a4 := rfl
  have e12 : (iv [.v (.int .i64 a0), .v (.int .i64 a1), .v (.int .i64 a2), .v (.int .i64 a3), .v (.int .i64 a4), .v (.int .i64 a5), .v (.int .i64 a6), .v (.int .i64 a7), .v (.int .i64 a8)][Int.toNat 1 * 3 + 1 + 1]?) = a5 := rfl
  have e20 : (iv [.v (.int .i64 a0), .v (.int .i64 a1), .v (.int .i64 a2), .v (.int .i64 a3), .v (.int .i64 a4), .v (.int .i64 a5), .v (.int .i64 a6), .v (.int .i64 a7), .v (.int .i64 a8)][Int.toNat 2 * 3]?) = a6 := rfl
  have e21 : (iv [.v (.int .i64 a0), .v (.int .i64 a1), .v (.int .i64 a2), .v (.int .i64 a3), .v (.int .i64 a4), .v (.int .i64 a5), .v (.int .i64 a6), .v (.int .i64 a7), .v (.int .i64 a8)][Int.toNat 2 * 3 + 1]?) = a7 := rfl
  have e22 : (iv [.v (.int .i64 a0), .v (.int .i64 a1), .v (.int .i64 a2), .v (.int .i64 a3), .v (.int .i64 a4), .v (.int .i64 a5), .v (.int .i64 a6), .v (.int .i64 a7), .v (.int .i64 a8)][Int.toNat 2 * 3 + 1 + 1]?) = a8 := rfl
  rw [L_ab_0]
  unfold B_ab_0 Bg_ab_0
  refine bp rfl (bp rfl ?_)
  rw [e00, e01, e02]
  refine bp d01 ?_
  rw [d02, d03]
  refine bn rfl (bp rfl (bp rfl ?_))
  rw [w1]
  cases c0
  · rw [L_ab_0]
    unfold B_ab_0 Bg_ab_0
    refine bp rfl (bp rfl ?_)
    rw [e10, e11, e12]
    refine bp d11 ?_
    rw [d12, d13]
    refine bn rfl (bp rfl (bp rfl ?_))
    rw [w2]
    cases c1
    · rw [L_ab_0]
      unfold B_ab_0 Bg_ab_0
      refine bp rfl (bp rfl ?_)
      rw [e20, e21, e22]
      refine bp d21 ?_
      rw [d22, d23]
      refine bn rfl (bp rfl (bp rfl ?_))
      rw [w3]
      rw [L_ab_0]
      unfold B_ab_0 Bg_ab_0
      exact bn rfl (bp rfl rfl)
    · rw [L_ab_0]
      unfold B_ab_0 Bg_ab_0
      refine bp rfl (bp rfl ?_)
      rw [e20, e21, e22]
      refine bp d21 ?_
      rw [d22]
      refine bp rfl (bp rfl (bp rfl ?_))
      rw [w3]
      rw [L_ab_0]
      unfold B_ab_0 Bg_ab_0
      exact bn rfl (bp rfl rfl)
  · rw [L_ab_0]
    unfold B_ab_0 Bg_ab_0
    refine bp rfl (bp rfl ?_)
    rw [e10, e11, e12]
    refine bp d11 ?_
    rw [d12]
    refine bp rfl (bp rfl (bp rfl ?_))
    rw [w2]
    rw [L_ab_0]
    unfold B_ab_0 Bg_ab_0
    refine bp rfl (bp rfl ?_)
    rw [e20, e21, e22]
    refine bp d21 ?_
    rw [d22]
    refine bp rfl (bp rfl (bp rfl ?_))
    rw [w3]
    rw [L_ab_0]
    unfold B_ab_0 Bg_ab_0
    exact bn rfl (bp rfl rfl)
theorem a_mApply (F : Nat) (hF : 200 ≤ F) {a0 a1 a2 a3 a4 a5 a6 a7 a8 u0 u1 u2 : Int} (ha0 : I64 a0) (ha1 : I64 a1) (ha2 : I64 a2) (ha3 : I64 a3) (ha4 : I64 a4) (ha5 : I64 a5) (ha6 : I64 a6) (ha7 : I64 a7) (ha8 : I64 a8) (hu0 : I64 u0) (hu1 : I64 u1) (hu2 : I64 u2) : ok_ab F a0 a1 a2 a3 a4 a5 a6 a7 a8 u0 u1 u2 = true ∧ o_ab_0 F a0 a1 a2 a3 a4 a5 a6 a7 a8 u0 u1 u2 = clipV (dotZ a0 a1 a2 u0 u1 u2) ∧ o_ab_1 F a0 a1 a2 a3 a4 a5 a6 a7 a8 u0 u1 u2 = clipV (dotZ a3 a4 a5 u0 u1 u2) ∧ o_ab_2 F a0 a1 a2 a3 a4 a5 a6 a7 a8 u0 u1 u2 = clipV (dotZ a6 a7 a8 u0 u1 u2) ∧ o_ab_3 F a0 a1 a2 a3 a4 a5 a6 a7 a8 u0 u1 u2 = (clipC (dotZ a0 a1 a2 u0 u1 u2) || clipC (dotZ a3 a4 a5 u0 u1 u2) || clipC (dotZ a6 a7 a8 u0 u1 u2)) :=
  k_ab F _ _ _ _ _ _ _ _ _ _ _ _ (f_Apply' F hF (a_Dot F hF ha0 ha1 ha2 hu0 hu1 hu2) (a_Dot F hF ha3 ha4 ha5 hu0 hu1 hu2) (a_Dot F hF ha6 ha7 ha8 hu0 hu1 hu2))
theorem a_rApply (F : Nat) (hF : 200 ≤ F) {a0 a1 a2 a3 a4 a5 a6 a7 a8 u0 u1 u2 : Int} (ha0 : I64 a0) (ha1 : I64 a1) (ha2 : I64 a2) (ha3 : I64 a3) (ha4 : I64 a4) (ha5 : I64 a5) (ha6 : I64 a6) (ha7 : I64 a7) (ha8 : I64 a8) (hu0 : I64 u0) (hu1 : I64 u1) (hu2 : I64 u2) : ok_u F a0 a1 a2 a3 a4 a5 a6 a7 a8 u0 u1 u2 = true ∧ o_u_0 F a0 a1 a2 a3 a4 a5 a6 a7 a8 u0 u1 u2 = clipV (dotZ a0 a1 a2 u0 u1 u2) ∧ o_u_1 F a0 a1 a2 a3 a4 a5 a6 a7 a8 u0 u1 u2 = clipV (dotZ a3 a4 a5 u0 u1 u2) ∧ o_u_2 F a0 a1 a2 a3 a4 a5 a6 a7 a8 u0 u1 u2 = clipV (dotZ a6 a7 a8 u0 u1 u2) ∧ o_u_3 F a0 a1 a2 a3 a4 a5 a6 a7 a8 u0 u1 u2 = (clipC (dotZ a0 a1 a2 u0 u1 u2) || clipC (dotZ a3 a4 a5 u0 u1 u2) || clipC (dotZ a6 a7 a8 u0 u1 u2)) := by
  refine k_u F _ _ _ _ _ _ _ _ _ _ _ _ ?_
  unfold f_u fg_u
  obtain ⟨p1, p2, p3⟩ := a_rDot F hF ha0 ha1 ha2 hu0 hu1 hu2
  obtain ⟨q1, q2, q3⟩ := a_rDot F hF ha3 ha4 ha5 hu0 hu1 hu2
  obtain ⟨r1, r2, r3⟩ := a_rDot F hF ha6 ha7 ha8 hu0 hu1 hu2
  refine bp p1 (bp q1 (bp r1 ?_))
  rw [p2, p3, q2, q3, r2, r3]
  exact or3
theorem f_Mul' (F : Nat) (hF : 200 ≤ F) {a0 a1 a2 a3 a4 a5 a6 a7 a8 b0 b1 b2 b3 b4 b5 b6 b7 b8 : Int} {p0 p1 p2 p3 p4 p5 p6 p7 p8 : Int} {c0 c1 c2 : Bool} (d0 : ok_ab F b0 b3 b6 b1 b4 b7 b2 b5 b8 a0 a1 a2 = true ∧ o_ab_0 F b0 b3 b6 b1 b4 b7 b2 b5 b8 a0 a1 a2 = p0 ∧ o_ab_1 F b0 b3 b6 b1 b4 b7 b2 b5 b8 a0 a1 a2 = p1 ∧ o_ab_2 F b0 b3 b6 b1 b4 b7 b2 b5 b8 a0 a1 a2 = p2 ∧ o_ab_3 F b0 b3 b6 b1 b4 b7 b2 b5 b8 a0 a1 a2 = c0) (d1 : ok_ab F b0 b3 b6 b1 b4 b7 b2 b5 b8 a3 a4 a5 = true ∧ o_ab_0 F b0 b3 b6 b1 b4 b7 b2 b5 b8 a3 a4 a5 = p3 ∧ o_ab_1 F b0 b3 b6 b1 b4 b7 b2 b5 b8 a3 a4 a5 = p4 ∧ o_ab_2 F b0 b3 b6 b1 b4 b7 b2 b5 b8 a3 a4 a5 = p5 ∧ o_ab_3 F b0 b3 b6 b1 b4 b7 b2 b5 b8 a3 a4 a5 = c1) (d2 : ok_ab F b0 b3 b6 b1 b4 b7 b2 b5 b8 a6 a7 a8 = true ∧ o_ab_0 F b0 b3 b6 b1 b4 b7 b2 b5 b8 a6 a7 a8 = p6 ∧ o_ab_1 F b0 b3 b6 b1 b4 b7 b2 b5 b8 a6 a7 a8 = p7 ∧ o_ab_2 F b0 b3 b6 b1 b4 b7 b2 b5 b8 a6 a7 a8 = p8 ∧ o_ab_3 F b0 b3 b6 b1 b4 b7 b2 b5 b8 a6 a7 a8 = c2) :
    f_pc F a0 a1 a2 a3 a4 a5 a6 a7 a8 b0 b1 b2 b3 b4 b5 b6 b7 b8 = some (.v (.tuple #[.agg #[.int .i64 p0, .int .i64 p1, .int .i64 p2, .int .i64 p3, .int .i64 p4, .int .i64 p5, .int .i64 p6, .int .i64 p7, .int .i64 p8], .bool (c0 || c1 || c2)])) := by
  obtain ⟨d01, d02, d03, d04, d05⟩ := d0
  obtain ⟨d11, d12, d13, d14, d15⟩ := d1
  obtain ⟨d21, d22, d23, d24, d25⟩ := d2
  have w1 : IntKind.wrap .i64 (0 + 1) = 1 := by decide
  have w2 : IntKind.wrap .i64 (1 + 1) = 2 := by decide
  have w3 : IntKind.wrap .i64 (2 + 1) = 3 := by decide
  unfold f_pc fg_pc
  obtain ⟨b0_, bb0, bb1, bb2, bb3, bb4, bb5, bb6, bb7, bb8⟩ := a_mBack F hF b0 b1 b2 b3 b4 b5 b6 b7 b8
  refine bp b0_ ?_
  rw [bb0, bb1, bb2, bb3, bb4, bb5, bb6, bb7, bb8]
  obtain ⟨G, hG⟩ : ∃ G, F = G + 4 := ⟨F - 4, by omega⟩
  rw [show L_pc_0 F _ F = L_pc_0 F _ (G + 4) from congrArg (L_pc_0 F _) hG]
  have e00 : (iv [.v (.int .i64 a0), .v (.int .i64 a1), .v (.int .i64 a2), .v (.int .i64 a3), .v (.int .i64 a4), .v (.int .i64 a5), .v (.int .i64 a6), .v (.int .i64 a7), .v (.int .i64 a8)][Int.toNat 0 * 3]?) = a0 := rfl
  have e01 : (iv [.v (.int .i64 a0), .v (.int .i64 a1), .v (.int .i64 a2), .v (.int .i64 a3), .v (.int .i64 a4), .v (.int .i64 a5), .v (.int .i64 a6), .v (.int .i64 a7), .v (.int .i64 a8)][Int.toNat 0 * 3 + 1]?) = a1 := rfl
  have e02 : (iv [.v (.int .i64 a0), .v (.int .i64 a1), .v (.int .i64 a2), .v (.int .i64 a3), .v (.int .i64 a4), .v (.int .i64 a5), .v (.int .i64 a6), .v (.int .i64 a7), .v (.int .i64 a8)][Int.toNat 0 * 3 + 1 + 1]?) = a2 := rfl
  have e10 : (iv [.v (.int .i64 a0), .v (.int .i64 a1), .v (.int .i64 a2), .v (.int .i64 a3), .v (.int .i64 a4), .v (.int .i64 a5), .v (.int .i64 a6), .v (.int .i64 a7), .v (.int .i64 a8)][Int.toNat 1 * 3]?) = a3 := rfl
  have e11 : (iv [.v (.int .i64 a0), .v (.int .i64 a1), .v (.int .i64 a2), .v (.int .i64 a3), .v (.int .i64 a4), .v (.int .i64 a5), .v (.int .i64 a6), .v (.int .i64 a7), .v (.int .i64 a8)][Int.toNat 1 * 3 + 1]?) = a4 := rfl
  have e12 : (iv [.v (.int .i64 a0), .v (.int .i64 a1), .v (.int .i64 a2), .v (.int .i64 a3), .v (.int .i64 a4), .v (.int .i64 a5), .v (.int .i64 a6), .v (.int .i64 a7), .v (.int .i64 a8)][Int.toNat 1 * 3 + 1 + 1]?) = a5 := rfl
  have e20 : (iv [.v (.int .i64 a0), .v (.int .i64 a1), .v (.int .i64 a2), .v (.int .i64 a3), .v (.int .i64 a4), .v (.int .i64 a5), .v (.int .i64 a6), .v (.int .i64 a7), .v (.int .i64 a8)][Int.toNat 2 * 3]?) = a6 := rfl
  have e21 : (iv [.v (.int .i64 a0), .v (.int .i64 a1), .v (.int .i64 a2), .v (.int .i64 a3), .v (.int .i64 a4), .v (.int .i64 a5), .v (.int .i64 a6), .v (.int .i64 a7), .v (.int .i64 a8)][Int.toNat 2 * 3 + 1]?) = a7 := rfl
  have e22 : (iv [.v (.int .i64 a0), .v (.int .i64 a1), .v (.int .i64 a2), .v (.int .i64 a3), .v (.int .i64 a4), .v (.int .i64 a5), .v (.int .i64 a6), .v (.int .i64 a7), .v (.int .i64 a8)][Int.toNat 2 * 3 + 1 + 1]?) = a8 := rfl
  rw [L_pc_0]
  unfold B_pc_0 Bg_pc_0
  refine bp rfl (bp rfl ?_)
  rw [e00, e01, e02]
  refine bp d01 ?_
  rw [d02, d03, d04, d05]
  refine bn rfl (bp rfl (bp rfl ?_))
  rw [w1]
  cases c0
  · rw [L_pc_0]
    unfold B_pc_0 Bg_pc_0
    refine bp rfl (bp rfl ?_)
    rw [e10, e11, e12]
    refine bp d11 ?_
    rw [d12, d13, d14, d15]
    refine bn rfl (bp rfl (bp rfl ?_))
    rw [w2]
    cases c1
    · rw [L_pc_0]
      unfold B_pc_0 Bg_pc_0
      refine bp rfl (bp rfl ?_)
      rw [e20, e21, e22]
      refine bp d21 ?_
      rw [d22, d23, d24, d25]
      refine bn rfl (bp rfl (bp rfl ?_))
      rw [w3]
      rw [L_pc_0]
      unfold B_pc_0 Bg_pc_0
      exact bn rfl (bp rfl rfl)
    · rw [L_pc_0]
      unfold B_pc_0 Bg_pc_0
      refine bp rfl (bp rfl ?_)
      rw [e20, e21, e22]
      refine bp d21 ?_
      rw [d22, d23, d24]
      refine bp rfl (bp rfl (bp rfl ?_))
      rw [w3]
      rw [L_pc_0]
      unfold B_pc_0 Bg_pc_0
      exact bn rfl (bp rfl rfl)
  · rw [L_pc_0]
    unfold B_pc_0 Bg_pc_0
    refine bp rfl (bp rfl ?_)
    rw [e10, e11, e12]
    refine bp d11 ?_
    rw [d12, d13, d14]
    refine bp rfl (bp rfl (bp rfl ?_))
    rw [w2]
    rw [L_pc_0]
    unfold B_pc_0 Bg_pc_0
    refine bp rfl (bp rfl ?_)
    rw [e20, e21, e22]
    refine bp d21 ?_
    rw [d22, d23, d24]
    refine bp rfl (bp rfl (bp rfl ?_))
    rw [w3]
    rw [L_pc_0]
    unfold B_pc_0 Bg_pc_0
    exact bn rfl (bp rfl rfl)
theorem a_mMul (F : Nat) (hF : 200 ≤ F) {a0 a1 a2 a3 a4 a5 a6 a7 a8 b0 b1 b2 b3 b4 b5 b6 b7 b8 : Int} (ha0 : I64 a0) (ha1 : I64 a1) (ha2 : I64 a2) (ha3 : I64 a3) (ha4 : I64 a4) (ha5 : I64 a5) (ha6 : I64 a6) (ha7 : I64 a7) (ha8 : I64 a8) (hb0 : I64 b0) (hb1 : I64 b1) (hb2 : I64 b2) (hb3 : I64 b3) (hb4 : I64 b4) (hb5 : I64 b5) (hb6 : I64 b6) (hb7 : I64 b7) (hb8 : I64 b8) : ok_pc F a0 a1 a2 a3 a4 a5 a6 a7 a8 b0 b1 b2 b3 b4 b5 b6 b7 b8 = true ∧ o_pc_0 F a0 a1 a2 a3 a4 a5 a6 a7 a8 b0 b1 b2 b3 b4 b5 b6 b7 b8 = clipV (dotZ a0 a1 a2 b0 b3 b6) ∧ o_pc_1 F a0 a1 a2 a3 a4 a5 a6 a7 a8 b0 b1 b2 b3 b4 b5 b6 b7 b8 = clipV (dotZ a0 a1 a2 b1 b4 b7) ∧ o_pc_2 F a0 a1 a2 a3 a4 a5 a6 a7 a8 b0 b1 b2 b3 b4 b5 b6 b7 b8 = clipV (dotZ a0 a1 a2 b2 b5 b8) ∧ o_pc_3 F a0 a1 a2 a3 a4 a5 a6 a7 a8 b0 b1 b2 b3 b4 b5 b6 b7 b8 = clipV (dotZ a3 a4 a5 b0 b3 b6) ∧ o_pc_4 F a0 a1 a2 a3 a4 a5 a6 a7 a8 b0 b1 b2 b3 b4 b5 b6 b7 b8 = clipV (dotZ a3 a4 a5 b1 b4 b7) ∧ o_pc_5 F a0 a1 a2 a3 a4 a5 a6 a7 a8 b0 b1 b2 b3 b4 b5 b6 b7 b8 = clipV (dotZ a3 a4 a5 b2 b5 b8) ∧ o_pc_6 F a0 a1 a2 a3 a4 a5 a6 a7 a8 b0 b1 b2 b3 b4 b5 b6 b7 b8 = clipV (dotZ a6 a7 a8 b0 b3 b6) ∧ o_pc_7 F a0 a1 a2 a3 a4 a5 a6 a7 a8 b0 b1 b2 b3 b4 b5 b6 b7 b8 = clipV (dotZ a6 a7 a8 b1 b4 b7) ∧ o_pc_8 F a0 a1 a2 a3 a4 a5 a6 a7 a8 b0 b1 b2 b3 b4 b5 b6 b7 b8 = clipV (dotZ a6 a7 a8 b2 b5 b8) ∧ o_pc_9 F a0 a1 a2 a3 a4 a5 a6 a7 a8 b0 b1 b2 b3 b4 b5 b6 b7 b8 = ((clipC (dotZ a0 a1 a2 b0 b3 b6) || clipC (dotZ a0 a1 a2 b1 b4 b7) || clipC (dotZ a0 a1 a2 b2 b5 b8)) || (clipC (dotZ a3 a4 a5 b0 b3 b6) || clipC (dotZ a3 a4 a5 b1 b4 b7) || clipC (dotZ a3 a4 a5 b2 b5 b8)) || (clipC (dotZ a6 a7 a8 b0 b3 b6) || clipC (dotZ a6 a7 a8 b1 b4 b7) || clipC (dotZ a6 a7 a8 b2 b5 b8))) := by
  have d0 := a_mApply F hF hb0 hb3 hb6 hb1 hb4 hb7 hb2 hb5 hb8 ha0 ha1 ha2
  rw [dot_turn a0 a1 a2 b0 b3 b6, dot_turn a0 a1 a2 b1 b4 b7, dot_turn a0 a1 a2 b2 b5 b8] at d0
  have d1 := a_mApply F hF hb0 hb3 hb6 hb1 hb4 hb7 hb2 hb5 hb8 ha3 ha4 ha5
  rw [dot_turn a3 a4 a5 b0 b3 b6, dot_turn a3 a4 a5 b1 b4 b7, dot_turn a3 a4 a5 b2 b5 b8] at d1
  have d2 := a_mApply F hF hb0 hb3 hb6 hb1 hb4 hb7 hb2 hb5 hb8 ha6 ha7 ha8
  rw [dot_turn a6 a7 a8 b0 b3 b6, dot_turn a6 a7 a8 b1 b4 b7, dot_turn a6 a7 a8 b2 b5 b8] at d2
  exact k_pc F _ _ _ _ _ _ _ _ _ _ _ _ _ _ _ _ _ _ (f_Mul' F hF d0 d1 d2)
theorem or9 {a b c d e f g h i : Bool} : ((a || d || g) || (b || e || h) || (c || f || i)) = ((a || b || c) || (d || e || f) || (g || h || i)) := by
  cases a <;> cases b <;> cases c <;> cases d <;> cases e <;> cases f <;> cases g <;> cases h <;> cases i <;> rfl
theorem or3M {p0 p1 p2 p3 p4 p5 p6 p7 p8 : Int} {a b c : Bool} : (bif a then (some (VV.v (.tuple #[.agg #[.int .i64 p0, .int .i64 p1, .int .i64 p2, .int .i64 p3, .int .i64 p4, .int .i64 p5, .int .i64 p6, .int .i64 p7, .int .i64 p8], .bool true])) : R) else (bif b then (some (.v (.tuple #[.agg #[.int .i64 p0, .int .i64 p1, .int .i64 p2, .int .i64 p3, .int .i64 p4, .int .i64 p5, .int .i64 p6, .int .i64 p7, .int .i64 p8], .bool true]))) else (some (.v (.tuple #[.agg #[.int .i64 p0, .int .i64 p1, .int .i64 p2, .int .i64 p3, .int .i64 p4, .int .i64 p5, .int .i64 p6, .int .i64 p7, .int .i64 p8], .bool c]))))) = some (.v (.tuple #[.agg #[.int .i64 p0, .int .i64 p1, .int .i64 p2, .int .i64 p3, .int .i64 p4, .int .i64 p5, .int .i64 p6, .int .i64 p7, .int .i64 p8], .bool (a || b || c)])) := by
  cases a <;> cases b <;> rfl
theorem a_rMul7 (F : Nat) (hF : 200 ≤ F) {a0 a1 a2 a3 a4 a5 a6 a7 a8 b0 b1 b2 b3 b4 b5 b6 b7 b8 : Int} (ha0 : I64 a0) (ha1 : I64 a1) (ha2 : I64 a2) (ha3 : I64 a3) (ha4 : I64 a4) (ha5 : I64 a5) (ha6 : I64 a6) (ha7 : I64 a7) (ha8 : I64 a8) (hb0 : I64 b0) (hb1 : I64 b1) (hb2 : I64 b2) (hb3 : I64 b3) (hb4 : I64 b4) (hb5 : I64 b5) (hb6 : I64 b6) (hb7 : I64 b7) (hb8 : I64 b8) : ok_lb F a0 a1 a2 a3 a4 a5 a6 a7 a8 b0 b1 b2 b3 b4 b5 b6 b7 b8 = true ∧ o_lb_0 F a0 a1 a2 a3 a4 a5 a6 a7 a8 b0 b1 b2 b3 b4 b5 b6 b7 b8 = clipV (dotZ a0 a1 a2 b0 b3 b6) ∧ o_lb_1 F a0 a1 a2 a3 a4 a5 a6 a7 a8 b0 b1 b2 b3 b4 b5 b6 b7 b8 = clipV (dotZ a0 a1 a2 b1 b4 b7) ∧ o_lb_2 F a0 a1 a2 a3 a4 a5 a6 a7 a8 b0 b1 b2 b3 b4 b5 b6 b7 b8 = clipV (dotZ a0 a1 a2 b2 b5 b8) ∧ o_lb_3 F a0 a1 a2 a3 a4 a5 a6 a7 a8 b0 b1 b2 b3 b4 b5 b6 b7 b8 = clipV (dotZ a3 a4 a5 b0 b3 b6) ∧ o_lb_4 F a0 a1 a2 a3 a4 a5 a6 a7 a8 b0 b1 b2 b3 b4 b5 b6 b7 b8 = clipV (dotZ a3 a4 a5 b1 b4 b7) ∧ o_lb_5 F a0 a1 a2 a3 a4 a5 a6 a7 a8 b0 b1 b2 b3 b4 b5 b6 b7 b8 = clipV (dotZ a3 a4 a5 b2 b5 b8) ∧ o_lb_6 F a0 a1 a2 a3 a4 a5 a6 a7 a8 b0 b1 b2 b3 b4 b5 b6 b7 b8 = clipV (dotZ a6 a7 a8 b0 b3 b6) ∧ o_lb_7 F a0 a1 a2 a3 a4 a5 a6 a7 a8 b0 b1 b2 b3 b4 b5 b6 b7 b8 = clipV (dotZ a6 a7 a8 b1 b4 b7) ∧ o_lb_8 F a0 a1 a2 a3 a4 a5 a6 a7 a8 b0 b1 b2 b3 b4 b5 b6 b7 b8 = clipV (dotZ a6 a7 a8 b2 b5 b8) ∧ o_lb_9 F a0 a1 a2 a3 a4 a5 a6 a7 a8 b0 b1 b2 b3 b4 b5 b6 b7 b8 = ((clipC (dotZ a0 a1 a2 b0 b3 b6) || clipC (dotZ a0 a1 a2 b1 b4 b7) || clipC (dotZ a0 a1 a2 b2 b5 b8)) || (clipC (dotZ a3 a4 a5 b0 b3 b6) || clipC (dotZ a3 a4 a5 b1 b4 b7) || clipC (dotZ a3 a4 a5 b2 b5 b8)) || (clipC (dotZ a6 a7 a8 b0 b3 b6) || clipC (dotZ a6 a7 a8 b1 b4 b7) || clipC (dotZ a6 a7 a8 b2 b5 b8))) := by
  refine k_lb F _ _ _ _ _ _ _ _ _ _ _ _ _ _ _ _ _ _ ?_
  unfold f_lb fg_lb
  obtain ⟨b0_, bb0, bb1, bb2, bb3, bb4, bb5, bb6, bb7, bb8⟩ := a_rBack F b0 b1 b2 b3 b4 b5 b6 b7 b8
  obtain ⟨s00, s01, s02, s03, s04⟩ := a_rApply F hF ha0 ha1 ha2 ha3 ha4 ha5 ha6 ha7 ha8 hb0 hb3 hb6
  obtain ⟨s10, s11, s12, s13, s14⟩ := a_rApply F hF ha0 ha1 ha2 ha3 ha4 ha5 ha6 ha7 ha8 hb1 hb4 hb7
  obtain ⟨s20, s21, s22, s23, s24⟩ := a_rApply F hF ha0 ha1 ha2 ha3 ha4 ha5 ha6 ha7 ha8 hb2 hb5 hb8
  refine bp b0_ ?_
  rw [bb0, bb1, bb2, bb3, bb4, bb5, bb6, bb7, bb8]
  refine bp s00 (bp s10 (bp s20 ?_))
  rw [s01, s02, s03, s04, s11, s12, s13, s14, s21, s22, s23, s24]
  obtain ⟨f0_, ff0, ff1, ff2, ff3, ff4, ff5, ff6, ff7, ff8⟩ := a_rBack F (clipV (dotZ a0 a1 a2 b0 b3 b6)) (clipV (dotZ a3 a4 a5 b0 b3 b6)) (clipV (dotZ a6 a7 a8 b0 b3 b6)) (clipV (dotZ a0 a1 a2 b1 b4 b7)) (clipV (dotZ a3 a4 a5 b1 b4 b7)) (clipV (dotZ a6 a7 a8 b1 b4 b7)) (clipV (dotZ a0 a1 a2 b2 b5 b8)) (clipV (dotZ a3 a4 a5 b2 b5 b8)) (clipV (dotZ a6 a7 a8 b2 b5 b8))
  refine bp f0_ ?_
  rw [ff0, ff1, ff2, ff3, ff4, ff5, ff6, ff7, ff8]
  rw [← or9]
  exact or3M
theorem neg_both (x : Int) : IntKind.wrap .i64 (0 - bothS x) = -bothS x := by
  have := (both_bd x).2
  rw [wi64_in (by unfold I64; omega), Int.zero_sub]
theorem a_mAbout2 (F : Nat) (hF : 200 ≤ F) {x : Int} (hx : U32 x) : ok_za F 2 x = true ∧ o_za_0 F 2 x = (bothC x) ∧ o_za_1 F 2 x = (-bothS x) ∧ o_za_2 F 2 x = 0 ∧ o_za_3 F 2 x = (bothS x) ∧ o_za_4 F 2 x = (bothC x) ∧ o_za_5 F 2 x = 0 ∧ o_za_6 F 2 x = 0 ∧ o_za_7 F 2 x = 0 ∧ o_za_8 F 2 x = 4294967296 ∧ o_za_9 F 2 x = 0 := by
  refine k_za F _ _ ?_
  unfold f_za fg_za
  obtain ⟨h1, h2, h3⟩ := a_tBoth F hF hx
  obtain ⟨m0, mm0, mm1, mm2, mm3, mm4, mm5, mm6, mm7, mm8⟩ := a_mSame F hF
  have w1 : Int.tmod (IntKind.wrap .i64 (2 + 1)) 3 = 0 := by decide
  have w2 : Int.tmod (IntKind.wrap .i64 (2 + 2)) 3 = 1 := by decide
  refine bn rfl (bn rfl (bp h1 ?_))
  rw [h2, h3, w1, w2]
  refine bp m0 ?_
  rw [mm0, mm1, mm2, mm3, mm4, mm5, mm6, mm7, mm8]
  dsimp only
  rw [neg_both]
  refine bp rfl (bp rfl (bp rfl (bp rfl (bp rfl (bp rfl (bp rfl (bp rfl (bp rfl (bp rfl (bp rfl (bp rfl (bp rfl ?_))))))))))))
  rfl
theorem f_works07 (F : Nat) (hF : 200 ≤ F) : f_o F = some (.v (.bool true)) := by
  unfold f_o fg_o
  have hI : ∀ y : Int, -4294967296 ≤ y ∧ y ≤ 4294967296 → I64 y := fun y h => by unfold I64; omega
  obtain ⟨⟨b1, b2⟩, b3, b4⟩ := both_bd 1073741824
  obtain ⟨a0_, aa0, aa1, aa2, aa3, aa4, aa5, aa6, aa7, aa8, a9_⟩ := a_mAbout2 F hF (x := 1073741824) (by unfold U32; omega)
  have eC : bothC 1073741824 = (-23) := by decide +kernel
  have eS : bothS 1073741824 = 4294967296 := by decide +kernel
  rw [eC] at aa0 aa4
  rw [eS] at aa1 aa3
  refine bp a0_ ?_
  rw [aa0, aa1, aa2, aa3, aa4, aa5, aa6, aa7, aa8]
  obtain ⟨p0_, p1, p2, p3, p4⟩ := a_mApply F hF (a0 := (-23)) (a1 := -4294967296) (a2 := 0) (a3 := 4294967296) (a4 := (-23)) (a5 := 0) (a6 := 0) (a7 := 0) (a8 := 4294967296) (u0 := 4294967296) (u1 := 0) (u2 := 0) (by unfold I64; omega) (by unfold I64; omega) (by unfold I64; omega) (by unfold I64; omega) (by unfold I64; omega) (by unfold I64; omega) (by unfold I64; omega) (by unfold I64; omega) (by unfold I64; omega) (by unfold I64; omega) (by unfold I64; omega) (by unfold I64; omega)
  obtain ⟨q0_, q1, q2, q3, q4⟩ := a_mApply F hF (a0 := (-23)) (a1 := -4294967296) (a2 := 0) (a3 := 4294967296) (a4 := (-23)) (a5 := 0) (a6 := 0) (a7 := 0) (a8 := 4294967296) (u0 := 0) (u1 := 0) (u2 := 4294967296) (by unfold I64; omega) (by unfold I64; omega) (by unfold I64; omega) (by unfold I64; omega) (by unfold I64; omega) (by unfold I64; omega) (by unfold I64; omega) (by unfold I64; omega) (by unfold I64; omega) (by unfold I64; omega) (by unfold I64; omega) (by unfold I64; omega)
  obtain ⟨m0, mm0, mm1, mm2, mm3, mm4, mm5, mm6, mm7, mm8⟩ := a_mSame F hF
  refine bp p0_ ?_
  refine bp q0_ ?_
  refine bp (by rw [a9_]; rfl) ?_
  refine bp ?_ ?_
  · rw [p2]; decide
  refine bp ?_ ?_
  · rw [p4]; decide
  refine bp ?_ ?_
  · rw [q1, q2, q3]; decide
  refine bp ?_ ?_
  · rw [q4]; decide
  refine bp m0 (some_bool ?_)
  rw [mm4]; rfl
theorem a_works07 (F : Nat) (hF : 200 ≤ F) : ok_o F = true ∧ o_o_0 F = true := k_o F (f_works07 F hF)
theorem a_Heading (F : Nat) (hF : 200 ≤ F) {a0 a1 a2 a3 a4 a5 a6 a7 a8 : Int} (ha0 : I64 a0) (ha3 : I64 a3) : ok_p F a0 a1 a2 a3 a4 a5 a6 a7 a8 = true ∧ o_p_0 F a0 a1 a2 a3 a4 a5 a6 a7 a8 = angle a3 a0 := by
  refine k_p F _ _ _ _ _ _ _ _ _ ?_
  unfold f_p fg_p
  obtain ⟨h1, h2⟩ := a_tAngle F hF ha3 ha0
  refine bp h1 ?_
  rw [h2]
theorem a_rHeading (F : Nat) (hF : 200 ≤ F) {a0 a1 a2 a3 a4 a5 a6 a7 a8 : Int} (ha0 : I64 a0) (ha3 : I64 a3) : ok_g F a0 a1 a2 a3 a4 a5 a6 a7 a8 = true ∧ o_g_0 F a0 a1 a2 a3 a4 a5 a6 a7 a8 = angle a3 a0 := by
  refine k_g F _ _ _ _ _ _ _ _ _ ?_
  unfold f_g fg_g
  obtain ⟨h1, h2⟩ := a_rAngle F hF ha3 ha0
  refine bp h1 ?_
  rw [h2]
end Go.Xv
namespace Go.Xv
theorem gr3_nn (a b c : Int) : 0 ≤ gr3 a b c := by
  have : 0 ≤ sz a := by unfold sz; split <;> omega
  unfold gr3; omega
/-- how far a row of the products is off -/
def row3 (p q r s t u : Int) : Int := gr3 (clipV (p - s)) (clipV (q - t)) (clipV (r - u))
theorem row3_nn (p q r s t u : Int) : 0 ≤ row3 p q r s t u := gr3_nn _ _ _
def off9 (a0 a1 a2 a3 a4 a5 a6 a7 a8 : Int) : Int := max (row3 (clipV (dotZ a0 a1 a2 a0 a1 a2)) (clipV (dotZ a0 a1 a2 a3 a4 a5)) (clipV (dotZ a0 a1 a2 a6 a7 a8)) 4294967296 0 0) (max (row3 (clipV (dotZ a3 a4 a5 a0 a1 a2)) (clipV (dotZ a3 a4 a5 a3 a4 a5)) (clipV (dotZ a3 a4 a5 a6 a7 a8)) 0 4294967296 0) (row3 (clipV (dotZ a6 a7 a8 a0 a1 a2)) (clipV (dotZ a6 a7 a8 a3 a4 a5)) (clipV (dotZ a6 a7 a8 a6 a7 a8)) 0 0 4294967296))
theorem h_mat_Off (F : Nat) (hF : 200 ≤ F) {a0 a1 a2 a3 a4 a5 a6 a7 a8 p0 p1 p2 p3 p4 p5 p6 p7 p8 : Int} (i0 : I64 p0) (i1 : I64 p1) (i2 : I64 p2) (i3 : I64 p3) (i4 : I64 p4) (i5 : I64 p5) (i6 : I64 p6) (i7 : I64 p7) (i8 : I64 p8) : L_qc_0 F (fun (v0 v1 v2 v3 v4 v5 v6 v7 v8 v9 v10 v11 v12 v13 v14 v15 v16 v17 v18 v19 v20 v21 v22 v23 v24 v25 v26 v27 v28 v29 v30 v31 v32 v33 v34 v35 v36 v37 v38 : Int) => some (.v (.int .i64 v10))) F a0 a1 a2 a3 a4 a5 a6 a7 a8 0 0 p0 p1 p2 p3 p4 p5 p6 p7 p8 0 a0 a1 a2 a3 a4 a5 a6 a7 a8 p0 p1 p2 p3 p4 p5 p6 p7 p8 = (some (.v (.int .i64 (max (row3 p0 p1 p2 4294967296 0 0) (max (row3 p3 p4 p5 0 4294967296 0) (row3 p6 p7 p8 0 0 4294967296))))) : R) := by
  have w1 : IntKind.wrap .i64 (0 + 1) = 1 := by decide
  have w2 : IntKind.wrap .i64 (1 + 1) = 2 := by decide
  have w3 : IntKind.wrap .i64 (2 + 1) = 3 := by decide
  obtain ⟨s0_, ss0, ss1, ss2, ss3, ss4, ss5, ss6, ss7, ss8⟩ := a_mSame F hF
  have e00 : (iv [.v (.int .i64 p0), .v (.int .i64 p1), .v (.int .i64 p2), .v (.int .i64 p3), .v (.int .i64 p4), .v (.int .i64 p5), .v (.int .i64 p6), .v (.int .i64 p7), .v (.int .i64 p8)][Int.toNat 0 * 3]?) = p0 := rfl
  have e01 : (iv [.v (.int .i64 p0), .v (.int .i64 p1), .v (.int .i64 p2), .v (.int .i64 p3), .v (.int .i64 p4), .v (.int .i64 p5), .v (.int .i64 p6), .v (.int .i64 p7), .v (.int .i64 p8)][Int.toNat 0 * 3 + 1]?) = p1 := rfl
  have e02 : (iv [.v (.int .i64 p0), .v (.int .i64 p1), .v (.int .i64 p2), .v (.int .i64 p3), .v (.int .i64 p4), .v (.int .i64 p5), .v (.int .i64 p6), .v (.int .i64 p7), .v (.int .i64 p8)][Int.toNat 0 * 3 + 1 + 1]?) = p2 := rfl
  have e10 : (iv [.v (.int .i64 p0), .v (.int .i64 p1), .v (.int .i64 p2), .v (.int .i64 p3), .v (.int .i64 p4), .v (.int .i64 p5), .v (.int .i64 p6), .v (.int .i64 p7), .v (.int .i64 p8)][Int.toNat 1 * 3]?) = p3 := rfl
  have e11 : (iv [.v (.int .i64 p0), .v (.int .i64 p1), .v (.int .i64 p2), .v (.int .i64 p3), .v (.int .i64 p4), .v (.int .i64 p5), .v (.int .i64 p6), .v (.int .i64 p7), .v (.int .i64 p8)][Int.toNat 1 * 3 + 1]?) = p4 := rfl
  have e12 : (iv [.v (.int .i64 p0), .v (.int .i64 p1), .v (.int .i64 p2), .v (.int .i64 p3), .v (.int .i64 p4), .v (.int .i64 p5), .v (.int .i64 p6), .v (.int .i64 p7), .v (.int .i64 p8)][Int.toNat 1 * 3 + 1 + 1]?) = p5 := rfl
  have e20 : (iv [.v (.int .i64 p0), .v (.int .i64 p1), .v (.int .i64 p2), .v (.int .i64 p3), .v (.int .i64 p4), .v (.int .i64 p5), .v (.int .i64 p6), .v (.int .i64 p7), .v (.int .i64 p8)][Int.toNat 2 * 3]?) = p6 := rfl
  have e21 : (iv [.v (.int .i64 p0), .v (.int .i64 p1), .v (.int .i64 p2), .v (.int .i64 p3), .v (.int .i64 p4), .v (.int .i64 p5), .v (.int .i64 p6), .v (.int .i64 p7), .v (.int .i64 p8)][Int.toNat 2 * 3 + 1]?) = p7 := rfl
  have e22 : (iv [.v (.int .i64 p0), .v (.int .i64 p1), .v (.int .i64 p2), .v (.int .i64 p3), .v (.int .i64 p4), .v (.int .i64 p5), .v (.int .i64 p6), .v (.int .i64 p7), .v (.int .i64 p8)][Int.toNat 2 * 3 + 1 + 1]?) = p8 := rfl
  have g00 : (iv [.v (.int .i64 4294967296), .v (.int .i64 0), .v (.int .i64 0), .v (.int .i64 0), .v (.int .i64 4294967296), .v (.int .i64 0), .v (.int .i64 0), .v (.int .i64 0), .v (.int .i64 4294967296)][Int.toNat 0 * 3]?) = 4294967296 := rfl
  have g01 : (iv [.v (.int .i64 4294967296), .v (.int .i64 0), .v (.int .i64 0), .v (.int .i64 0), .v (.int .i64 4294967296), .v (.int .i64 0), .v (.int .i64 0), .v (.int .i64 0), .v (.int .i64 4294967296)][Int.toNat 0 * 3 + 1]?) = 0 := rfl
  have g02 : (iv [.v (.int .i64 4294967296), .v (.int .i64 0), .v (.int .i64 0), .v (.int .i64 0), .v (.int .i64 4294967296), .v (.int .i64 0), .v (.int .i64 0), .v (.int .i64 0), .v (.int .i64 4294967296)][Int.toNat 0 * 3 + 1 + 1]?) = 0 := rfl
  have g10 : (iv [.v (.int .i64 4294967296), .v (.int .i64 0), .v (.int .i64 0), .v (.int .i64 0), .v (.int .i64 4294967296), .v (.int .i64 0), .v (.int .i64 0), .v (.int .i64 0), .v (.int .i64 4294967296)][Int.toNat 1 * 3]?) = 0 := rfl
  have g11 : (iv [.v (.int .i64 4294967296), .v (.int .i64 0), .v (.int .i64 0), .v (.int .i64 0), .v (.int .i64 4294967296), .v (.int .i64 0), .v (.int .i64 0), .v (.int .i64 0), .v (.int .i64 4294967296)][Int.toNat 1 * 3 + 1]?) = 4294967296 := rfl
  have g12 : (iv [.v (.int .i64 4294967296), .v (.int .i64 0), .v (.int .i64 0), .v (.int .i64 0), .v (.int .i64 4294967296), .v (.int .i64 0), .v (.int .i64 0), .v (.int .i64 0), .v (.int .i64 4294967296)][Int.toNat 1 * 3 + 1 + 1]?) = 0 := rfl
  have g20 : (iv [.v (.int .i64 4294967296), .v (.int .i64 0), .v (.int .i64 0), .v (.int .i64 0), .v (.int .i64 4294967296), .v (.int .i64 0), .v (.int .i64 0), .v (.int .i64 0), .v (.int .i64 4294967296)][Int.toNat 2 * 3]?) = 0 := rfl
  have g21 : (iv [.v (.int .i64 4294967296), .v (.int .i64 0), .v (.int .i64 0), .v (.int .i64 0), .v (.int .i64 4294967296), .v (.int .i64 0), .v (.int .i64 0), .v (.int .i64 0), .v (.int .i64 4294967296)][Int.toNat 2 * 3 + 1]?) = 0 := rfl
  have g22 : (iv [.v (.int .i64 4294967296), .v (.int .i64 0), .v (.int .i64 0), .v (.int .i64 0), .v (.int .i64 4294967296), .v (.int .i64 0), .v (.int .i64 0), .v (.int .i64 0), .v (.int .i64 4294967296)][Int.toNat 2 * 3 + 1 + 1]?) = 4294967296 := rfl
  have j0 : I64 0 := by unfold I64; omega
  have jO : I64 4294967296 := by unfold I64; omega
  obtain ⟨x00, x01, x02, x03, _⟩ := a_Sub F hF i0 i1 i2 jO j0 j0
  obtain ⟨y00, y01⟩ := a_Greatest F hF (clipV_I (p0 - 4294967296)) (clipV_I (p1 - 0)) (clipV_I (p2 - 0))
  obtain ⟨x10, x11, x12, x13, _⟩ := a_Sub F hF i3 i4 i5 j0 jO j0
  obtain ⟨y10, y11⟩ := a_Greatest F hF (clipV_I (p3 - 0)) (clipV_I (p4 - 4294967296)) (clipV_I (p5 - 0))
  obtain ⟨x20, x21, x22, x23, _⟩ := a_Sub F hF i6 i7 i8 j0 j0 jO
  obtain ⟨y20, y21⟩ := a_Greatest F hF (clipV_I (p6 - 0)) (clipV_I (p7 - 0)) (clipV_I (p8 - 4294967296))
  obtain ⟨G, hG⟩ : ∃ G, F = G + 4 := ⟨F - 4, by omega⟩
  rw [show L_qc_0 F _ F = L_qc_0 F _ (G + 4) from congrArg (L_qc_0 F _) hG]
  rw [L_qc_0]
  unfold B_qc_0 Bg_qc_0
  refine bp rfl (bp rfl ?_)
  rw [e00, e01, e02]
  refine bp s0_ ?_
  rw [ss0, ss1, ss2, ss3, ss4, ss5, ss6, ss7, ss8]
  refine bp rfl ?_
  rw [g00, g01, g02]
  refine bp x00 ?_
  rw [x01, x02, x03]
  refine bp y00 ?_
  rw [y01, w1]
  rw [L_qc_0]
  unfold B_qc_0 Bg_qc_0
  refine bp rfl (bp rfl ?_)
  rw [e10, e11, e12]
  refine bp s0_ ?_
  rw [ss0, ss1, ss2, ss3, ss4, ss5, ss6, ss7, ss8]
  refine bp rfl ?_
  rw [g10, g11, g12]
  refine bp x10 ?_
  rw [x11, x12, x13]
  refine bp y10 ?_
  rw [y11, w2]
  rw [L_qc_0]
  unfold B_qc_0 Bg_qc_0
  refine bp rfl (bp rfl ?_)
  rw [e20, e21, e22]
  refine bp s0_ ?_
  rw [ss0, ss1, ss2, ss3, ss4, ss5, ss6, ss7, ss8]
  refine bp rfl ?_
  rw [g20, g21, g22]
  refine bp x20 ?_
  rw [x21, x22, x23]
  refine bp y20 ?_
  rw [y21, w3]
  rw [L_qc_0]
  unfold B_qc_0 Bg_qc_0
  refine bn rfl (some_int ?_)
  have n0 := row3_nn p0 p1 p2 4294967296 0 0
  have n1 := row3_nn p3 p4 p5 0 4294967296 0
  have n2 := row3_nn p6 p7 p8 0 0 4294967296
  unfold row3 at *
  rw [mx, mx, mx]
  omega
theorem h_ref07_Off (F : Nat) (hF : 200 ≤ F) {a0 a1 a2 a3 a4 a5 a6 a7 a8 p0 p1 p2 p3 p4 p5 p6 p7 p8 : Int} (i0 : I64 p0) (i1 : I64 p1) (i2 : I64 p2) (i3 : I64 p3) (i4 : I64 p4) (i5 : I64 p5) (i6 : I64 p6) (i7 : I64 p7) (i8 : I64 p8) : L_mb_0 F (fun (v0 v1 v2 v3 v4 v5 v6 v7 v8 v9 v10 v11 v12 v13 v14 v15 v16 v17 v18 v19 v20 v21 v22 v23 v24 v25 v26 v27 v28 v29 : Int) => some (.v (.int .i64 v10))) F a0 a1 a2 a3 a4 a5 a6 a7 a8 0 0 0 a0 a1 a2 a3 a4 a5 a6 a7 a8 p0 p1 p2 p3 p4 p5 p6 p7 p8 = (some (.v (.int .i64 (max (row3 p0 p1 p2 4294967296 0 0) (max (row3 p3 p4 p5 0 4294967296 0) (row3 p6 p7 p8 0 0 4294967296))))) : R) := by
  have w1 : IntKind.wrap .i64 (0 + 1) = 1 := by decide
  have w2 : IntKind.wrap .i64 (1 + 1) = 2 := by decide
  have w3 : IntKind.wrap .i64 (2 + 1) = 3 := by decide
  obtain ⟨s0_, ss0, ss1, ss2, ss3, ss4, ss5, ss6, ss7, ss8⟩ := a_rSame F
  have e00 : (iv [.v (.int .i64 p0), .v (.int .i64 p1), .v (.int .i64 p2), .v (.int .i64 p3), .v (.int .i64 p4), .v (.int .i64 p5), .v (.int .i64 p6), .v (.int .i64 p7), .v (.int .i64 p8)][0 + Int.toNat 0 * 3]?) = p0 := rfl
  have e01 : (iv [.v (.int .i64 p0), .v (.int .i64 p1), .v (.int .i64 p2), .v (.int .i64 p3), .v (.int .i64 p4), .v (.int .i64 p5), .v (.int .i64 p6), .v (.int .i64 p7), .v (.int .i64 p8)][0 + Int.toNat 0 * 3 + 1]?) = p1 := rfl
  have e02 : (iv [.v (.int .i64 p0), .v (.int .i64 p1), .v (.int .i64 p2), .v (.int .i64 p3), .v (.int .i64 p4), .v (.int .i64 p5), .v (.int .i64 p6), .v (.int .i64 p7), .v (.int .i64 p8)][0 + Int.toNat 0 * 3 + 1 + 1]?) = p2 := rfl
  have e10 : (iv [.v (.int .i64 p0), .v (.int .i64 p1), .v (.int .i64 p2), .v (.int .i64 p3), .v (.int .i64 p4), .v (.int .i64 p5), .v (.int .i64 p6), .v (.int .i64 p7), .v (.int .i64 p8)][0 + Int.toNat 1 * 3]?) = p3 := rfl
  have e11 : (iv [.v (.int .i64 p0), .v (.int .i64 p1), .v (.int .i64 p2), .v (.int .i64 p3), .v (.int .i64 p4), .v (.int .i64 p5), .v (.int .i64 p6), .v (.int .i64 p7), .v (.int .i64 p8)][0 + Int.toNat 1 * 3 + 1]?) = p4 := rfl
  have e12 : (iv [.v (.int .i64 p0), .v (.int .i64 p1), .v (.int .i64 p2), .v (.int .i64 p3), .v (.int .i64 p4), .v (.int .i64 p5), .v (.int .i64 p6), .v (.int .i64 p7), .v (.int .i64 p8)][0 + Int.toNat 1 * 3 + 1 + 1]?) = p5 := rfl
  have e20 : (iv [.v (.int .i64 p0), .v (.int .i64 p1), .v (.int .i64 p2), .v (.int .i64 p3), .v (.int .i64 p4), .v (.int .i64 p5), .v (.int .i64 p6), .v (.int .i64 p7), .v (.int .i64 p8)][0 + Int.toNat 2 * 3]?) = p6 := rfl
  have e21 : (iv [.v (.int .i64 p0), .v (.int .i64 p1), .v (.int .i64 p2), .v (.int .i64 p3), .v (.int .i64 p4), .v (.int .i64 p5), .v (.int .i64 p6), .v (.int .i64 p7), .v (.int .i64 p8)][0 + Int.toNat 2 * 3 + 1]?) = p7 := rfl
  have e22 : (iv [.v (.int .i64 p0), .v (.int .i64 p1), .v (.int .i64 p2), .v (.int .i64 p3), .v (.int .i64 p4), .v (.int .i64 p5), .v (.int .i64 p6), .v (.int .i64 p7), .v (.int .i64 p8)][0 + Int.toNat 2 * 3 + 1 + 1]?) = p8 := rfl
  have g00 : (iv [.v (.int .i64 4294967296), .v (.int .i64 0), .v (.int .i64 0), .v (.int .i64 0), .v (.int .i64 4294967296), .v (.int .i64 0), .v (.int .i64 0), .v (.int .i64 0), .v (.int .i64 4294967296)][Int.toNat 0 * 3]?) = 4294967296 := rfl
  have g01 : (iv [.v (.int .i64 4294967296), .v (.int .i64 0), .v (.int .i64 0), .v (.int .i64 0), .v (.int .i64 4294967296), .v (.int .i64 0), .v (.int .i64 0), .v (.int .i64 0), .v (.int .i64 4294967296)][Int.toNat 0 * 3 + 1]?) = 0 := rfl
  have g02 : (iv [.v (.int .i64 4294967296), .v (.int .i64 0), .v (.int .i64 0), .v (.int .i64 0), .v (.int .i64 4294967296), .v (.int .i64 0), .v (.int .i64 0), .v (.int .i64 0), .v (.int .i64 4294967296)][Int.toNat 0 * 3 + 1 + 1]?) = 0 := rfl
  have g10 : (iv [.v (.int .i64 4294967296), .v (.int .i64 0), .v (.int .i64 0), .v (.int .i64 0), .v (.int .i64 4294967296), .v (.int .i64 0), .v (.int .i64 0), .v (.int .i64 0), .v (.int .i64 4294967296)][Int.toNat 1 * 3]?) = 0 := rfl
  have g11 : (iv [.v (.int .i64 4294967296), .v (.int .i64 0), .v (.int .i64 0), .v (.int .i64 0), .v (.int .i64 4294967296), .v (.int .i64 0), .v (.int .i64 0), .v (.int .i64 0), .v (.int .i64 4294967296)][Int.toNat 1 * 3 + 1]?) = 4294967296 := rfl
  have g12 : (iv [.v (.int .i64 4294967296), .v (.int .i64 0), .v (.int .i64 0), .v (.int .i64 0), .v (.int .i64 4294967296), .v (.int .i64 0), .v (.int .i64 0), .v (.int .i64 0), .v (.int .i64 4294967296)][Int.toNat 1 * 3 + 1 + 1]?) = 0 := rfl
  have g20 : (iv [.v (.int .i64 4294967296), .v (.int .i64 0), .v (.int .i64 0), .v (.int .i64 0), .v (.int .i64 4294967296), .v (.int .i64 0), .v (.int .i64 0), .v (.int .i64 0), .v (.int .i64 4294967296)][Int.toNat 2 * 3]?) = 0 := rfl
  have g21 : (iv [.v (.int .i64 4294967296), .v (.int .i64 0), .v (.int .i64 0), .v (.int .i64 0), .v (.int .i64 4294967296), .v (.int .i64 0), .v (.int .i64 0), .v (.int .i64 0), .v (.int .i64 4294967296)][Int.toNat 2 * 3 + 1]?) = 0 := rfl
  have g22 : (iv [.v (.int .i64 4294967296), .v (.int .i64 0), .v (.int .i64 0), .v (.int .i64 0), .v (.int .i64 4294967296), .v (.int .i64 0), .v (.int .i64 0), .v (.int .i64 0), .v (.int .i64 4294967296)][Int.toNat 2 * 3 + 1 + 1]?) = 4294967296 := rfl
  have j0 : I64 0 := by unfold I64; omega
  have jO : I64 4294967296 := by unfold I64; omega
  obtain ⟨x00, x01, x02, x03, _⟩ := a_rSub6 F hF i0 i1 i2 jO j0 j0
  obtain ⟨y00, y01⟩ := a_rGreatest F (clipV_I (p0 - 4294967296)) (clipV_I (p1 - 0)) (clipV_I (p2 - 0))
  obtain ⟨x10, x11, x12, x13, _⟩ := a_rSub6 F hF i3 i4 i5 j0 jO j0
  obtain ⟨y10, y11⟩ := a_rGreatest F (clipV_I (p3 - 0)) (clipV_I (p4 - 4294967296)) (clipV_I (p5 - 0))
  obtain ⟨x20, x21, x22, x23, _⟩ := a_rSub6 F hF i6 i7 i8 j0 j0 jO
  obtain ⟨y20, y21⟩ := a_rGreatest F (clipV_I (p6 - 0)) (clipV_I (p7 - 0)) (clipV_I (p8 - 4294967296))
  obtain ⟨G, hG⟩ : ∃ G, F = G + 4 := ⟨F - 4, by omega⟩
  rw [show L_mb_0 F _ F = L_mb_0 F _ (G + 4) from congrArg (L_mb_0 F _) hG]
  rw [L_mb_0]
  unfold B_mb_0 Bg_mb_0
  refine bp rfl (bp rfl (bp rfl ?_))
  rw [e00, e01, e02]
  refine bp s0_ ?_
  rw [ss0, ss1, ss2, ss3, ss4, ss5, ss6, ss7, ss8]
  refine bp rfl ?_
  rw [g00, g01, g02]
  refine bp x00 ?_
  rw [x01, x02, x03]
  refine bp y00 ?_
  rw [y01, w1]
  rw [L_mb_0]
  unfold B_mb_0 Bg_mb_0
  refine bp rfl (bp rfl (bp rfl ?_))
  rw [e10, e11, e12]
  refine bp s0_ ?_
  rw [ss0, ss1, ss2, ss3, ss4, ss5, ss6, ss7, ss8]
  refine bp rfl ?_
  rw [g10, g11, g12]
  refine bp x10 ?_
  rw [x11, x12, x13]
  refine bp y10 ?_
  rw [y11, w2]
  rw [L_mb_0]
  unfold B_mb_0 Bg_mb_0
  refine bp rfl (bp rfl (bp rfl ?_))
  rw [e20, e21, e22]
  refine bp s0_ ?_
  rw [ss0, ss1, ss2, ss3, ss4, ss5, ss6, ss7, ss8]
  refine bp rfl ?_
  rw [g20, g21, g22]
  refine bp x20 ?_
  rw [x21, x22, x23]
  refine bp y20 ?_
  rw [y21, w3]
  rw [L_mb_0]
  unfold B_mb_0 Bg_mb_0
  refine bn rfl (some_int ?_)
  have n0 := row3_nn p0 p1 p2 4294967296 0 0
  have n1 := row3_nn p3 p4 p5 0 4294967296 0
  have n2 := row3_nn p6 p7 p8 0 0 4294967296
  unfold row3 at *
  rw [mx, mx, mx]
  omega
theorem a_mat_Off (F : Nat) (hF : 200 ≤ F) {a0 a1 a2 a3 a4 a5 a6 a7 a8 : Int} (ha0 : I64 a0) (ha1 : I64 a1) (ha2 : I64 a2) (ha3 : I64 a3) (ha4 : I64 a4) (ha5 : I64 a5) (ha6 : I64 a6) (ha7 : I64 a7) (ha8 : I64 a8) : ok_qc F a0 a1 a2 a3 a4 a5 a6 a7 a8 = true ∧ o_qc_0 F a0 a1 a2 a3 a4 a5 a6 a7 a8 = off9 a0 a1 a2 a3 a4 a5 a6 a7 a8 := by
  refine k_qc F _ _ _ _ _ _ _ _ _ ?_
  unfold f_qc fg_qc
  obtain ⟨b0_, bb0, bb1, bb2, bb3, bb4, bb5, bb6, bb7, bb8⟩ := a_mBack F hF a0 a1 a2 a3 a4 a5 a6 a7 a8
  obtain ⟨m0_, mm0, mm1, mm2, mm3, mm4, mm5, mm6, mm7, mm8, _⟩ := a_mMul F hF ha0 ha1 ha2 ha3 ha4 ha5 ha6 ha7 ha8 ha0 ha3 ha6 ha1 ha4 ha7 ha2 ha5 ha8
  refine bp b0_ ?_
  rw [bb0, bb1, bb2, bb3, bb4, bb5, bb6, bb7, bb8]
  refine bp m0_ ?_
  rw [mm0, mm1, mm2, mm3, mm4, mm5, mm6, mm7, mm8]
  have i0 : I64 (clipV (dotZ a0 a1 a2 a0 a1 a2)) := clipV_I _
  have i1 : I64 (clipV (dotZ a0 a1 a2 a3 a4 a5)) := clipV_I _
  have i2 : I64 (clipV (dotZ a0 a1 a2 a6 a7 a8)) := clipV_I _
  have i3 : I64 (clipV (dotZ a3 a4 a5 a0 a1 a2)) := clipV_I _
  have i4 : I64 (clipV (dotZ a3 a4 a5 a3 a4 a5)) := clipV_I _
  have i5 : I64 (clipV (dotZ a3 a4 a5 a6 a7 a8)) := clipV_I _
  have i6 : I64 (clipV (dotZ a6 a7 a8 a0 a1 a2)) := clipV_I _
  have i7 : I64 (clipV (dotZ a6 a7 a8 a3 a4 a5)) := clipV_I _
  have i8 : I64 (clipV (dotZ a6 a7 a8 a6 a7 a8)) := clipV_I _
  unfold off9
  exact h_mat_Off F hF (clipV_I _) (clipV_I _) (clipV_I _) (clipV_I _) (clipV_I _) (clipV_I _) (clipV_I _) (clipV_I _) (clipV_I _)
theorem a_ref07_Off (F : Nat) (hF : 200 ≤ F) {a0 a1 a2 a3 a4 a5 a6 a7 a8 : Int} (ha0 : I64 a0) (ha1 : I64 a1) (ha2 : I64 a2) (ha3 : I64 a3) (ha4 : I64 a4) (ha5 : I64 a5) (ha6 : I64 a6) (ha7 : I64 a7) (ha8 : I64 a8) : ok_mb F a0 a1 a2 a3 a4 a5 a6 a7 a8 = true ∧ o_mb_0 F a0 a1 a2 a3 a4 a5 a6 a7 a8 = off9 a0 a1 a2 a3 a4 a5 a6 a7 a8 := by
  refine k_mb F _ _ _ _ _ _ _ _ _ ?_
  unfold f_mb fg_mb
  obtain ⟨b0_, bb0, bb1, bb2, bb3, bb4, bb5, bb6, bb7, bb8⟩ := a_rBack F a0 a1 a2 a3 a4 a5 a6 a7 a8
  obtain ⟨m0_, mm0, mm1, mm2, mm3, mm4, mm5, mm6, mm7, mm8, _⟩ := a_rMul7 F hF ha0 ha1 ha2 ha3 ha4 ha5 ha6 ha7 ha8 ha0 ha3 ha6 ha1 ha4 ha7 ha2 ha5 ha8
  refine bp b0_ ?_
  rw [bb0, bb1, bb2, bb3, bb4, bb5, bb6, bb7, bb8]
  refine bp m0_ ?_
  rw [mm0, mm1, mm2, mm3, mm4, mm5, mm6, mm7, mm8]
  have i0 : I64 (clipV (dotZ a0 a1 a2 a0 a1 a2)) := clipV_I _
  have i1 : I64 (clipV (dotZ a0 a1 a2 a3 a4 a5)) := clipV_I _
  have i2 : I64 (clipV (dotZ a0 a1 a2 a6 a7 a8)) := clipV_I _
  have i3 : I64 (clipV (dotZ a3 a4 a5 a0 a1 a2)) := clipV_I _
  have i4 : I64 (clipV (dotZ a3 a4 a5 a3 a4 a5)) := clipV_I _
  have i5 : I64 (clipV (dotZ a3 a4 a5 a6 a7 a8)) := clipV_I _
  have i6 : I64 (clipV (dotZ a6 a7 a8 a0 a1 a2)) := clipV_I _
  have i7 : I64 (clipV (dotZ a6 a7 a8 a3 a4 a5)) := clipV_I _
  have i8 : I64 (clipV (dotZ a6 a7 a8 a6 a7 a8)) := clipV_I _
  unfold off9
  exact h_ref07_Off F hF (clipV_I _) (clipV_I _) (clipV_I _) (clipV_I _) (clipV_I _) (clipV_I _) (clipV_I _) (clipV_I _) (clipV_I _)
noncomputable def oD (a0 a1 a2 a3 a4 a5 a6 a7 a8 : Int) : Int := clipV (dotZ a3 a4 a5 (unV a0 a0 a1 a2) (unV a1 a0 a1 a2) (unV a2 a0 a1 a2))
noncomputable def oR0 (a0 a1 a2 a3 a4 a5 a6 a7 a8 : Int) : Int := clipV (a3 - clipV (pr (unV a0 a0 a1 a2) (oD a0 a1 a2 a3 a4 a5 a6 a7 a8)))
noncomputable def oR1 (a0 a1 a2 a3 a4 a5 a6 a7 a8 : Int) : Int := clipV (a4 - clipV (pr (unV a1 a0 a1 a2) (oD a0 a1 a2 a3 a4 a5 a6 a7 a8)))
noncomputable def oR2 (a0 a1 a2 a3 a4 a5 a6 a7 a8 : Int) : Int := clipV (a5 - clipV (pr (unV a2 a0 a1 a2) (oD a0 a1 a2 a3 a4 a5 a6 a7 a8)))
noncomputable def oY0 (a0 a1 a2 a3 a4 a5 a6 a7 a8 : Int) : Int := unV (oR0 a0 a1 a2 a3 a4 a5 a6 a7 a8) (oR0 a0 a1 a2 a3 a4 a5 a6 a7 a8) (oR1 a0 a1 a2 a3 a4 a5 a6 a7 a8) (oR2 a0 a1 a2 a3 a4 a5 a6 a7 a8)
noncomputable def oY1 (a0 a1 a2 a3 a4 a5 a6 a7 a8 : Int) : Int := unV (oR1 a0 a1 a2 a3 a4 a5 a6 a7 a8) (oR0 a0 a1 a2 a3 a4 a5 a6 a7 a8) (oR1 a0 a1 a2 a3 a4 a5 a6 a7 a8) (oR2 a0 a1 a2 a3 a4 a5 a6 a7 a8)
noncomputable def oY2 (a0 a1 a2 a3 a4 a5 a6 a7 a8 : Int) : Int := unV (oR2 a0 a1 a2 a3 a4 a5 a6 a7 a8) (oR0 a0 a1 a2 a3 a4 a5 a6 a7 a8) (oR1 a0 a1 a2 a3 a4 a5 a6 a7 a8) (oR2 a0 a1 a2 a3 a4 a5 a6 a7 a8)
noncomputable def oZ0 (a0 a1 a2 a3 a4 a5 a6 a7 a8 : Int) : Int := clipV (arZ (unV a1 a0 a1 a2) (oY2 a0 a1 a2 a3 a4 a5 a6 a7 a8) (unV a2 a0 a1 a2) (oY1 a0 a1 a2 a3 a4 a5 a6 a7 a8))
noncomputable def oZ1 (a0 a1 a2 a3 a4 a5 a6 a7 a8 : Int) : Int := clipV (arZ (unV a2 a0 a1 a2) (oY0 a0 a1 a2 a3 a4 a5 a6 a7 a8) (unV a0 a0 a1 a2) (oY2 a0 a1 a2 a3 a4 a5 a6 a7 a8))
noncomputable def oZ2 (a0 a1 a2 a3 a4 a5 a6 a7 a8 : Int) : Int := clipV (arZ (unV a0 a0 a1 a2) (oY1 a0 a1 a2 a3 a4 a5 a6 a7 a8) (unV a1 a0 a1 a2) (oY0 a0 a1 a2 a3 a4 a5 a6 a7 a8))
noncomputable def ortC (a0 a1 a2 a3 a4 a5 a6 a7 a8 : Int) : Bool := unitOK a0 a1 a2 && (unitOK (oR0 a0 a1 a2 a3 a4 a5 a6 a7 a8) (oR1 a0 a1 a2 a3 a4 a5 a6 a7 a8) (oR2 a0 a1 a2 a3 a4 a5 a6 a7 a8) && (!clipC (dotZ a3 a4 a5 (unV a0 a0 a1 a2) (unV a1 a0 a1 a2) (unV a2 a0 a1 a2)) && (!(clipC (pr (unV a0 a0 a1 a2) (oD a0 a1 a2 a3 a4 a5 a6 a7 a8)) || clipC (pr (unV a1 a0 a1 a2) (oD a0 a1 a2 a3 a4 a5 a6 a7 a8)) || clipC (pr (unV a2 a0 a1 a2) (oD a0 a1 a2 a3 a4 a5 a6 a7 a8))) && (!(clipC (a3 - clipV (pr (unV a0 a0 a1 a2) (oD a0 a1 a2 a3 a4 a5 a6 a7 a8))) || clipC (a4 - clipV (pr (unV a1 a0 a1 a2) (oD a0 a1 a2 a3 a4 a5 a6 a7 a8))) || clipC (a5 - clipV (pr (unV a2 a0 a1 a2) (oD a0 a1 a2 a3 a4 a5 a6 a7 a8)))) && !(clipC (arZ (unV a1 a0 a1 a2) (oY2 a0 a1 a2 a3 a4 a5 a6 a7 a8) (unV a2 a0 a1 a2) (oY1 a0 a1 a2 a3 a4 a5 a6 a7 a8)) || clipC (arZ (unV a2 a0 a1 a2) (oY0 a0 a1 a2 a3 a4 a5 a6 a7 a8) (unV a0 a0 a1 a2) (oY2 a0 a1 a2 a3 a4 a5 a6 a7 a8)) || clipC (arZ (unV a0 a0 a1 a2) (oY1 a0 a1 a2 a3 a4 a5 a6 a7 a8) (unV a1 a0 a1 a2) (oY0 a0 a1 a2 a3 a4 a5 a6 a7 a8)))))))
noncomputable def ort0 (a0 a1 a2 a3 a4 a5 a6 a7 a8 : Int) : Int := if ortC a0 a1 a2 a3 a4 a5 a6 a7 a8 = true then (unV a0 a0 a1 a2) else 4294967296
noncomputable def ort1 (a0 a1 a2 a3 a4 a5 a6 a7 a8 : Int) : Int := if ortC a0 a1 a2 a3 a4 a5 a6 a7 a8 = true then (unV a1 a0 a1 a2) else 0
noncomputable def ort2 (a0 a1 a2 a3 a4 a5 a6 a7 a8 : Int) : Int := if ortC a0 a1 a2 a3 a4 a5 a6 a7 a8 = true then (unV a2 a0 a1 a2) else 0
noncomputable def ort3 (a0 a1 a2 a3 a4 a5 a6 a7 a8 : Int) : Int := if ortC a0 a1 a2 a3 a4 a5 a6 a7 a8 = true then (oY0 a0 a1 a2 a3 a4 a5 a6 a7 a8) else 0
noncomputable def ort4 (a0 a1 a2 a3 a4 a5 a6 a7 a8 : Int) : Int := if ortC a0 a1 a2 a3 a4 a5 a6 a7 a8 = true then (oY1 a0 a1 a2 a3 a4 a5 a6 a7 a8) else 4294967296
noncomputable def ort5 (a0 a1 a2 a3 a4 a5 a6 a7 a8 : Int) : Int := if ortC a0 a1 a2 a3 a4 a5 a6 a7 a8 = true then (oY2 a0 a1 a2 a3 a4 a5 a6 a7 a8) else 0
noncomputable def ort6 (a0 a1 a2 a3 a4 a5 a6 a7 a8 : Int) : Int := if ortC a0 a1 a2 a3 a4 a5 a6 a7 a8 = true then (oZ0 a0 a1 a2 a3 a4 a5 a6 a7 a8) else 0
noncomputable def ort7 (a0 a1 a2 a3 a4 a5 a6 a7 a8 : Int) : Int := if ortC a0 a1 a2 a3 a4 a5 a6 a7 a8 = true then (oZ1 a0 a1 a2 a3 a4 a5 a6 a7 a8) else 0
noncomputable def ort8 (a0 a1 a2 a3 a4 a5 a6 a7 a8 : Int) : Int := if ortC a0 a1 a2 a3 a4 a5 a6 a7 a8 = true then (oZ2 a0 a1 a2 a3 a4 a5 a6 a7 a8) else 4294967296
theorem fdivV_I (a b : Int) : I64 (fdivV a b) := by
  unfold fdivV
  split
  · unfold I64; split <;> (try split) <;> omega
  · exact clipV_I _
theorem unV_I (k a b c : Int) : I64 (unV k a b c) := by
  unfold unV
  split
  · exact fdivV_I _ _
  · unfold I64; omega
theorem some_mat {x0 x1 x2 x3 x4 x5 x6 x7 x8 y0 y1 y2 y3 y4 y5 y6 y7 y8 : Int} {c d : Bool} (h0 : x0 = y0) (h1 : x1 = y1) (h2 : x2 = y2) (h3 : x3 = y3) (h4 : x4 = y4) (h5 : x5 = y5) (h6 : x6 = y6) (h7 : x7 = y7) (h8 : x8 = y8) (h : c = d) : (some (VV.v (.tuple #[.agg #[.int .i64 x0, .int .i64 x1, .int .i64 x2, .int .i64 x3, .int .i64 x4, .int .i64 x5, .int .i64 x6, .int .i64 x7, .int .i64 x8], .bool c])) : R) = some (.v (.tuple #[.agg #[.int .i64 y0, .int .i64 y1, .int .i64 y2, .int .i64 y3, .int .i64 y4, .int .i64 y5, .int .i64 y6, .int .i64 y7, .int .i64 y8], .bool d])) := by
  rw [h0, h1, h2, h3, h4, h5, h6, h7, h8, h]
theorem ort_no {a0 a1 a2 a3 a4 a5 a6 a7 a8 : Int} (h : ortC a0 a1 a2 a3 a4 a5 a6 a7 a8 = false) : (some (VV.v (.tuple #[.agg #[.int .i64 4294967296, .int .i64 0, .int .i64 0, .int .i64 0, .int .i64 4294967296, .int .i64 0, .int .i64 0, .int .i64 0, .int .i64 4294967296], .bool false])) : R) = some (.v (.tuple #[.agg #[.int .i64 (ort0 a0 a1 a2 a3 a4 a5 a6 a7 a8), .int .i64 (ort1 a0 a1 a2 a3 a4 a5 a6 a7 a8), .int .i64 (ort2 a0 a1 a2 a3 a4 a5 a6 a7 a8), .int .i64 (ort3 a0 a1 a2 a3 a4 a5 a6 a7 a8), .int .i64 (ort4 a0 a1 a2 a3 a4 a5 a6 a7 a8), .int .i64 (ort5 a0 a1 a2 a3 a4 a5 a6 a7 a8), .int .i64 (ort6 a0 a1 a2 a3 a4 a5 a6 a7 a8), .int .i64 (ort7 a0 a1 a2 a3 a4 a5 a6 a7 a8), .int .i64 (ort8 a0 a1 a2 a3 a4 a5 a6 a7 a8)], .bool (ortC a0 a1 a2 a3 a4 a5 a6 a7 a8)])) := by
  refine some_mat ?_ ?_ ?_ ?_ ?_ ?_ ?_ ?_ ?_ h.symm
  · unfold ort0; rw [h]; rfl
  · unfold ort1; rw [h]; rfl
  · unfold ort2; rw [h]; rfl
  · unfold ort3; rw [h]; rfl
  · unfold ort4; rw [h]; rfl
  · unfold ort5; rw [h]; rfl
  · unfold ort6; rw [h]; rfl
  · unfold ort7; rw [h]; rfl
  · unfold ort8; rw [h]; rfl
theorem ort_yes {a0 a1 a2 a3 a4 a5 a6 a7 a8 : Int} (h : ortC a0 a1 a2 a3 a4 a5 a6 a7 a8 = true) : (some (VV.v (.tuple #[.agg #[.int .i64 (unV a0 a0 a1 a2), .int .i64 (unV a1 a0 a1 a2), .int .i64 (unV a2 a0 a1 a2), .int .i64 (oY0 a0 a1 a2 a3 a4 a5 a6 a7 a8), .int .i64 (oY1 a0 a1 a2 a3 a4 a5 a6 a7 a8), .int .i64 (oY2 a0 a1 a2 a3 a4 a5 a6 a7 a8), .int .i64 (oZ0 a0 a1 a2 a3 a4 a5 a6 a7 a8), .int .i64 (oZ1 a0 a1 a2 a3 a4 a5 a6 a7 a8), .int .i64 (oZ2 a0 a1 a2 a3 a4 a5 a6 a7 a8)], .bool true])) : R) = some (.v (.tuple #[.agg #[.int .i64 (ort0 a0 a1 a2 a3 a4 a5 a6 a7 a8), .int .i64 (ort1 a0 a1 a2 a3 a4 a5 a6 a7 a8), .int .i64 (ort2 a0 a1 a2 a3 a4 a5 a6 a7 a8), .int .i64 (ort3 a0 a1 a2 a3 a4 a5 a6 a7 a8), .int .i64 (ort4 a0 a1 a2 a3 a4 a5 a6 a7 a8), .int .i64 (ort5 a0 a1 a2 a3 a4 a5 a6 a7 a8), .int .i64 (ort6 a0 a1 a2 a3 a4 a5 a6 a7 a8), .int .i64 (ort7 a0 a1 a2 a3 a4 a5 a6 a7 a8), .int .i64 (ort8 a0 a1 a2 a3 a4 a5 a6 a7 a8)], .bool (ortC a0 a1 a2 a3 a4 a5 a6 a7 a8)])) := by
  refine some_mat ?_ ?_ ?_ ?_ ?_ ?_ ?_ ?_ ?_ h.symm
  · unfold ort0; rw [if_pos h]
  · unfold ort1; rw [if_pos h]
  · unfold ort2; rw [if_pos h]
  · unfold ort3; rw [if_pos h]
  · unfold ort4; rw [if_pos h]
  · unfold ort5; rw [if_pos h]
  · unfold ort6; rw [if_pos h]
  · unfold ort7; rw [if_pos h]
  · unfold ort8; rw [if_pos h]
theorem f_mat_Ortho' (F : Nat) (hF : 200 ≤ F) {a0 a1 a2 a3 a4 a5 a6 a7 a8 : Int} (ha0 : I64 a0) (ha1 : I64 a1) (ha2 : I64 a2) (ha3 : I64 a3) (ha4 : I64 a4) (ha5 : I64 a5) (ha6 : I64 a6) (ha7 : I64 a7) (ha8 : I64 a8) : f_bb F a0 a1 a2 a3 a4 a5 a6 a7 a8 = some (.v (.tuple #[.agg #[.int .i64 (ort0 a0 a1 a2 a3 a4 a5 a6 a7 a8), .int .i64 (ort1 a0 a1 a2 a3 a4 a5 a6 a7 a8), .int .i64 (ort2 a0 a1 a2 a3 a4 a5 a6 a7 a8), .int .i64 (ort3 a0 a1 a2 a3 a4 a5 a6 a7 a8), .int .i64 (ort4 a0 a1 a2 a3 a4 a5 a6 a7 a8), .int .i64 (ort5 a0 a1 a2 a3 a4 a5 a6 a7 a8), .int .i64 (ort6 a0 a1 a2 a3 a4 a5 a6 a7 a8), .int .i64 (ort7 a0 a1 a2 a3 a4 a5 a6 a7 a8), .int .i64 (ort8 a0 a1 a2 a3 a4 a5 a6 a7 a8)], .bool (ortC a0 a1 a2 a3 a4 a5 a6 a7 a8)])) := by
  unfold f_bb fg_bb
  obtain ⟨u0, u1, u2, u3, u4⟩ := a_vUnit F hF ha0 ha1 ha2
  obtain ⟨s0_, ss0, ss1, ss2, ss3, ss4, ss5, ss6, ss7, ss8⟩ := a_mSame F hF
  have no := fun h => ort_no (a0 := a0) (a1 := a1) (a2 := a2) (a3 := a3) (a4 := a4) (a5 := a5) (a6 := a6) (a7 := a7) (a8 := a8) h
  have yes := fun h => ort_yes (a0 := a0) (a1 := a1) (a2 := a2) (a3 := a3) (a4 := a4) (a5 := a5) (a6 := a6) (a7 := a7) (a8 := a8) h
  have dx0 := unV_I a0 a0 a1 a2
  have dx1 := unV_I a1 a0 a1 a2
  have dx2 := unV_I a2 a0 a1 a2
  obtain ⟨d0, d1, d2⟩ := a_Dot F hF ha3 ha4 ha5 dx0 dx1 dx2
  obtain ⟨c0, c1, c2, c3, c4⟩ := a_Scale F hF dx0 dx1 dx2 (clipV_I (dotZ a3 a4 a5 (unV a0 a0 a1 a2) (unV a1 a0 a1 a2) (unV a2 a0 a1 a2)))
  obtain ⟨b0, b1, b2, b3, b4⟩ := a_Sub F hF ha3 ha4 ha5 (clipV_I (pr (unV a0 a0 a1 a2) (clipV (dotZ a3 a4 a5 (unV a0 a0 a1 a2) (unV a1 a0 a1 a2) (unV a2 a0 a1 a2))))) (clipV_I (pr (unV a1 a0 a1 a2) (clipV (dotZ a3 a4 a5 (unV a0 a0 a1 a2) (unV a1 a0 a1 a2) (unV a2 a0 a1 a2))))) (clipV_I (pr (unV a2 a0 a1 a2) (clipV (dotZ a3 a4 a5 (unV a0 a0 a1 a2) (unV a1 a0 a1 a2) (unV a2 a0 a1 a2)))))
  obtain ⟨v0, v1, v2, v3, v4⟩ := a_vUnit F hF (clipV_I (a3 - clipV (pr (unV a0 a0 a1 a2) (clipV (dotZ a3 a4 a5 (unV a0 a0 a1 a2) (unV a1 a0 a1 a2) (unV a2 a0 a1 a2)))))) (clipV_I (a4 - clipV (pr (unV a1 a0 a1 a2) (clipV (dotZ a3 a4 a5 (unV a0 a0 a1 a2) (unV a1 a0 a1 a2) (unV a2 a0 a1 a2)))))) (clipV_I (a5 - clipV (pr (unV a2 a0 a1 a2) (clipV (dotZ a3 a4 a5 (unV a0 a0 a1 a2) (unV a1 a0 a1 a2) (unV a2 a0 a1 a2))))))
  obtain ⟨k0, k1, k2, k3, k4⟩ := a_Cross F hF dx0 dx1 dx2 (unV_I (clipV (a3 - clipV (pr (unV a0 a0 a1 a2) (clipV (dotZ a3 a4 a5 (unV a0 a0 a1 a2) (unV a1 a0 a1 a2) (unV a2 a0 a1 a2)))))) (clipV (a3 - clipV (pr (unV a0 a0 a1 a2) (clipV (dotZ a3 a4 a5 (unV a0 a0 a1 a2) (unV a1 a0 a1 a2) (unV a2 a0 a1 a2)))))) (clipV (a4 - clipV (pr (unV a1 a0 a1 a2) (clipV (dotZ a3 a4 a5 (unV a0 a0 a1 a2) (unV a1 a0 a1 a2) (unV a2 a0 a1 a2)))))) (clipV (a5 - clipV (pr (unV a2 a0 a1 a2) (clipV (dotZ a3 a4 a5 (unV a0 a0 a1 a2) (unV a1 a0 a1 a2) (unV a2 a0 a1 a2))))))) (unV_I (clipV (a4 - clipV (pr (unV a1 a0 a1 a2) (clipV (dotZ a3 a4 a5 (unV a0 a0 a1 a2) (unV a1 a0 a1 a2) (unV a2 a0 a1 a2)))))) (clipV (a3 - clipV (pr (unV a0 a0 a1 a2) (clipV (dotZ a3 a4 a5 (unV a0 a0 a1 a2) (unV a1 a0 a1 a2) (unV a2 a0 a1 a2)))))) (clipV (a4 - clipV (pr (unV a1 a0 a1 a2) (clipV (dotZ a3 a4 a5 (unV a0 a0 a1 a2) (unV a1 a0 a1 a2) (unV a2 a0 a1 a2)))))) (clipV (a5 - clipV (pr (unV a2 a0 a1 a2) (clipV (dotZ a3 a4 a5 (unV a0 a0 a1 a2) (unV a1 a0 a1 a2) (unV a2 a0 a1 a2))))))) (unV_I (clipV (a5 - clipV (pr (unV a2 a0 a1 a2) (clipV (dotZ a3 a4 a5 (unV a0 a0 a1 a2) (unV a1 a0 a1 a2) (unV a2 a0 a1 a2)))))) (clipV (a3 - clipV (pr (unV a0 a0 a1 a2) (clipV (dotZ a3 a4 a5 (unV a0 a0 a1 a2) (unV a1 a0 a1 a2) (unV a2 a0 a1 a2)))))) (clipV (a4 - clipV (pr (unV a1 a0 a1 a2) (clipV (dotZ a3 a4 a5 (unV a0 a0 a1 a2) (unV a1 a0 a1 a2) (unV a2 a0 a1 a2)))))) (clipV (a5 - clipV (pr (unV a2 a0 a1 a2) (clipV (dotZ a3 a4 a5 (unV a0 a0 a1 a2) (unV a1 a0 a1 a2) (unV a2 a0 a1 a2)))))))
  refine bp u0 ?_
  rw [u1, u2, u3, u4]
  cases q0 : unitOK a0 a1 a2 with
  | false => exact bp rfl (bp s0_ (by rw [ss0, ss1, ss2, ss3, ss4, ss5, ss6, ss7, ss8]; exact no (by unfold ortC; rw [q0]; rfl)))
  | true =>
    refine bn rfl (bp d0 ?_)
    rw [d1, d2]
    refine bp c0 ?_
    rw [c1, c2, c3, c4]
    refine bp b0 ?_
    rw [b1, b2, b3, b4]
    refine bp v0 ?_
    rw [v1, v2, v3, v4]
    have eo : ortC a0 a1 a2 a3 a4 a5 a6 a7 a8 = (true && ((unitOK (clipV (a3 - clipV (pr (unV a0 a0 a1 a2) (clipV (dotZ a3 a4 a5 (unV a0 a0 a1 a2) (unV a1 a0 a1 a2) (unV a2 a0 a1 a2)))))) (clipV (a4 - clipV (pr (unV a1 a0 a1 a2) (clipV (dotZ a3 a4 a5 (unV a0 a0 a1 a2) (unV a1 a0 a1 a2) (unV a2 a0 a1 a2)))))) (clipV (a5 - clipV (pr (unV a2 a0 a1 a2) (clipV (dotZ a3 a4 a5 (unV a0 a0 a1 a2) (unV a1 a0 a1 a2) (unV a2 a0 a1 a2))))))) && (!clipC (dotZ a3 a4 a5 (unV a0 a0 a1 a2) (unV a1 a0 a1 a2) (unV a2 a0 a1 a2)) && (!(clipC (pr (unV a0 a0 a1 a2) (clipV (dotZ a3 a4 a5 (unV a0 a0 a1 a2) (unV a1 a0 a1 a2) (unV a2 a0 a1 a2)))) || clipC (pr (unV a1 a0 a1 a2) (clipV (dotZ a3 a4 a5 (unV a0 a0 a1 a2) (unV a1 a0 a1 a2) (unV a2 a0 a1 a2)))) || clipC (pr (unV a2 a0 a1 a2) (clipV (dotZ a3 a4 a5 (unV a0 a0 a1 a2) (unV a1 a0 a1 a2) (unV a2 a0 a1 a2))))) && (!(clipC (a3 - clipV (pr (unV a0 a0 a1 a2) (clipV (dotZ a3 a4 a5 (unV a0 a0 a1 a2) (unV a1 a0 a1 a2) (unV a2 a0 a1 a2))))) || clipC (a4 - clipV (pr (unV a1 a0 a1 a2) (clipV (dotZ a3 a4 a5 (unV a0 a0 a1 a2) (unV a1 a0 a1 a2) (unV a2 a0 a1 a2))))) || clipC (a5 - clipV (pr (unV a2 a0 a1 a2) (clipV (dotZ a3 a4 a5 (unV a0 a0 a1 a2) (unV a1 a0 a1 a2) (unV a2 a0 a1 a2)))))) && !(clipC (arZ (unV a1 a0 a1 a2) (unV (clipV (a5 - clipV (pr (unV a2 a0 a1 a2) (clipV (dotZ a3 a4 a5 (unV a0 a0 a1 a2) (unV a1 a0 a1 a2) (unV a2 a0 a1 a2)))))) (clipV (a3 - clipV (pr (unV a0 a0 a1 a2) (clipV (dotZ a3 a4 a5 (unV a0 a0 a1 a2) (unV a1 a0 a1 a2) (unV a2 a0 a1 a2)))))) (clipV (a4 - clipV (pr (unV a1 a0 a1 a2) (clipV (dotZ a3 a4 a5 (unV a0 a0 a1 a2) (unV a1 a0 a1 a2) (unV a2 a0 a1 a2)))))) (clipV (a5 - clipV (pr (unV a2 a0 a1 a2) (clipV (dotZ a3 a4 a5 (unV a0 a0 a1 a2) (unV a1 a0 a1 a2) (unV a2 a0 a1 a2))))))) (unV a2 a0 a1 a2) (unV (clipV (a4 - clipV (pr (unV a1 a0 a1 a2) (clipV (dotZ a3 a4 a5 (unV a0 a0 a1 a2) (unV a1 a0 a1 a2) (unV a2 a0 a1 a2)))))) (clipV (a3 - clipV (pr (unV a0 a0 a1 a2) (clipV (dotZ a3 a4 a5 (unV a0 a0 a1 a2) (unV a1 a0 a1 a2) (unV a2 a0 a1 a2)))))) (clipV (a4 - clipV (pr (unV a1 a0 a1 a2) (clipV (dotZ a3 a4 a5 (unV a0 a0 a1 a2) (unV a1 a0 a1 a2) (unV a2 a0 a1 a2)))))) (clipV (a5 - clipV (pr (unV a2 a0 a1 a2) (clipV (dotZ a3 a4 a5 (unV a0 a0 a1 a2) (unV a1 a0 a1 a2) (unV a2 a0 a1 a2)))))))) || clipC (arZ (unV a2 a0 a1 a2) (unV (clipV (a3 - clipV (pr (unV a0 a0 a1 a2) (clipV (dotZ a3 a4 a5 (unV a0 a0 a1 a2) (unV a1 a0 a1 a2) (unV a2 a0 a1 a2)))))) (clipV (a3 - clipV (pr (unV a0 a0 a1 a2) (clipV (dotZ a3 a4 a5 (unV a0 a0 a1 a2) (unV a1 a0 a1 a2) (unV a2 a0 a1 a2)))))) (clipV (a4 - clipV (pr (unV a1 a0 a1 a2) (clipV (dotZ a3 a4 a5 (unV a0 a0 a1 a2) (unV a1 a0 a1 a2) (unV a2 a0 a1 a2)))))) (clipV (a5 - clipV (pr (unV a2 a0 a1 a2) (clipV (dotZ a3 a4 a5 (unV a0 a0 a1 a2) (unV a1 a0 a1 a2) (unV a2 a0 a1 a2))))))) (unV a0 a0 a1 a2) (unV (clipV (a5 - clipV (pr (unV a2 a0 a1 a2) (clipV (dotZ a3 a4 a5 (unV a0 a0 a1 a2) (unV a1 a0 a1 a2) (unV a2 a0 a1 a2)))))) (clipV (a3 - clipV (pr (unV a0 a0 a1 a2) (clipV (dotZ a3 a4 a5 (unV a0 a0 a1 a2) (unV a1 a0 a1 a2) (unV a2 a0 a1 a2)))))) (clipV (a4 - clipV (pr (unV a1 a0 a1 a2) (clipV (dotZ a3 a4 a5 (unV a0 a0 a1 a2) (unV a1 a0 a1 a2) (unV a2 a0 a1 a2)))))) (clipV (a5 - clipV (pr (unV a2 a0 a1 a2) (clipV (dotZ a3 a4 a5 (unV a0 a0 a1 a2) (unV a1 a0 a1 a2) (unV a2 a0 a1 a2)))))))) || clipC (arZ (unV a0 a0 a1 a2) (unV (clipV (a4 - clipV (pr (unV a1 a0 a1 a2) (clipV (dotZ a3 a4 a5 (unV a0 a0 a1 a2) (unV a1 a0 a1 a2) (unV a2 a0 a1 a2)))))) (clipV (a3 - clipV (pr (unV a0 a0 a1 a2) (clipV (dotZ a3 a4 a5 (unV a0 a0 a1 a2) (unV a1 a0 a1 a2) (unV a2 a0 a1 a2)))))) (clipV (a4 - clipV (pr (unV a1 a0 a1 a2) (clipV (dotZ a3 a4 a5 (unV a0 a0 a1 a2) (unV a1 a0 a1 a2) (unV a2 a0 a1 a2)))))) (clipV (a5 - clipV (pr (unV a2 a0 a1 a2) (clipV (dotZ a3 a4 a5 (unV a0 a0 a1 a2) (unV a1 a0 a1 a2) (unV a2 a0 a1 a2))))))) (unV a1 a0 a1 a2) (unV (clipV (a3 - clipV (pr (unV a0 a0 a1 a2) (clipV (dotZ a3 a4 a5 (unV a0 a0 a1 a2) (unV a1 a0 a1 a2) (unV a2 a0 a1 a2)))))) (clipV (a3 - clipV (pr (unV a0 a0 a1 a2) (clipV (dotZ a3 a4 a5 (unV a0 a0 a1 a2) (unV a1 a0 a1 a2) (unV a2 a0 a1 a2)))))) (clipV (a4 - clipV (pr (unV a1 a0 a1 a2) (clipV (dotZ a3 a4 a5 (unV a0 a0 a1 a2) (unV a1 a0 a1 a2) (unV a2 a0 a1 a2)))))) (clipV (a5 - clipV (pr (unV a2 a0 a1 a2) (clipV (dotZ a3 a4 a5 (unV a0 a0 a1 a2) (unV a1 a0 a1 a2) (unV a2 a0 a1 a2)))))))))))))) := by rw [← q0]; rfl
    refine bp k0 ?_
    rw [k1, k2, k3, k4]
    cases q1 : (unitOK (clipV (a3 - clipV (pr (unV a0 a0 a1 a2) (clipV (dotZ a3 a4 a5 (unV a0 a0 a1 a2) (unV a1 a0 a1 a2) (unV a2 a0 a1 a2)))))) (clipV (a4 - clipV (pr (unV a1 a0 a1 a2) (clipV (dotZ a3 a4 a5 (unV a0 a0 a1 a2) (unV a1 a0 a1 a2) (unV a2 a0 a1 a2)))))) (clipV (a5 - clipV (pr (unV a2 a0 a1 a2) (clipV (dotZ a3 a4 a5 (unV a0 a0 a1 a2) (unV a1 a0 a1 a2) (unV a2 a0 a1 a2))))))) with
    | false => exact bp rfl (bp s0_ (by rw [ss0, ss1, ss2, ss3, ss4, ss5, ss6, ss7, ss8]; exact no (by rw [eo, q1]; simp)))
    | true =>
      refine bn rfl ?_
      cases q2 : clipC (dotZ a3 a4 a5 (unV a0 a0 a1 a2) (unV a1 a0 a1 a2) (unV a2 a0 a1 a2)) with
      | true => exact bp rfl (bp s0_ (by rw [ss0, ss1, ss2, ss3, ss4, ss5, ss6, ss7, ss8]; exact no (by rw [eo, q2]; simp)))
      | false =>
        refine bn rfl ?_
        cases q3 : (clipC (pr (unV a0 a0 a1 a2) (clipV (dotZ a3 a4 a5 (unV a0 a0 a1 a2) (unV a1 a0 a1 a2) (unV a2 a0 a1 a2)))) || clipC (pr (unV a1 a0 a1 a2) (clipV (dotZ a3 a4 a5 (unV a0 a0 a1 a2) (unV a1 a0 a1 a2) (unV a2 a0 a1 a2)))) || clipC (pr (unV a2 a0 a1 a2) (clipV (dotZ a3 a4 a5 (unV a0 a0 a1 a2) (unV a1 a0 a1 a2) (unV a2 a0 a1 a2))))) with
        | true => exact bp rfl (bp s0_ (by rw [ss0, ss1, ss2, ss3, ss4, ss5, ss6, ss7, ss8]; exact no (by rw [eo, q3]; simp)))
        | false =>
          refine bn rfl ?_
          cases q4 : (clipC (a3 - clipV (pr (unV a0 a0 a1 a2) (clipV (dotZ a3 a4 a5 (unV a0 a0 a1 a2) (unV a1 a0 a1 a2) (unV a2 a0 a1 a2))))) || clipC (a4 - clipV (pr (unV a1 a0 a1 a2) (clipV (dotZ a3 a4 a5 (unV a0 a0 a1 a2) (unV a1 a0 a1 a2) (unV a2 a0 a1 a2))))) || clipC (a5 - clipV (pr (unV a2 a0 a1 a2) (clipV (dotZ a3 a4 a5 (unV a0 a0 a1 a2) (unV a1 a0 a1 a2) (unV a2 a0 a1 a2)))))) with
          | true => exact bp rfl (bp s0_ (by rw [ss0, ss1, ss2, ss3, ss4, ss5, ss6, ss7, ss8]; exact no (by rw [eo, q4]; simp)))
          | false =>
            refine bn rfl ?_
            cases q5 : (clipC (arZ (unV a1 a0 a1 a2) (unV (clipV (a5 - clipV (pr (unV a2 a0 a1 a2) (clipV (dotZ a3 a4 a5 (unV a0 a0 a1 a2) (unV a1 a0 a1 a2) (unV a2 a0 a1 a2)))))) (clipV (a3 - clipV (pr (unV a0 a0 a1 a2) (clipV (dotZ a3 a4 a5 (unV a0 a0 a1 a2) (unV a1 a0 a1 a2) (unV a2 a0 a1 a2)))))) (clipV (a4 - clipV (pr (unV a1 a0 a1 a2) (clipV (dotZ a3 a4 a5 (unV a0 a0 a1 a2) (unV a1 a0 a1 a2) (unV a2 a0 a1 a2)))))) (clipV (a5 - clipV (pr (unV a2 a0 a1 a2) (clipV (dotZ a3 a4 a5 (unV a0 a0 a1 a2) (unV a1 a0 a1 a2) (unV a2 a0 a1 a2))))))) (unV a2 a0 a1 a2) (unV (clipV (a4 - clipV (pr (unV a1 a0 a1 a2) (clipV (dotZ a3 a4 a5 (unV a0 a0 a1 a2) (unV a1 a0 a1 a2) (unV a2 a0 a1 a2)))))) (clipV (a3 - clipV (pr (unV a0 a0 a1 a2) (clipV (dotZ a3 a4 a5 (unV a0 a0 a1 a2) (unV a1 a0 a1 a2) (unV a2 a0 a1 a2)))))) (clipV (a4 - clipV (pr (unV a1 a0 a1 a2) (clipV (dotZ a3 a4 a5 (unV a0 a0 a1 a2) (unV a1 a0 a1 a2) (unV a2 a0 a1 a2)))))) (clipV (a5 - clipV (pr (unV a2 a0 a1 a2) (clipV (dotZ a3 a4 a5 (unV a0 a0 a1 a2) (unV a1 a0 a1 a2) (unV a2 a0 a1 a2)))))))) || clipC (arZ (unV a2 a0 a1 a2) (unV (clipV (a3 - clipV (pr (unV a0 a0 a1 a2) (clipV (dotZ a3 a4 a5 (unV a0 a0 a1 a2) (unV a1 a0 a1 a2) (unV a2 a0 a1 a2)))))) (clipV (a3 - clipV (pr (unV a0 a0 a1 a2) (clipV (dotZ a3 a4 a5 (unV a0 a0 a1 a2) (unV a1 a0 a1 a2) (unV a2 a0 a1 a2)))))) (clipV (a4 - clipV (pr (unV a1 a0 a1 a2) (clipV (dotZ a3 a4 a5 (unV a0 a0 a1 a2) (unV a1 a0 a1 a2) (unV a2 a0 a1 a2)))))) (clipV (a5 - clipV (pr (unV a2 a0 a1 a2) (clipV (dotZ a3 a4 a5 (unV a0 a0 a1 a2) (unV a1 a0 a1 a2) (unV a2 a0 a1 a2))))))) (unV a0 a0 a1 a2) (unV (clipV (a5 - clipV (pr (unV a2 a0 a1 a2) (clipV (dotZ a3 a4 a5 (unV a0 a0 a1 a2) (unV a1 a0 a1 a2) (unV a2 a0 a1 a2)))))) (clipV (a3 - clipV (pr (unV a0 a0 a1 a2) (clipV (dotZ a3 a4 a5 (unV a0 a0 a1 a2) (unV a1 a0 a1 a2) (unV a2 a0 a1 a2)))))) (clipV (a4 - clipV (pr (unV a1 a0 a1 a2) (clipV (dotZ a3 a4 a5 (unV a0 a0 a1 a2) (unV a1 a0 a1 a2) (unV a2 a0 a1 a2)))))) (clipV (a5 - clipV (pr (unV a2 a0 a1 a2) (clipV (dotZ a3 a4 a5 (unV a0 a0 a1 a2) (unV a1 a0 a1 a2) (unV a2 a0 a1 a2)))))))) || clipC (arZ (unV a0 a0 a1 a2) (unV (clipV (a4 - clipV (pr (unV a1 a0 a1 a2) (clipV (dotZ a3 a4 a5 (unV a0 a0 a1 a2) (unV a1 a0 a1 a2) (unV a2 a0 a1 a2)))))) (clipV (a3 - clipV (pr (unV a0 a0 a1 a2) (clipV (dotZ a3 a4 a5 (unV a0 a0 a1 a2) (unV a1 a0 a1 a2) (unV a2 a0 a1 a2)))))) (clipV (a4 - clipV (pr (unV a1 a0 a1 a2) (clipV (dotZ a3 a4 a5 (unV a0 a0 a1 a2) (unV a1 a0 a1 a2) (unV a2 a0 a1 a2)))))) (clipV (a5 - clipV (pr (unV a2 a0 a1 a2) (clipV (dotZ a3 a4 a5 (unV a0 a0 a1 a2) (unV a1 a0 a1 a2) (unV a2 a0 a1 a2))))))) (unV a1 a0 a1 a2) (unV (clipV (a3 - clipV (pr (unV a0 a0 a1 a2) (clipV (dotZ a3 a4 a5 (unV a0 a0 a1 a2) (unV a1 a0 a1 a2) (unV a2 a0 a1 a2)))))) (clipV (a3 - clipV (pr (unV a0 a0 a1 a2) (clipV (dotZ a3 a4 a5 (unV a0 a0 a1 a2) (unV a1 a0 a1 a2) (unV a2 a0 a1 a2)))))) (clipV (a4 - clipV (pr (unV a1 a0 a1 a2) (clipV (dotZ a3 a4 a5 (unV a0 a0 a1 a2) (unV a1 a0 a1 a2) (unV a2 a0 a1 a2)))))) (clipV (a5 - clipV (pr (unV a2 a0 a1 a2) (clipV (dotZ a3 a4 a5 (unV a0 a0 a1 a2) (unV a1 a0 a1 a2) (unV a2 a0 a1 a2))))))))) with
            | true => exact bp rfl (bp s0_ (by rw [ss0, ss1, ss2, ss3, ss4, ss5, ss6, ss7, ss8]; exact no (by rw [eo, q5]; simp)))
            | false =>
              refine bn rfl ?_
              exact yes (by rw [eo, q1, q2, q3, q4, q5]; rfl)
theorem a_mat_Ortho (F : Nat) (hF : 200 ≤ F) {a0 a1 a2 a3 a4 a5 a6 a7 a8 : Int} (ha0 : I64 a0) (ha1 : I64 a1) (ha2 : I64 a2) (ha3 : I64 a3) (ha4 : I64 a4) (ha5 : I64 a5) (ha6 : I64 a6) (ha7 : I64 a7) (ha8 : I64 a8) : ok_bb F a0 a1 a2 a3 a4 a5 a6 a7 a8 = true ∧ o_bb_0 F a0 a1 a2 a3 a4 a5 a6 a7 a8 = ort0 a0 a1 a2 a3 a4 a5 a6 a7 a8 ∧ o_bb_1 F a0 a1 a2 a3 a4 a5 a6 a7 a8 = ort1 a0 a1 a2 a3 a4 a5 a6 a7 a8 ∧ o_bb_2 F a0 a1 a2 a3 a4 a5 a6 a7 a8 = ort2 a0 a1 a2 a3 a4 a5 a6 a7 a8 ∧ o_bb_3 F a0 a1 a2 a3 a4 a5 a6 a7 a8 = ort3 a0 a1 a2 a3 a4 a5 a6 a7 a8 ∧ o_bb_4 F a0 a1 a2 a3 a4 a5 a6 a7 a8 = ort4 a0 a1 a2 a3 a4 a5 a6 a7 a8 ∧ o_bb_5 F a0 a1 a2 a3 a4 a5 a6 a7 a8 = ort5 a0 a1 a2 a3 a4 a5 a6 a7 a8 ∧ o_bb_6 F a0 a1 a2 a3 a4 a5 a6 a7 a8 = ort6 a0 a1 a2 a3 a4 a5 a6 a7 a8 ∧ o_bb_7 F a0 a1 a2 a3 a4 a5 a6 a7 a8 = ort7 a0 a1 a2 a3 a4 a5 a6 a7 a8 ∧ o_bb_8 F a0 a1 a2 a3 a4 a5 a6 a7 a8 = ort8 a0 a1 a2 a3 a4 a5 a6 a7 a8 ∧ o_bb_9 F a0 a1 a2 a3 a4 a5 a6 a7 a8 = ortC a0 a1 a2 a3 a4 a5 a6 a7 a8 := k_bb F _ _ _ _ _ _ _ _ _ (f_mat_Ortho' F hF ha0 ha1 ha2 ha3 ha4 ha5 ha6 ha7 ha8)
theorem f_ref07_Ortho' (F : Nat) (hF : 200 ≤ F) {a0 a1 a2 a3 a4 a5 a6 a7 a8 : Int} (ha0 : I64 a0) (ha1 : I64 a1) (ha2 : I64 a2) (ha3 : I64 a3) (ha4 : I64 a4) (ha5 : I64 a5) (ha6 : I64 a6) (ha7 : I64 a7) (ha8 : I64 a8) : f_v F a0 a1 a2 a3 a4 a5 a6 a7 a8 = some (.v (.tuple #[.agg #[.int .i64 (ort0 a0 a1 a2 a3 a4 a5 a6 a7 a8), .int .i64 (ort1 a0 a1 a2 a3 a4 a5 a6 a7 a8), .int .i64 (ort2 a0 a1 a2 a3 a4 a5 a6 a7 a8), .int .i64 (ort3 a0 a1 a2 a3 a4 a5 a6 a7 a8), .int .i64 (ort4 a0 a1 a2 a3 a4 a5 a6 a7 a8), .int .i64 (ort5 a0 a1 a2 a3 a4 a5 a6 a7 a8), .int .i64 (ort6 a0 a1 a2 a3 a4 a5 a6 a7 a8), .int .i64 (ort7 a0 a1 a2 a3 a4 a5 a6 a7 a8), .int .i64 (ort8 a0 a1 a2 a3 a4 a5 a6 a7 a8)], .bool (ortC a0 a1 a2 a3 a4 a5 a6 a7 a8)])) := by
  unfold f_v fg_v
  obtain ⟨u0, u1, u2, u3, u4⟩ := a_r6Unit F hF ha0 ha1 ha2
  obtain ⟨s0_, ss0, ss1, ss2, ss3, ss4, ss5, ss6, ss7, ss8⟩ := a_rSame F
  have no := fun h => ort_no (a0 := a0) (a1 := a1) (a2 := a2) (a3 := a3) (a4 := a4) (a5 := a5) (a6 := a6) (a7 := a7) (a8 := a8) h
  have yes := fun h => ort_yes (a0 := a0) (a1 := a1) (a2 := a2) (a3 := a3) (a4 := a4) (a5 := a5) (a6 := a6) (a7 := a7) (a8 := a8) h
  have dx0 := unV_I a0 a0 a1 a2
  have dx1 := unV_I a1 a0 a1 a2
  have dx2 := unV_I a2 a0 a1 a2
  obtain ⟨d0, d1, d2⟩ := a_rDot F hF ha3 ha4 ha5 dx0 dx1 dx2
  obtain ⟨c0, c1, c2, c3, c4⟩ := a_rScale6 F hF dx0 dx1 dx2 (clipV_I (dotZ a3 a4 a5 (unV a0 a0 a1 a2) (unV a1 a0 a1 a2) (unV a2 a0 a1 a2)))
  obtain ⟨b0, b1, b2, b3, b4⟩ := a_rSub6 F hF ha3 ha4 ha5 (clipV_I (pr (unV a0 a0 a1 a2) (clipV (dotZ a3 a4 a5 (unV a0 a0 a1 a2) (unV a1 a0 a1 a2) (unV a2 a0 a1 a2))))) (clipV_I (pr (unV a1 a0 a1 a2) (clipV (dotZ a3 a4 a5 (unV a0 a0 a1 a2) (unV a1 a0 a1 a2) (unV a2 a0 a1 a2))))) (clipV_I (pr (unV a2 a0 a1 a2) (clipV (dotZ a3 a4 a5 (unV a0 a0 a1 a2) (unV a1 a0 a1 a2) (unV a2 a0 a1 a2)))))
  obtain ⟨v0, v1, v2, v3, v4⟩ := a_r6Unit F hF (clipV_I (a3 - clipV (pr (unV a0 a0 a1 a2) (clipV (dotZ a3 a4 a5 (unV a0 a0 a1 a2) (unV a1 a0 a1 a2) (unV a2 a0 a1 a2)))))) (clipV_I (a4 - clipV (pr (unV a1 a0 a1 a2) (clipV (dotZ a3 a4 a5 (unV a0 a0 a1 a2) (unV a1 a0 a1 a2) (unV a2 a0 a1 a2)))))) (clipV_I (a5 - clipV (pr (unV a2 a0 a1 a2) (clipV (dotZ a3 a4 a5 (unV a0 a0 a1 a2) (unV a1 a0 a1 a2) (unV a2 a0 a1 a2))))))
  obtain ⟨k0, k1, k2, k3, k4⟩ := a_rCross F hF dx0 dx1 dx2 (unV_I (clipV (a3 - clipV (pr (unV a0 a0 a1 a2) (clipV (dotZ a3 a4 a5 (unV a0 a0 a1 a2) (unV a1 a0 a1 a2) (unV a2 a0 a1 a2)))))) (clipV (a3 - clipV (pr (unV a0 a0 a1 a2) (clipV (dotZ a3 a4 a5 (unV a0 a0 a1 a2) (unV a1 a0 a1 a2) (unV a2 a0 a1 a2)))))) (clipV (a4 - clipV (pr (unV a1 a0 a1 a2) (clipV (dotZ a3 a4 a5 (unV a0 a0 a1 a2) (unV a1 a0 a1 a2) (unV a2 a0 a1 a2)))))) (clipV (a5 - clipV (pr (unV a2 a0 a1 a2) (clipV (dotZ a3 a4 a5 (unV a0 a0 a1 a2) (unV a1 a0 a1 a2) (unV a2 a0 a1 a2))))))) (unV_I (clipV (a4 - clipV (pr (unV a1 a0 a1 a2) (clipV (dotZ a3 a4 a5 (unV a0 a0 a1 a2) (unV a1 a0 a1 a2) (unV a2 a0 a1 a2)))))) (clipV (a3 - clipV (pr (unV a0 a0 a1 a2) (clipV (dotZ a3 a4 a5 (unV a0 a0 a1 a2) (unV a1 a0 a1 a2) (unV a2 a0 a1 a2)))))) (clipV (a4 - clipV (pr (unV a1 a0 a1 a2) (clipV (dotZ a3 a4 a5 (unV a0 a0 a1 a2) (unV a1 a0 a1 a2) (unV a2 a0 a1 a2)))))) (clipV (a5 - clipV (pr (unV a2 a0 a1 a2) (clipV (dotZ a3 a4 a5 (unV a0 a0 a1 a2) (unV a1 a0 a1 a2) (unV a2 a0 a1 a2))))))) (unV_I (clipV (a5 - clipV (pr (unV a2 a0 a1 a2) (clipV (dotZ a3 a4 a5 (unV a0 a0 a1 a2) (unV a1 a0 a1 a2) (unV a2 a0 a1 a2)))))) (clipV (a3 - clipV (pr (unV a0 a0 a1 a2) (clipV (dotZ a3 a4 a5 (unV a0 a0 a1 a2) (unV a1 a0 a1 a2) (unV a2 a0 a1 a2)))))) (clipV (a4 - clipV (pr (unV a1 a0 a1 a2) (clipV (dotZ a3 a4 a5 (unV a0 a0 a1 a2) (unV a1 a0 a1 a2) (unV a2 a0 a1 a2)))))) (clipV (a5 - clipV (pr (unV a2 a0 a1 a2) (clipV (dotZ a3 a4 a5 (unV a0 a0 a1 a2) (unV a1 a0 a1 a2) (unV a2 a0 a1 a2)))))))
  refine bp u0 ?_
  rw [u1, u2, u3, u4]
  cases q0 : unitOK a0 a1 a2 with
  | false => exact bp rfl (bp s0_ (by rw [ss0, ss1, ss2, ss3, ss4, ss5, ss6, ss7, ss8]; exact no (by unfold ortC; rw [q0]; rfl)))
  | true =>
    refine bn rfl (bp d0 ?_)
    rw [d1, d2]
    refine bp c0 ?_
    rw [c1, c2, c3, c4]
    refine bp b0 ?_
    rw [b1, b2, b3, b4]
    refine bp v0 ?_
    rw [v1, v2, v3, v4]
    have eo : ortC a0 a1 a2 a3 a4 a5 a6 a7 a8 = (true && ((unitOK (clipV (a3 - clipV (pr (unV a0 a0 a1 a2) (clipV (dotZ a3 a4 a5 (unV a0 a0 a1 a2) (unV a1 a0 a1 a2) (unV a2 a0 a1 a2)))))) (clipV (a4 - clipV (pr (unV a1 a0 a1 a2) (clipV (dotZ a3 a4 a5 (unV a0 a0 a1 a2) (unV a1 a0 a1 a2) (unV a2 a0 a1 a2)))))) (clipV (a5 - clipV (pr (unV a2 a0 a1 a2) (clipV (dotZ a3 a4 a5 (unV a0 a0 a1 a2) (unV a1 a0 a1 a2) (unV a2 a0 a1 a2))))))) && (!clipC (dotZ a3 a4 a5 (unV a0 a0 a1 a2) (unV a1 a0 a1 a2) (unV a2 a0 a1 a2)) && (!(clipC (pr (unV a0 a0 a1 a2) (clipV (dotZ a3 a4 a5 (unV a0 a0 a1 a2) (unV a1 a0 a1 a2) (unV a2 a0 a1 a2)))) || clipC (pr (unV a1 a0 a1 a2) (clipV (dotZ a3 a4 a5 (unV a0 a0 a1 a2) (unV a1 a0 a1 a2) (unV a2 a0 a1 a2)))) || clipC (pr (unV a2 a0 a1 a2) (clipV (dotZ a3 a4 a5 (unV a0 a0 a1 a2) (unV a1 a0 a1 a2) (unV a2 a0 a1 a2))))) && (!(clipC (a3 - clipV (pr (unV a0 a0 a1 a2) (clipV (dotZ a3 a4 a5 (unV a0 a0 a1 a2) (unV a1 a0 a1 a2) (unV a2 a0 a1 a2))))) || clipC (a4 - clipV (pr (unV a1 a0 a1 a2) (clipV (dotZ a3 a4 a5 (unV a0 a0 a1 a2) (unV a1 a0 a1 a2) (unV a2 a0 a1 a2))))) || clipC (a5 - clipV (pr (unV a2 a0 a1 a2) (clipV (dotZ a3 a4 a5 (unV a0 a0 a1 a2) (unV a1 a0 a1 a2) (unV a2 a0 a1 a2)))))) && !(clipC (arZ (unV a1 a0 a1 a2) (unV (clipV (a5 - clipV (pr (unV a2 a0 a1 a2) (clipV (dotZ a3 a4 a5 (unV a0 a0 a1 a2) (unV a1 a0 a1 a2) (unV a2 a0 a1 a2)))))) (clipV (a3 - clipV (pr (unV a0 a0 a1 a2) (clipV (dotZ a3 a4 a5 (unV a0 a0 a1 a2) (unV a1 a0 a1 a2) (unV a2 a0 a1 a2)))))) (clipV (a4 - clipV (pr (unV a1 a0 a1 a2) (clipV (dotZ a3 a4 a5 (unV a0 a0 a1 a2) (unV a1 a0 a1 a2) (unV a2 a0 a1 a2)))))) (clipV (a5 - clipV (pr (unV a2 a0 a1 a2) (clipV (dotZ a3 a4 a5 (unV a0 a0 a1 a2) (unV a1 a0 a1 a2) (unV a2 a0 a1 a2))))))) (unV a2 a0 a1 a2) (unV (clipV (a4 - clipV (pr (unV a1 a0 a1 a2) (clipV (dotZ a3 a4 a5 (unV a0 a0 a1 a2) (unV a1 a0 a1 a2) (unV a2 a0 a1 a2)))))) (clipV (a3 - clipV (pr (unV a0 a0 a1 a2) (clipV (dotZ a3 a4 a5 (unV a0 a0 a1 a2) (unV a1 a0 a1 a2) (unV a2 a0 a1 a2)))))) (clipV (a4 - clipV (pr (unV a1 a0 a1 a2) (clipV (dotZ a3 a4 a5 (unV a0 a0 a1 a2) (unV a1 a0 a1 a2) (unV a2 a0 a1 a2)))))) (clipV (a5 - clipV (pr (unV a2 a0 a1 a2) (clipV (dotZ a3 a4 a5 (unV a0 a0 a1 a2) (unV a1 a0 a1 a2) (unV a2 a0 a1 a2)))))))) || clipC (arZ (unV a2 a0 a1 a2) (unV (clipV (a3 - clipV (pr (unV a0 a0 a1 a2) (clipV (dotZ a3 a4 a5 (unV a0 a0 a1 a2) (unV a1 a0 a1 a2) (unV a2 a0 a1 a2)))))) (clipV (a3 - clipV (pr (unV a0 a0 a1 a2) (clipV (dotZ a3 a4 a5 (unV a0 a0 a1 a2) (unV a1 a0 a1 a2) (unV a2 a0 a1 a2)))))) (clipV (a4 - clipV (pr (unV a1 a0 a1 a2) (clipV (dotZ a3 a4 a5 (unV a0 a0 a1 a2) (unV a1 a0 a1 a2) (unV a2 a0 a1 a2)))))) (clipV (a5 - clipV (pr (unV a2 a0 a1 a2) (clipV (dotZ a3 a4 a5 (unV a0 a0 a1 a2) (unV a1 a0 a1 a2) (unV a2 a0 a1 a2))))))) (unV a0 a0 a1 a2) (unV (clipV (a5 - clipV (pr (unV a2 a0 a1 a2) (clipV (dotZ a3 a4 a5 (unV a0 a0 a1 a2) (unV a1 a0 a1 a2) (unV a2 a0 a1 a2)))))) (clipV (a3 - clipV (pr (unV a0 a0 a1 a2) (clipV (dotZ a3 a4 a5 (unV a0 a0 a1 a2) (unV a1 a0 a1 a2) (unV a2 a0 a1 a2)))))) (clipV (a4 - clipV (pr (unV a1 a0 a1 a2) (clipV (dotZ a3 a4 a5 (unV a0 a0 a1 a2) (unV a1 a0 a1 a2) (unV a2 a0 a1 a2)))))) (clipV (a5 - clipV (pr (unV a2 a0 a1 a2) (clipV (dotZ a3 a4 a5 (unV a0 a0 a1 a2) (unV a1 a0 a1 a2) (unV a2 a0 a1 a2)))))))) || clipC (arZ (unV a0 a0 a1 a2) (unV (clipV (a4 - clipV (pr (unV a1 a0 a1 a2) (clipV (dotZ a3 a4 a5 (unV a0 a0 a1 a2) (unV a1 a0 a1 a2) (unV a2 a0 a1 a2)))))) (clipV (a3 - clipV (pr (unV a0 a0 a1 a2) (clipV (dotZ a3 a4 a5 (unV a0 a0 a1 a2) (unV a1 a0 a1 a2) (unV a2 a0 a1 a2)))))) (clipV (a4 - clipV (pr (unV a1 a0 a1 a2) (clipV (dotZ a3 a4 a5 (unV a0 a0 a1 a2) (unV a1 a0 a1 a2) (unV a2 a0 a1 a2)))))) (clipV (a5 - clipV (pr (unV a2 a0 a1 a2) (clipV (dotZ a3 a4 a5 (unV a0 a0 a1 a2) (unV a1 a0 a1 a2) (unV a2 a0 a1 a2))))))) (unV a1 a0 a1 a2) (unV (clipV (a3 - clipV (pr (unV a0 a0 a1 a2) (clipV (dotZ a3 a4 a5 (unV a0 a0 a1 a2) (unV a1 a0 a1 a2) (unV a2 a0 a1 a2)))))) (clipV (a3 - clipV (pr (unV a0 a0 a1 a2) (clipV (dotZ a3 a4 a5 (unV a0 a0 a1 a2) (unV a1 a0 a1 a2) (unV a2 a0 a1 a2)))))) (clipV (a4 - clipV (pr (unV a1 a0 a1 a2) (clipV (dotZ a3 a4 a5 (unV a0 a0 a1 a2) (unV a1 a0 a1 a2) (unV a2 a0 a1 a2)))))) (clipV (a5 - clipV (pr (unV a2 a0 a1 a2) (clipV (dotZ a3 a4 a5 (unV a0 a0 a1 a2) (unV a1 a0 a1 a2) (unV a2 a0 a1 a2)))))))))))))) := by rw [← q0]; rfl
    cases q2 : clipC (dotZ a3 a4 a5 (unV a0 a0 a1 a2) (unV a1 a0 a1 a2) (unV a2 a0 a1 a2)) with
    | true => exact bp rfl (bp s0_ (by rw [ss0, ss1, ss2, ss3, ss4, ss5, ss6, ss7, ss8]; exact no (by rw [eo, q2]; simp)))
    | false =>
      refine bn rfl ?_
      cases q3 : (clipC (pr (unV a0 a0 a1 a2) (clipV (dotZ a3 a4 a5 (unV a0 a0 a1 a2) (unV a1 a0 a1 a2) (unV a2 a0 a1 a2)))) || clipC (pr (unV a1 a0 a1 a2) (clipV (dotZ a3 a4 a5 (unV a0 a0 a1 a2) (unV a1 a0 a1 a2) (unV a2 a0 a1 a2)))) || clipC (pr (unV a2 a0 a1 a2) (clipV (dotZ a3 a4 a5 (unV a0 a0 a1 a2) (unV a1 a0 a1 a2) (unV a2 a0 a1 a2))))) with
      | true => exact bp rfl (bp s0_ (by rw [ss0, ss1, ss2, ss3, ss4, ss5, ss6, ss7, ss8]; exact no (by rw [eo, q3]; simp)))
      | false =>
        refine bn rfl ?_
        cases q4 : (clipC (a3 - clipV (pr (unV a0 a0 a1 a2) (clipV (dotZ a3 a4 a5 (unV a0 a0 a1 a2) (unV a1 a0 a1 a2) (unV a2 a0 a1 a2))))) || clipC (a4 - clipV (pr (unV a1 a0 a1 a2) (clipV (dotZ a3 a4 a5 (unV a0 a0 a1 a2) (unV a1 a0 a1 a2) (unV a2 a0 a1 a2))))) || clipC (a5 - clipV (pr (unV a2 a0 a1 a2) (clipV (dotZ a3 a4 a5 (unV a0 a0 a1 a2) (unV a1 a0 a1 a2) (unV a2 a0 a1 a2)))))) with
        | true => exact bp rfl (bp s0_ (by rw [ss0, ss1, ss2, ss3, ss4, ss5, ss6, ss7, ss8]; exact no (by rw [eo, q4]; simp)))
        | false =>
          refine bn rfl ?_
          cases q1 : (unitOK (clipV (a3 - clipV (pr (unV a0 a0 a1 a2) (clipV (dotZ a3 a4 a5 (unV a0 a0 a1 a2) (unV a1 a0 a1 a2) (unV a2 a0 a1 a2)))))) (clipV (a4 - clipV (pr (unV a1 a0 a1 a2) (clipV (dotZ a3 a4 a5 (unV a0 a0 a1 a2) (unV a1 a0 a1 a2) (unV a2 a0 a1 a2)))))) (clipV (a5 - clipV (pr (unV a2 a0 a1 a2) (clipV (dotZ a3 a4 a5 (unV a0 a0 a1 a2) (unV a1 a0 a1 a2) (unV a2 a0 a1 a2))))))) with
          | false => exact bp rfl (bp s0_ (by rw [ss0, ss1, ss2, ss3, ss4, ss5, ss6, ss7, ss8]; exact no (by rw [eo, q1]; simp)))
          | true =>
            refine bn rfl ?_
            refine bp k0 ?_
            rw [k1, k2, k3, k4]
            cases q5 : (clipC (arZ (unV a1 a0 a1 a2) (unV (clipV (a5 - clipV (pr (unV a2 a0 a1 a2) (clipV (dotZ a3 a4 a5 (unV a0 a0 a1 a2) (unV a1 a0 a1 a2) (unV a2 a0 a1 a2)))))) (clipV (a3 - clipV (pr (unV a0 a0 a1 a2) (clipV (dotZ a3 a4 a5 (unV a0 a0 a1 a2) (unV a1 a0 a1 a2) (unV a2 a0 a1 a2)))))) (clipV (a4 - clipV (pr (unV a1 a0 a1 a2) (clipV (dotZ a3 a4 a5 (unV a0 a0 a1 a2) (unV a1 a0 a1 a2) (unV a2 a0 a1 a2)))))) (clipV (a5 - clipV (pr (unV a2 a0 a1 a2) (clipV (dotZ a3 a4 a5 (unV a0 a0 a1 a2) (unV a1 a0 a1 a2) (unV a2 a0 a1 a2))))))) (unV a2 a0 a1 a2) (unV (clipV (a4 - clipV (pr (unV a1 a0 a1 a2) (clipV (dotZ a3 a4 a5 (unV a0 a0 a1 a2) (unV a1 a0 a1 a2) (unV a2 a0 a1 a2)))))) (clipV (a3 - clipV (pr (unV a0 a0 a1 a2) (clipV (dotZ a3 a4 a5 (unV a0 a0 a1 a2) (unV a1 a0 a1 a2) (unV a2 a0 a1 a2)))))) (clipV (a4 - clipV (pr (unV a1 a0 a1 a2) (clipV (dotZ a3 a4 a5 (unV a0 a0 a1 a2) (unV a1 a0 a1 a2) (unV a2 a0 a1 a2)))))) (clipV (a5 - clipV (pr (unV a2 a0 a1 a2) (clipV (dotZ a3 a4 a5 (unV a0 a0 a1 a2) (unV a1 a0 a1 a2) (unV a2 a0 a1 a2)))))))) || clipC (arZ (unV a2 a0 a1 a2) (unV (clipV (a3 - clipV (pr (unV a0 a0 a1 a2) (clipV (dotZ a3 a4 a5 (unV a0 a0 a1 a2) (unV a1 a0 a1 a2) (unV a2 a0 a1 a2)))))) (clipV (a3 - clipV (pr (unV a0 a0 a1 a2) (clipV (dotZ a3 a4 a5 (unV a0 a0 a1 a2) (unV a1 a0 a1 a2) (unV a2 a0 a1 a2)))))) (clipV (a4 - clipV (pr (unV a1 a0 a1 a2) (clipV (dotZ a3 a4 a5 (unV a0 a0 a1 a2) (unV a1 a0 a1 a2) (unV a2 a0 a1 a2)))))) (clipV (a5 - clipV (pr (unV a2 a0 a1 a2) (clipV (dotZ a3 a4 a5 (unV a0 a0 a1 a2) (unV a1 a0 a1 a2) (unV a2 a0 a1 a2))))))) (unV a0 a0 a1 a2) (unV (clipV (a5 - clipV (pr (unV a2 a0 a1 a2) (clipV (dotZ a3 a4 a5 (unV a0 a0 a1 a2) (unV a1 a0 a1 a2) (unV a2 a0 a1 a2)))))) (clipV (a3 - clipV (pr (unV a0 a0 a1 a2) (clipV (dotZ a3 a4 a5 (unV a0 a0 a1 a2) (unV a1 a0 a1 a2) (unV a2 a0 a1 a2)))))) (clipV (a4 - clipV (pr (unV a1 a0 a1 a2) (clipV (dotZ a3 a4 a5 (unV a0 a0 a1 a2) (unV a1 a0 a1 a2) (unV a2 a0 a1 a2)))))) (clipV (a5 - clipV (pr (unV a2 a0 a1 a2) (clipV (dotZ a3 a4 a5 (unV a0 a0 a1 a2) (unV a1 a0 a1 a2) (unV a2 a0 a1 a2)))))))) || clipC (arZ (unV a0 a0 a1 a2) (unV (clipV (a4 - clipV (pr (unV a1 a0 a1 a2) (clipV (dotZ a3 a4 a5 (unV a0 a0 a1 a2) (unV a1 a0 a1 a2) (unV a2 a0 a1 a2)))))) (clipV (a3 - clipV (pr (unV a0 a0 a1 a2) (clipV (dotZ a3 a4 a5 (unV a0 a0 a1 a2) (unV a1 a0 a1 a2) (unV a2 a0 a1 a2)))))) (clipV (a4 - clipV (pr (unV a1 a0 a1 a2) (clipV (dotZ a3 a4 a5 (unV a0 a0 a1 a2) (unV a1 a0 a1 a2) (unV a2 a0 a1 a2)))))) (clipV (a5 - clipV (pr (unV a2 a0 a1 a2) (clipV (dotZ a3 a4 a5 (unV a0 a0 a1 a2) (unV a1 a0 a1 a2) (unV a2 a0 a1 a2))))))) (unV a1 a0 a1 a2) (unV (clipV (a3 - clipV (pr (unV a0 a0 a1 a2) (clipV (dotZ a3 a4 a5 (unV a0 a0 a1 a2) (unV a1 a0 a1 a2) (unV a2 a0 a1 a2)))))) (clipV (a3 - clipV (pr (unV a0 a0 a1 a2) (clipV (dotZ a3 a4 a5 (unV a0 a0 a1 a2) (unV a1 a0 a1 a2) (unV a2 a0 a1 a2)))))) (clipV (a4 - clipV (pr (unV a1 a0 a1 a2) (clipV (dotZ a3 a4 a5 (unV a0 a0 a1 a2) (unV a1 a0 a1 a2) (unV a2 a0 a1 a2)))))) (clipV (a5 - clipV (pr (unV a2 a0 a1 a2) (clipV (dotZ a3 a4 a5 (unV a0 a0 a1 a2) (unV a1 a0 a1 a2) (unV a2 a0 a1 a2))))))))) with
            | true => exact bp rfl (bp s0_ (by rw [ss0, ss1, ss2, ss3, ss4, ss5, ss6, ss7, ss8]; exact no (by rw [eo, q5]; simp)))
            | false =>
              refine bn rfl ?_
              exact yes (by rw [eo, q1, q2, q3, q4, q5]; rfl)
theorem a_ref07_Ortho (F : Nat) (hF : 200 ≤ F) {a0 a1 a2 a3 a4 a5 a6 a7 a8 : Int} (ha0 : I64 a0) (ha1 : I64 a1) (ha2 : I64 a2) (ha3 : I64 a3) (ha4 : I64 a4) (ha5 : I64 a5) (ha6 : I64 a6) (ha7 : I64 a7) (ha8 : I64 a8) : ok_v F a0 a1 a2 a3 a4 a5 a6 a7 a8 = true ∧ o_v_0 F a0 a1 a2 a3 a4 a5 a6 a7 a8 = ort0 a0 a1 a2 a3 a4 a5 a6 a7 a8 ∧ o_v_1 F a0 a1 a2 a3 a4 a5 a6 a7 a8 = ort1 a0 a1 a2 a3 a4 a5 a6 a7 a8 ∧ o_v_2 F a0 a1 a2 a3 a4 a5 a6 a7 a8 = ort2 a0 a1 a2 a3 a4 a5 a6 a7 a8 ∧ o_v_3 F a0 a1 a2 a3 a4 a5 a6 a7 a8 = ort3 a0 a1 a2 a3 a4 a5 a6 a7 a8 ∧ o_v_4 F a0 a1 a2 a3 a4 a5 a6 a7 a8 = ort4 a0 a1 a2 a3 a4 a5 a6 a7 a8 ∧ o_v_5 F a0 a1 a2 a3 a4 a5 a6 a7 a8 = ort5 a0 a1 a2 a3 a4 a5 a6 a7 a8 ∧ o_v_6 F a0 a1 a2 a3 a4 a5 a6 a7 a8 = ort6 a0 a1 a2 a3 a4 a5 a6 a7 a8 ∧ o_v_7 F a0 a1 a2 a3 a4 a5 a6 a7 a8 = ort7 a0 a1 a2 a3 a4 a5 a6 a7 a8 ∧ o_v_8 F a0 a1 a2 a3 a4 a5 a6 a7 a8 = ort8 a0 a1 a2 a3 a4 a5 a6 a7 a8 ∧ o_v_9 F a0 a1 a2 a3 a4 a5 a6 a7 a8 = ortC a0 a1 a2 a3 a4 a5 a6 a7 a8 := k_v F _ _ _ _ _ _ _ _ _ (f_ref07_Ortho' F hF ha0 ha1 ha2 ha3 ha4 ha5 ha6 ha7 ha8)
end Go.Xv
namespace Go.Xv
theorem f_MatTells (F : Nat) (hF : 200 ≤ F) {a0 a1 a2 a3 a4 a5 a6 a7 a8 : Int} (ha0 : I64 a0) (ha1 : I64 a1) (ha2 : I64 a2) (ha3 : I64 a3) (ha4 : I64 a4) (ha5 : I64 a5) (ha6 : I64 a6) (ha7 : I64 a7) (ha8 : I64 a8) : f_c F a0 a1 a2 a3 a4 a5 a6 a7 a8 = some (.v (.bool true)) := by
  unfold f_c fg_c
  obtain ⟨w1, w2⟩ := a_works07 F hF
  obtain ⟨p0, p1, p2, p3, p4, p5, p6, p7, p8, p9, p10⟩ := a_mat_Ortho F hF ha0 ha1 ha2 ha3 ha4 ha5 ha6 ha7 ha8
  obtain ⟨q0, q1, q2, q3, q4, q5, q6, q7, q8, q9, q10⟩ := a_ref07_Ortho F hF ha0 ha1 ha2 ha3 ha4 ha5 ha6 ha7 ha8
  obtain ⟨r0, r1⟩ := a_mat_Off F hF ha0 ha1 ha2 ha3 ha4 ha5 ha6 ha7 ha8
  obtain ⟨s0, s1⟩ := a_ref07_Off F hF ha0 ha1 ha2 ha3 ha4 ha5 ha6 ha7 ha8
  obtain ⟨t0, t1⟩ := a_Heading F hF (a1 := a1) (a2 := a2) (a4 := a4) (a5 := a5) (a6 := a6) (a7 := a7) (a8 := a8) ha0 ha3
  obtain ⟨u0, u1⟩ := a_rHeading F hF (a1 := a1) (a2 := a2) (a4 := a4) (a5 := a5) (a6 := a6) (a7 := a7) (a8 := a8) ha0 ha3
  refine bp p0 (bp q0 (bp ?_ (bp ?_ (bp r0 (bp s0 (bp ?_ (bp t0 (bp u0 (bp ?_ (bp w1 (some_bool w2)))))))))))
  · rw [p1, p2, p3, p4, p5, p6, p7, p8, p9, q1, q2, q3, q4, q5, q6, q7, q8, q9]; simp
  · rw [p10, q10]; simp
  · rw [r1, s1]; simp
  · rw [t1, u1]; simp
end Go.Xv
namespace Go.Proofs.Ytpnggkefjgpleaa.matTells
open Go.ChangeShapes Go.WideShapes Go.ChangeAt Go.RowKit Go.Xv Go.Proofs.Ytpnggkefjgpleaa.base
set_option linter.unusedVariables false
set_option maxRecDepth 100000 in
theorem lifted (os : Os) (started : os.Started) (H : Type) (enc : TypeId × Value → H) :
    ReturnsInHanded {} Try.checked os 21 .any (Rows.matTellsSpec.pre6 enc Try.prog Try.f21 Rows.matTellsRow.domain false) (Rows.matTellsSpec.post enc Try.prog Try.f21 false true false false) := by
  refine returnsInHanded_of_change (C := Try.checked) own started (by kernel_rfl) Try.func21
    (ChangeSpec.witness6 (enc := enc) (C := Try.checked) false ⟨#[], #[.agg #[.int .i64 0, .int .i64 0, .int .i64 0, .int .i64 0, .int .i64 0, .int .i64 0, .int .i64 0, .int .i64 0, .int .i64 0]], []⟩ 8 (by kernel_rfl) (by kernel_rfl) (by kernel_rfl) (by kernel_rfl)) ?_
  intro W base args ds gs before hval0 hW hcnd _
  have hval : ∀ (j : Nat) t v, Try.f21.params[j]? = some t → args[j]? = some v → Value.okWide Try.prog W .any base t v := hval0
  have hW' := hW
  obtain ⟨p, q, hA0, hV, rfl, hfz, hnd⟩ := hW
  have hA : DataW.TrodAll enc Try.prog W 0 (fun _ => true) true Try.f21.params.toList args.toList ds p := hA0
  rw [Try.params21] at hA hval
  obtain ⟨v0, vs0, d0, ds0, p0, q0, hargs, rfl, rfl, h0, r0⟩ := trodAll_cons hA
  obtain ⟨rfl, rfl, rfl⟩ := trodAll_nil r0
  obtain rfl : args = #[v0] := by cases args; simp_all
  obtain ⟨l0, rfl, f0⟩ := open_flat (ks := [some .i64, some .i64, some .i64, some .i64, some .i64, some .i64, some .i64, some .i64, some .i64]) (by kernel_rfl) (by kernel_rfl) (hval 0 55 v0 rfl rfl) h0
  obtain ⟨a0, l0, rfl, wa0, f0⟩ := fitW_some f0
  obtain ⟨a1, l0, rfl, wa1, f0⟩ := fitW_some f0
  obtain ⟨a2, l0, rfl, wa2, f0⟩ := fitW_some f0
  obtain ⟨a3, l0, rfl, wa3, f0⟩ := fitW_some f0
  obtain ⟨a4, l0, rfl, wa4, f0⟩ := fitW_some f0
  obtain ⟨a5, l0, rfl, wa5, f0⟩ := fitW_some f0
  obtain ⟨a6, l0, rfl, wa6, f0⟩ := fitW_some f0
  obtain ⟨a7, l0, rfl, wa7, f0⟩ := fitW_some f0
  obtain ⟨a8, l0, rfl, wa8, f0⟩ := fitW_some f0
  obtain rfl := fitW_nil f0
  refine law_contract laidOut (g_c fuel0) (bt := 4) (by kernel_rfl) (by kernel_rfl) (by kernel_rfl) (by kernel_rfl) rfl hW' ?_
  refine ⟨[.v (.agg #[.int .i64 a0, .int .i64 a1, .int .i64 a2, .int .i64 a3, .int .i64 a4, .int .i64 a5, .int .i64 a6, .int .i64 a7, .int .i64 a8])], rfl, fun i x hx => ?_, unS_of ?_⟩
  · match i, hx with
    | 0, hx => exact ⟨_, rfl, by cases hx; exact Rel.v _ _⟩
    | _ + 1, hx => cases hx
  · obtain ⟨y1, y2⟩ := k_c fuel0 a0 a1 a2 a3 a4 a5 a6 a7 a8 (f_MatTells fuel0 (by unfold fuel0; omega) (wf_i64 wa0) (wf_i64 wa1) (wf_i64 wa2) (wf_i64 wa3) (wf_i64 wa4) (wf_i64 wa5) (wf_i64 wa6) (wf_i64 wa7) (wf_i64 wa8))
    have e : s_c fuel0 [.v (.agg #[.int .i64 a0, .int .i64 a1, .int .i64 a2, .int .i64 a3, .int .i64 a4, .int .i64 a5, .int .i64 a6, .int .i64 a7, .int .i64 a8])] = some (ok_c fuel0 a0 a1 a2 a3 a4 a5 a6 a7 a8, .v (.bool (o_c_0 fuel0 a0 a1 a2 a3 a4 a5 a6 a7 a8))) := by kernel_rfl
    rw [e, y1, y2]
theorem over : Rows.matTellsRow.holds Try.pinned (OpenSpec.ofChange Rows.matTellsSpec) :=
  OpenClaim.holds_of_wide 21 Try.f21 rfl rfl rfl rfl rfl rfl rfl ⟨rfl, rfl, rfl, rfl, rfl⟩ rfl rfl rfl rfl rfl (by kernel_rfl) Try.func21 (joined_of (P := Try.prog) behind enter_ rfl rfl ⟨rfl, rfl⟩ (by kernel_rfl))
    (of_decide_eq_true (by kernel_rfl)) (by unfold Func.isWrapper; first | (rw [if_pos (by decide +kernel)]; kernel_rfl) | (rw [if_neg (by decide +kernel)]; exact ⟨rfl, rfl⟩))
    (fun os started H enc _ => lifted os started H enc)
/-- The statement. -/
theorem proved : Rows.MatTellsSaid := over
#print axioms proved
end Go.Proofs.Ytpnggkefjgpleaa.matTells
