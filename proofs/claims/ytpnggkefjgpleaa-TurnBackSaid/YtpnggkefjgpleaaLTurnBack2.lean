/- The angle of sine and cosine is no further from the angle than 1024 parts: the law returns true for every input, and leaves its arguments as they were. -/
import Derived.Test.YtpnggkefjgpleaaLTurnBack
namespace Go.Xv
namespace Cx
theorem near_stepA {p v : Cx} {p0 : Cx} {i : Nat} {o : Bool} {x y : Int} {m e : Rat} (hi : i < 30) (hp : p = cx x y) (hv : U v) (h0 : Nm p0 m) (h : Nm (sub (mul p v) (sc (uu i) p0)) e) :
    Nm (sub (mul (cx (rotX i o x y) (rotY i o x y)) (mul v (cj (VI (dt i o))))) (sc (uu (i + 1)) p0)) (e * kp i + 3 / 2 + m * (uu (i + 1) * eta)) := by
  subst hp
  have hU := (VI_U (dt i o)).cj
  have h1 := (h.mul (step_nm hi o)).turn hU
  have h2 := (rot_nm i o x y).turn (hv.mul hU)
  have h3 := (h0.mul (tab hi o)).turn hU
  have h4 := (h1.add h2).add h3
  have hu : mul (VI (dt i o)) (cj (VI (dt i o))) = one := (VI_U (dt i o)).mul_cj
  have ee : Cx.add (Cx.add (mul (mul (sub (mul (cx x y) v) (sc (uu i) p0)) (stepC i o)) (cj (VI (dt i o)))) (mul (sub (cx (rotX i o x y) (rotY i o x y)) (mul (cx x y) (stepC i o))) (mul v (cj (VI (dt i o)))))) (mul (mul p0 (sub (sc (uu i) (stepC i o)) (sc (uu (i + 1)) (VI (dt i o))))) (cj (VI (dt i o)))) =
      sub (mul (cx (rotX i o x y) (rotY i o x y)) (mul v (cj (VI (dt i o))))) (sc (uu (i + 1)) (mul p0 (mul (VI (dt i o)) (cj (VI (dt i o)))))) := by
    apply eqC <;> simp only [Cx.add, sub, sc, mul] <;> grind
  rw [ee, hu, mul_one] at h4
  exact h4
theorem stepA : ∀ i : Nat, i < 30 → decide (3 * (i : Rat) * kp i + 1 / 1000 + 3 / 2 * uu (i + 1) ≤ 3 * ((i : Rat) + 1)) = true := by decide +kernel
theorem aS_near {x y : Int} {m : Rat} (hm : 1152921504606846976 ≤ m) (h0 : Nm (cx x y) (3 / 2 * m)) : ∀ i, i ≤ 30 → Nm (sub (mul (cx (aS x y i).1 (aS x y i).2.1) (VI (aS x y i).2.2)) (sc (uu i) (cx x y))) (3 * (i : Rat) * (m * eta))
  | 0, _ => by
    simp only [aS]
    rw [VI_zero, mul_one]
    have e : uu 0 = 1 := by decide +kernel
    rw [e]
    refine ⟨?_, ?_⟩
    · have : ((0 : Nat) : Rat) = 0 := by decide +kernel
      rw [this]; grind
    · simp only [n2, sub, sc, cx]
      have : ((0 : Nat) : Rat) = 0 := by decide +kernel
      rw [this]; grind
  | i + 1, h => by
    have ih := aS_near hm h0 i (by omega)
    have hs := near_stepA (o := decide ((aS x y i).2.1 < 0)) (by omega) rfl (VI_U _) h0 ih
    have e : (aS x y (i + 1)).2.2 = (aS x y i).2.2 + -dt i (decide ((aS x y i).2.1 < 0)) := by
      simp only [aS, dt]
      by_cases hz : (aS x y i).2.1 < 0
      · simp only [hz, decide_true, if_true]; omega
      · simp only [hz, decide_false, Bool.false_eq_true, if_false]; omega
    rw [e, VI_add, VI_neg]
    have hb := stepA i (by omega)
    simp only [decide_eq_true_eq] at hb
    refine Nm.mono hs ?_
    have hc : ((i + 1 : Nat) : Rat) = (i : Rat) + 1 := by rw [Rat.natCast_add]; rfl
    rw [hc]
    have hme : 1500 ≤ m * eta := by
      have := Rat.mul_le_mul_of_nonneg_right (c := eta) hm (by decide +kernel)
      have h2 : (1500 : Rat) ≤ 1152921504606846976 * eta := by decide +kernel
      grind
    have hb2 := Rat.mul_le_mul_of_nonneg_right (c := m * eta) hb (by grind)
    generalize kp i = K at *
    generalize uu (i + 1) = u at *
    generalize (i : Rat) = j at *
    generalize eta = t at *
    generalize hM : m * t = M at *
    have e1 : (3 * j * K + 1 / 1000 + 3 / 2 * u) * M = 3 * j * M * K + 1 / 1000 * M + 3 / 2 * m * (u * t) := by rw [← hM]; grind
    rw [e1] at hb2
    grind
/-- what is left across is little -/
theorem aS_thin {x y : Int} (hx : 0 ≤ x ∧ x ≤ 2305843009213693952) (hy : -2305843009213693952 ≤ y ∧ y ≤ 2305843009213693952) : ∀ i : Nat, 1 ≤ i → i ≤ 30 →
    (aS x y i).2.1 * 2 ^ i ≤ 2 * (aS x y i).1 + i * 2 ^ i ∧ -(2 * (aS x y i).1 + i * 2 ^ i) ≤ (aS x y i).2.1 * 2 ^ i
  | 0, h, _ => absurd h (by omega)
  | 1, _, _ => by
    simp only [aS, rotX, rotY]
    by_cases h : y < 0
    · simp [h]; omega
    · simp [h]; omega
  | i + 2, _, h2 => by
    obtain ⟨h3, h4⟩ := aS_thin hx hy (i + 1) (by omega) (by omega)
    obtain ⟨⟨b1, b2⟩, _, _⟩ := aS_bd hx hy (i := i + 1) (by omega)
    have hP := p2pos (i + 1)
    have e : (2 : Int) ^ (i + 2) = 2 * 2 ^ (i + 1) := by rw [Int.pow_succ]; omega
    have d1 := Int.mul_ediv_add_emod (aS x y (i + 1)).1 (2 ^ (i + 1))
    have d2 := Int.emod_nonneg (aS x y (i + 1)).1 (show (2 : Int) ^ (i + 1) ≠ 0 by omega)
    have d3 := Int.emod_lt_of_pos (aS x y (i + 1)).1 hP
    have f1 := Int.mul_ediv_add_emod (aS x y (i + 1)).2.1 (2 ^ (i + 1))
    have f2 := Int.emod_nonneg (aS x y (i + 1)).2.1 (show (2 : Int) ^ (i + 1) ≠ 0 by omega)
    have f3 := Int.emod_lt_of_pos (aS x y (i + 1)).2.1 hP
    have es : aS x y (i + 2) = (rotX (i + 1) (decide ((aS x y (i + 1)).2.1 < 0)) (aS x y (i + 1)).1 (aS x y (i + 1)).2.1, rotY (i + 1) (decide ((aS x y (i + 1)).2.1 < 0)) (aS x y (i + 1)).1 (aS x y (i + 1)).2.1, if (aS x y (i + 1)).2.1 < 0 then (aS x y (i + 1)).2.2 - tA (i + 1) else (aS x y (i + 1)).2.2 + tA (i + 1)) := rfl
    rw [es, e]
    have ec : ((i + 2 : Nat) : Int) = ((i + 1 : Nat) : Int) + 1 := by omega
    rw [ec]
    have hj : 0 ≤ ((i + 1 : Nat) : Int) * 2 ^ (i + 1) := Int.mul_nonneg (by omega) (by omega)
    generalize ((i + 1 : Nat) : Int) = j at *
    generalize (aS x y (i + 1)).1 = X at *
    generalize (aS x y (i + 1)).2.1 = Y at *
    simp only
    unfold rotX rotY
    generalize (2 : Int) ^ (i + 1) = P at *
    have m0 : (X / P) * (2 * P) = 2 * (P * (X / P)) := by rw [Int.mul_comm (X / P), Int.mul_assoc]
    have m1 : (j + 1) * (2 * P) = 2 * (j * P) + 2 * P := by rw [Int.add_mul, Int.one_mul, ← Int.mul_assoc, Int.mul_comm j 2, Int.mul_assoc]
    have m2 : Y * (2 * P) = 2 * (Y * P) := by rw [← Int.mul_assoc, Int.mul_comm Y 2, Int.mul_assoc]
    by_cases h : Y < 0
    · have hn : Y / P < 0 := Int.ediv_neg_of_neg_of_pos h hP
      have hY : Y * P ≤ 0 := Int.mul_nonpos_of_nonpos_of_nonneg (by omega) (by omega)
      simp only [h, decide_true, if_true]
      rw [Int.add_mul, m0, m1, m2]
      omega
    · have hn : 0 ≤ Y / P := Int.ediv_nonneg (by omega) (by omega)
      have hY : 0 ≤ Y * P := Int.mul_nonneg (by omega) (by omega)
      simp only [h, decide_false, Bool.false_eq_true, if_false]
      rw [Int.sub_mul, m0, m1, m2]
      omega
theorem gap {u v : Cx} {s t d : Rat} (hu : U u) (hv : U v) (hs : 0 ≤ s) (ht : 0 ≤ t) (h : Nm (sub (sc s u) (sc t v)) d) : s - t ≤ d ∧ t - s ≤ d := by
  have h2 := h.2
  have hr : u.re * v.re + u.im * v.im ≤ 1 := by
    refine le_of_sq (by decide +kernel) ?_
    have e1 := sq_nn (u.re * v.im - u.im * v.re)
    have e2 : (u.re * v.re + u.im * v.im) * (u.re * v.re + u.im * v.im) + (u.re * v.im - u.im * v.re) * (u.re * v.im - u.im * v.re) = n2 u * n2 v := by simp only [n2]; grind
    unfold U at hu hv
    rw [hu, hv] at e2
    grind
  have h3 := Rat.mul_le_mul_of_nonneg_left hr (Rat.mul_nonneg hs ht)
  have e : n2 (sub (sc s u) (sc t v)) = s * s * n2 u + t * t * n2 v - 2 * (s * t * (u.re * v.re + u.im * v.im)) := by simp only [n2, sub, sc]; grind
  unfold U at hu hv
  rw [e, hu, hv] at h2
  have k : (s - t) * (s - t) ≤ d * d := by grind
  constructor
  · exact le_of_sq h.1 k
  · exact le_of_sq h.1 (by grind)
theorem n2_sc (s : Rat) (u : Cx) : n2 (sc s u) = s * s * n2 u := by simp only [n2, sc]; grind
/-- What the steps end with, of numbers that are scaled. -/
theorem aS_end {x y : Int} (hx : 0 ≤ x ∧ x ≤ 2305843009213693952) (hy : -2305843009213693952 ≤ y ∧ y ≤ 2305843009213693952) {m : Int} (hm : 1152921504606846976 ≤ m) (h1 : x ≤ m) (h2 : -m ≤ y ∧ y ≤ m) (h3 : x = m ∨ y = m ∨ y = -m) :
    ∃ s : Rat, 0 < s ∧ Nm (sub (cx x y) (sc s (VI (aS x y 30).2.2))) (s * (59 / 1073741824)) := by
  have hM : (1152921504606846976 : Rat) ≤ (m : Rat) := cast_le (a := 1152921504606846976) hm
  have c1 : (x : Rat) ≤ (m : Rat) := cast_le h1
  have c0 : (0 : Rat) ≤ (x : Rat) := cast_le (a := 0) hx.1
  have c2 : (y : Rat) ≤ (m : Rat) := cast_le h2.2
  have c3 : -(m : Rat) ≤ (y : Rat) := by
    have := cast_le h2.1
    rw [Rat.intCast_neg] at this
    exact this
  have hlow : (m : Rat) * (m : Rat) ≤ n2 (cx x y) := by
    simp only [n2, cx]
    have s1 := sq_nn (x : Rat)
    have s2 := sq_nn (y : Rat)
    rcases h3 with h | h | h
    · rw [h]; grind
    · rw [h]; grind
    · rw [h, Rat.intCast_neg]; grind
  have h0 : Nm (cx x y) (3 / 2 * (m : Rat)) := by
    have q1 := Rat.mul_nonneg (show 0 ≤ (m : Rat) - x by grind) (show 0 ≤ (m : Rat) + x by grind)
    have q2 := Rat.mul_nonneg (show 0 ≤ (m : Rat) - y by grind) (show 0 ≤ (m : Rat) + y by grind)
    have q3 := sq_nn (m : Rat)
    refine ⟨by grind, ?_⟩
    simp only [n2, cx]
    grind
  have hn := aS_near hM h0 30 (by omega)
  obtain ⟨t1, t2⟩ := aS_thin hx hy 30 (by omega) (by omega)
  obtain ⟨⟨b1, _⟩, _, _⟩ := aS_bd hx hy (i := 30) (by omega)
  generalize (aS x y 30).1 = X at *
  generalize (aS x y 30).2.1 = Y at *
  have hv := VI_U (aS x y 30).2.2
  generalize VI (aS x y 30).2.2 = v at *
  have hX : (0 : Rat) ≤ (X : Rat) := cast_le (a := 0) b1
  have hY1 : (Y : Rat) * 1073741824 ≤ 2 * (X : Rat) + 32212254720 := by
    have := cast_le (a := Y * 1073741824) (b := 2 * X + 32212254720) (by omega)
    simp only [Rat.intCast_add, Rat.intCast_mul] at this
    exact this
  have hY2 : -(2 * (X : Rat) + 32212254720) ≤ (Y : Rat) * 1073741824 := by
    have := cast_le (a := -(2 * X + 32212254720)) (b := Y * 1073741824) (by omega)
    simp only [Rat.intCast_add, Rat.intCast_mul, Rat.intCast_neg] at this
    exact this
  have hc : Nm (sub (sc (X : Rat) v) (mul (cx X Y) v)) ((X : Rat) * (2 / 1073741824) + 30) := by
    have k : Nm (sub ⟨(X : Rat), 0⟩ (cx X Y)) (0 + ((X : Rat) * (2 / 1073741824) + 30)) := by
      apply Nm.of <;> simp only [sub, cx] <;> grind
    have k2 := k.turn hv
    have e : mul (sub ⟨(X : Rat), 0⟩ (cx X Y)) v = sub (sc (X : Rat) v) (mul (cx X Y) v) := by
      apply eqC <;> simp only [sub, sc, mul] <;> grind
    rw [e, Rat.zero_add] at k2
    exact k2
  have hd := hc.trans hn
  have ec : ((30 : Nat) : Rat) = 30 := by decide +kernel
  rw [ec] at hd
  have u1 : 8 / 5 + 4 / 100 ≤ uu 30 := by decide +kernel
  have u2 : uu 30 ≤ 1647 / 1000 := by decide +kernel
  -- X is large
  have hbig : 8 / 5 * (m : Rat) ≤ (X : Rat) := by
    rcases Rat.le_total (a := 8 / 5 * (m : Rat)) (b := (X : Rat)) with h | h
    · exact h
    · exfalso
      have k1 := ((hv.nm).sc hX).add hd.neg
      have e : Cx.add (sc (X : Rat) v) (sub (sc (uu 30) (cx x y)) (sc (X : Rat) v)) = sc (uu 30) (cx x y) := by apply eqC <;> simp only [Cx.add, sub] <;> grind
      rw [e] at k1
      have k2 := k1.mono (f := 161 / 100 * (m : Rat)) (by unfold eta; grind)
      have k3 := k2.2
      rw [n2_sc] at k3
      have k4 := Rat.mul_le_mul_of_nonneg_left hlow (sq_nn (uu 30))
      have k5 := sq_le_sq (x := 163 / 100) (y := uu 30) (by decide +kernel) (by grind)
      have k6 := Rat.mul_le_mul_of_nonneg_right k5 (sq_nn (m : Rat))
      have k7 := Rat.mul_pos (show 0 < (m : Rat) by grind) (show 0 < (m : Rat) by grind)
      generalize uu 30 * uu 30 = z at *
      generalize n2 (cx x y) = a at *
      grind
  have hu0 : 0 < uu 30 := by decide +kernel
  have hui : uu 30 * (uu 30)⁻¹ = 1 := Rat.mul_inv_cancel _ (by grind)
  have hip : 0 < (uu 30)⁻¹ := Rat.inv_pos.2 hu0
  generalize (uu 30)⁻¹ = g at *
  refine ⟨g * X, Rat.mul_pos hip (by grind), ?_⟩
  have hf := (hd.neg).sc (Rat.le_of_lt hip)
  have e : Cx.sc g (sub (sc (uu 30) (cx x y)) (sc (X : Rat) v)) = sub (cx x y) (sc (g * X) v) := by
    apply eqC <;> simp only [sub, sc] <;> grind
  rw [e] at hf
  refine hf.mono ?_
  have k : (X : Rat) * (2 / 1073741824) + 30 + 3 * 30 * ((m : Rat) * eta) ≤ X * (59 / 1073741824) := by unfold eta; grind
  have := Rat.mul_le_mul_of_nonneg_left k (Rat.le_of_lt hip)
  grind
end Cx
end Go.Xv
namespace Go.Xv
namespace Cx
theorem whole_nat : ∀ j : Nat, Nm (sub (V (4294967296 * j)) one) ((j : Rat) * hair)
  | 0 => by
    rw [Nat.mul_zero]
    have : ((0 : Nat) : Rat) = 0 := by decide +kernel
    rw [this]
    refine ⟨by grind, ?_⟩
    simp only [V, n2, sub, one]; grind
  | j + 1 => by
    have ih := (whole_nat j).add (whole.turn (V_U (4294967296 * j)))
    rw [Nat.mul_add, Nat.mul_one, V_add]
    have hc : ((j + 1 : Nat) : Rat) = (j : Rat) + 1 := by rw [Rat.natCast_add]; rfl
    generalize V (4294967296 * j) = u at *
    generalize V 4294967296 = v at *
    have e : Cx.add (sub u one) (mul (sub v one) u) = sub (mul u v) one := by
      apply eqC <;> simp only [Cx.add, sub, mul, one] <;> grind
    rw [e] at ih
    rw [hc]
    exact ih.mono (by grind)
theorem whole_int {j : Int} (h : -8 ≤ j ∧ j ≤ 8) : Nm (sub (VI (4294967296 * j)) one) (8 * hair) := by
  have hh : (0 : Rat) ≤ hair := by decide +kernel
  have key : ∀ m : Nat, m ≤ 8 → Nm (sub (V (4294967296 * m)) one) (8 * hair) := by
    intro m hm
    refine (whole_nat m).mono ?_
    exact Rat.mul_le_mul_of_nonneg_right (cast_leN hm) hh
  rcases Int.le_total 0 j with hp | hp
  · obtain ⟨m, rfl⟩ := Int.eq_ofNat_of_zero_le hp
    rw [show (4294967296 : Int) * (m : Int) = ((4294967296 * m : Nat) : Int) by omega, VI_nat]
    exact key m (by omega)
  · obtain ⟨m, hm⟩ := Int.eq_ofNat_of_zero_le (show 0 ≤ -j by omega)
    have e0 : 4294967296 * j = -((4294967296 * m : Nat) : Int) := by omega
    have hc := (key m (by omega)).cj
    rw [e0, VI_neg, VI_nat]
    generalize V (4294967296 * m) = u at *
    have e1 : Cx.cj (sub u one) = sub (cj u) one := by apply eqC <;> simp only [Cx.cj, sub, one] <;> grind
    rwa [e1] at hc
/-- whole turns change nothing -/
theorem VI_mod {z t : Int} (h : z % 4294967296 = t % 4294967296) (h1 : -17179869184 ≤ z - t ∧ z - t ≤ 17179869184) : Nm (sub (VI z) (VI t)) (8 * hair) := by
  have hj : z - t = 4294967296 * ((z - t) / 4294967296) := by omega
  have k := (whole_int (j := (z - t) / 4294967296) (by omega)).turn (VI_U t)
  have e : VI z = mul (VI (4294967296 * ((z - t) / 4294967296))) (VI t) := by rw [← VI_add, ← hj]; congr 1; omega
  rw [e]
  generalize VI (4294967296 * ((z - t) / 4294967296)) = u at *
  have e1 : mul (sub u one) (VI t) = sub (mul u (VI t)) (VI t) := by apply eqC <;> simp only [mul, sub, one] <;> grind
  rwa [e1] at k
theorem VI_half (n : Int) : Nm (sub (VI (n + 2147483648)) (sc (-1) (VI n))) hair := by
  have k := half.turn (VI_U n)
  rw [VI_add, show VI 2147483648 = V 2147483648 from VI_nat 2147483648]
  generalize V 2147483648 = u at *
  have e1 : mul (sub u ⟨-1, 0⟩) (VI n) = sub (mul (VI n) u) (sc (-1) (VI n)) := by apply eqC <;> simp only [mul, sub, sc] <;> grind
  rwa [e1] at k
/-- an angle near 0 -/
theorem near_mod {n : Int} {d : Rat} (hn : -17179869184 ≤ n ∧ n ≤ 17179869184) (h : Nm (sub (VI n) one) d) : (((n + 2147483648) % 4294967296 - 2147483648 : Int) : Rat) ≤ 2684354560 * (d + 8 * hair) ∧ -(2684354560 * (d + 8 * hair)) ≤ (((n + 2147483648) % 4294967296 - 2147483648 : Int) : Rat) := by
  have k := VI_mod (z := (n + 2147483648) % 4294967296 - 2147483648) (t := n) (by omega) (by omega)
  have k2 := k.trans h
  refine near_VI (by omega) (k2.mono (by grind))
theorem dbl_pow : ∀ (n : Nat) (x y : Int), ∃ k : Nat, dbl n x y = (x * 2 ^ k, y * 2 ^ k)
  | 0, x, y => ⟨0, by simp [dbl]⟩
  | n + 1, x, y => by
    rw [dbl]
    split
    · obtain ⟨k, hk⟩ := dbl_pow n (x * 2) (y * 2)
      refine ⟨k + 1, ?_⟩
      rw [hk, Int.pow_succ, Int.mul_comm (2 ^ k) 2, ← Int.mul_assoc, ← Int.mul_assoc]
    · exact ⟨0, by simp⟩
theorem scd_pow {x y : Int} (hb : big x y < 2305843009213693952) : ∃ k : Nat, scd x y = (x * 2 ^ k, y * 2 ^ k) := by
  unfold scd
  rw [down_small hb]
  exact dbl_pow 64 x y
/-- of a pair to the right of 0 -/
theorem right_near {x y : Int} (h0 : 0 ≤ x) (h1 : 1 ≤ big x y) (hb : big x y < 2305843009213693952) :
    ∃ s : Rat, 0 < s ∧ Nm (sub (cx x y) (sc s (VI (aS (scd x y).1 (scd x y).2 30).2.2))) (s * (59 / 1073741824)) := by
  obtain ⟨i1, i2⟩ := sz_I (x := x) (y := y) (by omega)
  have hs := scd_bd i1 i2 h1
  have hg := scd_sgn (y := y) h0
  obtain ⟨b1, b2⟩ := big_to hs.2 hg
  obtain ⟨k, hk⟩ := scd_pow hb
  obtain ⟨s, s0, hn⟩ := aS_end b1 b2 (m := big (scd x y).1 (scd x y).2) hs.1 (by unfold big sz; omega) (by unfold big sz; omega) (by unfold big sz; omega)
  generalize (aS (scd x y).1 (scd x y).2 30).2.2 = z at *
  rw [hk] at hn
  obtain ⟨p0, p1⟩ := hp_pos k
  refine ⟨hp k * s, Rat.mul_pos p0 s0, ?_⟩
  have h2 := hn.sc (Rat.le_of_lt p0)
  have e : Cx.sc (hp k) (sub (cx (x * 2 ^ k) (y * 2 ^ k)) (sc s (VI z))) = sub (cx x y) (sc (hp k * s) (VI z)) := by
    simp only [cx, Rat.intCast_mul]
    generalize ((2 ^ k : Int) : Rat) = P at *
    apply eqC <;> simp only [sub, sc] <;> grind
  dsimp only at h2
  rw [e] at h2
  exact h2.mono (by grind)
theorem aS_far (x y : Int) : ∀ i : Nat, i ≤ 30 → -(536870912 * (i : Int)) ≤ (aS x y i).2.2 ∧ (aS x y i).2.2 ≤ 536870912 * (i : Int)
  | 0, _ => by simp only [aS]; omega
  | i + 1, h => by
    have ih := aS_far x y i (by omega)
    have := tA_bd i (by omega)
    simp only [aS]
    split <;> omega
/-- The angle of two numbers is where they lie. -/
theorem angle_near {x y : Int} (h : ¬ (x = 0 ∧ y = 0)) (hb : big x y < 2305843009213693952) : ∃ s : Rat, 0 < s ∧ Nm (sub (cx x y) (sc s (VI (angle y x)))) (s * (60 / 1073741824)) := by
  have h1 := big_one h
  have fin : ∀ (s : Rat) (u v : Cx), 0 < s → Nm (sub (cx x y) (sc s u)) (s * (59 / 1073741824)) → Nm (sub u v) (9 * hair) → Nm (sub (cx x y) (sc s v)) (s * (60 / 1073741824)) := by
    intro s u v s0 k1 k2
    have k3 := k1.add (k2.sc (Rat.le_of_lt s0))
    have e : Cx.add (sub (cx x y) (sc s u)) (sc s (sub u v)) = sub (cx x y) (sc s v) := by apply eqC <;> simp only [Cx.add, sub, sc] <;> grind
    rw [e] at k3
    have hh : (59 / 1073741824 : Rat) + 9 * hair ≤ 60 / 1073741824 := by decide +kernel
    have := Rat.mul_le_mul_of_nonneg_left hh (Rat.le_of_lt s0)
    exact k3.mono (by grind)
  have hh : (0 : Rat) ≤ hair := by decide +kernel
  unfold angle
  rw [if_neg h]
  by_cases hn : x < 0
  · rw [if_pos hn]
    have ox : opp x = -x := by unfold opp; rw [if_neg (by unfold big sz at hb; omega)]
    have oy : opp y = -y := by unfold opp; rw [if_neg (by unfold big sz at hb; omega)]
    rw [ox, oy]
    have hbn : big (-x) (-y) = big x y := by unfold big sz; omega
    obtain ⟨s, s0, k⟩ := right_near (x := -x) (y := -y) (by omega) (by omega) (by omega)
    have hz := aS_far (scd (-x) (-y)).1 (scd (-x) (-y)).2 30 (by omega)
    generalize (aS (scd (-x) (-y)).1 (scd (-x) (-y)).2 30).2.2 = z at *
    refine ⟨s, s0, fin s (sc (-1) (VI z)) _ s0 ?_ ?_⟩
    · have k2 := k.neg
      have e : sub (sc s (VI z)) (cx (-x) (-y)) = sub (cx x y) (sc s (sc (-1) (VI z))) := by
        apply eqC <;> simp only [sub, sc, cx, Rat.intCast_neg] <;> grind
      rwa [e] at k2
    · have k3 := (VI_half z).neg.trans (VI_mod (z := z + 2147483648) (t := (z + 2147483648) % 4294967296) (by omega) (by omega))
      exact k3.mono (by grind)
  · rw [if_neg hn]
    obtain ⟨s, s0, k⟩ := right_near (x := x) (y := y) (by omega) h1 hb
    have hz := aS_far (scd x y).1 (scd x y).2 30 (by omega)
    generalize (aS (scd x y).1 (scd x y).2 30).2.2 = z at *
    refine ⟨s, s0, fin s (VI z) _ s0 k ?_⟩
    exact (VI_mod (z := z) (t := z % 4294967296) (by omega) (by omega)).mono (by grind)
/-- two directions that are near -/
theorem dir_near {s t e : Rat} {a b : Int} (hs : 0 < s) (ht : 0 ≤ t) (h : Nm (sub (sc s (VI a)) (sc t (VI b))) e) : Nm (sub (VI (a - b)) one) (s⁻¹ * (2 * e)) := by
  have hg := gap (VI_U a) (VI_U b) (Rat.le_of_lt hs) ht h
  have k : Nm (sub (sc t (VI b)) (sc s (VI b))) e := by
    have e1 : sub (sc t (VI b)) (sc s (VI b)) = sc (t - s) (VI b) := by apply eqC <;> simp only [sub, sc] <;> grind
    rw [e1]
    refine ⟨h.1, ?_⟩
    rw [n2_sc]
    have := VI_U b
    unfold U at this
    rw [this]
    have m1 := Rat.mul_nonneg (show 0 ≤ e - (t - s) by grind) (show 0 ≤ e + (t - s) by grind)
    grind
  have k2 := ((h.trans k).turn (VI_U b).cj).sc (Rat.le_of_lt (Rat.inv_pos.2 hs))
  have hi : s * s⁻¹ = 1 := Rat.mul_inv_cancel _ (by grind)
  generalize s⁻¹ = g at *
  rw [Int.sub_eq_add_neg, VI_add, VI_neg]
  have hu := (VI_U b).mul_cj
  generalize VI b = v at *
  generalize VI a = u at *
  have ee : Cx.sc g (mul (sub (sc s u) (sc s v)) (cj v)) = sub (mul u (cj v)) (mul v (cj v)) := by
    apply eqC <;> simp only [sub, sc, mul, cj] <;> grind
  rw [ee, hu] at k2
  exact k2.mono (by grind)
/-- the angle of sine and cosine -/
theorem turn_back {a : Int} (ha : 0 ≤ a ∧ a < 4294967296) : -1024 ≤ (angle (bothS a) (bothC a) - a + 2147483648) % 4294967296 - 2147483648 ∧ (angle (bothS a) (bothC a) - a + 2147483648) % 4294967296 - 2147483648 ≤ 1024 := by
  have hl := both_len ha
  obtain ⟨⟨c1, c2⟩, s1, s2⟩ := both_bd a
  have hn := both_near ha
  have hU := angle_U (bothS a) (bothC a)
  obtain ⟨s, s0, k⟩ := angle_near (x := bothC a) (y := bothS a) (fun h => by rw [h.1, h.2] at hl; omega) (by unfold big sz; omega)
  generalize bothC a = c at *
  generalize bothS a = d at *
  generalize angle d c = t at *
  have h1 := hn.neg.trans k
  have hO : (0 : Rat) < One := by decide +kernel
  have hg := gap (VI_U a) (VI_U t) (Rat.le_of_lt hO) (Rat.le_of_lt s0) h1
  have hs : s ≤ 4294969600 := by unfold One at *; grind
  have h2 := dir_near hO (Rat.le_of_lt s0) (h1.mono (f := 506) (by grind))
  have h3 := h2.neg
  have h4 : Nm (sub (VI (t - a)) one) (One⁻¹ * (2 * 506)) := by
    have e : t - a = -(a - t) := by omega
    rw [e, VI_neg]
    have := h2.cj
    generalize VI (a - t) = u at *
    have e1 : Cx.cj (sub u one) = sub (cj u) one := by apply eqC <;> simp only [Cx.cj, sub, one] <;> grind
    rwa [e1] at this
  unfold U32 at hU
  obtain ⟨n1, n2⟩ := near_mod (by omega) h4
  have hf : 2684354560 * (One⁻¹ * (2 * 506) + 8 * hair) ≤ ((1024 : Int) : Rat) := by decide +kernel
  constructor
  · refine Rat.intCast_le_intCast.1 ?_
    rw [show ((-1024 : Int) : Rat) = -((1024 : Int) : Rat) by decide +kernel]
    grind
  · exact Rat.intCast_le_intCast.1 (by grind)
end Cx
end Go.Xv
namespace Go.Xv
theorem f_TurnBack (F : Nat) (hF : 200 ≤ F) {a : Int} (ha : U32 a) : f_law05_TurnBack F a = some (.v (.bool true)) := by
  unfold f_law05_TurnBack
  obtain ⟨w1, w2⟩ := a_works05 F hF
  obtain ⟨h1, h2, h3⟩ := a_tBoth F hF ha
  obtain ⟨⟨c1, c2⟩, s1, s2⟩ := both_bd a
  obtain ⟨g1, g2⟩ := a_tAngle F hF (y := bothS a) (x := bothC a) (by unfold I64; omega) (by unfold I64; omega)
  obtain ⟨n1, n2⟩ := a_near F (n := 1024) (angle_U (bothS a) (bothC a)) ha (by omega)
  have hb := Cx.turn_back (a := a) (by unfold U32 at ha; omega)
  refine bp w1 (bn (by rw [w2]; rfl) (bp h1 ?_))
  rw [h2, h3]
  refine bp g1 ?_
  rw [g2]
  refine bp n1 (some_bool ?_)
  rw [n2]
  exact dt (by unfold wayV; omega)
end Go.Xv
namespace Go.Proofs.Ytpnggkefjgpleaa.turnBack
open Go.ChangeShapes Go.WideShapes Go.ChangeAt Go.RowKit Go.Xv Go.Proofs.Ytpnggkefjgpleaa.base
set_option linter.unusedVariables false
set_option maxRecDepth 100000 in
theorem lifted (os : Os) (started : os.Started) (H : Type) (enc : TypeId × Value → H) :
    ReturnsInHanded {} Try.checked os 8 .any (Rows.turnBackSpec.pre6 enc Try.prog Try.f8 Rows.turnBackRow.domain false) (Rows.turnBackSpec.post enc Try.prog Try.f8 false true false false) := by
  refine returnsInHanded_of_change (C := Try.checked) own started (by kernel_rfl) Try.func8
    (ChangeSpec.witness6 (enc := enc) (C := Try.checked) false ⟨#[], #[.int .u32 0], []⟩ 8 (by kernel_rfl) (by kernel_rfl) (by kernel_rfl) (by kernel_rfl)) ?_
  intro W base args ds gs before hval0 hW hcnd _
  have hval : ∀ (j : Nat) t v, Try.f8.params[j]? = some t → args[j]? = some v → Value.okWide Try.prog W .any base t v := hval0
  have hW' := hW
  obtain ⟨p, q, hA0, hV, rfl, hfz, hnd⟩ := hW
  have hA : DataW.TrodAll enc Try.prog W 0 (fun _ => true) true Try.f8.params.toList args.toList ds p := hA0
  rw [Try.params8] at hA hval
  obtain ⟨v0, vs0, d0, ds0, p0, q0, hargs, rfl, rfl, h0, r0⟩ := trodAll_cons hA
  obtain ⟨rfl, rfl, rfl⟩ := trodAll_nil r0
  obtain rfl : args = #[v0] := by cases args; simp_all
  obtain ⟨a0, rfl, wa0⟩ := open_num (k := .u32) (by kernel_rfl) (hval 0 30 v0 rfl rfl) h0
  refine law_contract laidOut (g_law05_TurnBack fuel0) (bt := 4) (by kernel_rfl) (by kernel_rfl) (by kernel_rfl) (by kernel_rfl) rfl hW' ?_
  refine ⟨[.v (.int .u32 a0)], rfl, fun i x hx => ?_, unS_of ?_⟩
  · match i, hx with
    | 0, hx => exact ⟨_, rfl, by cases hx; exact Rel.v _ _⟩
    | _ + 1, hx => cases hx
  · obtain ⟨y1, y2⟩ := k_law05_TurnBack fuel0 a0 (f_TurnBack fuel0 (by unfold fuel0; omega) (wf_u32 wa0))
    have e : s_law05_TurnBack fuel0 [.v (.int .u32 a0)] = some (ok_law05_TurnBack fuel0 a0, .v (.bool (o_law05_TurnBack_0 fuel0 a0))) := by kernel_rfl
    rw [e, y1, y2]
theorem over : Rows.turnBackRow.holds Try.pinned (OpenSpec.ofChange Rows.turnBackSpec) :=
  OpenClaim.holds_of_wide 8 Try.f8 rfl rfl rfl rfl rfl rfl rfl ⟨rfl, rfl, rfl, rfl, rfl⟩ rfl rfl rfl rfl rfl (by kernel_rfl) Try.func8 (joined_of (P := Try.prog) behind enter_ rfl rfl ⟨rfl, rfl⟩ (by kernel_rfl))
    (of_decide_eq_true (by kernel_rfl)) (by unfold Func.isWrapper; first | (rw [if_pos (by decide +kernel)]; kernel_rfl) | (rw [if_neg (by decide +kernel)]; exact ⟨rfl, rfl⟩))
    (fun os started H enc _ => lifted os started H enc)
/-- The statement. -/
theorem proved : Rows.TurnBackSaid := over
#print axioms proved
end Go.Proofs.Ytpnggkefjgpleaa.turnBack
