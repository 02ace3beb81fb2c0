/- AttTells: attitudes step, lift, head and lead as the reference does. -/
import Derived.Test.YtiahhalhbacgaaaGreatLAttTells3
import Derived.KernelRfl
namespace Go.Xv
/-- a list of bits that fills up from its end -/
def fillL (Q : Int) (c : Nat) : List VV := List.replicate c (.v (.int .i64 0)) ++ (ds Q 128).drop c
theorem fill_len (Q : Int) {c : Nat} (h : c ≤ 128) : (fillL Q c).length = 128 := by
  unfold fillL
  rw [List.length_append, List.length_replicate, List.length_drop, ds_len]; omega
theorem drop_cons (Q : Int) {c : Nat} (h : c < 128) : (ds Q 128).drop c = .v (.int .i64 (dg Q c)) :: (ds Q 128).drop (c + 1) := by
  have h1 : c < (ds Q 128).length := by rw [ds_len]; exact h
  rw [List.drop_eq_getElem_cons h1]
  congr 1
  have := ds_get Q h
  rw [List.getElem?_eq_getElem h1] at this
  exact Option.some.inj this
theorem fill_zero (Q : Int) {c : Nat} (h : c < 128) (hd : dg Q c = 0) : fillL Q (c + 1) = fillL Q c := by
  unfold fillL
  rw [drop_cons Q h, hd, List.replicate_succ', List.append_assoc]; rfl
theorem fill_one (Q : Int) {c : Nat} (h : c < 128) (hd : dg Q c = 1) : (fillL Q (c + 1)).take c ++ [.v (.int .i64 1)] ++ (fillL Q (c + 1)).drop (c + 1) = fillL Q c := by
  unfold fillL
  rw [drop_cons Q h, hd, List.take_append_of_le_length (by rw [List.length_replicate]; omega), List.take_replicate, List.drop_append, List.length_replicate, List.drop_eq_nil_of_le (by rw [List.length_replicate]; omega)]
  rw [show min c (c + 1) = c by omega, Nat.sub_self, List.drop_zero, List.nil_append, List.append_assoc]; rfl
theorem quo_dg {X b : Int} (i : Nat) (hb : 1 ≤ b) : X / 2 ^ i / b % 2 = dg (X / b) i := by
  unfold dg
  rw [Int.ediv_ediv_of_nonneg (Int.le_of_lt (p2pos i)), Int.ediv_ediv_of_nonneg (by omega), Int.mul_comm]
theorem lp_rDiv_0 (F : Nat) (ex) {X b : Int} (hX : 0 ≤ X) (hX2 : X < 340282366920938463463374607431768211456) (hb : 1 ≤ b) (hb2 : b ≤ 9223372036854775808) (z : Int) (hz : X = un z) (x0 x1 x2 x3 : Int) (x4 : Bool) (x9 x10 x11 x12 x13 x14 : Int) : ∀ (c n : Nat) (x7 x8 : Int) (l : List VV), c ≤ 128 → c < n →
    x7 = X / 2 ^ c % b → x8 = (c : Int) - 1 → l = fillL (X / b) c →
    L_ub_0 F ex n x0 x1 x2 x3 x4 b 128 x7 x8 x9 x10 x11 x12 x13 x14 (ds z 128) l = ex x0 x1 x2 x3 x4 b 128 (X % b) (-1) x9 x10 x11 x12 x13 x14 (ds z 128) (ds (X / b) 128)
  | _, 0, _, _, _, _, h, _, _, _ => absurd h (by omega)
  | 0, n + 1, _, _, _, _, _, rfl, rfl, rfl => by
    rw [L_ub_0]
    unfold B_ub_0 Bg_ub_0
    refine bn (df (by omega)) ?_
    rw [Int.pow_zero, Int.ediv_one]
    rfl
  | c + 1, n + 1, _, _, _, hc, hn, rfl, rfl, rfl => by
    have hc' : c < 128 := by omega
    have ih := lp_rDiv_0 F ex hX hX2 hb hb2 z hz x0 x1 x2 x3 x4 x9 x10 x11 x12 x13 x14 c n
    rw [L_ub_0]
    unfold B_ub_0 Bg_ub_0
    dsimp only
    rw [show ((c + 1 : Nat) : Int) - 1 = (c : Int) by omega]
    have hs := div_step (P := 2 ^ (127 - c)) (T := 2 ^ c) (p2pos _) (p2pos c) (by rw [Int.mul_comm, p128 hc']) hX hX2 hb hb2
    obtain ⟨_, _, ⟨s4, s5⟩, s6, s7, _⟩ := hs
    rw [show (2 : Int) * 2 ^ c = 2 ^ (c + 1) by rw [Int.pow_succ, Int.mul_comm]] at s4 s5 s6 s7
    have hbit : X / 2 ^ c % 2 = dg z c := by
      rw [hz]
      exact bitlo z (n := 128) hc'
    have hq := quo_dg (X := X) (b := b) c hb
    have hd := dg_01 z c
    have key : (b ≤ 2 * (X / 2 ^ (c + 1) % b) + dg z c → dg (X / b) c = 1) ∧ (2 * (X / 2 ^ (c + 1) % b) + dg z c < b → dg (X / b) c = 0) := by
      rw [← hq, ← hbit]
      have e : X / 2 ^ c / 2 = X / 2 ^ (c + 1) := ediv2 X c
      clear ih hn hbit hq hd
      generalize X / 2 ^ (c + 1) = H at *
      generalize X / 2 ^ c = h at *
      have g1 := Int.mul_ediv_add_emod H b
      constructor
      · intro hx
        obtain ⟨c1, _⟩ := s6 hx
        have e1 : h = (2 * (H % b) + h % 2 - b) + (2 * (H / b) + 1) * b := by
          rw [Int.add_mul, Int.one_mul, Int.mul_assoc, Int.mul_comm (H / b) b]; omega
        have : h / b = 2 * (H / b) + 1 := by
          have h2 : h / b = ((2 * (H % b) + h % 2 - b) + (2 * (H / b) + 1) * b) / b := by rw [← e1]
          rw [h2, Int.add_mul_ediv_right _ _ (by omega), Int.ediv_eq_zero_of_lt (by omega) (by omega)]; omega
        omega
      · intro hx
        have e1 : h = (2 * (H % b) + h % 2) + (2 * (H / b)) * b := by
          rw [Int.mul_assoc, Int.mul_comm (H / b) b]; omega
        have : h / b = 2 * (H / b) := by
          have h2 : h / b = ((2 * (H % b) + h % 2) + (2 * (H / b)) * b) / b := by rw [← e1]
          rw [h2, Int.add_mul_ediv_right _ _ (by omega), Int.ediv_eq_zero_of_lt (by omega) (by omega)]; omega
        omega
    rw [hbit] at s6 s7
    generalize hR : X / 2 ^ (c + 1) % b = R0 at *
    refine bp (dt (by omega)) (bp (ix_ok c 128 hc') (bp (isI_ds z hc') ?_))
    rw [iv_ds z hc', wu64_in (x := dg z c) (by unfold U64; omega), wu64_in (x := 2 * R0) (by unfold U64; omega), wu64_in (x := 2 * R0 + dg z c) (by unfold U64; omega)]
    refine bn (df (by omega)) ?_
    have w8 : IntKind.wrap .i64 ((c : Int) - 1) = (c : Int) - 1 := wi64_in (by unfold I64; omega)
    by_cases hx : b ≤ 2 * R0 + dg z c
    · refine bp (dt hx) (bp (ix_ok c 128 hc') (bp ?_ ?_))
      · rw [zmul, fill_len _ hc, dt (by omega)]
      · refine ih _ _ _ (by omega) (by omega) ?_ w8 ?_
        · rw [(s6 hx).1, wu64_in]
          unfold U64; omega
        · rw [zmul]
          exact fill_one _ hc' (key.1 hx)
    · refine bn (df hx) ?_
      exact ih _ _ _ (by omega) (by omega) (s7 (by omega)).1.symm w8 (fill_zero _ hc' (key.2 (by omega)))
theorem qt_un {z b : Int} (hz : W128 z) (hb : I64 b) (h0 : b ≠ 0) :
    (un (if z < 0 then -z else z) / (if b < 0 then -b else b) = if (decide (z < 0)) = (decide (b < 0)) then Int.tdiv z b else -Int.tdiv z b) ∧
    un (if z < 0 then -z else z) % (if b < 0 then -b else b) = (if z < 0 then -Int.tmod z b else Int.tmod z b) := by
  have e : un (if z < 0 then -z else z) = (if z < 0 then -z else z) := by unfold un; unfold W128 at hz; split <;> omega
  rw [e]
  by_cases h1 : z < 0 <;> by_cases h2 : b < 0
  · simp only [h1, h2, if_true]
    rw [← Int.tdiv_eq_ediv_of_nonneg (by omega), ← Int.tmod_eq_emod_of_nonneg (by omega), Int.neg_tdiv_neg, Int.neg_tmod, Int.tmod_neg]
    exact ⟨rfl, rfl⟩
  · simp only [h1, h2, if_true, if_false, decide_true, decide_false]
    rw [← Int.tdiv_eq_ediv_of_nonneg (by omega), ← Int.tmod_eq_emod_of_nonneg (by omega), Int.neg_tdiv, Int.neg_tmod]
    exact ⟨rfl, rfl⟩
  · simp only [h1, h2, if_true, if_false, decide_true, decide_false]
    rw [← Int.tdiv_eq_ediv_of_nonneg (by omega), ← Int.tmod_eq_emod_of_nonneg (by omega), Int.tdiv_neg, Int.tmod_neg]
    exact ⟨rfl, rfl⟩
  · simp only [h1, h2, if_true, if_false]
    rw [← Int.tdiv_eq_ediv_of_nonneg (by omega), ← Int.tmod_eq_emod_of_nonneg (by omega)]
    exact ⟨rfl, rfl⟩
end Go.Xv
namespace Go.Xv
/-- what a division answers -/
def divR (z b : Int) : Value := if b = 0 then .tuple #[.agg #[.int .i64 0, .int .u64 0], .int .i64 0, .bool false] else .tuple #[.agg #[.int .i64 (hi (Int.tdiv z b)), .int .u64 (lo (Int.tdiv z b))], .int .i64 (Int.tmod z b), .bool true]
theorem tmod_I {z b : Int} (hb : I64 b) (h0 : b ≠ 0) : -9223372036854775808 < Int.tmod z b ∧ Int.tmod z b < 9223372036854775808 := by
  unfold I64 at hb
  have h1 := Int.emod_nonneg (if z < 0 then -z else z) (show (if b < 0 then -b else b) ≠ 0 by split <;> omega)
  have h2 := Int.emod_lt_of_pos (if z < 0 then -z else z) (show 0 < (if b < 0 then -b else b) by split <;> omega)
  have h3 : (if z < 0 then -z else z) % (if b < 0 then -b else b) = (if z < 0 then -Int.tmod z b else Int.tmod z b) := by
    by_cases hz : z < 0 <;> by_cases hbn : b < 0 <;> simp only [hz, hbn, if_true, if_false]
    · rw [← Int.tmod_eq_emod_of_nonneg (by omega), Int.neg_tmod, Int.tmod_neg]
    · rw [← Int.tmod_eq_emod_of_nonneg (by omega), Int.neg_tmod]
    · rw [← Int.tmod_eq_emod_of_nonneg (by omega), Int.tmod_neg]
    · rw [← Int.tmod_eq_emod_of_nonneg (by omega)]
  rw [h3] at h1 h2
  revert h1 h2
  by_cases hz : z < 0 <;> simp only [hz, if_true, if_false] <;> intro h1 h2 <;> split at h2 <;> omega
theorem val_neg {a b : Int} (hb : U64 b) : (val a b < 0) ↔ a < 0 := by unfold val; unfold U64 at hb; omega
theorem some_div {x y r z b : Int} (h0 : b ≠ 0) (hx : x = hi (Int.tdiv z b)) (hy : y = lo (Int.tdiv z b)) (hr : r = Int.tmod z b) :
    (some (VV.v (.tuple #[.agg #[.int .i64 x, .int .u64 y], .int .i64 r, .bool true])) : R) = some (.v (divR z b)) := by
  unfold divR
  rw [if_neg h0, hx, hy, hr]
theorem f_Div (F : Nat) (hF : 200 ≤ F) {a c b : Int} (ha : I64 a) (hc : U64 c) (hb : I64 b) : f_dd F a c b = some (.v (divR (val a c) b)) := by
  unfold f_dd fg_dd
  dsimp only
  by_cases h0 : b = 0
  · refine bp (by simp [h0]) ?_
    unfold divR
    rw [if_pos h0]
  · refine bn (by simp [h0]) ?_
    have hz := val_W ha hc
    have hzn := val_neg (a := a) hc
    obtain ⟨q1, q2⟩ := qt_un hz hb h0
    have hm := tmod_I (z := val a c) hb h0
    obtain ⟨b1, b2⟩ := k_rc F b (f_bare F hb)
    have hb1 : 1 ≤ (if b < 0 then -b else b) ∧ (if b < 0 then -b else b) ≤ 9223372036854775808 := by unfold I64 at hb; split <;> omega
    by_cases han : a < 0
    · have hvn := hzn.2 han
      simp only [hvn, if_true, decide_true] at q1 q2
      obtain ⟨n1, n2, n3⟩ := k_fd F _ _ (f_Neg F ha hc)
      obtain ⟨d1, d2, d3, d4⟩ := k_ka F _ _ _ (f_divide F hF (-val a c) hb1.1 hb1.2)
      refine bp (dt han) (bp n1 (bp b1 ?_))
      rw [n2, n3, b2]
      refine bp d1 ?_
      rw [d2, d3, d4, q1, q2]
      have w1 : IntKind.wrap .i64 (0 - IntKind.wrap .i64 (-Int.tmod (val a c) b)) = Int.tmod (val a c) b := by rw [wi64, wi64]; omega
      by_cases hbn : b < 0
      · simp only [han, hbn, decide_true, if_true, BEq.rfl, Bool.not_true, cond_false, cond_true]
        exact some_div h0 rfl rfl w1
      · simp only [han, hbn, decide_true, decide_false]
        refine bp rfl ?_
        simp only [show ((true = false) ↔ False) by decide, if_false]
        obtain ⟨m1, m2, m3⟩ := a_Neg F (-Int.tdiv (val a c) b)
        refine bp m1 ?_
        rw [m2, m3, Int.neg_neg]
        exact bp rfl (some_div h0 rfl rfl w1)
    · have hvn : ¬ val a c < 0 := fun h => han (hzn.1 h)
      simp only [hvn, if_false, decide_false] at q1 q2
      have hv1 := hi_val ha hc
      have hv2 := lo_val (h := a) hc
      have hd := k_ka F _ _ _ (f_divide F hF (val a c) hb1.1 hb1.2)
      rw [hv1, hv2] at hd
      obtain ⟨d1, d2, d3, d4⟩ := hd
      refine bn (df han) (bp b1 ?_)
      rw [b2]
      refine bp d1 ?_
      rw [d2, d3, d4, q1, q2]
      have w1 : IntKind.wrap .i64 (Int.tmod (val a c) b) = Int.tmod (val a c) b := by rw [wi64]; omega
      by_cases hbn : b < 0
      · simp only [han, hbn, decide_true, decide_false]
        refine bp rfl ?_
        simp only [show ((false = true) ↔ False) by decide, if_false]
        obtain ⟨m1, m2, m3⟩ := a_Neg F (-Int.tdiv (val a c) b)
        refine bp m1 ?_
        rw [m2, m3, Int.neg_neg]
        exact bn rfl (some_div h0 rfl rfl w1)
      · simp only [han, hbn, decide_false, if_true, BEq.rfl, Bool.not_true, cond_false]
        exact some_div h0 rfl rfl w1
theorem rep_flat (x : VV) : ∀ n, (List.replicate n [x]).flatten = List.replicate n x
  | 0 => rfl
  | n + 1 => by rw [List.replicate_succ, List.flatten_cons, rep_flat x n, List.replicate_succ]; rfl
theorem fill_all (Q : Int) : (List.replicate 128 [VV.v (.int .i64 0)]).flatten = fillL Q 128 := by
  unfold fillL
  rw [rep_flat, List.drop_eq_nil_of_le (by rw [ds_len]; omega), List.append_nil]
theorem rDiv_loop (F : Nat) (hF : 200 ≤ F) (ex) (z : Int) {b : Int} (hb : 1 ≤ b) (hb2 : b ≤ 9223372036854775808) (x0 x1 x2 x3 : Int) (x4 : Bool) (x9 x10 x11 x12 x13 x14 : Int) :
    L_ub_0 F ex F x0 x1 x2 x3 x4 b 128 0 127 x9 x10 x11 x12 x13 x14 (ds z 128) ((List.replicate 128 [VV.v (.int .i64 0)]).flatten) = ex x0 x1 x2 x3 x4 b 128 (un z % b) (-1) x9 x10 x11 x12 x13 x14 (ds z 128) (ds (un z / b) 128) := by
  have h1 : 0 ≤ un z ∧ un z < 340282366920938463463374607431768211456 := by unfold un; omega
  refine lp_rDiv_0 F ex h1.1 h1.2 hb hb2 z rfl x0 x1 x2 x3 x4 x9 x10 x11 x12 x13 x14 128 F 0 127 _ (by omega) (by omega) ?_ (by omega) (fill_all _)
  rw [show (2 : Int) ^ 128 = 340282366920938463463374607431768211456 by decide, Int.ediv_eq_zero_of_lt h1.1 h1.2]; simp
theorem f_rDiv (F : Nat) (hF : 200 ≤ F) {a c b : Int} (ha : I64 a) (hc : U64 c) (hb : I64 b) : f_ub F a c b = some (.v (divR (val a c) b)) := by
  unfold f_ub fg_ub
  dsimp only
  by_cases h0 : b = 0
  · refine bp (by simp [h0]) ?_
    unfold divR
    rw [if_pos h0]
  · refine bn (by simp [h0]) ?_
    have hz := val_W ha hc
    have hzn := val_neg (a := a) hc
    obtain ⟨q1, q2⟩ := qt_un hz hb h0
    have hm := tmod_I (z := val a c) hb h0
    have hb1 : 1 ≤ (if b < 0 then -b else b) ∧ (if b < 0 then -b else b) ≤ 9223372036854775808 := by unfold I64 at hb; split <;> omega
    by_cases han : a < 0
    · have hvn := hzn.2 han
      simp only [hvn, if_true, decide_true] at q1 q2
      obtain ⟨n1, n2, n3⟩ := k_wb F _ _ (f_rNeg F hF (a := a) hc)
      obtain ⟨d1, d2, d3⟩ := k_j F _ _ (f_Digits F hF (a := hi (-val a c)) (lo_U (-val a c)))
      have hds : ds (W (-val a c)) 128 = ds (-val a c) 128 := by
        unfold ds
        apply List.map_congr_left
        intro i hi
        have hi : i < 128 := List.mem_range.1 hi
        unfold dg
        rw [← bitlo _ hi, ← bitlo (-val a c) hi]
        have := W_eqv (-val a c)
        unfold Eqv at this
        rw [show (2 : Int) ^ 128 = 340282366920938463463374607431768211456 by decide, this]
      rw [val_hl, hds] at d2
      refine bp (dt han) (bp n1 ?_)
      rw [n2, n3]
      have w1 : IntKind.wrap .i64 (0 - IntKind.wrap .i64 (-Int.tmod (val a c) b)) = Int.tmod (val a c) b := by rw [wi64, wi64]; omega
      by_cases hbn : b < 0
      · simp only [hbn, if_true, decide_true] at q1 q2 hb1
        have hw : IntKind.wrap .u64 (IntKind.wrap .u64 (IntKind.wrap .i64 (0 - IntKind.wrap .i64 (b + 1))) + 1) = -b := by unfold I64 at hb; rw [wi64, wi64, wu64, wu64]; omega
        refine bp (dt hbn) (bp d1 ?_)
        rw [d2, d3, hw, rDiv_loop F hF _ _ hb1.1 hb1.2, q1, q2]
        obtain ⟨e1, e2, e3⟩ := k_k F _ _ (f_Number F hF (Int.tdiv (val a c) b))
        refine bp e1 (bn (by simp [han, hbn]) (bp (dt han) ?_))
        rw [e2, e3]
        exact some_div h0 rfl rfl w1
      · simp only [hbn, if_false, decide_false, show ((true = false) ↔ False) by decide] at q1 q2 hb1
        refine bn (df hbn) (bp d1 ?_)
        rw [d2, d3, wu64_in (x := b) (by unfold I64 at hb; unfold U64; omega), rDiv_loop F hF _ _ hb1.1 hb1.2, q1, q2]
        obtain ⟨e1, e2, e3⟩ := k_k F _ _ (f_Number F hF (-Int.tdiv (val a c) b))
        obtain ⟨m1, m2, m3⟩ := a_rNeg F hF (-Int.tdiv (val a c) b)
        refine bp e1 (bp (by simp [han, hbn]) ?_)
        rw [e2, e3]
        refine bp m1 (bp (dt han) ?_)
        rw [m2, m3, Int.neg_neg]
        exact some_div h0 rfl rfl w1
    · have hvn : ¬ val a c < 0 := fun h => han (hzn.1 h)
      simp only [hvn, if_false, decide_false] at q1 q2
      obtain ⟨d1, d2, d3⟩ := k_j F _ _ (f_Digits F hF (a := a) hc)
      refine bn (df han) ?_
      have w1 : IntKind.wrap .i64 (Int.tmod (val a c) b) = Int.tmod (val a c) b := by rw [wi64]; omega
      by_cases hbn : b < 0
      · simp only [hbn, if_true, decide_true, show ((false = true) ↔ False) by decide, if_false] at q1 q2 hb1
        have hw : IntKind.wrap .u64 (IntKind.wrap .u64 (IntKind.wrap .i64 (0 - IntKind.wrap .i64 (b + 1))) + 1) = -b := by unfold I64 at hb; rw [wi64, wi64, wu64, wu64]; omega
        refine bp (dt hbn) (bp d1 ?_)
        rw [d2, d3, hw, rDiv_loop F hF _ _ hb1.1 hb1.2, q1, q2]
        obtain ⟨e1, e2, e3⟩ := k_k F _ _ (f_Number F hF (-Int.tdiv (val a c) b))
        obtain ⟨m1, m2, m3⟩ := a_rNeg F hF (-Int.tdiv (val a c) b)
        refine bp e1 (bp (by simp [han, hbn]) ?_)
        rw [e2, e3]
        refine bp m1 (bn (df han) ?_)
        rw [m2, m3, Int.neg_neg]
        exact some_div h0 rfl rfl w1
      · simp only [hbn, if_false, decide_false, if_true] at q1 q2 hb1
        refine bn (df hbn) (bp d1 ?_)
        rw [d2, d3, wu64_in (x := b) (by unfold I64 at hb; unfold U64; omega), rDiv_loop F hF _ _ hb1.1 hb1.2, q1, q2]
        obtain ⟨e1, e2, e3⟩ := k_k F _ _ (f_Number F hF (Int.tdiv (val a c) b))
        refine bp e1 (bn (by simp [han, hbn]) (bn (df han) ?_))
        rw [e2, e3]
        exact some_div h0 rfl rfl w1
end Go.Xv
namespace Go.Xv
theorem mul_bd {a b : Int} (ha : I64 a) (hb : I64 b) : -85070591730234615865843651857942052864 ≤ a * b ∧ a * b ≤ 85070591730234615865843651857942052864 := by
  unfold I64 at ha hb
  have h : (a * b).natAbs ≤ 9223372036854775808 * 9223372036854775808 := by
    rw [Int.natAbs_mul]
    exact Nat.mul_le_mul (by omega) (by omega)
  omega
theorem mul_W {a b : Int} (ha : I64 a) (hb : I64 b) : W128 (a * b) := by
  have := mul_bd ha hb
  unfold W128; omega
theorem cl32 : cl 32 = 32 := by decide
theorem near_W {z : Int} (h : -85070591730234615865843651857942052864 ≤ z ∧ z ≤ 85070591730234615865843651857942052864) : W128 (near z 32) := by
  unfold near
  rw [if_neg (by decide), show (2 : Int) ^ 32 = 4294967296 by decide, show (2 : Int) ^ (32 - 1) = 2147483648 by decide]
  unfold W128; omega
abbrev cp (z : Int) : VV := .v (.tuple #[.int .i64 (clipV z), .bool (clipC z)])
theorem clip_in {z : Int} (h : I64 z) : clipV z = z ∧ clipC z = false := by
  unfold I64 at h
  unfold clipV clipC
  exact ⟨by rw [if_neg (by omega), if_neg (by omega)], df (by omega)⟩

theorem f_fclip (F : Nat) {z : Int} (h : W128 z) : f_uc F (hi z) (lo z) = some (cp z) := by
  unfold f_uc fg_uc
  obtain ⟨h1, h2, h3⟩ := a_Clip F h
  refine bp h1 ?_
  rw [h2, h3]
theorem a_fclip (F : Nat) {z : Int} (h : W128 z) : ok_uc F (hi z) (lo z) = true ∧ o_uc_0 F (hi z) (lo z) = clipV z ∧ o_uc_1 F (hi z) (lo z) = clipC z := k_uc F _ _ (f_fclip F h)
theorem f_rclip2 (F : Nat) {z : Int} (h : W128 z) : f_qa F (hi z) (lo z) = some (cp z) := by
  unfold f_qa fg_qa
  obtain ⟨h1, h2, h3⟩ := a_rClip F h
  refine bp h1 ?_
  rw [h2, h3]
theorem a_rclip2 (F : Nat) {z : Int} (h : W128 z) : ok_qa F (hi z) (lo z) = true ∧ o_qa_0 F (hi z) (lo z) = clipV z ∧ o_qa_1 F (hi z) (lo z) = clipC z := k_qa F _ _ (f_rclip2 F h)
theorem f_fof (F : Nat) {n : Int} (h : I64 n) : f_rd F n = some (wd n) := by
  unfold f_rd fg_rd
  obtain ⟨h1, h2, h3⟩ := a_Of F h
  refine bp h1 ?_
  rw [h2, h3]; rfl
theorem a_fof (F : Nat) {n : Int} (h : I64 n) : ok_rd F n = true ∧ o_rd_0 F n = hi n ∧ o_rd_1 F n = lo n := k_rd F _ (f_fof F h)

theorem f_fSub (F : Nat) {a b : Int} (ha : I64 a) (hb : I64 b) : f_kd F a b = some (cp (a - b)) := by
  unfold f_kd fg_kd
  dsimp only
  have hs := wi64_I (a - b)
  have e := wi64 (a - b)
  generalize IntKind.wrap .i64 (a - b) = s at *
  have h1 := and_neg (xorI_I a b) (xorI_I a s)
  have h2 := xor_neg ha hb
  have h3 := xor_neg ha hs
  unfold I64 at ha hb hs
  by_cases h : -9223372036854775808 ≤ a - b ∧ a - b < 9223372036854775808
  · refine bp (dt ?_) (some_clip ?_ ?_)
    · have : ¬ andI .i64 (xorI .i64 a b) (xorI .i64 a s) < 0 := by
        rw [h1, h2, h3]; omega
      omega
    · rw [(clip_in h).1]; omega
    · rw [(clip_in h).2]
  · refine bn (df ?_) ?_
    · have : andI .i64 (xorI .i64 a b) (xorI .i64 a s) < 0 := by
        rw [h1, h2, h3]; omega
      omega
    · by_cases ha0 : a < 0
      · refine bp (dt ha0) (some_clip ?_ ?_)
        · unfold clipV; rw [if_pos (by omega)]
        · unfold clipC; exact (dt (by omega)).symm
      · refine bn (df ha0) (some_clip ?_ ?_)
        · unfold clipV; rw [if_neg (by omega), if_pos (by omega)]
        · unfold clipC; exact (dt (by omega)).symm
theorem a_fSub (F : Nat) {a b : Int} (ha : I64 a) (hb : I64 b) : ok_kd F a b = true ∧ o_kd_0 F a b = clipV (a - b) ∧ o_kd_1 F a b = clipC (a - b) := k_kd F _ _ (f_fSub F ha hb)
theorem I0 : I64 0 := by unfold I64; omega
theorem f_fNeg (F : Nat) {a : Int} (ha : I64 a) : f_jd F a = some (cp (-a)) := by
  unfold f_jd fg_jd
  obtain ⟨h1, h2, h3⟩ := a_fSub F I0 ha
  refine bp h1 ?_
  rw [h2, h3, Int.zero_sub]
theorem a_fNeg (F : Nat) {a : Int} (ha : I64 a) : ok_jd F a = true ∧ o_jd_0 F a = clipV (-a) ∧ o_jd_1 F a = clipC (-a) := k_jd F _ (f_fNeg F ha)
theorem f_fMul (F : Nat) {a b : Int} (ha : I64 a) (hb : I64 b) : f_id F a b = some (cp (near (a * b) 32)) := by
  unfold f_id fg_id
  obtain ⟨h1, h2, h3⟩ := a_Mul F ha hb
  obtain ⟨n1, n2, n3⟩ := a_Near F 32 (mul_W ha hb)
  obtain ⟨c1, c2, c3⟩ := a_fclip F (near_W (mul_bd ha hb))
  refine bp h1 ?_
  rw [h2, h3]
  refine bp n1 ?_
  rw [n2, n3, cl32]
  refine bp c1 ?_
  rw [c2, c3]
theorem a_fMul (F : Nat) {a b : Int} (ha : I64 a) (hb : I64 b) : ok_id F a b = true ∧ o_id_0 F a b = clipV (near (a * b) 32) ∧ o_id_1 F a b = clipC (near (a * b) 32) := k_id F _ _ (f_fMul F ha hb)
theorem p32W {a : Int} (ha : I64 a) : W128 (a * 4294967296) := by unfold I64 at ha; unfold W128; omega
theorem f_fClamp (F : Nat) {a l h : Int} : f_pb F a l h = some (.v (.tuple #[.int .i64 (if h < l then l else min (max a l) h), .bool (if h < l then true else decide (min (max a l) h ≠ a))])) := by
  unfold f_pb fg_pb
  dsimp only
  by_cases hl : h < l
  · refine bp (dt hl) ?_
    rw [if_pos hl, if_pos hl]
  · refine bn (df hl) ?_
    rw [if_neg hl, if_neg hl]
    have e : (if h < (if l > a then l else a) then h else (if l > a then l else a)) = min (max a l) h := by split <;> (try split) <;> omega
    have e2 : (min (max a l) h != a) = decide (min (max a l) h ≠ a) := by rw [Bool.eq_iff_iff]; simp
    rw [e, e2]
theorem f_rSub2 (F : Nat) (hF : 200 ≤ F) {a b : Int} (ha : I64 a) (hb : I64 b) : f_zb F a b = some (cp (a - b)) := by
  unfold f_zb fg_zb
  obtain ⟨h1, h2, h3⟩ := a_rOf F ha
  obtain ⟨g1, g2, g3⟩ := a_rOf F hb
  obtain ⟨n1, n2, n3⟩ := a_rNeg F hF b
  obtain ⟨s1, s2, s3⟩ := a_rAdd F hF a (-b)
  obtain ⟨c1, c2, c3⟩ := a_rclip2 F (z := a + -b) (by unfold I64 at *; unfold W128; omega)
  refine bp h1 (bp g1 ?_)
  rw [h2, h3, g2, g3]
  refine bp n1 ?_
  rw [n2, n3]
  refine bp s1 ?_
  rw [s2, s3]
  refine bp c1 ?_
  rw [c2, c3, ← Int.sub_eq_add_neg]
theorem f_rMul2 (F : Nat) (hF : 200 ≤ F) {a b : Int} (ha : I64 a) (hb : I64 b) : f_yb F a b = some (cp (near (a * b) 32)) := by
  unfold f_yb fg_yb
  obtain ⟨h1, h2, h3⟩ := a_rMul F hF ha hb
  obtain ⟨n1, n2, n3⟩ := a_rNear F hF 32 (mul_W ha hb)
  obtain ⟨c1, c2, c3⟩ := a_rclip2 F (near_W (mul_bd ha hb))
  refine bp h1 ?_
  rw [h2, h3]
  refine bp n1 ?_
  rw [n2, n3, cl32]
  refine bp c1 ?_
  rw [c2, c3]
end Go.Xv
namespace Go.Xv
theorem angL_get : ∀ i : Nat, i < 30 → isI .i64 [.v (.int .i64 536870912), .v (.int .i64 316933406), .v (.int .i64 167458907), .v (.int .i64 85004756), .v (.int .i64 42667331), .v (.int .i64 21354465), .v (.int .i64 10679838), .v (.int .i64 5340245), .v (.int .i64 2670163), .v (.int .i64 1335087), .v (.int .i64 667544), .v (.int .i64 333772), .v (.int .i64 166886), .v (.int .i64 83443), .v (.int .i64 41722), .v (.int .i64 20861), .v (.int .i64 10430), .v (.int .i64 5215), .v (.int .i64 2608), .v (.int .i64 1304), .v (.int .i64 652), .v (.int .i64 326), .v (.int .i64 163), .v (.int .i64 81), .v (.int .i64 41), .v (.int .i64 20), .v (.int .i64 10), .v (.int .i64 5), .v (.int .i64 3), .v (.int .i64 1)][i]? = true ∧ iv [.v (.int .i64 536870912), .v (.int .i64 316933406), .v (.int .i64 167458907), .v (.int .i64 85004756), .v (.int .i64 42667331), .v (.int .i64 21354465), .v (.int .i64 10679838), .v (.int .i64 5340245), .v (.int .i64 2670163), .v (.int .i64 1335087), .v (.int .i64 667544), .v (.int .i64 333772), .v (.int .i64 166886), .v (.int .i64 83443), .v (.int .i64 41722), .v (.int .i64 20861), .v (.int .i64 10430), .v (.int .i64 5215), .v (.int .i64 2608), .v (.int .i64 1304), .v (.int .i64 652), .v (.int .i64 326), .v (.int .i64 163), .v (.int .i64 81), .v (.int .i64 41), .v (.int .i64 20), .v (.int .i64 10), .v (.int .i64 5), .v (.int .i64 3), .v (.int .i64 1)][i]? = tA i := by decide
theorem zmul1 (i : Nat) : (Int.toNat (i : Int)) * 1 = i := by simp
theorem turnedF (F : Nat) {x y : Int} {i : Nat} (hi : i < 64) (o : Bool) (h1 : I64 (rotX i o x y)) (h2 : I64 (rotY i o x y)) : ok_b F x y i o = true ∧ o_b_0 F x y i o = rotX i o x y ∧ o_b_1 F x y i o = rotY i o x y := by
  refine k_b F _ _ _ _ ?_
  unfold f_b fg_b
  have hd : (!decide ((i : Int) < 0)) = true := nn i
  have hP := p2pos i
  rw [hd, p2min (by omega), fdiv_pos _ (by omega), fdiv_pos _ (by omega)]
  simp only [cond_true]
  unfold rotX rotY at *
  cases o
  · simp only [Bool.false_eq_true, if_false, cond_false] at *
    rw [wi64_in h1, wi64_in h2]
  · simp only [if_true, cond_true] at *
    rw [wi64_in h1, wi64_in h2]
theorem unitF (F : Nat) (x : Int) : ok_ic F x = true ∧ o_ic_0 F x = cl01 x := by
  refine k_ic F _ ?_
  unfold f_ic fg_ic
  obtain ⟨h1, h2, h3⟩ := k_pb F _ _ _ (f_fClamp F (a := x) (l := 0) (h := 4294967296))
  rw [h1, h2]
  rfl
theorem lp_turn_Both_0 (F : Nat) (ex) {z : Int} (hz : 0 ≤ z ∧ z < 1073741824) (x0 x1 x2 : Int) : ∀ (k n i : Nat) (x3 x34 x35 x36 : Int), i + k = 30 → k < n → x34 = i → x35 = (bS z i).1 → x36 = (bS z i).2.1 → x3 = (bS z i).2.2 →
    L_gc_0 F ex n x0 x1 x2 x3 536870912 316933406 167458907 85004756 42667331 21354465 10679838 5340245 2670163 1335087 667544 333772 166886 83443 41722 20861 10430 5215 2608 1304 652 326 163 81 41 20 10 5 3 1 x34 x35 x36 = ex x0 x1 x2 (bS z 30).2.2 536870912 316933406 167458907 85004756 42667331 21354465 10679838 5340245 2670163 1335087 667544 333772 166886 83443 41722 20861 10430 5215 2608 1304 652 326 163 81 41 20 10 5 3 1 30 (bS z 30).1 (bS z 30).2.1
  | _, 0, _, _, _, _, _, _, h, _, _, _, _ => absurd h (by omega)
  | 0, n + 1, i, _, _, _, _, h, _, rfl, rfl, rfl, rfl => by
    obtain rfl : i = 30 := by omega
    rw [L_gc_0]
    unfold B_gc_0 Bg_gc_0
    exact bn (df (by omega)) rfl
  | k + 1, n + 1, i, _, _, _, _, h, hn, rfl, rfl, rfl, rfl => by
    have hi' : i < 30 := by omega
    obtain ⟨g1, g2⟩ := angL_get i hi'
    have b1 := bS_I z (i := i + 1) (by omega)
    have b2 := bS_z hz (i := i) (by omega)
    have b3 := tA_bd i hi'
    obtain ⟨t1, t2, t3⟩ := turnedF F (x := (bS z i).1) (y := (bS z i).2.1) (i := i) (by omega) (decide (0 ≤ (bS z i).2.2)) (by simp only [bS] at b1; unfold I64; omega) (by simp only [bS] at b1; unfold I64; omega)
    rw [L_gc_0]
    unfold B_gc_0 Bg_gc_0
    refine bp (dt (by omega)) (bp (by rw [zmul1, g1, show ((decide (0 ≤ (i : Int))) && (decide ((i : Int) < 30))) = true from ix_ok i 30 hi']; rfl) ?_)
    rw [zmul1, g2]
    have eg : decide ((bS z i).2.2 ≥ 0) = decide (0 ≤ (bS z i).2.2) := rfl
    rw [eg]
    refine bp t1 ?_
    rw [t2, t3]
    have w1 : IntKind.wrap .i64 ((i : Int) + 1) = ((i + 1 : Nat) : Int) := wi64_s i (by omega)
    rw [w1]
    by_cases hs : 0 ≤ (bS z i).2.2
    · refine bp (dt hs) ?_
      refine lp_turn_Both_0 F ex hz x0 x1 x2 k n (i + 1) _ _ _ _ (by omega) (by omega) rfl rfl rfl ?_
      simp only [bS]
      rw [if_pos hs, wi64_in (x := 0 - tA i) (by unfold I64; omega), wi64_in (by unfold I64; omega)]
      omega
    · refine bn (df hs) ?_
      refine lp_turn_Both_0 F ex hz x0 x1 x2 k n (i + 1) _ _ _ _ (by omega) (by omega) rfl rfl rfl ?_
      simp only [bS]
      rw [if_neg hs, wi64_in (by unfold I64; omega)]
theorem mask30_u32 {a : Int} (ha : U32 a) : andI .u32 a 1073741823 = a % 1073741824 := by
  have e : andI .u32 a 1073741823 = IntKind.wrap .u32 ((BitVec.ofInt 32 a &&& BitVec.ofInt 32 1073741823).toNat : Int) := rfl
  unfold U32 at ha
  have h1 : (BitVec.ofInt 32 a).toNat = a.toNat := by simp only [BitVec.toNat_ofInt]; omega
  have h2 : (BitVec.ofInt 32 1073741823).toNat = 2 ^ 30 - 1 := by decide
  rw [e, BitVec.toNat_and, h1, h2, Nat.and_two_pow_sub_one_eq_mod, wu32]
  omega
theorem angF (F : Nat) : ok_ga F = true ∧ o_ga_0 F = 536870912 ∧ o_ga_1 F = 316933406 ∧ o_ga_2 F = 167458907 ∧ o_ga_3 F = 85004756 ∧ o_ga_4 F = 42667331 ∧ o_ga_5 F = 21354465 ∧ o_ga_6 F = 10679838 ∧ o_ga_7 F = 5340245 ∧ o_ga_8 F = 2670163 ∧ o_ga_9 F = 1335087 ∧ o_ga_10 F = 667544 ∧ o_ga_11 F = 333772 ∧ o_ga_12 F = 166886 ∧ o_ga_13 F = 83443 ∧ o_ga_14 F = 41722 ∧ o_ga_15 F = 20861 ∧ o_ga_16 F = 10430 ∧ o_ga_17 F = 5215 ∧ o_ga_18 F = 2608 ∧ o_ga_19 F = 1304 ∧ o_ga_20 F = 652 ∧ o_ga_21 F = 326 ∧ o_ga_22 F = 163 ∧ o_ga_23 F = 81 ∧ o_ga_24 F = 41 ∧ o_ga_25 F = 20 ∧ o_ga_26 F = 10 ∧ o_ga_27 F = 5 ∧ o_ga_28 F = 3 ∧ o_ga_29 F = 1 := k_ga F rfl
theorem some_two {a b c d : Int} (h : a = c) (k : b = d) : (some (VV.v (.tuple #[.int .i64 a, .int .i64 b])) : R) = some (.v (.tuple #[.int .i64 c, .int .i64 d])) := by rw [h, k]
theorem f_tBoth (F : Nat) (hF : 200 ≤ F) {a : Int} (ha : U32 a) : f_gc F a = some (.v (.tuple #[.int .i64 (bothC a), .int .i64 (bothS a)])) := by
  unfold f_gc fg_gc
  obtain ⟨h0, e0, e1, e2, e3, e4, e5, e6, e7, e8, e9, e10, e11, e12, e13, e14, e15, e16, e17, e18, e19, e20, e21, e22, e23, e24, e25, e26, e27, e28, e29⟩ := angF F
  refine bp h0 ?_
  rw [e0, e1, e2, e3, e4, e5, e6, e7, e8, e9, e10, e11, e12, e13, e14, e15, e16, e17, e18, e19, e20, e21, e22, e23, e24, e25, e26, e27, e28, e29, mask30_u32 ha]
  have hz : 0 ≤ a % 1073741824 ∧ a % 1073741824 < 1073741824 := by omega
  rw [wi64_in (x := a % 1073741824) (by unfold I64; omega), lp_turn_Both_0 F _ hz a 0 0 30 F 0 (a % 1073741824) 0 2608131496 0 (by omega) (by omega) rfl rfl rfl rfl]
  obtain ⟨u1, u2⟩ := unitF F (bS (a % 1073741824) 30).1
  obtain ⟨v1, v2⟩ := unitF F (bS (a % 1073741824) 30).2.1
  refine bp u1 (bp v1 ?_)
  rw [u2, v2]
  obtain ⟨F, rfl⟩ : ∃ G, F = G + 4 := ⟨F - 4, by omega⟩
  have c1 := cl01_bd (bS (a % 1073741824) 30).1
  have c2 := cl01_bd (bS (a % 1073741824) 30).2.1
  unfold U32 at ha
  have w0 : IntKind.wrap .u32 (0 + 1) = 1 := by rw [wu32]; omega
  have w1 : IntKind.wrap .u32 (1 + 1) = 2 := by rw [wu32]; omega
  have w2 : IntKind.wrap .u32 (2 + 1) = 3 := by rw [wu32]; omega
  have eC : cl01 (bS (a % 1073741824) 30).1 = bC a := rfl
  have eN : cl01 (bS (a % 1073741824) 30).2.1 = bN a := rfl
  rw [eC] at c1 ⊢
  rw [eN] at c2 ⊢
  rw [fdiv_pos _ (by decide)]
  have n1 : IntKind.wrap .i64 (0 - bN a) = -bN a := by rw [wi64_in (by unfold I64; omega)]; omega
  have n2 : IntKind.wrap .i64 (0 - bC a) = -bC a := by rw [wi64_in (by unfold I64; omega)]; omega
  have n3 : IntKind.wrap .i64 (0 - -bN a) = bN a := by rw [wi64_in (by unfold I64; omega)]; omega
  unfold bothC bothS
  rw [L_gc_1]
  unfold B_gc_1 Bg_gc_1
  by_cases q0 : a / 1073741824 = 0
  · refine bn (df (by omega)) (some_two ?_ ?_) <;> rw [if_pos q0]
  · refine bp (dt (by omega)) ?_
    rw [w0, n1, L_gc_1]
    unfold B_gc_1 Bg_gc_1
    by_cases q1 : a / 1073741824 = 1
    · refine bn (df (by omega)) (some_two ?_ ?_) <;> rw [if_neg q0, if_pos q1]
    · refine bp (dt (by omega)) ?_
      rw [w1, n2, L_gc_1]
      unfold B_gc_1 Bg_gc_1
      by_cases q2 : a / 1073741824 = 2
      · refine bn (df (by omega)) (some_two ?_ ?_) <;> rw [if_neg q0, if_neg q1, if_pos q2]
      · refine bp (dt (by omega)) ?_
        rw [w2, n3, L_gc_1]
        unfold B_gc_1 Bg_gc_1
        refine bn (df (by omega)) (some_two ?_ ?_) <;> rw [if_neg q0, if_neg q1, if_neg q2]
theorem a_tBoth (F : Nat) (hF : 200 ≤ F) {a : Int} (ha : U32 a) : ok_gc F a = true ∧ o_gc_0 F a = bothC a ∧ o_gc_1 F a = bothS a := k_gc F _ (f_tBoth F hF ha)
theorem tq2_neg {x : Int} (h : x < 0) (d : Int) : Int.tdiv x d = -Int.tdiv (-x) d ∧ Int.tmod x d = -Int.tmod (-x) d := by
  constructor
  · rw [Int.neg_tdiv]; omega
  · rw [Int.neg_tmod]; omega
theorem tq2 (x : Int) : (0 ≤ x → Int.tdiv x 2 = x / 2 ∧ Int.tmod x 2 = x % 2) ∧ (x < 0 → Int.tdiv x 2 = -(-x / 2) ∧ Int.tmod x 2 = -(-x % 2)) := by
  refine ⟨fun h => ⟨Int.tdiv_eq_ediv_of_nonneg h, Int.tmod_eq_emod_of_nonneg h⟩, fun h => ?_⟩
  obtain ⟨h1, h2⟩ := tq2_neg h 2
  rw [h1, h2, Int.tdiv_eq_ediv_of_nonneg (by omega), Int.tmod_eq_emod_of_nonneg (by omega)]
  exact ⟨rfl, rfl⟩
theorem half_up (x : Int) (h : I64 x) : (Int.tmod x 2 < 0 → IntKind.wrap .i64 (IntKind.wrap .i64 (Int.tdiv x 2) - 1) = x / 2) ∧ (¬ Int.tmod x 2 < 0 → IntKind.wrap .i64 (Int.tdiv x 2) = x / 2) := by
  unfold I64 at h
  obtain ⟨q1, q2⟩ := tq2 x
  have e1 : IntKind.wrap .i64 (Int.tdiv x 2) = Int.tdiv x 2 := wi64_in (by unfold I64; omega)
  rw [e1]
  constructor
  · intro hm
    rw [wi64_in (by unfold I64; omega)]
    omega
  · intro hm
    omega
theorem I64_half {x : Int} (h : I64 x) (i : Nat) : I64 (x / 2 ^ i) := by
  unfold I64 at *
  have := ediv_bd (y := x) (B := 9223372036854775808) (by omega) i
  refine ⟨by omega, ?_⟩
  have hP := p2pos i
  rcases Int.lt_or_le x 0 with hn | hn
  · have := Int.ediv_neg_of_neg_of_pos hn hP; omega
  · have := Int.ediv_le_self (2 ^ i) hn; omega
theorem lp_over_0 (F : Nat) (ex) {x : Int} (hx : I64 x) (m : Nat) (hm : m < 1000) (x2 : Int) : ∀ (k n i : Nat) (x0 x3 : Int), i + k = m → k < n → x0 = x / 2 ^ i → x3 = i →
    L_va_0 F ex n x0 m x2 x3 = ex (x / 2 ^ m) m x2 m
  | _, 0, _, _, _, _, h, _, _ => absurd h (by omega)
  | 0, n + 1, i, _, _, h, _, rfl, rfl => by
    obtain rfl : i = m := by omega
    rw [L_va_0]
    unfold B_va_0 Bg_va_0
    exact bn (df (by omega)) rfl
  | k + 1, n + 1, i, _, _, h, hn, rfl, rfl => by
    rw [L_va_0]
    unfold B_va_0 Bg_va_0
    refine bp (dt (by omega)) ?_
    obtain ⟨h1, h2⟩ := half_up _ (I64_half hx i)
    have w1 : IntKind.wrap .i64 ((i : Int) + 1) = ((i + 1 : Nat) : Int) := wi64_s i (by omega)
    dsimp only
    by_cases hc : Int.tmod (x / 2 ^ i) 2 < 0
    · refine bp (dt hc) ?_
      exact lp_over_0 F ex hx m hm x2 k n (i + 1) _ _ (by omega) (by omega) (by rw [h1 hc, ediv2]) w1
    · refine bn (df hc) ?_
      exact lp_over_0 F ex hx m hm x2 k n (i + 1) _ _ (by omega) (by omega) (by rw [h2 hc, ediv2]) w1
theorem a_over (F : Nat) (hF : 200 ≤ F) {x : Int} (hx : I64 x) {m : Nat} (hm : m < 100) : ok_va F x m = true ∧ o_va_0 F x m = x / 2 ^ m := by
  refine k_va F _ _ ?_
  unfold f_va fg_va
  rw [lp_over_0 F _ hx m (by omega) 0 m F 0 x 0 (by omega) (by omega) (by simp) rfl]
theorem a_step (F : Nat) {i : Nat} (hi : i < 30) : ok_wa F i = true ∧ o_wa_0 F i = tA i := by
  refine k_wa F _ ?_
  unfold f_wa fg_wa
  obtain ⟨g1, g2⟩ := angL_get i hi
  refine bp (ix_ok i 30 hi) ?_
  dsimp only
  rw [zmul]
  refine bp (by rw [g1]; rfl) ?_
  rw [g2]
theorem a_r5clamp (F : Nat) (x : Int) : ok_x F x = true ∧ o_x_0 F x = cl01 x := by
  refine k_x F _ ?_
  unfold f_x fg_x cl01
  exact some_int (by split <;> split <;> omega)
theorem lp_rBoth_0 (F : Nat) (hF : 200 ≤ F) (ex) {z : Int} (hz : 0 ≤ z ∧ z < 1073741824) (x0 x1 x2 x3 : Int) : ∀ (k n i : Nat) (x4 x5 x6 x7 : Int), i + k = 30 → k < n → x7 = i → x5 = (bS z i).1 → x6 = (bS z i).2.1 → x4 = (bS z i).2.2 →
    L_ta_0 F ex n x0 x1 x2 x3 x4 x5 x6 x7 = ex x0 x1 x2 x3 (bS z 30).2.2 (bS z 30).1 (bS z 30).2.1 30
  | _, 0, _, _, _, _, _, _, h, _, _, _, _ => absurd h (by omega)
  | 0, n + 1, i, _, _, _, _, h, _, rfl, rfl, rfl, rfl => by
    obtain rfl : i = 30 := by omega
    rw [L_ta_0]
    unfold B_ta_0 Bg_ta_0
    exact bn (df (by omega)) rfl
  | k + 1, n + 1, i, _, _, _, _, h, hn, rfl, rfl, rfl, rfl => by
    have hi' : i < 30 := by omega
    have b0 := bS_I z (i := i) (by omega)
    have b1 := bS_I z (i := i + 1) (by omega)
    have b2 := bS_z hz (i := i) (by omega)
    have b3 := tA_bd i hi'
    obtain ⟨g1, g2⟩ := a_over F hF (x := (bS z i).1) (by unfold I64; omega) (m := i) (by omega)
    obtain ⟨j1, j2⟩ := a_over F hF (x := (bS z i).2.1) (by unfold I64; omega) (m := i) (by omega)
    obtain ⟨s1, s2⟩ := a_step F hi'
    rw [L_ta_0]
    unfold B_ta_0 Bg_ta_0
    refine bp (dt (by omega)) (bp g1 (bp j1 ?_))
    rw [g2, j2]
    have w1 : IntKind.wrap .i64 ((i : Int) + 1) = ((i + 1 : Nat) : Int) := wi64_s i (by omega)
    rw [w1]
    by_cases hs : 0 ≤ (bS z i).2.2
    · refine bp (dt hs) (bp s1 ?_)
      rw [s2]
      simp only [bS, rotX, rotY, hs, decide_true, if_true] at b1
      refine lp_rBoth_0 F hF ex hz x0 x1 x2 x3 k n (i + 1) _ _ _ _ (by omega) (by omega) rfl ?_ ?_ ?_
      · simp only [bS, rotX, hs, decide_true, if_true]; rw [wi64_in (by unfold I64; omega)]
      · simp only [bS, rotY, hs, decide_true, if_true]; rw [wi64_in (by unfold I64; omega)]
      · simp only [bS, hs, if_true]; rw [wi64_in (by unfold I64; omega)]
    · refine bn (df hs) (bp s1 ?_)
      rw [s2]
      simp only [bS, rotX, rotY, hs, decide_false, Bool.false_eq_true, if_false] at b1
      refine lp_rBoth_0 F hF ex hz x0 x1 x2 x3 k n (i + 1) _ _ _ _ (by omega) (by omega) rfl ?_ ?_ ?_
      · simp only [bS, rotX, hs, decide_false, Bool.false_eq_true, if_false]; rw [wi64_in (by unfold I64; omega)]
      · simp only [bS, rotY, hs, decide_false, Bool.false_eq_true, if_false]; rw [wi64_in (by unfold I64; omega)]
      · simp only [bS, hs, if_false]; rw [wi64_in (by unfold I64; omega)]
theorem f_rBoth (F : Nat) (hF : 200 ≤ F) {a : Int} (ha : U32 a) : f_ta F a = some (.v (.tuple #[.int .i64 (bothC a), .int .i64 (bothS a)])) := by
  unfold f_ta fg_ta
  unfold U32 at ha
  have e1 : Int.tmod a 1073741824 = a % 1073741824 := Int.tmod_eq_emod_of_nonneg ha.1
  have e2 : Int.tdiv a 1073741824 = a / 1073741824 := Int.tdiv_eq_ediv_of_nonneg ha.1
  have hz : 0 ≤ a % 1073741824 ∧ a % 1073741824 < 1073741824 := by omega
  rw [e1, e2, wi64_in (x := a % 1073741824) (by unfold I64; omega), wu32_in (by unfold U32; omega), lp_rBoth_0 F hF _ hz a 0 0 _ 30 F 0 (a % 1073741824) 2608131496 0 0 (by omega) (by omega) rfl rfl rfl rfl]
  obtain ⟨u1, u2⟩ := a_r5clamp F (bS (a % 1073741824) 30).1
  obtain ⟨v1, v2⟩ := a_r5clamp F (bS (a % 1073741824) 30).2.1
  refine bp u1 (bp v1 ?_)
  rw [u2, v2]
  have c1 := cl01_bd (bS (a % 1073741824) 30).1
  have c2 := cl01_bd (bS (a % 1073741824) 30).2.1
  have eC : cl01 (bS (a % 1073741824) 30).1 = bC a := rfl
  have eN : cl01 (bS (a % 1073741824) 30).2.1 = bN a := rfl
  rw [eC] at c1 ⊢
  rw [eN] at c2 ⊢
  have n1 : IntKind.wrap .i64 (0 - bN a) = -bN a := by rw [wi64_in (by unfold I64; omega)]; omega
  have n2 : IntKind.wrap .i64 (0 - bC a) = -bC a := by rw [wi64_in (by unfold I64; omega)]; omega
  dsimp only
  rw [n1, n2]
  unfold bothC bothS
  by_cases q0 : a / 1073741824 = 0
  · refine bp (by simp [q0]) (some_two ?_ ?_) <;> rw [if_pos q0]
  · refine bn (by simp [q0]) ?_
    by_cases q1 : a / 1073741824 = 1
    · refine bp (by simp [q1]) (some_two ?_ ?_) <;> rw [if_neg q0, if_pos q1]
    · refine bn (by simp [q1]) ?_
      by_cases q2 : a / 1073741824 = 2
      · refine bp (by simp [q2]) (some_two ?_ ?_) <;> rw [if_neg q0, if_neg q1, if_pos q2]
      · refine bn (by simp [q2]) (some_two ?_ ?_) <;> rw [if_neg q0, if_neg q1, if_neg q2]
theorem a_rBoth (F : Nat) (hF : 200 ≤ F) {a : Int} (ha : U32 a) : ok_ta F a = true ∧ o_ta_0 F a = bothC a ∧ o_ta_1 F a = bothS a := k_ta F _ (f_rBoth F hF ha)
end Go.Xv
namespace Go.Xv
theorem sq_lt {x y : Int} (hx : 0 ≤ x) (h : x < y) : x * x < y * y := by
  have h1 : x * x ≤ x * y := Int.mul_le_mul_of_nonneg_left (by omega) hx
  have h2 : x * y < y * y := Int.mul_lt_mul_of_pos_right h (by omega)
  omega
theorem sq_le {x y : Int} (hx : 0 ≤ x) (h : x ≤ y) : x * x ≤ y * y := by
  rcases Int.lt_or_eq_of_le h with h | rfl
  · exact Int.le_of_lt (sq_lt hx h)
  · exact Int.le_refl _
/-- There is a root. -/
theorem root_ex (z : Int) (hz : 0 ≤ z) : ∃ x : Int, 0 ≤ x ∧ x * x ≤ z ∧ z < (x + 1) * (x + 1) := by
  obtain ⟨n, rfl⟩ := Int.eq_ofNat_of_zero_le hz
  induction n with
  | zero => exact ⟨0, by omega, by omega, by omega⟩
  | succ n ih =>
    obtain ⟨x, h1, h2, h3⟩ := ih (by omega)
    by_cases h : (x + 1) * (x + 1) ≤ ((n + 1 : Nat) : Int)
    · refine ⟨x + 1, by omega, h, ?_⟩
      have := sq_lt (x := x + 1) (y := x + 1 + 1) (by omega) (by omega)
      push_cast
      omega
    · refine ⟨x, h1, ?_, by omega⟩
      push_cast
      omega
noncomputable def rt (z : Int) : Int := if h : 0 ≤ z then Classical.choose (root_ex z h) else 0
theorem rt_spec {z : Int} (h : 0 ≤ z) : 0 ≤ rt z ∧ rt z * rt z ≤ z ∧ z < (rt z + 1) * (rt z + 1) := by
  unfold rt
  rw [dif_pos h]
  exact Classical.choose_spec (root_ex z h)
/-- a number is not beyond the root just if its square is not above -/
theorem rt_le {z y : Int} (hz : 0 ≤ z) (hy : 0 ≤ y) : y ≤ rt z ↔ y * y ≤ z := by
  obtain ⟨h3, h4, h5⟩ := rt_spec hz
  constructor
  · intro h
    have := sq_le hy h
    omega
  · intro h
    rcases Int.lt_or_le (rt z) y with hlt | hle
    · have := sq_le (x := rt z + 1) (y := y) (by omega) (by omega); omega
    · exact hle
/-- the root's upper bits -/
theorem top_step {r P : Int} (hr : 0 ≤ r) (hP : 0 < P) : (r / (2 * P) * (2 * P) + P ≤ r → r / P * P = r / (2 * P) * (2 * P) + P) ∧ (¬ r / (2 * P) * (2 * P) + P ≤ r → r / P * P = r / (2 * P) * (2 * P)) := by
  have e : r / (2 * P) = r / P / 2 := by rw [Int.mul_comm, Int.ediv_ediv_of_nonneg (by omega)]
  have hd := Int.mul_ediv_add_emod r P
  have h2 := Int.emod_nonneg r (show P ≠ 0 by omega)
  have h3 := Int.emod_lt_of_pos r hP
  rw [e]
  generalize r / P = q at *
  have hq : 0 ≤ q ∨ q < 0 := by omega
  have e1 : q / 2 * (2 * P) = 2 * (q / 2) * P := by simp only [Int.mul_comm, Int.mul_left_comm]
  rw [e1]
  rcases (show q = 2 * (q / 2) ∨ q = 2 * (q / 2) + 1 by omega) with h | h
  · rw [← h]
    constructor
    · intro hx
      rw [Int.mul_comm q P] at hx; omega
    · intro _; rfl
  · have e2 : q * P = 2 * (q / 2) * P + P := by
      have : q * P = (2 * (q / 2) + 1) * P := by rw [← h]
      rw [this, Int.add_mul, Int.one_mul]
    rw [← e2]
    constructor
    · intro _; rfl
    · intro hx
      rw [Int.mul_comm q P] at hx; omega
end Go.Xv
namespace Go.Xv
theorem f_Square (F : Nat) {n : Int} (hn : U64 n) : f_ea F n = some (wd (n * n)) := by
  unfold f_ea fg_ea
  dsimp only
  unfold U64 at hn
  rw [fdiv_pos _ (by decide), mask32_u64 hn]
  have en : n = n / 4294967296 * 4294967296 + n % 4294967296 := by omega
  have hp : 0 ≤ n / 4294967296 ∧ n / 4294967296 ≤ 4294967295 := by omega
  have hq : 0 ≤ n % 4294967296 ∧ n % 4294967296 ≤ 4294967295 := by omega
  have bd : ∀ x y : Int, (0 ≤ x ∧ x ≤ 4294967295) → (0 ≤ y ∧ y ≤ 4294967295) → 0 ≤ x * y ∧ x * y ≤ 18446744065119617025 := by
    intro x y hx hy
    have h1 := Int.mul_nonneg hx.1 hy.1
    have h2 : x * y ≤ 4294967295 * 4294967295 := Int.mul_le_mul hx.2 hy.2 hy.1 (by decide)
    exact ⟨h1, by simpa using h2⟩
  have b1 := bd _ _ hp hp
  have b2 := bd _ _ hq hq
  have b3 := bd _ _ hp hq
  have hnn : n * n = (n / 4294967296) * (n / 4294967296) * 18446744073709551616 + (n / 4294967296) * (n % 4294967296) * 8589934592 + (n % 4294967296) * (n % 4294967296) := by
    generalize n / 4294967296 = p at *
    generalize n % 4294967296 = q at *
    subst en
    simp only [Int.add_mul, Int.mul_add]
    have : p * 4294967296 * (p * 4294967296) = p * p * 18446744073709551616 := by
      rw [show (18446744073709551616 : Int) = 4294967296 * 4294967296 by decide]
      simp only [Int.mul_comm, Int.mul_assoc, Int.mul_left_comm]
    have : p * 4294967296 * q = p * q * 4294967296 := by simp only [Int.mul_comm, Int.mul_assoc, Int.mul_left_comm]
    have : q * (p * 4294967296) = p * q * 4294967296 := by simp only [Int.mul_comm, Int.mul_assoc, Int.mul_left_comm]
    omega
  rw [hnn]
  generalize n / 4294967296 * (n / 4294967296) = pp at *
  generalize n / 4294967296 * (n % 4294967296) = pq at *
  generalize n % 4294967296 * (n % 4294967296) = qq at *
  rw [wu64_in (x := pp) (by unfold U64; omega), wu64_in (x := qq) (by unfold U64; omega), wu64_in (x := pq) (by unfold U64; omega)]
  obtain ⟨l1, l2, l3⟩ := k_nc F _ _ 33 (f_Left F (a := 0) (b := pq) (n := 33) (by unfold U64; omega))
  rw [show ((33 : Int).toNat) = 33 from rfl, show (2 : Int) ^ 33 = 8589934592 by decide] at l2 l3
  refine bp l1 ?_
  rw [l2, l3]
  obtain ⟨s1, s2, s3⟩ := k_cd F _ _ _ _ (f_Add F (a := IntKind.wrap .i64 pp) (b := qq) (c := hi (val 0 pq * 8589934592)) (by unfold U64; omega) (lo_U (val 0 pq * 8589934592)))
  refine bp s1 ?_
  rw [s2, s3]
  have e : Eqv (val (IntKind.wrap .i64 pp) qq + val (hi (val 0 pq * 8589934592)) (lo (val 0 pq * 8589934592))) (pp * 18446744073709551616 + pq * 8589934592 + qq) := by
    rw [val_hl]
    refine ((Eqv.rfl (x := val (IntKind.wrap .i64 pp) qq)).add (W_eqv _)).trans ?_
    rw [wi64]
    unfold Eqv val; omega
  exact some_wd (hi_eqv e) (lo_eqv e)
theorem a_Square (F : Nat) {n : Int} (hn : U64 n) : ok_ea F n = true ∧ o_ea_0 F n = hi (n * n) ∧ o_ea_1 F n = lo (n * n) := k_ea F _ (f_Square F hn)
theorem lp_rSquare_0 (F : Nat) (hF : 200 ≤ F) (ex) (a b x0 x3 x4 : Int) : ∀ (k n i : Nat) (x2 x5 x6 x7 x8 : Int), i + k = 64 → k < n → x2 = i → x5 = hi (a * num b i) → x6 = lo (a * num b i) → x7 = hi (a * 2 ^ i) → x8 = lo (a * 2 ^ i) →
    L_l_0 F ex n x0 128 x2 x3 x4 x5 x6 x7 x8 (ds b 128) = ex x0 128 64 x3 x4 (hi (a * num b 64)) (lo (a * num b 64)) (hi (a * 2 ^ 64)) (lo (a * 2 ^ 64)) (ds b 128)
  | _, 0, _, _, _, _, _, _, _, h, _, _, _, _, _ => absurd h (by omega)
  | 0, n + 1, i, _, _, _, _, _, h, _, rfl, rfl, rfl, rfl, rfl => by
    obtain rfl : i = 64 := by omega
    rw [L_l_0]
    unfold B_l_0 Bg_l_0
    exact bn (df (by omega)) rfl
  | k + 1, n + 1, i, _, _, _, _, _, h, hn, rfl, rfl, rfl, rfl, rfl => by
    have hi' : i < 128 := by omega
    rw [L_l_0]
    unfold B_l_0 Bg_l_0
    refine bp (dt (by omega)) (bp (ix_ok i 128 hi') (bp (isI_ds b hi') ?_))
    rw [iv_ds b hi']
    obtain ⟨d1, d2, d3⟩ := a_rAdd F hF (a * 2 ^ i) (a * 2 ^ i)
    have e2 : a * 2 ^ i + a * 2 ^ i = a * 2 ^ (i + 1) := by rw [Int.pow_succ, ← Int.mul_assoc]; omega
    rw [e2] at d2 d3
    rcases (show dg b i = 0 ∨ dg b i = 1 by have := dg_01 b i; omega) with hd | hd
    · refine bn (by rw [hd]; rfl) (bp d1 ?_)
      have e : num b (i + 1) = num b i := by rw [num_succ, hd]; omega
      exact lp_rSquare_0 F hF ex a b x0 x3 x4 k n (i + 1) _ _ _ _ _ (by omega) (by omega) (wi64_s i (by omega)) (by rw [e]) (by rw [e]) d2 d3
    · obtain ⟨c1, c2, c3⟩ := a_rAdd F hF (a * num b i) (a * 2 ^ i)
      have e : a * num b i + a * 2 ^ i = a * num b (i + 1) := by rw [num_succ, hd, Int.mul_add, Int.one_mul]
      rw [e] at c2 c3
      refine bp (by rw [hd]; rfl) (bp c1 (bp d1 ?_))
      exact lp_rSquare_0 F hF ex a b x0 x3 x4 k n (i + 1) _ _ _ _ _ (by omega) (by omega) (wi64_s i (by omega)) c2 c3 d2 d3
theorem hl_U {n : Int} (h : U64 n) : hi n = 0 ∧ lo n = n := by unfold U64 at h; unfold hi lo; omega
theorem f_rSquare (F : Nat) (hF : 200 ≤ F) {n : Int} (hn : U64 n) : f_l F n = some (wd (n * n)) := by
  unfold f_l fg_l
  obtain ⟨d1, d2, d3⟩ := k_j F _ _ (f_Digits F hF (a := 0) hn)
  have e0 : val 0 n = n := by unfold val; omega
  rw [e0] at d2
  obtain ⟨h1, h2⟩ := hl_U hn
  refine bp d1 ?_
  rw [d2, d3]
  rw [lp_rSquare_0 F hF _ n n n 0 0 64 F 0 0 0 0 0 n (by omega) (by omega) rfl (by rw [num_zero, Int.mul_zero]; rfl) (by rw [num_zero, Int.mul_zero]; rfl) (by rw [Int.pow_zero, Int.mul_one, h1]) (by rw [Int.pow_zero, Int.mul_one, h2])]
  have e : num n 64 = n := by
    unfold num
    unfold U64 at hn
    rw [show (2 : Int) ^ 64 = 18446744073709551616 by decide]; omega
  rw [e]; rfl
theorem a_rSquare (F : Nat) (hF : 200 ≤ F) {n : Int} (hn : U64 n) : ok_l F n = true ∧ o_l_0 F n = hi (n * n) ∧ o_l_1 F n = lo (n * n) := k_l F _ (f_rSquare F hF hn)

theorem rt_bd {z : Int} (h : 0 ≤ z) (h2 : z < 170141183460469231731687303715884105728) : 0 ≤ rt z ∧ rt z ≤ 13043817825332782212 := by
  obtain ⟨h3, h4, h5⟩ := rt_spec h
  refine ⟨h3, ?_⟩
  rcases Int.lt_or_le 13043817825332782212 (rt z) with hlt | hle
  · have := sq_le (x := 13043817825332782213) (y := rt z) (by omega) (by omega)
    have e : (13043817825332782213 : Int) * 13043817825332782213 = 170141183460469231748655437451289177369 := by decide
    omega
  · exact hle
theorem sq_bd {y : Int} (h : 0 ≤ y) (h2 : y < 18446744073709551616) : 0 ≤ y * y ∧ y * y < 340282366920938463463374607431768211456 := by
  have h1 := Int.mul_nonneg h h
  have := sq_le h (show y ≤ 18446744073709551615 by omega)
  have e : (18446744073709551615 : Int) * 18446744073709551615 = 340282366920938463426481119284349108225 := by decide
  omega
theorem lp_rootWide_0 (F : Nat) (ex) {a b : Int} (ha : I64 a) (hb : U64 b) (hz : 0 ≤ val a b) (x0 x1 x2 : Int) (x3 : Bool) : ∀ (k n i : Nat) (x4 x5 : Int), i + k = 64 → k < n → x4 = rt (val a b) / 2 ^ k * 2 ^ k → x5 = i →
    L_fc_0 F ex n x0 x1 x2 x3 x4 x5 a b = ex x0 x1 x2 x3 (rt (val a b)) 64 a b
  | _, 0, _, _, _, _, h, _, _ => absurd h (by omega)
  | 0, n + 1, i, _, _, h, _, rfl, rfl => by
    obtain rfl : i = 64 := by omega
    rw [L_fc_0]
    unfold B_fc_0 Bg_fc_0
    refine bn (df (by omega)) ?_
    rw [Int.pow_zero, Int.ediv_one, Int.mul_one]; rfl
  | k + 1, n + 1, i, _, _, h, hn, rfl, rfl => by
    have hW := val_W ha hb
    unfold W128 at hW
    obtain ⟨r1, r2⟩ := rt_bd hz hW.2
    have ih := lp_rootWide_0 F ex ha hb hz x0 x1 x2 x3 k n (i + 1)
    rw [L_fc_0]
    unfold B_fc_0 Bg_fc_0
    dsimp only
    have hi63 : IntKind.wrap .i64 (63 - (i : Int)) = ((k : Nat) : Int) := by rw [wi64_in (by unfold I64; omega)]; omega
    have hP := p2pos k
    have hPb : (2 : Int) ^ k ≤ 9223372036854775808 := by
      have := p2mono (a := k) (b := 63) (by omega)
      simpa using this
    rw [hi63, p2min (by omega), Int.one_mul, wu64_in (x := 2 ^ k) (by unfold U64; omega)]
    obtain ⟨t1, t2⟩ := top_step (r := rt (val a b)) (P := 2 ^ k) r1 hP
    rw [show (2 : Int) * 2 ^ k = 2 ^ (k + 1) by rw [Int.pow_succ, Int.mul_comm]] at t1 t2
    have hq := Int.ediv_nonneg r1 (Int.le_of_lt (p2pos (k + 1)))
    have hqr : rt (val a b) / 2 ^ (k + 1) * 2 ^ (k + 1) ≤ rt (val a b) := Int.ediv_mul_le _ (by have := p2pos (k + 1); omega)
    have hq0 := Int.mul_nonneg hq (Int.le_of_lt (p2pos (k + 1)))
    have eor : orI .u64 (rt (val a b) / 2 ^ (k + 1) * 2 ^ (k + 1)) (2 ^ k) = rt (val a b) / 2 ^ (k + 1) * 2 ^ (k + 1) + 2 ^ k := by
      have h1 := or_add_u64 (k + 1) (a := rt (val a b) / 2 ^ (k + 1)) (b := 2 ^ k) hq (by omega)
      rw [p2cast (k + 1)] at h1
      refine h1 ?_ ?_
      · rw [Int.pow_succ]; omega
      · by_cases hk : k = 63
        · subst hk
          have : rt (val a b) / 2 ^ (63 + 1) = 0 := Int.ediv_eq_zero_of_lt r1 (by rw [show (2 : Int) ^ (63 + 1) = 18446744073709551616 by decide]; omega)
          rw [this]
          decide
        · have := p2mono (a := k) (b := 62) (by omega)
          rw [show (2 : Int) ^ 62 = 4611686018427387904 by decide] at this
          omega
    rw [eor]
    have hyU : U64 (rt (val a b) / 2 ^ (k + 1) * 2 ^ (k + 1) + 2 ^ k) := by
      have hw := orI .u64 (rt (val a b) / 2 ^ (k + 1) * 2 ^ (k + 1)) (2 ^ k)
      rw [← eor, or_u64_bv]
      exact wu64_U _
    generalize hx : rt (val a b) / 2 ^ (k + 1) * 2 ^ (k + 1) = x at *
    obtain ⟨s1, s2, s3⟩ := a_Square F hyU
    have hle := rt_le (z := val a b) (y := x + 2 ^ k) hz (by omega)
    unfold U64 at hyU
    obtain ⟨b1, b2⟩ := sq_bd hyU.1 hyU.2
    have w5 : IntKind.wrap .i64 ((i : Int) + 1) = ((i + 1 : Nat) : Int) := wi64_s i (by omega)
    refine bp (dt (by omega)) (bp (nn k) (bp s1 ?_))
    rw [s2, s3]
    generalize hs : (x + 2 ^ k) * (x + 2 ^ k) = s at *
    by_cases hhi : hi s ≥ 0
    · have hs127 : s < 170141183460469231731687303715884105728 := by unfold hi at hhi; omega
      obtain ⟨l1, l2⟩ := k_oc F _ _ _ _ (f_Less F (a := a) (c := hi s) hb (lo_U s))
      rw [val_hl, W_in (by unfold W128; omega)] at l2
      refine bp (dt hhi) (bp l1 ?_)
      rw [l2]
      by_cases hc : val a b < s
      · refine bn (by rw [dt hc]; rfl) ?_
        exact ih _ _ (by omega) (by omega) (t2 (fun h => by have := hle.1 h; omega)).symm w5
      · refine bp (by rw [df hc]; rfl) ?_
        exact ih _ _ (by omega) (by omega) (t1 (hle.2 (by omega))).symm w5
    · have hs127 : 170141183460469231731687303715884105728 ≤ s := by unfold hi at hhi; omega
      refine bn (df hhi) ?_
      exact ih _ _ (by omega) (by omega) (t2 (fun h => by have := hle.1 h; omega)).symm w5
/-- what the root of a wide number answers -/
noncomputable def rootR (z : Int) : Value := if z < 0 then .tuple #[.int .u64 0, .bool false] else .tuple #[.int .u64 (rt z), .bool true]
theorem f_rootWide (F : Nat) (hF : 200 ≤ F) {a b : Int} (ha : I64 a) (hb : U64 b) : f_fc F a b = some (.v (rootR (val a b))) := by
  unfold f_fc fg_fc rootR
  have hn := val_neg (a := a) hb
  by_cases h : a < 0
  · refine bp (dt h) ?_
    rw [if_pos (hn.2 h)]
  · have hz : 0 ≤ val a b := by
      rcases Int.lt_or_le (val a b) 0 with h2 | h2
      · exact absurd (hn.1 h2) h
      · exact h2
    refine bn (df h) ?_
    rw [if_neg (by omega)]
    have hW := val_W ha hb
    unfold W128 at hW
    obtain ⟨r1, r2⟩ := rt_bd hz hW.2
    rw [lp_rootWide_0 F _ ha hb hz a b 0 false 64 F 0 0 0 (by omega) (by omega) ?_ rfl]
    rw [Int.ediv_eq_zero_of_lt r1 (by rw [show (2 : Int) ^ 64 = 18446744073709551616 by decide]; omega)]; simp
theorem lp_rWide_0 (F : Nat) (hF : 200 ≤ F) (ex) {a b : Int} (ha : I64 a) (hb : U64 b) (hz : 0 ≤ val a b) (x0 x1 x2 : Int) (x3 : Bool) : ∀ (k n i : Nat) (x4 x5 x6 : Int), i + k = 64 → k + 1 < n → 0 ≤ x4 → x5 ≤ 13043817825332782212 → x4 ≤ rt (val a b) → rt (val a b) ≤ x5 → x5 - x4 < 2 ^ k → x6 = i →
    ∃ h' i' : Int, L_sa_0 F ex n x0 x1 x2 x3 x4 x5 x6 a b = ex x0 x1 x2 x3 (rt (val a b)) h' i' a b
  | _, 0, _, _, _, _, _, h, _, _, _, _, _, _ => absurd h (by omega)
  | 0, n + 1, i, x4, x5, _, h, _, h0, h1, h2, h3, h4, rfl => by
    obtain rfl : x4 = rt (val a b) := by rw [Int.pow_zero] at h4; omega
    refine ⟨x5, i, ?_⟩
    rw [L_sa_0]
    unfold B_sa_0 Bg_sa_0
    rw [Int.pow_zero] at h4
    exact bp (dt (by omega)) (bn (df (by omega)) rfl)
  | k + 1, n + 1, i, x4, x5, _, h, hn, h0, h1, h2, h3, h4, rfl => by
    rw [L_sa_0]
    unfold B_sa_0 Bg_sa_0
    by_cases hlt : x4 < x5
    · have hd : 0 ≤ x5 - x4 := by omega
      have em : IntKind.wrap .u64 (IntKind.wrap .u64 (x4 + IntKind.wrap .u64 (Int.tdiv (IntKind.wrap .u64 (x5 - x4)) 2)) + Int.tmod (IntKind.wrap .u64 (x5 - x4)) 2) = x4 + (x5 - x4) / 2 + (x5 - x4) % 2 := by
        rw [wu64_in (x := x5 - x4) (by unfold U64; omega), Int.tdiv_eq_ediv_of_nonneg hd, Int.tmod_eq_emod_of_nonneg hd, wu64_in (x := (x5 - x4) / 2) (by unfold U64; omega), wu64_in (x := x4 + (x5 - x4) / 2) (by unfold U64; omega), wu64_in (by unfold U64; omega)]
      dsimp only
      rw [em]
      generalize hm : x4 + (x5 - x4) / 2 + (x5 - x4) % 2 = m at *
      have hm1 : x4 < m ∧ m ≤ x5 := by omega
      obtain ⟨s1, s2, s3⟩ := a_rSquare F hF (n := m) (by unfold U64; omega)
      have hsq := sq_le (x := m) (y := 13043817825332782212) (by omega) (by omega)
      have e : (13043817825332782212 : Int) * 13043817825332782212 = 170141183460469231722567801800623612944 := by decide
      have hsq0 := Int.mul_nonneg (show 0 ≤ m by omega) (show 0 ≤ m by omega)
      obtain ⟨l1, l2⟩ := k_oa F _ _ _ _ (f_rLess F (a := a) (c := hi (m * m)) hb (lo_U (m * m)))
      rw [val_hl, W_in (by unfold W128; omega)] at l2
      have hle := rt_le (z := val a b) (y := m) hz (by omega)
      rw [Int.pow_succ] at h4
      have w5 : IntKind.wrap .i64 ((i : Int) + 1) = ((i + 1 : Nat) : Int) := wi64_s i (by omega)
      by_cases hc : val a b < m * m
      · have hrm : rt (val a b) < m := by
          rcases Int.lt_or_le (rt (val a b)) m with h | h
          · exact h
          · have := hle.1 h; omega
        obtain ⟨h', i', ih⟩ := lp_rWide_0 F hF ex ha hb hz x0 x1 x2 x3 k n (i + 1) x4 (m - 1) _ (by omega) (by omega) h0 (by omega) h2 (by omega) (by omega) w5
        refine ⟨h', i', bp (dt (by omega)) (bp (dt hlt) (bp s1 ?_))⟩
        rw [s2, s3]
        refine bp l1 (bp (by rw [l2, dt hc]) ?_)
        rw [wu64_in (x := m - 1) (by unfold U64; omega)]
        exact ih
      · have hrm : m ≤ rt (val a b) := hle.2 (by omega)
        obtain ⟨h', i', ih⟩ := lp_rWide_0 F hF ex ha hb hz x0 x1 x2 x3 k n (i + 1) m x5 _ (by omega) (by omega) (by omega) h1 hrm h3 (by omega) w5
        refine ⟨h', i', bp (dt (by omega)) (bp (dt hlt) (bp s1 ?_))⟩
        rw [s2, s3]
        exact bp l1 (bn (by rw [l2, df hc]) ih)
    · obtain rfl : x4 = rt (val a b) := by omega
      exact ⟨x5, i, bp (dt (by omega)) (bn (df hlt) rfl)⟩
theorem f_rWide (F : Nat) (hF : 200 ≤ F) {a b : Int} (ha : I64 a) (hb : U64 b) : f_sa F a b = some (.v (rootR (val a b))) := by
  unfold f_sa fg_sa rootR
  have hn := val_neg (a := a) hb
  by_cases h : a < 0
  · refine bp (dt h) ?_
    rw [if_pos (hn.2 h)]
  · have hz : 0 ≤ val a b := by
      rcases Int.lt_or_le (val a b) 0 with h2 | h2
      · exact absurd (hn.1 h2) h
      · exact h2
    refine bn (df h) ?_
    rw [if_neg (by omega)]
    have hW := val_W ha hb
    unfold W128 at hW
    obtain ⟨r1, r2⟩ := rt_bd hz hW.2
    obtain ⟨h', i', e⟩ := lp_rWide_0 F hF (fun (_ _ _ : Int) (_ : Bool) (v _ _ _ _ : Int) => (some (.v (.tuple #[.int .u64 v, .bool true])) : R)) ha hb hz a b 0 false 64 F 0 0 13043817825332782212 0 (by omega) (by omega) (by omega) (by omega) r1 r2 (by decide) rfl
    exact e
end Go.Xv
namespace Go.Xv
theorem some_u32 {a b : Int} (h : a = b) : (some (VV.v (.int .u32 a)) : R) = some (.v (.int .u32 b)) := by rw [h]
end Go.Xv
namespace Go.Xv
theorem tdiv_W {z b : Int} (hz : -170141183460469231731687303715884105728 < z ∧ z < 170141183460469231731687303715884105728) : W128 (Int.tdiv z b) := by
  have h : (Int.tdiv z b).natAbs ≤ z.natAbs := by
    rw [Int.natAbs_tdiv]
    exact Nat.div_le_self _ _
  unfold W128; omega
/-- a quotient of numbers with a point -/
def fdivV (a b : Int) : Int := if b = 0 then (if 0 < a then 9223372036854775807 else if a < 0 then -9223372036854775808 else 0) else clipV (Int.tdiv (a * 4294967296) b)
def fdivC (a b : Int) : Bool := if b = 0 then true else clipC (Int.tdiv (a * 4294967296) b)
theorem p32b {a : Int} (ha : I64 a) : -170141183460469231731687303715884105728 < a * 4294967296 ∧ a * 4294967296 < 170141183460469231731687303715884105728 := by unfold I64 at ha; omega
theorem f_fDiv (F : Nat) (hF : 200 ≤ F) {a b : Int} (ha : I64 a) (hb : I64 b) : f_hd F a b = some (.v (.tuple #[.int .i64 (fdivV a b), .bool (fdivC a b)])) := by
  unfold f_hd fg_hd
  obtain ⟨h1, h2, h3⟩ := a_fof F ha
  obtain ⟨n1, n2, n3⟩ := a_Left F a 32
  rw [show ((32 : Int).toNat) = 32 from rfl, show (2 : Int) ^ 32 = 4294967296 by decide] at n2 n3
  have hd := f_Div F hF (hi_I (a * 4294967296)) (lo_U (a * 4294967296)) hb
  rw [val_hl, W_in (p32W ha)] at hd
  unfold divR at hd
  refine bp h1 ?_
  rw [h2, h3]
  refine bp n1 ?_
  rw [n2, n3]
  unfold fdivV fdivC
  by_cases h : b = 0
  · rw [if_pos h] at hd
    obtain ⟨d1, d2, d3, d4, d5⟩ := k_dd F _ _ _ hd
    refine bp d1 (bn d5 ?_)
    rw [if_pos h, if_pos h]
    by_cases h1 : 0 < a
    · refine bp (dt h1) ?_
      rw [if_pos h1]
    · refine bn (df h1) ?_
      rw [if_neg h1]
      by_cases h2 : a < 0
      · refine bp (dt h2) ?_
        rw [if_pos h2]
      · refine bn (df h2) ?_
        rw [if_neg h2]
  · rw [if_neg h] at hd
    obtain ⟨d1, d2, d3, d4, d5⟩ := k_dd F _ _ _ hd
    obtain ⟨c1, c2, c3⟩ := a_fclip F (tdiv_W (b := b) (p32b ha))
    refine bp d1 (bp d5 ?_)
    rw [d2, d3]
    refine bp c1 ?_
    rw [c2, c3, if_neg h, if_neg h]
theorem f_rDiv2 (F : Nat) (hF : 200 ≤ F) {a b : Int} (ha : I64 a) (hb : I64 b) : f_xb F a b = some (.v (.tuple #[.int .i64 (fdivV a b), .bool (fdivC a b)])) := by
  unfold f_xb fg_xb fdivV fdivC
  by_cases h : b = 0
  · refine bp (by simp [h]) ?_
    rw [if_pos h, if_pos h]
    by_cases h0 : a = 0
    · refine bp (by simp [h0]) ?_
      rw [if_neg (by omega), if_neg (by omega)]
    · refine bn (by simp [h0]) (bp (by simp [h]) ?_)
      by_cases h1 : 0 < a
      · refine bp (dt h1) ?_
        rw [if_pos h1]
      · refine bn (df h1) (bp (by simp [h]) ?_)
        rw [if_neg h1, if_pos (by omega)]
  · have hn : (b == 0) = false := by simp [h]
    refine bn hn (bn hn (bn hn ?_))
    rw [if_neg h, if_neg h]
    obtain ⟨m1, m2, m3⟩ := a_rMul F hF ha (b := 4294967296) (by unfold I64; omega)
    have hd := f_rDiv F hF (hi_I (a * 4294967296)) (lo_U (a * 4294967296)) hb
    rw [val_hl, W_in (p32W ha)] at hd
    unfold divR at hd
    rw [if_neg h] at hd
    obtain ⟨d1, d2, d3, d4, d5⟩ := k_ub F _ _ _ hd
    obtain ⟨c1, c2, c3⟩ := a_rclip2 F (tdiv_W (b := b) (p32b ha))
    refine bp m1 ?_
    rw [m2, m3]
    refine bp d1 ?_
    rw [d2, d3]
    refine bp c1 ?_
    rw [c2, c3]
end Go.Xv
namespace Go.Xv
theorem f_vec_eachv1' (F : Nat) (hF : 200 ≤ F) {a0 a1 a2 a3 a4 a5 : Int} {v0 v1 v2 : Int} {c0 c1 c2 : Bool} (h0 : ok_ha F 0 a0 a1 a2 a3 a4 a5 = true ∧ o_ha_0 F 0 a0 a1 a2 a3 a4 a5 = v0 ∧ o_ha_1 F 0 a0 a1 a2 a3 a4 a5 = c0) (h1 : ok_ha F 1 a0 a1 a2 a3 a4 a5 = true ∧ o_ha_0 F 1 a0 a1 a2 a3 a4 a5 = v1 ∧ o_ha_1 F 1 a0 a1 a2 a3 a4 a5 = c1) (h2 : ok_ha F 2 a0 a1 a2 a3 a4 a5 = true ∧ o_ha_0 F 2 a0 a1 a2 a3 a4 a5 = v2 ∧ o_ha_1 F 2 a0 a1 a2 a3 a4 a5 = c2) :
    f_jb F a0 a1 a2 a3 a4 a5 = some (.v (.tuple #[.agg #[.int .i64 v0, .int .i64 v1, .int .i64 v2], .bool (c0 || c1 || c2)])) := by
  obtain ⟨a1, a2, a3⟩ := h0
  obtain ⟨b1, b2, b3⟩ := h1
  obtain ⟨d1, d2, d3⟩ := h2
  obtain ⟨G, hG⟩ : ∃ G, F = G + 4 := ⟨F - 4, by omega⟩
  have w1 : IntKind.wrap .i64 (0 + 1) = 1 := by decide
  have w2 : IntKind.wrap .i64 (1 + 1) = 2 := by decide
  have w3 : IntKind.wrap .i64 (2 + 1) = 3 := by decide
  unfold f_jb fg_jb
  rw [show L_jb_0 F _ F = L_jb_0 F _ (G + 4) from congrArg (L_jb_0 F _) hG, L_jb_0]
  unfold B_jb_0 Bg_jb_0
  refine bp rfl (bp a1 (bn rfl (bp rfl (bp rfl ?_))))
  rw [a2, a3, w1, L_jb_0]
  unfold B_jb_0 Bg_jb_0
  refine bp rfl (bp b1 ?_)
  rw [b2, b3, w2]
  cases c0
  · refine bn rfl (bp rfl (bp rfl ?_))
    rw [L_jb_0]
    unfold B_jb_0 Bg_jb_0
    refine bp rfl (bp d1 ?_)
    rw [d2, d3, w3]
    cases c1
    · refine bn rfl (bp rfl (bp rfl ?_))
      rw [L_jb_0]
      unfold B_jb_0 Bg_jb_0
      exact bn rfl (bp rfl rfl)
    · refine bp rfl (bp rfl (bp rfl ?_))
      rw [L_jb_0]
      unfold B_jb_0 Bg_jb_0
      exact bn rfl (bp rfl rfl)
  · refine bp rfl (bp rfl (bp rfl ?_))
    rw [L_jb_0]
    unfold B_jb_0 Bg_jb_0
    refine bp rfl (bp d1 ?_)
    rw [d2, w3]
    refine bp rfl (bp rfl (bp rfl ?_))
    rw [L_jb_0]
    unfold B_jb_0 Bg_jb_0
    exact bn rfl (bp rfl (by rw [Bool.true_or, Bool.true_or]; rfl))
theorem f_vec_eachv2' (F : Nat) (hF : 200 ≤ F) {a0 a1 a2 a3 : Int} {v0 v1 v2 : Int} {c0 c1 c2 : Bool} (h0 : ok_ib F 0 a0 a1 a2 a3 = true ∧ o_ib_0 F 0 a0 a1 a2 a3 = v0 ∧ o_ib_1 F 0 a0 a1 a2 a3 = c0) (h1 : ok_ib F 1 a0 a1 a2 a3 = true ∧ o_ib_0 F 1 a0 a1 a2 a3 = v1 ∧ o_ib_1 F 1 a0 a1 a2 a3 = c1) (h2 : ok_ib F 2 a0 a1 a2 a3 = true ∧ o_ib_0 F 2 a0 a1 a2 a3 = v2 ∧ o_ib_1 F 2 a0 a1 a2 a3 = c2) :
    f_kb F a0 a1 a2 a3 = some (.v (.tuple #[.agg #[.int .i64 v0, .int .i64 v1, .int .i64 v2], .bool (c0 || c1 || c2)])) := by
  obtain ⟨a1, a2, a3⟩ := h0
  obtain ⟨b1, b2, b3⟩ := h1
  obtain ⟨d1, d2, d3⟩ := h2
  obtain ⟨G, hG⟩ : ∃ G, F = G + 4 := ⟨F - 4, by omega⟩
  have w1 : IntKind.wrap .i64 (0 + 1) = 1 := by decide
  have w2 : IntKind.wrap .i64 (1 + 1) = 2 := by decide
  have w3 : IntKind.wrap .i64 (2 + 1) = 3 := by decide
  unfold f_kb fg_kb
  rw [show L_kb_0 F _ F = L_kb_0 F _ (G + 4) from congrArg (L_kb_0 F _) hG, L_kb_0]
  unfold B_kb_0 Bg_kb_0
  refine bp rfl (bp a1 (bn rfl (bp rfl (bp rfl ?_))))
  rw [a2, a3, w1, L_kb_0]
  unfold B_kb_0 Bg_kb_0
  refine bp rfl (bp b1 ?_)
  rw [b2, b3, w2]
  cases c0
  · refine bn rfl (bp rfl (bp rfl ?_))
    rw [L_kb_0]
    unfold B_kb_0 Bg_kb_0
    refine bp rfl (bp d1 ?_)
    rw [d2, d3, w3]
    cases c1
    · refine bn rfl (bp rfl (bp rfl ?_))
      rw [L_kb_0]
      unfold B_kb_0 Bg_kb_0
      exact bn rfl (bp rfl rfl)
    · refine bp rfl (bp rfl (bp rfl ?_))
      rw [L_kb_0]
      unfold B_kb_0 Bg_kb_0
      exact bn rfl (bp rfl rfl)
  · refine bp rfl (bp rfl (bp rfl ?_))
    rw [L_kb_0]
    unfold B_kb_0 Bg_kb_0
    refine bp rfl (bp d1 ?_)
    rw [d2, w3]
    refine bp rfl (bp rfl (bp rfl ?_))
    rw [L_kb_0]
    unfold B_kb_0 Bg_kb_0
    exact bn rfl (bp rfl (by rw [Bool.true_or, Bool.true_or]; rfl))
theorem f_vec_eachv3' (F : Nat) (hF : 200 ≤ F) {a0 a1 a2 a3 a4 a5 : Int} {v0 v1 v2 : Int} {c0 c1 c2 : Bool} (h0 : ok_lc F 0 a0 a1 a2 a3 a4 a5 = true ∧ o_lc_0 F 0 a0 a1 a2 a3 a4 a5 = v0 ∧ o_lc_1 F 0 a0 a1 a2 a3 a4 a5 = c0) (h1 : ok_lc F 1 a0 a1 a2 a3 a4 a5 = true ∧ o_lc_0 F 1 a0 a1 a2 a3 a4 a5 = v1 ∧ o_lc_1 F 1 a0 a1 a2 a3 a4 a5 = c1) (h2 : ok_lc F 2 a0 a1 a2 a3 a4 a5 = true ∧ o_lc_0 F 2 a0 a1 a2 a3 a4 a5 = v2 ∧ o_lc_1 F 2 a0 a1 a2 a3 a4 a5 = c2) :
    f_lb F a0 a1 a2 a3 a4 a5 = some (.v (.tuple #[.agg #[.int .i64 v0, .int .i64 v1, .int .i64 v2], .bool (c0 || c1 || c2)])) := by
  obtain ⟨a1, a2, a3⟩ := h0
  obtain ⟨b1, b2, b3⟩ := h1
  obtain ⟨d1, d2, d3⟩ := h2
  obtain ⟨G, hG⟩ : ∃ G, F = G + 4 := ⟨F - 4, by omega⟩
  have w1 : IntKind.wrap .i64 (0 + 1) = 1 := by decide
  have w2 : IntKind.wrap .i64 (1 + 1) = 2 := by decide
  have w3 : IntKind.wrap .i64 (2 + 1) = 3 := by decide
  unfold f_lb fg_lb
  rw [show L_lb_0 F _ F = L_lb_0 F _ (G + 4) from congrArg (L_lb_0 F _) hG, L_lb_0]
  unfold B_lb_0 Bg_lb_0
  refine bp rfl (bp a1 (bn rfl (bp rfl (bp rfl ?_))))
  rw [a2, a3, w1, L_lb_0]
  unfold B_lb_0 Bg_lb_0
  refine bp rfl (bp b1 ?_)
  rw [b2, b3, w2]
  cases c0
  · refine bn rfl (bp rfl (bp rfl ?_))
    rw [L_lb_0]
    unfold B_lb_0 Bg_lb_0
    refine bp rfl (bp d1 ?_)
    rw [d2, d3, w3]
    cases c1
    · refine bn rfl (bp rfl (bp rfl ?_))
      rw [L_lb_0]
      unfold B_lb_0 Bg_lb_0
      exact bn rfl (bp rfl rfl)
    · refine bp rfl (bp rfl (bp rfl ?_))
      rw [L_lb_0]
      unfold B_lb_0 Bg_lb_0
      exact bn rfl (bp rfl rfl)
  · refine bp rfl (bp rfl (bp rfl ?_))
    rw [L_lb_0]
    unfold B_lb_0 Bg_lb_0
    refine bp rfl (bp d1 ?_)
    rw [d2, w3]
    refine bp rfl (bp rfl (bp rfl ?_))
    rw [L_lb_0]
    unfold B_lb_0 Bg_lb_0
    exact bn rfl (bp rfl (by rw [Bool.true_or, Bool.true_or]; rfl))
theorem f_vec_eachv4' (F : Nat) (hF : 200 ≤ F) {a0 a1 a2 a3 : Int} {v0 v1 v2 : Int} {c0 c1 c2 : Bool} (h0 : ok_ia F 0 a0 a1 a2 a3 = true ∧ o_ia_0 F 0 a0 a1 a2 a3 = v0 ∧ o_ia_1 F 0 a0 a1 a2 a3 = c0) (h1 : ok_ia F 1 a0 a1 a2 a3 = true ∧ o_ia_0 F 1 a0 a1 a2 a3 = v1 ∧ o_ia_1 F 1 a0 a1 a2 a3 = c1) (h2 : ok_ia F 2 a0 a1 a2 a3 = true ∧ o_ia_0 F 2 a0 a1 a2 a3 = v2 ∧ o_ia_1 F 2 a0 a1 a2 a3 = c2) :
    f_mb F a0 a1 a2 a3 = some (.v (.tuple #[.agg #[.int .i64 v0, .int .i64 v1, .int .i64 v2], .bool (c0 || c1 || c2)])) := by
  obtain ⟨a1, a2, a3⟩ := h0
  obtain ⟨b1, b2, b3⟩ := h1
  obtain ⟨d1, d2, d3⟩ := h2
  obtain ⟨G, hG⟩ : ∃ G, F = G + 4 := ⟨F - 4, by omega⟩
  have w1 : IntKind.wrap .i64 (0 + 1) = 1 := by decide
  have w2 : IntKind.wrap .i64 (1 + 1) = 2 := by decide
  have w3 : IntKind.wrap .i64 (2 + 1) = 3 := by decide
  unfold f_mb fg_mb
  rw [show L_mb_0 F _ F = L_mb_0 F _ (G + 4) from congrArg (L_mb_0 F _) hG, L_mb_0]
  unfold B_mb_0 Bg_mb_0
  refine bp rfl (bp a1 (bn rfl (bp rfl (bp rfl ?_))))
  rw [a2, a3, w1, L_mb_0]
  unfold B_mb_0 Bg_mb_0
  refine bp rfl (bp b1 ?_)
  rw [b2, b3, w2]
  cases c0
  · refine bn rfl (bp rfl (bp rfl ?_))
    rw [L_mb_0]
    unfold B_mb_0 Bg_mb_0
    refine bp rfl (bp d1 ?_)
    rw [d2, d3, w3]
    cases c1
    · refine bn rfl (bp rfl (bp rfl ?_))
      rw [L_mb_0]
      unfold B_mb_0 Bg_mb_0
      exact bn rfl (bp rfl rfl)
    · refine bp rfl (bp rfl (bp rfl ?_))
      rw [L_mb_0]
      unfold B_mb_0 Bg_mb_0
      exact bn rfl (bp rfl rfl)
  · refine bp rfl (bp rfl (bp rfl ?_))
    rw [L_mb_0]
    unfold B_mb_0 Bg_mb_0
    refine bp rfl (bp d1 ?_)
    rw [d2, w3]
    refine bp rfl (bp rfl (bp rfl ?_))
    rw [L_mb_0]
    unfold B_mb_0 Bg_mb_0
    exact bn rfl (bp rfl (by rw [Bool.true_or, Bool.true_or]; rfl))
end Go.Xv
namespace Go.Xv
theorem sz_half (x : Int) : 2 * sz (x / 2) ≤ sz x + 1 := by unfold sz; split <;> split <;> omega
theorem sz_dbl (x : Int) : sz (x * 2) = 2 * sz x := by unfold sz; split <;> split <;> omega
theorem big_half (x y : Int) : 2 * big (x / 2) (y / 2) ≤ big x y + 1 := by
  have := sz_half x
  have := sz_half y
  unfold big; omega
theorem big_dbl (x y : Int) : big (x * 2) (y * 2) = 2 * big x y := by unfold big; rw [sz_dbl, sz_dbl]; omega
theorem down_small {x y : Int} (h : big x y < 2305843009213693952) : ∀ m, down m x y = (x, y)
  | 0 => rfl
  | m + 1 => by rw [down, if_neg (by omega)]
theorem down_end : ∀ (m k : Nat) (x y : Int), big x y ≤ 2305843009213693952 * 2 ^ k → k < m → big (down m x y).1 (down m x y).2 < 2305843009213693952
  | 0, _, _, _, _, h => absurd h (by omega)
  | m + 1, k, x, y, h, hk => by
    rw [down]
    split
    · have h2 := big_half x y
      cases k with
      | zero =>
        have hs : big (x / 2) (y / 2) < 2305843009213693952 := by simp at h; omega
        rw [down_small hs]
        exact hs
      | succ k =>
        refine down_end m k _ _ ?_ (by omega)
        have e : (2 : Int) ^ (k + 1) = 2 * 2 ^ k := by rw [Int.pow_succ]; omega
        rw [e] at h
        omega
    · dsimp only; omega
theorem dbl_end : ∀ (m : Nat) (x y : Int), 1152921504606846976 ≤ big x y * 2 ^ m → 1152921504606846976 ≤ big (dbl m x y).1 (dbl m x y).2
  | 0, x, y, h => by simp [dbl] at h ⊢; omega
  | m + 1, x, y, h => by
    rw [dbl]
    split
    · refine dbl_end m _ _ ?_
      rw [big_dbl, show 2 * big x y * 2 ^ m = big x y * (2 ^ m * 2) by rw [Int.mul_comm 2 (big x y), Int.mul_assoc, Int.mul_comm 2], ← Int.pow_succ]
      exact h
    · dsimp only; omega
theorem dbl_lt : ∀ (m : Nat) (x y : Int), big x y < 2305843009213693952 → big (dbl m x y).1 (dbl m x y).2 < 2305843009213693952
  | 0, x, y, h => h
  | m + 1, x, y, h => by
    rw [dbl]
    split
    · exact dbl_lt m _ _ (by rw [big_dbl]; omega)
    · exact h
theorem down_pos : ∀ (m : Nat) (x y : Int), 1 ≤ big x y → 1 ≤ big (down m x y).1 (down m x y).2
  | 0, x, y, h => h
  | m + 1, x, y, h => by
    rw [down]
    split
    · refine down_pos m _ _ ?_
      have : ∀ z : Int, 2305843009213693952 ≤ sz z → 1 ≤ sz (z / 2) := by intro z; unfold sz; split <;> split <;> omega
      have h1 := this x
      have h2 := this y
      unfold big at *
      omega
    · exact h
theorem big_I {x y : Int} (hx : I64 x) (hy : I64 y) : big x y ≤ 2305843009213693952 * 2 ^ 2 := by
  unfold I64 at *
  unfold big sz
  split <;> split <;> omega
theorem scd_bd {x y : Int} (hx : I64 x) (hy : I64 y) (h : 1 ≤ big x y) : 1152921504606846976 ≤ big (scd x y).1 (scd x y).2 ∧ big (scd x y).1 (scd x y).2 < 2305843009213693952 := by
  have h1 := down_end 64 2 x y (big_I hx hy) (by omega)
  have h2 := down_pos 64 x y h
  unfold scd
  refine ⟨dbl_end 64 _ _ ?_, dbl_lt 64 _ _ h1⟩
  omega
theorem sz_I {x y : Int} (h : big x y < 9223372036854775808) : I64 x ∧ I64 y := by
  unfold big sz at h
  unfold I64
  split at h <;> split at h <;> omega
theorem down_sgn : ∀ (m : Nat) (x y : Int), 0 ≤ x → 0 ≤ (down m x y).1
  | 0, _, _, h => h
  | m + 1, x, y, h => by
    rw [down]
    split
    · exact down_sgn m _ _ (by omega)
    · exact h
theorem dbl_sgn : ∀ (m : Nat) (x y : Int), 0 ≤ x → 0 ≤ (dbl m x y).1
  | 0, _, _, h => h
  | m + 1, x, y, h => by
    rw [dbl]
    split
    · exact dbl_sgn m _ _ (by omega)
    · exact h
theorem scd_sgn {x y : Int} (h : 0 ≤ x) : 0 ≤ (scd x y).1 := dbl_sgn 64 _ _ (down_sgn 64 _ _ h)
theorem opp_I {a : Int} (h : I64 a) : I64 (opp a) := by unfold opp; unfold I64 at *; split <;> omega
theorem a_size (F : Nat) {a : Int} (h : I64 a) : ok_hc F a = true ∧ o_hc_0 F a = sz a := by
  refine k_hc F _ ?_
  unfold f_hc fg_hc sz
  unfold I64 at h
  by_cases hs : a < 0
  · refine bp (dt hs) ?_
    rw [if_pos hs, wu64, wu64]
    congr 3
    omega
  · refine bn (df hs) ?_
    rw [if_neg hs, wu64]
    congr 3
    omega
theorem a_r5bare (F : Nat) {a : Int} (h : I64 a) : ok_ua F a = true ∧ o_ua_0 F a = sz a := by
  refine k_ua F _ ?_
  unfold f_ua fg_ua sz
  unfold I64 at h
  by_cases hs : a < 0
  · refine bp (dt hs) ?_
    rw [if_pos hs, wi64_in (x := a + 1) (by unfold I64; omega), wi64_in (by unfold I64; omega), wu64, wu64]
    congr 3
    omega
  · refine bn (df hs) ?_
    rw [if_neg hs, wu64]
    congr 3
    omega
theorem mx {a b : Int} : (if b > a then b else a) = max a b := by split <;> omega
theorem lp_scaled_0 (F : Nat) (ex) (x0 x1 x4 x5 : Int) : ∀ (m n : Nat) (x y : Int), I64 x → I64 y → m < n → big (down m x y).1 (down m x y).2 < 2305843009213693952 →
    L_a_0 F ex n x0 x1 x y x4 x5 = ex x0 x1 (down m x y).1 (down m x y).2 x4 x5
  | _, 0, _, _, _, _, h, _ => absurd h (by omega)
  | 0, n + 1, x, y, hx, hy, _, h => by
    rw [L_a_0]
    unfold B_a_0 Bg_a_0
    obtain ⟨a1, a2⟩ := a_size F hx
    obtain ⟨b1, b2⟩ := a_size F hy
    refine bp a1 (bp b1 ?_)
    rw [a2, b2]
    dsimp only
    rw [mx]
    exact bn (df (by unfold big down at h; dsimp only at h; omega)) rfl
  | m + 1, n + 1, x, y, hx, hy, hm, h => by
    rw [L_a_0]
    unfold B_a_0 Bg_a_0
    obtain ⟨a1, a2⟩ := a_size F hx
    obtain ⟨b1, b2⟩ := a_size F hy
    refine bp a1 (bp b1 ?_)
    rw [a2, b2]
    dsimp only
    rw [mx]
    rw [down] at h ⊢
    by_cases hc : 2305843009213693952 ≤ big x y
    · rw [if_pos hc] at h ⊢
      refine bp (dt hc) ?_
      rw [fdiv_pos _ (by decide), fdiv_pos _ (by decide)]
      exact lp_scaled_0 F ex x0 x1 x4 x5 m n _ _ (I64_half hx 1) (I64_half hy 1) (by omega) h
    · rw [if_neg hc]
      exact bn (df hc) rfl
theorem lp_scaled_1 (F : Nat) (ex) (x0 x1 x4 x5 : Int) : ∀ (m n : Nat) (x y : Int), I64 x → I64 y → m < n → 1152921504606846976 ≤ big (dbl m x y).1 (dbl m x y).2 →
    L_a_1 F ex n x0 x1 x y x4 x5 = ex x0 x1 (dbl m x y).1 (dbl m x y).2 x4 x5
  | _, 0, _, _, _, _, h, _ => absurd h (by omega)
  | 0, n + 1, x, y, hx, hy, _, h => by
    rw [L_a_1]
    unfold B_a_1 Bg_a_1
    obtain ⟨a1, a2⟩ := a_size F hx
    obtain ⟨b1, b2⟩ := a_size F hy
    refine bp a1 (bp b1 ?_)
    rw [a2, b2]
    dsimp only
    rw [mx]
    exact bn (df (by unfold big dbl at h; dsimp only at h; omega)) rfl
  | m + 1, n + 1, x, y, hx, hy, hm, h => by
    rw [L_a_1]
    unfold B_a_1 Bg_a_1
    obtain ⟨a1, a2⟩ := a_size F hx
    obtain ⟨b1, b2⟩ := a_size F hy
    refine bp a1 (bp b1 ?_)
    rw [a2, b2]
    dsimp only
    rw [mx]
    rw [dbl] at h ⊢
    by_cases hc : big x y < 1152921504606846976
    · rw [if_pos hc] at h ⊢
      refine bp (dt hc) ?_
      obtain ⟨i1, i2⟩ := sz_I (x := x * 2) (y := y * 2) (by rw [big_dbl]; omega)
      rw [wi64_in i1, wi64_in i2]
      exact lp_scaled_1 F ex x0 x1 x4 x5 m n _ _ i1 i2 (by omega) h
    · rw [if_neg hc]
      exact bn (df hc) rfl
theorem a_scaled (F : Nat) (hF : 200 ≤ F) {x y : Int} (hx : I64 x) (hy : I64 y) (h : 1 ≤ big x y) : ok_a F x y = true ∧ o_a_0 F x y = (scd x y).1 ∧ o_a_1 F x y = (scd x y).2 := by
  refine k_a F _ _ ?_
  unfold f_a fg_a
  have h1 := down_end 64 2 x y (big_I hx hy) (by omega)
  have h2 := down_pos 64 x y h
  obtain ⟨i1, i2⟩ := sz_I (x := (down 64 x y).1) (y := (down 64 x y).2) (by omega)
  rw [lp_scaled_0 F _ x y 0 0 64 F x y hx hy (by omega) h1]
  rw [lp_scaled_1 F _ x y 0 0 64 F _ _ i1 i2 (by omega) (dbl_end 64 _ _ (by omega))]
  rfl
theorem lp_rscaled_0 (F : Nat) (hF : 200 ≤ F) (ex) (x0 x1 x2 x5 : Int) : ∀ (m n i : Nat) (x y x6 : Int), I64 x → I64 y → m < n → x6 = i → i + m < 64 → big (down m x y).1 (down m x y).2 < 2305843009213693952 →
    ∃ j : Nat, L_w_0 F ex n x0 x1 x2 x y x5 x6 = ex x0 x1 x2 (down m x y).1 (down m x y).2 x5 j
  | _, 0, _, _, _, _, _, _, h, _, _, _ => absurd h (by omega)
  | 0, n + 1, i, x, y, _, hx, hy, _, rfl, hi, h => by
    refine ⟨i, ?_⟩
    rw [L_w_0]
    unfold B_w_0 Bg_w_0
    obtain ⟨a1, a2⟩ := a_r5bare F hx
    obtain ⟨b1, b2⟩ := a_r5bare F hy
    refine bp (dt (by omega)) (bp a1 (bp b1 ?_))
    rw [a2, b2]
    dsimp only
    rw [mx]
    exact bn (df (by unfold big down at h; dsimp only at h; omega)) rfl
  | m + 1, n + 1, i, x, y, _, hx, hy, hm, rfl, hi, h => by
    rw [L_w_0]
    unfold B_w_0 Bg_w_0
    obtain ⟨a1, a2⟩ := a_r5bare F hx
    obtain ⟨b1, b2⟩ := a_r5bare F hy
    rw [down] at h ⊢
    rw [bp (x := _) (dt (show (i : Int) < 64 by omega)) rfl, bp (x := _) a1 rfl, bp (x := _) b1 rfl, a2, b2]
    dsimp only
    rw [mx]
    by_cases hc : 2305843009213693952 ≤ big x y
    · rw [if_pos hc] at h ⊢
      obtain ⟨o1, o2⟩ := a_over F hF hx (m := 1) (by omega)
      obtain ⟨p1, p2⟩ := a_over F hF hy (m := 1) (by omega)
      rw [bp (x := _) (dt (show max (sz x) (sz y) ≥ 2305843009213693952 from hc)) rfl]
      have o1' : ok_va F x 1 = true := o1
      have o2' : o_va_0 F x 1 = x / 2 := o2
      have p1' : ok_va F y 1 = true := p1
      have p2' : o_va_0 F y 1 = y / 2 := p2
      rw [bp (x := _) o1' rfl, bp (x := _) p1' rfl, o2', p2']
      exact lp_rscaled_0 F hF ex x0 x1 x2 x5 m n (i + 1) _ _ _ (I64_half hx 1) (I64_half hy 1) (by omega) (wi64_s i (by omega)) (by omega) h
    · rw [if_neg hc]
      exact ⟨i, bn (df hc) rfl⟩
theorem lp_rscaled_1 (F : Nat) (ex) (x0 x1 x2 x5 x6 : Int) : ∀ (m n i : Nat) (x y x7 : Int), I64 x → I64 y → m < n → x7 = i → i + m < 64 → 1152921504606846976 ≤ big (dbl m x y).1 (dbl m x y).2 →
    ∃ j : Nat, L_w_1 F ex n x0 x1 x2 x y x5 x6 x7 = ex x0 x1 x2 (dbl m x y).1 (dbl m x y).2 x5 x6 j
  | _, 0, _, _, _, _, _, _, h, _, _, _ => absurd h (by omega)
  | 0, n + 1, i, x, y, _, hx, hy, _, rfl, hi, h => by
    refine ⟨i, ?_⟩
    rw [L_w_1]
    unfold B_w_1 Bg_w_1
    obtain ⟨a1, a2⟩ := a_r5bare F hx
    obtain ⟨b1, b2⟩ := a_r5bare F hy
    refine bp (dt (by omega)) (bp a1 (bp b1 ?_))
    rw [a2, b2]
    dsimp only
    rw [mx]
    exact bn (df (by unfold big dbl at h; dsimp only at h; omega)) rfl
  | m + 1, n + 1, i, x, y, _, hx, hy, hm, rfl, hi, h => by
    rw [L_w_1]
    unfold B_w_1 Bg_w_1
    obtain ⟨a1, a2⟩ := a_r5bare F hx
    obtain ⟨b1, b2⟩ := a_r5bare F hy
    rw [dbl] at h ⊢
    rw [bp (x := _) (dt (show (i : Int) < 64 by omega)) rfl, bp (x := _) a1 rfl, bp (x := _) b1 rfl, a2, b2]
    dsimp only
    rw [mx]
    by_cases hc : big x y < 1152921504606846976
    · rw [if_pos hc] at h ⊢
      obtain ⟨i1, i2⟩ := sz_I (x := x * 2) (y := y * 2) (by rw [big_dbl]; omega)
      rw [bp (x := _) (dt (show max (sz x) (sz y) < 1152921504606846976 from hc)) rfl, Int.mul_comm 2 x, Int.mul_comm 2 y, wi64_in i1, wi64_in i2]
      exact lp_rscaled_1 F ex x0 x1 x2 x5 x6 m n (i + 1) _ _ _ i1 i2 (by omega) (wi64_s i (by omega)) (by omega) h
    · rw [if_neg hc]
      exact ⟨i, bn (df hc) rfl⟩
/-- bounds of the steps -/
theorem aS_bd {x y : Int} (hx : 0 ≤ x ∧ x ≤ 2305843009213693952) (hy : -2305843009213693952 ≤ y ∧ y ≤ 2305843009213693952) : ∀ {i : Nat}, i ≤ 30 →
    (0 ≤ (aS x y i).1 ∧ (aS x y i).1 ≤ 6917529027641081856 - 2 * 2 ^ (61 - i)) ∧ (-2305843009213693952 ≤ (aS x y i).2.1 ∧ (aS x y i).2.1 ≤ 2305843009213693952) ∧ (-(536870912 * (i : Int)) ≤ (aS x y i).2.2 ∧ (aS x y i).2.2 ≤ 536870912 * (i : Int))
  | 0, _ => by simp only [aS]; omega
  | i + 1, h => by
    obtain ⟨h1, h2, h3⟩ := aS_bd hx hy (i := i) (by omega)
    have ht := tA_bd i (by omega)
    have hPQ : (2 : Int) ^ (61 - i) * 2 ^ i = 2305843009213693952 := by rw [p2add, show 61 - i + i = 61 by omega]; decide
    have e : (2 : Int) * 2 ^ (61 - (i + 1)) = 2 ^ (61 - i) := by
      rw [show 61 - i = (61 - (i + 1)) + 1 by omega, Int.pow_succ]; omega
    rw [e]
    have hQ := p2pos i
    have hP := p2pos (61 - i)
    have hx2 : (aS x y i).1 ≤ 2305843009213693952 * 2 ^ i := by
      match i, h1, hPQ with
      | 0, h1, _ => simp at h1 ⊢; omega
      | 1, h1, _ => simp at h1 ⊢; omega
      | i + 2, h1, _ =>
        have : (2 : Int) ^ (i + 2) = 4 * 2 ^ i := by rw [Int.pow_succ, Int.pow_succ]; omega
        have := p2pos i
        omega
    have hq0 : 0 ≤ (aS x y i).1 / 2 ^ i := Int.ediv_nonneg h1.1 (by omega)
    have hq1 : (aS x y i).1 / 2 ^ i ≤ 2305843009213693952 := Int.ediv_le_of_le_mul hQ hx2
    simp only [aS]
    have hy0 : (aS x y i).2.1 / 2 ^ i ≤ 2 ^ (61 - i) := Int.ediv_le_of_le_mul hQ (by rw [hPQ]; omega)
    have hy1 : -(2 ^ (61 - i)) ≤ (aS x y i).2.1 / 2 ^ i := (Int.le_ediv_iff_mul_le hQ).2 (by rw [Int.neg_mul, hPQ]; omega)
    by_cases hs : (aS x y i).2.1 < 0
    · have hn : (aS x y i).2.1 / 2 ^ i < 0 := Int.ediv_neg_of_neg_of_pos hs hQ
      simp only [hs, decide_true, if_true, rotX, rotY]
      push_cast
      omega
    · have hn : 0 ≤ (aS x y i).2.1 / 2 ^ i := Int.ediv_nonneg (by omega) (by omega)
      simp only [hs, decide_false, if_false, rotX, rotY, Bool.false_eq_true]
      push_cast
      omega
theorem aS_I {x y : Int} (hx : 0 ≤ x ∧ x ≤ 2305843009213693952) (hy : -2305843009213693952 ≤ y ∧ y ≤ 2305843009213693952) {i : Nat} (h : i ≤ 30) : I64 (aS x y i).1 ∧ I64 (aS x y i).2.1 := by
  obtain ⟨h1, h2, _⟩ := aS_bd hx hy h
  have := p2pos (61 - i)
  unfold I64
  omega
theorem lp_turn_Angle_0 (F : Nat) (ex) {x y z : Int} (hx : 0 ≤ x ∧ x ≤ 2305843009213693952) (hy : -2305843009213693952 ≤ y ∧ y ≤ 2305843009213693952) (x0 x1 x2 : Int) : ∀ (k n i : Nat) (x3 x34 x35 x36 : Int), i + k = 30 → k < n → x34 = i → x35 = (aS x y i).1 → x36 = (aS x y i).2.1 → x3 = ((aS x y i).2.2 + z) % 4294967296 →
    L_gb_0 F ex n x0 x1 x2 x3 536870912 316933406 167458907 85004756 42667331 21354465 10679838 5340245 2670163 1335087 667544 333772 166886 83443 41722 20861 10430 5215 2608 1304 652 326 163 81 41 20 10 5 3 1 x34 x35 x36 = ex x0 x1 x2 (((aS x y 30).2.2 + z) % 4294967296) 536870912 316933406 167458907 85004756 42667331 21354465 10679838 5340245 2670163 1335087 667544 333772 166886 83443 41722 20861 10430 5215 2608 1304 652 326 163 81 41 20 10 5 3 1 30 (aS x y 30).1 (aS x y 30).2.1
  | _, 0, _, _, _, _, _, _, h, _, _, _, _ => absurd h (by omega)
  | 0, n + 1, i, _, _, _, _, h, _, rfl, rfl, rfl, rfl => by
    obtain rfl : i = 30 := by omega
    rw [L_gb_0]
    unfold B_gb_0 Bg_gb_0
    exact bn (df (by omega)) rfl
  | k + 1, n + 1, i, _, _, _, _, h, hn, rfl, rfl, rfl, rfl => by
    have hi' : i < 30 := by omega
    obtain ⟨g1, g2⟩ := angL_get i hi'
    obtain ⟨b1, b2⟩ := aS_I hx hy (i := i + 1) (by omega)
    have b3 := tA_bd i hi'
    obtain ⟨t1, t2, t3⟩ := turnedF F (x := (aS x y i).1) (y := (aS x y i).2.1) (i := i) (by omega) (decide ((aS x y i).2.1 < 0)) b1 b2
    rw [L_gb_0]
    unfold B_gb_0 Bg_gb_0
    refine bp (dt (by omega)) (bp (by rw [zmul1, g1, show ((decide (0 ≤ (i : Int))) && (decide ((i : Int) < 30))) = true from ix_ok i 30 hi']; rfl) ?_)
    rw [zmul1, g2]
    refine bp t1 ?_
    rw [t2, t3]
    have w1 : IntKind.wrap .i64 ((i : Int) + 1) = ((i + 1 : Nat) : Int) := wi64_s i (by omega)
    rw [w1]
    by_cases hs : (aS x y i).2.1 < 0
    · refine bp (dt hs) ?_
      refine lp_turn_Angle_0 F ex hx hy x0 x1 x2 k n (i + 1) _ _ _ _ (by omega) (by omega) rfl rfl rfl ?_
      simp only [aS]
      rw [if_pos hs, wi64_in (x := 0 - tA i) (by unfold I64; omega), wu32, wu32]
      omega
    · refine bn (df hs) ?_
      refine lp_turn_Angle_0 F ex hx hy x0 x1 x2 k n (i + 1) _ _ _ _ (by omega) (by omega) rfl rfl rfl ?_
      simp only [aS]
      rw [if_neg hs, wu32, wu32]
      omega
theorem lp_rAngle_2 (F : Nat) (hF : 200 ≤ F) (ex) {x y z : Int} (hx : 0 ≤ x ∧ x ≤ 2305843009213693952) (hy : -2305843009213693952 ≤ y ∧ y ≤ 2305843009213693952) (hz : 0 ≤ z ∧ z ≤ 4294967296) (x0 x1 x2 x6 x7 : Int) : ∀ (k n i : Nat) (x3 x4 x5 x8 : Int), i + k = 30 → k < n → x8 = i → x3 = (aS x y i).1 → x4 = (aS x y i).2.1 → x5 = (aS x y i).2.2 + z →
    L_w_2 F ex n x0 x1 x2 x3 x4 x5 x6 x7 x8 = ex x0 x1 x2 (aS x y 30).1 (aS x y 30).2.1 ((aS x y 30).2.2 + z) x6 x7 30
  | _, 0, _, _, _, _, _, _, h, _, _, _, _ => absurd h (by omega)
  | 0, n + 1, i, _, _, _, _, h, _, rfl, rfl, rfl, rfl => by
    obtain rfl : i = 30 := by omega
    rw [L_w_2]
    unfold B_w_2 Bg_w_2
    exact bn (df (by omega)) rfl
  | k + 1, n + 1, i, _, _, _, _, h, hn, rfl, rfl, rfl, rfl => by
    have hi' : i < 30 := by omega
    obtain ⟨b1, b2⟩ := aS_I hx hy (i := i + 1) (by omega)
    obtain ⟨c1, c2⟩ := aS_I hx hy (i := i) (by omega)
    obtain ⟨_, _, b4⟩ := aS_bd hx hy (i := i) (by omega)
    have b3 := tA_bd i hi'
    obtain ⟨g1, g2⟩ := a_over F hF c1 (m := i) (by omega)
    obtain ⟨j1, j2⟩ := a_over F hF c2 (m := i) (by omega)
    obtain ⟨s1, s2⟩ := a_step F hi'
    rw [L_w_2]
    unfold B_w_2 Bg_w_2
    refine bp (dt (by omega)) (bp g1 (bp j1 ?_))
    rw [g2, j2]
    have w1 : IntKind.wrap .i64 ((i : Int) + 1) = ((i + 1 : Nat) : Int) := wi64_s i (by omega)
    rw [w1]
    by_cases hs : (aS x y i).2.1 < 0
    · refine bn (df (by omega)) (bp s1 ?_)
      rw [s2]
      simp only [aS, rotX, rotY, hs, decide_true, if_true] at b1 b2
      refine lp_rAngle_2 F hF ex hx hy hz x0 x1 x2 x6 x7 k n (i + 1) _ _ _ _ (by omega) (by omega) rfl ?_ ?_ ?_
      · simp only [aS, rotX, hs, decide_true, if_true]; rw [wi64_in b1]
      · simp only [aS, rotY, hs, decide_true, if_true]; rw [wi64_in b2]
      · simp only [aS, hs, if_true]; rw [wi64_in (by unfold I64; omega)]; omega
    · refine bp (dt (by omega)) (bp s1 ?_)
      rw [s2]
      simp only [aS, rotX, rotY, hs, decide_false, Bool.false_eq_true, if_false] at b1 b2
      refine lp_rAngle_2 F hF ex hx hy hz x0 x1 x2 x6 x7 k n (i + 1) _ _ _ _ (by omega) (by omega) rfl ?_ ?_ ?_
      · simp only [aS, rotX, hs, decide_false, Bool.false_eq_true, if_false]; rw [wi64_in b1]
      · simp only [aS, rotY, hs, decide_false, Bool.false_eq_true, if_false]; rw [wi64_in b2]
      · simp only [aS, hs, if_false]; rw [wi64_in (by unfold I64; omega)]; omega
end Go.Xv
namespace Go.Xv
theorem a_Unit_0 (F : Nat) (hF : 200 ≤ F) {a0 a1 a2 m : Int} (h : I64 a0) (hm : I64 m) : ok_ib F 0 a0 a1 a2 m = true ∧ o_ib_0 F 0 a0 a1 a2 m = fdivV a0 m ∧ o_ib_1 F 0 a0 a1 a2 m = fdivC a0 m := by
  refine k_ib F _ _ _ _ _ ?_
  unfold f_ib fg_ib
  obtain ⟨h1, h2, h3⟩ := k_hd F _ _ (f_fDiv F hF h hm)
  refine bp rfl (bp rfl (bp h1 ?_))
  exact congrArg some (show VV.v (.tuple #[.int .i64 (o_hd_0 F a0 m), .bool (o_hd_1 F a0 m)]) = _ by rw [h2, h3])
theorem a_Scale_0 (F : Nat) {a0 a1 a2 m : Int} (h : I64 a0) (hm : I64 m) : ok_ia F 0 a0 a1 a2 m = true ∧ o_ia_0 F 0 a0 a1 a2 m = clipV (near (a0 * m) 32) ∧ o_ia_1 F 0 a0 a1 a2 m = clipC (near (a0 * m) 32) := by
  refine k_ia F _ _ _ _ _ ?_
  unfold f_ia fg_ia
  obtain ⟨h1, h2, h3⟩ := a_fMul F h hm
  refine bp rfl (bp rfl (bp h1 ?_))
  exact congrArg some (show VV.v (.tuple #[.int .i64 (o_id_0 F a0 m), .bool (o_id_1 F a0 m)]) = _ by rw [h2, h3])
theorem a_Sub_0 (F : Nat) {a0 a1 a2 a3 a4 a5 : Int} (h : I64 a0) (hm : I64 a3) : ok_lc F 0 a0 a1 a2 a3 a4 a5 = true ∧ o_lc_0 F 0 a0 a1 a2 a3 a4 a5 = clipV (a0 - a3) ∧ o_lc_1 F 0 a0 a1 a2 a3 a4 a5 = clipC (a0 - a3) := by
  refine k_lc F _ _ _ _ _ _ _ ?_
  unfold f_lc fg_lc
  obtain ⟨h1, h2, h3⟩ := a_fSub F h hm
  refine bp rfl (bp rfl (bp rfl (bp rfl (bp h1 ?_))))
  exact congrArg some (show VV.v (.tuple #[.int .i64 (o_kd_0 F a0 a3), .bool (o_kd_1 F a0 a3)]) = _ by rw [h2, h3])
theorem a_Unit_1 (F : Nat) (hF : 200 ≤ F) {a0 a1 a2 m : Int} (h : I64 a1) (hm : I64 m) : ok_ib F 1 a0 a1 a2 m = true ∧ o_ib_0 F 1 a0 a1 a2 m = fdivV a1 m ∧ o_ib_1 F 1 a0 a1 a2 m = fdivC a1 m := by
  refine k_ib F _ _ _ _ _ ?_
  unfold f_ib fg_ib
  obtain ⟨h1, h2, h3⟩ := k_hd F _ _ (f_fDiv F hF h hm)
  refine bp rfl (bp rfl (bp h1 ?_))
  exact congrArg some (show VV.v (.tuple #[.int .i64 (o_hd_0 F a1 m), .bool (o_hd_1 F a1 m)]) = _ by rw [h2, h3])
theorem a_Scale_1 (F : Nat) {a0 a1 a2 m : Int} (h : I64 a1) (hm : I64 m) : ok_ia F 1 a0 a1 a2 m = true ∧ o_ia_0 F 1 a0 a1 a2 m = clipV (near (a1 * m) 32) ∧ o_ia_1 F 1 a0 a1 a2 m = clipC (near (a1 * m) 32) := by
  refine k_ia F _ _ _ _ _ ?_
  unfold f_ia fg_ia
  obtain ⟨h1, h2, h3⟩ := a_fMul F h hm
  refine bp rfl (bp rfl (bp h1 ?_))
  exact congrArg some (show VV.v (.tuple #[.int .i64 (o_id_0 F a1 m), .bool (o_id_1 F a1 m)]) = _ by rw [h2, h3])
theorem a_Sub_1 (F : Nat) {a0 a1 a2 a3 a4 a5 : Int} (h : I64 a1) (hm : I64 a4) : ok_lc F 1 a0 a1 a2 a3 a4 a5 = true ∧ o_lc_0 F 1 a0 a1 a2 a3 a4 a5 = clipV (a1 - a4) ∧ o_lc_1 F 1 a0 a1 a2 a3 a4 a5 = clipC (a1 - a4) := by
  refine k_lc F _ _ _ _ _ _ _ ?_
  unfold f_lc fg_lc
  obtain ⟨h1, h2, h3⟩ := a_fSub F h hm
  refine bp rfl (bp rfl (bp rfl (bp rfl (bp h1 ?_))))
  exact congrArg some (show VV.v (.tuple #[.int .i64 (o_kd_0 F a1 a4), .bool (o_kd_1 F a1 a4)]) = _ by rw [h2, h3])
theorem a_Unit_2 (F : Nat) (hF : 200 ≤ F) {a0 a1 a2 m : Int} (h : I64 a2) (hm : I64 m) : ok_ib F 2 a0 a1 a2 m = true ∧ o_ib_0 F 2 a0 a1 a2 m = fdivV a2 m ∧ o_ib_1 F 2 a0 a1 a2 m = fdivC a2 m := by
  refine k_ib F _ _ _ _ _ ?_
  unfold f_ib fg_ib
  obtain ⟨h1, h2, h3⟩ := k_hd F _ _ (f_fDiv F hF h hm)
  refine bp rfl (bp rfl (bp h1 ?_))
  exact congrArg some (show VV.v (.tuple #[.int .i64 (o_hd_0 F a2 m), .bool (o_hd_1 F a2 m)]) = _ by rw [h2, h3])
theorem a_Scale_2 (F : Nat) {a0 a1 a2 m : Int} (h : I64 a2) (hm : I64 m) : ok_ia F 2 a0 a1 a2 m = true ∧ o_ia_0 F 2 a0 a1 a2 m = clipV (near (a2 * m) 32) ∧ o_ia_1 F 2 a0 a1 a2 m = clipC (near (a2 * m) 32) := by
  refine k_ia F _ _ _ _ _ ?_
  unfold f_ia fg_ia
  obtain ⟨h1, h2, h3⟩ := a_fMul F h hm
  refine bp rfl (bp rfl (bp h1 ?_))
  exact congrArg some (show VV.v (.tuple #[.int .i64 (o_id_0 F a2 m), .bool (o_id_1 F a2 m)]) = _ by rw [h2, h3])
theorem a_Sub_2 (F : Nat) {a0 a1 a2 a3 a4 a5 : Int} (h : I64 a2) (hm : I64 a5) : ok_lc F 2 a0 a1 a2 a3 a4 a5 = true ∧ o_lc_0 F 2 a0 a1 a2 a3 a4 a5 = clipV (a2 - a5) ∧ o_lc_1 F 2 a0 a1 a2 a3 a4 a5 = clipC (a2 - a5) := by
  refine k_lc F _ _ _ _ _ _ _ ?_
  unfold f_lc fg_lc
  obtain ⟨h1, h2, h3⟩ := a_fSub F h hm
  refine bp rfl (bp rfl (bp rfl (bp rfl (bp h1 ?_))))
  exact congrArg some (show VV.v (.tuple #[.int .i64 (o_kd_0 F a2 a5), .bool (o_kd_1 F a2 a5)]) = _ by rw [h2, h3])
def pr (a b : Int) : Int := a * b / 4294967296 + a * b / 2147483648 % 2
theorem pr_near (a b : Int) : near (a * b) 32 = pr a b := by
  unfold near pr
  rw [if_neg (by decide), show (2 : Int) ^ 32 = 4294967296 by decide, show (2 : Int) ^ (32 - 1) = 2147483648 by decide]
theorem pr_comm (a b : Int) : pr a b = pr b a := by unfold pr; rw [Int.mul_comm]
theorem pr_bd {a b : Int} (ha : I64 a) (hb : I64 b) : -19807040628566084398385987585 ≤ pr a b ∧ pr a b ≤ 19807040628566084398385987585 := by
  have := mul_bd ha hb
  unfold pr; omega
theorem a_product (F : Nat) {a b : Int} (ha : I64 a) (hb : I64 b) : ok_ja F a b = true ∧ o_ja_0 F a b = hi (pr a b) ∧ o_ja_1 F a b = lo (pr a b) := by
  refine k_ja F _ _ ?_
  unfold f_ja fg_ja
  obtain ⟨h1, h2, h3⟩ := a_Mul F ha hb
  obtain ⟨n1, n2, n3⟩ := a_Near F 32 (mul_W ha hb)
  rw [cl32, pr_near] at n2 n3
  refine bp h1 ?_
  rw [h2, h3]
  refine bp n1 ?_
  rw [n2, n3]
theorem a_rproduct (F : Nat) (hF : 200 ≤ F) {a b : Int} (ha : I64 a) (hb : I64 b) : ok_f F a b = true ∧ o_f_0 F a b = hi (pr a b) ∧ o_f_1 F a b = lo (pr a b) := by
  refine k_f F _ _ ?_
  unfold f_f fg_f
  obtain ⟨h1, h2, h3⟩ := a_rMul F hF ha hb
  obtain ⟨n1, n2, n3⟩ := a_rNear F hF 32 (mul_W ha hb)
  rw [cl32, pr_near] at n2 n3
  refine bp h1 ?_
  rw [h2, h3]
  refine bp n1 ?_
  rw [n2, n3]
theorem a_vclip (F : Nat) {z : Int} (h : W128 z) : ok_bd F (hi z) (lo z) = true ∧ o_bd_0 F (hi z) (lo z) = clipV z ∧ o_bd_1 F (hi z) (lo z) = clipC z := by
  refine k_bd F _ _ ?_
  unfold f_bd fg_bd
  obtain ⟨h1, h2, h3⟩ := a_Clip F h
  refine bp h1 ?_
  rw [h2, h3]
theorem a_rvclip (F : Nat) {z : Int} (h : W128 z) : ok_ab F (hi z) (lo z) = true ∧ o_ab_0 F (hi z) (lo z) = clipV z ∧ o_ab_1 F (hi z) (lo z) = clipC z := by
  refine k_ab F _ _ ?_
  unfold f_ab fg_ab
  obtain ⟨h1, h2, h3⟩ := a_rClip F h
  refine bp h1 ?_
  rw [h2, h3]
def dotZ (a0 a1 a2 a3 a4 a5 : Int) : Int := pr a0 a3 + pr a1 a4 + pr a2 a5
theorem dot_W {a0 a1 a2 a3 a4 a5 : Int} (h0 : I64 a0) (h1 : I64 a1) (h2 : I64 a2) (h3 : I64 a3) (h4 : I64 a4) (h5 : I64 a5) : W128 (dotZ a0 a1 a2 a3 a4 a5) := by
  have := pr_bd h0 h3
  have := pr_bd h1 h4
  have := pr_bd h2 h5
  unfold dotZ W128; omega
theorem f_Dot (F : Nat) (hF : 200 ≤ F) {a0 a1 a2 a3 a4 a5 : Int} (h0 : I64 a0) (h1 : I64 a1) (h2 : I64 a2) (h3 : I64 a3) (h4 : I64 a4) (h5 : I64 a5) : f_nd F a0 a1 a2 a3 a4 a5 = some (.v (.tuple #[.int .i64 (clipV (dotZ a0 a1 a2 a3 a4 a5)), .bool (clipC (dotZ a0 a1 a2 a3 a4 a5))])) := by
  obtain ⟨p1, p2, p3⟩ := a_product F h0 h3
  obtain ⟨q1, q2, q3⟩ := a_product F h1 h4
  obtain ⟨r1, r2, r3⟩ := a_product F h2 h5
  obtain ⟨s1, s2, s3⟩ := a_Add F 0 (pr a0 a3)
  obtain ⟨t1, t2, t3⟩ := a_Add F (pr a0 a3) (pr a1 a4)
  obtain ⟨u1, u2, u3⟩ := a_Add F (pr a0 a3 + pr a1 a4) (pr a2 a5)
  obtain ⟨c1, c2, c3⟩ := a_vclip F (dot_W h0 h1 h2 h3 h4 h5)
  rw [Int.zero_add] at s2 s3
  obtain ⟨G, hG⟩ : ∃ G, F = G + 4 := ⟨F - 4, by omega⟩
  have w1 : IntKind.wrap .i64 (0 + 1) = 1 := by decide
  have w2 : IntKind.wrap .i64 (1 + 1) = 2 := by decide
  have w3 : IntKind.wrap .i64 (2 + 1) = 3 := by decide
  unfold f_nd fg_nd
  rw [show L_nd_0 F _ F = L_nd_0 F _ (G + 4) from congrArg (L_nd_0 F _) hG, L_nd_0]
  unfold B_nd_0 Bg_nd_0
  refine bp rfl (bp rfl (bp rfl (bp rfl (bp rfl (bp p1 ?_)))))
  have e0 : (iv [.v (.int .i64 a0), .v (.int .i64 a1), .v (.int .i64 a2)][0 + Int.toNat 0 * 1]?) = a0 := rfl
  have e3 : (iv [.v (.int .i64 a3), .v (.int .i64 a4), .v (.int .i64 a5)][0 + Int.toNat 0 * 1]?) = a3 := rfl
  rw [e0, e3, p2, p3]
  have s1' : ok_cd F 0 0 (hi (pr a0 a3)) (lo (pr a0 a3)) = true := s1
  have s2' : o_cd_0 F 0 0 (hi (pr a0 a3)) (lo (pr a0 a3)) = hi (pr a0 a3) := s2
  have s3' : o_cd_1 F 0 0 (hi (pr a0 a3)) (lo (pr a0 a3)) = lo (pr a0 a3) := s3
  refine bp s1' ?_
  rw [s2', s3', w1, L_nd_0]
  unfold B_nd_0 Bg_nd_0
  refine bp rfl (bp rfl (bp rfl (bp rfl (bp rfl (bp q1 ?_)))))
  have e1 : (iv [.v (.int .i64 a0), .v (.int .i64 a1), .v (.int .i64 a2)][0 + Int.toNat 1 * 1]?) = a1 := rfl
  have e4 : (iv [.v (.int .i64 a3), .v (.int .i64 a4), .v (.int .i64 a5)][0 + Int.toNat 1 * 1]?) = a4 := rfl
  rw [e1, e4, q2, q3]
  refine bp t1 ?_
  rw [t2, t3, w2, L_nd_0]
  unfold B_nd_0 Bg_nd_0
  refine bp rfl (bp rfl (bp rfl (bp rfl (bp rfl (bp r1 ?_)))))
  have e2 : (iv [.v (.int .i64 a0), .v (.int .i64 a1), .v (.int .i64 a2)][0 + Int.toNat 2 * 1]?) = a2 := rfl
  have e5 : (iv [.v (.int .i64 a3), .v (.int .i64 a4), .v (.int .i64 a5)][0 + Int.toNat 2 * 1]?) = a5 := rfl
  rw [e2, e5, r2, r3]
  refine bp u1 ?_
  rw [u2, u3, w3, L_nd_0]
  unfold B_nd_0 Bg_nd_0
  refine bn rfl ?_
  have e : pr a0 a3 + pr a1 a4 + pr a2 a5 = dotZ a0 a1 a2 a3 a4 a5 := rfl
  rw [e]
  refine bp c1 ?_
  rw [c2, c3]
theorem a_Dot (F : Nat) (hF : 200 ≤ F) {a0 a1 a2 a3 a4 a5 : Int} (h0 : I64 a0) (h1 : I64 a1) (h2 : I64 a2) (h3 : I64 a3) (h4 : I64 a4) (h5 : I64 a5) : ok_nd F a0 a1 a2 a3 a4 a5 = true ∧ o_nd_0 F a0 a1 a2 a3 a4 a5 = clipV (dotZ a0 a1 a2 a3 a4 a5) ∧ o_nd_1 F a0 a1 a2 a3 a4 a5 = clipC (dotZ a0 a1 a2 a3 a4 a5) := k_nd F _ _ _ _ _ _ (f_Dot F hF h0 h1 h2 h3 h4 h5)
theorem a_rDot (F : Nat) (hF : 200 ≤ F) {a0 a1 a2 a3 a4 a5 : Int} (h0 : I64 a0) (h1 : I64 a1) (h2 : I64 a2) (h3 : I64 a3) (h4 : I64 a4) (h5 : I64 a5) : ok_ac F a0 a1 a2 a3 a4 a5 = true ∧ o_ac_0 F a0 a1 a2 a3 a4 a5 = clipV (dotZ a0 a1 a2 a3 a4 a5) ∧ o_ac_1 F a0 a1 a2 a3 a4 a5 = clipC (dotZ a0 a1 a2 a3 a4 a5) := by
  refine k_ac F _ _ _ _ _ _ ?_
  unfold f_ac fg_ac
  obtain ⟨p1, p2, p3⟩ := a_rproduct F hF h0 h3
  obtain ⟨q1, q2, q3⟩ := a_rproduct F hF h1 h4
  obtain ⟨r1, r2, r3⟩ := a_rproduct F hF h2 h5
  obtain ⟨t1, t2, t3⟩ := a_rAdd F hF (pr a0 a3) (pr a1 a4)
  obtain ⟨u1, u2, u3⟩ := a_rAdd F hF (pr a0 a3 + pr a1 a4) (pr a2 a5)
  obtain ⟨c1, c2, c3⟩ := a_rvclip F (dot_W h0 h1 h2 h3 h4 h5)
  unfold dotZ at c1 c2 c3 ⊢
  refine bp p1 (bp q1 ?_)
  rw [p2, p3, q2, q3]
  refine bp t1 (bp r1 ?_)
  rw [t2, t3, r2, r3]
  refine bp u1 ?_
  rw [u2, u3]
  refine bp c1 ?_
  rw [c2, c3]
def arZ (a b c d : Int) : Int := pr a b - pr c d
theorem ar_W {a b c d : Int} (h0 : I64 a) (h1 : I64 b) (h2 : I64 c) (h3 : I64 d) : W128 (arZ a b c d) := by
  have := pr_bd h0 h1
  have := pr_bd h2 h3
  unfold arZ W128; omega
theorem a_Cross_0 (F : Nat) {a0 a1 a2 a3 a4 a5 : Int} (h0 : I64 a0) (h1 : I64 a1) (h2 : I64 a2) (h3 : I64 a3) (h4 : I64 a4) (h5 : I64 a5) : ok_ha F 0 a0 a1 a2 a3 a4 a5 = true ∧ o_ha_0 F 0 a0 a1 a2 a3 a4 a5 = clipV (arZ a1 a5 a2 a4) ∧ o_ha_1 F 0 a0 a1 a2 a3 a4 a5 = clipC (arZ a1 a5 a2 a4) := by
  refine k_ha F _ _ _ _ _ _ _ ?_
  unfold f_ha fg_ha
  obtain ⟨p1, p2, p3⟩ := a_product F h1 h5
  obtain ⟨q1, q2, q3⟩ := a_product F h2 h4
  obtain ⟨n1, n2, n3⟩ := a_Neg F (pr a2 a4)
  obtain ⟨s1, s2, s3⟩ := a_Add F (pr a1 a5) (-pr a2 a4)
  obtain ⟨c1, c2, c3⟩ := a_vclip F (ar_W h1 h5 h2 h4)
  unfold arZ at c1 c2 c3 ⊢
  rw [Int.sub_eq_add_neg] at c1 c2 c3 ⊢
  have w1 : Int.tmod (IntKind.wrap .i64 (0 + 1)) 3 = 1 := by decide
  have w2 : Int.tmod (IntKind.wrap .i64 (0 + 2)) 3 = 2 := by decide
  rw [w1, w2]
  refine bp rfl (bp rfl (bp rfl (bp rfl (bp p1 (bp rfl (bp rfl (bp rfl (bp rfl (bp q1 ?_)))))))))
  have e1 : (iv [.v (.int .i64 a0), .v (.int .i64 a1), .v (.int .i64 a2)][0 + Int.toNat 1 * 1]?) = a1 := rfl
  have e2 : (iv [.v (.int .i64 a0), .v (.int .i64 a1), .v (.int .i64 a2)][0 + Int.toNat 2 * 1]?) = a2 := rfl
  have e3 : (iv [.v (.int .i64 a3), .v (.int .i64 a4), .v (.int .i64 a5)][0 + Int.toNat 1 * 1]?) = a4 := rfl
  have e4 : (iv [.v (.int .i64 a3), .v (.int .i64 a4), .v (.int .i64 a5)][0 + Int.toNat 2 * 1]?) = a5 := rfl
  rw [e1, e2, e3, e4, p2, p3, q2, q3]
  refine bp n1 ?_
  rw [n2, n3]
  refine bp s1 ?_
  rw [s2, s3]
  refine bp c1 ?_
  rw [c2, c3]
theorem a_Cross_1 (F : Nat) {a0 a1 a2 a3 a4 a5 : Int} (h0 : I64 a0) (h1 : I64 a1) (h2 : I64 a2) (h3 : I64 a3) (h4 : I64 a4) (h5 : I64 a5) : ok_ha F 1 a0 a1 a2 a3 a4 a5 = true ∧ o_ha_0 F 1 a0 a1 a2 a3 a4 a5 = clipV (arZ a2 a3 a0 a5) ∧ o_ha_1 F 1 a0 a1 a2 a3 a4 a5 = clipC (arZ a2 a3 a0 a5) := by
  refine k_ha F _ _ _ _ _ _ _ ?_
  unfold f_ha fg_ha
  obtain ⟨p1, p2, p3⟩ := a_product F h2 h3
  obtain ⟨q1, q2, q3⟩ := a_product F h0 h5
  obtain ⟨n1, n2, n3⟩ := a_Neg F (pr a0 a5)
  obtain ⟨s1, s2, s3⟩ := a_Add F (pr a2 a3) (-pr a0 a5)
  obtain ⟨c1, c2, c3⟩ := a_vclip F (ar_W h2 h3 h0 h5)
  unfold arZ at c1 c2 c3 ⊢
  rw [Int.sub_eq_add_neg] at c1 c2 c3 ⊢
  have w1 : Int.tmod (IntKind.wrap .i64 (1 + 1)) 3 = 2 := by decide
  have w2 : Int.tmod (IntKind.wrap .i64 (1 + 2)) 3 = 0 := by decide
  rw [w1, w2]
  refine bp rfl (bp rfl (bp rfl (bp rfl (bp p1 (bp rfl (bp rfl (bp rfl (bp rfl (bp q1 ?_)))))))))
  have e1 : (iv [.v (.int .i64 a0), .v (.int .i64 a1), .v (.int .i64 a2)][0 + Int.toNat 2 * 1]?) = a2 := rfl
  have e2 : (iv [.v (.int .i64 a0), .v (.int .i64 a1), .v (.int .i64 a2)][0 + Int.toNat 0 * 1]?) = a0 := rfl
  have e3 : (iv [.v (.int .i64 a3), .v (.int .i64 a4), .v (.int .i64 a5)][0 + Int.toNat 2 * 1]?) = a5 := rfl
  have e4 : (iv [.v (.int .i64 a3), .v (.int .i64 a4), .v (.int .i64 a5)][0 + Int.toNat 0 * 1]?) = a3 := rfl
  rw [e1, e2, e3, e4, p2, p3, q2, q3]
  refine bp n1 ?_
  rw [n2, n3]
  refine bp s1 ?_
  rw [s2, s3]
  refine bp c1 ?_
  rw [c2, c3]
theorem a_Cross_2 (F : Nat) {a0 a1 a2 a3 a4 a5 : Int} (h0 : I64 a0) (h1 : I64 a1) (h2 : I64 a2) (h3 : I64 a3) (h4 : I64 a4) (h5 : I64 a5) : ok_ha F 2 a0 a1 a2 a3 a4 a5 = true ∧ o_ha_0 F 2 a0 a1 a2 a3 a4 a5 = clipV (arZ a0 a4 a1 a3) ∧ o_ha_1 F 2 a0 a1 a2 a3 a4 a5 = clipC (arZ a0 a4 a1 a3) := by
  refine k_ha F _ _ _ _ _ _ _ ?_
  unfold f_ha fg_ha
  obtain ⟨p1, p2, p3⟩ := a_product F h0 h4
  obtain ⟨q1, q2, q3⟩ := a_product F h1 h3
  obtain ⟨n1, n2, n3⟩ := a_Neg F (pr a1 a3)
  obtain ⟨s1, s2, s3⟩ := a_Add F (pr a0 a4) (-pr a1 a3)
  obtain ⟨c1, c2, c3⟩ := a_vclip F (ar_W h0 h4 h1 h3)
  unfold arZ at c1 c2 c3 ⊢
  rw [Int.sub_eq_add_neg] at c1 c2 c3 ⊢
  have w1 : Int.tmod (IntKind.wrap .i64 (2 + 1)) 3 = 0 := by decide
  have w2 : Int.tmod (IntKind.wrap .i64 (2 + 2)) 3 = 1 := by decide
  rw [w1, w2]
  refine bp rfl (bp rfl (bp rfl (bp rfl (bp p1 (bp rfl (bp rfl (bp rfl (bp rfl (bp q1 ?_)))))))))
  have e1 : (iv [.v (.int .i64 a0), .v (.int .i64 a1), .v (.int .i64 a2)][0 + Int.toNat 0 * 1]?) = a0 := rfl
  have e2 : (iv [.v (.int .i64 a0), .v (.int .i64 a1), .v (.int .i64 a2)][0 + Int.toNat 1 * 1]?) = a1 := rfl
  have e3 : (iv [.v (.int .i64 a3), .v (.int .i64 a4), .v (.int .i64 a5)][0 + Int.toNat 0 * 1]?) = a3 := rfl
  have e4 : (iv [.v (.int .i64 a3), .v (.int .i64 a4), .v (.int .i64 a5)][0 + Int.toNat 1 * 1]?) = a4 := rfl
  rw [e1, e2, e3, e4, p2, p3, q2, q3]
  refine bp n1 ?_
  rw [n2, n3]
  refine bp s1 ?_
  rw [s2, s3]
  refine bp c1 ?_
  rw [c2, c3]
theorem a_Cross (F : Nat) (hF : 200 ≤ F) {a0 a1 a2 a3 a4 a5 : Int} (h0 : I64 a0) (h1 : I64 a1) (h2 : I64 a2) (h3 : I64 a3) (h4 : I64 a4) (h5 : I64 a5) : ok_jc F a0 a1 a2 a3 a4 a5 = true ∧ o_jc_0 F a0 a1 a2 a3 a4 a5 = clipV (arZ a1 a5 a2 a4) ∧ o_ha F a0 a1 a2 a3 a4 a5 = clipV (arZ a2 a3 a0 a5) ∧ o_jc_2 F a0 a1 a2 a3 a4 a5 = clipV (arZ a0 a4 a1 a3) ∧ o_jc_3 F a0 a1 a2 a3 a4 a5 = (clipC (arZ a1 a5 a2 a4) || clipC (arZ a2 a3 a0 a5) || clipC (arZ a0 a4 a1 a3)) := by
  refine k_jc F _ _ _ _ _ _ ?_
  unfold f_jc fg_jc
  obtain ⟨e1, e2, e3, e4, e5⟩ := k_jb F _ _ _ _ _ _ (f_vec_eachv1' F hF (a_Cross_0 F h0 h1 h2 h3 h4 h5) (a_Cross_1 F h0 h1 h2 h3 h4 h5) (a_Cross_2 F h0 h1 h2 h3 h4 h5))
  refine bp e1 ?_
  rw [e2, e3, e4, e5]
theorem a_area (F : Nat) (hF : 200 ≤ F) {a b c d : Int} (h0 : I64 a) (h1 : I64 b) (h2 : I64 c) (h3 : I64 d) : ok_ya F a b c d = true ∧ o_ya_0 F a b c d = clipV (arZ a b c d) ∧ o_ya_1 F a b c d = clipC (arZ a b c d) := by
  refine k_ya F _ _ _ _ ?_
  unfold f_ya fg_ya
  obtain ⟨p1, p2, p3⟩ := a_rproduct F hF h0 h1
  obtain ⟨q1, q2, q3⟩ := a_rproduct F hF h2 h3
  obtain ⟨n1, n2, n3⟩ := a_rNeg F hF (pr c d)
  obtain ⟨s1, s2, s3⟩ := a_rAdd F hF (pr a b) (-pr c d)
  obtain ⟨c1, c2, c3⟩ := a_rvclip F (ar_W h0 h1 h2 h3)
  unfold arZ at c1 c2 c3 ⊢
  rw [Int.sub_eq_add_neg] at c1 c2 c3 ⊢
  refine bp p1 (bp q1 ?_)
  rw [p2, p3, q2, q3]
  refine bp n1 ?_
  rw [n2, n3]
  refine bp s1 ?_
  rw [s2, s3]
  refine bp c1 ?_
  rw [c2, c3]
theorem or3 {x y z : Int} {a b c : Bool} : (bif a then (some (VV.v (.tuple #[.agg #[.int .i64 x, .int .i64 y, .int .i64 z], .bool true])) : R) else (bif b then (some (.v (.tuple #[.agg #[.int .i64 x, .int .i64 y, .int .i64 z], .bool true]))) else (some (.v (.tuple #[.agg #[.int .i64 x, .int .i64 y, .int .i64 z], .bool c]))))) = some (.v (.tuple #[.agg #[.int .i64 x, .int .i64 y, .int .i64 z], .bool (a || b || c)])) := by
  cases a <;> cases b <;> rfl
theorem a_rCross (F : Nat) (hF : 200 ≤ F) {a0 a1 a2 a3 a4 a5 : Int} (h0 : I64 a0) (h1 : I64 a1) (h2 : I64 a2) (h3 : I64 a3) (h4 : I64 a4) (h5 : I64 a5) : ok_y F a0 a1 a2 a3 a4 a5 = true ∧ o_y_0 F a0 a1 a2 a3 a4 a5 = clipV (arZ a1 a5 a2 a4) ∧ o_y_1 F a0 a1 a2 a3 a4 a5 = clipV (arZ a2 a3 a0 a5) ∧ o_y_2 F a0 a1 a2 a3 a4 a5 = clipV (arZ a0 a4 a1 a3) ∧ o_y_3 F a0 a1 a2 a3 a4 a5 = (clipC (arZ a1 a5 a2 a4) || clipC (arZ a2 a3 a0 a5) || clipC (arZ a0 a4 a1 a3)) := by
  refine k_y F _ _ _ _ _ _ ?_
  unfold f_y fg_y
  obtain ⟨p1, p2, p3⟩ := a_area F hF h1 h5 h2 h4
  obtain ⟨q1, q2, q3⟩ := a_area F hF h2 h3 h0 h5
  obtain ⟨r1, r2, r3⟩ := a_area F hF h0 h4 h1 h3
  refine bp p1 (bp q1 (bp r1 ?_))
  rw [p2, p3, q2, q3, r2, r3]
  exact or3
theorem a_Sub (F : Nat) (hF : 200 ≤ F) {a0 a1 a2 a3 a4 a5 : Int} (h0 : I64 a0) (h1 : I64 a1) (h2 : I64 a2) (h3 : I64 a3) (h4 : I64 a4) (h5 : I64 a5) : ok_od F a0 a1 a2 a3 a4 a5 = true ∧ o_od_0 F a0 a1 a2 a3 a4 a5 = clipV (a0 - a3) ∧ o_lc F a0 a1 a2 a3 a4 a5 = clipV (a1 - a4) ∧ o_od_2 F a0 a1 a2 a3 a4 a5 = clipV (a2 - a5) ∧ o_od_3 F a0 a1 a2 a3 a4 a5 = (clipC (a0 - a3) || clipC (a1 - a4) || clipC (a2 - a5)) := by
  refine k_od F _ _ _ _ _ _ ?_
  unfold f_od fg_od
  obtain ⟨e1, e2, e3, e4, e5⟩ := k_lb F _ _ _ _ _ _ (f_vec_eachv3' F hF (a_Sub_0 F h0 h3) (a_Sub_1 F h1 h4) (a_Sub_2 F h2 h5))
  refine bp e1 ?_
  rw [e2, e3, e4, e5]
theorem a_rSub6 (F : Nat) (hF : 200 ≤ F) {a0 a1 a2 a3 a4 a5 : Int} (h0 : I64 a0) (h1 : I64 a1) (h2 : I64 a2) (h3 : I64 a3) (h4 : I64 a4) (h5 : I64 a5) : ok_bc F a0 a1 a2 a3 a4 a5 = true ∧ o_bc_0 F a0 a1 a2 a3 a4 a5 = clipV (a0 - a3) ∧ o_bc_1 F a0 a1 a2 a3 a4 a5 = clipV (a1 - a4) ∧ o_bc_2 F a0 a1 a2 a3 a4 a5 = clipV (a2 - a5) ∧ o_bc_3 F a0 a1 a2 a3 a4 a5 = (clipC (a0 - a3) || clipC (a1 - a4) || clipC (a2 - a5)) := by
  refine k_bc F _ _ _ _ _ _ ?_
  unfold f_bc fg_bc
  obtain ⟨p1, p2, p3⟩ := k_zb F _ _ (f_rSub2 F hF h0 h3)
  obtain ⟨q1, q2, q3⟩ := k_zb F _ _ (f_rSub2 F hF h1 h4)
  obtain ⟨r1, r2, r3⟩ := k_zb F _ _ (f_rSub2 F hF h2 h5)
  refine bp p1 (bp q1 (bp r1 ?_))
  rw [p2, p3, q2, q3, r2, r3]
  exact or3
theorem a_Scale (F : Nat) (hF : 200 ≤ F) {a0 a1 a2 a3 : Int} (h0 : I64 a0) (h1 : I64 a1) (h2 : I64 a2) (h3 : I64 a3) : ok_kc F a0 a1 a2 a3 = true ∧ o_kc_0 F a0 a1 a2 a3 = clipV (pr a0 a3) ∧ o_ia F a0 a1 a2 a3 = clipV (pr a1 a3) ∧ o_kc_2 F a0 a1 a2 a3 = clipV (pr a2 a3) ∧ o_kc_3 F a0 a1 a2 a3 = (clipC (pr a0 a3) || clipC (pr a1 a3) || clipC (pr a2 a3)) := by
  refine k_kc F _ _ _ _ ?_
  unfold f_kc fg_kc
  obtain ⟨e1, e2, e3, e4, e5⟩ := k_mb F _ _ _ _ (f_vec_eachv4' F hF (a_Scale_0 F h0 h3) (a_Scale_1 F h1 h3) (a_Scale_2 F h2 h3))
  refine bp e1 ?_
  rw [e2, e3, e4, e5]
  simp only [pr_near]
theorem a_rScale6 (F : Nat) (hF : 200 ≤ F) {a0 a1 a2 a3 : Int} (h0 : I64 a0) (h1 : I64 a1) (h2 : I64 a2) (h3 : I64 a3) : ok_z F a0 a1 a2 a3 = true ∧ o_z_0 F a0 a1 a2 a3 = clipV (pr a0 a3) ∧ o_z_1 F a0 a1 a2 a3 = clipV (pr a1 a3) ∧ o_z_2 F a0 a1 a2 a3 = clipV (pr a2 a3) ∧ o_z_3 F a0 a1 a2 a3 = (clipC (pr a0 a3) || clipC (pr a1 a3) || clipC (pr a2 a3)) := by
  refine k_z F _ _ _ _ ?_
  unfold f_z fg_z
  obtain ⟨p1, p2, p3⟩ := k_yb F _ _ (f_rMul2 F hF h0 h3)
  obtain ⟨q1, q2, q3⟩ := k_yb F _ _ (f_rMul2 F hF h1 h3)
  obtain ⟨r1, r2, r3⟩ := k_yb F _ _ (f_rMul2 F hF h2 h3)
  refine bp p1 (bp q1 (bp r1 ?_))
  rw [p2, p3, q2, q3, r2, r3]
  simp only [pr_near]
  exact or3
theorem sz_U {a : Int} (h : I64 a) : U64 (sz a) := by unfold sz; unfold I64 at h; unfold U64; split <;> omega
theorem sz_sq (a : Int) : sz a * sz a = a * a := by
  unfold sz
  split
  · rw [Int.neg_mul_neg]
  · rfl
theorem a_vbare (F : Nat) {a : Int} (h : I64 a) : ok_ad F a = true ∧ o_ad_0 F a = sz a := by
  refine k_ad F _ ?_
  unfold f_ad fg_ad sz
  unfold I64 at h
  by_cases hs : a < 0
  · refine bp (dt hs) ?_
    rw [if_pos hs, wu64, wu64]
    congr 3
    omega
  · refine bn (df hs) ?_
    rw [if_neg hs, wu64]
    congr 3
    omega
theorem a_r6bare (F : Nat) {a : Int} (h : I64 a) : ok_za F a = true ∧ o_za_0 F a = sz a := by
  refine k_za F _ ?_
  unfold f_za fg_za sz
  unfold I64 at h
  by_cases hs : a < 0
  · refine bp (dt hs) ?_
    rw [if_pos hs, wi64_in (x := a + 1) (by unfold I64; omega), wi64_in (by unfold I64; omega), wu64, wu64]
    congr 3
    omega
  · refine bn (df hs) ?_
    rw [if_neg hs, wu64]
    congr 3
    omega
def sq3 (a b c : Int) : Int := a * a + b * b + c * c
noncomputable def lenV (z : Int) : Int := if z < 85070591730234615865843651857942052864 then rt z else 9223372036854775807
def lenC (z : Int) : Bool := decide (85070591730234615865843651857942052864 ≤ z)
theorem sq_bd64 {a : Int} (h : I64 a) : 0 ≤ a * a ∧ a * a ≤ 85070591730234615865843651857942052864 := by
  have h1 := sz_sq a
  have h2 : 0 ≤ sz a ∧ sz a ≤ 9223372036854775808 := by unfold sz; unfold I64 at h; split <;> omega
  have h3 := sq_le h2.1 h2.2
  have h4 := Int.mul_nonneg h2.1 h2.1
  omega
theorem rt_small {z : Int} (h0 : 0 ≤ z) : (rt z ≤ 9223372036854775807) ↔ z < 85070591730234615865843651857942052864 := by
  obtain ⟨h1, h2, h3⟩ := rt_spec h0
  constructor
  · intro h
    have := sq_le (x := rt z + 1) (y := 9223372036854775808) (by omega) (by omega)
    omega
  · intro h
    rcases Int.lt_or_le 9223372036854775807 (rt z) with hl | hl
    · have := sq_le (x := 9223372036854775808) (y := rt z) (by omega) (by omega)
      omega
    · exact hl
theorem len_some {n : Int} {c : Bool} {z : Int} (h : n = lenV z) (k : c = lenC z) : (some (VV.v (.tuple #[.int .i64 n, .bool c])) : R) = some (.v (.tuple #[.int .i64 (lenV z), .bool (lenC z)])) := by rw [h, k]
theorem len_big {z : Int} (h : 170141183460469231731687303715884105728 ≤ z) : (some (VV.v (.tuple #[.int .i64 9223372036854775807, .bool true])) : R) = some (.v (.tuple #[.int .i64 (lenV z), .bool (lenC z)])) := by
  refine len_some ?_ ?_
  · unfold lenV; rw [if_neg (by omega)]
  · unfold lenC; rw [dt (by omega)]
theorem hi_neg {z : Int} (h0 : 0 ≤ z) (h1 : z < 340282366920938463463374607431768211456) : (170141183460469231731687303715884105728 ≤ z ↔ W z < 0) := by unfold W; omega
end Go.Xv
namespace Go.Xv
theorem a_Sgn (F : Nat) {z : Int} (h0 : 0 ≤ z) (h1 : z < 340282366920938463463374607431768211456) : ok_qc F (hi z) (lo z) = true ∧ decide (o_qc_0 F (hi z) (lo z) < 0) = decide (170141183460469231731687303715884105728 ≤ z) := by
  obtain ⟨e1, e2⟩ := k_qc F _ _ (f_Sign F (a := hi z) (lo_U z))
  refine ⟨e1, ?_⟩
  rw [e2, val_hl]
  have := hi_neg h0 h1
  rw [Bool.eq_iff_iff]
  simp only [decide_eq_true_eq]
  split
  · omega
  · split <;> omega
theorem hi_sgn {z : Int} (h0 : 0 ≤ z) (h1 : z < 340282366920938463463374607431768211456) : decide (hi z < 0) = decide (170141183460469231731687303715884105728 ≤ z) := by
  rw [Bool.eq_iff_iff]
  simp only [decide_eq_true_eq]
  unfold hi; omega
theorem a_rootW (F : Nat) (hF : 200 ≤ F) {z : Int} (h0 : 0 ≤ z) (h1 : z < 170141183460469231731687303715884105728) : ok_fc F (hi z) (lo z) = true ∧ o_fc_0 F (hi z) (lo z) = rt z := by
  have h := f_rootWide F hF (hi_I z) (lo_U z)
  rw [val_hl, W_in (by unfold W128; omega)] at h
  unfold rootR at h
  rw [if_neg (by omega)] at h
  obtain ⟨e1, e2, _⟩ := k_fc F _ _ h
  exact ⟨e1, e2⟩
theorem a_rrootW (F : Nat) (hF : 200 ≤ F) {z : Int} (h0 : 0 ≤ z) (h1 : z < 170141183460469231731687303715884105728) : ok_sa F (hi z) (lo z) = true ∧ o_sa_0 F (hi z) (lo z) = rt z := by
  have h := f_rWide F hF (hi_I z) (lo_U z)
  rw [val_hl, W_in (by unfold W128; omega)] at h
  unfold rootR at h
  rw [if_neg (by omega)] at h
  obtain ⟨e1, e2, _⟩ := k_sa F _ _ h
  exact ⟨e1, e2⟩
theorem len_end {z : Int} (h0 : 0 ≤ z) : (bif decide (rt z > 9223372036854775807) then (some (.v (.tuple #[.int .i64 9223372036854775807, .bool true])) : R) else some (.v (.tuple #[.int .i64 (IntKind.wrap .i64 (rt z)), .bool false]))) = some (.v (.tuple #[.int .i64 (lenV z), .bool (lenC z)])) := by
  have hs := rt_small h0
  have hr := (rt_spec h0).1
  by_cases h : z < 85070591730234615865843651857942052864
  · refine bn (df (by have := hs.2 h; omega)) (len_some ?_ ?_)
    · unfold lenV; rw [if_pos h, wi64_in (by have := hs.2 h; unfold I64; omega)]
    · unfold lenC; rw [df (by omega)]
  · refine bp (dt ?_) (len_some ?_ ?_)
    · rcases Int.lt_or_le 9223372036854775807 (rt z) with hl | hl
      · exact hl
      · exact absurd (hs.1 hl) h
    · unfold lenV; rw [if_neg h]
    · unfold lenC; rw [dt (by omega)]
theorem f_Length (F : Nat) (hF : 200 ≤ F) {a b c : Int} (ha : I64 a) (hb : I64 b) (hc : I64 c) : f_hb F a b c = some (.v (.tuple #[.int .i64 (lenV (sq3 a b c)), .bool (lenC (sq3 a b c))])) := by
  obtain ⟨p1, p2⟩ := a_vbare F ha
  obtain ⟨q1, q2⟩ := a_vbare F hb
  obtain ⟨r1, r2⟩ := a_vbare F hc
  obtain ⟨s1, s2, s3⟩ := a_Square F (sz_U ha)
  obtain ⟨t1, t2, t3⟩ := a_Square F (sz_U hb)
  obtain ⟨u1, u2, u3⟩ := a_Square F (sz_U hc)
  rw [sz_sq] at s2 s3 t2 t3 u2 u3
  have ba := sq_bd64 ha
  have bb := sq_bd64 hb
  have bc := sq_bd64 hc
  obtain ⟨v1, v2, v3⟩ := a_Add F 0 (a * a)
  obtain ⟨w1, w2, w3⟩ := a_Add F (a * a) (b * b)
  obtain ⟨x1, x2, x3⟩ := a_Add F (a * a + b * b) (c * c)
  rw [Int.zero_add] at v2 v3
  have v1' : ok_cd F 0 0 (hi (a * a)) (lo (a * a)) = true := v1
  have v2' : o_cd_0 F 0 0 (hi (a * a)) (lo (a * a)) = hi (a * a) := v2
  have v3' : o_cd_1 F 0 0 (hi (a * a)) (lo (a * a)) = lo (a * a) := v3
  obtain ⟨g1, g2⟩ := a_Sgn F (z := a * a) (by omega) (by omega)
  obtain ⟨i1, i2⟩ := a_Sgn F (z := a * a + b * b) (by omega) (by omega)
  obtain ⟨j1, j2⟩ := a_Sgn F (z := a * a + b * b + c * c) (by omega) (by omega)
  obtain ⟨G, hG⟩ : ∃ G, F = G + 4 := ⟨F - 4, by omega⟩
  have y1 : IntKind.wrap .i64 (0 + 1) = 1 := by decide
  have y2 : IntKind.wrap .i64 (1 + 1) = 2 := by decide
  have y3 : IntKind.wrap .i64 (2 + 1) = 3 := by decide
  unfold f_hb fg_hb
  rw [show L_hb_0 F _ _ F = L_hb_0 F _ _ (G + 4) from congrArg (L_hb_0 F _ _) hG, L_hb_0]
  unfold B_hb_0 Bg_hb_0
  have e0 : (iv [.v (.int .i64 a), .v (.int .i64 b), .v (.int .i64 c)][Int.toNat 0 * 1]?) = a := rfl
  have e1 : (iv [.v (.int .i64 a), .v (.int .i64 b), .v (.int .i64 c)][Int.toNat 1 * 1]?) = b := rfl
  have e2 : (iv [.v (.int .i64 a), .v (.int .i64 b), .v (.int .i64 c)][Int.toNat 2 * 1]?) = c := rfl
  refine bp rfl (bp rfl ?_)
  rw [e0]
  refine bp p1 ?_
  rw [p2]
  refine bp s1 ?_
  rw [s2, s3]
  refine bp v1' ?_
  rw [v2', v3']
  refine bp g1 ?_
  rw [g2]
  refine bn (df (by omega)) ?_
  rw [y1, L_hb_0]
  unfold B_hb_0 Bg_hb_0
  refine bp rfl (bp rfl ?_)
  rw [e1]
  refine bp q1 ?_
  rw [q2]
  refine bp t1 ?_
  rw [t2, t3]
  refine bp w1 ?_
  rw [w2, w3]
  refine bp i1 ?_
  rw [i2]
  by_cases hz : 170141183460469231731687303715884105728 ≤ a * a + b * b
  · exact bp (dt hz) (len_big (by unfold sq3; omega))
  · refine bn (df hz) ?_
    rw [y2, L_hb_0]
    unfold B_hb_0 Bg_hb_0
    refine bp rfl (bp rfl ?_)
    rw [e2]
    refine bp r1 ?_
    rw [r2]
    refine bp u1 ?_
    rw [u2, u3]
    refine bp x1 ?_
    rw [x2, x3]
    refine bp j1 ?_
    rw [j2]
    by_cases hz2 : 170141183460469231731687303715884105728 ≤ a * a + b * b + c * c
    · exact bp (dt hz2) (len_big (by unfold sq3; omega))
    · refine bn (df hz2) ?_
      rw [y3, L_hb_0]
      unfold B_hb_0 Bg_hb_0
      refine bn rfl ?_
      obtain ⟨k1, k2⟩ := a_rootW F hF (z := a * a + b * b + c * c) (by omega) (by omega)
      refine bp k1 ?_
      rw [k2]
      exact len_end (z := a * a + b * b + c * c) (by omega)
theorem a_Length (F : Nat) (hF : 200 ≤ F) {a b c : Int} (ha : I64 a) (hb : I64 b) (hc : I64 c) : ok_hb F a b c = true ∧ o_hb_0 F a b c = lenV (sq3 a b c) ∧ o_hb_1 F a b c = lenC (sq3 a b c) := k_hb F _ _ _ (f_Length F hF ha hb hc)
theorem f_rLength (F : Nat) (hF : 200 ≤ F) {a b c : Int} (ha : I64 a) (hb : I64 b) (hc : I64 c) : f_m F a b c = some (.v (.tuple #[.int .i64 (lenV (sq3 a b c)), .bool (lenC (sq3 a b c))])) := by
  obtain ⟨p1, p2⟩ := a_r6bare F ha
  obtain ⟨q1, q2⟩ := a_r6bare F hb
  obtain ⟨r1, r2⟩ := a_r6bare F hc
  obtain ⟨s1, s2, s3⟩ := a_rSquare F hF (sz_U ha)
  obtain ⟨t1, t2, t3⟩ := a_rSquare F hF (sz_U hb)
  obtain ⟨u1, u2, u3⟩ := a_rSquare F hF (sz_U hc)
  rw [sz_sq] at s2 s3 t2 t3 u2 u3
  have ba := sq_bd64 ha
  have bb := sq_bd64 hb
  have bc := sq_bd64 hc
  obtain ⟨v1, v2, v3⟩ := a_rAdd F hF 0 (a * a)
  obtain ⟨w1, w2, w3⟩ := a_rAdd F hF (a * a) (b * b)
  obtain ⟨x1, x2, x3⟩ := a_rAdd F hF (a * a + b * b) (c * c)
  rw [Int.zero_add] at v2 v3
  have v1' : ok_tb F 0 0 (hi (a * a)) (lo (a * a)) = true := v1
  have v2' : o_tb_0 F 0 0 (hi (a * a)) (lo (a * a)) = hi (a * a) := v2
  have v3' : o_tb_1 F 0 0 (hi (a * a)) (lo (a * a)) = lo (a * a) := v3
  have g2 := hi_sgn (z := a * a) (by omega) (by omega)
  have i2 := hi_sgn (z := a * a + b * b) (by omega) (by omega)
  have j2 := hi_sgn (z := a * a + b * b + c * c) (by omega) (by omega)
  obtain ⟨G, hG⟩ : ∃ G, F = G + 4 := ⟨F - 4, by omega⟩
  have y1 : IntKind.wrap .i64 (0 + 1) = 1 := by decide
  have y2 : IntKind.wrap .i64 (1 + 1) = 2 := by decide
  have y3 : IntKind.wrap .i64 (2 + 1) = 3 := by decide
  unfold f_m fg_m
  rw [show L_m_0 F _ _ F = L_m_0 F _ _ (G + 4) from congrArg (L_m_0 F _ _) hG, L_m_0]
  unfold B_m_0 Bg_m_0
  have e0 : (iv [.v (.int .i64 a), .v (.int .i64 b), .v (.int .i64 c)][0 + Int.toNat 0 * 1]?) = a := rfl
  have e1 : (iv [.v (.int .i64 a), .v (.int .i64 b), .v (.int .i64 c)][0 + Int.toNat 1 * 1]?) = b := rfl
  have e2 : (iv [.v (.int .i64 a), .v (.int .i64 b), .v (.int .i64 c)][0 + Int.toNat 2 * 1]?) = c := rfl
  refine bp rfl (bp rfl (bp rfl ?_))
  rw [e0]
  refine bp p1 ?_
  rw [p2]
  refine bp s1 ?_
  rw [s2, s3]
  refine bp v1' ?_
  rw [v2', v3']
  dsimp only
  rw [g2]
  refine bn (df (by omega)) ?_
  rw [y1, L_m_0]
  unfold B_m_0 Bg_m_0
  refine bp rfl (bp rfl (bp rfl ?_))
  rw [e1]
  refine bp q1 ?_
  rw [q2]
  refine bp t1 ?_
  rw [t2, t3]
  refine bp w1 ?_
  rw [w2, w3]
  dsimp only
  rw [i2]
  by_cases hz : 170141183460469231731687303715884105728 ≤ a * a + b * b
  · exact bp (dt hz) (len_big (by unfold sq3; omega))
  · refine bn (df hz) ?_
    rw [y2, L_m_0]
    unfold B_m_0 Bg_m_0
    refine bp rfl (bp rfl (bp rfl ?_))
    rw [e2]
    refine bp r1 ?_
    rw [r2]
    refine bp u1 ?_
    rw [u2, u3]
    refine bp x1 ?_
    rw [x2, x3]
    dsimp only
    rw [j2]
    by_cases hz2 : 170141183460469231731687303715884105728 ≤ a * a + b * b + c * c
    · exact bp (dt hz2) (len_big (by unfold sq3; omega))
    · refine bn (df hz2) ?_
      rw [y3, L_m_0]
      unfold B_m_0 Bg_m_0
      refine bn rfl ?_
      obtain ⟨k1, k2⟩ := a_rrootW F hF (z := a * a + b * b + c * c) (by omega) (by omega)
      refine bp k1 ?_
      rw [k2]
      exact len_end (z := a * a + b * b + c * c) (by omega)
theorem a_rLength (F : Nat) (hF : 200 ≤ F) {a b c : Int} (ha : I64 a) (hb : I64 b) (hc : I64 c) : ok_m F a b c = true ∧ o_m_0 F a b c = lenV (sq3 a b c) ∧ o_m_1 F a b c = lenC (sq3 a b c) := k_m F _ _ _ (f_rLength F hF ha hb hc)
/-- the greatest axis -/
def gr3 (a b c : Int) : Int := min (max (sz a) (max (sz b) (sz c))) 9223372036854775807
theorem f_Greatest (F : Nat) (hF : 200 ≤ F) {a b c : Int} (ha : I64 a) (hb : I64 b) (hc : I64 c) : f_o F a b c = some (.v (.int .i64 (gr3 a b c))) := by
  obtain ⟨p1, p2⟩ := a_vbare F ha
  obtain ⟨q1, q2⟩ := a_vbare F hb
  obtain ⟨r1, r2⟩ := a_vbare F hc
  have ua := sz_U ha
  have ub := sz_U hb
  have uc := sz_U hc
  obtain ⟨G, hG⟩ : ∃ G, F = G + 4 := ⟨F - 4, by omega⟩
  have y1 : IntKind.wrap .i64 (0 + 1) = 1 := by decide
  have y2 : IntKind.wrap .i64 (1 + 1) = 2 := by decide
  have y3 : IntKind.wrap .i64 (2 + 1) = 3 := by decide
  unfold f_o fg_o
  rw [show L_o_0 F _ F = L_o_0 F _ (G + 4) from congrArg (L_o_0 F _) hG, L_o_0]
  unfold B_o_0 Bg_o_0
  have e0 : (iv [.v (.int .i64 a), .v (.int .i64 b), .v (.int .i64 c)][Int.toNat 0 * 1]?) = a := rfl
  have e1 : (iv [.v (.int .i64 a), .v (.int .i64 b), .v (.int .i64 c)][Int.toNat 1 * 1]?) = b := rfl
  have e2 : (iv [.v (.int .i64 a), .v (.int .i64 b), .v (.int .i64 c)][Int.toNat 2 * 1]?) = c := rfl
  refine bp rfl (bp rfl ?_)
  rw [e0]
  refine bp p1 ?_
  rw [p2, y1, L_o_0]
  unfold B_o_0 Bg_o_0
  refine bp rfl (bp rfl ?_)
  rw [e1]
  refine bp q1 ?_
  rw [q2, y2, L_o_0]
  unfold B_o_0 Bg_o_0
  refine bp rfl (bp rfl ?_)
  rw [e2]
  refine bp r1 ?_
  rw [r2, y3, L_o_0]
  unfold B_o_0 Bg_o_0
  refine bn rfl (some_int ?_)
  unfold U64 at ua ub uc
  rw [mx, mx, mx]
  have em : max (max (max 0 (sz a)) (sz b)) (sz c) = max (sz a) (max (sz b) (sz c)) := by omega
  rw [em]
  unfold gr3
  generalize max (sz a) (max (sz b) (sz c)) = m at *
  have hm : (if 9223372036854775807 < m then 9223372036854775807 else m) = min m 9223372036854775807 := by split <;> omega
  rw [hm, wi64_in]
  unfold I64; omega
theorem a_Greatest (F : Nat) (hF : 200 ≤ F) {a b c : Int} (ha : I64 a) (hb : I64 b) (hc : I64 c) : ok_o F a b c = true ∧ o_o_0 F a b c = gr3 a b c := k_o F _ _ _ (f_Greatest F hF ha hb hc)
theorem a_rGreatest (F : Nat) {a b c : Int} (ha : I64 a) (hb : I64 b) (hc : I64 c) : ok_e F a b c = true ∧ o_e_0 F a b c = gr3 a b c := by
  refine k_e F _ _ _ ?_
  unfold f_e fg_e
  obtain ⟨p1, p2⟩ := a_r6bare F ha
  obtain ⟨q1, q2⟩ := a_r6bare F hb
  obtain ⟨r1, r2⟩ := a_r6bare F hc
  have ua := sz_U ha
  have ub := sz_U hb
  have uc := sz_U hc
  unfold U64 at ua ub uc
  refine bp p1 (bp q1 (bp r1 (some_int ?_)))
  rw [p2, q2, r2]
  rw [mx, mx]
  have em : max (max (sz a) (sz b)) (sz c) = max (sz a) (max (sz b) (sz c)) := by omega
  rw [em]
  unfold gr3
  generalize max (sz a) (max (sz b) (sz c)) = m at *
  have hm : (if 9223372036854775807 < m then 9223372036854775807 else m) = min m 9223372036854775807 := by split <;> omega
  rw [hm, wi64_in]
  unfold I64; omega
/-- over the length -/
noncomputable def unitOK (a b c : Int) : Bool := !decide (lenV (sq3 a b c) = 0) && !lenC (sq3 a b c)
noncomputable def unV (k a b c : Int) : Int := if unitOK a b c = true then fdivV k (lenV (sq3 a b c)) else 0
theorem len_I {z : Int} (h : 0 ≤ z) : 0 ≤ lenV z ∧ I64 (lenV z) := by
  have h1 := (rt_spec h).1
  unfold lenV I64
  by_cases hz : z < 85070591730234615865843651857942052864
  · have := (rt_small h).2 hz
    rw [if_pos hz]; omega
  · rw [if_neg hz]; omega
theorem sq3_nn {a b c : Int} (ha : I64 a) (hb : I64 b) (hc : I64 c) : 0 ≤ sq3 a b c := by
  have := sq_bd64 ha
  have := sq_bd64 hb
  have := sq_bd64 hc
  unfold sq3; omega
theorem some_un {x y z x' y' z' : Int} {c c' : Bool} (h1 : x = x') (h2 : y = y') (h3 : z = z') (h4 : c = c') : (some (VV.v (.tuple #[.agg #[.int .i64 x, .int .i64 y, .int .i64 z], .bool c])) : R) = some (.v (.tuple #[.agg #[.int .i64 x', .int .i64 y', .int .i64 z'], .bool c'])) := by rw [h1, h2, h3, h4]
theorem f_Unit (F : Nat) (hF : 200 ≤ F) {a b c : Int} (ha : I64 a) (hb : I64 b) (hc : I64 c) : f_zc F a b c = some (.v (.tuple #[.agg #[.int .i64 (unV a a b c), .int .i64 (unV b a b c), .int .i64 (unV c a b c)], .bool (unitOK a b c)])) := by
  unfold f_zc fg_zc
  obtain ⟨l1, l2, l3⟩ := a_Length F hF ha hb hc
  have hl := len_I (sq3_nn ha hb hc)
  obtain ⟨e1, e2, e3, e4, e5⟩ := k_kb F _ _ _ _ (f_vec_eachv2' F hF (a_Unit_0 F hF (a1 := b) (a2 := c) ha hl.2) (a_Unit_1 F hF (a0 := a) (a2 := c) hb hl.2) (a_Unit_2 F hF (a0 := a) (a1 := b) hc hl.2))
  refine bp l1 ?_
  rw [l2, l3]
  unfold unV unitOK
  generalize lenV (sq3 a b c) = n at *
  generalize lenC (sq3 a b c) = k at *
  by_cases h0 : n = 0
  · refine bp (by simp [h0]) (some_un ?_ ?_ ?_ ?_) <;> simp [h0]
  · refine bn (by simp [h0]) ?_
    cases k
    · refine bn rfl (bp e1 (some_un ?_ ?_ ?_ ?_))
      · rw [e2]; simp [h0]
      · rw [e3]; simp [h0]
      · rw [e4]; simp [h0]
      · simp [h0]
    · refine bp rfl (some_un ?_ ?_ ?_ ?_) <;> simp
theorem a_vUnit (F : Nat) (hF : 200 ≤ F) {a b c : Int} (ha : I64 a) (hb : I64 b) (hc : I64 c) : ok_zc F a b c = true ∧ o_zc_0 F a b c = unV a a b c ∧ o_ib F a b c = unV b a b c ∧ o_zc_2 F a b c = unV c a b c ∧ o_zc_3 F a b c = unitOK a b c := k_zc F _ _ _ (f_Unit F hF ha hb hc)
theorem f_r6Unit (F : Nat) (hF : 200 ≤ F) {a b c : Int} (ha : I64 a) (hb : I64 b) (hc : I64 c) : f_xa F a b c = some (.v (.tuple #[.agg #[.int .i64 (unV a a b c), .int .i64 (unV b a b c), .int .i64 (unV c a b c)], .bool (unitOK a b c)])) := by
  unfold f_xa fg_xa
  obtain ⟨l1, l2, l3⟩ := a_rLength F hF ha hb hc
  have hl := len_I (sq3_nn ha hb hc)
  obtain ⟨p1, p2, _⟩ := k_xb F _ _ (f_rDiv2 F hF ha hl.2)
  obtain ⟨q1, q2, _⟩ := k_xb F _ _ (f_rDiv2 F hF hb hl.2)
  obtain ⟨r1, r2, _⟩ := k_xb F _ _ (f_rDiv2 F hF hc hl.2)
  refine bp l1 ?_
  rw [l2, l3]
  unfold unV unitOK
  generalize lenV (sq3 a b c) = n at *
  generalize lenC (sq3 a b c) = k at *
  by_cases h0 : n = 0
  · refine bp (by simp [h0]) (some_un ?_ ?_ ?_ ?_) <;> simp [h0]
  · refine bn (by simp [h0]) ?_
    cases k
    · refine bn rfl (bp p1 (bp q1 (bp r1 (some_un ?_ ?_ ?_ ?_))))
      · rw [p2]; simp [h0]
      · rw [q2]; simp [h0]
      · rw [r2]; simp [h0]
      · simp [h0]
    · refine bp rfl (some_un ?_ ?_ ?_ ?_) <;> simp
theorem a_r6Unit (F : Nat) (hF : 200 ≤ F) {a b c : Int} (ha : I64 a) (hb : I64 b) (hc : I64 c) : ok_xa F a b c = true ∧ o_xa_0 F a b c = unV a a b c ∧ o_xa_1 F a b c = unV b a b c ∧ o_xa_2 F a b c = unV c a b c ∧ o_xa_3 F a b c = unitOK a b c := k_xa F _ _ _ (f_r6Unit F hF ha hb hc)
end Go.Xv
namespace Go.Xv
theorem clip_opp {a : Int} (h : I64 a) : clipV (-a) = opp a := by
  unfold clipV opp; unfold I64 at h
  split <;> (try split) <;> (try split) <;> omega
theorem a_opp (F : Nat) {x y : Int} (hx : I64 x) (hy : I64 y) : ok_i F x y = true ∧ o_i_0 F x y = opp x ∧ o_i_1 F x y = opp y := by
  refine k_i F _ _ ?_
  unfold f_i fg_i
  obtain ⟨h1, h2, _⟩ := a_fNeg F hx
  obtain ⟨g1, g2, _⟩ := a_fNeg F hy
  refine bp h1 (bp g1 ?_)
  rw [h2, g2, clip_opp hx, clip_opp hy]
theorem a_r5opp (F : Nat) {x : Int} (hx : I64 x) : ok_d F x = true ∧ o_d_0 F x = opp x := by
  refine k_d F _ ?_
  unfold f_d fg_d opp
  unfold I64 at hx
  by_cases h : x = -9223372036854775808
  · refine bp (by simp [h]) ?_
    rw [if_pos h]
  · refine bn (by simp [h]) ?_
    rw [if_neg h, wi64_in (by unfold I64; omega), Int.zero_sub]
theorem big_one {x y : Int} (h : ¬ (x = 0 ∧ y = 0)) : 1 ≤ big x y := by
  unfold big sz
  split <;> split <;> omega
theorem opp_pos {x : Int} (hx : I64 x) (h : x < 0) : 1 ≤ opp x := by unfold opp; split <;> omega
theorem big_to {x y : Int} (h : big x y < 2305843009213693952) (h0 : 0 ≤ x) : (0 ≤ x ∧ x ≤ 2305843009213693952) ∧ -2305843009213693952 ≤ y ∧ y ≤ 2305843009213693952 := by
  unfold big sz at h
  split at h <;> split at h <;> omega
theorem f_tAngle (F : Nat) (hF : 200 ≤ F) {y x : Int} (hy : I64 y) (hx : I64 x) : f_gb F y x = some (.v (.int .u32 (angle y x))) := by
  unfold f_gb fg_gb
  obtain ⟨h0, e0, e1, e2, e3, e4, e5, e6, e7, e8, e9, e10, e11, e12, e13, e14, e15, e16, e17, e18, e19, e20, e21, e22, e23, e24, e25, e26, e27, e28, e29⟩ := angF F
  rw [e0, e1, e2, e3, e4, e5, e6, e7, e8, e9, e10, e11, e12, e13, e14, e15, e16, e17, e18, e19, e20, e21, e22, e23, e24, e25, e26, e27, e28, e29]
  have neg : x < 0 → angle y x = ((aS (scd (opp x) (opp y)).1 (scd (opp x) (opp y)).2 30).2.2 + 2147483648) % 4294967296 := by
    intro h; unfold angle; rw [if_neg (by omega), if_pos h]
  have pos : ¬ x < 0 → ¬ (x = 0 ∧ y = 0) → angle y x = ((aS (scd x y).1 (scd x y).2 30).2.2 + 0) % 4294967296 := by
    intro h h2; unfold angle; rw [if_neg h2, if_neg h, Int.add_zero]
  by_cases x0 : x = 0
  · refine bp (by simp [x0]) ?_
    by_cases y0 : y = 0
    · refine bp (by simp [y0]) (some_u32 ?_)
      unfold angle
      rw [if_pos ⟨x0, y0⟩]
    · have hb := big_one (x := x) (y := y) (by omega)
      obtain ⟨s1, s2, s3⟩ := a_scaled F hF hx hy hb
      obtain ⟨b1, b2⟩ := big_to (scd_bd hx hy hb).2 (scd_sgn (by omega))
      refine bn (by simp [y0]) (bn (df (by omega)) (bp s1 (bp h0 ?_)))
      rw [s2, s3, lp_turn_Angle_0 F _ (z := 0) b1 b2 _ _ _ 30 F 0 0 0 (scd x y).1 (scd x y).2 (by omega) (by omega) rfl rfl rfl rfl]
      exact some_u32 (pos (by omega) (by omega)).symm
  · refine bn (by simp [x0]) ?_
    by_cases hn : x < 0
    · have hb := big_one (x := opp x) (y := opp y) (by have := opp_pos hx hn; omega)
      obtain ⟨o1, o2, o3⟩ := a_opp F hx hy
      obtain ⟨s1, s2, s3⟩ := a_scaled F hF (opp_I hx) (opp_I hy) hb
      obtain ⟨b1, b2⟩ := big_to (scd_bd (opp_I hx) (opp_I hy) hb).2 (scd_sgn (by have := opp_pos hx hn; omega))
      refine bp (dt hn) (bp o1 ?_)
      rw [o2, o3]
      refine bp s1 (bp h0 ?_)
      rw [s2, s3, lp_turn_Angle_0 F _ (z := 2147483648) b1 b2 _ _ _ 30 F 0 2147483648 0 (scd (opp x) (opp y)).1 (scd (opp x) (opp y)).2 (by omega) (by omega) rfl rfl rfl rfl]
      exact some_u32 (neg hn).symm
    · have hb := big_one (x := x) (y := y) (by omega)
      obtain ⟨s1, s2, s3⟩ := a_scaled F hF hx hy hb
      obtain ⟨b1, b2⟩ := big_to (scd_bd hx hy hb).2 (scd_sgn (by omega))
      refine bn (df hn) (bp s1 (bp h0 ?_))
      rw [s2, s3, lp_turn_Angle_0 F _ (z := 0) b1 b2 _ _ _ 30 F 0 0 0 (scd x y).1 (scd x y).2 (by omega) (by omega) rfl rfl rfl rfl]
      exact some_u32 (pos hn (by omega)).symm
theorem a_tAngle (F : Nat) (hF : 200 ≤ F) {y x : Int} (hy : I64 y) (hx : I64 x) : ok_gb F y x = true ∧ o_gb_0 F y x = angle y x := k_gb F _ _ (f_tAngle F hF hy hx)
theorem down_32 : ∀ (m n : Nat) (x y : Int), m ≤ n → big (down m x y).1 (down m x y).2 < 2305843009213693952 → down n x y = down m x y
  | 0, n, x, y, _, h => by rw [down_small (by exact h)]; rfl
  | m + 1, 0, _, _, h, _ => absurd h (by omega)
  | m + 1, n + 1, x, y, hm, h => by
    rw [down] at h
    rw [down, down]
    by_cases hc : 2305843009213693952 ≤ big x y
    · rw [if_pos hc] at h ⊢
      rw [if_pos hc]
      exact down_32 m n _ _ (by omega) h
    · rw [if_neg hc, if_neg hc]
theorem dbl_all : ∀ (m n : Nat) (x y : Int), m ≤ n → 1152921504606846976 ≤ big (dbl m x y).1 (dbl m x y).2 → dbl n x y = dbl m x y
  | 0, 0, _, _, _, _ => rfl
  | 0, n + 1, x, y, _, h => if_neg (by unfold big dbl at h; dsimp only at h; unfold big; omega)
  | m + 1, 0, _, _, h, _ => absurd h (by omega)
  | m + 1, n + 1, x, y, hm, h => by
    rw [dbl] at h
    rw [dbl, dbl]
    by_cases hc : big x y < 1152921504606846976
    · rw [if_pos hc] at h ⊢
      rw [if_pos hc]
      exact dbl_all m n _ _ (by omega) h
    · rw [if_neg hc, if_neg hc]
theorem rscd (F : Nat) (hF : 200 ≤ F) (ex0) (x0 x1 x2 z : Int) {x y : Int} (hx : I64 x) (hy : I64 y) (hb : 1 ≤ big x y) (h0 : 0 ≤ x) (hz : 0 ≤ z ∧ z ≤ 4294967296)
    (hex : ∀ a b c d e f g h i, ex0 a b c d e f g h i = (some (.v (.int .u32 (IntKind.wrap .u32 f))) : R)) :
    L_w_0 F (fun a b c d e f g => L_w_1 F (fun a b c d e f g h => L_w_2 F ex0 F a b c d e f g h 0) F a b c d e f g 0) F x0 x1 x2 x y z 0 = some (.v (.int .u32 (((aS (scd x y).1 (scd x y).2 30).2.2 + z) % 4294967296))) := by
  have h1 := down_end 62 2 x y (big_I hx hy) (by omega)
  have h2 := down_pos 62 x y hb
  have hd := down_32 62 64 x y (by omega) h1
  have h4 := dbl_end 62 (down 62 x y).1 (down 62 x y).2 (by omega)
  have he := dbl_all 62 64 (down 62 x y).1 (down 62 x y).2 (by omega) h4
  have es : scd x y = dbl 62 (down 62 x y).1 (down 62 x y).2 := by unfold scd; rw [hd, he]
  obtain ⟨i1, i2⟩ := sz_I (x := (down 62 x y).1) (y := (down 62 x y).2) (by omega)
  have hs := scd_bd hx hy hb
  obtain ⟨b1, b2⟩ := big_to hs.2 (scd_sgn h0)
  obtain ⟨j, hj⟩ := lp_rscaled_0 F hF (fun a b c d e f g => L_w_1 F (fun a b c d e f g h => L_w_2 F ex0 F a b c d e f g h 0) F a b c d e f g 0) x0 x1 x2 z 62 F 0 x y 0 hx hy (by omega) rfl (by omega) h1
  rw [hj]
  obtain ⟨l, hl⟩ := lp_rscaled_1 F (fun a b c d e f g h => L_w_2 F ex0 F a b c d e f g h 0) x0 x1 x2 z j 62 F 0 (down 62 x y).1 (down 62 x y).2 0 i1 i2 (by omega) rfl (by omega) h4
  rw [hl]
  rw [← es, lp_rAngle_2 F hF _ b1 b2 hz _ _ _ _ _ 30 F 0 (scd x y).1 (scd x y).2 z 0 (by omega) (by omega) rfl rfl rfl (by simp [aS]), hex, wu32]
theorem f_rAngle (F : Nat) (hF : 200 ≤ F) {y x : Int} (hy : I64 y) (hx : I64 x) : f_w F y x = some (.v (.int .u32 (angle y x))) := by
  unfold f_w fg_w
  have neg : x < 0 → angle y x = ((aS (scd (opp x) (opp y)).1 (scd (opp x) (opp y)).2 30).2.2 + 2147483648) % 4294967296 := by
    intro h; unfold angle; rw [if_neg (by omega), if_pos h]
  have pos : ¬ x < 0 → ¬ (x = 0 ∧ y = 0) → angle y x = ((aS (scd x y).1 (scd x y).2 30).2.2 + 0) % 4294967296 := by
    intro h h2; unfold angle; rw [if_neg h2, if_neg h, Int.add_zero]
  by_cases x0 : x = 0
  · refine bp (by simp [x0]) ?_
    by_cases y0 : y = 0
    · refine bp (by simp [y0]) (some_u32 ?_)
      unfold angle
      rw [if_pos ⟨x0, y0⟩]
    · have hb := big_one (x := x) (y := y) (by omega)
      refine bn (by simp [y0]) (bn (df (by omega)) ?_)
      rw [pos (by omega) (by omega)]
      exact rscd F hF _ _ _ _ _ hx hy hb (by omega) (by omega) (fun _ _ _ _ _ _ _ _ _ => rfl)
  · refine bn (by simp [x0]) ?_
    by_cases hn : x < 0
    · have hb := big_one (x := opp x) (y := opp y) (by have := opp_pos hx hn; omega)
      obtain ⟨o1, o2⟩ := a_r5opp F hx
      obtain ⟨p1, p2⟩ := a_r5opp F hy
      refine bp (dt hn) (bp o1 (bp p1 ?_))
      rw [o2, p2, neg hn]
      exact rscd F hF _ _ _ _ _ (opp_I hx) (opp_I hy) hb (by have := opp_pos hx hn; omega) (by omega) (fun _ _ _ _ _ _ _ _ _ => rfl)
    · have hb := big_one (x := x) (y := y) (by omega)
      refine bn (df hn) ?_
      rw [pos hn (by omega)]
      exact rscd F hF _ _ _ _ _ hx hy hb (by omega) (by omega) (fun _ _ _ _ _ _ _ _ _ => rfl)
theorem a_rAngle (F : Nat) (hF : 200 ≤ F) {y x : Int} (hy : I64 y) (hx : I64 x) : ok_w F y x = true ∧ o_w_0 F y x = angle y x := k_w F _ _ (f_rAngle F hF hy hx)
end Go.Xv
namespace Go.Xv
theorem dot_turn (a0 a1 a2 a3 a4 a5 : Int) : dotZ a3 a4 a5 a0 a1 a2 = dotZ a0 a1 a2 a3 a4 a5 := by unfold dotZ; rw [pr_comm a3, pr_comm a4, pr_comm a5]
theorem a_mSame (F : Nat) (hF : 200 ≤ F) : ok_wc F = true ∧ o_wc_0 F = 4294967296 ∧ o_wc_1 F = 0 ∧ o_wc_2 F = 0 ∧ o_wc_3 F = 0 ∧ o_wc_4 F = 4294967296 ∧ o_wc_5 F = 0 ∧ o_wc_6 F = 0 ∧ o_wc_7 F = 0 ∧ o_wc_8 F = 4294967296 := by
  refine k_wc F ?_
  obtain ⟨G, rfl⟩ : ∃ G, F = G + 4 := ⟨F - 4, by omega⟩
  kernel_rfl
theorem a_rSame (F : Nat) : ok_cb F = true ∧ o_cb_0 F = 4294967296 ∧ o_cb_1 F = 0 ∧ o_cb_2 F = 0 ∧ o_cb_3 F = 0 ∧ o_cb_4 F = 4294967296 ∧ o_cb_5 F = 0 ∧ o_cb_6 F = 0 ∧ o_cb_7 F = 0 ∧ o_cb_8 F = 4294967296 := k_cb F rfl
theorem a_mBack (F : Nat) (hF : 200 ≤ F) (a0 a1 a2 a3 a4 a5 a6 a7 a8 : Int) : ok_vc F a0 a1 a2 a3 a4 a5 a6 a7 a8 = true ∧ o_vc_0 F a0 a1 a2 a3 a4 a5 a6 a7 a8 = a0 ∧ o_vc_1 F a0 a1 a2 a3 a4 a5 a6 a7 a8 = a3 ∧ o_vc_2 F a0 a1 a2 a3 a4 a5 a6 a7 a8 = a6 ∧ o_vc_3 F a0 a1 a2 a3 a4 a5 a6 a7 a8 = a1 ∧ o_vc_4 F a0 a1 a2 a3 a4 a5 a6 a7 a8 = a4 ∧ o_vc_5 F a0 a1 a2 a3 a4 a5 a6 a7 a8 = a7 ∧ o_vc_6 F a0 a1 a2 a3 a4 a5 a6 a7 a8 = a2 ∧ o_vc_7 F a0 a1 a2 a3 a4 a5 a6 a7 a8 = a5 ∧ o_vc_8 F a0 a1 a2 a3 a4 a5 a6 a7 a8 = a8 := by
  refine k_vc F _ _ _ _ _ _ _ _ _ ?_
  obtain ⟨G, rfl⟩ : ∃ G, F = G + 4 := ⟨F - 4, by omega⟩
  kernel_rfl
theorem a_rBack (F : Nat) (a0 a1 a2 a3 a4 a5 a6 a7 a8 : Int) : ok_bb F a0 a1 a2 a3 a4 a5 a6 a7 a8 = true ∧ o_bb_0 F a0 a1 a2 a3 a4 a5 a6 a7 a8 = a0 ∧ o_bb_1 F a0 a1 a2 a3 a4 a5 a6 a7 a8 = a3 ∧ o_bb_2 F a0 a1 a2 a3 a4 a5 a6 a7 a8 = a6 ∧ o_bb_3 F a0 a1 a2 a3 a4 a5 a6 a7 a8 = a1 ∧ o_bb_4 F a0 a1 a2 a3 a4 a5 a6 a7 a8 = a4 ∧ o_bb_5 F a0 a1 a2 a3 a4 a5 a6 a7 a8 = a7 ∧ o_bb_6 F a0 a1 a2 a3 a4 a5 a6 a7 a8 = a2 ∧ o_bb_7 F a0 a1 a2 a3 a4 a5 a6 a7 a8 = a5 ∧ o_bb_8 F a0 a1 a2 a3 a4 a5 a6 a7 a8 = a8 := k_bb F _ _ _ _ _ _ _ _ _ rfl
theorem f_Apply' (F : Nat) (hF : 200 ≤ F) {a0 a1 a2 a3 a4 a5 a6 a7 a8 u0 u1 u2 : Int} {p0 p1 p2 : Int} {c0 c1 c2 : Bool} (d0 : ok_nd F a0 a1 a2 u0 u1 u2 = true ∧ o_nd_0 F a0 a1 a2 u0 u1 u2 = p0 ∧ o_nd_1 F a0 a1 a2 u0 u1 u2 = c0) (d1 : ok_nd F a3 a4 a5 u0 u1 u2 = true ∧ o_nd_0 F a3 a4 a5 u0 u1 u2 = p1 ∧ o_nd_1 F a3 a4 a5 u0 u1 u2 = c1) (d2 : ok_nd F a6 a7 a8 u0 u1 u2 = true ∧ o_nd_0 F a6 a7 a8 u0 u1 u2 = p2 ∧ o_nd_1 F a6 a7 a8 u0 u1 u2 = c2) :
    f_rb F a0 a1 a2 a3 a4 a5 a6 a7 a8 u0 u1 u2 = some (.v (.tuple #[.agg #[.int .i64 p0, .int .i64 p1, .int .i64 p2], .bool (c0 || c1 || c2)])) := by
  obtain ⟨d01, d02, d03⟩ := d0
  obtain ⟨d11, d12, d13⟩ := d1
  obtain ⟨d21, d22, d23⟩ := d2
  have w1 : IntKind.wrap .i64 (0 + 1) = 1 := by decide
  have w2 : IntKind.wrap .i64 (1 + 1) = 2 := by decide
  have w3 : IntKind.wrap .i64 (2 + 1) = 3 := by decide
  unfold f_rb fg_rb
  obtain ⟨G, hG⟩ : ∃ G, F = G + 4 := ⟨F - 4, by omega⟩
  rw [show L_rb_0 F _ F = L_rb_0 F _ (G + 4) from congrArg (L_rb_0 F _) hG]
  have e00 : (iv [.v (.int .i64 a0), .v (.int .i64 a1), .v (.int .i64 a2), .v (.int .i64 a3), .v (.int .i64 a4), .v (.int .i64 a5), .v (.int .i64 a6), .v (.int .i64 a7), .v (.int .i64 a8)][Int.toNat 0 * 3]?) = a0 := rfl
  have e01 : (iv [.v (.int .i64 a0), .v (.int .i64 a1), .v (.int .i64 a2), .v (.int .i64 a3), .v (.int .i64 a4), .v (.int .i64 a5), .v (.int .i64 a6), .v (.int .i64 a7), .v (.int .i64 a8)][Int.toNat 0 * 3 + 1]?) = a1 := rfl
  have e02 : (iv [.v (.int .i64 a0), .v (.int .i64 a1), .v (.int .i64 a2), .v (.int .i64 a3), .v (.int .i64 a4), .v (.int .i64 a5), .v (.int .i64 a6), .v (.int .i64 a7), .v (.int .i64 a8)][Int.toNat 0 * 3 + 1 + 1]?) = a2 := rfl
  have e10 : (iv [.v (.int .i64 a0), .v (.int .i64 a1), .v (.int .i64 a2), .v (.int .i64 a3), .v (.int .i64 a4), .v (.int .i64 a5), .v (.int .i64 a6), .v (.int .i64 a7), .v (.int .i64 a8)][Int.toNat 1 * 3]?) = a3 := rfl
  have e11 : (iv [.v (.int .i64 a0), .v (.int .i64 a1), .v (.int .i64 a2), .v (.int .i64 a3), .v (.int .i64 a4), .v (.int .i64 a5), .v (.int .i64 a6), .v (.int .i64 a7), .v (.int .i64 a8)][Int.toNat 1 * 3 + 1]?) = a4 := rfl
  have e12 : (iv [.v (.int .i64 a0), .v (.int .i64 a1), .v (.int .i64 a2), .v (.int .i64 a3), .v (.int .i64 a4), .v (.int .i64 a5), .v (.int .i64 a6), .v (.int .i64 a7), .v (.int .i64 a8)][Int.toNat 1 * 3 + 1 + 1]?) = a5 := rfl
  have e20 : (iv [.v (.int .i64 a0), .v (.int .i64 a1), .v (.int .i64 a2), .v (.int .i64 a3), .v (.int .i64 a4), .v (.int .i64 a5), .v (.int .i64 a6), .v (.int .i64 a7), .v (.int .i64 a8)][Int.toNat 2 * 3]?) = a6 := rfl
  have e21 : (iv [.v (.int .i64 a0), .v (.int .i64 a1), .v (.int .i64 a2), .v (.int .i64 a3), .v (.int .i64 a4), .v (.int .i64 a5), .v (.int .i64 a6), .v (.int .i64 a7), .v (.int .i64 a8)][Int.toNat 2 * 3 + 1]?) = a7 := rfl
  have e22 : (iv [.v (.int .i64 a0), .v (.int .i64 a1), .v (.int .i64 a2), .v (.int .i64 a3), .v (.int .i64 a4), .v (.int .i64 a5), .v (.int .i64 a6), .v (.int .i64 a7), .v (.int .i64 a8)][Int.toNat 2 * 3 + 1 + 1]?) = a8 := rfl
  rw [L_rb_0]
  unfold B_rb_0 Bg_rb_0
  refine bp rfl (bp rfl ?_)
  rw [e00, e01, e02]
  refine bp d01 ?_
  rw [d02, d03]
  refine bn rfl (bp rfl (bp rfl ?_))
  rw [w1]
  cases c0
  · rw [L_rb_0]
    unfold B_rb_0 Bg_rb_0
    refine bp rfl (bp rfl ?_)
    rw [e10, e11, e12]
    refine bp d11 ?_
    rw [d12, d13]
    refine bn rfl (bp rfl (bp rfl ?_))
    rw [w2]
    cases c1
    · rw [L_rb_0]
      unfold B_rb_0 Bg_rb_0
      refine bp rfl (bp rfl ?_)
      rw [e20, e21, e22]
      refine bp d21 ?_
      rw [d22, d23]
      refine bn rfl (bp rfl (bp rfl ?_))
      rw [w3]
      rw [L_rb_0]
      unfold B_rb_0 Bg_rb_0
      exact bn rfl (bp rfl rfl)
    · rw [L_rb_0]
      unfold B_rb_0 Bg_rb_0
      refine bp rfl (bp rfl ?_)
      rw [e20, e21, e22]
      refine bp d21 ?_
      rw [d22]
      refine bp rfl (bp rfl (bp rfl ?_))
      rw [w3]
      rw [L_rb_0]
      unfold B_rb_0 Bg_rb_0
      exact bn rfl (bp rfl rfl)
  · rw [L_rb_0]
    unfold B_rb_0 Bg_rb_0
    refine bp rfl (bp rfl ?_)
    rw [e10, e11, e12]
    refine bp d11 ?_
    rw [d12]
    refine bp rfl (bp rfl (bp rfl ?_))
    rw [w2]
    rw [L_rb_0]
    unfold B_rb_0 Bg_rb_0
    refine bp rfl (bp rfl ?_)
    rw [e20, e21, e22]
    refine bp d21 ?_
    rw [d22]
    refine bp rfl (bp rfl (bp rfl ?_))
    rw [w3]
    rw [L_rb_0]
    unfold B_rb_0 Bg_rb_0
    exact bn rfl (bp rfl rfl)
theorem a_mApply (F : Nat) (hF : 200 ≤ F) {a0 a1 a2 a3 a4 a5 a6 a7 a8 u0 u1 u2 : Int} (ha0 : I64 a0) (ha1 : I64 a1) (ha2 : I64 a2) (ha3 : I64 a3) (ha4 : I64 a4) (ha5 : I64 a5) (ha6 : I64 a6) (ha7 : I64 a7) (ha8 : I64 a8) (hu0 : I64 u0) (hu1 : I64 u1) (hu2 : I64 u2) : ok_rb F a0 a1 a2 a3 a4 a5 a6 a7 a8 u0 u1 u2 = true ∧ o_rb_0 F a0 a1 a2 a3 a4 a5 a6 a7 a8 u0 u1 u2 = clipV (dotZ a0 a1 a2 u0 u1 u2) ∧ o_rb_1 F a0 a1 a2 a3 a4 a5 a6 a7 a8 u0 u1 u2 = clipV (dotZ a3 a4 a5 u0 u1 u2) ∧ o_rb_2 F a0 a1 a2 a3 a4 a5 a6 a7 a8 u0 u1 u2 = clipV (dotZ a6 a7 a8 u0 u1 u2) ∧ o_rb_3 F a0 a1 a2 a3 a4 a5 a6 a7 a8 u0 u1 u2 = (clipC (dotZ a0 a1 a2 u0 u1 u2) || clipC (dotZ a3 a4 a5 u0 u1 u2) || clipC (dotZ a6 a7 a8 u0 u1 u2)) :=
  k_rb F _ _ _ _ _ _ _ _ _ _ _ _ (f_Apply' F hF (a_Dot F hF ha0 ha1 ha2 hu0 hu1 hu2) (a_Dot F hF ha3 ha4 ha5 hu0 hu1 hu2) (a_Dot F hF ha6 ha7 ha8 hu0 hu1 hu2))
theorem a_rApply (F : Nat) (hF : 200 ≤ F) {a0 a1 a2 a3 a4 a5 a6 a7 a8 u0 u1 u2 : Int} (ha0 : I64 a0) (ha1 : I64 a1) (ha2 : I64 a2) (ha3 : I64 a3) (ha4 : I64 a4) (ha5 : I64 a5) (ha6 : I64 a6) (ha7 : I64 a7) (ha8 : I64 a8) (hu0 : I64 u0) (hu1 : I64 u1) (hu2 : I64 u2) : ok_ba F a0 a1 a2 a3 a4 a5 a6 a7 a8 u0 u1 u2 = true ∧ o_ba_0 F a0 a1 a2 a3 a4 a5 a6 a7 a8 u0 u1 u2 = clipV (dotZ a0 a1 a2 u0 u1 u2) ∧ o_ba_1 F a0 a1 a2 a3 a4 a5 a6 a7 a8 u0 u1 u2 = clipV (dotZ a3 a4 a5 u0 u1 u2) ∧ o_ba_2 F a0 a1 a2 a3 a4 a5 a6 a7 a8 u0 u1 u2 = clipV (dotZ a6 a7 a8 u0 u1 u2) ∧ o_ba_3 F a0 a1 a2 a3 a4 a5 a6 a7 a8 u0 u1 u2 = (clipC (dotZ a0 a1 a2 u0 u1 u2) || clipC (dotZ a3 a4 a5 u0 u1 u2) || clipC (dotZ a6 a7 a8 u0 u1 u2)) := by
  refine k_ba F _ _ _ _ _ _ _ _ _ _ _ _ ?_
  unfold f_ba fg_ba
  obtain ⟨p1, p2, p3⟩ := a_rDot F hF ha0 ha1 ha2 hu0 hu1 hu2
  obtain ⟨q1, q2, q3⟩ := a_rDot F hF ha3 ha4 ha5 hu0 hu1 hu2
  obtain ⟨r1, r2, r3⟩ := a_rDot F hF ha6 ha7 ha8 hu0 hu1 hu2
  refine bp p1 (bp q1 (bp r1 ?_))
  rw [p2, p3, q2, q3, r2, r3]
  exact or3
theorem f_Mul' (F : Nat) (hF : 200 ≤ F) {a0 a1 a2 a3 a4 a5 a6 a7 a8 b0 b1 b2 b3 b4 b5 b6 b7 b8 : Int} {p0 p1 p2 p3 p4 p5 p6 p7 p8 : Int} {c0 c1 c2 : Bool} (d0 : ok_rb F b0 b3 b6 b1 b4 b7 b2 b5 b8 a0 a1 a2 = true ∧ o_rb_0 F b0 b3 b6 b1 b4 b7 b2 b5 b8 a0 a1 a2 = p0 ∧ o_rb_1 F b0 b3 b6 b1 b4 b7 b2 b5 b8 a0 a1 a2 = p1 ∧ o_rb_2 F b0 b3 b6 b1 b4 b7 b2 b5 b8 a0 a1 a2 = p2 ∧ o_rb_3 F b0 b3 b6 b1 b4 b7 b2 b5 b8 a0 a1 a2 = c0) (d1 : ok_rb F b0 b3 b6 b1 b4 b7 b2 b5 b8 a3 a4 a5 = true ∧ o_rb_0 F b0 b3 b6 b1 b4 b7 b2 b5 b8 a3 a4 a5 = p3 ∧ o_rb_1 F b0 b3 b6 b1 b4 b7 b2 b5 b8 a3 a4 a5 = p4 ∧ o_rb_2 F b0 b3 b6 b1 b4 b7 b2 b5 b8 a3 a4 a5 = p5 ∧ o_rb_3 F b0 b3 b6 b1 b4 b7 b2 b5 b8 a3 a4 a5 = c1) (d2 : ok_rb F b0 b3 b6 b1 b4 b7 b2 b5 b8 a6 a7 a8 = true ∧ o_rb_0 F b0 b3 b6 b1 b4 b7 b2 b5 b8 a6 a7 a8 = p6 ∧ o_rb_1 F b0 b3 b6 b1 b4 b7 b2 b5 b8 a6 a7 a8 = p7 ∧ o_rb_2 F b0 b3 b6 b1 b4 b7 b2 b5 b8 a6 a7 a8 = p8 ∧ o_rb_3 F b0 b3 b6 b1 b4 b7 b2 b5 b8 a6 a7 a8 = c2) :
    f_ld F a0 a1 a2 a3 a4 a5 a6 a7 a8 b0 b1 b2 b3 b4 b5 b6 b7 b8 = some (.v (.tuple #[.agg #[.int .i64 p0, .int .i64 p1, .int .i64 p2, .int .i64 p3, .int .i64 p4, .int .i64 p5, .int .i64 p6, .int .i64 p7, .int .i64 p8], .bool (c0 || c1 || c2)])) := by
  obtain ⟨d01, d02, d03, d04, d05⟩ := d0
  obtain ⟨d11, d12, d13, d14, d15⟩ := d1
  obtain ⟨d21, d22, d23, d24, d25⟩ := d2
  have w1 : IntKind.wrap .i64 (0 + 1) = 1 := by decide
  have w2 : IntKind.wrap .i64 (1 + 1) = 2 := by decide
  have w3 : IntKind.wrap .i64 (2 + 1) = 3 := by decide
  unfold f_ld fg_ld
  obtain ⟨b0_, bb0, bb1, bb2, bb3, bb4, bb5, bb6, bb7, bb8⟩ := a_mBack F hF b0 b1 b2 b3 b4 b5 b6 b7 b8
  refine bp b0_ ?_
  rw [bb0, bb1, bb2, bb3, bb4, bb5, bb6, bb7, bb8]
  obtain ⟨G, hG⟩ : ∃ G, F = G + 4 := ⟨F - 4, by omega⟩
  rw [show L_ld_0 F _ F = L_ld_0 F _ (G + 4) from congrArg (L_ld_0 F _) hG]
  have e00 : (iv [.v (.int .i64 a0), .v (.int .i64 a1), .v (.int .i64 a2), .v (.int .i64 a3), .v (.int .i64 a4), .v (.int .i64 a5), .v (.int .i64 a6), .v (.int .i64 a7), .v (.int .i64 a8)][Int.toNat 0 * 3]?) = a0 := rfl
  have e01 : (iv [.v (.int .i64 a0), .v (.int .i64 a1), .v (.int .i64 a2), .v (.int .i64 a3), .v (.int .i64 a4), .v (.int .i64 a5), .v (.int .i64 a6), .v (.int .i64 a7), .v (.int .i64 a8)][Int.toNat 0 * 3 + 1]?) = a1 := rfl
  have e02 : (iv [.v (.int .i64 a0), .v (.int .i64 a1), .v (.int .i64 a2), .v (.int .i64 a3), .v (.int .i64 a4), .v (.int .i64 a5), .v (.int .i64 a6), .v (.int .i64 a7), .v (.int .i64 a8)][Int.toNat 0 * 3 + 1 + 1]?) = a2 := rfl
  have e10 : (iv [.v (.int .i64 a0), .v (.int .i64 a1), .v (.int .i64 a2), .v (.int .i64 a3), .v (.int .i64 a4), .v (.int .i64 a5), .v (.int .i64 a6), .v (.int .i64 a7), .v (.int .i64 a8)][Int.toNat 1 * 3]?) = a3 := rfl
  have e11 : (iv [.v (.int .i64 a0), .v (.int .i64 a1), .v (.int .i64 a2), .v (.int .i64 a3), .v (.int .i64 a4), .v (.int .i64 a5), .v (.int .i64 a6), .v (.int .i64 a7), .v (.int .i64 a8)][Int.toNat 1 * 3 + 1]?) = a4 := rfl
  have e12 : (iv [.v (.int .i64 a0), .v (.int .i64 a1), .v (.int .i64 a2), .v (.int .i64 a3), .v (.int .i64 a4), .v (.int .i64 a5), .v (.int .i64 a6), .v (.int .i64 a7), .v (.int .i64 a8)][Int.toNat 1 * 3 + 1 + 1]?) = a5 := rfl
  have e20 : (iv [.v (.int .i64 a0), .v (.int .i64 a1), .v (.int .i64 a2), .v (.int .i64 a3), .v (.int .i64 a4), .v (.int .i64 a5), .v (.int .i64 a6), .v (.int .i64 a7), .v (.int .i64 a8)][Int.toNat 2 * 3]?) = a6 := rfl
  have e21 : (iv [.v (.int .i64 a0), .v (.int .i64 a1), .v (.int .i64 a2), .v (.int .i64 a3), .v (.int .i64 a4), .v (.int .i64 a5), .v (.int .i64 a6), .v (.int .i64 a7), .v (.int .i64 a8)][Int.toNat 2 * 3 + 1]?) = a7 := rfl
  have e22 : (iv [.v (.int .i64 a0), .v (.int .i64 a1), .v (.int .i64 a2), .v (.int .i64 a3), .v (.int .i64 a4), .v (.int .i64 a5), .v (.int .i64 a6), .v (.int .i64 a7), .v (.int .i64 a8)][Int.toNat 2 * 3 + 1 + 1]?) = a8 := rfl
  rw [L_ld_0]
  unfold B_ld_0 Bg_ld_0
  refine bp rfl (bp rfl ?_)
  rw [e00, e01, e02]
  refine bp d01 ?_
  rw [d02, d03, d04, d05]
  refine bn rfl (bp rfl (bp rfl ?_))
  rw [w1]
  cases c0
  · rw [L_ld_0]
    unfold B_ld_0 Bg_ld_0
    refine bp rfl (bp rfl ?_)
    rw [e10, e11, e12]
    refine bp d11 ?_
    rw [d12, d13, d14, d15]
    refine bn rfl (bp rfl (bp rfl ?_))
    rw [w2]
    cases c1
    · rw [L_ld_0]
      unfold B_ld_0 Bg_ld_0
      refine bp rfl (bp rfl ?_)
      rw [e20, e21, e22]
      refine bp d21 ?_
      rw [d22, d23, d24, d25]
      refine bn rfl (bp rfl (bp rfl ?_))
      rw [w3]
      rw [L_ld_0]
      unfold B_ld_0 Bg_ld_0
      exact bn rfl (bp rfl rfl)
    · rw [L_ld_0]
      unfold B_ld_0 Bg_ld_0
      refine bp rfl (bp rfl ?_)
      rw [e20, e21, e22]
      refine bp d21 ?_
      rw [d22, d23, d24]
      refine bp rfl (bp rfl (bp rfl ?_))
      rw [w3]
      rw [L_ld_0]
      unfold B_ld_0 Bg_ld_0
      exact bn rfl (bp rfl rfl)
  · rw [L_ld_0]
    unfold B_ld_0 Bg_ld_0
    refine bp rfl (bp rfl ?_)
    rw [e10, e11, e12]
    refine bp d11 ?_
    rw [d12, d13, d14]
    refine bp rfl (bp rfl (bp rfl ?_))
    rw [w2]
    rw [L_ld_0]
    unfold B_ld_0 Bg_ld_0
    refine bp rfl (bp rfl ?_)
    rw [e20, e21, e22]
    refine bp d21 ?_
    rw [d22, d23, d24]
    refine bp rfl (bp rfl (bp rfl ?_))
    rw [w3]
    rw [L_ld_0]
    unfold B_ld_0 Bg_ld_0
    exact bn rfl (bp rfl rfl)
theorem a_mMul (F : Nat) (hF : 200 ≤ F) {a0 a1 a2 a3 a4 a5 a6 a7 a8 b0 b1 b2 b3 b4 b5 b6 b7 b8 : Int} (ha0 : I64 a0) (ha1 : I64 a1) (ha2 : I64 a2) (ha3 : I64 a3) (ha4 : I64 a4) (ha5 : I64 a5) (ha6 : I64 a6) (ha7 : I64 a7) (ha8 : I64 a8) (hb0 : I64 b0) (hb1 : I64 b1) (hb2 : I64 b2) (hb3 : I64 b3) (hb4 : I64 b4) (hb5 : I64 b5) (hb6 : I64 b6) (hb7 : I64 b7) (hb8 : I64 b8) : ok_ld F a0 a1 a2 a3 a4 a5 a6 a7 a8 b0 b1 b2 b3 b4 b5 b6 b7 b8 = true ∧ o_ld_0 F a0 a1 a2 a3 a4 a5 a6 a7 a8 b0 b1 b2 b3 b4 b5 b6 b7 b8 = clipV (dotZ a0 a1 a2 b0 b3 b6) ∧ o_ld_1 F a0 a1 a2 a3 a4 a5 a6 a7 a8 b0 b1 b2 b3 b4 b5 b6 b7 b8 = clipV (dotZ a0 a1 a2 b1 b4 b7) ∧ o_ld_2 F a0 a1 a2 a3 a4 a5 a6 a7 a8 b0 b1 b2 b3 b4 b5 b6 b7 b8 = clipV (dotZ a0 a1 a2 b2 b5 b8) ∧ o_ld_3 F a0 a1 a2 a3 a4 a5 a6 a7 a8 b0 b1 b2 b3 b4 b5 b6 b7 b8 = clipV (dotZ a3 a4 a5 b0 b3 b6) ∧ o_ld_4 F a0 a1 a2 a3 a4 a5 a6 a7 a8 b0 b1 b2 b3 b4 b5 b6 b7 b8 = clipV (dotZ a3 a4 a5 b1 b4 b7) ∧ o_ld_5 F a0 a1 a2 a3 a4 a5 a6 a7 a8 b0 b1 b2 b3 b4 b5 b6 b7 b8 = clipV (dotZ a3 a4 a5 b2 b5 b8) ∧ o_ld_6 F a0 a1 a2 a3 a4 a5 a6 a7 a8 b0 b1 b2 b3 b4 b5 b6 b7 b8 = clipV (dotZ a6 a7 a8 b0 b3 b6) ∧ o_ld_7 F a0 a1 a2 a3 a4 a5 a6 a7 a8 b0 b1 b2 b3 b4 b5 b6 b7 b8 = clipV (dotZ a6 a7 a8 b1 b4 b7) ∧ o_ld_8 F a0 a1 a2 a3 a4 a5 a6 a7 a8 b0 b1 b2 b3 b4 b5 b6 b7 b8 = clipV (dotZ a6 a7 a8 b2 b5 b8) ∧ o_ld_9 F a0 a1 a2 a3 a4 a5 a6 a7 a8 b0 b1 b2 b3 b4 b5 b6 b7 b8 = ((clipC (dotZ a0 a1 a2 b0 b3 b6) || clipC (dotZ a0 a1 a2 b1 b4 b7) || clipC (dotZ a0 a1 a2 b2 b5 b8)) || (clipC (dotZ a3 a4 a5 b0 b3 b6) || clipC (dotZ a3 a4 a5 b1 b4 b7) || clipC (dotZ a3 a4 a5 b2 b5 b8)) || (clipC (dotZ a6 a7 a8 b0 b3 b6) || clipC (dotZ a6 a7 a8 b1 b4 b7) || clipC (dotZ a6 a7 a8 b2 b5 b8))) := by
  have d0 := a_mApply F hF hb0 hb3 hb6 hb1 hb4 hb7 hb2 hb5 hb8 ha0 ha1 ha2
  rw [dot_turn a0 a1 a2 b0 b3 b6, dot_turn a0 a1 a2 b1 b4 b7, dot_turn a0 a1 a2 b2 b5 b8] at d0
  have d1 := a_mApply F hF hb0 hb3 hb6 hb1 hb4 hb7 hb2 hb5 hb8 ha3 ha4 ha5
  rw [dot_turn a3 a4 a5 b0 b3 b6, dot_turn a3 a4 a5 b1 b4 b7, dot_turn a3 a4 a5 b2 b5 b8] at d1
  have d2 := a_mApply F hF hb0 hb3 hb6 hb1 hb4 hb7 hb2 hb5 hb8 ha6 ha7 ha8
  rw [dot_turn a6 a7 a8 b0 b3 b6, dot_turn a6 a7 a8 b1 b4 b7, dot_turn a6 a7 a8 b2 b5 b8] at d2
  exact k_ld F _ _ _ _ _ _ _ _ _ _ _ _ _ _ _ _ _ _ (f_Mul' F hF d0 d1 d2)
theorem or9 {a b c d e f g h i : Bool} : ((a || d || g) || (b || e || h) || (c || f || i)) = ((a || b || c) || (d || e || f) || (g || h || i)) := by
  cases a <;> cases b <;> cases c <;> cases d <;> cases e <;> cases f <;> cases g <;> cases h <;> cases i <;> rfl
theorem or3M {p0 p1 p2 p3 p4 p5 p6 p7 p8 : Int} {a b c : Bool} : (bif a then (some (VV.v (.tuple #[.agg #[.int .i64 p0, .int .i64 p1, .int .i64 p2, .int .i64 p3, .int .i64 p4, .int .i64 p5, .int .i64 p6, .int .i64 p7, .int .i64 p8], .bool true])) : R) else (bif b then (some (.v (.tuple #[.agg #[.int .i64 p0, .int .i64 p1, .int .i64 p2, .int .i64 p3, .int .i64 p4, .int .i64 p5, .int .i64 p6, .int .i64 p7, .int .i64 p8], .bool true]))) else (some (.v (.tuple #[.agg #[.int .i64 p0, .int .i64 p1, .int .i64 p2, .int .i64 p3, .int .i64 p4, .int .i64 p5, .int .i64 p6, .int .i64 p7, .int .i64 p8], .bool c]))))) = some (.v (.tuple #[.agg #[.int .i64 p0, .int .i64 p1, .int .i64 p2, .int .i64 p3, .int .i64 p4, .int .i64 p5, .int .i64 p6, .int .i64 p7, .int .i64 p8], .bool (a || b || c)])) := by
  cases a <;> cases b <;> rfl
theorem a_rMul7 (F : Nat) (hF : 200 ≤ F) {a0 a1 a2 a3 a4 a5 a6 a7 a8 b0 b1 b2 b3 b4 b5 b6 b7 b8 : Int} (ha0 : I64 a0) (ha1 : I64 a1) (ha2 : I64 a2) (ha3 : I64 a3) (ha4 : I64 a4) (ha5 : I64 a5) (ha6 : I64 a6) (ha7 : I64 a7) (ha8 : I64 a8) (hb0 : I64 b0) (hb1 : I64 b1) (hb2 : I64 b2) (hb3 : I64 b3) (hb4 : I64 b4) (hb5 : I64 b5) (hb6 : I64 b6) (hb7 : I64 b7) (hb8 : I64 b8) : ok_cc F a0 a1 a2 a3 a4 a5 a6 a7 a8 b0 b1 b2 b3 b4 b5 b6 b7 b8 = true ∧ o_cc_0 F a0 a1 a2 a3 a4 a5 a6 a7 a8 b0 b1 b2 b3 b4 b5 b6 b7 b8 = clipV (dotZ a0 a1 a2 b0 b3 b6) ∧ o_cc_1 F a0 a1 a2 a3 a4 a5 a6 a7 a8 b0 b1 b2 b3 b4 b5 b6 b7 b8 = clipV (dotZ a0 a1 a2 b1 b4 b7) ∧ o_cc_2 F a0 a1 a2 a3 a4 a5 a6 a7 a8 b0 b1 b2 b3 b4 b5 b6 b7 b8 = clipV (dotZ a0 a1 a2 b2 b5 b8) ∧ o_cc_3 F a0 a1 a2 a3 a4 a5 a6 a7 a8 b0 b1 b2 b3 b4 b5 b6 b7 b8 = clipV (dotZ a3 a4 a5 b0 b3 b6) ∧ o_cc_4 F a0 a1 a2 a3 a4 a5 a6 a7 a8 b0 b1 b2 b3 b4 b5 b6 b7 b8 = clipV (dotZ a3 a4 a5 b1 b4 b7) ∧ o_cc_5 F a0 a1 a2 a3 a4 a5 a6 a7 a8 b0 b1 b2 b3 b4 b5 b6 b7 b8 = clipV (dotZ a3 a4 a5 b2 b5 b8) ∧ o_cc_6 F a0 a1 a2 a3 a4 a5 a6 a7 a8 b0 b1 b2 b3 b4 b5 b6 b7 b8 = clipV (dotZ a6 a7 a8 b0 b3 b6) ∧ o_cc_7 F a0 a1 a2 a3 a4 a5 a6 a7 a8 b0 b1 b2 b3 b4 b5 b6 b7 b8 = clipV (dotZ a6 a7 a8 b1 b4 b7) ∧ o_cc_8 F a0 a1 a2 a3 a4 a5 a6 a7 a8 b0 b1 b2 b3 b4 b5 b6 b7 b8 = clipV (dotZ a6 a7 a8 b2 b5 b8) ∧ o_cc_9 F a0 a1 a2 a3 a4 a5 a6 a7 a8 b0 b1 b2 b3 b4 b5 b6 b7 b8 = ((clipC (dotZ a0 a1 a2 b0 b3 b6) || clipC (dotZ a0 a1 a2 b1 b4 b7) || clipC (dotZ a0 a1 a2 b2 b5 b8)) || (clipC (dotZ a3 a4 a5 b0 b3 b6) || clipC (dotZ a3 a4 a5 b1 b4 b7) || clipC (dotZ a3 a4 a5 b2 b5 b8)) || (clipC (dotZ a6 a7 a8 b0 b3 b6) || clipC (dotZ a6 a7 a8 b1 b4 b7) || clipC (dotZ a6 a7 a8 b2 b5 b8))) := by
  refine k_cc F _ _ _ _ _ _ _ _ _ _ _ _ _ _ _ _ _ _ ?_
  unfold f_cc fg_cc
  obtain ⟨b0_, bb0, bb1, bb2, bb3, bb4, bb5, bb6, bb7, bb8⟩ := a_rBack F b0 b1 b2 b3 b4 b5 b6 b7 b8
  obtain ⟨s00, s01, s02, s03, s04⟩ := a_rApply F hF ha0 ha1 ha2 ha3 ha4 ha5 ha6 ha7 ha8 hb0 hb3 hb6
  obtain ⟨s10, s11, s12, s13, s14⟩ := a_rApply F hF ha0 ha1 ha2 ha3 ha4 ha5 ha6 ha7 ha8 hb1 hb4 hb7
  obtain ⟨s20, s21, s22, s23, s24⟩ := a_rApply F hF ha0 ha1 ha2 ha3 ha4 ha5 ha6 ha7 ha8 hb2 hb5 hb8
  refine bp b0_ ?_
  rw [bb0, bb1, bb2, bb3, bb4, bb5, bb6, bb7, bb8]
  refine bp s00 (bp s10 (bp s20 ?_))
  rw [s01, s02, s03, s04, s11, s12, s13, s14, s21, s22, s23, s24]
  obtain ⟨f0_, ff0, ff1, ff2, ff3, ff4, ff5, ff6, ff7, ff8⟩ := a_rBack F (clipV (dotZ a0 a1 a2 b0 b3 b6)) (clipV (dotZ a3 a4 a5 b0 b3 b6)) (clipV (dotZ a6 a7 a8 b0 b3 b6)) (clipV (dotZ a0 a1 a2 b1 b4 b7)) (clipV (dotZ a3 a4 a5 b1 b4 b7)) (clipV (dotZ a6 a7 a8 b1 b4 b7)) (clipV (dotZ a0 a1 a2 b2 b5 b8)) (clipV (dotZ a3 a4 a5 b2 b5 b8)) (clipV (dotZ a6 a7 a8 b2 b5 b8))
  refine bp f0_ ?_
  rw [ff0, ff1, ff2, ff3, ff4, ff5, ff6, ff7, ff8]
  rw [← or9]
  exact or3M
theorem neg_both (x : Int) : IntKind.wrap .i64 (0 - bothS x) = -bothS x := by
  have := (both_bd x).2
  rw [wi64_in (by unfold I64; omega), Int.zero_sub]
theorem a_mAbout0 (F : Nat) (hF : 200 ≤ F) {x : Int} (hx : U32 x) : ok_qb F 0 x = true ∧ o_qb_0 F 0 x = 4294967296 ∧ o_qb_1 F 0 x = 0 ∧ o_qb_2 F 0 x = 0 ∧ o_qb_3 F 0 x = 0 ∧ o_qb_4 F 0 x = (bothC x) ∧ o_qb_5 F 0 x = (-bothS x) ∧ o_qb_6 F 0 x = 0 ∧ o_qb_7 F 0 x = (bothS x) ∧ o_qb_8 F 0 x = (bothC x) ∧ o_qb_9 F 0 x = 0 := by
  refine k_qb F _ _ ?_
  unfold f_qb fg_qb
  obtain ⟨h1, h2, h3⟩ := a_tBoth F hF hx
  obtain ⟨m0, mm0, mm1, mm2, mm3, mm4, mm5, mm6, mm7, mm8⟩ := a_mSame F hF
  have w1 : Int.tmod (IntKind.wrap .i64 (0 + 1)) 3 = 1 := by decide
  have w2 : Int.tmod (IntKind.wrap .i64 (0 + 2)) 3 = 2 := by decide
  refine bn rfl (bn rfl (bp h1 ?_))
  rw [h2, h3, w1, w2]
  refine bp m0 ?_
  rw [mm0, mm1, mm2, mm3, mm4, mm5, mm6, mm7, mm8]
  dsimp only
  rw [neg_both]
  refine bp rfl (bp rfl (bp rfl (bp rfl (bp rfl (bp rfl (bp rfl (bp rfl (bp rfl (bp rfl (bp rfl (bp rfl (bp rfl ?_))))))))))))
  rfl
theorem a_rAbout0 (F : Nat) (hF : 200 ≤ F) {x : Int} (hx : U32 x) : ok_aa F 0 x = true ∧ o_aa_0 F 0 x = 4294967296 ∧ o_aa_1 F 0 x = 0 ∧ o_aa_2 F 0 x = 0 ∧ o_aa_3 F 0 x = 0 ∧ o_aa_4 F 0 x = (bothC x) ∧ o_aa_5 F 0 x = (-bothS x) ∧ o_aa_6 F 0 x = 0 ∧ o_aa_7 F 0 x = (bothS x) ∧ o_aa_8 F 0 x = (bothC x) ∧ o_aa_9 F 0 x = 0 := by
  refine k_aa F _ _ ?_
  unfold f_aa fg_aa
  obtain ⟨h1, h2, h3⟩ := a_rBoth F hF hx
  refine bp h1 ?_
  rw [h2, h3]
  dsimp only
  rw [neg_both]
  exact bp rfl rfl
theorem a_mAbout1 (F : Nat) (hF : 200 ≤ F) {x : Int} (hx : U32 x) : ok_qb F 1 x = true ∧ o_qb_0 F 1 x = (bothC x) ∧ o_qb_1 F 1 x = 0 ∧ o_qb_2 F 1 x = (bothS x) ∧ o_qb_3 F 1 x = 0 ∧ o_qb_4 F 1 x = 4294967296 ∧ o_qb_5 F 1 x = 0 ∧ o_qb_6 F 1 x = (-bothS x) ∧ o_qb_7 F 1 x = 0 ∧ o_qb_8 F 1 x = (bothC x) ∧ o_qb_9 F 1 x = 0 := by
  refine k_qb F _ _ ?_
  unfold f_qb fg_qb
  obtain ⟨h1, h2, h3⟩ := a_tBoth F hF hx
  obtain ⟨m0, mm0, mm1, mm2, mm3, mm4, mm5, mm6, mm7, mm8⟩ := a_mSame F hF
  have w1 : Int.tmod (IntKind.wrap .i64 (1 + 1)) 3 = 2 := by decide
  have w2 : Int.tmod (IntKind.wrap .i64 (1 + 2)) 3 = 0 := by decide
  refine bn rfl (bn rfl (bp h1 ?_))
  rw [h2, h3, w1, w2]
  refine bp m0 ?_
  rw [mm0, mm1, mm2, mm3, mm4, mm5, mm6, mm7, mm8]
  dsimp only
  rw [neg_both]
  refine bp rfl (bp rfl (bp rfl (bp rfl (bp rfl (bp rfl (bp rfl (bp rfl (bp rfl (bp rfl (bp rfl (bp rfl (bp rfl ?_))))))))))))
  rfl
theorem a_rAbout1 (F : Nat) (hF : 200 ≤ F) {x : Int} (hx : U32 x) : ok_aa F 1 x = true ∧ o_aa_0 F 1 x = (bothC x) ∧ o_aa_1 F 1 x = 0 ∧ o_aa_2 F 1 x = (bothS x) ∧ o_aa_3 F 1 x = 0 ∧ o_aa_4 F 1 x = 4294967296 ∧ o_aa_5 F 1 x = 0 ∧ o_aa_6 F 1 x = (-bothS x) ∧ o_aa_7 F 1 x = 0 ∧ o_aa_8 F 1 x = (bothC x) ∧ o_aa_9 F 1 x = 0 := by
  refine k_aa F _ _ ?_
  unfold f_aa fg_aa
  obtain ⟨h1, h2, h3⟩ := a_rBoth F hF hx
  refine bp h1 ?_
  rw [h2, h3]
  dsimp only
  rw [neg_both]
  exact bn rfl (bp rfl rfl)
theorem a_mAbout2 (F : Nat) (hF : 200 ≤ F) {x : Int} (hx : U32 x) : ok_qb F 2 x = true ∧ o_qb_0 F 2 x = (bothC x) ∧ o_qb_1 F 2 x = (-bothS x) ∧ o_qb_2 F 2 x = 0 ∧ o_qb_3 F 2 x = (bothS x) ∧ o_qb_4 F 2 x = (bothC x) ∧ o_qb_5 F 2 x = 0 ∧ o_qb_6 F 2 x = 0 ∧ o_qb_7 F 2 x = 0 ∧ o_qb_8 F 2 x = 4294967296 ∧ o_qb_9 F 2 x = 0 := by
  refine k_qb F _ _ ?_
  unfold f_qb fg_qb
  obtain ⟨h1, h2, h3⟩ := a_tBoth F hF hx
  obtain ⟨m0, mm0, mm1, mm2, mm3, mm4, mm5, mm6, mm7, mm8⟩ := a_mSame F hF
  have w1 : Int.tmod (IntKind.wrap .i64 (2 + 1)) 3 = 0 := by decide
  have w2 : Int.tmod (IntKind.wrap .i64 (2 + 2)) 3 = 1 := by decide
  refine bn rfl (bn rfl (bp h1 ?_))
  rw [h2, h3, w1, w2]
  refine bp m0 ?_
  rw [mm0, mm1, mm2, mm3, mm4, mm5, mm6, mm7, mm8]
  dsimp only
  rw [neg_both]
  refine bp rfl (bp rfl (bp rfl (bp rfl (bp rfl (bp rfl (bp rfl (bp rfl (bp rfl (bp rfl (bp rfl (bp rfl (bp rfl ?_))))))))))))
  rfl
theorem a_rAbout2 (F : Nat) (hF : 200 ≤ F) {x : Int} (hx : U32 x) : ok_aa F 2 x = true ∧ o_aa_0 F 2 x = (bothC x) ∧ o_aa_1 F 2 x = (-bothS x) ∧ o_aa_2 F 2 x = 0 ∧ o_aa_3 F 2 x = (bothS x) ∧ o_aa_4 F 2 x = (bothC x) ∧ o_aa_5 F 2 x = 0 ∧ o_aa_6 F 2 x = 0 ∧ o_aa_7 F 2 x = 0 ∧ o_aa_8 F 2 x = 4294967296 ∧ o_aa_9 F 2 x = 0 := by
  refine k_aa F _ _ ?_
  unfold f_aa fg_aa
  obtain ⟨h1, h2, h3⟩ := a_rBoth F hF hx
  refine bp h1 ?_
  rw [h2, h3]
  dsimp only
  rw [neg_both]
  exact bn rfl (bn rfl (bp rfl rfl))
theorem a_Heading (F : Nat) (hF : 200 ≤ F) {a0 a1 a2 a3 a4 a5 a6 a7 a8 : Int} (ha0 : I64 a0) (ha3 : I64 a3) : ok_t F a0 a1 a2 a3 a4 a5 a6 a7 a8 = true ∧ o_t_0 F a0 a1 a2 a3 a4 a5 a6 a7 a8 = angle a3 a0 := by
  refine k_t F _ _ _ _ _ _ _ _ _ ?_
  unfold f_t fg_t
  obtain ⟨h1, h2⟩ := a_tAngle F hF ha3 ha0
  refine bp h1 ?_
  rw [h2]
theorem a_rHeading (F : Nat) (hF : 200 ≤ F) {a0 a1 a2 a3 a4 a5 a6 a7 a8 : Int} (ha0 : I64 a0) (ha3 : I64 a3) : ok_g F a0 a1 a2 a3 a4 a5 a6 a7 a8 = true ∧ o_g_0 F a0 a1 a2 a3 a4 a5 a6 a7 a8 = angle a3 a0 := by
  refine k_g F _ _ _ _ _ _ _ _ _ ?_
  unfold f_g fg_g
  obtain ⟨h1, h2⟩ := a_rAngle F hF ha3 ha0
  refine bp h1 ?_
  rw [h2]
end Go.Xv
namespace Go.Xv
theorem gr3_nn (a b c : Int) : 0 ≤ gr3 a b c := by
  have : 0 ≤ sz a := by unfold sz; split <;> omega
  unfold gr3; omega
/-- how far a row of the products is off -/
def row3 (p q r s t u : Int) : Int := gr3 (clipV (p - s)) (clipV (q - t)) (clipV (r - u))
theorem row3_nn (p q r s t u : Int) : 0 ≤ row3 p q r s t u := gr3_nn _ _ _
def off9 (a0 a1 a2 a3 a4 a5 a6 a7 a8 : Int) : Int := max (row3 (clipV (dotZ a0 a1 a2 a0 a1 a2)) (clipV (dotZ a0 a1 a2 a3 a4 a5)) (clipV (dotZ a0 a1 a2 a6 a7 a8)) 4294967296 0 0) (max (row3 (clipV (dotZ a3 a4 a5 a0 a1 a2)) (clipV (dotZ a3 a4 a5 a3 a4 a5)) (clipV (dotZ a3 a4 a5 a6 a7 a8)) 0 4294967296 0) (row3 (clipV (dotZ a6 a7 a8 a0 a1 a2)) (clipV (dotZ a6 a7 a8 a3 a4 a5)) (clipV (dotZ a6 a7 a8 a6 a7 a8)) 0 0 4294967296))
theorem h_mat_Off (F : Nat) (hF : 200 ≤ F) {a0 a1 a2 a3 a4 a5 a6 a7 a8 p0 p1 p2 p3 p4 p5 p6 p7 p8 : Int} (i0 : I64 p0) (i1 : I64 p1) (i2 : I64 p2) (i3 : I64 p3) (i4 : I64 p4) (i5 : I64 p5) (i6 : I64 p6) (i7 : I64 p7) (i8 : I64 p8) : L_md_0 F (fun (v0 v1 v2 v3 v4 v5 v6 v7 v8 v9 v10 v11 v12 v13 v14 v15 v16 v17 v18 v19 v20 v21 v22 v23 v24 v25 v26 v27 v28 v29 v30 v31 v32 v33 v34 v35 v36 v37 v38 : Int) => some (.v (.int .i64 v10))) F a0 a1 a2 a3 a4 a5 a6 a7 a8 0 0 p0 p1 p2 p3 p4 p5 p6 p7 p8 0 a0 a1 a2 a3 a4 a5 a6 a7 a8 p0 p1 p2 p3 p4 p5 p6 p7 p8 = (some (.v (.int .i64 (max (row3 p0 p1 p2 4294967296 0 0) (max (row3 p3 p4 p5 0 4294967296 0) (row3 p6 p7 p8 0 0 4294967296))))) : R) := by
  have w1 : IntKind.wrap .i64 (0 + 1) = 1 := by decide
  have w2 : IntKind.wrap .i64 (1 + 1) = 2 := by decide
  have w3 : IntKind.wrap .i64 (2 + 1) = 3 := by decide
  obtain ⟨s0_, ss0, ss1, ss2, ss3, ss4, ss5, ss6, ss7, ss8⟩ := a_mSame F hF
  have e00 : (iv [.v (.int .i64 p0), .v (.int .i64 p1), .v (.int .i64 p2), .v (.int .i64 p3), .v (.int .i64 p4), .v (.int .i64 p5), .v (.int .i64 p6), .v (.int .i64 p7), .v (.int .i64 p8)][Int.toNat 0 * 3]?) = p0 := rfl
  have e01 : (iv [.v (.int .i64 p0), .v (.int .i64 p1), .v (.int .i64 p2), .v (.int .i64 p3), .v (.int .i64 p4), .v (.int .i64 p5), .v (.int .i64 p6), .v (.int .i64 p7), .v (.int .i64 p8)][Int.toNat 0 * 3 + 1]?) = p1 := rfl
  have e02 : (iv [.v (.int .i64 p0), .v (.int .i64 p1), .v (.int .i64 p2), .v (.int .i64 p3), .v (.int .i64 p4), .v (.int .i64 p5), .v (.int .i64 p6), .v (.int .i64 p7), .v (.int .i64 p8)][Int.toNat 0 * 3 + 1 + 1]?) = p2 := rfl
  have e10 : (iv [.v (.int .i64 p0), .v (.int .i64 p1), .v (.int .i64 p2), .v (.int .i64 p3), .v (.int .i64 p4), .v (.int .i64 p5), .v (.int .i64 p6), .v (.int .i64 p7), .v (.int .i64 p8)][Int.toNat 1 * 3]?) = p3 := rfl
  have e11 : (iv [.v (.int .i64 p0), .v (.int .i64 p1), .v (.int .i64 p2), .v (.int .i64 p3), .v (.int .i64 p4), .v (.int .i64 p5), .v (.int .i64 p6), .v (.int .i64 p7), .v (.int .i64 p8)][Int.toNat 1 * 3 + 1]?) = p4 := rfl
  have e12 : (iv [.v (.int .i64 p0), .v (.int .i64 p1), .v (.int .i64 p2), .v (.int .i64 p3), .v (.int .i64 p4), .v (.int .i64 p5), .v (.int .i64 p6), .v (.int .i64 p7), .v (.int .i64 p8)][Int.toNat 1 * 3 + 1 + 1]?) = p5 := rfl
  have e20 : (iv [.v (.int .i64 p0), .v (.int .i64 p1), .v (.int .i64 p2), .v (.int .i64 p3), .v (.int .i64 p4), .v (.int .i64 p5), .v (.int .i64 p6), .v (.int .i64 p7), .v (.int .i64 p8)][Int.toNat 2 * 3]?) = p6 := rfl
  have e21 : (iv [.v (.int .i64 p0), .v (.int .i64 p1), .v (.int .i64 p2), .v (.int .i64 p3), .v (.int .i64 p4), .v (.int .i64 p5), .v (.int .i64 p6), .v (.int .i64 p7), .v (.int .i64 p8)][Int.toNat 2 * 3 + 1]?) = p7 := rfl
  have e22 : (iv [.v (.int .i64 p0), .v (.int .i64 p1), .v (.int .i64 p2), .v (.int .i64 p3), .v (.int .i64 p4), .v (.int .i64 p5), .v (.int .i64 p6), .v (.int .i64 p7), .v (.int .i64 p8)][Int.toNat 2 * 3 + 1 + 1]?) = p8 := rfl
  have g00 : (iv [.v (.int .i64 4294967296), .v (.int .i64 0), .v (.int .i64 0), .v (.int .i64 0), .v (.int .i64 4294967296), .v (.int .i64 0), .v (.int .i64 0), .v (.int .i64 0), .v (.int .i64 4294967296)][Int.toNat 0 * 3]?) = 4294967296 := rfl
  have g01 : (iv [.v (.int .i64 4294967296), .v (.int .i64 0), .v (.int .i64 0), .v (.int .i64 0), .v (.int .i64 4294967296), .v (.int .i64 0), .v (.int .i64 0), .v (.int .i64 0), .v (.int .i64 4294967296)][Int.toNat 0 * 3 + 1]?) = 0 := rfl
  have g02 : (iv [.v (.int .i64 4294967296), .v (.int .i64 0), .v (.int .i64 0), .v (.int .i64 0), .v (.int .i64 4294967296), .v (.int .i64 0), .v (.int .i64 0), .v (.int .i64 0), .v (.int .i64 4294967296)][Int.toNat 0 * 3 + 1 + 1]?) = 0 := rfl
  have g10 : (iv [.v (.int .i64 4294967296), .v (.int .i64 0), .v (.int .i64 0), .v (.int .i64 0), .v (.int .i64 4294967296), .v (.int .i64 0), .v (.int .i64 0), .v (.int .i64 0), .v (.int .i64 4294967296)][Int.toNat 1 * 3]?) = 0 := rfl
  have g11 : (iv [.v (.int .i64 4294967296), .v (.int .i64 0), .v (.int .i64 0), .v (.int .i64 0), .v (.int .i64 4294967296), .v (.int .i64 0), .v (.int .i64 0), .v (.int .i64 0), .v (.int .i64 4294967296)][Int.toNat 1 * 3 + 1]?) = 4294967296 := rfl
  have g12 : (iv [.v (.int .i64 4294967296), .v (.int .i64 0), .v (.int .i64 0), .v (.int .i64 0), .v (.int .i64 4294967296), .v (.int .i64 0), .v (.int .i64 0), .v (.int .i64 0), .v (.int .i64 4294967296)][Int.toNat 1 * 3 + 1 + 1]?) = 0 := rfl
  have g20 : (iv [.v (.int .i64 4294967296), .v (.int .i64 0), .v (.int .i64 0), .v (.int .i64 0), .v (.int .i64 4294967296), .v (.int .i64 0), .v (.int .i64 0), .v (.int .i64 0), .v (.int .i64 4294967296)][Int.toNat 2 * 3]?) = 0 := rfl
  have g21 : (iv [.v (.int .i64 4294967296), .v (.int .i64 0), .v (.int .i64 0), .v (.int .i64 0), .v (.int .i64 4294967296), .v (.int .i64 0), .v (.int .i64 0), .v (.int .i64 0), .v (.int .i64 4294967296)][Int.toNat 2 * 3 + 1]?) = 0 := rfl
  have g22 : (iv [.v (.int .i64 4294967296), .v (.int .i64 0), .v (.int .i64 0), .v (.int .i64 0), .v (.int .i64 4294967296), .v (.int .i64 0), .v (.int .i64 0), .v (.int .i64 0), .v (.int .i64 4294967296)][Int.toNat 2 * 3 + 1 + 1]?) = 4294967296 := rfl
  have j0 : I64 0 := by unfold I64; omega
  have jO : I64 4294967296 := by unfold I64; omega
  obtain ⟨x00, x01, x02, x03, _⟩ := a_Sub F hF i0 i1 i2 jO j0 j0
  obtain ⟨y00, y01⟩ := a_Greatest F hF (clipV_I (p0 - 4294967296)) (clipV_I (p1 - 0)) (clipV_I (p2 - 0))
  obtain ⟨x10, x11, x12, x13, _⟩ := a_Sub F hF i3 i4 i5 j0 jO j0
  obtain ⟨y10, y11⟩ := a_Greatest F hF (clipV_I (p3 - 0)) (clipV_I (p4 - 4294967296)) (clipV_I (p5 - 0))
  obtain ⟨x20, x21, x22, x23, _⟩ := a_Sub F hF i6 i7 i8 j0 j0 jO
  obtain ⟨y20, y21⟩ := a_Greatest F hF (clipV_I (p6 - 0)) (clipV_I (p7 - 0)) (clipV_I (p8 - 4294967296))
  obtain ⟨G, hG⟩ : ∃ G, F = G + 4 := ⟨F - 4, by omega⟩
  rw [show L_md_0 F _ F = L_md_0 F _ (G + 4) from congrArg (L_md_0 F _) hG]
  rw [L_md_0]
  unfold B_md_0 Bg_md_0
  refine bp rfl (bp rfl ?_)
  rw [e00, e01, e02]
  refine bp s0_ ?_
  rw [ss0, ss1, ss2, ss3, ss4, ss5, ss6, ss7, ss8]
  refine bp rfl ?_
  rw [g00, g01, g02]
  refine bp x00 ?_
  rw [x01, x02, x03]
  refine bp y00 ?_
  rw [y01, w1]
  rw [L_md_0]
  unfold B_md_0 Bg_md_0
  refine bp rfl (bp rfl ?_)
  rw [e10, e11, e12]
  refine bp s0_ ?_
  rw [ss0, ss1, ss2, ss3, ss4, ss5, ss6, ss7, ss8]
  refine bp rfl ?_
  rw [g10, g11, g12]
  refine bp x10 ?_
  rw [x11, x12, x13]
  refine bp y10 ?_
  rw [y11, w2]
  rw [L_md_0]
  unfold B_md_0 Bg_md_0
  refine bp rfl (bp rfl ?_)
  rw [e20, e21, e22]
  refine bp s0_ ?_
  rw [ss0, ss1, ss2, ss3, ss4, ss5, ss6, ss7, ss8]
  refine bp rfl ?_
  rw [g20, g21, g22]
  refine bp x20 ?_
  rw [x21, x22, x23]
  refine bp y20 ?_
  rw [y21, w3]
  rw [L_md_0]
  unfold B_md_0 Bg_md_0
  refine bn rfl (some_int ?_)
  have n0 := row3_nn p0 p1 p2 4294967296 0 0
  have n1 := row3_nn p3 p4 p5 0 4294967296 0
  have n2 := row3_nn p6 p7 p8 0 0 4294967296
  unfold row3 at *
  rw [mx, mx, mx]
  omega
theorem h_ref07_Off (F : Nat) (hF : 200 ≤ F) {a0 a1 a2 a3 a4 a5 a6 a7 a8 p0 p1 p2 p3 p4 p5 p6 p7 p8 : Int} (i0 : I64 p0) (i1 : I64 p1) (i2 : I64 p2) (i3 : I64 p3) (i4 : I64 p4) (i5 : I64 p5) (i6 : I64 p6) (i7 : I64 p7) (i8 : I64 p8) : L_dc_0 F (fun (v0 v1 v2 v3 v4 v5 v6 v7 v8 v9 v10 v11 v12 v13 v14 v15 v16 v17 v18 v19 v20 v21 v22 v23 v24 v25 v26 v27 v28 v29 : Int) => some (.v (.int .i64 v10))) F a0 a1 a2 a3 a4 a5 a6 a7 a8 0 0 0 a0 a1 a2 a3 a4 a5 a6 a7 a8 p0 p1 p2 p3 p4 p5 p6 p7 p8 = (some (.v (.int .i64 (max (row3 p0 p1 p2 4294967296 0 0) (max (row3 p3 p4 p5 0 4294967296 0) (row3 p6 p7 p8 0 0 4294967296))))) : R) := by
  have w1 : IntKind.wrap .i64 (0 + 1) = 1 := by decide
  have w2 : IntKind.wrap .i64 (1 + 1) = 2 := by decide
  have w3 : IntKind.wrap .i64 (2 + 1) = 3 := by decide
  obtain ⟨s0_, ss0, ss1, ss2, ss3, ss4, ss5, ss6, ss7, ss8⟩ := a_rSame F
  have e00 : (iv [.v (.int .i64 p0), .v (.int .i64 p1), .v (.int .i64 p2), .v (.int .i64 p3), .v (.int .i64 p4), .v (.int .i64 p5), .v (.int .i64 p6), .v (.int .i64 p7), .v (.int .i64 p8)][0 + Int.toNat 0 * 3]?) = p0 := rfl
  have e01 : (iv [.v (.int .i64 p0), .v (.int .i64 p1), .v (.int .i64 p2), .v (.int .i64 p3), .v (.int .i64 p4), .v (.int .i64 p5), .v (.int .i64 p6), .v (.int .i64 p7), .v (.int .i64 p8)][0 + Int.toNat 0 * 3 + 1]?) = p1 := rfl
  have e02 : (iv [.v (.int .i64 p0), .v (.int .i64 p1), .v (.int .i64 p2), .v (.int .i64 p3), .v (.int .i64 p4), .v (.int .i64 p5), .v (.int .i64 p6), .v (.int .i64 p7), .v (.int .i64 p8)][0 + Int.toNat 0 * 3 + 1 + 1]?) = p2 := rfl
  have e10 : (iv [.v (.int .i64 p0), .v (.int .i64 p1), .v (.int .i64 p2), .v (.int .i64 p3), .v (.int .i64 p4), .v (.int .i64 p5), .v (.int .i64 p6), .v (.int .i64 p7), .v (.int .i64 p8)][0 + Int.toNat 1 * 3]?) = p3 := rfl
  have e11 : (iv [.v (.int .i64 p0), .v (.int .i64 p1), .v (.int .i64 p2), .v (.int .i64 p3), .v (.int .i64 p4), .v (.int .i64 p5), .v (.int .i64 p6), .v (.int .i64 p7), .v (.int .i64 p8)][0 + Int.toNat 1 * 3 + 1]?) = p4 := rfl
  have e12 : (iv [.v (.int .i64 p0), .v (.int .i64 p1), .v (.int .i64 p2), .v (.int .i64 p3), .v (.int .i64 p4), .v (.int .i64 p5), .v (.int .i64 p6), .v (.int .i64 p7), .v (.int .i64 p8)][0 + Int.toNat 1 * 3 + 1 + 1]?) = p5 := rfl
  have e20 : (iv [.v (.int .i64 p0), .v (.int .i64 p1), .v (.int .i64 p2), .v (.int .i64 p3), .v (.int .i64 p4), .v (.int .i64 p5), .v (.int .i64 p6), .v (.int .i64 p7), .v (.int .i64 p8)][0 + Int.toNat 2 * 3]?) = p6 := rfl
  have e21 : (iv [.v (.int .i64 p0), .v (.int .i64 p1), .v (.int .i64 p2), .v (.int .i64 p3), .v (.int .i64 p4), .v (.int .i64 p5), .v (.int .i64 p6), .v (.int .i64 p7), .v (.int .i64 p8)][0 + Int.toNat 2 * 3 + 1]?) = p7 := rfl
  have e22 : (iv [.v (.int .i64 p0), .v (.int .i64 p1), .v (.int .i64 p2), .v (.int .i64 p3), .v (.int .i64 p4), .v (.int .i64 p5), .v (.int .i64 p6), .v (.int .i64 p7), .v (.int .i64 p8)][0 + Int.toNat 2 * 3 + 1 + 1]?) = p8 := rfl
  have g00 : (iv [.v (.int .i64 4294967296), .v (.int .i64 0), .v (.int .i64 0), .v (.int .i64 0), .v (.int .i64 4294967296), .v (.int .i64 0), .v (.int .i64 0), .v (.int .i64 0), .v (.int .i64 4294967296)][Int.toNat 0 * 3]?) = 4294967296 := rfl
  have g01 : (iv [.v (.int .i64 4294967296), .v (.int .i64 0), .v (.int .i64 0), .v (.int .i64 0), .v (.int .i64 4294967296), .v (.int .i64 0), .v (.int .i64 0), .v (.int .i64 0), .v (.int .i64 4294967296)][Int.toNat 0 * 3 + 1]?) = 0 := rfl
  have g02 : (iv [.v (.int .i64 4294967296), .v (.int .i64 0), .v (.int .i64 0), .v (.int .i64 0), .v (.int .i64 4294967296), .v (.int .i64 0), .v (.int .i64 0), .v (.int .i64 0), .v (.int .i64 4294967296)][Int.toNat 0 * 3 + 1 + 1]?) = 0 := rfl
  have g10 : (iv [.v (.int .i64 4294967296), .v (.int .i64 0), .v (.int .i64 0), .v (.int .i64 0), .v (.int .i64 4294967296), .v (.int .i64 0), .v (.int .i64 0), .v (.int .i64 0), .v (.int .i64 4294967296)][Int.toNat 1 * 3]?) = 0 := rfl
  have g11 : (iv [.v (.int .i64 4294967296), .v (.int .i64 0), .v (.int .i64 0), .v (.int .i64 0), .v (.int .i64 4294967296), .v (.int .i64 0), .v (.int .i64 0), .v (.int .i64 0), .v (.int .i64 4294967296)][Int.toNat 1 * 3 + 1]?) = 4294967296 := rfl
  have g12 : (iv [.v (.int .i64 4294967296), .v (.int .i64 0), .v (.int .i64 0), .v (.int .i64 0), .v (.int .i64 4294967296), .v (.int .i64 0), .v (.int .i64 0), .v (.int .i64 0), .v (.int .i64 4294967296)][Int.toNat 1 * 3 + 1 + 1]?) = 0 := rfl
  have g20 : (iv [.v (.int .i64 4294967296), .v (.int .i64 0), .v (.int .i64 0), .v (.int .i64 0), .v (.int .i64 4294967296), .v (.int .i64 0), .v (.int .i64 0), .v (.int .i64 0), .v (.int .i64 4294967296)][Int.toNat 2 * 3]?) = 0 := rfl
  have g21 : (iv [.v (.int .i64 4294967296), .v (.int .i64 0), .v (.int .i64 0), .v (.int .i64 0), .v (.int .i64 4294967296), .v (.int .i64 0), .v (.int .i64 0), .v (.int .i64 0), .v (.int .i64 4294967296)][Int.toNat 2 * 3 + 1]?) = 0 := rfl
  have g22 : (iv [.v (.int .i64 4294967296), .v (.int .i64 0), .v (.int .i64 0), .v (.int .i64 0), .v (.int .i64 4294967296), .v (.int .i64 0), .v (.int .i64 0), .v (.int .i64 0), .v (.int .i64 4294967296)][Int.toNat 2 * 3 + 1 + 1]?) = 4294967296 := rfl
  have j0 : I64 0 := by unfold I64; omega
  have jO : I64 4294967296 := by unfold I64; omega
  obtain ⟨x00, x01, x02, x03, _⟩ := a_rSub6 F hF i0 i1 i2 jO j0 j0
  obtain ⟨y00, y01⟩ := a_rGreatest F (clipV_I (p0 - 4294967296)) (clipV_I (p1 - 0)) (clipV_I (p2 - 0))
  obtain ⟨x10, x11, x12, x13, _⟩ := a_rSub6 F hF i3 i4 i5 j0 jO j0
  obtain ⟨y10, y11⟩ := a_rGreatest F (clipV_I (p3 - 0)) (clipV_I (p4 - 4294967296)) (clipV_I (p5 - 0))
  obtain ⟨x20, x21, x22, x23, _⟩ := a_rSub6 F hF i6 i7 i8 j0 j0 jO
  obtain ⟨y20, y21⟩ := a_rGreatest F (clipV_I (p6 - 0)) (clipV_I (p7 - 0)) (clipV_I (p8 - 4294967296))
  obtain ⟨G, hG⟩ : ∃ G, F = G + 4 := ⟨F - 4, by omega⟩
  rw [show L_dc_0 F _ F = L_dc_0 F _ (G + 4) from congrArg (L_dc_0 F _) hG]
  rw [L_dc_0]
  unfold B_dc_0 Bg_dc_0
  refine bp rfl (bp rfl (bp rfl ?_))
  rw [e00, e01, e02]
  refine bp s0_ ?_
  rw [ss0, ss1, ss2, ss3, ss4, ss5, ss6, ss7, ss8]
  refine bp rfl ?_
  rw [g00, g01, g02]
  refine bp x00 ?_
  rw [x01, x02, x03]
  refine bp y00 ?_
  rw [y01, w1]
  rw [L_dc_0]
  unfold B_dc_0 Bg_dc_0
  refine bp rfl (bp rfl (bp rfl ?_))
  rw [e10, e11, e12]
  refine bp s0_ ?_
  rw [ss0, ss1, ss2, ss3, ss4, ss5, ss6, ss7, ss8]
  refine bp rfl ?_
  rw [g10, g11, g12]
  refine bp x10 ?_
  rw [x11, x12, x13]
  refine bp y10 ?_
  rw [y11, w2]
  rw [L_dc_0]
  unfold B_dc_0 Bg_dc_0
  refine bp rfl (bp rfl (bp rfl ?_))
  rw [e20, e21, e22]
  refine bp s0_ ?_
  rw [ss0, ss1, ss2, ss3, ss4, ss5, ss6, ss7, ss8]
  refine bp rfl ?_
  rw [g20, g21, g22]
  refine bp x20 ?_
  rw [x21, x22, x23]
  refine bp y20 ?_
  rw [y21, w3]
  rw [L_dc_0]
  unfold B_dc_0 Bg_dc_0
  refine bn rfl (some_int ?_)
  have n0 := row3_nn p0 p1 p2 4294967296 0 0
  have n1 := row3_nn p3 p4 p5 0 4294967296 0
  have n2 := row3_nn p6 p7 p8 0 0 4294967296
  unfold row3 at *
  rw [mx, mx, mx]
  omega
theorem a_mat_Off (F : Nat) (hF : 200 ≤ F) {a0 a1 a2 a3 a4 a5 a6 a7 a8 : Int} (ha0 : I64 a0) (ha1 : I64 a1) (ha2 : I64 a2) (ha3 : I64 a3) (ha4 : I64 a4) (ha5 : I64 a5) (ha6 : I64 a6) (ha7 : I64 a7) (ha8 : I64 a8) : ok_md F a0 a1 a2 a3 a4 a5 a6 a7 a8 = true ∧ o_md_0 F a0 a1 a2 a3 a4 a5 a6 a7 a8 = off9 a0 a1 a2 a3 a4 a5 a6 a7 a8 := by
  refine k_md F _ _ _ _ _ _ _ _ _ ?_
  unfold f_md fg_md
  obtain ⟨b0_, bb0, bb1, bb2, bb3, bb4, bb5, bb6, bb7, bb8⟩ := a_mBack F hF a0 a1 a2 a3 a4 a5 a6 a7 a8
  obtain ⟨m0_, mm0, mm1, mm2, mm3, mm4, mm5, mm6, mm7, mm8, _⟩ := a_mMul F hF ha0 ha1 ha2 ha3 ha4 ha5 ha6 ha7 ha8 ha0 ha3 ha6 ha1 ha4 ha7 ha2 ha5 ha8
  refine bp b0_ ?_
  rw [bb0, bb1, bb2, bb3, bb4, bb5, bb6, bb7, bb8]
  refine bp m0_ ?_
  rw [mm0, mm1, mm2, mm3, mm4, mm5, mm6, mm7, mm8]
  have i0 : I64 (clipV (dotZ a0 a1 a2 a0 a1 a2)) := clipV_I _
  have i1 : I64 (clipV (dotZ a0 a1 a2 a3 a4 a5)) := clipV_I _
  have i2 : I64 (clipV (dotZ a0 a1 a2 a6 a7 a8)) := clipV_I _
  have i3 : I64 (clipV (dotZ a3 a4 a5 a0 a1 a2)) := clipV_I _
  have i4 : I64 (clipV (dotZ a3 a4 a5 a3 a4 a5)) := clipV_I _
  have i5 : I64 (clipV (dotZ a3 a4 a5 a6 a7 a8)) := clipV_I _
  have i6 : I64 (clipV (dotZ a6 a7 a8 a0 a1 a2)) := clipV_I _
  have i7 : I64 (clipV (dotZ a6 a7 a8 a3 a4 a5)) := clipV_I _
  have i8 : I64 (clipV (dotZ a6 a7 a8 a6 a7 a8)) := clipV_I _
  unfold off9
  exact h_mat_Off F hF (clipV_I _) (clipV_I _) (clipV_I _) (clipV_I _) (clipV_I _) (clipV_I _) (clipV_I _) (clipV_I _) (clipV_I _)
theorem a_ref07_Off (F : Nat) (hF : 200 ≤ F) {a0 a1 a2 a3 a4 a5 a6 a7 a8 : Int} (ha0 : I64 a0) (ha1 : I64 a1) (ha2 : I64 a2) (ha3 : I64 a3) (ha4 : I64 a4) (ha5 : I64 a5) (ha6 : I64 a6) (ha7 : I64 a7) (ha8 : I64 a8) : ok_dc F a0 a1 a2 a3 a4 a5 a6 a7 a8 = true ∧ o_dc_0 F a0 a1 a2 a3 a4 a5 a6 a7 a8 = off9 a0 a1 a2 a3 a4 a5 a6 a7 a8 := by
  refine k_dc F _ _ _ _ _ _ _ _ _ ?_
  unfold f_dc fg_dc
  obtain ⟨b0_, bb0, bb1, bb2, bb3, bb4, bb5, bb6, bb7, bb8⟩ := a_rBack F a0 a1 a2 a3 a4 a5 a6 a7 a8
  obtain ⟨m0_, mm0, mm1, mm2, mm3, mm4, mm5, mm6, mm7, mm8, _⟩ := a_rMul7 F hF ha0 ha1 ha2 ha3 ha4 ha5 ha6 ha7 ha8 ha0 ha3 ha6 ha1 ha4 ha7 ha2 ha5 ha8
  refine bp b0_ ?_
  rw [bb0, bb1, bb2, bb3, bb4, bb5, bb6, bb7, bb8]
  refine bp m0_ ?_
  rw [mm0, mm1, mm2, mm3, mm4, mm5, mm6, mm7, mm8]
  have i0 : I64 (clipV (dotZ a0 a1 a2 a0 a1 a2)) := clipV_I _
  have i1 : I64 (clipV (dotZ a0 a1 a2 a3 a4 a5)) := clipV_I _
  have i2 : I64 (clipV (dotZ a0 a1 a2 a6 a7 a8)) := clipV_I _
  have i3 : I64 (clipV (dotZ a3 a4 a5 a0 a1 a2)) := clipV_I _
  have i4 : I64 (clipV (dotZ a3 a4 a5 a3 a4 a5)) := clipV_I _
  have i5 : I64 (clipV (dotZ a3 a4 a5 a6 a7 a8)) := clipV_I _
  have i6 : I64 (clipV (dotZ a6 a7 a8 a0 a1 a2)) := clipV_I _
  have i7 : I64 (clipV (dotZ a6 a7 a8 a3 a4 a5)) := clipV_I _
  have i8 : I64 (clipV (dotZ a6 a7 a8 a6 a7 a8)) := clipV_I _
  unfold off9
  exact h_ref07_Off F hF (clipV_I _) (clipV_I _) (clipV_I _) (clipV_I _) (clipV_I _) (clipV_I _) (clipV_I _) (clipV_I _) (clipV_I _)
noncomputable def oD (a0 a1 a2 a3 a4 a5 a6 a7 a8 : Int) : Int := clipV (dotZ a3 a4 a5 (unV a0 a0 a1 a2) (unV a1 a0 a1 a2) (unV a2 a0 a1 a2))
noncomputable def oR0 (a0 a1 a2 a3 a4 a5 a6 a7 a8 : Int) : Int := clipV (a3 - clipV (pr (unV a0 a0 a1 a2) (oD a0 a1 a2 a3 a4 a5 a6 a7 a8)))
noncomputable def oR1 (a0 a1 a2 a3 a4 a5 a6 a7 a8 : Int) : Int := clipV (a4 - clipV (pr (unV a1 a0 a1 a2) (oD a0 a1 a2 a3 a4 a5 a6 a7 a8)))
noncomputable def oR2 (a0 a1 a2 a3 a4 a5 a6 a7 a8 : Int) : Int := clipV (a5 - clipV (pr (unV a2 a0 a1 a2) (oD a0 a1 a2 a3 a4 a5 a6 a7 a8)))
noncomputable def oY0 (a0 a1 a2 a3 a4 a5 a6 a7 a8 : Int) : Int := unV (oR0 a0 a1 a2 a3 a4 a5 a6 a7 a8) (oR0 a0 a1 a2 a3 a4 a5 a6 a7 a8) (oR1 a0 a1 a2 a3 a4 a5 a6 a7 a8) (oR2 a0 a1 a2 a3 a4 a5 a6 a7 a8)
noncomputable def oY1 (a0 a1 a2 a3 a4 a5 a6 a7 a8 : Int) : Int := unV (oR1 a0 a1 a2 a3 a4 a5 a6 a7 a8) (oR0 a0 a1 a2 a3 a4 a5 a6 a7 a8) (oR1 a0 a1 a2 a3 a4 a5 a6 a7 a8) (oR2 a0 a1 a2 a3 a4 a5 a6 a7 a8)
noncomputable def oY2 (a0 a1 a2 a3 a4 a5 a6 a7 a8 : Int) : Int := unV (oR2 a0 a1 a2 a3 a4 a5 a6 a7 a8) (oR0 a0 a1 a2 a3 a4 a5 a6 a7 a8) (oR1 a0 a1 a2 a3 a4 a5 a6 a7 a8) (oR2 a0 a1 a2 a3 a4 a5 a6 a7 a8)
noncomputable def oZ0 (a0 a1 a2 a3 a4 a5 a6 a7 a8 : Int) : Int := clipV (arZ (unV a1 a0 a1 a2) (oY2 a0 a1 a2 a3 a4 a5 a6 a7 a8) (unV a2 a0 a1 a2) (oY1 a0 a1 a2 a3 a4 a5 a6 a7 a8))
noncomputable def oZ1 (a0 a1 a2 a3 a4 a5 a6 a7 a8 : Int) : Int := clipV (arZ (unV a2 a0 a1 a2) (oY0 a0 a1 a2 a3 a4 a5 a6 a7 a8) (unV a0 a0 a1 a2) (oY2 a0 a1 a2 a3 a4 a5 a6 a7 a8))
noncomputable def oZ2 (a0 a1 a2 a3 a4 a5 a6 a7 a8 : Int) : Int := clipV (arZ (unV a0 a0 a1 a2) (oY1 a0 a1 a2 a3 a4 a5 a6 a7 a8) (unV a1 a0 a1 a2) (oY0 a0 a1 a2 a3 a4 a5 a6 a7 a8))
noncomputable def ortC (a0 a1 a2 a3 a4 a5 a6 a7 a8 : Int) : Bool := unitOK a0 a1 a2 && (unitOK (oR0 a0 a1 a2 a3 a4 a5 a6 a7 a8) (oR1 a0 a1 a2 a3 a4 a5 a6 a7 a8) (oR2 a0 a1 a2 a3 a4 a5 a6 a7 a8) && (!clipC (dotZ a3 a4 a5 (unV a0 a0 a1 a2) (unV a1 a0 a1 a2) (unV a2 a0 a1 a2)) && (!(clipC (pr (unV a0 a0 a1 a2) (oD a0 a1 a2 a3 a4 a5 a6 a7 a8)) || clipC (pr (unV a1 a0 a1 a2) (oD a0 a1 a2 a3 a4 a5 a6 a7 a8)) || clipC (pr (unV a2 a0 a1 a2) (oD a0 a1 a2 a3 a4 a5 a6 a7 a8))) && (!(clipC (a3 - clipV (pr (unV a0 a0 a1 a2) (oD a0 a1 a2 a3 a4 a5 a6 a7 a8))) || clipC (a4 - clipV (pr (unV a1 a0 a1 a2) (oD a0 a1 a2 a3 a4 a5 a6 a7 a8))) || clipC (a5 - clipV (pr (unV a2 a0 a1 a2) (oD a0 a1 a2 a3 a4 a5 a6 a7 a8)))) && !(clipC (arZ (unV a1 a0 a1 a2) (oY2 a0 a1 a2 a3 a4 a5 a6 a7 a8) (unV a2 a0 a1 a2) (oY1 a0 a1 a2 a3 a4 a5 a6 a7 a8)) || clipC (arZ (unV a2 a0 a1 a2) (oY0 a0 a1 a2 a3 a4 a5 a6 a7 a8) (unV a0 a0 a1 a2) (oY2 a0 a1 a2 a3 a4 a5 a6 a7 a8)) || clipC (arZ (unV a0 a0 a1 a2) (oY1 a0 a1 a2 a3 a4 a5 a6 a7 a8) (unV a1 a0 a1 a2) (oY0 a0 a1 a2 a3 a4 a5 a6 a7 a8)))))))
noncomputable def ort0 (a0 a1 a2 a3 a4 a5 a6 a7 a8 : Int) : Int := if ortC a0 a1 a2 a3 a4 a5 a6 a7 a8 = true then (unV a0 a0 a1 a2) else 4294967296
noncomputable def ort1 (a0 a1 a2 a3 a4 a5 a6 a7 a8 : Int) : Int := if ortC a0 a1 a2 a3 a4 a5 a6 a7 a8 = true then (unV a1 a0 a1 a2) else 0
noncomputable def ort2 (a0 a1 a2 a3 a4 a5 a6 a7 a8 : Int) : Int := if ortC a0 a1 a2 a3 a4 a5 a6 a7 a8 = true then (unV a2 a0 a1 a2) else 0
noncomputable def ort3 (a0 a1 a2 a3 a4 a5 a6 a7 a8 : Int) : Int := if ortC a0 a1 a2 a3 a4 a5 a6 a7 a8 = true then (oY0 a0 a1 a2 a3 a4 a5 a6 a7 a8) else 0
noncomputable def ort4 (a0 a1 a2 a3 a4 a5 a6 a7 a8 : Int) : Int := if ortC a0 a1 a2 a3 a4 a5 a6 a7 a8 = true then (oY1 a0 a1 a2 a3 a4 a5 a6 a7 a8) else 4294967296
noncomputable def ort5 (a0 a1 a2 a3 a4 a5 a6 a7 a8 : Int) : Int := if ortC a0 a1 a2 a3 a4 a5 a6 a7 a8 = true then (oY2 a0 a1 a2 a3 a4 a5 a6 a7 a8) else 0
noncomputable def ort6 (a0 a1 a2 a3 a4 a5 a6 a7 a8 : Int) : Int := if ortC a0 a1 a2 a3 a4 a5 a6 a7 a8 = true then (oZ0 a0 a1 a2 a3 a4 a5 a6 a7 a8) else 0
noncomputable def ort7 (a0 a1 a2 a3 a4 a5 a6 a7 a8 : Int) : Int := if ortC a0 a1 a2 a3 a4 a5 a6 a7 a8 = true then (oZ1 a0 a1 a2 a3 a4 a5 a6 a7 a8) else 0
noncomputable def ort8 (a0 a1 a2 a3 a4 a5 a6 a7 a8 : Int) : Int := if ortC a0 a1 a2 a3 a4 a5 a6 a7 a8 = true then (oZ2 a0 a1 a2 a3 a4 a5 a6 a7 a8) else 4294967296
theorem fdivV_I (a b : Int) : I64 (fdivV a b) := by
  unfold fdivV
  split
  · unfold I64; split <;> (try split) <;> omega
  · exact clipV_I _
theorem unV_I (k a b c : Int) : I64 (unV k a b c) := by
  unfold unV
  split
  · exact fdivV_I _ _
  · unfold I64; omega
theorem some_mat {x0 x1 x2 x3 x4 x5 x6 x7 x8 y0 y1 y2 y3 y4 y5 y6 y7 y8 : Int} {c d : Bool} (h0 : x0 = y0) (h1 : x1 = y1) (h2 : x2 = y2) (h3 : x3 = y3) (h4 : x4 = y4) (h5 : x5 = y5) (h6 : x6 = y6) (h7 : x7 = y7) (h8 : x8 = y8) (h : c = d) : (some (VV.v (.tuple #[.agg #[.int .i64 x0, .int .i64 x1, .int .i64 x2, .int .i64 x3, .int .i64 x4, .int .i64 x5, .int .i64 x6, .int .i64 x7, .int .i64 x8], .bool c])) : R) = some (.v (.tuple #[.agg #[.int .i64 y0, .int .i64 y1, .int .i64 y2, .int .i64 y3, .int .i64 y4, .int .i64 y5, .int .i64 y6, .int .i64 y7, .int .i64 y8], .bool d])) := by
  rw [h0, h1, h2, h3, h4, h5, h6, h7, h8, h]
theorem ort_no {a0 a1 a2 a3 a4 a5 a6 a7 a8 : Int} (h : ortC a0 a1 a2 a3 a4 a5 a6 a7 a8 = false) : (some (VV.v (.tuple #[.agg #[.int .i64 4294967296, .int .i64 0, .int .i64 0, .int .i64 0, .int .i64 4294967296, .int .i64 0, .int .i64 0, .int .i64 0, .int .i64 4294967296], .bool false])) : R) = some (.v (.tuple #[.agg #[.int .i64 (ort0 a0 a1 a2 a3 a4 a5 a6 a7 a8), .int .i64 (ort1 a0 a1 a2 a3 a4 a5 a6 a7 a8), .int .i64 (ort2 a0 a1 a2 a3 a4 a5 a6 a7 a8), .int .i64 (ort3 a0 a1 a2 a3 a4 a5 a6 a7 a8), .int .i64 (ort4 a0 a1 a2 a3 a4 a5 a6 a7 a8), .int .i64 (ort5 a0 a1 a2 a3 a4 a5 a6 a7 a8), .int .i64 (ort6 a0 a1 a2 a3 a4 a5 a6 a7 a8), .int .i64 (ort7 a0 a1 a2 a3 a4 a5 a6 a7 a8), .int .i64 (ort8 a0 a1 a2 a3 a4 a5 a6 a7 a8)], .bool (ortC a0 a1 a2 a3 a4 a5 a6 a7 a8)])) := by
  refine some_mat ?_ ?_ ?_ ?_ ?_ ?_ ?_ ?_ ?_ h.symm
  · unfold ort0; rw [h]; rfl
  · unfold ort1; rw [h]; rfl
  · unfold ort2; rw [h]; rfl
  · unfold ort3; rw [h]; rfl
  · unfold ort4; rw [h]; rfl
  · unfold ort5; rw [h]; rfl
  · unfold ort6; rw [h]; rfl
  · unfold ort7; rw [h]; rfl
  · unfold ort8; rw [h]; rfl
theorem ort_yes {a0 a1 a2 a3 a4 a5 a6 a7 a8 : Int} (h : ortC a0 a1 a2 a3 a4 a5 a6 a7 a8 = true) : (some (VV.v (.tuple #[.agg #[.int .i64 (unV a0 a0 a1 a2), .int .i64 (unV a1 a0 a1 a2), .int .i64 (unV a2 a0 a1 a2), .int .i64 (oY0 a0 a1 a2 a3 a4 a5 a6 a7 a8), .int .i64 (oY1 a0 a1 a2 a3 a4 a5 a6 a7 a8), .int .i64 (oY2 a0 a1 a2 a3 a4 a5 a6 a7 a8), .int .i64 (oZ0 a0 a1 a2 a3 a4 a5 a6 a7 a8), .int .i64 (oZ1 a0 a1 a2 a3 a4 a5 a6 a7 a8), .int .i64 (oZ2 a0 a1 a2 a3 a4 a5 a6 a7 a8)], .bool true])) : R) = some (.v (.tuple #[.agg #[.int .i64 (ort0 a0 a1 a2 a3 a4 a5 a6 a7 a8), .int .i64 (ort1 a0 a1 a2 a3 a4 a5 a6 a7 a8), .int .i64 (ort2 a0 a1 a2 a3 a4 a5 a6 a7 a8), .int .i64 (ort3 a0 a1 a2 a3 a4 a5 a6 a7 a8), .int .i64 (ort4 a0 a1 a2 a3 a4 a5 a6 a7 a8), .int .i64 (ort5 a0 a1 a2 a3 a4 a5 a6 a7 a8), .int .i64 (ort6 a0 a1 a2 a3 a4 a5 a6 a7 a8), .int .i64 (ort7 a0 a1 a2 a3 a4 a5 a6 a7 a8), .int .i64 (ort8 a0 a1 a2 a3 a4 a5 a6 a7 a8)], .bool (ortC a0 a1 a2 a3 a4 a5 a6 a7 a8)])) := by
  refine some_mat ?_ ?_ ?_ ?_ ?_ ?_ ?_ ?_ ?_ h.symm
  · unfold ort0; rw [if_pos h]
  · unfold ort1; rw [if_pos h]
  · unfold ort2; rw [if_pos h]
  · unfold ort3; rw [if_pos h]
  · unfold ort4; rw [if_pos h]
  · unfold ort5; rw [if_pos h]
  · unfold ort6; rw [if_pos h]
  · unfold ort7; rw [if_pos h]
  · unfold ort8; rw [if_pos h]
theorem f_mat_Ortho' (F : Nat) (hF : 200 ≤ F) {a0 a1 a2 a3 a4 a5 a6 a7 a8 : Int} (ha0 : I64 a0) (ha1 : I64 a1) (ha2 : I64 a2) (ha3 : I64 a3) (ha4 : I64 a4) (ha5 : I64 a5) (ha6 : I64 a6) (ha7 : I64 a7) (ha8 : I64 a8) : f_sb F a0 a1 a2 a3 a4 a5 a6 a7 a8 = some (.v (.tuple #[.agg #[.int .i64 (ort0 a0 a1 a2 a3 a4 a5 a6 a7 a8), .int .i64 (ort1 a0 a1 a2 a3 a4 a5 a6 a7 a8), .int .i64 (ort2 a0 a1 a2 a3 a4 a5 a6 a7 a8), .int .i64 (ort3 a0 a1 a2 a3 a4 a5 a6 a7 a8), .int .i64 (ort4 a0 a1 a2 a3 a4 a5 a6 a7 a8), .int .i64 (ort5 a0 a1 a2 a3 a4 a5 a6 a7 a8), .int .i64 (ort6 a0 a1 a2 a3 a4 a5 a6 a7 a8), .int .i64 (ort7 a0 a1 a2 a3 a4 a5 a6 a7 a8), .int .i64 (ort8 a0 a1 a2 a3 a4 a5 a6 a7 a8)], .bool (ortC a0 a1 a2 a3 a4 a5 a6 a7 a8)])) := by
  unfold f_sb fg_sb
  obtain ⟨u0, u1, u2, u3, u4⟩ := a_vUnit F hF ha0 ha1 ha2
  obtain ⟨s0_, ss0, ss1, ss2, ss3, ss4, ss5, ss6, ss7, ss8⟩ := a_mSame F hF
  have no := fun h => ort_no (a0 := a0) (a1 := a1) (a2 := a2) (a3 := a3) (a4 := a4) (a5 := a5) (a6 := a6) (a7 := a7) (a8 := a8) h
  have yes := fun h => ort_yes (a0 := a0) (a1 := a1) (a2 := a2) (a3 := a3) (a4 := a4) (a5 := a5) (a6 := a6) (a7 := a7) (a8 := a8) h
  have dx0 := unV_I a0 a0 a1 a2
  have dx1 := unV_I a1 a0 a1 a2
  have dx2 := unV_I a2 a0 a1 a2
  obtain ⟨d0, d1, d2⟩ := a_Dot F hF ha3 ha4 ha5 dx0 dx1 dx2
  obtain ⟨c0, c1, c2, c3, c4⟩ := a_Scale F hF dx0 dx1 dx2 (clipV_I (dotZ a3 a4 a5 (unV a0 a0 a1 a2) (unV a1 a0 a1 a2) (unV a2 a0 a1 a2)))
  obtain ⟨b0, b1, b2, b3, b4⟩ := a_Sub F hF ha3 ha4 ha5 (clipV_I (pr (unV a0 a0 a1 a2) (clipV (dotZ a3 a4 a5 (unV a0 a0 a1 a2) (unV a1 a0 a1 a2) (unV a2 a0 a1 a2))))) (clipV_I (pr (unV a1 a0 a1 a2) (clipV (dotZ a3 a4 a5 (unV a0 a0 a1 a2) (unV a1 a0 a1 a2) (unV a2 a0 a1 a2))))) (clipV_I (pr (unV a2 a0 a1 a2) (clipV (dotZ a3 a4 a5 (unV a0 a0 a1 a2) (unV a1 a0 a1 a2) (unV a2 a0 a1 a2)))))
  obtain ⟨v0, v1, v2, v3, v4⟩ := a_vUnit F hF (clipV_I (a3 - clipV (pr (unV a0 a0 a1 a2) (clipV (dotZ a3 a4 a5 (unV a0 a0 a1 a2) (unV a1 a0 a1 a2) (unV a2 a0 a1 a2)))))) (clipV_I (a4 - clipV (pr (unV a1 a0 a1 a2) (clipV (dotZ a3 a4 a5 (unV a0 a0 a1 a2) (unV a1 a0 a1 a2) (unV a2 a0 a1 a2)))))) (clipV_I (a5 - clipV (pr (unV a2 a0 a1 a2) (clipV (dotZ a3 a4 a5 (unV a0 a0 a1 a2) (unV a1 a0 a1 a2) (unV a2 a0 a1 a2))))))
  obtain ⟨k0, k1, k2, k3, k4⟩ := a_Cross F hF dx0 dx1 dx2 (unV_I (clipV (a3 - clipV (pr (unV a0 a0 a1 a2) (clipV (dotZ a3 a4 a5 (unV a0 a0 a1 a2) (unV a1 a0 a1 a2) (unV a2 a0 a1 a2)))))) (clipV (a3 - clipV (pr (unV a0 a0 a1 a2) (clipV (dotZ a3 a4 a5 (unV a0 a0 a1 a2) (unV a1 a0 a1 a2) (unV a2 a0 a1 a2)))))) (clipV (a4 - clipV (pr (unV a1 a0 a1 a2) (clipV (dotZ a3 a4 a5 (unV a0 a0 a1 a2) (unV a1 a0 a1 a2) (unV a2 a0 a1 a2)))))) (clipV (a5 - clipV (pr (unV a2 a0 a1 a2) (clipV (dotZ a3 a4 a5 (unV a0 a0 a1 a2) (unV a1 a0 a1 a2) (unV a2 a0 a1 a2))))))) (unV_I (clipV (a4 - clipV (pr (unV a1 a0 a1 a2) (clipV (dotZ a3 a4 a5 (unV a0 a0 a1 a2) (unV a1 a0 a1 a2) (unV a2 a0 a1 a2)))))) (clipV (a3 - clipV (pr (unV a0 a0 a1 a2) (clipV (dotZ a3 a4 a5 (unV a0 a0 a1 a2) (unV a1 a0 a1 a2) (unV a2 a0 a1 a2)))))) (clipV (a4 - clipV (pr (unV a1 a0 a1 a2) (clipV (dotZ a3 a4 a5 (unV a0 a0 a1 a2) (unV a1 a0 a1 a2) (unV a2 a0 a1 a2)))))) (clipV (a5 - clipV (pr (unV a2 a0 a1 a2) (clipV (dotZ a3 a4 a5 (unV a0 a0 a1 a2) (unV a1 a0 a1 a2) (unV a2 a0 a1 a2))))))) (unV_I (clipV (a5 - clipV (pr (unV a2 a0 a1 a2) (clipV (dotZ a3 a4 a5 (unV a0 a0 a1 a2) (unV a1 a0 a1 a2) (unV a2 a0 a1 a2)))))) (clipV (a3 - clipV (pr (unV a0 a0 a1 a2) (clipV (dotZ a3 a4 a5 (unV a0 a0 a1 a2) (unV a1 a0 a1 a2) (unV a2 a0 a1 a2)))))) (clipV (a4 - clipV (pr (unV a1 a0 a1 a2) (clipV (dotZ a3 a4 a5 (unV a0 a0 a1 a2) (unV a1 a0 a1 a2) (unV a2 a0 a1 a2)))))) (clipV (a5 - clipV (pr (unV a2 a0 a1 a2) (clipV (dotZ a3 a4 a5 (unV a0 a0 a1 a2) (unV a1 a0 a1 a2) (unV a2 a0 a1 a2)))))))
  refine bp u0 ?_
  rw [u1, u2, u3, u4]
  cases q0 : unitOK a0 a1 a2 with
  | false => exact bp rfl (bp s0_ (by rw [ss0, ss1, ss2, ss3, ss4, ss5, ss6, ss7, ss8]; exact no (by unfold ortC; rw [q0]; rfl)))
  | true =>
    refine bn rfl (bp d0 ?_)
    rw [d1, d2]
    refine bp c0 ?_
    rw [c1, c2, c3, c4]
    refine bp b0 ?_
    rw [b1, b2, b3, b4]
    refine bp v0 ?_
    rw [v1, v2, v3, v4]
    have eo : ortC a0 a1 a2 a3 a4 a5 a6 a7 a8 = (true && ((unitOK (clipV (a3 - clipV (pr (unV a0 a0 a1 a2) (clipV (dotZ a3 a4 a5 (unV a0 a0 a1 a2) (unV a1 a0 a1 a2) (unV a2 a0 a1 a2)))))) (clipV (a4 - clipV (pr (unV a1 a0 a1 a2) (clipV (dotZ a3 a4 a5 (unV a0 a0 a1 a2) (unV a1 a0 a1 a2) (unV a2 a0 a1 a2)))))) (clipV (a5 - clipV (pr (unV a2 a0 a1 a2) (clipV (dotZ a3 a4 a5 (unV a0 a0 a1 a2) (unV a1 a0 a1 a2) (unV a2 a0 a1 a2))))))) && (!clipC (dotZ a3 a4 a5 (unV a0 a0 a1 a2) (unV a1 a0 a1 a2) (unV a2 a0 a1 a2)) && (!(clipC (pr (unV a0 a0 a1 a2) (clipV (dotZ a3 a4 a5 (unV a0 a0 a1 a2) (unV a1 a0 a1 a2) (unV a2 a0 a1 a2)))) || clipC (pr (unV a1 a0 a1 a2) (clipV (dotZ a3 a4 a5 (unV a0 a0 a1 a2) (unV a1 a0 a1 a2) (unV a2 a0 a1 a2)))) || clipC (pr (unV a2 a0 a1 a2) (clipV (dotZ a3 a4 a5 (unV a0 a0 a1 a2) (unV a1 a0 a1 a2) (unV a2 a0 a1 a2))))) && (!(clipC (a3 - clipV (pr (unV a0 a0 a1 a2) (clipV (dotZ a3 a4 a5 (unV a0 a0 a1 a2) (unV a1 a0 a1 a2) (unV a2 a0 a1 a2))))) || clipC (a4 - clipV (pr (unV a1 a0 a1 a2) (clipV (dotZ a3 a4 a5 (unV a0 a0 a1 a2) (unV a1 a0 a1 a2) (unV a2 a0 a1 a2))))) || clipC (a5 - clipV (pr (unV a2 a0 a1 a2) (clipV (dotZ a3 a4 a5 (unV a0 a0 a1 a2) (unV a1 a0 a1 a2) (unV a2 a0 a1 a2)))))) && !(clipC (arZ (unV a1 a0 a1 a2) (unV (clipV (a5 - clipV (pr (unV a2 a0 a1 a2) (clipV (dotZ a3 a4 a5 (unV a0 a0 a1 a2) (unV a1 a0 a1 a2) (unV a2 a0 a1 a2)))))) (clipV (a3 - clipV (pr (unV a0 a0 a1 a2) (clipV (dotZ a3 a4 a5 (unV a0 a0 a1 a2) (unV a1 a0 a1 a2) (unV a2 a0 a1 a2)))))) (clipV (a4 - clipV (pr (unV a1 a0 a1 a2) (clipV (dotZ a3 a4 a5 (unV a0 a0 a1 a2) (unV a1 a0 a1 a2) (unV a2 a0 a1 a2)))))) (clipV (a5 - clipV (pr (unV a2 a0 a1 a2) (clipV (dotZ a3 a4 a5 (unV a0 a0 a1 a2) (unV a1 a0 a1 a2) (unV a2 a0 a1 a2))))))) (unV a2 a0 a1 a2) (unV (clipV (a4 - clipV (pr (unV a1 a0 a1 a2) (clipV (dotZ a3 a4 a5 (unV a0 a0 a1 a2) (unV a1 a0 a1 a2) (unV a2 a0 a1 a2)))))) (clipV (a3 - clipV (pr (unV a0 a0 a1 a2) (clipV (dotZ a3 a4 a5 (unV a0 a0 a1 a2) (unV a1 a0 a1 a2) (unV a2 a0 a1 a2)))))) (clipV (a4 - clipV (pr (unV a1 a0 a1 a2) (clipV (dotZ a3 a4 a5 (unV a0 a0 a1 a2) (unV a1 a0 a1 a2) (unV a2 a0 a1 a2)))))) (clipV (a5 - clipV (pr (unV a2 a0 a1 a2) (clipV (dotZ a3 a4 a5 (unV a0 a0 a1 a2) (unV a1 a0 a1 a2) (unV a2 a0 a1 a2)))))))) || clipC (arZ (unV a2 a0 a1 a2) (unV (clipV (a3 - clipV (pr (unV a0 a0 a1 a2) (clipV (dotZ a3 a4 a5 (unV a0 a0 a1 a2) (unV a1 a0 a1 a2) (unV a2 a0 a1 a2)))))) (clipV (a3 - clipV (pr (unV a0 a0 a1 a2) (clipV (dotZ a3 a4 a5 (unV a0 a0 a1 a2) (unV a1 a0 a1 a2) (unV a2 a0 a1 a2)))))) (clipV (a4 - clipV (pr (unV a1 a0 a1 a2) (clipV (dotZ a3 a4 a5 (unV a0 a0 a1 a2) (unV a1 a0 a1 a2) (unV a2 a0 a1 a2)))))) (clipV (a5 - clipV (pr (unV a2 a0 a1 a2) (clipV (dotZ a3 a4 a5 (unV a0 a0 a1 a2) (unV a1 a0 a1 a2) (unV a2 a0 a1 a2))))))) (unV a0 a0 a1 a2) (unV (clipV (a5 - clipV (pr (unV a2 a0 a1 a2) (clipV (dotZ a3 a4 a5 (unV a0 a0 a1 a2) (unV a1 a0 a1 a2) (unV a2 a0 a1 a2)))))) (clipV (a3 - clipV (pr (unV a0 a0 a1 a2) (clipV (dotZ a3 a4 a5 (unV a0 a0 a1 a2) (unV a1 a0 a1 a2) (unV a2 a0 a1 a2)))))) (clipV (a4 - clipV (pr (unV a1 a0 a1 a2) (clipV (dotZ a3 a4 a5 (unV a0 a0 a1 a2) (unV a1 a0 a1 a2) (unV a2 a0 a1 a2)))))) (clipV (a5 - clipV (pr (unV a2 a0 a1 a2) (clipV (dotZ a3 a4 a5 (unV a0 a0 a1 a2) (unV a1 a0 a1 a2) (unV a2 a0 a1 a2)))))))) || clipC (arZ (unV a0 a0 a1 a2) (unV (clipV (a4 - clipV (pr (unV a1 a0 a1 a2) (clipV (dotZ a3 a4 a5 (unV a0 a0 a1 a2) (unV a1 a0 a1 a2) (unV a2 a0 a1 a2)))))) (clipV (a3 - clipV (pr (unV a0 a0 a1 a2) (clipV (dotZ a3 a4 a5 (unV a0 a0 a1 a2) (unV a1 a0 a1 a2) (unV a2 a0 a1 a2)))))) (clipV (a4 - clipV (pr (unV a1 a0 a1 a2) (clipV (dotZ a3 a4 a5 (unV a0 a0 a1 a2) (unV a1 a0 a1 a2) (unV a2 a0 a1 a2)))))) (clipV (a5 - clipV (pr (unV a2 a0 a1 a2) (clipV (dotZ a3 a4 a5 (unV a0 a0 a1 a2) (unV a1 a0 a1 a2) (unV a2 a0 a1 a2))))))) (unV a1 a0 a1 a2) (unV (clipV (a3 - clipV (pr (unV a0 a0 a1 a2) (clipV (dotZ a3 a4 a5 (unV a0 a0 a1 a2) (unV a1 a0 a1 a2) (unV a2 a0 a1 a2)))))) (clipV (a3 - clipV (pr (unV a0 a0 a1 a2) (clipV (dotZ a3 a4 a5 (unV a0 a0 a1 a2) (unV a1 a0 a1 a2) (unV a2 a0 a1 a2)))))) (clipV (a4 - clipV (pr (unV a1 a0 a1 a2) (clipV (dotZ a3 a4 a5 (unV a0 a0 a1 a2) (unV a1 a0 a1 a2) (unV a2 a0 a1 a2)))))) (clipV (a5 - clipV (pr (unV a2 a0 a1 a2) (clipV (dotZ a3 a4 a5 (unV a0 a0 a1 a2) (unV a1 a0 a1 a2) (unV a2 a0 a1 a2)))))))))))))) := by rw [← q0]; rfl
    refine bp k0 ?_
    rw [k1, k2, k3, k4]
    cases q1 : (unitOK (clipV (a3 - clipV (pr (unV a0 a0 a1 a2) (clipV (dotZ a3 a4 a5 (unV a0 a0 a1 a2) (unV a1 a0 a1 a2) (unV a2 a0 a1 a2)))))) (clipV (a4 - clipV (pr (unV a1 a0 a1 a2) (clipV (dotZ a3 a4 a5 (unV a0 a0 a1 a2) (unV a1 a0 a1 a2) (unV a2 a0 a1 a2)))))) (clipV (a5 - clipV (pr (unV a2 a0 a1 a2) (clipV (dotZ a3 a4 a5 (unV a0 a0 a1 a2) (unV a1 a0 a1 a2) (unV a2 a0 a1 a2))))))) with
    | false => exact bp rfl (bp s0_ (by rw [ss0, ss1, ss2, ss3, ss4, ss5, ss6, ss7, ss8]; exact no (by rw [eo, q1]; simp)))
    | true =>
      refine bn rfl ?_
      cases q2 : clipC (dotZ a3 a4 a5 (unV a0 a0 a1 a2) (unV a1 a0 a1 a2) (unV a2 a0 a1 a2)) with
      | true => exact bp rfl (bp s0_ (by rw [ss0, ss1, ss2, ss3, ss4, ss5, ss6, ss7, ss8]; exact no (by rw [eo, q2]; simp)))
      | false =>
        refine bn rfl ?_
        cases q3 : (clipC (pr (unV a0 a0 a1 a2) (clipV (dotZ a3 a4 a5 (unV a0 a0 a1 a2) (unV a1 a0 a1 a2) (unV a2 a0 a1 a2)))) || clipC (pr (unV a1 a0 a1 a2) (clipV (dotZ a3 a4 a5 (unV a0 a0 a1 a2) (unV a1 a0 a1 a2) (unV a2 a0 a1 a2)))) || clipC (pr (unV a2 a0 a1 a2) (clipV (dotZ a3 a4 a5 (unV a0 a0 a1 a2) (unV a1 a0 a1 a2) (unV a2 a0 a1 a2))))) with
        | true => exact bp rfl (bp s0_ (by rw [ss0, ss1, ss2, ss3, ss4, ss5, ss6, ss7, ss8]; exact no (by rw [eo, q3]; simp)))
        | false =>
          refine bn rfl ?_
          cases q4 : (clipC (a3 - clipV (pr (unV a0 a0 a1 a2) (clipV (dotZ a3 a4 a5 (unV a0 a0 a1 a2) (unV a1 a0 a1 a2) (unV a2 a0 a1 a2))))) || clipC (a4 - clipV (pr (unV a1 a0 a1 a2) (clipV (dotZ a3 a4 a5 (unV a0 a0 a1 a2) (unV a1 a0 a1 a2) (unV a2 a0 a1 a2))))) || clipC (a5 - clipV (pr (unV a2 a0 a1 a2) (clipV (dotZ a3 a4 a5 (unV a0 a0 a1 a2) (unV a1 a0 a1 a2) (unV a2 a0 a1 a2)))))) with
          | true => exact bp rfl (bp s0_ (by rw [ss0, ss1, ss2, ss3, ss4, ss5, ss6, ss7, ss8]; exact no (by rw [eo, q4]; simp)))
          | false =>
            refine bn rfl ?_
            cases q5 : (clipC (arZ (unV a1 a0 a1 a2) (unV (clipV (a5 - clipV (pr (unV a2 a0 a1 a2) (clipV (dotZ a3 a4 a5 (unV a0 a0 a1 a2) (unV a1 a0 a1 a2) (unV a2 a0 a1 a2)))))) (clipV (a3 - clipV (pr (unV a0 a0 a1 a2) (clipV (dotZ a3 a4 a5 (unV a0 a0 a1 a2) (unV a1 a0 a1 a2) (unV a2 a0 a1 a2)))))) (clipV (a4 - clipV (pr (unV a1 a0 a1 a2) (clipV (dotZ a3 a4 a5 (unV a0 a0 a1 a2) (unV a1 a0 a1 a2) (unV a2 a0 a1 a2)))))) (clipV (a5 - clipV (pr (unV a2 a0 a1 a2) (clipV (dotZ a3 a4 a5 (unV a0 a0 a1 a2) (unV a1 a0 a1 a2) (unV a2 a0 a1 a2))))))) (unV a2 a0 a1 a2) (unV (clipV (a4 - clipV (pr (unV a1 a0 a1 a2) (clipV (dotZ a3 a4 a5 (unV a0 a0 a1 a2) (unV a1 a0 a1 a2) (unV a2 a0 a1 a2)))))) (clipV (a3 - clipV (pr (unV a0 a0 a1 a2) (clipV (dotZ a3 a4 a5 (unV a0 a0 a1 a2) (unV a1 a0 a1 a2) (unV a2 a0 a1 a2)))))) (clipV (a4 - clipV (pr (unV a1 a0 a1 a2) (clipV (dotZ a3 a4 a5 (unV a0 a0 a1 a2) (unV a1 a0 a1 a2) (unV a2 a0 a1 a2)))))) (clipV (a5 - clipV (pr (unV a2 a0 a1 a2) (clipV (dotZ a3 a4 a5 (unV a0 a0 a1 a2) (unV a1 a0 a1 a2) (unV a2 a0 a1 a2)))))))) || clipC (arZ (unV a2 a0 a1 a2) (unV (clipV (a3 - clipV (pr (unV a0 a0 a1 a2) (clipV (dotZ a3 a4 a5 (unV a0 a0 a1 a2) (unV a1 a0 a1 a2) (unV a2 a0 a1 a2)))))) (clipV (a3 - clipV (pr (unV a0 a0 a1 a2) (clipV (dotZ a3 a4 a5 (unV a0 a0 a1 a2) (unV a1 a0 a1 a2) (unV a2 a0 a1 a2)))))) (clipV (a4 - clipV (pr (unV a1 a0 a1 a2) (clipV (dotZ a3 a4 a5 (unV a0 a0 a1 a2) (unV a1 a0 a1 a2) (unV a2 a0 a1 a2)))))) (clipV (a5 - clipV (pr (unV a2 a0 a1 a2) (clipV (dotZ a3 a4 a5 (unV a0 a0 a1 a2) (unV a1 a0 a1 a2) (unV a2 a0 a1 a2))))))) (unV a0 a0 a1 a2) (unV (clipV (a5 - clipV (pr (unV a2 a0 a1 a2) (clipV (dotZ a3 a4 a5 (unV a0 a0 a1 a2) (unV a1 a0 a1 a2) (unV a2 a0 a1 a2)))))) (clipV (a3 - clipV (pr (unV a0 a0 a1 a2) (clipV (dotZ a3 a4 a5 (unV a0 a0 a1 a2) (unV a1 a0 a1 a2) (unV a2 a0 a1 a2)))))) (clipV (a4 - clipV (pr (unV a1 a0 a1 a2) (clipV (dotZ a3 a4 a5 (unV a0 a0 a1 a2) (unV a1 a0 a1 a2) (unV a2 a0 a1 a2)))))) (clipV (a5 - clipV (pr (unV a2 a0 a1 a2) (clipV (dotZ a3 a4 a5 (unV a0 a0 a1 a2) (unV a1 a0 a1 a2) (unV a2 a0 a1 a2)))))))) || clipC (arZ (unV a0 a0 a1 a2) (unV (clipV (a4 - clipV (pr (unV a1 a0 a1 a2) (clipV (dotZ a3 a4 a5 (unV a0 a0 a1 a2) (unV a1 a0 a1 a2) (unV a2 a0 a1 a2)))))) (clipV (a3 - clipV (pr (unV a0 a0 a1 a2) (clipV (dotZ a3 a4 a5 (unV a0 a0 a1 a2) (unV a1 a0 a1 a2) (unV a2 a0 a1 a2)))))) (clipV (a4 - clipV (pr (unV a1 a0 a1 a2) (clipV (dotZ a3 a4 a5 (unV a0 a0 a1 a2) (unV a1 a0 a1 a2) (unV a2 a0 a1 a2)))))) (clipV (a5 - clipV (pr (unV a2 a0 a1 a2) (clipV (dotZ a3 a4 a5 (unV a0 a0 a1 a2) (unV a1 a0 a1 a2) (unV a2 a0 a1 a2))))))) (unV a1 a0 a1 a2) (unV (clipV (a3 - clipV (pr (unV a0 a0 a1 a2) (clipV (dotZ a3 a4 a5 (unV a0 a0 a1 a2) (unV a1 a0 a1 a2) (unV a2 a0 a1 a2)))))) (clipV (a3 - clipV (pr (unV a0 a0 a1 a2) (clipV (dotZ a3 a4 a5 (unV a0 a0 a1 a2) (unV a1 a0 a1 a2) (unV a2 a0 a1 a2)))))) (clipV (a4 - clipV (pr (unV a1 a0 a1 a2) (clipV (dotZ a3 a4 a5 (unV a0 a0 a1 a2) (unV a1 a0 a1 a2) (unV a2 a0 a1 a2)))))) (clipV (a5 - clipV (pr (unV a2 a0 a1 a2) (clipV (dotZ a3 a4 a5 (unV a0 a0 a1 a2) (unV a1 a0 a1 a2) (unV a2 a0 a1 a2))))))))) with
            | true => exact bp rfl (bp s0_ (by rw [ss0, ss1, ss2, ss3, ss4, ss5, ss6, ss7, ss8]; exact no (by rw [eo, q5]; simp)))
            | false =>
              refine bn rfl ?_
              exact yes (by rw [eo, q1, q2, q3, q4, q5]; rfl)
theorem a_mat_Ortho (F : Nat) (hF : 200 ≤ F) {a0 a1 a2 a3 a4 a5 a6 a7 a8 : Int} (ha0 : I64 a0) (ha1 : I64 a1) (ha2 : I64 a2) (ha3 : I64 a3) (ha4 : I64 a4) (ha5 : I64 a5) (ha6 : I64 a6) (ha7 : I64 a7) (ha8 : I64 a8) : ok_sb F a0 a1 a2 a3 a4 a5 a6 a7 a8 = true ∧ o_sb_0 F a0 a1 a2 a3 a4 a5 a6 a7 a8 = ort0 a0 a1 a2 a3 a4 a5 a6 a7 a8 ∧ o_sb_1 F a0 a1 a2 a3 a4 a5 a6 a7 a8 = ort1 a0 a1 a2 a3 a4 a5 a6 a7 a8 ∧ o_sb_2 F a0 a1 a2 a3 a4 a5 a6 a7 a8 = ort2 a0 a1 a2 a3 a4 a5 a6 a7 a8 ∧ o_sb_3 F a0 a1 a2 a3 a4 a5 a6 a7 a8 = ort3 a0 a1 a2 a3 a4 a5 a6 a7 a8 ∧ o_sb_4 F a0 a1 a2 a3 a4 a5 a6 a7 a8 = ort4 a0 a1 a2 a3 a4 a5 a6 a7 a8 ∧ o_sb_5 F a0 a1 a2 a3 a4 a5 a6 a7 a8 = ort5 a0 a1 a2 a3 a4 a5 a6 a7 a8 ∧ o_sb_6 F a0 a1 a2 a3 a4 a5 a6 a7 a8 = ort6 a0 a1 a2 a3 a4 a5 a6 a7 a8 ∧ o_sb_7 F a0 a1 a2 a3 a4 a5 a6 a7 a8 = ort7 a0 a1 a2 a3 a4 a5 a6 a7 a8 ∧ o_sb_8 F a0 a1 a2 a3 a4 a5 a6 a7 a8 = ort8 a0 a1 a2 a3 a4 a5 a6 a7 a8 ∧ o_sb_9 F a0 a1 a2 a3 a4 a5 a6 a7 a8 = ortC a0 a1 a2 a3 a4 a5 a6 a7 a8 := k_sb F _ _ _ _ _ _ _ _ _ (f_mat_Ortho' F hF ha0 ha1 ha2 ha3 ha4 ha5 ha6 ha7 ha8)
theorem f_ref07_Ortho' (F : Nat) (hF : 200 ≤ F) {a0 a1 a2 a3 a4 a5 a6 a7 a8 : Int} (ha0 : I64 a0) (ha1 : I64 a1) (ha2 : I64 a2) (ha3 : I64 a3) (ha4 : I64 a4) (ha5 : I64 a5) (ha6 : I64 a6) (ha7 : I64 a7) (ha8 : I64 a8) : f_ca F a0 a1 a2 a3 a4 a5 a6 a7 a8 = some (.v (.tuple #[.agg #[.int .i64 (ort0 a0 a1 a2 a3 a4 a5 a6 a7 a8), .int .i64 (ort1 a0 a1 a2 a3 a4 a5 a6 a7 a8), .int .i64 (ort2 a0 a1 a2 a3 a4 a5 a6 a7 a8), .int .i64 (ort3 a0 a1 a2 a3 a4 a5 a6 a7 a8), .int .i64 (ort4 a0 a1 a2 a3 a4 a5 a6 a7 a8), .int .i64 (ort5 a0 a1 a2 a3 a4 a5 a6 a7 a8), .int .i64 (ort6 a0 a1 a2 a3 a4 a5 a6 a7 a8), .int .i64 (ort7 a0 a1 a2 a3 a4 a5 a6 a7 a8), .int .i64 (ort8 a0 a1 a2 a3 a4 a5 a6 a7 a8)], .bool (ortC a0 a1 a2 a3 a4 a5 a6 a7 a8)])) := by
  unfold f_ca fg_ca
  obtain ⟨u0, u1, u2, u3, u4⟩ := a_r6Unit F hF ha0 ha1 ha2
  obtain ⟨s0_, ss0, ss1, ss2, ss3, ss4, ss5, ss6, ss7, ss8⟩ := a_rSame F
  have no := fun h => ort_no (a0 := a0) (a1 := a1) (a2 := a2) (a3 := a3) (a4 := a4) (a5 := a5) (a6 := a6) (a7 := a7) (a8 := a8) h
  have yes := fun h => ort_yes (a0 := a0) (a1 := a1) (a2 := a2) (a3 := a3) (a4 := a4) (a5 := a5) (a6 := a6) (a7 := a7) (a8 := a8) h
  have dx0 := unV_I a0 a0 a1 a2
  have dx1 := unV_I a1 a0 a1 a2
  have dx2 := unV_I a2 a0 a1 a2
  obtain ⟨d0, d1, d2⟩ := a_rDot F hF ha3 ha4 ha5 dx0 dx1 dx2
  obtain ⟨c0, c1, c2, c3, c4⟩ := a_rScale6 F hF dx0 dx1 dx2 (clipV_I (dotZ a3 a4 a5 (unV a0 a0 a1 a2) (unV a1 a0 a1 a2) (unV a2 a0 a1 a2)))
  obtain ⟨b0, b1, b2, b3, b4⟩ := a_rSub6 F hF ha3 ha4 ha5 (clipV_I (pr (unV a0 a0 a1 a2) (clipV (dotZ a3 a4 a5 (unV a0 a0 a1 a2) (unV a1 a0 a1 a2) (unV a2 a0 a1 a2))))) (clipV_I (pr (unV a1 a0 a1 a2) (clipV (dotZ a3 a4 a5 (unV a0 a0 a1 a2) (unV a1 a0 a1 a2) (unV a2 a0 a1 a2))))) (clipV_I (pr (unV a2 a0 a1 a2) (clipV (dotZ a3 a4 a5 (unV a0 a0 a1 a2) (unV a1 a0 a1 a2) (unV a2 a0 a1 a2)))))
  obtain ⟨v0, v1, v2, v3, v4⟩ := a_r6Unit F hF (clipV_I (a3 - clipV (pr (unV a0 a0 a1 a2) (clipV (dotZ a3 a4 a5 (unV a0 a0 a1 a2) (unV a1 a0 a1 a2) (unV a2 a0 a1 a2)))))) (clipV_I (a4 - clipV (pr (unV a1 a0 a1 a2) (clipV (dotZ a3 a4 a5 (unV a0 a0 a1 a2) (unV a1 a0 a1 a2) (unV a2 a0 a1 a2)))))) (clipV_I (a5 - clipV (pr (unV a2 a0 a1 a2) (clipV (dotZ a3 a4 a5 (unV a0 a0 a1 a2) (unV a1 a0 a1 a2) (unV a2 a0 a1 a2))))))
  obtain ⟨k0, k1, k2, k3, k4⟩ := a_rCross F hF dx0 dx1 dx2 (unV_I (clipV (a3 - clipV (pr (unV a0 a0 a1 a2) (clipV (dotZ a3 a4 a5 (unV a0 a0 a1 a2) (unV a1 a0 a1 a2) (unV a2 a0 a1 a2)))))) (clipV (a3 - clipV (pr (unV a0 a0 a1 a2) (clipV (dotZ a3 a4 a5 (unV a0 a0 a1 a2) (unV a1 a0 a1 a2) (unV a2 a0 a1 a2)))))) (clipV (a4 - clipV (pr (unV a1 a0 a1 a2) (clipV (dotZ a3 a4 a5 (unV a0 a0 a1 a2) (unV a1 a0 a1 a2) (unV a2 a0 a1 a2)))))) (clipV (a5 - clipV (pr (unV a2 a0 a1 a2) (clipV (dotZ a3 a4 a5 (unV a0 a0 a1 a2) (unV a1 a0 a1 a2) (unV a2 a0 a1 a2))))))) (unV_I (clipV (a4 - clipV (pr (unV a1 a0 a1 a2) (clipV (dotZ a3 a4 a5 (unV a0 a0 a1 a2) (unV a1 a0 a1 a2) (unV a2 a0 a1 a2)))))) (clipV (a3 - clipV (pr (unV a0 a0 a1 a2) (clipV (dotZ a3 a4 a5 (unV a0 a0 a1 a2) (unV a1 a0 a1 a2) (unV a2 a0 a1 a2)))))) (clipV (a4 - clipV (pr (unV a1 a0 a1 a2) (clipV (dotZ a3 a4 a5 (unV a0 a0 a1 a2) (unV a1 a0 a1 a2) (unV a2 a0 a1 a2)))))) (clipV (a5 - clipV (pr (unV a2 a0 a1 a2) (clipV (dotZ a3 a4 a5 (unV a0 a0 a1 a2) (unV a1 a0 a1 a2) (unV a2 a0 a1 a2))))))) (unV_I (clipV (a5 - clipV (pr (unV a2 a0 a1 a2) (clipV (dotZ a3 a4 a5 (unV a0 a0 a1 a2) (unV a1 a0 a1 a2) (unV a2 a0 a1 a2)))))) (clipV (a3 - clipV (pr (unV a0 a0 a1 a2) (clipV (dotZ a3 a4 a5 (unV a0 a0 a1 a2) (unV a1 a0 a1 a2) (unV a2 a0 a1 a2)))))) (clipV (a4 - clipV (pr (unV a1 a0 a1 a2) (clipV (dotZ a3 a4 a5 (unV a0 a0 a1 a2) (unV a1 a0 a1 a2) (unV a2 a0 a1 a2)))))) (clipV (a5 - clipV (pr (unV a2 a0 a1 a2) (clipV (dotZ a3 a4 a5 (unV a0 a0 a1 a2) (unV a1 a0 a1 a2) (unV a2 a0 a1 a2)))))))
  refine bp u0 ?_
  rw [u1, u2, u3, u4]
  cases q0 : unitOK a0 a1 a2 with
  | false => exact bp rfl (bp s0_ (by rw [ss0, ss1, ss2, ss3, ss4, ss5, ss6, ss7, ss8]; exact no (by unfold ortC; rw [q0]; rfl)))
  | true =>
    refine bn rfl (bp d0 ?_)
    rw [d1, d2]
    refine bp c0 ?_
    rw [c1, c2, c3, c4]
    refine bp b0 ?_
    rw [b1, b2, b3, b4]
    refine bp v0 ?_
    rw [v1, v2, v3, v4]
    have eo : ortC a0 a1 a2 a3 a4 a5 a6 a7 a8 = (true && ((unitOK (clipV (a3 - clipV (pr (unV a0 a0 a1 a2) (clipV (dotZ a3 a4 a5 (unV a0 a0 a1 a2) (unV a1 a0 a1 a2) (unV a2 a0 a1 a2)))))) (clipV (a4 - clipV (pr (unV a1 a0 a1 a2) (clipV (dotZ a3 a4 a5 (unV a0 a0 a1 a2) (unV a1 a0 a1 a2) (unV a2 a0 a1 a2)))))) (clipV (a5 - clipV (pr (unV a2 a0 a1 a2) (clipV (dotZ a3 a4 a5 (unV a0 a0 a1 a2) (unV a1 a0 a1 a2) (unV a2 a0 a1 a2))))))) && (!clipC (dotZ a3 a4 a5 (unV a0 a0 a1 a2) (unV a1 a0 a1 a2) (unV a2 a0 a1 a2)) && (!(clipC (pr (unV a0 a0 a1 a2) (clipV (dotZ a3 a4 a5 (unV a0 a0 a1 a2) (unV a1 a0 a1 a2) (unV a2 a0 a1 a2)))) || clipC (pr (unV a1 a0 a1 a2) (clipV (dotZ a3 a4 a5 (unV a0 a0 a1 a2) (unV a1 a0 a1 a2) (unV a2 a0 a1 a2)))) || clipC (pr (unV a2 a0 a1 a2) (clipV (dotZ a3 a4 a5 (unV a0 a0 a1 a2) (unV a1 a0 a1 a2) (unV a2 a0 a1 a2))))) && (!(clipC (a3 - clipV (pr (unV a0 a0 a1 a2) (clipV (dotZ a3 a4 a5 (unV a0 a0 a1 a2) (unV a1 a0 a1 a2) (unV a2 a0 a1 a2))))) || clipC (a4 - clipV (pr (unV a1 a0 a1 a2) (clipV (dotZ a3 a4 a5 (unV a0 a0 a1 a2) (unV a1 a0 a1 a2) (unV a2 a0 a1 a2))))) || clipC (a5 - clipV (pr (unV a2 a0 a1 a2) (clipV (dotZ a3 a4 a5 (unV a0 a0 a1 a2) (unV a1 a0 a1 a2) (unV a2 a0 a1 a2)))))) && !(clipC (arZ (unV a1 a0 a1 a2) (unV (clipV (a5 - clipV (pr (unV a2 a0 a1 a2) (clipV (dotZ a3 a4 a5 (unV a0 a0 a1 a2) (unV a1 a0 a1 a2) (unV a2 a0 a1 a2)))))) (clipV (a3 - clipV (pr (unV a0 a0 a1 a2) (clipV (dotZ a3 a4 a5 (unV a0 a0 a1 a2) (unV a1 a0 a1 a2) (unV a2 a0 a1 a2)))))) (clipV (a4 - clipV (pr (unV a1 a0 a1 a2) (clipV (dotZ a3 a4 a5 (unV a0 a0 a1 a2) (unV a1 a0 a1 a2) (unV a2 a0 a1 a2)))))) (clipV (a5 - clipV (pr (unV a2 a0 a1 a2) (clipV (dotZ a3 a4 a5 (unV a0 a0 a1 a2) (unV a1 a0 a1 a2) (unV a2 a0 a1 a2))))))) (unV a2 a0 a1 a2) (unV (clipV (a4 - clipV (pr (unV a1 a0 a1 a2) (clipV (dotZ a3 a4 a5 (unV a0 a0 a1 a2) (unV a1 a0 a1 a2) (unV a2 a0 a1 a2)))))) (clipV (a3 - clipV (pr (unV a0 a0 a1 a2) (clipV (dotZ a3 a4 a5 (unV a0 a0 a1 a2) (unV a1 a0 a1 a2) (unV a2 a0 a1 a2)))))) (clipV (a4 - clipV (pr (unV a1 a0 a1 a2) (clipV (dotZ a3 a4 a5 (unV a0 a0 a1 a2) (unV a1 a0 a1 a2) (unV a2 a0 a1 a2)))))) (clipV (a5 - clipV (pr (unV a2 a0 a1 a2) (clipV (dotZ a3 a4 a5 (unV a0 a0 a1 a2) (unV a1 a0 a1 a2) (unV a2 a0 a1 a2)))))))) || clipC (arZ (unV a2 a0 a1 a2) (unV (clipV (a3 - clipV (pr (unV a0 a0 a1 a2) (clipV (dotZ a3 a4 a5 (unV a0 a0 a1 a2) (unV a1 a0 a1 a2) (unV a2 a0 a1 a2)))))) (clipV (a3 - clipV (pr (unV a0 a0 a1 a2) (clipV (dotZ a3 a4 a5 (unV a0 a0 a1 a2) (unV a1 a0 a1 a2) (unV a2 a0 a1 a2)))))) (clipV (a4 - clipV (pr (unV a1 a0 a1 a2) (clipV (dotZ a3 a4 a5 (unV a0 a0 a1 a2) (unV a1 a0 a1 a2) (unV a2 a0 a1 a2)))))) (clipV (a5 - clipV (pr (unV a2 a0 a1 a2) (clipV (dotZ a3 a4 a5 (unV a0 a0 a1 a2) (unV a1 a0 a1 a2) (unV a2 a0 a1 a2))))))) (unV a0 a0 a1 a2) (unV (clipV (a5 - clipV (pr (unV a2 a0 a1 a2) (clipV (dotZ a3 a4 a5 (unV a0 a0 a1 a2) (unV a1 a0 a1 a2) (unV a2 a0 a1 a2)))))) (clipV (a3 - clipV (pr (unV a0 a0 a1 a2) (clipV (dotZ a3 a4 a5 (unV a0 a0 a1 a2) (unV a1 a0 a1 a2) (unV a2 a0 a1 a2)))))) (clipV (a4 - clipV (pr (unV a1 a0 a1 a2) (clipV (dotZ a3 a4 a5 (unV a0 a0 a1 a2) (unV a1 a0 a1 a2) (unV a2 a0 a1 a2)))))) (clipV (a5 - clipV (pr (unV a2 a0 a1 a2) (clipV (dotZ a3 a4 a5 (unV a0 a0 a1 a2) (unV a1 a0 a1 a2) (unV a2 a0 a1 a2)))))))) || clipC (arZ (unV a0 a0 a1 a2) (unV (clipV (a4 - clipV (pr (unV a1 a0 a1 a2) (clipV (dotZ a3 a4 a5 (unV a0 a0 a1 a2) (unV a1 a0 a1 a2) (unV a2 a0 a1 a2)))))) (clipV (a3 - clipV (pr (unV a0 a0 a1 a2) (clipV (dotZ a3 a4 a5 (unV a0 a0 a1 a2) (unV a1 a0 a1 a2) (unV a2 a0 a1 a2)))))) (clipV (a4 - clipV (pr (unV a1 a0 a1 a2) (clipV (dotZ a3 a4 a5 (unV a0 a0 a1 a2) (unV a1 a0 a1 a2) (unV a2 a0 a1 a2)))))) (clipV (a5 - clipV (pr (unV a2 a0 a1 a2) (clipV (dotZ a3 a4 a5 (unV a0 a0 a1 a2) (unV a1 a0 a1 a2) (unV a2 a0 a1 a2))))))) (unV a1 a0 a1 a2) (unV (clipV (a3 - clipV (pr (unV a0 a0 a1 a2) (clipV (dotZ a3 a4 a5 (unV a0 a0 a1 a2) (unV a1 a0 a1 a2) (unV a2 a0 a1 a2)))))) (clipV (a3 - clipV (pr (unV a0 a0 a1 a2) (clipV (dotZ a3 a4 a5 (unV a0 a0 a1 a2) (unV a1 a0 a1 a2) (unV a2 a0 a1 a2)))))) (clipV (a4 - clipV (pr (unV a1 a0 a1 a2) (clipV (dotZ a3 a4 a5 (unV a0 a0 a1 a2) (unV a1 a0 a1 a2) (unV a2 a0 a1 a2)))))) (clipV (a5 - clipV (pr (unV a2 a0 a1 a2) (clipV (dotZ a3 a4 a5 (unV a0 a0 a1 a2) (unV a1 a0 a1 a2) (unV a2 a0 a1 a2)))))))))))))) := by rw [← q0]; rfl
    cases q2 : clipC (dotZ a3 a4 a5 (unV a0 a0 a1 a2) (unV a1 a0 a1 a2) (unV a2 a0 a1 a2)) with
    | true => exact bp rfl (bp s0_ (by rw [ss0, ss1, ss2, ss3, ss4, ss5, ss6, ss7, ss8]; exact no (by rw [eo, q2]; simp)))
    | false =>
      refine bn rfl ?_
      cases q3 : (clipC (pr (unV a0 a0 a1 a2) (clipV (dotZ a3 a4 a5 (unV a0 a0 a1 a2) (unV a1 a0 a1 a2) (unV a2 a0 a1 a2)))) || clipC (pr (unV a1 a0 a1 a2) (clipV (dotZ a3 a4 a5 (unV a0 a0 a1 a2) (unV a1 a0 a1 a2) (unV a2 a0 a1 a2)))) || clipC (pr (unV a2 a0 a1 a2) (clipV (dotZ a3 a4 a5 (unV a0 a0 a1 a2) (unV a1 a0 a1 a2) (unV a2 a0 a1 a2))))) with
      | true => exact bp rfl (bp s0_ (by rw [ss0, ss1, ss2, ss3, ss4, ss5, ss6, ss7, ss8]; exact no (by rw [eo, q3]; simp)))
      | false =>
        refine bn rfl ?_
        cases q4 : (clipC (a3 - clipV (pr (unV a0 a0 a1 a2) (clipV (dotZ a3 a4 a5 (unV a0 a0 a1 a2) (unV a1 a0 a1 a2) (unV a2 a0 a1 a2))))) || clipC (a4 - clipV (pr (unV a1 a0 a1 a2) (clipV (dotZ a3 a4 a5 (unV a0 a0 a1 a2) (unV a1 a0 a1 a2) (unV a2 a0 a1 a2))))) || clipC (a5 - clipV (pr (unV a2 a0 a1 a2) (clipV (dotZ a3 a4 a5 (unV a0 a0 a1 a2) (unV a1 a0 a1 a2) (unV a2 a0 a1 a2)))))) with
        | true => exact bp rfl (bp s0_ (by rw [ss0, ss1, ss2, ss3, ss4, ss5, ss6, ss7, ss8]; exact no (by rw [eo, q4]; simp)))
        | false =>
          refine bn rfl ?_
          cases q1 : (unitOK (clipV (a3 - clipV (pr (unV a0 a0 a1 a2) (clipV (dotZ a3 a4 a5 (unV a0 a0 a1 a2) (unV a1 a0 a1 a2) (unV a2 a0 a1 a2)))))) (clipV (a4 - clipV (pr (unV a1 a0 a1 a2) (clipV (dotZ a3 a4 a5 (unV a0 a0 a1 a2) (unV a1 a0 a1 a2) (unV a2 a0 a1 a2)))))) (clipV (a5 - clipV (pr (unV a2 a0 a1 a2) (clipV (dotZ a3 a4 a5 (unV a0 a0 a1 a2) (unV a1 a0 a1 a2) (unV a2 a0 a1 a2))))))) with
          | false => exact bp rfl (bp s0_ (by rw [ss0, ss1, ss2, ss3, ss4, ss5, ss6, ss7, ss8]; exact no (by rw [eo, q1]; simp)))
          | true =>
            refine bn rfl ?_
            refine bp k0 ?_
            rw [k1, k2, k3, k4]
            cases q5 : (clipC (arZ (unV a1 a0 a1 a2) (unV (clipV (a5 - clipV (pr (unV a2 a0 a1 a2) (clipV (dotZ a3 a4 a5 (unV a0 a0 a1 a2) (unV a1 a0 a1 a2) (unV a2 a0 a1 a2)))))) (clipV (a3 - clipV (pr (unV a0 a0 a1 a2) (clipV (dotZ a3 a4 a5 (unV a0 a0 a1 a2) (unV a1 a0 a1 a2) (unV a2 a0 a1 a2)))))) (clipV (a4 - clipV (pr (unV a1 a0 a1 a2) (clipV (dotZ a3 a4 a5 (unV a0 a0 a1 a2) (unV a1 a0 a1 a2) (unV a2 a0 a1 a2)))))) (clipV (a5 - clipV (pr (unV a2 a0 a1 a2) (clipV (dotZ a3 a4 a5 (unV a0 a0 a1 a2) (unV a1 a0 a1 a2) (unV a2 a0 a1 a2))))))) (unV a2 a0 a1 a2) (unV (clipV (a4 - clipV (pr (unV a1 a0 a1 a2) (clipV (dotZ a3 a4 a5 (unV a0 a0 a1 a2) (unV a1 a0 a1 a2) (unV a2 a0 a1 a2)))))) (clipV (a3 - clipV (pr (unV a0 a0 a1 a2) (clipV (dotZ a3 a4 a5 (unV a0 a0 a1 a2) (unV a1 a0 a1 a2) (unV a2 a0 a1 a2)))))) (clipV (a4 - clipV (pr (unV a1 a0 a1 a2) (clipV (dotZ a3 a4 a5 (unV a0 a0 a1 a2) (unV a1 a0 a1 a2) (unV a2 a0 a1 a2)))))) (clipV (a5 - clipV (pr (unV a2 a0 a1 a2) (clipV (dotZ a3 a4 a5 (unV a0 a0 a1 a2) (unV a1 a0 a1 a2) (unV a2 a0 a1 a2)))))))) || clipC (arZ (unV a2 a0 a1 a2) (unV (clipV (a3 - clipV (pr (unV a0 a0 a1 a2) (clipV (dotZ a3 a4 a5 (unV a0 a0 a1 a2) (unV a1 a0 a1 a2) (unV a2 a0 a1 a2)))))) (clipV (a3 - clipV (pr (unV a0 a0 a1 a2) (clipV (dotZ a3 a4 a5 (unV a0 a0 a1 a2) (unV a1 a0 a1 a2) (unV a2 a0 a1 a2)))))) (clipV (a4 - clipV (pr (unV a1 a0 a1 a2) (clipV (dotZ a3 a4 a5 (unV a0 a0 a1 a2) (unV a1 a0 a1 a2) (unV a2 a0 a1 a2)))))) (clipV (a5 - clipV (pr (unV a2 a0 a1 a2) (clipV (dotZ a3 a4 a5 (unV a0 a0 a1 a2) (unV a1 a0 a1 a2) (unV a2 a0 a1 a2))))))) (unV a0 a0 a1 a2) (unV (clipV (a5 - clipV (pr (unV a2 a0 a1 a2) (clipV (dotZ a3 a4 a5 (unV a0 a0 a1 a2) (unV a1 a0 a1 a2) (unV a2 a0 a1 a2)))))) (clipV (a3 - clipV (pr (unV a0 a0 a1 a2) (clipV (dotZ a3 a4 a5 (unV a0 a0 a1 a2) (unV a1 a0 a1 a2) (unV a2 a0 a1 a2)))))) (clipV (a4 - clipV (pr (unV a1 a0 a1 a2) (clipV (dotZ a3 a4 a5 (unV a0 a0 a1 a2) (unV a1 a0 a1 a2) (unV a2 a0 a1 a2)))))) (clipV (a5 - clipV (pr (unV a2 a0 a1 a2) (clipV (dotZ a3 a4 a5 (unV a0 a0 a1 a2) (unV a1 a0 a1 a2) (unV a2 a0 a1 a2)))))))) || clipC (arZ (unV a0 a0 a1 a2) (unV (clipV (a4 - clipV (pr (unV a1 a0 a1 a2) (clipV (dotZ a3 a4 a5 (unV a0 a0 a1 a2) (unV a1 a0 a1 a2) (unV a2 a0 a1 a2)))))) (clipV (a3 - clipV (pr (unV a0 a0 a1 a2) (clipV (dotZ a3 a4 a5 (unV a0 a0 a1 a2) (unV a1 a0 a1 a2) (unV a2 a0 a1 a2)))))) (clipV (a4 - clipV (pr (unV a1 a0 a1 a2) (clipV (dotZ a3 a4 a5 (unV a0 a0 a1 a2) (unV a1 a0 a1 a2) (unV a2 a0 a1 a2)))))) (clipV (a5 - clipV (pr (unV a2 a0 a1 a2) (clipV (dotZ a3 a4 a5 (unV a0 a0 a1 a2) (unV a1 a0 a1 a2) (unV a2 a0 a1 a2))))))) (unV a1 a0 a1 a2) (unV (clipV (a3 - clipV (pr (unV a0 a0 a1 a2) (clipV (dotZ a3 a4 a5 (unV a0 a0 a1 a2) (unV a1 a0 a1 a2) (unV a2 a0 a1 a2)))))) (clipV (a3 - clipV (pr (unV a0 a0 a1 a2) (clipV (dotZ a3 a4 a5 (unV a0 a0 a1 a2) (unV a1 a0 a1 a2) (unV a2 a0 a1 a2)))))) (clipV (a4 - clipV (pr (unV a1 a0 a1 a2) (clipV (dotZ a3 a4 a5 (unV a0 a0 a1 a2) (unV a1 a0 a1 a2) (unV a2 a0 a1 a2)))))) (clipV (a5 - clipV (pr (unV a2 a0 a1 a2) (clipV (dotZ a3 a4 a5 (unV a0 a0 a1 a2) (unV a1 a0 a1 a2) (unV a2 a0 a1 a2))))))))) with
            | true => exact bp rfl (bp s0_ (by rw [ss0, ss1, ss2, ss3, ss4, ss5, ss6, ss7, ss8]; exact no (by rw [eo, q5]; simp)))
            | false =>
              refine bn rfl ?_
              exact yes (by rw [eo, q1, q2, q3, q4, q5]; rfl)
theorem a_ref07_Ortho (F : Nat) (hF : 200 ≤ F) {a0 a1 a2 a3 a4 a5 a6 a7 a8 : Int} (ha0 : I64 a0) (ha1 : I64 a1) (ha2 : I64 a2) (ha3 : I64 a3) (ha4 : I64 a4) (ha5 : I64 a5) (ha6 : I64 a6) (ha7 : I64 a7) (ha8 : I64 a8) : ok_ca F a0 a1 a2 a3 a4 a5 a6 a7 a8 = true ∧ o_ca_0 F a0 a1 a2 a3 a4 a5 a6 a7 a8 = ort0 a0 a1 a2 a3 a4 a5 a6 a7 a8 ∧ o_ca_1 F a0 a1 a2 a3 a4 a5 a6 a7 a8 = ort1 a0 a1 a2 a3 a4 a5 a6 a7 a8 ∧ o_ca_2 F a0 a1 a2 a3 a4 a5 a6 a7 a8 = ort2 a0 a1 a2 a3 a4 a5 a6 a7 a8 ∧ o_ca_3 F a0 a1 a2 a3 a4 a5 a6 a7 a8 = ort3 a0 a1 a2 a3 a4 a5 a6 a7 a8 ∧ o_ca_4 F a0 a1 a2 a3 a4 a5 a6 a7 a8 = ort4 a0 a1 a2 a3 a4 a5 a6 a7 a8 ∧ o_ca_5 F a0 a1 a2 a3 a4 a5 a6 a7 a8 = ort5 a0 a1 a2 a3 a4 a5 a6 a7 a8 ∧ o_ca_6 F a0 a1 a2 a3 a4 a5 a6 a7 a8 = ort6 a0 a1 a2 a3 a4 a5 a6 a7 a8 ∧ o_ca_7 F a0 a1 a2 a3 a4 a5 a6 a7 a8 = ort7 a0 a1 a2 a3 a4 a5 a6 a7 a8 ∧ o_ca_8 F a0 a1 a2 a3 a4 a5 a6 a7 a8 = ort8 a0 a1 a2 a3 a4 a5 a6 a7 a8 ∧ o_ca_9 F a0 a1 a2 a3 a4 a5 a6 a7 a8 = ortC a0 a1 a2 a3 a4 a5 a6 a7 a8 := k_ca F _ _ _ _ _ _ _ _ _ (f_ref07_Ortho' F hF ha0 ha1 ha2 ha3 ha4 ha5 ha6 ha7 ha8)
end Go.Xv
namespace Go.Xv
structure Cx where
  re : Rat
  im : Rat
namespace Cx
def mul (a b : Cx) : Cx := ⟨a.re * b.re - a.im * b.im, a.re * b.im + a.im * b.re⟩
def n2 (a : Cx) : Rat := a.re * a.re + a.im * a.im
theorem eqC {a b : Cx} (h1 : a.re = b.re) (h2 : a.im = b.im) : a = b := by cases a; cases b; simp_all
theorem mul_comm (a b : Cx) : mul a b = mul b a := by apply eqC <;> simp only [mul] <;> grind
end Cx
end Go.Xv
namespace Go.Xv
namespace Cx
def wA : Rat := 1329227995784915872903807060280344576
def wB : Rat := 972275833250902676855126013
def w : Cx := ⟨(wA * wA - wB * wB) / (wA * wA + wB * wB), 2 * wA * wB / (wA * wA + wB * wB)⟩
def q : Rat := 340282366920938463463374607431768211456
theorem q0 : (0 : Rat) < q := by decide +kernel
def r : Rat := 1 / q
theorem r0 : (0 : Rat) < r := by decide +kernel
def w0 : Int := 340282366920938463099250474440462542326
def w1 : Int := 497805226624462170283482630030
end Cx
end Go.Xv
namespace Go.Xv
namespace Cx
/-- how much longer the steps make it, over 2^64 -/
def gL : List Int := [18446744073709551616, 26087635650665564425, 29166863343567579424, 30064514583371253785, 30298483206077454146, 30357602253914638508, 30372421684747952847, 30376129029489835462, 30377056021236072306, 30377287778897074256, 30377345718920132028, 30377360203963884889, 30377363825227197387, 30377364730543173905, 30377364956872177309, 30377365013454428739, 30377365027599991633, 30377365031136382359, 30377365032020480041, 30377365032241504461, 30377365032296760566, 30377365032310574592, 30377365032314028099, 30377365032314891476, 30377365032315107320, 30377365032315161281, 30377365032315174771, 30377365032315178144, 30377365032315178987, 30377365032315179197, 30377365032315179250]
def uu (i : Nat) : Rat := ((gL.getD i 0 : Int) : Rat) * (1 / 18446744073709551616)
def hp (i : Nat) : Rat := 1 / 2 ^ i
def kp (i : Nat) : Rat := if i = 0 then 3 / 2 else 1 + hp i * hp i / 2
def dt (i : Nat) (o : Bool) : Int := if o then tA i else -tA i
end Cx
end Go.Xv
namespace Go.Xv
namespace Cx
theorem stepA : ∀ i : Nat, i < 30 → decide (3 * (i : Rat) * kp i + 1 / 1000 + 3 / 2 * uu (i + 1) ≤ 3 * ((i : Rat) + 1)) = true := by decide +kernel
end Cx
end Go.Xv
namespace Go.Xv
/-- numbers in three rows -/
structure Mt where
  a0 : Int
  a1 : Int
  a2 : Int
  a3 : Int
  a4 : Int
  a5 : Int
  a6 : Int
  a7 : Int
  a8 : Int
def sameM : Mt := ⟨4294967296, 0, 0, 0, 4294967296, 0, 0, 0, 4294967296⟩
def mulM (A B : Mt) : Mt := ⟨clipV (dotZ A.a0 A.a1 A.a2 B.a0 B.a3 B.a6), clipV (dotZ A.a0 A.a1 A.a2 B.a1 B.a4 B.a7), clipV (dotZ A.a0 A.a1 A.a2 B.a2 B.a5 B.a8), clipV (dotZ A.a3 A.a4 A.a5 B.a0 B.a3 B.a6), clipV (dotZ A.a3 A.a4 A.a5 B.a1 B.a4 B.a7), clipV (dotZ A.a3 A.a4 A.a5 B.a2 B.a5 B.a8), clipV (dotZ A.a6 A.a7 A.a8 B.a0 B.a3 B.a6), clipV (dotZ A.a6 A.a7 A.a8 B.a1 B.a4 B.a7), clipV (dotZ A.a6 A.a7 A.a8 B.a2 B.a5 B.a8)⟩
def mulK (A B : Mt) : Bool := ((clipC (dotZ A.a0 A.a1 A.a2 B.a0 B.a3 B.a6) || clipC (dotZ A.a0 A.a1 A.a2 B.a1 B.a4 B.a7) || clipC (dotZ A.a0 A.a1 A.a2 B.a2 B.a5 B.a8)) || (clipC (dotZ A.a3 A.a4 A.a5 B.a0 B.a3 B.a6) || clipC (dotZ A.a3 A.a4 A.a5 B.a1 B.a4 B.a7) || clipC (dotZ A.a3 A.a4 A.a5 B.a2 B.a5 B.a8)) || (clipC (dotZ A.a6 A.a7 A.a8 B.a0 B.a3 B.a6) || clipC (dotZ A.a6 A.a7 A.a8 B.a1 B.a4 B.a7) || clipC (dotZ A.a6 A.a7 A.a8 B.a2 B.a5 B.a8)))
def abM (k : Nat) (x : Int) : Mt := match k with
  | 0 => ⟨4294967296, 0, 0, 0, (bothC x), (-bothS x), 0, (bothS x), (bothC x)⟩
  | 1 => ⟨(bothC x), 0, (bothS x), 0, 4294967296, 0, (-bothS x), 0, (bothC x)⟩
  | _ => ⟨(bothC x), (-bothS x), 0, (bothS x), (bothC x), 0, 0, 0, 4294967296⟩
noncomputable def upM (A : Mt) : Mt := ⟨ort0 A.a0 A.a1 A.a2 A.a3 A.a4 A.a5 A.a6 A.a7 A.a8, ort1 A.a0 A.a1 A.a2 A.a3 A.a4 A.a5 A.a6 A.a7 A.a8, ort2 A.a0 A.a1 A.a2 A.a3 A.a4 A.a5 A.a6 A.a7 A.a8, ort3 A.a0 A.a1 A.a2 A.a3 A.a4 A.a5 A.a6 A.a7 A.a8, ort4 A.a0 A.a1 A.a2 A.a3 A.a4 A.a5 A.a6 A.a7 A.a8, ort5 A.a0 A.a1 A.a2 A.a3 A.a4 A.a5 A.a6 A.a7 A.a8, ort6 A.a0 A.a1 A.a2 A.a3 A.a4 A.a5 A.a6 A.a7 A.a8, ort7 A.a0 A.a1 A.a2 A.a3 A.a4 A.a5 A.a6 A.a7 A.a8, ort8 A.a0 A.a1 A.a2 A.a3 A.a4 A.a5 A.a6 A.a7 A.a8⟩
def offM (A : Mt) : Int := off9 A.a0 A.a1 A.a2 A.a3 A.a4 A.a5 A.a6 A.a7 A.a8
end Go.Xv
namespace Go.Xv
def goM (M : Mt) (k : Nat) (b : Int) : Mt := if b = 0 then M else mulM M (abM k b)
def goK (M : Mt) (k : Nat) (b : Int) : Bool := if b = 0 then false else mulK M (abM k b)
structure Att where
  m : Mt
  n : Int
def go3 (M : Mt) (b0 b1 b2 : Int) : Mt := goM (goM (goM M 0 b0) 1 b1) 2 b2
def go3K (M : Mt) (b0 b1 b2 : Int) : Bool := goK M 0 b0 || goK (goM M 0 b0) 1 b1 || goK (goM (goM M 0 b0) 1 b1) 2 b2
noncomputable def stepA (a : Att) (b0 b1 b2 : Int) : Att := if 15 ≤ a.n then ⟨upM (go3 a.m b0 b1 b2), 0⟩ else ⟨go3 a.m b0 b1 b2, a.n + 1⟩
def newA : Att := ⟨sameM, 0⟩
end Go.Xv
namespace Go.Xv
theorem tq_neg {x : Int} (h : x < 0) (d : Int) : Int.tdiv x d = -Int.tdiv (-x) d ∧ Int.tmod x d = -Int.tmod (-x) d := by
  rw [Int.neg_tdiv, Int.neg_tmod]; omega
/-- toward 0, by a hundred -/
theorem tq100 (x : Int) : (0 ≤ x → Int.tdiv x 100 = x / 100 ∧ Int.tmod x 100 = x % 100) ∧ (x < 0 → Int.tdiv x 100 = -(-x / 100) ∧ Int.tmod x 100 = -(-x % 100)) := by
  constructor
  · intro h
    exact ⟨Int.tdiv_eq_ediv_of_nonneg h, Int.tmod_eq_emod_of_nonneg h⟩
  · intro h
    obtain ⟨h1, h2⟩ := tq_neg h 100
    rw [h1, h2, Int.tdiv_eq_ediv_of_nonneg (by omega), Int.tmod_eq_emod_of_nonneg (by omega)]
    exact ⟨rfl, rfl⟩
def tk (n : Int) : Int := if 65535 < (if 0 > n then 0 else n) then 65535 else (if 0 > n then 0 else n)
theorem tk_bd (n : Int) : 0 ≤ tk n ∧ tk n ≤ 65535 := by unfold tk; split <;> split <;> omega
theorem tk_mul {a : Int} (ha : I32 a) (n : Int) : -140737488355328 ≤ a * tk n ∧ a * tk n ≤ 140737488355328 := by
  unfold I32 at ha
  have h := tk_bd n
  have : (a * tk n).natAbs ≤ 2147483648 * 65536 := by
    rw [Int.natAbs_mul]
    exact Nat.mul_le_mul (by omega) (by omega)
  omega
def turnV (x : Int) : Int := (x * 65536 / 100) % 4294967296
theorem turn_put {x w r : Int} (h : x = 100 * w + r) (h1 : 0 ≤ r) (h2 : r < 100) (hw : -140737488355328 ≤ w ∧ w ≤ 140737488355328) : IntKind.wrap .u32 (IntKind.wrap .u32 (IntKind.wrap .u32 (IntKind.wrap .i64 w) * 65536) + IntKind.wrap .u32 (r * 65536 / 100)) = turnV x := by
  have e : x * 65536 / 100 = 65536 * w + r * 65536 / 100 := by omega
  unfold turnV
  rw [e, wi64_in (by unfold I64; omega)]
  simp only [wu32]
  generalize r * 65536 / 100 = s
  omega
theorem f_Turn (F : Nat) {a n : Int} (ha : I32 a) : f_fb F a n = some (.v (.int .u32 (turnV (a * tk n)))) := by
  unfold f_fb fg_fb
  have hb := tk_mul ha n
  have hb2 := tk_bd n
  have e : (if 65535 < (if 0 > n then 0 else n) then 65535 else (if 0 > n then 0 else n)) = tk n := rfl
  dsimp only
  rw [e, wi64_in (x := a) (by unfold I32 at ha; unfold I64; omega), wi64_in (x := a * tk n) (by unfold I64; omega)]
  generalize a * tk n = x at *
  obtain ⟨q1, q2⟩ := tq100 x
  have hr : ∀ y : Int, 0 ≤ y → y ≤ 6553600 → IntKind.wrap .i64 (Int.tdiv (IntKind.wrap .i64 y) 100) = y / 100 := by
    intro y h1 h2
    rw [wi64_in (x := y) (by unfold I64; omega), Int.tdiv_eq_ediv_of_nonneg h1, wi64_in (by unfold I64; omega)]
  rcases Int.lt_or_le x 0 with hx | hx
  · obtain ⟨h1, h2⟩ := q2 hx
    rw [h1, h2]
    by_cases h0 : -(-x % 100) < 0
    · refine bp (dt h0) (some_u32 ?_)
      rw [wi64_in (x := -(-x % 100) + 100) (by unfold I64; omega), hr _ (by omega) (by omega), wi64_in (x := -(-x / 100)) (by unfold I64; omega)]
      exact turn_put (by omega) (by omega) (by omega) (by omega)
    · refine bn (df h0) (some_u32 ?_)
      rw [hr _ (by omega) (by omega)]
      exact turn_put (by omega) (by omega) (by omega) (by omega)
  · obtain ⟨h1, h2⟩ := q1 hx
    rw [h1, h2]
    refine bn (df (by omega)) (some_u32 ?_)
    rw [hr _ (by omega) (by omega)]
    exact turn_put (by omega) (by omega) (by omega) (by omega)
theorem a_Turn (F : Nat) {a : Int} (n : Int) (ha : I32 a) : ok_fb F a n = true ∧ o_fb_0 F a n = turnV (a * tk n) := k_fb F _ _ (f_Turn F ha)
theorem f_rTurn (F : Nat) (hF : 200 ≤ F) {a n : Int} (ha : I32 a) : f_ra F a n = some (.v (.int .u32 (turnV (a * tk n)))) := by
  unfold f_ra fg_ra
  have hb := tk_mul ha n
  have hb2 := tk_bd n
  have e : (if 65535 < (if 0 > n then 0 else n) then 65535 else (if 0 > n then 0 else n)) = tk n := rfl
  dsimp only
  have hI : I64 a := by unfold I32 at ha; unfold I64; omega
  rw [e, wi64_in hI]
  obtain ⟨m1, m2, m3⟩ := a_rMul F hF hI (b := tk n) (by unfold I64; omega)
  obtain ⟨l1, l2, l3⟩ := a_rLeft F hF (a * tk n) 16
  rw [show ((16 : Int).toNat) = 16 from rfl, show (2 : Int) ^ 16 = 65536 by decide] at l2 l3
  have hd := f_rDiv F hF (hi_I (a * tk n * 65536)) (lo_U (a * tk n * 65536)) (b := 100) (by unfold I64; omega)
  rw [val_hl, W_in (by unfold W128; omega)] at hd
  unfold divR at hd
  rw [if_neg (by decide)] at hd
  obtain ⟨d1, d2, d3, d4, d5⟩ := k_ub F _ _ _ hd
  refine bp m1 ?_
  rw [m2, m3]
  refine bp l1 ?_
  rw [l2, l3]
  refine bp d1 ?_
  rw [d3, d4]
  clear hd d1 d2 d3 d4 d5 l1 l2 l3 m1 m2 m3
  generalize a * tk n = x at *
  obtain ⟨q1, q2⟩ := tq100 (x * 65536)
  have hl := lo_U (Int.tdiv (x * 65536) 100)
  unfold U64 at hl
  have hlo : ∀ q : Int, lo q % 4294967296 = q % 4294967296 := by intro q; unfold lo; omega
  rw [Int.tmod_eq_emod_of_nonneg hl.1, hlo]
  unfold turnV
  generalize x * 65536 = y at *
  rcases Int.lt_or_le y 0 with hx | hx
  · obtain ⟨h1, h2⟩ := q2 hx
    rw [h1, h2]
    by_cases h0 : -(-y % 100) < 0
    · refine bp (dt h0) (some_u32 ?_)
      simp only [wu32]
      omega
    · refine bn (df h0) (some_u32 ?_)
      simp only [wu32]
      omega
  · obtain ⟨h1, h2⟩ := q1 hx
    rw [h1, h2]
    refine bn (df (by omega)) (some_u32 ?_)
    simp only [wu32]
    omega
end Go.Xv
namespace Go.Xv
def MI (M : Mt) : Prop := I64 M.a0 ∧ I64 M.a1 ∧ I64 M.a2 ∧ I64 M.a3 ∧ I64 M.a4 ∧ I64 M.a5 ∧ I64 M.a6 ∧ I64 M.a7 ∧ I64 M.a8
theorem mi_mul (A B : Mt) : MI (mulM A B) := ⟨clipV_I _, clipV_I _, clipV_I _, clipV_I _, clipV_I _, clipV_I _, clipV_I _, clipV_I _, clipV_I _⟩
theorem mi_ab (k : Nat) (x : Int) : MI (abM k x) := by
  obtain ⟨⟨c1, c2⟩, s1, s2⟩ := both_bd x
  have z : I64 0 := by unfold I64; omega
  have n : I64 4294967296 := by unfold I64; omega
  have c : I64 (bothC x) := by unfold I64; omega
  have s : I64 (bothS x) := by unfold I64; omega
  have ns : I64 (-bothS x) := by unfold I64; omega
  match k with
  | 0 => exact ⟨n, z, z, z, c, ns, z, s, c⟩
  | 1 => exact ⟨c, z, s, z, n, z, ns, z, c⟩
  | _ + 2 => exact ⟨c, ns, z, s, c, z, z, z, n⟩
theorem mi_go {M : Mt} (h : MI M) (k : Nat) (b : Int) : MI (goM M k b) := by
  unfold goM
  split
  · exact h
  · exact mi_mul _ _
theorem m_About0 (F : Nat) (hF : 200 ≤ F) {x : Int} (hx : U32 x) : ok_qb F 0 x = true ∧ o_qb_0 F 0 x = (abM 0 x).a0 ∧ o_qb_1 F 0 x = (abM 0 x).a1 ∧ o_qb_2 F 0 x = (abM 0 x).a2 ∧ o_qb_3 F 0 x = (abM 0 x).a3 ∧ o_qb_4 F 0 x = (abM 0 x).a4 ∧ o_qb_5 F 0 x = (abM 0 x).a5 ∧ o_qb_6 F 0 x = (abM 0 x).a6 ∧ o_qb_7 F 0 x = (abM 0 x).a7 ∧ o_qb_8 F 0 x = (abM 0 x).a8 := by
  obtain ⟨h, h0, h1, h2, h3, h4, h5, h6, h7, h8, _⟩ := a_mAbout0 F hF hx
  exact ⟨h, h0, h1, h2, h3, h4, h5, h6, h7, h8⟩
theorem m_About1 (F : Nat) (hF : 200 ≤ F) {x : Int} (hx : U32 x) : ok_qb F 1 x = true ∧ o_qb_0 F 1 x = (abM 1 x).a0 ∧ o_qb_1 F 1 x = (abM 1 x).a1 ∧ o_qb_2 F 1 x = (abM 1 x).a2 ∧ o_qb_3 F 1 x = (abM 1 x).a3 ∧ o_qb_4 F 1 x = (abM 1 x).a4 ∧ o_qb_5 F 1 x = (abM 1 x).a5 ∧ o_qb_6 F 1 x = (abM 1 x).a6 ∧ o_qb_7 F 1 x = (abM 1 x).a7 ∧ o_qb_8 F 1 x = (abM 1 x).a8 := by
  obtain ⟨h, h0, h1, h2, h3, h4, h5, h6, h7, h8, _⟩ := a_mAbout1 F hF hx
  exact ⟨h, h0, h1, h2, h3, h4, h5, h6, h7, h8⟩
theorem m_About2 (F : Nat) (hF : 200 ≤ F) {x : Int} (hx : U32 x) : ok_qb F 2 x = true ∧ o_qb_0 F 2 x = (abM 2 x).a0 ∧ o_qb_1 F 2 x = (abM 2 x).a1 ∧ o_qb_2 F 2 x = (abM 2 x).a2 ∧ o_qb_3 F 2 x = (abM 2 x).a3 ∧ o_qb_4 F 2 x = (abM 2 x).a4 ∧ o_qb_5 F 2 x = (abM 2 x).a5 ∧ o_qb_6 F 2 x = (abM 2 x).a6 ∧ o_qb_7 F 2 x = (abM 2 x).a7 ∧ o_qb_8 F 2 x = (abM 2 x).a8 := by
  obtain ⟨h, h0, h1, h2, h3, h4, h5, h6, h7, h8, _⟩ := a_mAbout2 F hF hx
  exact ⟨h, h0, h1, h2, h3, h4, h5, h6, h7, h8⟩
theorem m_Mul (F : Nat) (hF : 200 ≤ F) {A B : Mt} (hA : MI A) (hB : MI B) : ok_ld F A.a0 A.a1 A.a2 A.a3 A.a4 A.a5 A.a6 A.a7 A.a8 B.a0 B.a1 B.a2 B.a3 B.a4 B.a5 B.a6 B.a7 B.a8 = true ∧ o_ld_0 F A.a0 A.a1 A.a2 A.a3 A.a4 A.a5 A.a6 A.a7 A.a8 B.a0 B.a1 B.a2 B.a3 B.a4 B.a5 B.a6 B.a7 B.a8 = (mulM A B).a0 ∧ o_ld_1 F A.a0 A.a1 A.a2 A.a3 A.a4 A.a5 A.a6 A.a7 A.a8 B.a0 B.a1 B.a2 B.a3 B.a4 B.a5 B.a6 B.a7 B.a8 = (mulM A B).a1 ∧ o_ld_2 F A.a0 A.a1 A.a2 A.a3 A.a4 A.a5 A.a6 A.a7 A.a8 B.a0 B.a1 B.a2 B.a3 B.a4 B.a5 B.a6 B.a7 B.a8 = (mulM A B).a2 ∧ o_ld_3 F A.a0 A.a1 A.a2 A.a3 A.a4 A.a5 A.a6 A.a7 A.a8 B.a0 B.a1 B.a2 B.a3 B.a4 B.a5 B.a6 B.a7 B.a8 = (mulM A B).a3 ∧ o_ld_4 F A.a0 A.a1 A.a2 A.a3 A.a4 A.a5 A.a6 A.a7 A.a8 B.a0 B.a1 B.a2 B.a3 B.a4 B.a5 B.a6 B.a7 B.a8 = (mulM A B).a4 ∧ o_ld_5 F A.a0 A.a1 A.a2 A.a3 A.a4 A.a5 A.a6 A.a7 A.a8 B.a0 B.a1 B.a2 B.a3 B.a4 B.a5 B.a6 B.a7 B.a8 = (mulM A B).a5 ∧ o_ld_6 F A.a0 A.a1 A.a2 A.a3 A.a4 A.a5 A.a6 A.a7 A.a8 B.a0 B.a1 B.a2 B.a3 B.a4 B.a5 B.a6 B.a7 B.a8 = (mulM A B).a6 ∧ o_ld_7 F A.a0 A.a1 A.a2 A.a3 A.a4 A.a5 A.a6 A.a7 A.a8 B.a0 B.a1 B.a2 B.a3 B.a4 B.a5 B.a6 B.a7 B.a8 = (mulM A B).a7 ∧ o_ld_8 F A.a0 A.a1 A.a2 A.a3 A.a4 A.a5 A.a6 A.a7 A.a8 B.a0 B.a1 B.a2 B.a3 B.a4 B.a5 B.a6 B.a7 B.a8 = (mulM A B).a8 ∧ o_ld_9 F A.a0 A.a1 A.a2 A.a3 A.a4 A.a5 A.a6 A.a7 A.a8 B.a0 B.a1 B.a2 B.a3 B.a4 B.a5 B.a6 B.a7 B.a8 = mulK A B := by
  obtain ⟨x0, x1, x2, x3, x4, x5, x6, x7, x8⟩ := hA
  obtain ⟨y0, y1, y2, y3, y4, y5, y6, y7, y8⟩ := hB
  exact a_mMul F hF x0 x1 x2 x3 x4 x5 x6 x7 x8 y0 y1 y2 y3 y4 y5 y6 y7 y8
theorem m_Ortho (F : Nat) (hF : 200 ≤ F) {A : Mt} (hA : MI A) : ok_sb F A.a0 A.a1 A.a2 A.a3 A.a4 A.a5 A.a6 A.a7 A.a8 = true ∧ o_sb_0 F A.a0 A.a1 A.a2 A.a3 A.a4 A.a5 A.a6 A.a7 A.a8 = (upM A).a0 ∧ o_sb_1 F A.a0 A.a1 A.a2 A.a3 A.a4 A.a5 A.a6 A.a7 A.a8 = (upM A).a1 ∧ o_sb_2 F A.a0 A.a1 A.a2 A.a3 A.a4 A.a5 A.a6 A.a7 A.a8 = (upM A).a2 ∧ o_sb_3 F A.a0 A.a1 A.a2 A.a3 A.a4 A.a5 A.a6 A.a7 A.a8 = (upM A).a3 ∧ o_sb_4 F A.a0 A.a1 A.a2 A.a3 A.a4 A.a5 A.a6 A.a7 A.a8 = (upM A).a4 ∧ o_sb_5 F A.a0 A.a1 A.a2 A.a3 A.a4 A.a5 A.a6 A.a7 A.a8 = (upM A).a5 ∧ o_sb_6 F A.a0 A.a1 A.a2 A.a3 A.a4 A.a5 A.a6 A.a7 A.a8 = (upM A).a6 ∧ o_sb_7 F A.a0 A.a1 A.a2 A.a3 A.a4 A.a5 A.a6 A.a7 A.a8 = (upM A).a7 ∧ o_sb_8 F A.a0 A.a1 A.a2 A.a3 A.a4 A.a5 A.a6 A.a7 A.a8 = (upM A).a8 := by
  obtain ⟨x0, x1, x2, x3, x4, x5, x6, x7, x8⟩ := hA
  obtain ⟨h, h0, h1, h2, h3, h4, h5, h6, h7, h8, _⟩ := a_mat_Ortho F hF x0 x1 x2 x3 x4 x5 x6 x7 x8
  exact ⟨h, h0, h1, h2, h3, h4, h5, h6, h7, h8⟩
def rateV (r : Int) : Int := if (-2147483647) > r then (-2147483647) else r
theorem rate_I {r : Int} (h : I32 r) : I32 (rateV r) := by unfold rateV; unfold I32 at *; split <;> omega
def byV (r t : Int) : Int := turnV (rateV r * tk t)
theorem by_b (r t : Int) : 0 ≤ byV r t ∧ byV r t < 4294967296 := by unfold byV turnV; omega
theorem st_0 (F : Nat) (hF : 200 ≤ F) (ex) (G : Nat) (x0 x1 x2 x3 x4 x5 x6 x7 x8 x9 x10 x11 x12 : Int) (x14 : Bool) (x20 x21 x22 x23 x24 x25 x26 x27 x28 x29 x30 x31 x32 x33 x34 x35 x36 x37 x38 x39 x40 x41 x42 : Int) {t r0 r1 r2 : Int} (hr : I32 r0) (any : Bool) {M : Mt} (hM : MI M) :
    L_tc_0 F ex (G + 1) x0 x1 x2 x3 x4 x5 x6 x7 x8 x9 x10 x11 x12 t x14 any r0 r1 r2 0 x20 x21 x22 x23 x24 x25 x26 x27 x28 x29 x30 x31 x32 x33 x34 x35 x36 x37 x38 x39 x40 x41 x42 M.a0 M.a1 M.a2 M.a3 M.a4 M.a5 M.a6 M.a7 M.a8 = L_tc_0 F ex G x0 x1 x2 x3 x4 x5 x6 x7 x8 x9 x10 x11 x12 t x14 (any || goK M 0 (byV r0 t)) r0 r1 r2 1 x20 x21 x22 x23 x24 x25 x26 x27 x28 x29 x30 x31 x32 x33 x34 x35 x36 x37 x38 x39 x40 x41 x42 (goM M 0 (byV r0 t)).a0 (goM M 0 (byV r0 t)).a1 (goM M 0 (byV r0 t)).a2 (goM M 0 (byV r0 t)).a3 (goM M 0 (byV r0 t)).a4 (goM M 0 (byV r0 t)).a5 (goM M 0 (byV r0 t)).a6 (goM M 0 (byV r0 t)).a7 (goM M 0 (byV r0 t)).a8 := by
  have w : IntKind.wrap .i64 (0 + 1) = 1 := by decide
  obtain ⟨t1, t2⟩ := a_Turn F t (rate_I hr)
  have hb := by_b r0 t
  rw [L_tc_0]
  unfold B_tc_0 Bg_tc_0
  dsimp only
  refine bp rfl (bp rfl ?_)
  rw [show (iv [VV.v (.int .i32 r0), .v (.int .i32 r1), .v (.int .i32 r2)][Int.toNat 0 * 1]?) = r0 from rfl, show (if (-2147483647) > r0 then (-2147483647) else r0) = rateV r0 from rfl, w]
  refine bp t1 ?_
  rw [t2, show turnV (rateV r0 * tk t) = byV r0 t from rfl]
  by_cases h0 : byV r0 t = 0
  · refine bp (by rw [h0]; rfl) ?_
    unfold goM goK
    rw [if_pos h0, if_pos h0, Bool.or_false]
  · obtain ⟨a, a0, a1, a2, a3, a4, a5, a6, a7, a8⟩ := m_About0 F hF (x := byV r0 t) hb
    obtain ⟨m, m0, m1, m2, m3, m4, m5, m6, m7, m8, m9⟩ := m_Mul F hF hM (mi_ab 0 (byV r0 t))
    refine bn (by simpa using h0) (bp a ?_)
    rw [a0, a1, a2, a3, a4, a5, a6, a7, a8]
    refine bp m ?_
    rw [m0, m1, m2, m3, m4, m5, m6, m7, m8, m9]
    unfold goM goK
    rw [if_neg h0, if_neg h0]
    cases any
    · rfl
    · rfl
theorem st_1 (F : Nat) (hF : 200 ≤ F) (ex) (G : Nat) (x0 x1 x2 x3 x4 x5 x6 x7 x8 x9 x10 x11 x12 : Int) (x14 : Bool) (x20 x21 x22 x23 x24 x25 x26 x27 x28 x29 x30 x31 x32 x33 x34 x35 x36 x37 x38 x39 x40 x41 x42 : Int) {t r0 r1 r2 : Int} (hr : I32 r1) (any : Bool) {M : Mt} (hM : MI M) :
    L_tc_0 F ex (G + 1) x0 x1 x2 x3 x4 x5 x6 x7 x8 x9 x10 x11 x12 t x14 any r0 r1 r2 1 x20 x21 x22 x23 x24 x25 x26 x27 x28 x29 x30 x31 x32 x33 x34 x35 x36 x37 x38 x39 x40 x41 x42 M.a0 M.a1 M.a2 M.a3 M.a4 M.a5 M.a6 M.a7 M.a8 = L_tc_0 F ex G x0 x1 x2 x3 x4 x5 x6 x7 x8 x9 x10 x11 x12 t x14 (any || goK M 1 (byV r1 t)) r0 r1 r2 2 x20 x21 x22 x23 x24 x25 x26 x27 x28 x29 x30 x31 x32 x33 x34 x35 x36 x37 x38 x39 x40 x41 x42 (goM M 1 (byV r1 t)).a0 (goM M 1 (byV r1 t)).a1 (goM M 1 (byV r1 t)).a2 (goM M 1 (byV r1 t)).a3 (goM M 1 (byV r1 t)).a4 (goM M 1 (byV r1 t)).a5 (goM M 1 (byV r1 t)).a6 (goM M 1 (byV r1 t)).a7 (goM M 1 (byV r1 t)).a8 := by
  have w : IntKind.wrap .i64 (1 + 1) = 2 := by decide
  obtain ⟨t1, t2⟩ := a_Turn F t (rate_I hr)
  have hb := by_b r1 t
  rw [L_tc_0]
  unfold B_tc_0 Bg_tc_0
  dsimp only
  refine bp rfl (bp rfl ?_)
  rw [show (iv [VV.v (.int .i32 r0), .v (.int .i32 r1), .v (.int .i32 r2)][Int.toNat 1 * 1]?) = r1 from rfl, show (if (-2147483647) > r1 then (-2147483647) else r1) = rateV r1 from rfl, w]
  refine bp t1 ?_
  rw [t2, show turnV (rateV r1 * tk t) = byV r1 t from rfl]
  by_cases h0 : byV r1 t = 0
  · refine bp (by rw [h0]; rfl) ?_
    unfold goM goK
    rw [if_pos h0, if_pos h0, Bool.or_false]
  · obtain ⟨a, a0, a1, a2, a3, a4, a5, a6, a7, a8⟩ := m_About1 F hF (x := byV r1 t) hb
    obtain ⟨m, m0, m1, m2, m3, m4, m5, m6, m7, m8, m9⟩ := m_Mul F hF hM (mi_ab 1 (byV r1 t))
    refine bn (by simpa using h0) (bp a ?_)
    rw [a0, a1, a2, a3, a4, a5, a6, a7, a8]
    refine bp m ?_
    rw [m0, m1, m2, m3, m4, m5, m6, m7, m8, m9]
    unfold goM goK
    rw [if_neg h0, if_neg h0]
    cases any
    · rfl
    · rfl
theorem st_2 (F : Nat) (hF : 200 ≤ F) (ex) (G : Nat) (x0 x1 x2 x3 x4 x5 x6 x7 x8 x9 x10 x11 x12 : Int) (x14 : Bool) (x20 x21 x22 x23 x24 x25 x26 x27 x28 x29 x30 x31 x32 x33 x34 x35 x36 x37 x38 x39 x40 x41 x42 : Int) {t r0 r1 r2 : Int} (hr : I32 r2) (any : Bool) {M : Mt} (hM : MI M) :
    L_tc_0 F ex (G + 1) x0 x1 x2 x3 x4 x5 x6 x7 x8 x9 x10 x11 x12 t x14 any r0 r1 r2 2 x20 x21 x22 x23 x24 x25 x26 x27 x28 x29 x30 x31 x32 x33 x34 x35 x36 x37 x38 x39 x40 x41 x42 M.a0 M.a1 M.a2 M.a3 M.a4 M.a5 M.a6 M.a7 M.a8 = L_tc_0 F ex G x0 x1 x2 x3 x4 x5 x6 x7 x8 x9 x10 x11 x12 t x14 (any || goK M 2 (byV r2 t)) r0 r1 r2 3 x20 x21 x22 x23 x24 x25 x26 x27 x28 x29 x30 x31 x32 x33 x34 x35 x36 x37 x38 x39 x40 x41 x42 (goM M 2 (byV r2 t)).a0 (goM M 2 (byV r2 t)).a1 (goM M 2 (byV r2 t)).a2 (goM M 2 (byV r2 t)).a3 (goM M 2 (byV r2 t)).a4 (goM M 2 (byV r2 t)).a5 (goM M 2 (byV r2 t)).a6 (goM M 2 (byV r2 t)).a7 (goM M 2 (byV r2 t)).a8 := by
  have w : IntKind.wrap .i64 (2 + 1) = 3 := by decide
  obtain ⟨t1, t2⟩ := a_Turn F t (rate_I hr)
  have hb := by_b r2 t
  rw [L_tc_0]
  unfold B_tc_0 Bg_tc_0
  dsimp only
  refine bp rfl (bp rfl ?_)
  rw [show (iv [VV.v (.int .i32 r0), .v (.int .i32 r1), .v (.int .i32 r2)][Int.toNat 2 * 1]?) = r2 from rfl, show (if (-2147483647) > r2 then (-2147483647) else r2) = rateV r2 from rfl, w]
  refine bp t1 ?_
  rw [t2, show turnV (rateV r2 * tk t) = byV r2 t from rfl]
  by_cases h0 : byV r2 t = 0
  · refine bp (by rw [h0]; rfl) ?_
    unfold goM goK
    rw [if_pos h0, if_pos h0, Bool.or_false]
  · obtain ⟨a, a0, a1, a2, a3, a4, a5, a6, a7, a8⟩ := m_About2 F hF (x := byV r2 t) hb
    obtain ⟨m, m0, m1, m2, m3, m4, m5, m6, m7, m8, m9⟩ := m_Mul F hF hM (mi_ab 2 (byV r2 t))
    refine bn (by simpa using h0) (bp a ?_)
    rw [a0, a1, a2, a3, a4, a5, a6, a7, a8]
    refine bp m ?_
    rw [m0, m1, m2, m3, m4, m5, m6, m7, m8, m9]
    unfold goM goK
    rw [if_neg h0, if_neg h0]
    cases any
    · rfl
    · rfl
theorem f_Step (F : Nat) (hF : 200 ≤ F) {a : Att} (hM : MI a.m) (hn : a.n ≤ 9223372036854775807 ∧ -9223372036854775808 ≤ a.n) {r0 r1 r2 t : Int} (h0 : I32 r0) (h1 : I32 r1) (h2 : I32 r2) :
    f_tc F a.m.a0 a.m.a1 a.m.a2 a.m.a3 a.m.a4 a.m.a5 a.m.a6 a.m.a7 a.m.a8 a.n r0 r1 r2 t = some (.v (.tuple #[.agg #[.int .i64 (stepA a (byV r0 t) (byV r1 t) (byV r2 t)).m.a0, .int .i64 (stepA a (byV r0 t) (byV r1 t) (byV r2 t)).m.a1, .int .i64 (stepA a (byV r0 t) (byV r1 t) (byV r2 t)).m.a2, .int .i64 (stepA a (byV r0 t) (byV r1 t) (byV r2 t)).m.a3, .int .i64 (stepA a (byV r0 t) (byV r1 t) (byV r2 t)).m.a4, .int .i64 (stepA a (byV r0 t) (byV r1 t) (byV r2 t)).m.a5, .int .i64 (stepA a (byV r0 t) (byV r1 t) (byV r2 t)).m.a6, .int .i64 (stepA a (byV r0 t) (byV r1 t) (byV r2 t)).m.a7, .int .i64 (stepA a (byV r0 t) (byV r1 t) (byV r2 t)).m.a8, .int .i64 (stepA a (byV r0 t) (byV r1 t) (byV r2 t)).n], .bool (go3K a.m (byV r0 t) (byV r1 t) (byV r2 t))])) := by
  obtain ⟨G, hG⟩ : ∃ G, F = G + 4 := ⟨F - 4, by omega⟩
  have g0 := mi_go hM 0 (byV r0 t)
  have g1 := mi_go g0 1 (byV r1 t)
  have g2 := mi_go g1 2 (byV r2 t)
  unfold f_tc fg_tc
  rw [show L_tc_0 F _ F = L_tc_0 F _ (G + 4) from congrArg (L_tc_0 F _) hG]
  rw [st_0 F hF _ (G + 3) (hr := h0) (any := false) (hM := hM), st_1 F hF _ (G + 2) (hr := h1) (hM := g0), st_2 F hF _ (G + 1) (hr := h2) (hM := g1), L_tc_0]
  unfold B_tc_0 Bg_tc_0
  refine bn rfl ?_
  have ek : (false || goK a.m 0 (byV r0 t) || goK (goM a.m 0 (byV r0 t)) 1 (byV r1 t) || goK (goM (goM a.m 0 (byV r0 t)) 1 (byV r1 t)) 2 (byV r2 t)) = go3K a.m (byV r0 t) (byV r1 t) (byV r2 t) := by rw [Bool.false_or]; rfl
  rw [ek]
  have hg : goM (goM (goM a.m 0 (byV r0 t)) 1 (byV r1 t)) 2 (byV r2 t) = go3 a.m (byV r0 t) (byV r1 t) (byV r2 t) := rfl
  rw [hg] at g2 ⊢
  generalize hK : go3K a.m (byV r0 t) (byV r1 t) (byV r2 t) = K
  unfold stepA
  generalize go3 a.m (byV r0 t) (byV r1 t) (byV r2 t) = B at *
  by_cases hc : 15 ≤ a.n
  · rw [if_pos hc]
    obtain ⟨m, m0, m1, m2, m3, m4, m5, m6, m7, m8⟩ := m_Ortho F hF g2
    refine bp (dt hc) (bp m ?_)
    rw [m0, m1, m2, m3, m4, m5, m6, m7, m8]
  · rw [if_neg hc]
    refine bn (df (by omega)) ?_
    rw [wi64_in (by unfold I64; omega)]
theorem a_Step (F : Nat) (hF : 200 ≤ F) {a : Att} (hM : MI a.m) (hn : a.n ≤ 9223372036854775807 ∧ -9223372036854775808 ≤ a.n) {r0 r1 r2 t : Int} (h0 : I32 r0) (h1 : I32 r1) (h2 : I32 r2) : ok_tc F a.m.a0 a.m.a1 a.m.a2 a.m.a3 a.m.a4 a.m.a5 a.m.a6 a.m.a7 a.m.a8 a.n r0 r1 r2 t = true ∧ o_tc_0 F a.m.a0 a.m.a1 a.m.a2 a.m.a3 a.m.a4 a.m.a5 a.m.a6 a.m.a7 a.m.a8 a.n r0 r1 r2 t = (stepA a (byV r0 t) (byV r1 t) (byV r2 t)).m.a0 ∧ o_tc_1 F a.m.a0 a.m.a1 a.m.a2 a.m.a3 a.m.a4 a.m.a5 a.m.a6 a.m.a7 a.m.a8 a.n r0 r1 r2 t = (stepA a (byV r0 t) (byV r1 t) (byV r2 t)).m.a1 ∧ o_tc_2 F a.m.a0 a.m.a1 a.m.a2 a.m.a3 a.m.a4 a.m.a5 a.m.a6 a.m.a7 a.m.a8 a.n r0 r1 r2 t = (stepA a (byV r0 t) (byV r1 t) (byV r2 t)).m.a2 ∧ o_tc_3 F a.m.a0 a.m.a1 a.m.a2 a.m.a3 a.m.a4 a.m.a5 a.m.a6 a.m.a7 a.m.a8 a.n r0 r1 r2 t = (stepA a (byV r0 t) (byV r1 t) (byV r2 t)).m.a3 ∧ o_tc_4 F a.m.a0 a.m.a1 a.m.a2 a.m.a3 a.m.a4 a.m.a5 a.m.a6 a.m.a7 a.m.a8 a.n r0 r1 r2 t = (stepA a (byV r0 t) (byV r1 t) (byV r2 t)).m.a4 ∧ o_tc_5 F a.m.a0 a.m.a1 a.m.a2 a.m.a3 a.m.a4 a.m.a5 a.m.a6 a.m.a7 a.m.a8 a.n r0 r1 r2 t = (stepA a (byV r0 t) (byV r1 t) (byV r2 t)).m.a5 ∧ o_tc_6 F a.m.a0 a.m.a1 a.m.a2 a.m.a3 a.m.a4 a.m.a5 a.m.a6 a.m.a7 a.m.a8 a.n r0 r1 r2 t = (stepA a (byV r0 t) (byV r1 t) (byV r2 t)).m.a6 ∧ o_tc_7 F a.m.a0 a.m.a1 a.m.a2 a.m.a3 a.m.a4 a.m.a5 a.m.a6 a.m.a7 a.m.a8 a.n r0 r1 r2 t = (stepA a (byV r0 t) (byV r1 t) (byV r2 t)).m.a7 ∧ o_tc_8 F a.m.a0 a.m.a1 a.m.a2 a.m.a3 a.m.a4 a.m.a5 a.m.a6 a.m.a7 a.m.a8 a.n r0 r1 r2 t = (stepA a (byV r0 t) (byV r1 t) (byV r2 t)).m.a8 ∧ o_tc_9 F a.m.a0 a.m.a1 a.m.a2 a.m.a3 a.m.a4 a.m.a5 a.m.a6 a.m.a7 a.m.a8 a.n r0 r1 r2 t = (stepA a (byV r0 t) (byV r1 t) (byV r2 t)).n ∧ o_tc_10 F a.m.a0 a.m.a1 a.m.a2 a.m.a3 a.m.a4 a.m.a5 a.m.a6 a.m.a7 a.m.a8 a.n r0 r1 r2 t = go3K a.m (byV r0 t) (byV r1 t) (byV r2 t) := k_tc F _ _ _ _ _ _ _ _ _ _ _ _ _ _ (f_Step F hF hM hn h0 h1 h2)
theorem a_New (F : Nat) (hF : 200 ≤ F) : ok_gd F = true ∧ o_gd_0 F = newA.m.a0 ∧ o_gd_1 F = newA.m.a1 ∧ o_gd_2 F = newA.m.a2 ∧ o_gd_3 F = newA.m.a3 ∧ o_gd_4 F = newA.m.a4 ∧ o_gd_5 F = newA.m.a5 ∧ o_gd_6 F = newA.m.a6 ∧ o_gd_7 F = newA.m.a7 ∧ o_gd_8 F = newA.m.a8 ∧ o_gd_9 F = newA.n := by
  refine k_gd F ?_
  unfold f_gd fg_gd
  obtain ⟨m, m0, m1, m2, m3, m4, m5, m6, m7, m8⟩ := a_mSame F hF
  refine bp m ?_
  rw [m0, m1, m2, m3, m4, m5, m6, m7, m8]
  rfl
theorem a_aHeading (F : Nat) (hF : 200 ≤ F) {a : Att} (hM : MI a.m) : ok_q F a.m.a0 a.m.a1 a.m.a2 a.m.a3 a.m.a4 a.m.a5 a.m.a6 a.m.a7 a.m.a8 a.n = true ∧ o_q_0 F a.m.a0 a.m.a1 a.m.a2 a.m.a3 a.m.a4 a.m.a5 a.m.a6 a.m.a7 a.m.a8 a.n = angle a.m.a3 a.m.a0 := by
  refine k_q F _ _ _ _ _ _ _ _ _ _ ?_
  unfold f_q fg_q
  obtain ⟨h, k⟩ := a_Heading F hF (a1 := a.m.a1) (a2 := a.m.a2) (a4 := a.m.a4) (a5 := a.m.a5) (a6 := a.m.a6) (a7 := a.m.a7) (a8 := a.m.a8) hM.1 hM.2.2.2.1
  refine bp h ?_
  rw [k]
/-- which way it heads, from 0 -/
def turnsV (g t : Int) : Int := (g - t + 2147483648) % 4294967296 - 2147483648
theorem wrap_turns {g t : Int} (t' : Int) (h : t' % 4294967296 = t % 4294967296) : IntKind.wrap .i32 (IntKind.wrap .u32 (g - t')) = turnsV g t := by
  rw [wi32, wu32]
  unfold turnsV
  omega
namespace Cx
end Cx
namespace Cx
end Cx
theorem mi_new : MI newA.m := by
  have z : I64 0 := by unfold I64; omega
  have o : I64 4294967296 := by unfold I64; omega
  exact ⟨o, z, z, z, o, z, z, z, o⟩
theorem step_new : stepA newA 0 0 1073741824 = ⟨mulM sameM (abM 2 1073741824), 1⟩ := rfl
theorem a_works27 (F : Nat) (hF : 200 ≤ F) : ok_s F = true ∧ o_s_0 F = true := by
  refine k_s F ?_
  unfold f_s fg_s
  dsimp only
  obtain ⟨n, n0, n1, n2, n3, n4, n5, n6, n7, n8, n9⟩ := a_New F hF
  rw [n0, n1, n2, n3, n4, n5, n6, n7, n8, n9]
  have z : I32 0 := by unfold I32; omega
  obtain ⟨s, s0, s1, s2, s3, s4, s5, s6, s7, s8, s9, s10⟩ := a_Step F hF mi_new (show newA.n ≤ 9223372036854775807 ∧ -9223372036854775808 ≤ newA.n by decide) (t := 25) z z (show I32 65536 by unfold I32; omega)
  have b0 : byV 0 25 = 0 := by decide
  have b2 : byV 65536 25 = 1073741824 := by decide
  rw [b0, b2] at s0 s1 s2 s3 s4 s5 s6 s7 s8 s9 s10
  rw [s0, s1, s2, s3, s4, s5, s6, s7, s8, s9, s10]
  have hk : go3K newA.m 0 0 1073741824 = false := by decide +kernel
  have hM : MI (stepA newA 0 0 1073741824).m := by rw [step_new]; exact mi_mul _ _
  obtain ⟨hh, hv⟩ := a_aHeading F hF hM
  have hq : turnsV (angle (stepA newA 0 0 1073741824).m.a3 (stepA newA 0 0 1073741824).m.a0) 1073741824 < 4096 ∧ turnsV (angle (stepA newA 0 0 1073741824).m.a3 (stepA newA 0 0 1073741824).m.a0) 1073741824 > -4096 := by
    rw [step_new]; decide +kernel
  refine bp n (bp s (bp hh ?_))
  rw [hv, wrap_turns (t := 1073741824) 1073741824 rfl, hk]
  refine bp rfl (bp (dt hq.1) (bp (dt hq.2) ?_))
  rw [step_new]
  rfl
end Go.Xv
namespace Go.Xv
theorem m_rAbout0 (F : Nat) (hF : 200 ≤ F) {x : Int} (hx : U32 x) : ok_aa F 0 x = true ∧ o_aa_0 F 0 x = (abM 0 x).a0 ∧ o_aa_1 F 0 x = (abM 0 x).a1 ∧ o_aa_2 F 0 x = (abM 0 x).a2 ∧ o_aa_3 F 0 x = (abM 0 x).a3 ∧ o_aa_4 F 0 x = (abM 0 x).a4 ∧ o_aa_5 F 0 x = (abM 0 x).a5 ∧ o_aa_6 F 0 x = (abM 0 x).a6 ∧ o_aa_7 F 0 x = (abM 0 x).a7 ∧ o_aa_8 F 0 x = (abM 0 x).a8 := by
  obtain ⟨h, h0, h1, h2, h3, h4, h5, h6, h7, h8, _⟩ := a_rAbout0 F hF hx
  exact ⟨h, h0, h1, h2, h3, h4, h5, h6, h7, h8⟩
theorem m_rAbout1 (F : Nat) (hF : 200 ≤ F) {x : Int} (hx : U32 x) : ok_aa F 1 x = true ∧ o_aa_0 F 1 x = (abM 1 x).a0 ∧ o_aa_1 F 1 x = (abM 1 x).a1 ∧ o_aa_2 F 1 x = (abM 1 x).a2 ∧ o_aa_3 F 1 x = (abM 1 x).a3 ∧ o_aa_4 F 1 x = (abM 1 x).a4 ∧ o_aa_5 F 1 x = (abM 1 x).a5 ∧ o_aa_6 F 1 x = (abM 1 x).a6 ∧ o_aa_7 F 1 x = (abM 1 x).a7 ∧ o_aa_8 F 1 x = (abM 1 x).a8 := by
  obtain ⟨h, h0, h1, h2, h3, h4, h5, h6, h7, h8, _⟩ := a_rAbout1 F hF hx
  exact ⟨h, h0, h1, h2, h3, h4, h5, h6, h7, h8⟩
theorem m_rAbout2 (F : Nat) (hF : 200 ≤ F) {x : Int} (hx : U32 x) : ok_aa F 2 x = true ∧ o_aa_0 F 2 x = (abM 2 x).a0 ∧ o_aa_1 F 2 x = (abM 2 x).a1 ∧ o_aa_2 F 2 x = (abM 2 x).a2 ∧ o_aa_3 F 2 x = (abM 2 x).a3 ∧ o_aa_4 F 2 x = (abM 2 x).a4 ∧ o_aa_5 F 2 x = (abM 2 x).a5 ∧ o_aa_6 F 2 x = (abM 2 x).a6 ∧ o_aa_7 F 2 x = (abM 2 x).a7 ∧ o_aa_8 F 2 x = (abM 2 x).a8 := by
  obtain ⟨h, h0, h1, h2, h3, h4, h5, h6, h7, h8, _⟩ := a_rAbout2 F hF hx
  exact ⟨h, h0, h1, h2, h3, h4, h5, h6, h7, h8⟩
theorem m_rMul (F : Nat) (hF : 200 ≤ F) {A B : Mt} (hA : MI A) (hB : MI B) : ok_cc F A.a0 A.a1 A.a2 A.a3 A.a4 A.a5 A.a6 A.a7 A.a8 B.a0 B.a1 B.a2 B.a3 B.a4 B.a5 B.a6 B.a7 B.a8 = true ∧ o_cc_0 F A.a0 A.a1 A.a2 A.a3 A.a4 A.a5 A.a6 A.a7 A.a8 B.a0 B.a1 B.a2 B.a3 B.a4 B.a5 B.a6 B.a7 B.a8 = (mulM A B).a0 ∧ o_cc_1 F A.a0 A.a1 A.a2 A.a3 A.a4 A.a5 A.a6 A.a7 A.a8 B.a0 B.a1 B.a2 B.a3 B.a4 B.a5 B.a6 B.a7 B.a8 = (mulM A B).a1 ∧ o_cc_2 F A.a0 A.a1 A.a2 A.a3 A.a4 A.a5 A.a6 A.a7 A.a8 B.a0 B.a1 B.a2 B.a3 B.a4 B.a5 B.a6 B.a7 B.a8 = (mulM A B).a2 ∧ o_cc_3 F A.a0 A.a1 A.a2 A.a3 A.a4 A.a5 A.a6 A.a7 A.a8 B.a0 B.a1 B.a2 B.a3 B.a4 B.a5 B.a6 B.a7 B.a8 = (mulM A B).a3 ∧ o_cc_4 F A.a0 A.a1 A.a2 A.a3 A.a4 A.a5 A.a6 A.a7 A.a8 B.a0 B.a1 B.a2 B.a3 B.a4 B.a5 B.a6 B.a7 B.a8 = (mulM A B).a4 ∧ o_cc_5 F A.a0 A.a1 A.a2 A.a3 A.a4 A.a5 A.a6 A.a7 A.a8 B.a0 B.a1 B.a2 B.a3 B.a4 B.a5 B.a6 B.a7 B.a8 = (mulM A B).a5 ∧ o_cc_6 F A.a0 A.a1 A.a2 A.a3 A.a4 A.a5 A.a6 A.a7 A.a8 B.a0 B.a1 B.a2 B.a3 B.a4 B.a5 B.a6 B.a7 B.a8 = (mulM A B).a6 ∧ o_cc_7 F A.a0 A.a1 A.a2 A.a3 A.a4 A.a5 A.a6 A.a7 A.a8 B.a0 B.a1 B.a2 B.a3 B.a4 B.a5 B.a6 B.a7 B.a8 = (mulM A B).a7 ∧ o_cc_8 F A.a0 A.a1 A.a2 A.a3 A.a4 A.a5 A.a6 A.a7 A.a8 B.a0 B.a1 B.a2 B.a3 B.a4 B.a5 B.a6 B.a7 B.a8 = (mulM A B).a8 ∧ o_cc_9 F A.a0 A.a1 A.a2 A.a3 A.a4 A.a5 A.a6 A.a7 A.a8 B.a0 B.a1 B.a2 B.a3 B.a4 B.a5 B.a6 B.a7 B.a8 = mulK A B := by
  obtain ⟨x0, x1, x2, x3, x4, x5, x6, x7, x8⟩ := hA
  obtain ⟨y0, y1, y2, y3, y4, y5, y6, y7, y8⟩ := hB
  exact a_rMul7 F hF x0 x1 x2 x3 x4 x5 x6 x7 x8 y0 y1 y2 y3 y4 y5 y6 y7 y8
theorem m_rOrtho (F : Nat) (hF : 200 ≤ F) {A : Mt} (hA : MI A) : ok_ca F A.a0 A.a1 A.a2 A.a3 A.a4 A.a5 A.a6 A.a7 A.a8 = true ∧ o_ca_0 F A.a0 A.a1 A.a2 A.a3 A.a4 A.a5 A.a6 A.a7 A.a8 = (upM A).a0 ∧ o_ca_1 F A.a0 A.a1 A.a2 A.a3 A.a4 A.a5 A.a6 A.a7 A.a8 = (upM A).a1 ∧ o_ca_2 F A.a0 A.a1 A.a2 A.a3 A.a4 A.a5 A.a6 A.a7 A.a8 = (upM A).a2 ∧ o_ca_3 F A.a0 A.a1 A.a2 A.a3 A.a4 A.a5 A.a6 A.a7 A.a8 = (upM A).a3 ∧ o_ca_4 F A.a0 A.a1 A.a2 A.a3 A.a4 A.a5 A.a6 A.a7 A.a8 = (upM A).a4 ∧ o_ca_5 F A.a0 A.a1 A.a2 A.a3 A.a4 A.a5 A.a6 A.a7 A.a8 = (upM A).a5 ∧ o_ca_6 F A.a0 A.a1 A.a2 A.a3 A.a4 A.a5 A.a6 A.a7 A.a8 = (upM A).a6 ∧ o_ca_7 F A.a0 A.a1 A.a2 A.a3 A.a4 A.a5 A.a6 A.a7 A.a8 = (upM A).a7 ∧ o_ca_8 F A.a0 A.a1 A.a2 A.a3 A.a4 A.a5 A.a6 A.a7 A.a8 = (upM A).a8 := by
  obtain ⟨x0, x1, x2, x3, x4, x5, x6, x7, x8⟩ := hA
  obtain ⟨h, h0, h1, h2, h3, h4, h5, h6, h7, h8, _⟩ := a_ref07_Ortho F hF x0 x1 x2 x3 x4 x5 x6 x7 x8
  exact ⟨h, h0, h1, h2, h3, h4, h5, h6, h7, h8⟩
theorem a_rTurn (F : Nat) (hF : 200 ≤ F) {a : Int} (n : Int) (ha : I32 a) : ok_ra F a n = true ∧ o_ra_0 F a n = turnV (a * tk n) := k_ra F _ _ (f_rTurn F hF ha)
theorem rst_0 (F : Nat) (hF : 200 ≤ F) (ex) (G : Nat) (x0 x1 x2 x3 x4 x5 x6 x7 x8 x9 x10 x11 x12 : Int) (x14 : Bool) (x17 x18 x19 x20 x21 x22 x23 x24 x25 x26 x30 x31 x32 x33 x34 x35 x36 x37 x38 x39 : Int) {t r0 r1 r2 : Int} (hr : I32 r0) (any : Bool) {M : Mt} (hM : MI M) :
    L_eb_0 F ex (G + 1) x0 x1 x2 x3 x4 x5 x6 x7 x8 x9 x10 x11 x12 t x14 any 0 x17 x18 x19 x20 x21 x22 x23 x24 x25 x26 r0 r1 r2 x30 x31 x32 x33 x34 x35 x36 x37 x38 x39 M.a0 M.a1 M.a2 M.a3 M.a4 M.a5 M.a6 M.a7 M.a8 = L_eb_0 F ex G x0 x1 x2 x3 x4 x5 x6 x7 x8 x9 x10 x11 x12 t x14 (any || goK M 0 (byV r0 t)) 1 x17 x18 x19 x20 x21 x22 x23 x24 x25 x26 r0 r1 r2 x30 x31 x32 x33 x34 x35 x36 x37 x38 x39 (goM M 0 (byV r0 t)).a0 (goM M 0 (byV r0 t)).a1 (goM M 0 (byV r0 t)).a2 (goM M 0 (byV r0 t)).a3 (goM M 0 (byV r0 t)).a4 (goM M 0 (byV r0 t)).a5 (goM M 0 (byV r0 t)).a6 (goM M 0 (byV r0 t)).a7 (goM M 0 (byV r0 t)).a8 := by
  have w : IntKind.wrap .i64 (0 + 1) = 1 := by decide
  obtain ⟨t1, t2⟩ := a_rTurn F hF t (rate_I hr)
  have hb := by_b r0 t
  rw [L_eb_0]
  unfold B_eb_0 Bg_eb_0
  dsimp only
  refine bp rfl (bp rfl (bp rfl ?_))
  rw [show (iv [VV.v (.int .i32 r0), .v (.int .i32 r1), .v (.int .i32 r2)][0 + Int.toNat 0 * 1]?) = r0 from rfl, show (if (-2147483647) > r0 then (-2147483647) else r0) = rateV r0 from rfl, w]
  refine bp t1 ?_
  rw [t2, show turnV (rateV r0 * tk t) = byV r0 t from rfl]
  by_cases h0 : byV r0 t = 0
  · refine bn (by rw [h0]; rfl) ?_
    unfold goM goK
    rw [if_pos h0, if_pos h0, Bool.or_false]
  · obtain ⟨a, a0, a1, a2, a3, a4, a5, a6, a7, a8⟩ := m_rAbout0 F hF (x := byV r0 t) hb
    obtain ⟨m, m0, m1, m2, m3, m4, m5, m6, m7, m8, m9⟩ := m_rMul F hF hM (mi_ab 0 (byV r0 t))
    refine bp (by simpa using h0) (bp a ?_)
    rw [a0, a1, a2, a3, a4, a5, a6, a7, a8]
    refine bp m ?_
    rw [m0, m1, m2, m3, m4, m5, m6, m7, m8, m9]
    unfold goM goK
    rw [if_neg h0, if_neg h0]
    cases any
    · rfl
    · rfl

theorem rst_1 (F : Nat) (hF : 200 ≤ F) (ex) (G : Nat) (x0 x1 x2 x3 x4 x5 x6 x7 x8 x9 x10 x11 x12 : Int) (x14 : Bool) (x17 x18 x19 x20 x21 x22 x23 x24 x25 x26 x30 x31 x32 x33 x34 x35 x36 x37 x38 x39 : Int) {t r0 r1 r2 : Int} (hr : I32 r1) (any : Bool) {M : Mt} (hM : MI M) :
    L_eb_0 F ex (G + 1) x0 x1 x2 x3 x4 x5 x6 x7 x8 x9 x10 x11 x12 t x14 any 1 x17 x18 x19 x20 x21 x22 x23 x24 x25 x26 r0 r1 r2 x30 x31 x32 x33 x34 x35 x36 x37 x38 x39 M.a0 M.a1 M.a2 M.a3 M.a4 M.a5 M.a6 M.a7 M.a8 = L_eb_0 F ex G x0 x1 x2 x3 x4 x5 x6 x7 x8 x9 x10 x11 x12 t x14 (any || goK M 1 (byV r1 t)) 2 x17 x18 x19 x20 x21 x22 x23 x24 x25 x26 r0 r1 r2 x30 x31 x32 x33 x34 x35 x36 x37 x38 x39 (goM M 1 (byV r1 t)).a0 (goM M 1 (byV r1 t)).a1 (goM M 1 (byV r1 t)).a2 (goM M 1 (byV r1 t)).a3 (goM M 1 (byV r1 t)).a4 (goM M 1 (byV r1 t)).a5 (goM M 1 (byV r1 t)).a6 (goM M 1 (byV r1 t)).a7 (goM M 1 (byV r1 t)).a8 := by
  have w : IntKind.wrap .i64 (1 + 1) = 2 := by decide
  obtain ⟨t1, t2⟩ := a_rTurn F hF t (rate_I hr)
  have hb := by_b r1 t
  rw [L_eb_0]
  unfold B_eb_0 Bg_eb_0
  dsimp only
  refine bp rfl (bp rfl (bp rfl ?_))
  rw [show (iv [VV.v (.int .i32 r0), .v (.int .i32 r1), .v (.int .i32 r2)][0 + Int.toNat 1 * 1]?) = r1 from rfl, show (if (-2147483647) > r1 then (-2147483647) else r1) = rateV r1 from rfl, w]
  refine bp t1 ?_
  rw [t2, show turnV (rateV r1 * tk t) = byV r1 t from rfl]
  by_cases h0 : byV r1 t = 0
  · refine bn (by rw [h0]; rfl) ?_
    unfold goM goK
    rw [if_pos h0, if_pos h0, Bool.or_false]
  · obtain ⟨a, a0, a1, a2, a3, a4, a5, a6, a7, a8⟩ := m_rAbout1 F hF (x := byV r1 t) hb
    obtain ⟨m, m0, m1, m2, m3, m4, m5, m6, m7, m8, m9⟩ := m_rMul F hF hM (mi_ab 1 (byV r1 t))
    refine bp (by simpa using h0) (bp a ?_)
    rw [a0, a1, a2, a3, a4, a5, a6, a7, a8]
    refine bp m ?_
    rw [m0, m1, m2, m3, m4, m5, m6, m7, m8, m9]
    unfold goM goK
    rw [if_neg h0, if_neg h0]
    cases any
    · rfl
    · rfl

theorem rst_2 (F : Nat) (hF : 200 ≤ F) (ex) (G : Nat) (x0 x1 x2 x3 x4 x5 x6 x7 x8 x9 x10 x11 x12 : Int) (x14 : Bool) (x17 x18 x19 x20 x21 x22 x23 x24 x25 x26 x30 x31 x32 x33 x34 x35 x36 x37 x38 x39 : Int) {t r0 r1 r2 : Int} (hr : I32 r2) (any : Bool) {M : Mt} (hM : MI M) :
    L_eb_0 F ex (G + 1) x0 x1 x2 x3 x4 x5 x6 x7 x8 x9 x10 x11 x12 t x14 any 2 x17 x18 x19 x20 x21 x22 x23 x24 x25 x26 r0 r1 r2 x30 x31 x32 x33 x34 x35 x36 x37 x38 x39 M.a0 M.a1 M.a2 M.a3 M.a4 M.a5 M.a6 M.a7 M.a8 = L_eb_0 F ex G x0 x1 x2 x3 x4 x5 x6 x7 x8 x9 x10 x11 x12 t x14 (any || goK M 2 (byV r2 t)) 3 x17 x18 x19 x20 x21 x22 x23 x24 x25 x26 r0 r1 r2 x30 x31 x32 x33 x34 x35 x36 x37 x38 x39 (goM M 2 (byV r2 t)).a0 (goM M 2 (byV r2 t)).a1 (goM M 2 (byV r2 t)).a2 (goM M 2 (byV r2 t)).a3 (goM M 2 (byV r2 t)).a4 (goM M 2 (byV r2 t)).a5 (goM M 2 (byV r2 t)).a6 (goM M 2 (byV r2 t)).a7 (goM M 2 (byV r2 t)).a8 := by
  have w : IntKind.wrap .i64 (2 + 1) = 3 := by decide
  obtain ⟨t1, t2⟩ := a_rTurn F hF t (rate_I hr)
  have hb := by_b r2 t
  rw [L_eb_0]
  unfold B_eb_0 Bg_eb_0
  dsimp only
  refine bp rfl (bp rfl (bp rfl ?_))
  rw [show (iv [VV.v (.int .i32 r0), .v (.int .i32 r1), .v (.int .i32 r2)][0 + Int.toNat 2 * 1]?) = r2 from rfl, show (if (-2147483647) > r2 then (-2147483647) else r2) = rateV r2 from rfl, w]
  refine bp t1 ?_
  rw [t2, show turnV (rateV r2 * tk t) = byV r2 t from rfl]
  by_cases h0 : byV r2 t = 0
  · refine bn (by rw [h0]; rfl) ?_
    unfold goM goK
    rw [if_pos h0, if_pos h0, Bool.or_false]
  · obtain ⟨a, a0, a1, a2, a3, a4, a5, a6, a7, a8⟩ := m_rAbout2 F hF (x := byV r2 t) hb
    obtain ⟨m, m0, m1, m2, m3, m4, m5, m6, m7, m8, m9⟩ := m_rMul F hF hM (mi_ab 2 (byV r2 t))
    refine bp (by simpa using h0) (bp a ?_)
    rw [a0, a1, a2, a3, a4, a5, a6, a7, a8]
    refine bp m ?_
    rw [m0, m1, m2, m3, m4, m5, m6, m7, m8, m9]
    unfold goM goK
    rw [if_neg h0, if_neg h0]
    cases any
    · rfl
    · rfl

theorem f_rStep (F : Nat) (hF : 200 ≤ F) {a : Att} (hM : MI a.m) (hn : a.n ≤ 9223372036854775807 ∧ -9223372036854775808 ≤ a.n) {r0 r1 r2 t : Int} (h0 : I32 r0) (h1 : I32 r1) (h2 : I32 r2) :
    f_eb F a.m.a0 a.m.a1 a.m.a2 a.m.a3 a.m.a4 a.m.a5 a.m.a6 a.m.a7 a.m.a8 a.n r0 r1 r2 t = some (.v (.tuple #[.agg #[.int .i64 (stepA a (byV r0 t) (byV r1 t) (byV r2 t)).m.a0, .int .i64 (stepA a (byV r0 t) (byV r1 t) (byV r2 t)).m.a1, .int .i64 (stepA a (byV r0 t) (byV r1 t) (byV r2 t)).m.a2, .int .i64 (stepA a (byV r0 t) (byV r1 t) (byV r2 t)).m.a3, .int .i64 (stepA a (byV r0 t) (byV r1 t) (byV r2 t)).m.a4, .int .i64 (stepA a (byV r0 t) (byV r1 t) (byV r2 t)).m.a5, .int .i64 (stepA a (byV r0 t) (byV r1 t) (byV r2 t)).m.a6, .int .i64 (stepA a (byV r0 t) (byV r1 t) (byV r2 t)).m.a7, .int .i64 (stepA a (byV r0 t) (byV r1 t) (byV r2 t)).m.a8, .int .i64 (stepA a (byV r0 t) (byV r1 t) (byV r2 t)).n], .bool (go3K a.m (byV r0 t) (byV r1 t) (byV r2 t))])) := by
  obtain ⟨G, hG⟩ : ∃ G, F = G + 4 := ⟨F - 4, by omega⟩
  have g0 := mi_go hM 0 (byV r0 t)
  have g1 := mi_go g0 1 (byV r1 t)
  have g2 := mi_go g1 2 (byV r2 t)
  unfold f_eb fg_eb
  rw [show L_eb_0 F _ F = L_eb_0 F _ (G + 4) from congrArg (L_eb_0 F _) hG]
  rw [rst_0 F hF _ (G + 3) (hr := h0) (any := false) (hM := hM), rst_1 F hF _ (G + 2) (hr := h1) (hM := g0), rst_2 F hF _ (G + 1) (hr := h2) (hM := g1), L_eb_0]
  unfold B_eb_0 Bg_eb_0
  refine bn rfl ?_
  have ek : (false || goK a.m 0 (byV r0 t) || goK (goM a.m 0 (byV r0 t)) 1 (byV r1 t) || goK (goM (goM a.m 0 (byV r0 t)) 1 (byV r1 t)) 2 (byV r2 t)) = go3K a.m (byV r0 t) (byV r1 t) (byV r2 t) := by rw [Bool.false_or]; rfl
  rw [ek]
  have hg : goM (goM (goM a.m 0 (byV r0 t)) 1 (byV r1 t)) 2 (byV r2 t) = go3 a.m (byV r0 t) (byV r1 t) (byV r2 t) := rfl
  rw [hg] at g2 ⊢
  generalize hK : go3K a.m (byV r0 t) (byV r1 t) (byV r2 t) = K
  unfold stepA
  generalize go3 a.m (byV r0 t) (byV r1 t) (byV r2 t) = B at *
  by_cases hc : 15 ≤ a.n
  · rw [if_pos hc]
    obtain ⟨m, m0, m1, m2, m3, m4, m5, m6, m7, m8⟩ := m_rOrtho F hF g2
    refine bp (dt hc) (bp m ?_)
    rw [m0, m1, m2, m3, m4, m5, m6, m7, m8]
  · rw [if_neg hc]
    refine bn (df (by omega)) ?_
    rw [wi64_in (by unfold I64; omega)]
theorem a_rStep (F : Nat) (hF : 200 ≤ F) {a : Att} (hM : MI a.m) (hn : a.n ≤ 9223372036854775807 ∧ -9223372036854775808 ≤ a.n) {r0 r1 r2 t : Int} (h0 : I32 r0) (h1 : I32 r1) (h2 : I32 r2) : ok_eb F a.m.a0 a.m.a1 a.m.a2 a.m.a3 a.m.a4 a.m.a5 a.m.a6 a.m.a7 a.m.a8 a.n r0 r1 r2 t = true ∧ o_eb_0 F a.m.a0 a.m.a1 a.m.a2 a.m.a3 a.m.a4 a.m.a5 a.m.a6 a.m.a7 a.m.a8 a.n r0 r1 r2 t = (stepA a (byV r0 t) (byV r1 t) (byV r2 t)).m.a0 ∧ o_eb_1 F a.m.a0 a.m.a1 a.m.a2 a.m.a3 a.m.a4 a.m.a5 a.m.a6 a.m.a7 a.m.a8 a.n r0 r1 r2 t = (stepA a (byV r0 t) (byV r1 t) (byV r2 t)).m.a1 ∧ o_eb_2 F a.m.a0 a.m.a1 a.m.a2 a.m.a3 a.m.a4 a.m.a5 a.m.a6 a.m.a7 a.m.a8 a.n r0 r1 r2 t = (stepA a (byV r0 t) (byV r1 t) (byV r2 t)).m.a2 ∧ o_eb_3 F a.m.a0 a.m.a1 a.m.a2 a.m.a3 a.m.a4 a.m.a5 a.m.a6 a.m.a7 a.m.a8 a.n r0 r1 r2 t = (stepA a (byV r0 t) (byV r1 t) (byV r2 t)).m.a3 ∧ o_eb_4 F a.m.a0 a.m.a1 a.m.a2 a.m.a3 a.m.a4 a.m.a5 a.m.a6 a.m.a7 a.m.a8 a.n r0 r1 r2 t = (stepA a (byV r0 t) (byV r1 t) (byV r2 t)).m.a4 ∧ o_eb_5 F a.m.a0 a.m.a1 a.m.a2 a.m.a3 a.m.a4 a.m.a5 a.m.a6 a.m.a7 a.m.a8 a.n r0 r1 r2 t = (stepA a (byV r0 t) (byV r1 t) (byV r2 t)).m.a5 ∧ o_eb_6 F a.m.a0 a.m.a1 a.m.a2 a.m.a3 a.m.a4 a.m.a5 a.m.a6 a.m.a7 a.m.a8 a.n r0 r1 r2 t = (stepA a (byV r0 t) (byV r1 t) (byV r2 t)).m.a6 ∧ o_eb_7 F a.m.a0 a.m.a1 a.m.a2 a.m.a3 a.m.a4 a.m.a5 a.m.a6 a.m.a7 a.m.a8 a.n r0 r1 r2 t = (stepA a (byV r0 t) (byV r1 t) (byV r2 t)).m.a7 ∧ o_eb_8 F a.m.a0 a.m.a1 a.m.a2 a.m.a3 a.m.a4 a.m.a5 a.m.a6 a.m.a7 a.m.a8 a.n r0 r1 r2 t = (stepA a (byV r0 t) (byV r1 t) (byV r2 t)).m.a8 ∧ o_eb_9 F a.m.a0 a.m.a1 a.m.a2 a.m.a3 a.m.a4 a.m.a5 a.m.a6 a.m.a7 a.m.a8 a.n r0 r1 r2 t = (stepA a (byV r0 t) (byV r1 t) (byV r2 t)).n ∧ o_eb_10 F a.m.a0 a.m.a1 a.m.a2 a.m.a3 a.m.a4 a.m.a5 a.m.a6 a.m.a7 a.m.a8 a.n r0 r1 r2 t = go3K a.m (byV r0 t) (byV r1 t) (byV r2 t) := k_eb F _ _ _ _ _ _ _ _ _ _ _ _ _ _ (f_rStep F hF hM hn h0 h1 h2)
def attE (A : Mt) (n : Int) : Int := if n < 0 then 2 else if 15 < n then 2 else if 65536 < offM A then 2 else 0
theorem a_aCheckE (F : Nat) (hF : 200 ≤ F) {A : Mt} (n : Int) (h : MI A) : ok_ob F A.a0 A.a1 A.a2 A.a3 A.a4 A.a5 A.a6 A.a7 A.a8 n = true ∧ o_ob_0 F A.a0 A.a1 A.a2 A.a3 A.a4 A.a5 A.a6 A.a7 A.a8 n = attE A n := by
  refine k_ob F _ _ _ _ _ _ _ _ _ _ ?_
  unfold f_ob fg_ob attE
  obtain ⟨i0, i1, i2, i3, i4, i5, i6, i7, i8⟩ := h
  obtain ⟨o0, o1⟩ := a_mat_Off F hF i0 i1 i2 i3 i4 i5 i6 i7 i8
  by_cases h1 : n < 0
  · exact bp (dt h1) (by rw [if_pos h1])
  refine bn (df h1) ?_
  rw [if_neg h1]
  by_cases h2 : n ≥ 16
  · exact bp (dt h2) (by rw [if_pos (by omega)])
  refine bn (df h2) (bp o0 ?_)
  rw [if_neg (by omega), o1]
  unfold offM
  by_cases h3 : off9 A.a0 A.a1 A.a2 A.a3 A.a4 A.a5 A.a6 A.a7 A.a8 > 65536
  · exact bp (dt h3) (by rw [if_pos h3])
  · exact bn (df h3) (by rw [if_neg h3])
theorem a_rCheck27 (F : Nat) (hF : 200 ≤ F) {A : Mt} (n : Int) (h : MI A) : ok_da F A.a0 A.a1 A.a2 A.a3 A.a4 A.a5 A.a6 A.a7 A.a8 n = true ∧ o_da_0 F A.a0 A.a1 A.a2 A.a3 A.a4 A.a5 A.a6 A.a7 A.a8 n = attE A n := by
  refine k_da F _ _ _ _ _ _ _ _ _ _ ?_
  unfold f_da fg_da attE
  obtain ⟨i0, i1, i2, i3, i4, i5, i6, i7, i8⟩ := h
  obtain ⟨o0, o1⟩ := a_ref07_Off F hF i0 i1 i2 i3 i4 i5 i6 i7 i8
  by_cases h1 : n < 0
  · exact bp (dt h1) (by rw [if_pos h1])
  refine bn (df h1) ?_
  rw [if_neg h1]
  by_cases h2 : n > 15
  · exact bp (dt h2) (by rw [if_pos h2])
  refine bn (df h2) (bp o0 ?_)
  rw [if_neg h2, o1]
  unfold offM
  by_cases h3 : off9 A.a0 A.a1 A.a2 A.a3 A.a4 A.a5 A.a6 A.a7 A.a8 > 65536
  · exact bp (dt h3) (by rw [if_pos h3])
  · exact bn (df h3) (by rw [if_neg h3])
def ofV (A : Mt) (x : Int) : Int := if attE A 0 = 0 then x else 0

theorem a_attOf (F : Nat) (hF : 200 ≤ F) {A : Mt} (h : MI A) : ok_qd F A.a0 A.a1 A.a2 A.a3 A.a4 A.a5 A.a6 A.a7 A.a8 = true ∧ o_qd_0 F A.a0 A.a1 A.a2 A.a3 A.a4 A.a5 A.a6 A.a7 A.a8 = ofV A A.a0 ∧ o_qd_1 F A.a0 A.a1 A.a2 A.a3 A.a4 A.a5 A.a6 A.a7 A.a8 = ofV A A.a1 ∧ o_qd_2 F A.a0 A.a1 A.a2 A.a3 A.a4 A.a5 A.a6 A.a7 A.a8 = ofV A A.a2 ∧ o_qd_3 F A.a0 A.a1 A.a2 A.a3 A.a4 A.a5 A.a6 A.a7 A.a8 = ofV A A.a3 ∧ o_qd_4 F A.a0 A.a1 A.a2 A.a3 A.a4 A.a5 A.a6 A.a7 A.a8 = ofV A A.a4 ∧ o_qd_5 F A.a0 A.a1 A.a2 A.a3 A.a4 A.a5 A.a6 A.a7 A.a8 = ofV A A.a5 ∧ o_qd_6 F A.a0 A.a1 A.a2 A.a3 A.a4 A.a5 A.a6 A.a7 A.a8 = ofV A A.a6 ∧ o_qd_7 F A.a0 A.a1 A.a2 A.a3 A.a4 A.a5 A.a6 A.a7 A.a8 = ofV A A.a7 ∧ o_qd_8 F A.a0 A.a1 A.a2 A.a3 A.a4 A.a5 A.a6 A.a7 A.a8 = ofV A A.a8 ∧ o_qd_9 F A.a0 A.a1 A.a2 A.a3 A.a4 A.a5 A.a6 A.a7 A.a8 = 0 ∧ o_qd_10 F A.a0 A.a1 A.a2 A.a3 A.a4 A.a5 A.a6 A.a7 A.a8 = attE A 0 := by
  refine k_qd F _ _ _ _ _ _ _ _ _ ?_
  unfold f_qd fg_qd
  dsimp only
  obtain ⟨c0, c1⟩ := a_aCheckE F hF 0 h
  refine bp c0 ?_
  rw [c1]
  unfold ofV
  by_cases h0 : attE A 0 = 0
  · rw [h0]
    exact bn rfl rfl
  · refine bp (by simpa using h0) ?_
    simp only [if_neg h0]

theorem a_ref27Of (F : Nat) (hF : 200 ≤ F) {A : Mt} (h : MI A) : ok_yc F A.a0 A.a1 A.a2 A.a3 A.a4 A.a5 A.a6 A.a7 A.a8 = true ∧ o_yc_0 F A.a0 A.a1 A.a2 A.a3 A.a4 A.a5 A.a6 A.a7 A.a8 = ofV A A.a0 ∧ o_yc_1 F A.a0 A.a1 A.a2 A.a3 A.a4 A.a5 A.a6 A.a7 A.a8 = ofV A A.a1 ∧ o_yc_2 F A.a0 A.a1 A.a2 A.a3 A.a4 A.a5 A.a6 A.a7 A.a8 = ofV A A.a2 ∧ o_yc_3 F A.a0 A.a1 A.a2 A.a3 A.a4 A.a5 A.a6 A.a7 A.a8 = ofV A A.a3 ∧ o_yc_4 F A.a0 A.a1 A.a2 A.a3 A.a4 A.a5 A.a6 A.a7 A.a8 = ofV A A.a4 ∧ o_yc_5 F A.a0 A.a1 A.a2 A.a3 A.a4 A.a5 A.a6 A.a7 A.a8 = ofV A A.a5 ∧ o_yc_6 F A.a0 A.a1 A.a2 A.a3 A.a4 A.a5 A.a6 A.a7 A.a8 = ofV A A.a6 ∧ o_yc_7 F A.a0 A.a1 A.a2 A.a3 A.a4 A.a5 A.a6 A.a7 A.a8 = ofV A A.a7 ∧ o_yc_8 F A.a0 A.a1 A.a2 A.a3 A.a4 A.a5 A.a6 A.a7 A.a8 = ofV A A.a8 ∧ o_yc_9 F A.a0 A.a1 A.a2 A.a3 A.a4 A.a5 A.a6 A.a7 A.a8 = 0 ∧ o_yc_10 F A.a0 A.a1 A.a2 A.a3 A.a4 A.a5 A.a6 A.a7 A.a8 = attE A 0 := by
  refine k_yc F _ _ _ _ _ _ _ _ _ ?_
  unfold f_yc fg_yc
  dsimp only
  obtain ⟨c0, c1⟩ := a_rCheck27 F hF 0 h
  refine bp c0 ?_
  rw [c1]
  unfold ofV
  by_cases h0 : attE A 0 = 0
  · rw [h0]
    exact bn rfl rfl
  · refine bp (by simpa using h0) ?_
    simp only [if_neg h0]

def wid (x : Int) : Int := x * 65536
theorem wid_I {x : Int} (h : I32 x) : I64 (wid x) := by unfold wid; unfold I32 at h; unfold I64; omega
theorem a_sWiden (F : Nat) {x : Int} (h : I32 x) : ok_fa F x = true ∧ o_fa_0 F x = wid x := by
  refine k_fa F _ ?_
  unfold f_fa fg_fa wid
  unfold I32 at h
  rw [wi64_in (x := x) (by unfold I64; omega), wi64_in (by unfold I64; omega)]
theorem a_rWiden (F : Nat) {x : Int} (h : I32 x) : ok_v F x = true ∧ o_v_0 F x = wid x := by
  refine k_v F _ ?_
  unfold f_v fg_v wid
  unfold I32 at h
  rw [wi64_in (x := x) (by unfold I64; omega), wi64_in (by unfold I64; omega), Int.mul_comm]

theorem a_aLift (F : Nat) (hF : 200 ≤ F) {a : Att} (hM : MI a.m) {v0 v1 v2 : Int} (h0 : I32 v0) (h1 : I32 v1) (h2 : I32 v2) : ∃ z0 z1 z2 : Int, ∃ c : Bool, (ok_sc F a.m.a0 a.m.a1 a.m.a2 a.m.a3 a.m.a4 a.m.a5 a.m.a6 a.m.a7 a.m.a8 a.n v0 v1 v2 = true ∧ o_sc_0 F a.m.a0 a.m.a1 a.m.a2 a.m.a3 a.m.a4 a.m.a5 a.m.a6 a.m.a7 a.m.a8 a.n v0 v1 v2 = z0 ∧ o_sc_1 F a.m.a0 a.m.a1 a.m.a2 a.m.a3 a.m.a4 a.m.a5 a.m.a6 a.m.a7 a.m.a8 a.n v0 v1 v2 = z1 ∧ o_sc_2 F a.m.a0 a.m.a1 a.m.a2 a.m.a3 a.m.a4 a.m.a5 a.m.a6 a.m.a7 a.m.a8 a.n v0 v1 v2 = z2 ∧ o_sc_3 F a.m.a0 a.m.a1 a.m.a2 a.m.a3 a.m.a4 a.m.a5 a.m.a6 a.m.a7 a.m.a8 a.n v0 v1 v2 = c) ∧ ok_db F a.m.a0 a.m.a1 a.m.a2 a.m.a3 a.m.a4 a.m.a5 a.m.a6 a.m.a7 a.m.a8 a.n v0 v1 v2 = true ∧ o_db_0 F a.m.a0 a.m.a1 a.m.a2 a.m.a3 a.m.a4 a.m.a5 a.m.a6 a.m.a7 a.m.a8 a.n v0 v1 v2 = z0 ∧ o_db_1 F a.m.a0 a.m.a1 a.m.a2 a.m.a3 a.m.a4 a.m.a5 a.m.a6 a.m.a7 a.m.a8 a.n v0 v1 v2 = z1 ∧ o_db_2 F a.m.a0 a.m.a1 a.m.a2 a.m.a3 a.m.a4 a.m.a5 a.m.a6 a.m.a7 a.m.a8 a.n v0 v1 v2 = z2 ∧ o_db_3 F a.m.a0 a.m.a1 a.m.a2 a.m.a3 a.m.a4 a.m.a5 a.m.a6 a.m.a7 a.m.a8 a.n v0 v1 v2 = c := by
  obtain ⟨i0, i1, i2, i3, i4, i5, i6, i7, i8⟩ := hM
  obtain ⟨p, p0, p1, p2, p3⟩ := a_mApply F hF i0 i1 i2 i3 i4 i5 i6 i7 i8 (wid_I h0) (wid_I h1) (wid_I h2)
  obtain ⟨q, q0, q1, q2, q3⟩ := a_rApply F hF i0 i1 i2 i3 i4 i5 i6 i7 i8 (wid_I h0) (wid_I h1) (wid_I h2)
  refine ⟨_, _, _, _, k_sc F _ _ _ _ _ _ _ _ _ _ _ _ _ (z0 := o_rb_0 F a.m.a0 a.m.a1 a.m.a2 a.m.a3 a.m.a4 a.m.a5 a.m.a6 a.m.a7 a.m.a8 (wid v0) (wid v1) (wid v2)) (z1 := o_rb_1 F a.m.a0 a.m.a1 a.m.a2 a.m.a3 a.m.a4 a.m.a5 a.m.a6 a.m.a7 a.m.a8 (wid v0) (wid v1) (wid v2)) (z2 := o_rb_2 F a.m.a0 a.m.a1 a.m.a2 a.m.a3 a.m.a4 a.m.a5 a.m.a6 a.m.a7 a.m.a8 (wid v0) (wid v1) (wid v2)) (z3 := o_rb_3 F a.m.a0 a.m.a1 a.m.a2 a.m.a3 a.m.a4 a.m.a5 a.m.a6 a.m.a7 a.m.a8 (wid v0) (wid v1) (wid v2)) ?_, k_db F _ _ _ _ _ _ _ _ _ _ _ _ _ ?_⟩
  · unfold f_sc fg_sc
    obtain ⟨G, hG⟩ : ∃ G, F = G + 4 := ⟨F - 4, by omega⟩
    have w0 : IntKind.wrap .i64 (0 + 1) = 1 := by decide
    have w1 : IntKind.wrap .i64 (1 + 1) = 2 := by decide
    have w2 : IntKind.wrap .i64 (2 + 1) = 3 := by decide
    obtain ⟨s0, t0⟩ := a_sWiden F h0
    obtain ⟨s1, t1⟩ := a_sWiden F h1
    obtain ⟨s2, t2⟩ := a_sWiden F h2
    rw [show L_sc_0 F _ F = L_sc_0 F _ (G + 4) from congrArg (L_sc_0 F _) hG]
    rw [L_sc_0]
    unfold B_sc_0 Bg_sc_0
    dsimp only
    refine bp rfl (bp rfl ?_)
    rw [show (iv [VV.v (.int .i32 v0), .v (.int .i32 v1), .v (.int .i32 v2)][Int.toNat 0 * 1]?) = v0 from rfl]
    refine bp s0 (bp rfl (bp rfl ?_))
    rw [t0, w0]
    rw [L_sc_0]
    unfold B_sc_0 Bg_sc_0
    dsimp only
    refine bp rfl (bp rfl ?_)
    rw [show (iv [VV.v (.int .i32 v0), .v (.int .i32 v1), .v (.int .i32 v2)][Int.toNat 1 * 1]?) = v1 from rfl]
    refine bp s1 (bp rfl (bp rfl ?_))
    rw [t1, w1]
    rw [L_sc_0]
    unfold B_sc_0 Bg_sc_0
    dsimp only
    refine bp rfl (bp rfl ?_)
    rw [show (iv [VV.v (.int .i32 v0), .v (.int .i32 v1), .v (.int .i32 v2)][Int.toNat 2 * 1]?) = v2 from rfl]
    refine bp s2 (bp rfl (bp rfl ?_))
    rw [t2, w2]
    rw [L_sc_0]
    unfold B_sc_0 Bg_sc_0
    dsimp only
    exact bn rfl (bp rfl (bp p rfl))
  · unfold f_db fg_db
    dsimp only
    obtain ⟨s0, t0⟩ := a_rWiden F h0
    obtain ⟨s1, t1⟩ := a_rWiden F h1
    obtain ⟨s2, t2⟩ := a_rWiden F h2
    rw [t0, t1, t2]
    refine bp s0 (bp s1 (bp s2 (bp q ?_)))
    rw [p0, p1, p2, p3, q0, q1, q2, q3]

theorem a_rHeading27 (F : Nat) (hF : 200 ≤ F) {a : Att} (hM : MI a.m) : ok_h F a.m.a0 a.m.a1 a.m.a2 a.m.a3 a.m.a4 a.m.a5 a.m.a6 a.m.a7 a.m.a8 a.n = true ∧ o_h_0 F a.m.a0 a.m.a1 a.m.a2 a.m.a3 a.m.a4 a.m.a5 a.m.a6 a.m.a7 a.m.a8 a.n = angle a.m.a3 a.m.a0 := by
  refine k_h F _ _ _ _ _ _ _ _ _ _ ?_
  unfold f_h fg_h
  obtain ⟨h, k⟩ := a_rHeading F hF (a1 := a.m.a1) (a2 := a.m.a2) (a4 := a.m.a4) (a5 := a.m.a5) (a6 := a.m.a6) (a7 := a.m.a7) (a8 := a.m.a8) hM.1 hM.2.2.2.1
  refine bp h ?_
  rw [k]
theorem a_Toward (F : Nat) (hF : 200 ≤ F) (A : Mt) (n k : Int) : ∃ z0 z1 z2 : Int, (ok_la F A.a0 A.a1 A.a2 A.a3 A.a4 A.a5 A.a6 A.a7 A.a8 n k = true ∧ o_la_0 F A.a0 A.a1 A.a2 A.a3 A.a4 A.a5 A.a6 A.a7 A.a8 n k = z0 ∧ o_la_1 F A.a0 A.a1 A.a2 A.a3 A.a4 A.a5 A.a6 A.a7 A.a8 n k = z1 ∧ o_la_2 F A.a0 A.a1 A.a2 A.a3 A.a4 A.a5 A.a6 A.a7 A.a8 n k = z2) ∧ ok_n F A.a0 A.a1 A.a2 A.a3 A.a4 A.a5 A.a6 A.a7 A.a8 n k = true ∧ o_n_0 F A.a0 A.a1 A.a2 A.a3 A.a4 A.a5 A.a6 A.a7 A.a8 n k = z0 ∧ o_n_1 F A.a0 A.a1 A.a2 A.a3 A.a4 A.a5 A.a6 A.a7 A.a8 n k = z1 ∧ o_n_2 F A.a0 A.a1 A.a2 A.a3 A.a4 A.a5 A.a6 A.a7 A.a8 n k = z2 := by
  obtain ⟨b, b0, b1, b2, b3, b4, b5, b6, b7, b8⟩ := a_mBack F hF A.a0 A.a1 A.a2 A.a3 A.a4 A.a5 A.a6 A.a7 A.a8
  by_cases h : 0 ≤ k ∧ k ≤ 2
  · rcases (show k = 0 ∨ k = 1 ∨ k = 2 by omega) with rfl | rfl | rfl
    · refine ⟨A.a0, A.a3, A.a6, k_la F _ _ _ _ _ _ _ _ _ _ _ ?_, k_n F _ _ _ _ _ _ _ _ _ _ _ ?_⟩
      · unfold f_la fg_la
        dsimp only
        rw [b0, b1, b2, b3, b4, b5, b6, b7, b8]
        exact bn rfl (bn rfl (bp b (bp rfl rfl)))
      · unfold f_n fg_n
        exact bn rfl (bn rfl (bp rfl (bp rfl (bp rfl (bp rfl (bp rfl (bp rfl rfl)))))))
    · refine ⟨A.a1, A.a4, A.a7, k_la F _ _ _ _ _ _ _ _ _ _ _ ?_, k_n F _ _ _ _ _ _ _ _ _ _ _ ?_⟩
      · unfold f_la fg_la
        dsimp only
        rw [b0, b1, b2, b3, b4, b5, b6, b7, b8]
        exact bn rfl (bn rfl (bp b (bp rfl rfl)))
      · unfold f_n fg_n
        exact bn rfl (bn rfl (bp rfl (bp rfl (bp rfl (bp rfl (bp rfl (bp rfl rfl)))))))
    · refine ⟨A.a2, A.a5, A.a8, k_la F _ _ _ _ _ _ _ _ _ _ _ ?_, k_n F _ _ _ _ _ _ _ _ _ _ _ ?_⟩
      · unfold f_la fg_la
        dsimp only
        rw [b0, b1, b2, b3, b4, b5, b6, b7, b8]
        exact bn rfl (bn rfl (bp b (bp rfl rfl)))
      · unfold f_n fg_n
        exact bn rfl (bn rfl (bp rfl (bp rfl (bp rfl (bp rfl (bp rfl (bp rfl rfl)))))))
  · refine ⟨0, 0, 0, k_la F _ _ _ _ _ _ _ _ _ _ _ ?_, k_n F _ _ _ _ _ _ _ _ _ _ _ ?_⟩
    · unfold f_la fg_la
      by_cases h0 : k < 0
      · exact bp (dt h0) rfl
      · exact bn (df h0) (bp (dt (by omega)) rfl)
    · unfold f_n fg_n
      by_cases h0 : k < 0
      · exact bp (dt h0) rfl
      · exact bn (df h0) (bp (dt (by omega)) rfl)
theorem a_rNew (F : Nat) : ok_ec F = true ∧ o_ec_0 F = newA.m.a0 ∧ o_ec_1 F = newA.m.a1 ∧ o_ec_2 F = newA.m.a2 ∧ o_ec_3 F = newA.m.a3 ∧ o_ec_4 F = newA.m.a4 ∧ o_ec_5 F = newA.m.a5 ∧ o_ec_6 F = newA.m.a6 ∧ o_ec_7 F = newA.m.a7 ∧ o_ec_8 F = newA.m.a8 ∧ o_ec_9 F = newA.n := by
  refine k_ec F ?_
  unfold f_ec fg_ec
  obtain ⟨m, m0, m1, m2, m3, m4, m5, m6, m7, m8⟩ := a_rSame F
  refine bp m ?_
  rw [m0, m1, m2, m3, m4, m5, m6, m7, m8]
  rfl
theorem a_plain (F : Nat) (y0 y1 y2 y3 y4 y5 y6 y7 y8 y9 : Int) : ok_r F y0 y1 y2 y3 y4 y5 y6 y7 y8 y9 = true ∧ o_r_0 F y0 y1 y2 y3 y4 y5 y6 y7 y8 y9 = y0 ∧ o_r_1 F y0 y1 y2 y3 y4 y5 y6 y7 y8 y9 = y1 ∧ o_r_2 F y0 y1 y2 y3 y4 y5 y6 y7 y8 y9 = y2 ∧ o_r_3 F y0 y1 y2 y3 y4 y5 y6 y7 y8 y9 = y3 ∧ o_r_4 F y0 y1 y2 y3 y4 y5 y6 y7 y8 y9 = y4 ∧ o_r_5 F y0 y1 y2 y3 y4 y5 y6 y7 y8 y9 = y5 ∧ o_r_6 F y0 y1 y2 y3 y4 y5 y6 y7 y8 y9 = y6 ∧ o_r_7 F y0 y1 y2 y3 y4 y5 y6 y7 y8 y9 = y7 ∧ o_r_8 F y0 y1 y2 y3 y4 y5 y6 y7 y8 y9 = y8 ∧ o_r_9 F y0 y1 y2 y3 y4 y5 y6 y7 y8 y9 = y9 := k_r F _ _ _ _ _ _ _ _ _ _ rfl
end Go.Xv
namespace Go.Xv
theorem f_AttTells (F : Nat) (hF : 200 ≤ F) {a0 a1 a2 a3 a4 a5 a6 a7 a8 a9 a10 a11 a12 a13 a14 a15 a16 a17 : Int} (h0 : I64 a0) (h1 : I64 a1) (h2 : I64 a2) (h3 : I64 a3) (h4 : I64 a4) (h5 : I64 a5) (h6 : I64 a6) (h7 : I64 a7) (h8 : I64 a8) (h9 : I64 a9) (h10 : I32 a10) (h11 : I32 a11) (h12 : I32 a12) (h13 : I64 a13) (h14 : I32 a14) (h15 : I32 a15) (h16 : I32 a16) (h17 : I64 a17) :
    f_c F a0 a1 a2 a3 a4 a5 a6 a7 a8 a9 a10 a11 a12 a13 a14 a15 a16 a17 = some (.v (.bool true)) := by
  have hM : MI (⟨a0, a1, a2, a3, a4, a5, a6, a7, a8⟩ : Mt) := ⟨h0, h1, h2, h3, h4, h5, h6, h7, h8⟩
  have hn : a9 ≤ 9223372036854775807 ∧ -9223372036854775808 ≤ a9 := by unfold I64 at h9; omega
  generalize hA : (⟨⟨a0, a1, a2, a3, a4, a5, a6, a7, a8⟩, a9⟩ : Att) = A
  have hm : A.m = ⟨a0, a1, a2, a3, a4, a5, a6, a7, a8⟩ := by rw [← hA]
  have e9 : A.n = a9 := by rw [← hA]
  have e0 : A.m.a0 = a0 := by rw [← hA]
  have e1 : A.m.a1 = a1 := by rw [← hA]
  have e2 : A.m.a2 = a2 := by rw [← hA]
  have e3 : A.m.a3 = a3 := by rw [← hA]
  have e4 : A.m.a4 = a4 := by rw [← hA]
  have e5 : A.m.a5 = a5 := by rw [← hA]
  have e6 : A.m.a6 = a6 := by rw [← hA]
  have e7 : A.m.a7 = a7 := by rw [← hA]
  have e8 : A.m.a8 = a8 := by rw [← hA]
  rw [← hm] at hM
  rw [← e9] at hn
  obtain ⟨s, s0, s1, s2, s3, s4, s5, s6, s7, s8, s9, s10⟩ := a_Step F hF hM hn (t := a13) h10 h11 h12
  obtain ⟨r, r0, r1, r2, r3, r4, r5, r6, r7, r8, r9, r10⟩ := a_rStep F hF hM hn (t := a13) h10 h11 h12
  obtain ⟨z0, z1, z2, zc, ⟨l, l0, l1, l2, l3⟩, m, m0, m1, m2, m3⟩ := a_aLift F hF hM h14 h15 h16
  obtain ⟨o, o0, o1, o2, o3, o4, o5, o6, o7, o8, o9, o10⟩ := a_attOf F hF hM
  obtain ⟨p, p0, p1, p2, p3, p4, p5, p6, p7, p8, p9, p10⟩ := a_ref27Of F hF hM
  obtain ⟨c, c0⟩ := a_aCheckE F hF A.n hM
  obtain ⟨d, d0⟩ := a_rCheck27 F hF A.n hM
  obtain ⟨u, u0⟩ := a_aHeading F hF hM
  obtain ⟨v, v0⟩ := a_rHeading27 F hF hM
  obtain ⟨y0, y1, y2, ⟨w, w0, w1, w2⟩, x, x0, x1, x2⟩ := a_Toward F hF A.m A.n a17
  obtain ⟨n, n0, n1, n2, n3, n4, n5, n6, n7, n8, n9⟩ := a_New F hF
  obtain ⟨q, q0, q1, q2, q3, q4, q5, q6, q7, q8, q9⟩ := a_rNew F
  obtain ⟨k, k0⟩ := a_works27 F hF
  unfold f_c fg_c
  dsimp only
  rw [← e0, ← e1, ← e2, ← e3, ← e4, ← e5, ← e6, ← e7, ← e8, ← e9]
  obtain ⟨g, g0, g1, g2, g3, g4, g5, g6, g7, g8, g9⟩ := a_plain F A.m.a0 A.m.a1 A.m.a2 A.m.a3 A.m.a4 A.m.a5 A.m.a6 A.m.a7 A.m.a8 A.n
  rw [g0, g1, g2, g3, g4, g5, g6, g7, g8, g9, s0, s1, s2, s3, s4, s5, s6, s7, s8, s9, s10, r0, r1, r2, r3, r4, r5, r6, r7, r8, r9, r10, l0, l1, l2, l3, m0, m1, m2, m3, o0, o1, o2, o3, o4, o5, o6, o7, o8, o9, o10, p0, p1, p2, p3, p4, p5, p6, p7, p8, p9, p10, c0, d0, u0, v0, w0, w1, w2, x0, x1, x2, n0, n1, n2, n3, n4, n5, n6, n7, n8, n9, q0, q1, q2, q3, q4, q5, q6, q7, q8, q9, k0]
  generalize stepA A (byV a10 a13) (byV a11 a13) (byV a12 a13) = S
  obtain ⟨a, A0, A1, A2, A3, A4, A5, A6, A7, A8, A9⟩ := a_plain F S.m.a0 S.m.a1 S.m.a2 S.m.a3 S.m.a4 S.m.a5 S.m.a6 S.m.a7 S.m.a8 S.n
  obtain ⟨b, B0, B1, B2, B3, B4, B5, B6, B7, B8, B9⟩ := a_plain F (ofV A.m A.m.a0) (ofV A.m A.m.a1) (ofV A.m A.m.a2) (ofV A.m A.m.a3) (ofV A.m A.m.a4) (ofV A.m A.m.a5) (ofV A.m A.m.a6) (ofV A.m A.m.a7) (ofV A.m A.m.a8) 0
  obtain ⟨j, J0, J1, J2, J3, J4, J5, J6, J7, J8, J9⟩ := a_plain F newA.m.a0 newA.m.a1 newA.m.a2 newA.m.a3 newA.m.a4 newA.m.a5 newA.m.a6 newA.m.a7 newA.m.a8 newA.n
  rw [A0, A1, A2, A3, A4, A5, A6, A7, A8, A9, B0, B1, B2, B3, B4, B5, B6, B7, B8, B9, J0, J1, J2, J3, J4, J5, J6, J7, J8, J9]
  have t : ∀ x : Int, (x == x) = true := fun x => by simp
  have tb : ∀ x : Bool, (x == x) = true := fun x => by simp
  refine bp s (bp g (bp r (bp l (bp g (bp m (bp o (bp p (bp a (bp (by simp) (bp (tb _) (bp (by simp) (bp (tb _) (bp b (bp (by simp) (bp (t _) (bp c (bp g (bp d (bp (t _) (bp u (bp g (bp v (bp (t _) (bp w (bp g (bp x (bp (by simp) (bp n (bp j (bp q (bp (by simp) (bp k rfl))))))))))))))))))))))))))))))))
end Go.Xv
namespace Go.Proofs.YtiahhalhbacgaaaGreat.attTells
open Go.ChangeShapes Go.WideShapes Go.ChangeAt Go.RowKit Go.Xv Go.Proofs.YtiahhalhbacgaaaGreat.base
set_option linter.unusedVariables false
set_option maxRecDepth 100000 in
theorem lifted (os : Os) (started : os.Started) (H : Type) (enc : TypeId × Value → H) :
    ReturnsInHanded {} Tryz.checked os 3 .any (Rows.attTellsSpec.pre6 enc Tryz.prog Tryz.f3 Rows.attTellsRow.domain false) (Rows.attTellsSpec.post enc Tryz.prog Tryz.f3 false true false false) := by
  refine returnsInHanded_of_change (C := Tryz.checked) own started (by kernel_rfl) Tryz.func3
    (ChangeSpec.witness6 (enc := enc) (C := Tryz.checked) false ⟨#[], #[.agg #[.int .i64 0, .int .i64 0, .int .i64 0, .int .i64 0, .int .i64 0, .int .i64 0, .int .i64 0, .int .i64 0, .int .i64 0, .int .i64 0], .agg #[.int .i32 0, .int .i32 0, .int .i32 0], .int .i64 0, .agg #[.int .i32 0, .int .i32 0, .int .i32 0], .int .i64 0], []⟩ 8 (by kernel_rfl) (by kernel_rfl) (by kernel_rfl) (by kernel_rfl)) ?_
  intro W base args ds gs before hval0 hW hcnd _
  have hval : ∀ (j : Nat) t v, Tryz.f3.params[j]? = some t → args[j]? = some v → Value.okWide Tryz.prog W .any base t v := hval0
  have hW' := hW
  obtain ⟨p, q, hA0, hV, rfl, hfz, hnd⟩ := hW
  have hA : DataW.TrodAll enc Tryz.prog W 0 (fun _ => true) true Tryz.f3.params.toList args.toList ds p := hA0
  rw [Tryz.params3] at hA hval
  obtain ⟨v0, vs0, d0, ds0, p0, q0, hargs, rfl, rfl, h0, r0⟩ := trodAll_cons hA
  obtain ⟨v1, vs1, d1, ds1, p1, q1, rfl, rfl, rfl, h1, r1⟩ := trodAll_cons r0
  obtain ⟨v2, vs2, d2, ds2, p2, q2, rfl, rfl, rfl, h2, r2⟩ := trodAll_cons r1
  obtain ⟨v3, vs3, d3, ds3, p3, q3, rfl, rfl, rfl, h3, r3⟩ := trodAll_cons r2
  obtain ⟨v4, vs4, d4, ds4, p4, q4, rfl, rfl, rfl, h4, r4⟩ := trodAll_cons r3
  obtain ⟨rfl, rfl, rfl⟩ := trodAll_nil r4
  obtain rfl : args = #[v0, v1, v2, v3, v4] := by cases args; simp_all
  obtain ⟨l0, rfl, f0⟩ := open_flat (ks := [some .i64, some .i64, some .i64, some .i64, some .i64, some .i64, some .i64, some .i64, some .i64, some .i64]) (by kernel_rfl) (by kernel_rfl) (hval 0 28 v0 rfl rfl) h0
  obtain ⟨a0, l0, rfl, wa0, f0⟩ := fitW_some f0
  obtain ⟨a1, l0, rfl, wa1, f0⟩ := fitW_some f0
  obtain ⟨a2, l0, rfl, wa2, f0⟩ := fitW_some f0
  obtain ⟨a3, l0, rfl, wa3, f0⟩ := fitW_some f0
  obtain ⟨a4, l0, rfl, wa4, f0⟩ := fitW_some f0
  obtain ⟨a5, l0, rfl, wa5, f0⟩ := fitW_some f0
  obtain ⟨a6, l0, rfl, wa6, f0⟩ := fitW_some f0
  obtain ⟨a7, l0, rfl, wa7, f0⟩ := fitW_some f0
  obtain ⟨a8, l0, rfl, wa8, f0⟩ := fitW_some f0
  obtain ⟨a9, l0, rfl, wa9, f0⟩ := fitW_some f0
  obtain rfl := fitW_nil f0
  obtain ⟨l1, rfl, f1⟩ := open_flat (ks := [some .i32, some .i32, some .i32]) (by kernel_rfl) (by kernel_rfl) (hval 1 30 v1 rfl rfl) h1
  obtain ⟨a10, l1, rfl, wa10, f1⟩ := fitW_some f1
  obtain ⟨a11, l1, rfl, wa11, f1⟩ := fitW_some f1
  obtain ⟨a12, l1, rfl, wa12, f1⟩ := fitW_some f1
  obtain rfl := fitW_nil f1
  obtain ⟨a13, rfl, wa13⟩ := open_num (k := .i64) (by kernel_rfl) (hval 2 3 v2 rfl rfl) h2
  obtain ⟨l3, rfl, f3⟩ := open_flat (ks := [some .i32, some .i32, some .i32]) (by kernel_rfl) (by kernel_rfl) (hval 3 30 v3 rfl rfl) h3
  obtain ⟨a14, l3, rfl, wa14, f3⟩ := fitW_some f3
  obtain ⟨a15, l3, rfl, wa15, f3⟩ := fitW_some f3
  obtain ⟨a16, l3, rfl, wa16, f3⟩ := fitW_some f3
  obtain rfl := fitW_nil f3
  obtain ⟨a17, rfl, wa17⟩ := open_num (k := .i64) (by kernel_rfl) (hval 4 3 v4 rfl rfl) h4
  refine law_contract laidOut (g_c fuel0) (bt := 4) (by kernel_rfl) (by kernel_rfl) (by kernel_rfl) (by kernel_rfl) rfl hW' ?_
  refine ⟨[.v (.agg #[.int .i64 a0, .int .i64 a1, .int .i64 a2, .int .i64 a3, .int .i64 a4, .int .i64 a5, .int .i64 a6, .int .i64 a7, .int .i64 a8, .int .i64 a9]), .v (.agg #[.int .i32 a10, .int .i32 a11, .int .i32 a12]), .v (.int .i64 a13), .v (.agg #[.int .i32 a14, .int .i32 a15, .int .i32 a16]), .v (.int .i64 a17)], rfl, fun i x hx => ?_, unS_of ?_⟩
  · match i, hx with
    | 0, hx => exact ⟨_, rfl, by cases hx; exact Rel.v _ _⟩
    | 1, hx => exact ⟨_, rfl, by cases hx; exact Rel.v _ _⟩
    | 2, hx => exact ⟨_, rfl, by cases hx; exact Rel.v _ _⟩
    | 3, hx => exact ⟨_, rfl, by cases hx; exact Rel.v _ _⟩
    | 4, hx => exact ⟨_, rfl, by cases hx; exact Rel.v _ _⟩
    | _ + 5, hx => cases hx
  · obtain ⟨y1, y2⟩ := k_c fuel0 a0 a1 a2 a3 a4 a5 a6 a7 a8 a9 a10 a11 a12 a13 a14 a15 a16 a17 (f_AttTells fuel0 (by unfold fuel0; omega) (wf_i64 wa0) (wf_i64 wa1) (wf_i64 wa2) (wf_i64 wa3) (wf_i64 wa4) (wf_i64 wa5) (wf_i64 wa6) (wf_i64 wa7) (wf_i64 wa8) (wf_i64 wa9) (wf_i32 wa10) (wf_i32 wa11) (wf_i32 wa12) (wf_i64 wa13) (wf_i32 wa14) (wf_i32 wa15) (wf_i32 wa16) (wf_i64 wa17))
    have e : s_c fuel0 [.v (.agg #[.int .i64 a0, .int .i64 a1, .int .i64 a2, .int .i64 a3, .int .i64 a4, .int .i64 a5, .int .i64 a6, .int .i64 a7, .int .i64 a8, .int .i64 a9]), .v (.agg #[.int .i32 a10, .int .i32 a11, .int .i32 a12]), .v (.int .i64 a13), .v (.agg #[.int .i32 a14, .int .i32 a15, .int .i32 a16]), .v (.int .i64 a17)] = some (ok_c fuel0 a0 a1 a2 a3 a4 a5 a6 a7 a8 a9 a10 a11 a12 a13 a14 a15 a16 a17, .v (.bool (o_c_0 fuel0 a0 a1 a2 a3 a4 a5 a6 a7 a8 a9 a10 a11 a12 a13 a14 a15 a16 a17))) := by kernel_rfl
    rw [e, y1, y2]
theorem over : Rows.attTellsRow.holds Tryz.pinned (OpenSpec.ofChange Rows.attTellsSpec) :=
  OpenClaim.holds_of_wide 3 Tryz.f3 rfl rfl rfl rfl rfl rfl rfl ⟨rfl, rfl, rfl, rfl, rfl⟩ rfl rfl rfl rfl rfl (by kernel_rfl) Tryz.func3 (joined_of (P := Tryz.prog) behind enter_ rfl rfl ⟨rfl, rfl⟩ (by kernel_rfl))
    (of_decide_eq_true (by kernel_rfl)) (by unfold Func.isWrapper; first | (rw [if_pos (by decide +kernel)]; kernel_rfl) | (rw [if_neg (by decide +kernel)]; exact ⟨rfl, rfl⟩))
    (fun os started H enc _ => lifted os started H enc)
/-- The statement. -/
theorem proved : Rows.AttTellsSaid := over
#print axioms proved
end Go.Proofs.YtiahhalhbacgaaaGreat.attTells
