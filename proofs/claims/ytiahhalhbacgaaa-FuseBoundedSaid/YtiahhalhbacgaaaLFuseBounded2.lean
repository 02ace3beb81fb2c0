/- FuseBounded: no axis is ever above the limit, or changes by more than Step at once. -/
import Derived.Test.YtiahhalhbacgaaaLFuseBounded
namespace Go.Xv
theorem a_Among5 (F : Nat) (x : Int) : ok_g F x 5 = true ∧ o_g_0 F x 5 = x % 18446744073709551616 % 5 := by
  refine k_g F _ _ ?_
  unfold f_g fg_g
  have w : IntKind.wrap .u64 5 = 5 := by decide
  refine bn rfl ?_
  rw [w]
  refine bp rfl (some_int ?_)
  rw [wu64, Int.tmod_eq_emod_of_nonneg (by omega), wi64_in (by unfold I64; omega)]
theorem t2 (x : Int) : Int.tdiv x 2 = if 0 ≤ x then x / 2 else -(-x / 2) := by
  split
  · exact Int.tdiv_eq_ediv_of_nonneg (by assumption)
  · have e : x = -(-x) := by omega
    rw [show Int.tdiv x 2 = Int.tdiv (-(-x)) 2 by rw [← e], Int.neg_tdiv, Int.tdiv_eq_ediv_of_nonneg (by omega)]
def Step1 (s a b : Int) : Prop := a - b ≤ s ∧ b - a ≤ s
theorem step_half {s a b : Int} (h0 : 0 ≤ s) (h : Step1 s a b) (ha : I64 a) (hb : I64 b) : IntKind.wrap .i64 (IntKind.wrap .i64 (Int.tdiv a 2) - IntKind.wrap .i64 (Int.tdiv b 2)) ≤ Int.tdiv s 2 + 1 := by
  obtain ⟨h1, h2⟩ := h
  rw [t2, t2, t2, if_pos h0]
  unfold I64 at *
  have ea : (if 0 ≤ a then a / 2 else -(-a / 2)) ≤ 4611686018427387904 ∧ -4611686018427387904 ≤ (if 0 ≤ a then a / 2 else -(-a / 2)) := by split <;> omega
  have eb : (if 0 ≤ b then b / 2 else -(-b / 2)) ≤ 4611686018427387904 ∧ -4611686018427387904 ≤ (if 0 ≤ b then b / 2 else -(-b / 2)) := by split <;> omega
  have key : (if 0 ≤ a then a / 2 else -(-a / 2)) - (if 0 ≤ b then b / 2 else -(-b / 2)) ≤ s / 2 + 1 := by split <;> split <;> omega
  generalize (if 0 ≤ a then a / 2 else -(-a / 2)) = u at *
  generalize (if 0 ≤ b then b / 2 else -(-b / 2)) = v at *
  rw [wi64_in (x := u) (by unfold I64; omega), wi64_in (x := v) (by unfold I64; omega)]
  by_cases hr : u - v ≤ 9223372036854775807
  · rw [wi64_in (by unfold I64; omega)]; exact key
  · rw [wi64]; omega
theorem wrap_half {s : Int} (h0 : 0 ≤ s) (hs : I64 s) : IntKind.wrap .i64 (IntKind.wrap .i64 (Int.tdiv s 2) + 1) = Int.tdiv s 2 + 1 := by
  rw [t2, if_pos h0]
  unfold I64 at hs
  rw [wi64_in (x := s / 2) (by unfold I64; omega), wi64_in (by unfold I64; omega)]
theorem pull_step {g s l c off : Int} (hs : 0 ≤ s) (hl : 0 ≤ l) (hc : -l ≤ c ∧ c ≤ l) (hlI : I64 l) : Step1 s (pullV g s l c off) c ∧ (-l ≤ pullV g s l c off ∧ pullV g s l c off ≤ l) := by
  unfold pullV Step1
  unfold I64 at hlI
  have h1 : -s ≤ clmV (off / 2 ^ g.toNat) s ∧ clmV (off / 2 ^ g.toNat) s ≤ s := by unfold clmV; omega
  generalize clmV (off / 2 ^ g.toNat) s = d at *
  have h2 : (c ≤ c + d → c ≤ clipV (c + d) ∧ clipV (c + d) ≤ c + d) ∧ (c + d ≤ c → clipV (c + d) ≤ c ∧ c + d ≤ clipV (c + d)) := by
    unfold clipV; split <;> (try split) <;> omega
  generalize clipV (c + d) = e at *
  unfold clmV
  omega
theorem ax_step {g s l c off n k : Int} (hs : 0 ≤ s) (hl : 0 ≤ l) (hc : -l ≤ c ∧ c ≤ l) (hlI : I64 l) : Step1 s (axV n k (pullV g s l c off) c) c ∧ (-l ≤ axV n k (pullV g s l c off) c ∧ axV n k (pullV g s l c off) c ≤ l) := by
  unfold axV
  split
  · exact pull_step hs hl hc hlI
  · exact ⟨by unfold Step1; omega, hc⟩
theorem fd_step {s h la t l c : Int} (hs : 0 ≤ s) (hl : 0 ≤ l) (hc : -l ≤ c ∧ c ≤ l) : Step1 s (fdV s h la t c) c ∧ (-l ≤ fdV s h la t c ∧ fdV s h la t c ≤ l) := by
  unfold fdV fadeV Step1
  split
  · omega
  · split <;> omega
theorem n0_spec (F : Nat) (hF : 200 ≤ F) (ex0 ex1) (x0 x1 x2 x3 : Int) (x4 : List VV) (x5 x6 : Nat) (x7 : List VV) (x8 x9 : Nat) (x10 : Bool) (x11 x12 x13 x14 : Int) {g s l h c0 c1 c2 la d0 d1 d2 ma : Int} (hs0 : 0 ≤ s) (hs : I64 s)
    (k0 : Step1 s c0 d0) (k1 : Step1 s c1 d1) (k2 : Step1 s c2 d2) (i0 : I64 c0) (i1 : I64 c1) (i2 : I64 c2) (j0 : I64 d0) (j1 : I64 d1) (j2 : I64 d2) :
    N_a_0 F ex0 ex1 x0 x1 x2 x3 x4 x5 x6 x7 x8 x9 x10 x11 x12 x13 x14 g s l h c0 c1 c2 la d0 d1 d2 ma = ex1 x0 x1 x2 x3 x4 x5 x6 x7 x8 x9 x10 x11 x12 x13 x14 3 g s l h c0 c1 c2 la d0 d1 d2 ma := by
  have w0 : IntKind.wrap .i64 (0 + 1) = 1 := by decide
  have w1 : IntKind.wrap .i64 (1 + 1) = 2 := by decide
  have w2 : IntKind.wrap .i64 (2 + 1) = 3 := by decide
  obtain ⟨G, hG⟩ : ∃ G, F = G + 4 := ⟨F - 4, by omega⟩
  unfold N_a_0 Ng_a_0
  rw [show L_a_0 F _ _ F = L_a_0 F _ _ (G + 4) from congrArg (L_a_0 F _ _) hG]
  rw [L_a_0]
  unfold B_a_0 Bg_a_0
  dsimp only
  refine bp rfl (bp rfl (bp rfl (bp rfl (bp rfl (bp rfl (bp rfl (bp rfl (bp rfl (bn ?_ (bn ?_ ?_))))))))))
  · rw [wrap_half hs0 hs]; exact df (by have := step_half hs0 k0 i0 j0; exact Int.not_lt.2 this)
  · rw [wrap_half hs0 hs]; exact df (by have := step_half (a := d0) (b := c0) hs0 ⟨k0.2, k0.1⟩ j0 i0; exact Int.not_lt.2 this)
  rw [w0, L_a_0]
  unfold B_a_0 Bg_a_0
  dsimp only
  refine bp rfl (bp rfl (bp rfl (bp rfl (bp rfl (bp rfl (bp rfl (bp rfl (bp rfl (bn ?_ (bn ?_ ?_))))))))))
  · rw [wrap_half hs0 hs]; exact df (by have := step_half hs0 k1 i1 j1; exact Int.not_lt.2 this)
  · rw [wrap_half hs0 hs]; exact df (by have := step_half (a := d1) (b := c1) hs0 ⟨k1.2, k1.1⟩ j1 i1; exact Int.not_lt.2 this)
  rw [w1, L_a_0]
  unfold B_a_0 Bg_a_0
  dsimp only
  refine bp rfl (bp rfl (bp rfl (bp rfl (bp rfl (bp rfl (bp rfl (bp rfl (bp rfl (bn ?_ (bn ?_ ?_))))))))))
  · rw [wrap_half hs0 hs]; exact df (by have := step_half hs0 k2 i2 j2; exact Int.not_lt.2 this)
  · rw [wrap_half hs0 hs]; exact df (by have := step_half (a := d2) (b := c2) hs0 ⟨k2.2, k2.1⟩ j2 i2; exact Int.not_lt.2 this)
  rw [w2, L_a_0]
  unfold B_a_0 Bg_a_0
  dsimp only
  exact bn rfl rfl
theorem n1_spec (F : Nat) (hF : 200 ≤ F) (ex0 ex1 ex2) (x0 x1 x2 x3 : Int) (x4 : List VV) (x5 x6 : Nat) (x7 : List VV) (x8 x9 : Nat) (x10 : Bool) (x11 x12 x13 x14 : Int) {g s l h c0 c1 c2 la d0 d1 d2 ma : Int} (hr : RuleOK g s l h) (hs : I64 s) (hl : I64 l) (hc : CorrOK l c0 c1 c2 la) (hd : CorrOK l d0 d1 d2 ma)
    (k0 : Step1 s c0 d0) (k1 : Step1 s c1 d1) (k2 : Step1 s c2 d2) (h0 : x14 = 0) :
    N_a_1 F ex0 ex1 ex2 x0 x1 x2 x3 x4 x5 x6 x7 x8 x9 x10 x11 x12 x13 x14 g s l h c0 c1 c2 la d0 d1 d2 ma = ex2 x0 x1 x2 x3 x4 x5 x6 x7 x8 x9 x10 x11 x12 x13 x14 3 g s l h c0 c1 c2 la d0 d1 d2 ma := by
  obtain ⟨i0, i1, i2⟩ := corr_I hl hc
  obtain ⟨j0, j1, j2⟩ := corr_I hl hd
  obtain ⟨r0, r1⟩ := a_fRight F hF (g := g) (s := s) (h := h) (c0 := c0) (c1 := c1) (c2 := c2) (t := la) hl
  unfold N_a_1 Ng_a_1
  refine bn (by rw [h0]; rfl) (bp r0 (bn (by rw [r1, err_ok ⟨hr, hc⟩]; rfl) ?_))
  exact n0_spec F hF _ _ x0 x1 x2 x3 x4 x5 x6 x7 x8 x9 x10 x11 x12 x13 x14 hr.2.2.1 hs k0 k1 k2 i0 i1 i2 j0 j1 j2
/-- a row of vectors -/
theorem rows_get (k : IntKind) (zs : List Int) {j : Nat} (h : j < zs.length) : isI k (zs.map fun z => VV.v (.int k z))[j]? = true ∧ iv (zs.map fun z => VV.v (.int k z))[j]? = zs[j] := by
  have : (zs.map fun z => VV.v (.int k z))[j]? = some (.v (.int k zs[j])) := by simp [h]
  rw [this]
  exact ⟨by simp [isI], rfl⟩
theorem n2_spec (F : Nat) (hF : 200 ≤ F) (ex0 ex1 ex2) (x0 x1 x2 x3 : Int) (zs : List Int) (hz : ∀ z ∈ zs, I64 z) {i len : Nat} (hlen : len * 3 ≤ zs.length) (hi : i < len) (hi2 : i < 60) (x7 : List VV) (x8 x9 : Nat) (x10 : Bool) {t n : Int} (ht : 0 ≤ t ∧ t ≤ 40000 * i) (hn : -1 ≤ n ∧ n ≤ 3) {g s l h c0 c1 c2 la : Int} (hr : RuleOK g s l h) (hs : I64 s) (hl : I64 l) (hc : CorrOK l c0 c1 c2 la) (hla : la ≤ t) :
    ∃ t' d0 d1 d2 ma : Int, 0 ≤ t' ∧ t' ≤ 40000 * (i + 1) ∧ CorrOK l d0 d1 d2 ma ∧ ma ≤ t' ∧
    N_a_2 F ex0 ex1 ex2 x0 x1 x2 x3 (zs.map fun z => .v (.int .i64 z)) 0 len x7 x8 x9 x10 t i n g s l h c0 c1 c2 la = ex2 x0 x1 x2 x3 (zs.map fun z => .v (.int .i64 z)) 0 len x7 x8 x9 x10 t' i n 0 3 g s l h d0 d1 d2 ma c0 c1 c2 la := by
  obtain ⟨hla0, b0, b1, b2⟩ := hc
  have hc : CorrOK l c0 c1 c2 la := ⟨hla0, b0, b1, b2⟩
  have s0 := hr.2.2.1
  have l0 := hr.2.2.2.1
  by_cases hneg : n < 0
  · have w : IntKind.wrap .i64 (t + 40000) = t + 40000 := wi64_in (by unfold I64; omega)
    obtain ⟨p0, p1, p2, p3, p4, p5⟩ := k_m F _ _ _ _ _ _ _ _ _ (f_fFade_ok F hF (g := g) (t := t + 40000) hs hl ⟨hr, hc, by omega, by omega⟩)
    obtain ⟨u0, v0⟩ := fd_step (h := h) (la := la) (t := t + 40000) s0 l0 b0
    obtain ⟨u1, v1⟩ := fd_step (h := h) (la := la) (t := t + 40000) s0 l0 b1
    obtain ⟨u2, v2⟩ := fd_step (h := h) (la := la) (t := t + 40000) s0 l0 b2
    refine ⟨t + 40000, _, _, _, la, by omega, by omega, ⟨hla0, v0, v1, v2⟩, by omega, ?_⟩
    unfold N_a_2 Ng_a_2
    dsimp only
    rw [w, p1, p2, p3, p4, p5]
    refine bp (dt hneg) (bp p0 ?_)
    exact n1_spec F hF _ _ _ x0 x1 x2 x3 _ 0 len x7 x8 x9 x10 (t + 40000) i n 0 hr hs hl ⟨hla0, v0, v1, v2⟩ hc u0 u1 u2 rfl
  · have w : IntKind.wrap .i64 (t + 1) = t + 1 := wi64_in (by unfold I64; omega)
    obtain ⟨g0, e0⟩ := rows_get .i64 zs (j := i * 3) (by omega)
    obtain ⟨g1, e1⟩ := rows_get .i64 zs (j := i * 3 + 1) (by omega)
    obtain ⟨g2, e2⟩ := rows_get .i64 zs (j := i * 3 + 1 + 1) (by omega)
    obtain ⟨p0, p1, p2, p3, p4, p5⟩ := k_n F _ _ _ _ _ _ _ _ _ _ _ _ _ (f_fPull_ok F hF (g := g) (n := n) (t := t + 1) hs hl (hz zs[i * 3] (List.getElem_mem _)) (hz zs[i * 3 + 1] (List.getElem_mem _)) (hz zs[i * 3 + 1 + 1] (List.getElem_mem _)) ⟨hr, hc, by omega, by omega, by omega⟩)
    obtain ⟨u0, v0⟩ := ax_step (g := g) (off := zs[i * 3]) (n := n) (k := 0) s0 l0 b0 hl
    obtain ⟨u1, v1⟩ := ax_step (g := g) (off := zs[i * 3 + 1]) (n := n) (k := 1) s0 l0 b1 hl
    obtain ⟨u2, v2⟩ := ax_step (g := g) (off := zs[i * 3 + 1 + 1]) (n := n) (k := 2) s0 l0 b2 hl
    refine ⟨t + 1, _, _, _, t + 1, by omega, by omega, ⟨by omega, v0, v1, v2⟩, by omega, ?_⟩
    unfold N_a_2 Ng_a_2
    dsimp only
    rw [show 0 + Int.toNat (i : Int) * 3 = i * 3 by rw [Int.toNat_natCast]; omega, e0, e1, e2, w, p1, p2, p3, p4, p5]
    refine bn (df hneg) (bp (by rw [dt (by omega), dt (by omega)]; rfl) (bp (by rw [g0, g1, g2]; rfl) (bp p0 ?_)))
    exact n1_spec F hF _ _ _ x0 x1 x2 x3 _ 0 len x7 x8 x9 x10 (t + 1) i n 0 hr hs hl ⟨by omega, v0, v1, v2⟩ hc u0 u1 u2 rfl
theorem lp_Bounded (F : Nat) (hF : 200 ≤ F) (ex0 ex1) (x0 x1 x2 x3 : Int) (zs : List Int) (hz : ∀ z ∈ zs, I64 z) {len : Nat} (hlen : len * 3 ≤ zs.length) (axs : List Int) {alen : Nat} (halen : alen ≤ axs.length) {g s l h : Int} (hr : RuleOK g s l h) (hs : I64 s) (hl : I64 l) :
    ∀ (k n i : Nat) (t c0 c1 c2 la : Int), i + k = 60 → k < n → (0 ≤ t ∧ t ≤ 40000 * i) → CorrOK l c0 c1 c2 la → la ≤ t →
      L_a_1 F ex0 ex1 (fun _ _ _ _ _ _ _ _ _ _ _ _ _ _ _ _ _ _ _ _ _ => some (.v (.bool true))) n x0 x1 x2 x3 (zs.map fun z => .v (.int .i64 z)) 0 len (axs.map fun z => .v (.int .i64 z)) 0 alen false t i g s l h c0 c1 c2 la = some (.v (.bool true))
  | _, 0, _, _, _, _, _, _, _, h, _, _, _ => absurd h (by omega)
  | 0, n + 1, i, t, c0, c1, c2, la, hi, _, _, _, _ => by
    rw [L_a_1]
    unfold B_a_1 Bg_a_1
    dsimp only
    by_cases h : (i : Int) < len
    · exact bp (dt h) (bn (df (by omega)) rfl)
    · exact bn (df h) rfl
  | k + 1, n + 1, i, t, c0, c1, c2, la, hi, hk, ht, hc, hla => by
    have ih := lp_Bounded F hF ex0 ex1 x0 x1 x2 x3 zs hz hlen axs halen hr hs hl k n (i + 1)
    have w : IntKind.wrap .i64 ((i : Int) + 1) = ((i + 1 : Nat) : Int) := by rw [wi64_in (by unfold I64; omega)]; omega
    rw [L_a_1]
    unfold B_a_1 Bg_a_1
    dsimp only
    by_cases h : (i : Int) < len
    · refine bp (dt h) (bp (dt (by omega)) ?_)
      unfold N_a_3 Ng_a_3
      dsimp only
      by_cases ha : (i : Int) < alen
      · obtain ⟨g0, e0⟩ := rows_get .i64 axs (j := i) (by omega)
        obtain ⟨a0, a1⟩ := a_Among5 F axs[i]
        rw [show 0 + Int.toNat (i : Int) * 1 = i by rw [Int.toNat_natCast]; omega, e0, a1]
        refine bp (dt ha) (bp (by rw [dt (by omega), dt (by omega)]; rfl) (bp (by rw [g0]; rfl) (bp a0 ?_)))
        rw [wi64_in (x := axs[i] % 18446744073709551616 % 5 - 1) (by unfold I64; omega)]
        obtain ⟨t', d0, d1, d2, ma, q1, q2, q3, q4, q5⟩ := n2_spec F hF (fun x0 x1 x2 x3 x4 x5 x6 x7 x8 x9 x10 x11 x12 x13 x14 x15 x16 x17 x18 x19 x20 x21 x22 x23 x24 x25 x26 => ex0 x0 x1 x2 x3 x4 x5 x6 x7 x8 x9 x10 x11 x12 x13 x14 x15 x16 x17 x18 x19 x20 x21 x22 x23 x24 x25 x26) (fun x0 x1 x2 x3 x4 x5 x6 x7 x8 x9 x10 x11 x12 x13 x14 x15 x16 x17 x18 x19 x20 x21 x22 x23 x24 x25 x26 x27 x28 x29 => ex1 x0 x1 x2 x3 x4 x5 x6 x7 x8 x9 x10 x11 x12 x13 x14 x15 x16 x17 x18 x19 x20 x21 x22 x23 x24 x25 x26 x27 x28 x29) (fun x0 x1 x2 x3 x4 x5 x6 x7 x8 x9 x10 x11 x12 x13 x14 x15 x16 x17 x18 x19 x20 x21 x22 x23 x24 x25 x26 x27 => L_a_1 F ex0 ex1 (fun _ _ _ _ _ _ _ _ _ _ _ _ _ _ _ _ _ _ _ _ _ => some (.v (.bool true))) n x0 x1 x2 x3 x4 x5 x6 x7 x8 x9 x10 x11 (IntKind.wrap .i64 (x12 + 1)) x16 x17 x18 x19 x20 x21 x22 x23) x0 x1 x2 x3 zs hz hlen (i := i) (by omega) (by omega) (axs.map fun z => .v (.int .i64 z)) 0 alen false (t := t) (n := axs[i] % 18446744073709551616 % 5 - 1) (by omega) (by omega) hr hs hl hc hla
        refine q5.trans ?_
        rw [w]
        exact ih t' d0 d1 d2 ma (by omega) (by omega) (by omega) q3 q4
      · refine bn (df ha) ?_
        obtain ⟨t', d0, d1, d2, ma, q1, q2, q3, q4, q5⟩ := n2_spec F hF (fun x0 x1 x2 x3 x4 x5 x6 x7 x8 x9 x10 x11 x12 x13 x14 x15 x16 x17 x18 x19 x20 x21 x22 x23 x24 x25 x26 => ex0 x0 x1 x2 x3 x4 x5 x6 x7 x8 x9 x10 x11 x12 x13 x14 x15 x16 x17 x18 x19 x20 x21 x22 x23 x24 x25 x26) (fun x0 x1 x2 x3 x4 x5 x6 x7 x8 x9 x10 x11 x12 x13 x14 x15 x16 x17 x18 x19 x20 x21 x22 x23 x24 x25 x26 x27 x28 x29 => ex1 x0 x1 x2 x3 x4 x5 x6 x7 x8 x9 x10 x11 x12 x13 x14 x15 x16 x17 x18 x19 x20 x21 x22 x23 x24 x25 x26 x27 x28 x29) (fun x0 x1 x2 x3 x4 x5 x6 x7 x8 x9 x10 x11 x12 x13 x14 x15 x16 x17 x18 x19 x20 x21 x22 x23 x24 x25 x26 x27 => L_a_1 F ex0 ex1 (fun _ _ _ _ _ _ _ _ _ _ _ _ _ _ _ _ _ _ _ _ _ => some (.v (.bool true))) n x0 x1 x2 x3 x4 x5 x6 x7 x8 x9 x10 x11 (IntKind.wrap .i64 (x12 + 1)) x16 x17 x18 x19 x20 x21 x22 x23) x0 x1 x2 x3 zs hz hlen (i := i) (by omega) (by omega) (axs.map fun z => .v (.int .i64 z)) 0 alen false (t := t) (n := 3) (by omega) (by omega) hr hs hl hc hla
        refine q5.trans ?_
        rw [w]
        exact ih t' d0 d1 d2 ma (by omega) (by omega) (by omega) q3 q4
    · exact bn (df h) rfl
theorem f_FuseBounded (F : Nat) (hF : 200 ≤ F) {a0 a1 a2 a3 : Int} (h0 : I64 a0) (h1 : I64 a1) (h2 : I64 a2) (h3 : I64 a3) {zs : List Int} {len : Nat} (hz : ∀ z ∈ zs, I64 z) (hlen : len * 3 ≤ zs.length) {axs : List Int} {alen : Nat} (has : ∀ z ∈ axs, I64 z) (halen : alen ≤ axs.length) :
    f_a F a0 a1 a2 a3 (zs.map fun n => .v (.int .i64 n)) 0 len (axs.map fun n => .v (.int .i64 n)) 0 alen = some (.v (.bool true)) := by
  obtain ⟨w0, w1⟩ := a_works28 F hF
  obtain ⟨k0, k1⟩ := a_fCheck F a0 a1 a2 a3
  unfold f_a fg_a
  refine bp w0 (bn (by rw [w1]; rfl) (bp k0 ?_))
  rw [k1]
  by_cases hr : RuleOK a0 a1 a2 a3
  · rw [err_ok hr]
    have l0 := hr.2.2.2.1
    exact bn rfl (lp_Bounded F hF _ _ a0 a1 a2 a3 zs hz hlen axs halen hr h1 h2 60 F 0 0 0 0 0 0 (by omega) (by omega) (by omega) ⟨by omega, ⟨by omega, by omega⟩, ⟨by omega, by omega⟩, ⟨by omega, by omega⟩⟩ (by omega))
  · rw [err_no hr]
    obtain ⟨p0, p1, p2, p3, p4, p5⟩ := k_n F _ _ _ _ _ _ _ _ _ _ _ _ _ (f_fPull_no F hF (g := a0) (s := a1) (l := a2) (h := a3) (c0 := 0) (c1 := 0) (c2 := 0) (la := 0) (o0 := 0) (o1 := 0) (o2 := 0) (n := 3) (t := 0) h2 fun h => hr h.1)
    exact bp rfl (bp p0 (some_bool (by rw [p5]; rfl)))
end Go.Xv
namespace Go.Proofs.Ytiahhalhbacgaaa.fuseBounded
open Go.ChangeShapes Go.WideShapes Go.ChangeAt Go.RowKit Go.Xv Go.Proofs.Ytiahhalhbacgaaa.base
set_option linter.unusedVariables false
set_option maxRecDepth 100000 in
theorem lifted (os : Os) (started : os.Started) (H : Type) (enc : TypeId × Value → H) :
    ReturnsInHanded {} Try.checked os 5 .any (Rows.fuseBoundedSpec.pre6 enc Try.prog Try.f5 Rows.fuseBoundedRow.domain false) (Rows.fuseBoundedSpec.post enc Try.prog Try.f5 false true false false) := by
  refine returnsInHanded_of_change (C := Try.checked) own started (by kernel_rfl) Try.func5
    (ChangeSpec.witness6 (enc := enc) (C := Try.checked) false ⟨#[], #[.agg #[.int .i64 0, .int .i64 0, .int .i64 0, .int .i64 0], .slice none 0 0, .slice none 0 0], []⟩ 8 (by kernel_rfl) (by kernel_rfl) (by kernel_rfl) (by kernel_rfl)) ?_
  intro W base args ds gs before hval0 hW hcnd _
  have hval : ∀ (j : Nat) t v, Try.f5.params[j]? = some t → args[j]? = some v → Value.okWide Try.prog W .any base t v := hval0
  have hW' := hW
  obtain ⟨p, q, hA0, hV, rfl, hfz, hnd⟩ := hW
  have hA : DataW.TrodAll enc Try.prog W 0 (fun _ => true) true Try.f5.params.toList args.toList ds p := hA0
  rw [Try.params5] at hA hval
  obtain ⟨v0, vs0, d0, ds0, p0, q0, hargs, rfl, rfl, h0, r0⟩ := trodAll_cons hA
  obtain ⟨v1, vs1, d1, ds1, p1, q1, rfl, rfl, rfl, h1, r1⟩ := trodAll_cons r0
  obtain ⟨v2, vs2, d2, ds2, p2, q2, rfl, rfl, rfl, h2, r2⟩ := trodAll_cons r1
  obtain ⟨rfl, rfl, rfl⟩ := trodAll_nil r2
  obtain rfl : args = #[v0, v1, v2] := by cases args; simp_all
  obtain ⟨l0, rfl, f0⟩ := open_flat (ks := [some .i64, some .i64, some .i64, some .i64]) (by kernel_rfl) (by kernel_rfl) (hval 0 24 v0 rfl rfl) h0
  obtain ⟨a0, l0, rfl, wa0, f0⟩ := fitW_some f0
  obtain ⟨a1, l0, rfl, wa1, f0⟩ := fitW_some f0
  obtain ⟨a2, l0, rfl, wa2, f0⟩ := fitW_some f0
  obtain ⟨a3, l0, rfl, wa3, f0⟩ := fitW_some f0
  obtain rfl := fitW_nil f0
  obtain ⟨z1, len1, cap1, p1, rfl, hl1, hw1, hr1⟩ := open_rows_int 3 (e := 29) (k := .i64) (by kernel_rfl) (by kernel_rfl) (by kernel_rfl) rfl (hval 1 48 v1 rfl rfl) h1
  obtain ⟨z2, len2, cap2, p2, rfl, hl2, hz2, hw2, hr2⟩ := open_row (e := 3) (k := .i64) (by kernel_rfl) (by kernel_rfl) (by kernel_rfl) (hval 2 49 v2 rfl rfl) h2
  refine law_contract laidOut (g_a fuel0) (bt := 4) (by kernel_rfl) (by kernel_rfl) (by kernel_rfl) (by kernel_rfl) rfl hW' ?_
  refine ⟨[.v (.agg #[.int .i64 a0, .int .i64 a1, .int .i64 a2, .int .i64 a3]), .fs (z1.map fun n => .v (.int .i64 n)) 0 len1 3, .fs (z2.map fun n => .v (.int .i64 n)) 0 len2 1], rfl, fun i x hx => ?_, unS_of ?_⟩
  · match i, hx with
    | 0, hx => exact ⟨_, rfl, by cases hx; exact Rel.v _ _⟩
    | 1, hx => exact ⟨_, rfl, by cases hx; exact hr1 _⟩
    | 2, hx => exact ⟨_, rfl, by cases hx; exact hr2 _⟩
    | _ + 3, hx => cases hx
  · obtain ⟨y1, y2⟩ := k_a fuel0 a0 a1 a2 a3 (z1.map fun n => .v (.int .i64 n)) 0 len1 (z2.map fun n => .v (.int .i64 n)) 0 len2 (f_FuseBounded fuel0 (by unfold fuel0; omega) (wf_i64 wa0) (wf_i64 wa1) (wf_i64 wa2) (wf_i64 wa3) (fun n hn => wf_i64 (hw1 n hn)) hl1 (fun n hn => wf_i64 (hw2 n hn)) hl2)
    have e : s_a fuel0 [.v (.agg #[.int .i64 a0, .int .i64 a1, .int .i64 a2, .int .i64 a3]), .fs (z1.map fun n => .v (.int .i64 n)) 0 len1 3, .fs (z2.map fun n => .v (.int .i64 n)) 0 len2 1] = some (ok_a fuel0 a0 a1 a2 a3 (z1.map fun n => .v (.int .i64 n)) 0 len1 (z2.map fun n => .v (.int .i64 n)) 0 len2, .v (.bool (o_a_0 fuel0 a0 a1 a2 a3 (z1.map fun n => .v (.int .i64 n)) 0 len1 (z2.map fun n => .v (.int .i64 n)) 0 len2))) := by kernel_rfl
    rw [e, y1, y2]
theorem over : Rows.fuseBoundedRow.holds Try.pinned (OpenSpec.ofChange Rows.fuseBoundedSpec) :=
  OpenClaim.holds_of_wide 5 Try.f5 rfl rfl rfl rfl rfl rfl rfl ⟨rfl, rfl, rfl, rfl, rfl⟩ rfl rfl rfl rfl rfl (by kernel_rfl) Try.func5 (joined_of (P := Try.prog) behind enter_ rfl rfl ⟨rfl, rfl⟩ (by kernel_rfl))
    (of_decide_eq_true (by kernel_rfl)) (by unfold Func.isWrapper; first | (rw [if_pos (by decide +kernel)]; kernel_rfl) | (rw [if_neg (by decide +kernel)]; exact ⟨rfl, rfl⟩))
    (fun os started H enc _ => lifted os started H enc)
/-- The statement. -/
theorem proved : Rows.FuseBoundedSaid := over
#print axioms proved
end Go.Proofs.Ytiahhalhbacgaaa.fuseBounded
