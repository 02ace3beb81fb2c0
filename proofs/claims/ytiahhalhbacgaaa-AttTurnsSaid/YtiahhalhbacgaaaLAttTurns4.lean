/- AttTurns: about axis 2 alone the heading is near what the rates come to. -/
import Derived.Test.YtiahhalhbacgaaaLAttTurns3
namespace Go.Xv
theorem pr_one (a : Int) : pr 4294967296 a = a ∧ pr a 4294967296 = a := by
  have : pr a 4294967296 = a := by unfold pr; omega
  exact ⟨by rw [pr_comm]; exact this, this⟩
theorem pr_nil (a : Int) : pr 0 a = 0 ∧ pr a 0 = 0 := by
  have : pr a 0 = 0 := by unfold pr; rw [Int.mul_zero]; decide
  exact ⟨by rw [pr_comm]; exact this, this⟩
theorem dot_0 (x y z : Int) : dotZ 4294967296 0 0 x y z = x ∧ dotZ x y z 4294967296 0 0 = x := by
  unfold dotZ
  rw [(pr_one x).1, (pr_one x).2, (pr_nil y).1, (pr_nil y).2, (pr_nil z).1, (pr_nil z).2]
  omega
theorem dot_1 (x y z : Int) : dotZ 0 4294967296 0 x y z = y ∧ dotZ x y z 0 4294967296 0 = y := by
  unfold dotZ
  rw [(pr_one y).1, (pr_one y).2, (pr_nil x).1, (pr_nil x).2, (pr_nil z).1, (pr_nil z).2]
  omega
theorem dot_2 (x y z : Int) : dotZ 0 0 4294967296 x y z = z ∧ dotZ x y z 0 0 4294967296 = z := by
  unfold dotZ
  rw [(pr_one z).1, (pr_one z).2, (pr_nil x).1, (pr_nil x).2, (pr_nil y).1, (pr_nil y).2]
  omega
end Go.Xv
namespace Go.Xv
theorem bdm {x y A B : Int} (hx : -A ≤ x ∧ x ≤ A) (hy : -B ≤ y ∧ y ≤ B) : -(A * B) ≤ x * y ∧ x * y ≤ A * B := by
  have hA : 0 ≤ A := by omega
  have h1 := Int.mul_nonneg (show 0 ≤ A - x by omega) (show 0 ≤ B + y by omega)
  have h2 := Int.mul_nonneg (show 0 ≤ A + x by omega) (show 0 ≤ B - y by omega)
  have h3 := Int.mul_nonneg (show 0 ≤ A - x by omega) (show 0 ≤ B - y by omega)
  have h4 := Int.mul_nonneg (show 0 ≤ A + x by omega) (show 0 ≤ B + y by omega)
  rw [Int.sub_mul, Int.mul_add, Int.mul_add] at h1
  rw [Int.add_mul, Int.mul_sub, Int.mul_sub] at h2
  rw [Int.sub_mul, Int.mul_sub, Int.mul_sub] at h3
  rw [Int.add_mul, Int.mul_add, Int.mul_add] at h4
  omega
theorem pr_rd (x y : Int) : -2147483648 ≤ 4294967296 * pr x y - x * y ∧ 4294967296 * pr x y - x * y ≤ 2147483648 := by unfold pr; omega
theorem sq_nn (x : Int) : 0 ≤ x * x := by
  rcases Int.le_total 0 x with h | h
  · exact Int.mul_nonneg h h
  · have := Int.mul_nonneg (show 0 ≤ -x by omega) (show 0 ≤ -x by omega)
    rw [Int.neg_mul_neg] at this
    exact this
theorem abs_of_sq {x n : Int} (hn : 0 ≤ n) (h : x * x ≤ n * n + 2 * n) : -n ≤ x ∧ x ≤ n := by
  constructor
  · rcases Int.lt_or_le x (-n) with hl | hl
    · have := sq_le (x := n + 1) (y := -x) (by omega) (by omega)
      rw [Int.neg_mul_neg, Int.add_mul, Int.mul_add] at this
      omega
    · exact hl
  · rcases Int.lt_or_le n x with hl | hl
    · have := sq_le (x := n + 1) (y := x) (by omega) (by omega)
      rw [Int.add_mul, Int.mul_add] at this
      omega
    · exact hl
theorem abs_le_sq {x B : Int} (hB : 0 ≤ B) (h : x * x ≤ B * B) : -B ≤ x ∧ x ≤ B := abs_of_sq hB (by omega)
def dot3 (x0 x1 x2 y0 y1 y2 : Int) : Int := x0 * y0 + x1 * y1 + x2 * y2
theorem dot_rd (x0 x1 x2 y0 y1 y2 : Int) : -6442450944 ≤ 4294967296 * dotZ x0 x1 x2 y0 y1 y2 - dot3 x0 x1 x2 y0 y1 y2 ∧ 4294967296 * dotZ x0 x1 x2 y0 y1 y2 - dot3 x0 x1 x2 y0 y1 y2 ≤ 6442450944 := by
  have := pr_rd x0 y0
  have := pr_rd x1 y1
  have := pr_rd x2 y2
  unfold dotZ dot3
  omega
/-- over its length -/
theorem unit_math {a0 a1 a2 n x0 x1 x2 r0 r1 r2 : Int} (h1 : n * n ≤ dot3 a0 a1 a2 a0 a1 a2) (h2 : dot3 a0 a1 a2 a0 a1 a2 ≤ n * n + 2 * n) (hn : 3779571220 ≤ n)
    (e0 : n * x0 = a0 * 4294967296 - r0) (e1 : n * x1 = a1 * 4294967296 - r1) (e2 : n * x2 = a2 * 4294967296 - r2)
    (b0 : -n ≤ r0 ∧ r0 ≤ n) (b1 : -n ≤ r1 ∧ r1 ≤ n) (b2 : -n ≤ r2 ∧ r2 ≤ n) :
    (-30064771072 ≤ dot3 x0 x1 x2 x0 x1 x2 - 18446744073709551616 ∧ dot3 x0 x1 x2 x0 x1 x2 - 18446744073709551616 ≤ 38654705664) ∧ (-n ≤ a0 ∧ a0 ≤ n) ∧ (-n ≤ a1 ∧ a1 ≤ n) ∧ (-n ≤ a2 ∧ a2 ≤ n) := by
  have hn0 : 0 ≤ n := by omega
  have s0 := sq_nn a0
  have s1 := sq_nn a1
  have s2 := sq_nn a2
  have c0 := abs_of_sq (x := a0) hn0 (by unfold dot3 at h2; omega)
  have c1 := abs_of_sq (x := a1) hn0 (by unfold dot3 at h2; omega)
  have c2 := abs_of_sq (x := a2) hn0 (by unfold dot3 at h2; omega)
  refine ⟨?_, c0, c1, c2⟩
  have p0 := bdm c0 b0
  have p1 := bdm c1 b1
  have p2 := bdm c2 b2
  have q0 := bdm b0 b0
  have q1 := bdm b1 b1
  have q2 := bdm b2 b2
  have t0 := sq_nn r0
  have t1 := sq_nn r1
  have t2 := sq_nn r2
  have k0 : (n * x0) * (n * x0) = (a0 * 4294967296 - r0) * (a0 * 4294967296 - r0) := by rw [e0]
  have k1 : (n * x1) * (n * x1) = (a1 * 4294967296 - r1) * (a1 * 4294967296 - r1) := by rw [e1]
  have k2 : (n * x2) * (n * x2) = (a2 * 4294967296 - r2) * (a2 * 4294967296 - r2) := by rw [e2]
  have key : (n * n) * (dot3 x0 x1 x2 x0 x1 x2 - 18446744073709551616) = 18446744073709551616 * (dot3 a0 a1 a2 a0 a1 a2 - n * n) - 8589934592 * (a0 * r0 + a1 * r1 + a2 * r2) + (r0 * r0 + r1 * r1 + r2 * r2) := by
    unfold dot3
    grind
  have hnn : 3779571220 * n ≤ n * n := Int.mul_le_mul_of_nonneg_right hn hn0
  have hpos : 0 < n * n := Int.mul_pos (by omega) (by omega)
  generalize dot3 a0 a1 a2 a0 a1 a2 = N at *
  generalize dot3 x0 x1 x2 x0 x1 x2 - 18446744073709551616 = D at *
  constructor
  · refine Int.le_of_mul_le_mul_left (a := n * n) ?_ hpos
    rw [key]
    omega
  · refine Int.le_of_mul_le_mul_left (a := n * n) ?_ hpos
    rw [key]
    omega
theorem quo_bd {n a x r : Int} (hn : 0 < n) (e : n * x = a * 4294967296 - r) (b : -n ≤ r ∧ r ≤ n) (c : -n ≤ a ∧ a ≤ n) : -4294967297 ≤ x ∧ x ≤ 4294967297 := by
  constructor
  · refine Int.le_of_mul_le_mul_left (a := n) ?_ hn
    rw [e]; omega
  · refine Int.le_of_mul_le_mul_left (a := n) ?_ hn
    rw [e]; omega
/-- the second row, less what is along the first -/
theorem rest_math {a0 a1 a2 b0 b1 b2 n x0 x1 x2 r0 r1 r2 d e0 e1 e2 : Int} (hn : 3779571220 ≤ n)
    (g0 : n * x0 = a0 * 4294967296 - r0) (g1 : n * x1 = a1 * 4294967296 - r1) (g2 : n * x2 = a2 * 4294967296 - r2)
    (k0 : -n ≤ r0 ∧ r0 ≤ n) (k1 : -n ≤ r1 ∧ r1 ≤ n) (k2 : -n ≤ r2 ∧ r2 ≤ n)
    (hx : -30064771072 ≤ dot3 x0 x1 x2 x0 x1 x2 - 18446744073709551616 ∧ dot3 x0 x1 x2 x0 x1 x2 - 18446744073709551616 ≤ 38654705664)
    (y0 : -4294967297 ≤ x0 ∧ x0 ≤ 4294967297) (y1 : -4294967297 ≤ x1 ∧ x1 ≤ 4294967297) (y2 : -4294967297 ≤ x2 ∧ x2 ≤ 4294967297)
    (hb : 14941862699704736808 ≤ dot3 b0 b1 b2 b0 b1 b2 ∧ dot3 b0 b1 b2 b0 b1 b2 ≤ 22320560329188557455)
    (hab : -1844674407370955161 ≤ dot3 a0 a1 a2 b0 b1 b2 ∧ dot3 a0 a1 a2 b0 b1 b2 ≤ 1844674407370955161)
    (hd : d = dotZ b0 b1 b2 x0 x1 x2) (h0 : e0 = pr x0 d) (h1 : e1 = pr x1 d) (h2 : e2 = pr x2 d) :
    (-500000000 ≤ d ∧ d ≤ 500000000) ∧ ((-500000000 ≤ e0 ∧ e0 ≤ 500000000) ∧ (-500000000 ≤ e1 ∧ e1 ≤ 500000000) ∧ (-500000000 ≤ e2 ∧ e2 ≤ 500000000)) ∧
    (-4724464026 ≤ b0 ∧ b0 ≤ 4724464026) ∧ (-4724464026 ≤ b1 ∧ b1 ≤ 4724464026) ∧ (-4724464026 ≤ b2 ∧ b2 ≤ 4724464026) ∧
    (-17609365914 ≤ dot3 (b0 - e0) (b1 - e1) (b2 - e2) x0 x1 x2 ∧ dot3 (b0 - e0) (b1 - e1) (b2 - e2) x0 x1 x2 ≤ 17609365914) ∧
    (14300000000000000000 ≤ dot3 (b0 - e0) (b1 - e1) (b2 - e2) (b0 - e0) (b1 - e1) (b2 - e2) ∧ dot3 (b0 - e0) (b1 - e1) (b2 - e2) (b0 - e0) (b1 - e1) (b2 - e2) ≤ 24000000000000000000) := by
  have n0 : 0 < n := by omega
  have sb0 := sq_nn b0
  have sb1 := sq_nn b1
  have sb2 := sq_nn b2
  have c0 := abs_le_sq (x := b0) (B := 4724464026) (by omega) (by unfold dot3 at hb; omega)
  have c1 := abs_le_sq (x := b1) (B := 4724464026) (by omega) (by unfold dot3 at hb; omega)
  have c2 := abs_le_sq (x := b2) (B := 4724464026) (by omega) (by unfold dot3 at hb; omega)
  -- along the first
  have p0 := bdm c0 k0
  have p1 := bdm c1 k1
  have p2 := bdm c2 k2
  have key1 : n * dot3 b0 b1 b2 x0 x1 x2 = 4294967296 * dot3 a0 a1 a2 b0 b1 b2 - (b0 * r0 + b1 * r1 + b2 * r2) := by
    have : n * dot3 b0 b1 b2 x0 x1 x2 = b0 * (n * x0) + b1 * (n * x1) + b2 * (n * x2) := by unfold dot3; grind
    rw [this, g0, g1, g2]
    unfold dot3; grind
  have hbx : -2140000000000000000 ≤ dot3 b0 b1 b2 x0 x1 x2 ∧ dot3 b0 b1 b2 x0 x1 x2 ≤ 2140000000000000000 := by
    constructor
    · refine Int.le_of_mul_le_mul_left (a := n) ?_ n0
      rw [key1]; omega
    · refine Int.le_of_mul_le_mul_left (a := n) ?_ n0
      rw [key1]; omega
  have hrd := dot_rd b0 b1 b2 x0 x1 x2
  rw [← hd] at hrd
  have dB : -500000000 ≤ d ∧ d ≤ 500000000 := by omega
  have t0 := pr_rd x0 d
  have t1 := pr_rd x1 d
  have t2 := pr_rd x2 d
  rw [← h0] at t0
  rw [← h1] at t1
  rw [← h2] at t2
  have m0 := bdm y0 dB
  have m1 := bdm y1 dB
  have m2 := bdm y2 dB
  have eB0 : -500000001 ≤ e0 ∧ e0 ≤ 500000001 := by omega
  have eB1 : -500000001 ≤ e1 ∧ e1 ≤ 500000001 := by omega
  have eB2 : -500000001 ≤ e2 ∧ e2 ≤ 500000001 := by omega
  have dB2 : -498262451 ≤ d ∧ d ≤ 498262451 := by omega
  have m0' := bdm y0 dB2
  have m1' := bdm y1 dB2
  have m2' := bdm y2 dB2
  have eC0 : -500000000 ≤ e0 ∧ e0 ≤ 500000000 := by omega
  have eC1 : -500000000 ≤ e1 ∧ e1 ≤ 500000000 := by omega
  have eC2 : -500000000 ≤ e2 ∧ e2 ≤ 500000000 := by omega
  refine ⟨dB, ⟨eC0, eC1, eC2⟩, c0, c1, c2, ?_, ?_⟩
  · -- across
    have hDX := bdm dB (show -38654705664 ≤ dot3 x0 x1 x2 x0 x1 x2 - 18446744073709551616 ∧ dot3 x0 x1 x2 x0 x1 x2 - 18446744073709551616 ≤ 38654705664 by omega)
    have u0 := bdm t0 y0
    have u1 := bdm t1 y1
    have u2 := bdm t2 y2
    have key2 : 4294967296 * dot3 (b0 - e0) (b1 - e1) (b2 - e2) x0 x1 x2 = -(4294967296 * (4294967296 * d - dot3 b0 b1 b2 x0 x1 x2)) - d * (dot3 x0 x1 x2 x0 x1 x2 - 18446744073709551616) - ((4294967296 * e0 - x0 * d) * x0 + (4294967296 * e1 - x1 * d) * x1 + (4294967296 * e2 - x2 * d) * x2) := by
      unfold dot3; grind
    omega
  · have hDB := bdm dB2 hbx
    have u0 := bdm t0 c0
    have u1 := bdm t1 c1
    have u2 := bdm t2 c2
    have v0 := bdm eC0 eC0
    have v1 := bdm eC1 eC1
    have v2 := bdm eC2 eC2
    have w0 := sq_nn e0
    have w1 := sq_nn e1
    have w2 := sq_nn e2
    have key3 : 4294967296 * dot3 (b0 - e0) (b1 - e1) (b2 - e2) (b0 - e0) (b1 - e1) (b2 - e2) = 4294967296 * dot3 b0 b1 b2 b0 b1 b2 - 2 * (d * dot3 b0 b1 b2 x0 x1 x2 + ((4294967296 * e0 - x0 * d) * b0 + (4294967296 * e1 - x1 * d) * b1 + (4294967296 * e2 - x2 * d) * b2)) + 4294967296 * (e0 * e0 + e1 * e1 + e2 * e2) := by
      unfold dot3; grind
    omega
/-- both rows, and what is across -/
theorem cross_math {f0 f1 f2 m x0 x1 x2 y0 y1 y2 r0 r1 r2 z0 z1 z2 : Int} (hm : 3779571220 ≤ m)
    (g0 : m * y0 = f0 * 4294967296 - r0) (g1 : m * y1 = f1 * 4294967296 - r1) (g2 : m * y2 = f2 * 4294967296 - r2)
    (k0 : -m ≤ r0 ∧ r0 ≤ m) (k1 : -m ≤ r1 ∧ r1 ≤ m) (k2 : -m ≤ r2 ∧ r2 ≤ m)
    (hx : -30064771072 ≤ dot3 x0 x1 x2 x0 x1 x2 - 18446744073709551616 ∧ dot3 x0 x1 x2 x0 x1 x2 - 18446744073709551616 ≤ 38654705664)
    (hy : -30064771072 ≤ dot3 y0 y1 y2 y0 y1 y2 - 18446744073709551616 ∧ dot3 y0 y1 y2 y0 y1 y2 - 18446744073709551616 ≤ 38654705664)
    (cx0 : -4294967297 ≤ x0 ∧ x0 ≤ 4294967297) (cx1 : -4294967297 ≤ x1 ∧ x1 ≤ 4294967297) (cx2 : -4294967297 ≤ x2 ∧ x2 ≤ 4294967297)
    (cy0 : -4294967297 ≤ y0 ∧ y0 ≤ 4294967297) (cy1 : -4294967297 ≤ y1 ∧ y1 ≤ 4294967297) (cy2 : -4294967297 ≤ y2 ∧ y2 ≤ 4294967297)
    (hf : -17609365914 ≤ dot3 f0 f1 f2 x0 x1 x2 ∧ dot3 f0 f1 f2 x0 x1 x2 ≤ 17609365914)
    (h0 : z0 = arZ x1 y2 x2 y1) (h1 : z1 = arZ x2 y0 x0 y2) (h2 : z2 = arZ x0 y1 x1 y0) :
    (-34359738368 ≤ dot3 x0 x1 x2 y0 y1 y2 ∧ dot3 x0 x1 x2 y0 y1 y2 ≤ 34359738368) ∧
    (-107374182400 ≤ dot3 z0 z1 z2 z0 z1 z2 - 18446744073709551616 ∧ dot3 z0 z1 z2 z0 z1 z2 - 18446744073709551616 ≤ 107374182400) ∧
    (-17179869184 ≤ dot3 z0 z1 z2 x0 x1 x2 ∧ dot3 z0 z1 z2 x0 x1 x2 ≤ 17179869184) ∧ (-17179869184 ≤ dot3 z0 z1 z2 y0 y1 y2 ∧ dot3 z0 z1 z2 y0 y1 y2 ≤ 17179869184) ∧
    (-4300000000 ≤ z0 ∧ z0 ≤ 4300000000) ∧ (-4300000000 ≤ z1 ∧ z1 ≤ 4300000000) ∧ (-4300000000 ≤ z2 ∧ z2 ≤ 4300000000) := by
  have m0 : 0 < m := by omega
  have p0 := bdm cx0 k0
  have p1 := bdm cx1 k1
  have p2 := bdm cx2 k2
  have key1 : m * dot3 x0 x1 x2 y0 y1 y2 = 4294967296 * dot3 f0 f1 f2 x0 x1 x2 - (x0 * r0 + x1 * r1 + x2 * r2) := by
    have : m * dot3 x0 x1 x2 y0 y1 y2 = x0 * (m * y0) + x1 * (m * y1) + x2 * (m * y2) := by unfold dot3; grind
    rw [this, g0, g1, g2]
    unfold dot3; grind
  have hxy : -34359738368 ≤ dot3 x0 x1 x2 y0 y1 y2 ∧ dot3 x0 x1 x2 y0 y1 y2 ≤ 34359738368 := by
    constructor
    · refine Int.le_of_mul_le_mul_left (a := m) ?_ m0
      rw [key1]; omega
    · refine Int.le_of_mul_le_mul_left (a := m) ?_ m0
      rw [key1]; omega
  refine ⟨hxy, ?_⟩
  -- what is across, exactly
  have t1 := pr_rd x1 y2
  have t2 := pr_rd x2 y1
  have t3 := pr_rd x2 y0
  have t4 := pr_rd x0 y2
  have t5 := pr_rd x0 y1
  have t6 := pr_rd x1 y0
  have u0 : -4294967296 ≤ 4294967296 * z0 - (x1 * y2 - x2 * y1) ∧ 4294967296 * z0 - (x1 * y2 - x2 * y1) ≤ 4294967296 := by rw [h0]; unfold arZ; omega
  have u1 : -4294967296 ≤ 4294967296 * z1 - (x2 * y0 - x0 * y2) ∧ 4294967296 * z1 - (x2 * y0 - x0 * y2) ≤ 4294967296 := by rw [h1]; unfold arZ; omega
  have u2 : -4294967296 ≤ 4294967296 * z2 - (x0 * y1 - x1 * y0) ∧ 4294967296 * z2 - (x0 * y1 - x1 * y0) ≤ 4294967296 := by rw [h2]; unfold arZ; omega
  clear h0 h1 h2 t1 t2 t3 t4 t5 t6 key1 p0 p1 p2 g0 g1 g2 k0 k1 k2 hf
  have hCC : (x1 * y2 - x2 * y1) * (x1 * y2 - x2 * y1) + (x2 * y0 - x0 * y2) * (x2 * y0 - x0 * y2) + (x0 * y1 - x1 * y0) * (x0 * y1 - x1 * y0) = dot3 x0 x1 x2 x0 x1 x2 * dot3 y0 y1 y2 y0 y1 y2 - dot3 x0 x1 x2 y0 y1 y2 * dot3 x0 x1 x2 y0 y1 y2 := by
    unfold dot3; grind
  have hCX : (x1 * y2 - x2 * y1) * x0 + (x2 * y0 - x0 * y2) * x1 + (x0 * y1 - x1 * y0) * x2 = 0 := by grind
  have hCY : (x1 * y2 - x2 * y1) * y0 + (x2 * y0 - x0 * y2) * y1 + (x0 * y1 - x1 * y0) * y2 = 0 := by grind
  have hq := bdm hxy hxy
  have hq0 := sq_nn (dot3 x0 x1 x2 y0 y1 y2)
  have hXY : dot3 x0 x1 x2 x0 x1 x2 * dot3 y0 y1 y2 y0 y1 y2 = 340282366920938463463374607431768211456 + 18446744073709551616 * (dot3 x0 x1 x2 x0 x1 x2 - 18446744073709551616) + 18446744073709551616 * (dot3 y0 y1 y2 y0 y1 y2 - 18446744073709551616) + (dot3 x0 x1 x2 x0 x1 x2 - 18446744073709551616) * (dot3 y0 y1 y2 y0 y1 y2 - 18446744073709551616) := by grind
  have hP := bdm (show -38654705664 ≤ dot3 x0 x1 x2 x0 x1 x2 - 18446744073709551616 ∧ dot3 x0 x1 x2 x0 x1 x2 - 18446744073709551616 ≤ 38654705664 by omega) (show -38654705664 ≤ dot3 y0 y1 y2 y0 y1 y2 - 18446744073709551616 ∧ dot3 y0 y1 y2 y0 y1 y2 - 18446744073709551616 ≤ 38654705664 by omega)
  generalize x1 * y2 - x2 * y1 = C0 at *
  generalize x2 * y0 - x0 * y2 = C1 at *
  generalize x0 * y1 - x1 * y0 = C2 at *
  rw [hXY] at hCC
  have s0 := sq_nn C0
  have s1 := sq_nn C1
  have s2 := sq_nn C2
  have hC0 := abs_le_sq (x := C0) (B := 18446744200000000000) (by omega) (by omega)
  have hC1 := abs_le_sq (x := C1) (B := 18446744200000000000) (by omega) (by omega)
  have hC2 := abs_le_sq (x := C2) (B := 18446744200000000000) (by omega) (by omega)
  have w0 : -4300000000 ≤ z0 ∧ z0 ≤ 4300000000 := by omega
  have w1 : -4300000000 ≤ z1 ∧ z1 ≤ 4300000000 := by omega
  have w2 : -4300000000 ≤ z2 ∧ z2 ≤ 4300000000 := by omega
  refine ⟨?_, ?_, ?_, w0, w1, w2⟩
  · have v0 := bdm u0 hC0
    have v1 := bdm u1 hC1
    have v2 := bdm u2 hC2
    have x0' := bdm u0 u0
    have x1' := bdm u1 u1
    have x2' := bdm u2 u2
    have y0' := sq_nn (4294967296 * z0 - C0)
    have y1' := sq_nn (4294967296 * z1 - C1)
    have y2' := sq_nn (4294967296 * z2 - C2)
    have key : 18446744073709551616 * dot3 z0 z1 z2 z0 z1 z2 = (C0 * C0 + C1 * C1 + C2 * C2) + 2 * ((4294967296 * z0 - C0) * C0 + (4294967296 * z1 - C1) * C1 + (4294967296 * z2 - C2) * C2) + ((4294967296 * z0 - C0) * (4294967296 * z0 - C0) + (4294967296 * z1 - C1) * (4294967296 * z1 - C1) + (4294967296 * z2 - C2) * (4294967296 * z2 - C2)) := by
      unfold dot3; grind
    omega
  · have v0 := bdm u0 cx0
    have v1 := bdm u1 cx1
    have v2 := bdm u2 cx2
    have key : 4294967296 * dot3 z0 z1 z2 x0 x1 x2 = ((4294967296 * z0 - C0) * x0 + (4294967296 * z1 - C1) * x1 + (4294967296 * z2 - C2) * x2) + (C0 * x0 + C1 * x1 + C2 * x2) := by
      unfold dot3; grind
    omega
  · have v0 := bdm u0 cy0
    have v1 := bdm u1 cy1
    have v2 := bdm u2 cy2
    have key : 4294967296 * dot3 z0 z1 z2 y0 y1 y2 = ((4294967296 * z0 - C0) * y0 + (4294967296 * z1 - C1) * y1 + (4294967296 * z2 - C2) * y2) + (C0 * y0 + C1 * y1 + C2 * y2) := by
      unfold dot3; grind
    omega
end Go.Xv
namespace Go.Xv
theorem tdiv_fact {a n : Int} (hn : 0 < n) : n * Int.tdiv a n = a - Int.tmod a n ∧ -n ≤ Int.tmod a n ∧ Int.tmod a n ≤ n := by
  have h := Int.mul_tdiv_add_tmod a n
  rcases Int.le_total 0 a with h0 | h0
  · have e := Int.tmod_eq_emod_of_nonneg (b := n) h0
    have h1 := Int.emod_nonneg a (show n ≠ 0 by omega)
    have h2 := Int.emod_lt_of_pos a hn
    omega
  · have e := Int.tmod_eq_emod_of_nonneg (a := -a) (b := n) (by omega)
    rw [Int.neg_tmod] at e
    have h1 := Int.emod_nonneg (-a) (show n ≠ 0 by omega)
    have h2 := Int.emod_lt_of_pos (-a) hn
    omega
theorem unit_fact {a0 a1 a2 : Int} (h : 14300000000000000000 ≤ dot3 a0 a1 a2 a0 a1 a2 ∧ dot3 a0 a1 a2 a0 a1 a2 ≤ 24000000000000000000) :
    unitOK a0 a1 a2 = true ∧ ∃ n r0 r1 r2 : Int, 3779571220 ≤ n ∧ n * n ≤ dot3 a0 a1 a2 a0 a1 a2 ∧ dot3 a0 a1 a2 a0 a1 a2 ≤ n * n + 2 * n ∧
      (n * unV a0 a0 a1 a2 = a0 * 4294967296 - r0 ∧ n * unV a1 a0 a1 a2 = a1 * 4294967296 - r1 ∧ n * unV a2 a0 a1 a2 = a2 * 4294967296 - r2) ∧
      (-n ≤ r0 ∧ r0 ≤ n) ∧ (-n ≤ r1 ∧ r1 ≤ n) ∧ (-n ≤ r2 ∧ r2 ≤ n) := by
  have e3 : sq3 a0 a1 a2 = dot3 a0 a1 a2 a0 a1 a2 := rfl
  obtain ⟨r1, r2, r3⟩ := rt_spec (z := sq3 a0 a1 a2) (by omega)
  have hlow : 3779571220 ≤ rt (sq3 a0 a1 a2) := (rt_le (by omega) (by omega)).2 (by omega)
  have hl : lenV (sq3 a0 a1 a2) = rt (sq3 a0 a1 a2) := by unfold lenV; rw [if_pos (by omega)]
  have hc : lenC (sq3 a0 a1 a2) = false := by unfold lenC; exact df (by omega)
  have hok : unitOK a0 a1 a2 = true := by
    unfold unitOK
    rw [hl, hc, df (by omega)]
    rfl
  rw [Int.add_mul, Int.mul_add] at r3
  have hn0 : 0 ≤ rt (sq3 a0 a1 a2) := r1
  have s0 := sq_nn a0
  have s1 := sq_nn a1
  have s2 := sq_nn a2
  have c0 := abs_of_sq (x := a0) hn0 (by unfold sq3 at *; omega)
  have c1 := abs_of_sq (x := a1) hn0 (by unfold sq3 at *; omega)
  have c2 := abs_of_sq (x := a2) hn0 (by unfold sq3 at *; omega)
  have key : ∀ a : Int, -rt (sq3 a0 a1 a2) ≤ a ∧ a ≤ rt (sq3 a0 a1 a2) → rt (sq3 a0 a1 a2) * unV a a0 a1 a2 = a * 4294967296 - Int.tmod (a * 4294967296) (rt (sq3 a0 a1 a2)) := by
    intro a ha
    obtain ⟨t1, t2⟩ := tdiv_fact (a := a * 4294967296) (n := rt (sq3 a0 a1 a2)) (by omega)
    have q := quo_bd (n := rt (sq3 a0 a1 a2)) (by omega) t1 t2 ha
    unfold unV
    rw [if_pos hok, hl]
    unfold fdivV
    rw [if_neg (by omega), (clip_in (by unfold I64; omega)).1]
    exact t1
  refine ⟨hok, rt (sq3 a0 a1 a2), _, _, _, hlow, by omega, by omega, ⟨key a0 c0, key a1 c1, key a2 c2⟩, ?_, ?_, ?_⟩
  · exact (tdiv_fact (by omega)).2
  · exact (tdiv_fact (by omega)).2
  · exact (tdiv_fact (by omega)).2
theorem clip_sm {z : Int} (h : -100000000000 ≤ z ∧ z ≤ 100000000000) : clipV z = z ∧ clipC z = false := clip_in (by unfold I64; omega)
theorem dot3_comm (x0 x1 x2 y0 y1 y2 : Int) : dot3 x0 x1 x2 y0 y1 y2 = dot3 y0 y1 y2 x0 x1 x2 := by unfold dot3; rw [Int.mul_comm x0, Int.mul_comm x1, Int.mul_comm x2]
end Go.Xv
namespace Go.Xv
/-- rows that are nearly upright: how far their products are off -/
def RowsE (E a0 a1 a2 a3 a4 a5 a6 a7 a8 : Int) : Prop := (-E ≤ dot3 a0 a1 a2 a0 a1 a2 - 18446744073709551616 ∧ dot3 a0 a1 a2 a0 a1 a2 - 18446744073709551616 ≤ E) ∧ (-E ≤ dot3 a3 a4 a5 a3 a4 a5 - 18446744073709551616 ∧ dot3 a3 a4 a5 a3 a4 a5 - 18446744073709551616 ≤ E) ∧ (-E ≤ dot3 a6 a7 a8 a6 a7 a8 - 18446744073709551616 ∧ dot3 a6 a7 a8 a6 a7 a8 - 18446744073709551616 ≤ E) ∧ (-E ≤ dot3 a0 a1 a2 a3 a4 a5 - 0 ∧ dot3 a0 a1 a2 a3 a4 a5 - 0 ≤ E) ∧ (-E ≤ dot3 a0 a1 a2 a6 a7 a8 - 0 ∧ dot3 a0 a1 a2 a6 a7 a8 - 0 ≤ E) ∧ (-E ≤ dot3 a3 a4 a5 a6 a7 a8 - 0 ∧ dot3 a3 a4 a5 a6 a7 a8 - 0 ≤ E)
theorem ortho_full {a0 a1 a2 a3 a4 a5 a6 a7 a8 : Int} (ha : 14300000000000000000 ≤ dot3 a0 a1 a2 a0 a1 a2 ∧ dot3 a0 a1 a2 a0 a1 a2 ≤ 24000000000000000000)
    (hb : 14941862699704736808 ≤ dot3 a3 a4 a5 a3 a4 a5 ∧ dot3 a3 a4 a5 a3 a4 a5 ≤ 22320560329188557455)
    (hab : -1844674407370955161 ≤ dot3 a0 a1 a2 a3 a4 a5 ∧ dot3 a0 a1 a2 a3 a4 a5 ≤ 1844674407370955161) :
    ortC a0 a1 a2 a3 a4 a5 a6 a7 a8 = true ∧ RowsE 107374182400 (ort0 a0 a1 a2 a3 a4 a5 a6 a7 a8) (ort1 a0 a1 a2 a3 a4 a5 a6 a7 a8) (ort2 a0 a1 a2 a3 a4 a5 a6 a7 a8) (ort3 a0 a1 a2 a3 a4 a5 a6 a7 a8) (ort4 a0 a1 a2 a3 a4 a5 a6 a7 a8) (ort5 a0 a1 a2 a3 a4 a5 a6 a7 a8) (ort6 a0 a1 a2 a3 a4 a5 a6 a7 a8) (ort7 a0 a1 a2 a3 a4 a5 a6 a7 a8) (ort8 a0 a1 a2 a3 a4 a5 a6 a7 a8) ∧ (-4300000000 ≤ (ort0 a0 a1 a2 a3 a4 a5 a6 a7 a8) ∧ (ort0 a0 a1 a2 a3 a4 a5 a6 a7 a8) ≤ 4300000000) ∧ (-4300000000 ≤ (ort1 a0 a1 a2 a3 a4 a5 a6 a7 a8) ∧ (ort1 a0 a1 a2 a3 a4 a5 a6 a7 a8) ≤ 4300000000) ∧ (-4300000000 ≤ (ort2 a0 a1 a2 a3 a4 a5 a6 a7 a8) ∧ (ort2 a0 a1 a2 a3 a4 a5 a6 a7 a8) ≤ 4300000000) ∧ (-4300000000 ≤ (ort3 a0 a1 a2 a3 a4 a5 a6 a7 a8) ∧ (ort3 a0 a1 a2 a3 a4 a5 a6 a7 a8) ≤ 4300000000) ∧ (-4300000000 ≤ (ort4 a0 a1 a2 a3 a4 a5 a6 a7 a8) ∧ (ort4 a0 a1 a2 a3 a4 a5 a6 a7 a8) ≤ 4300000000) ∧ (-4300000000 ≤ (ort5 a0 a1 a2 a3 a4 a5 a6 a7 a8) ∧ (ort5 a0 a1 a2 a3 a4 a5 a6 a7 a8) ≤ 4300000000) ∧ (-4300000000 ≤ (ort6 a0 a1 a2 a3 a4 a5 a6 a7 a8) ∧ (ort6 a0 a1 a2 a3 a4 a5 a6 a7 a8) ≤ 4300000000) ∧ (-4300000000 ≤ (ort7 a0 a1 a2 a3 a4 a5 a6 a7 a8) ∧ (ort7 a0 a1 a2 a3 a4 a5 a6 a7 a8) ≤ 4300000000) ∧ (-4300000000 ≤ (ort8 a0 a1 a2 a3 a4 a5 a6 a7 a8) ∧ (ort8 a0 a1 a2 a3 a4 a5 a6 a7 a8) ≤ 4300000000) ∧ ∃ n r0 r1 r2 : Int, 3779571220 ≤ n ∧ n * n ≤ dot3 a0 a1 a2 a0 a1 a2 ∧ dot3 a0 a1 a2 a0 a1 a2 ≤ n * n + 2 * n ∧ (n * (ort0 a0 a1 a2 a3 a4 a5 a6 a7 a8) = a0 * 4294967296 - r0 ∧ n * (ort1 a0 a1 a2 a3 a4 a5 a6 a7 a8) = a1 * 4294967296 - r1 ∧ n * (ort2 a0 a1 a2 a3 a4 a5 a6 a7 a8) = a2 * 4294967296 - r2) ∧ (-n ≤ r0 ∧ r0 ≤ n) ∧ (-n ≤ r1 ∧ r1 ≤ n) ∧ (-n ≤ r2 ∧ r2 ≤ n) ∧ 0 < dot3 (ort3 a0 a1 a2 a3 a4 a5 a6 a7 a8) (ort4 a0 a1 a2 a3 a4 a5 a6 a7 a8) (ort5 a0 a1 a2 a3 a4 a5 a6 a7 a8) a3 a4 a5 := by
  obtain ⟨ua, n, r0, r1, r2, hn, n1, n2, ⟨g0, g1, g2⟩, k0, k1, k2⟩ := unit_fact ha
  obtain ⟨hx, q0, q1, q2⟩ := unit_math n1 n2 hn g0 g1 g2 k0 k1 k2
  have y0 := quo_bd (by omega) g0 k0 q0
  have y1 := quo_bd (by omega) g1 k1 q1
  have y2 := quo_bd (by omega) g2 k2 q2
  obtain ⟨hd, ⟨he0, he1, he2⟩, c0, c1, c2, hfx, hff⟩ := rest_math hn g0 g1 g2 k0 k1 k2 hx y0 y1 y2 hb hab rfl rfl rfl rfl
  have hD : oD a0 a1 a2 a3 a4 a5 a6 a7 a8 = dotZ a3 a4 a5 (unV a0 a0 a1 a2) (unV a1 a0 a1 a2) (unV a2 a0 a1 a2) := (clip_sm (by omega)).1
  have hDc : clipC (dotZ a3 a4 a5 (unV a0 a0 a1 a2) (unV a1 a0 a1 a2) (unV a2 a0 a1 a2)) = false := (clip_sm (by omega)).2
  have hR0 : oR0 a0 a1 a2 a3 a4 a5 a6 a7 a8 = a3 - pr (unV a0 a0 a1 a2) (dotZ a3 a4 a5 (unV a0 a0 a1 a2) (unV a1 a0 a1 a2) (unV a2 a0 a1 a2)) := by
    unfold oR0
    rw [hD, (clip_sm (z := pr (unV a0 a0 a1 a2) (dotZ a3 a4 a5 (unV a0 a0 a1 a2) (unV a1 a0 a1 a2) (unV a2 a0 a1 a2))) (by omega)).1, (clip_sm (by omega)).1]
  have sc0 : clipC (pr (unV a0 a0 a1 a2) (oD a0 a1 a2 a3 a4 a5 a6 a7 a8)) = false := by rw [hD]; exact (clip_sm (by omega)).2
  have sb0 : clipC (a3 - clipV (pr (unV a0 a0 a1 a2) (oD a0 a1 a2 a3 a4 a5 a6 a7 a8))) = false := by
    rw [hD, (clip_sm (z := pr (unV a0 a0 a1 a2) (dotZ a3 a4 a5 (unV a0 a0 a1 a2) (unV a1 a0 a1 a2) (unV a2 a0 a1 a2))) (by omega)).1]
    exact (clip_sm (by omega)).2
  have hR1 : oR1 a0 a1 a2 a3 a4 a5 a6 a7 a8 = a4 - pr (unV a1 a0 a1 a2) (dotZ a3 a4 a5 (unV a0 a0 a1 a2) (unV a1 a0 a1 a2) (unV a2 a0 a1 a2)) := by
    unfold oR1
    rw [hD, (clip_sm (z := pr (unV a1 a0 a1 a2) (dotZ a3 a4 a5 (unV a0 a0 a1 a2) (unV a1 a0 a1 a2) (unV a2 a0 a1 a2))) (by omega)).1, (clip_sm (by omega)).1]
  have sc1 : clipC (pr (unV a1 a0 a1 a2) (oD a0 a1 a2 a3 a4 a5 a6 a7 a8)) = false := by rw [hD]; exact (clip_sm (by omega)).2
  have sb1 : clipC (a4 - clipV (pr (unV a1 a0 a1 a2) (oD a0 a1 a2 a3 a4 a5 a6 a7 a8))) = false := by
    rw [hD, (clip_sm (z := pr (unV a1 a0 a1 a2) (dotZ a3 a4 a5 (unV a0 a0 a1 a2) (unV a1 a0 a1 a2) (unV a2 a0 a1 a2))) (by omega)).1]
    exact (clip_sm (by omega)).2
  have hR2 : oR2 a0 a1 a2 a3 a4 a5 a6 a7 a8 = a5 - pr (unV a2 a0 a1 a2) (dotZ a3 a4 a5 (unV a0 a0 a1 a2) (unV a1 a0 a1 a2) (unV a2 a0 a1 a2)) := by
    unfold oR2
    rw [hD, (clip_sm (z := pr (unV a2 a0 a1 a2) (dotZ a3 a4 a5 (unV a0 a0 a1 a2) (unV a1 a0 a1 a2) (unV a2 a0 a1 a2))) (by omega)).1, (clip_sm (by omega)).1]
  have sc2 : clipC (pr (unV a2 a0 a1 a2) (oD a0 a1 a2 a3 a4 a5 a6 a7 a8)) = false := by rw [hD]; exact (clip_sm (by omega)).2
  have sb2 : clipC (a5 - clipV (pr (unV a2 a0 a1 a2) (oD a0 a1 a2 a3 a4 a5 a6 a7 a8))) = false := by
    rw [hD, (clip_sm (z := pr (unV a2 a0 a1 a2) (dotZ a3 a4 a5 (unV a0 a0 a1 a2) (unV a1 a0 a1 a2) (unV a2 a0 a1 a2))) (by omega)).1]
    exact (clip_sm (by omega)).2
  rw [← hR0, ← hR1, ← hR2] at hfx hff
  obtain ⟨ub, m, s0, s1, s2, hm, m1, m2, ⟨j0, j1, j2⟩, l0, l1, l2⟩ := unit_fact hff
  obtain ⟨hy, p0, p1, p2⟩ := unit_math m1 m2 hm j0 j1 j2 l0 l1 l2
  have v0 := quo_bd (by omega) j0 l0 p0
  have v1 := quo_bd (by omega) j1 l1 p1
  have v2 := quo_bd (by omega) j2 l2 p2
  obtain ⟨hxy, hz, hzx, hzy, w0, w1, w2⟩ := cross_math (y0 := oY0 a0 a1 a2 a3 a4 a5 a6 a7 a8) (y1 := oY1 a0 a1 a2 a3 a4 a5 a6 a7 a8) (y2 := oY2 a0 a1 a2 a3 a4 a5 a6 a7 a8) hm j0 j1 j2 l0 l1 l2 hx hy y0 y1 y2 v0 v1 v2 hfx rfl rfl rfl
  have hZ0 : oZ0 a0 a1 a2 a3 a4 a5 a6 a7 a8 = arZ (unV a1 a0 a1 a2) (oY2 a0 a1 a2 a3 a4 a5 a6 a7 a8) (unV a2 a0 a1 a2) (oY1 a0 a1 a2 a3 a4 a5 a6 a7 a8) := (clip_sm (z := arZ (unV a1 a0 a1 a2) (oY2 a0 a1 a2 a3 a4 a5 a6 a7 a8) (unV a2 a0 a1 a2) (oY1 a0 a1 a2 a3 a4 a5 a6 a7 a8)) (by omega)).1
  have cz0 : clipC (arZ (unV a1 a0 a1 a2) (oY2 a0 a1 a2 a3 a4 a5 a6 a7 a8) (unV a2 a0 a1 a2) (oY1 a0 a1 a2 a3 a4 a5 a6 a7 a8)) = false := (clip_sm (by omega)).2
  have hZ1 : oZ1 a0 a1 a2 a3 a4 a5 a6 a7 a8 = arZ (unV a2 a0 a1 a2) (oY0 a0 a1 a2 a3 a4 a5 a6 a7 a8) (unV a0 a0 a1 a2) (oY2 a0 a1 a2 a3 a4 a5 a6 a7 a8) := (clip_sm (z := arZ (unV a2 a0 a1 a2) (oY0 a0 a1 a2 a3 a4 a5 a6 a7 a8) (unV a0 a0 a1 a2) (oY2 a0 a1 a2 a3 a4 a5 a6 a7 a8)) (by omega)).1
  have cz1 : clipC (arZ (unV a2 a0 a1 a2) (oY0 a0 a1 a2 a3 a4 a5 a6 a7 a8) (unV a0 a0 a1 a2) (oY2 a0 a1 a2 a3 a4 a5 a6 a7 a8)) = false := (clip_sm (by omega)).2
  have hZ2 : oZ2 a0 a1 a2 a3 a4 a5 a6 a7 a8 = arZ (unV a0 a0 a1 a2) (oY1 a0 a1 a2 a3 a4 a5 a6 a7 a8) (unV a1 a0 a1 a2) (oY0 a0 a1 a2 a3 a4 a5 a6 a7 a8) := (clip_sm (z := arZ (unV a0 a0 a1 a2) (oY1 a0 a1 a2 a3 a4 a5 a6 a7 a8) (unV a1 a0 a1 a2) (oY0 a0 a1 a2 a3 a4 a5 a6 a7 a8)) (by omega)).1
  have cz2 : clipC (arZ (unV a0 a0 a1 a2) (oY1 a0 a1 a2 a3 a4 a5 a6 a7 a8) (unV a1 a0 a1 a2) (oY0 a0 a1 a2 a3 a4 a5 a6 a7 a8)) = false := (clip_sm (by omega)).2
  have hC : ortC a0 a1 a2 a3 a4 a5 a6 a7 a8 = true := by
    unfold ortC
    rw [ua, ub, hDc, sc0, sc1, sc2, sb0, sb1, sb2, cz0, cz1, cz2]
    rfl
  have o0 : (ort0 a0 a1 a2 a3 a4 a5 a6 a7 a8) = (unV a0 a0 a1 a2) := if_pos hC
  have o1 : (ort1 a0 a1 a2 a3 a4 a5 a6 a7 a8) = (unV a1 a0 a1 a2) := if_pos hC
  have o2 : (ort2 a0 a1 a2 a3 a4 a5 a6 a7 a8) = (unV a2 a0 a1 a2) := if_pos hC
  have o3 : (ort3 a0 a1 a2 a3 a4 a5 a6 a7 a8) = (oY0 a0 a1 a2 a3 a4 a5 a6 a7 a8) := if_pos hC
  have o4 : (ort4 a0 a1 a2 a3 a4 a5 a6 a7 a8) = (oY1 a0 a1 a2 a3 a4 a5 a6 a7 a8) := if_pos hC
  have o5 : (ort5 a0 a1 a2 a3 a4 a5 a6 a7 a8) = (oY2 a0 a1 a2 a3 a4 a5 a6 a7 a8) := if_pos hC
  have o6 : (ort6 a0 a1 a2 a3 a4 a5 a6 a7 a8) = (oZ0 a0 a1 a2 a3 a4 a5 a6 a7 a8) := if_pos hC
  have o7 : (ort7 a0 a1 a2 a3 a4 a5 a6 a7 a8) = (oZ1 a0 a1 a2 a3 a4 a5 a6 a7 a8) := if_pos hC
  have o8 : (ort8 a0 a1 a2 a3 a4 a5 a6 a7 a8) = (oZ2 a0 a1 a2 a3 a4 a5 a6 a7 a8) := if_pos hC
  rw [o0, o1, o2, o3, o4, o5, o6, o7, o8]
  have hy' : -30064771072 ≤ dot3 (oY0 a0 a1 a2 a3 a4 a5 a6 a7 a8) (oY1 a0 a1 a2 a3 a4 a5 a6 a7 a8) (oY2 a0 a1 a2 a3 a4 a5 a6 a7 a8) (oY0 a0 a1 a2 a3 a4 a5 a6 a7 a8) (oY1 a0 a1 a2 a3 a4 a5 a6 a7 a8) (oY2 a0 a1 a2 a3 a4 a5 a6 a7 a8) - 18446744073709551616 ∧ dot3 (oY0 a0 a1 a2 a3 a4 a5 a6 a7 a8) (oY1 a0 a1 a2 a3 a4 a5 a6 a7 a8) (oY2 a0 a1 a2 a3 a4 a5 a6 a7 a8) (oY0 a0 a1 a2 a3 a4 a5 a6 a7 a8) (oY1 a0 a1 a2 a3 a4 a5 a6 a7 a8) (oY2 a0 a1 a2 a3 a4 a5 a6 a7 a8) - 18446744073709551616 ≤ 38654705664 := hy
  have v0' : -4294967297 ≤ oY0 a0 a1 a2 a3 a4 a5 a6 a7 a8 ∧ oY0 a0 a1 a2 a3 a4 a5 a6 a7 a8 ≤ 4294967297 := v0
  have v1' : -4294967297 ≤ oY1 a0 a1 a2 a3 a4 a5 a6 a7 a8 ∧ oY1 a0 a1 a2 a3 a4 a5 a6 a7 a8 ≤ 4294967297 := v1
  have v2' : -4294967297 ≤ oY2 a0 a1 a2 a3 a4 a5 a6 a7 a8 ∧ oY2 a0 a1 a2 a3 a4 a5 a6 a7 a8 ≤ 4294967297 := v2
  rw [← hZ0] at hz hzx hzy w0
  rw [← hZ1] at hz hzx hzy w1
  rw [← hZ2] at hz hzx hzy w2
  have hyb : 0 < dot3 (oY0 a0 a1 a2 a3 a4 a5 a6 a7 a8) (oY1 a0 a1 a2 a3 a4 a5 a6 a7 a8) (oY2 a0 a1 a2 a3 a4 a5 a6 a7 a8) a3 a4 a5 := by
    have mb := (abs_le_sq (x := m) (B := 4900000000) (by omega) (by omega))
    have t0 := bdm he0 c0
    have t1 := bdm he1 c1
    have t2 := bdm he2 c2
    have u0 := bdm (show -4900000000 ≤ s0 ∧ s0 ≤ 4900000000 by omega) c0
    have u1 := bdm (show -4900000000 ≤ s1 ∧ s1 ≤ 4900000000 by omega) c1
    have u2 := bdm (show -4900000000 ≤ s2 ∧ s2 ≤ 4900000000 by omega) c2
    have j0' : m * oY0 a0 a1 a2 a3 a4 a5 a6 a7 a8 = (a3 - (pr (unV a0 a0 a1 a2) (dotZ a3 a4 a5 (unV a0 a0 a1 a2) (unV a1 a0 a1 a2) (unV a2 a0 a1 a2)))) * 4294967296 - s0 := by rw [← hR0]; exact j0
    have j1' : m * oY1 a0 a1 a2 a3 a4 a5 a6 a7 a8 = (a4 - (pr (unV a1 a0 a1 a2) (dotZ a3 a4 a5 (unV a0 a0 a1 a2) (unV a1 a0 a1 a2) (unV a2 a0 a1 a2)))) * 4294967296 - s1 := by rw [← hR1]; exact j1
    have j2' : m * oY2 a0 a1 a2 a3 a4 a5 a6 a7 a8 = (a5 - (pr (unV a2 a0 a1 a2) (dotZ a3 a4 a5 (unV a0 a0 a1 a2) (unV a1 a0 a1 a2) (unV a2 a0 a1 a2)))) * 4294967296 - s2 := by rw [← hR2]; exact j2
    generalize (pr (unV a0 a0 a1 a2) (dotZ a3 a4 a5 (unV a0 a0 a1 a2) (unV a1 a0 a1 a2) (unV a2 a0 a1 a2))) = E0 at *
    generalize (pr (unV a1 a0 a1 a2) (dotZ a3 a4 a5 (unV a0 a0 a1 a2) (unV a1 a0 a1 a2) (unV a2 a0 a1 a2))) = E1 at *
    generalize (pr (unV a2 a0 a1 a2) (dotZ a3 a4 a5 (unV a0 a0 a1 a2) (unV a1 a0 a1 a2) (unV a2 a0 a1 a2))) = E2 at *
    have key : m * dot3 (oY0 a0 a1 a2 a3 a4 a5 a6 a7 a8) (oY1 a0 a1 a2 a3 a4 a5 a6 a7 a8) (oY2 a0 a1 a2 a3 a4 a5 a6 a7 a8) a3 a4 a5 = 4294967296 * (dot3 a3 a4 a5 a3 a4 a5 - (E0 * a3 + E1 * a4 + E2 * a5)) - (s0 * a3 + s1 * a4 + s2 * a5) := by
      have : m * dot3 (oY0 a0 a1 a2 a3 a4 a5 a6 a7 a8) (oY1 a0 a1 a2 a3 a4 a5 a6 a7 a8) (oY2 a0 a1 a2 a3 a4 a5 a6 a7 a8) a3 a4 a5 = (m * oY0 a0 a1 a2 a3 a4 a5 a6 a7 a8) * a3 + (m * oY1 a0 a1 a2 a3 a4 a5 a6 a7 a8) * a4 + (m * oY2 a0 a1 a2 a3 a4 a5 a6 a7 a8) * a5 := by unfold dot3; grind
      rw [this, j0', j1', j2']
      unfold dot3; grind
    have hpos : 0 < m * dot3 (oY0 a0 a1 a2 a3 a4 a5 a6 a7 a8) (oY1 a0 a1 a2 a3 a4 a5 a6 a7 a8) (oY2 a0 a1 a2 a3 a4 a5 a6 a7 a8) a3 a4 a5 := by omega
    rcases Int.lt_or_le 0 (dot3 (oY0 a0 a1 a2 a3 a4 a5 a6 a7 a8) (oY1 a0 a1 a2 a3 a4 a5 a6 a7 a8) (oY2 a0 a1 a2 a3 a4 a5 a6 a7 a8) a3 a4 a5) with hl | hl
    · exact hl
    · have := Int.mul_nonpos_of_nonneg_of_nonpos (show 0 ≤ m by omega) hl
      omega
  have hzx' := dot3_comm (oZ0 a0 a1 a2 a3 a4 a5 a6 a7 a8) (oZ1 a0 a1 a2 a3 a4 a5 a6 a7 a8) (oZ2 a0 a1 a2 a3 a4 a5 a6 a7 a8) (unV a0 a0 a1 a2) (unV a1 a0 a1 a2) (unV a2 a0 a1 a2)
  have hzy' := dot3_comm (oZ0 a0 a1 a2 a3 a4 a5 a6 a7 a8) (oZ1 a0 a1 a2 a3 a4 a5 a6 a7 a8) (oZ2 a0 a1 a2 a3 a4 a5 a6 a7 a8) (oY0 a0 a1 a2 a3 a4 a5 a6 a7 a8) (oY1 a0 a1 a2 a3 a4 a5 a6 a7 a8) (oY2 a0 a1 a2 a3 a4 a5 a6 a7 a8)
  refine ⟨hC, ⟨?_, ?_, ?_, ?_, ?_, ?_⟩, by omega, by omega, by omega, by omega, by omega, by omega, by omega, by omega, by omega, n, r0, r1, r2, hn, n1, n2, ⟨g0, g1, g2⟩, k0, k1, k2, hyb⟩ <;> omega
/-- numbers in three rows -/
structure Mt where
  a0 : Int
  a1 : Int
  a2 : Int
  a3 : Int
  a4 : Int
  a5 : Int
  a6 : Int
  a7 : Int
  a8 : Int
def sameM : Mt := ⟨4294967296, 0, 0, 0, 4294967296, 0, 0, 0, 4294967296⟩
def mulM (A B : Mt) : Mt := ⟨clipV (dotZ A.a0 A.a1 A.a2 B.a0 B.a3 B.a6), clipV (dotZ A.a0 A.a1 A.a2 B.a1 B.a4 B.a7), clipV (dotZ A.a0 A.a1 A.a2 B.a2 B.a5 B.a8), clipV (dotZ A.a3 A.a4 A.a5 B.a0 B.a3 B.a6), clipV (dotZ A.a3 A.a4 A.a5 B.a1 B.a4 B.a7), clipV (dotZ A.a3 A.a4 A.a5 B.a2 B.a5 B.a8), clipV (dotZ A.a6 A.a7 A.a8 B.a0 B.a3 B.a6), clipV (dotZ A.a6 A.a7 A.a8 B.a1 B.a4 B.a7), clipV (dotZ A.a6 A.a7 A.a8 B.a2 B.a5 B.a8)⟩
def mulK (A B : Mt) : Bool := ((clipC (dotZ A.a0 A.a1 A.a2 B.a0 B.a3 B.a6) || clipC (dotZ A.a0 A.a1 A.a2 B.a1 B.a4 B.a7) || clipC (dotZ A.a0 A.a1 A.a2 B.a2 B.a5 B.a8)) || (clipC (dotZ A.a3 A.a4 A.a5 B.a0 B.a3 B.a6) || clipC (dotZ A.a3 A.a4 A.a5 B.a1 B.a4 B.a7) || clipC (dotZ A.a3 A.a4 A.a5 B.a2 B.a5 B.a8)) || (clipC (dotZ A.a6 A.a7 A.a8 B.a0 B.a3 B.a6) || clipC (dotZ A.a6 A.a7 A.a8 B.a1 B.a4 B.a7) || clipC (dotZ A.a6 A.a7 A.a8 B.a2 B.a5 B.a8)))
def abM (k : Nat) (x : Int) : Mt := match k with
  | 0 => ⟨4294967296, 0, 0, 0, (bothC x), (-bothS x), 0, (bothS x), (bothC x)⟩
  | 1 => ⟨(bothC x), 0, (bothS x), 0, 4294967296, 0, (-bothS x), 0, (bothC x)⟩
  | _ => ⟨(bothC x), (-bothS x), 0, (bothS x), (bothC x), 0, 0, 0, 4294967296⟩
noncomputable def upM (A : Mt) : Mt := ⟨ort0 A.a0 A.a1 A.a2 A.a3 A.a4 A.a5 A.a6 A.a7 A.a8, ort1 A.a0 A.a1 A.a2 A.a3 A.a4 A.a5 A.a6 A.a7 A.a8, ort2 A.a0 A.a1 A.a2 A.a3 A.a4 A.a5 A.a6 A.a7 A.a8, ort3 A.a0 A.a1 A.a2 A.a3 A.a4 A.a5 A.a6 A.a7 A.a8, ort4 A.a0 A.a1 A.a2 A.a3 A.a4 A.a5 A.a6 A.a7 A.a8, ort5 A.a0 A.a1 A.a2 A.a3 A.a4 A.a5 A.a6 A.a7 A.a8, ort6 A.a0 A.a1 A.a2 A.a3 A.a4 A.a5 A.a6 A.a7 A.a8, ort7 A.a0 A.a1 A.a2 A.a3 A.a4 A.a5 A.a6 A.a7 A.a8, ort8 A.a0 A.a1 A.a2 A.a3 A.a4 A.a5 A.a6 A.a7 A.a8⟩
/-- nearly upright -/
def NearM (E : Int) (A : Mt) : Prop := RowsE E A.a0 A.a1 A.a2 A.a3 A.a4 A.a5 A.a6 A.a7 A.a8
theorem near_bd {E : Int} {A : Mt} (hE : E ≤ 232000000000000) (h : NearM E A) : (-4300000000 ≤ A.a0 ∧ A.a0 ≤ 4300000000) ∧ (-4300000000 ≤ A.a1 ∧ A.a1 ≤ 4300000000) ∧ (-4300000000 ≤ A.a2 ∧ A.a2 ≤ 4300000000) ∧ (-4300000000 ≤ A.a3 ∧ A.a3 ≤ 4300000000) ∧ (-4300000000 ≤ A.a4 ∧ A.a4 ≤ 4300000000) ∧ (-4300000000 ≤ A.a5 ∧ A.a5 ≤ 4300000000) ∧ (-4300000000 ≤ A.a6 ∧ A.a6 ≤ 4300000000) ∧ (-4300000000 ≤ A.a7 ∧ A.a7 ≤ 4300000000) ∧ (-4300000000 ≤ A.a8 ∧ A.a8 ≤ 4300000000) := by
  obtain ⟨h0, h1, h2, _, _, _⟩ := h
  unfold dot3 at h0 h1 h2
  have s0 := sq_nn A.a0
  have s1 := sq_nn A.a1
  have s2 := sq_nn A.a2
  have s3 := sq_nn A.a3
  have s4 := sq_nn A.a4
  have s5 := sq_nn A.a5
  have s6 := sq_nn A.a6
  have s7 := sq_nn A.a7
  have s8 := sq_nn A.a8
  refine ⟨abs_le_sq (by omega) (by omega), abs_le_sq (by omega) (by omega), abs_le_sq (by omega) (by omega), abs_le_sq (by omega) (by omega), abs_le_sq (by omega) (by omega), abs_le_sq (by omega) (by omega), abs_le_sq (by omega) (by omega), abs_le_sq (by omega) (by omega), abs_le_sq (by omega) (by omega)⟩
theorem tw {x y p q x' y' p' q' c s : Int} (bx : -4300000000 ≤ x ∧ x ≤ 4300000000) (b_y : -4300000000 ≤ y ∧ y ≤ 4300000000) (bx' : -4300000000 ≤ x' ∧ x' ≤ 4300000000) (b_y' : -4300000000 ≤ y' ∧ y' ≤ 4300000000) (bc : -4294967296 ≤ c ∧ c ≤ 4294967296) (bs : -4294967296 ≤ s ∧ s ≤ 4294967296) (hl : -2300000000000 ≤ c * c + s * s - 18446744073709551616 ∧ c * c + s * s - 18446744073709551616 ≤ 2300000000000)
    (hp : -6442450944 ≤ 4294967296 * p - (x * c + y * s) ∧ 4294967296 * p - (x * c + y * s) ≤ 6442450944) (hq : -6442450944 ≤ 4294967296 * q - (y * c - x * s) ∧ 4294967296 * q - (y * c - x * s) ≤ 6442450944) (hp' : -6442450944 ≤ 4294967296 * p' - (x' * c + y' * s) ∧ 4294967296 * p' - (x' * c + y' * s) ≤ 6442450944) (hq' : -6442450944 ≤ 4294967296 * q' - (y' * c - x' * s) ∧ 4294967296 * q' - (y' * c - x' * s) ≤ 6442450944) :
    -4767413698560 ≤ p * p' + q * q' - (x * x' + y * y') ∧ p * p' + q * q' - (x * x' + y * y') ≤ 4767413698560 := by
  have u0 := bdm bx bc
  have u1 := bdm bx bs
  have u2 := bdm b_y bc
  have u3 := bdm b_y bs
  have v0 := bdm bx' bc
  have v1 := bdm bx' bs
  have v2 := bdm b_y' bc
  have v3 := bdm b_y' bs
  have m1 := bdm bx bx'
  have m2 := bdm b_y b_y'
  have m3 := bdm (x := x * x' + y * y') (A := 36980000000000000000) (by omega) hl
  have n1 := bdm (x := x * c + y * s) (A := 36936718745600000000) (by omega) hp'
  have n2 := bdm hp (y := x' * c + y' * s) (B := 36936718745600000000) (by omega)
  have n3 := bdm hp hp'
  have n4 := bdm (x := y * c - x * s) (A := 36936718745600000000) (by omega) hq'
  have n5 := bdm hq (y := y' * c - x' * s) (B := 36936718745600000000) (by omega)
  have n6 := bdm hq hq'
  have key : 18446744073709551616 * (p * p' + q * q') = 18446744073709551616 * (x * x' + y * y') + (x * x' + y * y') * (c * c + s * s - 18446744073709551616) + ((x * c + y * s) * (4294967296 * p' - (x' * c + y' * s)) + (4294967296 * p - (x * c + y * s)) * (x' * c + y' * s) + (4294967296 * p - (x * c + y * s)) * (4294967296 * p' - (x' * c + y' * s))) + ((y * c - x * s) * (4294967296 * q' - (y' * c - x' * s)) + (4294967296 * q - (y * c - x * s)) * (y' * c - x' * s) + (4294967296 * q - (y * c - x * s)) * (4294967296 * q' - (y' * c - x' * s))) := by grind
  omega
theorem near_mul0 {E x : Int} {A : Mt} (hE : E ≤ 226000000000000) (h : NearM E A) (hx : 0 ≤ x ∧ x < 4294967296) : NearM (E + 4767413698560) (mulM A (abM 0 x)) ∧ mulK A (abM 0 x) = false := by
  have hb := near_bd (by omega) h
  obtain ⟨b0, b1, b2, b3, b4, b5, b6, b7, b8⟩ := hb
  obtain ⟨h00, h11, h22, h01, h02, h12⟩ := h
  have hl : -2300000000000 ≤ bothC x * bothC x + bothS x * bothS x - 18446744073709551616 ∧ bothC x * bothC x + bothS x * bothS x - 18446744073709551616 ≤ 2300000000000 := by have := Cx.both_len hx; omega
  obtain ⟨⟨c1, c2⟩, s1, s2⟩ := both_bd x
  have u0 := bdm b1 (show -4294967296 ≤ bothC x ∧ bothC x ≤ 4294967296 from ⟨c1, c2⟩)
  have v0 := bdm b1 (show -4294967296 ≤ bothS x ∧ bothS x ≤ 4294967296 from ⟨s1, s2⟩)
  have w0 := bdm b2 (show -4294967296 ≤ bothC x ∧ bothC x ≤ 4294967296 from ⟨c1, c2⟩)
  have y0 := bdm b2 (show -4294967296 ≤ bothS x ∧ bothS x ≤ 4294967296 from ⟨s1, s2⟩)
  have z0 := dot_rd A.a0 A.a1 A.a2 4294967296 0 0
  have z1 := dot_rd A.a0 A.a1 A.a2 0 (bothC x) (bothS x)
  have z2 := dot_rd A.a0 A.a1 A.a2 0 (-bothS x) (bothC x)
  have x0 := (dot_0 A.a0 A.a1 A.a2).2
  have u1 := bdm b4 (show -4294967296 ≤ bothC x ∧ bothC x ≤ 4294967296 from ⟨c1, c2⟩)
  have v1 := bdm b4 (show -4294967296 ≤ bothS x ∧ bothS x ≤ 4294967296 from ⟨s1, s2⟩)
  have w1 := bdm b5 (show -4294967296 ≤ bothC x ∧ bothC x ≤ 4294967296 from ⟨c1, c2⟩)
  have y1 := bdm b5 (show -4294967296 ≤ bothS x ∧ bothS x ≤ 4294967296 from ⟨s1, s2⟩)
  have z3 := dot_rd A.a3 A.a4 A.a5 4294967296 0 0
  have z4 := dot_rd A.a3 A.a4 A.a5 0 (bothC x) (bothS x)
  have z5 := dot_rd A.a3 A.a4 A.a5 0 (-bothS x) (bothC x)
  have x1 := (dot_0 A.a3 A.a4 A.a5).2
  have u2 := bdm b7 (show -4294967296 ≤ bothC x ∧ bothC x ≤ 4294967296 from ⟨c1, c2⟩)
  have v2 := bdm b7 (show -4294967296 ≤ bothS x ∧ bothS x ≤ 4294967296 from ⟨s1, s2⟩)
  have w2 := bdm b8 (show -4294967296 ≤ bothC x ∧ bothC x ≤ 4294967296 from ⟨c1, c2⟩)
  have y2 := bdm b8 (show -4294967296 ≤ bothS x ∧ bothS x ≤ 4294967296 from ⟨s1, s2⟩)
  have z6 := dot_rd A.a6 A.a7 A.a8 4294967296 0 0
  have z7 := dot_rd A.a6 A.a7 A.a8 0 (bothC x) (bothS x)
  have z8 := dot_rd A.a6 A.a7 A.a8 0 (-bothS x) (bothC x)
  have x2 := (dot_0 A.a6 A.a7 A.a8).2
  have e1 : ∀ y : Int, y * -bothS x = -(y * bothS x) := fun y => Int.mul_neg _ _
  simp only [dot3, Int.mul_zero, Int.zero_add, Int.add_zero, e1] at z1 z2 z4 z5 z7 z8
  have d0 : -100000000000 ≤ dotZ A.a0 A.a1 A.a2 4294967296 0 0 ∧ dotZ A.a0 A.a1 A.a2 4294967296 0 0 ≤ 100000000000 := by omega
  obtain ⟨f0, g0⟩ := clip_sm d0
  have d1 : -100000000000 ≤ dotZ A.a0 A.a1 A.a2 0 (bothC x) (bothS x) ∧ dotZ A.a0 A.a1 A.a2 0 (bothC x) (bothS x) ≤ 100000000000 := by omega
  obtain ⟨f1, g1⟩ := clip_sm d1
  have d2 : -100000000000 ≤ dotZ A.a0 A.a1 A.a2 0 (-bothS x) (bothC x) ∧ dotZ A.a0 A.a1 A.a2 0 (-bothS x) (bothC x) ≤ 100000000000 := by omega
  obtain ⟨f2, g2⟩ := clip_sm d2
  have d3 : -100000000000 ≤ dotZ A.a3 A.a4 A.a5 4294967296 0 0 ∧ dotZ A.a3 A.a4 A.a5 4294967296 0 0 ≤ 100000000000 := by omega
  obtain ⟨f3, g3⟩ := clip_sm d3
  have d4 : -100000000000 ≤ dotZ A.a3 A.a4 A.a5 0 (bothC x) (bothS x) ∧ dotZ A.a3 A.a4 A.a5 0 (bothC x) (bothS x) ≤ 100000000000 := by omega
  obtain ⟨f4, g4⟩ := clip_sm d4
  have d5 : -100000000000 ≤ dotZ A.a3 A.a4 A.a5 0 (-bothS x) (bothC x) ∧ dotZ A.a3 A.a4 A.a5 0 (-bothS x) (bothC x) ≤ 100000000000 := by omega
  obtain ⟨f5, g5⟩ := clip_sm d5
  have d6 : -100000000000 ≤ dotZ A.a6 A.a7 A.a8 4294967296 0 0 ∧ dotZ A.a6 A.a7 A.a8 4294967296 0 0 ≤ 100000000000 := by omega
  obtain ⟨f6, g6⟩ := clip_sm d6
  have d7 : -100000000000 ≤ dotZ A.a6 A.a7 A.a8 0 (bothC x) (bothS x) ∧ dotZ A.a6 A.a7 A.a8 0 (bothC x) (bothS x) ≤ 100000000000 := by omega
  obtain ⟨f7, g7⟩ := clip_sm d7
  have d8 : -100000000000 ≤ dotZ A.a6 A.a7 A.a8 0 (-bothS x) (bothC x) ∧ dotZ A.a6 A.a7 A.a8 0 (-bothS x) (bothC x) ≤ 100000000000 := by omega
  obtain ⟨f8, g8⟩ := clip_sm d8
  have hM : mulM A (abM 0 x) = ⟨A.a0, dotZ A.a0 A.a1 A.a2 0 (bothC x) (bothS x), dotZ A.a0 A.a1 A.a2 0 (-bothS x) (bothC x), A.a3, dotZ A.a3 A.a4 A.a5 0 (bothC x) (bothS x), dotZ A.a3 A.a4 A.a5 0 (-bothS x) (bothC x), A.a6, dotZ A.a6 A.a7 A.a8 0 (bothC x) (bothS x), dotZ A.a6 A.a7 A.a8 0 (-bothS x) (bothC x)⟩ := by
    show (⟨clipV (dotZ A.a0 A.a1 A.a2 4294967296 0 0), clipV (dotZ A.a0 A.a1 A.a2 0 (bothC x) (bothS x)), clipV (dotZ A.a0 A.a1 A.a2 0 (-bothS x) (bothC x)), clipV (dotZ A.a3 A.a4 A.a5 4294967296 0 0), clipV (dotZ A.a3 A.a4 A.a5 0 (bothC x) (bothS x)), clipV (dotZ A.a3 A.a4 A.a5 0 (-bothS x) (bothC x)), clipV (dotZ A.a6 A.a7 A.a8 4294967296 0 0), clipV (dotZ A.a6 A.a7 A.a8 0 (bothC x) (bothS x)), clipV (dotZ A.a6 A.a7 A.a8 0 (-bothS x) (bothC x))⟩ : Mt) = _
    rw [f0, f1, f2, f3, f4, f5, f6, f7, f8, x0, x1, x2]
  have hK : mulK A (abM 0 x) = false := by
    show ((clipC (dotZ A.a0 A.a1 A.a2 4294967296 0 0) || clipC (dotZ A.a0 A.a1 A.a2 0 (bothC x) (bothS x)) || clipC (dotZ A.a0 A.a1 A.a2 0 (-bothS x) (bothC x))) || (clipC (dotZ A.a3 A.a4 A.a5 4294967296 0 0) || clipC (dotZ A.a3 A.a4 A.a5 0 (bothC x) (bothS x)) || clipC (dotZ A.a3 A.a4 A.a5 0 (-bothS x) (bothC x))) || (clipC (dotZ A.a6 A.a7 A.a8 4294967296 0 0) || clipC (dotZ A.a6 A.a7 A.a8 0 (bothC x) (bothS x)) || clipC (dotZ A.a6 A.a7 A.a8 0 (-bothS x) (bothC x)))) = false
    rw [g0, g1, g2, g3, g4, g5, g6, g7, g8]
    rfl
  refine ⟨?_, hK⟩
  rw [hM]
  generalize hp0 : dotZ A.a0 A.a1 A.a2 0 (bothC x) (bothS x) = p0 at *
  generalize hq0 : dotZ A.a0 A.a1 A.a2 0 (-bothS x) (bothC x) = q0 at *
  generalize hp1 : dotZ A.a3 A.a4 A.a5 0 (bothC x) (bothS x) = p1 at *
  generalize hq1 : dotZ A.a3 A.a4 A.a5 0 (-bothS x) (bothC x) = q1 at *
  generalize hp2 : dotZ A.a6 A.a7 A.a8 0 (bothC x) (bothS x) = p2 at *
  generalize hq2 : dotZ A.a6 A.a7 A.a8 0 (-bothS x) (bothC x) = q2 at *
  generalize bothC x = c at *
  generalize bothS x = s at *
  have k00 : -(E + 4767413698560) ≤ dot3 A.a0 p0 q0 A.a0 p0 q0 - 18446744073709551616 ∧ dot3 A.a0 p0 q0 A.a0 p0 q0 - 18446744073709551616 ≤ E + 4767413698560 := by
    have := tw b1 b2 b1 b2 ⟨c1, c2⟩ ⟨s1, s2⟩ hl (p := p0) (q := q0) (p' := p0) (q' := q0) (by omega) (by omega) (by omega) (by omega)
    unfold dot3 at *; omega
  have k11 : -(E + 4767413698560) ≤ dot3 A.a3 p1 q1 A.a3 p1 q1 - 18446744073709551616 ∧ dot3 A.a3 p1 q1 A.a3 p1 q1 - 18446744073709551616 ≤ E + 4767413698560 := by
    have := tw b4 b5 b4 b5 ⟨c1, c2⟩ ⟨s1, s2⟩ hl (p := p1) (q := q1) (p' := p1) (q' := q1) (by omega) (by omega) (by omega) (by omega)
    unfold dot3 at *; omega
  have k22 : -(E + 4767413698560) ≤ dot3 A.a6 p2 q2 A.a6 p2 q2 - 18446744073709551616 ∧ dot3 A.a6 p2 q2 A.a6 p2 q2 - 18446744073709551616 ≤ E + 4767413698560 := by
    have := tw b7 b8 b7 b8 ⟨c1, c2⟩ ⟨s1, s2⟩ hl (p := p2) (q := q2) (p' := p2) (q' := q2) (by omega) (by omega) (by omega) (by omega)
    unfold dot3 at *; omega
  have k01 : -(E + 4767413698560) ≤ dot3 A.a0 p0 q0 A.a3 p1 q1 - 0 ∧ dot3 A.a0 p0 q0 A.a3 p1 q1 - 0 ≤ E + 4767413698560 := by
    have := tw b1 b2 b4 b5 ⟨c1, c2⟩ ⟨s1, s2⟩ hl (p := p0) (q := q0) (p' := p1) (q' := q1) (by omega) (by omega) (by omega) (by omega)
    unfold dot3 at *; omega
  have k02 : -(E + 4767413698560) ≤ dot3 A.a0 p0 q0 A.a6 p2 q2 - 0 ∧ dot3 A.a0 p0 q0 A.a6 p2 q2 - 0 ≤ E + 4767413698560 := by
    have := tw b1 b2 b7 b8 ⟨c1, c2⟩ ⟨s1, s2⟩ hl (p := p0) (q := q0) (p' := p2) (q' := q2) (by omega) (by omega) (by omega) (by omega)
    unfold dot3 at *; omega
  have k12 : -(E + 4767413698560) ≤ dot3 A.a3 p1 q1 A.a6 p2 q2 - 0 ∧ dot3 A.a3 p1 q1 A.a6 p2 q2 - 0 ≤ E + 4767413698560 := by
    have := tw b4 b5 b7 b8 ⟨c1, c2⟩ ⟨s1, s2⟩ hl (p := p1) (q := q1) (p' := p2) (q' := q2) (by omega) (by omega) (by omega) (by omega)
    unfold dot3 at *; omega
  exact ⟨k00, k11, k22, k01, k02, k12⟩
theorem near_mul1 {E x : Int} {A : Mt} (hE : E ≤ 226000000000000) (h : NearM E A) (hx : 0 ≤ x ∧ x < 4294967296) : NearM (E + 4767413698560) (mulM A (abM 1 x)) ∧ mulK A (abM 1 x) = false := by
  have hb := near_bd (by omega) h
  obtain ⟨b0, b1, b2, b3, b4, b5, b6, b7, b8⟩ := hb
  obtain ⟨h00, h11, h22, h01, h02, h12⟩ := h
  have hl : -2300000000000 ≤ bothC x * bothC x + bothS x * bothS x - 18446744073709551616 ∧ bothC x * bothC x + bothS x * bothS x - 18446744073709551616 ≤ 2300000000000 := by have := Cx.both_len hx; omega
  obtain ⟨⟨c1, c2⟩, s1, s2⟩ := both_bd x
  have u0 := bdm b2 (show -4294967296 ≤ bothC x ∧ bothC x ≤ 4294967296 from ⟨c1, c2⟩)
  have v0 := bdm b2 (show -4294967296 ≤ bothS x ∧ bothS x ≤ 4294967296 from ⟨s1, s2⟩)
  have w0 := bdm b0 (show -4294967296 ≤ bothC x ∧ bothC x ≤ 4294967296 from ⟨c1, c2⟩)
  have y0 := bdm b0 (show -4294967296 ≤ bothS x ∧ bothS x ≤ 4294967296 from ⟨s1, s2⟩)
  have z0 := dot_rd A.a0 A.a1 A.a2 (bothC x) 0 (-bothS x)
  have z1 := dot_rd A.a0 A.a1 A.a2 0 4294967296 0
  have z2 := dot_rd A.a0 A.a1 A.a2 (bothS x) 0 (bothC x)
  have x0 := (dot_1 A.a0 A.a1 A.a2).2
  have u1 := bdm b5 (show -4294967296 ≤ bothC x ∧ bothC x ≤ 4294967296 from ⟨c1, c2⟩)
  have v1 := bdm b5 (show -4294967296 ≤ bothS x ∧ bothS x ≤ 4294967296 from ⟨s1, s2⟩)
  have w1 := bdm b3 (show -4294967296 ≤ bothC x ∧ bothC x ≤ 4294967296 from ⟨c1, c2⟩)
  have y1 := bdm b3 (show -4294967296 ≤ bothS x ∧ bothS x ≤ 4294967296 from ⟨s1, s2⟩)
  have z3 := dot_rd A.a3 A.a4 A.a5 (bothC x) 0 (-bothS x)
  have z4 := dot_rd A.a3 A.a4 A.a5 0 4294967296 0
  have z5 := dot_rd A.a3 A.a4 A.a5 (bothS x) 0 (bothC x)
  have x1 := (dot_1 A.a3 A.a4 A.a5).2
  have u2 := bdm b8 (show -4294967296 ≤ bothC x ∧ bothC x ≤ 4294967296 from ⟨c1, c2⟩)
  have v2 := bdm b8 (show -4294967296 ≤ bothS x ∧ bothS x ≤ 4294967296 from ⟨s1, s2⟩)
  have w2 := bdm b6 (show -4294967296 ≤ bothC x ∧ bothC x ≤ 4294967296 from ⟨c1, c2⟩)
  have y2 := bdm b6 (show -4294967296 ≤ bothS x ∧ bothS x ≤ 4294967296 from ⟨s1, s2⟩)
  have z6 := dot_rd A.a6 A.a7 A.a8 (bothC x) 0 (-bothS x)
  have z7 := dot_rd A.a6 A.a7 A.a8 0 4294967296 0
  have z8 := dot_rd A.a6 A.a7 A.a8 (bothS x) 0 (bothC x)
  have x2 := (dot_1 A.a6 A.a7 A.a8).2
  have e1 : ∀ y : Int, y * -bothS x = -(y * bothS x) := fun y => Int.mul_neg _ _
  simp only [dot3, Int.mul_zero, Int.zero_add, Int.add_zero, e1] at z2 z0 z5 z3 z8 z6
  have d0 : -100000000000 ≤ dotZ A.a0 A.a1 A.a2 (bothC x) 0 (-bothS x) ∧ dotZ A.a0 A.a1 A.a2 (bothC x) 0 (-bothS x) ≤ 100000000000 := by omega
  obtain ⟨f0, g0⟩ := clip_sm d0
  have d1 : -100000000000 ≤ dotZ A.a0 A.a1 A.a2 0 4294967296 0 ∧ dotZ A.a0 A.a1 A.a2 0 4294967296 0 ≤ 100000000000 := by omega
  obtain ⟨f1, g1⟩ := clip_sm d1
  have d2 : -100000000000 ≤ dotZ A.a0 A.a1 A.a2 (bothS x) 0 (bothC x) ∧ dotZ A.a0 A.a1 A.a2 (bothS x) 0 (bothC x) ≤ 100000000000 := by omega
  obtain ⟨f2, g2⟩ := clip_sm d2
  have d3 : -100000000000 ≤ dotZ A.a3 A.a4 A.a5 (bothC x) 0 (-bothS x) ∧ dotZ A.a3 A.a4 A.a5 (bothC x) 0 (-bothS x) ≤ 100000000000 := by omega
  obtain ⟨f3, g3⟩ := clip_sm d3
  have d4 : -100000000000 ≤ dotZ A.a3 A.a4 A.a5 0 4294967296 0 ∧ dotZ A.a3 A.a4 A.a5 0 4294967296 0 ≤ 100000000000 := by omega
  obtain ⟨f4, g4⟩ := clip_sm d4
  have d5 : -100000000000 ≤ dotZ A.a3 A.a4 A.a5 (bothS x) 0 (bothC x) ∧ dotZ A.a3 A.a4 A.a5 (bothS x) 0 (bothC x) ≤ 100000000000 := by omega
  obtain ⟨f5, g5⟩ := clip_sm d5
  have d6 : -100000000000 ≤ dotZ A.a6 A.a7 A.a8 (bothC x) 0 (-bothS x) ∧ dotZ A.a6 A.a7 A.a8 (bothC x) 0 (-bothS x) ≤ 100000000000 := by omega
  obtain ⟨f6, g6⟩ := clip_sm d6
  have d7 : -100000000000 ≤ dotZ A.a6 A.a7 A.a8 0 4294967296 0 ∧ dotZ A.a6 A.a7 A.a8 0 4294967296 0 ≤ 100000000000 := by omega
  obtain ⟨f7, g7⟩ := clip_sm d7
  have d8 : -100000000000 ≤ dotZ A.a6 A.a7 A.a8 (bothS x) 0 (bothC x) ∧ dotZ A.a6 A.a7 A.a8 (bothS x) 0 (bothC x) ≤ 100000000000 := by omega
  obtain ⟨f8, g8⟩ := clip_sm d8
  have hM : mulM A (abM 1 x) = ⟨dotZ A.a0 A.a1 A.a2 (bothC x) 0 (-bothS x), A.a1, dotZ A.a0 A.a1 A.a2 (bothS x) 0 (bothC x), dotZ A.a3 A.a4 A.a5 (bothC x) 0 (-bothS x), A.a4, dotZ A.a3 A.a4 A.a5 (bothS x) 0 (bothC x), dotZ A.a6 A.a7 A.a8 (bothC x) 0 (-bothS x), A.a7, dotZ A.a6 A.a7 A.a8 (bothS x) 0 (bothC x)⟩ := by
    show (⟨clipV (dotZ A.a0 A.a1 A.a2 (bothC x) 0 (-bothS x)), clipV (dotZ A.a0 A.a1 A.a2 0 4294967296 0), clipV (dotZ A.a0 A.a1 A.a2 (bothS x) 0 (bothC x)), clipV (dotZ A.a3 A.a4 A.a5 (bothC x) 0 (-bothS x)), clipV (dotZ A.a3 A.a4 A.a5 0 4294967296 0), clipV (dotZ A.a3 A.a4 A.a5 (bothS x) 0 (bothC x)), clipV (dotZ A.a6 A.a7 A.a8 (bothC x) 0 (-bothS x)), clipV (dotZ A.a6 A.a7 A.a8 0 4294967296 0), clipV (dotZ A.a6 A.a7 A.a8 (bothS x) 0 (bothC x))⟩ : Mt) = _
    rw [f0, f1, f2, f3, f4, f5, f6, f7, f8, x0, x1, x2]
  have hK : mulK A (abM 1 x) = false := by
    show ((clipC (dotZ A.a0 A.a1 A.a2 (bothC x) 0 (-bothS x)) || clipC (dotZ A.a0 A.a1 A.a2 0 4294967296 0) || clipC (dotZ A.a0 A.a1 A.a2 (bothS x) 0 (bothC x))) || (clipC (dotZ A.a3 A.a4 A.a5 (bothC x) 0 (-bothS x)) || clipC (dotZ A.a3 A.a4 A.a5 0 4294967296 0) || clipC (dotZ A.a3 A.a4 A.a5 (bothS x) 0 (bothC x))) || (clipC (dotZ A.a6 A.a7 A.a8 (bothC x) 0 (-bothS x)) || clipC (dotZ A.a6 A.a7 A.a8 0 4294967296 0) || clipC (dotZ A.a6 A.a7 A.a8 (bothS x) 0 (bothC x)))) = false
    rw [g0, g1, g2, g3, g4, g5, g6, g7, g8]
    rfl
  refine ⟨?_, hK⟩
  rw [hM]
  generalize hp0 : dotZ A.a0 A.a1 A.a2 (bothS x) 0 (bothC x) = p0 at *
  generalize hq0 : dotZ A.a0 A.a1 A.a2 (bothC x) 0 (-bothS x) = q0 at *
  generalize hp1 : dotZ A.a3 A.a4 A.a5 (bothS x) 0 (bothC x) = p1 at *
  generalize hq1 : dotZ A.a3 A.a4 A.a5 (bothC x) 0 (-bothS x) = q1 at *
  generalize hp2 : dotZ A.a6 A.a7 A.a8 (bothS x) 0 (bothC x) = p2 at *
  generalize hq2 : dotZ A.a6 A.a7 A.a8 (bothC x) 0 (-bothS x) = q2 at *
  generalize bothC x = c at *
  generalize bothS x = s at *
  have k00 : -(E + 4767413698560) ≤ dot3 q0 A.a1 p0 q0 A.a1 p0 - 18446744073709551616 ∧ dot3 q0 A.a1 p0 q0 A.a1 p0 - 18446744073709551616 ≤ E + 4767413698560 := by
    have := tw b2 b0 b2 b0 ⟨c1, c2⟩ ⟨s1, s2⟩ hl (p := p0) (q := q0) (p' := p0) (q' := q0) (by omega) (by omega) (by omega) (by omega)
    unfold dot3 at *; omega
  have k11 : -(E + 4767413698560) ≤ dot3 q1 A.a4 p1 q1 A.a4 p1 - 18446744073709551616 ∧ dot3 q1 A.a4 p1 q1 A.a4 p1 - 18446744073709551616 ≤ E + 4767413698560 := by
    have := tw b5 b3 b5 b3 ⟨c1, c2⟩ ⟨s1, s2⟩ hl (p := p1) (q := q1) (p' := p1) (q' := q1) (by omega) (by omega) (by omega) (by omega)
    unfold dot3 at *; omega
  have k22 : -(E + 4767413698560) ≤ dot3 q2 A.a7 p2 q2 A.a7 p2 - 18446744073709551616 ∧ dot3 q2 A.a7 p2 q2 A.a7 p2 - 18446744073709551616 ≤ E + 4767413698560 := by
    have := tw b8 b6 b8 b6 ⟨c1, c2⟩ ⟨s1, s2⟩ hl (p := p2) (q := q2) (p' := p2) (q' := q2) (by omega) (by omega) (by omega) (by omega)
    unfold dot3 at *; omega
  have k01 : -(E + 4767413698560) ≤ dot3 q0 A.a1 p0 q1 A.a4 p1 - 0 ∧ dot3 q0 A.a1 p0 q1 A.a4 p1 - 0 ≤ E + 4767413698560 := by
    have := tw b2 b0 b5 b3 ⟨c1, c2⟩ ⟨s1, s2⟩ hl (p := p0) (q := q0) (p' := p1) (q' := q1) (by omega) (by omega) (by omega) (by omega)
    unfold dot3 at *; omega
  have k02 : -(E + 4767413698560) ≤ dot3 q0 A.a1 p0 q2 A.a7 p2 - 0 ∧ dot3 q0 A.a1 p0 q2 A.a7 p2 - 0 ≤ E + 4767413698560 := by
    have := tw b2 b0 b8 b6 ⟨c1, c2⟩ ⟨s1, s2⟩ hl (p := p0) (q := q0) (p' := p2) (q' := q2) (by omega) (by omega) (by omega) (by omega)
    unfold dot3 at *; omega
  have k12 : -(E + 4767413698560) ≤ dot3 q1 A.a4 p1 q2 A.a7 p2 - 0 ∧ dot3 q1 A.a4 p1 q2 A.a7 p2 - 0 ≤ E + 4767413698560 := by
    have := tw b5 b3 b8 b6 ⟨c1, c2⟩ ⟨s1, s2⟩ hl (p := p1) (q := q1) (p' := p2) (q' := q2) (by omega) (by omega) (by omega) (by omega)
    unfold dot3 at *; omega
  exact ⟨k00, k11, k22, k01, k02, k12⟩
theorem near_mul2 {E x : Int} {A : Mt} (hE : E ≤ 226000000000000) (h : NearM E A) (hx : 0 ≤ x ∧ x < 4294967296) : NearM (E + 4767413698560) (mulM A (abM 2 x)) ∧ mulK A (abM 2 x) = false := by
  have hb := near_bd (by omega) h
  obtain ⟨b0, b1, b2, b3, b4, b5, b6, b7, b8⟩ := hb
  obtain ⟨h00, h11, h22, h01, h02, h12⟩ := h
  have hl : -2300000000000 ≤ bothC x * bothC x + bothS x * bothS x - 18446744073709551616 ∧ bothC x * bothC x + bothS x * bothS x - 18446744073709551616 ≤ 2300000000000 := by have := Cx.both_len hx; omega
  obtain ⟨⟨c1, c2⟩, s1, s2⟩ := both_bd x
  have u0 := bdm b0 (show -4294967296 ≤ bothC x ∧ bothC x ≤ 4294967296 from ⟨c1, c2⟩)
  have v0 := bdm b0 (show -4294967296 ≤ bothS x ∧ bothS x ≤ 4294967296 from ⟨s1, s2⟩)
  have w0 := bdm b1 (show -4294967296 ≤ bothC x ∧ bothC x ≤ 4294967296 from ⟨c1, c2⟩)
  have y0 := bdm b1 (show -4294967296 ≤ bothS x ∧ bothS x ≤ 4294967296 from ⟨s1, s2⟩)
  have z0 := dot_rd A.a0 A.a1 A.a2 (bothC x) (bothS x) 0
  have z1 := dot_rd A.a0 A.a1 A.a2 (-bothS x) (bothC x) 0
  have z2 := dot_rd A.a0 A.a1 A.a2 0 0 4294967296
  have x0 := (dot_2 A.a0 A.a1 A.a2).2
  have u1 := bdm b3 (show -4294967296 ≤ bothC x ∧ bothC x ≤ 4294967296 from ⟨c1, c2⟩)
  have v1 := bdm b3 (show -4294967296 ≤ bothS x ∧ bothS x ≤ 4294967296 from ⟨s1, s2⟩)
  have w1 := bdm b4 (show -4294967296 ≤ bothC x ∧ bothC x ≤ 4294967296 from ⟨c1, c2⟩)
  have y1 := bdm b4 (show -4294967296 ≤ bothS x ∧ bothS x ≤ 4294967296 from ⟨s1, s2⟩)
  have z3 := dot_rd A.a3 A.a4 A.a5 (bothC x) (bothS x) 0
  have z4 := dot_rd A.a3 A.a4 A.a5 (-bothS x) (bothC x) 0
  have z5 := dot_rd A.a3 A.a4 A.a5 0 0 4294967296
  have x1 := (dot_2 A.a3 A.a4 A.a5).2
  have u2 := bdm b6 (show -4294967296 ≤ bothC x ∧ bothC x ≤ 4294967296 from ⟨c1, c2⟩)
  have v2 := bdm b6 (show -4294967296 ≤ bothS x ∧ bothS x ≤ 4294967296 from ⟨s1, s2⟩)
  have w2 := bdm b7 (show -4294967296 ≤ bothC x ∧ bothC x ≤ 4294967296 from ⟨c1, c2⟩)
  have y2 := bdm b7 (show -4294967296 ≤ bothS x ∧ bothS x ≤ 4294967296 from ⟨s1, s2⟩)
  have z6 := dot_rd A.a6 A.a7 A.a8 (bothC x) (bothS x) 0
  have z7 := dot_rd A.a6 A.a7 A.a8 (-bothS x) (bothC x) 0
  have z8 := dot_rd A.a6 A.a7 A.a8 0 0 4294967296
  have x2 := (dot_2 A.a6 A.a7 A.a8).2
  have e1 : ∀ y : Int, y * -bothS x = -(y * bothS x) := fun y => Int.mul_neg _ _
  simp only [dot3, Int.mul_zero, Int.zero_add, Int.add_zero, e1] at z0 z1 z3 z4 z6 z7
  have d0 : -100000000000 ≤ dotZ A.a0 A.a1 A.a2 (bothC x) (bothS x) 0 ∧ dotZ A.a0 A.a1 A.a2 (bothC x) (bothS x) 0 ≤ 100000000000 := by omega
  obtain ⟨f0, g0⟩ := clip_sm d0
  have d1 : -100000000000 ≤ dotZ A.a0 A.a1 A.a2 (-bothS x) (bothC x) 0 ∧ dotZ A.a0 A.a1 A.a2 (-bothS x) (bothC x) 0 ≤ 100000000000 := by omega
  obtain ⟨f1, g1⟩ := clip_sm d1
  have d2 : -100000000000 ≤ dotZ A.a0 A.a1 A.a2 0 0 4294967296 ∧ dotZ A.a0 A.a1 A.a2 0 0 4294967296 ≤ 100000000000 := by omega
  obtain ⟨f2, g2⟩ := clip_sm d2
  have d3 : -100000000000 ≤ dotZ A.a3 A.a4 A.a5 (bothC x) (bothS x) 0 ∧ dotZ A.a3 A.a4 A.a5 (bothC x) (bothS x) 0 ≤ 100000000000 := by omega
  obtain ⟨f3, g3⟩ := clip_sm d3
  have d4 : -100000000000 ≤ dotZ A.a3 A.a4 A.a5 (-bothS x) (bothC x) 0 ∧ dotZ A.a3 A.a4 A.a5 (-bothS x) (bothC x) 0 ≤ 100000000000 := by omega
  obtain ⟨f4, g4⟩ := clip_sm d4
  have d5 : -100000000000 ≤ dotZ A.a3 A.a4 A.a5 0 0 4294967296 ∧ dotZ A.a3 A.a4 A.a5 0 0 4294967296 ≤ 100000000000 := by omega
  obtain ⟨f5, g5⟩ := clip_sm d5
  have d6 : -100000000000 ≤ dotZ A.a6 A.a7 A.a8 (bothC x) (bothS x) 0 ∧ dotZ A.a6 A.a7 A.a8 (bothC x) (bothS x) 0 ≤ 100000000000 := by omega
  obtain ⟨f6, g6⟩ := clip_sm d6
  have d7 : -100000000000 ≤ dotZ A.a6 A.a7 A.a8 (-bothS x) (bothC x) 0 ∧ dotZ A.a6 A.a7 A.a8 (-bothS x) (bothC x) 0 ≤ 100000000000 := by omega
  obtain ⟨f7, g7⟩ := clip_sm d7
  have d8 : -100000000000 ≤ dotZ A.a6 A.a7 A.a8 0 0 4294967296 ∧ dotZ A.a6 A.a7 A.a8 0 0 4294967296 ≤ 100000000000 := by omega
  obtain ⟨f8, g8⟩ := clip_sm d8
  have hM : mulM A (abM 2 x) = ⟨dotZ A.a0 A.a1 A.a2 (bothC x) (bothS x) 0, dotZ A.a0 A.a1 A.a2 (-bothS x) (bothC x) 0, A.a2, dotZ A.a3 A.a4 A.a5 (bothC x) (bothS x) 0, dotZ A.a3 A.a4 A.a5 (-bothS x) (bothC x) 0, A.a5, dotZ A.a6 A.a7 A.a8 (bothC x) (bothS x) 0, dotZ A.a6 A.a7 A.a8 (-bothS x) (bothC x) 0, A.a8⟩ := by
    show (⟨clipV (dotZ A.a0 A.a1 A.a2 (bothC x) (bothS x) 0), clipV (dotZ A.a0 A.a1 A.a2 (-bothS x) (bothC x) 0), clipV (dotZ A.a0 A.a1 A.a2 0 0 4294967296), clipV (dotZ A.a3 A.a4 A.a5 (bothC x) (bothS x) 0), clipV (dotZ A.a3 A.a4 A.a5 (-bothS x) (bothC x) 0), clipV (dotZ A.a3 A.a4 A.a5 0 0 4294967296), clipV (dotZ A.a6 A.a7 A.a8 (bothC x) (bothS x) 0), clipV (dotZ A.a6 A.a7 A.a8 (-bothS x) (bothC x) 0), clipV (dotZ A.a6 A.a7 A.a8 0 0 4294967296)⟩ : Mt) = _
    rw [f0, f1, f2, f3, f4, f5, f6, f7, f8, x0, x1, x2]
  have hK : mulK A (abM 2 x) = false := by
    show ((clipC (dotZ A.a0 A.a1 A.a2 (bothC x) (bothS x) 0) || clipC (dotZ A.a0 A.a1 A.a2 (-bothS x) (bothC x) 0) || clipC (dotZ A.a0 A.a1 A.a2 0 0 4294967296)) || (clipC (dotZ A.a3 A.a4 A.a5 (bothC x) (bothS x) 0) || clipC (dotZ A.a3 A.a4 A.a5 (-bothS x) (bothC x) 0) || clipC (dotZ A.a3 A.a4 A.a5 0 0 4294967296)) || (clipC (dotZ A.a6 A.a7 A.a8 (bothC x) (bothS x) 0) || clipC (dotZ A.a6 A.a7 A.a8 (-bothS x) (bothC x) 0) || clipC (dotZ A.a6 A.a7 A.a8 0 0 4294967296))) = false
    rw [g0, g1, g2, g3, g4, g5, g6, g7, g8]
    rfl
  refine ⟨?_, hK⟩
  rw [hM]
  generalize hp0 : dotZ A.a0 A.a1 A.a2 (bothC x) (bothS x) 0 = p0 at *
  generalize hq0 : dotZ A.a0 A.a1 A.a2 (-bothS x) (bothC x) 0 = q0 at *
  generalize hp1 : dotZ A.a3 A.a4 A.a5 (bothC x) (bothS x) 0 = p1 at *
  generalize hq1 : dotZ A.a3 A.a4 A.a5 (-bothS x) (bothC x) 0 = q1 at *
  generalize hp2 : dotZ A.a6 A.a7 A.a8 (bothC x) (bothS x) 0 = p2 at *
  generalize hq2 : dotZ A.a6 A.a7 A.a8 (-bothS x) (bothC x) 0 = q2 at *
  generalize bothC x = c at *
  generalize bothS x = s at *
  have k00 : -(E + 4767413698560) ≤ dot3 p0 q0 A.a2 p0 q0 A.a2 - 18446744073709551616 ∧ dot3 p0 q0 A.a2 p0 q0 A.a2 - 18446744073709551616 ≤ E + 4767413698560 := by
    have := tw b0 b1 b0 b1 ⟨c1, c2⟩ ⟨s1, s2⟩ hl (p := p0) (q := q0) (p' := p0) (q' := q0) (by omega) (by omega) (by omega) (by omega)
    unfold dot3 at *; omega
  have k11 : -(E + 4767413698560) ≤ dot3 p1 q1 A.a5 p1 q1 A.a5 - 18446744073709551616 ∧ dot3 p1 q1 A.a5 p1 q1 A.a5 - 18446744073709551616 ≤ E + 4767413698560 := by
    have := tw b3 b4 b3 b4 ⟨c1, c2⟩ ⟨s1, s2⟩ hl (p := p1) (q := q1) (p' := p1) (q' := q1) (by omega) (by omega) (by omega) (by omega)
    unfold dot3 at *; omega
  have k22 : -(E + 4767413698560) ≤ dot3 p2 q2 A.a8 p2 q2 A.a8 - 18446744073709551616 ∧ dot3 p2 q2 A.a8 p2 q2 A.a8 - 18446744073709551616 ≤ E + 4767413698560 := by
    have := tw b6 b7 b6 b7 ⟨c1, c2⟩ ⟨s1, s2⟩ hl (p := p2) (q := q2) (p' := p2) (q' := q2) (by omega) (by omega) (by omega) (by omega)
    unfold dot3 at *; omega
  have k01 : -(E + 4767413698560) ≤ dot3 p0 q0 A.a2 p1 q1 A.a5 - 0 ∧ dot3 p0 q0 A.a2 p1 q1 A.a5 - 0 ≤ E + 4767413698560 := by
    have := tw b0 b1 b3 b4 ⟨c1, c2⟩ ⟨s1, s2⟩ hl (p := p0) (q := q0) (p' := p1) (q' := q1) (by omega) (by omega) (by omega) (by omega)
    unfold dot3 at *; omega
  have k02 : -(E + 4767413698560) ≤ dot3 p0 q0 A.a2 p2 q2 A.a8 - 0 ∧ dot3 p0 q0 A.a2 p2 q2 A.a8 - 0 ≤ E + 4767413698560 := by
    have := tw b0 b1 b6 b7 ⟨c1, c2⟩ ⟨s1, s2⟩ hl (p := p0) (q := q0) (p' := p2) (q' := q2) (by omega) (by omega) (by omega) (by omega)
    unfold dot3 at *; omega
  have k12 : -(E + 4767413698560) ≤ dot3 p1 q1 A.a5 p2 q2 A.a8 - 0 ∧ dot3 p1 q1 A.a5 p2 q2 A.a8 - 0 ≤ E + 4767413698560 := by
    have := tw b3 b4 b6 b7 ⟨c1, c2⟩ ⟨s1, s2⟩ hl (p := p1) (q := q1) (p' := p2) (q' := q2) (by omega) (by omega) (by omega) (by omega)
    unfold dot3 at *; omega
  exact ⟨k00, k11, k22, k01, k02, k12⟩
theorem near_mul {E x : Int} {A : Mt} (k : Nat) (hE : E ≤ 226000000000000) (h : NearM E A) (hx : 0 ≤ x ∧ x < 4294967296) : NearM (E + 4767413698560) (mulM A (abM k x)) ∧ mulK A (abM k x) = false := by
  match k with
  | 0 => exact near_mul0 hE h hx
  | 1 => exact near_mul1 hE h hx
  | k + 2 => exact near_mul2 hE h hx
theorem near_same : NearM 0 sameM := by unfold NearM RowsE; decide
theorem near_up {E : Int} {A : Mt} (hE : E ≤ 232000000000000) (h : NearM E A) : NearM 107374182400 (upM A) ∧ ortC A.a0 A.a1 A.a2 A.a3 A.a4 A.a5 A.a6 A.a7 A.a8 = true := by
  obtain ⟨h00, h11, h22, h01, h02, h12⟩ := h
  obtain ⟨g0, g1, _⟩ := ortho_full (a0 := A.a0) (a1 := A.a1) (a2 := A.a2) (a3 := A.a3) (a4 := A.a4) (a5 := A.a5) (a6 := A.a6) (a7 := A.a7) (a8 := A.a8) (show 14300000000000000000 ≤ dot3 A.a0 A.a1 A.a2 A.a0 A.a1 A.a2 ∧ dot3 A.a0 A.a1 A.a2 A.a0 A.a1 A.a2 ≤ 24000000000000000000 by omega) (by omega) (by omega)
  exact ⟨g1, g0⟩
end Go.Xv
namespace Go.Xv
def goM (M : Mt) (k : Nat) (b : Int) : Mt := if b = 0 then M else mulM M (abM k b)
def goK (M : Mt) (k : Nat) (b : Int) : Bool := if b = 0 then false else mulK M (abM k b)
structure Att where
  m : Mt
  n : Int
def go3 (M : Mt) (b0 b1 b2 : Int) : Mt := goM (goM (goM M 0 b0) 1 b1) 2 b2
def go3K (M : Mt) (b0 b1 b2 : Int) : Bool := goK M 0 b0 || goK (goM M 0 b0) 1 b1 || goK (goM (goM M 0 b0) 1 b1) 2 b2
noncomputable def stepA (a : Att) (b0 b1 b2 : Int) : Att := if 15 ≤ a.n then ⟨upM (go3 a.m b0 b1 b2), 0⟩ else ⟨go3 a.m b0 b1 b2, a.n + 1⟩
def newA : Att := ⟨sameM, 0⟩
theorem near_mono {E E' : Int} {A : Mt} (h : NearM E A) (k : E ≤ E') : NearM E' A := by
  obtain ⟨h0, h1, h2, h3, h4, h5⟩ := h
  refine ⟨?_, ?_, ?_, ?_, ?_, ?_⟩ <;> omega
theorem near_go {E b : Int} {A : Mt} (k : Nat) (hE : E ≤ 226000000000000) (h : NearM E A) (hb : 0 ≤ b ∧ b < 4294967296) : NearM (E + 4767413698560) (goM A k b) ∧ goK A k b = false := by
  unfold goM goK
  by_cases h0 : b = 0
  · rw [if_pos h0, if_pos h0]
    exact ⟨near_mono h (by omega), rfl⟩
  · rw [if_neg h0, if_neg h0]
    exact near_mul k hE h hb
theorem near_go3 {E b0 b1 b2 : Int} {A : Mt} (hE : E ≤ 216000000000000) (h : NearM E A) (h0 : 0 ≤ b0 ∧ b0 < 4294967296) (h1 : 0 ≤ b1 ∧ b1 < 4294967296) (h2 : 0 ≤ b2 ∧ b2 < 4294967296) :
    NearM (E + 14302241095680) (go3 A b0 b1 b2) ∧ go3K A b0 b1 b2 = false := by
  obtain ⟨g0, k0⟩ := near_go 0 (by omega) h h0
  obtain ⟨g1, k1⟩ := near_go 1 (by omega) g0 h1
  obtain ⟨g2, k2⟩ := near_go 2 (by omega) g1 h2
  refine ⟨near_mono g2 (by omega), ?_⟩
  unfold go3K
  rw [k0, k1, k2]
  rfl
/-- what steps keep -/
def InvA (a : Att) : Prop := 0 ≤ a.n ∧ a.n ≤ 15 ∧ NearM (107374182400 + 14302241095680 * a.n) a.m
theorem inv_new : InvA newA := ⟨by decide, by decide, near_mono near_same (by decide)⟩
theorem inv_step {a : Att} {b0 b1 b2 : Int} (h : InvA a) (h0 : 0 ≤ b0 ∧ b0 < 4294967296) (h1 : 0 ≤ b1 ∧ b1 < 4294967296) (h2 : 0 ≤ b2 ∧ b2 < 4294967296) : InvA (stepA a b0 b1 b2) ∧ go3K a.m b0 b1 b2 = false := by
  obtain ⟨n0, n1, hn⟩ := h
  obtain ⟨g, k⟩ := near_go3 (by omega) hn h0 h1 h2
  refine ⟨?_, k⟩
  unfold stepA
  by_cases hc : 15 ≤ a.n
  · rw [if_pos hc]
    exact ⟨by dsimp only; omega, by dsimp only; omega, near_mono (near_up (by omega) g).1 (by dsimp only; omega)⟩
  · rw [if_neg hc]
    refine ⟨by dsimp only; omega, by dsimp only; omega, near_mono g (by dsimp only; omega)⟩
end Go.Xv
namespace Go.Xv
namespace Cx
theorem One0 : (0 : Rat) < One := by decide +kernel
theorem near_turned {u v c s u' v' : Int} (hu : -4294967296 ≤ 4294967296 * u' - (u * c - v * s) ∧ 4294967296 * u' - (u * c - v * s) ≤ 4294967296) (hv : -4294967296 ≤ 4294967296 * v' - (u * s + v * c) ∧ 4294967296 * v' - (u * s + v * c) ≤ 4294967296) :
    Nm (sub (cx u' v') (sc (1 / 4294967296) (mul (cx u v) (cx c s)))) (3 / 2) := by
  have a1 := cast_le hu.1
  have a2 := cast_le hu.2
  have a3 := cast_le hv.1
  have a4 := cast_le hv.2
  simp only [Rat.intCast_sub, Rat.intCast_add, Rat.intCast_mul, Rat.intCast_neg] at a1 a2 a3 a4
  have e : ((4294967296 : Int) : Rat) = 4294967296 := by decide +kernel
  rw [e] at a1 a2 a3 a4
  apply Nm.unit <;> simp only [sub, sc, mul, cx] <;> grind
/-- one turn more -/
theorem turn_more {u v u' v' x t : Int} {e : Rat} (hx : 0 ≤ x ∧ x < 4294967296) (ht : 0 ≤ t ∧ t < 4294967296)
    (hu : -4294967296 ≤ 4294967296 * u' - (u * bothC x - v * bothS x) ∧ 4294967296 * u' - (u * bothC x - v * bothS x) ≤ 4294967296)
    (hv : -4294967296 ≤ 4294967296 * v' - (u * bothS x + v * bothC x) ∧ 4294967296 * v' - (u * bothS x + v * bothC x) ≤ 4294967296)
    (hn : Nm (cx u v) (4300000000 : Rat)) (h : Nm (sub (cx u v) (sc One (VI t))) e) : Nm (sub (cx u' v') (sc One (VI ((t + x) % 4294967296)))) (e + 268) := by
  have h1 := near_turned hu hv
  have h2 := (hn.mul (both_near hx)).sc (r := 1 / 4294967296) (by decide +kernel)
  have h3 := h.turn (VI_U x)
  have h4 := (VI_mod (z := t + x) (t := (t + x) % 4294967296) (by omega) (by omega)).sc (Rat.le_of_lt One0)
  have h5 := ((h1.add h2).add h3).add h4
  have ee : Cx.add (Cx.add (Cx.add (sub (cx u' v') (sc (1 / 4294967296) (mul (cx u v) (cx (bothC x) (bothS x))))) (sc (1 / 4294967296) (mul (cx u v) (sub (cx (bothC x) (bothS x)) (sc One (VI x)))))) (mul (sub (cx u v) (sc One (VI t))) (VI x))) (sc One (sub (VI (t + x)) (VI ((t + x) % 4294967296)))) = sub (cx u' v') (sc One (VI ((t + x) % 4294967296))) := by
    rw [VI_add]
    generalize VI ((t + x) % 4294967296) = w
    unfold One
    apply eqC <;> simp only [Cx.add, sub, sc, mul] <;> grind
  rw [ee] at h5
  refine h5.mono ?_
  have : (3 / 2 : Rat) + 1 / 4294967296 * (4300000000 * 265) + One * (8 * hair) ≤ 268 := by decide +kernel
  grind
theorem n2_cx (u v : Int) : n2 (cx u v) = ((u * u + v * v : Int) : Rat) := by simp only [n2, cx, Rat.intCast_add, Rat.intCast_mul]
/-- as long as One, and near a direction -/
theorem len_near {u v : Int} {t : Int} {q d : Rat} (hq : 0 ≤ q) (hl : -107374182400 ≤ u * u + v * v - 18446744073709551616 ∧ u * u + v * v - 18446744073709551616 ≤ 107374182400) (h : Nm (sub (cx u v) (sc q (VI t))) d) : Nm (sub (cx u v) (sc One (VI t))) (2 * d + 14) := by
  have hd := h.1
  have k1 := cast_le (a := u * u + v * v) (b := 18446744181083734016) (by omega)
  have k2 := cast_le (a := 18446743966335369216) (b := u * u + v * v) (by omega)
  have e1 : ((18446744181083734016 : Int) : Rat) ≤ (One + 13) * (One + 13) := by decide +kernel
  have e2 : (One - 13) * (One - 13) ≤ ((18446743966335369216 : Int) : Rat) := by decide +kernel
  have hn := n2_cx u v
  have u1 : Nm (cx u v) (One + 13) := ⟨by decide +kernel, by rw [hn]; exact Rat.le_trans k1 e1⟩
  have hU := VI_U t
  -- q is not above
  have q1 : q ≤ One + 13 + d := by
    have := (u1.add h.neg)
    have e : Cx.add (cx u v) (sub (sc q (VI t)) (cx u v)) = sc q (VI t) := by apply eqC <;> simp only [Cx.add, sub] <;> grind
    rw [e] at this
    have k := this.2
    rw [n2_sc] at k
    unfold U at hU
    rw [hU, Rat.mul_one] at k
    exact le_of_sq this.1 k
  have q2 : One - 13 ≤ q + d := by
    have := (hU.nm.sc hq).add h
    have e : Cx.add (sc q (VI t)) (sub (cx u v) (sc q (VI t))) = cx u v := by apply eqC <;> simp only [Cx.add, sub] <;> grind
    rw [e, Rat.mul_one] at this
    have k := this.2
    rw [hn] at k
    exact le_of_sq this.1 (Rat.le_trans e2 (Rat.le_trans k2 k))
  have h2 : Nm (sub (sc q (VI t)) (sc One (VI t))) (d + 13) := by
    have e1 : sub (sc q (VI t)) (sc One (VI t)) = sc (q - One) (VI t) := by apply eqC <;> simp only [sub, sc] <;> grind
    rw [e1]
    refine ⟨by grind, ?_⟩
    rw [n2_sc]
    unfold U at hU
    rw [hU]
    have m1 := Rat.mul_nonneg (show 0 ≤ (d + 13) - (q - One) by grind) (show 0 ≤ (d + 13) + (q - One) by grind)
    grind
  exact (h.trans h2).mono (by grind)
theorem Nm.opp {a : Cx} {e : Rat} (h : Nm a e) : Nm (Cx.sc (-1) a) e := by
  refine ⟨h.1, ?_⟩
  have := h.2
  rw [n2_sc]
  grind
/-- over its length it points as before -/
theorem unit_near {u v n x y r s t : Int} {e : Rat} (hn : 4290000000 ≤ n) (hn2 : n ≤ 4300000000) (gx : n * x = u * 4294967296 - r) (gy : n * y = v * 4294967296 - s) (hr : -n ≤ r ∧ r ≤ n) (hs : -n ≤ s ∧ s ≤ n)
    (hl : -107374182400 ≤ x * x + y * y - 18446744073709551616 ∧ x * x + y * y - 18446744073709551616 ≤ 107374182400) (h : Nm (sub (cx u v) (sc One (VI t))) e) : Nm (sub (cx x y) (sc One (VI t))) (21 / 10 * e + 30) := by
  have n0 : (4290000000 : Rat) ≤ (n : Rat) := cast_le (a := 4290000000) hn
  have hi : (n : Rat) * (n : Rat)⁻¹ = 1 := Rat.mul_inv_cancel _ (by grind)
  have hp : 0 < (n : Rat)⁻¹ := Rat.inv_pos.2 (by grind)
  have hs1 : (n : Rat)⁻¹ * 4294967296 ≤ 102 / 100 := by
    have := Rat.mul_le_mul_of_nonneg_left n0 (Rat.le_of_lt hp)
    grind
  have q1 := congrArg (fun z : Int => (z : Rat)) gx
  have q2 := congrArg (fun z : Int => (z : Rat)) gy
  simp only [Rat.intCast_sub, Rat.intCast_mul] at q1 q2
  have e0 : ((4294967296 : Int) : Rat) = 4294967296 := by decide +kernel
  rw [e0] at q1 q2
  have r1 := cast_le hr.1
  have r2 := cast_le hr.2
  have s1 := cast_le hs.1
  have s2 := cast_le hs.2
  rw [Rat.intCast_neg] at r1 s1
  have hrs : Nm (cx r s) ((n : Rat) + n) := by apply Nm.of <;> simp only [cx] <;> grind
  have h1 := (h.sc (r := (n : Rat)⁻¹ * 4294967296) (by grind)).add (Nm.opp (hrs.sc (Rat.le_of_lt hp)))
  have ee : Cx.add (sc ((n : Rat)⁻¹ * 4294967296) (sub (cx u v) (sc One (VI t)))) (sc (-1) (sc (n : Rat)⁻¹ (cx r s))) = sub (cx x y) (sc ((n : Rat)⁻¹ * 4294967296 * One) (VI t)) := by
    have x1 : (x : Rat) = (n : Rat)⁻¹ * (u * 4294967296 - r) := by rw [← q1, ← Rat.mul_assoc, Rat.mul_comm (n : Rat)⁻¹, hi, Rat.one_mul]
    have y1 : (y : Rat) = (n : Rat)⁻¹ * (v * 4294967296 - s) := by rw [← q2, ← Rat.mul_assoc, Rat.mul_comm (n : Rat)⁻¹, hi, Rat.one_mul]
    generalize (n : Rat)⁻¹ = g at *
    apply eqC <;> simp only [Cx.add, sub, sc, cx, x1, y1] <;> grind
  rw [ee] at h1
  have h2 := len_near (Rat.mul_nonneg (Rat.mul_nonneg (Rat.le_of_lt hp) (by decide +kernel)) (Rat.le_of_lt One0)) hl h1
  refine h2.mono ?_
  have he := h.1
  have m1 := Rat.mul_le_mul_of_nonneg_right hs1 he
  grind
end Cx
end Go.Xv
namespace Go.Xv
namespace Cx
/-- about axis 2 alone -/
def P2 (M : Mt) : Prop := M.a2 = 0 ∧ M.a5 = 0 ∧ M.a6 = 0 ∧ M.a7 = 0
def Dir (M : Mt) (t : Int) (e : Rat) : Prop := P2 M ∧ Nm (sub (cx M.a0 (-M.a1)) (sc One (VI t))) e ∧ Nm (sub (cx M.a4 M.a3) (sc One (VI t))) e
theorem dir_mono {M : Mt} {t : Int} {e f : Rat} (h : Dir M t e) (k : e ≤ f) : Dir M t f := ⟨h.1, h.2.1.mono k, h.2.2.mono k⟩
theorem nm_bd {u v : Int} (h : u * u + v * v ≤ 18490000000000000000) : Nm (cx u v) (4300000000 : Rat) := by
  refine ⟨by decide +kernel, ?_⟩
  rw [n2_cx]
  have e : (4300000000 : Rat) * 4300000000 = ((18490000000000000000 : Int) : Rat) := by decide +kernel
  rw [e]
  exact cast_le h
theorem dir_mul {M : Mt} {E t x : Int} {e : Rat} (hE : E ≤ 226000000000000) (h : NearM E M) (ht : 0 ≤ t ∧ t < 4294967296) (hx : 0 ≤ x ∧ x < 4294967296) (hd : Dir M t e) : Dir (mulM M (abM 2 x)) ((t + x) % 4294967296) (e + 268) := by
  have hb := near_bd (by omega) h
  obtain ⟨b0, b1, b2, b3, b4, b5, b6, b7, b8⟩ := hb
  obtain ⟨h00, h11, _, _, _, _⟩ := h
  obtain ⟨⟨p2, p5, p6, p7⟩, d0, d1⟩ := hd
  obtain ⟨⟨c1, c2⟩, s1, s2⟩ := both_bd x
  unfold dot3 at h00 h11
  rw [p2, Int.zero_mul, Int.add_zero] at h00
  rw [p5, Int.zero_mul, Int.add_zero] at h11
  -- the entries
  have e0 : (mulM M (abM 2 x)).a0 = clipV (pr M.a0 (bothC x) + pr M.a1 (bothS x)) := by
    show clipV (pr M.a0 (bothC x) + pr M.a1 (bothS x) + pr M.a2 0) = _
    rw [(pr_nil _).2, Int.add_zero]
  have e1 : (mulM M (abM 2 x)).a1 = clipV (pr M.a0 (-bothS x) + pr M.a1 (bothC x)) := by
    show clipV (pr M.a0 (-bothS x) + pr M.a1 (bothC x) + pr M.a2 0) = _
    rw [(pr_nil _).2, Int.add_zero]
  have e3 : (mulM M (abM 2 x)).a3 = clipV (pr M.a3 (bothC x) + pr M.a4 (bothS x)) := by
    show clipV (pr M.a3 (bothC x) + pr M.a4 (bothS x) + pr M.a5 0) = _
    rw [(pr_nil _).2, Int.add_zero]
  have e4 : (mulM M (abM 2 x)).a4 = clipV (pr M.a3 (-bothS x) + pr M.a4 (bothC x)) := by
    show clipV (pr M.a3 (-bothS x) + pr M.a4 (bothC x) + pr M.a5 0) = _
    rw [(pr_nil _).2, Int.add_zero]
  have e2 : (mulM M (abM 2 x)).a2 = 0 := by
    show clipV (pr M.a0 0 + pr M.a1 0 + pr M.a2 4294967296) = 0
    rw [(pr_nil _).2, (pr_nil _).2, p2, (pr_nil _).1]; decide
  have e5 : (mulM M (abM 2 x)).a5 = 0 := by
    show clipV (pr M.a3 0 + pr M.a4 0 + pr M.a5 4294967296) = 0
    rw [(pr_nil _).2, (pr_nil _).2, p5, (pr_nil _).1]; decide
  have e6 : (mulM M (abM 2 x)).a6 = 0 := by
    show clipV (pr M.a6 (bothC x) + pr M.a7 (bothS x) + pr M.a8 0) = 0
    rw [p6, p7, (pr_nil _).1, (pr_nil _).1, (pr_nil _).2]; decide
  have e7 : (mulM M (abM 2 x)).a7 = 0 := by
    show clipV (pr M.a6 (-bothS x) + pr M.a7 (bothC x) + pr M.a8 0) = 0
    rw [p6, p7, (pr_nil _).1, (pr_nil _).1, (pr_nil _).2]; decide
  have q0 := pr_rd M.a0 (bothC x)
  have q1 := pr_rd M.a1 (bothS x)
  have q2 := pr_rd M.a0 (-bothS x)
  have q3 := pr_rd M.a1 (bothC x)
  have q4 := pr_rd M.a3 (bothC x)
  have q5 := pr_rd M.a4 (bothS x)
  have q6 := pr_rd M.a3 (-bothS x)
  have q7 := pr_rd M.a4 (bothC x)
  have m0 := bdm b0 (show -4294967296 ≤ bothC x ∧ bothC x ≤ 4294967296 from ⟨c1, c2⟩)
  have m1 := bdm b1 (show -4294967296 ≤ bothS x ∧ bothS x ≤ 4294967296 from ⟨s1, s2⟩)
  have m2 := bdm b0 (show -4294967296 ≤ -bothS x ∧ -bothS x ≤ 4294967296 by omega)
  have m3 := bdm b1 (show -4294967296 ≤ bothC x ∧ bothC x ≤ 4294967296 from ⟨c1, c2⟩)
  have m4 := bdm b3 (show -4294967296 ≤ bothC x ∧ bothC x ≤ 4294967296 from ⟨c1, c2⟩)
  have m5 := bdm b4 (show -4294967296 ≤ bothS x ∧ bothS x ≤ 4294967296 from ⟨s1, s2⟩)
  have m6 := bdm b3 (show -4294967296 ≤ -bothS x ∧ -bothS x ≤ 4294967296 by omega)
  have m7 := bdm b4 (show -4294967296 ≤ bothC x ∧ bothC x ≤ 4294967296 from ⟨c1, c2⟩)
  rw [(clip_sm (by omega)).1] at e0 e1 e3 e4
  have n1 : ∀ y : Int, y * -bothS x = -(y * bothS x) := fun y => Int.mul_neg _ _
  have n2 : ∀ y : Int, -M.a1 * y = -(M.a1 * y) := fun y => Int.neg_mul _ _
  have n3 : (-M.a1) * (-M.a1) = M.a1 * M.a1 := Int.neg_mul_neg _ _
  rw [n1] at q2 q6
  refine ⟨⟨e2, e5, e6, e7⟩, ?_, ?_⟩
  · rw [e0, e1]
    refine turn_more hx ht ?_ ?_ (nm_bd (by rw [n3]; omega)) d0
    · rw [n2]; omega
    · rw [n2]; omega
  · rw [e3, e4]
    refine turn_more hx ht ?_ ?_ (nm_bd (by omega)) d1
    · omega
    · omega
end Cx
end Go.Xv
namespace Go.Xv
theorem unV_nil (a b c : Int) : unV 0 a b c = 0 := by
  unfold unV
  split
  · unfold fdivV
    split
    · rfl
    · rw [Int.zero_mul, Int.zero_tdiv]; decide
  · rfl
namespace Cx
/-- two of one length, nearly upright to each other: they lie side by side, or face each other -/
theorem two_ways {a b c d : Int} (h1 : -107374182400 ≤ a * a + b * b - 18446744073709551616 ∧ a * a + b * b - 18446744073709551616 ≤ 107374182400)
    (h2 : -107374182400 ≤ c * c + d * d - 18446744073709551616 ∧ c * c + d * d - 18446744073709551616 ≤ 107374182400) (h3 : -107374182400 ≤ a * d - b * c ∧ a * d - b * c ≤ 107374182400) :
    Nm (sub (cx a b) (cx c d)) 38 ∨ Nm (add (cx a b) (cx c d)) 38 := by
  have hR : (a * c + b * d) * (a * c + b * d) = (a * a + b * b) * (c * c + d * d) - (a * d - b * c) * (a * d - b * c) := by grind
  have hT : (a * a + b * b + (c * c + d * d) - 1400) * (a * a + b * b + (c * c + d * d) - 1400) ≤ (2 * (a * c + b * d)) * (2 * (a * c + b * d)) := by
    have k1 := bdm (show -214748364800 ≤ a * a + b * b - (c * c + d * d) ∧ a * a + b * b - (c * c + d * d) ≤ 214748364800 by omega) (show -214748364800 ≤ a * a + b * b - (c * c + d * d) ∧ a * a + b * b - (c * c + d * d) ≤ 214748364800 by omega)
    have k2 := bdm h3 h3
    have e : (2 * (a * c + b * d)) * (2 * (a * c + b * d)) = 4 * ((a * a + b * b) * (c * c + d * d)) - 4 * ((a * d - b * c) * (a * d - b * c)) := by grind
    have e2 : (a * a + b * b + (c * c + d * d) - 1400) * (a * a + b * b + (c * c + d * d) - 1400) = 4 * ((a * a + b * b) * (c * c + d * d)) + (a * a + b * b - (c * c + d * d)) * (a * a + b * b - (c * c + d * d)) - 2800 * (a * a + b * b + (c * c + d * d)) + 1960000 := by grind
    rw [e, e2]
    omega
  have n0 : n2 (sub (cx a b) (cx c d)) = ((a * a + b * b + (c * c + d * d) - 2 * (a * c + b * d) : Int) : Rat) := by
    simp only [n2, sub, cx, Rat.intCast_add, Rat.intCast_sub, Rat.intCast_mul]
    have : ((2 : Int) : Rat) = 2 := by decide +kernel
    rw [this]; grind
  have n1 : n2 (add (cx a b) (cx c d)) = ((a * a + b * b + (c * c + d * d) + 2 * (a * c + b * d) : Int) : Rat) := by
    simp only [n2, add, cx, Rat.intCast_add, Rat.intCast_sub, Rat.intCast_mul]
    have : ((2 : Int) : Rat) = 2 := by decide +kernel
    rw [this]; grind
  have e14 : ((1400 : Int) : Rat) ≤ 38 * 38 := by decide +kernel
  rcases Int.le_total 0 (a * c + b * d) with hp | hp
  · left
    have hb : a * a + b * b + (c * c + d * d) - 1400 ≤ 2 * (a * c + b * d) := by
      rcases Int.lt_or_le (2 * (a * c + b * d)) (a * a + b * b + (c * c + d * d) - 1400) with hl | hl
      · have := sq_lt (x := 2 * (a * c + b * d)) (y := a * a + b * b + (c * c + d * d) - 1400) (by omega) hl
        omega
      · exact hl
    refine ⟨by decide +kernel, ?_⟩
    rw [n0]
    exact Rat.le_trans (cast_le (by omega)) e14
  · right
    have hb : a * a + b * b + (c * c + d * d) - 1400 ≤ -(2 * (a * c + b * d)) := by
      rcases Int.lt_or_le (-(2 * (a * c + b * d))) (a * a + b * b + (c * c + d * d) - 1400) with hl | hl
      · have := sq_lt (x := -(2 * (a * c + b * d))) (y := a * a + b * b + (c * c + d * d) - 1400) (by omega) hl
        rw [Int.neg_mul_neg] at this
        omega
      · exact hl
    refine ⟨by decide +kernel, ?_⟩
    rw [n1]
    exact Rat.le_trans (cast_le (by omega)) e14
/-- what faces away is told by the rows before -/
theorem not_away {u v a b c d t : Int} {e f : Rat} (he : e ≤ 1000000) (hf : f ≤ 1000000) (hA : Nm (sub (cx a b) (sc One (VI t))) f) (hB : Nm (add (cx a b) (cx c d)) 38) (hz : Nm (sub (cx u v) (sc One (VI t))) e) (hu : u * u + v * v ≤ 18490000000000000000) (hpos : 0 < c * u + d * v) : False := by
  have hU := VI_U t
  have f0 := hA.1
  have e0 := hz.1
  have d1 := hB.add hA.neg
  have ed : add (add (cx a b) (cx c d)) (sub (sc One (VI t)) (cx a b)) = add (cx c d) (sc One (VI t)) := by apply eqC <;> simp only [add, sub] <;> grind
  rw [ed] at d1
  have k1 := (d1.mul (nm_bd hu).cj)
  have k2 := ((hz.cj).mul (hU.nm.sc (Rat.le_of_lt One0)))
  have k3 := k1.add k2.opp
  have hV := hU.mul_cj
  have ee : add (mul (add (cx c d) (sc One (VI t))) (cj (cx u v))) (sc (-1) (mul (cj (sub (cx u v) (sc One (VI t)))) (sc One (VI t)))) = add (mul (cx c d) (cj (cx u v))) (sc (One * One) (mul (VI t) (cj (VI t)))) := by
    apply eqC <;> simp only [add, sub, sc, mul, cj] <;> grind
  rw [ee, hV] at k3
  have k4 := k3.re.1
  have hp : (0 : Rat) < ((c * u + d * v : Int) : Rat) := Rat.intCast_pos.2 hpos
  simp only [Rat.intCast_add, Rat.intCast_mul] at hp
  simp only [add, mul, cj, cx, sc, one] at k4
  have m1 : (38 + f) * 4300000000 + e * (One * 1) ≤ (38 + 1000000) * 4300000000 + 1000000 * (One * 1) := by
    have := One0
    have h1 := Rat.mul_le_mul_of_nonneg_right he (Rat.le_of_lt One0)
    grind
  have m2 : (38 + 1000000 : Rat) * 4300000000 + 1000000 * (One * 1) < One * One := by decide +kernel
  grind
theorem dir_up {M : Mt} {E t : Int} {e : Rat} (hE : E ≤ 232000000000000) (he : e ≤ 100000) (h : NearM E M) (hd : Dir M t e) : Dir (upM M) t (21 / 10 * e + 70) := by
  obtain ⟨h00, h11, h22, h01, h02, h12⟩ := h
  obtain ⟨⟨p2, p5, p6, p7⟩, d0, d1⟩ := hd
  obtain ⟨hC, ⟨g00, g11, g22, g01, g02, g12⟩, _, _, _, _, _, _, _, _, _, n, r0, r1, r2, hn, n1, n2, ⟨q0, q1, q2⟩, k0, k1, k2, hyb⟩ := ortho_full (a0 := M.a0) (a1 := M.a1) (a2 := M.a2) (a3 := M.a3) (a4 := M.a4) (a5 := M.a5) (a6 := M.a6) (a7 := M.a7) (a8 := M.a8) (by omega) (by omega) (by omega)
  have x2 : ort2 M.a0 M.a1 M.a2 M.a3 M.a4 M.a5 M.a6 M.a7 M.a8 = 0 := by
    unfold ort2; rw [if_pos hC, p2, unV_nil]
  have X2 : unV M.a2 M.a0 M.a1 M.a2 = 0 := by rw [p2, unV_nil]
  have R2 : oR2 M.a0 M.a1 M.a2 M.a3 M.a4 M.a5 M.a6 M.a7 M.a8 = 0 := by
    unfold oR2; rw [X2, (pr_nil _).1, p5]; decide
  have Y2 : oY2 M.a0 M.a1 M.a2 M.a3 M.a4 M.a5 M.a6 M.a7 M.a8 = 0 := by unfold oY2; rw [R2, unV_nil]
  have x5 : ort5 M.a0 M.a1 M.a2 M.a3 M.a4 M.a5 M.a6 M.a7 M.a8 = 0 := by unfold ort5; rw [if_pos hC, Y2]
  have x6 : ort6 M.a0 M.a1 M.a2 M.a3 M.a4 M.a5 M.a6 M.a7 M.a8 = 0 := by
    unfold ort6; rw [if_pos hC]; unfold oZ0 arZ; rw [Y2, X2, (pr_nil _).1, (pr_nil _).2]; decide
  have x7 : ort7 M.a0 M.a1 M.a2 M.a3 M.a4 M.a5 M.a6 M.a7 M.a8 = 0 := by
    unfold ort7; rw [if_pos hC]; unfold oZ1 arZ; rw [Y2, X2, (pr_nil _).1, (pr_nil _).2]; decide
  rw [x2] at g00 g01
  rw [x5] at g11 g01 hyb
  show P2 (upM M) ∧ Nm (sub (cx (ort0 M.a0 M.a1 M.a2 M.a3 M.a4 M.a5 M.a6 M.a7 M.a8) (-ort1 M.a0 M.a1 M.a2 M.a3 M.a4 M.a5 M.a6 M.a7 M.a8)) (sc One (VI t))) (21 / 10 * e + 70) ∧ Nm (sub (cx (ort4 M.a0 M.a1 M.a2 M.a3 M.a4 M.a5 M.a6 M.a7 M.a8) (ort3 M.a0 M.a1 M.a2 M.a3 M.a4 M.a5 M.a6 M.a7 M.a8)) (sc One (VI t))) (21 / 10 * e + 70)
  refine ⟨⟨x2, x5, x6, x7⟩, ?_⟩
  unfold dot3 at *
  generalize ort0 M.a0 M.a1 M.a2 M.a3 M.a4 M.a5 M.a6 M.a7 M.a8 = X0 at *
  generalize ort1 M.a0 M.a1 M.a2 M.a3 M.a4 M.a5 M.a6 M.a7 M.a8 = X1 at *
  generalize ort3 M.a0 M.a1 M.a2 M.a3 M.a4 M.a5 M.a6 M.a7 M.a8 = Y0 at *
  generalize ort4 M.a0 M.a1 M.a2 M.a3 M.a4 M.a5 M.a6 M.a7 M.a8 = Y1 at *
  clear x2 x5 x6 x7 X2 R2 Y2 hC h22 h02 h12 g22 g02 g12 q2 k2
  simp only [p2, p5, Int.mul_zero, Int.zero_mul, Int.add_zero] at h00 h11 h01 g00 g11 g01 n1 n2 hyb
  have hnl : 4290000000 ≤ n := by
    rcases Int.lt_or_le n 4290000000 with hl | hl
    · have := sq_le (x := n) (y := 4289999999) (by omega) (by omega)
      omega
    · exact hl
  have hnu := (abs_le_sq (x := n) (B := 4300000000) (by omega) (by omega)).2
  have nn : X1 * X1 = -X1 * -X1 := (Int.neg_mul_neg _ _).symm
  have z0 := unit_near (u := M.a0) (v := -M.a1) (x := X0) (y := -X1) (r := r0) (s := -r1) hnl hnu q0 (by rw [Int.mul_neg, q1, Int.neg_mul]; omega) k0 (by omega) (by rw [← nn]; omega) d0
  refine ⟨z0.mono (by grind), ?_⟩
  have hw := two_ways (a := X0) (b := -X1) (c := Y1) (d := Y0) (by rw [← nn]; omega) (by omega) (by rw [Int.neg_mul, Int.sub_neg]; omega)
  have d00 := d0.1
  rcases hw with hw | hw
  · exact (hw.neg.trans z0).mono (by grind)
  · exfalso
    exact not_away (u := M.a4) (v := M.a3) (by grind) (by grind) z0 hw d1 (by omega) (by omega)
/-- what a step does -/
theorem dir_step {a : Att} {t b : Int} {e : Rat} (he : e ≤ 90000) (h : InvA a) (ht : 0 ≤ t ∧ t < 4294967296) (hb : 0 ≤ b ∧ b < 4294967296) (hd : Dir a.m t e) : Dir (Go.Xv.stepA a 0 0 b).m ((t + b) % 4294967296) (if 15 ≤ a.n then 21 / 10 * (e + 268) + 70 else e + 268) := by
  obtain ⟨n0, n1, hn⟩ := h
  have hg : go3 a.m 0 0 b = goM a.m 2 b := rfl
  have hd2 : Dir (goM a.m 2 b) ((t + b) % 4294967296) (e + 268) := by
    unfold goM
    by_cases h0 : b = 0
    · rw [if_pos h0, h0, Int.add_zero, Int.emod_eq_of_lt ht.1 ht.2]
      exact dir_mono hd (by grind)
    · rw [if_neg h0]
      exact dir_mul (by omega) hn ht hb hd
  unfold Go.Xv.stepA
  by_cases hc : 15 ≤ a.n
  · rw [if_pos hc, if_pos hc]
    show Dir (upM (go3 a.m 0 0 b)) _ _
    rw [hg]
    obtain ⟨g, _⟩ := near_go 2 (by omega) hn hb
    exact dir_up (by omega) (by grind) g hd2
  · rw [if_neg hc, if_neg hc]
    show Dir (go3 a.m 0 0 b) _ _
    rw [hg]
    exact hd2
/-- where the heading is -/
theorem head_near {x y t N : Int} {e : Rat} (he : e ≤ 1000000) (ht : 0 ≤ t ∧ t < 4294967296) (h : Nm (sub (cx x y) (sc One (VI t))) e) (hN : 5 / 4 * (e + 242) ≤ (N : Rat)) :
    -N ≤ (angle y x - t + 2147483648) % 4294967296 - 2147483648 ∧ (angle y x - t + 2147483648) % 4294967296 - 2147483648 ≤ N := by
  have e0 := h.1
  have hU := VI_U t
  have hu := (h.add (hU.nm.sc (Rat.le_of_lt One0)))
  have ee : add (sub (cx x y) (sc One (VI t))) (sc One (VI t)) = cx x y := by apply eqC <;> simp only [add, sub] <;> grind
  rw [ee] at hu
  have hb := hu.mono (f := ((4300000000 : Int) : Rat)) (by
    have : (1000000 : Rat) + One * 1 ≤ ((4300000000 : Int) : Rat) := by decide +kernel
    grind)
  have x1 := Rat.intCast_le_intCast.1 hb.re.1
  have x2 : -4300000000 ≤ x := Rat.intCast_le_intCast.1 (by have := hb.re.2; rw [← Rat.intCast_neg] at this; exact this)
  have y1 := Rat.intCast_le_intCast.1 hb.im.1
  have y2 : -4300000000 ≤ y := Rat.intCast_le_intCast.1 (by have := hb.im.2; rw [← Rat.intCast_neg] at this; exact this)
  have hne : ¬ (x = 0 ∧ y = 0) := by
    rintro ⟨rfl, rfl⟩
    have k := h.2
    have e1 : n2 (sub (cx 0 0) (sc One (VI t))) = One * One := by
      have : n2 (sub (cx 0 0) (sc One (VI t))) = One * One * n2 (VI t) := by
        simp only [n2, sub, cx, sc]
        have : ((0 : Int) : Rat) = 0 := by decide +kernel
        rw [this]; grind
      rw [this]
      unfold U at hU
      rw [hU]; grind
    rw [e1] at k
    have := sq_le_sq e0 he
    have m : (1000000 : Rat) * 1000000 < One * One := by decide +kernel
    grind
  obtain ⟨s, s0, k⟩ := angle_near (x := x) (y := y) hne (by unfold big sz; omega)
  have hA := angle_U y x
  unfold U32 at hA
  generalize angle y x = g at *
  have h1 := h.neg.trans k
  have hg := gap hU (VI_U g) (Rat.le_of_lt One0) (Rat.le_of_lt s0) h1
  have hs : s ≤ 4297000000 := by unfold One at *; grind
  have h2 := dir_near One0 (Rat.le_of_lt s0) (h1.mono (f := e + 2402 / 10) (by grind))
  have h4 : Nm (sub (VI (g - t)) one) (One⁻¹ * (2 * (e + 2402 / 10))) := by
    have e : g - t = -(t - g) := by omega
    rw [e, VI_neg]
    have := h2.cj
    generalize VI (t - g) = u at *
    have e1 : Cx.cj (sub u one) = sub (cj u) one := by apply eqC <;> simp only [Cx.cj, sub, one] <;> grind
    rwa [e1] at this
  obtain ⟨m1, m2⟩ := near_mod (by omega) h4
  have hi : One⁻¹ = 1 / 4294967296 := by decide +kernel
  have hh : 2684354560 * (8 * hair) ≤ 1 := by decide +kernel
  rw [hi] at m1 m2
  constructor
  · refine Rat.intCast_le_intCast.1 ?_
    rw [Rat.intCast_neg]
    grind
  · exact Rat.intCast_le_intCast.1 (by grind)
end Cx
end Go.Xv
namespace Go.Xv
theorem tq_neg {x : Int} (h : x < 0) (d : Int) : Int.tdiv x d = -Int.tdiv (-x) d ∧ Int.tmod x d = -Int.tmod (-x) d := by
  rw [Int.neg_tdiv, Int.neg_tmod]; omega
/-- toward 0, by a hundred -/
theorem tq100 (x : Int) : (0 ≤ x → Int.tdiv x 100 = x / 100 ∧ Int.tmod x 100 = x % 100) ∧ (x < 0 → Int.tdiv x 100 = -(-x / 100) ∧ Int.tmod x 100 = -(-x % 100)) := by
  constructor
  · intro h
    exact ⟨Int.tdiv_eq_ediv_of_nonneg h, Int.tmod_eq_emod_of_nonneg h⟩
  · intro h
    obtain ⟨h1, h2⟩ := tq_neg h 100
    rw [h1, h2, Int.tdiv_eq_ediv_of_nonneg (by omega), Int.tmod_eq_emod_of_nonneg (by omega)]
    exact ⟨rfl, rfl⟩
def tk (n : Int) : Int := if 65535 < (if 0 > n then 0 else n) then 65535 else (if 0 > n then 0 else n)
theorem tk_bd (n : Int) : 0 ≤ tk n ∧ tk n ≤ 65535 := by unfold tk; split <;> split <;> omega
theorem tk_mul {a : Int} (ha : I32 a) (n : Int) : -140737488355328 ≤ a * tk n ∧ a * tk n ≤ 140737488355328 := by
  unfold I32 at ha
  have h := tk_bd n
  have : (a * tk n).natAbs ≤ 2147483648 * 65536 := by
    rw [Int.natAbs_mul]
    exact Nat.mul_le_mul (by omega) (by omega)
  omega
def turnV (x : Int) : Int := (x * 65536 / 100) % 4294967296
theorem turn_put {x w r : Int} (h : x = 100 * w + r) (h1 : 0 ≤ r) (h2 : r < 100) (hw : -140737488355328 ≤ w ∧ w ≤ 140737488355328) : IntKind.wrap .u32 (IntKind.wrap .u32 (IntKind.wrap .u32 (IntKind.wrap .i64 w) * 65536) + IntKind.wrap .u32 (r * 65536 / 100)) = turnV x := by
  have e : x * 65536 / 100 = 65536 * w + r * 65536 / 100 := by omega
  unfold turnV
  rw [e, wi64_in (by unfold I64; omega)]
  simp only [wu32]
  generalize r * 65536 / 100 = s
  omega
theorem f_Turn (F : Nat) {a n : Int} (ha : I32 a) : f_t F a n = some (.v (.int .u32 (turnV (a * tk n)))) := by
  unfold f_t fg_t
  have hb := tk_mul ha n
  have hb2 := tk_bd n
  have e : (if 65535 < (if 0 > n then 0 else n) then 65535 else (if 0 > n then 0 else n)) = tk n := rfl
  dsimp only
  rw [e, wi64_in (x := a) (by unfold I32 at ha; unfold I64; omega), wi64_in (x := a * tk n) (by unfold I64; omega)]
  generalize a * tk n = x at *
  obtain ⟨q1, q2⟩ := tq100 x
  have hr : ∀ y : Int, 0 ≤ y → y ≤ 6553600 → IntKind.wrap .i64 (Int.tdiv (IntKind.wrap .i64 y) 100) = y / 100 := by
    intro y h1 h2
    rw [wi64_in (x := y) (by unfold I64; omega), Int.tdiv_eq_ediv_of_nonneg h1, wi64_in (by unfold I64; omega)]
  rcases Int.lt_or_le x 0 with hx | hx
  · obtain ⟨h1, h2⟩ := q2 hx
    rw [h1, h2]
    by_cases h0 : -(-x % 100) < 0
    · refine bp (dt h0) (some_u32 ?_)
      rw [wi64_in (x := -(-x % 100) + 100) (by unfold I64; omega), hr _ (by omega) (by omega), wi64_in (x := -(-x / 100)) (by unfold I64; omega)]
      exact turn_put (by omega) (by omega) (by omega) (by omega)
    · refine bn (df h0) (some_u32 ?_)
      rw [hr _ (by omega) (by omega)]
      exact turn_put (by omega) (by omega) (by omega) (by omega)
  · obtain ⟨h1, h2⟩ := q1 hx
    rw [h1, h2]
    refine bn (df (by omega)) (some_u32 ?_)
    rw [hr _ (by omega) (by omega)]
    exact turn_put (by omega) (by omega) (by omega) (by omega)
theorem a_Turn (F : Nat) {a : Int} (n : Int) (ha : I32 a) : ok_t F a n = true ∧ o_t_0 F a n = turnV (a * tk n) := k_t F _ _ (f_Turn F ha)
theorem f_rTurn (F : Nat) (hF : 200 ≤ F) {a n : Int} (ha : I32 a) : f_s F a n = some (.v (.int .u32 (turnV (a * tk n)))) := by
  unfold f_s fg_s
  have hb := tk_mul ha n
  have hb2 := tk_bd n
  have e : (if 65535 < (if 0 > n then 0 else n) then 65535 else (if 0 > n then 0 else n)) = tk n := rfl
  dsimp only
  have hI : I64 a := by unfold I32 at ha; unfold I64; omega
  rw [e, wi64_in hI]
  obtain ⟨m1, m2, m3⟩ := a_rMul F hF hI (b := tk n) (by unfold I64; omega)
  obtain ⟨l1, l2, l3⟩ := a_rLeft F hF (a * tk n) 16
  rw [show ((16 : Int).toNat) = 16 from rfl, show (2 : Int) ^ 16 = 65536 by decide] at l2 l3
  have hd := f_rDiv F hF (hi_I (a * tk n * 65536)) (lo_U (a * tk n * 65536)) (b := 100) (by unfold I64; omega)
  rw [val_hl, W_in (by unfold W128; omega)] at hd
  unfold divR at hd
  rw [if_neg (by decide)] at hd
  obtain ⟨d1, d2, d3, d4, d5⟩ := k_ha F _ _ _ hd
  refine bp m1 ?_
  rw [m2, m3]
  refine bp l1 ?_
  rw [l2, l3]
  refine bp d1 ?_
  rw [d3, d4]
  clear hd d1 d2 d3 d4 d5 l1 l2 l3 m1 m2 m3
  generalize a * tk n = x at *
  obtain ⟨q1, q2⟩ := tq100 (x * 65536)
  have hl := lo_U (Int.tdiv (x * 65536) 100)
  unfold U64 at hl
  have hlo : ∀ q : Int, lo q % 4294967296 = q % 4294967296 := by intro q; unfold lo; omega
  rw [Int.tmod_eq_emod_of_nonneg hl.1, hlo]
  unfold turnV
  generalize x * 65536 = y at *
  rcases Int.lt_or_le y 0 with hx | hx
  · obtain ⟨h1, h2⟩ := q2 hx
    rw [h1, h2]
    by_cases h0 : -(-y % 100) < 0
    · refine bp (dt h0) (some_u32 ?_)
      simp only [wu32]
      omega
    · refine bn (df h0) (some_u32 ?_)
      simp only [wu32]
      omega
  · obtain ⟨h1, h2⟩ := q1 hx
    rw [h1, h2]
    refine bn (df (by omega)) (some_u32 ?_)
    simp only [wu32]
    omega
end Go.Xv
namespace Go.Xv
def MI (M : Mt) : Prop := I64 M.a0 ∧ I64 M.a1 ∧ I64 M.a2 ∧ I64 M.a3 ∧ I64 M.a4 ∧ I64 M.a5 ∧ I64 M.a6 ∧ I64 M.a7 ∧ I64 M.a8
theorem mi_mul (A B : Mt) : MI (mulM A B) := ⟨clipV_I _, clipV_I _, clipV_I _, clipV_I _, clipV_I _, clipV_I _, clipV_I _, clipV_I _, clipV_I _⟩
theorem mi_near {E : Int} {A : Mt} (hE : E ≤ 232000000000000) (h : NearM E A) : MI A := by
  have hb := near_bd hE h
  unfold MI I64
  omega
theorem mi_ab (k : Nat) (x : Int) : MI (abM k x) := by
  obtain ⟨⟨c1, c2⟩, s1, s2⟩ := both_bd x
  have z : I64 0 := by unfold I64; omega
  have n : I64 4294967296 := by unfold I64; omega
  have c : I64 (bothC x) := by unfold I64; omega
  have s : I64 (bothS x) := by unfold I64; omega
  have ns : I64 (-bothS x) := by unfold I64; omega
  match k with
  | 0 => exact ⟨n, z, z, z, c, ns, z, s, c⟩
  | 1 => exact ⟨c, z, s, z, n, z, ns, z, c⟩
  | _ + 2 => exact ⟨c, ns, z, s, c, z, z, z, n⟩
theorem mi_go {M : Mt} (h : MI M) (k : Nat) (b : Int) : MI (goM M k b) := by
  unfold goM
  split
  · exact h
  · exact mi_mul _ _

theorem m_About0 (F : Nat) (hF : 200 ≤ F) {x : Int} (hx : U32 x) : ok_da F 0 x = true ∧ o_da_0 F 0 x = (abM 0 x).a0 ∧ o_da_1 F 0 x = (abM 0 x).a1 ∧ o_da_2 F 0 x = (abM 0 x).a2 ∧ o_da_3 F 0 x = (abM 0 x).a3 ∧ o_da_4 F 0 x = (abM 0 x).a4 ∧ o_da_5 F 0 x = (abM 0 x).a5 ∧ o_da_6 F 0 x = (abM 0 x).a6 ∧ o_da_7 F 0 x = (abM 0 x).a7 ∧ o_da_8 F 0 x = (abM 0 x).a8 := by
  obtain ⟨h, h0, h1, h2, h3, h4, h5, h6, h7, h8, _⟩ := a_mAbout0 F hF hx
  exact ⟨h, h0, h1, h2, h3, h4, h5, h6, h7, h8⟩
theorem m_About1 (F : Nat) (hF : 200 ≤ F) {x : Int} (hx : U32 x) : ok_da F 1 x = true ∧ o_da_0 F 1 x = (abM 1 x).a0 ∧ o_da_1 F 1 x = (abM 1 x).a1 ∧ o_da_2 F 1 x = (abM 1 x).a2 ∧ o_da_3 F 1 x = (abM 1 x).a3 ∧ o_da_4 F 1 x = (abM 1 x).a4 ∧ o_da_5 F 1 x = (abM 1 x).a5 ∧ o_da_6 F 1 x = (abM 1 x).a6 ∧ o_da_7 F 1 x = (abM 1 x).a7 ∧ o_da_8 F 1 x = (abM 1 x).a8 := by
  obtain ⟨h, h0, h1, h2, h3, h4, h5, h6, h7, h8, _⟩ := a_mAbout1 F hF hx
  exact ⟨h, h0, h1, h2, h3, h4, h5, h6, h7, h8⟩
theorem m_About2 (F : Nat) (hF : 200 ≤ F) {x : Int} (hx : U32 x) : ok_da F 2 x = true ∧ o_da_0 F 2 x = (abM 2 x).a0 ∧ o_da_1 F 2 x = (abM 2 x).a1 ∧ o_da_2 F 2 x = (abM 2 x).a2 ∧ o_da_3 F 2 x = (abM 2 x).a3 ∧ o_da_4 F 2 x = (abM 2 x).a4 ∧ o_da_5 F 2 x = (abM 2 x).a5 ∧ o_da_6 F 2 x = (abM 2 x).a6 ∧ o_da_7 F 2 x = (abM 2 x).a7 ∧ o_da_8 F 2 x = (abM 2 x).a8 := by
  obtain ⟨h, h0, h1, h2, h3, h4, h5, h6, h7, h8, _⟩ := a_mAbout2 F hF hx
  exact ⟨h, h0, h1, h2, h3, h4, h5, h6, h7, h8⟩
theorem m_Mul (F : Nat) (hF : 200 ≤ F) {A B : Mt} (hA : MI A) (hB : MI B) : ok_ob F A.a0 A.a1 A.a2 A.a3 A.a4 A.a5 A.a6 A.a7 A.a8 B.a0 B.a1 B.a2 B.a3 B.a4 B.a5 B.a6 B.a7 B.a8 = true ∧ o_ob_0 F A.a0 A.a1 A.a2 A.a3 A.a4 A.a5 A.a6 A.a7 A.a8 B.a0 B.a1 B.a2 B.a3 B.a4 B.a5 B.a6 B.a7 B.a8 = (mulM A B).a0 ∧ o_ob_1 F A.a0 A.a1 A.a2 A.a3 A.a4 A.a5 A.a6 A.a7 A.a8 B.a0 B.a1 B.a2 B.a3 B.a4 B.a5 B.a6 B.a7 B.a8 = (mulM A B).a1 ∧ o_ob_2 F A.a0 A.a1 A.a2 A.a3 A.a4 A.a5 A.a6 A.a7 A.a8 B.a0 B.a1 B.a2 B.a3 B.a4 B.a5 B.a6 B.a7 B.a8 = (mulM A B).a2 ∧ o_ob_3 F A.a0 A.a1 A.a2 A.a3 A.a4 A.a5 A.a6 A.a7 A.a8 B.a0 B.a1 B.a2 B.a3 B.a4 B.a5 B.a6 B.a7 B.a8 = (mulM A B).a3 ∧ o_ob_4 F A.a0 A.a1 A.a2 A.a3 A.a4 A.a5 A.a6 A.a7 A.a8 B.a0 B.a1 B.a2 B.a3 B.a4 B.a5 B.a6 B.a7 B.a8 = (mulM A B).a4 ∧ o_ob_5 F A.a0 A.a1 A.a2 A.a3 A.a4 A.a5 A.a6 A.a7 A.a8 B.a0 B.a1 B.a2 B.a3 B.a4 B.a5 B.a6 B.a7 B.a8 = (mulM A B).a5 ∧ o_ob_6 F A.a0 A.a1 A.a2 A.a3 A.a4 A.a5 A.a6 A.a7 A.a8 B.a0 B.a1 B.a2 B.a3 B.a4 B.a5 B.a6 B.a7 B.a8 = (mulM A B).a6 ∧ o_ob_7 F A.a0 A.a1 A.a2 A.a3 A.a4 A.a5 A.a6 A.a7 A.a8 B.a0 B.a1 B.a2 B.a3 B.a4 B.a5 B.a6 B.a7 B.a8 = (mulM A B).a7 ∧ o_ob_8 F A.a0 A.a1 A.a2 A.a3 A.a4 A.a5 A.a6 A.a7 A.a8 B.a0 B.a1 B.a2 B.a3 B.a4 B.a5 B.a6 B.a7 B.a8 = (mulM A B).a8 ∧ o_ob_9 F A.a0 A.a1 A.a2 A.a3 A.a4 A.a5 A.a6 A.a7 A.a8 B.a0 B.a1 B.a2 B.a3 B.a4 B.a5 B.a6 B.a7 B.a8 = mulK A B := by
  obtain ⟨x0, x1, x2, x3, x4, x5, x6, x7, x8⟩ := hA
  obtain ⟨y0, y1, y2, y3, y4, y5, y6, y7, y8⟩ := hB
  exact a_mMul F hF x0 x1 x2 x3 x4 x5 x6 x7 x8 y0 y1 y2 y3 y4 y5 y6 y7 y8
theorem m_Ortho (F : Nat) (hF : 200 ≤ F) {A : Mt} (hA : MI A) : ok_fa F A.a0 A.a1 A.a2 A.a3 A.a4 A.a5 A.a6 A.a7 A.a8 = true ∧ o_fa_0 F A.a0 A.a1 A.a2 A.a3 A.a4 A.a5 A.a6 A.a7 A.a8 = (upM A).a0 ∧ o_fa_1 F A.a0 A.a1 A.a2 A.a3 A.a4 A.a5 A.a6 A.a7 A.a8 = (upM A).a1 ∧ o_fa_2 F A.a0 A.a1 A.a2 A.a3 A.a4 A.a5 A.a6 A.a7 A.a8 = (upM A).a2 ∧ o_fa_3 F A.a0 A.a1 A.a2 A.a3 A.a4 A.a5 A.a6 A.a7 A.a8 = (upM A).a3 ∧ o_fa_4 F A.a0 A.a1 A.a2 A.a3 A.a4 A.a5 A.a6 A.a7 A.a8 = (upM A).a4 ∧ o_fa_5 F A.a0 A.a1 A.a2 A.a3 A.a4 A.a5 A.a6 A.a7 A.a8 = (upM A).a5 ∧ o_fa_6 F A.a0 A.a1 A.a2 A.a3 A.a4 A.a5 A.a6 A.a7 A.a8 = (upM A).a6 ∧ o_fa_7 F A.a0 A.a1 A.a2 A.a3 A.a4 A.a5 A.a6 A.a7 A.a8 = (upM A).a7 ∧ o_fa_8 F A.a0 A.a1 A.a2 A.a3 A.a4 A.a5 A.a6 A.a7 A.a8 = (upM A).a8 := by
  obtain ⟨x0, x1, x2, x3, x4, x5, x6, x7, x8⟩ := hA
  obtain ⟨h, h0, h1, h2, h3, h4, h5, h6, h7, h8, _⟩ := a_mat_Ortho F hF x0 x1 x2 x3 x4 x5 x6 x7 x8
  exact ⟨h, h0, h1, h2, h3, h4, h5, h6, h7, h8⟩
def rateV (r : Int) : Int := if (-2147483647) > r then (-2147483647) else r
theorem rate_I {r : Int} (h : I32 r) : I32 (rateV r) := by unfold rateV; unfold I32 at *; split <;> omega
def byV (r t : Int) : Int := turnV (rateV r * tk t)
theorem by_b (r t : Int) : 0 ≤ byV r t ∧ byV r t < 4294967296 := by unfold byV turnV; omega

theorem st_0 (F : Nat) (hF : 200 ≤ F) (ex) (G : Nat) (x0 x1 x2 x3 x4 x5 x6 x7 x8 x9 x10 x11 x12 : Int) (x14 : Bool) (x20 x21 x22 x23 x24 x25 x26 x27 x28 x29 x30 x31 x32 x33 x34 x35 x36 x37 x38 x39 x40 x41 x42 : Int) {t r0 r1 r2 : Int} (hr : I32 r0) (any : Bool) {M : Mt} (hM : MI M) :
    L_xa_0 F ex (G + 1) x0 x1 x2 x3 x4 x5 x6 x7 x8 x9 x10 x11 x12 t x14 any r0 r1 r2 0 x20 x21 x22 x23 x24 x25 x26 x27 x28 x29 x30 x31 x32 x33 x34 x35 x36 x37 x38 x39 x40 x41 x42 M.a0 M.a1 M.a2 M.a3 M.a4 M.a5 M.a6 M.a7 M.a8 = L_xa_0 F ex G x0 x1 x2 x3 x4 x5 x6 x7 x8 x9 x10 x11 x12 t x14 (any || goK M 0 (byV r0 t)) r0 r1 r2 1 x20 x21 x22 x23 x24 x25 x26 x27 x28 x29 x30 x31 x32 x33 x34 x35 x36 x37 x38 x39 x40 x41 x42 (goM M 0 (byV r0 t)).a0 (goM M 0 (byV r0 t)).a1 (goM M 0 (byV r0 t)).a2 (goM M 0 (byV r0 t)).a3 (goM M 0 (byV r0 t)).a4 (goM M 0 (byV r0 t)).a5 (goM M 0 (byV r0 t)).a6 (goM M 0 (byV r0 t)).a7 (goM M 0 (byV r0 t)).a8 := by
  have w : IntKind.wrap .i64 (0 + 1) = 1 := by decide
  obtain ⟨t1, t2⟩ := a_Turn F t (rate_I hr)
  have hb := by_b r0 t
  rw [L_xa_0]
  unfold B_xa_0 Bg_xa_0
  dsimp only
  refine bp rfl (bp rfl ?_)
  rw [show (iv [VV.v (.int .i32 r0), .v (.int .i32 r1), .v (.int .i32 r2)][Int.toNat 0 * 1]?) = r0 from rfl, show (if (-2147483647) > r0 then (-2147483647) else r0) = rateV r0 from rfl, w]
  refine bp t1 ?_
  rw [t2, show turnV (rateV r0 * tk t) = byV r0 t from rfl]
  by_cases h0 : byV r0 t = 0
  · refine bp (by rw [h0]; rfl) ?_
    unfold goM goK
    rw [if_pos h0, if_pos h0, Bool.or_false]
  · obtain ⟨a, a0, a1, a2, a3, a4, a5, a6, a7, a8⟩ := m_About0 F hF (x := byV r0 t) hb
    obtain ⟨m, m0, m1, m2, m3, m4, m5, m6, m7, m8, m9⟩ := m_Mul F hF hM (mi_ab 0 (byV r0 t))
    refine bn (by simpa using h0) (bp a ?_)
    rw [a0, a1, a2, a3, a4, a5, a6, a7, a8]
    refine bp m ?_
    rw [m0, m1, m2, m3, m4, m5, m6, m7, m8, m9]
    unfold goM goK
    rw [if_neg h0, if_neg h0]
    cases any
    · rfl
    · rfl

theorem st_1 (F : Nat) (hF : 200 ≤ F) (ex) (G : Nat) (x0 x1 x2 x3 x4 x5 x6 x7 x8 x9 x10 x11 x12 : Int) (x14 : Bool) (x20 x21 x22 x23 x24 x25 x26 x27 x28 x29 x30 x31 x32 x33 x34 x35 x36 x37 x38 x39 x40 x41 x42 : Int) {t r0 r1 r2 : Int} (hr : I32 r1) (any : Bool) {M : Mt} (hM : MI M) :
    L_xa_0 F ex (G + 1) x0 x1 x2 x3 x4 x5 x6 x7 x8 x9 x10 x11 x12 t x14 any r0 r1 r2 1 x20 x21 x22 x23 x24 x25 x26 x27 x28 x29 x30 x31 x32 x33 x34 x35 x36 x37 x38 x39 x40 x41 x42 M.a0 M.a1 M.a2 M.a3 M.a4 M.a5 M.a6 M.a7 M.a8 = L_xa_0 F ex G x0 x1 x2 x3 x4 x5 x6 x7 x8 x9 x10 x11 x12 t x14 (any || goK M 1 (byV r1 t)) r0 r1 r2 2 x20 x21 x22 x23 x24 x25 x26 x27 x28 x29 x30 x31 x32 x33 x34 x35 x36 x37 x38 x39 x40 x41 x42 (goM M 1 (byV r1 t)).a0 (goM M 1 (byV r1 t)).a1 (goM M 1 (byV r1 t)).a2 (goM M 1 (byV r1 t)).a3 (goM M 1 (byV r1 t)).a4 (goM M 1 (byV r1 t)).a5 (goM M 1 (byV r1 t)).a6 (goM M 1 (byV r1 t)).a7 (goM M 1 (byV r1 t)).a8 := by
  have w : IntKind.wrap .i64 (1 + 1) = 2 := by decide
  obtain ⟨t1, t2⟩ := a_Turn F t (rate_I hr)
  have hb := by_b r1 t
  rw [L_xa_0]
  unfold B_xa_0 Bg_xa_0
  dsimp only
  refine bp rfl (bp rfl ?_)
  rw [show (iv [VV.v (.int .i32 r0), .v (.int .i32 r1), .v (.int .i32 r2)][Int.toNat 1 * 1]?) = r1 from rfl, show (if (-2147483647) > r1 then (-2147483647) else r1) = rateV r1 from rfl, w]
  refine bp t1 ?_
  rw [t2, show turnV (rateV r1 * tk t) = byV r1 t from rfl]
  by_cases h0 : byV r1 t = 0
  · refine bp (by rw [h0]; rfl) ?_
    unfold goM goK
    rw [if_pos h0, if_pos h0, Bool.or_false]
  · obtain ⟨a, a0, a1, a2, a3, a4, a5, a6, a7, a8⟩ := m_About1 F hF (x := byV r1 t) hb
    obtain ⟨m, m0, m1, m2, m3, m4, m5, m6, m7, m8, m9⟩ := m_Mul F hF hM (mi_ab 1 (byV r1 t))
    refine bn (by simpa using h0) (bp a ?_)
    rw [a0, a1, a2, a3, a4, a5, a6, a7, a8]
    refine bp m ?_
    rw [m0, m1, m2, m3, m4, m5, m6, m7, m8, m9]
    unfold goM goK
    rw [if_neg h0, if_neg h0]
    cases any
    · rfl
    · rfl

theorem st_2 (F : Nat) (hF : 200 ≤ F) (ex) (G : Nat) (x0 x1 x2 x3 x4 x5 x6 x7 x8 x9 x10 x11 x12 : Int) (x14 : Bool) (x20 x21 x22 x23 x24 x25 x26 x27 x28 x29 x30 x31 x32 x33 x34 x35 x36 x37 x38 x39 x40 x41 x42 : Int) {t r0 r1 r2 : Int} (hr : I32 r2) (any : Bool) {M : Mt} (hM : MI M) :
    L_xa_0 F ex (G + 1) x0 x1 x2 x3 x4 x5 x6 x7 x8 x9 x10 x11 x12 t x14 any r0 r1 r2 2 x20 x21 x22 x23 x24 x25 x26 x27 x28 x29 x30 x31 x32 x33 x34 x35 x36 x37 x38 x39 x40 x41 x42 M.a0 M.a1 M.a2 M.a3 M.a4 M.a5 M.a6 M.a7 M.a8 = L_xa_0 F ex G x0 x1 x2 x3 x4 x5 x6 x7 x8 x9 x10 x11 x12 t x14 (any || goK M 2 (byV r2 t)) r0 r1 r2 3 x20 x21 x22 x23 x24 x25 x26 x27 x28 x29 x30 x31 x32 x33 x34 x35 x36 x37 x38 x39 x40 x41 x42 (goM M 2 (byV r2 t)).a0 (goM M 2 (byV r2 t)).a1 (goM M 2 (byV r2 t)).a2 (goM M 2 (byV r2 t)).a3 (goM M 2 (byV r2 t)).a4 (goM M 2 (byV r2 t)).a5 (goM M 2 (byV r2 t)).a6 (goM M 2 (byV r2 t)).a7 (goM M 2 (byV r2 t)).a8 := by
  have w : IntKind.wrap .i64 (2 + 1) = 3 := by decide
  obtain ⟨t1, t2⟩ := a_Turn F t (rate_I hr)
  have hb := by_b r2 t
  rw [L_xa_0]
  unfold B_xa_0 Bg_xa_0
  dsimp only
  refine bp rfl (bp rfl ?_)
  rw [show (iv [VV.v (.int .i32 r0), .v (.int .i32 r1), .v (.int .i32 r2)][Int.toNat 2 * 1]?) = r2 from rfl, show (if (-2147483647) > r2 then (-2147483647) else r2) = rateV r2 from rfl, w]
  refine bp t1 ?_
  rw [t2, show turnV (rateV r2 * tk t) = byV r2 t from rfl]
  by_cases h0 : byV r2 t = 0
  · refine bp (by rw [h0]; rfl) ?_
    unfold goM goK
    rw [if_pos h0, if_pos h0, Bool.or_false]
  · obtain ⟨a, a0, a1, a2, a3, a4, a5, a6, a7, a8⟩ := m_About2 F hF (x := byV r2 t) hb
    obtain ⟨m, m0, m1, m2, m3, m4, m5, m6, m7, m8, m9⟩ := m_Mul F hF hM (mi_ab 2 (byV r2 t))
    refine bn (by simpa using h0) (bp a ?_)
    rw [a0, a1, a2, a3, a4, a5, a6, a7, a8]
    refine bp m ?_
    rw [m0, m1, m2, m3, m4, m5, m6, m7, m8, m9]
    unfold goM goK
    rw [if_neg h0, if_neg h0]
    cases any
    · rfl
    · rfl

theorem f_Step (F : Nat) (hF : 200 ≤ F) {a : Att} (hM : MI a.m) (hn : a.n < 9223372036854775807 ∧ -9223372036854775808 ≤ a.n) {r0 r1 r2 t : Int} (h0 : I32 r0) (h1 : I32 r1) (h2 : I32 r2) :
    f_xa F a.m.a0 a.m.a1 a.m.a2 a.m.a3 a.m.a4 a.m.a5 a.m.a6 a.m.a7 a.m.a8 a.n r0 r1 r2 t = some (.v (.tuple #[.agg #[.int .i64 (stepA a (byV r0 t) (byV r1 t) (byV r2 t)).m.a0, .int .i64 (stepA a (byV r0 t) (byV r1 t) (byV r2 t)).m.a1, .int .i64 (stepA a (byV r0 t) (byV r1 t) (byV r2 t)).m.a2, .int .i64 (stepA a (byV r0 t) (byV r1 t) (byV r2 t)).m.a3, .int .i64 (stepA a (byV r0 t) (byV r1 t) (byV r2 t)).m.a4, .int .i64 (stepA a (byV r0 t) (byV r1 t) (byV r2 t)).m.a5, .int .i64 (stepA a (byV r0 t) (byV r1 t) (byV r2 t)).m.a6, .int .i64 (stepA a (byV r0 t) (byV r1 t) (byV r2 t)).m.a7, .int .i64 (stepA a (byV r0 t) (byV r1 t) (byV r2 t)).m.a8, .int .i64 (stepA a (byV r0 t) (byV r1 t) (byV r2 t)).n], .bool (go3K a.m (byV r0 t) (byV r1 t) (byV r2 t))])) := by
  obtain ⟨G, hG⟩ : ∃ G, F = G + 4 := ⟨F - 4, by omega⟩
  have g0 := mi_go hM 0 (byV r0 t)
  have g1 := mi_go g0 1 (byV r1 t)
  have g2 := mi_go g1 2 (byV r2 t)
  unfold f_xa fg_xa
  rw [show L_xa_0 F _ F = L_xa_0 F _ (G + 4) from congrArg (L_xa_0 F _) hG]
  rw [st_0 F hF _ (G + 3) (hr := h0) (any := false) (hM := hM), st_1 F hF _ (G + 2) (hr := h1) (hM := g0), st_2 F hF _ (G + 1) (hr := h2) (hM := g1), L_xa_0]
  unfold B_xa_0 Bg_xa_0
  refine bn rfl ?_
  have ek : (false || goK a.m 0 (byV r0 t) || goK (goM a.m 0 (byV r0 t)) 1 (byV r1 t) || goK (goM (goM a.m 0 (byV r0 t)) 1 (byV r1 t)) 2 (byV r2 t)) = go3K a.m (byV r0 t) (byV r1 t) (byV r2 t) := by rw [Bool.false_or]; rfl
  rw [ek]
  have hg : goM (goM (goM a.m 0 (byV r0 t)) 1 (byV r1 t)) 2 (byV r2 t) = go3 a.m (byV r0 t) (byV r1 t) (byV r2 t) := rfl
  rw [hg] at g2 ⊢
  generalize hK : go3K a.m (byV r0 t) (byV r1 t) (byV r2 t) = K
  unfold stepA
  generalize go3 a.m (byV r0 t) (byV r1 t) (byV r2 t) = B at *
  by_cases hc : 15 ≤ a.n
  · rw [if_pos hc]
    obtain ⟨m, m0, m1, m2, m3, m4, m5, m6, m7, m8⟩ := m_Ortho F hF g2
    refine bp (dt hc) (bp m ?_)
    rw [m0, m1, m2, m3, m4, m5, m6, m7, m8]
  · rw [if_neg hc]
    refine bn (df (by omega)) ?_
    rw [wi64_in (by unfold I64; omega)]

theorem a_Step (F : Nat) (hF : 200 ≤ F) {a : Att} (hM : MI a.m) (hn : a.n < 9223372036854775807 ∧ -9223372036854775808 ≤ a.n) {r0 r1 r2 t : Int} (h0 : I32 r0) (h1 : I32 r1) (h2 : I32 r2) : ok_xa F a.m.a0 a.m.a1 a.m.a2 a.m.a3 a.m.a4 a.m.a5 a.m.a6 a.m.a7 a.m.a8 a.n r0 r1 r2 t = true ∧ o_xa_0 F a.m.a0 a.m.a1 a.m.a2 a.m.a3 a.m.a4 a.m.a5 a.m.a6 a.m.a7 a.m.a8 a.n r0 r1 r2 t = (stepA a (byV r0 t) (byV r1 t) (byV r2 t)).m.a0 ∧ o_xa_1 F a.m.a0 a.m.a1 a.m.a2 a.m.a3 a.m.a4 a.m.a5 a.m.a6 a.m.a7 a.m.a8 a.n r0 r1 r2 t = (stepA a (byV r0 t) (byV r1 t) (byV r2 t)).m.a1 ∧ o_xa_2 F a.m.a0 a.m.a1 a.m.a2 a.m.a3 a.m.a4 a.m.a5 a.m.a6 a.m.a7 a.m.a8 a.n r0 r1 r2 t = (stepA a (byV r0 t) (byV r1 t) (byV r2 t)).m.a2 ∧ o_xa_3 F a.m.a0 a.m.a1 a.m.a2 a.m.a3 a.m.a4 a.m.a5 a.m.a6 a.m.a7 a.m.a8 a.n r0 r1 r2 t = (stepA a (byV r0 t) (byV r1 t) (byV r2 t)).m.a3 ∧ o_xa_4 F a.m.a0 a.m.a1 a.m.a2 a.m.a3 a.m.a4 a.m.a5 a.m.a6 a.m.a7 a.m.a8 a.n r0 r1 r2 t = (stepA a (byV r0 t) (byV r1 t) (byV r2 t)).m.a4 ∧ o_xa_5 F a.m.a0 a.m.a1 a.m.a2 a.m.a3 a.m.a4 a.m.a5 a.m.a6 a.m.a7 a.m.a8 a.n r0 r1 r2 t = (stepA a (byV r0 t) (byV r1 t) (byV r2 t)).m.a5 ∧ o_xa_6 F a.m.a0 a.m.a1 a.m.a2 a.m.a3 a.m.a4 a.m.a5 a.m.a6 a.m.a7 a.m.a8 a.n r0 r1 r2 t = (stepA a (byV r0 t) (byV r1 t) (byV r2 t)).m.a6 ∧ o_xa_7 F a.m.a0 a.m.a1 a.m.a2 a.m.a3 a.m.a4 a.m.a5 a.m.a6 a.m.a7 a.m.a8 a.n r0 r1 r2 t = (stepA a (byV r0 t) (byV r1 t) (byV r2 t)).m.a7 ∧ o_xa_8 F a.m.a0 a.m.a1 a.m.a2 a.m.a3 a.m.a4 a.m.a5 a.m.a6 a.m.a7 a.m.a8 a.n r0 r1 r2 t = (stepA a (byV r0 t) (byV r1 t) (byV r2 t)).m.a8 ∧ o_xa_9 F a.m.a0 a.m.a1 a.m.a2 a.m.a3 a.m.a4 a.m.a5 a.m.a6 a.m.a7 a.m.a8 a.n r0 r1 r2 t = (stepA a (byV r0 t) (byV r1 t) (byV r2 t)).n ∧ o_xa_10 F a.m.a0 a.m.a1 a.m.a2 a.m.a3 a.m.a4 a.m.a5 a.m.a6 a.m.a7 a.m.a8 a.n r0 r1 r2 t = go3K a.m (byV r0 t) (byV r1 t) (byV r2 t) := k_xa F _ _ _ _ _ _ _ _ _ _ _ _ _ _ (f_Step F hF hM hn h0 h1 h2)
theorem a_New (F : Nat) (hF : 200 ≤ F) : ok_jb F = true ∧ o_jb_0 F = newA.m.a0 ∧ o_jb_1 F = newA.m.a1 ∧ o_jb_2 F = newA.m.a2 ∧ o_jb_3 F = newA.m.a3 ∧ o_jb_4 F = newA.m.a4 ∧ o_jb_5 F = newA.m.a5 ∧ o_jb_6 F = newA.m.a6 ∧ o_jb_7 F = newA.m.a7 ∧ o_jb_8 F = newA.m.a8 ∧ o_jb_9 F = newA.n := by
  refine k_jb F ?_
  unfold f_jb fg_jb
  obtain ⟨m, m0, m1, m2, m3, m4, m5, m6, m7, m8⟩ := a_mSame F hF
  refine bp m ?_
  rw [m0, m1, m2, m3, m4, m5, m6, m7, m8]
  rfl
theorem a_aHeading (F : Nat) (hF : 200 ≤ F) {a : Att} (hM : MI a.m) : ok_h F a.m.a0 a.m.a1 a.m.a2 a.m.a3 a.m.a4 a.m.a5 a.m.a6 a.m.a7 a.m.a8 a.n = true ∧ o_h_0 F a.m.a0 a.m.a1 a.m.a2 a.m.a3 a.m.a4 a.m.a5 a.m.a6 a.m.a7 a.m.a8 a.n = angle a.m.a3 a.m.a0 := by
  refine k_h F _ _ _ _ _ _ _ _ _ _ ?_
  unfold f_h fg_h
  obtain ⟨h, k⟩ := a_Heading F hF (a1 := a.m.a1) (a2 := a.m.a2) (a4 := a.m.a4) (a5 := a.m.a5) (a6 := a.m.a6) (a7 := a.m.a7) (a8 := a.m.a8) hM.1 hM.2.2.2.1
  refine bp h ?_
  rw [k]
theorem mi_inv {a : Att} (h : InvA a) : MI a.m ∧ (a.n < 9223372036854775807 ∧ -9223372036854775808 ≤ a.n) := by
  obtain ⟨n0, n1, hn⟩ := h
  exact ⟨mi_near (by omega) hn, by omega⟩
/-- which way it heads, from 0 -/
def turnsV (g t : Int) : Int := (g - t + 2147483648) % 4294967296 - 2147483648
theorem wrap_turns {g t : Int} (t' : Int) (h : t' % 4294967296 = t % 4294967296) : IntKind.wrap .i32 (IntKind.wrap .u32 (g - t')) = turnsV g t := by
  rw [wi32, wu32]
  unfold turnsV
  omega
namespace Cx
theorem head_dir {M : Mt} {t N : Int} {e : Rat} (he : e ≤ 500000) (ht : 0 ≤ t ∧ t < 4294967296) (h : Dir M t e) (hN : 5 / 4 * (2 * e + 242) ≤ (N : Rat)) : -N ≤ turnsV (angle M.a3 M.a0) t ∧ turnsV (angle M.a3 M.a0) t ≤ N := by
  have k0 := h.2.1.re
  have k1 := h.2.2.im
  have hn : Nm (sub (cx M.a0 M.a3) (sc One (VI t))) (e + e) := Nm.of (a := sub (cx M.a0 M.a3) (sc One (VI t))) k0.1 (by have := k0.2; exact this) k1.1 k1.2
  exact head_near (e := e + e) (by grind) ht hn (by grind)
end Cx
namespace Cx
theorem dir_new : Dir newA.m 0 0 := by
  have hv : VI 0 = one := VI_zero
  have e : sub (cx 4294967296 0) (sc One (VI 0)) = ⟨0, 0⟩ := by
    rw [hv]
    apply eqC <;> simp only [sub, cx, sc, one] <;> decide +kernel
  have nz : Nm (sub (cx 4294967296 0) (sc One (VI 0))) 0 := by
    rw [e]
    exact ⟨by decide +kernel, by decide +kernel⟩
  exact ⟨⟨rfl, rfl, rfl, rfl⟩, nz, nz⟩
end Cx
theorem a_works27 (F : Nat) (hF : 200 ≤ F) : ok_i F = true ∧ o_i_0 F = true := by
  refine k_i F ?_
  unfold f_i fg_i
  dsimp only
  obtain ⟨n, n0, n1, n2, n3, n4, n5, n6, n7, n8, n9⟩ := a_New F hF
  rw [n0, n1, n2, n3, n4, n5, n6, n7, n8, n9]
  obtain ⟨hM, hn⟩ := mi_inv inv_new
  have z : I32 0 := by unfold I32; omega
  obtain ⟨s, s0, s1, s2, s3, s4, s5, s6, s7, s8, s9, s10⟩ := a_Step F hF hM hn (t := 25) z z (show I32 65536 by unfold I32; omega)
  have b0 : byV 0 25 = 0 := by decide
  have b2 : byV 65536 25 = 1073741824 := by decide
  rw [b0, b2] at s0 s1 s2 s3 s4 s5 s6 s7 s8 s9 s10
  rw [s0, s1, s2, s3, s4, s5, s6, s7, s8, s9, s10]
  obtain ⟨hi, hk⟩ := inv_step inv_new (show (0 : Int) ≤ 0 ∧ (0 : Int) < 4294967296 by omega) (show (0 : Int) ≤ 0 ∧ (0 : Int) < 4294967296 by omega) (show (0 : Int) ≤ 1073741824 ∧ (1073741824 : Int) < 4294967296 by omega)
  have hd := Cx.dir_step (a := newA) (t := 0) (b := 1073741824) (e := 0) (by decide +kernel) inv_new (by omega) (by omega) Cx.dir_new
  rw [if_neg (show ¬ 15 ≤ newA.n by decide), show ((0 : Int) + 1073741824) % 4294967296 = 1073741824 by decide] at hd
  obtain ⟨hh, hv⟩ := a_aHeading F hF (mi_inv hi).1
  have hq := Cx.head_dir (N := 4095) (by decide +kernel) (by omega) hd (by decide +kernel)
  have hn1 : (stepA newA 0 0 1073741824).n = 1 := by unfold stepA; rw [if_neg (show ¬ 15 ≤ newA.n by decide)]; rfl
  refine bp n (bp s (bp hh ?_))
  rw [hv, wrap_turns (t := 1073741824) 1073741824 rfl, hk, hn1]
  refine bp rfl (bp (dt (by omega)) (bp (dt (by omega)) rfl))
end Go.Xv
namespace Go.Xv
theorem a_Among100 (F : Nat) (x : Int) : ok_q F x 100 = true ∧ o_q_0 F x 100 = x % 18446744073709551616 % 100 := by
  refine k_q F _ _ ?_
  unfold f_q fg_q
  have w : IntKind.wrap .u64 100 = 100 := by decide
  refine bn rfl ?_
  rw [w]
  refine bp rfl (some_int ?_)
  rw [wu64, Int.tmod_eq_emod_of_nonneg (by omega), wi64_in (by unfold I64; omega)]
theorem a_rTurn (F : Nat) (hF : 200 ≤ F) {a : Int} (n : Int) (ha : I32 a) : ok_s F a n = true ∧ o_s_0 F a n = turnV (a * tk n) := k_s F _ _ (f_rTurn F hF ha)
theorem rows_get (k : IntKind) (zs : List Int) {j : Nat} (h : j < zs.length) : isI k (zs.map fun z => VV.v (.int k z))[j]? = true ∧ iv (zs.map fun z => VV.v (.int k z))[j]? = zs[j] := by
  have : (zs.map fun z => VV.v (.int k z))[j]? = some (.v (.int k zs[j])) := by simp [h]
  rw [this]
  exact ⟨by simp [isI], rfl⟩
theorem rate_same {r : Int} (h : I32 r) : rateV (rateV r) = rateV r := by
  unfold I32 at h
  unfold rateV
  by_cases h1 : (-2147483647) > r
  · rw [if_pos h1]; decide
  · rw [if_neg h1, if_neg h1]
/-- how far off behind i steps, doubled and with what is between -/
def eb (i : Nat) : Rat := if i < 16 then 268 * i else if i < 32 then 9075 + 268 * ((i : Rat) - 16) else 28133 + 268 * ((i : Rat) - 32)
def ebOK (i : Nat) : Bool := decide ((if i % 16 = 15 then 21 / 10 * (eb i + 268) + 70 else eb i + 268) ≤ eb (i + 1)) && decide (eb i ≤ 90000) && decide (eb (i + 1) ≤ 90000) && decide (5 / 4 * (2 * eb (i + 1) + 242) ≤ (((4096 * (i + 1) : Nat) : Int) : Rat))
theorem eb_all : ((List.range 40).all ebOK) = true := by decide +kernel
theorem eb_ok {i : Nat} (h : i < 40) : (if i % 16 = 15 then 21 / 10 * (eb i + 268) + 70 else eb i + 268) ≤ eb (i + 1) ∧ eb i ≤ 90000 ∧ eb (i + 1) ≤ 90000 ∧ 5 / 4 * (2 * eb (i + 1) + 242) ≤ (((4096 * (i + 1) : Nat) : Int) : Rat) := by
  have := List.all_eq_true.1 eb_all i (List.mem_range.2 h)
  unfold ebOK at this
  simp only [Bool.and_eq_true, decide_eq_true_eq] at this
  exact ⟨this.1.1.1, this.1.1.2, this.1.2, this.2⟩
theorem lp_Turns (F : Nat) (hF : 200 ≤ F) (ex0) (zs : List Int) (hz : ∀ z ∈ zs, I32 z) {len : Nat} (hlen : len ≤ zs.length) (t : Int) (x4 : Bool) :
    ∀ (k n i : Nat) (s : Int) (a : Att), i + k = 40 → k < n → (0 ≤ s ∧ s < 4294967296) → InvA a → a.n = ((i % 16 : Nat) : Int) → Cx.Dir a.m s (eb i) →
      L_c_0 F ex0 (fun _ _ _ _ _ _ _ _ _ _ _ _ _ _ _ _ _ => some (.v (.bool true))) n (zs.map fun z => .v (.int .i32 z)) 0 len t x4 s i a.m.a0 a.m.a1 a.m.a2 a.m.a3 a.m.a4 a.m.a5 a.m.a6 a.m.a7 a.m.a8 a.n = some (.v (.bool true))
  | _, 0, _, _, _, _, h, _, _, _, _ => absurd h (by omega)
  | 0, n + 1, i, s, a, hi, _, _, _, _, _ => by
    rw [L_c_0]
    unfold B_c_0 Bg_c_0
    dsimp only
    by_cases h : (i : Int) < len
    · exact bp (dt h) (bn (df (by omega)) rfl)
    · exact bn (df h) rfl
  | k + 1, n + 1, i, s, a, hi, hk, hs, hI, hn, hd => by
    have ih := lp_Turns F hF ex0 zs hz hlen t x4 k n (i + 1)
    have w : IntKind.wrap .i64 ((i : Int) + 1) = ((i + 1 : Nat) : Int) := by rw [wi64_in (by unfold I64; omega)]; omega
    rw [L_c_0]
    unfold B_c_0 Bg_c_0
    dsimp only
    by_cases h : (i : Int) < len
    · obtain ⟨g0, e0⟩ := rows_get .i32 zs (j := i) (by omega)
      have hr : I32 zs[i] := hz _ (List.getElem_mem _)
      have z : I32 0 := by unfold I32; omega
      have hrt := rate_I hr
      obtain ⟨hM, hN⟩ := mi_inv hI
      obtain ⟨s', s0, s1, s2, s3, s4, s5, s6, s7, s8, s9, s10⟩ := a_Step F hF hM hN (t := t) z z hrt
      have b0 : byV 0 t = 0 := by
        unfold byV
        rw [show rateV 0 = 0 by decide, Int.zero_mul]; decide
      have bb := by_b (rateV zs[i]) t
      have ey : byV (rateV zs[i]) t = turnV (rateV zs[i] * tk t) := by unfold byV; rw [rate_same hr]
      rw [b0] at s0 s1 s2 s3 s4 s5 s6 s7 s8 s9 s10
      obtain ⟨t1, t2⟩ := a_rTurn F hF t hrt
      rw [← ey] at t2
      obtain ⟨hI', hK⟩ := inv_step hI (show (0 : Int) ≤ 0 ∧ (0 : Int) < 4294967296 by omega) (show (0 : Int) ≤ 0 ∧ (0 : Int) < 4294967296 by omega) bb
      obtain ⟨q0, q1, q2, q3⟩ := eb_ok (i := i) (by omega)
      have hd' := Cx.dir_step q1 hI hs bb hd
      have hq : (if 15 ≤ a.n then 21 / 10 * (eb i + 268) + 70 else eb i + 268) = (if i % 16 = 15 then 21 / 10 * (eb i + 268) + 70 else eb i + 268 : Rat) := by
        by_cases hc : i % 16 = 15
        · rw [if_pos hc, if_pos (by omega)]
        · rw [if_neg hc, if_neg (by omega)]
      rw [hq] at hd'
      have hd2 := Cx.dir_mono hd' q0
      have hn' : (stepA a 0 0 (byV (rateV zs[i]) t)).n = (((i + 1) % 16 : Nat) : Int) := by
        unfold stepA
        by_cases hc : i % 16 = 15
        · rw [if_pos (by omega)]; dsimp only; omega
        · rw [if_neg (by omega)]; dsimp only; omega
      have hh := Cx.head_dir (N := ((4096 * (i + 1) : Nat) : Int)) (by grind) (by omega) hd2 q3
      generalize hb : stepA a 0 0 (byV (rateV zs[i]) t) = b at *
      obtain ⟨v1, v2⟩ := a_aHeading F hF (mi_inv hI').1
      refine bp (dt h) (bp (dt (by omega)) (bp (by rw [dt (by omega), dt (by omega)]; rfl) ?_))
      rw [show 0 + Int.toNat (i : Int) * 1 = i by rw [Int.toNat_natCast]; omega, e0, show (if (-2147483647) > zs[i] then (-2147483647) else zs[i]) = rateV zs[i] from rfl, t2, s0, s1, s2, s3, s4, s5, s6, s7, s8, s9, s10, w, v2, hK]
      have wu : IntKind.wrap .u32 (s + byV (rateV zs[i]) t) = (s + byV (rateV zs[i]) t) % 4294967296 := by rw [wu32]
      rw [wu, wrap_turns (t := (s + byV (rateV zs[i]) t) % 4294967296) ((s + byV (rateV zs[i]) t) % 4294967296) rfl]
      have hm : ((4096 * (i + 1) : Nat) : Int) ≤ 200000 ∧ (0 : Int) ≤ ((4096 * (i + 1) : Nat) : Int) := by omega
      have w4 : IntKind.wrap .i32 (IntKind.wrap .i64 (4096 * ((i + 1 : Nat) : Int))) = ((4096 * (i + 1) : Nat) : Int) := by
        rw [show 4096 * ((i + 1 : Nat) : Int) = ((4096 * (i + 1) : Nat) : Int) by omega]
        generalize ((4096 * (i + 1) : Nat) : Int) = m at hm
        rw [wi64_in (by unfold I64; omega), wi32_in (by unfold I32; omega)]
      rw [w4]
      generalize ((4096 * (i + 1) : Nat) : Int) = m at *
      have w5 : IntKind.wrap .i32 (0 - m) = -m := by
        rw [wi32_in (by unfold I32; omega)]; omega
      rw [w5]
      refine bp (by rw [g0]; rfl) (bp s' (bp t1 (bp v1 (bn rfl (bn (df (by omega)) (bn (df (by omega)) ?_))))))
      exact ih _ b (by omega) (by omega) (by omega) hI' hn' hd2
    · exact bn (df h) rfl
theorem f_AttTurns (F : Nat) (hF : 200 ≤ F) {zs : List Int} {len : Nat} {t : Int} (hz : ∀ z ∈ zs, I32 z) (hlen : len ≤ zs.length) (_ht : I64 t) :
    f_c F (zs.map fun n => .v (.int .i32 n)) 0 len t = some (.v (.bool true)) := by
  obtain ⟨w0, w1⟩ := a_works27 F hF
  obtain ⟨n, n0, n1, n2, n3, n4, n5, n6, n7, n8, n9⟩ := a_New F hF
  obtain ⟨a0, a1⟩ := a_Among100 F t
  unfold f_c fg_c
  refine bp w0 (bn (by rw [w1]; rfl) (bp n (bp a0 ?_)))
  rw [a1, n0, n1, n2, n3, n4, n5, n6, n7, n8, n9]
  have e0 : eb 0 = 0 := by decide +kernel
  exact lp_Turns F hF _ zs hz hlen _ false 40 F 0 0 newA (by omega) (by omega) (by omega) inv_new rfl (by rw [e0]; exact Cx.dir_new)
end Go.Xv
namespace Go.Proofs.Ytiahhalhbacgaaa.attTurns
open Go.ChangeShapes Go.WideShapes Go.ChangeAt Go.RowKit Go.Xv Go.Proofs.Ytiahhalhbacgaaa.base
set_option linter.unusedVariables false
set_option maxRecDepth 100000 in
theorem lifted (os : Os) (started : os.Started) (H : Type) (enc : TypeId × Value → H) :
    ReturnsInHanded {} Try.checked os 7 .any (Rows.attTurnsSpec.pre6 enc Try.prog Try.f7 Rows.attTurnsRow.domain false) (Rows.attTurnsSpec.post enc Try.prog Try.f7 false true false false) := by
  refine returnsInHanded_of_change (C := Try.checked) own started (by kernel_rfl) Try.func7
    (ChangeSpec.witness6 (enc := enc) (C := Try.checked) false ⟨#[], #[.slice none 0 0, .int .i64 0], []⟩ 8 (by kernel_rfl) (by kernel_rfl) (by kernel_rfl) (by kernel_rfl)) ?_
  intro W base args ds gs before hval0 hW hcnd _
  have hval : ∀ (j : Nat) t v, Try.f7.params[j]? = some t → args[j]? = some v → Value.okWide Try.prog W .any base t v := hval0
  have hW' := hW
  obtain ⟨p, q, hA0, hV, rfl, hfz, hnd⟩ := hW
  have hA : DataW.TrodAll enc Try.prog W 0 (fun _ => true) true Try.f7.params.toList args.toList ds p := hA0
  rw [Try.params7] at hA hval
  obtain ⟨v0, vs0, d0, ds0, p0, q0, hargs, rfl, rfl, h0, r0⟩ := trodAll_cons hA
  obtain ⟨v1, vs1, d1, ds1, p1, q1, rfl, rfl, rfl, h1, r1⟩ := trodAll_cons r0
  obtain ⟨rfl, rfl, rfl⟩ := trodAll_nil r1
  obtain rfl : args = #[v0, v1] := by cases args; simp_all
  obtain ⟨z0, len0, cap0, p0, rfl, hl0, hz0, hw0, hr0⟩ := open_row (e := 62) (k := .i32) (by kernel_rfl) (by kernel_rfl) (by kernel_rfl) (hval 0 55 v0 rfl rfl) h0
  obtain ⟨a0, rfl, wa0⟩ := open_num (k := .i64) (by kernel_rfl) (hval 1 3 v1 rfl rfl) h1
  refine law_contract laidOut (g_c fuel0) (bt := 4) (by kernel_rfl) (by kernel_rfl) (by kernel_rfl) (by kernel_rfl) rfl hW' ?_
  refine ⟨[.fs (z0.map fun n => .v (.int .i32 n)) 0 len0 1, .v (.int .i64 a0)], rfl, fun i x hx => ?_, unS_of ?_⟩
  · match i, hx with
    | 0, hx => exact ⟨_, rfl, by cases hx; exact hr0 _⟩
    | 1, hx => exact ⟨_, rfl, by cases hx; exact Rel.v _ _⟩
    | _ + 2, hx => cases hx
  · obtain ⟨y1, y2⟩ := k_c fuel0 (z0.map fun n => .v (.int .i32 n)) 0 len0 a0 (f_AttTurns fuel0 (by unfold fuel0; omega) (fun n hn => wf_i32 (hw0 n hn)) hl0 (wf_i64 wa0))
    have e : s_c fuel0 [.fs (z0.map fun n => .v (.int .i32 n)) 0 len0 1, .v (.int .i64 a0)] = some (ok_c fuel0 (z0.map fun n => .v (.int .i32 n)) 0 len0 a0, .v (.bool (o_c_0 fuel0 (z0.map fun n => .v (.int .i32 n)) 0 len0 a0))) := by kernel_rfl
    rw [e, y1, y2]
theorem over : Rows.attTurnsRow.holds Try.pinned (OpenSpec.ofChange Rows.attTurnsSpec) :=
  OpenClaim.holds_of_wide 7 Try.f7 rfl rfl rfl rfl rfl rfl rfl ⟨rfl, rfl, rfl, rfl, rfl⟩ rfl rfl rfl rfl rfl (by kernel_rfl) Try.func7 (joined_of (P := Try.prog) behind enter_ rfl rfl ⟨rfl, rfl⟩ (by kernel_rfl))
    (of_decide_eq_true (by kernel_rfl)) (by unfold Func.isWrapper; first | (rw [if_pos (by decide +kernel)]; kernel_rfl) | (rw [if_neg (by decide +kernel)]; exact ⟨rfl, rfl⟩))
    (fun os started H enc _ => lifted os started H enc)
/-- The statement. -/
theorem proved : Rows.AttTurnsSaid := over
#print axioms proved
end Go.Proofs.Ytiahhalhbacgaaa.attTurns
