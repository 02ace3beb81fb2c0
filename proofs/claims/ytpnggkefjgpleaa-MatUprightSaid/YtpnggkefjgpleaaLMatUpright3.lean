/- What turns about two axes and is then changed a little is made upright, off by at most 4096 parts: the law returns true for every input, and leaves its arguments as they were. -/
import Derived.Test.YtpnggkefjgpleaaLMatUpright2
import Derived.KernelRfl
namespace Go.Xv
theorem a_Unit_0 (F : Nat) (hF : 200 ≤ F) {a0 a1 a2 m : Int} (h : I64 a0) (hm : I64 m) : ok_n F 0 a0 a1 a2 m = true ∧ o_n_0 F 0 a0 a1 a2 m = fdivV a0 m ∧ o_n_1 F 0 a0 a1 a2 m = fdivC a0 m := by
  refine k_n F _ _ _ _ _ ?_
  unfold f_n fg_n
  obtain ⟨h1, h2, h3⟩ := k_ta F _ _ (f_fDiv F hF h hm)
  refine bp rfl (bp rfl (bp h1 ?_))
  exact congrArg some (show VV.v (.tuple #[.int .i64 (o_ta_0 F a0 m), .bool (o_ta_1 F a0 m)]) = _ by rw [h2, h3])
theorem a_Scale_0 (F : Nat) {a0 a1 a2 m : Int} (h : I64 a0) (hm : I64 m) : ok_i F 0 a0 a1 a2 m = true ∧ o_i_0 F 0 a0 a1 a2 m = clipV (near (a0 * m) 32) ∧ o_i_1 F 0 a0 a1 a2 m = clipC (near (a0 * m) 32) := by
  refine k_i F _ _ _ _ _ ?_
  unfold f_i fg_i
  obtain ⟨h1, h2, h3⟩ := a_fMul F h hm
  refine bp rfl (bp rfl (bp h1 ?_))
  exact congrArg some (show VV.v (.tuple #[.int .i64 (o_ua_0 F a0 m), .bool (o_ua_1 F a0 m)]) = _ by rw [h2, h3])
theorem a_Sub_0 (F : Nat) {a0 a1 a2 a3 a4 a5 : Int} (h : I64 a0) (hm : I64 a3) : ok_ca F 0 a0 a1 a2 a3 a4 a5 = true ∧ o_ca_0 F 0 a0 a1 a2 a3 a4 a5 = clipV (a0 - a3) ∧ o_ca_1 F 0 a0 a1 a2 a3 a4 a5 = clipC (a0 - a3) := by
  refine k_ca F _ _ _ _ _ _ _ ?_
  unfold f_ca fg_ca
  obtain ⟨h1, h2, h3⟩ := a_fSub F h hm
  refine bp rfl (bp rfl (bp rfl (bp rfl (bp h1 ?_))))
  exact congrArg some (show VV.v (.tuple #[.int .i64 (o_va_0 F a0 a3), .bool (o_va_1 F a0 a3)]) = _ by rw [h2, h3])
theorem a_Unit_1 (F : Nat) (hF : 200 ≤ F) {a0 a1 a2 m : Int} (h : I64 a1) (hm : I64 m) : ok_n F 1 a0 a1 a2 m = true ∧ o_n_0 F 1 a0 a1 a2 m = fdivV a1 m ∧ o_n_1 F 1 a0 a1 a2 m = fdivC a1 m := by
  refine k_n F _ _ _ _ _ ?_
  unfold f_n fg_n
  obtain ⟨h1, h2, h3⟩ := k_ta F _ _ (f_fDiv F hF h hm)
  refine bp rfl (bp rfl (bp h1 ?_))
  exact congrArg some (show VV.v (.tuple #[.int .i64 (o_ta_0 F a1 m), .bool (o_ta_1 F a1 m)]) = _ by rw [h2, h3])
theorem a_Scale_1 (F : Nat) {a0 a1 a2 m : Int} (h : I64 a1) (hm : I64 m) : ok_i F 1 a0 a1 a2 m = true ∧ o_i_0 F 1 a0 a1 a2 m = clipV (near (a1 * m) 32) ∧ o_i_1 F 1 a0 a1 a2 m = clipC (near (a1 * m) 32) := by
  refine k_i F _ _ _ _ _ ?_
  unfold f_i fg_i
  obtain ⟨h1, h2, h3⟩ := a_fMul F h hm
  refine bp rfl (bp rfl (bp h1 ?_))
  exact congrArg some (show VV.v (.tuple #[.int .i64 (o_ua_0 F a1 m), .bool (o_ua_1 F a1 m)]) = _ by rw [h2, h3])
theorem a_Sub_1 (F : Nat) {a0 a1 a2 a3 a4 a5 : Int} (h : I64 a1) (hm : I64 a4) : ok_ca F 1 a0 a1 a2 a3 a4 a5 = true ∧ o_ca_0 F 1 a0 a1 a2 a3 a4 a5 = clipV (a1 - a4) ∧ o_ca_1 F 1 a0 a1 a2 a3 a4 a5 = clipC (a1 - a4) := by
  refine k_ca F _ _ _ _ _ _ _ ?_
  unfold f_ca fg_ca
  obtain ⟨h1, h2, h3⟩ := a_fSub F h hm
  refine bp rfl (bp rfl (bp rfl (bp rfl (bp h1 ?_))))
  exact congrArg some (show VV.v (.tuple #[.int .i64 (o_va_0 F a1 a4), .bool (o_va_1 F a1 a4)]) = _ by rw [h2, h3])
theorem a_Unit_2 (F : Nat) (hF : 200 ≤ F) {a0 a1 a2 m : Int} (h : I64 a2) (hm : I64 m) : ok_n F 2 a0 a1 a2 m = true ∧ o_n_0 F 2 a0 a1 a2 m = fdivV a2 m ∧ o_n_1 F 2 a0 a1 a2 m = fdivC a2 m := by
  refine k_n F _ _ _ _ _ ?_
  unfold f_n fg_n
  obtain ⟨h1, h2, h3⟩ := k_ta F _ _ (f_fDiv F hF h hm)
  refine bp rfl (bp rfl (bp h1 ?_))
  exact congrArg some (show VV.v (.tuple #[.int .i64 (o_ta_0 F a2 m), .bool (o_ta_1 F a2 m)]) = _ by rw [h2, h3])
theorem a_Scale_2 (F : Nat) {a0 a1 a2 m : Int} (h : I64 a2) (hm : I64 m) : ok_i F 2 a0 a1 a2 m = true ∧ o_i_0 F 2 a0 a1 a2 m = clipV (near (a2 * m) 32) ∧ o_i_1 F 2 a0 a1 a2 m = clipC (near (a2 * m) 32) := by
  refine k_i F _ _ _ _ _ ?_
  unfold f_i fg_i
  obtain ⟨h1, h2, h3⟩ := a_fMul F h hm
  refine bp rfl (bp rfl (bp h1 ?_))
  exact congrArg some (show VV.v (.tuple #[.int .i64 (o_ua_0 F a2 m), .bool (o_ua_1 F a2 m)]) = _ by rw [h2, h3])
theorem a_Sub_2 (F : Nat) {a0 a1 a2 a3 a4 a5 : Int} (h : I64 a2) (hm : I64 a5) : ok_ca F 2 a0 a1 a2 a3 a4 a5 = true ∧ o_ca_0 F 2 a0 a1 a2 a3 a4 a5 = clipV (a2 - a5) ∧ o_ca_1 F 2 a0 a1 a2 a3 a4 a5 = clipC (a2 - a5) := by
  refine k_ca F _ _ _ _ _ _ _ ?_
  unfold f_ca fg_ca
  obtain ⟨h1, h2, h3⟩ := a_fSub F h hm
  refine bp rfl (bp rfl (bp rfl (bp rfl (bp h1 ?_))))
  exact congrArg some (show VV.v (.tuple #[.int .i64 (o_va_0 F a2 a5), .bool (o_va_1 F a2 a5)]) = _ by rw [h2, h3])
def pr (a b : Int) : Int := a * b / 4294967296 + a * b / 2147483648 % 2
theorem pr_near (a b : Int) : near (a * b) 32 = pr a b := by
  unfold near pr
  rw [if_neg (by decide), show (2 : Int) ^ 32 = 4294967296 by decide, show (2 : Int) ^ (32 - 1) = 2147483648 by decide]
theorem pr_comm (a b : Int) : pr a b = pr b a := by unfold pr; rw [Int.mul_comm]
theorem pr_bd {a b : Int} (ha : I64 a) (hb : I64 b) : -19807040628566084398385987585 ≤ pr a b ∧ pr a b ≤ 19807040628566084398385987585 := by
  have := mul_bd ha hb
  unfold pr; omega
theorem a_product (F : Nat) {a b : Int} (ha : I64 a) (hb : I64 b) : ok_j F a b = true ∧ o_j_0 F a b = hi (pr a b) ∧ o_j_1 F a b = lo (pr a b) := by
  refine k_j F _ _ ?_
  unfold f_j fg_j
  obtain ⟨h1, h2, h3⟩ := a_Mul F ha hb
  obtain ⟨n1, n2, n3⟩ := a_Near F 32 (mul_W ha hb)
  rw [cl32, pr_near] at n2 n3
  refine bp h1 ?_
  rw [h2, h3]
  refine bp n1 ?_
  rw [n2, n3]
theorem a_vclip (F : Nat) {z : Int} (h : W128 z) : ok_oa F (hi z) (lo z) = true ∧ o_oa_0 F (hi z) (lo z) = clipV z ∧ o_oa_1 F (hi z) (lo z) = clipC z := by
  refine k_oa F _ _ ?_
  unfold f_oa fg_oa
  obtain ⟨h1, h2, h3⟩ := a_Clip F h
  refine bp h1 ?_
  rw [h2, h3]
def dotZ (a0 a1 a2 a3 a4 a5 : Int) : Int := pr a0 a3 + pr a1 a4 + pr a2 a5
theorem dot_W {a0 a1 a2 a3 a4 a5 : Int} (h0 : I64 a0) (h1 : I64 a1) (h2 : I64 a2) (h3 : I64 a3) (h4 : I64 a4) (h5 : I64 a5) : W128 (dotZ a0 a1 a2 a3 a4 a5) := by
  have := pr_bd h0 h3
  have := pr_bd h1 h4
  have := pr_bd h2 h5
  unfold dotZ W128; omega
theorem f_Dot (F : Nat) (hF : 200 ≤ F) {a0 a1 a2 a3 a4 a5 : Int} (h0 : I64 a0) (h1 : I64 a1) (h2 : I64 a2) (h3 : I64 a3) (h4 : I64 a4) (h5 : I64 a5) : f_ya F a0 a1 a2 a3 a4 a5 = some (.v (.tuple #[.int .i64 (clipV (dotZ a0 a1 a2 a3 a4 a5)), .bool (clipC (dotZ a0 a1 a2 a3 a4 a5))])) := by
  obtain ⟨p1, p2, p3⟩ := a_product F h0 h3
  obtain ⟨q1, q2, q3⟩ := a_product F h1 h4
  obtain ⟨r1, r2, r3⟩ := a_product F h2 h5
  obtain ⟨s1, s2, s3⟩ := a_Add F 0 (pr a0 a3)
  obtain ⟨t1, t2, t3⟩ := a_Add F (pr a0 a3) (pr a1 a4)
  obtain ⟨u1, u2, u3⟩ := a_Add F (pr a0 a3 + pr a1 a4) (pr a2 a5)
  obtain ⟨c1, c2, c3⟩ := a_vclip F (dot_W h0 h1 h2 h3 h4 h5)
  rw [Int.zero_add] at s2 s3
  obtain ⟨G, hG⟩ : ∃ G, F = G + 4 := ⟨F - 4, by omega⟩
  have w1 : IntKind.wrap .i64 (0 + 1) = 1 := by decide
  have w2 : IntKind.wrap .i64 (1 + 1) = 2 := by decide
  have w3 : IntKind.wrap .i64 (2 + 1) = 3 := by decide
  unfold f_ya fg_ya
  rw [show L_ya_0 F _ F = L_ya_0 F _ (G + 4) from congrArg (L_ya_0 F _) hG, L_ya_0]
  unfold B_ya_0 Bg_ya_0
  refine bp rfl (bp rfl (bp rfl (bp rfl (bp rfl (bp p1 ?_)))))
  have e0 : (iv [.v (.int .i64 a0), .v (.int .i64 a1), .v (.int .i64 a2)][0 + Int.toNat 0 * 1]?) = a0 := rfl
  have e3 : (iv [.v (.int .i64 a3), .v (.int .i64 a4), .v (.int .i64 a5)][0 + Int.toNat 0 * 1]?) = a3 := rfl
  rw [e0, e3, p2, p3]
  have s1' : ok_pa F 0 0 (hi (pr a0 a3)) (lo (pr a0 a3)) = true := s1
  have s2' : o_pa_0 F 0 0 (hi (pr a0 a3)) (lo (pr a0 a3)) = hi (pr a0 a3) := s2
  have s3' : o_pa_1 F 0 0 (hi (pr a0 a3)) (lo (pr a0 a3)) = lo (pr a0 a3) := s3
  refine bp s1' ?_
  rw [s2', s3', w1, L_ya_0]
  unfold B_ya_0 Bg_ya_0
  refine bp rfl (bp rfl (bp rfl (bp rfl (bp rfl (bp q1 ?_)))))
  have e1 : (iv [.v (.int .i64 a0), .v (.int .i64 a1), .v (.int .i64 a2)][0 + Int.toNat 1 * 1]?) = a1 := rfl
  have e4 : (iv [.v (.int .i64 a3), .v (.int .i64 a4), .v (.int .i64 a5)][0 + Int.toNat 1 * 1]?) = a4 := rfl
  rw [e1, e4, q2, q3]
  refine bp t1 ?_
  rw [t2, t3, w2, L_ya_0]
  unfold B_ya_0 Bg_ya_0
  refine bp rfl (bp rfl (bp rfl (bp rfl (bp rfl (bp r1 ?_)))))
  have e2 : (iv [.v (.int .i64 a0), .v (.int .i64 a1), .v (.int .i64 a2)][0 + Int.toNat 2 * 1]?) = a2 := rfl
  have e5 : (iv [.v (.int .i64 a3), .v (.int .i64 a4), .v (.int .i64 a5)][0 + Int.toNat 2 * 1]?) = a5 := rfl
  rw [e2, e5, r2, r3]
  refine bp u1 ?_
  rw [u2, u3, w3, L_ya_0]
  unfold B_ya_0 Bg_ya_0
  refine bn rfl ?_
  have e : pr a0 a3 + pr a1 a4 + pr a2 a5 = dotZ a0 a1 a2 a3 a4 a5 := rfl
  rw [e]
  refine bp c1 ?_
  rw [c2, c3]
theorem a_Dot (F : Nat) (hF : 200 ≤ F) {a0 a1 a2 a3 a4 a5 : Int} (h0 : I64 a0) (h1 : I64 a1) (h2 : I64 a2) (h3 : I64 a3) (h4 : I64 a4) (h5 : I64 a5) : ok_ya F a0 a1 a2 a3 a4 a5 = true ∧ o_ya_0 F a0 a1 a2 a3 a4 a5 = clipV (dotZ a0 a1 a2 a3 a4 a5) ∧ o_ya_1 F a0 a1 a2 a3 a4 a5 = clipC (dotZ a0 a1 a2 a3 a4 a5) := k_ya F _ _ _ _ _ _ (f_Dot F hF h0 h1 h2 h3 h4 h5)
def arZ (a b c d : Int) : Int := pr a b - pr c d
theorem ar_W {a b c d : Int} (h0 : I64 a) (h1 : I64 b) (h2 : I64 c) (h3 : I64 d) : W128 (arZ a b c d) := by
  have := pr_bd h0 h1
  have := pr_bd h2 h3
  unfold arZ W128; omega
theorem a_Cross_0 (F : Nat) {a0 a1 a2 a3 a4 a5 : Int} (h0 : I64 a0) (h1 : I64 a1) (h2 : I64 a2) (h3 : I64 a3) (h4 : I64 a4) (h5 : I64 a5) : ok_h F 0 a0 a1 a2 a3 a4 a5 = true ∧ o_h_0 F 0 a0 a1 a2 a3 a4 a5 = clipV (arZ a1 a5 a2 a4) ∧ o_h_1 F 0 a0 a1 a2 a3 a4 a5 = clipC (arZ a1 a5 a2 a4) := by
  refine k_h F _ _ _ _ _ _ _ ?_
  unfold f_h fg_h
  obtain ⟨p1, p2, p3⟩ := a_product F h1 h5
  obtain ⟨q1, q2, q3⟩ := a_product F h2 h4
  obtain ⟨n1, n2, n3⟩ := a_Neg F (pr a2 a4)
  obtain ⟨s1, s2, s3⟩ := a_Add F (pr a1 a5) (-pr a2 a4)
  obtain ⟨c1, c2, c3⟩ := a_vclip F (ar_W h1 h5 h2 h4)
  unfold arZ at c1 c2 c3 ⊢
  rw [Int.sub_eq_add_neg] at c1 c2 c3 ⊢
  have w1 : Int.tmod (IntKind.wrap .i64 (0 + 1)) 3 = 1 := by decide
  have w2 : Int.tmod (IntKind.wrap .i64 (0 + 2)) 3 = 2 := by decide
  rw [w1, w2]
  refine bp rfl (bp rfl (bp rfl (bp rfl (bp p1 (bp rfl (bp rfl (bp rfl (bp rfl (bp q1 ?_)))))))))
  have e1 : (iv [.v (.int .i64 a0), .v (.int .i64 a1), .v (.int .i64 a2)][0 + Int.toNat 1 * 1]?) = a1 := rfl
  have e2 : (iv [.v (.int .i64 a0), .v (.int .i64 a1), .v (.int .i64 a2)][0 + Int.toNat 2 * 1]?) = a2 := rfl
  have e3 : (iv [.v (.int .i64 a3), .v (.int .i64 a4), .v (.int .i64 a5)][0 + Int.toNat 1 * 1]?) = a4 := rfl
  have e4 : (iv [.v (.int .i64 a3), .v (.int .i64 a4), .v (.int .i64 a5)][0 + Int.toNat 2 * 1]?) = a5 := rfl
  rw [e1, e2, e3, e4, p2, p3, q2, q3]
  refine bp n1 ?_
  rw [n2, n3]
  refine bp s1 ?_
  rw [s2, s3]
  refine bp c1 ?_
  rw [c2, c3]
theorem a_Cross_1 (F : Nat) {a0 a1 a2 a3 a4 a5 : Int} (h0 : I64 a0) (h1 : I64 a1) (h2 : I64 a2) (h3 : I64 a3) (h4 : I64 a4) (h5 : I64 a5) : ok_h F 1 a0 a1 a2 a3 a4 a5 = true ∧ o_h_0 F 1 a0 a1 a2 a3 a4 a5 = clipV (arZ a2 a3 a0 a5) ∧ o_h_1 F 1 a0 a1 a2 a3 a4 a5 = clipC (arZ a2 a3 a0 a5) := by
  refine k_h F _ _ _ _ _ _ _ ?_
  unfold f_h fg_h
  obtain ⟨p1, p2, p3⟩ := a_product F h2 h3
  obtain ⟨q1, q2, q3⟩ := a_product F h0 h5
  obtain ⟨n1, n2, n3⟩ := a_Neg F (pr a0 a5)
  obtain ⟨s1, s2, s3⟩ := a_Add F (pr a2 a3) (-pr a0 a5)
  obtain ⟨c1, c2, c3⟩ := a_vclip F (ar_W h2 h3 h0 h5)
  unfold arZ at c1 c2 c3 ⊢
  rw [Int.sub_eq_add_neg] at c1 c2 c3 ⊢
  have w1 : Int.tmod (IntKind.wrap .i64 (1 + 1)) 3 = 2 := by decide
  have w2 : Int.tmod (IntKind.wrap .i64 (1 + 2)) 3 = 0 := by decide
  rw [w1, w2]
  refine bp rfl (bp rfl (bp rfl (bp rfl (bp p1 (bp rfl (bp rfl (bp rfl (bp rfl (bp q1 ?_)))))))))
  have e1 : (iv [.v (.int .i64 a0), .v (.int .i64 a1), .v (.int .i64 a2)][0 + Int.toNat 2 * 1]?) = a2 := rfl
  have e2 : (iv [.v (.int .i64 a0), .v (.int .i64 a1), .v (.int .i64 a2)][0 + Int.toNat 0 * 1]?) = a0 := rfl
  have e3 : (iv [.v (.int .i64 a3), .v (.int .i64 a4), .v (.int .i64 a5)][0 + Int.toNat 2 * 1]?) = a5 := rfl
  have e4 : (iv [.v (.int .i64 a3), .v (.int .i64 a4), .v (.int .i64 a5)][0 + Int.toNat 0 * 1]?) = a3 := rfl
  rw [e1, e2, e3, e4, p2, p3, q2, q3]
  refine bp n1 ?_
  rw [n2, n3]
  refine bp s1 ?_
  rw [s2, s3]
  refine bp c1 ?_
  rw [c2, c3]
theorem a_Cross_2 (F : Nat) {a0 a1 a2 a3 a4 a5 : Int} (h0 : I64 a0) (h1 : I64 a1) (h2 : I64 a2) (h3 : I64 a3) (h4 : I64 a4) (h5 : I64 a5) : ok_h F 2 a0 a1 a2 a3 a4 a5 = true ∧ o_h_0 F 2 a0 a1 a2 a3 a4 a5 = clipV (arZ a0 a4 a1 a3) ∧ o_h_1 F 2 a0 a1 a2 a3 a4 a5 = clipC (arZ a0 a4 a1 a3) := by
  refine k_h F _ _ _ _ _ _ _ ?_
  unfold f_h fg_h
  obtain ⟨p1, p2, p3⟩ := a_product F h0 h4
  obtain ⟨q1, q2, q3⟩ := a_product F h1 h3
  obtain ⟨n1, n2, n3⟩ := a_Neg F (pr a1 a3)
  obtain ⟨s1, s2, s3⟩ := a_Add F (pr a0 a4) (-pr a1 a3)
  obtain ⟨c1, c2, c3⟩ := a_vclip F (ar_W h0 h4 h1 h3)
  unfold arZ at c1 c2 c3 ⊢
  rw [Int.sub_eq_add_neg] at c1 c2 c3 ⊢
  have w1 : Int.tmod (IntKind.wrap .i64 (2 + 1)) 3 = 0 := by decide
  have w2 : Int.tmod (IntKind.wrap .i64 (2 + 2)) 3 = 1 := by decide
  rw [w1, w2]
  refine bp rfl (bp rfl (bp rfl (bp rfl (bp p1 (bp rfl (bp rfl (bp rfl (bp rfl (bp q1 ?_)))))))))
  have e1 : (iv [.v (.int .i64 a0), .v (.int .i64 a1), .v (.int .i64 a2)][0 + Int.toNat 0 * 1]?) = a0 := rfl
  have e2 : (iv [.v (.int .i64 a0), .v (.int .i64 a1), .v (.int .i64 a2)][0 + Int.toNat 1 * 1]?) = a1 := rfl
  have e3 : (iv [.v (.int .i64 a3), .v (.int .i64 a4), .v (.int .i64 a5)][0 + Int.toNat 0 * 1]?) = a3 := rfl
  have e4 : (iv [.v (.int .i64 a3), .v (.int .i64 a4), .v (.int .i64 a5)][0 + Int.toNat 1 * 1]?) = a4 := rfl
  rw [e1, e2, e3, e4, p2, p3, q2, q3]
  refine bp n1 ?_
  rw [n2, n3]
  refine bp s1 ?_
  rw [s2, s3]
  refine bp c1 ?_
  rw [c2, c3]
theorem a_Cross (F : Nat) (hF : 200 ≤ F) {a0 a1 a2 a3 a4 a5 : Int} (h0 : I64 a0) (h1 : I64 a1) (h2 : I64 a2) (h3 : I64 a3) (h4 : I64 a4) (h5 : I64 a5) : ok_aa F a0 a1 a2 a3 a4 a5 = true ∧ o_aa_0 F a0 a1 a2 a3 a4 a5 = clipV (arZ a1 a5 a2 a4) ∧ o_h F a0 a1 a2 a3 a4 a5 = clipV (arZ a2 a3 a0 a5) ∧ o_aa_2 F a0 a1 a2 a3 a4 a5 = clipV (arZ a0 a4 a1 a3) ∧ o_aa_3 F a0 a1 a2 a3 a4 a5 = (clipC (arZ a1 a5 a2 a4) || clipC (arZ a2 a3 a0 a5) || clipC (arZ a0 a4 a1 a3)) := by
  refine k_aa F _ _ _ _ _ _ ?_
  unfold f_aa fg_aa
  obtain ⟨e1, e2, e3, e4, e5⟩ := k_o F _ _ _ _ _ _ (f_vec_eachv1' F hF (a_Cross_0 F h0 h1 h2 h3 h4 h5) (a_Cross_1 F h0 h1 h2 h3 h4 h5) (a_Cross_2 F h0 h1 h2 h3 h4 h5))
  refine bp e1 ?_
  rw [e2, e3, e4, e5]
theorem a_Sub (F : Nat) (hF : 200 ≤ F) {a0 a1 a2 a3 a4 a5 : Int} (h0 : I64 a0) (h1 : I64 a1) (h2 : I64 a2) (h3 : I64 a3) (h4 : I64 a4) (h5 : I64 a5) : ok_za F a0 a1 a2 a3 a4 a5 = true ∧ o_za_0 F a0 a1 a2 a3 a4 a5 = clipV (a0 - a3) ∧ o_ca F a0 a1 a2 a3 a4 a5 = clipV (a1 - a4) ∧ o_za_2 F a0 a1 a2 a3 a4 a5 = clipV (a2 - a5) ∧ o_za_3 F a0 a1 a2 a3 a4 a5 = (clipC (a0 - a3) || clipC (a1 - a4) || clipC (a2 - a5)) := by
  refine k_za F _ _ _ _ _ _ ?_
  unfold f_za fg_za
  obtain ⟨e1, e2, e3, e4, e5⟩ := k_q F _ _ _ _ _ _ (f_vec_eachv3' F hF (a_Sub_0 F h0 h3) (a_Sub_1 F h1 h4) (a_Sub_2 F h2 h5))
  refine bp e1 ?_
  rw [e2, e3, e4, e5]
theorem a_Scale (F : Nat) (hF : 200 ≤ F) {a0 a1 a2 a3 : Int} (h0 : I64 a0) (h1 : I64 a1) (h2 : I64 a2) (h3 : I64 a3) : ok_ba F a0 a1 a2 a3 = true ∧ o_ba_0 F a0 a1 a2 a3 = clipV (pr a0 a3) ∧ o_i F a0 a1 a2 a3 = clipV (pr a1 a3) ∧ o_ba_2 F a0 a1 a2 a3 = clipV (pr a2 a3) ∧ o_ba_3 F a0 a1 a2 a3 = (clipC (pr a0 a3) || clipC (pr a1 a3) || clipC (pr a2 a3)) := by
  refine k_ba F _ _ _ _ ?_
  unfold f_ba fg_ba
  obtain ⟨e1, e2, e3, e4, e5⟩ := k_r F _ _ _ _ (f_vec_eachv4' F hF (a_Scale_0 F h0 h3) (a_Scale_1 F h1 h3) (a_Scale_2 F h2 h3))
  refine bp e1 ?_
  rw [e2, e3, e4, e5]
  simp only [pr_near]
theorem sz_U {a : Int} (h : I64 a) : U64 (sz a) := by unfold sz; unfold I64 at h; unfold U64; split <;> omega
theorem sz_sq (a : Int) : sz a * sz a = a * a := by
  unfold sz
  split
  · rw [Int.neg_mul_neg]
  · rfl
theorem a_vbare (F : Nat) {a : Int} (h : I64 a) : ok_na F a = true ∧ o_na_0 F a = sz a := by
  refine k_na F _ ?_
  unfold f_na fg_na sz
  unfold I64 at h
  by_cases hs : a < 0
  · refine bp (dt hs) ?_
    rw [if_pos hs, wu64, wu64]
    congr 3
    omega
  · refine bn (df hs) ?_
    rw [if_neg hs, wu64]
    congr 3
    omega
def sq3 (a b c : Int) : Int := a * a + b * b + c * c
noncomputable def lenV (z : Int) : Int := if z < 85070591730234615865843651857942052864 then rt z else 9223372036854775807
def lenC (z : Int) : Bool := decide (85070591730234615865843651857942052864 ≤ z)
theorem sq_bd64 {a : Int} (h : I64 a) : 0 ≤ a * a ∧ a * a ≤ 85070591730234615865843651857942052864 := by
  have h1 := sz_sq a
  have h2 : 0 ≤ sz a ∧ sz a ≤ 9223372036854775808 := by unfold sz; unfold I64 at h; split <;> omega
  have h3 := sq_le h2.1 h2.2
  have h4 := Int.mul_nonneg h2.1 h2.1
  omega
theorem rt_small {z : Int} (h0 : 0 ≤ z) : (rt z ≤ 9223372036854775807) ↔ z < 85070591730234615865843651857942052864 := by
  obtain ⟨h1, h2, h3⟩ := rt_spec h0
  constructor
  · intro h
    have := sq_le (x := rt z + 1) (y := 9223372036854775808) (by omega) (by omega)
    omega
  · intro h
    rcases Int.lt_or_le 9223372036854775807 (rt z) with hl | hl
    · have := sq_le (x := 9223372036854775808) (y := rt z) (by omega) (by omega)
      omega
    · exact hl
theorem len_some {n : Int} {c : Bool} {z : Int} (h : n = lenV z) (k : c = lenC z) : (some (VV.v (.tuple #[.int .i64 n, .bool c])) : R) = some (.v (.tuple #[.int .i64 (lenV z), .bool (lenC z)])) := by rw [h, k]
theorem len_big {z : Int} (h : 170141183460469231731687303715884105728 ≤ z) : (some (VV.v (.tuple #[.int .i64 9223372036854775807, .bool true])) : R) = some (.v (.tuple #[.int .i64 (lenV z), .bool (lenC z)])) := by
  refine len_some ?_ ?_
  · unfold lenV; rw [if_neg (by omega)]
  · unfold lenC; rw [dt (by omega)]
theorem hi_neg {z : Int} (h0 : 0 ≤ z) (h1 : z < 340282366920938463463374607431768211456) : (170141183460469231731687303715884105728 ≤ z ↔ W z < 0) := by unfold W; omega
end Go.Xv
namespace Go.Xv
theorem a_Sgn (F : Nat) {z : Int} (h0 : 0 ≤ z) (h1 : z < 340282366920938463463374607431768211456) : ok_ha F (hi z) (lo z) = true ∧ decide (o_ha_0 F (hi z) (lo z) < 0) = decide (170141183460469231731687303715884105728 ≤ z) := by
  obtain ⟨e1, e2⟩ := k_ha F _ _ (f_Sign F (a := hi z) (lo_U z))
  refine ⟨e1, ?_⟩
  rw [e2, val_hl]
  have := hi_neg h0 h1
  rw [Bool.eq_iff_iff]
  simp only [decide_eq_true_eq]
  split
  · omega
  · split <;> omega
theorem a_rootW (F : Nat) (hF : 200 ≤ F) {z : Int} (h0 : 0 ≤ z) (h1 : z < 170141183460469231731687303715884105728) : ok_x F (hi z) (lo z) = true ∧ o_x_0 F (hi z) (lo z) = rt z := by
  have h := f_rootWide F hF (hi_I z) (lo_U z)
  rw [val_hl, W_in (by unfold W128; omega)] at h
  unfold rootR at h
  rw [if_neg (by omega)] at h
  obtain ⟨e1, e2, _⟩ := k_x F _ _ h
  exact ⟨e1, e2⟩
theorem len_end {z : Int} (h0 : 0 ≤ z) : (bif decide (rt z > 9223372036854775807) then (some (.v (.tuple #[.int .i64 9223372036854775807, .bool true])) : R) else some (.v (.tuple #[.int .i64 (IntKind.wrap .i64 (rt z)), .bool false]))) = some (.v (.tuple #[.int .i64 (lenV z), .bool (lenC z)])) := by
  have hs := rt_small h0
  have hr := (rt_spec h0).1
  by_cases h : z < 85070591730234615865843651857942052864
  · refine bn (df (by have := hs.2 h; omega)) (len_some ?_ ?_)
    · unfold lenV; rw [if_pos h, wi64_in (by have := hs.2 h; unfold I64; omega)]
    · unfold lenC; rw [df (by omega)]
  · refine bp (dt ?_) (len_some ?_ ?_)
    · rcases Int.lt_or_le 9223372036854775807 (rt z) with hl | hl
      · exact hl
      · exact absurd (hs.1 hl) h
    · unfold lenV; rw [if_neg h]
    · unfold lenC; rw [dt (by omega)]
theorem f_Length (F : Nat) (hF : 200 ≤ F) {a b c : Int} (ha : I64 a) (hb : I64 b) (hc : I64 c) : f_m F a b c = some (.v (.tuple #[.int .i64 (lenV (sq3 a b c)), .bool (lenC (sq3 a b c))])) := by
  obtain ⟨p1, p2⟩ := a_vbare F ha
  obtain ⟨q1, q2⟩ := a_vbare F hb
  obtain ⟨r1, r2⟩ := a_vbare F hc
  obtain ⟨s1, s2, s3⟩ := a_Square F (sz_U ha)
  obtain ⟨t1, t2, t3⟩ := a_Square F (sz_U hb)
  obtain ⟨u1, u2, u3⟩ := a_Square F (sz_U hc)
  rw [sz_sq] at s2 s3 t2 t3 u2 u3
  have ba := sq_bd64 ha
  have bb := sq_bd64 hb
  have bc := sq_bd64 hc
  obtain ⟨v1, v2, v3⟩ := a_Add F 0 (a * a)
  obtain ⟨w1, w2, w3⟩ := a_Add F (a * a) (b * b)
  obtain ⟨x1, x2, x3⟩ := a_Add F (a * a + b * b) (c * c)
  rw [Int.zero_add] at v2 v3
  have v1' : ok_pa F 0 0 (hi (a * a)) (lo (a * a)) = true := v1
  have v2' : o_pa_0 F 0 0 (hi (a * a)) (lo (a * a)) = hi (a * a) := v2
  have v3' : o_pa_1 F 0 0 (hi (a * a)) (lo (a * a)) = lo (a * a) := v3
  obtain ⟨g1, g2⟩ := a_Sgn F (z := a * a) (by omega) (by omega)
  obtain ⟨i1, i2⟩ := a_Sgn F (z := a * a + b * b) (by omega) (by omega)
  obtain ⟨j1, j2⟩ := a_Sgn F (z := a * a + b * b + c * c) (by omega) (by omega)
  obtain ⟨G, hG⟩ : ∃ G, F = G + 4 := ⟨F - 4, by omega⟩
  have y1 : IntKind.wrap .i64 (0 + 1) = 1 := by decide
  have y2 : IntKind.wrap .i64 (1 + 1) = 2 := by decide
  have y3 : IntKind.wrap .i64 (2 + 1) = 3 := by decide
  unfold f_m fg_m
  rw [show L_m_0 F _ _ F = L_m_0 F _ _ (G + 4) from congrArg (L_m_0 F _ _) hG, L_m_0]
  unfold B_m_0 Bg_m_0
  have e0 : (iv [.v (.int .i64 a), .v (.int .i64 b), .v (.int .i64 c)][Int.toNat 0 * 1]?) = a := rfl
  have e1 : (iv [.v (.int .i64 a), .v (.int .i64 b), .v (.int .i64 c)][Int.toNat 1 * 1]?) = b := rfl
  have e2 : (iv [.v (.int .i64 a), .v (.int .i64 b), .v (.int .i64 c)][Int.toNat 2 * 1]?) = c := rfl
  refine bp rfl (bp rfl ?_)
  rw [e0]
  refine bp p1 ?_
  rw [p2]
  refine bp s1 ?_
  rw [s2, s3]
  refine bp v1' ?_
  rw [v2', v3']
  refine bp g1 ?_
  rw [g2]
  refine bn (df (by omega)) ?_
  rw [y1, L_m_0]
  unfold B_m_0 Bg_m_0
  refine bp rfl (bp rfl ?_)
  rw [e1]
  refine bp q1 ?_
  rw [q2]
  refine bp t1 ?_
  rw [t2, t3]
  refine bp w1 ?_
  rw [w2, w3]
  refine bp i1 ?_
  rw [i2]
  by_cases hz : 170141183460469231731687303715884105728 ≤ a * a + b * b
  · exact bp (dt hz) (len_big (by unfold sq3; omega))
  · refine bn (df hz) ?_
    rw [y2, L_m_0]
    unfold B_m_0 Bg_m_0
    refine bp rfl (bp rfl ?_)
    rw [e2]
    refine bp r1 ?_
    rw [r2]
    refine bp u1 ?_
    rw [u2, u3]
    refine bp x1 ?_
    rw [x2, x3]
    refine bp j1 ?_
    rw [j2]
    by_cases hz2 : 170141183460469231731687303715884105728 ≤ a * a + b * b + c * c
    · exact bp (dt hz2) (len_big (by unfold sq3; omega))
    · refine bn (df hz2) ?_
      rw [y3, L_m_0]
      unfold B_m_0 Bg_m_0
      refine bn rfl ?_
      obtain ⟨k1, k2⟩ := a_rootW F hF (z := a * a + b * b + c * c) (by omega) (by omega)
      refine bp k1 ?_
      rw [k2]
      exact len_end (z := a * a + b * b + c * c) (by omega)
theorem a_Length (F : Nat) (hF : 200 ≤ F) {a b c : Int} (ha : I64 a) (hb : I64 b) (hc : I64 c) : ok_m F a b c = true ∧ o_m_0 F a b c = lenV (sq3 a b c) ∧ o_m_1 F a b c = lenC (sq3 a b c) := k_m F _ _ _ (f_Length F hF ha hb hc)
/-- the greatest axis -/
def gr3 (a b c : Int) : Int := min (max (sz a) (max (sz b) (sz c))) 9223372036854775807
theorem f_Greatest (F : Nat) (hF : 200 ≤ F) {a b c : Int} (ha : I64 a) (hb : I64 b) (hc : I64 c) : f_c F a b c = some (.v (.int .i64 (gr3 a b c))) := by
  obtain ⟨p1, p2⟩ := a_vbare F ha
  obtain ⟨q1, q2⟩ := a_vbare F hb
  obtain ⟨r1, r2⟩ := a_vbare F hc
  have ua := sz_U ha
  have ub := sz_U hb
  have uc := sz_U hc
  obtain ⟨G, hG⟩ : ∃ G, F = G + 4 := ⟨F - 4, by omega⟩
  have y1 : IntKind.wrap .i64 (0 + 1) = 1 := by decide
  have y2 : IntKind.wrap .i64 (1 + 1) = 2 := by decide
  have y3 : IntKind.wrap .i64 (2 + 1) = 3 := by decide
  unfold f_c fg_c
  rw [show L_c_0 F _ F = L_c_0 F _ (G + 4) from congrArg (L_c_0 F _) hG, L_c_0]
  unfold B_c_0 Bg_c_0
  have e0 : (iv [.v (.int .i64 a), .v (.int .i64 b), .v (.int .i64 c)][Int.toNat 0 * 1]?) = a := rfl
  have e1 : (iv [.v (.int .i64 a), .v (.int .i64 b), .v (.int .i64 c)][Int.toNat 1 * 1]?) = b := rfl
  have e2 : (iv [.v (.int .i64 a), .v (.int .i64 b), .v (.int .i64 c)][Int.toNat 2 * 1]?) = c := rfl
  refine bp rfl (bp rfl ?_)
  rw [e0]
  refine bp p1 ?_
  rw [p2, y1, L_c_0]
  unfold B_c_0 Bg_c_0
  refine bp rfl (bp rfl ?_)
  rw [e1]
  refine bp q1 ?_
  rw [q2, y2, L_c_0]
  unfold B_c_0 Bg_c_0
  refine bp rfl (bp rfl ?_)
  rw [e2]
  refine bp r1 ?_
  rw [r2, y3, L_c_0]
  unfold B_c_0 Bg_c_0
  refine bn rfl (some_int ?_)
  unfold U64 at ua ub uc
  rw [mx, mx, mx]
  have em : max (max (max 0 (sz a)) (sz b)) (sz c) = max (sz a) (max (sz b) (sz c)) := by omega
  rw [em]
  unfold gr3
  generalize max (sz a) (max (sz b) (sz c)) = m at *
  have hm : (if 9223372036854775807 < m then 9223372036854775807 else m) = min m 9223372036854775807 := by split <;> omega
  rw [hm, wi64_in]
  unfold I64; omega
theorem a_Greatest (F : Nat) (hF : 200 ≤ F) {a b c : Int} (ha : I64 a) (hb : I64 b) (hc : I64 c) : ok_c F a b c = true ∧ o_c_0 F a b c = gr3 a b c := k_c F _ _ _ (f_Greatest F hF ha hb hc)
/-- over the length -/
noncomputable def unitOK (a b c : Int) : Bool := !decide (lenV (sq3 a b c) = 0) && !lenC (sq3 a b c)
noncomputable def unV (k a b c : Int) : Int := if unitOK a b c = true then fdivV k (lenV (sq3 a b c)) else 0
theorem len_I {z : Int} (h : 0 ≤ z) : 0 ≤ lenV z ∧ I64 (lenV z) := by
  have h1 := (rt_spec h).1
  unfold lenV I64
  by_cases hz : z < 85070591730234615865843651857942052864
  · have := (rt_small h).2 hz
    rw [if_pos hz]; omega
  · rw [if_neg hz]; omega
theorem sq3_nn {a b c : Int} (ha : I64 a) (hb : I64 b) (hc : I64 c) : 0 ≤ sq3 a b c := by
  have := sq_bd64 ha
  have := sq_bd64 hb
  have := sq_bd64 hc
  unfold sq3; omega
theorem some_un {x y z x' y' z' : Int} {c c' : Bool} (h1 : x = x') (h2 : y = y') (h3 : z = z') (h4 : c = c') : (some (VV.v (.tuple #[.agg #[.int .i64 x, .int .i64 y, .int .i64 z], .bool c])) : R) = some (.v (.tuple #[.agg #[.int .i64 x', .int .i64 y', .int .i64 z'], .bool c'])) := by rw [h1, h2, h3, h4]
theorem f_Unit (F : Nat) (hF : 200 ≤ F) {a b c : Int} (ha : I64 a) (hb : I64 b) (hc : I64 c) : f_ma F a b c = some (.v (.tuple #[.agg #[.int .i64 (unV a a b c), .int .i64 (unV b a b c), .int .i64 (unV c a b c)], .bool (unitOK a b c)])) := by
  unfold f_ma fg_ma
  obtain ⟨l1, l2, l3⟩ := a_Length F hF ha hb hc
  have hl := len_I (sq3_nn ha hb hc)
  obtain ⟨e1, e2, e3, e4, e5⟩ := k_p F _ _ _ _ (f_vec_eachv2' F hF (a_Unit_0 F hF (a1 := b) (a2 := c) ha hl.2) (a_Unit_1 F hF (a0 := a) (a2 := c) hb hl.2) (a_Unit_2 F hF (a0 := a) (a1 := b) hc hl.2))
  refine bp l1 ?_
  rw [l2, l3]
  unfold unV unitOK
  generalize lenV (sq3 a b c) = n at *
  generalize lenC (sq3 a b c) = k at *
  by_cases h0 : n = 0
  · refine bp (by simp [h0]) (some_un ?_ ?_ ?_ ?_) <;> simp [h0]
  · refine bn (by simp [h0]) ?_
    cases k
    · refine bn rfl (bp e1 (some_un ?_ ?_ ?_ ?_))
      · rw [e2]; simp [h0]
      · rw [e3]; simp [h0]
      · rw [e4]; simp [h0]
      · simp [h0]
    · refine bp rfl (some_un ?_ ?_ ?_ ?_) <;> simp
theorem a_vUnit (F : Nat) (hF : 200 ≤ F) {a b c : Int} (ha : I64 a) (hb : I64 b) (hc : I64 c) : ok_ma F a b c = true ∧ o_ma_0 F a b c = unV a a b c ∧ o_n F a b c = unV b a b c ∧ o_ma_2 F a b c = unV c a b c ∧ o_ma_3 F a b c = unitOK a b c := k_ma F _ _ _ (f_Unit F hF ha hb hc)
end Go.Xv
namespace Go.Xv
theorem dot_turn (a0 a1 a2 a3 a4 a5 : Int) : dotZ a3 a4 a5 a0 a1 a2 = dotZ a0 a1 a2 a3 a4 a5 := by unfold dotZ; rw [pr_comm a3, pr_comm a4, pr_comm a5]
theorem a_mSame (F : Nat) (hF : 200 ≤ F) : ok_la F = true ∧ o_la_0 F = 4294967296 ∧ o_la_1 F = 0 ∧ o_la_2 F = 0 ∧ o_la_3 F = 0 ∧ o_la_4 F = 4294967296 ∧ o_la_5 F = 0 ∧ o_la_6 F = 0 ∧ o_la_7 F = 0 ∧ o_la_8 F = 4294967296 := by
  refine k_la F ?_
  obtain ⟨G, rfl⟩ : ∃ G, F = G + 4 := ⟨F - 4, by omega⟩
  kernel_rfl
theorem a_mBack (F : Nat) (hF : 200 ≤ F) (a0 a1 a2 a3 a4 a5 a6 a7 a8 : Int) : ok_ka F a0 a1 a2 a3 a4 a5 a6 a7 a8 = true ∧ o_ka_0 F a0 a1 a2 a3 a4 a5 a6 a7 a8 = a0 ∧ o_ka_1 F a0 a1 a2 a3 a4 a5 a6 a7 a8 = a3 ∧ o_ka_2 F a0 a1 a2 a3 a4 a5 a6 a7 a8 = a6 ∧ o_ka_3 F a0 a1 a2 a3 a4 a5 a6 a7 a8 = a1 ∧ o_ka_4 F a0 a1 a2 a3 a4 a5 a6 a7 a8 = a4 ∧ o_ka_5 F a0 a1 a2 a3 a4 a5 a6 a7 a8 = a7 ∧ o_ka_6 F a0 a1 a2 a3 a4 a5 a6 a7 a8 = a2 ∧ o_ka_7 F a0 a1 a2 a3 a4 a5 a6 a7 a8 = a5 ∧ o_ka_8 F a0 a1 a2 a3 a4 a5 a6 a7 a8 = a8 := by
  refine k_ka F _ _ _ _ _ _ _ _ _ ?_
  obtain ⟨G, rfl⟩ : ∃ G, F = G + 4 := ⟨F - 4, by omega⟩
  kernel_rfl
theorem f_Apply' (F : Nat) (hF : 200 ≤ F) {a0 a1 a2 a3 a4 a5 a6 a7 a8 u0 u1 u2 : Int} {p0 p1 p2 : Int} {c0 c1 c2 : Bool} (d0 : ok_ya F a0 a1 a2 u0 u1 u2 = true ∧ o_ya_0 F a0 a1 a2 u0 u1 u2 = p0 ∧ o_ya_1 F a0 a1 a2 u0 u1 u2 = c0) (d1 : ok_ya F a3 a4 a5 u0 u1 u2 = true ∧ o_ya_0 F a3 a4 a5 u0 u1 u2 = p1 ∧ o_ya_1 F a3 a4 a5 u0 u1 u2 = c1) (d2 : ok_ya F a6 a7 a8 u0 u1 u2 = true ∧ o_ya_0 F a6 a7 a8 u0 u1 u2 = p2 ∧ o_ya_1 F a6 a7 a8 u0 u1 u2 = c2) :
    f_v F a0 a1 a2 a3 a4 a5 a6 a7 a8 u0 u1 u2 = some (.v (.tuple #[.agg #[.int .i64 p0, .int .i64 p1, .int .i64 p2], .bool (c0 || c1 || c2)])) := by
  obtain ⟨d01, d02, d03⟩ := d0
  obtain ⟨d11, d12, d13⟩ := d1
  obtain ⟨d21, d22, d23⟩ := d2
  have w1 : IntKind.wrap .i64 (0 + 1) = 1 := by decide
  have w2 : IntKind.wrap .i64 (1 + 1) = 2 := by decide
  have w3 : IntKind.wrap .i64 (2 + 1) = 3 := by decide
  unfold f_v fg_v
  obtain ⟨G, hG⟩ : ∃ G, F = G + 4 := ⟨F - 4, by omega⟩
  rw [show L_v_0 F _ F = L_v_0 F _ (G + 4) from congrArg (L_v_0 F _) hG]
  have e00 : (iv [.v (.int .i64 a0), .v (.int .i64 a1), .v (.int .i64 a2), .v (.int .i64 a3), .v (.int .i64 a4), .v (.int .i64 a5), .v (.int .i64 a6), .v (.int .i64 a7), .v (.int .i64 a8)][Int.toNat 0 * 3]?) = a0 := rfl
  have e01 : (iv [.v (.int .i64 a0), .v (.int .i64 a1), .v (.int .i64 a2), .v (.int .i64 a3), .v (.int .i64 a4), .v (.int .i64 a5), .v (.int .i64 a6), .v (.int .i64 a7), .v (.int .i64 a8)][Int.toNat 0 * 3 + 1]?) = a1 := rfl
  have e02 : (iv [.v (.int .i64 a0), .v (.int .i64 a1), .v (.int .i64 a2), .v (.int .i64 a3), .v (.int .i64 a4), .v (.int .i64 a5), .v (.int .i64 a6), .v (.int .i64 a7), .v (.int .i64 a8)][Int.toNat 0 * 3 + 1 + 1]?) = a2 := rfl
  have e10 : (iv [.v (.int .i64 a0), .v (.int .i64 a1), .v (.int .i64 a2), .v (.int .i64 a3), .v (.int .i64 a4), .v (.int .i64 a5), .v (.int .i64 a6), .v (.int .i64 a7), .v (.int .i64 a8)][Int.toNat 1 * 3]?) = a3 := rfl
  have e11 : (iv [.v (.int .i64 a0), .v (.int .i64 a1), .v (.int .i64 a2), .v (.int .i64 a3), .v (.int .i64 a4), .v (.int .i64 a5), .v (.int .i64 a6), .v (.int .i64 a7), .v (.int .i64 a8)][Int.toNat 1 * 3 + 1]?) = a4 := rfl
  have e12 : (iv [.v (.int .i64 a0), .v (.int .i64 a1), .v (.int .i64 a2), .v (.int .i64 a3), .v (.int .i64 a4), .v (.int .i64 a5), .v (.int .i64 a6), .v (.int .i64 a7), .v (.int .i64 a8)][Int.toNat 1 * 3 + 1 + 1]?) = a5 := rfl
  have e20 : (iv [.v (.int .i64 a0), .v (.int .i64 a1), .v (.int .i64 a2), .v (.int .i64 a3), .v (.int .i64 a4), .v (.int .i64 a5), .v (.int .i64 a6), .v (.int .i64 a7), .v (.int .i64 a8)][Int.toNat 2 * 3]?) = a6 := rfl
  have e21 : (iv [.v (.int .i64 a0), .v (.int .i64 a1), .v (.int .i64 a2), .v (.int .i64 a3), .v (.int .i64 a4), .v (.int .i64 a5), .v (.int .i64 a6), .v (.int .i64 a7), .v (.int .i64 a8)][Int.toNat 2 * 3 + 1]?) = a7 := rfl
  have e22 : (iv [.v (.int .i64 a0), .v (.int .i64 a1), .v (.int .i64 a2), .v (.int .i64 a3), .v (.int .i64 a4), .v (.int .i64 a5), .v (.int .i64 a6), .v (.int .i64 a7), .v (.int .i64 a8)][Int.toNat 2 * 3 + 1 + 1]?) = a8 := rfl
  rw [L_v_0]
  unfold B_v_0 Bg_v_0
  refine bp rfl (bp rfl ?_)
  rw [e00, e01, e02]
  refine bp d01 ?_
  rw [d02, d03]
  refine bn rfl (bp rfl (bp rfl ?_))
  rw [w1]
  cases c0
  · rw [L_v_0]
    unfold B_v_0 Bg_v_0
    refine bp rfl (bp rfl ?_)
    rw [e10, e11, e12]
    refine bp d11 ?_
    rw [d12, d13]
    refine bn rfl (bp rfl (bp rfl ?_))
    rw [w2]
    cases c1
    · rw [L_v_0]
      unfold B_v_0 Bg_v_0
      refine bp rfl (bp rfl ?_)
      rw [e20, e21, e22]
      refine bp d21 ?_
      rw [d22, d23]
      refine bn rfl (bp rfl (bp rfl ?_))
      rw [w3]
      rw [L_v_0]
      unfold B_v_0 Bg_v_0
      exact bn rfl (bp rfl rfl)
    · rw [L_v_0]
      unfold B_v_0 Bg_v_0
      refine bp rfl (bp rfl ?_)
      rw [e20, e21, e22]
      refine bp d21 ?_
      rw [d22]
      refine bp rfl (bp rfl (bp rfl ?_))
      rw [w3]
      rw [L_v_0]
      unfold B_v_0 Bg_v_0
      exact bn rfl (bp rfl rfl)
  · rw [L_v_0]
    unfold B_v_0 Bg_v_0
    refine bp rfl (bp rfl ?_)
    rw [e10, e11, e12]
    refine bp d11 ?_
    rw [d12]
    refine bp rfl (bp rfl (bp rfl ?_))
    rw [w2]
    rw [L_v_0]
    unfold B_v_0 Bg_v_0
    refine bp rfl (bp rfl ?_)
    rw [e20, e21, e22]
    refine bp d21 ?_
    rw [d22]
    refine bp rfl (bp rfl (bp rfl ?_))
    rw [w3]
    rw [L_v_0]
    unfold B_v_0 Bg_v_0
    exact bn rfl (bp rfl rfl)
theorem a_mApply (F : Nat) (hF : 200 ≤ F) {a0 a1 a2 a3 a4 a5 a6 a7 a8 u0 u1 u2 : Int} (ha0 : I64 a0) (ha1 : I64 a1) (ha2 : I64 a2) (ha3 : I64 a3) (ha4 : I64 a4) (ha5 : I64 a5) (ha6 : I64 a6) (ha7 : I64 a7) (ha8 : I64 a8) (hu0 : I64 u0) (hu1 : I64 u1) (hu2 : I64 u2) : ok_v F a0 a1 a2 a3 a4 a5 a6 a7 a8 u0 u1 u2 = true ∧ o_v_0 F a0 a1 a2 a3 a4 a5 a6 a7 a8 u0 u1 u2 = clipV (dotZ a0 a1 a2 u0 u1 u2) ∧ o_v_1 F a0 a1 a2 a3 a4 a5 a6 a7 a8 u0 u1 u2 = clipV (dotZ a3 a4 a5 u0 u1 u2) ∧ o_v_2 F a0 a1 a2 a3 a4 a5 a6 a7 a8 u0 u1 u2 = clipV (dotZ a6 a7 a8 u0 u1 u2) ∧ o_v_3 F a0 a1 a2 a3 a4 a5 a6 a7 a8 u0 u1 u2 = (clipC (dotZ a0 a1 a2 u0 u1 u2) || clipC (dotZ a3 a4 a5 u0 u1 u2) || clipC (dotZ a6 a7 a8 u0 u1 u2)) :=
  k_v F _ _ _ _ _ _ _ _ _ _ _ _ (f_Apply' F hF (a_Dot F hF ha0 ha1 ha2 hu0 hu1 hu2) (a_Dot F hF ha3 ha4 ha5 hu0 hu1 hu2) (a_Dot F hF ha6 ha7 ha8 hu0 hu1 hu2))
theorem f_Mul' (F : Nat) (hF : 200 ≤ F) {a0 a1 a2 a3 a4 a5 a6 a7 a8 b0 b1 b2 b3 b4 b5 b6 b7 b8 : Int} {p0 p1 p2 p3 p4 p5 p6 p7 p8 : Int} {c0 c1 c2 : Bool} (d0 : ok_v F b0 b3 b6 b1 b4 b7 b2 b5 b8 a0 a1 a2 = true ∧ o_v_0 F b0 b3 b6 b1 b4 b7 b2 b5 b8 a0 a1 a2 = p0 ∧ o_v_1 F b0 b3 b6 b1 b4 b7 b2 b5 b8 a0 a1 a2 = p1 ∧ o_v_2 F b0 b3 b6 b1 b4 b7 b2 b5 b8 a0 a1 a2 = p2 ∧ o_v_3 F b0 b3 b6 b1 b4 b7 b2 b5 b8 a0 a1 a2 = c0) (d1 : ok_v F b0 b3 b6 b1 b4 b7 b2 b5 b8 a3 a4 a5 = true ∧ o_v_0 F b0 b3 b6 b1 b4 b7 b2 b5 b8 a3 a4 a5 = p3 ∧ o_v_1 F b0 b3 b6 b1 b4 b7 b2 b5 b8 a3 a4 a5 = p4 ∧ o_v_2 F b0 b3 b6 b1 b4 b7 b2 b5 b8 a3 a4 a5 = p5 ∧ o_v_3 F b0 b3 b6 b1 b4 b7 b2 b5 b8 a3 a4 a5 = c1) (d2 : ok_v F b0 b3 b6 b1 b4 b7 b2 b5 b8 a6 a7 a8 = true ∧ o_v_0 F b0 b3 b6 b1 b4 b7 b2 b5 b8 a6 a7 a8 = p6 ∧ o_v_1 F b0 b3 b6 b1 b4 b7 b2 b5 b8 a6 a7 a8 = p7 ∧ o_v_2 F b0 b3 b6 b1 b4 b7 b2 b5 b8 a6 a7 a8 = p8 ∧ o_v_3 F b0 b3 b6 b1 b4 b7 b2 b5 b8 a6 a7 a8 = c2) :
    f_wa F a0 a1 a2 a3 a4 a5 a6 a7 a8 b0 b1 b2 b3 b4 b5 b6 b7 b8 = some (.v (.tuple #[.agg #[.int .i64 p0, .int .i64 p1, .int .i64 p2, .int .i64 p3, .int .i64 p4, .int .i64 p5, .int .i64 p6, .int .i64 p7, .int .i64 p8], .bool (c0 || c1 || c2)])) := by
  obtain ⟨d01, d02, d03, d04, d05⟩ := d0
  obtain ⟨d11, d12, d13, d14, d15⟩ := d1
  obtain ⟨d21, d22, d23, d24, d25⟩ := d2
  have w1 : IntKind.wrap .i64 (0 + 1) = 1 := by decide
  have w2 : IntKind.wrap .i64 (1 + 1) = 2 := by decide
  have w3 : IntKind.wrap .i64 (2 + 1) = 3 := by decide
  unfold f_wa fg_wa
  obtain ⟨b0_, bb0, bb1, bb2, bb3, bb4, bb5, bb6, bb7, bb8⟩ := a_mBack F hF b0 b1 b2 b3 b4 b5 b6 b7 b8
  refine bp b0_ ?_
  rw [bb0, bb1, bb2, bb3, bb4, bb5, bb6, bb7, bb8]
  obtain ⟨G, hG⟩ : ∃ G, F = G + 4 := ⟨F - 4, by omega⟩
  rw [show L_wa_0 F _ F = L_wa_0 F _ (G + 4) from congrArg (L_wa_0 F _) hG]
  have e00 : (iv [.v (.int .i64 a0), .v (.int .i64 a1), .v (.int .i64 a2), .v (.int .i64 a3), .v (.int .i64 a4), .v (.int .i64 a5), .v (.int .i64 a6), .v (.int .i64 a7), .v (.int .i64 a8)][Int.toNat 0 * 3]?) = a0 := rfl
  have e01 : (iv [.v (.int .i64 a0), .v (.int .i64 a1), .v (.int .i64 a2), .v (.int .i64 a3), .v (.int .i64 a4), .v (.int .i64 a5), .v (.int .i64 a6), .v (.int .i64 a7), .v (.int .i64 a8)][Int.toNat 0 * 3 + 1]?) = a1 := rfl
  have e02 : (iv [.v (.int .i64 a0), .v (.int .i64 a1), .v (.int .i64 a2), .v (.int .i64 a3), .v (.int .i64 a4), .v (.int .i64 a5), .v (.int .i64 a6), .v (.int .i64 a7), .v (.int .i64 a8)][Int.toNat 0 * 3 + 1 + 1]?) = a2 := rfl
  have e10 : (iv [.v (.int .i64 a0), .v (.int .i64 a1), .v (.int .i64 a2), .v (.int .i64 a3), .v (.int .i64 a4), .v (.int .i64 a5), .v (.int .i64 a6), .v (.int .i64 a7), .v (.int .i64 a8)][Int.toNat 1 * 3]?) = a3 := rfl
  have e11 : (iv [.v (.int .i64 a0), .v (.int .i64 a1), .v (.int .i64 a2), .v (.int .i64 a3), .v (.int .i64 a4), .v (.int .i64 a5), .v (.int .i64 a6), .v (.int .i64 a7), .v (.int .i64 a8)][Int.toNat 1 * 3 + 1]?) = a4 := rfl
  have e12 : (iv [.v (.int .i64 a0), .v (.int .i64 a1), .v (.int .i64 a2), .v (.int .i64 a3), .v (.int .i64 a4), .v (.int .i64 a5), .v (.int .i64 a6), .v (.int .i64 a7), .v (.int .i64 a8)][Int.toNat 1 * 3 + 1 + 1]?) = a5 := rfl
  have e20 : (iv [.v (.int .i64 a0), .v (.int .i64 a1), .v (.int .i64 a2), .v (.int .i64 a3), .v (.int .i64 a4), .v (.int .i64 a5), .v (.int .i64 a6), .v (.int .i64 a7), .v (.int .i64 a8)][Int.toNat 2 * 3]?) = a6 := rfl
  have e21 : (iv [.v (.int .i64 a0), .v (.int .i64 a1), .v (.int .i64 a2), .v (.int .i64 a3), .v (.int .i64 a4), .v (.int .i64 a5), .v (.int .i64 a6), .v (.int .i64 a7), .v (.int .i64 a8)][Int.toNat 2 * 3 + 1]?) = a7 := rfl
  have e22 : (iv [.v (.int .i64 a0), .v (.int .i64 a1), .v (.int .i64 a2), .v (.int .i64 a3), .v (.int .i64 a4), .v (.int .i64 a5), .v (.int .i64 a6), .v (.int .i64 a7), .v (.int .i64 a8)][Int.toNat 2 * 3 + 1 + 1]?) = a8 := rfl
  rw [L_wa_0]
  unfold B_wa_0 Bg_wa_0
  refine bp rfl (bp rfl ?_)
  rw [e00, e01, e02]
  refine bp d01 ?_
  rw [d02, d03, d04, d05]
  refine bn rfl (bp rfl (bp rfl ?_))
  rw [w1]
  cases c0
  · rw [L_wa_0]
    unfold B_wa_0 Bg_wa_0
    refine bp rfl (bp rfl ?_)
    rw [e10, e11, e12]
    refine bp d11 ?_
    rw [d12, d13, d14, d15]
    refine bn rfl (bp rfl (bp rfl ?_))
    rw [w2]
    cases c1
    · rw [L_wa_0]
      unfold B_wa_0 Bg_wa_0
      refine bp rfl (bp rfl ?_)
      rw [e20, e21, e22]
      refine bp d21 ?_
      rw [d22, d23, d24, d25]
      refine bn rfl (bp rfl (bp rfl ?_))
      rw [w3]
      rw [L_wa_0]
      unfold B_wa_0 Bg_wa_0
      exact bn rfl (bp rfl rfl)
    · rw [L_wa_0]
      unfold B_wa_0 Bg_wa_0
      refine bp rfl (bp rfl ?_)
      rw [e20, e21, e22]
      refine bp d21 ?_
      rw [d22, d23, d24]
      refine bp rfl (bp rfl (bp rfl ?_))
      rw [w3]
      rw [L_wa_0]
      unfold B_wa_0 Bg_wa_0
      exact bn rfl (bp rfl rfl)
  · rw [L_wa_0]
    unfold B_wa_0 Bg_wa_0
    refine bp rfl (bp rfl ?_)
    rw [e10, e11, e12]
    refine bp d11 ?_
    rw [d12, d13, d14]
    refine bp rfl (bp rfl (bp rfl ?_))
    rw [w2]
    rw [L_wa_0]
    unfold B_wa_0 Bg_wa_0
    refine bp rfl (bp rfl ?_)
    rw [e20, e21, e22]
    refine bp d21 ?_
    rw [d22, d23, d24]
    refine bp rfl (bp rfl (bp rfl ?_))
    rw [w3]
    rw [L_wa_0]
    unfold B_wa_0 Bg_wa_0
    exact bn rfl (bp rfl rfl)
theorem a_mMul (F : Nat) (hF : 200 ≤ F) {a0 a1 a2 a3 a4 a5 a6 a7 a8 b0 b1 b2 b3 b4 b5 b6 b7 b8 : Int} (ha0 : I64 a0) (ha1 : I64 a1) (ha2 : I64 a2) (ha3 : I64 a3) (ha4 : I64 a4) (ha5 : I64 a5) (ha6 : I64 a6) (ha7 : I64 a7) (ha8 : I64 a8) (hb0 : I64 b0) (hb1 : I64 b1) (hb2 : I64 b2) (hb3 : I64 b3) (hb4 : I64 b4) (hb5 : I64 b5) (hb6 : I64 b6) (hb7 : I64 b7) (hb8 : I64 b8) : ok_wa F a0 a1 a2 a3 a4 a5 a6 a7 a8 b0 b1 b2 b3 b4 b5 b6 b7 b8 = true ∧ o_wa_0 F a0 a1 a2 a3 a4 a5 a6 a7 a8 b0 b1 b2 b3 b4 b5 b6 b7 b8 = clipV (dotZ a0 a1 a2 b0 b3 b6) ∧ o_wa_1 F a0 a1 a2 a3 a4 a5 a6 a7 a8 b0 b1 b2 b3 b4 b5 b6 b7 b8 = clipV (dotZ a0 a1 a2 b1 b4 b7) ∧ o_wa_2 F a0 a1 a2 a3 a4 a5 a6 a7 a8 b0 b1 b2 b3 b4 b5 b6 b7 b8 = clipV (dotZ a0 a1 a2 b2 b5 b8) ∧ o_wa_3 F a0 a1 a2 a3 a4 a5 a6 a7 a8 b0 b1 b2 b3 b4 b5 b6 b7 b8 = clipV (dotZ a3 a4 a5 b0 b3 b6) ∧ o_wa_4 F a0 a1 a2 a3 a4 a5 a6 a7 a8 b0 b1 b2 b3 b4 b5 b6 b7 b8 = clipV (dotZ a3 a4 a5 b1 b4 b7) ∧ o_wa_5 F a0 a1 a2 a3 a4 a5 a6 a7 a8 b0 b1 b2 b3 b4 b5 b6 b7 b8 = clipV (dotZ a3 a4 a5 b2 b5 b8) ∧ o_wa_6 F a0 a1 a2 a3 a4 a5 a6 a7 a8 b0 b1 b2 b3 b4 b5 b6 b7 b8 = clipV (dotZ a6 a7 a8 b0 b3 b6) ∧ o_wa_7 F a0 a1 a2 a3 a4 a5 a6 a7 a8 b0 b1 b2 b3 b4 b5 b6 b7 b8 = clipV (dotZ a6 a7 a8 b1 b4 b7) ∧ o_wa_8 F a0 a1 a2 a3 a4 a5 a6 a7 a8 b0 b1 b2 b3 b4 b5 b6 b7 b8 = clipV (dotZ a6 a7 a8 b2 b5 b8) ∧ o_wa_9 F a0 a1 a2 a3 a4 a5 a6 a7 a8 b0 b1 b2 b3 b4 b5 b6 b7 b8 = ((clipC (dotZ a0 a1 a2 b0 b3 b6) || clipC (dotZ a0 a1 a2 b1 b4 b7) || clipC (dotZ a0 a1 a2 b2 b5 b8)) || (clipC (dotZ a3 a4 a5 b0 b3 b6) || clipC (dotZ a3 a4 a5 b1 b4 b7) || clipC (dotZ a3 a4 a5 b2 b5 b8)) || (clipC (dotZ a6 a7 a8 b0 b3 b6) || clipC (dotZ a6 a7 a8 b1 b4 b7) || clipC (dotZ a6 a7 a8 b2 b5 b8))) := by
  have d0 := a_mApply F hF hb0 hb3 hb6 hb1 hb4 hb7 hb2 hb5 hb8 ha0 ha1 ha2
  rw [dot_turn a0 a1 a2 b0 b3 b6, dot_turn a0 a1 a2 b1 b4 b7, dot_turn a0 a1 a2 b2 b5 b8] at d0
  have d1 := a_mApply F hF hb0 hb3 hb6 hb1 hb4 hb7 hb2 hb5 hb8 ha3 ha4 ha5
  rw [dot_turn a3 a4 a5 b0 b3 b6, dot_turn a3 a4 a5 b1 b4 b7, dot_turn a3 a4 a5 b2 b5 b8] at d1
  have d2 := a_mApply F hF hb0 hb3 hb6 hb1 hb4 hb7 hb2 hb5 hb8 ha6 ha7 ha8
  rw [dot_turn a6 a7 a8 b0 b3 b6, dot_turn a6 a7 a8 b1 b4 b7, dot_turn a6 a7 a8 b2 b5 b8] at d2
  exact k_wa F _ _ _ _ _ _ _ _ _ _ _ _ _ _ _ _ _ _ (f_Mul' F hF d0 d1 d2)
theorem neg_both (x : Int) : IntKind.wrap .i64 (0 - bothS x) = -bothS x := by
  have := (both_bd x).2
  rw [wi64_in (by unfold I64; omega), Int.zero_sub]
theorem a_mAbout0 (F : Nat) (hF : 200 ≤ F) {x : Int} (hx : U32 x) : ok_u F 0 x = true ∧ o_u_0 F 0 x = 4294967296 ∧ o_u_1 F 0 x = 0 ∧ o_u_2 F 0 x = 0 ∧ o_u_3 F 0 x = 0 ∧ o_u_4 F 0 x = (bothC x) ∧ o_u_5 F 0 x = (-bothS x) ∧ o_u_6 F 0 x = 0 ∧ o_u_7 F 0 x = (bothS x) ∧ o_u_8 F 0 x = (bothC x) ∧ o_u_9 F 0 x = 0 := by
  refine k_u F _ _ ?_
  unfold f_u fg_u
  obtain ⟨h1, h2, h3⟩ := a_tBoth F hF hx
  obtain ⟨m0, mm0, mm1, mm2, mm3, mm4, mm5, mm6, mm7, mm8⟩ := a_mSame F hF
  have w1 : Int.tmod (IntKind.wrap .i64 (0 + 1)) 3 = 1 := by decide
  have w2 : Int.tmod (IntKind.wrap .i64 (0 + 2)) 3 = 2 := by decide
  refine bn rfl (bn rfl (bp h1 ?_))
  rw [h2, h3, w1, w2]
  refine bp m0 ?_
  rw [mm0, mm1, mm2, mm3, mm4, mm5, mm6, mm7, mm8]
  dsimp only
  rw [neg_both]
  refine bp rfl (bp rfl (bp rfl (bp rfl (bp rfl (bp rfl (bp rfl (bp rfl (bp rfl (bp rfl (bp rfl (bp rfl (bp rfl ?_))))))))))))
  rfl
theorem a_mAbout1 (F : Nat) (hF : 200 ≤ F) {x : Int} (hx : U32 x) : ok_u F 1 x = true ∧ o_u_0 F 1 x = (bothC x) ∧ o_u_1 F 1 x = 0 ∧ o_u_2 F 1 x = (bothS x) ∧ o_u_3 F 1 x = 0 ∧ o_u_4 F 1 x = 4294967296 ∧ o_u_5 F 1 x = 0 ∧ o_u_6 F 1 x = (-bothS x) ∧ o_u_7 F 1 x = 0 ∧ o_u_8 F 1 x = (bothC x) ∧ o_u_9 F 1 x = 0 := by
  refine k_u F _ _ ?_
  unfold f_u fg_u
  obtain ⟨h1, h2, h3⟩ := a_tBoth F hF hx
  obtain ⟨m0, mm0, mm1, mm2, mm3, mm4, mm5, mm6, mm7, mm8⟩ := a_mSame F hF
  have w1 : Int.tmod (IntKind.wrap .i64 (1 + 1)) 3 = 2 := by decide
  have w2 : Int.tmod (IntKind.wrap .i64 (1 + 2)) 3 = 0 := by decide
  refine bn rfl (bn rfl (bp h1 ?_))
  rw [h2, h3, w1, w2]
  refine bp m0 ?_
  rw [mm0, mm1, mm2, mm3, mm4, mm5, mm6, mm7, mm8]
  dsimp only
  rw [neg_both]
  refine bp rfl (bp rfl (bp rfl (bp rfl (bp rfl (bp rfl (bp rfl (bp rfl (bp rfl (bp rfl (bp rfl (bp rfl (bp rfl ?_))))))))))))
  rfl
theorem a_mAbout2 (F : Nat) (hF : 200 ≤ F) {x : Int} (hx : U32 x) : ok_u F 2 x = true ∧ o_u_0 F 2 x = (bothC x) ∧ o_u_1 F 2 x = (-bothS x) ∧ o_u_2 F 2 x = 0 ∧ o_u_3 F 2 x = (bothS x) ∧ o_u_4 F 2 x = (bothC x) ∧ o_u_5 F 2 x = 0 ∧ o_u_6 F 2 x = 0 ∧ o_u_7 F 2 x = 0 ∧ o_u_8 F 2 x = 4294967296 ∧ o_u_9 F 2 x = 0 := by
  refine k_u F _ _ ?_
  unfold f_u fg_u
  obtain ⟨h1, h2, h3⟩ := a_tBoth F hF hx
  obtain ⟨m0, mm0, mm1, mm2, mm3, mm4, mm5, mm6, mm7, mm8⟩ := a_mSame F hF
  have w1 : Int.tmod (IntKind.wrap .i64 (2 + 1)) 3 = 0 := by decide
  have w2 : Int.tmod (IntKind.wrap .i64 (2 + 2)) 3 = 1 := by decide
  refine bn rfl (bn rfl (bp h1 ?_))
  rw [h2, h3, w1, w2]
  refine bp m0 ?_
  rw [mm0, mm1, mm2, mm3, mm4, mm5, mm6, mm7, mm8]
  dsimp only
  rw [neg_both]
  refine bp rfl (bp rfl (bp rfl (bp rfl (bp rfl (bp rfl (bp rfl (bp rfl (bp rfl (bp rfl (bp rfl (bp rfl (bp rfl ?_))))))))))))
  rfl
theorem f_works07 (F : Nat) (hF : 200 ≤ F) : f_e F = some (.v (.bool true)) := by
  unfold f_e fg_e
  have hI : ∀ y : Int, -4294967296 ≤ y ∧ y ≤ 4294967296 → I64 y := fun y h => by unfold I64; omega
  obtain ⟨⟨b1, b2⟩, b3, b4⟩ := both_bd 1073741824
  obtain ⟨a0_, aa0, aa1, aa2, aa3, aa4, aa5, aa6, aa7, aa8, a9_⟩ := a_mAbout2 F hF (x := 1073741824) (by unfold U32; omega)
  have eC : bothC 1073741824 = (-23) := by decide +kernel
  have eS : bothS 1073741824 = 4294967296 := by decide +kernel
  rw [eC] at aa0 aa4
  rw [eS] at aa1 aa3
  refine bp a0_ ?_
  rw [aa0, aa1, aa2, aa3, aa4, aa5, aa6, aa7, aa8]
  obtain ⟨p0_, p1, p2, p3, p4⟩ := a_mApply F hF (a0 := (-23)) (a1 := -4294967296) (a2 := 0) (a3 := 4294967296) (a4 := (-23)) (a5 := 0) (a6 := 0) (a7 := 0) (a8 := 4294967296) (u0 := 4294967296) (u1 := 0) (u2 := 0) (by unfold I64; omega) (by unfold I64; omega) (by unfold I64; omega) (by unfold I64; omega) (by unfold I64; omega) (by unfold I64; omega) (by unfold I64; omega) (by unfold I64; omega) (by unfold I64; omega) (by unfold I64; omega) (by unfold I64; omega) (by unfold I64; omega)
  obtain ⟨q0_, q1, q2, q3, q4⟩ := a_mApply F hF (a0 := (-23)) (a1 := -4294967296) (a2 := 0) (a3 := 4294967296) (a4 := (-23)) (a5 := 0) (a6 := 0) (a7 := 0) (a8 := 4294967296) (u0 := 0) (u1 := 0) (u2 := 4294967296) (by unfold I64; omega) (by unfold I64; omega) (by unfold I64; omega) (by unfold I64; omega) (by unfold I64; omega) (by unfold I64; omega) (by unfold I64; omega) (by unfold I64; omega) (by unfold I64; omega) (by unfold I64; omega) (by unfold I64; omega) (by unfold I64; omega)
  obtain ⟨m0, mm0, mm1, mm2, mm3, mm4, mm5, mm6, mm7, mm8⟩ := a_mSame F hF
  refine bp p0_ ?_
  refine bp q0_ ?_
  refine bp (by rw [a9_]; rfl) ?_
  refine bp ?_ ?_
  · rw [p2]; decide
  refine bp ?_ ?_
  · rw [p4]; decide
  refine bp ?_ ?_
  · rw [q1, q2, q3]; decide
  refine bp ?_ ?_
  · rw [q4]; decide
  refine bp m0 (some_bool ?_)
  rw [mm4]; rfl
theorem a_works07 (F : Nat) (hF : 200 ≤ F) : ok_e F = true ∧ o_e_0 F = true := k_e F (f_works07 F hF)
theorem a_Among (F : Nat) (x : Int) : ok_l F x 3 = true ∧ o_l_0 F x 3 = x % 18446744073709551616 % 3 := by
  refine k_l F _ _ ?_
  unfold f_l fg_l
  have w : IntKind.wrap .u64 3 = 3 := by decide
  refine bn rfl ?_
  rw [w]
  refine bp rfl (some_int ?_)
  rw [wu64, Int.tmod_eq_emod_of_nonneg (by omega), wi64_in (by unfold I64; omega)]
end Go.Xv
namespace Go.Xv
theorem gr3_nn (a b c : Int) : 0 ≤ gr3 a b c := by
  have : 0 ≤ sz a := by unfold sz; split <;> omega
  unfold gr3; omega
/-- how far a row of the products is off -/
def row3 (p q r s t u : Int) : Int := gr3 (clipV (p - s)) (clipV (q - t)) (clipV (r - u))
theorem row3_nn (p q r s t u : Int) : 0 ≤ row3 p q r s t u := gr3_nn _ _ _
def off9 (a0 a1 a2 a3 a4 a5 a6 a7 a8 : Int) : Int := max (row3 (clipV (dotZ a0 a1 a2 a0 a1 a2)) (clipV (dotZ a0 a1 a2 a3 a4 a5)) (clipV (dotZ a0 a1 a2 a6 a7 a8)) 4294967296 0 0) (max (row3 (clipV (dotZ a3 a4 a5 a0 a1 a2)) (clipV (dotZ a3 a4 a5 a3 a4 a5)) (clipV (dotZ a3 a4 a5 a6 a7 a8)) 0 4294967296 0) (row3 (clipV (dotZ a6 a7 a8 a0 a1 a2)) (clipV (dotZ a6 a7 a8 a3 a4 a5)) (clipV (dotZ a6 a7 a8 a6 a7 a8)) 0 0 4294967296))
theorem h_mat_Off (F : Nat) (hF : 200 ≤ F) {a0 a1 a2 a3 a4 a5 a6 a7 a8 p0 p1 p2 p3 p4 p5 p6 p7 p8 : Int} (i0 : I64 p0) (i1 : I64 p1) (i2 : I64 p2) (i3 : I64 p3) (i4 : I64 p4) (i5 : I64 p5) (i6 : I64 p6) (i7 : I64 p7) (i8 : I64 p8) : L_xa_0 F (fun (v0 v1 v2 v3 v4 v5 v6 v7 v8 v9 v10 v11 v12 v13 v14 v15 v16 v17 v18 v19 v20 v21 v22 v23 v24 v25 v26 v27 v28 v29 v30 v31 v32 v33 v34 v35 v36 v37 v38 : Int) => some (.v (.int .i64 v10))) F a0 a1 a2 a3 a4 a5 a6 a7 a8 0 0 p0 p1 p2 p3 p4 p5 p6 p7 p8 0 a0 a1 a2 a3 a4 a5 a6 a7 a8 p0 p1 p2 p3 p4 p5 p6 p7 p8 = (some (.v (.int .i64 (max (row3 p0 p1 p2 4294967296 0 0) (max (row3 p3 p4 p5 0 4294967296 0) (row3 p6 p7 p8 0 0 4294967296))))) : R) := by
  have w1 : IntKind.wrap .i64 (0 + 1) = 1 := by decide
  have w2 : IntKind.wrap .i64 (1 + 1) = 2 := by decide
  have w3 : IntKind.wrap .i64 (2 + 1) = 3 := by decide
  obtain ⟨s0_, ss0, ss1, ss2, ss3, ss4, ss5, ss6, ss7, ss8⟩ := a_mSame F hF
  have e00 : (iv [.v (.int .i64 p0), .v (.int .i64 p1), .v (.int .i64 p2), .v (.int .i64 p3), .v (.int .i64 p4), .v (.int .i64 p5), .v (.int .i64 p6), .v (.int .i64 p7), .v (.int .i64 p8)][Int.toNat 0 * 3]?) = p0 := rfl
  have e01 : (iv [.v (.int .i64 p0), .v (.int .i64 p1), .v (.int .i64 p2), .v (.int .i64 p3), .v (.int .i64 p4), .v (.int .i64 p5), .v (.int .i64 p6), .v (.int .i64 p7), .v (.int .i64 p8)][Int.toNat 0 * 3 + 1]?) = p1 := rfl
  have e02 : (iv [.v (.int .i64 p0), .v (.int .i64 p1), .v (.int .i64 p2), .v (.int .i64 p3), .v (.int .i64 p4), .v (.int .i64 p5), .v (.int .i64 p6), .v (.int .i64 p7), .v (.int .i64 p8)][Int.toNat 0 * 3 + 1 + 1]?) = p2 := rfl
  have e10 : (iv [.v (.int .i64 p0), .v (.int .i64 p1), .v (.int .i64 p2), .v (.int .i64 p3), .v (.int .i64 p4), .v (.int .i64 p5), .v (.int .i64 p6), .v (.int .i64 p7), .v (.int .i64 p8)][Int.toNat 1 * 3]?) = p3 := rfl
  have e11 : (iv [.v (.int .i64 p0), .v (.int .i64 p1), .v (.int .i64 p2), .v (.int .i64 p3), .v (.int .i64 p4), .v (.int .i64 p5), .v (.int .i64 p6), .v (.int .i64 p7), .v (.int .i64 p8)][Int.toNat 1 * 3 + 1]?) = p4 := rfl
  have e12 : (iv [.v (.int .i64 p0), .v (.int .i64 p1), .v (.int .i64 p2), .v (.int .i64 p3), .v (.int .i64 p4), .v (.int .i64 p5), .v (.int .i64 p6), .v (.int .i64 p7), .v (.int .i64 p8)][Int.toNat 1 * 3 + 1 + 1]?) = p5 := rfl
  have e20 : (iv [.v (.int .i64 p0), .v (.int .i64 p1), .v (.int .i64 p2), .v (.int .i64 p3), .v (.int .i64 p4), .v (.int .i64 p5), .v (.int .i64 p6), .v (.int .i64 p7), .v (.int .i64 p8)][Int.toNat 2 * 3]?) = p6 := rfl
  have e21 : (iv [.v (.int .i64 p0), .v (.int .i64 p1), .v (.int .i64 p2), .v (.int .i64 p3), .v (.int .i64 p4), .v (.int .i64 p5), .v (.int .i64 p6), .v (.int .i64 p7), .v (.int .i64 p8)][Int.toNat 2 * 3 + 1]?) = p7 := rfl
  have e22 : (iv [.v (.int .i64 p0), .v (.int .i64 p1), .v (.int .i64 p2), .v (.int .i64 p3), .v (.int .i64 p4), .v (.int .i64 p5), .v (.int .i64 p6), .v (.int .i64 p7), .v (.int .i64 p8)][Int.toNat 2 * 3 + 1 + 1]?) = p8 := rfl
  have g00 : (iv [.v (.int .i64 4294967296), .v (.int .i64 0), .v (.int .i64 0), .v (.int .i64 0), .v (.int .i64 4294967296), .v (.int .i64 0), .v (.int .i64 0), .v (.int .i64 0), .v (.int .i64 4294967296)][Int.toNat 0 * 3]?) = 4294967296 := rfl
  have g01 : (iv [.v (.int .i64 4294967296), .v (.int .i64 0), .v (.int .i64 0), .v (.int .i64 0), .v (.int .i64 4294967296), .v (.int .i64 0), .v (.int .i64 0), .v (.int .i64 0), .v (.int .i64 4294967296)][Int.toNat 0 * 3 + 1]?) = 0 := rfl
  have g02 : (iv [.v (.int .i64 4294967296), .v (.int .i64 0), .v (.int .i64 0), .v (.int .i64 0), .v (.int .i64 4294967296), .v (.int .i64 0), .v (.int .i64 0), .v (.int .i64 0), .v (.int .i64 4294967296)][Int.toNat 0 * 3 + 1 + 1]?) = 0 := rfl
  have g10 : (iv [.v (.int .i64 4294967296), .v (.int .i64 0), .v (.int .i64 0), .v (.int .i64 0), .v (.int .i64 4294967296), .v (.int .i64 0), .v (.int .i64 0), .v (.int .i64 0), .v (.int .i64 4294967296)][Int.toNat 1 * 3]?) = 0 := rfl
  have g11 : (iv [.v (.int .i64 4294967296), .v (.int .i64 0), .v (.int .i64 0), .v (.int .i64 0), .v (.int .i64 4294967296), .v (.int .i64 0), .v (.int .i64 0), .v (.int .i64 0), .v (.int .i64 4294967296)][Int.toNat 1 * 3 + 1]?) = 4294967296 := rfl
  have g12 : (iv [.v (.int .i64 4294967296), .v (.int .i64 0), .v (.int .i64 0), .v (.int .i64 0), .v (.int .i64 4294967296), .v (.int .i64 0), .v (.int .i64 0), .v (.int .i64 0), .v (.int .i64 4294967296)][Int.toNat 1 * 3 + 1 + 1]?) = 0 := rfl
  have g20 : (iv [.v (.int .i64 4294967296), .v (.int .i64 0), .v (.int .i64 0), .v (.int .i64 0), .v (.int .i64 4294967296), .v (.int .i64 0), .v (.int .i64 0), .v (.int .i64 0), .v (.int .i64 4294967296)][Int.toNat 2 * 3]?) = 0 := rfl
  have g21 : (iv [.v (.int .i64 4294967296), .v (.int .i64 0), .v (.int .i64 0), .v (.int .i64 0), .v (.int .i64 4294967296), .v (.int .i64 0), .v (.int .i64 0), .v (.int .i64 0), .v (.int .i64 4294967296)][Int.toNat 2 * 3 + 1]?) = 0 := rfl
  have g22 : (iv [.v (.int .i64 4294967296), .v (.int .i64 0), .v (.int .i64 0), .v (.int .i64 0), .v (.int .i64 4294967296), .v (.int .i64 0), .v (.int .i64 0), .v (.int .i64 0), .v (.int .i64 4294967296)][Int.toNat 2 * 3 + 1 + 1]?) = 4294967296 := rfl
  have j0 : I64 0 := by unfold I64; omega
  have jO : I64 4294967296 := by unfold I64; omega
  obtain ⟨x00, x01, x02, x03, _⟩ := a_Sub F hF i0 i1 i2 jO j0 j0
  obtain ⟨y00, y01⟩ := a_Greatest F hF (clipV_I (p0 - 4294967296)) (clipV_I (p1 - 0)) (clipV_I (p2 - 0))
  obtain ⟨x10, x11, x12, x13, _⟩ := a_Sub F hF i3 i4 i5 j0 jO j0
  obtain ⟨y10, y11⟩ := a_Greatest F hF (clipV_I (p3 - 0)) (clipV_I (p4 - 4294967296)) (clipV_I (p5 - 0))
  obtain ⟨x20, x21, x22, x23, _⟩ := a_Sub F hF i6 i7 i8 j0 j0 jO
  obtain ⟨y20, y21⟩ := a_Greatest F hF (clipV_I (p6 - 0)) (clipV_I (p7 - 0)) (clipV_I (p8 - 4294967296))
  obtain ⟨G, hG⟩ : ∃ G, F = G + 4 := ⟨F - 4, by omega⟩
  rw [show L_xa_0 F _ F = L_xa_0 F _ (G + 4) from congrArg (L_xa_0 F _) hG]
  rw [L_xa_0]
  unfold B_xa_0 Bg_xa_0
  refine bp rfl (bp rfl ?_)
  rw [e00, e01, e02]
  refine bp s0_ ?_
  rw [ss0, ss1, ss2, ss3, ss4, ss5, ss6, ss7, ss8]
  refine bp rfl ?_
  rw [g00, g01, g02]
  refine bp x00 ?_
  rw [x01, x02, x03]
  refine bp y00 ?_
  rw [y01, w1]
  rw [L_xa_0]
  unfold B_xa_0 Bg_xa_0
  refine bp rfl (bp rfl ?_)
  rw [e10, e11, e12]
  refine bp s0_ ?_
  rw [ss0, ss1, ss2, ss3, ss4, ss5, ss6, ss7, ss8]
  refine bp rfl ?_
  rw [g10, g11, g12]
  refine bp x10 ?_
  rw [x11, x12, x13]
  refine bp y10 ?_
  rw [y11, w2]
  rw [L_xa_0]
  unfold B_xa_0 Bg_xa_0
  refine bp rfl (bp rfl ?_)
  rw [e20, e21, e22]
  refine bp s0_ ?_
  rw [ss0, ss1, ss2, ss3, ss4, ss5, ss6, ss7, ss8]
  refine bp rfl ?_
  rw [g20, g21, g22]
  refine bp x20 ?_
  rw [x21, x22, x23]
  refine bp y20 ?_
  rw [y21, w3]
  rw [L_xa_0]
  unfold B_xa_0 Bg_xa_0
  refine bn rfl (some_int ?_)
  have n0 := row3_nn p0 p1 p2 4294967296 0 0
  have n1 := row3_nn p3 p4 p5 0 4294967296 0
  have n2 := row3_nn p6 p7 p8 0 0 4294967296
  unfold row3 at *
  rw [mx, mx, mx]
  omega
theorem a_mat_Off (F : Nat) (hF : 200 ≤ F) {a0 a1 a2 a3 a4 a5 a6 a7 a8 : Int} (ha0 : I64 a0) (ha1 : I64 a1) (ha2 : I64 a2) (ha3 : I64 a3) (ha4 : I64 a4) (ha5 : I64 a5) (ha6 : I64 a6) (ha7 : I64 a7) (ha8 : I64 a8) : ok_xa F a0 a1 a2 a3 a4 a5 a6 a7 a8 = true ∧ o_xa_0 F a0 a1 a2 a3 a4 a5 a6 a7 a8 = off9 a0 a1 a2 a3 a4 a5 a6 a7 a8 := by
  refine k_xa F _ _ _ _ _ _ _ _ _ ?_
  unfold f_xa fg_xa
  obtain ⟨b0_, bb0, bb1, bb2, bb3, bb4, bb5, bb6, bb7, bb8⟩ := a_mBack F hF a0 a1 a2 a3 a4 a5 a6 a7 a8
  obtain ⟨m0_, mm0, mm1, mm2, mm3, mm4, mm5, mm6, mm7, mm8, _⟩ := a_mMul F hF ha0 ha1 ha2 ha3 ha4 ha5 ha6 ha7 ha8 ha0 ha3 ha6 ha1 ha4 ha7 ha2 ha5 ha8
  refine bp b0_ ?_
  rw [bb0, bb1, bb2, bb3, bb4, bb5, bb6, bb7, bb8]
  refine bp m0_ ?_
  rw [mm0, mm1, mm2, mm3, mm4, mm5, mm6, mm7, mm8]
  have i0 : I64 (clipV (dotZ a0 a1 a2 a0 a1 a2)) := clipV_I _
  have i1 : I64 (clipV (dotZ a0 a1 a2 a3 a4 a5)) := clipV_I _
  have i2 : I64 (clipV (dotZ a0 a1 a2 a6 a7 a8)) := clipV_I _
  have i3 : I64 (clipV (dotZ a3 a4 a5 a0 a1 a2)) := clipV_I _
  have i4 : I64 (clipV (dotZ a3 a4 a5 a3 a4 a5)) := clipV_I _
  have i5 : I64 (clipV (dotZ a3 a4 a5 a6 a7 a8)) := clipV_I _
  have i6 : I64 (clipV (dotZ a6 a7 a8 a0 a1 a2)) := clipV_I _
  have i7 : I64 (clipV (dotZ a6 a7 a8 a3 a4 a5)) := clipV_I _
  have i8 : I64 (clipV (dotZ a6 a7 a8 a6 a7 a8)) := clipV_I _
  unfold off9
  exact h_mat_Off F hF (clipV_I _) (clipV_I _) (clipV_I _) (clipV_I _) (clipV_I _) (clipV_I _) (clipV_I _) (clipV_I _) (clipV_I _)
noncomputable def oD (a0 a1 a2 a3 a4 a5 a6 a7 a8 : Int) : Int := clipV (dotZ a3 a4 a5 (unV a0 a0 a1 a2) (unV a1 a0 a1 a2) (unV a2 a0 a1 a2))
noncomputable def oR0 (a0 a1 a2 a3 a4 a5 a6 a7 a8 : Int) : Int := clipV (a3 - clipV (pr (unV a0 a0 a1 a2) (oD a0 a1 a2 a3 a4 a5 a6 a7 a8)))
noncomputable def oR1 (a0 a1 a2 a3 a4 a5 a6 a7 a8 : Int) : Int := clipV (a4 - clipV (pr (unV a1 a0 a1 a2) (oD a0 a1 a2 a3 a4 a5 a6 a7 a8)))
noncomputable def oR2 (a0 a1 a2 a3 a4 a5 a6 a7 a8 : Int) : Int := clipV (a5 - clipV (pr (unV a2 a0 a1 a2) (oD a0 a1 a2 a3 a4 a5 a6 a7 a8)))
noncomputable def oY0 (a0 a1 a2 a3 a4 a5 a6 a7 a8 : Int) : Int := unV (oR0 a0 a1 a2 a3 a4 a5 a6 a7 a8) (oR0 a0 a1 a2 a3 a4 a5 a6 a7 a8) (oR1 a0 a1 a2 a3 a4 a5 a6 a7 a8) (oR2 a0 a1 a2 a3 a4 a5 a6 a7 a8)
noncomputable def oY1 (a0 a1 a2 a3 a4 a5 a6 a7 a8 : Int) : Int := unV (oR1 a0 a1 a2 a3 a4 a5 a6 a7 a8) (oR0 a0 a1 a2 a3 a4 a5 a6 a7 a8) (oR1 a0 a1 a2 a3 a4 a5 a6 a7 a8) (oR2 a0 a1 a2 a3 a4 a5 a6 a7 a8)
noncomputable def oY2 (a0 a1 a2 a3 a4 a5 a6 a7 a8 : Int) : Int := unV (oR2 a0 a1 a2 a3 a4 a5 a6 a7 a8) (oR0 a0 a1 a2 a3 a4 a5 a6 a7 a8) (oR1 a0 a1 a2 a3 a4 a5 a6 a7 a8) (oR2 a0 a1 a2 a3 a4 a5 a6 a7 a8)
noncomputable def oZ0 (a0 a1 a2 a3 a4 a5 a6 a7 a8 : Int) : Int := clipV (arZ (unV a1 a0 a1 a2) (oY2 a0 a1 a2 a3 a4 a5 a6 a7 a8) (unV a2 a0 a1 a2) (oY1 a0 a1 a2 a3 a4 a5 a6 a7 a8))
noncomputable def oZ1 (a0 a1 a2 a3 a4 a5 a6 a7 a8 : Int) : Int := clipV (arZ (unV a2 a0 a1 a2) (oY0 a0 a1 a2 a3 a4 a5 a6 a7 a8) (unV a0 a0 a1 a2) (oY2 a0 a1 a2 a3 a4 a5 a6 a7 a8))
noncomputable def oZ2 (a0 a1 a2 a3 a4 a5 a6 a7 a8 : Int) : Int := clipV (arZ (unV a0 a0 a1 a2) (oY1 a0 a1 a2 a3 a4 a5 a6 a7 a8) (unV a1 a0 a1 a2) (oY0 a0 a1 a2 a3 a4 a5 a6 a7 a8))
noncomputable def ortC (a0 a1 a2 a3 a4 a5 a6 a7 a8 : Int) : Bool := unitOK a0 a1 a2 && (unitOK (oR0 a0 a1 a2 a3 a4 a5 a6 a7 a8) (oR1 a0 a1 a2 a3 a4 a5 a6 a7 a8) (oR2 a0 a1 a2 a3 a4 a5 a6 a7 a8) && (!clipC (dotZ a3 a4 a5 (unV a0 a0 a1 a2) (unV a1 a0 a1 a2) (unV a2 a0 a1 a2)) && (!(clipC (pr (unV a0 a0 a1 a2) (oD a0 a1 a2 a3 a4 a5 a6 a7 a8)) || clipC (pr (unV a1 a0 a1 a2) (oD a0 a1 a2 a3 a4 a5 a6 a7 a8)) || clipC (pr (unV a2 a0 a1 a2) (oD a0 a1 a2 a3 a4 a5 a6 a7 a8))) && (!(clipC (a3 - clipV (pr (unV a0 a0 a1 a2) (oD a0 a1 a2 a3 a4 a5 a6 a7 a8))) || clipC (a4 - clipV (pr (unV a1 a0 a1 a2) (oD a0 a1 a2 a3 a4 a5 a6 a7 a8))) || clipC (a5 - clipV (pr (unV a2 a0 a1 a2) (oD a0 a1 a2 a3 a4 a5 a6 a7 a8)))) && !(clipC (arZ (unV a1 a0 a1 a2) (oY2 a0 a1 a2 a3 a4 a5 a6 a7 a8) (unV a2 a0 a1 a2) (oY1 a0 a1 a2 a3 a4 a5 a6 a7 a8)) || clipC (arZ (unV a2 a0 a1 a2) (oY0 a0 a1 a2 a3 a4 a5 a6 a7 a8) (unV a0 a0 a1 a2) (oY2 a0 a1 a2 a3 a4 a5 a6 a7 a8)) || clipC (arZ (unV a0 a0 a1 a2) (oY1 a0 a1 a2 a3 a4 a5 a6 a7 a8) (unV a1 a0 a1 a2) (oY0 a0 a1 a2 a3 a4 a5 a6 a7 a8)))))))
noncomputable def ort0 (a0 a1 a2 a3 a4 a5 a6 a7 a8 : Int) : Int := if ortC a0 a1 a2 a3 a4 a5 a6 a7 a8 = true then (unV a0 a0 a1 a2) else 4294967296
noncomputable def ort1 (a0 a1 a2 a3 a4 a5 a6 a7 a8 : Int) : Int := if ortC a0 a1 a2 a3 a4 a5 a6 a7 a8 = true then (unV a1 a0 a1 a2) else 0
noncomputable def ort2 (a0 a1 a2 a3 a4 a5 a6 a7 a8 : Int) : Int := if ortC a0 a1 a2 a3 a4 a5 a6 a7 a8 = true then (unV a2 a0 a1 a2) else 0
noncomputable def ort3 (a0 a1 a2 a3 a4 a5 a6 a7 a8 : Int) : Int := if ortC a0 a1 a2 a3 a4 a5 a6 a7 a8 = true then (oY0 a0 a1 a2 a3 a4 a5 a6 a7 a8) else 0
noncomputable def ort4 (a0 a1 a2 a3 a4 a5 a6 a7 a8 : Int) : Int := if ortC a0 a1 a2 a3 a4 a5 a6 a7 a8 = true then (oY1 a0 a1 a2 a3 a4 a5 a6 a7 a8) else 4294967296
noncomputable def ort5 (a0 a1 a2 a3 a4 a5 a6 a7 a8 : Int) : Int := if ortC a0 a1 a2 a3 a4 a5 a6 a7 a8 = true then (oY2 a0 a1 a2 a3 a4 a5 a6 a7 a8) else 0
noncomputable def ort6 (a0 a1 a2 a3 a4 a5 a6 a7 a8 : Int) : Int := if ortC a0 a1 a2 a3 a4 a5 a6 a7 a8 = true then (oZ0 a0 a1 a2 a3 a4 a5 a6 a7 a8) else 0
noncomputable def ort7 (a0 a1 a2 a3 a4 a5 a6 a7 a8 : Int) : Int := if ortC a0 a1 a2 a3 a4 a5 a6 a7 a8 = true then (oZ1 a0 a1 a2 a3 a4 a5 a6 a7 a8) else 0
noncomputable def ort8 (a0 a1 a2 a3 a4 a5 a6 a7 a8 : Int) : Int := if ortC a0 a1 a2 a3 a4 a5 a6 a7 a8 = true then (oZ2 a0 a1 a2 a3 a4 a5 a6 a7 a8) else 4294967296
theorem fdivV_I (a b : Int) : I64 (fdivV a b) := by
  unfold fdivV
  split
  · unfold I64; split <;> (try split) <;> omega
  · exact clipV_I _
theorem unV_I (k a b c : Int) : I64 (unV k a b c) := by
  unfold unV
  split
  · exact fdivV_I _ _
  · unfold I64; omega
theorem some_mat {x0 x1 x2 x3 x4 x5 x6 x7 x8 y0 y1 y2 y3 y4 y5 y6 y7 y8 : Int} {c d : Bool} (h0 : x0 = y0) (h1 : x1 = y1) (h2 : x2 = y2) (h3 : x3 = y3) (h4 : x4 = y4) (h5 : x5 = y5) (h6 : x6 = y6) (h7 : x7 = y7) (h8 : x8 = y8) (h : c = d) : (some (VV.v (.tuple #[.agg #[.int .i64 x0, .int .i64 x1, .int .i64 x2, .int .i64 x3, .int .i64 x4, .int .i64 x5, .int .i64 x6, .int .i64 x7, .int .i64 x8], .bool c])) : R) = some (.v (.tuple #[.agg #[.int .i64 y0, .int .i64 y1, .int .i64 y2, .int .i64 y3, .int .i64 y4, .int .i64 y5, .int .i64 y6, .int .i64 y7, .int .i64 y8], .bool d])) := by
  rw [h0, h1, h2, h3, h4, h5, h6, h7, h8, h]
theorem ort_no {a0 a1 a2 a3 a4 a5 a6 a7 a8 : Int} (h : ortC a0 a1 a2 a3 a4 a5 a6 a7 a8 = false) : (some (VV.v (.tuple #[.agg #[.int .i64 4294967296, .int .i64 0, .int .i64 0, .int .i64 0, .int .i64 4294967296, .int .i64 0, .int .i64 0, .int .i64 0, .int .i64 4294967296], .bool false])) : R) = some (.v (.tuple #[.agg #[.int .i64 (ort0 a0 a1 a2 a3 a4 a5 a6 a7 a8), .int .i64 (ort1 a0 a1 a2 a3 a4 a5 a6 a7 a8), .int .i64 (ort2 a0 a1 a2 a3 a4 a5 a6 a7 a8), .int .i64 (ort3 a0 a1 a2 a3 a4 a5 a6 a7 a8), .int .i64 (ort4 a0 a1 a2 a3 a4 a5 a6 a7 a8), .int .i64 (ort5 a0 a1 a2 a3 a4 a5 a6 a7 a8), .int .i64 (ort6 a0 a1 a2 a3 a4 a5 a6 a7 a8), .int .i64 (ort7 a0 a1 a2 a3 a4 a5 a6 a7 a8), .int .i64 (ort8 a0 a1 a2 a3 a4 a5 a6 a7 a8)], .bool (ortC a0 a1 a2 a3 a4 a5 a6 a7 a8)])) := by
  refine some_mat ?_ ?_ ?_ ?_ ?_ ?_ ?_ ?_ ?_ h.symm
  · unfold ort0; rw [h]; rfl
  · unfold ort1; rw [h]; rfl
  · unfold ort2; rw [h]; rfl
  · unfold ort3; rw [h]; rfl
  · unfold ort4; rw [h]; rfl
  · unfold ort5; rw [h]; rfl
  · unfold ort6; rw [h]; rfl
  · unfold ort7; rw [h]; rfl
  · unfold ort8; rw [h]; rfl
theorem ort_yes {a0 a1 a2 a3 a4 a5 a6 a7 a8 : Int} (h : ortC a0 a1 a2 a3 a4 a5 a6 a7 a8 = true) : (some (VV.v (.tuple #[.agg #[.int .i64 (unV a0 a0 a1 a2), .int .i64 (unV a1 a0 a1 a2), .int .i64 (unV a2 a0 a1 a2), .int .i64 (oY0 a0 a1 a2 a3 a4 a5 a6 a7 a8), .int .i64 (oY1 a0 a1 a2 a3 a4 a5 a6 a7 a8), .int .i64 (oY2 a0 a1 a2 a3 a4 a5 a6 a7 a8), .int .i64 (oZ0 a0 a1 a2 a3 a4 a5 a6 a7 a8), .int .i64 (oZ1 a0 a1 a2 a3 a4 a5 a6 a7 a8), .int .i64 (oZ2 a0 a1 a2 a3 a4 a5 a6 a7 a8)], .bool true])) : R) = some (.v (.tuple #[.agg #[.int .i64 (ort0 a0 a1 a2 a3 a4 a5 a6 a7 a8), .int .i64 (ort1 a0 a1 a2 a3 a4 a5 a6 a7 a8), .int .i64 (ort2 a0 a1 a2 a3 a4 a5 a6 a7 a8), .int .i64 (ort3 a0 a1 a2 a3 a4 a5 a6 a7 a8), .int .i64 (ort4 a0 a1 a2 a3 a4 a5 a6 a7 a8), .int .i64 (ort5 a0 a1 a2 a3 a4 a5 a6 a7 a8), .int .i64 (ort6 a0 a1 a2 a3 a4 a5 a6 a7 a8), .int .i64 (ort7 a0 a1 a2 a3 a4 a5 a6 a7 a8), .int .i64 (ort8 a0 a1 a2 a3 a4 a5 a6 a7 a8)], .bool (ortC a0 a1 a2 a3 a4 a5 a6 a7 a8)])) := by
  refine some_mat ?_ ?_ ?_ ?_ ?_ ?_ ?_ ?_ ?_ h.symm
  · unfold ort0; rw [if_pos h]
  · unfold ort1; rw [if_pos h]
  · unfold ort2; rw [if_pos h]
  · unfold ort3; rw [if_pos h]
  · unfold ort4; rw [if_pos h]
  · unfold ort5; rw [if_pos h]
  · unfold ort6; rw [if_pos h]
  · unfold ort7; rw [if_pos h]
  · unfold ort8; rw [if_pos h]
theorem f_mat_Ortho' (F : Nat) (hF : 200 ≤ F) {a0 a1 a2 a3 a4 a5 a6 a7 a8 : Int} (ha0 : I64 a0) (ha1 : I64 a1) (ha2 : I64 a2) (ha3 : I64 a3) (ha4 : I64 a4) (ha5 : I64 a5) (ha6 : I64 a6) (ha7 : I64 a7) (ha8 : I64 a8) : f_w F a0 a1 a2 a3 a4 a5 a6 a7 a8 = some (.v (.tuple #[.agg #[.int .i64 (ort0 a0 a1 a2 a3 a4 a5 a6 a7 a8), .int .i64 (ort1 a0 a1 a2 a3 a4 a5 a6 a7 a8), .int .i64 (ort2 a0 a1 a2 a3 a4 a5 a6 a7 a8), .int .i64 (ort3 a0 a1 a2 a3 a4 a5 a6 a7 a8), .int .i64 (ort4 a0 a1 a2 a3 a4 a5 a6 a7 a8), .int .i64 (ort5 a0 a1 a2 a3 a4 a5 a6 a7 a8), .int .i64 (ort6 a0 a1 a2 a3 a4 a5 a6 a7 a8), .int .i64 (ort7 a0 a1 a2 a3 a4 a5 a6 a7 a8), .int .i64 (ort8 a0 a1 a2 a3 a4 a5 a6 a7 a8)], .bool (ortC a0 a1 a2 a3 a4 a5 a6 a7 a8)])) := by
  unfold f_w fg_w
  obtain ⟨u0, u1, u2, u3, u4⟩ := a_vUnit F hF ha0 ha1 ha2
  obtain ⟨s0_, ss0, ss1, ss2, ss3, ss4, ss5, ss6, ss7, ss8⟩ := a_mSame F hF
  have no := fun h => ort_no (a0 := a0) (a1 := a1) (a2 := a2) (a3 := a3) (a4 := a4) (a5 := a5) (a6 := a6) (a7 := a7) (a8 := a8) h
  have yes := fun h => ort_yes (a0 := a0) (a1 := a1) (a2 := a2) (a3 := a3) (a4 := a4) (a5 := a5) (a6 := a6) (a7 := a7) (a8 := a8) h
  have dx0 := unV_I a0 a0 a1 a2
  have dx1 := unV_I a1 a0 a1 a2
  have dx2 := unV_I a2 a0 a1 a2
  obtain ⟨d0, d1, d2⟩ := a_Dot F hF ha3 ha4 ha5 dx0 dx1 dx2
  obtain ⟨c0, c1, c2, c3, c4⟩ := a_Scale F hF dx0 dx1 dx2 (clipV_I (dotZ a3 a4 a5 (unV a0 a0 a1 a2) (unV a1 a0 a1 a2) (unV a2 a0 a1 a2)))
  obtain ⟨b0, b1, b2, b3, b4⟩ := a_Sub F hF ha3 ha4 ha5 (clipV_I (pr (unV a0 a0 a1 a2) (clipV (dotZ a3 a4 a5 (unV a0 a0 a1 a2) (unV a1 a0 a1 a2) (unV a2 a0 a1 a2))))) (clipV_I (pr (unV a1 a0 a1 a2) (clipV (dotZ a3 a4 a5 (unV a0 a0 a1 a2) (unV a1 a0 a1 a2) (unV a2 a0 a1 a2))))) (clipV_I (pr (unV a2 a0 a1 a2) (clipV (dotZ a3 a4 a5 (unV a0 a0 a1 a2) (unV a1 a0 a1 a2) (unV a2 a0 a1 a2)))))
  obtain ⟨v0, v1, v2, v3, v4⟩ := a_vUnit F hF (clipV_I (a3 - clipV (pr (unV a0 a0 a1 a2) (clipV (dotZ a3 a4 a5 (unV a0 a0 a1 a2) (unV a1 a0 a1 a2) (unV a2 a0 a1 a2)))))) (clipV_I (a4 - clipV (pr (unV a1 a0 a1 a2) (clipV (dotZ a3 a4 a5 (unV a0 a0 a1 a2) (unV a1 a0 a1 a2) (unV a2 a0 a1 a2)))))) (clipV_I (a5 - clipV (pr (unV a2 a0 a1 a2) (clipV (dotZ a3 a4 a5 (unV a0 a0 a1 a2) (unV a1 a0 a1 a2) (unV a2 a0 a1 a2))))))
  obtain ⟨k0, k1, k2, k3, k4⟩ := a_Cross F hF dx0 dx1 dx2 (unV_I (clipV (a3 - clipV (pr (unV a0 a0 a1 a2) (clipV (dotZ a3 a4 a5 (unV a0 a0 a1 a2) (unV a1 a0 a1 a2) (unV a2 a0 a1 a2)))))) (clipV (a3 - clipV (pr (unV a0 a0 a1 a2) (clipV (dotZ a3 a4 a5 (unV a0 a0 a1 a2) (unV a1 a0 a1 a2) (unV a2 a0 a1 a2)))))) (clipV (a4 - clipV (pr (unV a1 a0 a1 a2) (clipV (dotZ a3 a4 a5 (unV a0 a0 a1 a2) (unV a1 a0 a1 a2) (unV a2 a0 a1 a2)))))) (clipV (a5 - clipV (pr (unV a2 a0 a1 a2) (clipV (dotZ a3 a4 a5 (unV a0 a0 a1 a2) (unV a1 a0 a1 a2) (unV a2 a0 a1 a2))))))) (unV_I (clipV (a4 - clipV (pr (unV a1 a0 a1 a2) (clipV (dotZ a3 a4 a5 (unV a0 a0 a1 a2) (unV a1 a0 a1 a2) (unV a2 a0 a1 a2)))))) (clipV (a3 - clipV (pr (unV a0 a0 a1 a2) (clipV (dotZ a3 a4 a5 (unV a0 a0 a1 a2) (unV a1 a0 a1 a2) (unV a2 a0 a1 a2)))))) (clipV (a4 - clipV (pr (unV a1 a0 a1 a2) (clipV (dotZ a3 a4 a5 (unV a0 a0 a1 a2) (unV a1 a0 a1 a2) (unV a2 a0 a1 a2)))))) (clipV (a5 - clipV (pr (unV a2 a0 a1 a2) (clipV (dotZ a3 a4 a5 (unV a0 a0 a1 a2) (unV a1 a0 a1 a2) (unV a2 a0 a1 a2))))))) (unV_I (clipV (a5 - clipV (pr (unV a2 a0 a1 a2) (clipV (dotZ a3 a4 a5 (unV a0 a0 a1 a2) (unV a1 a0 a1 a2) (unV a2 a0 a1 a2)))))) (clipV (a3 - clipV (pr (unV a0 a0 a1 a2) (clipV (dotZ a3 a4 a5 (unV a0 a0 a1 a2) (unV a1 a0 a1 a2) (unV a2 a0 a1 a2)))))) (clipV (a4 - clipV (pr (unV a1 a0 a1 a2) (clipV (dotZ a3 a4 a5 (unV a0 a0 a1 a2) (unV a1 a0 a1 a2) (unV a2 a0 a1 a2)))))) (clipV (a5 - clipV (pr (unV a2 a0 a1 a2) (clipV (dotZ a3 a4 a5 (unV a0 a0 a1 a2) (unV a1 a0 a1 a2) (unV a2 a0 a1 a2)))))))
  refine bp u0 ?_
  rw [u1, u2, u3, u4]
  cases q0 : unitOK a0 a1 a2 with
  | false => exact bp rfl (bp s0_ (by rw [ss0, ss1, ss2, ss3, ss4, ss5, ss6, ss7, ss8]; exact no (by unfold ortC; rw [q0]; rfl)))
  | true =>
    refine bn rfl (bp d0 ?_)
    rw [d1, d2]
    refine bp c0 ?_
    rw [c1, c2, c3, c4]
    refine bp b0 ?_
    rw [b1, b2, b3, b4]
    refine bp v0 ?_
    rw [v1, v2, v3, v4]
    have eo : ortC a0 a1 a2 a3 a4 a5 a6 a7 a8 = (true && ((unitOK (clipV (a3 - clipV (pr (unV a0 a0 a1 a2) (clipV (dotZ a3 a4 a5 (unV a0 a0 a1 a2) (unV a1 a0 a1 a2) (unV a2 a0 a1 a2)))))) (clipV (a4 - clipV (pr (unV a1 a0 a1 a2) (clipV (dotZ a3 a4 a5 (unV a0 a0 a1 a2) (unV a1 a0 a1 a2) (unV a2 a0 a1 a2)))))) (clipV (a5 - clipV (pr (unV a2 a0 a1 a2) (clipV (dotZ a3 a4 a5 (unV a0 a0 a1 a2) (unV a1 a0 a1 a2) (unV a2 a0 a1 a2))))))) && (!clipC (dotZ a3 a4 a5 (unV a0 a0 a1 a2) (unV a1 a0 a1 a2) (unV a2 a0 a1 a2)) && (!(clipC (pr (unV a0 a0 a1 a2) (clipV (dotZ a3 a4 a5 (unV a0 a0 a1 a2) (unV a1 a0 a1 a2) (unV a2 a0 a1 a2)))) || clipC (pr (unV a1 a0 a1 a2) (clipV (dotZ a3 a4 a5 (unV a0 a0 a1 a2) (unV a1 a0 a1 a2) (unV a2 a0 a1 a2)))) || clipC (pr (unV a2 a0 a1 a2) (clipV (dotZ a3 a4 a5 (unV a0 a0 a1 a2) (unV a1 a0 a1 a2) (unV a2 a0 a1 a2))))) && (!(clipC (a3 - clipV (pr (unV a0 a0 a1 a2) (clipV (dotZ a3 a4 a5 (unV a0 a0 a1 a2) (unV a1 a0 a1 a2) (unV a2 a0 a1 a2))))) || clipC (a4 - clipV (pr (unV a1 a0 a1 a2) (clipV (dotZ a3 a4 a5 (unV a0 a0 a1 a2) (unV a1 a0 a1 a2) (unV a2 a0 a1 a2))))) || clipC (a5 - clipV (pr (unV a2 a0 a1 a2) (clipV (dotZ a3 a4 a5 (unV a0 a0 a1 a2) (unV a1 a0 a1 a2) (unV a2 a0 a1 a2)))))) && !(clipC (arZ (unV a1 a0 a1 a2) (unV (clipV (a5 - clipV (pr (unV a2 a0 a1 a2) (clipV (dotZ a3 a4 a5 (unV a0 a0 a1 a2) (unV a1 a0 a1 a2) (unV a2 a0 a1 a2)))))) (clipV (a3 - clipV (pr (unV a0 a0 a1 a2) (clipV (dotZ a3 a4 a5 (unV a0 a0 a1 a2) (unV a1 a0 a1 a2) (unV a2 a0 a1 a2)))))) (clipV (a4 - clipV (pr (unV a1 a0 a1 a2) (clipV (dotZ a3 a4 a5 (unV a0 a0 a1 a2) (unV a1 a0 a1 a2) (unV a2 a0 a1 a2)))))) (clipV (a5 - clipV (pr (unV a2 a0 a1 a2) (clipV (dotZ a3 a4 a5 (unV a0 a0 a1 a2) (unV a1 a0 a1 a2) (unV a2 a0 a1 a2))))))) (unV a2 a0 a1 a2) (unV (clipV (a4 - clipV (pr (unV a1 a0 a1 a2) (clipV (dotZ a3 a4 a5 (unV a0 a0 a1 a2) (unV a1 a0 a1 a2) (unV a2 a0 a1 a2)))))) (clipV (a3 - clipV (pr (unV a0 a0 a1 a2) (clipV (dotZ a3 a4 a5 (unV a0 a0 a1 a2) (unV a1 a0 a1 a2) (unV a2 a0 a1 a2)))))) (clipV (a4 - clipV (pr (unV a1 a0 a1 a2) (clipV (dotZ a3 a4 a5 (unV a0 a0 a1 a2) (unV a1 a0 a1 a2) (unV a2 a0 a1 a2)))))) (clipV (a5 - clipV (pr (unV a2 a0 a1 a2) (clipV (dotZ a3 a4 a5 (unV a0 a0 a1 a2) (unV a1 a0 a1 a2) (unV a2 a0 a1 a2)))))))) || clipC (arZ (unV a2 a0 a1 a2) (unV (clipV (a3 - clipV (pr (unV a0 a0 a1 a2) (clipV (dotZ a3 a4 a5 (unV a0 a0 a1 a2) (unV a1 a0 a1 a2) (unV a2 a0 a1 a2)))))) (clipV (a3 - clipV (pr (unV a0 a0 a1 a2) (clipV (dotZ a3 a4 a5 (unV a0 a0 a1 a2) (unV a1 a0 a1 a2) (unV a2 a0 a1 a2)))))) (clipV (a4 - clipV (pr (unV a1 a0 a1 a2) (clipV (dotZ a3 a4 a5 (unV a0 a0 a1 a2) (unV a1 a0 a1 a2) (unV a2 a0 a1 a2)))))) (clipV (a5 - clipV (pr (unV a2 a0 a1 a2) (clipV (dotZ a3 a4 a5 (unV a0 a0 a1 a2) (unV a1 a0 a1 a2) (unV a2 a0 a1 a2))))))) (unV a0 a0 a1 a2) (unV (clipV (a5 - clipV (pr (unV a2 a0 a1 a2) (clipV (dotZ a3 a4 a5 (unV a0 a0 a1 a2) (unV a1 a0 a1 a2) (unV a2 a0 a1 a2)))))) (clipV (a3 - clipV (pr (unV a0 a0 a1 a2) (clipV (dotZ a3 a4 a5 (unV a0 a0 a1 a2) (unV a1 a0 a1 a2) (unV a2 a0 a1 a2)))))) (clipV (a4 - clipV (pr (unV a1 a0 a1 a2) (clipV (dotZ a3 a4 a5 (unV a0 a0 a1 a2) (unV a1 a0 a1 a2) (unV a2 a0 a1 a2)))))) (clipV (a5 - clipV (pr (unV a2 a0 a1 a2) (clipV (dotZ a3 a4 a5 (unV a0 a0 a1 a2) (unV a1 a0 a1 a2) (unV a2 a0 a1 a2)))))))) || clipC (arZ (unV a0 a0 a1 a2) (unV (clipV (a4 - clipV (pr (unV a1 a0 a1 a2) (clipV (dotZ a3 a4 a5 (unV a0 a0 a1 a2) (unV a1 a0 a1 a2) (unV a2 a0 a1 a2)))))) (clipV (a3 - clipV (pr (unV a0 a0 a1 a2) (clipV (dotZ a3 a4 a5 (unV a0 a0 a1 a2) (unV a1 a0 a1 a2) (unV a2 a0 a1 a2)))))) (clipV (a4 - clipV (pr (unV a1 a0 a1 a2) (clipV (dotZ a3 a4 a5 (unV a0 a0 a1 a2) (unV a1 a0 a1 a2) (unV a2 a0 a1 a2)))))) (clipV (a5 - clipV (pr (unV a2 a0 a1 a2) (clipV (dotZ a3 a4 a5 (unV a0 a0 a1 a2) (unV a1 a0 a1 a2) (unV a2 a0 a1 a2))))))) (unV a1 a0 a1 a2) (unV (clipV (a3 - clipV (pr (unV a0 a0 a1 a2) (clipV (dotZ a3 a4 a5 (unV a0 a0 a1 a2) (unV a1 a0 a1 a2) (unV a2 a0 a1 a2)))))) (clipV (a3 - clipV (pr (unV a0 a0 a1 a2) (clipV (dotZ a3 a4 a5 (unV a0 a0 a1 a2) (unV a1 a0 a1 a2) (unV a2 a0 a1 a2)))))) (clipV (a4 - clipV (pr (unV a1 a0 a1 a2) (clipV (dotZ a3 a4 a5 (unV a0 a0 a1 a2) (unV a1 a0 a1 a2) (unV a2 a0 a1 a2)))))) (clipV (a5 - clipV (pr (unV a2 a0 a1 a2) (clipV (dotZ a3 a4 a5 (unV a0 a0 a1 a2) (unV a1 a0 a1 a2) (unV a2 a0 a1 a2)))))))))))))) := by rw [← q0]; rfl
    refine bp k0 ?_
    rw [k1, k2, k3, k4]
    cases q1 : (unitOK (clipV (a3 - clipV (pr (unV a0 a0 a1 a2) (clipV (dotZ a3 a4 a5 (unV a0 a0 a1 a2) (unV a1 a0 a1 a2) (unV a2 a0 a1 a2)))))) (clipV (a4 - clipV (pr (unV a1 a0 a1 a2) (clipV (dotZ a3 a4 a5 (unV a0 a0 a1 a2) (unV a1 a0 a1 a2) (unV a2 a0 a1 a2)))))) (clipV (a5 - clipV (pr (unV a2 a0 a1 a2) (clipV (dotZ a3 a4 a5 (unV a0 a0 a1 a2) (unV a1 a0 a1 a2) (unV a2 a0 a1 a2))))))) with
    | false => exact bp rfl (bp s0_ (by rw [ss0, ss1, ss2, ss3, ss4, ss5, ss6, ss7, ss8]; exact no (by rw [eo, q1]; simp)))
    | true =>
      refine bn rfl ?_
      cases q2 : clipC (dotZ a3 a4 a5 (unV a0 a0 a1 a2) (unV a1 a0 a1 a2) (unV a2 a0 a1 a2)) with
      | true => exact bp rfl (bp s0_ (by rw [ss0, ss1, ss2, ss3, ss4, ss5, ss6, ss7, ss8]; exact no (by rw [eo, q2]; simp)))
      | false =>
        refine bn rfl ?_
        cases q3 : (clipC (pr (unV a0 a0 a1 a2) (clipV (dotZ a3 a4 a5 (unV a0 a0 a1 a2) (unV a1 a0 a1 a2) (unV a2 a0 a1 a2)))) || clipC (pr (unV a1 a0 a1 a2) (clipV (dotZ a3 a4 a5 (unV a0 a0 a1 a2) (unV a1 a0 a1 a2) (unV a2 a0 a1 a2)))) || clipC (pr (unV a2 a0 a1 a2) (clipV (dotZ a3 a4 a5 (unV a0 a0 a1 a2) (unV a1 a0 a1 a2) (unV a2 a0 a1 a2))))) with
        | true => exact bp rfl (bp s0_ (by rw [ss0, ss1, ss2, ss3, ss4, ss5, ss6, ss7, ss8]; exact no (by rw [eo, q3]; simp)))
        | false =>
          refine bn rfl ?_
          cases q4 : (clipC (a3 - clipV (pr (unV a0 a0 a1 a2) (clipV (dotZ a3 a4 a5 (unV a0 a0 a1 a2) (unV a1 a0 a1 a2) (unV a2 a0 a1 a2))))) || clipC (a4 - clipV (pr (unV a1 a0 a1 a2) (clipV (dotZ a3 a4 a5 (unV a0 a0 a1 a2) (unV a1 a0 a1 a2) (unV a2 a0 a1 a2))))) || clipC (a5 - clipV (pr (unV a2 a0 a1 a2) (clipV (dotZ a3 a4 a5 (unV a0 a0 a1 a2) (unV a1 a0 a1 a2) (unV a2 a0 a1 a2)))))) with
          | true => exact bp rfl (bp s0_ (by rw [ss0, ss1, ss2, ss3, ss4, ss5, ss6, ss7, ss8]; exact no (by rw [eo, q4]; simp)))
          | false =>
            refine bn rfl ?_
            cases q5 : (clipC (arZ (unV a1 a0 a1 a2) (unV (clipV (a5 - clipV (pr (unV a2 a0 a1 a2) (clipV (dotZ a3 a4 a5 (unV a0 a0 a1 a2) (unV a1 a0 a1 a2) (unV a2 a0 a1 a2)))))) (clipV (a3 - clipV (pr (unV a0 a0 a1 a2) (clipV (dotZ a3 a4 a5 (unV a0 a0 a1 a2) (unV a1 a0 a1 a2) (unV a2 a0 a1 a2)))))) (clipV (a4 - clipV (pr (unV a1 a0 a1 a2) (clipV (dotZ a3 a4 a5 (unV a0 a0 a1 a2) (unV a1 a0 a1 a2) (unV a2 a0 a1 a2)))))) (clipV (a5 - clipV (pr (unV a2 a0 a1 a2) (clipV (dotZ a3 a4 a5 (unV a0 a0 a1 a2) (unV a1 a0 a1 a2) (unV a2 a0 a1 a2))))))) (unV a2 a0 a1 a2) (unV (clipV (a4 - clipV (pr (unV a1 a0 a1 a2) (clipV (dotZ a3 a4 a5 (unV a0 a0 a1 a2) (unV a1 a0 a1 a2) (unV a2 a0 a1 a2)))))) (clipV (a3 - clipV (pr (unV a0 a0 a1 a2) (clipV (dotZ a3 a4 a5 (unV a0 a0 a1 a2) (unV a1 a0 a1 a2) (unV a2 a0 a1 a2)))))) (clipV (a4 - clipV (pr (unV a1 a0 a1 a2) (clipV (dotZ a3 a4 a5 (unV a0 a0 a1 a2) (unV a1 a0 a1 a2) (unV a2 a0 a1 a2)))))) (clipV (a5 - clipV (pr (unV a2 a0 a1 a2) (clipV (dotZ a3 a4 a5 (unV a0 a0 a1 a2) (unV a1 a0 a1 a2) (unV a2 a0 a1 a2)))))))) || clipC (arZ (unV a2 a0 a1 a2) (unV (clipV (a3 - clipV (pr (unV a0 a0 a1 a2) (clipV (dotZ a3 a4 a5 (unV a0 a0 a1 a2) (unV a1 a0 a1 a2) (unV a2 a0 a1 a2)))))) (clipV (a3 - clipV (pr (unV a0 a0 a1 a2) (clipV (dotZ a3 a4 a5 (unV a0 a0 a1 a2) (unV a1 a0 a1 a2) (unV a2 a0 a1 a2)))))) (clipV (a4 - clipV (pr (unV a1 a0 a1 a2) (clipV (dotZ a3 a4 a5 (unV a0 a0 a1 a2) (unV a1 a0 a1 a2) (unV a2 a0 a1 a2)))))) (clipV (a5 - clipV (pr (unV a2 a0 a1 a2) (clipV (dotZ a3 a4 a5 (unV a0 a0 a1 a2) (unV a1 a0 a1 a2) (unV a2 a0 a1 a2))))))) (unV a0 a0 a1 a2) (unV (clipV (a5 - clipV (pr (unV a2 a0 a1 a2) (clipV (dotZ a3 a4 a5 (unV a0 a0 a1 a2) (unV a1 a0 a1 a2) (unV a2 a0 a1 a2)))))) (clipV (a3 - clipV (pr (unV a0 a0 a1 a2) (clipV (dotZ a3 a4 a5 (unV a0 a0 a1 a2) (unV a1 a0 a1 a2) (unV a2 a0 a1 a2)))))) (clipV (a4 - clipV (pr (unV a1 a0 a1 a2) (clipV (dotZ a3 a4 a5 (unV a0 a0 a1 a2) (unV a1 a0 a1 a2) (unV a2 a0 a1 a2)))))) (clipV (a5 - clipV (pr (unV a2 a0 a1 a2) (clipV (dotZ a3 a4 a5 (unV a0 a0 a1 a2) (unV a1 a0 a1 a2) (unV a2 a0 a1 a2)))))))) || clipC (arZ (unV a0 a0 a1 a2) (unV (clipV (a4 - clipV (pr (unV a1 a0 a1 a2) (clipV (dotZ a3 a4 a5 (unV a0 a0 a1 a2) (unV a1 a0 a1 a2) (unV a2 a0 a1 a2)))))) (clipV (a3 - clipV (pr (unV a0 a0 a1 a2) (clipV (dotZ a3 a4 a5 (unV a0 a0 a1 a2) (unV a1 a0 a1 a2) (unV a2 a0 a1 a2)))))) (clipV (a4 - clipV (pr (unV a1 a0 a1 a2) (clipV (dotZ a3 a4 a5 (unV a0 a0 a1 a2) (unV a1 a0 a1 a2) (unV a2 a0 a1 a2)))))) (clipV (a5 - clipV (pr (unV a2 a0 a1 a2) (clipV (dotZ a3 a4 a5 (unV a0 a0 a1 a2) (unV a1 a0 a1 a2) (unV a2 a0 a1 a2))))))) (unV a1 a0 a1 a2) (unV (clipV (a3 - clipV (pr (unV a0 a0 a1 a2) (clipV (dotZ a3 a4 a5 (unV a0 a0 a1 a2) (unV a1 a0 a1 a2) (unV a2 a0 a1 a2)))))) (clipV (a3 - clipV (pr (unV a0 a0 a1 a2) (clipV (dotZ a3 a4 a5 (unV a0 a0 a1 a2) (unV a1 a0 a1 a2) (unV a2 a0 a1 a2)))))) (clipV (a4 - clipV (pr (unV a1 a0 a1 a2) (clipV (dotZ a3 a4 a5 (unV a0 a0 a1 a2) (unV a1 a0 a1 a2) (unV a2 a0 a1 a2)))))) (clipV (a5 - clipV (pr (unV a2 a0 a1 a2) (clipV (dotZ a3 a4 a5 (unV a0 a0 a1 a2) (unV a1 a0 a1 a2) (unV a2 a0 a1 a2))))))))) with
            | true => exact bp rfl (bp s0_ (by rw [ss0, ss1, ss2, ss3, ss4, ss5, ss6, ss7, ss8]; exact no (by rw [eo, q5]; simp)))
            | false =>
              refine bn rfl ?_
              exact yes (by rw [eo, q1, q2, q3, q4, q5]; rfl)
theorem a_mat_Ortho (F : Nat) (hF : 200 ≤ F) {a0 a1 a2 a3 a4 a5 a6 a7 a8 : Int} (ha0 : I64 a0) (ha1 : I64 a1) (ha2 : I64 a2) (ha3 : I64 a3) (ha4 : I64 a4) (ha5 : I64 a5) (ha6 : I64 a6) (ha7 : I64 a7) (ha8 : I64 a8) : ok_w F a0 a1 a2 a3 a4 a5 a6 a7 a8 = true ∧ o_w_0 F a0 a1 a2 a3 a4 a5 a6 a7 a8 = ort0 a0 a1 a2 a3 a4 a5 a6 a7 a8 ∧ o_w_1 F a0 a1 a2 a3 a4 a5 a6 a7 a8 = ort1 a0 a1 a2 a3 a4 a5 a6 a7 a8 ∧ o_w_2 F a0 a1 a2 a3 a4 a5 a6 a7 a8 = ort2 a0 a1 a2 a3 a4 a5 a6 a7 a8 ∧ o_w_3 F a0 a1 a2 a3 a4 a5 a6 a7 a8 = ort3 a0 a1 a2 a3 a4 a5 a6 a7 a8 ∧ o_w_4 F a0 a1 a2 a3 a4 a5 a6 a7 a8 = ort4 a0 a1 a2 a3 a4 a5 a6 a7 a8 ∧ o_w_5 F a0 a1 a2 a3 a4 a5 a6 a7 a8 = ort5 a0 a1 a2 a3 a4 a5 a6 a7 a8 ∧ o_w_6 F a0 a1 a2 a3 a4 a5 a6 a7 a8 = ort6 a0 a1 a2 a3 a4 a5 a6 a7 a8 ∧ o_w_7 F a0 a1 a2 a3 a4 a5 a6 a7 a8 = ort7 a0 a1 a2 a3 a4 a5 a6 a7 a8 ∧ o_w_8 F a0 a1 a2 a3 a4 a5 a6 a7 a8 = ort8 a0 a1 a2 a3 a4 a5 a6 a7 a8 ∧ o_w_9 F a0 a1 a2 a3 a4 a5 a6 a7 a8 = ortC a0 a1 a2 a3 a4 a5 a6 a7 a8 := k_w F _ _ _ _ _ _ _ _ _ (f_mat_Ortho' F hF ha0 ha1 ha2 ha3 ha4 ha5 ha6 ha7 ha8)
end Go.Xv
namespace Go.Xv
structure Cx where
  re : Rat
  im : Rat
namespace Cx
def mul (a b : Cx) : Cx := ⟨a.re * b.re - a.im * b.im, a.re * b.im + a.im * b.re⟩
def add (a b : Cx) : Cx := ⟨a.re + b.re, a.im + b.im⟩
def sub (a b : Cx) : Cx := ⟨a.re - b.re, a.im - b.im⟩
def cj (a : Cx) : Cx := ⟨a.re, -a.im⟩
def sc (r : Rat) (a : Cx) : Cx := ⟨r * a.re, r * a.im⟩
def one : Cx := ⟨1, 0⟩
def n2 (a : Cx) : Rat := a.re * a.re + a.im * a.im
theorem eqC {a b : Cx} (h1 : a.re = b.re) (h2 : a.im = b.im) : a = b := by cases a; cases b; simp_all
theorem mul_comm (a b : Cx) : mul a b = mul b a := by apply eqC <;> simp only [mul] <;> grind
theorem mul_assoc (a b c : Cx) : mul (mul a b) c = mul a (mul b c) := by apply eqC <;> simp only [mul] <;> grind
theorem mul_one (a : Cx) : mul a one = a := by apply eqC <;> simp only [mul, one] <;> grind
theorem one_mul (a : Cx) : mul one a = a := by apply eqC <;> simp only [mul, one] <;> grind
theorem n2_mul (a b : Cx) : n2 (mul a b) = n2 a * n2 b := by simp only [mul, n2]; grind
theorem n2_cj (a : Cx) : n2 (cj a) = n2 a := by simp only [cj, n2]; grind
theorem cj_mul (a b : Cx) : cj (mul a b) = mul (cj a) (cj b) := by apply eqC <;> simp only [mul, cj] <;> grind
theorem cj_cj (a : Cx) : cj (cj a) = a := by apply eqC <;> simp only [cj] <;> grind
theorem mul_cj (a : Cx) : mul a (cj a) = ⟨n2 a, 0⟩ := by apply eqC <;> simp only [mul, cj, n2] <;> grind
theorem sq_nn (a : Rat) : 0 ≤ a * a := by
  rcases Rat.le_total (a := 0) (b := a) with h | h
  · exact Rat.mul_nonneg h h
  · have := Rat.mul_nonneg (a := -a) (b := -a) (by grind) (by grind)
    grind
theorem n2_nn (a : Cx) : 0 ≤ n2 a := by
  have := sq_nn a.re
  have := sq_nn a.im
  simp only [n2]; grind
theorem le_of_sq {x y : Rat} (hy : 0 ≤ y) (h : x * x ≤ y * y) : x ≤ y := by
  rcases Rat.le_total (a := x) (b := y) with hx | hx
  · exact hx
  · by_cases he : x = y
    · grind
    · have hlt : 0 < x - y := by grind
      have h0 : 0 < x := by grind
      have h1 := Rat.mul_pos hlt h0
      have h2 := Rat.mul_nonneg (Rat.le_of_lt hlt) hy
      grind
theorem sq_le_sq {x y : Rat} (hx : 0 ≤ x) (h : x ≤ y) : x * x ≤ y * y := by
  have h1 := Rat.mul_nonneg hx (show 0 ≤ y - x by grind)
  have h2 := Rat.mul_nonneg (show 0 ≤ y by grind) (show 0 ≤ y - x by grind)
  grind
/-- not longer than -/
def Nm (a : Cx) (e : Rat) : Prop := 0 ≤ e ∧ n2 a ≤ e * e
theorem Nm.mono {a : Cx} {e f : Rat} (h : Nm a e) (k : e ≤ f) : Nm a f := by
  refine ⟨by have := h.1; grind, ?_⟩
  have := sq_le_sq h.1 k
  have := h.2
  grind
theorem Nm.add {a b : Cx} {e f : Rat} (h : Nm a e) (k : Nm b f) : Nm (add a b) (e + f) := by
  obtain ⟨h1, h2⟩ := h
  obtain ⟨k1, k2⟩ := k
  refine ⟨by grind, ?_⟩
  have hd : a.re * b.re + a.im * b.im ≤ e * f := by
    refine le_of_sq (Rat.mul_nonneg h1 k1) ?_
    have e1 := sq_nn (a.re * b.im - a.im * b.re)
    have e2 : (a.re * b.re + a.im * b.im) * (a.re * b.re + a.im * b.im) + (a.re * b.im - a.im * b.re) * (a.re * b.im - a.im * b.re) = n2 a * n2 b := by simp only [n2]; grind
    have e3 : n2 a * n2 b ≤ (e * e) * n2 b := Rat.mul_le_mul_of_nonneg_right h2 (n2_nn b)
    have e4 : (e * e) * n2 b ≤ (e * e) * (f * f) := Rat.mul_le_mul_of_nonneg_left k2 (sq_nn e)
    grind
  simp only [Cx.add, n2] at *
  grind
theorem Nm.mul {a b : Cx} {e f : Rat} (h : Nm a e) (k : Nm b f) : Nm (mul a b) (e * f) := by
  refine ⟨Rat.mul_nonneg h.1 k.1, ?_⟩
  rw [n2_mul]
  have e3 : n2 a * n2 b ≤ (e * e) * n2 b := Rat.mul_le_mul_of_nonneg_right h.2 (n2_nn b)
  have e4 : (e * e) * n2 b ≤ (e * e) * (f * f) := Rat.mul_le_mul_of_nonneg_left k.2 (sq_nn e)
  grind
theorem Nm.cj {a : Cx} {e : Rat} (h : Nm a e) : Nm (cj a) e := ⟨h.1, by rw [n2_cj]; exact h.2⟩
theorem Nm.neg {a b : Cx} {e : Rat} (h : Nm (sub a b) e) : Nm (sub b a) e := by
  refine ⟨h.1, ?_⟩
  have := h.2
  simp only [sub, n2] at *
  grind
theorem Nm.sc {a : Cx} {e r : Rat} (hr : 0 ≤ r) (h : Nm a e) : Nm (sc r a) (r * e) := by
  refine ⟨Rat.mul_nonneg hr h.1, ?_⟩
  have e1 := Rat.mul_le_mul_of_nonneg_left h.2 (sq_nn r)
  simp only [Cx.sc, n2] at *
  grind
theorem Nm.trans {a b c : Cx} {e f : Rat} (h : Nm (sub a b) e) (k : Nm (sub b c) f) : Nm (sub a c) (e + f) := by
  have := h.add k
  have e : Cx.add (sub a b) (sub b c) = sub a c := by apply eqC <;> simp only [Cx.add, sub] <;> grind
  rwa [e] at this
theorem Nm.re {a : Cx} {e : Rat} (h : Nm a e) : a.re ≤ e ∧ -e ≤ a.re := by
  have h1 := sq_nn a.im
  have h2 := h.2
  simp only [n2] at h2
  constructor
  · exact le_of_sq h.1 (by grind)
  · have := le_of_sq (x := -a.re) h.1 (by grind)
    grind
theorem Nm.im {a : Cx} {e : Rat} (h : Nm a e) : a.im ≤ e ∧ -e ≤ a.im := by
  have h1 := sq_nn a.re
  have h2 := h.2
  simp only [n2] at h2
  constructor
  · exact le_of_sq h.1 (by grind)
  · have := le_of_sq (x := -a.im) h.1 (by grind)
    grind
theorem Nm.of {a : Cx} {x y : Rat} (hx : a.re ≤ x) (hx' : -x ≤ a.re) (hy : a.im ≤ y) (hy' : -y ≤ a.im) : Nm a (x + y) := by
  have h0 : 0 ≤ x := by grind
  have k0 : 0 ≤ y := by grind
  refine ⟨by grind, ?_⟩
  have h1 : a.re * a.re ≤ x * x := by
    have := Rat.mul_nonneg (show 0 ≤ x - a.re by grind) (show 0 ≤ x + a.re by grind)
    grind
  have k1 : a.im * a.im ≤ y * y := by
    have := Rat.mul_nonneg (show 0 ≤ y - a.im by grind) (show 0 ≤ y + a.im by grind)
    grind
  have := Rat.mul_nonneg h0 k0
  simp only [n2]
  grind
/-- 1.5 is enough for two parts of at most one each -/
theorem Nm.unit {a : Cx} (hx : a.re ≤ 1) (hx' : -1 ≤ a.re) (hy : a.im ≤ 1) (hy' : -1 ≤ a.im) : Nm a (3 / 2) := by
  refine ⟨by grind, ?_⟩
  have h1 : a.re * a.re ≤ 1 := by
    have := Rat.mul_nonneg (show 0 ≤ 1 - a.re by grind) (show 0 ≤ 1 + a.re by grind)
    grind
  have k1 : a.im * a.im ≤ 1 := by
    have := Rat.mul_nonneg (show 0 ≤ 1 - a.im by grind) (show 0 ≤ 1 + a.im by grind)
    grind
  simp only [n2]
  grind
/-- what has the length 1 -/
def U (a : Cx) : Prop := n2 a = 1
theorem U.nm {a : Cx} (h : U a) : Nm a 1 := ⟨by grind, by unfold U at h; grind⟩
theorem U.mul {a b : Cx} (h : U a) (k : U b) : U (mul a b) := by unfold U at *; rw [n2_mul, h, k]; grind
theorem U.cj {a : Cx} (h : U a) : U (cj a) := by unfold U at *; rw [n2_cj, h]
theorem U.mul_cj {a : Cx} (h : U a) : Cx.mul a (Cx.cj a) = one := by rw [Cx.mul_cj]; unfold U at h; rw [h]; rfl
theorem U_one : U one := by simp only [U, n2, one]; grind
/-- to turn changes no length -/
theorem Nm.turn {a u : Cx} {e : Rat} (h : Nm a e) (k : U u) : Nm (Cx.mul a u) e := by
  have := h.mul k.nm
  rwa [Rat.mul_one] at this
theorem sub_mul (a b c : Cx) : mul (sub a b) c = sub (mul a c) (mul b c) := by apply eqC <;> simp only [mul, sub] <;> grind
theorem mul_sub (a b c : Cx) : mul c (sub a b) = sub (mul c a) (mul c b) := by apply eqC <;> simp only [mul, sub] <;> grind
end Cx
end Go.Xv
namespace Go.Xv
namespace Cx
def wA : Rat := 1329227995784915872903807060280344576
def wB : Rat := 972275833250902676855126013
def w : Cx := ⟨(wA * wA - wB * wB) / (wA * wA + wB * wB), 2 * wA * wB / (wA * wA + wB * wB)⟩
theorem w_U : U w := by unfold U; decide +kernel
def V : Nat → Cx
  | 0 => one
  | n + 1 => mul (V n) w
theorem V_U : ∀ n, U (V n)
  | 0 => U_one
  | n + 1 => (V_U n).mul w_U
theorem V_add (n : Nat) : ∀ m, V (n + m) = mul (V n) (V m)
  | 0 => (mul_one _).symm
  | m + 1 => by
    show mul (V (n + m)) w = mul (V n) (mul (V m) w)
    rw [V_add n m, mul_assoc]
def VI (n : Int) : Cx := mul (V n.toNat) (cj (V (-n).toNat))
theorem cj_one : cj one = one := by apply eqC <;> simp only [cj, one] <;> grind
theorem VI_nat (n : Nat) : VI n = V n := by
  unfold VI
  rw [Int.toNat_natCast, show (-(n : Int)).toNat = 0 by omega]
  show mul (V n) (cj one) = V n
  rw [cj_one, mul_one]
theorem VI_sub (a b : Nat) : VI ((a : Int) - b) = mul (V a) (cj (V b)) := by
  unfold VI
  rcases Nat.le_total b a with h | h
  · obtain ⟨d, rfl⟩ : ∃ d, a = d + b := ⟨a - b, by omega⟩
    rw [show (((d + b : Nat) : Int) - b).toNat = d by omega, show (-(((d + b : Nat) : Int) - b)).toNat = 0 by omega, V_add, mul_assoc, (V_U b).mul_cj]
    show mul (V d) (cj one) = _
    rw [cj_one]
  · obtain ⟨d, rfl⟩ : ∃ d, b = a + d := ⟨b - a, by omega⟩
    rw [show ((a : Int) - ((a + d : Nat) : Int)).toNat = 0 by omega, show (-((a : Int) - ((a + d : Nat) : Int))).toNat = d by omega, V_add, cj_mul, ← mul_assoc, (V_U a).mul_cj]
    rfl
theorem int_sub (n : Int) : ∃ a b : Nat, n = (a : Int) - b := ⟨n.toNat, (-n).toNat, by omega⟩
theorem VI_add (n m : Int) : VI (n + m) = mul (VI n) (VI m) := by
  obtain ⟨a, b, rfl⟩ := int_sub n
  obtain ⟨c, d, rfl⟩ := int_sub m
  rw [show (a : Int) - b + (c - d) = ((a + c : Nat) : Int) - ((b + d : Nat) : Int) by omega, VI_sub, VI_sub, VI_sub, V_add, V_add, cj_mul]
  rw [mul_assoc, mul_assoc, ← mul_assoc (V c), mul_comm (V c) (cj (V b)), mul_assoc (cj (V b))]
theorem VI_neg (n : Int) : VI (-n) = cj (VI n) := by
  obtain ⟨a, b, rfl⟩ := int_sub n
  rw [show -((a : Int) - b) = (b : Int) - a by omega, VI_sub, VI_sub, cj_mul, cj_cj, mul_comm]
theorem VI_U (n : Int) : U (VI n) := (V_U _).mul (V_U _).cj
theorem VI_zero : VI 0 = one := by rw [show (0 : Int) = ((0 : Nat) : Int) by rfl, VI_nat]; rfl
def Q : Int := 340282366920938463463374607431768211456
def q : Rat := 340282366920938463463374607431768211456
theorem Qq : ((Q : Int) : Rat) = q := by decide +kernel
theorem q0 : (0 : Rat) < q := by decide +kernel
def r : Rat := 1 / q
theorem qr : q * r = 1 := by decide +kernel
theorem r0 : (0 : Rat) < r := by decide +kernel
def toC (a b : Int) : Cx := ⟨(a : Rat) * r, (b : Rat) * r⟩
def Ap (z : Cx) (a b e : Int) : Prop := 0 ≤ e ∧ Nm (sub z (toC a b)) ((e : Rat) * r)
theorem cast_le {a b : Int} (h : a ≤ b) : (a : Rat) ≤ (b : Rat) := Rat.intCast_le_intCast.2 h
theorem floor_q (x : Int) : ((x / Q : Int) : Rat) * q ≤ x ∧ (x : Rat) ≤ ((x / Q : Int) : Rat) * q + q := by
  have h1 := Int.mul_ediv_add_emod x Q
  have h2 := Int.emod_nonneg x (show Q ≠ 0 by decide)
  have h3 := Int.emod_lt_of_pos x (show 0 < Q by decide)
  rw [← Qq, ← Rat.intCast_mul, ← Rat.intCast_add]
  refine ⟨cast_le ?_, cast_le ?_⟩
  · rw [Int.mul_comm]; omega
  · rw [Int.mul_comm]; omega
theorem floor_r (x : Int) : ((x / Q : Int) : Rat) ≤ x * r ∧ (x : Rat) * r ≤ ((x / Q : Int) : Rat) + 1 := by
  obtain ⟨h1, h2⟩ := floor_q x
  have m1 := Rat.mul_le_mul_of_nonneg_right (c := r) h1 (Rat.le_of_lt r0)
  have m2 := Rat.mul_le_mul_of_nonneg_right (c := r) h2 (Rat.le_of_lt r0)
  rw [Rat.mul_assoc, qr, Rat.mul_one] at m1
  rw [Rat.add_mul, Rat.mul_assoc, qr, Rat.mul_one] at m2
  exact ⟨m1, m2⟩
theorem Ap.mul {z y : Cx} {a b e c d f : Int} (hz : U z) (hy : U y) (h : Ap z a b e) (k : Ap y c d f) :
    Ap (mul z y) ((a * c - b * d) / Q) ((a * d + b * c) / Q) (e + f + e * f / Q + 3) := by
  obtain ⟨h0, h1⟩ := h
  obtain ⟨k0, k1⟩ := k
  have hef : 0 ≤ e * f / Q := Int.ediv_nonneg (Int.mul_nonneg h0 k0) (by decide)
  refine ⟨by omega, ?_⟩
  have e1 : Nm (toC a b) (1 + (e : Rat) * r) := by
    have := (hz.nm).add h1.neg
    have e : Cx.add z (sub (toC a b) z) = toC a b := by apply eqC <;> simp only [Cx.add, sub] <;> grind
    rwa [e] at this
  have e2 := (h1.turn hy).add (e1.mul k1)
  have f1 := floor_r (a * c - b * d)
  have f2 := floor_r (a * d + b * c)
  have f3 := floor_r (e * f)
  simp only [Rat.intCast_sub, Rat.intCast_add, Rat.intCast_mul] at f1 f2 f3
  have e3 : Nm (sub (Cx.mul (toC a b) (toC c d)) (toC ((a * c - b * d) / Q) ((a * d + b * c) / Q))) (r * (3 / 2)) := by
    have g : Nm ⟨((a : Rat) * c - b * d) * r - ((a * c - b * d) / Q : Int), ((a : Rat) * d + b * c) * r - ((a * d + b * c) / Q : Int)⟩ (3 / 2) := by
      apply Nm.unit <;> simp only <;> grind
    have g2 := g.sc (r := r) (Rat.le_of_lt r0)
    have ee : Cx.sc r ⟨((a : Rat) * c - b * d) * r - ((a * c - b * d) / Q : Int), ((a : Rat) * d + b * c) * r - ((a * d + b * c) / Q : Int)⟩ = sub (Cx.mul (toC a b) (toC c d)) (toC ((a * c - b * d) / Q) ((a * d + b * c) / Q)) := by
      apply eqC <;> simp only [Cx.sc, Cx.mul, sub, toC] <;> grind
    rwa [ee] at g2
  have e4 := e2.add e3
  have ee : Cx.add (Cx.add (Cx.mul (sub z (toC a b)) y) (Cx.mul (toC a b) (sub y (toC c d)))) (sub (Cx.mul (toC a b) (toC c d)) (toC ((a * c - b * d) / Q) ((a * d + b * c) / Q))) = sub (Cx.mul z y) (toC ((a * c - b * d) / Q) ((a * d + b * c) / Q)) := by
    apply eqC <;> simp only [Cx.add, Cx.mul, sub] <;> grind
  rw [ee] at e4
  refine e4.mono ?_
  have m5 := Rat.mul_le_mul_of_nonneg_right (c := r) f3.2 (Rat.le_of_lt r0)
  have hr := r0
  simp only [Rat.intCast_add]
  generalize ((e * f / Q : Int) : Rat) = g at *
  have t3 : ((3 : Int) : Rat) = 3 := by decide +kernel
  rw [t3]
  grind
def sq3 (p : Int × Int × Int) : Int × Int × Int := ((p.1 * p.1 - p.2.1 * p.2.1) / Q, (p.1 * p.2.1 + p.2.1 * p.1) / Q, p.2.2 + p.2.2 + p.2.2 * p.2.2 / Q + 3)
def w0 : Int := 340282366920938463099250474440462542326
def w1 : Int := 497805226624462170283482630030
def mw (p : Int × Int × Int) : Int × Int × Int := ((p.1 * w0 - p.2.1 * w1) / Q, (p.1 * w1 + p.2.1 * w0) / Q, p.2.2 + 2 + p.2.2 * 2 / Q + 3)
theorem w_Ap : Ap w w0 w1 2 := by
  refine ⟨by decide, ?_, ?_⟩
  · decide +kernel
  · decide +kernel
def pw : Nat → Nat → Int × Int × Int
  | 0, _ => (Q, 0, 0)
  | f + 1, n => if n = 0 then (Q, 0, 0) else if n % 2 = 1 then mw (sq3 (pw f (n / 2))) else sq3 (pw f (n / 2))
theorem one_Ap : Ap one Q 0 0 := by
  refine ⟨by decide, ?_, ?_⟩
  · decide +kernel
  · decide +kernel
theorem pw_ok : ∀ (f n : Nat), n < 2 ^ f → Ap (V n) (pw f n).1 (pw f n).2.1 (pw f n).2.2
  | 0, n, h => by
    obtain rfl : n = 0 := by simp at h; omega
    exact one_Ap
  | f + 1, n, h => by
    rw [pw]
    by_cases h0 : n = 0
    · rw [if_pos h0]; subst h0; exact one_Ap
    · rw [if_neg h0]
      have ih := pw_ok f (n / 2) (by rw [Nat.pow_succ] at h; omega)
      have hs := Ap.mul (V_U _) (V_U _) ih ih
      rw [← V_add] at hs
      by_cases h1 : n % 2 = 1
      · rw [if_pos h1]
        have hm := Ap.mul (V_U _) w_U hs w_Ap
        rw [show n = (n / 2 + n / 2) + 1 by omega]
        rw [show ((n / 2 + n / 2) + 1) / 2 = n / 2 by omega]
        exact hm
      · rw [if_neg h1]
        rw [show n / 2 + n / 2 = n by omega] at hs
        exact hs
end Cx
end Go.Xv
namespace Go.Xv
namespace Cx
theorem Ap.bd {z : Cx} {a b e : Int} (h : Ap z a b e) : (z.re ≤ ((a + e : Int) : Rat) * r ∧ ((a - e : Int) : Rat) * r ≤ z.re) ∧ (z.im ≤ ((b + e : Int) : Rat) * r ∧ ((b - e : Int) : Rat) * r ≤ z.im) := by
  obtain ⟨_, h⟩ := h
  have h1 := h.re
  have h2 := h.im
  simp only [sub, toC] at h1 h2
  simp only [Rat.intCast_sub, Rat.intCast_add]
  grind
theorem pw_bd (f n : Nat) (h : n < 2 ^ f) : ((V n).re ≤ (((pw f n).1 + (pw f n).2.2 : Int) : Rat) * r ∧ (((pw f n).1 - (pw f n).2.2 : Int) : Rat) * r ≤ (V n).re) ∧ ((V n).im ≤ (((pw f n).2.1 + (pw f n).2.2 : Int) : Rat) * r ∧ (((pw f n).2.1 - (pw f n).2.2 : Int) : Rat) * r ≤ (V n).im) := (pw_ok f n h).bd
def Lw : Rat := 147 / 100000000000
theorem lip1 : Nm (sub w one) Lw := ⟨by decide +kernel, by decide +kernel⟩
theorem lip (m : Nat) : ∀ d : Nat, Nm (sub (V (m + d)) (V m)) ((d : Rat) * Lw)
  | 0 => by
    refine ⟨by simp, ?_⟩
    simp only [Nat.add_zero, sub, n2]; grind
  | d + 1 => by
    have h := lip1.turn (V_U (m + d))
    have k := (lip m d).add h
    have e : Cx.add (sub (V (m + d)) (V m)) (mul (sub w one) (V (m + d))) = sub (V (m + (d + 1))) (V m) := by
      rw [← Nat.add_assoc, show V (m + d + 1) = mul (V (m + d)) w from rfl]
      apply eqC <;> simp only [Cx.add, sub, mul, one] <;> grind
    rw [e] at k
    refine k.mono ?_
    rw [Rat.natCast_add]
    show _ ≤ ((d : Rat) + ((1 : Nat) : Rat)) * Lw
    have : ((1 : Nat) : Rat) = 1 := by decide +kernel
    rw [this]
    grind
theorem cast_leN {a b : Nat} (h : a ≤ b) : (a : Rat) ≤ (b : Rat) := Rat.natCast_le_natCast.2 h
theorem lipB (m d : Nat) (h : d ≤ 268435456) : Nm (sub (V (m + d)) (V m)) (2 / 5) := by
  refine (lip m d).mono ?_
  have h1 := Rat.mul_le_mul_of_nonneg_right (c := Lw) (cast_leN h) (by decide +kernel)
  have h2 : ((268435456 : Nat) : Rat) * Lw ≤ 2 / 5 := by decide +kernel
  grind
theorem half_re {m : Nat} (h : m ≤ 536870912) : 1 / 2 ≤ (V m).re := by
  rcases Nat.le_total m 268435456 with h1 | h1
  · have k := (lipB 0 m h1).re
    rw [Nat.zero_add] at k
    simp only [sub, V, one] at k
    grind
  · obtain ⟨d, rfl⟩ : ∃ d, m = 268435456 + d := ⟨m - 268435456, by omega⟩
    have k := (lipB 268435456 d (by omega)).re
    have g := (pw_bd 30 268435456 (by decide)).1.2
    have g2 : 9 / 10 ≤ (((pw 30 268435456).1 - (pw 30 268435456).2.2 : Int) : Rat) * r := by decide +kernel
    have g3 := Rat.le_trans g2 g
    clear g g2
    simp only [sub] at k
    generalize (V (268435456 + d)).re = x at *
    generalize (V 268435456).re = y at *
    grind
/-- a hair -/
def hair : Rat := 1 / 1152921504606846976
def Ci : Cx := ⟨0, 1⟩
theorem Ci_U : U Ci := by simp only [U, n2, Ci]; grind
theorem of_pw (f n : Nat) (hn : n < 2 ^ f) (c : Cx) (x y : Rat) (h1 : (((pw f n).1 + (pw f n).2.2 : Int) : Rat) * r - c.re ≤ x) (h2 : -x ≤ (((pw f n).1 - (pw f n).2.2 : Int) : Rat) * r - c.re)
    (h3 : (((pw f n).2.1 + (pw f n).2.2 : Int) : Rat) * r - c.im ≤ y) (h4 : -y ≤ (((pw f n).2.1 - (pw f n).2.2 : Int) : Rat) * r - c.im) : Nm (sub (V n) c) (x + y) := by
  obtain ⟨⟨a1, a2⟩, a3, a4⟩ := pw_bd f n hn
  apply Nm.of <;> simp only [sub] <;> grind
theorem quarter : Nm (sub (V 1073741824) Ci) hair := by
  have := of_pw 33 1073741824 (by decide) Ci (hair / 2) (hair / 2) (by decide +kernel) (by decide +kernel) (by decide +kernel) (by decide +kernel)
  exact this.mono (by decide +kernel)
theorem im_nn : ∀ {m : Nat}, m ≤ 536870912 → 0 ≤ (V m).im
  | 0, _ => by simp only [V, one]; grind
  | m + 1, h => by
    have ih := im_nn (m := m) (by omega)
    have hr := half_re (m := m) (by omega)
    have w1 : 0 ≤ w.im := by decide +kernel
    have w2 : 0 ≤ w.re := by decide +kernel
    have m1 := Rat.mul_nonneg ih w2
    have m2 := Rat.mul_nonneg (show 0 ≤ (V m).re by grind) w1
    simp only [V, mul]
    grind
/-- the first quarter -/
theorem first_q {n : Nat} (h : n ≤ 1073741824) : -hair ≤ (V n).re ∧ -hair ≤ (V n).im := by
  have h0 : 0 ≤ hair := by decide +kernel
  have h5 : hair ≤ 1 / 2 := by decide +kernel
  rcases Nat.le_total n 536870912 with h1 | h1
  · have := half_re h1
    have := im_nn h1
    grind
  · obtain ⟨m, hm⟩ : ∃ m, 1073741824 = n + m := ⟨1073741824 - n, by omega⟩
    have e : V n = mul (V 1073741824) (cj (V m)) := by
      rw [hm, V_add, mul_assoc, (V_U m).mul_cj, mul_one]
    have hq := quarter.turn (V_U m).cj
    rw [sub_mul, ← e] at hq
    have k1 := hq.re
    have k2 := hq.im
    have a1 := half_re (m := m) (by omega)
    have a2 := im_nn (m := m) (by omega)
    simp only [sub, mul, Ci, cj] at k1 k2
    grind
end Cx
end Go.Xv
namespace Go.Xv
namespace Cx
/-- how much longer the steps make it, over 2^64 -/
def gL : List Int := [18446744073709551616, 26087635650665564425, 29166863343567579424, 30064514583371253785, 30298483206077454146, 30357602253914638508, 30372421684747952847, 30376129029489835462, 30377056021236072306, 30377287778897074256, 30377345718920132028, 30377360203963884889, 30377363825227197387, 30377364730543173905, 30377364956872177309, 30377365013454428739, 30377365027599991633, 30377365031136382359, 30377365032020480041, 30377365032241504461, 30377365032296760566, 30377365032310574592, 30377365032314028099, 30377365032314891476, 30377365032315107320, 30377365032315161281, 30377365032315174771, 30377365032315178144, 30377365032315178987, 30377365032315179197, 30377365032315179250]
def uu (i : Nat) : Rat := ((gL.getD i 0 : Int) : Rat) * (1 / 18446744073709551616)
def hp (i : Nat) : Rat := 1 / 2 ^ i
def eta : Rat := 1 / 1073741824
def stepC (i : Nat) (o : Bool) : Cx := ⟨1, if o then hp i else -hp i⟩
def kp (i : Nat) : Rat := if i = 0 then 3 / 2 else 1 + hp i * hp i / 2
def chk (i : Nat) : Bool := decide (n2 (sub (sc (uu i) ⟨1, hp i⟩) (sc (uu (i + 1)) (toC (pw 30 (tA i).toNat).1 (pw 30 (tA i).toNat).2.1))) ≤ (uu (i + 1) * (9 / 10 * eta)) * (uu (i + 1) * (9 / 10 * eta))) && decide (((pw 30 (tA i).toNat).2.2 : Rat) * r ≤ 1 / 10 * eta) && decide (0 ≤ uu (i + 1)) && decide (0 ≤ uu i)
theorem chk_all : ∀ i, i < 30 → chk i = true := by decide +kernel
theorem kp_all : ∀ i, i < 30 → decide (1 + hp i * hp i ≤ kp i * kp i ∧ 0 ≤ kp i) = true := by decide +kernel
theorem tab0 {i : Nat} (h : i < 30) : Nm (sub (sc (uu i) ⟨1, hp i⟩) (sc (uu (i + 1)) (VI (tA i)))) (uu (i + 1) * eta) := by
  have hc := chk_all i h
  unfold chk at hc
  simp only [Bool.and_eq_true, decide_eq_true_eq] at hc
  obtain ⟨⟨⟨c1, c2⟩, c3⟩, c4⟩ := hc
  have ht := tA_bd i h
  have e : VI (tA i) = V (tA i).toNat := by
    have : tA i = (((tA i).toNat : Nat) : Int) := by omega
    rw [this, VI_nat]
    rfl
  rw [e]
  have h1 := (pw_ok 30 (tA i).toNat (by omega)).2.neg
  have hr : (0 : Rat) ≤ 9 / 10 * eta := by decide +kernel
  have h2 : Nm (sub (sc (uu i) ⟨1, hp i⟩) (sc (uu (i + 1)) (toC (pw 30 (tA i).toNat).1 (pw 30 (tA i).toNat).2.1))) (uu (i + 1) * (9 / 10 * eta)) := ⟨Rat.mul_nonneg c3 hr, c1⟩
  have h3 := h2.add ((h1.mono c2).sc c3)
  generalize pw 30 (tA i).toNat = p at *
  generalize V (tA i).toNat = v at *
  have ee : Cx.add (sub (sc (uu i) ⟨1, hp i⟩) (sc (uu (i + 1)) (toC p.1 p.2.1))) (sc (uu (i + 1)) (sub (toC p.1 p.2.1) v)) = sub (sc (uu i) ⟨1, hp i⟩) (sc (uu (i + 1)) v) := by
    apply eqC <;> simp only [Cx.add, sub, sc] <;> grind
  rw [ee] at h3
  have e2 : uu (i + 1) * (9 / 10 * eta) + uu (i + 1) * (1 / 10 * eta) = uu (i + 1) * eta := by grind
  rwa [e2] at h3
def dt (i : Nat) (o : Bool) : Int := if o then tA i else -tA i
theorem tab {i : Nat} (h : i < 30) (o : Bool) : Nm (sub (sc (uu i) (stepC i o)) (sc (uu (i + 1)) (VI (dt i o)))) (uu (i + 1) * eta) := by
  have h1 := tab0 h
  cases o with
  | true => exact h1
  | false =>
    have h2 := h1.cj
    have e : Cx.cj (sub (sc (uu i) ⟨1, hp i⟩) (sc (uu (i + 1)) (VI (tA i)))) = sub (sc (uu i) (stepC i false)) (sc (uu (i + 1)) (VI (dt i false))) := by
      unfold dt stepC
      simp only [Bool.false_eq_true, if_false]
      rw [VI_neg]
      apply eqC <;> simp only [Cx.cj, sub, sc] <;> grind
    rwa [e] at h2
theorem step_nm {i : Nat} (h : i < 30) (o : Bool) : Nm (stepC i o) (kp i) := by
  have hc := kp_all i h
  simp only [decide_eq_true_eq] at hc
  refine ⟨hc.2, ?_⟩
  have : n2 (stepC i o) = 1 + hp i * hp i := by
    unfold stepC
    cases o <;> simp only [n2, Bool.false_eq_true, if_false, if_true] <;> grind
  rw [this]
  exact hc.1
def cx (x y : Int) : Cx := ⟨(x : Rat), (y : Rat)⟩
theorem hp_pos (i : Nat) : 0 < hp i ∧ ((2 ^ i : Int) : Rat) * hp i = 1 := by
  unfold hp
  have h : ((2 ^ i : Int) : Rat) = 2 ^ i := by rw [Rat.intCast_pow]; rfl
  have h0 : (0 : Rat) < 2 ^ i := Rat.pow_pos (by decide +kernel)
  rw [h]
  generalize (2 : Rat) ^ i = P at *
  constructor
  · rw [Rat.div_def, Rat.one_mul]
    exact Rat.inv_pos.2 h0
  · grind
theorem floor_p (y : Int) (i : Nat) : ((y / 2 ^ i : Int) : Rat) ≤ y * hp i ∧ (y : Rat) * hp i ≤ ((y / 2 ^ i : Int) : Rat) + 1 := by
  obtain ⟨h0, h1⟩ := hp_pos i
  have hP := p2pos i
  have d1 := Int.mul_ediv_add_emod y (2 ^ i)
  have d2 := Int.emod_nonneg y (show (2 : Int) ^ i ≠ 0 by omega)
  have d3 := Int.emod_lt_of_pos y hP
  generalize (2 : Int) ^ i = P at *
  have e1 : (((y / P) * P : Int) : Rat) ≤ (y : Rat) := cast_le (by rw [Int.mul_comm]; omega)
  have e2 : (y : Rat) ≤ (((y / P) * P + P : Int) : Rat) := cast_le (by rw [Int.mul_comm]; omega)
  rw [Rat.intCast_mul] at e1
  rw [Rat.intCast_add, Rat.intCast_mul] at e2
  have m1 := Rat.mul_le_mul_of_nonneg_right (c := hp i) e1 (Rat.le_of_lt h0)
  have m2 := Rat.mul_le_mul_of_nonneg_right (c := hp i) e2 (Rat.le_of_lt h0)
  rw [Rat.mul_assoc, h1, Rat.mul_one] at m1
  rw [Rat.add_mul, Rat.mul_assoc, h1, Rat.mul_one] at m2
  exact ⟨m1, m2⟩
theorem rot_nm (i : Nat) (o : Bool) (x y : Int) : Nm (sub (cx (rotX i o x y) (rotY i o x y)) (mul (cx x y) (stepC i o))) (3 / 2) := by
  have h1 := floor_p x i
  have h2 := floor_p y i
  unfold rotX rotY stepC
  cases o
  · simp only [Bool.false_eq_true, if_false, cx, Rat.intCast_add, Rat.intCast_sub]
    apply Nm.unit <;> simp only [sub, mul] <;> grind
  · simp only [if_true, cx, Rat.intCast_add, Rat.intCast_sub]
    apply Nm.unit <;> simp only [sub, mul] <;> grind
/-- one step of what lies near -/
theorem near_step {p v : Cx} {i : Nat} {o : Bool} {x y : Int} {c e : Rat} (hi : i < 30) (hp : p = cx x y) (hv : U v) (hc : 0 ≤ c) (h : Nm (sub p (sc (c * uu i) v)) e) :
    Nm (sub (cx (rotX i o x y) (rotY i o x y)) (sc (c * uu (i + 1)) (mul v (VI (dt i o))))) (e * kp i + 3 / 2 + c * (uu (i + 1) * eta)) := by
  subst hp
  have h1 := h.mul (step_nm hi o)
  have h2 := rot_nm i o x y
  have h3 := ((tab hi o).sc hc).turn hv
  have h4 := (h1.add h2).add h3
  have ee : Cx.add (Cx.add (mul (sub (cx x y) (sc (c * uu i) v)) (stepC i o)) (sub (cx (rotX i o x y) (rotY i o x y)) (mul (cx x y) (stepC i o)))) (mul (sc c (sub (sc (uu i) (stepC i o)) (sc (uu (i + 1)) (VI (dt i o))))) v) = sub (cx (rotX i o x y) (rotY i o x y)) (sc (c * uu (i + 1)) (mul v (VI (dt i o)))) := by
    apply eqC <;> simp only [Cx.add, sub, sc, mul] <;> grind
  rwa [ee] at h4
def KK : Rat := 2608131496
theorem stepB : ∀ i : Nat, i < 30 → decide (8 * (i : Rat) * kp i + 3 / 2 + KK * (uu (i + 1) * eta) ≤ 8 * ((i : Rat) + 1)) = true := by decide +kernel
theorem bS_near (z : Int) : ∀ i, i ≤ 30 → Nm (sub (cx (bS z i).1 (bS z i).2.1) (sc (KK * uu i) (VI (z - (bS z i).2.2)))) (8 * (i : Rat))
  | 0, _ => by
    refine ⟨by decide +kernel, ?_⟩
    simp only [bS]
    rw [Int.sub_self, VI_zero]
    decide +kernel
  | i + 1, h => by
    have ih := bS_near z i (by omega)
    have hs := near_step (o := decide (0 ≤ (bS z i).2.2)) (by omega) rfl (VI_U _) (by decide +kernel) ih
    have e : z - (bS z (i + 1)).2.2 = (z - (bS z i).2.2) + dt i (decide (0 ≤ (bS z i).2.2)) := by
      simp only [bS, dt]
      by_cases hz : 0 ≤ (bS z i).2.2
      · simp only [hz, decide_true, if_true]; omega
      · simp only [hz, decide_false, Bool.false_eq_true, if_false]; omega
    rw [e, VI_add]
    have hb := stepB i (by omega)
    simp only [decide_eq_true_eq] at hb
    refine Nm.mono hs ?_
    rw [Rat.natCast_add]
    exact hb
def TZ : Nat → Int
  | 0 => 1073741824
  | i + 1 => max (tA i) (TZ i - tA i)
theorem bS_left {z : Int} (hz : 0 ≤ z ∧ z < 1073741824) : ∀ i, -TZ i ≤ (bS z i).2.2 ∧ (bS z i).2.2 ≤ TZ i
  | 0 => by simp only [bS, TZ]; omega
  | i + 1 => by
    have ih := bS_left hz i
    simp only [bS, TZ]
    split <;> omega
theorem TZ30 : TZ 30 ≤ 3 := by decide +kernel
/-- of a few parts -/
theorem few {n : Int} (h : -3 ≤ n ∧ n ≤ 3) : Nm (sub (VI n) one) (1 / 200000000) := by
  have key : ∀ m : Nat, m ≤ 3 → Nm (sub (V m) one) (1 / 200000000) := by
    intro m hm
    have h1 := lip 0 m
    rw [Nat.zero_add] at h1
    refine h1.mono ?_
    have h2 := Rat.mul_le_mul_of_nonneg_right (c := Lw) (cast_leN hm) (by decide +kernel)
    have h3 : ((3 : Nat) : Rat) * Lw ≤ 1 / 200000000 := by decide +kernel
    grind
  rcases Int.le_total 0 n with hp | hp
  · obtain ⟨m, rfl⟩ := Int.eq_ofNat_of_zero_le hp
    rw [VI_nat]
    exact key m (by omega)
  · obtain ⟨m, hm⟩ := Int.eq_ofNat_of_zero_le (show 0 ≤ -n by omega)
    have e0 : n = -(m : Int) := by omega
    subst e0
    have hc := (key m (by omega)).cj
    have e1 : Cx.cj (sub (V m) one) = sub (VI (-(m : Int))) one := by
      rw [VI_neg, VI_nat]
      apply eqC <;> simp only [Cx.cj, sub, one] <;> grind
    rwa [e1] at hc
def One : Rat := 4294967296
theorem both0 {z : Int} (hz : 0 ≤ z ∧ z < 1073741824) : Nm (sub (cx (bS z 30).1 (bS z 30).2.1) (sc One (VI z))) 263 := by
  have h1 := bS_near z 30 (by omega)
  have hl := bS_left hz 30
  have hT := TZ30
  have h2 := (few (n := (bS z 30).2.2) (by omega)).neg
  have h3 := (h2.turn (VI_U (z - (bS z 30).2.2))).sc (r := KK * uu 30) (by decide +kernel)
  have e : VI z = mul (VI (z - (bS z 30).2.2)) (VI (bS z 30).2.2) := by rw [← VI_add]; congr 1; omega
  generalize (bS z 30).2.2 = l at *
  have h4 : Nm (sub (sc (KK * uu 30) (VI z)) (sc One (VI z))) 1 := by
    have := ((VI_U z).nm).sc (r := One - KK * uu 30) (by decide +kernel)
    have e : Cx.sc (One - KK * uu 30) (VI z) = sub (sc One (VI z)) (sc (KK * uu 30) (VI z)) := by apply eqC <;> simp only [sub, sc] <;> grind
    rw [e] at this
    exact (this.neg).mono (by decide +kernel)
  have e3 : Cx.sc (KK * uu 30) (mul (sub one (VI l)) (VI (z - l))) = sub (sc (KK * uu 30) (VI (z - l))) (sc (KK * uu 30) (VI z)) := by
    rw [e]; apply eqC <;> simp only [sub, sc, mul, one] <;> grind
  rw [e3] at h3
  have h5 := (h1.trans h3).trans h4
  exact h5.mono (by decide +kernel)
theorem Nm.coord {a b : Cx} {e : Rat} (h : Nm a e) (h1 : b.re * b.re ≤ a.re * a.re) (h2 : b.im * b.im ≤ a.im * a.im) : Nm b e := by
  refine ⟨h.1, ?_⟩
  have := h.2
  simp only [n2] at *
  grind
/-- clamping goes nearer to what lies between. -/
theorem clamp_near {x : Int} {t : Rat} (h0 : 0 ≤ t) (h1 : t ≤ One) : ((cl01 x : Int) : Rat) - t = 0 ∨ (((cl01 x : Int) : Rat) - t) * (((cl01 x : Int) : Rat) - t) ≤ ((x : Rat) - t) * ((x : Rat) - t) := by
  right
  have key : ∀ c d : Rat, 0 ≤ c * d → (c * c ≤ (c + d) * (c + d)) := by
    intro c d h
    have := sq_nn d
    grind
  have hcase : ((cl01 x : Int) : Rat) = x ∨ (((cl01 x : Int) : Rat) = 0 ∧ (x : Rat) ≤ 0) ∨ (((cl01 x : Int) : Rat) = One ∧ One ≤ (x : Rat)) := by
    unfold cl01
    by_cases c1 : x < 0
    · right; left
      rw [show min (max x 0) 4294967296 = 0 by omega]
      exact ⟨rfl, cast_le (b := 0) (by omega)⟩
    · by_cases c2 : 4294967296 ≤ x
      · right; right
        rw [show min (max x 0) 4294967296 = 4294967296 by omega]
        exact ⟨rfl, cast_le (a := 4294967296) c2⟩
      · left
        rw [show min (max x 0) 4294967296 = x by omega]
  rcases hcase with h | ⟨h, k⟩ | ⟨h, k⟩
  · rw [h]; exact Rat.le_refl
  · rw [h]
    have := key (0 - t) x (by have := Rat.mul_nonneg h0 (show 0 ≤ -(x : Rat) by grind); grind)
    grind
  · rw [h]
    have := key (One - t) (x - One) (Rat.mul_nonneg (by grind) (by grind))
    grind
theorem both1 {z : Int} (hz : 0 ≤ z ∧ z < 1073741824) : Nm (sub (cx (cl01 (bS z 30).1) (cl01 (bS z 30).2.1)) (sc One (VI z))) 264 := by
  have h1 := both0 hz
  obtain ⟨m, hm⟩ := Int.eq_ofNat_of_zero_le hz.1
  have hv : VI z = V m := by rw [hm, VI_nat]
  rw [hv] at h1 ⊢
  obtain ⟨q1, q2⟩ := first_q (n := m) (by omega)
  have b1 := (V_U m).nm.re
  have b2 := (V_U m).nm.im
  generalize V m = v at *
  let f : Rat → Rat := fun t => if t < 0 then 0 else t
  have hh : (0 : Rat) ≤ hair := by decide +kernel
  have hO : (0 : Rat) ≤ One := by decide +kernel
  have hOh : One * hair ≤ 1 / 8 := by decide +kernel
  have fd : ∀ t : Rat, -hair ≤ t → t ≤ 1 → (0 ≤ One * f t ∧ One * f t ≤ One) ∧ (One * f t - One * t ≤ 1 / 8 ∧ 0 ≤ One * f t - One * t) := by
    intro t h1 h2
    by_cases hn : t < 0
    · have : f t = 0 := if_pos hn
      rw [this]
      have := Rat.mul_le_mul_of_nonneg_left h1 hO
      have := Rat.mul_le_mul_of_nonneg_left (Rat.le_of_lt hn) hO
      grind
    · have : f t = t := if_neg hn
      rw [this]
      have h3 := Rat.mul_le_mul_of_nonneg_left h2 hO
      have h4 := Rat.mul_le_mul_of_nonneg_left (show 0 ≤ t by grind) hO
      grind
  obtain ⟨⟨f1, f2⟩, f3, f4⟩ := fd v.re q1 b1.1
  obtain ⟨⟨g1, g2⟩, g3, g4⟩ := fd v.im q2 b2.1
  have hT : Nm (sub (sc One v) ⟨One * f v.re, One * f v.im⟩) (1 / 8 + 1 / 8) := by
    apply Nm.of <;> simp only [sub, sc] <;> grind
  have h2 := h1.trans hT
  have c1 := clamp_near (x := (bS z 30).1) f1 f2
  have c2 := clamp_near (x := (bS z 30).2.1) g1 g2
  have h3 : Nm (sub (cx (cl01 (bS z 30).1) (cl01 (bS z 30).2.1)) ⟨One * f v.re, One * f v.im⟩) (263 + (1 / 8 + 1 / 8)) := by
    refine h2.coord ?_ ?_
    · simp only [sub, cx]
      rcases c1 with c | c
      · rw [c, Rat.zero_mul]; exact sq_nn _
      · exact c
    · simp only [sub, cx]
      rcases c2 with c | c
      · rw [c, Rat.zero_mul]; exact sq_nn _
      · exact c
  exact (h3.trans hT.neg).mono (by decide +kernel)
theorem VI_quarter : Nm (sub (VI 1073741824) Ci) hair := by
  rw [show (1073741824 : Int) = ((1073741824 : Nat) : Int) by rfl, VI_nat]
  exact quarter
/-- a quarter on -/
theorem on_quarter {c s n : Int} {e : Rat} (h : Nm (sub (cx c s) (sc One (VI n))) e) : Nm (sub (cx (-s) c) (sc One (VI (n + 1073741824)))) (e + 1 / 8) := by
  have h1 := h.turn Ci_U
  have h2 := ((VI_quarter.neg).turn (VI_U n)).sc (r := One) (by decide +kernel)
  have h3 := h1.add h2
  rw [VI_add]
  have ee : Cx.add (mul (sub (cx c s) (sc One (VI n))) Ci) (sc One (mul (sub Ci (VI 1073741824)) (VI n))) = sub (cx (-s) c) (sc One (mul (VI n) (VI 1073741824))) := by
    apply eqC <;> simp only [Cx.add, sub, sc, mul, cx, Ci, Rat.intCast_neg] <;> grind
  rw [ee] at h3
  exact h3.mono (by have : One * hair ≤ 1 / 8 := by decide +kernel
                    grind)
theorem both_near {a : Int} (ha : 0 ≤ a ∧ a < 4294967296) : Nm (sub (cx (bothC a) (bothS a)) (sc One (VI a))) 265 := by
  have h0 : Nm (sub (cx (bC a) (bN a)) (sc One (VI (a % 1073741824)))) 264 := both1 (z := a % 1073741824) (by omega)
  have h1 := on_quarter h0
  have h2 := on_quarter h1
  have h3 := on_quarter h2
  have hq : a / 1073741824 = 0 ∨ a / 1073741824 = 1 ∨ a / 1073741824 = 2 ∨ a / 1073741824 = 3 := by omega
  unfold bothC bothS
  rcases hq with h | h | h | h
  · rw [show a % 1073741824 = a by omega] at h0
    rw [if_pos h, if_pos h]
    exact h0.mono (by decide +kernel)
  · rw [show a % 1073741824 + 1073741824 = a by omega] at h1
    rw [if_neg (by omega), if_pos h, if_neg (by omega), if_pos h]
    exact h1.mono (by decide +kernel)
  · rw [show a % 1073741824 + 1073741824 + 1073741824 = a by omega] at h2
    rw [if_neg (by omega), if_neg (by omega), if_pos h, if_neg (by omega), if_neg (by omega), if_pos h]
    exact h2.mono (by decide +kernel)
  · rw [show a % 1073741824 + 1073741824 + 1073741824 + 1073741824 = a by omega, Int.neg_neg] at h3
    rw [if_neg (by omega), if_neg (by omega), if_neg (by omega), if_neg (by omega), if_neg (by omega), if_neg (by omega)]
    exact h3.mono (by decide +kernel)
/-- how long it is -/
theorem both_len {a : Int} (ha : 0 ≤ a ∧ a < 4294967296) : bothC a * bothC a + bothS a * bothS a ≤ 18446746350042288721 ∧ 18446741788787020900 ≤ bothC a * bothC a + bothS a * bothS a := by
  have h := both_near ha
  have hu := ((VI_U a).nm).sc (r := One) (by decide +kernel)
  have e0 : n2 (cx (bothC a) (bothS a)) = ((bothC a * bothC a + bothS a * bothS a : Int) : Rat) := by
    simp only [n2, cx, Rat.intCast_add, Rat.intCast_mul]
  constructor
  · have h1 := h.add hu
    have e : Cx.add (sub (cx (bothC a) (bothS a)) (sc One (VI a))) (sc One (VI a)) = cx (bothC a) (bothS a) := by apply eqC <;> simp only [Cx.add, sub] <;> grind
    rw [e] at h1
    have h2 := h1.2
    rw [e0] at h2
    have h3 : (265 + One * 1) * (265 + One * 1) = ((18446746350042288721 : Int) : Rat) := by decide +kernel
    rw [h3] at h2
    have := Rat.intCast_le_intCast.1 h2
    omega
  · rcases Int.lt_or_le (bothC a * bothC a + bothS a * bothS a) 18446741788787020900 with hl | hl
    · exfalso
      have k : Nm (cx (bothC a) (bothS a)) (One - 266) := by
        refine ⟨by decide +kernel, ?_⟩
        rw [e0]
        have h3 : (One - 266) * (One - 266) = ((18446741788787020900 : Int) : Rat) := by decide +kernel
        rw [h3]
        exact cast_le (by omega)
      have h1 := k.add h.neg
      have e : Cx.add (cx (bothC a) (bothS a)) (sub (sc One (VI a)) (cx (bothC a) (bothS a))) = sc One (VI a) := by apply eqC <;> simp only [Cx.add, sub] <;> grind
      rw [e] at h1
      have h2 := h1.2
      have e3 : n2 (sc One (VI a)) = One * One := by
        have := VI_U a
        simp only [U, n2, sc] at *
        grind
      rw [e3] at h2
      have : ¬ One * One ≤ (One - 266 + 265) * (One - 266 + 265) := by decide +kernel
      exact this h2
    · exact hl
end Cx
end Go.Xv
namespace Go.Xv
theorem row3_le {p q r s t u m : Int} (hm : 0 ≤ m ∧ m ≤ 1099511627776) (hp : -m ≤ p - s ∧ p - s ≤ m) (hq : -m ≤ q - t ∧ q - t ≤ m) (hr : -m ≤ r - u ∧ r - u ≤ m) : 0 ≤ row3 p q r s t u ∧ row3 p q r s t u ≤ m := by
  have e : ∀ x : Int, -m ≤ x ∧ x ≤ m → clipV x = x := fun x h => by unfold clipV; rw [if_neg (by omega), if_neg (by omega)]
  unfold row3 gr3 sz
  rw [e _ hp, e _ hq, e _ hr]
  split <;> split <;> split <;> omega
theorem off9_le {a0 a1 a2 a3 a4 a5 a6 a7 a8 m : Int} (hm : 0 ≤ m ∧ m ≤ 1099511627776) (h : (-m ≤ dotZ a0 a1 a2 a0 a1 a2 - 4294967296 ∧ dotZ a0 a1 a2 a0 a1 a2 - 4294967296 ≤ m) ∧ (-m ≤ dotZ a0 a1 a2 a3 a4 a5 - 0 ∧ dotZ a0 a1 a2 a3 a4 a5 - 0 ≤ m) ∧ (-m ≤ dotZ a0 a1 a2 a6 a7 a8 - 0 ∧ dotZ a0 a1 a2 a6 a7 a8 - 0 ≤ m) ∧ (-m ≤ dotZ a3 a4 a5 a0 a1 a2 - 0 ∧ dotZ a3 a4 a5 a0 a1 a2 - 0 ≤ m) ∧ (-m ≤ dotZ a3 a4 a5 a3 a4 a5 - 4294967296 ∧ dotZ a3 a4 a5 a3 a4 a5 - 4294967296 ≤ m) ∧ (-m ≤ dotZ a3 a4 a5 a6 a7 a8 - 0 ∧ dotZ a3 a4 a5 a6 a7 a8 - 0 ≤ m) ∧ (-m ≤ dotZ a6 a7 a8 a0 a1 a2 - 0 ∧ dotZ a6 a7 a8 a0 a1 a2 - 0 ≤ m) ∧ (-m ≤ dotZ a6 a7 a8 a3 a4 a5 - 0 ∧ dotZ a6 a7 a8 a3 a4 a5 - 0 ≤ m) ∧ (-m ≤ dotZ a6 a7 a8 a6 a7 a8 - 4294967296 ∧ dotZ a6 a7 a8 a6 a7 a8 - 4294967296 ≤ m)) : 0 ≤ off9 a0 a1 a2 a3 a4 a5 a6 a7 a8 ∧ off9 a0 a1 a2 a3 a4 a5 a6 a7 a8 ≤ m := by
  obtain ⟨h0, h1, h2, h3, h4, h5, h6, h7, h8⟩ := h
  have e : ∀ x : Int, -1099511627776 ≤ x ∧ x ≤ 1103806595072 → clipV x = x := fun x h => by unfold clipV; rw [if_neg (by omega), if_neg (by omega)]
  unfold off9
  rw [e (dotZ a0 a1 a2 a0 a1 a2) (by omega), e (dotZ a0 a1 a2 a3 a4 a5) (by omega), e (dotZ a0 a1 a2 a6 a7 a8) (by omega), e (dotZ a3 a4 a5 a0 a1 a2) (by omega), e (dotZ a3 a4 a5 a3 a4 a5) (by omega), e (dotZ a3 a4 a5 a6 a7 a8) (by omega), e (dotZ a6 a7 a8 a0 a1 a2) (by omega), e (dotZ a6 a7 a8 a3 a4 a5) (by omega), e (dotZ a6 a7 a8 a6 a7 a8) (by omega)]
  have r0 := row3_le hm (p := dotZ a0 a1 a2 a0 a1 a2) (q := dotZ a0 a1 a2 a3 a4 a5) (r := dotZ a0 a1 a2 a6 a7 a8) (s := 4294967296) (t := 0) (u := 0) (by omega) (by omega) (by omega)
  have r1 := row3_le hm (p := dotZ a3 a4 a5 a0 a1 a2) (q := dotZ a3 a4 a5 a3 a4 a5) (r := dotZ a3 a4 a5 a6 a7 a8) (s := 0) (t := 4294967296) (u := 0) (by omega) (by omega) (by omega)
  have r2 := row3_le hm (p := dotZ a6 a7 a8 a0 a1 a2) (q := dotZ a6 a7 a8 a3 a4 a5) (r := dotZ a6 a7 a8 a6 a7 a8) (s := 0) (t := 0) (u := 4294967296) (by omega) (by omega) (by omega)
  omega
end Go.Xv
namespace Go.Xv
theorem bdm {x y A B : Int} (hx : -A ≤ x ∧ x ≤ A) (hy : -B ≤ y ∧ y ≤ B) : -(A * B) ≤ x * y ∧ x * y ≤ A * B := by
  have hA : 0 ≤ A := by omega
  have h1 := Int.mul_nonneg (show 0 ≤ A - x by omega) (show 0 ≤ B + y by omega)
  have h2 := Int.mul_nonneg (show 0 ≤ A + x by omega) (show 0 ≤ B - y by omega)
  have h3 := Int.mul_nonneg (show 0 ≤ A - x by omega) (show 0 ≤ B - y by omega)
  have h4 := Int.mul_nonneg (show 0 ≤ A + x by omega) (show 0 ≤ B + y by omega)
  rw [Int.sub_mul, Int.mul_add, Int.mul_add] at h1
  rw [Int.add_mul, Int.mul_sub, Int.mul_sub] at h2
  rw [Int.sub_mul, Int.mul_sub, Int.mul_sub] at h3
  rw [Int.add_mul, Int.mul_add, Int.mul_add] at h4
  omega
theorem pr_rd (x y : Int) : -2147483648 ≤ 4294967296 * pr x y - x * y ∧ 4294967296 * pr x y - x * y ≤ 2147483648 := by unfold pr; omega
theorem sq_nn (x : Int) : 0 ≤ x * x := by
  rcases Int.le_total 0 x with h | h
  · exact Int.mul_nonneg h h
  · have := Int.mul_nonneg (show 0 ≤ -x by omega) (show 0 ≤ -x by omega)
    rw [Int.neg_mul_neg] at this
    exact this
theorem abs_of_sq {x n : Int} (hn : 0 ≤ n) (h : x * x ≤ n * n + 2 * n) : -n ≤ x ∧ x ≤ n := by
  constructor
  · rcases Int.lt_or_le x (-n) with hl | hl
    · have := sq_le (x := n + 1) (y := -x) (by omega) (by omega)
      rw [Int.neg_mul_neg, Int.add_mul, Int.mul_add] at this
      omega
    · exact hl
  · rcases Int.lt_or_le n x with hl | hl
    · have := sq_le (x := n + 1) (y := x) (by omega) (by omega)
      rw [Int.add_mul, Int.mul_add] at this
      omega
    · exact hl
theorem abs_le_sq {x B : Int} (hB : 0 ≤ B) (h : x * x ≤ B * B) : -B ≤ x ∧ x ≤ B := abs_of_sq hB (by omega)
def dot3 (x0 x1 x2 y0 y1 y2 : Int) : Int := x0 * y0 + x1 * y1 + x2 * y2
theorem dot_rd (x0 x1 x2 y0 y1 y2 : Int) : -6442450944 ≤ 4294967296 * dotZ x0 x1 x2 y0 y1 y2 - dot3 x0 x1 x2 y0 y1 y2 ∧ 4294967296 * dotZ x0 x1 x2 y0 y1 y2 - dot3 x0 x1 x2 y0 y1 y2 ≤ 6442450944 := by
  have := pr_rd x0 y0
  have := pr_rd x1 y1
  have := pr_rd x2 y2
  unfold dotZ dot3
  omega
/-- over its length -/
theorem unit_math {a0 a1 a2 n x0 x1 x2 r0 r1 r2 : Int} (h1 : n * n ≤ dot3 a0 a1 a2 a0 a1 a2) (h2 : dot3 a0 a1 a2 a0 a1 a2 ≤ n * n + 2 * n) (hn : 3779571220 ≤ n)
    (e0 : n * x0 = a0 * 4294967296 - r0) (e1 : n * x1 = a1 * 4294967296 - r1) (e2 : n * x2 = a2 * 4294967296 - r2)
    (b0 : -n ≤ r0 ∧ r0 ≤ n) (b1 : -n ≤ r1 ∧ r1 ≤ n) (b2 : -n ≤ r2 ∧ r2 ≤ n) :
    (-30064771072 ≤ dot3 x0 x1 x2 x0 x1 x2 - 18446744073709551616 ∧ dot3 x0 x1 x2 x0 x1 x2 - 18446744073709551616 ≤ 38654705664) ∧ (-n ≤ a0 ∧ a0 ≤ n) ∧ (-n ≤ a1 ∧ a1 ≤ n) ∧ (-n ≤ a2 ∧ a2 ≤ n) := by
  have hn0 : 0 ≤ n := by omega
  have s0 := sq_nn a0
  have s1 := sq_nn a1
  have s2 := sq_nn a2
  have c0 := abs_of_sq (x := a0) hn0 (by unfold dot3 at h2; omega)
  have c1 := abs_of_sq (x := a1) hn0 (by unfold dot3 at h2; omega)
  have c2 := abs_of_sq (x := a2) hn0 (by unfold dot3 at h2; omega)
  refine ⟨?_, c0, c1, c2⟩
  have p0 := bdm c0 b0
  have p1 := bdm c1 b1
  have p2 := bdm c2 b2
  have q0 := bdm b0 b0
  have q1 := bdm b1 b1
  have q2 := bdm b2 b2
  have t0 := sq_nn r0
  have t1 := sq_nn r1
  have t2 := sq_nn r2
  have k0 : (n * x0) * (n * x0) = (a0 * 4294967296 - r0) * (a0 * 4294967296 - r0) := by rw [e0]
  have k1 : (n * x1) * (n * x1) = (a1 * 4294967296 - r1) * (a1 * 4294967296 - r1) := by rw [e1]
  have k2 : (n * x2) * (n * x2) = (a2 * 4294967296 - r2) * (a2 * 4294967296 - r2) := by rw [e2]
  have key : (n * n) * (dot3 x0 x1 x2 x0 x1 x2 - 18446744073709551616) = 18446744073709551616 * (dot3 a0 a1 a2 a0 a1 a2 - n * n) - 8589934592 * (a0 * r0 + a1 * r1 + a2 * r2) + (r0 * r0 + r1 * r1 + r2 * r2) := by
    unfold dot3
    grind
  have hnn : 3779571220 * n ≤ n * n := Int.mul_le_mul_of_nonneg_right hn hn0
  have hpos : 0 < n * n := Int.mul_pos (by omega) (by omega)
  generalize dot3 a0 a1 a2 a0 a1 a2 = N at *
  generalize dot3 x0 x1 x2 x0 x1 x2 - 18446744073709551616 = D at *
  constructor
  · refine Int.le_of_mul_le_mul_left (a := n * n) ?_ hpos
    rw [key]
    omega
  · refine Int.le_of_mul_le_mul_left (a := n * n) ?_ hpos
    rw [key]
    omega
theorem quo_bd {n a x r : Int} (hn : 0 < n) (e : n * x = a * 4294967296 - r) (b : -n ≤ r ∧ r ≤ n) (c : -n ≤ a ∧ a ≤ n) : -4294967297 ≤ x ∧ x ≤ 4294967297 := by
  constructor
  · refine Int.le_of_mul_le_mul_left (a := n) ?_ hn
    rw [e]; omega
  · refine Int.le_of_mul_le_mul_left (a := n) ?_ hn
    rw [e]; omega
/-- the second row, less what is along the first -/
theorem rest_math {a0 a1 a2 b0 b1 b2 n x0 x1 x2 r0 r1 r2 d e0 e1 e2 : Int} (hn : 3779571220 ≤ n)
    (g0 : n * x0 = a0 * 4294967296 - r0) (g1 : n * x1 = a1 * 4294967296 - r1) (g2 : n * x2 = a2 * 4294967296 - r2)
    (k0 : -n ≤ r0 ∧ r0 ≤ n) (k1 : -n ≤ r1 ∧ r1 ≤ n) (k2 : -n ≤ r2 ∧ r2 ≤ n)
    (hx : -30064771072 ≤ dot3 x0 x1 x2 x0 x1 x2 - 18446744073709551616 ∧ dot3 x0 x1 x2 x0 x1 x2 - 18446744073709551616 ≤ 38654705664)
    (y0 : -4294967297 ≤ x0 ∧ x0 ≤ 4294967297) (y1 : -4294967297 ≤ x1 ∧ x1 ≤ 4294967297) (y2 : -4294967297 ≤ x2 ∧ x2 ≤ 4294967297)
    (hb : 14941862699704736808 ≤ dot3 b0 b1 b2 b0 b1 b2 ∧ dot3 b0 b1 b2 b0 b1 b2 ≤ 22320560329188557455)
    (hab : -1844674407370955161 ≤ dot3 a0 a1 a2 b0 b1 b2 ∧ dot3 a0 a1 a2 b0 b1 b2 ≤ 1844674407370955161)
    (hd : d = dotZ b0 b1 b2 x0 x1 x2) (h0 : e0 = pr x0 d) (h1 : e1 = pr x1 d) (h2 : e2 = pr x2 d) :
    (-500000000 ≤ d ∧ d ≤ 500000000) ∧ ((-500000000 ≤ e0 ∧ e0 ≤ 500000000) ∧ (-500000000 ≤ e1 ∧ e1 ≤ 500000000) ∧ (-500000000 ≤ e2 ∧ e2 ≤ 500000000)) ∧
    (-4724464026 ≤ b0 ∧ b0 ≤ 4724464026) ∧ (-4724464026 ≤ b1 ∧ b1 ≤ 4724464026) ∧ (-4724464026 ≤ b2 ∧ b2 ≤ 4724464026) ∧
    (-17609365914 ≤ dot3 (b0 - e0) (b1 - e1) (b2 - e2) x0 x1 x2 ∧ dot3 (b0 - e0) (b1 - e1) (b2 - e2) x0 x1 x2 ≤ 17609365914) ∧
    (14300000000000000000 ≤ dot3 (b0 - e0) (b1 - e1) (b2 - e2) (b0 - e0) (b1 - e1) (b2 - e2) ∧ dot3 (b0 - e0) (b1 - e1) (b2 - e2) (b0 - e0) (b1 - e1) (b2 - e2) ≤ 24000000000000000000) := by
  have n0 : 0 < n := by omega
  have sb0 := sq_nn b0
  have sb1 := sq_nn b1
  have sb2 := sq_nn b2
  have c0 := abs_le_sq (x := b0) (B := 4724464026) (by omega) (by unfold dot3 at hb; omega)
  have c1 := abs_le_sq (x := b1) (B := 4724464026) (by omega) (by unfold dot3 at hb; omega)
  have c2 := abs_le_sq (x := b2) (B := 4724464026) (by omega) (by unfold dot3 at hb; omega)
  -- along the first
  have p0 := bdm c0 k0
  have p1 := bdm c1 k1
  have p2 := bdm c2 k2
  have key1 : n * dot3 b0 b1 b2 x0 x1 x2 = 4294967296 * dot3 a0 a1 a2 b0 b1 b2 - (b0 * r0 + b1 * r1 + b2 * r2) := by
    have : n * dot3 b0 b1 b2 x0 x1 x2 = b0 * (n * x0) + b1 * (n * x1) + b2 * (n * x2) := by unfold dot3; grind
    rw [this, g0, g1, g2]
    unfold dot3; grind
  have hbx : -2140000000000000000 ≤ dot3 b0 b1 b2 x0 x1 x2 ∧ dot3 b0 b1 b2 x0 x1 x2 ≤ 2140000000000000000 := by
    constructor
    · refine Int.le_of_mul_le_mul_left (a := n) ?_ n0
      rw [key1]; omega
    · refine Int.le_of_mul_le_mul_left (a := n) ?_ n0
      rw [key1]; omega
  have hrd := dot_rd b0 b1 b2 x0 x1 x2
  rw [← hd] at hrd
  have dB : -500000000 ≤ d ∧ d ≤ 500000000 := by omega
  have t0 := pr_rd x0 d
  have t1 := pr_rd x1 d
  have t2 := pr_rd x2 d
  rw [← h0] at t0
  rw [← h1] at t1
  rw [← h2] at t2
  have m0 := bdm y0 dB
  have m1 := bdm y1 dB
  have m2 := bdm y2 dB
  have eB0 : -500000001 ≤ e0 ∧ e0 ≤ 500000001 := by omega
  have eB1 : -500000001 ≤ e1 ∧ e1 ≤ 500000001 := by omega
  have eB2 : -500000001 ≤ e2 ∧ e2 ≤ 500000001 := by omega
  have dB2 : -498262451 ≤ d ∧ d ≤ 498262451 := by omega
  have m0' := bdm y0 dB2
  have m1' := bdm y1 dB2
  have m2' := bdm y2 dB2
  have eC0 : -500000000 ≤ e0 ∧ e0 ≤ 500000000 := by omega
  have eC1 : -500000000 ≤ e1 ∧ e1 ≤ 500000000 := by omega
  have eC2 : -500000000 ≤ e2 ∧ e2 ≤ 500000000 := by omega
  refine ⟨dB, ⟨eC0, eC1, eC2⟩, c0, c1, c2, ?_, ?_⟩
  · -- across
    have hDX := bdm dB (show -38654705664 ≤ dot3 x0 x1 x2 x0 x1 x2 - 18446744073709551616 ∧ dot3 x0 x1 x2 x0 x1 x2 - 18446744073709551616 ≤ 38654705664 by omega)
    have u0 := bdm t0 y0
    have u1 := bdm t1 y1
    have u2 := bdm t2 y2
    have key2 : 4294967296 * dot3 (b0 - e0) (b1 - e1) (b2 - e2) x0 x1 x2 = -(4294967296 * (4294967296 * d - dot3 b0 b1 b2 x0 x1 x2)) - d * (dot3 x0 x1 x2 x0 x1 x2 - 18446744073709551616) - ((4294967296 * e0 - x0 * d) * x0 + (4294967296 * e1 - x1 * d) * x1 + (4294967296 * e2 - x2 * d) * x2) := by
      unfold dot3; grind
    omega
  · have hDB := bdm dB2 hbx
    have u0 := bdm t0 c0
    have u1 := bdm t1 c1
    have u2 := bdm t2 c2
    have v0 := bdm eC0 eC0
    have v1 := bdm eC1 eC1
    have v2 := bdm eC2 eC2
    have w0 := sq_nn e0
    have w1 := sq_nn e1
    have w2 := sq_nn e2
    have key3 : 4294967296 * dot3 (b0 - e0) (b1 - e1) (b2 - e2) (b0 - e0) (b1 - e1) (b2 - e2) = 4294967296 * dot3 b0 b1 b2 b0 b1 b2 - 2 * (d * dot3 b0 b1 b2 x0 x1 x2 + ((4294967296 * e0 - x0 * d) * b0 + (4294967296 * e1 - x1 * d) * b1 + (4294967296 * e2 - x2 * d) * b2)) + 4294967296 * (e0 * e0 + e1 * e1 + e2 * e2) := by
      unfold dot3; grind
    omega
/-- both rows, and what is across -/
theorem cross_math {f0 f1 f2 m x0 x1 x2 y0 y1 y2 r0 r1 r2 z0 z1 z2 : Int} (hm : 3779571220 ≤ m)
    (g0 : m * y0 = f0 * 4294967296 - r0) (g1 : m * y1 = f1 * 4294967296 - r1) (g2 : m * y2 = f2 * 4294967296 - r2)
    (k0 : -m ≤ r0 ∧ r0 ≤ m) (k1 : -m ≤ r1 ∧ r1 ≤ m) (k2 : -m ≤ r2 ∧ r2 ≤ m)
    (hx : -30064771072 ≤ dot3 x0 x1 x2 x0 x1 x2 - 18446744073709551616 ∧ dot3 x0 x1 x2 x0 x1 x2 - 18446744073709551616 ≤ 38654705664)
    (hy : -30064771072 ≤ dot3 y0 y1 y2 y0 y1 y2 - 18446744073709551616 ∧ dot3 y0 y1 y2 y0 y1 y2 - 18446744073709551616 ≤ 38654705664)
    (cx0 : -4294967297 ≤ x0 ∧ x0 ≤ 4294967297) (cx1 : -4294967297 ≤ x1 ∧ x1 ≤ 4294967297) (cx2 : -4294967297 ≤ x2 ∧ x2 ≤ 4294967297)
    (cy0 : -4294967297 ≤ y0 ∧ y0 ≤ 4294967297) (cy1 : -4294967297 ≤ y1 ∧ y1 ≤ 4294967297) (cy2 : -4294967297 ≤ y2 ∧ y2 ≤ 4294967297)
    (hf : -17609365914 ≤ dot3 f0 f1 f2 x0 x1 x2 ∧ dot3 f0 f1 f2 x0 x1 x2 ≤ 17609365914)
    (h0 : z0 = arZ x1 y2 x2 y1) (h1 : z1 = arZ x2 y0 x0 y2) (h2 : z2 = arZ x0 y1 x1 y0) :
    (-34359738368 ≤ dot3 x0 x1 x2 y0 y1 y2 ∧ dot3 x0 x1 x2 y0 y1 y2 ≤ 34359738368) ∧
    (-107374182400 ≤ dot3 z0 z1 z2 z0 z1 z2 - 18446744073709551616 ∧ dot3 z0 z1 z2 z0 z1 z2 - 18446744073709551616 ≤ 107374182400) ∧
    (-17179869184 ≤ dot3 z0 z1 z2 x0 x1 x2 ∧ dot3 z0 z1 z2 x0 x1 x2 ≤ 17179869184) ∧ (-17179869184 ≤ dot3 z0 z1 z2 y0 y1 y2 ∧ dot3 z0 z1 z2 y0 y1 y2 ≤ 17179869184) ∧
    (-4300000000 ≤ z0 ∧ z0 ≤ 4300000000) ∧ (-4300000000 ≤ z1 ∧ z1 ≤ 4300000000) ∧ (-4300000000 ≤ z2 ∧ z2 ≤ 4300000000) := by
  have m0 : 0 < m := by omega
  have p0 := bdm cx0 k0
  have p1 := bdm cx1 k1
  have p2 := bdm cx2 k2
  have key1 : m * dot3 x0 x1 x2 y0 y1 y2 = 4294967296 * dot3 f0 f1 f2 x0 x1 x2 - (x0 * r0 + x1 * r1 + x2 * r2) := by
    have : m * dot3 x0 x1 x2 y0 y1 y2 = x0 * (m * y0) + x1 * (m * y1) + x2 * (m * y2) := by unfold dot3; grind
    rw [this, g0, g1, g2]
    unfold dot3; grind
  have hxy : -34359738368 ≤ dot3 x0 x1 x2 y0 y1 y2 ∧ dot3 x0 x1 x2 y0 y1 y2 ≤ 34359738368 := by
    constructor
    · refine Int.le_of_mul_le_mul_left (a := m) ?_ m0
      rw [key1]; omega
    · refine Int.le_of_mul_le_mul_left (a := m) ?_ m0
      rw [key1]; omega
  refine ⟨hxy, ?_⟩
  -- what is across, exactly
  have t1 := pr_rd x1 y2
  have t2 := pr_rd x2 y1
  have t3 := pr_rd x2 y0
  have t4 := pr_rd x0 y2
  have t5 := pr_rd x0 y1
  have t6 := pr_rd x1 y0
  have u0 : -4294967296 ≤ 4294967296 * z0 - (x1 * y2 - x2 * y1) ∧ 4294967296 * z0 - (x1 * y2 - x2 * y1) ≤ 4294967296 := by rw [h0]; unfold arZ; omega
  have u1 : -4294967296 ≤ 4294967296 * z1 - (x2 * y0 - x0 * y2) ∧ 4294967296 * z1 - (x2 * y0 - x0 * y2) ≤ 4294967296 := by rw [h1]; unfold arZ; omega
  have u2 : -4294967296 ≤ 4294967296 * z2 - (x0 * y1 - x1 * y0) ∧ 4294967296 * z2 - (x0 * y1 - x1 * y0) ≤ 4294967296 := by rw [h2]; unfold arZ; omega
  clear h0 h1 h2 t1 t2 t3 t4 t5 t6 key1 p0 p1 p2 g0 g1 g2 k0 k1 k2 hf
  have hCC : (x1 * y2 - x2 * y1) * (x1 * y2 - x2 * y1) + (x2 * y0 - x0 * y2) * (x2 * y0 - x0 * y2) + (x0 * y1 - x1 * y0) * (x0 * y1 - x1 * y0) = dot3 x0 x1 x2 x0 x1 x2 * dot3 y0 y1 y2 y0 y1 y2 - dot3 x0 x1 x2 y0 y1 y2 * dot3 x0 x1 x2 y0 y1 y2 := by
    unfold dot3; grind
  have hCX : (x1 * y2 - x2 * y1) * x0 + (x2 * y0 - x0 * y2) * x1 + (x0 * y1 - x1 * y0) * x2 = 0 := by grind
  have hCY : (x1 * y2 - x2 * y1) * y0 + (x2 * y0 - x0 * y2) * y1 + (x0 * y1 - x1 * y0) * y2 = 0 := by grind
  have hq := bdm hxy hxy
  have hq0 := sq_nn (dot3 x0 x1 x2 y0 y1 y2)
  have hXY : dot3 x0 x1 x2 x0 x1 x2 * dot3 y0 y1 y2 y0 y1 y2 = 340282366920938463463374607431768211456 + 18446744073709551616 * (dot3 x0 x1 x2 x0 x1 x2 - 18446744073709551616) + 18446744073709551616 * (dot3 y0 y1 y2 y0 y1 y2 - 18446744073709551616) + (dot3 x0 x1 x2 x0 x1 x2 - 18446744073709551616) * (dot3 y0 y1 y2 y0 y1 y2 - 18446744073709551616) := by grind
  have hP := bdm (show -38654705664 ≤ dot3 x0 x1 x2 x0 x1 x2 - 18446744073709551616 ∧ dot3 x0 x1 x2 x0 x1 x2 - 18446744073709551616 ≤ 38654705664 by omega) (show -38654705664 ≤ dot3 y0 y1 y2 y0 y1 y2 - 18446744073709551616 ∧ dot3 y0 y1 y2 y0 y1 y2 - 18446744073709551616 ≤ 38654705664 by omega)
  generalize x1 * y2 - x2 * y1 = C0 at *
  generalize x2 * y0 - x0 * y2 = C1 at *
  generalize x0 * y1 - x1 * y0 = C2 at *
  rw [hXY] at hCC
  have s0 := sq_nn C0
  have s1 := sq_nn C1
  have s2 := sq_nn C2
  have hC0 := abs_le_sq (x := C0) (B := 18446744200000000000) (by omega) (by omega)
  have hC1 := abs_le_sq (x := C1) (B := 18446744200000000000) (by omega) (by omega)
  have hC2 := abs_le_sq (x := C2) (B := 18446744200000000000) (by omega) (by omega)
  have w0 : -4300000000 ≤ z0 ∧ z0 ≤ 4300000000 := by omega
  have w1 : -4300000000 ≤ z1 ∧ z1 ≤ 4300000000 := by omega
  have w2 : -4300000000 ≤ z2 ∧ z2 ≤ 4300000000 := by omega
  refine ⟨?_, ?_, ?_, w0, w1, w2⟩
  · have v0 := bdm u0 hC0
    have v1 := bdm u1 hC1
    have v2 := bdm u2 hC2
    have x0' := bdm u0 u0
    have x1' := bdm u1 u1
    have x2' := bdm u2 u2
    have y0' := sq_nn (4294967296 * z0 - C0)
    have y1' := sq_nn (4294967296 * z1 - C1)
    have y2' := sq_nn (4294967296 * z2 - C2)
    have key : 18446744073709551616 * dot3 z0 z1 z2 z0 z1 z2 = (C0 * C0 + C1 * C1 + C2 * C2) + 2 * ((4294967296 * z0 - C0) * C0 + (4294967296 * z1 - C1) * C1 + (4294967296 * z2 - C2) * C2) + ((4294967296 * z0 - C0) * (4294967296 * z0 - C0) + (4294967296 * z1 - C1) * (4294967296 * z1 - C1) + (4294967296 * z2 - C2) * (4294967296 * z2 - C2)) := by
      unfold dot3; grind
    omega
  · have v0 := bdm u0 cx0
    have v1 := bdm u1 cx1
    have v2 := bdm u2 cx2
    have key : 4294967296 * dot3 z0 z1 z2 x0 x1 x2 = ((4294967296 * z0 - C0) * x0 + (4294967296 * z1 - C1) * x1 + (4294967296 * z2 - C2) * x2) + (C0 * x0 + C1 * x1 + C2 * x2) := by
      unfold dot3; grind
    omega
  · have v0 := bdm u0 cy0
    have v1 := bdm u1 cy1
    have v2 := bdm u2 cy2
    have key : 4294967296 * dot3 z0 z1 z2 y0 y1 y2 = ((4294967296 * z0 - C0) * y0 + (4294967296 * z1 - C1) * y1 + (4294967296 * z2 - C2) * y2) + (C0 * y0 + C1 * y1 + C2 * y2) := by
      unfold dot3; grind
    omega
end Go.Xv
namespace Go.Xv
theorem tdiv_fact {a n : Int} (hn : 0 < n) : n * Int.tdiv a n = a - Int.tmod a n ∧ -n ≤ Int.tmod a n ∧ Int.tmod a n ≤ n := by
  have h := Int.mul_tdiv_add_tmod a n
  rcases Int.le_total 0 a with h0 | h0
  · have e := Int.tmod_eq_emod_of_nonneg (b := n) h0
    have h1 := Int.emod_nonneg a (show n ≠ 0 by omega)
    have h2 := Int.emod_lt_of_pos a hn
    omega
  · have e := Int.tmod_eq_emod_of_nonneg (a := -a) (b := n) (by omega)
    rw [Int.neg_tmod] at e
    have h1 := Int.emod_nonneg (-a) (show n ≠ 0 by omega)
    have h2 := Int.emod_lt_of_pos (-a) hn
    omega
theorem unit_fact {a0 a1 a2 : Int} (h : 14300000000000000000 ≤ dot3 a0 a1 a2 a0 a1 a2 ∧ dot3 a0 a1 a2 a0 a1 a2 ≤ 24000000000000000000) :
    unitOK a0 a1 a2 = true ∧ ∃ n r0 r1 r2 : Int, 3779571220 ≤ n ∧ n * n ≤ dot3 a0 a1 a2 a0 a1 a2 ∧ dot3 a0 a1 a2 a0 a1 a2 ≤ n * n + 2 * n ∧
      (n * unV a0 a0 a1 a2 = a0 * 4294967296 - r0 ∧ n * unV a1 a0 a1 a2 = a1 * 4294967296 - r1 ∧ n * unV a2 a0 a1 a2 = a2 * 4294967296 - r2) ∧
      (-n ≤ r0 ∧ r0 ≤ n) ∧ (-n ≤ r1 ∧ r1 ≤ n) ∧ (-n ≤ r2 ∧ r2 ≤ n) := by
  have e3 : sq3 a0 a1 a2 = dot3 a0 a1 a2 a0 a1 a2 := rfl
  obtain ⟨r1, r2, r3⟩ := rt_spec (z := sq3 a0 a1 a2) (by omega)
  have hlow : 3779571220 ≤ rt (sq3 a0 a1 a2) := (rt_le (by omega) (by omega)).2 (by omega)
  have hl : lenV (sq3 a0 a1 a2) = rt (sq3 a0 a1 a2) := by unfold lenV; rw [if_pos (by omega)]
  have hc : lenC (sq3 a0 a1 a2) = false := by unfold lenC; exact df (by omega)
  have hok : unitOK a0 a1 a2 = true := by
    unfold unitOK
    rw [hl, hc, df (by omega)]
    rfl
  rw [Int.add_mul, Int.mul_add] at r3
  have hn0 : 0 ≤ rt (sq3 a0 a1 a2) := r1
  have s0 := sq_nn a0
  have s1 := sq_nn a1
  have s2 := sq_nn a2
  have c0 := abs_of_sq (x := a0) hn0 (by unfold sq3 at *; omega)
  have c1 := abs_of_sq (x := a1) hn0 (by unfold sq3 at *; omega)
  have c2 := abs_of_sq (x := a2) hn0 (by unfold sq3 at *; omega)
  have key : ∀ a : Int, -rt (sq3 a0 a1 a2) ≤ a ∧ a ≤ rt (sq3 a0 a1 a2) → rt (sq3 a0 a1 a2) * unV a a0 a1 a2 = a * 4294967296 - Int.tmod (a * 4294967296) (rt (sq3 a0 a1 a2)) := by
    intro a ha
    obtain ⟨t1, t2⟩ := tdiv_fact (a := a * 4294967296) (n := rt (sq3 a0 a1 a2)) (by omega)
    have q := quo_bd (n := rt (sq3 a0 a1 a2)) (by omega) t1 t2 ha
    unfold unV
    rw [if_pos hok, hl]
    unfold fdivV
    rw [if_neg (by omega), (clip_in (by unfold I64; omega)).1]
    exact t1
  refine ⟨hok, rt (sq3 a0 a1 a2), _, _, _, hlow, by omega, by omega, ⟨key a0 c0, key a1 c1, key a2 c2⟩, ?_, ?_, ?_⟩
  · exact (tdiv_fact (by omega)).2
  · exact (tdiv_fact (by omega)).2
  · exact (tdiv_fact (by omega)).2
theorem clip_sm {z : Int} (h : -100000000000 ≤ z ∧ z ≤ 100000000000) : clipV z = z ∧ clipC z = false := clip_in (by unfold I64; omega)
theorem dot3_comm (x0 x1 x2 y0 y1 y2 : Int) : dot3 x0 x1 x2 y0 y1 y2 = dot3 y0 y1 y2 x0 x1 x2 := by unfold dot3; rw [Int.mul_comm x0, Int.mul_comm x1, Int.mul_comm x2]
theorem dot_near {x0 x1 x2 y0 y1 y2 s : Int} (h : -107374182400 ≤ dot3 x0 x1 x2 y0 y1 y2 - 4294967296 * s ∧ dot3 x0 x1 x2 y0 y1 y2 - 4294967296 * s ≤ 107374182400) : -40 ≤ dotZ x0 x1 x2 y0 y1 y2 - s ∧ dotZ x0 x1 x2 y0 y1 y2 - s ≤ 40 := by
  have := dot_rd x0 x1 x2 y0 y1 y2
  omega
theorem ortho_good {a0 a1 a2 a3 a4 a5 a6 a7 a8 : Int} (ha : 14300000000000000000 ≤ dot3 a0 a1 a2 a0 a1 a2 ∧ dot3 a0 a1 a2 a0 a1 a2 ≤ 24000000000000000000)
    (hb : 14941862699704736808 ≤ dot3 a3 a4 a5 a3 a4 a5 ∧ dot3 a3 a4 a5 a3 a4 a5 ≤ 22320560329188557455)
    (hab : -1844674407370955161 ≤ dot3 a0 a1 a2 a3 a4 a5 ∧ dot3 a0 a1 a2 a3 a4 a5 ≤ 1844674407370955161) :
    ortC a0 a1 a2 a3 a4 a5 a6 a7 a8 = true ∧ (0 ≤ off9 (ort0 a0 a1 a2 a3 a4 a5 a6 a7 a8) (ort1 a0 a1 a2 a3 a4 a5 a6 a7 a8) (ort2 a0 a1 a2 a3 a4 a5 a6 a7 a8) (ort3 a0 a1 a2 a3 a4 a5 a6 a7 a8) (ort4 a0 a1 a2 a3 a4 a5 a6 a7 a8) (ort5 a0 a1 a2 a3 a4 a5 a6 a7 a8) (ort6 a0 a1 a2 a3 a4 a5 a6 a7 a8) (ort7 a0 a1 a2 a3 a4 a5 a6 a7 a8) (ort8 a0 a1 a2 a3 a4 a5 a6 a7 a8) ∧ off9 (ort0 a0 a1 a2 a3 a4 a5 a6 a7 a8) (ort1 a0 a1 a2 a3 a4 a5 a6 a7 a8) (ort2 a0 a1 a2 a3 a4 a5 a6 a7 a8) (ort3 a0 a1 a2 a3 a4 a5 a6 a7 a8) (ort4 a0 a1 a2 a3 a4 a5 a6 a7 a8) (ort5 a0 a1 a2 a3 a4 a5 a6 a7 a8) (ort6 a0 a1 a2 a3 a4 a5 a6 a7 a8) (ort7 a0 a1 a2 a3 a4 a5 a6 a7 a8) (ort8 a0 a1 a2 a3 a4 a5 a6 a7 a8) ≤ 40) ∧ (-4300000000 ≤ (ort0 a0 a1 a2 a3 a4 a5 a6 a7 a8) ∧ (ort0 a0 a1 a2 a3 a4 a5 a6 a7 a8) ≤ 4300000000) ∧ (-4300000000 ≤ (ort1 a0 a1 a2 a3 a4 a5 a6 a7 a8) ∧ (ort1 a0 a1 a2 a3 a4 a5 a6 a7 a8) ≤ 4300000000) ∧ (-4300000000 ≤ (ort2 a0 a1 a2 a3 a4 a5 a6 a7 a8) ∧ (ort2 a0 a1 a2 a3 a4 a5 a6 a7 a8) ≤ 4300000000) ∧ (-4300000000 ≤ (ort3 a0 a1 a2 a3 a4 a5 a6 a7 a8) ∧ (ort3 a0 a1 a2 a3 a4 a5 a6 a7 a8) ≤ 4300000000) ∧ (-4300000000 ≤ (ort4 a0 a1 a2 a3 a4 a5 a6 a7 a8) ∧ (ort4 a0 a1 a2 a3 a4 a5 a6 a7 a8) ≤ 4300000000) ∧ (-4300000000 ≤ (ort5 a0 a1 a2 a3 a4 a5 a6 a7 a8) ∧ (ort5 a0 a1 a2 a3 a4 a5 a6 a7 a8) ≤ 4300000000) ∧ (-4300000000 ≤ (ort6 a0 a1 a2 a3 a4 a5 a6 a7 a8) ∧ (ort6 a0 a1 a2 a3 a4 a5 a6 a7 a8) ≤ 4300000000) ∧ (-4300000000 ≤ (ort7 a0 a1 a2 a3 a4 a5 a6 a7 a8) ∧ (ort7 a0 a1 a2 a3 a4 a5 a6 a7 a8) ≤ 4300000000) ∧ (-4300000000 ≤ (ort8 a0 a1 a2 a3 a4 a5 a6 a7 a8) ∧ (ort8 a0 a1 a2 a3 a4 a5 a6 a7 a8) ≤ 4300000000) := by
  obtain ⟨ua, n, r0, r1, r2, hn, n1, n2, ⟨g0, g1, g2⟩, k0, k1, k2⟩ := unit_fact ha
  obtain ⟨hx, q0, q1, q2⟩ := unit_math n1 n2 hn g0 g1 g2 k0 k1 k2
  have y0 := quo_bd (by omega) g0 k0 q0
  have y1 := quo_bd (by omega) g1 k1 q1
  have y2 := quo_bd (by omega) g2 k2 q2
  obtain ⟨hd, ⟨he0, he1, he2⟩, c0, c1, c2, hfx, hff⟩ := rest_math hn g0 g1 g2 k0 k1 k2 hx y0 y1 y2 hb hab rfl rfl rfl rfl
  have hD : oD a0 a1 a2 a3 a4 a5 a6 a7 a8 = dotZ a3 a4 a5 (unV a0 a0 a1 a2) (unV a1 a0 a1 a2) (unV a2 a0 a1 a2) := (clip_sm (by omega)).1
  have hDc : clipC (dotZ a3 a4 a5 (unV a0 a0 a1 a2) (unV a1 a0 a1 a2) (unV a2 a0 a1 a2)) = false := (clip_sm (by omega)).2
  have hR0 : oR0 a0 a1 a2 a3 a4 a5 a6 a7 a8 = a3 - pr (unV a0 a0 a1 a2) (dotZ a3 a4 a5 (unV a0 a0 a1 a2) (unV a1 a0 a1 a2) (unV a2 a0 a1 a2)) := by
    unfold oR0
    rw [hD, (clip_sm (z := pr (unV a0 a0 a1 a2) (dotZ a3 a4 a5 (unV a0 a0 a1 a2) (unV a1 a0 a1 a2) (unV a2 a0 a1 a2))) (by omega)).1, (clip_sm (by omega)).1]
  have sc0 : clipC (pr (unV a0 a0 a1 a2) (oD a0 a1 a2 a3 a4 a5 a6 a7 a8)) = false := by rw [hD]; exact (clip_sm (by omega)).2
  have sb0 : clipC (a3 - clipV (pr (unV a0 a0 a1 a2) (oD a0 a1 a2 a3 a4 a5 a6 a7 a8))) = false := by
    rw [hD, (clip_sm (z := pr (unV a0 a0 a1 a2) (dotZ a3 a4 a5 (unV a0 a0 a1 a2) (unV a1 a0 a1 a2) (unV a2 a0 a1 a2))) (by omega)).1]
    exact (clip_sm (by omega)).2
  have hR1 : oR1 a0 a1 a2 a3 a4 a5 a6 a7 a8 = a4 - pr (unV a1 a0 a1 a2) (dotZ a3 a4 a5 (unV a0 a0 a1 a2) (unV a1 a0 a1 a2) (unV a2 a0 a1 a2)) := by
    unfold oR1
    rw [hD, (clip_sm (z := pr (unV a1 a0 a1 a2) (dotZ a3 a4 a5 (unV a0 a0 a1 a2) (unV a1 a0 a1 a2) (unV a2 a0 a1 a2))) (by omega)).1, (clip_sm (by omega)).1]
  have sc1 : clipC (pr (unV a1 a0 a1 a2) (oD a0 a1 a2 a3 a4 a5 a6 a7 a8)) = false := by rw [hD]; exact (clip_sm (by omega)).2
  have sb1 : clipC (a4 - clipV (pr (unV a1 a0 a1 a2) (oD a0 a1 a2 a3 a4 a5 a6 a7 a8))) = false := by
    rw [hD, (clip_sm (z := pr (unV a1 a0 a1 a2) (dotZ a3 a4 a5 (unV a0 a0 a1 a2) (unV a1 a0 a1 a2) (unV a2 a0 a1 a2))) (by omega)).1]
    exact (clip_sm (by omega)).2
  have hR2 : oR2 a0 a1 a2 a3 a4 a5 a6 a7 a8 = a5 - pr (unV a2 a0 a1 a2) (dotZ a3 a4 a5 (unV a0 a0 a1 a2) (unV a1 a0 a1 a2) (unV a2 a0 a1 a2)) := by
    unfold oR2
    rw [hD, (clip_sm (z := pr (unV a2 a0 a1 a2) (dotZ a3 a4 a5 (unV a0 a0 a1 a2) (unV a1 a0 a1 a2) (unV a2 a0 a1 a2))) (by omega)).1, (clip_sm (by omega)).1]
  have sc2 : clipC (pr (unV a2 a0 a1 a2) (oD a0 a1 a2 a3 a4 a5 a6 a7 a8)) = false := by rw [hD]; exact (clip_sm (by omega)).2
  have sb2 : clipC (a5 - clipV (pr (unV a2 a0 a1 a2) (oD a0 a1 a2 a3 a4 a5 a6 a7 a8))) = false := by
    rw [hD, (clip_sm (z := pr (unV a2 a0 a1 a2) (dotZ a3 a4 a5 (unV a0 a0 a1 a2) (unV a1 a0 a1 a2) (unV a2 a0 a1 a2))) (by omega)).1]
    exact (clip_sm (by omega)).2
  rw [← hR0, ← hR1, ← hR2] at hfx hff
  obtain ⟨ub, m, s0, s1, s2, hm, m1, m2, ⟨j0, j1, j2⟩, l0, l1, l2⟩ := unit_fact hff
  obtain ⟨hy, p0, p1, p2⟩ := unit_math m1 m2 hm j0 j1 j2 l0 l1 l2
  have v0 := quo_bd (by omega) j0 l0 p0
  have v1 := quo_bd (by omega) j1 l1 p1
  have v2 := quo_bd (by omega) j2 l2 p2
  obtain ⟨hxy, hz, hzx, hzy, w0, w1, w2⟩ := cross_math (y0 := oY0 a0 a1 a2 a3 a4 a5 a6 a7 a8) (y1 := oY1 a0 a1 a2 a3 a4 a5 a6 a7 a8) (y2 := oY2 a0 a1 a2 a3 a4 a5 a6 a7 a8) hm j0 j1 j2 l0 l1 l2 hx hy y0 y1 y2 v0 v1 v2 hfx rfl rfl rfl
  have hZ0 : oZ0 a0 a1 a2 a3 a4 a5 a6 a7 a8 = arZ (unV a1 a0 a1 a2) (oY2 a0 a1 a2 a3 a4 a5 a6 a7 a8) (unV a2 a0 a1 a2) (oY1 a0 a1 a2 a3 a4 a5 a6 a7 a8) := (clip_sm (z := arZ (unV a1 a0 a1 a2) (oY2 a0 a1 a2 a3 a4 a5 a6 a7 a8) (unV a2 a0 a1 a2) (oY1 a0 a1 a2 a3 a4 a5 a6 a7 a8)) (by omega)).1
  have cz0 : clipC (arZ (unV a1 a0 a1 a2) (oY2 a0 a1 a2 a3 a4 a5 a6 a7 a8) (unV a2 a0 a1 a2) (oY1 a0 a1 a2 a3 a4 a5 a6 a7 a8)) = false := (clip_sm (by omega)).2
  have hZ1 : oZ1 a0 a1 a2 a3 a4 a5 a6 a7 a8 = arZ (unV a2 a0 a1 a2) (oY0 a0 a1 a2 a3 a4 a5 a6 a7 a8) (unV a0 a0 a1 a2) (oY2 a0 a1 a2 a3 a4 a5 a6 a7 a8) := (clip_sm (z := arZ (unV a2 a0 a1 a2) (oY0 a0 a1 a2 a3 a4 a5 a6 a7 a8) (unV a0 a0 a1 a2) (oY2 a0 a1 a2 a3 a4 a5 a6 a7 a8)) (by omega)).1
  have cz1 : clipC (arZ (unV a2 a0 a1 a2) (oY0 a0 a1 a2 a3 a4 a5 a6 a7 a8) (unV a0 a0 a1 a2) (oY2 a0 a1 a2 a3 a4 a5 a6 a7 a8)) = false := (clip_sm (by omega)).2
  have hZ2 : oZ2 a0 a1 a2 a3 a4 a5 a6 a7 a8 = arZ (unV a0 a0 a1 a2) (oY1 a0 a1 a2 a3 a4 a5 a6 a7 a8) (unV a1 a0 a1 a2) (oY0 a0 a1 a2 a3 a4 a5 a6 a7 a8) := (clip_sm (z := arZ (unV a0 a0 a1 a2) (oY1 a0 a1 a2 a3 a4 a5 a6 a7 a8) (unV a1 a0 a1 a2) (oY0 a0 a1 a2 a3 a4 a5 a6 a7 a8)) (by omega)).1
  have cz2 : clipC (arZ (unV a0 a0 a1 a2) (oY1 a0 a1 a2 a3 a4 a5 a6 a7 a8) (unV a1 a0 a1 a2) (oY0 a0 a1 a2 a3 a4 a5 a6 a7 a8)) = false := (clip_sm (by omega)).2
  have hC : ortC a0 a1 a2 a3 a4 a5 a6 a7 a8 = true := by
    unfold ortC
    rw [ua, ub, hDc, sc0, sc1, sc2, sb0, sb1, sb2, cz0, cz1, cz2]
    rfl
  have o0 : (ort0 a0 a1 a2 a3 a4 a5 a6 a7 a8) = (unV a0 a0 a1 a2) := if_pos hC
  have o1 : (ort1 a0 a1 a2 a3 a4 a5 a6 a7 a8) = (unV a1 a0 a1 a2) := if_pos hC
  have o2 : (ort2 a0 a1 a2 a3 a4 a5 a6 a7 a8) = (unV a2 a0 a1 a2) := if_pos hC
  have o3 : (ort3 a0 a1 a2 a3 a4 a5 a6 a7 a8) = (oY0 a0 a1 a2 a3 a4 a5 a6 a7 a8) := if_pos hC
  have o4 : (ort4 a0 a1 a2 a3 a4 a5 a6 a7 a8) = (oY1 a0 a1 a2 a3 a4 a5 a6 a7 a8) := if_pos hC
  have o5 : (ort5 a0 a1 a2 a3 a4 a5 a6 a7 a8) = (oY2 a0 a1 a2 a3 a4 a5 a6 a7 a8) := if_pos hC
  have o6 : (ort6 a0 a1 a2 a3 a4 a5 a6 a7 a8) = (oZ0 a0 a1 a2 a3 a4 a5 a6 a7 a8) := if_pos hC
  have o7 : (ort7 a0 a1 a2 a3 a4 a5 a6 a7 a8) = (oZ1 a0 a1 a2 a3 a4 a5 a6 a7 a8) := if_pos hC
  have o8 : (ort8 a0 a1 a2 a3 a4 a5 a6 a7 a8) = (oZ2 a0 a1 a2 a3 a4 a5 a6 a7 a8) := if_pos hC
  rw [o0, o1, o2, o3, o4, o5, o6, o7, o8]
  have hy' : -30064771072 ≤ dot3 (oY0 a0 a1 a2 a3 a4 a5 a6 a7 a8) (oY1 a0 a1 a2 a3 a4 a5 a6 a7 a8) (oY2 a0 a1 a2 a3 a4 a5 a6 a7 a8) (oY0 a0 a1 a2 a3 a4 a5 a6 a7 a8) (oY1 a0 a1 a2 a3 a4 a5 a6 a7 a8) (oY2 a0 a1 a2 a3 a4 a5 a6 a7 a8) - 18446744073709551616 ∧ dot3 (oY0 a0 a1 a2 a3 a4 a5 a6 a7 a8) (oY1 a0 a1 a2 a3 a4 a5 a6 a7 a8) (oY2 a0 a1 a2 a3 a4 a5 a6 a7 a8) (oY0 a0 a1 a2 a3 a4 a5 a6 a7 a8) (oY1 a0 a1 a2 a3 a4 a5 a6 a7 a8) (oY2 a0 a1 a2 a3 a4 a5 a6 a7 a8) - 18446744073709551616 ≤ 38654705664 := hy
  have v0' : -4294967297 ≤ oY0 a0 a1 a2 a3 a4 a5 a6 a7 a8 ∧ oY0 a0 a1 a2 a3 a4 a5 a6 a7 a8 ≤ 4294967297 := v0
  have v1' : -4294967297 ≤ oY1 a0 a1 a2 a3 a4 a5 a6 a7 a8 ∧ oY1 a0 a1 a2 a3 a4 a5 a6 a7 a8 ≤ 4294967297 := v1
  have v2' : -4294967297 ≤ oY2 a0 a1 a2 a3 a4 a5 a6 a7 a8 ∧ oY2 a0 a1 a2 a3 a4 a5 a6 a7 a8 ≤ 4294967297 := v2
  rw [← hZ0] at hz hzx hzy w0
  rw [← hZ1] at hz hzx hzy w1
  rw [← hZ2] at hz hzx hzy w2
  refine ⟨hC, off9_le (by omega) ⟨dot_near (s := 4294967296) (by omega), dot_near (s := 0) (by omega), dot_near (s := 0) (by rw [dot3_comm]; omega), dot_near (s := 0) (by rw [dot3_comm]; omega), dot_near (s := 4294967296) (by omega), dot_near (s := 0) (by rw [dot3_comm]; omega), dot_near (s := 0) (by omega), dot_near (s := 0) (by omega), dot_near (s := 4294967296) (by omega)⟩, ?_⟩
  exact ⟨by omega, by omega, by omega, by omega, by omega, by omega, by omega, by omega, by omega⟩
end Go.Xv
namespace Go.Xv
/-- the rows of a matrix that turns -/
def RowsOK (a0 a1 a2 a3 a4 a5 a6 a7 a8 : Int) : Prop := (-2300000000000 ≤ dot3 a0 a1 a2 a0 a1 a2 - 18446744073709551616 ∧ dot3 a0 a1 a2 a0 a1 a2 - 18446744073709551616 ≤ 2300000000000) ∧ (-2300000000000 ≤ dot3 a3 a4 a5 a3 a4 a5 - 18446744073709551616 ∧ dot3 a3 a4 a5 a3 a4 a5 - 18446744073709551616 ≤ 2300000000000) ∧ (-2300000000000 ≤ dot3 a6 a7 a8 a6 a7 a8 - 18446744073709551616 ∧ dot3 a6 a7 a8 a6 a7 a8 - 18446744073709551616 ≤ 2300000000000) ∧ (-2300000000000 ≤ dot3 a0 a1 a2 a3 a4 a5 - 0 ∧ dot3 a0 a1 a2 a3 a4 a5 - 0 ≤ 2300000000000) ∧ (-2300000000000 ≤ dot3 a0 a1 a2 a6 a7 a8 - 0 ∧ dot3 a0 a1 a2 a6 a7 a8 - 0 ≤ 2300000000000) ∧ (-2300000000000 ≤ dot3 a3 a4 a5 a6 a7 a8 - 0 ∧ dot3 a3 a4 a5 a6 a7 a8 - 0 ≤ 2300000000000) ∧ (-4294967296 ≤ a0 ∧ a0 ≤ 4294967296) ∧ (-4294967296 ≤ a1 ∧ a1 ≤ 4294967296) ∧ (-4294967296 ≤ a2 ∧ a2 ≤ 4294967296) ∧ (-4294967296 ≤ a3 ∧ a3 ≤ 4294967296) ∧ (-4294967296 ≤ a4 ∧ a4 ≤ 4294967296) ∧ (-4294967296 ≤ a5 ∧ a5 ≤ 4294967296) ∧ (-4294967296 ≤ a6 ∧ a6 ≤ 4294967296) ∧ (-4294967296 ≤ a7 ∧ a7 ≤ 4294967296) ∧ (-4294967296 ≤ a8 ∧ a8 ≤ 4294967296)
theorem about_rows0 {x : Int} (hx : 0 ≤ x ∧ x < 4294967296) : RowsOK 4294967296 0 0 0 (bothC x) (-bothS x) 0 (bothS x) (bothC x) := by
  have h := Cx.both_len hx
  obtain ⟨⟨b1, b2⟩, b3, b4⟩ := both_bd x
  have e1 : -bothS x * bothC x = -(bothC x * bothS x) := by rw [Int.neg_mul, Int.mul_comm]
  have e2 : bothC x * -bothS x = -(bothC x * bothS x) := by rw [Int.mul_neg]
  have e3 : bothS x * bothC x = bothC x * bothS x := Int.mul_comm _ _
  have e4 : -bothS x * -bothS x = bothS x * bothS x := Int.neg_mul_neg _ _
  unfold RowsOK dot3
  simp only [Int.zero_mul, Int.mul_zero, e1, e2, e3, e4]
  omega
theorem about_rows1 {x : Int} (hx : 0 ≤ x ∧ x < 4294967296) : RowsOK (bothC x) 0 (bothS x) 0 4294967296 0 (-bothS x) 0 (bothC x) := by
  have h := Cx.both_len hx
  obtain ⟨⟨b1, b2⟩, b3, b4⟩ := both_bd x
  have e1 : -bothS x * bothC x = -(bothC x * bothS x) := by rw [Int.neg_mul, Int.mul_comm]
  have e2 : bothC x * -bothS x = -(bothC x * bothS x) := by rw [Int.mul_neg]
  have e3 : bothS x * bothC x = bothC x * bothS x := Int.mul_comm _ _
  have e4 : -bothS x * -bothS x = bothS x * bothS x := Int.neg_mul_neg _ _
  unfold RowsOK dot3
  simp only [Int.zero_mul, Int.mul_zero, e1, e2, e3, e4]
  omega
theorem about_rows2 {x : Int} (hx : 0 ≤ x ∧ x < 4294967296) : RowsOK (bothC x) (-bothS x) 0 (bothS x) (bothC x) 0 0 0 4294967296 := by
  have h := Cx.both_len hx
  obtain ⟨⟨b1, b2⟩, b3, b4⟩ := both_bd x
  have e1 : -bothS x * bothC x = -(bothC x * bothS x) := by rw [Int.neg_mul, Int.mul_comm]
  have e2 : bothC x * -bothS x = -(bothC x * bothS x) := by rw [Int.mul_neg]
  have e3 : bothS x * bothC x = bothC x * bothS x := Int.mul_comm _ _
  have e4 : -bothS x * -bothS x = bothS x * bothS x := Int.neg_mul_neg _ _
  unfold RowsOK dot3
  simp only [Int.zero_mul, Int.mul_zero, e1, e2, e3, e4]
  omega
/-- rows times a matrix that turns, and then changed a little -/
theorem rows_math {f0 f1 f2 g0 g1 g2 b0 b1 b2 b3 b4 b5 b6 b7 b8 c0 c1 c2 d0 d1 d2 T : Int}
    (hf : (-4294967296 ≤ f0 ∧ f0 ≤ 4294967296) ∧ (-4294967296 ≤ f1 ∧ f1 ≤ 4294967296) ∧ (-4294967296 ≤ f2 ∧ f2 ≤ 4294967296))
    (hg : (-4294967296 ≤ g0 ∧ g0 ≤ 4294967296) ∧ (-4294967296 ≤ g1 ∧ g1 ≤ 4294967296) ∧ (-4294967296 ≤ g2 ∧ g2 ≤ 4294967296))
    (hfg : -2300000000000 ≤ dot3 f0 f1 f2 g0 g1 g2 - T ∧ dot3 f0 f1 f2 g0 g1 g2 - T ≤ 2300000000000) (hB : RowsOK b0 b1 b2 b3 b4 b5 b6 b7 b8)
    (hc : (-72057700000000000 ≤ 4294967296 * c0 - dot3 f0 f1 f2 b0 b3 b6 ∧ 4294967296 * c0 - dot3 f0 f1 f2 b0 b3 b6 ≤ 72057700000000000) ∧ (-72057700000000000 ≤ 4294967296 * c1 - dot3 f0 f1 f2 b1 b4 b7 ∧ 4294967296 * c1 - dot3 f0 f1 f2 b1 b4 b7 ≤ 72057700000000000) ∧ (-72057700000000000 ≤ 4294967296 * c2 - dot3 f0 f1 f2 b2 b5 b8 ∧ 4294967296 * c2 - dot3 f0 f1 f2 b2 b5 b8 ≤ 72057700000000000))
    (hd : (-72057700000000000 ≤ 4294967296 * d0 - dot3 g0 g1 g2 b0 b3 b6 ∧ 4294967296 * d0 - dot3 g0 g1 g2 b0 b3 b6 ≤ 72057700000000000) ∧ (-72057700000000000 ≤ 4294967296 * d1 - dot3 g0 g1 g2 b1 b4 b7 ∧ 4294967296 * d1 - dot3 g0 g1 g2 b1 b4 b7 ≤ 72057700000000000) ∧ (-72057700000000000 ≤ 4294967296 * d2 - dot3 g0 g1 g2 b2 b5 b8 ∧ 4294967296 * d2 - dot3 g0 g1 g2 b2 b5 b8 ≤ 72057700000000000)) :
    -1310000000000000000 ≤ dot3 c0 c1 c2 d0 d1 d2 - T ∧ dot3 c0 c1 c2 d0 d1 d2 - T ≤ 1310000000000000000 := by
  obtain ⟨G00, G11, G22, G01, G02, G12, B0, B1, B2, B3, B4, B5, B6, B7, B8⟩ := hB
  obtain ⟨f0_, f1_, f2_⟩ := hf
  obtain ⟨g0_, g1_, g2_⟩ := hg
  obtain ⟨c0_, c1_, c2_⟩ := hc
  obtain ⟨d0_, d1_, d2_⟩ := hd
  have f00 := bdm f0_ B0
  have f10 := bdm f1_ B3
  have f20 := bdm f2_ B6
  have qf0 : -55340232221128654848 ≤ dot3 f0 f1 f2 b0 b3 b6 ∧ dot3 f0 f1 f2 b0 b3 b6 ≤ 55340232221128654848 := by unfold dot3; omega
  have f01 := bdm f0_ B1
  have f11 := bdm f1_ B4
  have f21 := bdm f2_ B7
  have qf1 : -55340232221128654848 ≤ dot3 f0 f1 f2 b1 b4 b7 ∧ dot3 f0 f1 f2 b1 b4 b7 ≤ 55340232221128654848 := by unfold dot3; omega
  have f02 := bdm f0_ B2
  have f12 := bdm f1_ B5
  have f22 := bdm f2_ B8
  have qf2 : -55340232221128654848 ≤ dot3 f0 f1 f2 b2 b5 b8 ∧ dot3 f0 f1 f2 b2 b5 b8 ≤ 55340232221128654848 := by unfold dot3; omega
  have g00 := bdm g0_ B0
  have g10 := bdm g1_ B3
  have g20 := bdm g2_ B6
  have qg0 : -55340232221128654848 ≤ dot3 g0 g1 g2 b0 b3 b6 ∧ dot3 g0 g1 g2 b0 b3 b6 ≤ 55340232221128654848 := by unfold dot3; omega
  have g01 := bdm g0_ B1
  have g11 := bdm g1_ B4
  have g21 := bdm g2_ B7
  have qg1 : -55340232221128654848 ≤ dot3 g0 g1 g2 b1 b4 b7 ∧ dot3 g0 g1 g2 b1 b4 b7 ≤ 55340232221128654848 := by unfold dot3; omega
  have g02 := bdm g0_ B2
  have g12 := bdm g1_ B5
  have g22 := bdm g2_ B8
  have qg2 : -55340232221128654848 ≤ dot3 g0 g1 g2 b2 b5 b8 ∧ dot3 g0 g1 g2 b2 b5 b8 ≤ 55340232221128654848 := by unfold dot3; omega
  have w10 := bdm qf0 d0_
  have w20 := bdm c0_ qg0
  have w30 := bdm c0_ d0_
  have w11 := bdm qf1 d1_
  have w21 := bdm c1_ qg1
  have w31 := bdm c1_ d1_
  have w12 := bdm qf2 d2_
  have w22 := bdm c2_ qg2
  have w32 := bdm c2_ d2_
  have fg00 := bdm f0_ g0_
  have x00 := bdm fg00 G00
  have fg01 := bdm f0_ g1_
  have x01 := bdm fg01 G01
  have fg02 := bdm f0_ g2_
  have x02 := bdm fg02 G02
  have fg10 := bdm f1_ g0_
  have x10 := bdm fg10 G01
  have fg11 := bdm f1_ g1_
  have x11 := bdm fg11 G11
  have fg12 := bdm f1_ g2_
  have x12 := bdm fg12 G12
  have fg20 := bdm f2_ g0_
  have x20 := bdm fg20 G02
  have fg21 := bdm f2_ g1_
  have x21 := bdm fg21 G12
  have fg22 := bdm f2_ g2_
  have x22 := bdm fg22 G22
  have key : 18446744073709551616 * (dot3 c0 c1 c2 d0 d1 d2 - T) = 18446744073709551616 * (dot3 f0 f1 f2 g0 g1 g2 - T) + (f0 * g0 * (dot3 b0 b1 b2 b0 b1 b2 - 18446744073709551616) + f0 * g1 * (dot3 b0 b1 b2 b3 b4 b5 - 0) + f0 * g2 * (dot3 b0 b1 b2 b6 b7 b8 - 0) + f1 * g0 * (dot3 b0 b1 b2 b3 b4 b5 - 0) + f1 * g1 * (dot3 b3 b4 b5 b3 b4 b5 - 18446744073709551616) + f1 * g2 * (dot3 b3 b4 b5 b6 b7 b8 - 0) + f2 * g0 * (dot3 b0 b1 b2 b6 b7 b8 - 0) + f2 * g1 * (dot3 b3 b4 b5 b6 b7 b8 - 0) + f2 * g2 * (dot3 b6 b7 b8 b6 b7 b8 - 18446744073709551616)) + ((dot3 f0 f1 f2 b0 b3 b6) * (4294967296 * d0 - dot3 g0 g1 g2 b0 b3 b6) + (4294967296 * c0 - dot3 f0 f1 f2 b0 b3 b6) * (dot3 g0 g1 g2 b0 b3 b6) + (4294967296 * c0 - dot3 f0 f1 f2 b0 b3 b6) * (4294967296 * d0 - dot3 g0 g1 g2 b0 b3 b6) + (dot3 f0 f1 f2 b1 b4 b7) * (4294967296 * d1 - dot3 g0 g1 g2 b1 b4 b7) + (4294967296 * c1 - dot3 f0 f1 f2 b1 b4 b7) * (dot3 g0 g1 g2 b1 b4 b7) + (4294967296 * c1 - dot3 f0 f1 f2 b1 b4 b7) * (4294967296 * d1 - dot3 g0 g1 g2 b1 b4 b7) + (dot3 f0 f1 f2 b2 b5 b8) * (4294967296 * d2 - dot3 g0 g1 g2 b2 b5 b8) + (4294967296 * c2 - dot3 f0 f1 f2 b2 b5 b8) * (dot3 g0 g1 g2 b2 b5 b8) + (4294967296 * c2 - dot3 f0 f1 f2 b2 b5 b8) * (4294967296 * d2 - dot3 g0 g1 g2 b2 b5 b8)) := by
    unfold dot3
    grind
  omega
end Go.Xv
namespace Go.Xv
def nud (p n : Int) : Int := IntKind.wrap .i64 (p + IntKind.wrap .i64 (IntKind.wrap .i32 (Int.tdiv n 128)))
theorem nud_eq {p n : Int} (hn : I32 n) (hp : -100000000000 ≤ p ∧ p ≤ 100000000000) : nud p n - p ≤ 16777216 ∧ -16777216 ≤ nud p n - p := by
  have h1 : -16777216 ≤ Int.tdiv n 128 ∧ Int.tdiv n 128 ≤ 16777216 := by
    unfold I32 at hn
    rcases Int.le_total 0 n with h | h
    · rw [Int.tdiv_eq_ediv_of_nonneg h]; omega
    · have e := Int.tdiv_eq_ediv_of_nonneg (a := -n) (b := 128) (by omega)
      rw [Int.neg_tdiv] at e
      omega
  unfold nud
  rw [wi32_in (by unfold I32; omega), wi64_in (x := Int.tdiv n 128) (by unfold I64; omega), wi64_in (by unfold I64; omega)]
  omega
theorem st_Up_0 (F : Nat) (rc ex0) (x0 x1 x2 x3 x4 x5 x6 x7 x8 x9 x10 x11 x12 : Int) (x13 x14 : Bool) (n0 n1 n2 n3 n4 n5 n6 n7 n8 x25 x26 x27 x28 x29 x30 x31 x32 x33 x34 x35 x36 x37 x38 x39 x40 x41 x42 : Int) (p0 p1 p2 p3 p4 p5 p6 p7 p8 : Int) :
    B_a_0 F rc ex0 x0 x1 x2 x3 x4 x5 x6 x7 x8 x9 x10 x11 x12 x13 x14 0 n0 n1 n2 n3 n4 n5 n6 n7 n8 x25 x26 x27 x28 x29 x30 x31 x32 x33 x34 x35 x36 x37 x38 x39 x40 x41 x42 [.v (.int .i64 p0), .v (.int .i64 p1), .v (.int .i64 p2), .v (.int .i64 p3), .v (.int .i64 p4), .v (.int .i64 p5), .v (.int .i64 p6), .v (.int .i64 p7), .v (.int .i64 p8)] = rc x0 x1 x2 x3 x4 x5 x6 x7 x8 x9 x10 x11 x12 x13 x14 1 n0 n1 n2 n3 n4 n5 n6 n7 n8 x25 x26 x27 x28 x29 x30 x31 x32 x33 x34 x35 x36 x37 x38 x39 x40 x41 x42 [.v (.int .i64 (nud p0 n0)), .v (.int .i64 p1), .v (.int .i64 p2), .v (.int .i64 p3), .v (.int .i64 p4), .v (.int .i64 p5), .v (.int .i64 p6), .v (.int .i64 p7), .v (.int .i64 p8)] := by
  unfold B_a_0 Bg_a_0
  have w0 : IntKind.wrap .i64 (0 + 1) = 1 := by decide
  have w1 : IntKind.wrap .i64 (Int.tdiv 0 3) = 0 := by decide
  have w2 : Int.tmod 0 3 = 0 := by decide
  rw [w0, w1, w2]
  exact bp rfl (bp rfl (bp rfl (bp rfl (bp rfl (bp rfl (bp rfl (bp rfl (bp rfl rfl))))))))
theorem st_Up_1 (F : Nat) (rc ex0) (x0 x1 x2 x3 x4 x5 x6 x7 x8 x9 x10 x11 x12 : Int) (x13 x14 : Bool) (n0 n1 n2 n3 n4 n5 n6 n7 n8 x25 x26 x27 x28 x29 x30 x31 x32 x33 x34 x35 x36 x37 x38 x39 x40 x41 x42 : Int) (p0 p1 p2 p3 p4 p5 p6 p7 p8 : Int) :
    B_a_0 F rc ex0 x0 x1 x2 x3 x4 x5 x6 x7 x8 x9 x10 x11 x12 x13 x14 1 n0 n1 n2 n3 n4 n5 n6 n7 n8 x25 x26 x27 x28 x29 x30 x31 x32 x33 x34 x35 x36 x37 x38 x39 x40 x41 x42 [.v (.int .i64 p0), .v (.int .i64 p1), .v (.int .i64 p2), .v (.int .i64 p3), .v (.int .i64 p4), .v (.int .i64 p5), .v (.int .i64 p6), .v (.int .i64 p7), .v (.int .i64 p8)] = rc x0 x1 x2 x3 x4 x5 x6 x7 x8 x9 x10 x11 x12 x13 x14 2 n0 n1 n2 n3 n4 n5 n6 n7 n8 x25 x26 x27 x28 x29 x30 x31 x32 x33 x34 x35 x36 x37 x38 x39 x40 x41 x42 [.v (.int .i64 p0), .v (.int .i64 (nud p1 n1)), .v (.int .i64 p2), .v (.int .i64 p3), .v (.int .i64 p4), .v (.int .i64 p5), .v (.int .i64 p6), .v (.int .i64 p7), .v (.int .i64 p8)] := by
  unfold B_a_0 Bg_a_0
  have w0 : IntKind.wrap .i64 (1 + 1) = 2 := by decide
  have w1 : IntKind.wrap .i64 (Int.tdiv 1 3) = 0 := by decide
  have w2 : Int.tmod 1 3 = 1 := by decide
  rw [w0, w1, w2]
  exact bp rfl (bp rfl (bp rfl (bp rfl (bp rfl (bp rfl (bp rfl (bp rfl (bp rfl rfl))))))))
theorem st_Up_2 (F : Nat) (rc ex0) (x0 x1 x2 x3 x4 x5 x6 x7 x8 x9 x10 x11 x12 : Int) (x13 x14 : Bool) (n0 n1 n2 n3 n4 n5 n6 n7 n8 x25 x26 x27 x28 x29 x30 x31 x32 x33 x34 x35 x36 x37 x38 x39 x40 x41 x42 : Int) (p0 p1 p2 p3 p4 p5 p6 p7 p8 : Int) :
    B_a_0 F rc ex0 x0 x1 x2 x3 x4 x5 x6 x7 x8 x9 x10 x11 x12 x13 x14 2 n0 n1 n2 n3 n4 n5 n6 n7 n8 x25 x26 x27 x28 x29 x30 x31 x32 x33 x34 x35 x36 x37 x38 x39 x40 x41 x42 [.v (.int .i64 p0), .v (.int .i64 p1), .v (.int .i64 p2), .v (.int .i64 p3), .v (.int .i64 p4), .v (.int .i64 p5), .v (.int .i64 p6), .v (.int .i64 p7), .v (.int .i64 p8)] = rc x0 x1 x2 x3 x4 x5 x6 x7 x8 x9 x10 x11 x12 x13 x14 3 n0 n1 n2 n3 n4 n5 n6 n7 n8 x25 x26 x27 x28 x29 x30 x31 x32 x33 x34 x35 x36 x37 x38 x39 x40 x41 x42 [.v (.int .i64 p0), .v (.int .i64 p1), .v (.int .i64 (nud p2 n2)), .v (.int .i64 p3), .v (.int .i64 p4), .v (.int .i64 p5), .v (.int .i64 p6), .v (.int .i64 p7), .v (.int .i64 p8)] := by
  unfold B_a_0 Bg_a_0
  have w0 : IntKind.wrap .i64 (2 + 1) = 3 := by decide
  have w1 : IntKind.wrap .i64 (Int.tdiv 2 3) = 0 := by decide
  have w2 : Int.tmod 2 3 = 2 := by decide
  rw [w0, w1, w2]
  exact bp rfl (bp rfl (bp rfl (bp rfl (bp rfl (bp rfl (bp rfl (bp rfl (bp rfl rfl))))))))
theorem st_Up_3 (F : Nat) (rc ex0) (x0 x1 x2 x3 x4 x5 x6 x7 x8 x9 x10 x11 x12 : Int) (x13 x14 : Bool) (n0 n1 n2 n3 n4 n5 n6 n7 n8 x25 x26 x27 x28 x29 x30 x31 x32 x33 x34 x35 x36 x37 x38 x39 x40 x41 x42 : Int) (p0 p1 p2 p3 p4 p5 p6 p7 p8 : Int) :
    B_a_0 F rc ex0 x0 x1 x2 x3 x4 x5 x6 x7 x8 x9 x10 x11 x12 x13 x14 3 n0 n1 n2 n3 n4 n5 n6 n7 n8 x25 x26 x27 x28 x29 x30 x31 x32 x33 x34 x35 x36 x37 x38 x39 x40 x41 x42 [.v (.int .i64 p0), .v (.int .i64 p1), .v (.int .i64 p2), .v (.int .i64 p3), .v (.int .i64 p4), .v (.int .i64 p5), .v (.int .i64 p6), .v (.int .i64 p7), .v (.int .i64 p8)] = rc x0 x1 x2 x3 x4 x5 x6 x7 x8 x9 x10 x11 x12 x13 x14 4 n0 n1 n2 n3 n4 n5 n6 n7 n8 x25 x26 x27 x28 x29 x30 x31 x32 x33 x34 x35 x36 x37 x38 x39 x40 x41 x42 [.v (.int .i64 p0), .v (.int .i64 p1), .v (.int .i64 p2), .v (.int .i64 (nud p3 n3)), .v (.int .i64 p4), .v (.int .i64 p5), .v (.int .i64 p6), .v (.int .i64 p7), .v (.int .i64 p8)] := by
  unfold B_a_0 Bg_a_0
  have w0 : IntKind.wrap .i64 (3 + 1) = 4 := by decide
  have w1 : IntKind.wrap .i64 (Int.tdiv 3 3) = 1 := by decide
  have w2 : Int.tmod 3 3 = 0 := by decide
  rw [w0, w1, w2]
  exact bp rfl (bp rfl (bp rfl (bp rfl (bp rfl (bp rfl (bp rfl (bp rfl (bp rfl rfl))))))))
theorem st_Up_4 (F : Nat) (rc ex0) (x0 x1 x2 x3 x4 x5 x6 x7 x8 x9 x10 x11 x12 : Int) (x13 x14 : Bool) (n0 n1 n2 n3 n4 n5 n6 n7 n8 x25 x26 x27 x28 x29 x30 x31 x32 x33 x34 x35 x36 x37 x38 x39 x40 x41 x42 : Int) (p0 p1 p2 p3 p4 p5 p6 p7 p8 : Int) :
    B_a_0 F rc ex0 x0 x1 x2 x3 x4 x5 x6 x7 x8 x9 x10 x11 x12 x13 x14 4 n0 n1 n2 n3 n4 n5 n6 n7 n8 x25 x26 x27 x28 x29 x30 x31 x32 x33 x34 x35 x36 x37 x38 x39 x40 x41 x42 [.v (.int .i64 p0), .v (.int .i64 p1), .v (.int .i64 p2), .v (.int .i64 p3), .v (.int .i64 p4), .v (.int .i64 p5), .v (.int .i64 p6), .v (.int .i64 p7), .v (.int .i64 p8)] = rc x0 x1 x2 x3 x4 x5 x6 x7 x8 x9 x10 x11 x12 x13 x14 5 n0 n1 n2 n3 n4 n5 n6 n7 n8 x25 x26 x27 x28 x29 x30 x31 x32 x33 x34 x35 x36 x37 x38 x39 x40 x41 x42 [.v (.int .i64 p0), .v (.int .i64 p1), .v (.int .i64 p2), .v (.int .i64 p3), .v (.int .i64 (nud p4 n4)), .v (.int .i64 p5), .v (.int .i64 p6), .v (.int .i64 p7), .v (.int .i64 p8)] := by
  unfold B_a_0 Bg_a_0
  have w0 : IntKind.wrap .i64 (4 + 1) = 5 := by decide
  have w1 : IntKind.wrap .i64 (Int.tdiv 4 3) = 1 := by decide
  have w2 : Int.tmod 4 3 = 1 := by decide
  rw [w0, w1, w2]
  exact bp rfl (bp rfl (bp rfl (bp rfl (bp rfl (bp rfl (bp rfl (bp rfl (bp rfl rfl))))))))
theorem st_Up_5 (F : Nat) (rc ex0) (x0 x1 x2 x3 x4 x5 x6 x7 x8 x9 x10 x11 x12 : Int) (x13 x14 : Bool) (n0 n1 n2 n3 n4 n5 n6 n7 n8 x25 x26 x27 x28 x29 x30 x31 x32 x33 x34 x35 x36 x37 x38 x39 x40 x41 x42 : Int) (p0 p1 p2 p3 p4 p5 p6 p7 p8 : Int) :
    B_a_0 F rc ex0 x0 x1 x2 x3 x4 x5 x6 x7 x8 x9 x10 x11 x12 x13 x14 5 n0 n1 n2 n3 n4 n5 n6 n7 n8 x25 x26 x27 x28 x29 x30 x31 x32 x33 x34 x35 x36 x37 x38 x39 x40 x41 x42 [.v (.int .i64 p0), .v (.int .i64 p1), .v (.int .i64 p2), .v (.int .i64 p3), .v (.int .i64 p4), .v (.int .i64 p5), .v (.int .i64 p6), .v (.int .i64 p7), .v (.int .i64 p8)] = rc x0 x1 x2 x3 x4 x5 x6 x7 x8 x9 x10 x11 x12 x13 x14 6 n0 n1 n2 n3 n4 n5 n6 n7 n8 x25 x26 x27 x28 x29 x30 x31 x32 x33 x34 x35 x36 x37 x38 x39 x40 x41 x42 [.v (.int .i64 p0), .v (.int .i64 p1), .v (.int .i64 p2), .v (.int .i64 p3), .v (.int .i64 p4), .v (.int .i64 (nud p5 n5)), .v (.int .i64 p6), .v (.int .i64 p7), .v (.int .i64 p8)] := by
  unfold B_a_0 Bg_a_0
  have w0 : IntKind.wrap .i64 (5 + 1) = 6 := by decide
  have w1 : IntKind.wrap .i64 (Int.tdiv 5 3) = 1 := by decide
  have w2 : Int.tmod 5 3 = 2 := by decide
  rw [w0, w1, w2]
  exact bp rfl (bp rfl (bp rfl (bp rfl (bp rfl (bp rfl (bp rfl (bp rfl (bp rfl rfl))))))))
theorem st_Up_6 (F : Nat) (rc ex0) (x0 x1 x2 x3 x4 x5 x6 x7 x8 x9 x10 x11 x12 : Int) (x13 x14 : Bool) (n0 n1 n2 n3 n4 n5 n6 n7 n8 x25 x26 x27 x28 x29 x30 x31 x32 x33 x34 x35 x36 x37 x38 x39 x40 x41 x42 : Int) (p0 p1 p2 p3 p4 p5 p6 p7 p8 : Int) :
    B_a_0 F rc ex0 x0 x1 x2 x3 x4 x5 x6 x7 x8 x9 x10 x11 x12 x13 x14 6 n0 n1 n2 n3 n4 n5 n6 n7 n8 x25 x26 x27 x28 x29 x30 x31 x32 x33 x34 x35 x36 x37 x38 x39 x40 x41 x42 [.v (.int .i64 p0), .v (.int .i64 p1), .v (.int .i64 p2), .v (.int .i64 p3), .v (.int .i64 p4), .v (.int .i64 p5), .v (.int .i64 p6), .v (.int .i64 p7), .v (.int .i64 p8)] = rc x0 x1 x2 x3 x4 x5 x6 x7 x8 x9 x10 x11 x12 x13 x14 7 n0 n1 n2 n3 n4 n5 n6 n7 n8 x25 x26 x27 x28 x29 x30 x31 x32 x33 x34 x35 x36 x37 x38 x39 x40 x41 x42 [.v (.int .i64 p0), .v (.int .i64 p1), .v (.int .i64 p2), .v (.int .i64 p3), .v (.int .i64 p4), .v (.int .i64 p5), .v (.int .i64 (nud p6 n6)), .v (.int .i64 p7), .v (.int .i64 p8)] := by
  unfold B_a_0 Bg_a_0
  have w0 : IntKind.wrap .i64 (6 + 1) = 7 := by decide
  have w1 : IntKind.wrap .i64 (Int.tdiv 6 3) = 2 := by decide
  have w2 : Int.tmod 6 3 = 0 := by decide
  rw [w0, w1, w2]
  exact bp rfl (bp rfl (bp rfl (bp rfl (bp rfl (bp rfl (bp rfl (bp rfl (bp rfl rfl))))))))
theorem st_Up_7 (F : Nat) (rc ex0) (x0 x1 x2 x3 x4 x5 x6 x7 x8 x9 x10 x11 x12 : Int) (x13 x14 : Bool) (n0 n1 n2 n3 n4 n5 n6 n7 n8 x25 x26 x27 x28 x29 x30 x31 x32 x33 x34 x35 x36 x37 x38 x39 x40 x41 x42 : Int) (p0 p1 p2 p3 p4 p5 p6 p7 p8 : Int) :
    B_a_0 F rc ex0 x0 x1 x2 x3 x4 x5 x6 x7 x8 x9 x10 x11 x12 x13 x14 7 n0 n1 n2 n3 n4 n5 n6 n7 n8 x25 x26 x27 x28 x29 x30 x31 x32 x33 x34 x35 x36 x37 x38 x39 x40 x41 x42 [.v (.int .i64 p0), .v (.int .i64 p1), .v (.int .i64 p2), .v (.int .i64 p3), .v (.int .i64 p4), .v (.int .i64 p5), .v (.int .i64 p6), .v (.int .i64 p7), .v (.int .i64 p8)] = rc x0 x1 x2 x3 x4 x5 x6 x7 x8 x9 x10 x11 x12 x13 x14 8 n0 n1 n2 n3 n4 n5 n6 n7 n8 x25 x26 x27 x28 x29 x30 x31 x32 x33 x34 x35 x36 x37 x38 x39 x40 x41 x42 [.v (.int .i64 p0), .v (.int .i64 p1), .v (.int .i64 p2), .v (.int .i64 p3), .v (.int .i64 p4), .v (.int .i64 p5), .v (.int .i64 p6), .v (.int .i64 (nud p7 n7)), .v (.int .i64 p8)] := by
  unfold B_a_0 Bg_a_0
  have w0 : IntKind.wrap .i64 (7 + 1) = 8 := by decide
  have w1 : IntKind.wrap .i64 (Int.tdiv 7 3) = 2 := by decide
  have w2 : Int.tmod 7 3 = 1 := by decide
  rw [w0, w1, w2]
  exact bp rfl (bp rfl (bp rfl (bp rfl (bp rfl (bp rfl (bp rfl (bp rfl (bp rfl rfl))))))))
theorem st_Up_8 (F : Nat) (rc ex0) (x0 x1 x2 x3 x4 x5 x6 x7 x8 x9 x10 x11 x12 : Int) (x13 x14 : Bool) (n0 n1 n2 n3 n4 n5 n6 n7 n8 x25 x26 x27 x28 x29 x30 x31 x32 x33 x34 x35 x36 x37 x38 x39 x40 x41 x42 : Int) (p0 p1 p2 p3 p4 p5 p6 p7 p8 : Int) :
    B_a_0 F rc ex0 x0 x1 x2 x3 x4 x5 x6 x7 x8 x9 x10 x11 x12 x13 x14 8 n0 n1 n2 n3 n4 n5 n6 n7 n8 x25 x26 x27 x28 x29 x30 x31 x32 x33 x34 x35 x36 x37 x38 x39 x40 x41 x42 [.v (.int .i64 p0), .v (.int .i64 p1), .v (.int .i64 p2), .v (.int .i64 p3), .v (.int .i64 p4), .v (.int .i64 p5), .v (.int .i64 p6), .v (.int .i64 p7), .v (.int .i64 p8)] = rc x0 x1 x2 x3 x4 x5 x6 x7 x8 x9 x10 x11 x12 x13 x14 9 n0 n1 n2 n3 n4 n5 n6 n7 n8 x25 x26 x27 x28 x29 x30 x31 x32 x33 x34 x35 x36 x37 x38 x39 x40 x41 x42 [.v (.int .i64 p0), .v (.int .i64 p1), .v (.int .i64 p2), .v (.int .i64 p3), .v (.int .i64 p4), .v (.int .i64 p5), .v (.int .i64 p6), .v (.int .i64 p7), .v (.int .i64 (nud p8 n8))] := by
  unfold B_a_0 Bg_a_0
  have w0 : IntKind.wrap .i64 (8 + 1) = 9 := by decide
  have w1 : IntKind.wrap .i64 (Int.tdiv 8 3) = 2 := by decide
  have w2 : Int.tmod 8 3 = 2 := by decide
  rw [w0, w1, w2]
  exact bp rfl (bp rfl (bp rfl (bp rfl (bp rfl (bp rfl (bp rfl (bp rfl (bp rfl rfl))))))))
theorem upTail (F : Nat) (hF : 200 ≤ F) (k0 x0 k1 x1 : Int) {a0 a1 a2 a3 a4 a5 a6 a7 a8 b0 b1 b2 b3 b4 b5 b6 b7 b8 n0 n1 n2 n3 n4 n5 n6 n7 n8 : Int} (hn0 : I32 n0) (hn1 : I32 n1) (hn2 : I32 n2) (hn3 : I32 n3) (hn4 : I32 n4) (hn5 : I32 n5) (hn6 : I32 n6) (hn7 : I32 n7) (hn8 : I32 n8) (hA : RowsOK a0 a1 a2 a3 a4 a5 a6 a7 a8) (hB : RowsOK b0 b1 b2 b3 b4 b5 b6 b7 b8) :
    (L_a_0 F (fun (v3508 v3509 v3510 v3511 v3512 v3513 v3514 v3515 v3516 v3517 v3518 v3519 v3520 : Int) (v3521 v3522 : Bool) (v3523 v3524 v3525 v3526 v3527 v3528 v3529 v3530 v3531 v3532 v3533 v3534 v3535 v3536 v3537 v3538 v3539 v3540 v3541 v3542 v3543 v3544 v3545 v3546 v3547 v3548 v3549 v3550 : Int) (v3551 : List VV) =>
                  bif ((isI .i64 v3551[0]?) && ((isI .i64 v3551[1]?) && ((isI .i64 v3551[2]?) && ((isI .i64 v3551[3]?) && ((isI .i64 v3551[4]?) && ((isI .i64 v3551[5]?) && ((isI .i64 v3551[6]?) && ((isI .i64 v3551[7]?) && ((isI .i64 v3551[8]?) && true))))))))) then (
                    let v3552 : Int := (iv v3551[0]?)
                    let v3553 : Int := (iv v3551[1]?)
                    let v3554 : Int := (iv v3551[2]?)
                    let v3555 : Int := (iv v3551[3]?)
                    let v3556 : Int := (iv v3551[4]?)
                    let v3557 : Int := (iv v3551[5]?)
                    let v3558 : Int := (iv v3551[6]?)
                    let v3559 : Int := (iv v3551[7]?)
                    let v3560 : Int := (iv v3551[8]?)
                    bif (ok_w F v3552 v3553 v3554 v3555 v3556 v3557 v3558 v3559 v3560) then (
                      let v3687 : Int := (o_w_0 F v3552 v3553 v3554 v3555 v3556 v3557 v3558 v3559 v3560)
                      let v3688 : Int := (o_w_1 F v3552 v3553 v3554 v3555 v3556 v3557 v3558 v3559 v3560)
                      let v3689 : Int := (o_w_2 F v3552 v3553 v3554 v3555 v3556 v3557 v3558 v3559 v3560)
                      let v3690 : Int := (o_w_3 F v3552 v3553 v3554 v3555 v3556 v3557 v3558 v3559 v3560)
                      let v3691 : Int := (o_w_4 F v3552 v3553 v3554 v3555 v3556 v3557 v3558 v3559 v3560)
                      let v3692 : Int := (o_w_5 F v3552 v3553 v3554 v3555 v3556 v3557 v3558 v3559 v3560)
                      let v3693 : Int := (o_w_6 F v3552 v3553 v3554 v3555 v3556 v3557 v3558 v3559 v3560)
                      let v3694 : Int := (o_w_7 F v3552 v3553 v3554 v3555 v3556 v3557 v3558 v3559 v3560)
                      let v3695 : Int := (o_w_8 F v3552 v3553 v3554 v3555 v3556 v3557 v3558 v3559 v3560)
                      bif ((!v3522)) then (
                        bif ((o_w_9 F v3552 v3553 v3554 v3555 v3556 v3557 v3558 v3559 v3560)) then (
                          bif (ok_xa F v3687 v3688 v3689 v3690 v3691 v3692 v3693 v3694 v3695) then (
                            bif ((decide (((o_xa_0 F v3687 v3688 v3689 v3690 v3691 v3692 v3693 v3694 v3695)) ≤ 4096))) then (
                              bif (ok_xa F v3687 v3688 v3689 v3690 v3691 v3692 v3693 v3694 v3695) then (
                                some (.v (.bool ((decide (((o_xa_0 F v3687 v3688 v3689 v3690 v3691 v3692 v3693 v3694 v3695)) ≥ 0))))))
                              else (
                                none))
                            else (
                              some (.v (.bool false))))
                          else (
                            none))
                        else (
                          some (.v (.bool false))))
                      else (
                        some (.v (.bool false))))
                    else (
                      none))
                  else (
                    none)) F k0 x0 k1 x1 n0 n1 n2 n3 n4 n5 n6 n7 n8 false ((o_wa_9 F a0 a1 a2 a3 a4 a5 a6 a7 a8 b0 b1 b2 b3 b4 b5 b6 b7 b8)) 0 n0 n1 n2 n3 n4 n5 n6 n7 n8 a0 a1 a2 a3 a4 a5 a6 a7 a8 b0 b1 b2 b3 b4 b5 b6 b7 b8 ([.v (.int .i64 ((o_wa_0 F a0 a1 a2 a3 a4 a5 a6 a7 a8 b0 b1 b2 b3 b4 b5 b6 b7 b8))), .v (.int .i64 ((o_wa_1 F a0 a1 a2 a3 a4 a5 a6 a7 a8 b0 b1 b2 b3 b4 b5 b6 b7 b8))), .v (.int .i64 ((o_wa_2 F a0 a1 a2 a3 a4 a5 a6 a7 a8 b0 b1 b2 b3 b4 b5 b6 b7 b8))), .v (.int .i64 ((o_wa_3 F a0 a1 a2 a3 a4 a5 a6 a7 a8 b0 b1 b2 b3 b4 b5 b6 b7 b8))), .v (.int .i64 ((o_wa_4 F a0 a1 a2 a3 a4 a5 a6 a7 a8 b0 b1 b2 b3 b4 b5 b6 b7 b8))), .v (.int .i64 ((o_wa_5 F a0 a1 a2 a3 a4 a5 a6 a7 a8 b0 b1 b2 b3 b4 b5 b6 b7 b8))), .v (.int .i64 ((o_wa_6 F a0 a1 a2 a3 a4 a5 a6 a7 a8 b0 b1 b2 b3 b4 b5 b6 b7 b8))), .v (.int .i64 ((o_wa_7 F a0 a1 a2 a3 a4 a5 a6 a7 a8 b0 b1 b2 b3 b4 b5 b6 b7 b8))), .v (.int .i64 ((o_wa_8 F a0 a1 a2 a3 a4 a5 a6 a7 a8 b0 b1 b2 b3 b4 b5 b6 b7 b8)))]) : R) = some (.v (.bool true)) := by
  have hA' := hA
  have hB' := hB
  obtain ⟨A00, A11, A22, A01, A02, A12, A0, A1, A2, A3, A4, A5, A6, A7, A8⟩ := hA'
  obtain ⟨_, _, _, _, _, _, B0, B1, B2, B3, B4, B5, B6, B7, B8⟩ := hB'
  have m000 := bdm A0 B0
  have m001 := bdm A1 B3
  have m002 := bdm A2 B6
  have r0 := dot_rd a0 a1 a2 b0 b3 b6
  have c0 : -100000000000 ≤ dotZ a0 a1 a2 b0 b3 b6 ∧ dotZ a0 a1 a2 b0 b3 b6 ≤ 100000000000 := by unfold dot3 at r0; omega
  obtain ⟨e0, z0⟩ := clip_sm c0
  have u0 := nud_eq hn0 c0
  have m010 := bdm A0 B1
  have m011 := bdm A1 B4
  have m012 := bdm A2 B7
  have r1 := dot_rd a0 a1 a2 b1 b4 b7
  have c1 : -100000000000 ≤ dotZ a0 a1 a2 b1 b4 b7 ∧ dotZ a0 a1 a2 b1 b4 b7 ≤ 100000000000 := by unfold dot3 at r1; omega
  obtain ⟨e1, z1⟩ := clip_sm c1
  have u1 := nud_eq hn1 c1
  have m020 := bdm A0 B2
  have m021 := bdm A1 B5
  have m022 := bdm A2 B8
  have r2 := dot_rd a0 a1 a2 b2 b5 b8
  have c2 : -100000000000 ≤ dotZ a0 a1 a2 b2 b5 b8 ∧ dotZ a0 a1 a2 b2 b5 b8 ≤ 100000000000 := by unfold dot3 at r2; omega
  obtain ⟨e2, z2⟩ := clip_sm c2
  have u2 := nud_eq hn2 c2
  have m100 := bdm A3 B0
  have m101 := bdm A4 B3
  have m102 := bdm A5 B6
  have r3 := dot_rd a3 a4 a5 b0 b3 b6
  have c3 : -100000000000 ≤ dotZ a3 a4 a5 b0 b3 b6 ∧ dotZ a3 a4 a5 b0 b3 b6 ≤ 100000000000 := by unfold dot3 at r3; omega
  obtain ⟨e3, z3⟩ := clip_sm c3
  have u3 := nud_eq hn3 c3
  have m110 := bdm A3 B1
  have m111 := bdm A4 B4
  have m112 := bdm A5 B7
  have r4 := dot_rd a3 a4 a5 b1 b4 b7
  have c4 : -100000000000 ≤ dotZ a3 a4 a5 b1 b4 b7 ∧ dotZ a3 a4 a5 b1 b4 b7 ≤ 100000000000 := by unfold dot3 at r4; omega
  obtain ⟨e4, z4⟩ := clip_sm c4
  have u4 := nud_eq hn4 c4
  have m120 := bdm A3 B2
  have m121 := bdm A4 B5
  have m122 := bdm A5 B8
  have r5 := dot_rd a3 a4 a5 b2 b5 b8
  have c5 : -100000000000 ≤ dotZ a3 a4 a5 b2 b5 b8 ∧ dotZ a3 a4 a5 b2 b5 b8 ≤ 100000000000 := by unfold dot3 at r5; omega
  obtain ⟨e5, z5⟩ := clip_sm c5
  have u5 := nud_eq hn5 c5
  have m200 := bdm A6 B0
  have m201 := bdm A7 B3
  have m202 := bdm A8 B6
  have r6 := dot_rd a6 a7 a8 b0 b3 b6
  have c6 : -100000000000 ≤ dotZ a6 a7 a8 b0 b3 b6 ∧ dotZ a6 a7 a8 b0 b3 b6 ≤ 100000000000 := by unfold dot3 at r6; omega
  obtain ⟨e6, z6⟩ := clip_sm c6
  have u6 := nud_eq hn6 c6
  have m210 := bdm A6 B1
  have m211 := bdm A7 B4
  have m212 := bdm A8 B7
  have r7 := dot_rd a6 a7 a8 b1 b4 b7
  have c7 : -100000000000 ≤ dotZ a6 a7 a8 b1 b4 b7 ∧ dotZ a6 a7 a8 b1 b4 b7 ≤ 100000000000 := by unfold dot3 at r7; omega
  obtain ⟨e7, z7⟩ := clip_sm c7
  have u7 := nud_eq hn7 c7
  have m220 := bdm A6 B2
  have m221 := bdm A7 B5
  have m222 := bdm A8 B8
  have r8 := dot_rd a6 a7 a8 b2 b5 b8
  have c8 : -100000000000 ≤ dotZ a6 a7 a8 b2 b5 b8 ∧ dotZ a6 a7 a8 b2 b5 b8 ≤ 100000000000 := by unfold dot3 at r8; omega
  obtain ⟨e8, z8⟩ := clip_sm c8
  have u8 := nud_eq hn8 c8
  obtain ⟨_, q1, q2, q3, q4, q5, q6, q7, q8, q9, q10⟩ := a_mMul F hF (a0 := a0) (a1 := a1) (a2 := a2) (a3 := a3) (a4 := a4) (a5 := a5) (a6 := a6) (a7 := a7) (a8 := a8) (b0 := b0) (b1 := b1) (b2 := b2) (b3 := b3) (b4 := b4) (b5 := b5) (b6 := b6) (b7 := b7) (b8 := b8) (by unfold I64; omega) (by unfold I64; omega) (by unfold I64; omega) (by unfold I64; omega) (by unfold I64; omega) (by unfold I64; omega) (by unfold I64; omega) (by unfold I64; omega) (by unfold I64; omega) (by unfold I64; omega) (by unfold I64; omega) (by unfold I64; omega) (by unfold I64; omega) (by unfold I64; omega) (by unfold I64; omega) (by unfold I64; omega) (by unfold I64; omega) (by unfold I64; omega)
  rw [z0, z1, z2, z3, z4, z5, z6, z7, z8] at q10
  rw [e0] at q1
  rw [e1] at q2
  rw [e2] at q3
  rw [e3] at q4
  rw [e4] at q5
  rw [e5] at q6
  rw [e6] at q7
  rw [e7] at q8
  rw [e8] at q9
  have C00 := rows_math (c0 := (nud (dotZ a0 a1 a2 b0 b3 b6) n0)) (c1 := (nud (dotZ a0 a1 a2 b1 b4 b7) n1)) (c2 := (nud (dotZ a0 a1 a2 b2 b5 b8) n2)) (d0 := (nud (dotZ a0 a1 a2 b0 b3 b6) n0)) (d1 := (nud (dotZ a0 a1 a2 b1 b4 b7) n1)) (d2 := (nud (dotZ a0 a1 a2 b2 b5 b8) n2)) ⟨A0, A1, A2⟩ ⟨A0, A1, A2⟩ A00 hB ⟨by omega, by omega, by omega⟩ ⟨by omega, by omega, by omega⟩
  have C11 := rows_math (c0 := (nud (dotZ a3 a4 a5 b0 b3 b6) n3)) (c1 := (nud (dotZ a3 a4 a5 b1 b4 b7) n4)) (c2 := (nud (dotZ a3 a4 a5 b2 b5 b8) n5)) (d0 := (nud (dotZ a3 a4 a5 b0 b3 b6) n3)) (d1 := (nud (dotZ a3 a4 a5 b1 b4 b7) n4)) (d2 := (nud (dotZ a3 a4 a5 b2 b5 b8) n5)) ⟨A3, A4, A5⟩ ⟨A3, A4, A5⟩ A11 hB ⟨by omega, by omega, by omega⟩ ⟨by omega, by omega, by omega⟩
  have C01 := rows_math (c0 := (nud (dotZ a0 a1 a2 b0 b3 b6) n0)) (c1 := (nud (dotZ a0 a1 a2 b1 b4 b7) n1)) (c2 := (nud (dotZ a0 a1 a2 b2 b5 b8) n2)) (d0 := (nud (dotZ a3 a4 a5 b0 b3 b6) n3)) (d1 := (nud (dotZ a3 a4 a5 b1 b4 b7) n4)) (d2 := (nud (dotZ a3 a4 a5 b2 b5 b8) n5)) ⟨A0, A1, A2⟩ ⟨A3, A4, A5⟩ A01 hB ⟨by omega, by omega, by omega⟩ ⟨by omega, by omega, by omega⟩
  obtain ⟨g0, ⟨g1, g2⟩, o0, o1, o2, o3, o4, o5, o6, o7, o8⟩ := ortho_good (a0 := (nud (dotZ a0 a1 a2 b0 b3 b6) n0)) (a1 := (nud (dotZ a0 a1 a2 b1 b4 b7) n1)) (a2 := (nud (dotZ a0 a1 a2 b2 b5 b8) n2)) (a3 := (nud (dotZ a3 a4 a5 b0 b3 b6) n3)) (a4 := (nud (dotZ a3 a4 a5 b1 b4 b7) n4)) (a5 := (nud (dotZ a3 a4 a5 b2 b5 b8) n5)) (a6 := (nud (dotZ a6 a7 a8 b0 b3 b6) n6)) (a7 := (nud (dotZ a6 a7 a8 b1 b4 b7) n7)) (a8 := (nud (dotZ a6 a7 a8 b2 b5 b8) n8)) (by omega) (by omega) (by omega)
  obtain ⟨p0, p1, p2, p3, p4, p5, p6, p7, p8, p9, p10⟩ := a_mat_Ortho F hF (a0 := (nud (dotZ a0 a1 a2 b0 b3 b6) n0)) (a1 := (nud (dotZ a0 a1 a2 b1 b4 b7) n1)) (a2 := (nud (dotZ a0 a1 a2 b2 b5 b8) n2)) (a3 := (nud (dotZ a3 a4 a5 b0 b3 b6) n3)) (a4 := (nud (dotZ a3 a4 a5 b1 b4 b7) n4)) (a5 := (nud (dotZ a3 a4 a5 b2 b5 b8) n5)) (a6 := (nud (dotZ a6 a7 a8 b0 b3 b6) n6)) (a7 := (nud (dotZ a6 a7 a8 b1 b4 b7) n7)) (a8 := (nud (dotZ a6 a7 a8 b2 b5 b8) n8)) (by unfold nud; exact wi64_I _) (by unfold nud; exact wi64_I _) (by unfold nud; exact wi64_I _) (by unfold nud; exact wi64_I _) (by unfold nud; exact wi64_I _) (by unfold nud; exact wi64_I _) (by unfold nud; exact wi64_I _) (by unfold nud; exact wi64_I _) (by unfold nud; exact wi64_I _)
  obtain ⟨f0, f1⟩ := a_mat_Off F hF (a0 := ort0 (nud (dotZ a0 a1 a2 b0 b3 b6) n0) (nud (dotZ a0 a1 a2 b1 b4 b7) n1) (nud (dotZ a0 a1 a2 b2 b5 b8) n2) (nud (dotZ a3 a4 a5 b0 b3 b6) n3) (nud (dotZ a3 a4 a5 b1 b4 b7) n4) (nud (dotZ a3 a4 a5 b2 b5 b8) n5) (nud (dotZ a6 a7 a8 b0 b3 b6) n6) (nud (dotZ a6 a7 a8 b1 b4 b7) n7) (nud (dotZ a6 a7 a8 b2 b5 b8) n8)) (a1 := ort1 (nud (dotZ a0 a1 a2 b0 b3 b6) n0) (nud (dotZ a0 a1 a2 b1 b4 b7) n1) (nud (dotZ a0 a1 a2 b2 b5 b8) n2) (nud (dotZ a3 a4 a5 b0 b3 b6) n3) (nud (dotZ a3 a4 a5 b1 b4 b7) n4) (nud (dotZ a3 a4 a5 b2 b5 b8) n5) (nud (dotZ a6 a7 a8 b0 b3 b6) n6) (nud (dotZ a6 a7 a8 b1 b4 b7) n7) (nud (dotZ a6 a7 a8 b2 b5 b8) n8)) (a2 := ort2 (nud (dotZ a0 a1 a2 b0 b3 b6) n0) (nud (dotZ a0 a1 a2 b1 b4 b7) n1) (nud (dotZ a0 a1 a2 b2 b5 b8) n2) (nud (dotZ a3 a4 a5 b0 b3 b6) n3) (nud (dotZ a3 a4 a5 b1 b4 b7) n4) (nud (dotZ a3 a4 a5 b2 b5 b8) n5) (nud (dotZ a6 a7 a8 b0 b3 b6) n6) (nud (dotZ a6 a7 a8 b1 b4 b7) n7) (nud (dotZ a6 a7 a8 b2 b5 b8) n8)) (a3 := ort3 (nud (dotZ a0 a1 a2 b0 b3 b6) n0) (nud (dotZ a0 a1 a2 b1 b4 b7) n1) (nud (dotZ a0 a1 a2 b2 b5 b8) n2) (nud (dotZ a3 a4 a5 b0 b3 b6) n3) (nud (dotZ a3 a4 a5 b1 b4 b7) n4) (nud (dotZ a3 a4 a5 b2 b5 b8) n5) (nud (dotZ a6 a7 a8 b0 b3 b6) n6) (nud (dotZ a6 a7 a8 b1 b4 b7) n7) (nud (dotZ a6 a7 a8 b2 b5 b8) n8)) (a4 := ort4 (nud (dotZ a0 a1 a2 b0 b3 b6) n0) (nud (dotZ a0 a1 a2 b1 b4 b7) n1) (nud (dotZ a0 a1 a2 b2 b5 b8) n2) (nud (dotZ a3 a4 a5 b0 b3 b6) n3) (nud (dotZ a3 a4 a5 b1 b4 b7) n4) (nud (dotZ a3 a4 a5 b2 b5 b8) n5) (nud (dotZ a6 a7 a8 b0 b3 b6) n6) (nud (dotZ a6 a7 a8 b1 b4 b7) n7) (nud (dotZ a6 a7 a8 b2 b5 b8) n8)) (a5 := ort5 (nud (dotZ a0 a1 a2 b0 b3 b6) n0) (nud (dotZ a0 a1 a2 b1 b4 b7) n1) (nud (dotZ a0 a1 a2 b2 b5 b8) n2) (nud (dotZ a3 a4 a5 b0 b3 b6) n3) (nud (dotZ a3 a4 a5 b1 b4 b7) n4) (nud (dotZ a3 a4 a5 b2 b5 b8) n5) (nud (dotZ a6 a7 a8 b0 b3 b6) n6) (nud (dotZ a6 a7 a8 b1 b4 b7) n7) (nud (dotZ a6 a7 a8 b2 b5 b8) n8)) (a6 := ort6 (nud (dotZ a0 a1 a2 b0 b3 b6) n0) (nud (dotZ a0 a1 a2 b1 b4 b7) n1) (nud (dotZ a0 a1 a2 b2 b5 b8) n2) (nud (dotZ a3 a4 a5 b0 b3 b6) n3) (nud (dotZ a3 a4 a5 b1 b4 b7) n4) (nud (dotZ a3 a4 a5 b2 b5 b8) n5) (nud (dotZ a6 a7 a8 b0 b3 b6) n6) (nud (dotZ a6 a7 a8 b1 b4 b7) n7) (nud (dotZ a6 a7 a8 b2 b5 b8) n8)) (a7 := ort7 (nud (dotZ a0 a1 a2 b0 b3 b6) n0) (nud (dotZ a0 a1 a2 b1 b4 b7) n1) (nud (dotZ a0 a1 a2 b2 b5 b8) n2) (nud (dotZ a3 a4 a5 b0 b3 b6) n3) (nud (dotZ a3 a4 a5 b1 b4 b7) n4) (nud (dotZ a3 a4 a5 b2 b5 b8) n5) (nud (dotZ a6 a7 a8 b0 b3 b6) n6) (nud (dotZ a6 a7 a8 b1 b4 b7) n7) (nud (dotZ a6 a7 a8 b2 b5 b8) n8)) (a8 := ort8 (nud (dotZ a0 a1 a2 b0 b3 b6) n0) (nud (dotZ a0 a1 a2 b1 b4 b7) n1) (nud (dotZ a0 a1 a2 b2 b5 b8) n2) (nud (dotZ a3 a4 a5 b0 b3 b6) n3) (nud (dotZ a3 a4 a5 b1 b4 b7) n4) (nud (dotZ a3 a4 a5 b2 b5 b8) n5) (nud (dotZ a6 a7 a8 b0 b3 b6) n6) (nud (dotZ a6 a7 a8 b1 b4 b7) n7) (nud (dotZ a6 a7 a8 b2 b5 b8) n8)) (by unfold I64; omega) (by unfold I64; omega) (by unfold I64; omega) (by unfold I64; omega) (by unfold I64; omega) (by unfold I64; omega) (by unfold I64; omega) (by unfold I64; omega) (by unfold I64; omega)
  obtain ⟨G, hG⟩ : ∃ G, F = G + 10 := ⟨F - 10, by omega⟩
  rw [q1, q2, q3, q4, q5, q6, q7, q8, q9, q10]
  rw [show L_a_0 F _ F = L_a_0 F _ (G + 10) from congrArg (L_a_0 F _) hG]
  rw [L_a_0, st_Up_0, L_a_0, st_Up_1, L_a_0, st_Up_2, L_a_0, st_Up_3, L_a_0, st_Up_4, L_a_0, st_Up_5, L_a_0, st_Up_6, L_a_0, st_Up_7, L_a_0, st_Up_8, L_a_0]
  unfold B_a_0 Bg_a_0
  refine bn rfl (bp rfl ?_)
  have i0 : iv [.v (.int .i64 (nud (dotZ a0 a1 a2 b0 b3 b6) n0)), .v (.int .i64 (nud (dotZ a0 a1 a2 b1 b4 b7) n1)), .v (.int .i64 (nud (dotZ a0 a1 a2 b2 b5 b8) n2)), .v (.int .i64 (nud (dotZ a3 a4 a5 b0 b3 b6) n3)), .v (.int .i64 (nud (dotZ a3 a4 a5 b1 b4 b7) n4)), .v (.int .i64 (nud (dotZ a3 a4 a5 b2 b5 b8) n5)), .v (.int .i64 (nud (dotZ a6 a7 a8 b0 b3 b6) n6)), .v (.int .i64 (nud (dotZ a6 a7 a8 b1 b4 b7) n7)), .v (.int .i64 (nud (dotZ a6 a7 a8 b2 b5 b8) n8))][0]? = (nud (dotZ a0 a1 a2 b0 b3 b6) n0) := rfl
  have i1 : iv [.v (.int .i64 (nud (dotZ a0 a1 a2 b0 b3 b6) n0)), .v (.int .i64 (nud (dotZ a0 a1 a2 b1 b4 b7) n1)), .v (.int .i64 (nud (dotZ a0 a1 a2 b2 b5 b8) n2)), .v (.int .i64 (nud (dotZ a3 a4 a5 b0 b3 b6) n3)), .v (.int .i64 (nud (dotZ a3 a4 a5 b1 b4 b7) n4)), .v (.int .i64 (nud (dotZ a3 a4 a5 b2 b5 b8) n5)), .v (.int .i64 (nud (dotZ a6 a7 a8 b0 b3 b6) n6)), .v (.int .i64 (nud (dotZ a6 a7 a8 b1 b4 b7) n7)), .v (.int .i64 (nud (dotZ a6 a7 a8 b2 b5 b8) n8))][1]? = (nud (dotZ a0 a1 a2 b1 b4 b7) n1) := rfl
  have i2 : iv [.v (.int .i64 (nud (dotZ a0 a1 a2 b0 b3 b6) n0)), .v (.int .i64 (nud (dotZ a0 a1 a2 b1 b4 b7) n1)), .v (.int .i64 (nud (dotZ a0 a1 a2 b2 b5 b8) n2)), .v (.int .i64 (nud (dotZ a3 a4 a5 b0 b3 b6) n3)), .v (.int .i64 (nud (dotZ a3 a4 a5 b1 b4 b7) n4)), .v (.int .i64 (nud (dotZ a3 a4 a5 b2 b5 b8) n5)), .v (.int .i64 (nud (dotZ a6 a7 a8 b0 b3 b6) n6)), .v (.int .i64 (nud (dotZ a6 a7 a8 b1 b4 b7) n7)), .v (.int .i64 (nud (dotZ a6 a7 a8 b2 b5 b8) n8))][2]? = (nud (dotZ a0 a1 a2 b2 b5 b8) n2) := rfl
  have i3 : iv [.v (.int .i64 (nud (dotZ a0 a1 a2 b0 b3 b6) n0)), .v (.int .i64 (nud (dotZ a0 a1 a2 b1 b4 b7) n1)), .v (.int .i64 (nud (dotZ a0 a1 a2 b2 b5 b8) n2)), .v (.int .i64 (nud (dotZ a3 a4 a5 b0 b3 b6) n3)), .v (.int .i64 (nud (dotZ a3 a4 a5 b1 b4 b7) n4)), .v (.int .i64 (nud (dotZ a3 a4 a5 b2 b5 b8) n5)), .v (.int .i64 (nud (dotZ a6 a7 a8 b0 b3 b6) n6)), .v (.int .i64 (nud (dotZ a6 a7 a8 b1 b4 b7) n7)), .v (.int .i64 (nud (dotZ a6 a7 a8 b2 b5 b8) n8))][3]? = (nud (dotZ a3 a4 a5 b0 b3 b6) n3) := rfl
  have i4 : iv [.v (.int .i64 (nud (dotZ a0 a1 a2 b0 b3 b6) n0)), .v (.int .i64 (nud (dotZ a0 a1 a2 b1 b4 b7) n1)), .v (.int .i64 (nud (dotZ a0 a1 a2 b2 b5 b8) n2)), .v (.int .i64 (nud (dotZ a3 a4 a5 b0 b3 b6) n3)), .v (.int .i64 (nud (dotZ a3 a4 a5 b1 b4 b7) n4)), .v (.int .i64 (nud (dotZ a3 a4 a5 b2 b5 b8) n5)), .v (.int .i64 (nud (dotZ a6 a7 a8 b0 b3 b6) n6)), .v (.int .i64 (nud (dotZ a6 a7 a8 b1 b4 b7) n7)), .v (.int .i64 (nud (dotZ a6 a7 a8 b2 b5 b8) n8))][4]? = (nud (dotZ a3 a4 a5 b1 b4 b7) n4) := rfl
  have i5 : iv [.v (.int .i64 (nud (dotZ a0 a1 a2 b0 b3 b6) n0)), .v (.int .i64 (nud (dotZ a0 a1 a2 b1 b4 b7) n1)), .v (.int .i64 (nud (dotZ a0 a1 a2 b2 b5 b8) n2)), .v (.int .i64 (nud (dotZ a3 a4 a5 b0 b3 b6) n3)), .v (.int .i64 (nud (dotZ a3 a4 a5 b1 b4 b7) n4)), .v (.int .i64 (nud (dotZ a3 a4 a5 b2 b5 b8) n5)), .v (.int .i64 (nud (dotZ a6 a7 a8 b0 b3 b6) n6)), .v (.int .i64 (nud (dotZ a6 a7 a8 b1 b4 b7) n7)), .v (.int .i64 (nud (dotZ a6 a7 a8 b2 b5 b8) n8))][5]? = (nud (dotZ a3 a4 a5 b2 b5 b8) n5) := rfl
  have i6 : iv [.v (.int .i64 (nud (dotZ a0 a1 a2 b0 b3 b6) n0)), .v (.int .i64 (nud (dotZ a0 a1 a2 b1 b4 b7) n1)), .v (.int .i64 (nud (dotZ a0 a1 a2 b2 b5 b8) n2)), .v (.int .i64 (nud (dotZ a3 a4 a5 b0 b3 b6) n3)), .v (.int .i64 (nud (dotZ a3 a4 a5 b1 b4 b7) n4)), .v (.int .i64 (nud (dotZ a3 a4 a5 b2 b5 b8) n5)), .v (.int .i64 (nud (dotZ a6 a7 a8 b0 b3 b6) n6)), .v (.int .i64 (nud (dotZ a6 a7 a8 b1 b4 b7) n7)), .v (.int .i64 (nud (dotZ a6 a7 a8 b2 b5 b8) n8))][6]? = (nud (dotZ a6 a7 a8 b0 b3 b6) n6) := rfl
  have i7 : iv [.v (.int .i64 (nud (dotZ a0 a1 a2 b0 b3 b6) n0)), .v (.int .i64 (nud (dotZ a0 a1 a2 b1 b4 b7) n1)), .v (.int .i64 (nud (dotZ a0 a1 a2 b2 b5 b8) n2)), .v (.int .i64 (nud (dotZ a3 a4 a5 b0 b3 b6) n3)), .v (.int .i64 (nud (dotZ a3 a4 a5 b1 b4 b7) n4)), .v (.int .i64 (nud (dotZ a3 a4 a5 b2 b5 b8) n5)), .v (.int .i64 (nud (dotZ a6 a7 a8 b0 b3 b6) n6)), .v (.int .i64 (nud (dotZ a6 a7 a8 b1 b4 b7) n7)), .v (.int .i64 (nud (dotZ a6 a7 a8 b2 b5 b8) n8))][7]? = (nud (dotZ a6 a7 a8 b1 b4 b7) n7) := rfl
  have i8 : iv [.v (.int .i64 (nud (dotZ a0 a1 a2 b0 b3 b6) n0)), .v (.int .i64 (nud (dotZ a0 a1 a2 b1 b4 b7) n1)), .v (.int .i64 (nud (dotZ a0 a1 a2 b2 b5 b8) n2)), .v (.int .i64 (nud (dotZ a3 a4 a5 b0 b3 b6) n3)), .v (.int .i64 (nud (dotZ a3 a4 a5 b1 b4 b7) n4)), .v (.int .i64 (nud (dotZ a3 a4 a5 b2 b5 b8) n5)), .v (.int .i64 (nud (dotZ a6 a7 a8 b0 b3 b6) n6)), .v (.int .i64 (nud (dotZ a6 a7 a8 b1 b4 b7) n7)), .v (.int .i64 (nud (dotZ a6 a7 a8 b2 b5 b8) n8))][8]? = (nud (dotZ a6 a7 a8 b2 b5 b8) n8) := rfl
  rw [i0, i1, i2, i3, i4, i5, i6, i7, i8]
  refine bp p0 ?_
  rw [p1, p2, p3, p4, p5, p6, p7, p8, p9, p10]
  refine bp rfl (bp g0 (bp f0 (bp (dt ?_) (bp f0 (some_bool (dt ?_))))))
  · rw [f1]; omega
  · rw [f1]; omega
theorem f_MatUpright (F : Nat) (hF : 200 ≤ F) {k0 x0 k1 x1 n0 n1 n2 n3 n4 n5 n6 n7 n8 : Int} (_hk0 : I64 k0) (hx0 : U32 x0) (_hk1 : I64 k1) (hx1 : U32 x1) (hn0 : I32 n0) (hn1 : I32 n1) (hn2 : I32 n2) (hn3 : I32 n3) (hn4 : I32 n4) (hn5 : I32 n5) (hn6 : I32 n6) (hn7 : I32 n7) (hn8 : I32 n8) : f_a F k0 x0 k1 x1 n0 n1 n2 n3 n4 n5 n6 n7 n8 = some (.v (.bool true)) := by
  unfold f_a fg_a
  obtain ⟨w1, w2⟩ := a_works07 F hF
  obtain ⟨m0, m1⟩ := a_Among F k0
  obtain ⟨l0, l1⟩ := a_Among F k1
  refine bp w1 (bn (by rw [w2]; rfl) (bp m0 ?_))
  rw [m1]
  have hc : k0 % 18446744073709551616 % 3 = 0 ∨ k0 % 18446744073709551616 % 3 = 1 ∨ k0 % 18446744073709551616 % 3 = 2 := by omega
  have hd : k1 % 18446744073709551616 % 3 = 0 ∨ k1 % 18446744073709551616 % 3 = 1 ∨ k1 % 18446744073709551616 % 3 = 2 := by omega
  generalize k0 % 18446744073709551616 % 3 = i at *
  generalize k1 % 18446744073709551616 % 3 = j at *
  have okM : ∀ {a0 a1 a2 a3 a4 a5 a6 a7 a8 b0 b1 b2 b3 b4 b5 b6 b7 b8 : Int}, RowsOK a0 a1 a2 a3 a4 a5 a6 a7 a8 → RowsOK b0 b1 b2 b3 b4 b5 b6 b7 b8 → ok_wa F a0 a1 a2 a3 a4 a5 a6 a7 a8 b0 b1 b2 b3 b4 b5 b6 b7 b8 = true := by
    intro a0 a1 a2 a3 a4 a5 a6 a7 a8 b0 b1 b2 b3 b4 b5 b6 b7 b8 hA hB
    obtain ⟨_, _, _, _, _, _, A0, A1, A2, A3, A4, A5, A6, A7, A8⟩ := hA
    obtain ⟨_, _, _, _, _, _, B0, B1, B2, B3, B4, B5, B6, B7, B8⟩ := hB
    exact (a_mMul F hF (by unfold I64; omega) (by unfold I64; omega) (by unfold I64; omega) (by unfold I64; omega) (by unfold I64; omega) (by unfold I64; omega) (by unfold I64; omega) (by unfold I64; omega) (by unfold I64; omega) (by unfold I64; omega) (by unfold I64; omega) (by unfold I64; omega) (by unfold I64; omega) (by unfold I64; omega) (by unfold I64; omega) (by unfold I64; omega) (by unfold I64; omega) (by unfold I64; omega)).1
  rcases hc with h | h | h
  · subst h
    obtain ⟨p0, p1, p2, p3, p4, p5, p6, p7, p8, p9, _⟩ := a_mAbout0 F hF hx0
    refine bp p0 ?_
    rw [p1, p2, p3, p4, p5, p6, p7, p8, p9]
    refine bp l0 ?_
    rw [l1]
    rcases hd with h | h | h
    · subst h
      obtain ⟨r0, r1, r2, r3, r4, r5, r6, r7, r8, r9, _⟩ := a_mAbout0 F hF hx1
      refine bp r0 ?_
      rw [r1, r2, r3, r4, r5, r6, r7, r8, r9]
      exact bp (okM (about_rows0 hx0) (about_rows0 hx1)) (upTail F hF k0 x0 k1 x1 hn0 hn1 hn2 hn3 hn4 hn5 hn6 hn7 hn8 (about_rows0 hx0) (about_rows0 hx1))
    · subst h
      obtain ⟨r0, r1, r2, r3, r4, r5, r6, r7, r8, r9, _⟩ := a_mAbout1 F hF hx1
      refine bp r0 ?_
      rw [r1, r2, r3, r4, r5, r6, r7, r8, r9]
      exact bp (okM (about_rows0 hx0) (about_rows1 hx1)) (upTail F hF k0 x0 k1 x1 hn0 hn1 hn2 hn3 hn4 hn5 hn6 hn7 hn8 (about_rows0 hx0) (about_rows1 hx1))
    · subst h
      obtain ⟨r0, r1, r2, r3, r4, r5, r6, r7, r8, r9, _⟩ := a_mAbout2 F hF hx1
      refine bp r0 ?_
      rw [r1, r2, r3, r4, r5, r6, r7, r8, r9]
      exact bp (okM (about_rows0 hx0) (about_rows2 hx1)) (upTail F hF k0 x0 k1 x1 hn0 hn1 hn2 hn3 hn4 hn5 hn6 hn7 hn8 (about_rows0 hx0) (about_rows2 hx1))
  · subst h
    obtain ⟨p0, p1, p2, p3, p4, p5, p6, p7, p8, p9, _⟩ := a_mAbout1 F hF hx0
    refine bp p0 ?_
    rw [p1, p2, p3, p4, p5, p6, p7, p8, p9]
    refine bp l0 ?_
    rw [l1]
    rcases hd with h | h | h
    · subst h
      obtain ⟨r0, r1, r2, r3, r4, r5, r6, r7, r8, r9, _⟩ := a_mAbout0 F hF hx1
      refine bp r0 ?_
      rw [r1, r2, r3, r4, r5, r6, r7, r8, r9]
      exact bp (okM (about_rows1 hx0) (about_rows0 hx1)) (upTail F hF k0 x0 k1 x1 hn0 hn1 hn2 hn3 hn4 hn5 hn6 hn7 hn8 (about_rows1 hx0) (about_rows0 hx1))
    · subst h
      obtain ⟨r0, r1, r2, r3, r4, r5, r6, r7, r8, r9, _⟩ := a_mAbout1 F hF hx1
      refine bp r0 ?_
      rw [r1, r2, r3, r4, r5, r6, r7, r8, r9]
      exact bp (okM (about_rows1 hx0) (about_rows1 hx1)) (upTail F hF k0 x0 k1 x1 hn0 hn1 hn2 hn3 hn4 hn5 hn6 hn7 hn8 (about_rows1 hx0) (about_rows1 hx1))
    · subst h
      obtain ⟨r0, r1, r2, r3, r4, r5, r6, r7, r8, r9, _⟩ := a_mAbout2 F hF hx1
      refine bp r0 ?_
      rw [r1, r2, r3, r4, r5, r6, r7, r8, r9]
      exact bp (okM (about_rows1 hx0) (about_rows2 hx1)) (upTail F hF k0 x0 k1 x1 hn0 hn1 hn2 hn3 hn4 hn5 hn6 hn7 hn8 (about_rows1 hx0) (about_rows2 hx1))
  · subst h
    obtain ⟨p0, p1, p2, p3, p4, p5, p6, p7, p8, p9, _⟩ := a_mAbout2 F hF hx0
    refine bp p0 ?_
    rw [p1, p2, p3, p4, p5, p6, p7, p8, p9]
    refine bp l0 ?_
    rw [l1]
    rcases hd with h | h | h
    · subst h
      obtain ⟨r0, r1, r2, r3, r4, r5, r6, r7, r8, r9, _⟩ := a_mAbout0 F hF hx1
      refine bp r0 ?_
      rw [r1, r2, r3, r4, r5, r6, r7, r8, r9]
      exact bp (okM (about_rows2 hx0) (about_rows0 hx1)) (upTail F hF k0 x0 k1 x1 hn0 hn1 hn2 hn3 hn4 hn5 hn6 hn7 hn8 (about_rows2 hx0) (about_rows0 hx1))
    · subst h
      obtain ⟨r0, r1, r2, r3, r4, r5, r6, r7, r8, r9, _⟩ := a_mAbout1 F hF hx1
      refine bp r0 ?_
      rw [r1, r2, r3, r4, r5, r6, r7, r8, r9]
      exact bp (okM (about_rows2 hx0) (about_rows1 hx1)) (upTail F hF k0 x0 k1 x1 hn0 hn1 hn2 hn3 hn4 hn5 hn6 hn7 hn8 (about_rows2 hx0) (about_rows1 hx1))
    · subst h
      obtain ⟨r0, r1, r2, r3, r4, r5, r6, r7, r8, r9, _⟩ := a_mAbout2 F hF hx1
      refine bp r0 ?_
      rw [r1, r2, r3, r4, r5, r6, r7, r8, r9]
      exact bp (okM (about_rows2 hx0) (about_rows2 hx1)) (upTail F hF k0 x0 k1 x1 hn0 hn1 hn2 hn3 hn4 hn5 hn6 hn7 hn8 (about_rows2 hx0) (about_rows2 hx1))
end Go.Xv
namespace Go.Proofs.Ytpnggkefjgpleaa.matUpright
open Go.ChangeShapes Go.WideShapes Go.ChangeAt Go.RowKit Go.Xv Go.Proofs.Ytpnggkefjgpleaa.base
set_option linter.unusedVariables false
set_option maxRecDepth 100000 in
theorem lifted (os : Os) (started : os.Started) (H : Type) (enc : TypeId × Value → H) :
    ReturnsInHanded {} Try.checked os 20 .any (Rows.matUprightSpec.pre6 enc Try.prog Try.f20 Rows.matUprightRow.domain false) (Rows.matUprightSpec.post enc Try.prog Try.f20 false true false false) := by
  refine returnsInHanded_of_change (C := Try.checked) own started (by kernel_rfl) Try.func20
    (ChangeSpec.witness6 (enc := enc) (C := Try.checked) false ⟨#[], #[.int .i64 0, .int .u32 0, .int .i64 0, .int .u32 0, .agg #[.int .i32 0, .int .i32 0, .int .i32 0, .int .i32 0, .int .i32 0, .int .i32 0, .int .i32 0, .int .i32 0, .int .i32 0]], []⟩ 8 (by kernel_rfl) (by kernel_rfl) (by kernel_rfl) (by kernel_rfl)) ?_
  intro W base args ds gs before hval0 hW hcnd _
  have hval : ∀ (j : Nat) t v, Try.f20.params[j]? = some t → args[j]? = some v → Value.okWide Try.prog W .any base t v := hval0
  have hW' := hW
  obtain ⟨p, q, hA0, hV, rfl, hfz, hnd⟩ := hW
  have hA : DataW.TrodAll enc Try.prog W 0 (fun _ => true) true Try.f20.params.toList args.toList ds p := hA0
  rw [Try.params20] at hA hval
  obtain ⟨v0, vs0, d0, ds0, p0, q0, hargs, rfl, rfl, h0, r0⟩ := trodAll_cons hA
  obtain ⟨v1, vs1, d1, ds1, p1, q1, rfl, rfl, rfl, h1, r1⟩ := trodAll_cons r0
  obtain ⟨v2, vs2, d2, ds2, p2, q2, rfl, rfl, rfl, h2, r2⟩ := trodAll_cons r1
  obtain ⟨v3, vs3, d3, ds3, p3, q3, rfl, rfl, rfl, h3, r3⟩ := trodAll_cons r2
  obtain ⟨v4, vs4, d4, ds4, p4, q4, rfl, rfl, rfl, h4, r4⟩ := trodAll_cons r3
  obtain ⟨rfl, rfl, rfl⟩ := trodAll_nil r4
  obtain rfl : args = #[v0, v1, v2, v3, v4] := by cases args; simp_all
  obtain ⟨a0, rfl, wa0⟩ := open_num (k := .i64) (by kernel_rfl) (hval 0 3 v0 rfl rfl) h0
  obtain ⟨a1, rfl, wa1⟩ := open_num (k := .u32) (by kernel_rfl) (hval 1 30 v1 rfl rfl) h1
  obtain ⟨a2, rfl, wa2⟩ := open_num (k := .i64) (by kernel_rfl) (hval 2 3 v2 rfl rfl) h2
  obtain ⟨a3, rfl, wa3⟩ := open_num (k := .u32) (by kernel_rfl) (hval 3 30 v3 rfl rfl) h3
  obtain ⟨l4, rfl, f4⟩ := open_flat (ks := [some .i32, some .i32, some .i32, some .i32, some .i32, some .i32, some .i32, some .i32, some .i32]) (by kernel_rfl) (by kernel_rfl) (hval 4 74 v4 rfl rfl) h4
  obtain ⟨a4, l4, rfl, wa4, f4⟩ := fitW_some f4
  obtain ⟨a5, l4, rfl, wa5, f4⟩ := fitW_some f4
  obtain ⟨a6, l4, rfl, wa6, f4⟩ := fitW_some f4
  obtain ⟨a7, l4, rfl, wa7, f4⟩ := fitW_some f4
  obtain ⟨a8, l4, rfl, wa8, f4⟩ := fitW_some f4
  obtain ⟨a9, l4, rfl, wa9, f4⟩ := fitW_some f4
  obtain ⟨a10, l4, rfl, wa10, f4⟩ := fitW_some f4
  obtain ⟨a11, l4, rfl, wa11, f4⟩ := fitW_some f4
  obtain ⟨a12, l4, rfl, wa12, f4⟩ := fitW_some f4
  obtain rfl := fitW_nil f4
  refine law_contract laidOut (g_a fuel0) (bt := 4) (by kernel_rfl) (by kernel_rfl) (by kernel_rfl) (by kernel_rfl) rfl hW' ?_
  refine ⟨[.v (.int .i64 a0), .v (.int .u32 a1), .v (.int .i64 a2), .v (.int .u32 a3), .v (.agg #[.int .i32 a4, .int .i32 a5, .int .i32 a6, .int .i32 a7, .int .i32 a8, .int .i32 a9, .int .i32 a10, .int .i32 a11, .int .i32 a12])], rfl, fun i x hx => ?_, unS_of ?_⟩
  · match i, hx with
    | 0, hx => exact ⟨_, rfl, by cases hx; exact Rel.v _ _⟩
    | 1, hx => exact ⟨_, rfl, by cases hx; exact Rel.v _ _⟩
    | 2, hx => exact ⟨_, rfl, by cases hx; exact Rel.v _ _⟩
    | 3, hx => exact ⟨_, rfl, by cases hx; exact Rel.v _ _⟩
    | 4, hx => exact ⟨_, rfl, by cases hx; exact Rel.v _ _⟩
    | _ + 5, hx => cases hx
  · obtain ⟨y1, y2⟩ := k_a fuel0 a0 a1 a2 a3 a4 a5 a6 a7 a8 a9 a10 a11 a12 (f_MatUpright fuel0 (by unfold fuel0; omega) (wf_i64 wa0) (wf_u32 wa1) (wf_i64 wa2) (wf_u32 wa3) (wf_i32 wa4) (wf_i32 wa5) (wf_i32 wa6) (wf_i32 wa7) (wf_i32 wa8) (wf_i32 wa9) (wf_i32 wa10) (wf_i32 wa11) (wf_i32 wa12))
    have e : s_a fuel0 [.v (.int .i64 a0), .v (.int .u32 a1), .v (.int .i64 a2), .v (.int .u32 a3), .v (.agg #[.int .i32 a4, .int .i32 a5, .int .i32 a6, .int .i32 a7, .int .i32 a8, .int .i32 a9, .int .i32 a10, .int .i32 a11, .int .i32 a12])] = some (ok_a fuel0 a0 a1 a2 a3 a4 a5 a6 a7 a8 a9 a10 a11 a12, .v (.bool (o_a_0 fuel0 a0 a1 a2 a3 a4 a5 a6 a7 a8 a9 a10 a11 a12))) := by kernel_rfl
    rw [e, y1, y2]
theorem over : Rows.matUprightRow.holds Try.pinned (OpenSpec.ofChange Rows.matUprightSpec) :=
  OpenClaim.holds_of_wide 20 Try.f20 rfl rfl rfl rfl rfl rfl rfl ⟨rfl, rfl, rfl, rfl, rfl⟩ rfl rfl rfl rfl rfl (by kernel_rfl) Try.func20 (joined_of (P := Try.prog) behind enter_ rfl rfl ⟨rfl, rfl⟩ (by kernel_rfl))
    (of_decide_eq_true (by kernel_rfl)) (by unfold Func.isWrapper; first | (rw [if_pos (by decide +kernel)]; kernel_rfl) | (rw [if_neg (by decide +kernel)]; exact ⟨rfl, rfl⟩))
    (fun os started H enc _ => lifted os started H enc)
/-- The statement. -/
theorem proved : Rows.MatUprightSaid := over
#print axioms proved
end Go.Proofs.Ytpnggkefjgpleaa.matUpright
