/- To the left and to the right by the same is the same, if it does not go round, and the nearest number is no further than a half: the law returns true for every input, and leaves its arguments as they were. -/
import Derived.Test.YtpcblnkllakejaaW2
import Derived.Test.YtpcblnkllakejaaProg
import Derived.KernelRfl
set_option linter.unusedVariables false
namespace Go.Xv
/- 11 _law01_WideTurned -/
def c_law01_WideTurned : Cfg := ⟨[0, 1, 4, 5, 6, 7, 8, 10, 22], [], []⟩
def ti_law01_WideTurned : List TV := [.v (.int .i64), .v (.int .u8)]
def to_law01_WideTurned : TV := .v (.bool)
def S_law01_WideTurned (F : Nat) : FuncId → List VV → Option (Bool × VV) := words [(42, s_law01_works F), (57, s_wide_Of F), (45, s_wide_Left F), (47, s_wide_Right F), (49, s_wide_Near F), (44, s_wide_Neg F), (43, s_wide_Add F), (55, s_wide_Less F)]
def W_law01_WideTurned (F : Nat) : List LW := []
def I_law01_WideTurned (F : Nat) : Nat → VS → (Exit → VS → R) → R := tabI c_law01_WideTurned (W_law01_WideTurned F)
def f_law01_WideTurned (F : Nat) (a0 : Int) (a1 : Int) : R :=
  bif (ok_law01_works F) then (
    bif ((!((o_law01_works_0 F)))) then (
      some (.v (.bool false)))
    else (
      let v509 : Int := (IntKind.wrap .i64 ((Int.tmod a1 63)))
      bif (ok_wide_Of F a0) then (
        let v510 : Int := (o_wide_Of_0 F a0)
        let v511 : Int := (o_wide_Of_1 F a0)
        bif (ok_wide_Left F v510 v511 v509) then (
          let v512 : Int := (o_wide_Left_0 F v510 v511 v509)
          let v513 : Int := (o_wide_Left_1 F v510 v511 v509)
          bif (ok_wide_Right F v512 v513 v509) then (
            bif ((!((((o_wide_Right_0 F v512 v513 v509)) == v510) && (((o_wide_Right_1 F v512 v513 v509)) == v511)))) then (
              some (.v (.bool false)))
            else (
              bif (ok_wide_Near F v510 v511 v509) then (
                let v517 : Int := (o_wide_Near_0 F v510 v511 v509)
                let v518 : Int := (o_wide_Near_1 F v510 v511 v509)
                bif (ok_wide_Left F v517 v518 v509) then (
                  let v519 : Int := (o_wide_Left_0 F v517 v518 v509)
                  let v520 : Int := (o_wide_Left_1 F v517 v518 v509)
                  bif (ok_wide_Neg F v510 v511) then (
                    let v521 : Int := (o_wide_Neg_0 F v510 v511)
                    let v522 : Int := (o_wide_Neg_1 F v510 v511)
                    bif (ok_wide_Add F v519 v520 v521 v522) then (
                      let v523 : Int := (o_wide_Add_0 F v519 v520 v521 v522)
                      let v524 : Int := (o_wide_Add_1 F v519 v520 v521 v522)
                      bif (ok_wide_Left F v523 v524 1) then (
                        let v525 : Int := (o_wide_Left_0 F v523 v524 1)
                        let v526 : Int := (o_wide_Left_1 F v523 v524 1)
                        bif (ok_wide_Of F 1) then (
                          let v527 : Int := (o_wide_Of_0 F 1)
                          let v528 : Int := (o_wide_Of_1 F 1)
                          bif (ok_wide_Left F v527 v528 v509) then (
                            let v529 : Int := (o_wide_Left_0 F v527 v528 v509)
                            let v530 : Int := (o_wide_Left_1 F v527 v528 v509)
                            bif (ok_wide_Less F v529 v530 v525 v526) then (
                              bif ((!((o_wide_Less_0 F v529 v530 v525 v526)))) then (
                                bif (ok_wide_Neg F v529 v530) then (
                                  let v533 : Int := (o_wide_Neg_0 F v529 v530)
                                  let v534 : Int := (o_wide_Neg_1 F v529 v530)
                                  bif (ok_wide_Less F v533 v534 v525 v526) then (
                                    bif ((o_wide_Less_0 F v533 v534 v525 v526)) then (
                                      some (.v (.bool true)))
                                    else (
                                      bif ((v509 == 0)) then (
                                        some (.v (.bool (((v525 == 0) && (v526 == 0))))))
                                      else (
                                        some (.v (.bool false)))))
                                  else (
                                    none))
                                else (
                                  none))
                              else (
                                bif ((v509 == 0)) then (
                                  some (.v (.bool (((v525 == 0) && (v526 == 0))))))
                                else (
                                  some (.v (.bool false)))))
                            else (
                              none))
                          else (
                            none))
                        else (
                          none))
                      else (
                        none))
                    else (
                      none))
                  else (
                    none))
                else (
                  none))
              else (
                none)))
          else (
            none))
        else (
          none))
      else (
        none)))
  else (
    none)
theorem e_law01_WideTurned (F : Nat) (a0 : Int) (a1 : Int) : funL PP (S_law01_WideTurned F) c_law01_WideTurned (I_law01_WideTurned F) 11 (fTs ti_law01_WideTurned [.i a0, .i a1]).1 = f_law01_WideTurned F a0 a1 := by
  have h : ∀ (ok_law01_works : Nat → Bool) (o_law01_works_0 : Nat → Bool) (ok_wide_Of : Nat → Int → Bool) (o_wide_Of_0 : Nat → Int → Int) (o_wide_Of_1 : Nat → Int → Int) (ok_wide_Left : Nat → Int → Int → Int → Bool) (o_wide_Left_0 : Nat → Int → Int → Int → Int) (o_wide_Left_1 : Nat → Int → Int → Int → Int) (ok_wide_Right : Nat → Int → Int → Int → Bool) (o_wide_Right_0 : Nat → Int → Int → Int → Int) (o_wide_Right_1 : Nat → Int → Int → Int → Int) (ok_wide_Near : Nat → Int → Int → Int → Bool) (o_wide_Near_0 : Nat → Int → Int → Int → Int) (o_wide_Near_1 : Nat → Int → Int → Int → Int) (ok_wide_Neg : Nat → Int → Int → Bool) (o_wide_Neg_0 : Nat → Int → Int → Int) (o_wide_Neg_1 : Nat → Int → Int → Int) (ok_wide_Add : Nat → Int → Int → Int → Int → Bool) (o_wide_Add_0 : Nat → Int → Int → Int → Int → Int) (o_wide_Add_1 : Nat → Int → Int → Int → Int → Int) (ok_wide_Less : Nat → Int → Int → Int → Int → Bool) (o_wide_Less_0 : Nat → Int → Int → Int → Int → Bool), funL PP (words [(42, spec ti_law01_works to_law01_works (fun q => (ok_law01_works F )) (fun q => [.b (o_law01_works_0 F )])), (57, spec ti_wide_Of to_wide_Of (fun q => (ok_wide_Of F (atI (nth q 0)))) (fun q => [.i (o_wide_Of_0 F (atI (nth q 0))), .i (o_wide_Of_1 F (atI (nth q 0)))])), (45, spec ti_wide_Left to_wide_Left (fun q => (ok_wide_Left F (atI (nth q 0)) (atI (nth q 1)) (atI (nth q 2)))) (fun q => [.i (o_wide_Left_0 F (atI (nth q 0)) (atI (nth q 1)) (atI (nth q 2))), .i (o_wide_Left_1 F (atI (nth q 0)) (atI (nth q 1)) (atI (nth q 2)))])), (47, spec ti_wide_Right to_wide_Right (fun q => (ok_wide_Right F (atI (nth q 0)) (atI (nth q 1)) (atI (nth q 2)))) (fun q => [.i (o_wide_Right_0 F (atI (nth q 0)) (atI (nth q 1)) (atI (nth q 2))), .i (o_wide_Right_1 F (atI (nth q 0)) (atI (nth q 1)) (atI (nth q 2)))])), (49, spec ti_wide_Near to_wide_Near (fun q => (ok_wide_Near F (atI (nth q 0)) (atI (nth q 1)) (atI (nth q 2)))) (fun q => [.i (o_wide_Near_0 F (atI (nth q 0)) (atI (nth q 1)) (atI (nth q 2))), .i (o_wide_Near_1 F (atI (nth q 0)) (atI (nth q 1)) (atI (nth q 2)))])), (44, spec ti_wide_Neg to_wide_Neg (fun q => (ok_wide_Neg F (atI (nth q 0)) (atI (nth q 1)))) (fun q => [.i (o_wide_Neg_0 F (atI (nth q 0)) (atI (nth q 1))), .i (o_wide_Neg_1 F (atI (nth q 0)) (atI (nth q 1)))])), (43, spec ti_wide_Add to_wide_Add (fun q => (ok_wide_Add F (atI (nth q 0)) (atI (nth q 1)) (atI (nth q 2)) (atI (nth q 3)))) (fun q => [.i (o_wide_Add_0 F (atI (nth q 0)) (atI (nth q 1)) (atI (nth q 2)) (atI (nth q 3))), .i (o_wide_Add_1 F (atI (nth q 0)) (atI (nth q 1)) (atI (nth q 2)) (atI (nth q 3)))])), (55, spec ti_wide_Less to_wide_Less (fun q => (ok_wide_Less F (atI (nth q 0)) (atI (nth q 1)) (atI (nth q 2)) (atI (nth q 3)))) (fun q => [.b (o_wide_Less_0 F (atI (nth q 0)) (atI (nth q 1)) (atI (nth q 2)) (atI (nth q 3)))]))]) c_law01_WideTurned (tabI c_law01_WideTurned []) 11 (fTs ti_law01_WideTurned [.i a0, .i a1]).1 = (
  bif (ok_law01_works F) then (
    bif ((!((o_law01_works_0 F)))) then (
      some (.v (.bool false)))
    else (
      let v509 : Int := (IntKind.wrap .i64 ((Int.tmod a1 63)))
      bif (ok_wide_Of F a0) then (
        let v510 : Int := (o_wide_Of_0 F a0)
        let v511 : Int := (o_wide_Of_1 F a0)
        bif (ok_wide_Left F v510 v511 v509) then (
          let v512 : Int := (o_wide_Left_0 F v510 v511 v509)
          let v513 : Int := (o_wide_Left_1 F v510 v511 v509)
          bif (ok_wide_Right F v512 v513 v509) then (
            bif ((!((((o_wide_Right_0 F v512 v513 v509)) == v510) && (((o_wide_Right_1 F v512 v513 v509)) == v511)))) then (
              some (.v (.bool false)))
            else (
              bif (ok_wide_Near F v510 v511 v509) then (
                let v517 : Int := (o_wide_Near_0 F v510 v511 v509)
                let v518 : Int := (o_wide_Near_1 F v510 v511 v509)
                bif (ok_wide_Left F v517 v518 v509) then (
                  let v519 : Int := (o_wide_Left_0 F v517 v518 v509)
                  let v520 : Int := (o_wide_Left_1 F v517 v518 v509)
                  bif (ok_wide_Neg F v510 v511) then (
                    let v521 : Int := (o_wide_Neg_0 F v510 v511)
                    let v522 : Int := (o_wide_Neg_1 F v510 v511)
                    bif (ok_wide_Add F v519 v520 v521 v522) then (
                      let v523 : Int := (o_wide_Add_0 F v519 v520 v521 v522)
                      let v524 : Int := (o_wide_Add_1 F v519 v520 v521 v522)
                      bif (ok_wide_Left F v523 v524 1) then (
                        let v525 : Int := (o_wide_Left_0 F v523 v524 1)
                        let v526 : Int := (o_wide_Left_1 F v523 v524 1)
                        bif (ok_wide_Of F 1) then (
                          let v527 : Int := (o_wide_Of_0 F 1)
                          let v528 : Int := (o_wide_Of_1 F 1)
                          bif (ok_wide_Left F v527 v528 v509) then (
                            let v529 : Int := (o_wide_Left_0 F v527 v528 v509)
                            let v530 : Int := (o_wide_Left_1 F v527 v528 v509)
                            bif (ok_wide_Less F v529 v530 v525 v526) then (
                              bif ((!((o_wide_Less_0 F v529 v530 v525 v526)))) then (
                                bif (ok_wide_Neg F v529 v530) then (
                                  let v533 : Int := (o_wide_Neg_0 F v529 v530)
                                  let v534 : Int := (o_wide_Neg_1 F v529 v530)
                                  bif (ok_wide_Less F v533 v534 v525 v526) then (
                                    bif ((o_wide_Less_0 F v533 v534 v525 v526)) then (
                                      some (.v (.bool true)))
                                    else (
                                      bif ((v509 == 0)) then (
                                        some (.v (.bool (((v525 == 0) && (v526 == 0))))))
                                      else (
                                        some (.v (.bool false)))))
                                  else (
                                    none))
                                else (
                                  none))
                              else (
                                bif ((v509 == 0)) then (
                                  some (.v (.bool (((v525 == 0) && (v526 == 0))))))
                                else (
                                  some (.v (.bool false)))))
                            else (
                              none))
                          else (
                            none))
                        else (
                          none))
                      else (
                        none))
                    else (
                      none))
                  else (
                    none))
                else (
                  none))
              else (
                none)))
          else (
            none))
        else (
          none))
      else (
        none)))
  else (
    none) : R) := by
    intros
    kernel_rfl
  exact (h ok_law01_works o_law01_works_0 ok_wide_Of o_wide_Of_0 o_wide_Of_1 ok_wide_Left o_wide_Left_0 o_wide_Left_1 ok_wide_Right o_wide_Right_0 o_wide_Right_1 ok_wide_Near o_wide_Near_0 o_wide_Near_1 ok_wide_Neg o_wide_Neg_0 o_wide_Neg_1 ok_wide_Add o_wide_Add_0 o_wide_Add_1 ok_wide_Less o_wide_Less_0).trans (by kernel_rfl)
def ok_law01_WideTurned (F : Nat) (a0 : Int) (a1 : Int) : Bool := okT to_law01_WideTurned (f_law01_WideTurned F a0 a1)
def o_law01_WideTurned_0 (F : Nat) (a0 : Int) (a1 : Int) : Bool := atB (nth (outT to_law01_WideTurned (f_law01_WideTurned F a0 a1)) 0)
theorem k_law01_WideTurned (F : Nat) (a0 : Int) (a1 : Int) {z0 : Bool} (h : f_law01_WideTurned F a0 a1 = some (.v (.bool z0))) : ok_law01_WideTurned F a0 a1 = true ∧ o_law01_WideTurned_0 F a0 a1 = z0 := by
  refine ⟨?_, ?_⟩
  · unfold ok_law01_WideTurned; rw [h]; kernel_rfl
  · unfold o_law01_WideTurned_0; rw [h]; kernel_rfl
def s_law01_WideTurned (F : Nat) : List VV → Option (Bool × VV) := spec ti_law01_WideTurned to_law01_WideTurned (fun q => (ok_law01_WideTurned F (atI (nth q 0)) (atI (nth q 1)))) (fun q => [.b (o_law01_WideTurned_0 F (atI (nth q 0)) (atI (nth q 1)))])
theorem hS_law01_WideTurned (F : Nat) : ∀ f, Good PP f (unS (S_law01_WideTurned F f)) := words_good fun p hp => by
  simp only [List.mem_cons, List.not_mem_nil, or_false] at hp
  rcases hp with rfl | rfl | rfl | rfl | rfl | rfl | rfl | rfl
  · exact g_law01_works F
  · exact g_wide_Of F
  · exact g_wide_Left F
  · exact g_wide_Right F
  · exact g_wide_Near F
  · exact g_wide_Neg F
  · exact g_wide_Add F
  · exact g_wide_Less F
theorem hl_law01_WideTurned (F : Nat) : ∀ p ∈ loopsIn PP 11, LoopOK PP (S_law01_WideTurned F) c_law01_WideTurned F (I_law01_WideTurned F) p :=
  loops_of [] (by kernel_rfl) all_nil
theorem g_law01_WideTurned (F : Nat) : Good PP 11 (unS (s_law01_WideTurned F)) :=
  fun_spec (hS_law01_WideTurned F) (by kernel_rfl) (by kernel_rfl) (C := c_law01_WideTurned) (F := fun q => (f_law01_WideTurned F (atI (nth q 0)) (atI (nth q 1)))) (fun _ => F) (fun _ => I_law01_WideTurned F) (fun _ => hl_law01_WideTurned F)
    (fun q => (congrArg (funL PP (S_law01_WideTurned F) c_law01_WideTurned (I_law01_WideTurned F) 11) (show (fTs ti_law01_WideTurned q).1 = (fTs ti_law01_WideTurned [.i (atI (nth q 0)), .i (atI (nth q 1))]).1 by kernel_rfl)).trans (e_law01_WideTurned F (atI (nth q 0)) (atI (nth q 1))))
    (fun _ h => (okT_fill h).trans (congrArg some (by kernel_rfl)))

end Go.Xv
namespace Go.Xv
theorem near_half (z : Int) (m : Nat) : -2 ^ m < (near z m * 2 ^ m - z) * 2 ∧ (near z m * 2 ^ m - z) * 2 ≤ 2 ^ m := by
  unfold near
  cases m with
  | zero => simp
  | succ m =>
    rw [if_neg (by omega), show m + 1 - 1 = m by omega, ← ediv2, Int.pow_succ]
    have hQ := p2pos m
    have h := Int.mul_ediv_add_emod z (2 ^ m)
    have h2 := Int.emod_nonneg z (show (2 : Int) ^ m ≠ 0 by omega)
    have h3 := Int.emod_lt_of_pos z hQ
    generalize (2 : Int) ^ m = Q at *
    have e : z / Q = 2 * (z / Q / 2) + z / Q % 2 := by omega
    rcases (show z / Q % 2 = 0 ∨ z / Q % 2 = 1 by omega) with h0 | h0
    · rw [h0] at e ⊢
      have e2 : Q * (z / Q) = Q * (2 * (z / Q / 2)) := by rw [e]; congr 1; omega
      have e3 : (z / Q / 2 + 0) * (Q * 2) = Q * (2 * (z / Q / 2)) := by rw [Int.add_zero]; simp only [Int.mul_comm, Int.mul_left_comm]
      omega
    · rw [h0] at e ⊢
      have e2 : Q * (z / Q) = Q * (2 * (z / Q / 2)) + Q := by
        have : Q * (z / Q) = Q * (2 * (z / Q / 2) + 1) := by rw [← e]
        rw [this, Int.mul_add, Int.mul_one]
      have e3 : (z / Q / 2 + 1) * (Q * 2) = Q * (2 * (z / Q / 2)) + Q * 2 := by rw [Int.add_mul, Int.one_mul]; simp only [Int.mul_comm, Int.mul_left_comm]
      omega
theorem f_WideTurned (F : Nat) (_hF : 200 ≤ F) {a n : Int} (ha : I64 a) (hn : U8 n) : f_law01_WideTurned F a n = some (.v (.bool true)) := by
  unfold f_law01_WideTurned
  obtain ⟨w1, w2⟩ := a_works01 F
  unfold U8 at hn
  obtain ⟨k, hk, hk2⟩ : ∃ k : Nat, IntKind.wrap .i64 (Int.tmod n 63) = (k : Int) ∧ k ≤ 62 := by
    rw [Int.tmod_eq_emod_of_nonneg hn.1, wi64_in (by unfold I64; omega)]
    exact ⟨(n % 63).toNat, by omega, by omega⟩
  rw [hk]
  have hcl : cl (k : Int) = k := by
    unfold cl
    rw [if_neg (show ¬ 0 > (k : Int) by omega), if_neg (by omega)]; omega
  obtain ⟨o1, o2, o3⟩ := a_Of F ha
  have hp := p2pos k
  have hp2 : (2 : Int) ^ k ≤ 4611686018427387904 := by
    have := p2mono (a := k) (b := 62) hk2
    simpa using this
  have hWL : W128 (a * 2 ^ k) := by
    unfold I64 at ha
    have h1 : a * 2 ^ k ≤ 9223372036854775808 * 2 ^ k := Int.mul_le_mul_of_nonneg_right (by omega) (by omega)
    have h2 : -9223372036854775808 * 2 ^ k ≤ a * 2 ^ k := Int.mul_le_mul_of_nonneg_right (by omega) (by omega)
    unfold W128; omega
  obtain ⟨l1, l2, l3⟩ := a_Left F a (k : Int)
  obtain ⟨r1, r2, r3⟩ := a_Right F (k : Int) hWL
  obtain ⟨n1, n2, n3⟩ := a_Near F (k : Int) (I64_W ha)
  rw [hcl] at r2 r3 n2 n3
  rw [Int.toNat_natCast] at l2 l3
  rw [Int.mul_ediv_cancel _ (by omega)] at r2 r3
  obtain ⟨m1, m2, m3⟩ := a_Left F (near a k) (k : Int)
  rw [Int.toNat_natCast] at m2 m3
  obtain ⟨g1, g2, g3⟩ := a_Neg F a
  obtain ⟨s1, s2, s3⟩ := a_Add F (near a k * 2 ^ k) (-a)
  obtain ⟨d1, d2, d3⟩ := a_Left F (near a k * 2 ^ k + -a) 1
  obtain ⟨p1, p2, p3⟩ := a_Of F (n := 1) (by unfold I64; omega)
  obtain ⟨q1, q2, q3⟩ := a_Left F 1 (k : Int)
  rw [Int.toNat_natCast, Int.one_mul] at q2 q3
  have hh := near_half a k
  rw [show ((1 : Int).toNat) = 1 from rfl, Int.pow_one, ← Int.sub_eq_add_neg] at d2 d3
  have wd1 : W128 ((near a k * 2 ^ k - a) * 2) := by unfold W128; omega
  have wd2 : W128 ((2 : Int) ^ k) := by unfold W128; omega
  have wd3 : W128 (-(2 : Int) ^ k) := by unfold W128; omega
  obtain ⟨t1, t2⟩ := a_Less F wd2 wd1
  obtain ⟨v1, v2, v3⟩ := a_Neg F ((2 : Int) ^ k)
  obtain ⟨u1, u2⟩ := a_Less F wd3 wd1
  refine bp w1 (bn (by rw [w2]; rfl) (bp o1 ?_))
  rw [o2, o3]
  refine bp l1 ?_
  rw [l2, l3]
  refine bp r1 (bn (by rw [r2, r3]; simp) (bp n1 ?_))
  rw [n2, n3]
  refine bp m1 ?_
  rw [m2, m3]
  refine bp g1 ?_
  rw [g2, g3]
  refine bp s1 ?_
  rw [s2, s3]
  refine bp d1 ?_
  rw [← Int.sub_eq_add_neg] at *
  rw [d2, d3]
  refine bp p1 ?_
  rw [p2, p3]
  refine bp q1 ?_
  rw [q2, q3]
  refine bp t1 (bp (by rw [t2, df (by omega)]; rfl) (bp v1 ?_))
  rw [v2, v3]
  exact bp u1 (bp (by rw [u2, dt (by omega)]) rfl)
end Go.Xv
namespace Go.Proofs.Ytpcblnkllakejaa.wideTurned
open Go.ChangeShapes Go.WideShapes Go.ChangeAt Go.RowKit Go.Xv Go.Proofs.Ytpcblnkllakejaa.base
set_option linter.unusedVariables false
set_option maxRecDepth 100000 in
theorem lifted (os : Os) (started : os.Started) (H : Type) (enc : TypeId × Value → H) :
    ReturnsInHanded {} Try.checked os 11 .any (Rows.wideTurnedSpec.pre6 enc Try.prog Try.f11 Rows.wideTurnedRow.domain false) (Rows.wideTurnedSpec.post enc Try.prog Try.f11 false true false false) := by
  refine returnsInHanded_of_change (C := Try.checked) own started (by kernel_rfl) Try.func11
    (ChangeSpec.witness6 (enc := enc) (C := Try.checked) false ⟨#[], #[.int .i64 0, .int .u8 0], []⟩ 8 (by kernel_rfl) (by kernel_rfl) (by kernel_rfl) (by kernel_rfl)) ?_
  intro W base args ds gs before hval0 hW hcnd _
  have hval : ∀ (j : Nat) t v, Try.f11.params[j]? = some t → args[j]? = some v → Value.okWide Try.prog W .any base t v := hval0
  have hW' := hW
  obtain ⟨p, q, hA0, hV, rfl, hfz, hnd⟩ := hW
  have hA : DataW.TrodAll enc Try.prog W 0 (fun _ => true) true Try.f11.params.toList args.toList ds p := hA0
  rw [Try.params11] at hA hval
  obtain ⟨v0, vs0, d0, ds0, p0, q0, hargs, rfl, rfl, h0, r0⟩ := trodAll_cons hA
  obtain ⟨v1, vs1, d1, ds1, p1, q1, rfl, rfl, rfl, h1, r1⟩ := trodAll_cons r0
  obtain ⟨rfl, rfl, rfl⟩ := trodAll_nil r1
  obtain rfl : args = #[v0, v1] := by cases args; simp_all
  obtain ⟨a0, rfl, wa0⟩ := open_num (k := .i64) (by kernel_rfl) (hval 0 2 v0 rfl rfl) h0
  obtain ⟨a1, rfl, wa1⟩ := open_num (k := .u8) (by kernel_rfl) (hval 1 5 v1 rfl rfl) h1
  refine law_contract laidOut (g_law01_WideTurned fuel0) (bt := 4) (by kernel_rfl) (by kernel_rfl) (by kernel_rfl) (by kernel_rfl) rfl hW' ?_
  refine ⟨[.v (.int .i64 a0), .v (.int .u8 a1)], rfl, fun i x hx => ?_, unS_of ?_⟩
  · match i, hx with
    | 0, hx => exact ⟨_, rfl, by cases hx; exact Rel.v _ _⟩
    | 1, hx => exact ⟨_, rfl, by cases hx; exact Rel.v _ _⟩
    | _ + 2, hx => cases hx
  · obtain ⟨y1, y2⟩ := k_law01_WideTurned fuel0 a0 a1 (f_WideTurned fuel0 (by unfold fuel0; omega) (wf_i64 wa0) (wf_u8 wa1))
    have e : s_law01_WideTurned fuel0 [.v (.int .i64 a0), .v (.int .u8 a1)] = some (ok_law01_WideTurned fuel0 a0 a1, .v (.bool (o_law01_WideTurned_0 fuel0 a0 a1))) := by kernel_rfl
    rw [e, y1, y2]
theorem over : Rows.wideTurnedRow.holds Try.pinned (OpenSpec.ofChange Rows.wideTurnedSpec) :=
  OpenClaim.holds_of_wide 11 Try.f11 rfl rfl rfl rfl rfl rfl rfl ⟨rfl, rfl, rfl, rfl, rfl⟩ rfl rfl rfl rfl rfl (by kernel_rfl) Try.func11 (joined_of (P := Try.prog) behind enter_ rfl rfl ⟨rfl, rfl⟩ (by kernel_rfl))
    (of_decide_eq_true (by kernel_rfl)) (by unfold Func.isWrapper; first | (rw [if_pos (by decide +kernel)]; kernel_rfl) | (rw [if_neg (by decide +kernel)]; exact ⟨rfl, rfl⟩))
    (fun os started H enc _ => lifted os started H enc)
/-- The statement. -/
theorem proved : Rows.WideTurnedSaid := over
#print axioms proved
end Go.Proofs.Ytpcblnkllakejaa.wideTurned
