/- What is told not to have saturated is exact: sums and opposites come back, and a number times One, or over One, is itself: the law returns true for every input, and leaves its arguments as they were. -/
import Derived.Test.YtpcblnkllakejaaF
import Derived.Test.YtpcblnkllakejaaProg
import Derived.KernelRfl
set_option linter.unusedVariables false
namespace Go.Xv
/- 24 _law02_FixExact -/
def c_law02_FixExact : Cfg := ⟨[0, 1, 4, 5, 6, 7, 8, 9, 10, 11, 12, 13, 14, 15, 16, 18, 26, 38, 45, 56], [], []⟩
def ti_law02_FixExact : List TV := [.v (.int .i64), .v (.int .i64)]
def to_law02_FixExact : TV := .v (.bool)
def S_law02_FixExact (F : Nat) : FuncId → List VV → Option (Bool × VV) := words [(68, s_law02_works F), (69, s_fix_Add F), (90, s_fix_Sub F), (92, s_fix_Neg F), (70, s_fix_Mul F), (97, s_fix_Div F)]
def W_law02_FixExact (F : Nat) : List LW := []
def I_law02_FixExact (F : Nat) : Nat → VS → (Exit → VS → R) → R := tabI c_law02_FixExact (W_law02_FixExact F)
def f_law02_FixExact (F : Nat) (a0 : Int) (a1 : Int) : R :=
  bif (ok_law02_works F) then (
    bif ((!((o_law02_works_0 F)))) then (
      some (.v (.bool false)))
    else (
      bif (ok_fix_Add F a0 a1) then (
        let v1920 : Int := (o_fix_Add_0 F a0 a1)
        bif ((!((o_fix_Add_1 F a0 a1)))) then (
          bif (ok_fix_Sub F v1920 a1) then (
            bif ((((o_fix_Sub_0 F v1920 a1)) != a0)) then (
              some (.v (.bool false)))
            else (
              bif ((o_fix_Sub_1 F v1920 a1)) then (
                some (.v (.bool false)))
              else (
                bif (ok_fix_Neg F a0) then (
                  let v1926 : Int := (o_fix_Neg_0 F a0)
                  bif ((!((o_fix_Neg_1 F a0)))) then (
                    bif (ok_fix_Neg F v1926) then (
                      bif ((((o_fix_Neg_0 F v1926)) != a0)) then (
                        some (.v (.bool false)))
                      else (
                        bif ((o_fix_Neg_1 F v1926)) then (
                          some (.v (.bool false)))
                        else (
                          bif (ok_fix_Mul F a0 4294967296) then (
                            bif (ok_fix_Div F a0 4294967296) then (
                              bif ((((o_fix_Mul_0 F a0 4294967296)) == a0)) then (
                                bif ((!((o_fix_Mul_1 F a0 4294967296)))) then (
                                  bif ((((o_fix_Div_0 F a0 4294967296)) == a0)) then (
                                    some (.v (.bool ((!((o_fix_Div_1 F a0 4294967296)))))))
                                  else (
                                    some (.v (.bool false))))
                                else (
                                  some (.v (.bool false))))
                              else (
                                some (.v (.bool false))))
                            else (
                              none))
                          else (
                            none))))
                    else (
                      none))
                  else (
                    bif (ok_fix_Mul F a0 4294967296) then (
                      bif (ok_fix_Div F a0 4294967296) then (
                        bif ((((o_fix_Mul_0 F a0 4294967296)) == a0)) then (
                          bif ((!((o_fix_Mul_1 F a0 4294967296)))) then (
                            bif ((((o_fix_Div_0 F a0 4294967296)) == a0)) then (
                              some (.v (.bool ((!((o_fix_Div_1 F a0 4294967296)))))))
                            else (
                              some (.v (.bool false))))
                          else (
                            some (.v (.bool false))))
                        else (
                          some (.v (.bool false))))
                      else (
                        none))
                    else (
                      none)))
                else (
                  none))))
          else (
            none))
        else (
          bif (ok_fix_Neg F a0) then (
            let v1948 : Int := (o_fix_Neg_0 F a0)
            bif ((!((o_fix_Neg_1 F a0)))) then (
              bif (ok_fix_Neg F v1948) then (
                bif ((((o_fix_Neg_0 F v1948)) != a0)) then (
                  some (.v (.bool false)))
                else (
                  bif ((o_fix_Neg_1 F v1948)) then (
                    some (.v (.bool false)))
                  else (
                    bif (ok_fix_Mul F a0 4294967296) then (
                      bif (ok_fix_Div F a0 4294967296) then (
                        bif ((((o_fix_Mul_0 F a0 4294967296)) == a0)) then (
                          bif ((!((o_fix_Mul_1 F a0 4294967296)))) then (
                            bif ((((o_fix_Div_0 F a0 4294967296)) == a0)) then (
                              some (.v (.bool ((!((o_fix_Div_1 F a0 4294967296)))))))
                            else (
                              some (.v (.bool false))))
                          else (
                            some (.v (.bool false))))
                        else (
                          some (.v (.bool false))))
                      else (
                        none))
                    else (
                      none))))
              else (
                none))
            else (
              bif (ok_fix_Mul F a0 4294967296) then (
                bif (ok_fix_Div F a0 4294967296) then (
                  bif ((((o_fix_Mul_0 F a0 4294967296)) == a0)) then (
                    bif ((!((o_fix_Mul_1 F a0 4294967296)))) then (
                      bif ((((o_fix_Div_0 F a0 4294967296)) == a0)) then (
                        some (.v (.bool ((!((o_fix_Div_1 F a0 4294967296)))))))
                      else (
                        some (.v (.bool false))))
                    else (
                      some (.v (.bool false))))
                  else (
                    some (.v (.bool false))))
                else (
                  none))
              else (
                none)))
          else (
            none)))
      else (
        none)))
  else (
    none)
theorem e_law02_FixExact (F : Nat) (a0 : Int) (a1 : Int) : funL PP (S_law02_FixExact F) c_law02_FixExact (I_law02_FixExact F) 24 (fTs ti_law02_FixExact [.i a0, .i a1]).1 = f_law02_FixExact F a0 a1 := by
  have h : ∀ (ok_law02_works : Nat → Bool) (o_law02_works_0 : Nat → Bool) (ok_fix_Add : Nat → Int → Int → Bool) (o_fix_Add_0 : Nat → Int → Int → Int) (o_fix_Add_1 : Nat → Int → Int → Bool) (ok_fix_Sub : Nat → Int → Int → Bool) (o_fix_Sub_0 : Nat → Int → Int → Int) (o_fix_Sub_1 : Nat → Int → Int → Bool) (ok_fix_Neg : Nat → Int → Bool) (o_fix_Neg_0 : Nat → Int → Int) (o_fix_Neg_1 : Nat → Int → Bool) (ok_fix_Mul : Nat → Int → Int → Bool) (o_fix_Mul_0 : Nat → Int → Int → Int) (o_fix_Mul_1 : Nat → Int → Int → Bool) (ok_fix_Div : Nat → Int → Int → Bool) (o_fix_Div_0 : Nat → Int → Int → Int) (o_fix_Div_1 : Nat → Int → Int → Bool), funL PP (words [(68, spec ti_law02_works to_law02_works (fun q => (ok_law02_works F )) (fun q => [.b (o_law02_works_0 F )])), (69, spec ti_fix_Add to_fix_Add (fun q => (ok_fix_Add F (atI (nth q 0)) (atI (nth q 1)))) (fun q => [.i (o_fix_Add_0 F (atI (nth q 0)) (atI (nth q 1))), .b (o_fix_Add_1 F (atI (nth q 0)) (atI (nth q 1)))])), (90, spec ti_fix_Sub to_fix_Sub (fun q => (ok_fix_Sub F (atI (nth q 0)) (atI (nth q 1)))) (fun q => [.i (o_fix_Sub_0 F (atI (nth q 0)) (atI (nth q 1))), .b (o_fix_Sub_1 F (atI (nth q 0)) (atI (nth q 1)))])), (92, spec ti_fix_Neg to_fix_Neg (fun q => (ok_fix_Neg F (atI (nth q 0)))) (fun q => [.i (o_fix_Neg_0 F (atI (nth q 0))), .b (o_fix_Neg_1 F (atI (nth q 0)))])), (70, spec ti_fix_Mul to_fix_Mul (fun q => (ok_fix_Mul F (atI (nth q 0)) (atI (nth q 1)))) (fun q => [.i (o_fix_Mul_0 F (atI (nth q 0)) (atI (nth q 1))), .b (o_fix_Mul_1 F (atI (nth q 0)) (atI (nth q 1)))])), (97, spec ti_fix_Div to_fix_Div (fun q => (ok_fix_Div F (atI (nth q 0)) (atI (nth q 1)))) (fun q => [.i (o_fix_Div_0 F (atI (nth q 0)) (atI (nth q 1))), .b (o_fix_Div_1 F (atI (nth q 0)) (atI (nth q 1)))]))]) c_law02_FixExact (tabI c_law02_FixExact []) 24 (fTs ti_law02_FixExact [.i a0, .i a1]).1 = (
  bif (ok_law02_works F) then (
    bif ((!((o_law02_works_0 F)))) then (
      some (.v (.bool false)))
    else (
      bif (ok_fix_Add F a0 a1) then (
        let v1920 : Int := (o_fix_Add_0 F a0 a1)
        bif ((!((o_fix_Add_1 F a0 a1)))) then (
          bif (ok_fix_Sub F v1920 a1) then (
            bif ((((o_fix_Sub_0 F v1920 a1)) != a0)) then (
              some (.v (.bool false)))
            else (
              bif ((o_fix_Sub_1 F v1920 a1)) then (
                some (.v (.bool false)))
              else (
                bif (ok_fix_Neg F a0) then (
                  let v1926 : Int := (o_fix_Neg_0 F a0)
                  bif ((!((o_fix_Neg_1 F a0)))) then (
                    bif (ok_fix_Neg F v1926) then (
                      bif ((((o_fix_Neg_0 F v1926)) != a0)) then (
                        some (.v (.bool false)))
                      else (
                        bif ((o_fix_Neg_1 F v1926)) then (
                          some (.v (.bool false)))
                        else (
                          bif (ok_fix_Mul F a0 4294967296) then (
                            bif (ok_fix_Div F a0 4294967296) then (
                              bif ((((o_fix_Mul_0 F a0 4294967296)) == a0)) then (
                                bif ((!((o_fix_Mul_1 F a0 4294967296)))) then (
                                  bif ((((o_fix_Div_0 F a0 4294967296)) == a0)) then (
                                    some (.v (.bool ((!((o_fix_Div_1 F a0 4294967296)))))))
                                  else (
                                    some (.v (.bool false))))
                                else (
                                  some (.v (.bool false))))
                              else (
                                some (.v (.bool false))))
                            else (
                              none))
                          else (
                            none))))
                    else (
                      none))
                  else (
                    bif (ok_fix_Mul F a0 4294967296) then (
                      bif (ok_fix_Div F a0 4294967296) then (
                        bif ((((o_fix_Mul_0 F a0 4294967296)) == a0)) then (
                          bif ((!((o_fix_Mul_1 F a0 4294967296)))) then (
                            bif ((((o_fix_Div_0 F a0 4294967296)) == a0)) then (
                              some (.v (.bool ((!((o_fix_Div_1 F a0 4294967296)))))))
                            else (
                              some (.v (.bool false))))
                          else (
                            some (.v (.bool false))))
                        else (
                          some (.v (.bool false))))
                      else (
                        none))
                    else (
                      none)))
                else (
                  none))))
          else (
            none))
        else (
          bif (ok_fix_Neg F a0) then (
            let v1948 : Int := (o_fix_Neg_0 F a0)
            bif ((!((o_fix_Neg_1 F a0)))) then (
              bif (ok_fix_Neg F v1948) then (
                bif ((((o_fix_Neg_0 F v1948)) != a0)) then (
                  some (.v (.bool false)))
                else (
                  bif ((o_fix_Neg_1 F v1948)) then (
                    some (.v (.bool false)))
                  else (
                    bif (ok_fix_Mul F a0 4294967296) then (
                      bif (ok_fix_Div F a0 4294967296) then (
                        bif ((((o_fix_Mul_0 F a0 4294967296)) == a0)) then (
                          bif ((!((o_fix_Mul_1 F a0 4294967296)))) then (
                            bif ((((o_fix_Div_0 F a0 4294967296)) == a0)) then (
                              some (.v (.bool ((!((o_fix_Div_1 F a0 4294967296)))))))
                            else (
                              some (.v (.bool false))))
                          else (
                            some (.v (.bool false))))
                        else (
                          some (.v (.bool false))))
                      else (
                        none))
                    else (
                      none))))
              else (
                none))
            else (
              bif (ok_fix_Mul F a0 4294967296) then (
                bif (ok_fix_Div F a0 4294967296) then (
                  bif ((((o_fix_Mul_0 F a0 4294967296)) == a0)) then (
                    bif ((!((o_fix_Mul_1 F a0 4294967296)))) then (
                      bif ((((o_fix_Div_0 F a0 4294967296)) == a0)) then (
                        some (.v (.bool ((!((o_fix_Div_1 F a0 4294967296)))))))
                      else (
                        some (.v (.bool false))))
                    else (
                      some (.v (.bool false))))
                  else (
                    some (.v (.bool false))))
                else (
                  none))
              else (
                none)))
          else (
            none)))
      else (
        none)))
  else (
    none) : R) := by
    intros
    kernel_rfl
  exact (h ok_law02_works o_law02_works_0 ok_fix_Add o_fix_Add_0 o_fix_Add_1 ok_fix_Sub o_fix_Sub_0 o_fix_Sub_1 ok_fix_Neg o_fix_Neg_0 o_fix_Neg_1 ok_fix_Mul o_fix_Mul_0 o_fix_Mul_1 ok_fix_Div o_fix_Div_0 o_fix_Div_1).trans (by kernel_rfl)
def ok_law02_FixExact (F : Nat) (a0 : Int) (a1 : Int) : Bool := okT to_law02_FixExact (f_law02_FixExact F a0 a1)
def o_law02_FixExact_0 (F : Nat) (a0 : Int) (a1 : Int) : Bool := atB (nth (outT to_law02_FixExact (f_law02_FixExact F a0 a1)) 0)
theorem k_law02_FixExact (F : Nat) (a0 : Int) (a1 : Int) {z0 : Bool} (h : f_law02_FixExact F a0 a1 = some (.v (.bool z0))) : ok_law02_FixExact F a0 a1 = true ∧ o_law02_FixExact_0 F a0 a1 = z0 := by
  refine ⟨?_, ?_⟩
  · unfold ok_law02_FixExact; rw [h]; kernel_rfl
  · unfold o_law02_FixExact_0; rw [h]; kernel_rfl
def s_law02_FixExact (F : Nat) : List VV → Option (Bool × VV) := spec ti_law02_FixExact to_law02_FixExact (fun q => (ok_law02_FixExact F (atI (nth q 0)) (atI (nth q 1)))) (fun q => [.b (o_law02_FixExact_0 F (atI (nth q 0)) (atI (nth q 1)))])
theorem hS_law02_FixExact (F : Nat) : ∀ f, Good PP f (unS (S_law02_FixExact F f)) := words_good fun p hp => by
  simp only [List.mem_cons, List.not_mem_nil, or_false] at hp
  rcases hp with rfl | rfl | rfl | rfl | rfl | rfl
  · exact g_law02_works F
  · exact g_fix_Add F
  · exact g_fix_Sub F
  · exact g_fix_Neg F
  · exact g_fix_Mul F
  · exact g_fix_Div F
theorem hl_law02_FixExact (F : Nat) : ∀ p ∈ loopsIn PP 24, LoopOK PP (S_law02_FixExact F) c_law02_FixExact F (I_law02_FixExact F) p :=
  loops_of [] (by kernel_rfl) all_nil
theorem g_law02_FixExact (F : Nat) : Good PP 24 (unS (s_law02_FixExact F)) :=
  fun_spec (hS_law02_FixExact F) (by kernel_rfl) (by kernel_rfl) (C := c_law02_FixExact) (F := fun q => (f_law02_FixExact F (atI (nth q 0)) (atI (nth q 1)))) (fun _ => F) (fun _ => I_law02_FixExact F) (fun _ => hl_law02_FixExact F)
    (fun q => (congrArg (funL PP (S_law02_FixExact F) c_law02_FixExact (I_law02_FixExact F) 24) (show (fTs ti_law02_FixExact q).1 = (fTs ti_law02_FixExact [.i (atI (nth q 0)), .i (atI (nth q 1))]).1 by kernel_rfl)).trans (e_law02_FixExact F (atI (nth q 0)) (atI (nth q 1))))
    (fun _ h => (okT_fill h).trans (congrArg some (by kernel_rfl)))

end Go.Xv
namespace Go.Xv
theorem clip_out {z : Int} (h : ¬ I64 z) : clipC z = true := by
  unfold I64 at h
  unfold clipC
  exact dt (by omega)
theorem near_one (a : Int) : near (a * 4294967296) 32 = a := by
  unfold near
  rw [if_neg (by decide), show (2 : Int) ^ 32 = 4294967296 by decide, show (2 : Int) ^ (32 - 1) = 2147483648 by decide]
  omega
theorem one_I : I64 4294967296 := by unfold I64; omega
theorem f_FixExact (F : Nat) (hF : 200 ≤ F) {a b : Int} (ha : I64 a) (hb : I64 b) : f_law02_FixExact F a b = some (.v (.bool true)) := by
  unfold f_law02_FixExact
  dsimp only
  obtain ⟨w1, w2⟩ := a_works02 F
  obtain ⟨i1, i2, i3⟩ := a_fAdd F ha hb
  obtain ⟨m1, m2, m3⟩ := a_fNeg F ha
  obtain ⟨h1, h2, h3⟩ := a_fMul F ha one_I
  obtain ⟨g1, g2, g3⟩ := k_fix_Div F _ _ (f_fDiv F hF ha one_I)
  rw [near_one] at h2 h3
  obtain ⟨ca, cb⟩ := clip_in ha
  rw [ca] at h2
  rw [cb] at h3
  have e1 : fdivV a 4294967296 = a := by
    unfold fdivV
    rw [if_neg (by decide), Int.mul_tdiv_cancel _ (by decide), ca]
  have e2 : fdivC a 4294967296 = false := by
    unfold fdivC
    rw [if_neg (by decide), Int.mul_tdiv_cancel _ (by decide), cb]
  rw [e1] at g2
  rw [e2] at g3
  have hbne : (a != a) = false := by simp
  have neg : ∀ {n : Int}, n = clipV (-a) → I64 (-a) → ok_fix_Neg F n = true ∧ o_fix_Neg_0 F n = a ∧ o_fix_Neg_1 F n = false := by
    intro n hn hI
    rw [(clip_in hI).1] at hn
    subst hn
    have := a_fNeg F hI
    rw [Int.neg_neg, ca, cb] at this
    exact this
  have sub : ∀ {n : Int}, n = clipV (a + b) → I64 (a + b) → ok_fix_Sub F n b = true ∧ o_fix_Sub_0 F n b = a ∧ o_fix_Sub_1 F n b = false := by
    intro n hn hI
    rw [(clip_in hI).1] at hn
    subst hn
    have := a_fSub F hI hb
    rw [Int.add_sub_cancel, ca, cb] at this
    exact this
  by_cases hs : I64 (a + b) <;> by_cases hn : I64 (-a)
  · obtain ⟨s1, s2, s3⟩ := sub i2 hs
    obtain ⟨n1, n2, n3⟩ := neg m2 hn
    simp only [w1, w2, i1, i3, (clip_in hs).2, s1, s2, s3, m1, m3, (clip_in hn).2, n1, n2, n3, h1, h2, h3, g1, g2, g3, hbne, BEq.rfl, Bool.not_true, Bool.not_false, cond_true, cond_false]
  · obtain ⟨s1, s2, s3⟩ := sub i2 hs
    simp only [w1, w2, i1, i3, (clip_in hs).2, s1, s2, s3, m1, m3, clip_out hn, h1, h2, h3, g1, g2, g3, hbne, BEq.rfl, Bool.not_true, Bool.not_false, cond_true, cond_false]
  · obtain ⟨n1, n2, n3⟩ := neg m2 hn
    simp only [w1, w2, i1, i3, clip_out hs, m1, m3, (clip_in hn).2, n1, n2, n3, h1, h2, h3, g1, g2, g3, hbne, BEq.rfl, Bool.not_true, Bool.not_false, cond_true, cond_false]
  · simp only [w1, w2, i1, i3, clip_out hs, m1, m3, clip_out hn, h1, h2, h3, g1, g2, g3, BEq.rfl, Bool.not_true, Bool.not_false, cond_true, cond_false]
end Go.Xv
namespace Go.Proofs.Ytpcblnkllakejaa.fixExact
open Go.ChangeShapes Go.WideShapes Go.ChangeAt Go.RowKit Go.Xv Go.Proofs.Ytpcblnkllakejaa.base
set_option linter.unusedVariables false
set_option maxRecDepth 100000 in
theorem lifted (os : Os) (started : os.Started) (H : Type) (enc : TypeId × Value → H) :
    ReturnsInHanded {} Try.checked os 24 .any (Rows.fixExactSpec.pre6 enc Try.prog Try.f24 Rows.fixExactRow.domain false) (Rows.fixExactSpec.post enc Try.prog Try.f24 false true false false) := by
  refine returnsInHanded_of_change (C := Try.checked) own started (by kernel_rfl) Try.func24
    (ChangeSpec.witness6 (enc := enc) (C := Try.checked) false ⟨#[], #[.int .i64 0, .int .i64 0], []⟩ 8 (by kernel_rfl) (by kernel_rfl) (by kernel_rfl) (by kernel_rfl)) ?_
  intro W base args ds gs before hval0 hW hcnd _
  have hval : ∀ (j : Nat) t v, Try.f24.params[j]? = some t → args[j]? = some v → Value.okWide Try.prog W .any base t v := hval0
  have hW' := hW
  obtain ⟨p, q, hA0, hV, rfl, hfz, hnd⟩ := hW
  have hA : DataW.TrodAll enc Try.prog W 0 (fun _ => true) true Try.f24.params.toList args.toList ds p := hA0
  rw [Try.params24] at hA hval
  obtain ⟨v0, vs0, d0, ds0, p0, q0, hargs, rfl, rfl, h0, r0⟩ := trodAll_cons hA
  obtain ⟨v1, vs1, d1, ds1, p1, q1, rfl, rfl, rfl, h1, r1⟩ := trodAll_cons r0
  obtain ⟨rfl, rfl, rfl⟩ := trodAll_nil r1
  obtain rfl : args = #[v0, v1] := by cases args; simp_all
  obtain ⟨a0, rfl, wa0⟩ := open_num (k := .i64) (by kernel_rfl) (hval 0 27 v0 rfl rfl) h0
  obtain ⟨a1, rfl, wa1⟩ := open_num (k := .i64) (by kernel_rfl) (hval 1 27 v1 rfl rfl) h1
  refine law_contract laidOut (g_law02_FixExact fuel0) (bt := 4) (by kernel_rfl) (by kernel_rfl) (by kernel_rfl) (by kernel_rfl) rfl hW' ?_
  refine ⟨[.v (.int .i64 a0), .v (.int .i64 a1)], rfl, fun i x hx => ?_, unS_of ?_⟩
  · match i, hx with
    | 0, hx => exact ⟨_, rfl, by cases hx; exact Rel.v _ _⟩
    | 1, hx => exact ⟨_, rfl, by cases hx; exact Rel.v _ _⟩
    | _ + 2, hx => cases hx
  · obtain ⟨y1, y2⟩ := k_law02_FixExact fuel0 a0 a1 (f_FixExact fuel0 (by unfold fuel0; omega) (wf_i64 wa0) (wf_i64 wa1))
    have e : s_law02_FixExact fuel0 [.v (.int .i64 a0), .v (.int .i64 a1)] = some (ok_law02_FixExact fuel0 a0 a1, .v (.bool (o_law02_FixExact_0 fuel0 a0 a1))) := by kernel_rfl
    rw [e, y1, y2]
theorem over : Rows.fixExactRow.holds Try.pinned (OpenSpec.ofChange Rows.fixExactSpec) :=
  OpenClaim.holds_of_wide 24 Try.f24 rfl rfl rfl rfl rfl rfl rfl ⟨rfl, rfl, rfl, rfl, rfl⟩ rfl rfl rfl rfl rfl (by kernel_rfl) Try.func24 (joined_of (P := Try.prog) behind enter_ rfl rfl ⟨rfl, rfl⟩ (by kernel_rfl))
    (of_decide_eq_true (by kernel_rfl)) (by unfold Func.isWrapper; first | (rw [if_pos (by decide +kernel)]; kernel_rfl) | (rw [if_neg (by decide +kernel)]; exact ⟨rfl, rfl⟩))
    (fun os started H enc _ => lifted os started H enc)
/-- The statement. -/
theorem proved : Rows.FixExactSaid := over
#print axioms proved
end Go.Proofs.Ytpcblnkllakejaa.fixExact
