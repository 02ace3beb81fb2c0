/- Whole numbers, sums, differences, opposites and numbers without signs are as the document says, saturated where it says so: the law returns true for every input, and leaves its arguments as they were. -/
import Derived.Test.YtpcblnkllakejaaF
import Derived.Test.YtpcblnkllakejaaProg
import Derived.KernelRfl
set_option linter.unusedVariables false
namespace Go.Xv
/- 21 _law02_FixAdds -/
def c_law02_FixAdds : Cfg := ⟨[0, 1, 2, 6, 7, 8, 9, 10, 11, 12, 13, 14, 15, 16, 17, 18, 19, 20, 21, 22, 23, 24, 25, 26], [], []⟩
def ti_law02_FixAdds : List TV := [.v (.int .i64), .v (.int .i64), .v (.int .i64)]
def to_law02_FixAdds : TV := .v (.bool)
def S_law02_FixAdds (F : Nat) : FuncId → List VV → Option (Bool × VV) := words [(87, s_fix_Int F), (88, s_ref02_Int F), (69, s_fix_Add F), (89, s_ref02_Add F), (90, s_fix_Sub F), (91, s_ref02_Sub F), (92, s_fix_Neg F), (93, s_ref02_Neg F), (94, s_fix_Abs F), (95, s_ref02_Abs F), (68, s_law02_works F)]
def W_law02_FixAdds (F : Nat) : List LW := []
def I_law02_FixAdds (F : Nat) : Nat → VS → (Exit → VS → R) → R := tabI c_law02_FixAdds (W_law02_FixAdds F)
def f_law02_FixAdds (F : Nat) (a0 : Int) (a1 : Int) (a2 : Int) : R :=
  bif (ok_fix_Int F a0) then (
    bif (ok_ref02_Int F a0) then (
      bif (ok_fix_Add F a1 a2) then (
        bif (ok_ref02_Add F a1 a2) then (
          bif (ok_fix_Sub F a1 a2) then (
            bif (ok_ref02_Sub F a1 a2) then (
              bif (ok_fix_Neg F a1) then (
                bif (ok_ref02_Neg F a1) then (
                  bif (ok_fix_Abs F a1) then (
                    bif (ok_ref02_Abs F a1) then (
                      bif ((((o_fix_Int_0 F a0)) == ((o_ref02_Int_0 F a0)))) then (
                        bif ((((o_fix_Int_1 F a0)) == ((o_ref02_Int_1 F a0)))) then (
                          bif ((((o_fix_Add_0 F a1 a2)) == ((o_ref02_Add_0 F a1 a2)))) then (
                            bif ((((o_fix_Add_1 F a1 a2)) == ((o_ref02_Add_1 F a1 a2)))) then (
                              bif ((((o_fix_Sub_0 F a1 a2)) == ((o_ref02_Sub_0 F a1 a2)))) then (
                                bif ((((o_fix_Sub_1 F a1 a2)) == ((o_ref02_Sub_1 F a1 a2)))) then (
                                  bif ((((o_fix_Neg_0 F a1)) == ((o_ref02_Neg_0 F a1)))) then (
                                    bif ((((o_fix_Neg_1 F a1)) == ((o_ref02_Neg_1 F a1)))) then (
                                      bif ((((o_fix_Abs_0 F a1)) == ((o_ref02_Abs_0 F a1)))) then (
                                        bif ((((o_fix_Abs_1 F a1)) == ((o_ref02_Abs_1 F a1)))) then (
                                          bif (ok_law02_works F) then (
                                            some (.v (.bool ((o_law02_works_0 F)))))
                                          else (
                                            none))
                                        else (
                                          some (.v (.bool false))))
                                      else (
                                        some (.v (.bool false))))
                                    else (
                                      some (.v (.bool false))))
                                  else (
                                    some (.v (.bool false))))
                                else (
                                  some (.v (.bool false))))
                              else (
                                some (.v (.bool false))))
                            else (
                              some (.v (.bool false))))
                          else (
                            some (.v (.bool false))))
                        else (
                          some (.v (.bool false))))
                      else (
                        some (.v (.bool false))))
                    else (
                      none))
                  else (
                    none))
                else (
                  none))
              else (
                none))
            else (
              none))
          else (
            none))
        else (
          none))
      else (
        none))
    else (
      none))
  else (
    none)
theorem e_law02_FixAdds (F : Nat) (a0 : Int) (a1 : Int) (a2 : Int) : funL PP (S_law02_FixAdds F) c_law02_FixAdds (I_law02_FixAdds F) 21 (fTs ti_law02_FixAdds [.i a0, .i a1, .i a2]).1 = f_law02_FixAdds F a0 a1 a2 := by
  have h : ∀ (ok_fix_Int : Nat → Int → Bool) (o_fix_Int_0 : Nat → Int → Int) (o_fix_Int_1 : Nat → Int → Bool) (ok_ref02_Int : Nat → Int → Bool) (o_ref02_Int_0 : Nat → Int → Int) (o_ref02_Int_1 : Nat → Int → Bool) (ok_fix_Add : Nat → Int → Int → Bool) (o_fix_Add_0 : Nat → Int → Int → Int) (o_fix_Add_1 : Nat → Int → Int → Bool) (ok_ref02_Add : Nat → Int → Int → Bool) (o_ref02_Add_0 : Nat → Int → Int → Int) (o_ref02_Add_1 : Nat → Int → Int → Bool) (ok_fix_Sub : Nat → Int → Int → Bool) (o_fix_Sub_0 : Nat → Int → Int → Int) (o_fix_Sub_1 : Nat → Int → Int → Bool) (ok_ref02_Sub : Nat → Int → Int → Bool) (o_ref02_Sub_0 : Nat → Int → Int → Int) (o_ref02_Sub_1 : Nat → Int → Int → Bool) (ok_fix_Neg : Nat → Int → Bool) (o_fix_Neg_0 : Nat → Int → Int) (o_fix_Neg_1 : Nat → Int → Bool) (ok_ref02_Neg : Nat → Int → Bool) (o_ref02_Neg_0 : Nat → Int → Int) (o_ref02_Neg_1 : Nat → Int → Bool) (ok_fix_Abs : Nat → Int → Bool) (o_fix_Abs_0 : Nat → Int → Int) (o_fix_Abs_1 : Nat → Int → Bool) (ok_ref02_Abs : Nat → Int → Bool) (o_ref02_Abs_0 : Nat → Int → Int) (o_ref02_Abs_1 : Nat → Int → Bool) (ok_law02_works : Nat → Bool) (o_law02_works_0 : Nat → Bool), funL PP (words [(87, spec ti_fix_Int to_fix_Int (fun q => (ok_fix_Int F (atI (nth q 0)))) (fun q => [.i (o_fix_Int_0 F (atI (nth q 0))), .b (o_fix_Int_1 F (atI (nth q 0)))])), (88, spec ti_ref02_Int to_ref02_Int (fun q => (ok_ref02_Int F (atI (nth q 0)))) (fun q => [.i (o_ref02_Int_0 F (atI (nth q 0))), .b (o_ref02_Int_1 F (atI (nth q 0)))])), (69, spec ti_fix_Add to_fix_Add (fun q => (ok_fix_Add F (atI (nth q 0)) (atI (nth q 1)))) (fun q => [.i (o_fix_Add_0 F (atI (nth q 0)) (atI (nth q 1))), .b (o_fix_Add_1 F (atI (nth q 0)) (atI (nth q 1)))])), (89, spec ti_ref02_Add to_ref02_Add (fun q => (ok_ref02_Add F (atI (nth q 0)) (atI (nth q 1)))) (fun q => [.i (o_ref02_Add_0 F (atI (nth q 0)) (atI (nth q 1))), .b (o_ref02_Add_1 F (atI (nth q 0)) (atI (nth q 1)))])), (90, spec ti_fix_Sub to_fix_Sub (fun q => (ok_fix_Sub F (atI (nth q 0)) (atI (nth q 1)))) (fun q => [.i (o_fix_Sub_0 F (atI (nth q 0)) (atI (nth q 1))), .b (o_fix_Sub_1 F (atI (nth q 0)) (atI (nth q 1)))])), (91, spec ti_ref02_Sub to_ref02_Sub (fun q => (ok_ref02_Sub F (atI (nth q 0)) (atI (nth q 1)))) (fun q => [.i (o_ref02_Sub_0 F (atI (nth q 0)) (atI (nth q 1))), .b (o_ref02_Sub_1 F (atI (nth q 0)) (atI (nth q 1)))])), (92, spec ti_fix_Neg to_fix_Neg (fun q => (ok_fix_Neg F (atI (nth q 0)))) (fun q => [.i (o_fix_Neg_0 F (atI (nth q 0))), .b (o_fix_Neg_1 F (atI (nth q 0)))])), (93, spec ti_ref02_Neg to_ref02_Neg (fun q => (ok_ref02_Neg F (atI (nth q 0)))) (fun q => [.i (o_ref02_Neg_0 F (atI (nth q 0))), .b (o_ref02_Neg_1 F (atI (nth q 0)))])), (94, spec ti_fix_Abs to_fix_Abs (fun q => (ok_fix_Abs F (atI (nth q 0)))) (fun q => [.i (o_fix_Abs_0 F (atI (nth q 0))), .b (o_fix_Abs_1 F (atI (nth q 0)))])), (95, spec ti_ref02_Abs to_ref02_Abs (fun q => (ok_ref02_Abs F (atI (nth q 0)))) (fun q => [.i (o_ref02_Abs_0 F (atI (nth q 0))), .b (o_ref02_Abs_1 F (atI (nth q 0)))])), (68, spec ti_law02_works to_law02_works (fun q => (ok_law02_works F )) (fun q => [.b (o_law02_works_0 F )]))]) c_law02_FixAdds (tabI c_law02_FixAdds []) 21 (fTs ti_law02_FixAdds [.i a0, .i a1, .i a2]).1 = (
  bif (ok_fix_Int F a0) then (
    bif (ok_ref02_Int F a0) then (
      bif (ok_fix_Add F a1 a2) then (
        bif (ok_ref02_Add F a1 a2) then (
          bif (ok_fix_Sub F a1 a2) then (
            bif (ok_ref02_Sub F a1 a2) then (
              bif (ok_fix_Neg F a1) then (
                bif (ok_ref02_Neg F a1) then (
                  bif (ok_fix_Abs F a1) then (
                    bif (ok_ref02_Abs F a1) then (
                      bif ((((o_fix_Int_0 F a0)) == ((o_ref02_Int_0 F a0)))) then (
                        bif ((((o_fix_Int_1 F a0)) == ((o_ref02_Int_1 F a0)))) then (
                          bif ((((o_fix_Add_0 F a1 a2)) == ((o_ref02_Add_0 F a1 a2)))) then (
                            bif ((((o_fix_Add_1 F a1 a2)) == ((o_ref02_Add_1 F a1 a2)))) then (
                              bif ((((o_fix_Sub_0 F a1 a2)) == ((o_ref02_Sub_0 F a1 a2)))) then (
                                bif ((((o_fix_Sub_1 F a1 a2)) == ((o_ref02_Sub_1 F a1 a2)))) then (
                                  bif ((((o_fix_Neg_0 F a1)) == ((o_ref02_Neg_0 F a1)))) then (
                                    bif ((((o_fix_Neg_1 F a1)) == ((o_ref02_Neg_1 F a1)))) then (
                                      bif ((((o_fix_Abs_0 F a1)) == ((o_ref02_Abs_0 F a1)))) then (
                                        bif ((((o_fix_Abs_1 F a1)) == ((o_ref02_Abs_1 F a1)))) then (
                                          bif (ok_law02_works F) then (
                                            some (.v (.bool ((o_law02_works_0 F)))))
                                          else (
                                            none))
                                        else (
                                          some (.v (.bool false))))
                                      else (
                                        some (.v (.bool false))))
                                    else (
                                      some (.v (.bool false))))
                                  else (
                                    some (.v (.bool false))))
                                else (
                                  some (.v (.bool false))))
                              else (
                                some (.v (.bool false))))
                            else (
                              some (.v (.bool false))))
                          else (
                            some (.v (.bool false))))
                        else (
                          some (.v (.bool false))))
                      else (
                        some (.v (.bool false))))
                    else (
                      none))
                  else (
                    none))
                else (
                  none))
              else (
                none))
            else (
              none))
          else (
            none))
        else (
          none))
      else (
        none))
    else (
      none))
  else (
    none) : R) := by
    intros
    kernel_rfl
  exact (h ok_fix_Int o_fix_Int_0 o_fix_Int_1 ok_ref02_Int o_ref02_Int_0 o_ref02_Int_1 ok_fix_Add o_fix_Add_0 o_fix_Add_1 ok_ref02_Add o_ref02_Add_0 o_ref02_Add_1 ok_fix_Sub o_fix_Sub_0 o_fix_Sub_1 ok_ref02_Sub o_ref02_Sub_0 o_ref02_Sub_1 ok_fix_Neg o_fix_Neg_0 o_fix_Neg_1 ok_ref02_Neg o_ref02_Neg_0 o_ref02_Neg_1 ok_fix_Abs o_fix_Abs_0 o_fix_Abs_1 ok_ref02_Abs o_ref02_Abs_0 o_ref02_Abs_1 ok_law02_works o_law02_works_0).trans (by kernel_rfl)
def ok_law02_FixAdds (F : Nat) (a0 : Int) (a1 : Int) (a2 : Int) : Bool := okT to_law02_FixAdds (f_law02_FixAdds F a0 a1 a2)
def o_law02_FixAdds_0 (F : Nat) (a0 : Int) (a1 : Int) (a2 : Int) : Bool := atB (nth (outT to_law02_FixAdds (f_law02_FixAdds F a0 a1 a2)) 0)
theorem k_law02_FixAdds (F : Nat) (a0 : Int) (a1 : Int) (a2 : Int) {z0 : Bool} (h : f_law02_FixAdds F a0 a1 a2 = some (.v (.bool z0))) : ok_law02_FixAdds F a0 a1 a2 = true ∧ o_law02_FixAdds_0 F a0 a1 a2 = z0 := by
  refine ⟨?_, ?_⟩
  · unfold ok_law02_FixAdds; rw [h]; kernel_rfl
  · unfold o_law02_FixAdds_0; rw [h]; kernel_rfl
def s_law02_FixAdds (F : Nat) : List VV → Option (Bool × VV) := spec ti_law02_FixAdds to_law02_FixAdds (fun q => (ok_law02_FixAdds F (atI (nth q 0)) (atI (nth q 1)) (atI (nth q 2)))) (fun q => [.b (o_law02_FixAdds_0 F (atI (nth q 0)) (atI (nth q 1)) (atI (nth q 2)))])
theorem hS_law02_FixAdds (F : Nat) : ∀ f, Good PP f (unS (S_law02_FixAdds F f)) := words_good fun p hp => by
  simp only [List.mem_cons, List.not_mem_nil, or_false] at hp
  rcases hp with rfl | rfl | rfl | rfl | rfl | rfl | rfl | rfl | rfl | rfl | rfl
  · exact g_fix_Int F
  · exact g_ref02_Int F
  · exact g_fix_Add F
  · exact g_ref02_Add F
  · exact g_fix_Sub F
  · exact g_ref02_Sub F
  · exact g_fix_Neg F
  · exact g_ref02_Neg F
  · exact g_fix_Abs F
  · exact g_ref02_Abs F
  · exact g_law02_works F
theorem hl_law02_FixAdds (F : Nat) : ∀ p ∈ loopsIn PP 21, LoopOK PP (S_law02_FixAdds F) c_law02_FixAdds F (I_law02_FixAdds F) p :=
  loops_of [] (by kernel_rfl) all_nil
theorem g_law02_FixAdds (F : Nat) : Good PP 21 (unS (s_law02_FixAdds F)) :=
  fun_spec (hS_law02_FixAdds F) (by kernel_rfl) (by kernel_rfl) (C := c_law02_FixAdds) (F := fun q => (f_law02_FixAdds F (atI (nth q 0)) (atI (nth q 1)) (atI (nth q 2)))) (fun _ => F) (fun _ => I_law02_FixAdds F) (fun _ => hl_law02_FixAdds F)
    (fun q => (congrArg (funL PP (S_law02_FixAdds F) c_law02_FixAdds (I_law02_FixAdds F) 21) (show (fTs ti_law02_FixAdds q).1 = (fTs ti_law02_FixAdds [.i (atI (nth q 0)), .i (atI (nth q 1)), .i (atI (nth q 2))]).1 by kernel_rfl)).trans (e_law02_FixAdds F (atI (nth q 0)) (atI (nth q 1)) (atI (nth q 2))))
    (fun _ h => (okT_fill h).trans (congrArg some (by kernel_rfl)))

end Go.Xv
namespace Go.Xv
theorem f_FixAdds (F : Nat) (hF : 200 ≤ F) {n a b : Int} (hn : I64 n) (ha : I64 a) (hb : I64 b) : f_law02_FixAdds F n a b = some (.v (.bool true)) := by
  unfold f_law02_FixAdds
  obtain ⟨h1, h2, h3⟩ := a_fInt F hn
  obtain ⟨g1, g2, g3⟩ := k_ref02_Int F _ (f_rInt F hF hn)
  obtain ⟨i1, i2, i3⟩ := a_fAdd F ha hb
  obtain ⟨j1, j2, j3⟩ := k_ref02_Add F _ _ (f_rAdd2 F hF ha hb)
  obtain ⟨k1, k2, k3⟩ := a_fSub F ha hb
  obtain ⟨l1, l2, l3⟩ := k_ref02_Sub F _ _ (f_rSub2 F hF ha hb)
  obtain ⟨m1, m2, m3⟩ := a_fNeg F ha
  obtain ⟨n1, n2, n3⟩ := k_ref02_Neg F _ (f_rNeg2 F hF ha)
  obtain ⟨o1, o2, o3⟩ := k_fix_Abs F _ (f_fAbs F ha)
  obtain ⟨p1, p2, p3⟩ := k_ref02_Abs F _ (f_rAbs2 F hF ha)
  obtain ⟨w1, w2⟩ := a_works02 F
  simp only [h1, h2, h3, g1, g2, g3, i1, i2, i3, j1, j2, j3, k1, k2, k3, l1, l2, l3, m1, m2, m3, n1, n2, n3, o1, o2, o3, p1, p2, p3, w1, w2, BEq.rfl, cond_true]
end Go.Xv
namespace Go.Proofs.Ytpcblnkllakejaa.fixAdds
open Go.ChangeShapes Go.WideShapes Go.ChangeAt Go.RowKit Go.Xv Go.Proofs.Ytpcblnkllakejaa.base
set_option linter.unusedVariables false
set_option maxRecDepth 100000 in
theorem lifted (os : Os) (started : os.Started) (H : Type) (enc : TypeId × Value → H) :
    ReturnsInHanded {} Try.checked os 21 .any (Rows.fixAddsSpec.pre6 enc Try.prog Try.f21 Rows.fixAddsRow.domain false) (Rows.fixAddsSpec.post enc Try.prog Try.f21 false true false false) := by
  refine returnsInHanded_of_change (C := Try.checked) own started (by kernel_rfl) Try.func21
    (ChangeSpec.witness6 (enc := enc) (C := Try.checked) false ⟨#[], #[.int .i64 0, .int .i64 0, .int .i64 0], []⟩ 8 (by kernel_rfl) (by kernel_rfl) (by kernel_rfl) (by kernel_rfl)) ?_
  intro W base args ds gs before hval0 hW hcnd _
  have hval : ∀ (j : Nat) t v, Try.f21.params[j]? = some t → args[j]? = some v → Value.okWide Try.prog W .any base t v := hval0
  have hW' := hW
  obtain ⟨p, q, hA0, hV, rfl, hfz, hnd⟩ := hW
  have hA : DataW.TrodAll enc Try.prog W 0 (fun _ => true) true Try.f21.params.toList args.toList ds p := hA0
  rw [Try.params21] at hA hval
  obtain ⟨v0, vs0, d0, ds0, p0, q0, hargs, rfl, rfl, h0, r0⟩ := trodAll_cons hA
  obtain ⟨v1, vs1, d1, ds1, p1, q1, rfl, rfl, rfl, h1, r1⟩ := trodAll_cons r0
  obtain ⟨v2, vs2, d2, ds2, p2, q2, rfl, rfl, rfl, h2, r2⟩ := trodAll_cons r1
  obtain ⟨rfl, rfl, rfl⟩ := trodAll_nil r2
  obtain rfl : args = #[v0, v1, v2] := by cases args; simp_all
  obtain ⟨a0, rfl, wa0⟩ := open_num (k := .i64) (by kernel_rfl) (hval 0 3 v0 rfl rfl) h0
  obtain ⟨a1, rfl, wa1⟩ := open_num (k := .i64) (by kernel_rfl) (hval 1 27 v1 rfl rfl) h1
  obtain ⟨a2, rfl, wa2⟩ := open_num (k := .i64) (by kernel_rfl) (hval 2 27 v2 rfl rfl) h2
  refine law_contract laidOut (g_law02_FixAdds fuel0) (bt := 4) (by kernel_rfl) (by kernel_rfl) (by kernel_rfl) (by kernel_rfl) rfl hW' ?_
  refine ⟨[.v (.int .i64 a0), .v (.int .i64 a1), .v (.int .i64 a2)], rfl, fun i x hx => ?_, unS_of ?_⟩
  · match i, hx with
    | 0, hx => exact ⟨_, rfl, by cases hx; exact Rel.v _ _⟩
    | 1, hx => exact ⟨_, rfl, by cases hx; exact Rel.v _ _⟩
    | 2, hx => exact ⟨_, rfl, by cases hx; exact Rel.v _ _⟩
    | _ + 3, hx => cases hx
  · obtain ⟨y1, y2⟩ := k_law02_FixAdds fuel0 a0 a1 a2 (f_FixAdds fuel0 (by unfold fuel0; omega) (wf_i64 wa0) (wf_i64 wa1) (wf_i64 wa2))
    have e : s_law02_FixAdds fuel0 [.v (.int .i64 a0), .v (.int .i64 a1), .v (.int .i64 a2)] = some (ok_law02_FixAdds fuel0 a0 a1 a2, .v (.bool (o_law02_FixAdds_0 fuel0 a0 a1 a2))) := by kernel_rfl
    rw [e, y1, y2]
theorem over : Rows.fixAddsRow.holds Try.pinned (OpenSpec.ofChange Rows.fixAddsSpec) :=
  OpenClaim.holds_of_wide 21 Try.f21 rfl rfl rfl rfl rfl rfl rfl ⟨rfl, rfl, rfl, rfl, rfl⟩ rfl rfl rfl rfl rfl (by kernel_rfl) Try.func21 (joined_of (P := Try.prog) behind enter_ rfl rfl ⟨rfl, rfl⟩ (by kernel_rfl))
    (of_decide_eq_true (by kernel_rfl)) (by unfold Func.isWrapper; first | (rw [if_pos (by decide +kernel)]; kernel_rfl) | (rw [if_neg (by decide +kernel)]; exact ⟨rfl, rfl⟩))
    (fun os started H enc _ => lifted os started H enc)
/-- The statement. -/
theorem proved : Rows.FixAddsSaid := over
#print axioms proved
end Go.Proofs.Ytpcblnkllakejaa.fixAdds
