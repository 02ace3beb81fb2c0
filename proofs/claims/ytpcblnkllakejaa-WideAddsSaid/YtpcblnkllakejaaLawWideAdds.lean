/- Sums, opposites, signs and which is less are as the document says, of any wide numbers: the law returns true for every input, and leaves its arguments as they were. -/
import Derived.Test.YtpcblnkllakejaaW2
import Derived.Test.YtpcblnkllakejaaProg
import Derived.KernelRfl
set_option linter.unusedVariables false
namespace Go.Xv
/- 10 _law01_WideAdds -/
def c_law01_WideAdds : Cfg := ⟨[0, 1, 2, 3, 4, 6], [], []⟩
def ti_law01_WideAdds : List TV := [.v (.agg [.int .i64, .int .u64]), .v (.agg [.int .i64, .int .u64]), .v (.int .i64)]
def to_law01_WideAdds : TV := .v (.bool)
def S_law01_WideAdds (F : Nat) : FuncId → List VV → Option (Bool × VV) := words [(43, s_wide_Add F), (51, s_ref01_Add F), (44, s_wide_Neg F), (52, s_ref01_Neg F), (53, s_wide_Sign F), (54, s_ref01_Sign F), (55, s_wide_Less F), (56, s_ref01_Less F), (57, s_wide_Of F), (58, s_ref01_Of F), (42, s_law01_works F)]
def W_law01_WideAdds (F : Nat) : List LW := []
def I_law01_WideAdds (F : Nat) : Nat → VS → (Exit → VS → R) → R := tabI c_law01_WideAdds (W_law01_WideAdds F)
def f_law01_WideAdds (F : Nat) (a0 : Int) (a1 : Int) (a2 : Int) (a3 : Int) (a4 : Int) : R :=
  bif (ok_wide_Add F a0 a1 a2 a3) then (
    bif (ok_ref01_Add F a0 a1 a2 a3) then (
      bif (((((o_wide_Add_0 F a0 a1 a2 a3)) == ((o_ref01_Add_0 F a0 a1 a2 a3))) && (((o_wide_Add_1 F a0 a1 a2 a3)) == ((o_ref01_Add_1 F a0 a1 a2 a3))))) then (
        bif (ok_wide_Neg F a0 a1) then (
          bif (ok_ref01_Neg F a0 a1) then (
            bif (((((o_wide_Neg_0 F a0 a1)) == ((o_ref01_Neg_0 F a0 a1))) && (((o_wide_Neg_1 F a0 a1)) == ((o_ref01_Neg_1 F a0 a1))))) then (
              bif (ok_wide_Sign F a0 a1) then (
                bif (ok_ref01_Sign F a0 a1) then (
                  bif ((((o_wide_Sign_0 F a0 a1)) == ((o_ref01_Sign_0 F a0 a1)))) then (
                    bif (ok_wide_Less F a0 a1 a2 a3) then (
                      bif (ok_ref01_Less F a0 a1 a2 a3) then (
                        bif ((((o_wide_Less_0 F a0 a1 a2 a3)) == ((o_ref01_Less_0 F a0 a1 a2 a3)))) then (
                          bif (ok_wide_Of F a4) then (
                            bif (ok_ref01_Of F a4) then (
                              bif (((((o_wide_Of_0 F a4)) == ((o_ref01_Of_0 F a4))) && (((o_wide_Of_1 F a4)) == ((o_ref01_Of_1 F a4))))) then (
                                bif (ok_law01_works F) then (
                                  some (.v (.bool ((o_law01_works_0 F)))))
                                else (
                                  none))
                              else (
                                some (.v (.bool false))))
                            else (
                              none))
                          else (
                            none))
                        else (
                          some (.v (.bool false))))
                      else (
                        none))
                    else (
                      none))
                  else (
                    some (.v (.bool false))))
                else (
                  none))
              else (
                none))
            else (
              some (.v (.bool false))))
          else (
            none))
        else (
          none))
      else (
        some (.v (.bool false))))
    else (
      none))
  else (
    none)
theorem e_law01_WideAdds (F : Nat) (a0 : Int) (a1 : Int) (a2 : Int) (a3 : Int) (a4 : Int) : funL PP (S_law01_WideAdds F) c_law01_WideAdds (I_law01_WideAdds F) 10 (fTs ti_law01_WideAdds [.i a0, .i a1, .i a2, .i a3, .i a4]).1 = f_law01_WideAdds F a0 a1 a2 a3 a4 := by
  have h : ∀ (ok_wide_Add : Nat → Int → Int → Int → Int → Bool) (o_wide_Add_0 : Nat → Int → Int → Int → Int → Int) (o_wide_Add_1 : Nat → Int → Int → Int → Int → Int) (ok_ref01_Add : Nat → Int → Int → Int → Int → Bool) (o_ref01_Add_0 : Nat → Int → Int → Int → Int → Int) (o_ref01_Add_1 : Nat → Int → Int → Int → Int → Int) (ok_wide_Neg : Nat → Int → Int → Bool) (o_wide_Neg_0 : Nat → Int → Int → Int) (o_wide_Neg_1 : Nat → Int → Int → Int) (ok_ref01_Neg : Nat → Int → Int → Bool) (o_ref01_Neg_0 : Nat → Int → Int → Int) (o_ref01_Neg_1 : Nat → Int → Int → Int) (ok_wide_Sign : Nat → Int → Int → Bool) (o_wide_Sign_0 : Nat → Int → Int → Int) (ok_ref01_Sign : Nat → Int → Int → Bool) (o_ref01_Sign_0 : Nat → Int → Int → Int) (ok_wide_Less : Nat → Int → Int → Int → Int → Bool) (o_wide_Less_0 : Nat → Int → Int → Int → Int → Bool) (ok_ref01_Less : Nat → Int → Int → Int → Int → Bool) (o_ref01_Less_0 : Nat → Int → Int → Int → Int → Bool) (ok_wide_Of : Nat → Int → Bool) (o_wide_Of_0 : Nat → Int → Int) (o_wide_Of_1 : Nat → Int → Int) (ok_ref01_Of : Nat → Int → Bool) (o_ref01_Of_0 : Nat → Int → Int) (o_ref01_Of_1 : Nat → Int → Int) (ok_law01_works : Nat → Bool) (o_law01_works_0 : Nat → Bool), funL PP (words [(43, spec ti_wide_Add to_wide_Add (fun q => (ok_wide_Add F (atI (nth q 0)) (atI (nth q 1)) (atI (nth q 2)) (atI (nth q 3)))) (fun q => [.i (o_wide_Add_0 F (atI (nth q 0)) (atI (nth q 1)) (atI (nth q 2)) (atI (nth q 3))), .i (o_wide_Add_1 F (atI (nth q 0)) (atI (nth q 1)) (atI (nth q 2)) (atI (nth q 3)))])), (51, spec ti_ref01_Add to_ref01_Add (fun q => (ok_ref01_Add F (atI (nth q 0)) (atI (nth q 1)) (atI (nth q 2)) (atI (nth q 3)))) (fun q => [.i (o_ref01_Add_0 F (atI (nth q 0)) (atI (nth q 1)) (atI (nth q 2)) (atI (nth q 3))), .i (o_ref01_Add_1 F (atI (nth q 0)) (atI (nth q 1)) (atI (nth q 2)) (atI (nth q 3)))])), (44, spec ti_wide_Neg to_wide_Neg (fun q => (ok_wide_Neg F (atI (nth q 0)) (atI (nth q 1)))) (fun q => [.i (o_wide_Neg_0 F (atI (nth q 0)) (atI (nth q 1))), .i (o_wide_Neg_1 F (atI (nth q 0)) (atI (nth q 1)))])), (52, spec ti_ref01_Neg to_ref01_Neg (fun q => (ok_ref01_Neg F (atI (nth q 0)) (atI (nth q 1)))) (fun q => [.i (o_ref01_Neg_0 F (atI (nth q 0)) (atI (nth q 1))), .i (o_ref01_Neg_1 F (atI (nth q 0)) (atI (nth q 1)))])), (53, spec ti_wide_Sign to_wide_Sign (fun q => (ok_wide_Sign F (atI (nth q 0)) (atI (nth q 1)))) (fun q => [.i (o_wide_Sign_0 F (atI (nth q 0)) (atI (nth q 1)))])), (54, spec ti_ref01_Sign to_ref01_Sign (fun q => (ok_ref01_Sign F (atI (nth q 0)) (atI (nth q 1)))) (fun q => [.i (o_ref01_Sign_0 F (atI (nth q 0)) (atI (nth q 1)))])), (55, spec ti_wide_Less to_wide_Less (fun q => (ok_wide_Less F (atI (nth q 0)) (atI (nth q 1)) (atI (nth q 2)) (atI (nth q 3)))) (fun q => [.b (o_wide_Less_0 F (atI (nth q 0)) (atI (nth q 1)) (atI (nth q 2)) (atI (nth q 3)))])), (56, spec ti_ref01_Less to_ref01_Less (fun q => (ok_ref01_Less F (atI (nth q 0)) (atI (nth q 1)) (atI (nth q 2)) (atI (nth q 3)))) (fun q => [.b (o_ref01_Less_0 F (atI (nth q 0)) (atI (nth q 1)) (atI (nth q 2)) (atI (nth q 3)))])), (57, spec ti_wide_Of to_wide_Of (fun q => (ok_wide_Of F (atI (nth q 0)))) (fun q => [.i (o_wide_Of_0 F (atI (nth q 0))), .i (o_wide_Of_1 F (atI (nth q 0)))])), (58, spec ti_ref01_Of to_ref01_Of (fun q => (ok_ref01_Of F (atI (nth q 0)))) (fun q => [.i (o_ref01_Of_0 F (atI (nth q 0))), .i (o_ref01_Of_1 F (atI (nth q 0)))])), (42, spec ti_law01_works to_law01_works (fun q => (ok_law01_works F )) (fun q => [.b (o_law01_works_0 F )]))]) c_law01_WideAdds (tabI c_law01_WideAdds []) 10 (fTs ti_law01_WideAdds [.i a0, .i a1, .i a2, .i a3, .i a4]).1 = (
  bif (ok_wide_Add F a0 a1 a2 a3) then (
    bif (ok_ref01_Add F a0 a1 a2 a3) then (
      bif (((((o_wide_Add_0 F a0 a1 a2 a3)) == ((o_ref01_Add_0 F a0 a1 a2 a3))) && (((o_wide_Add_1 F a0 a1 a2 a3)) == ((o_ref01_Add_1 F a0 a1 a2 a3))))) then (
        bif (ok_wide_Neg F a0 a1) then (
          bif (ok_ref01_Neg F a0 a1) then (
            bif (((((o_wide_Neg_0 F a0 a1)) == ((o_ref01_Neg_0 F a0 a1))) && (((o_wide_Neg_1 F a0 a1)) == ((o_ref01_Neg_1 F a0 a1))))) then (
              bif (ok_wide_Sign F a0 a1) then (
                bif (ok_ref01_Sign F a0 a1) then (
                  bif ((((o_wide_Sign_0 F a0 a1)) == ((o_ref01_Sign_0 F a0 a1)))) then (
                    bif (ok_wide_Less F a0 a1 a2 a3) then (
                      bif (ok_ref01_Less F a0 a1 a2 a3) then (
                        bif ((((o_wide_Less_0 F a0 a1 a2 a3)) == ((o_ref01_Less_0 F a0 a1 a2 a3)))) then (
                          bif (ok_wide_Of F a4) then (
                            bif (ok_ref01_Of F a4) then (
                              bif (((((o_wide_Of_0 F a4)) == ((o_ref01_Of_0 F a4))) && (((o_wide_Of_1 F a4)) == ((o_ref01_Of_1 F a4))))) then (
                                bif (ok_law01_works F) then (
                                  some (.v (.bool ((o_law01_works_0 F)))))
                                else (
                                  none))
                              else (
                                some (.v (.bool false))))
                            else (
                              none))
                          else (
                            none))
                        else (
                          some (.v (.bool false))))
                      else (
                        none))
                    else (
                      none))
                  else (
                    some (.v (.bool false))))
                else (
                  none))
              else (
                none))
            else (
              some (.v (.bool false))))
          else (
            none))
        else (
          none))
      else (
        some (.v (.bool false))))
    else (
      none))
  else (
    none) : R) := by
    intros
    kernel_rfl
  exact (h ok_wide_Add o_wide_Add_0 o_wide_Add_1 ok_ref01_Add o_ref01_Add_0 o_ref01_Add_1 ok_wide_Neg o_wide_Neg_0 o_wide_Neg_1 ok_ref01_Neg o_ref01_Neg_0 o_ref01_Neg_1 ok_wide_Sign o_wide_Sign_0 ok_ref01_Sign o_ref01_Sign_0 ok_wide_Less o_wide_Less_0 ok_ref01_Less o_ref01_Less_0 ok_wide_Of o_wide_Of_0 o_wide_Of_1 ok_ref01_Of o_ref01_Of_0 o_ref01_Of_1 ok_law01_works o_law01_works_0).trans (by kernel_rfl)
def ok_law01_WideAdds (F : Nat) (a0 : Int) (a1 : Int) (a2 : Int) (a3 : Int) (a4 : Int) : Bool := okT to_law01_WideAdds (f_law01_WideAdds F a0 a1 a2 a3 a4)
def o_law01_WideAdds_0 (F : Nat) (a0 : Int) (a1 : Int) (a2 : Int) (a3 : Int) (a4 : Int) : Bool := atB (nth (outT to_law01_WideAdds (f_law01_WideAdds F a0 a1 a2 a3 a4)) 0)
theorem k_law01_WideAdds (F : Nat) (a0 : Int) (a1 : Int) (a2 : Int) (a3 : Int) (a4 : Int) {z0 : Bool} (h : f_law01_WideAdds F a0 a1 a2 a3 a4 = some (.v (.bool z0))) : ok_law01_WideAdds F a0 a1 a2 a3 a4 = true ∧ o_law01_WideAdds_0 F a0 a1 a2 a3 a4 = z0 := by
  refine ⟨?_, ?_⟩
  · unfold ok_law01_WideAdds; rw [h]; kernel_rfl
  · unfold o_law01_WideAdds_0; rw [h]; kernel_rfl
def s_law01_WideAdds (F : Nat) : List VV → Option (Bool × VV) := spec ti_law01_WideAdds to_law01_WideAdds (fun q => (ok_law01_WideAdds F (atI (nth q 0)) (atI (nth q 1)) (atI (nth q 2)) (atI (nth q 3)) (atI (nth q 4)))) (fun q => [.b (o_law01_WideAdds_0 F (atI (nth q 0)) (atI (nth q 1)) (atI (nth q 2)) (atI (nth q 3)) (atI (nth q 4)))])
theorem hS_law01_WideAdds (F : Nat) : ∀ f, Good PP f (unS (S_law01_WideAdds F f)) := words_good fun p hp => by
  simp only [List.mem_cons, List.not_mem_nil, or_false] at hp
  rcases hp with rfl | rfl | rfl | rfl | rfl | rfl | rfl | rfl | rfl | rfl | rfl
  · exact g_wide_Add F
  · exact g_ref01_Add F
  · exact g_wide_Neg F
  · exact g_ref01_Neg F
  · exact g_wide_Sign F
  · exact g_ref01_Sign F
  · exact g_wide_Less F
  · exact g_ref01_Less F
  · exact g_wide_Of F
  · exact g_ref01_Of F
  · exact g_law01_works F
theorem hl_law01_WideAdds (F : Nat) : ∀ p ∈ loopsIn PP 10, LoopOK PP (S_law01_WideAdds F) c_law01_WideAdds F (I_law01_WideAdds F) p :=
  loops_of [] (by kernel_rfl) all_nil
theorem g_law01_WideAdds (F : Nat) : Good PP 10 (unS (s_law01_WideAdds F)) :=
  fun_spec (hS_law01_WideAdds F) (by kernel_rfl) (by kernel_rfl) (C := c_law01_WideAdds) (F := fun q => (f_law01_WideAdds F (atI (nth q 0)) (atI (nth q 1)) (atI (nth q 2)) (atI (nth q 3)) (atI (nth q 4)))) (fun _ => F) (fun _ => I_law01_WideAdds F) (fun _ => hl_law01_WideAdds F)
    (fun q => (congrArg (funL PP (S_law01_WideAdds F) c_law01_WideAdds (I_law01_WideAdds F) 10) (show (fTs ti_law01_WideAdds q).1 = (fTs ti_law01_WideAdds [.i (atI (nth q 0)), .i (atI (nth q 1)), .i (atI (nth q 2)), .i (atI (nth q 3)), .i (atI (nth q 4))]).1 by kernel_rfl)).trans (e_law01_WideAdds F (atI (nth q 0)) (atI (nth q 1)) (atI (nth q 2)) (atI (nth q 3)) (atI (nth q 4))))
    (fun _ h => (okT_fill h).trans (congrArg some (by kernel_rfl)))

end Go.Xv
namespace Go.Xv
theorem f_WideAdds (F : Nat) (hF : 200 ≤ F) {a b c d n : Int} (ha : I64 a) (hb : U64 b) (hc : I64 c) (hd : U64 d) (hn : I64 n) : f_law01_WideAdds F a b c d n = some (.v (.bool true)) := by
  unfold f_law01_WideAdds
  obtain ⟨h1, h2, h3⟩ := k_wide_Add F _ _ _ _ (f_Add F (a := a) (c := c) hb hd)
  obtain ⟨g1, g2, g3⟩ := k_ref01_Add F _ _ _ _ (f_rAdd F hF (a := a) (c := c) hb hd)
  obtain ⟨i1, i2, i3⟩ := k_wide_Neg F _ _ (f_Neg F ha hb)
  obtain ⟨j1, j2, j3⟩ := k_ref01_Neg F _ _ (f_rNeg F hF (a := a) hb)
  obtain ⟨k1, k2⟩ := k_wide_Sign F _ _ (f_Sign F (a := a) hb)
  obtain ⟨l1, l2⟩ := k_ref01_Sign F _ _ (f_rSign F (a := a) hb)
  obtain ⟨m1, m2⟩ := k_wide_Less F _ _ _ _ (f_Less F (a := a) (c := c) hb hd)
  obtain ⟨n1, n2⟩ := k_ref01_Less F _ _ _ _ (f_rLess F (a := a) (c := c) hb hd)
  obtain ⟨o1, o2, o3⟩ := a_Of F hn
  obtain ⟨p1, p2, p3⟩ := a_rOf F hn
  obtain ⟨w1, w2⟩ := a_works01 F
  refine bp h1 (bp g1 (bp ?_ (bp i1 (bp j1 (bp ?_ (bp k1 (bp l1 (bp ?_ (bp m1 (bp n1 (bp ?_ (bp o1 (bp p1 (bp ?_ (bp w1 ?_)))))))))))))))
  · rw [h2, h3, g2, g3]; simp
  · rw [i2, i3, j2, j3]; simp
  · rw [k2, l2]; simp
  · rw [m2, n2]; simp
  · rw [o2, o3, p2, p3]; simp
  · rw [w2]
end Go.Xv
namespace Go.Proofs.Ytpcblnkllakejaa.wideAdds
open Go.ChangeShapes Go.WideShapes Go.ChangeAt Go.RowKit Go.Xv Go.Proofs.Ytpcblnkllakejaa.base
set_option linter.unusedVariables false
set_option maxRecDepth 100000 in
theorem lifted (os : Os) (started : os.Started) (H : Type) (enc : TypeId × Value → H) :
    ReturnsInHanded {} Try.checked os 10 .any (Rows.wideAddsSpec.pre6 enc Try.prog Try.f10 Rows.wideAddsRow.domain false) (Rows.wideAddsSpec.post enc Try.prog Try.f10 false true false false) := by
  refine returnsInHanded_of_change (C := Try.checked) own started (by kernel_rfl) Try.func10
    (ChangeSpec.witness6 (enc := enc) (C := Try.checked) false ⟨#[], #[.agg #[.int .i64 0, .int .u64 0], .agg #[.int .i64 0, .int .u64 0], .int .i64 0], []⟩ 8 (by kernel_rfl) (by kernel_rfl) (by kernel_rfl) (by kernel_rfl)) ?_
  intro W base args ds gs before hval0 hW hcnd _
  have hval : ∀ (j : Nat) t v, Try.f10.params[j]? = some t → args[j]? = some v → Value.okWide Try.prog W .any base t v := hval0
  have hW' := hW
  obtain ⟨p, q, hA0, hV, rfl, hfz, hnd⟩ := hW
  have hA : DataW.TrodAll enc Try.prog W 0 (fun _ => true) true Try.f10.params.toList args.toList ds p := hA0
  rw [Try.params10] at hA hval
  obtain ⟨v0, vs0, d0, ds0, p0, q0, hargs, rfl, rfl, h0, r0⟩ := trodAll_cons hA
  obtain ⟨v1, vs1, d1, ds1, p1, q1, rfl, rfl, rfl, h1, r1⟩ := trodAll_cons r0
  obtain ⟨v2, vs2, d2, ds2, p2, q2, rfl, rfl, rfl, h2, r2⟩ := trodAll_cons r1
  obtain ⟨rfl, rfl, rfl⟩ := trodAll_nil r2
  obtain rfl : args = #[v0, v1, v2] := by cases args; simp_all
  obtain ⟨l0, rfl, f0⟩ := open_flat (ks := [some .i64, some .u64]) (by kernel_rfl) (by kernel_rfl) (hval 0 49 v0 rfl rfl) h0
  obtain ⟨a0, l0, rfl, wa0, f0⟩ := fitW_some f0
  obtain ⟨a1, l0, rfl, wa1, f0⟩ := fitW_some f0
  obtain rfl := fitW_nil f0
  obtain ⟨l1, rfl, f1⟩ := open_flat (ks := [some .i64, some .u64]) (by kernel_rfl) (by kernel_rfl) (hval 1 49 v1 rfl rfl) h1
  obtain ⟨a2, l1, rfl, wa2, f1⟩ := fitW_some f1
  obtain ⟨a3, l1, rfl, wa3, f1⟩ := fitW_some f1
  obtain rfl := fitW_nil f1
  obtain ⟨a4, rfl, wa4⟩ := open_num (k := .i64) (by kernel_rfl) (hval 2 2 v2 rfl rfl) h2
  refine law_contract laidOut (g_law01_WideAdds fuel0) (bt := 4) (by kernel_rfl) (by kernel_rfl) (by kernel_rfl) (by kernel_rfl) rfl hW' ?_
  refine ⟨[.v (.agg #[.int .i64 a0, .int .u64 a1]), .v (.agg #[.int .i64 a2, .int .u64 a3]), .v (.int .i64 a4)], rfl, fun i x hx => ?_, unS_of ?_⟩
  · match i, hx with
    | 0, hx => exact ⟨_, rfl, by cases hx; exact Rel.v _ _⟩
    | 1, hx => exact ⟨_, rfl, by cases hx; exact Rel.v _ _⟩
    | 2, hx => exact ⟨_, rfl, by cases hx; exact Rel.v _ _⟩
    | _ + 3, hx => cases hx
  · obtain ⟨y1, y2⟩ := k_law01_WideAdds fuel0 a0 a1 a2 a3 a4 (f_WideAdds fuel0 (by unfold fuel0; omega) (wf_i64 wa0) (wf_u64 wa1) (wf_i64 wa2) (wf_u64 wa3) (wf_i64 wa4))
    have e : s_law01_WideAdds fuel0 [.v (.agg #[.int .i64 a0, .int .u64 a1]), .v (.agg #[.int .i64 a2, .int .u64 a3]), .v (.int .i64 a4)] = some (ok_law01_WideAdds fuel0 a0 a1 a2 a3 a4, .v (.bool (o_law01_WideAdds_0 fuel0 a0 a1 a2 a3 a4))) := by kernel_rfl
    rw [e, y1, y2]
theorem over : Rows.wideAddsRow.holds Try.pinned (OpenSpec.ofChange Rows.wideAddsSpec) :=
  OpenClaim.holds_of_wide 10 Try.f10 rfl rfl rfl rfl rfl rfl rfl ⟨rfl, rfl, rfl, rfl, rfl⟩ rfl rfl rfl rfl rfl (by kernel_rfl) Try.func10 (joined_of (P := Try.prog) behind enter_ rfl rfl ⟨rfl, rfl⟩ (by kernel_rfl))
    (of_decide_eq_true (by kernel_rfl)) (by unfold Func.isWrapper; first | (rw [if_pos (by decide +kernel)]; kernel_rfl) | (rw [if_neg (by decide +kernel)]; exact ⟨rfl, rfl⟩))
    (fun os started H enc _ => lifted os started H enc)
/-- The statement. -/
theorem proved : Rows.WideAddsSaid := over
#print axioms proved
end Go.Proofs.Ytpcblnkllakejaa.wideAdds
