/- Short numbers are widened, narrowed, added and multiplied as the document says, saturated where it says so: the law returns true for every input, and leaves its arguments as they were. -/
import Derived.Test.YtpcblnkllakejaaS
import Derived.Test.YtpcblnkllakejaaProg
import Derived.KernelRfl
set_option linter.unusedVariables false
namespace Go.Xv
/- 17 _law03_SmallTells -/
def c_law03_SmallTells : Cfg := ⟨[0, 1, 2, 6, 7, 8, 9, 10, 11, 12, 13, 14, 15, 16, 17, 18, 19, 20, 21, 22], [], []⟩
def ti_law03_SmallTells : List TV := [.v (.int .i32), .v (.int .i32), .v (.int .i64)]
def to_law03_SmallTells : TV := .v (.bool)
def S_law03_SmallTells (F : Nat) : FuncId → List VV → Option (Bool × VV) := words [(38, s_small_Narrow F), (71, s_ref03_Narrow F), (72, s_small_Add F), (73, s_ref03_Add F), (74, s_small_Mul F), (75, s_ref03_Mul F), (76, s_small_Times F), (77, s_ref03_Times F), (39, s_small_Widen F), (78, s_ref03_Widen F), (27, s_law03_works F)]
def W_law03_SmallTells (F : Nat) : List LW := []
def I_law03_SmallTells (F : Nat) : Nat → VS → (Exit → VS → R) → R := tabI c_law03_SmallTells (W_law03_SmallTells F)
def f_law03_SmallTells (F : Nat) (a0 : Int) (a1 : Int) (a2 : Int) : R :=
  bif (ok_small_Narrow F a2) then (
    bif (ok_ref03_Narrow F a2) then (
      bif (ok_small_Add F a0 a1) then (
        bif (ok_ref03_Add F a0 a1) then (
          bif (ok_small_Mul F a0 a1) then (
            bif (ok_ref03_Mul F a0 a1) then (
              bif (ok_small_Times F a0 a2) then (
                bif (ok_ref03_Times F a0 a2) then (
                  bif (ok_small_Widen F a0) then (
                    bif (ok_ref03_Widen F a0) then (
                      bif ((((o_small_Widen_0 F a0)) == ((o_ref03_Widen_0 F a0)))) then (
                        bif ((((o_small_Narrow_0 F a2)) == ((o_ref03_Narrow_0 F a2)))) then (
                          bif ((((o_small_Narrow_1 F a2)) == ((o_ref03_Narrow_1 F a2)))) then (
                            bif ((((o_small_Add_0 F a0 a1)) == ((o_ref03_Add_0 F a0 a1)))) then (
                              bif ((((o_small_Add_1 F a0 a1)) == ((o_ref03_Add_1 F a0 a1)))) then (
                                bif ((((o_small_Mul_0 F a0 a1)) == ((o_ref03_Mul_0 F a0 a1)))) then (
                                  bif ((((o_small_Mul_1 F a0 a1)) == ((o_ref03_Mul_1 F a0 a1)))) then (
                                    bif ((((o_small_Times_0 F a0 a2)) == ((o_ref03_Times_0 F a0 a2)))) then (
                                      bif ((((o_small_Times_1 F a0 a2)) == ((o_ref03_Times_1 F a0 a2)))) then (
                                        bif (ok_law03_works F) then (
                                          some (.v (.bool ((o_law03_works_0 F)))))
                                        else (
                                          none))
                                      else (
                                        some (.v (.bool false))))
                                    else (
                                      some (.v (.bool false))))
                                  else (
                                    some (.v (.bool false))))
                                else (
                                  some (.v (.bool false))))
                              else (
                                some (.v (.bool false))))
                            else (
                              some (.v (.bool false))))
                          else (
                            some (.v (.bool false))))
                        else (
                          some (.v (.bool false))))
                      else (
                        some (.v (.bool false))))
                    else (
                      none))
                  else (
                    none))
                else (
                  none))
              else (
                none))
            else (
              none))
          else (
            none))
        else (
          none))
      else (
        none))
    else (
      none))
  else (
    none)
theorem e_law03_SmallTells (F : Nat) (a0 : Int) (a1 : Int) (a2 : Int) : funL PP (S_law03_SmallTells F) c_law03_SmallTells (I_law03_SmallTells F) 17 (fTs ti_law03_SmallTells [.i a0, .i a1, .i a2]).1 = f_law03_SmallTells F a0 a1 a2 := by
  have h : ∀ (ok_small_Narrow : Nat → Int → Bool) (o_small_Narrow_0 : Nat → Int → Int) (o_small_Narrow_1 : Nat → Int → Bool) (ok_ref03_Narrow : Nat → Int → Bool) (o_ref03_Narrow_0 : Nat → Int → Int) (o_ref03_Narrow_1 : Nat → Int → Bool) (ok_small_Add : Nat → Int → Int → Bool) (o_small_Add_0 : Nat → Int → Int → Int) (o_small_Add_1 : Nat → Int → Int → Bool) (ok_ref03_Add : Nat → Int → Int → Bool) (o_ref03_Add_0 : Nat → Int → Int → Int) (o_ref03_Add_1 : Nat → Int → Int → Bool) (ok_small_Mul : Nat → Int → Int → Bool) (o_small_Mul_0 : Nat → Int → Int → Int) (o_small_Mul_1 : Nat → Int → Int → Bool) (ok_ref03_Mul : Nat → Int → Int → Bool) (o_ref03_Mul_0 : Nat → Int → Int → Int) (o_ref03_Mul_1 : Nat → Int → Int → Bool) (ok_small_Times : Nat → Int → Int → Bool) (o_small_Times_0 : Nat → Int → Int → Int) (o_small_Times_1 : Nat → Int → Int → Bool) (ok_ref03_Times : Nat → Int → Int → Bool) (o_ref03_Times_0 : Nat → Int → Int → Int) (o_ref03_Times_1 : Nat → Int → Int → Bool) (ok_small_Widen : Nat → Int → Bool) (o_small_Widen_0 : Nat → Int → Int) (ok_ref03_Widen : Nat → Int → Bool) (o_ref03_Widen_0 : Nat → Int → Int) (ok_law03_works : Nat → Bool) (o_law03_works_0 : Nat → Bool), funL PP (words [(38, spec ti_small_Narrow to_small_Narrow (fun q => (ok_small_Narrow F (atI (nth q 0)))) (fun q => [.i (o_small_Narrow_0 F (atI (nth q 0))), .b (o_small_Narrow_1 F (atI (nth q 0)))])), (71, spec ti_ref03_Narrow to_ref03_Narrow (fun q => (ok_ref03_Narrow F (atI (nth q 0)))) (fun q => [.i (o_ref03_Narrow_0 F (atI (nth q 0))), .b (o_ref03_Narrow_1 F (atI (nth q 0)))])), (72, spec ti_small_Add to_small_Add (fun q => (ok_small_Add F (atI (nth q 0)) (atI (nth q 1)))) (fun q => [.i (o_small_Add_0 F (atI (nth q 0)) (atI (nth q 1))), .b (o_small_Add_1 F (atI (nth q 0)) (atI (nth q 1)))])), (73, spec ti_ref03_Add to_ref03_Add (fun q => (ok_ref03_Add F (atI (nth q 0)) (atI (nth q 1)))) (fun q => [.i (o_ref03_Add_0 F (atI (nth q 0)) (atI (nth q 1))), .b (o_ref03_Add_1 F (atI (nth q 0)) (atI (nth q 1)))])), (74, spec ti_small_Mul to_small_Mul (fun q => (ok_small_Mul F (atI (nth q 0)) (atI (nth q 1)))) (fun q => [.i (o_small_Mul_0 F (atI (nth q 0)) (atI (nth q 1))), .b (o_small_Mul_1 F (atI (nth q 0)) (atI (nth q 1)))])), (75, spec ti_ref03_Mul to_ref03_Mul (fun q => (ok_ref03_Mul F (atI (nth q 0)) (atI (nth q 1)))) (fun q => [.i (o_ref03_Mul_0 F (atI (nth q 0)) (atI (nth q 1))), .b (o_ref03_Mul_1 F (atI (nth q 0)) (atI (nth q 1)))])), (76, spec ti_small_Times to_small_Times (fun q => (ok_small_Times F (atI (nth q 0)) (atI (nth q 1)))) (fun q => [.i (o_small_Times_0 F (atI (nth q 0)) (atI (nth q 1))), .b (o_small_Times_1 F (atI (nth q 0)) (atI (nth q 1)))])), (77, spec ti_ref03_Times to_ref03_Times (fun q => (ok_ref03_Times F (atI (nth q 0)) (atI (nth q 1)))) (fun q => [.i (o_ref03_Times_0 F (atI (nth q 0)) (atI (nth q 1))), .b (o_ref03_Times_1 F (atI (nth q 0)) (atI (nth q 1)))])), (39, spec ti_small_Widen to_small_Widen (fun q => (ok_small_Widen F (atI (nth q 0)))) (fun q => [.i (o_small_Widen_0 F (atI (nth q 0)))])), (78, spec ti_ref03_Widen to_ref03_Widen (fun q => (ok_ref03_Widen F (atI (nth q 0)))) (fun q => [.i (o_ref03_Widen_0 F (atI (nth q 0)))])), (27, spec ti_law03_works to_law03_works (fun q => (ok_law03_works F )) (fun q => [.b (o_law03_works_0 F )]))]) c_law03_SmallTells (tabI c_law03_SmallTells []) 17 (fTs ti_law03_SmallTells [.i a0, .i a1, .i a2]).1 = (
  bif (ok_small_Narrow F a2) then (
    bif (ok_ref03_Narrow F a2) then (
      bif (ok_small_Add F a0 a1) then (
        bif (ok_ref03_Add F a0 a1) then (
          bif (ok_small_Mul F a0 a1) then (
            bif (ok_ref03_Mul F a0 a1) then (
              bif (ok_small_Times F a0 a2) then (
                bif (ok_ref03_Times F a0 a2) then (
                  bif (ok_small_Widen F a0) then (
                    bif (ok_ref03_Widen F a0) then (
                      bif ((((o_small_Widen_0 F a0)) == ((o_ref03_Widen_0 F a0)))) then (
                        bif ((((o_small_Narrow_0 F a2)) == ((o_ref03_Narrow_0 F a2)))) then (
                          bif ((((o_small_Narrow_1 F a2)) == ((o_ref03_Narrow_1 F a2)))) then (
                            bif ((((o_small_Add_0 F a0 a1)) == ((o_ref03_Add_0 F a0 a1)))) then (
                              bif ((((o_small_Add_1 F a0 a1)) == ((o_ref03_Add_1 F a0 a1)))) then (
                                bif ((((o_small_Mul_0 F a0 a1)) == ((o_ref03_Mul_0 F a0 a1)))) then (
                                  bif ((((o_small_Mul_1 F a0 a1)) == ((o_ref03_Mul_1 F a0 a1)))) then (
                                    bif ((((o_small_Times_0 F a0 a2)) == ((o_ref03_Times_0 F a0 a2)))) then (
                                      bif ((((o_small_Times_1 F a0 a2)) == ((o_ref03_Times_1 F a0 a2)))) then (
                                        bif (ok_law03_works F) then (
                                          some (.v (.bool ((o_law03_works_0 F)))))
                                        else (
                                          none))
                                      else (
                                        some (.v (.bool false))))
                                    else (
                                      some (.v (.bool false))))
                                  else (
                                    some (.v (.bool false))))
                                else (
                                  some (.v (.bool false))))
                              else (
                                some (.v (.bool false))))
                            else (
                              some (.v (.bool false))))
                          else (
                            some (.v (.bool false))))
                        else (
                          some (.v (.bool false))))
                      else (
                        some (.v (.bool false))))
                    else (
                      none))
                  else (
                    none))
                else (
                  none))
              else (
                none))
            else (
              none))
          else (
            none))
        else (
          none))
      else (
        none))
    else (
      none))
  else (
    none) : R) := by
    intros
    kernel_rfl
  exact (h ok_small_Narrow o_small_Narrow_0 o_small_Narrow_1 ok_ref03_Narrow o_ref03_Narrow_0 o_ref03_Narrow_1 ok_small_Add o_small_Add_0 o_small_Add_1 ok_ref03_Add o_ref03_Add_0 o_ref03_Add_1 ok_small_Mul o_small_Mul_0 o_small_Mul_1 ok_ref03_Mul o_ref03_Mul_0 o_ref03_Mul_1 ok_small_Times o_small_Times_0 o_small_Times_1 ok_ref03_Times o_ref03_Times_0 o_ref03_Times_1 ok_small_Widen o_small_Widen_0 ok_ref03_Widen o_ref03_Widen_0 ok_law03_works o_law03_works_0).trans (by kernel_rfl)
def ok_law03_SmallTells (F : Nat) (a0 : Int) (a1 : Int) (a2 : Int) : Bool := okT to_law03_SmallTells (f_law03_SmallTells F a0 a1 a2)
def o_law03_SmallTells_0 (F : Nat) (a0 : Int) (a1 : Int) (a2 : Int) : Bool := atB (nth (outT to_law03_SmallTells (f_law03_SmallTells F a0 a1 a2)) 0)
theorem k_law03_SmallTells (F : Nat) (a0 : Int) (a1 : Int) (a2 : Int) {z0 : Bool} (h : f_law03_SmallTells F a0 a1 a2 = some (.v (.bool z0))) : ok_law03_SmallTells F a0 a1 a2 = true ∧ o_law03_SmallTells_0 F a0 a1 a2 = z0 := by
  refine ⟨?_, ?_⟩
  · unfold ok_law03_SmallTells; rw [h]; kernel_rfl
  · unfold o_law03_SmallTells_0; rw [h]; kernel_rfl
def s_law03_SmallTells (F : Nat) : List VV → Option (Bool × VV) := spec ti_law03_SmallTells to_law03_SmallTells (fun q => (ok_law03_SmallTells F (atI (nth q 0)) (atI (nth q 1)) (atI (nth q 2)))) (fun q => [.b (o_law03_SmallTells_0 F (atI (nth q 0)) (atI (nth q 1)) (atI (nth q 2)))])
theorem hS_law03_SmallTells (F : Nat) : ∀ f, Good PP f (unS (S_law03_SmallTells F f)) := words_good fun p hp => by
  simp only [List.mem_cons, List.not_mem_nil, or_false] at hp
  rcases hp with rfl | rfl | rfl | rfl | rfl | rfl | rfl | rfl | rfl | rfl | rfl
  · exact g_small_Narrow F
  · exact g_ref03_Narrow F
  · exact g_small_Add F
  · exact g_ref03_Add F
  · exact g_small_Mul F
  · exact g_ref03_Mul F
  · exact g_small_Times F
  · exact g_ref03_Times F
  · exact g_small_Widen F
  · exact g_ref03_Widen F
  · exact g_law03_works F
theorem hl_law03_SmallTells (F : Nat) : ∀ p ∈ loopsIn PP 17, LoopOK PP (S_law03_SmallTells F) c_law03_SmallTells F (I_law03_SmallTells F) p :=
  loops_of [] (by kernel_rfl) all_nil
theorem g_law03_SmallTells (F : Nat) : Good PP 17 (unS (s_law03_SmallTells F)) :=
  fun_spec (hS_law03_SmallTells F) (by kernel_rfl) (by kernel_rfl) (C := c_law03_SmallTells) (F := fun q => (f_law03_SmallTells F (atI (nth q 0)) (atI (nth q 1)) (atI (nth q 2)))) (fun _ => F) (fun _ => I_law03_SmallTells F) (fun _ => hl_law03_SmallTells F)
    (fun q => (congrArg (funL PP (S_law03_SmallTells F) c_law03_SmallTells (I_law03_SmallTells F) 17) (show (fTs ti_law03_SmallTells q).1 = (fTs ti_law03_SmallTells [.i (atI (nth q 0)), .i (atI (nth q 1)), .i (atI (nth q 2))]).1 by kernel_rfl)).trans (e_law03_SmallTells F (atI (nth q 0)) (atI (nth q 1)) (atI (nth q 2))))
    (fun _ h => (okT_fill h).trans (congrArg some (by kernel_rfl)))

end Go.Xv
namespace Go.Xv
theorem f_SmallTells (F : Nat) (hF : 200 ≤ F) {a b c : Int} (ha : I32 a) (hb : I32 b) (hc : I64 c) : f_law03_SmallTells F a b c = some (.v (.bool true)) := by
  unfold f_law03_SmallTells
  obtain ⟨h1, h2, h3⟩ := a_Narrow F hc
  obtain ⟨g1, g2, g3⟩ := k_ref03_Narrow F _ (f_rNarrow F hF hc)
  obtain ⟨i1, i2, i3⟩ := k_small_Add F _ _ (f_sAdd F ha hb)
  obtain ⟨j1, j2, j3⟩ := k_ref03_Add F _ _ (f_r3Add F ha hb)
  obtain ⟨k1, k2, k3⟩ := k_small_Mul F _ _ (f_sMul F ha hb)
  obtain ⟨l1, l2, l3⟩ := k_ref03_Mul F _ _ (f_r3Mul F hF ha hb)
  obtain ⟨m1, m2, m3⟩ := k_small_Times F _ _ (f_sTimes F ha hc)
  obtain ⟨n1, n2, n3⟩ := k_ref03_Times F _ _ (f_r3Times F hF ha hc)
  obtain ⟨o1, o2⟩ := a_Widen F ha
  obtain ⟨p1, p2⟩ := k_ref03_Widen F _ (f_rWiden F ha)
  obtain ⟨w1, w2⟩ := a_works03 F
  simp only [h1, h2, h3, g1, g2, g3, i1, i2, i3, j1, j2, j3, k1, k2, k3, l1, l2, l3, m1, m2, m3, n1, n2, n3, o1, o2, p1, p2, w1, w2, BEq.rfl, cond_true]
end Go.Xv
namespace Go.Proofs.Ytpcblnkllakejaa.smallTells
open Go.ChangeShapes Go.WideShapes Go.ChangeAt Go.RowKit Go.Xv Go.Proofs.Ytpcblnkllakejaa.base
set_option linter.unusedVariables false
set_option maxRecDepth 100000 in
theorem lifted (os : Os) (started : os.Started) (H : Type) (enc : TypeId × Value → H) :
    ReturnsInHanded {} Try.checked os 17 .any (Rows.smallTellsSpec.pre6 enc Try.prog Try.f17 Rows.smallTellsRow.domain false) (Rows.smallTellsSpec.post enc Try.prog Try.f17 false true false false) := by
  refine returnsInHanded_of_change (C := Try.checked) own started (by kernel_rfl) Try.func17
    (ChangeSpec.witness6 (enc := enc) (C := Try.checked) false ⟨#[], #[.int .i32 0, .int .i32 0, .int .i64 0], []⟩ 8 (by kernel_rfl) (by kernel_rfl) (by kernel_rfl) (by kernel_rfl)) ?_
  intro W base args ds gs before hval0 hW hcnd _
  have hval : ∀ (j : Nat) t v, Try.f17.params[j]? = some t → args[j]? = some v → Value.okWide Try.prog W .any base t v := hval0
  have hW' := hW
  obtain ⟨p, q, hA0, hV, rfl, hfz, hnd⟩ := hW
  have hA : DataW.TrodAll enc Try.prog W 0 (fun _ => true) true Try.f17.params.toList args.toList ds p := hA0
  rw [Try.params17] at hA hval
  obtain ⟨v0, vs0, d0, ds0, p0, q0, hargs, rfl, rfl, h0, r0⟩ := trodAll_cons hA
  obtain ⟨v1, vs1, d1, ds1, p1, q1, rfl, rfl, rfl, h1, r1⟩ := trodAll_cons r0
  obtain ⟨v2, vs2, d2, ds2, p2, q2, rfl, rfl, rfl, h2, r2⟩ := trodAll_cons r1
  obtain ⟨rfl, rfl, rfl⟩ := trodAll_nil r2
  obtain rfl : args = #[v0, v1, v2] := by cases args; simp_all
  obtain ⟨a0, rfl, wa0⟩ := open_num (k := .i32) (by kernel_rfl) (hval 0 22 v0 rfl rfl) h0
  obtain ⟨a1, rfl, wa1⟩ := open_num (k := .i32) (by kernel_rfl) (hval 1 22 v1 rfl rfl) h1
  obtain ⟨a2, rfl, wa2⟩ := open_num (k := .i64) (by kernel_rfl) (hval 2 27 v2 rfl rfl) h2
  refine law_contract laidOut (g_law03_SmallTells fuel0) (bt := 4) (by kernel_rfl) (by kernel_rfl) (by kernel_rfl) (by kernel_rfl) rfl hW' ?_
  refine ⟨[.v (.int .i32 a0), .v (.int .i32 a1), .v (.int .i64 a2)], rfl, fun i x hx => ?_, unS_of ?_⟩
  · match i, hx with
    | 0, hx => exact ⟨_, rfl, by cases hx; exact Rel.v _ _⟩
    | 1, hx => exact ⟨_, rfl, by cases hx; exact Rel.v _ _⟩
    | 2, hx => exact ⟨_, rfl, by cases hx; exact Rel.v _ _⟩
    | _ + 3, hx => cases hx
  · obtain ⟨y1, y2⟩ := k_law03_SmallTells fuel0 a0 a1 a2 (f_SmallTells fuel0 (by unfold fuel0; omega) (wf_i32 wa0) (wf_i32 wa1) (wf_i64 wa2))
    have e : s_law03_SmallTells fuel0 [.v (.int .i32 a0), .v (.int .i32 a1), .v (.int .i64 a2)] = some (ok_law03_SmallTells fuel0 a0 a1 a2, .v (.bool (o_law03_SmallTells_0 fuel0 a0 a1 a2))) := by kernel_rfl
    rw [e, y1, y2]
theorem over : Rows.smallTellsRow.holds Try.pinned (OpenSpec.ofChange Rows.smallTellsSpec) :=
  OpenClaim.holds_of_wide 17 Try.f17 rfl rfl rfl rfl rfl rfl rfl ⟨rfl, rfl, rfl, rfl, rfl⟩ rfl rfl rfl rfl rfl (by kernel_rfl) Try.func17 (joined_of (P := Try.prog) behind enter_ rfl rfl ⟨rfl, rfl⟩ (by kernel_rfl))
    (of_decide_eq_true (by kernel_rfl)) (by unfold Func.isWrapper; first | (rw [if_pos (by decide +kernel)]; kernel_rfl) | (rw [if_neg (by decide +kernel)]; exact ⟨rfl, rfl⟩))
    (fun os started H enc _ => lifted os started H enc)
/-- The statement. -/
theorem proved : Rows.SmallTellsSaid := over
#print axioms proved
end Go.Proofs.Ytpcblnkllakejaa.smallTells
