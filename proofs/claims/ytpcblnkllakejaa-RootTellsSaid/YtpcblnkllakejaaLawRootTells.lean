/- Any number's root, and square, is as the document says: the law returns true for every input, and leaves its arguments as they were. -/
import Derived.Test.YtpcblnkllakejaaR
import Derived.Test.YtpcblnkllakejaaProg
import Derived.KernelRfl
set_option linter.unusedVariables false
namespace Go.Xv
/- 12 _law04_RootTells -/
def c_law04_RootTells : Cfg := ⟨[0, 1, 2, 4, 6, 7, 8, 9, 10, 11, 12, 13, 14], [], []⟩
def ti_law04_RootTells : List TV := [.v (.int .u64), .v (.agg [.int .i64, .int .u64]), .v (.int .i64)]
def to_law04_RootTells : TV := .v (.bool)
def S_law04_RootTells (F : Nat) : FuncId → List VV → Option (Bool × VV) := words [(59, s_root_Wide F), (60, s_ref04_Wide F), (61, s_root_Fix F), (62, s_ref04_Fix F), (63, s_root_Of F), (64, s_ref04_Of F), (65, s_root_Square F), (66, s_ref04_Square F), (67, s_law04_works F)]
def W_law04_RootTells (F : Nat) : List LW := []
def I_law04_RootTells (F : Nat) : Nat → VS → (Exit → VS → R) → R := tabI c_law04_RootTells (W_law04_RootTells F)
def f_law04_RootTells (F : Nat) (a0 : Int) (a1 : Int) (a2 : Int) (a3 : Int) : R :=
  bif (ok_root_Wide F a1 a2) then (
    bif (ok_ref04_Wide F a1 a2) then (
      bif (ok_root_Fix F a3) then (
        bif (ok_ref04_Fix F a3) then (
          bif (ok_root_Of F a0) then (
            bif (ok_ref04_Of F a0) then (
              bif ((((o_root_Of_0 F a0)) == ((o_ref04_Of_0 F a0)))) then (
                bif (ok_root_Square F a0) then (
                  bif (ok_ref04_Square F a0) then (
                    bif (((((o_root_Square_0 F a0)) == ((o_ref04_Square_0 F a0))) && (((o_root_Square_1 F a0)) == ((o_ref04_Square_1 F a0))))) then (
                      bif ((((o_root_Wide_0 F a1 a2)) == ((o_ref04_Wide_0 F a1 a2)))) then (
                        bif ((((o_root_Wide_1 F a1 a2)) == ((o_ref04_Wide_1 F a1 a2)))) then (
                          bif ((((o_root_Fix_0 F a3)) == ((o_ref04_Fix_0 F a3)))) then (
                            bif ((((o_root_Fix_1 F a3)) == ((o_ref04_Fix_1 F a3)))) then (
                              bif (ok_law04_works F) then (
                                some (.v (.bool ((o_law04_works_0 F)))))
                              else (
                                none))
                            else (
                              some (.v (.bool false))))
                          else (
                            some (.v (.bool false))))
                        else (
                          some (.v (.bool false))))
                      else (
                        some (.v (.bool false))))
                    else (
                      some (.v (.bool false))))
                  else (
                    none))
                else (
                  none))
              else (
                some (.v (.bool false))))
            else (
              none))
          else (
            none))
        else (
          none))
      else (
        none))
    else (
      none))
  else (
    none)
theorem e_law04_RootTells (F : Nat) (a0 : Int) (a1 : Int) (a2 : Int) (a3 : Int) : funL PP (S_law04_RootTells F) c_law04_RootTells (I_law04_RootTells F) 12 (fTs ti_law04_RootTells [.i a0, .i a1, .i a2, .i a3]).1 = f_law04_RootTells F a0 a1 a2 a3 := by
  have h : ∀ (ok_root_Wide : Nat → Int → Int → Bool) (o_root_Wide_0 : Nat → Int → Int → Int) (o_root_Wide_1 : Nat → Int → Int → Bool) (ok_ref04_Wide : Nat → Int → Int → Bool) (o_ref04_Wide_0 : Nat → Int → Int → Int) (o_ref04_Wide_1 : Nat → Int → Int → Bool) (ok_root_Fix : Nat → Int → Bool) (o_root_Fix_0 : Nat → Int → Int) (o_root_Fix_1 : Nat → Int → Bool) (ok_ref04_Fix : Nat → Int → Bool) (o_ref04_Fix_0 : Nat → Int → Int) (o_ref04_Fix_1 : Nat → Int → Bool) (ok_root_Of : Nat → Int → Bool) (o_root_Of_0 : Nat → Int → Int) (ok_ref04_Of : Nat → Int → Bool) (o_ref04_Of_0 : Nat → Int → Int) (ok_root_Square : Nat → Int → Bool) (o_root_Square_0 : Nat → Int → Int) (o_root_Square_1 : Nat → Int → Int) (ok_ref04_Square : Nat → Int → Bool) (o_ref04_Square_0 : Nat → Int → Int) (o_ref04_Square_1 : Nat → Int → Int) (ok_law04_works : Nat → Bool) (o_law04_works_0 : Nat → Bool), funL PP (words [(59, spec ti_root_Wide to_root_Wide (fun q => (ok_root_Wide F (atI (nth q 0)) (atI (nth q 1)))) (fun q => [.i (o_root_Wide_0 F (atI (nth q 0)) (atI (nth q 1))), .b (o_root_Wide_1 F (atI (nth q 0)) (atI (nth q 1)))])), (60, spec ti_ref04_Wide to_ref04_Wide (fun q => (ok_ref04_Wide F (atI (nth q 0)) (atI (nth q 1)))) (fun q => [.i (o_ref04_Wide_0 F (atI (nth q 0)) (atI (nth q 1))), .b (o_ref04_Wide_1 F (atI (nth q 0)) (atI (nth q 1)))])), (61, spec ti_root_Fix to_root_Fix (fun q => (ok_root_Fix F (atI (nth q 0)))) (fun q => [.i (o_root_Fix_0 F (atI (nth q 0))), .b (o_root_Fix_1 F (atI (nth q 0)))])), (62, spec ti_ref04_Fix to_ref04_Fix (fun q => (ok_ref04_Fix F (atI (nth q 0)))) (fun q => [.i (o_ref04_Fix_0 F (atI (nth q 0))), .b (o_ref04_Fix_1 F (atI (nth q 0)))])), (63, spec ti_root_Of to_root_Of (fun q => (ok_root_Of F (atI (nth q 0)))) (fun q => [.i (o_root_Of_0 F (atI (nth q 0)))])), (64, spec ti_ref04_Of to_ref04_Of (fun q => (ok_ref04_Of F (atI (nth q 0)))) (fun q => [.i (o_ref04_Of_0 F (atI (nth q 0)))])), (65, spec ti_root_Square to_root_Square (fun q => (ok_root_Square F (atI (nth q 0)))) (fun q => [.i (o_root_Square_0 F (atI (nth q 0))), .i (o_root_Square_1 F (atI (nth q 0)))])), (66, spec ti_ref04_Square to_ref04_Square (fun q => (ok_ref04_Square F (atI (nth q 0)))) (fun q => [.i (o_ref04_Square_0 F (atI (nth q 0))), .i (o_ref04_Square_1 F (atI (nth q 0)))])), (67, spec ti_law04_works to_law04_works (fun q => (ok_law04_works F )) (fun q => [.b (o_law04_works_0 F )]))]) c_law04_RootTells (tabI c_law04_RootTells []) 12 (fTs ti_law04_RootTells [.i a0, .i a1, .i a2, .i a3]).1 = (
  bif (ok_root_Wide F a1 a2) then (
    bif (ok_ref04_Wide F a1 a2) then (
      bif (ok_root_Fix F a3) then (
        bif (ok_ref04_Fix F a3) then (
          bif (ok_root_Of F a0) then (
            bif (ok_ref04_Of F a0) then (
              bif ((((o_root_Of_0 F a0)) == ((o_ref04_Of_0 F a0)))) then (
                bif (ok_root_Square F a0) then (
                  bif (ok_ref04_Square F a0) then (
                    bif (((((o_root_Square_0 F a0)) == ((o_ref04_Square_0 F a0))) && (((o_root_Square_1 F a0)) == ((o_ref04_Square_1 F a0))))) then (
                      bif ((((o_root_Wide_0 F a1 a2)) == ((o_ref04_Wide_0 F a1 a2)))) then (
                        bif ((((o_root_Wide_1 F a1 a2)) == ((o_ref04_Wide_1 F a1 a2)))) then (
                          bif ((((o_root_Fix_0 F a3)) == ((o_ref04_Fix_0 F a3)))) then (
                            bif ((((o_root_Fix_1 F a3)) == ((o_ref04_Fix_1 F a3)))) then (
                              bif (ok_law04_works F) then (
                                some (.v (.bool ((o_law04_works_0 F)))))
                              else (
                                none))
                            else (
                              some (.v (.bool false))))
                          else (
                            some (.v (.bool false))))
                        else (
                          some (.v (.bool false))))
                      else (
                        some (.v (.bool false))))
                    else (
                      some (.v (.bool false))))
                  else (
                    none))
                else (
                  none))
              else (
                some (.v (.bool false))))
            else (
              none))
          else (
            none))
        else (
          none))
      else (
        none))
    else (
      none))
  else (
    none) : R) := by
    intros
    kernel_rfl
  exact (h ok_root_Wide o_root_Wide_0 o_root_Wide_1 ok_ref04_Wide o_ref04_Wide_0 o_ref04_Wide_1 ok_root_Fix o_root_Fix_0 o_root_Fix_1 ok_ref04_Fix o_ref04_Fix_0 o_ref04_Fix_1 ok_root_Of o_root_Of_0 ok_ref04_Of o_ref04_Of_0 ok_root_Square o_root_Square_0 o_root_Square_1 ok_ref04_Square o_ref04_Square_0 o_ref04_Square_1 ok_law04_works o_law04_works_0).trans (by kernel_rfl)
def ok_law04_RootTells (F : Nat) (a0 : Int) (a1 : Int) (a2 : Int) (a3 : Int) : Bool := okT to_law04_RootTells (f_law04_RootTells F a0 a1 a2 a3)
def o_law04_RootTells_0 (F : Nat) (a0 : Int) (a1 : Int) (a2 : Int) (a3 : Int) : Bool := atB (nth (outT to_law04_RootTells (f_law04_RootTells F a0 a1 a2 a3)) 0)
theorem k_law04_RootTells (F : Nat) (a0 : Int) (a1 : Int) (a2 : Int) (a3 : Int) {z0 : Bool} (h : f_law04_RootTells F a0 a1 a2 a3 = some (.v (.bool z0))) : ok_law04_RootTells F a0 a1 a2 a3 = true ∧ o_law04_RootTells_0 F a0 a1 a2 a3 = z0 := by
  refine ⟨?_, ?_⟩
  · unfold ok_law04_RootTells; rw [h]; kernel_rfl
  · unfold o_law04_RootTells_0; rw [h]; kernel_rfl
def s_law04_RootTells (F : Nat) : List VV → Option (Bool × VV) := spec ti_law04_RootTells to_law04_RootTells (fun q => (ok_law04_RootTells F (atI (nth q 0)) (atI (nth q 1)) (atI (nth q 2)) (atI (nth q 3)))) (fun q => [.b (o_law04_RootTells_0 F (atI (nth q 0)) (atI (nth q 1)) (atI (nth q 2)) (atI (nth q 3)))])
theorem hS_law04_RootTells (F : Nat) : ∀ f, Good PP f (unS (S_law04_RootTells F f)) := words_good fun p hp => by
  simp only [List.mem_cons, List.not_mem_nil, or_false] at hp
  rcases hp with rfl | rfl | rfl | rfl | rfl | rfl | rfl | rfl | rfl
  · exact g_root_Wide F
  · exact g_ref04_Wide F
  · exact g_root_Fix F
  · exact g_ref04_Fix F
  · exact g_root_Of F
  · exact g_ref04_Of F
  · exact g_root_Square F
  · exact g_ref04_Square F
  · exact g_law04_works F
theorem hl_law04_RootTells (F : Nat) : ∀ p ∈ loopsIn PP 12, LoopOK PP (S_law04_RootTells F) c_law04_RootTells F (I_law04_RootTells F) p :=
  loops_of [] (by kernel_rfl) all_nil
theorem g_law04_RootTells (F : Nat) : Good PP 12 (unS (s_law04_RootTells F)) :=
  fun_spec (hS_law04_RootTells F) (by kernel_rfl) (by kernel_rfl) (C := c_law04_RootTells) (F := fun q => (f_law04_RootTells F (atI (nth q 0)) (atI (nth q 1)) (atI (nth q 2)) (atI (nth q 3)))) (fun _ => F) (fun _ => I_law04_RootTells F) (fun _ => hl_law04_RootTells F)
    (fun q => (congrArg (funL PP (S_law04_RootTells F) c_law04_RootTells (I_law04_RootTells F) 12) (show (fTs ti_law04_RootTells q).1 = (fTs ti_law04_RootTells [.i (atI (nth q 0)), .i (atI (nth q 1)), .i (atI (nth q 2)), .i (atI (nth q 3))]).1 by kernel_rfl)).trans (e_law04_RootTells F (atI (nth q 0)) (atI (nth q 1)) (atI (nth q 2)) (atI (nth q 3))))
    (fun _ h => (okT_fill h).trans (congrArg some (by kernel_rfl)))

end Go.Xv
namespace Go.Xv
theorem f_RootTells (F : Nat) (hF : 200 ≤ F) {n a b c : Int} (hn : U64 n) (ha : I64 a) (hb : U64 b) (hc : I64 c) : f_law04_RootTells F n a b c = some (.v (.bool true)) := by
  unfold f_law04_RootTells
  have h := f_rootWide F hF ha hb
  have g := f_rWide F hF ha hb
  obtain ⟨i1, i2, i3⟩ := a_rootFix F hF hc
  obtain ⟨j1, j2, j3⟩ := k_ref04_Fix F _ (f_rFix4 F hF hc)
  obtain ⟨k1, k2⟩ := a_rootOf F hF hn
  obtain ⟨l1, l2⟩ := k_ref04_Of F _ (f_rOf4 F hF hn)
  obtain ⟨m1, m2, m3⟩ := a_Square F hn
  obtain ⟨n1, n2, n3⟩ := a_rSquare F hF hn
  obtain ⟨w1, w2⟩ := a_works04 F hF
  unfold rootR at h g
  by_cases h0 : val a b < 0
  · rw [if_pos h0] at h g
    obtain ⟨h1, h2, h3⟩ := k_root_Wide F _ _ h
    obtain ⟨g1, g2, g3⟩ := k_ref04_Wide F _ _ g
    simp only [h1, h2, h3, g1, g2, g3, i1, i2, i3, j1, j2, j3, k1, k2, l1, l2, m1, m2, m3, n1, n2, n3, w1, w2, BEq.rfl, Bool.and_true, cond_true]
  · rw [if_neg h0] at h g
    obtain ⟨h1, h2, h3⟩ := k_root_Wide F _ _ h
    obtain ⟨g1, g2, g3⟩ := k_ref04_Wide F _ _ g
    simp only [h1, h2, h3, g1, g2, g3, i1, i2, i3, j1, j2, j3, k1, k2, l1, l2, m1, m2, m3, n1, n2, n3, w1, w2, BEq.rfl, Bool.and_true, cond_true]
end Go.Xv
namespace Go.Proofs.Ytpcblnkllakejaa.rootTells
open Go.ChangeShapes Go.WideShapes Go.ChangeAt Go.RowKit Go.Xv Go.Proofs.Ytpcblnkllakejaa.base
set_option linter.unusedVariables false
set_option maxRecDepth 100000 in
theorem lifted (os : Os) (started : os.Started) (H : Type) (enc : TypeId × Value → H) :
    ReturnsInHanded {} Try.checked os 12 .any (Rows.rootTellsSpec.pre6 enc Try.prog Try.f12 Rows.rootTellsRow.domain false) (Rows.rootTellsSpec.post enc Try.prog Try.f12 false true false false) := by
  refine returnsInHanded_of_change (C := Try.checked) own started (by kernel_rfl) Try.func12
    (ChangeSpec.witness6 (enc := enc) (C := Try.checked) false ⟨#[], #[.int .u64 0, .agg #[.int .i64 0, .int .u64 0], .int .i64 0], []⟩ 8 (by kernel_rfl) (by kernel_rfl) (by kernel_rfl) (by kernel_rfl)) ?_
  intro W base args ds gs before hval0 hW hcnd _
  have hval : ∀ (j : Nat) t v, Try.f12.params[j]? = some t → args[j]? = some v → Value.okWide Try.prog W .any base t v := hval0
  have hW' := hW
  obtain ⟨p, q, hA0, hV, rfl, hfz, hnd⟩ := hW
  have hA : DataW.TrodAll enc Try.prog W 0 (fun _ => true) true Try.f12.params.toList args.toList ds p := hA0
  rw [Try.params12] at hA hval
  obtain ⟨v0, vs0, d0, ds0, p0, q0, hargs, rfl, rfl, h0, r0⟩ := trodAll_cons hA
  obtain ⟨v1, vs1, d1, ds1, p1, q1, rfl, rfl, rfl, h1, r1⟩ := trodAll_cons r0
  obtain ⟨v2, vs2, d2, ds2, p2, q2, rfl, rfl, rfl, h2, r2⟩ := trodAll_cons r1
  obtain ⟨rfl, rfl, rfl⟩ := trodAll_nil r2
  obtain rfl : args = #[v0, v1, v2] := by cases args; simp_all
  obtain ⟨a0, rfl, wa0⟩ := open_num (k := .u64) (by kernel_rfl) (hval 0 47 v0 rfl rfl) h0
  obtain ⟨l1, rfl, f1⟩ := open_flat (ks := [some .i64, some .u64]) (by kernel_rfl) (by kernel_rfl) (hval 1 49 v1 rfl rfl) h1
  obtain ⟨a1, l1, rfl, wa1, f1⟩ := fitW_some f1
  obtain ⟨a2, l1, rfl, wa2, f1⟩ := fitW_some f1
  obtain rfl := fitW_nil f1
  obtain ⟨a3, rfl, wa3⟩ := open_num (k := .i64) (by kernel_rfl) (hval 2 27 v2 rfl rfl) h2
  refine law_contract laidOut (g_law04_RootTells fuel0) (bt := 4) (by kernel_rfl) (by kernel_rfl) (by kernel_rfl) (by kernel_rfl) rfl hW' ?_
  refine ⟨[.v (.int .u64 a0), .v (.agg #[.int .i64 a1, .int .u64 a2]), .v (.int .i64 a3)], rfl, fun i x hx => ?_, unS_of ?_⟩
  · match i, hx with
    | 0, hx => exact ⟨_, rfl, by cases hx; exact Rel.v _ _⟩
    | 1, hx => exact ⟨_, rfl, by cases hx; exact Rel.v _ _⟩
    | 2, hx => exact ⟨_, rfl, by cases hx; exact Rel.v _ _⟩
    | _ + 3, hx => cases hx
  · obtain ⟨y1, y2⟩ := k_law04_RootTells fuel0 a0 a1 a2 a3 (f_RootTells fuel0 (by unfold fuel0; omega) (wf_u64 wa0) (wf_i64 wa1) (wf_u64 wa2) (wf_i64 wa3))
    have e : s_law04_RootTells fuel0 [.v (.int .u64 a0), .v (.agg #[.int .i64 a1, .int .u64 a2]), .v (.int .i64 a3)] = some (ok_law04_RootTells fuel0 a0 a1 a2 a3, .v (.bool (o_law04_RootTells_0 fuel0 a0 a1 a2 a3))) := by kernel_rfl
    rw [e, y1, y2]
theorem over : Rows.rootTellsRow.holds Try.pinned (OpenSpec.ofChange Rows.rootTellsSpec) :=
  OpenClaim.holds_of_wide 12 Try.f12 rfl rfl rfl rfl rfl rfl rfl ⟨rfl, rfl, rfl, rfl, rfl⟩ rfl rfl rfl rfl rfl (by kernel_rfl) Try.func12 (joined_of (P := Try.prog) behind enter_ rfl rfl ⟨rfl, rfl⟩ (by kernel_rfl))
    (of_decide_eq_true (by kernel_rfl)) (by unfold Func.isWrapper; first | (rw [if_pos (by decide +kernel)]; kernel_rfl) | (rw [if_neg (by decide +kernel)]; exact ⟨rfl, rfl⟩))
    (fun os started H enc _ => lifted os started H enc)
/-- The statement. -/
theorem proved : Rows.RootTellsSaid := over
#print axioms proved
end Go.Proofs.Ytpcblnkllakejaa.rootTells
