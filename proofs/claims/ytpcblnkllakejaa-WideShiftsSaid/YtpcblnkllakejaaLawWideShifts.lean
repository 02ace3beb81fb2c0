/- Any wide number is shifted to the left, to the right, and to the nearest one, as the document says: the law returns true for every input, and leaves its arguments as they were. -/
import Derived.Test.YtpcblnkllakejaaW2
import Derived.Test.YtpcblnkllakejaaProg
import Derived.KernelRfl
set_option linter.unusedVariables false
namespace Go.Xv
/- 9 _law01_WideShifts -/
def c_law01_WideShifts : Cfg := ⟨[0, 1, 2, 4], [], []⟩
def ti_law01_WideShifts : List TV := [.v (.agg [.int .i64, .int .u64]), .v (.int .i64)]
def to_law01_WideShifts : TV := .v (.bool)
def S_law01_WideShifts (F : Nat) : FuncId → List VV → Option (Bool × VV) := words [(45, s_wide_Left F), (46, s_ref01_Left F), (47, s_wide_Right F), (48, s_ref01_Right F), (49, s_wide_Near F), (50, s_ref01_Near F), (42, s_law01_works F)]
def W_law01_WideShifts (F : Nat) : List LW := []
def I_law01_WideShifts (F : Nat) : Nat → VS → (Exit → VS → R) → R := tabI c_law01_WideShifts (W_law01_WideShifts F)
def f_law01_WideShifts (F : Nat) (a0 : Int) (a1 : Int) (a2 : Int) : R :=
  bif (ok_wide_Left F a0 a1 a2) then (
    bif (ok_ref01_Left F a0 a1 a2) then (
      bif (((((o_wide_Left_0 F a0 a1 a2)) == ((o_ref01_Left_0 F a0 a1 a2))) && (((o_wide_Left_1 F a0 a1 a2)) == ((o_ref01_Left_1 F a0 a1 a2))))) then (
        bif (ok_wide_Right F a0 a1 a2) then (
          bif (ok_ref01_Right F a0 a1 a2) then (
            bif (((((o_wide_Right_0 F a0 a1 a2)) == ((o_ref01_Right_0 F a0 a1 a2))) && (((o_wide_Right_1 F a0 a1 a2)) == ((o_ref01_Right_1 F a0 a1 a2))))) then (
              bif (ok_wide_Near F a0 a1 a2) then (
                bif (ok_ref01_Near F a0 a1 a2) then (
                  bif (((((o_wide_Near_0 F a0 a1 a2)) == ((o_ref01_Near_0 F a0 a1 a2))) && (((o_wide_Near_1 F a0 a1 a2)) == ((o_ref01_Near_1 F a0 a1 a2))))) then (
                    bif (ok_law01_works F) then (
                      some (.v (.bool ((o_law01_works_0 F)))))
                    else (
                      none))
                  else (
                    some (.v (.bool false))))
                else (
                  none))
              else (
                none))
            else (
              some (.v (.bool false))))
          else (
            none))
        else (
          none))
      else (
        some (.v (.bool false))))
    else (
      none))
  else (
    none)
theorem e_law01_WideShifts (F : Nat) (a0 : Int) (a1 : Int) (a2 : Int) : funL PP (S_law01_WideShifts F) c_law01_WideShifts (I_law01_WideShifts F) 9 (fTs ti_law01_WideShifts [.i a0, .i a1, .i a2]).1 = f_law01_WideShifts F a0 a1 a2 := by
  have h : ∀ (ok_wide_Left : Nat → Int → Int → Int → Bool) (o_wide_Left_0 : Nat → Int → Int → Int → Int) (o_wide_Left_1 : Nat → Int → Int → Int → Int) (ok_ref01_Left : Nat → Int → Int → Int → Bool) (o_ref01_Left_0 : Nat → Int → Int → Int → Int) (o_ref01_Left_1 : Nat → Int → Int → Int → Int) (ok_wide_Right : Nat → Int → Int → Int → Bool) (o_wide_Right_0 : Nat → Int → Int → Int → Int) (o_wide_Right_1 : Nat → Int → Int → Int → Int) (ok_ref01_Right : Nat → Int → Int → Int → Bool) (o_ref01_Right_0 : Nat → Int → Int → Int → Int) (o_ref01_Right_1 : Nat → Int → Int → Int → Int) (ok_wide_Near : Nat → Int → Int → Int → Bool) (o_wide_Near_0 : Nat → Int → Int → Int → Int) (o_wide_Near_1 : Nat → Int → Int → Int → Int) (ok_ref01_Near : Nat → Int → Int → Int → Bool) (o_ref01_Near_0 : Nat → Int → Int → Int → Int) (o_ref01_Near_1 : Nat → Int → Int → Int → Int) (ok_law01_works : Nat → Bool) (o_law01_works_0 : Nat → Bool), funL PP (words [(45, spec ti_wide_Left to_wide_Left (fun q => (ok_wide_Left F (atI (nth q 0)) (atI (nth q 1)) (atI (nth q 2)))) (fun q => [.i (o_wide_Left_0 F (atI (nth q 0)) (atI (nth q 1)) (atI (nth q 2))), .i (o_wide_Left_1 F (atI (nth q 0)) (atI (nth q 1)) (atI (nth q 2)))])), (46, spec ti_ref01_Left to_ref01_Left (fun q => (ok_ref01_Left F (atI (nth q 0)) (atI (nth q 1)) (atI (nth q 2)))) (fun q => [.i (o_ref01_Left_0 F (atI (nth q 0)) (atI (nth q 1)) (atI (nth q 2))), .i (o_ref01_Left_1 F (atI (nth q 0)) (atI (nth q 1)) (atI (nth q 2)))])), (47, spec ti_wide_Right to_wide_Right (fun q => (ok_wide_Right F (atI (nth q 0)) (atI (nth q 1)) (atI (nth q 2)))) (fun q => [.i (o_wide_Right_0 F (atI (nth q 0)) (atI (nth q 1)) (atI (nth q 2))), .i (o_wide_Right_1 F (atI (nth q 0)) (atI (nth q 1)) (atI (nth q 2)))])), (48, spec ti_ref01_Right to_ref01_Right (fun q => (ok_ref01_Right F (atI (nth q 0)) (atI (nth q 1)) (atI (nth q 2)))) (fun q => [.i (o_ref01_Right_0 F (atI (nth q 0)) (atI (nth q 1)) (atI (nth q 2))), .i (o_ref01_Right_1 F (atI (nth q 0)) (atI (nth q 1)) (atI (nth q 2)))])), (49, spec ti_wide_Near to_wide_Near (fun q => (ok_wide_Near F (atI (nth q 0)) (atI (nth q 1)) (atI (nth q 2)))) (fun q => [.i (o_wide_Near_0 F (atI (nth q 0)) (atI (nth q 1)) (atI (nth q 2))), .i (o_wide_Near_1 F (atI (nth q 0)) (atI (nth q 1)) (atI (nth q 2)))])), (50, spec ti_ref01_Near to_ref01_Near (fun q => (ok_ref01_Near F (atI (nth q 0)) (atI (nth q 1)) (atI (nth q 2)))) (fun q => [.i (o_ref01_Near_0 F (atI (nth q 0)) (atI (nth q 1)) (atI (nth q 2))), .i (o_ref01_Near_1 F (atI (nth q 0)) (atI (nth q 1)) (atI (nth q 2)))])), (42, spec ti_law01_works to_law01_works (fun q => (ok_law01_works F )) (fun q => [.b (o_law01_works_0 F )]))]) c_law01_WideShifts (tabI c_law01_WideShifts []) 9 (fTs ti_law01_WideShifts [.i a0, .i a1, .i a2]).1 = (
  bif (ok_wide_Left F a0 a1 a2) then (
    bif (ok_ref01_Left F a0 a1 a2) then (
      bif (((((o_wide_Left_0 F a0 a1 a2)) == ((o_ref01_Left_0 F a0 a1 a2))) && (((o_wide_Left_1 F a0 a1 a2)) == ((o_ref01_Left_1 F a0 a1 a2))))) then (
        bif (ok_wide_Right F a0 a1 a2) then (
          bif (ok_ref01_Right F a0 a1 a2) then (
            bif (((((o_wide_Right_0 F a0 a1 a2)) == ((o_ref01_Right_0 F a0 a1 a2))) && (((o_wide_Right_1 F a0 a1 a2)) == ((o_ref01_Right_1 F a0 a1 a2))))) then (
              bif (ok_wide_Near F a0 a1 a2) then (
                bif (ok_ref01_Near F a0 a1 a2) then (
                  bif (((((o_wide_Near_0 F a0 a1 a2)) == ((o_ref01_Near_0 F a0 a1 a2))) && (((o_wide_Near_1 F a0 a1 a2)) == ((o_ref01_Near_1 F a0 a1 a2))))) then (
                    bif (ok_law01_works F) then (
                      some (.v (.bool ((o_law01_works_0 F)))))
                    else (
                      none))
                  else (
                    some (.v (.bool false))))
                else (
                  none))
              else (
                none))
            else (
              some (.v (.bool false))))
          else (
            none))
        else (
          none))
      else (
        some (.v (.bool false))))
    else (
      none))
  else (
    none) : R) := by
    intros
    kernel_rfl
  exact (h ok_wide_Left o_wide_Left_0 o_wide_Left_1 ok_ref01_Left o_ref01_Left_0 o_ref01_Left_1 ok_wide_Right o_wide_Right_0 o_wide_Right_1 ok_ref01_Right o_ref01_Right_0 o_ref01_Right_1 ok_wide_Near o_wide_Near_0 o_wide_Near_1 ok_ref01_Near o_ref01_Near_0 o_ref01_Near_1 ok_law01_works o_law01_works_0).trans (by kernel_rfl)
def ok_law01_WideShifts (F : Nat) (a0 : Int) (a1 : Int) (a2 : Int) : Bool := okT to_law01_WideShifts (f_law01_WideShifts F a0 a1 a2)
def o_law01_WideShifts_0 (F : Nat) (a0 : Int) (a1 : Int) (a2 : Int) : Bool := atB (nth (outT to_law01_WideShifts (f_law01_WideShifts F a0 a1 a2)) 0)
theorem k_law01_WideShifts (F : Nat) (a0 : Int) (a1 : Int) (a2 : Int) {z0 : Bool} (h : f_law01_WideShifts F a0 a1 a2 = some (.v (.bool z0))) : ok_law01_WideShifts F a0 a1 a2 = true ∧ o_law01_WideShifts_0 F a0 a1 a2 = z0 := by
  refine ⟨?_, ?_⟩
  · unfold ok_law01_WideShifts; rw [h]; kernel_rfl
  · unfold o_law01_WideShifts_0; rw [h]; kernel_rfl
def s_law01_WideShifts (F : Nat) : List VV → Option (Bool × VV) := spec ti_law01_WideShifts to_law01_WideShifts (fun q => (ok_law01_WideShifts F (atI (nth q 0)) (atI (nth q 1)) (atI (nth q 2)))) (fun q => [.b (o_law01_WideShifts_0 F (atI (nth q 0)) (atI (nth q 1)) (atI (nth q 2)))])
theorem hS_law01_WideShifts (F : Nat) : ∀ f, Good PP f (unS (S_law01_WideShifts F f)) := words_good fun p hp => by
  simp only [List.mem_cons, List.not_mem_nil, or_false] at hp
  rcases hp with rfl | rfl | rfl | rfl | rfl | rfl | rfl
  · exact g_wide_Left F
  · exact g_ref01_Left F
  · exact g_wide_Right F
  · exact g_ref01_Right F
  · exact g_wide_Near F
  · exact g_ref01_Near F
  · exact g_law01_works F
theorem hl_law01_WideShifts (F : Nat) : ∀ p ∈ loopsIn PP 9, LoopOK PP (S_law01_WideShifts F) c_law01_WideShifts F (I_law01_WideShifts F) p :=
  loops_of [] (by kernel_rfl) all_nil
theorem g_law01_WideShifts (F : Nat) : Good PP 9 (unS (s_law01_WideShifts F)) :=
  fun_spec (hS_law01_WideShifts F) (by kernel_rfl) (by kernel_rfl) (C := c_law01_WideShifts) (F := fun q => (f_law01_WideShifts F (atI (nth q 0)) (atI (nth q 1)) (atI (nth q 2)))) (fun _ => F) (fun _ => I_law01_WideShifts F) (fun _ => hl_law01_WideShifts F)
    (fun q => (congrArg (funL PP (S_law01_WideShifts F) c_law01_WideShifts (I_law01_WideShifts F) 9) (show (fTs ti_law01_WideShifts q).1 = (fTs ti_law01_WideShifts [.i (atI (nth q 0)), .i (atI (nth q 1)), .i (atI (nth q 2))]).1 by kernel_rfl)).trans (e_law01_WideShifts F (atI (nth q 0)) (atI (nth q 1)) (atI (nth q 2))))
    (fun _ h => (okT_fill h).trans (congrArg some (by kernel_rfl)))

end Go.Xv
namespace Go.Xv
theorem f_WideShifts (F : Nat) (hF : 200 ≤ F) {a b n : Int} (ha : I64 a) (hb : U64 b) (_hn : I64 n) : f_law01_WideShifts F a b n = some (.v (.bool true)) := by
  unfold f_law01_WideShifts
  obtain ⟨h1, h2, h3⟩ := k_wide_Left F _ _ _ (f_Left F (a := a) (n := n) hb)
  obtain ⟨g1, g2, g3⟩ := k_ref01_Left F _ _ _ (f_rLeft F hF (n := n) ha hb)
  obtain ⟨i1, i2, i3⟩ := k_wide_Right F _ _ _ (f_Right F (n := n) ha hb)
  obtain ⟨j1, j2, j3⟩ := k_ref01_Right F _ _ _ (f_rRight F hF (n := n) ha hb)
  obtain ⟨k1, k2, k3⟩ := k_wide_Near F _ _ _ (f_Near F (n := n) ha hb)
  obtain ⟨l1, l2, l3⟩ := k_ref01_Near F _ _ _ (f_rNear F hF (n := n) ha hb)
  obtain ⟨w1, w2⟩ := a_works01 F
  refine bp h1 (bp g1 (bp ?_ (bp i1 (bp j1 (bp ?_ (bp k1 (bp l1 (bp ?_ (bp w1 ?_)))))))))
  · rw [h2, h3, g2, g3]; simp
  · rw [i2, i3, j2, j3]; simp
  · rw [k2, k3, l2, l3]; simp
  · rw [w2]
end Go.Xv
namespace Go.Proofs.Ytpcblnkllakejaa.wideShifts
open Go.ChangeShapes Go.WideShapes Go.ChangeAt Go.RowKit Go.Xv Go.Proofs.Ytpcblnkllakejaa.base
set_option linter.unusedVariables false
set_option maxRecDepth 100000 in
theorem lifted (os : Os) (started : os.Started) (H : Type) (enc : TypeId × Value → H) :
    ReturnsInHanded {} Try.checked os 9 .any (Rows.wideShiftsSpec.pre6 enc Try.prog Try.f9 Rows.wideShiftsRow.domain false) (Rows.wideShiftsSpec.post enc Try.prog Try.f9 false true false false) := by
  refine returnsInHanded_of_change (C := Try.checked) own started (by kernel_rfl) Try.func9
    (ChangeSpec.witness6 (enc := enc) (C := Try.checked) false ⟨#[], #[.agg #[.int .i64 0, .int .u64 0], .int .i64 0], []⟩ 8 (by kernel_rfl) (by kernel_rfl) (by kernel_rfl) (by kernel_rfl)) ?_
  intro W base args ds gs before hval0 hW hcnd _
  have hval : ∀ (j : Nat) t v, Try.f9.params[j]? = some t → args[j]? = some v → Value.okWide Try.prog W .any base t v := hval0
  have hW' := hW
  obtain ⟨p, q, hA0, hV, rfl, hfz, hnd⟩ := hW
  have hA : DataW.TrodAll enc Try.prog W 0 (fun _ => true) true Try.f9.params.toList args.toList ds p := hA0
  rw [Try.params9] at hA hval
  obtain ⟨v0, vs0, d0, ds0, p0, q0, hargs, rfl, rfl, h0, r0⟩ := trodAll_cons hA
  obtain ⟨v1, vs1, d1, ds1, p1, q1, rfl, rfl, rfl, h1, r1⟩ := trodAll_cons r0
  obtain ⟨rfl, rfl, rfl⟩ := trodAll_nil r1
  obtain rfl : args = #[v0, v1] := by cases args; simp_all
  obtain ⟨l0, rfl, f0⟩ := open_flat (ks := [some .i64, some .u64]) (by kernel_rfl) (by kernel_rfl) (hval 0 49 v0 rfl rfl) h0
  obtain ⟨a0, l0, rfl, wa0, f0⟩ := fitW_some f0
  obtain ⟨a1, l0, rfl, wa1, f0⟩ := fitW_some f0
  obtain rfl := fitW_nil f0
  obtain ⟨a2, rfl, wa2⟩ := open_num (k := .i64) (by kernel_rfl) (hval 1 3 v1 rfl rfl) h1
  refine law_contract laidOut (g_law01_WideShifts fuel0) (bt := 4) (by kernel_rfl) (by kernel_rfl) (by kernel_rfl) (by kernel_rfl) rfl hW' ?_
  refine ⟨[.v (.agg #[.int .i64 a0, .int .u64 a1]), .v (.int .i64 a2)], rfl, fun i x hx => ?_, unS_of ?_⟩
  · match i, hx with
    | 0, hx => exact ⟨_, rfl, by cases hx; exact Rel.v _ _⟩
    | 1, hx => exact ⟨_, rfl, by cases hx; exact Rel.v _ _⟩
    | _ + 2, hx => cases hx
  · obtain ⟨y1, y2⟩ := k_law01_WideShifts fuel0 a0 a1 a2 (f_WideShifts fuel0 (by unfold fuel0; omega) (wf_i64 wa0) (wf_u64 wa1) (wf_i64 wa2))
    have e : s_law01_WideShifts fuel0 [.v (.agg #[.int .i64 a0, .int .u64 a1]), .v (.int .i64 a2)] = some (ok_law01_WideShifts fuel0 a0 a1 a2, .v (.bool (o_law01_WideShifts_0 fuel0 a0 a1 a2))) := by kernel_rfl
    rw [e, y1, y2]
theorem over : Rows.wideShiftsRow.holds Try.pinned (OpenSpec.ofChange Rows.wideShiftsSpec) :=
  OpenClaim.holds_of_wide 9 Try.f9 rfl rfl rfl rfl rfl rfl rfl ⟨rfl, rfl, rfl, rfl, rfl⟩ rfl rfl rfl rfl rfl (by kernel_rfl) Try.func9 (joined_of (P := Try.prog) behind enter_ rfl rfl ⟨rfl, rfl⟩ (by kernel_rfl))
    (of_decide_eq_true (by kernel_rfl)) (by unfold Func.isWrapper; first | (rw [if_pos (by decide +kernel)]; kernel_rfl) | (rw [if_neg (by decide +kernel)]; exact ⟨rfl, rfl⟩))
    (fun os started H enc _ => lifted os started H enc)
/-- The statement. -/
theorem proved : Rows.WideShiftsSaid := over
#print axioms proved
end Go.Proofs.Ytpcblnkllakejaa.wideShifts
