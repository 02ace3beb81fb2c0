/- Products and quotients of any numbers with a point are as the document says: the law returns true for every input, and leaves its arguments as they were. -/
import Derived.Test.YtpcblnkllakejaaF
import Derived.Test.YtpcblnkllakejaaProg
import Derived.KernelRfl
set_option linter.unusedVariables false
namespace Go.Xv
/- 23 _law02_FixMuls -/
def c_law02_FixMuls : Cfg := ⟨[0, 1, 4, 5, 6, 7, 8, 9, 10, 11, 12], [], []⟩
def ti_law02_FixMuls : List TV := [.v (.int .i64), .v (.int .i64)]
def to_law02_FixMuls : TV := .v (.bool)
def S_law02_FixMuls (F : Nat) : FuncId → List VV → Option (Bool × VV) := words [(70, s_fix_Mul F), (96, s_ref02_Mul F), (97, s_fix_Div F), (98, s_ref02_Div F), (68, s_law02_works F)]
def W_law02_FixMuls (F : Nat) : List LW := []
def I_law02_FixMuls (F : Nat) : Nat → VS → (Exit → VS → R) → R := tabI c_law02_FixMuls (W_law02_FixMuls F)
def f_law02_FixMuls (F : Nat) (a0 : Int) (a1 : Int) : R :=
  bif (ok_fix_Mul F a0 a1) then (
    bif (ok_ref02_Mul F a0 a1) then (
      bif (ok_fix_Div F a0 a1) then (
        bif (ok_ref02_Div F a0 a1) then (
          bif ((((o_fix_Mul_0 F a0 a1)) == ((o_ref02_Mul_0 F a0 a1)))) then (
            bif ((((o_fix_Mul_1 F a0 a1)) == ((o_ref02_Mul_1 F a0 a1)))) then (
              bif ((((o_fix_Div_0 F a0 a1)) == ((o_ref02_Div_0 F a0 a1)))) then (
                bif ((((o_fix_Div_1 F a0 a1)) == ((o_ref02_Div_1 F a0 a1)))) then (
                  bif (ok_law02_works F) then (
                    some (.v (.bool ((o_law02_works_0 F)))))
                  else (
                    none))
                else (
                  some (.v (.bool false))))
              else (
                some (.v (.bool false))))
            else (
              some (.v (.bool false))))
          else (
            some (.v (.bool false))))
        else (
          none))
      else (
        none))
    else (
      none))
  else (
    none)
theorem e_law02_FixMuls (F : Nat) (a0 : Int) (a1 : Int) : funL PP (S_law02_FixMuls F) c_law02_FixMuls (I_law02_FixMuls F) 23 (fTs ti_law02_FixMuls [.i a0, .i a1]).1 = f_law02_FixMuls F a0 a1 := by
  have h : ∀ (ok_fix_Mul : Nat → Int → Int → Bool) (o_fix_Mul_0 : Nat → Int → Int → Int) (o_fix_Mul_1 : Nat → Int → Int → Bool) (ok_ref02_Mul : Nat → Int → Int → Bool) (o_ref02_Mul_0 : Nat → Int → Int → Int) (o_ref02_Mul_1 : Nat → Int → Int → Bool) (ok_fix_Div : Nat → Int → Int → Bool) (o_fix_Div_0 : Nat → Int → Int → Int) (o_fix_Div_1 : Nat → Int → Int → Bool) (ok_ref02_Div : Nat → Int → Int → Bool) (o_ref02_Div_0 : Nat → Int → Int → Int) (o_ref02_Div_1 : Nat → Int → Int → Bool) (ok_law02_works : Nat → Bool) (o_law02_works_0 : Nat → Bool), funL PP (words [(70, spec ti_fix_Mul to_fix_Mul (fun q => (ok_fix_Mul F (atI (nth q 0)) (atI (nth q 1)))) (fun q => [.i (o_fix_Mul_0 F (atI (nth q 0)) (atI (nth q 1))), .b (o_fix_Mul_1 F (atI (nth q 0)) (atI (nth q 1)))])), (96, spec ti_ref02_Mul to_ref02_Mul (fun q => (ok_ref02_Mul F (atI (nth q 0)) (atI (nth q 1)))) (fun q => [.i (o_ref02_Mul_0 F (atI (nth q 0)) (atI (nth q 1))), .b (o_ref02_Mul_1 F (atI (nth q 0)) (atI (nth q 1)))])), (97, spec ti_fix_Div to_fix_Div (fun q => (ok_fix_Div F (atI (nth q 0)) (atI (nth q 1)))) (fun q => [.i (o_fix_Div_0 F (atI (nth q 0)) (atI (nth q 1))), .b (o_fix_Div_1 F (atI (nth q 0)) (atI (nth q 1)))])), (98, spec ti_ref02_Div to_ref02_Div (fun q => (ok_ref02_Div F (atI (nth q 0)) (atI (nth q 1)))) (fun q => [.i (o_ref02_Div_0 F (atI (nth q 0)) (atI (nth q 1))), .b (o_ref02_Div_1 F (atI (nth q 0)) (atI (nth q 1)))])), (68, spec ti_law02_works to_law02_works (fun q => (ok_law02_works F )) (fun q => [.b (o_law02_works_0 F )]))]) c_law02_FixMuls (tabI c_law02_FixMuls []) 23 (fTs ti_law02_FixMuls [.i a0, .i a1]).1 = (
  bif (ok_fix_Mul F a0 a1) then (
    bif (ok_ref02_Mul F a0 a1) then (
      bif (ok_fix_Div F a0 a1) then (
        bif (ok_ref02_Div F a0 a1) then (
          bif ((((o_fix_Mul_0 F a0 a1)) == ((o_ref02_Mul_0 F a0 a1)))) then (
            bif ((((o_fix_Mul_1 F a0 a1)) == ((o_ref02_Mul_1 F a0 a1)))) then (
              bif ((((o_fix_Div_0 F a0 a1)) == ((o_ref02_Div_0 F a0 a1)))) then (
                bif ((((o_fix_Div_1 F a0 a1)) == ((o_ref02_Div_1 F a0 a1)))) then (
                  bif (ok_law02_works F) then (
                    some (.v (.bool ((o_law02_works_0 F)))))
                  else (
                    none))
                else (
                  some (.v (.bool false))))
              else (
                some (.v (.bool false))))
            else (
              some (.v (.bool false))))
          else (
            some (.v (.bool false))))
        else (
          none))
      else (
        none))
    else (
      none))
  else (
    none) : R) := by
    intros
    kernel_rfl
  exact (h ok_fix_Mul o_fix_Mul_0 o_fix_Mul_1 ok_ref02_Mul o_ref02_Mul_0 o_ref02_Mul_1 ok_fix_Div o_fix_Div_0 o_fix_Div_1 ok_ref02_Div o_ref02_Div_0 o_ref02_Div_1 ok_law02_works o_law02_works_0).trans (by kernel_rfl)
def ok_law02_FixMuls (F : Nat) (a0 : Int) (a1 : Int) : Bool := okT to_law02_FixMuls (f_law02_FixMuls F a0 a1)
def o_law02_FixMuls_0 (F : Nat) (a0 : Int) (a1 : Int) : Bool := atB (nth (outT to_law02_FixMuls (f_law02_FixMuls F a0 a1)) 0)
theorem k_law02_FixMuls (F : Nat) (a0 : Int) (a1 : Int) {z0 : Bool} (h : f_law02_FixMuls F a0 a1 = some (.v (.bool z0))) : ok_law02_FixMuls F a0 a1 = true ∧ o_law02_FixMuls_0 F a0 a1 = z0 := by
  refine ⟨?_, ?_⟩
  · unfold ok_law02_FixMuls; rw [h]; kernel_rfl
  · unfold o_law02_FixMuls_0; rw [h]; kernel_rfl
def s_law02_FixMuls (F : Nat) : List VV → Option (Bool × VV) := spec ti_law02_FixMuls to_law02_FixMuls (fun q => (ok_law02_FixMuls F (atI (nth q 0)) (atI (nth q 1)))) (fun q => [.b (o_law02_FixMuls_0 F (atI (nth q 0)) (atI (nth q 1)))])
theorem hS_law02_FixMuls (F : Nat) : ∀ f, Good PP f (unS (S_law02_FixMuls F f)) := words_good fun p hp => by
  simp only [List.mem_cons, List.not_mem_nil, or_false] at hp
  rcases hp with rfl | rfl | rfl | rfl | rfl
  · exact g_fix_Mul F
  · exact g_ref02_Mul F
  · exact g_fix_Div F
  · exact g_ref02_Div F
  · exact g_law02_works F
theorem hl_law02_FixMuls (F : Nat) : ∀ p ∈ loopsIn PP 23, LoopOK PP (S_law02_FixMuls F) c_law02_FixMuls F (I_law02_FixMuls F) p :=
  loops_of [] (by kernel_rfl) all_nil
theorem g_law02_FixMuls (F : Nat) : Good PP 23 (unS (s_law02_FixMuls F)) :=
  fun_spec (hS_law02_FixMuls F) (by kernel_rfl) (by kernel_rfl) (C := c_law02_FixMuls) (F := fun q => (f_law02_FixMuls F (atI (nth q 0)) (atI (nth q 1)))) (fun _ => F) (fun _ => I_law02_FixMuls F) (fun _ => hl_law02_FixMuls F)
    (fun q => (congrArg (funL PP (S_law02_FixMuls F) c_law02_FixMuls (I_law02_FixMuls F) 23) (show (fTs ti_law02_FixMuls q).1 = (fTs ti_law02_FixMuls [.i (atI (nth q 0)), .i (atI (nth q 1))]).1 by kernel_rfl)).trans (e_law02_FixMuls F (atI (nth q 0)) (atI (nth q 1))))
    (fun _ h => (okT_fill h).trans (congrArg some (by kernel_rfl)))

end Go.Xv
namespace Go.Xv
theorem f_FixMuls (F : Nat) (hF : 200 ≤ F) {a b : Int} (ha : I64 a) (hb : I64 b) : f_law02_FixMuls F a b = some (.v (.bool true)) := by
  unfold f_law02_FixMuls
  obtain ⟨h1, h2, h3⟩ := a_fMul F ha hb
  obtain ⟨g1, g2, g3⟩ := k_ref02_Mul F _ _ (f_rMul2 F hF ha hb)
  obtain ⟨i1, i2, i3⟩ := k_fix_Div F _ _ (f_fDiv F hF ha hb)
  obtain ⟨j1, j2, j3⟩ := k_ref02_Div F _ _ (f_rDiv2 F hF ha hb)
  obtain ⟨w1, w2⟩ := a_works02 F
  simp only [h1, h2, h3, g1, g2, g3, i1, i2, i3, j1, j2, j3, w1, w2, BEq.rfl, cond_true]
end Go.Xv
namespace Go.Proofs.Ytpcblnkllakejaa.fixMuls
open Go.ChangeShapes Go.WideShapes Go.ChangeAt Go.RowKit Go.Xv Go.Proofs.Ytpcblnkllakejaa.base
set_option linter.unusedVariables false
set_option maxRecDepth 100000 in
theorem lifted (os : Os) (started : os.Started) (H : Type) (enc : TypeId × Value → H) :
    ReturnsInHanded {} Try.checked os 23 .any (Rows.fixMulsSpec.pre6 enc Try.prog Try.f23 Rows.fixMulsRow.domain false) (Rows.fixMulsSpec.post enc Try.prog Try.f23 false true false false) := by
  refine returnsInHanded_of_change (C := Try.checked) own started (by kernel_rfl) Try.func23
    (ChangeSpec.witness6 (enc := enc) (C := Try.checked) false ⟨#[], #[.int .i64 0, .int .i64 0], []⟩ 8 (by kernel_rfl) (by kernel_rfl) (by kernel_rfl) (by kernel_rfl)) ?_
  intro W base args ds gs before hval0 hW hcnd _
  have hval : ∀ (j : Nat) t v, Try.f23.params[j]? = some t → args[j]? = some v → Value.okWide Try.prog W .any base t v := hval0
  have hW' := hW
  obtain ⟨p, q, hA0, hV, rfl, hfz, hnd⟩ := hW
  have hA : DataW.TrodAll enc Try.prog W 0 (fun _ => true) true Try.f23.params.toList args.toList ds p := hA0
  rw [Try.params23] at hA hval
  obtain ⟨v0, vs0, d0, ds0, p0, q0, hargs, rfl, rfl, h0, r0⟩ := trodAll_cons hA
  obtain ⟨v1, vs1, d1, ds1, p1, q1, rfl, rfl, rfl, h1, r1⟩ := trodAll_cons r0
  obtain ⟨rfl, rfl, rfl⟩ := trodAll_nil r1
  obtain rfl : args = #[v0, v1] := by cases args; simp_all
  obtain ⟨a0, rfl, wa0⟩ := open_num (k := .i64) (by kernel_rfl) (hval 0 27 v0 rfl rfl) h0
  obtain ⟨a1, rfl, wa1⟩ := open_num (k := .i64) (by kernel_rfl) (hval 1 27 v1 rfl rfl) h1
  refine law_contract laidOut (g_law02_FixMuls fuel0) (bt := 4) (by kernel_rfl) (by kernel_rfl) (by kernel_rfl) (by kernel_rfl) rfl hW' ?_
  refine ⟨[.v (.int .i64 a0), .v (.int .i64 a1)], rfl, fun i x hx => ?_, unS_of ?_⟩
  · match i, hx with
    | 0, hx => exact ⟨_, rfl, by cases hx; exact Rel.v _ _⟩
    | 1, hx => exact ⟨_, rfl, by cases hx; exact Rel.v _ _⟩
    | _ + 2, hx => cases hx
  · obtain ⟨y1, y2⟩ := k_law02_FixMuls fuel0 a0 a1 (f_FixMuls fuel0 (by unfold fuel0; omega) (wf_i64 wa0) (wf_i64 wa1))
    have e : s_law02_FixMuls fuel0 [.v (.int .i64 a0), .v (.int .i64 a1)] = some (ok_law02_FixMuls fuel0 a0 a1, .v (.bool (o_law02_FixMuls_0 fuel0 a0 a1))) := by kernel_rfl
    rw [e, y1, y2]
theorem over : Rows.fixMulsRow.holds Try.pinned (OpenSpec.ofChange Rows.fixMulsSpec) :=
  OpenClaim.holds_of_wide 23 Try.f23 rfl rfl rfl rfl rfl rfl rfl ⟨rfl, rfl, rfl, rfl, rfl⟩ rfl rfl rfl rfl rfl (by kernel_rfl) Try.func23 (joined_of (P := Try.prog) behind enter_ rfl rfl ⟨rfl, rfl⟩ (by kernel_rfl))
    (of_decide_eq_true (by kernel_rfl)) (by unfold Func.isWrapper; first | (rw [if_pos (by decide +kernel)]; kernel_rfl) | (rw [if_neg (by decide +kernel)]; exact ⟨rfl, rfl⟩))
    (fun os started H enc _ => lifted os started H enc)
/-- The statement. -/
theorem proved : Rows.FixMulsSaid := over
#print axioms proved
end Go.Proofs.Ytpcblnkllakejaa.fixMuls
