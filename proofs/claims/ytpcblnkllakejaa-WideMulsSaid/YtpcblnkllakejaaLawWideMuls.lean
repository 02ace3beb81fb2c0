/- The product of any two numbers of 64 bits is as the document says: the law returns true for every input, and leaves its arguments as they were. -/
import Derived.Test.YtpcblnkllakejaaW2
import Derived.Test.YtpcblnkllakejaaProg
import Derived.KernelRfl
set_option linter.unusedVariables false
namespace Go.Xv
/- 7 _law01_WideMuls -/
def c_law01_WideMuls : Cfg := ⟨[0, 1, 4], [], []⟩
def ti_law01_WideMuls : List TV := [.v (.int .i64), .v (.int .i64)]
def to_law01_WideMuls : TV := .v (.bool)
def S_law01_WideMuls (F : Nat) : FuncId → List VV → Option (Bool × VV) := words [(40, s_wide_Mul F), (41, s_ref01_Mul F), (42, s_law01_works F)]
def W_law01_WideMuls (F : Nat) : List LW := []
def I_law01_WideMuls (F : Nat) : Nat → VS → (Exit → VS → R) → R := tabI c_law01_WideMuls (W_law01_WideMuls F)
def f_law01_WideMuls (F : Nat) (a0 : Int) (a1 : Int) : R :=
  bif (ok_wide_Mul F a0 a1) then (
    bif (ok_ref01_Mul F a0 a1) then (
      bif (((((o_wide_Mul_0 F a0 a1)) == ((o_ref01_Mul_0 F a0 a1))) && (((o_wide_Mul_1 F a0 a1)) == ((o_ref01_Mul_1 F a0 a1))))) then (
        bif (ok_law01_works F) then (
          some (.v (.bool ((o_law01_works_0 F)))))
        else (
          none))
      else (
        some (.v (.bool false))))
    else (
      none))
  else (
    none)
theorem e_law01_WideMuls (F : Nat) (a0 : Int) (a1 : Int) : funL PP (S_law01_WideMuls F) c_law01_WideMuls (I_law01_WideMuls F) 7 (fTs ti_law01_WideMuls [.i a0, .i a1]).1 = f_law01_WideMuls F a0 a1 := by
  have h : ∀ (ok_wide_Mul : Nat → Int → Int → Bool) (o_wide_Mul_0 : Nat → Int → Int → Int) (o_wide_Mul_1 : Nat → Int → Int → Int) (ok_ref01_Mul : Nat → Int → Int → Bool) (o_ref01_Mul_0 : Nat → Int → Int → Int) (o_ref01_Mul_1 : Nat → Int → Int → Int) (ok_law01_works : Nat → Bool) (o_law01_works_0 : Nat → Bool), funL PP (words [(40, spec ti_wide_Mul to_wide_Mul (fun q => (ok_wide_Mul F (atI (nth q 0)) (atI (nth q 1)))) (fun q => [.i (o_wide_Mul_0 F (atI (nth q 0)) (atI (nth q 1))), .i (o_wide_Mul_1 F (atI (nth q 0)) (atI (nth q 1)))])), (41, spec ti_ref01_Mul to_ref01_Mul (fun q => (ok_ref01_Mul F (atI (nth q 0)) (atI (nth q 1)))) (fun q => [.i (o_ref01_Mul_0 F (atI (nth q 0)) (atI (nth q 1))), .i (o_ref01_Mul_1 F (atI (nth q 0)) (atI (nth q 1)))])), (42, spec ti_law01_works to_law01_works (fun q => (ok_law01_works F )) (fun q => [.b (o_law01_works_0 F )]))]) c_law01_WideMuls (tabI c_law01_WideMuls []) 7 (fTs ti_law01_WideMuls [.i a0, .i a1]).1 = (
  bif (ok_wide_Mul F a0 a1) then (
    bif (ok_ref01_Mul F a0 a1) then (
      bif (((((o_wide_Mul_0 F a0 a1)) == ((o_ref01_Mul_0 F a0 a1))) && (((o_wide_Mul_1 F a0 a1)) == ((o_ref01_Mul_1 F a0 a1))))) then (
        bif (ok_law01_works F) then (
          some (.v (.bool ((o_law01_works_0 F)))))
        else (
          none))
      else (
        some (.v (.bool false))))
    else (
      none))
  else (
    none) : R) := by
    intros
    kernel_rfl
  exact (h ok_wide_Mul o_wide_Mul_0 o_wide_Mul_1 ok_ref01_Mul o_ref01_Mul_0 o_ref01_Mul_1 ok_law01_works o_law01_works_0).trans (by kernel_rfl)
def ok_law01_WideMuls (F : Nat) (a0 : Int) (a1 : Int) : Bool := okT to_law01_WideMuls (f_law01_WideMuls F a0 a1)
def o_law01_WideMuls_0 (F : Nat) (a0 : Int) (a1 : Int) : Bool := atB (nth (outT to_law01_WideMuls (f_law01_WideMuls F a0 a1)) 0)
theorem k_law01_WideMuls (F : Nat) (a0 : Int) (a1 : Int) {z0 : Bool} (h : f_law01_WideMuls F a0 a1 = some (.v (.bool z0))) : ok_law01_WideMuls F a0 a1 = true ∧ o_law01_WideMuls_0 F a0 a1 = z0 := by
  refine ⟨?_, ?_⟩
  · unfold ok_law01_WideMuls; rw [h]; kernel_rfl
  · unfold o_law01_WideMuls_0; rw [h]; kernel_rfl
def s_law01_WideMuls (F : Nat) : List VV → Option (Bool × VV) := spec ti_law01_WideMuls to_law01_WideMuls (fun q => (ok_law01_WideMuls F (atI (nth q 0)) (atI (nth q 1)))) (fun q => [.b (o_law01_WideMuls_0 F (atI (nth q 0)) (atI (nth q 1)))])
theorem hS_law01_WideMuls (F : Nat) : ∀ f, Good PP f (unS (S_law01_WideMuls F f)) := words_good fun p hp => by
  simp only [List.mem_cons, List.not_mem_nil, or_false] at hp
  rcases hp with rfl | rfl | rfl
  · exact g_wide_Mul F
  · exact g_ref01_Mul F
  · exact g_law01_works F
theorem hl_law01_WideMuls (F : Nat) : ∀ p ∈ loopsIn PP 7, LoopOK PP (S_law01_WideMuls F) c_law01_WideMuls F (I_law01_WideMuls F) p :=
  loops_of [] (by kernel_rfl) all_nil
theorem g_law01_WideMuls (F : Nat) : Good PP 7 (unS (s_law01_WideMuls F)) :=
  fun_spec (hS_law01_WideMuls F) (by kernel_rfl) (by kernel_rfl) (C := c_law01_WideMuls) (F := fun q => (f_law01_WideMuls F (atI (nth q 0)) (atI (nth q 1)))) (fun _ => F) (fun _ => I_law01_WideMuls F) (fun _ => hl_law01_WideMuls F)
    (fun q => (congrArg (funL PP (S_law01_WideMuls F) c_law01_WideMuls (I_law01_WideMuls F) 7) (show (fTs ti_law01_WideMuls q).1 = (fTs ti_law01_WideMuls [.i (atI (nth q 0)), .i (atI (nth q 1))]).1 by kernel_rfl)).trans (e_law01_WideMuls F (atI (nth q 0)) (atI (nth q 1))))
    (fun _ h => (okT_fill h).trans (congrArg some (by kernel_rfl)))

end Go.Xv
namespace Go.Xv
theorem f_WideMuls (F : Nat) (hF : 200 ≤ F) {a b : Int} (ha : I64 a) (hb : I64 b) : f_law01_WideMuls F a b = some (.v (.bool true)) := by
  unfold f_law01_WideMuls
  obtain ⟨h1, h2, h3⟩ := a_Mul F ha hb
  obtain ⟨g1, g2, g3⟩ := a_rMul F hF ha hb
  obtain ⟨w1, w2⟩ := a_works01 F
  refine bp h1 (bp g1 (bp ?_ (bp w1 ?_)))
  · rw [h2, h3, g2, g3]; simp
  · rw [w2]
end Go.Xv
namespace Go.Proofs.Ytpcblnkllakejaa.wideMuls
open Go.ChangeShapes Go.WideShapes Go.ChangeAt Go.RowKit Go.Xv Go.Proofs.Ytpcblnkllakejaa.base
set_option linter.unusedVariables false
set_option maxRecDepth 100000 in
theorem lifted (os : Os) (started : os.Started) (H : Type) (enc : TypeId × Value → H) :
    ReturnsInHanded {} Try.checked os 7 .any (Rows.wideMulsSpec.pre6 enc Try.prog Try.f7 Rows.wideMulsRow.domain false) (Rows.wideMulsSpec.post enc Try.prog Try.f7 false true false false) := by
  refine returnsInHanded_of_change (C := Try.checked) own started (by kernel_rfl) Try.func7
    (ChangeSpec.witness6 (enc := enc) (C := Try.checked) false ⟨#[], #[.int .i64 0, .int .i64 0], []⟩ 8 (by kernel_rfl) (by kernel_rfl) (by kernel_rfl) (by kernel_rfl)) ?_
  intro W base args ds gs before hval0 hW hcnd _
  have hval : ∀ (j : Nat) t v, Try.f7.params[j]? = some t → args[j]? = some v → Value.okWide Try.prog W .any base t v := hval0
  have hW' := hW
  obtain ⟨p, q, hA0, hV, rfl, hfz, hnd⟩ := hW
  have hA : DataW.TrodAll enc Try.prog W 0 (fun _ => true) true Try.f7.params.toList args.toList ds p := hA0
  rw [Try.params7] at hA hval
  obtain ⟨v0, vs0, d0, ds0, p0, q0, hargs, rfl, rfl, h0, r0⟩ := trodAll_cons hA
  obtain ⟨v1, vs1, d1, ds1, p1, q1, rfl, rfl, rfl, h1, r1⟩ := trodAll_cons r0
  obtain ⟨rfl, rfl, rfl⟩ := trodAll_nil r1
  obtain rfl : args = #[v0, v1] := by cases args; simp_all
  obtain ⟨a0, rfl, wa0⟩ := open_num (k := .i64) (by kernel_rfl) (hval 0 2 v0 rfl rfl) h0
  obtain ⟨a1, rfl, wa1⟩ := open_num (k := .i64) (by kernel_rfl) (hval 1 2 v1 rfl rfl) h1
  refine law_contract laidOut (g_law01_WideMuls fuel0) (bt := 4) (by kernel_rfl) (by kernel_rfl) (by kernel_rfl) (by kernel_rfl) rfl hW' ?_
  refine ⟨[.v (.int .i64 a0), .v (.int .i64 a1)], rfl, fun i x hx => ?_, unS_of ?_⟩
  · match i, hx with
    | 0, hx => exact ⟨_, rfl, by cases hx; exact Rel.v _ _⟩
    | 1, hx => exact ⟨_, rfl, by cases hx; exact Rel.v _ _⟩
    | _ + 2, hx => cases hx
  · obtain ⟨y1, y2⟩ := k_law01_WideMuls fuel0 a0 a1 (f_WideMuls fuel0 (by unfold fuel0; omega) (wf_i64 wa0) (wf_i64 wa1))
    have e : s_law01_WideMuls fuel0 [.v (.int .i64 a0), .v (.int .i64 a1)] = some (ok_law01_WideMuls fuel0 a0 a1, .v (.bool (o_law01_WideMuls_0 fuel0 a0 a1))) := by kernel_rfl
    rw [e, y1, y2]
theorem over : Rows.wideMulsRow.holds Try.pinned (OpenSpec.ofChange Rows.wideMulsSpec) :=
  OpenClaim.holds_of_wide 7 Try.f7 rfl rfl rfl rfl rfl rfl rfl ⟨rfl, rfl, rfl, rfl, rfl⟩ rfl rfl rfl rfl rfl (by kernel_rfl) Try.func7 (joined_of (P := Try.prog) behind enter_ rfl rfl ⟨rfl, rfl⟩ (by kernel_rfl))
    (of_decide_eq_true (by kernel_rfl)) (by unfold Func.isWrapper; first | (rw [if_pos (by decide +kernel)]; kernel_rfl) | (rw [if_neg (by decide +kernel)]; exact ⟨rfl, rfl⟩))
    (fun os started H enc _ => lifted os started H enc)
/-- The statement. -/
theorem proved : Rows.WideMulsSaid := over
#print axioms proved
end Go.Proofs.Ytpcblnkllakejaa.wideMuls
