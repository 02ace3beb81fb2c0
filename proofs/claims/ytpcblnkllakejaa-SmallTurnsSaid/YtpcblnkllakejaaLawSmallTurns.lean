/- How far something turns is as the document says, of any rate and ticks: the law returns true for every input, and leaves its arguments as they were. -/
import Derived.Test.YtpcblnkllakejaaS
import Derived.Test.YtpcblnkllakejaaProg
import Derived.KernelRfl
set_option linter.unusedVariables false
namespace Go.Xv
/- 3 _law03_SmallTurns -/
def c_law03_SmallTurns : Cfg := ⟨[0, 1, 4], [], []⟩
def ti_law03_SmallTurns : List TV := [.v (.int .i32), .v (.int .i64)]
def to_law03_SmallTurns : TV := .v (.bool)
def S_law03_SmallTurns (F : Nat) : FuncId → List VV → Option (Bool × VV) := words [(25, s_small_Turn F), (26, s_ref03_Turn F), (27, s_law03_works F)]
def W_law03_SmallTurns (F : Nat) : List LW := []
def I_law03_SmallTurns (F : Nat) : Nat → VS → (Exit → VS → R) → R := tabI c_law03_SmallTurns (W_law03_SmallTurns F)
def f_law03_SmallTurns (F : Nat) (a0 : Int) (a1 : Int) : R :=
  bif (ok_small_Turn F a0 a1) then (
    bif (ok_ref03_Turn F a0 a1) then (
      bif ((((o_small_Turn_0 F a0 a1)) == ((o_ref03_Turn_0 F a0 a1)))) then (
        bif (ok_law03_works F) then (
          some (.v (.bool ((o_law03_works_0 F)))))
        else (
          none))
      else (
        some (.v (.bool false))))
    else (
      none))
  else (
    none)
theorem e_law03_SmallTurns (F : Nat) (a0 : Int) (a1 : Int) : funL PP (S_law03_SmallTurns F) c_law03_SmallTurns (I_law03_SmallTurns F) 3 (fTs ti_law03_SmallTurns [.i a0, .i a1]).1 = f_law03_SmallTurns F a0 a1 := by
  have h : ∀ (ok_small_Turn : Nat → Int → Int → Bool) (o_small_Turn_0 : Nat → Int → Int → Int) (ok_ref03_Turn : Nat → Int → Int → Bool) (o_ref03_Turn_0 : Nat → Int → Int → Int) (ok_law03_works : Nat → Bool) (o_law03_works_0 : Nat → Bool), funL PP (words [(25, spec ti_small_Turn to_small_Turn (fun q => (ok_small_Turn F (atI (nth q 0)) (atI (nth q 1)))) (fun q => [.i (o_small_Turn_0 F (atI (nth q 0)) (atI (nth q 1)))])), (26, spec ti_ref03_Turn to_ref03_Turn (fun q => (ok_ref03_Turn F (atI (nth q 0)) (atI (nth q 1)))) (fun q => [.i (o_ref03_Turn_0 F (atI (nth q 0)) (atI (nth q 1)))])), (27, spec ti_law03_works to_law03_works (fun q => (ok_law03_works F )) (fun q => [.b (o_law03_works_0 F )]))]) c_law03_SmallTurns (tabI c_law03_SmallTurns []) 3 (fTs ti_law03_SmallTurns [.i a0, .i a1]).1 = (
  bif (ok_small_Turn F a0 a1) then (
    bif (ok_ref03_Turn F a0 a1) then (
      bif ((((o_small_Turn_0 F a0 a1)) == ((o_ref03_Turn_0 F a0 a1)))) then (
        bif (ok_law03_works F) then (
          some (.v (.bool ((o_law03_works_0 F)))))
        else (
          none))
      else (
        some (.v (.bool false))))
    else (
      none))
  else (
    none) : R) := by
    intros
    kernel_rfl
  exact (h ok_small_Turn o_small_Turn_0 ok_ref03_Turn o_ref03_Turn_0 ok_law03_works o_law03_works_0).trans (by kernel_rfl)
def ok_law03_SmallTurns (F : Nat) (a0 : Int) (a1 : Int) : Bool := okT to_law03_SmallTurns (f_law03_SmallTurns F a0 a1)
def o_law03_SmallTurns_0 (F : Nat) (a0 : Int) (a1 : Int) : Bool := atB (nth (outT to_law03_SmallTurns (f_law03_SmallTurns F a0 a1)) 0)
theorem k_law03_SmallTurns (F : Nat) (a0 : Int) (a1 : Int) {z0 : Bool} (h : f_law03_SmallTurns F a0 a1 = some (.v (.bool z0))) : ok_law03_SmallTurns F a0 a1 = true ∧ o_law03_SmallTurns_0 F a0 a1 = z0 := by
  refine ⟨?_, ?_⟩
  · unfold ok_law03_SmallTurns; rw [h]; kernel_rfl
  · unfold o_law03_SmallTurns_0; rw [h]; kernel_rfl
def s_law03_SmallTurns (F : Nat) : List VV → Option (Bool × VV) := spec ti_law03_SmallTurns to_law03_SmallTurns (fun q => (ok_law03_SmallTurns F (atI (nth q 0)) (atI (nth q 1)))) (fun q => [.b (o_law03_SmallTurns_0 F (atI (nth q 0)) (atI (nth q 1)))])
theorem hS_law03_SmallTurns (F : Nat) : ∀ f, Good PP f (unS (S_law03_SmallTurns F f)) := words_good fun p hp => by
  simp only [List.mem_cons, List.not_mem_nil, or_false] at hp
  rcases hp with rfl | rfl | rfl
  · exact g_small_Turn F
  · exact g_ref03_Turn F
  · exact g_law03_works F
theorem hl_law03_SmallTurns (F : Nat) : ∀ p ∈ loopsIn PP 3, LoopOK PP (S_law03_SmallTurns F) c_law03_SmallTurns F (I_law03_SmallTurns F) p :=
  loops_of [] (by kernel_rfl) all_nil
theorem g_law03_SmallTurns (F : Nat) : Good PP 3 (unS (s_law03_SmallTurns F)) :=
  fun_spec (hS_law03_SmallTurns F) (by kernel_rfl) (by kernel_rfl) (C := c_law03_SmallTurns) (F := fun q => (f_law03_SmallTurns F (atI (nth q 0)) (atI (nth q 1)))) (fun _ => F) (fun _ => I_law03_SmallTurns F) (fun _ => hl_law03_SmallTurns F)
    (fun q => (congrArg (funL PP (S_law03_SmallTurns F) c_law03_SmallTurns (I_law03_SmallTurns F) 3) (show (fTs ti_law03_SmallTurns q).1 = (fTs ti_law03_SmallTurns [.i (atI (nth q 0)), .i (atI (nth q 1))]).1 by kernel_rfl)).trans (e_law03_SmallTurns F (atI (nth q 0)) (atI (nth q 1))))
    (fun _ h => (okT_fill h).trans (congrArg some (by kernel_rfl)))

end Go.Xv
namespace Go.Xv
theorem f_SmallTurns (F : Nat) (hF : 200 ≤ F) {a n : Int} (ha : I32 a) (_hn : I64 n) : f_law03_SmallTurns F a n = some (.v (.bool true)) := by
  unfold f_law03_SmallTurns
  obtain ⟨h1, h2⟩ := a_Turn F n ha
  obtain ⟨g1, g2⟩ := k_ref03_Turn F _ _ (f_rTurn F hF (n := n) ha)
  obtain ⟨w1, w2⟩ := a_works03 F
  simp only [h1, h2, g1, g2, w1, w2, BEq.rfl, cond_true]
end Go.Xv
namespace Go.Proofs.Ytpcblnkllakejaa.smallTurns
open Go.ChangeShapes Go.WideShapes Go.ChangeAt Go.RowKit Go.Xv Go.Proofs.Ytpcblnkllakejaa.base
set_option linter.unusedVariables false
set_option maxRecDepth 100000 in
theorem lifted (os : Os) (started : os.Started) (H : Type) (enc : TypeId × Value → H) :
    ReturnsInHanded {} Try.checked os 3 .any (Rows.smallTurnsSpec.pre6 enc Try.prog Try.f3 Rows.smallTurnsRow.domain false) (Rows.smallTurnsSpec.post enc Try.prog Try.f3 false true false false) := by
  refine returnsInHanded_of_change (C := Try.checked) own started (by kernel_rfl) Try.func3
    (ChangeSpec.witness6 (enc := enc) (C := Try.checked) false ⟨#[], #[.int .i32 0, .int .i64 0], []⟩ 8 (by kernel_rfl) (by kernel_rfl) (by kernel_rfl) (by kernel_rfl)) ?_
  intro W base args ds gs before hval0 hW hcnd _
  have hval : ∀ (j : Nat) t v, Try.f3.params[j]? = some t → args[j]? = some v → Value.okWide Try.prog W .any base t v := hval0
  have hW' := hW
  obtain ⟨p, q, hA0, hV, rfl, hfz, hnd⟩ := hW
  have hA : DataW.TrodAll enc Try.prog W 0 (fun _ => true) true Try.f3.params.toList args.toList ds p := hA0
  rw [Try.params3] at hA hval
  obtain ⟨v0, vs0, d0, ds0, p0, q0, hargs, rfl, rfl, h0, r0⟩ := trodAll_cons hA
  obtain ⟨v1, vs1, d1, ds1, p1, q1, rfl, rfl, rfl, h1, r1⟩ := trodAll_cons r0
  obtain ⟨rfl, rfl, rfl⟩ := trodAll_nil r1
  obtain rfl : args = #[v0, v1] := by cases args; simp_all
  obtain ⟨a0, rfl, wa0⟩ := open_num (k := .i32) (by kernel_rfl) (hval 0 22 v0 rfl rfl) h0
  obtain ⟨a1, rfl, wa1⟩ := open_num (k := .i64) (by kernel_rfl) (hval 1 3 v1 rfl rfl) h1
  refine law_contract laidOut (g_law03_SmallTurns fuel0) (bt := 4) (by kernel_rfl) (by kernel_rfl) (by kernel_rfl) (by kernel_rfl) rfl hW' ?_
  refine ⟨[.v (.int .i32 a0), .v (.int .i64 a1)], rfl, fun i x hx => ?_, unS_of ?_⟩
  · match i, hx with
    | 0, hx => exact ⟨_, rfl, by cases hx; exact Rel.v _ _⟩
    | 1, hx => exact ⟨_, rfl, by cases hx; exact Rel.v _ _⟩
    | _ + 2, hx => cases hx
  · obtain ⟨y1, y2⟩ := k_law03_SmallTurns fuel0 a0 a1 (f_SmallTurns fuel0 (by unfold fuel0; omega) (wf_i32 wa0) (wf_i64 wa1))
    have e : s_law03_SmallTurns fuel0 [.v (.int .i32 a0), .v (.int .i64 a1)] = some (ok_law03_SmallTurns fuel0 a0 a1, .v (.bool (o_law03_SmallTurns_0 fuel0 a0 a1))) := by kernel_rfl
    rw [e, y1, y2]
theorem over : Rows.smallTurnsRow.holds Try.pinned (OpenSpec.ofChange Rows.smallTurnsSpec) :=
  OpenClaim.holds_of_wide 3 Try.f3 rfl rfl rfl rfl rfl rfl rfl ⟨rfl, rfl, rfl, rfl, rfl⟩ rfl rfl rfl rfl rfl (by kernel_rfl) Try.func3 (joined_of (P := Try.prog) behind enter_ rfl rfl ⟨rfl, rfl⟩ (by kernel_rfl))
    (of_decide_eq_true (by kernel_rfl)) (by unfold Func.isWrapper; first | (rw [if_pos (by decide +kernel)]; kernel_rfl) | (rw [if_neg (by decide +kernel)]; exact ⟨rfl, rfl⟩))
    (fun os started H enc _ => lifted os started H enc)
/-- The statement. -/
theorem proved : Rows.SmallTurnsSaid := over
#print axioms proved
end Go.Proofs.Ytpcblnkllakejaa.smallTurns
