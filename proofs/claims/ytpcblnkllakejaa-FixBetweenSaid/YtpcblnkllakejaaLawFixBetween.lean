/- What is clamped is between its bounds, and a middle is between both: the law returns true for every input, and leaves its arguments as they were. -/
import Derived.Test.YtpcblnkllakejaaF
import Derived.Test.YtpcblnkllakejaaProg
import Derived.KernelRfl
set_option linter.unusedVariables false
namespace Go.Xv
/- 19 _law02_FixBetween -/
def c_law02_FixBetween : Cfg := ⟨[0, 1, 2, 6, 7, 8, 9, 10, 11, 13], [], []⟩
def ti_law02_FixBetween : List TV := [.v (.int .i64), .v (.int .i64), .v (.int .i64)]
def to_law02_FixBetween : TV := .v (.bool)
def S_law02_FixBetween (F : Nat) : FuncId → List VV → Option (Bool × VV) := words [(68, s_law02_works F), (81, s_fix_Clamp F), (82, s_fix_Mid F)]
def W_law02_FixBetween (F : Nat) : List LW := []
def I_law02_FixBetween (F : Nat) : Nat → VS → (Exit → VS → R) → R := tabI c_law02_FixBetween (W_law02_FixBetween F)
def f_law02_FixBetween (F : Nat) (a0 : Int) (a1 : Int) (a2 : Int) : R :=
  bif (ok_law02_works F) then (
    bif ((!((o_law02_works_0 F)))) then (
      some (.v (.bool false)))
    else (
      let v1753 : Int := (if a2 < a1 then a2 else a1)
      let v1754 : Int := (if a2 > a1 then a2 else a1)
      bif (ok_fix_Clamp F a0 v1753 v1754) then (
        let v1759 : Int := (o_fix_Clamp_0 F a0 v1753 v1754)
        let v1760 : Bool := (o_fix_Clamp_1 F a0 v1753 v1754)
        bif (ok_fix_Mid F a1 a2) then (
          let v1765 : Int := (o_fix_Mid_0 F a1 a2)
          bif ((decide (v1759 ≥ v1753))) then (
            bif ((decide (v1759 ≤ v1754))) then (
              bif ((decide (a0 < v1753))) then (
                bif ((v1760 == true)) then (
                  bif ((decide (v1765 ≥ v1753))) then (
                    some (.v (.bool ((decide (v1765 ≤ v1754))))))
                  else (
                    some (.v (.bool false))))
                else (
                  some (.v (.bool false))))
              else (
                bif ((v1760 == ((decide (a0 > v1754))))) then (
                  bif ((decide (v1765 ≥ v1753))) then (
                    some (.v (.bool ((decide (v1765 ≤ v1754))))))
                  else (
                    some (.v (.bool false))))
                else (
                  some (.v (.bool false)))))
            else (
              some (.v (.bool false))))
          else (
            some (.v (.bool false))))
        else (
          none))
      else (
        none)))
  else (
    none)
theorem e_law02_FixBetween (F : Nat) (a0 : Int) (a1 : Int) (a2 : Int) : funL PP (S_law02_FixBetween F) c_law02_FixBetween (I_law02_FixBetween F) 19 (fTs ti_law02_FixBetween [.i a0, .i a1, .i a2]).1 = f_law02_FixBetween F a0 a1 a2 := by
  have h : ∀ (ok_law02_works : Nat → Bool) (o_law02_works_0 : Nat → Bool) (ok_fix_Clamp : Nat → Int → Int → Int → Bool) (o_fix_Clamp_0 : Nat → Int → Int → Int → Int) (o_fix_Clamp_1 : Nat → Int → Int → Int → Bool) (ok_fix_Mid : Nat → Int → Int → Bool) (o_fix_Mid_0 : Nat → Int → Int → Int), funL PP (words [(68, spec ti_law02_works to_law02_works (fun q => (ok_law02_works F )) (fun q => [.b (o_law02_works_0 F )])), (81, spec ti_fix_Clamp to_fix_Clamp (fun q => (ok_fix_Clamp F (atI (nth q 0)) (atI (nth q 1)) (atI (nth q 2)))) (fun q => [.i (o_fix_Clamp_0 F (atI (nth q 0)) (atI (nth q 1)) (atI (nth q 2))), .b (o_fix_Clamp_1 F (atI (nth q 0)) (atI (nth q 1)) (atI (nth q 2)))])), (82, spec ti_fix_Mid to_fix_Mid (fun q => (ok_fix_Mid F (atI (nth q 0)) (atI (nth q 1)))) (fun q => [.i (o_fix_Mid_0 F (atI (nth q 0)) (atI (nth q 1)))]))]) c_law02_FixBetween (tabI c_law02_FixBetween []) 19 (fTs ti_law02_FixBetween [.i a0, .i a1, .i a2]).1 = (
  bif (ok_law02_works F) then (
    bif ((!((o_law02_works_0 F)))) then (
      some (.v (.bool false)))
    else (
      let v1753 : Int := (if a2 < a1 then a2 else a1)
      let v1754 : Int := (if a2 > a1 then a2 else a1)
      bif (ok_fix_Clamp F a0 v1753 v1754) then (
        let v1759 : Int := (o_fix_Clamp_0 F a0 v1753 v1754)
        let v1760 : Bool := (o_fix_Clamp_1 F a0 v1753 v1754)
        bif (ok_fix_Mid F a1 a2) then (
          let v1765 : Int := (o_fix_Mid_0 F a1 a2)
          bif ((decide (v1759 ≥ v1753))) then (
            bif ((decide (v1759 ≤ v1754))) then (
              bif ((decide (a0 < v1753))) then (
                bif ((v1760 == true)) then (
                  bif ((decide (v1765 ≥ v1753))) then (
                    some (.v (.bool ((decide (v1765 ≤ v1754))))))
                  else (
                    some (.v (.bool false))))
                else (
                  some (.v (.bool false))))
              else (
                bif ((v1760 == ((decide (a0 > v1754))))) then (
                  bif ((decide (v1765 ≥ v1753))) then (
                    some (.v (.bool ((decide (v1765 ≤ v1754))))))
                  else (
                    some (.v (.bool false))))
                else (
                  some (.v (.bool false)))))
            else (
              some (.v (.bool false))))
          else (
            some (.v (.bool false))))
        else (
          none))
      else (
        none)))
  else (
    none) : R) := by
    intros
    kernel_rfl
  exact (h ok_law02_works o_law02_works_0 ok_fix_Clamp o_fix_Clamp_0 o_fix_Clamp_1 ok_fix_Mid o_fix_Mid_0).trans (by kernel_rfl)
def ok_law02_FixBetween (F : Nat) (a0 : Int) (a1 : Int) (a2 : Int) : Bool := okT to_law02_FixBetween (f_law02_FixBetween F a0 a1 a2)
def o_law02_FixBetween_0 (F : Nat) (a0 : Int) (a1 : Int) (a2 : Int) : Bool := atB (nth (outT to_law02_FixBetween (f_law02_FixBetween F a0 a1 a2)) 0)
theorem k_law02_FixBetween (F : Nat) (a0 : Int) (a1 : Int) (a2 : Int) {z0 : Bool} (h : f_law02_FixBetween F a0 a1 a2 = some (.v (.bool z0))) : ok_law02_FixBetween F a0 a1 a2 = true ∧ o_law02_FixBetween_0 F a0 a1 a2 = z0 := by
  refine ⟨?_, ?_⟩
  · unfold ok_law02_FixBetween; rw [h]; kernel_rfl
  · unfold o_law02_FixBetween_0; rw [h]; kernel_rfl
def s_law02_FixBetween (F : Nat) : List VV → Option (Bool × VV) := spec ti_law02_FixBetween to_law02_FixBetween (fun q => (ok_law02_FixBetween F (atI (nth q 0)) (atI (nth q 1)) (atI (nth q 2)))) (fun q => [.b (o_law02_FixBetween_0 F (atI (nth q 0)) (atI (nth q 1)) (atI (nth q 2)))])
theorem hS_law02_FixBetween (F : Nat) : ∀ f, Good PP f (unS (S_law02_FixBetween F f)) := words_good fun p hp => by
  simp only [List.mem_cons, List.not_mem_nil, or_false] at hp
  rcases hp with rfl | rfl | rfl
  · exact g_law02_works F
  · exact g_fix_Clamp F
  · exact g_fix_Mid F
theorem hl_law02_FixBetween (F : Nat) : ∀ p ∈ loopsIn PP 19, LoopOK PP (S_law02_FixBetween F) c_law02_FixBetween F (I_law02_FixBetween F) p :=
  loops_of [] (by kernel_rfl) all_nil
theorem g_law02_FixBetween (F : Nat) : Good PP 19 (unS (s_law02_FixBetween F)) :=
  fun_spec (hS_law02_FixBetween F) (by kernel_rfl) (by kernel_rfl) (C := c_law02_FixBetween) (F := fun q => (f_law02_FixBetween F (atI (nth q 0)) (atI (nth q 1)) (atI (nth q 2)))) (fun _ => F) (fun _ => I_law02_FixBetween F) (fun _ => hl_law02_FixBetween F)
    (fun q => (congrArg (funL PP (S_law02_FixBetween F) c_law02_FixBetween (I_law02_FixBetween F) 19) (show (fTs ti_law02_FixBetween q).1 = (fTs ti_law02_FixBetween [.i (atI (nth q 0)), .i (atI (nth q 1)), .i (atI (nth q 2))]).1 by kernel_rfl)).trans (e_law02_FixBetween F (atI (nth q 0)) (atI (nth q 1)) (atI (nth q 2))))
    (fun _ h => (okT_fill h).trans (congrArg some (by kernel_rfl)))

end Go.Xv
namespace Go.Xv
theorem f_FixBetween (F : Nat) (_hF : 200 ≤ F) {a b c : Int} (_ha : I64 a) (hb : I64 b) (hc : I64 c) : f_law02_FixBetween F a b c = some (.v (.bool true)) := by
  unfold f_law02_FixBetween
  dsimp only
  obtain ⟨w1, w2⟩ := a_works02 F
  have e1 : (if c < b then c else b) ≤ (if c > b then c else b) := by split <;> split <;> omega
  obtain ⟨m1, m2⟩ := k_fix_Mid F _ _ (f_fMid F hb hc)
  have e2 : (if c < b then c else b) ≤ (b + c) / 2 ∧ (b + c) / 2 ≤ (if c > b then c else b) := by split <;> split <;> omega
  generalize (if c < b then c else b) = l at *
  generalize (if c > b then c else b) = h at *
  have hk := f_fClamp F (a := a) (l := l) (h := h)
  rw [if_neg (by omega), if_neg (by omega)] at hk
  obtain ⟨k1, k2, k3⟩ := k_fix_Clamp F _ _ _ hk
  refine bp w1 (bn (by rw [w2]; rfl) (bp k1 (bp m1 (bp ?_ (bp ?_ ?_)))))
  · rw [k2]; exact dt (by omega)
  · rw [k2]; exact dt (by omega)
  · rw [k3, m2]
    by_cases hl : a < l
    · refine bp (dt hl) (bp ?_ (bp (dt e2.1) (some_bool (dt e2.2))))
      rw [dt (by omega)]; rfl
    · refine bn (df hl) (bp ?_ (bp (dt e2.1) (some_bool (dt e2.2))))
      rw [beq_iff_eq, decide_eq_decide]; omega
end Go.Xv
namespace Go.Proofs.Ytpcblnkllakejaa.fixBetween
open Go.ChangeShapes Go.WideShapes Go.ChangeAt Go.RowKit Go.Xv Go.Proofs.Ytpcblnkllakejaa.base
set_option linter.unusedVariables false
set_option maxRecDepth 100000 in
theorem lifted (os : Os) (started : os.Started) (H : Type) (enc : TypeId × Value → H) :
    ReturnsInHanded {} Try.checked os 19 .any (Rows.fixBetweenSpec.pre6 enc Try.prog Try.f19 Rows.fixBetweenRow.domain false) (Rows.fixBetweenSpec.post enc Try.prog Try.f19 false true false false) := by
  refine returnsInHanded_of_change (C := Try.checked) own started (by kernel_rfl) Try.func19
    (ChangeSpec.witness6 (enc := enc) (C := Try.checked) false ⟨#[], #[.int .i64 0, .int .i64 0, .int .i64 0], []⟩ 8 (by kernel_rfl) (by kernel_rfl) (by kernel_rfl) (by kernel_rfl)) ?_
  intro W base args ds gs before hval0 hW hcnd _
  have hval : ∀ (j : Nat) t v, Try.f19.params[j]? = some t → args[j]? = some v → Value.okWide Try.prog W .any base t v := hval0
  have hW' := hW
  obtain ⟨p, q, hA0, hV, rfl, hfz, hnd⟩ := hW
  have hA : DataW.TrodAll enc Try.prog W 0 (fun _ => true) true Try.f19.params.toList args.toList ds p := hA0
  rw [Try.params19] at hA hval
  obtain ⟨v0, vs0, d0, ds0, p0, q0, hargs, rfl, rfl, h0, r0⟩ := trodAll_cons hA
  obtain ⟨v1, vs1, d1, ds1, p1, q1, rfl, rfl, rfl, h1, r1⟩ := trodAll_cons r0
  obtain ⟨v2, vs2, d2, ds2, p2, q2, rfl, rfl, rfl, h2, r2⟩ := trodAll_cons r1
  obtain ⟨rfl, rfl, rfl⟩ := trodAll_nil r2
  obtain rfl : args = #[v0, v1, v2] := by cases args; simp_all
  obtain ⟨a0, rfl, wa0⟩ := open_num (k := .i64) (by kernel_rfl) (hval 0 27 v0 rfl rfl) h0
  obtain ⟨a1, rfl, wa1⟩ := open_num (k := .i64) (by kernel_rfl) (hval 1 27 v1 rfl rfl) h1
  obtain ⟨a2, rfl, wa2⟩ := open_num (k := .i64) (by kernel_rfl) (hval 2 27 v2 rfl rfl) h2
  refine law_contract laidOut (g_law02_FixBetween fuel0) (bt := 4) (by kernel_rfl) (by kernel_rfl) (by kernel_rfl) (by kernel_rfl) rfl hW' ?_
  refine ⟨[.v (.int .i64 a0), .v (.int .i64 a1), .v (.int .i64 a2)], rfl, fun i x hx => ?_, unS_of ?_⟩
  · match i, hx with
    | 0, hx => exact ⟨_, rfl, by cases hx; exact Rel.v _ _⟩
    | 1, hx => exact ⟨_, rfl, by cases hx; exact Rel.v _ _⟩
    | 2, hx => exact ⟨_, rfl, by cases hx; exact Rel.v _ _⟩
    | _ + 3, hx => cases hx
  · obtain ⟨y1, y2⟩ := k_law02_FixBetween fuel0 a0 a1 a2 (f_FixBetween fuel0 (by unfold fuel0; omega) (wf_i64 wa0) (wf_i64 wa1) (wf_i64 wa2))
    have e : s_law02_FixBetween fuel0 [.v (.int .i64 a0), .v (.int .i64 a1), .v (.int .i64 a2)] = some (ok_law02_FixBetween fuel0 a0 a1 a2, .v (.bool (o_law02_FixBetween_0 fuel0 a0 a1 a2))) := by kernel_rfl
    rw [e, y1, y2]
theorem over : Rows.fixBetweenRow.holds Try.pinned (OpenSpec.ofChange Rows.fixBetweenSpec) :=
  OpenClaim.holds_of_wide 19 Try.f19 rfl rfl rfl rfl rfl rfl rfl ⟨rfl, rfl, rfl, rfl, rfl⟩ rfl rfl rfl rfl rfl (by kernel_rfl) Try.func19 (joined_of (P := Try.prog) behind enter_ rfl rfl ⟨rfl, rfl⟩ (by kernel_rfl))
    (of_decide_eq_true (by kernel_rfl)) (by unfold Func.isWrapper; first | (rw [if_pos (by decide +kernel)]; kernel_rfl) | (rw [if_neg (by decide +kernel)]; exact ⟨rfl, rfl⟩))
    (fun os started H enc _ => lifted os started H enc)
/-- The statement. -/
theorem proved : Rows.FixBetweenSaid := over
#print axioms proved
end Go.Proofs.Ytpcblnkllakejaa.fixBetween
