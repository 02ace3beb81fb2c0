/- Any wide number is divided, and clipped, as the document says: the law returns true for every input, and leaves its arguments as they were. -/
import Derived.Test.YtpcblnkllakejaaW2
import Derived.Test.YtpcblnkllakejaaProg
import Derived.KernelRfl
set_option linter.unusedVariables false
namespace Go.Xv
/- 20 _law01_WideDivs -/
def c_law01_WideDivs : Cfg := ⟨[0, 1, 2, 4, 5, 6, 7, 8, 9, 10, 11, 12, 13, 14], [], []⟩
def ti_law01_WideDivs : List TV := [.v (.agg [.int .i64, .int .u64]), .v (.int .i64)]
def to_law01_WideDivs : TV := .v (.bool)
def S_law01_WideDivs (F : Nat) : FuncId → List VV → Option (Bool × VV) := words [(83, s_wide_Div F), (84, s_ref01_Div F), (85, s_wide_Clip F), (86, s_ref01_Clip F), (42, s_law01_works F)]
def W_law01_WideDivs (F : Nat) : List LW := []
def I_law01_WideDivs (F : Nat) : Nat → VS → (Exit → VS → R) → R := tabI c_law01_WideDivs (W_law01_WideDivs F)
def f_law01_WideDivs (F : Nat) (a0 : Int) (a1 : Int) (a2 : Int) : R :=
  bif (ok_wide_Div F a0 a1 a2) then (
    bif (ok_ref01_Div F a0 a1 a2) then (
      bif (ok_wide_Clip F a0 a1) then (
        bif (ok_ref01_Clip F a0 a1) then (
          bif (((((o_wide_Div_0 F a0 a1 a2)) == ((o_ref01_Div_0 F a0 a1 a2))) && (((o_wide_Div_1 F a0 a1 a2)) == ((o_ref01_Div_1 F a0 a1 a2))))) then (
            bif ((((o_wide_Div_2 F a0 a1 a2)) == ((o_ref01_Div_2 F a0 a1 a2)))) then (
              bif ((((o_wide_Div_3 F a0 a1 a2)) == ((o_ref01_Div_3 F a0 a1 a2)))) then (
                bif ((((o_wide_Clip_0 F a0 a1)) == ((o_ref01_Clip_0 F a0 a1)))) then (
                  bif ((((o_wide_Clip_1 F a0 a1)) == ((o_ref01_Clip_1 F a0 a1)))) then (
                    bif (ok_law01_works F) then (
                      some (.v (.bool ((o_law01_works_0 F)))))
                    else (
                      none))
                  else (
                    some (.v (.bool false))))
                else (
                  some (.v (.bool false))))
              else (
                some (.v (.bool false))))
            else (
              some (.v (.bool false))))
          else (
            some (.v (.bool false))))
        else (
          none))
      else (
        none))
    else (
      none))
  else (
    none)
theorem e_law01_WideDivs (F : Nat) (a0 : Int) (a1 : Int) (a2 : Int) : funL PP (S_law01_WideDivs F) c_law01_WideDivs (I_law01_WideDivs F) 20 (fTs ti_law01_WideDivs [.i a0, .i a1, .i a2]).1 = f_law01_WideDivs F a0 a1 a2 := by
  have h : ∀ (ok_wide_Div : Nat → Int → Int → Int → Bool) (o_wide_Div_0 : Nat → Int → Int → Int → Int) (o_wide_Div_1 : Nat → Int → Int → Int → Int) (o_wide_Div_2 : Nat → Int → Int → Int → Int) (o_wide_Div_3 : Nat → Int → Int → Int → Bool) (ok_ref01_Div : Nat → Int → Int → Int → Bool) (o_ref01_Div_0 : Nat → Int → Int → Int → Int) (o_ref01_Div_1 : Nat → Int → Int → Int → Int) (o_ref01_Div_2 : Nat → Int → Int → Int → Int) (o_ref01_Div_3 : Nat → Int → Int → Int → Bool) (ok_wide_Clip : Nat → Int → Int → Bool) (o_wide_Clip_0 : Nat → Int → Int → Int) (o_wide_Clip_1 : Nat → Int → Int → Bool) (ok_ref01_Clip : Nat → Int → Int → Bool) (o_ref01_Clip_0 : Nat → Int → Int → Int) (o_ref01_Clip_1 : Nat → Int → Int → Bool) (ok_law01_works : Nat → Bool) (o_law01_works_0 : Nat → Bool), funL PP (words [(83, spec ti_wide_Div to_wide_Div (fun q => (ok_wide_Div F (atI (nth q 0)) (atI (nth q 1)) (atI (nth q 2)))) (fun q => [.i (o_wide_Div_0 F (atI (nth q 0)) (atI (nth q 1)) (atI (nth q 2))), .i (o_wide_Div_1 F (atI (nth q 0)) (atI (nth q 1)) (atI (nth q 2))), .i (o_wide_Div_2 F (atI (nth q 0)) (atI (nth q 1)) (atI (nth q 2))), .b (o_wide_Div_3 F (atI (nth q 0)) (atI (nth q 1)) (atI (nth q 2)))])), (84, spec ti_ref01_Div to_ref01_Div (fun q => (ok_ref01_Div F (atI (nth q 0)) (atI (nth q 1)) (atI (nth q 2)))) (fun q => [.i (o_ref01_Div_0 F (atI (nth q 0)) (atI (nth q 1)) (atI (nth q 2))), .i (o_ref01_Div_1 F (atI (nth q 0)) (atI (nth q 1)) (atI (nth q 2))), .i (o_ref01_Div_2 F (atI (nth q 0)) (atI (nth q 1)) (atI (nth q 2))), .b (o_ref01_Div_3 F (atI (nth q 0)) (atI (nth q 1)) (atI (nth q 2)))])), (85, spec ti_wide_Clip to_wide_Clip (fun q => (ok_wide_Clip F (atI (nth q 0)) (atI (nth q 1)))) (fun q => [.i (o_wide_Clip_0 F (atI (nth q 0)) (atI (nth q 1))), .b (o_wide_Clip_1 F (atI (nth q 0)) (atI (nth q 1)))])), (86, spec ti_ref01_Clip to_ref01_Clip (fun q => (ok_ref01_Clip F (atI (nth q 0)) (atI (nth q 1)))) (fun q => [.i (o_ref01_Clip_0 F (atI (nth q 0)) (atI (nth q 1))), .b (o_ref01_Clip_1 F (atI (nth q 0)) (atI (nth q 1)))])), (42, spec ti_law01_works to_law01_works (fun q => (ok_law01_works F )) (fun q => [.b (o_law01_works_0 F )]))]) c_law01_WideDivs (tabI c_law01_WideDivs []) 20 (fTs ti_law01_WideDivs [.i a0, .i a1, .i a2]).1 = (
  bif (ok_wide_Div F a0 a1 a2) then (
    bif (ok_ref01_Div F a0 a1 a2) then (
      bif (ok_wide_Clip F a0 a1) then (
        bif (ok_ref01_Clip F a0 a1) then (
          bif (((((o_wide_Div_0 F a0 a1 a2)) == ((o_ref01_Div_0 F a0 a1 a2))) && (((o_wide_Div_1 F a0 a1 a2)) == ((o_ref01_Div_1 F a0 a1 a2))))) then (
            bif ((((o_wide_Div_2 F a0 a1 a2)) == ((o_ref01_Div_2 F a0 a1 a2)))) then (
              bif ((((o_wide_Div_3 F a0 a1 a2)) == ((o_ref01_Div_3 F a0 a1 a2)))) then (
                bif ((((o_wide_Clip_0 F a0 a1)) == ((o_ref01_Clip_0 F a0 a1)))) then (
                  bif ((((o_wide_Clip_1 F a0 a1)) == ((o_ref01_Clip_1 F a0 a1)))) then (
                    bif (ok_law01_works F) then (
                      some (.v (.bool ((o_law01_works_0 F)))))
                    else (
                      none))
                  else (
                    some (.v (.bool false))))
                else (
                  some (.v (.bool false))))
              else (
                some (.v (.bool false))))
            else (
              some (.v (.bool false))))
          else (
            some (.v (.bool false))))
        else (
          none))
      else (
        none))
    else (
      none))
  else (
    none) : R) := by
    intros
    kernel_rfl
  exact (h ok_wide_Div o_wide_Div_0 o_wide_Div_1 o_wide_Div_2 o_wide_Div_3 ok_ref01_Div o_ref01_Div_0 o_ref01_Div_1 o_ref01_Div_2 o_ref01_Div_3 ok_wide_Clip o_wide_Clip_0 o_wide_Clip_1 ok_ref01_Clip o_ref01_Clip_0 o_ref01_Clip_1 ok_law01_works o_law01_works_0).trans (by kernel_rfl)
def ok_law01_WideDivs (F : Nat) (a0 : Int) (a1 : Int) (a2 : Int) : Bool := okT to_law01_WideDivs (f_law01_WideDivs F a0 a1 a2)
def o_law01_WideDivs_0 (F : Nat) (a0 : Int) (a1 : Int) (a2 : Int) : Bool := atB (nth (outT to_law01_WideDivs (f_law01_WideDivs F a0 a1 a2)) 0)
theorem k_law01_WideDivs (F : Nat) (a0 : Int) (a1 : Int) (a2 : Int) {z0 : Bool} (h : f_law01_WideDivs F a0 a1 a2 = some (.v (.bool z0))) : ok_law01_WideDivs F a0 a1 a2 = true ∧ o_law01_WideDivs_0 F a0 a1 a2 = z0 := by
  refine ⟨?_, ?_⟩
  · unfold ok_law01_WideDivs; rw [h]; kernel_rfl
  · unfold o_law01_WideDivs_0; rw [h]; kernel_rfl
def s_law01_WideDivs (F : Nat) : List VV → Option (Bool × VV) := spec ti_law01_WideDivs to_law01_WideDivs (fun q => (ok_law01_WideDivs F (atI (nth q 0)) (atI (nth q 1)) (atI (nth q 2)))) (fun q => [.b (o_law01_WideDivs_0 F (atI (nth q 0)) (atI (nth q 1)) (atI (nth q 2)))])
theorem hS_law01_WideDivs (F : Nat) : ∀ f, Good PP f (unS (S_law01_WideDivs F f)) := words_good fun p hp => by
  simp only [List.mem_cons, List.not_mem_nil, or_false] at hp
  rcases hp with rfl | rfl | rfl | rfl | rfl
  · exact g_wide_Div F
  · exact g_ref01_Div F
  · exact g_wide_Clip F
  · exact g_ref01_Clip F
  · exact g_law01_works F
theorem hl_law01_WideDivs (F : Nat) : ∀ p ∈ loopsIn PP 20, LoopOK PP (S_law01_WideDivs F) c_law01_WideDivs F (I_law01_WideDivs F) p :=
  loops_of [] (by kernel_rfl) all_nil
theorem g_law01_WideDivs (F : Nat) : Good PP 20 (unS (s_law01_WideDivs F)) :=
  fun_spec (hS_law01_WideDivs F) (by kernel_rfl) (by kernel_rfl) (C := c_law01_WideDivs) (F := fun q => (f_law01_WideDivs F (atI (nth q 0)) (atI (nth q 1)) (atI (nth q 2)))) (fun _ => F) (fun _ => I_law01_WideDivs F) (fun _ => hl_law01_WideDivs F)
    (fun q => (congrArg (funL PP (S_law01_WideDivs F) c_law01_WideDivs (I_law01_WideDivs F) 20) (show (fTs ti_law01_WideDivs q).1 = (fTs ti_law01_WideDivs [.i (atI (nth q 0)), .i (atI (nth q 1)), .i (atI (nth q 2))]).1 by kernel_rfl)).trans (e_law01_WideDivs F (atI (nth q 0)) (atI (nth q 1)) (atI (nth q 2))))
    (fun _ h => (okT_fill h).trans (congrArg some (by kernel_rfl)))

end Go.Xv
namespace Go.Xv
theorem f_WideDivs (F : Nat) (hF : 200 ≤ F) {a c b : Int} (ha : I64 a) (hc : U64 c) (hb : I64 b) : f_law01_WideDivs F a c b = some (.v (.bool true)) := by
  unfold f_law01_WideDivs
  obtain ⟨w1, w2⟩ := a_works01 F
  have hd := f_Div F hF ha hc hb
  have hr := f_rDiv F hF ha hc hb
  obtain ⟨c1, c2, c3⟩ := k_wide_Clip F _ _ (f_Clip F ha hc)
  obtain ⟨e1, e2, e3⟩ := k_ref01_Clip F _ _ (f_rClip F ha hc)
  unfold divR at hd hr
  split at hd
  · rename_i h
    rw [if_pos h] at hr
    obtain ⟨h1, h2, h3, h4, h5⟩ := k_wide_Div F _ _ _ hd
    obtain ⟨g1, g2, g3, g4, g5⟩ := k_ref01_Div F _ _ _ hr
    refine bp h1 (bp g1 (bp c1 (bp e1 (bp ?_ (bp ?_ (bp ?_ (bp ?_ (bp ?_ (bp w1 ?_)))))))))
    · rw [h2, h3, g2, g3]; simp
    · rw [h4, g4]; simp
    · rw [h5, g5]; simp
    · rw [c2, e2]; simp
    · rw [c3, e3]; simp
    · rw [w2]
  · rename_i h
    rw [if_neg h] at hr
    obtain ⟨h1, h2, h3, h4, h5⟩ := k_wide_Div F _ _ _ hd
    obtain ⟨g1, g2, g3, g4, g5⟩ := k_ref01_Div F _ _ _ hr
    refine bp h1 (bp g1 (bp c1 (bp e1 (bp ?_ (bp ?_ (bp ?_ (bp ?_ (bp ?_ (bp w1 ?_)))))))))
    · rw [h2, h3, g2, g3]; simp
    · rw [h4, g4]; simp
    · rw [h5, g5]; simp
    · rw [c2, e2]; simp
    · rw [c3, e3]; simp
    · rw [w2]
end Go.Xv
namespace Go.Proofs.Ytpcblnkllakejaa.wideDivs
open Go.ChangeShapes Go.WideShapes Go.ChangeAt Go.RowKit Go.Xv Go.Proofs.Ytpcblnkllakejaa.base
set_option linter.unusedVariables false
set_option maxRecDepth 100000 in
theorem lifted (os : Os) (started : os.Started) (H : Type) (enc : TypeId × Value → H) :
    ReturnsInHanded {} Try.checked os 20 .any (Rows.wideDivsSpec.pre6 enc Try.prog Try.f20 Rows.wideDivsRow.domain false) (Rows.wideDivsSpec.post enc Try.prog Try.f20 false true false false) := by
  refine returnsInHanded_of_change (C := Try.checked) own started (by kernel_rfl) Try.func20
    (ChangeSpec.witness6 (enc := enc) (C := Try.checked) false ⟨#[], #[.agg #[.int .i64 0, .int .u64 0], .int .i64 0], []⟩ 8 (by kernel_rfl) (by kernel_rfl) (by kernel_rfl) (by kernel_rfl)) ?_
  intro W base args ds gs before hval0 hW hcnd _
  have hval : ∀ (j : Nat) t v, Try.f20.params[j]? = some t → args[j]? = some v → Value.okWide Try.prog W .any base t v := hval0
  have hW' := hW
  obtain ⟨p, q, hA0, hV, rfl, hfz, hnd⟩ := hW
  have hA : DataW.TrodAll enc Try.prog W 0 (fun _ => true) true Try.f20.params.toList args.toList ds p := hA0
  rw [Try.params20] at hA hval
  obtain ⟨v0, vs0, d0, ds0, p0, q0, hargs, rfl, rfl, h0, r0⟩ := trodAll_cons hA
  obtain ⟨v1, vs1, d1, ds1, p1, q1, rfl, rfl, rfl, h1, r1⟩ := trodAll_cons r0
  obtain ⟨rfl, rfl, rfl⟩ := trodAll_nil r1
  obtain rfl : args = #[v0, v1] := by cases args; simp_all
  obtain ⟨l0, rfl, f0⟩ := open_flat (ks := [some .i64, some .u64]) (by kernel_rfl) (by kernel_rfl) (hval 0 49 v0 rfl rfl) h0
  obtain ⟨a0, l0, rfl, wa0, f0⟩ := fitW_some f0
  obtain ⟨a1, l0, rfl, wa1, f0⟩ := fitW_some f0
  obtain rfl := fitW_nil f0
  obtain ⟨a2, rfl, wa2⟩ := open_num (k := .i64) (by kernel_rfl) (hval 1 2 v1 rfl rfl) h1
  refine law_contract laidOut (g_law01_WideDivs fuel0) (bt := 4) (by kernel_rfl) (by kernel_rfl) (by kernel_rfl) (by kernel_rfl) rfl hW' ?_
  refine ⟨[.v (.agg #[.int .i64 a0, .int .u64 a1]), .v (.int .i64 a2)], rfl, fun i x hx => ?_, unS_of ?_⟩
  · match i, hx with
    | 0, hx => exact ⟨_, rfl, by cases hx; exact Rel.v _ _⟩
    | 1, hx => exact ⟨_, rfl, by cases hx; exact Rel.v _ _⟩
    | _ + 2, hx => cases hx
  · obtain ⟨y1, y2⟩ := k_law01_WideDivs fuel0 a0 a1 a2 (f_WideDivs fuel0 (by unfold fuel0; omega) (wf_i64 wa0) (wf_u64 wa1) (wf_i64 wa2))
    have e : s_law01_WideDivs fuel0 [.v (.agg #[.int .i64 a0, .int .u64 a1]), .v (.int .i64 a2)] = some (ok_law01_WideDivs fuel0 a0 a1 a2, .v (.bool (o_law01_WideDivs_0 fuel0 a0 a1 a2))) := by kernel_rfl
    rw [e, y1, y2]
theorem over : Rows.wideDivsRow.holds Try.pinned (OpenSpec.ofChange Rows.wideDivsSpec) :=
  OpenClaim.holds_of_wide 20 Try.f20 rfl rfl rfl rfl rfl rfl rfl ⟨rfl, rfl, rfl, rfl, rfl⟩ rfl rfl rfl rfl rfl (by kernel_rfl) Try.func20 (joined_of (P := Try.prog) behind enter_ rfl rfl ⟨rfl, rfl⟩ (by kernel_rfl))
    (of_decide_eq_true (by kernel_rfl)) (by unfold Func.isWrapper; first | (rw [if_pos (by decide +kernel)]; kernel_rfl) | (rw [if_neg (by decide +kernel)]; exact ⟨rfl, rfl⟩))
    (fun os started H enc _ => lifted os started H enc)
/-- The statement. -/
theorem proved : Rows.WideDivsSaid := over
#print axioms proved
end Go.Proofs.Ytpcblnkllakejaa.wideDivs
