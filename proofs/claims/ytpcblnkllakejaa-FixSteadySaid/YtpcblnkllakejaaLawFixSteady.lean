/- A greater number plus, or times one that is not below 0, is no less: the law returns true for every input, and leaves its arguments as they were. -/
import Derived.Test.YtpcblnkllakejaaF
import Derived.Test.YtpcblnkllakejaaProg
import Derived.KernelRfl
set_option linter.unusedVariables false
namespace Go.Xv
/- 16 _law02_FixSteady -/
def c_law02_FixSteady : Cfg := ⟨[0, 1, 2, 6, 7, 8, 9, 11, 13, 15, 18, 39, 41], [], []⟩
def ti_law02_FixSteady : List TV := [.v (.int .i64), .v (.int .i64), .v (.int .i64)]
def to_law02_FixSteady : TV := .v (.bool)
def S_law02_FixSteady (F : Nat) : FuncId → List VV → Option (Bool × VV) := words [(68, s_law02_works F), (69, s_fix_Add F), (70, s_fix_Mul F)]
def W_law02_FixSteady (F : Nat) : List LW := []
def I_law02_FixSteady (F : Nat) : Nat → VS → (Exit → VS → R) → R := tabI c_law02_FixSteady (W_law02_FixSteady F)
def f_law02_FixSteady (F : Nat) (a0 : Int) (a1 : Int) (a2 : Int) : R :=
  bif (ok_law02_works F) then (
    bif ((!((o_law02_works_0 F)))) then (
      some (.v (.bool false)))
    else (
      let v1662 : Int := (if a1 < a0 then a1 else a0)
      let v1663 : Int := (if a1 > a0 then a1 else a0)
      bif (ok_fix_Add F v1662 a2) then (
        bif (ok_fix_Add F v1663 a2) then (
          bif ((decide (((o_fix_Add_0 F v1662 a2)) > ((o_fix_Add_0 F v1663 a2))))) then (
            some (.v (.bool false)))
          else (
            bif ((decide (a2 < 0))) then (
              some (.v (.bool true)))
            else (
              bif (ok_fix_Mul F v1662 a2) then (
                bif (ok_fix_Mul F v1663 a2) then (
                  some (.v (.bool ((decide (((o_fix_Mul_0 F v1662 a2)) ≤ ((o_fix_Mul_0 F v1663 a2))))))))
                else (
                  none))
              else (
                none))))
        else (
          none))
      else (
        none)))
  else (
    none)
theorem e_law02_FixSteady (F : Nat) (a0 : Int) (a1 : Int) (a2 : Int) : funL PP (S_law02_FixSteady F) c_law02_FixSteady (I_law02_FixSteady F) 16 (fTs ti_law02_FixSteady [.i a0, .i a1, .i a2]).1 = f_law02_FixSteady F a0 a1 a2 := by
  have h : ∀ (ok_law02_works : Nat → Bool) (o_law02_works_0 : Nat → Bool) (ok_fix_Add : Nat → Int → Int → Bool) (o_fix_Add_0 : Nat → Int → Int → Int) (o_fix_Add_1 : Nat → Int → Int → Bool) (ok_fix_Mul : Nat → Int → Int → Bool) (o_fix_Mul_0 : Nat → Int → Int → Int) (o_fix_Mul_1 : Nat → Int → Int → Bool), funL PP (words [(68, spec ti_law02_works to_law02_works (fun q => (ok_law02_works F )) (fun q => [.b (o_law02_works_0 F )])), (69, spec ti_fix_Add to_fix_Add (fun q => (ok_fix_Add F (atI (nth q 0)) (atI (nth q 1)))) (fun q => [.i (o_fix_Add_0 F (atI (nth q 0)) (atI (nth q 1))), .b (o_fix_Add_1 F (atI (nth q 0)) (atI (nth q 1)))])), (70, spec ti_fix_Mul to_fix_Mul (fun q => (ok_fix_Mul F (atI (nth q 0)) (atI (nth q 1)))) (fun q => [.i (o_fix_Mul_0 F (atI (nth q 0)) (atI (nth q 1))), .b (o_fix_Mul_1 F (atI (nth q 0)) (atI (nth q 1)))]))]) c_law02_FixSteady (tabI c_law02_FixSteady []) 16 (fTs ti_law02_FixSteady [.i a0, .i a1, .i a2]).1 = (
  bif (ok_law02_works F) then (
    bif ((!((o_law02_works_0 F)))) then (
      some (.v (.bool false)))
    else (
      let v1662 : Int := (if a1 < a0 then a1 else a0)
      let v1663 : Int := (if a1 > a0 then a1 else a0)
      bif (ok_fix_Add F v1662 a2) then (
        bif (ok_fix_Add F v1663 a2) then (
          bif ((decide (((o_fix_Add_0 F v1662 a2)) > ((o_fix_Add_0 F v1663 a2))))) then (
            some (.v (.bool false)))
          else (
            bif ((decide (a2 < 0))) then (
              some (.v (.bool true)))
            else (
              bif (ok_fix_Mul F v1662 a2) then (
                bif (ok_fix_Mul F v1663 a2) then (
                  some (.v (.bool ((decide (((o_fix_Mul_0 F v1662 a2)) ≤ ((o_fix_Mul_0 F v1663 a2))))))))
                else (
                  none))
              else (
                none))))
        else (
          none))
      else (
        none)))
  else (
    none) : R) := by
    intros
    kernel_rfl
  exact (h ok_law02_works o_law02_works_0 ok_fix_Add o_fix_Add_0 o_fix_Add_1 ok_fix_Mul o_fix_Mul_0 o_fix_Mul_1).trans (by kernel_rfl)
def ok_law02_FixSteady (F : Nat) (a0 : Int) (a1 : Int) (a2 : Int) : Bool := okT to_law02_FixSteady (f_law02_FixSteady F a0 a1 a2)
def o_law02_FixSteady_0 (F : Nat) (a0 : Int) (a1 : Int) (a2 : Int) : Bool := atB (nth (outT to_law02_FixSteady (f_law02_FixSteady F a0 a1 a2)) 0)
theorem k_law02_FixSteady (F : Nat) (a0 : Int) (a1 : Int) (a2 : Int) {z0 : Bool} (h : f_law02_FixSteady F a0 a1 a2 = some (.v (.bool z0))) : ok_law02_FixSteady F a0 a1 a2 = true ∧ o_law02_FixSteady_0 F a0 a1 a2 = z0 := by
  refine ⟨?_, ?_⟩
  · unfold ok_law02_FixSteady; rw [h]; kernel_rfl
  · unfold o_law02_FixSteady_0; rw [h]; kernel_rfl
def s_law02_FixSteady (F : Nat) : List VV → Option (Bool × VV) := spec ti_law02_FixSteady to_law02_FixSteady (fun q => (ok_law02_FixSteady F (atI (nth q 0)) (atI (nth q 1)) (atI (nth q 2)))) (fun q => [.b (o_law02_FixSteady_0 F (atI (nth q 0)) (atI (nth q 1)) (atI (nth q 2)))])
theorem hS_law02_FixSteady (F : Nat) : ∀ f, Good PP f (unS (S_law02_FixSteady F f)) := words_good fun p hp => by
  simp only [List.mem_cons, List.not_mem_nil, or_false] at hp
  rcases hp with rfl | rfl | rfl
  · exact g_law02_works F
  · exact g_fix_Add F
  · exact g_fix_Mul F
theorem hl_law02_FixSteady (F : Nat) : ∀ p ∈ loopsIn PP 16, LoopOK PP (S_law02_FixSteady F) c_law02_FixSteady F (I_law02_FixSteady F) p :=
  loops_of [] (by kernel_rfl) all_nil
theorem g_law02_FixSteady (F : Nat) : Good PP 16 (unS (s_law02_FixSteady F)) :=
  fun_spec (hS_law02_FixSteady F) (by kernel_rfl) (by kernel_rfl) (C := c_law02_FixSteady) (F := fun q => (f_law02_FixSteady F (atI (nth q 0)) (atI (nth q 1)) (atI (nth q 2)))) (fun _ => F) (fun _ => I_law02_FixSteady F) (fun _ => hl_law02_FixSteady F)
    (fun q => (congrArg (funL PP (S_law02_FixSteady F) c_law02_FixSteady (I_law02_FixSteady F) 16) (show (fTs ti_law02_FixSteady q).1 = (fTs ti_law02_FixSteady [.i (atI (nth q 0)), .i (atI (nth q 1)), .i (atI (nth q 2))]).1 by kernel_rfl)).trans (e_law02_FixSteady F (atI (nth q 0)) (atI (nth q 1)) (atI (nth q 2))))
    (fun _ h => (okT_fill h).trans (congrArg some (by kernel_rfl)))

end Go.Xv
namespace Go.Xv
theorem clip_mono {x y : Int} (h : x ≤ y) : clipV x ≤ clipV y := by
  unfold clipV
  repeat' split
  all_goals omega
theorem near_mono {x y : Int} (h : x ≤ y) : near x 32 ≤ near y 32 := by
  unfold near
  rw [if_neg (by decide), if_neg (by decide), show (2 : Int) ^ 32 = 4294967296 by decide, show (2 : Int) ^ (32 - 1) = 2147483648 by decide]
  omega
theorem f_FixSteady (F : Nat) (_hF : 200 ≤ F) {a b c : Int} (ha : I64 a) (hb : I64 b) (hc : I64 c) : f_law02_FixSteady F a b c = some (.v (.bool true)) := by
  unfold f_law02_FixSteady
  dsimp only
  obtain ⟨w1, w2⟩ := a_works02 F
  have e1 : (if b < a then b else a) ≤ (if b > a then b else a) := by split <;> split <;> omega
  have i1 : I64 (if b < a then b else a) := by split <;> assumption
  have i2 : I64 (if b > a then b else a) := by split <;> assumption
  generalize (if b < a then b else a) = l at *
  generalize (if b > a then b else a) = h at *
  obtain ⟨s1, s2, _⟩ := a_fAdd F i1 hc
  obtain ⟨t1, t2, _⟩ := a_fAdd F i2 hc
  refine bp w1 (bn (by rw [w2]; rfl) (bp s1 (bp t1 (bn ?_ ?_))))
  · rw [s2, t2]
    have := clip_mono (show l + c ≤ h + c by omega)
    exact df (by omega)
  · by_cases hc0 : c < 0
    · exact bp (dt hc0) rfl
    · obtain ⟨u1, u2, _⟩ := a_fMul F i1 hc
      obtain ⟨v1, v2, _⟩ := a_fMul F i2 hc
      refine bn (df hc0) (bp u1 (bp v1 (some_bool ?_)))
      rw [u2, v2]
      exact dt (clip_mono (near_mono (Int.mul_le_mul_of_nonneg_right e1 (by omega))))
end Go.Xv
namespace Go.Proofs.Ytpcblnkllakejaa.fixSteady
open Go.ChangeShapes Go.WideShapes Go.ChangeAt Go.RowKit Go.Xv Go.Proofs.Ytpcblnkllakejaa.base
set_option linter.unusedVariables false
set_option maxRecDepth 100000 in
theorem lifted (os : Os) (started : os.Started) (H : Type) (enc : TypeId × Value → H) :
    ReturnsInHanded {} Try.checked os 16 .any (Rows.fixSteadySpec.pre6 enc Try.prog Try.f16 Rows.fixSteadyRow.domain false) (Rows.fixSteadySpec.post enc Try.prog Try.f16 false true false false) := by
  refine returnsInHanded_of_change (C := Try.checked) own started (by kernel_rfl) Try.func16
    (ChangeSpec.witness6 (enc := enc) (C := Try.checked) false ⟨#[], #[.int .i64 0, .int .i64 0, .int .i64 0], []⟩ 8 (by kernel_rfl) (by kernel_rfl) (by kernel_rfl) (by kernel_rfl)) ?_
  intro W base args ds gs before hval0 hW hcnd _
  have hval : ∀ (j : Nat) t v, Try.f16.params[j]? = some t → args[j]? = some v → Value.okWide Try.prog W .any base t v := hval0
  have hW' := hW
  obtain ⟨p, q, hA0, hV, rfl, hfz, hnd⟩ := hW
  have hA : DataW.TrodAll enc Try.prog W 0 (fun _ => true) true Try.f16.params.toList args.toList ds p := hA0
  rw [Try.params16] at hA hval
  obtain ⟨v0, vs0, d0, ds0, p0, q0, hargs, rfl, rfl, h0, r0⟩ := trodAll_cons hA
  obtain ⟨v1, vs1, d1, ds1, p1, q1, rfl, rfl, rfl, h1, r1⟩ := trodAll_cons r0
  obtain ⟨v2, vs2, d2, ds2, p2, q2, rfl, rfl, rfl, h2, r2⟩ := trodAll_cons r1
  obtain ⟨rfl, rfl, rfl⟩ := trodAll_nil r2
  obtain rfl : args = #[v0, v1, v2] := by cases args; simp_all
  obtain ⟨a0, rfl, wa0⟩ := open_num (k := .i64) (by kernel_rfl) (hval 0 27 v0 rfl rfl) h0
  obtain ⟨a1, rfl, wa1⟩ := open_num (k := .i64) (by kernel_rfl) (hval 1 27 v1 rfl rfl) h1
  obtain ⟨a2, rfl, wa2⟩ := open_num (k := .i64) (by kernel_rfl) (hval 2 27 v2 rfl rfl) h2
  refine law_contract laidOut (g_law02_FixSteady fuel0) (bt := 4) (by kernel_rfl) (by kernel_rfl) (by kernel_rfl) (by kernel_rfl) rfl hW' ?_
  refine ⟨[.v (.int .i64 a0), .v (.int .i64 a1), .v (.int .i64 a2)], rfl, fun i x hx => ?_, unS_of ?_⟩
  · match i, hx with
    | 0, hx => exact ⟨_, rfl, by cases hx; exact Rel.v _ _⟩
    | 1, hx => exact ⟨_, rfl, by cases hx; exact Rel.v _ _⟩
    | 2, hx => exact ⟨_, rfl, by cases hx; exact Rel.v _ _⟩
    | _ + 3, hx => cases hx
  · obtain ⟨y1, y2⟩ := k_law02_FixSteady fuel0 a0 a1 a2 (f_FixSteady fuel0 (by unfold fuel0; omega) (wf_i64 wa0) (wf_i64 wa1) (wf_i64 wa2))
    have e : s_law02_FixSteady fuel0 [.v (.int .i64 a0), .v (.int .i64 a1), .v (.int .i64 a2)] = some (ok_law02_FixSteady fuel0 a0 a1 a2, .v (.bool (o_law02_FixSteady_0 fuel0 a0 a1 a2))) := by kernel_rfl
    rw [e, y1, y2]
theorem over : Rows.fixSteadyRow.holds Try.pinned (OpenSpec.ofChange Rows.fixSteadySpec) :=
  OpenClaim.holds_of_wide 16 Try.f16 rfl rfl rfl rfl rfl rfl rfl ⟨rfl, rfl, rfl, rfl, rfl⟩ rfl rfl rfl rfl rfl (by kernel_rfl) Try.func16 (joined_of (P := Try.prog) behind enter_ rfl rfl ⟨rfl, rfl⟩ (by kernel_rfl))
    (of_decide_eq_true (by kernel_rfl)) (by unfold Func.isWrapper; first | (rw [if_pos (by decide +kernel)]; kernel_rfl) | (rw [if_neg (by decide +kernel)]; exact ⟨rfl, rfl⟩))
    (fun os started H enc _ => lifted os started H enc)
/-- The statement. -/
theorem proved : Rows.FixSteadySaid := over
#print axioms proved
end Go.Proofs.Ytpcblnkllakejaa.fixSteady
