/- Turning one way and back comes to nothing, or to the last part: the law returns true for every input, and leaves its arguments as they were. -/
import Derived.Test.YtpcblnkllakejaaS
import Derived.Test.YtpcblnkllakejaaProg
import Derived.KernelRfl
set_option linter.unusedVariables false
namespace Go.Xv
/- 4 _law03_SmallAround -/
def c_law03_SmallAround : Cfg := ⟨[0, 1, 4, 5, 7, 9], [], []⟩
def ti_law03_SmallAround : List TV := [.v (.int .i32), .v (.int .i64)]
def to_law03_SmallAround : TV := .v (.bool)
def S_law03_SmallAround (F : Nat) : FuncId → List VV → Option (Bool × VV) := words [(27, s_law03_works F), (25, s_small_Turn F)]
def W_law03_SmallAround (F : Nat) : List LW := []
def I_law03_SmallAround (F : Nat) : Nat → VS → (Exit → VS → R) → R := tabI c_law03_SmallAround (W_law03_SmallAround F)
def f_law03_SmallAround (F : Nat) (a0 : Int) (a1 : Int) : R :=
  bif (ok_law03_works F) then (
    bif ((!((o_law03_works_0 F)))) then (
      some (.v (.bool false)))
    else (
      bif ((a0 == (-2147483648))) then (
        bif (ok_small_Turn F 2147483647 a1) then (
          bif (ok_small_Turn F ((-2147483647)) a1) then (
            let v2046 : Int := (IntKind.wrap .u32 (((o_small_Turn_0 F 2147483647 a1)) + ((o_small_Turn_0 F ((-2147483647)) a1))))
            bif ((v2046 == 0)) then (
              some (.v (.bool true)))
            else (
              some (.v (.bool ((v2046 == 4294967295))))))
          else (
            none))
        else (
          none))
      else (
        bif (ok_small_Turn F a0 a1) then (
          let v2050 : Int := (IntKind.wrap .i32 (0 - a0))
          bif (ok_small_Turn F v2050 a1) then (
            let v2052 : Int := (IntKind.wrap .u32 (((o_small_Turn_0 F a0 a1)) + ((o_small_Turn_0 F v2050 a1))))
            bif ((v2052 == 0)) then (
              some (.v (.bool true)))
            else (
              some (.v (.bool ((v2052 == 4294967295))))))
          else (
            none))
        else (
          none))))
  else (
    none)
theorem e_law03_SmallAround (F : Nat) (a0 : Int) (a1 : Int) : funL PP (S_law03_SmallAround F) c_law03_SmallAround (I_law03_SmallAround F) 4 (fTs ti_law03_SmallAround [.i a0, .i a1]).1 = f_law03_SmallAround F a0 a1 := by
  have h : ∀ (ok_law03_works : Nat → Bool) (o_law03_works_0 : Nat → Bool) (ok_small_Turn : Nat → Int → Int → Bool) (o_small_Turn_0 : Nat → Int → Int → Int), funL PP (words [(27, spec ti_law03_works to_law03_works (fun q => (ok_law03_works F )) (fun q => [.b (o_law03_works_0 F )])), (25, spec ti_small_Turn to_small_Turn (fun q => (ok_small_Turn F (atI (nth q 0)) (atI (nth q 1)))) (fun q => [.i (o_small_Turn_0 F (atI (nth q 0)) (atI (nth q 1)))]))]) c_law03_SmallAround (tabI c_law03_SmallAround []) 4 (fTs ti_law03_SmallAround [.i a0, .i a1]).1 = (
  bif (ok_law03_works F) then (
    bif ((!((o_law03_works_0 F)))) then (
      some (.v (.bool false)))
    else (
      bif ((a0 == (-2147483648))) then (
        bif (ok_small_Turn F 2147483647 a1) then (
          bif (ok_small_Turn F ((-2147483647)) a1) then (
            let v2046 : Int := (IntKind.wrap .u32 (((o_small_Turn_0 F 2147483647 a1)) + ((o_small_Turn_0 F ((-2147483647)) a1))))
            bif ((v2046 == 0)) then (
              some (.v (.bool true)))
            else (
              some (.v (.bool ((v2046 == 4294967295))))))
          else (
            none))
        else (
          none))
      else (
        bif (ok_small_Turn F a0 a1) then (
          let v2050 : Int := (IntKind.wrap .i32 (0 - a0))
          bif (ok_small_Turn F v2050 a1) then (
            let v2052 : Int := (IntKind.wrap .u32 (((o_small_Turn_0 F a0 a1)) + ((o_small_Turn_0 F v2050 a1))))
            bif ((v2052 == 0)) then (
              some (.v (.bool true)))
            else (
              some (.v (.bool ((v2052 == 4294967295))))))
          else (
            none))
        else (
          none))))
  else (
    none) : R) := by
    intros
    kernel_rfl
  exact (h ok_law03_works o_law03_works_0 ok_small_Turn o_small_Turn_0).trans (by kernel_rfl)
def ok_law03_SmallAround (F : Nat) (a0 : Int) (a1 : Int) : Bool := okT to_law03_SmallAround (f_law03_SmallAround F a0 a1)
def o_law03_SmallAround_0 (F : Nat) (a0 : Int) (a1 : Int) : Bool := atB (nth (outT to_law03_SmallAround (f_law03_SmallAround F a0 a1)) 0)
theorem k_law03_SmallAround (F : Nat) (a0 : Int) (a1 : Int) {z0 : Bool} (h : f_law03_SmallAround F a0 a1 = some (.v (.bool z0))) : ok_law03_SmallAround F a0 a1 = true ∧ o_law03_SmallAround_0 F a0 a1 = z0 := by
  refine ⟨?_, ?_⟩
  · unfold ok_law03_SmallAround; rw [h]; kernel_rfl
  · unfold o_law03_SmallAround_0; rw [h]; kernel_rfl
def s_law03_SmallAround (F : Nat) : List VV → Option (Bool × VV) := spec ti_law03_SmallAround to_law03_SmallAround (fun q => (ok_law03_SmallAround F (atI (nth q 0)) (atI (nth q 1)))) (fun q => [.b (o_law03_SmallAround_0 F (atI (nth q 0)) (atI (nth q 1)))])
theorem hS_law03_SmallAround (F : Nat) : ∀ f, Good PP f (unS (S_law03_SmallAround F f)) := words_good fun p hp => by
  simp only [List.mem_cons, List.not_mem_nil, or_false] at hp
  rcases hp with rfl | rfl
  · exact g_law03_works F
  · exact g_small_Turn F
theorem hl_law03_SmallAround (F : Nat) : ∀ p ∈ loopsIn PP 4, LoopOK PP (S_law03_SmallAround F) c_law03_SmallAround F (I_law03_SmallAround F) p :=
  loops_of [] (by kernel_rfl) all_nil
theorem g_law03_SmallAround (F : Nat) : Good PP 4 (unS (s_law03_SmallAround F)) :=
  fun_spec (hS_law03_SmallAround F) (by kernel_rfl) (by kernel_rfl) (C := c_law03_SmallAround) (F := fun q => (f_law03_SmallAround F (atI (nth q 0)) (atI (nth q 1)))) (fun _ => F) (fun _ => I_law03_SmallAround F) (fun _ => hl_law03_SmallAround F)
    (fun q => (congrArg (funL PP (S_law03_SmallAround F) c_law03_SmallAround (I_law03_SmallAround F) 4) (show (fTs ti_law03_SmallAround q).1 = (fTs ti_law03_SmallAround [.i (atI (nth q 0)), .i (atI (nth q 1))]).1 by kernel_rfl)).trans (e_law03_SmallAround F (atI (nth q 0)) (atI (nth q 1))))
    (fun _ h => (okT_fill h).trans (congrArg some (by kernel_rfl)))

end Go.Xv
namespace Go.Xv
theorem turn_around (x : Int) : IntKind.wrap .u32 (turnV x + turnV (-x)) = 0 ∨ IntKind.wrap .u32 (turnV x + turnV (-x)) = 4294967295 := by
  rw [wu32]
  unfold turnV
  have e : -x * 65536 / 100 = -(x * 65536 / 100) ∨ -x * 65536 / 100 = -(x * 65536 / 100) - 1 := by omega
  generalize x * 65536 / 100 = u at *
  rcases e with e | e <;> rw [e] <;> omega
theorem around_ok {n : Int} (h : n = 0 ∨ n = 4294967295) : (bif (n == 0) then (some (.v (.bool true)) : R) else some (.v (.bool (n == 4294967295)))) = some (.v (.bool true)) := by
  rcases h with rfl | rfl
  · rfl
  · rfl
theorem f_SmallAround (F : Nat) (_hF : 200 ≤ F) {a n : Int} (ha : I32 a) (_hn : I64 n) : f_law03_SmallAround F a n = some (.v (.bool true)) := by
  unfold f_law03_SmallAround
  dsimp only
  obtain ⟨w1, w2⟩ := a_works03 F
  refine bp w1 (bn (by rw [w2]; rfl) ?_)
  by_cases h : a = -2147483648
  · obtain ⟨h1, h2⟩ := a_Turn F (a := 2147483647) n (by unfold I32; omega)
    obtain ⟨g1, g2⟩ := a_Turn F (a := -2147483647) n (by unfold I32; omega)
    refine bp (by simp [h]) (bp h1 (bp g1 ?_))
    rw [h2, g2]
    have := turn_around (2147483647 * tk n)
    rw [← Int.neg_mul] at this
    exact around_ok this
  · obtain ⟨h1, h2⟩ := a_Turn F n ha
    have hm : I32 (-a) := by unfold I32 at *; omega
    obtain ⟨g1, g2⟩ := a_Turn F n hm
    refine bn (by simp [h]) (bp h1 ?_)
    rw [wi32_in (x := 0 - a) (by unfold I32 at *; omega), Int.zero_sub]
    refine bp g1 ?_
    rw [h2, g2]
    have := turn_around (a * tk n)
    rw [← Int.neg_mul] at this
    exact around_ok this
end Go.Xv
namespace Go.Proofs.Ytpcblnkllakejaa.smallAround
open Go.ChangeShapes Go.WideShapes Go.ChangeAt Go.RowKit Go.Xv Go.Proofs.Ytpcblnkllakejaa.base
set_option linter.unusedVariables false
set_option maxRecDepth 100000 in
theorem lifted (os : Os) (started : os.Started) (H : Type) (enc : TypeId × Value → H) :
    ReturnsInHanded {} Try.checked os 4 .any (Rows.smallAroundSpec.pre6 enc Try.prog Try.f4 Rows.smallAroundRow.domain false) (Rows.smallAroundSpec.post enc Try.prog Try.f4 false true false false) := by
  refine returnsInHanded_of_change (C := Try.checked) own started (by kernel_rfl) Try.func4
    (ChangeSpec.witness6 (enc := enc) (C := Try.checked) false ⟨#[], #[.int .i32 0, .int .i64 0], []⟩ 8 (by kernel_rfl) (by kernel_rfl) (by kernel_rfl) (by kernel_rfl)) ?_
  intro W base args ds gs before hval0 hW hcnd _
  have hval : ∀ (j : Nat) t v, Try.f4.params[j]? = some t → args[j]? = some v → Value.okWide Try.prog W .any base t v := hval0
  have hW' := hW
  obtain ⟨p, q, hA0, hV, rfl, hfz, hnd⟩ := hW
  have hA : DataW.TrodAll enc Try.prog W 0 (fun _ => true) true Try.f4.params.toList args.toList ds p := hA0
  rw [Try.params4] at hA hval
  obtain ⟨v0, vs0, d0, ds0, p0, q0, hargs, rfl, rfl, h0, r0⟩ := trodAll_cons hA
  obtain ⟨v1, vs1, d1, ds1, p1, q1, rfl, rfl, rfl, h1, r1⟩ := trodAll_cons r0
  obtain ⟨rfl, rfl, rfl⟩ := trodAll_nil r1
  obtain rfl : args = #[v0, v1] := by cases args; simp_all
  obtain ⟨a0, rfl, wa0⟩ := open_num (k := .i32) (by kernel_rfl) (hval 0 22 v0 rfl rfl) h0
  obtain ⟨a1, rfl, wa1⟩ := open_num (k := .i64) (by kernel_rfl) (hval 1 3 v1 rfl rfl) h1
  refine law_contract laidOut (g_law03_SmallAround fuel0) (bt := 4) (by kernel_rfl) (by kernel_rfl) (by kernel_rfl) (by kernel_rfl) rfl hW' ?_
  refine ⟨[.v (.int .i32 a0), .v (.int .i64 a1)], rfl, fun i x hx => ?_, unS_of ?_⟩
  · match i, hx with
    | 0, hx => exact ⟨_, rfl, by cases hx; exact Rel.v _ _⟩
    | 1, hx => exact ⟨_, rfl, by cases hx; exact Rel.v _ _⟩
    | _ + 2, hx => cases hx
  · obtain ⟨y1, y2⟩ := k_law03_SmallAround fuel0 a0 a1 (f_SmallAround fuel0 (by unfold fuel0; omega) (wf_i32 wa0) (wf_i64 wa1))
    have e : s_law03_SmallAround fuel0 [.v (.int .i32 a0), .v (.int .i64 a1)] = some (ok_law03_SmallAround fuel0 a0 a1, .v (.bool (o_law03_SmallAround_0 fuel0 a0 a1))) := by kernel_rfl
    rw [e, y1, y2]
theorem over : Rows.smallAroundRow.holds Try.pinned (OpenSpec.ofChange Rows.smallAroundSpec) :=
  OpenClaim.holds_of_wide 4 Try.f4 rfl rfl rfl rfl rfl rfl rfl ⟨rfl, rfl, rfl, rfl, rfl⟩ rfl rfl rfl rfl rfl (by kernel_rfl) Try.func4 (joined_of (P := Try.prog) behind enter_ rfl rfl ⟨rfl, rfl⟩ (by kernel_rfl))
    (of_decide_eq_true (by kernel_rfl)) (by unfold Func.isWrapper; first | (rw [if_pos (by decide +kernel)]; kernel_rfl) | (rw [if_neg (by decide +kernel)]; exact ⟨rfl, rfl⟩))
    (fun os started H enc _ => lifted os started H enc)
/-- The statement. -/
theorem proved : Rows.SmallAroundSaid := over
#print axioms proved
end Go.Proofs.Ytpcblnkllakejaa.smallAround
