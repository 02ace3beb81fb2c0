/- The root's square is not above the number, and the next one's is: the law returns true for every input, and leaves its arguments as they were. -/
import Derived.Test.YtpcblnkllakejaaR
import Derived.Test.YtpcblnkllakejaaProg
import Derived.KernelRfl
set_option linter.unusedVariables false
namespace Go.Xv
/- 13 _law04_RootGreatest -/
def c_law04_RootGreatest : Cfg := ⟨[0, 2, 3, 4, 6], [], []⟩
def ti_law04_RootGreatest : List TV := [.v (.int .u64)]
def to_law04_RootGreatest : TV := .v (.bool)
def S_law04_RootGreatest (F : Nat) : FuncId → List VV → Option (Bool × VV) := words [(67, s_law04_works F), (63, s_root_Of F), (66, s_ref04_Square F), (56, s_ref01_Less F), (65, s_root_Square F)]
def W_law04_RootGreatest (F : Nat) : List LW := []
def I_law04_RootGreatest (F : Nat) : Nat → VS → (Exit → VS → R) → R := tabI c_law04_RootGreatest (W_law04_RootGreatest F)
def f_law04_RootGreatest (F : Nat) (a0 : Int) : R :=
  bif (ok_law04_works F) then (
    bif ((!((o_law04_works_0 F)))) then (
      some (.v (.bool false)))
    else (
      bif (ok_root_Of F a0) then (
        let v1575 : Int := (IntKind.wrap .u64 ((o_root_Of_0 F a0)))
        bif (ok_ref04_Square F v1575) then (
          let v1576 : Int := (o_ref04_Square_0 F v1575)
          let v1577 : Int := (o_ref04_Square_1 F v1575)
          bif (ok_ref01_Less F 0 a0 v1576 v1577) then (
            bif ((!((o_ref01_Less_0 F 0 a0 v1576 v1577)))) then (
              let v1580 : Int := (IntKind.wrap .u64 (v1575 + 1))
              bif (ok_ref04_Square F v1580) then (
                let v1581 : Int := (o_ref04_Square_0 F v1580)
                let v1582 : Int := (o_ref04_Square_1 F v1580)
                bif (ok_ref01_Less F 0 a0 v1581 v1582) then (
                  bif ((o_ref01_Less_0 F 0 a0 v1581 v1582)) then (
                    bif (ok_root_Square F v1575) then (
                      bif (ok_ref04_Square F v1575) then (
                        some (.v (.bool (((((o_root_Square_0 F v1575)) == ((o_ref04_Square_0 F v1575))) && (((o_root_Square_1 F v1575)) == ((o_ref04_Square_1 F v1575))))))))
                      else (
                        none))
                    else (
                      none))
                  else (
                    some (.v (.bool false))))
                else (
                  none))
              else (
                none))
            else (
              some (.v (.bool false))))
          else (
            none))
        else (
          none))
      else (
        none)))
  else (
    none)
theorem e_law04_RootGreatest (F : Nat) (a0 : Int) : funL PP (S_law04_RootGreatest F) c_law04_RootGreatest (I_law04_RootGreatest F) 13 (fTs ti_law04_RootGreatest [.i a0]).1 = f_law04_RootGreatest F a0 := by
  have h : ∀ (ok_law04_works : Nat → Bool) (o_law04_works_0 : Nat → Bool) (ok_root_Of : Nat → Int → Bool) (o_root_Of_0 : Nat → Int → Int) (ok_ref04_Square : Nat → Int → Bool) (o_ref04_Square_0 : Nat → Int → Int) (o_ref04_Square_1 : Nat → Int → Int) (ok_ref01_Less : Nat → Int → Int → Int → Int → Bool) (o_ref01_Less_0 : Nat → Int → Int → Int → Int → Bool) (ok_root_Square : Nat → Int → Bool) (o_root_Square_0 : Nat → Int → Int) (o_root_Square_1 : Nat → Int → Int), funL PP (words [(67, spec ti_law04_works to_law04_works (fun q => (ok_law04_works F )) (fun q => [.b (o_law04_works_0 F )])), (63, spec ti_root_Of to_root_Of (fun q => (ok_root_Of F (atI (nth q 0)))) (fun q => [.i (o_root_Of_0 F (atI (nth q 0)))])), (66, spec ti_ref04_Square to_ref04_Square (fun q => (ok_ref04_Square F (atI (nth q 0)))) (fun q => [.i (o_ref04_Square_0 F (atI (nth q 0))), .i (o_ref04_Square_1 F (atI (nth q 0)))])), (56, spec ti_ref01_Less to_ref01_Less (fun q => (ok_ref01_Less F (atI (nth q 0)) (atI (nth q 1)) (atI (nth q 2)) (atI (nth q 3)))) (fun q => [.b (o_ref01_Less_0 F (atI (nth q 0)) (atI (nth q 1)) (atI (nth q 2)) (atI (nth q 3)))])), (65, spec ti_root_Square to_root_Square (fun q => (ok_root_Square F (atI (nth q 0)))) (fun q => [.i (o_root_Square_0 F (atI (nth q 0))), .i (o_root_Square_1 F (atI (nth q 0)))]))]) c_law04_RootGreatest (tabI c_law04_RootGreatest []) 13 (fTs ti_law04_RootGreatest [.i a0]).1 = (
  bif (ok_law04_works F) then (
    bif ((!((o_law04_works_0 F)))) then (
      some (.v (.bool false)))
    else (
      bif (ok_root_Of F a0) then (
        let v1575 : Int := (IntKind.wrap .u64 ((o_root_Of_0 F a0)))
        bif (ok_ref04_Square F v1575) then (
          let v1576 : Int := (o_ref04_Square_0 F v1575)
          let v1577 : Int := (o_ref04_Square_1 F v1575)
          bif (ok_ref01_Less F 0 a0 v1576 v1577) then (
            bif ((!((o_ref01_Less_0 F 0 a0 v1576 v1577)))) then (
              let v1580 : Int := (IntKind.wrap .u64 (v1575 + 1))
              bif (ok_ref04_Square F v1580) then (
                let v1581 : Int := (o_ref04_Square_0 F v1580)
                let v1582 : Int := (o_ref04_Square_1 F v1580)
                bif (ok_ref01_Less F 0 a0 v1581 v1582) then (
                  bif ((o_ref01_Less_0 F 0 a0 v1581 v1582)) then (
                    bif (ok_root_Square F v1575) then (
                      bif (ok_ref04_Square F v1575) then (
                        some (.v (.bool (((((o_root_Square_0 F v1575)) == ((o_ref04_Square_0 F v1575))) && (((o_root_Square_1 F v1575)) == ((o_ref04_Square_1 F v1575))))))))
                      else (
                        none))
                    else (
                      none))
                  else (
                    some (.v (.bool false))))
                else (
                  none))
              else (
                none))
            else (
              some (.v (.bool false))))
          else (
            none))
        else (
          none))
      else (
        none)))
  else (
    none) : R) := by
    intros
    kernel_rfl
  exact (h ok_law04_works o_law04_works_0 ok_root_Of o_root_Of_0 ok_ref04_Square o_ref04_Square_0 o_ref04_Square_1 ok_ref01_Less o_ref01_Less_0 ok_root_Square o_root_Square_0 o_root_Square_1).trans (by kernel_rfl)
def ok_law04_RootGreatest (F : Nat) (a0 : Int) : Bool := okT to_law04_RootGreatest (f_law04_RootGreatest F a0)
def o_law04_RootGreatest_0 (F : Nat) (a0 : Int) : Bool := atB (nth (outT to_law04_RootGreatest (f_law04_RootGreatest F a0)) 0)
theorem k_law04_RootGreatest (F : Nat) (a0 : Int) {z0 : Bool} (h : f_law04_RootGreatest F a0 = some (.v (.bool z0))) : ok_law04_RootGreatest F a0 = true ∧ o_law04_RootGreatest_0 F a0 = z0 := by
  refine ⟨?_, ?_⟩
  · unfold ok_law04_RootGreatest; rw [h]; kernel_rfl
  · unfold o_law04_RootGreatest_0; rw [h]; kernel_rfl
def s_law04_RootGreatest (F : Nat) : List VV → Option (Bool × VV) := spec ti_law04_RootGreatest to_law04_RootGreatest (fun q => (ok_law04_RootGreatest F (atI (nth q 0)))) (fun q => [.b (o_law04_RootGreatest_0 F (atI (nth q 0)))])
theorem hS_law04_RootGreatest (F : Nat) : ∀ f, Good PP f (unS (S_law04_RootGreatest F f)) := words_good fun p hp => by
  simp only [List.mem_cons, List.not_mem_nil, or_false] at hp
  rcases hp with rfl | rfl | rfl | rfl | rfl
  · exact g_law04_works F
  · exact g_root_Of F
  · exact g_ref04_Square F
  · exact g_ref01_Less F
  · exact g_root_Square F
theorem hl_law04_RootGreatest (F : Nat) : ∀ p ∈ loopsIn PP 13, LoopOK PP (S_law04_RootGreatest F) c_law04_RootGreatest F (I_law04_RootGreatest F) p :=
  loops_of [] (by kernel_rfl) all_nil
theorem g_law04_RootGreatest (F : Nat) : Good PP 13 (unS (s_law04_RootGreatest F)) :=
  fun_spec (hS_law04_RootGreatest F) (by kernel_rfl) (by kernel_rfl) (C := c_law04_RootGreatest) (F := fun q => (f_law04_RootGreatest F (atI (nth q 0)))) (fun _ => F) (fun _ => I_law04_RootGreatest F) (fun _ => hl_law04_RootGreatest F)
    (fun q => (congrArg (funL PP (S_law04_RootGreatest F) c_law04_RootGreatest (I_law04_RootGreatest F) 13) (show (fTs ti_law04_RootGreatest q).1 = (fTs ti_law04_RootGreatest [.i (atI (nth q 0))]).1 by kernel_rfl)).trans (e_law04_RootGreatest F (atI (nth q 0))))
    (fun _ h => (okT_fill h).trans (congrArg some (by kernel_rfl)))

end Go.Xv
namespace Go.Xv
theorem f_RootGreatest (F : Nat) (hF : 200 ≤ F) {n : Int} (hn : U64 n) : f_law04_RootGreatest F n = some (.v (.bool true)) := by
  unfold f_law04_RootGreatest
  dsimp only
  obtain ⟨k1, k2⟩ := a_rootOf F hF hn
  obtain ⟨w1, w2⟩ := a_works04 F hF
  obtain ⟨r1, r2⟩ := rt32 hn
  obtain ⟨_, r3, r4⟩ := rt_spec hn.1
  have hU1 : U64 (rt n) := by unfold U64; omega
  have hU2 : U64 (rt n + 1) := by unfold U64; omega
  refine bp w1 (bn (by rw [w2]; rfl) (bp k1 ?_))
  rw [k2, wu64_in hU1, wu64_in hU2]
  obtain ⟨a1, a2, a3⟩ := a_rSquare F hF hU1
  obtain ⟨b1, b2, b3⟩ := a_rSquare F hF hU2
  obtain ⟨c1, c2, c3⟩ := a_Square F hU1
  have q1 := sq_le (x := rt n) (y := 4294967295) (by omega) (by omega)
  have q2 := sq_le (x := rt n + 1) (y := 4294967296) (by omega) (by omega)
  have q3 := Int.mul_nonneg (show 0 ≤ rt n by omega) (show 0 ≤ rt n by omega)
  have q4 := Int.mul_nonneg (show 0 ≤ rt n + 1 by omega) (show 0 ≤ rt n + 1 by omega)
  obtain ⟨l1, l2⟩ := k_ref01_Less F _ _ _ _ (f_rLess F (a := 0) (c := hi (rt n * rt n)) hn (lo_U (rt n * rt n)))
  obtain ⟨m1, m2⟩ := k_ref01_Less F _ _ _ _ (f_rLess F (a := 0) (c := hi ((rt n + 1) * (rt n + 1))) hn (lo_U ((rt n + 1) * (rt n + 1))))
  rw [val_hl, W_in (by unfold W128; omega), val0] at l2 m2
  refine bp a1 ?_
  rw [a2, a3]
  refine bp l1 (bp (by rw [l2, df (by omega)]; rfl) (bp b1 ?_))
  rw [b2, b3]
  refine bp m1 (bp (by rw [m2, dt r4]) (bp c1 (bp a1 ?_)))
  rw [c2, c3]
  simp
end Go.Xv
namespace Go.Proofs.Ytpcblnkllakejaa.rootGreatest
open Go.ChangeShapes Go.WideShapes Go.ChangeAt Go.RowKit Go.Xv Go.Proofs.Ytpcblnkllakejaa.base
set_option linter.unusedVariables false
set_option maxRecDepth 100000 in
theorem lifted (os : Os) (started : os.Started) (H : Type) (enc : TypeId × Value → H) :
    ReturnsInHanded {} Try.checked os 13 .any (Rows.rootGreatestSpec.pre6 enc Try.prog Try.f13 Rows.rootGreatestRow.domain false) (Rows.rootGreatestSpec.post enc Try.prog Try.f13 false true false false) := by
  refine returnsInHanded_of_change (C := Try.checked) own started (by kernel_rfl) Try.func13
    (ChangeSpec.witness6 (enc := enc) (C := Try.checked) false ⟨#[], #[.int .u64 0], []⟩ 8 (by kernel_rfl) (by kernel_rfl) (by kernel_rfl) (by kernel_rfl)) ?_
  intro W base args ds gs before hval0 hW hcnd _
  have hval : ∀ (j : Nat) t v, Try.f13.params[j]? = some t → args[j]? = some v → Value.okWide Try.prog W .any base t v := hval0
  have hW' := hW
  obtain ⟨p, q, hA0, hV, rfl, hfz, hnd⟩ := hW
  have hA : DataW.TrodAll enc Try.prog W 0 (fun _ => true) true Try.f13.params.toList args.toList ds p := hA0
  rw [Try.params13] at hA hval
  obtain ⟨v0, vs0, d0, ds0, p0, q0, hargs, rfl, rfl, h0, r0⟩ := trodAll_cons hA
  obtain ⟨rfl, rfl, rfl⟩ := trodAll_nil r0
  obtain rfl : args = #[v0] := by cases args; simp_all
  obtain ⟨a0, rfl, wa0⟩ := open_num (k := .u64) (by kernel_rfl) (hval 0 47 v0 rfl rfl) h0
  refine law_contract laidOut (g_law04_RootGreatest fuel0) (bt := 4) (by kernel_rfl) (by kernel_rfl) (by kernel_rfl) (by kernel_rfl) rfl hW' ?_
  refine ⟨[.v (.int .u64 a0)], rfl, fun i x hx => ?_, unS_of ?_⟩
  · match i, hx with
    | 0, hx => exact ⟨_, rfl, by cases hx; exact Rel.v _ _⟩
    | _ + 1, hx => cases hx
  · obtain ⟨y1, y2⟩ := k_law04_RootGreatest fuel0 a0 (f_RootGreatest fuel0 (by unfold fuel0; omega) (wf_u64 wa0))
    have e : s_law04_RootGreatest fuel0 [.v (.int .u64 a0)] = some (ok_law04_RootGreatest fuel0 a0, .v (.bool (o_law04_RootGreatest_0 fuel0 a0))) := by kernel_rfl
    rw [e, y1, y2]
theorem over : Rows.rootGreatestRow.holds Try.pinned (OpenSpec.ofChange Rows.rootGreatestSpec) :=
  OpenClaim.holds_of_wide 13 Try.f13 rfl rfl rfl rfl rfl rfl rfl ⟨rfl, rfl, rfl, rfl, rfl⟩ rfl rfl rfl rfl rfl (by kernel_rfl) Try.func13 (joined_of (P := Try.prog) behind enter_ rfl rfl ⟨rfl, rfl⟩ (by kernel_rfl))
    (of_decide_eq_true (by kernel_rfl)) (by unfold Func.isWrapper; first | (rw [if_pos (by decide +kernel)]; kernel_rfl) | (rw [if_neg (by decide +kernel)]; exact ⟨rfl, rfl⟩))
    (fun os started H enc _ => lifted os started H enc)
/-- The statement. -/
theorem proved : Rows.RootGreatestSaid := over
#print axioms proved
end Go.Proofs.Ytpcblnkllakejaa.rootGreatest
