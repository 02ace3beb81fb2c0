/- Of a number that is not below 0 the root times itself is not above it, and the next one's is: the law returns true for every input, and leaves its arguments as they were. -/
import Derived.Test.YtpcblnkllakejaaR
import Derived.Test.YtpcblnkllakejaaProg
import Derived.KernelRfl
set_option linter.unusedVariables false
namespace Go.Xv
/- 15 _law04_RootFix -/
def c_law04_RootFix : Cfg := ⟨[0, 2, 3, 4, 5, 7, 14], [], []⟩
def ti_law04_RootFix : List TV := [.v (.int .i64)]
def to_law04_RootFix : TV := .v (.bool)
def S_law04_RootFix (F : Nat) : FuncId → List VV → Option (Bool × VV) := words [(67, s_law04_works F), (61, s_root_Fix F), (58, s_ref01_Of F), (46, s_ref01_Left F), (66, s_ref04_Square F), (56, s_ref01_Less F)]
def W_law04_RootFix (F : Nat) : List LW := []
def I_law04_RootFix (F : Nat) : Nat → VS → (Exit → VS → R) → R := tabI c_law04_RootFix (W_law04_RootFix F)
def f_law04_RootFix (F : Nat) (a0 : Int) : R :=
  bif (ok_law04_works F) then (
    bif ((!((o_law04_works_0 F)))) then (
      some (.v (.bool false)))
    else (
      bif (ok_root_Fix F a0) then (
        let v1610 : Int := (o_root_Fix_0 F a0)
        let v1611 : Bool := (o_root_Fix_1 F a0)
        bif ((decide (a0 < 0))) then (
          bif ((v1610 == 0)) then (
            some (.v (.bool ((!v1611)))))
          else (
            some (.v (.bool false))))
        else (
          bif (ok_ref01_Of F a0) then (
            let v1615 : Int := (o_ref01_Of_0 F a0)
            let v1616 : Int := (o_ref01_Of_1 F a0)
            bif (ok_ref01_Left F v1615 v1616 32) then (
              let v1617 : Int := (o_ref01_Left_0 F v1615 v1616 32)
              let v1618 : Int := (o_ref01_Left_1 F v1615 v1616 32)
              bif v1611 then (
                bif ((decide (v1610 ≥ 0))) then (
                  let v1620 : Int := (IntKind.wrap .u64 v1610)
                  bif (ok_ref04_Square F v1620) then (
                    let v1621 : Int := (o_ref04_Square_0 F v1620)
                    let v1622 : Int := (o_ref04_Square_1 F v1620)
                    bif (ok_ref01_Less F v1617 v1618 v1621 v1622) then (
                      bif ((!((o_ref01_Less_0 F v1617 v1618 v1621 v1622)))) then (
                        let v1626 : Int := (IntKind.wrap .u64 (((IntKind.wrap .u64 v1610)) + 1))
                        bif (ok_ref04_Square F v1626) then (
                          let v1627 : Int := (o_ref04_Square_0 F v1626)
                          let v1628 : Int := (o_ref04_Square_1 F v1626)
                          bif (ok_ref01_Less F v1617 v1618 v1627 v1628) then (
                            some (.v (.bool ((o_ref01_Less_0 F v1617 v1618 v1627 v1628)))))
                          else (
                            none))
                        else (
                          none))
                      else (
                        some (.v (.bool false))))
                    else (
                      none))
                  else (
                    none))
                else (
                  some (.v (.bool false))))
              else (
                some (.v (.bool false))))
            else (
              none))
          else (
            none)))
      else (
        none)))
  else (
    none)
theorem e_law04_RootFix (F : Nat) (a0 : Int) : funL PP (S_law04_RootFix F) c_law04_RootFix (I_law04_RootFix F) 15 (fTs ti_law04_RootFix [.i a0]).1 = f_law04_RootFix F a0 := by
  have h : ∀ (ok_law04_works : Nat → Bool) (o_law04_works_0 : Nat → Bool) (ok_root_Fix : Nat → Int → Bool) (o_root_Fix_0 : Nat → Int → Int) (o_root_Fix_1 : Nat → Int → Bool) (ok_ref01_Of : Nat → Int → Bool) (o_ref01_Of_0 : Nat → Int → Int) (o_ref01_Of_1 : Nat → Int → Int) (ok_ref01_Left : Nat → Int → Int → Int → Bool) (o_ref01_Left_0 : Nat → Int → Int → Int → Int) (o_ref01_Left_1 : Nat → Int → Int → Int → Int) (ok_ref04_Square : Nat → Int → Bool) (o_ref04_Square_0 : Nat → Int → Int) (o_ref04_Square_1 : Nat → Int → Int) (ok_ref01_Less : Nat → Int → Int → Int → Int → Bool) (o_ref01_Less_0 : Nat → Int → Int → Int → Int → Bool), funL PP (words [(67, spec ti_law04_works to_law04_works (fun q => (ok_law04_works F )) (fun q => [.b (o_law04_works_0 F )])), (61, spec ti_root_Fix to_root_Fix (fun q => (ok_root_Fix F (atI (nth q 0)))) (fun q => [.i (o_root_Fix_0 F (atI (nth q 0))), .b (o_root_Fix_1 F (atI (nth q 0)))])), (58, spec ti_ref01_Of to_ref01_Of (fun q => (ok_ref01_Of F (atI (nth q 0)))) (fun q => [.i (o_ref01_Of_0 F (atI (nth q 0))), .i (o_ref01_Of_1 F (atI (nth q 0)))])), (46, spec ti_ref01_Left to_ref01_Left (fun q => (ok_ref01_Left F (atI (nth q 0)) (atI (nth q 1)) (atI (nth q 2)))) (fun q => [.i (o_ref01_Left_0 F (atI (nth q 0)) (atI (nth q 1)) (atI (nth q 2))), .i (o_ref01_Left_1 F (atI (nth q 0)) (atI (nth q 1)) (atI (nth q 2)))])), (66, spec ti_ref04_Square to_ref04_Square (fun q => (ok_ref04_Square F (atI (nth q 0)))) (fun q => [.i (o_ref04_Square_0 F (atI (nth q 0))), .i (o_ref04_Square_1 F (atI (nth q 0)))])), (56, spec ti_ref01_Less to_ref01_Less (fun q => (ok_ref01_Less F (atI (nth q 0)) (atI (nth q 1)) (atI (nth q 2)) (atI (nth q 3)))) (fun q => [.b (o_ref01_Less_0 F (atI (nth q 0)) (atI (nth q 1)) (atI (nth q 2)) (atI (nth q 3)))]))]) c_law04_RootFix (tabI c_law04_RootFix []) 15 (fTs ti_law04_RootFix [.i a0]).1 = (
  bif (ok_law04_works F) then (
    bif ((!((o_law04_works_0 F)))) then (
      some (.v (.bool false)))
    else (
      bif (ok_root_Fix F a0) then (
        let v1610 : Int := (o_root_Fix_0 F a0)
        let v1611 : Bool := (o_root_Fix_1 F a0)
        bif ((decide (a0 < 0))) then (
          bif ((v1610 == 0)) then (
            some (.v (.bool ((!v1611)))))
          else (
            some (.v (.bool false))))
        else (
          bif (ok_ref01_Of F a0) then (
            let v1615 : Int := (o_ref01_Of_0 F a0)
            let v1616 : Int := (o_ref01_Of_1 F a0)
            bif (ok_ref01_Left F v1615 v1616 32) then (
              let v1617 : Int := (o_ref01_Left_0 F v1615 v1616 32)
              let v1618 : Int := (o_ref01_Left_1 F v1615 v1616 32)
              bif v1611 then (
                bif ((decide (v1610 ≥ 0))) then (
                  let v1620 : Int := (IntKind.wrap .u64 v1610)
                  bif (ok_ref04_Square F v1620) then (
                    let v1621 : Int := (o_ref04_Square_0 F v1620)
                    let v1622 : Int := (o_ref04_Square_1 F v1620)
                    bif (ok_ref01_Less F v1617 v1618 v1621 v1622) then (
                      bif ((!((o_ref01_Less_0 F v1617 v1618 v1621 v1622)))) then (
                        let v1626 : Int := (IntKind.wrap .u64 (((IntKind.wrap .u64 v1610)) + 1))
                        bif (ok_ref04_Square F v1626) then (
                          let v1627 : Int := (o_ref04_Square_0 F v1626)
                          let v1628 : Int := (o_ref04_Square_1 F v1626)
                          bif (ok_ref01_Less F v1617 v1618 v1627 v1628) then (
                            some (.v (.bool ((o_ref01_Less_0 F v1617 v1618 v1627 v1628)))))
                          else (
                            none))
                        else (
                          none))
                      else (
                        some (.v (.bool false))))
                    else (
                      none))
                  else (
                    none))
                else (
                  some (.v (.bool false))))
              else (
                some (.v (.bool false))))
            else (
              none))
          else (
            none)))
      else (
        none)))
  else (
    none) : R) := by
    intros
    kernel_rfl
  exact (h ok_law04_works o_law04_works_0 ok_root_Fix o_root_Fix_0 o_root_Fix_1 ok_ref01_Of o_ref01_Of_0 o_ref01_Of_1 ok_ref01_Left o_ref01_Left_0 o_ref01_Left_1 ok_ref04_Square o_ref04_Square_0 o_ref04_Square_1 ok_ref01_Less o_ref01_Less_0).trans (by kernel_rfl)
def ok_law04_RootFix (F : Nat) (a0 : Int) : Bool := okT to_law04_RootFix (f_law04_RootFix F a0)
def o_law04_RootFix_0 (F : Nat) (a0 : Int) : Bool := atB (nth (outT to_law04_RootFix (f_law04_RootFix F a0)) 0)
theorem k_law04_RootFix (F : Nat) (a0 : Int) {z0 : Bool} (h : f_law04_RootFix F a0 = some (.v (.bool z0))) : ok_law04_RootFix F a0 = true ∧ o_law04_RootFix_0 F a0 = z0 := by
  refine ⟨?_, ?_⟩
  · unfold ok_law04_RootFix; rw [h]; kernel_rfl
  · unfold o_law04_RootFix_0; rw [h]; kernel_rfl
def s_law04_RootFix (F : Nat) : List VV → Option (Bool × VV) := spec ti_law04_RootFix to_law04_RootFix (fun q => (ok_law04_RootFix F (atI (nth q 0)))) (fun q => [.b (o_law04_RootFix_0 F (atI (nth q 0)))])
theorem hS_law04_RootFix (F : Nat) : ∀ f, Good PP f (unS (S_law04_RootFix F f)) := words_good fun p hp => by
  simp only [List.mem_cons, List.not_mem_nil, or_false] at hp
  rcases hp with rfl | rfl | rfl | rfl | rfl | rfl
  · exact g_law04_works F
  · exact g_root_Fix F
  · exact g_ref01_Of F
  · exact g_ref01_Left F
  · exact g_ref04_Square F
  · exact g_ref01_Less F
theorem hl_law04_RootFix (F : Nat) : ∀ p ∈ loopsIn PP 15, LoopOK PP (S_law04_RootFix F) c_law04_RootFix F (I_law04_RootFix F) p :=
  loops_of [] (by kernel_rfl) all_nil
theorem g_law04_RootFix (F : Nat) : Good PP 15 (unS (s_law04_RootFix F)) :=
  fun_spec (hS_law04_RootFix F) (by kernel_rfl) (by kernel_rfl) (C := c_law04_RootFix) (F := fun q => (f_law04_RootFix F (atI (nth q 0)))) (fun _ => F) (fun _ => I_law04_RootFix F) (fun _ => hl_law04_RootFix F)
    (fun q => (congrArg (funL PP (S_law04_RootFix F) c_law04_RootFix (I_law04_RootFix F) 15) (show (fTs ti_law04_RootFix q).1 = (fTs ti_law04_RootFix [.i (atI (nth q 0))]).1 by kernel_rfl)).trans (e_law04_RootFix F (atI (nth q 0))))
    (fun _ h => (okT_fill h).trans (congrArg some (by kernel_rfl)))

end Go.Xv
namespace Go.Xv
theorem f_RootFix (F : Nat) (hF : 200 ≤ F) {a : Int} (ha : I64 a) : f_law04_RootFix F a = some (.v (.bool true)) := by
  unfold f_law04_RootFix
  dsimp only
  obtain ⟨w1, w2⟩ := a_works04 F hF
  obtain ⟨i1, i2, i3⟩ := a_rootFix F hF ha
  refine bp w1 (bn (by rw [w2]; rfl) (bp i1 ?_))
  rw [i2, i3]
  by_cases h0 : a < 0
  · refine bp (dt h0) (bp ?_ ?_)
    · unfold fixR; rw [if_pos h0]; rfl
    · rw [dt h0]; rfl
  · have hb := rt_fix ha h0
    have hfx : fixR a = rt (a * 4294967296) := by unfold fixR; rw [if_neg h0]
    rw [hfx]
    have hI := p32W ha
    have hz : 0 ≤ a * 4294967296 := by omega
    obtain ⟨_, r3, r4⟩ := rt_spec hz
    generalize hr : rt (a * 4294967296) = r at *
    have hU1 : U64 r := by unfold U64; omega
    have hU2 : U64 (r + 1) := by unfold U64; omega
    rw [wu64_in hU1, wu64_in hU2]
    obtain ⟨o1, o2, o3⟩ := a_rOf F ha
    obtain ⟨l1, l2, l3⟩ := a_rLeft F hF a 32
    rw [show ((32 : Int).toNat) = 32 from rfl, show (2 : Int) ^ 32 = 4294967296 by decide] at l2 l3
    obtain ⟨a1, a2, a3⟩ := a_rSquare F hF hU1
    obtain ⟨b1, b2, b3⟩ := a_rSquare F hF hU2
    have q1 := sq_le (x := r) (y := 281474976710656) (by omega) (by omega)
    have q2 := sq_le (x := r + 1) (y := 281474976710657) (by omega) (by omega)
    have q3 := Int.mul_nonneg (show 0 ≤ r by omega) (show 0 ≤ r by omega)
    have q4 := Int.mul_nonneg (show 0 ≤ r + 1 by omega) (show 0 ≤ r + 1 by omega)
    obtain ⟨m1, m2⟩ := a_rLess F hI (y := r * r) (by unfold W128; omega)
    obtain ⟨n1, n2⟩ := a_rLess F hI (y := (r + 1) * (r + 1)) (by unfold W128; omega)
    rw [o2, o3]
    refine bn (df h0) (bp o1 (bp l1 (bp (by rw [df h0]; rfl) (bp (dt (by omega)) (bp a1 ?_)))))
    rw [l2, l3, a2, a3]
    refine bp m1 (bp (by rw [m2, df (by omega)]; rfl) (bp b1 ?_))
    rw [b2, b3]
    refine bp n1 (some_bool ?_)
    rw [n2, dt r4]
end Go.Xv
namespace Go.Proofs.Ytpcblnkllakejaa.rootFix
open Go.ChangeShapes Go.WideShapes Go.ChangeAt Go.RowKit Go.Xv Go.Proofs.Ytpcblnkllakejaa.base
set_option linter.unusedVariables false
set_option maxRecDepth 100000 in
theorem lifted (os : Os) (started : os.Started) (H : Type) (enc : TypeId × Value → H) :
    ReturnsInHanded {} Try.checked os 15 .any (Rows.rootFixSpec.pre6 enc Try.prog Try.f15 Rows.rootFixRow.domain false) (Rows.rootFixSpec.post enc Try.prog Try.f15 false true false false) := by
  refine returnsInHanded_of_change (C := Try.checked) own started (by kernel_rfl) Try.func15
    (ChangeSpec.witness6 (enc := enc) (C := Try.checked) false ⟨#[], #[.int .i64 0], []⟩ 8 (by kernel_rfl) (by kernel_rfl) (by kernel_rfl) (by kernel_rfl)) ?_
  intro W base args ds gs before hval0 hW hcnd _
  have hval : ∀ (j : Nat) t v, Try.f15.params[j]? = some t → args[j]? = some v → Value.okWide Try.prog W .any base t v := hval0
  have hW' := hW
  obtain ⟨p, q, hA0, hV, rfl, hfz, hnd⟩ := hW
  have hA : DataW.TrodAll enc Try.prog W 0 (fun _ => true) true Try.f15.params.toList args.toList ds p := hA0
  rw [Try.params15] at hA hval
  obtain ⟨v0, vs0, d0, ds0, p0, q0, hargs, rfl, rfl, h0, r0⟩ := trodAll_cons hA
  obtain ⟨rfl, rfl, rfl⟩ := trodAll_nil r0
  obtain rfl : args = #[v0] := by cases args; simp_all
  obtain ⟨a0, rfl, wa0⟩ := open_num (k := .i64) (by kernel_rfl) (hval 0 27 v0 rfl rfl) h0
  refine law_contract laidOut (g_law04_RootFix fuel0) (bt := 4) (by kernel_rfl) (by kernel_rfl) (by kernel_rfl) (by kernel_rfl) rfl hW' ?_
  refine ⟨[.v (.int .i64 a0)], rfl, fun i x hx => ?_, unS_of ?_⟩
  · match i, hx with
    | 0, hx => exact ⟨_, rfl, by cases hx; exact Rel.v _ _⟩
    | _ + 1, hx => cases hx
  · obtain ⟨y1, y2⟩ := k_law04_RootFix fuel0 a0 (f_RootFix fuel0 (by unfold fuel0; omega) (wf_i64 wa0))
    have e : s_law04_RootFix fuel0 [.v (.int .i64 a0)] = some (ok_law04_RootFix fuel0 a0, .v (.bool (o_law04_RootFix_0 fuel0 a0))) := by kernel_rfl
    rw [e, y1, y2]
theorem over : Rows.rootFixRow.holds Try.pinned (OpenSpec.ofChange Rows.rootFixSpec) :=
  OpenClaim.holds_of_wide 15 Try.f15 rfl rfl rfl rfl rfl rfl rfl ⟨rfl, rfl, rfl, rfl, rfl⟩ rfl rfl rfl rfl rfl (by kernel_rfl) Try.func15 (joined_of (P := Try.prog) behind enter_ rfl rfl ⟨rfl, rfl⟩ (by kernel_rfl))
    (of_decide_eq_true (by kernel_rfl)) (by unfold Func.isWrapper; first | (rw [if_pos (by decide +kernel)]; kernel_rfl) | (rw [if_neg (by decide +kernel)]; exact ⟨rfl, rfl⟩))
    (fun os started H enc _ => lifted os started H enc)
/-- The statement. -/
theorem proved : Rows.RootFixSaid := over
#print axioms proved
end Go.Proofs.Ytpcblnkllakejaa.rootFix
