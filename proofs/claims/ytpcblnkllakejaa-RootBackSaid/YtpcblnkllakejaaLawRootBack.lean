/- The root of a square is the number, and a greater number's root is no less: the law returns true for every input, and leaves its arguments as they were. -/
import Derived.Test.YtpcblnkllakejaaR
import Derived.Test.YtpcblnkllakejaaProg
import Derived.KernelRfl
set_option linter.unusedVariables false
namespace Go.Xv
/- 14 _law04_RootBack -/
def c_law04_RootBack : Cfg := ⟨[0, 1, 2, 6, 7, 8, 10], [], []⟩
def ti_law04_RootBack : List TV := [.v (.int .u32), .v (.int .u64), .v (.int .u64)]
def to_law04_RootBack : TV := .v (.bool)
def S_law04_RootBack (F : Nat) : FuncId → List VV → Option (Bool × VV) := words [(67, s_law04_works F), (65, s_root_Square F), (59, s_root_Wide F), (63, s_root_Of F)]
def W_law04_RootBack (F : Nat) : List LW := []
def I_law04_RootBack (F : Nat) : Nat → VS → (Exit → VS → R) → R := tabI c_law04_RootBack (W_law04_RootBack F)
def f_law04_RootBack (F : Nat) (a0 : Int) (a1 : Int) (a2 : Int) : R :=
  bif (ok_law04_works F) then (
    bif ((!((o_law04_works_0 F)))) then (
      some (.v (.bool false)))
    else (
      let v1591 : Int := (IntKind.wrap .u64 a0)
      bif (ok_root_Square F v1591) then (
        let v1592 : Int := (o_root_Square_0 F v1591)
        let v1593 : Int := (o_root_Square_1 F v1591)
        bif (ok_root_Wide F v1592 v1593) then (
          bif ((o_root_Wide_1 F v1592 v1593)) then (
            bif ((((o_root_Wide_0 F v1592 v1593)) == ((IntKind.wrap .u64 a0)))) then (
              let v1600 : Int := (IntKind.wrap .u64 (((IntKind.wrap .u64 a0)) * ((IntKind.wrap .u64 a0))))
              bif (ok_root_Of F v1600) then (
                bif ((((o_root_Of_0 F v1600)) == a0)) then (
                  let v1603 : Int := (if a2 < a1 then a2 else a1)
                  bif (ok_root_Of F v1603) then (
                    let v1605 : Int := (if a2 > a1 then a2 else a1)
                    bif (ok_root_Of F v1605) then (
                      some (.v (.bool ((decide (((o_root_Of_0 F v1603)) ≤ ((o_root_Of_0 F v1605))))))))
                    else (
                      none))
                  else (
                    none))
                else (
                  some (.v (.bool false))))
              else (
                none))
            else (
              some (.v (.bool false))))
          else (
            some (.v (.bool false))))
        else (
          none))
      else (
        none)))
  else (
    none)
theorem e_law04_RootBack (F : Nat) (a0 : Int) (a1 : Int) (a2 : Int) : funL PP (S_law04_RootBack F) c_law04_RootBack (I_law04_RootBack F) 14 (fTs ti_law04_RootBack [.i a0, .i a1, .i a2]).1 = f_law04_RootBack F a0 a1 a2 := by
  have h : ∀ (ok_law04_works : Nat → Bool) (o_law04_works_0 : Nat → Bool) (ok_root_Square : Nat → Int → Bool) (o_root_Square_0 : Nat → Int → Int) (o_root_Square_1 : Nat → Int → Int) (ok_root_Wide : Nat → Int → Int → Bool) (o_root_Wide_0 : Nat → Int → Int → Int) (o_root_Wide_1 : Nat → Int → Int → Bool) (ok_root_Of : Nat → Int → Bool) (o_root_Of_0 : Nat → Int → Int), funL PP (words [(67, spec ti_law04_works to_law04_works (fun q => (ok_law04_works F )) (fun q => [.b (o_law04_works_0 F )])), (65, spec ti_root_Square to_root_Square (fun q => (ok_root_Square F (atI (nth q 0)))) (fun q => [.i (o_root_Square_0 F (atI (nth q 0))), .i (o_root_Square_1 F (atI (nth q 0)))])), (59, spec ti_root_Wide to_root_Wide (fun q => (ok_root_Wide F (atI (nth q 0)) (atI (nth q 1)))) (fun q => [.i (o_root_Wide_0 F (atI (nth q 0)) (atI (nth q 1))), .b (o_root_Wide_1 F (atI (nth q 0)) (atI (nth q 1)))])), (63, spec ti_root_Of to_root_Of (fun q => (ok_root_Of F (atI (nth q 0)))) (fun q => [.i (o_root_Of_0 F (atI (nth q 0)))]))]) c_law04_RootBack (tabI c_law04_RootBack []) 14 (fTs ti_law04_RootBack [.i a0, .i a1, .i a2]).1 = (
  bif (ok_law04_works F) then (
    bif ((!((o_law04_works_0 F)))) then (
      some (.v (.bool false)))
    else (
      let v1591 : Int := (IntKind.wrap .u64 a0)
      bif (ok_root_Square F v1591) then (
        let v1592 : Int := (o_root_Square_0 F v1591)
        let v1593 : Int := (o_root_Square_1 F v1591)
        bif (ok_root_Wide F v1592 v1593) then (
          bif ((o_root_Wide_1 F v1592 v1593)) then (
            bif ((((o_root_Wide_0 F v1592 v1593)) == ((IntKind.wrap .u64 a0)))) then (
              let v1600 : Int := (IntKind.wrap .u64 (((IntKind.wrap .u64 a0)) * ((IntKind.wrap .u64 a0))))
              bif (ok_root_Of F v1600) then (
                bif ((((o_root_Of_0 F v1600)) == a0)) then (
                  let v1603 : Int := (if a2 < a1 then a2 else a1)
                  bif (ok_root_Of F v1603) then (
                    let v1605 : Int := (if a2 > a1 then a2 else a1)
                    bif (ok_root_Of F v1605) then (
                      some (.v (.bool ((decide (((o_root_Of_0 F v1603)) ≤ ((o_root_Of_0 F v1605))))))))
                    else (
                      none))
                  else (
                    none))
                else (
                  some (.v (.bool false))))
              else (
                none))
            else (
              some (.v (.bool false))))
          else (
            some (.v (.bool false))))
        else (
          none))
      else (
        none)))
  else (
    none) : R) := by
    intros
    kernel_rfl
  exact (h ok_law04_works o_law04_works_0 ok_root_Square o_root_Square_0 o_root_Square_1 ok_root_Wide o_root_Wide_0 o_root_Wide_1 ok_root_Of o_root_Of_0).trans (by kernel_rfl)
def ok_law04_RootBack (F : Nat) (a0 : Int) (a1 : Int) (a2 : Int) : Bool := okT to_law04_RootBack (f_law04_RootBack F a0 a1 a2)
def o_law04_RootBack_0 (F : Nat) (a0 : Int) (a1 : Int) (a2 : Int) : Bool := atB (nth (outT to_law04_RootBack (f_law04_RootBack F a0 a1 a2)) 0)
theorem k_law04_RootBack (F : Nat) (a0 : Int) (a1 : Int) (a2 : Int) {z0 : Bool} (h : f_law04_RootBack F a0 a1 a2 = some (.v (.bool z0))) : ok_law04_RootBack F a0 a1 a2 = true ∧ o_law04_RootBack_0 F a0 a1 a2 = z0 := by
  refine ⟨?_, ?_⟩
  · unfold ok_law04_RootBack; rw [h]; kernel_rfl
  · unfold o_law04_RootBack_0; rw [h]; kernel_rfl
def s_law04_RootBack (F : Nat) : List VV → Option (Bool × VV) := spec ti_law04_RootBack to_law04_RootBack (fun q => (ok_law04_RootBack F (atI (nth q 0)) (atI (nth q 1)) (atI (nth q 2)))) (fun q => [.b (o_law04_RootBack_0 F (atI (nth q 0)) (atI (nth q 1)) (atI (nth q 2)))])
theorem hS_law04_RootBack (F : Nat) : ∀ f, Good PP f (unS (S_law04_RootBack F f)) := words_good fun p hp => by
  simp only [List.mem_cons, List.not_mem_nil, or_false] at hp
  rcases hp with rfl | rfl | rfl | rfl
  · exact g_law04_works F
  · exact g_root_Square F
  · exact g_root_Wide F
  · exact g_root_Of F
theorem hl_law04_RootBack (F : Nat) : ∀ p ∈ loopsIn PP 14, LoopOK PP (S_law04_RootBack F) c_law04_RootBack F (I_law04_RootBack F) p :=
  loops_of [] (by kernel_rfl) all_nil
theorem g_law04_RootBack (F : Nat) : Good PP 14 (unS (s_law04_RootBack F)) :=
  fun_spec (hS_law04_RootBack F) (by kernel_rfl) (by kernel_rfl) (C := c_law04_RootBack) (F := fun q => (f_law04_RootBack F (atI (nth q 0)) (atI (nth q 1)) (atI (nth q 2)))) (fun _ => F) (fun _ => I_law04_RootBack F) (fun _ => hl_law04_RootBack F)
    (fun q => (congrArg (funL PP (S_law04_RootBack F) c_law04_RootBack (I_law04_RootBack F) 14) (show (fTs ti_law04_RootBack q).1 = (fTs ti_law04_RootBack [.i (atI (nth q 0)), .i (atI (nth q 1)), .i (atI (nth q 2))]).1 by kernel_rfl)).trans (e_law04_RootBack F (atI (nth q 0)) (atI (nth q 1)) (atI (nth q 2))))
    (fun _ h => (okT_fill h).trans (congrArg some (by kernel_rfl)))

end Go.Xv
namespace Go.Xv
theorem rt_sq {n : Int} (h : 0 ≤ n) : rt (n * n) = n := rt_eq h (Int.le_refl _) (sq_lt h (by omega))
theorem rt_mono {a b : Int} (ha : 0 ≤ a) (h : a ≤ b) : rt a ≤ rt b := by
  obtain ⟨h1, h2, h3⟩ := rt_spec ha
  exact (rt_le (by omega) h1).2 (by omega)
theorem f_RootBack (F : Nat) (hF : 200 ≤ F) {n a b : Int} (hn : U32 n) (ha : U64 a) (hb : U64 b) : f_law04_RootBack F n a b = some (.v (.bool true)) := by
  unfold f_law04_RootBack
  dsimp only
  obtain ⟨w1, w2⟩ := a_works04 F hF
  unfold U32 at hn
  have hU : U64 n := by unfold U64; omega
  have q1 := sq_le (x := n) (y := 4294967295) (by omega) (by omega)
  have q2 := Int.mul_nonneg hn.1 hn.1
  have hUU : U64 (n * n) := by unfold U64; omega
  rw [wu64_in hU, wu64_in hUU]
  obtain ⟨s1, s2, s3⟩ := a_Square F hU
  have h := f_rootWide F hF (hi_I (n * n)) (lo_U (n * n))
  rw [val_hl, W_in (by unfold W128; omega)] at h
  unfold rootR at h
  rw [if_neg (by omega), rt_sq hn.1] at h
  obtain ⟨h1, h2, h3⟩ := k_root_Wide F _ _ h
  obtain ⟨k1, k2⟩ := a_rootOf F hF hUU
  rw [rt_sq hn.1] at k2
  have hl : U64 (if b < a then b else a) := by split <;> assumption
  have hh : U64 (if b > a then b else a) := by split <;> assumption
  have hlh : (if b < a then b else a) ≤ (if b > a then b else a) := by split <;> split <;> omega
  obtain ⟨x1, x2⟩ := a_rootOf F hF hl
  obtain ⟨y1, y2⟩ := a_rootOf F hF hh
  refine bp w1 (bn (by rw [w2]; rfl) (bp s1 ?_))
  rw [s2, s3]
  refine bp h1 (bp h3 (bp (by rw [h2]; simp) (bp k1 (bp (by rw [k2]; simp) (bp x1 (bp y1 (some_bool ?_)))))))
  rw [x2, y2]
  exact dt (rt_mono hl.1 hlh)
end Go.Xv
namespace Go.Proofs.Ytpcblnkllakejaa.rootBack
open Go.ChangeShapes Go.WideShapes Go.ChangeAt Go.RowKit Go.Xv Go.Proofs.Ytpcblnkllakejaa.base
set_option linter.unusedVariables false
set_option maxRecDepth 100000 in
theorem lifted (os : Os) (started : os.Started) (H : Type) (enc : TypeId × Value → H) :
    ReturnsInHanded {} Try.checked os 14 .any (Rows.rootBackSpec.pre6 enc Try.prog Try.f14 Rows.rootBackRow.domain false) (Rows.rootBackSpec.post enc Try.prog Try.f14 false true false false) := by
  refine returnsInHanded_of_change (C := Try.checked) own started (by kernel_rfl) Try.func14
    (ChangeSpec.witness6 (enc := enc) (C := Try.checked) false ⟨#[], #[.int .u32 0, .int .u64 0, .int .u64 0], []⟩ 8 (by kernel_rfl) (by kernel_rfl) (by kernel_rfl) (by kernel_rfl)) ?_
  intro W base args ds gs before hval0 hW hcnd _
  have hval : ∀ (j : Nat) t v, Try.f14.params[j]? = some t → args[j]? = some v → Value.okWide Try.prog W .any base t v := hval0
  have hW' := hW
  obtain ⟨p, q, hA0, hV, rfl, hfz, hnd⟩ := hW
  have hA : DataW.TrodAll enc Try.prog W 0 (fun _ => true) true Try.f14.params.toList args.toList ds p := hA0
  rw [Try.params14] at hA hval
  obtain ⟨v0, vs0, d0, ds0, p0, q0, hargs, rfl, rfl, h0, r0⟩ := trodAll_cons hA
  obtain ⟨v1, vs1, d1, ds1, p1, q1, rfl, rfl, rfl, h1, r1⟩ := trodAll_cons r0
  obtain ⟨v2, vs2, d2, ds2, p2, q2, rfl, rfl, rfl, h2, r2⟩ := trodAll_cons r1
  obtain ⟨rfl, rfl, rfl⟩ := trodAll_nil r2
  obtain rfl : args = #[v0, v1, v2] := by cases args; simp_all
  obtain ⟨a0, rfl, wa0⟩ := open_num (k := .u32) (by kernel_rfl) (hval 0 23 v0 rfl rfl) h0
  obtain ⟨a1, rfl, wa1⟩ := open_num (k := .u64) (by kernel_rfl) (hval 1 47 v1 rfl rfl) h1
  obtain ⟨a2, rfl, wa2⟩ := open_num (k := .u64) (by kernel_rfl) (hval 2 47 v2 rfl rfl) h2
  refine law_contract laidOut (g_law04_RootBack fuel0) (bt := 4) (by kernel_rfl) (by kernel_rfl) (by kernel_rfl) (by kernel_rfl) rfl hW' ?_
  refine ⟨[.v (.int .u32 a0), .v (.int .u64 a1), .v (.int .u64 a2)], rfl, fun i x hx => ?_, unS_of ?_⟩
  · match i, hx with
    | 0, hx => exact ⟨_, rfl, by cases hx; exact Rel.v _ _⟩
    | 1, hx => exact ⟨_, rfl, by cases hx; exact Rel.v _ _⟩
    | 2, hx => exact ⟨_, rfl, by cases hx; exact Rel.v _ _⟩
    | _ + 3, hx => cases hx
  · obtain ⟨y1, y2⟩ := k_law04_RootBack fuel0 a0 a1 a2 (f_RootBack fuel0 (by unfold fuel0; omega) (wf_u32 wa0) (wf_u64 wa1) (wf_u64 wa2))
    have e : s_law04_RootBack fuel0 [.v (.int .u32 a0), .v (.int .u64 a1), .v (.int .u64 a2)] = some (ok_law04_RootBack fuel0 a0 a1 a2, .v (.bool (o_law04_RootBack_0 fuel0 a0 a1 a2))) := by kernel_rfl
    rw [e, y1, y2]
theorem over : Rows.rootBackRow.holds Try.pinned (OpenSpec.ofChange Rows.rootBackSpec) :=
  OpenClaim.holds_of_wide 14 Try.f14 rfl rfl rfl rfl rfl rfl rfl ⟨rfl, rfl, rfl, rfl, rfl⟩ rfl rfl rfl rfl rfl (by kernel_rfl) Try.func14 (joined_of (P := Try.prog) behind enter_ rfl rfl ⟨rfl, rfl⟩ (by kernel_rfl))
    (of_decide_eq_true (by kernel_rfl)) (by unfold Func.isWrapper; first | (rw [if_pos (by decide +kernel)]; kernel_rfl) | (rw [if_neg (by decide +kernel)]; exact ⟨rfl, rfl⟩))
    (fun os started H enc _ => lifted os started H enc)
/-- The statement. -/
theorem proved : Rows.RootBackSaid := over
#print axioms proved
end Go.Proofs.Ytpcblnkllakejaa.rootBack
