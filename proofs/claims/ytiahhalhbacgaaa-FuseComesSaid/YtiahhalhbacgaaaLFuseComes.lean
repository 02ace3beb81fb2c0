/- FuseComes: what is pulled toward the same never goes beyond it. -/
import Derived.Test.YtiahhalhbacgaaaB2
import Derived.Test.YtiahhalhbacgaaaProg
import Derived.KernelRfl
namespace Go.Xv
noncomputable abbrev PP := Proofs.Try.prog
end Go.Xv
set_option linter.unusedVariables false
namespace Go.Xv
/- 66 _wide_Add -/
def c_wide_Add : Cfg := ⟨[0, 1, 2, 3, 4, 5, 6, 22], [], [], []⟩
def ti_wide_Add : List TV := [.v (.agg [.int .i64, .int .u64]), .v (.agg [.int .i64, .int .u64])]
def to_wide_Add : TV := .v (.agg [.int .i64, .int .u64])
def S_wide_Add (F : Nat) : FuncId → List VV → Option (Bool × VV) := words []
def W_wide_Add (F : Nat) : List LW := []
def I_wide_Add (F : Nat) : Nat → VS → (Exit → VS → R) → R := tabI c_wide_Add (W_wide_Add F)
def WJ_wide_Add (F : Nat) : List LJ := []
def J_wide_Add (F : Nat) : Nat → Nat → VS → (Exit → VS → R) → R := tabJ (WJ_wide_Add F)
def f_wide_Add (F : Nat) (a0 : Int) (a1 : Int) (a2 : Int) (a3 : Int) : R :=
  let v104 : Int := (IntKind.wrap .u64 (a1 + a3))
  let v107 : Int := (IntKind.wrap .u64 (((IntKind.wrap .u64 a0)) + ((IntKind.wrap .u64 a2))))
  bif ((decide (v104 < a1))) then (
    some (.v (.agg #[.int .i64 ((IntKind.wrap .i64 ((IntKind.wrap .u64 (v107 + 1))))), .int .u64 v104])))
  else (
    some (.v (.agg #[.int .i64 ((IntKind.wrap .i64 v107)), .int .u64 v104])))
theorem e_wide_Add (F : Nat) (a0 : Int) (a1 : Int) (a2 : Int) (a3 : Int) : funL PP (S_wide_Add F) c_wide_Add (I_wide_Add F) (J_wide_Add F) 66 (fTs ti_wide_Add [.i a0, .i a1, .i a2, .i a3]).1 = f_wide_Add F a0 a1 a2 a3 := by
  have h : ∀ (_ : Unit), funL PP (words []) c_wide_Add (tabI c_wide_Add []) (tabJ []) 66 (fTs ti_wide_Add [.i a0, .i a1, .i a2, .i a3]).1 = (
  let v104 : Int := (IntKind.wrap .u64 (a1 + a3))
  let v107 : Int := (IntKind.wrap .u64 (((IntKind.wrap .u64 a0)) + ((IntKind.wrap .u64 a2))))
  bif ((decide (v104 < a1))) then (
    some (.v (.agg #[.int .i64 ((IntKind.wrap .i64 ((IntKind.wrap .u64 (v107 + 1))))), .int .u64 v104])))
  else (
    some (.v (.agg #[.int .i64 ((IntKind.wrap .i64 v107)), .int .u64 v104]))) : R) := by
    intros
    kernel_rfl
  exact (h ()).trans (by kernel_rfl)
def ok_wide_Add (F : Nat) (a0 : Int) (a1 : Int) (a2 : Int) (a3 : Int) : Bool := okT to_wide_Add (f_wide_Add F a0 a1 a2 a3)
def o_wide_Add_0 (F : Nat) (a0 : Int) (a1 : Int) (a2 : Int) (a3 : Int) : Int := atI (nth (outT to_wide_Add (f_wide_Add F a0 a1 a2 a3)) 0)
def o_wide_Add_1 (F : Nat) (a0 : Int) (a1 : Int) (a2 : Int) (a3 : Int) : Int := atI (nth (outT to_wide_Add (f_wide_Add F a0 a1 a2 a3)) 1)
theorem k_wide_Add (F : Nat) (a0 : Int) (a1 : Int) (a2 : Int) (a3 : Int) {z0 : Int} {z1 : Int} (h : f_wide_Add F a0 a1 a2 a3 = some (.v (.agg #[.int .i64 z0, .int .u64 z1]))) : ok_wide_Add F a0 a1 a2 a3 = true ∧ o_wide_Add_0 F a0 a1 a2 a3 = z0 ∧ o_wide_Add_1 F a0 a1 a2 a3 = z1 := by
  refine ⟨?_, ?_, ?_⟩
  · unfold ok_wide_Add; rw [h]; kernel_rfl
  · unfold o_wide_Add_0; rw [h]; kernel_rfl
  · unfold o_wide_Add_1; rw [h]; kernel_rfl
def s_wide_Add (F : Nat) : List VV → Option (Bool × VV) := spec ti_wide_Add to_wide_Add (fun q => (ok_wide_Add F (atI (nth q 0)) (atI (nth q 1)) (atI (nth q 2)) (atI (nth q 3)))) (fun q => [.i (o_wide_Add_0 F (atI (nth q 0)) (atI (nth q 1)) (atI (nth q 2)) (atI (nth q 3))), .i (o_wide_Add_1 F (atI (nth q 0)) (atI (nth q 1)) (atI (nth q 2)) (atI (nth q 3)))])
theorem hS_wide_Add (F : Nat) : ∀ f, Good PP f (unS (S_wide_Add F f)) := words_good fun p hp => by
  cases hp
theorem hl_wide_Add (F : Nat) : ∀ p ∈ loopsIn PP 66, LoopOK PP (S_wide_Add F) c_wide_Add F (I_wide_Add F) (J_wide_Add F) p :=
  loops_of [] (by kernel_rfl) all_nil
theorem hj_wide_Add (F : Nat) : ∀ p ∈ joinsIn PP c_wide_Add 66, JoinOK PP (S_wide_Add F) c_wide_Add (I_wide_Add F) (J_wide_Add F) p :=
  joins_of [] (by kernel_rfl) all_nil
theorem g_wide_Add (F : Nat) : Good PP 66 (unS (s_wide_Add F)) :=
  fun_spec (hS_wide_Add F) (by kernel_rfl) (by kernel_rfl) (C := c_wide_Add) (F := fun q => (f_wide_Add F (atI (nth q 0)) (atI (nth q 1)) (atI (nth q 2)) (atI (nth q 3)))) (fun _ => F) (fun _ => I_wide_Add F) (fun _ => J_wide_Add F) (fun _ => hl_wide_Add F) (fun _ => hj_wide_Add F)
    (fun q => (congrArg (funL PP (S_wide_Add F) c_wide_Add (I_wide_Add F) (J_wide_Add F) 66) (show (fTs ti_wide_Add q).1 = (fTs ti_wide_Add [.i (atI (nth q 0)), .i (atI (nth q 1)), .i (atI (nth q 2)), .i (atI (nth q 3))]).1 by kernel_rfl)).trans (e_wide_Add F (atI (nth q 0)) (atI (nth q 1)) (atI (nth q 2)) (atI (nth q 3))))
    (fun _ h => (okT_fill h).trans (congrArg some (by kernel_rfl)))

end Go.Xv
set_option linter.unusedVariables false
namespace Go.Xv
/- 86 _wide_Left -/
def c_wide_Left : Cfg := ⟨[0, 1, 2, 4, 7, 11], [], [], []⟩
def ti_wide_Left : List TV := [.v (.agg [.int .i64, .int .u64]), .v (.int .i64)]
def to_wide_Left : TV := .v (.agg [.int .i64, .int .u64])
def S_wide_Left (F : Nat) : FuncId → List VV → Option (Bool × VV) := words []
def W_wide_Left (F : Nat) : List LW := []
def I_wide_Left (F : Nat) : Nat → VS → (Exit → VS → R) → R := tabI c_wide_Left (W_wide_Left F)
def WJ_wide_Left (F : Nat) : List LJ := []
def J_wide_Left (F : Nat) : Nat → Nat → VS → (Exit → VS → R) → R := tabJ (WJ_wide_Left F)
def f_wide_Left (F : Nat) (a0 : Int) (a1 : Int) (a2 : Int) : R :=
  let v221 : Int := (if 0 > a2 then 0 else a2)
  bif ((decide (v221 ≥ 128))) then (
    some (.v (.agg #[.int .i64 0, .int .u64 0])))
  else (
    bif ((decide (v221 ≥ 64))) then (
      let v224 : Int := (IntKind.wrap .i64 (v221 - 64))
      bif (!(decide (v224 < 0))) then (
        some (.v (.agg #[.int .i64 ((IntKind.wrap .i64 ((IntKind.wrap .u64 (a1 * 2 ^ (min (Int.toNat v224) 64)))))), .int .u64 0])))
      else (
        none))
    else (
      bif (!(decide (v221 < 0))) then (
        let v229 : Int := (IntKind.wrap .i64 (64 - v221))
        bif (!(decide (v229 < 0))) then (
          bif (!(decide (v221 < 0))) then (
            some (.v (.agg #[.int .i64 ((IntKind.wrap .i64 ((orI .u64 ((IntKind.wrap .u64 (((IntKind.wrap .u64 a0)) * 2 ^ (min (Int.toNat v221) 64)))) ((Int.fdiv a1 (2 ^ (min (Int.toNat v229) 64)))))))), .int .u64 ((IntKind.wrap .u64 (a1 * 2 ^ (min (Int.toNat v221) 64))))])))
          else (
            none))
        else (
          none))
      else (
        none)))
theorem e_wide_Left (F : Nat) (a0 : Int) (a1 : Int) (a2 : Int) : funL PP (S_wide_Left F) c_wide_Left (I_wide_Left F) (J_wide_Left F) 86 (fTs ti_wide_Left [.i a0, .i a1, .i a2]).1 = f_wide_Left F a0 a1 a2 := by
  have h : ∀ (_ : Unit), funL PP (words []) c_wide_Left (tabI c_wide_Left []) (tabJ []) 86 (fTs ti_wide_Left [.i a0, .i a1, .i a2]).1 = (
  let v221 : Int := (if 0 > a2 then 0 else a2)
  bif ((decide (v221 ≥ 128))) then (
    some (.v (.agg #[.int .i64 0, .int .u64 0])))
  else (
    bif ((decide (v221 ≥ 64))) then (
      let v224 : Int := (IntKind.wrap .i64 (v221 - 64))
      bif (!(decide (v224 < 0))) then (
        some (.v (.agg #[.int .i64 ((IntKind.wrap .i64 ((IntKind.wrap .u64 (a1 * 2 ^ (min (Int.toNat v224) 64)))))), .int .u64 0])))
      else (
        none))
    else (
      bif (!(decide (v221 < 0))) then (
        let v229 : Int := (IntKind.wrap .i64 (64 - v221))
        bif (!(decide (v229 < 0))) then (
          bif (!(decide (v221 < 0))) then (
            some (.v (.agg #[.int .i64 ((IntKind.wrap .i64 ((orI .u64 ((IntKind.wrap .u64 (((IntKind.wrap .u64 a0)) * 2 ^ (min (Int.toNat v221) 64)))) ((Int.fdiv a1 (2 ^ (min (Int.toNat v229) 64)))))))), .int .u64 ((IntKind.wrap .u64 (a1 * 2 ^ (min (Int.toNat v221) 64))))])))
          else (
            none))
        else (
          none))
      else (
        none))) : R) := by
    intros
    kernel_rfl
  exact (h ()).trans (by kernel_rfl)
def ok_wide_Left (F : Nat) (a0 : Int) (a1 : Int) (a2 : Int) : Bool := okT to_wide_Left (f_wide_Left F a0 a1 a2)
def o_wide_Left_0 (F : Nat) (a0 : Int) (a1 : Int) (a2 : Int) : Int := atI (nth (outT to_wide_Left (f_wide_Left F a0 a1 a2)) 0)
def o_wide_Left_1 (F : Nat) (a0 : Int) (a1 : Int) (a2 : Int) : Int := atI (nth (outT to_wide_Left (f_wide_Left F a0 a1 a2)) 1)
theorem k_wide_Left (F : Nat) (a0 : Int) (a1 : Int) (a2 : Int) {z0 : Int} {z1 : Int} (h : f_wide_Left F a0 a1 a2 = some (.v (.agg #[.int .i64 z0, .int .u64 z1]))) : ok_wide_Left F a0 a1 a2 = true ∧ o_wide_Left_0 F a0 a1 a2 = z0 ∧ o_wide_Left_1 F a0 a1 a2 = z1 := by
  refine ⟨?_, ?_, ?_⟩
  · unfold ok_wide_Left; rw [h]; kernel_rfl
  · unfold o_wide_Left_0; rw [h]; kernel_rfl
  · unfold o_wide_Left_1; rw [h]; kernel_rfl
def s_wide_Left (F : Nat) : List VV → Option (Bool × VV) := spec ti_wide_Left to_wide_Left (fun q => (ok_wide_Left F (atI (nth q 0)) (atI (nth q 1)) (atI (nth q 2)))) (fun q => [.i (o_wide_Left_0 F (atI (nth q 0)) (atI (nth q 1)) (atI (nth q 2))), .i (o_wide_Left_1 F (atI (nth q 0)) (atI (nth q 1)) (atI (nth q 2)))])
theorem hS_wide_Left (F : Nat) : ∀ f, Good PP f (unS (S_wide_Left F f)) := words_good fun p hp => by
  cases hp
theorem hl_wide_Left (F : Nat) : ∀ p ∈ loopsIn PP 86, LoopOK PP (S_wide_Left F) c_wide_Left F (I_wide_Left F) (J_wide_Left F) p :=
  loops_of [] (by kernel_rfl) all_nil
theorem hj_wide_Left (F : Nat) : ∀ p ∈ joinsIn PP c_wide_Left 86, JoinOK PP (S_wide_Left F) c_wide_Left (I_wide_Left F) (J_wide_Left F) p :=
  joins_of [] (by kernel_rfl) all_nil
theorem g_wide_Left (F : Nat) : Good PP 86 (unS (s_wide_Left F)) :=
  fun_spec (hS_wide_Left F) (by kernel_rfl) (by kernel_rfl) (C := c_wide_Left) (F := fun q => (f_wide_Left F (atI (nth q 0)) (atI (nth q 1)) (atI (nth q 2)))) (fun _ => F) (fun _ => I_wide_Left F) (fun _ => J_wide_Left F) (fun _ => hl_wide_Left F) (fun _ => hj_wide_Left F)
    (fun q => (congrArg (funL PP (S_wide_Left F) c_wide_Left (I_wide_Left F) (J_wide_Left F) 86) (show (fTs ti_wide_Left q).1 = (fTs ti_wide_Left [.i (atI (nth q 0)), .i (atI (nth q 1)), .i (atI (nth q 2))]).1 by kernel_rfl)).trans (e_wide_Left F (atI (nth q 0)) (atI (nth q 1)) (atI (nth q 2))))
    (fun _ h => (okT_fill h).trans (congrArg some (by kernel_rfl)))

end Go.Xv
set_option linter.unusedVariables false
namespace Go.Xv
/- 87 _wide_Of -/
def c_wide_Of : Cfg := ⟨[0, 2], [], [], []⟩
def ti_wide_Of : List TV := [.v (.int .i64)]
def to_wide_Of : TV := .v (.agg [.int .i64, .int .u64])
def S_wide_Of (F : Nat) : FuncId → List VV → Option (Bool × VV) := words []
def W_wide_Of (F : Nat) : List LW := []
def I_wide_Of (F : Nat) : Nat → VS → (Exit → VS → R) → R := tabI c_wide_Of (W_wide_Of F)
def WJ_wide_Of (F : Nat) : List LJ := []
def J_wide_Of (F : Nat) : Nat → Nat → VS → (Exit → VS → R) → R := tabJ (WJ_wide_Of F)
def f_wide_Of (F : Nat) (a0 : Int) : R :=
  some (.v (.agg #[.int .i64 ((Int.fdiv a0 (9223372036854775808))), .int .u64 ((IntKind.wrap .u64 a0))]))
theorem e_wide_Of (F : Nat) (a0 : Int) : funL PP (S_wide_Of F) c_wide_Of (I_wide_Of F) (J_wide_Of F) 87 (fTs ti_wide_Of [.i a0]).1 = f_wide_Of F a0 := by
  have h : ∀ (_ : Unit), funL PP (words []) c_wide_Of (tabI c_wide_Of []) (tabJ []) 87 (fTs ti_wide_Of [.i a0]).1 = (
  some (.v (.agg #[.int .i64 ((Int.fdiv a0 (9223372036854775808))), .int .u64 ((IntKind.wrap .u64 a0))])) : R) := by
    intros
    kernel_rfl
  exact (h ()).trans (by kernel_rfl)
def ok_wide_Of (F : Nat) (a0 : Int) : Bool := okT to_wide_Of (f_wide_Of F a0)
def o_wide_Of_0 (F : Nat) (a0 : Int) : Int := atI (nth (outT to_wide_Of (f_wide_Of F a0)) 0)
def o_wide_Of_1 (F : Nat) (a0 : Int) : Int := atI (nth (outT to_wide_Of (f_wide_Of F a0)) 1)
theorem k_wide_Of (F : Nat) (a0 : Int) {z0 : Int} {z1 : Int} (h : f_wide_Of F a0 = some (.v (.agg #[.int .i64 z0, .int .u64 z1]))) : ok_wide_Of F a0 = true ∧ o_wide_Of_0 F a0 = z0 ∧ o_wide_Of_1 F a0 = z1 := by
  refine ⟨?_, ?_, ?_⟩
  · unfold ok_wide_Of; rw [h]; kernel_rfl
  · unfold o_wide_Of_0; rw [h]; kernel_rfl
  · unfold o_wide_Of_1; rw [h]; kernel_rfl
def s_wide_Of (F : Nat) : List VV → Option (Bool × VV) := spec ti_wide_Of to_wide_Of (fun q => (ok_wide_Of F (atI (nth q 0)))) (fun q => [.i (o_wide_Of_0 F (atI (nth q 0))), .i (o_wide_Of_1 F (atI (nth q 0)))])
theorem hS_wide_Of (F : Nat) : ∀ f, Good PP f (unS (S_wide_Of F f)) := words_good fun p hp => by
  cases hp
theorem hl_wide_Of (F : Nat) : ∀ p ∈ loopsIn PP 87, LoopOK PP (S_wide_Of F) c_wide_Of F (I_wide_Of F) (J_wide_Of F) p :=
  loops_of [] (by kernel_rfl) all_nil
theorem hj_wide_Of (F : Nat) : ∀ p ∈ joinsIn PP c_wide_Of 87, JoinOK PP (S_wide_Of F) c_wide_Of (I_wide_Of F) (J_wide_Of F) p :=
  joins_of [] (by kernel_rfl) all_nil
theorem g_wide_Of (F : Nat) : Good PP 87 (unS (s_wide_Of F)) :=
  fun_spec (hS_wide_Of F) (by kernel_rfl) (by kernel_rfl) (C := c_wide_Of) (F := fun q => (f_wide_Of F (atI (nth q 0)))) (fun _ => F) (fun _ => I_wide_Of F) (fun _ => J_wide_Of F) (fun _ => hl_wide_Of F) (fun _ => hj_wide_Of F)
    (fun q => (congrArg (funL PP (S_wide_Of F) c_wide_Of (I_wide_Of F) (J_wide_Of F) 87) (show (fTs ti_wide_Of q).1 = (fTs ti_wide_Of [.i (atI (nth q 0))]).1 by kernel_rfl)).trans (e_wide_Of F (atI (nth q 0))))
    (fun _ h => (okT_fill h).trans (congrArg some (by kernel_rfl)))

end Go.Xv
set_option linter.unusedVariables false
namespace Go.Xv
/- 88 _wide_Clip -/
def c_wide_Clip : Cfg := ⟨[0, 1, 2, 3, 4, 8, 14], [], [], []⟩
def ti_wide_Clip : List TV := [.v (.agg [.int .i64, .int .u64])]
def to_wide_Clip : TV := .v (.tup [.int .i64, .bool])
def S_wide_Clip (F : Nat) : FuncId → List VV → Option (Bool × VV) := words [(87, s_wide_Of F)]
def W_wide_Clip (F : Nat) : List LW := []
def I_wide_Clip (F : Nat) : Nat → VS → (Exit → VS → R) → R := tabI c_wide_Clip (W_wide_Clip F)
def WJ_wide_Clip (F : Nat) : List LJ := []
def J_wide_Clip (F : Nat) : Nat → Nat → VS → (Exit → VS → R) → R := tabJ (WJ_wide_Clip F)
def f_wide_Clip (F : Nat) (a0 : Int) (a1 : Int) : R :=
  let v157 : Int := (IntKind.wrap .i64 a1)
  bif (ok_wide_Of F v157) then (
    bif (((((o_wide_Of_0 F v157)) == a0) && (((o_wide_Of_1 F v157)) == a1))) then (
      some (.v (.tuple #[.int .i64 v157, .bool false])))
    else (
      bif ((decide (a0 < 0))) then (
        some (.v (.tuple #[.int .i64 (-9223372036854775808), .bool true])))
      else (
        some (.v (.tuple #[.int .i64 9223372036854775807, .bool true])))))
  else (
    none)
theorem e_wide_Clip (F : Nat) (a0 : Int) (a1 : Int) : funL PP (S_wide_Clip F) c_wide_Clip (I_wide_Clip F) (J_wide_Clip F) 88 (fTs ti_wide_Clip [.i a0, .i a1]).1 = f_wide_Clip F a0 a1 := by
  have h : ∀ (ok_wide_Of : Nat → Int → Bool) (o_wide_Of_0 : Nat → Int → Int) (o_wide_Of_1 : Nat → Int → Int), funL PP (words [(87, spec ti_wide_Of to_wide_Of (fun q => (ok_wide_Of F (atI (nth q 0)))) (fun q => [.i (o_wide_Of_0 F (atI (nth q 0))), .i (o_wide_Of_1 F (atI (nth q 0)))]))]) c_wide_Clip (tabI c_wide_Clip []) (tabJ []) 88 (fTs ti_wide_Clip [.i a0, .i a1]).1 = (
  let v157 : Int := (IntKind.wrap .i64 a1)
  bif (ok_wide_Of F v157) then (
    bif (((((o_wide_Of_0 F v157)) == a0) && (((o_wide_Of_1 F v157)) == a1))) then (
      some (.v (.tuple #[.int .i64 v157, .bool false])))
    else (
      bif ((decide (a0 < 0))) then (
        some (.v (.tuple #[.int .i64 (-9223372036854775808), .bool true])))
      else (
        some (.v (.tuple #[.int .i64 9223372036854775807, .bool true])))))
  else (
    none) : R) := by
    intros
    kernel_rfl
  exact (h ok_wide_Of o_wide_Of_0 o_wide_Of_1).trans (by kernel_rfl)
def ok_wide_Clip (F : Nat) (a0 : Int) (a1 : Int) : Bool := okT to_wide_Clip (f_wide_Clip F a0 a1)
def o_wide_Clip_0 (F : Nat) (a0 : Int) (a1 : Int) : Int := atI (nth (outT to_wide_Clip (f_wide_Clip F a0 a1)) 0)
def o_wide_Clip_1 (F : Nat) (a0 : Int) (a1 : Int) : Bool := atB (nth (outT to_wide_Clip (f_wide_Clip F a0 a1)) 1)
theorem k_wide_Clip (F : Nat) (a0 : Int) (a1 : Int) {z0 : Int} {z1 : Bool} (h : f_wide_Clip F a0 a1 = some (.v (.tuple #[.int .i64 z0, .bool z1]))) : ok_wide_Clip F a0 a1 = true ∧ o_wide_Clip_0 F a0 a1 = z0 ∧ o_wide_Clip_1 F a0 a1 = z1 := by
  refine ⟨?_, ?_, ?_⟩
  · unfold ok_wide_Clip; rw [h]; kernel_rfl
  · unfold o_wide_Clip_0; rw [h]; kernel_rfl
  · unfold o_wide_Clip_1; rw [h]; kernel_rfl
def s_wide_Clip (F : Nat) : List VV → Option (Bool × VV) := spec ti_wide_Clip to_wide_Clip (fun q => (ok_wide_Clip F (atI (nth q 0)) (atI (nth q 1)))) (fun q => [.i (o_wide_Clip_0 F (atI (nth q 0)) (atI (nth q 1))), .b (o_wide_Clip_1 F (atI (nth q 0)) (atI (nth q 1)))])
theorem hS_wide_Clip (F : Nat) : ∀ f, Good PP f (unS (S_wide_Clip F f)) := words_good fun p hp => by
  simp only [List.mem_cons, List.not_mem_nil, or_false] at hp
  rcases hp with rfl
  · exact g_wide_Of F
theorem hl_wide_Clip (F : Nat) : ∀ p ∈ loopsIn PP 88, LoopOK PP (S_wide_Clip F) c_wide_Clip F (I_wide_Clip F) (J_wide_Clip F) p :=
  loops_of [] (by kernel_rfl) all_nil
theorem hj_wide_Clip (F : Nat) : ∀ p ∈ joinsIn PP c_wide_Clip 88, JoinOK PP (S_wide_Clip F) c_wide_Clip (I_wide_Clip F) (J_wide_Clip F) p :=
  joins_of [] (by kernel_rfl) all_nil
theorem g_wide_Clip (F : Nat) : Good PP 88 (unS (s_wide_Clip F)) :=
  fun_spec (hS_wide_Clip F) (by kernel_rfl) (by kernel_rfl) (C := c_wide_Clip) (F := fun q => (f_wide_Clip F (atI (nth q 0)) (atI (nth q 1)))) (fun _ => F) (fun _ => I_wide_Clip F) (fun _ => J_wide_Clip F) (fun _ => hl_wide_Clip F) (fun _ => hj_wide_Clip F)
    (fun q => (congrArg (funL PP (S_wide_Clip F) c_wide_Clip (I_wide_Clip F) (J_wide_Clip F) 88) (show (fTs ti_wide_Clip q).1 = (fTs ti_wide_Clip [.i (atI (nth q 0)), .i (atI (nth q 1))]).1 by kernel_rfl)).trans (e_wide_Clip F (atI (nth q 0)) (atI (nth q 1))))
    (fun _ h => (okT_fill h).trans (congrArg some (by kernel_rfl)))

end Go.Xv
set_option linter.unusedVariables false
namespace Go.Xv
/- 59 _fix_Add -/
def c_fix_Add : Cfg := ⟨[0, 1, 4, 5, 6, 17, 20], [], [], []⟩
def ti_fix_Add : List TV := [.v (.int .i64), .v (.int .i64)]
def to_fix_Add : TV := .v (.tup [.int .i64, .bool])
def S_fix_Add (F : Nat) : FuncId → List VV → Option (Bool × VV) := words []
def W_fix_Add (F : Nat) : List LW := []
def I_fix_Add (F : Nat) : Nat → VS → (Exit → VS → R) → R := tabI c_fix_Add (W_fix_Add F)
def WJ_fix_Add (F : Nat) : List LJ := []
def J_fix_Add (F : Nat) : Nat → Nat → VS → (Exit → VS → R) → R := tabJ (WJ_fix_Add F)
def f_fix_Add (F : Nat) (a0 : Int) (a1 : Int) : R :=
  let v3199 : Int := (IntKind.wrap .i64 (a0 + a1))
  bif ((decide (((andI .i64 ((xorI .i64 a0 v3199)) ((xorI .i64 a1 v3199)))) ≥ 0))) then (
    some (.v (.tuple #[.int .i64 v3199, .bool false])))
  else (
    bif ((decide (a0 < 0))) then (
      some (.v (.tuple #[.int .i64 (-9223372036854775808), .bool true])))
    else (
      some (.v (.tuple #[.int .i64 9223372036854775807, .bool true]))))
theorem e_fix_Add (F : Nat) (a0 : Int) (a1 : Int) : funL PP (S_fix_Add F) c_fix_Add (I_fix_Add F) (J_fix_Add F) 59 (fTs ti_fix_Add [.i a0, .i a1]).1 = f_fix_Add F a0 a1 := by
  have h : ∀ (_ : Unit), funL PP (words []) c_fix_Add (tabI c_fix_Add []) (tabJ []) 59 (fTs ti_fix_Add [.i a0, .i a1]).1 = (
  let v3199 : Int := (IntKind.wrap .i64 (a0 + a1))
  bif ((decide (((andI .i64 ((xorI .i64 a0 v3199)) ((xorI .i64 a1 v3199)))) ≥ 0))) then (
    some (.v (.tuple #[.int .i64 v3199, .bool false])))
  else (
    bif ((decide (a0 < 0))) then (
      some (.v (.tuple #[.int .i64 (-9223372036854775808), .bool true])))
    else (
      some (.v (.tuple #[.int .i64 9223372036854775807, .bool true])))) : R) := by
    intros
    kernel_rfl
  exact (h ()).trans (by kernel_rfl)
def ok_fix_Add (F : Nat) (a0 : Int) (a1 : Int) : Bool := okT to_fix_Add (f_fix_Add F a0 a1)
def o_fix_Add_0 (F : Nat) (a0 : Int) (a1 : Int) : Int := atI (nth (outT to_fix_Add (f_fix_Add F a0 a1)) 0)
def o_fix_Add_1 (F : Nat) (a0 : Int) (a1 : Int) : Bool := atB (nth (outT to_fix_Add (f_fix_Add F a0 a1)) 1)
theorem k_fix_Add (F : Nat) (a0 : Int) (a1 : Int) {z0 : Int} {z1 : Bool} (h : f_fix_Add F a0 a1 = some (.v (.tuple #[.int .i64 z0, .bool z1]))) : ok_fix_Add F a0 a1 = true ∧ o_fix_Add_0 F a0 a1 = z0 ∧ o_fix_Add_1 F a0 a1 = z1 := by
  refine ⟨?_, ?_, ?_⟩
  · unfold ok_fix_Add; rw [h]; kernel_rfl
  · unfold o_fix_Add_0; rw [h]; kernel_rfl
  · unfold o_fix_Add_1; rw [h]; kernel_rfl
def s_fix_Add (F : Nat) : List VV → Option (Bool × VV) := spec ti_fix_Add to_fix_Add (fun q => (ok_fix_Add F (atI (nth q 0)) (atI (nth q 1)))) (fun q => [.i (o_fix_Add_0 F (atI (nth q 0)) (atI (nth q 1))), .b (o_fix_Add_1 F (atI (nth q 0)) (atI (nth q 1)))])
theorem hS_fix_Add (F : Nat) : ∀ f, Good PP f (unS (S_fix_Add F f)) := words_good fun p hp => by
  cases hp
theorem hl_fix_Add (F : Nat) : ∀ p ∈ loopsIn PP 59, LoopOK PP (S_fix_Add F) c_fix_Add F (I_fix_Add F) (J_fix_Add F) p :=
  loops_of [] (by kernel_rfl) all_nil
theorem hj_fix_Add (F : Nat) : ∀ p ∈ joinsIn PP c_fix_Add 59, JoinOK PP (S_fix_Add F) c_fix_Add (I_fix_Add F) (J_fix_Add F) p :=
  joins_of [] (by kernel_rfl) all_nil
theorem g_fix_Add (F : Nat) : Good PP 59 (unS (s_fix_Add F)) :=
  fun_spec (hS_fix_Add F) (by kernel_rfl) (by kernel_rfl) (C := c_fix_Add) (F := fun q => (f_fix_Add F (atI (nth q 0)) (atI (nth q 1)))) (fun _ => F) (fun _ => I_fix_Add F) (fun _ => J_fix_Add F) (fun _ => hl_fix_Add F) (fun _ => hj_fix_Add F)
    (fun q => (congrArg (funL PP (S_fix_Add F) c_fix_Add (I_fix_Add F) (J_fix_Add F) 59) (show (fTs ti_fix_Add q).1 = (fTs ti_fix_Add [.i (atI (nth q 0)), .i (atI (nth q 1))]).1 by kernel_rfl)).trans (e_fix_Add F (atI (nth q 0)) (atI (nth q 1))))
    (fun _ h => (okT_fill h).trans (congrArg some (by kernel_rfl)))

end Go.Xv
set_option linter.unusedVariables false
namespace Go.Xv
/- 58 _fix_Clamp -/
def c_fix_Clamp : Cfg := ⟨[0, 1, 2, 6, 7, 8, 11], [], [], []⟩
def ti_fix_Clamp : List TV := [.v (.int .i64), .v (.int .i64), .v (.int .i64)]
def to_fix_Clamp : TV := .v (.tup [.int .i64, .bool])
def S_fix_Clamp (F : Nat) : FuncId → List VV → Option (Bool × VV) := words []
def W_fix_Clamp (F : Nat) : List LW := []
def I_fix_Clamp (F : Nat) : Nat → VS → (Exit → VS → R) → R := tabI c_fix_Clamp (W_fix_Clamp F)
def WJ_fix_Clamp (F : Nat) : List LJ := []
def J_fix_Clamp (F : Nat) : Nat → Nat → VS → (Exit → VS → R) → R := tabJ (WJ_fix_Clamp F)
def f_fix_Clamp (F : Nat) (a0 : Int) (a1 : Int) (a2 : Int) : R :=
  bif ((decide (a2 < a1))) then (
    some (.v (.tuple #[.int .i64 a1, .bool true])))
  else (
    let v17 : Int := (if a1 > a0 then a1 else a0)
    let v18 : Int := (if a2 < v17 then a2 else v17)
    some (.v (.tuple #[.int .i64 v18, .bool ((v18 != a0))])))
theorem e_fix_Clamp (F : Nat) (a0 : Int) (a1 : Int) (a2 : Int) : funL PP (S_fix_Clamp F) c_fix_Clamp (I_fix_Clamp F) (J_fix_Clamp F) 58 (fTs ti_fix_Clamp [.i a0, .i a1, .i a2]).1 = f_fix_Clamp F a0 a1 a2 := by
  have h : ∀ (_ : Unit), funL PP (words []) c_fix_Clamp (tabI c_fix_Clamp []) (tabJ []) 58 (fTs ti_fix_Clamp [.i a0, .i a1, .i a2]).1 = (
  bif ((decide (a2 < a1))) then (
    some (.v (.tuple #[.int .i64 a1, .bool true])))
  else (
    let v17 : Int := (if a1 > a0 then a1 else a0)
    let v18 : Int := (if a2 < v17 then a2 else v17)
    some (.v (.tuple #[.int .i64 v18, .bool ((v18 != a0))]))) : R) := by
    intros
    kernel_rfl
  exact (h ()).trans (by kernel_rfl)
def ok_fix_Clamp (F : Nat) (a0 : Int) (a1 : Int) (a2 : Int) : Bool := okT to_fix_Clamp (f_fix_Clamp F a0 a1 a2)
def o_fix_Clamp_0 (F : Nat) (a0 : Int) (a1 : Int) (a2 : Int) : Int := atI (nth (outT to_fix_Clamp (f_fix_Clamp F a0 a1 a2)) 0)
def o_fix_Clamp_1 (F : Nat) (a0 : Int) (a1 : Int) (a2 : Int) : Bool := atB (nth (outT to_fix_Clamp (f_fix_Clamp F a0 a1 a2)) 1)
theorem k_fix_Clamp (F : Nat) (a0 : Int) (a1 : Int) (a2 : Int) {z0 : Int} {z1 : Bool} (h : f_fix_Clamp F a0 a1 a2 = some (.v (.tuple #[.int .i64 z0, .bool z1]))) : ok_fix_Clamp F a0 a1 a2 = true ∧ o_fix_Clamp_0 F a0 a1 a2 = z0 ∧ o_fix_Clamp_1 F a0 a1 a2 = z1 := by
  refine ⟨?_, ?_, ?_⟩
  · unfold ok_fix_Clamp; rw [h]; kernel_rfl
  · unfold o_fix_Clamp_0; rw [h]; kernel_rfl
  · unfold o_fix_Clamp_1; rw [h]; kernel_rfl
def s_fix_Clamp (F : Nat) : List VV → Option (Bool × VV) := spec ti_fix_Clamp to_fix_Clamp (fun q => (ok_fix_Clamp F (atI (nth q 0)) (atI (nth q 1)) (atI (nth q 2)))) (fun q => [.i (o_fix_Clamp_0 F (atI (nth q 0)) (atI (nth q 1)) (atI (nth q 2))), .b (o_fix_Clamp_1 F (atI (nth q 0)) (atI (nth q 1)) (atI (nth q 2)))])
theorem hS_fix_Clamp (F : Nat) : ∀ f, Good PP f (unS (S_fix_Clamp F f)) := words_good fun p hp => by
  cases hp
theorem hl_fix_Clamp (F : Nat) : ∀ p ∈ loopsIn PP 58, LoopOK PP (S_fix_Clamp F) c_fix_Clamp F (I_fix_Clamp F) (J_fix_Clamp F) p :=
  loops_of [] (by kernel_rfl) all_nil
theorem hj_fix_Clamp (F : Nat) : ∀ p ∈ joinsIn PP c_fix_Clamp 58, JoinOK PP (S_fix_Clamp F) c_fix_Clamp (I_fix_Clamp F) (J_fix_Clamp F) p :=
  joins_of [] (by kernel_rfl) all_nil
theorem g_fix_Clamp (F : Nat) : Good PP 58 (unS (s_fix_Clamp F)) :=
  fun_spec (hS_fix_Clamp F) (by kernel_rfl) (by kernel_rfl) (C := c_fix_Clamp) (F := fun q => (f_fix_Clamp F (atI (nth q 0)) (atI (nth q 1)) (atI (nth q 2)))) (fun _ => F) (fun _ => I_fix_Clamp F) (fun _ => J_fix_Clamp F) (fun _ => hl_fix_Clamp F) (fun _ => hj_fix_Clamp F)
    (fun q => (congrArg (funL PP (S_fix_Clamp F) c_fix_Clamp (I_fix_Clamp F) (J_fix_Clamp F) 58) (show (fTs ti_fix_Clamp q).1 = (fTs ti_fix_Clamp [.i (atI (nth q 0)), .i (atI (nth q 1)), .i (atI (nth q 2))]).1 by kernel_rfl)).trans (e_fix_Clamp F (atI (nth q 0)) (atI (nth q 1)) (atI (nth q 2))))
    (fun _ h => (okT_fill h).trans (congrArg some (by kernel_rfl)))

end Go.Xv
set_option linter.unusedVariables false
namespace Go.Xv
/- 68 _fix_clip -/
def c_fix_clip : Cfg := ⟨[0, 1, 2, 3, 4, 5], [], [], []⟩
def ti_fix_clip : List TV := [.v (.agg [.int .i64, .int .u64])]
def to_fix_clip : TV := .v (.tup [.int .i64, .bool])
def S_fix_clip (F : Nat) : FuncId → List VV → Option (Bool × VV) := words [(88, s_wide_Clip F)]
def W_fix_clip (F : Nat) : List LW := []
def I_fix_clip (F : Nat) : Nat → VS → (Exit → VS → R) → R := tabI c_fix_clip (W_fix_clip F)
def WJ_fix_clip (F : Nat) : List LJ := []
def J_fix_clip (F : Nat) : Nat → Nat → VS → (Exit → VS → R) → R := tabJ (WJ_fix_clip F)
def f_fix_clip (F : Nat) (a0 : Int) (a1 : Int) : R :=
  bif (ok_wide_Clip F a0 a1) then (
    some (.v (.tuple #[.int .i64 ((o_wide_Clip_0 F a0 a1)), .bool ((o_wide_Clip_1 F a0 a1))])))
  else (
    none)
theorem e_fix_clip (F : Nat) (a0 : Int) (a1 : Int) : funL PP (S_fix_clip F) c_fix_clip (I_fix_clip F) (J_fix_clip F) 68 (fTs ti_fix_clip [.i a0, .i a1]).1 = f_fix_clip F a0 a1 := by
  have h : ∀ (ok_wide_Clip : Nat → Int → Int → Bool) (o_wide_Clip_0 : Nat → Int → Int → Int) (o_wide_Clip_1 : Nat → Int → Int → Bool), funL PP (words [(88, spec ti_wide_Clip to_wide_Clip (fun q => (ok_wide_Clip F (atI (nth q 0)) (atI (nth q 1)))) (fun q => [.i (o_wide_Clip_0 F (atI (nth q 0)) (atI (nth q 1))), .b (o_wide_Clip_1 F (atI (nth q 0)) (atI (nth q 1)))]))]) c_fix_clip (tabI c_fix_clip []) (tabJ []) 68 (fTs ti_fix_clip [.i a0, .i a1]).1 = (
  bif (ok_wide_Clip F a0 a1) then (
    some (.v (.tuple #[.int .i64 ((o_wide_Clip_0 F a0 a1)), .bool ((o_wide_Clip_1 F a0 a1))])))
  else (
    none) : R) := by
    intros
    kernel_rfl
  exact (h ok_wide_Clip o_wide_Clip_0 o_wide_Clip_1).trans (by kernel_rfl)
def ok_fix_clip (F : Nat) (a0 : Int) (a1 : Int) : Bool := okT to_fix_clip (f_fix_clip F a0 a1)
def o_fix_clip_0 (F : Nat) (a0 : Int) (a1 : Int) : Int := atI (nth (outT to_fix_clip (f_fix_clip F a0 a1)) 0)
def o_fix_clip_1 (F : Nat) (a0 : Int) (a1 : Int) : Bool := atB (nth (outT to_fix_clip (f_fix_clip F a0 a1)) 1)
theorem k_fix_clip (F : Nat) (a0 : Int) (a1 : Int) {z0 : Int} {z1 : Bool} (h : f_fix_clip F a0 a1 = some (.v (.tuple #[.int .i64 z0, .bool z1]))) : ok_fix_clip F a0 a1 = true ∧ o_fix_clip_0 F a0 a1 = z0 ∧ o_fix_clip_1 F a0 a1 = z1 := by
  refine ⟨?_, ?_, ?_⟩
  · unfold ok_fix_clip; rw [h]; kernel_rfl
  · unfold o_fix_clip_0; rw [h]; kernel_rfl
  · unfold o_fix_clip_1; rw [h]; kernel_rfl
def s_fix_clip (F : Nat) : List VV → Option (Bool × VV) := spec ti_fix_clip to_fix_clip (fun q => (ok_fix_clip F (atI (nth q 0)) (atI (nth q 1)))) (fun q => [.i (o_fix_clip_0 F (atI (nth q 0)) (atI (nth q 1))), .b (o_fix_clip_1 F (atI (nth q 0)) (atI (nth q 1)))])
theorem hS_fix_clip (F : Nat) : ∀ f, Good PP f (unS (S_fix_clip F f)) := words_good fun p hp => by
  simp only [List.mem_cons, List.not_mem_nil, or_false] at hp
  rcases hp with rfl
  · exact g_wide_Clip F
theorem hl_fix_clip (F : Nat) : ∀ p ∈ loopsIn PP 68, LoopOK PP (S_fix_clip F) c_fix_clip F (I_fix_clip F) (J_fix_clip F) p :=
  loops_of [] (by kernel_rfl) all_nil
theorem hj_fix_clip (F : Nat) : ∀ p ∈ joinsIn PP c_fix_clip 68, JoinOK PP (S_fix_clip F) c_fix_clip (I_fix_clip F) (J_fix_clip F) p :=
  joins_of [] (by kernel_rfl) all_nil
theorem g_fix_clip (F : Nat) : Good PP 68 (unS (s_fix_clip F)) :=
  fun_spec (hS_fix_clip F) (by kernel_rfl) (by kernel_rfl) (C := c_fix_clip) (F := fun q => (f_fix_clip F (atI (nth q 0)) (atI (nth q 1)))) (fun _ => F) (fun _ => I_fix_clip F) (fun _ => J_fix_clip F) (fun _ => hl_fix_clip F) (fun _ => hj_fix_clip F)
    (fun q => (congrArg (funL PP (S_fix_clip F) c_fix_clip (I_fix_clip F) (J_fix_clip F) 68) (show (fTs ti_fix_clip q).1 = (fTs ti_fix_clip [.i (atI (nth q 0)), .i (atI (nth q 1))]).1 by kernel_rfl)).trans (e_fix_clip F (atI (nth q 0)) (atI (nth q 1))))
    (fun _ h => (okT_fill h).trans (congrArg some (by kernel_rfl)))

end Go.Xv
set_option linter.unusedVariables false
namespace Go.Xv
/- 67 _fix_of -/
def c_fix_of : Cfg := ⟨[0, 2], [], [], []⟩
def ti_fix_of : List TV := [.v (.int .i64)]
def to_fix_of : TV := .v (.agg [.int .i64, .int .u64])
def S_fix_of (F : Nat) : FuncId → List VV → Option (Bool × VV) := words [(87, s_wide_Of F)]
def W_fix_of (F : Nat) : List LW := []
def I_fix_of (F : Nat) : Nat → VS → (Exit → VS → R) → R := tabI c_fix_of (W_fix_of F)
def WJ_fix_of (F : Nat) : List LJ := []
def J_fix_of (F : Nat) : Nat → Nat → VS → (Exit → VS → R) → R := tabJ (WJ_fix_of F)
def f_fix_of (F : Nat) (a0 : Int) : R :=
  bif (ok_wide_Of F a0) then (
    some (.v (.agg #[.int .i64 ((o_wide_Of_0 F a0)), .int .u64 ((o_wide_Of_1 F a0))])))
  else (
    none)
theorem e_fix_of (F : Nat) (a0 : Int) : funL PP (S_fix_of F) c_fix_of (I_fix_of F) (J_fix_of F) 67 (fTs ti_fix_of [.i a0]).1 = f_fix_of F a0 := by
  have h : ∀ (ok_wide_Of : Nat → Int → Bool) (o_wide_Of_0 : Nat → Int → Int) (o_wide_Of_1 : Nat → Int → Int), funL PP (words [(87, spec ti_wide_Of to_wide_Of (fun q => (ok_wide_Of F (atI (nth q 0)))) (fun q => [.i (o_wide_Of_0 F (atI (nth q 0))), .i (o_wide_Of_1 F (atI (nth q 0)))]))]) c_fix_of (tabI c_fix_of []) (tabJ []) 67 (fTs ti_fix_of [.i a0]).1 = (
  bif (ok_wide_Of F a0) then (
    some (.v (.agg #[.int .i64 ((o_wide_Of_0 F a0)), .int .u64 ((o_wide_Of_1 F a0))])))
  else (
    none) : R) := by
    intros
    kernel_rfl
  exact (h ok_wide_Of o_wide_Of_0 o_wide_Of_1).trans (by kernel_rfl)
def ok_fix_of (F : Nat) (a0 : Int) : Bool := okT to_fix_of (f_fix_of F a0)
def o_fix_of_0 (F : Nat) (a0 : Int) : Int := atI (nth (outT to_fix_of (f_fix_of F a0)) 0)
def o_fix_of_1 (F : Nat) (a0 : Int) : Int := atI (nth (outT to_fix_of (f_fix_of F a0)) 1)
theorem k_fix_of (F : Nat) (a0 : Int) {z0 : Int} {z1 : Int} (h : f_fix_of F a0 = some (.v (.agg #[.int .i64 z0, .int .u64 z1]))) : ok_fix_of F a0 = true ∧ o_fix_of_0 F a0 = z0 ∧ o_fix_of_1 F a0 = z1 := by
  refine ⟨?_, ?_, ?_⟩
  · unfold ok_fix_of; rw [h]; kernel_rfl
  · unfold o_fix_of_0; rw [h]; kernel_rfl
  · unfold o_fix_of_1; rw [h]; kernel_rfl
def s_fix_of (F : Nat) : List VV → Option (Bool × VV) := spec ti_fix_of to_fix_of (fun q => (ok_fix_of F (atI (nth q 0)))) (fun q => [.i (o_fix_of_0 F (atI (nth q 0))), .i (o_fix_of_1 F (atI (nth q 0)))])
theorem hS_fix_of (F : Nat) : ∀ f, Good PP f (unS (S_fix_of F f)) := words_good fun p hp => by
  simp only [List.mem_cons, List.not_mem_nil, or_false] at hp
  rcases hp with rfl
  · exact g_wide_Of F
theorem hl_fix_of (F : Nat) : ∀ p ∈ loopsIn PP 67, LoopOK PP (S_fix_of F) c_fix_of F (I_fix_of F) (J_fix_of F) p :=
  loops_of [] (by kernel_rfl) all_nil
theorem hj_fix_of (F : Nat) : ∀ p ∈ joinsIn PP c_fix_of 67, JoinOK PP (S_fix_of F) c_fix_of (I_fix_of F) (J_fix_of F) p :=
  joins_of [] (by kernel_rfl) all_nil
theorem g_fix_of (F : Nat) : Good PP 67 (unS (s_fix_of F)) :=
  fun_spec (hS_fix_of F) (by kernel_rfl) (by kernel_rfl) (C := c_fix_of) (F := fun q => (f_fix_of F (atI (nth q 0)))) (fun _ => F) (fun _ => I_fix_of F) (fun _ => J_fix_of F) (fun _ => hl_fix_of F) (fun _ => hj_fix_of F)
    (fun q => (congrArg (funL PP (S_fix_of F) c_fix_of (I_fix_of F) (J_fix_of F) 67) (show (fTs ti_fix_of q).1 = (fTs ti_fix_of [.i (atI (nth q 0))]).1 by kernel_rfl)).trans (e_fix_of F (atI (nth q 0))))
    (fun _ h => (okT_fill h).trans (congrArg some (by kernel_rfl)))

end Go.Xv
set_option linter.unusedVariables false
namespace Go.Xv
/- 65 _vec_Clamp_1 -/
def c_vec_Clamp_1 : Cfg := ⟨[0, 1, 2, 4, 5], [], [], []⟩
def ti_vec_Clamp_1 : List TV := [.v (.int .i64), .fpx [.v (.int .i64), .v (.int .i64), .v (.int .i64)] (.lit 0), .fpx [.v (.int .i64)] (.lit 0)]
def to_vec_Clamp_1 : TV := .v (.tup [.int .i64, .bool])
def S_vec_Clamp_1 (F : Nat) : FuncId → List VV → Option (Bool × VV) := words [(58, s_fix_Clamp F)]
def W_vec_Clamp_1 (F : Nat) : List LW := []
def I_vec_Clamp_1 (F : Nat) : Nat → VS → (Exit → VS → R) → R := tabI c_vec_Clamp_1 (W_vec_Clamp_1 F)
def WJ_vec_Clamp_1 (F : Nat) : List LJ := []
def J_vec_Clamp_1 (F : Nat) : Nat → Nat → VS → (Exit → VS → R) → R := tabJ (WJ_vec_Clamp_1 F)
def f_vec_Clamp_1 (F : Nat) (a0 : Int) (a1 : Int) (a2 : Int) (a3 : Int) (a4 : Int) : R :=
  bif ((decide (0 ≤ a0)) && (decide (a0 < 3))) then (
    let v13 : Nat := (0 + ((Int.toNat a0) * 1))
    bif ((isI .i64 [.v (.int .i64 a1), .v (.int .i64 a2), .v (.int .i64 a3)][v13]?) && true) then (
      let v14 : Int := (iv [.v (.int .i64 a1), .v (.int .i64 a2), .v (.int .i64 a3)][v13]?)
      let v15 : Int := (IntKind.wrap .i64 (0 - a4))
      bif (ok_fix_Clamp F v14 v15 a4) then (
        some (.v (.tuple #[.int .i64 ((o_fix_Clamp_0 F v14 v15 a4)), .bool ((o_fix_Clamp_1 F v14 v15 a4))])))
      else (
        none))
    else (
      none))
  else (
    none)
theorem e_vec_Clamp_1 (F : Nat) (a0 : Int) (a1 : Int) (a2 : Int) (a3 : Int) (a4 : Int) : funL PP (S_vec_Clamp_1 F) c_vec_Clamp_1 (I_vec_Clamp_1 F) (J_vec_Clamp_1 F) 65 (fTs ti_vec_Clamp_1 [.i a0, .i a1, .i a2, .i a3, .i a4]).1 = f_vec_Clamp_1 F a0 a1 a2 a3 a4 := by
  have h : ∀ (ok_fix_Clamp : Nat → Int → Int → Int → Bool) (o_fix_Clamp_0 : Nat → Int → Int → Int → Int) (o_fix_Clamp_1 : Nat → Int → Int → Int → Bool), funL PP (words [(58, spec ti_fix_Clamp to_fix_Clamp (fun q => (ok_fix_Clamp F (atI (nth q 0)) (atI (nth q 1)) (atI (nth q 2)))) (fun q => [.i (o_fix_Clamp_0 F (atI (nth q 0)) (atI (nth q 1)) (atI (nth q 2))), .b (o_fix_Clamp_1 F (atI (nth q 0)) (atI (nth q 1)) (atI (nth q 2)))]))]) c_vec_Clamp_1 (tabI c_vec_Clamp_1 []) (tabJ []) 65 (fTs ti_vec_Clamp_1 [.i a0, .i a1, .i a2, .i a3, .i a4]).1 = (
  bif ((decide (0 ≤ a0)) && (decide (a0 < 3))) then (
    let v13 : Nat := (0 + ((Int.toNat a0) * 1))
    bif ((isI .i64 [.v (.int .i64 a1), .v (.int .i64 a2), .v (.int .i64 a3)][v13]?) && true) then (
      let v14 : Int := (iv [.v (.int .i64 a1), .v (.int .i64 a2), .v (.int .i64 a3)][v13]?)
      let v15 : Int := (IntKind.wrap .i64 (0 - a4))
      bif (ok_fix_Clamp F v14 v15 a4) then (
        some (.v (.tuple #[.int .i64 ((o_fix_Clamp_0 F v14 v15 a4)), .bool ((o_fix_Clamp_1 F v14 v15 a4))])))
      else (
        none))
    else (
      none))
  else (
    none) : R) := by
    intros
    kernel_rfl
  exact (h ok_fix_Clamp o_fix_Clamp_0 o_fix_Clamp_1).trans (by kernel_rfl)
def ok_vec_Clamp_1 (F : Nat) (a0 : Int) (a1 : Int) (a2 : Int) (a3 : Int) (a4 : Int) : Bool := okT to_vec_Clamp_1 (f_vec_Clamp_1 F a0 a1 a2 a3 a4)
def o_vec_Clamp_1_0 (F : Nat) (a0 : Int) (a1 : Int) (a2 : Int) (a3 : Int) (a4 : Int) : Int := atI (nth (outT to_vec_Clamp_1 (f_vec_Clamp_1 F a0 a1 a2 a3 a4)) 0)
def o_vec_Clamp_1_1 (F : Nat) (a0 : Int) (a1 : Int) (a2 : Int) (a3 : Int) (a4 : Int) : Bool := atB (nth (outT to_vec_Clamp_1 (f_vec_Clamp_1 F a0 a1 a2 a3 a4)) 1)
theorem k_vec_Clamp_1 (F : Nat) (a0 : Int) (a1 : Int) (a2 : Int) (a3 : Int) (a4 : Int) {z0 : Int} {z1 : Bool} (h : f_vec_Clamp_1 F a0 a1 a2 a3 a4 = some (.v (.tuple #[.int .i64 z0, .bool z1]))) : ok_vec_Clamp_1 F a0 a1 a2 a3 a4 = true ∧ o_vec_Clamp_1_0 F a0 a1 a2 a3 a4 = z0 ∧ o_vec_Clamp_1_1 F a0 a1 a2 a3 a4 = z1 := by
  refine ⟨?_, ?_, ?_⟩
  · unfold ok_vec_Clamp_1; rw [h]; kernel_rfl
  · unfold o_vec_Clamp_1_0; rw [h]; kernel_rfl
  · unfold o_vec_Clamp_1_1; rw [h]; kernel_rfl
def s_vec_Clamp_1 (F : Nat) : List VV → Option (Bool × VV) := spec ti_vec_Clamp_1 to_vec_Clamp_1 (fun q => (ok_vec_Clamp_1 F (atI (nth q 0)) (atI (nth q 1)) (atI (nth q 2)) (atI (nth q 3)) (atI (nth q 4)))) (fun q => [.i (o_vec_Clamp_1_0 F (atI (nth q 0)) (atI (nth q 1)) (atI (nth q 2)) (atI (nth q 3)) (atI (nth q 4))), .b (o_vec_Clamp_1_1 F (atI (nth q 0)) (atI (nth q 1)) (atI (nth q 2)) (atI (nth q 3)) (atI (nth q 4)))])
theorem hS_vec_Clamp_1 (F : Nat) : ∀ f, Good PP f (unS (S_vec_Clamp_1 F f)) := words_good fun p hp => by
  simp only [List.mem_cons, List.not_mem_nil, or_false] at hp
  rcases hp with rfl
  · exact g_fix_Clamp F
theorem hl_vec_Clamp_1 (F : Nat) : ∀ p ∈ loopsIn PP 65, LoopOK PP (S_vec_Clamp_1 F) c_vec_Clamp_1 F (I_vec_Clamp_1 F) (J_vec_Clamp_1 F) p :=
  loops_of [] (by kernel_rfl) all_nil
theorem hj_vec_Clamp_1 (F : Nat) : ∀ p ∈ joinsIn PP c_vec_Clamp_1 65, JoinOK PP (S_vec_Clamp_1 F) c_vec_Clamp_1 (I_vec_Clamp_1 F) (J_vec_Clamp_1 F) p :=
  joins_of [] (by kernel_rfl) all_nil
theorem g_vec_Clamp_1 (F : Nat) : Good PP 65 (unS (s_vec_Clamp_1 F)) :=
  fun_spec (hS_vec_Clamp_1 F) (by kernel_rfl) (by kernel_rfl) (C := c_vec_Clamp_1) (F := fun q => (f_vec_Clamp_1 F (atI (nth q 0)) (atI (nth q 1)) (atI (nth q 2)) (atI (nth q 3)) (atI (nth q 4)))) (fun _ => F) (fun _ => I_vec_Clamp_1 F) (fun _ => J_vec_Clamp_1 F) (fun _ => hl_vec_Clamp_1 F) (fun _ => hj_vec_Clamp_1 F)
    (fun q => (congrArg (funL PP (S_vec_Clamp_1 F) c_vec_Clamp_1 (I_vec_Clamp_1 F) (J_vec_Clamp_1 F) 65) (show (fTs ti_vec_Clamp_1 q).1 = (fTs ti_vec_Clamp_1 [.i (atI (nth q 0)), .i (atI (nth q 1)), .i (atI (nth q 2)), .i (atI (nth q 3)), .i (atI (nth q 4))]).1 by kernel_rfl)).trans (e_vec_Clamp_1 F (atI (nth q 0)) (atI (nth q 1)) (atI (nth q 2)) (atI (nth q 3)) (atI (nth q 4))))
    (fun _ h => (okT_fill h).trans (congrArg some (by kernel_rfl)))

end Go.Xv
set_option linter.unusedVariables false
namespace Go.Xv
/- 64 _vec_each -/
def c_vec_each : Cfg := ⟨[0, 2, 3, 4, 5, 6, 7, 8, 9, 10], [(0, [0, 2, 3, 4, 5, 9, 26, 27])], [], []⟩
def ti_vec_each : List TV := [.fn 65 [.fpx [.v (.int .i64), .v (.int .i64), .v (.int .i64)] (.lit 0), .fpx [.v (.int .i64)] (.lit 0)]]
def to_vec_each : TV := .v (.tup [.agg [.int .i64, .int .i64, .int .i64], .bool])
def S_vec_each (F : Nat) : FuncId → List VV → Option (Bool × VV) := words [(65, s_vec_Clamp_1 F)]
def T_vec_each_0 : TS := ⟨[(0, .fn 65 [.fpx [.v (.int .i64), .v (.int .i64), .v (.int .i64)] (.lit 0), .fpx [.v (.int .i64)] (.lit 0)]), (2, .lp 0 (.lit 0)), (3, .v (.bool)), (4, .lp 1 (.lit 0)), (5, .v (.bool)), (9, .v (.int .i64))], [(0, ⟨(.ex [.v (.int .i64), .v (.int .i64), .v (.int .i64)]), true⟩), (1, ⟨.hole, true⟩)], 2⟩
def T_vec_each_0_0 : TS := ⟨[(0, .fn 65 [.fpx [.v (.int .i64), .v (.int .i64), .v (.int .i64)] (.lit 0), .fpx [.v (.int .i64)] (.lit 0)]), (2, .lp 0 (.lit 0)), (3, .v (.bool)), (4, .lp 1 (.lit 0)), (5, .v (.bool)), (9, .v (.int .i64))], [(0, ⟨(.ex [.v (.int .i64), .v (.int .i64), .v (.int .i64)]), true⟩), (1, ⟨.hole, true⟩)], 2⟩
def B_vec_each_0 (F : Nat) (rc : Int → Int → Int → Int → Bool → Bool → Int → Int → Int → Int → List VV → R) (ex0 : Int → Int → Int → Int → Bool → Bool → Int → Int → Int → Int → List VV → R) (x0 : Int) (x1 : Int) (x2 : Int) (x3 : Int) (x4 : Bool) (x5 : Bool) (x6 : Int) (x7 : Int) (x8 : Int) (x9 : Int) (x10 : List VV) : R :=
  bif ((decide (x6 < 3))) then (
    bif (ok_vec_Clamp_1 F x6 x0 x1 x2 x3) then (
      let v22 : Int := (o_vec_Clamp_1_0 F x6 x0 x1 x2 x3)
      bif x5 then (
        bif ((decide (0 ≤ x6)) && (decide (x6 < 3))) then (
          let v24 : Nat := (0 + ((Int.toNat x6) * 1))
          bif (decide ((v24 + 1) ≤ x10.length)) then (
            rc x0 x1 x2 x3 x4 true ((IntKind.wrap .i64 (x6 + 1))) x7 x8 x9 ((x10.take v24 ++ [.v (.int .i64 v22)] ++ x10.drop (v24 + 1))))
          else (
            none))
        else (
          none))
      else (
        bif ((decide (0 ≤ x6)) && (decide (x6 < 3))) then (
          let v27 : Nat := (0 + ((Int.toNat x6) * 1))
          bif (decide ((v27 + 1) ≤ x10.length)) then (
            rc x0 x1 x2 x3 x4 ((o_vec_Clamp_1_1 F x6 x0 x1 x2 x3)) ((IntKind.wrap .i64 (x6 + 1))) x7 x8 x9 ((x10.take v27 ++ [.v (.int .i64 v22)] ++ x10.drop (v27 + 1))))
          else (
            none))
        else (
          none)))
    else (
      none))
  else (
    ex0 x0 x1 x2 x3 x4 x5 x6 x7 x8 x9 x10)
def L_vec_each_0 (F : Nat) (ex0 : Int → Int → Int → Int → Bool → Bool → Int → Int → Int → Int → List VV → R) : Nat → Int → Int → Int → Int → Bool → Bool → Int → Int → Int → Int → List VV → R
  | 0, _, _, _, _, _, _, _, _, _, _, _ => none
  | n + 1, x0, x1, x2, x3, x4, x5, x6, x7, x8, x9, x10 => B_vec_each_0 F (L_vec_each_0 F ex0 n) ex0 x0 x1 x2 x3 x4 x5 x6 x7 x8 x9 x10
def W_vec_each (F : Nat) : List LW := [⟨0, T_vec_each_0, fun k q => L_vec_each_0 F (fun (z0 : Int) (z1 : Int) (z2 : Int) (z3 : Int) (z4 : Bool) (z5 : Bool) (z6 : Int) (z7 : Int) (z8 : Int) (z9 : Int) (z10 : List VV) => k (.exit 0) (fS T_vec_each_0_0 [.i z0, .i z1, .i z2, .i z3, .b z4, .b z5, .i z6, .i z7, .i z8, .i z9, .c z10])) F (atI (nth q 0)) (atI (nth q 1)) (atI (nth q 2)) (atI (nth q 3)) (atB (nth q 4)) (atB (nth q 5)) (atI (nth q 6)) (atI (nth q 7)) (atI (nth q 8)) (atI (nth q 9)) (atC (nth q 10))⟩]
def I_vec_each (F : Nat) : Nat → VS → (Exit → VS → R) → R := tabI c_vec_each (W_vec_each F)
def WJ_vec_each (F : Nat) : List LJ := []
def J_vec_each (F : Nat) : Nat → Nat → VS → (Exit → VS → R) → R := tabJ (WJ_vec_each F)
theorem lL_vec_each_0 (F : Nat) (k : Exit → VS → R) : ∀ (n : Nat) (x0 : Int) (x1 : Int) (x2 : Int) (x3 : Int) (x4 : Bool) (x5 : Bool) (x6 : Int) (x7 : Int) (x8 : Int) (x9 : Int) (x10 : List VV), iterC (codeL PP (S_vec_each F) c_vec_each (I_vec_each F) (J_vec_each F) (loopAt PP 64 0) 0) (headOf c_vec_each 0) k n (fS T_vec_each_0 [.i x0, .i x1, .i x2, .i x3, .b x4, .b x5, .i x6, .i x7, .i x8, .i x9, .c x10]) = L_vec_each_0 F (fun (z0 : Int) (z1 : Int) (z2 : Int) (z3 : Int) (z4 : Bool) (z5 : Bool) (z6 : Int) (z7 : Int) (z8 : Int) (z9 : Int) (z10 : List VV) => k (.exit 0) (fS T_vec_each_0_0 [.i z0, .i z1, .i z2, .i z3, .b z4, .b z5, .i z6, .i z7, .i z8, .i z9, .c z10])) n x0 x1 x2 x3 x4 x5 x6 x7 x8 x9 x10
  | 0, _, _, _, _, _, _, _, _, _, _, _ => rfl
  | n + 1, x0, x1, x2, x3, x4, x5, x6, x7, x8, x9, x10 => by
    have h0 : ∀ (ok_vec_Clamp_1 : Nat → Int → Int → Int → Int → Int → Bool) (o_vec_Clamp_1_0 : Nat → Int → Int → Int → Int → Int → Int) (o_vec_Clamp_1_1 : Nat → Int → Int → Int → Int → Int → Bool) (L_vec_each_0 : Nat → (Int → Int → Int → Int → Bool → Bool → Int → Int → Int → Int → List VV → R) → Nat → Int → Int → Int → Int → Bool → Bool → Int → Int → Int → Int → List VV → R), iterC (codeL PP (words [(65, spec ti_vec_Clamp_1 to_vec_Clamp_1 (fun q => (ok_vec_Clamp_1 F (atI (nth q 0)) (atI (nth q 1)) (atI (nth q 2)) (atI (nth q 3)) (atI (nth q 4)))) (fun q => [.i (o_vec_Clamp_1_0 F (atI (nth q 0)) (atI (nth q 1)) (atI (nth q 2)) (atI (nth q 3)) (atI (nth q 4))), .b (o_vec_Clamp_1_1 F (atI (nth q 0)) (atI (nth q 1)) (atI (nth q 2)) (atI (nth q 3)) (atI (nth q 4)))]))]) c_vec_each (tabI c_vec_each [⟨0, T_vec_each_0, fun k q => L_vec_each_0 F (fun (z0 : Int) (z1 : Int) (z2 : Int) (z3 : Int) (z4 : Bool) (z5 : Bool) (z6 : Int) (z7 : Int) (z8 : Int) (z9 : Int) (z10 : List VV) => k (.exit 0) (fS T_vec_each_0_0 [.i z0, .i z1, .i z2, .i z3, .b z4, .b z5, .i z6, .i z7, .i z8, .i z9, .c z10])) F (atI (nth q 0)) (atI (nth q 1)) (atI (nth q 2)) (atI (nth q 3)) (atB (nth q 4)) (atB (nth q 5)) (atI (nth q 6)) (atI (nth q 7)) (atI (nth q 8)) (atI (nth q 9)) (atC (nth q 10))⟩]) (tabJ []) (loopAt PP 64 0) 0) (headOf c_vec_each 0) k (n + 1) (fS T_vec_each_0 [.i x0, .i x1, .i x2, .i x3, .b x4, .b x5, .i x6, .i x7, .i x8, .i x9, .c x10]) = (fun (rc : Int → Int → Int → Int → Bool → Bool → Int → Int → Int → Int → List VV → R) (ex0 : Int → Int → Int → Int → Bool → Bool → Int → Int → Int → Int → List VV → R) (x0 : Int) (x1 : Int) (x2 : Int) (x3 : Int) (x4 : Bool) (x5 : Bool) (x6 : Int) (x7 : Int) (x8 : Int) (x9 : Int) (x10 : List VV) => (
  bif ((decide (x6 < 3))) then (
    bif (ok_vec_Clamp_1 F x6 x0 x1 x2 x3) then (
      let v22 : Int := (o_vec_Clamp_1_0 F x6 x0 x1 x2 x3)
      bif x5 then (
        bif ((decide (0 ≤ x6)) && (decide (x6 < 3))) then (
          let v24 : Nat := (0 + ((Int.toNat x6) * 1))
          bif (decide ((v24 + 1) ≤ x10.length)) then (
            rc x0 x1 x2 x3 x4 true ((IntKind.wrap .i64 (x6 + 1))) x7 x8 x9 ((x10.take v24 ++ [.v (.int .i64 v22)] ++ x10.drop (v24 + 1))))
          else (
            none))
        else (
          none))
      else (
        bif ((decide (0 ≤ x6)) && (decide (x6 < 3))) then (
          let v27 : Nat := (0 + ((Int.toNat x6) * 1))
          bif (decide ((v27 + 1) ≤ x10.length)) then (
            rc x0 x1 x2 x3 x4 ((o_vec_Clamp_1_1 F x6 x0 x1 x2 x3)) ((IntKind.wrap .i64 (x6 + 1))) x7 x8 x9 ((x10.take v27 ++ [.v (.int .i64 v22)] ++ x10.drop (v27 + 1))))
          else (
            none))
        else (
          none)))
    else (
      none))
  else (
    ex0 x0 x1 x2 x3 x4 x5 x6 x7 x8 x9 x10) : R)) (fun (y0 : Int) (y1 : Int) (y2 : Int) (y3 : Int) (y4 : Bool) (y5 : Bool) (y6 : Int) (y7 : Int) (y8 : Int) (y9 : Int) (y10 : List VV) => iterC (codeL PP (words [(65, spec ti_vec_Clamp_1 to_vec_Clamp_1 (fun q => (ok_vec_Clamp_1 F (atI (nth q 0)) (atI (nth q 1)) (atI (nth q 2)) (atI (nth q 3)) (atI (nth q 4)))) (fun q => [.i (o_vec_Clamp_1_0 F (atI (nth q 0)) (atI (nth q 1)) (atI (nth q 2)) (atI (nth q 3)) (atI (nth q 4))), .b (o_vec_Clamp_1_1 F (atI (nth q 0)) (atI (nth q 1)) (atI (nth q 2)) (atI (nth q 3)) (atI (nth q 4)))]))]) c_vec_each (tabI c_vec_each [⟨0, T_vec_each_0, fun k q => L_vec_each_0 F (fun (z0 : Int) (z1 : Int) (z2 : Int) (z3 : Int) (z4 : Bool) (z5 : Bool) (z6 : Int) (z7 : Int) (z8 : Int) (z9 : Int) (z10 : List VV) => k (.exit 0) (fS T_vec_each_0_0 [.i z0, .i z1, .i z2, .i z3, .b z4, .b z5, .i z6, .i z7, .i z8, .i z9, .c z10])) F (atI (nth q 0)) (atI (nth q 1)) (atI (nth q 2)) (atI (nth q 3)) (atB (nth q 4)) (atB (nth q 5)) (atI (nth q 6)) (atI (nth q 7)) (atI (nth q 8)) (atI (nth q 9)) (atC (nth q 10))⟩]) (tabJ []) (loopAt PP 64 0) 0) (headOf c_vec_each 0) k n (fS T_vec_each_0 [.i y0, .i y1, .i y2, .i y3, .b y4, .b y5, .i y6, .i y7, .i y8, .i y9, .c y10])) (fun (z0 : Int) (z1 : Int) (z2 : Int) (z3 : Int) (z4 : Bool) (z5 : Bool) (z6 : Int) (z7 : Int) (z8 : Int) (z9 : Int) (z10 : List VV) => k (.exit 0) (fS T_vec_each_0_0 [.i z0, .i z1, .i z2, .i z3, .b z4, .b z5, .i z6, .i z7, .i z8, .i z9, .c z10])) x0 x1 x2 x3 x4 x5 x6 x7 x8 x9 x10 := by
      intros
      kernel_rfl
    have h : iterC (codeL PP (S_vec_each F) c_vec_each (I_vec_each F) (J_vec_each F) (loopAt PP 64 0) 0) (headOf c_vec_each 0) k (n + 1) (fS T_vec_each_0 [.i x0, .i x1, .i x2, .i x3, .b x4, .b x5, .i x6, .i x7, .i x8, .i x9, .c x10]) = B_vec_each_0 F (fun (y0 : Int) (y1 : Int) (y2 : Int) (y3 : Int) (y4 : Bool) (y5 : Bool) (y6 : Int) (y7 : Int) (y8 : Int) (y9 : Int) (y10 : List VV) => iterC (codeL PP (S_vec_each F) c_vec_each (I_vec_each F) (J_vec_each F) (loopAt PP 64 0) 0) (headOf c_vec_each 0) k n (fS T_vec_each_0 [.i y0, .i y1, .i y2, .i y3, .b y4, .b y5, .i y6, .i y7, .i y8, .i y9, .c y10])) (fun (z0 : Int) (z1 : Int) (z2 : Int) (z3 : Int) (z4 : Bool) (z5 : Bool) (z6 : Int) (z7 : Int) (z8 : Int) (z9 : Int) (z10 : List VV) => k (.exit 0) (fS T_vec_each_0_0 [.i z0, .i z1, .i z2, .i z3, .b z4, .b z5, .i z6, .i z7, .i z8, .i z9, .c z10])) x0 x1 x2 x3 x4 x5 x6 x7 x8 x9 x10 := (h0 ok_vec_Clamp_1 o_vec_Clamp_1_0 o_vec_Clamp_1_1 L_vec_each_0).trans (by kernel_rfl)
    rw [h]
    simp only [lL_vec_each_0 F k n]
    rfl
def f_vec_each (F : Nat) (a0 : Int) (a1 : Int) (a2 : Int) (a3 : Int) : R :=
  L_vec_each_0 F (fun (v30 : Int) (v31 : Int) (v32 : Int) (v33 : Int) (v34 : Bool) (v35 : Bool) (v36 : Int) (v37 : Int) (v38 : Int) (v39 : Int) (v40 : List VV) =>
    bif ((isI .i64 v40[0]?) && ((isI .i64 v40[1]?) && ((isI .i64 v40[2]?) && true))) then (
      some (.v (.tuple #[.agg #[.int .i64 ((iv v40[0]?)), .int .i64 ((iv v40[1]?)), .int .i64 ((iv v40[2]?))], .bool v35])))
    else (
      none)) F a0 a1 a2 a3 false false 0 0 0 0 ([.v (.int .i64 0), .v (.int .i64 0), .v (.int .i64 0)])
theorem e_vec_each (F : Nat) (a0 : Int) (a1 : Int) (a2 : Int) (a3 : Int) : funL PP (S_vec_each F) c_vec_each (I_vec_each F) (J_vec_each F) 64 (fTs ti_vec_each [.i a0, .i a1, .i a2, .i a3]).1 = f_vec_each F a0 a1 a2 a3 := by
  have h : ∀ (ok_vec_Clamp_1 : Nat → Int → Int → Int → Int → Int → Bool) (o_vec_Clamp_1_0 : Nat → Int → Int → Int → Int → Int → Int) (o_vec_Clamp_1_1 : Nat → Int → Int → Int → Int → Int → Bool) (L_vec_each_0 : Nat → (Int → Int → Int → Int → Bool → Bool → Int → Int → Int → Int → List VV → R) → Nat → Int → Int → Int → Int → Bool → Bool → Int → Int → Int → Int → List VV → R), funL PP (words [(65, spec ti_vec_Clamp_1 to_vec_Clamp_1 (fun q => (ok_vec_Clamp_1 F (atI (nth q 0)) (atI (nth q 1)) (atI (nth q 2)) (atI (nth q 3)) (atI (nth q 4)))) (fun q => [.i (o_vec_Clamp_1_0 F (atI (nth q 0)) (atI (nth q 1)) (atI (nth q 2)) (atI (nth q 3)) (atI (nth q 4))), .b (o_vec_Clamp_1_1 F (atI (nth q 0)) (atI (nth q 1)) (atI (nth q 2)) (atI (nth q 3)) (atI (nth q 4)))]))]) c_vec_each (tabI c_vec_each [⟨0, T_vec_each_0, fun k q => L_vec_each_0 F (fun (z0 : Int) (z1 : Int) (z2 : Int) (z3 : Int) (z4 : Bool) (z5 : Bool) (z6 : Int) (z7 : Int) (z8 : Int) (z9 : Int) (z10 : List VV) => k (.exit 0) (fS T_vec_each_0_0 [.i z0, .i z1, .i z2, .i z3, .b z4, .b z5, .i z6, .i z7, .i z8, .i z9, .c z10])) F (atI (nth q 0)) (atI (nth q 1)) (atI (nth q 2)) (atI (nth q 3)) (atB (nth q 4)) (atB (nth q 5)) (atI (nth q 6)) (atI (nth q 7)) (atI (nth q 8)) (atI (nth q 9)) (atC (nth q 10))⟩]) (tabJ []) 64 (fTs ti_vec_each [.i a0, .i a1, .i a2, .i a3]).1 = (
  L_vec_each_0 F (fun (v30 : Int) (v31 : Int) (v32 : Int) (v33 : Int) (v34 : Bool) (v35 : Bool) (v36 : Int) (v37 : Int) (v38 : Int) (v39 : Int) (v40 : List VV) =>
    bif ((isI .i64 v40[0]?) && ((isI .i64 v40[1]?) && ((isI .i64 v40[2]?) && true))) then (
      some (.v (.tuple #[.agg #[.int .i64 ((iv v40[0]?)), .int .i64 ((iv v40[1]?)), .int .i64 ((iv v40[2]?))], .bool v35])))
    else (
      none)) F a0 a1 a2 a3 false false 0 0 0 0 ([.v (.int .i64 0), .v (.int .i64 0), .v (.int .i64 0)]) : R) := by
    intros
    kernel_rfl
  exact (h ok_vec_Clamp_1 o_vec_Clamp_1_0 o_vec_Clamp_1_1 L_vec_each_0).trans (by kernel_rfl)
def ok_vec_each (F : Nat) (a0 : Int) (a1 : Int) (a2 : Int) (a3 : Int) : Bool := okT to_vec_each (f_vec_each F a0 a1 a2 a3)
def o_vec_each_0 (F : Nat) (a0 : Int) (a1 : Int) (a2 : Int) (a3 : Int) : Int := atI (nth (outT to_vec_each (f_vec_each F a0 a1 a2 a3)) 0)
def o_vec_each_1 (F : Nat) (a0 : Int) (a1 : Int) (a2 : Int) (a3 : Int) : Int := atI (nth (outT to_vec_each (f_vec_each F a0 a1 a2 a3)) 1)
def o_vec_each_2 (F : Nat) (a0 : Int) (a1 : Int) (a2 : Int) (a3 : Int) : Int := atI (nth (outT to_vec_each (f_vec_each F a0 a1 a2 a3)) 2)
def o_vec_each_3 (F : Nat) (a0 : Int) (a1 : Int) (a2 : Int) (a3 : Int) : Bool := atB (nth (outT to_vec_each (f_vec_each F a0 a1 a2 a3)) 3)
theorem k_vec_each (F : Nat) (a0 : Int) (a1 : Int) (a2 : Int) (a3 : Int) {z0 : Int} {z1 : Int} {z2 : Int} {z3 : Bool} (h : f_vec_each F a0 a1 a2 a3 = some (.v (.tuple #[.agg #[.int .i64 z0, .int .i64 z1, .int .i64 z2], .bool z3]))) : ok_vec_each F a0 a1 a2 a3 = true ∧ o_vec_each_0 F a0 a1 a2 a3 = z0 ∧ o_vec_each_1 F a0 a1 a2 a3 = z1 ∧ o_vec_each_2 F a0 a1 a2 a3 = z2 ∧ o_vec_each_3 F a0 a1 a2 a3 = z3 := by
  refine ⟨?_, ?_, ?_, ?_, ?_⟩
  · unfold ok_vec_each; rw [h]; kernel_rfl
  · unfold o_vec_each_0; rw [h]; kernel_rfl
  · unfold o_vec_each_1; rw [h]; kernel_rfl
  · unfold o_vec_each_2; rw [h]; kernel_rfl
  · unfold o_vec_each_3; rw [h]; kernel_rfl
def s_vec_each (F : Nat) : List VV → Option (Bool × VV) := spec ti_vec_each to_vec_each (fun q => (ok_vec_each F (atI (nth q 0)) (atI (nth q 1)) (atI (nth q 2)) (atI (nth q 3)))) (fun q => [.i (o_vec_each_0 F (atI (nth q 0)) (atI (nth q 1)) (atI (nth q 2)) (atI (nth q 3))), .i (o_vec_each_1 F (atI (nth q 0)) (atI (nth q 1)) (atI (nth q 2)) (atI (nth q 3))), .i (o_vec_each_2 F (atI (nth q 0)) (atI (nth q 1)) (atI (nth q 2)) (atI (nth q 3))), .b (o_vec_each_3 F (atI (nth q 0)) (atI (nth q 1)) (atI (nth q 2)) (atI (nth q 3)))])
theorem hS_vec_each (F : Nat) : ∀ f, Good PP f (unS (S_vec_each F f)) := words_good fun p hp => by
  simp only [List.mem_cons, List.not_mem_nil, or_false] at hp
  rcases hp with rfl
  · exact g_vec_Clamp_1 F
theorem hl_vec_each (F : Nat) : ∀ p ∈ loopsIn PP 64, LoopOK PP (S_vec_each F) c_vec_each F (I_vec_each F) (J_vec_each F) p :=
  loops_of [(0, loopAt PP 64 0)] (by kernel_rfl) (all_cons
    (loop_ok (W_vec_each F) rfl (tab_cons (fun _ k q => Le.ofEq ((lL_vec_each_0 F k F (atI (nth q 0)) (atI (nth q 1)) (atI (nth q 2)) (atI (nth q 3)) (atB (nth q 4)) (atB (nth q 5)) (atI (nth q 6)) (atI (nth q 7)) (atI (nth q 8)) (atI (nth q 9)) (atC (nth q 10))).symm.trans (congrArg (iterC (codeL PP (S_vec_each F) c_vec_each (I_vec_each F) (J_vec_each F) (loopAt PP 64 0) 0) (headOf c_vec_each 0) k F) (show fS T_vec_each_0 [.i (atI (nth q 0)), .i (atI (nth q 1)), .i (atI (nth q 2)), .i (atI (nth q 3)), .b (atB (nth q 4)), .b (atB (nth q 5)), .i (atI (nth q 6)), .i (atI (nth q 7)), .i (atI (nth q 8)), .i (atI (nth q 9)), .c (atC (nth q 10))] = fS T_vec_each_0 q by kernel_rfl)))) tab_nil)) all_nil)
theorem hj_vec_each (F : Nat) : ∀ p ∈ joinsIn PP c_vec_each 64, JoinOK PP (S_vec_each F) c_vec_each (I_vec_each F) (J_vec_each F) p :=
  joins_of [] (by kernel_rfl) all_nil
theorem g_vec_each (F : Nat) : Good PP 64 (unS (s_vec_each F)) :=
  fun_spec (hS_vec_each F) (by kernel_rfl) (by kernel_rfl) (C := c_vec_each) (F := fun q => (f_vec_each F (atI (nth q 0)) (atI (nth q 1)) (atI (nth q 2)) (atI (nth q 3)))) (fun _ => F) (fun _ => I_vec_each F) (fun _ => J_vec_each F) (fun _ => hl_vec_each F) (fun _ => hj_vec_each F)
    (fun q => (congrArg (funL PP (S_vec_each F) c_vec_each (I_vec_each F) (J_vec_each F) 64) (show (fTs ti_vec_each q).1 = (fTs ti_vec_each [.i (atI (nth q 0)), .i (atI (nth q 1)), .i (atI (nth q 2)), .i (atI (nth q 3))]).1 by kernel_rfl)).trans (e_vec_each F (atI (nth q 0)) (atI (nth q 1)) (atI (nth q 2)) (atI (nth q 3))))
    (fun _ h => (okT_fill h).trans (congrArg some (by kernel_rfl)))

end Go.Xv
set_option linter.unusedVariables false
namespace Go.Xv
/- 39 _vec_Clamp -/
def c_vec_Clamp : Cfg := ⟨[0, 1, 2, 4, 5, 6], [], [], []⟩
def ti_vec_Clamp : List TV := [.v (.agg [.int .i64, .int .i64, .int .i64]), .v (.int .i64)]
def to_vec_Clamp : TV := .v (.tup [.agg [.int .i64, .int .i64, .int .i64], .bool])
def S_vec_Clamp (F : Nat) : FuncId → List VV → Option (Bool × VV) := words [(64, s_vec_each F)]
def W_vec_Clamp (F : Nat) : List LW := []
def I_vec_Clamp (F : Nat) : Nat → VS → (Exit → VS → R) → R := tabI c_vec_Clamp (W_vec_Clamp F)
def WJ_vec_Clamp (F : Nat) : List LJ := []
def J_vec_Clamp (F : Nat) : Nat → Nat → VS → (Exit → VS → R) → R := tabJ (WJ_vec_Clamp F)
def f_vec_Clamp (F : Nat) (a0 : Int) (a1 : Int) (a2 : Int) (a3 : Int) : R :=
  let v0 : Int := (if 0 > a3 then 0 else a3)
  bif (ok_vec_each F a0 a1 a2 v0) then (
    some (.v (.tuple #[.agg #[.int .i64 ((o_vec_each_0 F a0 a1 a2 v0)), .int .i64 ((o_vec_each_1 F a0 a1 a2 v0)), .int .i64 ((o_vec_each_2 F a0 a1 a2 v0))], .bool ((o_vec_each_3 F a0 a1 a2 v0))])))
  else (
    none)
theorem e_vec_Clamp (F : Nat) (a0 : Int) (a1 : Int) (a2 : Int) (a3 : Int) : funL PP (S_vec_Clamp F) c_vec_Clamp (I_vec_Clamp F) (J_vec_Clamp F) 39 (fTs ti_vec_Clamp [.i a0, .i a1, .i a2, .i a3]).1 = f_vec_Clamp F a0 a1 a2 a3 := by
  have h : ∀ (ok_vec_each : Nat → Int → Int → Int → Int → Bool) (o_vec_each_0 : Nat → Int → Int → Int → Int → Int) (o_vec_each_1 : Nat → Int → Int → Int → Int → Int) (o_vec_each_2 : Nat → Int → Int → Int → Int → Int) (o_vec_each_3 : Nat → Int → Int → Int → Int → Bool), funL PP (words [(64, spec ti_vec_each to_vec_each (fun q => (ok_vec_each F (atI (nth q 0)) (atI (nth q 1)) (atI (nth q 2)) (atI (nth q 3)))) (fun q => [.i (o_vec_each_0 F (atI (nth q 0)) (atI (nth q 1)) (atI (nth q 2)) (atI (nth q 3))), .i (o_vec_each_1 F (atI (nth q 0)) (atI (nth q 1)) (atI (nth q 2)) (atI (nth q 3))), .i (o_vec_each_2 F (atI (nth q 0)) (atI (nth q 1)) (atI (nth q 2)) (atI (nth q 3))), .b (o_vec_each_3 F (atI (nth q 0)) (atI (nth q 1)) (atI (nth q 2)) (atI (nth q 3)))]))]) c_vec_Clamp (tabI c_vec_Clamp []) (tabJ []) 39 (fTs ti_vec_Clamp [.i a0, .i a1, .i a2, .i a3]).1 = (
  let v0 : Int := (if 0 > a3 then 0 else a3)
  bif (ok_vec_each F a0 a1 a2 v0) then (
    some (.v (.tuple #[.agg #[.int .i64 ((o_vec_each_0 F a0 a1 a2 v0)), .int .i64 ((o_vec_each_1 F a0 a1 a2 v0)), .int .i64 ((o_vec_each_2 F a0 a1 a2 v0))], .bool ((o_vec_each_3 F a0 a1 a2 v0))])))
  else (
    none) : R) := by
    intros
    kernel_rfl
  exact (h ok_vec_each o_vec_each_0 o_vec_each_1 o_vec_each_2 o_vec_each_3).trans (by kernel_rfl)
def ok_vec_Clamp (F : Nat) (a0 : Int) (a1 : Int) (a2 : Int) (a3 : Int) : Bool := okT to_vec_Clamp (f_vec_Clamp F a0 a1 a2 a3)
def o_vec_Clamp_0 (F : Nat) (a0 : Int) (a1 : Int) (a2 : Int) (a3 : Int) : Int := atI (nth (outT to_vec_Clamp (f_vec_Clamp F a0 a1 a2 a3)) 0)
def o_vec_Clamp_1 (F : Nat) (a0 : Int) (a1 : Int) (a2 : Int) (a3 : Int) : Int := atI (nth (outT to_vec_Clamp (f_vec_Clamp F a0 a1 a2 a3)) 1)
def o_vec_Clamp_2 (F : Nat) (a0 : Int) (a1 : Int) (a2 : Int) (a3 : Int) : Int := atI (nth (outT to_vec_Clamp (f_vec_Clamp F a0 a1 a2 a3)) 2)
def o_vec_Clamp_3 (F : Nat) (a0 : Int) (a1 : Int) (a2 : Int) (a3 : Int) : Bool := atB (nth (outT to_vec_Clamp (f_vec_Clamp F a0 a1 a2 a3)) 3)
theorem k_vec_Clamp (F : Nat) (a0 : Int) (a1 : Int) (a2 : Int) (a3 : Int) {z0 : Int} {z1 : Int} {z2 : Int} {z3 : Bool} (h : f_vec_Clamp F a0 a1 a2 a3 = some (.v (.tuple #[.agg #[.int .i64 z0, .int .i64 z1, .int .i64 z2], .bool z3]))) : ok_vec_Clamp F a0 a1 a2 a3 = true ∧ o_vec_Clamp_0 F a0 a1 a2 a3 = z0 ∧ o_vec_Clamp_1 F a0 a1 a2 a3 = z1 ∧ o_vec_Clamp_2 F a0 a1 a2 a3 = z2 ∧ o_vec_Clamp_3 F a0 a1 a2 a3 = z3 := by
  refine ⟨?_, ?_, ?_, ?_, ?_⟩
  · unfold ok_vec_Clamp; rw [h]; kernel_rfl
  · unfold o_vec_Clamp_0; rw [h]; kernel_rfl
  · unfold o_vec_Clamp_1; rw [h]; kernel_rfl
  · unfold o_vec_Clamp_2; rw [h]; kernel_rfl
  · unfold o_vec_Clamp_3; rw [h]; kernel_rfl
def s_vec_Clamp (F : Nat) : List VV → Option (Bool × VV) := spec ti_vec_Clamp to_vec_Clamp (fun q => (ok_vec_Clamp F (atI (nth q 0)) (atI (nth q 1)) (atI (nth q 2)) (atI (nth q 3)))) (fun q => [.i (o_vec_Clamp_0 F (atI (nth q 0)) (atI (nth q 1)) (atI (nth q 2)) (atI (nth q 3))), .i (o_vec_Clamp_1 F (atI (nth q 0)) (atI (nth q 1)) (atI (nth q 2)) (atI (nth q 3))), .i (o_vec_Clamp_2 F (atI (nth q 0)) (atI (nth q 1)) (atI (nth q 2)) (atI (nth q 3))), .b (o_vec_Clamp_3 F (atI (nth q 0)) (atI (nth q 1)) (atI (nth q 2)) (atI (nth q 3)))])
theorem hS_vec_Clamp (F : Nat) : ∀ f, Good PP f (unS (S_vec_Clamp F f)) := words_good fun p hp => by
  simp only [List.mem_cons, List.not_mem_nil, or_false] at hp
  rcases hp with rfl
  · exact g_vec_each F
theorem hl_vec_Clamp (F : Nat) : ∀ p ∈ loopsIn PP 39, LoopOK PP (S_vec_Clamp F) c_vec_Clamp F (I_vec_Clamp F) (J_vec_Clamp F) p :=
  loops_of [] (by kernel_rfl) all_nil
theorem hj_vec_Clamp (F : Nat) : ∀ p ∈ joinsIn PP c_vec_Clamp 39, JoinOK PP (S_vec_Clamp F) c_vec_Clamp (I_vec_Clamp F) (J_vec_Clamp F) p :=
  joins_of [] (by kernel_rfl) all_nil
theorem g_vec_Clamp (F : Nat) : Good PP 39 (unS (s_vec_Clamp F)) :=
  fun_spec (hS_vec_Clamp F) (by kernel_rfl) (by kernel_rfl) (C := c_vec_Clamp) (F := fun q => (f_vec_Clamp F (atI (nth q 0)) (atI (nth q 1)) (atI (nth q 2)) (atI (nth q 3)))) (fun _ => F) (fun _ => I_vec_Clamp F) (fun _ => J_vec_Clamp F) (fun _ => hl_vec_Clamp F) (fun _ => hj_vec_Clamp F)
    (fun q => (congrArg (funL PP (S_vec_Clamp F) c_vec_Clamp (I_vec_Clamp F) (J_vec_Clamp F) 39) (show (fTs ti_vec_Clamp q).1 = (fTs ti_vec_Clamp [.i (atI (nth q 0)), .i (atI (nth q 1)), .i (atI (nth q 2)), .i (atI (nth q 3))]).1 by kernel_rfl)).trans (e_vec_Clamp F (atI (nth q 0)) (atI (nth q 1)) (atI (nth q 2)) (atI (nth q 3))))
    (fun _ h => (okT_fill h).trans (congrArg some (by kernel_rfl)))

end Go.Xv
set_option linter.unusedVariables false
namespace Go.Xv
/- 10 _fuse_Check -/
def c_fuse_Check : Cfg := ⟨[0, 1, 2, 30], [], [], []⟩
def ti_fuse_Check : List TV := [.v (.agg [.int .i64, .int .i64, .int .i64, .int .i64])]
def to_fuse_Check : TV := .v (.int .i64)
def S_fuse_Check (F : Nat) : FuncId → List VV → Option (Bool × VV) := words []
def W_fuse_Check (F : Nat) : List LW := []
def I_fuse_Check (F : Nat) : Nat → VS → (Exit → VS → R) → R := tabI c_fuse_Check (W_fuse_Check F)
def WJ_fuse_Check (F : Nat) : List LJ := []
def J_fuse_Check (F : Nat) : Nat → Nat → VS → (Exit → VS → R) → R := tabJ (WJ_fuse_Check F)
def f_fuse_Check (F : Nat) (a0 : Int) (a1 : Int) (a2 : Int) (a3 : Int) : R :=
  bif ((decide (a0 < 0))) then (
    some (.v (.int .i64 2)))
  else (
    bif ((decide (a0 > 16))) then (
      some (.v (.int .i64 2)))
    else (
      bif ((decide (a1 < 0))) then (
        some (.v (.int .i64 2)))
      else (
        bif ((decide (a2 < 0))) then (
          some (.v (.int .i64 2)))
        else (
          bif ((decide (a3 < 1))) then (
            some (.v (.int .i64 2)))
          else (
            bif ((decide (a3 > 65535))) then (
              some (.v (.int .i64 2)))
            else (
              some (.v (.int .i64 0))))))))
theorem e_fuse_Check (F : Nat) (a0 : Int) (a1 : Int) (a2 : Int) (a3 : Int) : funL PP (S_fuse_Check F) c_fuse_Check (I_fuse_Check F) (J_fuse_Check F) 10 (fTs ti_fuse_Check [.i a0, .i a1, .i a2, .i a3]).1 = f_fuse_Check F a0 a1 a2 a3 := by
  have h : ∀ (_ : Unit), funL PP (words []) c_fuse_Check (tabI c_fuse_Check []) (tabJ []) 10 (fTs ti_fuse_Check [.i a0, .i a1, .i a2, .i a3]).1 = (
  bif ((decide (a0 < 0))) then (
    some (.v (.int .i64 2)))
  else (
    bif ((decide (a0 > 16))) then (
      some (.v (.int .i64 2)))
    else (
      bif ((decide (a1 < 0))) then (
        some (.v (.int .i64 2)))
      else (
        bif ((decide (a2 < 0))) then (
          some (.v (.int .i64 2)))
        else (
          bif ((decide (a3 < 1))) then (
            some (.v (.int .i64 2)))
          else (
            bif ((decide (a3 > 65535))) then (
              some (.v (.int .i64 2)))
            else (
              some (.v (.int .i64 0)))))))) : R) := by
    intros
    kernel_rfl
  exact (h ()).trans (by kernel_rfl)
def ok_fuse_Check (F : Nat) (a0 : Int) (a1 : Int) (a2 : Int) (a3 : Int) : Bool := okT to_fuse_Check (f_fuse_Check F a0 a1 a2 a3)
def o_fuse_Check_0 (F : Nat) (a0 : Int) (a1 : Int) (a2 : Int) (a3 : Int) : Int := atI (nth (outT to_fuse_Check (f_fuse_Check F a0 a1 a2 a3)) 0)
theorem k_fuse_Check (F : Nat) (a0 : Int) (a1 : Int) (a2 : Int) (a3 : Int) {z0 : Int} (h : f_fuse_Check F a0 a1 a2 a3 = some (.v (.int .i64 z0))) : ok_fuse_Check F a0 a1 a2 a3 = true ∧ o_fuse_Check_0 F a0 a1 a2 a3 = z0 := by
  refine ⟨?_, ?_⟩
  · unfold ok_fuse_Check; rw [h]; kernel_rfl
  · unfold o_fuse_Check_0; rw [h]; kernel_rfl
def s_fuse_Check (F : Nat) : List VV → Option (Bool × VV) := spec ti_fuse_Check to_fuse_Check (fun q => (ok_fuse_Check F (atI (nth q 0)) (atI (nth q 1)) (atI (nth q 2)) (atI (nth q 3)))) (fun q => [.i (o_fuse_Check_0 F (atI (nth q 0)) (atI (nth q 1)) (atI (nth q 2)) (atI (nth q 3)))])
theorem hS_fuse_Check (F : Nat) : ∀ f, Good PP f (unS (S_fuse_Check F f)) := words_good fun p hp => by
  cases hp
theorem hl_fuse_Check (F : Nat) : ∀ p ∈ loopsIn PP 10, LoopOK PP (S_fuse_Check F) c_fuse_Check F (I_fuse_Check F) (J_fuse_Check F) p :=
  loops_of [] (by kernel_rfl) all_nil
theorem hj_fuse_Check (F : Nat) : ∀ p ∈ joinsIn PP c_fuse_Check 10, JoinOK PP (S_fuse_Check F) c_fuse_Check (I_fuse_Check F) (J_fuse_Check F) p :=
  joins_of [] (by kernel_rfl) all_nil
theorem g_fuse_Check (F : Nat) : Good PP 10 (unS (s_fuse_Check F)) :=
  fun_spec (hS_fuse_Check F) (by kernel_rfl) (by kernel_rfl) (C := c_fuse_Check) (F := fun q => (f_fuse_Check F (atI (nth q 0)) (atI (nth q 1)) (atI (nth q 2)) (atI (nth q 3)))) (fun _ => F) (fun _ => I_fuse_Check F) (fun _ => J_fuse_Check F) (fun _ => hl_fuse_Check F) (fun _ => hj_fuse_Check F)
    (fun q => (congrArg (funL PP (S_fuse_Check F) c_fuse_Check (I_fuse_Check F) (J_fuse_Check F) 10) (show (fTs ti_fuse_Check q).1 = (fTs ti_fuse_Check [.i (atI (nth q 0)), .i (atI (nth q 1)), .i (atI (nth q 2)), .i (atI (nth q 3))]).1 by kernel_rfl)).trans (e_fuse_Check F (atI (nth q 0)) (atI (nth q 1)) (atI (nth q 2)) (atI (nth q 3))))
    (fun _ h => (okT_fill h).trans (congrArg some (by kernel_rfl)))

end Go.Xv
set_option linter.unusedVariables false
namespace Go.Xv
/- 38 _fuse_tick -/
def c_fuse_tick : Cfg := ⟨[0, 2], [], [], []⟩
def ti_fuse_tick : List TV := [.v (.int .i64)]
def to_fuse_tick : TV := .v (.bool)
def S_fuse_tick (F : Nat) : FuncId → List VV → Option (Bool × VV) := words []
def W_fuse_tick (F : Nat) : List LW := []
def I_fuse_tick (F : Nat) : Nat → VS → (Exit → VS → R) → R := tabI c_fuse_tick (W_fuse_tick F)
def WJ_fuse_tick (F : Nat) : List LJ := []
def J_fuse_tick (F : Nat) : Nat → Nat → VS → (Exit → VS → R) → R := tabJ (WJ_fuse_tick F)
def f_fuse_tick (F : Nat) (a0 : Int) : R :=
  bif ((decide (a0 ≥ 0))) then (
    some (.v (.bool ((decide (a0 ≤ 1099511627776))))))
  else (
    some (.v (.bool false)))
theorem e_fuse_tick (F : Nat) (a0 : Int) : funL PP (S_fuse_tick F) c_fuse_tick (I_fuse_tick F) (J_fuse_tick F) 38 (fTs ti_fuse_tick [.i a0]).1 = f_fuse_tick F a0 := by
  have h : ∀ (_ : Unit), funL PP (words []) c_fuse_tick (tabI c_fuse_tick []) (tabJ []) 38 (fTs ti_fuse_tick [.i a0]).1 = (
  bif ((decide (a0 ≥ 0))) then (
    some (.v (.bool ((decide (a0 ≤ 1099511627776))))))
  else (
    some (.v (.bool false))) : R) := by
    intros
    kernel_rfl
  exact (h ()).trans (by kernel_rfl)
def ok_fuse_tick (F : Nat) (a0 : Int) : Bool := okT to_fuse_tick (f_fuse_tick F a0)
def o_fuse_tick_0 (F : Nat) (a0 : Int) : Bool := atB (nth (outT to_fuse_tick (f_fuse_tick F a0)) 0)
theorem k_fuse_tick (F : Nat) (a0 : Int) {z0 : Bool} (h : f_fuse_tick F a0 = some (.v (.bool z0))) : ok_fuse_tick F a0 = true ∧ o_fuse_tick_0 F a0 = z0 := by
  refine ⟨?_, ?_⟩
  · unfold ok_fuse_tick; rw [h]; kernel_rfl
  · unfold o_fuse_tick_0; rw [h]; kernel_rfl
def s_fuse_tick (F : Nat) : List VV → Option (Bool × VV) := spec ti_fuse_tick to_fuse_tick (fun q => (ok_fuse_tick F (atI (nth q 0)))) (fun q => [.b (o_fuse_tick_0 F (atI (nth q 0)))])
theorem hS_fuse_tick (F : Nat) : ∀ f, Good PP f (unS (S_fuse_tick F f)) := words_good fun p hp => by
  cases hp
theorem hl_fuse_tick (F : Nat) : ∀ p ∈ loopsIn PP 38, LoopOK PP (S_fuse_tick F) c_fuse_tick F (I_fuse_tick F) (J_fuse_tick F) p :=
  loops_of [] (by kernel_rfl) all_nil
theorem hj_fuse_tick (F : Nat) : ∀ p ∈ joinsIn PP c_fuse_tick 38, JoinOK PP (S_fuse_tick F) c_fuse_tick (I_fuse_tick F) (J_fuse_tick F) p :=
  joins_of [] (by kernel_rfl) all_nil
theorem g_fuse_tick (F : Nat) : Good PP 38 (unS (s_fuse_tick F)) :=
  fun_spec (hS_fuse_tick F) (by kernel_rfl) (by kernel_rfl) (C := c_fuse_tick) (F := fun q => (f_fuse_tick F (atI (nth q 0)))) (fun _ => F) (fun _ => I_fuse_tick F) (fun _ => J_fuse_tick F) (fun _ => hl_fuse_tick F) (fun _ => hj_fuse_tick F)
    (fun q => (congrArg (funL PP (S_fuse_tick F) c_fuse_tick (I_fuse_tick F) (J_fuse_tick F) 38) (show (fTs ti_fuse_tick q).1 = (fTs ti_fuse_tick [.i (atI (nth q 0))]).1 by kernel_rfl)).trans (e_fuse_tick F (atI (nth q 0))))
    (fun _ h => (okT_fill h).trans (congrArg some (by kernel_rfl)))

end Go.Xv
set_option linter.unusedVariables false
namespace Go.Xv
/- 18 _fuse_Right -/
def c_fuse_Right : Cfg := ⟨[0, 1, 2, 3, 4, 6, 15, 24], [], [], []⟩
def ti_fuse_Right : List TV := [.v (.agg [.int .i64, .int .i64, .int .i64, .int .i64]), .v (.agg [.int .i64, .int .i64, .int .i64, .int .i64])]
def to_fuse_Right : TV := .v (.int .i64)
def S_fuse_Right (F : Nat) : FuncId → List VV → Option (Bool × VV) := words [(10, s_fuse_Check F), (38, s_fuse_tick F), (39, s_vec_Clamp F)]
def W_fuse_Right (F : Nat) : List LW := []
def I_fuse_Right (F : Nat) : Nat → VS → (Exit → VS → R) → R := tabI c_fuse_Right (W_fuse_Right F)
def WJ_fuse_Right (F : Nat) : List LJ := []
def J_fuse_Right (F : Nat) : Nat → Nat → VS → (Exit → VS → R) → R := tabJ (WJ_fuse_Right F)
def f_fuse_Right (F : Nat) (a0 : Int) (a1 : Int) (a2 : Int) (a3 : Int) (a4 : Int) (a5 : Int) (a6 : Int) (a7 : Int) : R :=
  bif (ok_fuse_Check F a0 a1 a2 a3) then (
    bif ((((o_fuse_Check_0 F a0 a1 a2 a3)) != 0)) then (
      some (.v (.int .i64 2)))
    else (
      bif (ok_fuse_tick F a7) then (
        bif ((!((o_fuse_tick_0 F a7)))) then (
          some (.v (.int .i64 2)))
        else (
          bif (ok_vec_Clamp F a4 a5 a6 a2) then (
            bif ((o_vec_Clamp_3 F a4 a5 a6 a2)) then (
              some (.v (.int .i64 2)))
            else (
              some (.v (.int .i64 0))))
          else (
            none)))
      else (
        none)))
  else (
    none)
theorem e_fuse_Right (F : Nat) (a0 : Int) (a1 : Int) (a2 : Int) (a3 : Int) (a4 : Int) (a5 : Int) (a6 : Int) (a7 : Int) : funL PP (S_fuse_Right F) c_fuse_Right (I_fuse_Right F) (J_fuse_Right F) 18 (fTs ti_fuse_Right [.i a0, .i a1, .i a2, .i a3, .i a4, .i a5, .i a6, .i a7]).1 = f_fuse_Right F a0 a1 a2 a3 a4 a5 a6 a7 := by
  have h : ∀ (ok_fuse_Check : Nat → Int → Int → Int → Int → Bool) (o_fuse_Check_0 : Nat → Int → Int → Int → Int → Int) (ok_fuse_tick : Nat → Int → Bool) (o_fuse_tick_0 : Nat → Int → Bool) (ok_vec_Clamp : Nat → Int → Int → Int → Int → Bool) (o_vec_Clamp_0 : Nat → Int → Int → Int → Int → Int) (o_vec_Clamp_1 : Nat → Int → Int → Int → Int → Int) (o_vec_Clamp_2 : Nat → Int → Int → Int → Int → Int) (o_vec_Clamp_3 : Nat → Int → Int → Int → Int → Bool), funL PP (words [(10, spec ti_fuse_Check to_fuse_Check (fun q => (ok_fuse_Check F (atI (nth q 0)) (atI (nth q 1)) (atI (nth q 2)) (atI (nth q 3)))) (fun q => [.i (o_fuse_Check_0 F (atI (nth q 0)) (atI (nth q 1)) (atI (nth q 2)) (atI (nth q 3)))])), (38, spec ti_fuse_tick to_fuse_tick (fun q => (ok_fuse_tick F (atI (nth q 0)))) (fun q => [.b (o_fuse_tick_0 F (atI (nth q 0)))])), (39, spec ti_vec_Clamp to_vec_Clamp (fun q => (ok_vec_Clamp F (atI (nth q 0)) (atI (nth q 1)) (atI (nth q 2)) (atI (nth q 3)))) (fun q => [.i (o_vec_Clamp_0 F (atI (nth q 0)) (atI (nth q 1)) (atI (nth q 2)) (atI (nth q 3))), .i (o_vec_Clamp_1 F (atI (nth q 0)) (atI (nth q 1)) (atI (nth q 2)) (atI (nth q 3))), .i (o_vec_Clamp_2 F (atI (nth q 0)) (atI (nth q 1)) (atI (nth q 2)) (atI (nth q 3))), .b (o_vec_Clamp_3 F (atI (nth q 0)) (atI (nth q 1)) (atI (nth q 2)) (atI (nth q 3)))]))]) c_fuse_Right (tabI c_fuse_Right []) (tabJ []) 18 (fTs ti_fuse_Right [.i a0, .i a1, .i a2, .i a3, .i a4, .i a5, .i a6, .i a7]).1 = (
  bif (ok_fuse_Check F a0 a1 a2 a3) then (
    bif ((((o_fuse_Check_0 F a0 a1 a2 a3)) != 0)) then (
      some (.v (.int .i64 2)))
    else (
      bif (ok_fuse_tick F a7) then (
        bif ((!((o_fuse_tick_0 F a7)))) then (
          some (.v (.int .i64 2)))
        else (
          bif (ok_vec_Clamp F a4 a5 a6 a2) then (
            bif ((o_vec_Clamp_3 F a4 a5 a6 a2)) then (
              some (.v (.int .i64 2)))
            else (
              some (.v (.int .i64 0))))
          else (
            none)))
      else (
        none)))
  else (
    none) : R) := by
    intros
    kernel_rfl
  exact (h ok_fuse_Check o_fuse_Check_0 ok_fuse_tick o_fuse_tick_0 ok_vec_Clamp o_vec_Clamp_0 o_vec_Clamp_1 o_vec_Clamp_2 o_vec_Clamp_3).trans (by kernel_rfl)
def ok_fuse_Right (F : Nat) (a0 : Int) (a1 : Int) (a2 : Int) (a3 : Int) (a4 : Int) (a5 : Int) (a6 : Int) (a7 : Int) : Bool := okT to_fuse_Right (f_fuse_Right F a0 a1 a2 a3 a4 a5 a6 a7)
def o_fuse_Right_0 (F : Nat) (a0 : Int) (a1 : Int) (a2 : Int) (a3 : Int) (a4 : Int) (a5 : Int) (a6 : Int) (a7 : Int) : Int := atI (nth (outT to_fuse_Right (f_fuse_Right F a0 a1 a2 a3 a4 a5 a6 a7)) 0)
theorem k_fuse_Right (F : Nat) (a0 : Int) (a1 : Int) (a2 : Int) (a3 : Int) (a4 : Int) (a5 : Int) (a6 : Int) (a7 : Int) {z0 : Int} (h : f_fuse_Right F a0 a1 a2 a3 a4 a5 a6 a7 = some (.v (.int .i64 z0))) : ok_fuse_Right F a0 a1 a2 a3 a4 a5 a6 a7 = true ∧ o_fuse_Right_0 F a0 a1 a2 a3 a4 a5 a6 a7 = z0 := by
  refine ⟨?_, ?_⟩
  · unfold ok_fuse_Right; rw [h]; kernel_rfl
  · unfold o_fuse_Right_0; rw [h]; kernel_rfl
def s_fuse_Right (F : Nat) : List VV → Option (Bool × VV) := spec ti_fuse_Right to_fuse_Right (fun q => (ok_fuse_Right F (atI (nth q 0)) (atI (nth q 1)) (atI (nth q 2)) (atI (nth q 3)) (atI (nth q 4)) (atI (nth q 5)) (atI (nth q 6)) (atI (nth q 7)))) (fun q => [.i (o_fuse_Right_0 F (atI (nth q 0)) (atI (nth q 1)) (atI (nth q 2)) (atI (nth q 3)) (atI (nth q 4)) (atI (nth q 5)) (atI (nth q 6)) (atI (nth q 7)))])
theorem hS_fuse_Right (F : Nat) : ∀ f, Good PP f (unS (S_fuse_Right F f)) := words_good fun p hp => by
  simp only [List.mem_cons, List.not_mem_nil, or_false] at hp
  rcases hp with rfl | rfl | rfl
  · exact g_fuse_Check F
  · exact g_fuse_tick F
  · exact g_vec_Clamp F
theorem hl_fuse_Right (F : Nat) : ∀ p ∈ loopsIn PP 18, LoopOK PP (S_fuse_Right F) c_fuse_Right F (I_fuse_Right F) (J_fuse_Right F) p :=
  loops_of [] (by kernel_rfl) all_nil
theorem hj_fuse_Right (F : Nat) : ∀ p ∈ joinsIn PP c_fuse_Right 18, JoinOK PP (S_fuse_Right F) c_fuse_Right (I_fuse_Right F) (J_fuse_Right F) p :=
  joins_of [] (by kernel_rfl) all_nil
theorem g_fuse_Right (F : Nat) : Good PP 18 (unS (s_fuse_Right F)) :=
  fun_spec (hS_fuse_Right F) (by kernel_rfl) (by kernel_rfl) (C := c_fuse_Right) (F := fun q => (f_fuse_Right F (atI (nth q 0)) (atI (nth q 1)) (atI (nth q 2)) (atI (nth q 3)) (atI (nth q 4)) (atI (nth q 5)) (atI (nth q 6)) (atI (nth q 7)))) (fun _ => F) (fun _ => I_fuse_Right F) (fun _ => J_fuse_Right F) (fun _ => hl_fuse_Right F) (fun _ => hj_fuse_Right F)
    (fun q => (congrArg (funL PP (S_fuse_Right F) c_fuse_Right (I_fuse_Right F) (J_fuse_Right F) 18) (show (fTs ti_fuse_Right q).1 = (fTs ti_fuse_Right [.i (atI (nth q 0)), .i (atI (nth q 1)), .i (atI (nth q 2)), .i (atI (nth q 3)), .i (atI (nth q 4)), .i (atI (nth q 5)), .i (atI (nth q 6)), .i (atI (nth q 7))]).1 by kernel_rfl)).trans (e_fuse_Right F (atI (nth q 0)) (atI (nth q 1)) (atI (nth q 2)) (atI (nth q 3)) (atI (nth q 4)) (atI (nth q 5)) (atI (nth q 6)) (atI (nth q 7))))
    (fun _ h => (okT_fill h).trans (congrArg some (by kernel_rfl)))

end Go.Xv
set_option linter.unusedVariables false
namespace Go.Xv
/- 31 _fuse_may -/
def c_fuse_may : Cfg := ⟨[0, 1, 2, 3, 4, 6], [], [], []⟩
def ti_fuse_may : List TV := [.v (.agg [.int .i64, .int .i64, .int .i64, .int .i64]), .v (.agg [.int .i64, .int .i64, .int .i64, .int .i64]), .v (.int .i64)]
def to_fuse_may : TV := .v (.bool)
def S_fuse_may (F : Nat) : FuncId → List VV → Option (Bool × VV) := words [(18, s_fuse_Right F), (38, s_fuse_tick F)]
def W_fuse_may (F : Nat) : List LW := []
def I_fuse_may (F : Nat) : Nat → VS → (Exit → VS → R) → R := tabI c_fuse_may (W_fuse_may F)
def WJ_fuse_may (F : Nat) : List LJ := []
def J_fuse_may (F : Nat) : Nat → Nat → VS → (Exit → VS → R) → R := tabJ (WJ_fuse_may F)
def f_fuse_may (F : Nat) (a0 : Int) (a1 : Int) (a2 : Int) (a3 : Int) (a4 : Int) (a5 : Int) (a6 : Int) (a7 : Int) (a8 : Int) : R :=
  bif (ok_fuse_Right F a0 a1 a2 a3 a4 a5 a6 a7) then (
    bif ((((o_fuse_Right_0 F a0 a1 a2 a3 a4 a5 a6 a7)) == 0)) then (
      bif ((decide (a8 ≥ a7))) then (
        bif (ok_fuse_tick F a8) then (
          some (.v (.bool ((o_fuse_tick_0 F a8)))))
        else (
          none))
      else (
        some (.v (.bool false))))
    else (
      some (.v (.bool false))))
  else (
    none)
theorem e_fuse_may (F : Nat) (a0 : Int) (a1 : Int) (a2 : Int) (a3 : Int) (a4 : Int) (a5 : Int) (a6 : Int) (a7 : Int) (a8 : Int) : funL PP (S_fuse_may F) c_fuse_may (I_fuse_may F) (J_fuse_may F) 31 (fTs ti_fuse_may [.i a0, .i a1, .i a2, .i a3, .i a4, .i a5, .i a6, .i a7, .i a8]).1 = f_fuse_may F a0 a1 a2 a3 a4 a5 a6 a7 a8 := by
  have h : ∀ (ok_fuse_Right : Nat → Int → Int → Int → Int → Int → Int → Int → Int → Bool) (o_fuse_Right_0 : Nat → Int → Int → Int → Int → Int → Int → Int → Int → Int) (ok_fuse_tick : Nat → Int → Bool) (o_fuse_tick_0 : Nat → Int → Bool), funL PP (words [(18, spec ti_fuse_Right to_fuse_Right (fun q => (ok_fuse_Right F (atI (nth q 0)) (atI (nth q 1)) (atI (nth q 2)) (atI (nth q 3)) (atI (nth q 4)) (atI (nth q 5)) (atI (nth q 6)) (atI (nth q 7)))) (fun q => [.i (o_fuse_Right_0 F (atI (nth q 0)) (atI (nth q 1)) (atI (nth q 2)) (atI (nth q 3)) (atI (nth q 4)) (atI (nth q 5)) (atI (nth q 6)) (atI (nth q 7)))])), (38, spec ti_fuse_tick to_fuse_tick (fun q => (ok_fuse_tick F (atI (nth q 0)))) (fun q => [.b (o_fuse_tick_0 F (atI (nth q 0)))]))]) c_fuse_may (tabI c_fuse_may []) (tabJ []) 31 (fTs ti_fuse_may [.i a0, .i a1, .i a2, .i a3, .i a4, .i a5, .i a6, .i a7, .i a8]).1 = (
  bif (ok_fuse_Right F a0 a1 a2 a3 a4 a5 a6 a7) then (
    bif ((((o_fuse_Right_0 F a0 a1 a2 a3 a4 a5 a6 a7)) == 0)) then (
      bif ((decide (a8 ≥ a7))) then (
        bif (ok_fuse_tick F a8) then (
          some (.v (.bool ((o_fuse_tick_0 F a8)))))
        else (
          none))
      else (
        some (.v (.bool false))))
    else (
      some (.v (.bool false))))
  else (
    none) : R) := by
    intros
    kernel_rfl
  exact (h ok_fuse_Right o_fuse_Right_0 ok_fuse_tick o_fuse_tick_0).trans (by kernel_rfl)
def ok_fuse_may (F : Nat) (a0 : Int) (a1 : Int) (a2 : Int) (a3 : Int) (a4 : Int) (a5 : Int) (a6 : Int) (a7 : Int) (a8 : Int) : Bool := okT to_fuse_may (f_fuse_may F a0 a1 a2 a3 a4 a5 a6 a7 a8)
def o_fuse_may_0 (F : Nat) (a0 : Int) (a1 : Int) (a2 : Int) (a3 : Int) (a4 : Int) (a5 : Int) (a6 : Int) (a7 : Int) (a8 : Int) : Bool := atB (nth (outT to_fuse_may (f_fuse_may F a0 a1 a2 a3 a4 a5 a6 a7 a8)) 0)
theorem k_fuse_may (F : Nat) (a0 : Int) (a1 : Int) (a2 : Int) (a3 : Int) (a4 : Int) (a5 : Int) (a6 : Int) (a7 : Int) (a8 : Int) {z0 : Bool} (h : f_fuse_may F a0 a1 a2 a3 a4 a5 a6 a7 a8 = some (.v (.bool z0))) : ok_fuse_may F a0 a1 a2 a3 a4 a5 a6 a7 a8 = true ∧ o_fuse_may_0 F a0 a1 a2 a3 a4 a5 a6 a7 a8 = z0 := by
  refine ⟨?_, ?_⟩
  · unfold ok_fuse_may; rw [h]; kernel_rfl
  · unfold o_fuse_may_0; rw [h]; kernel_rfl
def s_fuse_may (F : Nat) : List VV → Option (Bool × VV) := spec ti_fuse_may to_fuse_may (fun q => (ok_fuse_may F (atI (nth q 0)) (atI (nth q 1)) (atI (nth q 2)) (atI (nth q 3)) (atI (nth q 4)) (atI (nth q 5)) (atI (nth q 6)) (atI (nth q 7)) (atI (nth q 8)))) (fun q => [.b (o_fuse_may_0 F (atI (nth q 0)) (atI (nth q 1)) (atI (nth q 2)) (atI (nth q 3)) (atI (nth q 4)) (atI (nth q 5)) (atI (nth q 6)) (atI (nth q 7)) (atI (nth q 8)))])
theorem hS_fuse_may (F : Nat) : ∀ f, Good PP f (unS (S_fuse_may F f)) := words_good fun p hp => by
  simp only [List.mem_cons, List.not_mem_nil, or_false] at hp
  rcases hp with rfl | rfl
  · exact g_fuse_Right F
  · exact g_fuse_tick F
theorem hl_fuse_may (F : Nat) : ∀ p ∈ loopsIn PP 31, LoopOK PP (S_fuse_may F) c_fuse_may F (I_fuse_may F) (J_fuse_may F) p :=
  loops_of [] (by kernel_rfl) all_nil
theorem hj_fuse_may (F : Nat) : ∀ p ∈ joinsIn PP c_fuse_may 31, JoinOK PP (S_fuse_may F) c_fuse_may (I_fuse_may F) (J_fuse_may F) p :=
  joins_of [] (by kernel_rfl) all_nil
theorem g_fuse_may (F : Nat) : Good PP 31 (unS (s_fuse_may F)) :=
  fun_spec (hS_fuse_may F) (by kernel_rfl) (by kernel_rfl) (C := c_fuse_may) (F := fun q => (f_fuse_may F (atI (nth q 0)) (atI (nth q 1)) (atI (nth q 2)) (atI (nth q 3)) (atI (nth q 4)) (atI (nth q 5)) (atI (nth q 6)) (atI (nth q 7)) (atI (nth q 8)))) (fun _ => F) (fun _ => I_fuse_may F) (fun _ => J_fuse_may F) (fun _ => hl_fuse_may F) (fun _ => hj_fuse_may F)
    (fun q => (congrArg (funL PP (S_fuse_may F) c_fuse_may (I_fuse_may F) (J_fuse_may F) 31) (show (fTs ti_fuse_may q).1 = (fTs ti_fuse_may [.i (atI (nth q 0)), .i (atI (nth q 1)), .i (atI (nth q 2)), .i (atI (nth q 3)), .i (atI (nth q 4)), .i (atI (nth q 5)), .i (atI (nth q 6)), .i (atI (nth q 7)), .i (atI (nth q 8))]).1 by kernel_rfl)).trans (e_fuse_may F (atI (nth q 0)) (atI (nth q 1)) (atI (nth q 2)) (atI (nth q 3)) (atI (nth q 4)) (atI (nth q 5)) (atI (nth q 6)) (atI (nth q 7)) (atI (nth q 8))))
    (fun _ h => (okT_fill h).trans (congrArg some (by kernel_rfl)))

end Go.Xv
set_option linter.unusedVariables false
namespace Go.Xv
/- 57 _fix_Shift -/
def c_fix_Shift : Cfg := ⟨[0, 1, 4, 5, 7], [], [9, 12], []⟩
def ti_fix_Shift : List TV := [.v (.int .i64), .v (.int .i64)]
def to_fix_Shift : TV := .v (.tup [.int .i64, .bool])
def S_fix_Shift (F : Nat) : FuncId → List VV → Option (Bool × VV) := words [(67, s_fix_of F), (86, s_wide_Left F), (68, s_fix_clip F)]
def W_fix_Shift (F : Nat) : List LW := []
def I_fix_Shift (F : Nat) : Nat → VS → (Exit → VS → R) → R := tabI c_fix_Shift (W_fix_Shift F)
def WJ_fix_Shift (F : Nat) : List LJ := []
def J_fix_Shift (F : Nat) : Nat → Nat → VS → (Exit → VS → R) → R := tabJ (WJ_fix_Shift F)
def f_fix_Shift (F : Nat) (a0 : Int) (a1 : Int) : R :=
  bif ((decide (a1 ≥ 0))) then (
    bif (ok_fix_of F a0) then (
      let v3183 : Int := (o_fix_of_0 F a0)
      let v3184 : Int := (o_fix_of_1 F a0)
      let v3185 : Int := (if 64 < a1 then 64 else a1)
      bif (ok_wide_Left F v3183 v3184 v3185) then (
        let v3186 : Int := (o_wide_Left_0 F v3183 v3184 v3185)
        let v3187 : Int := (o_wide_Left_1 F v3183 v3184 v3185)
        bif (ok_fix_clip F v3186 v3187) then (
          some (.v (.tuple #[.int .i64 ((o_fix_clip_0 F v3186 v3187)), .bool ((o_fix_clip_1 F v3186 v3187))])))
        else (
          none))
      else (
        none))
    else (
      none))
  else (
    let v3191 : Int := (IntKind.wrap .i64 (0 - ((if (-64) > a1 then (-64) else a1))))
    let v3192 : Int := (if v3191 < 63 then v3191 else 63)
    bif (!(decide (v3192 < 0))) then (
      some (.v (.tuple #[.int .i64 ((Int.fdiv a0 (2 ^ (min (Int.toNat v3192) 64)))), .bool false])))
    else (
      none))
theorem e_fix_Shift (F : Nat) (a0 : Int) (a1 : Int) : funL PP (S_fix_Shift F) c_fix_Shift (I_fix_Shift F) (J_fix_Shift F) 57 (fTs ti_fix_Shift [.i a0, .i a1]).1 = f_fix_Shift F a0 a1 := by
  have h : ∀ (ok_fix_of : Nat → Int → Bool) (o_fix_of_0 : Nat → Int → Int) (o_fix_of_1 : Nat → Int → Int) (ok_wide_Left : Nat → Int → Int → Int → Bool) (o_wide_Left_0 : Nat → Int → Int → Int → Int) (o_wide_Left_1 : Nat → Int → Int → Int → Int) (ok_fix_clip : Nat → Int → Int → Bool) (o_fix_clip_0 : Nat → Int → Int → Int) (o_fix_clip_1 : Nat → Int → Int → Bool), funL PP (words [(67, spec ti_fix_of to_fix_of (fun q => (ok_fix_of F (atI (nth q 0)))) (fun q => [.i (o_fix_of_0 F (atI (nth q 0))), .i (o_fix_of_1 F (atI (nth q 0)))])), (86, spec ti_wide_Left to_wide_Left (fun q => (ok_wide_Left F (atI (nth q 0)) (atI (nth q 1)) (atI (nth q 2)))) (fun q => [.i (o_wide_Left_0 F (atI (nth q 0)) (atI (nth q 1)) (atI (nth q 2))), .i (o_wide_Left_1 F (atI (nth q 0)) (atI (nth q 1)) (atI (nth q 2)))])), (68, spec ti_fix_clip to_fix_clip (fun q => (ok_fix_clip F (atI (nth q 0)) (atI (nth q 1)))) (fun q => [.i (o_fix_clip_0 F (atI (nth q 0)) (atI (nth q 1))), .b (o_fix_clip_1 F (atI (nth q 0)) (atI (nth q 1)))]))]) c_fix_Shift (tabI c_fix_Shift []) (tabJ []) 57 (fTs ti_fix_Shift [.i a0, .i a1]).1 = (
  bif ((decide (a1 ≥ 0))) then (
    bif (ok_fix_of F a0) then (
      let v3183 : Int := (o_fix_of_0 F a0)
      let v3184 : Int := (o_fix_of_1 F a0)
      let v3185 : Int := (if 64 < a1 then 64 else a1)
      bif (ok_wide_Left F v3183 v3184 v3185) then (
        let v3186 : Int := (o_wide_Left_0 F v3183 v3184 v3185)
        let v3187 : Int := (o_wide_Left_1 F v3183 v3184 v3185)
        bif (ok_fix_clip F v3186 v3187) then (
          some (.v (.tuple #[.int .i64 ((o_fix_clip_0 F v3186 v3187)), .bool ((o_fix_clip_1 F v3186 v3187))])))
        else (
          none))
      else (
        none))
    else (
      none))
  else (
    let v3191 : Int := (IntKind.wrap .i64 (0 - ((if (-64) > a1 then (-64) else a1))))
    let v3192 : Int := (if v3191 < 63 then v3191 else 63)
    bif (!(decide (v3192 < 0))) then (
      some (.v (.tuple #[.int .i64 ((Int.fdiv a0 (2 ^ (min (Int.toNat v3192) 64)))), .bool false])))
    else (
      none)) : R) := by
    intros
    kernel_rfl
  exact (h ok_fix_of o_fix_of_0 o_fix_of_1 ok_wide_Left o_wide_Left_0 o_wide_Left_1 ok_fix_clip o_fix_clip_0 o_fix_clip_1).trans (by kernel_rfl)
def ok_fix_Shift (F : Nat) (a0 : Int) (a1 : Int) : Bool := okT to_fix_Shift (f_fix_Shift F a0 a1)
def o_fix_Shift_0 (F : Nat) (a0 : Int) (a1 : Int) : Int := atI (nth (outT to_fix_Shift (f_fix_Shift F a0 a1)) 0)
def o_fix_Shift_1 (F : Nat) (a0 : Int) (a1 : Int) : Bool := atB (nth (outT to_fix_Shift (f_fix_Shift F a0 a1)) 1)
theorem k_fix_Shift (F : Nat) (a0 : Int) (a1 : Int) {z0 : Int} {z1 : Bool} (h : f_fix_Shift F a0 a1 = some (.v (.tuple #[.int .i64 z0, .bool z1]))) : ok_fix_Shift F a0 a1 = true ∧ o_fix_Shift_0 F a0 a1 = z0 ∧ o_fix_Shift_1 F a0 a1 = z1 := by
  refine ⟨?_, ?_, ?_⟩
  · unfold ok_fix_Shift; rw [h]; kernel_rfl
  · unfold o_fix_Shift_0; rw [h]; kernel_rfl
  · unfold o_fix_Shift_1; rw [h]; kernel_rfl
def s_fix_Shift (F : Nat) : List VV → Option (Bool × VV) := spec ti_fix_Shift to_fix_Shift (fun q => (ok_fix_Shift F (atI (nth q 0)) (atI (nth q 1)))) (fun q => [.i (o_fix_Shift_0 F (atI (nth q 0)) (atI (nth q 1))), .b (o_fix_Shift_1 F (atI (nth q 0)) (atI (nth q 1)))])
theorem hS_fix_Shift (F : Nat) : ∀ f, Good PP f (unS (S_fix_Shift F f)) := words_good fun p hp => by
  simp only [List.mem_cons, List.not_mem_nil, or_false] at hp
  rcases hp with rfl | rfl | rfl
  · exact g_fix_of F
  · exact g_wide_Left F
  · exact g_fix_clip F
theorem hl_fix_Shift (F : Nat) : ∀ p ∈ loopsIn PP 57, LoopOK PP (S_fix_Shift F) c_fix_Shift F (I_fix_Shift F) (J_fix_Shift F) p :=
  loops_of [] (by kernel_rfl) all_nil
theorem hj_fix_Shift (F : Nat) : ∀ p ∈ joinsIn PP c_fix_Shift 57, JoinOK PP (S_fix_Shift F) c_fix_Shift (I_fix_Shift F) (J_fix_Shift F) p :=
  joins_of [] (by kernel_rfl) all_nil
theorem g_fix_Shift (F : Nat) : Good PP 57 (unS (s_fix_Shift F)) :=
  fun_spec (hS_fix_Shift F) (by kernel_rfl) (by kernel_rfl) (C := c_fix_Shift) (F := fun q => (f_fix_Shift F (atI (nth q 0)) (atI (nth q 1)))) (fun _ => F) (fun _ => I_fix_Shift F) (fun _ => J_fix_Shift F) (fun _ => hl_fix_Shift F) (fun _ => hj_fix_Shift F)
    (fun q => (congrArg (funL PP (S_fix_Shift F) c_fix_Shift (I_fix_Shift F) (J_fix_Shift F) 57) (show (fTs ti_fix_Shift q).1 = (fTs ti_fix_Shift [.i (atI (nth q 0)), .i (atI (nth q 1))]).1 by kernel_rfl)).trans (e_fix_Shift F (atI (nth q 0)) (atI (nth q 1))))
    (fun _ h => (okT_fill h).trans (congrArg some (by kernel_rfl)))

end Go.Xv
set_option linter.unusedVariables false
namespace Go.Xv
/- 33 _fuse_Rule_pulled -/
def c_fuse_Rule_pulled : Cfg := ⟨[0, 1, 2, 3, 6, 7], [], [], []⟩
def ti_fuse_Rule_pulled : List TV := [.v (.agg [.int .i64, .int .i64, .int .i64, .int .i64]), .v (.int .i64), .v (.int .i64)]
def to_fuse_Rule_pulled : TV := .v (.int .i64)
def S_fuse_Rule_pulled (F : Nat) : FuncId → List VV → Option (Bool × VV) := words [(57, s_fix_Shift F), (58, s_fix_Clamp F), (59, s_fix_Add F)]
def W_fuse_Rule_pulled (F : Nat) : List LW := []
def I_fuse_Rule_pulled (F : Nat) : Nat → VS → (Exit → VS → R) → R := tabI c_fuse_Rule_pulled (W_fuse_Rule_pulled F)
def WJ_fuse_Rule_pulled (F : Nat) : List LJ := []
def J_fuse_Rule_pulled (F : Nat) : Nat → Nat → VS → (Exit → VS → R) → R := tabJ (WJ_fuse_Rule_pulled F)
def f_fuse_Rule_pulled (F : Nat) (a0 : Int) (a1 : Int) (a2 : Int) (a3 : Int) (a4 : Int) (a5 : Int) : R :=
  let v3181 : Int := (IntKind.wrap .i64 (0 - a0))
  bif (ok_fix_Shift F a5 v3181) then (
    let v3194 : Int := (o_fix_Shift_0 F a5 v3181)
    let v3196 : Int := (IntKind.wrap .i64 (0 - a1))
    bif (ok_fix_Clamp F v3194 v3196 a1) then (
      let v3197 : Int := (o_fix_Clamp_0 F v3194 v3196 a1)
      bif (ok_fix_Add F a4 v3197) then (
        let v3205 : Int := (o_fix_Add_0 F a4 v3197)
        let v3207 : Int := (IntKind.wrap .i64 (0 - a2))
        bif (ok_fix_Clamp F v3205 v3207 a2) then (
          some (.v (.int .i64 ((o_fix_Clamp_0 F v3205 v3207 a2)))))
        else (
          none))
      else (
        none))
    else (
      none))
  else (
    none)
theorem e_fuse_Rule_pulled (F : Nat) (a0 : Int) (a1 : Int) (a2 : Int) (a3 : Int) (a4 : Int) (a5 : Int) : funL PP (S_fuse_Rule_pulled F) c_fuse_Rule_pulled (I_fuse_Rule_pulled F) (J_fuse_Rule_pulled F) 33 (fTs ti_fuse_Rule_pulled [.i a0, .i a1, .i a2, .i a3, .i a4, .i a5]).1 = f_fuse_Rule_pulled F a0 a1 a2 a3 a4 a5 := by
  have h : ∀ (ok_fix_Shift : Nat → Int → Int → Bool) (o_fix_Shift_0 : Nat → Int → Int → Int) (o_fix_Shift_1 : Nat → Int → Int → Bool) (ok_fix_Clamp : Nat → Int → Int → Int → Bool) (o_fix_Clamp_0 : Nat → Int → Int → Int → Int) (o_fix_Clamp_1 : Nat → Int → Int → Int → Bool) (ok_fix_Add : Nat → Int → Int → Bool) (o_fix_Add_0 : Nat → Int → Int → Int) (o_fix_Add_1 : Nat → Int → Int → Bool), funL PP (words [(57, spec ti_fix_Shift to_fix_Shift (fun q => (ok_fix_Shift F (atI (nth q 0)) (atI (nth q 1)))) (fun q => [.i (o_fix_Shift_0 F (atI (nth q 0)) (atI (nth q 1))), .b (o_fix_Shift_1 F (atI (nth q 0)) (atI (nth q 1)))])), (58, spec ti_fix_Clamp to_fix_Clamp (fun q => (ok_fix_Clamp F (atI (nth q 0)) (atI (nth q 1)) (atI (nth q 2)))) (fun q => [.i (o_fix_Clamp_0 F (atI (nth q 0)) (atI (nth q 1)) (atI (nth q 2))), .b (o_fix_Clamp_1 F (atI (nth q 0)) (atI (nth q 1)) (atI (nth q 2)))])), (59, spec ti_fix_Add to_fix_Add (fun q => (ok_fix_Add F (atI (nth q 0)) (atI (nth q 1)))) (fun q => [.i (o_fix_Add_0 F (atI (nth q 0)) (atI (nth q 1))), .b (o_fix_Add_1 F (atI (nth q 0)) (atI (nth q 1)))]))]) c_fuse_Rule_pulled (tabI c_fuse_Rule_pulled []) (tabJ []) 33 (fTs ti_fuse_Rule_pulled [.i a0, .i a1, .i a2, .i a3, .i a4, .i a5]).1 = (
  let v3181 : Int := (IntKind.wrap .i64 (0 - a0))
  bif (ok_fix_Shift F a5 v3181) then (
    let v3194 : Int := (o_fix_Shift_0 F a5 v3181)
    let v3196 : Int := (IntKind.wrap .i64 (0 - a1))
    bif (ok_fix_Clamp F v3194 v3196 a1) then (
      let v3197 : Int := (o_fix_Clamp_0 F v3194 v3196 a1)
      bif (ok_fix_Add F a4 v3197) then (
        let v3205 : Int := (o_fix_Add_0 F a4 v3197)
        let v3207 : Int := (IntKind.wrap .i64 (0 - a2))
        bif (ok_fix_Clamp F v3205 v3207 a2) then (
          some (.v (.int .i64 ((o_fix_Clamp_0 F v3205 v3207 a2)))))
        else (
          none))
      else (
        none))
    else (
      none))
  else (
    none) : R) := by
    intros
    kernel_rfl
  exact (h ok_fix_Shift o_fix_Shift_0 o_fix_Shift_1 ok_fix_Clamp o_fix_Clamp_0 o_fix_Clamp_1 ok_fix_Add o_fix_Add_0 o_fix_Add_1).trans (by kernel_rfl)
def ok_fuse_Rule_pulled (F : Nat) (a0 : Int) (a1 : Int) (a2 : Int) (a3 : Int) (a4 : Int) (a5 : Int) : Bool := okT to_fuse_Rule_pulled (f_fuse_Rule_pulled F a0 a1 a2 a3 a4 a5)
def o_fuse_Rule_pulled_0 (F : Nat) (a0 : Int) (a1 : Int) (a2 : Int) (a3 : Int) (a4 : Int) (a5 : Int) : Int := atI (nth (outT to_fuse_Rule_pulled (f_fuse_Rule_pulled F a0 a1 a2 a3 a4 a5)) 0)
theorem k_fuse_Rule_pulled (F : Nat) (a0 : Int) (a1 : Int) (a2 : Int) (a3 : Int) (a4 : Int) (a5 : Int) {z0 : Int} (h : f_fuse_Rule_pulled F a0 a1 a2 a3 a4 a5 = some (.v (.int .i64 z0))) : ok_fuse_Rule_pulled F a0 a1 a2 a3 a4 a5 = true ∧ o_fuse_Rule_pulled_0 F a0 a1 a2 a3 a4 a5 = z0 := by
  refine ⟨?_, ?_⟩
  · unfold ok_fuse_Rule_pulled; rw [h]; kernel_rfl
  · unfold o_fuse_Rule_pulled_0; rw [h]; kernel_rfl
def s_fuse_Rule_pulled (F : Nat) : List VV → Option (Bool × VV) := spec ti_fuse_Rule_pulled to_fuse_Rule_pulled (fun q => (ok_fuse_Rule_pulled F (atI (nth q 0)) (atI (nth q 1)) (atI (nth q 2)) (atI (nth q 3)) (atI (nth q 4)) (atI (nth q 5)))) (fun q => [.i (o_fuse_Rule_pulled_0 F (atI (nth q 0)) (atI (nth q 1)) (atI (nth q 2)) (atI (nth q 3)) (atI (nth q 4)) (atI (nth q 5)))])
theorem hS_fuse_Rule_pulled (F : Nat) : ∀ f, Good PP f (unS (S_fuse_Rule_pulled F f)) := words_good fun p hp => by
  simp only [List.mem_cons, List.not_mem_nil, or_false] at hp
  rcases hp with rfl | rfl | rfl
  · exact g_fix_Shift F
  · exact g_fix_Clamp F
  · exact g_fix_Add F
theorem hl_fuse_Rule_pulled (F : Nat) : ∀ p ∈ loopsIn PP 33, LoopOK PP (S_fuse_Rule_pulled F) c_fuse_Rule_pulled F (I_fuse_Rule_pulled F) (J_fuse_Rule_pulled F) p :=
  loops_of [] (by kernel_rfl) all_nil
theorem hj_fuse_Rule_pulled (F : Nat) : ∀ p ∈ joinsIn PP c_fuse_Rule_pulled 33, JoinOK PP (S_fuse_Rule_pulled F) c_fuse_Rule_pulled (I_fuse_Rule_pulled F) (J_fuse_Rule_pulled F) p :=
  joins_of [] (by kernel_rfl) all_nil
theorem g_fuse_Rule_pulled (F : Nat) : Good PP 33 (unS (s_fuse_Rule_pulled F)) :=
  fun_spec (hS_fuse_Rule_pulled F) (by kernel_rfl) (by kernel_rfl) (C := c_fuse_Rule_pulled) (F := fun q => (f_fuse_Rule_pulled F (atI (nth q 0)) (atI (nth q 1)) (atI (nth q 2)) (atI (nth q 3)) (atI (nth q 4)) (atI (nth q 5)))) (fun _ => F) (fun _ => I_fuse_Rule_pulled F) (fun _ => J_fuse_Rule_pulled F) (fun _ => hl_fuse_Rule_pulled F) (fun _ => hj_fuse_Rule_pulled F)
    (fun q => (congrArg (funL PP (S_fuse_Rule_pulled F) c_fuse_Rule_pulled (I_fuse_Rule_pulled F) (J_fuse_Rule_pulled F) 33) (show (fTs ti_fuse_Rule_pulled q).1 = (fTs ti_fuse_Rule_pulled [.i (atI (nth q 0)), .i (atI (nth q 1)), .i (atI (nth q 2)), .i (atI (nth q 3)), .i (atI (nth q 4)), .i (atI (nth q 5))]).1 by kernel_rfl)).trans (e_fuse_Rule_pulled F (atI (nth q 0)) (atI (nth q 1)) (atI (nth q 2)) (atI (nth q 3)) (atI (nth q 4)) (atI (nth q 5))))
    (fun _ h => (okT_fill h).trans (congrArg some (by kernel_rfl)))

end Go.Xv
set_option linter.unusedVariables false
namespace Go.Xv
/- 32 _fuse_each -/
def c_fuse_each : Cfg := ⟨[0, 1, 2, 3, 5, 6, 8, 9, 10, 11, 12, 13, 14, 22], [(0, [0, 1, 2, 3, 5, 6, 8, 9, 12, 13, 32])], [], []⟩
def ti_fuse_each : List TV := [.fn 1000033 [.v (.agg [.int .i64, .int .i64, .int .i64, .int .i64])], .v (.agg [.int .i64, .int .i64, .int .i64]), .v (.agg [.int .i64, .int .i64, .int .i64]), .v (.int .i64)]
def to_fuse_each : TV := .v (.agg [.int .i64, .int .i64, .int .i64])
def S_fuse_each (F : Nat) : FuncId → List VV → Option (Bool × VV) := words [(33, s_fuse_Rule_pulled F)]
def T_fuse_each_0 : TS := ⟨[(0, .fn 1000033 [.v (.agg [.int .i64, .int .i64, .int .i64, .int .i64])]), (1, .v (.agg [.int .i64, .int .i64, .int .i64])), (2, .v (.agg [.int .i64, .int .i64, .int .i64])), (3, .v (.int .i64)), (5, .lp 0 (.lit 0)), (6, .lp 1 (.lit 0)), (8, .lp 2 (.lit 0)), (9, .lp 3 (.lit 0)), (12, .v (.agg [.int .i64, .int .i64, .int .i64])), (13, .v (.int .i64))], [(0, ⟨(.ex [.v (.int .i64), .v (.int .i64), .v (.int .i64)]), true⟩), (1, ⟨(.ex [.v (.int .i64), .v (.int .i64), .v (.int .i64)]), true⟩), (2, ⟨(.ex [.v (.int .i64), .v (.int .i64), .v (.int .i64)]), true⟩), (3, ⟨.hole, true⟩)], 4⟩
def T_fuse_each_0_0 : TS := ⟨[(0, .fn 1000033 [.v (.agg [.int .i64, .int .i64, .int .i64, .int .i64])]), (1, .v (.agg [.int .i64, .int .i64, .int .i64])), (2, .v (.agg [.int .i64, .int .i64, .int .i64])), (3, .v (.int .i64)), (5, .lp 0 (.lit 0)), (6, .lp 1 (.lit 0)), (8, .lp 2 (.lit 0)), (9, .lp 3 (.lit 0)), (12, .v (.agg [.int .i64, .int .i64, .int .i64])), (13, .v (.int .i64))], [(0, ⟨(.ex [.v (.int .i64), .v (.int .i64), .v (.int .i64)]), true⟩), (1, ⟨(.ex [.v (.int .i64), .v (.int .i64), .v (.int .i64)]), true⟩), (2, ⟨(.ex [.v (.int .i64), .v (.int .i64), .v (.int .i64)]), true⟩), (3, ⟨.hole, true⟩)], 4⟩
def B_fuse_each_0 (F : Nat) (rc : Int → Int → Int → Int → Int → Int → Int → Int → Int → Int → Int → Int → Int → Int → Int → Int → Int → Int → Int → Int → Int → Int → Int → Int → List VV → R) (ex0 : Int → Int → Int → Int → Int → Int → Int → Int → Int → Int → Int → Int → Int → Int → Int → Int → Int → Int → Int → Int → Int → Int → Int → Int → List VV → R) (x0 : Int) (x1 : Int) (x2 : Int) (x3 : Int) (x4 : Int) (x5 : Int) (x6 : Int) (x7 : Int) (x8 : Int) (x9 : Int) (x10 : Int) (x11 : Int) (x12 : Int) (x13 : Int) (x14 : Int) (x15 : Int) (x16 : Int) (x17 : Int) (x18 : Int) (x19 : Int) (x20 : Int) (x21 : Int) (x22 : Int) (x23 : Int) (x24 : List VV) : R :=
  bif ((decide (x14 < 3))) then (
    bif (((decide (0 ≤ x14)) && (decide (x14 < 3))) && ((isI .i64 [.v (.int .i64 x11), .v (.int .i64 x12), .v (.int .i64 x13)][((Int.toNat x14) * 1)]?) && true)) then (
      let v3175 : Int := (iv [.v (.int .i64 x11), .v (.int .i64 x12), .v (.int .i64 x13)][((Int.toNat x14) * 1)]?)
      bif ((decide (0 ≤ x14)) && (decide (x14 < 3))) then (
        let v3176 : Nat := (0 + ((Int.toNat x14) * 1))
        bif (decide ((v3176 + 1) ≤ x24.length)) then (
          let v3177 : List VV := (x24.take v3176 ++ [.v (.int .i64 v3175)] ++ x24.drop (v3176 + 1))
          bif ((decide (x14 < x10))) then (
            bif ((decide (0 ≤ x14)) && (decide (x14 < 3))) then (
              let v3179 : Nat := (0 + ((Int.toNat x14) * 1))
              bif ((isI .i64 [.v (.int .i64 x18), .v (.int .i64 x19), .v (.int .i64 x20)][v3179]?) && true) then (
                let v3180 : Int := (iv [.v (.int .i64 x18), .v (.int .i64 x19), .v (.int .i64 x20)][v3179]?)
                bif (ok_fuse_Rule_pulled F x0 x1 x2 x3 v3175 v3180) then (
                  bif ((decide (0 ≤ x14)) && (decide (x14 < 3))) then (
                    let v3211 : Nat := (0 + ((Int.toNat x14) * 1))
                    bif (decide ((v3211 + 1) ≤ v3177.length)) then (
                      rc x0 x1 x2 x3 x4 x5 x6 x7 x8 x9 x10 x11 x12 x13 ((IntKind.wrap .i64 (x14 + 1))) x15 x16 x17 x18 x19 x20 x21 x22 x23 ((v3177.take v3211 ++ [.v (.int .i64 ((o_fuse_Rule_pulled_0 F x0 x1 x2 x3 v3175 v3180)))] ++ v3177.drop (v3211 + 1))))
                    else (
                      none))
                  else (
                    none))
                else (
                  none))
              else (
                none))
            else (
              none))
          else (
            rc x0 x1 x2 x3 x4 x5 x6 x7 x8 x9 x10 x11 x12 x13 ((IntKind.wrap .i64 (x14 + 1))) x15 x16 x17 x18 x19 x20 x21 x22 x23 v3177))
        else (
          none))
      else (
        none))
    else (
      none))
  else (
    ex0 x0 x1 x2 x3 x4 x5 x6 x7 x8 x9 x10 x11 x12 x13 x14 x15 x16 x17 x18 x19 x20 x21 x22 x23 x24)
def L_fuse_each_0 (F : Nat) (ex0 : Int → Int → Int → Int → Int → Int → Int → Int → Int → Int → Int → Int → Int → Int → Int → Int → Int → Int → Int → Int → Int → Int → Int → Int → List VV → R) : Nat → Int → Int → Int → Int → Int → Int → Int → Int → Int → Int → Int → Int → Int → Int → Int → Int → Int → Int → Int → Int → Int → Int → Int → Int → List VV → R
  | 0, _, _, _, _, _, _, _, _, _, _, _, _, _, _, _, _, _, _, _, _, _, _, _, _, _ => none
  | n + 1, x0, x1, x2, x3, x4, x5, x6, x7, x8, x9, x10, x11, x12, x13, x14, x15, x16, x17, x18, x19, x20, x21, x22, x23, x24 => B_fuse_each_0 F (L_fuse_each_0 F ex0 n) ex0 x0 x1 x2 x3 x4 x5 x6 x7 x8 x9 x10 x11 x12 x13 x14 x15 x16 x17 x18 x19 x20 x21 x22 x23 x24
def W_fuse_each (F : Nat) : List LW := [⟨0, T_fuse_each_0, fun k q => L_fuse_each_0 F (fun (z0 : Int) (z1 : Int) (z2 : Int) (z3 : Int) (z4 : Int) (z5 : Int) (z6 : Int) (z7 : Int) (z8 : Int) (z9 : Int) (z10 : Int) (z11 : Int) (z12 : Int) (z13 : Int) (z14 : Int) (z15 : Int) (z16 : Int) (z17 : Int) (z18 : Int) (z19 : Int) (z20 : Int) (z21 : Int) (z22 : Int) (z23 : Int) (z24 : List VV) => k (.exit 0) (fS T_fuse_each_0_0 [.i z0, .i z1, .i z2, .i z3, .i z4, .i z5, .i z6, .i z7, .i z8, .i z9, .i z10, .i z11, .i z12, .i z13, .i z14, .i z15, .i z16, .i z17, .i z18, .i z19, .i z20, .i z21, .i z22, .i z23, .c z24])) F (atI (nth q 0)) (atI (nth q 1)) (atI (nth q 2)) (atI (nth q 3)) (atI (nth q 4)) (atI (nth q 5)) (atI (nth q 6)) (atI (nth q 7)) (atI (nth q 8)) (atI (nth q 9)) (atI (nth q 10)) (atI (nth q 11)) (atI (nth q 12)) (atI (nth q 13)) (atI (nth q 14)) (atI (nth q 15)) (atI (nth q 16)) (atI (nth q 17)) (atI (nth q 18)) (atI (nth q 19)) (atI (nth q 20)) (atI (nth q 21)) (atI (nth q 22)) (atI (nth q 23)) (atC (nth q 24))⟩]
def I_fuse_each (F : Nat) : Nat → VS → (Exit → VS → R) → R := tabI c_fuse_each (W_fuse_each F)
def WJ_fuse_each (F : Nat) : List LJ := []
def J_fuse_each (F : Nat) : Nat → Nat → VS → (Exit → VS → R) → R := tabJ (WJ_fuse_each F)
theorem lL_fuse_each_0 (F : Nat) (k : Exit → VS → R) : ∀ (n : Nat) (x0 : Int) (x1 : Int) (x2 : Int) (x3 : Int) (x4 : Int) (x5 : Int) (x6 : Int) (x7 : Int) (x8 : Int) (x9 : Int) (x10 : Int) (x11 : Int) (x12 : Int) (x13 : Int) (x14 : Int) (x15 : Int) (x16 : Int) (x17 : Int) (x18 : Int) (x19 : Int) (x20 : Int) (x21 : Int) (x22 : Int) (x23 : Int) (x24 : List VV), iterC (codeL PP (S_fuse_each F) c_fuse_each (I_fuse_each F) (J_fuse_each F) (loopAt PP 32 0) 0) (headOf c_fuse_each 0) k n (fS T_fuse_each_0 [.i x0, .i x1, .i x2, .i x3, .i x4, .i x5, .i x6, .i x7, .i x8, .i x9, .i x10, .i x11, .i x12, .i x13, .i x14, .i x15, .i x16, .i x17, .i x18, .i x19, .i x20, .i x21, .i x22, .i x23, .c x24]) = L_fuse_each_0 F (fun (z0 : Int) (z1 : Int) (z2 : Int) (z3 : Int) (z4 : Int) (z5 : Int) (z6 : Int) (z7 : Int) (z8 : Int) (z9 : Int) (z10 : Int) (z11 : Int) (z12 : Int) (z13 : Int) (z14 : Int) (z15 : Int) (z16 : Int) (z17 : Int) (z18 : Int) (z19 : Int) (z20 : Int) (z21 : Int) (z22 : Int) (z23 : Int) (z24 : List VV) => k (.exit 0) (fS T_fuse_each_0_0 [.i z0, .i z1, .i z2, .i z3, .i z4, .i z5, .i z6, .i z7, .i z8, .i z9, .i z10, .i z11, .i z12, .i z13, .i z14, .i z15, .i z16, .i z17, .i z18, .i z19, .i z20, .i z21, .i z22, .i z23, .c z24])) n x0 x1 x2 x3 x4 x5 x6 x7 x8 x9 x10 x11 x12 x13 x14 x15 x16 x17 x18 x19 x20 x21 x22 x23 x24
  | 0, _, _, _, _, _, _, _, _, _, _, _, _, _, _, _, _, _, _, _, _, _, _, _, _, _ => rfl
  | n + 1, x0, x1, x2, x3, x4, x5, x6, x7, x8, x9, x10, x11, x12, x13, x14, x15, x16, x17, x18, x19, x20, x21, x22, x23, x24 => by
    have h0 : ∀ (ok_fuse_Rule_pulled : Nat → Int → Int → Int → Int → Int → Int → Bool) (o_fuse_Rule_pulled_0 : Nat → Int → Int → Int → Int → Int → Int → Int) (L_fuse_each_0 : Nat → (Int → Int → Int → Int → Int → Int → Int → Int → Int → Int → Int → Int → Int → Int → Int → Int → Int → Int → Int → Int → Int → Int → Int → Int → List VV → R) → Nat → Int → Int → Int → Int → Int → Int → Int → Int → Int → Int → Int → Int → Int → Int → Int → Int → Int → Int → Int → Int → Int → Int → Int → Int → List VV → R), iterC (codeL PP (words [(33, spec ti_fuse_Rule_pulled to_fuse_Rule_pulled (fun q => (ok_fuse_Rule_pulled F (atI (nth q 0)) (atI (nth q 1)) (atI (nth q 2)) (atI (nth q 3)) (atI (nth q 4)) (atI (nth q 5)))) (fun q => [.i (o_fuse_Rule_pulled_0 F (atI (nth q 0)) (atI (nth q 1)) (atI (nth q 2)) (atI (nth q 3)) (atI (nth q 4)) (atI (nth q 5)))]))]) c_fuse_each (tabI c_fuse_each [⟨0, T_fuse_each_0, fun k q => L_fuse_each_0 F (fun (z0 : Int) (z1 : Int) (z2 : Int) (z3 : Int) (z4 : Int) (z5 : Int) (z6 : Int) (z7 : Int) (z8 : Int) (z9 : Int) (z10 : Int) (z11 : Int) (z12 : Int) (z13 : Int) (z14 : Int) (z15 : Int) (z16 : Int) (z17 : Int) (z18 : Int) (z19 : Int) (z20 : Int) (z21 : Int) (z22 : Int) (z23 : Int) (z24 : List VV) => k (.exit 0) (fS T_fuse_each_0_0 [.i z0, .i z1, .i z2, .i z3, .i z4, .i z5, .i z6, .i z7, .i z8, .i z9, .i z10, .i z11, .i z12, .i z13, .i z14, .i z15, .i z16, .i z17, .i z18, .i z19, .i z20, .i z21, .i z22, .i z23, .c z24])) F (atI (nth q 0)) (atI (nth q 1)) (atI (nth q 2)) (atI (nth q 3)) (atI (nth q 4)) (atI (nth q 5)) (atI (nth q 6)) (atI (nth q 7)) (atI (nth q 8)) (atI (nth q 9)) (atI (nth q 10)) (atI (nth q 11)) (atI (nth q 12)) (atI (nth q 13)) (atI (nth q 14)) (atI (nth q 15)) (atI (nth q 16)) (atI (nth q 17)) (atI (nth q 18)) (atI (nth q 19)) (atI (nth q 20)) (atI (nth q 21)) (atI (nth q 22)) (atI (nth q 23)) (atC (nth q 24))⟩]) (tabJ []) (loopAt PP 32 0) 0) (headOf c_fuse_each 0) k (n + 1) (fS T_fuse_each_0 [.i x0, .i x1, .i x2, .i x3, .i x4, .i x5, .i x6, .i x7, .i x8, .i x9, .i x10, .i x11, .i x12, .i x13, .i x14, .i x15, .i x16, .i x17, .i x18, .i x19, .i x20, .i x21, .i x22, .i x23, .c x24]) = (fun (rc : Int → Int → Int → Int → Int → Int → Int → Int → Int → Int → Int → Int → Int → Int → Int → Int → Int → Int → Int → Int → Int → Int → Int → Int → List VV → R) (ex0 : Int → Int → Int → Int → Int → Int → Int → Int → Int → Int → Int → Int → Int → Int → Int → Int → Int → Int → Int → Int → Int → Int → Int → Int → List VV → R) (x0 : Int) (x1 : Int) (x2 : Int) (x3 : Int) (x4 : Int) (x5 : Int) (x6 : Int) (x7 : Int) (x8 : Int) (x9 : Int) (x10 : Int) (x11 : Int) (x12 : Int) (x13 : Int) (x14 : Int) (x15 : Int) (x16 : Int) (x17 : Int) (x18 : Int) (x19 : Int) (x20 : Int) (x21 : Int) (x22 : Int) (x23 : Int) (x24 : List VV) => (
  bif ((decide (x14 < 3))) then (
    bif (((decide (0 ≤ x14)) && (decide (x14 < 3))) && ((isI .i64 [.v (.int .i64 x11), .v (.int .i64 x12), .v (.int .i64 x13)][((Int.toNat x14) * 1)]?) && true)) then (
      let v3175 : Int := (iv [.v (.int .i64 x11), .v (.int .i64 x12), .v (.int .i64 x13)][((Int.toNat x14) * 1)]?)
      bif ((decide (0 ≤ x14)) && (decide (x14 < 3))) then (
        let v3176 : Nat := (0 + ((Int.toNat x14) * 1))
        bif (decide ((v3176 + 1) ≤ x24.length)) then (
          let v3177 : List VV := (x24.take v3176 ++ [.v (.int .i64 v3175)] ++ x24.drop (v3176 + 1))
          bif ((decide (x14 < x10))) then (
            bif ((decide (0 ≤ x14)) && (decide (x14 < 3))) then (
              let v3179 : Nat := (0 + ((Int.toNat x14) * 1))
              bif ((isI .i64 [.v (.int .i64 x18), .v (.int .i64 x19), .v (.int .i64 x20)][v3179]?) && true) then (
                let v3180 : Int := (iv [.v (.int .i64 x18), .v (.int .i64 x19), .v (.int .i64 x20)][v3179]?)
                bif (ok_fuse_Rule_pulled F x0 x1 x2 x3 v3175 v3180) then (
                  bif ((decide (0 ≤ x14)) && (decide (x14 < 3))) then (
                    let v3211 : Nat := (0 + ((Int.toNat x14) * 1))
                    bif (decide ((v3211 + 1) ≤ v3177.length)) then (
                      rc x0 x1 x2 x3 x4 x5 x6 x7 x8 x9 x10 x11 x12 x13 ((IntKind.wrap .i64 (x14 + 1))) x15 x16 x17 x18 x19 x20 x21 x22 x23 ((v3177.take v3211 ++ [.v (.int .i64 ((o_fuse_Rule_pulled_0 F x0 x1 x2 x3 v3175 v3180)))] ++ v3177.drop (v3211 + 1))))
                    else (
                      none))
                  else (
                    none))
                else (
                  none))
              else (
                none))
            else (
              none))
          else (
            rc x0 x1 x2 x3 x4 x5 x6 x7 x8 x9 x10 x11 x12 x13 ((IntKind.wrap .i64 (x14 + 1))) x15 x16 x17 x18 x19 x20 x21 x22 x23 v3177))
        else (
          none))
      else (
        none))
    else (
      none))
  else (
    ex0 x0 x1 x2 x3 x4 x5 x6 x7 x8 x9 x10 x11 x12 x13 x14 x15 x16 x17 x18 x19 x20 x21 x22 x23 x24) : R)) (fun (y0 : Int) (y1 : Int) (y2 : Int) (y3 : Int) (y4 : Int) (y5 : Int) (y6 : Int) (y7 : Int) (y8 : Int) (y9 : Int) (y10 : Int) (y11 : Int) (y12 : Int) (y13 : Int) (y14 : Int) (y15 : Int) (y16 : Int) (y17 : Int) (y18 : Int) (y19 : Int) (y20 : Int) (y21 : Int) (y22 : Int) (y23 : Int) (y24 : List VV) => iterC (codeL PP (words [(33, spec ti_fuse_Rule_pulled to_fuse_Rule_pulled (fun q => (ok_fuse_Rule_pulled F (atI (nth q 0)) (atI (nth q 1)) (atI (nth q 2)) (atI (nth q 3)) (atI (nth q 4)) (atI (nth q 5)))) (fun q => [.i (o_fuse_Rule_pulled_0 F (atI (nth q 0)) (atI (nth q 1)) (atI (nth q 2)) (atI (nth q 3)) (atI (nth q 4)) (atI (nth q 5)))]))]) c_fuse_each (tabI c_fuse_each [⟨0, T_fuse_each_0, fun k q => L_fuse_each_0 F (fun (z0 : Int) (z1 : Int) (z2 : Int) (z3 : Int) (z4 : Int) (z5 : Int) (z6 : Int) (z7 : Int) (z8 : Int) (z9 : Int) (z10 : Int) (z11 : Int) (z12 : Int) (z13 : Int) (z14 : Int) (z15 : Int) (z16 : Int) (z17 : Int) (z18 : Int) (z19 : Int) (z20 : Int) (z21 : Int) (z22 : Int) (z23 : Int) (z24 : List VV) => k (.exit 0) (fS T_fuse_each_0_0 [.i z0, .i z1, .i z2, .i z3, .i z4, .i z5, .i z6, .i z7, .i z8, .i z9, .i z10, .i z11, .i z12, .i z13, .i z14, .i z15, .i z16, .i z17, .i z18, .i z19, .i z20, .i z21, .i z22, .i z23, .c z24])) F (atI (nth q 0)) (atI (nth q 1)) (atI (nth q 2)) (atI (nth q 3)) (atI (nth q 4)) (atI (nth q 5)) (atI (nth q 6)) (atI (nth q 7)) (atI (nth q 8)) (atI (nth q 9)) (atI (nth q 10)) (atI (nth q 11)) (atI (nth q 12)) (atI (nth q 13)) (atI (nth q 14)) (atI (nth q 15)) (atI (nth q 16)) (atI (nth q 17)) (atI (nth q 18)) (atI (nth q 19)) (atI (nth q 20)) (atI (nth q 21)) (atI (nth q 22)) (atI (nth q 23)) (atC (nth q 24))⟩]) (tabJ []) (loopAt PP 32 0) 0) (headOf c_fuse_each 0) k n (fS T_fuse_each_0 [.i y0, .i y1, .i y2, .i y3, .i y4, .i y5, .i y6, .i y7, .i y8, .i y9, .i y10, .i y11, .i y12, .i y13, .i y14, .i y15, .i y16, .i y17, .i y18, .i y19, .i y20, .i y21, .i y22, .i y23, .c y24])) (fun (z0 : Int) (z1 : Int) (z2 : Int) (z3 : Int) (z4 : Int) (z5 : Int) (z6 : Int) (z7 : Int) (z8 : Int) (z9 : Int) (z10 : Int) (z11 : Int) (z12 : Int) (z13 : Int) (z14 : Int) (z15 : Int) (z16 : Int) (z17 : Int) (z18 : Int) (z19 : Int) (z20 : Int) (z21 : Int) (z22 : Int) (z23 : Int) (z24 : List VV) => k (.exit 0) (fS T_fuse_each_0_0 [.i z0, .i z1, .i z2, .i z3, .i z4, .i z5, .i z6, .i z7, .i z8, .i z9, .i z10, .i z11, .i z12, .i z13, .i z14, .i z15, .i z16, .i z17, .i z18, .i z19, .i z20, .i z21, .i z22, .i z23, .c z24])) x0 x1 x2 x3 x4 x5 x6 x7 x8 x9 x10 x11 x12 x13 x14 x15 x16 x17 x18 x19 x20 x21 x22 x23 x24 := by
      intros
      kernel_rfl
    have h : iterC (codeL PP (S_fuse_each F) c_fuse_each (I_fuse_each F) (J_fuse_each F) (loopAt PP 32 0) 0) (headOf c_fuse_each 0) k (n + 1) (fS T_fuse_each_0 [.i x0, .i x1, .i x2, .i x3, .i x4, .i x5, .i x6, .i x7, .i x8, .i x9, .i x10, .i x11, .i x12, .i x13, .i x14, .i x15, .i x16, .i x17, .i x18, .i x19, .i x20, .i x21, .i x22, .i x23, .c x24]) = B_fuse_each_0 F (fun (y0 : Int) (y1 : Int) (y2 : Int) (y3 : Int) (y4 : Int) (y5 : Int) (y6 : Int) (y7 : Int) (y8 : Int) (y9 : Int) (y10 : Int) (y11 : Int) (y12 : Int) (y13 : Int) (y14 : Int) (y15 : Int) (y16 : Int) (y17 : Int) (y18 : Int) (y19 : Int) (y20 : Int) (y21 : Int) (y22 : Int) (y23 : Int) (y24 : List VV) => iterC (codeL PP (S_fuse_each F) c_fuse_each (I_fuse_each F) (J_fuse_each F) (loopAt PP 32 0) 0) (headOf c_fuse_each 0) k n (fS T_fuse_each_0 [.i y0, .i y1, .i y2, .i y3, .i y4, .i y5, .i y6, .i y7, .i y8, .i y9, .i y10, .i y11, .i y12, .i y13, .i y14, .i y15, .i y16, .i y17, .i y18, .i y19, .i y20, .i y21, .i y22, .i y23, .c y24])) (fun (z0 : Int) (z1 : Int) (z2 : Int) (z3 : Int) (z4 : Int) (z5 : Int) (z6 : Int) (z7 : Int) (z8 : Int) (z9 : Int) (z10 : Int) (z11 : Int) (z12 : Int) (z13 : Int) (z14 : Int) (z15 : Int) (z16 : Int) (z17 : Int) (z18 : Int) (z19 : Int) (z20 : Int) (z21 : Int) (z22 : Int) (z23 : Int) (z24 : List VV) => k (.exit 0) (fS T_fuse_each_0_0 [.i z0, .i z1, .i z2, .i z3, .i z4, .i z5, .i z6, .i z7, .i z8, .i z9, .i z10, .i z11, .i z12, .i z13, .i z14, .i z15, .i z16, .i z17, .i z18, .i z19, .i z20, .i z21, .i z22, .i z23, .c z24])) x0 x1 x2 x3 x4 x5 x6 x7 x8 x9 x10 x11 x12 x13 x14 x15 x16 x17 x18 x19 x20 x21 x22 x23 x24 := (h0 ok_fuse_Rule_pulled o_fuse_Rule_pulled_0 L_fuse_each_0).trans (by kernel_rfl)
    rw [h]
    simp only [lL_fuse_each_0 F k n]
    rfl
def f_fuse_each (F : Nat) (a0 : Int) (a1 : Int) (a2 : Int) (a3 : Int) (a4 : Int) (a5 : Int) (a6 : Int) (a7 : Int) (a8 : Int) (a9 : Int) (a10 : Int) : R :=
  L_fuse_each_0 F (fun (v3215 : Int) (v3216 : Int) (v3217 : Int) (v3218 : Int) (v3219 : Int) (v3220 : Int) (v3221 : Int) (v3222 : Int) (v3223 : Int) (v3224 : Int) (v3225 : Int) (v3226 : Int) (v3227 : Int) (v3228 : Int) (v3229 : Int) (v3230 : Int) (v3231 : Int) (v3232 : Int) (v3233 : Int) (v3234 : Int) (v3235 : Int) (v3236 : Int) (v3237 : Int) (v3238 : Int) (v3239 : List VV) =>
    bif ((isI .i64 v3239[0]?) && ((isI .i64 v3239[1]?) && ((isI .i64 v3239[2]?) && true))) then (
      some (.v (.agg #[.int .i64 ((iv v3239[0]?)), .int .i64 ((iv v3239[1]?)), .int .i64 ((iv v3239[2]?))])))
    else (
      none)) F a0 a1 a2 a3 a4 a5 a6 a7 a8 a9 a10 a4 a5 a6 0 a4 a5 a6 a7 a8 a9 0 0 0 ([.v (.int .i64 0), .v (.int .i64 0), .v (.int .i64 0)])
theorem e_fuse_each (F : Nat) (a0 : Int) (a1 : Int) (a2 : Int) (a3 : Int) (a4 : Int) (a5 : Int) (a6 : Int) (a7 : Int) (a8 : Int) (a9 : Int) (a10 : Int) : funL PP (S_fuse_each F) c_fuse_each (I_fuse_each F) (J_fuse_each F) 32 (fTs ti_fuse_each [.i a0, .i a1, .i a2, .i a3, .i a4, .i a5, .i a6, .i a7, .i a8, .i a9, .i a10]).1 = f_fuse_each F a0 a1 a2 a3 a4 a5 a6 a7 a8 a9 a10 := by
  have h : ∀ (ok_fuse_Rule_pulled : Nat → Int → Int → Int → Int → Int → Int → Bool) (o_fuse_Rule_pulled_0 : Nat → Int → Int → Int → Int → Int → Int → Int) (L_fuse_each_0 : Nat → (Int → Int → Int → Int → Int → Int → Int → Int → Int → Int → Int → Int → Int → Int → Int → Int → Int → Int → Int → Int → Int → Int → Int → Int → List VV → R) → Nat → Int → Int → Int → Int → Int → Int → Int → Int → Int → Int → Int → Int → Int → Int → Int → Int → Int → Int → Int → Int → Int → Int → Int → Int → List VV → R), funL PP (words [(33, spec ti_fuse_Rule_pulled to_fuse_Rule_pulled (fun q => (ok_fuse_Rule_pulled F (atI (nth q 0)) (atI (nth q 1)) (atI (nth q 2)) (atI (nth q 3)) (atI (nth q 4)) (atI (nth q 5)))) (fun q => [.i (o_fuse_Rule_pulled_0 F (atI (nth q 0)) (atI (nth q 1)) (atI (nth q 2)) (atI (nth q 3)) (atI (nth q 4)) (atI (nth q 5)))]))]) c_fuse_each (tabI c_fuse_each [⟨0, T_fuse_each_0, fun k q => L_fuse_each_0 F (fun (z0 : Int) (z1 : Int) (z2 : Int) (z3 : Int) (z4 : Int) (z5 : Int) (z6 : Int) (z7 : Int) (z8 : Int) (z9 : Int) (z10 : Int) (z11 : Int) (z12 : Int) (z13 : Int) (z14 : Int) (z15 : Int) (z16 : Int) (z17 : Int) (z18 : Int) (z19 : Int) (z20 : Int) (z21 : Int) (z22 : Int) (z23 : Int) (z24 : List VV) => k (.exit 0) (fS T_fuse_each_0_0 [.i z0, .i z1, .i z2, .i z3, .i z4, .i z5, .i z6, .i z7, .i z8, .i z9, .i z10, .i z11, .i z12, .i z13, .i z14, .i z15, .i z16, .i z17, .i z18, .i z19, .i z20, .i z21, .i z22, .i z23, .c z24])) F (atI (nth q 0)) (atI (nth q 1)) (atI (nth q 2)) (atI (nth q 3)) (atI (nth q 4)) (atI (nth q 5)) (atI (nth q 6)) (atI (nth q 7)) (atI (nth q 8)) (atI (nth q 9)) (atI (nth q 10)) (atI (nth q 11)) (atI (nth q 12)) (atI (nth q 13)) (atI (nth q 14)) (atI (nth q 15)) (atI (nth q 16)) (atI (nth q 17)) (atI (nth q 18)) (atI (nth q 19)) (atI (nth q 20)) (atI (nth q 21)) (atI (nth q 22)) (atI (nth q 23)) (atC (nth q 24))⟩]) (tabJ []) 32 (fTs ti_fuse_each [.i a0, .i a1, .i a2, .i a3, .i a4, .i a5, .i a6, .i a7, .i a8, .i a9, .i a10]).1 = (
  L_fuse_each_0 F (fun (v3215 : Int) (v3216 : Int) (v3217 : Int) (v3218 : Int) (v3219 : Int) (v3220 : Int) (v3221 : Int) (v3222 : Int) (v3223 : Int) (v3224 : Int) (v3225 : Int) (v3226 : Int) (v3227 : Int) (v3228 : Int) (v3229 : Int) (v3230 : Int) (v3231 : Int) (v3232 : Int) (v3233 : Int) (v3234 : Int) (v3235 : Int) (v3236 : Int) (v3237 : Int) (v3238 : Int) (v3239 : List VV) =>
    bif ((isI .i64 v3239[0]?) && ((isI .i64 v3239[1]?) && ((isI .i64 v3239[2]?) && true))) then (
      some (.v (.agg #[.int .i64 ((iv v3239[0]?)), .int .i64 ((iv v3239[1]?)), .int .i64 ((iv v3239[2]?))])))
    else (
      none)) F a0 a1 a2 a3 a4 a5 a6 a7 a8 a9 a10 a4 a5 a6 0 a4 a5 a6 a7 a8 a9 0 0 0 ([.v (.int .i64 0), .v (.int .i64 0), .v (.int .i64 0)]) : R) := by
    intros
    kernel_rfl
  exact (h ok_fuse_Rule_pulled o_fuse_Rule_pulled_0 L_fuse_each_0).trans (by kernel_rfl)
def ok_fuse_each (F : Nat) (a0 : Int) (a1 : Int) (a2 : Int) (a3 : Int) (a4 : Int) (a5 : Int) (a6 : Int) (a7 : Int) (a8 : Int) (a9 : Int) (a10 : Int) : Bool := okT to_fuse_each (f_fuse_each F a0 a1 a2 a3 a4 a5 a6 a7 a8 a9 a10)
def o_fuse_each_0 (F : Nat) (a0 : Int) (a1 : Int) (a2 : Int) (a3 : Int) (a4 : Int) (a5 : Int) (a6 : Int) (a7 : Int) (a8 : Int) (a9 : Int) (a10 : Int) : Int := atI (nth (outT to_fuse_each (f_fuse_each F a0 a1 a2 a3 a4 a5 a6 a7 a8 a9 a10)) 0)
def o_fuse_each_1 (F : Nat) (a0 : Int) (a1 : Int) (a2 : Int) (a3 : Int) (a4 : Int) (a5 : Int) (a6 : Int) (a7 : Int) (a8 : Int) (a9 : Int) (a10 : Int) : Int := atI (nth (outT to_fuse_each (f_fuse_each F a0 a1 a2 a3 a4 a5 a6 a7 a8 a9 a10)) 1)
def o_fuse_each_2 (F : Nat) (a0 : Int) (a1 : Int) (a2 : Int) (a3 : Int) (a4 : Int) (a5 : Int) (a6 : Int) (a7 : Int) (a8 : Int) (a9 : Int) (a10 : Int) : Int := atI (nth (outT to_fuse_each (f_fuse_each F a0 a1 a2 a3 a4 a5 a6 a7 a8 a9 a10)) 2)
theorem k_fuse_each (F : Nat) (a0 : Int) (a1 : Int) (a2 : Int) (a3 : Int) (a4 : Int) (a5 : Int) (a6 : Int) (a7 : Int) (a8 : Int) (a9 : Int) (a10 : Int) {z0 : Int} {z1 : Int} {z2 : Int} (h : f_fuse_each F a0 a1 a2 a3 a4 a5 a6 a7 a8 a9 a10 = some (.v (.agg #[.int .i64 z0, .int .i64 z1, .int .i64 z2]))) : ok_fuse_each F a0 a1 a2 a3 a4 a5 a6 a7 a8 a9 a10 = true ∧ o_fuse_each_0 F a0 a1 a2 a3 a4 a5 a6 a7 a8 a9 a10 = z0 ∧ o_fuse_each_1 F a0 a1 a2 a3 a4 a5 a6 a7 a8 a9 a10 = z1 ∧ o_fuse_each_2 F a0 a1 a2 a3 a4 a5 a6 a7 a8 a9 a10 = z2 := by
  refine ⟨?_, ?_, ?_, ?_⟩
  · unfold ok_fuse_each; rw [h]; kernel_rfl
  · unfold o_fuse_each_0; rw [h]; kernel_rfl
  · unfold o_fuse_each_1; rw [h]; kernel_rfl
  · unfold o_fuse_each_2; rw [h]; kernel_rfl
def s_fuse_each (F : Nat) : List VV → Option (Bool × VV) := spec ti_fuse_each to_fuse_each (fun q => (ok_fuse_each F (atI (nth q 0)) (atI (nth q 1)) (atI (nth q 2)) (atI (nth q 3)) (atI (nth q 4)) (atI (nth q 5)) (atI (nth q 6)) (atI (nth q 7)) (atI (nth q 8)) (atI (nth q 9)) (atI (nth q 10)))) (fun q => [.i (o_fuse_each_0 F (atI (nth q 0)) (atI (nth q 1)) (atI (nth q 2)) (atI (nth q 3)) (atI (nth q 4)) (atI (nth q 5)) (atI (nth q 6)) (atI (nth q 7)) (atI (nth q 8)) (atI (nth q 9)) (atI (nth q 10))), .i (o_fuse_each_1 F (atI (nth q 0)) (atI (nth q 1)) (atI (nth q 2)) (atI (nth q 3)) (atI (nth q 4)) (atI (nth q 5)) (atI (nth q 6)) (atI (nth q 7)) (atI (nth q 8)) (atI (nth q 9)) (atI (nth q 10))), .i (o_fuse_each_2 F (atI (nth q 0)) (atI (nth q 1)) (atI (nth q 2)) (atI (nth q 3)) (atI (nth q 4)) (atI (nth q 5)) (atI (nth q 6)) (atI (nth q 7)) (atI (nth q 8)) (atI (nth q 9)) (atI (nth q 10)))])
theorem hS_fuse_each (F : Nat) : ∀ f, Good PP f (unS (S_fuse_each F f)) := words_good fun p hp => by
  simp only [List.mem_cons, List.not_mem_nil, or_false] at hp
  rcases hp with rfl
  · exact g_fuse_Rule_pulled F
theorem hl_fuse_each (F : Nat) : ∀ p ∈ loopsIn PP 32, LoopOK PP (S_fuse_each F) c_fuse_each F (I_fuse_each F) (J_fuse_each F) p :=
  loops_of [(0, loopAt PP 32 0)] (by kernel_rfl) (all_cons
    (loop_ok (W_fuse_each F) rfl (tab_cons (fun _ k q => Le.ofEq ((lL_fuse_each_0 F k F (atI (nth q 0)) (atI (nth q 1)) (atI (nth q 2)) (atI (nth q 3)) (atI (nth q 4)) (atI (nth q 5)) (atI (nth q 6)) (atI (nth q 7)) (atI (nth q 8)) (atI (nth q 9)) (atI (nth q 10)) (atI (nth q 11)) (atI (nth q 12)) (atI (nth q 13)) (atI (nth q 14)) (atI (nth q 15)) (atI (nth q 16)) (atI (nth q 17)) (atI (nth q 18)) (atI (nth q 19)) (atI (nth q 20)) (atI (nth q 21)) (atI (nth q 22)) (atI (nth q 23)) (atC (nth q 24))).symm.trans (congrArg (iterC (codeL PP (S_fuse_each F) c_fuse_each (I_fuse_each F) (J_fuse_each F) (loopAt PP 32 0) 0) (headOf c_fuse_each 0) k F) (show fS T_fuse_each_0 [.i (atI (nth q 0)), .i (atI (nth q 1)), .i (atI (nth q 2)), .i (atI (nth q 3)), .i (atI (nth q 4)), .i (atI (nth q 5)), .i (atI (nth q 6)), .i (atI (nth q 7)), .i (atI (nth q 8)), .i (atI (nth q 9)), .i (atI (nth q 10)), .i (atI (nth q 11)), .i (atI (nth q 12)), .i (atI (nth q 13)), .i (atI (nth q 14)), .i (atI (nth q 15)), .i (atI (nth q 16)), .i (atI (nth q 17)), .i (atI (nth q 18)), .i (atI (nth q 19)), .i (atI (nth q 20)), .i (atI (nth q 21)), .i (atI (nth q 22)), .i (atI (nth q 23)), .c (atC (nth q 24))] = fS T_fuse_each_0 q by kernel_rfl)))) tab_nil)) all_nil)
theorem hj_fuse_each (F : Nat) : ∀ p ∈ joinsIn PP c_fuse_each 32, JoinOK PP (S_fuse_each F) c_fuse_each (I_fuse_each F) (J_fuse_each F) p :=
  joins_of [] (by kernel_rfl) all_nil
theorem g_fuse_each (F : Nat) : Good PP 32 (unS (s_fuse_each F)) :=
  fun_spec (hS_fuse_each F) (by kernel_rfl) (by kernel_rfl) (C := c_fuse_each) (F := fun q => (f_fuse_each F (atI (nth q 0)) (atI (nth q 1)) (atI (nth q 2)) (atI (nth q 3)) (atI (nth q 4)) (atI (nth q 5)) (atI (nth q 6)) (atI (nth q 7)) (atI (nth q 8)) (atI (nth q 9)) (atI (nth q 10)))) (fun _ => F) (fun _ => I_fuse_each F) (fun _ => J_fuse_each F) (fun _ => hl_fuse_each F) (fun _ => hj_fuse_each F)
    (fun q => (congrArg (funL PP (S_fuse_each F) c_fuse_each (I_fuse_each F) (J_fuse_each F) 32) (show (fTs ti_fuse_each q).1 = (fTs ti_fuse_each [.i (atI (nth q 0)), .i (atI (nth q 1)), .i (atI (nth q 2)), .i (atI (nth q 3)), .i (atI (nth q 4)), .i (atI (nth q 5)), .i (atI (nth q 6)), .i (atI (nth q 7)), .i (atI (nth q 8)), .i (atI (nth q 9)), .i (atI (nth q 10))]).1 by kernel_rfl)).trans (e_fuse_each F (atI (nth q 0)) (atI (nth q 1)) (atI (nth q 2)) (atI (nth q 3)) (atI (nth q 4)) (atI (nth q 5)) (atI (nth q 6)) (atI (nth q 7)) (atI (nth q 8)) (atI (nth q 9)) (atI (nth q 10))))
    (fun _ h => (okT_fill h).trans (congrArg some (by kernel_rfl)))

end Go.Xv
set_option linter.unusedVariables false
namespace Go.Xv
/- 11 _fuse_Pull -/
def c_fuse_Pull : Cfg := ⟨[0, 1, 2, 3, 4, 5, 6, 7, 10, 11, 24], [], [], []⟩
def ti_fuse_Pull : List TV := [.v (.agg [.int .i64, .int .i64, .int .i64, .int .i64]), .v (.agg [.int .i64, .int .i64, .int .i64, .int .i64]), .v (.agg [.int .i64, .int .i64, .int .i64]), .v (.int .i64), .v (.int .i64)]
def to_fuse_Pull : TV := .v (.tup [.agg [.int .i64, .int .i64, .int .i64, .int .i64], .int .i64])
def S_fuse_Pull (F : Nat) : FuncId → List VV → Option (Bool × VV) := words [(31, s_fuse_may F), (32, s_fuse_each F)]
def W_fuse_Pull (F : Nat) : List LW := []
def I_fuse_Pull (F : Nat) : Nat → VS → (Exit → VS → R) → R := tabI c_fuse_Pull (W_fuse_Pull F)
def WJ_fuse_Pull (F : Nat) : List LJ := []
def J_fuse_Pull (F : Nat) : Nat → Nat → VS → (Exit → VS → R) → R := tabJ (WJ_fuse_Pull F)
def f_fuse_Pull (F : Nat) (a0 : Int) (a1 : Int) (a2 : Int) (a3 : Int) (a4 : Int) (a5 : Int) (a6 : Int) (a7 : Int) (a8 : Int) (a9 : Int) (a10 : Int) (a11 : Int) (a12 : Int) : R :=
  bif (ok_fuse_may F a0 a1 a2 a3 a4 a5 a6 a7 a12) then (
    bif ((!((o_fuse_may_0 F a0 a1 a2 a3 a4 a5 a6 a7 a12)))) then (
      some (.v (.tuple #[.agg #[.int .i64 0, .int .i64 0, .int .i64 0, .int .i64 0], .int .i64 2])))
    else (
      bif ((decide (a11 < 0))) then (
        some (.v (.tuple #[.agg #[.int .i64 0, .int .i64 0, .int .i64 0, .int .i64 0], .int .i64 2])))
      else (
        bif ((decide (a11 > 3))) then (
          some (.v (.tuple #[.agg #[.int .i64 0, .int .i64 0, .int .i64 0, .int .i64 0], .int .i64 2])))
        else (
          bif (ok_fuse_each F a0 a1 a2 a3 a4 a5 a6 a8 a9 a10 a11) then (
            some (.v (.tuple #[.agg #[.int .i64 ((o_fuse_each_0 F a0 a1 a2 a3 a4 a5 a6 a8 a9 a10 a11)), .int .i64 ((o_fuse_each_1 F a0 a1 a2 a3 a4 a5 a6 a8 a9 a10 a11)), .int .i64 ((o_fuse_each_2 F a0 a1 a2 a3 a4 a5 a6 a8 a9 a10 a11)), .int .i64 a12], .int .i64 0])))
          else (
            none)))))
  else (
    none)
theorem e_fuse_Pull (F : Nat) (a0 : Int) (a1 : Int) (a2 : Int) (a3 : Int) (a4 : Int) (a5 : Int) (a6 : Int) (a7 : Int) (a8 : Int) (a9 : Int) (a10 : Int) (a11 : Int) (a12 : Int) : funL PP (S_fuse_Pull F) c_fuse_Pull (I_fuse_Pull F) (J_fuse_Pull F) 11 (fTs ti_fuse_Pull [.i a0, .i a1, .i a2, .i a3, .i a4, .i a5, .i a6, .i a7, .i a8, .i a9, .i a10, .i a11, .i a12]).1 = f_fuse_Pull F a0 a1 a2 a3 a4 a5 a6 a7 a8 a9 a10 a11 a12 := by
  have h : ∀ (ok_fuse_may : Nat → Int → Int → Int → Int → Int → Int → Int → Int → Int → Bool) (o_fuse_may_0 : Nat → Int → Int → Int → Int → Int → Int → Int → Int → Int → Bool) (ok_fuse_each : Nat → Int → Int → Int → Int → Int → Int → Int → Int → Int → Int → Int → Bool) (o_fuse_each_0 : Nat → Int → Int → Int → Int → Int → Int → Int → Int → Int → Int → Int → Int) (o_fuse_each_1 : Nat → Int → Int → Int → Int → Int → Int → Int → Int → Int → Int → Int → Int) (o_fuse_each_2 : Nat → Int → Int → Int → Int → Int → Int → Int → Int → Int → Int → Int → Int), funL PP (words [(31, spec ti_fuse_may to_fuse_may (fun q => (ok_fuse_may F (atI (nth q 0)) (atI (nth q 1)) (atI (nth q 2)) (atI (nth q 3)) (atI (nth q 4)) (atI (nth q 5)) (atI (nth q 6)) (atI (nth q 7)) (atI (nth q 8)))) (fun q => [.b (o_fuse_may_0 F (atI (nth q 0)) (atI (nth q 1)) (atI (nth q 2)) (atI (nth q 3)) (atI (nth q 4)) (atI (nth q 5)) (atI (nth q 6)) (atI (nth q 7)) (atI (nth q 8)))])), (32, spec ti_fuse_each to_fuse_each (fun q => (ok_fuse_each F (atI (nth q 0)) (atI (nth q 1)) (atI (nth q 2)) (atI (nth q 3)) (atI (nth q 4)) (atI (nth q 5)) (atI (nth q 6)) (atI (nth q 7)) (atI (nth q 8)) (atI (nth q 9)) (atI (nth q 10)))) (fun q => [.i (o_fuse_each_0 F (atI (nth q 0)) (atI (nth q 1)) (atI (nth q 2)) (atI (nth q 3)) (atI (nth q 4)) (atI (nth q 5)) (atI (nth q 6)) (atI (nth q 7)) (atI (nth q 8)) (atI (nth q 9)) (atI (nth q 10))), .i (o_fuse_each_1 F (atI (nth q 0)) (atI (nth q 1)) (atI (nth q 2)) (atI (nth q 3)) (atI (nth q 4)) (atI (nth q 5)) (atI (nth q 6)) (atI (nth q 7)) (atI (nth q 8)) (atI (nth q 9)) (atI (nth q 10))), .i (o_fuse_each_2 F (atI (nth q 0)) (atI (nth q 1)) (atI (nth q 2)) (atI (nth q 3)) (atI (nth q 4)) (atI (nth q 5)) (atI (nth q 6)) (atI (nth q 7)) (atI (nth q 8)) (atI (nth q 9)) (atI (nth q 10)))]))]) c_fuse_Pull (tabI c_fuse_Pull []) (tabJ []) 11 (fTs ti_fuse_Pull [.i a0, .i a1, .i a2, .i a3, .i a4, .i a5, .i a6, .i a7, .i a8, .i a9, .i a10, .i a11, .i a12]).1 = (
  bif (ok_fuse_may F a0 a1 a2 a3 a4 a5 a6 a7 a12) then (
    bif ((!((o_fuse_may_0 F a0 a1 a2 a3 a4 a5 a6 a7 a12)))) then (
      some (.v (.tuple #[.agg #[.int .i64 0, .int .i64 0, .int .i64 0, .int .i64 0], .int .i64 2])))
    else (
      bif ((decide (a11 < 0))) then (
        some (.v (.tuple #[.agg #[.int .i64 0, .int .i64 0, .int .i64 0, .int .i64 0], .int .i64 2])))
      else (
        bif ((decide (a11 > 3))) then (
          some (.v (.tuple #[.agg #[.int .i64 0, .int .i64 0, .int .i64 0, .int .i64 0], .int .i64 2])))
        else (
          bif (ok_fuse_each F a0 a1 a2 a3 a4 a5 a6 a8 a9 a10 a11) then (
            some (.v (.tuple #[.agg #[.int .i64 ((o_fuse_each_0 F a0 a1 a2 a3 a4 a5 a6 a8 a9 a10 a11)), .int .i64 ((o_fuse_each_1 F a0 a1 a2 a3 a4 a5 a6 a8 a9 a10 a11)), .int .i64 ((o_fuse_each_2 F a0 a1 a2 a3 a4 a5 a6 a8 a9 a10 a11)), .int .i64 a12], .int .i64 0])))
          else (
            none)))))
  else (
    none) : R) := by
    intros
    kernel_rfl
  exact (h ok_fuse_may o_fuse_may_0 ok_fuse_each o_fuse_each_0 o_fuse_each_1 o_fuse_each_2).trans (by kernel_rfl)
def ok_fuse_Pull (F : Nat) (a0 : Int) (a1 : Int) (a2 : Int) (a3 : Int) (a4 : Int) (a5 : Int) (a6 : Int) (a7 : Int) (a8 : Int) (a9 : Int) (a10 : Int) (a11 : Int) (a12 : Int) : Bool := okT to_fuse_Pull (f_fuse_Pull F a0 a1 a2 a3 a4 a5 a6 a7 a8 a9 a10 a11 a12)
def o_fuse_Pull_0 (F : Nat) (a0 : Int) (a1 : Int) (a2 : Int) (a3 : Int) (a4 : Int) (a5 : Int) (a6 : Int) (a7 : Int) (a8 : Int) (a9 : Int) (a10 : Int) (a11 : Int) (a12 : Int) : Int := atI (nth (outT to_fuse_Pull (f_fuse_Pull F a0 a1 a2 a3 a4 a5 a6 a7 a8 a9 a10 a11 a12)) 0)
def o_fuse_Pull_1 (F : Nat) (a0 : Int) (a1 : Int) (a2 : Int) (a3 : Int) (a4 : Int) (a5 : Int) (a6 : Int) (a7 : Int) (a8 : Int) (a9 : Int) (a10 : Int) (a11 : Int) (a12 : Int) : Int := atI (nth (outT to_fuse_Pull (f_fuse_Pull F a0 a1 a2 a3 a4 a5 a6 a7 a8 a9 a10 a11 a12)) 1)
def o_fuse_Pull_2 (F : Nat) (a0 : Int) (a1 : Int) (a2 : Int) (a3 : Int) (a4 : Int) (a5 : Int) (a6 : Int) (a7 : Int) (a8 : Int) (a9 : Int) (a10 : Int) (a11 : Int) (a12 : Int) : Int := atI (nth (outT to_fuse_Pull (f_fuse_Pull F a0 a1 a2 a3 a4 a5 a6 a7 a8 a9 a10 a11 a12)) 2)
def o_fuse_Pull_3 (F : Nat) (a0 : Int) (a1 : Int) (a2 : Int) (a3 : Int) (a4 : Int) (a5 : Int) (a6 : Int) (a7 : Int) (a8 : Int) (a9 : Int) (a10 : Int) (a11 : Int) (a12 : Int) : Int := atI (nth (outT to_fuse_Pull (f_fuse_Pull F a0 a1 a2 a3 a4 a5 a6 a7 a8 a9 a10 a11 a12)) 3)
def o_fuse_Pull_4 (F : Nat) (a0 : Int) (a1 : Int) (a2 : Int) (a3 : Int) (a4 : Int) (a5 : Int) (a6 : Int) (a7 : Int) (a8 : Int) (a9 : Int) (a10 : Int) (a11 : Int) (a12 : Int) : Int := atI (nth (outT to_fuse_Pull (f_fuse_Pull F a0 a1 a2 a3 a4 a5 a6 a7 a8 a9 a10 a11 a12)) 4)
theorem k_fuse_Pull (F : Nat) (a0 : Int) (a1 : Int) (a2 : Int) (a3 : Int) (a4 : Int) (a5 : Int) (a6 : Int) (a7 : Int) (a8 : Int) (a9 : Int) (a10 : Int) (a11 : Int) (a12 : Int) {z0 : Int} {z1 : Int} {z2 : Int} {z3 : Int} {z4 : Int} (h : f_fuse_Pull F a0 a1 a2 a3 a4 a5 a6 a7 a8 a9 a10 a11 a12 = some (.v (.tuple #[.agg #[.int .i64 z0, .int .i64 z1, .int .i64 z2, .int .i64 z3], .int .i64 z4]))) : ok_fuse_Pull F a0 a1 a2 a3 a4 a5 a6 a7 a8 a9 a10 a11 a12 = true ∧ o_fuse_Pull_0 F a0 a1 a2 a3 a4 a5 a6 a7 a8 a9 a10 a11 a12 = z0 ∧ o_fuse_Pull_1 F a0 a1 a2 a3 a4 a5 a6 a7 a8 a9 a10 a11 a12 = z1 ∧ o_fuse_Pull_2 F a0 a1 a2 a3 a4 a5 a6 a7 a8 a9 a10 a11 a12 = z2 ∧ o_fuse_Pull_3 F a0 a1 a2 a3 a4 a5 a6 a7 a8 a9 a10 a11 a12 = z3 ∧ o_fuse_Pull_4 F a0 a1 a2 a3 a4 a5 a6 a7 a8 a9 a10 a11 a12 = z4 := by
  refine ⟨?_, ?_, ?_, ?_, ?_, ?_⟩
  · unfold ok_fuse_Pull; rw [h]; kernel_rfl
  · unfold o_fuse_Pull_0; rw [h]; kernel_rfl
  · unfold o_fuse_Pull_1; rw [h]; kernel_rfl
  · unfold o_fuse_Pull_2; rw [h]; kernel_rfl
  · unfold o_fuse_Pull_3; rw [h]; kernel_rfl
  · unfold o_fuse_Pull_4; rw [h]; kernel_rfl
def s_fuse_Pull (F : Nat) : List VV → Option (Bool × VV) := spec ti_fuse_Pull to_fuse_Pull (fun q => (ok_fuse_Pull F (atI (nth q 0)) (atI (nth q 1)) (atI (nth q 2)) (atI (nth q 3)) (atI (nth q 4)) (atI (nth q 5)) (atI (nth q 6)) (atI (nth q 7)) (atI (nth q 8)) (atI (nth q 9)) (atI (nth q 10)) (atI (nth q 11)) (atI (nth q 12)))) (fun q => [.i (o_fuse_Pull_0 F (atI (nth q 0)) (atI (nth q 1)) (atI (nth q 2)) (atI (nth q 3)) (atI (nth q 4)) (atI (nth q 5)) (atI (nth q 6)) (atI (nth q 7)) (atI (nth q 8)) (atI (nth q 9)) (atI (nth q 10)) (atI (nth q 11)) (atI (nth q 12))), .i (o_fuse_Pull_1 F (atI (nth q 0)) (atI (nth q 1)) (atI (nth q 2)) (atI (nth q 3)) (atI (nth q 4)) (atI (nth q 5)) (atI (nth q 6)) (atI (nth q 7)) (atI (nth q 8)) (atI (nth q 9)) (atI (nth q 10)) (atI (nth q 11)) (atI (nth q 12))), .i (o_fuse_Pull_2 F (atI (nth q 0)) (atI (nth q 1)) (atI (nth q 2)) (atI (nth q 3)) (atI (nth q 4)) (atI (nth q 5)) (atI (nth q 6)) (atI (nth q 7)) (atI (nth q 8)) (atI (nth q 9)) (atI (nth q 10)) (atI (nth q 11)) (atI (nth q 12))), .i (o_fuse_Pull_3 F (atI (nth q 0)) (atI (nth q 1)) (atI (nth q 2)) (atI (nth q 3)) (atI (nth q 4)) (atI (nth q 5)) (atI (nth q 6)) (atI (nth q 7)) (atI (nth q 8)) (atI (nth q 9)) (atI (nth q 10)) (atI (nth q 11)) (atI (nth q 12))), .i (o_fuse_Pull_4 F (atI (nth q 0)) (atI (nth q 1)) (atI (nth q 2)) (atI (nth q 3)) (atI (nth q 4)) (atI (nth q 5)) (atI (nth q 6)) (atI (nth q 7)) (atI (nth q 8)) (atI (nth q 9)) (atI (nth q 10)) (atI (nth q 11)) (atI (nth q 12)))])
theorem hS_fuse_Pull (F : Nat) : ∀ f, Good PP f (unS (S_fuse_Pull F f)) := words_good fun p hp => by
  simp only [List.mem_cons, List.not_mem_nil, or_false] at hp
  rcases hp with rfl | rfl
  · exact g_fuse_may F
  · exact g_fuse_each F
theorem hl_fuse_Pull (F : Nat) : ∀ p ∈ loopsIn PP 11, LoopOK PP (S_fuse_Pull F) c_fuse_Pull F (I_fuse_Pull F) (J_fuse_Pull F) p :=
  loops_of [] (by kernel_rfl) all_nil
theorem hj_fuse_Pull (F : Nat) : ∀ p ∈ joinsIn PP c_fuse_Pull 11, JoinOK PP (S_fuse_Pull F) c_fuse_Pull (I_fuse_Pull F) (J_fuse_Pull F) p :=
  joins_of [] (by kernel_rfl) all_nil
theorem g_fuse_Pull (F : Nat) : Good PP 11 (unS (s_fuse_Pull F)) :=
  fun_spec (hS_fuse_Pull F) (by kernel_rfl) (by kernel_rfl) (C := c_fuse_Pull) (F := fun q => (f_fuse_Pull F (atI (nth q 0)) (atI (nth q 1)) (atI (nth q 2)) (atI (nth q 3)) (atI (nth q 4)) (atI (nth q 5)) (atI (nth q 6)) (atI (nth q 7)) (atI (nth q 8)) (atI (nth q 9)) (atI (nth q 10)) (atI (nth q 11)) (atI (nth q 12)))) (fun _ => F) (fun _ => I_fuse_Pull F) (fun _ => J_fuse_Pull F) (fun _ => hl_fuse_Pull F) (fun _ => hj_fuse_Pull F)
    (fun q => (congrArg (funL PP (S_fuse_Pull F) c_fuse_Pull (I_fuse_Pull F) (J_fuse_Pull F) 11) (show (fTs ti_fuse_Pull q).1 = (fTs ti_fuse_Pull [.i (atI (nth q 0)), .i (atI (nth q 1)), .i (atI (nth q 2)), .i (atI (nth q 3)), .i (atI (nth q 4)), .i (atI (nth q 5)), .i (atI (nth q 6)), .i (atI (nth q 7)), .i (atI (nth q 8)), .i (atI (nth q 9)), .i (atI (nth q 10)), .i (atI (nth q 11)), .i (atI (nth q 12))]).1 by kernel_rfl)).trans (e_fuse_Pull F (atI (nth q 0)) (atI (nth q 1)) (atI (nth q 2)) (atI (nth q 3)) (atI (nth q 4)) (atI (nth q 5)) (atI (nth q 6)) (atI (nth q 7)) (atI (nth q 8)) (atI (nth q 9)) (atI (nth q 10)) (atI (nth q 11)) (atI (nth q 12))))
    (fun _ h => (okT_fill h).trans (congrArg some (by kernel_rfl)))

end Go.Xv
set_option linter.unusedVariables false
namespace Go.Xv
/- 40 _fix_Sum -/
def c_fix_Sum : Cfg := ⟨[0, 2, 3, 4, 6, 7, 8, 9, 10], [(0, [0, 2, 3, 4, 7, 8, 9, 18, 19, 20, 21])], [15], []⟩
def ti_fix_Sum : List TV := [.fs (.lit 0) .hole 1]
def to_fix_Sum : TV := .v (.tup [.int .i64, .bool])
def S_fix_Sum (F : Nat) : FuncId → List VV → Option (Bool × VV) := words [(67, s_fix_of F), (66, s_wide_Add F), (68, s_fix_clip F)]
def T_fix_Sum_0 : TS := ⟨[(0, .fs (.lit 0) .hole 1), (2, .v (.int .i64)), (3, .v (.bool)), (4, .lp 0 (.lit 0)), (7, .fs (.lit 0) .hole 1), (8, .v (.int .i64)), (9, .v (.int .i64))], [(0, ⟨(.ex [.v (.int .i64), .v (.int .u64)]), true⟩)], 1⟩
def T_fix_Sum_0_0 : TS := ⟨[(0, .fs (.lit 0) .hole 1), (2, .v (.int .i64)), (3, .v (.bool)), (4, .lp 0 (.lit 0)), (7, .fs (.lit 0) .hole 1), (8, .v (.int .i64)), (9, .v (.int .i64))], [(0, ⟨(.ex [.v (.int .i64), .v (.int .u64)]), true⟩)], 1⟩
def B_fix_Sum_0 (F : Nat) (rc : List VV → Nat → Int → Bool → List VV → Nat → Int → Int → Int → Int → R) (ex0 : List VV → Nat → Int → Bool → List VV → Nat → Int → Int → Int → Int → R) (x0 : List VV) (x1 : Nat) (x2 : Int) (x3 : Bool) (x4 : List VV) (x5 : Nat) (x6 : Int) (x7 : Int) (x8 : Int) (x9 : Int) : R :=
  bif ((decide (x7 < x6))) then (
    bif ((decide (0 ≤ x7)) && (decide (x7 < ((x5 : Nat) : Int)))) then (
      let v3281 : Nat := (0 + ((Int.toNat x7) * 1))
      bif ((isI .i64 x4[v3281]?) && true) then (
        let v3282 : Int := (iv x4[v3281]?)
        bif (ok_fix_of F v3282) then (
          let v3283 : Int := (o_fix_of_0 F v3282)
          let v3284 : Int := (o_fix_of_1 F v3282)
          bif (ok_wide_Add F x8 x9 v3283 v3284) then (
            rc x0 x1 x2 x3 x4 x5 x6 ((IntKind.wrap .i64 (x7 + 1))) ((o_wide_Add_0 F x8 x9 v3283 v3284)) ((o_wide_Add_1 F x8 x9 v3283 v3284)))
          else (
            none))
        else (
          none))
      else (
        none))
    else (
      none))
  else (
    ex0 x0 x1 x2 x3 x4 x5 x6 x7 x8 x9)
def L_fix_Sum_0 (F : Nat) (ex0 : List VV → Nat → Int → Bool → List VV → Nat → Int → Int → Int → Int → R) : Nat → List VV → Nat → Int → Bool → List VV → Nat → Int → Int → Int → Int → R
  | 0, _, _, _, _, _, _, _, _, _, _ => none
  | n + 1, x0, x1, x2, x3, x4, x5, x6, x7, x8, x9 => B_fix_Sum_0 F (L_fix_Sum_0 F ex0 n) ex0 x0 x1 x2 x3 x4 x5 x6 x7 x8 x9
def W_fix_Sum (F : Nat) : List LW := [⟨0, T_fix_Sum_0, fun k q => L_fix_Sum_0 F (fun (z0 : List VV) (z1 : Nat) (z2 : Int) (z3 : Bool) (z4 : List VV) (z5 : Nat) (z6 : Int) (z7 : Int) (z8 : Int) (z9 : Int) => k (.exit 0) (fS T_fix_Sum_0_0 [.c z0, .n z1, .i z2, .b z3, .c z4, .n z5, .i z6, .i z7, .i z8, .i z9])) F (atC (nth q 0)) (atN (nth q 1)) (atI (nth q 2)) (atB (nth q 3)) (atC (nth q 4)) (atN (nth q 5)) (atI (nth q 6)) (atI (nth q 7)) (atI (nth q 8)) (atI (nth q 9))⟩]
def I_fix_Sum (F : Nat) : Nat → VS → (Exit → VS → R) → R := tabI c_fix_Sum (W_fix_Sum F)
def WJ_fix_Sum (F : Nat) : List LJ := []
def J_fix_Sum (F : Nat) : Nat → Nat → VS → (Exit → VS → R) → R := tabJ (WJ_fix_Sum F)
theorem lL_fix_Sum_0 (F : Nat) (k : Exit → VS → R) : ∀ (n : Nat) (x0 : List VV) (x1 : Nat) (x2 : Int) (x3 : Bool) (x4 : List VV) (x5 : Nat) (x6 : Int) (x7 : Int) (x8 : Int) (x9 : Int), iterC (codeL PP (S_fix_Sum F) c_fix_Sum (I_fix_Sum F) (J_fix_Sum F) (loopAt PP 40 0) 0) (headOf c_fix_Sum 0) k n (fS T_fix_Sum_0 [.c x0, .n x1, .i x2, .b x3, .c x4, .n x5, .i x6, .i x7, .i x8, .i x9]) = L_fix_Sum_0 F (fun (z0 : List VV) (z1 : Nat) (z2 : Int) (z3 : Bool) (z4 : List VV) (z5 : Nat) (z6 : Int) (z7 : Int) (z8 : Int) (z9 : Int) => k (.exit 0) (fS T_fix_Sum_0_0 [.c z0, .n z1, .i z2, .b z3, .c z4, .n z5, .i z6, .i z7, .i z8, .i z9])) n x0 x1 x2 x3 x4 x5 x6 x7 x8 x9
  | 0, _, _, _, _, _, _, _, _, _, _ => rfl
  | n + 1, x0, x1, x2, x3, x4, x5, x6, x7, x8, x9 => by
    have h0 : ∀ (ok_fix_of : Nat → Int → Bool) (o_fix_of_0 : Nat → Int → Int) (o_fix_of_1 : Nat → Int → Int) (ok_wide_Add : Nat → Int → Int → Int → Int → Bool) (o_wide_Add_0 : Nat → Int → Int → Int → Int → Int) (o_wide_Add_1 : Nat → Int → Int → Int → Int → Int) (ok_fix_clip : Nat → Int → Int → Bool) (o_fix_clip_0 : Nat → Int → Int → Int) (o_fix_clip_1 : Nat → Int → Int → Bool) (L_fix_Sum_0 : Nat → (List VV → Nat → Int → Bool → List VV → Nat → Int → Int → Int → Int → R) → Nat → List VV → Nat → Int → Bool → List VV → Nat → Int → Int → Int → Int → R), iterC (codeL PP (words [(67, spec ti_fix_of to_fix_of (fun q => (ok_fix_of F (atI (nth q 0)))) (fun q => [.i (o_fix_of_0 F (atI (nth q 0))), .i (o_fix_of_1 F (atI (nth q 0)))])), (66, spec ti_wide_Add to_wide_Add (fun q => (ok_wide_Add F (atI (nth q 0)) (atI (nth q 1)) (atI (nth q 2)) (atI (nth q 3)))) (fun q => [.i (o_wide_Add_0 F (atI (nth q 0)) (atI (nth q 1)) (atI (nth q 2)) (atI (nth q 3))), .i (o_wide_Add_1 F (atI (nth q 0)) (atI (nth q 1)) (atI (nth q 2)) (atI (nth q 3)))])), (68, spec ti_fix_clip to_fix_clip (fun q => (ok_fix_clip F (atI (nth q 0)) (atI (nth q 1)))) (fun q => [.i (o_fix_clip_0 F (atI (nth q 0)) (atI (nth q 1))), .b (o_fix_clip_1 F (atI (nth q 0)) (atI (nth q 1)))]))]) c_fix_Sum (tabI c_fix_Sum [⟨0, T_fix_Sum_0, fun k q => L_fix_Sum_0 F (fun (z0 : List VV) (z1 : Nat) (z2 : Int) (z3 : Bool) (z4 : List VV) (z5 : Nat) (z6 : Int) (z7 : Int) (z8 : Int) (z9 : Int) => k (.exit 0) (fS T_fix_Sum_0_0 [.c z0, .n z1, .i z2, .b z3, .c z4, .n z5, .i z6, .i z7, .i z8, .i z9])) F (atC (nth q 0)) (atN (nth q 1)) (atI (nth q 2)) (atB (nth q 3)) (atC (nth q 4)) (atN (nth q 5)) (atI (nth q 6)) (atI (nth q 7)) (atI (nth q 8)) (atI (nth q 9))⟩]) (tabJ []) (loopAt PP 40 0) 0) (headOf c_fix_Sum 0) k (n + 1) (fS T_fix_Sum_0 [.c x0, .n x1, .i x2, .b x3, .c x4, .n x5, .i x6, .i x7, .i x8, .i x9]) = (fun (rc : List VV → Nat → Int → Bool → List VV → Nat → Int → Int → Int → Int → R) (ex0 : List VV → Nat → Int → Bool → List VV → Nat → Int → Int → Int → Int → R) (x0 : List VV) (x1 : Nat) (x2 : Int) (x3 : Bool) (x4 : List VV) (x5 : Nat) (x6 : Int) (x7 : Int) (x8 : Int) (x9 : Int) => (
  bif ((decide (x7 < x6))) then (
    bif ((decide (0 ≤ x7)) && (decide (x7 < ((x5 : Nat) : Int)))) then (
      let v3281 : Nat := (0 + ((Int.toNat x7) * 1))
      bif ((isI .i64 x4[v3281]?) && true) then (
        let v3282 : Int := (iv x4[v3281]?)
        bif (ok_fix_of F v3282) then (
          let v3283 : Int := (o_fix_of_0 F v3282)
          let v3284 : Int := (o_fix_of_1 F v3282)
          bif (ok_wide_Add F x8 x9 v3283 v3284) then (
            rc x0 x1 x2 x3 x4 x5 x6 ((IntKind.wrap .i64 (x7 + 1))) ((o_wide_Add_0 F x8 x9 v3283 v3284)) ((o_wide_Add_1 F x8 x9 v3283 v3284)))
          else (
            none))
        else (
          none))
      else (
        none))
    else (
      none))
  else (
    ex0 x0 x1 x2 x3 x4 x5 x6 x7 x8 x9) : R)) (fun (y0 : List VV) (y1 : Nat) (y2 : Int) (y3 : Bool) (y4 : List VV) (y5 : Nat) (y6 : Int) (y7 : Int) (y8 : Int) (y9 : Int) => iterC (codeL PP (words [(67, spec ti_fix_of to_fix_of (fun q => (ok_fix_of F (atI (nth q 0)))) (fun q => [.i (o_fix_of_0 F (atI (nth q 0))), .i (o_fix_of_1 F (atI (nth q 0)))])), (66, spec ti_wide_Add to_wide_Add (fun q => (ok_wide_Add F (atI (nth q 0)) (atI (nth q 1)) (atI (nth q 2)) (atI (nth q 3)))) (fun q => [.i (o_wide_Add_0 F (atI (nth q 0)) (atI (nth q 1)) (atI (nth q 2)) (atI (nth q 3))), .i (o_wide_Add_1 F (atI (nth q 0)) (atI (nth q 1)) (atI (nth q 2)) (atI (nth q 3)))])), (68, spec ti_fix_clip to_fix_clip (fun q => (ok_fix_clip F (atI (nth q 0)) (atI (nth q 1)))) (fun q => [.i (o_fix_clip_0 F (atI (nth q 0)) (atI (nth q 1))), .b (o_fix_clip_1 F (atI (nth q 0)) (atI (nth q 1)))]))]) c_fix_Sum (tabI c_fix_Sum [⟨0, T_fix_Sum_0, fun k q => L_fix_Sum_0 F (fun (z0 : List VV) (z1 : Nat) (z2 : Int) (z3 : Bool) (z4 : List VV) (z5 : Nat) (z6 : Int) (z7 : Int) (z8 : Int) (z9 : Int) => k (.exit 0) (fS T_fix_Sum_0_0 [.c z0, .n z1, .i z2, .b z3, .c z4, .n z5, .i z6, .i z7, .i z8, .i z9])) F (atC (nth q 0)) (atN (nth q 1)) (atI (nth q 2)) (atB (nth q 3)) (atC (nth q 4)) (atN (nth q 5)) (atI (nth q 6)) (atI (nth q 7)) (atI (nth q 8)) (atI (nth q 9))⟩]) (tabJ []) (loopAt PP 40 0) 0) (headOf c_fix_Sum 0) k n (fS T_fix_Sum_0 [.c y0, .n y1, .i y2, .b y3, .c y4, .n y5, .i y6, .i y7, .i y8, .i y9])) (fun (z0 : List VV) (z1 : Nat) (z2 : Int) (z3 : Bool) (z4 : List VV) (z5 : Nat) (z6 : Int) (z7 : Int) (z8 : Int) (z9 : Int) => k (.exit 0) (fS T_fix_Sum_0_0 [.c z0, .n z1, .i z2, .b z3, .c z4, .n z5, .i z6, .i z7, .i z8, .i z9])) x0 x1 x2 x3 x4 x5 x6 x7 x8 x9 := by
      intros
      kernel_rfl
    have h : iterC (codeL PP (S_fix_Sum F) c_fix_Sum (I_fix_Sum F) (J_fix_Sum F) (loopAt PP 40 0) 0) (headOf c_fix_Sum 0) k (n + 1) (fS T_fix_Sum_0 [.c x0, .n x1, .i x2, .b x3, .c x4, .n x5, .i x6, .i x7, .i x8, .i x9]) = B_fix_Sum_0 F (fun (y0 : List VV) (y1 : Nat) (y2 : Int) (y3 : Bool) (y4 : List VV) (y5 : Nat) (y6 : Int) (y7 : Int) (y8 : Int) (y9 : Int) => iterC (codeL PP (S_fix_Sum F) c_fix_Sum (I_fix_Sum F) (J_fix_Sum F) (loopAt PP 40 0) 0) (headOf c_fix_Sum 0) k n (fS T_fix_Sum_0 [.c y0, .n y1, .i y2, .b y3, .c y4, .n y5, .i y6, .i y7, .i y8, .i y9])) (fun (z0 : List VV) (z1 : Nat) (z2 : Int) (z3 : Bool) (z4 : List VV) (z5 : Nat) (z6 : Int) (z7 : Int) (z8 : Int) (z9 : Int) => k (.exit 0) (fS T_fix_Sum_0_0 [.c z0, .n z1, .i z2, .b z3, .c z4, .n z5, .i z6, .i z7, .i z8, .i z9])) x0 x1 x2 x3 x4 x5 x6 x7 x8 x9 := (h0 ok_fix_of o_fix_of_0 o_fix_of_1 ok_wide_Add o_wide_Add_0 o_wide_Add_1 ok_fix_clip o_fix_clip_0 o_fix_clip_1 L_fix_Sum_0).trans (by kernel_rfl)
    rw [h]
    simp only [lL_fix_Sum_0 F k n]
    rfl
def f_fix_Sum (F : Nat) (a0 : List VV) (a1 : Nat) : R :=
  L_fix_Sum_0 F (fun (v3288 : List VV) (v3289 : Nat) (v3290 : Int) (v3291 : Bool) (v3292 : List VV) (v3293 : Nat) (v3294 : Int) (v3295 : Int) (v3296 : Int) (v3297 : Int) =>
    bif (ok_fix_clip F v3296 v3297) then (
      some (.v (.tuple #[.int .i64 ((o_fix_clip_0 F v3296 v3297)), .bool ((o_fix_clip_1 F v3296 v3297))])))
    else (
      none)) F a0 a1 0 false a0 a1 (((a1 : Nat) : Int)) 0 0 0
theorem e_fix_Sum (F : Nat) (a0 : List VV) (a1 : Nat) : funL PP (S_fix_Sum F) c_fix_Sum (I_fix_Sum F) (J_fix_Sum F) 40 (fTs ti_fix_Sum [.c a0, .n a1]).1 = f_fix_Sum F a0 a1 := by
  have h : ∀ (ok_fix_of : Nat → Int → Bool) (o_fix_of_0 : Nat → Int → Int) (o_fix_of_1 : Nat → Int → Int) (ok_wide_Add : Nat → Int → Int → Int → Int → Bool) (o_wide_Add_0 : Nat → Int → Int → Int → Int → Int) (o_wide_Add_1 : Nat → Int → Int → Int → Int → Int) (ok_fix_clip : Nat → Int → Int → Bool) (o_fix_clip_0 : Nat → Int → Int → Int) (o_fix_clip_1 : Nat → Int → Int → Bool) (L_fix_Sum_0 : Nat → (List VV → Nat → Int → Bool → List VV → Nat → Int → Int → Int → Int → R) → Nat → List VV → Nat → Int → Bool → List VV → Nat → Int → Int → Int → Int → R), funL PP (words [(67, spec ti_fix_of to_fix_of (fun q => (ok_fix_of F (atI (nth q 0)))) (fun q => [.i (o_fix_of_0 F (atI (nth q 0))), .i (o_fix_of_1 F (atI (nth q 0)))])), (66, spec ti_wide_Add to_wide_Add (fun q => (ok_wide_Add F (atI (nth q 0)) (atI (nth q 1)) (atI (nth q 2)) (atI (nth q 3)))) (fun q => [.i (o_wide_Add_0 F (atI (nth q 0)) (atI (nth q 1)) (atI (nth q 2)) (atI (nth q 3))), .i (o_wide_Add_1 F (atI (nth q 0)) (atI (nth q 1)) (atI (nth q 2)) (atI (nth q 3)))])), (68, spec ti_fix_clip to_fix_clip (fun q => (ok_fix_clip F (atI (nth q 0)) (atI (nth q 1)))) (fun q => [.i (o_fix_clip_0 F (atI (nth q 0)) (atI (nth q 1))), .b (o_fix_clip_1 F (atI (nth q 0)) (atI (nth q 1)))]))]) c_fix_Sum (tabI c_fix_Sum [⟨0, T_fix_Sum_0, fun k q => L_fix_Sum_0 F (fun (z0 : List VV) (z1 : Nat) (z2 : Int) (z3 : Bool) (z4 : List VV) (z5 : Nat) (z6 : Int) (z7 : Int) (z8 : Int) (z9 : Int) => k (.exit 0) (fS T_fix_Sum_0_0 [.c z0, .n z1, .i z2, .b z3, .c z4, .n z5, .i z6, .i z7, .i z8, .i z9])) F (atC (nth q 0)) (atN (nth q 1)) (atI (nth q 2)) (atB (nth q 3)) (atC (nth q 4)) (atN (nth q 5)) (atI (nth q 6)) (atI (nth q 7)) (atI (nth q 8)) (atI (nth q 9))⟩]) (tabJ []) 40 (fTs ti_fix_Sum [.c a0, .n a1]).1 = (
  L_fix_Sum_0 F (fun (v3288 : List VV) (v3289 : Nat) (v3290 : Int) (v3291 : Bool) (v3292 : List VV) (v3293 : Nat) (v3294 : Int) (v3295 : Int) (v3296 : Int) (v3297 : Int) =>
    bif (ok_fix_clip F v3296 v3297) then (
      some (.v (.tuple #[.int .i64 ((o_fix_clip_0 F v3296 v3297)), .bool ((o_fix_clip_1 F v3296 v3297))])))
    else (
      none)) F a0 a1 0 false a0 a1 (((a1 : Nat) : Int)) 0 0 0 : R) := by
    intros
    kernel_rfl
  exact (h ok_fix_of o_fix_of_0 o_fix_of_1 ok_wide_Add o_wide_Add_0 o_wide_Add_1 ok_fix_clip o_fix_clip_0 o_fix_clip_1 L_fix_Sum_0).trans (by kernel_rfl)
def ok_fix_Sum (F : Nat) (a0 : List VV) (a1 : Nat) : Bool := okT to_fix_Sum (f_fix_Sum F a0 a1)
def o_fix_Sum_0 (F : Nat) (a0 : List VV) (a1 : Nat) : Int := atI (nth (outT to_fix_Sum (f_fix_Sum F a0 a1)) 0)
def o_fix_Sum_1 (F : Nat) (a0 : List VV) (a1 : Nat) : Bool := atB (nth (outT to_fix_Sum (f_fix_Sum F a0 a1)) 1)
theorem k_fix_Sum (F : Nat) (a0 : List VV) (a1 : Nat) {z0 : Int} {z1 : Bool} (h : f_fix_Sum F a0 a1 = some (.v (.tuple #[.int .i64 z0, .bool z1]))) : ok_fix_Sum F a0 a1 = true ∧ o_fix_Sum_0 F a0 a1 = z0 ∧ o_fix_Sum_1 F a0 a1 = z1 := by
  refine ⟨?_, ?_, ?_⟩
  · unfold ok_fix_Sum; rw [h]; kernel_rfl
  · unfold o_fix_Sum_0; rw [h]; kernel_rfl
  · unfold o_fix_Sum_1; rw [h]; kernel_rfl
def s_fix_Sum (F : Nat) : List VV → Option (Bool × VV) := spec ti_fix_Sum to_fix_Sum (fun q => (ok_fix_Sum F (atC (nth q 0)) (atN (nth q 1)))) (fun q => [.i (o_fix_Sum_0 F (atC (nth q 0)) (atN (nth q 1))), .b (o_fix_Sum_1 F (atC (nth q 0)) (atN (nth q 1)))])
theorem hS_fix_Sum (F : Nat) : ∀ f, Good PP f (unS (S_fix_Sum F f)) := words_good fun p hp => by
  simp only [List.mem_cons, List.not_mem_nil, or_false] at hp
  rcases hp with rfl | rfl | rfl
  · exact g_fix_of F
  · exact g_wide_Add F
  · exact g_fix_clip F
theorem hl_fix_Sum (F : Nat) : ∀ p ∈ loopsIn PP 40, LoopOK PP (S_fix_Sum F) c_fix_Sum F (I_fix_Sum F) (J_fix_Sum F) p :=
  loops_of [(0, loopAt PP 40 0)] (by kernel_rfl) (all_cons
    (loop_ok (W_fix_Sum F) rfl (tab_cons (fun _ k q => Le.ofEq ((lL_fix_Sum_0 F k F (atC (nth q 0)) (atN (nth q 1)) (atI (nth q 2)) (atB (nth q 3)) (atC (nth q 4)) (atN (nth q 5)) (atI (nth q 6)) (atI (nth q 7)) (atI (nth q 8)) (atI (nth q 9))).symm.trans (congrArg (iterC (codeL PP (S_fix_Sum F) c_fix_Sum (I_fix_Sum F) (J_fix_Sum F) (loopAt PP 40 0) 0) (headOf c_fix_Sum 0) k F) (show fS T_fix_Sum_0 [.c (atC (nth q 0)), .n (atN (nth q 1)), .i (atI (nth q 2)), .b (atB (nth q 3)), .c (atC (nth q 4)), .n (atN (nth q 5)), .i (atI (nth q 6)), .i (atI (nth q 7)), .i (atI (nth q 8)), .i (atI (nth q 9))] = fS T_fix_Sum_0 q by kernel_rfl)))) tab_nil)) all_nil)
theorem hj_fix_Sum (F : Nat) : ∀ p ∈ joinsIn PP c_fix_Sum 40, JoinOK PP (S_fix_Sum F) c_fix_Sum (I_fix_Sum F) (J_fix_Sum F) p :=
  joins_of [] (by kernel_rfl) all_nil
theorem g_fix_Sum (F : Nat) : Good PP 40 (unS (s_fix_Sum F)) :=
  fun_spec (hS_fix_Sum F) (by kernel_rfl) (by kernel_rfl) (C := c_fix_Sum) (F := fun q => (f_fix_Sum F (atC (nth q 0)) (atN (nth q 1)))) (fun _ => F) (fun _ => I_fix_Sum F) (fun _ => J_fix_Sum F) (fun _ => hl_fix_Sum F) (fun _ => hj_fix_Sum F)
    (fun q => (congrArg (funL PP (S_fix_Sum F) c_fix_Sum (I_fix_Sum F) (J_fix_Sum F) 40) (show (fTs ti_fix_Sum q).1 = (fTs ti_fix_Sum [.c (atC (nth q 0)), .n (atN (nth q 1))]).1 by kernel_rfl)).trans (e_fix_Sum F (atC (nth q 0)) (atN (nth q 1))))
    (fun _ h => (okT_fill h).trans (congrArg some (by kernel_rfl)))

end Go.Xv
set_option linter.unusedVariables false
namespace Go.Xv
/- 20 _fuse_Bound -/
def c_fuse_Bound : Cfg := ⟨[0, 1, 2, 3, 8, 9, 10, 11, 25], [], [35], []⟩
def ti_fuse_Bound : List TV := [.v (.int .i64), .v (.int .i64), .v (.int .i64), .v (.int .i64)]
def to_fuse_Bound : TV := .v (.int .i64)
def S_fuse_Bound (F : Nat) : FuncId → List VV → Option (Bool × VV) := words [(40, s_fix_Sum F)]
def W_fuse_Bound (F : Nat) : List LW := []
def I_fuse_Bound (F : Nat) : Nat → VS → (Exit → VS → R) → R := tabI c_fuse_Bound (W_fuse_Bound F)
def WJ_fuse_Bound (F : Nat) : List LJ := []
def J_fuse_Bound (F : Nat) : Nat → Nat → VS → (Exit → VS → R) → R := tabJ (WJ_fuse_Bound F)
def f_fuse_Bound (F : Nat) (a0 : Int) (a1 : Int) (a2 : Int) (a3 : Int) : R :=
  let v3261 : Int := (if 0 > a3 then 0 else a3)
  let v3262 : Int := (if 65535 < v3261 then 65535 else v3261)
  let v3263 : Int := (if 0 > a1 then 0 else a1)
  bif ((decide (v3262 > 0))) then (
    bif (!(decide (v3262 = 0))) then (
      bif ((decide (v3263 > ((IntKind.wrap .i64 (Int.tdiv 9223372036854775807 v3262)))))) then (
        let v3267 : Int := (if 0 > a0 then 0 else a0)
        let v3268 : Int := (if 0 > a2 then 0 else a2)
        bif (ok_fix_Sum F ([.v (.int .i64 v3267), .v (.int .i64 v3268), .v (.int .i64 9223372036854775807)]) 3) then (
          some (.v (.int .i64 ((o_fix_Sum_0 F ([.v (.int .i64 v3267), .v (.int .i64 v3268), .v (.int .i64 9223372036854775807)]) 3)))))
        else (
          none))
      else (
        let v3302 : Int := (IntKind.wrap .i64 (v3263 * v3262))
        let v3303 : Int := (if 0 > a0 then 0 else a0)
        let v3304 : Int := (if 0 > a2 then 0 else a2)
        bif (ok_fix_Sum F ([.v (.int .i64 v3303), .v (.int .i64 v3304), .v (.int .i64 v3302)]) 3) then (
          some (.v (.int .i64 ((o_fix_Sum_0 F ([.v (.int .i64 v3303), .v (.int .i64 v3304), .v (.int .i64 v3302)]) 3)))))
        else (
          none)))
    else (
      none))
  else (
    let v3307 : Int := (IntKind.wrap .i64 (v3263 * v3262))
    let v3308 : Int := (if 0 > a0 then 0 else a0)
    let v3309 : Int := (if 0 > a2 then 0 else a2)
    bif (ok_fix_Sum F ([.v (.int .i64 v3308), .v (.int .i64 v3309), .v (.int .i64 v3307)]) 3) then (
      some (.v (.int .i64 ((o_fix_Sum_0 F ([.v (.int .i64 v3308), .v (.int .i64 v3309), .v (.int .i64 v3307)]) 3)))))
    else (
      none))
theorem e_fuse_Bound (F : Nat) (a0 : Int) (a1 : Int) (a2 : Int) (a3 : Int) : funL PP (S_fuse_Bound F) c_fuse_Bound (I_fuse_Bound F) (J_fuse_Bound F) 20 (fTs ti_fuse_Bound [.i a0, .i a1, .i a2, .i a3]).1 = f_fuse_Bound F a0 a1 a2 a3 := by
  have h : ∀ (ok_fix_Sum : Nat → List VV → Nat → Bool) (o_fix_Sum_0 : Nat → List VV → Nat → Int) (o_fix_Sum_1 : Nat → List VV → Nat → Bool), funL PP (words [(40, spec ti_fix_Sum to_fix_Sum (fun q => (ok_fix_Sum F (atC (nth q 0)) (atN (nth q 1)))) (fun q => [.i (o_fix_Sum_0 F (atC (nth q 0)) (atN (nth q 1))), .b (o_fix_Sum_1 F (atC (nth q 0)) (atN (nth q 1)))]))]) c_fuse_Bound (tabI c_fuse_Bound []) (tabJ []) 20 (fTs ti_fuse_Bound [.i a0, .i a1, .i a2, .i a3]).1 = (
  let v3261 : Int := (if 0 > a3 then 0 else a3)
  let v3262 : Int := (if 65535 < v3261 then 65535 else v3261)
  let v3263 : Int := (if 0 > a1 then 0 else a1)
  bif ((decide (v3262 > 0))) then (
    bif (!(decide (v3262 = 0))) then (
      bif ((decide (v3263 > ((IntKind.wrap .i64 (Int.tdiv 9223372036854775807 v3262)))))) then (
        let v3267 : Int := (if 0 > a0 then 0 else a0)
        let v3268 : Int := (if 0 > a2 then 0 else a2)
        bif (ok_fix_Sum F ([.v (.int .i64 v3267), .v (.int .i64 v3268), .v (.int .i64 9223372036854775807)]) 3) then (
          some (.v (.int .i64 ((o_fix_Sum_0 F ([.v (.int .i64 v3267), .v (.int .i64 v3268), .v (.int .i64 9223372036854775807)]) 3)))))
        else (
          none))
      else (
        let v3302 : Int := (IntKind.wrap .i64 (v3263 * v3262))
        let v3303 : Int := (if 0 > a0 then 0 else a0)
        let v3304 : Int := (if 0 > a2 then 0 else a2)
        bif (ok_fix_Sum F ([.v (.int .i64 v3303), .v (.int .i64 v3304), .v (.int .i64 v3302)]) 3) then (
          some (.v (.int .i64 ((o_fix_Sum_0 F ([.v (.int .i64 v3303), .v (.int .i64 v3304), .v (.int .i64 v3302)]) 3)))))
        else (
          none)))
    else (
      none))
  else (
    let v3307 : Int := (IntKind.wrap .i64 (v3263 * v3262))
    let v3308 : Int := (if 0 > a0 then 0 else a0)
    let v3309 : Int := (if 0 > a2 then 0 else a2)
    bif (ok_fix_Sum F ([.v (.int .i64 v3308), .v (.int .i64 v3309), .v (.int .i64 v3307)]) 3) then (
      some (.v (.int .i64 ((o_fix_Sum_0 F ([.v (.int .i64 v3308), .v (.int .i64 v3309), .v (.int .i64 v3307)]) 3)))))
    else (
      none)) : R) := by
    intros
    kernel_rfl
  exact (h ok_fix_Sum o_fix_Sum_0 o_fix_Sum_1).trans (by kernel_rfl)
def ok_fuse_Bound (F : Nat) (a0 : Int) (a1 : Int) (a2 : Int) (a3 : Int) : Bool := okT to_fuse_Bound (f_fuse_Bound F a0 a1 a2 a3)
def o_fuse_Bound_0 (F : Nat) (a0 : Int) (a1 : Int) (a2 : Int) (a3 : Int) : Int := atI (nth (outT to_fuse_Bound (f_fuse_Bound F a0 a1 a2 a3)) 0)
theorem k_fuse_Bound (F : Nat) (a0 : Int) (a1 : Int) (a2 : Int) (a3 : Int) {z0 : Int} (h : f_fuse_Bound F a0 a1 a2 a3 = some (.v (.int .i64 z0))) : ok_fuse_Bound F a0 a1 a2 a3 = true ∧ o_fuse_Bound_0 F a0 a1 a2 a3 = z0 := by
  refine ⟨?_, ?_⟩
  · unfold ok_fuse_Bound; rw [h]; kernel_rfl
  · unfold o_fuse_Bound_0; rw [h]; kernel_rfl
def s_fuse_Bound (F : Nat) : List VV → Option (Bool × VV) := spec ti_fuse_Bound to_fuse_Bound (fun q => (ok_fuse_Bound F (atI (nth q 0)) (atI (nth q 1)) (atI (nth q 2)) (atI (nth q 3)))) (fun q => [.i (o_fuse_Bound_0 F (atI (nth q 0)) (atI (nth q 1)) (atI (nth q 2)) (atI (nth q 3)))])
theorem hS_fuse_Bound (F : Nat) : ∀ f, Good PP f (unS (S_fuse_Bound F f)) := words_good fun p hp => by
  simp only [List.mem_cons, List.not_mem_nil, or_false] at hp
  rcases hp with rfl
  · exact g_fix_Sum F
theorem hl_fuse_Bound (F : Nat) : ∀ p ∈ loopsIn PP 20, LoopOK PP (S_fuse_Bound F) c_fuse_Bound F (I_fuse_Bound F) (J_fuse_Bound F) p :=
  loops_of [] (by kernel_rfl) all_nil
theorem hj_fuse_Bound (F : Nat) : ∀ p ∈ joinsIn PP c_fuse_Bound 20, JoinOK PP (S_fuse_Bound F) c_fuse_Bound (I_fuse_Bound F) (J_fuse_Bound F) p :=
  joins_of [] (by kernel_rfl) all_nil
theorem g_fuse_Bound (F : Nat) : Good PP 20 (unS (s_fuse_Bound F)) :=
  fun_spec (hS_fuse_Bound F) (by kernel_rfl) (by kernel_rfl) (C := c_fuse_Bound) (F := fun q => (f_fuse_Bound F (atI (nth q 0)) (atI (nth q 1)) (atI (nth q 2)) (atI (nth q 3)))) (fun _ => F) (fun _ => I_fuse_Bound F) (fun _ => J_fuse_Bound F) (fun _ => hl_fuse_Bound F) (fun _ => hj_fuse_Bound F)
    (fun q => (congrArg (funL PP (S_fuse_Bound F) c_fuse_Bound (I_fuse_Bound F) (J_fuse_Bound F) 20) (show (fTs ti_fuse_Bound q).1 = (fTs ti_fuse_Bound [.i (atI (nth q 0)), .i (atI (nth q 1)), .i (atI (nth q 2)), .i (atI (nth q 3))]).1 by kernel_rfl)).trans (e_fuse_Bound F (atI (nth q 0)) (atI (nth q 1)) (atI (nth q 2)) (atI (nth q 3))))
    (fun _ h => (okT_fill h).trans (congrArg some (by kernel_rfl)))

end Go.Xv
set_option linter.unusedVariables false
namespace Go.Xv
/- 9 _law28_works -/
def c_law28_works : Cfg := ⟨[0, 1, 2, 3, 4, 5], [], [], []⟩
def ti_law28_works : List TV := []
def to_law28_works : TV := .v (.bool)
def S_law28_works (F : Nat) : FuncId → List VV → Option (Bool × VV) := words [(11, s_fuse_Pull F), (20, s_fuse_Bound F)]
def W_law28_works (F : Nat) : List LW := []
def I_law28_works (F : Nat) : Nat → VS → (Exit → VS → R) → R := tabI c_law28_works (W_law28_works F)
def WJ_law28_works (F : Nat) : List LJ := []
def J_law28_works (F : Nat) : Nat → Nat → VS → (Exit → VS → R) → R := tabJ (WJ_law28_works F)
def f_law28_works (F : Nat) : R :=
  bif (ok_fuse_Pull F 1 10 100 5 0 0 0 0 6 0 0 3 1) then (
    let v3246 : Int := (o_fuse_Pull_0 F 1 10 100 5 0 0 0 0 6 0 0 3 1)
    let v3247 : Int := (o_fuse_Pull_1 F 1 10 100 5 0 0 0 0 6 0 0 3 1)
    let v3248 : Int := (o_fuse_Pull_2 F 1 10 100 5 0 0 0 0 6 0 0 3 1)
    let v3249 : Int := (o_fuse_Pull_3 F 1 10 100 5 0 0 0 0 6 0 0 3 1)
    bif (ok_fuse_Pull F 1 10 100 5 v3246 v3247 v3248 v3249 60 0 0 3 2) then (
      bif (((v3246 == 3) && ((v3247 == 0) && (v3248 == 0)))) then (
        bif (((((o_fuse_Pull_0 F 1 10 100 5 v3246 v3247 v3248 v3249 60 0 0 3 2)) == 13) && ((((o_fuse_Pull_1 F 1 10 100 5 v3246 v3247 v3248 v3249 60 0 0 3 2)) == 0) && (((o_fuse_Pull_2 F 1 10 100 5 v3246 v3247 v3248 v3249 60 0 0 3 2)) == 0)))) then (
          bif ((((o_fuse_Pull_4 F 1 10 100 5 0 0 0 0 6 0 0 3 1)) == 0)) then (
            bif ((((o_fuse_Pull_4 F 1 10 100 5 v3246 v3247 v3248 v3249 60 0 0 3 2)) == 0)) then (
              bif ((((o_fuse_Pull_3 F 1 10 100 5 v3246 v3247 v3248 v3249 60 0 0 3 2)) == 2)) then (
                bif (ok_fuse_Bound F 1 2 3 4) then (
                  some (.v (.bool ((((o_fuse_Bound_0 F 1 2 3 4)) == 12)))))
                else (
                  none))
              else (
                some (.v (.bool false))))
            else (
              some (.v (.bool false))))
          else (
            some (.v (.bool false))))
        else (
          some (.v (.bool false))))
      else (
        some (.v (.bool false))))
    else (
      none))
  else (
    none)
theorem e_law28_works (F : Nat) : funL PP (S_law28_works F) c_law28_works (I_law28_works F) (J_law28_works F) 9 (fTs ti_law28_works []).1 = f_law28_works F := by
  have h : ∀ (ok_fuse_Pull : Nat → Int → Int → Int → Int → Int → Int → Int → Int → Int → Int → Int → Int → Int → Bool) (o_fuse_Pull_0 : Nat → Int → Int → Int → Int → Int → Int → Int → Int → Int → Int → Int → Int → Int → Int) (o_fuse_Pull_1 : Nat → Int → Int → Int → Int → Int → Int → Int → Int → Int → Int → Int → Int → Int → Int) (o_fuse_Pull_2 : Nat → Int → Int → Int → Int → Int → Int → Int → Int → Int → Int → Int → Int → Int → Int) (o_fuse_Pull_3 : Nat → Int → Int → Int → Int → Int → Int → Int → Int → Int → Int → Int → Int → Int → Int) (o_fuse_Pull_4 : Nat → Int → Int → Int → Int → Int → Int → Int → Int → Int → Int → Int → Int → Int → Int) (ok_fuse_Bound : Nat → Int → Int → Int → Int → Bool) (o_fuse_Bound_0 : Nat → Int → Int → Int → Int → Int), funL PP (words [(11, spec ti_fuse_Pull to_fuse_Pull (fun q => (ok_fuse_Pull F (atI (nth q 0)) (atI (nth q 1)) (atI (nth q 2)) (atI (nth q 3)) (atI (nth q 4)) (atI (nth q 5)) (atI (nth q 6)) (atI (nth q 7)) (atI (nth q 8)) (atI (nth q 9)) (atI (nth q 10)) (atI (nth q 11)) (atI (nth q 12)))) (fun q => [.i (o_fuse_Pull_0 F (atI (nth q 0)) (atI (nth q 1)) (atI (nth q 2)) (atI (nth q 3)) (atI (nth q 4)) (atI (nth q 5)) (atI (nth q 6)) (atI (nth q 7)) (atI (nth q 8)) (atI (nth q 9)) (atI (nth q 10)) (atI (nth q 11)) (atI (nth q 12))), .i (o_fuse_Pull_1 F (atI (nth q 0)) (atI (nth q 1)) (atI (nth q 2)) (atI (nth q 3)) (atI (nth q 4)) (atI (nth q 5)) (atI (nth q 6)) (atI (nth q 7)) (atI (nth q 8)) (atI (nth q 9)) (atI (nth q 10)) (atI (nth q 11)) (atI (nth q 12))), .i (o_fuse_Pull_2 F (atI (nth q 0)) (atI (nth q 1)) (atI (nth q 2)) (atI (nth q 3)) (atI (nth q 4)) (atI (nth q 5)) (atI (nth q 6)) (atI (nth q 7)) (atI (nth q 8)) (atI (nth q 9)) (atI (nth q 10)) (atI (nth q 11)) (atI (nth q 12))), .i (o_fuse_Pull_3 F (atI (nth q 0)) (atI (nth q 1)) (atI (nth q 2)) (atI (nth q 3)) (atI (nth q 4)) (atI (nth q 5)) (atI (nth q 6)) (atI (nth q 7)) (atI (nth q 8)) (atI (nth q 9)) (atI (nth q 10)) (atI (nth q 11)) (atI (nth q 12))), .i (o_fuse_Pull_4 F (atI (nth q 0)) (atI (nth q 1)) (atI (nth q 2)) (atI (nth q 3)) (atI (nth q 4)) (atI (nth q 5)) (atI (nth q 6)) (atI (nth q 7)) (atI (nth q 8)) (atI (nth q 9)) (atI (nth q 10)) (atI (nth q 11)) (atI (nth q 12)))])), (20, spec ti_fuse_Bound to_fuse_Bound (fun q => (ok_fuse_Bound F (atI (nth q 0)) (atI (nth q 1)) (atI (nth q 2)) (atI (nth q 3)))) (fun q => [.i (o_fuse_Bound_0 F (atI (nth q 0)) (atI (nth q 1)) (atI (nth q 2)) (atI (nth q 3)))]))]) c_law28_works (tabI c_law28_works []) (tabJ []) 9 (fTs ti_law28_works []).1 = (
  bif (ok_fuse_Pull F 1 10 100 5 0 0 0 0 6 0 0 3 1) then (
    let v3246 : Int := (o_fuse_Pull_0 F 1 10 100 5 0 0 0 0 6 0 0 3 1)
    let v3247 : Int := (o_fuse_Pull_1 F 1 10 100 5 0 0 0 0 6 0 0 3 1)
    let v3248 : Int := (o_fuse_Pull_2 F 1 10 100 5 0 0 0 0 6 0 0 3 1)
    let v3249 : Int := (o_fuse_Pull_3 F 1 10 100 5 0 0 0 0 6 0 0 3 1)
    bif (ok_fuse_Pull F 1 10 100 5 v3246 v3247 v3248 v3249 60 0 0 3 2) then (
      bif (((v3246 == 3) && ((v3247 == 0) && (v3248 == 0)))) then (
        bif (((((o_fuse_Pull_0 F 1 10 100 5 v3246 v3247 v3248 v3249 60 0 0 3 2)) == 13) && ((((o_fuse_Pull_1 F 1 10 100 5 v3246 v3247 v3248 v3249 60 0 0 3 2)) == 0) && (((o_fuse_Pull_2 F 1 10 100 5 v3246 v3247 v3248 v3249 60 0 0 3 2)) == 0)))) then (
          bif ((((o_fuse_Pull_4 F 1 10 100 5 0 0 0 0 6 0 0 3 1)) == 0)) then (
            bif ((((o_fuse_Pull_4 F 1 10 100 5 v3246 v3247 v3248 v3249 60 0 0 3 2)) == 0)) then (
              bif ((((o_fuse_Pull_3 F 1 10 100 5 v3246 v3247 v3248 v3249 60 0 0 3 2)) == 2)) then (
                bif (ok_fuse_Bound F 1 2 3 4) then (
                  some (.v (.bool ((((o_fuse_Bound_0 F 1 2 3 4)) == 12)))))
                else (
                  none))
              else (
                some (.v (.bool false))))
            else (
              some (.v (.bool false))))
          else (
            some (.v (.bool false))))
        else (
          some (.v (.bool false))))
      else (
        some (.v (.bool false))))
    else (
      none))
  else (
    none) : R) := by
    intros
    kernel_rfl
  exact (h ok_fuse_Pull o_fuse_Pull_0 o_fuse_Pull_1 o_fuse_Pull_2 o_fuse_Pull_3 o_fuse_Pull_4 ok_fuse_Bound o_fuse_Bound_0).trans (by kernel_rfl)
def ok_law28_works (F : Nat) : Bool := okT to_law28_works (f_law28_works F)
def o_law28_works_0 (F : Nat) : Bool := atB (nth (outT to_law28_works (f_law28_works F)) 0)
theorem k_law28_works (F : Nat) {z0 : Bool} (h : f_law28_works F = some (.v (.bool z0))) : ok_law28_works F = true ∧ o_law28_works_0 F = z0 := by
  refine ⟨?_, ?_⟩
  · unfold ok_law28_works; rw [h]; kernel_rfl
  · unfold o_law28_works_0; rw [h]; kernel_rfl
def s_law28_works (F : Nat) : List VV → Option (Bool × VV) := spec ti_law28_works to_law28_works (fun q => (ok_law28_works F )) (fun q => [.b (o_law28_works_0 F )])
theorem hS_law28_works (F : Nat) : ∀ f, Good PP f (unS (S_law28_works F f)) := words_good fun p hp => by
  simp only [List.mem_cons, List.not_mem_nil, or_false] at hp
  rcases hp with rfl | rfl
  · exact g_fuse_Pull F
  · exact g_fuse_Bound F
theorem hl_law28_works (F : Nat) : ∀ p ∈ loopsIn PP 9, LoopOK PP (S_law28_works F) c_law28_works F (I_law28_works F) (J_law28_works F) p :=
  loops_of [] (by kernel_rfl) all_nil
theorem hj_law28_works (F : Nat) : ∀ p ∈ joinsIn PP c_law28_works 9, JoinOK PP (S_law28_works F) c_law28_works (I_law28_works F) (J_law28_works F) p :=
  joins_of [] (by kernel_rfl) all_nil
theorem g_law28_works (F : Nat) : Good PP 9 (unS (s_law28_works F)) :=
  fun_spec (hS_law28_works F) (by kernel_rfl) (by kernel_rfl) (C := c_law28_works) (F := fun q => (f_law28_works F )) (fun _ => F) (fun _ => I_law28_works F) (fun _ => J_law28_works F) (fun _ => hl_law28_works F) (fun _ => hj_law28_works F)
    (fun q => (congrArg (funL PP (S_law28_works F) c_law28_works (I_law28_works F) (J_law28_works F) 9) (show (fTs ti_law28_works q).1 = (fTs ti_law28_works []).1 by kernel_rfl)).trans (e_law28_works F ))
    (fun _ h => (okT_fill h).trans (congrArg some (by kernel_rfl)))

end Go.Xv
set_option linter.unusedVariables false
namespace Go.Xv
/- 3 _law28_FuseComes -/
def c_law28_FuseComes : Cfg := ⟨[0, 1, 2, 3, 6, 7, 8, 9, 10, 11, 13, 20, 26, 88], [(0, [0, 1, 2, 3, 6, 7, 8, 12, 13, 14, 15, 16, 17, 18, 19, 20, 21])], [], []⟩
def ti_law28_FuseComes : List TV := [.v (.agg [.int .i64, .int .i64, .int .i64, .int .i64]), .v (.int .i64), .v (.int .u8)]
def to_law28_FuseComes : TV := .v (.bool)
def S_law28_FuseComes (F : Nat) : FuncId → List VV → Option (Bool × VV) := words [(9, s_law28_works F), (10, s_fuse_Check F), (11, s_fuse_Pull F)]
def T_law28_FuseComes_0 : TS := ⟨[(0, .v (.agg [.int .i64, .int .i64, .int .i64, .int .i64])), (1, .v (.int .i64)), (2, .v (.int .u8)), (3, .lp 0 (.lit 0)), (6, .v (.bool)), (7, .lp 1 (.lit 0)), (8, .v (.int .i64))], [(0, ⟨(.ex [.v (.int .i64), .v (.int .i64), .v (.int .i64), .v (.int .i64)]), true⟩), (1, ⟨(.ex [.v (.int .i64), .v (.int .i64), .v (.int .i64), .v (.int .i64)]), true⟩)], 2⟩
def T_law28_FuseComes_0_0 : TS := ⟨[(0, .v (.agg [.int .i64, .int .i64, .int .i64, .int .i64])), (1, .v (.int .i64)), (2, .v (.int .u8)), (3, .lp 0 (.lit 0)), (6, .v (.bool)), (7, .lp 1 (.lit 0)), (8, .v (.int .i64)), (9, .v (.int .i64)), (10, .lp 2 (.lit 0)), (11, .v (.int .i64))], [(0, ⟨(.ex [.v (.int .i64), .v (.int .i64), .v (.int .i64), .v (.int .i64)]), true⟩), (1, ⟨(.ex [.v (.int .i64), .v (.int .i64), .v (.int .i64), .v (.int .i64)]), true⟩), (2, ⟨(.ex [.v (.int .i64), .v (.int .i64), .v (.int .i64), .v (.int .i64)]), true⟩)], 3⟩
def T_law28_FuseComes_0_1 : TS := ⟨[(0, .v (.agg [.int .i64, .int .i64, .int .i64, .int .i64])), (1, .v (.int .i64)), (2, .v (.int .u8)), (3, .lp 0 (.lit 0)), (6, .v (.bool)), (7, .lp 1 (.lit 0)), (8, .v (.int .i64))], [(0, ⟨(.ex [.v (.int .i64), .v (.int .i64), .v (.int .i64), .v (.int .i64)]), true⟩), (1, ⟨(.ex [.v (.int .i64), .v (.int .i64), .v (.int .i64), .v (.int .i64)]), true⟩)], 2⟩
def B_law28_FuseComes_0 (F : Nat) (rc : Int → Int → Int → Int → Int → Int → Bool → Int → Int → Int → Int → Int → Int → Int → Int → Int → R) (ex0 : Int → Int → Int → Int → Int → Int → Bool → Int → Int → Int → Int → Int → Int → Int → Int → Int → Int → Int → Int → Int → Int → Int → R) (ex1 : Int → Int → Int → Int → Int → Int → Bool → Int → Int → Int → Int → Int → Int → Int → Int → Int → R) (x0 : Int) (x1 : Int) (x2 : Int) (x3 : Int) (x4 : Int) (x5 : Int) (x6 : Bool) (x7 : Int) (x8 : Int) (x9 : Int) (x10 : Int) (x11 : Int) (x12 : Int) (x13 : Int) (x14 : Int) (x15 : Int) : R :=
  bif ((decide (x7 < ((IntKind.wrap .i64 ((Int.tmod x5 60))))))) then (
    let v3338 : Int := (IntKind.wrap .i64 (x4 - x13))
    bif (ok_fuse_Pull F x8 x9 x10 x11 x12 x13 x14 x15 0 v3338 0 3 x7) then (
      let v3339 : Int := (o_fuse_Pull_0 F x8 x9 x10 x11 x12 x13 x14 x15 0 v3338 0 3 x7)
      let v3340 : Int := (o_fuse_Pull_1 F x8 x9 x10 x11 x12 x13 x14 x15 0 v3338 0 3 x7)
      let v3341 : Int := (o_fuse_Pull_2 F x8 x9 x10 x11 x12 x13 x14 x15 0 v3338 0 3 x7)
      let v3342 : Int := (o_fuse_Pull_3 F x8 x9 x10 x11 x12 x13 x14 x15 0 v3338 0 3 x7)
      let v3343 : Int := (o_fuse_Pull_4 F x8 x9 x10 x11 x12 x13 x14 x15 0 v3338 0 3 x7)
      bif ((v3343 != 0)) then (
        ex0 x0 x1 x2 x3 x4 x5 false x7 x13 v3343 x8 x9 x10 x11 x12 x13 x14 x15 v3339 v3340 v3341 v3342)
      else (
        bif ((v3339 != 0)) then (
          ex0 x0 x1 x2 x3 x4 x5 false x7 x13 v3343 x8 x9 x10 x11 x12 x13 x14 x15 v3339 v3340 v3341 v3342)
        else (
          bif ((decide (x4 ≥ 0))) then (
            bif ((decide (v3340 > x4))) then (
              ex0 x0 x1 x2 x3 x4 x5 false x7 x13 v3343 x8 x9 x10 x11 x12 x13 x14 x15 v3339 v3340 v3341 v3342)
            else (
              bif ((decide (v3340 < x13))) then (
                ex0 x0 x1 x2 x3 x4 x5 false x7 x13 v3343 x8 x9 x10 x11 x12 x13 x14 x15 v3339 v3340 v3341 v3342)
              else (
                bif ((decide (x4 < 0))) then (
                  bif ((decide (v3340 < x4))) then (
                    ex0 x0 x1 x2 x3 x4 x5 false x7 x13 v3343 x8 x9 x10 x11 x12 x13 x14 x15 v3339 v3340 v3341 v3342)
                  else (
                    bif ((decide (v3340 > x13))) then (
                      ex0 x0 x1 x2 x3 x4 x5 false x7 x13 v3343 x8 x9 x10 x11 x12 x13 x14 x15 v3339 v3340 v3341 v3342)
                    else (
                      rc x0 x1 x2 x3 x4 x5 x6 ((IntKind.wrap .i64 (x7 + 1))) x8 x9 x10 x11 v3339 v3340 v3341 v3342)))
                else (
                  rc x0 x1 x2 x3 x4 x5 x6 ((IntKind.wrap .i64 (x7 + 1))) x8 x9 x10 x11 v3339 v3340 v3341 v3342))))
          else (
            bif ((decide (x4 < 0))) then (
              bif ((decide (v3340 < x4))) then (
                ex0 x0 x1 x2 x3 x4 x5 false x7 x13 v3343 x8 x9 x10 x11 x12 x13 x14 x15 v3339 v3340 v3341 v3342)
              else (
                bif ((decide (v3340 > x13))) then (
                  ex0 x0 x1 x2 x3 x4 x5 false x7 x13 v3343 x8 x9 x10 x11 x12 x13 x14 x15 v3339 v3340 v3341 v3342)
                else (
                  rc x0 x1 x2 x3 x4 x5 x6 ((IntKind.wrap .i64 (x7 + 1))) x8 x9 x10 x11 v3339 v3340 v3341 v3342)))
            else (
              rc x0 x1 x2 x3 x4 x5 x6 ((IntKind.wrap .i64 (x7 + 1))) x8 x9 x10 x11 v3339 v3340 v3341 v3342)))))
    else (
      none))
  else (
    ex1 x0 x1 x2 x3 x4 x5 x6 x7 x8 x9 x10 x11 x12 x13 x14 x15)
def L_law28_FuseComes_0 (F : Nat) (ex0 : Int → Int → Int → Int → Int → Int → Bool → Int → Int → Int → Int → Int → Int → Int → Int → Int → Int → Int → Int → Int → Int → Int → R) (ex1 : Int → Int → Int → Int → Int → Int → Bool → Int → Int → Int → Int → Int → Int → Int → Int → Int → R) : Nat → Int → Int → Int → Int → Int → Int → Bool → Int → Int → Int → Int → Int → Int → Int → Int → Int → R
  | 0, _, _, _, _, _, _, _, _, _, _, _, _, _, _, _, _ => none
  | n + 1, x0, x1, x2, x3, x4, x5, x6, x7, x8, x9, x10, x11, x12, x13, x14, x15 => B_law28_FuseComes_0 F (L_law28_FuseComes_0 F ex0 ex1 n) ex0 ex1 x0 x1 x2 x3 x4 x5 x6 x7 x8 x9 x10 x11 x12 x13 x14 x15
def W_law28_FuseComes (F : Nat) : List LW := [⟨0, T_law28_FuseComes_0, fun k q => L_law28_FuseComes_0 F (fun (z0 : Int) (z1 : Int) (z2 : Int) (z3 : Int) (z4 : Int) (z5 : Int) (z6 : Bool) (z7 : Int) (z8 : Int) (z9 : Int) (z10 : Int) (z11 : Int) (z12 : Int) (z13 : Int) (z14 : Int) (z15 : Int) (z16 : Int) (z17 : Int) (z18 : Int) (z19 : Int) (z20 : Int) (z21 : Int) => k .ret (fS T_law28_FuseComes_0_0 [.i z0, .i z1, .i z2, .i z3, .i z4, .i z5, .b z6, .i z7, .i z8, .i z9, .i z10, .i z11, .i z12, .i z13, .i z14, .i z15, .i z16, .i z17, .i z18, .i z19, .i z20, .i z21])) (fun (z0 : Int) (z1 : Int) (z2 : Int) (z3 : Int) (z4 : Int) (z5 : Int) (z6 : Bool) (z7 : Int) (z8 : Int) (z9 : Int) (z10 : Int) (z11 : Int) (z12 : Int) (z13 : Int) (z14 : Int) (z15 : Int) => k (.exit 0) (fS T_law28_FuseComes_0_1 [.i z0, .i z1, .i z2, .i z3, .i z4, .i z5, .b z6, .i z7, .i z8, .i z9, .i z10, .i z11, .i z12, .i z13, .i z14, .i z15])) F (atI (nth q 0)) (atI (nth q 1)) (atI (nth q 2)) (atI (nth q 3)) (atI (nth q 4)) (atI (nth q 5)) (atB (nth q 6)) (atI (nth q 7)) (atI (nth q 8)) (atI (nth q 9)) (atI (nth q 10)) (atI (nth q 11)) (atI (nth q 12)) (atI (nth q 13)) (atI (nth q 14)) (atI (nth q 15))⟩]
def I_law28_FuseComes (F : Nat) : Nat → VS → (Exit → VS → R) → R := tabI c_law28_FuseComes (W_law28_FuseComes F)
def WJ_law28_FuseComes (F : Nat) : List LJ := []
def J_law28_FuseComes (F : Nat) : Nat → Nat → VS → (Exit → VS → R) → R := tabJ (WJ_law28_FuseComes F)
theorem lL_law28_FuseComes_0 (F : Nat) (k : Exit → VS → R) : ∀ (n : Nat) (x0 : Int) (x1 : Int) (x2 : Int) (x3 : Int) (x4 : Int) (x5 : Int) (x6 : Bool) (x7 : Int) (x8 : Int) (x9 : Int) (x10 : Int) (x11 : Int) (x12 : Int) (x13 : Int) (x14 : Int) (x15 : Int), iterC (codeL PP (S_law28_FuseComes F) c_law28_FuseComes (I_law28_FuseComes F) (J_law28_FuseComes F) (loopAt PP 3 0) 0) (headOf c_law28_FuseComes 0) k n (fS T_law28_FuseComes_0 [.i x0, .i x1, .i x2, .i x3, .i x4, .i x5, .b x6, .i x7, .i x8, .i x9, .i x10, .i x11, .i x12, .i x13, .i x14, .i x15]) = L_law28_FuseComes_0 F (fun (z0 : Int) (z1 : Int) (z2 : Int) (z3 : Int) (z4 : Int) (z5 : Int) (z6 : Bool) (z7 : Int) (z8 : Int) (z9 : Int) (z10 : Int) (z11 : Int) (z12 : Int) (z13 : Int) (z14 : Int) (z15 : Int) (z16 : Int) (z17 : Int) (z18 : Int) (z19 : Int) (z20 : Int) (z21 : Int) => k .ret (fS T_law28_FuseComes_0_0 [.i z0, .i z1, .i z2, .i z3, .i z4, .i z5, .b z6, .i z7, .i z8, .i z9, .i z10, .i z11, .i z12, .i z13, .i z14, .i z15, .i z16, .i z17, .i z18, .i z19, .i z20, .i z21])) (fun (z0 : Int) (z1 : Int) (z2 : Int) (z3 : Int) (z4 : Int) (z5 : Int) (z6 : Bool) (z7 : Int) (z8 : Int) (z9 : Int) (z10 : Int) (z11 : Int) (z12 : Int) (z13 : Int) (z14 : Int) (z15 : Int) => k (.exit 0) (fS T_law28_FuseComes_0_1 [.i z0, .i z1, .i z2, .i z3, .i z4, .i z5, .b z6, .i z7, .i z8, .i z9, .i z10, .i z11, .i z12, .i z13, .i z14, .i z15])) n x0 x1 x2 x3 x4 x5 x6 x7 x8 x9 x10 x11 x12 x13 x14 x15
  | 0, _, _, _, _, _, _, _, _, _, _, _, _, _, _, _, _ => rfl
  | n + 1, x0, x1, x2, x3, x4, x5, x6, x7, x8, x9, x10, x11, x12, x13, x14, x15 => by
    have h0 : ∀ (ok_law28_works : Nat → Bool) (o_law28_works_0 : Nat → Bool) (ok_fuse_Check : Nat → Int → Int → Int → Int → Bool) (o_fuse_Check_0 : Nat → Int → Int → Int → Int → Int) (ok_fuse_Pull : Nat → Int → Int → Int → Int → Int → Int → Int → Int → Int → Int → Int → Int → Int → Bool) (o_fuse_Pull_0 : Nat → Int → Int → Int → Int → Int → Int → Int → Int → Int → Int → Int → Int → Int → Int) (o_fuse_Pull_1 : Nat → Int → Int → Int → Int → Int → Int → Int → Int → Int → Int → Int → Int → Int → Int) (o_fuse_Pull_2 : Nat → Int → Int → Int → Int → Int → Int → Int → Int → Int → Int → Int → Int → Int → Int) (o_fuse_Pull_3 : Nat → Int → Int → Int → Int → Int → Int → Int → Int → Int → Int → Int → Int → Int → Int) (o_fuse_Pull_4 : Nat → Int → Int → Int → Int → Int → Int → Int → Int → Int → Int → Int → Int → Int → Int) (L_law28_FuseComes_0 : Nat → (Int → Int → Int → Int → Int → Int → Bool → Int → Int → Int → Int → Int → Int → Int → Int → Int → Int → Int → Int → Int → Int → Int → R) → (Int → Int → Int → Int → Int → Int → Bool → Int → Int → Int → Int → Int → Int → Int → Int → Int → R) → Nat → Int → Int → Int → Int → Int → Int → Bool → Int → Int → Int → Int → Int → Int → Int → Int → Int → R), iterC (codeL PP (words [(9, spec ti_law28_works to_law28_works (fun q => (ok_law28_works F )) (fun q => [.b (o_law28_works_0 F )])), (10, spec ti_fuse_Check to_fuse_Check (fun q => (ok_fuse_Check F (atI (nth q 0)) (atI (nth q 1)) (atI (nth q 2)) (atI (nth q 3)))) (fun q => [.i (o_fuse_Check_0 F (atI (nth q 0)) (atI (nth q 1)) (atI (nth q 2)) (atI (nth q 3)))])), (11, spec ti_fuse_Pull to_fuse_Pull (fun q => (ok_fuse_Pull F (atI (nth q 0)) (atI (nth q 1)) (atI (nth q 2)) (atI (nth q 3)) (atI (nth q 4)) (atI (nth q 5)) (atI (nth q 6)) (atI (nth q 7)) (atI (nth q 8)) (atI (nth q 9)) (atI (nth q 10)) (atI (nth q 11)) (atI (nth q 12)))) (fun q => [.i (o_fuse_Pull_0 F (atI (nth q 0)) (atI (nth q 1)) (atI (nth q 2)) (atI (nth q 3)) (atI (nth q 4)) (atI (nth q 5)) (atI (nth q 6)) (atI (nth q 7)) (atI (nth q 8)) (atI (nth q 9)) (atI (nth q 10)) (atI (nth q 11)) (atI (nth q 12))), .i (o_fuse_Pull_1 F (atI (nth q 0)) (atI (nth q 1)) (atI (nth q 2)) (atI (nth q 3)) (atI (nth q 4)) (atI (nth q 5)) (atI (nth q 6)) (atI (nth q 7)) (atI (nth q 8)) (atI (nth q 9)) (atI (nth q 10)) (atI (nth q 11)) (atI (nth q 12))), .i (o_fuse_Pull_2 F (atI (nth q 0)) (atI (nth q 1)) (atI (nth q 2)) (atI (nth q 3)) (atI (nth q 4)) (atI (nth q 5)) (atI (nth q 6)) (atI (nth q 7)) (atI (nth q 8)) (atI (nth q 9)) (atI (nth q 10)) (atI (nth q 11)) (atI (nth q 12))), .i (o_fuse_Pull_3 F (atI (nth q 0)) (atI (nth q 1)) (atI (nth q 2)) (atI (nth q 3)) (atI (nth q 4)) (atI (nth q 5)) (atI (nth q 6)) (atI (nth q 7)) (atI (nth q 8)) (atI (nth q 9)) (atI (nth q 10)) (atI (nth q 11)) (atI (nth q 12))), .i (o_fuse_Pull_4 F (atI (nth q 0)) (atI (nth q 1)) (atI (nth q 2)) (atI (nth q 3)) (atI (nth q 4)) (atI (nth q 5)) (atI (nth q 6)) (atI (nth q 7)) (atI (nth q 8)) (atI (nth q 9)) (atI (nth q 10)) (atI (nth q 11)) (atI (nth q 12)))]))]) c_law28_FuseComes (tabI c_law28_FuseComes [⟨0, T_law28_FuseComes_0, fun k q => L_law28_FuseComes_0 F (fun (z0 : Int) (z1 : Int) (z2 : Int) (z3 : Int) (z4 : Int) (z5 : Int) (z6 : Bool) (z7 : Int) (z8 : Int) (z9 : Int) (z10 : Int) (z11 : Int) (z12 : Int) (z13 : Int) (z14 : Int) (z15 : Int) (z16 : Int) (z17 : Int) (z18 : Int) (z19 : Int) (z20 : Int) (z21 : Int) => k .ret (fS T_law28_FuseComes_0_0 [.i z0, .i z1, .i z2, .i z3, .i z4, .i z5, .b z6, .i z7, .i z8, .i z9, .i z10, .i z11, .i z12, .i z13, .i z14, .i z15, .i z16, .i z17, .i z18, .i z19, .i z20, .i z21])) (fun (z0 : Int) (z1 : Int) (z2 : Int) (z3 : Int) (z4 : Int) (z5 : Int) (z6 : Bool) (z7 : Int) (z8 : Int) (z9 : Int) (z10 : Int) (z11 : Int) (z12 : Int) (z13 : Int) (z14 : Int) (z15 : Int) => k (.exit 0) (fS T_law28_FuseComes_0_1 [.i z0, .i z1, .i z2, .i z3, .i z4, .i z5, .b z6, .i z7, .i z8, .i z9, .i z10, .i z11, .i z12, .i z13, .i z14, .i z15])) F (atI (nth q 0)) (atI (nth q 1)) (atI (nth q 2)) (atI (nth q 3)) (atI (nth q 4)) (atI (nth q 5)) (atB (nth q 6)) (atI (nth q 7)) (atI (nth q 8)) (atI (nth q 9)) (atI (nth q 10)) (atI (nth q 11)) (atI (nth q 12)) (atI (nth q 13)) (atI (nth q 14)) (atI (nth q 15))⟩]) (tabJ []) (loopAt PP 3 0) 0) (headOf c_law28_FuseComes 0) k (n + 1) (fS T_law28_FuseComes_0 [.i x0, .i x1, .i x2, .i x3, .i x4, .i x5, .b x6, .i x7, .i x8, .i x9, .i x10, .i x11, .i x12, .i x13, .i x14, .i x15]) = (fun (rc : Int → Int → Int → Int → Int → Int → Bool → Int → Int → Int → Int → Int → Int → Int → Int → Int → R) (ex0 : Int → Int → Int → Int → Int → Int → Bool → Int → Int → Int → Int → Int → Int → Int → Int → Int → Int → Int → Int → Int → Int → Int → R) (ex1 : Int → Int → Int → Int → Int → Int → Bool → Int → Int → Int → Int → Int → Int → Int → Int → Int → R) (x0 : Int) (x1 : Int) (x2 : Int) (x3 : Int) (x4 : Int) (x5 : Int) (x6 : Bool) (x7 : Int) (x8 : Int) (x9 : Int) (x10 : Int) (x11 : Int) (x12 : Int) (x13 : Int) (x14 : Int) (x15 : Int) => (
  bif ((decide (x7 < ((IntKind.wrap .i64 ((Int.tmod x5 60))))))) then (
    let v3338 : Int := (IntKind.wrap .i64 (x4 - x13))
    bif (ok_fuse_Pull F x8 x9 x10 x11 x12 x13 x14 x15 0 v3338 0 3 x7) then (
      let v3339 : Int := (o_fuse_Pull_0 F x8 x9 x10 x11 x12 x13 x14 x15 0 v3338 0 3 x7)
      let v3340 : Int := (o_fuse_Pull_1 F x8 x9 x10 x11 x12 x13 x14 x15 0 v3338 0 3 x7)
      let v3341 : Int := (o_fuse_Pull_2 F x8 x9 x10 x11 x12 x13 x14 x15 0 v3338 0 3 x7)
      let v3342 : Int := (o_fuse_Pull_3 F x8 x9 x10 x11 x12 x13 x14 x15 0 v3338 0 3 x7)
      let v3343 : Int := (o_fuse_Pull_4 F x8 x9 x10 x11 x12 x13 x14 x15 0 v3338 0 3 x7)
      bif ((v3343 != 0)) then (
        ex0 x0 x1 x2 x3 x4 x5 false x7 x13 v3343 x8 x9 x10 x11 x12 x13 x14 x15 v3339 v3340 v3341 v3342)
      else (
        bif ((v3339 != 0)) then (
          ex0 x0 x1 x2 x3 x4 x5 false x7 x13 v3343 x8 x9 x10 x11 x12 x13 x14 x15 v3339 v3340 v3341 v3342)
        else (
          bif ((decide (x4 ≥ 0))) then (
            bif ((decide (v3340 > x4))) then (
              ex0 x0 x1 x2 x3 x4 x5 false x7 x13 v3343 x8 x9 x10 x11 x12 x13 x14 x15 v3339 v3340 v3341 v3342)
            else (
              bif ((decide (v3340 < x13))) then (
                ex0 x0 x1 x2 x3 x4 x5 false x7 x13 v3343 x8 x9 x10 x11 x12 x13 x14 x15 v3339 v3340 v3341 v3342)
              else (
                bif ((decide (x4 < 0))) then (
                  bif ((decide (v3340 < x4))) then (
                    ex0 x0 x1 x2 x3 x4 x5 false x7 x13 v3343 x8 x9 x10 x11 x12 x13 x14 x15 v3339 v3340 v3341 v3342)
                  else (
                    bif ((decide (v3340 > x13))) then (
                      ex0 x0 x1 x2 x3 x4 x5 false x7 x13 v3343 x8 x9 x10 x11 x12 x13 x14 x15 v3339 v3340 v3341 v3342)
                    else (
                      rc x0 x1 x2 x3 x4 x5 x6 ((IntKind.wrap .i64 (x7 + 1))) x8 x9 x10 x11 v3339 v3340 v3341 v3342)))
                else (
                  rc x0 x1 x2 x3 x4 x5 x6 ((IntKind.wrap .i64 (x7 + 1))) x8 x9 x10 x11 v3339 v3340 v3341 v3342))))
          else (
            bif ((decide (x4 < 0))) then (
              bif ((decide (v3340 < x4))) then (
                ex0 x0 x1 x2 x3 x4 x5 false x7 x13 v3343 x8 x9 x10 x11 x12 x13 x14 x15 v3339 v3340 v3341 v3342)
              else (
                bif ((decide (v3340 > x13))) then (
                  ex0 x0 x1 x2 x3 x4 x5 false x7 x13 v3343 x8 x9 x10 x11 x12 x13 x14 x15 v3339 v3340 v3341 v3342)
                else (
                  rc x0 x1 x2 x3 x4 x5 x6 ((IntKind.wrap .i64 (x7 + 1))) x8 x9 x10 x11 v3339 v3340 v3341 v3342)))
            else (
              rc x0 x1 x2 x3 x4 x5 x6 ((IntKind.wrap .i64 (x7 + 1))) x8 x9 x10 x11 v3339 v3340 v3341 v3342)))))
    else (
      none))
  else (
    ex1 x0 x1 x2 x3 x4 x5 x6 x7 x8 x9 x10 x11 x12 x13 x14 x15) : R)) (fun (y0 : Int) (y1 : Int) (y2 : Int) (y3 : Int) (y4 : Int) (y5 : Int) (y6 : Bool) (y7 : Int) (y8 : Int) (y9 : Int) (y10 : Int) (y11 : Int) (y12 : Int) (y13 : Int) (y14 : Int) (y15 : Int) => iterC (codeL PP (words [(9, spec ti_law28_works to_law28_works (fun q => (ok_law28_works F )) (fun q => [.b (o_law28_works_0 F )])), (10, spec ti_fuse_Check to_fuse_Check (fun q => (ok_fuse_Check F (atI (nth q 0)) (atI (nth q 1)) (atI (nth q 2)) (atI (nth q 3)))) (fun q => [.i (o_fuse_Check_0 F (atI (nth q 0)) (atI (nth q 1)) (atI (nth q 2)) (atI (nth q 3)))])), (11, spec ti_fuse_Pull to_fuse_Pull (fun q => (ok_fuse_Pull F (atI (nth q 0)) (atI (nth q 1)) (atI (nth q 2)) (atI (nth q 3)) (atI (nth q 4)) (atI (nth q 5)) (atI (nth q 6)) (atI (nth q 7)) (atI (nth q 8)) (atI (nth q 9)) (atI (nth q 10)) (atI (nth q 11)) (atI (nth q 12)))) (fun q => [.i (o_fuse_Pull_0 F (atI (nth q 0)) (atI (nth q 1)) (atI (nth q 2)) (atI (nth q 3)) (atI (nth q 4)) (atI (nth q 5)) (atI (nth q 6)) (atI (nth q 7)) (atI (nth q 8)) (atI (nth q 9)) (atI (nth q 10)) (atI (nth q 11)) (atI (nth q 12))), .i (o_fuse_Pull_1 F (atI (nth q 0)) (atI (nth q 1)) (atI (nth q 2)) (atI (nth q 3)) (atI (nth q 4)) (atI (nth q 5)) (atI (nth q 6)) (atI (nth q 7)) (atI (nth q 8)) (atI (nth q 9)) (atI (nth q 10)) (atI (nth q 11)) (atI (nth q 12))), .i (o_fuse_Pull_2 F (atI (nth q 0)) (atI (nth q 1)) (atI (nth q 2)) (atI (nth q 3)) (atI (nth q 4)) (atI (nth q 5)) (atI (nth q 6)) (atI (nth q 7)) (atI (nth q 8)) (atI (nth q 9)) (atI (nth q 10)) (atI (nth q 11)) (atI (nth q 12))), .i (o_fuse_Pull_3 F (atI (nth q 0)) (atI (nth q 1)) (atI (nth q 2)) (atI (nth q 3)) (atI (nth q 4)) (atI (nth q 5)) (atI (nth q 6)) (atI (nth q 7)) (atI (nth q 8)) (atI (nth q 9)) (atI (nth q 10)) (atI (nth q 11)) (atI (nth q 12))), .i (o_fuse_Pull_4 F (atI (nth q 0)) (atI (nth q 1)) (atI (nth q 2)) (atI (nth q 3)) (atI (nth q 4)) (atI (nth q 5)) (atI (nth q 6)) (atI (nth q 7)) (atI (nth q 8)) (atI (nth q 9)) (atI (nth q 10)) (atI (nth q 11)) (atI (nth q 12)))]))]) c_law28_FuseComes (tabI c_law28_FuseComes [⟨0, T_law28_FuseComes_0, fun k q => L_law28_FuseComes_0 F (fun (z0 : Int) (z1 : Int) (z2 : Int) (z3 : Int) (z4 : Int) (z5 : Int) (z6 : Bool) (z7 : Int) (z8 : Int) (z9 : Int) (z10 : Int) (z11 : Int) (z12 : Int) (z13 : Int) (z14 : Int) (z15 : Int) (z16 : Int) (z17 : Int) (z18 : Int) (z19 : Int) (z20 : Int) (z21 : Int) => k .ret (fS T_law28_FuseComes_0_0 [.i z0, .i z1, .i z2, .i z3, .i z4, .i z5, .b z6, .i z7, .i z8, .i z9, .i z10, .i z11, .i z12, .i z13, .i z14, .i z15, .i z16, .i z17, .i z18, .i z19, .i z20, .i z21])) (fun (z0 : Int) (z1 : Int) (z2 : Int) (z3 : Int) (z4 : Int) (z5 : Int) (z6 : Bool) (z7 : Int) (z8 : Int) (z9 : Int) (z10 : Int) (z11 : Int) (z12 : Int) (z13 : Int) (z14 : Int) (z15 : Int) => k (.exit 0) (fS T_law28_FuseComes_0_1 [.i z0, .i z1, .i z2, .i z3, .i z4, .i z5, .b z6, .i z7, .i z8, .i z9, .i z10, .i z11, .i z12, .i z13, .i z14, .i z15])) F (atI (nth q 0)) (atI (nth q 1)) (atI (nth q 2)) (atI (nth q 3)) (atI (nth q 4)) (atI (nth q 5)) (atB (nth q 6)) (atI (nth q 7)) (atI (nth q 8)) (atI (nth q 9)) (atI (nth q 10)) (atI (nth q 11)) (atI (nth q 12)) (atI (nth q 13)) (atI (nth q 14)) (atI (nth q 15))⟩]) (tabJ []) (loopAt PP 3 0) 0) (headOf c_law28_FuseComes 0) k n (fS T_law28_FuseComes_0 [.i y0, .i y1, .i y2, .i y3, .i y4, .i y5, .b y6, .i y7, .i y8, .i y9, .i y10, .i y11, .i y12, .i y13, .i y14, .i y15])) (fun (z0 : Int) (z1 : Int) (z2 : Int) (z3 : Int) (z4 : Int) (z5 : Int) (z6 : Bool) (z7 : Int) (z8 : Int) (z9 : Int) (z10 : Int) (z11 : Int) (z12 : Int) (z13 : Int) (z14 : Int) (z15 : Int) (z16 : Int) (z17 : Int) (z18 : Int) (z19 : Int) (z20 : Int) (z21 : Int) => k .ret (fS T_law28_FuseComes_0_0 [.i z0, .i z1, .i z2, .i z3, .i z4, .i z5, .b z6, .i z7, .i z8, .i z9, .i z10, .i z11, .i z12, .i z13, .i z14, .i z15, .i z16, .i z17, .i z18, .i z19, .i z20, .i z21])) (fun (z0 : Int) (z1 : Int) (z2 : Int) (z3 : Int) (z4 : Int) (z5 : Int) (z6 : Bool) (z7 : Int) (z8 : Int) (z9 : Int) (z10 : Int) (z11 : Int) (z12 : Int) (z13 : Int) (z14 : Int) (z15 : Int) => k (.exit 0) (fS T_law28_FuseComes_0_1 [.i z0, .i z1, .i z2, .i z3, .i z4, .i z5, .b z6, .i z7, .i z8, .i z9, .i z10, .i z11, .i z12, .i z13, .i z14, .i z15])) x0 x1 x2 x3 x4 x5 x6 x7 x8 x9 x10 x11 x12 x13 x14 x15 := by
      intros
      kernel_rfl
    have h : iterC (codeL PP (S_law28_FuseComes F) c_law28_FuseComes (I_law28_FuseComes F) (J_law28_FuseComes F) (loopAt PP 3 0) 0) (headOf c_law28_FuseComes 0) k (n + 1) (fS T_law28_FuseComes_0 [.i x0, .i x1, .i x2, .i x3, .i x4, .i x5, .b x6, .i x7, .i x8, .i x9, .i x10, .i x11, .i x12, .i x13, .i x14, .i x15]) = B_law28_FuseComes_0 F (fun (y0 : Int) (y1 : Int) (y2 : Int) (y3 : Int) (y4 : Int) (y5 : Int) (y6 : Bool) (y7 : Int) (y8 : Int) (y9 : Int) (y10 : Int) (y11 : Int) (y12 : Int) (y13 : Int) (y14 : Int) (y15 : Int) => iterC (codeL PP (S_law28_FuseComes F) c_law28_FuseComes (I_law28_FuseComes F) (J_law28_FuseComes F) (loopAt PP 3 0) 0) (headOf c_law28_FuseComes 0) k n (fS T_law28_FuseComes_0 [.i y0, .i y1, .i y2, .i y3, .i y4, .i y5, .b y6, .i y7, .i y8, .i y9, .i y10, .i y11, .i y12, .i y13, .i y14, .i y15])) (fun (z0 : Int) (z1 : Int) (z2 : Int) (z3 : Int) (z4 : Int) (z5 : Int) (z6 : Bool) (z7 : Int) (z8 : Int) (z9 : Int) (z10 : Int) (z11 : Int) (z12 : Int) (z13 : Int) (z14 : Int) (z15 : Int) (z16 : Int) (z17 : Int) (z18 : Int) (z19 : Int) (z20 : Int) (z21 : Int) => k .ret (fS T_law28_FuseComes_0_0 [.i z0, .i z1, .i z2, .i z3, .i z4, .i z5, .b z6, .i z7, .i z8, .i z9, .i z10, .i z11, .i z12, .i z13, .i z14, .i z15, .i z16, .i z17, .i z18, .i z19, .i z20, .i z21])) (fun (z0 : Int) (z1 : Int) (z2 : Int) (z3 : Int) (z4 : Int) (z5 : Int) (z6 : Bool) (z7 : Int) (z8 : Int) (z9 : Int) (z10 : Int) (z11 : Int) (z12 : Int) (z13 : Int) (z14 : Int) (z15 : Int) => k (.exit 0) (fS T_law28_FuseComes_0_1 [.i z0, .i z1, .i z2, .i z3, .i z4, .i z5, .b z6, .i z7, .i z8, .i z9, .i z10, .i z11, .i z12, .i z13, .i z14, .i z15])) x0 x1 x2 x3 x4 x5 x6 x7 x8 x9 x10 x11 x12 x13 x14 x15 := (h0 ok_law28_works o_law28_works_0 ok_fuse_Check o_fuse_Check_0 ok_fuse_Pull o_fuse_Pull_0 o_fuse_Pull_1 o_fuse_Pull_2 o_fuse_Pull_3 o_fuse_Pull_4 L_law28_FuseComes_0).trans (by kernel_rfl)
    rw [h]
    simp only [lL_law28_FuseComes_0 F k n]
    rfl
def f_law28_FuseComes (F : Nat) (a0 : Int) (a1 : Int) (a2 : Int) (a3 : Int) (a4 : Int) (a5 : Int) : R :=
  bif (ok_law28_works F) then (
    bif ((!((o_law28_works_0 F)))) then (
      some (.v (.bool false)))
    else (
      bif (ok_fuse_Check F a0 a1 a2 a3) then (
        bif ((((o_fuse_Check_0 F a0 a1 a2 a3)) != 0)) then (
          some (.v (.bool true)))
        else (
          bif ((a4 == (-9223372036854775808))) then (
            some (.v (.bool true)))
          else (
            L_law28_FuseComes_0 F (fun (v3359 : Int) (v3360 : Int) (v3361 : Int) (v3362 : Int) (v3363 : Int) (v3364 : Int) (v3365 : Bool) (v3366 : Int) (v3367 : Int) (v3368 : Int) (v3369 : Int) (v3370 : Int) (v3371 : Int) (v3372 : Int) (v3373 : Int) (v3374 : Int) (v3375 : Int) (v3376 : Int) (v3377 : Int) (v3378 : Int) (v3379 : Int) (v3380 : Int) =>
              some (.v (.bool v3365))) (fun (v3381 : Int) (v3382 : Int) (v3383 : Int) (v3384 : Int) (v3385 : Int) (v3386 : Int) (v3387 : Bool) (v3388 : Int) (v3389 : Int) (v3390 : Int) (v3391 : Int) (v3392 : Int) (v3393 : Int) (v3394 : Int) (v3395 : Int) (v3396 : Int) =>
              some (.v (.bool true))) F a0 a1 a2 a3 a4 a5 false 0 a0 a1 a2 a3 0 0 0 0)))
      else (
        none)))
  else (
    none)
theorem e_law28_FuseComes (F : Nat) (a0 : Int) (a1 : Int) (a2 : Int) (a3 : Int) (a4 : Int) (a5 : Int) : funL PP (S_law28_FuseComes F) c_law28_FuseComes (I_law28_FuseComes F) (J_law28_FuseComes F) 3 (fTs ti_law28_FuseComes [.i a0, .i a1, .i a2, .i a3, .i a4, .i a5]).1 = f_law28_FuseComes F a0 a1 a2 a3 a4 a5 := by
  have h : ∀ (ok_law28_works : Nat → Bool) (o_law28_works_0 : Nat → Bool) (ok_fuse_Check : Nat → Int → Int → Int → Int → Bool) (o_fuse_Check_0 : Nat → Int → Int → Int → Int → Int) (ok_fuse_Pull : Nat → Int → Int → Int → Int → Int → Int → Int → Int → Int → Int → Int → Int → Int → Bool) (o_fuse_Pull_0 : Nat → Int → Int → Int → Int → Int → Int → Int → Int → Int → Int → Int → Int → Int → Int) (o_fuse_Pull_1 : Nat → Int → Int → Int → Int → Int → Int → Int → Int → Int → Int → Int → Int → Int → Int) (o_fuse_Pull_2 : Nat → Int → Int → Int → Int → Int → Int → Int → Int → Int → Int → Int → Int → Int → Int) (o_fuse_Pull_3 : Nat → Int → Int → Int → Int → Int → Int → Int → Int → Int → Int → Int → Int → Int → Int) (o_fuse_Pull_4 : Nat → Int → Int → Int → Int → Int → Int → Int → Int → Int → Int → Int → Int → Int → Int) (L_law28_FuseComes_0 : Nat → (Int → Int → Int → Int → Int → Int → Bool → Int → Int → Int → Int → Int → Int → Int → Int → Int → Int → Int → Int → Int → Int → Int → R) → (Int → Int → Int → Int → Int → Int → Bool → Int → Int → Int → Int → Int → Int → Int → Int → Int → R) → Nat → Int → Int → Int → Int → Int → Int → Bool → Int → Int → Int → Int → Int → Int → Int → Int → Int → R), funL PP (words [(9, spec ti_law28_works to_law28_works (fun q => (ok_law28_works F )) (fun q => [.b (o_law28_works_0 F )])), (10, spec ti_fuse_Check to_fuse_Check (fun q => (ok_fuse_Check F (atI (nth q 0)) (atI (nth q 1)) (atI (nth q 2)) (atI (nth q 3)))) (fun q => [.i (o_fuse_Check_0 F (atI (nth q 0)) (atI (nth q 1)) (atI (nth q 2)) (atI (nth q 3)))])), (11, spec ti_fuse_Pull to_fuse_Pull (fun q => (ok_fuse_Pull F (atI (nth q 0)) (atI (nth q 1)) (atI (nth q 2)) (atI (nth q 3)) (atI (nth q 4)) (atI (nth q 5)) (atI (nth q 6)) (atI (nth q 7)) (atI (nth q 8)) (atI (nth q 9)) (atI (nth q 10)) (atI (nth q 11)) (atI (nth q 12)))) (fun q => [.i (o_fuse_Pull_0 F (atI (nth q 0)) (atI (nth q 1)) (atI (nth q 2)) (atI (nth q 3)) (atI (nth q 4)) (atI (nth q 5)) (atI (nth q 6)) (atI (nth q 7)) (atI (nth q 8)) (atI (nth q 9)) (atI (nth q 10)) (atI (nth q 11)) (atI (nth q 12))), .i (o_fuse_Pull_1 F (atI (nth q 0)) (atI (nth q 1)) (atI (nth q 2)) (atI (nth q 3)) (atI (nth q 4)) (atI (nth q 5)) (atI (nth q 6)) (atI (nth q 7)) (atI (nth q 8)) (atI (nth q 9)) (atI (nth q 10)) (atI (nth q 11)) (atI (nth q 12))), .i (o_fuse_Pull_2 F (atI (nth q 0)) (atI (nth q 1)) (atI (nth q 2)) (atI (nth q 3)) (atI (nth q 4)) (atI (nth q 5)) (atI (nth q 6)) (atI (nth q 7)) (atI (nth q 8)) (atI (nth q 9)) (atI (nth q 10)) (atI (nth q 11)) (atI (nth q 12))), .i (o_fuse_Pull_3 F (atI (nth q 0)) (atI (nth q 1)) (atI (nth q 2)) (atI (nth q 3)) (atI (nth q 4)) (atI (nth q 5)) (atI (nth q 6)) (atI (nth q 7)) (atI (nth q 8)) (atI (nth q 9)) (atI (nth q 10)) (atI (nth q 11)) (atI (nth q 12))), .i (o_fuse_Pull_4 F (atI (nth q 0)) (atI (nth q 1)) (atI (nth q 2)) (atI (nth q 3)) (atI (nth q 4)) (atI (nth q 5)) (atI (nth q 6)) (atI (nth q 7)) (atI (nth q 8)) (atI (nth q 9)) (atI (nth q 10)) (atI (nth q 11)) (atI (nth q 12)))]))]) c_law28_FuseComes (tabI c_law28_FuseComes [⟨0, T_law28_FuseComes_0, fun k q => L_law28_FuseComes_0 F (fun (z0 : Int) (z1 : Int) (z2 : Int) (z3 : Int) (z4 : Int) (z5 : Int) (z6 : Bool) (z7 : Int) (z8 : Int) (z9 : Int) (z10 : Int) (z11 : Int) (z12 : Int) (z13 : Int) (z14 : Int) (z15 : Int) (z16 : Int) (z17 : Int) (z18 : Int) (z19 : Int) (z20 : Int) (z21 : Int) => k .ret (fS T_law28_FuseComes_0_0 [.i z0, .i z1, .i z2, .i z3, .i z4, .i z5, .b z6, .i z7, .i z8, .i z9, .i z10, .i z11, .i z12, .i z13, .i z14, .i z15, .i z16, .i z17, .i z18, .i z19, .i z20, .i z21])) (fun (z0 : Int) (z1 : Int) (z2 : Int) (z3 : Int) (z4 : Int) (z5 : Int) (z6 : Bool) (z7 : Int) (z8 : Int) (z9 : Int) (z10 : Int) (z11 : Int) (z12 : Int) (z13 : Int) (z14 : Int) (z15 : Int) => k (.exit 0) (fS T_law28_FuseComes_0_1 [.i z0, .i z1, .i z2, .i z3, .i z4, .i z5, .b z6, .i z7, .i z8, .i z9, .i z10, .i z11, .i z12, .i z13, .i z14, .i z15])) F (atI (nth q 0)) (atI (nth q 1)) (atI (nth q 2)) (atI (nth q 3)) (atI (nth q 4)) (atI (nth q 5)) (atB (nth q 6)) (atI (nth q 7)) (atI (nth q 8)) (atI (nth q 9)) (atI (nth q 10)) (atI (nth q 11)) (atI (nth q 12)) (atI (nth q 13)) (atI (nth q 14)) (atI (nth q 15))⟩]) (tabJ []) 3 (fTs ti_law28_FuseComes [.i a0, .i a1, .i a2, .i a3, .i a4, .i a5]).1 = (
  bif (ok_law28_works F) then (
    bif ((!((o_law28_works_0 F)))) then (
      some (.v (.bool false)))
    else (
      bif (ok_fuse_Check F a0 a1 a2 a3) then (
        bif ((((o_fuse_Check_0 F a0 a1 a2 a3)) != 0)) then (
          some (.v (.bool true)))
        else (
          bif ((a4 == (-9223372036854775808))) then (
            some (.v (.bool true)))
          else (
            L_law28_FuseComes_0 F (fun (v3359 : Int) (v3360 : Int) (v3361 : Int) (v3362 : Int) (v3363 : Int) (v3364 : Int) (v3365 : Bool) (v3366 : Int) (v3367 : Int) (v3368 : Int) (v3369 : Int) (v3370 : Int) (v3371 : Int) (v3372 : Int) (v3373 : Int) (v3374 : Int) (v3375 : Int) (v3376 : Int) (v3377 : Int) (v3378 : Int) (v3379 : Int) (v3380 : Int) =>
              some (.v (.bool v3365))) (fun (v3381 : Int) (v3382 : Int) (v3383 : Int) (v3384 : Int) (v3385 : Int) (v3386 : Int) (v3387 : Bool) (v3388 : Int) (v3389 : Int) (v3390 : Int) (v3391 : Int) (v3392 : Int) (v3393 : Int) (v3394 : Int) (v3395 : Int) (v3396 : Int) =>
              some (.v (.bool true))) F a0 a1 a2 a3 a4 a5 false 0 a0 a1 a2 a3 0 0 0 0)))
      else (
        none)))
  else (
    none) : R) := by
    intros
    kernel_rfl
  exact (h ok_law28_works o_law28_works_0 ok_fuse_Check o_fuse_Check_0 ok_fuse_Pull o_fuse_Pull_0 o_fuse_Pull_1 o_fuse_Pull_2 o_fuse_Pull_3 o_fuse_Pull_4 L_law28_FuseComes_0).trans (by kernel_rfl)
def ok_law28_FuseComes (F : Nat) (a0 : Int) (a1 : Int) (a2 : Int) (a3 : Int) (a4 : Int) (a5 : Int) : Bool := okT to_law28_FuseComes (f_law28_FuseComes F a0 a1 a2 a3 a4 a5)
def o_law28_FuseComes_0 (F : Nat) (a0 : Int) (a1 : Int) (a2 : Int) (a3 : Int) (a4 : Int) (a5 : Int) : Bool := atB (nth (outT to_law28_FuseComes (f_law28_FuseComes F a0 a1 a2 a3 a4 a5)) 0)
theorem k_law28_FuseComes (F : Nat) (a0 : Int) (a1 : Int) (a2 : Int) (a3 : Int) (a4 : Int) (a5 : Int) {z0 : Bool} (h : f_law28_FuseComes F a0 a1 a2 a3 a4 a5 = some (.v (.bool z0))) : ok_law28_FuseComes F a0 a1 a2 a3 a4 a5 = true ∧ o_law28_FuseComes_0 F a0 a1 a2 a3 a4 a5 = z0 := by
  refine ⟨?_, ?_⟩
  · unfold ok_law28_FuseComes; rw [h]; kernel_rfl
  · unfold o_law28_FuseComes_0; rw [h]; kernel_rfl
def s_law28_FuseComes (F : Nat) : List VV → Option (Bool × VV) := spec ti_law28_FuseComes to_law28_FuseComes (fun q => (ok_law28_FuseComes F (atI (nth q 0)) (atI (nth q 1)) (atI (nth q 2)) (atI (nth q 3)) (atI (nth q 4)) (atI (nth q 5)))) (fun q => [.b (o_law28_FuseComes_0 F (atI (nth q 0)) (atI (nth q 1)) (atI (nth q 2)) (atI (nth q 3)) (atI (nth q 4)) (atI (nth q 5)))])
theorem hS_law28_FuseComes (F : Nat) : ∀ f, Good PP f (unS (S_law28_FuseComes F f)) := words_good fun p hp => by
  simp only [List.mem_cons, List.not_mem_nil, or_false] at hp
  rcases hp with rfl | rfl | rfl
  · exact g_law28_works F
  · exact g_fuse_Check F
  · exact g_fuse_Pull F
theorem hl_law28_FuseComes (F : Nat) : ∀ p ∈ loopsIn PP 3, LoopOK PP (S_law28_FuseComes F) c_law28_FuseComes F (I_law28_FuseComes F) (J_law28_FuseComes F) p :=
  loops_of [(0, loopAt PP 3 0)] (by kernel_rfl) (all_cons
    (loop_ok (W_law28_FuseComes F) rfl (tab_cons (fun _ k q => Le.ofEq ((lL_law28_FuseComes_0 F k F (atI (nth q 0)) (atI (nth q 1)) (atI (nth q 2)) (atI (nth q 3)) (atI (nth q 4)) (atI (nth q 5)) (atB (nth q 6)) (atI (nth q 7)) (atI (nth q 8)) (atI (nth q 9)) (atI (nth q 10)) (atI (nth q 11)) (atI (nth q 12)) (atI (nth q 13)) (atI (nth q 14)) (atI (nth q 15))).symm.trans (congrArg (iterC (codeL PP (S_law28_FuseComes F) c_law28_FuseComes (I_law28_FuseComes F) (J_law28_FuseComes F) (loopAt PP 3 0) 0) (headOf c_law28_FuseComes 0) k F) (show fS T_law28_FuseComes_0 [.i (atI (nth q 0)), .i (atI (nth q 1)), .i (atI (nth q 2)), .i (atI (nth q 3)), .i (atI (nth q 4)), .i (atI (nth q 5)), .b (atB (nth q 6)), .i (atI (nth q 7)), .i (atI (nth q 8)), .i (atI (nth q 9)), .i (atI (nth q 10)), .i (atI (nth q 11)), .i (atI (nth q 12)), .i (atI (nth q 13)), .i (atI (nth q 14)), .i (atI (nth q 15))] = fS T_law28_FuseComes_0 q by kernel_rfl)))) tab_nil)) all_nil)
theorem hj_law28_FuseComes (F : Nat) : ∀ p ∈ joinsIn PP c_law28_FuseComes 3, JoinOK PP (S_law28_FuseComes F) c_law28_FuseComes (I_law28_FuseComes F) (J_law28_FuseComes F) p :=
  joins_of [] (by kernel_rfl) all_nil
theorem g_law28_FuseComes (F : Nat) : Good PP 3 (unS (s_law28_FuseComes F)) :=
  fun_spec (hS_law28_FuseComes F) (by kernel_rfl) (by kernel_rfl) (C := c_law28_FuseComes) (F := fun q => (f_law28_FuseComes F (atI (nth q 0)) (atI (nth q 1)) (atI (nth q 2)) (atI (nth q 3)) (atI (nth q 4)) (atI (nth q 5)))) (fun _ => F) (fun _ => I_law28_FuseComes F) (fun _ => J_law28_FuseComes F) (fun _ => hl_law28_FuseComes F) (fun _ => hj_law28_FuseComes F)
    (fun q => (congrArg (funL PP (S_law28_FuseComes F) c_law28_FuseComes (I_law28_FuseComes F) (J_law28_FuseComes F) 3) (show (fTs ti_law28_FuseComes q).1 = (fTs ti_law28_FuseComes [.i (atI (nth q 0)), .i (atI (nth q 1)), .i (atI (nth q 2)), .i (atI (nth q 3)), .i (atI (nth q 4)), .i (atI (nth q 5))]).1 by kernel_rfl)).trans (e_law28_FuseComes F (atI (nth q 0)) (atI (nth q 1)) (atI (nth q 2)) (atI (nth q 3)) (atI (nth q 4)) (atI (nth q 5))))
    (fun _ h => (okT_fill h).trans (congrArg some (by kernel_rfl)))

end Go.Xv
namespace Go.Xv
theorem p2pos (n : Nat) : (0 : Int) < 2 ^ n := Int.pow_pos (by decide)
theorem p2add (a b : Nat) : (2 : Int) ^ a * 2 ^ b = 2 ^ (a + b) := (Int.pow_add 2 a b).symm
theorem p2_64 {m : Nat} (h : m ≤ 64) : (2 : Int) ^ m * 2 ^ (64 - m) = 18446744073709551616 := by
  rw [p2add, show m + (64 - m) = 64 by omega]; decide
theorem p2cast (k : Nat) : ((2 ^ k : Nat) : Int) = 2 ^ k := by push_cast; rfl
theorem emod_mul {a P Q : Int} (hP : 0 < P) : (a * P) % (P * Q) = (a % Q) * P := by
  rw [Int.mul_comm a P, Int.mul_emod_mul_of_pos _ _ hP, Int.mul_comm]

theorem shl_small {h l : Int} {m : Nat} (hl : U64 l) (hm : m < 64) :
    IntKind.wrap .i64 (orI .u64 (((h % 18446744073709551616) * 2 ^ m) % 18446744073709551616) (l / 2 ^ (64 - m))) = hi (val h l * 2 ^ m) ∧ (l * 2 ^ m) % 18446744073709551616 = lo (val h l * 2 ^ m) := by
  have hP := p2pos m
  have hQ := p2pos (64 - m)
  have hPQ := p2_64 (m := m) (by omega)
  have eP : ((2 ^ m : Nat) : Int) = 2 ^ m := p2cast _
  have orq := fun a b => or_add_u64 m (a := a) (b := b)
  rw [eP] at orq
  generalize (2 : Int) ^ m = P at *
  generalize (2 : Int) ^ (64 - m) = Q at *
  have hv : val h l * P = h * P * 18446744073709551616 + l * P := by
    unfold val
    rw [Int.add_mul]
    have : h * 18446744073709551616 * P = h * P * 18446744073709551616 := by simp only [Int.mul_comm, Int.mul_assoc, Int.mul_left_comm]
    omega
  have hlP : 0 ≤ l / Q ∧ l / Q < P := by
    unfold U64 at hl
    exact ⟨Int.ediv_nonneg hl.1 (by omega), Int.ediv_lt_of_lt_mul hQ (by omega)⟩
  rw [hv]
  have e3 : (l * P) / 18446744073709551616 = l / Q := by
    rw [← hPQ, ← Int.ediv_ediv_of_nonneg (by omega), Int.mul_ediv_cancel _ (by omega)]
  constructor
  · have e1 : ((h % 18446744073709551616) * P) % 18446744073709551616 = (h % Q) * P := by
      rw [← hPQ, emod_mul hP, Int.emod_emod_of_dvd h (show Q ∣ P * Q from ⟨P, Int.mul_comm P Q⟩)]
    have b1 := Int.emod_nonneg h (show Q ≠ 0 by omega)
    have b2 := Int.emod_lt_of_pos h hQ
    have b3 : (h % Q) * P + l / Q < 18446744073709551616 := by
      have : (h % Q) * P ≤ (Q - 1) * P := Int.mul_le_mul_of_nonneg_right (by omega) (by omega)
      rw [Int.sub_mul, Int.mul_comm Q P] at this
      omega
    have b4 := Int.mul_nonneg b1 (show 0 ≤ P by omega)
    rw [e1, orq _ _ b1 hlP.1 hlP.2 b3, wi64]
    unfold hi
    have e2 : (h * P) % 18446744073709551616 = (h % Q) * P := by rw [← hPQ, emod_mul hP]
    rw [show (h * P * 18446744073709551616 + l * P) / 18446744073709551616 = h * P + (l * P) / 18446744073709551616 by omega, e3]
    omega
  · unfold lo
    omega

theorem shl_great {h l : Int} {m : Nat} (hm : 64 ≤ m) :
    IntKind.wrap .i64 ((l * 2 ^ (m - 64)) % 18446744073709551616) = hi (val h l * 2 ^ m) ∧ 0 = lo (val h l * 2 ^ m) := by
  have e : (2 : Int) ^ m = 2 ^ (m - 64) * 18446744073709551616 := by
    rw [show (18446744073709551616 : Int) = 2 ^ 64 by decide, p2add, show (m - 64) + 64 = m by omega]
  rw [e]
  generalize (2 : Int) ^ (m - 64) = P at *
  have hv : val h l * (P * 18446744073709551616) = (h * P * 18446744073709551616 + l * P) * 18446744073709551616 := by
    unfold val
    simp only [Int.add_mul]
    have : h * 18446744073709551616 * (P * 18446744073709551616) = h * P * 18446744073709551616 * 18446744073709551616 := by simp only [Int.mul_comm, Int.mul_assoc, Int.mul_left_comm]
    have : l * (P * 18446744073709551616) = l * P * 18446744073709551616 := by simp only [Int.mul_assoc]
    omega
  rw [hv]
  generalize h * P = a
  generalize l * P = b
  constructor
  · rw [wi64]; unfold hi; omega
  · unfold lo; omega
theorem shl_all {h l : Int} {m : Nat} (hm : 128 ≤ m) : 0 = hi (val h l * 2 ^ m) ∧ 0 = lo (val h l * 2 ^ m) := by
  have e : (2 : Int) ^ m = 2 ^ (m - 128) * 340282366920938463463374607431768211456 := by
    rw [show (340282366920938463463374607431768211456 : Int) = 2 ^ 128 by decide, p2add, show (m - 128) + 128 = m by omega]
  rw [e, ← Int.mul_assoc]
  generalize val h l * 2 ^ (m - 128) = b
  constructor
  · unfold hi; omega
  · unfold lo; omega
end Go.Xv
namespace Go.Xv
/-- one bit of a number -/
def dg (z : Int) (i : Nat) : Int := z / 2 ^ i % 2
def ds (z : Int) (n : Nat) : List VV := (List.range n).map fun i => .v (.int .i64 (dg z i))
end Go.Xv
namespace Go.Xv
def angs : List Int := [536870912, 316933406, 167458907, 85004756, 42667331, 21354465, 10679838, 5340245, 2670163, 1335087, 667544, 333772, 166886, 83443, 41722, 20861, 10430, 5215, 2608, 1304, 652, 326, 163, 81, 41, 20, 10, 5, 3, 1]
def tA (i : Nat) : Int := angs.getD i 0
end Go.Xv
namespace Go.Xv
theorem bp {α : Type} {c : Bool} {a b x : α} (h : c = true) (h2 : a = x) : (bif c then a else b) = x := by rw [h]; exact h2
theorem bn {α : Type} {c : Bool} {a b x : α} (h : c = false) (h2 : b = x) : (bif c then a else b) = x := by rw [h]; exact h2
theorem dt {p : Prop} [Decidable p] (h : p) : decide p = true := decide_eq_true h
theorem df {p : Prop} [Decidable p] (h : ¬ p) : decide p = false := decide_eq_false h
theorem fdiv_pos (a : Int) {b : Int} (h : 0 ≤ b) : Int.fdiv a b = a / b := Int.fdiv_eq_ediv_of_nonneg a h
theorem some_int {k : IntKind} {a b : Int} (h : a = b) : (some (VV.v (.int k a)) : R) = some (.v (.int k b)) := by rw [h]
theorem some_wd {a b : Int} {z : Int} (h : a = hi z) (k : b = lo z) : (some (VV.v (.agg #[.int .i64 a, .int .u64 b])) : R) = some (wd z) := by rw [h, k]; rfl

theorem f_Add (F : Nat) {a b c d : Int} (hb : U64 b) (hd : U64 d) : f_wide_Add F a b c d = some (wd (val a b + val c d)) := by
  unfold f_wide_Add
  unfold U64 at hb hd
  simp only [wu64, wi64]
  by_cases h : (b + d) % 18446744073709551616 < b
  · refine bp (dt h) (some_wd ?_ ?_)
    · unfold hi val; omega
    · unfold lo val; omega
  · refine bn (df h) (some_wd ?_ ?_)
    · unfold hi val; omega
    · unfold lo val; omega

end Go.Xv
namespace Go.Xv
theorem some_bool {a b : Bool} (h : a = b) : (some (VV.v (.bool a)) : R) = some (.v (.bool b)) := by rw [h]
theorem nn (k : Nat) : (!decide ((k : Int) < 0)) = true := by rw [df (by omega)]; rfl
theorem p2min {m : Nat} (h : m ≤ 64) : min (Int.toNat (m : Int)) 64 = m := by omega

theorem f_Of (F : Nat) {n : Int} (h : I64 n) : f_wide_Of F n = some (wd n) := by
  unfold f_wide_Of
  unfold I64 at h
  refine some_wd ?_ ?_
  · rw [fdiv_pos _ (by decide)]; unfold hi; omega
  · rw [wu64]; rfl
theorem f_Left (F : Nat) {a b n : Int} (hb : U64 b) : f_wide_Left F a b n = some (wd (val a b * 2 ^ n.toNat)) := by
  unfold f_wide_Left
  have hv : (if 0 > n then 0 else n) = ((n.toNat : Nat) : Int) := by split <;> omega
  rw [hv]
  generalize n.toNat = m
  simp only [Int.toNat_natCast]
  by_cases h : 128 ≤ m
  · refine bp (dt (by omega)) ?_
    obtain ⟨h1, h2⟩ := shl_all (h := a) (l := b) h
    exact some_wd h1 h2
  · refine bn (df (by omega)) ?_
    by_cases h : 64 ≤ m
    · refine bp (dt (by omega)) ?_
      rw [wi64_in (x := (m : Int) - 64) (by unfold I64; omega), show (m : Int) - 64 = ((m - 64 : Nat) : Int) by omega]
      refine bp (nn _) ?_
      rw [p2min (by omega), wu64]
      obtain ⟨h1, h2⟩ := shl_great (h := a) (l := b) h
      exact some_wd h1 h2
    · refine bn (df (by omega)) ?_
      refine bp (nn _) ?_
      rw [wi64_in (x := 64 - (m : Int)) (by unfold I64; omega), show 64 - (m : Int) = ((64 - m : Nat) : Int) by omega]
      refine bp (nn _) (bp (nn _) ?_)
      rw [fdiv_pos _ (Int.le_of_lt (p2pos _)), show min m 64 = m by omega, p2min (by omega), wu64, wu64, wu64]
      obtain ⟨h1, h2⟩ := shl_small (h := a) hb (show m < 64 by omega)
      exact some_wd h1 h2

end Go.Xv
namespace Go.Xv
theorem a_Add (F : Nat) (x y : Int) : ok_wide_Add F (hi x) (lo x) (hi y) (lo y) = true ∧ o_wide_Add_0 F (hi x) (lo x) (hi y) (lo y) = hi (x + y) ∧ o_wide_Add_1 F (hi x) (lo x) (hi y) (lo y) = lo (x + y) := by
  obtain ⟨h1, h2, h3⟩ := k_wide_Add F _ _ _ _ (f_Add F (a := hi x) (c := hi y) (lo_U x) (lo_U y))
  rw [h2, h3, val_hl, val_hl]
  have e := (W_eqv x).add (W_eqv y)
  exact ⟨h1, hi_eqv e, lo_eqv e⟩
theorem a_Of (F : Nat) {n : Int} (h : I64 n) : ok_wide_Of F n = true ∧ o_wide_Of_0 F n = hi n ∧ o_wide_Of_1 F n = lo n := k_wide_Of F _ (f_Of F h)
theorem a_Left (F : Nat) (x : Int) (n : Int) : ok_wide_Left F (hi x) (lo x) n = true ∧ o_wide_Left_0 F (hi x) (lo x) n = hi (x * 2 ^ n.toNat) ∧ o_wide_Left_1 F (hi x) (lo x) n = lo (x * 2 ^ n.toNat) := by
  obtain ⟨h1, h2, h3⟩ := k_wide_Left F _ _ n (f_Left F (a := hi x) (n := n) (lo_U x))
  rw [h2, h3, val_hl]
  exact ⟨h1, hi_eqv ((W_eqv x).mul _), lo_eqv ((W_eqv x).mul _)⟩

end Go.Xv
namespace Go.Xv
def clipV (z : Int) : Int := if z < -9223372036854775808 then -9223372036854775808 else if 9223372036854775807 < z then 9223372036854775807 else z
def clipC (z : Int) : Bool := decide (z < -9223372036854775808 ∨ 9223372036854775807 < z)
theorem some_clip {n : Int} {c : Bool} {z : Int} (h : n = clipV z) (k : c = clipC z) : (some (VV.v (.tuple #[.int .i64 n, .bool c])) : R) = some (.v (.tuple #[.int .i64 (clipV z), .bool (clipC z)])) := by rw [h, k]
theorem f_Clip (F : Nat) {a b : Int} (ha : I64 a) (hb : U64 b) : f_wide_Clip F a b = some (.v (.tuple #[.int .i64 (clipV (val a b)), .bool (clipC (val a b))])) := by
  unfold f_wide_Clip
  dsimp only
  obtain ⟨o1, o2, o3⟩ := a_Of F (wi64_I b)
  refine bp o1 ?_
  rw [o2, o3, wi64]
  have hv : ∀ z, z = val a b → True := fun _ _ => trivial
  unfold I64 at ha
  unfold U64 at hb
  by_cases h : -9223372036854775808 ≤ val a b ∧ val a b ≤ 9223372036854775807
  · refine bp ?_ (some_clip ?_ ?_)
    · unfold val at h
      rw [Bool.and_eq_true, beq_iff_eq, beq_iff_eq]
      unfold hi lo; omega
    · unfold clipV
      rw [if_neg (by omega), if_neg (by omega)]
      unfold val at *; omega
    · unfold clipC
      exact (df (by omega)).symm
  · refine bn ?_ ?_
    · unfold val at h
      rw [Bool.and_eq_false_iff, beq_eq_false_iff_ne, beq_eq_false_iff_ne]
      unfold hi lo; omega
    · by_cases h2 : a < 0
      · refine bp (dt h2) (some_clip ?_ ?_)
        · unfold clipV
          rw [if_pos]
          unfold val at *; omega
        · unfold clipC
          refine (dt ?_).symm
          unfold val at *; omega
      · refine bn (df h2) (some_clip ?_ ?_)
        · unfold clipV
          rw [if_neg, if_pos]
          · unfold val at *; omega
          · unfold val at *; omega
        · unfold clipC
          refine (dt ?_).symm
          unfold val at *; omega
theorem a_Clip (F : Nat) {x : Int} (h : W128 x) : ok_wide_Clip F (hi x) (lo x) = true ∧ o_wide_Clip_0 F (hi x) (lo x) = clipV x ∧ o_wide_Clip_1 F (hi x) (lo x) = clipC x := by
  have := k_wide_Clip F _ _ (f_Clip F (hi_I x) (lo_U x))
  rw [val_hl, W_in h] at this
  exact this
end Go.Xv
namespace Go.Xv
abbrev cp (z : Int) : VV := .v (.tuple #[.int .i64 (clipV z), .bool (clipC z)])
theorem clip_in {z : Int} (h : I64 z) : clipV z = z ∧ clipC z = false := by
  unfold I64 at h
  unfold clipV clipC
  exact ⟨by rw [if_neg (by omega), if_neg (by omega)], df (by omega)⟩

theorem f_fclip (F : Nat) {z : Int} (h : W128 z) : f_fix_clip F (hi z) (lo z) = some (cp z) := by
  unfold f_fix_clip
  obtain ⟨h1, h2, h3⟩ := a_Clip F h
  refine bp h1 ?_
  rw [h2, h3]
theorem a_fclip (F : Nat) {z : Int} (h : W128 z) : ok_fix_clip F (hi z) (lo z) = true ∧ o_fix_clip_0 F (hi z) (lo z) = clipV z ∧ o_fix_clip_1 F (hi z) (lo z) = clipC z := k_fix_clip F _ _ (f_fclip F h)
theorem f_fof (F : Nat) {n : Int} (h : I64 n) : f_fix_of F n = some (wd n) := by
  unfold f_fix_of
  obtain ⟨h1, h2, h3⟩ := a_Of F h
  refine bp h1 ?_
  rw [h2, h3]; rfl
theorem a_fof (F : Nat) {n : Int} (h : I64 n) : ok_fix_of F n = true ∧ o_fix_of_0 F n = hi n ∧ o_fix_of_1 F n = lo n := k_fix_of F _ (f_fof F h)

theorem f_fAdd (F : Nat) {a b : Int} (ha : I64 a) (hb : I64 b) : f_fix_Add F a b = some (cp (a + b)) := by
  unfold f_fix_Add
  dsimp only
  have hs := wi64_I (a + b)
  have e := wi64 (a + b)
  generalize IntKind.wrap .i64 (a + b) = s at *
  have h1 := and_neg (xorI_I a s) (xorI_I b s)
  have h2 := xor_neg ha hs
  have h3 := xor_neg hb hs
  unfold I64 at ha hb hs
  by_cases h : -9223372036854775808 ≤ a + b ∧ a + b < 9223372036854775808
  · refine bp (dt ?_) (some_clip ?_ ?_)
    · have : ¬ andI .i64 (xorI .i64 a s) (xorI .i64 b s) < 0 := by
        rw [h1, h2, h3]; omega
      omega
    · rw [(clip_in h).1]; omega
    · rw [(clip_in h).2]
  · refine bn (df ?_) ?_
    · have : andI .i64 (xorI .i64 a s) (xorI .i64 b s) < 0 := by
        rw [h1, h2, h3]; omega
      omega
    · by_cases ha0 : a < 0
      · refine bp (dt ha0) (some_clip ?_ ?_)
        · unfold clipV; rw [if_pos (by omega)]
        · unfold clipC; exact (dt (by omega)).symm
      · refine bn (df ha0) (some_clip ?_ ?_)
        · unfold clipV; rw [if_neg (by omega), if_pos (by omega)]
        · unfold clipC; exact (dt (by omega)).symm
theorem a_fAdd (F : Nat) {a b : Int} (ha : I64 a) (hb : I64 b) : ok_fix_Add F a b = true ∧ o_fix_Add_0 F a b = clipV (a + b) ∧ o_fix_Add_1 F a b = clipC (a + b) := k_fix_Add F _ _ (f_fAdd F ha hb)
theorem f_fClamp (F : Nat) {a l h : Int} : f_fix_Clamp F a l h = some (.v (.tuple #[.int .i64 (if h < l then l else min (max a l) h), .bool (if h < l then true else decide (min (max a l) h ≠ a))])) := by
  unfold f_fix_Clamp
  dsimp only
  by_cases hl : h < l
  · refine bp (dt hl) ?_
    rw [if_pos hl, if_pos hl]
  · refine bn (df hl) ?_
    rw [if_neg hl, if_neg hl]
    have e : (if h < (if l > a then l else a) then h else (if l > a then l else a)) = min (max a l) h := by split <;> (try split) <;> omega
    have e2 : (min (max a l) h != a) = decide (min (max a l) h ≠ a) := by rw [Bool.eq_iff_iff]; simp
    rw [e, e2]
end Go.Xv
namespace Go.Xv
theorem f_vec_each' (F : Nat) (hF : 200 ≤ F) {a0 a1 a2 a3 : Int} {v0 v1 v2 : Int} {c0 c1 c2 : Bool} (h0 : ok_vec_Clamp_1 F 0 a0 a1 a2 a3 = true ∧ o_vec_Clamp_1_0 F 0 a0 a1 a2 a3 = v0 ∧ o_vec_Clamp_1_1 F 0 a0 a1 a2 a3 = c0) (h1 : ok_vec_Clamp_1 F 1 a0 a1 a2 a3 = true ∧ o_vec_Clamp_1_0 F 1 a0 a1 a2 a3 = v1 ∧ o_vec_Clamp_1_1 F 1 a0 a1 a2 a3 = c1) (h2 : ok_vec_Clamp_1 F 2 a0 a1 a2 a3 = true ∧ o_vec_Clamp_1_0 F 2 a0 a1 a2 a3 = v2 ∧ o_vec_Clamp_1_1 F 2 a0 a1 a2 a3 = c2) :
    f_vec_each F a0 a1 a2 a3 = some (.v (.tuple #[.agg #[.int .i64 v0, .int .i64 v1, .int .i64 v2], .bool (c0 || c1 || c2)])) := by
  obtain ⟨a1, a2, a3⟩ := h0
  obtain ⟨b1, b2, b3⟩ := h1
  obtain ⟨d1, d2, d3⟩ := h2
  obtain ⟨G, hG⟩ : ∃ G, F = G + 4 := ⟨F - 4, by omega⟩
  have w1 : IntKind.wrap .i64 (0 + 1) = 1 := by decide
  have w2 : IntKind.wrap .i64 (1 + 1) = 2 := by decide
  have w3 : IntKind.wrap .i64 (2 + 1) = 3 := by decide
  unfold f_vec_each
  rw [show L_vec_each_0 F _ F = L_vec_each_0 F _ (G + 4) from congrArg (L_vec_each_0 F _) hG, L_vec_each_0]
  unfold B_vec_each_0
  refine bp rfl (bp a1 (bn rfl (bp rfl (bp rfl ?_))))
  rw [a2, a3, w1, L_vec_each_0]
  unfold B_vec_each_0
  refine bp rfl (bp b1 ?_)
  rw [b2, b3, w2]
  cases c0
  · refine bn rfl (bp rfl (bp rfl ?_))
    rw [L_vec_each_0]
    unfold B_vec_each_0
    refine bp rfl (bp d1 ?_)
    rw [d2, d3, w3]
    cases c1
    · refine bn rfl (bp rfl (bp rfl ?_))
      rw [L_vec_each_0]
      unfold B_vec_each_0
      exact bn rfl (bp rfl rfl)
    · refine bp rfl (bp rfl (bp rfl ?_))
      rw [L_vec_each_0]
      unfold B_vec_each_0
      exact bn rfl (bp rfl rfl)
  · refine bp rfl (bp rfl (bp rfl ?_))
    rw [L_vec_each_0]
    unfold B_vec_each_0
    refine bp rfl (bp d1 ?_)
    rw [d2, w3]
    refine bp rfl (bp rfl (bp rfl ?_))
    rw [L_vec_each_0]
    unfold B_vec_each_0
    exact bn rfl (bp rfl (by rw [Bool.true_or, Bool.true_or]; rfl))
end Go.Xv
namespace Go.Xv
def clmV (a m : Int) : Int := min (max a (-m)) m
def clmC (a m : Int) : Bool := decide (min (max a (-m)) m ≠ a)
theorem w_neg {m : Int} (hm : 0 ≤ m ∧ m ≤ 9223372036854775807) : IntKind.wrap .i64 (0 - m) = -m := by rw [wi64_in (by unfold I64; omega), Int.zero_sub]
theorem clampF (F : Nat) {a m : Int} (hm : 0 ≤ m) : ok_fix_Clamp F a (-m) m = true ∧ o_fix_Clamp_0 F a (-m) m = clmV a m ∧ o_fix_Clamp_1 F a (-m) m = clmC a m := by
  obtain ⟨h1, h2, h3⟩ := k_fix_Clamp F _ _ _ (f_fClamp F (a := a) (l := -m) (h := m))
  rw [if_neg (by omega)] at h2 h3
  exact ⟨h1, h2, h3⟩
theorem a_Clamp_0 (F : Nat) {a0 a1 a2 m : Int} (hm : 0 ≤ m ∧ m ≤ 9223372036854775807) : ok_vec_Clamp_1 F 0 a0 a1 a2 m = true ∧ o_vec_Clamp_1_0 F 0 a0 a1 a2 m = clmV a0 m ∧ o_vec_Clamp_1_1 F 0 a0 a1 a2 m = clmC a0 m := by
  refine k_vec_Clamp_1 F _ _ _ _ _ ?_
  unfold f_vec_Clamp_1
  rw [w_neg hm]
  obtain ⟨h1, h2, h3⟩ := clampF F (a := a0) hm.1
  refine bp rfl (bp rfl (bp h1 ?_))
  exact congrArg some (show VV.v (.tuple #[.int .i64 (o_fix_Clamp_0 F a0 (-m) m), .bool (o_fix_Clamp_1 F a0 (-m) m)]) = _ by rw [h2, h3])
theorem a_Clamp_1 (F : Nat) {a0 a1 a2 m : Int} (hm : 0 ≤ m ∧ m ≤ 9223372036854775807) : ok_vec_Clamp_1 F 1 a0 a1 a2 m = true ∧ o_vec_Clamp_1_0 F 1 a0 a1 a2 m = clmV a1 m ∧ o_vec_Clamp_1_1 F 1 a0 a1 a2 m = clmC a1 m := by
  refine k_vec_Clamp_1 F _ _ _ _ _ ?_
  unfold f_vec_Clamp_1
  rw [w_neg hm]
  obtain ⟨h1, h2, h3⟩ := clampF F (a := a1) hm.1
  refine bp rfl (bp rfl (bp h1 ?_))
  exact congrArg some (show VV.v (.tuple #[.int .i64 (o_fix_Clamp_0 F a1 (-m) m), .bool (o_fix_Clamp_1 F a1 (-m) m)]) = _ by rw [h2, h3])
theorem a_Clamp_2 (F : Nat) {a0 a1 a2 m : Int} (hm : 0 ≤ m ∧ m ≤ 9223372036854775807) : ok_vec_Clamp_1 F 2 a0 a1 a2 m = true ∧ o_vec_Clamp_1_0 F 2 a0 a1 a2 m = clmV a2 m ∧ o_vec_Clamp_1_1 F 2 a0 a1 a2 m = clmC a2 m := by
  refine k_vec_Clamp_1 F _ _ _ _ _ ?_
  unfold f_vec_Clamp_1
  rw [w_neg hm]
  obtain ⟨h1, h2, h3⟩ := clampF F (a := a2) hm.1
  refine bp rfl (bp rfl (bp h1 ?_))
  exact congrArg some (show VV.v (.tuple #[.int .i64 (o_fix_Clamp_0 F a2 (-m) m), .bool (o_fix_Clamp_1 F a2 (-m) m)]) = _ by rw [h2, h3])
theorem hl0 : hi 0 = 0 ∧ lo 0 = 0 := by decide
theorem mx0 {a : Int} : (if 0 > a then 0 else a) = max a 0 := by split <;> omega
theorem a_vClamp (F : Nat) (hF : 200 ≤ F) {a0 a1 a2 a3 : Int} (h3 : I64 a3) : ok_vec_Clamp F a0 a1 a2 a3 = true ∧ o_vec_Clamp_0 F a0 a1 a2 a3 = clmV a0 (max a3 0) ∧ o_vec_Clamp_1 F a0 a1 a2 a3 = clmV a1 (max a3 0) ∧ o_vec_Clamp_2 F a0 a1 a2 a3 = clmV a2 (max a3 0) ∧ o_vec_Clamp_3 F a0 a1 a2 a3 = (clmC a0 (max a3 0) || clmC a1 (max a3 0) || clmC a2 (max a3 0)) := by
  refine k_vec_Clamp F _ _ _ _ ?_
  unfold f_vec_Clamp
  rw [mx0]
  have hm : 0 ≤ max a3 0 ∧ max a3 0 ≤ 9223372036854775807 := by unfold I64 at h3; omega
  obtain ⟨e1, e2, e3, e4, e5⟩ := k_vec_each F _ _ _ _ (f_vec_each' F hF (a_Clamp_0 F hm) (a_Clamp_1 F hm) (a_Clamp_2 F hm))
  refine bp e1 ?_
  rw [e2, e3, e4, e5]
end Go.Xv
namespace Go.Xv
structure Cx where
  re : Rat
  im : Rat
namespace Cx
end Cx
end Go.Xv
namespace Go.Xv
namespace Cx
def wA : Rat := 1329227995784915872903807060280344576
def wB : Rat := 972275833250902676855126013
def w : Cx := ⟨(wA * wA - wB * wB) / (wA * wA + wB * wB), 2 * wA * wB / (wA * wA + wB * wB)⟩
def q : Rat := 340282366920938463463374607431768211456
theorem q0 : (0 : Rat) < q := by decide +kernel
def r : Rat := 1 / q
theorem r0 : (0 : Rat) < r := by decide +kernel
def w0 : Int := 340282366920938463099250474440462542326
def w1 : Int := 497805226624462170283482630030
end Cx
end Go.Xv
namespace Go.Xv
namespace Cx
def hp (i : Nat) : Rat := 1 / 2 ^ i
def dt (i : Nat) (o : Bool) : Int := if o then tA i else -tA i
end Cx
end Go.Xv
namespace Go.Xv
def RuleOK (g s l h : Int) : Prop := 0 ≤ g ∧ g ≤ 16 ∧ 0 ≤ s ∧ 0 ≤ l ∧ 1 ≤ h ∧ h ≤ 65535
instance (g s l h : Int) : Decidable (RuleOK g s l h) := by unfold RuleOK; infer_instance
def CorrOK (l c0 c1 c2 t : Int) : Prop := (0 ≤ t ∧ t ≤ 1099511627776) ∧ (-l ≤ c0 ∧ c0 ≤ l) ∧ (-l ≤ c1 ∧ c1 ≤ l) ∧ (-l ≤ c2 ∧ c2 ≤ l)
instance (l c0 c1 c2 t : Int) : Decidable (CorrOK l c0 c1 c2 t) := by unfold CorrOK; infer_instance
def errV (p : Prop) [Decidable p] : Int := if p then 0 else 2
theorem some_err {p : Prop} [Decidable p] (h : p) : (some (VV.v (.int .i64 0)) : R) = some (.v (.int .i64 (errV p))) := by unfold errV; rw [if_pos h]
theorem some_no {p : Prop} [Decidable p] (h : ¬ p) : (some (VV.v (.int .i64 2)) : R) = some (.v (.int .i64 (errV p))) := by unfold errV; rw [if_neg h]
theorem err_ok {p : Prop} [Decidable p] (h : p) : errV p = 0 := if_pos h
theorem err_no {p : Prop} [Decidable p] (h : ¬ p) : errV p = 2 := if_neg h

theorem a_fCheck (F : Nat) (g s l h : Int) : ok_fuse_Check F g s l h = true ∧ o_fuse_Check_0 F g s l h = errV (RuleOK g s l h) := by
  refine k_fuse_Check F _ _ _ _ ?_
  unfold f_fuse_Check
  by_cases h1 : g < 0
  · exact bp (dt h1) (some_no (by unfold RuleOK; omega))
  refine bn (df h1) ?_
  by_cases h2 : g > 16
  · exact bp (dt h2) (some_no (by unfold RuleOK; omega))
  refine bn (df h2) ?_
  by_cases h3 : s < 0
  · exact bp (dt h3) (some_no (by unfold RuleOK; omega))
  refine bn (df h3) ?_
  by_cases h4 : l < 0
  · exact bp (dt h4) (some_no (by unfold RuleOK; omega))
  refine bn (df h4) ?_
  by_cases h5 : h < 1
  · exact bp (dt h5) (some_no (by unfold RuleOK; omega))
  refine bn (df h5) ?_
  by_cases h6 : h > 65535
  · exact bp (dt h6) (some_no (by unfold RuleOK; omega))
  exact bn (df h6) (some_err (by unfold RuleOK; omega))

theorem a_tick (F : Nat) (t : Int) : ok_fuse_tick F t = true ∧ o_fuse_tick_0 F t = decide (0 ≤ t ∧ t ≤ 1099511627776) := by
  refine k_fuse_tick F _ ?_
  unfold f_fuse_tick
  by_cases h : t ≥ 0
  · exact bp (dt h) (some_bool (decide_eq_decide.2 (by omega)))
  · exact bn (df h) (some_bool (df (by omega)).symm)
theorem clmC_iff {a l : Int} : clmC a l = false ↔ -l ≤ a ∧ a ≤ l ∨ (l < 0 ∧ min (max a (-l)) l = a) := by
  unfold clmC
  simp only [decide_eq_false_iff_not, ne_eq, Classical.not_not]
  omega
theorem a_fRight (F : Nat) (hF : 200 ≤ F) {g s l h c0 c1 c2 t : Int} (hl : I64 l) : ok_fuse_Right F g s l h c0 c1 c2 t = true ∧ o_fuse_Right_0 F g s l h c0 c1 c2 t = errV (RuleOK g s l h ∧ CorrOK l c0 c1 c2 t) := by
  refine k_fuse_Right F _ _ _ _ _ _ _ _ ?_
  unfold f_fuse_Right
  obtain ⟨k1, k2⟩ := a_fCheck F g s l h
  obtain ⟨t1, t2⟩ := a_tick F t
  refine bp k1 ?_
  rw [k2]
  by_cases hr : RuleOK g s l h
  · rw [err_ok hr]
    refine bn rfl (bp t1 ?_)
    rw [t2]
    by_cases ht : 0 ≤ t ∧ t ≤ 1099511627776
    · rw [dt ht]
      obtain ⟨v1, v2, v3, v4, v5⟩ := a_vClamp F hF (a0 := c0) (a1 := c1) (a2 := c2) hl
      refine bn rfl (bp v1 ?_)
      rw [v5]
      have hl0 : max l 0 = l := by unfold RuleOK at hr; omega
      rw [hl0]
      have h0 : 0 ≤ l := by unfold RuleOK at hr; omega
      by_cases hc : (-l ≤ c0 ∧ c0 ≤ l) ∧ (-l ≤ c1 ∧ c1 ≤ l) ∧ (-l ≤ c2 ∧ c2 ≤ l)
      · rw [clmC_iff.2 (.inl hc.1), clmC_iff.2 (.inl hc.2.1), clmC_iff.2 (.inl hc.2.2)]
        exact bn rfl (some_err ⟨hr, ht, hc⟩)
      · refine bp ?_ (some_no fun h => hc h.2.2)
        cases e0 : clmC c0 l
        · cases e1 : clmC c1 l
          · cases e2 : clmC c2 l
            · exfalso
              have := clmC_iff.1 e0
              have := clmC_iff.1 e1
              have := clmC_iff.1 e2
              omega
            · rfl
          · rfl
        · rfl
    · rw [df ht]
      exact bp rfl (some_no fun h => ht h.2.1)
  · rw [err_no hr]
    exact bp rfl (some_no fun h => hr h.1)
theorem a_fmay (F : Nat) (hF : 200 ≤ F) {g s l h c0 c1 c2 la t : Int} (hl : I64 l) : ok_fuse_may F g s l h c0 c1 c2 la t = true ∧ o_fuse_may_0 F g s l h c0 c1 c2 la t = decide (RuleOK g s l h ∧ CorrOK l c0 c1 c2 la ∧ la ≤ t ∧ t ≤ 1099511627776) := by
  refine k_fuse_may F _ _ _ _ _ _ _ _ _ ?_
  unfold f_fuse_may
  obtain ⟨k1, k2⟩ := a_fRight F hF (g := g) (s := s) (h := h) (c0 := c0) (c1 := c1) (c2 := c2) (t := la) hl
  obtain ⟨t1, t2⟩ := a_tick F t
  refine bp k1 ?_
  rw [k2]
  by_cases hr : RuleOK g s l h ∧ CorrOK l c0 c1 c2 la
  · rw [err_ok hr]
    refine bp rfl ?_
    by_cases hle : t ≥ la
    · refine bp (dt hle) (bp t1 ?_)
      rw [t2]
      refine some_bool (decide_eq_decide.2 ?_)
      have := hr.2.1
      constructor
      · intro h; exact ⟨hr.1, hr.2, hle, h.2⟩
      · intro h; exact ⟨by omega, h.2.2.2⟩
    · exact bn (df hle) (some_bool (df fun h => hle h.2.2.1).symm)
  · rw [err_no hr]
    exact bn rfl (some_bool (df fun h => hr ⟨h.1, h.2.1⟩).symm)
def pullV (g s l c off : Int) : Int := clmV (clipV (c + clmV (off / 2 ^ g.toNat) s)) l
theorem cm_I {a m : Int} (h0 : 0 ≤ m) (h1 : m ≤ 9223372036854775807) : I64 (clmV a m) := by unfold clmV I64; omega
theorem I_W {z : Int} (h : I64 z) : W128 z := by unfold I64 at h; unfold W128; omega
theorem neg_in {g : Int} (h0 : 0 ≤ g) (h1 : g ≤ 9223372036854775807) : IntKind.wrap .i64 (0 - g) = -g := by rw [wi64_in (by unfold I64; omega)]; omega
theorem a_fShift (F : Nat) {a g : Int} (ha : I64 a) (h0 : 0 ≤ g) (h1 : g ≤ 16) : ok_fix_Shift F a (-g) = true ∧ o_fix_Shift_0 F a (-g) = a / 2 ^ g.toNat ∧ o_fix_Shift_1 F a (-g) = false := by
  refine k_fix_Shift F _ _ ?_
  unfold f_fix_Shift
  dsimp only
  by_cases hg : g = 0
  · subst hg
    obtain ⟨f1, f2, f3⟩ := a_fof F ha
    refine bp (dt (by omega)) (bp f1 ?_)
    rw [f2, f3, if_neg (by omega)]
    obtain ⟨l1, l2, l3⟩ := a_Left F a (-0)
    refine bp l1 ?_
    rw [l2, l3]
    have e : a * 2 ^ (-0 : Int).toNat = a := by simp
    rw [e]
    obtain ⟨c1, c2, c3⟩ := a_fclip F (I_W ha)
    refine bp c1 ?_
    rw [c2, c3, (clip_in ha).1, (clip_in ha).2]
    have e2 : a / 2 ^ (0 : Int).toNat = a := by simp
    rw [e2]
  · refine bn (df (by omega)) ?_
    rw [if_neg (show ¬ (-64 : Int) > -g by omega)]
    have e : IntKind.wrap .i64 (0 - -g) = g := by rw [wi64_in (by unfold I64; omega)]; omega
    rw [e, if_pos (by omega)]
    refine bp (by rw [df (by omega)]; rfl) ?_
    have e2 : min (Int.toNat g) 64 = g.toNat := by omega
    rw [e2]
    refine congrArg some (congrArg VV.v ?_)
    have e3 : a.fdiv (2 ^ g.toNat) = a / 2 ^ g.toNat := by
      rw [Int.fdiv_eq_ediv_of_nonneg]
      have h3 : (0 : Int) < 2 ^ g.toNat := Int.pow_pos (by decide)
      omega
    rw [e3]
theorem a_pulled (F : Nat) {g s l h c off : Int} (hr : RuleOK g s l h) (hs : I64 s) (hl : I64 l) (hc : I64 c) (ho : I64 off) : ok_fuse_Rule_pulled F g s l h c off = true ∧ o_fuse_Rule_pulled_0 F g s l h c off = pullV g s l c off := by
  refine k_fuse_Rule_pulled F _ _ _ _ _ _ ?_
  unfold f_fuse_Rule_pulled
  dsimp only
  obtain ⟨r1, r2, r3, r4, _, _⟩ := hr
  have hs2 : s ≤ 9223372036854775807 := by unfold I64 at hs; omega
  have hl2 : l ≤ 9223372036854775807 := by unfold I64 at hl; omega
  rw [neg_in r1 (by omega), neg_in r3 hs2, neg_in r4 hl2]
  obtain ⟨a1, a2, _⟩ := a_fShift F ho r1 r2
  refine bp a1 ?_
  rw [a2]
  obtain ⟨b1, b2, _⟩ := clampF F (a := off / 2 ^ g.toNat) r3
  refine bp b1 ?_
  rw [b2]
  obtain ⟨c1, c2, _⟩ := a_fAdd F hc (cm_I (a := off / 2 ^ g.toNat) r3 hs2)
  refine bp c1 ?_
  rw [c2]
  obtain ⟨d1, d2, _⟩ := clampF F (a := clipV (c + clmV (off / 2 ^ g.toNat) s)) r4
  refine bp d1 ?_
  rw [d2]
  rfl
def axV (n k p c : Int) : Int := if k < n then p else c
theorem f_fuse_each_0 (F : Nat) (hF : 200 ≤ F) {g s l h c0 c1 c2 o0 o1 o2  : Int}  :
    f_fuse_each F g s l h c0 c1 c2 o0 o1 o2 0 = some (.v (.agg #[.int .i64 c0, .int .i64 c1, .int .i64 c2])) := by
  obtain ⟨G, hG⟩ : ∃ G, F = G + 4 := ⟨F - 4, by omega⟩
  have w0 : IntKind.wrap .i64 (0 + 1) = 1 := by decide
  have w1 : IntKind.wrap .i64 (1 + 1) = 2 := by decide
  have w2 : IntKind.wrap .i64 (2 + 1) = 3 := by decide
  unfold f_fuse_each
  rw [show L_fuse_each_0 F _ F = L_fuse_each_0 F _ (G + 4) from congrArg (L_fuse_each_0 F _) hG]
  rw [L_fuse_each_0]
  unfold B_fuse_each_0
  dsimp only
  refine bp rfl (bp rfl (bp rfl (bp rfl (bn rfl ?_))))
  rw [show (iv [VV.v (.int .i64 c0), .v (.int .i64 c1), .v (.int .i64 c2)][Int.toNat 0 * 1]?) = c0 from rfl, w0]
  rw [L_fuse_each_0]
  unfold B_fuse_each_0
  dsimp only
  refine bp rfl (bp rfl (bp rfl (bp rfl (bn rfl ?_))))
  rw [show (iv [VV.v (.int .i64 c0), .v (.int .i64 c1), .v (.int .i64 c2)][Int.toNat 1 * 1]?) = c1 from rfl, w1]
  rw [L_fuse_each_0]
  unfold B_fuse_each_0
  dsimp only
  refine bp rfl (bp rfl (bp rfl (bp rfl (bn rfl ?_))))
  rw [show (iv [VV.v (.int .i64 c0), .v (.int .i64 c1), .v (.int .i64 c2)][Int.toNat 2 * 1]?) = c2 from rfl, w2]
  rw [L_fuse_each_0]
  unfold B_fuse_each_0
  dsimp only
  refine bn rfl (bp rfl rfl)
theorem f_fuse_each_1 (F : Nat) (hF : 200 ≤ F) {g s l h c0 c1 c2 o0 o1 o2 q0 : Int} (p0 : ok_fuse_Rule_pulled F g s l h c0 o0 = true ∧ o_fuse_Rule_pulled_0 F g s l h c0 o0 = q0) :
    f_fuse_each F g s l h c0 c1 c2 o0 o1 o2 1 = some (.v (.agg #[.int .i64 q0, .int .i64 c1, .int .i64 c2])) := by
  obtain ⟨G, hG⟩ : ∃ G, F = G + 4 := ⟨F - 4, by omega⟩
  have w0 : IntKind.wrap .i64 (0 + 1) = 1 := by decide
  have w1 : IntKind.wrap .i64 (1 + 1) = 2 := by decide
  have w2 : IntKind.wrap .i64 (2 + 1) = 3 := by decide
  unfold f_fuse_each
  rw [show L_fuse_each_0 F _ F = L_fuse_each_0 F _ (G + 4) from congrArg (L_fuse_each_0 F _) hG]
  rw [L_fuse_each_0]
  unfold B_fuse_each_0
  dsimp only
  refine bp rfl (bp rfl (bp rfl (bp rfl (bp rfl (bp rfl (bp rfl (bp p0.1 (bp rfl (bp rfl ?_)))))))))
  rw [show (iv [VV.v (.int .i64 c0), .v (.int .i64 c1), .v (.int .i64 c2)][Int.toNat 0 * 1]?) = c0 from rfl, show (iv [VV.v (.int .i64 o0), .v (.int .i64 o1), .v (.int .i64 o2)][0 + Int.toNat 0 * 1]?) = o0 from rfl, p0.2, w0]
  rw [L_fuse_each_0]
  unfold B_fuse_each_0
  dsimp only
  refine bp rfl (bp rfl (bp rfl (bp rfl (bn rfl ?_))))
  rw [show (iv [VV.v (.int .i64 c0), .v (.int .i64 c1), .v (.int .i64 c2)][Int.toNat 1 * 1]?) = c1 from rfl, w1]
  rw [L_fuse_each_0]
  unfold B_fuse_each_0
  dsimp only
  refine bp rfl (bp rfl (bp rfl (bp rfl (bn rfl ?_))))
  rw [show (iv [VV.v (.int .i64 c0), .v (.int .i64 c1), .v (.int .i64 c2)][Int.toNat 2 * 1]?) = c2 from rfl, w2]
  rw [L_fuse_each_0]
  unfold B_fuse_each_0
  dsimp only
  refine bn rfl (bp rfl rfl)
theorem f_fuse_each_2 (F : Nat) (hF : 200 ≤ F) {g s l h c0 c1 c2 o0 o1 o2 q0 q1 : Int} (p0 : ok_fuse_Rule_pulled F g s l h c0 o0 = true ∧ o_fuse_Rule_pulled_0 F g s l h c0 o0 = q0) (p1 : ok_fuse_Rule_pulled F g s l h c1 o1 = true ∧ o_fuse_Rule_pulled_0 F g s l h c1 o1 = q1) :
    f_fuse_each F g s l h c0 c1 c2 o0 o1 o2 2 = some (.v (.agg #[.int .i64 q0, .int .i64 q1, .int .i64 c2])) := by
  obtain ⟨G, hG⟩ : ∃ G, F = G + 4 := ⟨F - 4, by omega⟩
  have w0 : IntKind.wrap .i64 (0 + 1) = 1 := by decide
  have w1 : IntKind.wrap .i64 (1 + 1) = 2 := by decide
  have w2 : IntKind.wrap .i64 (2 + 1) = 3 := by decide
  unfold f_fuse_each
  rw [show L_fuse_each_0 F _ F = L_fuse_each_0 F _ (G + 4) from congrArg (L_fuse_each_0 F _) hG]
  rw [L_fuse_each_0]
  unfold B_fuse_each_0
  dsimp only
  refine bp rfl (bp rfl (bp rfl (bp rfl (bp rfl (bp rfl (bp rfl (bp p0.1 (bp rfl (bp rfl ?_)))))))))
  rw [show (iv [VV.v (.int .i64 c0), .v (.int .i64 c1), .v (.int .i64 c2)][Int.toNat 0 * 1]?) = c0 from rfl, show (iv [VV.v (.int .i64 o0), .v (.int .i64 o1), .v (.int .i64 o2)][0 + Int.toNat 0 * 1]?) = o0 from rfl, p0.2, w0]
  rw [L_fuse_each_0]
  unfold B_fuse_each_0
  dsimp only
  refine bp rfl (bp rfl (bp rfl (bp rfl (bp rfl (bp rfl (bp rfl (bp p1.1 (bp rfl (bp rfl ?_)))))))))
  rw [show (iv [VV.v (.int .i64 c0), .v (.int .i64 c1), .v (.int .i64 c2)][Int.toNat 1 * 1]?) = c1 from rfl, show (iv [VV.v (.int .i64 o0), .v (.int .i64 o1), .v (.int .i64 o2)][0 + Int.toNat 1 * 1]?) = o1 from rfl, p1.2, w1]
  rw [L_fuse_each_0]
  unfold B_fuse_each_0
  dsimp only
  refine bp rfl (bp rfl (bp rfl (bp rfl (bn rfl ?_))))
  rw [show (iv [VV.v (.int .i64 c0), .v (.int .i64 c1), .v (.int .i64 c2)][Int.toNat 2 * 1]?) = c2 from rfl, w2]
  rw [L_fuse_each_0]
  unfold B_fuse_each_0
  dsimp only
  refine bn rfl (bp rfl rfl)
theorem f_fuse_each_3 (F : Nat) (hF : 200 ≤ F) {g s l h c0 c1 c2 o0 o1 o2 q0 q1 q2 : Int} (p0 : ok_fuse_Rule_pulled F g s l h c0 o0 = true ∧ o_fuse_Rule_pulled_0 F g s l h c0 o0 = q0) (p1 : ok_fuse_Rule_pulled F g s l h c1 o1 = true ∧ o_fuse_Rule_pulled_0 F g s l h c1 o1 = q1) (p2 : ok_fuse_Rule_pulled F g s l h c2 o2 = true ∧ o_fuse_Rule_pulled_0 F g s l h c2 o2 = q2) :
    f_fuse_each F g s l h c0 c1 c2 o0 o1 o2 3 = some (.v (.agg #[.int .i64 q0, .int .i64 q1, .int .i64 q2])) := by
  obtain ⟨G, hG⟩ : ∃ G, F = G + 4 := ⟨F - 4, by omega⟩
  have w0 : IntKind.wrap .i64 (0 + 1) = 1 := by decide
  have w1 : IntKind.wrap .i64 (1 + 1) = 2 := by decide
  have w2 : IntKind.wrap .i64 (2 + 1) = 3 := by decide
  unfold f_fuse_each
  rw [show L_fuse_each_0 F _ F = L_fuse_each_0 F _ (G + 4) from congrArg (L_fuse_each_0 F _) hG]
  rw [L_fuse_each_0]
  unfold B_fuse_each_0
  dsimp only
  refine bp rfl (bp rfl (bp rfl (bp rfl (bp rfl (bp rfl (bp rfl (bp p0.1 (bp rfl (bp rfl ?_)))))))))
  rw [show (iv [VV.v (.int .i64 c0), .v (.int .i64 c1), .v (.int .i64 c2)][Int.toNat 0 * 1]?) = c0 from rfl, show (iv [VV.v (.int .i64 o0), .v (.int .i64 o1), .v (.int .i64 o2)][0 + Int.toNat 0 * 1]?) = o0 from rfl, p0.2, w0]
  rw [L_fuse_each_0]
  unfold B_fuse_each_0
  dsimp only
  refine bp rfl (bp rfl (bp rfl (bp rfl (bp rfl (bp rfl (bp rfl (bp p1.1 (bp rfl (bp rfl ?_)))))))))
  rw [show (iv [VV.v (.int .i64 c0), .v (.int .i64 c1), .v (.int .i64 c2)][Int.toNat 1 * 1]?) = c1 from rfl, show (iv [VV.v (.int .i64 o0), .v (.int .i64 o1), .v (.int .i64 o2)][0 + Int.toNat 1 * 1]?) = o1 from rfl, p1.2, w1]
  rw [L_fuse_each_0]
  unfold B_fuse_each_0
  dsimp only
  refine bp rfl (bp rfl (bp rfl (bp rfl (bp rfl (bp rfl (bp rfl (bp p2.1 (bp rfl (bp rfl ?_)))))))))
  rw [show (iv [VV.v (.int .i64 c0), .v (.int .i64 c1), .v (.int .i64 c2)][Int.toNat 2 * 1]?) = c2 from rfl, show (iv [VV.v (.int .i64 o0), .v (.int .i64 o1), .v (.int .i64 o2)][0 + Int.toNat 2 * 1]?) = o2 from rfl, p2.2, w2]
  rw [L_fuse_each_0]
  unfold B_fuse_each_0
  dsimp only
  refine bn rfl (bp rfl rfl)
end Go.Xv
namespace Go.Xv
theorem ax1 {n k p c : Int} (h : k < n) : axV n k p c = p := if_pos h
theorem ax0 {n k p c : Int} (h : ¬ k < n) : axV n k p c = c := if_neg h
theorem n_cases {n : Int} (h0 : 0 ≤ n) (h1 : n ≤ 3) : n = 0 ∨ n = 1 ∨ n = 2 ∨ n = 3 := by omega
theorem a_each (F : Nat) (hF : 200 ≤ F) {g s l h c0 c1 c2 o0 o1 o2 n : Int} (hr : RuleOK g s l h) (hs : I64 s) (hl : I64 l) (hc0 : I64 c0) (hc1 : I64 c1) (hc2 : I64 c2) (ho0 : I64 o0) (ho1 : I64 o1) (ho2 : I64 o2) (hn0 : 0 ≤ n) (hn1 : n ≤ 3) :
    ok_fuse_each F g s l h c0 c1 c2 o0 o1 o2 n = true ∧ o_fuse_each_0 F g s l h c0 c1 c2 o0 o1 o2 n = axV n 0 (pullV g s l c0 o0) c0 ∧ o_fuse_each_1 F g s l h c0 c1 c2 o0 o1 o2 n = axV n 1 (pullV g s l c1 o1) c1 ∧ o_fuse_each_2 F g s l h c0 c1 c2 o0 o1 o2 n = axV n 2 (pullV g s l c2 o2) c2 := by
  have p0 := a_pulled F (c := c0) (off := o0) hr hs hl hc0 ho0
  have p1 := a_pulled F (c := c1) (off := o1) hr hs hl hc1 ho1
  have p2 := a_pulled F (c := c2) (off := o2) hr hs hl hc2 ho2
  rcases n_cases hn0 hn1 with rfl | rfl | rfl | rfl
  · rw [ax0 (by decide), ax0 (by decide), ax0 (by decide)]; exact k_fuse_each F _ _ _ _ _ _ _ _ _ _ _ (f_fuse_each_0 F hF)
  · rw [ax1 (by decide), ax0 (by decide), ax0 (by decide)]; exact k_fuse_each F _ _ _ _ _ _ _ _ _ _ _ (f_fuse_each_1 F hF p0)
  · rw [ax1 (by decide), ax1 (by decide), ax0 (by decide)]; exact k_fuse_each F _ _ _ _ _ _ _ _ _ _ _ (f_fuse_each_2 F hF p0 p1)
  · rw [ax1 (by decide), ax1 (by decide), ax1 (by decide)]; exact k_fuse_each F _ _ _ _ _ _ _ _ _ _ _ (f_fuse_each_3 F hF p0 p1 p2)
def PullOK (g s l h c0 c1 c2 la n t : Int) : Prop := RuleOK g s l h ∧ CorrOK l c0 c1 c2 la ∧ (la ≤ t ∧ t ≤ 1099511627776) ∧ 0 ≤ n ∧ n ≤ 3
instance (g s l h c0 c1 c2 la n t : Int) : Decidable (PullOK g s l h c0 c1 c2 la n t) := by unfold PullOK; infer_instance
theorem corr_I {l c0 c1 c2 t : Int} (hl : I64 l) (h : CorrOK l c0 c1 c2 t) : I64 c0 ∧ I64 c1 ∧ I64 c2 := by unfold CorrOK at h; unfold I64 at *; omega
theorem five {a b c d e a' b' c' d' e' : Int} (h1 : a = a') (h2 : b = b') (h3 : c = c') (h4 : d = d') (h5 : e = e') : (some (VV.v (.tuple #[.agg #[.int .i64 a, .int .i64 b, .int .i64 c, .int .i64 d], .int .i64 e])) : R) = some (.v (.tuple #[.agg #[.int .i64 a', .int .i64 b', .int .i64 c', .int .i64 d'], .int .i64 e'])) := by rw [h1, h2, h3, h4, h5]
theorem f_fPull_ok (F : Nat) (hF : 200 ≤ F) {g s l h c0 c1 c2 la o0 o1 o2 n t : Int} (hs : I64 s) (hl : I64 l) (ho0 : I64 o0) (ho1 : I64 o1) (ho2 : I64 o2) (hp : PullOK g s l h c0 c1 c2 la n t) :
    f_fuse_Pull F g s l h c0 c1 c2 la o0 o1 o2 n t = some (.v (.tuple #[.agg #[.int .i64 (axV n 0 (pullV g s l c0 o0) c0), .int .i64 (axV n 1 (pullV g s l c1 o1) c1), .int .i64 (axV n 2 (pullV g s l c2 o2) c2), .int .i64 t], .int .i64 0])) := by
  obtain ⟨hr, hc, ht, hn0, hn1⟩ := hp
  obtain ⟨i0, i1, i2⟩ := corr_I hl hc
  unfold f_fuse_Pull
  obtain ⟨m1, m2⟩ := a_fmay F hF (g := g) (s := s) (h := h) (c0 := c0) (c1 := c1) (c2 := c2) (la := la) (t := t) hl
  obtain ⟨e0, e1, e2, e3⟩ := a_each F hF hr hs hl i0 i1 i2 ho0 ho1 ho2 hn0 hn1
  refine bp m1 (bn (by rw [m2, dt ⟨hr, hc, ht⟩]; rfl) (bn (df (by omega)) (bn (df (by omega)) (bp e0 (five e1 e2 e3 rfl rfl)))))
theorem hi0 : hi 0 = 0 := by decide
theorem lo0 : lo 0 = 0 := by decide
theorem a_fSum3 (F : Nat) (hF : 200 ≤ F) {a b c : Int} (ha : I64 a) (hb : I64 b) (hc : I64 c) : ok_fix_Sum F [.v (.int .i64 a), .v (.int .i64 b), .v (.int .i64 c)] 3 = true ∧ o_fix_Sum_0 F [.v (.int .i64 a), .v (.int .i64 b), .v (.int .i64 c)] 3 = clipV (a + b + c) ∧ o_fix_Sum_1 F [.v (.int .i64 a), .v (.int .i64 b), .v (.int .i64 c)] 3 = clipC (a + b + c) := by
  refine k_fix_Sum F _ _ ?_
  obtain ⟨G, hG⟩ : ∃ G, F = G + 4 := ⟨F - 4, by omega⟩
  have w0 : IntKind.wrap .i64 (0 + 1) = 1 := by decide
  have w1 : IntKind.wrap .i64 (1 + 1) = 2 := by decide
  have w2 : IntKind.wrap .i64 (2 + 1) = 3 := by decide
  obtain ⟨o1, o2, o3⟩ := a_fof F ha
  obtain ⟨p1, p2, p3⟩ := a_fof F hb
  obtain ⟨q1, q2, q3⟩ := a_fof F hc
  have s := a_Add F 0 a
  rw [hi0, lo0, Int.zero_add] at s
  obtain ⟨s1, s2, s3⟩ := s
  obtain ⟨t1, t2, t3⟩ := a_Add F a b
  obtain ⟨u1, u2, u3⟩ := a_Add F (a + b) c
  obtain ⟨c1, c2, c3⟩ := a_fclip F (z := a + b + c) (by unfold I64 at *; unfold W128; omega)
  unfold f_fix_Sum
  rw [show L_fix_Sum_0 F _ F = L_fix_Sum_0 F _ (G + 4) from congrArg (L_fix_Sum_0 F _) hG, L_fix_Sum_0]
  unfold B_fix_Sum_0
  dsimp only
  refine bp rfl (bp rfl (bp rfl ?_))
  rw [show (iv [VV.v (.int .i64 a), .v (.int .i64 b), .v (.int .i64 c)][0 + Int.toNat 0 * 1]?) = a from rfl]
  refine bp o1 ?_
  rw [o2, o3]
  refine bp s1 ?_
  rw [s2, s3, w0, L_fix_Sum_0]
  unfold B_fix_Sum_0
  dsimp only
  refine bp rfl (bp rfl (bp rfl ?_))
  rw [show (iv [VV.v (.int .i64 a), .v (.int .i64 b), .v (.int .i64 c)][0 + Int.toNat 1 * 1]?) = b from rfl]
  refine bp p1 ?_
  rw [p2, p3]
  refine bp t1 ?_
  rw [t2, t3, w1, L_fix_Sum_0]
  unfold B_fix_Sum_0
  dsimp only
  refine bp rfl (bp rfl (bp rfl ?_))
  rw [show (iv [VV.v (.int .i64 a), .v (.int .i64 b), .v (.int .i64 c)][0 + Int.toNat 2 * 1]?) = c from rfl]
  refine bp q1 ?_
  rw [q2, q3]
  refine bp u1 ?_
  rw [u2, u3, w2, L_fix_Sum_0]
  unfold B_fix_Sum_0
  dsimp only
  refine bn rfl (bp c1 ?_)
  rw [c2, c3]
def nnV (x : Int) : Int := if 0 > x then 0 else x
def capV (t : Int) : Int := if 65535 < nnV t then 65535 else nnV t
theorem nn_I {x : Int} (h : I64 x) : I64 (nnV x) ∧ 0 ≤ nnV x := by unfold nnV; unfold I64 at *; split <;> omega
theorem cap_b (t : Int) : 0 ≤ capV t ∧ capV t ≤ 65535 := by unfold capV nnV; split <;> split <;> omega
def boundV (h k g t : Int) : Int := clipV (nnV h + nnV g + clipV (nnV k * capV t))
theorem prod_cap {k n : Int} (h0 : 0 ≤ k) (h1 : k ≤ 9223372036854775807) (hn : 0 < n) : (k > Int.tdiv 9223372036854775807 n ↔ 9223372036854775807 < k * n) := by
  rw [Int.tdiv_eq_ediv_of_nonneg (by omega)]
  constructor
  · intro h
    exact (Int.ediv_lt_iff_lt_mul hn).1 h
  · intro h
    exact (Int.ediv_lt_iff_lt_mul hn).2 h
theorem prod_b {k n : Int} (h0 : 0 ≤ k) (h1 : k ≤ 9223372036854775807) (hn : 0 ≤ n) (hn2 : n ≤ 65535) : 0 ≤ k * n ∧ k * n ≤ 9223372036854775807 * 65535 := by
  refine ⟨Int.mul_nonneg h0 hn, ?_⟩
  exact Int.mul_le_mul h1 hn2 hn (by omega)
theorem a_fBound (F : Nat) (hF : 200 ≤ F) {h k g t : Int} (hh : I64 h) (hk : I64 k) (hg : I64 g) : ok_fuse_Bound F h k g t = true ∧ o_fuse_Bound_0 F h k g t = boundV h k g t := by
  refine k_fuse_Bound F _ _ _ _ ?_
  unfold f_fuse_Bound
  dsimp only
  rw [show (if 65535 < (if 0 > t then 0 else t) then 65535 else (if 0 > t then 0 else t)) = capV t from rfl, show (if 0 > k then 0 else k) = nnV k from rfl, show (if 0 > h then 0 else h) = nnV h from rfl, show (if 0 > g then 0 else g) = nnV g from rfl]
  obtain ⟨b0, b1⟩ := cap_b t
  obtain ⟨kI, k0⟩ := nn_I hk
  obtain ⟨hI, _⟩ := nn_I hh
  obtain ⟨gI, _⟩ := nn_I hg
  have k1 : nnV k ≤ 9223372036854775807 := by unfold I64 at kI; omega
  obtain ⟨z0, z1⟩ := prod_b k0 k1 b0 b1
  have fin : ∀ d, I64 d → d = clipV (nnV k * capV t) → (bif ok_fix_Sum F [.v (.int .i64 (nnV h)), .v (.int .i64 (nnV g)), .v (.int .i64 d)] 3 then (some (.v (.int .i64 (o_fix_Sum_0 F [.v (.int .i64 (nnV h)), .v (.int .i64 (nnV g)), .v (.int .i64 d)] 3))) : R) else none) = some (.v (.int .i64 (boundV h k g t))) := by
    intro d hd he
    obtain ⟨s1, s2, _⟩ := a_fSum3 F hF hI gI hd
    refine bp s1 (some_int ?_)
    rw [s2, he]
    rfl
  by_cases hn : capV t > 0
  · refine bp (dt hn) (bp (by rw [df (by omega)]; rfl) ?_)
    have hq : Int.tdiv 9223372036854775807 (capV t) ≤ 9223372036854775807 ∧ 0 ≤ Int.tdiv 9223372036854775807 (capV t) := by
      rw [Int.tdiv_eq_ediv_of_nonneg (by omega)]
      exact ⟨Int.ediv_le_self _ (by omega), Int.ediv_nonneg (by omega) (by omega)⟩
    rw [wi64_in (by unfold I64; omega)]
    by_cases hp : nnV k > Int.tdiv 9223372036854775807 (capV t)
    · refine bp (dt hp) (fin _ (by unfold I64; omega) ?_)
      have := (prod_cap k0 k1 hn).1 hp
      unfold clipV
      rw [if_neg (by omega), if_pos this]
    · refine bn (df hp) (fin _ ?_ ?_)
      · rw [wi64]; unfold I64; omega
      · have := mt (prod_cap k0 k1 hn).2 hp
        rw [wi64_in (by unfold I64; omega), (clip_in (by unfold I64; omega)).1]
  · have e : capV t = 0 := by omega
    refine bn (df hn) (fin _ ?_ ?_)
    · rw [wi64]; unfold I64; omega
    · rw [e, Int.mul_zero]; decide
theorem a_works28 (F : Nat) (hF : 200 ≤ F) : ok_law28_works F = true ∧ o_law28_works_0 F = true := by
  refine k_law28_works F ?_
  unfold f_law28_works
  dsimp only
  obtain ⟨p0, p1, p2, p3, p4, p5⟩ := k_fuse_Pull F _ _ _ _ _ _ _ _ _ _ _ _ _ (f_fPull_ok F hF (g := 1) (s := 10) (l := 100) (h := 5) (c0 := 0) (c1 := 0) (c2 := 0) (la := 0) (o0 := 6) (o1 := 0) (o2 := 0) (n := 3) (t := 1) (by unfold I64; omega) (by unfold I64; omega) (by unfold I64; omega) (by unfold I64; omega) (by unfold I64; omega) (by decide))
  have e0 : axV 3 0 (pullV 1 10 100 0 6) 0 = 3 := by decide
  have e1 : axV 3 1 (pullV 1 10 100 0 0) 0 = 0 := by decide
  have e2 : axV 3 2 (pullV 1 10 100 0 0) 0 = 0 := by decide
  rw [e0] at p1
  rw [e1] at p2
  rw [e2] at p3
  obtain ⟨q0, q1, q2, q3, q4, q5⟩ := k_fuse_Pull F _ _ _ _ _ _ _ _ _ _ _ _ _ (f_fPull_ok F hF (g := 1) (s := 10) (l := 100) (h := 5) (c0 := 3) (c1 := 0) (c2 := 0) (la := 1) (o0 := 60) (o1 := 0) (o2 := 0) (n := 3) (t := 2) (by unfold I64; omega) (by unfold I64; omega) (by unfold I64; omega) (by unfold I64; omega) (by unfold I64; omega) (by decide))
  have g0 : axV 3 0 (pullV 1 10 100 3 60) 3 = 13 := by decide
  rw [g0] at q1
  rw [e1] at q2
  rw [e2] at q3
  obtain ⟨b1, b2⟩ := a_fBound F hF (h := 1) (k := 2) (g := 3) (t := 4) (by unfold I64; omega) (by unfold I64; omega) (by unfold I64; omega)
  have e3 : boundV 1 2 3 4 = 12 := by decide
  rw [e3] at b2
  rw [p1, p2, p3, p4]
  refine bp p0 (bp q0 (bp rfl (bp (by rw [q1, q2, q3]; rfl) (bp (by rw [p5]; rfl) (bp (by rw [q5]; rfl) (bp (by rw [q4]; rfl) (bp b1 (some_bool (by rw [b2]; rfl)))))))))
end Go.Xv
namespace Go.Xv
theorem div2_pos {y : Int} (n : Nat) (h : 0 ≤ y) : 0 ≤ y / 2 ^ n ∧ y / 2 ^ n ≤ y := by
  have h3 : (0 : Int) < 2 ^ n := Int.pow_pos (by decide)
  exact ⟨Int.ediv_nonneg h (by omega), Int.ediv_le_self _ h⟩
theorem div2_neg {y : Int} (n : Nat) (h : y ≤ 0) : y ≤ y / 2 ^ n ∧ y / 2 ^ n ≤ 0 := by
  have h3 : (0 : Int) < 2 ^ n := Int.pow_pos (by decide)
  refine ⟨(Int.le_ediv_iff_mul_le h3).2 ?_, ?_⟩
  · have := Int.mul_le_mul_of_nonpos_left h (show (1 : Int) ≤ 2 ^ n by omega)
    omega
  · have := Int.ediv_le_ediv h3 h
    simpa using this
/-- never beyond -/
def Toward (to l x y : Int) : Prop := (0 ≤ to → x ≤ y ∧ y ≤ to ∧ y ≤ l) ∧ (to < 0 → to ≤ y ∧ y ≤ x ∧ -l ≤ y)
theorem toward {g s l to x : Int} (hs : 0 ≤ s) (hl : 0 ≤ l) (hto : -9223372036854775808 < to ∧ to ≤ 9223372036854775807) (h1 : 0 ≤ to → 0 ≤ x ∧ x ≤ to ∧ x ≤ l) (h2 : to < 0 → to ≤ x ∧ x ≤ 0 ∧ -l ≤ x) : Toward to l x (pullV g s l x (to - x)) := by
  unfold Toward pullV
  refine ⟨fun h => ?_, fun h => ?_⟩
  · obtain ⟨b1, b2, b3⟩ := h1 h
    obtain ⟨d1, d2⟩ := div2_pos (y := to - x) g.toNat (by omega)
    generalize (to - x) / 2 ^ g.toNat = d at *
    have hc : 0 ≤ clmV d s ∧ clmV d s ≤ d := by unfold clmV; omega
    generalize clmV d s = e at *
    rw [(clip_in (z := x + e) (by unfold I64; omega)).1]
    unfold clmV; omega
  · obtain ⟨b1, b2, b3⟩ := h2 h
    obtain ⟨d1, d2⟩ := div2_neg (y := to - x) g.toNat (by omega)
    generalize (to - x) / 2 ^ g.toNat = d at *
    have hc : clmV d s ≤ 0 ∧ d ≤ clmV d s := by unfold clmV; omega
    generalize clmV d s = e at *
    rw [(clip_in (z := x + e) (by unfold I64; omega)).1]
    unfold clmV; omega
theorem pull0 {g s l : Int} (hs : 0 ≤ s) (hl : 0 ≤ l) : pullV g s l 0 0 = 0 := by
  unfold pullV
  rw [Int.zero_ediv]
  have : clmV 0 s = 0 := by unfold clmV; omega
  rw [this, show clipV (0 + 0) = 0 by decide]
  unfold clmV; omega
theorem lp_Comes (F : Nat) (hF : 200 ≤ F) (ex0) (x0 x1 x2 x3 : Int) (hx : I64 x0 ∧ I64 x1 ∧ I64 x2 ∧ I64 x3) {to c g s l h : Int} (hg : g = x0) (hs' : s = x1) (hl' : l = x2) (hh' : h = x3) (hr : RuleOK g s l h) (hto : -9223372036854775808 < to ∧ to ≤ 9223372036854775807) (hc : 0 ≤ c) {m : Nat} (hm : Int.tmod c 60 = m) (hm2 : m < 60) (x6 : Bool) :
    ∀ (k n i : Nat) (x la : Int), i + k = m → k < n → (0 ≤ to → 0 ≤ x ∧ x ≤ to ∧ x ≤ l) → (to < 0 → to ≤ x ∧ x ≤ 0 ∧ -l ≤ x) → 0 ≤ la → la ≤ i →
      L_law28_FuseComes_0 F ex0 (fun _ _ _ _ _ _ _ _ _ _ _ _ _ _ _ _ => some (.v (.bool true))) n x0 x1 x2 x3 to c x6 i g s l h 0 x 0 la = some (.v (.bool true))
  | _, 0, _, _, _, _, h, _, _, _, _ => absurd h (by omega)
  | 0, n + 1, i, x, la, hi, _, _, _, _, _ => by
    rw [L_law28_FuseComes_0]
    unfold B_law28_FuseComes_0
    dsimp only
    rw [hm, wi64_in (by unfold I64; omega)]
    exact bn (df (by omega)) rfl
  | k + 1, n + 1, i, x, la, hi, hk, b1, b2, hla0, hla => by
    have ih := lp_Comes F hF ex0 x0 x1 x2 x3 hx hg hs' hl' hh' hr hto hc hm hm2 x6 k n (i + 1)
    have hs : I64 s := by rw [hs']; exact hx.2.1
    have hl : I64 l := by rw [hl']; exact hx.2.2.1
    have s0 : 0 ≤ s := hr.2.2.1
    have l0 : 0 ≤ l := hr.2.2.2.1
    have hb : -9223372036854775808 < to - x ∧ to - x ≤ 9223372036854775807 := by
      by_cases hp : 0 ≤ to
      · have := b1 hp; omega
      · have := b2 (by omega); omega
    have hxl : -l ≤ x ∧ x ≤ l := by
      by_cases hp : 0 ≤ to
      · have := b1 hp; omega
      · have := b2 (by omega); omega
    have hI0 : I64 0 := by unfold I64; omega
    have hOK : PullOK g s l h 0 x 0 la 3 i := ⟨hr, ⟨⟨hla0, by omega⟩, ⟨by omega, by omega⟩, hxl, ⟨by omega, by omega⟩⟩, ⟨hla, by omega⟩, by omega, by omega⟩
    obtain ⟨p0, p1, p2, p3, p4, p5⟩ := k_fuse_Pull F _ _ _ _ _ _ _ _ _ _ _ _ _ (f_fPull_ok F hF (o0 := 0) (o1 := to - x) (o2 := 0) hs hl hI0 (by unfold I64; omega) hI0 hOK)
    rw [ax1 (by decide), pull0 s0 l0] at p1
    rw [ax1 (by decide)] at p2
    rw [ax1 (by decide), pull0 s0 l0] at p3
    obtain ⟨t1, t2⟩ := toward (g := g) s0 l0 hto b1 b2
    rw [L_law28_FuseComes_0]
    unfold B_law28_FuseComes_0
    dsimp only
    rw [hm, wi64_in (show I64 (m : Int) by unfold I64; omega), wi64_in (show I64 (to - x) by unfold I64; omega)]
    simp only [p1, p2, p3, p4, p5]
    have w : IntKind.wrap .i64 ((i : Int) + 1) = ((i + 1 : Nat) : Int) := by rw [wi64_in (by unfold I64; omega)]; omega
    rw [w]
    generalize pullV g s l x (to - x) = y at *
    refine bp (dt (by omega)) (bp p0 (bn rfl (bn rfl ?_)))
    by_cases hp : 0 ≤ to
    · obtain ⟨c1, c2, c3⟩ := t1 hp
      obtain ⟨d1, d2, d3⟩ := b1 hp
      refine bp (dt hp) (bn (df (by omega)) (bn (df (by omega)) (bn (df (by omega)) ?_)))
      exact ih y i (by omega) (by omega) (fun _ => by omega) (fun h => by omega) (by omega) (by omega)
    · obtain ⟨c1, c2, c3⟩ := t2 (by omega)
      obtain ⟨d1, d2, d3⟩ := b2 (by omega)
      refine bn (df hp) (bp (dt (by omega)) (bn (df (by omega)) (bn (df (by omega)) ?_)))
      exact ih y i (by omega) (by omega) (fun h => by omega) (fun _ => by omega) (by omega) (by omega)
theorem f_FuseComes (F : Nat) (hF : 200 ≤ F) {a0 a1 a2 a3 a4 a5 : Int} (h0 : I64 a0) (h1 : I64 a1) (h2 : I64 a2) (h3 : I64 a3) (h4 : I64 a4) (h5 : U8 a5) :
    f_law28_FuseComes F a0 a1 a2 a3 a4 a5 = some (.v (.bool true)) := by
  obtain ⟨w0, w1⟩ := a_works28 F hF
  obtain ⟨k0, k1⟩ := a_fCheck F a0 a1 a2 a3
  unfold f_law28_FuseComes
  refine bp w0 (bn (by rw [w1]; rfl) (bp k0 ?_))
  rw [k1]
  by_cases hr : RuleOK a0 a1 a2 a3
  · rw [err_ok hr]
    refine bn rfl ?_
    by_cases hm : a4 = -9223372036854775808
    · exact bp (by rw [hm]; rfl) rfl
    · refine bn (by simpa using hm) ?_
      have h5b : 0 ≤ a5 ∧ a5 ≤ 255 := by unfold U8 at h5; omega
      have e : Int.tmod a5 60 = a5 % 60 := Int.tmod_eq_emod_of_nonneg h5b.1
      refine lp_Comes F hF _ a0 a1 a2 a3 ⟨h0, h1, h2, h3⟩ rfl rfl rfl rfl hr (by unfold I64 at h4; omega) h5b.1 (m := (a5 % 60).toNat) (by omega) (by omega) false (a5 % 60).toNat F 0 0 0 (by omega) (by omega) (fun h => ⟨by omega, h, hr.2.2.2.1⟩) (fun h => ⟨by omega, by omega, by have := hr.2.2.2.1; omega⟩) (by omega) (by omega)
  · rw [err_no hr]
    exact bp rfl rfl
end Go.Xv
namespace Go.Proofs.Ytiahhalhbacgaaa.fuseComes
open Go.ChangeShapes Go.WideShapes Go.ChangeAt Go.RowKit Go.Xv Go.Proofs.Ytiahhalhbacgaaa.base
set_option linter.unusedVariables false
set_option maxRecDepth 100000 in
theorem lifted (os : Os) (started : os.Started) (H : Type) (enc : TypeId × Value → H) :
    ReturnsInHanded {} Try.checked os 3 .any (Rows.fuseComesSpec.pre6 enc Try.prog Try.f3 Rows.fuseComesRow.domain false) (Rows.fuseComesSpec.post enc Try.prog Try.f3 false true false false) := by
  refine returnsInHanded_of_change (C := Try.checked) own started (by kernel_rfl) Try.func3
    (ChangeSpec.witness6 (enc := enc) (C := Try.checked) false ⟨#[], #[.agg #[.int .i64 0, .int .i64 0, .int .i64 0, .int .i64 0], .int .i64 0, .int .u8 0], []⟩ 8 (by kernel_rfl) (by kernel_rfl) (by kernel_rfl) (by kernel_rfl)) ?_
  intro W base args ds gs before hval0 hW hcnd _
  have hval : ∀ (j : Nat) t v, Try.f3.params[j]? = some t → args[j]? = some v → Value.okWide Try.prog W .any base t v := hval0
  have hW' := hW
  obtain ⟨p, q, hA0, hV, rfl, hfz, hnd⟩ := hW
  have hA : DataW.TrodAll enc Try.prog W 0 (fun _ => true) true Try.f3.params.toList args.toList ds p := hA0
  rw [Try.params3] at hA hval
  obtain ⟨v0, vs0, d0, ds0, p0, q0, hargs, rfl, rfl, h0, r0⟩ := trodAll_cons hA
  obtain ⟨v1, vs1, d1, ds1, p1, q1, rfl, rfl, rfl, h1, r1⟩ := trodAll_cons r0
  obtain ⟨v2, vs2, d2, ds2, p2, q2, rfl, rfl, rfl, h2, r2⟩ := trodAll_cons r1
  obtain ⟨rfl, rfl, rfl⟩ := trodAll_nil r2
  obtain rfl : args = #[v0, v1, v2] := by cases args; simp_all
  obtain ⟨l0, rfl, f0⟩ := open_flat (ks := [some .i64, some .i64, some .i64, some .i64]) (by kernel_rfl) (by kernel_rfl) (hval 0 24 v0 rfl rfl) h0
  obtain ⟨a0, l0, rfl, wa0, f0⟩ := fitW_some f0
  obtain ⟨a1, l0, rfl, wa1, f0⟩ := fitW_some f0
  obtain ⟨a2, l0, rfl, wa2, f0⟩ := fitW_some f0
  obtain ⟨a3, l0, rfl, wa3, f0⟩ := fitW_some f0
  obtain rfl := fitW_nil f0
  obtain ⟨a4, rfl, wa4⟩ := open_num (k := .i64) (by kernel_rfl) (hval 1 22 v1 rfl rfl) h1
  obtain ⟨a5, rfl, wa5⟩ := open_num (k := .u8) (by kernel_rfl) (hval 2 5 v2 rfl rfl) h2
  refine law_contract laidOut (g_law28_FuseComes fuel0) (bt := 4) (by kernel_rfl) (by kernel_rfl) (by kernel_rfl) (by kernel_rfl) rfl hW' ?_
  refine ⟨[.v (.agg #[.int .i64 a0, .int .i64 a1, .int .i64 a2, .int .i64 a3]), .v (.int .i64 a4), .v (.int .u8 a5)], rfl, fun i x hx => ?_, unS_of ?_⟩
  · match i, hx with
    | 0, hx => exact ⟨_, rfl, by cases hx; exact Rel.v _ _⟩
    | 1, hx => exact ⟨_, rfl, by cases hx; exact Rel.v _ _⟩
    | 2, hx => exact ⟨_, rfl, by cases hx; exact Rel.v _ _⟩
    | _ + 3, hx => cases hx
  · obtain ⟨y1, y2⟩ := k_law28_FuseComes fuel0 a0 a1 a2 a3 a4 a5 (f_FuseComes fuel0 (by unfold fuel0; omega) (wf_i64 wa0) (wf_i64 wa1) (wf_i64 wa2) (wf_i64 wa3) (wf_i64 wa4) (wf_u8 wa5))
    have e : s_law28_FuseComes fuel0 [.v (.agg #[.int .i64 a0, .int .i64 a1, .int .i64 a2, .int .i64 a3]), .v (.int .i64 a4), .v (.int .u8 a5)] = some (ok_law28_FuseComes fuel0 a0 a1 a2 a3 a4 a5, .v (.bool (o_law28_FuseComes_0 fuel0 a0 a1 a2 a3 a4 a5))) := by kernel_rfl
    rw [e, y1, y2]
theorem over : Rows.fuseComesRow.holds Try.pinned (OpenSpec.ofChange Rows.fuseComesSpec) :=
  OpenClaim.holds_of_wide 3 Try.f3 rfl rfl rfl rfl rfl rfl rfl ⟨rfl, rfl, rfl, rfl, rfl⟩ rfl rfl rfl rfl rfl (by kernel_rfl) Try.func3 (joined_of (P := Try.prog) behind enter_ rfl rfl ⟨rfl, rfl⟩ (by kernel_rfl))
    (of_decide_eq_true (by kernel_rfl)) (by unfold Func.isWrapper; first | (rw [if_pos (by decide +kernel)]; kernel_rfl) | (rw [if_neg (by decide +kernel)]; exact ⟨rfl, rfl⟩))
    (fun os started H enc _ => lifted os started H enc)
/-- The statement. -/
theorem proved : Rows.FuseComesSaid := over
#print axioms proved
end Go.Proofs.Ytiahhalhbacgaaa.fuseComes
