/- What is clamped is within its bounds, and what is within stays: the law returns true for every input, and leaves its arguments as they were. -/
import Derived.Test.YtpnggkefjgpleaaB2
import Derived.Test.YtpnggkefjgpleaaProg
import Derived.KernelRfl
namespace Go.Xv
noncomputable abbrev PP := Proofs.Try.prog
end Go.Xv
set_option linter.unusedVariables false
namespace Go.Xv
/- 71 _wide_Add -/
def c_wide_Add : Cfg := ⟨[0, 1, 2, 3, 4, 5, 6, 22], [], [], []⟩
def ti_wide_Add : List TV := [.v (.agg [.int .i64, .int .u64]), .v (.agg [.int .i64, .int .u64])]
def to_wide_Add : TV := .v (.agg [.int .i64, .int .u64])
def S_wide_Add (F : Nat) : FuncId → List VV → Option (Bool × VV) := words []
def W_wide_Add (F : Nat) : List LW := []
def I_wide_Add (F : Nat) : Nat → VS → (Exit → VS → R) → R := tabI c_wide_Add (W_wide_Add F)
def WJ_wide_Add (F : Nat) : List LJ := []
def J_wide_Add (F : Nat) : Nat → Nat → VS → (Exit → VS → R) → R := tabJ (WJ_wide_Add F)
def f_wide_Add (F : Nat) (a0 : Int) (a1 : Int) (a2 : Int) (a3 : Int) : R :=
  let v1341 : Int := (IntKind.wrap .u64 (a1 + a3))
  let v1344 : Int := (IntKind.wrap .u64 (((IntKind.wrap .u64 a0)) + ((IntKind.wrap .u64 a2))))
  bif ((decide (v1341 < a1))) then (
    some (.v (.agg #[.int .i64 ((IntKind.wrap .i64 ((IntKind.wrap .u64 (v1344 + 1))))), .int .u64 v1341])))
  else (
    some (.v (.agg #[.int .i64 ((IntKind.wrap .i64 v1344)), .int .u64 v1341])))
theorem e_wide_Add (F : Nat) (a0 : Int) (a1 : Int) (a2 : Int) (a3 : Int) : funL PP (S_wide_Add F) c_wide_Add (I_wide_Add F) (J_wide_Add F) 71 (fTs ti_wide_Add [.i a0, .i a1, .i a2, .i a3]).1 = f_wide_Add F a0 a1 a2 a3 := by
  have h : ∀ (_ : Unit), funL PP (words []) c_wide_Add (tabI c_wide_Add []) (tabJ []) 71 (fTs ti_wide_Add [.i a0, .i a1, .i a2, .i a3]).1 = (
  let v1341 : Int := (IntKind.wrap .u64 (a1 + a3))
  let v1344 : Int := (IntKind.wrap .u64 (((IntKind.wrap .u64 a0)) + ((IntKind.wrap .u64 a2))))
  bif ((decide (v1341 < a1))) then (
    some (.v (.agg #[.int .i64 ((IntKind.wrap .i64 ((IntKind.wrap .u64 (v1344 + 1))))), .int .u64 v1341])))
  else (
    some (.v (.agg #[.int .i64 ((IntKind.wrap .i64 v1344)), .int .u64 v1341]))) : R) := by
    intros
    kernel_rfl
  exact (h ()).trans (by kernel_rfl)
def ok_wide_Add (F : Nat) (a0 : Int) (a1 : Int) (a2 : Int) (a3 : Int) : Bool := okT to_wide_Add (f_wide_Add F a0 a1 a2 a3)
def o_wide_Add_0 (F : Nat) (a0 : Int) (a1 : Int) (a2 : Int) (a3 : Int) : Int := atI (nth (outT to_wide_Add (f_wide_Add F a0 a1 a2 a3)) 0)
def o_wide_Add_1 (F : Nat) (a0 : Int) (a1 : Int) (a2 : Int) (a3 : Int) : Int := atI (nth (outT to_wide_Add (f_wide_Add F a0 a1 a2 a3)) 1)
theorem k_wide_Add (F : Nat) (a0 : Int) (a1 : Int) (a2 : Int) (a3 : Int) {z0 : Int} {z1 : Int} (h : f_wide_Add F a0 a1 a2 a3 = some (.v (.agg #[.int .i64 z0, .int .u64 z1]))) : ok_wide_Add F a0 a1 a2 a3 = true ∧ o_wide_Add_0 F a0 a1 a2 a3 = z0 ∧ o_wide_Add_1 F a0 a1 a2 a3 = z1 := by
  refine ⟨?_, ?_, ?_⟩
  · unfold ok_wide_Add; rw [h]; kernel_rfl
  · unfold o_wide_Add_0; rw [h]; kernel_rfl
  · unfold o_wide_Add_1; rw [h]; kernel_rfl
def s_wide_Add (F : Nat) : List VV → Option (Bool × VV) := spec ti_wide_Add to_wide_Add (fun q => (ok_wide_Add F (atI (nth q 0)) (atI (nth q 1)) (atI (nth q 2)) (atI (nth q 3)))) (fun q => [.i (o_wide_Add_0 F (atI (nth q 0)) (atI (nth q 1)) (atI (nth q 2)) (atI (nth q 3))), .i (o_wide_Add_1 F (atI (nth q 0)) (atI (nth q 1)) (atI (nth q 2)) (atI (nth q 3)))])
theorem hS_wide_Add (F : Nat) : ∀ f, Good PP f (unS (S_wide_Add F f)) := words_good fun p hp => by
  cases hp
theorem hl_wide_Add (F : Nat) : ∀ p ∈ loopsIn PP 71, LoopOK PP (S_wide_Add F) c_wide_Add F (I_wide_Add F) (J_wide_Add F) p :=
  loops_of [] (by kernel_rfl) all_nil
theorem hj_wide_Add (F : Nat) : ∀ p ∈ joinsIn PP c_wide_Add 71, JoinOK PP (S_wide_Add F) c_wide_Add (I_wide_Add F) (J_wide_Add F) p :=
  joins_of [] (by kernel_rfl) all_nil
theorem g_wide_Add (F : Nat) : Good PP 71 (unS (s_wide_Add F)) :=
  fun_spec (hS_wide_Add F) (by kernel_rfl) (by kernel_rfl) (C := c_wide_Add) (F := fun q => (f_wide_Add F (atI (nth q 0)) (atI (nth q 1)) (atI (nth q 2)) (atI (nth q 3)))) (fun _ => F) (fun _ => I_wide_Add F) (fun _ => J_wide_Add F) (fun _ => hl_wide_Add F) (fun _ => hj_wide_Add F)
    (fun q => (congrArg (funL PP (S_wide_Add F) c_wide_Add (I_wide_Add F) (J_wide_Add F) 71) (show (fTs ti_wide_Add q).1 = (fTs ti_wide_Add [.i (atI (nth q 0)), .i (atI (nth q 1)), .i (atI (nth q 2)), .i (atI (nth q 3))]).1 by kernel_rfl)).trans (e_wide_Add F (atI (nth q 0)) (atI (nth q 1)) (atI (nth q 2)) (atI (nth q 3))))
    (fun _ h => (okT_fill h).trans (congrArg some (by kernel_rfl)))

end Go.Xv
set_option linter.unusedVariables false
namespace Go.Xv
/- 111 _wide_Left -/
def c_wide_Left : Cfg := ⟨[0, 1, 2, 4, 7, 11], [], [], []⟩
def ti_wide_Left : List TV := [.v (.agg [.int .i64, .int .u64]), .v (.int .i64)]
def to_wide_Left : TV := .v (.agg [.int .i64, .int .u64])
def S_wide_Left (F : Nat) : FuncId → List VV → Option (Bool × VV) := words []
def W_wide_Left (F : Nat) : List LW := []
def I_wide_Left (F : Nat) : Nat → VS → (Exit → VS → R) → R := tabI c_wide_Left (W_wide_Left F)
def WJ_wide_Left (F : Nat) : List LJ := []
def J_wide_Left (F : Nat) : Nat → Nat → VS → (Exit → VS → R) → R := tabJ (WJ_wide_Left F)
def f_wide_Left (F : Nat) (a0 : Int) (a1 : Int) (a2 : Int) : R :=
  let v1326 : Int := (if 0 > a2 then 0 else a2)
  bif ((decide (v1326 ≥ 128))) then (
    some (.v (.agg #[.int .i64 0, .int .u64 0])))
  else (
    bif ((decide (v1326 ≥ 64))) then (
      let v1329 : Int := (IntKind.wrap .i64 (v1326 - 64))
      bif (!(decide (v1329 < 0))) then (
        some (.v (.agg #[.int .i64 ((IntKind.wrap .i64 ((IntKind.wrap .u64 (a1 * 2 ^ (min (Int.toNat v1329) 64)))))), .int .u64 0])))
      else (
        none))
    else (
      bif (!(decide (v1326 < 0))) then (
        let v1334 : Int := (IntKind.wrap .i64 (64 - v1326))
        bif (!(decide (v1334 < 0))) then (
          bif (!(decide (v1326 < 0))) then (
            some (.v (.agg #[.int .i64 ((IntKind.wrap .i64 ((orI .u64 ((IntKind.wrap .u64 (((IntKind.wrap .u64 a0)) * 2 ^ (min (Int.toNat v1326) 64)))) ((Int.fdiv a1 (2 ^ (min (Int.toNat v1334) 64)))))))), .int .u64 ((IntKind.wrap .u64 (a1 * 2 ^ (min (Int.toNat v1326) 64))))])))
          else (
            none))
        else (
          none))
      else (
        none)))
theorem e_wide_Left (F : Nat) (a0 : Int) (a1 : Int) (a2 : Int) : funL PP (S_wide_Left F) c_wide_Left (I_wide_Left F) (J_wide_Left F) 111 (fTs ti_wide_Left [.i a0, .i a1, .i a2]).1 = f_wide_Left F a0 a1 a2 := by
  have h : ∀ (_ : Unit), funL PP (words []) c_wide_Left (tabI c_wide_Left []) (tabJ []) 111 (fTs ti_wide_Left [.i a0, .i a1, .i a2]).1 = (
  let v1326 : Int := (if 0 > a2 then 0 else a2)
  bif ((decide (v1326 ≥ 128))) then (
    some (.v (.agg #[.int .i64 0, .int .u64 0])))
  else (
    bif ((decide (v1326 ≥ 64))) then (
      let v1329 : Int := (IntKind.wrap .i64 (v1326 - 64))
      bif (!(decide (v1329 < 0))) then (
        some (.v (.agg #[.int .i64 ((IntKind.wrap .i64 ((IntKind.wrap .u64 (a1 * 2 ^ (min (Int.toNat v1329) 64)))))), .int .u64 0])))
      else (
        none))
    else (
      bif (!(decide (v1326 < 0))) then (
        let v1334 : Int := (IntKind.wrap .i64 (64 - v1326))
        bif (!(decide (v1334 < 0))) then (
          bif (!(decide (v1326 < 0))) then (
            some (.v (.agg #[.int .i64 ((IntKind.wrap .i64 ((orI .u64 ((IntKind.wrap .u64 (((IntKind.wrap .u64 a0)) * 2 ^ (min (Int.toNat v1326) 64)))) ((Int.fdiv a1 (2 ^ (min (Int.toNat v1334) 64)))))))), .int .u64 ((IntKind.wrap .u64 (a1 * 2 ^ (min (Int.toNat v1326) 64))))])))
          else (
            none))
        else (
          none))
      else (
        none))) : R) := by
    intros
    kernel_rfl
  exact (h ()).trans (by kernel_rfl)
def ok_wide_Left (F : Nat) (a0 : Int) (a1 : Int) (a2 : Int) : Bool := okT to_wide_Left (f_wide_Left F a0 a1 a2)
def o_wide_Left_0 (F : Nat) (a0 : Int) (a1 : Int) (a2 : Int) : Int := atI (nth (outT to_wide_Left (f_wide_Left F a0 a1 a2)) 0)
def o_wide_Left_1 (F : Nat) (a0 : Int) (a1 : Int) (a2 : Int) : Int := atI (nth (outT to_wide_Left (f_wide_Left F a0 a1 a2)) 1)
theorem k_wide_Left (F : Nat) (a0 : Int) (a1 : Int) (a2 : Int) {z0 : Int} {z1 : Int} (h : f_wide_Left F a0 a1 a2 = some (.v (.agg #[.int .i64 z0, .int .u64 z1]))) : ok_wide_Left F a0 a1 a2 = true ∧ o_wide_Left_0 F a0 a1 a2 = z0 ∧ o_wide_Left_1 F a0 a1 a2 = z1 := by
  refine ⟨?_, ?_, ?_⟩
  · unfold ok_wide_Left; rw [h]; kernel_rfl
  · unfold o_wide_Left_0; rw [h]; kernel_rfl
  · unfold o_wide_Left_1; rw [h]; kernel_rfl
def s_wide_Left (F : Nat) : List VV → Option (Bool × VV) := spec ti_wide_Left to_wide_Left (fun q => (ok_wide_Left F (atI (nth q 0)) (atI (nth q 1)) (atI (nth q 2)))) (fun q => [.i (o_wide_Left_0 F (atI (nth q 0)) (atI (nth q 1)) (atI (nth q 2))), .i (o_wide_Left_1 F (atI (nth q 0)) (atI (nth q 1)) (atI (nth q 2)))])
theorem hS_wide_Left (F : Nat) : ∀ f, Good PP f (unS (S_wide_Left F f)) := words_good fun p hp => by
  cases hp
theorem hl_wide_Left (F : Nat) : ∀ p ∈ loopsIn PP 111, LoopOK PP (S_wide_Left F) c_wide_Left F (I_wide_Left F) (J_wide_Left F) p :=
  loops_of [] (by kernel_rfl) all_nil
theorem hj_wide_Left (F : Nat) : ∀ p ∈ joinsIn PP c_wide_Left 111, JoinOK PP (S_wide_Left F) c_wide_Left (I_wide_Left F) (J_wide_Left F) p :=
  joins_of [] (by kernel_rfl) all_nil
theorem g_wide_Left (F : Nat) : Good PP 111 (unS (s_wide_Left F)) :=
  fun_spec (hS_wide_Left F) (by kernel_rfl) (by kernel_rfl) (C := c_wide_Left) (F := fun q => (f_wide_Left F (atI (nth q 0)) (atI (nth q 1)) (atI (nth q 2)))) (fun _ => F) (fun _ => I_wide_Left F) (fun _ => J_wide_Left F) (fun _ => hl_wide_Left F) (fun _ => hj_wide_Left F)
    (fun q => (congrArg (funL PP (S_wide_Left F) c_wide_Left (I_wide_Left F) (J_wide_Left F) 111) (show (fTs ti_wide_Left q).1 = (fTs ti_wide_Left [.i (atI (nth q 0)), .i (atI (nth q 1)), .i (atI (nth q 2))]).1 by kernel_rfl)).trans (e_wide_Left F (atI (nth q 0)) (atI (nth q 1)) (atI (nth q 2))))
    (fun _ h => (okT_fill h).trans (congrArg some (by kernel_rfl)))

end Go.Xv
set_option linter.unusedVariables false
namespace Go.Xv
/- 112 _wide_Less -/
def c_wide_Less : Cfg := ⟨[0, 1, 2, 3, 4, 9], [], [], []⟩
def ti_wide_Less : List TV := [.v (.agg [.int .i64, .int .u64]), .v (.agg [.int .i64, .int .u64])]
def to_wide_Less : TV := .v (.bool)
def S_wide_Less (F : Nat) : FuncId → List VV → Option (Bool × VV) := words []
def W_wide_Less (F : Nat) : List LW := []
def I_wide_Less (F : Nat) : Nat → VS → (Exit → VS → R) → R := tabI c_wide_Less (W_wide_Less F)
def WJ_wide_Less (F : Nat) : List LJ := []
def J_wide_Less (F : Nat) : Nat → Nat → VS → (Exit → VS → R) → R := tabJ (WJ_wide_Less F)
def f_wide_Less (F : Nat) (a0 : Int) (a1 : Int) (a2 : Int) (a3 : Int) : R :=
  bif ((a0 != a2)) then (
    some (.v (.bool ((decide (a0 < a2))))))
  else (
    some (.v (.bool ((decide (a1 < a3))))))
theorem e_wide_Less (F : Nat) (a0 : Int) (a1 : Int) (a2 : Int) (a3 : Int) : funL PP (S_wide_Less F) c_wide_Less (I_wide_Less F) (J_wide_Less F) 112 (fTs ti_wide_Less [.i a0, .i a1, .i a2, .i a3]).1 = f_wide_Less F a0 a1 a2 a3 := by
  have h : ∀ (_ : Unit), funL PP (words []) c_wide_Less (tabI c_wide_Less []) (tabJ []) 112 (fTs ti_wide_Less [.i a0, .i a1, .i a2, .i a3]).1 = (
  bif ((a0 != a2)) then (
    some (.v (.bool ((decide (a0 < a2))))))
  else (
    some (.v (.bool ((decide (a1 < a3)))))) : R) := by
    intros
    kernel_rfl
  exact (h ()).trans (by kernel_rfl)
def ok_wide_Less (F : Nat) (a0 : Int) (a1 : Int) (a2 : Int) (a3 : Int) : Bool := okT to_wide_Less (f_wide_Less F a0 a1 a2 a3)
def o_wide_Less_0 (F : Nat) (a0 : Int) (a1 : Int) (a2 : Int) (a3 : Int) : Bool := atB (nth (outT to_wide_Less (f_wide_Less F a0 a1 a2 a3)) 0)
theorem k_wide_Less (F : Nat) (a0 : Int) (a1 : Int) (a2 : Int) (a3 : Int) {z0 : Bool} (h : f_wide_Less F a0 a1 a2 a3 = some (.v (.bool z0))) : ok_wide_Less F a0 a1 a2 a3 = true ∧ o_wide_Less_0 F a0 a1 a2 a3 = z0 := by
  refine ⟨?_, ?_⟩
  · unfold ok_wide_Less; rw [h]; kernel_rfl
  · unfold o_wide_Less_0; rw [h]; kernel_rfl
def s_wide_Less (F : Nat) : List VV → Option (Bool × VV) := spec ti_wide_Less to_wide_Less (fun q => (ok_wide_Less F (atI (nth q 0)) (atI (nth q 1)) (atI (nth q 2)) (atI (nth q 3)))) (fun q => [.b (o_wide_Less_0 F (atI (nth q 0)) (atI (nth q 1)) (atI (nth q 2)) (atI (nth q 3)))])
theorem hS_wide_Less (F : Nat) : ∀ f, Good PP f (unS (S_wide_Less F f)) := words_good fun p hp => by
  cases hp
theorem hl_wide_Less (F : Nat) : ∀ p ∈ loopsIn PP 112, LoopOK PP (S_wide_Less F) c_wide_Less F (I_wide_Less F) (J_wide_Less F) p :=
  loops_of [] (by kernel_rfl) all_nil
theorem hj_wide_Less (F : Nat) : ∀ p ∈ joinsIn PP c_wide_Less 112, JoinOK PP (S_wide_Less F) c_wide_Less (I_wide_Less F) (J_wide_Less F) p :=
  joins_of [] (by kernel_rfl) all_nil
theorem g_wide_Less (F : Nat) : Good PP 112 (unS (s_wide_Less F)) :=
  fun_spec (hS_wide_Less F) (by kernel_rfl) (by kernel_rfl) (C := c_wide_Less) (F := fun q => (f_wide_Less F (atI (nth q 0)) (atI (nth q 1)) (atI (nth q 2)) (atI (nth q 3)))) (fun _ => F) (fun _ => I_wide_Less F) (fun _ => J_wide_Less F) (fun _ => hl_wide_Less F) (fun _ => hj_wide_Less F)
    (fun q => (congrArg (funL PP (S_wide_Less F) c_wide_Less (I_wide_Less F) (J_wide_Less F) 112) (show (fTs ti_wide_Less q).1 = (fTs ti_wide_Less [.i (atI (nth q 0)), .i (atI (nth q 1)), .i (atI (nth q 2)), .i (atI (nth q 3))]).1 by kernel_rfl)).trans (e_wide_Less F (atI (nth q 0)) (atI (nth q 1)) (atI (nth q 2)) (atI (nth q 3))))
    (fun _ h => (okT_fill h).trans (congrArg some (by kernel_rfl)))

end Go.Xv
set_option linter.unusedVariables false
namespace Go.Xv
/- 74 _wide_Sign -/
def c_wide_Sign : Cfg := ⟨[0, 1, 2, 3, 7], [], [], []⟩
def ti_wide_Sign : List TV := [.v (.agg [.int .i64, .int .u64])]
def to_wide_Sign : TV := .v (.int .i64)
def S_wide_Sign (F : Nat) : FuncId → List VV → Option (Bool × VV) := words []
def W_wide_Sign (F : Nat) : List LW := []
def I_wide_Sign (F : Nat) : Nat → VS → (Exit → VS → R) → R := tabI c_wide_Sign (W_wide_Sign F)
def WJ_wide_Sign (F : Nat) : List LJ := []
def J_wide_Sign (F : Nat) : Nat → Nat → VS → (Exit → VS → R) → R := tabJ (WJ_wide_Sign F)
def f_wide_Sign (F : Nat) (a0 : Int) (a1 : Int) : R :=
  bif ((decide (a0 < 0))) then (
    some (.v (.int .i64 (-1))))
  else (
    bif (((a0 == 0) && (a1 == 0))) then (
      some (.v (.int .i64 0)))
    else (
      some (.v (.int .i64 1))))
theorem e_wide_Sign (F : Nat) (a0 : Int) (a1 : Int) : funL PP (S_wide_Sign F) c_wide_Sign (I_wide_Sign F) (J_wide_Sign F) 74 (fTs ti_wide_Sign [.i a0, .i a1]).1 = f_wide_Sign F a0 a1 := by
  have h : ∀ (_ : Unit), funL PP (words []) c_wide_Sign (tabI c_wide_Sign []) (tabJ []) 74 (fTs ti_wide_Sign [.i a0, .i a1]).1 = (
  bif ((decide (a0 < 0))) then (
    some (.v (.int .i64 (-1))))
  else (
    bif (((a0 == 0) && (a1 == 0))) then (
      some (.v (.int .i64 0)))
    else (
      some (.v (.int .i64 1)))) : R) := by
    intros
    kernel_rfl
  exact (h ()).trans (by kernel_rfl)
def ok_wide_Sign (F : Nat) (a0 : Int) (a1 : Int) : Bool := okT to_wide_Sign (f_wide_Sign F a0 a1)
def o_wide_Sign_0 (F : Nat) (a0 : Int) (a1 : Int) : Int := atI (nth (outT to_wide_Sign (f_wide_Sign F a0 a1)) 0)
theorem k_wide_Sign (F : Nat) (a0 : Int) (a1 : Int) {z0 : Int} (h : f_wide_Sign F a0 a1 = some (.v (.int .i64 z0))) : ok_wide_Sign F a0 a1 = true ∧ o_wide_Sign_0 F a0 a1 = z0 := by
  refine ⟨?_, ?_⟩
  · unfold ok_wide_Sign; rw [h]; kernel_rfl
  · unfold o_wide_Sign_0; rw [h]; kernel_rfl
def s_wide_Sign (F : Nat) : List VV → Option (Bool × VV) := spec ti_wide_Sign to_wide_Sign (fun q => (ok_wide_Sign F (atI (nth q 0)) (atI (nth q 1)))) (fun q => [.i (o_wide_Sign_0 F (atI (nth q 0)) (atI (nth q 1)))])
theorem hS_wide_Sign (F : Nat) : ∀ f, Good PP f (unS (S_wide_Sign F f)) := words_good fun p hp => by
  cases hp
theorem hl_wide_Sign (F : Nat) : ∀ p ∈ loopsIn PP 74, LoopOK PP (S_wide_Sign F) c_wide_Sign F (I_wide_Sign F) (J_wide_Sign F) p :=
  loops_of [] (by kernel_rfl) all_nil
theorem hj_wide_Sign (F : Nat) : ∀ p ∈ joinsIn PP c_wide_Sign 74, JoinOK PP (S_wide_Sign F) c_wide_Sign (I_wide_Sign F) (J_wide_Sign F) p :=
  joins_of [] (by kernel_rfl) all_nil
theorem g_wide_Sign (F : Nat) : Good PP 74 (unS (s_wide_Sign F)) :=
  fun_spec (hS_wide_Sign F) (by kernel_rfl) (by kernel_rfl) (C := c_wide_Sign) (F := fun q => (f_wide_Sign F (atI (nth q 0)) (atI (nth q 1)))) (fun _ => F) (fun _ => I_wide_Sign F) (fun _ => J_wide_Sign F) (fun _ => hl_wide_Sign F) (fun _ => hj_wide_Sign F)
    (fun q => (congrArg (funL PP (S_wide_Sign F) c_wide_Sign (I_wide_Sign F) (J_wide_Sign F) 74) (show (fTs ti_wide_Sign q).1 = (fTs ti_wide_Sign [.i (atI (nth q 0)), .i (atI (nth q 1))]).1 by kernel_rfl)).trans (e_wide_Sign F (atI (nth q 0)) (atI (nth q 1))))
    (fun _ h => (okT_fill h).trans (congrArg some (by kernel_rfl)))

end Go.Xv
set_option linter.unusedVariables false
namespace Go.Xv
/- 92 _fix_Clamp -/
def c_fix_Clamp : Cfg := ⟨[0, 1, 2, 6, 7, 8, 11], [], [], []⟩
def ti_fix_Clamp : List TV := [.v (.int .i64), .v (.int .i64), .v (.int .i64)]
def to_fix_Clamp : TV := .v (.tup [.int .i64, .bool])
def S_fix_Clamp (F : Nat) : FuncId → List VV → Option (Bool × VV) := words []
def W_fix_Clamp (F : Nat) : List LW := []
def I_fix_Clamp (F : Nat) : Nat → VS → (Exit → VS → R) → R := tabI c_fix_Clamp (W_fix_Clamp F)
def WJ_fix_Clamp (F : Nat) : List LJ := []
def J_fix_Clamp (F : Nat) : Nat → Nat → VS → (Exit → VS → R) → R := tabJ (WJ_fix_Clamp F)
def f_fix_Clamp (F : Nat) (a0 : Int) (a1 : Int) (a2 : Int) : R :=
  bif ((decide (a2 < a1))) then (
    some (.v (.tuple #[.int .i64 a1, .bool true])))
  else (
    let v123 : Int := (if a1 > a0 then a1 else a0)
    let v124 : Int := (if a2 < v123 then a2 else v123)
    some (.v (.tuple #[.int .i64 v124, .bool ((v124 != a0))])))
theorem e_fix_Clamp (F : Nat) (a0 : Int) (a1 : Int) (a2 : Int) : funL PP (S_fix_Clamp F) c_fix_Clamp (I_fix_Clamp F) (J_fix_Clamp F) 92 (fTs ti_fix_Clamp [.i a0, .i a1, .i a2]).1 = f_fix_Clamp F a0 a1 a2 := by
  have h : ∀ (_ : Unit), funL PP (words []) c_fix_Clamp (tabI c_fix_Clamp []) (tabJ []) 92 (fTs ti_fix_Clamp [.i a0, .i a1, .i a2]).1 = (
  bif ((decide (a2 < a1))) then (
    some (.v (.tuple #[.int .i64 a1, .bool true])))
  else (
    let v123 : Int := (if a1 > a0 then a1 else a0)
    let v124 : Int := (if a2 < v123 then a2 else v123)
    some (.v (.tuple #[.int .i64 v124, .bool ((v124 != a0))]))) : R) := by
    intros
    kernel_rfl
  exact (h ()).trans (by kernel_rfl)
def ok_fix_Clamp (F : Nat) (a0 : Int) (a1 : Int) (a2 : Int) : Bool := okT to_fix_Clamp (f_fix_Clamp F a0 a1 a2)
def o_fix_Clamp_0 (F : Nat) (a0 : Int) (a1 : Int) (a2 : Int) : Int := atI (nth (outT to_fix_Clamp (f_fix_Clamp F a0 a1 a2)) 0)
def o_fix_Clamp_1 (F : Nat) (a0 : Int) (a1 : Int) (a2 : Int) : Bool := atB (nth (outT to_fix_Clamp (f_fix_Clamp F a0 a1 a2)) 1)
theorem k_fix_Clamp (F : Nat) (a0 : Int) (a1 : Int) (a2 : Int) {z0 : Int} {z1 : Bool} (h : f_fix_Clamp F a0 a1 a2 = some (.v (.tuple #[.int .i64 z0, .bool z1]))) : ok_fix_Clamp F a0 a1 a2 = true ∧ o_fix_Clamp_0 F a0 a1 a2 = z0 ∧ o_fix_Clamp_1 F a0 a1 a2 = z1 := by
  refine ⟨?_, ?_, ?_⟩
  · unfold ok_fix_Clamp; rw [h]; kernel_rfl
  · unfold o_fix_Clamp_0; rw [h]; kernel_rfl
  · unfold o_fix_Clamp_1; rw [h]; kernel_rfl
def s_fix_Clamp (F : Nat) : List VV → Option (Bool × VV) := spec ti_fix_Clamp to_fix_Clamp (fun q => (ok_fix_Clamp F (atI (nth q 0)) (atI (nth q 1)) (atI (nth q 2)))) (fun q => [.i (o_fix_Clamp_0 F (atI (nth q 0)) (atI (nth q 1)) (atI (nth q 2))), .b (o_fix_Clamp_1 F (atI (nth q 0)) (atI (nth q 1)) (atI (nth q 2)))])
theorem hS_fix_Clamp (F : Nat) : ∀ f, Good PP f (unS (S_fix_Clamp F f)) := words_good fun p hp => by
  cases hp
theorem hl_fix_Clamp (F : Nat) : ∀ p ∈ loopsIn PP 92, LoopOK PP (S_fix_Clamp F) c_fix_Clamp F (I_fix_Clamp F) (J_fix_Clamp F) p :=
  loops_of [] (by kernel_rfl) all_nil
theorem hj_fix_Clamp (F : Nat) : ∀ p ∈ joinsIn PP c_fix_Clamp 92, JoinOK PP (S_fix_Clamp F) c_fix_Clamp (I_fix_Clamp F) (J_fix_Clamp F) p :=
  joins_of [] (by kernel_rfl) all_nil
theorem g_fix_Clamp (F : Nat) : Good PP 92 (unS (s_fix_Clamp F)) :=
  fun_spec (hS_fix_Clamp F) (by kernel_rfl) (by kernel_rfl) (C := c_fix_Clamp) (F := fun q => (f_fix_Clamp F (atI (nth q 0)) (atI (nth q 1)) (atI (nth q 2)))) (fun _ => F) (fun _ => I_fix_Clamp F) (fun _ => J_fix_Clamp F) (fun _ => hl_fix_Clamp F) (fun _ => hj_fix_Clamp F)
    (fun q => (congrArg (funL PP (S_fix_Clamp F) c_fix_Clamp (I_fix_Clamp F) (J_fix_Clamp F) 92) (show (fTs ti_fix_Clamp q).1 = (fTs ti_fix_Clamp [.i (atI (nth q 0)), .i (atI (nth q 1)), .i (atI (nth q 2))]).1 by kernel_rfl)).trans (e_fix_Clamp F (atI (nth q 0)) (atI (nth q 1)) (atI (nth q 2))))
    (fun _ h => (okT_fill h).trans (congrArg some (by kernel_rfl)))

end Go.Xv
set_option linter.unusedVariables false
namespace Go.Xv
/- 72 _root_Square -/
def c_root_Square : Cfg := ⟨[0, 2, 3, 4, 5, 6], [], [], []⟩
def ti_root_Square : List TV := [.v (.int .u64)]
def to_root_Square : TV := .v (.agg [.int .i64, .int .u64])
def S_root_Square (F : Nat) : FuncId → List VV → Option (Bool × VV) := words [(111, s_wide_Left F), (71, s_wide_Add F)]
def W_root_Square (F : Nat) : List LW := []
def I_root_Square (F : Nat) : Nat → VS → (Exit → VS → R) → R := tabI c_root_Square (W_root_Square F)
def WJ_root_Square (F : Nat) : List LJ := []
def J_root_Square (F : Nat) : Nat → Nat → VS → (Exit → VS → R) → R := tabJ (WJ_root_Square F)
def f_root_Square (F : Nat) (a0 : Int) : R :=
  let v1320 : Int := (Int.fdiv a0 (4294967296))
  let v1321 : Int := (andI .u64 a0 4294967295)
  let v1323 : Int := (IntKind.wrap .i64 ((IntKind.wrap .u64 (v1320 * v1320))))
  let v1324 : Int := (IntKind.wrap .u64 (v1321 * v1321))
  let v1325 : Int := (IntKind.wrap .u64 (v1320 * v1321))
  bif (ok_wide_Left F 0 v1325 33) then (
    let v1339 : Int := (o_wide_Left_0 F 0 v1325 33)
    let v1340 : Int := (o_wide_Left_1 F 0 v1325 33)
    bif (ok_wide_Add F v1323 v1324 v1339 v1340) then (
      some (.v (.agg #[.int .i64 ((o_wide_Add_0 F v1323 v1324 v1339 v1340)), .int .u64 ((o_wide_Add_1 F v1323 v1324 v1339 v1340))])))
    else (
      none))
  else (
    none)
theorem e_root_Square (F : Nat) (a0 : Int) : funL PP (S_root_Square F) c_root_Square (I_root_Square F) (J_root_Square F) 72 (fTs ti_root_Square [.i a0]).1 = f_root_Square F a0 := by
  have h : ∀ (ok_wide_Left : Nat → Int → Int → Int → Bool) (o_wide_Left_0 : Nat → Int → Int → Int → Int) (o_wide_Left_1 : Nat → Int → Int → Int → Int) (ok_wide_Add : Nat → Int → Int → Int → Int → Bool) (o_wide_Add_0 : Nat → Int → Int → Int → Int → Int) (o_wide_Add_1 : Nat → Int → Int → Int → Int → Int), funL PP (words [(111, spec ti_wide_Left to_wide_Left (fun q => (ok_wide_Left F (atI (nth q 0)) (atI (nth q 1)) (atI (nth q 2)))) (fun q => [.i (o_wide_Left_0 F (atI (nth q 0)) (atI (nth q 1)) (atI (nth q 2))), .i (o_wide_Left_1 F (atI (nth q 0)) (atI (nth q 1)) (atI (nth q 2)))])), (71, spec ti_wide_Add to_wide_Add (fun q => (ok_wide_Add F (atI (nth q 0)) (atI (nth q 1)) (atI (nth q 2)) (atI (nth q 3)))) (fun q => [.i (o_wide_Add_0 F (atI (nth q 0)) (atI (nth q 1)) (atI (nth q 2)) (atI (nth q 3))), .i (o_wide_Add_1 F (atI (nth q 0)) (atI (nth q 1)) (atI (nth q 2)) (atI (nth q 3)))]))]) c_root_Square (tabI c_root_Square []) (tabJ []) 72 (fTs ti_root_Square [.i a0]).1 = (
  let v1320 : Int := (Int.fdiv a0 (4294967296))
  let v1321 : Int := (andI .u64 a0 4294967295)
  let v1323 : Int := (IntKind.wrap .i64 ((IntKind.wrap .u64 (v1320 * v1320))))
  let v1324 : Int := (IntKind.wrap .u64 (v1321 * v1321))
  let v1325 : Int := (IntKind.wrap .u64 (v1320 * v1321))
  bif (ok_wide_Left F 0 v1325 33) then (
    let v1339 : Int := (o_wide_Left_0 F 0 v1325 33)
    let v1340 : Int := (o_wide_Left_1 F 0 v1325 33)
    bif (ok_wide_Add F v1323 v1324 v1339 v1340) then (
      some (.v (.agg #[.int .i64 ((o_wide_Add_0 F v1323 v1324 v1339 v1340)), .int .u64 ((o_wide_Add_1 F v1323 v1324 v1339 v1340))])))
    else (
      none))
  else (
    none) : R) := by
    intros
    kernel_rfl
  exact (h ok_wide_Left o_wide_Left_0 o_wide_Left_1 ok_wide_Add o_wide_Add_0 o_wide_Add_1).trans (by kernel_rfl)
def ok_root_Square (F : Nat) (a0 : Int) : Bool := okT to_root_Square (f_root_Square F a0)
def o_root_Square_0 (F : Nat) (a0 : Int) : Int := atI (nth (outT to_root_Square (f_root_Square F a0)) 0)
def o_root_Square_1 (F : Nat) (a0 : Int) : Int := atI (nth (outT to_root_Square (f_root_Square F a0)) 1)
theorem k_root_Square (F : Nat) (a0 : Int) {z0 : Int} {z1 : Int} (h : f_root_Square F a0 = some (.v (.agg #[.int .i64 z0, .int .u64 z1]))) : ok_root_Square F a0 = true ∧ o_root_Square_0 F a0 = z0 ∧ o_root_Square_1 F a0 = z1 := by
  refine ⟨?_, ?_, ?_⟩
  · unfold ok_root_Square; rw [h]; kernel_rfl
  · unfold o_root_Square_0; rw [h]; kernel_rfl
  · unfold o_root_Square_1; rw [h]; kernel_rfl
def s_root_Square (F : Nat) : List VV → Option (Bool × VV) := spec ti_root_Square to_root_Square (fun q => (ok_root_Square F (atI (nth q 0)))) (fun q => [.i (o_root_Square_0 F (atI (nth q 0))), .i (o_root_Square_1 F (atI (nth q 0)))])
theorem hS_root_Square (F : Nat) : ∀ f, Good PP f (unS (S_root_Square F f)) := words_good fun p hp => by
  simp only [List.mem_cons, List.not_mem_nil, or_false] at hp
  rcases hp with rfl | rfl
  · exact g_wide_Left F
  · exact g_wide_Add F
theorem hl_root_Square (F : Nat) : ∀ p ∈ loopsIn PP 72, LoopOK PP (S_root_Square F) c_root_Square F (I_root_Square F) (J_root_Square F) p :=
  loops_of [] (by kernel_rfl) all_nil
theorem hj_root_Square (F : Nat) : ∀ p ∈ joinsIn PP c_root_Square 72, JoinOK PP (S_root_Square F) c_root_Square (I_root_Square F) (J_root_Square F) p :=
  joins_of [] (by kernel_rfl) all_nil
theorem g_root_Square (F : Nat) : Good PP 72 (unS (s_root_Square F)) :=
  fun_spec (hS_root_Square F) (by kernel_rfl) (by kernel_rfl) (C := c_root_Square) (F := fun q => (f_root_Square F (atI (nth q 0)))) (fun _ => F) (fun _ => I_root_Square F) (fun _ => J_root_Square F) (fun _ => hl_root_Square F) (fun _ => hj_root_Square F)
    (fun q => (congrArg (funL PP (S_root_Square F) c_root_Square (I_root_Square F) (J_root_Square F) 72) (show (fTs ti_root_Square q).1 = (fTs ti_root_Square [.i (atI (nth q 0))]).1 by kernel_rfl)).trans (e_root_Square F (atI (nth q 0))))
    (fun _ h => (okT_fill h).trans (congrArg some (by kernel_rfl)))

end Go.Xv
set_option linter.unusedVariables false
namespace Go.Xv
/- 75 _root_Wide -/
def c_root_Wide : Cfg := ⟨[0, 1, 2, 3, 4, 5, 6, 7, 10, 11, 12, 29], [(0, [0, 1, 2, 3, 4, 8, 9, 10, 11, 34])], [], []⟩
def ti_root_Wide : List TV := [.v (.agg [.int .i64, .int .u64])]
def to_root_Wide : TV := .v (.tup [.int .u64, .bool])
def S_root_Wide (F : Nat) : FuncId → List VV → Option (Bool × VV) := words [(72, s_root_Square F), (112, s_wide_Less F)]
def T_root_Wide_0 : TS := ⟨[(0, .v (.agg [.int .i64, .int .u64])), (1, .lp 0 (.lit 0)), (2, .v (.int .u64)), (3, .v (.bool)), (4, .v (.int .u64)), (11, .v (.int .i64))], [(0, ⟨(.ex [.v (.int .i64), .v (.int .u64)]), true⟩)], 1⟩
def T_root_Wide_0_0 : TS := ⟨[(0, .v (.agg [.int .i64, .int .u64])), (1, .lp 0 (.lit 0)), (2, .v (.int .u64)), (3, .v (.bool)), (4, .v (.int .u64)), (11, .v (.int .i64))], [(0, ⟨(.ex [.v (.int .i64), .v (.int .u64)]), true⟩)], 1⟩
def B_root_Wide_0 (F : Nat) (rc : Int → Int → Int → Bool → Int → Int → Int → Int → R) (ex0 : Int → Int → Int → Bool → Int → Int → Int → Int → R) (x0 : Int) (x1 : Int) (x2 : Int) (x3 : Bool) (x4 : Int) (x5 : Int) (x6 : Int) (x7 : Int) : R :=
  bif ((decide (x5 < 64))) then (
    let v1399 : Int := (IntKind.wrap .i64 (63 - x5))
    bif (!(decide (v1399 < 0))) then (
      let v1400 : Int := (IntKind.wrap .u64 (1 * 2 ^ (min (Int.toNat v1399) 64)))
      let v1401 : Int := (orI .u64 x4 v1400)
      bif (ok_root_Square F v1401) then (
        let v1402 : Int := (o_root_Square_0 F v1401)
        let v1403 : Int := (o_root_Square_1 F v1401)
        bif ((decide (v1402 ≥ 0))) then (
          bif (ok_wide_Less F x6 x7 v1402 v1403) then (
            bif ((!((o_wide_Less_0 F x6 x7 v1402 v1403)))) then (
              rc x0 x1 x2 x3 ((orI .u64 x4 v1400)) ((IntKind.wrap .i64 (x5 + 1))) x6 x7)
            else (
              rc x0 x1 x2 x3 x4 ((IntKind.wrap .i64 (x5 + 1))) x6 x7))
          else (
            none))
        else (
          rc x0 x1 x2 x3 x4 ((IntKind.wrap .i64 (x5 + 1))) x6 x7))
      else (
        none))
    else (
      none))
  else (
    ex0 x0 x1 x2 x3 x4 x5 x6 x7)
def L_root_Wide_0 (F : Nat) (ex0 : Int → Int → Int → Bool → Int → Int → Int → Int → R) : Nat → Int → Int → Int → Bool → Int → Int → Int → Int → R
  | 0, _, _, _, _, _, _, _, _ => none
  | n + 1, x0, x1, x2, x3, x4, x5, x6, x7 => B_root_Wide_0 F (L_root_Wide_0 F ex0 n) ex0 x0 x1 x2 x3 x4 x5 x6 x7
def W_root_Wide (F : Nat) : List LW := [⟨0, T_root_Wide_0, fun k q => L_root_Wide_0 F (fun (z0 : Int) (z1 : Int) (z2 : Int) (z3 : Bool) (z4 : Int) (z5 : Int) (z6 : Int) (z7 : Int) => k (.exit 0) (fS T_root_Wide_0_0 [.i z0, .i z1, .i z2, .b z3, .i z4, .i z5, .i z6, .i z7])) F (atI (nth q 0)) (atI (nth q 1)) (atI (nth q 2)) (atB (nth q 3)) (atI (nth q 4)) (atI (nth q 5)) (atI (nth q 6)) (atI (nth q 7))⟩]
def I_root_Wide (F : Nat) : Nat → VS → (Exit → VS → R) → R := tabI c_root_Wide (W_root_Wide F)
def WJ_root_Wide (F : Nat) : List LJ := []
def J_root_Wide (F : Nat) : Nat → Nat → VS → (Exit → VS → R) → R := tabJ (WJ_root_Wide F)
theorem lL_root_Wide_0 (F : Nat) (k : Exit → VS → R) : ∀ (n : Nat) (x0 : Int) (x1 : Int) (x2 : Int) (x3 : Bool) (x4 : Int) (x5 : Int) (x6 : Int) (x7 : Int), iterC (codeL PP (S_root_Wide F) c_root_Wide (I_root_Wide F) (J_root_Wide F) (loopAt PP 75 0) 0) (headOf c_root_Wide 0) k n (fS T_root_Wide_0 [.i x0, .i x1, .i x2, .b x3, .i x4, .i x5, .i x6, .i x7]) = L_root_Wide_0 F (fun (z0 : Int) (z1 : Int) (z2 : Int) (z3 : Bool) (z4 : Int) (z5 : Int) (z6 : Int) (z7 : Int) => k (.exit 0) (fS T_root_Wide_0_0 [.i z0, .i z1, .i z2, .b z3, .i z4, .i z5, .i z6, .i z7])) n x0 x1 x2 x3 x4 x5 x6 x7
  | 0, _, _, _, _, _, _, _, _ => rfl
  | n + 1, x0, x1, x2, x3, x4, x5, x6, x7 => by
    have h0 : ∀ (ok_root_Square : Nat → Int → Bool) (o_root_Square_0 : Nat → Int → Int) (o_root_Square_1 : Nat → Int → Int) (ok_wide_Less : Nat → Int → Int → Int → Int → Bool) (o_wide_Less_0 : Nat → Int → Int → Int → Int → Bool) (L_root_Wide_0 : Nat → (Int → Int → Int → Bool → Int → Int → Int → Int → R) → Nat → Int → Int → Int → Bool → Int → Int → Int → Int → R), iterC (codeL PP (words [(72, spec ti_root_Square to_root_Square (fun q => (ok_root_Square F (atI (nth q 0)))) (fun q => [.i (o_root_Square_0 F (atI (nth q 0))), .i (o_root_Square_1 F (atI (nth q 0)))])), (112, spec ti_wide_Less to_wide_Less (fun q => (ok_wide_Less F (atI (nth q 0)) (atI (nth q 1)) (atI (nth q 2)) (atI (nth q 3)))) (fun q => [.b (o_wide_Less_0 F (atI (nth q 0)) (atI (nth q 1)) (atI (nth q 2)) (atI (nth q 3)))]))]) c_root_Wide (tabI c_root_Wide [⟨0, T_root_Wide_0, fun k q => L_root_Wide_0 F (fun (z0 : Int) (z1 : Int) (z2 : Int) (z3 : Bool) (z4 : Int) (z5 : Int) (z6 : Int) (z7 : Int) => k (.exit 0) (fS T_root_Wide_0_0 [.i z0, .i z1, .i z2, .b z3, .i z4, .i z5, .i z6, .i z7])) F (atI (nth q 0)) (atI (nth q 1)) (atI (nth q 2)) (atB (nth q 3)) (atI (nth q 4)) (atI (nth q 5)) (atI (nth q 6)) (atI (nth q 7))⟩]) (tabJ []) (loopAt PP 75 0) 0) (headOf c_root_Wide 0) k (n + 1) (fS T_root_Wide_0 [.i x0, .i x1, .i x2, .b x3, .i x4, .i x5, .i x6, .i x7]) = (fun (rc : Int → Int → Int → Bool → Int → Int → Int → Int → R) (ex0 : Int → Int → Int → Bool → Int → Int → Int → Int → R) (x0 : Int) (x1 : Int) (x2 : Int) (x3 : Bool) (x4 : Int) (x5 : Int) (x6 : Int) (x7 : Int) => (
  bif ((decide (x5 < 64))) then (
    let v1399 : Int := (IntKind.wrap .i64 (63 - x5))
    bif (!(decide (v1399 < 0))) then (
      let v1400 : Int := (IntKind.wrap .u64 (1 * 2 ^ (min (Int.toNat v1399) 64)))
      let v1401 : Int := (orI .u64 x4 v1400)
      bif (ok_root_Square F v1401) then (
        let v1402 : Int := (o_root_Square_0 F v1401)
        let v1403 : Int := (o_root_Square_1 F v1401)
        bif ((decide (v1402 ≥ 0))) then (
          bif (ok_wide_Less F x6 x7 v1402 v1403) then (
            bif ((!((o_wide_Less_0 F x6 x7 v1402 v1403)))) then (
              rc x0 x1 x2 x3 ((orI .u64 x4 v1400)) ((IntKind.wrap .i64 (x5 + 1))) x6 x7)
            else (
              rc x0 x1 x2 x3 x4 ((IntKind.wrap .i64 (x5 + 1))) x6 x7))
          else (
            none))
        else (
          rc x0 x1 x2 x3 x4 ((IntKind.wrap .i64 (x5 + 1))) x6 x7))
      else (
        none))
    else (
      none))
  else (
    ex0 x0 x1 x2 x3 x4 x5 x6 x7) : R)) (fun (y0 : Int) (y1 : Int) (y2 : Int) (y3 : Bool) (y4 : Int) (y5 : Int) (y6 : Int) (y7 : Int) => iterC (codeL PP (words [(72, spec ti_root_Square to_root_Square (fun q => (ok_root_Square F (atI (nth q 0)))) (fun q => [.i (o_root_Square_0 F (atI (nth q 0))), .i (o_root_Square_1 F (atI (nth q 0)))])), (112, spec ti_wide_Less to_wide_Less (fun q => (ok_wide_Less F (atI (nth q 0)) (atI (nth q 1)) (atI (nth q 2)) (atI (nth q 3)))) (fun q => [.b (o_wide_Less_0 F (atI (nth q 0)) (atI (nth q 1)) (atI (nth q 2)) (atI (nth q 3)))]))]) c_root_Wide (tabI c_root_Wide [⟨0, T_root_Wide_0, fun k q => L_root_Wide_0 F (fun (z0 : Int) (z1 : Int) (z2 : Int) (z3 : Bool) (z4 : Int) (z5 : Int) (z6 : Int) (z7 : Int) => k (.exit 0) (fS T_root_Wide_0_0 [.i z0, .i z1, .i z2, .b z3, .i z4, .i z5, .i z6, .i z7])) F (atI (nth q 0)) (atI (nth q 1)) (atI (nth q 2)) (atB (nth q 3)) (atI (nth q 4)) (atI (nth q 5)) (atI (nth q 6)) (atI (nth q 7))⟩]) (tabJ []) (loopAt PP 75 0) 0) (headOf c_root_Wide 0) k n (fS T_root_Wide_0 [.i y0, .i y1, .i y2, .b y3, .i y4, .i y5, .i y6, .i y7])) (fun (z0 : Int) (z1 : Int) (z2 : Int) (z3 : Bool) (z4 : Int) (z5 : Int) (z6 : Int) (z7 : Int) => k (.exit 0) (fS T_root_Wide_0_0 [.i z0, .i z1, .i z2, .b z3, .i z4, .i z5, .i z6, .i z7])) x0 x1 x2 x3 x4 x5 x6 x7 := by
      intros
      kernel_rfl
    have h : iterC (codeL PP (S_root_Wide F) c_root_Wide (I_root_Wide F) (J_root_Wide F) (loopAt PP 75 0) 0) (headOf c_root_Wide 0) k (n + 1) (fS T_root_Wide_0 [.i x0, .i x1, .i x2, .b x3, .i x4, .i x5, .i x6, .i x7]) = B_root_Wide_0 F (fun (y0 : Int) (y1 : Int) (y2 : Int) (y3 : Bool) (y4 : Int) (y5 : Int) (y6 : Int) (y7 : Int) => iterC (codeL PP (S_root_Wide F) c_root_Wide (I_root_Wide F) (J_root_Wide F) (loopAt PP 75 0) 0) (headOf c_root_Wide 0) k n (fS T_root_Wide_0 [.i y0, .i y1, .i y2, .b y3, .i y4, .i y5, .i y6, .i y7])) (fun (z0 : Int) (z1 : Int) (z2 : Int) (z3 : Bool) (z4 : Int) (z5 : Int) (z6 : Int) (z7 : Int) => k (.exit 0) (fS T_root_Wide_0_0 [.i z0, .i z1, .i z2, .b z3, .i z4, .i z5, .i z6, .i z7])) x0 x1 x2 x3 x4 x5 x6 x7 := (h0 ok_root_Square o_root_Square_0 o_root_Square_1 ok_wide_Less o_wide_Less_0 L_root_Wide_0).trans (by kernel_rfl)
    rw [h]
    simp only [lL_root_Wide_0 F k n]
    rfl
def f_root_Wide (F : Nat) (a0 : Int) (a1 : Int) : R :=
  bif ((decide (a0 < 0))) then (
    some (.v (.tuple #[.int .u64 0, .bool false])))
  else (
    L_root_Wide_0 F (fun (v1414 : Int) (v1415 : Int) (v1416 : Int) (v1417 : Bool) (v1418 : Int) (v1419 : Int) (v1420 : Int) (v1421 : Int) =>
      some (.v (.tuple #[.int .u64 v1418, .bool true]))) F a0 a1 0 false 0 0 a0 a1)
theorem e_root_Wide (F : Nat) (a0 : Int) (a1 : Int) : funL PP (S_root_Wide F) c_root_Wide (I_root_Wide F) (J_root_Wide F) 75 (fTs ti_root_Wide [.i a0, .i a1]).1 = f_root_Wide F a0 a1 := by
  have h : ∀ (ok_root_Square : Nat → Int → Bool) (o_root_Square_0 : Nat → Int → Int) (o_root_Square_1 : Nat → Int → Int) (ok_wide_Less : Nat → Int → Int → Int → Int → Bool) (o_wide_Less_0 : Nat → Int → Int → Int → Int → Bool) (L_root_Wide_0 : Nat → (Int → Int → Int → Bool → Int → Int → Int → Int → R) → Nat → Int → Int → Int → Bool → Int → Int → Int → Int → R), funL PP (words [(72, spec ti_root_Square to_root_Square (fun q => (ok_root_Square F (atI (nth q 0)))) (fun q => [.i (o_root_Square_0 F (atI (nth q 0))), .i (o_root_Square_1 F (atI (nth q 0)))])), (112, spec ti_wide_Less to_wide_Less (fun q => (ok_wide_Less F (atI (nth q 0)) (atI (nth q 1)) (atI (nth q 2)) (atI (nth q 3)))) (fun q => [.b (o_wide_Less_0 F (atI (nth q 0)) (atI (nth q 1)) (atI (nth q 2)) (atI (nth q 3)))]))]) c_root_Wide (tabI c_root_Wide [⟨0, T_root_Wide_0, fun k q => L_root_Wide_0 F (fun (z0 : Int) (z1 : Int) (z2 : Int) (z3 : Bool) (z4 : Int) (z5 : Int) (z6 : Int) (z7 : Int) => k (.exit 0) (fS T_root_Wide_0_0 [.i z0, .i z1, .i z2, .b z3, .i z4, .i z5, .i z6, .i z7])) F (atI (nth q 0)) (atI (nth q 1)) (atI (nth q 2)) (atB (nth q 3)) (atI (nth q 4)) (atI (nth q 5)) (atI (nth q 6)) (atI (nth q 7))⟩]) (tabJ []) 75 (fTs ti_root_Wide [.i a0, .i a1]).1 = (
  bif ((decide (a0 < 0))) then (
    some (.v (.tuple #[.int .u64 0, .bool false])))
  else (
    L_root_Wide_0 F (fun (v1414 : Int) (v1415 : Int) (v1416 : Int) (v1417 : Bool) (v1418 : Int) (v1419 : Int) (v1420 : Int) (v1421 : Int) =>
      some (.v (.tuple #[.int .u64 v1418, .bool true]))) F a0 a1 0 false 0 0 a0 a1) : R) := by
    intros
    kernel_rfl
  exact (h ok_root_Square o_root_Square_0 o_root_Square_1 ok_wide_Less o_wide_Less_0 L_root_Wide_0).trans (by kernel_rfl)
def ok_root_Wide (F : Nat) (a0 : Int) (a1 : Int) : Bool := okT to_root_Wide (f_root_Wide F a0 a1)
def o_root_Wide_0 (F : Nat) (a0 : Int) (a1 : Int) : Int := atI (nth (outT to_root_Wide (f_root_Wide F a0 a1)) 0)
def o_root_Wide_1 (F : Nat) (a0 : Int) (a1 : Int) : Bool := atB (nth (outT to_root_Wide (f_root_Wide F a0 a1)) 1)
theorem k_root_Wide (F : Nat) (a0 : Int) (a1 : Int) {z0 : Int} {z1 : Bool} (h : f_root_Wide F a0 a1 = some (.v (.tuple #[.int .u64 z0, .bool z1]))) : ok_root_Wide F a0 a1 = true ∧ o_root_Wide_0 F a0 a1 = z0 ∧ o_root_Wide_1 F a0 a1 = z1 := by
  refine ⟨?_, ?_, ?_⟩
  · unfold ok_root_Wide; rw [h]; kernel_rfl
  · unfold o_root_Wide_0; rw [h]; kernel_rfl
  · unfold o_root_Wide_1; rw [h]; kernel_rfl
def s_root_Wide (F : Nat) : List VV → Option (Bool × VV) := spec ti_root_Wide to_root_Wide (fun q => (ok_root_Wide F (atI (nth q 0)) (atI (nth q 1)))) (fun q => [.i (o_root_Wide_0 F (atI (nth q 0)) (atI (nth q 1))), .b (o_root_Wide_1 F (atI (nth q 0)) (atI (nth q 1)))])
theorem hS_root_Wide (F : Nat) : ∀ f, Good PP f (unS (S_root_Wide F f)) := words_good fun p hp => by
  simp only [List.mem_cons, List.not_mem_nil, or_false] at hp
  rcases hp with rfl | rfl
  · exact g_root_Square F
  · exact g_wide_Less F
theorem hl_root_Wide (F : Nat) : ∀ p ∈ loopsIn PP 75, LoopOK PP (S_root_Wide F) c_root_Wide F (I_root_Wide F) (J_root_Wide F) p :=
  loops_of [(0, loopAt PP 75 0)] (by kernel_rfl) (all_cons
    (loop_ok (W_root_Wide F) rfl (tab_cons (fun _ k q => Le.ofEq ((lL_root_Wide_0 F k F (atI (nth q 0)) (atI (nth q 1)) (atI (nth q 2)) (atB (nth q 3)) (atI (nth q 4)) (atI (nth q 5)) (atI (nth q 6)) (atI (nth q 7))).symm.trans (congrArg (iterC (codeL PP (S_root_Wide F) c_root_Wide (I_root_Wide F) (J_root_Wide F) (loopAt PP 75 0) 0) (headOf c_root_Wide 0) k F) (show fS T_root_Wide_0 [.i (atI (nth q 0)), .i (atI (nth q 1)), .i (atI (nth q 2)), .b (atB (nth q 3)), .i (atI (nth q 4)), .i (atI (nth q 5)), .i (atI (nth q 6)), .i (atI (nth q 7))] = fS T_root_Wide_0 q by kernel_rfl)))) tab_nil)) all_nil)
theorem hj_root_Wide (F : Nat) : ∀ p ∈ joinsIn PP c_root_Wide 75, JoinOK PP (S_root_Wide F) c_root_Wide (I_root_Wide F) (J_root_Wide F) p :=
  joins_of [] (by kernel_rfl) all_nil
theorem g_root_Wide (F : Nat) : Good PP 75 (unS (s_root_Wide F)) :=
  fun_spec (hS_root_Wide F) (by kernel_rfl) (by kernel_rfl) (C := c_root_Wide) (F := fun q => (f_root_Wide F (atI (nth q 0)) (atI (nth q 1)))) (fun _ => F) (fun _ => I_root_Wide F) (fun _ => J_root_Wide F) (fun _ => hl_root_Wide F) (fun _ => hj_root_Wide F)
    (fun q => (congrArg (funL PP (S_root_Wide F) c_root_Wide (I_root_Wide F) (J_root_Wide F) 75) (show (fTs ti_root_Wide q).1 = (fTs ti_root_Wide [.i (atI (nth q 0)), .i (atI (nth q 1))]).1 by kernel_rfl)).trans (e_root_Wide F (atI (nth q 0)) (atI (nth q 1))))
    (fun _ h => (okT_fill h).trans (congrArg some (by kernel_rfl)))

end Go.Xv
set_option linter.unusedVariables false
namespace Go.Xv
/- 73 _vec_bare -/
def c_vec_bare : Cfg := ⟨[0, 2, 4], [], [], []⟩
def ti_vec_bare : List TV := [.v (.int .i64)]
def to_vec_bare : TV := .v (.int .u64)
def S_vec_bare (F : Nat) : FuncId → List VV → Option (Bool × VV) := words []
def W_vec_bare (F : Nat) : List LW := []
def I_vec_bare (F : Nat) : Nat → VS → (Exit → VS → R) → R := tabI c_vec_bare (W_vec_bare F)
def WJ_vec_bare (F : Nat) : List LJ := []
def J_vec_bare (F : Nat) : Nat → Nat → VS → (Exit → VS → R) → R := tabJ (WJ_vec_bare F)
def f_vec_bare (F : Nat) (a0 : Int) : R :=
  bif ((decide (a0 < 0))) then (
    some (.v (.int .u64 ((IntKind.wrap .u64 (0 - ((IntKind.wrap .u64 a0))))))))
  else (
    some (.v (.int .u64 ((IntKind.wrap .u64 a0)))))
theorem e_vec_bare (F : Nat) (a0 : Int) : funL PP (S_vec_bare F) c_vec_bare (I_vec_bare F) (J_vec_bare F) 73 (fTs ti_vec_bare [.i a0]).1 = f_vec_bare F a0 := by
  have h : ∀ (_ : Unit), funL PP (words []) c_vec_bare (tabI c_vec_bare []) (tabJ []) 73 (fTs ti_vec_bare [.i a0]).1 = (
  bif ((decide (a0 < 0))) then (
    some (.v (.int .u64 ((IntKind.wrap .u64 (0 - ((IntKind.wrap .u64 a0))))))))
  else (
    some (.v (.int .u64 ((IntKind.wrap .u64 a0))))) : R) := by
    intros
    kernel_rfl
  exact (h ()).trans (by kernel_rfl)
def ok_vec_bare (F : Nat) (a0 : Int) : Bool := okT to_vec_bare (f_vec_bare F a0)
def o_vec_bare_0 (F : Nat) (a0 : Int) : Int := atI (nth (outT to_vec_bare (f_vec_bare F a0)) 0)
theorem k_vec_bare (F : Nat) (a0 : Int) {z0 : Int} (h : f_vec_bare F a0 = some (.v (.int .u64 z0))) : ok_vec_bare F a0 = true ∧ o_vec_bare_0 F a0 = z0 := by
  refine ⟨?_, ?_⟩
  · unfold ok_vec_bare; rw [h]; kernel_rfl
  · unfold o_vec_bare_0; rw [h]; kernel_rfl
def s_vec_bare (F : Nat) : List VV → Option (Bool × VV) := spec ti_vec_bare to_vec_bare (fun q => (ok_vec_bare F (atI (nth q 0)))) (fun q => [.i (o_vec_bare_0 F (atI (nth q 0)))])
theorem hS_vec_bare (F : Nat) : ∀ f, Good PP f (unS (S_vec_bare F f)) := words_good fun p hp => by
  cases hp
theorem hl_vec_bare (F : Nat) : ∀ p ∈ loopsIn PP 73, LoopOK PP (S_vec_bare F) c_vec_bare F (I_vec_bare F) (J_vec_bare F) p :=
  loops_of [] (by kernel_rfl) all_nil
theorem hj_vec_bare (F : Nat) : ∀ p ∈ joinsIn PP c_vec_bare 73, JoinOK PP (S_vec_bare F) c_vec_bare (I_vec_bare F) (J_vec_bare F) p :=
  joins_of [] (by kernel_rfl) all_nil
theorem g_vec_bare (F : Nat) : Good PP 73 (unS (s_vec_bare F)) :=
  fun_spec (hS_vec_bare F) (by kernel_rfl) (by kernel_rfl) (C := c_vec_bare) (F := fun q => (f_vec_bare F (atI (nth q 0)))) (fun _ => F) (fun _ => I_vec_bare F) (fun _ => J_vec_bare F) (fun _ => hl_vec_bare F) (fun _ => hj_vec_bare F)
    (fun q => (congrArg (funL PP (S_vec_bare F) c_vec_bare (I_vec_bare F) (J_vec_bare F) 73) (show (fTs ti_vec_bare q).1 = (fTs ti_vec_bare [.i (atI (nth q 0))]).1 by kernel_rfl)).trans (e_vec_bare F (atI (nth q 0))))
    (fun _ h => (okT_fill h).trans (congrArg some (by kernel_rfl)))

end Go.Xv
set_option linter.unusedVariables false
namespace Go.Xv
/- 23 _vec_Length -/
def c_vec_Length : Cfg := ⟨[0, 1, 2, 3, 4, 6, 7, 9, 10, 11, 20, 28], [(0, [0, 1, 2, 3, 4, 7, 8, 9, 10, 22, 23, 24, 25, 26, 27, 28, 29, 30])], [15, 16], []⟩
def ti_vec_Length : List TV := [.v (.agg [.int .i64, .int .i64, .int .i64])]
def to_vec_Length : TV := .v (.tup [.int .i64, .bool])
def S_vec_Length (F : Nat) : FuncId → List VV → Option (Bool × VV) := words [(73, s_vec_bare F), (72, s_root_Square F), (71, s_wide_Add F), (74, s_wide_Sign F), (75, s_root_Wide F)]
def T_vec_Length_0 : TS := ⟨[(0, .v (.agg [.int .i64, .int .i64, .int .i64])), (1, .lp 0 (.lit 0)), (2, .v (.int .i64)), (3, .v (.bool)), (4, .lp 1 (.lit 0)), (9, .v (.agg [.int .i64, .int .i64, .int .i64])), (10, .v (.int .i64))], [(0, ⟨(.ex [.v (.int .i64), .v (.int .i64), .v (.int .i64)]), true⟩), (1, ⟨(.ex [.v (.int .i64), .v (.int .u64)]), true⟩)], 2⟩
def T_vec_Length_0_0 : TS := ⟨[(0, .v (.agg [.int .i64, .int .i64, .int .i64])), (1, .lp 0 (.lit 0)), (2, .v (.int .i64)), (3, .v (.bool)), (4, .lp 1 (.lit 0)), (6, .v (.int .i64)), (9, .v (.agg [.int .i64, .int .i64, .int .i64])), (10, .v (.int .i64))], [(0, ⟨(.ex [.v (.int .i64), .v (.int .i64), .v (.int .i64)]), true⟩), (1, ⟨(.ex [.v (.int .i64), .v (.int .u64)]), true⟩)], 2⟩
def T_vec_Length_0_1 : TS := ⟨[(0, .v (.agg [.int .i64, .int .i64, .int .i64])), (1, .lp 0 (.lit 0)), (2, .v (.int .i64)), (3, .v (.bool)), (4, .lp 1 (.lit 0)), (9, .v (.agg [.int .i64, .int .i64, .int .i64])), (10, .v (.int .i64))], [(0, ⟨(.ex [.v (.int .i64), .v (.int .i64), .v (.int .i64)]), true⟩), (1, ⟨(.ex [.v (.int .i64), .v (.int .u64)]), true⟩)], 2⟩
def B_vec_Length_0 (F : Nat) (rc : Int → Int → Int → Int → Bool → Int → Int → Int → Int → Int → Int → Int → Int → Int → R) (ex0 : Int → Int → Int → Int → Bool → Int → Int → Int → Int → Int → Int → Int → Int → Int → Int → R) (ex1 : Int → Int → Int → Int → Bool → Int → Int → Int → Int → Int → Int → Int → Int → Int → R) (x0 : Int) (x1 : Int) (x2 : Int) (x3 : Int) (x4 : Bool) (x5 : Int) (x6 : Int) (x7 : Int) (x8 : Int) (x9 : Int) (x10 : Int) (x11 : Int) (x12 : Int) (x13 : Int) : R :=
  bif ((decide (x8 < 3))) then (
    bif (((decide (0 ≤ x8)) && (decide (x8 < 3))) && ((isI .i64 [.v (.int .i64 x5), .v (.int .i64 x6), .v (.int .i64 x7)][((Int.toNat x8) * 1)]?) && true)) then (
      let v1314 : Int := (iv [.v (.int .i64 x5), .v (.int .i64 x6), .v (.int .i64 x7)][((Int.toNat x8) * 1)]?)
      bif (ok_vec_bare F v1314) then (
        let v1319 : Int := (o_vec_bare_0 F v1314)
        bif (ok_root_Square F v1319) then (
          let v1351 : Int := (o_root_Square_0 F v1319)
          let v1352 : Int := (o_root_Square_1 F v1319)
          bif (ok_wide_Add F x12 x13 v1351 v1352) then (
            let v1353 : Int := (o_wide_Add_0 F x12 x13 v1351 v1352)
            let v1354 : Int := (o_wide_Add_1 F x12 x13 v1351 v1352)
            bif (ok_wide_Sign F v1353 v1354) then (
              bif ((decide (((o_wide_Sign_0 F v1353 v1354)) < 0))) then (
                ex0 x0 x1 x2 9223372036854775807 true v1314 x5 x6 x7 x8 x9 x10 x11 v1353 v1354)
              else (
                rc x0 x1 x2 x3 x4 x5 x6 x7 ((IntKind.wrap .i64 (x8 + 1))) x9 x10 x11 v1353 v1354))
            else (
              none))
          else (
            none))
        else (
          none))
      else (
        none))
    else (
      none))
  else (
    ex1 x0 x1 x2 x3 x4 x5 x6 x7 x8 x9 x10 x11 x12 x13)
def L_vec_Length_0 (F : Nat) (ex0 : Int → Int → Int → Int → Bool → Int → Int → Int → Int → Int → Int → Int → Int → Int → Int → R) (ex1 : Int → Int → Int → Int → Bool → Int → Int → Int → Int → Int → Int → Int → Int → Int → R) : Nat → Int → Int → Int → Int → Bool → Int → Int → Int → Int → Int → Int → Int → Int → Int → R
  | 0, _, _, _, _, _, _, _, _, _, _, _, _, _, _ => none
  | n + 1, x0, x1, x2, x3, x4, x5, x6, x7, x8, x9, x10, x11, x12, x13 => B_vec_Length_0 F (L_vec_Length_0 F ex0 ex1 n) ex0 ex1 x0 x1 x2 x3 x4 x5 x6 x7 x8 x9 x10 x11 x12 x13
def W_vec_Length (F : Nat) : List LW := [⟨0, T_vec_Length_0, fun k q => L_vec_Length_0 F (fun (z0 : Int) (z1 : Int) (z2 : Int) (z3 : Int) (z4 : Bool) (z5 : Int) (z6 : Int) (z7 : Int) (z8 : Int) (z9 : Int) (z10 : Int) (z11 : Int) (z12 : Int) (z13 : Int) (z14 : Int) => k .ret (fS T_vec_Length_0_0 [.i z0, .i z1, .i z2, .i z3, .b z4, .i z5, .i z6, .i z7, .i z8, .i z9, .i z10, .i z11, .i z12, .i z13, .i z14])) (fun (z0 : Int) (z1 : Int) (z2 : Int) (z3 : Int) (z4 : Bool) (z5 : Int) (z6 : Int) (z7 : Int) (z8 : Int) (z9 : Int) (z10 : Int) (z11 : Int) (z12 : Int) (z13 : Int) => k (.exit 0) (fS T_vec_Length_0_1 [.i z0, .i z1, .i z2, .i z3, .b z4, .i z5, .i z6, .i z7, .i z8, .i z9, .i z10, .i z11, .i z12, .i z13])) F (atI (nth q 0)) (atI (nth q 1)) (atI (nth q 2)) (atI (nth q 3)) (atB (nth q 4)) (atI (nth q 5)) (atI (nth q 6)) (atI (nth q 7)) (atI (nth q 8)) (atI (nth q 9)) (atI (nth q 10)) (atI (nth q 11)) (atI (nth q 12)) (atI (nth q 13))⟩]
def I_vec_Length (F : Nat) : Nat → VS → (Exit → VS → R) → R := tabI c_vec_Length (W_vec_Length F)
def WJ_vec_Length (F : Nat) : List LJ := []
def J_vec_Length (F : Nat) : Nat → Nat → VS → (Exit → VS → R) → R := tabJ (WJ_vec_Length F)
theorem lL_vec_Length_0 (F : Nat) (k : Exit → VS → R) : ∀ (n : Nat) (x0 : Int) (x1 : Int) (x2 : Int) (x3 : Int) (x4 : Bool) (x5 : Int) (x6 : Int) (x7 : Int) (x8 : Int) (x9 : Int) (x10 : Int) (x11 : Int) (x12 : Int) (x13 : Int), iterC (codeL PP (S_vec_Length F) c_vec_Length (I_vec_Length F) (J_vec_Length F) (loopAt PP 23 0) 0) (headOf c_vec_Length 0) k n (fS T_vec_Length_0 [.i x0, .i x1, .i x2, .i x3, .b x4, .i x5, .i x6, .i x7, .i x8, .i x9, .i x10, .i x11, .i x12, .i x13]) = L_vec_Length_0 F (fun (z0 : Int) (z1 : Int) (z2 : Int) (z3 : Int) (z4 : Bool) (z5 : Int) (z6 : Int) (z7 : Int) (z8 : Int) (z9 : Int) (z10 : Int) (z11 : Int) (z12 : Int) (z13 : Int) (z14 : Int) => k .ret (fS T_vec_Length_0_0 [.i z0, .i z1, .i z2, .i z3, .b z4, .i z5, .i z6, .i z7, .i z8, .i z9, .i z10, .i z11, .i z12, .i z13, .i z14])) (fun (z0 : Int) (z1 : Int) (z2 : Int) (z3 : Int) (z4 : Bool) (z5 : Int) (z6 : Int) (z7 : Int) (z8 : Int) (z9 : Int) (z10 : Int) (z11 : Int) (z12 : Int) (z13 : Int) => k (.exit 0) (fS T_vec_Length_0_1 [.i z0, .i z1, .i z2, .i z3, .b z4, .i z5, .i z6, .i z7, .i z8, .i z9, .i z10, .i z11, .i z12, .i z13])) n x0 x1 x2 x3 x4 x5 x6 x7 x8 x9 x10 x11 x12 x13
  | 0, _, _, _, _, _, _, _, _, _, _, _, _, _, _ => rfl
  | n + 1, x0, x1, x2, x3, x4, x5, x6, x7, x8, x9, x10, x11, x12, x13 => by
    have h0 : ∀ (ok_vec_bare : Nat → Int → Bool) (o_vec_bare_0 : Nat → Int → Int) (ok_root_Square : Nat → Int → Bool) (o_root_Square_0 : Nat → Int → Int) (o_root_Square_1 : Nat → Int → Int) (ok_wide_Add : Nat → Int → Int → Int → Int → Bool) (o_wide_Add_0 : Nat → Int → Int → Int → Int → Int) (o_wide_Add_1 : Nat → Int → Int → Int → Int → Int) (ok_wide_Sign : Nat → Int → Int → Bool) (o_wide_Sign_0 : Nat → Int → Int → Int) (ok_root_Wide : Nat → Int → Int → Bool) (o_root_Wide_0 : Nat → Int → Int → Int) (o_root_Wide_1 : Nat → Int → Int → Bool) (L_vec_Length_0 : Nat → (Int → Int → Int → Int → Bool → Int → Int → Int → Int → Int → Int → Int → Int → Int → Int → R) → (Int → Int → Int → Int → Bool → Int → Int → Int → Int → Int → Int → Int → Int → Int → R) → Nat → Int → Int → Int → Int → Bool → Int → Int → Int → Int → Int → Int → Int → Int → Int → R), iterC (codeL PP (words [(73, spec ti_vec_bare to_vec_bare (fun q => (ok_vec_bare F (atI (nth q 0)))) (fun q => [.i (o_vec_bare_0 F (atI (nth q 0)))])), (72, spec ti_root_Square to_root_Square (fun q => (ok_root_Square F (atI (nth q 0)))) (fun q => [.i (o_root_Square_0 F (atI (nth q 0))), .i (o_root_Square_1 F (atI (nth q 0)))])), (71, spec ti_wide_Add to_wide_Add (fun q => (ok_wide_Add F (atI (nth q 0)) (atI (nth q 1)) (atI (nth q 2)) (atI (nth q 3)))) (fun q => [.i (o_wide_Add_0 F (atI (nth q 0)) (atI (nth q 1)) (atI (nth q 2)) (atI (nth q 3))), .i (o_wide_Add_1 F (atI (nth q 0)) (atI (nth q 1)) (atI (nth q 2)) (atI (nth q 3)))])), (74, spec ti_wide_Sign to_wide_Sign (fun q => (ok_wide_Sign F (atI (nth q 0)) (atI (nth q 1)))) (fun q => [.i (o_wide_Sign_0 F (atI (nth q 0)) (atI (nth q 1)))])), (75, spec ti_root_Wide to_root_Wide (fun q => (ok_root_Wide F (atI (nth q 0)) (atI (nth q 1)))) (fun q => [.i (o_root_Wide_0 F (atI (nth q 0)) (atI (nth q 1))), .b (o_root_Wide_1 F (atI (nth q 0)) (atI (nth q 1)))]))]) c_vec_Length (tabI c_vec_Length [⟨0, T_vec_Length_0, fun k q => L_vec_Length_0 F (fun (z0 : Int) (z1 : Int) (z2 : Int) (z3 : Int) (z4 : Bool) (z5 : Int) (z6 : Int) (z7 : Int) (z8 : Int) (z9 : Int) (z10 : Int) (z11 : Int) (z12 : Int) (z13 : Int) (z14 : Int) => k .ret (fS T_vec_Length_0_0 [.i z0, .i z1, .i z2, .i z3, .b z4, .i z5, .i z6, .i z7, .i z8, .i z9, .i z10, .i z11, .i z12, .i z13, .i z14])) (fun (z0 : Int) (z1 : Int) (z2 : Int) (z3 : Int) (z4 : Bool) (z5 : Int) (z6 : Int) (z7 : Int) (z8 : Int) (z9 : Int) (z10 : Int) (z11 : Int) (z12 : Int) (z13 : Int) => k (.exit 0) (fS T_vec_Length_0_1 [.i z0, .i z1, .i z2, .i z3, .b z4, .i z5, .i z6, .i z7, .i z8, .i z9, .i z10, .i z11, .i z12, .i z13])) F (atI (nth q 0)) (atI (nth q 1)) (atI (nth q 2)) (atI (nth q 3)) (atB (nth q 4)) (atI (nth q 5)) (atI (nth q 6)) (atI (nth q 7)) (atI (nth q 8)) (atI (nth q 9)) (atI (nth q 10)) (atI (nth q 11)) (atI (nth q 12)) (atI (nth q 13))⟩]) (tabJ []) (loopAt PP 23 0) 0) (headOf c_vec_Length 0) k (n + 1) (fS T_vec_Length_0 [.i x0, .i x1, .i x2, .i x3, .b x4, .i x5, .i x6, .i x7, .i x8, .i x9, .i x10, .i x11, .i x12, .i x13]) = (fun (rc : Int → Int → Int → Int → Bool → Int → Int → Int → Int → Int → Int → Int → Int → Int → R) (ex0 : Int → Int → Int → Int → Bool → Int → Int → Int → Int → Int → Int → Int → Int → Int → Int → R) (ex1 : Int → Int → Int → Int → Bool → Int → Int → Int → Int → Int → Int → Int → Int → Int → R) (x0 : Int) (x1 : Int) (x2 : Int) (x3 : Int) (x4 : Bool) (x5 : Int) (x6 : Int) (x7 : Int) (x8 : Int) (x9 : Int) (x10 : Int) (x11 : Int) (x12 : Int) (x13 : Int) => (
  bif ((decide (x8 < 3))) then (
    bif (((decide (0 ≤ x8)) && (decide (x8 < 3))) && ((isI .i64 [.v (.int .i64 x5), .v (.int .i64 x6), .v (.int .i64 x7)][((Int.toNat x8) * 1)]?) && true)) then (
      let v1314 : Int := (iv [.v (.int .i64 x5), .v (.int .i64 x6), .v (.int .i64 x7)][((Int.toNat x8) * 1)]?)
      bif (ok_vec_bare F v1314) then (
        let v1319 : Int := (o_vec_bare_0 F v1314)
        bif (ok_root_Square F v1319) then (
          let v1351 : Int := (o_root_Square_0 F v1319)
          let v1352 : Int := (o_root_Square_1 F v1319)
          bif (ok_wide_Add F x12 x13 v1351 v1352) then (
            let v1353 : Int := (o_wide_Add_0 F x12 x13 v1351 v1352)
            let v1354 : Int := (o_wide_Add_1 F x12 x13 v1351 v1352)
            bif (ok_wide_Sign F v1353 v1354) then (
              bif ((decide (((o_wide_Sign_0 F v1353 v1354)) < 0))) then (
                ex0 x0 x1 x2 9223372036854775807 true v1314 x5 x6 x7 x8 x9 x10 x11 v1353 v1354)
              else (
                rc x0 x1 x2 x3 x4 x5 x6 x7 ((IntKind.wrap .i64 (x8 + 1))) x9 x10 x11 v1353 v1354))
            else (
              none))
          else (
            none))
        else (
          none))
      else (
        none))
    else (
      none))
  else (
    ex1 x0 x1 x2 x3 x4 x5 x6 x7 x8 x9 x10 x11 x12 x13) : R)) (fun (y0 : Int) (y1 : Int) (y2 : Int) (y3 : Int) (y4 : Bool) (y5 : Int) (y6 : Int) (y7 : Int) (y8 : Int) (y9 : Int) (y10 : Int) (y11 : Int) (y12 : Int) (y13 : Int) => iterC (codeL PP (words [(73, spec ti_vec_bare to_vec_bare (fun q => (ok_vec_bare F (atI (nth q 0)))) (fun q => [.i (o_vec_bare_0 F (atI (nth q 0)))])), (72, spec ti_root_Square to_root_Square (fun q => (ok_root_Square F (atI (nth q 0)))) (fun q => [.i (o_root_Square_0 F (atI (nth q 0))), .i (o_root_Square_1 F (atI (nth q 0)))])), (71, spec ti_wide_Add to_wide_Add (fun q => (ok_wide_Add F (atI (nth q 0)) (atI (nth q 1)) (atI (nth q 2)) (atI (nth q 3)))) (fun q => [.i (o_wide_Add_0 F (atI (nth q 0)) (atI (nth q 1)) (atI (nth q 2)) (atI (nth q 3))), .i (o_wide_Add_1 F (atI (nth q 0)) (atI (nth q 1)) (atI (nth q 2)) (atI (nth q 3)))])), (74, spec ti_wide_Sign to_wide_Sign (fun q => (ok_wide_Sign F (atI (nth q 0)) (atI (nth q 1)))) (fun q => [.i (o_wide_Sign_0 F (atI (nth q 0)) (atI (nth q 1)))])), (75, spec ti_root_Wide to_root_Wide (fun q => (ok_root_Wide F (atI (nth q 0)) (atI (nth q 1)))) (fun q => [.i (o_root_Wide_0 F (atI (nth q 0)) (atI (nth q 1))), .b (o_root_Wide_1 F (atI (nth q 0)) (atI (nth q 1)))]))]) c_vec_Length (tabI c_vec_Length [⟨0, T_vec_Length_0, fun k q => L_vec_Length_0 F (fun (z0 : Int) (z1 : Int) (z2 : Int) (z3 : Int) (z4 : Bool) (z5 : Int) (z6 : Int) (z7 : Int) (z8 : Int) (z9 : Int) (z10 : Int) (z11 : Int) (z12 : Int) (z13 : Int) (z14 : Int) => k .ret (fS T_vec_Length_0_0 [.i z0, .i z1, .i z2, .i z3, .b z4, .i z5, .i z6, .i z7, .i z8, .i z9, .i z10, .i z11, .i z12, .i z13, .i z14])) (fun (z0 : Int) (z1 : Int) (z2 : Int) (z3 : Int) (z4 : Bool) (z5 : Int) (z6 : Int) (z7 : Int) (z8 : Int) (z9 : Int) (z10 : Int) (z11 : Int) (z12 : Int) (z13 : Int) => k (.exit 0) (fS T_vec_Length_0_1 [.i z0, .i z1, .i z2, .i z3, .b z4, .i z5, .i z6, .i z7, .i z8, .i z9, .i z10, .i z11, .i z12, .i z13])) F (atI (nth q 0)) (atI (nth q 1)) (atI (nth q 2)) (atI (nth q 3)) (atB (nth q 4)) (atI (nth q 5)) (atI (nth q 6)) (atI (nth q 7)) (atI (nth q 8)) (atI (nth q 9)) (atI (nth q 10)) (atI (nth q 11)) (atI (nth q 12)) (atI (nth q 13))⟩]) (tabJ []) (loopAt PP 23 0) 0) (headOf c_vec_Length 0) k n (fS T_vec_Length_0 [.i y0, .i y1, .i y2, .i y3, .b y4, .i y5, .i y6, .i y7, .i y8, .i y9, .i y10, .i y11, .i y12, .i y13])) (fun (z0 : Int) (z1 : Int) (z2 : Int) (z3 : Int) (z4 : Bool) (z5 : Int) (z6 : Int) (z7 : Int) (z8 : Int) (z9 : Int) (z10 : Int) (z11 : Int) (z12 : Int) (z13 : Int) (z14 : Int) => k .ret (fS T_vec_Length_0_0 [.i z0, .i z1, .i z2, .i z3, .b z4, .i z5, .i z6, .i z7, .i z8, .i z9, .i z10, .i z11, .i z12, .i z13, .i z14])) (fun (z0 : Int) (z1 : Int) (z2 : Int) (z3 : Int) (z4 : Bool) (z5 : Int) (z6 : Int) (z7 : Int) (z8 : Int) (z9 : Int) (z10 : Int) (z11 : Int) (z12 : Int) (z13 : Int) => k (.exit 0) (fS T_vec_Length_0_1 [.i z0, .i z1, .i z2, .i z3, .b z4, .i z5, .i z6, .i z7, .i z8, .i z9, .i z10, .i z11, .i z12, .i z13])) x0 x1 x2 x3 x4 x5 x6 x7 x8 x9 x10 x11 x12 x13 := by
      intros
      kernel_rfl
    have h : iterC (codeL PP (S_vec_Length F) c_vec_Length (I_vec_Length F) (J_vec_Length F) (loopAt PP 23 0) 0) (headOf c_vec_Length 0) k (n + 1) (fS T_vec_Length_0 [.i x0, .i x1, .i x2, .i x3, .b x4, .i x5, .i x6, .i x7, .i x8, .i x9, .i x10, .i x11, .i x12, .i x13]) = B_vec_Length_0 F (fun (y0 : Int) (y1 : Int) (y2 : Int) (y3 : Int) (y4 : Bool) (y5 : Int) (y6 : Int) (y7 : Int) (y8 : Int) (y9 : Int) (y10 : Int) (y11 : Int) (y12 : Int) (y13 : Int) => iterC (codeL PP (S_vec_Length F) c_vec_Length (I_vec_Length F) (J_vec_Length F) (loopAt PP 23 0) 0) (headOf c_vec_Length 0) k n (fS T_vec_Length_0 [.i y0, .i y1, .i y2, .i y3, .b y4, .i y5, .i y6, .i y7, .i y8, .i y9, .i y10, .i y11, .i y12, .i y13])) (fun (z0 : Int) (z1 : Int) (z2 : Int) (z3 : Int) (z4 : Bool) (z5 : Int) (z6 : Int) (z7 : Int) (z8 : Int) (z9 : Int) (z10 : Int) (z11 : Int) (z12 : Int) (z13 : Int) (z14 : Int) => k .ret (fS T_vec_Length_0_0 [.i z0, .i z1, .i z2, .i z3, .b z4, .i z5, .i z6, .i z7, .i z8, .i z9, .i z10, .i z11, .i z12, .i z13, .i z14])) (fun (z0 : Int) (z1 : Int) (z2 : Int) (z3 : Int) (z4 : Bool) (z5 : Int) (z6 : Int) (z7 : Int) (z8 : Int) (z9 : Int) (z10 : Int) (z11 : Int) (z12 : Int) (z13 : Int) => k (.exit 0) (fS T_vec_Length_0_1 [.i z0, .i z1, .i z2, .i z3, .b z4, .i z5, .i z6, .i z7, .i z8, .i z9, .i z10, .i z11, .i z12, .i z13])) x0 x1 x2 x3 x4 x5 x6 x7 x8 x9 x10 x11 x12 x13 := (h0 ok_vec_bare o_vec_bare_0 ok_root_Square o_root_Square_0 o_root_Square_1 ok_wide_Add o_wide_Add_0 o_wide_Add_1 ok_wide_Sign o_wide_Sign_0 ok_root_Wide o_root_Wide_0 o_root_Wide_1 L_vec_Length_0).trans (by kernel_rfl)
    rw [h]
    simp only [lL_vec_Length_0 F k n]
    rfl
def f_vec_Length (F : Nat) (a0 : Int) (a1 : Int) (a2 : Int) : R :=
  L_vec_Length_0 F (fun (v1360 : Int) (v1361 : Int) (v1362 : Int) (v1363 : Int) (v1364 : Bool) (v1365 : Int) (v1366 : Int) (v1367 : Int) (v1368 : Int) (v1369 : Int) (v1370 : Int) (v1371 : Int) (v1372 : Int) (v1373 : Int) (v1374 : Int) =>
    some (.v (.tuple #[.int .i64 v1363, .bool v1364]))) (fun (v1375 : Int) (v1376 : Int) (v1377 : Int) (v1378 : Int) (v1379 : Bool) (v1380 : Int) (v1381 : Int) (v1382 : Int) (v1383 : Int) (v1384 : Int) (v1385 : Int) (v1386 : Int) (v1387 : Int) (v1388 : Int) =>
    bif (ok_root_Wide F v1387 v1388) then (
      let v1422 : Int := (o_root_Wide_0 F v1387 v1388)
      bif ((decide (v1422 > 9223372036854775807))) then (
        some (.v (.tuple #[.int .i64 9223372036854775807, .bool true])))
      else (
        some (.v (.tuple #[.int .i64 ((IntKind.wrap .i64 v1422)), .bool false]))))
    else (
      none)) F a0 a1 a2 0 false a0 a1 a2 0 a0 a1 a2 0 0
theorem e_vec_Length (F : Nat) (a0 : Int) (a1 : Int) (a2 : Int) : funL PP (S_vec_Length F) c_vec_Length (I_vec_Length F) (J_vec_Length F) 23 (fTs ti_vec_Length [.i a0, .i a1, .i a2]).1 = f_vec_Length F a0 a1 a2 := by
  have h : ∀ (ok_vec_bare : Nat → Int → Bool) (o_vec_bare_0 : Nat → Int → Int) (ok_root_Square : Nat → Int → Bool) (o_root_Square_0 : Nat → Int → Int) (o_root_Square_1 : Nat → Int → Int) (ok_wide_Add : Nat → Int → Int → Int → Int → Bool) (o_wide_Add_0 : Nat → Int → Int → Int → Int → Int) (o_wide_Add_1 : Nat → Int → Int → Int → Int → Int) (ok_wide_Sign : Nat → Int → Int → Bool) (o_wide_Sign_0 : Nat → Int → Int → Int) (ok_root_Wide : Nat → Int → Int → Bool) (o_root_Wide_0 : Nat → Int → Int → Int) (o_root_Wide_1 : Nat → Int → Int → Bool) (L_vec_Length_0 : Nat → (Int → Int → Int → Int → Bool → Int → Int → Int → Int → Int → Int → Int → Int → Int → Int → R) → (Int → Int → Int → Int → Bool → Int → Int → Int → Int → Int → Int → Int → Int → Int → R) → Nat → Int → Int → Int → Int → Bool → Int → Int → Int → Int → Int → Int → Int → Int → Int → R), funL PP (words [(73, spec ti_vec_bare to_vec_bare (fun q => (ok_vec_bare F (atI (nth q 0)))) (fun q => [.i (o_vec_bare_0 F (atI (nth q 0)))])), (72, spec ti_root_Square to_root_Square (fun q => (ok_root_Square F (atI (nth q 0)))) (fun q => [.i (o_root_Square_0 F (atI (nth q 0))), .i (o_root_Square_1 F (atI (nth q 0)))])), (71, spec ti_wide_Add to_wide_Add (fun q => (ok_wide_Add F (atI (nth q 0)) (atI (nth q 1)) (atI (nth q 2)) (atI (nth q 3)))) (fun q => [.i (o_wide_Add_0 F (atI (nth q 0)) (atI (nth q 1)) (atI (nth q 2)) (atI (nth q 3))), .i (o_wide_Add_1 F (atI (nth q 0)) (atI (nth q 1)) (atI (nth q 2)) (atI (nth q 3)))])), (74, spec ti_wide_Sign to_wide_Sign (fun q => (ok_wide_Sign F (atI (nth q 0)) (atI (nth q 1)))) (fun q => [.i (o_wide_Sign_0 F (atI (nth q 0)) (atI (nth q 1)))])), (75, spec ti_root_Wide to_root_Wide (fun q => (ok_root_Wide F (atI (nth q 0)) (atI (nth q 1)))) (fun q => [.i (o_root_Wide_0 F (atI (nth q 0)) (atI (nth q 1))), .b (o_root_Wide_1 F (atI (nth q 0)) (atI (nth q 1)))]))]) c_vec_Length (tabI c_vec_Length [⟨0, T_vec_Length_0, fun k q => L_vec_Length_0 F (fun (z0 : Int) (z1 : Int) (z2 : Int) (z3 : Int) (z4 : Bool) (z5 : Int) (z6 : Int) (z7 : Int) (z8 : Int) (z9 : Int) (z10 : Int) (z11 : Int) (z12 : Int) (z13 : Int) (z14 : Int) => k .ret (fS T_vec_Length_0_0 [.i z0, .i z1, .i z2, .i z3, .b z4, .i z5, .i z6, .i z7, .i z8, .i z9, .i z10, .i z11, .i z12, .i z13, .i z14])) (fun (z0 : Int) (z1 : Int) (z2 : Int) (z3 : Int) (z4 : Bool) (z5 : Int) (z6 : Int) (z7 : Int) (z8 : Int) (z9 : Int) (z10 : Int) (z11 : Int) (z12 : Int) (z13 : Int) => k (.exit 0) (fS T_vec_Length_0_1 [.i z0, .i z1, .i z2, .i z3, .b z4, .i z5, .i z6, .i z7, .i z8, .i z9, .i z10, .i z11, .i z12, .i z13])) F (atI (nth q 0)) (atI (nth q 1)) (atI (nth q 2)) (atI (nth q 3)) (atB (nth q 4)) (atI (nth q 5)) (atI (nth q 6)) (atI (nth q 7)) (atI (nth q 8)) (atI (nth q 9)) (atI (nth q 10)) (atI (nth q 11)) (atI (nth q 12)) (atI (nth q 13))⟩]) (tabJ []) 23 (fTs ti_vec_Length [.i a0, .i a1, .i a2]).1 = (
  L_vec_Length_0 F (fun (v1360 : Int) (v1361 : Int) (v1362 : Int) (v1363 : Int) (v1364 : Bool) (v1365 : Int) (v1366 : Int) (v1367 : Int) (v1368 : Int) (v1369 : Int) (v1370 : Int) (v1371 : Int) (v1372 : Int) (v1373 : Int) (v1374 : Int) =>
    some (.v (.tuple #[.int .i64 v1363, .bool v1364]))) (fun (v1375 : Int) (v1376 : Int) (v1377 : Int) (v1378 : Int) (v1379 : Bool) (v1380 : Int) (v1381 : Int) (v1382 : Int) (v1383 : Int) (v1384 : Int) (v1385 : Int) (v1386 : Int) (v1387 : Int) (v1388 : Int) =>
    bif (ok_root_Wide F v1387 v1388) then (
      let v1422 : Int := (o_root_Wide_0 F v1387 v1388)
      bif ((decide (v1422 > 9223372036854775807))) then (
        some (.v (.tuple #[.int .i64 9223372036854775807, .bool true])))
      else (
        some (.v (.tuple #[.int .i64 ((IntKind.wrap .i64 v1422)), .bool false]))))
    else (
      none)) F a0 a1 a2 0 false a0 a1 a2 0 a0 a1 a2 0 0 : R) := by
    intros
    kernel_rfl
  exact (h ok_vec_bare o_vec_bare_0 ok_root_Square o_root_Square_0 o_root_Square_1 ok_wide_Add o_wide_Add_0 o_wide_Add_1 ok_wide_Sign o_wide_Sign_0 ok_root_Wide o_root_Wide_0 o_root_Wide_1 L_vec_Length_0).trans (by kernel_rfl)
def ok_vec_Length (F : Nat) (a0 : Int) (a1 : Int) (a2 : Int) : Bool := okT to_vec_Length (f_vec_Length F a0 a1 a2)
def o_vec_Length_0 (F : Nat) (a0 : Int) (a1 : Int) (a2 : Int) : Int := atI (nth (outT to_vec_Length (f_vec_Length F a0 a1 a2)) 0)
def o_vec_Length_1 (F : Nat) (a0 : Int) (a1 : Int) (a2 : Int) : Bool := atB (nth (outT to_vec_Length (f_vec_Length F a0 a1 a2)) 1)
theorem k_vec_Length (F : Nat) (a0 : Int) (a1 : Int) (a2 : Int) {z0 : Int} {z1 : Bool} (h : f_vec_Length F a0 a1 a2 = some (.v (.tuple #[.int .i64 z0, .bool z1]))) : ok_vec_Length F a0 a1 a2 = true ∧ o_vec_Length_0 F a0 a1 a2 = z0 ∧ o_vec_Length_1 F a0 a1 a2 = z1 := by
  refine ⟨?_, ?_, ?_⟩
  · unfold ok_vec_Length; rw [h]; kernel_rfl
  · unfold o_vec_Length_0; rw [h]; kernel_rfl
  · unfold o_vec_Length_1; rw [h]; kernel_rfl
def s_vec_Length (F : Nat) : List VV → Option (Bool × VV) := spec ti_vec_Length to_vec_Length (fun q => (ok_vec_Length F (atI (nth q 0)) (atI (nth q 1)) (atI (nth q 2)))) (fun q => [.i (o_vec_Length_0 F (atI (nth q 0)) (atI (nth q 1)) (atI (nth q 2))), .b (o_vec_Length_1 F (atI (nth q 0)) (atI (nth q 1)) (atI (nth q 2)))])
theorem hS_vec_Length (F : Nat) : ∀ f, Good PP f (unS (S_vec_Length F f)) := words_good fun p hp => by
  simp only [List.mem_cons, List.not_mem_nil, or_false] at hp
  rcases hp with rfl | rfl | rfl | rfl | rfl
  · exact g_vec_bare F
  · exact g_root_Square F
  · exact g_wide_Add F
  · exact g_wide_Sign F
  · exact g_root_Wide F
theorem hl_vec_Length (F : Nat) : ∀ p ∈ loopsIn PP 23, LoopOK PP (S_vec_Length F) c_vec_Length F (I_vec_Length F) (J_vec_Length F) p :=
  loops_of [(0, loopAt PP 23 0)] (by kernel_rfl) (all_cons
    (loop_ok (W_vec_Length F) rfl (tab_cons (fun _ k q => Le.ofEq ((lL_vec_Length_0 F k F (atI (nth q 0)) (atI (nth q 1)) (atI (nth q 2)) (atI (nth q 3)) (atB (nth q 4)) (atI (nth q 5)) (atI (nth q 6)) (atI (nth q 7)) (atI (nth q 8)) (atI (nth q 9)) (atI (nth q 10)) (atI (nth q 11)) (atI (nth q 12)) (atI (nth q 13))).symm.trans (congrArg (iterC (codeL PP (S_vec_Length F) c_vec_Length (I_vec_Length F) (J_vec_Length F) (loopAt PP 23 0) 0) (headOf c_vec_Length 0) k F) (show fS T_vec_Length_0 [.i (atI (nth q 0)), .i (atI (nth q 1)), .i (atI (nth q 2)), .i (atI (nth q 3)), .b (atB (nth q 4)), .i (atI (nth q 5)), .i (atI (nth q 6)), .i (atI (nth q 7)), .i (atI (nth q 8)), .i (atI (nth q 9)), .i (atI (nth q 10)), .i (atI (nth q 11)), .i (atI (nth q 12)), .i (atI (nth q 13))] = fS T_vec_Length_0 q by kernel_rfl)))) tab_nil)) all_nil)
theorem hj_vec_Length (F : Nat) : ∀ p ∈ joinsIn PP c_vec_Length 23, JoinOK PP (S_vec_Length F) c_vec_Length (I_vec_Length F) (J_vec_Length F) p :=
  joins_of [] (by kernel_rfl) all_nil
theorem g_vec_Length (F : Nat) : Good PP 23 (unS (s_vec_Length F)) :=
  fun_spec (hS_vec_Length F) (by kernel_rfl) (by kernel_rfl) (C := c_vec_Length) (F := fun q => (f_vec_Length F (atI (nth q 0)) (atI (nth q 1)) (atI (nth q 2)))) (fun _ => F) (fun _ => I_vec_Length F) (fun _ => J_vec_Length F) (fun _ => hl_vec_Length F) (fun _ => hj_vec_Length F)
    (fun q => (congrArg (funL PP (S_vec_Length F) c_vec_Length (I_vec_Length F) (J_vec_Length F) 23) (show (fTs ti_vec_Length q).1 = (fTs ti_vec_Length [.i (atI (nth q 0)), .i (atI (nth q 1)), .i (atI (nth q 2))]).1 by kernel_rfl)).trans (e_vec_Length F (atI (nth q 0)) (atI (nth q 1)) (atI (nth q 2))))
    (fun _ h => (okT_fill h).trans (congrArg some (by kernel_rfl)))

end Go.Xv
set_option linter.unusedVariables false
namespace Go.Xv
/- 22 _law06_works -/
def c_law06_works : Cfg := ⟨[0, 1, 2], [], [], []⟩
def ti_law06_works : List TV := []
def to_law06_works : TV := .v (.bool)
def S_law06_works (F : Nat) : FuncId → List VV → Option (Bool × VV) := words [(23, s_vec_Length F)]
def W_law06_works (F : Nat) : List LW := []
def I_law06_works (F : Nat) : Nat → VS → (Exit → VS → R) → R := tabI c_law06_works (W_law06_works F)
def WJ_law06_works (F : Nat) : List LJ := []
def J_law06_works (F : Nat) : Nat → Nat → VS → (Exit → VS → R) → R := tabJ (WJ_law06_works F)
def f_law06_works (F : Nat) : R :=
  bif (ok_vec_Length F 12884901888 17179869184 0) then (
    bif ((((o_vec_Length_0 F 12884901888 17179869184 0)) == 21474836480)) then (
      some (.v (.bool ((!((o_vec_Length_1 F 12884901888 17179869184 0)))))))
    else (
      some (.v (.bool false))))
  else (
    none)
theorem e_law06_works (F : Nat) : funL PP (S_law06_works F) c_law06_works (I_law06_works F) (J_law06_works F) 22 (fTs ti_law06_works []).1 = f_law06_works F := by
  have h : ∀ (ok_vec_Length : Nat → Int → Int → Int → Bool) (o_vec_Length_0 : Nat → Int → Int → Int → Int) (o_vec_Length_1 : Nat → Int → Int → Int → Bool), funL PP (words [(23, spec ti_vec_Length to_vec_Length (fun q => (ok_vec_Length F (atI (nth q 0)) (atI (nth q 1)) (atI (nth q 2)))) (fun q => [.i (o_vec_Length_0 F (atI (nth q 0)) (atI (nth q 1)) (atI (nth q 2))), .b (o_vec_Length_1 F (atI (nth q 0)) (atI (nth q 1)) (atI (nth q 2)))]))]) c_law06_works (tabI c_law06_works []) (tabJ []) 22 (fTs ti_law06_works []).1 = (
  bif (ok_vec_Length F 12884901888 17179869184 0) then (
    bif ((((o_vec_Length_0 F 12884901888 17179869184 0)) == 21474836480)) then (
      some (.v (.bool ((!((o_vec_Length_1 F 12884901888 17179869184 0)))))))
    else (
      some (.v (.bool false))))
  else (
    none) : R) := by
    intros
    kernel_rfl
  exact (h ok_vec_Length o_vec_Length_0 o_vec_Length_1).trans (by kernel_rfl)
def ok_law06_works (F : Nat) : Bool := okT to_law06_works (f_law06_works F)
def o_law06_works_0 (F : Nat) : Bool := atB (nth (outT to_law06_works (f_law06_works F)) 0)
theorem k_law06_works (F : Nat) {z0 : Bool} (h : f_law06_works F = some (.v (.bool z0))) : ok_law06_works F = true ∧ o_law06_works_0 F = z0 := by
  refine ⟨?_, ?_⟩
  · unfold ok_law06_works; rw [h]; kernel_rfl
  · unfold o_law06_works_0; rw [h]; kernel_rfl
def s_law06_works (F : Nat) : List VV → Option (Bool × VV) := spec ti_law06_works to_law06_works (fun q => (ok_law06_works F )) (fun q => [.b (o_law06_works_0 F )])
theorem hS_law06_works (F : Nat) : ∀ f, Good PP f (unS (S_law06_works F f)) := words_good fun p hp => by
  simp only [List.mem_cons, List.not_mem_nil, or_false] at hp
  rcases hp with rfl
  · exact g_vec_Length F
theorem hl_law06_works (F : Nat) : ∀ p ∈ loopsIn PP 22, LoopOK PP (S_law06_works F) c_law06_works F (I_law06_works F) (J_law06_works F) p :=
  loops_of [] (by kernel_rfl) all_nil
theorem hj_law06_works (F : Nat) : ∀ p ∈ joinsIn PP c_law06_works 22, JoinOK PP (S_law06_works F) c_law06_works (I_law06_works F) (J_law06_works F) p :=
  joins_of [] (by kernel_rfl) all_nil
theorem g_law06_works (F : Nat) : Good PP 22 (unS (s_law06_works F)) :=
  fun_spec (hS_law06_works F) (by kernel_rfl) (by kernel_rfl) (C := c_law06_works) (F := fun q => (f_law06_works F )) (fun _ => F) (fun _ => I_law06_works F) (fun _ => J_law06_works F) (fun _ => hl_law06_works F) (fun _ => hj_law06_works F)
    (fun q => (congrArg (funL PP (S_law06_works F) c_law06_works (I_law06_works F) (J_law06_works F) 22) (show (fTs ti_law06_works q).1 = (fTs ti_law06_works []).1 by kernel_rfl)).trans (e_law06_works F ))
    (fun _ h => (okT_fill h).trans (congrArg some (by kernel_rfl)))

end Go.Xv
set_option linter.unusedVariables false
namespace Go.Xv
/- 91 _vec_Clamp_1 -/
def c_vec_Clamp_1 : Cfg := ⟨[0, 1, 2, 4, 5], [], [], []⟩
def ti_vec_Clamp_1 : List TV := [.v (.int .i64), .fpx [.v (.int .i64), .v (.int .i64), .v (.int .i64)] (.lit 0), .fpx [.v (.int .i64)] (.lit 0)]
def to_vec_Clamp_1 : TV := .v (.tup [.int .i64, .bool])
def S_vec_Clamp_1 (F : Nat) : FuncId → List VV → Option (Bool × VV) := words [(92, s_fix_Clamp F)]
def W_vec_Clamp_1 (F : Nat) : List LW := []
def I_vec_Clamp_1 (F : Nat) : Nat → VS → (Exit → VS → R) → R := tabI c_vec_Clamp_1 (W_vec_Clamp_1 F)
def WJ_vec_Clamp_1 (F : Nat) : List LJ := []
def J_vec_Clamp_1 (F : Nat) : Nat → Nat → VS → (Exit → VS → R) → R := tabJ (WJ_vec_Clamp_1 F)
def f_vec_Clamp_1 (F : Nat) (a0 : Int) (a1 : Int) (a2 : Int) (a3 : Int) (a4 : Int) : R :=
  bif ((decide (0 ≤ a0)) && (decide (a0 < 3))) then (
    let v1505 : Nat := (0 + ((Int.toNat a0) * 1))
    bif ((isI .i64 [.v (.int .i64 a1), .v (.int .i64 a2), .v (.int .i64 a3)][v1505]?) && true) then (
      let v1506 : Int := (iv [.v (.int .i64 a1), .v (.int .i64 a2), .v (.int .i64 a3)][v1505]?)
      let v1507 : Int := (IntKind.wrap .i64 (0 - a4))
      bif (ok_fix_Clamp F v1506 v1507 a4) then (
        some (.v (.tuple #[.int .i64 ((o_fix_Clamp_0 F v1506 v1507 a4)), .bool ((o_fix_Clamp_1 F v1506 v1507 a4))])))
      else (
        none))
    else (
      none))
  else (
    none)
theorem e_vec_Clamp_1 (F : Nat) (a0 : Int) (a1 : Int) (a2 : Int) (a3 : Int) (a4 : Int) : funL PP (S_vec_Clamp_1 F) c_vec_Clamp_1 (I_vec_Clamp_1 F) (J_vec_Clamp_1 F) 91 (fTs ti_vec_Clamp_1 [.i a0, .i a1, .i a2, .i a3, .i a4]).1 = f_vec_Clamp_1 F a0 a1 a2 a3 a4 := by
  have h : ∀ (ok_fix_Clamp : Nat → Int → Int → Int → Bool) (o_fix_Clamp_0 : Nat → Int → Int → Int → Int) (o_fix_Clamp_1 : Nat → Int → Int → Int → Bool), funL PP (words [(92, spec ti_fix_Clamp to_fix_Clamp (fun q => (ok_fix_Clamp F (atI (nth q 0)) (atI (nth q 1)) (atI (nth q 2)))) (fun q => [.i (o_fix_Clamp_0 F (atI (nth q 0)) (atI (nth q 1)) (atI (nth q 2))), .b (o_fix_Clamp_1 F (atI (nth q 0)) (atI (nth q 1)) (atI (nth q 2)))]))]) c_vec_Clamp_1 (tabI c_vec_Clamp_1 []) (tabJ []) 91 (fTs ti_vec_Clamp_1 [.i a0, .i a1, .i a2, .i a3, .i a4]).1 = (
  bif ((decide (0 ≤ a0)) && (decide (a0 < 3))) then (
    let v1505 : Nat := (0 + ((Int.toNat a0) * 1))
    bif ((isI .i64 [.v (.int .i64 a1), .v (.int .i64 a2), .v (.int .i64 a3)][v1505]?) && true) then (
      let v1506 : Int := (iv [.v (.int .i64 a1), .v (.int .i64 a2), .v (.int .i64 a3)][v1505]?)
      let v1507 : Int := (IntKind.wrap .i64 (0 - a4))
      bif (ok_fix_Clamp F v1506 v1507 a4) then (
        some (.v (.tuple #[.int .i64 ((o_fix_Clamp_0 F v1506 v1507 a4)), .bool ((o_fix_Clamp_1 F v1506 v1507 a4))])))
      else (
        none))
    else (
      none))
  else (
    none) : R) := by
    intros
    kernel_rfl
  exact (h ok_fix_Clamp o_fix_Clamp_0 o_fix_Clamp_1).trans (by kernel_rfl)
def ok_vec_Clamp_1 (F : Nat) (a0 : Int) (a1 : Int) (a2 : Int) (a3 : Int) (a4 : Int) : Bool := okT to_vec_Clamp_1 (f_vec_Clamp_1 F a0 a1 a2 a3 a4)
def o_vec_Clamp_1_0 (F : Nat) (a0 : Int) (a1 : Int) (a2 : Int) (a3 : Int) (a4 : Int) : Int := atI (nth (outT to_vec_Clamp_1 (f_vec_Clamp_1 F a0 a1 a2 a3 a4)) 0)
def o_vec_Clamp_1_1 (F : Nat) (a0 : Int) (a1 : Int) (a2 : Int) (a3 : Int) (a4 : Int) : Bool := atB (nth (outT to_vec_Clamp_1 (f_vec_Clamp_1 F a0 a1 a2 a3 a4)) 1)
theorem k_vec_Clamp_1 (F : Nat) (a0 : Int) (a1 : Int) (a2 : Int) (a3 : Int) (a4 : Int) {z0 : Int} {z1 : Bool} (h : f_vec_Clamp_1 F a0 a1 a2 a3 a4 = some (.v (.tuple #[.int .i64 z0, .bool z1]))) : ok_vec_Clamp_1 F a0 a1 a2 a3 a4 = true ∧ o_vec_Clamp_1_0 F a0 a1 a2 a3 a4 = z0 ∧ o_vec_Clamp_1_1 F a0 a1 a2 a3 a4 = z1 := by
  refine ⟨?_, ?_, ?_⟩
  · unfold ok_vec_Clamp_1; rw [h]; kernel_rfl
  · unfold o_vec_Clamp_1_0; rw [h]; kernel_rfl
  · unfold o_vec_Clamp_1_1; rw [h]; kernel_rfl
def s_vec_Clamp_1 (F : Nat) : List VV → Option (Bool × VV) := spec ti_vec_Clamp_1 to_vec_Clamp_1 (fun q => (ok_vec_Clamp_1 F (atI (nth q 0)) (atI (nth q 1)) (atI (nth q 2)) (atI (nth q 3)) (atI (nth q 4)))) (fun q => [.i (o_vec_Clamp_1_0 F (atI (nth q 0)) (atI (nth q 1)) (atI (nth q 2)) (atI (nth q 3)) (atI (nth q 4))), .b (o_vec_Clamp_1_1 F (atI (nth q 0)) (atI (nth q 1)) (atI (nth q 2)) (atI (nth q 3)) (atI (nth q 4)))])
theorem hS_vec_Clamp_1 (F : Nat) : ∀ f, Good PP f (unS (S_vec_Clamp_1 F f)) := words_good fun p hp => by
  simp only [List.mem_cons, List.not_mem_nil, or_false] at hp
  rcases hp with rfl
  · exact g_fix_Clamp F
theorem hl_vec_Clamp_1 (F : Nat) : ∀ p ∈ loopsIn PP 91, LoopOK PP (S_vec_Clamp_1 F) c_vec_Clamp_1 F (I_vec_Clamp_1 F) (J_vec_Clamp_1 F) p :=
  loops_of [] (by kernel_rfl) all_nil
theorem hj_vec_Clamp_1 (F : Nat) : ∀ p ∈ joinsIn PP c_vec_Clamp_1 91, JoinOK PP (S_vec_Clamp_1 F) c_vec_Clamp_1 (I_vec_Clamp_1 F) (J_vec_Clamp_1 F) p :=
  joins_of [] (by kernel_rfl) all_nil
theorem g_vec_Clamp_1 (F : Nat) : Good PP 91 (unS (s_vec_Clamp_1 F)) :=
  fun_spec (hS_vec_Clamp_1 F) (by kernel_rfl) (by kernel_rfl) (C := c_vec_Clamp_1) (F := fun q => (f_vec_Clamp_1 F (atI (nth q 0)) (atI (nth q 1)) (atI (nth q 2)) (atI (nth q 3)) (atI (nth q 4)))) (fun _ => F) (fun _ => I_vec_Clamp_1 F) (fun _ => J_vec_Clamp_1 F) (fun _ => hl_vec_Clamp_1 F) (fun _ => hj_vec_Clamp_1 F)
    (fun q => (congrArg (funL PP (S_vec_Clamp_1 F) c_vec_Clamp_1 (I_vec_Clamp_1 F) (J_vec_Clamp_1 F) 91) (show (fTs ti_vec_Clamp_1 q).1 = (fTs ti_vec_Clamp_1 [.i (atI (nth q 0)), .i (atI (nth q 1)), .i (atI (nth q 2)), .i (atI (nth q 3)), .i (atI (nth q 4))]).1 by kernel_rfl)).trans (e_vec_Clamp_1 F (atI (nth q 0)) (atI (nth q 1)) (atI (nth q 2)) (atI (nth q 3)) (atI (nth q 4))))
    (fun _ h => (okT_fill h).trans (congrArg some (by kernel_rfl)))

end Go.Xv
set_option linter.unusedVariables false
namespace Go.Xv
/- 90 _vec_each -/
def c_vec_each : Cfg := ⟨[0, 2, 3, 4, 5, 6, 7, 8, 9, 10], [(0, [0, 2, 3, 4, 5, 9, 26, 27])], [], []⟩
def ti_vec_each : List TV := [.fn 91 [.fpx [.v (.int .i64), .v (.int .i64), .v (.int .i64)] (.lit 0), .fpx [.v (.int .i64)] (.lit 0)]]
def to_vec_each : TV := .v (.tup [.agg [.int .i64, .int .i64, .int .i64], .bool])
def S_vec_each (F : Nat) : FuncId → List VV → Option (Bool × VV) := words [(91, s_vec_Clamp_1 F)]
def T_vec_each_0 : TS := ⟨[(0, .fn 91 [.fpx [.v (.int .i64), .v (.int .i64), .v (.int .i64)] (.lit 0), .fpx [.v (.int .i64)] (.lit 0)]), (2, .lp 0 (.lit 0)), (3, .v (.bool)), (4, .lp 1 (.lit 0)), (5, .v (.bool)), (9, .v (.int .i64))], [(0, ⟨(.ex [.v (.int .i64), .v (.int .i64), .v (.int .i64)]), true⟩), (1, ⟨.hole, true⟩)], 2⟩
def T_vec_each_0_0 : TS := ⟨[(0, .fn 91 [.fpx [.v (.int .i64), .v (.int .i64), .v (.int .i64)] (.lit 0), .fpx [.v (.int .i64)] (.lit 0)]), (2, .lp 0 (.lit 0)), (3, .v (.bool)), (4, .lp 1 (.lit 0)), (5, .v (.bool)), (9, .v (.int .i64))], [(0, ⟨(.ex [.v (.int .i64), .v (.int .i64), .v (.int .i64)]), true⟩), (1, ⟨.hole, true⟩)], 2⟩
def B_vec_each_0 (F : Nat) (rc : Int → Int → Int → Int → Bool → Bool → Int → Int → Int → Int → List VV → R) (ex0 : Int → Int → Int → Int → Bool → Bool → Int → Int → Int → Int → List VV → R) (x0 : Int) (x1 : Int) (x2 : Int) (x3 : Int) (x4 : Bool) (x5 : Bool) (x6 : Int) (x7 : Int) (x8 : Int) (x9 : Int) (x10 : List VV) : R :=
  bif ((decide (x6 < 3))) then (
    bif (ok_vec_Clamp_1 F x6 x0 x1 x2 x3) then (
      let v1510 : Int := (o_vec_Clamp_1_0 F x6 x0 x1 x2 x3)
      bif x5 then (
        bif ((decide (0 ≤ x6)) && (decide (x6 < 3))) then (
          let v1512 : Nat := (0 + ((Int.toNat x6) * 1))
          bif (decide ((v1512 + 1) ≤ x10.length)) then (
            rc x0 x1 x2 x3 x4 true ((IntKind.wrap .i64 (x6 + 1))) x7 x8 x9 ((x10.take v1512 ++ [.v (.int .i64 v1510)] ++ x10.drop (v1512 + 1))))
          else (
            none))
        else (
          none))
      else (
        bif ((decide (0 ≤ x6)) && (decide (x6 < 3))) then (
          let v1515 : Nat := (0 + ((Int.toNat x6) * 1))
          bif (decide ((v1515 + 1) ≤ x10.length)) then (
            rc x0 x1 x2 x3 x4 ((o_vec_Clamp_1_1 F x6 x0 x1 x2 x3)) ((IntKind.wrap .i64 (x6 + 1))) x7 x8 x9 ((x10.take v1515 ++ [.v (.int .i64 v1510)] ++ x10.drop (v1515 + 1))))
          else (
            none))
        else (
          none)))
    else (
      none))
  else (
    ex0 x0 x1 x2 x3 x4 x5 x6 x7 x8 x9 x10)
def L_vec_each_0 (F : Nat) (ex0 : Int → Int → Int → Int → Bool → Bool → Int → Int → Int → Int → List VV → R) : Nat → Int → Int → Int → Int → Bool → Bool → Int → Int → Int → Int → List VV → R
  | 0, _, _, _, _, _, _, _, _, _, _, _ => none
  | n + 1, x0, x1, x2, x3, x4, x5, x6, x7, x8, x9, x10 => B_vec_each_0 F (L_vec_each_0 F ex0 n) ex0 x0 x1 x2 x3 x4 x5 x6 x7 x8 x9 x10
def W_vec_each (F : Nat) : List LW := [⟨0, T_vec_each_0, fun k q => L_vec_each_0 F (fun (z0 : Int) (z1 : Int) (z2 : Int) (z3 : Int) (z4 : Bool) (z5 : Bool) (z6 : Int) (z7 : Int) (z8 : Int) (z9 : Int) (z10 : List VV) => k (.exit 0) (fS T_vec_each_0_0 [.i z0, .i z1, .i z2, .i z3, .b z4, .b z5, .i z6, .i z7, .i z8, .i z9, .c z10])) F (atI (nth q 0)) (atI (nth q 1)) (atI (nth q 2)) (atI (nth q 3)) (atB (nth q 4)) (atB (nth q 5)) (atI (nth q 6)) (atI (nth q 7)) (atI (nth q 8)) (atI (nth q 9)) (atC (nth q 10))⟩]
def I_vec_each (F : Nat) : Nat → VS → (Exit → VS → R) → R := tabI c_vec_each (W_vec_each F)
def WJ_vec_each (F : Nat) : List LJ := []
def J_vec_each (F : Nat) : Nat → Nat → VS → (Exit → VS → R) → R := tabJ (WJ_vec_each F)
theorem lL_vec_each_0 (F : Nat) (k : Exit → VS → R) : ∀ (n : Nat) (x0 : Int) (x1 : Int) (x2 : Int) (x3 : Int) (x4 : Bool) (x5 : Bool) (x6 : Int) (x7 : Int) (x8 : Int) (x9 : Int) (x10 : List VV), iterC (codeL PP (S_vec_each F) c_vec_each (I_vec_each F) (J_vec_each F) (loopAt PP 90 0) 0) (headOf c_vec_each 0) k n (fS T_vec_each_0 [.i x0, .i x1, .i x2, .i x3, .b x4, .b x5, .i x6, .i x7, .i x8, .i x9, .c x10]) = L_vec_each_0 F (fun (z0 : Int) (z1 : Int) (z2 : Int) (z3 : Int) (z4 : Bool) (z5 : Bool) (z6 : Int) (z7 : Int) (z8 : Int) (z9 : Int) (z10 : List VV) => k (.exit 0) (fS T_vec_each_0_0 [.i z0, .i z1, .i z2, .i z3, .b z4, .b z5, .i z6, .i z7, .i z8, .i z9, .c z10])) n x0 x1 x2 x3 x4 x5 x6 x7 x8 x9 x10
  | 0, _, _, _, _, _, _, _, _, _, _, _ => rfl
  | n + 1, x0, x1, x2, x3, x4, x5, x6, x7, x8, x9, x10 => by
    have h0 : ∀ (ok_vec_Clamp_1 : Nat → Int → Int → Int → Int → Int → Bool) (o_vec_Clamp_1_0 : Nat → Int → Int → Int → Int → Int → Int) (o_vec_Clamp_1_1 : Nat → Int → Int → Int → Int → Int → Bool) (L_vec_each_0 : Nat → (Int → Int → Int → Int → Bool → Bool → Int → Int → Int → Int → List VV → R) → Nat → Int → Int → Int → Int → Bool → Bool → Int → Int → Int → Int → List VV → R), iterC (codeL PP (words [(91, spec ti_vec_Clamp_1 to_vec_Clamp_1 (fun q => (ok_vec_Clamp_1 F (atI (nth q 0)) (atI (nth q 1)) (atI (nth q 2)) (atI (nth q 3)) (atI (nth q 4)))) (fun q => [.i (o_vec_Clamp_1_0 F (atI (nth q 0)) (atI (nth q 1)) (atI (nth q 2)) (atI (nth q 3)) (atI (nth q 4))), .b (o_vec_Clamp_1_1 F (atI (nth q 0)) (atI (nth q 1)) (atI (nth q 2)) (atI (nth q 3)) (atI (nth q 4)))]))]) c_vec_each (tabI c_vec_each [⟨0, T_vec_each_0, fun k q => L_vec_each_0 F (fun (z0 : Int) (z1 : Int) (z2 : Int) (z3 : Int) (z4 : Bool) (z5 : Bool) (z6 : Int) (z7 : Int) (z8 : Int) (z9 : Int) (z10 : List VV) => k (.exit 0) (fS T_vec_each_0_0 [.i z0, .i z1, .i z2, .i z3, .b z4, .b z5, .i z6, .i z7, .i z8, .i z9, .c z10])) F (atI (nth q 0)) (atI (nth q 1)) (atI (nth q 2)) (atI (nth q 3)) (atB (nth q 4)) (atB (nth q 5)) (atI (nth q 6)) (atI (nth q 7)) (atI (nth q 8)) (atI (nth q 9)) (atC (nth q 10))⟩]) (tabJ []) (loopAt PP 90 0) 0) (headOf c_vec_each 0) k (n + 1) (fS T_vec_each_0 [.i x0, .i x1, .i x2, .i x3, .b x4, .b x5, .i x6, .i x7, .i x8, .i x9, .c x10]) = (fun (rc : Int → Int → Int → Int → Bool → Bool → Int → Int → Int → Int → List VV → R) (ex0 : Int → Int → Int → Int → Bool → Bool → Int → Int → Int → Int → List VV → R) (x0 : Int) (x1 : Int) (x2 : Int) (x3 : Int) (x4 : Bool) (x5 : Bool) (x6 : Int) (x7 : Int) (x8 : Int) (x9 : Int) (x10 : List VV) => (
  bif ((decide (x6 < 3))) then (
    bif (ok_vec_Clamp_1 F x6 x0 x1 x2 x3) then (
      let v1510 : Int := (o_vec_Clamp_1_0 F x6 x0 x1 x2 x3)
      bif x5 then (
        bif ((decide (0 ≤ x6)) && (decide (x6 < 3))) then (
          let v1512 : Nat := (0 + ((Int.toNat x6) * 1))
          bif (decide ((v1512 + 1) ≤ x10.length)) then (
            rc x0 x1 x2 x3 x4 true ((IntKind.wrap .i64 (x6 + 1))) x7 x8 x9 ((x10.take v1512 ++ [.v (.int .i64 v1510)] ++ x10.drop (v1512 + 1))))
          else (
            none))
        else (
          none))
      else (
        bif ((decide (0 ≤ x6)) && (decide (x6 < 3))) then (
          let v1515 : Nat := (0 + ((Int.toNat x6) * 1))
          bif (decide ((v1515 + 1) ≤ x10.length)) then (
            rc x0 x1 x2 x3 x4 ((o_vec_Clamp_1_1 F x6 x0 x1 x2 x3)) ((IntKind.wrap .i64 (x6 + 1))) x7 x8 x9 ((x10.take v1515 ++ [.v (.int .i64 v1510)] ++ x10.drop (v1515 + 1))))
          else (
            none))
        else (
          none)))
    else (
      none))
  else (
    ex0 x0 x1 x2 x3 x4 x5 x6 x7 x8 x9 x10) : R)) (fun (y0 : Int) (y1 : Int) (y2 : Int) (y3 : Int) (y4 : Bool) (y5 : Bool) (y6 : Int) (y7 : Int) (y8 : Int) (y9 : Int) (y10 : List VV) => iterC (codeL PP (words [(91, spec ti_vec_Clamp_1 to_vec_Clamp_1 (fun q => (ok_vec_Clamp_1 F (atI (nth q 0)) (atI (nth q 1)) (atI (nth q 2)) (atI (nth q 3)) (atI (nth q 4)))) (fun q => [.i (o_vec_Clamp_1_0 F (atI (nth q 0)) (atI (nth q 1)) (atI (nth q 2)) (atI (nth q 3)) (atI (nth q 4))), .b (o_vec_Clamp_1_1 F (atI (nth q 0)) (atI (nth q 1)) (atI (nth q 2)) (atI (nth q 3)) (atI (nth q 4)))]))]) c_vec_each (tabI c_vec_each [⟨0, T_vec_each_0, fun k q => L_vec_each_0 F (fun (z0 : Int) (z1 : Int) (z2 : Int) (z3 : Int) (z4 : Bool) (z5 : Bool) (z6 : Int) (z7 : Int) (z8 : Int) (z9 : Int) (z10 : List VV) => k (.exit 0) (fS T_vec_each_0_0 [.i z0, .i z1, .i z2, .i z3, .b z4, .b z5, .i z6, .i z7, .i z8, .i z9, .c z10])) F (atI (nth q 0)) (atI (nth q 1)) (atI (nth q 2)) (atI (nth q 3)) (atB (nth q 4)) (atB (nth q 5)) (atI (nth q 6)) (atI (nth q 7)) (atI (nth q 8)) (atI (nth q 9)) (atC (nth q 10))⟩]) (tabJ []) (loopAt PP 90 0) 0) (headOf c_vec_each 0) k n (fS T_vec_each_0 [.i y0, .i y1, .i y2, .i y3, .b y4, .b y5, .i y6, .i y7, .i y8, .i y9, .c y10])) (fun (z0 : Int) (z1 : Int) (z2 : Int) (z3 : Int) (z4 : Bool) (z5 : Bool) (z6 : Int) (z7 : Int) (z8 : Int) (z9 : Int) (z10 : List VV) => k (.exit 0) (fS T_vec_each_0_0 [.i z0, .i z1, .i z2, .i z3, .b z4, .b z5, .i z6, .i z7, .i z8, .i z9, .c z10])) x0 x1 x2 x3 x4 x5 x6 x7 x8 x9 x10 := by
      intros
      kernel_rfl
    have h : iterC (codeL PP (S_vec_each F) c_vec_each (I_vec_each F) (J_vec_each F) (loopAt PP 90 0) 0) (headOf c_vec_each 0) k (n + 1) (fS T_vec_each_0 [.i x0, .i x1, .i x2, .i x3, .b x4, .b x5, .i x6, .i x7, .i x8, .i x9, .c x10]) = B_vec_each_0 F (fun (y0 : Int) (y1 : Int) (y2 : Int) (y3 : Int) (y4 : Bool) (y5 : Bool) (y6 : Int) (y7 : Int) (y8 : Int) (y9 : Int) (y10 : List VV) => iterC (codeL PP (S_vec_each F) c_vec_each (I_vec_each F) (J_vec_each F) (loopAt PP 90 0) 0) (headOf c_vec_each 0) k n (fS T_vec_each_0 [.i y0, .i y1, .i y2, .i y3, .b y4, .b y5, .i y6, .i y7, .i y8, .i y9, .c y10])) (fun (z0 : Int) (z1 : Int) (z2 : Int) (z3 : Int) (z4 : Bool) (z5 : Bool) (z6 : Int) (z7 : Int) (z8 : Int) (z9 : Int) (z10 : List VV) => k (.exit 0) (fS T_vec_each_0_0 [.i z0, .i z1, .i z2, .i z3, .b z4, .b z5, .i z6, .i z7, .i z8, .i z9, .c z10])) x0 x1 x2 x3 x4 x5 x6 x7 x8 x9 x10 := (h0 ok_vec_Clamp_1 o_vec_Clamp_1_0 o_vec_Clamp_1_1 L_vec_each_0).trans (by kernel_rfl)
    rw [h]
    simp only [lL_vec_each_0 F k n]
    rfl
def f_vec_each (F : Nat) (a0 : Int) (a1 : Int) (a2 : Int) (a3 : Int) : R :=
  L_vec_each_0 F (fun (v1518 : Int) (v1519 : Int) (v1520 : Int) (v1521 : Int) (v1522 : Bool) (v1523 : Bool) (v1524 : Int) (v1525 : Int) (v1526 : Int) (v1527 : Int) (v1528 : List VV) =>
    bif ((isI .i64 v1528[0]?) && ((isI .i64 v1528[1]?) && ((isI .i64 v1528[2]?) && true))) then (
      some (.v (.tuple #[.agg #[.int .i64 ((iv v1528[0]?)), .int .i64 ((iv v1528[1]?)), .int .i64 ((iv v1528[2]?))], .bool v1523])))
    else (
      none)) F a0 a1 a2 a3 false false 0 0 0 0 ([.v (.int .i64 0), .v (.int .i64 0), .v (.int .i64 0)])
theorem e_vec_each (F : Nat) (a0 : Int) (a1 : Int) (a2 : Int) (a3 : Int) : funL PP (S_vec_each F) c_vec_each (I_vec_each F) (J_vec_each F) 90 (fTs ti_vec_each [.i a0, .i a1, .i a2, .i a3]).1 = f_vec_each F a0 a1 a2 a3 := by
  have h : ∀ (ok_vec_Clamp_1 : Nat → Int → Int → Int → Int → Int → Bool) (o_vec_Clamp_1_0 : Nat → Int → Int → Int → Int → Int → Int) (o_vec_Clamp_1_1 : Nat → Int → Int → Int → Int → Int → Bool) (L_vec_each_0 : Nat → (Int → Int → Int → Int → Bool → Bool → Int → Int → Int → Int → List VV → R) → Nat → Int → Int → Int → Int → Bool → Bool → Int → Int → Int → Int → List VV → R), funL PP (words [(91, spec ti_vec_Clamp_1 to_vec_Clamp_1 (fun q => (ok_vec_Clamp_1 F (atI (nth q 0)) (atI (nth q 1)) (atI (nth q 2)) (atI (nth q 3)) (atI (nth q 4)))) (fun q => [.i (o_vec_Clamp_1_0 F (atI (nth q 0)) (atI (nth q 1)) (atI (nth q 2)) (atI (nth q 3)) (atI (nth q 4))), .b (o_vec_Clamp_1_1 F (atI (nth q 0)) (atI (nth q 1)) (atI (nth q 2)) (atI (nth q 3)) (atI (nth q 4)))]))]) c_vec_each (tabI c_vec_each [⟨0, T_vec_each_0, fun k q => L_vec_each_0 F (fun (z0 : Int) (z1 : Int) (z2 : Int) (z3 : Int) (z4 : Bool) (z5 : Bool) (z6 : Int) (z7 : Int) (z8 : Int) (z9 : Int) (z10 : List VV) => k (.exit 0) (fS T_vec_each_0_0 [.i z0, .i z1, .i z2, .i z3, .b z4, .b z5, .i z6, .i z7, .i z8, .i z9, .c z10])) F (atI (nth q 0)) (atI (nth q 1)) (atI (nth q 2)) (atI (nth q 3)) (atB (nth q 4)) (atB (nth q 5)) (atI (nth q 6)) (atI (nth q 7)) (atI (nth q 8)) (atI (nth q 9)) (atC (nth q 10))⟩]) (tabJ []) 90 (fTs ti_vec_each [.i a0, .i a1, .i a2, .i a3]).1 = (
  L_vec_each_0 F (fun (v1518 : Int) (v1519 : Int) (v1520 : Int) (v1521 : Int) (v1522 : Bool) (v1523 : Bool) (v1524 : Int) (v1525 : Int) (v1526 : Int) (v1527 : Int) (v1528 : List VV) =>
    bif ((isI .i64 v1528[0]?) && ((isI .i64 v1528[1]?) && ((isI .i64 v1528[2]?) && true))) then (
      some (.v (.tuple #[.agg #[.int .i64 ((iv v1528[0]?)), .int .i64 ((iv v1528[1]?)), .int .i64 ((iv v1528[2]?))], .bool v1523])))
    else (
      none)) F a0 a1 a2 a3 false false 0 0 0 0 ([.v (.int .i64 0), .v (.int .i64 0), .v (.int .i64 0)]) : R) := by
    intros
    kernel_rfl
  exact (h ok_vec_Clamp_1 o_vec_Clamp_1_0 o_vec_Clamp_1_1 L_vec_each_0).trans (by kernel_rfl)
def ok_vec_each (F : Nat) (a0 : Int) (a1 : Int) (a2 : Int) (a3 : Int) : Bool := okT to_vec_each (f_vec_each F a0 a1 a2 a3)
def o_vec_each_0 (F : Nat) (a0 : Int) (a1 : Int) (a2 : Int) (a3 : Int) : Int := atI (nth (outT to_vec_each (f_vec_each F a0 a1 a2 a3)) 0)
def o_vec_each_1 (F : Nat) (a0 : Int) (a1 : Int) (a2 : Int) (a3 : Int) : Int := atI (nth (outT to_vec_each (f_vec_each F a0 a1 a2 a3)) 1)
def o_vec_each_2 (F : Nat) (a0 : Int) (a1 : Int) (a2 : Int) (a3 : Int) : Int := atI (nth (outT to_vec_each (f_vec_each F a0 a1 a2 a3)) 2)
def o_vec_each_3 (F : Nat) (a0 : Int) (a1 : Int) (a2 : Int) (a3 : Int) : Bool := atB (nth (outT to_vec_each (f_vec_each F a0 a1 a2 a3)) 3)
theorem k_vec_each (F : Nat) (a0 : Int) (a1 : Int) (a2 : Int) (a3 : Int) {z0 : Int} {z1 : Int} {z2 : Int} {z3 : Bool} (h : f_vec_each F a0 a1 a2 a3 = some (.v (.tuple #[.agg #[.int .i64 z0, .int .i64 z1, .int .i64 z2], .bool z3]))) : ok_vec_each F a0 a1 a2 a3 = true ∧ o_vec_each_0 F a0 a1 a2 a3 = z0 ∧ o_vec_each_1 F a0 a1 a2 a3 = z1 ∧ o_vec_each_2 F a0 a1 a2 a3 = z2 ∧ o_vec_each_3 F a0 a1 a2 a3 = z3 := by
  refine ⟨?_, ?_, ?_, ?_, ?_⟩
  · unfold ok_vec_each; rw [h]; kernel_rfl
  · unfold o_vec_each_0; rw [h]; kernel_rfl
  · unfold o_vec_each_1; rw [h]; kernel_rfl
  · unfold o_vec_each_2; rw [h]; kernel_rfl
  · unfold o_vec_each_3; rw [h]; kernel_rfl
def s_vec_each (F : Nat) : List VV → Option (Bool × VV) := spec ti_vec_each to_vec_each (fun q => (ok_vec_each F (atI (nth q 0)) (atI (nth q 1)) (atI (nth q 2)) (atI (nth q 3)))) (fun q => [.i (o_vec_each_0 F (atI (nth q 0)) (atI (nth q 1)) (atI (nth q 2)) (atI (nth q 3))), .i (o_vec_each_1 F (atI (nth q 0)) (atI (nth q 1)) (atI (nth q 2)) (atI (nth q 3))), .i (o_vec_each_2 F (atI (nth q 0)) (atI (nth q 1)) (atI (nth q 2)) (atI (nth q 3))), .b (o_vec_each_3 F (atI (nth q 0)) (atI (nth q 1)) (atI (nth q 2)) (atI (nth q 3)))])
theorem hS_vec_each (F : Nat) : ∀ f, Good PP f (unS (S_vec_each F f)) := words_good fun p hp => by
  simp only [List.mem_cons, List.not_mem_nil, or_false] at hp
  rcases hp with rfl
  · exact g_vec_Clamp_1 F
theorem hl_vec_each (F : Nat) : ∀ p ∈ loopsIn PP 90, LoopOK PP (S_vec_each F) c_vec_each F (I_vec_each F) (J_vec_each F) p :=
  loops_of [(0, loopAt PP 90 0)] (by kernel_rfl) (all_cons
    (loop_ok (W_vec_each F) rfl (tab_cons (fun _ k q => Le.ofEq ((lL_vec_each_0 F k F (atI (nth q 0)) (atI (nth q 1)) (atI (nth q 2)) (atI (nth q 3)) (atB (nth q 4)) (atB (nth q 5)) (atI (nth q 6)) (atI (nth q 7)) (atI (nth q 8)) (atI (nth q 9)) (atC (nth q 10))).symm.trans (congrArg (iterC (codeL PP (S_vec_each F) c_vec_each (I_vec_each F) (J_vec_each F) (loopAt PP 90 0) 0) (headOf c_vec_each 0) k F) (show fS T_vec_each_0 [.i (atI (nth q 0)), .i (atI (nth q 1)), .i (atI (nth q 2)), .i (atI (nth q 3)), .b (atB (nth q 4)), .b (atB (nth q 5)), .i (atI (nth q 6)), .i (atI (nth q 7)), .i (atI (nth q 8)), .i (atI (nth q 9)), .c (atC (nth q 10))] = fS T_vec_each_0 q by kernel_rfl)))) tab_nil)) all_nil)
theorem hj_vec_each (F : Nat) : ∀ p ∈ joinsIn PP c_vec_each 90, JoinOK PP (S_vec_each F) c_vec_each (I_vec_each F) (J_vec_each F) p :=
  joins_of [] (by kernel_rfl) all_nil
theorem g_vec_each (F : Nat) : Good PP 90 (unS (s_vec_each F)) :=
  fun_spec (hS_vec_each F) (by kernel_rfl) (by kernel_rfl) (C := c_vec_each) (F := fun q => (f_vec_each F (atI (nth q 0)) (atI (nth q 1)) (atI (nth q 2)) (atI (nth q 3)))) (fun _ => F) (fun _ => I_vec_each F) (fun _ => J_vec_each F) (fun _ => hl_vec_each F) (fun _ => hj_vec_each F)
    (fun q => (congrArg (funL PP (S_vec_each F) c_vec_each (I_vec_each F) (J_vec_each F) 90) (show (fTs ti_vec_each q).1 = (fTs ti_vec_each [.i (atI (nth q 0)), .i (atI (nth q 1)), .i (atI (nth q 2)), .i (atI (nth q 3))]).1 by kernel_rfl)).trans (e_vec_each F (atI (nth q 0)) (atI (nth q 1)) (atI (nth q 2)) (atI (nth q 3))))
    (fun _ h => (okT_fill h).trans (congrArg some (by kernel_rfl)))

end Go.Xv
set_option linter.unusedVariables false
namespace Go.Xv
/- 37 _vec_Clamp -/
def c_vec_Clamp : Cfg := ⟨[0, 1, 2, 4, 5, 6], [], [], []⟩
def ti_vec_Clamp : List TV := [.v (.agg [.int .i64, .int .i64, .int .i64]), .v (.int .i64)]
def to_vec_Clamp : TV := .v (.tup [.agg [.int .i64, .int .i64, .int .i64], .bool])
def S_vec_Clamp (F : Nat) : FuncId → List VV → Option (Bool × VV) := words [(90, s_vec_each F)]
def W_vec_Clamp (F : Nat) : List LW := []
def I_vec_Clamp (F : Nat) : Nat → VS → (Exit → VS → R) → R := tabI c_vec_Clamp (W_vec_Clamp F)
def WJ_vec_Clamp (F : Nat) : List LJ := []
def J_vec_Clamp (F : Nat) : Nat → Nat → VS → (Exit → VS → R) → R := tabJ (WJ_vec_Clamp F)
def f_vec_Clamp (F : Nat) (a0 : Int) (a1 : Int) (a2 : Int) (a3 : Int) : R :=
  let v1492 : Int := (if 0 > a3 then 0 else a3)
  bif (ok_vec_each F a0 a1 a2 v1492) then (
    some (.v (.tuple #[.agg #[.int .i64 ((o_vec_each_0 F a0 a1 a2 v1492)), .int .i64 ((o_vec_each_1 F a0 a1 a2 v1492)), .int .i64 ((o_vec_each_2 F a0 a1 a2 v1492))], .bool ((o_vec_each_3 F a0 a1 a2 v1492))])))
  else (
    none)
theorem e_vec_Clamp (F : Nat) (a0 : Int) (a1 : Int) (a2 : Int) (a3 : Int) : funL PP (S_vec_Clamp F) c_vec_Clamp (I_vec_Clamp F) (J_vec_Clamp F) 37 (fTs ti_vec_Clamp [.i a0, .i a1, .i a2, .i a3]).1 = f_vec_Clamp F a0 a1 a2 a3 := by
  have h : ∀ (ok_vec_each : Nat → Int → Int → Int → Int → Bool) (o_vec_each_0 : Nat → Int → Int → Int → Int → Int) (o_vec_each_1 : Nat → Int → Int → Int → Int → Int) (o_vec_each_2 : Nat → Int → Int → Int → Int → Int) (o_vec_each_3 : Nat → Int → Int → Int → Int → Bool), funL PP (words [(90, spec ti_vec_each to_vec_each (fun q => (ok_vec_each F (atI (nth q 0)) (atI (nth q 1)) (atI (nth q 2)) (atI (nth q 3)))) (fun q => [.i (o_vec_each_0 F (atI (nth q 0)) (atI (nth q 1)) (atI (nth q 2)) (atI (nth q 3))), .i (o_vec_each_1 F (atI (nth q 0)) (atI (nth q 1)) (atI (nth q 2)) (atI (nth q 3))), .i (o_vec_each_2 F (atI (nth q 0)) (atI (nth q 1)) (atI (nth q 2)) (atI (nth q 3))), .b (o_vec_each_3 F (atI (nth q 0)) (atI (nth q 1)) (atI (nth q 2)) (atI (nth q 3)))]))]) c_vec_Clamp (tabI c_vec_Clamp []) (tabJ []) 37 (fTs ti_vec_Clamp [.i a0, .i a1, .i a2, .i a3]).1 = (
  let v1492 : Int := (if 0 > a3 then 0 else a3)
  bif (ok_vec_each F a0 a1 a2 v1492) then (
    some (.v (.tuple #[.agg #[.int .i64 ((o_vec_each_0 F a0 a1 a2 v1492)), .int .i64 ((o_vec_each_1 F a0 a1 a2 v1492)), .int .i64 ((o_vec_each_2 F a0 a1 a2 v1492))], .bool ((o_vec_each_3 F a0 a1 a2 v1492))])))
  else (
    none) : R) := by
    intros
    kernel_rfl
  exact (h ok_vec_each o_vec_each_0 o_vec_each_1 o_vec_each_2 o_vec_each_3).trans (by kernel_rfl)
def ok_vec_Clamp (F : Nat) (a0 : Int) (a1 : Int) (a2 : Int) (a3 : Int) : Bool := okT to_vec_Clamp (f_vec_Clamp F a0 a1 a2 a3)
def o_vec_Clamp_0 (F : Nat) (a0 : Int) (a1 : Int) (a2 : Int) (a3 : Int) : Int := atI (nth (outT to_vec_Clamp (f_vec_Clamp F a0 a1 a2 a3)) 0)
def o_vec_Clamp_1 (F : Nat) (a0 : Int) (a1 : Int) (a2 : Int) (a3 : Int) : Int := atI (nth (outT to_vec_Clamp (f_vec_Clamp F a0 a1 a2 a3)) 1)
def o_vec_Clamp_2 (F : Nat) (a0 : Int) (a1 : Int) (a2 : Int) (a3 : Int) : Int := atI (nth (outT to_vec_Clamp (f_vec_Clamp F a0 a1 a2 a3)) 2)
def o_vec_Clamp_3 (F : Nat) (a0 : Int) (a1 : Int) (a2 : Int) (a3 : Int) : Bool := atB (nth (outT to_vec_Clamp (f_vec_Clamp F a0 a1 a2 a3)) 3)
theorem k_vec_Clamp (F : Nat) (a0 : Int) (a1 : Int) (a2 : Int) (a3 : Int) {z0 : Int} {z1 : Int} {z2 : Int} {z3 : Bool} (h : f_vec_Clamp F a0 a1 a2 a3 = some (.v (.tuple #[.agg #[.int .i64 z0, .int .i64 z1, .int .i64 z2], .bool z3]))) : ok_vec_Clamp F a0 a1 a2 a3 = true ∧ o_vec_Clamp_0 F a0 a1 a2 a3 = z0 ∧ o_vec_Clamp_1 F a0 a1 a2 a3 = z1 ∧ o_vec_Clamp_2 F a0 a1 a2 a3 = z2 ∧ o_vec_Clamp_3 F a0 a1 a2 a3 = z3 := by
  refine ⟨?_, ?_, ?_, ?_, ?_⟩
  · unfold ok_vec_Clamp; rw [h]; kernel_rfl
  · unfold o_vec_Clamp_0; rw [h]; kernel_rfl
  · unfold o_vec_Clamp_1; rw [h]; kernel_rfl
  · unfold o_vec_Clamp_2; rw [h]; kernel_rfl
  · unfold o_vec_Clamp_3; rw [h]; kernel_rfl
def s_vec_Clamp (F : Nat) : List VV → Option (Bool × VV) := spec ti_vec_Clamp to_vec_Clamp (fun q => (ok_vec_Clamp F (atI (nth q 0)) (atI (nth q 1)) (atI (nth q 2)) (atI (nth q 3)))) (fun q => [.i (o_vec_Clamp_0 F (atI (nth q 0)) (atI (nth q 1)) (atI (nth q 2)) (atI (nth q 3))), .i (o_vec_Clamp_1 F (atI (nth q 0)) (atI (nth q 1)) (atI (nth q 2)) (atI (nth q 3))), .i (o_vec_Clamp_2 F (atI (nth q 0)) (atI (nth q 1)) (atI (nth q 2)) (atI (nth q 3))), .b (o_vec_Clamp_3 F (atI (nth q 0)) (atI (nth q 1)) (atI (nth q 2)) (atI (nth q 3)))])
theorem hS_vec_Clamp (F : Nat) : ∀ f, Good PP f (unS (S_vec_Clamp F f)) := words_good fun p hp => by
  simp only [List.mem_cons, List.not_mem_nil, or_false] at hp
  rcases hp with rfl
  · exact g_vec_each F
theorem hl_vec_Clamp (F : Nat) : ∀ p ∈ loopsIn PP 37, LoopOK PP (S_vec_Clamp F) c_vec_Clamp F (I_vec_Clamp F) (J_vec_Clamp F) p :=
  loops_of [] (by kernel_rfl) all_nil
theorem hj_vec_Clamp (F : Nat) : ∀ p ∈ joinsIn PP c_vec_Clamp 37, JoinOK PP (S_vec_Clamp F) c_vec_Clamp (I_vec_Clamp F) (J_vec_Clamp F) p :=
  joins_of [] (by kernel_rfl) all_nil
theorem g_vec_Clamp (F : Nat) : Good PP 37 (unS (s_vec_Clamp F)) :=
  fun_spec (hS_vec_Clamp F) (by kernel_rfl) (by kernel_rfl) (C := c_vec_Clamp) (F := fun q => (f_vec_Clamp F (atI (nth q 0)) (atI (nth q 1)) (atI (nth q 2)) (atI (nth q 3)))) (fun _ => F) (fun _ => I_vec_Clamp F) (fun _ => J_vec_Clamp F) (fun _ => hl_vec_Clamp F) (fun _ => hj_vec_Clamp F)
    (fun q => (congrArg (funL PP (S_vec_Clamp F) c_vec_Clamp (I_vec_Clamp F) (J_vec_Clamp F) 37) (show (fTs ti_vec_Clamp q).1 = (fTs ti_vec_Clamp [.i (atI (nth q 0)), .i (atI (nth q 1)), .i (atI (nth q 2)), .i (atI (nth q 3))]).1 by kernel_rfl)).trans (e_vec_Clamp F (atI (nth q 0)) (atI (nth q 1)) (atI (nth q 2)) (atI (nth q 3))))
    (fun _ h => (okT_fill h).trans (congrArg some (by kernel_rfl)))

end Go.Xv
set_option linter.unusedVariables false
namespace Go.Xv
/- 10 _law06_VecWithin -/
def c_law06_VecWithin : Cfg := ⟨[0, 1, 2, 4, 5, 6, 7, 8, 9, 11, 21, 36], [(0, [0, 1, 2, 4, 5, 6, 7, 8, 9, 10, 11, 12, 13, 14, 15, 16, 17, 18, 19, 53, 54, 55, 56, 57, 58, 59, 60, 61, 62, 63, 64, 65])], [], []⟩
def ti_law06_VecWithin : List TV := [.v (.agg [.int .i64, .int .i64, .int .i64]), .v (.int .i64)]
def to_law06_VecWithin : TV := .v (.bool)
def S_law06_VecWithin (F : Nat) : FuncId → List VV → Option (Bool × VV) := words [(22, s_law06_works F), (37, s_vec_Clamp F)]
def T_law06_VecWithin_0 : TS := ⟨[(0, .v (.agg [.int .i64, .int .i64, .int .i64])), (1, .v (.int .i64)), (2, .lp 0 (.lit 0)), (4, .v (.bool)), (5, .v (.int .i64)), (6, .lp 1 (.lit 0)), (7, .v (.bool)), (8, .v (.bool)), (9, .v (.int .i64))], [(0, ⟨(.ex [.v (.int .i64), .v (.int .i64), .v (.int .i64)]), true⟩), (1, ⟨(.ex [.v (.int .i64), .v (.int .i64), .v (.int .i64)]), true⟩)], 2⟩
def T_law06_VecWithin_0_0 : TS := ⟨[(0, .v (.agg [.int .i64, .int .i64, .int .i64])), (1, .v (.int .i64)), (2, .lp 0 (.lit 0)), (4, .v (.bool)), (5, .v (.int .i64)), (6, .lp 1 (.lit 0)), (7, .v (.bool)), (8, .v (.bool)), (9, .v (.int .i64))], [(0, ⟨(.ex [.v (.int .i64), .v (.int .i64), .v (.int .i64)]), true⟩), (1, ⟨(.ex [.v (.int .i64), .v (.int .i64), .v (.int .i64)]), true⟩)], 2⟩
def T_law06_VecWithin_0_1 : TS := ⟨[(0, .v (.agg [.int .i64, .int .i64, .int .i64])), (1, .v (.int .i64)), (2, .lp 0 (.lit 0)), (4, .v (.bool)), (5, .v (.int .i64)), (6, .lp 1 (.lit 0)), (7, .v (.bool)), (8, .v (.bool)), (9, .v (.int .i64))], [(0, ⟨(.ex [.v (.int .i64), .v (.int .i64), .v (.int .i64)]), true⟩), (1, ⟨(.ex [.v (.int .i64), .v (.int .i64), .v (.int .i64)]), true⟩)], 2⟩
def B_law06_VecWithin_0 (F : Nat) (rc : Int → Int → Int → Int → Bool → Int → Bool → Bool → Int → Int → Int → Int → Int → Int → Int → R) (ex0 : Int → Int → Int → Int → Bool → Int → Bool → Bool → Int → Int → Int → Int → Int → Int → Int → R) (ex1 : Int → Int → Int → Int → Bool → Int → Bool → Bool → Int → Int → Int → Int → Int → Int → Int → R) (x0 : Int) (x1 : Int) (x2 : Int) (x3 : Int) (x4 : Bool) (x5 : Int) (x6 : Bool) (x7 : Bool) (x8 : Int) (x9 : Int) (x10 : Int) (x11 : Int) (x12 : Int) (x13 : Int) (x14 : Int) : R :=
  bif ((decide (x8 < 3))) then (
    bif ((decide (0 ≤ x8)) && (decide (x8 < 3))) then (
      let v1556 : Nat := (0 + ((Int.toNat x8) * 1))
      bif ((isI .i64 [.v (.int .i64 x12), .v (.int .i64 x13), .v (.int .i64 x14)][v1556]?) && true) then (
        bif ((decide (((iv [.v (.int .i64 x12), .v (.int .i64 x13), .v (.int .i64 x14)][v1556]?)) > x5))) then (
          ex0 x0 x1 x2 x3 false x5 x6 x7 x8 x9 x10 x11 x12 x13 x14)
        else (
          bif ((decide (0 ≤ x8)) && (decide (x8 < 3))) then (
            let v1559 : Nat := (0 + ((Int.toNat x8) * 1))
            bif ((isI .i64 [.v (.int .i64 x12), .v (.int .i64 x13), .v (.int .i64 x14)][v1559]?) && true) then (
              bif ((decide (((iv [.v (.int .i64 x12), .v (.int .i64 x13), .v (.int .i64 x14)][v1559]?)) < ((IntKind.wrap .i64 (0 - x5)))))) then (
                ex0 x0 x1 x2 x3 false x5 x6 x7 x8 x9 x10 x11 x12 x13 x14)
              else (
                bif x7 then (
                  bif ((decide (0 ≤ x8)) && (decide (x8 < 3))) then (
                    let v1563 : Nat := (0 + ((Int.toNat x8) * 1))
                    bif ((isI .i64 [.v (.int .i64 x9), .v (.int .i64 x10), .v (.int .i64 x11)][v1563]?) && true) then (
                      bif ((decide (((iv [.v (.int .i64 x9), .v (.int .i64 x10), .v (.int .i64 x11)][v1563]?)) ≤ x5))) then (
                        bif ((decide (0 ≤ x8)) && (decide (x8 < 3))) then (
                          let v1566 : Nat := (0 + ((Int.toNat x8) * 1))
                          bif ((isI .i64 [.v (.int .i64 x9), .v (.int .i64 x10), .v (.int .i64 x11)][v1566]?) && true) then (
                            rc x0 x1 x2 x3 x4 x5 x6 ((decide (((iv [.v (.int .i64 x9), .v (.int .i64 x10), .v (.int .i64 x11)][v1566]?)) ≥ ((IntKind.wrap .i64 (0 - x5)))))) ((IntKind.wrap .i64 (x8 + 1))) x9 x10 x11 x12 x13 x14)
                          else (
                            none))
                        else (
                          none))
                      else (
                        rc x0 x1 x2 x3 x4 x5 x6 false ((IntKind.wrap .i64 (x8 + 1))) x9 x10 x11 x12 x13 x14))
                    else (
                      none))
                  else (
                    none))
                else (
                  rc x0 x1 x2 x3 x4 x5 x6 false ((IntKind.wrap .i64 (x8 + 1))) x9 x10 x11 x12 x13 x14)))
            else (
              none))
          else (
            none)))
      else (
        none))
    else (
      none))
  else (
    ex1 x0 x1 x2 x3 x4 x5 x6 x7 x8 x9 x10 x11 x12 x13 x14)
def L_law06_VecWithin_0 (F : Nat) (ex0 : Int → Int → Int → Int → Bool → Int → Bool → Bool → Int → Int → Int → Int → Int → Int → Int → R) (ex1 : Int → Int → Int → Int → Bool → Int → Bool → Bool → Int → Int → Int → Int → Int → Int → Int → R) : Nat → Int → Int → Int → Int → Bool → Int → Bool → Bool → Int → Int → Int → Int → Int → Int → Int → R
  | 0, _, _, _, _, _, _, _, _, _, _, _, _, _, _, _ => none
  | n + 1, x0, x1, x2, x3, x4, x5, x6, x7, x8, x9, x10, x11, x12, x13, x14 => B_law06_VecWithin_0 F (L_law06_VecWithin_0 F ex0 ex1 n) ex0 ex1 x0 x1 x2 x3 x4 x5 x6 x7 x8 x9 x10 x11 x12 x13 x14
def W_law06_VecWithin (F : Nat) : List LW := [⟨0, T_law06_VecWithin_0, fun k q => L_law06_VecWithin_0 F (fun (z0 : Int) (z1 : Int) (z2 : Int) (z3 : Int) (z4 : Bool) (z5 : Int) (z6 : Bool) (z7 : Bool) (z8 : Int) (z9 : Int) (z10 : Int) (z11 : Int) (z12 : Int) (z13 : Int) (z14 : Int) => k .ret (fS T_law06_VecWithin_0_0 [.i z0, .i z1, .i z2, .i z3, .b z4, .i z5, .b z6, .b z7, .i z8, .i z9, .i z10, .i z11, .i z12, .i z13, .i z14])) (fun (z0 : Int) (z1 : Int) (z2 : Int) (z3 : Int) (z4 : Bool) (z5 : Int) (z6 : Bool) (z7 : Bool) (z8 : Int) (z9 : Int) (z10 : Int) (z11 : Int) (z12 : Int) (z13 : Int) (z14 : Int) => k (.exit 0) (fS T_law06_VecWithin_0_1 [.i z0, .i z1, .i z2, .i z3, .b z4, .i z5, .b z6, .b z7, .i z8, .i z9, .i z10, .i z11, .i z12, .i z13, .i z14])) F (atI (nth q 0)) (atI (nth q 1)) (atI (nth q 2)) (atI (nth q 3)) (atB (nth q 4)) (atI (nth q 5)) (atB (nth q 6)) (atB (nth q 7)) (atI (nth q 8)) (atI (nth q 9)) (atI (nth q 10)) (atI (nth q 11)) (atI (nth q 12)) (atI (nth q 13)) (atI (nth q 14))⟩]
def I_law06_VecWithin (F : Nat) : Nat → VS → (Exit → VS → R) → R := tabI c_law06_VecWithin (W_law06_VecWithin F)
def WJ_law06_VecWithin (F : Nat) : List LJ := []
def J_law06_VecWithin (F : Nat) : Nat → Nat → VS → (Exit → VS → R) → R := tabJ (WJ_law06_VecWithin F)
theorem lL_law06_VecWithin_0 (F : Nat) (k : Exit → VS → R) : ∀ (n : Nat) (x0 : Int) (x1 : Int) (x2 : Int) (x3 : Int) (x4 : Bool) (x5 : Int) (x6 : Bool) (x7 : Bool) (x8 : Int) (x9 : Int) (x10 : Int) (x11 : Int) (x12 : Int) (x13 : Int) (x14 : Int), iterC (codeL PP (S_law06_VecWithin F) c_law06_VecWithin (I_law06_VecWithin F) (J_law06_VecWithin F) (loopAt PP 10 0) 0) (headOf c_law06_VecWithin 0) k n (fS T_law06_VecWithin_0 [.i x0, .i x1, .i x2, .i x3, .b x4, .i x5, .b x6, .b x7, .i x8, .i x9, .i x10, .i x11, .i x12, .i x13, .i x14]) = L_law06_VecWithin_0 F (fun (z0 : Int) (z1 : Int) (z2 : Int) (z3 : Int) (z4 : Bool) (z5 : Int) (z6 : Bool) (z7 : Bool) (z8 : Int) (z9 : Int) (z10 : Int) (z11 : Int) (z12 : Int) (z13 : Int) (z14 : Int) => k .ret (fS T_law06_VecWithin_0_0 [.i z0, .i z1, .i z2, .i z3, .b z4, .i z5, .b z6, .b z7, .i z8, .i z9, .i z10, .i z11, .i z12, .i z13, .i z14])) (fun (z0 : Int) (z1 : Int) (z2 : Int) (z3 : Int) (z4 : Bool) (z5 : Int) (z6 : Bool) (z7 : Bool) (z8 : Int) (z9 : Int) (z10 : Int) (z11 : Int) (z12 : Int) (z13 : Int) (z14 : Int) => k (.exit 0) (fS T_law06_VecWithin_0_1 [.i z0, .i z1, .i z2, .i z3, .b z4, .i z5, .b z6, .b z7, .i z8, .i z9, .i z10, .i z11, .i z12, .i z13, .i z14])) n x0 x1 x2 x3 x4 x5 x6 x7 x8 x9 x10 x11 x12 x13 x14
  | 0, _, _, _, _, _, _, _, _, _, _, _, _, _, _, _ => rfl
  | n + 1, x0, x1, x2, x3, x4, x5, x6, x7, x8, x9, x10, x11, x12, x13, x14 => by
    have h0 : ∀ (ok_law06_works : Nat → Bool) (o_law06_works_0 : Nat → Bool) (ok_vec_Clamp : Nat → Int → Int → Int → Int → Bool) (o_vec_Clamp_0 : Nat → Int → Int → Int → Int → Int) (o_vec_Clamp_1 : Nat → Int → Int → Int → Int → Int) (o_vec_Clamp_2 : Nat → Int → Int → Int → Int → Int) (o_vec_Clamp_3 : Nat → Int → Int → Int → Int → Bool) (L_law06_VecWithin_0 : Nat → (Int → Int → Int → Int → Bool → Int → Bool → Bool → Int → Int → Int → Int → Int → Int → Int → R) → (Int → Int → Int → Int → Bool → Int → Bool → Bool → Int → Int → Int → Int → Int → Int → Int → R) → Nat → Int → Int → Int → Int → Bool → Int → Bool → Bool → Int → Int → Int → Int → Int → Int → Int → R), iterC (codeL PP (words [(22, spec ti_law06_works to_law06_works (fun q => (ok_law06_works F )) (fun q => [.b (o_law06_works_0 F )])), (37, spec ti_vec_Clamp to_vec_Clamp (fun q => (ok_vec_Clamp F (atI (nth q 0)) (atI (nth q 1)) (atI (nth q 2)) (atI (nth q 3)))) (fun q => [.i (o_vec_Clamp_0 F (atI (nth q 0)) (atI (nth q 1)) (atI (nth q 2)) (atI (nth q 3))), .i (o_vec_Clamp_1 F (atI (nth q 0)) (atI (nth q 1)) (atI (nth q 2)) (atI (nth q 3))), .i (o_vec_Clamp_2 F (atI (nth q 0)) (atI (nth q 1)) (atI (nth q 2)) (atI (nth q 3))), .b (o_vec_Clamp_3 F (atI (nth q 0)) (atI (nth q 1)) (atI (nth q 2)) (atI (nth q 3)))]))]) c_law06_VecWithin (tabI c_law06_VecWithin [⟨0, T_law06_VecWithin_0, fun k q => L_law06_VecWithin_0 F (fun (z0 : Int) (z1 : Int) (z2 : Int) (z3 : Int) (z4 : Bool) (z5 : Int) (z6 : Bool) (z7 : Bool) (z8 : Int) (z9 : Int) (z10 : Int) (z11 : Int) (z12 : Int) (z13 : Int) (z14 : Int) => k .ret (fS T_law06_VecWithin_0_0 [.i z0, .i z1, .i z2, .i z3, .b z4, .i z5, .b z6, .b z7, .i z8, .i z9, .i z10, .i z11, .i z12, .i z13, .i z14])) (fun (z0 : Int) (z1 : Int) (z2 : Int) (z3 : Int) (z4 : Bool) (z5 : Int) (z6 : Bool) (z7 : Bool) (z8 : Int) (z9 : Int) (z10 : Int) (z11 : Int) (z12 : Int) (z13 : Int) (z14 : Int) => k (.exit 0) (fS T_law06_VecWithin_0_1 [.i z0, .i z1, .i z2, .i z3, .b z4, .i z5, .b z6, .b z7, .i z8, .i z9, .i z10, .i z11, .i z12, .i z13, .i z14])) F (atI (nth q 0)) (atI (nth q 1)) (atI (nth q 2)) (atI (nth q 3)) (atB (nth q 4)) (atI (nth q 5)) (atB (nth q 6)) (atB (nth q 7)) (atI (nth q 8)) (atI (nth q 9)) (atI (nth q 10)) (atI (nth q 11)) (atI (nth q 12)) (atI (nth q 13)) (atI (nth q 14))⟩]) (tabJ []) (loopAt PP 10 0) 0) (headOf c_law06_VecWithin 0) k (n + 1) (fS T_law06_VecWithin_0 [.i x0, .i x1, .i x2, .i x3, .b x4, .i x5, .b x6, .b x7, .i x8, .i x9, .i x10, .i x11, .i x12, .i x13, .i x14]) = (fun (rc : Int → Int → Int → Int → Bool → Int → Bool → Bool → Int → Int → Int → Int → Int → Int → Int → R) (ex0 : Int → Int → Int → Int → Bool → Int → Bool → Bool → Int → Int → Int → Int → Int → Int → Int → R) (ex1 : Int → Int → Int → Int → Bool → Int → Bool → Bool → Int → Int → Int → Int → Int → Int → Int → R) (x0 : Int) (x1 : Int) (x2 : Int) (x3 : Int) (x4 : Bool) (x5 : Int) (x6 : Bool) (x7 : Bool) (x8 : Int) (x9 : Int) (x10 : Int) (x11 : Int) (x12 : Int) (x13 : Int) (x14 : Int) => (
  bif ((decide (x8 < 3))) then (
    bif ((decide (0 ≤ x8)) && (decide (x8 < 3))) then (
      let v1556 : Nat := (0 + ((Int.toNat x8) * 1))
      bif ((isI .i64 [.v (.int .i64 x12), .v (.int .i64 x13), .v (.int .i64 x14)][v1556]?) && true) then (
        bif ((decide (((iv [.v (.int .i64 x12), .v (.int .i64 x13), .v (.int .i64 x14)][v1556]?)) > x5))) then (
          ex0 x0 x1 x2 x3 false x5 x6 x7 x8 x9 x10 x11 x12 x13 x14)
        else (
          bif ((decide (0 ≤ x8)) && (decide (x8 < 3))) then (
            let v1559 : Nat := (0 + ((Int.toNat x8) * 1))
            bif ((isI .i64 [.v (.int .i64 x12), .v (.int .i64 x13), .v (.int .i64 x14)][v1559]?) && true) then (
              bif ((decide (((iv [.v (.int .i64 x12), .v (.int .i64 x13), .v (.int .i64 x14)][v1559]?)) < ((IntKind.wrap .i64 (0 - x5)))))) then (
                ex0 x0 x1 x2 x3 false x5 x6 x7 x8 x9 x10 x11 x12 x13 x14)
              else (
                bif x7 then (
                  bif ((decide (0 ≤ x8)) && (decide (x8 < 3))) then (
                    let v1563 : Nat := (0 + ((Int.toNat x8) * 1))
                    bif ((isI .i64 [.v (.int .i64 x9), .v (.int .i64 x10), .v (.int .i64 x11)][v1563]?) && true) then (
                      bif ((decide (((iv [.v (.int .i64 x9), .v (.int .i64 x10), .v (.int .i64 x11)][v1563]?)) ≤ x5))) then (
                        bif ((decide (0 ≤ x8)) && (decide (x8 < 3))) then (
                          let v1566 : Nat := (0 + ((Int.toNat x8) * 1))
                          bif ((isI .i64 [.v (.int .i64 x9), .v (.int .i64 x10), .v (.int .i64 x11)][v1566]?) && true) then (
                            rc x0 x1 x2 x3 x4 x5 x6 ((decide (((iv [.v (.int .i64 x9), .v (.int .i64 x10), .v (.int .i64 x11)][v1566]?)) ≥ ((IntKind.wrap .i64 (0 - x5)))))) ((IntKind.wrap .i64 (x8 + 1))) x9 x10 x11 x12 x13 x14)
                          else (
                            none))
                        else (
                          none))
                      else (
                        rc x0 x1 x2 x3 x4 x5 x6 false ((IntKind.wrap .i64 (x8 + 1))) x9 x10 x11 x12 x13 x14))
                    else (
                      none))
                  else (
                    none))
                else (
                  rc x0 x1 x2 x3 x4 x5 x6 false ((IntKind.wrap .i64 (x8 + 1))) x9 x10 x11 x12 x13 x14)))
            else (
              none))
          else (
            none)))
      else (
        none))
    else (
      none))
  else (
    ex1 x0 x1 x2 x3 x4 x5 x6 x7 x8 x9 x10 x11 x12 x13 x14) : R)) (fun (y0 : Int) (y1 : Int) (y2 : Int) (y3 : Int) (y4 : Bool) (y5 : Int) (y6 : Bool) (y7 : Bool) (y8 : Int) (y9 : Int) (y10 : Int) (y11 : Int) (y12 : Int) (y13 : Int) (y14 : Int) => iterC (codeL PP (words [(22, spec ti_law06_works to_law06_works (fun q => (ok_law06_works F )) (fun q => [.b (o_law06_works_0 F )])), (37, spec ti_vec_Clamp to_vec_Clamp (fun q => (ok_vec_Clamp F (atI (nth q 0)) (atI (nth q 1)) (atI (nth q 2)) (atI (nth q 3)))) (fun q => [.i (o_vec_Clamp_0 F (atI (nth q 0)) (atI (nth q 1)) (atI (nth q 2)) (atI (nth q 3))), .i (o_vec_Clamp_1 F (atI (nth q 0)) (atI (nth q 1)) (atI (nth q 2)) (atI (nth q 3))), .i (o_vec_Clamp_2 F (atI (nth q 0)) (atI (nth q 1)) (atI (nth q 2)) (atI (nth q 3))), .b (o_vec_Clamp_3 F (atI (nth q 0)) (atI (nth q 1)) (atI (nth q 2)) (atI (nth q 3)))]))]) c_law06_VecWithin (tabI c_law06_VecWithin [⟨0, T_law06_VecWithin_0, fun k q => L_law06_VecWithin_0 F (fun (z0 : Int) (z1 : Int) (z2 : Int) (z3 : Int) (z4 : Bool) (z5 : Int) (z6 : Bool) (z7 : Bool) (z8 : Int) (z9 : Int) (z10 : Int) (z11 : Int) (z12 : Int) (z13 : Int) (z14 : Int) => k .ret (fS T_law06_VecWithin_0_0 [.i z0, .i z1, .i z2, .i z3, .b z4, .i z5, .b z6, .b z7, .i z8, .i z9, .i z10, .i z11, .i z12, .i z13, .i z14])) (fun (z0 : Int) (z1 : Int) (z2 : Int) (z3 : Int) (z4 : Bool) (z5 : Int) (z6 : Bool) (z7 : Bool) (z8 : Int) (z9 : Int) (z10 : Int) (z11 : Int) (z12 : Int) (z13 : Int) (z14 : Int) => k (.exit 0) (fS T_law06_VecWithin_0_1 [.i z0, .i z1, .i z2, .i z3, .b z4, .i z5, .b z6, .b z7, .i z8, .i z9, .i z10, .i z11, .i z12, .i z13, .i z14])) F (atI (nth q 0)) (atI (nth q 1)) (atI (nth q 2)) (atI (nth q 3)) (atB (nth q 4)) (atI (nth q 5)) (atB (nth q 6)) (atB (nth q 7)) (atI (nth q 8)) (atI (nth q 9)) (atI (nth q 10)) (atI (nth q 11)) (atI (nth q 12)) (atI (nth q 13)) (atI (nth q 14))⟩]) (tabJ []) (loopAt PP 10 0) 0) (headOf c_law06_VecWithin 0) k n (fS T_law06_VecWithin_0 [.i y0, .i y1, .i y2, .i y3, .b y4, .i y5, .b y6, .b y7, .i y8, .i y9, .i y10, .i y11, .i y12, .i y13, .i y14])) (fun (z0 : Int) (z1 : Int) (z2 : Int) (z3 : Int) (z4 : Bool) (z5 : Int) (z6 : Bool) (z7 : Bool) (z8 : Int) (z9 : Int) (z10 : Int) (z11 : Int) (z12 : Int) (z13 : Int) (z14 : Int) => k .ret (fS T_law06_VecWithin_0_0 [.i z0, .i z1, .i z2, .i z3, .b z4, .i z5, .b z6, .b z7, .i z8, .i z9, .i z10, .i z11, .i z12, .i z13, .i z14])) (fun (z0 : Int) (z1 : Int) (z2 : Int) (z3 : Int) (z4 : Bool) (z5 : Int) (z6 : Bool) (z7 : Bool) (z8 : Int) (z9 : Int) (z10 : Int) (z11 : Int) (z12 : Int) (z13 : Int) (z14 : Int) => k (.exit 0) (fS T_law06_VecWithin_0_1 [.i z0, .i z1, .i z2, .i z3, .b z4, .i z5, .b z6, .b z7, .i z8, .i z9, .i z10, .i z11, .i z12, .i z13, .i z14])) x0 x1 x2 x3 x4 x5 x6 x7 x8 x9 x10 x11 x12 x13 x14 := by
      intros
      kernel_rfl
    have h : iterC (codeL PP (S_law06_VecWithin F) c_law06_VecWithin (I_law06_VecWithin F) (J_law06_VecWithin F) (loopAt PP 10 0) 0) (headOf c_law06_VecWithin 0) k (n + 1) (fS T_law06_VecWithin_0 [.i x0, .i x1, .i x2, .i x3, .b x4, .i x5, .b x6, .b x7, .i x8, .i x9, .i x10, .i x11, .i x12, .i x13, .i x14]) = B_law06_VecWithin_0 F (fun (y0 : Int) (y1 : Int) (y2 : Int) (y3 : Int) (y4 : Bool) (y5 : Int) (y6 : Bool) (y7 : Bool) (y8 : Int) (y9 : Int) (y10 : Int) (y11 : Int) (y12 : Int) (y13 : Int) (y14 : Int) => iterC (codeL PP (S_law06_VecWithin F) c_law06_VecWithin (I_law06_VecWithin F) (J_law06_VecWithin F) (loopAt PP 10 0) 0) (headOf c_law06_VecWithin 0) k n (fS T_law06_VecWithin_0 [.i y0, .i y1, .i y2, .i y3, .b y4, .i y5, .b y6, .b y7, .i y8, .i y9, .i y10, .i y11, .i y12, .i y13, .i y14])) (fun (z0 : Int) (z1 : Int) (z2 : Int) (z3 : Int) (z4 : Bool) (z5 : Int) (z6 : Bool) (z7 : Bool) (z8 : Int) (z9 : Int) (z10 : Int) (z11 : Int) (z12 : Int) (z13 : Int) (z14 : Int) => k .ret (fS T_law06_VecWithin_0_0 [.i z0, .i z1, .i z2, .i z3, .b z4, .i z5, .b z6, .b z7, .i z8, .i z9, .i z10, .i z11, .i z12, .i z13, .i z14])) (fun (z0 : Int) (z1 : Int) (z2 : Int) (z3 : Int) (z4 : Bool) (z5 : Int) (z6 : Bool) (z7 : Bool) (z8 : Int) (z9 : Int) (z10 : Int) (z11 : Int) (z12 : Int) (z13 : Int) (z14 : Int) => k (.exit 0) (fS T_law06_VecWithin_0_1 [.i z0, .i z1, .i z2, .i z3, .b z4, .i z5, .b z6, .b z7, .i z8, .i z9, .i z10, .i z11, .i z12, .i z13, .i z14])) x0 x1 x2 x3 x4 x5 x6 x7 x8 x9 x10 x11 x12 x13 x14 := (h0 ok_law06_works o_law06_works_0 ok_vec_Clamp o_vec_Clamp_0 o_vec_Clamp_1 o_vec_Clamp_2 o_vec_Clamp_3 L_law06_VecWithin_0).trans (by kernel_rfl)
    rw [h]
    simp only [lL_law06_VecWithin_0 F k n]
    rfl
def f_law06_VecWithin (F : Nat) (a0 : Int) (a1 : Int) (a2 : Int) (a3 : Int) : R :=
  bif (ok_law06_works F) then (
    bif ((!((o_law06_works_0 F)))) then (
      some (.v (.bool false)))
    else (
      bif (ok_vec_Clamp F a0 a1 a2 a3) then (
        L_law06_VecWithin_0 F (fun (v1573 : Int) (v1574 : Int) (v1575 : Int) (v1576 : Int) (v1577 : Bool) (v1578 : Int) (v1579 : Bool) (v1580 : Bool) (v1581 : Int) (v1582 : Int) (v1583 : Int) (v1584 : Int) (v1585 : Int) (v1586 : Int) (v1587 : Int) =>
          some (.v (.bool v1577))) (fun (v1588 : Int) (v1589 : Int) (v1590 : Int) (v1591 : Int) (v1592 : Bool) (v1593 : Int) (v1594 : Bool) (v1595 : Bool) (v1596 : Int) (v1597 : Int) (v1598 : Int) (v1599 : Int) (v1600 : Int) (v1601 : Int) (v1602 : Int) =>
          bif ((v1595 == ((!v1594)))) then (
            bif ((!v1595)) then (
              some (.v (.bool true)))
            else (
              some (.v (.bool (((v1597 == v1600) && ((v1598 == v1601) && (v1599 == v1602))))))))
          else (
            some (.v (.bool false)))) F a0 a1 a2 a3 false ((if 0 > a3 then 0 else a3)) ((o_vec_Clamp_3 F a0 a1 a2 a3)) true 0 a0 a1 a2 ((o_vec_Clamp_0 F a0 a1 a2 a3)) ((o_vec_Clamp_1 F a0 a1 a2 a3)) ((o_vec_Clamp_2 F a0 a1 a2 a3)))
      else (
        none)))
  else (
    none)
theorem e_law06_VecWithin (F : Nat) (a0 : Int) (a1 : Int) (a2 : Int) (a3 : Int) : funL PP (S_law06_VecWithin F) c_law06_VecWithin (I_law06_VecWithin F) (J_law06_VecWithin F) 10 (fTs ti_law06_VecWithin [.i a0, .i a1, .i a2, .i a3]).1 = f_law06_VecWithin F a0 a1 a2 a3 := by
  have h : ∀ (ok_law06_works : Nat → Bool) (o_law06_works_0 : Nat → Bool) (ok_vec_Clamp : Nat → Int → Int → Int → Int → Bool) (o_vec_Clamp_0 : Nat → Int → Int → Int → Int → Int) (o_vec_Clamp_1 : Nat → Int → Int → Int → Int → Int) (o_vec_Clamp_2 : Nat → Int → Int → Int → Int → Int) (o_vec_Clamp_3 : Nat → Int → Int → Int → Int → Bool) (L_law06_VecWithin_0 : Nat → (Int → Int → Int → Int → Bool → Int → Bool → Bool → Int → Int → Int → Int → Int → Int → Int → R) → (Int → Int → Int → Int → Bool → Int → Bool → Bool → Int → Int → Int → Int → Int → Int → Int → R) → Nat → Int → Int → Int → Int → Bool → Int → Bool → Bool → Int → Int → Int → Int → Int → Int → Int → R), funL PP (words [(22, spec ti_law06_works to_law06_works (fun q => (ok_law06_works F )) (fun q => [.b (o_law06_works_0 F )])), (37, spec ti_vec_Clamp to_vec_Clamp (fun q => (ok_vec_Clamp F (atI (nth q 0)) (atI (nth q 1)) (atI (nth q 2)) (atI (nth q 3)))) (fun q => [.i (o_vec_Clamp_0 F (atI (nth q 0)) (atI (nth q 1)) (atI (nth q 2)) (atI (nth q 3))), .i (o_vec_Clamp_1 F (atI (nth q 0)) (atI (nth q 1)) (atI (nth q 2)) (atI (nth q 3))), .i (o_vec_Clamp_2 F (atI (nth q 0)) (atI (nth q 1)) (atI (nth q 2)) (atI (nth q 3))), .b (o_vec_Clamp_3 F (atI (nth q 0)) (atI (nth q 1)) (atI (nth q 2)) (atI (nth q 3)))]))]) c_law06_VecWithin (tabI c_law06_VecWithin [⟨0, T_law06_VecWithin_0, fun k q => L_law06_VecWithin_0 F (fun (z0 : Int) (z1 : Int) (z2 : Int) (z3 : Int) (z4 : Bool) (z5 : Int) (z6 : Bool) (z7 : Bool) (z8 : Int) (z9 : Int) (z10 : Int) (z11 : Int) (z12 : Int) (z13 : Int) (z14 : Int) => k .ret (fS T_law06_VecWithin_0_0 [.i z0, .i z1, .i z2, .i z3, .b z4, .i z5, .b z6, .b z7, .i z8, .i z9, .i z10, .i z11, .i z12, .i z13, .i z14])) (fun (z0 : Int) (z1 : Int) (z2 : Int) (z3 : Int) (z4 : Bool) (z5 : Int) (z6 : Bool) (z7 : Bool) (z8 : Int) (z9 : Int) (z10 : Int) (z11 : Int) (z12 : Int) (z13 : Int) (z14 : Int) => k (.exit 0) (fS T_law06_VecWithin_0_1 [.i z0, .i z1, .i z2, .i z3, .b z4, .i z5, .b z6, .b z7, .i z8, .i z9, .i z10, .i z11, .i z12, .i z13, .i z14])) F (atI (nth q 0)) (atI (nth q 1)) (atI (nth q 2)) (atI (nth q 3)) (atB (nth q 4)) (atI (nth q 5)) (atB (nth q 6)) (atB (nth q 7)) (atI (nth q 8)) (atI (nth q 9)) (atI (nth q 10)) (atI (nth q 11)) (atI (nth q 12)) (atI (nth q 13)) (atI (nth q 14))⟩]) (tabJ []) 10 (fTs ti_law06_VecWithin [.i a0, .i a1, .i a2, .i a3]).1 = (
  bif (ok_law06_works F) then (
    bif ((!((o_law06_works_0 F)))) then (
      some (.v (.bool false)))
    else (
      bif (ok_vec_Clamp F a0 a1 a2 a3) then (
        L_law06_VecWithin_0 F (fun (v1573 : Int) (v1574 : Int) (v1575 : Int) (v1576 : Int) (v1577 : Bool) (v1578 : Int) (v1579 : Bool) (v1580 : Bool) (v1581 : Int) (v1582 : Int) (v1583 : Int) (v1584 : Int) (v1585 : Int) (v1586 : Int) (v1587 : Int) =>
          some (.v (.bool v1577))) (fun (v1588 : Int) (v1589 : Int) (v1590 : Int) (v1591 : Int) (v1592 : Bool) (v1593 : Int) (v1594 : Bool) (v1595 : Bool) (v1596 : Int) (v1597 : Int) (v1598 : Int) (v1599 : Int) (v1600 : Int) (v1601 : Int) (v1602 : Int) =>
          bif ((v1595 == ((!v1594)))) then (
            bif ((!v1595)) then (
              some (.v (.bool true)))
            else (
              some (.v (.bool (((v1597 == v1600) && ((v1598 == v1601) && (v1599 == v1602))))))))
          else (
            some (.v (.bool false)))) F a0 a1 a2 a3 false ((if 0 > a3 then 0 else a3)) ((o_vec_Clamp_3 F a0 a1 a2 a3)) true 0 a0 a1 a2 ((o_vec_Clamp_0 F a0 a1 a2 a3)) ((o_vec_Clamp_1 F a0 a1 a2 a3)) ((o_vec_Clamp_2 F a0 a1 a2 a3)))
      else (
        none)))
  else (
    none) : R) := by
    intros
    kernel_rfl
  exact (h ok_law06_works o_law06_works_0 ok_vec_Clamp o_vec_Clamp_0 o_vec_Clamp_1 o_vec_Clamp_2 o_vec_Clamp_3 L_law06_VecWithin_0).trans (by kernel_rfl)
def ok_law06_VecWithin (F : Nat) (a0 : Int) (a1 : Int) (a2 : Int) (a3 : Int) : Bool := okT to_law06_VecWithin (f_law06_VecWithin F a0 a1 a2 a3)
def o_law06_VecWithin_0 (F : Nat) (a0 : Int) (a1 : Int) (a2 : Int) (a3 : Int) : Bool := atB (nth (outT to_law06_VecWithin (f_law06_VecWithin F a0 a1 a2 a3)) 0)
theorem k_law06_VecWithin (F : Nat) (a0 : Int) (a1 : Int) (a2 : Int) (a3 : Int) {z0 : Bool} (h : f_law06_VecWithin F a0 a1 a2 a3 = some (.v (.bool z0))) : ok_law06_VecWithin F a0 a1 a2 a3 = true ∧ o_law06_VecWithin_0 F a0 a1 a2 a3 = z0 := by
  refine ⟨?_, ?_⟩
  · unfold ok_law06_VecWithin; rw [h]; kernel_rfl
  · unfold o_law06_VecWithin_0; rw [h]; kernel_rfl
def s_law06_VecWithin (F : Nat) : List VV → Option (Bool × VV) := spec ti_law06_VecWithin to_law06_VecWithin (fun q => (ok_law06_VecWithin F (atI (nth q 0)) (atI (nth q 1)) (atI (nth q 2)) (atI (nth q 3)))) (fun q => [.b (o_law06_VecWithin_0 F (atI (nth q 0)) (atI (nth q 1)) (atI (nth q 2)) (atI (nth q 3)))])
theorem hS_law06_VecWithin (F : Nat) : ∀ f, Good PP f (unS (S_law06_VecWithin F f)) := words_good fun p hp => by
  simp only [List.mem_cons, List.not_mem_nil, or_false] at hp
  rcases hp with rfl | rfl
  · exact g_law06_works F
  · exact g_vec_Clamp F
theorem hl_law06_VecWithin (F : Nat) : ∀ p ∈ loopsIn PP 10, LoopOK PP (S_law06_VecWithin F) c_law06_VecWithin F (I_law06_VecWithin F) (J_law06_VecWithin F) p :=
  loops_of [(0, loopAt PP 10 0)] (by kernel_rfl) (all_cons
    (loop_ok (W_law06_VecWithin F) rfl (tab_cons (fun _ k q => Le.ofEq ((lL_law06_VecWithin_0 F k F (atI (nth q 0)) (atI (nth q 1)) (atI (nth q 2)) (atI (nth q 3)) (atB (nth q 4)) (atI (nth q 5)) (atB (nth q 6)) (atB (nth q 7)) (atI (nth q 8)) (atI (nth q 9)) (atI (nth q 10)) (atI (nth q 11)) (atI (nth q 12)) (atI (nth q 13)) (atI (nth q 14))).symm.trans (congrArg (iterC (codeL PP (S_law06_VecWithin F) c_law06_VecWithin (I_law06_VecWithin F) (J_law06_VecWithin F) (loopAt PP 10 0) 0) (headOf c_law06_VecWithin 0) k F) (show fS T_law06_VecWithin_0 [.i (atI (nth q 0)), .i (atI (nth q 1)), .i (atI (nth q 2)), .i (atI (nth q 3)), .b (atB (nth q 4)), .i (atI (nth q 5)), .b (atB (nth q 6)), .b (atB (nth q 7)), .i (atI (nth q 8)), .i (atI (nth q 9)), .i (atI (nth q 10)), .i (atI (nth q 11)), .i (atI (nth q 12)), .i (atI (nth q 13)), .i (atI (nth q 14))] = fS T_law06_VecWithin_0 q by kernel_rfl)))) tab_nil)) all_nil)
theorem hj_law06_VecWithin (F : Nat) : ∀ p ∈ joinsIn PP c_law06_VecWithin 10, JoinOK PP (S_law06_VecWithin F) c_law06_VecWithin (I_law06_VecWithin F) (J_law06_VecWithin F) p :=
  joins_of [] (by kernel_rfl) all_nil
theorem g_law06_VecWithin (F : Nat) : Good PP 10 (unS (s_law06_VecWithin F)) :=
  fun_spec (hS_law06_VecWithin F) (by kernel_rfl) (by kernel_rfl) (C := c_law06_VecWithin) (F := fun q => (f_law06_VecWithin F (atI (nth q 0)) (atI (nth q 1)) (atI (nth q 2)) (atI (nth q 3)))) (fun _ => F) (fun _ => I_law06_VecWithin F) (fun _ => J_law06_VecWithin F) (fun _ => hl_law06_VecWithin F) (fun _ => hj_law06_VecWithin F)
    (fun q => (congrArg (funL PP (S_law06_VecWithin F) c_law06_VecWithin (I_law06_VecWithin F) (J_law06_VecWithin F) 10) (show (fTs ti_law06_VecWithin q).1 = (fTs ti_law06_VecWithin [.i (atI (nth q 0)), .i (atI (nth q 1)), .i (atI (nth q 2)), .i (atI (nth q 3))]).1 by kernel_rfl)).trans (e_law06_VecWithin F (atI (nth q 0)) (atI (nth q 1)) (atI (nth q 2)) (atI (nth q 3))))
    (fun _ h => (okT_fill h).trans (congrArg some (by kernel_rfl)))

end Go.Xv
namespace Go.Xv
theorem p2pos (n : Nat) : (0 : Int) < 2 ^ n := Int.pow_pos (by decide)
theorem p2add (a b : Nat) : (2 : Int) ^ a * 2 ^ b = 2 ^ (a + b) := (Int.pow_add 2 a b).symm
theorem p2_64 {m : Nat} (h : m ≤ 64) : (2 : Int) ^ m * 2 ^ (64 - m) = 18446744073709551616 := by
  rw [p2add, show m + (64 - m) = 64 by omega]; decide
theorem p2cast (k : Nat) : ((2 ^ k : Nat) : Int) = 2 ^ k := by push_cast; rfl
theorem emod_mul {a P Q : Int} (hP : 0 < P) : (a * P) % (P * Q) = (a % Q) * P := by
  rw [Int.mul_comm a P, Int.mul_emod_mul_of_pos _ _ hP, Int.mul_comm]

theorem shl_small {h l : Int} {m : Nat} (hl : U64 l) (hm : m < 64) :
    IntKind.wrap .i64 (orI .u64 (((h % 18446744073709551616) * 2 ^ m) % 18446744073709551616) (l / 2 ^ (64 - m))) = hi (val h l * 2 ^ m) ∧ (l * 2 ^ m) % 18446744073709551616 = lo (val h l * 2 ^ m) := by
  have hP := p2pos m
  have hQ := p2pos (64 - m)
  have hPQ := p2_64 (m := m) (by omega)
  have eP : ((2 ^ m : Nat) : Int) = 2 ^ m := p2cast _
  have orq := fun a b => or_add_u64 m (a := a) (b := b)
  rw [eP] at orq
  generalize (2 : Int) ^ m = P at *
  generalize (2 : Int) ^ (64 - m) = Q at *
  have hv : val h l * P = h * P * 18446744073709551616 + l * P := by
    unfold val
    rw [Int.add_mul]
    have : h * 18446744073709551616 * P = h * P * 18446744073709551616 := by simp only [Int.mul_comm, Int.mul_assoc, Int.mul_left_comm]
    omega
  have hlP : 0 ≤ l / Q ∧ l / Q < P := by
    unfold U64 at hl
    exact ⟨Int.ediv_nonneg hl.1 (by omega), Int.ediv_lt_of_lt_mul hQ (by omega)⟩
  rw [hv]
  have e3 : (l * P) / 18446744073709551616 = l / Q := by
    rw [← hPQ, ← Int.ediv_ediv_of_nonneg (by omega), Int.mul_ediv_cancel _ (by omega)]
  constructor
  · have e1 : ((h % 18446744073709551616) * P) % 18446744073709551616 = (h % Q) * P := by
      rw [← hPQ, emod_mul hP, Int.emod_emod_of_dvd h (show Q ∣ P * Q from ⟨P, Int.mul_comm P Q⟩)]
    have b1 := Int.emod_nonneg h (show Q ≠ 0 by omega)
    have b2 := Int.emod_lt_of_pos h hQ
    have b3 : (h % Q) * P + l / Q < 18446744073709551616 := by
      have : (h % Q) * P ≤ (Q - 1) * P := Int.mul_le_mul_of_nonneg_right (by omega) (by omega)
      rw [Int.sub_mul, Int.mul_comm Q P] at this
      omega
    have b4 := Int.mul_nonneg b1 (show 0 ≤ P by omega)
    rw [e1, orq _ _ b1 hlP.1 hlP.2 b3, wi64]
    unfold hi
    have e2 : (h * P) % 18446744073709551616 = (h % Q) * P := by rw [← hPQ, emod_mul hP]
    rw [show (h * P * 18446744073709551616 + l * P) / 18446744073709551616 = h * P + (l * P) / 18446744073709551616 by omega, e3]
    omega
  · unfold lo
    omega

theorem shl_great {h l : Int} {m : Nat} (hm : 64 ≤ m) :
    IntKind.wrap .i64 ((l * 2 ^ (m - 64)) % 18446744073709551616) = hi (val h l * 2 ^ m) ∧ 0 = lo (val h l * 2 ^ m) := by
  have e : (2 : Int) ^ m = 2 ^ (m - 64) * 18446744073709551616 := by
    rw [show (18446744073709551616 : Int) = 2 ^ 64 by decide, p2add, show (m - 64) + 64 = m by omega]
  rw [e]
  generalize (2 : Int) ^ (m - 64) = P at *
  have hv : val h l * (P * 18446744073709551616) = (h * P * 18446744073709551616 + l * P) * 18446744073709551616 := by
    unfold val
    simp only [Int.add_mul]
    have : h * 18446744073709551616 * (P * 18446744073709551616) = h * P * 18446744073709551616 * 18446744073709551616 := by simp only [Int.mul_comm, Int.mul_assoc, Int.mul_left_comm]
    have : l * (P * 18446744073709551616) = l * P * 18446744073709551616 := by simp only [Int.mul_assoc]
    omega
  rw [hv]
  generalize h * P = a
  generalize l * P = b
  constructor
  · rw [wi64]; unfold hi; omega
  · unfold lo; omega
theorem shl_all {h l : Int} {m : Nat} (hm : 128 ≤ m) : 0 = hi (val h l * 2 ^ m) ∧ 0 = lo (val h l * 2 ^ m) := by
  have e : (2 : Int) ^ m = 2 ^ (m - 128) * 340282366920938463463374607431768211456 := by
    rw [show (340282366920938463463374607431768211456 : Int) = 2 ^ 128 by decide, p2add, show (m - 128) + 128 = m by omega]
  rw [e, ← Int.mul_assoc]
  generalize val h l * 2 ^ (m - 128) = b
  constructor
  · unfold hi; omega
  · unfold lo; omega
end Go.Xv
namespace Go.Xv
/-- one bit of a number -/
def dg (z : Int) (i : Nat) : Int := z / 2 ^ i % 2
def ds (z : Int) (n : Nat) : List VV := (List.range n).map fun i => .v (.int .i64 (dg z i))
theorem p2mono {a b : Nat} (h : a ≤ b) : (2 : Int) ^ a ≤ 2 ^ b := by
  rw [show b = a + (b - a) by omega, ← p2add]
  have h1 := p2pos a
  have h2 := p2pos (b - a)
  have : (2 : Int) ^ a * 1 ≤ 2 ^ a * 2 ^ (b - a) := Int.mul_le_mul_of_nonneg_left (by omega) (by omega)
  omega
end Go.Xv
namespace Go.Xv
def sz (a : Int) : Int := if a < 0 then -a else a
end Go.Xv
namespace Go.Xv
theorem bp {α : Type} {c : Bool} {a b x : α} (h : c = true) (h2 : a = x) : (bif c then a else b) = x := by rw [h]; exact h2
theorem bn {α : Type} {c : Bool} {a b x : α} (h : c = false) (h2 : b = x) : (bif c then a else b) = x := by rw [h]; exact h2
theorem dt {p : Prop} [Decidable p] (h : p) : decide p = true := decide_eq_true h
theorem df {p : Prop} [Decidable p] (h : ¬ p) : decide p = false := decide_eq_false h
theorem fdiv_pos (a : Int) {b : Int} (h : 0 ≤ b) : Int.fdiv a b = a / b := Int.fdiv_eq_ediv_of_nonneg a h
theorem some_int {k : IntKind} {a b : Int} (h : a = b) : (some (VV.v (.int k a)) : R) = some (.v (.int k b)) := by rw [h]
theorem some_wd {a b : Int} {z : Int} (h : a = hi z) (k : b = lo z) : (some (VV.v (.agg #[.int .i64 a, .int .u64 b])) : R) = some (wd z) := by rw [h, k]; rfl

theorem f_Add (F : Nat) {a b c d : Int} (hb : U64 b) (hd : U64 d) : f_wide_Add F a b c d = some (wd (val a b + val c d)) := by
  unfold f_wide_Add
  unfold U64 at hb hd
  simp only [wu64, wi64]
  by_cases h : (b + d) % 18446744073709551616 < b
  · refine bp (dt h) (some_wd ?_ ?_)
    · unfold hi val; omega
    · unfold lo val; omega
  · refine bn (df h) (some_wd ?_ ?_)
    · unfold hi val; omega
    · unfold lo val; omega

end Go.Xv
namespace Go.Xv
theorem some_bool {a b : Bool} (h : a = b) : (some (VV.v (.bool a)) : R) = some (.v (.bool b)) := by rw [h]
theorem nn (k : Nat) : (!decide ((k : Int) < 0)) = true := by rw [df (by omega)]; rfl
theorem p2min {m : Nat} (h : m ≤ 64) : min (Int.toNat (m : Int)) 64 = m := by omega

theorem f_Left (F : Nat) {a b n : Int} (hb : U64 b) : f_wide_Left F a b n = some (wd (val a b * 2 ^ n.toNat)) := by
  unfold f_wide_Left
  have hv : (if 0 > n then 0 else n) = ((n.toNat : Nat) : Int) := by split <;> omega
  rw [hv]
  generalize n.toNat = m
  simp only [Int.toNat_natCast]
  by_cases h : 128 ≤ m
  · refine bp (dt (by omega)) ?_
    obtain ⟨h1, h2⟩ := shl_all (h := a) (l := b) h
    exact some_wd h1 h2
  · refine bn (df (by omega)) ?_
    by_cases h : 64 ≤ m
    · refine bp (dt (by omega)) ?_
      rw [wi64_in (x := (m : Int) - 64) (by unfold I64; omega), show (m : Int) - 64 = ((m - 64 : Nat) : Int) by omega]
      refine bp (nn _) ?_
      rw [p2min (by omega), wu64]
      obtain ⟨h1, h2⟩ := shl_great (h := a) (l := b) h
      exact some_wd h1 h2
    · refine bn (df (by omega)) ?_
      refine bp (nn _) ?_
      rw [wi64_in (x := 64 - (m : Int)) (by unfold I64; omega), show 64 - (m : Int) = ((64 - m : Nat) : Int) by omega]
      refine bp (nn _) (bp (nn _) ?_)
      rw [fdiv_pos _ (Int.le_of_lt (p2pos _)), show min m 64 = m by omega, p2min (by omega), wu64, wu64, wu64]
      obtain ⟨h1, h2⟩ := shl_small (h := a) hb (show m < 64 by omega)
      exact some_wd h1 h2

theorem f_Sign (F : Nat) {a b : Int} (hb : U64 b) : f_wide_Sign F a b = some (.v (.int .i64 (if val a b < 0 then -1 else if val a b = 0 then 0 else 1))) := by
  unfold f_wide_Sign val
  unfold U64 at hb
  by_cases h : a < 0
  · refine bp (dt h) (some_int ?_)
    rw [if_pos (by omega)]
  · refine bn (df h) ?_
    by_cases h2 : a = 0 ∧ b = 0
    · refine bp (by simp [h2]) (some_int ?_)
      rw [if_neg (by omega), if_pos (by omega)]
    · refine bn (by simp; omega) (some_int ?_)
      rw [if_neg (by omega), if_neg (by omega)]
theorem f_Less (F : Nat) {a b c d : Int} (hb : U64 b) (hd : U64 d) : f_wide_Less F a b c d = some (.v (.bool (decide (val a b < val c d)))) := by
  unfold f_wide_Less val
  unfold U64 at hb hd
  by_cases h : a = c
  · refine bn (by simp [h]) (some_bool ?_)
    rw [decide_eq_decide]; omega
  · refine bp (by simp [h]) (some_bool ?_)
    rw [decide_eq_decide]; omega
end Go.Xv
namespace Go.Xv
theorem wi64_s (i : Nat) (h : i < 1000) : IntKind.wrap .i64 ((i : Int) + 1) = ((i + 1 : Nat) : Int) := by
  rw [wi64_in (by unfold I64; omega)]; push_cast; rfl
end Go.Xv
namespace Go.Xv
theorem a_Add (F : Nat) (x y : Int) : ok_wide_Add F (hi x) (lo x) (hi y) (lo y) = true ∧ o_wide_Add_0 F (hi x) (lo x) (hi y) (lo y) = hi (x + y) ∧ o_wide_Add_1 F (hi x) (lo x) (hi y) (lo y) = lo (x + y) := by
  obtain ⟨h1, h2, h3⟩ := k_wide_Add F _ _ _ _ (f_Add F (a := hi x) (c := hi y) (lo_U x) (lo_U y))
  rw [h2, h3, val_hl, val_hl]
  have e := (W_eqv x).add (W_eqv y)
  exact ⟨h1, hi_eqv e, lo_eqv e⟩
end Go.Xv
namespace Go.Xv
theorem val_neg {a b : Int} (hb : U64 b) : (val a b < 0) ↔ a < 0 := by unfold val; unfold U64 at hb; omega
end Go.Xv
namespace Go.Xv
theorem f_fClamp (F : Nat) {a l h : Int} : f_fix_Clamp F a l h = some (.v (.tuple #[.int .i64 (if h < l then l else min (max a l) h), .bool (if h < l then true else decide (min (max a l) h ≠ a))])) := by
  unfold f_fix_Clamp
  dsimp only
  by_cases hl : h < l
  · refine bp (dt hl) ?_
    rw [if_pos hl, if_pos hl]
  · refine bn (df hl) ?_
    rw [if_neg hl, if_neg hl]
    have e : (if h < (if l > a then l else a) then h else (if l > a then l else a)) = min (max a l) h := by split <;> (try split) <;> omega
    have e2 : (min (max a l) h != a) = decide (min (max a l) h ≠ a) := by rw [Bool.eq_iff_iff]; simp
    rw [e, e2]
end Go.Xv
namespace Go.Xv
theorem sq_lt {x y : Int} (hx : 0 ≤ x) (h : x < y) : x * x < y * y := by
  have h1 : x * x ≤ x * y := Int.mul_le_mul_of_nonneg_left (by omega) hx
  have h2 : x * y < y * y := Int.mul_lt_mul_of_pos_right h (by omega)
  omega
theorem sq_le {x y : Int} (hx : 0 ≤ x) (h : x ≤ y) : x * x ≤ y * y := by
  rcases Int.lt_or_eq_of_le h with h | rfl
  · exact Int.le_of_lt (sq_lt hx h)
  · exact Int.le_refl _
/-- a root is one only -/
theorem root_one {z x y : Int} (hx : 0 ≤ x) (hy : 0 ≤ y) (h1 : x * x ≤ z) (h2 : z < (x + 1) * (x + 1)) (h3 : y * y ≤ z) (h4 : z < (y + 1) * (y + 1)) : x = y := by
  rcases Int.lt_trichotomy x y with h | h | h
  · have := sq_le (x := x + 1) (y := y) (by omega) (by omega); omega
  · exact h
  · have := sq_le (x := y + 1) (y := x) (by omega) (by omega); omega
/-- There is a root. -/
theorem root_ex (z : Int) (hz : 0 ≤ z) : ∃ x : Int, 0 ≤ x ∧ x * x ≤ z ∧ z < (x + 1) * (x + 1) := by
  obtain ⟨n, rfl⟩ := Int.eq_ofNat_of_zero_le hz
  induction n with
  | zero => exact ⟨0, by omega, by omega, by omega⟩
  | succ n ih =>
    obtain ⟨x, h1, h2, h3⟩ := ih (by omega)
    by_cases h : (x + 1) * (x + 1) ≤ ((n + 1 : Nat) : Int)
    · refine ⟨x + 1, by omega, h, ?_⟩
      have := sq_lt (x := x + 1) (y := x + 1 + 1) (by omega) (by omega)
      push_cast
      omega
    · refine ⟨x, h1, ?_, by omega⟩
      push_cast
      omega
noncomputable def rt (z : Int) : Int := if h : 0 ≤ z then Classical.choose (root_ex z h) else 0
theorem rt_spec {z : Int} (h : 0 ≤ z) : 0 ≤ rt z ∧ rt z * rt z ≤ z ∧ z < (rt z + 1) * (rt z + 1) := by
  unfold rt
  rw [dif_pos h]
  exact Classical.choose_spec (root_ex z h)
theorem rt_eq {z x : Int} (hx : 0 ≤ x) (h1 : x * x ≤ z) (h2 : z < (x + 1) * (x + 1)) : rt z = x := by
  have h0 : 0 ≤ x * x := Int.mul_nonneg hx hx
  obtain ⟨h3, h4, h5⟩ := rt_spec (z := z) (by omega)
  exact root_one h3 hx h4 h5 h1 h2
/-- a number is not beyond the root just if its square is not above -/
theorem rt_le {z y : Int} (hz : 0 ≤ z) (hy : 0 ≤ y) : y ≤ rt z ↔ y * y ≤ z := by
  obtain ⟨h3, h4, h5⟩ := rt_spec hz
  constructor
  · intro h
    have := sq_le hy h
    omega
  · intro h
    rcases Int.lt_or_le (rt z) y with hlt | hle
    · have := sq_le (x := rt z + 1) (y := y) (by omega) (by omega); omega
    · exact hle
/-- the root's upper bits -/
theorem top_step {r P : Int} (hr : 0 ≤ r) (hP : 0 < P) : (r / (2 * P) * (2 * P) + P ≤ r → r / P * P = r / (2 * P) * (2 * P) + P) ∧ (¬ r / (2 * P) * (2 * P) + P ≤ r → r / P * P = r / (2 * P) * (2 * P)) := by
  have e : r / (2 * P) = r / P / 2 := by rw [Int.mul_comm, Int.ediv_ediv_of_nonneg (by omega)]
  have hd := Int.mul_ediv_add_emod r P
  have h2 := Int.emod_nonneg r (show P ≠ 0 by omega)
  have h3 := Int.emod_lt_of_pos r hP
  rw [e]
  generalize r / P = q at *
  have hq : 0 ≤ q ∨ q < 0 := by omega
  have e1 : q / 2 * (2 * P) = 2 * (q / 2) * P := by simp only [Int.mul_comm, Int.mul_left_comm]
  rw [e1]
  rcases (show q = 2 * (q / 2) ∨ q = 2 * (q / 2) + 1 by omega) with h | h
  · rw [← h]
    constructor
    · intro hx
      rw [Int.mul_comm q P] at hx; omega
    · intro _; rfl
  · have e2 : q * P = 2 * (q / 2) * P + P := by
      have : q * P = (2 * (q / 2) + 1) * P := by rw [← h]
      rw [this, Int.add_mul, Int.one_mul]
    rw [← e2]
    constructor
    · intro _; rfl
    · intro hx
      rw [Int.mul_comm q P] at hx; omega
end Go.Xv
namespace Go.Xv
theorem f_Square (F : Nat) {n : Int} (hn : U64 n) : f_root_Square F n = some (wd (n * n)) := by
  unfold f_root_Square
  dsimp only
  unfold U64 at hn
  rw [fdiv_pos _ (by decide), mask32_u64 hn]
  have en : n = n / 4294967296 * 4294967296 + n % 4294967296 := by omega
  have hp : 0 ≤ n / 4294967296 ∧ n / 4294967296 ≤ 4294967295 := by omega
  have hq : 0 ≤ n % 4294967296 ∧ n % 4294967296 ≤ 4294967295 := by omega
  have bd : ∀ x y : Int, (0 ≤ x ∧ x ≤ 4294967295) → (0 ≤ y ∧ y ≤ 4294967295) → 0 ≤ x * y ∧ x * y ≤ 18446744065119617025 := by
    intro x y hx hy
    have h1 := Int.mul_nonneg hx.1 hy.1
    have h2 : x * y ≤ 4294967295 * 4294967295 := Int.mul_le_mul hx.2 hy.2 hy.1 (by decide)
    exact ⟨h1, by simpa using h2⟩
  have b1 := bd _ _ hp hp
  have b2 := bd _ _ hq hq
  have b3 := bd _ _ hp hq
  have hnn : n * n = (n / 4294967296) * (n / 4294967296) * 18446744073709551616 + (n / 4294967296) * (n % 4294967296) * 8589934592 + (n % 4294967296) * (n % 4294967296) := by
    generalize n / 4294967296 = p at *
    generalize n % 4294967296 = q at *
    subst en
    simp only [Int.add_mul, Int.mul_add]
    have : p * 4294967296 * (p * 4294967296) = p * p * 18446744073709551616 := by
      rw [show (18446744073709551616 : Int) = 4294967296 * 4294967296 by decide]
      simp only [Int.mul_comm, Int.mul_assoc, Int.mul_left_comm]
    have : p * 4294967296 * q = p * q * 4294967296 := by simp only [Int.mul_comm, Int.mul_assoc, Int.mul_left_comm]
    have : q * (p * 4294967296) = p * q * 4294967296 := by simp only [Int.mul_comm, Int.mul_assoc, Int.mul_left_comm]
    omega
  rw [hnn]
  generalize n / 4294967296 * (n / 4294967296) = pp at *
  generalize n / 4294967296 * (n % 4294967296) = pq at *
  generalize n % 4294967296 * (n % 4294967296) = qq at *
  rw [wu64_in (x := pp) (by unfold U64; omega), wu64_in (x := qq) (by unfold U64; omega), wu64_in (x := pq) (by unfold U64; omega)]
  obtain ⟨l1, l2, l3⟩ := k_wide_Left F _ _ 33 (f_Left F (a := 0) (b := pq) (n := 33) (by unfold U64; omega))
  rw [show ((33 : Int).toNat) = 33 from rfl, show (2 : Int) ^ 33 = 8589934592 by decide] at l2 l3
  refine bp l1 ?_
  rw [l2, l3]
  obtain ⟨s1, s2, s3⟩ := k_wide_Add F _ _ _ _ (f_Add F (a := IntKind.wrap .i64 pp) (b := qq) (c := hi (val 0 pq * 8589934592)) (by unfold U64; omega) (lo_U (val 0 pq * 8589934592)))
  refine bp s1 ?_
  rw [s2, s3]
  have e : Eqv (val (IntKind.wrap .i64 pp) qq + val (hi (val 0 pq * 8589934592)) (lo (val 0 pq * 8589934592))) (pp * 18446744073709551616 + pq * 8589934592 + qq) := by
    rw [val_hl]
    refine ((Eqv.rfl (x := val (IntKind.wrap .i64 pp) qq)).add (W_eqv _)).trans ?_
    rw [wi64]
    unfold Eqv val; omega
  exact some_wd (hi_eqv e) (lo_eqv e)
theorem a_Square (F : Nat) {n : Int} (hn : U64 n) : ok_root_Square F n = true ∧ o_root_Square_0 F n = hi (n * n) ∧ o_root_Square_1 F n = lo (n * n) := k_root_Square F _ (f_Square F hn)
theorem rt_bd {z : Int} (h : 0 ≤ z) (h2 : z < 170141183460469231731687303715884105728) : 0 ≤ rt z ∧ rt z ≤ 13043817825332782212 := by
  obtain ⟨h3, h4, h5⟩ := rt_spec h
  refine ⟨h3, ?_⟩
  rcases Int.lt_or_le 13043817825332782212 (rt z) with hlt | hle
  · have := sq_le (x := 13043817825332782213) (y := rt z) (by omega) (by omega)
    have e : (13043817825332782213 : Int) * 13043817825332782213 = 170141183460469231748655437451289177369 := by decide
    omega
  · exact hle
theorem sq_bd {y : Int} (h : 0 ≤ y) (h2 : y < 18446744073709551616) : 0 ≤ y * y ∧ y * y < 340282366920938463463374607431768211456 := by
  have h1 := Int.mul_nonneg h h
  have := sq_le h (show y ≤ 18446744073709551615 by omega)
  have e : (18446744073709551615 : Int) * 18446744073709551615 = 340282366920938463426481119284349108225 := by decide
  omega
theorem lp_rootWide_0 (F : Nat) (ex) {a b : Int} (ha : I64 a) (hb : U64 b) (hz : 0 ≤ val a b) (x0 x1 x2 : Int) (x3 : Bool) : ∀ (k n i : Nat) (x4 x5 : Int), i + k = 64 → k < n → x4 = rt (val a b) / 2 ^ k * 2 ^ k → x5 = i →
    L_root_Wide_0 F ex n x0 x1 x2 x3 x4 x5 a b = ex x0 x1 x2 x3 (rt (val a b)) 64 a b
  | _, 0, _, _, _, _, h, _, _ => absurd h (by omega)
  | 0, n + 1, i, _, _, h, _, rfl, rfl => by
    obtain rfl : i = 64 := by omega
    rw [L_root_Wide_0]
    unfold B_root_Wide_0
    refine bn (df (by omega)) ?_
    rw [Int.pow_zero, Int.ediv_one, Int.mul_one]; rfl
  | k + 1, n + 1, i, _, _, h, hn, rfl, rfl => by
    have hW := val_W ha hb
    unfold W128 at hW
    obtain ⟨r1, r2⟩ := rt_bd hz hW.2
    have ih := lp_rootWide_0 F ex ha hb hz x0 x1 x2 x3 k n (i + 1)
    rw [L_root_Wide_0]
    unfold B_root_Wide_0
    dsimp only
    have hi63 : IntKind.wrap .i64 (63 - (i : Int)) = ((k : Nat) : Int) := by rw [wi64_in (by unfold I64; omega)]; omega
    have hP := p2pos k
    have hPb : (2 : Int) ^ k ≤ 9223372036854775808 := by
      have := p2mono (a := k) (b := 63) (by omega)
      simpa using this
    rw [hi63, p2min (by omega), Int.one_mul, wu64_in (x := 2 ^ k) (by unfold U64; omega)]
    obtain ⟨t1, t2⟩ := top_step (r := rt (val a b)) (P := 2 ^ k) r1 hP
    rw [show (2 : Int) * 2 ^ k = 2 ^ (k + 1) by rw [Int.pow_succ, Int.mul_comm]] at t1 t2
    have hq := Int.ediv_nonneg r1 (Int.le_of_lt (p2pos (k + 1)))
    have hqr : rt (val a b) / 2 ^ (k + 1) * 2 ^ (k + 1) ≤ rt (val a b) := Int.ediv_mul_le _ (by have := p2pos (k + 1); omega)
    have hq0 := Int.mul_nonneg hq (Int.le_of_lt (p2pos (k + 1)))
    have eor : orI .u64 (rt (val a b) / 2 ^ (k + 1) * 2 ^ (k + 1)) (2 ^ k) = rt (val a b) / 2 ^ (k + 1) * 2 ^ (k + 1) + 2 ^ k := by
      have h1 := or_add_u64 (k + 1) (a := rt (val a b) / 2 ^ (k + 1)) (b := 2 ^ k) hq (by omega)
      rw [p2cast (k + 1)] at h1
      refine h1 ?_ ?_
      · rw [Int.pow_succ]; omega
      · by_cases hk : k = 63
        · subst hk
          have : rt (val a b) / 2 ^ (63 + 1) = 0 := Int.ediv_eq_zero_of_lt r1 (by rw [show (2 : Int) ^ (63 + 1) = 18446744073709551616 by decide]; omega)
          rw [this]
          decide
        · have := p2mono (a := k) (b := 62) (by omega)
          rw [show (2 : Int) ^ 62 = 4611686018427387904 by decide] at this
          omega
    rw [eor]
    have hyU : U64 (rt (val a b) / 2 ^ (k + 1) * 2 ^ (k + 1) + 2 ^ k) := by
      have hw := orI .u64 (rt (val a b) / 2 ^ (k + 1) * 2 ^ (k + 1)) (2 ^ k)
      rw [← eor, or_u64_bv]
      exact wu64_U _
    generalize hx : rt (val a b) / 2 ^ (k + 1) * 2 ^ (k + 1) = x at *
    obtain ⟨s1, s2, s3⟩ := a_Square F hyU
    have hle := rt_le (z := val a b) (y := x + 2 ^ k) hz (by omega)
    unfold U64 at hyU
    obtain ⟨b1, b2⟩ := sq_bd hyU.1 hyU.2
    have w5 : IntKind.wrap .i64 ((i : Int) + 1) = ((i + 1 : Nat) : Int) := wi64_s i (by omega)
    refine bp (dt (by omega)) (bp (nn k) (bp s1 ?_))
    rw [s2, s3]
    generalize hs : (x + 2 ^ k) * (x + 2 ^ k) = s at *
    by_cases hhi : hi s ≥ 0
    · have hs127 : s < 170141183460469231731687303715884105728 := by unfold hi at hhi; omega
      obtain ⟨l1, l2⟩ := k_wide_Less F _ _ _ _ (f_Less F (a := a) (c := hi s) hb (lo_U s))
      rw [val_hl, W_in (by unfold W128; omega)] at l2
      refine bp (dt hhi) (bp l1 ?_)
      rw [l2]
      by_cases hc : val a b < s
      · refine bn (by rw [dt hc]; rfl) ?_
        exact ih _ _ (by omega) (by omega) (t2 (fun h => by have := hle.1 h; omega)).symm w5
      · refine bp (by rw [df hc]; rfl) ?_
        exact ih _ _ (by omega) (by omega) (t1 (hle.2 (by omega))).symm w5
    · have hs127 : 170141183460469231731687303715884105728 ≤ s := by unfold hi at hhi; omega
      refine bn (df hhi) ?_
      exact ih _ _ (by omega) (by omega) (t2 (fun h => by have := hle.1 h; omega)).symm w5
/-- what the root of a wide number answers -/
noncomputable def rootR (z : Int) : Value := if z < 0 then .tuple #[.int .u64 0, .bool false] else .tuple #[.int .u64 (rt z), .bool true]
theorem f_rootWide (F : Nat) (hF : 200 ≤ F) {a b : Int} (ha : I64 a) (hb : U64 b) : f_root_Wide F a b = some (.v (rootR (val a b))) := by
  unfold f_root_Wide rootR
  have hn := val_neg (a := a) hb
  by_cases h : a < 0
  · refine bp (dt h) ?_
    rw [if_pos (hn.2 h)]
  · have hz : 0 ≤ val a b := by
      rcases Int.lt_or_le (val a b) 0 with h2 | h2
      · exact absurd (hn.1 h2) h
      · exact h2
    refine bn (df h) ?_
    rw [if_neg (by omega)]
    have hW := val_W ha hb
    unfold W128 at hW
    obtain ⟨r1, r2⟩ := rt_bd hz hW.2
    rw [lp_rootWide_0 F _ ha hb hz a b 0 false 64 F 0 0 0 (by omega) (by omega) ?_ rfl]
    rw [Int.ediv_eq_zero_of_lt r1 (by rw [show (2 : Int) ^ 64 = 18446744073709551616 by decide]; omega)]; simp
end Go.Xv
namespace Go.Xv
theorem f_vec_each' (F : Nat) (hF : 200 ≤ F) {a0 a1 a2 a3 : Int} {v0 v1 v2 : Int} {c0 c1 c2 : Bool} (h0 : ok_vec_Clamp_1 F 0 a0 a1 a2 a3 = true ∧ o_vec_Clamp_1_0 F 0 a0 a1 a2 a3 = v0 ∧ o_vec_Clamp_1_1 F 0 a0 a1 a2 a3 = c0) (h1 : ok_vec_Clamp_1 F 1 a0 a1 a2 a3 = true ∧ o_vec_Clamp_1_0 F 1 a0 a1 a2 a3 = v1 ∧ o_vec_Clamp_1_1 F 1 a0 a1 a2 a3 = c1) (h2 : ok_vec_Clamp_1 F 2 a0 a1 a2 a3 = true ∧ o_vec_Clamp_1_0 F 2 a0 a1 a2 a3 = v2 ∧ o_vec_Clamp_1_1 F 2 a0 a1 a2 a3 = c2) :
    f_vec_each F a0 a1 a2 a3 = some (.v (.tuple #[.agg #[.int .i64 v0, .int .i64 v1, .int .i64 v2], .bool (c0 || c1 || c2)])) := by
  obtain ⟨a1, a2, a3⟩ := h0
  obtain ⟨b1, b2, b3⟩ := h1
  obtain ⟨d1, d2, d3⟩ := h2
  obtain ⟨G, hG⟩ : ∃ G, F = G + 4 := ⟨F - 4, by omega⟩
  have w1 : IntKind.wrap .i64 (0 + 1) = 1 := by decide
  have w2 : IntKind.wrap .i64 (1 + 1) = 2 := by decide
  have w3 : IntKind.wrap .i64 (2 + 1) = 3 := by decide
  unfold f_vec_each
  rw [show L_vec_each_0 F _ F = L_vec_each_0 F _ (G + 4) from congrArg (L_vec_each_0 F _) hG, L_vec_each_0]
  unfold B_vec_each_0
  refine bp rfl (bp a1 (bn rfl (bp rfl (bp rfl ?_))))
  rw [a2, a3, w1, L_vec_each_0]
  unfold B_vec_each_0
  refine bp rfl (bp b1 ?_)
  rw [b2, b3, w2]
  cases c0
  · refine bn rfl (bp rfl (bp rfl ?_))
    rw [L_vec_each_0]
    unfold B_vec_each_0
    refine bp rfl (bp d1 ?_)
    rw [d2, d3, w3]
    cases c1
    · refine bn rfl (bp rfl (bp rfl ?_))
      rw [L_vec_each_0]
      unfold B_vec_each_0
      exact bn rfl (bp rfl rfl)
    · refine bp rfl (bp rfl (bp rfl ?_))
      rw [L_vec_each_0]
      unfold B_vec_each_0
      exact bn rfl (bp rfl rfl)
  · refine bp rfl (bp rfl (bp rfl ?_))
    rw [L_vec_each_0]
    unfold B_vec_each_0
    refine bp rfl (bp d1 ?_)
    rw [d2, w3]
    refine bp rfl (bp rfl (bp rfl ?_))
    rw [L_vec_each_0]
    unfold B_vec_each_0
    exact bn rfl (bp rfl (by rw [Bool.true_or, Bool.true_or]; rfl))
end Go.Xv
namespace Go.Xv
def clmV (a m : Int) : Int := min (max a (-m)) m
def clmC (a m : Int) : Bool := decide (min (max a (-m)) m ≠ a)
theorem w_neg {m : Int} (hm : 0 ≤ m ∧ m ≤ 9223372036854775807) : IntKind.wrap .i64 (0 - m) = -m := by rw [wi64_in (by unfold I64; omega), Int.zero_sub]
theorem clampF (F : Nat) {a m : Int} (hm : 0 ≤ m) : ok_fix_Clamp F a (-m) m = true ∧ o_fix_Clamp_0 F a (-m) m = clmV a m ∧ o_fix_Clamp_1 F a (-m) m = clmC a m := by
  obtain ⟨h1, h2, h3⟩ := k_fix_Clamp F _ _ _ (f_fClamp F (a := a) (l := -m) (h := m))
  rw [if_neg (by omega)] at h2 h3
  exact ⟨h1, h2, h3⟩
theorem a_Clamp_0 (F : Nat) {a0 a1 a2 m : Int} (hm : 0 ≤ m ∧ m ≤ 9223372036854775807) : ok_vec_Clamp_1 F 0 a0 a1 a2 m = true ∧ o_vec_Clamp_1_0 F 0 a0 a1 a2 m = clmV a0 m ∧ o_vec_Clamp_1_1 F 0 a0 a1 a2 m = clmC a0 m := by
  refine k_vec_Clamp_1 F _ _ _ _ _ ?_
  unfold f_vec_Clamp_1
  rw [w_neg hm]
  obtain ⟨h1, h2, h3⟩ := clampF F (a := a0) hm.1
  refine bp rfl (bp rfl (bp h1 ?_))
  exact congrArg some (show VV.v (.tuple #[.int .i64 (o_fix_Clamp_0 F a0 (-m) m), .bool (o_fix_Clamp_1 F a0 (-m) m)]) = _ by rw [h2, h3])
theorem a_Clamp_1 (F : Nat) {a0 a1 a2 m : Int} (hm : 0 ≤ m ∧ m ≤ 9223372036854775807) : ok_vec_Clamp_1 F 1 a0 a1 a2 m = true ∧ o_vec_Clamp_1_0 F 1 a0 a1 a2 m = clmV a1 m ∧ o_vec_Clamp_1_1 F 1 a0 a1 a2 m = clmC a1 m := by
  refine k_vec_Clamp_1 F _ _ _ _ _ ?_
  unfold f_vec_Clamp_1
  rw [w_neg hm]
  obtain ⟨h1, h2, h3⟩ := clampF F (a := a1) hm.1
  refine bp rfl (bp rfl (bp h1 ?_))
  exact congrArg some (show VV.v (.tuple #[.int .i64 (o_fix_Clamp_0 F a1 (-m) m), .bool (o_fix_Clamp_1 F a1 (-m) m)]) = _ by rw [h2, h3])
theorem a_Clamp_2 (F : Nat) {a0 a1 a2 m : Int} (hm : 0 ≤ m ∧ m ≤ 9223372036854775807) : ok_vec_Clamp_1 F 2 a0 a1 a2 m = true ∧ o_vec_Clamp_1_0 F 2 a0 a1 a2 m = clmV a2 m ∧ o_vec_Clamp_1_1 F 2 a0 a1 a2 m = clmC a2 m := by
  refine k_vec_Clamp_1 F _ _ _ _ _ ?_
  unfold f_vec_Clamp_1
  rw [w_neg hm]
  obtain ⟨h1, h2, h3⟩ := clampF F (a := a2) hm.1
  refine bp rfl (bp rfl (bp h1 ?_))
  exact congrArg some (show VV.v (.tuple #[.int .i64 (o_fix_Clamp_0 F a2 (-m) m), .bool (o_fix_Clamp_1 F a2 (-m) m)]) = _ by rw [h2, h3])
theorem mx0 {a : Int} : (if 0 > a then 0 else a) = max a 0 := by split <;> omega
theorem a_vClamp (F : Nat) (hF : 200 ≤ F) {a0 a1 a2 a3 : Int} (h3 : I64 a3) : ok_vec_Clamp F a0 a1 a2 a3 = true ∧ o_vec_Clamp_0 F a0 a1 a2 a3 = clmV a0 (max a3 0) ∧ o_vec_Clamp_1 F a0 a1 a2 a3 = clmV a1 (max a3 0) ∧ o_vec_Clamp_2 F a0 a1 a2 a3 = clmV a2 (max a3 0) ∧ o_vec_Clamp_3 F a0 a1 a2 a3 = (clmC a0 (max a3 0) || clmC a1 (max a3 0) || clmC a2 (max a3 0)) := by
  refine k_vec_Clamp F _ _ _ _ ?_
  unfold f_vec_Clamp
  rw [mx0]
  have hm : 0 ≤ max a3 0 ∧ max a3 0 ≤ 9223372036854775807 := by unfold I64 at h3; omega
  obtain ⟨e1, e2, e3, e4, e5⟩ := k_vec_each F _ _ _ _ (f_vec_each' F hF (a_Clamp_0 F hm) (a_Clamp_1 F hm) (a_Clamp_2 F hm))
  refine bp e1 ?_
  rw [e2, e3, e4, e5]
theorem sz_U {a : Int} (h : I64 a) : U64 (sz a) := by unfold sz; unfold I64 at h; unfold U64; split <;> omega
theorem sz_sq (a : Int) : sz a * sz a = a * a := by
  unfold sz
  split
  · rw [Int.neg_mul_neg]
  · rfl
theorem a_vbare (F : Nat) {a : Int} (h : I64 a) : ok_vec_bare F a = true ∧ o_vec_bare_0 F a = sz a := by
  refine k_vec_bare F _ ?_
  unfold f_vec_bare sz
  unfold I64 at h
  by_cases hs : a < 0
  · refine bp (dt hs) ?_
    rw [if_pos hs, wu64, wu64]
    congr 3
    omega
  · refine bn (df hs) ?_
    rw [if_neg hs, wu64]
    congr 3
    omega
def sq3 (a b c : Int) : Int := a * a + b * b + c * c
noncomputable def lenV (z : Int) : Int := if z < 85070591730234615865843651857942052864 then rt z else 9223372036854775807
def lenC (z : Int) : Bool := decide (85070591730234615865843651857942052864 ≤ z)
theorem sq_bd64 {a : Int} (h : I64 a) : 0 ≤ a * a ∧ a * a ≤ 85070591730234615865843651857942052864 := by
  have h1 := sz_sq a
  have h2 : 0 ≤ sz a ∧ sz a ≤ 9223372036854775808 := by unfold sz; unfold I64 at h; split <;> omega
  have h3 := sq_le h2.1 h2.2
  have h4 := Int.mul_nonneg h2.1 h2.1
  omega
theorem rt_small {z : Int} (h0 : 0 ≤ z) : (rt z ≤ 9223372036854775807) ↔ z < 85070591730234615865843651857942052864 := by
  obtain ⟨h1, h2, h3⟩ := rt_spec h0
  constructor
  · intro h
    have := sq_le (x := rt z + 1) (y := 9223372036854775808) (by omega) (by omega)
    omega
  · intro h
    rcases Int.lt_or_le 9223372036854775807 (rt z) with hl | hl
    · have := sq_le (x := 9223372036854775808) (y := rt z) (by omega) (by omega)
      omega
    · exact hl
theorem len_some {n : Int} {c : Bool} {z : Int} (h : n = lenV z) (k : c = lenC z) : (some (VV.v (.tuple #[.int .i64 n, .bool c])) : R) = some (.v (.tuple #[.int .i64 (lenV z), .bool (lenC z)])) := by rw [h, k]
theorem len_big {z : Int} (h : 170141183460469231731687303715884105728 ≤ z) : (some (VV.v (.tuple #[.int .i64 9223372036854775807, .bool true])) : R) = some (.v (.tuple #[.int .i64 (lenV z), .bool (lenC z)])) := by
  refine len_some ?_ ?_
  · unfold lenV; rw [if_neg (by omega)]
  · unfold lenC; rw [dt (by omega)]
theorem hi_neg {z : Int} (h0 : 0 ≤ z) (h1 : z < 340282366920938463463374607431768211456) : (170141183460469231731687303715884105728 ≤ z ↔ W z < 0) := by unfold W; omega
end Go.Xv
namespace Go.Xv
theorem a_Sgn (F : Nat) {z : Int} (h0 : 0 ≤ z) (h1 : z < 340282366920938463463374607431768211456) : ok_wide_Sign F (hi z) (lo z) = true ∧ decide (o_wide_Sign_0 F (hi z) (lo z) < 0) = decide (170141183460469231731687303715884105728 ≤ z) := by
  obtain ⟨e1, e2⟩ := k_wide_Sign F _ _ (f_Sign F (a := hi z) (lo_U z))
  refine ⟨e1, ?_⟩
  rw [e2, val_hl]
  have := hi_neg h0 h1
  rw [Bool.eq_iff_iff]
  simp only [decide_eq_true_eq]
  split
  · omega
  · split <;> omega
theorem a_rootW (F : Nat) (hF : 200 ≤ F) {z : Int} (h0 : 0 ≤ z) (h1 : z < 170141183460469231731687303715884105728) : ok_root_Wide F (hi z) (lo z) = true ∧ o_root_Wide_0 F (hi z) (lo z) = rt z := by
  have h := f_rootWide F hF (hi_I z) (lo_U z)
  rw [val_hl, W_in (by unfold W128; omega)] at h
  unfold rootR at h
  rw [if_neg (by omega)] at h
  obtain ⟨e1, e2, _⟩ := k_root_Wide F _ _ h
  exact ⟨e1, e2⟩
theorem len_end {z : Int} (h0 : 0 ≤ z) : (bif decide (rt z > 9223372036854775807) then (some (.v (.tuple #[.int .i64 9223372036854775807, .bool true])) : R) else some (.v (.tuple #[.int .i64 (IntKind.wrap .i64 (rt z)), .bool false]))) = some (.v (.tuple #[.int .i64 (lenV z), .bool (lenC z)])) := by
  have hs := rt_small h0
  have hr := (rt_spec h0).1
  by_cases h : z < 85070591730234615865843651857942052864
  · refine bn (df (by have := hs.2 h; omega)) (len_some ?_ ?_)
    · unfold lenV; rw [if_pos h, wi64_in (by have := hs.2 h; unfold I64; omega)]
    · unfold lenC; rw [df (by omega)]
  · refine bp (dt ?_) (len_some ?_ ?_)
    · rcases Int.lt_or_le 9223372036854775807 (rt z) with hl | hl
      · exact hl
      · exact absurd (hs.1 hl) h
    · unfold lenV; rw [if_neg h]
    · unfold lenC; rw [dt (by omega)]
theorem f_Length (F : Nat) (hF : 200 ≤ F) {a b c : Int} (ha : I64 a) (hb : I64 b) (hc : I64 c) : f_vec_Length F a b c = some (.v (.tuple #[.int .i64 (lenV (sq3 a b c)), .bool (lenC (sq3 a b c))])) := by
  obtain ⟨p1, p2⟩ := a_vbare F ha
  obtain ⟨q1, q2⟩ := a_vbare F hb
  obtain ⟨r1, r2⟩ := a_vbare F hc
  obtain ⟨s1, s2, s3⟩ := a_Square F (sz_U ha)
  obtain ⟨t1, t2, t3⟩ := a_Square F (sz_U hb)
  obtain ⟨u1, u2, u3⟩ := a_Square F (sz_U hc)
  rw [sz_sq] at s2 s3 t2 t3 u2 u3
  have ba := sq_bd64 ha
  have bb := sq_bd64 hb
  have bc := sq_bd64 hc
  obtain ⟨v1, v2, v3⟩ := a_Add F 0 (a * a)
  obtain ⟨w1, w2, w3⟩ := a_Add F (a * a) (b * b)
  obtain ⟨x1, x2, x3⟩ := a_Add F (a * a + b * b) (c * c)
  rw [Int.zero_add] at v2 v3
  have v1' : ok_wide_Add F 0 0 (hi (a * a)) (lo (a * a)) = true := v1
  have v2' : o_wide_Add_0 F 0 0 (hi (a * a)) (lo (a * a)) = hi (a * a) := v2
  have v3' : o_wide_Add_1 F 0 0 (hi (a * a)) (lo (a * a)) = lo (a * a) := v3
  obtain ⟨g1, g2⟩ := a_Sgn F (z := a * a) (by omega) (by omega)
  obtain ⟨i1, i2⟩ := a_Sgn F (z := a * a + b * b) (by omega) (by omega)
  obtain ⟨j1, j2⟩ := a_Sgn F (z := a * a + b * b + c * c) (by omega) (by omega)
  obtain ⟨G, hG⟩ : ∃ G, F = G + 4 := ⟨F - 4, by omega⟩
  have y1 : IntKind.wrap .i64 (0 + 1) = 1 := by decide
  have y2 : IntKind.wrap .i64 (1 + 1) = 2 := by decide
  have y3 : IntKind.wrap .i64 (2 + 1) = 3 := by decide
  unfold f_vec_Length
  rw [show L_vec_Length_0 F _ _ F = L_vec_Length_0 F _ _ (G + 4) from congrArg (L_vec_Length_0 F _ _) hG, L_vec_Length_0]
  unfold B_vec_Length_0
  have e0 : (iv [.v (.int .i64 a), .v (.int .i64 b), .v (.int .i64 c)][Int.toNat 0 * 1]?) = a := rfl
  have e1 : (iv [.v (.int .i64 a), .v (.int .i64 b), .v (.int .i64 c)][Int.toNat 1 * 1]?) = b := rfl
  have e2 : (iv [.v (.int .i64 a), .v (.int .i64 b), .v (.int .i64 c)][Int.toNat 2 * 1]?) = c := rfl
  refine bp rfl (bp rfl ?_)
  rw [e0]
  refine bp p1 ?_
  rw [p2]
  refine bp s1 ?_
  rw [s2, s3]
  refine bp v1' ?_
  rw [v2', v3']
  refine bp g1 ?_
  rw [g2]
  refine bn (df (by omega)) ?_
  rw [y1, L_vec_Length_0]
  unfold B_vec_Length_0
  refine bp rfl (bp rfl ?_)
  rw [e1]
  refine bp q1 ?_
  rw [q2]
  refine bp t1 ?_
  rw [t2, t3]
  refine bp w1 ?_
  rw [w2, w3]
  refine bp i1 ?_
  rw [i2]
  by_cases hz : 170141183460469231731687303715884105728 ≤ a * a + b * b
  · exact bp (dt hz) (len_big (by unfold sq3; omega))
  · refine bn (df hz) ?_
    rw [y2, L_vec_Length_0]
    unfold B_vec_Length_0
    refine bp rfl (bp rfl ?_)
    rw [e2]
    refine bp r1 ?_
    rw [r2]
    refine bp u1 ?_
    rw [u2, u3]
    refine bp x1 ?_
    rw [x2, x3]
    refine bp j1 ?_
    rw [j2]
    by_cases hz2 : 170141183460469231731687303715884105728 ≤ a * a + b * b + c * c
    · exact bp (dt hz2) (len_big (by unfold sq3; omega))
    · refine bn (df hz2) ?_
      rw [y3, L_vec_Length_0]
      unfold B_vec_Length_0
      refine bn rfl ?_
      obtain ⟨k1, k2⟩ := a_rootW F hF (z := a * a + b * b + c * c) (by omega) (by omega)
      refine bp k1 ?_
      rw [k2]
      exact len_end (z := a * a + b * b + c * c) (by omega)
theorem a_Length (F : Nat) (hF : 200 ≤ F) {a b c : Int} (ha : I64 a) (hb : I64 b) (hc : I64 c) : ok_vec_Length F a b c = true ∧ o_vec_Length_0 F a b c = lenV (sq3 a b c) ∧ o_vec_Length_1 F a b c = lenC (sq3 a b c) := k_vec_Length F _ _ _ (f_Length F hF ha hb hc)
theorem f_works06 (F : Nat) (hF : 200 ≤ F) : f_law06_works F = some (.v (.bool true)) := by
  unfold f_law06_works
  obtain ⟨l1, l2, l3⟩ := a_Length F hF (a := 12884901888) (b := 17179869184) (c := 0) (by unfold I64; omega) (by unfold I64; omega) (by unfold I64; omega)
  have hz : sq3 12884901888 17179869184 0 = 461168601842738790400 := by decide
  have hr : rt 461168601842738790400 = 21474836480 := rt_eq (by omega) (by decide) (by decide)
  rw [hz] at l2 l3
  refine bp l1 (bp ?_ (some_bool ?_))
  · rw [l2]; unfold lenV; rw [if_pos (by decide), hr]; rfl
  · rw [l3]; decide
theorem a_works06 (F : Nat) (hF : 200 ≤ F) : ok_law06_works F = true ∧ o_law06_works_0 F = true := k_law06_works F (f_works06 F hF)
end Go.Xv
namespace Go.Xv
def inn (a m : Int) : Bool := decide (a ≤ m) && decide (-m ≤ a)
theorem st_Within_0 (F : Nat) (rc ex0 ex1) {m : Int} (hm : 0 ≤ m ∧ m ≤ 9223372036854775807) (x0 x1 x2 x3 : Int) (x4 x6 x7 : Bool) (a0 a1 a2 b0 b1 b2 : Int) (hb : -m ≤ b0 ∧ b0 ≤ m) :
    B_law06_VecWithin_0 F rc ex0 ex1 x0 x1 x2 x3 x4 m x6 x7 0 a0 a1 a2 b0 b1 b2 = rc x0 x1 x2 x3 x4 m x6 (x7 && inn a0 m) 1 a0 a1 a2 b0 b1 b2 := by
  unfold B_law06_VecWithin_0
  have e1 : (iv [.v (.int .i64 b0), .v (.int .i64 b1), .v (.int .i64 b2)][0 + Int.toNat 0 * 1]?) = b0 := rfl
  have e2 : (iv [.v (.int .i64 a0), .v (.int .i64 a1), .v (.int .i64 a2)][0 + Int.toNat 0 * 1]?) = a0 := rfl
  have w1 : IntKind.wrap .i64 (0 + 1) = 1 := by decide
  dsimp only
  rw [e1, e2, w_neg hm, w1]
  refine bp rfl (bp rfl (bp rfl (bn (df (by omega)) (bp rfl (bp rfl (bn (df (by omega)) ?_))))))
  unfold inn
  cases x7
  · exact bn rfl rfl
  · refine bp rfl (bp rfl (bp rfl ?_))
    by_cases h : a0 ≤ m
    · refine bp (dt h) (bp rfl (bp rfl ?_))
      rw [dt h]
      rfl
    · refine bn (df h) ?_
      rw [df h]
      rfl
theorem st_Within_1 (F : Nat) (rc ex0 ex1) {m : Int} (hm : 0 ≤ m ∧ m ≤ 9223372036854775807) (x0 x1 x2 x3 : Int) (x4 x6 x7 : Bool) (a0 a1 a2 b0 b1 b2 : Int) (hb : -m ≤ b1 ∧ b1 ≤ m) :
    B_law06_VecWithin_0 F rc ex0 ex1 x0 x1 x2 x3 x4 m x6 x7 1 a0 a1 a2 b0 b1 b2 = rc x0 x1 x2 x3 x4 m x6 (x7 && inn a1 m) 2 a0 a1 a2 b0 b1 b2 := by
  unfold B_law06_VecWithin_0
  have e1 : (iv [.v (.int .i64 b0), .v (.int .i64 b1), .v (.int .i64 b2)][0 + Int.toNat 1 * 1]?) = b1 := rfl
  have e2 : (iv [.v (.int .i64 a0), .v (.int .i64 a1), .v (.int .i64 a2)][0 + Int.toNat 1 * 1]?) = a1 := rfl
  have w1 : IntKind.wrap .i64 (1 + 1) = 2 := by decide
  dsimp only
  rw [e1, e2, w_neg hm, w1]
  refine bp rfl (bp rfl (bp rfl (bn (df (by omega)) (bp rfl (bp rfl (bn (df (by omega)) ?_))))))
  unfold inn
  cases x7
  · exact bn rfl rfl
  · refine bp rfl (bp rfl (bp rfl ?_))
    by_cases h : a1 ≤ m
    · refine bp (dt h) (bp rfl (bp rfl ?_))
      rw [dt h]
      rfl
    · refine bn (df h) ?_
      rw [df h]
      rfl
theorem st_Within_2 (F : Nat) (rc ex0 ex1) {m : Int} (hm : 0 ≤ m ∧ m ≤ 9223372036854775807) (x0 x1 x2 x3 : Int) (x4 x6 x7 : Bool) (a0 a1 a2 b0 b1 b2 : Int) (hb : -m ≤ b2 ∧ b2 ≤ m) :
    B_law06_VecWithin_0 F rc ex0 ex1 x0 x1 x2 x3 x4 m x6 x7 2 a0 a1 a2 b0 b1 b2 = rc x0 x1 x2 x3 x4 m x6 (x7 && inn a2 m) 3 a0 a1 a2 b0 b1 b2 := by
  unfold B_law06_VecWithin_0
  have e1 : (iv [.v (.int .i64 b0), .v (.int .i64 b1), .v (.int .i64 b2)][0 + Int.toNat 2 * 1]?) = b2 := rfl
  have e2 : (iv [.v (.int .i64 a0), .v (.int .i64 a1), .v (.int .i64 a2)][0 + Int.toNat 2 * 1]?) = a2 := rfl
  have w1 : IntKind.wrap .i64 (2 + 1) = 3 := by decide
  dsimp only
  rw [e1, e2, w_neg hm, w1]
  refine bp rfl (bp rfl (bp rfl (bn (df (by omega)) (bp rfl (bp rfl (bn (df (by omega)) ?_))))))
  unfold inn
  cases x7
  · exact bn rfl rfl
  · refine bp rfl (bp rfl (bp rfl ?_))
    by_cases h : a2 ≤ m
    · refine bp (dt h) (bp rfl (bp rfl ?_))
      rw [dt h]
      rfl
    · refine bn (df h) ?_
      rw [df h]
      rfl
theorem clm_bd {a m : Int} (hm : 0 ≤ m) : -m ≤ clmV a m ∧ clmV a m ≤ m := by unfold clmV; omega
theorem clm_inn {a m : Int} (hm : 0 ≤ m) : inn a m = !clmC a m ∧ (inn a m = true → clmV a m = a) := by
  unfold inn clmC clmV
  constructor
  · rw [Bool.eq_iff_iff]
    simp only [Bool.and_eq_true, decide_eq_true_eq, Bool.not_eq_true', decide_eq_false_iff_not]
    omega
  · intro h
    simp only [Bool.and_eq_true, decide_eq_true_eq] at h
    omega
theorem f_VecWithin (F : Nat) (hF : 200 ≤ F) {a0 a1 a2 a3 : Int} (h0 : I64 a0) (h1 : I64 a1) (h2 : I64 a2) (h3 : I64 a3) : f_law06_VecWithin F a0 a1 a2 a3 = some (.v (.bool true)) := by
  unfold f_law06_VecWithin
  obtain ⟨w1, w2⟩ := a_works06 F hF
  obtain ⟨r1, r2, r3, r4, r5⟩ := a_vClamp F hF (a0 := a0) (a1 := a1) (a2 := a2) h3
  rw [mx0, r2, r3, r4, r5]
  refine bp w1 (bn (by rw [w2]; rfl) (bp r1 ?_))
  have hm : 0 ≤ max a3 0 ∧ max a3 0 ≤ 9223372036854775807 := by unfold I64 at h3; omega
  generalize max a3 0 = m at *
  obtain ⟨G, hG⟩ : ∃ G, F = G + 4 := ⟨F - 4, by omega⟩
  rw [show L_law06_VecWithin_0 F _ _ F = L_law06_VecWithin_0 F _ _ (G + 4) from congrArg (L_law06_VecWithin_0 F _ _) hG]
  rw [L_law06_VecWithin_0, st_Within_0 F _ _ _ hm _ _ _ _ _ _ _ _ _ _ _ _ _ (clm_bd hm.1), L_law06_VecWithin_0, st_Within_1 F _ _ _ hm _ _ _ _ _ _ _ _ _ _ _ _ _ (clm_bd hm.1), L_law06_VecWithin_0, st_Within_2 F _ _ _ hm _ _ _ _ _ _ _ _ _ _ _ _ _ (clm_bd hm.1), L_law06_VecWithin_0]
  unfold B_law06_VecWithin_0
  refine bn rfl ?_
  obtain ⟨i0, j0⟩ := clm_inn (a := a0) hm.1
  obtain ⟨i1, j1⟩ := clm_inn (a := a1) hm.1
  obtain ⟨i2, j2⟩ := clm_inn (a := a2) hm.1
  refine bp ?_ ?_
  · rw [i0, i1, i2]
    cases clmC a0 m <;> cases clmC a1 m <;> cases clmC a2 m <;> rfl
  · cases hc : (true && inn a0 m && inn a1 m && inn a2 m) with
    | false => exact bp rfl rfl
    | true =>
      refine bn rfl (some_bool ?_)
      simp only [Bool.true_and, Bool.and_eq_true] at hc
      rw [j0 hc.1.1, j1 hc.1.2, j2 hc.2]
      simp
end Go.Xv
namespace Go.Proofs.Ytpnggkefjgpleaa.vecWithin
open Go.ChangeShapes Go.WideShapes Go.ChangeAt Go.RowKit Go.Xv Go.Proofs.Ytpnggkefjgpleaa.base
set_option linter.unusedVariables false
set_option maxRecDepth 100000 in
theorem lifted (os : Os) (started : os.Started) (H : Type) (enc : TypeId × Value → H) :
    ReturnsInHanded {} Try.checked os 10 .any (Rows.vecWithinSpec.pre6 enc Try.prog Try.f10 Rows.vecWithinRow.domain false) (Rows.vecWithinSpec.post enc Try.prog Try.f10 false true false false) := by
  refine returnsInHanded_of_change (C := Try.checked) own started (by kernel_rfl) Try.func10
    (ChangeSpec.witness6 (enc := enc) (C := Try.checked) false ⟨#[], #[.agg #[.int .i64 0, .int .i64 0, .int .i64 0], .int .i64 0], []⟩ 8 (by kernel_rfl) (by kernel_rfl) (by kernel_rfl) (by kernel_rfl)) ?_
  intro W base args ds gs before hval0 hW hcnd _
  have hval : ∀ (j : Nat) t v, Try.f10.params[j]? = some t → args[j]? = some v → Value.okWide Try.prog W .any base t v := hval0
  have hW' := hW
  obtain ⟨p, q, hA0, hV, rfl, hfz, hnd⟩ := hW
  have hA : DataW.TrodAll enc Try.prog W 0 (fun _ => true) true Try.f10.params.toList args.toList ds p := hA0
  rw [Try.params10] at hA hval
  obtain ⟨v0, vs0, d0, ds0, p0, q0, hargs, rfl, rfl, h0, r0⟩ := trodAll_cons hA
  obtain ⟨v1, vs1, d1, ds1, p1, q1, rfl, rfl, rfl, h1, r1⟩ := trodAll_cons r0
  obtain ⟨rfl, rfl, rfl⟩ := trodAll_nil r1
  obtain rfl : args = #[v0, v1] := by cases args; simp_all
  obtain ⟨l0, rfl, f0⟩ := open_flat (ks := [some .i64, some .i64, some .i64]) (by kernel_rfl) (by kernel_rfl) (hval 0 24 v0 rfl rfl) h0
  obtain ⟨a0, l0, rfl, wa0, f0⟩ := fitW_some f0
  obtain ⟨a1, l0, rfl, wa1, f0⟩ := fitW_some f0
  obtain ⟨a2, l0, rfl, wa2, f0⟩ := fitW_some f0
  obtain rfl := fitW_nil f0
  obtain ⟨a3, rfl, wa3⟩ := open_num (k := .i64) (by kernel_rfl) (hval 1 22 v1 rfl rfl) h1
  refine law_contract laidOut (g_law06_VecWithin fuel0) (bt := 4) (by kernel_rfl) (by kernel_rfl) (by kernel_rfl) (by kernel_rfl) rfl hW' ?_
  refine ⟨[.v (.agg #[.int .i64 a0, .int .i64 a1, .int .i64 a2]), .v (.int .i64 a3)], rfl, fun i x hx => ?_, unS_of ?_⟩
  · match i, hx with
    | 0, hx => exact ⟨_, rfl, by cases hx; exact Rel.v _ _⟩
    | 1, hx => exact ⟨_, rfl, by cases hx; exact Rel.v _ _⟩
    | _ + 2, hx => cases hx
  · obtain ⟨y1, y2⟩ := k_law06_VecWithin fuel0 a0 a1 a2 a3 (f_VecWithin fuel0 (by unfold fuel0; omega) (wf_i64 wa0) (wf_i64 wa1) (wf_i64 wa2) (wf_i64 wa3))
    have e : s_law06_VecWithin fuel0 [.v (.agg #[.int .i64 a0, .int .i64 a1, .int .i64 a2]), .v (.int .i64 a3)] = some (ok_law06_VecWithin fuel0 a0 a1 a2 a3, .v (.bool (o_law06_VecWithin_0 fuel0 a0 a1 a2 a3))) := by kernel_rfl
    rw [e, y1, y2]
theorem over : Rows.vecWithinRow.holds Try.pinned (OpenSpec.ofChange Rows.vecWithinSpec) :=
  OpenClaim.holds_of_wide 10 Try.f10 rfl rfl rfl rfl rfl rfl rfl ⟨rfl, rfl, rfl, rfl, rfl⟩ rfl rfl rfl rfl rfl (by kernel_rfl) Try.func10 (joined_of (P := Try.prog) behind enter_ rfl rfl ⟨rfl, rfl⟩ (by kernel_rfl))
    (of_decide_eq_true (by kernel_rfl)) (by unfold Func.isWrapper; first | (rw [if_pos (by decide +kernel)]; kernel_rfl) | (rw [if_neg (by decide +kernel)]; exact ⟨rfl, rfl⟩))
    (fun os started H enc _ => lifted os started H enc)
/-- The statement. -/
theorem proved : Rows.VecWithinSaid := over
#print axioms proved
end Go.Proofs.Ytpnggkefjgpleaa.vecWithin
