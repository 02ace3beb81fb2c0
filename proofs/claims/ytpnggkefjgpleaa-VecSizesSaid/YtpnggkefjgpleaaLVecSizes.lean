/- Length, greatest axis, what is clamped, and the vector of length One are as the document says: the law returns true for every input, and leaves its arguments as they were. -/
import Derived.Test.YtpnggkefjgpleaaB2
import Derived.Test.YtpnggkefjgpleaaProg
import Derived.KernelRfl
namespace Go.Xv
noncomputable abbrev PP := Proofs.Try.prog
end Go.Xv
set_option linter.unusedVariables false
namespace Go.Xv
/- 71 _wide_Add -/
def c_wide_Add : Cfg := ⟨[0, 1, 2, 3, 4, 5, 6, 22], [], [], []⟩
def ti_wide_Add : List TV := [.v (.agg [.int .i64, .int .u64]), .v (.agg [.int .i64, .int .u64])]
def to_wide_Add : TV := .v (.agg [.int .i64, .int .u64])
def S_wide_Add (F : Nat) : FuncId → List VV → Option (Bool × VV) := words []
def W_wide_Add (F : Nat) : List LW := []
def I_wide_Add (F : Nat) : Nat → VS → (Exit → VS → R) → R := tabI c_wide_Add (W_wide_Add F)
def WJ_wide_Add (F : Nat) : List LJ := []
def J_wide_Add (F : Nat) : Nat → Nat → VS → (Exit → VS → R) → R := tabJ (WJ_wide_Add F)
def f_wide_Add (F : Nat) (a0 : Int) (a1 : Int) (a2 : Int) (a3 : Int) : R :=
  let v1341 : Int := (IntKind.wrap .u64 (a1 + a3))
  let v1344 : Int := (IntKind.wrap .u64 (((IntKind.wrap .u64 a0)) + ((IntKind.wrap .u64 a2))))
  bif ((decide (v1341 < a1))) then (
    some (.v (.agg #[.int .i64 ((IntKind.wrap .i64 ((IntKind.wrap .u64 (v1344 + 1))))), .int .u64 v1341])))
  else (
    some (.v (.agg #[.int .i64 ((IntKind.wrap .i64 v1344)), .int .u64 v1341])))
theorem e_wide_Add (F : Nat) (a0 : Int) (a1 : Int) (a2 : Int) (a3 : Int) : funL PP (S_wide_Add F) c_wide_Add (I_wide_Add F) (J_wide_Add F) 71 (fTs ti_wide_Add [.i a0, .i a1, .i a2, .i a3]).1 = f_wide_Add F a0 a1 a2 a3 := by
  have h : ∀ (_ : Unit), funL PP (words []) c_wide_Add (tabI c_wide_Add []) (tabJ []) 71 (fTs ti_wide_Add [.i a0, .i a1, .i a2, .i a3]).1 = (
  let v1341 : Int := (IntKind.wrap .u64 (a1 + a3))
  let v1344 : Int := (IntKind.wrap .u64 (((IntKind.wrap .u64 a0)) + ((IntKind.wrap .u64 a2))))
  bif ((decide (v1341 < a1))) then (
    some (.v (.agg #[.int .i64 ((IntKind.wrap .i64 ((IntKind.wrap .u64 (v1344 + 1))))), .int .u64 v1341])))
  else (
    some (.v (.agg #[.int .i64 ((IntKind.wrap .i64 v1344)), .int .u64 v1341]))) : R) := by
    intros
    kernel_rfl
  exact (h ()).trans (by kernel_rfl)
def ok_wide_Add (F : Nat) (a0 : Int) (a1 : Int) (a2 : Int) (a3 : Int) : Bool := okT to_wide_Add (f_wide_Add F a0 a1 a2 a3)
def o_wide_Add_0 (F : Nat) (a0 : Int) (a1 : Int) (a2 : Int) (a3 : Int) : Int := atI (nth (outT to_wide_Add (f_wide_Add F a0 a1 a2 a3)) 0)
def o_wide_Add_1 (F : Nat) (a0 : Int) (a1 : Int) (a2 : Int) (a3 : Int) : Int := atI (nth (outT to_wide_Add (f_wide_Add F a0 a1 a2 a3)) 1)
theorem k_wide_Add (F : Nat) (a0 : Int) (a1 : Int) (a2 : Int) (a3 : Int) {z0 : Int} {z1 : Int} (h : f_wide_Add F a0 a1 a2 a3 = some (.v (.agg #[.int .i64 z0, .int .u64 z1]))) : ok_wide_Add F a0 a1 a2 a3 = true ∧ o_wide_Add_0 F a0 a1 a2 a3 = z0 ∧ o_wide_Add_1 F a0 a1 a2 a3 = z1 := by
  refine ⟨?_, ?_, ?_⟩
  · unfold ok_wide_Add; rw [h]; kernel_rfl
  · unfold o_wide_Add_0; rw [h]; kernel_rfl
  · unfold o_wide_Add_1; rw [h]; kernel_rfl
def s_wide_Add (F : Nat) : List VV → Option (Bool × VV) := spec ti_wide_Add to_wide_Add (fun q => (ok_wide_Add F (atI (nth q 0)) (atI (nth q 1)) (atI (nth q 2)) (atI (nth q 3)))) (fun q => [.i (o_wide_Add_0 F (atI (nth q 0)) (atI (nth q 1)) (atI (nth q 2)) (atI (nth q 3))), .i (o_wide_Add_1 F (atI (nth q 0)) (atI (nth q 1)) (atI (nth q 2)) (atI (nth q 3)))])
theorem hS_wide_Add (F : Nat) : ∀ f, Good PP f (unS (S_wide_Add F f)) := words_good fun p hp => by
  cases hp
theorem hl_wide_Add (F : Nat) : ∀ p ∈ loopsIn PP 71, LoopOK PP (S_wide_Add F) c_wide_Add F (I_wide_Add F) (J_wide_Add F) p :=
  loops_of [] (by kernel_rfl) all_nil
theorem hj_wide_Add (F : Nat) : ∀ p ∈ joinsIn PP c_wide_Add 71, JoinOK PP (S_wide_Add F) c_wide_Add (I_wide_Add F) (J_wide_Add F) p :=
  joins_of [] (by kernel_rfl) all_nil
theorem g_wide_Add (F : Nat) : Good PP 71 (unS (s_wide_Add F)) :=
  fun_spec (hS_wide_Add F) (by kernel_rfl) (by kernel_rfl) (C := c_wide_Add) (F := fun q => (f_wide_Add F (atI (nth q 0)) (atI (nth q 1)) (atI (nth q 2)) (atI (nth q 3)))) (fun _ => F) (fun _ => I_wide_Add F) (fun _ => J_wide_Add F) (fun _ => hl_wide_Add F) (fun _ => hj_wide_Add F)
    (fun q => (congrArg (funL PP (S_wide_Add F) c_wide_Add (I_wide_Add F) (J_wide_Add F) 71) (show (fTs ti_wide_Add q).1 = (fTs ti_wide_Add [.i (atI (nth q 0)), .i (atI (nth q 1)), .i (atI (nth q 2)), .i (atI (nth q 3))]).1 by kernel_rfl)).trans (e_wide_Add F (atI (nth q 0)) (atI (nth q 1)) (atI (nth q 2)) (atI (nth q 3))))
    (fun _ h => (okT_fill h).trans (congrArg some (by kernel_rfl)))

end Go.Xv
set_option linter.unusedVariables false
namespace Go.Xv
/- 131 _wide_bare -/
def c_wide_bare : Cfg := ⟨[0, 2, 4], [], [], []⟩
def ti_wide_bare : List TV := [.v (.int .i64)]
def to_wide_bare : TV := .v (.int .u64)
def S_wide_bare (F : Nat) : FuncId → List VV → Option (Bool × VV) := words []
def W_wide_bare (F : Nat) : List LW := []
def I_wide_bare (F : Nat) : Nat → VS → (Exit → VS → R) → R := tabI c_wide_bare (W_wide_bare F)
def WJ_wide_bare (F : Nat) : List LJ := []
def J_wide_bare (F : Nat) : Nat → Nat → VS → (Exit → VS → R) → R := tabJ (WJ_wide_bare F)
def f_wide_bare (F : Nat) (a0 : Int) : R :=
  bif ((decide (a0 < 0))) then (
    some (.v (.int .u64 ((IntKind.wrap .u64 (0 - ((IntKind.wrap .u64 a0))))))))
  else (
    some (.v (.int .u64 ((IntKind.wrap .u64 a0)))))
theorem e_wide_bare (F : Nat) (a0 : Int) : funL PP (S_wide_bare F) c_wide_bare (I_wide_bare F) (J_wide_bare F) 131 (fTs ti_wide_bare [.i a0]).1 = f_wide_bare F a0 := by
  have h : ∀ (_ : Unit), funL PP (words []) c_wide_bare (tabI c_wide_bare []) (tabJ []) 131 (fTs ti_wide_bare [.i a0]).1 = (
  bif ((decide (a0 < 0))) then (
    some (.v (.int .u64 ((IntKind.wrap .u64 (0 - ((IntKind.wrap .u64 a0))))))))
  else (
    some (.v (.int .u64 ((IntKind.wrap .u64 a0))))) : R) := by
    intros
    kernel_rfl
  exact (h ()).trans (by kernel_rfl)
def ok_wide_bare (F : Nat) (a0 : Int) : Bool := okT to_wide_bare (f_wide_bare F a0)
def o_wide_bare_0 (F : Nat) (a0 : Int) : Int := atI (nth (outT to_wide_bare (f_wide_bare F a0)) 0)
theorem k_wide_bare (F : Nat) (a0 : Int) {z0 : Int} (h : f_wide_bare F a0 = some (.v (.int .u64 z0))) : ok_wide_bare F a0 = true ∧ o_wide_bare_0 F a0 = z0 := by
  refine ⟨?_, ?_⟩
  · unfold ok_wide_bare; rw [h]; kernel_rfl
  · unfold o_wide_bare_0; rw [h]; kernel_rfl
def s_wide_bare (F : Nat) : List VV → Option (Bool × VV) := spec ti_wide_bare to_wide_bare (fun q => (ok_wide_bare F (atI (nth q 0)))) (fun q => [.i (o_wide_bare_0 F (atI (nth q 0)))])
theorem hS_wide_bare (F : Nat) : ∀ f, Good PP f (unS (S_wide_bare F f)) := words_good fun p hp => by
  cases hp
theorem hl_wide_bare (F : Nat) : ∀ p ∈ loopsIn PP 131, LoopOK PP (S_wide_bare F) c_wide_bare F (I_wide_bare F) (J_wide_bare F) p :=
  loops_of [] (by kernel_rfl) all_nil
theorem hj_wide_bare (F : Nat) : ∀ p ∈ joinsIn PP c_wide_bare 131, JoinOK PP (S_wide_bare F) c_wide_bare (I_wide_bare F) (J_wide_bare F) p :=
  joins_of [] (by kernel_rfl) all_nil
theorem g_wide_bare (F : Nat) : Good PP 131 (unS (s_wide_bare F)) :=
  fun_spec (hS_wide_bare F) (by kernel_rfl) (by kernel_rfl) (C := c_wide_bare) (F := fun q => (f_wide_bare F (atI (nth q 0)))) (fun _ => F) (fun _ => I_wide_bare F) (fun _ => J_wide_bare F) (fun _ => hl_wide_bare F) (fun _ => hj_wide_bare F)
    (fun q => (congrArg (funL PP (S_wide_bare F) c_wide_bare (I_wide_bare F) (J_wide_bare F) 131) (show (fTs ti_wide_bare q).1 = (fTs ti_wide_bare [.i (atI (nth q 0))]).1 by kernel_rfl)).trans (e_wide_bare F (atI (nth q 0))))
    (fun _ h => (okT_fill h).trans (congrArg some (by kernel_rfl)))

end Go.Xv
set_option linter.unusedVariables false
namespace Go.Xv
/- 98 _wide_Neg -/
def c_wide_Neg : Cfg := ⟨[0, 1, 2], [], [], []⟩
def ti_wide_Neg : List TV := [.v (.agg [.int .i64, .int .u64])]
def to_wide_Neg : TV := .v (.agg [.int .i64, .int .u64])
def S_wide_Neg (F : Nat) : FuncId → List VV → Option (Bool × VV) := words [(71, s_wide_Add F)]
def W_wide_Neg (F : Nat) : List LW := []
def I_wide_Neg (F : Nat) : Nat → VS → (Exit → VS → R) → R := tabI c_wide_Neg (W_wide_Neg F)
def WJ_wide_Neg (F : Nat) : List LJ := []
def J_wide_Neg (F : Nat) : Nat → Nat → VS → (Exit → VS → R) → R := tabJ (WJ_wide_Neg F)
def f_wide_Neg (F : Nat) (a0 : Int) (a1 : Int) : R :=
  let v1661 : Int := (xorI .i64 (-1) a0)
  let v1662 : Int := (xorI .u64 18446744073709551615 a1)
  bif (ok_wide_Add F v1661 v1662 0 1) then (
    some (.v (.agg #[.int .i64 ((o_wide_Add_0 F v1661 v1662 0 1)), .int .u64 ((o_wide_Add_1 F v1661 v1662 0 1))])))
  else (
    none)
theorem e_wide_Neg (F : Nat) (a0 : Int) (a1 : Int) : funL PP (S_wide_Neg F) c_wide_Neg (I_wide_Neg F) (J_wide_Neg F) 98 (fTs ti_wide_Neg [.i a0, .i a1]).1 = f_wide_Neg F a0 a1 := by
  have h : ∀ (ok_wide_Add : Nat → Int → Int → Int → Int → Bool) (o_wide_Add_0 : Nat → Int → Int → Int → Int → Int) (o_wide_Add_1 : Nat → Int → Int → Int → Int → Int), funL PP (words [(71, spec ti_wide_Add to_wide_Add (fun q => (ok_wide_Add F (atI (nth q 0)) (atI (nth q 1)) (atI (nth q 2)) (atI (nth q 3)))) (fun q => [.i (o_wide_Add_0 F (atI (nth q 0)) (atI (nth q 1)) (atI (nth q 2)) (atI (nth q 3))), .i (o_wide_Add_1 F (atI (nth q 0)) (atI (nth q 1)) (atI (nth q 2)) (atI (nth q 3)))]))]) c_wide_Neg (tabI c_wide_Neg []) (tabJ []) 98 (fTs ti_wide_Neg [.i a0, .i a1]).1 = (
  let v1661 : Int := (xorI .i64 (-1) a0)
  let v1662 : Int := (xorI .u64 18446744073709551615 a1)
  bif (ok_wide_Add F v1661 v1662 0 1) then (
    some (.v (.agg #[.int .i64 ((o_wide_Add_0 F v1661 v1662 0 1)), .int .u64 ((o_wide_Add_1 F v1661 v1662 0 1))])))
  else (
    none) : R) := by
    intros
    kernel_rfl
  exact (h ok_wide_Add o_wide_Add_0 o_wide_Add_1).trans (by kernel_rfl)
def ok_wide_Neg (F : Nat) (a0 : Int) (a1 : Int) : Bool := okT to_wide_Neg (f_wide_Neg F a0 a1)
def o_wide_Neg_0 (F : Nat) (a0 : Int) (a1 : Int) : Int := atI (nth (outT to_wide_Neg (f_wide_Neg F a0 a1)) 0)
def o_wide_Neg_1 (F : Nat) (a0 : Int) (a1 : Int) : Int := atI (nth (outT to_wide_Neg (f_wide_Neg F a0 a1)) 1)
theorem k_wide_Neg (F : Nat) (a0 : Int) (a1 : Int) {z0 : Int} {z1 : Int} (h : f_wide_Neg F a0 a1 = some (.v (.agg #[.int .i64 z0, .int .u64 z1]))) : ok_wide_Neg F a0 a1 = true ∧ o_wide_Neg_0 F a0 a1 = z0 ∧ o_wide_Neg_1 F a0 a1 = z1 := by
  refine ⟨?_, ?_, ?_⟩
  · unfold ok_wide_Neg; rw [h]; kernel_rfl
  · unfold o_wide_Neg_0; rw [h]; kernel_rfl
  · unfold o_wide_Neg_1; rw [h]; kernel_rfl
def s_wide_Neg (F : Nat) : List VV → Option (Bool × VV) := spec ti_wide_Neg to_wide_Neg (fun q => (ok_wide_Neg F (atI (nth q 0)) (atI (nth q 1)))) (fun q => [.i (o_wide_Neg_0 F (atI (nth q 0)) (atI (nth q 1))), .i (o_wide_Neg_1 F (atI (nth q 0)) (atI (nth q 1)))])
theorem hS_wide_Neg (F : Nat) : ∀ f, Good PP f (unS (S_wide_Neg F f)) := words_good fun p hp => by
  simp only [List.mem_cons, List.not_mem_nil, or_false] at hp
  rcases hp with rfl
  · exact g_wide_Add F
theorem hl_wide_Neg (F : Nat) : ∀ p ∈ loopsIn PP 98, LoopOK PP (S_wide_Neg F) c_wide_Neg F (I_wide_Neg F) (J_wide_Neg F) p :=
  loops_of [] (by kernel_rfl) all_nil
theorem hj_wide_Neg (F : Nat) : ∀ p ∈ joinsIn PP c_wide_Neg 98, JoinOK PP (S_wide_Neg F) c_wide_Neg (I_wide_Neg F) (J_wide_Neg F) p :=
  joins_of [] (by kernel_rfl) all_nil
theorem g_wide_Neg (F : Nat) : Good PP 98 (unS (s_wide_Neg F)) :=
  fun_spec (hS_wide_Neg F) (by kernel_rfl) (by kernel_rfl) (C := c_wide_Neg) (F := fun q => (f_wide_Neg F (atI (nth q 0)) (atI (nth q 1)))) (fun _ => F) (fun _ => I_wide_Neg F) (fun _ => J_wide_Neg F) (fun _ => hl_wide_Neg F) (fun _ => hj_wide_Neg F)
    (fun q => (congrArg (funL PP (S_wide_Neg F) c_wide_Neg (I_wide_Neg F) (J_wide_Neg F) 98) (show (fTs ti_wide_Neg q).1 = (fTs ti_wide_Neg [.i (atI (nth q 0)), .i (atI (nth q 1))]).1 by kernel_rfl)).trans (e_wide_Neg F (atI (nth q 0)) (atI (nth q 1))))
    (fun _ h => (okT_fill h).trans (congrArg some (by kernel_rfl)))

end Go.Xv
set_option linter.unusedVariables false
namespace Go.Xv
/- 35 _ref01_Of -/
def c_ref01_Of : Cfg := ⟨[0, 2, 4], [], [], []⟩
def ti_ref01_Of : List TV := [.v (.int .i64)]
def to_ref01_Of : TV := .v (.agg [.int .i64, .int .u64])
def S_ref01_Of (F : Nat) : FuncId → List VV → Option (Bool × VV) := words []
def W_ref01_Of (F : Nat) : List LW := []
def I_ref01_Of (F : Nat) : Nat → VS → (Exit → VS → R) → R := tabI c_ref01_Of (W_ref01_Of F)
def WJ_ref01_Of (F : Nat) : List LJ := []
def J_ref01_Of (F : Nat) : Nat → Nat → VS → (Exit → VS → R) → R := tabJ (WJ_ref01_Of F)
def f_ref01_Of (F : Nat) (a0 : Int) : R :=
  bif ((decide (a0 < 0))) then (
    some (.v (.agg #[.int .i64 (-1), .int .u64 ((IntKind.wrap .u64 a0))])))
  else (
    some (.v (.agg #[.int .i64 0, .int .u64 ((IntKind.wrap .u64 a0))])))
theorem e_ref01_Of (F : Nat) (a0 : Int) : funL PP (S_ref01_Of F) c_ref01_Of (I_ref01_Of F) (J_ref01_Of F) 35 (fTs ti_ref01_Of [.i a0]).1 = f_ref01_Of F a0 := by
  have h : ∀ (_ : Unit), funL PP (words []) c_ref01_Of (tabI c_ref01_Of []) (tabJ []) 35 (fTs ti_ref01_Of [.i a0]).1 = (
  bif ((decide (a0 < 0))) then (
    some (.v (.agg #[.int .i64 (-1), .int .u64 ((IntKind.wrap .u64 a0))])))
  else (
    some (.v (.agg #[.int .i64 0, .int .u64 ((IntKind.wrap .u64 a0))]))) : R) := by
    intros
    kernel_rfl
  exact (h ()).trans (by kernel_rfl)
def ok_ref01_Of (F : Nat) (a0 : Int) : Bool := okT to_ref01_Of (f_ref01_Of F a0)
def o_ref01_Of_0 (F : Nat) (a0 : Int) : Int := atI (nth (outT to_ref01_Of (f_ref01_Of F a0)) 0)
def o_ref01_Of_1 (F : Nat) (a0 : Int) : Int := atI (nth (outT to_ref01_Of (f_ref01_Of F a0)) 1)
theorem k_ref01_Of (F : Nat) (a0 : Int) {z0 : Int} {z1 : Int} (h : f_ref01_Of F a0 = some (.v (.agg #[.int .i64 z0, .int .u64 z1]))) : ok_ref01_Of F a0 = true ∧ o_ref01_Of_0 F a0 = z0 ∧ o_ref01_Of_1 F a0 = z1 := by
  refine ⟨?_, ?_, ?_⟩
  · unfold ok_ref01_Of; rw [h]; kernel_rfl
  · unfold o_ref01_Of_0; rw [h]; kernel_rfl
  · unfold o_ref01_Of_1; rw [h]; kernel_rfl
def s_ref01_Of (F : Nat) : List VV → Option (Bool × VV) := spec ti_ref01_Of to_ref01_Of (fun q => (ok_ref01_Of F (atI (nth q 0)))) (fun q => [.i (o_ref01_Of_0 F (atI (nth q 0))), .i (o_ref01_Of_1 F (atI (nth q 0)))])
theorem hS_ref01_Of (F : Nat) : ∀ f, Good PP f (unS (S_ref01_Of F f)) := words_good fun p hp => by
  cases hp
theorem hl_ref01_Of (F : Nat) : ∀ p ∈ loopsIn PP 35, LoopOK PP (S_ref01_Of F) c_ref01_Of F (I_ref01_Of F) (J_ref01_Of F) p :=
  loops_of [] (by kernel_rfl) all_nil
theorem hj_ref01_Of (F : Nat) : ∀ p ∈ joinsIn PP c_ref01_Of 35, JoinOK PP (S_ref01_Of F) c_ref01_Of (I_ref01_Of F) (J_ref01_Of F) p :=
  joins_of [] (by kernel_rfl) all_nil
theorem g_ref01_Of (F : Nat) : Good PP 35 (unS (s_ref01_Of F)) :=
  fun_spec (hS_ref01_Of F) (by kernel_rfl) (by kernel_rfl) (C := c_ref01_Of) (F := fun q => (f_ref01_Of F (atI (nth q 0)))) (fun _ => F) (fun _ => I_ref01_Of F) (fun _ => J_ref01_Of F) (fun _ => hl_ref01_Of F) (fun _ => hj_ref01_Of F)
    (fun q => (congrArg (funL PP (S_ref01_Of F) c_ref01_Of (I_ref01_Of F) (J_ref01_Of F) 35) (show (fTs ti_ref01_Of q).1 = (fTs ti_ref01_Of [.i (atI (nth q 0))]).1 by kernel_rfl)).trans (e_ref01_Of F (atI (nth q 0))))
    (fun _ h => (okT_fill h).trans (congrArg some (by kernel_rfl)))

end Go.Xv
set_option linter.unusedVariables false
namespace Go.Xv
/- 111 _wide_Left -/
def c_wide_Left : Cfg := ⟨[0, 1, 2, 4, 7, 11], [], [], []⟩
def ti_wide_Left : List TV := [.v (.agg [.int .i64, .int .u64]), .v (.int .i64)]
def to_wide_Left : TV := .v (.agg [.int .i64, .int .u64])
def S_wide_Left (F : Nat) : FuncId → List VV → Option (Bool × VV) := words []
def W_wide_Left (F : Nat) : List LW := []
def I_wide_Left (F : Nat) : Nat → VS → (Exit → VS → R) → R := tabI c_wide_Left (W_wide_Left F)
def WJ_wide_Left (F : Nat) : List LJ := []
def J_wide_Left (F : Nat) : Nat → Nat → VS → (Exit → VS → R) → R := tabJ (WJ_wide_Left F)
def f_wide_Left (F : Nat) (a0 : Int) (a1 : Int) (a2 : Int) : R :=
  let v1326 : Int := (if 0 > a2 then 0 else a2)
  bif ((decide (v1326 ≥ 128))) then (
    some (.v (.agg #[.int .i64 0, .int .u64 0])))
  else (
    bif ((decide (v1326 ≥ 64))) then (
      let v1329 : Int := (IntKind.wrap .i64 (v1326 - 64))
      bif (!(decide (v1329 < 0))) then (
        some (.v (.agg #[.int .i64 ((IntKind.wrap .i64 ((IntKind.wrap .u64 (a1 * 2 ^ (min (Int.toNat v1329) 64)))))), .int .u64 0])))
      else (
        none))
    else (
      bif (!(decide (v1326 < 0))) then (
        let v1334 : Int := (IntKind.wrap .i64 (64 - v1326))
        bif (!(decide (v1334 < 0))) then (
          bif (!(decide (v1326 < 0))) then (
            some (.v (.agg #[.int .i64 ((IntKind.wrap .i64 ((orI .u64 ((IntKind.wrap .u64 (((IntKind.wrap .u64 a0)) * 2 ^ (min (Int.toNat v1326) 64)))) ((Int.fdiv a1 (2 ^ (min (Int.toNat v1334) 64)))))))), .int .u64 ((IntKind.wrap .u64 (a1 * 2 ^ (min (Int.toNat v1326) 64))))])))
          else (
            none))
        else (
          none))
      else (
        none)))
theorem e_wide_Left (F : Nat) (a0 : Int) (a1 : Int) (a2 : Int) : funL PP (S_wide_Left F) c_wide_Left (I_wide_Left F) (J_wide_Left F) 111 (fTs ti_wide_Left [.i a0, .i a1, .i a2]).1 = f_wide_Left F a0 a1 a2 := by
  have h : ∀ (_ : Unit), funL PP (words []) c_wide_Left (tabI c_wide_Left []) (tabJ []) 111 (fTs ti_wide_Left [.i a0, .i a1, .i a2]).1 = (
  let v1326 : Int := (if 0 > a2 then 0 else a2)
  bif ((decide (v1326 ≥ 128))) then (
    some (.v (.agg #[.int .i64 0, .int .u64 0])))
  else (
    bif ((decide (v1326 ≥ 64))) then (
      let v1329 : Int := (IntKind.wrap .i64 (v1326 - 64))
      bif (!(decide (v1329 < 0))) then (
        some (.v (.agg #[.int .i64 ((IntKind.wrap .i64 ((IntKind.wrap .u64 (a1 * 2 ^ (min (Int.toNat v1329) 64)))))), .int .u64 0])))
      else (
        none))
    else (
      bif (!(decide (v1326 < 0))) then (
        let v1334 : Int := (IntKind.wrap .i64 (64 - v1326))
        bif (!(decide (v1334 < 0))) then (
          bif (!(decide (v1326 < 0))) then (
            some (.v (.agg #[.int .i64 ((IntKind.wrap .i64 ((orI .u64 ((IntKind.wrap .u64 (((IntKind.wrap .u64 a0)) * 2 ^ (min (Int.toNat v1326) 64)))) ((Int.fdiv a1 (2 ^ (min (Int.toNat v1334) 64)))))))), .int .u64 ((IntKind.wrap .u64 (a1 * 2 ^ (min (Int.toNat v1326) 64))))])))
          else (
            none))
        else (
          none))
      else (
        none))) : R) := by
    intros
    kernel_rfl
  exact (h ()).trans (by kernel_rfl)
def ok_wide_Left (F : Nat) (a0 : Int) (a1 : Int) (a2 : Int) : Bool := okT to_wide_Left (f_wide_Left F a0 a1 a2)
def o_wide_Left_0 (F : Nat) (a0 : Int) (a1 : Int) (a2 : Int) : Int := atI (nth (outT to_wide_Left (f_wide_Left F a0 a1 a2)) 0)
def o_wide_Left_1 (F : Nat) (a0 : Int) (a1 : Int) (a2 : Int) : Int := atI (nth (outT to_wide_Left (f_wide_Left F a0 a1 a2)) 1)
theorem k_wide_Left (F : Nat) (a0 : Int) (a1 : Int) (a2 : Int) {z0 : Int} {z1 : Int} (h : f_wide_Left F a0 a1 a2 = some (.v (.agg #[.int .i64 z0, .int .u64 z1]))) : ok_wide_Left F a0 a1 a2 = true ∧ o_wide_Left_0 F a0 a1 a2 = z0 ∧ o_wide_Left_1 F a0 a1 a2 = z1 := by
  refine ⟨?_, ?_, ?_⟩
  · unfold ok_wide_Left; rw [h]; kernel_rfl
  · unfold o_wide_Left_0; rw [h]; kernel_rfl
  · unfold o_wide_Left_1; rw [h]; kernel_rfl
def s_wide_Left (F : Nat) : List VV → Option (Bool × VV) := spec ti_wide_Left to_wide_Left (fun q => (ok_wide_Left F (atI (nth q 0)) (atI (nth q 1)) (atI (nth q 2)))) (fun q => [.i (o_wide_Left_0 F (atI (nth q 0)) (atI (nth q 1)) (atI (nth q 2))), .i (o_wide_Left_1 F (atI (nth q 0)) (atI (nth q 1)) (atI (nth q 2)))])
theorem hS_wide_Left (F : Nat) : ∀ f, Good PP f (unS (S_wide_Left F f)) := words_good fun p hp => by
  cases hp
theorem hl_wide_Left (F : Nat) : ∀ p ∈ loopsIn PP 111, LoopOK PP (S_wide_Left F) c_wide_Left F (I_wide_Left F) (J_wide_Left F) p :=
  loops_of [] (by kernel_rfl) all_nil
theorem hj_wide_Left (F : Nat) : ∀ p ∈ joinsIn PP c_wide_Left 111, JoinOK PP (S_wide_Left F) c_wide_Left (I_wide_Left F) (J_wide_Left F) p :=
  joins_of [] (by kernel_rfl) all_nil
theorem g_wide_Left (F : Nat) : Good PP 111 (unS (s_wide_Left F)) :=
  fun_spec (hS_wide_Left F) (by kernel_rfl) (by kernel_rfl) (C := c_wide_Left) (F := fun q => (f_wide_Left F (atI (nth q 0)) (atI (nth q 1)) (atI (nth q 2)))) (fun _ => F) (fun _ => I_wide_Left F) (fun _ => J_wide_Left F) (fun _ => hl_wide_Left F) (fun _ => hj_wide_Left F)
    (fun q => (congrArg (funL PP (S_wide_Left F) c_wide_Left (I_wide_Left F) (J_wide_Left F) 111) (show (fTs ti_wide_Left q).1 = (fTs ti_wide_Left [.i (atI (nth q 0)), .i (atI (nth q 1)), .i (atI (nth q 2))]).1 by kernel_rfl)).trans (e_wide_Left F (atI (nth q 0)) (atI (nth q 1)) (atI (nth q 2))))
    (fun _ h => (okT_fill h).trans (congrArg some (by kernel_rfl)))

end Go.Xv
set_option linter.unusedVariables false
namespace Go.Xv
/- 112 _wide_Less -/
def c_wide_Less : Cfg := ⟨[0, 1, 2, 3, 4, 9], [], [], []⟩
def ti_wide_Less : List TV := [.v (.agg [.int .i64, .int .u64]), .v (.agg [.int .i64, .int .u64])]
def to_wide_Less : TV := .v (.bool)
def S_wide_Less (F : Nat) : FuncId → List VV → Option (Bool × VV) := words []
def W_wide_Less (F : Nat) : List LW := []
def I_wide_Less (F : Nat) : Nat → VS → (Exit → VS → R) → R := tabI c_wide_Less (W_wide_Less F)
def WJ_wide_Less (F : Nat) : List LJ := []
def J_wide_Less (F : Nat) : Nat → Nat → VS → (Exit → VS → R) → R := tabJ (WJ_wide_Less F)
def f_wide_Less (F : Nat) (a0 : Int) (a1 : Int) (a2 : Int) (a3 : Int) : R :=
  bif ((a0 != a2)) then (
    some (.v (.bool ((decide (a0 < a2))))))
  else (
    some (.v (.bool ((decide (a1 < a3))))))
theorem e_wide_Less (F : Nat) (a0 : Int) (a1 : Int) (a2 : Int) (a3 : Int) : funL PP (S_wide_Less F) c_wide_Less (I_wide_Less F) (J_wide_Less F) 112 (fTs ti_wide_Less [.i a0, .i a1, .i a2, .i a3]).1 = f_wide_Less F a0 a1 a2 a3 := by
  have h : ∀ (_ : Unit), funL PP (words []) c_wide_Less (tabI c_wide_Less []) (tabJ []) 112 (fTs ti_wide_Less [.i a0, .i a1, .i a2, .i a3]).1 = (
  bif ((a0 != a2)) then (
    some (.v (.bool ((decide (a0 < a2))))))
  else (
    some (.v (.bool ((decide (a1 < a3)))))) : R) := by
    intros
    kernel_rfl
  exact (h ()).trans (by kernel_rfl)
def ok_wide_Less (F : Nat) (a0 : Int) (a1 : Int) (a2 : Int) (a3 : Int) : Bool := okT to_wide_Less (f_wide_Less F a0 a1 a2 a3)
def o_wide_Less_0 (F : Nat) (a0 : Int) (a1 : Int) (a2 : Int) (a3 : Int) : Bool := atB (nth (outT to_wide_Less (f_wide_Less F a0 a1 a2 a3)) 0)
theorem k_wide_Less (F : Nat) (a0 : Int) (a1 : Int) (a2 : Int) (a3 : Int) {z0 : Bool} (h : f_wide_Less F a0 a1 a2 a3 = some (.v (.bool z0))) : ok_wide_Less F a0 a1 a2 a3 = true ∧ o_wide_Less_0 F a0 a1 a2 a3 = z0 := by
  refine ⟨?_, ?_⟩
  · unfold ok_wide_Less; rw [h]; kernel_rfl
  · unfold o_wide_Less_0; rw [h]; kernel_rfl
def s_wide_Less (F : Nat) : List VV → Option (Bool × VV) := spec ti_wide_Less to_wide_Less (fun q => (ok_wide_Less F (atI (nth q 0)) (atI (nth q 1)) (atI (nth q 2)) (atI (nth q 3)))) (fun q => [.b (o_wide_Less_0 F (atI (nth q 0)) (atI (nth q 1)) (atI (nth q 2)) (atI (nth q 3)))])
theorem hS_wide_Less (F : Nat) : ∀ f, Good PP f (unS (S_wide_Less F f)) := words_good fun p hp => by
  cases hp
theorem hl_wide_Less (F : Nat) : ∀ p ∈ loopsIn PP 112, LoopOK PP (S_wide_Less F) c_wide_Less F (I_wide_Less F) (J_wide_Less F) p :=
  loops_of [] (by kernel_rfl) all_nil
theorem hj_wide_Less (F : Nat) : ∀ p ∈ joinsIn PP c_wide_Less 112, JoinOK PP (S_wide_Less F) c_wide_Less (I_wide_Less F) (J_wide_Less F) p :=
  joins_of [] (by kernel_rfl) all_nil
theorem g_wide_Less (F : Nat) : Good PP 112 (unS (s_wide_Less F)) :=
  fun_spec (hS_wide_Less F) (by kernel_rfl) (by kernel_rfl) (C := c_wide_Less) (F := fun q => (f_wide_Less F (atI (nth q 0)) (atI (nth q 1)) (atI (nth q 2)) (atI (nth q 3)))) (fun _ => F) (fun _ => I_wide_Less F) (fun _ => J_wide_Less F) (fun _ => hl_wide_Less F) (fun _ => hj_wide_Less F)
    (fun q => (congrArg (funL PP (S_wide_Less F) c_wide_Less (I_wide_Less F) (J_wide_Less F) 112) (show (fTs ti_wide_Less q).1 = (fTs ti_wide_Less [.i (atI (nth q 0)), .i (atI (nth q 1)), .i (atI (nth q 2)), .i (atI (nth q 3))]).1 by kernel_rfl)).trans (e_wide_Less F (atI (nth q 0)) (atI (nth q 1)) (atI (nth q 2)) (atI (nth q 3))))
    (fun _ h => (okT_fill h).trans (congrArg some (by kernel_rfl)))

end Go.Xv
set_option linter.unusedVariables false
namespace Go.Xv
/- 132 _wide_Of -/
def c_wide_Of : Cfg := ⟨[0, 2], [], [], []⟩
def ti_wide_Of : List TV := [.v (.int .i64)]
def to_wide_Of : TV := .v (.agg [.int .i64, .int .u64])
def S_wide_Of (F : Nat) : FuncId → List VV → Option (Bool × VV) := words []
def W_wide_Of (F : Nat) : List LW := []
def I_wide_Of (F : Nat) : Nat → VS → (Exit → VS → R) → R := tabI c_wide_Of (W_wide_Of F)
def WJ_wide_Of (F : Nat) : List LJ := []
def J_wide_Of (F : Nat) : Nat → Nat → VS → (Exit → VS → R) → R := tabJ (WJ_wide_Of F)
def f_wide_Of (F : Nat) (a0 : Int) : R :=
  some (.v (.agg #[.int .i64 ((Int.fdiv a0 (9223372036854775808))), .int .u64 ((IntKind.wrap .u64 a0))]))
theorem e_wide_Of (F : Nat) (a0 : Int) : funL PP (S_wide_Of F) c_wide_Of (I_wide_Of F) (J_wide_Of F) 132 (fTs ti_wide_Of [.i a0]).1 = f_wide_Of F a0 := by
  have h : ∀ (_ : Unit), funL PP (words []) c_wide_Of (tabI c_wide_Of []) (tabJ []) 132 (fTs ti_wide_Of [.i a0]).1 = (
  some (.v (.agg #[.int .i64 ((Int.fdiv a0 (9223372036854775808))), .int .u64 ((IntKind.wrap .u64 a0))])) : R) := by
    intros
    kernel_rfl
  exact (h ()).trans (by kernel_rfl)
def ok_wide_Of (F : Nat) (a0 : Int) : Bool := okT to_wide_Of (f_wide_Of F a0)
def o_wide_Of_0 (F : Nat) (a0 : Int) : Int := atI (nth (outT to_wide_Of (f_wide_Of F a0)) 0)
def o_wide_Of_1 (F : Nat) (a0 : Int) : Int := atI (nth (outT to_wide_Of (f_wide_Of F a0)) 1)
theorem k_wide_Of (F : Nat) (a0 : Int) {z0 : Int} {z1 : Int} (h : f_wide_Of F a0 = some (.v (.agg #[.int .i64 z0, .int .u64 z1]))) : ok_wide_Of F a0 = true ∧ o_wide_Of_0 F a0 = z0 ∧ o_wide_Of_1 F a0 = z1 := by
  refine ⟨?_, ?_, ?_⟩
  · unfold ok_wide_Of; rw [h]; kernel_rfl
  · unfold o_wide_Of_0; rw [h]; kernel_rfl
  · unfold o_wide_Of_1; rw [h]; kernel_rfl
def s_wide_Of (F : Nat) : List VV → Option (Bool × VV) := spec ti_wide_Of to_wide_Of (fun q => (ok_wide_Of F (atI (nth q 0)))) (fun q => [.i (o_wide_Of_0 F (atI (nth q 0))), .i (o_wide_Of_1 F (atI (nth q 0)))])
theorem hS_wide_Of (F : Nat) : ∀ f, Good PP f (unS (S_wide_Of F f)) := words_good fun p hp => by
  cases hp
theorem hl_wide_Of (F : Nat) : ∀ p ∈ loopsIn PP 132, LoopOK PP (S_wide_Of F) c_wide_Of F (I_wide_Of F) (J_wide_Of F) p :=
  loops_of [] (by kernel_rfl) all_nil
theorem hj_wide_Of (F : Nat) : ∀ p ∈ joinsIn PP c_wide_Of 132, JoinOK PP (S_wide_Of F) c_wide_Of (I_wide_Of F) (J_wide_Of F) p :=
  joins_of [] (by kernel_rfl) all_nil
theorem g_wide_Of (F : Nat) : Good PP 132 (unS (s_wide_Of F)) :=
  fun_spec (hS_wide_Of F) (by kernel_rfl) (by kernel_rfl) (C := c_wide_Of) (F := fun q => (f_wide_Of F (atI (nth q 0)))) (fun _ => F) (fun _ => I_wide_Of F) (fun _ => J_wide_Of F) (fun _ => hl_wide_Of F) (fun _ => hj_wide_Of F)
    (fun q => (congrArg (funL PP (S_wide_Of F) c_wide_Of (I_wide_Of F) (J_wide_Of F) 132) (show (fTs ti_wide_Of q).1 = (fTs ti_wide_Of [.i (atI (nth q 0))]).1 by kernel_rfl)).trans (e_wide_Of F (atI (nth q 0))))
    (fun _ h => (okT_fill h).trans (congrArg some (by kernel_rfl)))

end Go.Xv
set_option linter.unusedVariables false
namespace Go.Xv
/- 74 _wide_Sign -/
def c_wide_Sign : Cfg := ⟨[0, 1, 2, 3, 7], [], [], []⟩
def ti_wide_Sign : List TV := [.v (.agg [.int .i64, .int .u64])]
def to_wide_Sign : TV := .v (.int .i64)
def S_wide_Sign (F : Nat) : FuncId → List VV → Option (Bool × VV) := words []
def W_wide_Sign (F : Nat) : List LW := []
def I_wide_Sign (F : Nat) : Nat → VS → (Exit → VS → R) → R := tabI c_wide_Sign (W_wide_Sign F)
def WJ_wide_Sign (F : Nat) : List LJ := []
def J_wide_Sign (F : Nat) : Nat → Nat → VS → (Exit → VS → R) → R := tabJ (WJ_wide_Sign F)
def f_wide_Sign (F : Nat) (a0 : Int) (a1 : Int) : R :=
  bif ((decide (a0 < 0))) then (
    some (.v (.int .i64 (-1))))
  else (
    bif (((a0 == 0) && (a1 == 0))) then (
      some (.v (.int .i64 0)))
    else (
      some (.v (.int .i64 1))))
theorem e_wide_Sign (F : Nat) (a0 : Int) (a1 : Int) : funL PP (S_wide_Sign F) c_wide_Sign (I_wide_Sign F) (J_wide_Sign F) 74 (fTs ti_wide_Sign [.i a0, .i a1]).1 = f_wide_Sign F a0 a1 := by
  have h : ∀ (_ : Unit), funL PP (words []) c_wide_Sign (tabI c_wide_Sign []) (tabJ []) 74 (fTs ti_wide_Sign [.i a0, .i a1]).1 = (
  bif ((decide (a0 < 0))) then (
    some (.v (.int .i64 (-1))))
  else (
    bif (((a0 == 0) && (a1 == 0))) then (
      some (.v (.int .i64 0)))
    else (
      some (.v (.int .i64 1)))) : R) := by
    intros
    kernel_rfl
  exact (h ()).trans (by kernel_rfl)
def ok_wide_Sign (F : Nat) (a0 : Int) (a1 : Int) : Bool := okT to_wide_Sign (f_wide_Sign F a0 a1)
def o_wide_Sign_0 (F : Nat) (a0 : Int) (a1 : Int) : Int := atI (nth (outT to_wide_Sign (f_wide_Sign F a0 a1)) 0)
theorem k_wide_Sign (F : Nat) (a0 : Int) (a1 : Int) {z0 : Int} (h : f_wide_Sign F a0 a1 = some (.v (.int .i64 z0))) : ok_wide_Sign F a0 a1 = true ∧ o_wide_Sign_0 F a0 a1 = z0 := by
  refine ⟨?_, ?_⟩
  · unfold ok_wide_Sign; rw [h]; kernel_rfl
  · unfold o_wide_Sign_0; rw [h]; kernel_rfl
def s_wide_Sign (F : Nat) : List VV → Option (Bool × VV) := spec ti_wide_Sign to_wide_Sign (fun q => (ok_wide_Sign F (atI (nth q 0)) (atI (nth q 1)))) (fun q => [.i (o_wide_Sign_0 F (atI (nth q 0)) (atI (nth q 1)))])
theorem hS_wide_Sign (F : Nat) : ∀ f, Good PP f (unS (S_wide_Sign F f)) := words_good fun p hp => by
  cases hp
theorem hl_wide_Sign (F : Nat) : ∀ p ∈ loopsIn PP 74, LoopOK PP (S_wide_Sign F) c_wide_Sign F (I_wide_Sign F) (J_wide_Sign F) p :=
  loops_of [] (by kernel_rfl) all_nil
theorem hj_wide_Sign (F : Nat) : ∀ p ∈ joinsIn PP c_wide_Sign 74, JoinOK PP (S_wide_Sign F) c_wide_Sign (I_wide_Sign F) (J_wide_Sign F) p :=
  joins_of [] (by kernel_rfl) all_nil
theorem g_wide_Sign (F : Nat) : Good PP 74 (unS (s_wide_Sign F)) :=
  fun_spec (hS_wide_Sign F) (by kernel_rfl) (by kernel_rfl) (C := c_wide_Sign) (F := fun q => (f_wide_Sign F (atI (nth q 0)) (atI (nth q 1)))) (fun _ => F) (fun _ => I_wide_Sign F) (fun _ => J_wide_Sign F) (fun _ => hl_wide_Sign F) (fun _ => hj_wide_Sign F)
    (fun q => (congrArg (funL PP (S_wide_Sign F) c_wide_Sign (I_wide_Sign F) (J_wide_Sign F) 74) (show (fTs ti_wide_Sign q).1 = (fTs ti_wide_Sign [.i (atI (nth q 0)), .i (atI (nth q 1))]).1 by kernel_rfl)).trans (e_wide_Sign F (atI (nth q 0)) (atI (nth q 1))))
    (fun _ h => (okT_fill h).trans (congrArg some (by kernel_rfl)))

end Go.Xv
set_option linter.unusedVariables false
namespace Go.Xv
/- 86 _ref01_Digits -/
def c_ref01_Digits : Cfg := ⟨[0, 1, 2, 3, 4, 5, 6, 7, 12, 27], [(0, [0, 1, 2, 3, 4, 5, 6, 7, 8, 9, 10, 23, 24, 25, 26, 27, 28, 29, 30, 31, 32, 33, 34, 35, 36, 37, 38]), (2, [0, 1, 2, 3, 4, 5, 6, 7, 8, 9, 10, 11, 12, 13, 14, 15, 16, 17, 18, 19, 20, 21, 22, 23, 24, 25, 38])], [19, 34], []⟩
def ti_ref01_Digits : List TV := [.v (.agg [.int .i64, .int .u64])]
def to_ref01_Digits : TV := .fs (.lit 0) .hole 1
def S_ref01_Digits (F : Nat) : FuncId → List VV → Option (Bool × VV) := words []
def T_ref01_Digits_0 : TS := ⟨[(0, .v (.agg [.int .i64, .int .u64])), (1, .lp 0 (.lit 0)), (2, .v (.nils)), (3, .ls 1 (.lit 0) .hole 1), (4, .v (.int .u64)), (5, .v (.int .i64))], [(0, ⟨(.ex [.v (.int .i64), .v (.int .u64)]), true⟩), (1, ⟨.hole, true⟩)], 2⟩
def T_ref01_Digits_0_0 : TS := ⟨[(0, .v (.agg [.int .i64, .int .u64])), (1, .lp 0 (.lit 0)), (2, .v (.nils)), (3, .ls 1 (.lit 0) .hole 1), (4, .v (.int .u64)), (5, .v (.int .i64))], [(0, ⟨(.ex [.v (.int .i64), .v (.int .u64)]), true⟩), (1, ⟨.hole, true⟩)], 2⟩
def B_ref01_Digits_0 (F : Nat) (rc : Int → Int → Nat → Int → Int → Int → Int → List VV → R) (ex0 : Int → Int → Nat → Int → Int → Int → Int → List VV → R) (x0 : Int) (x1 : Int) (x2 : Nat) (x3 : Int) (x4 : Int) (x5 : Int) (x6 : Int) (x7 : List VV) : R :=
  bif ((decide (x4 < 64))) then (
    bif (((decide ((0 + (x2 * 1)) ≤ x7.length)) && true) && (decide ((x2 + 1) * 9 ≤ bigger))) then (
      rc x0 x1 ((x2 + 1)) ((IntKind.wrap .u64 (Int.tdiv x3 2))) ((IntKind.wrap .i64 (x4 + 1))) x5 x6 ((((x7.drop 0).take (x2 * 1)) ++ [.v (.int .i64 ((IntKind.wrap .i64 ((Int.tmod x3 2)))))])))
    else (
      none))
  else (
    ex0 x0 x1 x2 x3 x4 x5 x6 x7)
def L_ref01_Digits_0 (F : Nat) (ex0 : Int → Int → Nat → Int → Int → Int → Int → List VV → R) : Nat → Int → Int → Nat → Int → Int → Int → Int → List VV → R
  | 0, _, _, _, _, _, _, _, _ => none
  | n + 1, x0, x1, x2, x3, x4, x5, x6, x7 => B_ref01_Digits_0 F (L_ref01_Digits_0 F ex0 n) ex0 x0 x1 x2 x3 x4 x5 x6 x7
def T_ref01_Digits_1 : TS := ⟨[(0, .v (.agg [.int .i64, .int .u64])), (1, .lp 0 (.lit 0)), (2, .v (.nils)), (3, .ls 1 (.lit 0) .hole 1), (4, .v (.int .u64)), (5, .v (.int .i64)), (6, .v (.int .u64)), (7, .v (.int .i64))], [(0, ⟨(.ex [.v (.int .i64), .v (.int .u64)]), true⟩), (1, ⟨.hole, true⟩)], 2⟩
def T_ref01_Digits_1_0 : TS := ⟨[(0, .v (.agg [.int .i64, .int .u64])), (1, .lp 0 (.lit 0)), (2, .v (.nils)), (3, .ls 1 (.lit 0) .hole 1), (4, .v (.int .u64)), (5, .v (.int .i64)), (6, .v (.int .u64)), (7, .v (.int .i64))], [(0, ⟨(.ex [.v (.int .i64), .v (.int .u64)]), true⟩), (1, ⟨.hole, true⟩)], 2⟩
def B_ref01_Digits_1 (F : Nat) (rc : Int → Int → Nat → Int → Int → Int → Int → Int → Int → List VV → R) (ex0 : Int → Int → Nat → Int → Int → Int → Int → Int → Int → List VV → R) (x0 : Int) (x1 : Int) (x2 : Nat) (x3 : Int) (x4 : Int) (x5 : Int) (x6 : Int) (x7 : Int) (x8 : Int) (x9 : List VV) : R :=
  bif ((decide (x6 < 64))) then (
    bif (((decide ((0 + (x2 * 1)) ≤ x9.length)) && true) && (decide ((x2 + 1) * 9 ≤ bigger))) then (
      rc x0 x1 ((x2 + 1)) x3 x4 ((IntKind.wrap .u64 (Int.tdiv x5 2))) ((IntKind.wrap .i64 (x6 + 1))) x7 x8 ((((x9.drop 0).take (x2 * 1)) ++ [.v (.int .i64 ((IntKind.wrap .i64 ((Int.tmod x5 2)))))])))
    else (
      none))
  else (
    ex0 x0 x1 x2 x3 x4 x5 x6 x7 x8 x9)
def L_ref01_Digits_1 (F : Nat) (ex0 : Int → Int → Nat → Int → Int → Int → Int → Int → Int → List VV → R) : Nat → Int → Int → Nat → Int → Int → Int → Int → Int → Int → List VV → R
  | 0, _, _, _, _, _, _, _, _, _, _ => none
  | n + 1, x0, x1, x2, x3, x4, x5, x6, x7, x8, x9 => B_ref01_Digits_1 F (L_ref01_Digits_1 F ex0 n) ex0 x0 x1 x2 x3 x4 x5 x6 x7 x8 x9
def W_ref01_Digits (F : Nat) : List LW := [⟨0, T_ref01_Digits_0, fun k q => L_ref01_Digits_0 F (fun (z0 : Int) (z1 : Int) (z2 : Nat) (z3 : Int) (z4 : Int) (z5 : Int) (z6 : Int) (z7 : List VV) => k (.exit 0) (fS T_ref01_Digits_0_0 [.i z0, .i z1, .n z2, .i z3, .i z4, .i z5, .i z6, .c z7])) F (atI (nth q 0)) (atI (nth q 1)) (atN (nth q 2)) (atI (nth q 3)) (atI (nth q 4)) (atI (nth q 5)) (atI (nth q 6)) (atC (nth q 7))⟩, ⟨2, T_ref01_Digits_1, fun k q => L_ref01_Digits_1 F (fun (z0 : Int) (z1 : Int) (z2 : Nat) (z3 : Int) (z4 : Int) (z5 : Int) (z6 : Int) (z7 : Int) (z8 : Int) (z9 : List VV) => k (.exit 2) (fS T_ref01_Digits_1_0 [.i z0, .i z1, .n z2, .i z3, .i z4, .i z5, .i z6, .i z7, .i z8, .c z9])) F (atI (nth q 0)) (atI (nth q 1)) (atN (nth q 2)) (atI (nth q 3)) (atI (nth q 4)) (atI (nth q 5)) (atI (nth q 6)) (atI (nth q 7)) (atI (nth q 8)) (atC (nth q 9))⟩]
def I_ref01_Digits (F : Nat) : Nat → VS → (Exit → VS → R) → R := tabI c_ref01_Digits (W_ref01_Digits F)
def WJ_ref01_Digits (F : Nat) : List LJ := []
def J_ref01_Digits (F : Nat) : Nat → Nat → VS → (Exit → VS → R) → R := tabJ (WJ_ref01_Digits F)
theorem lL_ref01_Digits_0 (F : Nat) (k : Exit → VS → R) : ∀ (n : Nat) (x0 : Int) (x1 : Int) (x2 : Nat) (x3 : Int) (x4 : Int) (x5 : Int) (x6 : Int) (x7 : List VV), iterC (codeL PP (S_ref01_Digits F) c_ref01_Digits (I_ref01_Digits F) (J_ref01_Digits F) (loopAt PP 86 0) 0) (headOf c_ref01_Digits 0) k n (fS T_ref01_Digits_0 [.i x0, .i x1, .n x2, .i x3, .i x4, .i x5, .i x6, .c x7]) = L_ref01_Digits_0 F (fun (z0 : Int) (z1 : Int) (z2 : Nat) (z3 : Int) (z4 : Int) (z5 : Int) (z6 : Int) (z7 : List VV) => k (.exit 0) (fS T_ref01_Digits_0_0 [.i z0, .i z1, .n z2, .i z3, .i z4, .i z5, .i z6, .c z7])) n x0 x1 x2 x3 x4 x5 x6 x7
  | 0, _, _, _, _, _, _, _, _ => rfl
  | n + 1, x0, x1, x2, x3, x4, x5, x6, x7 => by
    have h0 : ∀ (L_ref01_Digits_0 : Nat → (Int → Int → Nat → Int → Int → Int → Int → List VV → R) → Nat → Int → Int → Nat → Int → Int → Int → Int → List VV → R) (L_ref01_Digits_1 : Nat → (Int → Int → Nat → Int → Int → Int → Int → Int → Int → List VV → R) → Nat → Int → Int → Nat → Int → Int → Int → Int → Int → Int → List VV → R), iterC (codeL PP (words []) c_ref01_Digits (tabI c_ref01_Digits [⟨0, T_ref01_Digits_0, fun k q => L_ref01_Digits_0 F (fun (z0 : Int) (z1 : Int) (z2 : Nat) (z3 : Int) (z4 : Int) (z5 : Int) (z6 : Int) (z7 : List VV) => k (.exit 0) (fS T_ref01_Digits_0_0 [.i z0, .i z1, .n z2, .i z3, .i z4, .i z5, .i z6, .c z7])) F (atI (nth q 0)) (atI (nth q 1)) (atN (nth q 2)) (atI (nth q 3)) (atI (nth q 4)) (atI (nth q 5)) (atI (nth q 6)) (atC (nth q 7))⟩, ⟨2, T_ref01_Digits_1, fun k q => L_ref01_Digits_1 F (fun (z0 : Int) (z1 : Int) (z2 : Nat) (z3 : Int) (z4 : Int) (z5 : Int) (z6 : Int) (z7 : Int) (z8 : Int) (z9 : List VV) => k (.exit 2) (fS T_ref01_Digits_1_0 [.i z0, .i z1, .n z2, .i z3, .i z4, .i z5, .i z6, .i z7, .i z8, .c z9])) F (atI (nth q 0)) (atI (nth q 1)) (atN (nth q 2)) (atI (nth q 3)) (atI (nth q 4)) (atI (nth q 5)) (atI (nth q 6)) (atI (nth q 7)) (atI (nth q 8)) (atC (nth q 9))⟩]) (tabJ []) (loopAt PP 86 0) 0) (headOf c_ref01_Digits 0) k (n + 1) (fS T_ref01_Digits_0 [.i x0, .i x1, .n x2, .i x3, .i x4, .i x5, .i x6, .c x7]) = (fun (rc : Int → Int → Nat → Int → Int → Int → Int → List VV → R) (ex0 : Int → Int → Nat → Int → Int → Int → Int → List VV → R) (x0 : Int) (x1 : Int) (x2 : Nat) (x3 : Int) (x4 : Int) (x5 : Int) (x6 : Int) (x7 : List VV) => (
  bif ((decide (x4 < 64))) then (
    bif (((decide ((0 + (x2 * 1)) ≤ x7.length)) && true) && (decide ((x2 + 1) * 9 ≤ bigger))) then (
      rc x0 x1 ((x2 + 1)) ((IntKind.wrap .u64 (Int.tdiv x3 2))) ((IntKind.wrap .i64 (x4 + 1))) x5 x6 ((((x7.drop 0).take (x2 * 1)) ++ [.v (.int .i64 ((IntKind.wrap .i64 ((Int.tmod x3 2)))))])))
    else (
      none))
  else (
    ex0 x0 x1 x2 x3 x4 x5 x6 x7) : R)) (fun (y0 : Int) (y1 : Int) (y2 : Nat) (y3 : Int) (y4 : Int) (y5 : Int) (y6 : Int) (y7 : List VV) => iterC (codeL PP (words []) c_ref01_Digits (tabI c_ref01_Digits [⟨0, T_ref01_Digits_0, fun k q => L_ref01_Digits_0 F (fun (z0 : Int) (z1 : Int) (z2 : Nat) (z3 : Int) (z4 : Int) (z5 : Int) (z6 : Int) (z7 : List VV) => k (.exit 0) (fS T_ref01_Digits_0_0 [.i z0, .i z1, .n z2, .i z3, .i z4, .i z5, .i z6, .c z7])) F (atI (nth q 0)) (atI (nth q 1)) (atN (nth q 2)) (atI (nth q 3)) (atI (nth q 4)) (atI (nth q 5)) (atI (nth q 6)) (atC (nth q 7))⟩, ⟨2, T_ref01_Digits_1, fun k q => L_ref01_Digits_1 F (fun (z0 : Int) (z1 : Int) (z2 : Nat) (z3 : Int) (z4 : Int) (z5 : Int) (z6 : Int) (z7 : Int) (z8 : Int) (z9 : List VV) => k (.exit 2) (fS T_ref01_Digits_1_0 [.i z0, .i z1, .n z2, .i z3, .i z4, .i z5, .i z6, .i z7, .i z8, .c z9])) F (atI (nth q 0)) (atI (nth q 1)) (atN (nth q 2)) (atI (nth q 3)) (atI (nth q 4)) (atI (nth q 5)) (atI (nth q 6)) (atI (nth q 7)) (atI (nth q 8)) (atC (nth q 9))⟩]) (tabJ []) (loopAt PP 86 0) 0) (headOf c_ref01_Digits 0) k n (fS T_ref01_Digits_0 [.i y0, .i y1, .n y2, .i y3, .i y4, .i y5, .i y6, .c y7])) (fun (z0 : Int) (z1 : Int) (z2 : Nat) (z3 : Int) (z4 : Int) (z5 : Int) (z6 : Int) (z7 : List VV) => k (.exit 0) (fS T_ref01_Digits_0_0 [.i z0, .i z1, .n z2, .i z3, .i z4, .i z5, .i z6, .c z7])) x0 x1 x2 x3 x4 x5 x6 x7 := by
      intros
      kernel_rfl
    have h : iterC (codeL PP (S_ref01_Digits F) c_ref01_Digits (I_ref01_Digits F) (J_ref01_Digits F) (loopAt PP 86 0) 0) (headOf c_ref01_Digits 0) k (n + 1) (fS T_ref01_Digits_0 [.i x0, .i x1, .n x2, .i x3, .i x4, .i x5, .i x6, .c x7]) = B_ref01_Digits_0 F (fun (y0 : Int) (y1 : Int) (y2 : Nat) (y3 : Int) (y4 : Int) (y5 : Int) (y6 : Int) (y7 : List VV) => iterC (codeL PP (S_ref01_Digits F) c_ref01_Digits (I_ref01_Digits F) (J_ref01_Digits F) (loopAt PP 86 0) 0) (headOf c_ref01_Digits 0) k n (fS T_ref01_Digits_0 [.i y0, .i y1, .n y2, .i y3, .i y4, .i y5, .i y6, .c y7])) (fun (z0 : Int) (z1 : Int) (z2 : Nat) (z3 : Int) (z4 : Int) (z5 : Int) (z6 : Int) (z7 : List VV) => k (.exit 0) (fS T_ref01_Digits_0_0 [.i z0, .i z1, .n z2, .i z3, .i z4, .i z5, .i z6, .c z7])) x0 x1 x2 x3 x4 x5 x6 x7 := (h0 L_ref01_Digits_0 L_ref01_Digits_1).trans (by kernel_rfl)
    rw [h]
    simp only [lL_ref01_Digits_0 F k n]
    rfl
theorem lL_ref01_Digits_1 (F : Nat) (k : Exit → VS → R) : ∀ (n : Nat) (x0 : Int) (x1 : Int) (x2 : Nat) (x3 : Int) (x4 : Int) (x5 : Int) (x6 : Int) (x7 : Int) (x8 : Int) (x9 : List VV), iterC (codeL PP (S_ref01_Digits F) c_ref01_Digits (I_ref01_Digits F) (J_ref01_Digits F) (loopAt PP 86 1) 2) (headOf c_ref01_Digits 2) k n (fS T_ref01_Digits_1 [.i x0, .i x1, .n x2, .i x3, .i x4, .i x5, .i x6, .i x7, .i x8, .c x9]) = L_ref01_Digits_1 F (fun (z0 : Int) (z1 : Int) (z2 : Nat) (z3 : Int) (z4 : Int) (z5 : Int) (z6 : Int) (z7 : Int) (z8 : Int) (z9 : List VV) => k (.exit 2) (fS T_ref01_Digits_1_0 [.i z0, .i z1, .n z2, .i z3, .i z4, .i z5, .i z6, .i z7, .i z8, .c z9])) n x0 x1 x2 x3 x4 x5 x6 x7 x8 x9
  | 0, _, _, _, _, _, _, _, _, _, _ => rfl
  | n + 1, x0, x1, x2, x3, x4, x5, x6, x7, x8, x9 => by
    have h0 : ∀ (L_ref01_Digits_0 : Nat → (Int → Int → Nat → Int → Int → Int → Int → List VV → R) → Nat → Int → Int → Nat → Int → Int → Int → Int → List VV → R) (L_ref01_Digits_1 : Nat → (Int → Int → Nat → Int → Int → Int → Int → Int → Int → List VV → R) → Nat → Int → Int → Nat → Int → Int → Int → Int → Int → Int → List VV → R), iterC (codeL PP (words []) c_ref01_Digits (tabI c_ref01_Digits [⟨0, T_ref01_Digits_0, fun k q => L_ref01_Digits_0 F (fun (z0 : Int) (z1 : Int) (z2 : Nat) (z3 : Int) (z4 : Int) (z5 : Int) (z6 : Int) (z7 : List VV) => k (.exit 0) (fS T_ref01_Digits_0_0 [.i z0, .i z1, .n z2, .i z3, .i z4, .i z5, .i z6, .c z7])) F (atI (nth q 0)) (atI (nth q 1)) (atN (nth q 2)) (atI (nth q 3)) (atI (nth q 4)) (atI (nth q 5)) (atI (nth q 6)) (atC (nth q 7))⟩, ⟨2, T_ref01_Digits_1, fun k q => L_ref01_Digits_1 F (fun (z0 : Int) (z1 : Int) (z2 : Nat) (z3 : Int) (z4 : Int) (z5 : Int) (z6 : Int) (z7 : Int) (z8 : Int) (z9 : List VV) => k (.exit 2) (fS T_ref01_Digits_1_0 [.i z0, .i z1, .n z2, .i z3, .i z4, .i z5, .i z6, .i z7, .i z8, .c z9])) F (atI (nth q 0)) (atI (nth q 1)) (atN (nth q 2)) (atI (nth q 3)) (atI (nth q 4)) (atI (nth q 5)) (atI (nth q 6)) (atI (nth q 7)) (atI (nth q 8)) (atC (nth q 9))⟩]) (tabJ []) (loopAt PP 86 1) 2) (headOf c_ref01_Digits 2) k (n + 1) (fS T_ref01_Digits_1 [.i x0, .i x1, .n x2, .i x3, .i x4, .i x5, .i x6, .i x7, .i x8, .c x9]) = (fun (rc : Int → Int → Nat → Int → Int → Int → Int → Int → Int → List VV → R) (ex0 : Int → Int → Nat → Int → Int → Int → Int → Int → Int → List VV → R) (x0 : Int) (x1 : Int) (x2 : Nat) (x3 : Int) (x4 : Int) (x5 : Int) (x6 : Int) (x7 : Int) (x8 : Int) (x9 : List VV) => (
  bif ((decide (x6 < 64))) then (
    bif (((decide ((0 + (x2 * 1)) ≤ x9.length)) && true) && (decide ((x2 + 1) * 9 ≤ bigger))) then (
      rc x0 x1 ((x2 + 1)) x3 x4 ((IntKind.wrap .u64 (Int.tdiv x5 2))) ((IntKind.wrap .i64 (x6 + 1))) x7 x8 ((((x9.drop 0).take (x2 * 1)) ++ [.v (.int .i64 ((IntKind.wrap .i64 ((Int.tmod x5 2)))))])))
    else (
      none))
  else (
    ex0 x0 x1 x2 x3 x4 x5 x6 x7 x8 x9) : R)) (fun (y0 : Int) (y1 : Int) (y2 : Nat) (y3 : Int) (y4 : Int) (y5 : Int) (y6 : Int) (y7 : Int) (y8 : Int) (y9 : List VV) => iterC (codeL PP (words []) c_ref01_Digits (tabI c_ref01_Digits [⟨0, T_ref01_Digits_0, fun k q => L_ref01_Digits_0 F (fun (z0 : Int) (z1 : Int) (z2 : Nat) (z3 : Int) (z4 : Int) (z5 : Int) (z6 : Int) (z7 : List VV) => k (.exit 0) (fS T_ref01_Digits_0_0 [.i z0, .i z1, .n z2, .i z3, .i z4, .i z5, .i z6, .c z7])) F (atI (nth q 0)) (atI (nth q 1)) (atN (nth q 2)) (atI (nth q 3)) (atI (nth q 4)) (atI (nth q 5)) (atI (nth q 6)) (atC (nth q 7))⟩, ⟨2, T_ref01_Digits_1, fun k q => L_ref01_Digits_1 F (fun (z0 : Int) (z1 : Int) (z2 : Nat) (z3 : Int) (z4 : Int) (z5 : Int) (z6 : Int) (z7 : Int) (z8 : Int) (z9 : List VV) => k (.exit 2) (fS T_ref01_Digits_1_0 [.i z0, .i z1, .n z2, .i z3, .i z4, .i z5, .i z6, .i z7, .i z8, .c z9])) F (atI (nth q 0)) (atI (nth q 1)) (atN (nth q 2)) (atI (nth q 3)) (atI (nth q 4)) (atI (nth q 5)) (atI (nth q 6)) (atI (nth q 7)) (atI (nth q 8)) (atC (nth q 9))⟩]) (tabJ []) (loopAt PP 86 1) 2) (headOf c_ref01_Digits 2) k n (fS T_ref01_Digits_1 [.i y0, .i y1, .n y2, .i y3, .i y4, .i y5, .i y6, .i y7, .i y8, .c y9])) (fun (z0 : Int) (z1 : Int) (z2 : Nat) (z3 : Int) (z4 : Int) (z5 : Int) (z6 : Int) (z7 : Int) (z8 : Int) (z9 : List VV) => k (.exit 2) (fS T_ref01_Digits_1_0 [.i z0, .i z1, .n z2, .i z3, .i z4, .i z5, .i z6, .i z7, .i z8, .c z9])) x0 x1 x2 x3 x4 x5 x6 x7 x8 x9 := by
      intros
      kernel_rfl
    have h : iterC (codeL PP (S_ref01_Digits F) c_ref01_Digits (I_ref01_Digits F) (J_ref01_Digits F) (loopAt PP 86 1) 2) (headOf c_ref01_Digits 2) k (n + 1) (fS T_ref01_Digits_1 [.i x0, .i x1, .n x2, .i x3, .i x4, .i x5, .i x6, .i x7, .i x8, .c x9]) = B_ref01_Digits_1 F (fun (y0 : Int) (y1 : Int) (y2 : Nat) (y3 : Int) (y4 : Int) (y5 : Int) (y6 : Int) (y7 : Int) (y8 : Int) (y9 : List VV) => iterC (codeL PP (S_ref01_Digits F) c_ref01_Digits (I_ref01_Digits F) (J_ref01_Digits F) (loopAt PP 86 1) 2) (headOf c_ref01_Digits 2) k n (fS T_ref01_Digits_1 [.i y0, .i y1, .n y2, .i y3, .i y4, .i y5, .i y6, .i y7, .i y8, .c y9])) (fun (z0 : Int) (z1 : Int) (z2 : Nat) (z3 : Int) (z4 : Int) (z5 : Int) (z6 : Int) (z7 : Int) (z8 : Int) (z9 : List VV) => k (.exit 2) (fS T_ref01_Digits_1_0 [.i z0, .i z1, .n z2, .i z3, .i z4, .i z5, .i z6, .i z7, .i z8, .c z9])) x0 x1 x2 x3 x4 x5 x6 x7 x8 x9 := (h0 L_ref01_Digits_0 L_ref01_Digits_1).trans (by kernel_rfl)
    rw [h]
    simp only [lL_ref01_Digits_1 F k n]
    rfl
def f_ref01_Digits (F : Nat) (a0 : Int) (a1 : Int) : R :=
  L_ref01_Digits_0 F (fun (v894 : Int) (v895 : Int) (v896 : Nat) (v897 : Int) (v898 : Int) (v899 : Int) (v900 : Int) (v901 : List VV) =>
    L_ref01_Digits_1 F (fun (v920 : Int) (v921 : Int) (v922 : Nat) (v923 : Int) (v924 : Int) (v925 : Int) (v926 : Int) (v927 : Int) (v928 : Int) (v929 : List VV) =>
      some (.fs v929 0 v922 1)) F v894 v895 v896 v897 v898 ((IntKind.wrap .u64 v899)) 0 v899 v900 v901) F a0 a1 0 a1 0 a0 a1 []
theorem e_ref01_Digits (F : Nat) (a0 : Int) (a1 : Int) : funL PP (S_ref01_Digits F) c_ref01_Digits (I_ref01_Digits F) (J_ref01_Digits F) 86 (fTs ti_ref01_Digits [.i a0, .i a1]).1 = f_ref01_Digits F a0 a1 := by
  have h : ∀ (L_ref01_Digits_0 : Nat → (Int → Int → Nat → Int → Int → Int → Int → List VV → R) → Nat → Int → Int → Nat → Int → Int → Int → Int → List VV → R) (L_ref01_Digits_1 : Nat → (Int → Int → Nat → Int → Int → Int → Int → Int → Int → List VV → R) → Nat → Int → Int → Nat → Int → Int → Int → Int → Int → Int → List VV → R), funL PP (words []) c_ref01_Digits (tabI c_ref01_Digits [⟨0, T_ref01_Digits_0, fun k q => L_ref01_Digits_0 F (fun (z0 : Int) (z1 : Int) (z2 : Nat) (z3 : Int) (z4 : Int) (z5 : Int) (z6 : Int) (z7 : List VV) => k (.exit 0) (fS T_ref01_Digits_0_0 [.i z0, .i z1, .n z2, .i z3, .i z4, .i z5, .i z6, .c z7])) F (atI (nth q 0)) (atI (nth q 1)) (atN (nth q 2)) (atI (nth q 3)) (atI (nth q 4)) (atI (nth q 5)) (atI (nth q 6)) (atC (nth q 7))⟩, ⟨2, T_ref01_Digits_1, fun k q => L_ref01_Digits_1 F (fun (z0 : Int) (z1 : Int) (z2 : Nat) (z3 : Int) (z4 : Int) (z5 : Int) (z6 : Int) (z7 : Int) (z8 : Int) (z9 : List VV) => k (.exit 2) (fS T_ref01_Digits_1_0 [.i z0, .i z1, .n z2, .i z3, .i z4, .i z5, .i z6, .i z7, .i z8, .c z9])) F (atI (nth q 0)) (atI (nth q 1)) (atN (nth q 2)) (atI (nth q 3)) (atI (nth q 4)) (atI (nth q 5)) (atI (nth q 6)) (atI (nth q 7)) (atI (nth q 8)) (atC (nth q 9))⟩]) (tabJ []) 86 (fTs ti_ref01_Digits [.i a0, .i a1]).1 = (
  L_ref01_Digits_0 F (fun (v894 : Int) (v895 : Int) (v896 : Nat) (v897 : Int) (v898 : Int) (v899 : Int) (v900 : Int) (v901 : List VV) =>
    L_ref01_Digits_1 F (fun (v920 : Int) (v921 : Int) (v922 : Nat) (v923 : Int) (v924 : Int) (v925 : Int) (v926 : Int) (v927 : Int) (v928 : Int) (v929 : List VV) =>
      some (.fs v929 0 v922 1)) F v894 v895 v896 v897 v898 ((IntKind.wrap .u64 v899)) 0 v899 v900 v901) F a0 a1 0 a1 0 a0 a1 [] : R) := by
    intros
    kernel_rfl
  exact (h L_ref01_Digits_0 L_ref01_Digits_1).trans (by kernel_rfl)
def ok_ref01_Digits (F : Nat) (a0 : Int) (a1 : Int) : Bool := okT to_ref01_Digits (f_ref01_Digits F a0 a1)
def o_ref01_Digits_0 (F : Nat) (a0 : Int) (a1 : Int) : List VV := atC (nth (outT to_ref01_Digits (f_ref01_Digits F a0 a1)) 0)
def o_ref01_Digits_1 (F : Nat) (a0 : Int) (a1 : Int) : Nat := atN (nth (outT to_ref01_Digits (f_ref01_Digits F a0 a1)) 1)
theorem k_ref01_Digits (F : Nat) (a0 : Int) (a1 : Int) {z0 : List VV} {z1 : Nat} (h : f_ref01_Digits F a0 a1 = some (.fs z0 0 z1 1)) : ok_ref01_Digits F a0 a1 = true ∧ o_ref01_Digits_0 F a0 a1 = z0 ∧ o_ref01_Digits_1 F a0 a1 = z1 := by
  refine ⟨?_, ?_, ?_⟩
  · unfold ok_ref01_Digits; rw [h]; kernel_rfl
  · unfold o_ref01_Digits_0; rw [h]; kernel_rfl
  · unfold o_ref01_Digits_1; rw [h]; kernel_rfl
def s_ref01_Digits (F : Nat) : List VV → Option (Bool × VV) := spec ti_ref01_Digits to_ref01_Digits (fun q => (ok_ref01_Digits F (atI (nth q 0)) (atI (nth q 1)))) (fun q => [.c (o_ref01_Digits_0 F (atI (nth q 0)) (atI (nth q 1))), .n (o_ref01_Digits_1 F (atI (nth q 0)) (atI (nth q 1)))])
theorem hS_ref01_Digits (F : Nat) : ∀ f, Good PP f (unS (S_ref01_Digits F f)) := words_good fun p hp => by
  cases hp
theorem hl_ref01_Digits (F : Nat) : ∀ p ∈ loopsIn PP 86, LoopOK PP (S_ref01_Digits F) c_ref01_Digits F (I_ref01_Digits F) (J_ref01_Digits F) p :=
  loops_of [(0, loopAt PP 86 0), (2, loopAt PP 86 1)] (by kernel_rfl) (all_cons
    (loop_ok (W_ref01_Digits F) rfl (tab_cons (fun _ k q => Le.ofEq ((lL_ref01_Digits_0 F k F (atI (nth q 0)) (atI (nth q 1)) (atN (nth q 2)) (atI (nth q 3)) (atI (nth q 4)) (atI (nth q 5)) (atI (nth q 6)) (atC (nth q 7))).symm.trans (congrArg (iterC (codeL PP (S_ref01_Digits F) c_ref01_Digits (I_ref01_Digits F) (J_ref01_Digits F) (loopAt PP 86 0) 0) (headOf c_ref01_Digits 0) k F) (show fS T_ref01_Digits_0 [.i (atI (nth q 0)), .i (atI (nth q 1)), .n (atN (nth q 2)), .i (atI (nth q 3)), .i (atI (nth q 4)), .i (atI (nth q 5)), .i (atI (nth q 6)), .c (atC (nth q 7))] = fS T_ref01_Digits_0 q by kernel_rfl)))) (tab_cons (fun h => absurd h (by decide)) tab_nil))) (all_cons
    (loop_ok (W_ref01_Digits F) rfl (tab_cons (fun h => absurd h (by decide)) (tab_cons (fun _ k q => Le.ofEq ((lL_ref01_Digits_1 F k F (atI (nth q 0)) (atI (nth q 1)) (atN (nth q 2)) (atI (nth q 3)) (atI (nth q 4)) (atI (nth q 5)) (atI (nth q 6)) (atI (nth q 7)) (atI (nth q 8)) (atC (nth q 9))).symm.trans (congrArg (iterC (codeL PP (S_ref01_Digits F) c_ref01_Digits (I_ref01_Digits F) (J_ref01_Digits F) (loopAt PP 86 1) 2) (headOf c_ref01_Digits 2) k F) (show fS T_ref01_Digits_1 [.i (atI (nth q 0)), .i (atI (nth q 1)), .n (atN (nth q 2)), .i (atI (nth q 3)), .i (atI (nth q 4)), .i (atI (nth q 5)), .i (atI (nth q 6)), .i (atI (nth q 7)), .i (atI (nth q 8)), .c (atC (nth q 9))] = fS T_ref01_Digits_1 q by kernel_rfl)))) tab_nil))) all_nil))
theorem hj_ref01_Digits (F : Nat) : ∀ p ∈ joinsIn PP c_ref01_Digits 86, JoinOK PP (S_ref01_Digits F) c_ref01_Digits (I_ref01_Digits F) (J_ref01_Digits F) p :=
  joins_of [] (by kernel_rfl) all_nil
theorem g_ref01_Digits (F : Nat) : Good PP 86 (unS (s_ref01_Digits F)) :=
  fun_spec (hS_ref01_Digits F) (by kernel_rfl) (by kernel_rfl) (C := c_ref01_Digits) (F := fun q => (f_ref01_Digits F (atI (nth q 0)) (atI (nth q 1)))) (fun _ => F) (fun _ => I_ref01_Digits F) (fun _ => J_ref01_Digits F) (fun _ => hl_ref01_Digits F) (fun _ => hj_ref01_Digits F)
    (fun q => (congrArg (funL PP (S_ref01_Digits F) c_ref01_Digits (I_ref01_Digits F) (J_ref01_Digits F) 86) (show (fTs ti_ref01_Digits q).1 = (fTs ti_ref01_Digits [.i (atI (nth q 0)), .i (atI (nth q 1))]).1 by kernel_rfl)).trans (e_ref01_Digits F (atI (nth q 0)) (atI (nth q 1))))
    (fun _ h => (okT_fill h).trans (congrArg some (by kernel_rfl)))

end Go.Xv
set_option linter.unusedVariables false
namespace Go.Xv
/- 87 _ref01_Number -/
def c_ref01_Number : Cfg := ⟨[0, 2, 3, 4, 5, 6, 7, 15, 36], [(0, [0, 2, 3, 4, 5, 6, 7, 29, 30, 31, 32, 33, 34, 35, 36, 37, 38, 39, 40, 41, 42, 43, 44, 45, 46, 47, 48, 49, 50, 51, 52, 53]), (2, [0, 2, 3, 4, 5, 6, 7, 8, 9, 10, 11, 12, 13, 14, 15, 16, 17, 18, 19, 20, 21, 22, 23, 24, 25, 26, 27, 28, 50, 51, 52, 53])], [], []⟩
def ti_ref01_Number : List TV := [.fs (.lit 0) .hole 1]
def to_ref01_Number : TV := .v (.agg [.int .i64, .int .u64])
def S_ref01_Number (F : Nat) : FuncId → List VV → Option (Bool × VV) := words []
def T_ref01_Number_0 : TS := ⟨[(0, .fs (.lit 0) .hole 1), (2, .lp 0 (.lit 0)), (3, .v (.int .u64)), (4, .v (.int .u64)), (5, .v (.int .u64)), (6, .v (.int .i64))], [(0, ⟨(.ex [.v (.int .i64), .v (.int .u64)]), true⟩)], 1⟩
def T_ref01_Number_0_0 : TS := ⟨[(0, .fs (.lit 0) .hole 1), (2, .lp 0 (.lit 0)), (3, .v (.int .u64)), (4, .v (.int .u64)), (5, .v (.int .u64)), (6, .v (.int .i64))], [(0, ⟨(.ex [.v (.int .i64), .v (.int .u64)]), true⟩)], 1⟩
def B_ref01_Number_0 (F : Nat) (rc : List VV → Nat → Int → Int → Int → Int → Int → Int → R) (ex0 : List VV → Nat → Int → Int → Int → Int → Int → Int → R) (x0 : List VV) (x1 : Nat) (x2 : Int) (x3 : Int) (x4 : Int) (x5 : Int) (x6 : Int) (x7 : Int) : R :=
  bif ((decide (x5 < 64))) then (
    bif ((decide (x5 < (((x1 : Nat) : Int))))) then (
      bif ((decide (0 ≤ x5)) && (decide (x5 < ((x1 : Nat) : Int)))) then (
        let v1010 : Nat := (0 + ((Int.toNat x5) * 1))
        bif ((isI .i64 x0[v1010]?) && true) then (
          rc x0 x1 ((IntKind.wrap .u64 (x2 + ((IntKind.wrap .u64 (((IntKind.wrap .u64 ((iv x0[v1010]?)))) * x4)))))) x3 ((IntKind.wrap .u64 (2 * x4))) ((IntKind.wrap .i64 (x5 + 1))) x6 x7)
        else (
          none))
      else (
        none))
    else (
      ex0 x0 x1 x2 x3 x4 x5 x6 x7))
  else (
    ex0 x0 x1 x2 x3 x4 x5 x6 x7)
def L_ref01_Number_0 (F : Nat) (ex0 : List VV → Nat → Int → Int → Int → Int → Int → Int → R) : Nat → List VV → Nat → Int → Int → Int → Int → Int → Int → R
  | 0, _, _, _, _, _, _, _, _ => none
  | n + 1, x0, x1, x2, x3, x4, x5, x6, x7 => B_ref01_Number_0 F (L_ref01_Number_0 F ex0 n) ex0 x0 x1 x2 x3 x4 x5 x6 x7
def T_ref01_Number_1 : TS := ⟨[(0, .fs (.lit 0) .hole 1), (2, .lp 0 (.lit 0)), (3, .v (.int .u64)), (4, .v (.int .u64)), (5, .v (.int .u64)), (6, .v (.int .i64)), (7, .v (.int .i64))], [(0, ⟨(.ex [.v (.int .i64), .v (.int .u64)]), true⟩)], 1⟩
def T_ref01_Number_1_0 : TS := ⟨[(0, .fs (.lit 0) .hole 1), (2, .lp 0 (.lit 0)), (3, .v (.int .u64)), (4, .v (.int .u64)), (5, .v (.int .u64)), (6, .v (.int .i64)), (7, .v (.int .i64))], [(0, ⟨(.ex [.v (.int .i64), .v (.int .u64)]), true⟩)], 1⟩
def B_ref01_Number_1 (F : Nat) (rc : List VV → Nat → Int → Int → Int → Int → Int → Int → Int → R) (ex0 : List VV → Nat → Int → Int → Int → Int → Int → Int → Int → R) (x0 : List VV) (x1 : Nat) (x2 : Int) (x3 : Int) (x4 : Int) (x5 : Int) (x6 : Int) (x7 : Int) (x8 : Int) : R :=
  bif ((decide (x6 < 128))) then (
    bif ((decide (x6 < (((x1 : Nat) : Int))))) then (
      bif ((decide (0 ≤ x6)) && (decide (x6 < ((x1 : Nat) : Int)))) then (
        let v1037 : Nat := (0 + ((Int.toNat x6) * 1))
        bif ((isI .i64 x0[v1037]?) && true) then (
          rc x0 x1 x2 ((IntKind.wrap .u64 (x3 + ((IntKind.wrap .u64 (((IntKind.wrap .u64 ((iv x0[v1037]?)))) * x4)))))) ((IntKind.wrap .u64 (2 * x4))) x5 ((IntKind.wrap .i64 (x6 + 1))) x7 x8)
        else (
          none))
      else (
        none))
    else (
      ex0 x0 x1 x2 x3 x4 x5 x6 x7 x8))
  else (
    ex0 x0 x1 x2 x3 x4 x5 x6 x7 x8)
def L_ref01_Number_1 (F : Nat) (ex0 : List VV → Nat → Int → Int → Int → Int → Int → Int → Int → R) : Nat → List VV → Nat → Int → Int → Int → Int → Int → Int → Int → R
  | 0, _, _, _, _, _, _, _, _, _ => none
  | n + 1, x0, x1, x2, x3, x4, x5, x6, x7, x8 => B_ref01_Number_1 F (L_ref01_Number_1 F ex0 n) ex0 x0 x1 x2 x3 x4 x5 x6 x7 x8
def W_ref01_Number (F : Nat) : List LW := [⟨0, T_ref01_Number_0, fun k q => L_ref01_Number_0 F (fun (z0 : List VV) (z1 : Nat) (z2 : Int) (z3 : Int) (z4 : Int) (z5 : Int) (z6 : Int) (z7 : Int) => k (.exit 0) (fS T_ref01_Number_0_0 [.c z0, .n z1, .i z2, .i z3, .i z4, .i z5, .i z6, .i z7])) F (atC (nth q 0)) (atN (nth q 1)) (atI (nth q 2)) (atI (nth q 3)) (atI (nth q 4)) (atI (nth q 5)) (atI (nth q 6)) (atI (nth q 7))⟩, ⟨2, T_ref01_Number_1, fun k q => L_ref01_Number_1 F (fun (z0 : List VV) (z1 : Nat) (z2 : Int) (z3 : Int) (z4 : Int) (z5 : Int) (z6 : Int) (z7 : Int) (z8 : Int) => k (.exit 2) (fS T_ref01_Number_1_0 [.c z0, .n z1, .i z2, .i z3, .i z4, .i z5, .i z6, .i z7, .i z8])) F (atC (nth q 0)) (atN (nth q 1)) (atI (nth q 2)) (atI (nth q 3)) (atI (nth q 4)) (atI (nth q 5)) (atI (nth q 6)) (atI (nth q 7)) (atI (nth q 8))⟩]
def I_ref01_Number (F : Nat) : Nat → VS → (Exit → VS → R) → R := tabI c_ref01_Number (W_ref01_Number F)
def WJ_ref01_Number (F : Nat) : List LJ := []
def J_ref01_Number (F : Nat) : Nat → Nat → VS → (Exit → VS → R) → R := tabJ (WJ_ref01_Number F)
theorem lL_ref01_Number_0 (F : Nat) (k : Exit → VS → R) : ∀ (n : Nat) (x0 : List VV) (x1 : Nat) (x2 : Int) (x3 : Int) (x4 : Int) (x5 : Int) (x6 : Int) (x7 : Int), iterC (codeL PP (S_ref01_Number F) c_ref01_Number (I_ref01_Number F) (J_ref01_Number F) (loopAt PP 87 0) 0) (headOf c_ref01_Number 0) k n (fS T_ref01_Number_0 [.c x0, .n x1, .i x2, .i x3, .i x4, .i x5, .i x6, .i x7]) = L_ref01_Number_0 F (fun (z0 : List VV) (z1 : Nat) (z2 : Int) (z3 : Int) (z4 : Int) (z5 : Int) (z6 : Int) (z7 : Int) => k (.exit 0) (fS T_ref01_Number_0_0 [.c z0, .n z1, .i z2, .i z3, .i z4, .i z5, .i z6, .i z7])) n x0 x1 x2 x3 x4 x5 x6 x7
  | 0, _, _, _, _, _, _, _, _ => rfl
  | n + 1, x0, x1, x2, x3, x4, x5, x6, x7 => by
    have h0 : ∀ (L_ref01_Number_0 : Nat → (List VV → Nat → Int → Int → Int → Int → Int → Int → R) → Nat → List VV → Nat → Int → Int → Int → Int → Int → Int → R) (L_ref01_Number_1 : Nat → (List VV → Nat → Int → Int → Int → Int → Int → Int → Int → R) → Nat → List VV → Nat → Int → Int → Int → Int → Int → Int → Int → R), iterC (codeL PP (words []) c_ref01_Number (tabI c_ref01_Number [⟨0, T_ref01_Number_0, fun k q => L_ref01_Number_0 F (fun (z0 : List VV) (z1 : Nat) (z2 : Int) (z3 : Int) (z4 : Int) (z5 : Int) (z6 : Int) (z7 : Int) => k (.exit 0) (fS T_ref01_Number_0_0 [.c z0, .n z1, .i z2, .i z3, .i z4, .i z5, .i z6, .i z7])) F (atC (nth q 0)) (atN (nth q 1)) (atI (nth q 2)) (atI (nth q 3)) (atI (nth q 4)) (atI (nth q 5)) (atI (nth q 6)) (atI (nth q 7))⟩, ⟨2, T_ref01_Number_1, fun k q => L_ref01_Number_1 F (fun (z0 : List VV) (z1 : Nat) (z2 : Int) (z3 : Int) (z4 : Int) (z5 : Int) (z6 : Int) (z7 : Int) (z8 : Int) => k (.exit 2) (fS T_ref01_Number_1_0 [.c z0, .n z1, .i z2, .i z3, .i z4, .i z5, .i z6, .i z7, .i z8])) F (atC (nth q 0)) (atN (nth q 1)) (atI (nth q 2)) (atI (nth q 3)) (atI (nth q 4)) (atI (nth q 5)) (atI (nth q 6)) (atI (nth q 7)) (atI (nth q 8))⟩]) (tabJ []) (loopAt PP 87 0) 0) (headOf c_ref01_Number 0) k (n + 1) (fS T_ref01_Number_0 [.c x0, .n x1, .i x2, .i x3, .i x4, .i x5, .i x6, .i x7]) = (fun (rc : List VV → Nat → Int → Int → Int → Int → Int → Int → R) (ex0 : List VV → Nat → Int → Int → Int → Int → Int → Int → R) (x0 : List VV) (x1 : Nat) (x2 : Int) (x3 : Int) (x4 : Int) (x5 : Int) (x6 : Int) (x7 : Int) => (
  bif ((decide (x5 < 64))) then (
    bif ((decide (x5 < (((x1 : Nat) : Int))))) then (
      bif ((decide (0 ≤ x5)) && (decide (x5 < ((x1 : Nat) : Int)))) then (
        let v1010 : Nat := (0 + ((Int.toNat x5) * 1))
        bif ((isI .i64 x0[v1010]?) && true) then (
          rc x0 x1 ((IntKind.wrap .u64 (x2 + ((IntKind.wrap .u64 (((IntKind.wrap .u64 ((iv x0[v1010]?)))) * x4)))))) x3 ((IntKind.wrap .u64 (2 * x4))) ((IntKind.wrap .i64 (x5 + 1))) x6 x7)
        else (
          none))
      else (
        none))
    else (
      ex0 x0 x1 x2 x3 x4 x5 x6 x7))
  else (
    ex0 x0 x1 x2 x3 x4 x5 x6 x7) : R)) (fun (y0 : List VV) (y1 : Nat) (y2 : Int) (y3 : Int) (y4 : Int) (y5 : Int) (y6 : Int) (y7 : Int) => iterC (codeL PP (words []) c_ref01_Number (tabI c_ref01_Number [⟨0, T_ref01_Number_0, fun k q => L_ref01_Number_0 F (fun (z0 : List VV) (z1 : Nat) (z2 : Int) (z3 : Int) (z4 : Int) (z5 : Int) (z6 : Int) (z7 : Int) => k (.exit 0) (fS T_ref01_Number_0_0 [.c z0, .n z1, .i z2, .i z3, .i z4, .i z5, .i z6, .i z7])) F (atC (nth q 0)) (atN (nth q 1)) (atI (nth q 2)) (atI (nth q 3)) (atI (nth q 4)) (atI (nth q 5)) (atI (nth q 6)) (atI (nth q 7))⟩, ⟨2, T_ref01_Number_1, fun k q => L_ref01_Number_1 F (fun (z0 : List VV) (z1 : Nat) (z2 : Int) (z3 : Int) (z4 : Int) (z5 : Int) (z6 : Int) (z7 : Int) (z8 : Int) => k (.exit 2) (fS T_ref01_Number_1_0 [.c z0, .n z1, .i z2, .i z3, .i z4, .i z5, .i z6, .i z7, .i z8])) F (atC (nth q 0)) (atN (nth q 1)) (atI (nth q 2)) (atI (nth q 3)) (atI (nth q 4)) (atI (nth q 5)) (atI (nth q 6)) (atI (nth q 7)) (atI (nth q 8))⟩]) (tabJ []) (loopAt PP 87 0) 0) (headOf c_ref01_Number 0) k n (fS T_ref01_Number_0 [.c y0, .n y1, .i y2, .i y3, .i y4, .i y5, .i y6, .i y7])) (fun (z0 : List VV) (z1 : Nat) (z2 : Int) (z3 : Int) (z4 : Int) (z5 : Int) (z6 : Int) (z7 : Int) => k (.exit 0) (fS T_ref01_Number_0_0 [.c z0, .n z1, .i z2, .i z3, .i z4, .i z5, .i z6, .i z7])) x0 x1 x2 x3 x4 x5 x6 x7 := by
      intros
      kernel_rfl
    have h : iterC (codeL PP (S_ref01_Number F) c_ref01_Number (I_ref01_Number F) (J_ref01_Number F) (loopAt PP 87 0) 0) (headOf c_ref01_Number 0) k (n + 1) (fS T_ref01_Number_0 [.c x0, .n x1, .i x2, .i x3, .i x4, .i x5, .i x6, .i x7]) = B_ref01_Number_0 F (fun (y0 : List VV) (y1 : Nat) (y2 : Int) (y3 : Int) (y4 : Int) (y5 : Int) (y6 : Int) (y7 : Int) => iterC (codeL PP (S_ref01_Number F) c_ref01_Number (I_ref01_Number F) (J_ref01_Number F) (loopAt PP 87 0) 0) (headOf c_ref01_Number 0) k n (fS T_ref01_Number_0 [.c y0, .n y1, .i y2, .i y3, .i y4, .i y5, .i y6, .i y7])) (fun (z0 : List VV) (z1 : Nat) (z2 : Int) (z3 : Int) (z4 : Int) (z5 : Int) (z6 : Int) (z7 : Int) => k (.exit 0) (fS T_ref01_Number_0_0 [.c z0, .n z1, .i z2, .i z3, .i z4, .i z5, .i z6, .i z7])) x0 x1 x2 x3 x4 x5 x6 x7 := (h0 L_ref01_Number_0 L_ref01_Number_1).trans (by kernel_rfl)
    rw [h]
    simp only [lL_ref01_Number_0 F k n]
    rfl
theorem lL_ref01_Number_1 (F : Nat) (k : Exit → VS → R) : ∀ (n : Nat) (x0 : List VV) (x1 : Nat) (x2 : Int) (x3 : Int) (x4 : Int) (x5 : Int) (x6 : Int) (x7 : Int) (x8 : Int), iterC (codeL PP (S_ref01_Number F) c_ref01_Number (I_ref01_Number F) (J_ref01_Number F) (loopAt PP 87 1) 2) (headOf c_ref01_Number 2) k n (fS T_ref01_Number_1 [.c x0, .n x1, .i x2, .i x3, .i x4, .i x5, .i x6, .i x7, .i x8]) = L_ref01_Number_1 F (fun (z0 : List VV) (z1 : Nat) (z2 : Int) (z3 : Int) (z4 : Int) (z5 : Int) (z6 : Int) (z7 : Int) (z8 : Int) => k (.exit 2) (fS T_ref01_Number_1_0 [.c z0, .n z1, .i z2, .i z3, .i z4, .i z5, .i z6, .i z7, .i z8])) n x0 x1 x2 x3 x4 x5 x6 x7 x8
  | 0, _, _, _, _, _, _, _, _, _ => rfl
  | n + 1, x0, x1, x2, x3, x4, x5, x6, x7, x8 => by
    have h0 : ∀ (L_ref01_Number_0 : Nat → (List VV → Nat → Int → Int → Int → Int → Int → Int → R) → Nat → List VV → Nat → Int → Int → Int → Int → Int → Int → R) (L_ref01_Number_1 : Nat → (List VV → Nat → Int → Int → Int → Int → Int → Int → Int → R) → Nat → List VV → Nat → Int → Int → Int → Int → Int → Int → Int → R), iterC (codeL PP (words []) c_ref01_Number (tabI c_ref01_Number [⟨0, T_ref01_Number_0, fun k q => L_ref01_Number_0 F (fun (z0 : List VV) (z1 : Nat) (z2 : Int) (z3 : Int) (z4 : Int) (z5 : Int) (z6 : Int) (z7 : Int) => k (.exit 0) (fS T_ref01_Number_0_0 [.c z0, .n z1, .i z2, .i z3, .i z4, .i z5, .i z6, .i z7])) F (atC (nth q 0)) (atN (nth q 1)) (atI (nth q 2)) (atI (nth q 3)) (atI (nth q 4)) (atI (nth q 5)) (atI (nth q 6)) (atI (nth q 7))⟩, ⟨2, T_ref01_Number_1, fun k q => L_ref01_Number_1 F (fun (z0 : List VV) (z1 : Nat) (z2 : Int) (z3 : Int) (z4 : Int) (z5 : Int) (z6 : Int) (z7 : Int) (z8 : Int) => k (.exit 2) (fS T_ref01_Number_1_0 [.c z0, .n z1, .i z2, .i z3, .i z4, .i z5, .i z6, .i z7, .i z8])) F (atC (nth q 0)) (atN (nth q 1)) (atI (nth q 2)) (atI (nth q 3)) (atI (nth q 4)) (atI (nth q 5)) (atI (nth q 6)) (atI (nth q 7)) (atI (nth q 8))⟩]) (tabJ []) (loopAt PP 87 1) 2) (headOf c_ref01_Number 2) k (n + 1) (fS T_ref01_Number_1 [.c x0, .n x1, .i x2, .i x3, .i x4, .i x5, .i x6, .i x7, .i x8]) = (fun (rc : List VV → Nat → Int → Int → Int → Int → Int → Int → Int → R) (ex0 : List VV → Nat → Int → Int → Int → Int → Int → Int → Int → R) (x0 : List VV) (x1 : Nat) (x2 : Int) (x3 : Int) (x4 : Int) (x5 : Int) (x6 : Int) (x7 : Int) (x8 : Int) => (
  bif ((decide (x6 < 128))) then (
    bif ((decide (x6 < (((x1 : Nat) : Int))))) then (
      bif ((decide (0 ≤ x6)) && (decide (x6 < ((x1 : Nat) : Int)))) then (
        let v1037 : Nat := (0 + ((Int.toNat x6) * 1))
        bif ((isI .i64 x0[v1037]?) && true) then (
          rc x0 x1 x2 ((IntKind.wrap .u64 (x3 + ((IntKind.wrap .u64 (((IntKind.wrap .u64 ((iv x0[v1037]?)))) * x4)))))) ((IntKind.wrap .u64 (2 * x4))) x5 ((IntKind.wrap .i64 (x6 + 1))) x7 x8)
        else (
          none))
      else (
        none))
    else (
      ex0 x0 x1 x2 x3 x4 x5 x6 x7 x8))
  else (
    ex0 x0 x1 x2 x3 x4 x5 x6 x7 x8) : R)) (fun (y0 : List VV) (y1 : Nat) (y2 : Int) (y3 : Int) (y4 : Int) (y5 : Int) (y6 : Int) (y7 : Int) (y8 : Int) => iterC (codeL PP (words []) c_ref01_Number (tabI c_ref01_Number [⟨0, T_ref01_Number_0, fun k q => L_ref01_Number_0 F (fun (z0 : List VV) (z1 : Nat) (z2 : Int) (z3 : Int) (z4 : Int) (z5 : Int) (z6 : Int) (z7 : Int) => k (.exit 0) (fS T_ref01_Number_0_0 [.c z0, .n z1, .i z2, .i z3, .i z4, .i z5, .i z6, .i z7])) F (atC (nth q 0)) (atN (nth q 1)) (atI (nth q 2)) (atI (nth q 3)) (atI (nth q 4)) (atI (nth q 5)) (atI (nth q 6)) (atI (nth q 7))⟩, ⟨2, T_ref01_Number_1, fun k q => L_ref01_Number_1 F (fun (z0 : List VV) (z1 : Nat) (z2 : Int) (z3 : Int) (z4 : Int) (z5 : Int) (z6 : Int) (z7 : Int) (z8 : Int) => k (.exit 2) (fS T_ref01_Number_1_0 [.c z0, .n z1, .i z2, .i z3, .i z4, .i z5, .i z6, .i z7, .i z8])) F (atC (nth q 0)) (atN (nth q 1)) (atI (nth q 2)) (atI (nth q 3)) (atI (nth q 4)) (atI (nth q 5)) (atI (nth q 6)) (atI (nth q 7)) (atI (nth q 8))⟩]) (tabJ []) (loopAt PP 87 1) 2) (headOf c_ref01_Number 2) k n (fS T_ref01_Number_1 [.c y0, .n y1, .i y2, .i y3, .i y4, .i y5, .i y6, .i y7, .i y8])) (fun (z0 : List VV) (z1 : Nat) (z2 : Int) (z3 : Int) (z4 : Int) (z5 : Int) (z6 : Int) (z7 : Int) (z8 : Int) => k (.exit 2) (fS T_ref01_Number_1_0 [.c z0, .n z1, .i z2, .i z3, .i z4, .i z5, .i z6, .i z7, .i z8])) x0 x1 x2 x3 x4 x5 x6 x7 x8 := by
      intros
      kernel_rfl
    have h : iterC (codeL PP (S_ref01_Number F) c_ref01_Number (I_ref01_Number F) (J_ref01_Number F) (loopAt PP 87 1) 2) (headOf c_ref01_Number 2) k (n + 1) (fS T_ref01_Number_1 [.c x0, .n x1, .i x2, .i x3, .i x4, .i x5, .i x6, .i x7, .i x8]) = B_ref01_Number_1 F (fun (y0 : List VV) (y1 : Nat) (y2 : Int) (y3 : Int) (y4 : Int) (y5 : Int) (y6 : Int) (y7 : Int) (y8 : Int) => iterC (codeL PP (S_ref01_Number F) c_ref01_Number (I_ref01_Number F) (J_ref01_Number F) (loopAt PP 87 1) 2) (headOf c_ref01_Number 2) k n (fS T_ref01_Number_1 [.c y0, .n y1, .i y2, .i y3, .i y4, .i y5, .i y6, .i y7, .i y8])) (fun (z0 : List VV) (z1 : Nat) (z2 : Int) (z3 : Int) (z4 : Int) (z5 : Int) (z6 : Int) (z7 : Int) (z8 : Int) => k (.exit 2) (fS T_ref01_Number_1_0 [.c z0, .n z1, .i z2, .i z3, .i z4, .i z5, .i z6, .i z7, .i z8])) x0 x1 x2 x3 x4 x5 x6 x7 x8 := (h0 L_ref01_Number_0 L_ref01_Number_1).trans (by kernel_rfl)
    rw [h]
    simp only [lL_ref01_Number_1 F k n]
    rfl
def f_ref01_Number (F : Nat) (a0 : List VV) (a1 : Nat) : R :=
  L_ref01_Number_0 F (fun (v1017 : List VV) (v1018 : Nat) (v1019 : Int) (v1020 : Int) (v1021 : Int) (v1022 : Int) (v1023 : Int) (v1024 : Int) =>
    L_ref01_Number_1 F (fun (v1044 : List VV) (v1045 : Nat) (v1046 : Int) (v1047 : Int) (v1048 : Int) (v1049 : Int) (v1050 : Int) (v1051 : Int) (v1052 : Int) =>
      some (.v (.agg #[.int .i64 ((IntKind.wrap .i64 v1047)), .int .u64 v1046]))) F v1017 v1018 v1019 v1020 1 v1022 64 v1023 v1024) F a0 a1 0 0 1 0 0 0
theorem e_ref01_Number (F : Nat) (a0 : List VV) (a1 : Nat) : funL PP (S_ref01_Number F) c_ref01_Number (I_ref01_Number F) (J_ref01_Number F) 87 (fTs ti_ref01_Number [.c a0, .n a1]).1 = f_ref01_Number F a0 a1 := by
  have h : ∀ (L_ref01_Number_0 : Nat → (List VV → Nat → Int → Int → Int → Int → Int → Int → R) → Nat → List VV → Nat → Int → Int → Int → Int → Int → Int → R) (L_ref01_Number_1 : Nat → (List VV → Nat → Int → Int → Int → Int → Int → Int → Int → R) → Nat → List VV → Nat → Int → Int → Int → Int → Int → Int → Int → R), funL PP (words []) c_ref01_Number (tabI c_ref01_Number [⟨0, T_ref01_Number_0, fun k q => L_ref01_Number_0 F (fun (z0 : List VV) (z1 : Nat) (z2 : Int) (z3 : Int) (z4 : Int) (z5 : Int) (z6 : Int) (z7 : Int) => k (.exit 0) (fS T_ref01_Number_0_0 [.c z0, .n z1, .i z2, .i z3, .i z4, .i z5, .i z6, .i z7])) F (atC (nth q 0)) (atN (nth q 1)) (atI (nth q 2)) (atI (nth q 3)) (atI (nth q 4)) (atI (nth q 5)) (atI (nth q 6)) (atI (nth q 7))⟩, ⟨2, T_ref01_Number_1, fun k q => L_ref01_Number_1 F (fun (z0 : List VV) (z1 : Nat) (z2 : Int) (z3 : Int) (z4 : Int) (z5 : Int) (z6 : Int) (z7 : Int) (z8 : Int) => k (.exit 2) (fS T_ref01_Number_1_0 [.c z0, .n z1, .i z2, .i z3, .i z4, .i z5, .i z6, .i z7, .i z8])) F (atC (nth q 0)) (atN (nth q 1)) (atI (nth q 2)) (atI (nth q 3)) (atI (nth q 4)) (atI (nth q 5)) (atI (nth q 6)) (atI (nth q 7)) (atI (nth q 8))⟩]) (tabJ []) 87 (fTs ti_ref01_Number [.c a0, .n a1]).1 = (
  L_ref01_Number_0 F (fun (v1017 : List VV) (v1018 : Nat) (v1019 : Int) (v1020 : Int) (v1021 : Int) (v1022 : Int) (v1023 : Int) (v1024 : Int) =>
    L_ref01_Number_1 F (fun (v1044 : List VV) (v1045 : Nat) (v1046 : Int) (v1047 : Int) (v1048 : Int) (v1049 : Int) (v1050 : Int) (v1051 : Int) (v1052 : Int) =>
      some (.v (.agg #[.int .i64 ((IntKind.wrap .i64 v1047)), .int .u64 v1046]))) F v1017 v1018 v1019 v1020 1 v1022 64 v1023 v1024) F a0 a1 0 0 1 0 0 0 : R) := by
    intros
    kernel_rfl
  exact (h L_ref01_Number_0 L_ref01_Number_1).trans (by kernel_rfl)
def ok_ref01_Number (F : Nat) (a0 : List VV) (a1 : Nat) : Bool := okT to_ref01_Number (f_ref01_Number F a0 a1)
def o_ref01_Number_0 (F : Nat) (a0 : List VV) (a1 : Nat) : Int := atI (nth (outT to_ref01_Number (f_ref01_Number F a0 a1)) 0)
def o_ref01_Number_1 (F : Nat) (a0 : List VV) (a1 : Nat) : Int := atI (nth (outT to_ref01_Number (f_ref01_Number F a0 a1)) 1)
theorem k_ref01_Number (F : Nat) (a0 : List VV) (a1 : Nat) {z0 : Int} {z1 : Int} (h : f_ref01_Number F a0 a1 = some (.v (.agg #[.int .i64 z0, .int .u64 z1]))) : ok_ref01_Number F a0 a1 = true ∧ o_ref01_Number_0 F a0 a1 = z0 ∧ o_ref01_Number_1 F a0 a1 = z1 := by
  refine ⟨?_, ?_, ?_⟩
  · unfold ok_ref01_Number; rw [h]; kernel_rfl
  · unfold o_ref01_Number_0; rw [h]; kernel_rfl
  · unfold o_ref01_Number_1; rw [h]; kernel_rfl
def s_ref01_Number (F : Nat) : List VV → Option (Bool × VV) := spec ti_ref01_Number to_ref01_Number (fun q => (ok_ref01_Number F (atC (nth q 0)) (atN (nth q 1)))) (fun q => [.i (o_ref01_Number_0 F (atC (nth q 0)) (atN (nth q 1))), .i (o_ref01_Number_1 F (atC (nth q 0)) (atN (nth q 1)))])
theorem hS_ref01_Number (F : Nat) : ∀ f, Good PP f (unS (S_ref01_Number F f)) := words_good fun p hp => by
  cases hp
theorem hl_ref01_Number (F : Nat) : ∀ p ∈ loopsIn PP 87, LoopOK PP (S_ref01_Number F) c_ref01_Number F (I_ref01_Number F) (J_ref01_Number F) p :=
  loops_of [(0, loopAt PP 87 0), (2, loopAt PP 87 1)] (by kernel_rfl) (all_cons
    (loop_ok (W_ref01_Number F) rfl (tab_cons (fun _ k q => Le.ofEq ((lL_ref01_Number_0 F k F (atC (nth q 0)) (atN (nth q 1)) (atI (nth q 2)) (atI (nth q 3)) (atI (nth q 4)) (atI (nth q 5)) (atI (nth q 6)) (atI (nth q 7))).symm.trans (congrArg (iterC (codeL PP (S_ref01_Number F) c_ref01_Number (I_ref01_Number F) (J_ref01_Number F) (loopAt PP 87 0) 0) (headOf c_ref01_Number 0) k F) (show fS T_ref01_Number_0 [.c (atC (nth q 0)), .n (atN (nth q 1)), .i (atI (nth q 2)), .i (atI (nth q 3)), .i (atI (nth q 4)), .i (atI (nth q 5)), .i (atI (nth q 6)), .i (atI (nth q 7))] = fS T_ref01_Number_0 q by kernel_rfl)))) (tab_cons (fun h => absurd h (by decide)) tab_nil))) (all_cons
    (loop_ok (W_ref01_Number F) rfl (tab_cons (fun h => absurd h (by decide)) (tab_cons (fun _ k q => Le.ofEq ((lL_ref01_Number_1 F k F (atC (nth q 0)) (atN (nth q 1)) (atI (nth q 2)) (atI (nth q 3)) (atI (nth q 4)) (atI (nth q 5)) (atI (nth q 6)) (atI (nth q 7)) (atI (nth q 8))).symm.trans (congrArg (iterC (codeL PP (S_ref01_Number F) c_ref01_Number (I_ref01_Number F) (J_ref01_Number F) (loopAt PP 87 1) 2) (headOf c_ref01_Number 2) k F) (show fS T_ref01_Number_1 [.c (atC (nth q 0)), .n (atN (nth q 1)), .i (atI (nth q 2)), .i (atI (nth q 3)), .i (atI (nth q 4)), .i (atI (nth q 5)), .i (atI (nth q 6)), .i (atI (nth q 7)), .i (atI (nth q 8))] = fS T_ref01_Number_1 q by kernel_rfl)))) tab_nil))) all_nil))
theorem hj_ref01_Number (F : Nat) : ∀ p ∈ joinsIn PP c_ref01_Number 87, JoinOK PP (S_ref01_Number F) c_ref01_Number (I_ref01_Number F) (J_ref01_Number F) p :=
  joins_of [] (by kernel_rfl) all_nil
theorem g_ref01_Number (F : Nat) : Good PP 87 (unS (s_ref01_Number F)) :=
  fun_spec (hS_ref01_Number F) (by kernel_rfl) (by kernel_rfl) (C := c_ref01_Number) (F := fun q => (f_ref01_Number F (atC (nth q 0)) (atN (nth q 1)))) (fun _ => F) (fun _ => I_ref01_Number F) (fun _ => J_ref01_Number F) (fun _ => hl_ref01_Number F) (fun _ => hj_ref01_Number F)
    (fun q => (congrArg (funL PP (S_ref01_Number F) c_ref01_Number (I_ref01_Number F) (J_ref01_Number F) 87) (show (fTs ti_ref01_Number q).1 = (fTs ti_ref01_Number [.c (atC (nth q 0)), .n (atN (nth q 1))]).1 by kernel_rfl)).trans (e_ref01_Number F (atC (nth q 0)) (atN (nth q 1))))
    (fun _ h => (okT_fill h).trans (congrArg some (by kernel_rfl)))

end Go.Xv
set_option linter.unusedVariables false
namespace Go.Xv
/- 30 _ref01_Add -/
def c_ref01_Add : Cfg := ⟨[0, 1, 2, 3, 4, 5, 6, 7, 8, 9, 10, 17], [(0, [0, 1, 2, 3, 4, 5, 6, 7, 8, 9, 11, 12, 13, 14, 15, 38, 39])], [34], []⟩
def ti_ref01_Add : List TV := [.v (.agg [.int .i64, .int .u64]), .v (.agg [.int .i64, .int .u64])]
def to_ref01_Add : TV := .v (.agg [.int .i64, .int .u64])
def S_ref01_Add (F : Nat) : FuncId → List VV → Option (Bool × VV) := words [(86, s_ref01_Digits F), (87, s_ref01_Number F)]
def T_ref01_Add_0 : TS := ⟨[(0, .v (.agg [.int .i64, .int .u64])), (1, .v (.agg [.int .i64, .int .u64])), (2, .lp 0 (.lit 0)), (3, .lp 1 (.lit 0)), (4, .lp 2 (.lit 0)), (5, .ls 3 (.lit 0) .hole 1), (6, .ls 4 (.lit 0) .hole 1), (7, .ls 5 (.lit 0) .hole 1), (8, .v (.int .i64)), (9, .v (.int .i64))], [(0, ⟨(.ex [.v (.int .i64), .v (.int .u64)]), true⟩), (1, ⟨(.ex [.v (.int .i64), .v (.int .u64)]), true⟩), (2, ⟨(.ex [.v (.int .i64), .v (.int .u64)]), true⟩), (3, ⟨.hole, true⟩), (4, ⟨.hole, true⟩), (5, ⟨.hole, true⟩)], 6⟩
def T_ref01_Add_0_0 : TS := ⟨[(0, .v (.agg [.int .i64, .int .u64])), (1, .v (.agg [.int .i64, .int .u64])), (2, .lp 0 (.lit 0)), (3, .lp 1 (.lit 0)), (4, .lp 2 (.lit 0)), (5, .ls 3 (.lit 0) .hole 1), (6, .ls 4 (.lit 0) .hole 1), (7, .ls 5 (.lit 0) .hole 1), (8, .v (.int .i64)), (9, .v (.int .i64))], [(0, ⟨(.ex [.v (.int .i64), .v (.int .u64)]), true⟩), (1, ⟨(.ex [.v (.int .i64), .v (.int .u64)]), true⟩), (2, ⟨(.ex [.v (.int .i64), .v (.int .u64)]), true⟩), (3, ⟨.hole, true⟩), (4, ⟨.hole, true⟩), (5, ⟨.hole, true⟩)], 6⟩
def B_ref01_Add_0 (F : Nat) (rc : Int → Int → Int → Int → Nat → Nat → Nat → Int → Int → Int → Int → Int → Int → Int → Int → List VV → List VV → List VV → R) (ex0 : Int → Int → Int → Int → Nat → Nat → Nat → Int → Int → Int → Int → Int → Int → Int → Int → List VV → List VV → List VV → R) (x0 : Int) (x1 : Int) (x2 : Int) (x3 : Int) (x4 : Nat) (x5 : Nat) (x6 : Nat) (x7 : Int) (x8 : Int) (x9 : Int) (x10 : Int) (x11 : Int) (x12 : Int) (x13 : Int) (x14 : Int) (x15 : List VV) (x16 : List VV) (x17 : List VV) : R :=
  bif ((decide (x8 < 128))) then (
    bif ((decide (0 ≤ x8)) && (decide (x8 < ((x4 : Nat) : Int)))) then (
      let v970 : Nat := (0 + ((Int.toNat x8) * 1))
      bif ((isI .i64 x15[v970]?) && true) then (
        bif ((decide (0 ≤ x8)) && (decide (x8 < ((x5 : Nat) : Int)))) then (
          let v972 : Nat := (0 + ((Int.toNat x8) * 1))
          bif ((isI .i64 x16[v972]?) && true) then (
            let v975 : Int := (IntKind.wrap .i64 (((IntKind.wrap .i64 (((iv x15[v970]?)) + ((iv x16[v972]?))))) + x7))
            bif (((decide ((0 + (x6 * 1)) ≤ x17.length)) && true) && (decide ((x6 + 1) * 9 ≤ bigger))) then (
              rc x0 x1 x2 x3 x4 x5 ((x6 + 1)) ((IntKind.wrap .i64 (Int.tdiv v975 2))) ((IntKind.wrap .i64 (x8 + 1))) x9 x10 x11 x12 x13 x14 x15 x16 ((((x17.drop 0).take (x6 * 1)) ++ [.v (.int .i64 ((Int.tmod v975 2)))])))
            else (
              none))
          else (
            none))
        else (
          none))
      else (
        none))
    else (
      none))
  else (
    ex0 x0 x1 x2 x3 x4 x5 x6 x7 x8 x9 x10 x11 x12 x13 x14 x15 x16 x17)
def L_ref01_Add_0 (F : Nat) (ex0 : Int → Int → Int → Int → Nat → Nat → Nat → Int → Int → Int → Int → Int → Int → Int → Int → List VV → List VV → List VV → R) : Nat → Int → Int → Int → Int → Nat → Nat → Nat → Int → Int → Int → Int → Int → Int → Int → Int → List VV → List VV → List VV → R
  | 0, _, _, _, _, _, _, _, _, _, _, _, _, _, _, _, _, _, _ => none
  | n + 1, x0, x1, x2, x3, x4, x5, x6, x7, x8, x9, x10, x11, x12, x13, x14, x15, x16, x17 => B_ref01_Add_0 F (L_ref01_Add_0 F ex0 n) ex0 x0 x1 x2 x3 x4 x5 x6 x7 x8 x9 x10 x11 x12 x13 x14 x15 x16 x17
def W_ref01_Add (F : Nat) : List LW := [⟨0, T_ref01_Add_0, fun k q => L_ref01_Add_0 F (fun (z0 : Int) (z1 : Int) (z2 : Int) (z3 : Int) (z4 : Nat) (z5 : Nat) (z6 : Nat) (z7 : Int) (z8 : Int) (z9 : Int) (z10 : Int) (z11 : Int) (z12 : Int) (z13 : Int) (z14 : Int) (z15 : List VV) (z16 : List VV) (z17 : List VV) => k (.exit 0) (fS T_ref01_Add_0_0 [.i z0, .i z1, .i z2, .i z3, .n z4, .n z5, .n z6, .i z7, .i z8, .i z9, .i z10, .i z11, .i z12, .i z13, .i z14, .c z15, .c z16, .c z17])) F (atI (nth q 0)) (atI (nth q 1)) (atI (nth q 2)) (atI (nth q 3)) (atN (nth q 4)) (atN (nth q 5)) (atN (nth q 6)) (atI (nth q 7)) (atI (nth q 8)) (atI (nth q 9)) (atI (nth q 10)) (atI (nth q 11)) (atI (nth q 12)) (atI (nth q 13)) (atI (nth q 14)) (atC (nth q 15)) (atC (nth q 16)) (atC (nth q 17))⟩]
def I_ref01_Add (F : Nat) : Nat → VS → (Exit → VS → R) → R := tabI c_ref01_Add (W_ref01_Add F)
def WJ_ref01_Add (F : Nat) : List LJ := []
def J_ref01_Add (F : Nat) : Nat → Nat → VS → (Exit → VS → R) → R := tabJ (WJ_ref01_Add F)
theorem lL_ref01_Add_0 (F : Nat) (k : Exit → VS → R) : ∀ (n : Nat) (x0 : Int) (x1 : Int) (x2 : Int) (x3 : Int) (x4 : Nat) (x5 : Nat) (x6 : Nat) (x7 : Int) (x8 : Int) (x9 : Int) (x10 : Int) (x11 : Int) (x12 : Int) (x13 : Int) (x14 : Int) (x15 : List VV) (x16 : List VV) (x17 : List VV), iterC (codeL PP (S_ref01_Add F) c_ref01_Add (I_ref01_Add F) (J_ref01_Add F) (loopAt PP 30 0) 0) (headOf c_ref01_Add 0) k n (fS T_ref01_Add_0 [.i x0, .i x1, .i x2, .i x3, .n x4, .n x5, .n x6, .i x7, .i x8, .i x9, .i x10, .i x11, .i x12, .i x13, .i x14, .c x15, .c x16, .c x17]) = L_ref01_Add_0 F (fun (z0 : Int) (z1 : Int) (z2 : Int) (z3 : Int) (z4 : Nat) (z5 : Nat) (z6 : Nat) (z7 : Int) (z8 : Int) (z9 : Int) (z10 : Int) (z11 : Int) (z12 : Int) (z13 : Int) (z14 : Int) (z15 : List VV) (z16 : List VV) (z17 : List VV) => k (.exit 0) (fS T_ref01_Add_0_0 [.i z0, .i z1, .i z2, .i z3, .n z4, .n z5, .n z6, .i z7, .i z8, .i z9, .i z10, .i z11, .i z12, .i z13, .i z14, .c z15, .c z16, .c z17])) n x0 x1 x2 x3 x4 x5 x6 x7 x8 x9 x10 x11 x12 x13 x14 x15 x16 x17
  | 0, _, _, _, _, _, _, _, _, _, _, _, _, _, _, _, _, _, _ => rfl
  | n + 1, x0, x1, x2, x3, x4, x5, x6, x7, x8, x9, x10, x11, x12, x13, x14, x15, x16, x17 => by
    have h0 : ∀ (ok_ref01_Digits : Nat → Int → Int → Bool) (o_ref01_Digits_0 : Nat → Int → Int → List VV) (o_ref01_Digits_1 : Nat → Int → Int → Nat) (ok_ref01_Number : Nat → List VV → Nat → Bool) (o_ref01_Number_0 : Nat → List VV → Nat → Int) (o_ref01_Number_1 : Nat → List VV → Nat → Int) (L_ref01_Add_0 : Nat → (Int → Int → Int → Int → Nat → Nat → Nat → Int → Int → Int → Int → Int → Int → Int → Int → List VV → List VV → List VV → R) → Nat → Int → Int → Int → Int → Nat → Nat → Nat → Int → Int → Int → Int → Int → Int → Int → Int → List VV → List VV → List VV → R), iterC (codeL PP (words [(86, spec ti_ref01_Digits to_ref01_Digits (fun q => (ok_ref01_Digits F (atI (nth q 0)) (atI (nth q 1)))) (fun q => [.c (o_ref01_Digits_0 F (atI (nth q 0)) (atI (nth q 1))), .n (o_ref01_Digits_1 F (atI (nth q 0)) (atI (nth q 1)))])), (87, spec ti_ref01_Number to_ref01_Number (fun q => (ok_ref01_Number F (atC (nth q 0)) (atN (nth q 1)))) (fun q => [.i (o_ref01_Number_0 F (atC (nth q 0)) (atN (nth q 1))), .i (o_ref01_Number_1 F (atC (nth q 0)) (atN (nth q 1)))]))]) c_ref01_Add (tabI c_ref01_Add [⟨0, T_ref01_Add_0, fun k q => L_ref01_Add_0 F (fun (z0 : Int) (z1 : Int) (z2 : Int) (z3 : Int) (z4 : Nat) (z5 : Nat) (z6 : Nat) (z7 : Int) (z8 : Int) (z9 : Int) (z10 : Int) (z11 : Int) (z12 : Int) (z13 : Int) (z14 : Int) (z15 : List VV) (z16 : List VV) (z17 : List VV) => k (.exit 0) (fS T_ref01_Add_0_0 [.i z0, .i z1, .i z2, .i z3, .n z4, .n z5, .n z6, .i z7, .i z8, .i z9, .i z10, .i z11, .i z12, .i z13, .i z14, .c z15, .c z16, .c z17])) F (atI (nth q 0)) (atI (nth q 1)) (atI (nth q 2)) (atI (nth q 3)) (atN (nth q 4)) (atN (nth q 5)) (atN (nth q 6)) (atI (nth q 7)) (atI (nth q 8)) (atI (nth q 9)) (atI (nth q 10)) (atI (nth q 11)) (atI (nth q 12)) (atI (nth q 13)) (atI (nth q 14)) (atC (nth q 15)) (atC (nth q 16)) (atC (nth q 17))⟩]) (tabJ []) (loopAt PP 30 0) 0) (headOf c_ref01_Add 0) k (n + 1) (fS T_ref01_Add_0 [.i x0, .i x1, .i x2, .i x3, .n x4, .n x5, .n x6, .i x7, .i x8, .i x9, .i x10, .i x11, .i x12, .i x13, .i x14, .c x15, .c x16, .c x17]) = (fun (rc : Int → Int → Int → Int → Nat → Nat → Nat → Int → Int → Int → Int → Int → Int → Int → Int → List VV → List VV → List VV → R) (ex0 : Int → Int → Int → Int → Nat → Nat → Nat → Int → Int → Int → Int → Int → Int → Int → Int → List VV → List VV → List VV → R) (x0 : Int) (x1 : Int) (x2 : Int) (x3 : Int) (x4 : Nat) (x5 : Nat) (x6 : Nat) (x7 : Int) (x8 : Int) (x9 : Int) (x10 : Int) (x11 : Int) (x12 : Int) (x13 : Int) (x14 : Int) (x15 : List VV) (x16 : List VV) (x17 : List VV) => (
  bif ((decide (x8 < 128))) then (
    bif ((decide (0 ≤ x8)) && (decide (x8 < ((x4 : Nat) : Int)))) then (
      let v970 : Nat := (0 + ((Int.toNat x8) * 1))
      bif ((isI .i64 x15[v970]?) && true) then (
        bif ((decide (0 ≤ x8)) && (decide (x8 < ((x5 : Nat) : Int)))) then (
          let v972 : Nat := (0 + ((Int.toNat x8) * 1))
          bif ((isI .i64 x16[v972]?) && true) then (
            let v975 : Int := (IntKind.wrap .i64 (((IntKind.wrap .i64 (((iv x15[v970]?)) + ((iv x16[v972]?))))) + x7))
            bif (((decide ((0 + (x6 * 1)) ≤ x17.length)) && true) && (decide ((x6 + 1) * 9 ≤ bigger))) then (
              rc x0 x1 x2 x3 x4 x5 ((x6 + 1)) ((IntKind.wrap .i64 (Int.tdiv v975 2))) ((IntKind.wrap .i64 (x8 + 1))) x9 x10 x11 x12 x13 x14 x15 x16 ((((x17.drop 0).take (x6 * 1)) ++ [.v (.int .i64 ((Int.tmod v975 2)))])))
            else (
              none))
          else (
            none))
        else (
          none))
      else (
        none))
    else (
      none))
  else (
    ex0 x0 x1 x2 x3 x4 x5 x6 x7 x8 x9 x10 x11 x12 x13 x14 x15 x16 x17) : R)) (fun (y0 : Int) (y1 : Int) (y2 : Int) (y3 : Int) (y4 : Nat) (y5 : Nat) (y6 : Nat) (y7 : Int) (y8 : Int) (y9 : Int) (y10 : Int) (y11 : Int) (y12 : Int) (y13 : Int) (y14 : Int) (y15 : List VV) (y16 : List VV) (y17 : List VV) => iterC (codeL PP (words [(86, spec ti_ref01_Digits to_ref01_Digits (fun q => (ok_ref01_Digits F (atI (nth q 0)) (atI (nth q 1)))) (fun q => [.c (o_ref01_Digits_0 F (atI (nth q 0)) (atI (nth q 1))), .n (o_ref01_Digits_1 F (atI (nth q 0)) (atI (nth q 1)))])), (87, spec ti_ref01_Number to_ref01_Number (fun q => (ok_ref01_Number F (atC (nth q 0)) (atN (nth q 1)))) (fun q => [.i (o_ref01_Number_0 F (atC (nth q 0)) (atN (nth q 1))), .i (o_ref01_Number_1 F (atC (nth q 0)) (atN (nth q 1)))]))]) c_ref01_Add (tabI c_ref01_Add [⟨0, T_ref01_Add_0, fun k q => L_ref01_Add_0 F (fun (z0 : Int) (z1 : Int) (z2 : Int) (z3 : Int) (z4 : Nat) (z5 : Nat) (z6 : Nat) (z7 : Int) (z8 : Int) (z9 : Int) (z10 : Int) (z11 : Int) (z12 : Int) (z13 : Int) (z14 : Int) (z15 : List VV) (z16 : List VV) (z17 : List VV) => k (.exit 0) (fS T_ref01_Add_0_0 [.i z0, .i z1, .i z2, .i z3, .n z4, .n z5, .n z6, .i z7, .i z8, .i z9, .i z10, .i z11, .i z12, .i z13, .i z14, .c z15, .c z16, .c z17])) F (atI (nth q 0)) (atI (nth q 1)) (atI (nth q 2)) (atI (nth q 3)) (atN (nth q 4)) (atN (nth q 5)) (atN (nth q 6)) (atI (nth q 7)) (atI (nth q 8)) (atI (nth q 9)) (atI (nth q 10)) (atI (nth q 11)) (atI (nth q 12)) (atI (nth q 13)) (atI (nth q 14)) (atC (nth q 15)) (atC (nth q 16)) (atC (nth q 17))⟩]) (tabJ []) (loopAt PP 30 0) 0) (headOf c_ref01_Add 0) k n (fS T_ref01_Add_0 [.i y0, .i y1, .i y2, .i y3, .n y4, .n y5, .n y6, .i y7, .i y8, .i y9, .i y10, .i y11, .i y12, .i y13, .i y14, .c y15, .c y16, .c y17])) (fun (z0 : Int) (z1 : Int) (z2 : Int) (z3 : Int) (z4 : Nat) (z5 : Nat) (z6 : Nat) (z7 : Int) (z8 : Int) (z9 : Int) (z10 : Int) (z11 : Int) (z12 : Int) (z13 : Int) (z14 : Int) (z15 : List VV) (z16 : List VV) (z17 : List VV) => k (.exit 0) (fS T_ref01_Add_0_0 [.i z0, .i z1, .i z2, .i z3, .n z4, .n z5, .n z6, .i z7, .i z8, .i z9, .i z10, .i z11, .i z12, .i z13, .i z14, .c z15, .c z16, .c z17])) x0 x1 x2 x3 x4 x5 x6 x7 x8 x9 x10 x11 x12 x13 x14 x15 x16 x17 := by
      intros
      kernel_rfl
    have h : iterC (codeL PP (S_ref01_Add F) c_ref01_Add (I_ref01_Add F) (J_ref01_Add F) (loopAt PP 30 0) 0) (headOf c_ref01_Add 0) k (n + 1) (fS T_ref01_Add_0 [.i x0, .i x1, .i x2, .i x3, .n x4, .n x5, .n x6, .i x7, .i x8, .i x9, .i x10, .i x11, .i x12, .i x13, .i x14, .c x15, .c x16, .c x17]) = B_ref01_Add_0 F (fun (y0 : Int) (y1 : Int) (y2 : Int) (y3 : Int) (y4 : Nat) (y5 : Nat) (y6 : Nat) (y7 : Int) (y8 : Int) (y9 : Int) (y10 : Int) (y11 : Int) (y12 : Int) (y13 : Int) (y14 : Int) (y15 : List VV) (y16 : List VV) (y17 : List VV) => iterC (codeL PP (S_ref01_Add F) c_ref01_Add (I_ref01_Add F) (J_ref01_Add F) (loopAt PP 30 0) 0) (headOf c_ref01_Add 0) k n (fS T_ref01_Add_0 [.i y0, .i y1, .i y2, .i y3, .n y4, .n y5, .n y6, .i y7, .i y8, .i y9, .i y10, .i y11, .i y12, .i y13, .i y14, .c y15, .c y16, .c y17])) (fun (z0 : Int) (z1 : Int) (z2 : Int) (z3 : Int) (z4 : Nat) (z5 : Nat) (z6 : Nat) (z7 : Int) (z8 : Int) (z9 : Int) (z10 : Int) (z11 : Int) (z12 : Int) (z13 : Int) (z14 : Int) (z15 : List VV) (z16 : List VV) (z17 : List VV) => k (.exit 0) (fS T_ref01_Add_0_0 [.i z0, .i z1, .i z2, .i z3, .n z4, .n z5, .n z6, .i z7, .i z8, .i z9, .i z10, .i z11, .i z12, .i z13, .i z14, .c z15, .c z16, .c z17])) x0 x1 x2 x3 x4 x5 x6 x7 x8 x9 x10 x11 x12 x13 x14 x15 x16 x17 := (h0 ok_ref01_Digits o_ref01_Digits_0 o_ref01_Digits_1 ok_ref01_Number o_ref01_Number_0 o_ref01_Number_1 L_ref01_Add_0).trans (by kernel_rfl)
    rw [h]
    simp only [lL_ref01_Add_0 F k n]
    rfl
def f_ref01_Add (F : Nat) (a0 : Int) (a1 : Int) (a2 : Int) (a3 : Int) : R :=
  bif (ok_ref01_Digits F a0 a1) then (
    bif (ok_ref01_Digits F a2 a3) then (
      L_ref01_Add_0 F (fun (v981 : Int) (v982 : Int) (v983 : Int) (v984 : Int) (v985 : Nat) (v986 : Nat) (v987 : Nat) (v988 : Int) (v989 : Int) (v990 : Int) (v991 : Int) (v992 : Int) (v993 : Int) (v994 : Int) (v995 : Int) (v996 : List VV) (v997 : List VV) (v998 : List VV) =>
        bif (ok_ref01_Number F v998 v987) then (
          some (.v (.agg #[.int .i64 ((o_ref01_Number_0 F v998 v987)), .int .u64 ((o_ref01_Number_1 F v998 v987))])))
        else (
          none)) F a0 a1 a2 a3 ((o_ref01_Digits_1 F a0 a1)) ((o_ref01_Digits_1 F a2 a3)) 0 0 0 a0 a1 a2 a3 0 0 ((o_ref01_Digits_0 F a0 a1)) ((o_ref01_Digits_0 F a2 a3)) [])
    else (
      none))
  else (
    none)
theorem e_ref01_Add (F : Nat) (a0 : Int) (a1 : Int) (a2 : Int) (a3 : Int) : funL PP (S_ref01_Add F) c_ref01_Add (I_ref01_Add F) (J_ref01_Add F) 30 (fTs ti_ref01_Add [.i a0, .i a1, .i a2, .i a3]).1 = f_ref01_Add F a0 a1 a2 a3 := by
  have h : ∀ (ok_ref01_Digits : Nat → Int → Int → Bool) (o_ref01_Digits_0 : Nat → Int → Int → List VV) (o_ref01_Digits_1 : Nat → Int → Int → Nat) (ok_ref01_Number : Nat → List VV → Nat → Bool) (o_ref01_Number_0 : Nat → List VV → Nat → Int) (o_ref01_Number_1 : Nat → List VV → Nat → Int) (L_ref01_Add_0 : Nat → (Int → Int → Int → Int → Nat → Nat → Nat → Int → Int → Int → Int → Int → Int → Int → Int → List VV → List VV → List VV → R) → Nat → Int → Int → Int → Int → Nat → Nat → Nat → Int → Int → Int → Int → Int → Int → Int → Int → List VV → List VV → List VV → R), funL PP (words [(86, spec ti_ref01_Digits to_ref01_Digits (fun q => (ok_ref01_Digits F (atI (nth q 0)) (atI (nth q 1)))) (fun q => [.c (o_ref01_Digits_0 F (atI (nth q 0)) (atI (nth q 1))), .n (o_ref01_Digits_1 F (atI (nth q 0)) (atI (nth q 1)))])), (87, spec ti_ref01_Number to_ref01_Number (fun q => (ok_ref01_Number F (atC (nth q 0)) (atN (nth q 1)))) (fun q => [.i (o_ref01_Number_0 F (atC (nth q 0)) (atN (nth q 1))), .i (o_ref01_Number_1 F (atC (nth q 0)) (atN (nth q 1)))]))]) c_ref01_Add (tabI c_ref01_Add [⟨0, T_ref01_Add_0, fun k q => L_ref01_Add_0 F (fun (z0 : Int) (z1 : Int) (z2 : Int) (z3 : Int) (z4 : Nat) (z5 : Nat) (z6 : Nat) (z7 : Int) (z8 : Int) (z9 : Int) (z10 : Int) (z11 : Int) (z12 : Int) (z13 : Int) (z14 : Int) (z15 : List VV) (z16 : List VV) (z17 : List VV) => k (.exit 0) (fS T_ref01_Add_0_0 [.i z0, .i z1, .i z2, .i z3, .n z4, .n z5, .n z6, .i z7, .i z8, .i z9, .i z10, .i z11, .i z12, .i z13, .i z14, .c z15, .c z16, .c z17])) F (atI (nth q 0)) (atI (nth q 1)) (atI (nth q 2)) (atI (nth q 3)) (atN (nth q 4)) (atN (nth q 5)) (atN (nth q 6)) (atI (nth q 7)) (atI (nth q 8)) (atI (nth q 9)) (atI (nth q 10)) (atI (nth q 11)) (atI (nth q 12)) (atI (nth q 13)) (atI (nth q 14)) (atC (nth q 15)) (atC (nth q 16)) (atC (nth q 17))⟩]) (tabJ []) 30 (fTs ti_ref01_Add [.i a0, .i a1, .i a2, .i a3]).1 = (
  bif (ok_ref01_Digits F a0 a1) then (
    bif (ok_ref01_Digits F a2 a3) then (
      L_ref01_Add_0 F (fun (v981 : Int) (v982 : Int) (v983 : Int) (v984 : Int) (v985 : Nat) (v986 : Nat) (v987 : Nat) (v988 : Int) (v989 : Int) (v990 : Int) (v991 : Int) (v992 : Int) (v993 : Int) (v994 : Int) (v995 : Int) (v996 : List VV) (v997 : List VV) (v998 : List VV) =>
        bif (ok_ref01_Number F v998 v987) then (
          some (.v (.agg #[.int .i64 ((o_ref01_Number_0 F v998 v987)), .int .u64 ((o_ref01_Number_1 F v998 v987))])))
        else (
          none)) F a0 a1 a2 a3 ((o_ref01_Digits_1 F a0 a1)) ((o_ref01_Digits_1 F a2 a3)) 0 0 0 a0 a1 a2 a3 0 0 ((o_ref01_Digits_0 F a0 a1)) ((o_ref01_Digits_0 F a2 a3)) [])
    else (
      none))
  else (
    none) : R) := by
    intros
    kernel_rfl
  exact (h ok_ref01_Digits o_ref01_Digits_0 o_ref01_Digits_1 ok_ref01_Number o_ref01_Number_0 o_ref01_Number_1 L_ref01_Add_0).trans (by kernel_rfl)
def ok_ref01_Add (F : Nat) (a0 : Int) (a1 : Int) (a2 : Int) (a3 : Int) : Bool := okT to_ref01_Add (f_ref01_Add F a0 a1 a2 a3)
def o_ref01_Add_0 (F : Nat) (a0 : Int) (a1 : Int) (a2 : Int) (a3 : Int) : Int := atI (nth (outT to_ref01_Add (f_ref01_Add F a0 a1 a2 a3)) 0)
def o_ref01_Add_1 (F : Nat) (a0 : Int) (a1 : Int) (a2 : Int) (a3 : Int) : Int := atI (nth (outT to_ref01_Add (f_ref01_Add F a0 a1 a2 a3)) 1)
theorem k_ref01_Add (F : Nat) (a0 : Int) (a1 : Int) (a2 : Int) (a3 : Int) {z0 : Int} {z1 : Int} (h : f_ref01_Add F a0 a1 a2 a3 = some (.v (.agg #[.int .i64 z0, .int .u64 z1]))) : ok_ref01_Add F a0 a1 a2 a3 = true ∧ o_ref01_Add_0 F a0 a1 a2 a3 = z0 ∧ o_ref01_Add_1 F a0 a1 a2 a3 = z1 := by
  refine ⟨?_, ?_, ?_⟩
  · unfold ok_ref01_Add; rw [h]; kernel_rfl
  · unfold o_ref01_Add_0; rw [h]; kernel_rfl
  · unfold o_ref01_Add_1; rw [h]; kernel_rfl
def s_ref01_Add (F : Nat) : List VV → Option (Bool × VV) := spec ti_ref01_Add to_ref01_Add (fun q => (ok_ref01_Add F (atI (nth q 0)) (atI (nth q 1)) (atI (nth q 2)) (atI (nth q 3)))) (fun q => [.i (o_ref01_Add_0 F (atI (nth q 0)) (atI (nth q 1)) (atI (nth q 2)) (atI (nth q 3))), .i (o_ref01_Add_1 F (atI (nth q 0)) (atI (nth q 1)) (atI (nth q 2)) (atI (nth q 3)))])
theorem hS_ref01_Add (F : Nat) : ∀ f, Good PP f (unS (S_ref01_Add F f)) := words_good fun p hp => by
  simp only [List.mem_cons, List.not_mem_nil, or_false] at hp
  rcases hp with rfl | rfl
  · exact g_ref01_Digits F
  · exact g_ref01_Number F
theorem hl_ref01_Add (F : Nat) : ∀ p ∈ loopsIn PP 30, LoopOK PP (S_ref01_Add F) c_ref01_Add F (I_ref01_Add F) (J_ref01_Add F) p :=
  loops_of [(0, loopAt PP 30 0)] (by kernel_rfl) (all_cons
    (loop_ok (W_ref01_Add F) rfl (tab_cons (fun _ k q => Le.ofEq ((lL_ref01_Add_0 F k F (atI (nth q 0)) (atI (nth q 1)) (atI (nth q 2)) (atI (nth q 3)) (atN (nth q 4)) (atN (nth q 5)) (atN (nth q 6)) (atI (nth q 7)) (atI (nth q 8)) (atI (nth q 9)) (atI (nth q 10)) (atI (nth q 11)) (atI (nth q 12)) (atI (nth q 13)) (atI (nth q 14)) (atC (nth q 15)) (atC (nth q 16)) (atC (nth q 17))).symm.trans (congrArg (iterC (codeL PP (S_ref01_Add F) c_ref01_Add (I_ref01_Add F) (J_ref01_Add F) (loopAt PP 30 0) 0) (headOf c_ref01_Add 0) k F) (show fS T_ref01_Add_0 [.i (atI (nth q 0)), .i (atI (nth q 1)), .i (atI (nth q 2)), .i (atI (nth q 3)), .n (atN (nth q 4)), .n (atN (nth q 5)), .n (atN (nth q 6)), .i (atI (nth q 7)), .i (atI (nth q 8)), .i (atI (nth q 9)), .i (atI (nth q 10)), .i (atI (nth q 11)), .i (atI (nth q 12)), .i (atI (nth q 13)), .i (atI (nth q 14)), .c (atC (nth q 15)), .c (atC (nth q 16)), .c (atC (nth q 17))] = fS T_ref01_Add_0 q by kernel_rfl)))) tab_nil)) all_nil)
theorem hj_ref01_Add (F : Nat) : ∀ p ∈ joinsIn PP c_ref01_Add 30, JoinOK PP (S_ref01_Add F) c_ref01_Add (I_ref01_Add F) (J_ref01_Add F) p :=
  joins_of [] (by kernel_rfl) all_nil
theorem g_ref01_Add (F : Nat) : Good PP 30 (unS (s_ref01_Add F)) :=
  fun_spec (hS_ref01_Add F) (by kernel_rfl) (by kernel_rfl) (C := c_ref01_Add) (F := fun q => (f_ref01_Add F (atI (nth q 0)) (atI (nth q 1)) (atI (nth q 2)) (atI (nth q 3)))) (fun _ => F) (fun _ => I_ref01_Add F) (fun _ => J_ref01_Add F) (fun _ => hl_ref01_Add F) (fun _ => hj_ref01_Add F)
    (fun q => (congrArg (funL PP (S_ref01_Add F) c_ref01_Add (I_ref01_Add F) (J_ref01_Add F) 30) (show (fTs ti_ref01_Add q).1 = (fTs ti_ref01_Add [.i (atI (nth q 0)), .i (atI (nth q 1)), .i (atI (nth q 2)), .i (atI (nth q 3))]).1 by kernel_rfl)).trans (e_ref01_Add F (atI (nth q 0)) (atI (nth q 1)) (atI (nth q 2)) (atI (nth q 3))))
    (fun _ h => (okT_fill h).trans (congrArg some (by kernel_rfl)))

end Go.Xv
set_option linter.unusedVariables false
namespace Go.Xv
/- 34 _ref01_Neg -/
def c_ref01_Neg : Cfg := ⟨[0, 1, 2, 3, 4, 8], [(0, [0, 1, 2, 3, 4, 5, 6, 19, 20, 21, 22])], [20, 21], []⟩
def ti_ref01_Neg : List TV := [.v (.agg [.int .i64, .int .u64])]
def to_ref01_Neg : TV := .v (.agg [.int .i64, .int .u64])
def S_ref01_Neg (F : Nat) : FuncId → List VV → Option (Bool × VV) := words [(86, s_ref01_Digits F), (87, s_ref01_Number F), (35, s_ref01_Of F), (30, s_ref01_Add F)]
def T_ref01_Neg_0 : TS := ⟨[(0, .v (.agg [.int .i64, .int .u64])), (1, .lp 0 (.lit 0)), (2, .lp 1 (.lit 0)), (3, .ls 2 (.lit 0) .hole 1), (4, .v (.int .i64))], [(0, ⟨(.ex [.v (.int .i64), .v (.int .u64)]), true⟩), (1, ⟨(.ex [.v (.int .i64), .v (.int .u64)]), true⟩), (2, ⟨.hole, true⟩)], 3⟩
def T_ref01_Neg_0_0 : TS := ⟨[(0, .v (.agg [.int .i64, .int .u64])), (1, .lp 0 (.lit 0)), (2, .lp 1 (.lit 0)), (3, .ls 2 (.lit 0) .hole 1), (4, .v (.int .i64))], [(0, ⟨(.ex [.v (.int .i64), .v (.int .u64)]), true⟩), (1, ⟨(.ex [.v (.int .i64), .v (.int .u64)]), true⟩), (2, ⟨.hole, true⟩)], 3⟩
def B_ref01_Neg_0 (F : Nat) (rc : Int → Int → Nat → Int → Int → Int → Int → Int → List VV → R) (ex0 : Int → Int → Nat → Int → Int → Int → Int → Int → List VV → R) (x0 : Int) (x1 : Int) (x2 : Nat) (x3 : Int) (x4 : Int) (x5 : Int) (x6 : Int) (x7 : Int) (x8 : List VV) : R :=
  bif ((decide (x3 < 128))) then (
    bif ((decide (0 ≤ x3)) && (decide (x3 < ((x2 : Nat) : Int)))) then (
      let v1089 : Nat := (0 + ((Int.toNat x3) * 1))
      bif ((isI .i64 x8[v1089]?) && true) then (
        bif ((decide (0 ≤ x3)) && (decide (x3 < ((x2 : Nat) : Int)))) then (
          let v1092 : Nat := (0 + ((Int.toNat x3) * 1))
          bif (decide ((v1092 + 1) ≤ x8.length)) then (
            rc x0 x1 x2 ((IntKind.wrap .i64 (x3 + 1))) x4 x5 x6 x7 ((x8.take v1092 ++ [.v (.int .i64 ((IntKind.wrap .i64 (1 - ((iv x8[v1089]?))))))] ++ x8.drop (v1092 + 1))))
          else (
            none))
        else (
          none))
      else (
        none))
    else (
      none))
  else (
    ex0 x0 x1 x2 x3 x4 x5 x6 x7 x8)
def L_ref01_Neg_0 (F : Nat) (ex0 : Int → Int → Nat → Int → Int → Int → Int → Int → List VV → R) : Nat → Int → Int → Nat → Int → Int → Int → Int → Int → List VV → R
  | 0, _, _, _, _, _, _, _, _, _ => none
  | n + 1, x0, x1, x2, x3, x4, x5, x6, x7, x8 => B_ref01_Neg_0 F (L_ref01_Neg_0 F ex0 n) ex0 x0 x1 x2 x3 x4 x5 x6 x7 x8
def W_ref01_Neg (F : Nat) : List LW := [⟨0, T_ref01_Neg_0, fun k q => L_ref01_Neg_0 F (fun (z0 : Int) (z1 : Int) (z2 : Nat) (z3 : Int) (z4 : Int) (z5 : Int) (z6 : Int) (z7 : Int) (z8 : List VV) => k (.exit 0) (fS T_ref01_Neg_0_0 [.i z0, .i z1, .n z2, .i z3, .i z4, .i z5, .i z6, .i z7, .c z8])) F (atI (nth q 0)) (atI (nth q 1)) (atN (nth q 2)) (atI (nth q 3)) (atI (nth q 4)) (atI (nth q 5)) (atI (nth q 6)) (atI (nth q 7)) (atC (nth q 8))⟩]
def I_ref01_Neg (F : Nat) : Nat → VS → (Exit → VS → R) → R := tabI c_ref01_Neg (W_ref01_Neg F)
def WJ_ref01_Neg (F : Nat) : List LJ := []
def J_ref01_Neg (F : Nat) : Nat → Nat → VS → (Exit → VS → R) → R := tabJ (WJ_ref01_Neg F)
theorem lL_ref01_Neg_0 (F : Nat) (k : Exit → VS → R) : ∀ (n : Nat) (x0 : Int) (x1 : Int) (x2 : Nat) (x3 : Int) (x4 : Int) (x5 : Int) (x6 : Int) (x7 : Int) (x8 : List VV), iterC (codeL PP (S_ref01_Neg F) c_ref01_Neg (I_ref01_Neg F) (J_ref01_Neg F) (loopAt PP 34 0) 0) (headOf c_ref01_Neg 0) k n (fS T_ref01_Neg_0 [.i x0, .i x1, .n x2, .i x3, .i x4, .i x5, .i x6, .i x7, .c x8]) = L_ref01_Neg_0 F (fun (z0 : Int) (z1 : Int) (z2 : Nat) (z3 : Int) (z4 : Int) (z5 : Int) (z6 : Int) (z7 : Int) (z8 : List VV) => k (.exit 0) (fS T_ref01_Neg_0_0 [.i z0, .i z1, .n z2, .i z3, .i z4, .i z5, .i z6, .i z7, .c z8])) n x0 x1 x2 x3 x4 x5 x6 x7 x8
  | 0, _, _, _, _, _, _, _, _, _ => rfl
  | n + 1, x0, x1, x2, x3, x4, x5, x6, x7, x8 => by
    have h0 : ∀ (ok_ref01_Digits : Nat → Int → Int → Bool) (o_ref01_Digits_0 : Nat → Int → Int → List VV) (o_ref01_Digits_1 : Nat → Int → Int → Nat) (ok_ref01_Number : Nat → List VV → Nat → Bool) (o_ref01_Number_0 : Nat → List VV → Nat → Int) (o_ref01_Number_1 : Nat → List VV → Nat → Int) (ok_ref01_Of : Nat → Int → Bool) (o_ref01_Of_0 : Nat → Int → Int) (o_ref01_Of_1 : Nat → Int → Int) (ok_ref01_Add : Nat → Int → Int → Int → Int → Bool) (o_ref01_Add_0 : Nat → Int → Int → Int → Int → Int) (o_ref01_Add_1 : Nat → Int → Int → Int → Int → Int) (L_ref01_Neg_0 : Nat → (Int → Int → Nat → Int → Int → Int → Int → Int → List VV → R) → Nat → Int → Int → Nat → Int → Int → Int → Int → Int → List VV → R), iterC (codeL PP (words [(86, spec ti_ref01_Digits to_ref01_Digits (fun q => (ok_ref01_Digits F (atI (nth q 0)) (atI (nth q 1)))) (fun q => [.c (o_ref01_Digits_0 F (atI (nth q 0)) (atI (nth q 1))), .n (o_ref01_Digits_1 F (atI (nth q 0)) (atI (nth q 1)))])), (87, spec ti_ref01_Number to_ref01_Number (fun q => (ok_ref01_Number F (atC (nth q 0)) (atN (nth q 1)))) (fun q => [.i (o_ref01_Number_0 F (atC (nth q 0)) (atN (nth q 1))), .i (o_ref01_Number_1 F (atC (nth q 0)) (atN (nth q 1)))])), (35, spec ti_ref01_Of to_ref01_Of (fun q => (ok_ref01_Of F (atI (nth q 0)))) (fun q => [.i (o_ref01_Of_0 F (atI (nth q 0))), .i (o_ref01_Of_1 F (atI (nth q 0)))])), (30, spec ti_ref01_Add to_ref01_Add (fun q => (ok_ref01_Add F (atI (nth q 0)) (atI (nth q 1)) (atI (nth q 2)) (atI (nth q 3)))) (fun q => [.i (o_ref01_Add_0 F (atI (nth q 0)) (atI (nth q 1)) (atI (nth q 2)) (atI (nth q 3))), .i (o_ref01_Add_1 F (atI (nth q 0)) (atI (nth q 1)) (atI (nth q 2)) (atI (nth q 3)))]))]) c_ref01_Neg (tabI c_ref01_Neg [⟨0, T_ref01_Neg_0, fun k q => L_ref01_Neg_0 F (fun (z0 : Int) (z1 : Int) (z2 : Nat) (z3 : Int) (z4 : Int) (z5 : Int) (z6 : Int) (z7 : Int) (z8 : List VV) => k (.exit 0) (fS T_ref01_Neg_0_0 [.i z0, .i z1, .n z2, .i z3, .i z4, .i z5, .i z6, .i z7, .c z8])) F (atI (nth q 0)) (atI (nth q 1)) (atN (nth q 2)) (atI (nth q 3)) (atI (nth q 4)) (atI (nth q 5)) (atI (nth q 6)) (atI (nth q 7)) (atC (nth q 8))⟩]) (tabJ []) (loopAt PP 34 0) 0) (headOf c_ref01_Neg 0) k (n + 1) (fS T_ref01_Neg_0 [.i x0, .i x1, .n x2, .i x3, .i x4, .i x5, .i x6, .i x7, .c x8]) = (fun (rc : Int → Int → Nat → Int → Int → Int → Int → Int → List VV → R) (ex0 : Int → Int → Nat → Int → Int → Int → Int → Int → List VV → R) (x0 : Int) (x1 : Int) (x2 : Nat) (x3 : Int) (x4 : Int) (x5 : Int) (x6 : Int) (x7 : Int) (x8 : List VV) => (
  bif ((decide (x3 < 128))) then (
    bif ((decide (0 ≤ x3)) && (decide (x3 < ((x2 : Nat) : Int)))) then (
      let v1089 : Nat := (0 + ((Int.toNat x3) * 1))
      bif ((isI .i64 x8[v1089]?) && true) then (
        bif ((decide (0 ≤ x3)) && (decide (x3 < ((x2 : Nat) : Int)))) then (
          let v1092 : Nat := (0 + ((Int.toNat x3) * 1))
          bif (decide ((v1092 + 1) ≤ x8.length)) then (
            rc x0 x1 x2 ((IntKind.wrap .i64 (x3 + 1))) x4 x5 x6 x7 ((x8.take v1092 ++ [.v (.int .i64 ((IntKind.wrap .i64 (1 - ((iv x8[v1089]?))))))] ++ x8.drop (v1092 + 1))))
          else (
            none))
        else (
          none))
      else (
        none))
    else (
      none))
  else (
    ex0 x0 x1 x2 x3 x4 x5 x6 x7 x8) : R)) (fun (y0 : Int) (y1 : Int) (y2 : Nat) (y3 : Int) (y4 : Int) (y5 : Int) (y6 : Int) (y7 : Int) (y8 : List VV) => iterC (codeL PP (words [(86, spec ti_ref01_Digits to_ref01_Digits (fun q => (ok_ref01_Digits F (atI (nth q 0)) (atI (nth q 1)))) (fun q => [.c (o_ref01_Digits_0 F (atI (nth q 0)) (atI (nth q 1))), .n (o_ref01_Digits_1 F (atI (nth q 0)) (atI (nth q 1)))])), (87, spec ti_ref01_Number to_ref01_Number (fun q => (ok_ref01_Number F (atC (nth q 0)) (atN (nth q 1)))) (fun q => [.i (o_ref01_Number_0 F (atC (nth q 0)) (atN (nth q 1))), .i (o_ref01_Number_1 F (atC (nth q 0)) (atN (nth q 1)))])), (35, spec ti_ref01_Of to_ref01_Of (fun q => (ok_ref01_Of F (atI (nth q 0)))) (fun q => [.i (o_ref01_Of_0 F (atI (nth q 0))), .i (o_ref01_Of_1 F (atI (nth q 0)))])), (30, spec ti_ref01_Add to_ref01_Add (fun q => (ok_ref01_Add F (atI (nth q 0)) (atI (nth q 1)) (atI (nth q 2)) (atI (nth q 3)))) (fun q => [.i (o_ref01_Add_0 F (atI (nth q 0)) (atI (nth q 1)) (atI (nth q 2)) (atI (nth q 3))), .i (o_ref01_Add_1 F (atI (nth q 0)) (atI (nth q 1)) (atI (nth q 2)) (atI (nth q 3)))]))]) c_ref01_Neg (tabI c_ref01_Neg [⟨0, T_ref01_Neg_0, fun k q => L_ref01_Neg_0 F (fun (z0 : Int) (z1 : Int) (z2 : Nat) (z3 : Int) (z4 : Int) (z5 : Int) (z6 : Int) (z7 : Int) (z8 : List VV) => k (.exit 0) (fS T_ref01_Neg_0_0 [.i z0, .i z1, .n z2, .i z3, .i z4, .i z5, .i z6, .i z7, .c z8])) F (atI (nth q 0)) (atI (nth q 1)) (atN (nth q 2)) (atI (nth q 3)) (atI (nth q 4)) (atI (nth q 5)) (atI (nth q 6)) (atI (nth q 7)) (atC (nth q 8))⟩]) (tabJ []) (loopAt PP 34 0) 0) (headOf c_ref01_Neg 0) k n (fS T_ref01_Neg_0 [.i y0, .i y1, .n y2, .i y3, .i y4, .i y5, .i y6, .i y7, .c y8])) (fun (z0 : Int) (z1 : Int) (z2 : Nat) (z3 : Int) (z4 : Int) (z5 : Int) (z6 : Int) (z7 : Int) (z8 : List VV) => k (.exit 0) (fS T_ref01_Neg_0_0 [.i z0, .i z1, .n z2, .i z3, .i z4, .i z5, .i z6, .i z7, .c z8])) x0 x1 x2 x3 x4 x5 x6 x7 x8 := by
      intros
      kernel_rfl
    have h : iterC (codeL PP (S_ref01_Neg F) c_ref01_Neg (I_ref01_Neg F) (J_ref01_Neg F) (loopAt PP 34 0) 0) (headOf c_ref01_Neg 0) k (n + 1) (fS T_ref01_Neg_0 [.i x0, .i x1, .n x2, .i x3, .i x4, .i x5, .i x6, .i x7, .c x8]) = B_ref01_Neg_0 F (fun (y0 : Int) (y1 : Int) (y2 : Nat) (y3 : Int) (y4 : Int) (y5 : Int) (y6 : Int) (y7 : Int) (y8 : List VV) => iterC (codeL PP (S_ref01_Neg F) c_ref01_Neg (I_ref01_Neg F) (J_ref01_Neg F) (loopAt PP 34 0) 0) (headOf c_ref01_Neg 0) k n (fS T_ref01_Neg_0 [.i y0, .i y1, .n y2, .i y3, .i y4, .i y5, .i y6, .i y7, .c y8])) (fun (z0 : Int) (z1 : Int) (z2 : Nat) (z3 : Int) (z4 : Int) (z5 : Int) (z6 : Int) (z7 : Int) (z8 : List VV) => k (.exit 0) (fS T_ref01_Neg_0_0 [.i z0, .i z1, .n z2, .i z3, .i z4, .i z5, .i z6, .i z7, .c z8])) x0 x1 x2 x3 x4 x5 x6 x7 x8 := (h0 ok_ref01_Digits o_ref01_Digits_0 o_ref01_Digits_1 ok_ref01_Number o_ref01_Number_0 o_ref01_Number_1 ok_ref01_Of o_ref01_Of_0 o_ref01_Of_1 ok_ref01_Add o_ref01_Add_0 o_ref01_Add_1 L_ref01_Neg_0).trans (by kernel_rfl)
    rw [h]
    simp only [lL_ref01_Neg_0 F k n]
    rfl
def f_ref01_Neg (F : Nat) (a0 : Int) (a1 : Int) : R :=
  bif (ok_ref01_Digits F a0 a1) then (
    L_ref01_Neg_0 F (fun (v1095 : Int) (v1096 : Int) (v1097 : Nat) (v1098 : Int) (v1099 : Int) (v1100 : Int) (v1101 : Int) (v1102 : Int) (v1103 : List VV) =>
      bif (ok_ref01_Number F v1103 v1097) then (
        let v1104 : Int := (o_ref01_Number_0 F v1103 v1097)
        let v1105 : Int := (o_ref01_Number_1 F v1103 v1097)
        bif (ok_ref01_Of F 1) then (
          let v1106 : Int := (o_ref01_Of_0 F 1)
          let v1107 : Int := (o_ref01_Of_1 F 1)
          bif (ok_ref01_Add F v1104 v1105 v1106 v1107) then (
            some (.v (.agg #[.int .i64 ((o_ref01_Add_0 F v1104 v1105 v1106 v1107)), .int .u64 ((o_ref01_Add_1 F v1104 v1105 v1106 v1107))])))
          else (
            none))
        else (
          none))
      else (
        none)) F a0 a1 ((o_ref01_Digits_1 F a0 a1)) 0 a0 a1 0 0 ((o_ref01_Digits_0 F a0 a1)))
  else (
    none)
theorem e_ref01_Neg (F : Nat) (a0 : Int) (a1 : Int) : funL PP (S_ref01_Neg F) c_ref01_Neg (I_ref01_Neg F) (J_ref01_Neg F) 34 (fTs ti_ref01_Neg [.i a0, .i a1]).1 = f_ref01_Neg F a0 a1 := by
  have h : ∀ (ok_ref01_Digits : Nat → Int → Int → Bool) (o_ref01_Digits_0 : Nat → Int → Int → List VV) (o_ref01_Digits_1 : Nat → Int → Int → Nat) (ok_ref01_Number : Nat → List VV → Nat → Bool) (o_ref01_Number_0 : Nat → List VV → Nat → Int) (o_ref01_Number_1 : Nat → List VV → Nat → Int) (ok_ref01_Of : Nat → Int → Bool) (o_ref01_Of_0 : Nat → Int → Int) (o_ref01_Of_1 : Nat → Int → Int) (ok_ref01_Add : Nat → Int → Int → Int → Int → Bool) (o_ref01_Add_0 : Nat → Int → Int → Int → Int → Int) (o_ref01_Add_1 : Nat → Int → Int → Int → Int → Int) (L_ref01_Neg_0 : Nat → (Int → Int → Nat → Int → Int → Int → Int → Int → List VV → R) → Nat → Int → Int → Nat → Int → Int → Int → Int → Int → List VV → R), funL PP (words [(86, spec ti_ref01_Digits to_ref01_Digits (fun q => (ok_ref01_Digits F (atI (nth q 0)) (atI (nth q 1)))) (fun q => [.c (o_ref01_Digits_0 F (atI (nth q 0)) (atI (nth q 1))), .n (o_ref01_Digits_1 F (atI (nth q 0)) (atI (nth q 1)))])), (87, spec ti_ref01_Number to_ref01_Number (fun q => (ok_ref01_Number F (atC (nth q 0)) (atN (nth q 1)))) (fun q => [.i (o_ref01_Number_0 F (atC (nth q 0)) (atN (nth q 1))), .i (o_ref01_Number_1 F (atC (nth q 0)) (atN (nth q 1)))])), (35, spec ti_ref01_Of to_ref01_Of (fun q => (ok_ref01_Of F (atI (nth q 0)))) (fun q => [.i (o_ref01_Of_0 F (atI (nth q 0))), .i (o_ref01_Of_1 F (atI (nth q 0)))])), (30, spec ti_ref01_Add to_ref01_Add (fun q => (ok_ref01_Add F (atI (nth q 0)) (atI (nth q 1)) (atI (nth q 2)) (atI (nth q 3)))) (fun q => [.i (o_ref01_Add_0 F (atI (nth q 0)) (atI (nth q 1)) (atI (nth q 2)) (atI (nth q 3))), .i (o_ref01_Add_1 F (atI (nth q 0)) (atI (nth q 1)) (atI (nth q 2)) (atI (nth q 3)))]))]) c_ref01_Neg (tabI c_ref01_Neg [⟨0, T_ref01_Neg_0, fun k q => L_ref01_Neg_0 F (fun (z0 : Int) (z1 : Int) (z2 : Nat) (z3 : Int) (z4 : Int) (z5 : Int) (z6 : Int) (z7 : Int) (z8 : List VV) => k (.exit 0) (fS T_ref01_Neg_0_0 [.i z0, .i z1, .n z2, .i z3, .i z4, .i z5, .i z6, .i z7, .c z8])) F (atI (nth q 0)) (atI (nth q 1)) (atN (nth q 2)) (atI (nth q 3)) (atI (nth q 4)) (atI (nth q 5)) (atI (nth q 6)) (atI (nth q 7)) (atC (nth q 8))⟩]) (tabJ []) 34 (fTs ti_ref01_Neg [.i a0, .i a1]).1 = (
  bif (ok_ref01_Digits F a0 a1) then (
    L_ref01_Neg_0 F (fun (v1095 : Int) (v1096 : Int) (v1097 : Nat) (v1098 : Int) (v1099 : Int) (v1100 : Int) (v1101 : Int) (v1102 : Int) (v1103 : List VV) =>
      bif (ok_ref01_Number F v1103 v1097) then (
        let v1104 : Int := (o_ref01_Number_0 F v1103 v1097)
        let v1105 : Int := (o_ref01_Number_1 F v1103 v1097)
        bif (ok_ref01_Of F 1) then (
          let v1106 : Int := (o_ref01_Of_0 F 1)
          let v1107 : Int := (o_ref01_Of_1 F 1)
          bif (ok_ref01_Add F v1104 v1105 v1106 v1107) then (
            some (.v (.agg #[.int .i64 ((o_ref01_Add_0 F v1104 v1105 v1106 v1107)), .int .u64 ((o_ref01_Add_1 F v1104 v1105 v1106 v1107))])))
          else (
            none))
        else (
          none))
      else (
        none)) F a0 a1 ((o_ref01_Digits_1 F a0 a1)) 0 a0 a1 0 0 ((o_ref01_Digits_0 F a0 a1)))
  else (
    none) : R) := by
    intros
    kernel_rfl
  exact (h ok_ref01_Digits o_ref01_Digits_0 o_ref01_Digits_1 ok_ref01_Number o_ref01_Number_0 o_ref01_Number_1 ok_ref01_Of o_ref01_Of_0 o_ref01_Of_1 ok_ref01_Add o_ref01_Add_0 o_ref01_Add_1 L_ref01_Neg_0).trans (by kernel_rfl)
def ok_ref01_Neg (F : Nat) (a0 : Int) (a1 : Int) : Bool := okT to_ref01_Neg (f_ref01_Neg F a0 a1)
def o_ref01_Neg_0 (F : Nat) (a0 : Int) (a1 : Int) : Int := atI (nth (outT to_ref01_Neg (f_ref01_Neg F a0 a1)) 0)
def o_ref01_Neg_1 (F : Nat) (a0 : Int) (a1 : Int) : Int := atI (nth (outT to_ref01_Neg (f_ref01_Neg F a0 a1)) 1)
theorem k_ref01_Neg (F : Nat) (a0 : Int) (a1 : Int) {z0 : Int} {z1 : Int} (h : f_ref01_Neg F a0 a1 = some (.v (.agg #[.int .i64 z0, .int .u64 z1]))) : ok_ref01_Neg F a0 a1 = true ∧ o_ref01_Neg_0 F a0 a1 = z0 ∧ o_ref01_Neg_1 F a0 a1 = z1 := by
  refine ⟨?_, ?_, ?_⟩
  · unfold ok_ref01_Neg; rw [h]; kernel_rfl
  · unfold o_ref01_Neg_0; rw [h]; kernel_rfl
  · unfold o_ref01_Neg_1; rw [h]; kernel_rfl
def s_ref01_Neg (F : Nat) : List VV → Option (Bool × VV) := spec ti_ref01_Neg to_ref01_Neg (fun q => (ok_ref01_Neg F (atI (nth q 0)) (atI (nth q 1)))) (fun q => [.i (o_ref01_Neg_0 F (atI (nth q 0)) (atI (nth q 1))), .i (o_ref01_Neg_1 F (atI (nth q 0)) (atI (nth q 1)))])
theorem hS_ref01_Neg (F : Nat) : ∀ f, Good PP f (unS (S_ref01_Neg F f)) := words_good fun p hp => by
  simp only [List.mem_cons, List.not_mem_nil, or_false] at hp
  rcases hp with rfl | rfl | rfl | rfl
  · exact g_ref01_Digits F
  · exact g_ref01_Number F
  · exact g_ref01_Of F
  · exact g_ref01_Add F
theorem hl_ref01_Neg (F : Nat) : ∀ p ∈ loopsIn PP 34, LoopOK PP (S_ref01_Neg F) c_ref01_Neg F (I_ref01_Neg F) (J_ref01_Neg F) p :=
  loops_of [(0, loopAt PP 34 0)] (by kernel_rfl) (all_cons
    (loop_ok (W_ref01_Neg F) rfl (tab_cons (fun _ k q => Le.ofEq ((lL_ref01_Neg_0 F k F (atI (nth q 0)) (atI (nth q 1)) (atN (nth q 2)) (atI (nth q 3)) (atI (nth q 4)) (atI (nth q 5)) (atI (nth q 6)) (atI (nth q 7)) (atC (nth q 8))).symm.trans (congrArg (iterC (codeL PP (S_ref01_Neg F) c_ref01_Neg (I_ref01_Neg F) (J_ref01_Neg F) (loopAt PP 34 0) 0) (headOf c_ref01_Neg 0) k F) (show fS T_ref01_Neg_0 [.i (atI (nth q 0)), .i (atI (nth q 1)), .n (atN (nth q 2)), .i (atI (nth q 3)), .i (atI (nth q 4)), .i (atI (nth q 5)), .i (atI (nth q 6)), .i (atI (nth q 7)), .c (atC (nth q 8))] = fS T_ref01_Neg_0 q by kernel_rfl)))) tab_nil)) all_nil)
theorem hj_ref01_Neg (F : Nat) : ∀ p ∈ joinsIn PP c_ref01_Neg 34, JoinOK PP (S_ref01_Neg F) c_ref01_Neg (I_ref01_Neg F) (J_ref01_Neg F) p :=
  joins_of [] (by kernel_rfl) all_nil
theorem g_ref01_Neg (F : Nat) : Good PP 34 (unS (s_ref01_Neg F)) :=
  fun_spec (hS_ref01_Neg F) (by kernel_rfl) (by kernel_rfl) (C := c_ref01_Neg) (F := fun q => (f_ref01_Neg F (atI (nth q 0)) (atI (nth q 1)))) (fun _ => F) (fun _ => I_ref01_Neg F) (fun _ => J_ref01_Neg F) (fun _ => hl_ref01_Neg F) (fun _ => hj_ref01_Neg F)
    (fun q => (congrArg (funL PP (S_ref01_Neg F) c_ref01_Neg (I_ref01_Neg F) (J_ref01_Neg F) 34) (show (fTs ti_ref01_Neg q).1 = (fTs ti_ref01_Neg [.i (atI (nth q 0)), .i (atI (nth q 1))]).1 by kernel_rfl)).trans (e_ref01_Neg F (atI (nth q 0)) (atI (nth q 1))))
    (fun _ h => (okT_fill h).trans (congrArg some (by kernel_rfl)))

end Go.Xv
set_option linter.unusedVariables false
namespace Go.Xv
/- 31 _ref01_Mul -/
def c_ref01_Mul : Cfg := ⟨[0, 1, 4, 5, 6, 7, 8, 16, 23, 33], [(0, [0, 1, 4, 5, 6, 7, 8, 9, 10, 11, 12, 13, 14, 30, 31, 32, 33, 34, 35, 36, 37, 38])], [13, 36], []⟩
def ti_ref01_Mul : List TV := [.v (.int .i64), .v (.int .i64)]
def to_ref01_Mul : TV := .v (.agg [.int .i64, .int .u64])
def S_ref01_Mul (F : Nat) : FuncId → List VV → Option (Bool × VV) := words [(35, s_ref01_Of F), (86, s_ref01_Digits F), (30, s_ref01_Add F), (34, s_ref01_Neg F)]
def T_ref01_Mul_0 : TS := ⟨[(0, .v (.int .i64)), (1, .v (.int .i64)), (4, .lp 0 (.lit 0)), (5, .lp 1 (.lit 0)), (6, .lp 2 (.lit 0)), (7, .ls 3 (.lit 0) .hole 1), (8, .v (.int .i64))], [(0, ⟨(.ex [.v (.int .i64), .v (.int .u64)]), true⟩), (1, ⟨(.ex [.v (.int .i64), .v (.int .u64)]), true⟩), (2, ⟨(.ex [.v (.int .i64), .v (.int .u64)]), true⟩), (3, ⟨.hole, true⟩)], 4⟩
def T_ref01_Mul_0_0 : TS := ⟨[(0, .v (.int .i64)), (1, .v (.int .i64)), (4, .lp 0 (.lit 0)), (5, .lp 1 (.lit 0)), (6, .lp 2 (.lit 0)), (7, .ls 3 (.lit 0) .hole 1), (8, .v (.int .i64))], [(0, ⟨(.ex [.v (.int .i64), .v (.int .u64)]), true⟩), (1, ⟨(.ex [.v (.int .i64), .v (.int .u64)]), true⟩), (2, ⟨(.ex [.v (.int .i64), .v (.int .u64)]), true⟩), (3, ⟨.hole, true⟩)], 4⟩
def B_ref01_Mul_0 (F : Nat) (rc : Int → Int → Nat → Int → Int → Int → Int → Int → Int → Int → List VV → R) (ex0 : Int → Int → Nat → Int → Int → Int → Int → Int → Int → Int → List VV → R) (x0 : Int) (x1 : Int) (x2 : Nat) (x3 : Int) (x4 : Int) (x5 : Int) (x6 : Int) (x7 : Int) (x8 : Int) (x9 : Int) (x10 : List VV) : R :=
  bif ((decide (x3 < 127))) then (
    bif ((decide (0 ≤ x3)) && (decide (x3 < ((x2 : Nat) : Int)))) then (
      let v944 : Nat := (0 + ((Int.toNat x3) * 1))
      bif ((isI .i64 x10[v944]?) && true) then (
        bif ((((iv x10[v944]?)) == 1)) then (
          bif (ok_ref01_Add F x6 x7 x8 x9) then (
            bif (ok_ref01_Add F x8 x9 x8 x9) then (
              rc x0 x1 x2 ((IntKind.wrap .i64 (x3 + 1))) x4 x5 ((o_ref01_Add_0 F x6 x7 x8 x9)) ((o_ref01_Add_1 F x6 x7 x8 x9)) ((o_ref01_Add_0 F x8 x9 x8 x9)) ((o_ref01_Add_1 F x8 x9 x8 x9)) x10)
            else (
              none))
          else (
            none))
        else (
          bif (ok_ref01_Add F x8 x9 x8 x9) then (
            rc x0 x1 x2 ((IntKind.wrap .i64 (x3 + 1))) x4 x5 x6 x7 ((o_ref01_Add_0 F x8 x9 x8 x9)) ((o_ref01_Add_1 F x8 x9 x8 x9)) x10)
          else (
            none)))
      else (
        none))
    else (
      none))
  else (
    ex0 x0 x1 x2 x3 x4 x5 x6 x7 x8 x9 x10)
def L_ref01_Mul_0 (F : Nat) (ex0 : Int → Int → Nat → Int → Int → Int → Int → Int → Int → Int → List VV → R) : Nat → Int → Int → Nat → Int → Int → Int → Int → Int → Int → Int → List VV → R
  | 0, _, _, _, _, _, _, _, _, _, _, _ => none
  | n + 1, x0, x1, x2, x3, x4, x5, x6, x7, x8, x9, x10 => B_ref01_Mul_0 F (L_ref01_Mul_0 F ex0 n) ex0 x0 x1 x2 x3 x4 x5 x6 x7 x8 x9 x10
def W_ref01_Mul (F : Nat) : List LW := [⟨0, T_ref01_Mul_0, fun k q => L_ref01_Mul_0 F (fun (z0 : Int) (z1 : Int) (z2 : Nat) (z3 : Int) (z4 : Int) (z5 : Int) (z6 : Int) (z7 : Int) (z8 : Int) (z9 : Int) (z10 : List VV) => k (.exit 0) (fS T_ref01_Mul_0_0 [.i z0, .i z1, .n z2, .i z3, .i z4, .i z5, .i z6, .i z7, .i z8, .i z9, .c z10])) F (atI (nth q 0)) (atI (nth q 1)) (atN (nth q 2)) (atI (nth q 3)) (atI (nth q 4)) (atI (nth q 5)) (atI (nth q 6)) (atI (nth q 7)) (atI (nth q 8)) (atI (nth q 9)) (atC (nth q 10))⟩]
def I_ref01_Mul (F : Nat) : Nat → VS → (Exit → VS → R) → R := tabI c_ref01_Mul (W_ref01_Mul F)
def WJ_ref01_Mul (F : Nat) : List LJ := []
def J_ref01_Mul (F : Nat) : Nat → Nat → VS → (Exit → VS → R) → R := tabJ (WJ_ref01_Mul F)
theorem lL_ref01_Mul_0 (F : Nat) (k : Exit → VS → R) : ∀ (n : Nat) (x0 : Int) (x1 : Int) (x2 : Nat) (x3 : Int) (x4 : Int) (x5 : Int) (x6 : Int) (x7 : Int) (x8 : Int) (x9 : Int) (x10 : List VV), iterC (codeL PP (S_ref01_Mul F) c_ref01_Mul (I_ref01_Mul F) (J_ref01_Mul F) (loopAt PP 31 0) 0) (headOf c_ref01_Mul 0) k n (fS T_ref01_Mul_0 [.i x0, .i x1, .n x2, .i x3, .i x4, .i x5, .i x6, .i x7, .i x8, .i x9, .c x10]) = L_ref01_Mul_0 F (fun (z0 : Int) (z1 : Int) (z2 : Nat) (z3 : Int) (z4 : Int) (z5 : Int) (z6 : Int) (z7 : Int) (z8 : Int) (z9 : Int) (z10 : List VV) => k (.exit 0) (fS T_ref01_Mul_0_0 [.i z0, .i z1, .n z2, .i z3, .i z4, .i z5, .i z6, .i z7, .i z8, .i z9, .c z10])) n x0 x1 x2 x3 x4 x5 x6 x7 x8 x9 x10
  | 0, _, _, _, _, _, _, _, _, _, _, _ => rfl
  | n + 1, x0, x1, x2, x3, x4, x5, x6, x7, x8, x9, x10 => by
    have h0 : ∀ (ok_ref01_Of : Nat → Int → Bool) (o_ref01_Of_0 : Nat → Int → Int) (o_ref01_Of_1 : Nat → Int → Int) (ok_ref01_Digits : Nat → Int → Int → Bool) (o_ref01_Digits_0 : Nat → Int → Int → List VV) (o_ref01_Digits_1 : Nat → Int → Int → Nat) (ok_ref01_Add : Nat → Int → Int → Int → Int → Bool) (o_ref01_Add_0 : Nat → Int → Int → Int → Int → Int) (o_ref01_Add_1 : Nat → Int → Int → Int → Int → Int) (ok_ref01_Neg : Nat → Int → Int → Bool) (o_ref01_Neg_0 : Nat → Int → Int → Int) (o_ref01_Neg_1 : Nat → Int → Int → Int) (L_ref01_Mul_0 : Nat → (Int → Int → Nat → Int → Int → Int → Int → Int → Int → Int → List VV → R) → Nat → Int → Int → Nat → Int → Int → Int → Int → Int → Int → Int → List VV → R), iterC (codeL PP (words [(35, spec ti_ref01_Of to_ref01_Of (fun q => (ok_ref01_Of F (atI (nth q 0)))) (fun q => [.i (o_ref01_Of_0 F (atI (nth q 0))), .i (o_ref01_Of_1 F (atI (nth q 0)))])), (86, spec ti_ref01_Digits to_ref01_Digits (fun q => (ok_ref01_Digits F (atI (nth q 0)) (atI (nth q 1)))) (fun q => [.c (o_ref01_Digits_0 F (atI (nth q 0)) (atI (nth q 1))), .n (o_ref01_Digits_1 F (atI (nth q 0)) (atI (nth q 1)))])), (30, spec ti_ref01_Add to_ref01_Add (fun q => (ok_ref01_Add F (atI (nth q 0)) (atI (nth q 1)) (atI (nth q 2)) (atI (nth q 3)))) (fun q => [.i (o_ref01_Add_0 F (atI (nth q 0)) (atI (nth q 1)) (atI (nth q 2)) (atI (nth q 3))), .i (o_ref01_Add_1 F (atI (nth q 0)) (atI (nth q 1)) (atI (nth q 2)) (atI (nth q 3)))])), (34, spec ti_ref01_Neg to_ref01_Neg (fun q => (ok_ref01_Neg F (atI (nth q 0)) (atI (nth q 1)))) (fun q => [.i (o_ref01_Neg_0 F (atI (nth q 0)) (atI (nth q 1))), .i (o_ref01_Neg_1 F (atI (nth q 0)) (atI (nth q 1)))]))]) c_ref01_Mul (tabI c_ref01_Mul [⟨0, T_ref01_Mul_0, fun k q => L_ref01_Mul_0 F (fun (z0 : Int) (z1 : Int) (z2 : Nat) (z3 : Int) (z4 : Int) (z5 : Int) (z6 : Int) (z7 : Int) (z8 : Int) (z9 : Int) (z10 : List VV) => k (.exit 0) (fS T_ref01_Mul_0_0 [.i z0, .i z1, .n z2, .i z3, .i z4, .i z5, .i z6, .i z7, .i z8, .i z9, .c z10])) F (atI (nth q 0)) (atI (nth q 1)) (atN (nth q 2)) (atI (nth q 3)) (atI (nth q 4)) (atI (nth q 5)) (atI (nth q 6)) (atI (nth q 7)) (atI (nth q 8)) (atI (nth q 9)) (atC (nth q 10))⟩]) (tabJ []) (loopAt PP 31 0) 0) (headOf c_ref01_Mul 0) k (n + 1) (fS T_ref01_Mul_0 [.i x0, .i x1, .n x2, .i x3, .i x4, .i x5, .i x6, .i x7, .i x8, .i x9, .c x10]) = (fun (rc : Int → Int → Nat → Int → Int → Int → Int → Int → Int → Int → List VV → R) (ex0 : Int → Int → Nat → Int → Int → Int → Int → Int → Int → Int → List VV → R) (x0 : Int) (x1 : Int) (x2 : Nat) (x3 : Int) (x4 : Int) (x5 : Int) (x6 : Int) (x7 : Int) (x8 : Int) (x9 : Int) (x10 : List VV) => (
  bif ((decide (x3 < 127))) then (
    bif ((decide (0 ≤ x3)) && (decide (x3 < ((x2 : Nat) : Int)))) then (
      let v944 : Nat := (0 + ((Int.toNat x3) * 1))
      bif ((isI .i64 x10[v944]?) && true) then (
        bif ((((iv x10[v944]?)) == 1)) then (
          bif (ok_ref01_Add F x6 x7 x8 x9) then (
            bif (ok_ref01_Add F x8 x9 x8 x9) then (
              rc x0 x1 x2 ((IntKind.wrap .i64 (x3 + 1))) x4 x5 ((o_ref01_Add_0 F x6 x7 x8 x9)) ((o_ref01_Add_1 F x6 x7 x8 x9)) ((o_ref01_Add_0 F x8 x9 x8 x9)) ((o_ref01_Add_1 F x8 x9 x8 x9)) x10)
            else (
              none))
          else (
            none))
        else (
          bif (ok_ref01_Add F x8 x9 x8 x9) then (
            rc x0 x1 x2 ((IntKind.wrap .i64 (x3 + 1))) x4 x5 x6 x7 ((o_ref01_Add_0 F x8 x9 x8 x9)) ((o_ref01_Add_1 F x8 x9 x8 x9)) x10)
          else (
            none)))
      else (
        none))
    else (
      none))
  else (
    ex0 x0 x1 x2 x3 x4 x5 x6 x7 x8 x9 x10) : R)) (fun (y0 : Int) (y1 : Int) (y2 : Nat) (y3 : Int) (y4 : Int) (y5 : Int) (y6 : Int) (y7 : Int) (y8 : Int) (y9 : Int) (y10 : List VV) => iterC (codeL PP (words [(35, spec ti_ref01_Of to_ref01_Of (fun q => (ok_ref01_Of F (atI (nth q 0)))) (fun q => [.i (o_ref01_Of_0 F (atI (nth q 0))), .i (o_ref01_Of_1 F (atI (nth q 0)))])), (86, spec ti_ref01_Digits to_ref01_Digits (fun q => (ok_ref01_Digits F (atI (nth q 0)) (atI (nth q 1)))) (fun q => [.c (o_ref01_Digits_0 F (atI (nth q 0)) (atI (nth q 1))), .n (o_ref01_Digits_1 F (atI (nth q 0)) (atI (nth q 1)))])), (30, spec ti_ref01_Add to_ref01_Add (fun q => (ok_ref01_Add F (atI (nth q 0)) (atI (nth q 1)) (atI (nth q 2)) (atI (nth q 3)))) (fun q => [.i (o_ref01_Add_0 F (atI (nth q 0)) (atI (nth q 1)) (atI (nth q 2)) (atI (nth q 3))), .i (o_ref01_Add_1 F (atI (nth q 0)) (atI (nth q 1)) (atI (nth q 2)) (atI (nth q 3)))])), (34, spec ti_ref01_Neg to_ref01_Neg (fun q => (ok_ref01_Neg F (atI (nth q 0)) (atI (nth q 1)))) (fun q => [.i (o_ref01_Neg_0 F (atI (nth q 0)) (atI (nth q 1))), .i (o_ref01_Neg_1 F (atI (nth q 0)) (atI (nth q 1)))]))]) c_ref01_Mul (tabI c_ref01_Mul [⟨0, T_ref01_Mul_0, fun k q => L_ref01_Mul_0 F (fun (z0 : Int) (z1 : Int) (z2 : Nat) (z3 : Int) (z4 : Int) (z5 : Int) (z6 : Int) (z7 : Int) (z8 : Int) (z9 : Int) (z10 : List VV) => k (.exit 0) (fS T_ref01_Mul_0_0 [.i z0, .i z1, .n z2, .i z3, .i z4, .i z5, .i z6, .i z7, .i z8, .i z9, .c z10])) F (atI (nth q 0)) (atI (nth q 1)) (atN (nth q 2)) (atI (nth q 3)) (atI (nth q 4)) (atI (nth q 5)) (atI (nth q 6)) (atI (nth q 7)) (atI (nth q 8)) (atI (nth q 9)) (atC (nth q 10))⟩]) (tabJ []) (loopAt PP 31 0) 0) (headOf c_ref01_Mul 0) k n (fS T_ref01_Mul_0 [.i y0, .i y1, .n y2, .i y3, .i y4, .i y5, .i y6, .i y7, .i y8, .i y9, .c y10])) (fun (z0 : Int) (z1 : Int) (z2 : Nat) (z3 : Int) (z4 : Int) (z5 : Int) (z6 : Int) (z7 : Int) (z8 : Int) (z9 : Int) (z10 : List VV) => k (.exit 0) (fS T_ref01_Mul_0_0 [.i z0, .i z1, .n z2, .i z3, .i z4, .i z5, .i z6, .i z7, .i z8, .i z9, .c z10])) x0 x1 x2 x3 x4 x5 x6 x7 x8 x9 x10 := by
      intros
      kernel_rfl
    have h : iterC (codeL PP (S_ref01_Mul F) c_ref01_Mul (I_ref01_Mul F) (J_ref01_Mul F) (loopAt PP 31 0) 0) (headOf c_ref01_Mul 0) k (n + 1) (fS T_ref01_Mul_0 [.i x0, .i x1, .n x2, .i x3, .i x4, .i x5, .i x6, .i x7, .i x8, .i x9, .c x10]) = B_ref01_Mul_0 F (fun (y0 : Int) (y1 : Int) (y2 : Nat) (y3 : Int) (y4 : Int) (y5 : Int) (y6 : Int) (y7 : Int) (y8 : Int) (y9 : Int) (y10 : List VV) => iterC (codeL PP (S_ref01_Mul F) c_ref01_Mul (I_ref01_Mul F) (J_ref01_Mul F) (loopAt PP 31 0) 0) (headOf c_ref01_Mul 0) k n (fS T_ref01_Mul_0 [.i y0, .i y1, .n y2, .i y3, .i y4, .i y5, .i y6, .i y7, .i y8, .i y9, .c y10])) (fun (z0 : Int) (z1 : Int) (z2 : Nat) (z3 : Int) (z4 : Int) (z5 : Int) (z6 : Int) (z7 : Int) (z8 : Int) (z9 : Int) (z10 : List VV) => k (.exit 0) (fS T_ref01_Mul_0_0 [.i z0, .i z1, .n z2, .i z3, .i z4, .i z5, .i z6, .i z7, .i z8, .i z9, .c z10])) x0 x1 x2 x3 x4 x5 x6 x7 x8 x9 x10 := (h0 ok_ref01_Of o_ref01_Of_0 o_ref01_Of_1 ok_ref01_Digits o_ref01_Digits_0 o_ref01_Digits_1 ok_ref01_Add o_ref01_Add_0 o_ref01_Add_1 ok_ref01_Neg o_ref01_Neg_0 o_ref01_Neg_1 L_ref01_Mul_0).trans (by kernel_rfl)
    rw [h]
    simp only [lL_ref01_Mul_0 F k n]
    rfl
def f_ref01_Mul (F : Nat) (a0 : Int) (a1 : Int) : R :=
  bif (ok_ref01_Of F a0) then (
    bif (ok_ref01_Of F a1) then (
      let v877 : Int := (o_ref01_Of_0 F a1)
      let v878 : Int := (o_ref01_Of_1 F a1)
      bif (ok_ref01_Digits F v877 v878) then (
        L_ref01_Mul_0 F (fun (v1064 : Int) (v1065 : Int) (v1066 : Nat) (v1067 : Int) (v1068 : Int) (v1069 : Int) (v1070 : Int) (v1071 : Int) (v1072 : Int) (v1073 : Int) (v1074 : List VV) =>
          bif (decide (127 < ((v1066 : Nat) : Int))) then (
            bif ((isI .i64 v1074[127]?) && true) then (
              bif ((((iv v1074[127]?)) == 1)) then (
                bif (ok_ref01_Neg F v1072 v1073) then (
                  let v1110 : Int := (o_ref01_Neg_0 F v1072 v1073)
                  let v1111 : Int := (o_ref01_Neg_1 F v1072 v1073)
                  bif (ok_ref01_Add F v1070 v1071 v1110 v1111) then (
                    some (.v (.agg #[.int .i64 ((o_ref01_Add_0 F v1070 v1071 v1110 v1111)), .int .u64 ((o_ref01_Add_1 F v1070 v1071 v1110 v1111))])))
                  else (
                    none))
                else (
                  none))
              else (
                some (.v (.agg #[.int .i64 v1070, .int .u64 v1071]))))
            else (
              none))
          else (
            none)) F a0 a1 ((o_ref01_Digits_1 F v877 v878)) 0 0 0 0 0 ((o_ref01_Of_0 F a0)) ((o_ref01_Of_1 F a0)) ((o_ref01_Digits_0 F v877 v878)))
      else (
        none))
    else (
      none))
  else (
    none)
theorem e_ref01_Mul (F : Nat) (a0 : Int) (a1 : Int) : funL PP (S_ref01_Mul F) c_ref01_Mul (I_ref01_Mul F) (J_ref01_Mul F) 31 (fTs ti_ref01_Mul [.i a0, .i a1]).1 = f_ref01_Mul F a0 a1 := by
  have h : ∀ (ok_ref01_Of : Nat → Int → Bool) (o_ref01_Of_0 : Nat → Int → Int) (o_ref01_Of_1 : Nat → Int → Int) (ok_ref01_Digits : Nat → Int → Int → Bool) (o_ref01_Digits_0 : Nat → Int → Int → List VV) (o_ref01_Digits_1 : Nat → Int → Int → Nat) (ok_ref01_Add : Nat → Int → Int → Int → Int → Bool) (o_ref01_Add_0 : Nat → Int → Int → Int → Int → Int) (o_ref01_Add_1 : Nat → Int → Int → Int → Int → Int) (ok_ref01_Neg : Nat → Int → Int → Bool) (o_ref01_Neg_0 : Nat → Int → Int → Int) (o_ref01_Neg_1 : Nat → Int → Int → Int) (L_ref01_Mul_0 : Nat → (Int → Int → Nat → Int → Int → Int → Int → Int → Int → Int → List VV → R) → Nat → Int → Int → Nat → Int → Int → Int → Int → Int → Int → Int → List VV → R), funL PP (words [(35, spec ti_ref01_Of to_ref01_Of (fun q => (ok_ref01_Of F (atI (nth q 0)))) (fun q => [.i (o_ref01_Of_0 F (atI (nth q 0))), .i (o_ref01_Of_1 F (atI (nth q 0)))])), (86, spec ti_ref01_Digits to_ref01_Digits (fun q => (ok_ref01_Digits F (atI (nth q 0)) (atI (nth q 1)))) (fun q => [.c (o_ref01_Digits_0 F (atI (nth q 0)) (atI (nth q 1))), .n (o_ref01_Digits_1 F (atI (nth q 0)) (atI (nth q 1)))])), (30, spec ti_ref01_Add to_ref01_Add (fun q => (ok_ref01_Add F (atI (nth q 0)) (atI (nth q 1)) (atI (nth q 2)) (atI (nth q 3)))) (fun q => [.i (o_ref01_Add_0 F (atI (nth q 0)) (atI (nth q 1)) (atI (nth q 2)) (atI (nth q 3))), .i (o_ref01_Add_1 F (atI (nth q 0)) (atI (nth q 1)) (atI (nth q 2)) (atI (nth q 3)))])), (34, spec ti_ref01_Neg to_ref01_Neg (fun q => (ok_ref01_Neg F (atI (nth q 0)) (atI (nth q 1)))) (fun q => [.i (o_ref01_Neg_0 F (atI (nth q 0)) (atI (nth q 1))), .i (o_ref01_Neg_1 F (atI (nth q 0)) (atI (nth q 1)))]))]) c_ref01_Mul (tabI c_ref01_Mul [⟨0, T_ref01_Mul_0, fun k q => L_ref01_Mul_0 F (fun (z0 : Int) (z1 : Int) (z2 : Nat) (z3 : Int) (z4 : Int) (z5 : Int) (z6 : Int) (z7 : Int) (z8 : Int) (z9 : Int) (z10 : List VV) => k (.exit 0) (fS T_ref01_Mul_0_0 [.i z0, .i z1, .n z2, .i z3, .i z4, .i z5, .i z6, .i z7, .i z8, .i z9, .c z10])) F (atI (nth q 0)) (atI (nth q 1)) (atN (nth q 2)) (atI (nth q 3)) (atI (nth q 4)) (atI (nth q 5)) (atI (nth q 6)) (atI (nth q 7)) (atI (nth q 8)) (atI (nth q 9)) (atC (nth q 10))⟩]) (tabJ []) 31 (fTs ti_ref01_Mul [.i a0, .i a1]).1 = (
  bif (ok_ref01_Of F a0) then (
    bif (ok_ref01_Of F a1) then (
      let v877 : Int := (o_ref01_Of_0 F a1)
      let v878 : Int := (o_ref01_Of_1 F a1)
      bif (ok_ref01_Digits F v877 v878) then (
        L_ref01_Mul_0 F (fun (v1064 : Int) (v1065 : Int) (v1066 : Nat) (v1067 : Int) (v1068 : Int) (v1069 : Int) (v1070 : Int) (v1071 : Int) (v1072 : Int) (v1073 : Int) (v1074 : List VV) =>
          bif (decide (127 < ((v1066 : Nat) : Int))) then (
            bif ((isI .i64 v1074[127]?) && true) then (
              bif ((((iv v1074[127]?)) == 1)) then (
                bif (ok_ref01_Neg F v1072 v1073) then (
                  let v1110 : Int := (o_ref01_Neg_0 F v1072 v1073)
                  let v1111 : Int := (o_ref01_Neg_1 F v1072 v1073)
                  bif (ok_ref01_Add F v1070 v1071 v1110 v1111) then (
                    some (.v (.agg #[.int .i64 ((o_ref01_Add_0 F v1070 v1071 v1110 v1111)), .int .u64 ((o_ref01_Add_1 F v1070 v1071 v1110 v1111))])))
                  else (
                    none))
                else (
                  none))
              else (
                some (.v (.agg #[.int .i64 v1070, .int .u64 v1071]))))
            else (
              none))
          else (
            none)) F a0 a1 ((o_ref01_Digits_1 F v877 v878)) 0 0 0 0 0 ((o_ref01_Of_0 F a0)) ((o_ref01_Of_1 F a0)) ((o_ref01_Digits_0 F v877 v878)))
      else (
        none))
    else (
      none))
  else (
    none) : R) := by
    intros
    kernel_rfl
  exact (h ok_ref01_Of o_ref01_Of_0 o_ref01_Of_1 ok_ref01_Digits o_ref01_Digits_0 o_ref01_Digits_1 ok_ref01_Add o_ref01_Add_0 o_ref01_Add_1 ok_ref01_Neg o_ref01_Neg_0 o_ref01_Neg_1 L_ref01_Mul_0).trans (by kernel_rfl)
def ok_ref01_Mul (F : Nat) (a0 : Int) (a1 : Int) : Bool := okT to_ref01_Mul (f_ref01_Mul F a0 a1)
def o_ref01_Mul_0 (F : Nat) (a0 : Int) (a1 : Int) : Int := atI (nth (outT to_ref01_Mul (f_ref01_Mul F a0 a1)) 0)
def o_ref01_Mul_1 (F : Nat) (a0 : Int) (a1 : Int) : Int := atI (nth (outT to_ref01_Mul (f_ref01_Mul F a0 a1)) 1)
theorem k_ref01_Mul (F : Nat) (a0 : Int) (a1 : Int) {z0 : Int} {z1 : Int} (h : f_ref01_Mul F a0 a1 = some (.v (.agg #[.int .i64 z0, .int .u64 z1]))) : ok_ref01_Mul F a0 a1 = true ∧ o_ref01_Mul_0 F a0 a1 = z0 ∧ o_ref01_Mul_1 F a0 a1 = z1 := by
  refine ⟨?_, ?_, ?_⟩
  · unfold ok_ref01_Mul; rw [h]; kernel_rfl
  · unfold o_ref01_Mul_0; rw [h]; kernel_rfl
  · unfold o_ref01_Mul_1; rw [h]; kernel_rfl
def s_ref01_Mul (F : Nat) : List VV → Option (Bool × VV) := spec ti_ref01_Mul to_ref01_Mul (fun q => (ok_ref01_Mul F (atI (nth q 0)) (atI (nth q 1)))) (fun q => [.i (o_ref01_Mul_0 F (atI (nth q 0)) (atI (nth q 1))), .i (o_ref01_Mul_1 F (atI (nth q 0)) (atI (nth q 1)))])
theorem hS_ref01_Mul (F : Nat) : ∀ f, Good PP f (unS (S_ref01_Mul F f)) := words_good fun p hp => by
  simp only [List.mem_cons, List.not_mem_nil, or_false] at hp
  rcases hp with rfl | rfl | rfl | rfl
  · exact g_ref01_Of F
  · exact g_ref01_Digits F
  · exact g_ref01_Add F
  · exact g_ref01_Neg F
theorem hl_ref01_Mul (F : Nat) : ∀ p ∈ loopsIn PP 31, LoopOK PP (S_ref01_Mul F) c_ref01_Mul F (I_ref01_Mul F) (J_ref01_Mul F) p :=
  loops_of [(0, loopAt PP 31 0)] (by kernel_rfl) (all_cons
    (loop_ok (W_ref01_Mul F) rfl (tab_cons (fun _ k q => Le.ofEq ((lL_ref01_Mul_0 F k F (atI (nth q 0)) (atI (nth q 1)) (atN (nth q 2)) (atI (nth q 3)) (atI (nth q 4)) (atI (nth q 5)) (atI (nth q 6)) (atI (nth q 7)) (atI (nth q 8)) (atI (nth q 9)) (atC (nth q 10))).symm.trans (congrArg (iterC (codeL PP (S_ref01_Mul F) c_ref01_Mul (I_ref01_Mul F) (J_ref01_Mul F) (loopAt PP 31 0) 0) (headOf c_ref01_Mul 0) k F) (show fS T_ref01_Mul_0 [.i (atI (nth q 0)), .i (atI (nth q 1)), .n (atN (nth q 2)), .i (atI (nth q 3)), .i (atI (nth q 4)), .i (atI (nth q 5)), .i (atI (nth q 6)), .i (atI (nth q 7)), .i (atI (nth q 8)), .i (atI (nth q 9)), .c (atC (nth q 10))] = fS T_ref01_Mul_0 q by kernel_rfl)))) tab_nil)) all_nil)
theorem hj_ref01_Mul (F : Nat) : ∀ p ∈ joinsIn PP c_ref01_Mul 31, JoinOK PP (S_ref01_Mul F) c_ref01_Mul (I_ref01_Mul F) (J_ref01_Mul F) p :=
  joins_of [] (by kernel_rfl) all_nil
theorem g_ref01_Mul (F : Nat) : Good PP 31 (unS (s_ref01_Mul F)) :=
  fun_spec (hS_ref01_Mul F) (by kernel_rfl) (by kernel_rfl) (C := c_ref01_Mul) (F := fun q => (f_ref01_Mul F (atI (nth q 0)) (atI (nth q 1)))) (fun _ => F) (fun _ => I_ref01_Mul F) (fun _ => J_ref01_Mul F) (fun _ => hl_ref01_Mul F) (fun _ => hj_ref01_Mul F)
    (fun q => (congrArg (funL PP (S_ref01_Mul F) c_ref01_Mul (I_ref01_Mul F) (J_ref01_Mul F) 31) (show (fTs ti_ref01_Mul q).1 = (fTs ti_ref01_Mul [.i (atI (nth q 0)), .i (atI (nth q 1))]).1 by kernel_rfl)).trans (e_ref01_Mul F (atI (nth q 0)) (atI (nth q 1))))
    (fun _ h => (okT_fill h).trans (congrArg some (by kernel_rfl)))

end Go.Xv
set_option linter.unusedVariables false
namespace Go.Xv
/- 88 _ref01_Less -/
def c_ref01_Less : Cfg := ⟨[0, 1, 2, 3, 4], [], [], []⟩
def ti_ref01_Less : List TV := [.v (.agg [.int .i64, .int .u64]), .v (.agg [.int .i64, .int .u64])]
def to_ref01_Less : TV := .v (.bool)
def S_ref01_Less (F : Nat) : FuncId → List VV → Option (Bool × VV) := words []
def W_ref01_Less (F : Nat) : List LW := []
def I_ref01_Less (F : Nat) : Nat → VS → (Exit → VS → R) → R := tabI c_ref01_Less (W_ref01_Less F)
def WJ_ref01_Less (F : Nat) : List LJ := []
def J_ref01_Less (F : Nat) : Nat → Nat → VS → (Exit → VS → R) → R := tabJ (WJ_ref01_Less F)
def f_ref01_Less (F : Nat) (a0 : Int) (a1 : Int) (a2 : Int) (a3 : Int) : R :=
  bif ((decide (a0 < a2))) then (
    some (.v (.bool true)))
  else (
    bif ((a0 == a2)) then (
      some (.v (.bool ((decide (a1 < a3))))))
    else (
      some (.v (.bool false))))
theorem e_ref01_Less (F : Nat) (a0 : Int) (a1 : Int) (a2 : Int) (a3 : Int) : funL PP (S_ref01_Less F) c_ref01_Less (I_ref01_Less F) (J_ref01_Less F) 88 (fTs ti_ref01_Less [.i a0, .i a1, .i a2, .i a3]).1 = f_ref01_Less F a0 a1 a2 a3 := by
  have h : ∀ (_ : Unit), funL PP (words []) c_ref01_Less (tabI c_ref01_Less []) (tabJ []) 88 (fTs ti_ref01_Less [.i a0, .i a1, .i a2, .i a3]).1 = (
  bif ((decide (a0 < a2))) then (
    some (.v (.bool true)))
  else (
    bif ((a0 == a2)) then (
      some (.v (.bool ((decide (a1 < a3))))))
    else (
      some (.v (.bool false)))) : R) := by
    intros
    kernel_rfl
  exact (h ()).trans (by kernel_rfl)
def ok_ref01_Less (F : Nat) (a0 : Int) (a1 : Int) (a2 : Int) (a3 : Int) : Bool := okT to_ref01_Less (f_ref01_Less F a0 a1 a2 a3)
def o_ref01_Less_0 (F : Nat) (a0 : Int) (a1 : Int) (a2 : Int) (a3 : Int) : Bool := atB (nth (outT to_ref01_Less (f_ref01_Less F a0 a1 a2 a3)) 0)
theorem k_ref01_Less (F : Nat) (a0 : Int) (a1 : Int) (a2 : Int) (a3 : Int) {z0 : Bool} (h : f_ref01_Less F a0 a1 a2 a3 = some (.v (.bool z0))) : ok_ref01_Less F a0 a1 a2 a3 = true ∧ o_ref01_Less_0 F a0 a1 a2 a3 = z0 := by
  refine ⟨?_, ?_⟩
  · unfold ok_ref01_Less; rw [h]; kernel_rfl
  · unfold o_ref01_Less_0; rw [h]; kernel_rfl
def s_ref01_Less (F : Nat) : List VV → Option (Bool × VV) := spec ti_ref01_Less to_ref01_Less (fun q => (ok_ref01_Less F (atI (nth q 0)) (atI (nth q 1)) (atI (nth q 2)) (atI (nth q 3)))) (fun q => [.b (o_ref01_Less_0 F (atI (nth q 0)) (atI (nth q 1)) (atI (nth q 2)) (atI (nth q 3)))])
theorem hS_ref01_Less (F : Nat) : ∀ f, Good PP f (unS (S_ref01_Less F f)) := words_good fun p hp => by
  cases hp
theorem hl_ref01_Less (F : Nat) : ∀ p ∈ loopsIn PP 88, LoopOK PP (S_ref01_Less F) c_ref01_Less F (I_ref01_Less F) (J_ref01_Less F) p :=
  loops_of [] (by kernel_rfl) all_nil
theorem hj_ref01_Less (F : Nat) : ∀ p ∈ joinsIn PP c_ref01_Less 88, JoinOK PP (S_ref01_Less F) c_ref01_Less (I_ref01_Less F) (J_ref01_Less F) p :=
  joins_of [] (by kernel_rfl) all_nil
theorem g_ref01_Less (F : Nat) : Good PP 88 (unS (s_ref01_Less F)) :=
  fun_spec (hS_ref01_Less F) (by kernel_rfl) (by kernel_rfl) (C := c_ref01_Less) (F := fun q => (f_ref01_Less F (atI (nth q 0)) (atI (nth q 1)) (atI (nth q 2)) (atI (nth q 3)))) (fun _ => F) (fun _ => I_ref01_Less F) (fun _ => J_ref01_Less F) (fun _ => hl_ref01_Less F) (fun _ => hj_ref01_Less F)
    (fun q => (congrArg (funL PP (S_ref01_Less F) c_ref01_Less (I_ref01_Less F) (J_ref01_Less F) 88) (show (fTs ti_ref01_Less q).1 = (fTs ti_ref01_Less [.i (atI (nth q 0)), .i (atI (nth q 1)), .i (atI (nth q 2)), .i (atI (nth q 3))]).1 by kernel_rfl)).trans (e_ref01_Less F (atI (nth q 0)) (atI (nth q 1)) (atI (nth q 2)) (atI (nth q 3))))
    (fun _ h => (okT_fill h).trans (congrArg some (by kernel_rfl)))

end Go.Xv
set_option linter.unusedVariables false
namespace Go.Xv
/- 32 _ref01_Clip -/
def c_ref01_Clip : Cfg := ⟨[0, 1, 2, 3, 6, 9], [], [5, 7], []⟩
def ti_ref01_Clip : List TV := [.v (.agg [.int .i64, .int .u64])]
def to_ref01_Clip : TV := .v (.tup [.int .i64, .bool])
def S_ref01_Clip (F : Nat) : FuncId → List VV → Option (Bool × VV) := words [(35, s_ref01_Of F), (88, s_ref01_Less F)]
def W_ref01_Clip (F : Nat) : List LW := []
def I_ref01_Clip (F : Nat) : Nat → VS → (Exit → VS → R) → R := tabI c_ref01_Clip (W_ref01_Clip F)
def WJ_ref01_Clip (F : Nat) : List LJ := []
def J_ref01_Clip (F : Nat) : Nat → Nat → VS → (Exit → VS → R) → R := tabJ (WJ_ref01_Clip F)
def f_ref01_Clip (F : Nat) (a0 : Int) (a1 : Int) : R :=
  bif (ok_ref01_Of F ((-9223372036854775808))) then (
    let v1174 : Int := (o_ref01_Of_0 F ((-9223372036854775808)))
    let v1175 : Int := (o_ref01_Of_1 F ((-9223372036854775808)))
    bif (ok_ref01_Less F a0 a1 v1174 v1175) then (
      bif ((o_ref01_Less_0 F a0 a1 v1174 v1175)) then (
        some (.v (.tuple #[.int .i64 (-9223372036854775808), .bool true])))
      else (
        bif (ok_ref01_Of F 9223372036854775807) then (
          let v1180 : Int := (o_ref01_Of_0 F 9223372036854775807)
          let v1181 : Int := (o_ref01_Of_1 F 9223372036854775807)
          bif (ok_ref01_Less F v1180 v1181 a0 a1) then (
            bif ((o_ref01_Less_0 F v1180 v1181 a0 a1)) then (
              some (.v (.tuple #[.int .i64 9223372036854775807, .bool true])))
            else (
              some (.v (.tuple #[.int .i64 ((IntKind.wrap .i64 a1)), .bool false]))))
          else (
            none))
        else (
          none)))
    else (
      none))
  else (
    none)
theorem e_ref01_Clip (F : Nat) (a0 : Int) (a1 : Int) : funL PP (S_ref01_Clip F) c_ref01_Clip (I_ref01_Clip F) (J_ref01_Clip F) 32 (fTs ti_ref01_Clip [.i a0, .i a1]).1 = f_ref01_Clip F a0 a1 := by
  have h : ∀ (ok_ref01_Of : Nat → Int → Bool) (o_ref01_Of_0 : Nat → Int → Int) (o_ref01_Of_1 : Nat → Int → Int) (ok_ref01_Less : Nat → Int → Int → Int → Int → Bool) (o_ref01_Less_0 : Nat → Int → Int → Int → Int → Bool), funL PP (words [(35, spec ti_ref01_Of to_ref01_Of (fun q => (ok_ref01_Of F (atI (nth q 0)))) (fun q => [.i (o_ref01_Of_0 F (atI (nth q 0))), .i (o_ref01_Of_1 F (atI (nth q 0)))])), (88, spec ti_ref01_Less to_ref01_Less (fun q => (ok_ref01_Less F (atI (nth q 0)) (atI (nth q 1)) (atI (nth q 2)) (atI (nth q 3)))) (fun q => [.b (o_ref01_Less_0 F (atI (nth q 0)) (atI (nth q 1)) (atI (nth q 2)) (atI (nth q 3)))]))]) c_ref01_Clip (tabI c_ref01_Clip []) (tabJ []) 32 (fTs ti_ref01_Clip [.i a0, .i a1]).1 = (
  bif (ok_ref01_Of F ((-9223372036854775808))) then (
    let v1174 : Int := (o_ref01_Of_0 F ((-9223372036854775808)))
    let v1175 : Int := (o_ref01_Of_1 F ((-9223372036854775808)))
    bif (ok_ref01_Less F a0 a1 v1174 v1175) then (
      bif ((o_ref01_Less_0 F a0 a1 v1174 v1175)) then (
        some (.v (.tuple #[.int .i64 (-9223372036854775808), .bool true])))
      else (
        bif (ok_ref01_Of F 9223372036854775807) then (
          let v1180 : Int := (o_ref01_Of_0 F 9223372036854775807)
          let v1181 : Int := (o_ref01_Of_1 F 9223372036854775807)
          bif (ok_ref01_Less F v1180 v1181 a0 a1) then (
            bif ((o_ref01_Less_0 F v1180 v1181 a0 a1)) then (
              some (.v (.tuple #[.int .i64 9223372036854775807, .bool true])))
            else (
              some (.v (.tuple #[.int .i64 ((IntKind.wrap .i64 a1)), .bool false]))))
          else (
            none))
        else (
          none)))
    else (
      none))
  else (
    none) : R) := by
    intros
    kernel_rfl
  exact (h ok_ref01_Of o_ref01_Of_0 o_ref01_Of_1 ok_ref01_Less o_ref01_Less_0).trans (by kernel_rfl)
def ok_ref01_Clip (F : Nat) (a0 : Int) (a1 : Int) : Bool := okT to_ref01_Clip (f_ref01_Clip F a0 a1)
def o_ref01_Clip_0 (F : Nat) (a0 : Int) (a1 : Int) : Int := atI (nth (outT to_ref01_Clip (f_ref01_Clip F a0 a1)) 0)
def o_ref01_Clip_1 (F : Nat) (a0 : Int) (a1 : Int) : Bool := atB (nth (outT to_ref01_Clip (f_ref01_Clip F a0 a1)) 1)
theorem k_ref01_Clip (F : Nat) (a0 : Int) (a1 : Int) {z0 : Int} {z1 : Bool} (h : f_ref01_Clip F a0 a1 = some (.v (.tuple #[.int .i64 z0, .bool z1]))) : ok_ref01_Clip F a0 a1 = true ∧ o_ref01_Clip_0 F a0 a1 = z0 ∧ o_ref01_Clip_1 F a0 a1 = z1 := by
  refine ⟨?_, ?_, ?_⟩
  · unfold ok_ref01_Clip; rw [h]; kernel_rfl
  · unfold o_ref01_Clip_0; rw [h]; kernel_rfl
  · unfold o_ref01_Clip_1; rw [h]; kernel_rfl
def s_ref01_Clip (F : Nat) : List VV → Option (Bool × VV) := spec ti_ref01_Clip to_ref01_Clip (fun q => (ok_ref01_Clip F (atI (nth q 0)) (atI (nth q 1)))) (fun q => [.i (o_ref01_Clip_0 F (atI (nth q 0)) (atI (nth q 1))), .b (o_ref01_Clip_1 F (atI (nth q 0)) (atI (nth q 1)))])
theorem hS_ref01_Clip (F : Nat) : ∀ f, Good PP f (unS (S_ref01_Clip F f)) := words_good fun p hp => by
  simp only [List.mem_cons, List.not_mem_nil, or_false] at hp
  rcases hp with rfl | rfl
  · exact g_ref01_Of F
  · exact g_ref01_Less F
theorem hl_ref01_Clip (F : Nat) : ∀ p ∈ loopsIn PP 32, LoopOK PP (S_ref01_Clip F) c_ref01_Clip F (I_ref01_Clip F) (J_ref01_Clip F) p :=
  loops_of [] (by kernel_rfl) all_nil
theorem hj_ref01_Clip (F : Nat) : ∀ p ∈ joinsIn PP c_ref01_Clip 32, JoinOK PP (S_ref01_Clip F) c_ref01_Clip (I_ref01_Clip F) (J_ref01_Clip F) p :=
  joins_of [] (by kernel_rfl) all_nil
theorem g_ref01_Clip (F : Nat) : Good PP 32 (unS (s_ref01_Clip F)) :=
  fun_spec (hS_ref01_Clip F) (by kernel_rfl) (by kernel_rfl) (C := c_ref01_Clip) (F := fun q => (f_ref01_Clip F (atI (nth q 0)) (atI (nth q 1)))) (fun _ => F) (fun _ => I_ref01_Clip F) (fun _ => J_ref01_Clip F) (fun _ => hl_ref01_Clip F) (fun _ => hj_ref01_Clip F)
    (fun q => (congrArg (funL PP (S_ref01_Clip F) c_ref01_Clip (I_ref01_Clip F) (J_ref01_Clip F) 32) (show (fTs ti_ref01_Clip q).1 = (fTs ti_ref01_Clip [.i (atI (nth q 0)), .i (atI (nth q 1))]).1 by kernel_rfl)).trans (e_ref01_Clip F (atI (nth q 0)) (atI (nth q 1))))
    (fun _ h => (okT_fill h).trans (congrArg some (by kernel_rfl)))

end Go.Xv
set_option linter.unusedVariables false
namespace Go.Xv
/- 117 _wide_Clip -/
def c_wide_Clip : Cfg := ⟨[0, 1, 2, 3, 4, 8, 14], [], [], []⟩
def ti_wide_Clip : List TV := [.v (.agg [.int .i64, .int .u64])]
def to_wide_Clip : TV := .v (.tup [.int .i64, .bool])
def S_wide_Clip (F : Nat) : FuncId → List VV → Option (Bool × VV) := words [(132, s_wide_Of F)]
def W_wide_Clip (F : Nat) : List LW := []
def I_wide_Clip (F : Nat) : Nat → VS → (Exit → VS → R) → R := tabI c_wide_Clip (W_wide_Clip F)
def WJ_wide_Clip (F : Nat) : List LJ := []
def J_wide_Clip (F : Nat) : Nat → Nat → VS → (Exit → VS → R) → R := tabJ (WJ_wide_Clip F)
def f_wide_Clip (F : Nat) (a0 : Int) (a1 : Int) : R :=
  let v1718 : Int := (IntKind.wrap .i64 a1)
  bif (ok_wide_Of F v1718) then (
    bif (((((o_wide_Of_0 F v1718)) == a0) && (((o_wide_Of_1 F v1718)) == a1))) then (
      some (.v (.tuple #[.int .i64 v1718, .bool false])))
    else (
      bif ((decide (a0 < 0))) then (
        some (.v (.tuple #[.int .i64 (-9223372036854775808), .bool true])))
      else (
        some (.v (.tuple #[.int .i64 9223372036854775807, .bool true])))))
  else (
    none)
theorem e_wide_Clip (F : Nat) (a0 : Int) (a1 : Int) : funL PP (S_wide_Clip F) c_wide_Clip (I_wide_Clip F) (J_wide_Clip F) 117 (fTs ti_wide_Clip [.i a0, .i a1]).1 = f_wide_Clip F a0 a1 := by
  have h : ∀ (ok_wide_Of : Nat → Int → Bool) (o_wide_Of_0 : Nat → Int → Int) (o_wide_Of_1 : Nat → Int → Int), funL PP (words [(132, spec ti_wide_Of to_wide_Of (fun q => (ok_wide_Of F (atI (nth q 0)))) (fun q => [.i (o_wide_Of_0 F (atI (nth q 0))), .i (o_wide_Of_1 F (atI (nth q 0)))]))]) c_wide_Clip (tabI c_wide_Clip []) (tabJ []) 117 (fTs ti_wide_Clip [.i a0, .i a1]).1 = (
  let v1718 : Int := (IntKind.wrap .i64 a1)
  bif (ok_wide_Of F v1718) then (
    bif (((((o_wide_Of_0 F v1718)) == a0) && (((o_wide_Of_1 F v1718)) == a1))) then (
      some (.v (.tuple #[.int .i64 v1718, .bool false])))
    else (
      bif ((decide (a0 < 0))) then (
        some (.v (.tuple #[.int .i64 (-9223372036854775808), .bool true])))
      else (
        some (.v (.tuple #[.int .i64 9223372036854775807, .bool true])))))
  else (
    none) : R) := by
    intros
    kernel_rfl
  exact (h ok_wide_Of o_wide_Of_0 o_wide_Of_1).trans (by kernel_rfl)
def ok_wide_Clip (F : Nat) (a0 : Int) (a1 : Int) : Bool := okT to_wide_Clip (f_wide_Clip F a0 a1)
def o_wide_Clip_0 (F : Nat) (a0 : Int) (a1 : Int) : Int := atI (nth (outT to_wide_Clip (f_wide_Clip F a0 a1)) 0)
def o_wide_Clip_1 (F : Nat) (a0 : Int) (a1 : Int) : Bool := atB (nth (outT to_wide_Clip (f_wide_Clip F a0 a1)) 1)
theorem k_wide_Clip (F : Nat) (a0 : Int) (a1 : Int) {z0 : Int} {z1 : Bool} (h : f_wide_Clip F a0 a1 = some (.v (.tuple #[.int .i64 z0, .bool z1]))) : ok_wide_Clip F a0 a1 = true ∧ o_wide_Clip_0 F a0 a1 = z0 ∧ o_wide_Clip_1 F a0 a1 = z1 := by
  refine ⟨?_, ?_, ?_⟩
  · unfold ok_wide_Clip; rw [h]; kernel_rfl
  · unfold o_wide_Clip_0; rw [h]; kernel_rfl
  · unfold o_wide_Clip_1; rw [h]; kernel_rfl
def s_wide_Clip (F : Nat) : List VV → Option (Bool × VV) := spec ti_wide_Clip to_wide_Clip (fun q => (ok_wide_Clip F (atI (nth q 0)) (atI (nth q 1)))) (fun q => [.i (o_wide_Clip_0 F (atI (nth q 0)) (atI (nth q 1))), .b (o_wide_Clip_1 F (atI (nth q 0)) (atI (nth q 1)))])
theorem hS_wide_Clip (F : Nat) : ∀ f, Good PP f (unS (S_wide_Clip F f)) := words_good fun p hp => by
  simp only [List.mem_cons, List.not_mem_nil, or_false] at hp
  rcases hp with rfl
  · exact g_wide_Of F
theorem hl_wide_Clip (F : Nat) : ∀ p ∈ loopsIn PP 117, LoopOK PP (S_wide_Clip F) c_wide_Clip F (I_wide_Clip F) (J_wide_Clip F) p :=
  loops_of [] (by kernel_rfl) all_nil
theorem hj_wide_Clip (F : Nat) : ∀ p ∈ joinsIn PP c_wide_Clip 117, JoinOK PP (S_wide_Clip F) c_wide_Clip (I_wide_Clip F) (J_wide_Clip F) p :=
  joins_of [] (by kernel_rfl) all_nil
theorem g_wide_Clip (F : Nat) : Good PP 117 (unS (s_wide_Clip F)) :=
  fun_spec (hS_wide_Clip F) (by kernel_rfl) (by kernel_rfl) (C := c_wide_Clip) (F := fun q => (f_wide_Clip F (atI (nth q 0)) (atI (nth q 1)))) (fun _ => F) (fun _ => I_wide_Clip F) (fun _ => J_wide_Clip F) (fun _ => hl_wide_Clip F) (fun _ => hj_wide_Clip F)
    (fun q => (congrArg (funL PP (S_wide_Clip F) c_wide_Clip (I_wide_Clip F) (J_wide_Clip F) 117) (show (fTs ti_wide_Clip q).1 = (fTs ti_wide_Clip [.i (atI (nth q 0)), .i (atI (nth q 1))]).1 by kernel_rfl)).trans (e_wide_Clip F (atI (nth q 0)) (atI (nth q 1))))
    (fun _ h => (okT_fill h).trans (congrArg some (by kernel_rfl)))

end Go.Xv
set_option linter.unusedVariables false
namespace Go.Xv
/- 133 _wide_divide -/
def c_wide_divide : Cfg := ⟨[0, 1, 2, 4, 5, 6, 7, 8, 9, 27], [(0, [0, 1, 2, 4, 5, 6, 8, 36, 37])], [], []⟩
def ti_wide_divide : List TV := [.v (.agg [.int .i64, .int .u64]), .v (.int .u64)]
def to_wide_divide : TV := .v (.tup [.agg [.int .i64, .int .u64], .int .u64])
def S_wide_divide (F : Nat) : FuncId → List VV → Option (Bool × VV) := words [(111, s_wide_Left F)]
def T_wide_divide_0 : TS := ⟨[(0, .v (.agg [.int .i64, .int .u64])), (1, .v (.int .u64)), (2, .lp 0 (.lit 0)), (4, .lp 1 (.lit 0)), (5, .v (.int .u64)), (6, .v (.int .u64)), (8, .v (.int .i64))], [(0, ⟨(.ex [.v (.int .i64), .v (.int .u64)]), true⟩), (1, ⟨(.ex [.v (.int .i64), .v (.int .u64)]), true⟩)], 2⟩
def T_wide_divide_0_0 : TS := ⟨[(0, .v (.agg [.int .i64, .int .u64])), (1, .v (.int .u64)), (2, .lp 0 (.lit 0)), (4, .lp 1 (.lit 0)), (5, .v (.int .u64)), (6, .v (.int .u64)), (8, .v (.int .i64))], [(0, ⟨(.ex [.v (.int .i64), .v (.int .u64)]), true⟩), (1, ⟨(.ex [.v (.int .i64), .v (.int .u64)]), true⟩)], 2⟩
def B_wide_divide_0 (F : Nat) (rc : Int → Int → Int → Int → Int → Int → Int → Int → Int → Int → R) (ex0 : Int → Int → Int → Int → Int → Int → Int → Int → Int → Int → R) (x0 : Int) (x1 : Int) (x2 : Int) (x3 : Int) (x4 : Int) (x5 : Int) (x6 : Int) (x7 : Int) (x8 : Int) (x9 : Int) : R :=
  bif ((decide (x5 < 128))) then (
    let v2070 : Int := (orI .u64 ((IntKind.wrap .u64 (x4 * 2))) ((Int.fdiv ((IntKind.wrap .u64 x6)) (9223372036854775808))))
    bif (ok_wide_Left F x6 x7 1) then (
      let v2071 : Int := (o_wide_Left_0 F x6 x7 1)
      let v2072 : Int := (o_wide_Left_1 F x6 x7 1)
      bif ((((Int.fdiv x4 (9223372036854775808))) == 1)) then (
        rc x0 x1 x2 x3 ((IntKind.wrap .u64 (v2070 - x2))) ((IntKind.wrap .i64 (x5 + 1))) v2071 ((orI .u64 v2072 1)) x8 x9)
      else (
        bif ((decide (v2070 ≥ x2))) then (
          rc x0 x1 x2 x3 ((IntKind.wrap .u64 (v2070 - x2))) ((IntKind.wrap .i64 (x5 + 1))) v2071 ((orI .u64 v2072 1)) x8 x9)
        else (
          rc x0 x1 x2 x3 v2070 ((IntKind.wrap .i64 (x5 + 1))) v2071 v2072 x8 x9)))
    else (
      none))
  else (
    ex0 x0 x1 x2 x3 x4 x5 x6 x7 x8 x9)
def L_wide_divide_0 (F : Nat) (ex0 : Int → Int → Int → Int → Int → Int → Int → Int → Int → Int → R) : Nat → Int → Int → Int → Int → Int → Int → Int → Int → Int → Int → R
  | 0, _, _, _, _, _, _, _, _, _, _ => none
  | n + 1, x0, x1, x2, x3, x4, x5, x6, x7, x8, x9 => B_wide_divide_0 F (L_wide_divide_0 F ex0 n) ex0 x0 x1 x2 x3 x4 x5 x6 x7 x8 x9
def W_wide_divide (F : Nat) : List LW := [⟨0, T_wide_divide_0, fun k q => L_wide_divide_0 F (fun (z0 : Int) (z1 : Int) (z2 : Int) (z3 : Int) (z4 : Int) (z5 : Int) (z6 : Int) (z7 : Int) (z8 : Int) (z9 : Int) => k (.exit 0) (fS T_wide_divide_0_0 [.i z0, .i z1, .i z2, .i z3, .i z4, .i z5, .i z6, .i z7, .i z8, .i z9])) F (atI (nth q 0)) (atI (nth q 1)) (atI (nth q 2)) (atI (nth q 3)) (atI (nth q 4)) (atI (nth q 5)) (atI (nth q 6)) (atI (nth q 7)) (atI (nth q 8)) (atI (nth q 9))⟩]
def I_wide_divide (F : Nat) : Nat → VS → (Exit → VS → R) → R := tabI c_wide_divide (W_wide_divide F)
def WJ_wide_divide (F : Nat) : List LJ := []
def J_wide_divide (F : Nat) : Nat → Nat → VS → (Exit → VS → R) → R := tabJ (WJ_wide_divide F)
theorem lL_wide_divide_0 (F : Nat) (k : Exit → VS → R) : ∀ (n : Nat) (x0 : Int) (x1 : Int) (x2 : Int) (x3 : Int) (x4 : Int) (x5 : Int) (x6 : Int) (x7 : Int) (x8 : Int) (x9 : Int), iterC (codeL PP (S_wide_divide F) c_wide_divide (I_wide_divide F) (J_wide_divide F) (loopAt PP 133 0) 0) (headOf c_wide_divide 0) k n (fS T_wide_divide_0 [.i x0, .i x1, .i x2, .i x3, .i x4, .i x5, .i x6, .i x7, .i x8, .i x9]) = L_wide_divide_0 F (fun (z0 : Int) (z1 : Int) (z2 : Int) (z3 : Int) (z4 : Int) (z5 : Int) (z6 : Int) (z7 : Int) (z8 : Int) (z9 : Int) => k (.exit 0) (fS T_wide_divide_0_0 [.i z0, .i z1, .i z2, .i z3, .i z4, .i z5, .i z6, .i z7, .i z8, .i z9])) n x0 x1 x2 x3 x4 x5 x6 x7 x8 x9
  | 0, _, _, _, _, _, _, _, _, _, _ => rfl
  | n + 1, x0, x1, x2, x3, x4, x5, x6, x7, x8, x9 => by
    have h0 : ∀ (ok_wide_Left : Nat → Int → Int → Int → Bool) (o_wide_Left_0 : Nat → Int → Int → Int → Int) (o_wide_Left_1 : Nat → Int → Int → Int → Int) (L_wide_divide_0 : Nat → (Int → Int → Int → Int → Int → Int → Int → Int → Int → Int → R) → Nat → Int → Int → Int → Int → Int → Int → Int → Int → Int → Int → R), iterC (codeL PP (words [(111, spec ti_wide_Left to_wide_Left (fun q => (ok_wide_Left F (atI (nth q 0)) (atI (nth q 1)) (atI (nth q 2)))) (fun q => [.i (o_wide_Left_0 F (atI (nth q 0)) (atI (nth q 1)) (atI (nth q 2))), .i (o_wide_Left_1 F (atI (nth q 0)) (atI (nth q 1)) (atI (nth q 2)))]))]) c_wide_divide (tabI c_wide_divide [⟨0, T_wide_divide_0, fun k q => L_wide_divide_0 F (fun (z0 : Int) (z1 : Int) (z2 : Int) (z3 : Int) (z4 : Int) (z5 : Int) (z6 : Int) (z7 : Int) (z8 : Int) (z9 : Int) => k (.exit 0) (fS T_wide_divide_0_0 [.i z0, .i z1, .i z2, .i z3, .i z4, .i z5, .i z6, .i z7, .i z8, .i z9])) F (atI (nth q 0)) (atI (nth q 1)) (atI (nth q 2)) (atI (nth q 3)) (atI (nth q 4)) (atI (nth q 5)) (atI (nth q 6)) (atI (nth q 7)) (atI (nth q 8)) (atI (nth q 9))⟩]) (tabJ []) (loopAt PP 133 0) 0) (headOf c_wide_divide 0) k (n + 1) (fS T_wide_divide_0 [.i x0, .i x1, .i x2, .i x3, .i x4, .i x5, .i x6, .i x7, .i x8, .i x9]) = (fun (rc : Int → Int → Int → Int → Int → Int → Int → Int → Int → Int → R) (ex0 : Int → Int → Int → Int → Int → Int → Int → Int → Int → Int → R) (x0 : Int) (x1 : Int) (x2 : Int) (x3 : Int) (x4 : Int) (x5 : Int) (x6 : Int) (x7 : Int) (x8 : Int) (x9 : Int) => (
  bif ((decide (x5 < 128))) then (
    let v2070 : Int := (orI .u64 ((IntKind.wrap .u64 (x4 * 2))) ((Int.fdiv ((IntKind.wrap .u64 x6)) (9223372036854775808))))
    bif (ok_wide_Left F x6 x7 1) then (
      let v2071 : Int := (o_wide_Left_0 F x6 x7 1)
      let v2072 : Int := (o_wide_Left_1 F x6 x7 1)
      bif ((((Int.fdiv x4 (9223372036854775808))) == 1)) then (
        rc x0 x1 x2 x3 ((IntKind.wrap .u64 (v2070 - x2))) ((IntKind.wrap .i64 (x5 + 1))) v2071 ((orI .u64 v2072 1)) x8 x9)
      else (
        bif ((decide (v2070 ≥ x2))) then (
          rc x0 x1 x2 x3 ((IntKind.wrap .u64 (v2070 - x2))) ((IntKind.wrap .i64 (x5 + 1))) v2071 ((orI .u64 v2072 1)) x8 x9)
        else (
          rc x0 x1 x2 x3 v2070 ((IntKind.wrap .i64 (x5 + 1))) v2071 v2072 x8 x9)))
    else (
      none))
  else (
    ex0 x0 x1 x2 x3 x4 x5 x6 x7 x8 x9) : R)) (fun (y0 : Int) (y1 : Int) (y2 : Int) (y3 : Int) (y4 : Int) (y5 : Int) (y6 : Int) (y7 : Int) (y8 : Int) (y9 : Int) => iterC (codeL PP (words [(111, spec ti_wide_Left to_wide_Left (fun q => (ok_wide_Left F (atI (nth q 0)) (atI (nth q 1)) (atI (nth q 2)))) (fun q => [.i (o_wide_Left_0 F (atI (nth q 0)) (atI (nth q 1)) (atI (nth q 2))), .i (o_wide_Left_1 F (atI (nth q 0)) (atI (nth q 1)) (atI (nth q 2)))]))]) c_wide_divide (tabI c_wide_divide [⟨0, T_wide_divide_0, fun k q => L_wide_divide_0 F (fun (z0 : Int) (z1 : Int) (z2 : Int) (z3 : Int) (z4 : Int) (z5 : Int) (z6 : Int) (z7 : Int) (z8 : Int) (z9 : Int) => k (.exit 0) (fS T_wide_divide_0_0 [.i z0, .i z1, .i z2, .i z3, .i z4, .i z5, .i z6, .i z7, .i z8, .i z9])) F (atI (nth q 0)) (atI (nth q 1)) (atI (nth q 2)) (atI (nth q 3)) (atI (nth q 4)) (atI (nth q 5)) (atI (nth q 6)) (atI (nth q 7)) (atI (nth q 8)) (atI (nth q 9))⟩]) (tabJ []) (loopAt PP 133 0) 0) (headOf c_wide_divide 0) k n (fS T_wide_divide_0 [.i y0, .i y1, .i y2, .i y3, .i y4, .i y5, .i y6, .i y7, .i y8, .i y9])) (fun (z0 : Int) (z1 : Int) (z2 : Int) (z3 : Int) (z4 : Int) (z5 : Int) (z6 : Int) (z7 : Int) (z8 : Int) (z9 : Int) => k (.exit 0) (fS T_wide_divide_0_0 [.i z0, .i z1, .i z2, .i z3, .i z4, .i z5, .i z6, .i z7, .i z8, .i z9])) x0 x1 x2 x3 x4 x5 x6 x7 x8 x9 := by
      intros
      kernel_rfl
    have h : iterC (codeL PP (S_wide_divide F) c_wide_divide (I_wide_divide F) (J_wide_divide F) (loopAt PP 133 0) 0) (headOf c_wide_divide 0) k (n + 1) (fS T_wide_divide_0 [.i x0, .i x1, .i x2, .i x3, .i x4, .i x5, .i x6, .i x7, .i x8, .i x9]) = B_wide_divide_0 F (fun (y0 : Int) (y1 : Int) (y2 : Int) (y3 : Int) (y4 : Int) (y5 : Int) (y6 : Int) (y7 : Int) (y8 : Int) (y9 : Int) => iterC (codeL PP (S_wide_divide F) c_wide_divide (I_wide_divide F) (J_wide_divide F) (loopAt PP 133 0) 0) (headOf c_wide_divide 0) k n (fS T_wide_divide_0 [.i y0, .i y1, .i y2, .i y3, .i y4, .i y5, .i y6, .i y7, .i y8, .i y9])) (fun (z0 : Int) (z1 : Int) (z2 : Int) (z3 : Int) (z4 : Int) (z5 : Int) (z6 : Int) (z7 : Int) (z8 : Int) (z9 : Int) => k (.exit 0) (fS T_wide_divide_0_0 [.i z0, .i z1, .i z2, .i z3, .i z4, .i z5, .i z6, .i z7, .i z8, .i z9])) x0 x1 x2 x3 x4 x5 x6 x7 x8 x9 := (h0 ok_wide_Left o_wide_Left_0 o_wide_Left_1 L_wide_divide_0).trans (by kernel_rfl)
    rw [h]
    simp only [lL_wide_divide_0 F k n]
    rfl
def f_wide_divide (F : Nat) (a0 : Int) (a1 : Int) (a2 : Int) : R :=
  L_wide_divide_0 F (fun (v2081 : Int) (v2082 : Int) (v2083 : Int) (v2084 : Int) (v2085 : Int) (v2086 : Int) (v2087 : Int) (v2088 : Int) (v2089 : Int) (v2090 : Int) =>
    some (.v (.tuple #[.agg #[.int .i64 v2087, .int .u64 v2088], .int .u64 v2085]))) F a0 a1 a2 0 0 0 a0 a1 0 0
theorem e_wide_divide (F : Nat) (a0 : Int) (a1 : Int) (a2 : Int) : funL PP (S_wide_divide F) c_wide_divide (I_wide_divide F) (J_wide_divide F) 133 (fTs ti_wide_divide [.i a0, .i a1, .i a2]).1 = f_wide_divide F a0 a1 a2 := by
  have h : ∀ (ok_wide_Left : Nat → Int → Int → Int → Bool) (o_wide_Left_0 : Nat → Int → Int → Int → Int) (o_wide_Left_1 : Nat → Int → Int → Int → Int) (L_wide_divide_0 : Nat → (Int → Int → Int → Int → Int → Int → Int → Int → Int → Int → R) → Nat → Int → Int → Int → Int → Int → Int → Int → Int → Int → Int → R), funL PP (words [(111, spec ti_wide_Left to_wide_Left (fun q => (ok_wide_Left F (atI (nth q 0)) (atI (nth q 1)) (atI (nth q 2)))) (fun q => [.i (o_wide_Left_0 F (atI (nth q 0)) (atI (nth q 1)) (atI (nth q 2))), .i (o_wide_Left_1 F (atI (nth q 0)) (atI (nth q 1)) (atI (nth q 2)))]))]) c_wide_divide (tabI c_wide_divide [⟨0, T_wide_divide_0, fun k q => L_wide_divide_0 F (fun (z0 : Int) (z1 : Int) (z2 : Int) (z3 : Int) (z4 : Int) (z5 : Int) (z6 : Int) (z7 : Int) (z8 : Int) (z9 : Int) => k (.exit 0) (fS T_wide_divide_0_0 [.i z0, .i z1, .i z2, .i z3, .i z4, .i z5, .i z6, .i z7, .i z8, .i z9])) F (atI (nth q 0)) (atI (nth q 1)) (atI (nth q 2)) (atI (nth q 3)) (atI (nth q 4)) (atI (nth q 5)) (atI (nth q 6)) (atI (nth q 7)) (atI (nth q 8)) (atI (nth q 9))⟩]) (tabJ []) 133 (fTs ti_wide_divide [.i a0, .i a1, .i a2]).1 = (
  L_wide_divide_0 F (fun (v2081 : Int) (v2082 : Int) (v2083 : Int) (v2084 : Int) (v2085 : Int) (v2086 : Int) (v2087 : Int) (v2088 : Int) (v2089 : Int) (v2090 : Int) =>
    some (.v (.tuple #[.agg #[.int .i64 v2087, .int .u64 v2088], .int .u64 v2085]))) F a0 a1 a2 0 0 0 a0 a1 0 0 : R) := by
    intros
    kernel_rfl
  exact (h ok_wide_Left o_wide_Left_0 o_wide_Left_1 L_wide_divide_0).trans (by kernel_rfl)
def ok_wide_divide (F : Nat) (a0 : Int) (a1 : Int) (a2 : Int) : Bool := okT to_wide_divide (f_wide_divide F a0 a1 a2)
def o_wide_divide_0 (F : Nat) (a0 : Int) (a1 : Int) (a2 : Int) : Int := atI (nth (outT to_wide_divide (f_wide_divide F a0 a1 a2)) 0)
def o_wide_divide_1 (F : Nat) (a0 : Int) (a1 : Int) (a2 : Int) : Int := atI (nth (outT to_wide_divide (f_wide_divide F a0 a1 a2)) 1)
def o_wide_divide_2 (F : Nat) (a0 : Int) (a1 : Int) (a2 : Int) : Int := atI (nth (outT to_wide_divide (f_wide_divide F a0 a1 a2)) 2)
theorem k_wide_divide (F : Nat) (a0 : Int) (a1 : Int) (a2 : Int) {z0 : Int} {z1 : Int} {z2 : Int} (h : f_wide_divide F a0 a1 a2 = some (.v (.tuple #[.agg #[.int .i64 z0, .int .u64 z1], .int .u64 z2]))) : ok_wide_divide F a0 a1 a2 = true ∧ o_wide_divide_0 F a0 a1 a2 = z0 ∧ o_wide_divide_1 F a0 a1 a2 = z1 ∧ o_wide_divide_2 F a0 a1 a2 = z2 := by
  refine ⟨?_, ?_, ?_, ?_⟩
  · unfold ok_wide_divide; rw [h]; kernel_rfl
  · unfold o_wide_divide_0; rw [h]; kernel_rfl
  · unfold o_wide_divide_1; rw [h]; kernel_rfl
  · unfold o_wide_divide_2; rw [h]; kernel_rfl
def s_wide_divide (F : Nat) : List VV → Option (Bool × VV) := spec ti_wide_divide to_wide_divide (fun q => (ok_wide_divide F (atI (nth q 0)) (atI (nth q 1)) (atI (nth q 2)))) (fun q => [.i (o_wide_divide_0 F (atI (nth q 0)) (atI (nth q 1)) (atI (nth q 2))), .i (o_wide_divide_1 F (atI (nth q 0)) (atI (nth q 1)) (atI (nth q 2))), .i (o_wide_divide_2 F (atI (nth q 0)) (atI (nth q 1)) (atI (nth q 2)))])
theorem hS_wide_divide (F : Nat) : ∀ f, Good PP f (unS (S_wide_divide F f)) := words_good fun p hp => by
  simp only [List.mem_cons, List.not_mem_nil, or_false] at hp
  rcases hp with rfl
  · exact g_wide_Left F
theorem hl_wide_divide (F : Nat) : ∀ p ∈ loopsIn PP 133, LoopOK PP (S_wide_divide F) c_wide_divide F (I_wide_divide F) (J_wide_divide F) p :=
  loops_of [(0, loopAt PP 133 0)] (by kernel_rfl) (all_cons
    (loop_ok (W_wide_divide F) rfl (tab_cons (fun _ k q => Le.ofEq ((lL_wide_divide_0 F k F (atI (nth q 0)) (atI (nth q 1)) (atI (nth q 2)) (atI (nth q 3)) (atI (nth q 4)) (atI (nth q 5)) (atI (nth q 6)) (atI (nth q 7)) (atI (nth q 8)) (atI (nth q 9))).symm.trans (congrArg (iterC (codeL PP (S_wide_divide F) c_wide_divide (I_wide_divide F) (J_wide_divide F) (loopAt PP 133 0) 0) (headOf c_wide_divide 0) k F) (show fS T_wide_divide_0 [.i (atI (nth q 0)), .i (atI (nth q 1)), .i (atI (nth q 2)), .i (atI (nth q 3)), .i (atI (nth q 4)), .i (atI (nth q 5)), .i (atI (nth q 6)), .i (atI (nth q 7)), .i (atI (nth q 8)), .i (atI (nth q 9))] = fS T_wide_divide_0 q by kernel_rfl)))) tab_nil)) all_nil)
theorem hj_wide_divide (F : Nat) : ∀ p ∈ joinsIn PP c_wide_divide 133, JoinOK PP (S_wide_divide F) c_wide_divide (I_wide_divide F) (J_wide_divide F) p :=
  joins_of [] (by kernel_rfl) all_nil
theorem g_wide_divide (F : Nat) : Good PP 133 (unS (s_wide_divide F)) :=
  fun_spec (hS_wide_divide F) (by kernel_rfl) (by kernel_rfl) (C := c_wide_divide) (F := fun q => (f_wide_divide F (atI (nth q 0)) (atI (nth q 1)) (atI (nth q 2)))) (fun _ => F) (fun _ => I_wide_divide F) (fun _ => J_wide_divide F) (fun _ => hl_wide_divide F) (fun _ => hj_wide_divide F)
    (fun q => (congrArg (funL PP (S_wide_divide F) c_wide_divide (I_wide_divide F) (J_wide_divide F) 133) (show (fTs ti_wide_divide q).1 = (fTs ti_wide_divide [.i (atI (nth q 0)), .i (atI (nth q 1)), .i (atI (nth q 2))]).1 by kernel_rfl)).trans (e_wide_divide F (atI (nth q 0)) (atI (nth q 1)) (atI (nth q 2))))
    (fun _ h => (okT_fill h).trans (congrArg some (by kernel_rfl)))

end Go.Xv
set_option linter.unusedVariables false
namespace Go.Xv
/- 121 _ref01_Div -/
def c_ref01_Div : Cfg := ⟨[0, 1, 2, 4, 5, 6, 7, 8, 9, 10, 11, 12, 13, 14, 15, 17, 24, 28, 38, 56, 70, 77], [(0, [0, 1, 2, 4, 5, 6, 7, 8, 9, 10, 11, 12, 14, 15, 16, 17, 18, 19, 20, 21, 22, 23, 24, 25, 26, 27, 28, 29, 30, 31, 32, 33, 34, 35, 36, 63, 64, 65, 66, 67, 68, 69, 70, 71, 72, 73, 74, 75, 76, 77, 78, 79, 80, 81])], [], []⟩
def ti_ref01_Div : List TV := [.v (.agg [.int .i64, .int .u64]), .v (.int .i64)]
def to_ref01_Div : TV := .v (.tup [.agg [.int .i64, .int .u64], .int .i64, .bool])
def S_ref01_Div (F : Nat) : FuncId → List VV → Option (Bool × VV) := words [(34, s_ref01_Neg F), (86, s_ref01_Digits F), (87, s_ref01_Number F)]
def T_ref01_Div_0 : TS := ⟨[(0, .v (.agg [.int .i64, .int .u64])), (1, .v (.int .i64)), (2, .lp 0 (.lit 0)), (4, .lp 1 (.lit 0)), (5, .v (.int .i64)), (6, .v (.bool)), (7, .lp 2 (.lit 0)), (8, .v (.int .u64)), (9, .ls 3 (.lit 0) .hole 1), (10, .ls 4 (.lit 0) (.lit 128) 1), (11, .v (.int .u64)), (12, .v (.int .i64))], [(0, ⟨(.ex [.v (.int .i64), .v (.int .u64)]), true⟩), (1, ⟨(.ex [.v (.int .i64), .v (.int .u64)]), true⟩), (2, ⟨(.ex [.v (.int .i64), .v (.int .u64)]), true⟩), (3, ⟨.hole, true⟩), (4, ⟨.hole, true⟩)], 5⟩
def T_ref01_Div_0_0 : TS := ⟨[(0, .v (.agg [.int .i64, .int .u64])), (1, .v (.int .i64)), (2, .lp 0 (.lit 0)), (4, .lp 1 (.lit 0)), (5, .v (.int .i64)), (6, .v (.bool)), (7, .lp 2 (.lit 0)), (8, .v (.int .u64)), (9, .ls 3 (.lit 0) .hole 1), (10, .ls 4 (.lit 0) (.lit 128) 1), (11, .v (.int .u64)), (12, .v (.int .i64))], [(0, ⟨(.ex [.v (.int .i64), .v (.int .u64)]), true⟩), (1, ⟨(.ex [.v (.int .i64), .v (.int .u64)]), true⟩), (2, ⟨(.ex [.v (.int .i64), .v (.int .u64)]), true⟩), (3, ⟨.hole, true⟩), (4, ⟨.hole, true⟩)], 5⟩
def B_ref01_Div_0 (F : Nat) (rc : Int → Int → Int → Int → Bool → Int → Nat → Int → Int → Int → Int → Int → Int → Int → Int → List VV → List VV → R) (ex0 : Int → Int → Int → Int → Bool → Int → Nat → Int → Int → Int → Int → Int → Int → Int → Int → List VV → List VV → R) (x0 : Int) (x1 : Int) (x2 : Int) (x3 : Int) (x4 : Bool) (x5 : Int) (x6 : Nat) (x7 : Int) (x8 : Int) (x9 : Int) (x10 : Int) (x11 : Int) (x12 : Int) (x13 : Int) (x14 : Int) (x15 : List VV) (x16 : List VV) : R :=
  bif ((decide (x8 ≥ 0))) then (
    bif ((decide (0 ≤ x8)) && (decide (x8 < ((x6 : Nat) : Int)))) then (
      let v2205 : Nat := (0 + ((Int.toNat x8) * 1))
      bif ((isI .i64 x15[v2205]?) && true) then (
        let v2208 : Int := (IntKind.wrap .u64 (((IntKind.wrap .u64 (2 * x7))) + ((IntKind.wrap .u64 ((iv x15[v2205]?))))))
        bif ((decide (x7 ≥ 9223372036854775808))) then (
          bif ((decide (0 ≤ x8)) && (decide (x8 < 128))) then (
            let v2210 : Nat := (0 + ((Int.toNat x8) * 1))
            bif (decide ((v2210 + 1) ≤ x16.length)) then (
              rc x0 x1 x2 x3 x4 x5 x6 ((IntKind.wrap .u64 (v2208 - x5))) ((IntKind.wrap .i64 (x8 - 1))) x9 x10 x11 x12 x13 x14 x15 ((x16.take v2210 ++ [.v (.int .i64 1)] ++ x16.drop (v2210 + 1))))
            else (
              none))
          else (
            none))
        else (
          bif ((decide (v2208 ≥ x5))) then (
            bif ((decide (0 ≤ x8)) && (decide (x8 < 128))) then (
              let v2215 : Nat := (0 + ((Int.toNat x8) * 1))
              bif (decide ((v2215 + 1) ≤ x16.length)) then (
                rc x0 x1 x2 x3 x4 x5 x6 ((IntKind.wrap .u64 (v2208 - x5))) ((IntKind.wrap .i64 (x8 - 1))) x9 x10 x11 x12 x13 x14 x15 ((x16.take v2215 ++ [.v (.int .i64 1)] ++ x16.drop (v2215 + 1))))
              else (
                none))
            else (
              none))
          else (
            rc x0 x1 x2 x3 x4 x5 x6 v2208 ((IntKind.wrap .i64 (x8 - 1))) x9 x10 x11 x12 x13 x14 x15 x16)))
      else (
        none))
    else (
      none))
  else (
    ex0 x0 x1 x2 x3 x4 x5 x6 x7 x8 x9 x10 x11 x12 x13 x14 x15 x16)
def L_ref01_Div_0 (F : Nat) (ex0 : Int → Int → Int → Int → Bool → Int → Nat → Int → Int → Int → Int → Int → Int → Int → Int → List VV → List VV → R) : Nat → Int → Int → Int → Int → Bool → Int → Nat → Int → Int → Int → Int → Int → Int → Int → Int → List VV → List VV → R
  | 0, _, _, _, _, _, _, _, _, _, _, _, _, _, _, _, _, _ => none
  | n + 1, x0, x1, x2, x3, x4, x5, x6, x7, x8, x9, x10, x11, x12, x13, x14, x15, x16 => B_ref01_Div_0 F (L_ref01_Div_0 F ex0 n) ex0 x0 x1 x2 x3 x4 x5 x6 x7 x8 x9 x10 x11 x12 x13 x14 x15 x16
def W_ref01_Div (F : Nat) : List LW := [⟨0, T_ref01_Div_0, fun k q => L_ref01_Div_0 F (fun (z0 : Int) (z1 : Int) (z2 : Int) (z3 : Int) (z4 : Bool) (z5 : Int) (z6 : Nat) (z7 : Int) (z8 : Int) (z9 : Int) (z10 : Int) (z11 : Int) (z12 : Int) (z13 : Int) (z14 : Int) (z15 : List VV) (z16 : List VV) => k (.exit 0) (fS T_ref01_Div_0_0 [.i z0, .i z1, .i z2, .i z3, .b z4, .i z5, .n z6, .i z7, .i z8, .i z9, .i z10, .i z11, .i z12, .i z13, .i z14, .c z15, .c z16])) F (atI (nth q 0)) (atI (nth q 1)) (atI (nth q 2)) (atI (nth q 3)) (atB (nth q 4)) (atI (nth q 5)) (atN (nth q 6)) (atI (nth q 7)) (atI (nth q 8)) (atI (nth q 9)) (atI (nth q 10)) (atI (nth q 11)) (atI (nth q 12)) (atI (nth q 13)) (atI (nth q 14)) (atC (nth q 15)) (atC (nth q 16))⟩]
def I_ref01_Div (F : Nat) : Nat → VS → (Exit → VS → R) → R := tabI c_ref01_Div (W_ref01_Div F)
def WJ_ref01_Div (F : Nat) : List LJ := []
def J_ref01_Div (F : Nat) : Nat → Nat → VS → (Exit → VS → R) → R := tabJ (WJ_ref01_Div F)
theorem lL_ref01_Div_0 (F : Nat) (k : Exit → VS → R) : ∀ (n : Nat) (x0 : Int) (x1 : Int) (x2 : Int) (x3 : Int) (x4 : Bool) (x5 : Int) (x6 : Nat) (x7 : Int) (x8 : Int) (x9 : Int) (x10 : Int) (x11 : Int) (x12 : Int) (x13 : Int) (x14 : Int) (x15 : List VV) (x16 : List VV), iterC (codeL PP (S_ref01_Div F) c_ref01_Div (I_ref01_Div F) (J_ref01_Div F) (loopAt PP 121 0) 0) (headOf c_ref01_Div 0) k n (fS T_ref01_Div_0 [.i x0, .i x1, .i x2, .i x3, .b x4, .i x5, .n x6, .i x7, .i x8, .i x9, .i x10, .i x11, .i x12, .i x13, .i x14, .c x15, .c x16]) = L_ref01_Div_0 F (fun (z0 : Int) (z1 : Int) (z2 : Int) (z3 : Int) (z4 : Bool) (z5 : Int) (z6 : Nat) (z7 : Int) (z8 : Int) (z9 : Int) (z10 : Int) (z11 : Int) (z12 : Int) (z13 : Int) (z14 : Int) (z15 : List VV) (z16 : List VV) => k (.exit 0) (fS T_ref01_Div_0_0 [.i z0, .i z1, .i z2, .i z3, .b z4, .i z5, .n z6, .i z7, .i z8, .i z9, .i z10, .i z11, .i z12, .i z13, .i z14, .c z15, .c z16])) n x0 x1 x2 x3 x4 x5 x6 x7 x8 x9 x10 x11 x12 x13 x14 x15 x16
  | 0, _, _, _, _, _, _, _, _, _, _, _, _, _, _, _, _, _ => rfl
  | n + 1, x0, x1, x2, x3, x4, x5, x6, x7, x8, x9, x10, x11, x12, x13, x14, x15, x16 => by
    have h0 : ∀ (ok_ref01_Neg : Nat → Int → Int → Bool) (o_ref01_Neg_0 : Nat → Int → Int → Int) (o_ref01_Neg_1 : Nat → Int → Int → Int) (ok_ref01_Digits : Nat → Int → Int → Bool) (o_ref01_Digits_0 : Nat → Int → Int → List VV) (o_ref01_Digits_1 : Nat → Int → Int → Nat) (ok_ref01_Number : Nat → List VV → Nat → Bool) (o_ref01_Number_0 : Nat → List VV → Nat → Int) (o_ref01_Number_1 : Nat → List VV → Nat → Int) (L_ref01_Div_0 : Nat → (Int → Int → Int → Int → Bool → Int → Nat → Int → Int → Int → Int → Int → Int → Int → Int → List VV → List VV → R) → Nat → Int → Int → Int → Int → Bool → Int → Nat → Int → Int → Int → Int → Int → Int → Int → Int → List VV → List VV → R), iterC (codeL PP (words [(34, spec ti_ref01_Neg to_ref01_Neg (fun q => (ok_ref01_Neg F (atI (nth q 0)) (atI (nth q 1)))) (fun q => [.i (o_ref01_Neg_0 F (atI (nth q 0)) (atI (nth q 1))), .i (o_ref01_Neg_1 F (atI (nth q 0)) (atI (nth q 1)))])), (86, spec ti_ref01_Digits to_ref01_Digits (fun q => (ok_ref01_Digits F (atI (nth q 0)) (atI (nth q 1)))) (fun q => [.c (o_ref01_Digits_0 F (atI (nth q 0)) (atI (nth q 1))), .n (o_ref01_Digits_1 F (atI (nth q 0)) (atI (nth q 1)))])), (87, spec ti_ref01_Number to_ref01_Number (fun q => (ok_ref01_Number F (atC (nth q 0)) (atN (nth q 1)))) (fun q => [.i (o_ref01_Number_0 F (atC (nth q 0)) (atN (nth q 1))), .i (o_ref01_Number_1 F (atC (nth q 0)) (atN (nth q 1)))]))]) c_ref01_Div (tabI c_ref01_Div [⟨0, T_ref01_Div_0, fun k q => L_ref01_Div_0 F (fun (z0 : Int) (z1 : Int) (z2 : Int) (z3 : Int) (z4 : Bool) (z5 : Int) (z6 : Nat) (z7 : Int) (z8 : Int) (z9 : Int) (z10 : Int) (z11 : Int) (z12 : Int) (z13 : Int) (z14 : Int) (z15 : List VV) (z16 : List VV) => k (.exit 0) (fS T_ref01_Div_0_0 [.i z0, .i z1, .i z2, .i z3, .b z4, .i z5, .n z6, .i z7, .i z8, .i z9, .i z10, .i z11, .i z12, .i z13, .i z14, .c z15, .c z16])) F (atI (nth q 0)) (atI (nth q 1)) (atI (nth q 2)) (atI (nth q 3)) (atB (nth q 4)) (atI (nth q 5)) (atN (nth q 6)) (atI (nth q 7)) (atI (nth q 8)) (atI (nth q 9)) (atI (nth q 10)) (atI (nth q 11)) (atI (nth q 12)) (atI (nth q 13)) (atI (nth q 14)) (atC (nth q 15)) (atC (nth q 16))⟩]) (tabJ []) (loopAt PP 121 0) 0) (headOf c_ref01_Div 0) k (n + 1) (fS T_ref01_Div_0 [.i x0, .i x1, .i x2, .i x3, .b x4, .i x5, .n x6, .i x7, .i x8, .i x9, .i x10, .i x11, .i x12, .i x13, .i x14, .c x15, .c x16]) = (fun (rc : Int → Int → Int → Int → Bool → Int → Nat → Int → Int → Int → Int → Int → Int → Int → Int → List VV → List VV → R) (ex0 : Int → Int → Int → Int → Bool → Int → Nat → Int → Int → Int → Int → Int → Int → Int → Int → List VV → List VV → R) (x0 : Int) (x1 : Int) (x2 : Int) (x3 : Int) (x4 : Bool) (x5 : Int) (x6 : Nat) (x7 : Int) (x8 : Int) (x9 : Int) (x10 : Int) (x11 : Int) (x12 : Int) (x13 : Int) (x14 : Int) (x15 : List VV) (x16 : List VV) => (
  bif ((decide (x8 ≥ 0))) then (
    bif ((decide (0 ≤ x8)) && (decide (x8 < ((x6 : Nat) : Int)))) then (
      let v2205 : Nat := (0 + ((Int.toNat x8) * 1))
      bif ((isI .i64 x15[v2205]?) && true) then (
        let v2208 : Int := (IntKind.wrap .u64 (((IntKind.wrap .u64 (2 * x7))) + ((IntKind.wrap .u64 ((iv x15[v2205]?))))))
        bif ((decide (x7 ≥ 9223372036854775808))) then (
          bif ((decide (0 ≤ x8)) && (decide (x8 < 128))) then (
            let v2210 : Nat := (0 + ((Int.toNat x8) * 1))
            bif (decide ((v2210 + 1) ≤ x16.length)) then (
              rc x0 x1 x2 x3 x4 x5 x6 ((IntKind.wrap .u64 (v2208 - x5))) ((IntKind.wrap .i64 (x8 - 1))) x9 x10 x11 x12 x13 x14 x15 ((x16.take v2210 ++ [.v (.int .i64 1)] ++ x16.drop (v2210 + 1))))
            else (
              none))
          else (
            none))
        else (
          bif ((decide (v2208 ≥ x5))) then (
            bif ((decide (0 ≤ x8)) && (decide (x8 < 128))) then (
              let v2215 : Nat := (0 + ((Int.toNat x8) * 1))
              bif (decide ((v2215 + 1) ≤ x16.length)) then (
                rc x0 x1 x2 x3 x4 x5 x6 ((IntKind.wrap .u64 (v2208 - x5))) ((IntKind.wrap .i64 (x8 - 1))) x9 x10 x11 x12 x13 x14 x15 ((x16.take v2215 ++ [.v (.int .i64 1)] ++ x16.drop (v2215 + 1))))
              else (
                none))
            else (
              none))
          else (
            rc x0 x1 x2 x3 x4 x5 x6 v2208 ((IntKind.wrap .i64 (x8 - 1))) x9 x10 x11 x12 x13 x14 x15 x16)))
      else (
        none))
    else (
      none))
  else (
    ex0 x0 x1 x2 x3 x4 x5 x6 x7 x8 x9 x10 x11 x12 x13 x14 x15 x16) : R)) (fun (y0 : Int) (y1 : Int) (y2 : Int) (y3 : Int) (y4 : Bool) (y5 : Int) (y6 : Nat) (y7 : Int) (y8 : Int) (y9 : Int) (y10 : Int) (y11 : Int) (y12 : Int) (y13 : Int) (y14 : Int) (y15 : List VV) (y16 : List VV) => iterC (codeL PP (words [(34, spec ti_ref01_Neg to_ref01_Neg (fun q => (ok_ref01_Neg F (atI (nth q 0)) (atI (nth q 1)))) (fun q => [.i (o_ref01_Neg_0 F (atI (nth q 0)) (atI (nth q 1))), .i (o_ref01_Neg_1 F (atI (nth q 0)) (atI (nth q 1)))])), (86, spec ti_ref01_Digits to_ref01_Digits (fun q => (ok_ref01_Digits F (atI (nth q 0)) (atI (nth q 1)))) (fun q => [.c (o_ref01_Digits_0 F (atI (nth q 0)) (atI (nth q 1))), .n (o_ref01_Digits_1 F (atI (nth q 0)) (atI (nth q 1)))])), (87, spec ti_ref01_Number to_ref01_Number (fun q => (ok_ref01_Number F (atC (nth q 0)) (atN (nth q 1)))) (fun q => [.i (o_ref01_Number_0 F (atC (nth q 0)) (atN (nth q 1))), .i (o_ref01_Number_1 F (atC (nth q 0)) (atN (nth q 1)))]))]) c_ref01_Div (tabI c_ref01_Div [⟨0, T_ref01_Div_0, fun k q => L_ref01_Div_0 F (fun (z0 : Int) (z1 : Int) (z2 : Int) (z3 : Int) (z4 : Bool) (z5 : Int) (z6 : Nat) (z7 : Int) (z8 : Int) (z9 : Int) (z10 : Int) (z11 : Int) (z12 : Int) (z13 : Int) (z14 : Int) (z15 : List VV) (z16 : List VV) => k (.exit 0) (fS T_ref01_Div_0_0 [.i z0, .i z1, .i z2, .i z3, .b z4, .i z5, .n z6, .i z7, .i z8, .i z9, .i z10, .i z11, .i z12, .i z13, .i z14, .c z15, .c z16])) F (atI (nth q 0)) (atI (nth q 1)) (atI (nth q 2)) (atI (nth q 3)) (atB (nth q 4)) (atI (nth q 5)) (atN (nth q 6)) (atI (nth q 7)) (atI (nth q 8)) (atI (nth q 9)) (atI (nth q 10)) (atI (nth q 11)) (atI (nth q 12)) (atI (nth q 13)) (atI (nth q 14)) (atC (nth q 15)) (atC (nth q 16))⟩]) (tabJ []) (loopAt PP 121 0) 0) (headOf c_ref01_Div 0) k n (fS T_ref01_Div_0 [.i y0, .i y1, .i y2, .i y3, .b y4, .i y5, .n y6, .i y7, .i y8, .i y9, .i y10, .i y11, .i y12, .i y13, .i y14, .c y15, .c y16])) (fun (z0 : Int) (z1 : Int) (z2 : Int) (z3 : Int) (z4 : Bool) (z5 : Int) (z6 : Nat) (z7 : Int) (z8 : Int) (z9 : Int) (z10 : Int) (z11 : Int) (z12 : Int) (z13 : Int) (z14 : Int) (z15 : List VV) (z16 : List VV) => k (.exit 0) (fS T_ref01_Div_0_0 [.i z0, .i z1, .i z2, .i z3, .b z4, .i z5, .n z6, .i z7, .i z8, .i z9, .i z10, .i z11, .i z12, .i z13, .i z14, .c z15, .c z16])) x0 x1 x2 x3 x4 x5 x6 x7 x8 x9 x10 x11 x12 x13 x14 x15 x16 := by
      intros
      kernel_rfl
    have h : iterC (codeL PP (S_ref01_Div F) c_ref01_Div (I_ref01_Div F) (J_ref01_Div F) (loopAt PP 121 0) 0) (headOf c_ref01_Div 0) k (n + 1) (fS T_ref01_Div_0 [.i x0, .i x1, .i x2, .i x3, .b x4, .i x5, .n x6, .i x7, .i x8, .i x9, .i x10, .i x11, .i x12, .i x13, .i x14, .c x15, .c x16]) = B_ref01_Div_0 F (fun (y0 : Int) (y1 : Int) (y2 : Int) (y3 : Int) (y4 : Bool) (y5 : Int) (y6 : Nat) (y7 : Int) (y8 : Int) (y9 : Int) (y10 : Int) (y11 : Int) (y12 : Int) (y13 : Int) (y14 : Int) (y15 : List VV) (y16 : List VV) => iterC (codeL PP (S_ref01_Div F) c_ref01_Div (I_ref01_Div F) (J_ref01_Div F) (loopAt PP 121 0) 0) (headOf c_ref01_Div 0) k n (fS T_ref01_Div_0 [.i y0, .i y1, .i y2, .i y3, .b y4, .i y5, .n y6, .i y7, .i y8, .i y9, .i y10, .i y11, .i y12, .i y13, .i y14, .c y15, .c y16])) (fun (z0 : Int) (z1 : Int) (z2 : Int) (z3 : Int) (z4 : Bool) (z5 : Int) (z6 : Nat) (z7 : Int) (z8 : Int) (z9 : Int) (z10 : Int) (z11 : Int) (z12 : Int) (z13 : Int) (z14 : Int) (z15 : List VV) (z16 : List VV) => k (.exit 0) (fS T_ref01_Div_0_0 [.i z0, .i z1, .i z2, .i z3, .b z4, .i z5, .n z6, .i z7, .i z8, .i z9, .i z10, .i z11, .i z12, .i z13, .i z14, .c z15, .c z16])) x0 x1 x2 x3 x4 x5 x6 x7 x8 x9 x10 x11 x12 x13 x14 x15 x16 := (h0 ok_ref01_Neg o_ref01_Neg_0 o_ref01_Neg_1 ok_ref01_Digits o_ref01_Digits_0 o_ref01_Digits_1 ok_ref01_Number o_ref01_Number_0 o_ref01_Number_1 L_ref01_Div_0).trans (by kernel_rfl)
    rw [h]
    simp only [lL_ref01_Div_0 F k n]
    rfl
def f_ref01_Div (F : Nat) (a0 : Int) (a1 : Int) (a2 : Int) : R :=
  bif ((a2 == 0)) then (
    some (.v (.tuple #[.agg #[.int .i64 0, .int .u64 0], .int .i64 0, .bool false])))
  else (
    let v2173 : Int := (IntKind.wrap .u64 a2)
    bif ((decide (a0 < 0))) then (
      bif (ok_ref01_Neg F a0 a1) then (
        let v2175 : Int := (o_ref01_Neg_0 F a0 a1)
        let v2176 : Int := (o_ref01_Neg_1 F a0 a1)
        bif ((decide (a2 < 0))) then (
          bif (ok_ref01_Digits F v2175 v2176) then (
            L_ref01_Div_0 F (fun (v2219 : Int) (v2220 : Int) (v2221 : Int) (v2222 : Int) (v2223 : Bool) (v2224 : Int) (v2225 : Nat) (v2226 : Int) (v2227 : Int) (v2228 : Int) (v2229 : Int) (v2230 : Int) (v2231 : Int) (v2232 : Int) (v2233 : Int) (v2234 : List VV) (v2235 : List VV) =>
              bif (ok_ref01_Number F v2235 128) then (
                let v2236 : Int := (o_ref01_Number_0 F v2235 128)
                let v2237 : Int := (o_ref01_Number_1 F v2235 128)
                bif ((!(((decide (v2228 < 0))) == ((decide (v2221 < 0)))))) then (
                  bif (ok_ref01_Neg F v2236 v2237) then (
                    let v2241 : Int := (o_ref01_Neg_0 F v2236 v2237)
                    let v2242 : Int := (o_ref01_Neg_1 F v2236 v2237)
                    let v2243 : Int := (IntKind.wrap .i64 v2226)
                    bif ((decide (v2228 < 0))) then (
                      some (.v (.tuple #[.agg #[.int .i64 v2241, .int .u64 v2242], .int .i64 ((IntKind.wrap .i64 (0 - v2243))), .bool true])))
                    else (
                      some (.v (.tuple #[.agg #[.int .i64 v2241, .int .u64 v2242], .int .i64 v2243, .bool true]))))
                  else (
                    none))
                else (
                  let v2246 : Int := (IntKind.wrap .i64 v2226)
                  bif ((decide (v2228 < 0))) then (
                    some (.v (.tuple #[.agg #[.int .i64 v2236, .int .u64 v2237], .int .i64 ((IntKind.wrap .i64 (0 - v2246))), .bool true])))
                  else (
                    some (.v (.tuple #[.agg #[.int .i64 v2236, .int .u64 v2237], .int .i64 v2246, .bool true])))))
              else (
                none)) F a0 a1 a2 0 false ((IntKind.wrap .u64 (((IntKind.wrap .u64 ((IntKind.wrap .i64 (0 - ((IntKind.wrap .i64 (a2 + 1)))))))) + 1))) ((o_ref01_Digits_1 F v2175 v2176)) 0 127 a0 a1 0 0 v2175 v2176 ((o_ref01_Digits_0 F v2175 v2176)) ((List.replicate 128 [.v (.int .i64 0)]).flatten))
          else (
            none))
        else (
          bif (ok_ref01_Digits F v2175 v2176) then (
            L_ref01_Div_0 F (fun (v2252 : Int) (v2253 : Int) (v2254 : Int) (v2255 : Int) (v2256 : Bool) (v2257 : Int) (v2258 : Nat) (v2259 : Int) (v2260 : Int) (v2261 : Int) (v2262 : Int) (v2263 : Int) (v2264 : Int) (v2265 : Int) (v2266 : Int) (v2267 : List VV) (v2268 : List VV) =>
              bif (ok_ref01_Number F v2268 128) then (
                let v2269 : Int := (o_ref01_Number_0 F v2268 128)
                let v2270 : Int := (o_ref01_Number_1 F v2268 128)
                bif ((!(((decide (v2261 < 0))) == ((decide (v2254 < 0)))))) then (
                  bif (ok_ref01_Neg F v2269 v2270) then (
                    let v2274 : Int := (o_ref01_Neg_0 F v2269 v2270)
                    let v2275 : Int := (o_ref01_Neg_1 F v2269 v2270)
                    let v2276 : Int := (IntKind.wrap .i64 v2259)
                    bif ((decide (v2261 < 0))) then (
                      some (.v (.tuple #[.agg #[.int .i64 v2274, .int .u64 v2275], .int .i64 ((IntKind.wrap .i64 (0 - v2276))), .bool true])))
                    else (
                      some (.v (.tuple #[.agg #[.int .i64 v2274, .int .u64 v2275], .int .i64 v2276, .bool true]))))
                  else (
                    none))
                else (
                  let v2279 : Int := (IntKind.wrap .i64 v2259)
                  bif ((decide (v2261 < 0))) then (
                    some (.v (.tuple #[.agg #[.int .i64 v2269, .int .u64 v2270], .int .i64 ((IntKind.wrap .i64 (0 - v2279))), .bool true])))
                  else (
                    some (.v (.tuple #[.agg #[.int .i64 v2269, .int .u64 v2270], .int .i64 v2279, .bool true])))))
              else (
                none)) F a0 a1 a2 0 false v2173 ((o_ref01_Digits_1 F v2175 v2176)) 0 127 a0 a1 0 0 v2175 v2176 ((o_ref01_Digits_0 F v2175 v2176)) ((List.replicate 128 [.v (.int .i64 0)]).flatten))
          else (
            none)))
      else (
        none))
    else (
      bif ((decide (a2 < 0))) then (
        bif (ok_ref01_Digits F a0 a1) then (
          L_ref01_Div_0 F (fun (v2290 : Int) (v2291 : Int) (v2292 : Int) (v2293 : Int) (v2294 : Bool) (v2295 : Int) (v2296 : Nat) (v2297 : Int) (v2298 : Int) (v2299 : Int) (v2300 : Int) (v2301 : Int) (v2302 : Int) (v2303 : Int) (v2304 : Int) (v2305 : List VV) (v2306 : List VV) =>
            bif (ok_ref01_Number F v2306 128) then (
              let v2307 : Int := (o_ref01_Number_0 F v2306 128)
              let v2308 : Int := (o_ref01_Number_1 F v2306 128)
              bif ((!(((decide (v2299 < 0))) == ((decide (v2292 < 0)))))) then (
                bif (ok_ref01_Neg F v2307 v2308) then (
                  let v2312 : Int := (o_ref01_Neg_0 F v2307 v2308)
                  let v2313 : Int := (o_ref01_Neg_1 F v2307 v2308)
                  let v2314 : Int := (IntKind.wrap .i64 v2297)
                  bif ((decide (v2299 < 0))) then (
                    some (.v (.tuple #[.agg #[.int .i64 v2312, .int .u64 v2313], .int .i64 ((IntKind.wrap .i64 (0 - v2314))), .bool true])))
                  else (
                    some (.v (.tuple #[.agg #[.int .i64 v2312, .int .u64 v2313], .int .i64 v2314, .bool true]))))
                else (
                  none))
              else (
                let v2317 : Int := (IntKind.wrap .i64 v2297)
                bif ((decide (v2299 < 0))) then (
                  some (.v (.tuple #[.agg #[.int .i64 v2307, .int .u64 v2308], .int .i64 ((IntKind.wrap .i64 (0 - v2317))), .bool true])))
                else (
                  some (.v (.tuple #[.agg #[.int .i64 v2307, .int .u64 v2308], .int .i64 v2317, .bool true])))))
            else (
              none)) F a0 a1 a2 0 false ((IntKind.wrap .u64 (((IntKind.wrap .u64 ((IntKind.wrap .i64 (0 - ((IntKind.wrap .i64 (a2 + 1)))))))) + 1))) ((o_ref01_Digits_1 F a0 a1)) 0 127 a0 a1 0 0 a0 a1 ((o_ref01_Digits_0 F a0 a1)) ((List.replicate 128 [.v (.int .i64 0)]).flatten))
        else (
          none))
      else (
        bif (ok_ref01_Digits F a0 a1) then (
          L_ref01_Div_0 F (fun (v2323 : Int) (v2324 : Int) (v2325 : Int) (v2326 : Int) (v2327 : Bool) (v2328 : Int) (v2329 : Nat) (v2330 : Int) (v2331 : Int) (v2332 : Int) (v2333 : Int) (v2334 : Int) (v2335 : Int) (v2336 : Int) (v2337 : Int) (v2338 : List VV) (v2339 : List VV) =>
            bif (ok_ref01_Number F v2339 128) then (
              let v2340 : Int := (o_ref01_Number_0 F v2339 128)
              let v2341 : Int := (o_ref01_Number_1 F v2339 128)
              bif ((!(((decide (v2332 < 0))) == ((decide (v2325 < 0)))))) then (
                bif (ok_ref01_Neg F v2340 v2341) then (
                  let v2345 : Int := (o_ref01_Neg_0 F v2340 v2341)
                  let v2346 : Int := (o_ref01_Neg_1 F v2340 v2341)
                  let v2347 : Int := (IntKind.wrap .i64 v2330)
                  bif ((decide (v2332 < 0))) then (
                    some (.v (.tuple #[.agg #[.int .i64 v2345, .int .u64 v2346], .int .i64 ((IntKind.wrap .i64 (0 - v2347))), .bool true])))
                  else (
                    some (.v (.tuple #[.agg #[.int .i64 v2345, .int .u64 v2346], .int .i64 v2347, .bool true]))))
                else (
                  none))
              else (
                let v2350 : Int := (IntKind.wrap .i64 v2330)
                bif ((decide (v2332 < 0))) then (
                  some (.v (.tuple #[.agg #[.int .i64 v2340, .int .u64 v2341], .int .i64 ((IntKind.wrap .i64 (0 - v2350))), .bool true])))
                else (
                  some (.v (.tuple #[.agg #[.int .i64 v2340, .int .u64 v2341], .int .i64 v2350, .bool true])))))
            else (
              none)) F a0 a1 a2 0 false v2173 ((o_ref01_Digits_1 F a0 a1)) 0 127 a0 a1 0 0 a0 a1 ((o_ref01_Digits_0 F a0 a1)) ((List.replicate 128 [.v (.int .i64 0)]).flatten))
        else (
          none))))
theorem e_ref01_Div (F : Nat) (a0 : Int) (a1 : Int) (a2 : Int) : funL PP (S_ref01_Div F) c_ref01_Div (I_ref01_Div F) (J_ref01_Div F) 121 (fTs ti_ref01_Div [.i a0, .i a1, .i a2]).1 = f_ref01_Div F a0 a1 a2 := by
  have h : ∀ (ok_ref01_Neg : Nat → Int → Int → Bool) (o_ref01_Neg_0 : Nat → Int → Int → Int) (o_ref01_Neg_1 : Nat → Int → Int → Int) (ok_ref01_Digits : Nat → Int → Int → Bool) (o_ref01_Digits_0 : Nat → Int → Int → List VV) (o_ref01_Digits_1 : Nat → Int → Int → Nat) (ok_ref01_Number : Nat → List VV → Nat → Bool) (o_ref01_Number_0 : Nat → List VV → Nat → Int) (o_ref01_Number_1 : Nat → List VV → Nat → Int) (L_ref01_Div_0 : Nat → (Int → Int → Int → Int → Bool → Int → Nat → Int → Int → Int → Int → Int → Int → Int → Int → List VV → List VV → R) → Nat → Int → Int → Int → Int → Bool → Int → Nat → Int → Int → Int → Int → Int → Int → Int → Int → List VV → List VV → R), funL PP (words [(34, spec ti_ref01_Neg to_ref01_Neg (fun q => (ok_ref01_Neg F (atI (nth q 0)) (atI (nth q 1)))) (fun q => [.i (o_ref01_Neg_0 F (atI (nth q 0)) (atI (nth q 1))), .i (o_ref01_Neg_1 F (atI (nth q 0)) (atI (nth q 1)))])), (86, spec ti_ref01_Digits to_ref01_Digits (fun q => (ok_ref01_Digits F (atI (nth q 0)) (atI (nth q 1)))) (fun q => [.c (o_ref01_Digits_0 F (atI (nth q 0)) (atI (nth q 1))), .n (o_ref01_Digits_1 F (atI (nth q 0)) (atI (nth q 1)))])), (87, spec ti_ref01_Number to_ref01_Number (fun q => (ok_ref01_Number F (atC (nth q 0)) (atN (nth q 1)))) (fun q => [.i (o_ref01_Number_0 F (atC (nth q 0)) (atN (nth q 1))), .i (o_ref01_Number_1 F (atC (nth q 0)) (atN (nth q 1)))]))]) c_ref01_Div (tabI c_ref01_Div [⟨0, T_ref01_Div_0, fun k q => L_ref01_Div_0 F (fun (z0 : Int) (z1 : Int) (z2 : Int) (z3 : Int) (z4 : Bool) (z5 : Int) (z6 : Nat) (z7 : Int) (z8 : Int) (z9 : Int) (z10 : Int) (z11 : Int) (z12 : Int) (z13 : Int) (z14 : Int) (z15 : List VV) (z16 : List VV) => k (.exit 0) (fS T_ref01_Div_0_0 [.i z0, .i z1, .i z2, .i z3, .b z4, .i z5, .n z6, .i z7, .i z8, .i z9, .i z10, .i z11, .i z12, .i z13, .i z14, .c z15, .c z16])) F (atI (nth q 0)) (atI (nth q 1)) (atI (nth q 2)) (atI (nth q 3)) (atB (nth q 4)) (atI (nth q 5)) (atN (nth q 6)) (atI (nth q 7)) (atI (nth q 8)) (atI (nth q 9)) (atI (nth q 10)) (atI (nth q 11)) (atI (nth q 12)) (atI (nth q 13)) (atI (nth q 14)) (atC (nth q 15)) (atC (nth q 16))⟩]) (tabJ []) 121 (fTs ti_ref01_Div [.i a0, .i a1, .i a2]).1 = (
  bif ((a2 == 0)) then (
    some (.v (.tuple #[.agg #[.int .i64 0, .int .u64 0], .int .i64 0, .bool false])))
  else (
    let v2173 : Int := (IntKind.wrap .u64 a2)
    bif ((decide (a0 < 0))) then (
      bif (ok_ref01_Neg F a0 a1) then (
        let v2175 : Int := (o_ref01_Neg_0 F a0 a1)
        let v2176 : Int := (o_ref01_Neg_1 F a0 a1)
        bif ((decide (a2 < 0))) then (
          bif (ok_ref01_Digits F v2175 v2176) then (
            L_ref01_Div_0 F (fun (v2219 : Int) (v2220 : Int) (v2221 : Int) (v2222 : Int) (v2223 : Bool) (v2224 : Int) (v2225 : Nat) (v2226 : Int) (v2227 : Int) (v2228 : Int) (v2229 : Int) (v2230 : Int) (v2231 : Int) (v2232 : Int) (v2233 : Int) (v2234 : List VV) (v2235 : List VV) =>
              bif (ok_ref01_Number F v2235 128) then (
                let v2236 : Int := (o_ref01_Number_0 F v2235 128)
                let v2237 : Int := (o_ref01_Number_1 F v2235 128)
                bif ((!(((decide (v2228 < 0))) == ((decide (v2221 < 0)))))) then (
                  bif (ok_ref01_Neg F v2236 v2237) then (
                    let v2241 : Int := (o_ref01_Neg_0 F v2236 v2237)
                    let v2242 : Int := (o_ref01_Neg_1 F v2236 v2237)
                    let v2243 : Int := (IntKind.wrap .i64 v2226)
                    bif ((decide (v2228 < 0))) then (
                      some (.v (.tuple #[.agg #[.int .i64 v2241, .int .u64 v2242], .int .i64 ((IntKind.wrap .i64 (0 - v2243))), .bool true])))
                    else (
                      some (.v (.tuple #[.agg #[.int .i64 v2241, .int .u64 v2242], .int .i64 v2243, .bool true]))))
                  else (
                    none))
                else (
                  let v2246 : Int := (IntKind.wrap .i64 v2226)
                  bif ((decide (v2228 < 0))) then (
                    some (.v (.tuple #[.agg #[.int .i64 v2236, .int .u64 v2237], .int .i64 ((IntKind.wrap .i64 (0 - v2246))), .bool true])))
                  else (
                    some (.v (.tuple #[.agg #[.int .i64 v2236, .int .u64 v2237], .int .i64 v2246, .bool true])))))
              else (
                none)) F a0 a1 a2 0 false ((IntKind.wrap .u64 (((IntKind.wrap .u64 ((IntKind.wrap .i64 (0 - ((IntKind.wrap .i64 (a2 + 1)))))))) + 1))) ((o_ref01_Digits_1 F v2175 v2176)) 0 127 a0 a1 0 0 v2175 v2176 ((o_ref01_Digits_0 F v2175 v2176)) ((List.replicate 128 [.v (.int .i64 0)]).flatten))
          else (
            none))
        else (
          bif (ok_ref01_Digits F v2175 v2176) then (
            L_ref01_Div_0 F (fun (v2252 : Int) (v2253 : Int) (v2254 : Int) (v2255 : Int) (v2256 : Bool) (v2257 : Int) (v2258 : Nat) (v2259 : Int) (v2260 : Int) (v2261 : Int) (v2262 : Int) (v2263 : Int) (v2264 : Int) (v2265 : Int) (v2266 : Int) (v2267 : List VV) (v2268 : List VV) =>
              bif (ok_ref01_Number F v2268 128) then (
                let v2269 : Int := (o_ref01_Number_0 F v2268 128)
                let v2270 : Int := (o_ref01_Number_1 F v2268 128)
                bif ((!(((decide (v2261 < 0))) == ((decide (v2254 < 0)))))) then (
                  bif (ok_ref01_Neg F v2269 v2270) then (
                    let v2274 : Int := (o_ref01_Neg_0 F v2269 v2270)
                    let v2275 : Int := (o_ref01_Neg_1 F v2269 v2270)
                    let v2276 : Int := (IntKind.wrap .i64 v2259)
                    bif ((decide (v2261 < 0))) then (
                      some (.v (.tuple #[.agg #[.int .i64 v2274, .int .u64 v2275], .int .i64 ((IntKind.wrap .i64 (0 - v2276))), .bool true])))
                    else (
                      some (.v (.tuple #[.agg #[.int .i64 v2274, .int .u64 v2275], .int .i64 v2276, .bool true]))))
                  else (
                    none))
                else (
                  let v2279 : Int := (IntKind.wrap .i64 v2259)
                  bif ((decide (v2261 < 0))) then (
                    some (.v (.tuple #[.agg #[.int .i64 v2269, .int .u64 v2270], .int .i64 ((IntKind.wrap .i64 (0 - v2279))), .bool true])))
                  else (
                    some (.v (.tuple #[.agg #[.int .i64 v2269, .int .u64 v2270], .int .i64 v2279, .bool true])))))
              else (
                none)) F a0 a1 a2 0 false v2173 ((o_ref01_Digits_1 F v2175 v2176)) 0 127 a0 a1 0 0 v2175 v2176 ((o_ref01_Digits_0 F v2175 v2176)) ((List.replicate 128 [.v (.int .i64 0)]).flatten))
          else (
            none)))
      else (
        none))
    else (
      bif ((decide (a2 < 0))) then (
        bif (ok_ref01_Digits F a0 a1) then (
          L_ref01_Div_0 F (fun (v2290 : Int) (v2291 : Int) (v2292 : Int) (v2293 : Int) (v2294 : Bool) (v2295 : Int) (v2296 : Nat) (v2297 : Int) (v2298 : Int) (v2299 : Int) (v2300 : Int) (v2301 : Int) (v2302 : Int) (v2303 : Int) (v2304 : Int) (v2305 : List VV) (v2306 : List VV) =>
            bif (ok_ref01_Number F v2306 128) then (
              let v2307 : Int := (o_ref01_Number_0 F v2306 128)
              let v2308 : Int := (o_ref01_Number_1 F v2306 128)
              bif ((!(((decide (v2299 < 0))) == ((decide (v2292 < 0)))))) then (
                bif (ok_ref01_Neg F v2307 v2308) then (
                  let v2312 : Int := (o_ref01_Neg_0 F v2307 v2308)
                  let v2313 : Int := (o_ref01_Neg_1 F v2307 v2308)
                  let v2314 : Int := (IntKind.wrap .i64 v2297)
                  bif ((decide (v2299 < 0))) then (
                    some (.v (.tuple #[.agg #[.int .i64 v2312, .int .u64 v2313], .int .i64 ((IntKind.wrap .i64 (0 - v2314))), .bool true])))
                  else (
                    some (.v (.tuple #[.agg #[.int .i64 v2312, .int .u64 v2313], .int .i64 v2314, .bool true]))))
                else (
                  none))
              else (
                let v2317 : Int := (IntKind.wrap .i64 v2297)
                bif ((decide (v2299 < 0))) then (
                  some (.v (.tuple #[.agg #[.int .i64 v2307, .int .u64 v2308], .int .i64 ((IntKind.wrap .i64 (0 - v2317))), .bool true])))
                else (
                  some (.v (.tuple #[.agg #[.int .i64 v2307, .int .u64 v2308], .int .i64 v2317, .bool true])))))
            else (
              none)) F a0 a1 a2 0 false ((IntKind.wrap .u64 (((IntKind.wrap .u64 ((IntKind.wrap .i64 (0 - ((IntKind.wrap .i64 (a2 + 1)))))))) + 1))) ((o_ref01_Digits_1 F a0 a1)) 0 127 a0 a1 0 0 a0 a1 ((o_ref01_Digits_0 F a0 a1)) ((List.replicate 128 [.v (.int .i64 0)]).flatten))
        else (
          none))
      else (
        bif (ok_ref01_Digits F a0 a1) then (
          L_ref01_Div_0 F (fun (v2323 : Int) (v2324 : Int) (v2325 : Int) (v2326 : Int) (v2327 : Bool) (v2328 : Int) (v2329 : Nat) (v2330 : Int) (v2331 : Int) (v2332 : Int) (v2333 : Int) (v2334 : Int) (v2335 : Int) (v2336 : Int) (v2337 : Int) (v2338 : List VV) (v2339 : List VV) =>
            bif (ok_ref01_Number F v2339 128) then (
              let v2340 : Int := (o_ref01_Number_0 F v2339 128)
              let v2341 : Int := (o_ref01_Number_1 F v2339 128)
              bif ((!(((decide (v2332 < 0))) == ((decide (v2325 < 0)))))) then (
                bif (ok_ref01_Neg F v2340 v2341) then (
                  let v2345 : Int := (o_ref01_Neg_0 F v2340 v2341)
                  let v2346 : Int := (o_ref01_Neg_1 F v2340 v2341)
                  let v2347 : Int := (IntKind.wrap .i64 v2330)
                  bif ((decide (v2332 < 0))) then (
                    some (.v (.tuple #[.agg #[.int .i64 v2345, .int .u64 v2346], .int .i64 ((IntKind.wrap .i64 (0 - v2347))), .bool true])))
                  else (
                    some (.v (.tuple #[.agg #[.int .i64 v2345, .int .u64 v2346], .int .i64 v2347, .bool true]))))
                else (
                  none))
              else (
                let v2350 : Int := (IntKind.wrap .i64 v2330)
                bif ((decide (v2332 < 0))) then (
                  some (.v (.tuple #[.agg #[.int .i64 v2340, .int .u64 v2341], .int .i64 ((IntKind.wrap .i64 (0 - v2350))), .bool true])))
                else (
                  some (.v (.tuple #[.agg #[.int .i64 v2340, .int .u64 v2341], .int .i64 v2350, .bool true])))))
            else (
              none)) F a0 a1 a2 0 false v2173 ((o_ref01_Digits_1 F a0 a1)) 0 127 a0 a1 0 0 a0 a1 ((o_ref01_Digits_0 F a0 a1)) ((List.replicate 128 [.v (.int .i64 0)]).flatten))
        else (
          none)))) : R) := by
    intros
    kernel_rfl
  exact (h ok_ref01_Neg o_ref01_Neg_0 o_ref01_Neg_1 ok_ref01_Digits o_ref01_Digits_0 o_ref01_Digits_1 ok_ref01_Number o_ref01_Number_0 o_ref01_Number_1 L_ref01_Div_0).trans (by kernel_rfl)
def ok_ref01_Div (F : Nat) (a0 : Int) (a1 : Int) (a2 : Int) : Bool := okT to_ref01_Div (f_ref01_Div F a0 a1 a2)
def o_ref01_Div_0 (F : Nat) (a0 : Int) (a1 : Int) (a2 : Int) : Int := atI (nth (outT to_ref01_Div (f_ref01_Div F a0 a1 a2)) 0)
def o_ref01_Div_1 (F : Nat) (a0 : Int) (a1 : Int) (a2 : Int) : Int := atI (nth (outT to_ref01_Div (f_ref01_Div F a0 a1 a2)) 1)
def o_ref01_Div_2 (F : Nat) (a0 : Int) (a1 : Int) (a2 : Int) : Int := atI (nth (outT to_ref01_Div (f_ref01_Div F a0 a1 a2)) 2)
def o_ref01_Div_3 (F : Nat) (a0 : Int) (a1 : Int) (a2 : Int) : Bool := atB (nth (outT to_ref01_Div (f_ref01_Div F a0 a1 a2)) 3)
theorem k_ref01_Div (F : Nat) (a0 : Int) (a1 : Int) (a2 : Int) {z0 : Int} {z1 : Int} {z2 : Int} {z3 : Bool} (h : f_ref01_Div F a0 a1 a2 = some (.v (.tuple #[.agg #[.int .i64 z0, .int .u64 z1], .int .i64 z2, .bool z3]))) : ok_ref01_Div F a0 a1 a2 = true ∧ o_ref01_Div_0 F a0 a1 a2 = z0 ∧ o_ref01_Div_1 F a0 a1 a2 = z1 ∧ o_ref01_Div_2 F a0 a1 a2 = z2 ∧ o_ref01_Div_3 F a0 a1 a2 = z3 := by
  refine ⟨?_, ?_, ?_, ?_, ?_⟩
  · unfold ok_ref01_Div; rw [h]; kernel_rfl
  · unfold o_ref01_Div_0; rw [h]; kernel_rfl
  · unfold o_ref01_Div_1; rw [h]; kernel_rfl
  · unfold o_ref01_Div_2; rw [h]; kernel_rfl
  · unfold o_ref01_Div_3; rw [h]; kernel_rfl
def s_ref01_Div (F : Nat) : List VV → Option (Bool × VV) := spec ti_ref01_Div to_ref01_Div (fun q => (ok_ref01_Div F (atI (nth q 0)) (atI (nth q 1)) (atI (nth q 2)))) (fun q => [.i (o_ref01_Div_0 F (atI (nth q 0)) (atI (nth q 1)) (atI (nth q 2))), .i (o_ref01_Div_1 F (atI (nth q 0)) (atI (nth q 1)) (atI (nth q 2))), .i (o_ref01_Div_2 F (atI (nth q 0)) (atI (nth q 1)) (atI (nth q 2))), .b (o_ref01_Div_3 F (atI (nth q 0)) (atI (nth q 1)) (atI (nth q 2)))])
theorem hS_ref01_Div (F : Nat) : ∀ f, Good PP f (unS (S_ref01_Div F f)) := words_good fun p hp => by
  simp only [List.mem_cons, List.not_mem_nil, or_false] at hp
  rcases hp with rfl | rfl | rfl
  · exact g_ref01_Neg F
  · exact g_ref01_Digits F
  · exact g_ref01_Number F
theorem hl_ref01_Div (F : Nat) : ∀ p ∈ loopsIn PP 121, LoopOK PP (S_ref01_Div F) c_ref01_Div F (I_ref01_Div F) (J_ref01_Div F) p :=
  loops_of [(0, loopAt PP 121 0)] (by kernel_rfl) (all_cons
    (loop_ok (W_ref01_Div F) rfl (tab_cons (fun _ k q => Le.ofEq ((lL_ref01_Div_0 F k F (atI (nth q 0)) (atI (nth q 1)) (atI (nth q 2)) (atI (nth q 3)) (atB (nth q 4)) (atI (nth q 5)) (atN (nth q 6)) (atI (nth q 7)) (atI (nth q 8)) (atI (nth q 9)) (atI (nth q 10)) (atI (nth q 11)) (atI (nth q 12)) (atI (nth q 13)) (atI (nth q 14)) (atC (nth q 15)) (atC (nth q 16))).symm.trans (congrArg (iterC (codeL PP (S_ref01_Div F) c_ref01_Div (I_ref01_Div F) (J_ref01_Div F) (loopAt PP 121 0) 0) (headOf c_ref01_Div 0) k F) (show fS T_ref01_Div_0 [.i (atI (nth q 0)), .i (atI (nth q 1)), .i (atI (nth q 2)), .i (atI (nth q 3)), .b (atB (nth q 4)), .i (atI (nth q 5)), .n (atN (nth q 6)), .i (atI (nth q 7)), .i (atI (nth q 8)), .i (atI (nth q 9)), .i (atI (nth q 10)), .i (atI (nth q 11)), .i (atI (nth q 12)), .i (atI (nth q 13)), .i (atI (nth q 14)), .c (atC (nth q 15)), .c (atC (nth q 16))] = fS T_ref01_Div_0 q by kernel_rfl)))) tab_nil)) all_nil)
theorem hj_ref01_Div (F : Nat) : ∀ p ∈ joinsIn PP c_ref01_Div 121, JoinOK PP (S_ref01_Div F) c_ref01_Div (I_ref01_Div F) (J_ref01_Div F) p :=
  joins_of [] (by kernel_rfl) all_nil
theorem g_ref01_Div (F : Nat) : Good PP 121 (unS (s_ref01_Div F)) :=
  fun_spec (hS_ref01_Div F) (by kernel_rfl) (by kernel_rfl) (C := c_ref01_Div) (F := fun q => (f_ref01_Div F (atI (nth q 0)) (atI (nth q 1)) (atI (nth q 2)))) (fun _ => F) (fun _ => I_ref01_Div F) (fun _ => J_ref01_Div F) (fun _ => hl_ref01_Div F) (fun _ => hj_ref01_Div F)
    (fun q => (congrArg (funL PP (S_ref01_Div F) c_ref01_Div (I_ref01_Div F) (J_ref01_Div F) 121) (show (fTs ti_ref01_Div q).1 = (fTs ti_ref01_Div [.i (atI (nth q 0)), .i (atI (nth q 1)), .i (atI (nth q 2))]).1 by kernel_rfl)).trans (e_ref01_Div F (atI (nth q 0)) (atI (nth q 1)) (atI (nth q 2))))
    (fun _ h => (okT_fill h).trans (congrArg some (by kernel_rfl)))

end Go.Xv
set_option linter.unusedVariables false
namespace Go.Xv
/- 118 _wide_Div -/
def c_wide_Div : Cfg := ⟨[0, 1, 2, 4, 5, 6, 7, 8, 9, 10, 12, 17, 32, 39], [], [23], []⟩
def ti_wide_Div : List TV := [.v (.agg [.int .i64, .int .u64]), .v (.int .i64)]
def to_wide_Div : TV := .v (.tup [.agg [.int .i64, .int .u64], .int .i64, .bool])
def S_wide_Div (F : Nat) : FuncId → List VV → Option (Bool × VV) := words [(98, s_wide_Neg F), (131, s_wide_bare F), (133, s_wide_divide F)]
def W_wide_Div (F : Nat) : List LW := []
def I_wide_Div (F : Nat) : Nat → VS → (Exit → VS → R) → R := tabI c_wide_Div (W_wide_Div F)
def WJ_wide_Div (F : Nat) : List LJ := []
def J_wide_Div (F : Nat) : Nat → Nat → VS → (Exit → VS → R) → R := tabJ (WJ_wide_Div F)
def f_wide_Div (F : Nat) (a0 : Int) (a1 : Int) (a2 : Int) : R :=
  bif ((a2 == 0)) then (
    some (.v (.tuple #[.agg #[.int .i64 0, .int .u64 0], .int .i64 0, .bool false])))
  else (
    bif ((decide (a0 < 0))) then (
      bif (ok_wide_Neg F a0 a1) then (
        let v2051 : Int := (o_wide_Neg_0 F a0 a1)
        let v2052 : Int := (o_wide_Neg_1 F a0 a1)
        bif (ok_wide_bare F a2) then (
          let v2053 : Int := (o_wide_bare_0 F a2)
          bif (ok_wide_divide F v2051 v2052 v2053) then (
            let v2091 : Int := (o_wide_divide_0 F v2051 v2052 v2053)
            let v2092 : Int := (o_wide_divide_1 F v2051 v2052 v2053)
            let v2093 : Int := (o_wide_divide_2 F v2051 v2052 v2053)
            bif ((!(((decide (a0 < 0))) == ((decide (a2 < 0)))))) then (
              bif (ok_wide_Neg F v2091 v2092) then (
                let v2097 : Int := (o_wide_Neg_0 F v2091 v2092)
                let v2098 : Int := (o_wide_Neg_1 F v2091 v2092)
                let v2099 : Int := (IntKind.wrap .i64 v2093)
                bif ((decide (a0 < 0))) then (
                  some (.v (.tuple #[.agg #[.int .i64 v2097, .int .u64 v2098], .int .i64 ((IntKind.wrap .i64 (0 - v2099))), .bool true])))
                else (
                  some (.v (.tuple #[.agg #[.int .i64 v2097, .int .u64 v2098], .int .i64 v2099, .bool true]))))
              else (
                none))
            else (
              let v2102 : Int := (IntKind.wrap .i64 v2093)
              bif ((decide (a0 < 0))) then (
                some (.v (.tuple #[.agg #[.int .i64 v2091, .int .u64 v2092], .int .i64 ((IntKind.wrap .i64 (0 - v2102))), .bool true])))
              else (
                some (.v (.tuple #[.agg #[.int .i64 v2091, .int .u64 v2092], .int .i64 v2102, .bool true])))))
          else (
            none))
        else (
          none))
      else (
        none))
    else (
      bif (ok_wide_bare F a2) then (
        let v2105 : Int := (o_wide_bare_0 F a2)
        bif (ok_wide_divide F a0 a1 v2105) then (
          let v2106 : Int := (o_wide_divide_0 F a0 a1 v2105)
          let v2107 : Int := (o_wide_divide_1 F a0 a1 v2105)
          let v2108 : Int := (o_wide_divide_2 F a0 a1 v2105)
          bif ((!(((decide (a0 < 0))) == ((decide (a2 < 0)))))) then (
            bif (ok_wide_Neg F v2106 v2107) then (
              let v2112 : Int := (o_wide_Neg_0 F v2106 v2107)
              let v2113 : Int := (o_wide_Neg_1 F v2106 v2107)
              let v2114 : Int := (IntKind.wrap .i64 v2108)
              bif ((decide (a0 < 0))) then (
                some (.v (.tuple #[.agg #[.int .i64 v2112, .int .u64 v2113], .int .i64 ((IntKind.wrap .i64 (0 - v2114))), .bool true])))
              else (
                some (.v (.tuple #[.agg #[.int .i64 v2112, .int .u64 v2113], .int .i64 v2114, .bool true]))))
            else (
              none))
          else (
            let v2117 : Int := (IntKind.wrap .i64 v2108)
            bif ((decide (a0 < 0))) then (
              some (.v (.tuple #[.agg #[.int .i64 v2106, .int .u64 v2107], .int .i64 ((IntKind.wrap .i64 (0 - v2117))), .bool true])))
            else (
              some (.v (.tuple #[.agg #[.int .i64 v2106, .int .u64 v2107], .int .i64 v2117, .bool true])))))
        else (
          none))
      else (
        none)))
theorem e_wide_Div (F : Nat) (a0 : Int) (a1 : Int) (a2 : Int) : funL PP (S_wide_Div F) c_wide_Div (I_wide_Div F) (J_wide_Div F) 118 (fTs ti_wide_Div [.i a0, .i a1, .i a2]).1 = f_wide_Div F a0 a1 a2 := by
  have h : ∀ (ok_wide_Neg : Nat → Int → Int → Bool) (o_wide_Neg_0 : Nat → Int → Int → Int) (o_wide_Neg_1 : Nat → Int → Int → Int) (ok_wide_bare : Nat → Int → Bool) (o_wide_bare_0 : Nat → Int → Int) (ok_wide_divide : Nat → Int → Int → Int → Bool) (o_wide_divide_0 : Nat → Int → Int → Int → Int) (o_wide_divide_1 : Nat → Int → Int → Int → Int) (o_wide_divide_2 : Nat → Int → Int → Int → Int), funL PP (words [(98, spec ti_wide_Neg to_wide_Neg (fun q => (ok_wide_Neg F (atI (nth q 0)) (atI (nth q 1)))) (fun q => [.i (o_wide_Neg_0 F (atI (nth q 0)) (atI (nth q 1))), .i (o_wide_Neg_1 F (atI (nth q 0)) (atI (nth q 1)))])), (131, spec ti_wide_bare to_wide_bare (fun q => (ok_wide_bare F (atI (nth q 0)))) (fun q => [.i (o_wide_bare_0 F (atI (nth q 0)))])), (133, spec ti_wide_divide to_wide_divide (fun q => (ok_wide_divide F (atI (nth q 0)) (atI (nth q 1)) (atI (nth q 2)))) (fun q => [.i (o_wide_divide_0 F (atI (nth q 0)) (atI (nth q 1)) (atI (nth q 2))), .i (o_wide_divide_1 F (atI (nth q 0)) (atI (nth q 1)) (atI (nth q 2))), .i (o_wide_divide_2 F (atI (nth q 0)) (atI (nth q 1)) (atI (nth q 2)))]))]) c_wide_Div (tabI c_wide_Div []) (tabJ []) 118 (fTs ti_wide_Div [.i a0, .i a1, .i a2]).1 = (
  bif ((a2 == 0)) then (
    some (.v (.tuple #[.agg #[.int .i64 0, .int .u64 0], .int .i64 0, .bool false])))
  else (
    bif ((decide (a0 < 0))) then (
      bif (ok_wide_Neg F a0 a1) then (
        let v2051 : Int := (o_wide_Neg_0 F a0 a1)
        let v2052 : Int := (o_wide_Neg_1 F a0 a1)
        bif (ok_wide_bare F a2) then (
          let v2053 : Int := (o_wide_bare_0 F a2)
          bif (ok_wide_divide F v2051 v2052 v2053) then (
            let v2091 : Int := (o_wide_divide_0 F v2051 v2052 v2053)
            let v2092 : Int := (o_wide_divide_1 F v2051 v2052 v2053)
            let v2093 : Int := (o_wide_divide_2 F v2051 v2052 v2053)
            bif ((!(((decide (a0 < 0))) == ((decide (a2 < 0)))))) then (
              bif (ok_wide_Neg F v2091 v2092) then (
                let v2097 : Int := (o_wide_Neg_0 F v2091 v2092)
                let v2098 : Int := (o_wide_Neg_1 F v2091 v2092)
                let v2099 : Int := (IntKind.wrap .i64 v2093)
                bif ((decide (a0 < 0))) then (
                  some (.v (.tuple #[.agg #[.int .i64 v2097, .int .u64 v2098], .int .i64 ((IntKind.wrap .i64 (0 - v2099))), .bool true])))
                else (
                  some (.v (.tuple #[.agg #[.int .i64 v2097, .int .u64 v2098], .int .i64 v2099, .bool true]))))
              else (
                none))
            else (
              let v2102 : Int := (IntKind.wrap .i64 v2093)
              bif ((decide (a0 < 0))) then (
                some (.v (.tuple #[.agg #[.int .i64 v2091, .int .u64 v2092], .int .i64 ((IntKind.wrap .i64 (0 - v2102))), .bool true])))
              else (
                some (.v (.tuple #[.agg #[.int .i64 v2091, .int .u64 v2092], .int .i64 v2102, .bool true])))))
          else (
            none))
        else (
          none))
      else (
        none))
    else (
      bif (ok_wide_bare F a2) then (
        let v2105 : Int := (o_wide_bare_0 F a2)
        bif (ok_wide_divide F a0 a1 v2105) then (
          let v2106 : Int := (o_wide_divide_0 F a0 a1 v2105)
          let v2107 : Int := (o_wide_divide_1 F a0 a1 v2105)
          let v2108 : Int := (o_wide_divide_2 F a0 a1 v2105)
          bif ((!(((decide (a0 < 0))) == ((decide (a2 < 0)))))) then (
            bif (ok_wide_Neg F v2106 v2107) then (
              let v2112 : Int := (o_wide_Neg_0 F v2106 v2107)
              let v2113 : Int := (o_wide_Neg_1 F v2106 v2107)
              let v2114 : Int := (IntKind.wrap .i64 v2108)
              bif ((decide (a0 < 0))) then (
                some (.v (.tuple #[.agg #[.int .i64 v2112, .int .u64 v2113], .int .i64 ((IntKind.wrap .i64 (0 - v2114))), .bool true])))
              else (
                some (.v (.tuple #[.agg #[.int .i64 v2112, .int .u64 v2113], .int .i64 v2114, .bool true]))))
            else (
              none))
          else (
            let v2117 : Int := (IntKind.wrap .i64 v2108)
            bif ((decide (a0 < 0))) then (
              some (.v (.tuple #[.agg #[.int .i64 v2106, .int .u64 v2107], .int .i64 ((IntKind.wrap .i64 (0 - v2117))), .bool true])))
            else (
              some (.v (.tuple #[.agg #[.int .i64 v2106, .int .u64 v2107], .int .i64 v2117, .bool true])))))
        else (
          none))
      else (
        none))) : R) := by
    intros
    kernel_rfl
  exact (h ok_wide_Neg o_wide_Neg_0 o_wide_Neg_1 ok_wide_bare o_wide_bare_0 ok_wide_divide o_wide_divide_0 o_wide_divide_1 o_wide_divide_2).trans (by kernel_rfl)
def ok_wide_Div (F : Nat) (a0 : Int) (a1 : Int) (a2 : Int) : Bool := okT to_wide_Div (f_wide_Div F a0 a1 a2)
def o_wide_Div_0 (F : Nat) (a0 : Int) (a1 : Int) (a2 : Int) : Int := atI (nth (outT to_wide_Div (f_wide_Div F a0 a1 a2)) 0)
def o_wide_Div_1 (F : Nat) (a0 : Int) (a1 : Int) (a2 : Int) : Int := atI (nth (outT to_wide_Div (f_wide_Div F a0 a1 a2)) 1)
def o_wide_Div_2 (F : Nat) (a0 : Int) (a1 : Int) (a2 : Int) : Int := atI (nth (outT to_wide_Div (f_wide_Div F a0 a1 a2)) 2)
def o_wide_Div_3 (F : Nat) (a0 : Int) (a1 : Int) (a2 : Int) : Bool := atB (nth (outT to_wide_Div (f_wide_Div F a0 a1 a2)) 3)
theorem k_wide_Div (F : Nat) (a0 : Int) (a1 : Int) (a2 : Int) {z0 : Int} {z1 : Int} {z2 : Int} {z3 : Bool} (h : f_wide_Div F a0 a1 a2 = some (.v (.tuple #[.agg #[.int .i64 z0, .int .u64 z1], .int .i64 z2, .bool z3]))) : ok_wide_Div F a0 a1 a2 = true ∧ o_wide_Div_0 F a0 a1 a2 = z0 ∧ o_wide_Div_1 F a0 a1 a2 = z1 ∧ o_wide_Div_2 F a0 a1 a2 = z2 ∧ o_wide_Div_3 F a0 a1 a2 = z3 := by
  refine ⟨?_, ?_, ?_, ?_, ?_⟩
  · unfold ok_wide_Div; rw [h]; kernel_rfl
  · unfold o_wide_Div_0; rw [h]; kernel_rfl
  · unfold o_wide_Div_1; rw [h]; kernel_rfl
  · unfold o_wide_Div_2; rw [h]; kernel_rfl
  · unfold o_wide_Div_3; rw [h]; kernel_rfl
def s_wide_Div (F : Nat) : List VV → Option (Bool × VV) := spec ti_wide_Div to_wide_Div (fun q => (ok_wide_Div F (atI (nth q 0)) (atI (nth q 1)) (atI (nth q 2)))) (fun q => [.i (o_wide_Div_0 F (atI (nth q 0)) (atI (nth q 1)) (atI (nth q 2))), .i (o_wide_Div_1 F (atI (nth q 0)) (atI (nth q 1)) (atI (nth q 2))), .i (o_wide_Div_2 F (atI (nth q 0)) (atI (nth q 1)) (atI (nth q 2))), .b (o_wide_Div_3 F (atI (nth q 0)) (atI (nth q 1)) (atI (nth q 2)))])
theorem hS_wide_Div (F : Nat) : ∀ f, Good PP f (unS (S_wide_Div F f)) := words_good fun p hp => by
  simp only [List.mem_cons, List.not_mem_nil, or_false] at hp
  rcases hp with rfl | rfl | rfl
  · exact g_wide_Neg F
  · exact g_wide_bare F
  · exact g_wide_divide F
theorem hl_wide_Div (F : Nat) : ∀ p ∈ loopsIn PP 118, LoopOK PP (S_wide_Div F) c_wide_Div F (I_wide_Div F) (J_wide_Div F) p :=
  loops_of [] (by kernel_rfl) all_nil
theorem hj_wide_Div (F : Nat) : ∀ p ∈ joinsIn PP c_wide_Div 118, JoinOK PP (S_wide_Div F) c_wide_Div (I_wide_Div F) (J_wide_Div F) p :=
  joins_of [] (by kernel_rfl) all_nil
theorem g_wide_Div (F : Nat) : Good PP 118 (unS (s_wide_Div F)) :=
  fun_spec (hS_wide_Div F) (by kernel_rfl) (by kernel_rfl) (C := c_wide_Div) (F := fun q => (f_wide_Div F (atI (nth q 0)) (atI (nth q 1)) (atI (nth q 2)))) (fun _ => F) (fun _ => I_wide_Div F) (fun _ => J_wide_Div F) (fun _ => hl_wide_Div F) (fun _ => hj_wide_Div F)
    (fun q => (congrArg (funL PP (S_wide_Div F) c_wide_Div (I_wide_Div F) (J_wide_Div F) 118) (show (fTs ti_wide_Div q).1 = (fTs ti_wide_Div [.i (atI (nth q 0)), .i (atI (nth q 1)), .i (atI (nth q 2))]).1 by kernel_rfl)).trans (e_wide_Div F (atI (nth q 0)) (atI (nth q 1)) (atI (nth q 2))))
    (fun _ h => (okT_fill h).trans (congrArg some (by kernel_rfl)))

end Go.Xv
set_option linter.unusedVariables false
namespace Go.Xv
/- 92 _fix_Clamp -/
def c_fix_Clamp : Cfg := ⟨[0, 1, 2, 6, 7, 8, 11], [], [], []⟩
def ti_fix_Clamp : List TV := [.v (.int .i64), .v (.int .i64), .v (.int .i64)]
def to_fix_Clamp : TV := .v (.tup [.int .i64, .bool])
def S_fix_Clamp (F : Nat) : FuncId → List VV → Option (Bool × VV) := words []
def W_fix_Clamp (F : Nat) : List LW := []
def I_fix_Clamp (F : Nat) : Nat → VS → (Exit → VS → R) → R := tabI c_fix_Clamp (W_fix_Clamp F)
def WJ_fix_Clamp (F : Nat) : List LJ := []
def J_fix_Clamp (F : Nat) : Nat → Nat → VS → (Exit → VS → R) → R := tabJ (WJ_fix_Clamp F)
def f_fix_Clamp (F : Nat) (a0 : Int) (a1 : Int) (a2 : Int) : R :=
  bif ((decide (a2 < a1))) then (
    some (.v (.tuple #[.int .i64 a1, .bool true])))
  else (
    let v123 : Int := (if a1 > a0 then a1 else a0)
    let v124 : Int := (if a2 < v123 then a2 else v123)
    some (.v (.tuple #[.int .i64 v124, .bool ((v124 != a0))])))
theorem e_fix_Clamp (F : Nat) (a0 : Int) (a1 : Int) (a2 : Int) : funL PP (S_fix_Clamp F) c_fix_Clamp (I_fix_Clamp F) (J_fix_Clamp F) 92 (fTs ti_fix_Clamp [.i a0, .i a1, .i a2]).1 = f_fix_Clamp F a0 a1 a2 := by
  have h : ∀ (_ : Unit), funL PP (words []) c_fix_Clamp (tabI c_fix_Clamp []) (tabJ []) 92 (fTs ti_fix_Clamp [.i a0, .i a1, .i a2]).1 = (
  bif ((decide (a2 < a1))) then (
    some (.v (.tuple #[.int .i64 a1, .bool true])))
  else (
    let v123 : Int := (if a1 > a0 then a1 else a0)
    let v124 : Int := (if a2 < v123 then a2 else v123)
    some (.v (.tuple #[.int .i64 v124, .bool ((v124 != a0))]))) : R) := by
    intros
    kernel_rfl
  exact (h ()).trans (by kernel_rfl)
def ok_fix_Clamp (F : Nat) (a0 : Int) (a1 : Int) (a2 : Int) : Bool := okT to_fix_Clamp (f_fix_Clamp F a0 a1 a2)
def o_fix_Clamp_0 (F : Nat) (a0 : Int) (a1 : Int) (a2 : Int) : Int := atI (nth (outT to_fix_Clamp (f_fix_Clamp F a0 a1 a2)) 0)
def o_fix_Clamp_1 (F : Nat) (a0 : Int) (a1 : Int) (a2 : Int) : Bool := atB (nth (outT to_fix_Clamp (f_fix_Clamp F a0 a1 a2)) 1)
theorem k_fix_Clamp (F : Nat) (a0 : Int) (a1 : Int) (a2 : Int) {z0 : Int} {z1 : Bool} (h : f_fix_Clamp F a0 a1 a2 = some (.v (.tuple #[.int .i64 z0, .bool z1]))) : ok_fix_Clamp F a0 a1 a2 = true ∧ o_fix_Clamp_0 F a0 a1 a2 = z0 ∧ o_fix_Clamp_1 F a0 a1 a2 = z1 := by
  refine ⟨?_, ?_, ?_⟩
  · unfold ok_fix_Clamp; rw [h]; kernel_rfl
  · unfold o_fix_Clamp_0; rw [h]; kernel_rfl
  · unfold o_fix_Clamp_1; rw [h]; kernel_rfl
def s_fix_Clamp (F : Nat) : List VV → Option (Bool × VV) := spec ti_fix_Clamp to_fix_Clamp (fun q => (ok_fix_Clamp F (atI (nth q 0)) (atI (nth q 1)) (atI (nth q 2)))) (fun q => [.i (o_fix_Clamp_0 F (atI (nth q 0)) (atI (nth q 1)) (atI (nth q 2))), .b (o_fix_Clamp_1 F (atI (nth q 0)) (atI (nth q 1)) (atI (nth q 2)))])
theorem hS_fix_Clamp (F : Nat) : ∀ f, Good PP f (unS (S_fix_Clamp F f)) := words_good fun p hp => by
  cases hp
theorem hl_fix_Clamp (F : Nat) : ∀ p ∈ loopsIn PP 92, LoopOK PP (S_fix_Clamp F) c_fix_Clamp F (I_fix_Clamp F) (J_fix_Clamp F) p :=
  loops_of [] (by kernel_rfl) all_nil
theorem hj_fix_Clamp (F : Nat) : ∀ p ∈ joinsIn PP c_fix_Clamp 92, JoinOK PP (S_fix_Clamp F) c_fix_Clamp (I_fix_Clamp F) (J_fix_Clamp F) p :=
  joins_of [] (by kernel_rfl) all_nil
theorem g_fix_Clamp (F : Nat) : Good PP 92 (unS (s_fix_Clamp F)) :=
  fun_spec (hS_fix_Clamp F) (by kernel_rfl) (by kernel_rfl) (C := c_fix_Clamp) (F := fun q => (f_fix_Clamp F (atI (nth q 0)) (atI (nth q 1)) (atI (nth q 2)))) (fun _ => F) (fun _ => I_fix_Clamp F) (fun _ => J_fix_Clamp F) (fun _ => hl_fix_Clamp F) (fun _ => hj_fix_Clamp F)
    (fun q => (congrArg (funL PP (S_fix_Clamp F) c_fix_Clamp (I_fix_Clamp F) (J_fix_Clamp F) 92) (show (fTs ti_fix_Clamp q).1 = (fTs ti_fix_Clamp [.i (atI (nth q 0)), .i (atI (nth q 1)), .i (atI (nth q 2))]).1 by kernel_rfl)).trans (e_fix_Clamp F (atI (nth q 0)) (atI (nth q 1)) (atI (nth q 2))))
    (fun _ h => (okT_fill h).trans (congrArg some (by kernel_rfl)))

end Go.Xv
set_option linter.unusedVariables false
namespace Go.Xv
/- 120 _fix_clip -/
def c_fix_clip : Cfg := ⟨[0, 1, 2, 3, 4, 5], [], [], []⟩
def ti_fix_clip : List TV := [.v (.agg [.int .i64, .int .u64])]
def to_fix_clip : TV := .v (.tup [.int .i64, .bool])
def S_fix_clip (F : Nat) : FuncId → List VV → Option (Bool × VV) := words [(117, s_wide_Clip F)]
def W_fix_clip (F : Nat) : List LW := []
def I_fix_clip (F : Nat) : Nat → VS → (Exit → VS → R) → R := tabI c_fix_clip (W_fix_clip F)
def WJ_fix_clip (F : Nat) : List LJ := []
def J_fix_clip (F : Nat) : Nat → Nat → VS → (Exit → VS → R) → R := tabJ (WJ_fix_clip F)
def f_fix_clip (F : Nat) (a0 : Int) (a1 : Int) : R :=
  bif (ok_wide_Clip F a0 a1) then (
    some (.v (.tuple #[.int .i64 ((o_wide_Clip_0 F a0 a1)), .bool ((o_wide_Clip_1 F a0 a1))])))
  else (
    none)
theorem e_fix_clip (F : Nat) (a0 : Int) (a1 : Int) : funL PP (S_fix_clip F) c_fix_clip (I_fix_clip F) (J_fix_clip F) 120 (fTs ti_fix_clip [.i a0, .i a1]).1 = f_fix_clip F a0 a1 := by
  have h : ∀ (ok_wide_Clip : Nat → Int → Int → Bool) (o_wide_Clip_0 : Nat → Int → Int → Int) (o_wide_Clip_1 : Nat → Int → Int → Bool), funL PP (words [(117, spec ti_wide_Clip to_wide_Clip (fun q => (ok_wide_Clip F (atI (nth q 0)) (atI (nth q 1)))) (fun q => [.i (o_wide_Clip_0 F (atI (nth q 0)) (atI (nth q 1))), .b (o_wide_Clip_1 F (atI (nth q 0)) (atI (nth q 1)))]))]) c_fix_clip (tabI c_fix_clip []) (tabJ []) 120 (fTs ti_fix_clip [.i a0, .i a1]).1 = (
  bif (ok_wide_Clip F a0 a1) then (
    some (.v (.tuple #[.int .i64 ((o_wide_Clip_0 F a0 a1)), .bool ((o_wide_Clip_1 F a0 a1))])))
  else (
    none) : R) := by
    intros
    kernel_rfl
  exact (h ok_wide_Clip o_wide_Clip_0 o_wide_Clip_1).trans (by kernel_rfl)
def ok_fix_clip (F : Nat) (a0 : Int) (a1 : Int) : Bool := okT to_fix_clip (f_fix_clip F a0 a1)
def o_fix_clip_0 (F : Nat) (a0 : Int) (a1 : Int) : Int := atI (nth (outT to_fix_clip (f_fix_clip F a0 a1)) 0)
def o_fix_clip_1 (F : Nat) (a0 : Int) (a1 : Int) : Bool := atB (nth (outT to_fix_clip (f_fix_clip F a0 a1)) 1)
theorem k_fix_clip (F : Nat) (a0 : Int) (a1 : Int) {z0 : Int} {z1 : Bool} (h : f_fix_clip F a0 a1 = some (.v (.tuple #[.int .i64 z0, .bool z1]))) : ok_fix_clip F a0 a1 = true ∧ o_fix_clip_0 F a0 a1 = z0 ∧ o_fix_clip_1 F a0 a1 = z1 := by
  refine ⟨?_, ?_, ?_⟩
  · unfold ok_fix_clip; rw [h]; kernel_rfl
  · unfold o_fix_clip_0; rw [h]; kernel_rfl
  · unfold o_fix_clip_1; rw [h]; kernel_rfl
def s_fix_clip (F : Nat) : List VV → Option (Bool × VV) := spec ti_fix_clip to_fix_clip (fun q => (ok_fix_clip F (atI (nth q 0)) (atI (nth q 1)))) (fun q => [.i (o_fix_clip_0 F (atI (nth q 0)) (atI (nth q 1))), .b (o_fix_clip_1 F (atI (nth q 0)) (atI (nth q 1)))])
theorem hS_fix_clip (F : Nat) : ∀ f, Good PP f (unS (S_fix_clip F f)) := words_good fun p hp => by
  simp only [List.mem_cons, List.not_mem_nil, or_false] at hp
  rcases hp with rfl
  · exact g_wide_Clip F
theorem hl_fix_clip (F : Nat) : ∀ p ∈ loopsIn PP 120, LoopOK PP (S_fix_clip F) c_fix_clip F (I_fix_clip F) (J_fix_clip F) p :=
  loops_of [] (by kernel_rfl) all_nil
theorem hj_fix_clip (F : Nat) : ∀ p ∈ joinsIn PP c_fix_clip 120, JoinOK PP (S_fix_clip F) c_fix_clip (I_fix_clip F) (J_fix_clip F) p :=
  joins_of [] (by kernel_rfl) all_nil
theorem g_fix_clip (F : Nat) : Good PP 120 (unS (s_fix_clip F)) :=
  fun_spec (hS_fix_clip F) (by kernel_rfl) (by kernel_rfl) (C := c_fix_clip) (F := fun q => (f_fix_clip F (atI (nth q 0)) (atI (nth q 1)))) (fun _ => F) (fun _ => I_fix_clip F) (fun _ => J_fix_clip F) (fun _ => hl_fix_clip F) (fun _ => hj_fix_clip F)
    (fun q => (congrArg (funL PP (S_fix_clip F) c_fix_clip (I_fix_clip F) (J_fix_clip F) 120) (show (fTs ti_fix_clip q).1 = (fTs ti_fix_clip [.i (atI (nth q 0)), .i (atI (nth q 1))]).1 by kernel_rfl)).trans (e_fix_clip F (atI (nth q 0)) (atI (nth q 1))))
    (fun _ h => (okT_fill h).trans (congrArg some (by kernel_rfl)))

end Go.Xv
set_option linter.unusedVariables false
namespace Go.Xv
/- 119 _fix_of -/
def c_fix_of : Cfg := ⟨[0, 2], [], [], []⟩
def ti_fix_of : List TV := [.v (.int .i64)]
def to_fix_of : TV := .v (.agg [.int .i64, .int .u64])
def S_fix_of (F : Nat) : FuncId → List VV → Option (Bool × VV) := words [(132, s_wide_Of F)]
def W_fix_of (F : Nat) : List LW := []
def I_fix_of (F : Nat) : Nat → VS → (Exit → VS → R) → R := tabI c_fix_of (W_fix_of F)
def WJ_fix_of (F : Nat) : List LJ := []
def J_fix_of (F : Nat) : Nat → Nat → VS → (Exit → VS → R) → R := tabJ (WJ_fix_of F)
def f_fix_of (F : Nat) (a0 : Int) : R :=
  bif (ok_wide_Of F a0) then (
    some (.v (.agg #[.int .i64 ((o_wide_Of_0 F a0)), .int .u64 ((o_wide_Of_1 F a0))])))
  else (
    none)
theorem e_fix_of (F : Nat) (a0 : Int) : funL PP (S_fix_of F) c_fix_of (I_fix_of F) (J_fix_of F) 119 (fTs ti_fix_of [.i a0]).1 = f_fix_of F a0 := by
  have h : ∀ (ok_wide_Of : Nat → Int → Bool) (o_wide_Of_0 : Nat → Int → Int) (o_wide_Of_1 : Nat → Int → Int), funL PP (words [(132, spec ti_wide_Of to_wide_Of (fun q => (ok_wide_Of F (atI (nth q 0)))) (fun q => [.i (o_wide_Of_0 F (atI (nth q 0))), .i (o_wide_Of_1 F (atI (nth q 0)))]))]) c_fix_of (tabI c_fix_of []) (tabJ []) 119 (fTs ti_fix_of [.i a0]).1 = (
  bif (ok_wide_Of F a0) then (
    some (.v (.agg #[.int .i64 ((o_wide_Of_0 F a0)), .int .u64 ((o_wide_Of_1 F a0))])))
  else (
    none) : R) := by
    intros
    kernel_rfl
  exact (h ok_wide_Of o_wide_Of_0 o_wide_Of_1).trans (by kernel_rfl)
def ok_fix_of (F : Nat) (a0 : Int) : Bool := okT to_fix_of (f_fix_of F a0)
def o_fix_of_0 (F : Nat) (a0 : Int) : Int := atI (nth (outT to_fix_of (f_fix_of F a0)) 0)
def o_fix_of_1 (F : Nat) (a0 : Int) : Int := atI (nth (outT to_fix_of (f_fix_of F a0)) 1)
theorem k_fix_of (F : Nat) (a0 : Int) {z0 : Int} {z1 : Int} (h : f_fix_of F a0 = some (.v (.agg #[.int .i64 z0, .int .u64 z1]))) : ok_fix_of F a0 = true ∧ o_fix_of_0 F a0 = z0 ∧ o_fix_of_1 F a0 = z1 := by
  refine ⟨?_, ?_, ?_⟩
  · unfold ok_fix_of; rw [h]; kernel_rfl
  · unfold o_fix_of_0; rw [h]; kernel_rfl
  · unfold o_fix_of_1; rw [h]; kernel_rfl
def s_fix_of (F : Nat) : List VV → Option (Bool × VV) := spec ti_fix_of to_fix_of (fun q => (ok_fix_of F (atI (nth q 0)))) (fun q => [.i (o_fix_of_0 F (atI (nth q 0))), .i (o_fix_of_1 F (atI (nth q 0)))])
theorem hS_fix_of (F : Nat) : ∀ f, Good PP f (unS (S_fix_of F f)) := words_good fun p hp => by
  simp only [List.mem_cons, List.not_mem_nil, or_false] at hp
  rcases hp with rfl
  · exact g_wide_Of F
theorem hl_fix_of (F : Nat) : ∀ p ∈ loopsIn PP 119, LoopOK PP (S_fix_of F) c_fix_of F (I_fix_of F) (J_fix_of F) p :=
  loops_of [] (by kernel_rfl) all_nil
theorem hj_fix_of (F : Nat) : ∀ p ∈ joinsIn PP c_fix_of 119, JoinOK PP (S_fix_of F) c_fix_of (I_fix_of F) (J_fix_of F) p :=
  joins_of [] (by kernel_rfl) all_nil
theorem g_fix_of (F : Nat) : Good PP 119 (unS (s_fix_of F)) :=
  fun_spec (hS_fix_of F) (by kernel_rfl) (by kernel_rfl) (C := c_fix_of) (F := fun q => (f_fix_of F (atI (nth q 0)))) (fun _ => F) (fun _ => I_fix_of F) (fun _ => J_fix_of F) (fun _ => hl_fix_of F) (fun _ => hj_fix_of F)
    (fun q => (congrArg (funL PP (S_fix_of F) c_fix_of (I_fix_of F) (J_fix_of F) 119) (show (fTs ti_fix_of q).1 = (fTs ti_fix_of [.i (atI (nth q 0))]).1 by kernel_rfl)).trans (e_fix_of F (atI (nth q 0))))
    (fun _ h => (okT_fill h).trans (congrArg some (by kernel_rfl)))

end Go.Xv
set_option linter.unusedVariables false
namespace Go.Xv
/- 122 _ref02_clip -/
def c_ref02_clip : Cfg := ⟨[0, 1, 2, 3, 4, 5], [], [], []⟩
def ti_ref02_clip : List TV := [.v (.agg [.int .i64, .int .u64])]
def to_ref02_clip : TV := .v (.tup [.int .i64, .bool])
def S_ref02_clip (F : Nat) : FuncId → List VV → Option (Bool × VV) := words [(32, s_ref01_Clip F)]
def W_ref02_clip (F : Nat) : List LW := []
def I_ref02_clip (F : Nat) : Nat → VS → (Exit → VS → R) → R := tabI c_ref02_clip (W_ref02_clip F)
def WJ_ref02_clip (F : Nat) : List LJ := []
def J_ref02_clip (F : Nat) : Nat → Nat → VS → (Exit → VS → R) → R := tabJ (WJ_ref02_clip F)
def f_ref02_clip (F : Nat) (a0 : Int) (a1 : Int) : R :=
  bif (ok_ref01_Clip F a0 a1) then (
    some (.v (.tuple #[.int .i64 ((o_ref01_Clip_0 F a0 a1)), .bool ((o_ref01_Clip_1 F a0 a1))])))
  else (
    none)
theorem e_ref02_clip (F : Nat) (a0 : Int) (a1 : Int) : funL PP (S_ref02_clip F) c_ref02_clip (I_ref02_clip F) (J_ref02_clip F) 122 (fTs ti_ref02_clip [.i a0, .i a1]).1 = f_ref02_clip F a0 a1 := by
  have h : ∀ (ok_ref01_Clip : Nat → Int → Int → Bool) (o_ref01_Clip_0 : Nat → Int → Int → Int) (o_ref01_Clip_1 : Nat → Int → Int → Bool), funL PP (words [(32, spec ti_ref01_Clip to_ref01_Clip (fun q => (ok_ref01_Clip F (atI (nth q 0)) (atI (nth q 1)))) (fun q => [.i (o_ref01_Clip_0 F (atI (nth q 0)) (atI (nth q 1))), .b (o_ref01_Clip_1 F (atI (nth q 0)) (atI (nth q 1)))]))]) c_ref02_clip (tabI c_ref02_clip []) (tabJ []) 122 (fTs ti_ref02_clip [.i a0, .i a1]).1 = (
  bif (ok_ref01_Clip F a0 a1) then (
    some (.v (.tuple #[.int .i64 ((o_ref01_Clip_0 F a0 a1)), .bool ((o_ref01_Clip_1 F a0 a1))])))
  else (
    none) : R) := by
    intros
    kernel_rfl
  exact (h ok_ref01_Clip o_ref01_Clip_0 o_ref01_Clip_1).trans (by kernel_rfl)
def ok_ref02_clip (F : Nat) (a0 : Int) (a1 : Int) : Bool := okT to_ref02_clip (f_ref02_clip F a0 a1)
def o_ref02_clip_0 (F : Nat) (a0 : Int) (a1 : Int) : Int := atI (nth (outT to_ref02_clip (f_ref02_clip F a0 a1)) 0)
def o_ref02_clip_1 (F : Nat) (a0 : Int) (a1 : Int) : Bool := atB (nth (outT to_ref02_clip (f_ref02_clip F a0 a1)) 1)
theorem k_ref02_clip (F : Nat) (a0 : Int) (a1 : Int) {z0 : Int} {z1 : Bool} (h : f_ref02_clip F a0 a1 = some (.v (.tuple #[.int .i64 z0, .bool z1]))) : ok_ref02_clip F a0 a1 = true ∧ o_ref02_clip_0 F a0 a1 = z0 ∧ o_ref02_clip_1 F a0 a1 = z1 := by
  refine ⟨?_, ?_, ?_⟩
  · unfold ok_ref02_clip; rw [h]; kernel_rfl
  · unfold o_ref02_clip_0; rw [h]; kernel_rfl
  · unfold o_ref02_clip_1; rw [h]; kernel_rfl
def s_ref02_clip (F : Nat) : List VV → Option (Bool × VV) := spec ti_ref02_clip to_ref02_clip (fun q => (ok_ref02_clip F (atI (nth q 0)) (atI (nth q 1)))) (fun q => [.i (o_ref02_clip_0 F (atI (nth q 0)) (atI (nth q 1))), .b (o_ref02_clip_1 F (atI (nth q 0)) (atI (nth q 1)))])
theorem hS_ref02_clip (F : Nat) : ∀ f, Good PP f (unS (S_ref02_clip F f)) := words_good fun p hp => by
  simp only [List.mem_cons, List.not_mem_nil, or_false] at hp
  rcases hp with rfl
  · exact g_ref01_Clip F
theorem hl_ref02_clip (F : Nat) : ∀ p ∈ loopsIn PP 122, LoopOK PP (S_ref02_clip F) c_ref02_clip F (I_ref02_clip F) (J_ref02_clip F) p :=
  loops_of [] (by kernel_rfl) all_nil
theorem hj_ref02_clip (F : Nat) : ∀ p ∈ joinsIn PP c_ref02_clip 122, JoinOK PP (S_ref02_clip F) c_ref02_clip (I_ref02_clip F) (J_ref02_clip F) p :=
  joins_of [] (by kernel_rfl) all_nil
theorem g_ref02_clip (F : Nat) : Good PP 122 (unS (s_ref02_clip F)) :=
  fun_spec (hS_ref02_clip F) (by kernel_rfl) (by kernel_rfl) (C := c_ref02_clip) (F := fun q => (f_ref02_clip F (atI (nth q 0)) (atI (nth q 1)))) (fun _ => F) (fun _ => I_ref02_clip F) (fun _ => J_ref02_clip F) (fun _ => hl_ref02_clip F) (fun _ => hj_ref02_clip F)
    (fun q => (congrArg (funL PP (S_ref02_clip F) c_ref02_clip (I_ref02_clip F) (J_ref02_clip F) 122) (show (fTs ti_ref02_clip q).1 = (fTs ti_ref02_clip [.i (atI (nth q 0)), .i (atI (nth q 1))]).1 by kernel_rfl)).trans (e_ref02_clip F (atI (nth q 0)) (atI (nth q 1))))
    (fun _ h => (okT_fill h).trans (congrArg some (by kernel_rfl)))

end Go.Xv
set_option linter.unusedVariables false
namespace Go.Xv
/- 100 _ref04_Square -/
def c_ref04_Square : Cfg := ⟨[0, 2, 3, 4, 5, 6, 13, 20], [(0, [0, 2, 3, 4, 5, 6, 7, 8, 9, 10, 11, 27])], [], []⟩
def ti_ref04_Square : List TV := [.v (.int .u64)]
def to_ref04_Square : TV := .v (.agg [.int .i64, .int .u64])
def S_ref04_Square (F : Nat) : FuncId → List VV → Option (Bool × VV) := words [(86, s_ref01_Digits F), (30, s_ref01_Add F)]
def T_ref04_Square_0 : TS := ⟨[(0, .v (.int .u64)), (2, .lp 0 (.lit 0)), (3, .lp 1 (.lit 0)), (4, .lp 2 (.lit 0)), (5, .ls 3 (.lit 0) .hole 1), (6, .v (.int .i64))], [(0, ⟨(.ex [.v (.int .i64), .v (.int .u64)]), true⟩), (1, ⟨(.ex [.v (.int .i64), .v (.int .u64)]), true⟩), (2, ⟨(.ex [.v (.int .i64), .v (.int .u64)]), true⟩), (3, ⟨.hole, true⟩)], 4⟩
def T_ref04_Square_0_0 : TS := ⟨[(0, .v (.int .u64)), (2, .lp 0 (.lit 0)), (3, .lp 1 (.lit 0)), (4, .lp 2 (.lit 0)), (5, .ls 3 (.lit 0) .hole 1), (6, .v (.int .i64))], [(0, ⟨(.ex [.v (.int .i64), .v (.int .u64)]), true⟩), (1, ⟨(.ex [.v (.int .i64), .v (.int .u64)]), true⟩), (2, ⟨(.ex [.v (.int .i64), .v (.int .u64)]), true⟩), (3, ⟨.hole, true⟩)], 4⟩
def B_ref04_Square_0 (F : Nat) (rc : Int → Nat → Int → Int → Int → Int → Int → Int → Int → List VV → R) (ex0 : Int → Nat → Int → Int → Int → Int → Int → Int → Int → List VV → R) (x0 : Int) (x1 : Nat) (x2 : Int) (x3 : Int) (x4 : Int) (x5 : Int) (x6 : Int) (x7 : Int) (x8 : Int) (x9 : List VV) : R :=
  bif ((decide (x2 < 64))) then (
    bif ((decide (0 ≤ x2)) && (decide (x2 < ((x1 : Nat) : Int)))) then (
      let v1912 : Nat := (0 + ((Int.toNat x2) * 1))
      bif ((isI .i64 x9[v1912]?) && true) then (
        bif ((((iv x9[v1912]?)) == 1)) then (
          bif (ok_ref01_Add F x5 x6 x7 x8) then (
            bif (ok_ref01_Add F x7 x8 x7 x8) then (
              rc x0 x1 ((IntKind.wrap .i64 (x2 + 1))) x3 x4 ((o_ref01_Add_0 F x5 x6 x7 x8)) ((o_ref01_Add_1 F x5 x6 x7 x8)) ((o_ref01_Add_0 F x7 x8 x7 x8)) ((o_ref01_Add_1 F x7 x8 x7 x8)) x9)
            else (
              none))
          else (
            none))
        else (
          bif (ok_ref01_Add F x7 x8 x7 x8) then (
            rc x0 x1 ((IntKind.wrap .i64 (x2 + 1))) x3 x4 x5 x6 ((o_ref01_Add_0 F x7 x8 x7 x8)) ((o_ref01_Add_1 F x7 x8 x7 x8)) x9)
          else (
            none)))
      else (
        none))
    else (
      none))
  else (
    ex0 x0 x1 x2 x3 x4 x5 x6 x7 x8 x9)
def L_ref04_Square_0 (F : Nat) (ex0 : Int → Nat → Int → Int → Int → Int → Int → Int → Int → List VV → R) : Nat → Int → Nat → Int → Int → Int → Int → Int → Int → Int → List VV → R
  | 0, _, _, _, _, _, _, _, _, _, _ => none
  | n + 1, x0, x1, x2, x3, x4, x5, x6, x7, x8, x9 => B_ref04_Square_0 F (L_ref04_Square_0 F ex0 n) ex0 x0 x1 x2 x3 x4 x5 x6 x7 x8 x9
def W_ref04_Square (F : Nat) : List LW := [⟨0, T_ref04_Square_0, fun k q => L_ref04_Square_0 F (fun (z0 : Int) (z1 : Nat) (z2 : Int) (z3 : Int) (z4 : Int) (z5 : Int) (z6 : Int) (z7 : Int) (z8 : Int) (z9 : List VV) => k (.exit 0) (fS T_ref04_Square_0_0 [.i z0, .n z1, .i z2, .i z3, .i z4, .i z5, .i z6, .i z7, .i z8, .c z9])) F (atI (nth q 0)) (atN (nth q 1)) (atI (nth q 2)) (atI (nth q 3)) (atI (nth q 4)) (atI (nth q 5)) (atI (nth q 6)) (atI (nth q 7)) (atI (nth q 8)) (atC (nth q 9))⟩]
def I_ref04_Square (F : Nat) : Nat → VS → (Exit → VS → R) → R := tabI c_ref04_Square (W_ref04_Square F)
def WJ_ref04_Square (F : Nat) : List LJ := []
def J_ref04_Square (F : Nat) : Nat → Nat → VS → (Exit → VS → R) → R := tabJ (WJ_ref04_Square F)
theorem lL_ref04_Square_0 (F : Nat) (k : Exit → VS → R) : ∀ (n : Nat) (x0 : Int) (x1 : Nat) (x2 : Int) (x3 : Int) (x4 : Int) (x5 : Int) (x6 : Int) (x7 : Int) (x8 : Int) (x9 : List VV), iterC (codeL PP (S_ref04_Square F) c_ref04_Square (I_ref04_Square F) (J_ref04_Square F) (loopAt PP 100 0) 0) (headOf c_ref04_Square 0) k n (fS T_ref04_Square_0 [.i x0, .n x1, .i x2, .i x3, .i x4, .i x5, .i x6, .i x7, .i x8, .c x9]) = L_ref04_Square_0 F (fun (z0 : Int) (z1 : Nat) (z2 : Int) (z3 : Int) (z4 : Int) (z5 : Int) (z6 : Int) (z7 : Int) (z8 : Int) (z9 : List VV) => k (.exit 0) (fS T_ref04_Square_0_0 [.i z0, .n z1, .i z2, .i z3, .i z4, .i z5, .i z6, .i z7, .i z8, .c z9])) n x0 x1 x2 x3 x4 x5 x6 x7 x8 x9
  | 0, _, _, _, _, _, _, _, _, _, _ => rfl
  | n + 1, x0, x1, x2, x3, x4, x5, x6, x7, x8, x9 => by
    have h0 : ∀ (ok_ref01_Digits : Nat → Int → Int → Bool) (o_ref01_Digits_0 : Nat → Int → Int → List VV) (o_ref01_Digits_1 : Nat → Int → Int → Nat) (ok_ref01_Add : Nat → Int → Int → Int → Int → Bool) (o_ref01_Add_0 : Nat → Int → Int → Int → Int → Int) (o_ref01_Add_1 : Nat → Int → Int → Int → Int → Int) (L_ref04_Square_0 : Nat → (Int → Nat → Int → Int → Int → Int → Int → Int → Int → List VV → R) → Nat → Int → Nat → Int → Int → Int → Int → Int → Int → Int → List VV → R), iterC (codeL PP (words [(86, spec ti_ref01_Digits to_ref01_Digits (fun q => (ok_ref01_Digits F (atI (nth q 0)) (atI (nth q 1)))) (fun q => [.c (o_ref01_Digits_0 F (atI (nth q 0)) (atI (nth q 1))), .n (o_ref01_Digits_1 F (atI (nth q 0)) (atI (nth q 1)))])), (30, spec ti_ref01_Add to_ref01_Add (fun q => (ok_ref01_Add F (atI (nth q 0)) (atI (nth q 1)) (atI (nth q 2)) (atI (nth q 3)))) (fun q => [.i (o_ref01_Add_0 F (atI (nth q 0)) (atI (nth q 1)) (atI (nth q 2)) (atI (nth q 3))), .i (o_ref01_Add_1 F (atI (nth q 0)) (atI (nth q 1)) (atI (nth q 2)) (atI (nth q 3)))]))]) c_ref04_Square (tabI c_ref04_Square [⟨0, T_ref04_Square_0, fun k q => L_ref04_Square_0 F (fun (z0 : Int) (z1 : Nat) (z2 : Int) (z3 : Int) (z4 : Int) (z5 : Int) (z6 : Int) (z7 : Int) (z8 : Int) (z9 : List VV) => k (.exit 0) (fS T_ref04_Square_0_0 [.i z0, .n z1, .i z2, .i z3, .i z4, .i z5, .i z6, .i z7, .i z8, .c z9])) F (atI (nth q 0)) (atN (nth q 1)) (atI (nth q 2)) (atI (nth q 3)) (atI (nth q 4)) (atI (nth q 5)) (atI (nth q 6)) (atI (nth q 7)) (atI (nth q 8)) (atC (nth q 9))⟩]) (tabJ []) (loopAt PP 100 0) 0) (headOf c_ref04_Square 0) k (n + 1) (fS T_ref04_Square_0 [.i x0, .n x1, .i x2, .i x3, .i x4, .i x5, .i x6, .i x7, .i x8, .c x9]) = (fun (rc : Int → Nat → Int → Int → Int → Int → Int → Int → Int → List VV → R) (ex0 : Int → Nat → Int → Int → Int → Int → Int → Int → Int → List VV → R) (x0 : Int) (x1 : Nat) (x2 : Int) (x3 : Int) (x4 : Int) (x5 : Int) (x6 : Int) (x7 : Int) (x8 : Int) (x9 : List VV) => (
  bif ((decide (x2 < 64))) then (
    bif ((decide (0 ≤ x2)) && (decide (x2 < ((x1 : Nat) : Int)))) then (
      let v1912 : Nat := (0 + ((Int.toNat x2) * 1))
      bif ((isI .i64 x9[v1912]?) && true) then (
        bif ((((iv x9[v1912]?)) == 1)) then (
          bif (ok_ref01_Add F x5 x6 x7 x8) then (
            bif (ok_ref01_Add F x7 x8 x7 x8) then (
              rc x0 x1 ((IntKind.wrap .i64 (x2 + 1))) x3 x4 ((o_ref01_Add_0 F x5 x6 x7 x8)) ((o_ref01_Add_1 F x5 x6 x7 x8)) ((o_ref01_Add_0 F x7 x8 x7 x8)) ((o_ref01_Add_1 F x7 x8 x7 x8)) x9)
            else (
              none))
          else (
            none))
        else (
          bif (ok_ref01_Add F x7 x8 x7 x8) then (
            rc x0 x1 ((IntKind.wrap .i64 (x2 + 1))) x3 x4 x5 x6 ((o_ref01_Add_0 F x7 x8 x7 x8)) ((o_ref01_Add_1 F x7 x8 x7 x8)) x9)
          else (
            none)))
      else (
        none))
    else (
      none))
  else (
    ex0 x0 x1 x2 x3 x4 x5 x6 x7 x8 x9) : R)) (fun (y0 : Int) (y1 : Nat) (y2 : Int) (y3 : Int) (y4 : Int) (y5 : Int) (y6 : Int) (y7 : Int) (y8 : Int) (y9 : List VV) => iterC (codeL PP (words [(86, spec ti_ref01_Digits to_ref01_Digits (fun q => (ok_ref01_Digits F (atI (nth q 0)) (atI (nth q 1)))) (fun q => [.c (o_ref01_Digits_0 F (atI (nth q 0)) (atI (nth q 1))), .n (o_ref01_Digits_1 F (atI (nth q 0)) (atI (nth q 1)))])), (30, spec ti_ref01_Add to_ref01_Add (fun q => (ok_ref01_Add F (atI (nth q 0)) (atI (nth q 1)) (atI (nth q 2)) (atI (nth q 3)))) (fun q => [.i (o_ref01_Add_0 F (atI (nth q 0)) (atI (nth q 1)) (atI (nth q 2)) (atI (nth q 3))), .i (o_ref01_Add_1 F (atI (nth q 0)) (atI (nth q 1)) (atI (nth q 2)) (atI (nth q 3)))]))]) c_ref04_Square (tabI c_ref04_Square [⟨0, T_ref04_Square_0, fun k q => L_ref04_Square_0 F (fun (z0 : Int) (z1 : Nat) (z2 : Int) (z3 : Int) (z4 : Int) (z5 : Int) (z6 : Int) (z7 : Int) (z8 : Int) (z9 : List VV) => k (.exit 0) (fS T_ref04_Square_0_0 [.i z0, .n z1, .i z2, .i z3, .i z4, .i z5, .i z6, .i z7, .i z8, .c z9])) F (atI (nth q 0)) (atN (nth q 1)) (atI (nth q 2)) (atI (nth q 3)) (atI (nth q 4)) (atI (nth q 5)) (atI (nth q 6)) (atI (nth q 7)) (atI (nth q 8)) (atC (nth q 9))⟩]) (tabJ []) (loopAt PP 100 0) 0) (headOf c_ref04_Square 0) k n (fS T_ref04_Square_0 [.i y0, .n y1, .i y2, .i y3, .i y4, .i y5, .i y6, .i y7, .i y8, .c y9])) (fun (z0 : Int) (z1 : Nat) (z2 : Int) (z3 : Int) (z4 : Int) (z5 : Int) (z6 : Int) (z7 : Int) (z8 : Int) (z9 : List VV) => k (.exit 0) (fS T_ref04_Square_0_0 [.i z0, .n z1, .i z2, .i z3, .i z4, .i z5, .i z6, .i z7, .i z8, .c z9])) x0 x1 x2 x3 x4 x5 x6 x7 x8 x9 := by
      intros
      kernel_rfl
    have h : iterC (codeL PP (S_ref04_Square F) c_ref04_Square (I_ref04_Square F) (J_ref04_Square F) (loopAt PP 100 0) 0) (headOf c_ref04_Square 0) k (n + 1) (fS T_ref04_Square_0 [.i x0, .n x1, .i x2, .i x3, .i x4, .i x5, .i x6, .i x7, .i x8, .c x9]) = B_ref04_Square_0 F (fun (y0 : Int) (y1 : Nat) (y2 : Int) (y3 : Int) (y4 : Int) (y5 : Int) (y6 : Int) (y7 : Int) (y8 : Int) (y9 : List VV) => iterC (codeL PP (S_ref04_Square F) c_ref04_Square (I_ref04_Square F) (J_ref04_Square F) (loopAt PP 100 0) 0) (headOf c_ref04_Square 0) k n (fS T_ref04_Square_0 [.i y0, .n y1, .i y2, .i y3, .i y4, .i y5, .i y6, .i y7, .i y8, .c y9])) (fun (z0 : Int) (z1 : Nat) (z2 : Int) (z3 : Int) (z4 : Int) (z5 : Int) (z6 : Int) (z7 : Int) (z8 : Int) (z9 : List VV) => k (.exit 0) (fS T_ref04_Square_0_0 [.i z0, .n z1, .i z2, .i z3, .i z4, .i z5, .i z6, .i z7, .i z8, .c z9])) x0 x1 x2 x3 x4 x5 x6 x7 x8 x9 := (h0 ok_ref01_Digits o_ref01_Digits_0 o_ref01_Digits_1 ok_ref01_Add o_ref01_Add_0 o_ref01_Add_1 L_ref04_Square_0).trans (by kernel_rfl)
    rw [h]
    simp only [lL_ref04_Square_0 F k n]
    rfl
def f_ref04_Square (F : Nat) (a0 : Int) : R :=
  bif (ok_ref01_Digits F 0 a0) then (
    L_ref04_Square_0 F (fun (v1923 : Int) (v1924 : Nat) (v1925 : Int) (v1926 : Int) (v1927 : Int) (v1928 : Int) (v1929 : Int) (v1930 : Int) (v1931 : Int) (v1932 : List VV) =>
      some (.v (.agg #[.int .i64 v1928, .int .u64 v1929]))) F a0 ((o_ref01_Digits_1 F 0 a0)) 0 0 0 0 0 0 a0 ((o_ref01_Digits_0 F 0 a0)))
  else (
    none)
theorem e_ref04_Square (F : Nat) (a0 : Int) : funL PP (S_ref04_Square F) c_ref04_Square (I_ref04_Square F) (J_ref04_Square F) 100 (fTs ti_ref04_Square [.i a0]).1 = f_ref04_Square F a0 := by
  have h : ∀ (ok_ref01_Digits : Nat → Int → Int → Bool) (o_ref01_Digits_0 : Nat → Int → Int → List VV) (o_ref01_Digits_1 : Nat → Int → Int → Nat) (ok_ref01_Add : Nat → Int → Int → Int → Int → Bool) (o_ref01_Add_0 : Nat → Int → Int → Int → Int → Int) (o_ref01_Add_1 : Nat → Int → Int → Int → Int → Int) (L_ref04_Square_0 : Nat → (Int → Nat → Int → Int → Int → Int → Int → Int → Int → List VV → R) → Nat → Int → Nat → Int → Int → Int → Int → Int → Int → Int → List VV → R), funL PP (words [(86, spec ti_ref01_Digits to_ref01_Digits (fun q => (ok_ref01_Digits F (atI (nth q 0)) (atI (nth q 1)))) (fun q => [.c (o_ref01_Digits_0 F (atI (nth q 0)) (atI (nth q 1))), .n (o_ref01_Digits_1 F (atI (nth q 0)) (atI (nth q 1)))])), (30, spec ti_ref01_Add to_ref01_Add (fun q => (ok_ref01_Add F (atI (nth q 0)) (atI (nth q 1)) (atI (nth q 2)) (atI (nth q 3)))) (fun q => [.i (o_ref01_Add_0 F (atI (nth q 0)) (atI (nth q 1)) (atI (nth q 2)) (atI (nth q 3))), .i (o_ref01_Add_1 F (atI (nth q 0)) (atI (nth q 1)) (atI (nth q 2)) (atI (nth q 3)))]))]) c_ref04_Square (tabI c_ref04_Square [⟨0, T_ref04_Square_0, fun k q => L_ref04_Square_0 F (fun (z0 : Int) (z1 : Nat) (z2 : Int) (z3 : Int) (z4 : Int) (z5 : Int) (z6 : Int) (z7 : Int) (z8 : Int) (z9 : List VV) => k (.exit 0) (fS T_ref04_Square_0_0 [.i z0, .n z1, .i z2, .i z3, .i z4, .i z5, .i z6, .i z7, .i z8, .c z9])) F (atI (nth q 0)) (atN (nth q 1)) (atI (nth q 2)) (atI (nth q 3)) (atI (nth q 4)) (atI (nth q 5)) (atI (nth q 6)) (atI (nth q 7)) (atI (nth q 8)) (atC (nth q 9))⟩]) (tabJ []) 100 (fTs ti_ref04_Square [.i a0]).1 = (
  bif (ok_ref01_Digits F 0 a0) then (
    L_ref04_Square_0 F (fun (v1923 : Int) (v1924 : Nat) (v1925 : Int) (v1926 : Int) (v1927 : Int) (v1928 : Int) (v1929 : Int) (v1930 : Int) (v1931 : Int) (v1932 : List VV) =>
      some (.v (.agg #[.int .i64 v1928, .int .u64 v1929]))) F a0 ((o_ref01_Digits_1 F 0 a0)) 0 0 0 0 0 0 a0 ((o_ref01_Digits_0 F 0 a0)))
  else (
    none) : R) := by
    intros
    kernel_rfl
  exact (h ok_ref01_Digits o_ref01_Digits_0 o_ref01_Digits_1 ok_ref01_Add o_ref01_Add_0 o_ref01_Add_1 L_ref04_Square_0).trans (by kernel_rfl)
def ok_ref04_Square (F : Nat) (a0 : Int) : Bool := okT to_ref04_Square (f_ref04_Square F a0)
def o_ref04_Square_0 (F : Nat) (a0 : Int) : Int := atI (nth (outT to_ref04_Square (f_ref04_Square F a0)) 0)
def o_ref04_Square_1 (F : Nat) (a0 : Int) : Int := atI (nth (outT to_ref04_Square (f_ref04_Square F a0)) 1)
theorem k_ref04_Square (F : Nat) (a0 : Int) {z0 : Int} {z1 : Int} (h : f_ref04_Square F a0 = some (.v (.agg #[.int .i64 z0, .int .u64 z1]))) : ok_ref04_Square F a0 = true ∧ o_ref04_Square_0 F a0 = z0 ∧ o_ref04_Square_1 F a0 = z1 := by
  refine ⟨?_, ?_, ?_⟩
  · unfold ok_ref04_Square; rw [h]; kernel_rfl
  · unfold o_ref04_Square_0; rw [h]; kernel_rfl
  · unfold o_ref04_Square_1; rw [h]; kernel_rfl
def s_ref04_Square (F : Nat) : List VV → Option (Bool × VV) := spec ti_ref04_Square to_ref04_Square (fun q => (ok_ref04_Square F (atI (nth q 0)))) (fun q => [.i (o_ref04_Square_0 F (atI (nth q 0))), .i (o_ref04_Square_1 F (atI (nth q 0)))])
theorem hS_ref04_Square (F : Nat) : ∀ f, Good PP f (unS (S_ref04_Square F f)) := words_good fun p hp => by
  simp only [List.mem_cons, List.not_mem_nil, or_false] at hp
  rcases hp with rfl | rfl
  · exact g_ref01_Digits F
  · exact g_ref01_Add F
theorem hl_ref04_Square (F : Nat) : ∀ p ∈ loopsIn PP 100, LoopOK PP (S_ref04_Square F) c_ref04_Square F (I_ref04_Square F) (J_ref04_Square F) p :=
  loops_of [(0, loopAt PP 100 0)] (by kernel_rfl) (all_cons
    (loop_ok (W_ref04_Square F) rfl (tab_cons (fun _ k q => Le.ofEq ((lL_ref04_Square_0 F k F (atI (nth q 0)) (atN (nth q 1)) (atI (nth q 2)) (atI (nth q 3)) (atI (nth q 4)) (atI (nth q 5)) (atI (nth q 6)) (atI (nth q 7)) (atI (nth q 8)) (atC (nth q 9))).symm.trans (congrArg (iterC (codeL PP (S_ref04_Square F) c_ref04_Square (I_ref04_Square F) (J_ref04_Square F) (loopAt PP 100 0) 0) (headOf c_ref04_Square 0) k F) (show fS T_ref04_Square_0 [.i (atI (nth q 0)), .n (atN (nth q 1)), .i (atI (nth q 2)), .i (atI (nth q 3)), .i (atI (nth q 4)), .i (atI (nth q 5)), .i (atI (nth q 6)), .i (atI (nth q 7)), .i (atI (nth q 8)), .c (atC (nth q 9))] = fS T_ref04_Square_0 q by kernel_rfl)))) tab_nil)) all_nil)
theorem hj_ref04_Square (F : Nat) : ∀ p ∈ joinsIn PP c_ref04_Square 100, JoinOK PP (S_ref04_Square F) c_ref04_Square (I_ref04_Square F) (J_ref04_Square F) p :=
  joins_of [] (by kernel_rfl) all_nil
theorem g_ref04_Square (F : Nat) : Good PP 100 (unS (s_ref04_Square F)) :=
  fun_spec (hS_ref04_Square F) (by kernel_rfl) (by kernel_rfl) (C := c_ref04_Square) (F := fun q => (f_ref04_Square F (atI (nth q 0)))) (fun _ => F) (fun _ => I_ref04_Square F) (fun _ => J_ref04_Square F) (fun _ => hl_ref04_Square F) (fun _ => hj_ref04_Square F)
    (fun q => (congrArg (funL PP (S_ref04_Square F) c_ref04_Square (I_ref04_Square F) (J_ref04_Square F) 100) (show (fTs ti_ref04_Square q).1 = (fTs ti_ref04_Square [.i (atI (nth q 0))]).1 by kernel_rfl)).trans (e_ref04_Square F (atI (nth q 0))))
    (fun _ h => (okT_fill h).trans (congrArg some (by kernel_rfl)))

end Go.Xv
set_option linter.unusedVariables false
namespace Go.Xv
/- 102 _ref04_Wide -/
def c_ref04_Wide : Cfg := ⟨[0, 1, 2, 3, 4, 5, 6, 7, 10, 17, 34], [(0, [0, 1, 2, 3, 4, 5, 6, 8, 9, 10, 38])], [33], []⟩
def ti_ref04_Wide : List TV := [.v (.agg [.int .i64, .int .u64])]
def to_ref04_Wide : TV := .v (.tup [.int .u64, .bool])
def S_ref04_Wide (F : Nat) : FuncId → List VV → Option (Bool × VV) := words [(100, s_ref04_Square F), (88, s_ref01_Less F)]
def T_ref04_Wide_0 : TS := ⟨[(0, .v (.agg [.int .i64, .int .u64])), (1, .lp 0 (.lit 0)), (2, .v (.int .u64)), (3, .v (.bool)), (4, .v (.int .u64)), (5, .v (.int .u64)), (6, .v (.int .i64))], [(0, ⟨(.ex [.v (.int .i64), .v (.int .u64)]), true⟩)], 1⟩
def T_ref04_Wide_0_0 : TS := ⟨[(0, .v (.agg [.int .i64, .int .u64])), (1, .lp 0 (.lit 0)), (2, .v (.int .u64)), (3, .v (.bool)), (4, .v (.int .u64)), (5, .v (.int .u64)), (6, .v (.int .i64))], [(0, ⟨(.ex [.v (.int .i64), .v (.int .u64)]), true⟩)], 1⟩
def B_ref04_Wide_0 (F : Nat) (rc : Int → Int → Int → Bool → Int → Int → Int → Int → Int → R) (ex0 : Int → Int → Int → Bool → Int → Int → Int → Int → Int → R) (x0 : Int) (x1 : Int) (x2 : Int) (x3 : Bool) (x4 : Int) (x5 : Int) (x6 : Int) (x7 : Int) (x8 : Int) : R :=
  bif ((decide (x6 < 65))) then (
    bif ((decide (x4 < x5))) then (
      let v1978 : Int := (IntKind.wrap .u64 (((IntKind.wrap .u64 (x4 + ((IntKind.wrap .u64 (Int.tdiv ((IntKind.wrap .u64 (x5 - x4))) 2)))))) + ((Int.tmod ((IntKind.wrap .u64 (x5 - x4))) 2))))
      bif (ok_ref04_Square F v1978) then (
        let v1979 : Int := (o_ref04_Square_0 F v1978)
        let v1980 : Int := (o_ref04_Square_1 F v1978)
        bif (ok_ref01_Less F x7 x8 v1979 v1980) then (
          bif ((o_ref01_Less_0 F x7 x8 v1979 v1980)) then (
            rc x0 x1 x2 x3 x4 ((IntKind.wrap .u64 (v1978 - 1))) ((IntKind.wrap .i64 (x6 + 1))) x7 x8)
          else (
            rc x0 x1 x2 x3 v1978 x5 ((IntKind.wrap .i64 (x6 + 1))) x7 x8))
        else (
          none))
      else (
        none))
    else (
      ex0 x0 x1 x2 x3 x4 x5 x6 x7 x8))
  else (
    ex0 x0 x1 x2 x3 x4 x5 x6 x7 x8)
def L_ref04_Wide_0 (F : Nat) (ex0 : Int → Int → Int → Bool → Int → Int → Int → Int → Int → R) : Nat → Int → Int → Int → Bool → Int → Int → Int → Int → Int → R
  | 0, _, _, _, _, _, _, _, _, _ => none
  | n + 1, x0, x1, x2, x3, x4, x5, x6, x7, x8 => B_ref04_Wide_0 F (L_ref04_Wide_0 F ex0 n) ex0 x0 x1 x2 x3 x4 x5 x6 x7 x8
def W_ref04_Wide (F : Nat) : List LW := [⟨0, T_ref04_Wide_0, fun k q => L_ref04_Wide_0 F (fun (z0 : Int) (z1 : Int) (z2 : Int) (z3 : Bool) (z4 : Int) (z5 : Int) (z6 : Int) (z7 : Int) (z8 : Int) => k (.exit 0) (fS T_ref04_Wide_0_0 [.i z0, .i z1, .i z2, .b z3, .i z4, .i z5, .i z6, .i z7, .i z8])) F (atI (nth q 0)) (atI (nth q 1)) (atI (nth q 2)) (atB (nth q 3)) (atI (nth q 4)) (atI (nth q 5)) (atI (nth q 6)) (atI (nth q 7)) (atI (nth q 8))⟩]
def I_ref04_Wide (F : Nat) : Nat → VS → (Exit → VS → R) → R := tabI c_ref04_Wide (W_ref04_Wide F)
def WJ_ref04_Wide (F : Nat) : List LJ := []
def J_ref04_Wide (F : Nat) : Nat → Nat → VS → (Exit → VS → R) → R := tabJ (WJ_ref04_Wide F)
theorem lL_ref04_Wide_0 (F : Nat) (k : Exit → VS → R) : ∀ (n : Nat) (x0 : Int) (x1 : Int) (x2 : Int) (x3 : Bool) (x4 : Int) (x5 : Int) (x6 : Int) (x7 : Int) (x8 : Int), iterC (codeL PP (S_ref04_Wide F) c_ref04_Wide (I_ref04_Wide F) (J_ref04_Wide F) (loopAt PP 102 0) 0) (headOf c_ref04_Wide 0) k n (fS T_ref04_Wide_0 [.i x0, .i x1, .i x2, .b x3, .i x4, .i x5, .i x6, .i x7, .i x8]) = L_ref04_Wide_0 F (fun (z0 : Int) (z1 : Int) (z2 : Int) (z3 : Bool) (z4 : Int) (z5 : Int) (z6 : Int) (z7 : Int) (z8 : Int) => k (.exit 0) (fS T_ref04_Wide_0_0 [.i z0, .i z1, .i z2, .b z3, .i z4, .i z5, .i z6, .i z7, .i z8])) n x0 x1 x2 x3 x4 x5 x6 x7 x8
  | 0, _, _, _, _, _, _, _, _, _ => rfl
  | n + 1, x0, x1, x2, x3, x4, x5, x6, x7, x8 => by
    have h0 : ∀ (ok_ref04_Square : Nat → Int → Bool) (o_ref04_Square_0 : Nat → Int → Int) (o_ref04_Square_1 : Nat → Int → Int) (ok_ref01_Less : Nat → Int → Int → Int → Int → Bool) (o_ref01_Less_0 : Nat → Int → Int → Int → Int → Bool) (L_ref04_Wide_0 : Nat → (Int → Int → Int → Bool → Int → Int → Int → Int → Int → R) → Nat → Int → Int → Int → Bool → Int → Int → Int → Int → Int → R), iterC (codeL PP (words [(100, spec ti_ref04_Square to_ref04_Square (fun q => (ok_ref04_Square F (atI (nth q 0)))) (fun q => [.i (o_ref04_Square_0 F (atI (nth q 0))), .i (o_ref04_Square_1 F (atI (nth q 0)))])), (88, spec ti_ref01_Less to_ref01_Less (fun q => (ok_ref01_Less F (atI (nth q 0)) (atI (nth q 1)) (atI (nth q 2)) (atI (nth q 3)))) (fun q => [.b (o_ref01_Less_0 F (atI (nth q 0)) (atI (nth q 1)) (atI (nth q 2)) (atI (nth q 3)))]))]) c_ref04_Wide (tabI c_ref04_Wide [⟨0, T_ref04_Wide_0, fun k q => L_ref04_Wide_0 F (fun (z0 : Int) (z1 : Int) (z2 : Int) (z3 : Bool) (z4 : Int) (z5 : Int) (z6 : Int) (z7 : Int) (z8 : Int) => k (.exit 0) (fS T_ref04_Wide_0_0 [.i z0, .i z1, .i z2, .b z3, .i z4, .i z5, .i z6, .i z7, .i z8])) F (atI (nth q 0)) (atI (nth q 1)) (atI (nth q 2)) (atB (nth q 3)) (atI (nth q 4)) (atI (nth q 5)) (atI (nth q 6)) (atI (nth q 7)) (atI (nth q 8))⟩]) (tabJ []) (loopAt PP 102 0) 0) (headOf c_ref04_Wide 0) k (n + 1) (fS T_ref04_Wide_0 [.i x0, .i x1, .i x2, .b x3, .i x4, .i x5, .i x6, .i x7, .i x8]) = (fun (rc : Int → Int → Int → Bool → Int → Int → Int → Int → Int → R) (ex0 : Int → Int → Int → Bool → Int → Int → Int → Int → Int → R) (x0 : Int) (x1 : Int) (x2 : Int) (x3 : Bool) (x4 : Int) (x5 : Int) (x6 : Int) (x7 : Int) (x8 : Int) => (
  bif ((decide (x6 < 65))) then (
    bif ((decide (x4 < x5))) then (
      let v1978 : Int := (IntKind.wrap .u64 (((IntKind.wrap .u64 (x4 + ((IntKind.wrap .u64 (Int.tdiv ((IntKind.wrap .u64 (x5 - x4))) 2)))))) + ((Int.tmod ((IntKind.wrap .u64 (x5 - x4))) 2))))
      bif (ok_ref04_Square F v1978) then (
        let v1979 : Int := (o_ref04_Square_0 F v1978)
        let v1980 : Int := (o_ref04_Square_1 F v1978)
        bif (ok_ref01_Less F x7 x8 v1979 v1980) then (
          bif ((o_ref01_Less_0 F x7 x8 v1979 v1980)) then (
            rc x0 x1 x2 x3 x4 ((IntKind.wrap .u64 (v1978 - 1))) ((IntKind.wrap .i64 (x6 + 1))) x7 x8)
          else (
            rc x0 x1 x2 x3 v1978 x5 ((IntKind.wrap .i64 (x6 + 1))) x7 x8))
        else (
          none))
      else (
        none))
    else (
      ex0 x0 x1 x2 x3 x4 x5 x6 x7 x8))
  else (
    ex0 x0 x1 x2 x3 x4 x5 x6 x7 x8) : R)) (fun (y0 : Int) (y1 : Int) (y2 : Int) (y3 : Bool) (y4 : Int) (y5 : Int) (y6 : Int) (y7 : Int) (y8 : Int) => iterC (codeL PP (words [(100, spec ti_ref04_Square to_ref04_Square (fun q => (ok_ref04_Square F (atI (nth q 0)))) (fun q => [.i (o_ref04_Square_0 F (atI (nth q 0))), .i (o_ref04_Square_1 F (atI (nth q 0)))])), (88, spec ti_ref01_Less to_ref01_Less (fun q => (ok_ref01_Less F (atI (nth q 0)) (atI (nth q 1)) (atI (nth q 2)) (atI (nth q 3)))) (fun q => [.b (o_ref01_Less_0 F (atI (nth q 0)) (atI (nth q 1)) (atI (nth q 2)) (atI (nth q 3)))]))]) c_ref04_Wide (tabI c_ref04_Wide [⟨0, T_ref04_Wide_0, fun k q => L_ref04_Wide_0 F (fun (z0 : Int) (z1 : Int) (z2 : Int) (z3 : Bool) (z4 : Int) (z5 : Int) (z6 : Int) (z7 : Int) (z8 : Int) => k (.exit 0) (fS T_ref04_Wide_0_0 [.i z0, .i z1, .i z2, .b z3, .i z4, .i z5, .i z6, .i z7, .i z8])) F (atI (nth q 0)) (atI (nth q 1)) (atI (nth q 2)) (atB (nth q 3)) (atI (nth q 4)) (atI (nth q 5)) (atI (nth q 6)) (atI (nth q 7)) (atI (nth q 8))⟩]) (tabJ []) (loopAt PP 102 0) 0) (headOf c_ref04_Wide 0) k n (fS T_ref04_Wide_0 [.i y0, .i y1, .i y2, .b y3, .i y4, .i y5, .i y6, .i y7, .i y8])) (fun (z0 : Int) (z1 : Int) (z2 : Int) (z3 : Bool) (z4 : Int) (z5 : Int) (z6 : Int) (z7 : Int) (z8 : Int) => k (.exit 0) (fS T_ref04_Wide_0_0 [.i z0, .i z1, .i z2, .b z3, .i z4, .i z5, .i z6, .i z7, .i z8])) x0 x1 x2 x3 x4 x5 x6 x7 x8 := by
      intros
      kernel_rfl
    have h : iterC (codeL PP (S_ref04_Wide F) c_ref04_Wide (I_ref04_Wide F) (J_ref04_Wide F) (loopAt PP 102 0) 0) (headOf c_ref04_Wide 0) k (n + 1) (fS T_ref04_Wide_0 [.i x0, .i x1, .i x2, .b x3, .i x4, .i x5, .i x6, .i x7, .i x8]) = B_ref04_Wide_0 F (fun (y0 : Int) (y1 : Int) (y2 : Int) (y3 : Bool) (y4 : Int) (y5 : Int) (y6 : Int) (y7 : Int) (y8 : Int) => iterC (codeL PP (S_ref04_Wide F) c_ref04_Wide (I_ref04_Wide F) (J_ref04_Wide F) (loopAt PP 102 0) 0) (headOf c_ref04_Wide 0) k n (fS T_ref04_Wide_0 [.i y0, .i y1, .i y2, .b y3, .i y4, .i y5, .i y6, .i y7, .i y8])) (fun (z0 : Int) (z1 : Int) (z2 : Int) (z3 : Bool) (z4 : Int) (z5 : Int) (z6 : Int) (z7 : Int) (z8 : Int) => k (.exit 0) (fS T_ref04_Wide_0_0 [.i z0, .i z1, .i z2, .b z3, .i z4, .i z5, .i z6, .i z7, .i z8])) x0 x1 x2 x3 x4 x5 x6 x7 x8 := (h0 ok_ref04_Square o_ref04_Square_0 o_ref04_Square_1 ok_ref01_Less o_ref01_Less_0 L_ref04_Wide_0).trans (by kernel_rfl)
    rw [h]
    simp only [lL_ref04_Wide_0 F k n]
    rfl
def f_ref04_Wide (F : Nat) (a0 : Int) (a1 : Int) : R :=
  bif ((decide (a0 < 0))) then (
    some (.v (.tuple #[.int .u64 0, .bool false])))
  else (
    L_ref04_Wide_0 F (fun (v1985 : Int) (v1986 : Int) (v1987 : Int) (v1988 : Bool) (v1989 : Int) (v1990 : Int) (v1991 : Int) (v1992 : Int) (v1993 : Int) =>
      some (.v (.tuple #[.int .u64 v1989, .bool true]))) F a0 a1 0 false 0 13043817825332782212 0 a0 a1)
theorem e_ref04_Wide (F : Nat) (a0 : Int) (a1 : Int) : funL PP (S_ref04_Wide F) c_ref04_Wide (I_ref04_Wide F) (J_ref04_Wide F) 102 (fTs ti_ref04_Wide [.i a0, .i a1]).1 = f_ref04_Wide F a0 a1 := by
  have h : ∀ (ok_ref04_Square : Nat → Int → Bool) (o_ref04_Square_0 : Nat → Int → Int) (o_ref04_Square_1 : Nat → Int → Int) (ok_ref01_Less : Nat → Int → Int → Int → Int → Bool) (o_ref01_Less_0 : Nat → Int → Int → Int → Int → Bool) (L_ref04_Wide_0 : Nat → (Int → Int → Int → Bool → Int → Int → Int → Int → Int → R) → Nat → Int → Int → Int → Bool → Int → Int → Int → Int → Int → R), funL PP (words [(100, spec ti_ref04_Square to_ref04_Square (fun q => (ok_ref04_Square F (atI (nth q 0)))) (fun q => [.i (o_ref04_Square_0 F (atI (nth q 0))), .i (o_ref04_Square_1 F (atI (nth q 0)))])), (88, spec ti_ref01_Less to_ref01_Less (fun q => (ok_ref01_Less F (atI (nth q 0)) (atI (nth q 1)) (atI (nth q 2)) (atI (nth q 3)))) (fun q => [.b (o_ref01_Less_0 F (atI (nth q 0)) (atI (nth q 1)) (atI (nth q 2)) (atI (nth q 3)))]))]) c_ref04_Wide (tabI c_ref04_Wide [⟨0, T_ref04_Wide_0, fun k q => L_ref04_Wide_0 F (fun (z0 : Int) (z1 : Int) (z2 : Int) (z3 : Bool) (z4 : Int) (z5 : Int) (z6 : Int) (z7 : Int) (z8 : Int) => k (.exit 0) (fS T_ref04_Wide_0_0 [.i z0, .i z1, .i z2, .b z3, .i z4, .i z5, .i z6, .i z7, .i z8])) F (atI (nth q 0)) (atI (nth q 1)) (atI (nth q 2)) (atB (nth q 3)) (atI (nth q 4)) (atI (nth q 5)) (atI (nth q 6)) (atI (nth q 7)) (atI (nth q 8))⟩]) (tabJ []) 102 (fTs ti_ref04_Wide [.i a0, .i a1]).1 = (
  bif ((decide (a0 < 0))) then (
    some (.v (.tuple #[.int .u64 0, .bool false])))
  else (
    L_ref04_Wide_0 F (fun (v1985 : Int) (v1986 : Int) (v1987 : Int) (v1988 : Bool) (v1989 : Int) (v1990 : Int) (v1991 : Int) (v1992 : Int) (v1993 : Int) =>
      some (.v (.tuple #[.int .u64 v1989, .bool true]))) F a0 a1 0 false 0 13043817825332782212 0 a0 a1) : R) := by
    intros
    kernel_rfl
  exact (h ok_ref04_Square o_ref04_Square_0 o_ref04_Square_1 ok_ref01_Less o_ref01_Less_0 L_ref04_Wide_0).trans (by kernel_rfl)
def ok_ref04_Wide (F : Nat) (a0 : Int) (a1 : Int) : Bool := okT to_ref04_Wide (f_ref04_Wide F a0 a1)
def o_ref04_Wide_0 (F : Nat) (a0 : Int) (a1 : Int) : Int := atI (nth (outT to_ref04_Wide (f_ref04_Wide F a0 a1)) 0)
def o_ref04_Wide_1 (F : Nat) (a0 : Int) (a1 : Int) : Bool := atB (nth (outT to_ref04_Wide (f_ref04_Wide F a0 a1)) 1)
theorem k_ref04_Wide (F : Nat) (a0 : Int) (a1 : Int) {z0 : Int} {z1 : Bool} (h : f_ref04_Wide F a0 a1 = some (.v (.tuple #[.int .u64 z0, .bool z1]))) : ok_ref04_Wide F a0 a1 = true ∧ o_ref04_Wide_0 F a0 a1 = z0 ∧ o_ref04_Wide_1 F a0 a1 = z1 := by
  refine ⟨?_, ?_, ?_⟩
  · unfold ok_ref04_Wide; rw [h]; kernel_rfl
  · unfold o_ref04_Wide_0; rw [h]; kernel_rfl
  · unfold o_ref04_Wide_1; rw [h]; kernel_rfl
def s_ref04_Wide (F : Nat) : List VV → Option (Bool × VV) := spec ti_ref04_Wide to_ref04_Wide (fun q => (ok_ref04_Wide F (atI (nth q 0)) (atI (nth q 1)))) (fun q => [.i (o_ref04_Wide_0 F (atI (nth q 0)) (atI (nth q 1))), .b (o_ref04_Wide_1 F (atI (nth q 0)) (atI (nth q 1)))])
theorem hS_ref04_Wide (F : Nat) : ∀ f, Good PP f (unS (S_ref04_Wide F f)) := words_good fun p hp => by
  simp only [List.mem_cons, List.not_mem_nil, or_false] at hp
  rcases hp with rfl | rfl
  · exact g_ref04_Square F
  · exact g_ref01_Less F
theorem hl_ref04_Wide (F : Nat) : ∀ p ∈ loopsIn PP 102, LoopOK PP (S_ref04_Wide F) c_ref04_Wide F (I_ref04_Wide F) (J_ref04_Wide F) p :=
  loops_of [(0, loopAt PP 102 0)] (by kernel_rfl) (all_cons
    (loop_ok (W_ref04_Wide F) rfl (tab_cons (fun _ k q => Le.ofEq ((lL_ref04_Wide_0 F k F (atI (nth q 0)) (atI (nth q 1)) (atI (nth q 2)) (atB (nth q 3)) (atI (nth q 4)) (atI (nth q 5)) (atI (nth q 6)) (atI (nth q 7)) (atI (nth q 8))).symm.trans (congrArg (iterC (codeL PP (S_ref04_Wide F) c_ref04_Wide (I_ref04_Wide F) (J_ref04_Wide F) (loopAt PP 102 0) 0) (headOf c_ref04_Wide 0) k F) (show fS T_ref04_Wide_0 [.i (atI (nth q 0)), .i (atI (nth q 1)), .i (atI (nth q 2)), .b (atB (nth q 3)), .i (atI (nth q 4)), .i (atI (nth q 5)), .i (atI (nth q 6)), .i (atI (nth q 7)), .i (atI (nth q 8))] = fS T_ref04_Wide_0 q by kernel_rfl)))) tab_nil)) all_nil)
theorem hj_ref04_Wide (F : Nat) : ∀ p ∈ joinsIn PP c_ref04_Wide 102, JoinOK PP (S_ref04_Wide F) c_ref04_Wide (I_ref04_Wide F) (J_ref04_Wide F) p :=
  joins_of [] (by kernel_rfl) all_nil
theorem g_ref04_Wide (F : Nat) : Good PP 102 (unS (s_ref04_Wide F)) :=
  fun_spec (hS_ref04_Wide F) (by kernel_rfl) (by kernel_rfl) (C := c_ref04_Wide) (F := fun q => (f_ref04_Wide F (atI (nth q 0)) (atI (nth q 1)))) (fun _ => F) (fun _ => I_ref04_Wide F) (fun _ => J_ref04_Wide F) (fun _ => hl_ref04_Wide F) (fun _ => hj_ref04_Wide F)
    (fun q => (congrArg (funL PP (S_ref04_Wide F) c_ref04_Wide (I_ref04_Wide F) (J_ref04_Wide F) 102) (show (fTs ti_ref04_Wide q).1 = (fTs ti_ref04_Wide [.i (atI (nth q 0)), .i (atI (nth q 1))]).1 by kernel_rfl)).trans (e_ref04_Wide F (atI (nth q 0)) (atI (nth q 1))))
    (fun _ h => (okT_fill h).trans (congrArg some (by kernel_rfl)))

end Go.Xv
set_option linter.unusedVariables false
namespace Go.Xv
/- 72 _root_Square -/
def c_root_Square : Cfg := ⟨[0, 2, 3, 4, 5, 6], [], [], []⟩
def ti_root_Square : List TV := [.v (.int .u64)]
def to_root_Square : TV := .v (.agg [.int .i64, .int .u64])
def S_root_Square (F : Nat) : FuncId → List VV → Option (Bool × VV) := words [(111, s_wide_Left F), (71, s_wide_Add F)]
def W_root_Square (F : Nat) : List LW := []
def I_root_Square (F : Nat) : Nat → VS → (Exit → VS → R) → R := tabI c_root_Square (W_root_Square F)
def WJ_root_Square (F : Nat) : List LJ := []
def J_root_Square (F : Nat) : Nat → Nat → VS → (Exit → VS → R) → R := tabJ (WJ_root_Square F)
def f_root_Square (F : Nat) (a0 : Int) : R :=
  let v1320 : Int := (Int.fdiv a0 (4294967296))
  let v1321 : Int := (andI .u64 a0 4294967295)
  let v1323 : Int := (IntKind.wrap .i64 ((IntKind.wrap .u64 (v1320 * v1320))))
  let v1324 : Int := (IntKind.wrap .u64 (v1321 * v1321))
  let v1325 : Int := (IntKind.wrap .u64 (v1320 * v1321))
  bif (ok_wide_Left F 0 v1325 33) then (
    let v1339 : Int := (o_wide_Left_0 F 0 v1325 33)
    let v1340 : Int := (o_wide_Left_1 F 0 v1325 33)
    bif (ok_wide_Add F v1323 v1324 v1339 v1340) then (
      some (.v (.agg #[.int .i64 ((o_wide_Add_0 F v1323 v1324 v1339 v1340)), .int .u64 ((o_wide_Add_1 F v1323 v1324 v1339 v1340))])))
    else (
      none))
  else (
    none)
theorem e_root_Square (F : Nat) (a0 : Int) : funL PP (S_root_Square F) c_root_Square (I_root_Square F) (J_root_Square F) 72 (fTs ti_root_Square [.i a0]).1 = f_root_Square F a0 := by
  have h : ∀ (ok_wide_Left : Nat → Int → Int → Int → Bool) (o_wide_Left_0 : Nat → Int → Int → Int → Int) (o_wide_Left_1 : Nat → Int → Int → Int → Int) (ok_wide_Add : Nat → Int → Int → Int → Int → Bool) (o_wide_Add_0 : Nat → Int → Int → Int → Int → Int) (o_wide_Add_1 : Nat → Int → Int → Int → Int → Int), funL PP (words [(111, spec ti_wide_Left to_wide_Left (fun q => (ok_wide_Left F (atI (nth q 0)) (atI (nth q 1)) (atI (nth q 2)))) (fun q => [.i (o_wide_Left_0 F (atI (nth q 0)) (atI (nth q 1)) (atI (nth q 2))), .i (o_wide_Left_1 F (atI (nth q 0)) (atI (nth q 1)) (atI (nth q 2)))])), (71, spec ti_wide_Add to_wide_Add (fun q => (ok_wide_Add F (atI (nth q 0)) (atI (nth q 1)) (atI (nth q 2)) (atI (nth q 3)))) (fun q => [.i (o_wide_Add_0 F (atI (nth q 0)) (atI (nth q 1)) (atI (nth q 2)) (atI (nth q 3))), .i (o_wide_Add_1 F (atI (nth q 0)) (atI (nth q 1)) (atI (nth q 2)) (atI (nth q 3)))]))]) c_root_Square (tabI c_root_Square []) (tabJ []) 72 (fTs ti_root_Square [.i a0]).1 = (
  let v1320 : Int := (Int.fdiv a0 (4294967296))
  let v1321 : Int := (andI .u64 a0 4294967295)
  let v1323 : Int := (IntKind.wrap .i64 ((IntKind.wrap .u64 (v1320 * v1320))))
  let v1324 : Int := (IntKind.wrap .u64 (v1321 * v1321))
  let v1325 : Int := (IntKind.wrap .u64 (v1320 * v1321))
  bif (ok_wide_Left F 0 v1325 33) then (
    let v1339 : Int := (o_wide_Left_0 F 0 v1325 33)
    let v1340 : Int := (o_wide_Left_1 F 0 v1325 33)
    bif (ok_wide_Add F v1323 v1324 v1339 v1340) then (
      some (.v (.agg #[.int .i64 ((o_wide_Add_0 F v1323 v1324 v1339 v1340)), .int .u64 ((o_wide_Add_1 F v1323 v1324 v1339 v1340))])))
    else (
      none))
  else (
    none) : R) := by
    intros
    kernel_rfl
  exact (h ok_wide_Left o_wide_Left_0 o_wide_Left_1 ok_wide_Add o_wide_Add_0 o_wide_Add_1).trans (by kernel_rfl)
def ok_root_Square (F : Nat) (a0 : Int) : Bool := okT to_root_Square (f_root_Square F a0)
def o_root_Square_0 (F : Nat) (a0 : Int) : Int := atI (nth (outT to_root_Square (f_root_Square F a0)) 0)
def o_root_Square_1 (F : Nat) (a0 : Int) : Int := atI (nth (outT to_root_Square (f_root_Square F a0)) 1)
theorem k_root_Square (F : Nat) (a0 : Int) {z0 : Int} {z1 : Int} (h : f_root_Square F a0 = some (.v (.agg #[.int .i64 z0, .int .u64 z1]))) : ok_root_Square F a0 = true ∧ o_root_Square_0 F a0 = z0 ∧ o_root_Square_1 F a0 = z1 := by
  refine ⟨?_, ?_, ?_⟩
  · unfold ok_root_Square; rw [h]; kernel_rfl
  · unfold o_root_Square_0; rw [h]; kernel_rfl
  · unfold o_root_Square_1; rw [h]; kernel_rfl
def s_root_Square (F : Nat) : List VV → Option (Bool × VV) := spec ti_root_Square to_root_Square (fun q => (ok_root_Square F (atI (nth q 0)))) (fun q => [.i (o_root_Square_0 F (atI (nth q 0))), .i (o_root_Square_1 F (atI (nth q 0)))])
theorem hS_root_Square (F : Nat) : ∀ f, Good PP f (unS (S_root_Square F f)) := words_good fun p hp => by
  simp only [List.mem_cons, List.not_mem_nil, or_false] at hp
  rcases hp with rfl | rfl
  · exact g_wide_Left F
  · exact g_wide_Add F
theorem hl_root_Square (F : Nat) : ∀ p ∈ loopsIn PP 72, LoopOK PP (S_root_Square F) c_root_Square F (I_root_Square F) (J_root_Square F) p :=
  loops_of [] (by kernel_rfl) all_nil
theorem hj_root_Square (F : Nat) : ∀ p ∈ joinsIn PP c_root_Square 72, JoinOK PP (S_root_Square F) c_root_Square (I_root_Square F) (J_root_Square F) p :=
  joins_of [] (by kernel_rfl) all_nil
theorem g_root_Square (F : Nat) : Good PP 72 (unS (s_root_Square F)) :=
  fun_spec (hS_root_Square F) (by kernel_rfl) (by kernel_rfl) (C := c_root_Square) (F := fun q => (f_root_Square F (atI (nth q 0)))) (fun _ => F) (fun _ => I_root_Square F) (fun _ => J_root_Square F) (fun _ => hl_root_Square F) (fun _ => hj_root_Square F)
    (fun q => (congrArg (funL PP (S_root_Square F) c_root_Square (I_root_Square F) (J_root_Square F) 72) (show (fTs ti_root_Square q).1 = (fTs ti_root_Square [.i (atI (nth q 0))]).1 by kernel_rfl)).trans (e_root_Square F (atI (nth q 0))))
    (fun _ h => (okT_fill h).trans (congrArg some (by kernel_rfl)))

end Go.Xv
set_option linter.unusedVariables false
namespace Go.Xv
/- 75 _root_Wide -/
def c_root_Wide : Cfg := ⟨[0, 1, 2, 3, 4, 5, 6, 7, 10, 11, 12, 29], [(0, [0, 1, 2, 3, 4, 8, 9, 10, 11, 34])], [], []⟩
def ti_root_Wide : List TV := [.v (.agg [.int .i64, .int .u64])]
def to_root_Wide : TV := .v (.tup [.int .u64, .bool])
def S_root_Wide (F : Nat) : FuncId → List VV → Option (Bool × VV) := words [(72, s_root_Square F), (112, s_wide_Less F)]
def T_root_Wide_0 : TS := ⟨[(0, .v (.agg [.int .i64, .int .u64])), (1, .lp 0 (.lit 0)), (2, .v (.int .u64)), (3, .v (.bool)), (4, .v (.int .u64)), (11, .v (.int .i64))], [(0, ⟨(.ex [.v (.int .i64), .v (.int .u64)]), true⟩)], 1⟩
def T_root_Wide_0_0 : TS := ⟨[(0, .v (.agg [.int .i64, .int .u64])), (1, .lp 0 (.lit 0)), (2, .v (.int .u64)), (3, .v (.bool)), (4, .v (.int .u64)), (11, .v (.int .i64))], [(0, ⟨(.ex [.v (.int .i64), .v (.int .u64)]), true⟩)], 1⟩
def B_root_Wide_0 (F : Nat) (rc : Int → Int → Int → Bool → Int → Int → Int → Int → R) (ex0 : Int → Int → Int → Bool → Int → Int → Int → Int → R) (x0 : Int) (x1 : Int) (x2 : Int) (x3 : Bool) (x4 : Int) (x5 : Int) (x6 : Int) (x7 : Int) : R :=
  bif ((decide (x5 < 64))) then (
    let v1399 : Int := (IntKind.wrap .i64 (63 - x5))
    bif (!(decide (v1399 < 0))) then (
      let v1400 : Int := (IntKind.wrap .u64 (1 * 2 ^ (min (Int.toNat v1399) 64)))
      let v1401 : Int := (orI .u64 x4 v1400)
      bif (ok_root_Square F v1401) then (
        let v1402 : Int := (o_root_Square_0 F v1401)
        let v1403 : Int := (o_root_Square_1 F v1401)
        bif ((decide (v1402 ≥ 0))) then (
          bif (ok_wide_Less F x6 x7 v1402 v1403) then (
            bif ((!((o_wide_Less_0 F x6 x7 v1402 v1403)))) then (
              rc x0 x1 x2 x3 ((orI .u64 x4 v1400)) ((IntKind.wrap .i64 (x5 + 1))) x6 x7)
            else (
              rc x0 x1 x2 x3 x4 ((IntKind.wrap .i64 (x5 + 1))) x6 x7))
          else (
            none))
        else (
          rc x0 x1 x2 x3 x4 ((IntKind.wrap .i64 (x5 + 1))) x6 x7))
      else (
        none))
    else (
      none))
  else (
    ex0 x0 x1 x2 x3 x4 x5 x6 x7)
def L_root_Wide_0 (F : Nat) (ex0 : Int → Int → Int → Bool → Int → Int → Int → Int → R) : Nat → Int → Int → Int → Bool → Int → Int → Int → Int → R
  | 0, _, _, _, _, _, _, _, _ => none
  | n + 1, x0, x1, x2, x3, x4, x5, x6, x7 => B_root_Wide_0 F (L_root_Wide_0 F ex0 n) ex0 x0 x1 x2 x3 x4 x5 x6 x7
def W_root_Wide (F : Nat) : List LW := [⟨0, T_root_Wide_0, fun k q => L_root_Wide_0 F (fun (z0 : Int) (z1 : Int) (z2 : Int) (z3 : Bool) (z4 : Int) (z5 : Int) (z6 : Int) (z7 : Int) => k (.exit 0) (fS T_root_Wide_0_0 [.i z0, .i z1, .i z2, .b z3, .i z4, .i z5, .i z6, .i z7])) F (atI (nth q 0)) (atI (nth q 1)) (atI (nth q 2)) (atB (nth q 3)) (atI (nth q 4)) (atI (nth q 5)) (atI (nth q 6)) (atI (nth q 7))⟩]
def I_root_Wide (F : Nat) : Nat → VS → (Exit → VS → R) → R := tabI c_root_Wide (W_root_Wide F)
def WJ_root_Wide (F : Nat) : List LJ := []
def J_root_Wide (F : Nat) : Nat → Nat → VS → (Exit → VS → R) → R := tabJ (WJ_root_Wide F)
theorem lL_root_Wide_0 (F : Nat) (k : Exit → VS → R) : ∀ (n : Nat) (x0 : Int) (x1 : Int) (x2 : Int) (x3 : Bool) (x4 : Int) (x5 : Int) (x6 : Int) (x7 : Int), iterC (codeL PP (S_root_Wide F) c_root_Wide (I_root_Wide F) (J_root_Wide F) (loopAt PP 75 0) 0) (headOf c_root_Wide 0) k n (fS T_root_Wide_0 [.i x0, .i x1, .i x2, .b x3, .i x4, .i x5, .i x6, .i x7]) = L_root_Wide_0 F (fun (z0 : Int) (z1 : Int) (z2 : Int) (z3 : Bool) (z4 : Int) (z5 : Int) (z6 : Int) (z7 : Int) => k (.exit 0) (fS T_root_Wide_0_0 [.i z0, .i z1, .i z2, .b z3, .i z4, .i z5, .i z6, .i z7])) n x0 x1 x2 x3 x4 x5 x6 x7
  | 0, _, _, _, _, _, _, _, _ => rfl
  | n + 1, x0, x1, x2, x3, x4, x5, x6, x7 => by
    have h0 : ∀ (ok_root_Square : Nat → Int → Bool) (o_root_Square_0 : Nat → Int → Int) (o_root_Square_1 : Nat → Int → Int) (ok_wide_Less : Nat → Int → Int → Int → Int → Bool) (o_wide_Less_0 : Nat → Int → Int → Int → Int → Bool) (L_root_Wide_0 : Nat → (Int → Int → Int → Bool → Int → Int → Int → Int → R) → Nat → Int → Int → Int → Bool → Int → Int → Int → Int → R), iterC (codeL PP (words [(72, spec ti_root_Square to_root_Square (fun q => (ok_root_Square F (atI (nth q 0)))) (fun q => [.i (o_root_Square_0 F (atI (nth q 0))), .i (o_root_Square_1 F (atI (nth q 0)))])), (112, spec ti_wide_Less to_wide_Less (fun q => (ok_wide_Less F (atI (nth q 0)) (atI (nth q 1)) (atI (nth q 2)) (atI (nth q 3)))) (fun q => [.b (o_wide_Less_0 F (atI (nth q 0)) (atI (nth q 1)) (atI (nth q 2)) (atI (nth q 3)))]))]) c_root_Wide (tabI c_root_Wide [⟨0, T_root_Wide_0, fun k q => L_root_Wide_0 F (fun (z0 : Int) (z1 : Int) (z2 : Int) (z3 : Bool) (z4 : Int) (z5 : Int) (z6 : Int) (z7 : Int) => k (.exit 0) (fS T_root_Wide_0_0 [.i z0, .i z1, .i z2, .b z3, .i z4, .i z5, .i z6, .i z7])) F (atI (nth q 0)) (atI (nth q 1)) (atI (nth q 2)) (atB (nth q 3)) (atI (nth q 4)) (atI (nth q 5)) (atI (nth q 6)) (atI (nth q 7))⟩]) (tabJ []) (loopAt PP 75 0) 0) (headOf c_root_Wide 0) k (n + 1) (fS T_root_Wide_0 [.i x0, .i x1, .i x2, .b x3, .i x4, .i x5, .i x6, .i x7]) = (fun (rc : Int → Int → Int → Bool → Int → Int → Int → Int → R) (ex0 : Int → Int → Int → Bool → Int → Int → Int → Int → R) (x0 : Int) (x1 : Int) (x2 : Int) (x3 : Bool) (x4 : Int) (x5 : Int) (x6 : Int) (x7 : Int) => (
  bif ((decide (x5 < 64))) then (
    let v1399 : Int := (IntKind.wrap .i64 (63 - x5))
    bif (!(decide (v1399 < 0))) then (
      let v1400 : Int := (IntKind.wrap .u64 (1 * 2 ^ (min (Int.toNat v1399) 64)))
      let v1401 : Int := (orI .u64 x4 v1400)
      bif (ok_root_Square F v1401) then (
        let v1402 : Int := (o_root_Square_0 F v1401)
        let v1403 : Int := (o_root_Square_1 F v1401)
        bif ((decide (v1402 ≥ 0))) then (
          bif (ok_wide_Less F x6 x7 v1402 v1403) then (
            bif ((!((o_wide_Less_0 F x6 x7 v1402 v1403)))) then (
              rc x0 x1 x2 x3 ((orI .u64 x4 v1400)) ((IntKind.wrap .i64 (x5 + 1))) x6 x7)
            else (
              rc x0 x1 x2 x3 x4 ((IntKind.wrap .i64 (x5 + 1))) x6 x7))
          else (
            none))
        else (
          rc x0 x1 x2 x3 x4 ((IntKind.wrap .i64 (x5 + 1))) x6 x7))
      else (
        none))
    else (
      none))
  else (
    ex0 x0 x1 x2 x3 x4 x5 x6 x7) : R)) (fun (y0 : Int) (y1 : Int) (y2 : Int) (y3 : Bool) (y4 : Int) (y5 : Int) (y6 : Int) (y7 : Int) => iterC (codeL PP (words [(72, spec ti_root_Square to_root_Square (fun q => (ok_root_Square F (atI (nth q 0)))) (fun q => [.i (o_root_Square_0 F (atI (nth q 0))), .i (o_root_Square_1 F (atI (nth q 0)))])), (112, spec ti_wide_Less to_wide_Less (fun q => (ok_wide_Less F (atI (nth q 0)) (atI (nth q 1)) (atI (nth q 2)) (atI (nth q 3)))) (fun q => [.b (o_wide_Less_0 F (atI (nth q 0)) (atI (nth q 1)) (atI (nth q 2)) (atI (nth q 3)))]))]) c_root_Wide (tabI c_root_Wide [⟨0, T_root_Wide_0, fun k q => L_root_Wide_0 F (fun (z0 : Int) (z1 : Int) (z2 : Int) (z3 : Bool) (z4 : Int) (z5 : Int) (z6 : Int) (z7 : Int) => k (.exit 0) (fS T_root_Wide_0_0 [.i z0, .i z1, .i z2, .b z3, .i z4, .i z5, .i z6, .i z7])) F (atI (nth q 0)) (atI (nth q 1)) (atI (nth q 2)) (atB (nth q 3)) (atI (nth q 4)) (atI (nth q 5)) (atI (nth q 6)) (atI (nth q 7))⟩]) (tabJ []) (loopAt PP 75 0) 0) (headOf c_root_Wide 0) k n (fS T_root_Wide_0 [.i y0, .i y1, .i y2, .b y3, .i y4, .i y5, .i y6, .i y7])) (fun (z0 : Int) (z1 : Int) (z2 : Int) (z3 : Bool) (z4 : Int) (z5 : Int) (z6 : Int) (z7 : Int) => k (.exit 0) (fS T_root_Wide_0_0 [.i z0, .i z1, .i z2, .b z3, .i z4, .i z5, .i z6, .i z7])) x0 x1 x2 x3 x4 x5 x6 x7 := by
      intros
      kernel_rfl
    have h : iterC (codeL PP (S_root_Wide F) c_root_Wide (I_root_Wide F) (J_root_Wide F) (loopAt PP 75 0) 0) (headOf c_root_Wide 0) k (n + 1) (fS T_root_Wide_0 [.i x0, .i x1, .i x2, .b x3, .i x4, .i x5, .i x6, .i x7]) = B_root_Wide_0 F (fun (y0 : Int) (y1 : Int) (y2 : Int) (y3 : Bool) (y4 : Int) (y5 : Int) (y6 : Int) (y7 : Int) => iterC (codeL PP (S_root_Wide F) c_root_Wide (I_root_Wide F) (J_root_Wide F) (loopAt PP 75 0) 0) (headOf c_root_Wide 0) k n (fS T_root_Wide_0 [.i y0, .i y1, .i y2, .b y3, .i y4, .i y5, .i y6, .i y7])) (fun (z0 : Int) (z1 : Int) (z2 : Int) (z3 : Bool) (z4 : Int) (z5 : Int) (z6 : Int) (z7 : Int) => k (.exit 0) (fS T_root_Wide_0_0 [.i z0, .i z1, .i z2, .b z3, .i z4, .i z5, .i z6, .i z7])) x0 x1 x2 x3 x4 x5 x6 x7 := (h0 ok_root_Square o_root_Square_0 o_root_Square_1 ok_wide_Less o_wide_Less_0 L_root_Wide_0).trans (by kernel_rfl)
    rw [h]
    simp only [lL_root_Wide_0 F k n]
    rfl
def f_root_Wide (F : Nat) (a0 : Int) (a1 : Int) : R :=
  bif ((decide (a0 < 0))) then (
    some (.v (.tuple #[.int .u64 0, .bool false])))
  else (
    L_root_Wide_0 F (fun (v1414 : Int) (v1415 : Int) (v1416 : Int) (v1417 : Bool) (v1418 : Int) (v1419 : Int) (v1420 : Int) (v1421 : Int) =>
      some (.v (.tuple #[.int .u64 v1418, .bool true]))) F a0 a1 0 false 0 0 a0 a1)
theorem e_root_Wide (F : Nat) (a0 : Int) (a1 : Int) : funL PP (S_root_Wide F) c_root_Wide (I_root_Wide F) (J_root_Wide F) 75 (fTs ti_root_Wide [.i a0, .i a1]).1 = f_root_Wide F a0 a1 := by
  have h : ∀ (ok_root_Square : Nat → Int → Bool) (o_root_Square_0 : Nat → Int → Int) (o_root_Square_1 : Nat → Int → Int) (ok_wide_Less : Nat → Int → Int → Int → Int → Bool) (o_wide_Less_0 : Nat → Int → Int → Int → Int → Bool) (L_root_Wide_0 : Nat → (Int → Int → Int → Bool → Int → Int → Int → Int → R) → Nat → Int → Int → Int → Bool → Int → Int → Int → Int → R), funL PP (words [(72, spec ti_root_Square to_root_Square (fun q => (ok_root_Square F (atI (nth q 0)))) (fun q => [.i (o_root_Square_0 F (atI (nth q 0))), .i (o_root_Square_1 F (atI (nth q 0)))])), (112, spec ti_wide_Less to_wide_Less (fun q => (ok_wide_Less F (atI (nth q 0)) (atI (nth q 1)) (atI (nth q 2)) (atI (nth q 3)))) (fun q => [.b (o_wide_Less_0 F (atI (nth q 0)) (atI (nth q 1)) (atI (nth q 2)) (atI (nth q 3)))]))]) c_root_Wide (tabI c_root_Wide [⟨0, T_root_Wide_0, fun k q => L_root_Wide_0 F (fun (z0 : Int) (z1 : Int) (z2 : Int) (z3 : Bool) (z4 : Int) (z5 : Int) (z6 : Int) (z7 : Int) => k (.exit 0) (fS T_root_Wide_0_0 [.i z0, .i z1, .i z2, .b z3, .i z4, .i z5, .i z6, .i z7])) F (atI (nth q 0)) (atI (nth q 1)) (atI (nth q 2)) (atB (nth q 3)) (atI (nth q 4)) (atI (nth q 5)) (atI (nth q 6)) (atI (nth q 7))⟩]) (tabJ []) 75 (fTs ti_root_Wide [.i a0, .i a1]).1 = (
  bif ((decide (a0 < 0))) then (
    some (.v (.tuple #[.int .u64 0, .bool false])))
  else (
    L_root_Wide_0 F (fun (v1414 : Int) (v1415 : Int) (v1416 : Int) (v1417 : Bool) (v1418 : Int) (v1419 : Int) (v1420 : Int) (v1421 : Int) =>
      some (.v (.tuple #[.int .u64 v1418, .bool true]))) F a0 a1 0 false 0 0 a0 a1) : R) := by
    intros
    kernel_rfl
  exact (h ok_root_Square o_root_Square_0 o_root_Square_1 ok_wide_Less o_wide_Less_0 L_root_Wide_0).trans (by kernel_rfl)
def ok_root_Wide (F : Nat) (a0 : Int) (a1 : Int) : Bool := okT to_root_Wide (f_root_Wide F a0 a1)
def o_root_Wide_0 (F : Nat) (a0 : Int) (a1 : Int) : Int := atI (nth (outT to_root_Wide (f_root_Wide F a0 a1)) 0)
def o_root_Wide_1 (F : Nat) (a0 : Int) (a1 : Int) : Bool := atB (nth (outT to_root_Wide (f_root_Wide F a0 a1)) 1)
theorem k_root_Wide (F : Nat) (a0 : Int) (a1 : Int) {z0 : Int} {z1 : Bool} (h : f_root_Wide F a0 a1 = some (.v (.tuple #[.int .u64 z0, .bool z1]))) : ok_root_Wide F a0 a1 = true ∧ o_root_Wide_0 F a0 a1 = z0 ∧ o_root_Wide_1 F a0 a1 = z1 := by
  refine ⟨?_, ?_, ?_⟩
  · unfold ok_root_Wide; rw [h]; kernel_rfl
  · unfold o_root_Wide_0; rw [h]; kernel_rfl
  · unfold o_root_Wide_1; rw [h]; kernel_rfl
def s_root_Wide (F : Nat) : List VV → Option (Bool × VV) := spec ti_root_Wide to_root_Wide (fun q => (ok_root_Wide F (atI (nth q 0)) (atI (nth q 1)))) (fun q => [.i (o_root_Wide_0 F (atI (nth q 0)) (atI (nth q 1))), .b (o_root_Wide_1 F (atI (nth q 0)) (atI (nth q 1)))])
theorem hS_root_Wide (F : Nat) : ∀ f, Good PP f (unS (S_root_Wide F f)) := words_good fun p hp => by
  simp only [List.mem_cons, List.not_mem_nil, or_false] at hp
  rcases hp with rfl | rfl
  · exact g_root_Square F
  · exact g_wide_Less F
theorem hl_root_Wide (F : Nat) : ∀ p ∈ loopsIn PP 75, LoopOK PP (S_root_Wide F) c_root_Wide F (I_root_Wide F) (J_root_Wide F) p :=
  loops_of [(0, loopAt PP 75 0)] (by kernel_rfl) (all_cons
    (loop_ok (W_root_Wide F) rfl (tab_cons (fun _ k q => Le.ofEq ((lL_root_Wide_0 F k F (atI (nth q 0)) (atI (nth q 1)) (atI (nth q 2)) (atB (nth q 3)) (atI (nth q 4)) (atI (nth q 5)) (atI (nth q 6)) (atI (nth q 7))).symm.trans (congrArg (iterC (codeL PP (S_root_Wide F) c_root_Wide (I_root_Wide F) (J_root_Wide F) (loopAt PP 75 0) 0) (headOf c_root_Wide 0) k F) (show fS T_root_Wide_0 [.i (atI (nth q 0)), .i (atI (nth q 1)), .i (atI (nth q 2)), .b (atB (nth q 3)), .i (atI (nth q 4)), .i (atI (nth q 5)), .i (atI (nth q 6)), .i (atI (nth q 7))] = fS T_root_Wide_0 q by kernel_rfl)))) tab_nil)) all_nil)
theorem hj_root_Wide (F : Nat) : ∀ p ∈ joinsIn PP c_root_Wide 75, JoinOK PP (S_root_Wide F) c_root_Wide (I_root_Wide F) (J_root_Wide F) p :=
  joins_of [] (by kernel_rfl) all_nil
theorem g_root_Wide (F : Nat) : Good PP 75 (unS (s_root_Wide F)) :=
  fun_spec (hS_root_Wide F) (by kernel_rfl) (by kernel_rfl) (C := c_root_Wide) (F := fun q => (f_root_Wide F (atI (nth q 0)) (atI (nth q 1)))) (fun _ => F) (fun _ => I_root_Wide F) (fun _ => J_root_Wide F) (fun _ => hl_root_Wide F) (fun _ => hj_root_Wide F)
    (fun q => (congrArg (funL PP (S_root_Wide F) c_root_Wide (I_root_Wide F) (J_root_Wide F) 75) (show (fTs ti_root_Wide q).1 = (fTs ti_root_Wide [.i (atI (nth q 0)), .i (atI (nth q 1))]).1 by kernel_rfl)).trans (e_root_Wide F (atI (nth q 0)) (atI (nth q 1))))
    (fun _ h => (okT_fill h).trans (congrArg some (by kernel_rfl)))

end Go.Xv
