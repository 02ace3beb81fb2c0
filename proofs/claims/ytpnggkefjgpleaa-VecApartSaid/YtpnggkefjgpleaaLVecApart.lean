/- The cross product of a vector with itself is nought, it changes its sign with the order, and the dot product hangs on no order: the law returns true for every input, and leaves its arguments as they were. -/
import Derived.Test.YtpnggkefjgpleaaB2
import Derived.Test.YtpnggkefjgpleaaProg
import Derived.KernelRfl
namespace Go.Xv
noncomputable abbrev PP := Proofs.Try.prog
end Go.Xv
set_option linter.unusedVariables false
namespace Go.Xv
/- 71 _wide_Add -/
def c_wide_Add : Cfg := ⟨[0, 1, 2, 3, 4, 5, 6, 22], [], [], []⟩
def ti_wide_Add : List TV := [.v (.agg [.int .i64, .int .u64]), .v (.agg [.int .i64, .int .u64])]
def to_wide_Add : TV := .v (.agg [.int .i64, .int .u64])
def S_wide_Add (F : Nat) : FuncId → List VV → Option (Bool × VV) := words []
def W_wide_Add (F : Nat) : List LW := []
def I_wide_Add (F : Nat) : Nat → VS → (Exit → VS → R) → R := tabI c_wide_Add (W_wide_Add F)
def WJ_wide_Add (F : Nat) : List LJ := []
def J_wide_Add (F : Nat) : Nat → Nat → VS → (Exit → VS → R) → R := tabJ (WJ_wide_Add F)
def f_wide_Add (F : Nat) (a0 : Int) (a1 : Int) (a2 : Int) (a3 : Int) : R :=
  let v1341 : Int := (IntKind.wrap .u64 (a1 + a3))
  let v1344 : Int := (IntKind.wrap .u64 (((IntKind.wrap .u64 a0)) + ((IntKind.wrap .u64 a2))))
  bif ((decide (v1341 < a1))) then (
    some (.v (.agg #[.int .i64 ((IntKind.wrap .i64 ((IntKind.wrap .u64 (v1344 + 1))))), .int .u64 v1341])))
  else (
    some (.v (.agg #[.int .i64 ((IntKind.wrap .i64 v1344)), .int .u64 v1341])))
theorem e_wide_Add (F : Nat) (a0 : Int) (a1 : Int) (a2 : Int) (a3 : Int) : funL PP (S_wide_Add F) c_wide_Add (I_wide_Add F) (J_wide_Add F) 71 (fTs ti_wide_Add [.i a0, .i a1, .i a2, .i a3]).1 = f_wide_Add F a0 a1 a2 a3 := by
  have h : ∀ (_ : Unit), funL PP (words []) c_wide_Add (tabI c_wide_Add []) (tabJ []) 71 (fTs ti_wide_Add [.i a0, .i a1, .i a2, .i a3]).1 = (
  let v1341 : Int := (IntKind.wrap .u64 (a1 + a3))
  let v1344 : Int := (IntKind.wrap .u64 (((IntKind.wrap .u64 a0)) + ((IntKind.wrap .u64 a2))))
  bif ((decide (v1341 < a1))) then (
    some (.v (.agg #[.int .i64 ((IntKind.wrap .i64 ((IntKind.wrap .u64 (v1344 + 1))))), .int .u64 v1341])))
  else (
    some (.v (.agg #[.int .i64 ((IntKind.wrap .i64 v1344)), .int .u64 v1341]))) : R) := by
    intros
    kernel_rfl
  exact (h ()).trans (by kernel_rfl)
def ok_wide_Add (F : Nat) (a0 : Int) (a1 : Int) (a2 : Int) (a3 : Int) : Bool := okT to_wide_Add (f_wide_Add F a0 a1 a2 a3)
def o_wide_Add_0 (F : Nat) (a0 : Int) (a1 : Int) (a2 : Int) (a3 : Int) : Int := atI (nth (outT to_wide_Add (f_wide_Add F a0 a1 a2 a3)) 0)
def o_wide_Add_1 (F : Nat) (a0 : Int) (a1 : Int) (a2 : Int) (a3 : Int) : Int := atI (nth (outT to_wide_Add (f_wide_Add F a0 a1 a2 a3)) 1)
theorem k_wide_Add (F : Nat) (a0 : Int) (a1 : Int) (a2 : Int) (a3 : Int) {z0 : Int} {z1 : Int} (h : f_wide_Add F a0 a1 a2 a3 = some (.v (.agg #[.int .i64 z0, .int .u64 z1]))) : ok_wide_Add F a0 a1 a2 a3 = true ∧ o_wide_Add_0 F a0 a1 a2 a3 = z0 ∧ o_wide_Add_1 F a0 a1 a2 a3 = z1 := by
  refine ⟨?_, ?_, ?_⟩
  · unfold ok_wide_Add; rw [h]; kernel_rfl
  · unfold o_wide_Add_0; rw [h]; kernel_rfl
  · unfold o_wide_Add_1; rw [h]; kernel_rfl
def s_wide_Add (F : Nat) : List VV → Option (Bool × VV) := spec ti_wide_Add to_wide_Add (fun q => (ok_wide_Add F (atI (nth q 0)) (atI (nth q 1)) (atI (nth q 2)) (atI (nth q 3)))) (fun q => [.i (o_wide_Add_0 F (atI (nth q 0)) (atI (nth q 1)) (atI (nth q 2)) (atI (nth q 3))), .i (o_wide_Add_1 F (atI (nth q 0)) (atI (nth q 1)) (atI (nth q 2)) (atI (nth q 3)))])
theorem hS_wide_Add (F : Nat) : ∀ f, Good PP f (unS (S_wide_Add F f)) := words_good fun p hp => by
  cases hp
theorem hl_wide_Add (F : Nat) : ∀ p ∈ loopsIn PP 71, LoopOK PP (S_wide_Add F) c_wide_Add F (I_wide_Add F) (J_wide_Add F) p :=
  loops_of [] (by kernel_rfl) all_nil
theorem hj_wide_Add (F : Nat) : ∀ p ∈ joinsIn PP c_wide_Add 71, JoinOK PP (S_wide_Add F) c_wide_Add (I_wide_Add F) (J_wide_Add F) p :=
  joins_of [] (by kernel_rfl) all_nil
theorem g_wide_Add (F : Nat) : Good PP 71 (unS (s_wide_Add F)) :=
  fun_spec (hS_wide_Add F) (by kernel_rfl) (by kernel_rfl) (C := c_wide_Add) (F := fun q => (f_wide_Add F (atI (nth q 0)) (atI (nth q 1)) (atI (nth q 2)) (atI (nth q 3)))) (fun _ => F) (fun _ => I_wide_Add F) (fun _ => J_wide_Add F) (fun _ => hl_wide_Add F) (fun _ => hj_wide_Add F)
    (fun q => (congrArg (funL PP (S_wide_Add F) c_wide_Add (I_wide_Add F) (J_wide_Add F) 71) (show (fTs ti_wide_Add q).1 = (fTs ti_wide_Add [.i (atI (nth q 0)), .i (atI (nth q 1)), .i (atI (nth q 2)), .i (atI (nth q 3))]).1 by kernel_rfl)).trans (e_wide_Add F (atI (nth q 0)) (atI (nth q 1)) (atI (nth q 2)) (atI (nth q 3))))
    (fun _ h => (okT_fill h).trans (congrArg some (by kernel_rfl)))

end Go.Xv
set_option linter.unusedVariables false
namespace Go.Xv
/- 131 _wide_bare -/
def c_wide_bare : Cfg := ⟨[0, 2, 4], [], [], []⟩
def ti_wide_bare : List TV := [.v (.int .i64)]
def to_wide_bare : TV := .v (.int .u64)
def S_wide_bare (F : Nat) : FuncId → List VV → Option (Bool × VV) := words []
def W_wide_bare (F : Nat) : List LW := []
def I_wide_bare (F : Nat) : Nat → VS → (Exit → VS → R) → R := tabI c_wide_bare (W_wide_bare F)
def WJ_wide_bare (F : Nat) : List LJ := []
def J_wide_bare (F : Nat) : Nat → Nat → VS → (Exit → VS → R) → R := tabJ (WJ_wide_bare F)
def f_wide_bare (F : Nat) (a0 : Int) : R :=
  bif ((decide (a0 < 0))) then (
    some (.v (.int .u64 ((IntKind.wrap .u64 (0 - ((IntKind.wrap .u64 a0))))))))
  else (
    some (.v (.int .u64 ((IntKind.wrap .u64 a0)))))
theorem e_wide_bare (F : Nat) (a0 : Int) : funL PP (S_wide_bare F) c_wide_bare (I_wide_bare F) (J_wide_bare F) 131 (fTs ti_wide_bare [.i a0]).1 = f_wide_bare F a0 := by
  have h : ∀ (_ : Unit), funL PP (words []) c_wide_bare (tabI c_wide_bare []) (tabJ []) 131 (fTs ti_wide_bare [.i a0]).1 = (
  bif ((decide (a0 < 0))) then (
    some (.v (.int .u64 ((IntKind.wrap .u64 (0 - ((IntKind.wrap .u64 a0))))))))
  else (
    some (.v (.int .u64 ((IntKind.wrap .u64 a0))))) : R) := by
    intros
    kernel_rfl
  exact (h ()).trans (by kernel_rfl)
def ok_wide_bare (F : Nat) (a0 : Int) : Bool := okT to_wide_bare (f_wide_bare F a0)
def o_wide_bare_0 (F : Nat) (a0 : Int) : Int := atI (nth (outT to_wide_bare (f_wide_bare F a0)) 0)
theorem k_wide_bare (F : Nat) (a0 : Int) {z0 : Int} (h : f_wide_bare F a0 = some (.v (.int .u64 z0))) : ok_wide_bare F a0 = true ∧ o_wide_bare_0 F a0 = z0 := by
  refine ⟨?_, ?_⟩
  · unfold ok_wide_bare; rw [h]; kernel_rfl
  · unfold o_wide_bare_0; rw [h]; kernel_rfl
def s_wide_bare (F : Nat) : List VV → Option (Bool × VV) := spec ti_wide_bare to_wide_bare (fun q => (ok_wide_bare F (atI (nth q 0)))) (fun q => [.i (o_wide_bare_0 F (atI (nth q 0)))])
theorem hS_wide_bare (F : Nat) : ∀ f, Good PP f (unS (S_wide_bare F f)) := words_good fun p hp => by
  cases hp
theorem hl_wide_bare (F : Nat) : ∀ p ∈ loopsIn PP 131, LoopOK PP (S_wide_bare F) c_wide_bare F (I_wide_bare F) (J_wide_bare F) p :=
  loops_of [] (by kernel_rfl) all_nil
theorem hj_wide_bare (F : Nat) : ∀ p ∈ joinsIn PP c_wide_bare 131, JoinOK PP (S_wide_bare F) c_wide_bare (I_wide_bare F) (J_wide_bare F) p :=
  joins_of [] (by kernel_rfl) all_nil
theorem g_wide_bare (F : Nat) : Good PP 131 (unS (s_wide_bare F)) :=
  fun_spec (hS_wide_bare F) (by kernel_rfl) (by kernel_rfl) (C := c_wide_bare) (F := fun q => (f_wide_bare F (atI (nth q 0)))) (fun _ => F) (fun _ => I_wide_bare F) (fun _ => J_wide_bare F) (fun _ => hl_wide_bare F) (fun _ => hj_wide_bare F)
    (fun q => (congrArg (funL PP (S_wide_bare F) c_wide_bare (I_wide_bare F) (J_wide_bare F) 131) (show (fTs ti_wide_bare q).1 = (fTs ti_wide_bare [.i (atI (nth q 0))]).1 by kernel_rfl)).trans (e_wide_bare F (atI (nth q 0))))
    (fun _ h => (okT_fill h).trans (congrArg some (by kernel_rfl)))

end Go.Xv
set_option linter.unusedVariables false
namespace Go.Xv
/- 130 _wide_product -/
def c_wide_product : Cfg := ⟨[0, 1, 4, 5, 6, 7, 8, 9, 10], [], [], []⟩
def ti_wide_product : List TV := [.v (.int .u64), .v (.int .u64)]
def to_wide_product : TV := .v (.agg [.int .i64, .int .u64])
def S_wide_product (F : Nat) : FuncId → List VV → Option (Bool × VV) := words []
def W_wide_product (F : Nat) : List LW := []
def I_wide_product (F : Nat) : Nat → VS → (Exit → VS → R) → R := tabI c_wide_product (W_wide_product F)
def WJ_wide_product (F : Nat) : List LJ := []
def J_wide_product (F : Nat) : Nat → Nat → VS → (Exit → VS → R) → R := tabJ (WJ_wide_product F)
def f_wide_product (F : Nat) (a0 : Int) (a1 : Int) : R :=
  let v1635 : Int := (Int.fdiv a0 (4294967296))
  let v1636 : Int := (andI .u64 a0 4294967295)
  let v1637 : Int := (Int.fdiv a1 (4294967296))
  let v1638 : Int := (andI .u64 a1 4294967295)
  let v1642 : Int := (IntKind.wrap .u64 (((IntKind.wrap .u64 (v1635 * v1638))) + ((Int.fdiv ((IntKind.wrap .u64 (v1636 * v1638))) (4294967296)))))
  let v1645 : Int := (IntKind.wrap .u64 (((andI .u64 v1642 4294967295)) + ((IntKind.wrap .u64 (v1636 * v1637)))))
  some (.v (.agg #[.int .i64 ((IntKind.wrap .i64 ((IntKind.wrap .u64 (((IntKind.wrap .u64 (((IntKind.wrap .u64 (v1635 * v1637))) + ((Int.fdiv v1642 (4294967296)))))) + ((Int.fdiv v1645 (4294967296)))))))), .int .u64 ((orI .u64 ((IntKind.wrap .u64 (v1645 * 4294967296))) ((andI .u64 ((IntKind.wrap .u64 (v1636 * v1638))) 4294967295))))]))
theorem e_wide_product (F : Nat) (a0 : Int) (a1 : Int) : funL PP (S_wide_product F) c_wide_product (I_wide_product F) (J_wide_product F) 130 (fTs ti_wide_product [.i a0, .i a1]).1 = f_wide_product F a0 a1 := by
  have h : ∀ (_ : Unit), funL PP (words []) c_wide_product (tabI c_wide_product []) (tabJ []) 130 (fTs ti_wide_product [.i a0, .i a1]).1 = (
  let v1635 : Int := (Int.fdiv a0 (4294967296))
  let v1636 : Int := (andI .u64 a0 4294967295)
  let v1637 : Int := (Int.fdiv a1 (4294967296))
  let v1638 : Int := (andI .u64 a1 4294967295)
  let v1642 : Int := (IntKind.wrap .u64 (((IntKind.wrap .u64 (v1635 * v1638))) + ((Int.fdiv ((IntKind.wrap .u64 (v1636 * v1638))) (4294967296)))))
  let v1645 : Int := (IntKind.wrap .u64 (((andI .u64 v1642 4294967295)) + ((IntKind.wrap .u64 (v1636 * v1637)))))
  some (.v (.agg #[.int .i64 ((IntKind.wrap .i64 ((IntKind.wrap .u64 (((IntKind.wrap .u64 (((IntKind.wrap .u64 (v1635 * v1637))) + ((Int.fdiv v1642 (4294967296)))))) + ((Int.fdiv v1645 (4294967296)))))))), .int .u64 ((orI .u64 ((IntKind.wrap .u64 (v1645 * 4294967296))) ((andI .u64 ((IntKind.wrap .u64 (v1636 * v1638))) 4294967295))))])) : R) := by
    intros
    kernel_rfl
  exact (h ()).trans (by kernel_rfl)
def ok_wide_product (F : Nat) (a0 : Int) (a1 : Int) : Bool := okT to_wide_product (f_wide_product F a0 a1)
def o_wide_product_0 (F : Nat) (a0 : Int) (a1 : Int) : Int := atI (nth (outT to_wide_product (f_wide_product F a0 a1)) 0)
def o_wide_product_1 (F : Nat) (a0 : Int) (a1 : Int) : Int := atI (nth (outT to_wide_product (f_wide_product F a0 a1)) 1)
theorem k_wide_product (F : Nat) (a0 : Int) (a1 : Int) {z0 : Int} {z1 : Int} (h : f_wide_product F a0 a1 = some (.v (.agg #[.int .i64 z0, .int .u64 z1]))) : ok_wide_product F a0 a1 = true ∧ o_wide_product_0 F a0 a1 = z0 ∧ o_wide_product_1 F a0 a1 = z1 := by
  refine ⟨?_, ?_, ?_⟩
  · unfold ok_wide_product; rw [h]; kernel_rfl
  · unfold o_wide_product_0; rw [h]; kernel_rfl
  · unfold o_wide_product_1; rw [h]; kernel_rfl
def s_wide_product (F : Nat) : List VV → Option (Bool × VV) := spec ti_wide_product to_wide_product (fun q => (ok_wide_product F (atI (nth q 0)) (atI (nth q 1)))) (fun q => [.i (o_wide_product_0 F (atI (nth q 0)) (atI (nth q 1))), .i (o_wide_product_1 F (atI (nth q 0)) (atI (nth q 1)))])
theorem hS_wide_product (F : Nat) : ∀ f, Good PP f (unS (S_wide_product F f)) := words_good fun p hp => by
  cases hp
theorem hl_wide_product (F : Nat) : ∀ p ∈ loopsIn PP 130, LoopOK PP (S_wide_product F) c_wide_product F (I_wide_product F) (J_wide_product F) p :=
  loops_of [] (by kernel_rfl) all_nil
theorem hj_wide_product (F : Nat) : ∀ p ∈ joinsIn PP c_wide_product 130, JoinOK PP (S_wide_product F) c_wide_product (I_wide_product F) (J_wide_product F) p :=
  joins_of [] (by kernel_rfl) all_nil
theorem g_wide_product (F : Nat) : Good PP 130 (unS (s_wide_product F)) :=
  fun_spec (hS_wide_product F) (by kernel_rfl) (by kernel_rfl) (C := c_wide_product) (F := fun q => (f_wide_product F (atI (nth q 0)) (atI (nth q 1)))) (fun _ => F) (fun _ => I_wide_product F) (fun _ => J_wide_product F) (fun _ => hl_wide_product F) (fun _ => hj_wide_product F)
    (fun q => (congrArg (funL PP (S_wide_product F) c_wide_product (I_wide_product F) (J_wide_product F) 130) (show (fTs ti_wide_product q).1 = (fTs ti_wide_product [.i (atI (nth q 0)), .i (atI (nth q 1))]).1 by kernel_rfl)).trans (e_wide_product F (atI (nth q 0)) (atI (nth q 1))))
    (fun _ h => (okT_fill h).trans (congrArg some (by kernel_rfl)))

end Go.Xv
set_option linter.unusedVariables false
namespace Go.Xv
/- 98 _wide_Neg -/
def c_wide_Neg : Cfg := ⟨[0, 1, 2], [], [], []⟩
def ti_wide_Neg : List TV := [.v (.agg [.int .i64, .int .u64])]
def to_wide_Neg : TV := .v (.agg [.int .i64, .int .u64])
def S_wide_Neg (F : Nat) : FuncId → List VV → Option (Bool × VV) := words [(71, s_wide_Add F)]
def W_wide_Neg (F : Nat) : List LW := []
def I_wide_Neg (F : Nat) : Nat → VS → (Exit → VS → R) → R := tabI c_wide_Neg (W_wide_Neg F)
def WJ_wide_Neg (F : Nat) : List LJ := []
def J_wide_Neg (F : Nat) : Nat → Nat → VS → (Exit → VS → R) → R := tabJ (WJ_wide_Neg F)
def f_wide_Neg (F : Nat) (a0 : Int) (a1 : Int) : R :=
  let v1661 : Int := (xorI .i64 (-1) a0)
  let v1662 : Int := (xorI .u64 18446744073709551615 a1)
  bif (ok_wide_Add F v1661 v1662 0 1) then (
    some (.v (.agg #[.int .i64 ((o_wide_Add_0 F v1661 v1662 0 1)), .int .u64 ((o_wide_Add_1 F v1661 v1662 0 1))])))
  else (
    none)
theorem e_wide_Neg (F : Nat) (a0 : Int) (a1 : Int) : funL PP (S_wide_Neg F) c_wide_Neg (I_wide_Neg F) (J_wide_Neg F) 98 (fTs ti_wide_Neg [.i a0, .i a1]).1 = f_wide_Neg F a0 a1 := by
  have h : ∀ (ok_wide_Add : Nat → Int → Int → Int → Int → Bool) (o_wide_Add_0 : Nat → Int → Int → Int → Int → Int) (o_wide_Add_1 : Nat → Int → Int → Int → Int → Int), funL PP (words [(71, spec ti_wide_Add to_wide_Add (fun q => (ok_wide_Add F (atI (nth q 0)) (atI (nth q 1)) (atI (nth q 2)) (atI (nth q 3)))) (fun q => [.i (o_wide_Add_0 F (atI (nth q 0)) (atI (nth q 1)) (atI (nth q 2)) (atI (nth q 3))), .i (o_wide_Add_1 F (atI (nth q 0)) (atI (nth q 1)) (atI (nth q 2)) (atI (nth q 3)))]))]) c_wide_Neg (tabI c_wide_Neg []) (tabJ []) 98 (fTs ti_wide_Neg [.i a0, .i a1]).1 = (
  let v1661 : Int := (xorI .i64 (-1) a0)
  let v1662 : Int := (xorI .u64 18446744073709551615 a1)
  bif (ok_wide_Add F v1661 v1662 0 1) then (
    some (.v (.agg #[.int .i64 ((o_wide_Add_0 F v1661 v1662 0 1)), .int .u64 ((o_wide_Add_1 F v1661 v1662 0 1))])))
  else (
    none) : R) := by
    intros
    kernel_rfl
  exact (h ok_wide_Add o_wide_Add_0 o_wide_Add_1).trans (by kernel_rfl)
def ok_wide_Neg (F : Nat) (a0 : Int) (a1 : Int) : Bool := okT to_wide_Neg (f_wide_Neg F a0 a1)
def o_wide_Neg_0 (F : Nat) (a0 : Int) (a1 : Int) : Int := atI (nth (outT to_wide_Neg (f_wide_Neg F a0 a1)) 0)
def o_wide_Neg_1 (F : Nat) (a0 : Int) (a1 : Int) : Int := atI (nth (outT to_wide_Neg (f_wide_Neg F a0 a1)) 1)
theorem k_wide_Neg (F : Nat) (a0 : Int) (a1 : Int) {z0 : Int} {z1 : Int} (h : f_wide_Neg F a0 a1 = some (.v (.agg #[.int .i64 z0, .int .u64 z1]))) : ok_wide_Neg F a0 a1 = true ∧ o_wide_Neg_0 F a0 a1 = z0 ∧ o_wide_Neg_1 F a0 a1 = z1 := by
  refine ⟨?_, ?_, ?_⟩
  · unfold ok_wide_Neg; rw [h]; kernel_rfl
  · unfold o_wide_Neg_0; rw [h]; kernel_rfl
  · unfold o_wide_Neg_1; rw [h]; kernel_rfl
def s_wide_Neg (F : Nat) : List VV → Option (Bool × VV) := spec ti_wide_Neg to_wide_Neg (fun q => (ok_wide_Neg F (atI (nth q 0)) (atI (nth q 1)))) (fun q => [.i (o_wide_Neg_0 F (atI (nth q 0)) (atI (nth q 1))), .i (o_wide_Neg_1 F (atI (nth q 0)) (atI (nth q 1)))])
theorem hS_wide_Neg (F : Nat) : ∀ f, Good PP f (unS (S_wide_Neg F f)) := words_good fun p hp => by
  simp only [List.mem_cons, List.not_mem_nil, or_false] at hp
  rcases hp with rfl
  · exact g_wide_Add F
theorem hl_wide_Neg (F : Nat) : ∀ p ∈ loopsIn PP 98, LoopOK PP (S_wide_Neg F) c_wide_Neg F (I_wide_Neg F) (J_wide_Neg F) p :=
  loops_of [] (by kernel_rfl) all_nil
theorem hj_wide_Neg (F : Nat) : ∀ p ∈ joinsIn PP c_wide_Neg 98, JoinOK PP (S_wide_Neg F) c_wide_Neg (I_wide_Neg F) (J_wide_Neg F) p :=
  joins_of [] (by kernel_rfl) all_nil
theorem g_wide_Neg (F : Nat) : Good PP 98 (unS (s_wide_Neg F)) :=
  fun_spec (hS_wide_Neg F) (by kernel_rfl) (by kernel_rfl) (C := c_wide_Neg) (F := fun q => (f_wide_Neg F (atI (nth q 0)) (atI (nth q 1)))) (fun _ => F) (fun _ => I_wide_Neg F) (fun _ => J_wide_Neg F) (fun _ => hl_wide_Neg F) (fun _ => hj_wide_Neg F)
    (fun q => (congrArg (funL PP (S_wide_Neg F) c_wide_Neg (I_wide_Neg F) (J_wide_Neg F) 98) (show (fTs ti_wide_Neg q).1 = (fTs ti_wide_Neg [.i (atI (nth q 0)), .i (atI (nth q 1))]).1 by kernel_rfl)).trans (e_wide_Neg F (atI (nth q 0)) (atI (nth q 1))))
    (fun _ h => (okT_fill h).trans (congrArg some (by kernel_rfl)))

end Go.Xv
set_option linter.unusedVariables false
namespace Go.Xv
/- 116 _wide_Mul -/
def c_wide_Mul : Cfg := ⟨[0, 1, 4, 5, 15], [], [7, 9], []⟩
def ti_wide_Mul : List TV := [.v (.int .i64), .v (.int .i64)]
def to_wide_Mul : TV := .v (.agg [.int .i64, .int .u64])
def S_wide_Mul (F : Nat) : FuncId → List VV → Option (Bool × VV) := words [(131, s_wide_bare F), (130, s_wide_product F), (98, s_wide_Neg F)]
def W_wide_Mul (F : Nat) : List LW := []
def I_wide_Mul (F : Nat) : Nat → VS → (Exit → VS → R) → R := tabI c_wide_Mul (W_wide_Mul F)
def WJ_wide_Mul (F : Nat) : List LJ := []
def J_wide_Mul (F : Nat) : Nat → Nat → VS → (Exit → VS → R) → R := tabJ (WJ_wide_Mul F)
def f_wide_Mul (F : Nat) (a0 : Int) (a1 : Int) : R :=
  bif (ok_wide_bare F a0) then (
    let v1633 : Int := (o_wide_bare_0 F a0)
    bif (ok_wide_bare F a1) then (
      let v1634 : Int := (o_wide_bare_0 F a1)
      bif (ok_wide_product F v1633 v1634) then (
        let v1656 : Int := (o_wide_product_0 F v1633 v1634)
        let v1657 : Int := (o_wide_product_1 F v1633 v1634)
        bif ((!(((decide (a0 < 0))) == ((decide (a1 < 0)))))) then (
          bif (ok_wide_Neg F v1656 v1657) then (
            some (.v (.agg #[.int .i64 ((o_wide_Neg_0 F v1656 v1657)), .int .u64 ((o_wide_Neg_1 F v1656 v1657))])))
          else (
            none))
        else (
          some (.v (.agg #[.int .i64 v1656, .int .u64 v1657]))))
      else (
        none))
    else (
      none))
  else (
    none)
theorem e_wide_Mul (F : Nat) (a0 : Int) (a1 : Int) : funL PP (S_wide_Mul F) c_wide_Mul (I_wide_Mul F) (J_wide_Mul F) 116 (fTs ti_wide_Mul [.i a0, .i a1]).1 = f_wide_Mul F a0 a1 := by
  have h : ∀ (ok_wide_bare : Nat → Int → Bool) (o_wide_bare_0 : Nat → Int → Int) (ok_wide_product : Nat → Int → Int → Bool) (o_wide_product_0 : Nat → Int → Int → Int) (o_wide_product_1 : Nat → Int → Int → Int) (ok_wide_Neg : Nat → Int → Int → Bool) (o_wide_Neg_0 : Nat → Int → Int → Int) (o_wide_Neg_1 : Nat → Int → Int → Int), funL PP (words [(131, spec ti_wide_bare to_wide_bare (fun q => (ok_wide_bare F (atI (nth q 0)))) (fun q => [.i (o_wide_bare_0 F (atI (nth q 0)))])), (130, spec ti_wide_product to_wide_product (fun q => (ok_wide_product F (atI (nth q 0)) (atI (nth q 1)))) (fun q => [.i (o_wide_product_0 F (atI (nth q 0)) (atI (nth q 1))), .i (o_wide_product_1 F (atI (nth q 0)) (atI (nth q 1)))])), (98, spec ti_wide_Neg to_wide_Neg (fun q => (ok_wide_Neg F (atI (nth q 0)) (atI (nth q 1)))) (fun q => [.i (o_wide_Neg_0 F (atI (nth q 0)) (atI (nth q 1))), .i (o_wide_Neg_1 F (atI (nth q 0)) (atI (nth q 1)))]))]) c_wide_Mul (tabI c_wide_Mul []) (tabJ []) 116 (fTs ti_wide_Mul [.i a0, .i a1]).1 = (
  bif (ok_wide_bare F a0) then (
    let v1633 : Int := (o_wide_bare_0 F a0)
    bif (ok_wide_bare F a1) then (
      let v1634 : Int := (o_wide_bare_0 F a1)
      bif (ok_wide_product F v1633 v1634) then (
        let v1656 : Int := (o_wide_product_0 F v1633 v1634)
        let v1657 : Int := (o_wide_product_1 F v1633 v1634)
        bif ((!(((decide (a0 < 0))) == ((decide (a1 < 0)))))) then (
          bif (ok_wide_Neg F v1656 v1657) then (
            some (.v (.agg #[.int .i64 ((o_wide_Neg_0 F v1656 v1657)), .int .u64 ((o_wide_Neg_1 F v1656 v1657))])))
          else (
            none))
        else (
          some (.v (.agg #[.int .i64 v1656, .int .u64 v1657]))))
      else (
        none))
    else (
      none))
  else (
    none) : R) := by
    intros
    kernel_rfl
  exact (h ok_wide_bare o_wide_bare_0 ok_wide_product o_wide_product_0 o_wide_product_1 ok_wide_Neg o_wide_Neg_0 o_wide_Neg_1).trans (by kernel_rfl)
def ok_wide_Mul (F : Nat) (a0 : Int) (a1 : Int) : Bool := okT to_wide_Mul (f_wide_Mul F a0 a1)
def o_wide_Mul_0 (F : Nat) (a0 : Int) (a1 : Int) : Int := atI (nth (outT to_wide_Mul (f_wide_Mul F a0 a1)) 0)
def o_wide_Mul_1 (F : Nat) (a0 : Int) (a1 : Int) : Int := atI (nth (outT to_wide_Mul (f_wide_Mul F a0 a1)) 1)
theorem k_wide_Mul (F : Nat) (a0 : Int) (a1 : Int) {z0 : Int} {z1 : Int} (h : f_wide_Mul F a0 a1 = some (.v (.agg #[.int .i64 z0, .int .u64 z1]))) : ok_wide_Mul F a0 a1 = true ∧ o_wide_Mul_0 F a0 a1 = z0 ∧ o_wide_Mul_1 F a0 a1 = z1 := by
  refine ⟨?_, ?_, ?_⟩
  · unfold ok_wide_Mul; rw [h]; kernel_rfl
  · unfold o_wide_Mul_0; rw [h]; kernel_rfl
  · unfold o_wide_Mul_1; rw [h]; kernel_rfl
def s_wide_Mul (F : Nat) : List VV → Option (Bool × VV) := spec ti_wide_Mul to_wide_Mul (fun q => (ok_wide_Mul F (atI (nth q 0)) (atI (nth q 1)))) (fun q => [.i (o_wide_Mul_0 F (atI (nth q 0)) (atI (nth q 1))), .i (o_wide_Mul_1 F (atI (nth q 0)) (atI (nth q 1)))])
theorem hS_wide_Mul (F : Nat) : ∀ f, Good PP f (unS (S_wide_Mul F f)) := words_good fun p hp => by
  simp only [List.mem_cons, List.not_mem_nil, or_false] at hp
  rcases hp with rfl | rfl | rfl
  · exact g_wide_bare F
  · exact g_wide_product F
  · exact g_wide_Neg F
theorem hl_wide_Mul (F : Nat) : ∀ p ∈ loopsIn PP 116, LoopOK PP (S_wide_Mul F) c_wide_Mul F (I_wide_Mul F) (J_wide_Mul F) p :=
  loops_of [] (by kernel_rfl) all_nil
theorem hj_wide_Mul (F : Nat) : ∀ p ∈ joinsIn PP c_wide_Mul 116, JoinOK PP (S_wide_Mul F) c_wide_Mul (I_wide_Mul F) (J_wide_Mul F) p :=
  joins_of [] (by kernel_rfl) all_nil
theorem g_wide_Mul (F : Nat) : Good PP 116 (unS (s_wide_Mul F)) :=
  fun_spec (hS_wide_Mul F) (by kernel_rfl) (by kernel_rfl) (C := c_wide_Mul) (F := fun q => (f_wide_Mul F (atI (nth q 0)) (atI (nth q 1)))) (fun _ => F) (fun _ => I_wide_Mul F) (fun _ => J_wide_Mul F) (fun _ => hl_wide_Mul F) (fun _ => hj_wide_Mul F)
    (fun q => (congrArg (funL PP (S_wide_Mul F) c_wide_Mul (I_wide_Mul F) (J_wide_Mul F) 116) (show (fTs ti_wide_Mul q).1 = (fTs ti_wide_Mul [.i (atI (nth q 0)), .i (atI (nth q 1))]).1 by kernel_rfl)).trans (e_wide_Mul F (atI (nth q 0)) (atI (nth q 1))))
    (fun _ h => (okT_fill h).trans (congrArg some (by kernel_rfl)))

end Go.Xv
set_option linter.unusedVariables false
namespace Go.Xv
/- 111 _wide_Left -/
def c_wide_Left : Cfg := ⟨[0, 1, 2, 4, 7, 11], [], [], []⟩
def ti_wide_Left : List TV := [.v (.agg [.int .i64, .int .u64]), .v (.int .i64)]
def to_wide_Left : TV := .v (.agg [.int .i64, .int .u64])
def S_wide_Left (F : Nat) : FuncId → List VV → Option (Bool × VV) := words []
def W_wide_Left (F : Nat) : List LW := []
def I_wide_Left (F : Nat) : Nat → VS → (Exit → VS → R) → R := tabI c_wide_Left (W_wide_Left F)
def WJ_wide_Left (F : Nat) : List LJ := []
def J_wide_Left (F : Nat) : Nat → Nat → VS → (Exit → VS → R) → R := tabJ (WJ_wide_Left F)
def f_wide_Left (F : Nat) (a0 : Int) (a1 : Int) (a2 : Int) : R :=
  let v1326 : Int := (if 0 > a2 then 0 else a2)
  bif ((decide (v1326 ≥ 128))) then (
    some (.v (.agg #[.int .i64 0, .int .u64 0])))
  else (
    bif ((decide (v1326 ≥ 64))) then (
      let v1329 : Int := (IntKind.wrap .i64 (v1326 - 64))
      bif (!(decide (v1329 < 0))) then (
        some (.v (.agg #[.int .i64 ((IntKind.wrap .i64 ((IntKind.wrap .u64 (a1 * 2 ^ (min (Int.toNat v1329) 64)))))), .int .u64 0])))
      else (
        none))
    else (
      bif (!(decide (v1326 < 0))) then (
        let v1334 : Int := (IntKind.wrap .i64 (64 - v1326))
        bif (!(decide (v1334 < 0))) then (
          bif (!(decide (v1326 < 0))) then (
            some (.v (.agg #[.int .i64 ((IntKind.wrap .i64 ((orI .u64 ((IntKind.wrap .u64 (((IntKind.wrap .u64 a0)) * 2 ^ (min (Int.toNat v1326) 64)))) ((Int.fdiv a1 (2 ^ (min (Int.toNat v1334) 64)))))))), .int .u64 ((IntKind.wrap .u64 (a1 * 2 ^ (min (Int.toNat v1326) 64))))])))
          else (
            none))
        else (
          none))
      else (
        none)))
theorem e_wide_Left (F : Nat) (a0 : Int) (a1 : Int) (a2 : Int) : funL PP (S_wide_Left F) c_wide_Left (I_wide_Left F) (J_wide_Left F) 111 (fTs ti_wide_Left [.i a0, .i a1, .i a2]).1 = f_wide_Left F a0 a1 a2 := by
  have h : ∀ (_ : Unit), funL PP (words []) c_wide_Left (tabI c_wide_Left []) (tabJ []) 111 (fTs ti_wide_Left [.i a0, .i a1, .i a2]).1 = (
  let v1326 : Int := (if 0 > a2 then 0 else a2)
  bif ((decide (v1326 ≥ 128))) then (
    some (.v (.agg #[.int .i64 0, .int .u64 0])))
  else (
    bif ((decide (v1326 ≥ 64))) then (
      let v1329 : Int := (IntKind.wrap .i64 (v1326 - 64))
      bif (!(decide (v1329 < 0))) then (
        some (.v (.agg #[.int .i64 ((IntKind.wrap .i64 ((IntKind.wrap .u64 (a1 * 2 ^ (min (Int.toNat v1329) 64)))))), .int .u64 0])))
      else (
        none))
    else (
      bif (!(decide (v1326 < 0))) then (
        let v1334 : Int := (IntKind.wrap .i64 (64 - v1326))
        bif (!(decide (v1334 < 0))) then (
          bif (!(decide (v1326 < 0))) then (
            some (.v (.agg #[.int .i64 ((IntKind.wrap .i64 ((orI .u64 ((IntKind.wrap .u64 (((IntKind.wrap .u64 a0)) * 2 ^ (min (Int.toNat v1326) 64)))) ((Int.fdiv a1 (2 ^ (min (Int.toNat v1334) 64)))))))), .int .u64 ((IntKind.wrap .u64 (a1 * 2 ^ (min (Int.toNat v1326) 64))))])))
          else (
            none))
        else (
          none))
      else (
        none))) : R) := by
    intros
    kernel_rfl
  exact (h ()).trans (by kernel_rfl)
def ok_wide_Left (F : Nat) (a0 : Int) (a1 : Int) (a2 : Int) : Bool := okT to_wide_Left (f_wide_Left F a0 a1 a2)
def o_wide_Left_0 (F : Nat) (a0 : Int) (a1 : Int) (a2 : Int) : Int := atI (nth (outT to_wide_Left (f_wide_Left F a0 a1 a2)) 0)
def o_wide_Left_1 (F : Nat) (a0 : Int) (a1 : Int) (a2 : Int) : Int := atI (nth (outT to_wide_Left (f_wide_Left F a0 a1 a2)) 1)
theorem k_wide_Left (F : Nat) (a0 : Int) (a1 : Int) (a2 : Int) {z0 : Int} {z1 : Int} (h : f_wide_Left F a0 a1 a2 = some (.v (.agg #[.int .i64 z0, .int .u64 z1]))) : ok_wide_Left F a0 a1 a2 = true ∧ o_wide_Left_0 F a0 a1 a2 = z0 ∧ o_wide_Left_1 F a0 a1 a2 = z1 := by
  refine ⟨?_, ?_, ?_⟩
  · unfold ok_wide_Left; rw [h]; kernel_rfl
  · unfold o_wide_Left_0; rw [h]; kernel_rfl
  · unfold o_wide_Left_1; rw [h]; kernel_rfl
def s_wide_Left (F : Nat) : List VV → Option (Bool × VV) := spec ti_wide_Left to_wide_Left (fun q => (ok_wide_Left F (atI (nth q 0)) (atI (nth q 1)) (atI (nth q 2)))) (fun q => [.i (o_wide_Left_0 F (atI (nth q 0)) (atI (nth q 1)) (atI (nth q 2))), .i (o_wide_Left_1 F (atI (nth q 0)) (atI (nth q 1)) (atI (nth q 2)))])
theorem hS_wide_Left (F : Nat) : ∀ f, Good PP f (unS (S_wide_Left F f)) := words_good fun p hp => by
  cases hp
theorem hl_wide_Left (F : Nat) : ∀ p ∈ loopsIn PP 111, LoopOK PP (S_wide_Left F) c_wide_Left F (I_wide_Left F) (J_wide_Left F) p :=
  loops_of [] (by kernel_rfl) all_nil
theorem hj_wide_Left (F : Nat) : ∀ p ∈ joinsIn PP c_wide_Left 111, JoinOK PP (S_wide_Left F) c_wide_Left (I_wide_Left F) (J_wide_Left F) p :=
  joins_of [] (by kernel_rfl) all_nil
theorem g_wide_Left (F : Nat) : Good PP 111 (unS (s_wide_Left F)) :=
  fun_spec (hS_wide_Left F) (by kernel_rfl) (by kernel_rfl) (C := c_wide_Left) (F := fun q => (f_wide_Left F (atI (nth q 0)) (atI (nth q 1)) (atI (nth q 2)))) (fun _ => F) (fun _ => I_wide_Left F) (fun _ => J_wide_Left F) (fun _ => hl_wide_Left F) (fun _ => hj_wide_Left F)
    (fun q => (congrArg (funL PP (S_wide_Left F) c_wide_Left (I_wide_Left F) (J_wide_Left F) 111) (show (fTs ti_wide_Left q).1 = (fTs ti_wide_Left [.i (atI (nth q 0)), .i (atI (nth q 1)), .i (atI (nth q 2))]).1 by kernel_rfl)).trans (e_wide_Left F (atI (nth q 0)) (atI (nth q 1)) (atI (nth q 2))))
    (fun _ h => (okT_fill h).trans (congrArg some (by kernel_rfl)))

end Go.Xv
set_option linter.unusedVariables false
namespace Go.Xv
/- 112 _wide_Less -/
def c_wide_Less : Cfg := ⟨[0, 1, 2, 3, 4, 9], [], [], []⟩
def ti_wide_Less : List TV := [.v (.agg [.int .i64, .int .u64]), .v (.agg [.int .i64, .int .u64])]
def to_wide_Less : TV := .v (.bool)
def S_wide_Less (F : Nat) : FuncId → List VV → Option (Bool × VV) := words []
def W_wide_Less (F : Nat) : List LW := []
def I_wide_Less (F : Nat) : Nat → VS → (Exit → VS → R) → R := tabI c_wide_Less (W_wide_Less F)
def WJ_wide_Less (F : Nat) : List LJ := []
def J_wide_Less (F : Nat) : Nat → Nat → VS → (Exit → VS → R) → R := tabJ (WJ_wide_Less F)
def f_wide_Less (F : Nat) (a0 : Int) (a1 : Int) (a2 : Int) (a3 : Int) : R :=
  bif ((a0 != a2)) then (
    some (.v (.bool ((decide (a0 < a2))))))
  else (
    some (.v (.bool ((decide (a1 < a3))))))
theorem e_wide_Less (F : Nat) (a0 : Int) (a1 : Int) (a2 : Int) (a3 : Int) : funL PP (S_wide_Less F) c_wide_Less (I_wide_Less F) (J_wide_Less F) 112 (fTs ti_wide_Less [.i a0, .i a1, .i a2, .i a3]).1 = f_wide_Less F a0 a1 a2 a3 := by
  have h : ∀ (_ : Unit), funL PP (words []) c_wide_Less (tabI c_wide_Less []) (tabJ []) 112 (fTs ti_wide_Less [.i a0, .i a1, .i a2, .i a3]).1 = (
  bif ((a0 != a2)) then (
    some (.v (.bool ((decide (a0 < a2))))))
  else (
    some (.v (.bool ((decide (a1 < a3)))))) : R) := by
    intros
    kernel_rfl
  exact (h ()).trans (by kernel_rfl)
def ok_wide_Less (F : Nat) (a0 : Int) (a1 : Int) (a2 : Int) (a3 : Int) : Bool := okT to_wide_Less (f_wide_Less F a0 a1 a2 a3)
def o_wide_Less_0 (F : Nat) (a0 : Int) (a1 : Int) (a2 : Int) (a3 : Int) : Bool := atB (nth (outT to_wide_Less (f_wide_Less F a0 a1 a2 a3)) 0)
theorem k_wide_Less (F : Nat) (a0 : Int) (a1 : Int) (a2 : Int) (a3 : Int) {z0 : Bool} (h : f_wide_Less F a0 a1 a2 a3 = some (.v (.bool z0))) : ok_wide_Less F a0 a1 a2 a3 = true ∧ o_wide_Less_0 F a0 a1 a2 a3 = z0 := by
  refine ⟨?_, ?_⟩
  · unfold ok_wide_Less; rw [h]; kernel_rfl
  · unfold o_wide_Less_0; rw [h]; kernel_rfl
def s_wide_Less (F : Nat) : List VV → Option (Bool × VV) := spec ti_wide_Less to_wide_Less (fun q => (ok_wide_Less F (atI (nth q 0)) (atI (nth q 1)) (atI (nth q 2)) (atI (nth q 3)))) (fun q => [.b (o_wide_Less_0 F (atI (nth q 0)) (atI (nth q 1)) (atI (nth q 2)) (atI (nth q 3)))])
theorem hS_wide_Less (F : Nat) : ∀ f, Good PP f (unS (S_wide_Less F f)) := words_good fun p hp => by
  cases hp
theorem hl_wide_Less (F : Nat) : ∀ p ∈ loopsIn PP 112, LoopOK PP (S_wide_Less F) c_wide_Less F (I_wide_Less F) (J_wide_Less F) p :=
  loops_of [] (by kernel_rfl) all_nil
theorem hj_wide_Less (F : Nat) : ∀ p ∈ joinsIn PP c_wide_Less 112, JoinOK PP (S_wide_Less F) c_wide_Less (I_wide_Less F) (J_wide_Less F) p :=
  joins_of [] (by kernel_rfl) all_nil
theorem g_wide_Less (F : Nat) : Good PP 112 (unS (s_wide_Less F)) :=
  fun_spec (hS_wide_Less F) (by kernel_rfl) (by kernel_rfl) (C := c_wide_Less) (F := fun q => (f_wide_Less F (atI (nth q 0)) (atI (nth q 1)) (atI (nth q 2)) (atI (nth q 3)))) (fun _ => F) (fun _ => I_wide_Less F) (fun _ => J_wide_Less F) (fun _ => hl_wide_Less F) (fun _ => hj_wide_Less F)
    (fun q => (congrArg (funL PP (S_wide_Less F) c_wide_Less (I_wide_Less F) (J_wide_Less F) 112) (show (fTs ti_wide_Less q).1 = (fTs ti_wide_Less [.i (atI (nth q 0)), .i (atI (nth q 1)), .i (atI (nth q 2)), .i (atI (nth q 3))]).1 by kernel_rfl)).trans (e_wide_Less F (atI (nth q 0)) (atI (nth q 1)) (atI (nth q 2)) (atI (nth q 3))))
    (fun _ h => (okT_fill h).trans (congrArg some (by kernel_rfl)))

end Go.Xv
set_option linter.unusedVariables false
namespace Go.Xv
/- 132 _wide_Of -/
def c_wide_Of : Cfg := ⟨[0, 2], [], [], []⟩
def ti_wide_Of : List TV := [.v (.int .i64)]
def to_wide_Of : TV := .v (.agg [.int .i64, .int .u64])
def S_wide_Of (F : Nat) : FuncId → List VV → Option (Bool × VV) := words []
def W_wide_Of (F : Nat) : List LW := []
def I_wide_Of (F : Nat) : Nat → VS → (Exit → VS → R) → R := tabI c_wide_Of (W_wide_Of F)
def WJ_wide_Of (F : Nat) : List LJ := []
def J_wide_Of (F : Nat) : Nat → Nat → VS → (Exit → VS → R) → R := tabJ (WJ_wide_Of F)
def f_wide_Of (F : Nat) (a0 : Int) : R :=
  some (.v (.agg #[.int .i64 ((Int.fdiv a0 (9223372036854775808))), .int .u64 ((IntKind.wrap .u64 a0))]))
theorem e_wide_Of (F : Nat) (a0 : Int) : funL PP (S_wide_Of F) c_wide_Of (I_wide_Of F) (J_wide_Of F) 132 (fTs ti_wide_Of [.i a0]).1 = f_wide_Of F a0 := by
  have h : ∀ (_ : Unit), funL PP (words []) c_wide_Of (tabI c_wide_Of []) (tabJ []) 132 (fTs ti_wide_Of [.i a0]).1 = (
  some (.v (.agg #[.int .i64 ((Int.fdiv a0 (9223372036854775808))), .int .u64 ((IntKind.wrap .u64 a0))])) : R) := by
    intros
    kernel_rfl
  exact (h ()).trans (by kernel_rfl)
def ok_wide_Of (F : Nat) (a0 : Int) : Bool := okT to_wide_Of (f_wide_Of F a0)
def o_wide_Of_0 (F : Nat) (a0 : Int) : Int := atI (nth (outT to_wide_Of (f_wide_Of F a0)) 0)
def o_wide_Of_1 (F : Nat) (a0 : Int) : Int := atI (nth (outT to_wide_Of (f_wide_Of F a0)) 1)
theorem k_wide_Of (F : Nat) (a0 : Int) {z0 : Int} {z1 : Int} (h : f_wide_Of F a0 = some (.v (.agg #[.int .i64 z0, .int .u64 z1]))) : ok_wide_Of F a0 = true ∧ o_wide_Of_0 F a0 = z0 ∧ o_wide_Of_1 F a0 = z1 := by
  refine ⟨?_, ?_, ?_⟩
  · unfold ok_wide_Of; rw [h]; kernel_rfl
  · unfold o_wide_Of_0; rw [h]; kernel_rfl
  · unfold o_wide_Of_1; rw [h]; kernel_rfl
def s_wide_Of (F : Nat) : List VV → Option (Bool × VV) := spec ti_wide_Of to_wide_Of (fun q => (ok_wide_Of F (atI (nth q 0)))) (fun q => [.i (o_wide_Of_0 F (atI (nth q 0))), .i (o_wide_Of_1 F (atI (nth q 0)))])
theorem hS_wide_Of (F : Nat) : ∀ f, Good PP f (unS (S_wide_Of F f)) := words_good fun p hp => by
  cases hp
theorem hl_wide_Of (F : Nat) : ∀ p ∈ loopsIn PP 132, LoopOK PP (S_wide_Of F) c_wide_Of F (I_wide_Of F) (J_wide_Of F) p :=
  loops_of [] (by kernel_rfl) all_nil
theorem hj_wide_Of (F : Nat) : ∀ p ∈ joinsIn PP c_wide_Of 132, JoinOK PP (S_wide_Of F) c_wide_Of (I_wide_Of F) (J_wide_Of F) p :=
  joins_of [] (by kernel_rfl) all_nil
theorem g_wide_Of (F : Nat) : Good PP 132 (unS (s_wide_Of F)) :=
  fun_spec (hS_wide_Of F) (by kernel_rfl) (by kernel_rfl) (C := c_wide_Of) (F := fun q => (f_wide_Of F (atI (nth q 0)))) (fun _ => F) (fun _ => I_wide_Of F) (fun _ => J_wide_Of F) (fun _ => hl_wide_Of F) (fun _ => hj_wide_Of F)
    (fun q => (congrArg (funL PP (S_wide_Of F) c_wide_Of (I_wide_Of F) (J_wide_Of F) 132) (show (fTs ti_wide_Of q).1 = (fTs ti_wide_Of [.i (atI (nth q 0))]).1 by kernel_rfl)).trans (e_wide_Of F (atI (nth q 0))))
    (fun _ h => (okT_fill h).trans (congrArg some (by kernel_rfl)))

end Go.Xv
set_option linter.unusedVariables false
namespace Go.Xv
/- 129 _wide_Right -/
def c_wide_Right : Cfg := ⟨[0, 1, 2, 4, 8], [], [], []⟩
def ti_wide_Right : List TV := [.v (.agg [.int .i64, .int .u64]), .v (.int .i64)]
def to_wide_Right : TV := .v (.agg [.int .i64, .int .u64])
def S_wide_Right (F : Nat) : FuncId → List VV → Option (Bool × VV) := words [(132, s_wide_Of F)]
def W_wide_Right (F : Nat) : List LW := []
def I_wide_Right (F : Nat) : Nat → VS → (Exit → VS → R) → R := tabI c_wide_Right (W_wide_Right F)
def WJ_wide_Right (F : Nat) : List LJ := []
def J_wide_Right (F : Nat) : Nat → Nat → VS → (Exit → VS → R) → R := tabJ (WJ_wide_Right F)
def f_wide_Right (F : Nat) (a0 : Int) (a1 : Int) (a2 : Int) : R :=
  let v1671 : Int := (if 0 > a2 then 0 else a2)
  let v1672 : Int := (if 127 < v1671 then 127 else v1671)
  bif ((decide (v1672 ≥ 64))) then (
    let v1674 : Int := (IntKind.wrap .i64 (v1672 - 64))
    bif (!(decide (v1674 < 0))) then (
      let v1675 : Int := (Int.fdiv a0 (2 ^ (min (Int.toNat v1674) 64)))
      bif (ok_wide_Of F v1675) then (
        some (.v (.agg #[.int .i64 ((o_wide_Of_0 F v1675)), .int .u64 ((o_wide_Of_1 F v1675))])))
      else (
        none))
    else (
      none))
  else (
    bif (!(decide (v1672 < 0))) then (
      bif (!(decide (v1672 < 0))) then (
        let v1683 : Int := (IntKind.wrap .i64 (64 - v1672))
        bif (!(decide (v1683 < 0))) then (
          some (.v (.agg #[.int .i64 ((Int.fdiv a0 (2 ^ (min (Int.toNat v1672) 64)))), .int .u64 ((orI .u64 ((Int.fdiv a1 (2 ^ (min (Int.toNat v1672) 64)))) ((IntKind.wrap .u64 (((IntKind.wrap .u64 a0)) * 2 ^ (min (Int.toNat v1683) 64))))))])))
        else (
          none))
      else (
        none))
    else (
      none))
theorem e_wide_Right (F : Nat) (a0 : Int) (a1 : Int) (a2 : Int) : funL PP (S_wide_Right F) c_wide_Right (I_wide_Right F) (J_wide_Right F) 129 (fTs ti_wide_Right [.i a0, .i a1, .i a2]).1 = f_wide_Right F a0 a1 a2 := by
  have h : ∀ (ok_wide_Of : Nat → Int → Bool) (o_wide_Of_0 : Nat → Int → Int) (o_wide_Of_1 : Nat → Int → Int), funL PP (words [(132, spec ti_wide_Of to_wide_Of (fun q => (ok_wide_Of F (atI (nth q 0)))) (fun q => [.i (o_wide_Of_0 F (atI (nth q 0))), .i (o_wide_Of_1 F (atI (nth q 0)))]))]) c_wide_Right (tabI c_wide_Right []) (tabJ []) 129 (fTs ti_wide_Right [.i a0, .i a1, .i a2]).1 = (
  let v1671 : Int := (if 0 > a2 then 0 else a2)
  let v1672 : Int := (if 127 < v1671 then 127 else v1671)
  bif ((decide (v1672 ≥ 64))) then (
    let v1674 : Int := (IntKind.wrap .i64 (v1672 - 64))
    bif (!(decide (v1674 < 0))) then (
      let v1675 : Int := (Int.fdiv a0 (2 ^ (min (Int.toNat v1674) 64)))
      bif (ok_wide_Of F v1675) then (
        some (.v (.agg #[.int .i64 ((o_wide_Of_0 F v1675)), .int .u64 ((o_wide_Of_1 F v1675))])))
      else (
        none))
    else (
      none))
  else (
    bif (!(decide (v1672 < 0))) then (
      bif (!(decide (v1672 < 0))) then (
        let v1683 : Int := (IntKind.wrap .i64 (64 - v1672))
        bif (!(decide (v1683 < 0))) then (
          some (.v (.agg #[.int .i64 ((Int.fdiv a0 (2 ^ (min (Int.toNat v1672) 64)))), .int .u64 ((orI .u64 ((Int.fdiv a1 (2 ^ (min (Int.toNat v1672) 64)))) ((IntKind.wrap .u64 (((IntKind.wrap .u64 a0)) * 2 ^ (min (Int.toNat v1683) 64))))))])))
        else (
          none))
      else (
        none))
    else (
      none)) : R) := by
    intros
    kernel_rfl
  exact (h ok_wide_Of o_wide_Of_0 o_wide_Of_1).trans (by kernel_rfl)
def ok_wide_Right (F : Nat) (a0 : Int) (a1 : Int) (a2 : Int) : Bool := okT to_wide_Right (f_wide_Right F a0 a1 a2)
def o_wide_Right_0 (F : Nat) (a0 : Int) (a1 : Int) (a2 : Int) : Int := atI (nth (outT to_wide_Right (f_wide_Right F a0 a1 a2)) 0)
def o_wide_Right_1 (F : Nat) (a0 : Int) (a1 : Int) (a2 : Int) : Int := atI (nth (outT to_wide_Right (f_wide_Right F a0 a1 a2)) 1)
theorem k_wide_Right (F : Nat) (a0 : Int) (a1 : Int) (a2 : Int) {z0 : Int} {z1 : Int} (h : f_wide_Right F a0 a1 a2 = some (.v (.agg #[.int .i64 z0, .int .u64 z1]))) : ok_wide_Right F a0 a1 a2 = true ∧ o_wide_Right_0 F a0 a1 a2 = z0 ∧ o_wide_Right_1 F a0 a1 a2 = z1 := by
  refine ⟨?_, ?_, ?_⟩
  · unfold ok_wide_Right; rw [h]; kernel_rfl
  · unfold o_wide_Right_0; rw [h]; kernel_rfl
  · unfold o_wide_Right_1; rw [h]; kernel_rfl
def s_wide_Right (F : Nat) : List VV → Option (Bool × VV) := spec ti_wide_Right to_wide_Right (fun q => (ok_wide_Right F (atI (nth q 0)) (atI (nth q 1)) (atI (nth q 2)))) (fun q => [.i (o_wide_Right_0 F (atI (nth q 0)) (atI (nth q 1)) (atI (nth q 2))), .i (o_wide_Right_1 F (atI (nth q 0)) (atI (nth q 1)) (atI (nth q 2)))])
theorem hS_wide_Right (F : Nat) : ∀ f, Good PP f (unS (S_wide_Right F f)) := words_good fun p hp => by
  simp only [List.mem_cons, List.not_mem_nil, or_false] at hp
  rcases hp with rfl
  · exact g_wide_Of F
theorem hl_wide_Right (F : Nat) : ∀ p ∈ loopsIn PP 129, LoopOK PP (S_wide_Right F) c_wide_Right F (I_wide_Right F) (J_wide_Right F) p :=
  loops_of [] (by kernel_rfl) all_nil
theorem hj_wide_Right (F : Nat) : ∀ p ∈ joinsIn PP c_wide_Right 129, JoinOK PP (S_wide_Right F) c_wide_Right (I_wide_Right F) (J_wide_Right F) p :=
  joins_of [] (by kernel_rfl) all_nil
theorem g_wide_Right (F : Nat) : Good PP 129 (unS (s_wide_Right F)) :=
  fun_spec (hS_wide_Right F) (by kernel_rfl) (by kernel_rfl) (C := c_wide_Right) (F := fun q => (f_wide_Right F (atI (nth q 0)) (atI (nth q 1)) (atI (nth q 2)))) (fun _ => F) (fun _ => I_wide_Right F) (fun _ => J_wide_Right F) (fun _ => hl_wide_Right F) (fun _ => hj_wide_Right F)
    (fun q => (congrArg (funL PP (S_wide_Right F) c_wide_Right (I_wide_Right F) (J_wide_Right F) 129) (show (fTs ti_wide_Right q).1 = (fTs ti_wide_Right [.i (atI (nth q 0)), .i (atI (nth q 1)), .i (atI (nth q 2))]).1 by kernel_rfl)).trans (e_wide_Right F (atI (nth q 0)) (atI (nth q 1)) (atI (nth q 2))))
    (fun _ h => (okT_fill h).trans (congrArg some (by kernel_rfl)))

end Go.Xv
set_option linter.unusedVariables false
namespace Go.Xv
/- 115 _wide_Near -/
def c_wide_Near : Cfg := ⟨[0, 1, 2, 4, 8], [], [12], []⟩
def ti_wide_Near : List TV := [.v (.agg [.int .i64, .int .u64]), .v (.int .i64)]
def to_wide_Near : TV := .v (.agg [.int .i64, .int .u64])
def S_wide_Near (F : Nat) : FuncId → List VV → Option (Bool × VV) := words [(129, s_wide_Right F), (71, s_wide_Add F)]
def W_wide_Near (F : Nat) : List LW := []
def I_wide_Near (F : Nat) : Nat → VS → (Exit → VS → R) → R := tabI c_wide_Near (W_wide_Near F)
def WJ_wide_Near (F : Nat) : List LJ := []
def J_wide_Near (F : Nat) : Nat → Nat → VS → (Exit → VS → R) → R := tabJ (WJ_wide_Near F)
def f_wide_Near (F : Nat) (a0 : Int) (a1 : Int) (a2 : Int) : R :=
  let v1669 : Int := (if 127 < a2 then 127 else a2)
  bif ((decide (v1669 ≤ 0))) then (
    some (.v (.agg #[.int .i64 a0, .int .u64 a1])))
  else (
    bif (ok_wide_Right F a0 a1 v1669) then (
      let v1686 : Int := (o_wide_Right_0 F a0 a1 v1669)
      let v1687 : Int := (o_wide_Right_1 F a0 a1 v1669)
      let v1688 : Int := (IntKind.wrap .i64 (v1669 - 1))
      bif (ok_wide_Right F a0 a1 v1688) then (
        let v1691 : Int := (andI .u64 ((o_wide_Right_1 F a0 a1 v1688)) 1)
        bif (ok_wide_Add F v1686 v1687 0 v1691) then (
          some (.v (.agg #[.int .i64 ((o_wide_Add_0 F v1686 v1687 0 v1691)), .int .u64 ((o_wide_Add_1 F v1686 v1687 0 v1691))])))
        else (
          none))
      else (
        none))
    else (
      none))
theorem e_wide_Near (F : Nat) (a0 : Int) (a1 : Int) (a2 : Int) : funL PP (S_wide_Near F) c_wide_Near (I_wide_Near F) (J_wide_Near F) 115 (fTs ti_wide_Near [.i a0, .i a1, .i a2]).1 = f_wide_Near F a0 a1 a2 := by
  have h : ∀ (ok_wide_Right : Nat → Int → Int → Int → Bool) (o_wide_Right_0 : Nat → Int → Int → Int → Int) (o_wide_Right_1 : Nat → Int → Int → Int → Int) (ok_wide_Add : Nat → Int → Int → Int → Int → Bool) (o_wide_Add_0 : Nat → Int → Int → Int → Int → Int) (o_wide_Add_1 : Nat → Int → Int → Int → Int → Int), funL PP (words [(129, spec ti_wide_Right to_wide_Right (fun q => (ok_wide_Right F (atI (nth q 0)) (atI (nth q 1)) (atI (nth q 2)))) (fun q => [.i (o_wide_Right_0 F (atI (nth q 0)) (atI (nth q 1)) (atI (nth q 2))), .i (o_wide_Right_1 F (atI (nth q 0)) (atI (nth q 1)) (atI (nth q 2)))])), (71, spec ti_wide_Add to_wide_Add (fun q => (ok_wide_Add F (atI (nth q 0)) (atI (nth q 1)) (atI (nth q 2)) (atI (nth q 3)))) (fun q => [.i (o_wide_Add_0 F (atI (nth q 0)) (atI (nth q 1)) (atI (nth q 2)) (atI (nth q 3))), .i (o_wide_Add_1 F (atI (nth q 0)) (atI (nth q 1)) (atI (nth q 2)) (atI (nth q 3)))]))]) c_wide_Near (tabI c_wide_Near []) (tabJ []) 115 (fTs ti_wide_Near [.i a0, .i a1, .i a2]).1 = (
  let v1669 : Int := (if 127 < a2 then 127 else a2)
  bif ((decide (v1669 ≤ 0))) then (
    some (.v (.agg #[.int .i64 a0, .int .u64 a1])))
  else (
    bif (ok_wide_Right F a0 a1 v1669) then (
      let v1686 : Int := (o_wide_Right_0 F a0 a1 v1669)
      let v1687 : Int := (o_wide_Right_1 F a0 a1 v1669)
      let v1688 : Int := (IntKind.wrap .i64 (v1669 - 1))
      bif (ok_wide_Right F a0 a1 v1688) then (
        let v1691 : Int := (andI .u64 ((o_wide_Right_1 F a0 a1 v1688)) 1)
        bif (ok_wide_Add F v1686 v1687 0 v1691) then (
          some (.v (.agg #[.int .i64 ((o_wide_Add_0 F v1686 v1687 0 v1691)), .int .u64 ((o_wide_Add_1 F v1686 v1687 0 v1691))])))
        else (
          none))
      else (
        none))
    else (
      none)) : R) := by
    intros
    kernel_rfl
  exact (h ok_wide_Right o_wide_Right_0 o_wide_Right_1 ok_wide_Add o_wide_Add_0 o_wide_Add_1).trans (by kernel_rfl)
def ok_wide_Near (F : Nat) (a0 : Int) (a1 : Int) (a2 : Int) : Bool := okT to_wide_Near (f_wide_Near F a0 a1 a2)
def o_wide_Near_0 (F : Nat) (a0 : Int) (a1 : Int) (a2 : Int) : Int := atI (nth (outT to_wide_Near (f_wide_Near F a0 a1 a2)) 0)
def o_wide_Near_1 (F : Nat) (a0 : Int) (a1 : Int) (a2 : Int) : Int := atI (nth (outT to_wide_Near (f_wide_Near F a0 a1 a2)) 1)
theorem k_wide_Near (F : Nat) (a0 : Int) (a1 : Int) (a2 : Int) {z0 : Int} {z1 : Int} (h : f_wide_Near F a0 a1 a2 = some (.v (.agg #[.int .i64 z0, .int .u64 z1]))) : ok_wide_Near F a0 a1 a2 = true ∧ o_wide_Near_0 F a0 a1 a2 = z0 ∧ o_wide_Near_1 F a0 a1 a2 = z1 := by
  refine ⟨?_, ?_, ?_⟩
  · unfold ok_wide_Near; rw [h]; kernel_rfl
  · unfold o_wide_Near_0; rw [h]; kernel_rfl
  · unfold o_wide_Near_1; rw [h]; kernel_rfl
def s_wide_Near (F : Nat) : List VV → Option (Bool × VV) := spec ti_wide_Near to_wide_Near (fun q => (ok_wide_Near F (atI (nth q 0)) (atI (nth q 1)) (atI (nth q 2)))) (fun q => [.i (o_wide_Near_0 F (atI (nth q 0)) (atI (nth q 1)) (atI (nth q 2))), .i (o_wide_Near_1 F (atI (nth q 0)) (atI (nth q 1)) (atI (nth q 2)))])
theorem hS_wide_Near (F : Nat) : ∀ f, Good PP f (unS (S_wide_Near F f)) := words_good fun p hp => by
  simp only [List.mem_cons, List.not_mem_nil, or_false] at hp
  rcases hp with rfl | rfl
  · exact g_wide_Right F
  · exact g_wide_Add F
theorem hl_wide_Near (F : Nat) : ∀ p ∈ loopsIn PP 115, LoopOK PP (S_wide_Near F) c_wide_Near F (I_wide_Near F) (J_wide_Near F) p :=
  loops_of [] (by kernel_rfl) all_nil
theorem hj_wide_Near (F : Nat) : ∀ p ∈ joinsIn PP c_wide_Near 115, JoinOK PP (S_wide_Near F) c_wide_Near (I_wide_Near F) (J_wide_Near F) p :=
  joins_of [] (by kernel_rfl) all_nil
theorem g_wide_Near (F : Nat) : Good PP 115 (unS (s_wide_Near F)) :=
  fun_spec (hS_wide_Near F) (by kernel_rfl) (by kernel_rfl) (C := c_wide_Near) (F := fun q => (f_wide_Near F (atI (nth q 0)) (atI (nth q 1)) (atI (nth q 2)))) (fun _ => F) (fun _ => I_wide_Near F) (fun _ => J_wide_Near F) (fun _ => hl_wide_Near F) (fun _ => hj_wide_Near F)
    (fun q => (congrArg (funL PP (S_wide_Near F) c_wide_Near (I_wide_Near F) (J_wide_Near F) 115) (show (fTs ti_wide_Near q).1 = (fTs ti_wide_Near [.i (atI (nth q 0)), .i (atI (nth q 1)), .i (atI (nth q 2))]).1 by kernel_rfl)).trans (e_wide_Near F (atI (nth q 0)) (atI (nth q 1)) (atI (nth q 2))))
    (fun _ h => (okT_fill h).trans (congrArg some (by kernel_rfl)))

end Go.Xv
set_option linter.unusedVariables false
namespace Go.Xv
/- 74 _wide_Sign -/
def c_wide_Sign : Cfg := ⟨[0, 1, 2, 3, 7], [], [], []⟩
def ti_wide_Sign : List TV := [.v (.agg [.int .i64, .int .u64])]
def to_wide_Sign : TV := .v (.int .i64)
def S_wide_Sign (F : Nat) : FuncId → List VV → Option (Bool × VV) := words []
def W_wide_Sign (F : Nat) : List LW := []
def I_wide_Sign (F : Nat) : Nat → VS → (Exit → VS → R) → R := tabI c_wide_Sign (W_wide_Sign F)
def WJ_wide_Sign (F : Nat) : List LJ := []
def J_wide_Sign (F : Nat) : Nat → Nat → VS → (Exit → VS → R) → R := tabJ (WJ_wide_Sign F)
def f_wide_Sign (F : Nat) (a0 : Int) (a1 : Int) : R :=
  bif ((decide (a0 < 0))) then (
    some (.v (.int .i64 (-1))))
  else (
    bif (((a0 == 0) && (a1 == 0))) then (
      some (.v (.int .i64 0)))
    else (
      some (.v (.int .i64 1))))
theorem e_wide_Sign (F : Nat) (a0 : Int) (a1 : Int) : funL PP (S_wide_Sign F) c_wide_Sign (I_wide_Sign F) (J_wide_Sign F) 74 (fTs ti_wide_Sign [.i a0, .i a1]).1 = f_wide_Sign F a0 a1 := by
  have h : ∀ (_ : Unit), funL PP (words []) c_wide_Sign (tabI c_wide_Sign []) (tabJ []) 74 (fTs ti_wide_Sign [.i a0, .i a1]).1 = (
  bif ((decide (a0 < 0))) then (
    some (.v (.int .i64 (-1))))
  else (
    bif (((a0 == 0) && (a1 == 0))) then (
      some (.v (.int .i64 0)))
    else (
      some (.v (.int .i64 1)))) : R) := by
    intros
    kernel_rfl
  exact (h ()).trans (by kernel_rfl)
def ok_wide_Sign (F : Nat) (a0 : Int) (a1 : Int) : Bool := okT to_wide_Sign (f_wide_Sign F a0 a1)
def o_wide_Sign_0 (F : Nat) (a0 : Int) (a1 : Int) : Int := atI (nth (outT to_wide_Sign (f_wide_Sign F a0 a1)) 0)
theorem k_wide_Sign (F : Nat) (a0 : Int) (a1 : Int) {z0 : Int} (h : f_wide_Sign F a0 a1 = some (.v (.int .i64 z0))) : ok_wide_Sign F a0 a1 = true ∧ o_wide_Sign_0 F a0 a1 = z0 := by
  refine ⟨?_, ?_⟩
  · unfold ok_wide_Sign; rw [h]; kernel_rfl
  · unfold o_wide_Sign_0; rw [h]; kernel_rfl
def s_wide_Sign (F : Nat) : List VV → Option (Bool × VV) := spec ti_wide_Sign to_wide_Sign (fun q => (ok_wide_Sign F (atI (nth q 0)) (atI (nth q 1)))) (fun q => [.i (o_wide_Sign_0 F (atI (nth q 0)) (atI (nth q 1)))])
theorem hS_wide_Sign (F : Nat) : ∀ f, Good PP f (unS (S_wide_Sign F f)) := words_good fun p hp => by
  cases hp
theorem hl_wide_Sign (F : Nat) : ∀ p ∈ loopsIn PP 74, LoopOK PP (S_wide_Sign F) c_wide_Sign F (I_wide_Sign F) (J_wide_Sign F) p :=
  loops_of [] (by kernel_rfl) all_nil
theorem hj_wide_Sign (F : Nat) : ∀ p ∈ joinsIn PP c_wide_Sign 74, JoinOK PP (S_wide_Sign F) c_wide_Sign (I_wide_Sign F) (J_wide_Sign F) p :=
  joins_of [] (by kernel_rfl) all_nil
theorem g_wide_Sign (F : Nat) : Good PP 74 (unS (s_wide_Sign F)) :=
  fun_spec (hS_wide_Sign F) (by kernel_rfl) (by kernel_rfl) (C := c_wide_Sign) (F := fun q => (f_wide_Sign F (atI (nth q 0)) (atI (nth q 1)))) (fun _ => F) (fun _ => I_wide_Sign F) (fun _ => J_wide_Sign F) (fun _ => hl_wide_Sign F) (fun _ => hj_wide_Sign F)
    (fun q => (congrArg (funL PP (S_wide_Sign F) c_wide_Sign (I_wide_Sign F) (J_wide_Sign F) 74) (show (fTs ti_wide_Sign q).1 = (fTs ti_wide_Sign [.i (atI (nth q 0)), .i (atI (nth q 1))]).1 by kernel_rfl)).trans (e_wide_Sign F (atI (nth q 0)) (atI (nth q 1))))
    (fun _ h => (okT_fill h).trans (congrArg some (by kernel_rfl)))

end Go.Xv
set_option linter.unusedVariables false
namespace Go.Xv
/- 117 _wide_Clip -/
def c_wide_Clip : Cfg := ⟨[0, 1, 2, 3, 4, 8, 14], [], [], []⟩
def ti_wide_Clip : List TV := [.v (.agg [.int .i64, .int .u64])]
def to_wide_Clip : TV := .v (.tup [.int .i64, .bool])
def S_wide_Clip (F : Nat) : FuncId → List VV → Option (Bool × VV) := words [(132, s_wide_Of F)]
def W_wide_Clip (F : Nat) : List LW := []
def I_wide_Clip (F : Nat) : Nat → VS → (Exit → VS → R) → R := tabI c_wide_Clip (W_wide_Clip F)
def WJ_wide_Clip (F : Nat) : List LJ := []
def J_wide_Clip (F : Nat) : Nat → Nat → VS → (Exit → VS → R) → R := tabJ (WJ_wide_Clip F)
def f_wide_Clip (F : Nat) (a0 : Int) (a1 : Int) : R :=
  let v1718 : Int := (IntKind.wrap .i64 a1)
  bif (ok_wide_Of F v1718) then (
    bif (((((o_wide_Of_0 F v1718)) == a0) && (((o_wide_Of_1 F v1718)) == a1))) then (
      some (.v (.tuple #[.int .i64 v1718, .bool false])))
    else (
      bif ((decide (a0 < 0))) then (
        some (.v (.tuple #[.int .i64 (-9223372036854775808), .bool true])))
      else (
        some (.v (.tuple #[.int .i64 9223372036854775807, .bool true])))))
  else (
    none)
theorem e_wide_Clip (F : Nat) (a0 : Int) (a1 : Int) : funL PP (S_wide_Clip F) c_wide_Clip (I_wide_Clip F) (J_wide_Clip F) 117 (fTs ti_wide_Clip [.i a0, .i a1]).1 = f_wide_Clip F a0 a1 := by
  have h : ∀ (ok_wide_Of : Nat → Int → Bool) (o_wide_Of_0 : Nat → Int → Int) (o_wide_Of_1 : Nat → Int → Int), funL PP (words [(132, spec ti_wide_Of to_wide_Of (fun q => (ok_wide_Of F (atI (nth q 0)))) (fun q => [.i (o_wide_Of_0 F (atI (nth q 0))), .i (o_wide_Of_1 F (atI (nth q 0)))]))]) c_wide_Clip (tabI c_wide_Clip []) (tabJ []) 117 (fTs ti_wide_Clip [.i a0, .i a1]).1 = (
  let v1718 : Int := (IntKind.wrap .i64 a1)
  bif (ok_wide_Of F v1718) then (
    bif (((((o_wide_Of_0 F v1718)) == a0) && (((o_wide_Of_1 F v1718)) == a1))) then (
      some (.v (.tuple #[.int .i64 v1718, .bool false])))
    else (
      bif ((decide (a0 < 0))) then (
        some (.v (.tuple #[.int .i64 (-9223372036854775808), .bool true])))
      else (
        some (.v (.tuple #[.int .i64 9223372036854775807, .bool true])))))
  else (
    none) : R) := by
    intros
    kernel_rfl
  exact (h ok_wide_Of o_wide_Of_0 o_wide_Of_1).trans (by kernel_rfl)
def ok_wide_Clip (F : Nat) (a0 : Int) (a1 : Int) : Bool := okT to_wide_Clip (f_wide_Clip F a0 a1)
def o_wide_Clip_0 (F : Nat) (a0 : Int) (a1 : Int) : Int := atI (nth (outT to_wide_Clip (f_wide_Clip F a0 a1)) 0)
def o_wide_Clip_1 (F : Nat) (a0 : Int) (a1 : Int) : Bool := atB (nth (outT to_wide_Clip (f_wide_Clip F a0 a1)) 1)
theorem k_wide_Clip (F : Nat) (a0 : Int) (a1 : Int) {z0 : Int} {z1 : Bool} (h : f_wide_Clip F a0 a1 = some (.v (.tuple #[.int .i64 z0, .bool z1]))) : ok_wide_Clip F a0 a1 = true ∧ o_wide_Clip_0 F a0 a1 = z0 ∧ o_wide_Clip_1 F a0 a1 = z1 := by
  refine ⟨?_, ?_, ?_⟩
  · unfold ok_wide_Clip; rw [h]; kernel_rfl
  · unfold o_wide_Clip_0; rw [h]; kernel_rfl
  · unfold o_wide_Clip_1; rw [h]; kernel_rfl
def s_wide_Clip (F : Nat) : List VV → Option (Bool × VV) := spec ti_wide_Clip to_wide_Clip (fun q => (ok_wide_Clip F (atI (nth q 0)) (atI (nth q 1)))) (fun q => [.i (o_wide_Clip_0 F (atI (nth q 0)) (atI (nth q 1))), .b (o_wide_Clip_1 F (atI (nth q 0)) (atI (nth q 1)))])
theorem hS_wide_Clip (F : Nat) : ∀ f, Good PP f (unS (S_wide_Clip F f)) := words_good fun p hp => by
  simp only [List.mem_cons, List.not_mem_nil, or_false] at hp
  rcases hp with rfl
  · exact g_wide_Of F
theorem hl_wide_Clip (F : Nat) : ∀ p ∈ loopsIn PP 117, LoopOK PP (S_wide_Clip F) c_wide_Clip F (I_wide_Clip F) (J_wide_Clip F) p :=
  loops_of [] (by kernel_rfl) all_nil
theorem hj_wide_Clip (F : Nat) : ∀ p ∈ joinsIn PP c_wide_Clip 117, JoinOK PP (S_wide_Clip F) c_wide_Clip (I_wide_Clip F) (J_wide_Clip F) p :=
  joins_of [] (by kernel_rfl) all_nil
theorem g_wide_Clip (F : Nat) : Good PP 117 (unS (s_wide_Clip F)) :=
  fun_spec (hS_wide_Clip F) (by kernel_rfl) (by kernel_rfl) (C := c_wide_Clip) (F := fun q => (f_wide_Clip F (atI (nth q 0)) (atI (nth q 1)))) (fun _ => F) (fun _ => I_wide_Clip F) (fun _ => J_wide_Clip F) (fun _ => hl_wide_Clip F) (fun _ => hj_wide_Clip F)
    (fun q => (congrArg (funL PP (S_wide_Clip F) c_wide_Clip (I_wide_Clip F) (J_wide_Clip F) 117) (show (fTs ti_wide_Clip q).1 = (fTs ti_wide_Clip [.i (atI (nth q 0)), .i (atI (nth q 1))]).1 by kernel_rfl)).trans (e_wide_Clip F (atI (nth q 0)) (atI (nth q 1))))
    (fun _ h => (okT_fill h).trans (congrArg some (by kernel_rfl)))

end Go.Xv
set_option linter.unusedVariables false
namespace Go.Xv
/- 72 _root_Square -/
def c_root_Square : Cfg := ⟨[0, 2, 3, 4, 5, 6], [], [], []⟩
def ti_root_Square : List TV := [.v (.int .u64)]
def to_root_Square : TV := .v (.agg [.int .i64, .int .u64])
def S_root_Square (F : Nat) : FuncId → List VV → Option (Bool × VV) := words [(111, s_wide_Left F), (71, s_wide_Add F)]
def W_root_Square (F : Nat) : List LW := []
def I_root_Square (F : Nat) : Nat → VS → (Exit → VS → R) → R := tabI c_root_Square (W_root_Square F)
def WJ_root_Square (F : Nat) : List LJ := []
def J_root_Square (F : Nat) : Nat → Nat → VS → (Exit → VS → R) → R := tabJ (WJ_root_Square F)
def f_root_Square (F : Nat) (a0 : Int) : R :=
  let v1320 : Int := (Int.fdiv a0 (4294967296))
  let v1321 : Int := (andI .u64 a0 4294967295)
  let v1323 : Int := (IntKind.wrap .i64 ((IntKind.wrap .u64 (v1320 * v1320))))
  let v1324 : Int := (IntKind.wrap .u64 (v1321 * v1321))
  let v1325 : Int := (IntKind.wrap .u64 (v1320 * v1321))
  bif (ok_wide_Left F 0 v1325 33) then (
    let v1339 : Int := (o_wide_Left_0 F 0 v1325 33)
    let v1340 : Int := (o_wide_Left_1 F 0 v1325 33)
    bif (ok_wide_Add F v1323 v1324 v1339 v1340) then (
      some (.v (.agg #[.int .i64 ((o_wide_Add_0 F v1323 v1324 v1339 v1340)), .int .u64 ((o_wide_Add_1 F v1323 v1324 v1339 v1340))])))
    else (
      none))
  else (
    none)
theorem e_root_Square (F : Nat) (a0 : Int) : funL PP (S_root_Square F) c_root_Square (I_root_Square F) (J_root_Square F) 72 (fTs ti_root_Square [.i a0]).1 = f_root_Square F a0 := by
  have h : ∀ (ok_wide_Left : Nat → Int → Int → Int → Bool) (o_wide_Left_0 : Nat → Int → Int → Int → Int) (o_wide_Left_1 : Nat → Int → Int → Int → Int) (ok_wide_Add : Nat → Int → Int → Int → Int → Bool) (o_wide_Add_0 : Nat → Int → Int → Int → Int → Int) (o_wide_Add_1 : Nat → Int → Int → Int → Int → Int), funL PP (words [(111, spec ti_wide_Left to_wide_Left (fun q => (ok_wide_Left F (atI (nth q 0)) (atI (nth q 1)) (atI (nth q 2)))) (fun q => [.i (o_wide_Left_0 F (atI (nth q 0)) (atI (nth q 1)) (atI (nth q 2))), .i (o_wide_Left_1 F (atI (nth q 0)) (atI (nth q 1)) (atI (nth q 2)))])), (71, spec ti_wide_Add to_wide_Add (fun q => (ok_wide_Add F (atI (nth q 0)) (atI (nth q 1)) (atI (nth q 2)) (atI (nth q 3)))) (fun q => [.i (o_wide_Add_0 F (atI (nth q 0)) (atI (nth q 1)) (atI (nth q 2)) (atI (nth q 3))), .i (o_wide_Add_1 F (atI (nth q 0)) (atI (nth q 1)) (atI (nth q 2)) (atI (nth q 3)))]))]) c_root_Square (tabI c_root_Square []) (tabJ []) 72 (fTs ti_root_Square [.i a0]).1 = (
  let v1320 : Int := (Int.fdiv a0 (4294967296))
  let v1321 : Int := (andI .u64 a0 4294967295)
  let v1323 : Int := (IntKind.wrap .i64 ((IntKind.wrap .u64 (v1320 * v1320))))
  let v1324 : Int := (IntKind.wrap .u64 (v1321 * v1321))
  let v1325 : Int := (IntKind.wrap .u64 (v1320 * v1321))
  bif (ok_wide_Left F 0 v1325 33) then (
    let v1339 : Int := (o_wide_Left_0 F 0 v1325 33)
    let v1340 : Int := (o_wide_Left_1 F 0 v1325 33)
    bif (ok_wide_Add F v1323 v1324 v1339 v1340) then (
      some (.v (.agg #[.int .i64 ((o_wide_Add_0 F v1323 v1324 v1339 v1340)), .int .u64 ((o_wide_Add_1 F v1323 v1324 v1339 v1340))])))
    else (
      none))
  else (
    none) : R) := by
    intros
    kernel_rfl
  exact (h ok_wide_Left o_wide_Left_0 o_wide_Left_1 ok_wide_Add o_wide_Add_0 o_wide_Add_1).trans (by kernel_rfl)
def ok_root_Square (F : Nat) (a0 : Int) : Bool := okT to_root_Square (f_root_Square F a0)
def o_root_Square_0 (F : Nat) (a0 : Int) : Int := atI (nth (outT to_root_Square (f_root_Square F a0)) 0)
def o_root_Square_1 (F : Nat) (a0 : Int) : Int := atI (nth (outT to_root_Square (f_root_Square F a0)) 1)
theorem k_root_Square (F : Nat) (a0 : Int) {z0 : Int} {z1 : Int} (h : f_root_Square F a0 = some (.v (.agg #[.int .i64 z0, .int .u64 z1]))) : ok_root_Square F a0 = true ∧ o_root_Square_0 F a0 = z0 ∧ o_root_Square_1 F a0 = z1 := by
  refine ⟨?_, ?_, ?_⟩
  · unfold ok_root_Square; rw [h]; kernel_rfl
  · unfold o_root_Square_0; rw [h]; kernel_rfl
  · unfold o_root_Square_1; rw [h]; kernel_rfl
def s_root_Square (F : Nat) : List VV → Option (Bool × VV) := spec ti_root_Square to_root_Square (fun q => (ok_root_Square F (atI (nth q 0)))) (fun q => [.i (o_root_Square_0 F (atI (nth q 0))), .i (o_root_Square_1 F (atI (nth q 0)))])
theorem hS_root_Square (F : Nat) : ∀ f, Good PP f (unS (S_root_Square F f)) := words_good fun p hp => by
  simp only [List.mem_cons, List.not_mem_nil, or_false] at hp
  rcases hp with rfl | rfl
  · exact g_wide_Left F
  · exact g_wide_Add F
theorem hl_root_Square (F : Nat) : ∀ p ∈ loopsIn PP 72, LoopOK PP (S_root_Square F) c_root_Square F (I_root_Square F) (J_root_Square F) p :=
  loops_of [] (by kernel_rfl) all_nil
theorem hj_root_Square (F : Nat) : ∀ p ∈ joinsIn PP c_root_Square 72, JoinOK PP (S_root_Square F) c_root_Square (I_root_Square F) (J_root_Square F) p :=
  joins_of [] (by kernel_rfl) all_nil
theorem g_root_Square (F : Nat) : Good PP 72 (unS (s_root_Square F)) :=
  fun_spec (hS_root_Square F) (by kernel_rfl) (by kernel_rfl) (C := c_root_Square) (F := fun q => (f_root_Square F (atI (nth q 0)))) (fun _ => F) (fun _ => I_root_Square F) (fun _ => J_root_Square F) (fun _ => hl_root_Square F) (fun _ => hj_root_Square F)
    (fun q => (congrArg (funL PP (S_root_Square F) c_root_Square (I_root_Square F) (J_root_Square F) 72) (show (fTs ti_root_Square q).1 = (fTs ti_root_Square [.i (atI (nth q 0))]).1 by kernel_rfl)).trans (e_root_Square F (atI (nth q 0))))
    (fun _ h => (okT_fill h).trans (congrArg some (by kernel_rfl)))

end Go.Xv
set_option linter.unusedVariables false
namespace Go.Xv
/- 75 _root_Wide -/
def c_root_Wide : Cfg := ⟨[0, 1, 2, 3, 4, 5, 6, 7, 10, 11, 12, 29], [(0, [0, 1, 2, 3, 4, 8, 9, 10, 11, 34])], [], []⟩
def ti_root_Wide : List TV := [.v (.agg [.int .i64, .int .u64])]
def to_root_Wide : TV := .v (.tup [.int .u64, .bool])
def S_root_Wide (F : Nat) : FuncId → List VV → Option (Bool × VV) := words [(72, s_root_Square F), (112, s_wide_Less F)]
def T_root_Wide_0 : TS := ⟨[(0, .v (.agg [.int .i64, .int .u64])), (1, .lp 0 (.lit 0)), (2, .v (.int .u64)), (3, .v (.bool)), (4, .v (.int .u64)), (11, .v (.int .i64))], [(0, ⟨(.ex [.v (.int .i64), .v (.int .u64)]), true⟩)], 1⟩
def T_root_Wide_0_0 : TS := ⟨[(0, .v (.agg [.int .i64, .int .u64])), (1, .lp 0 (.lit 0)), (2, .v (.int .u64)), (3, .v (.bool)), (4, .v (.int .u64)), (11, .v (.int .i64))], [(0, ⟨(.ex [.v (.int .i64), .v (.int .u64)]), true⟩)], 1⟩
def B_root_Wide_0 (F : Nat) (rc : Int → Int → Int → Bool → Int → Int → Int → Int → R) (ex0 : Int → Int → Int → Bool → Int → Int → Int → Int → R) (x0 : Int) (x1 : Int) (x2 : Int) (x3 : Bool) (x4 : Int) (x5 : Int) (x6 : Int) (x7 : Int) : R :=
  bif ((decide (x5 < 64))) then (
    let v1399 : Int := (IntKind.wrap .i64 (63 - x5))
    bif (!(decide (v1399 < 0))) then (
      let v1400 : Int := (IntKind.wrap .u64 (1 * 2 ^ (min (Int.toNat v1399) 64)))
      let v1401 : Int := (orI .u64 x4 v1400)
      bif (ok_root_Square F v1401) then (
        let v1402 : Int := (o_root_Square_0 F v1401)
        let v1403 : Int := (o_root_Square_1 F v1401)
        bif ((decide (v1402 ≥ 0))) then (
          bif (ok_wide_Less F x6 x7 v1402 v1403) then (
            bif ((!((o_wide_Less_0 F x6 x7 v1402 v1403)))) then (
              rc x0 x1 x2 x3 ((orI .u64 x4 v1400)) ((IntKind.wrap .i64 (x5 + 1))) x6 x7)
            else (
              rc x0 x1 x2 x3 x4 ((IntKind.wrap .i64 (x5 + 1))) x6 x7))
          else (
            none))
        else (
          rc x0 x1 x2 x3 x4 ((IntKind.wrap .i64 (x5 + 1))) x6 x7))
      else (
        none))
    else (
      none))
  else (
    ex0 x0 x1 x2 x3 x4 x5 x6 x7)
def L_root_Wide_0 (F : Nat) (ex0 : Int → Int → Int → Bool → Int → Int → Int → Int → R) : Nat → Int → Int → Int → Bool → Int → Int → Int → Int → R
  | 0, _, _, _, _, _, _, _, _ => none
  | n + 1, x0, x1, x2, x3, x4, x5, x6, x7 => B_root_Wide_0 F (L_root_Wide_0 F ex0 n) ex0 x0 x1 x2 x3 x4 x5 x6 x7
def W_root_Wide (F : Nat) : List LW := [⟨0, T_root_Wide_0, fun k q => L_root_Wide_0 F (fun (z0 : Int) (z1 : Int) (z2 : Int) (z3 : Bool) (z4 : Int) (z5 : Int) (z6 : Int) (z7 : Int) => k (.exit 0) (fS T_root_Wide_0_0 [.i z0, .i z1, .i z2, .b z3, .i z4, .i z5, .i z6, .i z7])) F (atI (nth q 0)) (atI (nth q 1)) (atI (nth q 2)) (atB (nth q 3)) (atI (nth q 4)) (atI (nth q 5)) (atI (nth q 6)) (atI (nth q 7))⟩]
def I_root_Wide (F : Nat) : Nat → VS → (Exit → VS → R) → R := tabI c_root_Wide (W_root_Wide F)
def WJ_root_Wide (F : Nat) : List LJ := []
def J_root_Wide (F : Nat) : Nat → Nat → VS → (Exit → VS → R) → R := tabJ (WJ_root_Wide F)
theorem lL_root_Wide_0 (F : Nat) (k : Exit → VS → R) : ∀ (n : Nat) (x0 : Int) (x1 : Int) (x2 : Int) (x3 : Bool) (x4 : Int) (x5 : Int) (x6 : Int) (x7 : Int), iterC (codeL PP (S_root_Wide F) c_root_Wide (I_root_Wide F) (J_root_Wide F) (loopAt PP 75 0) 0) (headOf c_root_Wide 0) k n (fS T_root_Wide_0 [.i x0, .i x1, .i x2, .b x3, .i x4, .i x5, .i x6, .i x7]) = L_root_Wide_0 F (fun (z0 : Int) (z1 : Int) (z2 : Int) (z3 : Bool) (z4 : Int) (z5 : Int) (z6 : Int) (z7 : Int) => k (.exit 0) (fS T_root_Wide_0_0 [.i z0, .i z1, .i z2, .b z3, .i z4, .i z5, .i z6, .i z7])) n x0 x1 x2 x3 x4 x5 x6 x7
  | 0, _, _, _, _, _, _, _, _ => rfl
  | n + 1, x0, x1, x2, x3, x4, x5, x6, x7 => by
    have h0 : ∀ (ok_root_Square : Nat → Int → Bool) (o_root_Square_0 : Nat → Int → Int) (o_root_Square_1 : Nat → Int → Int) (ok_wide_Less : Nat → Int → Int → Int → Int → Bool) (o_wide_Less_0 : Nat → Int → Int → Int → Int → Bool) (L_root_Wide_0 : Nat → (Int → Int → Int → Bool → Int → Int → Int → Int → R) → Nat → Int → Int → Int → Bool → Int → Int → Int → Int → R), iterC (codeL PP (words [(72, spec ti_root_Square to_root_Square (fun q => (ok_root_Square F (atI (nth q 0)))) (fun q => [.i (o_root_Square_0 F (atI (nth q 0))), .i (o_root_Square_1 F (atI (nth q 0)))])), (112, spec ti_wide_Less to_wide_Less (fun q => (ok_wide_Less F (atI (nth q 0)) (atI (nth q 1)) (atI (nth q 2)) (atI (nth q 3)))) (fun q => [.b (o_wide_Less_0 F (atI (nth q 0)) (atI (nth q 1)) (atI (nth q 2)) (atI (nth q 3)))]))]) c_root_Wide (tabI c_root_Wide [⟨0, T_root_Wide_0, fun k q => L_root_Wide_0 F (fun (z0 : Int) (z1 : Int) (z2 : Int) (z3 : Bool) (z4 : Int) (z5 : Int) (z6 : Int) (z7 : Int) => k (.exit 0) (fS T_root_Wide_0_0 [.i z0, .i z1, .i z2, .b z3, .i z4, .i z5, .i z6, .i z7])) F (atI (nth q 0)) (atI (nth q 1)) (atI (nth q 2)) (atB (nth q 3)) (atI (nth q 4)) (atI (nth q 5)) (atI (nth q 6)) (atI (nth q 7))⟩]) (tabJ []) (loopAt PP 75 0) 0) (headOf c_root_Wide 0) k (n + 1) (fS T_root_Wide_0 [.i x0, .i x1, .i x2, .b x3, .i x4, .i x5, .i x6, .i x7]) = (fun (rc : Int → Int → Int → Bool → Int → Int → Int → Int → R) (ex0 : Int → Int → Int → Bool → Int → Int → Int → Int → R) (x0 : Int) (x1 : Int) (x2 : Int) (x3 : Bool) (x4 : Int) (x5 : Int) (x6 : Int) (x7 : Int) => (
  bif ((decide (x5 < 64))) then (
    let v1399 : Int := (IntKind.wrap .i64 (63 - x5))
    bif (!(decide (v1399 < 0))) then (
      let v1400 : Int := (IntKind.wrap .u64 (1 * 2 ^ (min (Int.toNat v1399) 64)))
      let v1401 : Int := (orI .u64 x4 v1400)
      bif (ok_root_Square F v1401) then (
        let v1402 : Int := (o_root_Square_0 F v1401)
        let v1403 : Int := (o_root_Square_1 F v1401)
        bif ((decide (v1402 ≥ 0))) then (
          bif (ok_wide_Less F x6 x7 v1402 v1403) then (
            bif ((!((o_wide_Less_0 F x6 x7 v1402 v1403)))) then (
              rc x0 x1 x2 x3 ((orI .u64 x4 v1400)) ((IntKind.wrap .i64 (x5 + 1))) x6 x7)
            else (
              rc x0 x1 x2 x3 x4 ((IntKind.wrap .i64 (x5 + 1))) x6 x7))
          else (
            none))
        else (
          rc x0 x1 x2 x3 x4 ((IntKind.wrap .i64 (x5 + 1))) x6 x7))
      else (
        none))
    else (
      none))
  else (
    ex0 x0 x1 x2 x3 x4 x5 x6 x7) : R)) (fun (y0 : Int) (y1 : Int) (y2 : Int) (y3 : Bool) (y4 : Int) (y5 : Int) (y6 : Int) (y7 : Int) => iterC (codeL PP (words [(72, spec ti_root_Square to_root_Square (fun q => (ok_root_Square F (atI (nth q 0)))) (fun q => [.i (o_root_Square_0 F (atI (nth q 0))), .i (o_root_Square_1 F (atI (nth q 0)))])), (112, spec ti_wide_Less to_wide_Less (fun q => (ok_wide_Less F (atI (nth q 0)) (atI (nth q 1)) (atI (nth q 2)) (atI (nth q 3)))) (fun q => [.b (o_wide_Less_0 F (atI (nth q 0)) (atI (nth q 1)) (atI (nth q 2)) (atI (nth q 3)))]))]) c_root_Wide (tabI c_root_Wide [⟨0, T_root_Wide_0, fun k q => L_root_Wide_0 F (fun (z0 : Int) (z1 : Int) (z2 : Int) (z3 : Bool) (z4 : Int) (z5 : Int) (z6 : Int) (z7 : Int) => k (.exit 0) (fS T_root_Wide_0_0 [.i z0, .i z1, .i z2, .b z3, .i z4, .i z5, .i z6, .i z7])) F (atI (nth q 0)) (atI (nth q 1)) (atI (nth q 2)) (atB (nth q 3)) (atI (nth q 4)) (atI (nth q 5)) (atI (nth q 6)) (atI (nth q 7))⟩]) (tabJ []) (loopAt PP 75 0) 0) (headOf c_root_Wide 0) k n (fS T_root_Wide_0 [.i y0, .i y1, .i y2, .b y3, .i y4, .i y5, .i y6, .i y7])) (fun (z0 : Int) (z1 : Int) (z2 : Int) (z3 : Bool) (z4 : Int) (z5 : Int) (z6 : Int) (z7 : Int) => k (.exit 0) (fS T_root_Wide_0_0 [.i z0, .i z1, .i z2, .b z3, .i z4, .i z5, .i z6, .i z7])) x0 x1 x2 x3 x4 x5 x6 x7 := by
      intros
      kernel_rfl
    have h : iterC (codeL PP (S_root_Wide F) c_root_Wide (I_root_Wide F) (J_root_Wide F) (loopAt PP 75 0) 0) (headOf c_root_Wide 0) k (n + 1) (fS T_root_Wide_0 [.i x0, .i x1, .i x2, .b x3, .i x4, .i x5, .i x6, .i x7]) = B_root_Wide_0 F (fun (y0 : Int) (y1 : Int) (y2 : Int) (y3 : Bool) (y4 : Int) (y5 : Int) (y6 : Int) (y7 : Int) => iterC (codeL PP (S_root_Wide F) c_root_Wide (I_root_Wide F) (J_root_Wide F) (loopAt PP 75 0) 0) (headOf c_root_Wide 0) k n (fS T_root_Wide_0 [.i y0, .i y1, .i y2, .b y3, .i y4, .i y5, .i y6, .i y7])) (fun (z0 : Int) (z1 : Int) (z2 : Int) (z3 : Bool) (z4 : Int) (z5 : Int) (z6 : Int) (z7 : Int) => k (.exit 0) (fS T_root_Wide_0_0 [.i z0, .i z1, .i z2, .b z3, .i z4, .i z5, .i z6, .i z7])) x0 x1 x2 x3 x4 x5 x6 x7 := (h0 ok_root_Square o_root_Square_0 o_root_Square_1 ok_wide_Less o_wide_Less_0 L_root_Wide_0).trans (by kernel_rfl)
    rw [h]
    simp only [lL_root_Wide_0 F k n]
    rfl
def f_root_Wide (F : Nat) (a0 : Int) (a1 : Int) : R :=
  bif ((decide (a0 < 0))) then (
    some (.v (.tuple #[.int .u64 0, .bool false])))
  else (
    L_root_Wide_0 F (fun (v1414 : Int) (v1415 : Int) (v1416 : Int) (v1417 : Bool) (v1418 : Int) (v1419 : Int) (v1420 : Int) (v1421 : Int) =>
      some (.v (.tuple #[.int .u64 v1418, .bool true]))) F a0 a1 0 false 0 0 a0 a1)
theorem e_root_Wide (F : Nat) (a0 : Int) (a1 : Int) : funL PP (S_root_Wide F) c_root_Wide (I_root_Wide F) (J_root_Wide F) 75 (fTs ti_root_Wide [.i a0, .i a1]).1 = f_root_Wide F a0 a1 := by
  have h : ∀ (ok_root_Square : Nat → Int → Bool) (o_root_Square_0 : Nat → Int → Int) (o_root_Square_1 : Nat → Int → Int) (ok_wide_Less : Nat → Int → Int → Int → Int → Bool) (o_wide_Less_0 : Nat → Int → Int → Int → Int → Bool) (L_root_Wide_0 : Nat → (Int → Int → Int → Bool → Int → Int → Int → Int → R) → Nat → Int → Int → Int → Bool → Int → Int → Int → Int → R), funL PP (words [(72, spec ti_root_Square to_root_Square (fun q => (ok_root_Square F (atI (nth q 0)))) (fun q => [.i (o_root_Square_0 F (atI (nth q 0))), .i (o_root_Square_1 F (atI (nth q 0)))])), (112, spec ti_wide_Less to_wide_Less (fun q => (ok_wide_Less F (atI (nth q 0)) (atI (nth q 1)) (atI (nth q 2)) (atI (nth q 3)))) (fun q => [.b (o_wide_Less_0 F (atI (nth q 0)) (atI (nth q 1)) (atI (nth q 2)) (atI (nth q 3)))]))]) c_root_Wide (tabI c_root_Wide [⟨0, T_root_Wide_0, fun k q => L_root_Wide_0 F (fun (z0 : Int) (z1 : Int) (z2 : Int) (z3 : Bool) (z4 : Int) (z5 : Int) (z6 : Int) (z7 : Int) => k (.exit 0) (fS T_root_Wide_0_0 [.i z0, .i z1, .i z2, .b z3, .i z4, .i z5, .i z6, .i z7])) F (atI (nth q 0)) (atI (nth q 1)) (atI (nth q 2)) (atB (nth q 3)) (atI (nth q 4)) (atI (nth q 5)) (atI (nth q 6)) (atI (nth q 7))⟩]) (tabJ []) 75 (fTs ti_root_Wide [.i a0, .i a1]).1 = (
  bif ((decide (a0 < 0))) then (
    some (.v (.tuple #[.int .u64 0, .bool false])))
  else (
    L_root_Wide_0 F (fun (v1414 : Int) (v1415 : Int) (v1416 : Int) (v1417 : Bool) (v1418 : Int) (v1419 : Int) (v1420 : Int) (v1421 : Int) =>
      some (.v (.tuple #[.int .u64 v1418, .bool true]))) F a0 a1 0 false 0 0 a0 a1) : R) := by
    intros
    kernel_rfl
  exact (h ok_root_Square o_root_Square_0 o_root_Square_1 ok_wide_Less o_wide_Less_0 L_root_Wide_0).trans (by kernel_rfl)
def ok_root_Wide (F : Nat) (a0 : Int) (a1 : Int) : Bool := okT to_root_Wide (f_root_Wide F a0 a1)
def o_root_Wide_0 (F : Nat) (a0 : Int) (a1 : Int) : Int := atI (nth (outT to_root_Wide (f_root_Wide F a0 a1)) 0)
def o_root_Wide_1 (F : Nat) (a0 : Int) (a1 : Int) : Bool := atB (nth (outT to_root_Wide (f_root_Wide F a0 a1)) 1)
theorem k_root_Wide (F : Nat) (a0 : Int) (a1 : Int) {z0 : Int} {z1 : Bool} (h : f_root_Wide F a0 a1 = some (.v (.tuple #[.int .u64 z0, .bool z1]))) : ok_root_Wide F a0 a1 = true ∧ o_root_Wide_0 F a0 a1 = z0 ∧ o_root_Wide_1 F a0 a1 = z1 := by
  refine ⟨?_, ?_, ?_⟩
  · unfold ok_root_Wide; rw [h]; kernel_rfl
  · unfold o_root_Wide_0; rw [h]; kernel_rfl
  · unfold o_root_Wide_1; rw [h]; kernel_rfl
def s_root_Wide (F : Nat) : List VV → Option (Bool × VV) := spec ti_root_Wide to_root_Wide (fun q => (ok_root_Wide F (atI (nth q 0)) (atI (nth q 1)))) (fun q => [.i (o_root_Wide_0 F (atI (nth q 0)) (atI (nth q 1))), .b (o_root_Wide_1 F (atI (nth q 0)) (atI (nth q 1)))])
theorem hS_root_Wide (F : Nat) : ∀ f, Good PP f (unS (S_root_Wide F f)) := words_good fun p hp => by
  simp only [List.mem_cons, List.not_mem_nil, or_false] at hp
  rcases hp with rfl | rfl
  · exact g_root_Square F
  · exact g_wide_Less F
theorem hl_root_Wide (F : Nat) : ∀ p ∈ loopsIn PP 75, LoopOK PP (S_root_Wide F) c_root_Wide F (I_root_Wide F) (J_root_Wide F) p :=
  loops_of [(0, loopAt PP 75 0)] (by kernel_rfl) (all_cons
    (loop_ok (W_root_Wide F) rfl (tab_cons (fun _ k q => Le.ofEq ((lL_root_Wide_0 F k F (atI (nth q 0)) (atI (nth q 1)) (atI (nth q 2)) (atB (nth q 3)) (atI (nth q 4)) (atI (nth q 5)) (atI (nth q 6)) (atI (nth q 7))).symm.trans (congrArg (iterC (codeL PP (S_root_Wide F) c_root_Wide (I_root_Wide F) (J_root_Wide F) (loopAt PP 75 0) 0) (headOf c_root_Wide 0) k F) (show fS T_root_Wide_0 [.i (atI (nth q 0)), .i (atI (nth q 1)), .i (atI (nth q 2)), .b (atB (nth q 3)), .i (atI (nth q 4)), .i (atI (nth q 5)), .i (atI (nth q 6)), .i (atI (nth q 7))] = fS T_root_Wide_0 q by kernel_rfl)))) tab_nil)) all_nil)
theorem hj_root_Wide (F : Nat) : ∀ p ∈ joinsIn PP c_root_Wide 75, JoinOK PP (S_root_Wide F) c_root_Wide (I_root_Wide F) (J_root_Wide F) p :=
  joins_of [] (by kernel_rfl) all_nil
theorem g_root_Wide (F : Nat) : Good PP 75 (unS (s_root_Wide F)) :=
  fun_spec (hS_root_Wide F) (by kernel_rfl) (by kernel_rfl) (C := c_root_Wide) (F := fun q => (f_root_Wide F (atI (nth q 0)) (atI (nth q 1)))) (fun _ => F) (fun _ => I_root_Wide F) (fun _ => J_root_Wide F) (fun _ => hl_root_Wide F) (fun _ => hj_root_Wide F)
    (fun q => (congrArg (funL PP (S_root_Wide F) c_root_Wide (I_root_Wide F) (J_root_Wide F) 75) (show (fTs ti_root_Wide q).1 = (fTs ti_root_Wide [.i (atI (nth q 0)), .i (atI (nth q 1))]).1 by kernel_rfl)).trans (e_root_Wide F (atI (nth q 0)) (atI (nth q 1))))
    (fun _ h => (okT_fill h).trans (congrArg some (by kernel_rfl)))

end Go.Xv
set_option linter.unusedVariables false
namespace Go.Xv
/- 73 _vec_bare -/
def c_vec_bare : Cfg := ⟨[0, 2, 4], [], [], []⟩
def ti_vec_bare : List TV := [.v (.int .i64)]
def to_vec_bare : TV := .v (.int .u64)
def S_vec_bare (F : Nat) : FuncId → List VV → Option (Bool × VV) := words []
def W_vec_bare (F : Nat) : List LW := []
def I_vec_bare (F : Nat) : Nat → VS → (Exit → VS → R) → R := tabI c_vec_bare (W_vec_bare F)
def WJ_vec_bare (F : Nat) : List LJ := []
def J_vec_bare (F : Nat) : Nat → Nat → VS → (Exit → VS → R) → R := tabJ (WJ_vec_bare F)
def f_vec_bare (F : Nat) (a0 : Int) : R :=
  bif ((decide (a0 < 0))) then (
    some (.v (.int .u64 ((IntKind.wrap .u64 (0 - ((IntKind.wrap .u64 a0))))))))
  else (
    some (.v (.int .u64 ((IntKind.wrap .u64 a0)))))
theorem e_vec_bare (F : Nat) (a0 : Int) : funL PP (S_vec_bare F) c_vec_bare (I_vec_bare F) (J_vec_bare F) 73 (fTs ti_vec_bare [.i a0]).1 = f_vec_bare F a0 := by
  have h : ∀ (_ : Unit), funL PP (words []) c_vec_bare (tabI c_vec_bare []) (tabJ []) 73 (fTs ti_vec_bare [.i a0]).1 = (
  bif ((decide (a0 < 0))) then (
    some (.v (.int .u64 ((IntKind.wrap .u64 (0 - ((IntKind.wrap .u64 a0))))))))
  else (
    some (.v (.int .u64 ((IntKind.wrap .u64 a0))))) : R) := by
    intros
    kernel_rfl
  exact (h ()).trans (by kernel_rfl)
def ok_vec_bare (F : Nat) (a0 : Int) : Bool := okT to_vec_bare (f_vec_bare F a0)
def o_vec_bare_0 (F : Nat) (a0 : Int) : Int := atI (nth (outT to_vec_bare (f_vec_bare F a0)) 0)
theorem k_vec_bare (F : Nat) (a0 : Int) {z0 : Int} (h : f_vec_bare F a0 = some (.v (.int .u64 z0))) : ok_vec_bare F a0 = true ∧ o_vec_bare_0 F a0 = z0 := by
  refine ⟨?_, ?_⟩
  · unfold ok_vec_bare; rw [h]; kernel_rfl
  · unfold o_vec_bare_0; rw [h]; kernel_rfl
def s_vec_bare (F : Nat) : List VV → Option (Bool × VV) := spec ti_vec_bare to_vec_bare (fun q => (ok_vec_bare F (atI (nth q 0)))) (fun q => [.i (o_vec_bare_0 F (atI (nth q 0)))])
theorem hS_vec_bare (F : Nat) : ∀ f, Good PP f (unS (S_vec_bare F f)) := words_good fun p hp => by
  cases hp
theorem hl_vec_bare (F : Nat) : ∀ p ∈ loopsIn PP 73, LoopOK PP (S_vec_bare F) c_vec_bare F (I_vec_bare F) (J_vec_bare F) p :=
  loops_of [] (by kernel_rfl) all_nil
theorem hj_vec_bare (F : Nat) : ∀ p ∈ joinsIn PP c_vec_bare 73, JoinOK PP (S_vec_bare F) c_vec_bare (I_vec_bare F) (J_vec_bare F) p :=
  joins_of [] (by kernel_rfl) all_nil
theorem g_vec_bare (F : Nat) : Good PP 73 (unS (s_vec_bare F)) :=
  fun_spec (hS_vec_bare F) (by kernel_rfl) (by kernel_rfl) (C := c_vec_bare) (F := fun q => (f_vec_bare F (atI (nth q 0)))) (fun _ => F) (fun _ => I_vec_bare F) (fun _ => J_vec_bare F) (fun _ => hl_vec_bare F) (fun _ => hj_vec_bare F)
    (fun q => (congrArg (funL PP (S_vec_bare F) c_vec_bare (I_vec_bare F) (J_vec_bare F) 73) (show (fTs ti_vec_bare q).1 = (fTs ti_vec_bare [.i (atI (nth q 0))]).1 by kernel_rfl)).trans (e_vec_bare F (atI (nth q 0))))
    (fun _ h => (okT_fill h).trans (congrArg some (by kernel_rfl)))

end Go.Xv
set_option linter.unusedVariables false
namespace Go.Xv
/- 23 _vec_Length -/
def c_vec_Length : Cfg := ⟨[0, 1, 2, 3, 4, 6, 7, 9, 10, 11, 20, 28], [(0, [0, 1, 2, 3, 4, 7, 8, 9, 10, 22, 23, 24, 25, 26, 27, 28, 29, 30])], [15, 16], []⟩
def ti_vec_Length : List TV := [.v (.agg [.int .i64, .int .i64, .int .i64])]
def to_vec_Length : TV := .v (.tup [.int .i64, .bool])
def S_vec_Length (F : Nat) : FuncId → List VV → Option (Bool × VV) := words [(73, s_vec_bare F), (72, s_root_Square F), (71, s_wide_Add F), (74, s_wide_Sign F), (75, s_root_Wide F)]
def T_vec_Length_0 : TS := ⟨[(0, .v (.agg [.int .i64, .int .i64, .int .i64])), (1, .lp 0 (.lit 0)), (2, .v (.int .i64)), (3, .v (.bool)), (4, .lp 1 (.lit 0)), (9, .v (.agg [.int .i64, .int .i64, .int .i64])), (10, .v (.int .i64))], [(0, ⟨(.ex [.v (.int .i64), .v (.int .i64), .v (.int .i64)]), true⟩), (1, ⟨(.ex [.v (.int .i64), .v (.int .u64)]), true⟩)], 2⟩
def T_vec_Length_0_0 : TS := ⟨[(0, .v (.agg [.int .i64, .int .i64, .int .i64])), (1, .lp 0 (.lit 0)), (2, .v (.int .i64)), (3, .v (.bool)), (4, .lp 1 (.lit 0)), (6, .v (.int .i64)), (9, .v (.agg [.int .i64, .int .i64, .int .i64])), (10, .v (.int .i64))], [(0, ⟨(.ex [.v (.int .i64), .v (.int .i64), .v (.int .i64)]), true⟩), (1, ⟨(.ex [.v (.int .i64), .v (.int .u64)]), true⟩)], 2⟩
def T_vec_Length_0_1 : TS := ⟨[(0, .v (.agg [.int .i64, .int .i64, .int .i64])), (1, .lp 0 (.lit 0)), (2, .v (.int .i64)), (3, .v (.bool)), (4, .lp 1 (.lit 0)), (9, .v (.agg [.int .i64, .int .i64, .int .i64])), (10, .v (.int .i64))], [(0, ⟨(.ex [.v (.int .i64), .v (.int .i64), .v (.int .i64)]), true⟩), (1, ⟨(.ex [.v (.int .i64), .v (.int .u64)]), true⟩)], 2⟩
def B_vec_Length_0 (F : Nat) (rc : Int → Int → Int → Int → Bool → Int → Int → Int → Int → Int → Int → Int → Int → Int → R) (ex0 : Int → Int → Int → Int → Bool → Int → Int → Int → Int → Int → Int → Int → Int → Int → Int → R) (ex1 : Int → Int → Int → Int → Bool → Int → Int → Int → Int → Int → Int → Int → Int → Int → R) (x0 : Int) (x1 : Int) (x2 : Int) (x3 : Int) (x4 : Bool) (x5 : Int) (x6 : Int) (x7 : Int) (x8 : Int) (x9 : Int) (x10 : Int) (x11 : Int) (x12 : Int) (x13 : Int) : R :=
  bif ((decide (x8 < 3))) then (
    bif (((decide (0 ≤ x8)) && (decide (x8 < 3))) && ((isI .i64 [.v (.int .i64 x5), .v (.int .i64 x6), .v (.int .i64 x7)][((Int.toNat x8) * 1)]?) && true)) then (
      let v1314 : Int := (iv [.v (.int .i64 x5), .v (.int .i64 x6), .v (.int .i64 x7)][((Int.toNat x8) * 1)]?)
      bif (ok_vec_bare F v1314) then (
        let v1319 : Int := (o_vec_bare_0 F v1314)
        bif (ok_root_Square F v1319) then (
          let v1351 : Int := (o_root_Square_0 F v1319)
          let v1352 : Int := (o_root_Square_1 F v1319)
          bif (ok_wide_Add F x12 x13 v1351 v1352) then (
            let v1353 : Int := (o_wide_Add_0 F x12 x13 v1351 v1352)
            let v1354 : Int := (o_wide_Add_1 F x12 x13 v1351 v1352)
            bif (ok_wide_Sign F v1353 v1354) then (
              bif ((decide (((o_wide_Sign_0 F v1353 v1354)) < 0))) then (
                ex0 x0 x1 x2 9223372036854775807 true v1314 x5 x6 x7 x8 x9 x10 x11 v1353 v1354)
              else (
                rc x0 x1 x2 x3 x4 x5 x6 x7 ((IntKind.wrap .i64 (x8 + 1))) x9 x10 x11 v1353 v1354))
            else (
              none))
          else (
            none))
        else (
          none))
      else (
        none))
    else (
      none))
  else (
    ex1 x0 x1 x2 x3 x4 x5 x6 x7 x8 x9 x10 x11 x12 x13)
def L_vec_Length_0 (F : Nat) (ex0 : Int → Int → Int → Int → Bool → Int → Int → Int → Int → Int → Int → Int → Int → Int → Int → R) (ex1 : Int → Int → Int → Int → Bool → Int → Int → Int → Int → Int → Int → Int → Int → Int → R) : Nat → Int → Int → Int → Int → Bool → Int → Int → Int → Int → Int → Int → Int → Int → Int → R
  | 0, _, _, _, _, _, _, _, _, _, _, _, _, _, _ => none
  | n + 1, x0, x1, x2, x3, x4, x5, x6, x7, x8, x9, x10, x11, x12, x13 => B_vec_Length_0 F (L_vec_Length_0 F ex0 ex1 n) ex0 ex1 x0 x1 x2 x3 x4 x5 x6 x7 x8 x9 x10 x11 x12 x13
def W_vec_Length (F : Nat) : List LW := [⟨0, T_vec_Length_0, fun k q => L_vec_Length_0 F (fun (z0 : Int) (z1 : Int) (z2 : Int) (z3 : Int) (z4 : Bool) (z5 : Int) (z6 : Int) (z7 : Int) (z8 : Int) (z9 : Int) (z10 : Int) (z11 : Int) (z12 : Int) (z13 : Int) (z14 : Int) => k .ret (fS T_vec_Length_0_0 [.i z0, .i z1, .i z2, .i z3, .b z4, .i z5, .i z6, .i z7, .i z8, .i z9, .i z10, .i z11, .i z12, .i z13, .i z14])) (fun (z0 : Int) (z1 : Int) (z2 : Int) (z3 : Int) (z4 : Bool) (z5 : Int) (z6 : Int) (z7 : Int) (z8 : Int) (z9 : Int) (z10 : Int) (z11 : Int) (z12 : Int) (z13 : Int) => k (.exit 0) (fS T_vec_Length_0_1 [.i z0, .i z1, .i z2, .i z3, .b z4, .i z5, .i z6, .i z7, .i z8, .i z9, .i z10, .i z11, .i z12, .i z13])) F (atI (nth q 0)) (atI (nth q 1)) (atI (nth q 2)) (atI (nth q 3)) (atB (nth q 4)) (atI (nth q 5)) (atI (nth q 6)) (atI (nth q 7)) (atI (nth q 8)) (atI (nth q 9)) (atI (nth q 10)) (atI (nth q 11)) (atI (nth q 12)) (atI (nth q 13))⟩]
def I_vec_Length (F : Nat) : Nat → VS → (Exit → VS → R) → R := tabI c_vec_Length (W_vec_Length F)
def WJ_vec_Length (F : Nat) : List LJ := []
def J_vec_Length (F : Nat) : Nat → Nat → VS → (Exit → VS → R) → R := tabJ (WJ_vec_Length F)
theorem lL_vec_Length_0 (F : Nat) (k : Exit → VS → R) : ∀ (n : Nat) (x0 : Int) (x1 : Int) (x2 : Int) (x3 : Int) (x4 : Bool) (x5 : Int) (x6 : Int) (x7 : Int) (x8 : Int) (x9 : Int) (x10 : Int) (x11 : Int) (x12 : Int) (x13 : Int), iterC (codeL PP (S_vec_Length F) c_vec_Length (I_vec_Length F) (J_vec_Length F) (loopAt PP 23 0) 0) (headOf c_vec_Length 0) k n (fS T_vec_Length_0 [.i x0, .i x1, .i x2, .i x3, .b x4, .i x5, .i x6, .i x7, .i x8, .i x9, .i x10, .i x11, .i x12, .i x13]) = L_vec_Length_0 F (fun (z0 : Int) (z1 : Int) (z2 : Int) (z3 : Int) (z4 : Bool) (z5 : Int) (z6 : Int) (z7 : Int) (z8 : Int) (z9 : Int) (z10 : Int) (z11 : Int) (z12 : Int) (z13 : Int) (z14 : Int) => k .ret (fS T_vec_Length_0_0 [.i z0, .i z1, .i z2, .i z3, .b z4, .i z5, .i z6, .i z7, .i z8, .i z9, .i z10, .i z11, .i z12, .i z13, .i z14])) (fun (z0 : Int) (z1 : Int) (z2 : Int) (z3 : Int) (z4 : Bool) (z5 : Int) (z6 : Int) (z7 : Int) (z8 : Int) (z9 : Int) (z10 : Int) (z11 : Int) (z12 : Int) (z13 : Int) => k (.exit 0) (fS T_vec_Length_0_1 [.i z0, .i z1, .i z2, .i z3, .b z4, .i z5, .i z6, .i z7, .i z8, .i z9, .i z10, .i z11, .i z12, .i z13])) n x0 x1 x2 x3 x4 x5 x6 x7 x8 x9 x10 x11 x12 x13
  | 0, _, _, _, _, _, _, _, _, _, _, _, _, _, _ => rfl
  | n + 1, x0, x1, x2, x3, x4, x5, x6, x7, x8, x9, x10, x11, x12, x13 => by
    have h0 : ∀ (ok_vec_bare : Nat → Int → Bool) (o_vec_bare_0 : Nat → Int → Int) (ok_root_Square : Nat → Int → Bool) (o_root_Square_0 : Nat → Int → Int) (o_root_Square_1 : Nat → Int → Int) (ok_wide_Add : Nat → Int → Int → Int → Int → Bool) (o_wide_Add_0 : Nat → Int → Int → Int → Int → Int) (o_wide_Add_1 : Nat → Int → Int → Int → Int → Int) (ok_wide_Sign : Nat → Int → Int → Bool) (o_wide_Sign_0 : Nat → Int → Int → Int) (ok_root_Wide : Nat → Int → Int → Bool) (o_root_Wide_0 : Nat → Int → Int → Int) (o_root_Wide_1 : Nat → Int → Int → Bool) (L_vec_Length_0 : Nat → (Int → Int → Int → Int → Bool → Int → Int → Int → Int → Int → Int → Int → Int → Int → Int → R) → (Int → Int → Int → Int → Bool → Int → Int → Int → Int → Int → Int → Int → Int → Int → R) → Nat → Int → Int → Int → Int → Bool → Int → Int → Int → Int → Int → Int → Int → Int → Int → R), iterC (codeL PP (words [(73, spec ti_vec_bare to_vec_bare (fun q => (ok_vec_bare F (atI (nth q 0)))) (fun q => [.i (o_vec_bare_0 F (atI (nth q 0)))])), (72, spec ti_root_Square to_root_Square (fun q => (ok_root_Square F (atI (nth q 0)))) (fun q => [.i (o_root_Square_0 F (atI (nth q 0))), .i (o_root_Square_1 F (atI (nth q 0)))])), (71, spec ti_wide_Add to_wide_Add (fun q => (ok_wide_Add F (atI (nth q 0)) (atI (nth q 1)) (atI (nth q 2)) (atI (nth q 3)))) (fun q => [.i (o_wide_Add_0 F (atI (nth q 0)) (atI (nth q 1)) (atI (nth q 2)) (atI (nth q 3))), .i (o_wide_Add_1 F (atI (nth q 0)) (atI (nth q 1)) (atI (nth q 2)) (atI (nth q 3)))])), (74, spec ti_wide_Sign to_wide_Sign (fun q => (ok_wide_Sign F (atI (nth q 0)) (atI (nth q 1)))) (fun q => [.i (o_wide_Sign_0 F (atI (nth q 0)) (atI (nth q 1)))])), (75, spec ti_root_Wide to_root_Wide (fun q => (ok_root_Wide F (atI (nth q 0)) (atI (nth q 1)))) (fun q => [.i (o_root_Wide_0 F (atI (nth q 0)) (atI (nth q 1))), .b (o_root_Wide_1 F (atI (nth q 0)) (atI (nth q 1)))]))]) c_vec_Length (tabI c_vec_Length [⟨0, T_vec_Length_0, fun k q => L_vec_Length_0 F (fun (z0 : Int) (z1 : Int) (z2 : Int) (z3 : Int) (z4 : Bool) (z5 : Int) (z6 : Int) (z7 : Int) (z8 : Int) (z9 : Int) (z10 : Int) (z11 : Int) (z12 : Int) (z13 : Int) (z14 : Int) => k .ret (fS T_vec_Length_0_0 [.i z0, .i z1, .i z2, .i z3, .b z4, .i z5, .i z6, .i z7, .i z8, .i z9, .i z10, .i z11, .i z12, .i z13, .i z14])) (fun (z0 : Int) (z1 : Int) (z2 : Int) (z3 : Int) (z4 : Bool) (z5 : Int) (z6 : Int) (z7 : Int) (z8 : Int) (z9 : Int) (z10 : Int) (z11 : Int) (z12 : Int) (z13 : Int) => k (.exit 0) (fS T_vec_Length_0_1 [.i z0, .i z1, .i z2, .i z3, .b z4, .i z5, .i z6, .i z7, .i z8, .i z9, .i z10, .i z11, .i z12, .i z13])) F (atI (nth q 0)) (atI (nth q 1)) (atI (nth q 2)) (atI (nth q 3)) (atB (nth q 4)) (atI (nth q 5)) (atI (nth q 6)) (atI (nth q 7)) (atI (nth q 8)) (atI (nth q 9)) (atI (nth q 10)) (atI (nth q 11)) (atI (nth q 12)) (atI (nth q 13))⟩]) (tabJ []) (loopAt PP 23 0) 0) (headOf c_vec_Length 0) k (n + 1) (fS T_vec_Length_0 [.i x0, .i x1, .i x2, .i x3, .b x4, .i x5, .i x6, .i x7, .i x8, .i x9, .i x10, .i x11, .i x12, .i x13]) = (fun (rc : Int → Int → Int → Int → Bool → Int → Int → Int → Int → Int → Int → Int → Int → Int → R) (ex0 : Int → Int → Int → Int → Bool → Int → Int → Int → Int → Int → Int → Int → Int → Int → Int → R) (ex1 : Int → Int → Int → Int → Bool → Int → Int → Int → Int → Int → Int → Int → Int → Int → R) (x0 : Int) (x1 : Int) (x2 : Int) (x3 : Int) (x4 : Bool) (x5 : Int) (x6 : Int) (x7 : Int) (x8 : Int) (x9 : Int) (x10 : Int) (x11 : Int) (x12 : Int) (x13 : Int) => (
  bif ((decide (x8 < 3))) then (
    bif (((decide (0 ≤ x8)) && (decide (x8 < 3))) && ((isI .i64 [.v (.int .i64 x5), .v (.int .i64 x6), .v (.int .i64 x7)][((Int.toNat x8) * 1)]?) && true)) then (
      let v1314 : Int := (iv [.v (.int .i64 x5), .v (.int .i64 x6), .v (.int .i64 x7)][((Int.toNat x8) * 1)]?)
      bif (ok_vec_bare F v1314) then (
        let v1319 : Int := (o_vec_bare_0 F v1314)
        bif (ok_root_Square F v1319) then (
          let v1351 : Int := (o_root_Square_0 F v1319)
          let v1352 : Int := (o_root_Square_1 F v1319)
          bif (ok_wide_Add F x12 x13 v1351 v1352) then (
            let v1353 : Int := (o_wide_Add_0 F x12 x13 v1351 v1352)
            let v1354 : Int := (o_wide_Add_1 F x12 x13 v1351 v1352)
            bif (ok_wide_Sign F v1353 v1354) then (
              bif ((decide (((o_wide_Sign_0 F v1353 v1354)) < 0))) then (
                ex0 x0 x1 x2 9223372036854775807 true v1314 x5 x6 x7 x8 x9 x10 x11 v1353 v1354)
              else (
                rc x0 x1 x2 x3 x4 x5 x6 x7 ((IntKind.wrap .i64 (x8 + 1))) x9 x10 x11 v1353 v1354))
            else (
              none))
          else (
            none))
        else (
          none))
      else (
        none))
    else (
      none))
  else (
    ex1 x0 x1 x2 x3 x4 x5 x6 x7 x8 x9 x10 x11 x12 x13) : R)) (fun (y0 : Int) (y1 : Int) (y2 : Int) (y3 : Int) (y4 : Bool) (y5 : Int) (y6 : Int) (y7 : Int) (y8 : Int) (y9 : Int) (y10 : Int) (y11 : Int) (y12 : Int) (y13 : Int) => iterC (codeL PP (words [(73, spec ti_vec_bare to_vec_bare (fun q => (ok_vec_bare F (atI (nth q 0)))) (fun q => [.i (o_vec_bare_0 F (atI (nth q 0)))])), (72, spec ti_root_Square to_root_Square (fun q => (ok_root_Square F (atI (nth q 0)))) (fun q => [.i (o_root_Square_0 F (atI (nth q 0))), .i (o_root_Square_1 F (atI (nth q 0)))])), (71, spec ti_wide_Add to_wide_Add (fun q => (ok_wide_Add F (atI (nth q 0)) (atI (nth q 1)) (atI (nth q 2)) (atI (nth q 3)))) (fun q => [.i (o_wide_Add_0 F (atI (nth q 0)) (atI (nth q 1)) (atI (nth q 2)) (atI (nth q 3))), .i (o_wide_Add_1 F (atI (nth q 0)) (atI (nth q 1)) (atI (nth q 2)) (atI (nth q 3)))])), (74, spec ti_wide_Sign to_wide_Sign (fun q => (ok_wide_Sign F (atI (nth q 0)) (atI (nth q 1)))) (fun q => [.i (o_wide_Sign_0 F (atI (nth q 0)) (atI (nth q 1)))])), (75, spec ti_root_Wide to_root_Wide (fun q => (ok_root_Wide F (atI (nth q 0)) (atI (nth q 1)))) (fun q => [.i (o_root_Wide_0 F (atI (nth q 0)) (atI (nth q 1))), .b (o_root_Wide_1 F (atI (nth q 0)) (atI (nth q 1)))]))]) c_vec_Length (tabI c_vec_Length [⟨0, T_vec_Length_0, fun k q => L_vec_Length_0 F (fun (z0 : Int) (z1 : Int) (z2 : Int) (z3 : Int) (z4 : Bool) (z5 : Int) (z6 : Int) (z7 : Int) (z8 : Int) (z9 : Int) (z10 : Int) (z11 : Int) (z12 : Int) (z13 : Int) (z14 : Int) => k .ret (fS T_vec_Length_0_0 [.i z0, .i z1, .i z2, .i z3, .b z4, .i z5, .i z6, .i z7, .i z8, .i z9, .i z10, .i z11, .i z12, .i z13, .i z14])) (fun (z0 : Int) (z1 : Int) (z2 : Int) (z3 : Int) (z4 : Bool) (z5 : Int) (z6 : Int) (z7 : Int) (z8 : Int) (z9 : Int) (z10 : Int) (z11 : Int) (z12 : Int) (z13 : Int) => k (.exit 0) (fS T_vec_Length_0_1 [.i z0, .i z1, .i z2, .i z3, .b z4, .i z5, .i z6, .i z7, .i z8, .i z9, .i z10, .i z11, .i z12, .i z13])) F (atI (nth q 0)) (atI (nth q 1)) (atI (nth q 2)) (atI (nth q 3)) (atB (nth q 4)) (atI (nth q 5)) (atI (nth q 6)) (atI (nth q 7)) (atI (nth q 8)) (atI (nth q 9)) (atI (nth q 10)) (atI (nth q 11)) (atI (nth q 12)) (atI (nth q 13))⟩]) (tabJ []) (loopAt PP 23 0) 0) (headOf c_vec_Length 0) k n (fS T_vec_Length_0 [.i y0, .i y1, .i y2, .i y3, .b y4, .i y5, .i y6, .i y7, .i y8, .i y9, .i y10, .i y11, .i y12, .i y13])) (fun (z0 : Int) (z1 : Int) (z2 : Int) (z3 : Int) (z4 : Bool) (z5 : Int) (z6 : Int) (z7 : Int) (z8 : Int) (z9 : Int) (z10 : Int) (z11 : Int) (z12 : Int) (z13 : Int) (z14 : Int) => k .ret (fS T_vec_Length_0_0 [.i z0, .i z1, .i z2, .i z3, .b z4, .i z5, .i z6, .i z7, .i z8, .i z9, .i z10, .i z11, .i z12, .i z13, .i z14])) (fun (z0 : Int) (z1 : Int) (z2 : Int) (z3 : Int) (z4 : Bool) (z5 : Int) (z6 : Int) (z7 : Int) (z8 : Int) (z9 : Int) (z10 : Int) (z11 : Int) (z12 : Int) (z13 : Int) => k (.exit 0) (fS T_vec_Length_0_1 [.i z0, .i z1, .i z2, .i z3, .b z4, .i z5, .i z6, .i z7, .i z8, .i z9, .i z10, .i z11, .i z12, .i z13])) x0 x1 x2 x3 x4 x5 x6 x7 x8 x9 x10 x11 x12 x13 := by
      intros
      kernel_rfl
    have h : iterC (codeL PP (S_vec_Length F) c_vec_Length (I_vec_Length F) (J_vec_Length F) (loopAt PP 23 0) 0) (headOf c_vec_Length 0) k (n + 1) (fS T_vec_Length_0 [.i x0, .i x1, .i x2, .i x3, .b x4, .i x5, .i x6, .i x7, .i x8, .i x9, .i x10, .i x11, .i x12, .i x13]) = B_vec_Length_0 F (fun (y0 : Int) (y1 : Int) (y2 : Int) (y3 : Int) (y4 : Bool) (y5 : Int) (y6 : Int) (y7 : Int) (y8 : Int) (y9 : Int) (y10 : Int) (y11 : Int) (y12 : Int) (y13 : Int) => iterC (codeL PP (S_vec_Length F) c_vec_Length (I_vec_Length F) (J_vec_Length F) (loopAt PP 23 0) 0) (headOf c_vec_Length 0) k n (fS T_vec_Length_0 [.i y0, .i y1, .i y2, .i y3, .b y4, .i y5, .i y6, .i y7, .i y8, .i y9, .i y10, .i y11, .i y12, .i y13])) (fun (z0 : Int) (z1 : Int) (z2 : Int) (z3 : Int) (z4 : Bool) (z5 : Int) (z6 : Int) (z7 : Int) (z8 : Int) (z9 : Int) (z10 : Int) (z11 : Int) (z12 : Int) (z13 : Int) (z14 : Int) => k .ret (fS T_vec_Length_0_0 [.i z0, .i z1, .i z2, .i z3, .b z4, .i z5, .i z6, .i z7, .i z8, .i z9, .i z10, .i z11, .i z12, .i z13, .i z14])) (fun (z0 : Int) (z1 : Int) (z2 : Int) (z3 : Int) (z4 : Bool) (z5 : Int) (z6 : Int) (z7 : Int) (z8 : Int) (z9 : Int) (z10 : Int) (z11 : Int) (z12 : Int) (z13 : Int) => k (.exit 0) (fS T_vec_Length_0_1 [.i z0, .i z1, .i z2, .i z3, .b z4, .i z5, .i z6, .i z7, .i z8, .i z9, .i z10, .i z11, .i z12, .i z13])) x0 x1 x2 x3 x4 x5 x6 x7 x8 x9 x10 x11 x12 x13 := (h0 ok_vec_bare o_vec_bare_0 ok_root_Square o_root_Square_0 o_root_Square_1 ok_wide_Add o_wide_Add_0 o_wide_Add_1 ok_wide_Sign o_wide_Sign_0 ok_root_Wide o_root_Wide_0 o_root_Wide_1 L_vec_Length_0).trans (by kernel_rfl)
    rw [h]
    simp only [lL_vec_Length_0 F k n]
    rfl
def f_vec_Length (F : Nat) (a0 : Int) (a1 : Int) (a2 : Int) : R :=
  L_vec_Length_0 F (fun (v1360 : Int) (v1361 : Int) (v1362 : Int) (v1363 : Int) (v1364 : Bool) (v1365 : Int) (v1366 : Int) (v1367 : Int) (v1368 : Int) (v1369 : Int) (v1370 : Int) (v1371 : Int) (v1372 : Int) (v1373 : Int) (v1374 : Int) =>
    some (.v (.tuple #[.int .i64 v1363, .bool v1364]))) (fun (v1375 : Int) (v1376 : Int) (v1377 : Int) (v1378 : Int) (v1379 : Bool) (v1380 : Int) (v1381 : Int) (v1382 : Int) (v1383 : Int) (v1384 : Int) (v1385 : Int) (v1386 : Int) (v1387 : Int) (v1388 : Int) =>
    bif (ok_root_Wide F v1387 v1388) then (
      let v1422 : Int := (o_root_Wide_0 F v1387 v1388)
      bif ((decide (v1422 > 9223372036854775807))) then (
        some (.v (.tuple #[.int .i64 9223372036854775807, .bool true])))
      else (
        some (.v (.tuple #[.int .i64 ((IntKind.wrap .i64 v1422)), .bool false]))))
    else (
      none)) F a0 a1 a2 0 false a0 a1 a2 0 a0 a1 a2 0 0
theorem e_vec_Length (F : Nat) (a0 : Int) (a1 : Int) (a2 : Int) : funL PP (S_vec_Length F) c_vec_Length (I_vec_Length F) (J_vec_Length F) 23 (fTs ti_vec_Length [.i a0, .i a1, .i a2]).1 = f_vec_Length F a0 a1 a2 := by
  have h : ∀ (ok_vec_bare : Nat → Int → Bool) (o_vec_bare_0 : Nat → Int → Int) (ok_root_Square : Nat → Int → Bool) (o_root_Square_0 : Nat → Int → Int) (o_root_Square_1 : Nat → Int → Int) (ok_wide_Add : Nat → Int → Int → Int → Int → Bool) (o_wide_Add_0 : Nat → Int → Int → Int → Int → Int) (o_wide_Add_1 : Nat → Int → Int → Int → Int → Int) (ok_wide_Sign : Nat → Int → Int → Bool) (o_wide_Sign_0 : Nat → Int → Int → Int) (ok_root_Wide : Nat → Int → Int → Bool) (o_root_Wide_0 : Nat → Int → Int → Int) (o_root_Wide_1 : Nat → Int → Int → Bool) (L_vec_Length_0 : Nat → (Int → Int → Int → Int → Bool → Int → Int → Int → Int → Int → Int → Int → Int → Int → Int → R) → (Int → Int → Int → Int → Bool → Int → Int → Int → Int → Int → Int → Int → Int → Int → R) → Nat → Int → Int → Int → Int → Bool → Int → Int → Int → Int → Int → Int → Int → Int → Int → R), funL PP (words [(73, spec ti_vec_bare to_vec_bare (fun q => (ok_vec_bare F (atI (nth q 0)))) (fun q => [.i (o_vec_bare_0 F (atI (nth q 0)))])), (72, spec ti_root_Square to_root_Square (fun q => (ok_root_Square F (atI (nth q 0)))) (fun q => [.i (o_root_Square_0 F (atI (nth q 0))), .i (o_root_Square_1 F (atI (nth q 0)))])), (71, spec ti_wide_Add to_wide_Add (fun q => (ok_wide_Add F (atI (nth q 0)) (atI (nth q 1)) (atI (nth q 2)) (atI (nth q 3)))) (fun q => [.i (o_wide_Add_0 F (atI (nth q 0)) (atI (nth q 1)) (atI (nth q 2)) (atI (nth q 3))), .i (o_wide_Add_1 F (atI (nth q 0)) (atI (nth q 1)) (atI (nth q 2)) (atI (nth q 3)))])), (74, spec ti_wide_Sign to_wide_Sign (fun q => (ok_wide_Sign F (atI (nth q 0)) (atI (nth q 1)))) (fun q => [.i (o_wide_Sign_0 F (atI (nth q 0)) (atI (nth q 1)))])), (75, spec ti_root_Wide to_root_Wide (fun q => (ok_root_Wide F (atI (nth q 0)) (atI (nth q 1)))) (fun q => [.i (o_root_Wide_0 F (atI (nth q 0)) (atI (nth q 1))), .b (o_root_Wide_1 F (atI (nth q 0)) (atI (nth q 1)))]))]) c_vec_Length (tabI c_vec_Length [⟨0, T_vec_Length_0, fun k q => L_vec_Length_0 F (fun (z0 : Int) (z1 : Int) (z2 : Int) (z3 : Int) (z4 : Bool) (z5 : Int) (z6 : Int) (z7 : Int) (z8 : Int) (z9 : Int) (z10 : Int) (z11 : Int) (z12 : Int) (z13 : Int) (z14 : Int) => k .ret (fS T_vec_Length_0_0 [.i z0, .i z1, .i z2, .i z3, .b z4, .i z5, .i z6, .i z7, .i z8, .i z9, .i z10, .i z11, .i z12, .i z13, .i z14])) (fun (z0 : Int) (z1 : Int) (z2 : Int) (z3 : Int) (z4 : Bool) (z5 : Int) (z6 : Int) (z7 : Int) (z8 : Int) (z9 : Int) (z10 : Int) (z11 : Int) (z12 : Int) (z13 : Int) => k (.exit 0) (fS T_vec_Length_0_1 [.i z0, .i z1, .i z2, .i z3, .b z4, .i z5, .i z6, .i z7, .i z8, .i z9, .i z10, .i z11, .i z12, .i z13])) F (atI (nth q 0)) (atI (nth q 1)) (atI (nth q 2)) (atI (nth q 3)) (atB (nth q 4)) (atI (nth q 5)) (atI (nth q 6)) (atI (nth q 7)) (atI (nth q 8)) (atI (nth q 9)) (atI (nth q 10)) (atI (nth q 11)) (atI (nth q 12)) (atI (nth q 13))⟩]) (tabJ []) 23 (fTs ti_vec_Length [.i a0, .i a1, .i a2]).1 = (
  L_vec_Length_0 F (fun (v1360 : Int) (v1361 : Int) (v1362 : Int) (v1363 : Int) (v1364 : Bool) (v1365 : Int) (v1366 : Int) (v1367 : Int) (v1368 : Int) (v1369 : Int) (v1370 : Int) (v1371 : Int) (v1372 : Int) (v1373 : Int) (v1374 : Int) =>
    some (.v (.tuple #[.int .i64 v1363, .bool v1364]))) (fun (v1375 : Int) (v1376 : Int) (v1377 : Int) (v1378 : Int) (v1379 : Bool) (v1380 : Int) (v1381 : Int) (v1382 : Int) (v1383 : Int) (v1384 : Int) (v1385 : Int) (v1386 : Int) (v1387 : Int) (v1388 : Int) =>
    bif (ok_root_Wide F v1387 v1388) then (
      let v1422 : Int := (o_root_Wide_0 F v1387 v1388)
      bif ((decide (v1422 > 9223372036854775807))) then (
        some (.v (.tuple #[.int .i64 9223372036854775807, .bool true])))
      else (
        some (.v (.tuple #[.int .i64 ((IntKind.wrap .i64 v1422)), .bool false]))))
    else (
      none)) F a0 a1 a2 0 false a0 a1 a2 0 a0 a1 a2 0 0 : R) := by
    intros
    kernel_rfl
  exact (h ok_vec_bare o_vec_bare_0 ok_root_Square o_root_Square_0 o_root_Square_1 ok_wide_Add o_wide_Add_0 o_wide_Add_1 ok_wide_Sign o_wide_Sign_0 ok_root_Wide o_root_Wide_0 o_root_Wide_1 L_vec_Length_0).trans (by kernel_rfl)
def ok_vec_Length (F : Nat) (a0 : Int) (a1 : Int) (a2 : Int) : Bool := okT to_vec_Length (f_vec_Length F a0 a1 a2)
def o_vec_Length_0 (F : Nat) (a0 : Int) (a1 : Int) (a2 : Int) : Int := atI (nth (outT to_vec_Length (f_vec_Length F a0 a1 a2)) 0)
def o_vec_Length_1 (F : Nat) (a0 : Int) (a1 : Int) (a2 : Int) : Bool := atB (nth (outT to_vec_Length (f_vec_Length F a0 a1 a2)) 1)
theorem k_vec_Length (F : Nat) (a0 : Int) (a1 : Int) (a2 : Int) {z0 : Int} {z1 : Bool} (h : f_vec_Length F a0 a1 a2 = some (.v (.tuple #[.int .i64 z0, .bool z1]))) : ok_vec_Length F a0 a1 a2 = true ∧ o_vec_Length_0 F a0 a1 a2 = z0 ∧ o_vec_Length_1 F a0 a1 a2 = z1 := by
  refine ⟨?_, ?_, ?_⟩
  · unfold ok_vec_Length; rw [h]; kernel_rfl
  · unfold o_vec_Length_0; rw [h]; kernel_rfl
  · unfold o_vec_Length_1; rw [h]; kernel_rfl
def s_vec_Length (F : Nat) : List VV → Option (Bool × VV) := spec ti_vec_Length to_vec_Length (fun q => (ok_vec_Length F (atI (nth q 0)) (atI (nth q 1)) (atI (nth q 2)))) (fun q => [.i (o_vec_Length_0 F (atI (nth q 0)) (atI (nth q 1)) (atI (nth q 2))), .b (o_vec_Length_1 F (atI (nth q 0)) (atI (nth q 1)) (atI (nth q 2)))])
theorem hS_vec_Length (F : Nat) : ∀ f, Good PP f (unS (S_vec_Length F f)) := words_good fun p hp => by
  simp only [List.mem_cons, List.not_mem_nil, or_false] at hp
  rcases hp with rfl | rfl | rfl | rfl | rfl
  · exact g_vec_bare F
  · exact g_root_Square F
  · exact g_wide_Add F
  · exact g_wide_Sign F
  · exact g_root_Wide F
theorem hl_vec_Length (F : Nat) : ∀ p ∈ loopsIn PP 23, LoopOK PP (S_vec_Length F) c_vec_Length F (I_vec_Length F) (J_vec_Length F) p :=
  loops_of [(0, loopAt PP 23 0)] (by kernel_rfl) (all_cons
    (loop_ok (W_vec_Length F) rfl (tab_cons (fun _ k q => Le.ofEq ((lL_vec_Length_0 F k F (atI (nth q 0)) (atI (nth q 1)) (atI (nth q 2)) (atI (nth q 3)) (atB (nth q 4)) (atI (nth q 5)) (atI (nth q 6)) (atI (nth q 7)) (atI (nth q 8)) (atI (nth q 9)) (atI (nth q 10)) (atI (nth q 11)) (atI (nth q 12)) (atI (nth q 13))).symm.trans (congrArg (iterC (codeL PP (S_vec_Length F) c_vec_Length (I_vec_Length F) (J_vec_Length F) (loopAt PP 23 0) 0) (headOf c_vec_Length 0) k F) (show fS T_vec_Length_0 [.i (atI (nth q 0)), .i (atI (nth q 1)), .i (atI (nth q 2)), .i (atI (nth q 3)), .b (atB (nth q 4)), .i (atI (nth q 5)), .i (atI (nth q 6)), .i (atI (nth q 7)), .i (atI (nth q 8)), .i (atI (nth q 9)), .i (atI (nth q 10)), .i (atI (nth q 11)), .i (atI (nth q 12)), .i (atI (nth q 13))] = fS T_vec_Length_0 q by kernel_rfl)))) tab_nil)) all_nil)
theorem hj_vec_Length (F : Nat) : ∀ p ∈ joinsIn PP c_vec_Length 23, JoinOK PP (S_vec_Length F) c_vec_Length (I_vec_Length F) (J_vec_Length F) p :=
  joins_of [] (by kernel_rfl) all_nil
theorem g_vec_Length (F : Nat) : Good PP 23 (unS (s_vec_Length F)) :=
  fun_spec (hS_vec_Length F) (by kernel_rfl) (by kernel_rfl) (C := c_vec_Length) (F := fun q => (f_vec_Length F (atI (nth q 0)) (atI (nth q 1)) (atI (nth q 2)))) (fun _ => F) (fun _ => I_vec_Length F) (fun _ => J_vec_Length F) (fun _ => hl_vec_Length F) (fun _ => hj_vec_Length F)
    (fun q => (congrArg (funL PP (S_vec_Length F) c_vec_Length (I_vec_Length F) (J_vec_Length F) 23) (show (fTs ti_vec_Length q).1 = (fTs ti_vec_Length [.i (atI (nth q 0)), .i (atI (nth q 1)), .i (atI (nth q 2))]).1 by kernel_rfl)).trans (e_vec_Length F (atI (nth q 0)) (atI (nth q 1)) (atI (nth q 2))))
    (fun _ h => (okT_fill h).trans (congrArg some (by kernel_rfl)))

end Go.Xv
set_option linter.unusedVariables false
namespace Go.Xv
/- 22 _law06_works -/
def c_law06_works : Cfg := ⟨[0, 1, 2], [], [], []⟩
def ti_law06_works : List TV := []
def to_law06_works : TV := .v (.bool)
def S_law06_works (F : Nat) : FuncId → List VV → Option (Bool × VV) := words [(23, s_vec_Length F)]
def W_law06_works (F : Nat) : List LW := []
def I_law06_works (F : Nat) : Nat → VS → (Exit → VS → R) → R := tabI c_law06_works (W_law06_works F)
def WJ_law06_works (F : Nat) : List LJ := []
def J_law06_works (F : Nat) : Nat → Nat → VS → (Exit → VS → R) → R := tabJ (WJ_law06_works F)
def f_law06_works (F : Nat) : R :=
  bif (ok_vec_Length F 12884901888 17179869184 0) then (
    bif ((((o_vec_Length_0 F 12884901888 17179869184 0)) == 21474836480)) then (
      some (.v (.bool ((!((o_vec_Length_1 F 12884901888 17179869184 0)))))))
    else (
      some (.v (.bool false))))
  else (
    none)
theorem e_law06_works (F : Nat) : funL PP (S_law06_works F) c_law06_works (I_law06_works F) (J_law06_works F) 22 (fTs ti_law06_works []).1 = f_law06_works F := by
  have h : ∀ (ok_vec_Length : Nat → Int → Int → Int → Bool) (o_vec_Length_0 : Nat → Int → Int → Int → Int) (o_vec_Length_1 : Nat → Int → Int → Int → Bool), funL PP (words [(23, spec ti_vec_Length to_vec_Length (fun q => (ok_vec_Length F (atI (nth q 0)) (atI (nth q 1)) (atI (nth q 2)))) (fun q => [.i (o_vec_Length_0 F (atI (nth q 0)) (atI (nth q 1)) (atI (nth q 2))), .b (o_vec_Length_1 F (atI (nth q 0)) (atI (nth q 1)) (atI (nth q 2)))]))]) c_law06_works (tabI c_law06_works []) (tabJ []) 22 (fTs ti_law06_works []).1 = (
  bif (ok_vec_Length F 12884901888 17179869184 0) then (
    bif ((((o_vec_Length_0 F 12884901888 17179869184 0)) == 21474836480)) then (
      some (.v (.bool ((!((o_vec_Length_1 F 12884901888 17179869184 0)))))))
    else (
      some (.v (.bool false))))
  else (
    none) : R) := by
    intros
    kernel_rfl
  exact (h ok_vec_Length o_vec_Length_0 o_vec_Length_1).trans (by kernel_rfl)
def ok_law06_works (F : Nat) : Bool := okT to_law06_works (f_law06_works F)
def o_law06_works_0 (F : Nat) : Bool := atB (nth (outT to_law06_works (f_law06_works F)) 0)
theorem k_law06_works (F : Nat) {z0 : Bool} (h : f_law06_works F = some (.v (.bool z0))) : ok_law06_works F = true ∧ o_law06_works_0 F = z0 := by
  refine ⟨?_, ?_⟩
  · unfold ok_law06_works; rw [h]; kernel_rfl
  · unfold o_law06_works_0; rw [h]; kernel_rfl
def s_law06_works (F : Nat) : List VV → Option (Bool × VV) := spec ti_law06_works to_law06_works (fun q => (ok_law06_works F )) (fun q => [.b (o_law06_works_0 F )])
theorem hS_law06_works (F : Nat) : ∀ f, Good PP f (unS (S_law06_works F f)) := words_good fun p hp => by
  simp only [List.mem_cons, List.not_mem_nil, or_false] at hp
  rcases hp with rfl
  · exact g_vec_Length F
theorem hl_law06_works (F : Nat) : ∀ p ∈ loopsIn PP 22, LoopOK PP (S_law06_works F) c_law06_works F (I_law06_works F) (J_law06_works F) p :=
  loops_of [] (by kernel_rfl) all_nil
theorem hj_law06_works (F : Nat) : ∀ p ∈ joinsIn PP c_law06_works 22, JoinOK PP (S_law06_works F) c_law06_works (I_law06_works F) (J_law06_works F) p :=
  joins_of [] (by kernel_rfl) all_nil
theorem g_law06_works (F : Nat) : Good PP 22 (unS (s_law06_works F)) :=
  fun_spec (hS_law06_works F) (by kernel_rfl) (by kernel_rfl) (C := c_law06_works) (F := fun q => (f_law06_works F )) (fun _ => F) (fun _ => I_law06_works F) (fun _ => J_law06_works F) (fun _ => hl_law06_works F) (fun _ => hj_law06_works F)
    (fun q => (congrArg (funL PP (S_law06_works F) c_law06_works (I_law06_works F) (J_law06_works F) 22) (show (fTs ti_law06_works q).1 = (fTs ti_law06_works []).1 by kernel_rfl)).trans (e_law06_works F ))
    (fun _ h => (okT_fill h).trans (congrArg some (by kernel_rfl)))

end Go.Xv
set_option linter.unusedVariables false
namespace Go.Xv
/- 93 _vec_product -/
def c_vec_product : Cfg := ⟨[0, 1, 4], [], [7], []⟩
def ti_vec_product : List TV := [.v (.int .i64), .v (.int .i64)]
def to_vec_product : TV := .v (.agg [.int .i64, .int .u64])
def S_vec_product (F : Nat) : FuncId → List VV → Option (Bool × VV) := words [(116, s_wide_Mul F), (115, s_wide_Near F)]
def W_vec_product (F : Nat) : List LW := []
def I_vec_product (F : Nat) : Nat → VS → (Exit → VS → R) → R := tabI c_vec_product (W_vec_product F)
def WJ_vec_product (F : Nat) : List LJ := []
def J_vec_product (F : Nat) : Nat → Nat → VS → (Exit → VS → R) → R := tabJ (WJ_vec_product F)
def f_vec_product (F : Nat) (a0 : Int) (a1 : Int) : R :=
  bif (ok_wide_Mul F a0 a1) then (
    let v1667 : Int := (o_wide_Mul_0 F a0 a1)
    let v1668 : Int := (o_wide_Mul_1 F a0 a1)
    bif (ok_wide_Near F v1667 v1668 32) then (
      some (.v (.agg #[.int .i64 ((o_wide_Near_0 F v1667 v1668 32)), .int .u64 ((o_wide_Near_1 F v1667 v1668 32))])))
    else (
      none))
  else (
    none)
theorem e_vec_product (F : Nat) (a0 : Int) (a1 : Int) : funL PP (S_vec_product F) c_vec_product (I_vec_product F) (J_vec_product F) 93 (fTs ti_vec_product [.i a0, .i a1]).1 = f_vec_product F a0 a1 := by
  have h : ∀ (ok_wide_Mul : Nat → Int → Int → Bool) (o_wide_Mul_0 : Nat → Int → Int → Int) (o_wide_Mul_1 : Nat → Int → Int → Int) (ok_wide_Near : Nat → Int → Int → Int → Bool) (o_wide_Near_0 : Nat → Int → Int → Int → Int) (o_wide_Near_1 : Nat → Int → Int → Int → Int), funL PP (words [(116, spec ti_wide_Mul to_wide_Mul (fun q => (ok_wide_Mul F (atI (nth q 0)) (atI (nth q 1)))) (fun q => [.i (o_wide_Mul_0 F (atI (nth q 0)) (atI (nth q 1))), .i (o_wide_Mul_1 F (atI (nth q 0)) (atI (nth q 1)))])), (115, spec ti_wide_Near to_wide_Near (fun q => (ok_wide_Near F (atI (nth q 0)) (atI (nth q 1)) (atI (nth q 2)))) (fun q => [.i (o_wide_Near_0 F (atI (nth q 0)) (atI (nth q 1)) (atI (nth q 2))), .i (o_wide_Near_1 F (atI (nth q 0)) (atI (nth q 1)) (atI (nth q 2)))]))]) c_vec_product (tabI c_vec_product []) (tabJ []) 93 (fTs ti_vec_product [.i a0, .i a1]).1 = (
  bif (ok_wide_Mul F a0 a1) then (
    let v1667 : Int := (o_wide_Mul_0 F a0 a1)
    let v1668 : Int := (o_wide_Mul_1 F a0 a1)
    bif (ok_wide_Near F v1667 v1668 32) then (
      some (.v (.agg #[.int .i64 ((o_wide_Near_0 F v1667 v1668 32)), .int .u64 ((o_wide_Near_1 F v1667 v1668 32))])))
    else (
      none))
  else (
    none) : R) := by
    intros
    kernel_rfl
  exact (h ok_wide_Mul o_wide_Mul_0 o_wide_Mul_1 ok_wide_Near o_wide_Near_0 o_wide_Near_1).trans (by kernel_rfl)
def ok_vec_product (F : Nat) (a0 : Int) (a1 : Int) : Bool := okT to_vec_product (f_vec_product F a0 a1)
def o_vec_product_0 (F : Nat) (a0 : Int) (a1 : Int) : Int := atI (nth (outT to_vec_product (f_vec_product F a0 a1)) 0)
def o_vec_product_1 (F : Nat) (a0 : Int) (a1 : Int) : Int := atI (nth (outT to_vec_product (f_vec_product F a0 a1)) 1)
theorem k_vec_product (F : Nat) (a0 : Int) (a1 : Int) {z0 : Int} {z1 : Int} (h : f_vec_product F a0 a1 = some (.v (.agg #[.int .i64 z0, .int .u64 z1]))) : ok_vec_product F a0 a1 = true ∧ o_vec_product_0 F a0 a1 = z0 ∧ o_vec_product_1 F a0 a1 = z1 := by
  refine ⟨?_, ?_, ?_⟩
  · unfold ok_vec_product; rw [h]; kernel_rfl
  · unfold o_vec_product_0; rw [h]; kernel_rfl
  · unfold o_vec_product_1; rw [h]; kernel_rfl
def s_vec_product (F : Nat) : List VV → Option (Bool × VV) := spec ti_vec_product to_vec_product (fun q => (ok_vec_product F (atI (nth q 0)) (atI (nth q 1)))) (fun q => [.i (o_vec_product_0 F (atI (nth q 0)) (atI (nth q 1))), .i (o_vec_product_1 F (atI (nth q 0)) (atI (nth q 1)))])
theorem hS_vec_product (F : Nat) : ∀ f, Good PP f (unS (S_vec_product F f)) := words_good fun p hp => by
  simp only [List.mem_cons, List.not_mem_nil, or_false] at hp
  rcases hp with rfl | rfl
  · exact g_wide_Mul F
  · exact g_wide_Near F
theorem hl_vec_product (F : Nat) : ∀ p ∈ loopsIn PP 93, LoopOK PP (S_vec_product F) c_vec_product F (I_vec_product F) (J_vec_product F) p :=
  loops_of [] (by kernel_rfl) all_nil
theorem hj_vec_product (F : Nat) : ∀ p ∈ joinsIn PP c_vec_product 93, JoinOK PP (S_vec_product F) c_vec_product (I_vec_product F) (J_vec_product F) p :=
  joins_of [] (by kernel_rfl) all_nil
theorem g_vec_product (F : Nat) : Good PP 93 (unS (s_vec_product F)) :=
  fun_spec (hS_vec_product F) (by kernel_rfl) (by kernel_rfl) (C := c_vec_product) (F := fun q => (f_vec_product F (atI (nth q 0)) (atI (nth q 1)))) (fun _ => F) (fun _ => I_vec_product F) (fun _ => J_vec_product F) (fun _ => hl_vec_product F) (fun _ => hj_vec_product F)
    (fun q => (congrArg (funL PP (S_vec_product F) c_vec_product (I_vec_product F) (J_vec_product F) 93) (show (fTs ti_vec_product q).1 = (fTs ti_vec_product [.i (atI (nth q 0)), .i (atI (nth q 1))]).1 by kernel_rfl)).trans (e_vec_product F (atI (nth q 0)) (atI (nth q 1))))
    (fun _ h => (okT_fill h).trans (congrArg some (by kernel_rfl)))

end Go.Xv
set_option linter.unusedVariables false
namespace Go.Xv
/- 94 _vec_clip -/
def c_vec_clip : Cfg := ⟨[0, 1, 2, 3, 4, 5], [], [], []⟩
def ti_vec_clip : List TV := [.v (.agg [.int .i64, .int .u64])]
def to_vec_clip : TV := .v (.tup [.int .i64, .bool])
def S_vec_clip (F : Nat) : FuncId → List VV → Option (Bool × VV) := words [(117, s_wide_Clip F)]
def W_vec_clip (F : Nat) : List LW := []
def I_vec_clip (F : Nat) : Nat → VS → (Exit → VS → R) → R := tabI c_vec_clip (W_vec_clip F)
def WJ_vec_clip (F : Nat) : List LJ := []
def J_vec_clip (F : Nat) : Nat → Nat → VS → (Exit → VS → R) → R := tabJ (WJ_vec_clip F)
def f_vec_clip (F : Nat) (a0 : Int) (a1 : Int) : R :=
  bif (ok_wide_Clip F a0 a1) then (
    some (.v (.tuple #[.int .i64 ((o_wide_Clip_0 F a0 a1)), .bool ((o_wide_Clip_1 F a0 a1))])))
  else (
    none)
theorem e_vec_clip (F : Nat) (a0 : Int) (a1 : Int) : funL PP (S_vec_clip F) c_vec_clip (I_vec_clip F) (J_vec_clip F) 94 (fTs ti_vec_clip [.i a0, .i a1]).1 = f_vec_clip F a0 a1 := by
  have h : ∀ (ok_wide_Clip : Nat → Int → Int → Bool) (o_wide_Clip_0 : Nat → Int → Int → Int) (o_wide_Clip_1 : Nat → Int → Int → Bool), funL PP (words [(117, spec ti_wide_Clip to_wide_Clip (fun q => (ok_wide_Clip F (atI (nth q 0)) (atI (nth q 1)))) (fun q => [.i (o_wide_Clip_0 F (atI (nth q 0)) (atI (nth q 1))), .b (o_wide_Clip_1 F (atI (nth q 0)) (atI (nth q 1)))]))]) c_vec_clip (tabI c_vec_clip []) (tabJ []) 94 (fTs ti_vec_clip [.i a0, .i a1]).1 = (
  bif (ok_wide_Clip F a0 a1) then (
    some (.v (.tuple #[.int .i64 ((o_wide_Clip_0 F a0 a1)), .bool ((o_wide_Clip_1 F a0 a1))])))
  else (
    none) : R) := by
    intros
    kernel_rfl
  exact (h ok_wide_Clip o_wide_Clip_0 o_wide_Clip_1).trans (by kernel_rfl)
def ok_vec_clip (F : Nat) (a0 : Int) (a1 : Int) : Bool := okT to_vec_clip (f_vec_clip F a0 a1)
def o_vec_clip_0 (F : Nat) (a0 : Int) (a1 : Int) : Int := atI (nth (outT to_vec_clip (f_vec_clip F a0 a1)) 0)
def o_vec_clip_1 (F : Nat) (a0 : Int) (a1 : Int) : Bool := atB (nth (outT to_vec_clip (f_vec_clip F a0 a1)) 1)
theorem k_vec_clip (F : Nat) (a0 : Int) (a1 : Int) {z0 : Int} {z1 : Bool} (h : f_vec_clip F a0 a1 = some (.v (.tuple #[.int .i64 z0, .bool z1]))) : ok_vec_clip F a0 a1 = true ∧ o_vec_clip_0 F a0 a1 = z0 ∧ o_vec_clip_1 F a0 a1 = z1 := by
  refine ⟨?_, ?_, ?_⟩
  · unfold ok_vec_clip; rw [h]; kernel_rfl
  · unfold o_vec_clip_0; rw [h]; kernel_rfl
  · unfold o_vec_clip_1; rw [h]; kernel_rfl
def s_vec_clip (F : Nat) : List VV → Option (Bool × VV) := spec ti_vec_clip to_vec_clip (fun q => (ok_vec_clip F (atI (nth q 0)) (atI (nth q 1)))) (fun q => [.i (o_vec_clip_0 F (atI (nth q 0)) (atI (nth q 1))), .b (o_vec_clip_1 F (atI (nth q 0)) (atI (nth q 1)))])
theorem hS_vec_clip (F : Nat) : ∀ f, Good PP f (unS (S_vec_clip F f)) := words_good fun p hp => by
  simp only [List.mem_cons, List.not_mem_nil, or_false] at hp
  rcases hp with rfl
  · exact g_wide_Clip F
theorem hl_vec_clip (F : Nat) : ∀ p ∈ loopsIn PP 94, LoopOK PP (S_vec_clip F) c_vec_clip F (I_vec_clip F) (J_vec_clip F) p :=
  loops_of [] (by kernel_rfl) all_nil
theorem hj_vec_clip (F : Nat) : ∀ p ∈ joinsIn PP c_vec_clip 94, JoinOK PP (S_vec_clip F) c_vec_clip (I_vec_clip F) (J_vec_clip F) p :=
  joins_of [] (by kernel_rfl) all_nil
theorem g_vec_clip (F : Nat) : Good PP 94 (unS (s_vec_clip F)) :=
  fun_spec (hS_vec_clip F) (by kernel_rfl) (by kernel_rfl) (C := c_vec_clip) (F := fun q => (f_vec_clip F (atI (nth q 0)) (atI (nth q 1)))) (fun _ => F) (fun _ => I_vec_clip F) (fun _ => J_vec_clip F) (fun _ => hl_vec_clip F) (fun _ => hj_vec_clip F)
    (fun q => (congrArg (funL PP (S_vec_clip F) c_vec_clip (I_vec_clip F) (J_vec_clip F) 94) (show (fTs ti_vec_clip q).1 = (fTs ti_vec_clip [.i (atI (nth q 0)), .i (atI (nth q 1))]).1 by kernel_rfl)).trans (e_vec_clip F (atI (nth q 0)) (atI (nth q 1))))
    (fun _ h => (okT_fill h).trans (congrArg some (by kernel_rfl)))

end Go.Xv
set_option linter.unusedVariables false
namespace Go.Xv
/- 47 _vec_Dot -/
def c_vec_Dot : Cfg := ⟨[0, 1, 2, 3, 4, 5, 6, 7, 8, 9], [(0, [0, 1, 2, 3, 4, 5, 6, 8, 21, 22, 23, 24])], [18], []⟩
def ti_vec_Dot : List TV := [.v (.agg [.int .i64, .int .i64, .int .i64]), .v (.agg [.int .i64, .int .i64, .int .i64])]
def to_vec_Dot : TV := .v (.tup [.int .i64, .bool])
def S_vec_Dot (F : Nat) : FuncId → List VV → Option (Bool × VV) := words [(93, s_vec_product F), (71, s_wide_Add F), (94, s_vec_clip F)]
def T_vec_Dot_0 : TS := ⟨[(0, .v (.agg [.int .i64, .int .i64, .int .i64])), (1, .v (.agg [.int .i64, .int .i64, .int .i64])), (2, .lp 0 (.lit 0)), (3, .lp 1 (.lit 0)), (4, .v (.int .i64)), (5, .v (.bool)), (6, .lp 2 (.lit 0)), (8, .v (.int .i64))], [(0, ⟨(.ex [.v (.int .i64), .v (.int .i64), .v (.int .i64)]), true⟩), (1, ⟨(.ex [.v (.int .i64), .v (.int .i64), .v (.int .i64)]), true⟩), (2, ⟨(.ex [.v (.int .i64), .v (.int .u64)]), true⟩)], 3⟩
def T_vec_Dot_0_0 : TS := ⟨[(0, .v (.agg [.int .i64, .int .i64, .int .i64])), (1, .v (.agg [.int .i64, .int .i64, .int .i64])), (2, .lp 0 (.lit 0)), (3, .lp 1 (.lit 0)), (4, .v (.int .i64)), (5, .v (.bool)), (6, .lp 2 (.lit 0)), (8, .v (.int .i64))], [(0, ⟨(.ex [.v (.int .i64), .v (.int .i64), .v (.int .i64)]), true⟩), (1, ⟨(.ex [.v (.int .i64), .v (.int .i64), .v (.int .i64)]), true⟩), (2, ⟨(.ex [.v (.int .i64), .v (.int .u64)]), true⟩)], 3⟩
def B_vec_Dot_0 (F : Nat) (rc : Int → Int → Int → Int → Int → Int → Int → Bool → Int → Int → Int → Int → Int → Int → Int → Int → Int → R) (ex0 : Int → Int → Int → Int → Int → Int → Int → Bool → Int → Int → Int → Int → Int → Int → Int → Int → Int → R) (x0 : Int) (x1 : Int) (x2 : Int) (x3 : Int) (x4 : Int) (x5 : Int) (x6 : Int) (x7 : Bool) (x8 : Int) (x9 : Int) (x10 : Int) (x11 : Int) (x12 : Int) (x13 : Int) (x14 : Int) (x15 : Int) (x16 : Int) : R :=
  bif ((decide (x8 < 3))) then (
    bif ((decide (0 ≤ x8)) && (decide (x8 < 3))) then (
      let v1625 : Nat := (0 + ((Int.toNat x8) * 1))
      bif ((isI .i64 [.v (.int .i64 x9), .v (.int .i64 x10), .v (.int .i64 x11)][v1625]?) && true) then (
        let v1626 : Int := (iv [.v (.int .i64 x9), .v (.int .i64 x10), .v (.int .i64 x11)][v1625]?)
        bif ((decide (0 ≤ x8)) && (decide (x8 < 3))) then (
          let v1627 : Nat := (0 + ((Int.toNat x8) * 1))
          bif ((isI .i64 [.v (.int .i64 x12), .v (.int .i64 x13), .v (.int .i64 x14)][v1627]?) && true) then (
            let v1628 : Int := (iv [.v (.int .i64 x12), .v (.int .i64 x13), .v (.int .i64 x14)][v1627]?)
            bif (ok_vec_product F v1626 v1628) then (
              let v1696 : Int := (o_vec_product_0 F v1626 v1628)
              let v1697 : Int := (o_vec_product_1 F v1626 v1628)
              bif (ok_wide_Add F x15 x16 v1696 v1697) then (
                rc x0 x1 x2 x3 x4 x5 x6 x7 ((IntKind.wrap .i64 (x8 + 1))) x9 x10 x11 x12 x13 x14 ((o_wide_Add_0 F x15 x16 v1696 v1697)) ((o_wide_Add_1 F x15 x16 v1696 v1697)))
              else (
                none))
            else (
              none))
          else (
            none))
        else (
          none))
      else (
        none))
    else (
      none))
  else (
    ex0 x0 x1 x2 x3 x4 x5 x6 x7 x8 x9 x10 x11 x12 x13 x14 x15 x16)
def L_vec_Dot_0 (F : Nat) (ex0 : Int → Int → Int → Int → Int → Int → Int → Bool → Int → Int → Int → Int → Int → Int → Int → Int → Int → R) : Nat → Int → Int → Int → Int → Int → Int → Int → Bool → Int → Int → Int → Int → Int → Int → Int → Int → Int → R
  | 0, _, _, _, _, _, _, _, _, _, _, _, _, _, _, _, _, _ => none
  | n + 1, x0, x1, x2, x3, x4, x5, x6, x7, x8, x9, x10, x11, x12, x13, x14, x15, x16 => B_vec_Dot_0 F (L_vec_Dot_0 F ex0 n) ex0 x0 x1 x2 x3 x4 x5 x6 x7 x8 x9 x10 x11 x12 x13 x14 x15 x16
def W_vec_Dot (F : Nat) : List LW := [⟨0, T_vec_Dot_0, fun k q => L_vec_Dot_0 F (fun (z0 : Int) (z1 : Int) (z2 : Int) (z3 : Int) (z4 : Int) (z5 : Int) (z6 : Int) (z7 : Bool) (z8 : Int) (z9 : Int) (z10 : Int) (z11 : Int) (z12 : Int) (z13 : Int) (z14 : Int) (z15 : Int) (z16 : Int) => k (.exit 0) (fS T_vec_Dot_0_0 [.i z0, .i z1, .i z2, .i z3, .i z4, .i z5, .i z6, .b z7, .i z8, .i z9, .i z10, .i z11, .i z12, .i z13, .i z14, .i z15, .i z16])) F (atI (nth q 0)) (atI (nth q 1)) (atI (nth q 2)) (atI (nth q 3)) (atI (nth q 4)) (atI (nth q 5)) (atI (nth q 6)) (atB (nth q 7)) (atI (nth q 8)) (atI (nth q 9)) (atI (nth q 10)) (atI (nth q 11)) (atI (nth q 12)) (atI (nth q 13)) (atI (nth q 14)) (atI (nth q 15)) (atI (nth q 16))⟩]
def I_vec_Dot (F : Nat) : Nat → VS → (Exit → VS → R) → R := tabI c_vec_Dot (W_vec_Dot F)
def WJ_vec_Dot (F : Nat) : List LJ := []
def J_vec_Dot (F : Nat) : Nat → Nat → VS → (Exit → VS → R) → R := tabJ (WJ_vec_Dot F)
theorem lL_vec_Dot_0 (F : Nat) (k : Exit → VS → R) : ∀ (n : Nat) (x0 : Int) (x1 : Int) (x2 : Int) (x3 : Int) (x4 : Int) (x5 : Int) (x6 : Int) (x7 : Bool) (x8 : Int) (x9 : Int) (x10 : Int) (x11 : Int) (x12 : Int) (x13 : Int) (x14 : Int) (x15 : Int) (x16 : Int), iterC (codeL PP (S_vec_Dot F) c_vec_Dot (I_vec_Dot F) (J_vec_Dot F) (loopAt PP 47 0) 0) (headOf c_vec_Dot 0) k n (fS T_vec_Dot_0 [.i x0, .i x1, .i x2, .i x3, .i x4, .i x5, .i x6, .b x7, .i x8, .i x9, .i x10, .i x11, .i x12, .i x13, .i x14, .i x15, .i x16]) = L_vec_Dot_0 F (fun (z0 : Int) (z1 : Int) (z2 : Int) (z3 : Int) (z4 : Int) (z5 : Int) (z6 : Int) (z7 : Bool) (z8 : Int) (z9 : Int) (z10 : Int) (z11 : Int) (z12 : Int) (z13 : Int) (z14 : Int) (z15 : Int) (z16 : Int) => k (.exit 0) (fS T_vec_Dot_0_0 [.i z0, .i z1, .i z2, .i z3, .i z4, .i z5, .i z6, .b z7, .i z8, .i z9, .i z10, .i z11, .i z12, .i z13, .i z14, .i z15, .i z16])) n x0 x1 x2 x3 x4 x5 x6 x7 x8 x9 x10 x11 x12 x13 x14 x15 x16
  | 0, _, _, _, _, _, _, _, _, _, _, _, _, _, _, _, _, _ => rfl
  | n + 1, x0, x1, x2, x3, x4, x5, x6, x7, x8, x9, x10, x11, x12, x13, x14, x15, x16 => by
    have h0 : ∀ (ok_vec_product : Nat → Int → Int → Bool) (o_vec_product_0 : Nat → Int → Int → Int) (o_vec_product_1 : Nat → Int → Int → Int) (ok_wide_Add : Nat → Int → Int → Int → Int → Bool) (o_wide_Add_0 : Nat → Int → Int → Int → Int → Int) (o_wide_Add_1 : Nat → Int → Int → Int → Int → Int) (ok_vec_clip : Nat → Int → Int → Bool) (o_vec_clip_0 : Nat → Int → Int → Int) (o_vec_clip_1 : Nat → Int → Int → Bool) (L_vec_Dot_0 : Nat → (Int → Int → Int → Int → Int → Int → Int → Bool → Int → Int → Int → Int → Int → Int → Int → Int → Int → R) → Nat → Int → Int → Int → Int → Int → Int → Int → Bool → Int → Int → Int → Int → Int → Int → Int → Int → Int → R), iterC (codeL PP (words [(93, spec ti_vec_product to_vec_product (fun q => (ok_vec_product F (atI (nth q 0)) (atI (nth q 1)))) (fun q => [.i (o_vec_product_0 F (atI (nth q 0)) (atI (nth q 1))), .i (o_vec_product_1 F (atI (nth q 0)) (atI (nth q 1)))])), (71, spec ti_wide_Add to_wide_Add (fun q => (ok_wide_Add F (atI (nth q 0)) (atI (nth q 1)) (atI (nth q 2)) (atI (nth q 3)))) (fun q => [.i (o_wide_Add_0 F (atI (nth q 0)) (atI (nth q 1)) (atI (nth q 2)) (atI (nth q 3))), .i (o_wide_Add_1 F (atI (nth q 0)) (atI (nth q 1)) (atI (nth q 2)) (atI (nth q 3)))])), (94, spec ti_vec_clip to_vec_clip (fun q => (ok_vec_clip F (atI (nth q 0)) (atI (nth q 1)))) (fun q => [.i (o_vec_clip_0 F (atI (nth q 0)) (atI (nth q 1))), .b (o_vec_clip_1 F (atI (nth q 0)) (atI (nth q 1)))]))]) c_vec_Dot (tabI c_vec_Dot [⟨0, T_vec_Dot_0, fun k q => L_vec_Dot_0 F (fun (z0 : Int) (z1 : Int) (z2 : Int) (z3 : Int) (z4 : Int) (z5 : Int) (z6 : Int) (z7 : Bool) (z8 : Int) (z9 : Int) (z10 : Int) (z11 : Int) (z12 : Int) (z13 : Int) (z14 : Int) (z15 : Int) (z16 : Int) => k (.exit 0) (fS T_vec_Dot_0_0 [.i z0, .i z1, .i z2, .i z3, .i z4, .i z5, .i z6, .b z7, .i z8, .i z9, .i z10, .i z11, .i z12, .i z13, .i z14, .i z15, .i z16])) F (atI (nth q 0)) (atI (nth q 1)) (atI (nth q 2)) (atI (nth q 3)) (atI (nth q 4)) (atI (nth q 5)) (atI (nth q 6)) (atB (nth q 7)) (atI (nth q 8)) (atI (nth q 9)) (atI (nth q 10)) (atI (nth q 11)) (atI (nth q 12)) (atI (nth q 13)) (atI (nth q 14)) (atI (nth q 15)) (atI (nth q 16))⟩]) (tabJ []) (loopAt PP 47 0) 0) (headOf c_vec_Dot 0) k (n + 1) (fS T_vec_Dot_0 [.i x0, .i x1, .i x2, .i x3, .i x4, .i x5, .i x6, .b x7, .i x8, .i x9, .i x10, .i x11, .i x12, .i x13, .i x14, .i x15, .i x16]) = (fun (rc : Int → Int → Int → Int → Int → Int → Int → Bool → Int → Int → Int → Int → Int → Int → Int → Int → Int → R) (ex0 : Int → Int → Int → Int → Int → Int → Int → Bool → Int → Int → Int → Int → Int → Int → Int → Int → Int → R) (x0 : Int) (x1 : Int) (x2 : Int) (x3 : Int) (x4 : Int) (x5 : Int) (x6 : Int) (x7 : Bool) (x8 : Int) (x9 : Int) (x10 : Int) (x11 : Int) (x12 : Int) (x13 : Int) (x14 : Int) (x15 : Int) (x16 : Int) => (
  bif ((decide (x8 < 3))) then (
    bif ((decide (0 ≤ x8)) && (decide (x8 < 3))) then (
      let v1625 : Nat := (0 + ((Int.toNat x8) * 1))
      bif ((isI .i64 [.v (.int .i64 x9), .v (.int .i64 x10), .v (.int .i64 x11)][v1625]?) && true) then (
        let v1626 : Int := (iv [.v (.int .i64 x9), .v (.int .i64 x10), .v (.int .i64 x11)][v1625]?)
        bif ((decide (0 ≤ x8)) && (decide (x8 < 3))) then (
          let v1627 : Nat := (0 + ((Int.toNat x8) * 1))
          bif ((isI .i64 [.v (.int .i64 x12), .v (.int .i64 x13), .v (.int .i64 x14)][v1627]?) && true) then (
            let v1628 : Int := (iv [.v (.int .i64 x12), .v (.int .i64 x13), .v (.int .i64 x14)][v1627]?)
            bif (ok_vec_product F v1626 v1628) then (
              let v1696 : Int := (o_vec_product_0 F v1626 v1628)
              let v1697 : Int := (o_vec_product_1 F v1626 v1628)
              bif (ok_wide_Add F x15 x16 v1696 v1697) then (
                rc x0 x1 x2 x3 x4 x5 x6 x7 ((IntKind.wrap .i64 (x8 + 1))) x9 x10 x11 x12 x13 x14 ((o_wide_Add_0 F x15 x16 v1696 v1697)) ((o_wide_Add_1 F x15 x16 v1696 v1697)))
              else (
                none))
            else (
              none))
          else (
            none))
        else (
          none))
      else (
        none))
    else (
      none))
  else (
    ex0 x0 x1 x2 x3 x4 x5 x6 x7 x8 x9 x10 x11 x12 x13 x14 x15 x16) : R)) (fun (y0 : Int) (y1 : Int) (y2 : Int) (y3 : Int) (y4 : Int) (y5 : Int) (y6 : Int) (y7 : Bool) (y8 : Int) (y9 : Int) (y10 : Int) (y11 : Int) (y12 : Int) (y13 : Int) (y14 : Int) (y15 : Int) (y16 : Int) => iterC (codeL PP (words [(93, spec ti_vec_product to_vec_product (fun q => (ok_vec_product F (atI (nth q 0)) (atI (nth q 1)))) (fun q => [.i (o_vec_product_0 F (atI (nth q 0)) (atI (nth q 1))), .i (o_vec_product_1 F (atI (nth q 0)) (atI (nth q 1)))])), (71, spec ti_wide_Add to_wide_Add (fun q => (ok_wide_Add F (atI (nth q 0)) (atI (nth q 1)) (atI (nth q 2)) (atI (nth q 3)))) (fun q => [.i (o_wide_Add_0 F (atI (nth q 0)) (atI (nth q 1)) (atI (nth q 2)) (atI (nth q 3))), .i (o_wide_Add_1 F (atI (nth q 0)) (atI (nth q 1)) (atI (nth q 2)) (atI (nth q 3)))])), (94, spec ti_vec_clip to_vec_clip (fun q => (ok_vec_clip F (atI (nth q 0)) (atI (nth q 1)))) (fun q => [.i (o_vec_clip_0 F (atI (nth q 0)) (atI (nth q 1))), .b (o_vec_clip_1 F (atI (nth q 0)) (atI (nth q 1)))]))]) c_vec_Dot (tabI c_vec_Dot [⟨0, T_vec_Dot_0, fun k q => L_vec_Dot_0 F (fun (z0 : Int) (z1 : Int) (z2 : Int) (z3 : Int) (z4 : Int) (z5 : Int) (z6 : Int) (z7 : Bool) (z8 : Int) (z9 : Int) (z10 : Int) (z11 : Int) (z12 : Int) (z13 : Int) (z14 : Int) (z15 : Int) (z16 : Int) => k (.exit 0) (fS T_vec_Dot_0_0 [.i z0, .i z1, .i z2, .i z3, .i z4, .i z5, .i z6, .b z7, .i z8, .i z9, .i z10, .i z11, .i z12, .i z13, .i z14, .i z15, .i z16])) F (atI (nth q 0)) (atI (nth q 1)) (atI (nth q 2)) (atI (nth q 3)) (atI (nth q 4)) (atI (nth q 5)) (atI (nth q 6)) (atB (nth q 7)) (atI (nth q 8)) (atI (nth q 9)) (atI (nth q 10)) (atI (nth q 11)) (atI (nth q 12)) (atI (nth q 13)) (atI (nth q 14)) (atI (nth q 15)) (atI (nth q 16))⟩]) (tabJ []) (loopAt PP 47 0) 0) (headOf c_vec_Dot 0) k n (fS T_vec_Dot_0 [.i y0, .i y1, .i y2, .i y3, .i y4, .i y5, .i y6, .b y7, .i y8, .i y9, .i y10, .i y11, .i y12, .i y13, .i y14, .i y15, .i y16])) (fun (z0 : Int) (z1 : Int) (z2 : Int) (z3 : Int) (z4 : Int) (z5 : Int) (z6 : Int) (z7 : Bool) (z8 : Int) (z9 : Int) (z10 : Int) (z11 : Int) (z12 : Int) (z13 : Int) (z14 : Int) (z15 : Int) (z16 : Int) => k (.exit 0) (fS T_vec_Dot_0_0 [.i z0, .i z1, .i z2, .i z3, .i z4, .i z5, .i z6, .b z7, .i z8, .i z9, .i z10, .i z11, .i z12, .i z13, .i z14, .i z15, .i z16])) x0 x1 x2 x3 x4 x5 x6 x7 x8 x9 x10 x11 x12 x13 x14 x15 x16 := by
      intros
      kernel_rfl
    have h : iterC (codeL PP (S_vec_Dot F) c_vec_Dot (I_vec_Dot F) (J_vec_Dot F) (loopAt PP 47 0) 0) (headOf c_vec_Dot 0) k (n + 1) (fS T_vec_Dot_0 [.i x0, .i x1, .i x2, .i x3, .i x4, .i x5, .i x6, .b x7, .i x8, .i x9, .i x10, .i x11, .i x12, .i x13, .i x14, .i x15, .i x16]) = B_vec_Dot_0 F (fun (y0 : Int) (y1 : Int) (y2 : Int) (y3 : Int) (y4 : Int) (y5 : Int) (y6 : Int) (y7 : Bool) (y8 : Int) (y9 : Int) (y10 : Int) (y11 : Int) (y12 : Int) (y13 : Int) (y14 : Int) (y15 : Int) (y16 : Int) => iterC (codeL PP (S_vec_Dot F) c_vec_Dot (I_vec_Dot F) (J_vec_Dot F) (loopAt PP 47 0) 0) (headOf c_vec_Dot 0) k n (fS T_vec_Dot_0 [.i y0, .i y1, .i y2, .i y3, .i y4, .i y5, .i y6, .b y7, .i y8, .i y9, .i y10, .i y11, .i y12, .i y13, .i y14, .i y15, .i y16])) (fun (z0 : Int) (z1 : Int) (z2 : Int) (z3 : Int) (z4 : Int) (z5 : Int) (z6 : Int) (z7 : Bool) (z8 : Int) (z9 : Int) (z10 : Int) (z11 : Int) (z12 : Int) (z13 : Int) (z14 : Int) (z15 : Int) (z16 : Int) => k (.exit 0) (fS T_vec_Dot_0_0 [.i z0, .i z1, .i z2, .i z3, .i z4, .i z5, .i z6, .b z7, .i z8, .i z9, .i z10, .i z11, .i z12, .i z13, .i z14, .i z15, .i z16])) x0 x1 x2 x3 x4 x5 x6 x7 x8 x9 x10 x11 x12 x13 x14 x15 x16 := (h0 ok_vec_product o_vec_product_0 o_vec_product_1 ok_wide_Add o_wide_Add_0 o_wide_Add_1 ok_vec_clip o_vec_clip_0 o_vec_clip_1 L_vec_Dot_0).trans (by kernel_rfl)
    rw [h]
    simp only [lL_vec_Dot_0 F k n]
    rfl
def f_vec_Dot (F : Nat) (a0 : Int) (a1 : Int) (a2 : Int) (a3 : Int) (a4 : Int) (a5 : Int) : R :=
  L_vec_Dot_0 F (fun (v1701 : Int) (v1702 : Int) (v1703 : Int) (v1704 : Int) (v1705 : Int) (v1706 : Int) (v1707 : Int) (v1708 : Bool) (v1709 : Int) (v1710 : Int) (v1711 : Int) (v1712 : Int) (v1713 : Int) (v1714 : Int) (v1715 : Int) (v1716 : Int) (v1717 : Int) =>
    bif (ok_vec_clip F v1716 v1717) then (
      some (.v (.tuple #[.int .i64 ((o_vec_clip_0 F v1716 v1717)), .bool ((o_vec_clip_1 F v1716 v1717))])))
    else (
      none)) F a0 a1 a2 a3 a4 a5 0 false 0 a0 a1 a2 a3 a4 a5 0 0
theorem e_vec_Dot (F : Nat) (a0 : Int) (a1 : Int) (a2 : Int) (a3 : Int) (a4 : Int) (a5 : Int) : funL PP (S_vec_Dot F) c_vec_Dot (I_vec_Dot F) (J_vec_Dot F) 47 (fTs ti_vec_Dot [.i a0, .i a1, .i a2, .i a3, .i a4, .i a5]).1 = f_vec_Dot F a0 a1 a2 a3 a4 a5 := by
  have h : ∀ (ok_vec_product : Nat → Int → Int → Bool) (o_vec_product_0 : Nat → Int → Int → Int) (o_vec_product_1 : Nat → Int → Int → Int) (ok_wide_Add : Nat → Int → Int → Int → Int → Bool) (o_wide_Add_0 : Nat → Int → Int → Int → Int → Int) (o_wide_Add_1 : Nat → Int → Int → Int → Int → Int) (ok_vec_clip : Nat → Int → Int → Bool) (o_vec_clip_0 : Nat → Int → Int → Int) (o_vec_clip_1 : Nat → Int → Int → Bool) (L_vec_Dot_0 : Nat → (Int → Int → Int → Int → Int → Int → Int → Bool → Int → Int → Int → Int → Int → Int → Int → Int → Int → R) → Nat → Int → Int → Int → Int → Int → Int → Int → Bool → Int → Int → Int → Int → Int → Int → Int → Int → Int → R), funL PP (words [(93, spec ti_vec_product to_vec_product (fun q => (ok_vec_product F (atI (nth q 0)) (atI (nth q 1)))) (fun q => [.i (o_vec_product_0 F (atI (nth q 0)) (atI (nth q 1))), .i (o_vec_product_1 F (atI (nth q 0)) (atI (nth q 1)))])), (71, spec ti_wide_Add to_wide_Add (fun q => (ok_wide_Add F (atI (nth q 0)) (atI (nth q 1)) (atI (nth q 2)) (atI (nth q 3)))) (fun q => [.i (o_wide_Add_0 F (atI (nth q 0)) (atI (nth q 1)) (atI (nth q 2)) (atI (nth q 3))), .i (o_wide_Add_1 F (atI (nth q 0)) (atI (nth q 1)) (atI (nth q 2)) (atI (nth q 3)))])), (94, spec ti_vec_clip to_vec_clip (fun q => (ok_vec_clip F (atI (nth q 0)) (atI (nth q 1)))) (fun q => [.i (o_vec_clip_0 F (atI (nth q 0)) (atI (nth q 1))), .b (o_vec_clip_1 F (atI (nth q 0)) (atI (nth q 1)))]))]) c_vec_Dot (tabI c_vec_Dot [⟨0, T_vec_Dot_0, fun k q => L_vec_Dot_0 F (fun (z0 : Int) (z1 : Int) (z2 : Int) (z3 : Int) (z4 : Int) (z5 : Int) (z6 : Int) (z7 : Bool) (z8 : Int) (z9 : Int) (z10 : Int) (z11 : Int) (z12 : Int) (z13 : Int) (z14 : Int) (z15 : Int) (z16 : Int) => k (.exit 0) (fS T_vec_Dot_0_0 [.i z0, .i z1, .i z2, .i z3, .i z4, .i z5, .i z6, .b z7, .i z8, .i z9, .i z10, .i z11, .i z12, .i z13, .i z14, .i z15, .i z16])) F (atI (nth q 0)) (atI (nth q 1)) (atI (nth q 2)) (atI (nth q 3)) (atI (nth q 4)) (atI (nth q 5)) (atI (nth q 6)) (atB (nth q 7)) (atI (nth q 8)) (atI (nth q 9)) (atI (nth q 10)) (atI (nth q 11)) (atI (nth q 12)) (atI (nth q 13)) (atI (nth q 14)) (atI (nth q 15)) (atI (nth q 16))⟩]) (tabJ []) 47 (fTs ti_vec_Dot [.i a0, .i a1, .i a2, .i a3, .i a4, .i a5]).1 = (
  L_vec_Dot_0 F (fun (v1701 : Int) (v1702 : Int) (v1703 : Int) (v1704 : Int) (v1705 : Int) (v1706 : Int) (v1707 : Int) (v1708 : Bool) (v1709 : Int) (v1710 : Int) (v1711 : Int) (v1712 : Int) (v1713 : Int) (v1714 : Int) (v1715 : Int) (v1716 : Int) (v1717 : Int) =>
    bif (ok_vec_clip F v1716 v1717) then (
      some (.v (.tuple #[.int .i64 ((o_vec_clip_0 F v1716 v1717)), .bool ((o_vec_clip_1 F v1716 v1717))])))
    else (
      none)) F a0 a1 a2 a3 a4 a5 0 false 0 a0 a1 a2 a3 a4 a5 0 0 : R) := by
    intros
    kernel_rfl
  exact (h ok_vec_product o_vec_product_0 o_vec_product_1 ok_wide_Add o_wide_Add_0 o_wide_Add_1 ok_vec_clip o_vec_clip_0 o_vec_clip_1 L_vec_Dot_0).trans (by kernel_rfl)
def ok_vec_Dot (F : Nat) (a0 : Int) (a1 : Int) (a2 : Int) (a3 : Int) (a4 : Int) (a5 : Int) : Bool := okT to_vec_Dot (f_vec_Dot F a0 a1 a2 a3 a4 a5)
def o_vec_Dot_0 (F : Nat) (a0 : Int) (a1 : Int) (a2 : Int) (a3 : Int) (a4 : Int) (a5 : Int) : Int := atI (nth (outT to_vec_Dot (f_vec_Dot F a0 a1 a2 a3 a4 a5)) 0)
def o_vec_Dot_1 (F : Nat) (a0 : Int) (a1 : Int) (a2 : Int) (a3 : Int) (a4 : Int) (a5 : Int) : Bool := atB (nth (outT to_vec_Dot (f_vec_Dot F a0 a1 a2 a3 a4 a5)) 1)
theorem k_vec_Dot (F : Nat) (a0 : Int) (a1 : Int) (a2 : Int) (a3 : Int) (a4 : Int) (a5 : Int) {z0 : Int} {z1 : Bool} (h : f_vec_Dot F a0 a1 a2 a3 a4 a5 = some (.v (.tuple #[.int .i64 z0, .bool z1]))) : ok_vec_Dot F a0 a1 a2 a3 a4 a5 = true ∧ o_vec_Dot_0 F a0 a1 a2 a3 a4 a5 = z0 ∧ o_vec_Dot_1 F a0 a1 a2 a3 a4 a5 = z1 := by
  refine ⟨?_, ?_, ?_⟩
  · unfold ok_vec_Dot; rw [h]; kernel_rfl
  · unfold o_vec_Dot_0; rw [h]; kernel_rfl
  · unfold o_vec_Dot_1; rw [h]; kernel_rfl
def s_vec_Dot (F : Nat) : List VV → Option (Bool × VV) := spec ti_vec_Dot to_vec_Dot (fun q => (ok_vec_Dot F (atI (nth q 0)) (atI (nth q 1)) (atI (nth q 2)) (atI (nth q 3)) (atI (nth q 4)) (atI (nth q 5)))) (fun q => [.i (o_vec_Dot_0 F (atI (nth q 0)) (atI (nth q 1)) (atI (nth q 2)) (atI (nth q 3)) (atI (nth q 4)) (atI (nth q 5))), .b (o_vec_Dot_1 F (atI (nth q 0)) (atI (nth q 1)) (atI (nth q 2)) (atI (nth q 3)) (atI (nth q 4)) (atI (nth q 5)))])
theorem hS_vec_Dot (F : Nat) : ∀ f, Good PP f (unS (S_vec_Dot F f)) := words_good fun p hp => by
  simp only [List.mem_cons, List.not_mem_nil, or_false] at hp
  rcases hp with rfl | rfl | rfl
  · exact g_vec_product F
  · exact g_wide_Add F
  · exact g_vec_clip F
theorem hl_vec_Dot (F : Nat) : ∀ p ∈ loopsIn PP 47, LoopOK PP (S_vec_Dot F) c_vec_Dot F (I_vec_Dot F) (J_vec_Dot F) p :=
  loops_of [(0, loopAt PP 47 0)] (by kernel_rfl) (all_cons
    (loop_ok (W_vec_Dot F) rfl (tab_cons (fun _ k q => Le.ofEq ((lL_vec_Dot_0 F k F (atI (nth q 0)) (atI (nth q 1)) (atI (nth q 2)) (atI (nth q 3)) (atI (nth q 4)) (atI (nth q 5)) (atI (nth q 6)) (atB (nth q 7)) (atI (nth q 8)) (atI (nth q 9)) (atI (nth q 10)) (atI (nth q 11)) (atI (nth q 12)) (atI (nth q 13)) (atI (nth q 14)) (atI (nth q 15)) (atI (nth q 16))).symm.trans (congrArg (iterC (codeL PP (S_vec_Dot F) c_vec_Dot (I_vec_Dot F) (J_vec_Dot F) (loopAt PP 47 0) 0) (headOf c_vec_Dot 0) k F) (show fS T_vec_Dot_0 [.i (atI (nth q 0)), .i (atI (nth q 1)), .i (atI (nth q 2)), .i (atI (nth q 3)), .i (atI (nth q 4)), .i (atI (nth q 5)), .i (atI (nth q 6)), .b (atB (nth q 7)), .i (atI (nth q 8)), .i (atI (nth q 9)), .i (atI (nth q 10)), .i (atI (nth q 11)), .i (atI (nth q 12)), .i (atI (nth q 13)), .i (atI (nth q 14)), .i (atI (nth q 15)), .i (atI (nth q 16))] = fS T_vec_Dot_0 q by kernel_rfl)))) tab_nil)) all_nil)
theorem hj_vec_Dot (F : Nat) : ∀ p ∈ joinsIn PP c_vec_Dot 47, JoinOK PP (S_vec_Dot F) c_vec_Dot (I_vec_Dot F) (J_vec_Dot F) p :=
  joins_of [] (by kernel_rfl) all_nil
theorem g_vec_Dot (F : Nat) : Good PP 47 (unS (s_vec_Dot F)) :=
  fun_spec (hS_vec_Dot F) (by kernel_rfl) (by kernel_rfl) (C := c_vec_Dot) (F := fun q => (f_vec_Dot F (atI (nth q 0)) (atI (nth q 1)) (atI (nth q 2)) (atI (nth q 3)) (atI (nth q 4)) (atI (nth q 5)))) (fun _ => F) (fun _ => I_vec_Dot F) (fun _ => J_vec_Dot F) (fun _ => hl_vec_Dot F) (fun _ => hj_vec_Dot F)
    (fun q => (congrArg (funL PP (S_vec_Dot F) c_vec_Dot (I_vec_Dot F) (J_vec_Dot F) 47) (show (fTs ti_vec_Dot q).1 = (fTs ti_vec_Dot [.i (atI (nth q 0)), .i (atI (nth q 1)), .i (atI (nth q 2)), .i (atI (nth q 3)), .i (atI (nth q 4)), .i (atI (nth q 5))]).1 by kernel_rfl)).trans (e_vec_Dot F (atI (nth q 0)) (atI (nth q 1)) (atI (nth q 2)) (atI (nth q 3)) (atI (nth q 4)) (atI (nth q 5))))
    (fun _ h => (okT_fill h).trans (congrArg some (by kernel_rfl)))

end Go.Xv
set_option linter.unusedVariables false
namespace Go.Xv
/- 97 _vec_Cross_1 -/
def c_vec_Cross_1 : Cfg := ⟨[0, 1, 2, 4, 5, 6, 7], [], [20, 27, 28, 29], []⟩
def ti_vec_Cross_1 : List TV := [.v (.int .i64), .fpx [.v (.int .i64), .v (.int .i64), .v (.int .i64)] (.lit 0), .fpx [.v (.int .i64), .v (.int .i64), .v (.int .i64)] (.lit 0)]
def to_vec_Cross_1 : TV := .v (.tup [.int .i64, .bool])
def S_vec_Cross_1 (F : Nat) : FuncId → List VV → Option (Bool × VV) := words [(93, s_vec_product F), (98, s_wide_Neg F), (71, s_wide_Add F), (94, s_vec_clip F)]
def W_vec_Cross_1 (F : Nat) : List LW := []
def I_vec_Cross_1 (F : Nat) : Nat → VS → (Exit → VS → R) → R := tabI c_vec_Cross_1 (W_vec_Cross_1 F)
def WJ_vec_Cross_1 (F : Nat) : List LJ := []
def J_vec_Cross_1 (F : Nat) : Nat → Nat → VS → (Exit → VS → R) → R := tabJ (WJ_vec_Cross_1 F)
def f_vec_Cross_1 (F : Nat) (a0 : Int) (a1 : Int) (a2 : Int) (a3 : Int) (a4 : Int) (a5 : Int) (a6 : Int) : R :=
  let v1764 : Int := (Int.tmod ((IntKind.wrap .i64 (a0 + 1))) 3)
  let v1766 : Int := (Int.tmod ((IntKind.wrap .i64 (a0 + 2))) 3)
  bif ((decide (0 ≤ v1764)) && (decide (v1764 < 3))) then (
    let v1767 : Nat := (0 + ((Int.toNat v1764) * 1))
    bif ((isI .i64 [.v (.int .i64 a1), .v (.int .i64 a2), .v (.int .i64 a3)][v1767]?) && true) then (
      let v1768 : Int := (iv [.v (.int .i64 a1), .v (.int .i64 a2), .v (.int .i64 a3)][v1767]?)
      bif ((decide (0 ≤ v1766)) && (decide (v1766 < 3))) then (
        let v1769 : Nat := (0 + ((Int.toNat v1766) * 1))
        bif ((isI .i64 [.v (.int .i64 a4), .v (.int .i64 a5), .v (.int .i64 a6)][v1769]?) && true) then (
          let v1770 : Int := (iv [.v (.int .i64 a4), .v (.int .i64 a5), .v (.int .i64 a6)][v1769]?)
          bif (ok_vec_product F v1768 v1770) then (
            let v1771 : Int := (o_vec_product_0 F v1768 v1770)
            let v1772 : Int := (o_vec_product_1 F v1768 v1770)
            bif ((decide (0 ≤ v1766)) && (decide (v1766 < 3))) then (
              let v1773 : Nat := (0 + ((Int.toNat v1766) * 1))
              bif ((isI .i64 [.v (.int .i64 a1), .v (.int .i64 a2), .v (.int .i64 a3)][v1773]?) && true) then (
                let v1774 : Int := (iv [.v (.int .i64 a1), .v (.int .i64 a2), .v (.int .i64 a3)][v1773]?)
                bif ((decide (0 ≤ v1764)) && (decide (v1764 < 3))) then (
                  let v1775 : Nat := (0 + ((Int.toNat v1764) * 1))
                  bif ((isI .i64 [.v (.int .i64 a4), .v (.int .i64 a5), .v (.int .i64 a6)][v1775]?) && true) then (
                    let v1776 : Int := (iv [.v (.int .i64 a4), .v (.int .i64 a5), .v (.int .i64 a6)][v1775]?)
                    bif (ok_vec_product F v1774 v1776) then (
                      let v1777 : Int := (o_vec_product_0 F v1774 v1776)
                      let v1778 : Int := (o_vec_product_1 F v1774 v1776)
                      bif (ok_wide_Neg F v1777 v1778) then (
                        let v1779 : Int := (o_wide_Neg_0 F v1777 v1778)
                        let v1780 : Int := (o_wide_Neg_1 F v1777 v1778)
                        bif (ok_wide_Add F v1771 v1772 v1779 v1780) then (
                          let v1781 : Int := (o_wide_Add_0 F v1771 v1772 v1779 v1780)
                          let v1782 : Int := (o_wide_Add_1 F v1771 v1772 v1779 v1780)
                          bif (ok_vec_clip F v1781 v1782) then (
                            some (.v (.tuple #[.int .i64 ((o_vec_clip_0 F v1781 v1782)), .bool ((o_vec_clip_1 F v1781 v1782))])))
                          else (
                            none))
                        else (
                          none))
                      else (
                        none))
                    else (
                      none))
                  else (
                    none))
                else (
                  none))
              else (
                none))
            else (
              none))
          else (
            none))
        else (
          none))
      else (
        none))
    else (
      none))
  else (
    none)
theorem e_vec_Cross_1 (F : Nat) (a0 : Int) (a1 : Int) (a2 : Int) (a3 : Int) (a4 : Int) (a5 : Int) (a6 : Int) : funL PP (S_vec_Cross_1 F) c_vec_Cross_1 (I_vec_Cross_1 F) (J_vec_Cross_1 F) 97 (fTs ti_vec_Cross_1 [.i a0, .i a1, .i a2, .i a3, .i a4, .i a5, .i a6]).1 = f_vec_Cross_1 F a0 a1 a2 a3 a4 a5 a6 := by
  have h : ∀ (ok_vec_product : Nat → Int → Int → Bool) (o_vec_product_0 : Nat → Int → Int → Int) (o_vec_product_1 : Nat → Int → Int → Int) (ok_wide_Neg : Nat → Int → Int → Bool) (o_wide_Neg_0 : Nat → Int → Int → Int) (o_wide_Neg_1 : Nat → Int → Int → Int) (ok_wide_Add : Nat → Int → Int → Int → Int → Bool) (o_wide_Add_0 : Nat → Int → Int → Int → Int → Int) (o_wide_Add_1 : Nat → Int → Int → Int → Int → Int) (ok_vec_clip : Nat → Int → Int → Bool) (o_vec_clip_0 : Nat → Int → Int → Int) (o_vec_clip_1 : Nat → Int → Int → Bool), funL PP (words [(93, spec ti_vec_product to_vec_product (fun q => (ok_vec_product F (atI (nth q 0)) (atI (nth q 1)))) (fun q => [.i (o_vec_product_0 F (atI (nth q 0)) (atI (nth q 1))), .i (o_vec_product_1 F (atI (nth q 0)) (atI (nth q 1)))])), (98, spec ti_wide_Neg to_wide_Neg (fun q => (ok_wide_Neg F (atI (nth q 0)) (atI (nth q 1)))) (fun q => [.i (o_wide_Neg_0 F (atI (nth q 0)) (atI (nth q 1))), .i (o_wide_Neg_1 F (atI (nth q 0)) (atI (nth q 1)))])), (71, spec ti_wide_Add to_wide_Add (fun q => (ok_wide_Add F (atI (nth q 0)) (atI (nth q 1)) (atI (nth q 2)) (atI (nth q 3)))) (fun q => [.i (o_wide_Add_0 F (atI (nth q 0)) (atI (nth q 1)) (atI (nth q 2)) (atI (nth q 3))), .i (o_wide_Add_1 F (atI (nth q 0)) (atI (nth q 1)) (atI (nth q 2)) (atI (nth q 3)))])), (94, spec ti_vec_clip to_vec_clip (fun q => (ok_vec_clip F (atI (nth q 0)) (atI (nth q 1)))) (fun q => [.i (o_vec_clip_0 F (atI (nth q 0)) (atI (nth q 1))), .b (o_vec_clip_1 F (atI (nth q 0)) (atI (nth q 1)))]))]) c_vec_Cross_1 (tabI c_vec_Cross_1 []) (tabJ []) 97 (fTs ti_vec_Cross_1 [.i a0, .i a1, .i a2, .i a3, .i a4, .i a5, .i a6]).1 = (
  let v1764 : Int := (Int.tmod ((IntKind.wrap .i64 (a0 + 1))) 3)
  let v1766 : Int := (Int.tmod ((IntKind.wrap .i64 (a0 + 2))) 3)
  bif ((decide (0 ≤ v1764)) && (decide (v1764 < 3))) then (
    let v1767 : Nat := (0 + ((Int.toNat v1764) * 1))
    bif ((isI .i64 [.v (.int .i64 a1), .v (.int .i64 a2), .v (.int .i64 a3)][v1767]?) && true) then (
      let v1768 : Int := (iv [.v (.int .i64 a1), .v (.int .i64 a2), .v (.int .i64 a3)][v1767]?)
      bif ((decide (0 ≤ v1766)) && (decide (v1766 < 3))) then (
        let v1769 : Nat := (0 + ((Int.toNat v1766) * 1))
        bif ((isI .i64 [.v (.int .i64 a4), .v (.int .i64 a5), .v (.int .i64 a6)][v1769]?) && true) then (
          let v1770 : Int := (iv [.v (.int .i64 a4), .v (.int .i64 a5), .v (.int .i64 a6)][v1769]?)
          bif (ok_vec_product F v1768 v1770) then (
            let v1771 : Int := (o_vec_product_0 F v1768 v1770)
            let v1772 : Int := (o_vec_product_1 F v1768 v1770)
            bif ((decide (0 ≤ v1766)) && (decide (v1766 < 3))) then (
              let v1773 : Nat := (0 + ((Int.toNat v1766) * 1))
              bif ((isI .i64 [.v (.int .i64 a1), .v (.int .i64 a2), .v (.int .i64 a3)][v1773]?) && true) then (
                let v1774 : Int := (iv [.v (.int .i64 a1), .v (.int .i64 a2), .v (.int .i64 a3)][v1773]?)
                bif ((decide (0 ≤ v1764)) && (decide (v1764 < 3))) then (
                  let v1775 : Nat := (0 + ((Int.toNat v1764) * 1))
                  bif ((isI .i64 [.v (.int .i64 a4), .v (.int .i64 a5), .v (.int .i64 a6)][v1775]?) && true) then (
                    let v1776 : Int := (iv [.v (.int .i64 a4), .v (.int .i64 a5), .v (.int .i64 a6)][v1775]?)
                    bif (ok_vec_product F v1774 v1776) then (
                      let v1777 : Int := (o_vec_product_0 F v1774 v1776)
                      let v1778 : Int := (o_vec_product_1 F v1774 v1776)
                      bif (ok_wide_Neg F v1777 v1778) then (
                        let v1779 : Int := (o_wide_Neg_0 F v1777 v1778)
                        let v1780 : Int := (o_wide_Neg_1 F v1777 v1778)
                        bif (ok_wide_Add F v1771 v1772 v1779 v1780) then (
                          let v1781 : Int := (o_wide_Add_0 F v1771 v1772 v1779 v1780)
                          let v1782 : Int := (o_wide_Add_1 F v1771 v1772 v1779 v1780)
                          bif (ok_vec_clip F v1781 v1782) then (
                            some (.v (.tuple #[.int .i64 ((o_vec_clip_0 F v1781 v1782)), .bool ((o_vec_clip_1 F v1781 v1782))])))
                          else (
                            none))
                        else (
                          none))
                      else (
                        none))
                    else (
                      none))
                  else (
                    none))
                else (
                  none))
              else (
                none))
            else (
              none))
          else (
            none))
        else (
          none))
      else (
        none))
    else (
      none))
  else (
    none) : R) := by
    intros
    kernel_rfl
  exact (h ok_vec_product o_vec_product_0 o_vec_product_1 ok_wide_Neg o_wide_Neg_0 o_wide_Neg_1 ok_wide_Add o_wide_Add_0 o_wide_Add_1 ok_vec_clip o_vec_clip_0 o_vec_clip_1).trans (by kernel_rfl)
def ok_vec_Cross_1 (F : Nat) (a0 : Int) (a1 : Int) (a2 : Int) (a3 : Int) (a4 : Int) (a5 : Int) (a6 : Int) : Bool := okT to_vec_Cross_1 (f_vec_Cross_1 F a0 a1 a2 a3 a4 a5 a6)
def o_vec_Cross_1_0 (F : Nat) (a0 : Int) (a1 : Int) (a2 : Int) (a3 : Int) (a4 : Int) (a5 : Int) (a6 : Int) : Int := atI (nth (outT to_vec_Cross_1 (f_vec_Cross_1 F a0 a1 a2 a3 a4 a5 a6)) 0)
def o_vec_Cross_1_1 (F : Nat) (a0 : Int) (a1 : Int) (a2 : Int) (a3 : Int) (a4 : Int) (a5 : Int) (a6 : Int) : Bool := atB (nth (outT to_vec_Cross_1 (f_vec_Cross_1 F a0 a1 a2 a3 a4 a5 a6)) 1)
theorem k_vec_Cross_1 (F : Nat) (a0 : Int) (a1 : Int) (a2 : Int) (a3 : Int) (a4 : Int) (a5 : Int) (a6 : Int) {z0 : Int} {z1 : Bool} (h : f_vec_Cross_1 F a0 a1 a2 a3 a4 a5 a6 = some (.v (.tuple #[.int .i64 z0, .bool z1]))) : ok_vec_Cross_1 F a0 a1 a2 a3 a4 a5 a6 = true ∧ o_vec_Cross_1_0 F a0 a1 a2 a3 a4 a5 a6 = z0 ∧ o_vec_Cross_1_1 F a0 a1 a2 a3 a4 a5 a6 = z1 := by
  refine ⟨?_, ?_, ?_⟩
  · unfold ok_vec_Cross_1; rw [h]; kernel_rfl
  · unfold o_vec_Cross_1_0; rw [h]; kernel_rfl
  · unfold o_vec_Cross_1_1; rw [h]; kernel_rfl
def s_vec_Cross_1 (F : Nat) : List VV → Option (Bool × VV) := spec ti_vec_Cross_1 to_vec_Cross_1 (fun q => (ok_vec_Cross_1 F (atI (nth q 0)) (atI (nth q 1)) (atI (nth q 2)) (atI (nth q 3)) (atI (nth q 4)) (atI (nth q 5)) (atI (nth q 6)))) (fun q => [.i (o_vec_Cross_1_0 F (atI (nth q 0)) (atI (nth q 1)) (atI (nth q 2)) (atI (nth q 3)) (atI (nth q 4)) (atI (nth q 5)) (atI (nth q 6))), .b (o_vec_Cross_1_1 F (atI (nth q 0)) (atI (nth q 1)) (atI (nth q 2)) (atI (nth q 3)) (atI (nth q 4)) (atI (nth q 5)) (atI (nth q 6)))])
theorem hS_vec_Cross_1 (F : Nat) : ∀ f, Good PP f (unS (S_vec_Cross_1 F f)) := words_good fun p hp => by
  simp only [List.mem_cons, List.not_mem_nil, or_false] at hp
  rcases hp with rfl | rfl | rfl | rfl
  · exact g_vec_product F
  · exact g_wide_Neg F
  · exact g_wide_Add F
  · exact g_vec_clip F
theorem hl_vec_Cross_1 (F : Nat) : ∀ p ∈ loopsIn PP 97, LoopOK PP (S_vec_Cross_1 F) c_vec_Cross_1 F (I_vec_Cross_1 F) (J_vec_Cross_1 F) p :=
  loops_of [] (by kernel_rfl) all_nil
theorem hj_vec_Cross_1 (F : Nat) : ∀ p ∈ joinsIn PP c_vec_Cross_1 97, JoinOK PP (S_vec_Cross_1 F) c_vec_Cross_1 (I_vec_Cross_1 F) (J_vec_Cross_1 F) p :=
  joins_of [] (by kernel_rfl) all_nil
theorem g_vec_Cross_1 (F : Nat) : Good PP 97 (unS (s_vec_Cross_1 F)) :=
  fun_spec (hS_vec_Cross_1 F) (by kernel_rfl) (by kernel_rfl) (C := c_vec_Cross_1) (F := fun q => (f_vec_Cross_1 F (atI (nth q 0)) (atI (nth q 1)) (atI (nth q 2)) (atI (nth q 3)) (atI (nth q 4)) (atI (nth q 5)) (atI (nth q 6)))) (fun _ => F) (fun _ => I_vec_Cross_1 F) (fun _ => J_vec_Cross_1 F) (fun _ => hl_vec_Cross_1 F) (fun _ => hj_vec_Cross_1 F)
    (fun q => (congrArg (funL PP (S_vec_Cross_1 F) c_vec_Cross_1 (I_vec_Cross_1 F) (J_vec_Cross_1 F) 97) (show (fTs ti_vec_Cross_1 q).1 = (fTs ti_vec_Cross_1 [.i (atI (nth q 0)), .i (atI (nth q 1)), .i (atI (nth q 2)), .i (atI (nth q 3)), .i (atI (nth q 4)), .i (atI (nth q 5)), .i (atI (nth q 6))]).1 by kernel_rfl)).trans (e_vec_Cross_1 F (atI (nth q 0)) (atI (nth q 1)) (atI (nth q 2)) (atI (nth q 3)) (atI (nth q 4)) (atI (nth q 5)) (atI (nth q 6))))
    (fun _ h => (okT_fill h).trans (congrArg some (by kernel_rfl)))

end Go.Xv
set_option linter.unusedVariables false
namespace Go.Xv
/- 90 _vec_eachv1 -/
def c_vec_eachv1 : Cfg := ⟨[0, 2, 3, 4, 5, 6, 7, 8, 9, 10], [(0, [0, 2, 3, 4, 5, 9, 26, 27])], [], []⟩
def ti_vec_eachv1 : List TV := [.fn 97 [.fpx [.v (.int .i64), .v (.int .i64), .v (.int .i64)] (.lit 0), .fpx [.v (.int .i64), .v (.int .i64), .v (.int .i64)] (.lit 0)]]
def to_vec_eachv1 : TV := .v (.tup [.agg [.int .i64, .int .i64, .int .i64], .bool])
def S_vec_eachv1 (F : Nat) : FuncId → List VV → Option (Bool × VV) := words [(97, s_vec_Cross_1 F)]
def T_vec_eachv1_0 : TS := ⟨[(0, .fn 97 [.fpx [.v (.int .i64), .v (.int .i64), .v (.int .i64)] (.lit 0), .fpx [.v (.int .i64), .v (.int .i64), .v (.int .i64)] (.lit 0)]), (2, .lp 0 (.lit 0)), (3, .v (.bool)), (4, .lp 1 (.lit 0)), (5, .v (.bool)), (9, .v (.int .i64))], [(0, ⟨(.ex [.v (.int .i64), .v (.int .i64), .v (.int .i64)]), true⟩), (1, ⟨.hole, true⟩)], 2⟩
def T_vec_eachv1_0_0 : TS := ⟨[(0, .fn 97 [.fpx [.v (.int .i64), .v (.int .i64), .v (.int .i64)] (.lit 0), .fpx [.v (.int .i64), .v (.int .i64), .v (.int .i64)] (.lit 0)]), (2, .lp 0 (.lit 0)), (3, .v (.bool)), (4, .lp 1 (.lit 0)), (5, .v (.bool)), (9, .v (.int .i64))], [(0, ⟨(.ex [.v (.int .i64), .v (.int .i64), .v (.int .i64)]), true⟩), (1, ⟨.hole, true⟩)], 2⟩
def B_vec_eachv1_0 (F : Nat) (rc : Int → Int → Int → Int → Int → Int → Bool → Bool → Int → Int → Int → Int → List VV → R) (ex0 : Int → Int → Int → Int → Int → Int → Bool → Bool → Int → Int → Int → Int → List VV → R) (x0 : Int) (x1 : Int) (x2 : Int) (x3 : Int) (x4 : Int) (x5 : Int) (x6 : Bool) (x7 : Bool) (x8 : Int) (x9 : Int) (x10 : Int) (x11 : Int) (x12 : List VV) : R :=
  bif ((decide (x8 < 3))) then (
    bif (ok_vec_Cross_1 F x8 x0 x1 x2 x3 x4 x5) then (
      let v1785 : Int := (o_vec_Cross_1_0 F x8 x0 x1 x2 x3 x4 x5)
      bif x7 then (
        bif ((decide (0 ≤ x8)) && (decide (x8 < 3))) then (
          let v1787 : Nat := (0 + ((Int.toNat x8) * 1))
          bif (decide ((v1787 + 1) ≤ x12.length)) then (
            rc x0 x1 x2 x3 x4 x5 x6 true ((IntKind.wrap .i64 (x8 + 1))) x9 x10 x11 ((x12.take v1787 ++ [.v (.int .i64 v1785)] ++ x12.drop (v1787 + 1))))
          else (
            none))
        else (
          none))
      else (
        bif ((decide (0 ≤ x8)) && (decide (x8 < 3))) then (
          let v1790 : Nat := (0 + ((Int.toNat x8) * 1))
          bif (decide ((v1790 + 1) ≤ x12.length)) then (
            rc x0 x1 x2 x3 x4 x5 x6 ((o_vec_Cross_1_1 F x8 x0 x1 x2 x3 x4 x5)) ((IntKind.wrap .i64 (x8 + 1))) x9 x10 x11 ((x12.take v1790 ++ [.v (.int .i64 v1785)] ++ x12.drop (v1790 + 1))))
          else (
            none))
        else (
          none)))
    else (
      none))
  else (
    ex0 x0 x1 x2 x3 x4 x5 x6 x7 x8 x9 x10 x11 x12)
def L_vec_eachv1_0 (F : Nat) (ex0 : Int → Int → Int → Int → Int → Int → Bool → Bool → Int → Int → Int → Int → List VV → R) : Nat → Int → Int → Int → Int → Int → Int → Bool → Bool → Int → Int → Int → Int → List VV → R
  | 0, _, _, _, _, _, _, _, _, _, _, _, _, _ => none
  | n + 1, x0, x1, x2, x3, x4, x5, x6, x7, x8, x9, x10, x11, x12 => B_vec_eachv1_0 F (L_vec_eachv1_0 F ex0 n) ex0 x0 x1 x2 x3 x4 x5 x6 x7 x8 x9 x10 x11 x12
def W_vec_eachv1 (F : Nat) : List LW := [⟨0, T_vec_eachv1_0, fun k q => L_vec_eachv1_0 F (fun (z0 : Int) (z1 : Int) (z2 : Int) (z3 : Int) (z4 : Int) (z5 : Int) (z6 : Bool) (z7 : Bool) (z8 : Int) (z9 : Int) (z10 : Int) (z11 : Int) (z12 : List VV) => k (.exit 0) (fS T_vec_eachv1_0_0 [.i z0, .i z1, .i z2, .i z3, .i z4, .i z5, .b z6, .b z7, .i z8, .i z9, .i z10, .i z11, .c z12])) F (atI (nth q 0)) (atI (nth q 1)) (atI (nth q 2)) (atI (nth q 3)) (atI (nth q 4)) (atI (nth q 5)) (atB (nth q 6)) (atB (nth q 7)) (atI (nth q 8)) (atI (nth q 9)) (atI (nth q 10)) (atI (nth q 11)) (atC (nth q 12))⟩]
def I_vec_eachv1 (F : Nat) : Nat → VS → (Exit → VS → R) → R := tabI c_vec_eachv1 (W_vec_eachv1 F)
def WJ_vec_eachv1 (F : Nat) : List LJ := []
def J_vec_eachv1 (F : Nat) : Nat → Nat → VS → (Exit → VS → R) → R := tabJ (WJ_vec_eachv1 F)
theorem lL_vec_eachv1_0 (F : Nat) (k : Exit → VS → R) : ∀ (n : Nat) (x0 : Int) (x1 : Int) (x2 : Int) (x3 : Int) (x4 : Int) (x5 : Int) (x6 : Bool) (x7 : Bool) (x8 : Int) (x9 : Int) (x10 : Int) (x11 : Int) (x12 : List VV), iterC (codeL PP (S_vec_eachv1 F) c_vec_eachv1 (I_vec_eachv1 F) (J_vec_eachv1 F) (loopAt PP 90 0) 0) (headOf c_vec_eachv1 0) k n (fS T_vec_eachv1_0 [.i x0, .i x1, .i x2, .i x3, .i x4, .i x5, .b x6, .b x7, .i x8, .i x9, .i x10, .i x11, .c x12]) = L_vec_eachv1_0 F (fun (z0 : Int) (z1 : Int) (z2 : Int) (z3 : Int) (z4 : Int) (z5 : Int) (z6 : Bool) (z7 : Bool) (z8 : Int) (z9 : Int) (z10 : Int) (z11 : Int) (z12 : List VV) => k (.exit 0) (fS T_vec_eachv1_0_0 [.i z0, .i z1, .i z2, .i z3, .i z4, .i z5, .b z6, .b z7, .i z8, .i z9, .i z10, .i z11, .c z12])) n x0 x1 x2 x3 x4 x5 x6 x7 x8 x9 x10 x11 x12
  | 0, _, _, _, _, _, _, _, _, _, _, _, _, _ => rfl
  | n + 1, x0, x1, x2, x3, x4, x5, x6, x7, x8, x9, x10, x11, x12 => by
    have h0 : ∀ (ok_vec_Cross_1 : Nat → Int → Int → Int → Int → Int → Int → Int → Bool) (o_vec_Cross_1_0 : Nat → Int → Int → Int → Int → Int → Int → Int → Int) (o_vec_Cross_1_1 : Nat → Int → Int → Int → Int → Int → Int → Int → Bool) (L_vec_eachv1_0 : Nat → (Int → Int → Int → Int → Int → Int → Bool → Bool → Int → Int → Int → Int → List VV → R) → Nat → Int → Int → Int → Int → Int → Int → Bool → Bool → Int → Int → Int → Int → List VV → R), iterC (codeL PP (words [(97, spec ti_vec_Cross_1 to_vec_Cross_1 (fun q => (ok_vec_Cross_1 F (atI (nth q 0)) (atI (nth q 1)) (atI (nth q 2)) (atI (nth q 3)) (atI (nth q 4)) (atI (nth q 5)) (atI (nth q 6)))) (fun q => [.i (o_vec_Cross_1_0 F (atI (nth q 0)) (atI (nth q 1)) (atI (nth q 2)) (atI (nth q 3)) (atI (nth q 4)) (atI (nth q 5)) (atI (nth q 6))), .b (o_vec_Cross_1_1 F (atI (nth q 0)) (atI (nth q 1)) (atI (nth q 2)) (atI (nth q 3)) (atI (nth q 4)) (atI (nth q 5)) (atI (nth q 6)))]))]) c_vec_eachv1 (tabI c_vec_eachv1 [⟨0, T_vec_eachv1_0, fun k q => L_vec_eachv1_0 F (fun (z0 : Int) (z1 : Int) (z2 : Int) (z3 : Int) (z4 : Int) (z5 : Int) (z6 : Bool) (z7 : Bool) (z8 : Int) (z9 : Int) (z10 : Int) (z11 : Int) (z12 : List VV) => k (.exit 0) (fS T_vec_eachv1_0_0 [.i z0, .i z1, .i z2, .i z3, .i z4, .i z5, .b z6, .b z7, .i z8, .i z9, .i z10, .i z11, .c z12])) F (atI (nth q 0)) (atI (nth q 1)) (atI (nth q 2)) (atI (nth q 3)) (atI (nth q 4)) (atI (nth q 5)) (atB (nth q 6)) (atB (nth q 7)) (atI (nth q 8)) (atI (nth q 9)) (atI (nth q 10)) (atI (nth q 11)) (atC (nth q 12))⟩]) (tabJ []) (loopAt PP 90 0) 0) (headOf c_vec_eachv1 0) k (n + 1) (fS T_vec_eachv1_0 [.i x0, .i x1, .i x2, .i x3, .i x4, .i x5, .b x6, .b x7, .i x8, .i x9, .i x10, .i x11, .c x12]) = (fun (rc : Int → Int → Int → Int → Int → Int → Bool → Bool → Int → Int → Int → Int → List VV → R) (ex0 : Int → Int → Int → Int → Int → Int → Bool → Bool → Int → Int → Int → Int → List VV → R) (x0 : Int) (x1 : Int) (x2 : Int) (x3 : Int) (x4 : Int) (x5 : Int) (x6 : Bool) (x7 : Bool) (x8 : Int) (x9 : Int) (x10 : Int) (x11 : Int) (x12 : List VV) => (
  bif ((decide (x8 < 3))) then (
    bif (ok_vec_Cross_1 F x8 x0 x1 x2 x3 x4 x5) then (
      let v1785 : Int := (o_vec_Cross_1_0 F x8 x0 x1 x2 x3 x4 x5)
      bif x7 then (
        bif ((decide (0 ≤ x8)) && (decide (x8 < 3))) then (
          let v1787 : Nat := (0 + ((Int.toNat x8) * 1))
          bif (decide ((v1787 + 1) ≤ x12.length)) then (
            rc x0 x1 x2 x3 x4 x5 x6 true ((IntKind.wrap .i64 (x8 + 1))) x9 x10 x11 ((x12.take v1787 ++ [.v (.int .i64 v1785)] ++ x12.drop (v1787 + 1))))
          else (
            none))
        else (
          none))
      else (
        bif ((decide (0 ≤ x8)) && (decide (x8 < 3))) then (
          let v1790 : Nat := (0 + ((Int.toNat x8) * 1))
          bif (decide ((v1790 + 1) ≤ x12.length)) then (
            rc x0 x1 x2 x3 x4 x5 x6 ((o_vec_Cross_1_1 F x8 x0 x1 x2 x3 x4 x5)) ((IntKind.wrap .i64 (x8 + 1))) x9 x10 x11 ((x12.take v1790 ++ [.v (.int .i64 v1785)] ++ x12.drop (v1790 + 1))))
          else (
            none))
        else (
          none)))
    else (
      none))
  else (
    ex0 x0 x1 x2 x3 x4 x5 x6 x7 x8 x9 x10 x11 x12) : R)) (fun (y0 : Int) (y1 : Int) (y2 : Int) (y3 : Int) (y4 : Int) (y5 : Int) (y6 : Bool) (y7 : Bool) (y8 : Int) (y9 : Int) (y10 : Int) (y11 : Int) (y12 : List VV) => iterC (codeL PP (words [(97, spec ti_vec_Cross_1 to_vec_Cross_1 (fun q => (ok_vec_Cross_1 F (atI (nth q 0)) (atI (nth q 1)) (atI (nth q 2)) (atI (nth q 3)) (atI (nth q 4)) (atI (nth q 5)) (atI (nth q 6)))) (fun q => [.i (o_vec_Cross_1_0 F (atI (nth q 0)) (atI (nth q 1)) (atI (nth q 2)) (atI (nth q 3)) (atI (nth q 4)) (atI (nth q 5)) (atI (nth q 6))), .b (o_vec_Cross_1_1 F (atI (nth q 0)) (atI (nth q 1)) (atI (nth q 2)) (atI (nth q 3)) (atI (nth q 4)) (atI (nth q 5)) (atI (nth q 6)))]))]) c_vec_eachv1 (tabI c_vec_eachv1 [⟨0, T_vec_eachv1_0, fun k q => L_vec_eachv1_0 F (fun (z0 : Int) (z1 : Int) (z2 : Int) (z3 : Int) (z4 : Int) (z5 : Int) (z6 : Bool) (z7 : Bool) (z8 : Int) (z9 : Int) (z10 : Int) (z11 : Int) (z12 : List VV) => k (.exit 0) (fS T_vec_eachv1_0_0 [.i z0, .i z1, .i z2, .i z3, .i z4, .i z5, .b z6, .b z7, .i z8, .i z9, .i z10, .i z11, .c z12])) F (atI (nth q 0)) (atI (nth q 1)) (atI (nth q 2)) (atI (nth q 3)) (atI (nth q 4)) (atI (nth q 5)) (atB (nth q 6)) (atB (nth q 7)) (atI (nth q 8)) (atI (nth q 9)) (atI (nth q 10)) (atI (nth q 11)) (atC (nth q 12))⟩]) (tabJ []) (loopAt PP 90 0) 0) (headOf c_vec_eachv1 0) k n (fS T_vec_eachv1_0 [.i y0, .i y1, .i y2, .i y3, .i y4, .i y5, .b y6, .b y7, .i y8, .i y9, .i y10, .i y11, .c y12])) (fun (z0 : Int) (z1 : Int) (z2 : Int) (z3 : Int) (z4 : Int) (z5 : Int) (z6 : Bool) (z7 : Bool) (z8 : Int) (z9 : Int) (z10 : Int) (z11 : Int) (z12 : List VV) => k (.exit 0) (fS T_vec_eachv1_0_0 [.i z0, .i z1, .i z2, .i z3, .i z4, .i z5, .b z6, .b z7, .i z8, .i z9, .i z10, .i z11, .c z12])) x0 x1 x2 x3 x4 x5 x6 x7 x8 x9 x10 x11 x12 := by
      intros
      kernel_rfl
    have h : iterC (codeL PP (S_vec_eachv1 F) c_vec_eachv1 (I_vec_eachv1 F) (J_vec_eachv1 F) (loopAt PP 90 0) 0) (headOf c_vec_eachv1 0) k (n + 1) (fS T_vec_eachv1_0 [.i x0, .i x1, .i x2, .i x3, .i x4, .i x5, .b x6, .b x7, .i x8, .i x9, .i x10, .i x11, .c x12]) = B_vec_eachv1_0 F (fun (y0 : Int) (y1 : Int) (y2 : Int) (y3 : Int) (y4 : Int) (y5 : Int) (y6 : Bool) (y7 : Bool) (y8 : Int) (y9 : Int) (y10 : Int) (y11 : Int) (y12 : List VV) => iterC (codeL PP (S_vec_eachv1 F) c_vec_eachv1 (I_vec_eachv1 F) (J_vec_eachv1 F) (loopAt PP 90 0) 0) (headOf c_vec_eachv1 0) k n (fS T_vec_eachv1_0 [.i y0, .i y1, .i y2, .i y3, .i y4, .i y5, .b y6, .b y7, .i y8, .i y9, .i y10, .i y11, .c y12])) (fun (z0 : Int) (z1 : Int) (z2 : Int) (z3 : Int) (z4 : Int) (z5 : Int) (z6 : Bool) (z7 : Bool) (z8 : Int) (z9 : Int) (z10 : Int) (z11 : Int) (z12 : List VV) => k (.exit 0) (fS T_vec_eachv1_0_0 [.i z0, .i z1, .i z2, .i z3, .i z4, .i z5, .b z6, .b z7, .i z8, .i z9, .i z10, .i z11, .c z12])) x0 x1 x2 x3 x4 x5 x6 x7 x8 x9 x10 x11 x12 := (h0 ok_vec_Cross_1 o_vec_Cross_1_0 o_vec_Cross_1_1 L_vec_eachv1_0).trans (by kernel_rfl)
    rw [h]
    simp only [lL_vec_eachv1_0 F k n]
    rfl
def f_vec_eachv1 (F : Nat) (a0 : Int) (a1 : Int) (a2 : Int) (a3 : Int) (a4 : Int) (a5 : Int) : R :=
  L_vec_eachv1_0 F (fun (v1793 : Int) (v1794 : Int) (v1795 : Int) (v1796 : Int) (v1797 : Int) (v1798 : Int) (v1799 : Bool) (v1800 : Bool) (v1801 : Int) (v1802 : Int) (v1803 : Int) (v1804 : Int) (v1805 : List VV) =>
    bif ((isI .i64 v1805[0]?) && ((isI .i64 v1805[1]?) && ((isI .i64 v1805[2]?) && true))) then (
      some (.v (.tuple #[.agg #[.int .i64 ((iv v1805[0]?)), .int .i64 ((iv v1805[1]?)), .int .i64 ((iv v1805[2]?))], .bool v1800])))
    else (
      none)) F a0 a1 a2 a3 a4 a5 false false 0 0 0 0 ([.v (.int .i64 0), .v (.int .i64 0), .v (.int .i64 0)])
theorem e_vec_eachv1 (F : Nat) (a0 : Int) (a1 : Int) (a2 : Int) (a3 : Int) (a4 : Int) (a5 : Int) : funL PP (S_vec_eachv1 F) c_vec_eachv1 (I_vec_eachv1 F) (J_vec_eachv1 F) 90 (fTs ti_vec_eachv1 [.i a0, .i a1, .i a2, .i a3, .i a4, .i a5]).1 = f_vec_eachv1 F a0 a1 a2 a3 a4 a5 := by
  have h : ∀ (ok_vec_Cross_1 : Nat → Int → Int → Int → Int → Int → Int → Int → Bool) (o_vec_Cross_1_0 : Nat → Int → Int → Int → Int → Int → Int → Int → Int) (o_vec_Cross_1_1 : Nat → Int → Int → Int → Int → Int → Int → Int → Bool) (L_vec_eachv1_0 : Nat → (Int → Int → Int → Int → Int → Int → Bool → Bool → Int → Int → Int → Int → List VV → R) → Nat → Int → Int → Int → Int → Int → Int → Bool → Bool → Int → Int → Int → Int → List VV → R), funL PP (words [(97, spec ti_vec_Cross_1 to_vec_Cross_1 (fun q => (ok_vec_Cross_1 F (atI (nth q 0)) (atI (nth q 1)) (atI (nth q 2)) (atI (nth q 3)) (atI (nth q 4)) (atI (nth q 5)) (atI (nth q 6)))) (fun q => [.i (o_vec_Cross_1_0 F (atI (nth q 0)) (atI (nth q 1)) (atI (nth q 2)) (atI (nth q 3)) (atI (nth q 4)) (atI (nth q 5)) (atI (nth q 6))), .b (o_vec_Cross_1_1 F (atI (nth q 0)) (atI (nth q 1)) (atI (nth q 2)) (atI (nth q 3)) (atI (nth q 4)) (atI (nth q 5)) (atI (nth q 6)))]))]) c_vec_eachv1 (tabI c_vec_eachv1 [⟨0, T_vec_eachv1_0, fun k q => L_vec_eachv1_0 F (fun (z0 : Int) (z1 : Int) (z2 : Int) (z3 : Int) (z4 : Int) (z5 : Int) (z6 : Bool) (z7 : Bool) (z8 : Int) (z9 : Int) (z10 : Int) (z11 : Int) (z12 : List VV) => k (.exit 0) (fS T_vec_eachv1_0_0 [.i z0, .i z1, .i z2, .i z3, .i z4, .i z5, .b z6, .b z7, .i z8, .i z9, .i z10, .i z11, .c z12])) F (atI (nth q 0)) (atI (nth q 1)) (atI (nth q 2)) (atI (nth q 3)) (atI (nth q 4)) (atI (nth q 5)) (atB (nth q 6)) (atB (nth q 7)) (atI (nth q 8)) (atI (nth q 9)) (atI (nth q 10)) (atI (nth q 11)) (atC (nth q 12))⟩]) (tabJ []) 90 (fTs ti_vec_eachv1 [.i a0, .i a1, .i a2, .i a3, .i a4, .i a5]).1 = (
  L_vec_eachv1_0 F (fun (v1793 : Int) (v1794 : Int) (v1795 : Int) (v1796 : Int) (v1797 : Int) (v1798 : Int) (v1799 : Bool) (v1800 : Bool) (v1801 : Int) (v1802 : Int) (v1803 : Int) (v1804 : Int) (v1805 : List VV) =>
    bif ((isI .i64 v1805[0]?) && ((isI .i64 v1805[1]?) && ((isI .i64 v1805[2]?) && true))) then (
      some (.v (.tuple #[.agg #[.int .i64 ((iv v1805[0]?)), .int .i64 ((iv v1805[1]?)), .int .i64 ((iv v1805[2]?))], .bool v1800])))
    else (
      none)) F a0 a1 a2 a3 a4 a5 false false 0 0 0 0 ([.v (.int .i64 0), .v (.int .i64 0), .v (.int .i64 0)]) : R) := by
    intros
    kernel_rfl
  exact (h ok_vec_Cross_1 o_vec_Cross_1_0 o_vec_Cross_1_1 L_vec_eachv1_0).trans (by kernel_rfl)
def ok_vec_eachv1 (F : Nat) (a0 : Int) (a1 : Int) (a2 : Int) (a3 : Int) (a4 : Int) (a5 : Int) : Bool := okT to_vec_eachv1 (f_vec_eachv1 F a0 a1 a2 a3 a4 a5)
def o_vec_eachv1_0 (F : Nat) (a0 : Int) (a1 : Int) (a2 : Int) (a3 : Int) (a4 : Int) (a5 : Int) : Int := atI (nth (outT to_vec_eachv1 (f_vec_eachv1 F a0 a1 a2 a3 a4 a5)) 0)
def o_vec_eachv1_1 (F : Nat) (a0 : Int) (a1 : Int) (a2 : Int) (a3 : Int) (a4 : Int) (a5 : Int) : Int := atI (nth (outT to_vec_eachv1 (f_vec_eachv1 F a0 a1 a2 a3 a4 a5)) 1)
def o_vec_eachv1_2 (F : Nat) (a0 : Int) (a1 : Int) (a2 : Int) (a3 : Int) (a4 : Int) (a5 : Int) : Int := atI (nth (outT to_vec_eachv1 (f_vec_eachv1 F a0 a1 a2 a3 a4 a5)) 2)
def o_vec_eachv1_3 (F : Nat) (a0 : Int) (a1 : Int) (a2 : Int) (a3 : Int) (a4 : Int) (a5 : Int) : Bool := atB (nth (outT to_vec_eachv1 (f_vec_eachv1 F a0 a1 a2 a3 a4 a5)) 3)
theorem k_vec_eachv1 (F : Nat) (a0 : Int) (a1 : Int) (a2 : Int) (a3 : Int) (a4 : Int) (a5 : Int) {z0 : Int} {z1 : Int} {z2 : Int} {z3 : Bool} (h : f_vec_eachv1 F a0 a1 a2 a3 a4 a5 = some (.v (.tuple #[.agg #[.int .i64 z0, .int .i64 z1, .int .i64 z2], .bool z3]))) : ok_vec_eachv1 F a0 a1 a2 a3 a4 a5 = true ∧ o_vec_eachv1_0 F a0 a1 a2 a3 a4 a5 = z0 ∧ o_vec_eachv1_1 F a0 a1 a2 a3 a4 a5 = z1 ∧ o_vec_eachv1_2 F a0 a1 a2 a3 a4 a5 = z2 ∧ o_vec_eachv1_3 F a0 a1 a2 a3 a4 a5 = z3 := by
  refine ⟨?_, ?_, ?_, ?_, ?_⟩
  · unfold ok_vec_eachv1; rw [h]; kernel_rfl
  · unfold o_vec_eachv1_0; rw [h]; kernel_rfl
  · unfold o_vec_eachv1_1; rw [h]; kernel_rfl
  · unfold o_vec_eachv1_2; rw [h]; kernel_rfl
  · unfold o_vec_eachv1_3; rw [h]; kernel_rfl
def s_vec_eachv1 (F : Nat) : List VV → Option (Bool × VV) := spec ti_vec_eachv1 to_vec_eachv1 (fun q => (ok_vec_eachv1 F (atI (nth q 0)) (atI (nth q 1)) (atI (nth q 2)) (atI (nth q 3)) (atI (nth q 4)) (atI (nth q 5)))) (fun q => [.i (o_vec_eachv1_0 F (atI (nth q 0)) (atI (nth q 1)) (atI (nth q 2)) (atI (nth q 3)) (atI (nth q 4)) (atI (nth q 5))), .i (o_vec_eachv1_1 F (atI (nth q 0)) (atI (nth q 1)) (atI (nth q 2)) (atI (nth q 3)) (atI (nth q 4)) (atI (nth q 5))), .i (o_vec_eachv1_2 F (atI (nth q 0)) (atI (nth q 1)) (atI (nth q 2)) (atI (nth q 3)) (atI (nth q 4)) (atI (nth q 5))), .b (o_vec_eachv1_3 F (atI (nth q 0)) (atI (nth q 1)) (atI (nth q 2)) (atI (nth q 3)) (atI (nth q 4)) (atI (nth q 5)))])
theorem hS_vec_eachv1 (F : Nat) : ∀ f, Good PP f (unS (S_vec_eachv1 F f)) := words_good fun p hp => by
  simp only [List.mem_cons, List.not_mem_nil, or_false] at hp
  rcases hp with rfl
  · exact g_vec_Cross_1 F
theorem hl_vec_eachv1 (F : Nat) : ∀ p ∈ loopsIn PP 90, LoopOK PP (S_vec_eachv1 F) c_vec_eachv1 F (I_vec_eachv1 F) (J_vec_eachv1 F) p :=
  loops_of [(0, loopAt PP 90 0)] (by kernel_rfl) (all_cons
    (loop_ok (W_vec_eachv1 F) rfl (tab_cons (fun _ k q => Le.ofEq ((lL_vec_eachv1_0 F k F (atI (nth q 0)) (atI (nth q 1)) (atI (nth q 2)) (atI (nth q 3)) (atI (nth q 4)) (atI (nth q 5)) (atB (nth q 6)) (atB (nth q 7)) (atI (nth q 8)) (atI (nth q 9)) (atI (nth q 10)) (atI (nth q 11)) (atC (nth q 12))).symm.trans (congrArg (iterC (codeL PP (S_vec_eachv1 F) c_vec_eachv1 (I_vec_eachv1 F) (J_vec_eachv1 F) (loopAt PP 90 0) 0) (headOf c_vec_eachv1 0) k F) (show fS T_vec_eachv1_0 [.i (atI (nth q 0)), .i (atI (nth q 1)), .i (atI (nth q 2)), .i (atI (nth q 3)), .i (atI (nth q 4)), .i (atI (nth q 5)), .b (atB (nth q 6)), .b (atB (nth q 7)), .i (atI (nth q 8)), .i (atI (nth q 9)), .i (atI (nth q 10)), .i (atI (nth q 11)), .c (atC (nth q 12))] = fS T_vec_eachv1_0 q by kernel_rfl)))) tab_nil)) all_nil)
theorem hj_vec_eachv1 (F : Nat) : ∀ p ∈ joinsIn PP c_vec_eachv1 90, JoinOK PP (S_vec_eachv1 F) c_vec_eachv1 (I_vec_eachv1 F) (J_vec_eachv1 F) p :=
  joins_of [] (by kernel_rfl) all_nil
theorem g_vec_eachv1 (F : Nat) : Good PP 90 (unS (s_vec_eachv1 F)) :=
  fun_spec (hS_vec_eachv1 F) (by kernel_rfl) (by kernel_rfl) (C := c_vec_eachv1) (F := fun q => (f_vec_eachv1 F (atI (nth q 0)) (atI (nth q 1)) (atI (nth q 2)) (atI (nth q 3)) (atI (nth q 4)) (atI (nth q 5)))) (fun _ => F) (fun _ => I_vec_eachv1 F) (fun _ => J_vec_eachv1 F) (fun _ => hl_vec_eachv1 F) (fun _ => hj_vec_eachv1 F)
    (fun q => (congrArg (funL PP (S_vec_eachv1 F) c_vec_eachv1 (I_vec_eachv1 F) (J_vec_eachv1 F) 90) (show (fTs ti_vec_eachv1 q).1 = (fTs ti_vec_eachv1 [.i (atI (nth q 0)), .i (atI (nth q 1)), .i (atI (nth q 2)), .i (atI (nth q 3)), .i (atI (nth q 4)), .i (atI (nth q 5))]).1 by kernel_rfl)).trans (e_vec_eachv1 F (atI (nth q 0)) (atI (nth q 1)) (atI (nth q 2)) (atI (nth q 3)) (atI (nth q 4)) (atI (nth q 5))))
    (fun _ h => (okT_fill h).trans (congrArg some (by kernel_rfl)))

end Go.Xv
set_option linter.unusedVariables false
namespace Go.Xv
/- 49 _vec_Cross -/
def c_vec_Cross : Cfg := ⟨[0, 1, 2, 3, 4, 5], [], [], []⟩
def ti_vec_Cross : List TV := [.v (.agg [.int .i64, .int .i64, .int .i64]), .v (.agg [.int .i64, .int .i64, .int .i64])]
def to_vec_Cross : TV := .v (.tup [.agg [.int .i64, .int .i64, .int .i64], .bool])
def S_vec_Cross (F : Nat) : FuncId → List VV → Option (Bool × VV) := words [(90, s_vec_eachv1 F)]
def W_vec_Cross (F : Nat) : List LW := []
def I_vec_Cross (F : Nat) : Nat → VS → (Exit → VS → R) → R := tabI c_vec_Cross (W_vec_Cross F)
def WJ_vec_Cross (F : Nat) : List LJ := []
def J_vec_Cross (F : Nat) : Nat → Nat → VS → (Exit → VS → R) → R := tabJ (WJ_vec_Cross F)
def f_vec_Cross (F : Nat) (a0 : Int) (a1 : Int) (a2 : Int) (a3 : Int) (a4 : Int) (a5 : Int) : R :=
  bif (ok_vec_eachv1 F a0 a1 a2 a3 a4 a5) then (
    some (.v (.tuple #[.agg #[.int .i64 ((o_vec_eachv1_0 F a0 a1 a2 a3 a4 a5)), .int .i64 ((o_vec_eachv1_1 F a0 a1 a2 a3 a4 a5)), .int .i64 ((o_vec_eachv1_2 F a0 a1 a2 a3 a4 a5))], .bool ((o_vec_eachv1_3 F a0 a1 a2 a3 a4 a5))])))
  else (
    none)
theorem e_vec_Cross (F : Nat) (a0 : Int) (a1 : Int) (a2 : Int) (a3 : Int) (a4 : Int) (a5 : Int) : funL PP (S_vec_Cross F) c_vec_Cross (I_vec_Cross F) (J_vec_Cross F) 49 (fTs ti_vec_Cross [.i a0, .i a1, .i a2, .i a3, .i a4, .i a5]).1 = f_vec_Cross F a0 a1 a2 a3 a4 a5 := by
  have h : ∀ (ok_vec_eachv1 : Nat → Int → Int → Int → Int → Int → Int → Bool) (o_vec_eachv1_0 : Nat → Int → Int → Int → Int → Int → Int → Int) (o_vec_eachv1_1 : Nat → Int → Int → Int → Int → Int → Int → Int) (o_vec_eachv1_2 : Nat → Int → Int → Int → Int → Int → Int → Int) (o_vec_eachv1_3 : Nat → Int → Int → Int → Int → Int → Int → Bool), funL PP (words [(90, spec ti_vec_eachv1 to_vec_eachv1 (fun q => (ok_vec_eachv1 F (atI (nth q 0)) (atI (nth q 1)) (atI (nth q 2)) (atI (nth q 3)) (atI (nth q 4)) (atI (nth q 5)))) (fun q => [.i (o_vec_eachv1_0 F (atI (nth q 0)) (atI (nth q 1)) (atI (nth q 2)) (atI (nth q 3)) (atI (nth q 4)) (atI (nth q 5))), .i (o_vec_eachv1_1 F (atI (nth q 0)) (atI (nth q 1)) (atI (nth q 2)) (atI (nth q 3)) (atI (nth q 4)) (atI (nth q 5))), .i (o_vec_eachv1_2 F (atI (nth q 0)) (atI (nth q 1)) (atI (nth q 2)) (atI (nth q 3)) (atI (nth q 4)) (atI (nth q 5))), .b (o_vec_eachv1_3 F (atI (nth q 0)) (atI (nth q 1)) (atI (nth q 2)) (atI (nth q 3)) (atI (nth q 4)) (atI (nth q 5)))]))]) c_vec_Cross (tabI c_vec_Cross []) (tabJ []) 49 (fTs ti_vec_Cross [.i a0, .i a1, .i a2, .i a3, .i a4, .i a5]).1 = (
  bif (ok_vec_eachv1 F a0 a1 a2 a3 a4 a5) then (
    some (.v (.tuple #[.agg #[.int .i64 ((o_vec_eachv1_0 F a0 a1 a2 a3 a4 a5)), .int .i64 ((o_vec_eachv1_1 F a0 a1 a2 a3 a4 a5)), .int .i64 ((o_vec_eachv1_2 F a0 a1 a2 a3 a4 a5))], .bool ((o_vec_eachv1_3 F a0 a1 a2 a3 a4 a5))])))
  else (
    none) : R) := by
    intros
    kernel_rfl
  exact (h ok_vec_eachv1 o_vec_eachv1_0 o_vec_eachv1_1 o_vec_eachv1_2 o_vec_eachv1_3).trans (by kernel_rfl)
def ok_vec_Cross (F : Nat) (a0 : Int) (a1 : Int) (a2 : Int) (a3 : Int) (a4 : Int) (a5 : Int) : Bool := okT to_vec_Cross (f_vec_Cross F a0 a1 a2 a3 a4 a5)
def o_vec_Cross_0 (F : Nat) (a0 : Int) (a1 : Int) (a2 : Int) (a3 : Int) (a4 : Int) (a5 : Int) : Int := atI (nth (outT to_vec_Cross (f_vec_Cross F a0 a1 a2 a3 a4 a5)) 0)
def o_vec_Cross_1 (F : Nat) (a0 : Int) (a1 : Int) (a2 : Int) (a3 : Int) (a4 : Int) (a5 : Int) : Int := atI (nth (outT to_vec_Cross (f_vec_Cross F a0 a1 a2 a3 a4 a5)) 1)
def o_vec_Cross_2 (F : Nat) (a0 : Int) (a1 : Int) (a2 : Int) (a3 : Int) (a4 : Int) (a5 : Int) : Int := atI (nth (outT to_vec_Cross (f_vec_Cross F a0 a1 a2 a3 a4 a5)) 2)
def o_vec_Cross_3 (F : Nat) (a0 : Int) (a1 : Int) (a2 : Int) (a3 : Int) (a4 : Int) (a5 : Int) : Bool := atB (nth (outT to_vec_Cross (f_vec_Cross F a0 a1 a2 a3 a4 a5)) 3)
theorem k_vec_Cross (F : Nat) (a0 : Int) (a1 : Int) (a2 : Int) (a3 : Int) (a4 : Int) (a5 : Int) {z0 : Int} {z1 : Int} {z2 : Int} {z3 : Bool} (h : f_vec_Cross F a0 a1 a2 a3 a4 a5 = some (.v (.tuple #[.agg #[.int .i64 z0, .int .i64 z1, .int .i64 z2], .bool z3]))) : ok_vec_Cross F a0 a1 a2 a3 a4 a5 = true ∧ o_vec_Cross_0 F a0 a1 a2 a3 a4 a5 = z0 ∧ o_vec_Cross_1 F a0 a1 a2 a3 a4 a5 = z1 ∧ o_vec_Cross_2 F a0 a1 a2 a3 a4 a5 = z2 ∧ o_vec_Cross_3 F a0 a1 a2 a3 a4 a5 = z3 := by
  refine ⟨?_, ?_, ?_, ?_, ?_⟩
  · unfold ok_vec_Cross; rw [h]; kernel_rfl
  · unfold o_vec_Cross_0; rw [h]; kernel_rfl
  · unfold o_vec_Cross_1; rw [h]; kernel_rfl
  · unfold o_vec_Cross_2; rw [h]; kernel_rfl
  · unfold o_vec_Cross_3; rw [h]; kernel_rfl
def s_vec_Cross (F : Nat) : List VV → Option (Bool × VV) := spec ti_vec_Cross to_vec_Cross (fun q => (ok_vec_Cross F (atI (nth q 0)) (atI (nth q 1)) (atI (nth q 2)) (atI (nth q 3)) (atI (nth q 4)) (atI (nth q 5)))) (fun q => [.i (o_vec_Cross_0 F (atI (nth q 0)) (atI (nth q 1)) (atI (nth q 2)) (atI (nth q 3)) (atI (nth q 4)) (atI (nth q 5))), .i (o_vec_Cross_1 F (atI (nth q 0)) (atI (nth q 1)) (atI (nth q 2)) (atI (nth q 3)) (atI (nth q 4)) (atI (nth q 5))), .i (o_vec_Cross_2 F (atI (nth q 0)) (atI (nth q 1)) (atI (nth q 2)) (atI (nth q 3)) (atI (nth q 4)) (atI (nth q 5))), .b (o_vec_Cross_3 F (atI (nth q 0)) (atI (nth q 1)) (atI (nth q 2)) (atI (nth q 3)) (atI (nth q 4)) (atI (nth q 5)))])
theorem hS_vec_Cross (F : Nat) : ∀ f, Good PP f (unS (S_vec_Cross F f)) := words_good fun p hp => by
  simp only [List.mem_cons, List.not_mem_nil, or_false] at hp
  rcases hp with rfl
  · exact g_vec_eachv1 F
theorem hl_vec_Cross (F : Nat) : ∀ p ∈ loopsIn PP 49, LoopOK PP (S_vec_Cross F) c_vec_Cross F (I_vec_Cross F) (J_vec_Cross F) p :=
  loops_of [] (by kernel_rfl) all_nil
theorem hj_vec_Cross (F : Nat) : ∀ p ∈ joinsIn PP c_vec_Cross 49, JoinOK PP (S_vec_Cross F) c_vec_Cross (I_vec_Cross F) (J_vec_Cross F) p :=
  joins_of [] (by kernel_rfl) all_nil
theorem g_vec_Cross (F : Nat) : Good PP 49 (unS (s_vec_Cross F)) :=
  fun_spec (hS_vec_Cross F) (by kernel_rfl) (by kernel_rfl) (C := c_vec_Cross) (F := fun q => (f_vec_Cross F (atI (nth q 0)) (atI (nth q 1)) (atI (nth q 2)) (atI (nth q 3)) (atI (nth q 4)) (atI (nth q 5)))) (fun _ => F) (fun _ => I_vec_Cross F) (fun _ => J_vec_Cross F) (fun _ => hl_vec_Cross F) (fun _ => hj_vec_Cross F)
    (fun q => (congrArg (funL PP (S_vec_Cross F) c_vec_Cross (I_vec_Cross F) (J_vec_Cross F) 49) (show (fTs ti_vec_Cross q).1 = (fTs ti_vec_Cross [.i (atI (nth q 0)), .i (atI (nth q 1)), .i (atI (nth q 2)), .i (atI (nth q 3)), .i (atI (nth q 4)), .i (atI (nth q 5))]).1 by kernel_rfl)).trans (e_vec_Cross F (atI (nth q 0)) (atI (nth q 1)) (atI (nth q 2)) (atI (nth q 3)) (atI (nth q 4)) (atI (nth q 5))))
    (fun _ h => (okT_fill h).trans (congrArg some (by kernel_rfl)))

end Go.Xv
set_option linter.unusedVariables false
namespace Go.Xv
/- 14 _law06_VecApart -/
def c_law06_VecApart : Cfg := ⟨[0, 1, 2, 3, 4, 5, 6, 7, 8, 9, 10, 11, 12, 13, 14, 15, 17], [], [], []⟩
def ti_law06_VecApart : List TV := [.v (.agg [.int .i64, .int .i64, .int .i64]), .v (.agg [.int .i64, .int .i64, .int .i64])]
def to_law06_VecApart : TV := .v (.bool)
def S_law06_VecApart (F : Nat) : FuncId → List VV → Option (Bool × VV) := words [(22, s_law06_works F), (49, s_vec_Cross F), (47, s_vec_Dot F)]
def W_law06_VecApart (F : Nat) : List LW := []
def I_law06_VecApart (F : Nat) : Nat → VS → (Exit → VS → R) → R := tabI c_law06_VecApart (W_law06_VecApart F)
def WJ_law06_VecApart (F : Nat) : List LJ := []
def J_law06_VecApart (F : Nat) : Nat → Nat → VS → (Exit → VS → R) → R := tabJ (WJ_law06_VecApart F)
def f_law06_VecApart (F : Nat) (a0 : Int) (a1 : Int) (a2 : Int) (a3 : Int) (a4 : Int) (a5 : Int) : R :=
  bif (ok_law06_works F) then (
    bif ((!((o_law06_works_0 F)))) then (
      some (.v (.bool false)))
    else (
      bif (ok_vec_Cross F a0 a1 a2 a3 a4 a5) then (
        bif (ok_vec_Cross F a3 a4 a5 a0 a1 a2) then (
          bif (ok_vec_Cross F a0 a1 a2 a0 a1 a2) then (
            let v1852 : Int := (o_vec_Cross_0 F a0 a1 a2 a0 a1 a2)
            let v1853 : Int := (o_vec_Cross_1 F a0 a1 a2 a0 a1 a2)
            let v1854 : Int := (o_vec_Cross_2 F a0 a1 a2 a0 a1 a2)
            let v1855 : Bool := (o_vec_Cross_3 F a0 a1 a2 a0 a1 a2)
            bif (ok_vec_Dot F a0 a1 a2 a3 a4 a5) then (
              let v1856 : Int := (o_vec_Dot_0 F a0 a1 a2 a3 a4 a5)
              let v1857 : Bool := (o_vec_Dot_1 F a0 a1 a2 a3 a4 a5)
              bif (ok_vec_Dot F a3 a4 a5 a0 a1 a2) then (
                let v1858 : Int := (o_vec_Dot_0 F a3 a4 a5 a0 a1 a2)
                let v1859 : Bool := (o_vec_Dot_1 F a3 a4 a5 a0 a1 a2)
                bif ((o_vec_Cross_3 F a0 a1 a2 a3 a4 a5)) then (
                  bif (((v1852 == 0) && ((v1853 == 0) && (v1854 == 0)))) then (
                    bif ((!v1855)) then (
                      bif ((v1856 == v1858)) then (
                        some (.v (.bool ((v1857 == v1859)))))
                      else (
                        some (.v (.bool false))))
                    else (
                      some (.v (.bool false))))
                  else (
                    some (.v (.bool false))))
                else (
                  bif ((o_vec_Cross_3 F a3 a4 a5 a0 a1 a2)) then (
                    bif (((v1852 == 0) && ((v1853 == 0) && (v1854 == 0)))) then (
                      bif ((!v1855)) then (
                        bif ((v1856 == v1858)) then (
                          some (.v (.bool ((v1857 == v1859)))))
                        else (
                          some (.v (.bool false))))
                      else (
                        some (.v (.bool false))))
                    else (
                      some (.v (.bool false))))
                  else (
                    bif (((((o_vec_Cross_0 F a0 a1 a2 a3 a4 a5)) == ((IntKind.wrap .i64 (0 - ((o_vec_Cross_0 F a3 a4 a5 a0 a1 a2)))))) && ((((o_vec_Cross_1 F a0 a1 a2 a3 a4 a5)) == ((IntKind.wrap .i64 (0 - ((o_vec_Cross_1 F a3 a4 a5 a0 a1 a2)))))) && (((o_vec_Cross_2 F a0 a1 a2 a3 a4 a5)) == ((IntKind.wrap .i64 (0 - ((o_vec_Cross_2 F a3 a4 a5 a0 a1 a2))))))))) then (
                      bif (((v1852 == 0) && ((v1853 == 0) && (v1854 == 0)))) then (
                        bif ((!v1855)) then (
                          bif ((v1856 == v1858)) then (
                            some (.v (.bool ((v1857 == v1859)))))
                          else (
                            some (.v (.bool false))))
                        else (
                          some (.v (.bool false))))
                      else (
                        some (.v (.bool false))))
                    else (
                      some (.v (.bool false))))))
              else (
                none))
            else (
              none))
          else (
            none))
        else (
          none))
      else (
        none)))
  else (
    none)
theorem e_law06_VecApart (F : Nat) (a0 : Int) (a1 : Int) (a2 : Int) (a3 : Int) (a4 : Int) (a5 : Int) : funL PP (S_law06_VecApart F) c_law06_VecApart (I_law06_VecApart F) (J_law06_VecApart F) 14 (fTs ti_law06_VecApart [.i a0, .i a1, .i a2, .i a3, .i a4, .i a5]).1 = f_law06_VecApart F a0 a1 a2 a3 a4 a5 := by
  have h : ∀ (ok_law06_works : Nat → Bool) (o_law06_works_0 : Nat → Bool) (ok_vec_Cross : Nat → Int → Int → Int → Int → Int → Int → Bool) (o_vec_Cross_0 : Nat → Int → Int → Int → Int → Int → Int → Int) (o_vec_Cross_1 : Nat → Int → Int → Int → Int → Int → Int → Int) (o_vec_Cross_2 : Nat → Int → Int → Int → Int → Int → Int → Int) (o_vec_Cross_3 : Nat → Int → Int → Int → Int → Int → Int → Bool) (ok_vec_Dot : Nat → Int → Int → Int → Int → Int → Int → Bool) (o_vec_Dot_0 : Nat → Int → Int → Int → Int → Int → Int → Int) (o_vec_Dot_1 : Nat → Int → Int → Int → Int → Int → Int → Bool), funL PP (words [(22, spec ti_law06_works to_law06_works (fun q => (ok_law06_works F )) (fun q => [.b (o_law06_works_0 F )])), (49, spec ti_vec_Cross to_vec_Cross (fun q => (ok_vec_Cross F (atI (nth q 0)) (atI (nth q 1)) (atI (nth q 2)) (atI (nth q 3)) (atI (nth q 4)) (atI (nth q 5)))) (fun q => [.i (o_vec_Cross_0 F (atI (nth q 0)) (atI (nth q 1)) (atI (nth q 2)) (atI (nth q 3)) (atI (nth q 4)) (atI (nth q 5))), .i (o_vec_Cross_1 F (atI (nth q 0)) (atI (nth q 1)) (atI (nth q 2)) (atI (nth q 3)) (atI (nth q 4)) (atI (nth q 5))), .i (o_vec_Cross_2 F (atI (nth q 0)) (atI (nth q 1)) (atI (nth q 2)) (atI (nth q 3)) (atI (nth q 4)) (atI (nth q 5))), .b (o_vec_Cross_3 F (atI (nth q 0)) (atI (nth q 1)) (atI (nth q 2)) (atI (nth q 3)) (atI (nth q 4)) (atI (nth q 5)))])), (47, spec ti_vec_Dot to_vec_Dot (fun q => (ok_vec_Dot F (atI (nth q 0)) (atI (nth q 1)) (atI (nth q 2)) (atI (nth q 3)) (atI (nth q 4)) (atI (nth q 5)))) (fun q => [.i (o_vec_Dot_0 F (atI (nth q 0)) (atI (nth q 1)) (atI (nth q 2)) (atI (nth q 3)) (atI (nth q 4)) (atI (nth q 5))), .b (o_vec_Dot_1 F (atI (nth q 0)) (atI (nth q 1)) (atI (nth q 2)) (atI (nth q 3)) (atI (nth q 4)) (atI (nth q 5)))]))]) c_law06_VecApart (tabI c_law06_VecApart []) (tabJ []) 14 (fTs ti_law06_VecApart [.i a0, .i a1, .i a2, .i a3, .i a4, .i a5]).1 = (
  bif (ok_law06_works F) then (
    bif ((!((o_law06_works_0 F)))) then (
      some (.v (.bool false)))
    else (
      bif (ok_vec_Cross F a0 a1 a2 a3 a4 a5) then (
        bif (ok_vec_Cross F a3 a4 a5 a0 a1 a2) then (
          bif (ok_vec_Cross F a0 a1 a2 a0 a1 a2) then (
            let v1852 : Int := (o_vec_Cross_0 F a0 a1 a2 a0 a1 a2)
            let v1853 : Int := (o_vec_Cross_1 F a0 a1 a2 a0 a1 a2)
            let v1854 : Int := (o_vec_Cross_2 F a0 a1 a2 a0 a1 a2)
            let v1855 : Bool := (o_vec_Cross_3 F a0 a1 a2 a0 a1 a2)
            bif (ok_vec_Dot F a0 a1 a2 a3 a4 a5) then (
              let v1856 : Int := (o_vec_Dot_0 F a0 a1 a2 a3 a4 a5)
              let v1857 : Bool := (o_vec_Dot_1 F a0 a1 a2 a3 a4 a5)
              bif (ok_vec_Dot F a3 a4 a5 a0 a1 a2) then (
                let v1858 : Int := (o_vec_Dot_0 F a3 a4 a5 a0 a1 a2)
                let v1859 : Bool := (o_vec_Dot_1 F a3 a4 a5 a0 a1 a2)
                bif ((o_vec_Cross_3 F a0 a1 a2 a3 a4 a5)) then (
                  bif (((v1852 == 0) && ((v1853 == 0) && (v1854 == 0)))) then (
                    bif ((!v1855)) then (
                      bif ((v1856 == v1858)) then (
                        some (.v (.bool ((v1857 == v1859)))))
                      else (
                        some (.v (.bool false))))
                    else (
                      some (.v (.bool false))))
                  else (
                    some (.v (.bool false))))
                else (
                  bif ((o_vec_Cross_3 F a3 a4 a5 a0 a1 a2)) then (
                    bif (((v1852 == 0) && ((v1853 == 0) && (v1854 == 0)))) then (
                      bif ((!v1855)) then (
                        bif ((v1856 == v1858)) then (
                          some (.v (.bool ((v1857 == v1859)))))
                        else (
                          some (.v (.bool false))))
                      else (
                        some (.v (.bool false))))
                    else (
                      some (.v (.bool false))))
                  else (
                    bif (((((o_vec_Cross_0 F a0 a1 a2 a3 a4 a5)) == ((IntKind.wrap .i64 (0 - ((o_vec_Cross_0 F a3 a4 a5 a0 a1 a2)))))) && ((((o_vec_Cross_1 F a0 a1 a2 a3 a4 a5)) == ((IntKind.wrap .i64 (0 - ((o_vec_Cross_1 F a3 a4 a5 a0 a1 a2)))))) && (((o_vec_Cross_2 F a0 a1 a2 a3 a4 a5)) == ((IntKind.wrap .i64 (0 - ((o_vec_Cross_2 F a3 a4 a5 a0 a1 a2))))))))) then (
                      bif (((v1852 == 0) && ((v1853 == 0) && (v1854 == 0)))) then (
                        bif ((!v1855)) then (
                          bif ((v1856 == v1858)) then (
                            some (.v (.bool ((v1857 == v1859)))))
                          else (
                            some (.v (.bool false))))
                        else (
                          some (.v (.bool false))))
                      else (
                        some (.v (.bool false))))
                    else (
                      some (.v (.bool false))))))
              else (
                none))
            else (
              none))
          else (
            none))
        else (
          none))
      else (
        none)))
  else (
    none) : R) := by
    intros
    kernel_rfl
  exact (h ok_law06_works o_law06_works_0 ok_vec_Cross o_vec_Cross_0 o_vec_Cross_1 o_vec_Cross_2 o_vec_Cross_3 ok_vec_Dot o_vec_Dot_0 o_vec_Dot_1).trans (by kernel_rfl)
def ok_law06_VecApart (F : Nat) (a0 : Int) (a1 : Int) (a2 : Int) (a3 : Int) (a4 : Int) (a5 : Int) : Bool := okT to_law06_VecApart (f_law06_VecApart F a0 a1 a2 a3 a4 a5)
def o_law06_VecApart_0 (F : Nat) (a0 : Int) (a1 : Int) (a2 : Int) (a3 : Int) (a4 : Int) (a5 : Int) : Bool := atB (nth (outT to_law06_VecApart (f_law06_VecApart F a0 a1 a2 a3 a4 a5)) 0)
theorem k_law06_VecApart (F : Nat) (a0 : Int) (a1 : Int) (a2 : Int) (a3 : Int) (a4 : Int) (a5 : Int) {z0 : Bool} (h : f_law06_VecApart F a0 a1 a2 a3 a4 a5 = some (.v (.bool z0))) : ok_law06_VecApart F a0 a1 a2 a3 a4 a5 = true ∧ o_law06_VecApart_0 F a0 a1 a2 a3 a4 a5 = z0 := by
  refine ⟨?_, ?_⟩
  · unfold ok_law06_VecApart; rw [h]; kernel_rfl
  · unfold o_law06_VecApart_0; rw [h]; kernel_rfl
def s_law06_VecApart (F : Nat) : List VV → Option (Bool × VV) := spec ti_law06_VecApart to_law06_VecApart (fun q => (ok_law06_VecApart F (atI (nth q 0)) (atI (nth q 1)) (atI (nth q 2)) (atI (nth q 3)) (atI (nth q 4)) (atI (nth q 5)))) (fun q => [.b (o_law06_VecApart_0 F (atI (nth q 0)) (atI (nth q 1)) (atI (nth q 2)) (atI (nth q 3)) (atI (nth q 4)) (atI (nth q 5)))])
theorem hS_law06_VecApart (F : Nat) : ∀ f, Good PP f (unS (S_law06_VecApart F f)) := words_good fun p hp => by
  simp only [List.mem_cons, List.not_mem_nil, or_false] at hp
  rcases hp with rfl | rfl | rfl
  · exact g_law06_works F
  · exact g_vec_Cross F
  · exact g_vec_Dot F
theorem hl_law06_VecApart (F : Nat) : ∀ p ∈ loopsIn PP 14, LoopOK PP (S_law06_VecApart F) c_law06_VecApart F (I_law06_VecApart F) (J_law06_VecApart F) p :=
  loops_of [] (by kernel_rfl) all_nil
theorem hj_law06_VecApart (F : Nat) : ∀ p ∈ joinsIn PP c_law06_VecApart 14, JoinOK PP (S_law06_VecApart F) c_law06_VecApart (I_law06_VecApart F) (J_law06_VecApart F) p :=
  joins_of [] (by kernel_rfl) all_nil
theorem g_law06_VecApart (F : Nat) : Good PP 14 (unS (s_law06_VecApart F)) :=
  fun_spec (hS_law06_VecApart F) (by kernel_rfl) (by kernel_rfl) (C := c_law06_VecApart) (F := fun q => (f_law06_VecApart F (atI (nth q 0)) (atI (nth q 1)) (atI (nth q 2)) (atI (nth q 3)) (atI (nth q 4)) (atI (nth q 5)))) (fun _ => F) (fun _ => I_law06_VecApart F) (fun _ => J_law06_VecApart F) (fun _ => hl_law06_VecApart F) (fun _ => hj_law06_VecApart F)
    (fun q => (congrArg (funL PP (S_law06_VecApart F) c_law06_VecApart (I_law06_VecApart F) (J_law06_VecApart F) 14) (show (fTs ti_law06_VecApart q).1 = (fTs ti_law06_VecApart [.i (atI (nth q 0)), .i (atI (nth q 1)), .i (atI (nth q 2)), .i (atI (nth q 3)), .i (atI (nth q 4)), .i (atI (nth q 5))]).1 by kernel_rfl)).trans (e_law06_VecApart F (atI (nth q 0)) (atI (nth q 1)) (atI (nth q 2)) (atI (nth q 3)) (atI (nth q 4)) (atI (nth q 5))))
    (fun _ h => (okT_fill h).trans (congrArg some (by kernel_rfl)))

end Go.Xv
namespace Go.Xv
theorem p2pos (n : Nat) : (0 : Int) < 2 ^ n := Int.pow_pos (by decide)
theorem p2add (a b : Nat) : (2 : Int) ^ a * 2 ^ b = 2 ^ (a + b) := (Int.pow_add 2 a b).symm
theorem p2_64 {m : Nat} (h : m ≤ 64) : (2 : Int) ^ m * 2 ^ (64 - m) = 18446744073709551616 := by
  rw [p2add, show m + (64 - m) = 64 by omega]; decide
theorem p2cast (k : Nat) : ((2 ^ k : Nat) : Int) = 2 ^ k := by push_cast; rfl
theorem or_comm_u64 (a b : Int) : orI .u64 a b = orI .u64 b a := by rw [or_u64_bv, or_u64_bv, BitVec.or_comm]
theorem div_I64 {h P : Int} (hh : I64 h) (hP : 0 < P) : I64 (h / P) := by
  unfold I64 at *
  rcases Int.lt_or_le h 0 with hn | hn
  · constructor
    · rw [Int.le_ediv_iff_mul_le hP]
      have : -9223372036854775808 * P ≤ -9223372036854775808 * 1 := Int.mul_le_mul_of_nonpos_left (by omega) (by omega)
      omega
    · have := Int.ediv_neg_of_neg_of_pos hn hP
      omega
  · have h1 := Int.ediv_nonneg hn (Int.le_of_lt hP)
    have h2 := Int.ediv_le_self P hn
    omega
theorem emod_mul {a P Q : Int} (hP : 0 < P) : (a * P) % (P * Q) = (a % Q) * P := by
  rw [Int.mul_comm a P, Int.mul_emod_mul_of_pos _ _ hP, Int.mul_comm]

/-- a shift to the right by less than a half, put together of both halves. -/
theorem shr_small {h l : Int} {m : Nat} (hh : I64 h) (hl : U64 l) (hm : m < 64) :
    h / 2 ^ m = hi (val h l / 2 ^ m) ∧ orI .u64 (l / 2 ^ m) (((h % 18446744073709551616) * 2 ^ (64 - m)) % 18446744073709551616) = lo (val h l / 2 ^ m) := by
  have hP := p2pos m
  have hQ := p2pos (64 - m)
  have hPQ := p2_64 (m := m) (by omega)
  have hI := div_I64 hh hP
  have eP : ((2 ^ (64 - m) : Nat) : Int) = 2 ^ (64 - m) := p2cast _
  have orq := fun a b => or_add_u64 (64 - m) (a := a) (b := b)
  rw [eP] at orq
  generalize (2 : Int) ^ m = P at *
  generalize (2 : Int) ^ (64 - m) = Q at *
  have hv : val h l / P = h * Q + l / P := by
    unfold val
    rw [← hPQ, show h * (P * Q) + l = l + h * Q * P by rw [Int.mul_comm P Q, ← Int.mul_assoc]; omega, Int.add_mul_ediv_right _ _ (by omega)]
    omega
  have hlP : 0 ≤ l / P ∧ l / P < Q := by
    unfold U64 at hl
    refine ⟨Int.ediv_nonneg hl.1 (by omega), Int.ediv_lt_of_lt_mul hP ?_⟩
    rw [Int.mul_comm]; omega
  have h64 : (0 : Int) < 18446744073709551616 := by decide
  have hdd : (h * Q + l / P) / 18446744073709551616 = h / P := by
    rw [← hPQ, Int.mul_comm P Q, ← Int.ediv_ediv_of_nonneg (by omega), show h * Q + l / P = l / P + h * Q by omega, Int.add_mul_ediv_right _ _ (by omega), Int.ediv_eq_zero_of_lt hlP.1 hlP.2]
    simp
  rw [hv]
  constructor
  · unfold hi
    rw [hdd]
    unfold I64 at hI
    omega
  · have e1 : ((h % 18446744073709551616) * Q) % 18446744073709551616 = (h % P) * Q := by
      rw [← hPQ, Int.mul_comm P Q, emod_mul hQ, Int.mul_comm Q P, Int.emod_emod_of_dvd h (Int.dvd_mul_right P Q)]
    have b1 := Int.emod_nonneg h (show P ≠ 0 by omega)
    have b2 := Int.emod_lt_of_pos h hP
    have b3 : (h % P) * Q + l / P < 18446744073709551616 := by
      have : (h % P) * Q ≤ (P - 1) * Q := Int.mul_le_mul_of_nonneg_right (by omega) (by omega)
      rw [Int.sub_mul] at this
      omega
    have b4 := Int.mul_nonneg b1 (show 0 ≤ Q by omega)
    rw [e1, or_comm_u64, orq _ _ b1 hlP.1 hlP.2 b3]
    unfold lo
    have e2 : (h * Q) % 18446744073709551616 = (h % P) * Q := by rw [← hPQ, Int.mul_comm P Q, emod_mul hQ]
    omega

theorem shr_great {h l : Int} {m : Nat} (hl : U64 l) (hm : 64 ≤ m) : h / 2 ^ (m - 64) = val h l / 2 ^ m := by
  have e : (2 : Int) ^ m = 18446744073709551616 * 2 ^ (m - 64) := by
    rw [show (18446744073709551616 : Int) = 2 ^ 64 by decide, p2add, show 64 + (m - 64) = m by omega]
  rw [e, ← Int.ediv_ediv_of_nonneg (by decide)]
  congr 1
  unfold val
  unfold U64 at hl
  omega

theorem shl_small {h l : Int} {m : Nat} (hl : U64 l) (hm : m < 64) :
    IntKind.wrap .i64 (orI .u64 (((h % 18446744073709551616) * 2 ^ m) % 18446744073709551616) (l / 2 ^ (64 - m))) = hi (val h l * 2 ^ m) ∧ (l * 2 ^ m) % 18446744073709551616 = lo (val h l * 2 ^ m) := by
  have hP := p2pos m
  have hQ := p2pos (64 - m)
  have hPQ := p2_64 (m := m) (by omega)
  have eP : ((2 ^ m : Nat) : Int) = 2 ^ m := p2cast _
  have orq := fun a b => or_add_u64 m (a := a) (b := b)
  rw [eP] at orq
  generalize (2 : Int) ^ m = P at *
  generalize (2 : Int) ^ (64 - m) = Q at *
  have hv : val h l * P = h * P * 18446744073709551616 + l * P := by
    unfold val
    rw [Int.add_mul]
    have : h * 18446744073709551616 * P = h * P * 18446744073709551616 := by simp only [Int.mul_comm, Int.mul_assoc, Int.mul_left_comm]
    omega
  have hlP : 0 ≤ l / Q ∧ l / Q < P := by
    unfold U64 at hl
    exact ⟨Int.ediv_nonneg hl.1 (by omega), Int.ediv_lt_of_lt_mul hQ (by omega)⟩
  rw [hv]
  have e3 : (l * P) / 18446744073709551616 = l / Q := by
    rw [← hPQ, ← Int.ediv_ediv_of_nonneg (by omega), Int.mul_ediv_cancel _ (by omega)]
  constructor
  · have e1 : ((h % 18446744073709551616) * P) % 18446744073709551616 = (h % Q) * P := by
      rw [← hPQ, emod_mul hP, Int.emod_emod_of_dvd h (show Q ∣ P * Q from ⟨P, Int.mul_comm P Q⟩)]
    have b1 := Int.emod_nonneg h (show Q ≠ 0 by omega)
    have b2 := Int.emod_lt_of_pos h hQ
    have b3 : (h % Q) * P + l / Q < 18446744073709551616 := by
      have : (h % Q) * P ≤ (Q - 1) * P := Int.mul_le_mul_of_nonneg_right (by omega) (by omega)
      rw [Int.sub_mul, Int.mul_comm Q P] at this
      omega
    have b4 := Int.mul_nonneg b1 (show 0 ≤ P by omega)
    rw [e1, orq _ _ b1 hlP.1 hlP.2 b3, wi64]
    unfold hi
    have e2 : (h * P) % 18446744073709551616 = (h % Q) * P := by rw [← hPQ, emod_mul hP]
    rw [show (h * P * 18446744073709551616 + l * P) / 18446744073709551616 = h * P + (l * P) / 18446744073709551616 by omega, e3]
    omega
  · unfold lo
    omega

theorem shl_great {h l : Int} {m : Nat} (hm : 64 ≤ m) :
    IntKind.wrap .i64 ((l * 2 ^ (m - 64)) % 18446744073709551616) = hi (val h l * 2 ^ m) ∧ 0 = lo (val h l * 2 ^ m) := by
  have e : (2 : Int) ^ m = 2 ^ (m - 64) * 18446744073709551616 := by
    rw [show (18446744073709551616 : Int) = 2 ^ 64 by decide, p2add, show (m - 64) + 64 = m by omega]
  rw [e]
  generalize (2 : Int) ^ (m - 64) = P at *
  have hv : val h l * (P * 18446744073709551616) = (h * P * 18446744073709551616 + l * P) * 18446744073709551616 := by
    unfold val
    simp only [Int.add_mul]
    have : h * 18446744073709551616 * (P * 18446744073709551616) = h * P * 18446744073709551616 * 18446744073709551616 := by simp only [Int.mul_comm, Int.mul_assoc, Int.mul_left_comm]
    have : l * (P * 18446744073709551616) = l * P * 18446744073709551616 := by simp only [Int.mul_assoc]
    omega
  rw [hv]
  generalize h * P = a
  generalize l * P = b
  constructor
  · rw [wi64]; unfold hi; omega
  · unfold lo; omega
theorem shl_all {h l : Int} {m : Nat} (hm : 128 ≤ m) : 0 = hi (val h l * 2 ^ m) ∧ 0 = lo (val h l * 2 ^ m) := by
  have e : (2 : Int) ^ m = 2 ^ (m - 128) * 340282366920938463463374607431768211456 := by
    rw [show (340282366920938463463374607431768211456 : Int) = 2 ^ 128 by decide, p2add, show (m - 128) + 128 = m by omega]
  rw [e, ← Int.mul_assoc]
  generalize val h l * 2 ^ (m - 128) = b
  constructor
  · unfold hi; omega
  · unfold lo; omega
end Go.Xv
namespace Go.Xv
/-- one bit of a number -/
def dg (z : Int) (i : Nat) : Int := z / 2 ^ i % 2
def ds (z : Int) (n : Nat) : List VV := (List.range n).map fun i => .v (.int .i64 (dg z i))
theorem p2mono {a b : Nat} (h : a ≤ b) : (2 : Int) ^ a ≤ 2 ^ b := by
  rw [show b = a + (b - a) by omega, ← p2add]
  have h1 := p2pos a
  have h2 := p2pos (b - a)
  have : (2 : Int) ^ a * 1 ≤ 2 ^ a * 2 ^ (b - a) := Int.mul_le_mul_of_nonneg_left (by omega) (by omega)
  omega
end Go.Xv
namespace Go.Xv
def sz (a : Int) : Int := if a < 0 then -a else a
end Go.Xv
namespace Go.Xv
theorem bp {α : Type} {c : Bool} {a b x : α} (h : c = true) (h2 : a = x) : (bif c then a else b) = x := by rw [h]; exact h2
theorem bn {α : Type} {c : Bool} {a b x : α} (h : c = false) (h2 : b = x) : (bif c then a else b) = x := by rw [h]; exact h2
theorem dt {p : Prop} [Decidable p] (h : p) : decide p = true := decide_eq_true h
theorem df {p : Prop} [Decidable p] (h : ¬ p) : decide p = false := decide_eq_false h
theorem fdiv_pos (a : Int) {b : Int} (h : 0 ≤ b) : Int.fdiv a b = a / b := Int.fdiv_eq_ediv_of_nonneg a h
theorem some_int {k : IntKind} {a b : Int} (h : a = b) : (some (VV.v (.int k a)) : R) = some (.v (.int k b)) := by rw [h]
theorem some_wd {a b : Int} {z : Int} (h : a = hi z) (k : b = lo z) : (some (VV.v (.agg #[.int .i64 a, .int .u64 b])) : R) = some (wd z) := by rw [h, k]; rfl

theorem f_bare (F : Nat) {a : Int} (h : I64 a) : f_wide_bare F a = some (.v (.int .u64 (if a < 0 then -a else a))) := by
  unfold f_wide_bare
  unfold I64 at h
  by_cases h0 : a < 0
  · refine bp (dt h0) (some_int ?_)
    rw [if_pos h0, wu64, wu64]; omega
  · refine bn (df h0) (some_int ?_)
    rw [if_neg h0, wu64]; omega

theorem f_product (F : Nat) {a b : Int} (ha : U64 a) (hb : U64 b) : f_wide_product F a b = some (wd (a * b)) := by
  unfold f_wide_product
  unfold U64 at ha hb
  have ea : a = a / 4294967296 * 4294967296 + a % 4294967296 := by omega
  have eb : b = b / 4294967296 * 4294967296 + b % 4294967296 := by omega
  have hp : 0 ≤ a / 4294967296 ∧ a / 4294967296 ≤ 4294967295 := by omega
  have hq : 0 ≤ a % 4294967296 ∧ a % 4294967296 ≤ 4294967295 := by omega
  have hr : 0 ≤ b / 4294967296 ∧ b / 4294967296 ≤ 4294967295 := by omega
  have hs : 0 ≤ b % 4294967296 ∧ b % 4294967296 ≤ 4294967295 := by omega
  have hab : a * b = (a / 4294967296) * (b / 4294967296) * 18446744073709551616 + ((a / 4294967296) * (b % 4294967296) + (a % 4294967296) * (b / 4294967296)) * 4294967296 + (a % 4294967296) * (b % 4294967296) := by
    generalize a / 4294967296 = p at *
    generalize a % 4294967296 = q at *
    generalize b / 4294967296 = r at *
    generalize b % 4294967296 = s at *
    subst ea eb
    simp only [Int.add_mul, Int.mul_add]
    have : p * 4294967296 * (r * 4294967296) = p * r * 18446744073709551616 := by
      rw [show (18446744073709551616 : Int) = 4294967296 * 4294967296 by decide]
      simp only [Int.mul_comm, Int.mul_assoc, Int.mul_left_comm]
    have : p * 4294967296 * s = p * s * 4294967296 := by simp only [Int.mul_comm, Int.mul_assoc, Int.mul_left_comm]
    have : q * (r * 4294967296) = q * r * 4294967296 := by simp only [Int.mul_assoc]
    omega
  have bd : ∀ x y : Int, (0 ≤ x ∧ x ≤ 4294967295) → (0 ≤ y ∧ y ≤ 4294967295) → 0 ≤ x * y ∧ x * y ≤ 18446744065119617025 := by
    intro x y hx hy
    have h1 := Int.mul_nonneg hx.1 hy.1
    have h2 : x * y ≤ 4294967295 * 4294967295 := Int.mul_le_mul hx.2 hy.2 hy.1 (by decide)
    exact ⟨h1, by simpa using h2⟩
  have b1 := bd _ _ hp hr
  have b2 := bd _ _ hp hs
  have b3 := bd _ _ hq hr
  have b4 := bd _ _ hq hs
  have m1 : ∀ x, U64 x → andI .u64 x 4294967295 = x % 4294967296 := fun x hx => mask32_u64 hx
  simp only [fdiv_pos _ (show (0 : Int) ≤ 4294967296 by decide)]
  rw [m1 a ha, m1 b hb]
  rw [hab]
  clear hab ea eb
  generalize a / 4294967296 * (b / 4294967296) = pr at *
  generalize a / 4294967296 * (b % 4294967296) = ps at *
  generalize a % 4294967296 * (b / 4294967296) = qr at *
  generalize a % 4294967296 * (b % 4294967296) = qs at *
  rw [wu64_in (x := qs) (by unfold U64; omega), wu64_in (x := ps) (by unfold U64; omega), wu64_in (x := qr) (by unfold U64; omega), wu64_in (x := pr) (by unfold U64; omega)]
  rw [wu64_in (x := ps + qs / 4294967296) (by unfold U64; omega)]
  rw [m1 _ (show U64 (ps + qs / 4294967296) by unfold U64; omega), m1 qs (by unfold U64; omega)]
  rw [wu64_in (x := (ps + qs / 4294967296) % 4294967296 + qr) (by unfold U64; omega)]
  have e : IntKind.wrap .u64 (((ps + qs / 4294967296) % 4294967296 + qr) * 4294967296) = (((ps + qs / 4294967296) % 4294967296 + qr) % 4294967296) * (2 ^ 32 : Nat) := by
    rw [wu64]; omega
  rw [e, or_add_u64 32 (by omega) (by omega) (by omega) (by omega)]
  refine some_wd ?_ ?_
  · simp only [wu64, wi64]; unfold hi; omega
  · unfold lo; omega

theorem f_Add (F : Nat) {a b c d : Int} (hb : U64 b) (hd : U64 d) : f_wide_Add F a b c d = some (wd (val a b + val c d)) := by
  unfold f_wide_Add
  unfold U64 at hb hd
  simp only [wu64, wi64]
  by_cases h : (b + d) % 18446744073709551616 < b
  · refine bp (dt h) (some_wd ?_ ?_)
    · unfold hi val; omega
    · unfold lo val; omega
  · refine bn (df h) (some_wd ?_ ?_)
    · unfold hi val; omega
    · unfold lo val; omega

theorem f_Neg (F : Nat) {a b : Int} (ha : I64 a) (hb : U64 b) : f_wide_Neg F a b = some (wd (-val a b)) := by
  unfold f_wide_Neg
  rw [not_i64 ha, not_u64 hb]
  unfold U64 at hb
  obtain ⟨h1, h2, h3⟩ := k_wide_Add F _ _ _ _ (f_Add F (a := -1 - a) (b := 18446744073709551615 - b) (c := 0) (d := 1) (by unfold U64; omega) (by unfold U64; omega))
  refine bp h1 ?_
  rw [h2, h3]
  refine some_wd (hi_eqv ?_) (lo_eqv ?_)
  all_goals unfold Eqv val; omega

theorem f_Mul (F : Nat) {a b : Int} (ha : I64 a) (hb : I64 b) : f_wide_Mul F a b = some (wd (a * b)) := by
  unfold f_wide_Mul
  obtain ⟨h1, h2⟩ := k_wide_bare F a (f_bare F ha)
  obtain ⟨h3, h4⟩ := k_wide_bare F b (f_bare F hb)
  unfold I64 at ha hb
  refine bp h1 (bp h3 ?_)
  simp only [h2, h4]
  obtain ⟨p1, p2, p3⟩ := k_wide_product F _ _ (f_product F (a := if a < 0 then -a else a) (b := if b < 0 then -b else b) (by unfold U64; split <;> omega) (by unfold U64; split <;> omega))
  refine bp p1 ?_
  simp only [p2, p3]
  have neg : ∀ z : Int, (bif ok_wide_Neg F (hi z) (lo z) then (some (.v (.agg #[.int .i64 (o_wide_Neg_0 F (hi z) (lo z)), .int .u64 (o_wide_Neg_1 F (hi z) (lo z))])) : R) else none) = some (wd (-z)) := by
    intro z
    obtain ⟨n1, n2, n3⟩ := k_wide_Neg F _ _ (f_Neg F (hi_I z) (lo_U z))
    refine bp n1 ?_
    rw [n2, n3, val_hl]
    exact some_wd (hi_eqv (W_eqv z).neg) (lo_eqv (W_eqv z).neg)
  by_cases h0 : a < 0 <;> by_cases k0 : b < 0
  · simp only [h0, k0, decide_true, if_true, BEq.rfl, Bool.not_true, cond_false, Int.neg_mul_neg]; rfl
  · simp only [h0, k0, decide_true, decide_false, if_true, if_false]
    refine bp (by decide) ?_
    rw [neg, Int.neg_mul, Int.neg_neg]
  · simp only [h0, k0, decide_true, decide_false, if_true, if_false]
    refine bp (by decide) ?_
    rw [neg, Int.mul_neg, Int.neg_neg]
  · simp only [h0, k0, decide_false, if_false, BEq.rfl, Bool.not_true, cond_false]; rfl
end Go.Xv
namespace Go.Xv
theorem some_bool {a b : Bool} (h : a = b) : (some (VV.v (.bool a)) : R) = some (.v (.bool b)) := by rw [h]
theorem nn (k : Nat) : (!decide ((k : Int) < 0)) = true := by rw [df (by omega)]; rfl
theorem p2min {m : Nat} (h : m ≤ 64) : min (Int.toNat (m : Int)) 64 = m := by omega

theorem f_Of (F : Nat) {n : Int} (h : I64 n) : f_wide_Of F n = some (wd n) := by
  unfold f_wide_Of
  unfold I64 at h
  refine some_wd ?_ ?_
  · rw [fdiv_pos _ (by decide)]; unfold hi; omega
  · rw [wu64]; rfl
/-- how far a number is shifted to the right at most -/
def cl (n : Int) : Nat := (if 127 < (if 0 > n then 0 else n) then 127 else (if 0 > n then 0 else n)).toNat
theorem f_Right (F : Nat) {a b n : Int} (ha : I64 a) (hb : U64 b) : f_wide_Right F a b n = some (wd (val a b / 2 ^ cl n)) := by
  unfold f_wide_Right cl
  dsimp only
  generalize hv : (if 127 < (if 0 > n then 0 else n) then (127 : Int) else (if 0 > n then 0 else n)) = v
  have hv2 : 0 ≤ v ∧ v ≤ 127 := by
    subst hv
    split <;> split <;> omega
  obtain ⟨m, rfl⟩ := Int.eq_ofNat_of_zero_le hv2.1
  simp only [Int.toNat_natCast]
  by_cases h : 64 ≤ m
  · refine bp (dt (by omega)) ?_
    rw [wi64_in (x := (m : Int) - 64) (by unfold I64; omega), show (m : Int) - 64 = ((m - 64 : Nat) : Int) by omega]
    refine bp (nn _) ?_
    rw [p2min (by omega), fdiv_pos _ (Int.le_of_lt (p2pos _))]
    obtain ⟨h1, h2, h3⟩ := k_wide_Of F _ (f_Of F (div_I64 ha (p2pos (m - 64))))
    refine bp h1 ?_
    rw [h2, h3, ← shr_great hb h]; rfl
  · refine bn (df (by omega)) ?_
    refine bp (nn _) (bp (nn _) ?_)
    rw [wi64_in (x := 64 - (m : Int)) (by unfold I64; omega), show 64 - (m : Int) = ((64 - m : Nat) : Int) by omega]
    refine bp (nn _) ?_
    rw [fdiv_pos _ (Int.le_of_lt (p2pos _)), fdiv_pos _ (Int.le_of_lt (p2pos _)), show min m 64 = m by omega, p2min (by omega), wu64, wu64]
    obtain ⟨h1, h2⟩ := shr_small ha hb (show m < 64 by omega)
    exact some_wd h1 h2

theorem f_Left (F : Nat) {a b n : Int} (hb : U64 b) : f_wide_Left F a b n = some (wd (val a b * 2 ^ n.toNat)) := by
  unfold f_wide_Left
  have hv : (if 0 > n then 0 else n) = ((n.toNat : Nat) : Int) := by split <;> omega
  rw [hv]
  generalize n.toNat = m
  simp only [Int.toNat_natCast]
  by_cases h : 128 ≤ m
  · refine bp (dt (by omega)) ?_
    obtain ⟨h1, h2⟩ := shl_all (h := a) (l := b) h
    exact some_wd h1 h2
  · refine bn (df (by omega)) ?_
    by_cases h : 64 ≤ m
    · refine bp (dt (by omega)) ?_
      rw [wi64_in (x := (m : Int) - 64) (by unfold I64; omega), show (m : Int) - 64 = ((m - 64 : Nat) : Int) by omega]
      refine bp (nn _) ?_
      rw [p2min (by omega), wu64]
      obtain ⟨h1, h2⟩ := shl_great (h := a) (l := b) h
      exact some_wd h1 h2
    · refine bn (df (by omega)) ?_
      refine bp (nn _) ?_
      rw [wi64_in (x := 64 - (m : Int)) (by unfold I64; omega), show 64 - (m : Int) = ((64 - m : Nat) : Int) by omega]
      refine bp (nn _) (bp (nn _) ?_)
      rw [fdiv_pos _ (Int.le_of_lt (p2pos _)), show min m 64 = m by omega, p2min (by omega), wu64, wu64, wu64]
      obtain ⟨h1, h2⟩ := shl_small (h := a) hb (show m < 64 by omega)
      exact some_wd h1 h2

/-- over a power of two, to the nearest one -/
def near (z : Int) (m : Nat) : Int := if m = 0 then z else z / 2 ^ m + z / 2 ^ (m - 1) % 2
theorem cl_pred {n : Int} (h : 0 < n) (h2 : n ≤ 127) : cl (n - 1) = cl n - 1 := by
  unfold cl
  rw [if_neg (show ¬ 0 > n by omega), if_neg (show ¬ 0 > n - 1 by omega), if_neg (by omega), if_neg (by omega)]
  omega
theorem lo_mod2 (z : Int) : lo z % 2 = z % 2 := by unfold lo; omega
theorem f_Near (F : Nat) {a b n : Int} (ha : I64 a) (hb : U64 b) : f_wide_Near F a b n = some (wd (near (val a b) (cl n))) := by
  unfold f_wide_Near
  by_cases h : n ≤ 0
  · rw [if_neg (show ¬ 127 < n by omega)]
    refine bp (dt h) ?_
    have : cl n = 0 := by
      unfold cl
      rw [if_neg]
      · split <;> omega
      · split <;> omega
    rw [this]
    exact some_wd (hi_val ha hb).symm (lo_val hb).symm
  · generalize hv : (if 127 < n then 127 else n) = v
    have hc : cl n = cl v := by
      subst hv
      unfold cl
      by_cases hn : 127 < n
      · rw [if_pos hn, if_neg (show ¬ 0 > n by omega), if_pos hn]; decide
      · rw [if_neg hn]
    have hv1 : 0 < v ∧ v ≤ 127 := by subst hv; split <;> omega
    refine bn (df (by omega)) ?_
    obtain ⟨h1, h2, h3⟩ := k_wide_Right F _ _ _ (f_Right F (n := v) ha hb)
    refine bp h1 ?_
    rw [wi64_in (x := v - 1) (by unfold I64; omega)]
    obtain ⟨g1, g2, g3⟩ := k_wide_Right F _ _ _ (f_Right F (n := v - 1) ha hb)
    refine bp g1 ?_
    rw [h2, h3, g3, mask1_u64 (lo_U _), lo_mod2, cl_pred hv1.1 hv1.2, ← hc]
    have hm : cl n ≠ 0 := by
      rw [hc]
      unfold cl
      rw [if_neg (show ¬ 0 > v by omega), if_neg (by omega)]
      omega
    obtain ⟨k1, k2, k3⟩ := k_wide_Add F _ _ _ _ (f_Add F (a := hi (val a b / 2 ^ cl n)) (c := 0) (d := val a b / 2 ^ (cl n - 1) % 2) (lo_U (val a b / 2 ^ cl n)) (by unfold U64; omega))
    refine bp k1 ?_
    rw [k2, k3, val_hl]
    unfold near
    rw [if_neg hm]
    refine some_wd (hi_eqv ?_) (lo_eqv ?_)
    all_goals exact (W_eqv _).add (show Eqv (val 0 _) _ by unfold val; rw [Int.zero_mul, Int.zero_add]; exact rfl)

theorem f_Sign (F : Nat) {a b : Int} (hb : U64 b) : f_wide_Sign F a b = some (.v (.int .i64 (if val a b < 0 then -1 else if val a b = 0 then 0 else 1))) := by
  unfold f_wide_Sign val
  unfold U64 at hb
  by_cases h : a < 0
  · refine bp (dt h) (some_int ?_)
    rw [if_pos (by omega)]
  · refine bn (df h) ?_
    by_cases h2 : a = 0 ∧ b = 0
    · refine bp (by simp [h2]) (some_int ?_)
      rw [if_neg (by omega), if_pos (by omega)]
    · refine bn (by simp; omega) (some_int ?_)
      rw [if_neg (by omega), if_neg (by omega)]
theorem f_Less (F : Nat) {a b c d : Int} (hb : U64 b) (hd : U64 d) : f_wide_Less F a b c d = some (.v (.bool (decide (val a b < val c d)))) := by
  unfold f_wide_Less val
  unfold U64 at hb hd
  by_cases h : a = c
  · refine bn (by simp [h]) (some_bool ?_)
    rw [decide_eq_decide]; omega
  · refine bp (by simp [h]) (some_bool ?_)
    rw [decide_eq_decide]; omega
end Go.Xv
namespace Go.Xv
theorem wi64_s (i : Nat) (h : i < 1000) : IntKind.wrap .i64 ((i : Int) + 1) = ((i + 1 : Nat) : Int) := by
  rw [wi64_in (by unfold I64; omega)]; push_cast; rfl
end Go.Xv
namespace Go.Xv
theorem a_Add (F : Nat) (x y : Int) : ok_wide_Add F (hi x) (lo x) (hi y) (lo y) = true ∧ o_wide_Add_0 F (hi x) (lo x) (hi y) (lo y) = hi (x + y) ∧ o_wide_Add_1 F (hi x) (lo x) (hi y) (lo y) = lo (x + y) := by
  obtain ⟨h1, h2, h3⟩ := k_wide_Add F _ _ _ _ (f_Add F (a := hi x) (c := hi y) (lo_U x) (lo_U y))
  rw [h2, h3, val_hl, val_hl]
  have e := (W_eqv x).add (W_eqv y)
  exact ⟨h1, hi_eqv e, lo_eqv e⟩
theorem a_Neg (F : Nat) (x : Int) : ok_wide_Neg F (hi x) (lo x) = true ∧ o_wide_Neg_0 F (hi x) (lo x) = hi (-x) ∧ o_wide_Neg_1 F (hi x) (lo x) = lo (-x) := by
  obtain ⟨h1, h2, h3⟩ := k_wide_Neg F _ _ (f_Neg F (hi_I x) (lo_U x))
  rw [h2, h3, val_hl]
  exact ⟨h1, hi_eqv (W_eqv x).neg, lo_eqv (W_eqv x).neg⟩
theorem a_Of (F : Nat) {n : Int} (h : I64 n) : ok_wide_Of F n = true ∧ o_wide_Of_0 F n = hi n ∧ o_wide_Of_1 F n = lo n := k_wide_Of F _ (f_Of F h)
theorem a_Mul (F : Nat) {a b : Int} (ha : I64 a) (hb : I64 b) : ok_wide_Mul F a b = true ∧ o_wide_Mul_0 F a b = hi (a * b) ∧ o_wide_Mul_1 F a b = lo (a * b) := k_wide_Mul F _ _ (f_Mul F ha hb)
theorem a_Near (F : Nat) {x : Int} (n : Int) (h : W128 x) : ok_wide_Near F (hi x) (lo x) n = true ∧ o_wide_Near_0 F (hi x) (lo x) n = hi (near x (cl n)) ∧ o_wide_Near_1 F (hi x) (lo x) n = lo (near x (cl n)) := by
  have := k_wide_Near F _ _ n (f_Near F (n := n) (hi_I x) (lo_U x))
  rw [val_hl, W_in h] at this
  exact this
end Go.Xv
namespace Go.Xv
def clipV (z : Int) : Int := if z < -9223372036854775808 then -9223372036854775808 else if 9223372036854775807 < z then 9223372036854775807 else z
def clipC (z : Int) : Bool := decide (z < -9223372036854775808 ∨ 9223372036854775807 < z)
theorem some_clip {n : Int} {c : Bool} {z : Int} (h : n = clipV z) (k : c = clipC z) : (some (VV.v (.tuple #[.int .i64 n, .bool c])) : R) = some (.v (.tuple #[.int .i64 (clipV z), .bool (clipC z)])) := by rw [h, k]
theorem f_Clip (F : Nat) {a b : Int} (ha : I64 a) (hb : U64 b) : f_wide_Clip F a b = some (.v (.tuple #[.int .i64 (clipV (val a b)), .bool (clipC (val a b))])) := by
  unfold f_wide_Clip
  dsimp only
  obtain ⟨o1, o2, o3⟩ := a_Of F (wi64_I b)
  refine bp o1 ?_
  rw [o2, o3, wi64]
  have hv : ∀ z, z = val a b → True := fun _ _ => trivial
  unfold I64 at ha
  unfold U64 at hb
  by_cases h : -9223372036854775808 ≤ val a b ∧ val a b ≤ 9223372036854775807
  · refine bp ?_ (some_clip ?_ ?_)
    · unfold val at h
      rw [Bool.and_eq_true, beq_iff_eq, beq_iff_eq]
      unfold hi lo; omega
    · unfold clipV
      rw [if_neg (by omega), if_neg (by omega)]
      unfold val at *; omega
    · unfold clipC
      exact (df (by omega)).symm
  · refine bn ?_ ?_
    · unfold val at h
      rw [Bool.and_eq_false_iff, beq_eq_false_iff_ne, beq_eq_false_iff_ne]
      unfold hi lo; omega
    · by_cases h2 : a < 0
      · refine bp (dt h2) (some_clip ?_ ?_)
        · unfold clipV
          rw [if_pos]
          unfold val at *; omega
        · unfold clipC
          refine (dt ?_).symm
          unfold val at *; omega
      · refine bn (df h2) (some_clip ?_ ?_)
        · unfold clipV
          rw [if_neg, if_pos]
          · unfold val at *; omega
          · unfold val at *; omega
        · unfold clipC
          refine (dt ?_).symm
          unfold val at *; omega
theorem a_Clip (F : Nat) {x : Int} (h : W128 x) : ok_wide_Clip F (hi x) (lo x) = true ∧ o_wide_Clip_0 F (hi x) (lo x) = clipV x ∧ o_wide_Clip_1 F (hi x) (lo x) = clipC x := by
  have := k_wide_Clip F _ _ (f_Clip F (hi_I x) (lo_U x))
  rw [val_hl, W_in h] at this
  exact this
end Go.Xv
namespace Go.Xv
theorem val_neg {a b : Int} (hb : U64 b) : (val a b < 0) ↔ a < 0 := by unfold val; unfold U64 at hb; omega
end Go.Xv
namespace Go.Xv
theorem mul_bd {a b : Int} (ha : I64 a) (hb : I64 b) : -85070591730234615865843651857942052864 ≤ a * b ∧ a * b ≤ 85070591730234615865843651857942052864 := by
  unfold I64 at ha hb
  have h : (a * b).natAbs ≤ 9223372036854775808 * 9223372036854775808 := by
    rw [Int.natAbs_mul]
    exact Nat.mul_le_mul (by omega) (by omega)
  omega
theorem mul_W {a b : Int} (ha : I64 a) (hb : I64 b) : W128 (a * b) := by
  have := mul_bd ha hb
  unfold W128; omega
theorem cl32 : cl 32 = 32 := by decide
end Go.Xv
namespace Go.Xv
theorem sq_lt {x y : Int} (hx : 0 ≤ x) (h : x < y) : x * x < y * y := by
  have h1 : x * x ≤ x * y := Int.mul_le_mul_of_nonneg_left (by omega) hx
  have h2 : x * y < y * y := Int.mul_lt_mul_of_pos_right h (by omega)
  omega
theorem sq_le {x y : Int} (hx : 0 ≤ x) (h : x ≤ y) : x * x ≤ y * y := by
  rcases Int.lt_or_eq_of_le h with h | rfl
  · exact Int.le_of_lt (sq_lt hx h)
  · exact Int.le_refl _
/-- a root is one only -/
theorem root_one {z x y : Int} (hx : 0 ≤ x) (hy : 0 ≤ y) (h1 : x * x ≤ z) (h2 : z < (x + 1) * (x + 1)) (h3 : y * y ≤ z) (h4 : z < (y + 1) * (y + 1)) : x = y := by
  rcases Int.lt_trichotomy x y with h | h | h
  · have := sq_le (x := x + 1) (y := y) (by omega) (by omega); omega
  · exact h
  · have := sq_le (x := y + 1) (y := x) (by omega) (by omega); omega
/-- There is a root. -/
theorem root_ex (z : Int) (hz : 0 ≤ z) : ∃ x : Int, 0 ≤ x ∧ x * x ≤ z ∧ z < (x + 1) * (x + 1) := by
  obtain ⟨n, rfl⟩ := Int.eq_ofNat_of_zero_le hz
  induction n with
  | zero => exact ⟨0, by omega, by omega, by omega⟩
  | succ n ih =>
    obtain ⟨x, h1, h2, h3⟩ := ih (by omega)
    by_cases h : (x + 1) * (x + 1) ≤ ((n + 1 : Nat) : Int)
    · refine ⟨x + 1, by omega, h, ?_⟩
      have := sq_lt (x := x + 1) (y := x + 1 + 1) (by omega) (by omega)
      push_cast
      omega
    · refine ⟨x, h1, ?_, by omega⟩
      push_cast
      omega
noncomputable def rt (z : Int) : Int := if h : 0 ≤ z then Classical.choose (root_ex z h) else 0
theorem rt_spec {z : Int} (h : 0 ≤ z) : 0 ≤ rt z ∧ rt z * rt z ≤ z ∧ z < (rt z + 1) * (rt z + 1) := by
  unfold rt
  rw [dif_pos h]
  exact Classical.choose_spec (root_ex z h)
theorem rt_eq {z x : Int} (hx : 0 ≤ x) (h1 : x * x ≤ z) (h2 : z < (x + 1) * (x + 1)) : rt z = x := by
  have h0 : 0 ≤ x * x := Int.mul_nonneg hx hx
  obtain ⟨h3, h4, h5⟩ := rt_spec (z := z) (by omega)
  exact root_one h3 hx h4 h5 h1 h2
/-- a number is not beyond the root just if its square is not above -/
theorem rt_le {z y : Int} (hz : 0 ≤ z) (hy : 0 ≤ y) : y ≤ rt z ↔ y * y ≤ z := by
  obtain ⟨h3, h4, h5⟩ := rt_spec hz
  constructor
  · intro h
    have := sq_le hy h
    omega
  · intro h
    rcases Int.lt_or_le (rt z) y with hlt | hle
    · have := sq_le (x := rt z + 1) (y := y) (by omega) (by omega); omega
    · exact hle
/-- the root's upper bits -/
theorem top_step {r P : Int} (hr : 0 ≤ r) (hP : 0 < P) : (r / (2 * P) * (2 * P) + P ≤ r → r / P * P = r / (2 * P) * (2 * P) + P) ∧ (¬ r / (2 * P) * (2 * P) + P ≤ r → r / P * P = r / (2 * P) * (2 * P)) := by
  have e : r / (2 * P) = r / P / 2 := by rw [Int.mul_comm, Int.ediv_ediv_of_nonneg (by omega)]
  have hd := Int.mul_ediv_add_emod r P
  have h2 := Int.emod_nonneg r (show P ≠ 0 by omega)
  have h3 := Int.emod_lt_of_pos r hP
  rw [e]
  generalize r / P = q at *
  have hq : 0 ≤ q ∨ q < 0 := by omega
  have e1 : q / 2 * (2 * P) = 2 * (q / 2) * P := by simp only [Int.mul_comm, Int.mul_left_comm]
  rw [e1]
  rcases (show q = 2 * (q / 2) ∨ q = 2 * (q / 2) + 1 by omega) with h | h
  · rw [← h]
    constructor
    · intro hx
      rw [Int.mul_comm q P] at hx; omega
    · intro _; rfl
  · have e2 : q * P = 2 * (q / 2) * P + P := by
      have : q * P = (2 * (q / 2) + 1) * P := by rw [← h]
      rw [this, Int.add_mul, Int.one_mul]
    rw [← e2]
    constructor
    · intro _; rfl
    · intro hx
      rw [Int.mul_comm q P] at hx; omega
end Go.Xv
namespace Go.Xv
theorem f_Square (F : Nat) {n : Int} (hn : U64 n) : f_root_Square F n = some (wd (n * n)) := by
  unfold f_root_Square
  dsimp only
  unfold U64 at hn
  rw [fdiv_pos _ (by decide), mask32_u64 hn]
  have en : n = n / 4294967296 * 4294967296 + n % 4294967296 := by omega
  have hp : 0 ≤ n / 4294967296 ∧ n / 4294967296 ≤ 4294967295 := by omega
  have hq : 0 ≤ n % 4294967296 ∧ n % 4294967296 ≤ 4294967295 := by omega
  have bd : ∀ x y : Int, (0 ≤ x ∧ x ≤ 4294967295) → (0 ≤ y ∧ y ≤ 4294967295) → 0 ≤ x * y ∧ x * y ≤ 18446744065119617025 := by
    intro x y hx hy
    have h1 := Int.mul_nonneg hx.1 hy.1
    have h2 : x * y ≤ 4294967295 * 4294967295 := Int.mul_le_mul hx.2 hy.2 hy.1 (by decide)
    exact ⟨h1, by simpa using h2⟩
  have b1 := bd _ _ hp hp
  have b2 := bd _ _ hq hq
  have b3 := bd _ _ hp hq
  have hnn : n * n = (n / 4294967296) * (n / 4294967296) * 18446744073709551616 + (n / 4294967296) * (n % 4294967296) * 8589934592 + (n % 4294967296) * (n % 4294967296) := by
    generalize n / 4294967296 = p at *
    generalize n % 4294967296 = q at *
    subst en
    simp only [Int.add_mul, Int.mul_add]
    have : p * 4294967296 * (p * 4294967296) = p * p * 18446744073709551616 := by
      rw [show (18446744073709551616 : Int) = 4294967296 * 4294967296 by decide]
      simp only [Int.mul_comm, Int.mul_assoc, Int.mul_left_comm]
    have : p * 4294967296 * q = p * q * 4294967296 := by simp only [Int.mul_comm, Int.mul_assoc, Int.mul_left_comm]
    have : q * (p * 4294967296) = p * q * 4294967296 := by simp only [Int.mul_comm, Int.mul_assoc, Int.mul_left_comm]
    omega
  rw [hnn]
  generalize n / 4294967296 * (n / 4294967296) = pp at *
  generalize n / 4294967296 * (n % 4294967296) = pq at *
  generalize n % 4294967296 * (n % 4294967296) = qq at *
  rw [wu64_in (x := pp) (by unfold U64; omega), wu64_in (x := qq) (by unfold U64; omega), wu64_in (x := pq) (by unfold U64; omega)]
  obtain ⟨l1, l2, l3⟩ := k_wide_Left F _ _ 33 (f_Left F (a := 0) (b := pq) (n := 33) (by unfold U64; omega))
  rw [show ((33 : Int).toNat) = 33 from rfl, show (2 : Int) ^ 33 = 8589934592 by decide] at l2 l3
  refine bp l1 ?_
  rw [l2, l3]
  obtain ⟨s1, s2, s3⟩ := k_wide_Add F _ _ _ _ (f_Add F (a := IntKind.wrap .i64 pp) (b := qq) (c := hi (val 0 pq * 8589934592)) (by unfold U64; omega) (lo_U (val 0 pq * 8589934592)))
  refine bp s1 ?_
  rw [s2, s3]
  have e : Eqv (val (IntKind.wrap .i64 pp) qq + val (hi (val 0 pq * 8589934592)) (lo (val 0 pq * 8589934592))) (pp * 18446744073709551616 + pq * 8589934592 + qq) := by
    rw [val_hl]
    refine ((Eqv.rfl (x := val (IntKind.wrap .i64 pp) qq)).add (W_eqv _)).trans ?_
    rw [wi64]
    unfold Eqv val; omega
  exact some_wd (hi_eqv e) (lo_eqv e)
theorem a_Square (F : Nat) {n : Int} (hn : U64 n) : ok_root_Square F n = true ∧ o_root_Square_0 F n = hi (n * n) ∧ o_root_Square_1 F n = lo (n * n) := k_root_Square F _ (f_Square F hn)
theorem rt_bd {z : Int} (h : 0 ≤ z) (h2 : z < 170141183460469231731687303715884105728) : 0 ≤ rt z ∧ rt z ≤ 13043817825332782212 := by
  obtain ⟨h3, h4, h5⟩ := rt_spec h
  refine ⟨h3, ?_⟩
  rcases Int.lt_or_le 13043817825332782212 (rt z) with hlt | hle
  · have := sq_le (x := 13043817825332782213) (y := rt z) (by omega) (by omega)
    have e : (13043817825332782213 : Int) * 13043817825332782213 = 170141183460469231748655437451289177369 := by decide
    omega
  · exact hle
theorem sq_bd {y : Int} (h : 0 ≤ y) (h2 : y < 18446744073709551616) : 0 ≤ y * y ∧ y * y < 340282366920938463463374607431768211456 := by
  have h1 := Int.mul_nonneg h h
  have := sq_le h (show y ≤ 18446744073709551615 by omega)
  have e : (18446744073709551615 : Int) * 18446744073709551615 = 340282366920938463426481119284349108225 := by decide
  omega
theorem lp_rootWide_0 (F : Nat) (ex) {a b : Int} (ha : I64 a) (hb : U64 b) (hz : 0 ≤ val a b) (x0 x1 x2 : Int) (x3 : Bool) : ∀ (k n i : Nat) (x4 x5 : Int), i + k = 64 → k < n → x4 = rt (val a b) / 2 ^ k * 2 ^ k → x5 = i →
    L_root_Wide_0 F ex n x0 x1 x2 x3 x4 x5 a b = ex x0 x1 x2 x3 (rt (val a b)) 64 a b
  | _, 0, _, _, _, _, h, _, _ => absurd h (by omega)
  | 0, n + 1, i, _, _, h, _, rfl, rfl => by
    obtain rfl : i = 64 := by omega
    rw [L_root_Wide_0]
    unfold B_root_Wide_0
    refine bn (df (by omega)) ?_
    rw [Int.pow_zero, Int.ediv_one, Int.mul_one]; rfl
  | k + 1, n + 1, i, _, _, h, hn, rfl, rfl => by
    have hW := val_W ha hb
    unfold W128 at hW
    obtain ⟨r1, r2⟩ := rt_bd hz hW.2
    have ih := lp_rootWide_0 F ex ha hb hz x0 x1 x2 x3 k n (i + 1)
    rw [L_root_Wide_0]
    unfold B_root_Wide_0
    dsimp only
    have hi63 : IntKind.wrap .i64 (63 - (i : Int)) = ((k : Nat) : Int) := by rw [wi64_in (by unfold I64; omega)]; omega
    have hP := p2pos k
    have hPb : (2 : Int) ^ k ≤ 9223372036854775808 := by
      have := p2mono (a := k) (b := 63) (by omega)
      simpa using this
    rw [hi63, p2min (by omega), Int.one_mul, wu64_in (x := 2 ^ k) (by unfold U64; omega)]
    obtain ⟨t1, t2⟩ := top_step (r := rt (val a b)) (P := 2 ^ k) r1 hP
    rw [show (2 : Int) * 2 ^ k = 2 ^ (k + 1) by rw [Int.pow_succ, Int.mul_comm]] at t1 t2
    have hq := Int.ediv_nonneg r1 (Int.le_of_lt (p2pos (k + 1)))
    have hqr : rt (val a b) / 2 ^ (k + 1) * 2 ^ (k + 1) ≤ rt (val a b) := Int.ediv_mul_le _ (by have := p2pos (k + 1); omega)
    have hq0 := Int.mul_nonneg hq (Int.le_of_lt (p2pos (k + 1)))
    have eor : orI .u64 (rt (val a b) / 2 ^ (k + 1) * 2 ^ (k + 1)) (2 ^ k) = rt (val a b) / 2 ^ (k + 1) * 2 ^ (k + 1) + 2 ^ k := by
      have h1 := or_add_u64 (k + 1) (a := rt (val a b) / 2 ^ (k + 1)) (b := 2 ^ k) hq (by omega)
      rw [p2cast (k + 1)] at h1
      refine h1 ?_ ?_
      · rw [Int.pow_succ]; omega
      · by_cases hk : k = 63
        · subst hk
          have : rt (val a b) / 2 ^ (63 + 1) = 0 := Int.ediv_eq_zero_of_lt r1 (by rw [show (2 : Int) ^ (63 + 1) = 18446744073709551616 by decide]; omega)
          rw [this]
          decide
        · have := p2mono (a := k) (b := 62) (by omega)
          rw [show (2 : Int) ^ 62 = 4611686018427387904 by decide] at this
          omega
    rw [eor]
    have hyU : U64 (rt (val a b) / 2 ^ (k + 1) * 2 ^ (k + 1) + 2 ^ k) := by
      have hw := orI .u64 (rt (val a b) / 2 ^ (k + 1) * 2 ^ (k + 1)) (2 ^ k)
      rw [← eor, or_u64_bv]
      exact wu64_U _
    generalize hx : rt (val a b) / 2 ^ (k + 1) * 2 ^ (k + 1) = x at *
    obtain ⟨s1, s2, s3⟩ := a_Square F hyU
    have hle := rt_le (z := val a b) (y := x + 2 ^ k) hz (by omega)
    unfold U64 at hyU
    obtain ⟨b1, b2⟩ := sq_bd hyU.1 hyU.2
    have w5 : IntKind.wrap .i64 ((i : Int) + 1) = ((i + 1 : Nat) : Int) := wi64_s i (by omega)
    refine bp (dt (by omega)) (bp (nn k) (bp s1 ?_))
    rw [s2, s3]
    generalize hs : (x + 2 ^ k) * (x + 2 ^ k) = s at *
    by_cases hhi : hi s ≥ 0
    · have hs127 : s < 170141183460469231731687303715884105728 := by unfold hi at hhi; omega
      obtain ⟨l1, l2⟩ := k_wide_Less F _ _ _ _ (f_Less F (a := a) (c := hi s) hb (lo_U s))
      rw [val_hl, W_in (by unfold W128; omega)] at l2
      refine bp (dt hhi) (bp l1 ?_)
      rw [l2]
      by_cases hc : val a b < s
      · refine bn (by rw [dt hc]; rfl) ?_
        exact ih _ _ (by omega) (by omega) (t2 (fun h => by have := hle.1 h; omega)).symm w5
      · refine bp (by rw [df hc]; rfl) ?_
        exact ih _ _ (by omega) (by omega) (t1 (hle.2 (by omega))).symm w5
    · have hs127 : 170141183460469231731687303715884105728 ≤ s := by unfold hi at hhi; omega
      refine bn (df hhi) ?_
      exact ih _ _ (by omega) (by omega) (t2 (fun h => by have := hle.1 h; omega)).symm w5
/-- what the root of a wide number answers -/
noncomputable def rootR (z : Int) : Value := if z < 0 then .tuple #[.int .u64 0, .bool false] else .tuple #[.int .u64 (rt z), .bool true]
theorem f_rootWide (F : Nat) (hF : 200 ≤ F) {a b : Int} (ha : I64 a) (hb : U64 b) : f_root_Wide F a b = some (.v (rootR (val a b))) := by
  unfold f_root_Wide rootR
  have hn := val_neg (a := a) hb
  by_cases h : a < 0
  · refine bp (dt h) ?_
    rw [if_pos (hn.2 h)]
  · have hz : 0 ≤ val a b := by
      rcases Int.lt_or_le (val a b) 0 with h2 | h2
      · exact absurd (hn.1 h2) h
      · exact h2
    refine bn (df h) ?_
    rw [if_neg (by omega)]
    have hW := val_W ha hb
    unfold W128 at hW
    obtain ⟨r1, r2⟩ := rt_bd hz hW.2
    rw [lp_rootWide_0 F _ ha hb hz a b 0 false 64 F 0 0 0 (by omega) (by omega) ?_ rfl]
    rw [Int.ediv_eq_zero_of_lt r1 (by rw [show (2 : Int) ^ 64 = 18446744073709551616 by decide]; omega)]; simp
end Go.Xv
namespace Go.Xv
theorem f_vec_eachv1' (F : Nat) (hF : 200 ≤ F) {a0 a1 a2 a3 a4 a5 : Int} {v0 v1 v2 : Int} {c0 c1 c2 : Bool} (h0 : ok_vec_Cross_1 F 0 a0 a1 a2 a3 a4 a5 = true ∧ o_vec_Cross_1_0 F 0 a0 a1 a2 a3 a4 a5 = v0 ∧ o_vec_Cross_1_1 F 0 a0 a1 a2 a3 a4 a5 = c0) (h1 : ok_vec_Cross_1 F 1 a0 a1 a2 a3 a4 a5 = true ∧ o_vec_Cross_1_0 F 1 a0 a1 a2 a3 a4 a5 = v1 ∧ o_vec_Cross_1_1 F 1 a0 a1 a2 a3 a4 a5 = c1) (h2 : ok_vec_Cross_1 F 2 a0 a1 a2 a3 a4 a5 = true ∧ o_vec_Cross_1_0 F 2 a0 a1 a2 a3 a4 a5 = v2 ∧ o_vec_Cross_1_1 F 2 a0 a1 a2 a3 a4 a5 = c2) :
    f_vec_eachv1 F a0 a1 a2 a3 a4 a5 = some (.v (.tuple #[.agg #[.int .i64 v0, .int .i64 v1, .int .i64 v2], .bool (c0 || c1 || c2)])) := by
  obtain ⟨a1, a2, a3⟩ := h0
  obtain ⟨b1, b2, b3⟩ := h1
  obtain ⟨d1, d2, d3⟩ := h2
  obtain ⟨G, hG⟩ : ∃ G, F = G + 4 := ⟨F - 4, by omega⟩
  have w1 : IntKind.wrap .i64 (0 + 1) = 1 := by decide
  have w2 : IntKind.wrap .i64 (1 + 1) = 2 := by decide
  have w3 : IntKind.wrap .i64 (2 + 1) = 3 := by decide
  unfold f_vec_eachv1
  rw [show L_vec_eachv1_0 F _ F = L_vec_eachv1_0 F _ (G + 4) from congrArg (L_vec_eachv1_0 F _) hG, L_vec_eachv1_0]
  unfold B_vec_eachv1_0
  refine bp rfl (bp a1 (bn rfl (bp rfl (bp rfl ?_))))
  rw [a2, a3, w1, L_vec_eachv1_0]
  unfold B_vec_eachv1_0
  refine bp rfl (bp b1 ?_)
  rw [b2, b3, w2]
  cases c0
  · refine bn rfl (bp rfl (bp rfl ?_))
    rw [L_vec_eachv1_0]
    unfold B_vec_eachv1_0
    refine bp rfl (bp d1 ?_)
    rw [d2, d3, w3]
    cases c1
    · refine bn rfl (bp rfl (bp rfl ?_))
      rw [L_vec_eachv1_0]
      unfold B_vec_eachv1_0
      exact bn rfl (bp rfl rfl)
    · refine bp rfl (bp rfl (bp rfl ?_))
      rw [L_vec_eachv1_0]
      unfold B_vec_eachv1_0
      exact bn rfl (bp rfl rfl)
  · refine bp rfl (bp rfl (bp rfl ?_))
    rw [L_vec_eachv1_0]
    unfold B_vec_eachv1_0
    refine bp rfl (bp d1 ?_)
    rw [d2, w3]
    refine bp rfl (bp rfl (bp rfl ?_))
    rw [L_vec_eachv1_0]
    unfold B_vec_eachv1_0
    exact bn rfl (bp rfl (by rw [Bool.true_or, Bool.true_or]; rfl))
end Go.Xv
namespace Go.Xv
def pr (a b : Int) : Int := a * b / 4294967296 + a * b / 2147483648 % 2
theorem pr_near (a b : Int) : near (a * b) 32 = pr a b := by
  unfold near pr
  rw [if_neg (by decide), show (2 : Int) ^ 32 = 4294967296 by decide, show (2 : Int) ^ (32 - 1) = 2147483648 by decide]
theorem pr_comm (a b : Int) : pr a b = pr b a := by unfold pr; rw [Int.mul_comm]
theorem pr_bd {a b : Int} (ha : I64 a) (hb : I64 b) : -19807040628566084398385987585 ≤ pr a b ∧ pr a b ≤ 19807040628566084398385987585 := by
  have := mul_bd ha hb
  unfold pr; omega
theorem a_product (F : Nat) {a b : Int} (ha : I64 a) (hb : I64 b) : ok_vec_product F a b = true ∧ o_vec_product_0 F a b = hi (pr a b) ∧ o_vec_product_1 F a b = lo (pr a b) := by
  refine k_vec_product F _ _ ?_
  unfold f_vec_product
  obtain ⟨h1, h2, h3⟩ := a_Mul F ha hb
  obtain ⟨n1, n2, n3⟩ := a_Near F 32 (mul_W ha hb)
  rw [cl32, pr_near] at n2 n3
  refine bp h1 ?_
  rw [h2, h3]
  refine bp n1 ?_
  rw [n2, n3]
theorem a_vclip (F : Nat) {z : Int} (h : W128 z) : ok_vec_clip F (hi z) (lo z) = true ∧ o_vec_clip_0 F (hi z) (lo z) = clipV z ∧ o_vec_clip_1 F (hi z) (lo z) = clipC z := by
  refine k_vec_clip F _ _ ?_
  unfold f_vec_clip
  obtain ⟨h1, h2, h3⟩ := a_Clip F h
  refine bp h1 ?_
  rw [h2, h3]
def dotZ (a0 a1 a2 a3 a4 a5 : Int) : Int := pr a0 a3 + pr a1 a4 + pr a2 a5
theorem dot_W {a0 a1 a2 a3 a4 a5 : Int} (h0 : I64 a0) (h1 : I64 a1) (h2 : I64 a2) (h3 : I64 a3) (h4 : I64 a4) (h5 : I64 a5) : W128 (dotZ a0 a1 a2 a3 a4 a5) := by
  have := pr_bd h0 h3
  have := pr_bd h1 h4
  have := pr_bd h2 h5
  unfold dotZ W128; omega
theorem f_Dot (F : Nat) (hF : 200 ≤ F) {a0 a1 a2 a3 a4 a5 : Int} (h0 : I64 a0) (h1 : I64 a1) (h2 : I64 a2) (h3 : I64 a3) (h4 : I64 a4) (h5 : I64 a5) : f_vec_Dot F a0 a1 a2 a3 a4 a5 = some (.v (.tuple #[.int .i64 (clipV (dotZ a0 a1 a2 a3 a4 a5)), .bool (clipC (dotZ a0 a1 a2 a3 a4 a5))])) := by
  obtain ⟨p1, p2, p3⟩ := a_product F h0 h3
  obtain ⟨q1, q2, q3⟩ := a_product F h1 h4
  obtain ⟨r1, r2, r3⟩ := a_product F h2 h5
  obtain ⟨s1, s2, s3⟩ := a_Add F 0 (pr a0 a3)
  obtain ⟨t1, t2, t3⟩ := a_Add F (pr a0 a3) (pr a1 a4)
  obtain ⟨u1, u2, u3⟩ := a_Add F (pr a0 a3 + pr a1 a4) (pr a2 a5)
  obtain ⟨c1, c2, c3⟩ := a_vclip F (dot_W h0 h1 h2 h3 h4 h5)
  rw [Int.zero_add] at s2 s3
  obtain ⟨G, hG⟩ : ∃ G, F = G + 4 := ⟨F - 4, by omega⟩
  have w1 : IntKind.wrap .i64 (0 + 1) = 1 := by decide
  have w2 : IntKind.wrap .i64 (1 + 1) = 2 := by decide
  have w3 : IntKind.wrap .i64 (2 + 1) = 3 := by decide
  unfold f_vec_Dot
  rw [show L_vec_Dot_0 F _ F = L_vec_Dot_0 F _ (G + 4) from congrArg (L_vec_Dot_0 F _) hG, L_vec_Dot_0]
  unfold B_vec_Dot_0
  refine bp rfl (bp rfl (bp rfl (bp rfl (bp rfl (bp p1 ?_)))))
  have e0 : (iv [.v (.int .i64 a0), .v (.int .i64 a1), .v (.int .i64 a2)][0 + Int.toNat 0 * 1]?) = a0 := rfl
  have e3 : (iv [.v (.int .i64 a3), .v (.int .i64 a4), .v (.int .i64 a5)][0 + Int.toNat 0 * 1]?) = a3 := rfl
  rw [e0, e3, p2, p3]
  have s1' : ok_wide_Add F 0 0 (hi (pr a0 a3)) (lo (pr a0 a3)) = true := s1
  have s2' : o_wide_Add_0 F 0 0 (hi (pr a0 a3)) (lo (pr a0 a3)) = hi (pr a0 a3) := s2
  have s3' : o_wide_Add_1 F 0 0 (hi (pr a0 a3)) (lo (pr a0 a3)) = lo (pr a0 a3) := s3
  refine bp s1' ?_
  rw [s2', s3', w1, L_vec_Dot_0]
  unfold B_vec_Dot_0
  refine bp rfl (bp rfl (bp rfl (bp rfl (bp rfl (bp q1 ?_)))))
  have e1 : (iv [.v (.int .i64 a0), .v (.int .i64 a1), .v (.int .i64 a2)][0 + Int.toNat 1 * 1]?) = a1 := rfl
  have e4 : (iv [.v (.int .i64 a3), .v (.int .i64 a4), .v (.int .i64 a5)][0 + Int.toNat 1 * 1]?) = a4 := rfl
  rw [e1, e4, q2, q3]
  refine bp t1 ?_
  rw [t2, t3, w2, L_vec_Dot_0]
  unfold B_vec_Dot_0
  refine bp rfl (bp rfl (bp rfl (bp rfl (bp rfl (bp r1 ?_)))))
  have e2 : (iv [.v (.int .i64 a0), .v (.int .i64 a1), .v (.int .i64 a2)][0 + Int.toNat 2 * 1]?) = a2 := rfl
  have e5 : (iv [.v (.int .i64 a3), .v (.int .i64 a4), .v (.int .i64 a5)][0 + Int.toNat 2 * 1]?) = a5 := rfl
  rw [e2, e5, r2, r3]
  refine bp u1 ?_
  rw [u2, u3, w3, L_vec_Dot_0]
  unfold B_vec_Dot_0
  refine bn rfl ?_
  have e : pr a0 a3 + pr a1 a4 + pr a2 a5 = dotZ a0 a1 a2 a3 a4 a5 := rfl
  rw [e]
  refine bp c1 ?_
  rw [c2, c3]
theorem a_Dot (F : Nat) (hF : 200 ≤ F) {a0 a1 a2 a3 a4 a5 : Int} (h0 : I64 a0) (h1 : I64 a1) (h2 : I64 a2) (h3 : I64 a3) (h4 : I64 a4) (h5 : I64 a5) : ok_vec_Dot F a0 a1 a2 a3 a4 a5 = true ∧ o_vec_Dot_0 F a0 a1 a2 a3 a4 a5 = clipV (dotZ a0 a1 a2 a3 a4 a5) ∧ o_vec_Dot_1 F a0 a1 a2 a3 a4 a5 = clipC (dotZ a0 a1 a2 a3 a4 a5) := k_vec_Dot F _ _ _ _ _ _ (f_Dot F hF h0 h1 h2 h3 h4 h5)
def arZ (a b c d : Int) : Int := pr a b - pr c d
theorem ar_W {a b c d : Int} (h0 : I64 a) (h1 : I64 b) (h2 : I64 c) (h3 : I64 d) : W128 (arZ a b c d) := by
  have := pr_bd h0 h1
  have := pr_bd h2 h3
  unfold arZ W128; omega
theorem a_Cross_0 (F : Nat) {a0 a1 a2 a3 a4 a5 : Int} (h0 : I64 a0) (h1 : I64 a1) (h2 : I64 a2) (h3 : I64 a3) (h4 : I64 a4) (h5 : I64 a5) : ok_vec_Cross_1 F 0 a0 a1 a2 a3 a4 a5 = true ∧ o_vec_Cross_1_0 F 0 a0 a1 a2 a3 a4 a5 = clipV (arZ a1 a5 a2 a4) ∧ o_vec_Cross_1_1 F 0 a0 a1 a2 a3 a4 a5 = clipC (arZ a1 a5 a2 a4) := by
  refine k_vec_Cross_1 F _ _ _ _ _ _ _ ?_
  unfold f_vec_Cross_1
  obtain ⟨p1, p2, p3⟩ := a_product F h1 h5
  obtain ⟨q1, q2, q3⟩ := a_product F h2 h4
  obtain ⟨n1, n2, n3⟩ := a_Neg F (pr a2 a4)
  obtain ⟨s1, s2, s3⟩ := a_Add F (pr a1 a5) (-pr a2 a4)
  obtain ⟨c1, c2, c3⟩ := a_vclip F (ar_W h1 h5 h2 h4)
  unfold arZ at c1 c2 c3 ⊢
  rw [Int.sub_eq_add_neg] at c1 c2 c3 ⊢
  have w1 : Int.tmod (IntKind.wrap .i64 (0 + 1)) 3 = 1 := by decide
  have w2 : Int.tmod (IntKind.wrap .i64 (0 + 2)) 3 = 2 := by decide
  rw [w1, w2]
  refine bp rfl (bp rfl (bp rfl (bp rfl (bp p1 (bp rfl (bp rfl (bp rfl (bp rfl (bp q1 ?_)))))))))
  have e1 : (iv [.v (.int .i64 a0), .v (.int .i64 a1), .v (.int .i64 a2)][0 + Int.toNat 1 * 1]?) = a1 := rfl
  have e2 : (iv [.v (.int .i64 a0), .v (.int .i64 a1), .v (.int .i64 a2)][0 + Int.toNat 2 * 1]?) = a2 := rfl
  have e3 : (iv [.v (.int .i64 a3), .v (.int .i64 a4), .v (.int .i64 a5)][0 + Int.toNat 1 * 1]?) = a4 := rfl
  have e4 : (iv [.v (.int .i64 a3), .v (.int .i64 a4), .v (.int .i64 a5)][0 + Int.toNat 2 * 1]?) = a5 := rfl
  rw [e1, e2, e3, e4, p2, p3, q2, q3]
  refine bp n1 ?_
  rw [n2, n3]
  refine bp s1 ?_
  rw [s2, s3]
  refine bp c1 ?_
  rw [c2, c3]
theorem a_Cross_1 (F : Nat) {a0 a1 a2 a3 a4 a5 : Int} (h0 : I64 a0) (h1 : I64 a1) (h2 : I64 a2) (h3 : I64 a3) (h4 : I64 a4) (h5 : I64 a5) : ok_vec_Cross_1 F 1 a0 a1 a2 a3 a4 a5 = true ∧ o_vec_Cross_1_0 F 1 a0 a1 a2 a3 a4 a5 = clipV (arZ a2 a3 a0 a5) ∧ o_vec_Cross_1_1 F 1 a0 a1 a2 a3 a4 a5 = clipC (arZ a2 a3 a0 a5) := by
  refine k_vec_Cross_1 F _ _ _ _ _ _ _ ?_
  unfold f_vec_Cross_1
  obtain ⟨p1, p2, p3⟩ := a_product F h2 h3
  obtain ⟨q1, q2, q3⟩ := a_product F h0 h5
  obtain ⟨n1, n2, n3⟩ := a_Neg F (pr a0 a5)
  obtain ⟨s1, s2, s3⟩ := a_Add F (pr a2 a3) (-pr a0 a5)
  obtain ⟨c1, c2, c3⟩ := a_vclip F (ar_W h2 h3 h0 h5)
  unfold arZ at c1 c2 c3 ⊢
  rw [Int.sub_eq_add_neg] at c1 c2 c3 ⊢
  have w1 : Int.tmod (IntKind.wrap .i64 (1 + 1)) 3 = 2 := by decide
  have w2 : Int.tmod (IntKind.wrap .i64 (1 + 2)) 3 = 0 := by decide
  rw [w1, w2]
  refine bp rfl (bp rfl (bp rfl (bp rfl (bp p1 (bp rfl (bp rfl (bp rfl (bp rfl (bp q1 ?_)))))))))
  have e1 : (iv [.v (.int .i64 a0), .v (.int .i64 a1), .v (.int .i64 a2)][0 + Int.toNat 2 * 1]?) = a2 := rfl
  have e2 : (iv [.v (.int .i64 a0), .v (.int .i64 a1), .v (.int .i64 a2)][0 + Int.toNat 0 * 1]?) = a0 := rfl
  have e3 : (iv [.v (.int .i64 a3), .v (.int .i64 a4), .v (.int .i64 a5)][0 + Int.toNat 2 * 1]?) = a5 := rfl
  have e4 : (iv [.v (.int .i64 a3), .v (.int .i64 a4), .v (.int .i64 a5)][0 + Int.toNat 0 * 1]?) = a3 := rfl
  rw [e1, e2, e3, e4, p2, p3, q2, q3]
  refine bp n1 ?_
  rw [n2, n3]
  refine bp s1 ?_
  rw [s2, s3]
  refine bp c1 ?_
  rw [c2, c3]
theorem a_Cross_2 (F : Nat) {a0 a1 a2 a3 a4 a5 : Int} (h0 : I64 a0) (h1 : I64 a1) (h2 : I64 a2) (h3 : I64 a3) (h4 : I64 a4) (h5 : I64 a5) : ok_vec_Cross_1 F 2 a0 a1 a2 a3 a4 a5 = true ∧ o_vec_Cross_1_0 F 2 a0 a1 a2 a3 a4 a5 = clipV (arZ a0 a4 a1 a3) ∧ o_vec_Cross_1_1 F 2 a0 a1 a2 a3 a4 a5 = clipC (arZ a0 a4 a1 a3) := by
  refine k_vec_Cross_1 F _ _ _ _ _ _ _ ?_
  unfold f_vec_Cross_1
  obtain ⟨p1, p2, p3⟩ := a_product F h0 h4
  obtain ⟨q1, q2, q3⟩ := a_product F h1 h3
  obtain ⟨n1, n2, n3⟩ := a_Neg F (pr a1 a3)
  obtain ⟨s1, s2, s3⟩ := a_Add F (pr a0 a4) (-pr a1 a3)
  obtain ⟨c1, c2, c3⟩ := a_vclip F (ar_W h0 h4 h1 h3)
  unfold arZ at c1 c2 c3 ⊢
  rw [Int.sub_eq_add_neg] at c1 c2 c3 ⊢
  have w1 : Int.tmod (IntKind.wrap .i64 (2 + 1)) 3 = 0 := by decide
  have w2 : Int.tmod (IntKind.wrap .i64 (2 + 2)) 3 = 1 := by decide
  rw [w1, w2]
  refine bp rfl (bp rfl (bp rfl (bp rfl (bp p1 (bp rfl (bp rfl (bp rfl (bp rfl (bp q1 ?_)))))))))
  have e1 : (iv [.v (.int .i64 a0), .v (.int .i64 a1), .v (.int .i64 a2)][0 + Int.toNat 0 * 1]?) = a0 := rfl
  have e2 : (iv [.v (.int .i64 a0), .v (.int .i64 a1), .v (.int .i64 a2)][0 + Int.toNat 1 * 1]?) = a1 := rfl
  have e3 : (iv [.v (.int .i64 a3), .v (.int .i64 a4), .v (.int .i64 a5)][0 + Int.toNat 0 * 1]?) = a3 := rfl
  have e4 : (iv [.v (.int .i64 a3), .v (.int .i64 a4), .v (.int .i64 a5)][0 + Int.toNat 1 * 1]?) = a4 := rfl
  rw [e1, e2, e3, e4, p2, p3, q2, q3]
  refine bp n1 ?_
  rw [n2, n3]
  refine bp s1 ?_
  rw [s2, s3]
  refine bp c1 ?_
  rw [c2, c3]
theorem a_Cross (F : Nat) (hF : 200 ≤ F) {a0 a1 a2 a3 a4 a5 : Int} (h0 : I64 a0) (h1 : I64 a1) (h2 : I64 a2) (h3 : I64 a3) (h4 : I64 a4) (h5 : I64 a5) : ok_vec_Cross F a0 a1 a2 a3 a4 a5 = true ∧ o_vec_Cross_0 F a0 a1 a2 a3 a4 a5 = clipV (arZ a1 a5 a2 a4) ∧ o_vec_Cross_1 F a0 a1 a2 a3 a4 a5 = clipV (arZ a2 a3 a0 a5) ∧ o_vec_Cross_2 F a0 a1 a2 a3 a4 a5 = clipV (arZ a0 a4 a1 a3) ∧ o_vec_Cross_3 F a0 a1 a2 a3 a4 a5 = (clipC (arZ a1 a5 a2 a4) || clipC (arZ a2 a3 a0 a5) || clipC (arZ a0 a4 a1 a3)) := by
  refine k_vec_Cross F _ _ _ _ _ _ ?_
  unfold f_vec_Cross
  obtain ⟨e1, e2, e3, e4, e5⟩ := k_vec_eachv1 F _ _ _ _ _ _ (f_vec_eachv1' F hF (a_Cross_0 F h0 h1 h2 h3 h4 h5) (a_Cross_1 F h0 h1 h2 h3 h4 h5) (a_Cross_2 F h0 h1 h2 h3 h4 h5))
  refine bp e1 ?_
  rw [e2, e3, e4, e5]
theorem sz_U {a : Int} (h : I64 a) : U64 (sz a) := by unfold sz; unfold I64 at h; unfold U64; split <;> omega
theorem sz_sq (a : Int) : sz a * sz a = a * a := by
  unfold sz
  split
  · rw [Int.neg_mul_neg]
  · rfl
theorem a_vbare (F : Nat) {a : Int} (h : I64 a) : ok_vec_bare F a = true ∧ o_vec_bare_0 F a = sz a := by
  refine k_vec_bare F _ ?_
  unfold f_vec_bare sz
  unfold I64 at h
  by_cases hs : a < 0
  · refine bp (dt hs) ?_
    rw [if_pos hs, wu64, wu64]
    congr 3
    omega
  · refine bn (df hs) ?_
    rw [if_neg hs, wu64]
    congr 3
    omega
def sq3 (a b c : Int) : Int := a * a + b * b + c * c
noncomputable def lenV (z : Int) : Int := if z < 85070591730234615865843651857942052864 then rt z else 9223372036854775807
def lenC (z : Int) : Bool := decide (85070591730234615865843651857942052864 ≤ z)
theorem sq_bd64 {a : Int} (h : I64 a) : 0 ≤ a * a ∧ a * a ≤ 85070591730234615865843651857942052864 := by
  have h1 := sz_sq a
  have h2 : 0 ≤ sz a ∧ sz a ≤ 9223372036854775808 := by unfold sz; unfold I64 at h; split <;> omega
  have h3 := sq_le h2.1 h2.2
  have h4 := Int.mul_nonneg h2.1 h2.1
  omega
theorem rt_small {z : Int} (h0 : 0 ≤ z) : (rt z ≤ 9223372036854775807) ↔ z < 85070591730234615865843651857942052864 := by
  obtain ⟨h1, h2, h3⟩ := rt_spec h0
  constructor
  · intro h
    have := sq_le (x := rt z + 1) (y := 9223372036854775808) (by omega) (by omega)
    omega
  · intro h
    rcases Int.lt_or_le 9223372036854775807 (rt z) with hl | hl
    · have := sq_le (x := 9223372036854775808) (y := rt z) (by omega) (by omega)
      omega
    · exact hl
theorem len_some {n : Int} {c : Bool} {z : Int} (h : n = lenV z) (k : c = lenC z) : (some (VV.v (.tuple #[.int .i64 n, .bool c])) : R) = some (.v (.tuple #[.int .i64 (lenV z), .bool (lenC z)])) := by rw [h, k]
theorem len_big {z : Int} (h : 170141183460469231731687303715884105728 ≤ z) : (some (VV.v (.tuple #[.int .i64 9223372036854775807, .bool true])) : R) = some (.v (.tuple #[.int .i64 (lenV z), .bool (lenC z)])) := by
  refine len_some ?_ ?_
  · unfold lenV; rw [if_neg (by omega)]
  · unfold lenC; rw [dt (by omega)]
theorem hi_neg {z : Int} (h0 : 0 ≤ z) (h1 : z < 340282366920938463463374607431768211456) : (170141183460469231731687303715884105728 ≤ z ↔ W z < 0) := by unfold W; omega
end Go.Xv
namespace Go.Xv
theorem a_Sgn (F : Nat) {z : Int} (h0 : 0 ≤ z) (h1 : z < 340282366920938463463374607431768211456) : ok_wide_Sign F (hi z) (lo z) = true ∧ decide (o_wide_Sign_0 F (hi z) (lo z) < 0) = decide (170141183460469231731687303715884105728 ≤ z) := by
  obtain ⟨e1, e2⟩ := k_wide_Sign F _ _ (f_Sign F (a := hi z) (lo_U z))
  refine ⟨e1, ?_⟩
  rw [e2, val_hl]
  have := hi_neg h0 h1
  rw [Bool.eq_iff_iff]
  simp only [decide_eq_true_eq]
  split
  · omega
  · split <;> omega
theorem a_rootW (F : Nat) (hF : 200 ≤ F) {z : Int} (h0 : 0 ≤ z) (h1 : z < 170141183460469231731687303715884105728) : ok_root_Wide F (hi z) (lo z) = true ∧ o_root_Wide_0 F (hi z) (lo z) = rt z := by
  have h := f_rootWide F hF (hi_I z) (lo_U z)
  rw [val_hl, W_in (by unfold W128; omega)] at h
  unfold rootR at h
  rw [if_neg (by omega)] at h
  obtain ⟨e1, e2, _⟩ := k_root_Wide F _ _ h
  exact ⟨e1, e2⟩
theorem len_end {z : Int} (h0 : 0 ≤ z) : (bif decide (rt z > 9223372036854775807) then (some (.v (.tuple #[.int .i64 9223372036854775807, .bool true])) : R) else some (.v (.tuple #[.int .i64 (IntKind.wrap .i64 (rt z)), .bool false]))) = some (.v (.tuple #[.int .i64 (lenV z), .bool (lenC z)])) := by
  have hs := rt_small h0
  have hr := (rt_spec h0).1
  by_cases h : z < 85070591730234615865843651857942052864
  · refine bn (df (by have := hs.2 h; omega)) (len_some ?_ ?_)
    · unfold lenV; rw [if_pos h, wi64_in (by have := hs.2 h; unfold I64; omega)]
    · unfold lenC; rw [df (by omega)]
  · refine bp (dt ?_) (len_some ?_ ?_)
    · rcases Int.lt_or_le 9223372036854775807 (rt z) with hl | hl
      · exact hl
      · exact absurd (hs.1 hl) h
    · unfold lenV; rw [if_neg h]
    · unfold lenC; rw [dt (by omega)]
theorem f_Length (F : Nat) (hF : 200 ≤ F) {a b c : Int} (ha : I64 a) (hb : I64 b) (hc : I64 c) : f_vec_Length F a b c = some (.v (.tuple #[.int .i64 (lenV (sq3 a b c)), .bool (lenC (sq3 a b c))])) := by
  obtain ⟨p1, p2⟩ := a_vbare F ha
  obtain ⟨q1, q2⟩ := a_vbare F hb
  obtain ⟨r1, r2⟩ := a_vbare F hc
  obtain ⟨s1, s2, s3⟩ := a_Square F (sz_U ha)
  obtain ⟨t1, t2, t3⟩ := a_Square F (sz_U hb)
  obtain ⟨u1, u2, u3⟩ := a_Square F (sz_U hc)
  rw [sz_sq] at s2 s3 t2 t3 u2 u3
  have ba := sq_bd64 ha
  have bb := sq_bd64 hb
  have bc := sq_bd64 hc
  obtain ⟨v1, v2, v3⟩ := a_Add F 0 (a * a)
  obtain ⟨w1, w2, w3⟩ := a_Add F (a * a) (b * b)
  obtain ⟨x1, x2, x3⟩ := a_Add F (a * a + b * b) (c * c)
  rw [Int.zero_add] at v2 v3
  have v1' : ok_wide_Add F 0 0 (hi (a * a)) (lo (a * a)) = true := v1
  have v2' : o_wide_Add_0 F 0 0 (hi (a * a)) (lo (a * a)) = hi (a * a) := v2
  have v3' : o_wide_Add_1 F 0 0 (hi (a * a)) (lo (a * a)) = lo (a * a) := v3
  obtain ⟨g1, g2⟩ := a_Sgn F (z := a * a) (by omega) (by omega)
  obtain ⟨i1, i2⟩ := a_Sgn F (z := a * a + b * b) (by omega) (by omega)
  obtain ⟨j1, j2⟩ := a_Sgn F (z := a * a + b * b + c * c) (by omega) (by omega)
  obtain ⟨G, hG⟩ : ∃ G, F = G + 4 := ⟨F - 4, by omega⟩
  have y1 : IntKind.wrap .i64 (0 + 1) = 1 := by decide
  have y2 : IntKind.wrap .i64 (1 + 1) = 2 := by decide
  have y3 : IntKind.wrap .i64 (2 + 1) = 3 := by decide
  unfold f_vec_Length
  rw [show L_vec_Length_0 F _ _ F = L_vec_Length_0 F _ _ (G + 4) from congrArg (L_vec_Length_0 F _ _) hG, L_vec_Length_0]
  unfold B_vec_Length_0
  have e0 : (iv [.v (.int .i64 a), .v (.int .i64 b), .v (.int .i64 c)][Int.toNat 0 * 1]?) = a := rfl
  have e1 : (iv [.v (.int .i64 a), .v (.int .i64 b), .v (.int .i64 c)][Int.toNat 1 * 1]?) = b := rfl
  have e2 : (iv [.v (.int .i64 a), .v (.int .i64 b), .v (.int .i64 c)][Int.toNat 2 * 1]?) = c := rfl
  refine bp rfl (bp rfl ?_)
  rw [e0]
  refine bp p1 ?_
  rw [p2]
  refine bp s1 ?_
  rw [s2, s3]
  refine bp v1' ?_
  rw [v2', v3']
  refine bp g1 ?_
  rw [g2]
  refine bn (df (by omega)) ?_
  rw [y1, L_vec_Length_0]
  unfold B_vec_Length_0
  refine bp rfl (bp rfl ?_)
  rw [e1]
  refine bp q1 ?_
  rw [q2]
  refine bp t1 ?_
  rw [t2, t3]
  refine bp w1 ?_
  rw [w2, w3]
  refine bp i1 ?_
  rw [i2]
  by_cases hz : 170141183460469231731687303715884105728 ≤ a * a + b * b
  · exact bp (dt hz) (len_big (by unfold sq3; omega))
  · refine bn (df hz) ?_
    rw [y2, L_vec_Length_0]
    unfold B_vec_Length_0
    refine bp rfl (bp rfl ?_)
    rw [e2]
    refine bp r1 ?_
    rw [r2]
    refine bp u1 ?_
    rw [u2, u3]
    refine bp x1 ?_
    rw [x2, x3]
    refine bp j1 ?_
    rw [j2]
    by_cases hz2 : 170141183460469231731687303715884105728 ≤ a * a + b * b + c * c
    · exact bp (dt hz2) (len_big (by unfold sq3; omega))
    · refine bn (df hz2) ?_
      rw [y3, L_vec_Length_0]
      unfold B_vec_Length_0
      refine bn rfl ?_
      obtain ⟨k1, k2⟩ := a_rootW F hF (z := a * a + b * b + c * c) (by omega) (by omega)
      refine bp k1 ?_
      rw [k2]
      exact len_end (z := a * a + b * b + c * c) (by omega)
theorem a_Length (F : Nat) (hF : 200 ≤ F) {a b c : Int} (ha : I64 a) (hb : I64 b) (hc : I64 c) : ok_vec_Length F a b c = true ∧ o_vec_Length_0 F a b c = lenV (sq3 a b c) ∧ o_vec_Length_1 F a b c = lenC (sq3 a b c) := k_vec_Length F _ _ _ (f_Length F hF ha hb hc)
theorem f_works06 (F : Nat) (hF : 200 ≤ F) : f_law06_works F = some (.v (.bool true)) := by
  unfold f_law06_works
  obtain ⟨l1, l2, l3⟩ := a_Length F hF (a := 12884901888) (b := 17179869184) (c := 0) (by unfold I64; omega) (by unfold I64; omega) (by unfold I64; omega)
  have hz : sq3 12884901888 17179869184 0 = 461168601842738790400 := by decide
  have hr : rt 461168601842738790400 = 21474836480 := rt_eq (by omega) (by decide) (by decide)
  rw [hz] at l2 l3
  refine bp l1 (bp ?_ (some_bool ?_))
  · rw [l2]; unfold lenV; rw [if_pos (by decide), hr]; rfl
  · rw [l3]; decide
theorem a_works06 (F : Nat) (hF : 200 ≤ F) : ok_law06_works F = true ∧ o_law06_works_0 F = true := k_law06_works F (f_works06 F hF)
end Go.Xv
namespace Go.Xv
theorem ar_neg {a b c d : Int} (h : clipC (arZ b a d c) = false) (k : clipC (arZ d c b a) = false) : (clipV (arZ d c b a) == IntKind.wrap .i64 (0 - clipV (arZ b a d c))) = true := by
  have e : arZ d c b a = -arZ b a d c := by unfold arZ; omega
  rw [e] at k ⊢
  generalize arZ b a d c = z at *
  unfold clipC at h k
  simp only [decide_eq_false_iff_not] at h k
  have e1 : clipV z = z := by unfold clipV; rw [if_neg (by omega), if_neg (by omega)]
  have e2 : clipV (-z) = -z := by unfold clipV; rw [if_neg (by omega), if_neg (by omega)]
  rw [e1, e2, wi64_in (by unfold I64; omega)]
  simp
theorem ar_turn (a b c d : Int) : arZ a b c d = arZ b a d c := by unfold arZ; rw [pr_comm a b, pr_comm c d]
theorem ar_self (a b : Int) : clipV (arZ a b b a) = 0 ∧ clipC (arZ a b b a) = false := by
  have e : arZ a b b a = 0 := by unfold arZ; rw [pr_comm a b]; omega
  rw [e]; decide
theorem dot_turn (a0 a1 a2 a3 a4 a5 : Int) : dotZ a3 a4 a5 a0 a1 a2 = dotZ a0 a1 a2 a3 a4 a5 := by unfold dotZ; rw [pr_comm a3, pr_comm a4, pr_comm a5]
theorem f_VecApart (F : Nat) (hF : 200 ≤ F) {a0 a1 a2 a3 a4 a5 : Int} (h0 : I64 a0) (h1 : I64 a1) (h2 : I64 a2) (h3 : I64 a3) (h4 : I64 a4) (h5 : I64 a5) : f_law06_VecApart F a0 a1 a2 a3 a4 a5 = some (.v (.bool true)) := by
  unfold f_law06_VecApart
  obtain ⟨w1, w2⟩ := a_works06 F hF
  obtain ⟨p1, p2, p3⟩ := a_Dot F hF h0 h1 h2 h3 h4 h5
  obtain ⟨q1, q2, q3⟩ := a_Dot F hF h3 h4 h5 h0 h1 h2
  obtain ⟨r1, r2, r3, r4, r5⟩ := a_Cross F hF h0 h1 h2 h3 h4 h5
  obtain ⟨s1, s2, s3, s4, s5⟩ := a_Cross F hF h3 h4 h5 h0 h1 h2
  obtain ⟨t1, t2, t3, t4, t5⟩ := a_Cross F hF h0 h1 h2 h0 h1 h2
  rw [(ar_self a1 a2).1] at t2
  rw [(ar_self a2 a0).1] at t3
  rw [(ar_self a0 a1).1] at t4
  rw [(ar_self a1 a2).2, (ar_self a2 a0).2, (ar_self a0 a1).2] at t5
  rw [dot_turn] at q2 q3
  have fin : (bif (((0 : Int) == 0) && (((0 : Int) == 0) && ((0 : Int) == 0))) then (bif (!(false || false || false)) then (bif (clipV (dotZ a0 a1 a2 a3 a4 a5) == clipV (dotZ a0 a1 a2 a3 a4 a5)) then (some (.v (.bool (clipC (dotZ a0 a1 a2 a3 a4 a5) == clipC (dotZ a0 a1 a2 a3 a4 a5)))) : R) else (some (.v (.bool false)))) else (some (.v (.bool false)))) else (some (.v (.bool false)))) = some (.v (.bool true)) := by
    simp
  refine bp w1 (bn (by rw [w2]; rfl) (bp r1 (bp s1 (bp t1 ?_))))
  rw [t2, t3, t4, t5]
  refine bp p1 (bp q1 ?_)
  rw [p2, p3, q2, q3, r5, s5]
  cases c1 : (clipC (arZ a1 a5 a2 a4) || clipC (arZ a2 a3 a0 a5) || clipC (arZ a0 a4 a1 a3)) with
  | true => exact bp rfl fin
  | false =>
    refine bn rfl ?_
    cases c2 : (clipC (arZ a4 a2 a5 a1) || clipC (arZ a5 a0 a3 a2) || clipC (arZ a3 a1 a4 a0)) with
    | true => exact bp rfl fin
    | false =>
      refine bn rfl (bp ?_ fin)
      simp only [Bool.or_eq_false_iff] at c1 c2
      rw [r2, r3, r4, s2, s3, s4]
      have n0 := ar_neg (a := a2) (b := a4) (c := a1) (d := a5) (by exact c2.1.1) (by rw [← ar_turn]; exact c1.1.1)
      have n1 := ar_neg (a := a0) (b := a5) (c := a2) (d := a3) (by exact c2.1.2) (by rw [← ar_turn]; exact c1.1.2)
      have n2 := ar_neg (a := a1) (b := a3) (c := a0) (d := a4) (by exact c2.2) (by rw [← ar_turn]; exact c1.2)
      rw [← ar_turn] at n0 n1 n2
      rw [n0, n1, n2]
      rfl
end Go.Xv
namespace Go.Proofs.Ytpnggkefjgpleaa.vecApart
open Go.ChangeShapes Go.WideShapes Go.ChangeAt Go.RowKit Go.Xv Go.Proofs.Ytpnggkefjgpleaa.base
set_option linter.unusedVariables false
set_option maxRecDepth 100000 in
theorem lifted (os : Os) (started : os.Started) (H : Type) (enc : TypeId × Value → H) :
    ReturnsInHanded {} Try.checked os 14 .any (Rows.vecApartSpec.pre6 enc Try.prog Try.f14 Rows.vecApartRow.domain false) (Rows.vecApartSpec.post enc Try.prog Try.f14 false true false false) := by
  refine returnsInHanded_of_change (C := Try.checked) own started (by kernel_rfl) Try.func14
    (ChangeSpec.witness6 (enc := enc) (C := Try.checked) false ⟨#[], #[.agg #[.int .i64 0, .int .i64 0, .int .i64 0], .agg #[.int .i64 0, .int .i64 0, .int .i64 0]], []⟩ 8 (by kernel_rfl) (by kernel_rfl) (by kernel_rfl) (by kernel_rfl)) ?_
  intro W base args ds gs before hval0 hW hcnd _
  have hval : ∀ (j : Nat) t v, Try.f14.params[j]? = some t → args[j]? = some v → Value.okWide Try.prog W .any base t v := hval0
  have hW' := hW
  obtain ⟨p, q, hA0, hV, rfl, hfz, hnd⟩ := hW
  have hA : DataW.TrodAll enc Try.prog W 0 (fun _ => true) true Try.f14.params.toList args.toList ds p := hA0
  rw [Try.params14] at hA hval
  obtain ⟨v0, vs0, d0, ds0, p0, q0, hargs, rfl, rfl, h0, r0⟩ := trodAll_cons hA
  obtain ⟨v1, vs1, d1, ds1, p1, q1, rfl, rfl, rfl, h1, r1⟩ := trodAll_cons r0
  obtain ⟨rfl, rfl, rfl⟩ := trodAll_nil r1
  obtain rfl : args = #[v0, v1] := by cases args; simp_all
  obtain ⟨l0, rfl, f0⟩ := open_flat (ks := [some .i64, some .i64, some .i64]) (by kernel_rfl) (by kernel_rfl) (hval 0 24 v0 rfl rfl) h0
  obtain ⟨a0, l0, rfl, wa0, f0⟩ := fitW_some f0
  obtain ⟨a1, l0, rfl, wa1, f0⟩ := fitW_some f0
  obtain ⟨a2, l0, rfl, wa2, f0⟩ := fitW_some f0
  obtain rfl := fitW_nil f0
  obtain ⟨l1, rfl, f1⟩ := open_flat (ks := [some .i64, some .i64, some .i64]) (by kernel_rfl) (by kernel_rfl) (hval 1 24 v1 rfl rfl) h1
  obtain ⟨a3, l1, rfl, wa3, f1⟩ := fitW_some f1
  obtain ⟨a4, l1, rfl, wa4, f1⟩ := fitW_some f1
  obtain ⟨a5, l1, rfl, wa5, f1⟩ := fitW_some f1
  obtain rfl := fitW_nil f1
  refine law_contract laidOut (g_law06_VecApart fuel0) (bt := 4) (by kernel_rfl) (by kernel_rfl) (by kernel_rfl) (by kernel_rfl) rfl hW' ?_
  refine ⟨[.v (.agg #[.int .i64 a0, .int .i64 a1, .int .i64 a2]), .v (.agg #[.int .i64 a3, .int .i64 a4, .int .i64 a5])], rfl, fun i x hx => ?_, unS_of ?_⟩
  · match i, hx with
    | 0, hx => exact ⟨_, rfl, by cases hx; exact Rel.v _ _⟩
    | 1, hx => exact ⟨_, rfl, by cases hx; exact Rel.v _ _⟩
    | _ + 2, hx => cases hx
  · obtain ⟨y1, y2⟩ := k_law06_VecApart fuel0 a0 a1 a2 a3 a4 a5 (f_VecApart fuel0 (by unfold fuel0; omega) (wf_i64 wa0) (wf_i64 wa1) (wf_i64 wa2) (wf_i64 wa3) (wf_i64 wa4) (wf_i64 wa5))
    have e : s_law06_VecApart fuel0 [.v (.agg #[.int .i64 a0, .int .i64 a1, .int .i64 a2]), .v (.agg #[.int .i64 a3, .int .i64 a4, .int .i64 a5])] = some (ok_law06_VecApart fuel0 a0 a1 a2 a3 a4 a5, .v (.bool (o_law06_VecApart_0 fuel0 a0 a1 a2 a3 a4 a5))) := by kernel_rfl
    rw [e, y1, y2]
theorem over : Rows.vecApartRow.holds Try.pinned (OpenSpec.ofChange Rows.vecApartSpec) :=
  OpenClaim.holds_of_wide 14 Try.f14 rfl rfl rfl rfl rfl rfl rfl ⟨rfl, rfl, rfl, rfl, rfl⟩ rfl rfl rfl rfl rfl (by kernel_rfl) Try.func14 (joined_of (P := Try.prog) behind enter_ rfl rfl ⟨rfl, rfl⟩ (by kernel_rfl))
    (of_decide_eq_true (by kernel_rfl)) (by unfold Func.isWrapper; first | (rw [if_pos (by decide +kernel)]; kernel_rfl) | (rw [if_neg (by decide +kernel)]; exact ⟨rfl, rfl⟩))
    (fun os started H enc _ => lifted os started H enc)
/-- The statement. -/
theorem proved : Rows.VecApartSaid := over
#print axioms proved
end Go.Proofs.Ytpnggkefjgpleaa.vecApart
