/- The heading of what turns about axis 2 is no further from the angle than 1024 parts: the law returns true for every input, and leaves its arguments as they were. -/
import Derived.Test.YtpnggkefjgpleaaB2
import Derived.Test.YtpnggkefjgpleaaProg
import Derived.KernelRfl
namespace Go.Xv
noncomputable abbrev PP := Proofs.Try.prog
end Go.Xv
set_option linter.unusedVariables false
namespace Go.Xv
/- 71 _wide_Add -/
def c_wide_Add : Cfg := ⟨[0, 1, 2, 3, 4, 5, 6, 22], [], [], []⟩
def ti_wide_Add : List TV := [.v (.agg [.int .i64, .int .u64]), .v (.agg [.int .i64, .int .u64])]
def to_wide_Add : TV := .v (.agg [.int .i64, .int .u64])
def S_wide_Add (F : Nat) : FuncId → List VV → Option (Bool × VV) := words []
def W_wide_Add (F : Nat) : List LW := []
def I_wide_Add (F : Nat) : Nat → VS → (Exit → VS → R) → R := tabI c_wide_Add (W_wide_Add F)
def WJ_wide_Add (F : Nat) : List LJ := []
def J_wide_Add (F : Nat) : Nat → Nat → VS → (Exit → VS → R) → R := tabJ (WJ_wide_Add F)
def f_wide_Add (F : Nat) (a0 : Int) (a1 : Int) (a2 : Int) (a3 : Int) : R :=
  let v1341 : Int := (IntKind.wrap .u64 (a1 + a3))
  let v1344 : Int := (IntKind.wrap .u64 (((IntKind.wrap .u64 a0)) + ((IntKind.wrap .u64 a2))))
  bif ((decide (v1341 < a1))) then (
    some (.v (.agg #[.int .i64 ((IntKind.wrap .i64 ((IntKind.wrap .u64 (v1344 + 1))))), .int .u64 v1341])))
  else (
    some (.v (.agg #[.int .i64 ((IntKind.wrap .i64 v1344)), .int .u64 v1341])))
theorem e_wide_Add (F : Nat) (a0 : Int) (a1 : Int) (a2 : Int) (a3 : Int) : funL PP (S_wide_Add F) c_wide_Add (I_wide_Add F) (J_wide_Add F) 71 (fTs ti_wide_Add [.i a0, .i a1, .i a2, .i a3]).1 = f_wide_Add F a0 a1 a2 a3 := by
  have h : ∀ (_ : Unit), funL PP (words []) c_wide_Add (tabI c_wide_Add []) (tabJ []) 71 (fTs ti_wide_Add [.i a0, .i a1, .i a2, .i a3]).1 = (
  let v1341 : Int := (IntKind.wrap .u64 (a1 + a3))
  let v1344 : Int := (IntKind.wrap .u64 (((IntKind.wrap .u64 a0)) + ((IntKind.wrap .u64 a2))))
  bif ((decide (v1341 < a1))) then (
    some (.v (.agg #[.int .i64 ((IntKind.wrap .i64 ((IntKind.wrap .u64 (v1344 + 1))))), .int .u64 v1341])))
  else (
    some (.v (.agg #[.int .i64 ((IntKind.wrap .i64 v1344)), .int .u64 v1341]))) : R) := by
    intros
    kernel_rfl
  exact (h ()).trans (by kernel_rfl)
def ok_wide_Add (F : Nat) (a0 : Int) (a1 : Int) (a2 : Int) (a3 : Int) : Bool := okT to_wide_Add (f_wide_Add F a0 a1 a2 a3)
def o_wide_Add_0 (F : Nat) (a0 : Int) (a1 : Int) (a2 : Int) (a3 : Int) : Int := atI (nth (outT to_wide_Add (f_wide_Add F a0 a1 a2 a3)) 0)
def o_wide_Add_1 (F : Nat) (a0 : Int) (a1 : Int) (a2 : Int) (a3 : Int) : Int := atI (nth (outT to_wide_Add (f_wide_Add F a0 a1 a2 a3)) 1)
theorem k_wide_Add (F : Nat) (a0 : Int) (a1 : Int) (a2 : Int) (a3 : Int) {z0 : Int} {z1 : Int} (h : f_wide_Add F a0 a1 a2 a3 = some (.v (.agg #[.int .i64 z0, .int .u64 z1]))) : ok_wide_Add F a0 a1 a2 a3 = true ∧ o_wide_Add_0 F a0 a1 a2 a3 = z0 ∧ o_wide_Add_1 F a0 a1 a2 a3 = z1 := by
  refine ⟨?_, ?_, ?_⟩
  · unfold ok_wide_Add; rw [h]; kernel_rfl
  · unfold o_wide_Add_0; rw [h]; kernel_rfl
  · unfold o_wide_Add_1; rw [h]; kernel_rfl
def s_wide_Add (F : Nat) : List VV → Option (Bool × VV) := spec ti_wide_Add to_wide_Add (fun q => (ok_wide_Add F (atI (nth q 0)) (atI (nth q 1)) (atI (nth q 2)) (atI (nth q 3)))) (fun q => [.i (o_wide_Add_0 F (atI (nth q 0)) (atI (nth q 1)) (atI (nth q 2)) (atI (nth q 3))), .i (o_wide_Add_1 F (atI (nth q 0)) (atI (nth q 1)) (atI (nth q 2)) (atI (nth q 3)))])
theorem hS_wide_Add (F : Nat) : ∀ f, Good PP f (unS (S_wide_Add F f)) := words_good fun p hp => by
  cases hp
theorem hl_wide_Add (F : Nat) : ∀ p ∈ loopsIn PP 71, LoopOK PP (S_wide_Add F) c_wide_Add F (I_wide_Add F) (J_wide_Add F) p :=
  loops_of [] (by kernel_rfl) all_nil
theorem hj_wide_Add (F : Nat) : ∀ p ∈ joinsIn PP c_wide_Add 71, JoinOK PP (S_wide_Add F) c_wide_Add (I_wide_Add F) (J_wide_Add F) p :=
  joins_of [] (by kernel_rfl) all_nil
theorem g_wide_Add (F : Nat) : Good PP 71 (unS (s_wide_Add F)) :=
  fun_spec (hS_wide_Add F) (by kernel_rfl) (by kernel_rfl) (C := c_wide_Add) (F := fun q => (f_wide_Add F (atI (nth q 0)) (atI (nth q 1)) (atI (nth q 2)) (atI (nth q 3)))) (fun _ => F) (fun _ => I_wide_Add F) (fun _ => J_wide_Add F) (fun _ => hl_wide_Add F) (fun _ => hj_wide_Add F)
    (fun q => (congrArg (funL PP (S_wide_Add F) c_wide_Add (I_wide_Add F) (J_wide_Add F) 71) (show (fTs ti_wide_Add q).1 = (fTs ti_wide_Add [.i (atI (nth q 0)), .i (atI (nth q 1)), .i (atI (nth q 2)), .i (atI (nth q 3))]).1 by kernel_rfl)).trans (e_wide_Add F (atI (nth q 0)) (atI (nth q 1)) (atI (nth q 2)) (atI (nth q 3))))
    (fun _ h => (okT_fill h).trans (congrArg some (by kernel_rfl)))

end Go.Xv
set_option linter.unusedVariables false
namespace Go.Xv
/- 131 _wide_bare -/
def c_wide_bare : Cfg := ⟨[0, 2, 4], [], [], []⟩
def ti_wide_bare : List TV := [.v (.int .i64)]
def to_wide_bare : TV := .v (.int .u64)
def S_wide_bare (F : Nat) : FuncId → List VV → Option (Bool × VV) := words []
def W_wide_bare (F : Nat) : List LW := []
def I_wide_bare (F : Nat) : Nat → VS → (Exit → VS → R) → R := tabI c_wide_bare (W_wide_bare F)
def WJ_wide_bare (F : Nat) : List LJ := []
def J_wide_bare (F : Nat) : Nat → Nat → VS → (Exit → VS → R) → R := tabJ (WJ_wide_bare F)
def f_wide_bare (F : Nat) (a0 : Int) : R :=
  bif ((decide (a0 < 0))) then (
    some (.v (.int .u64 ((IntKind.wrap .u64 (0 - ((IntKind.wrap .u64 a0))))))))
  else (
    some (.v (.int .u64 ((IntKind.wrap .u64 a0)))))
theorem e_wide_bare (F : Nat) (a0 : Int) : funL PP (S_wide_bare F) c_wide_bare (I_wide_bare F) (J_wide_bare F) 131 (fTs ti_wide_bare [.i a0]).1 = f_wide_bare F a0 := by
  have h : ∀ (_ : Unit), funL PP (words []) c_wide_bare (tabI c_wide_bare []) (tabJ []) 131 (fTs ti_wide_bare [.i a0]).1 = (
  bif ((decide (a0 < 0))) then (
    some (.v (.int .u64 ((IntKind.wrap .u64 (0 - ((IntKind.wrap .u64 a0))))))))
  else (
    some (.v (.int .u64 ((IntKind.wrap .u64 a0))))) : R) := by
    intros
    kernel_rfl
  exact (h ()).trans (by kernel_rfl)
def ok_wide_bare (F : Nat) (a0 : Int) : Bool := okT to_wide_bare (f_wide_bare F a0)
def o_wide_bare_0 (F : Nat) (a0 : Int) : Int := atI (nth (outT to_wide_bare (f_wide_bare F a0)) 0)
theorem k_wide_bare (F : Nat) (a0 : Int) {z0 : Int} (h : f_wide_bare F a0 = some (.v (.int .u64 z0))) : ok_wide_bare F a0 = true ∧ o_wide_bare_0 F a0 = z0 := by
  refine ⟨?_, ?_⟩
  · unfold ok_wide_bare; rw [h]; kernel_rfl
  · unfold o_wide_bare_0; rw [h]; kernel_rfl
def s_wide_bare (F : Nat) : List VV → Option (Bool × VV) := spec ti_wide_bare to_wide_bare (fun q => (ok_wide_bare F (atI (nth q 0)))) (fun q => [.i (o_wide_bare_0 F (atI (nth q 0)))])
theorem hS_wide_bare (F : Nat) : ∀ f, Good PP f (unS (S_wide_bare F f)) := words_good fun p hp => by
  cases hp
theorem hl_wide_bare (F : Nat) : ∀ p ∈ loopsIn PP 131, LoopOK PP (S_wide_bare F) c_wide_bare F (I_wide_bare F) (J_wide_bare F) p :=
  loops_of [] (by kernel_rfl) all_nil
theorem hj_wide_bare (F : Nat) : ∀ p ∈ joinsIn PP c_wide_bare 131, JoinOK PP (S_wide_bare F) c_wide_bare (I_wide_bare F) (J_wide_bare F) p :=
  joins_of [] (by kernel_rfl) all_nil
theorem g_wide_bare (F : Nat) : Good PP 131 (unS (s_wide_bare F)) :=
  fun_spec (hS_wide_bare F) (by kernel_rfl) (by kernel_rfl) (C := c_wide_bare) (F := fun q => (f_wide_bare F (atI (nth q 0)))) (fun _ => F) (fun _ => I_wide_bare F) (fun _ => J_wide_bare F) (fun _ => hl_wide_bare F) (fun _ => hj_wide_bare F)
    (fun q => (congrArg (funL PP (S_wide_bare F) c_wide_bare (I_wide_bare F) (J_wide_bare F) 131) (show (fTs ti_wide_bare q).1 = (fTs ti_wide_bare [.i (atI (nth q 0))]).1 by kernel_rfl)).trans (e_wide_bare F (atI (nth q 0))))
    (fun _ h => (okT_fill h).trans (congrArg some (by kernel_rfl)))

end Go.Xv
set_option linter.unusedVariables false
namespace Go.Xv
/- 130 _wide_product -/
def c_wide_product : Cfg := ⟨[0, 1, 4, 5, 6, 7, 8, 9, 10], [], [], []⟩
def ti_wide_product : List TV := [.v (.int .u64), .v (.int .u64)]
def to_wide_product : TV := .v (.agg [.int .i64, .int .u64])
def S_wide_product (F : Nat) : FuncId → List VV → Option (Bool × VV) := words []
def W_wide_product (F : Nat) : List LW := []
def I_wide_product (F : Nat) : Nat → VS → (Exit → VS → R) → R := tabI c_wide_product (W_wide_product F)
def WJ_wide_product (F : Nat) : List LJ := []
def J_wide_product (F : Nat) : Nat → Nat → VS → (Exit → VS → R) → R := tabJ (WJ_wide_product F)
def f_wide_product (F : Nat) (a0 : Int) (a1 : Int) : R :=
  let v1635 : Int := (Int.fdiv a0 (4294967296))
  let v1636 : Int := (andI .u64 a0 4294967295)
  let v1637 : Int := (Int.fdiv a1 (4294967296))
  let v1638 : Int := (andI .u64 a1 4294967295)
  let v1642 : Int := (IntKind.wrap .u64 (((IntKind.wrap .u64 (v1635 * v1638))) + ((Int.fdiv ((IntKind.wrap .u64 (v1636 * v1638))) (4294967296)))))
  let v1645 : Int := (IntKind.wrap .u64 (((andI .u64 v1642 4294967295)) + ((IntKind.wrap .u64 (v1636 * v1637)))))
  some (.v (.agg #[.int .i64 ((IntKind.wrap .i64 ((IntKind.wrap .u64 (((IntKind.wrap .u64 (((IntKind.wrap .u64 (v1635 * v1637))) + ((Int.fdiv v1642 (4294967296)))))) + ((Int.fdiv v1645 (4294967296)))))))), .int .u64 ((orI .u64 ((IntKind.wrap .u64 (v1645 * 4294967296))) ((andI .u64 ((IntKind.wrap .u64 (v1636 * v1638))) 4294967295))))]))
theorem e_wide_product (F : Nat) (a0 : Int) (a1 : Int) : funL PP (S_wide_product F) c_wide_product (I_wide_product F) (J_wide_product F) 130 (fTs ti_wide_product [.i a0, .i a1]).1 = f_wide_product F a0 a1 := by
  have h : ∀ (_ : Unit), funL PP (words []) c_wide_product (tabI c_wide_product []) (tabJ []) 130 (fTs ti_wide_product [.i a0, .i a1]).1 = (
  let v1635 : Int := (Int.fdiv a0 (4294967296))
  let v1636 : Int := (andI .u64 a0 4294967295)
  let v1637 : Int := (Int.fdiv a1 (4294967296))
  let v1638 : Int := (andI .u64 a1 4294967295)
  let v1642 : Int := (IntKind.wrap .u64 (((IntKind.wrap .u64 (v1635 * v1638))) + ((Int.fdiv ((IntKind.wrap .u64 (v1636 * v1638))) (4294967296)))))
  let v1645 : Int := (IntKind.wrap .u64 (((andI .u64 v1642 4294967295)) + ((IntKind.wrap .u64 (v1636 * v1637)))))
  some (.v (.agg #[.int .i64 ((IntKind.wrap .i64 ((IntKind.wrap .u64 (((IntKind.wrap .u64 (((IntKind.wrap .u64 (v1635 * v1637))) + ((Int.fdiv v1642 (4294967296)))))) + ((Int.fdiv v1645 (4294967296)))))))), .int .u64 ((orI .u64 ((IntKind.wrap .u64 (v1645 * 4294967296))) ((andI .u64 ((IntKind.wrap .u64 (v1636 * v1638))) 4294967295))))])) : R) := by
    intros
    kernel_rfl
  exact (h ()).trans (by kernel_rfl)
def ok_wide_product (F : Nat) (a0 : Int) (a1 : Int) : Bool := okT to_wide_product (f_wide_product F a0 a1)
def o_wide_product_0 (F : Nat) (a0 : Int) (a1 : Int) : Int := atI (nth (outT to_wide_product (f_wide_product F a0 a1)) 0)
def o_wide_product_1 (F : Nat) (a0 : Int) (a1 : Int) : Int := atI (nth (outT to_wide_product (f_wide_product F a0 a1)) 1)
theorem k_wide_product (F : Nat) (a0 : Int) (a1 : Int) {z0 : Int} {z1 : Int} (h : f_wide_product F a0 a1 = some (.v (.agg #[.int .i64 z0, .int .u64 z1]))) : ok_wide_product F a0 a1 = true ∧ o_wide_product_0 F a0 a1 = z0 ∧ o_wide_product_1 F a0 a1 = z1 := by
  refine ⟨?_, ?_, ?_⟩
  · unfold ok_wide_product; rw [h]; kernel_rfl
  · unfold o_wide_product_0; rw [h]; kernel_rfl
  · unfold o_wide_product_1; rw [h]; kernel_rfl
def s_wide_product (F : Nat) : List VV → Option (Bool × VV) := spec ti_wide_product to_wide_product (fun q => (ok_wide_product F (atI (nth q 0)) (atI (nth q 1)))) (fun q => [.i (o_wide_product_0 F (atI (nth q 0)) (atI (nth q 1))), .i (o_wide_product_1 F (atI (nth q 0)) (atI (nth q 1)))])
theorem hS_wide_product (F : Nat) : ∀ f, Good PP f (unS (S_wide_product F f)) := words_good fun p hp => by
  cases hp
theorem hl_wide_product (F : Nat) : ∀ p ∈ loopsIn PP 130, LoopOK PP (S_wide_product F) c_wide_product F (I_wide_product F) (J_wide_product F) p :=
  loops_of [] (by kernel_rfl) all_nil
theorem hj_wide_product (F : Nat) : ∀ p ∈ joinsIn PP c_wide_product 130, JoinOK PP (S_wide_product F) c_wide_product (I_wide_product F) (J_wide_product F) p :=
  joins_of [] (by kernel_rfl) all_nil
theorem g_wide_product (F : Nat) : Good PP 130 (unS (s_wide_product F)) :=
  fun_spec (hS_wide_product F) (by kernel_rfl) (by kernel_rfl) (C := c_wide_product) (F := fun q => (f_wide_product F (atI (nth q 0)) (atI (nth q 1)))) (fun _ => F) (fun _ => I_wide_product F) (fun _ => J_wide_product F) (fun _ => hl_wide_product F) (fun _ => hj_wide_product F)
    (fun q => (congrArg (funL PP (S_wide_product F) c_wide_product (I_wide_product F) (J_wide_product F) 130) (show (fTs ti_wide_product q).1 = (fTs ti_wide_product [.i (atI (nth q 0)), .i (atI (nth q 1))]).1 by kernel_rfl)).trans (e_wide_product F (atI (nth q 0)) (atI (nth q 1))))
    (fun _ h => (okT_fill h).trans (congrArg some (by kernel_rfl)))

end Go.Xv
set_option linter.unusedVariables false
namespace Go.Xv
/- 98 _wide_Neg -/
def c_wide_Neg : Cfg := ⟨[0, 1, 2], [], [], []⟩
def ti_wide_Neg : List TV := [.v (.agg [.int .i64, .int .u64])]
def to_wide_Neg : TV := .v (.agg [.int .i64, .int .u64])
def S_wide_Neg (F : Nat) : FuncId → List VV → Option (Bool × VV) := words [(71, s_wide_Add F)]
def W_wide_Neg (F : Nat) : List LW := []
def I_wide_Neg (F : Nat) : Nat → VS → (Exit → VS → R) → R := tabI c_wide_Neg (W_wide_Neg F)
def WJ_wide_Neg (F : Nat) : List LJ := []
def J_wide_Neg (F : Nat) : Nat → Nat → VS → (Exit → VS → R) → R := tabJ (WJ_wide_Neg F)
def f_wide_Neg (F : Nat) (a0 : Int) (a1 : Int) : R :=
  let v1661 : Int := (xorI .i64 (-1) a0)
  let v1662 : Int := (xorI .u64 18446744073709551615 a1)
  bif (ok_wide_Add F v1661 v1662 0 1) then (
    some (.v (.agg #[.int .i64 ((o_wide_Add_0 F v1661 v1662 0 1)), .int .u64 ((o_wide_Add_1 F v1661 v1662 0 1))])))
  else (
    none)
theorem e_wide_Neg (F : Nat) (a0 : Int) (a1 : Int) : funL PP (S_wide_Neg F) c_wide_Neg (I_wide_Neg F) (J_wide_Neg F) 98 (fTs ti_wide_Neg [.i a0, .i a1]).1 = f_wide_Neg F a0 a1 := by
  have h : ∀ (ok_wide_Add : Nat → Int → Int → Int → Int → Bool) (o_wide_Add_0 : Nat → Int → Int → Int → Int → Int) (o_wide_Add_1 : Nat → Int → Int → Int → Int → Int), funL PP (words [(71, spec ti_wide_Add to_wide_Add (fun q => (ok_wide_Add F (atI (nth q 0)) (atI (nth q 1)) (atI (nth q 2)) (atI (nth q 3)))) (fun q => [.i (o_wide_Add_0 F (atI (nth q 0)) (atI (nth q 1)) (atI (nth q 2)) (atI (nth q 3))), .i (o_wide_Add_1 F (atI (nth q 0)) (atI (nth q 1)) (atI (nth q 2)) (atI (nth q 3)))]))]) c_wide_Neg (tabI c_wide_Neg []) (tabJ []) 98 (fTs ti_wide_Neg [.i a0, .i a1]).1 = (
  let v1661 : Int := (xorI .i64 (-1) a0)
  let v1662 : Int := (xorI .u64 18446744073709551615 a1)
  bif (ok_wide_Add F v1661 v1662 0 1) then (
    some (.v (.agg #[.int .i64 ((o_wide_Add_0 F v1661 v1662 0 1)), .int .u64 ((o_wide_Add_1 F v1661 v1662 0 1))])))
  else (
    none) : R) := by
    intros
    kernel_rfl
  exact (h ok_wide_Add o_wide_Add_0 o_wide_Add_1).trans (by kernel_rfl)
def ok_wide_Neg (F : Nat) (a0 : Int) (a1 : Int) : Bool := okT to_wide_Neg (f_wide_Neg F a0 a1)
def o_wide_Neg_0 (F : Nat) (a0 : Int) (a1 : Int) : Int := atI (nth (outT to_wide_Neg (f_wide_Neg F a0 a1)) 0)
def o_wide_Neg_1 (F : Nat) (a0 : Int) (a1 : Int) : Int := atI (nth (outT to_wide_Neg (f_wide_Neg F a0 a1)) 1)
theorem k_wide_Neg (F : Nat) (a0 : Int) (a1 : Int) {z0 : Int} {z1 : Int} (h : f_wide_Neg F a0 a1 = some (.v (.agg #[.int .i64 z0, .int .u64 z1]))) : ok_wide_Neg F a0 a1 = true ∧ o_wide_Neg_0 F a0 a1 = z0 ∧ o_wide_Neg_1 F a0 a1 = z1 := by
  refine ⟨?_, ?_, ?_⟩
  · unfold ok_wide_Neg; rw [h]; kernel_rfl
  · unfold o_wide_Neg_0; rw [h]; kernel_rfl
  · unfold o_wide_Neg_1; rw [h]; kernel_rfl
def s_wide_Neg (F : Nat) : List VV → Option (Bool × VV) := spec ti_wide_Neg to_wide_Neg (fun q => (ok_wide_Neg F (atI (nth q 0)) (atI (nth q 1)))) (fun q => [.i (o_wide_Neg_0 F (atI (nth q 0)) (atI (nth q 1))), .i (o_wide_Neg_1 F (atI (nth q 0)) (atI (nth q 1)))])
theorem hS_wide_Neg (F : Nat) : ∀ f, Good PP f (unS (S_wide_Neg F f)) := words_good fun p hp => by
  simp only [List.mem_cons, List.not_mem_nil, or_false] at hp
  rcases hp with rfl
  · exact g_wide_Add F
theorem hl_wide_Neg (F : Nat) : ∀ p ∈ loopsIn PP 98, LoopOK PP (S_wide_Neg F) c_wide_Neg F (I_wide_Neg F) (J_wide_Neg F) p :=
  loops_of [] (by kernel_rfl) all_nil
theorem hj_wide_Neg (F : Nat) : ∀ p ∈ joinsIn PP c_wide_Neg 98, JoinOK PP (S_wide_Neg F) c_wide_Neg (I_wide_Neg F) (J_wide_Neg F) p :=
  joins_of [] (by kernel_rfl) all_nil
theorem g_wide_Neg (F : Nat) : Good PP 98 (unS (s_wide_Neg F)) :=
  fun_spec (hS_wide_Neg F) (by kernel_rfl) (by kernel_rfl) (C := c_wide_Neg) (F := fun q => (f_wide_Neg F (atI (nth q 0)) (atI (nth q 1)))) (fun _ => F) (fun _ => I_wide_Neg F) (fun _ => J_wide_Neg F) (fun _ => hl_wide_Neg F) (fun _ => hj_wide_Neg F)
    (fun q => (congrArg (funL PP (S_wide_Neg F) c_wide_Neg (I_wide_Neg F) (J_wide_Neg F) 98) (show (fTs ti_wide_Neg q).1 = (fTs ti_wide_Neg [.i (atI (nth q 0)), .i (atI (nth q 1))]).1 by kernel_rfl)).trans (e_wide_Neg F (atI (nth q 0)) (atI (nth q 1))))
    (fun _ h => (okT_fill h).trans (congrArg some (by kernel_rfl)))

end Go.Xv
set_option linter.unusedVariables false
namespace Go.Xv
/- 116 _wide_Mul -/
def c_wide_Mul : Cfg := ⟨[0, 1, 4, 5, 15], [], [7, 9], []⟩
def ti_wide_Mul : List TV := [.v (.int .i64), .v (.int .i64)]
def to_wide_Mul : TV := .v (.agg [.int .i64, .int .u64])
def S_wide_Mul (F : Nat) : FuncId → List VV → Option (Bool × VV) := words [(131, s_wide_bare F), (130, s_wide_product F), (98, s_wide_Neg F)]
def W_wide_Mul (F : Nat) : List LW := []
def I_wide_Mul (F : Nat) : Nat → VS → (Exit → VS → R) → R := tabI c_wide_Mul (W_wide_Mul F)
def WJ_wide_Mul (F : Nat) : List LJ := []
def J_wide_Mul (F : Nat) : Nat → Nat → VS → (Exit → VS → R) → R := tabJ (WJ_wide_Mul F)
def f_wide_Mul (F : Nat) (a0 : Int) (a1 : Int) : R :=
  bif (ok_wide_bare F a0) then (
    let v1633 : Int := (o_wide_bare_0 F a0)
    bif (ok_wide_bare F a1) then (
      let v1634 : Int := (o_wide_bare_0 F a1)
      bif (ok_wide_product F v1633 v1634) then (
        let v1656 : Int := (o_wide_product_0 F v1633 v1634)
        let v1657 : Int := (o_wide_product_1 F v1633 v1634)
        bif ((!(((decide (a0 < 0))) == ((decide (a1 < 0)))))) then (
          bif (ok_wide_Neg F v1656 v1657) then (
            some (.v (.agg #[.int .i64 ((o_wide_Neg_0 F v1656 v1657)), .int .u64 ((o_wide_Neg_1 F v1656 v1657))])))
          else (
            none))
        else (
          some (.v (.agg #[.int .i64 v1656, .int .u64 v1657]))))
      else (
        none))
    else (
      none))
  else (
    none)
theorem e_wide_Mul (F : Nat) (a0 : Int) (a1 : Int) : funL PP (S_wide_Mul F) c_wide_Mul (I_wide_Mul F) (J_wide_Mul F) 116 (fTs ti_wide_Mul [.i a0, .i a1]).1 = f_wide_Mul F a0 a1 := by
  have h : ∀ (ok_wide_bare : Nat → Int → Bool) (o_wide_bare_0 : Nat → Int → Int) (ok_wide_product : Nat → Int → Int → Bool) (o_wide_product_0 : Nat → Int → Int → Int) (o_wide_product_1 : Nat → Int → Int → Int) (ok_wide_Neg : Nat → Int → Int → Bool) (o_wide_Neg_0 : Nat → Int → Int → Int) (o_wide_Neg_1 : Nat → Int → Int → Int), funL PP (words [(131, spec ti_wide_bare to_wide_bare (fun q => (ok_wide_bare F (atI (nth q 0)))) (fun q => [.i (o_wide_bare_0 F (atI (nth q 0)))])), (130, spec ti_wide_product to_wide_product (fun q => (ok_wide_product F (atI (nth q 0)) (atI (nth q 1)))) (fun q => [.i (o_wide_product_0 F (atI (nth q 0)) (atI (nth q 1))), .i (o_wide_product_1 F (atI (nth q 0)) (atI (nth q 1)))])), (98, spec ti_wide_Neg to_wide_Neg (fun q => (ok_wide_Neg F (atI (nth q 0)) (atI (nth q 1)))) (fun q => [.i (o_wide_Neg_0 F (atI (nth q 0)) (atI (nth q 1))), .i (o_wide_Neg_1 F (atI (nth q 0)) (atI (nth q 1)))]))]) c_wide_Mul (tabI c_wide_Mul []) (tabJ []) 116 (fTs ti_wide_Mul [.i a0, .i a1]).1 = (
  bif (ok_wide_bare F a0) then (
    let v1633 : Int := (o_wide_bare_0 F a0)
    bif (ok_wide_bare F a1) then (
      let v1634 : Int := (o_wide_bare_0 F a1)
      bif (ok_wide_product F v1633 v1634) then (
        let v1656 : Int := (o_wide_product_0 F v1633 v1634)
        let v1657 : Int := (o_wide_product_1 F v1633 v1634)
        bif ((!(((decide (a0 < 0))) == ((decide (a1 < 0)))))) then (
          bif (ok_wide_Neg F v1656 v1657) then (
            some (.v (.agg #[.int .i64 ((o_wide_Neg_0 F v1656 v1657)), .int .u64 ((o_wide_Neg_1 F v1656 v1657))])))
          else (
            none))
        else (
          some (.v (.agg #[.int .i64 v1656, .int .u64 v1657]))))
      else (
        none))
    else (
      none))
  else (
    none) : R) := by
    intros
    kernel_rfl
  exact (h ok_wide_bare o_wide_bare_0 ok_wide_product o_wide_product_0 o_wide_product_1 ok_wide_Neg o_wide_Neg_0 o_wide_Neg_1).trans (by kernel_rfl)
def ok_wide_Mul (F : Nat) (a0 : Int) (a1 : Int) : Bool := okT to_wide_Mul (f_wide_Mul F a0 a1)
def o_wide_Mul_0 (F : Nat) (a0 : Int) (a1 : Int) : Int := atI (nth (outT to_wide_Mul (f_wide_Mul F a0 a1)) 0)
def o_wide_Mul_1 (F : Nat) (a0 : Int) (a1 : Int) : Int := atI (nth (outT to_wide_Mul (f_wide_Mul F a0 a1)) 1)
theorem k_wide_Mul (F : Nat) (a0 : Int) (a1 : Int) {z0 : Int} {z1 : Int} (h : f_wide_Mul F a0 a1 = some (.v (.agg #[.int .i64 z0, .int .u64 z1]))) : ok_wide_Mul F a0 a1 = true ∧ o_wide_Mul_0 F a0 a1 = z0 ∧ o_wide_Mul_1 F a0 a1 = z1 := by
  refine ⟨?_, ?_, ?_⟩
  · unfold ok_wide_Mul; rw [h]; kernel_rfl
  · unfold o_wide_Mul_0; rw [h]; kernel_rfl
  · unfold o_wide_Mul_1; rw [h]; kernel_rfl
def s_wide_Mul (F : Nat) : List VV → Option (Bool × VV) := spec ti_wide_Mul to_wide_Mul (fun q => (ok_wide_Mul F (atI (nth q 0)) (atI (nth q 1)))) (fun q => [.i (o_wide_Mul_0 F (atI (nth q 0)) (atI (nth q 1))), .i (o_wide_Mul_1 F (atI (nth q 0)) (atI (nth q 1)))])
theorem hS_wide_Mul (F : Nat) : ∀ f, Good PP f (unS (S_wide_Mul F f)) := words_good fun p hp => by
  simp only [List.mem_cons, List.not_mem_nil, or_false] at hp
  rcases hp with rfl | rfl | rfl
  · exact g_wide_bare F
  · exact g_wide_product F
  · exact g_wide_Neg F
theorem hl_wide_Mul (F : Nat) : ∀ p ∈ loopsIn PP 116, LoopOK PP (S_wide_Mul F) c_wide_Mul F (I_wide_Mul F) (J_wide_Mul F) p :=
  loops_of [] (by kernel_rfl) all_nil
theorem hj_wide_Mul (F : Nat) : ∀ p ∈ joinsIn PP c_wide_Mul 116, JoinOK PP (S_wide_Mul F) c_wide_Mul (I_wide_Mul F) (J_wide_Mul F) p :=
  joins_of [] (by kernel_rfl) all_nil
theorem g_wide_Mul (F : Nat) : Good PP 116 (unS (s_wide_Mul F)) :=
  fun_spec (hS_wide_Mul F) (by kernel_rfl) (by kernel_rfl) (C := c_wide_Mul) (F := fun q => (f_wide_Mul F (atI (nth q 0)) (atI (nth q 1)))) (fun _ => F) (fun _ => I_wide_Mul F) (fun _ => J_wide_Mul F) (fun _ => hl_wide_Mul F) (fun _ => hj_wide_Mul F)
    (fun q => (congrArg (funL PP (S_wide_Mul F) c_wide_Mul (I_wide_Mul F) (J_wide_Mul F) 116) (show (fTs ti_wide_Mul q).1 = (fTs ti_wide_Mul [.i (atI (nth q 0)), .i (atI (nth q 1))]).1 by kernel_rfl)).trans (e_wide_Mul F (atI (nth q 0)) (atI (nth q 1))))
    (fun _ h => (okT_fill h).trans (congrArg some (by kernel_rfl)))

end Go.Xv
set_option linter.unusedVariables false
namespace Go.Xv
/- 132 _wide_Of -/
def c_wide_Of : Cfg := ⟨[0, 2], [], [], []⟩
def ti_wide_Of : List TV := [.v (.int .i64)]
def to_wide_Of : TV := .v (.agg [.int .i64, .int .u64])
def S_wide_Of (F : Nat) : FuncId → List VV → Option (Bool × VV) := words []
def W_wide_Of (F : Nat) : List LW := []
def I_wide_Of (F : Nat) : Nat → VS → (Exit → VS → R) → R := tabI c_wide_Of (W_wide_Of F)
def WJ_wide_Of (F : Nat) : List LJ := []
def J_wide_Of (F : Nat) : Nat → Nat → VS → (Exit → VS → R) → R := tabJ (WJ_wide_Of F)
def f_wide_Of (F : Nat) (a0 : Int) : R :=
  some (.v (.agg #[.int .i64 ((Int.fdiv a0 (9223372036854775808))), .int .u64 ((IntKind.wrap .u64 a0))]))
theorem e_wide_Of (F : Nat) (a0 : Int) : funL PP (S_wide_Of F) c_wide_Of (I_wide_Of F) (J_wide_Of F) 132 (fTs ti_wide_Of [.i a0]).1 = f_wide_Of F a0 := by
  have h : ∀ (_ : Unit), funL PP (words []) c_wide_Of (tabI c_wide_Of []) (tabJ []) 132 (fTs ti_wide_Of [.i a0]).1 = (
  some (.v (.agg #[.int .i64 ((Int.fdiv a0 (9223372036854775808))), .int .u64 ((IntKind.wrap .u64 a0))])) : R) := by
    intros
    kernel_rfl
  exact (h ()).trans (by kernel_rfl)
def ok_wide_Of (F : Nat) (a0 : Int) : Bool := okT to_wide_Of (f_wide_Of F a0)
def o_wide_Of_0 (F : Nat) (a0 : Int) : Int := atI (nth (outT to_wide_Of (f_wide_Of F a0)) 0)
def o_wide_Of_1 (F : Nat) (a0 : Int) : Int := atI (nth (outT to_wide_Of (f_wide_Of F a0)) 1)
theorem k_wide_Of (F : Nat) (a0 : Int) {z0 : Int} {z1 : Int} (h : f_wide_Of F a0 = some (.v (.agg #[.int .i64 z0, .int .u64 z1]))) : ok_wide_Of F a0 = true ∧ o_wide_Of_0 F a0 = z0 ∧ o_wide_Of_1 F a0 = z1 := by
  refine ⟨?_, ?_, ?_⟩
  · unfold ok_wide_Of; rw [h]; kernel_rfl
  · unfold o_wide_Of_0; rw [h]; kernel_rfl
  · unfold o_wide_Of_1; rw [h]; kernel_rfl
def s_wide_Of (F : Nat) : List VV → Option (Bool × VV) := spec ti_wide_Of to_wide_Of (fun q => (ok_wide_Of F (atI (nth q 0)))) (fun q => [.i (o_wide_Of_0 F (atI (nth q 0))), .i (o_wide_Of_1 F (atI (nth q 0)))])
theorem hS_wide_Of (F : Nat) : ∀ f, Good PP f (unS (S_wide_Of F f)) := words_good fun p hp => by
  cases hp
theorem hl_wide_Of (F : Nat) : ∀ p ∈ loopsIn PP 132, LoopOK PP (S_wide_Of F) c_wide_Of F (I_wide_Of F) (J_wide_Of F) p :=
  loops_of [] (by kernel_rfl) all_nil
theorem hj_wide_Of (F : Nat) : ∀ p ∈ joinsIn PP c_wide_Of 132, JoinOK PP (S_wide_Of F) c_wide_Of (I_wide_Of F) (J_wide_Of F) p :=
  joins_of [] (by kernel_rfl) all_nil
theorem g_wide_Of (F : Nat) : Good PP 132 (unS (s_wide_Of F)) :=
  fun_spec (hS_wide_Of F) (by kernel_rfl) (by kernel_rfl) (C := c_wide_Of) (F := fun q => (f_wide_Of F (atI (nth q 0)))) (fun _ => F) (fun _ => I_wide_Of F) (fun _ => J_wide_Of F) (fun _ => hl_wide_Of F) (fun _ => hj_wide_Of F)
    (fun q => (congrArg (funL PP (S_wide_Of F) c_wide_Of (I_wide_Of F) (J_wide_Of F) 132) (show (fTs ti_wide_Of q).1 = (fTs ti_wide_Of [.i (atI (nth q 0))]).1 by kernel_rfl)).trans (e_wide_Of F (atI (nth q 0))))
    (fun _ h => (okT_fill h).trans (congrArg some (by kernel_rfl)))

end Go.Xv
set_option linter.unusedVariables false
namespace Go.Xv
/- 129 _wide_Right -/
def c_wide_Right : Cfg := ⟨[0, 1, 2, 4, 8], [], [], []⟩
def ti_wide_Right : List TV := [.v (.agg [.int .i64, .int .u64]), .v (.int .i64)]
def to_wide_Right : TV := .v (.agg [.int .i64, .int .u64])
def S_wide_Right (F : Nat) : FuncId → List VV → Option (Bool × VV) := words [(132, s_wide_Of F)]
def W_wide_Right (F : Nat) : List LW := []
def I_wide_Right (F : Nat) : Nat → VS → (Exit → VS → R) → R := tabI c_wide_Right (W_wide_Right F)
def WJ_wide_Right (F : Nat) : List LJ := []
def J_wide_Right (F : Nat) : Nat → Nat → VS → (Exit → VS → R) → R := tabJ (WJ_wide_Right F)
def f_wide_Right (F : Nat) (a0 : Int) (a1 : Int) (a2 : Int) : R :=
  let v1671 : Int := (if 0 > a2 then 0 else a2)
  let v1672 : Int := (if 127 < v1671 then 127 else v1671)
  bif ((decide (v1672 ≥ 64))) then (
    let v1674 : Int := (IntKind.wrap .i64 (v1672 - 64))
    bif (!(decide (v1674 < 0))) then (
      let v1675 : Int := (Int.fdiv a0 (2 ^ (min (Int.toNat v1674) 64)))
      bif (ok_wide_Of F v1675) then (
        some (.v (.agg #[.int .i64 ((o_wide_Of_0 F v1675)), .int .u64 ((o_wide_Of_1 F v1675))])))
      else (
        none))
    else (
      none))
  else (
    bif (!(decide (v1672 < 0))) then (
      bif (!(decide (v1672 < 0))) then (
        let v1683 : Int := (IntKind.wrap .i64 (64 - v1672))
        bif (!(decide (v1683 < 0))) then (
          some (.v (.agg #[.int .i64 ((Int.fdiv a0 (2 ^ (min (Int.toNat v1672) 64)))), .int .u64 ((orI .u64 ((Int.fdiv a1 (2 ^ (min (Int.toNat v1672) 64)))) ((IntKind.wrap .u64 (((IntKind.wrap .u64 a0)) * 2 ^ (min (Int.toNat v1683) 64))))))])))
        else (
          none))
      else (
        none))
    else (
      none))
theorem e_wide_Right (F : Nat) (a0 : Int) (a1 : Int) (a2 : Int) : funL PP (S_wide_Right F) c_wide_Right (I_wide_Right F) (J_wide_Right F) 129 (fTs ti_wide_Right [.i a0, .i a1, .i a2]).1 = f_wide_Right F a0 a1 a2 := by
  have h : ∀ (ok_wide_Of : Nat → Int → Bool) (o_wide_Of_0 : Nat → Int → Int) (o_wide_Of_1 : Nat → Int → Int), funL PP (words [(132, spec ti_wide_Of to_wide_Of (fun q => (ok_wide_Of F (atI (nth q 0)))) (fun q => [.i (o_wide_Of_0 F (atI (nth q 0))), .i (o_wide_Of_1 F (atI (nth q 0)))]))]) c_wide_Right (tabI c_wide_Right []) (tabJ []) 129 (fTs ti_wide_Right [.i a0, .i a1, .i a2]).1 = (
  let v1671 : Int := (if 0 > a2 then 0 else a2)
  let v1672 : Int := (if 127 < v1671 then 127 else v1671)
  bif ((decide (v1672 ≥ 64))) then (
    let v1674 : Int := (IntKind.wrap .i64 (v1672 - 64))
    bif (!(decide (v1674 < 0))) then (
      let v1675 : Int := (Int.fdiv a0 (2 ^ (min (Int.toNat v1674) 64)))
      bif (ok_wide_Of F v1675) then (
        some (.v (.agg #[.int .i64 ((o_wide_Of_0 F v1675)), .int .u64 ((o_wide_Of_1 F v1675))])))
      else (
        none))
    else (
      none))
  else (
    bif (!(decide (v1672 < 0))) then (
      bif (!(decide (v1672 < 0))) then (
        let v1683 : Int := (IntKind.wrap .i64 (64 - v1672))
        bif (!(decide (v1683 < 0))) then (
          some (.v (.agg #[.int .i64 ((Int.fdiv a0 (2 ^ (min (Int.toNat v1672) 64)))), .int .u64 ((orI .u64 ((Int.fdiv a1 (2 ^ (min (Int.toNat v1672) 64)))) ((IntKind.wrap .u64 (((IntKind.wrap .u64 a0)) * 2 ^ (min (Int.toNat v1683) 64))))))])))
        else (
          none))
      else (
        none))
    else (
      none)) : R) := by
    intros
    kernel_rfl
  exact (h ok_wide_Of o_wide_Of_0 o_wide_Of_1).trans (by kernel_rfl)
def ok_wide_Right (F : Nat) (a0 : Int) (a1 : Int) (a2 : Int) : Bool := okT to_wide_Right (f_wide_Right F a0 a1 a2)
def o_wide_Right_0 (F : Nat) (a0 : Int) (a1 : Int) (a2 : Int) : Int := atI (nth (outT to_wide_Right (f_wide_Right F a0 a1 a2)) 0)
def o_wide_Right_1 (F : Nat) (a0 : Int) (a1 : Int) (a2 : Int) : Int := atI (nth (outT to_wide_Right (f_wide_Right F a0 a1 a2)) 1)
theorem k_wide_Right (F : Nat) (a0 : Int) (a1 : Int) (a2 : Int) {z0 : Int} {z1 : Int} (h : f_wide_Right F a0 a1 a2 = some (.v (.agg #[.int .i64 z0, .int .u64 z1]))) : ok_wide_Right F a0 a1 a2 = true ∧ o_wide_Right_0 F a0 a1 a2 = z0 ∧ o_wide_Right_1 F a0 a1 a2 = z1 := by
  refine ⟨?_, ?_, ?_⟩
  · unfold ok_wide_Right; rw [h]; kernel_rfl
  · unfold o_wide_Right_0; rw [h]; kernel_rfl
  · unfold o_wide_Right_1; rw [h]; kernel_rfl
def s_wide_Right (F : Nat) : List VV → Option (Bool × VV) := spec ti_wide_Right to_wide_Right (fun q => (ok_wide_Right F (atI (nth q 0)) (atI (nth q 1)) (atI (nth q 2)))) (fun q => [.i (o_wide_Right_0 F (atI (nth q 0)) (atI (nth q 1)) (atI (nth q 2))), .i (o_wide_Right_1 F (atI (nth q 0)) (atI (nth q 1)) (atI (nth q 2)))])
theorem hS_wide_Right (F : Nat) : ∀ f, Good PP f (unS (S_wide_Right F f)) := words_good fun p hp => by
  simp only [List.mem_cons, List.not_mem_nil, or_false] at hp
  rcases hp with rfl
  · exact g_wide_Of F
theorem hl_wide_Right (F : Nat) : ∀ p ∈ loopsIn PP 129, LoopOK PP (S_wide_Right F) c_wide_Right F (I_wide_Right F) (J_wide_Right F) p :=
  loops_of [] (by kernel_rfl) all_nil
theorem hj_wide_Right (F : Nat) : ∀ p ∈ joinsIn PP c_wide_Right 129, JoinOK PP (S_wide_Right F) c_wide_Right (I_wide_Right F) (J_wide_Right F) p :=
  joins_of [] (by kernel_rfl) all_nil
theorem g_wide_Right (F : Nat) : Good PP 129 (unS (s_wide_Right F)) :=
  fun_spec (hS_wide_Right F) (by kernel_rfl) (by kernel_rfl) (C := c_wide_Right) (F := fun q => (f_wide_Right F (atI (nth q 0)) (atI (nth q 1)) (atI (nth q 2)))) (fun _ => F) (fun _ => I_wide_Right F) (fun _ => J_wide_Right F) (fun _ => hl_wide_Right F) (fun _ => hj_wide_Right F)
    (fun q => (congrArg (funL PP (S_wide_Right F) c_wide_Right (I_wide_Right F) (J_wide_Right F) 129) (show (fTs ti_wide_Right q).1 = (fTs ti_wide_Right [.i (atI (nth q 0)), .i (atI (nth q 1)), .i (atI (nth q 2))]).1 by kernel_rfl)).trans (e_wide_Right F (atI (nth q 0)) (atI (nth q 1)) (atI (nth q 2))))
    (fun _ h => (okT_fill h).trans (congrArg some (by kernel_rfl)))

end Go.Xv
set_option linter.unusedVariables false
namespace Go.Xv
/- 115 _wide_Near -/
def c_wide_Near : Cfg := ⟨[0, 1, 2, 4, 8], [], [12], []⟩
def ti_wide_Near : List TV := [.v (.agg [.int .i64, .int .u64]), .v (.int .i64)]
def to_wide_Near : TV := .v (.agg [.int .i64, .int .u64])
def S_wide_Near (F : Nat) : FuncId → List VV → Option (Bool × VV) := words [(129, s_wide_Right F), (71, s_wide_Add F)]
def W_wide_Near (F : Nat) : List LW := []
def I_wide_Near (F : Nat) : Nat → VS → (Exit → VS → R) → R := tabI c_wide_Near (W_wide_Near F)
def WJ_wide_Near (F : Nat) : List LJ := []
def J_wide_Near (F : Nat) : Nat → Nat → VS → (Exit → VS → R) → R := tabJ (WJ_wide_Near F)
def f_wide_Near (F : Nat) (a0 : Int) (a1 : Int) (a2 : Int) : R :=
  let v1669 : Int := (if 127 < a2 then 127 else a2)
  bif ((decide (v1669 ≤ 0))) then (
    some (.v (.agg #[.int .i64 a0, .int .u64 a1])))
  else (
    bif (ok_wide_Right F a0 a1 v1669) then (
      let v1686 : Int := (o_wide_Right_0 F a0 a1 v1669)
      let v1687 : Int := (o_wide_Right_1 F a0 a1 v1669)
      let v1688 : Int := (IntKind.wrap .i64 (v1669 - 1))
      bif (ok_wide_Right F a0 a1 v1688) then (
        let v1691 : Int := (andI .u64 ((o_wide_Right_1 F a0 a1 v1688)) 1)
        bif (ok_wide_Add F v1686 v1687 0 v1691) then (
          some (.v (.agg #[.int .i64 ((o_wide_Add_0 F v1686 v1687 0 v1691)), .int .u64 ((o_wide_Add_1 F v1686 v1687 0 v1691))])))
        else (
          none))
      else (
        none))
    else (
      none))
theorem e_wide_Near (F : Nat) (a0 : Int) (a1 : Int) (a2 : Int) : funL PP (S_wide_Near F) c_wide_Near (I_wide_Near F) (J_wide_Near F) 115 (fTs ti_wide_Near [.i a0, .i a1, .i a2]).1 = f_wide_Near F a0 a1 a2 := by
  have h : ∀ (ok_wide_Right : Nat → Int → Int → Int → Bool) (o_wide_Right_0 : Nat → Int → Int → Int → Int) (o_wide_Right_1 : Nat → Int → Int → Int → Int) (ok_wide_Add : Nat → Int → Int → Int → Int → Bool) (o_wide_Add_0 : Nat → Int → Int → Int → Int → Int) (o_wide_Add_1 : Nat → Int → Int → Int → Int → Int), funL PP (words [(129, spec ti_wide_Right to_wide_Right (fun q => (ok_wide_Right F (atI (nth q 0)) (atI (nth q 1)) (atI (nth q 2)))) (fun q => [.i (o_wide_Right_0 F (atI (nth q 0)) (atI (nth q 1)) (atI (nth q 2))), .i (o_wide_Right_1 F (atI (nth q 0)) (atI (nth q 1)) (atI (nth q 2)))])), (71, spec ti_wide_Add to_wide_Add (fun q => (ok_wide_Add F (atI (nth q 0)) (atI (nth q 1)) (atI (nth q 2)) (atI (nth q 3)))) (fun q => [.i (o_wide_Add_0 F (atI (nth q 0)) (atI (nth q 1)) (atI (nth q 2)) (atI (nth q 3))), .i (o_wide_Add_1 F (atI (nth q 0)) (atI (nth q 1)) (atI (nth q 2)) (atI (nth q 3)))]))]) c_wide_Near (tabI c_wide_Near []) (tabJ []) 115 (fTs ti_wide_Near [.i a0, .i a1, .i a2]).1 = (
  let v1669 : Int := (if 127 < a2 then 127 else a2)
  bif ((decide (v1669 ≤ 0))) then (
    some (.v (.agg #[.int .i64 a0, .int .u64 a1])))
  else (
    bif (ok_wide_Right F a0 a1 v1669) then (
      let v1686 : Int := (o_wide_Right_0 F a0 a1 v1669)
      let v1687 : Int := (o_wide_Right_1 F a0 a1 v1669)
      let v1688 : Int := (IntKind.wrap .i64 (v1669 - 1))
      bif (ok_wide_Right F a0 a1 v1688) then (
        let v1691 : Int := (andI .u64 ((o_wide_Right_1 F a0 a1 v1688)) 1)
        bif (ok_wide_Add F v1686 v1687 0 v1691) then (
          some (.v (.agg #[.int .i64 ((o_wide_Add_0 F v1686 v1687 0 v1691)), .int .u64 ((o_wide_Add_1 F v1686 v1687 0 v1691))])))
        else (
          none))
      else (
        none))
    else (
      none)) : R) := by
    intros
    kernel_rfl
  exact (h ok_wide_Right o_wide_Right_0 o_wide_Right_1 ok_wide_Add o_wide_Add_0 o_wide_Add_1).trans (by kernel_rfl)
def ok_wide_Near (F : Nat) (a0 : Int) (a1 : Int) (a2 : Int) : Bool := okT to_wide_Near (f_wide_Near F a0 a1 a2)
def o_wide_Near_0 (F : Nat) (a0 : Int) (a1 : Int) (a2 : Int) : Int := atI (nth (outT to_wide_Near (f_wide_Near F a0 a1 a2)) 0)
def o_wide_Near_1 (F : Nat) (a0 : Int) (a1 : Int) (a2 : Int) : Int := atI (nth (outT to_wide_Near (f_wide_Near F a0 a1 a2)) 1)
theorem k_wide_Near (F : Nat) (a0 : Int) (a1 : Int) (a2 : Int) {z0 : Int} {z1 : Int} (h : f_wide_Near F a0 a1 a2 = some (.v (.agg #[.int .i64 z0, .int .u64 z1]))) : ok_wide_Near F a0 a1 a2 = true ∧ o_wide_Near_0 F a0 a1 a2 = z0 ∧ o_wide_Near_1 F a0 a1 a2 = z1 := by
  refine ⟨?_, ?_, ?_⟩
  · unfold ok_wide_Near; rw [h]; kernel_rfl
  · unfold o_wide_Near_0; rw [h]; kernel_rfl
  · unfold o_wide_Near_1; rw [h]; kernel_rfl
def s_wide_Near (F : Nat) : List VV → Option (Bool × VV) := spec ti_wide_Near to_wide_Near (fun q => (ok_wide_Near F (atI (nth q 0)) (atI (nth q 1)) (atI (nth q 2)))) (fun q => [.i (o_wide_Near_0 F (atI (nth q 0)) (atI (nth q 1)) (atI (nth q 2))), .i (o_wide_Near_1 F (atI (nth q 0)) (atI (nth q 1)) (atI (nth q 2)))])
theorem hS_wide_Near (F : Nat) : ∀ f, Good PP f (unS (S_wide_Near F f)) := words_good fun p hp => by
  simp only [List.mem_cons, List.not_mem_nil, or_false] at hp
  rcases hp with rfl | rfl
  · exact g_wide_Right F
  · exact g_wide_Add F
theorem hl_wide_Near (F : Nat) : ∀ p ∈ loopsIn PP 115, LoopOK PP (S_wide_Near F) c_wide_Near F (I_wide_Near F) (J_wide_Near F) p :=
  loops_of [] (by kernel_rfl) all_nil
theorem hj_wide_Near (F : Nat) : ∀ p ∈ joinsIn PP c_wide_Near 115, JoinOK PP (S_wide_Near F) c_wide_Near (I_wide_Near F) (J_wide_Near F) p :=
  joins_of [] (by kernel_rfl) all_nil
theorem g_wide_Near (F : Nat) : Good PP 115 (unS (s_wide_Near F)) :=
  fun_spec (hS_wide_Near F) (by kernel_rfl) (by kernel_rfl) (C := c_wide_Near) (F := fun q => (f_wide_Near F (atI (nth q 0)) (atI (nth q 1)) (atI (nth q 2)))) (fun _ => F) (fun _ => I_wide_Near F) (fun _ => J_wide_Near F) (fun _ => hl_wide_Near F) (fun _ => hj_wide_Near F)
    (fun q => (congrArg (funL PP (S_wide_Near F) c_wide_Near (I_wide_Near F) (J_wide_Near F) 115) (show (fTs ti_wide_Near q).1 = (fTs ti_wide_Near [.i (atI (nth q 0)), .i (atI (nth q 1)), .i (atI (nth q 2))]).1 by kernel_rfl)).trans (e_wide_Near F (atI (nth q 0)) (atI (nth q 1)) (atI (nth q 2))))
    (fun _ h => (okT_fill h).trans (congrArg some (by kernel_rfl)))

end Go.Xv
set_option linter.unusedVariables false
namespace Go.Xv
/- 117 _wide_Clip -/
def c_wide_Clip : Cfg := ⟨[0, 1, 2, 3, 4, 8, 14], [], [], []⟩
def ti_wide_Clip : List TV := [.v (.agg [.int .i64, .int .u64])]
def to_wide_Clip : TV := .v (.tup [.int .i64, .bool])
def S_wide_Clip (F : Nat) : FuncId → List VV → Option (Bool × VV) := words [(132, s_wide_Of F)]
def W_wide_Clip (F : Nat) : List LW := []
def I_wide_Clip (F : Nat) : Nat → VS → (Exit → VS → R) → R := tabI c_wide_Clip (W_wide_Clip F)
def WJ_wide_Clip (F : Nat) : List LJ := []
def J_wide_Clip (F : Nat) : Nat → Nat → VS → (Exit → VS → R) → R := tabJ (WJ_wide_Clip F)
def f_wide_Clip (F : Nat) (a0 : Int) (a1 : Int) : R :=
  let v1718 : Int := (IntKind.wrap .i64 a1)
  bif (ok_wide_Of F v1718) then (
    bif (((((o_wide_Of_0 F v1718)) == a0) && (((o_wide_Of_1 F v1718)) == a1))) then (
      some (.v (.tuple #[.int .i64 v1718, .bool false])))
    else (
      bif ((decide (a0 < 0))) then (
        some (.v (.tuple #[.int .i64 (-9223372036854775808), .bool true])))
      else (
        some (.v (.tuple #[.int .i64 9223372036854775807, .bool true])))))
  else (
    none)
theorem e_wide_Clip (F : Nat) (a0 : Int) (a1 : Int) : funL PP (S_wide_Clip F) c_wide_Clip (I_wide_Clip F) (J_wide_Clip F) 117 (fTs ti_wide_Clip [.i a0, .i a1]).1 = f_wide_Clip F a0 a1 := by
  have h : ∀ (ok_wide_Of : Nat → Int → Bool) (o_wide_Of_0 : Nat → Int → Int) (o_wide_Of_1 : Nat → Int → Int), funL PP (words [(132, spec ti_wide_Of to_wide_Of (fun q => (ok_wide_Of F (atI (nth q 0)))) (fun q => [.i (o_wide_Of_0 F (atI (nth q 0))), .i (o_wide_Of_1 F (atI (nth q 0)))]))]) c_wide_Clip (tabI c_wide_Clip []) (tabJ []) 117 (fTs ti_wide_Clip [.i a0, .i a1]).1 = (
  let v1718 : Int := (IntKind.wrap .i64 a1)
  bif (ok_wide_Of F v1718) then (
    bif (((((o_wide_Of_0 F v1718)) == a0) && (((o_wide_Of_1 F v1718)) == a1))) then (
      some (.v (.tuple #[.int .i64 v1718, .bool false])))
    else (
      bif ((decide (a0 < 0))) then (
        some (.v (.tuple #[.int .i64 (-9223372036854775808), .bool true])))
      else (
        some (.v (.tuple #[.int .i64 9223372036854775807, .bool true])))))
  else (
    none) : R) := by
    intros
    kernel_rfl
  exact (h ok_wide_Of o_wide_Of_0 o_wide_Of_1).trans (by kernel_rfl)
def ok_wide_Clip (F : Nat) (a0 : Int) (a1 : Int) : Bool := okT to_wide_Clip (f_wide_Clip F a0 a1)
def o_wide_Clip_0 (F : Nat) (a0 : Int) (a1 : Int) : Int := atI (nth (outT to_wide_Clip (f_wide_Clip F a0 a1)) 0)
def o_wide_Clip_1 (F : Nat) (a0 : Int) (a1 : Int) : Bool := atB (nth (outT to_wide_Clip (f_wide_Clip F a0 a1)) 1)
theorem k_wide_Clip (F : Nat) (a0 : Int) (a1 : Int) {z0 : Int} {z1 : Bool} (h : f_wide_Clip F a0 a1 = some (.v (.tuple #[.int .i64 z0, .bool z1]))) : ok_wide_Clip F a0 a1 = true ∧ o_wide_Clip_0 F a0 a1 = z0 ∧ o_wide_Clip_1 F a0 a1 = z1 := by
  refine ⟨?_, ?_, ?_⟩
  · unfold ok_wide_Clip; rw [h]; kernel_rfl
  · unfold o_wide_Clip_0; rw [h]; kernel_rfl
  · unfold o_wide_Clip_1; rw [h]; kernel_rfl
def s_wide_Clip (F : Nat) : List VV → Option (Bool × VV) := spec ti_wide_Clip to_wide_Clip (fun q => (ok_wide_Clip F (atI (nth q 0)) (atI (nth q 1)))) (fun q => [.i (o_wide_Clip_0 F (atI (nth q 0)) (atI (nth q 1))), .b (o_wide_Clip_1 F (atI (nth q 0)) (atI (nth q 1)))])
theorem hS_wide_Clip (F : Nat) : ∀ f, Good PP f (unS (S_wide_Clip F f)) := words_good fun p hp => by
  simp only [List.mem_cons, List.not_mem_nil, or_false] at hp
  rcases hp with rfl
  · exact g_wide_Of F
theorem hl_wide_Clip (F : Nat) : ∀ p ∈ loopsIn PP 117, LoopOK PP (S_wide_Clip F) c_wide_Clip F (I_wide_Clip F) (J_wide_Clip F) p :=
  loops_of [] (by kernel_rfl) all_nil
theorem hj_wide_Clip (F : Nat) : ∀ p ∈ joinsIn PP c_wide_Clip 117, JoinOK PP (S_wide_Clip F) c_wide_Clip (I_wide_Clip F) (J_wide_Clip F) p :=
  joins_of [] (by kernel_rfl) all_nil
theorem g_wide_Clip (F : Nat) : Good PP 117 (unS (s_wide_Clip F)) :=
  fun_spec (hS_wide_Clip F) (by kernel_rfl) (by kernel_rfl) (C := c_wide_Clip) (F := fun q => (f_wide_Clip F (atI (nth q 0)) (atI (nth q 1)))) (fun _ => F) (fun _ => I_wide_Clip F) (fun _ => J_wide_Clip F) (fun _ => hl_wide_Clip F) (fun _ => hj_wide_Clip F)
    (fun q => (congrArg (funL PP (S_wide_Clip F) c_wide_Clip (I_wide_Clip F) (J_wide_Clip F) 117) (show (fTs ti_wide_Clip q).1 = (fTs ti_wide_Clip [.i (atI (nth q 0)), .i (atI (nth q 1))]).1 by kernel_rfl)).trans (e_wide_Clip F (atI (nth q 0)) (atI (nth q 1))))
    (fun _ h => (okT_fill h).trans (congrArg some (by kernel_rfl)))

end Go.Xv
set_option linter.unusedVariables false
namespace Go.Xv
/- 92 _fix_Clamp -/
def c_fix_Clamp : Cfg := ⟨[0, 1, 2, 6, 7, 8, 11], [], [], []⟩
def ti_fix_Clamp : List TV := [.v (.int .i64), .v (.int .i64), .v (.int .i64)]
def to_fix_Clamp : TV := .v (.tup [.int .i64, .bool])
def S_fix_Clamp (F : Nat) : FuncId → List VV → Option (Bool × VV) := words []
def W_fix_Clamp (F : Nat) : List LW := []
def I_fix_Clamp (F : Nat) : Nat → VS → (Exit → VS → R) → R := tabI c_fix_Clamp (W_fix_Clamp F)
def WJ_fix_Clamp (F : Nat) : List LJ := []
def J_fix_Clamp (F : Nat) : Nat → Nat → VS → (Exit → VS → R) → R := tabJ (WJ_fix_Clamp F)
def f_fix_Clamp (F : Nat) (a0 : Int) (a1 : Int) (a2 : Int) : R :=
  bif ((decide (a2 < a1))) then (
    some (.v (.tuple #[.int .i64 a1, .bool true])))
  else (
    let v123 : Int := (if a1 > a0 then a1 else a0)
    let v124 : Int := (if a2 < v123 then a2 else v123)
    some (.v (.tuple #[.int .i64 v124, .bool ((v124 != a0))])))
theorem e_fix_Clamp (F : Nat) (a0 : Int) (a1 : Int) (a2 : Int) : funL PP (S_fix_Clamp F) c_fix_Clamp (I_fix_Clamp F) (J_fix_Clamp F) 92 (fTs ti_fix_Clamp [.i a0, .i a1, .i a2]).1 = f_fix_Clamp F a0 a1 a2 := by
  have h : ∀ (_ : Unit), funL PP (words []) c_fix_Clamp (tabI c_fix_Clamp []) (tabJ []) 92 (fTs ti_fix_Clamp [.i a0, .i a1, .i a2]).1 = (
  bif ((decide (a2 < a1))) then (
    some (.v (.tuple #[.int .i64 a1, .bool true])))
  else (
    let v123 : Int := (if a1 > a0 then a1 else a0)
    let v124 : Int := (if a2 < v123 then a2 else v123)
    some (.v (.tuple #[.int .i64 v124, .bool ((v124 != a0))]))) : R) := by
    intros
    kernel_rfl
  exact (h ()).trans (by kernel_rfl)
def ok_fix_Clamp (F : Nat) (a0 : Int) (a1 : Int) (a2 : Int) : Bool := okT to_fix_Clamp (f_fix_Clamp F a0 a1 a2)
def o_fix_Clamp_0 (F : Nat) (a0 : Int) (a1 : Int) (a2 : Int) : Int := atI (nth (outT to_fix_Clamp (f_fix_Clamp F a0 a1 a2)) 0)
def o_fix_Clamp_1 (F : Nat) (a0 : Int) (a1 : Int) (a2 : Int) : Bool := atB (nth (outT to_fix_Clamp (f_fix_Clamp F a0 a1 a2)) 1)
theorem k_fix_Clamp (F : Nat) (a0 : Int) (a1 : Int) (a2 : Int) {z0 : Int} {z1 : Bool} (h : f_fix_Clamp F a0 a1 a2 = some (.v (.tuple #[.int .i64 z0, .bool z1]))) : ok_fix_Clamp F a0 a1 a2 = true ∧ o_fix_Clamp_0 F a0 a1 a2 = z0 ∧ o_fix_Clamp_1 F a0 a1 a2 = z1 := by
  refine ⟨?_, ?_, ?_⟩
  · unfold ok_fix_Clamp; rw [h]; kernel_rfl
  · unfold o_fix_Clamp_0; rw [h]; kernel_rfl
  · unfold o_fix_Clamp_1; rw [h]; kernel_rfl
def s_fix_Clamp (F : Nat) : List VV → Option (Bool × VV) := spec ti_fix_Clamp to_fix_Clamp (fun q => (ok_fix_Clamp F (atI (nth q 0)) (atI (nth q 1)) (atI (nth q 2)))) (fun q => [.i (o_fix_Clamp_0 F (atI (nth q 0)) (atI (nth q 1)) (atI (nth q 2))), .b (o_fix_Clamp_1 F (atI (nth q 0)) (atI (nth q 1)) (atI (nth q 2)))])
theorem hS_fix_Clamp (F : Nat) : ∀ f, Good PP f (unS (S_fix_Clamp F f)) := words_good fun p hp => by
  cases hp
theorem hl_fix_Clamp (F : Nat) : ∀ p ∈ loopsIn PP 92, LoopOK PP (S_fix_Clamp F) c_fix_Clamp F (I_fix_Clamp F) (J_fix_Clamp F) p :=
  loops_of [] (by kernel_rfl) all_nil
theorem hj_fix_Clamp (F : Nat) : ∀ p ∈ joinsIn PP c_fix_Clamp 92, JoinOK PP (S_fix_Clamp F) c_fix_Clamp (I_fix_Clamp F) (J_fix_Clamp F) p :=
  joins_of [] (by kernel_rfl) all_nil
theorem g_fix_Clamp (F : Nat) : Good PP 92 (unS (s_fix_Clamp F)) :=
  fun_spec (hS_fix_Clamp F) (by kernel_rfl) (by kernel_rfl) (C := c_fix_Clamp) (F := fun q => (f_fix_Clamp F (atI (nth q 0)) (atI (nth q 1)) (atI (nth q 2)))) (fun _ => F) (fun _ => I_fix_Clamp F) (fun _ => J_fix_Clamp F) (fun _ => hl_fix_Clamp F) (fun _ => hj_fix_Clamp F)
    (fun q => (congrArg (funL PP (S_fix_Clamp F) c_fix_Clamp (I_fix_Clamp F) (J_fix_Clamp F) 92) (show (fTs ti_fix_Clamp q).1 = (fTs ti_fix_Clamp [.i (atI (nth q 0)), .i (atI (nth q 1)), .i (atI (nth q 2))]).1 by kernel_rfl)).trans (e_fix_Clamp F (atI (nth q 0)) (atI (nth q 1)) (atI (nth q 2))))
    (fun _ h => (okT_fill h).trans (congrArg some (by kernel_rfl)))

end Go.Xv
set_option linter.unusedVariables false
namespace Go.Xv
/- 124 _fix_Sub -/
def c_fix_Sub : Cfg := ⟨[0, 1, 4, 5, 6, 17, 20], [], [], []⟩
def ti_fix_Sub : List TV := [.v (.int .i64), .v (.int .i64)]
def to_fix_Sub : TV := .v (.tup [.int .i64, .bool])
def S_fix_Sub (F : Nat) : FuncId → List VV → Option (Bool × VV) := words []
def W_fix_Sub (F : Nat) : List LW := []
def I_fix_Sub (F : Nat) : Nat → VS → (Exit → VS → R) → R := tabI c_fix_Sub (W_fix_Sub F)
def WJ_fix_Sub (F : Nat) : List LJ := []
def J_fix_Sub (F : Nat) : Nat → Nat → VS → (Exit → VS → R) → R := tabJ (WJ_fix_Sub F)
def f_fix_Sub (F : Nat) (a0 : Int) (a1 : Int) : R :=
  let v288 : Int := (IntKind.wrap .i64 (a0 - a1))
  bif ((decide (((andI .i64 ((xorI .i64 a0 a1)) ((xorI .i64 a0 v288)))) ≥ 0))) then (
    some (.v (.tuple #[.int .i64 v288, .bool false])))
  else (
    bif ((decide (a0 < 0))) then (
      some (.v (.tuple #[.int .i64 (-9223372036854775808), .bool true])))
    else (
      some (.v (.tuple #[.int .i64 9223372036854775807, .bool true]))))
theorem e_fix_Sub (F : Nat) (a0 : Int) (a1 : Int) : funL PP (S_fix_Sub F) c_fix_Sub (I_fix_Sub F) (J_fix_Sub F) 124 (fTs ti_fix_Sub [.i a0, .i a1]).1 = f_fix_Sub F a0 a1 := by
  have h : ∀ (_ : Unit), funL PP (words []) c_fix_Sub (tabI c_fix_Sub []) (tabJ []) 124 (fTs ti_fix_Sub [.i a0, .i a1]).1 = (
  let v288 : Int := (IntKind.wrap .i64 (a0 - a1))
  bif ((decide (((andI .i64 ((xorI .i64 a0 a1)) ((xorI .i64 a0 v288)))) ≥ 0))) then (
    some (.v (.tuple #[.int .i64 v288, .bool false])))
  else (
    bif ((decide (a0 < 0))) then (
      some (.v (.tuple #[.int .i64 (-9223372036854775808), .bool true])))
    else (
      some (.v (.tuple #[.int .i64 9223372036854775807, .bool true])))) : R) := by
    intros
    kernel_rfl
  exact (h ()).trans (by kernel_rfl)
def ok_fix_Sub (F : Nat) (a0 : Int) (a1 : Int) : Bool := okT to_fix_Sub (f_fix_Sub F a0 a1)
def o_fix_Sub_0 (F : Nat) (a0 : Int) (a1 : Int) : Int := atI (nth (outT to_fix_Sub (f_fix_Sub F a0 a1)) 0)
def o_fix_Sub_1 (F : Nat) (a0 : Int) (a1 : Int) : Bool := atB (nth (outT to_fix_Sub (f_fix_Sub F a0 a1)) 1)
theorem k_fix_Sub (F : Nat) (a0 : Int) (a1 : Int) {z0 : Int} {z1 : Bool} (h : f_fix_Sub F a0 a1 = some (.v (.tuple #[.int .i64 z0, .bool z1]))) : ok_fix_Sub F a0 a1 = true ∧ o_fix_Sub_0 F a0 a1 = z0 ∧ o_fix_Sub_1 F a0 a1 = z1 := by
  refine ⟨?_, ?_, ?_⟩
  · unfold ok_fix_Sub; rw [h]; kernel_rfl
  · unfold o_fix_Sub_0; rw [h]; kernel_rfl
  · unfold o_fix_Sub_1; rw [h]; kernel_rfl
def s_fix_Sub (F : Nat) : List VV → Option (Bool × VV) := spec ti_fix_Sub to_fix_Sub (fun q => (ok_fix_Sub F (atI (nth q 0)) (atI (nth q 1)))) (fun q => [.i (o_fix_Sub_0 F (atI (nth q 0)) (atI (nth q 1))), .b (o_fix_Sub_1 F (atI (nth q 0)) (atI (nth q 1)))])
theorem hS_fix_Sub (F : Nat) : ∀ f, Good PP f (unS (S_fix_Sub F f)) := words_good fun p hp => by
  cases hp
theorem hl_fix_Sub (F : Nat) : ∀ p ∈ loopsIn PP 124, LoopOK PP (S_fix_Sub F) c_fix_Sub F (I_fix_Sub F) (J_fix_Sub F) p :=
  loops_of [] (by kernel_rfl) all_nil
theorem hj_fix_Sub (F : Nat) : ∀ p ∈ joinsIn PP c_fix_Sub 124, JoinOK PP (S_fix_Sub F) c_fix_Sub (I_fix_Sub F) (J_fix_Sub F) p :=
  joins_of [] (by kernel_rfl) all_nil
theorem g_fix_Sub (F : Nat) : Good PP 124 (unS (s_fix_Sub F)) :=
  fun_spec (hS_fix_Sub F) (by kernel_rfl) (by kernel_rfl) (C := c_fix_Sub) (F := fun q => (f_fix_Sub F (atI (nth q 0)) (atI (nth q 1)))) (fun _ => F) (fun _ => I_fix_Sub F) (fun _ => J_fix_Sub F) (fun _ => hl_fix_Sub F) (fun _ => hj_fix_Sub F)
    (fun q => (congrArg (funL PP (S_fix_Sub F) c_fix_Sub (I_fix_Sub F) (J_fix_Sub F) 124) (show (fTs ti_fix_Sub q).1 = (fTs ti_fix_Sub [.i (atI (nth q 0)), .i (atI (nth q 1))]).1 by kernel_rfl)).trans (e_fix_Sub F (atI (nth q 0)) (atI (nth q 1))))
    (fun _ h => (okT_fill h).trans (congrArg some (by kernel_rfl)))

end Go.Xv
set_option linter.unusedVariables false
namespace Go.Xv
/- 113 _fix_Neg -/
def c_fix_Neg : Cfg := ⟨[0, 2, 3], [], [], []⟩
def ti_fix_Neg : List TV := [.v (.int .i64)]
def to_fix_Neg : TV := .v (.tup [.int .i64, .bool])
def S_fix_Neg (F : Nat) : FuncId → List VV → Option (Bool × VV) := words [(124, s_fix_Sub F)]
def W_fix_Neg (F : Nat) : List LW := []
def I_fix_Neg (F : Nat) : Nat → VS → (Exit → VS → R) → R := tabI c_fix_Neg (W_fix_Neg F)
def WJ_fix_Neg (F : Nat) : List LJ := []
def J_fix_Neg (F : Nat) : Nat → Nat → VS → (Exit → VS → R) → R := tabJ (WJ_fix_Neg F)
def f_fix_Neg (F : Nat) (a0 : Int) : R :=
  bif (ok_fix_Sub F 0 a0) then (
    some (.v (.tuple #[.int .i64 ((o_fix_Sub_0 F 0 a0)), .bool ((o_fix_Sub_1 F 0 a0))])))
  else (
    none)
theorem e_fix_Neg (F : Nat) (a0 : Int) : funL PP (S_fix_Neg F) c_fix_Neg (I_fix_Neg F) (J_fix_Neg F) 113 (fTs ti_fix_Neg [.i a0]).1 = f_fix_Neg F a0 := by
  have h : ∀ (ok_fix_Sub : Nat → Int → Int → Bool) (o_fix_Sub_0 : Nat → Int → Int → Int) (o_fix_Sub_1 : Nat → Int → Int → Bool), funL PP (words [(124, spec ti_fix_Sub to_fix_Sub (fun q => (ok_fix_Sub F (atI (nth q 0)) (atI (nth q 1)))) (fun q => [.i (o_fix_Sub_0 F (atI (nth q 0)) (atI (nth q 1))), .b (o_fix_Sub_1 F (atI (nth q 0)) (atI (nth q 1)))]))]) c_fix_Neg (tabI c_fix_Neg []) (tabJ []) 113 (fTs ti_fix_Neg [.i a0]).1 = (
  bif (ok_fix_Sub F 0 a0) then (
    some (.v (.tuple #[.int .i64 ((o_fix_Sub_0 F 0 a0)), .bool ((o_fix_Sub_1 F 0 a0))])))
  else (
    none) : R) := by
    intros
    kernel_rfl
  exact (h ok_fix_Sub o_fix_Sub_0 o_fix_Sub_1).trans (by kernel_rfl)
def ok_fix_Neg (F : Nat) (a0 : Int) : Bool := okT to_fix_Neg (f_fix_Neg F a0)
def o_fix_Neg_0 (F : Nat) (a0 : Int) : Int := atI (nth (outT to_fix_Neg (f_fix_Neg F a0)) 0)
def o_fix_Neg_1 (F : Nat) (a0 : Int) : Bool := atB (nth (outT to_fix_Neg (f_fix_Neg F a0)) 1)
theorem k_fix_Neg (F : Nat) (a0 : Int) {z0 : Int} {z1 : Bool} (h : f_fix_Neg F a0 = some (.v (.tuple #[.int .i64 z0, .bool z1]))) : ok_fix_Neg F a0 = true ∧ o_fix_Neg_0 F a0 = z0 ∧ o_fix_Neg_1 F a0 = z1 := by
  refine ⟨?_, ?_, ?_⟩
  · unfold ok_fix_Neg; rw [h]; kernel_rfl
  · unfold o_fix_Neg_0; rw [h]; kernel_rfl
  · unfold o_fix_Neg_1; rw [h]; kernel_rfl
def s_fix_Neg (F : Nat) : List VV → Option (Bool × VV) := spec ti_fix_Neg to_fix_Neg (fun q => (ok_fix_Neg F (atI (nth q 0)))) (fun q => [.i (o_fix_Neg_0 F (atI (nth q 0))), .b (o_fix_Neg_1 F (atI (nth q 0)))])
theorem hS_fix_Neg (F : Nat) : ∀ f, Good PP f (unS (S_fix_Neg F f)) := words_good fun p hp => by
  simp only [List.mem_cons, List.not_mem_nil, or_false] at hp
  rcases hp with rfl
  · exact g_fix_Sub F
theorem hl_fix_Neg (F : Nat) : ∀ p ∈ loopsIn PP 113, LoopOK PP (S_fix_Neg F) c_fix_Neg F (I_fix_Neg F) (J_fix_Neg F) p :=
  loops_of [] (by kernel_rfl) all_nil
theorem hj_fix_Neg (F : Nat) : ∀ p ∈ joinsIn PP c_fix_Neg 113, JoinOK PP (S_fix_Neg F) c_fix_Neg (I_fix_Neg F) (J_fix_Neg F) p :=
  joins_of [] (by kernel_rfl) all_nil
theorem g_fix_Neg (F : Nat) : Good PP 113 (unS (s_fix_Neg F)) :=
  fun_spec (hS_fix_Neg F) (by kernel_rfl) (by kernel_rfl) (C := c_fix_Neg) (F := fun q => (f_fix_Neg F (atI (nth q 0)))) (fun _ => F) (fun _ => I_fix_Neg F) (fun _ => J_fix_Neg F) (fun _ => hl_fix_Neg F) (fun _ => hj_fix_Neg F)
    (fun q => (congrArg (funL PP (S_fix_Neg F) c_fix_Neg (I_fix_Neg F) (J_fix_Neg F) 113) (show (fTs ti_fix_Neg q).1 = (fTs ti_fix_Neg [.i (atI (nth q 0))]).1 by kernel_rfl)).trans (e_fix_Neg F (atI (nth q 0))))
    (fun _ h => (okT_fill h).trans (congrArg some (by kernel_rfl)))

end Go.Xv
set_option linter.unusedVariables false
namespace Go.Xv
/- 76 _turn_angles -/
def c_turn_angles : Cfg := ⟨[0], [], [], []⟩
def ti_turn_angles : List TV := []
def to_turn_angles : TV := .v (.agg [.int .i64, .int .i64, .int .i64, .int .i64, .int .i64, .int .i64, .int .i64, .int .i64, .int .i64, .int .i64, .int .i64, .int .i64, .int .i64, .int .i64, .int .i64, .int .i64, .int .i64, .int .i64, .int .i64, .int .i64, .int .i64, .int .i64, .int .i64, .int .i64, .int .i64, .int .i64, .int .i64, .int .i64, .int .i64, .int .i64])
def S_turn_angles (F : Nat) : FuncId → List VV → Option (Bool × VV) := words []
def W_turn_angles (F : Nat) : List LW := []
def I_turn_angles (F : Nat) : Nat → VS → (Exit → VS → R) → R := tabI c_turn_angles (W_turn_angles F)
def WJ_turn_angles (F : Nat) : List LJ := []
def J_turn_angles (F : Nat) : Nat → Nat → VS → (Exit → VS → R) → R := tabJ (WJ_turn_angles F)
def f_turn_angles (F : Nat) : R :=
  some (.v (.agg #[.int .i64 536870912, .int .i64 316933406, .int .i64 167458907, .int .i64 85004756, .int .i64 42667331, .int .i64 21354465, .int .i64 10679838, .int .i64 5340245, .int .i64 2670163, .int .i64 1335087, .int .i64 667544, .int .i64 333772, .int .i64 166886, .int .i64 83443, .int .i64 41722, .int .i64 20861, .int .i64 10430, .int .i64 5215, .int .i64 2608, .int .i64 1304, .int .i64 652, .int .i64 326, .int .i64 163, .int .i64 81, .int .i64 41, .int .i64 20, .int .i64 10, .int .i64 5, .int .i64 3, .int .i64 1]))
theorem e_turn_angles (F : Nat) : funL PP (S_turn_angles F) c_turn_angles (I_turn_angles F) (J_turn_angles F) 76 (fTs ti_turn_angles []).1 = f_turn_angles F := by
  have h : ∀ (_ : Unit), funL PP (words []) c_turn_angles (tabI c_turn_angles []) (tabJ []) 76 (fTs ti_turn_angles []).1 = (
  some (.v (.agg #[.int .i64 536870912, .int .i64 316933406, .int .i64 167458907, .int .i64 85004756, .int .i64 42667331, .int .i64 21354465, .int .i64 10679838, .int .i64 5340245, .int .i64 2670163, .int .i64 1335087, .int .i64 667544, .int .i64 333772, .int .i64 166886, .int .i64 83443, .int .i64 41722, .int .i64 20861, .int .i64 10430, .int .i64 5215, .int .i64 2608, .int .i64 1304, .int .i64 652, .int .i64 326, .int .i64 163, .int .i64 81, .int .i64 41, .int .i64 20, .int .i64 10, .int .i64 5, .int .i64 3, .int .i64 1])) : R) := by
    intros
    kernel_rfl
  exact (h ()).trans (by kernel_rfl)
def ok_turn_angles (F : Nat) : Bool := okT to_turn_angles (f_turn_angles F)
def o_turn_angles_0 (F : Nat) : Int := atI (nth (outT to_turn_angles (f_turn_angles F)) 0)
def o_turn_angles_1 (F : Nat) : Int := atI (nth (outT to_turn_angles (f_turn_angles F)) 1)
def o_turn_angles_2 (F : Nat) : Int := atI (nth (outT to_turn_angles (f_turn_angles F)) 2)
def o_turn_angles_3 (F : Nat) : Int := atI (nth (outT to_turn_angles (f_turn_angles F)) 3)
def o_turn_angles_4 (F : Nat) : Int := atI (nth (outT to_turn_angles (f_turn_angles F)) 4)
def o_turn_angles_5 (F : Nat) : Int := atI (nth (outT to_turn_angles (f_turn_angles F)) 5)
def o_turn_angles_6 (F : Nat) : Int := atI (nth (outT to_turn_angles (f_turn_angles F)) 6)
def o_turn_angles_7 (F : Nat) : Int := atI (nth (outT to_turn_angles (f_turn_angles F)) 7)
def o_turn_angles_8 (F : Nat) : Int := atI (nth (outT to_turn_angles (f_turn_angles F)) 8)
def o_turn_angles_9 (F : Nat) : Int := atI (nth (outT to_turn_angles (f_turn_angles F)) 9)
def o_turn_angles_10 (F : Nat) : Int := atI (nth (outT to_turn_angles (f_turn_angles F)) 10)
def o_turn_angles_11 (F : Nat) : Int := atI (nth (outT to_turn_angles (f_turn_angles F)) 11)
def o_turn_angles_12 (F : Nat) : Int := atI (nth (outT to_turn_angles (f_turn_angles F)) 12)
def o_turn_angles_13 (F : Nat) : Int := atI (nth (outT to_turn_angles (f_turn_angles F)) 13)
def o_turn_angles_14 (F : Nat) : Int := atI (nth (outT to_turn_angles (f_turn_angles F)) 14)
def o_turn_angles_15 (F : Nat) : Int := atI (nth (outT to_turn_angles (f_turn_angles F)) 15)
def o_turn_angles_16 (F : Nat) : Int := atI (nth (outT to_turn_angles (f_turn_angles F)) 16)
def o_turn_angles_17 (F : Nat) : Int := atI (nth (outT to_turn_angles (f_turn_angles F)) 17)
def o_turn_angles_18 (F : Nat) : Int := atI (nth (outT to_turn_angles (f_turn_angles F)) 18)
def o_turn_angles_19 (F : Nat) : Int := atI (nth (outT to_turn_angles (f_turn_angles F)) 19)
def o_turn_angles_20 (F : Nat) : Int := atI (nth (outT to_turn_angles (f_turn_angles F)) 20)
def o_turn_angles_21 (F : Nat) : Int := atI (nth (outT to_turn_angles (f_turn_angles F)) 21)
def o_turn_angles_22 (F : Nat) : Int := atI (nth (outT to_turn_angles (f_turn_angles F)) 22)
def o_turn_angles_23 (F : Nat) : Int := atI (nth (outT to_turn_angles (f_turn_angles F)) 23)
def o_turn_angles_24 (F : Nat) : Int := atI (nth (outT to_turn_angles (f_turn_angles F)) 24)
def o_turn_angles_25 (F : Nat) : Int := atI (nth (outT to_turn_angles (f_turn_angles F)) 25)
def o_turn_angles_26 (F : Nat) : Int := atI (nth (outT to_turn_angles (f_turn_angles F)) 26)
def o_turn_angles_27 (F : Nat) : Int := atI (nth (outT to_turn_angles (f_turn_angles F)) 27)
def o_turn_angles_28 (F : Nat) : Int := atI (nth (outT to_turn_angles (f_turn_angles F)) 28)
def o_turn_angles_29 (F : Nat) : Int := atI (nth (outT to_turn_angles (f_turn_angles F)) 29)
theorem k_turn_angles (F : Nat) {z0 : Int} {z1 : Int} {z2 : Int} {z3 : Int} {z4 : Int} {z5 : Int} {z6 : Int} {z7 : Int} {z8 : Int} {z9 : Int} {z10 : Int} {z11 : Int} {z12 : Int} {z13 : Int} {z14 : Int} {z15 : Int} {z16 : Int} {z17 : Int} {z18 : Int} {z19 : Int} {z20 : Int} {z21 : Int} {z22 : Int} {z23 : Int} {z24 : Int} {z25 : Int} {z26 : Int} {z27 : Int} {z28 : Int} {z29 : Int} (h : f_turn_angles F = some (.v (.agg #[.int .i64 z0, .int .i64 z1, .int .i64 z2, .int .i64 z3, .int .i64 z4, .int .i64 z5, .int .i64 z6, .int .i64 z7, .int .i64 z8, .int .i64 z9, .int .i64 z10, .int .i64 z11, .int .i64 z12, .int .i64 z13, .int .i64 z14, .int .i64 z15, .int .i64 z16, .int .i64 z17, .int .i64 z18, .int .i64 z19, .int .i64 z20, .int .i64 z21, .int .i64 z22, .int .i64 z23, .int .i64 z24, .int .i64 z25, .int .i64 z26, .int .i64 z27, .int .i64 z28, .int .i64 z29]))) : ok_turn_angles F = true ∧ o_turn_angles_0 F = z0 ∧ o_turn_angles_1 F = z1 ∧ o_turn_angles_2 F = z2 ∧ o_turn_angles_3 F = z3 ∧ o_turn_angles_4 F = z4 ∧ o_turn_angles_5 F = z5 ∧ o_turn_angles_6 F = z6 ∧ o_turn_angles_7 F = z7 ∧ o_turn_angles_8 F = z8 ∧ o_turn_angles_9 F = z9 ∧ o_turn_angles_10 F = z10 ∧ o_turn_angles_11 F = z11 ∧ o_turn_angles_12 F = z12 ∧ o_turn_angles_13 F = z13 ∧ o_turn_angles_14 F = z14 ∧ o_turn_angles_15 F = z15 ∧ o_turn_angles_16 F = z16 ∧ o_turn_angles_17 F = z17 ∧ o_turn_angles_18 F = z18 ∧ o_turn_angles_19 F = z19 ∧ o_turn_angles_20 F = z20 ∧ o_turn_angles_21 F = z21 ∧ o_turn_angles_22 F = z22 ∧ o_turn_angles_23 F = z23 ∧ o_turn_angles_24 F = z24 ∧ o_turn_angles_25 F = z25 ∧ o_turn_angles_26 F = z26 ∧ o_turn_angles_27 F = z27 ∧ o_turn_angles_28 F = z28 ∧ o_turn_angles_29 F = z29 := by
  refine ⟨?_, ?_, ?_, ?_, ?_, ?_, ?_, ?_, ?_, ?_, ?_, ?_, ?_, ?_, ?_, ?_, ?_, ?_, ?_, ?_, ?_, ?_, ?_, ?_, ?_, ?_, ?_, ?_, ?_, ?_, ?_⟩
  · unfold ok_turn_angles; rw [h]; kernel_rfl
  · unfold o_turn_angles_0; rw [h]; kernel_rfl
  · unfold o_turn_angles_1; rw [h]; kernel_rfl
  · unfold o_turn_angles_2; rw [h]; kernel_rfl
  · unfold o_turn_angles_3; rw [h]; kernel_rfl
  · unfold o_turn_angles_4; rw [h]; kernel_rfl
  · unfold o_turn_angles_5; rw [h]; kernel_rfl
  · unfold o_turn_angles_6; rw [h]; kernel_rfl
  · unfold o_turn_angles_7; rw [h]; kernel_rfl
  · unfold o_turn_angles_8; rw [h]; kernel_rfl
  · unfold o_turn_angles_9; rw [h]; kernel_rfl
  · unfold o_turn_angles_10; rw [h]; kernel_rfl
  · unfold o_turn_angles_11; rw [h]; kernel_rfl
  · unfold o_turn_angles_12; rw [h]; kernel_rfl
  · unfold o_turn_angles_13; rw [h]; kernel_rfl
  · unfold o_turn_angles_14; rw [h]; kernel_rfl
  · unfold o_turn_angles_15; rw [h]; kernel_rfl
  · unfold o_turn_angles_16; rw [h]; kernel_rfl
  · unfold o_turn_angles_17; rw [h]; kernel_rfl
  · unfold o_turn_angles_18; rw [h]; kernel_rfl
  · unfold o_turn_angles_19; rw [h]; kernel_rfl
  · unfold o_turn_angles_20; rw [h]; kernel_rfl
  · unfold o_turn_angles_21; rw [h]; kernel_rfl
  · unfold o_turn_angles_22; rw [h]; kernel_rfl
  · unfold o_turn_angles_23; rw [h]; kernel_rfl
  · unfold o_turn_angles_24; rw [h]; kernel_rfl
  · unfold o_turn_angles_25; rw [h]; kernel_rfl
  · unfold o_turn_angles_26; rw [h]; kernel_rfl
  · unfold o_turn_angles_27; rw [h]; kernel_rfl
  · unfold o_turn_angles_28; rw [h]; kernel_rfl
  · unfold o_turn_angles_29; rw [h]; kernel_rfl
def s_turn_angles (F : Nat) : List VV → Option (Bool × VV) := spec ti_turn_angles to_turn_angles (fun q => (ok_turn_angles F )) (fun q => [.i (o_turn_angles_0 F ), .i (o_turn_angles_1 F ), .i (o_turn_angles_2 F ), .i (o_turn_angles_3 F ), .i (o_turn_angles_4 F ), .i (o_turn_angles_5 F ), .i (o_turn_angles_6 F ), .i (o_turn_angles_7 F ), .i (o_turn_angles_8 F ), .i (o_turn_angles_9 F ), .i (o_turn_angles_10 F ), .i (o_turn_angles_11 F ), .i (o_turn_angles_12 F ), .i (o_turn_angles_13 F ), .i (o_turn_angles_14 F ), .i (o_turn_angles_15 F ), .i (o_turn_angles_16 F ), .i (o_turn_angles_17 F ), .i (o_turn_angles_18 F ), .i (o_turn_angles_19 F ), .i (o_turn_angles_20 F ), .i (o_turn_angles_21 F ), .i (o_turn_angles_22 F ), .i (o_turn_angles_23 F ), .i (o_turn_angles_24 F ), .i (o_turn_angles_25 F ), .i (o_turn_angles_26 F ), .i (o_turn_angles_27 F ), .i (o_turn_angles_28 F ), .i (o_turn_angles_29 F )])
theorem hS_turn_angles (F : Nat) : ∀ f, Good PP f (unS (S_turn_angles F f)) := words_good fun p hp => by
  cases hp
theorem hl_turn_angles (F : Nat) : ∀ p ∈ loopsIn PP 76, LoopOK PP (S_turn_angles F) c_turn_angles F (I_turn_angles F) (J_turn_angles F) p :=
  loops_of [] (by kernel_rfl) all_nil
theorem hj_turn_angles (F : Nat) : ∀ p ∈ joinsIn PP c_turn_angles 76, JoinOK PP (S_turn_angles F) c_turn_angles (I_turn_angles F) (J_turn_angles F) p :=
  joins_of [] (by kernel_rfl) all_nil
theorem g_turn_angles (F : Nat) : Good PP 76 (unS (s_turn_angles F)) :=
  fun_spec (hS_turn_angles F) (by kernel_rfl) (by kernel_rfl) (C := c_turn_angles) (F := fun q => (f_turn_angles F )) (fun _ => F) (fun _ => I_turn_angles F) (fun _ => J_turn_angles F) (fun _ => hl_turn_angles F) (fun _ => hj_turn_angles F)
    (fun q => (congrArg (funL PP (S_turn_angles F) c_turn_angles (I_turn_angles F) (J_turn_angles F) 76) (show (fTs ti_turn_angles q).1 = (fTs ti_turn_angles []).1 by kernel_rfl)).trans (e_turn_angles F ))
    (fun _ h => (okT_fill h).trans (congrArg some (by kernel_rfl)))

end Go.Xv
set_option linter.unusedVariables false
namespace Go.Xv
/- 77 _turn_pair_turned -/
def c_turn_pair_turned : Cfg := ⟨[0, 1, 2, 3, 6, 7, 8, 17], [], [], []⟩
def ti_turn_pair_turned : List TV := [.v (.agg [.int .i64, .int .i64]), .v (.int .i64), .v (.bool)]
def to_turn_pair_turned : TV := .v (.agg [.int .i64, .int .i64])
def S_turn_pair_turned (F : Nat) : FuncId → List VV → Option (Bool × VV) := words []
def W_turn_pair_turned (F : Nat) : List LW := []
def I_turn_pair_turned (F : Nat) : Nat → VS → (Exit → VS → R) → R := tabI c_turn_pair_turned (W_turn_pair_turned F)
def WJ_turn_pair_turned (F : Nat) : List LJ := []
def J_turn_pair_turned (F : Nat) : Nat → Nat → VS → (Exit → VS → R) → R := tabJ (WJ_turn_pair_turned F)
def f_turn_pair_turned (F : Nat) (a0 : Int) (a1 : Int) (a2 : Int) (a3 : Bool) : R :=
  bif (!(decide (a2 < 0))) then (
    let v72 : Int := (Int.fdiv a0 (2 ^ (min (Int.toNat a2) 64)))
    bif (!(decide (a2 < 0))) then (
      let v73 : Int := (Int.fdiv a1 (2 ^ (min (Int.toNat a2) 64)))
      bif a3 then (
        some (.v (.agg #[.int .i64 ((IntKind.wrap .i64 (a0 - v73))), .int .i64 ((IntKind.wrap .i64 (a1 + v72)))])))
      else (
        some (.v (.agg #[.int .i64 ((IntKind.wrap .i64 (a0 + v73))), .int .i64 ((IntKind.wrap .i64 (a1 - v72)))]))))
    else (
      none))
  else (
    none)
theorem e_turn_pair_turned (F : Nat) (a0 : Int) (a1 : Int) (a2 : Int) (a3 : Bool) : funL PP (S_turn_pair_turned F) c_turn_pair_turned (I_turn_pair_turned F) (J_turn_pair_turned F) 77 (fTs ti_turn_pair_turned [.i a0, .i a1, .i a2, .b a3]).1 = f_turn_pair_turned F a0 a1 a2 a3 := by
  have h : ∀ (_ : Unit), funL PP (words []) c_turn_pair_turned (tabI c_turn_pair_turned []) (tabJ []) 77 (fTs ti_turn_pair_turned [.i a0, .i a1, .i a2, .b a3]).1 = (
  bif (!(decide (a2 < 0))) then (
    let v72 : Int := (Int.fdiv a0 (2 ^ (min (Int.toNat a2) 64)))
    bif (!(decide (a2 < 0))) then (
      let v73 : Int := (Int.fdiv a1 (2 ^ (min (Int.toNat a2) 64)))
      bif a3 then (
        some (.v (.agg #[.int .i64 ((IntKind.wrap .i64 (a0 - v73))), .int .i64 ((IntKind.wrap .i64 (a1 + v72)))])))
      else (
        some (.v (.agg #[.int .i64 ((IntKind.wrap .i64 (a0 + v73))), .int .i64 ((IntKind.wrap .i64 (a1 - v72)))]))))
    else (
      none))
  else (
    none) : R) := by
    intros
    kernel_rfl
  exact (h ()).trans (by kernel_rfl)
def ok_turn_pair_turned (F : Nat) (a0 : Int) (a1 : Int) (a2 : Int) (a3 : Bool) : Bool := okT to_turn_pair_turned (f_turn_pair_turned F a0 a1 a2 a3)
def o_turn_pair_turned_0 (F : Nat) (a0 : Int) (a1 : Int) (a2 : Int) (a3 : Bool) : Int := atI (nth (outT to_turn_pair_turned (f_turn_pair_turned F a0 a1 a2 a3)) 0)
def o_turn_pair_turned_1 (F : Nat) (a0 : Int) (a1 : Int) (a2 : Int) (a3 : Bool) : Int := atI (nth (outT to_turn_pair_turned (f_turn_pair_turned F a0 a1 a2 a3)) 1)
theorem k_turn_pair_turned (F : Nat) (a0 : Int) (a1 : Int) (a2 : Int) (a3 : Bool) {z0 : Int} {z1 : Int} (h : f_turn_pair_turned F a0 a1 a2 a3 = some (.v (.agg #[.int .i64 z0, .int .i64 z1]))) : ok_turn_pair_turned F a0 a1 a2 a3 = true ∧ o_turn_pair_turned_0 F a0 a1 a2 a3 = z0 ∧ o_turn_pair_turned_1 F a0 a1 a2 a3 = z1 := by
  refine ⟨?_, ?_, ?_⟩
  · unfold ok_turn_pair_turned; rw [h]; kernel_rfl
  · unfold o_turn_pair_turned_0; rw [h]; kernel_rfl
  · unfold o_turn_pair_turned_1; rw [h]; kernel_rfl
def s_turn_pair_turned (F : Nat) : List VV → Option (Bool × VV) := spec ti_turn_pair_turned to_turn_pair_turned (fun q => (ok_turn_pair_turned F (atI (nth q 0)) (atI (nth q 1)) (atI (nth q 2)) (atB (nth q 3)))) (fun q => [.i (o_turn_pair_turned_0 F (atI (nth q 0)) (atI (nth q 1)) (atI (nth q 2)) (atB (nth q 3))), .i (o_turn_pair_turned_1 F (atI (nth q 0)) (atI (nth q 1)) (atI (nth q 2)) (atB (nth q 3)))])
theorem hS_turn_pair_turned (F : Nat) : ∀ f, Good PP f (unS (S_turn_pair_turned F f)) := words_good fun p hp => by
  cases hp
theorem hl_turn_pair_turned (F : Nat) : ∀ p ∈ loopsIn PP 77, LoopOK PP (S_turn_pair_turned F) c_turn_pair_turned F (I_turn_pair_turned F) (J_turn_pair_turned F) p :=
  loops_of [] (by kernel_rfl) all_nil
theorem hj_turn_pair_turned (F : Nat) : ∀ p ∈ joinsIn PP c_turn_pair_turned 77, JoinOK PP (S_turn_pair_turned F) c_turn_pair_turned (I_turn_pair_turned F) (J_turn_pair_turned F) p :=
  joins_of [] (by kernel_rfl) all_nil
theorem g_turn_pair_turned (F : Nat) : Good PP 77 (unS (s_turn_pair_turned F)) :=
  fun_spec (hS_turn_pair_turned F) (by kernel_rfl) (by kernel_rfl) (C := c_turn_pair_turned) (F := fun q => (f_turn_pair_turned F (atI (nth q 0)) (atI (nth q 1)) (atI (nth q 2)) (atB (nth q 3)))) (fun _ => F) (fun _ => I_turn_pair_turned F) (fun _ => J_turn_pair_turned F) (fun _ => hl_turn_pair_turned F) (fun _ => hj_turn_pair_turned F)
    (fun q => (congrArg (funL PP (S_turn_pair_turned F) c_turn_pair_turned (I_turn_pair_turned F) (J_turn_pair_turned F) 77) (show (fTs ti_turn_pair_turned q).1 = (fTs ti_turn_pair_turned [.i (atI (nth q 0)), .i (atI (nth q 1)), .i (atI (nth q 2)), .b (atB (nth q 3))]).1 by kernel_rfl)).trans (e_turn_pair_turned F (atI (nth q 0)) (atI (nth q 1)) (atI (nth q 2)) (atB (nth q 3))))
    (fun _ h => (okT_fill h).trans (congrArg some (by kernel_rfl)))

end Go.Xv
set_option linter.unusedVariables false
namespace Go.Xv
/- 78 _turn_unit -/
def c_turn_unit : Cfg := ⟨[0, 2, 3], [], [], []⟩
def ti_turn_unit : List TV := [.v (.int .i64)]
def to_turn_unit : TV := .v (.int .i64)
def S_turn_unit (F : Nat) : FuncId → List VV → Option (Bool × VV) := words [(92, s_fix_Clamp F)]
def W_turn_unit (F : Nat) : List LW := []
def I_turn_unit (F : Nat) : Nat → VS → (Exit → VS → R) → R := tabI c_turn_unit (W_turn_unit F)
def WJ_turn_unit (F : Nat) : List LJ := []
def J_turn_unit (F : Nat) : Nat → Nat → VS → (Exit → VS → R) → R := tabJ (WJ_turn_unit F)
def f_turn_unit (F : Nat) (a0 : Int) : R :=
  bif (ok_fix_Clamp F a0 0 4294967296) then (
    some (.v (.int .i64 ((o_fix_Clamp_0 F a0 0 4294967296)))))
  else (
    none)
theorem e_turn_unit (F : Nat) (a0 : Int) : funL PP (S_turn_unit F) c_turn_unit (I_turn_unit F) (J_turn_unit F) 78 (fTs ti_turn_unit [.i a0]).1 = f_turn_unit F a0 := by
  have h : ∀ (ok_fix_Clamp : Nat → Int → Int → Int → Bool) (o_fix_Clamp_0 : Nat → Int → Int → Int → Int) (o_fix_Clamp_1 : Nat → Int → Int → Int → Bool), funL PP (words [(92, spec ti_fix_Clamp to_fix_Clamp (fun q => (ok_fix_Clamp F (atI (nth q 0)) (atI (nth q 1)) (atI (nth q 2)))) (fun q => [.i (o_fix_Clamp_0 F (atI (nth q 0)) (atI (nth q 1)) (atI (nth q 2))), .b (o_fix_Clamp_1 F (atI (nth q 0)) (atI (nth q 1)) (atI (nth q 2)))]))]) c_turn_unit (tabI c_turn_unit []) (tabJ []) 78 (fTs ti_turn_unit [.i a0]).1 = (
  bif (ok_fix_Clamp F a0 0 4294967296) then (
    some (.v (.int .i64 ((o_fix_Clamp_0 F a0 0 4294967296)))))
  else (
    none) : R) := by
    intros
    kernel_rfl
  exact (h ok_fix_Clamp o_fix_Clamp_0 o_fix_Clamp_1).trans (by kernel_rfl)
def ok_turn_unit (F : Nat) (a0 : Int) : Bool := okT to_turn_unit (f_turn_unit F a0)
def o_turn_unit_0 (F : Nat) (a0 : Int) : Int := atI (nth (outT to_turn_unit (f_turn_unit F a0)) 0)
theorem k_turn_unit (F : Nat) (a0 : Int) {z0 : Int} (h : f_turn_unit F a0 = some (.v (.int .i64 z0))) : ok_turn_unit F a0 = true ∧ o_turn_unit_0 F a0 = z0 := by
  refine ⟨?_, ?_⟩
  · unfold ok_turn_unit; rw [h]; kernel_rfl
  · unfold o_turn_unit_0; rw [h]; kernel_rfl
def s_turn_unit (F : Nat) : List VV → Option (Bool × VV) := spec ti_turn_unit to_turn_unit (fun q => (ok_turn_unit F (atI (nth q 0)))) (fun q => [.i (o_turn_unit_0 F (atI (nth q 0)))])
theorem hS_turn_unit (F : Nat) : ∀ f, Good PP f (unS (S_turn_unit F f)) := words_good fun p hp => by
  simp only [List.mem_cons, List.not_mem_nil, or_false] at hp
  rcases hp with rfl
  · exact g_fix_Clamp F
theorem hl_turn_unit (F : Nat) : ∀ p ∈ loopsIn PP 78, LoopOK PP (S_turn_unit F) c_turn_unit F (I_turn_unit F) (J_turn_unit F) p :=
  loops_of [] (by kernel_rfl) all_nil
theorem hj_turn_unit (F : Nat) : ∀ p ∈ joinsIn PP c_turn_unit 78, JoinOK PP (S_turn_unit F) c_turn_unit (I_turn_unit F) (J_turn_unit F) p :=
  joins_of [] (by kernel_rfl) all_nil
theorem g_turn_unit (F : Nat) : Good PP 78 (unS (s_turn_unit F)) :=
  fun_spec (hS_turn_unit F) (by kernel_rfl) (by kernel_rfl) (C := c_turn_unit) (F := fun q => (f_turn_unit F (atI (nth q 0)))) (fun _ => F) (fun _ => I_turn_unit F) (fun _ => J_turn_unit F) (fun _ => hl_turn_unit F) (fun _ => hj_turn_unit F)
    (fun q => (congrArg (funL PP (S_turn_unit F) c_turn_unit (I_turn_unit F) (J_turn_unit F) 78) (show (fTs ti_turn_unit q).1 = (fTs ti_turn_unit [.i (atI (nth q 0))]).1 by kernel_rfl)).trans (e_turn_unit F (atI (nth q 0))))
    (fun _ h => (okT_fill h).trans (congrArg some (by kernel_rfl)))

end Go.Xv
set_option linter.unusedVariables false
namespace Go.Xv
/- 25 _turn_Both -/
def c_turn_Both : Cfg := ⟨[0, 2, 3, 4, 5, 6, 7, 8, 9, 10, 15, 16, 17, 26, 40, 41, 42], [(0, [0, 2, 3, 4, 5, 9, 10, 11, 12, 13, 14, 15, 16, 33, 34, 35, 36, 37, 38, 39, 40, 41, 42, 43, 44, 45, 46, 47, 48]), (2, [0, 2, 3, 4, 5, 6, 7, 8, 9, 10, 11, 12, 13, 14, 15, 16, 17, 18, 19, 20, 21, 22, 23, 24, 25, 26, 27, 28, 29, 30, 31, 32, 33, 34, 35, 36, 37, 38, 39, 40, 41, 47, 48])], [], []⟩
def ti_turn_Both : List TV := [.v (.int .u32)]
def to_turn_Both : TV := .v (.tup [.int .i64, .int .i64])
def S_turn_Both (F : Nat) : FuncId → List VV → Option (Bool × VV) := words [(76, s_turn_angles F), (77, s_turn_pair_turned F), (78, s_turn_unit F)]
def T_turn_Both_0 : TS := ⟨[(0, .v (.int .u32)), (2, .v (.int .i64)), (3, .v (.int .i64)), (4, .v (.int .i64)), (5, .lp 0 (.lit 0)), (15, .v (.agg [.int .i64, .int .i64, .int .i64, .int .i64, .int .i64, .int .i64, .int .i64, .int .i64, .int .i64, .int .i64, .int .i64, .int .i64, .int .i64, .int .i64, .int .i64, .int .i64, .int .i64, .int .i64, .int .i64, .int .i64, .int .i64, .int .i64, .int .i64, .int .i64, .int .i64, .int .i64, .int .i64, .int .i64, .int .i64, .int .i64])), (16, .v (.int .i64))], [(0, ⟨(.ex [.v (.int .i64), .v (.int .i64)]), true⟩)], 1⟩
def T_turn_Both_0_0 : TS := ⟨[(0, .v (.int .u32)), (2, .v (.int .i64)), (3, .v (.int .i64)), (4, .v (.int .i64)), (5, .lp 0 (.lit 0)), (15, .v (.agg [.int .i64, .int .i64, .int .i64, .int .i64, .int .i64, .int .i64, .int .i64, .int .i64, .int .i64, .int .i64, .int .i64, .int .i64, .int .i64, .int .i64, .int .i64, .int .i64, .int .i64, .int .i64, .int .i64, .int .i64, .int .i64, .int .i64, .int .i64, .int .i64, .int .i64, .int .i64, .int .i64, .int .i64, .int .i64, .int .i64])), (16, .v (.int .i64))], [(0, ⟨(.ex [.v (.int .i64), .v (.int .i64)]), true⟩)], 1⟩
def B_turn_Both_0 (F : Nat) (rc : Int → Int → Int → Int → Int → Int → Int → Int → Int → Int → Int → Int → Int → Int → Int → Int → Int → Int → Int → Int → Int → Int → Int → Int → Int → Int → Int → Int → Int → Int → Int → Int → Int → Int → Int → Int → Int → R) (ex0 : Int → Int → Int → Int → Int → Int → Int → Int → Int → Int → Int → Int → Int → Int → Int → Int → Int → Int → Int → Int → Int → Int → Int → Int → Int → Int → Int → Int → Int → Int → Int → Int → Int → Int → Int → Int → Int → R) (x0 : Int) (x1 : Int) (x2 : Int) (x3 : Int) (x4 : Int) (x5 : Int) (x6 : Int) (x7 : Int) (x8 : Int) (x9 : Int) (x10 : Int) (x11 : Int) (x12 : Int) (x13 : Int) (x14 : Int) (x15 : Int) (x16 : Int) (x17 : Int) (x18 : Int) (x19 : Int) (x20 : Int) (x21 : Int) (x22 : Int) (x23 : Int) (x24 : Int) (x25 : Int) (x26 : Int) (x27 : Int) (x28 : Int) (x29 : Int) (x30 : Int) (x31 : Int) (x32 : Int) (x33 : Int) (x34 : Int) (x35 : Int) (x36 : Int) : R :=
  bif ((decide (x34 < 30))) then (
    bif (((decide (0 ≤ x34)) && (decide (x34 < 30))) && ((isI .i64 [.v (.int .i64 x4), .v (.int .i64 x5), .v (.int .i64 x6), .v (.int .i64 x7), .v (.int .i64 x8), .v (.int .i64 x9), .v (.int .i64 x10), .v (.int .i64 x11), .v (.int .i64 x12), .v (.int .i64 x13), .v (.int .i64 x14), .v (.int .i64 x15), .v (.int .i64 x16), .v (.int .i64 x17), .v (.int .i64 x18), .v (.int .i64 x19), .v (.int .i64 x20), .v (.int .i64 x21), .v (.int .i64 x22), .v (.int .i64 x23), .v (.int .i64 x24), .v (.int .i64 x25), .v (.int .i64 x26), .v (.int .i64 x27), .v (.int .i64 x28), .v (.int .i64 x29), .v (.int .i64 x30), .v (.int .i64 x31), .v (.int .i64 x32), .v (.int .i64 x33)][((Int.toNat x34) * 1)]?) && true)) then (
      let v70 : Int := (iv [.v (.int .i64 x4), .v (.int .i64 x5), .v (.int .i64 x6), .v (.int .i64 x7), .v (.int .i64 x8), .v (.int .i64 x9), .v (.int .i64 x10), .v (.int .i64 x11), .v (.int .i64 x12), .v (.int .i64 x13), .v (.int .i64 x14), .v (.int .i64 x15), .v (.int .i64 x16), .v (.int .i64 x17), .v (.int .i64 x18), .v (.int .i64 x19), .v (.int .i64 x20), .v (.int .i64 x21), .v (.int .i64 x22), .v (.int .i64 x23), .v (.int .i64 x24), .v (.int .i64 x25), .v (.int .i64 x26), .v (.int .i64 x27), .v (.int .i64 x28), .v (.int .i64 x29), .v (.int .i64 x30), .v (.int .i64 x31), .v (.int .i64 x32), .v (.int .i64 x33)][((Int.toNat x34) * 1)]?)
      let v71 : Bool := (decide (x3 ≥ 0))
      bif (ok_turn_pair_turned F x35 x36 x34 v71) then (
        let v78 : Int := (o_turn_pair_turned_0 F x35 x36 x34 v71)
        let v79 : Int := (o_turn_pair_turned_1 F x35 x36 x34 v71)
        bif v71 then (
          rc x0 x1 x2 ((IntKind.wrap .i64 (x3 + ((IntKind.wrap .i64 (0 - v70)))))) x4 x5 x6 x7 x8 x9 x10 x11 x12 x13 x14 x15 x16 x17 x18 x19 x20 x21 x22 x23 x24 x25 x26 x27 x28 x29 x30 x31 x32 x33 ((IntKind.wrap .i64 (x34 + 1))) v78 v79)
        else (
          rc x0 x1 x2 ((IntKind.wrap .i64 (x3 + v70))) x4 x5 x6 x7 x8 x9 x10 x11 x12 x13 x14 x15 x16 x17 x18 x19 x20 x21 x22 x23 x24 x25 x26 x27 x28 x29 x30 x31 x32 x33 ((IntKind.wrap .i64 (x34 + 1))) v78 v79))
      else (
        none))
    else (
      none))
  else (
    ex0 x0 x1 x2 x3 x4 x5 x6 x7 x8 x9 x10 x11 x12 x13 x14 x15 x16 x17 x18 x19 x20 x21 x22 x23 x24 x25 x26 x27 x28 x29 x30 x31 x32 x33 x34 x35 x36)
def L_turn_Both_0 (F : Nat) (ex0 : Int → Int → Int → Int → Int → Int → Int → Int → Int → Int → Int → Int → Int → Int → Int → Int → Int → Int → Int → Int → Int → Int → Int → Int → Int → Int → Int → Int → Int → Int → Int → Int → Int → Int → Int → Int → Int → R) : Nat → Int → Int → Int → Int → Int → Int → Int → Int → Int → Int → Int → Int → Int → Int → Int → Int → Int → Int → Int → Int → Int → Int → Int → Int → Int → Int → Int → Int → Int → Int → Int → Int → Int → Int → Int → Int → Int → R
  | 0, _, _, _, _, _, _, _, _, _, _, _, _, _, _, _, _, _, _, _, _, _, _, _, _, _, _, _, _, _, _, _, _, _, _, _, _, _ => none
  | n + 1, x0, x1, x2, x3, x4, x5, x6, x7, x8, x9, x10, x11, x12, x13, x14, x15, x16, x17, x18, x19, x20, x21, x22, x23, x24, x25, x26, x27, x28, x29, x30, x31, x32, x33, x34, x35, x36 => B_turn_Both_0 F (L_turn_Both_0 F ex0 n) ex0 x0 x1 x2 x3 x4 x5 x6 x7 x8 x9 x10 x11 x12 x13 x14 x15 x16 x17 x18 x19 x20 x21 x22 x23 x24 x25 x26 x27 x28 x29 x30 x31 x32 x33 x34 x35 x36
def T_turn_Both_1 : TS := ⟨[(0, .v (.int .u32)), (2, .v (.int .i64)), (3, .v (.int .i64)), (4, .v (.int .i64)), (5, .lp 0 (.lit 0)), (9, .v (.int .i64)), (10, .v (.int .i64)), (15, .v (.agg [.int .i64, .int .i64, .int .i64, .int .i64, .int .i64, .int .i64, .int .i64, .int .i64, .int .i64, .int .i64, .int .i64, .int .i64, .int .i64, .int .i64, .int .i64, .int .i64, .int .i64, .int .i64, .int .i64, .int .i64, .int .i64, .int .i64, .int .i64, .int .i64, .int .i64, .int .i64, .int .i64, .int .i64, .int .i64, .int .i64])), (16, .v (.int .i64)), (40, .v (.int .u32)), (41, .v (.int .u32))], [(0, ⟨(.ex [.v (.int .i64), .v (.int .i64)]), true⟩)], 1⟩
def T_turn_Both_1_0 : TS := ⟨[(0, .v (.int .u32)), (2, .v (.int .i64)), (3, .v (.int .i64)), (4, .v (.int .i64)), (5, .lp 0 (.lit 0)), (9, .v (.int .i64)), (10, .v (.int .i64)), (15, .v (.agg [.int .i64, .int .i64, .int .i64, .int .i64, .int .i64, .int .i64, .int .i64, .int .i64, .int .i64, .int .i64, .int .i64, .int .i64, .int .i64, .int .i64, .int .i64, .int .i64, .int .i64, .int .i64, .int .i64, .int .i64, .int .i64, .int .i64, .int .i64, .int .i64, .int .i64, .int .i64, .int .i64, .int .i64, .int .i64, .int .i64])), (16, .v (.int .i64)), (40, .v (.int .u32)), (41, .v (.int .u32))], [(0, ⟨(.ex [.v (.int .i64), .v (.int .i64)]), true⟩)], 1⟩
def B_turn_Both_1 (F : Nat) (rc : Int → Int → Int → Int → Int → Int → Int → Int → Int → Int → Int → Int → Int → Int → Int → Int → Int → Int → Int → Int → Int → Int → Int → Int → Int → Int → Int → Int → Int → Int → Int → Int → Int → Int → Int → Int → Int → Int → Int → Int → Int → R) (ex0 : Int → Int → Int → Int → Int → Int → Int → Int → Int → Int → Int → Int → Int → Int → Int → Int → Int → Int → Int → Int → Int → Int → Int → Int → Int → Int → Int → Int → Int → Int → Int → Int → Int → Int → Int → Int → Int → Int → Int → Int → Int → R) (x0 : Int) (x1 : Int) (x2 : Int) (x3 : Int) (x4 : Int) (x5 : Int) (x6 : Int) (x7 : Int) (x8 : Int) (x9 : Int) (x10 : Int) (x11 : Int) (x12 : Int) (x13 : Int) (x14 : Int) (x15 : Int) (x16 : Int) (x17 : Int) (x18 : Int) (x19 : Int) (x20 : Int) (x21 : Int) (x22 : Int) (x23 : Int) (x24 : Int) (x25 : Int) (x26 : Int) (x27 : Int) (x28 : Int) (x29 : Int) (x30 : Int) (x31 : Int) (x32 : Int) (x33 : Int) (x34 : Int) (x35 : Int) (x36 : Int) (x37 : Int) (x38 : Int) (x39 : Int) (x40 : Int) : R :=
  bif ((decide (x38 < x37))) then (
    rc x0 x1 x2 x3 ((IntKind.wrap .i64 (0 - x5))) x4 x6 x7 x8 x9 x10 x11 x12 x13 x14 x15 x16 x17 x18 x19 x20 x21 x22 x23 x24 x25 x26 x27 x28 x29 x30 x31 x32 x33 x34 x35 x36 x37 ((IntKind.wrap .u32 (x38 + 1))) x39 x40)
  else (
    ex0 x0 x1 x2 x3 x4 x5 x6 x7 x8 x9 x10 x11 x12 x13 x14 x15 x16 x17 x18 x19 x20 x21 x22 x23 x24 x25 x26 x27 x28 x29 x30 x31 x32 x33 x34 x35 x36 x37 x38 x39 x40)
def L_turn_Both_1 (F : Nat) (ex0 : Int → Int → Int → Int → Int → Int → Int → Int → Int → Int → Int → Int → Int → Int → Int → Int → Int → Int → Int → Int → Int → Int → Int → Int → Int → Int → Int → Int → Int → Int → Int → Int → Int → Int → Int → Int → Int → Int → Int → Int → Int → R) : Nat → Int → Int → Int → Int → Int → Int → Int → Int → Int → Int → Int → Int → Int → Int → Int → Int → Int → Int → Int → Int → Int → Int → Int → Int → Int → Int → Int → Int → Int → Int → Int → Int → Int → Int → Int → Int → Int → Int → Int → Int → Int → R
  | 0, _, _, _, _, _, _, _, _, _, _, _, _, _, _, _, _, _, _, _, _, _, _, _, _, _, _, _, _, _, _, _, _, _, _, _, _, _, _, _, _, _ => none
  | n + 1, x0, x1, x2, x3, x4, x5, x6, x7, x8, x9, x10, x11, x12, x13, x14, x15, x16, x17, x18, x19, x20, x21, x22, x23, x24, x25, x26, x27, x28, x29, x30, x31, x32, x33, x34, x35, x36, x37, x38, x39, x40 => B_turn_Both_1 F (L_turn_Both_1 F ex0 n) ex0 x0 x1 x2 x3 x4 x5 x6 x7 x8 x9 x10 x11 x12 x13 x14 x15 x16 x17 x18 x19 x20 x21 x22 x23 x24 x25 x26 x27 x28 x29 x30 x31 x32 x33 x34 x35 x36 x37 x38 x39 x40
def W_turn_Both (F : Nat) : List LW := [⟨0, T_turn_Both_0, fun k q => L_turn_Both_0 F (fun (z0 : Int) (z1 : Int) (z2 : Int) (z3 : Int) (z4 : Int) (z5 : Int) (z6 : Int) (z7 : Int) (z8 : Int) (z9 : Int) (z10 : Int) (z11 : Int) (z12 : Int) (z13 : Int) (z14 : Int) (z15 : Int) (z16 : Int) (z17 : Int) (z18 : Int) (z19 : Int) (z20 : Int) (z21 : Int) (z22 : Int) (z23 : Int) (z24 : Int) (z25 : Int) (z26 : Int) (z27 : Int) (z28 : Int) (z29 : Int) (z30 : Int) (z31 : Int) (z32 : Int) (z33 : Int) (z34 : Int) (z35 : Int) (z36 : Int) => k (.exit 0) (fS T_turn_Both_0_0 [.i z0, .i z1, .i z2, .i z3, .i z4, .i z5, .i z6, .i z7, .i z8, .i z9, .i z10, .i z11, .i z12, .i z13, .i z14, .i z15, .i z16, .i z17, .i z18, .i z19, .i z20, .i z21, .i z22, .i z23, .i z24, .i z25, .i z26, .i z27, .i z28, .i z29, .i z30, .i z31, .i z32, .i z33, .i z34, .i z35, .i z36])) F (atI (nth q 0)) (atI (nth q 1)) (atI (nth q 2)) (atI (nth q 3)) (atI (nth q 4)) (atI (nth q 5)) (atI (nth q 6)) (atI (nth q 7)) (atI (nth q 8)) (atI (nth q 9)) (atI (nth q 10)) (atI (nth q 11)) (atI (nth q 12)) (atI (nth q 13)) (atI (nth q 14)) (atI (nth q 15)) (atI (nth q 16)) (atI (nth q 17)) (atI (nth q 18)) (atI (nth q 19)) (atI (nth q 20)) (atI (nth q 21)) (atI (nth q 22)) (atI (nth q 23)) (atI (nth q 24)) (atI (nth q 25)) (atI (nth q 26)) (atI (nth q 27)) (atI (nth q 28)) (atI (nth q 29)) (atI (nth q 30)) (atI (nth q 31)) (atI (nth q 32)) (atI (nth q 33)) (atI (nth q 34)) (atI (nth q 35)) (atI (nth q 36))⟩, ⟨2, T_turn_Both_1, fun k q => L_turn_Both_1 F (fun (z0 : Int) (z1 : Int) (z2 : Int) (z3 : Int) (z4 : Int) (z5 : Int) (z6 : Int) (z7 : Int) (z8 : Int) (z9 : Int) (z10 : Int) (z11 : Int) (z12 : Int) (z13 : Int) (z14 : Int) (z15 : Int) (z16 : Int) (z17 : Int) (z18 : Int) (z19 : Int) (z20 : Int) (z21 : Int) (z22 : Int) (z23 : Int) (z24 : Int) (z25 : Int) (z26 : Int) (z27 : Int) (z28 : Int) (z29 : Int) (z30 : Int) (z31 : Int) (z32 : Int) (z33 : Int) (z34 : Int) (z35 : Int) (z36 : Int) (z37 : Int) (z38 : Int) (z39 : Int) (z40 : Int) => k (.exit 2) (fS T_turn_Both_1_0 [.i z0, .i z1, .i z2, .i z3, .i z4, .i z5, .i z6, .i z7, .i z8, .i z9, .i z10, .i z11, .i z12, .i z13, .i z14, .i z15, .i z16, .i z17, .i z18, .i z19, .i z20, .i z21, .i z22, .i z23, .i z24, .i z25, .i z26, .i z27, .i z28, .i z29, .i z30, .i z31, .i z32, .i z33, .i z34, .i z35, .i z36, .i z37, .i z38, .i z39, .i z40])) F (atI (nth q 0)) (atI (nth q 1)) (atI (nth q 2)) (atI (nth q 3)) (atI (nth q 4)) (atI (nth q 5)) (atI (nth q 6)) (atI (nth q 7)) (atI (nth q 8)) (atI (nth q 9)) (atI (nth q 10)) (atI (nth q 11)) (atI (nth q 12)) (atI (nth q 13)) (atI (nth q 14)) (atI (nth q 15)) (atI (nth q 16)) (atI (nth q 17)) (atI (nth q 18)) (atI (nth q 19)) (atI (nth q 20)) (atI (nth q 21)) (atI (nth q 22)) (atI (nth q 23)) (atI (nth q 24)) (atI (nth q 25)) (atI (nth q 26)) (atI (nth q 27)) (atI (nth q 28)) (atI (nth q 29)) (atI (nth q 30)) (atI (nth q 31)) (atI (nth q 32)) (atI (nth q 33)) (atI (nth q 34)) (atI (nth q 35)) (atI (nth q 36)) (atI (nth q 37)) (atI (nth q 38)) (atI (nth q 39)) (atI (nth q 40))⟩]
def I_turn_Both (F : Nat) : Nat → VS → (Exit → VS → R) → R := tabI c_turn_Both (W_turn_Both F)
def WJ_turn_Both (F : Nat) : List LJ := []
def J_turn_Both (F : Nat) : Nat → Nat → VS → (Exit → VS → R) → R := tabJ (WJ_turn_Both F)
theorem lL_turn_Both_0 (F : Nat) (k : Exit → VS → R) : ∀ (n : Nat) (x0 : Int) (x1 : Int) (x2 : Int) (x3 : Int) (x4 : Int) (x5 : Int) (x6 : Int) (x7 : Int) (x8 : Int) (x9 : Int) (x10 : Int) (x11 : Int) (x12 : Int) (x13 : Int) (x14 : Int) (x15 : Int) (x16 : Int) (x17 : Int) (x18 : Int) (x19 : Int) (x20 : Int) (x21 : Int) (x22 : Int) (x23 : Int) (x24 : Int) (x25 : Int) (x26 : Int) (x27 : Int) (x28 : Int) (x29 : Int) (x30 : Int) (x31 : Int) (x32 : Int) (x33 : Int) (x34 : Int) (x35 : Int) (x36 : Int), iterC (codeL PP (S_turn_Both F) c_turn_Both (I_turn_Both F) (J_turn_Both F) (loopAt PP 25 0) 0) (headOf c_turn_Both 0) k n (fS T_turn_Both_0 [.i x0, .i x1, .i x2, .i x3, .i x4, .i x5, .i x6, .i x7, .i x8, .i x9, .i x10, .i x11, .i x12, .i x13, .i x14, .i x15, .i x16, .i x17, .i x18, .i x19, .i x20, .i x21, .i x22, .i x23, .i x24, .i x25, .i x26, .i x27, .i x28, .i x29, .i x30, .i x31, .i x32, .i x33, .i x34, .i x35, .i x36]) = L_turn_Both_0 F (fun (z0 : Int) (z1 : Int) (z2 : Int) (z3 : Int) (z4 : Int) (z5 : Int) (z6 : Int) (z7 : Int) (z8 : Int) (z9 : Int) (z10 : Int) (z11 : Int) (z12 : Int) (z13 : Int) (z14 : Int) (z15 : Int) (z16 : Int) (z17 : Int) (z18 : Int) (z19 : Int) (z20 : Int) (z21 : Int) (z22 : Int) (z23 : Int) (z24 : Int) (z25 : Int) (z26 : Int) (z27 : Int) (z28 : Int) (z29 : Int) (z30 : Int) (z31 : Int) (z32 : Int) (z33 : Int) (z34 : Int) (z35 : Int) (z36 : Int) => k (.exit 0) (fS T_turn_Both_0_0 [.i z0, .i z1, .i z2, .i z3, .i z4, .i z5, .i z6, .i z7, .i z8, .i z9, .i z10, .i z11, .i z12, .i z13, .i z14, .i z15, .i z16, .i z17, .i z18, .i z19, .i z20, .i z21, .i z22, .i z23, .i z24, .i z25, .i z26, .i z27, .i z28, .i z29, .i z30, .i z31, .i z32, .i z33, .i z34, .i z35, .i z36])) n x0 x1 x2 x3 x4 x5 x6 x7 x8 x9 x10 x11 x12 x13 x14 x15 x16 x17 x18 x19 x20 x21 x22 x23 x24 x25 x26 x27 x28 x29 x30 x31 x32 x33 x34 x35 x36
  | 0, _, _, _, _, _, _, _, _, _, _, _, _, _, _, _, _, _, _, _, _, _, _, _, _, _, _, _, _, _, _, _, _, _, _, _, _, _ => rfl
  | n + 1, x0, x1, x2, x3, x4, x5, x6, x7, x8, x9, x10, x11, x12, x13, x14, x15, x16, x17, x18, x19, x20, x21, x22, x23, x24, x25, x26, x27, x28, x29, x30, x31, x32, x33, x34, x35, x36 => by
    have h0 : ∀ (ok_turn_angles : Nat → Bool) (o_turn_angles_0 : Nat → Int) (o_turn_angles_1 : Nat → Int) (o_turn_angles_2 : Nat → Int) (o_turn_angles_3 : Nat → Int) (o_turn_angles_4 : Nat → Int) (o_turn_angles_5 : Nat → Int) (o_turn_angles_6 : Nat → Int) (o_turn_angles_7 : Nat → Int) (o_turn_angles_8 : Nat → Int) (o_turn_angles_9 : Nat → Int) (o_turn_angles_10 : Nat → Int) (o_turn_angles_11 : Nat → Int) (o_turn_angles_12 : Nat → Int) (o_turn_angles_13 : Nat → Int) (o_turn_angles_14 : Nat → Int) (o_turn_angles_15 : Nat → Int) (o_turn_angles_16 : Nat → Int) (o_turn_angles_17 : Nat → Int) (o_turn_angles_18 : Nat → Int) (o_turn_angles_19 : Nat → Int) (o_turn_angles_20 : Nat → Int) (o_turn_angles_21 : Nat → Int) (o_turn_angles_22 : Nat → Int) (o_turn_angles_23 : Nat → Int) (o_turn_angles_24 : Nat → Int) (o_turn_angles_25 : Nat → Int) (o_turn_angles_26 : Nat → Int) (o_turn_angles_27 : Nat → Int) (o_turn_angles_28 : Nat → Int) (o_turn_angles_29 : Nat → Int) (ok_turn_pair_turned : Nat → Int → Int → Int → Bool → Bool) (o_turn_pair_turned_0 : Nat → Int → Int → Int → Bool → Int) (o_turn_pair_turned_1 : Nat → Int → Int → Int → Bool → Int) (ok_turn_unit : Nat → Int → Bool) (o_turn_unit_0 : Nat → Int → Int) (L_turn_Both_0 : Nat → (Int → Int → Int → Int → Int → Int → Int → Int → Int → Int → Int → Int → Int → Int → Int → Int → Int → Int → Int → Int → Int → Int → Int → Int → Int → Int → Int → Int → Int → Int → Int → Int → Int → Int → Int → Int → Int → R) → Nat → Int → Int → Int → Int → Int → Int → Int → Int → Int → Int → Int → Int → Int → Int → Int → Int → Int → Int → Int → Int → Int → Int → Int → Int → Int → Int → Int → Int → Int → Int → Int → Int → Int → Int → Int → Int → Int → R) (L_turn_Both_1 : Nat → (Int → Int → Int → Int → Int → Int → Int → Int → Int → Int → Int → Int → Int → Int → Int → Int → Int → Int → Int → Int → Int → Int → Int → Int → Int → Int → Int → Int → Int → Int → Int → Int → Int → Int → Int → Int → Int → Int → Int → Int → Int → R) → Nat → Int → Int → Int → Int → Int → Int → Int → Int → Int → Int → Int → Int → Int → Int → Int → Int → Int → Int → Int → Int → Int → Int → Int → Int → Int → Int → Int → Int → Int → Int → Int → Int → Int → Int → Int → Int → Int → Int → Int → Int → Int → R), iterC (codeL PP (words [(76, spec ti_turn_angles to_turn_angles (fun q => (ok_turn_angles F )) (fun q => [.i (o_turn_angles_0 F ), .i (o_turn_angles_1 F ), .i (o_turn_angles_2 F ), .i (o_turn_angles_3 F ), .i (o_turn_angles_4 F ), .i (o_turn_angles_5 F ), .i (o_turn_angles_6 F ), .i (o_turn_angles_7 F ), .i (o_turn_angles_8 F ), .i (o_turn_angles_9 F ), .i (o_turn_angles_10 F ), .i (o_turn_angles_11 F ), .i (o_turn_angles_12 F ), .i (o_turn_angles_13 F ), .i (o_turn_angles_14 F ), .i (o_turn_angles_15 F ), .i (o_turn_angles_16 F ), .i (o_turn_angles_17 F ), .i (o_turn_angles_18 F ), .i (o_turn_angles_19 F ), .i (o_turn_angles_20 F ), .i (o_turn_angles_21 F ), .i (o_turn_angles_22 F ), .i (o_turn_angles_23 F ), .i (o_turn_angles_24 F ), .i (o_turn_angles_25 F ), .i (o_turn_angles_26 F ), .i (o_turn_angles_27 F ), .i (o_turn_angles_28 F ), .i (o_turn_angles_29 F )])), (77, spec ti_turn_pair_turned to_turn_pair_turned (fun q => (ok_turn_pair_turned F (atI (nth q 0)) (atI (nth q 1)) (atI (nth q 2)) (atB (nth q 3)))) (fun q => [.i (o_turn_pair_turned_0 F (atI (nth q 0)) (atI (nth q 1)) (atI (nth q 2)) (atB (nth q 3))), .i (o_turn_pair_turned_1 F (atI (nth q 0)) (atI (nth q 1)) (atI (nth q 2)) (atB (nth q 3)))])), (78, spec ti_turn_unit to_turn_unit (fun q => (ok_turn_unit F (atI (nth q 0)))) (fun q => [.i (o_turn_unit_0 F (atI (nth q 0)))]))]) c_turn_Both (tabI c_turn_Both [⟨0, T_turn_Both_0, fun k q => L_turn_Both_0 F (fun (z0 : Int) (z1 : Int) (z2 : Int) (z3 : Int) (z4 : Int) (z5 : Int) (z6 : Int) (z7 : Int) (z8 : Int) (z9 : Int) (z10 : Int) (z11 : Int) (z12 : Int) (z13 : Int) (z14 : Int) (z15 : Int) (z16 : Int) (z17 : Int) (z18 : Int) (z19 : Int) (z20 : Int) (z21 : Int) (z22 : Int) (z23 : Int) (z24 : Int) (z25 : Int) (z26 : Int) (z27 : Int) (z28 : Int) (z29 : Int) (z30 : Int) (z31 : Int) (z32 : Int) (z33 : Int) (z34 : Int) (z35 : Int) (z36 : Int) => k (.exit 0) (fS T_turn_Both_0_0 [.i z0, .i z1, .i z2, .i z3, .i z4, .i z5, .i z6, .i z7, .i z8, .i z9, .i z10, .i z11, .i z12, .i z13, .i z14, .i z15, .i z16, .i z17, .i z18, .i z19, .i z20, .i z21, .i z22, .i z23, .i z24, .i z25, .i z26, .i z27, .i z28, .i z29, .i z30, .i z31, .i z32, .i z33, .i z34, .i z35, .i z36])) F (atI (nth q 0)) (atI (nth q 1)) (atI (nth q 2)) (atI (nth q 3)) (atI (nth q 4)) (atI (nth q 5)) (atI (nth q 6)) (atI (nth q 7)) (atI (nth q 8)) (atI (nth q 9)) (atI (nth q 10)) (atI (nth q 11)) (atI (nth q 12)) (atI (nth q 13)) (atI (nth q 14)) (atI (nth q 15)) (atI (nth q 16)) (atI (nth q 17)) (atI (nth q 18)) (atI (nth q 19)) (atI (nth q 20)) (atI (nth q 21)) (atI (nth q 22)) (atI (nth q 23)) (atI (nth q 24)) (atI (nth q 25)) (atI (nth q 26)) (atI (nth q 27)) (atI (nth q 28)) (atI (nth q 29)) (atI (nth q 30)) (atI (nth q 31)) (atI (nth q 32)) (atI (nth q 33)) (atI (nth q 34)) (atI (nth q 35)) (atI (nth q 36))⟩, ⟨2, T_turn_Both_1, fun k q => L_turn_Both_1 F (fun (z0 : Int) (z1 : Int) (z2 : Int) (z3 : Int) (z4 : Int) (z5 : Int) (z6 : Int) (z7 : Int) (z8 : Int) (z9 : Int) (z10 : Int) (z11 : Int) (z12 : Int) (z13 : Int) (z14 : Int) (z15 : Int) (z16 : Int) (z17 : Int) (z18 : Int) (z19 : Int) (z20 : Int) (z21 : Int) (z22 : Int) (z23 : Int) (z24 : Int) (z25 : Int) (z26 : Int) (z27 : Int) (z28 : Int) (z29 : Int) (z30 : Int) (z31 : Int) (z32 : Int) (z33 : Int) (z34 : Int) (z35 : Int) (z36 : Int) (z37 : Int) (z38 : Int) (z39 : Int) (z40 : Int) => k (.exit 2) (fS T_turn_Both_1_0 [.i z0, .i z1, .i z2, .i z3, .i z4, .i z5, .i z6, .i z7, .i z8, .i z9, .i z10, .i z11, .i z12, .i z13, .i z14, .i z15, .i z16, .i z17, .i z18, .i z19, .i z20, .i z21, .i z22, .i z23, .i z24, .i z25, .i z26, .i z27, .i z28, .i z29, .i z30, .i z31, .i z32, .i z33, .i z34, .i z35, .i z36, .i z37, .i z38, .i z39, .i z40])) F (atI (nth q 0)) (atI (nth q 1)) (atI (nth q 2)) (atI (nth q 3)) (atI (nth q 4)) (atI (nth q 5)) (atI (nth q 6)) (atI (nth q 7)) (atI (nth q 8)) (atI (nth q 9)) (atI (nth q 10)) (atI (nth q 11)) (atI (nth q 12)) (atI (nth q 13)) (atI (nth q 14)) (atI (nth q 15)) (atI (nth q 16)) (atI (nth q 17)) (atI (nth q 18)) (atI (nth q 19)) (atI (nth q 20)) (atI (nth q 21)) (atI (nth q 22)) (atI (nth q 23)) (atI (nth q 24)) (atI (nth q 25)) (atI (nth q 26)) (atI (nth q 27)) (atI (nth q 28)) (atI (nth q 29)) (atI (nth q 30)) (atI (nth q 31)) (atI (nth q 32)) (atI (nth q 33)) (atI (nth q 34)) (atI (nth q 35)) (atI (nth q 36)) (atI (nth q 37)) (atI (nth q 38)) (atI (nth q 39)) (atI (nth q 40))⟩]) (tabJ []) (loopAt PP 25 0) 0) (headOf c_turn_Both 0) k (n + 1) (fS T_turn_Both_0 [.i x0, .i x1, .i x2, .i x3, .i x4, .i x5, .i x6, .i x7, .i x8, .i x9, .i x10, .i x11, .i x12, .i x13, .i x14, .i x15, .i x16, .i x17, .i x18, .i x19, .i x20, .i x21, .i x22, .i x23, .i x24, .i x25, .i x26, .i x27, .i x28, .i x29, .i x30, .i x31, .i x32, .i x33, .i x34, .i x35, .i x36]) = (fun (rc : Int → Int → Int → Int → Int → Int → Int → Int → Int → Int → Int → Int → Int → Int → Int → Int → Int → Int → Int → Int → Int → Int → Int → Int → Int → Int → Int → Int → Int → Int → Int → Int → Int → Int → Int → Int → Int → R) (ex0 : Int → Int → Int → Int → Int → Int → Int → Int → Int → Int → Int → Int → Int → Int → Int → Int → Int → Int → Int → Int → Int → Int → Int → Int → Int → Int → Int → Int → Int → Int → Int → Int → Int → Int → Int → Int → Int → R) (x0 : Int) (x1 : Int) (x2 : Int) (x3 : Int) (x4 : Int) (x5 : Int) (x6 : Int) (x7 : Int) (x8 : Int) (x9 : Int) (x10 : Int) (x11 : Int) (x12 : Int) (x13 : Int) (x14 : Int) (x15 : Int) (x16 : Int) (x17 : Int) (x18 : Int) (x19 : Int) (x20 : Int) (x21 : Int) (x22 : Int) (x23 : Int) (x24 : Int) (x25 : Int) (x26 : Int) (x27 : Int) (x28 : Int) (x29 : Int) (x30 : Int) (x31 : Int) (x32 : Int) (x33 : Int) (x34 : Int) (x35 : Int) (x36 : Int) => (
  bif ((decide (x34 < 30))) then (
    bif (((decide (0 ≤ x34)) && (decide (x34 < 30))) && ((isI .i64 [.v (.int .i64 x4), .v (.int .i64 x5), .v (.int .i64 x6), .v (.int .i64 x7), .v (.int .i64 x8), .v (.int .i64 x9), .v (.int .i64 x10), .v (.int .i64 x11), .v (.int .i64 x12), .v (.int .i64 x13), .v (.int .i64 x14), .v (.int .i64 x15), .v (.int .i64 x16), .v (.int .i64 x17), .v (.int .i64 x18), .v (.int .i64 x19), .v (.int .i64 x20), .v (.int .i64 x21), .v (.int .i64 x22), .v (.int .i64 x23), .v (.int .i64 x24), .v (.int .i64 x25), .v (.int .i64 x26), .v (.int .i64 x27), .v (.int .i64 x28), .v (.int .i64 x29), .v (.int .i64 x30), .v (.int .i64 x31), .v (.int .i64 x32), .v (.int .i64 x33)][((Int.toNat x34) * 1)]?) && true)) then (
      let v70 : Int := (iv [.v (.int .i64 x4), .v (.int .i64 x5), .v (.int .i64 x6), .v (.int .i64 x7), .v (.int .i64 x8), .v (.int .i64 x9), .v (.int .i64 x10), .v (.int .i64 x11), .v (.int .i64 x12), .v (.int .i64 x13), .v (.int .i64 x14), .v (.int .i64 x15), .v (.int .i64 x16), .v (.int .i64 x17), .v (.int .i64 x18), .v (.int .i64 x19), .v (.int .i64 x20), .v (.int .i64 x21), .v (.int .i64 x22), .v (.int .i64 x23), .v (.int .i64 x24), .v (.int .i64 x25), .v (.int .i64 x26), .v (.int .i64 x27), .v (.int .i64 x28), .v (.int .i64 x29), .v (.int .i64 x30), .v (.int .i64 x31), .v (.int .i64 x32), .v (.int .i64 x33)][((Int.toNat x34) * 1)]?)
      let v71 : Bool := (decide (x3 ≥ 0))
      bif (ok_turn_pair_turned F x35 x36 x34 v71) then (
        let v78 : Int := (o_turn_pair_turned_0 F x35 x36 x34 v71)
        let v79 : Int := (o_turn_pair_turned_1 F x35 x36 x34 v71)
        bif v71 then (
          rc x0 x1 x2 ((IntKind.wrap .i64 (x3 + ((IntKind.wrap .i64 (0 - v70)))))) x4 x5 x6 x7 x8 x9 x10 x11 x12 x13 x14 x15 x16 x17 x18 x19 x20 x21 x22 x23 x24 x25 x26 x27 x28 x29 x30 x31 x32 x33 ((IntKind.wrap .i64 (x34 + 1))) v78 v79)
        else (
          rc x0 x1 x2 ((IntKind.wrap .i64 (x3 + v70))) x4 x5 x6 x7 x8 x9 x10 x11 x12 x13 x14 x15 x16 x17 x18 x19 x20 x21 x22 x23 x24 x25 x26 x27 x28 x29 x30 x31 x32 x33 ((IntKind.wrap .i64 (x34 + 1))) v78 v79))
      else (
        none))
    else (
      none))
  else (
    ex0 x0 x1 x2 x3 x4 x5 x6 x7 x8 x9 x10 x11 x12 x13 x14 x15 x16 x17 x18 x19 x20 x21 x22 x23 x24 x25 x26 x27 x28 x29 x30 x31 x32 x33 x34 x35 x36) : R)) (fun (y0 : Int) (y1 : Int) (y2 : Int) (y3 : Int) (y4 : Int) (y5 : Int) (y6 : Int) (y7 : Int) (y8 : Int) (y9 : Int) (y10 : Int) (y11 : Int) (y12 : Int) (y13 : Int) (y14 : Int) (y15 : Int) (y16 : Int) (y17 : Int) (y18 : Int) (y19 : Int) (y20 : Int) (y21 : Int) (y22 : Int) (y23 : Int) (y24 : Int) (y25 : Int) (y26 : Int) (y27 : Int) (y28 : Int) (y29 : Int) (y30 : Int) (y31 : Int) (y32 : Int) (y33 : Int) (y34 : Int) (y35 : Int) (y36 : Int) => iterC (codeL PP (words [(76, spec ti_turn_angles to_turn_angles (fun q => (ok_turn_angles F )) (fun q => [.i (o_turn_angles_0 F ), .i (o_turn_angles_1 F ), .i (o_turn_angles_2 F ), .i (o_turn_angles_3 F ), .i (o_turn_angles_4 F ), .i (o_turn_angles_5 F ), .i (o_turn_angles_6 F ), .i (o_turn_angles_7 F ), .i (o_turn_angles_8 F ), .i (o_turn_angles_9 F ), .i (o_turn_angles_10 F ), .i (o_turn_angles_11 F ), .i (o_turn_angles_12 F ), .i (o_turn_angles_13 F ), .i (o_turn_angles_14 F ), .i (o_turn_angles_15 F ), .i (o_turn_angles_16 F ), .i (o_turn_angles_17 F ), .i (o_turn_angles_18 F ), .i (o_turn_angles_19 F ), .i (o_turn_angles_20 F ), .i (o_turn_angles_21 F ), .i (o_turn_angles_22 F ), .i (o_turn_angles_23 F ), .i (o_turn_angles_24 F ), .i (o_turn_angles_25 F ), .i (o_turn_angles_26 F ), .i (o_turn_angles_27 F ), .i (o_turn_angles_28 F ), .i (o_turn_angles_29 F )])), (77, spec ti_turn_pair_turned to_turn_pair_turned (fun q => (ok_turn_pair_turned F (atI (nth q 0)) (atI (nth q 1)) (atI (nth q 2)) (atB (nth q 3)))) (fun q => [.i (o_turn_pair_turned_0 F (atI (nth q 0)) (atI (nth q 1)) (atI (nth q 2)) (atB (nth q 3))), .i (o_turn_pair_turned_1 F (atI (nth q 0)) (atI (nth q 1)) (atI (nth q 2)) (atB (nth q 3)))])), (78, spec ti_turn_unit to_turn_unit (fun q => (ok_turn_unit F (atI (nth q 0)))) (fun q => [.i (o_turn_unit_0 F (atI (nth q 0)))]))]) c_turn_Both (tabI c_turn_Both [⟨0, T_turn_Both_0, fun k q => L_turn_Both_0 F (fun (z0 : Int) (z1 : Int) (z2 : Int) (z3 : Int) (z4 : Int) (z5 : Int) (z6 : Int) (z7 : Int) (z8 : Int) (z9 : Int) (z10 : Int) (z11 : Int) (z12 : Int) (z13 : Int) (z14 : Int) (z15 : Int) (z16 : Int) (z17 : Int) (z18 : Int) (z19 : Int) (z20 : Int) (z21 : Int) (z22 : Int) (z23 : Int) (z24 : Int) (z25 : Int) (z26 : Int) (z27 : Int) (z28 : Int) (z29 : Int) (z30 : Int) (z31 : Int) (z32 : Int) (z33 : Int) (z34 : Int) (z35 : Int) (z36 : Int) => k (.exit 0) (fS T_turn_Both_0_0 [.i z0, .i z1, .i z2, .i z3, .i z4, .i z5, .i z6, .i z7, .i z8, .i z9, .i z10, .i z11, .i z12, .i z13, .i z14, .i z15, .i z16, .i z17, .i z18, .i z19, .i z20, .i z21, .i z22, .i z23, .i z24, .i z25, .i z26, .i z27, .i z28, .i z29, .i z30, .i z31, .i z32, .i z33, .i z34, .i z35, .i z36])) F (atI (nth q 0)) (atI (nth q 1)) (atI (nth q 2)) (atI (nth q 3)) (atI (nth q 4)) (atI (nth q 5)) (atI (nth q 6)) (atI (nth q 7)) (atI (nth q 8)) (atI (nth q 9)) (atI (nth q 10)) (atI (nth q 11)) (atI (nth q 12)) (atI (nth q 13)) (atI (nth q 14)) (atI (nth q 15)) (atI (nth q 16)) (atI (nth q 17)) (atI (nth q 18)) (atI (nth q 19)) (atI (nth q 20)) (atI (nth q 21)) (atI (nth q 22)) (atI (nth q 23)) (atI (nth q 24)) (atI (nth q 25)) (atI (nth q 26)) (atI (nth q 27)) (atI (nth q 28)) (atI (nth q 29)) (atI (nth q 30)) (atI (nth q 31)) (atI (nth q 32)) (atI (nth q 33)) (atI (nth q 34)) (atI (nth q 35)) (atI (nth q 36))⟩, ⟨2, T_turn_Both_1, fun k q => L_turn_Both_1 F (fun (z0 : Int) (z1 : Int) (z2 : Int) (z3 : Int) (z4 : Int) (z5 : Int) (z6 : Int) (z7 : Int) (z8 : Int) (z9 : Int) (z10 : Int) (z11 : Int) (z12 : Int) (z13 : Int) (z14 : Int) (z15 : Int) (z16 : Int) (z17 : Int) (z18 : Int) (z19 : Int) (z20 : Int) (z21 : Int) (z22 : Int) (z23 : Int) (z24 : Int) (z25 : Int) (z26 : Int) (z27 : Int) (z28 : Int) (z29 : Int) (z30 : Int) (z31 : Int) (z32 : Int) (z33 : Int) (z34 : Int) (z35 : Int) (z36 : Int) (z37 : Int) (z38 : Int) (z39 : Int) (z40 : Int) => k (.exit 2) (fS T_turn_Both_1_0 [.i z0, .i z1, .i z2, .i z3, .i z4, .i z5, .i z6, .i z7, .i z8, .i z9, .i z10, .i z11, .i z12, .i z13, .i z14, .i z15, .i z16, .i z17, .i z18, .i z19, .i z20, .i z21, .i z22, .i z23, .i z24, .i z25, .i z26, .i z27, .i z28, .i z29, .i z30, .i z31, .i z32, .i z33, .i z34, .i z35, .i z36, .i z37, .i z38, .i z39, .i z40])) F (atI (nth q 0)) (atI (nth q 1)) (atI (nth q 2)) (atI (nth q 3)) (atI (nth q 4)) (atI (nth q 5)) (atI (nth q 6)) (atI (nth q 7)) (atI (nth q 8)) (atI (nth q 9)) (atI (nth q 10)) (atI (nth q 11)) (atI (nth q 12)) (atI (nth q 13)) (atI (nth q 14)) (atI (nth q 15)) (atI (nth q 16)) (atI (nth q 17)) (atI (nth q 18)) (atI (nth q 19)) (atI (nth q 20)) (atI (nth q 21)) (atI (nth q 22)) (atI (nth q 23)) (atI (nth q 24)) (atI (nth q 25)) (atI (nth q 26)) (atI (nth q 27)) (atI (nth q 28)) (atI (nth q 29)) (atI (nth q 30)) (atI (nth q 31)) (atI (nth q 32)) (atI (nth q 33)) (atI (nth q 34)) (atI (nth q 35)) (atI (nth q 36)) (atI (nth q 37)) (atI (nth q 38)) (atI (nth q 39)) (atI (nth q 40))⟩]) (tabJ []) (loopAt PP 25 0) 0) (headOf c_turn_Both 0) k n (fS T_turn_Both_0 [.i y0, .i y1, .i y2, .i y3, .i y4, .i y5, .i y6, .i y7, .i y8, .i y9, .i y10, .i y11, .i y12, .i y13, .i y14, .i y15, .i y16, .i y17, .i y18, .i y19, .i y20, .i y21, .i y22, .i y23, .i y24, .i y25, .i y26, .i y27, .i y28, .i y29, .i y30, .i y31, .i y32, .i y33, .i y34, .i y35, .i y36])) (fun (z0 : Int) (z1 : Int) (z2 : Int) (z3 : Int) (z4 : Int) (z5 : Int) (z6 : Int) (z7 : Int) (z8 : Int) (z9 : Int) (z10 : Int) (z11 : Int) (z12 : Int) (z13 : Int) (z14 : Int) (z15 : Int) (z16 : Int) (z17 : Int) (z18 : Int) (z19 : Int) (z20 : Int) (z21 : Int) (z22 : Int) (z23 : Int) (z24 : Int) (z25 : Int) (z26 : Int) (z27 : Int) (z28 : Int) (z29 : Int) (z30 : Int) (z31 : Int) (z32 : Int) (z33 : Int) (z34 : Int) (z35 : Int) (z36 : Int) => k (.exit 0) (fS T_turn_Both_0_0 [.i z0, .i z1, .i z2, .i z3, .i z4, .i z5, .i z6, .i z7, .i z8, .i z9, .i z10, .i z11, .i z12, .i z13, .i z14, .i z15, .i z16, .i z17, .i z18, .i z19, .i z20, .i z21, .i z22, .i z23, .i z24, .i z25, .i z26, .i z27, .i z28, .i z29, .i z30, .i z31, .i z32, .i z33, .i z34, .i z35, .i z36])) x0 x1 x2 x3 x4 x5 x6 x7 x8 x9 x10 x11 x12 x13 x14 x15 x16 x17 x18 x19 x20 x21 x22 x23 x24 x25 x26 x27 x28 x29 x30 x31 x32 x33 x34 x35 x36 := by
      intros
      kernel_rfl
    have h : iterC (codeL PP (S_turn_Both F) c_turn_Both (I_turn_Both F) (J_turn_Both F) (loopAt PP 25 0) 0) (headOf c_turn_Both 0) k (n + 1) (fS T_turn_Both_0 [.i x0, .i x1, .i x2, .i x3, .i x4, .i x5, .i x6, .i x7, .i x8, .i x9, .i x10, .i x11, .i x12, .i x13, .i x14, .i x15, .i x16, .i x17, .i x18, .i x19, .i x20, .i x21, .i x22, .i x23, .i x24, .i x25, .i x26, .i x27, .i x28, .i x29, .i x30, .i x31, .i x32, .i x33, .i x34, .i x35, .i x36]) = B_turn_Both_0 F (fun (y0 : Int) (y1 : Int) (y2 : Int) (y3 : Int) (y4 : Int) (y5 : Int) (y6 : Int) (y7 : Int) (y8 : Int) (y9 : Int) (y10 : Int) (y11 : Int) (y12 : Int) (y13 : Int) (y14 : Int) (y15 : Int) (y16 : Int) (y17 : Int) (y18 : Int) (y19 : Int) (y20 : Int) (y21 : Int) (y22 : Int) (y23 : Int) (y24 : Int) (y25 : Int) (y26 : Int) (y27 : Int) (y28 : Int) (y29 : Int) (y30 : Int) (y31 : Int) (y32 : Int) (y33 : Int) (y34 : Int) (y35 : Int) (y36 : Int) => iterC (codeL PP (S_turn_Both F) c_turn_Both (I_turn_Both F) (J_turn_Both F) (loopAt PP 25 0) 0) (headOf c_turn_Both 0) k n (fS T_turn_Both_0 [.i y0, .i y1, .i y2, .i y3, .i y4, .i y5, .i y6, .i y7, .i y8, .i y9, .i y10, .i y11, .i y12, .i y13, .i y14, .i y15, .i y16, .i y17, .i y18, .i y19, .i y20, .i y21, .i y22, .i y23, .i y24, .i y25, .i y26, .i y27, .i y28, .i y29, .i y30, .i y31, .i y32, .i y33, .i y34, .i y35, .i y36])) (fun (z0 : Int) (z1 : Int) (z2 : Int) (z3 : Int) (z4 : Int) (z5 : Int) (z6 : Int) (z7 : Int) (z8 : Int) (z9 : Int) (z10 : Int) (z11 : Int) (z12 : Int) (z13 : Int) (z14 : Int) (z15 : Int) (z16 : Int) (z17 : Int) (z18 : Int) (z19 : Int) (z20 : Int) (z21 : Int) (z22 : Int) (z23 : Int) (z24 : Int) (z25 : Int) (z26 : Int) (z27 : Int) (z28 : Int) (z29 : Int) (z30 : Int) (z31 : Int) (z32 : Int) (z33 : Int) (z34 : Int) (z35 : Int) (z36 : Int) => k (.exit 0) (fS T_turn_Both_0_0 [.i z0, .i z1, .i z2, .i z3, .i z4, .i z5, .i z6, .i z7, .i z8, .i z9, .i z10, .i z11, .i z12, .i z13, .i z14, .i z15, .i z16, .i z17, .i z18, .i z19, .i z20, .i z21, .i z22, .i z23, .i z24, .i z25, .i z26, .i z27, .i z28, .i z29, .i z30, .i z31, .i z32, .i z33, .i z34, .i z35, .i z36])) x0 x1 x2 x3 x4 x5 x6 x7 x8 x9 x10 x11 x12 x13 x14 x15 x16 x17 x18 x19 x20 x21 x22 x23 x24 x25 x26 x27 x28 x29 x30 x31 x32 x33 x34 x35 x36 := (h0 ok_turn_angles o_turn_angles_0 o_turn_angles_1 o_turn_angles_2 o_turn_angles_3 o_turn_angles_4 o_turn_angles_5 o_turn_angles_6 o_turn_angles_7 o_turn_angles_8 o_turn_angles_9 o_turn_angles_10 o_turn_angles_11 o_turn_angles_12 o_turn_angles_13 o_turn_angles_14 o_turn_angles_15 o_turn_angles_16 o_turn_angles_17 o_turn_angles_18 o_turn_angles_19 o_turn_angles_20 o_turn_angles_21 o_turn_angles_22 o_turn_angles_23 o_turn_angles_24 o_turn_angles_25 o_turn_angles_26 o_turn_angles_27 o_turn_angles_28 o_turn_angles_29 ok_turn_pair_turned o_turn_pair_turned_0 o_turn_pair_turned_1 ok_turn_unit o_turn_unit_0 L_turn_Both_0 L_turn_Both_1).trans (by kernel_rfl)
    rw [h]
    simp only [lL_turn_Both_0 F k n]
    rfl
theorem lL_turn_Both_1 (F : Nat) (k : Exit → VS → R) : ∀ (n : Nat) (x0 : Int) (x1 : Int) (x2 : Int) (x3 : Int) (x4 : Int) (x5 : Int) (x6 : Int) (x7 : Int) (x8 : Int) (x9 : Int) (x10 : Int) (x11 : Int) (x12 : Int) (x13 : Int) (x14 : Int) (x15 : Int) (x16 : Int) (x17 : Int) (x18 : Int) (x19 : Int) (x20 : Int) (x21 : Int) (x22 : Int) (x23 : Int) (x24 : Int) (x25 : Int) (x26 : Int) (x27 : Int) (x28 : Int) (x29 : Int) (x30 : Int) (x31 : Int) (x32 : Int) (x33 : Int) (x34 : Int) (x35 : Int) (x36 : Int) (x37 : Int) (x38 : Int) (x39 : Int) (x40 : Int), iterC (codeL PP (S_turn_Both F) c_turn_Both (I_turn_Both F) (J_turn_Both F) (loopAt PP 25 1) 2) (headOf c_turn_Both 2) k n (fS T_turn_Both_1 [.i x0, .i x1, .i x2, .i x3, .i x4, .i x5, .i x6, .i x7, .i x8, .i x9, .i x10, .i x11, .i x12, .i x13, .i x14, .i x15, .i x16, .i x17, .i x18, .i x19, .i x20, .i x21, .i x22, .i x23, .i x24, .i x25, .i x26, .i x27, .i x28, .i x29, .i x30, .i x31, .i x32, .i x33, .i x34, .i x35, .i x36, .i x37, .i x38, .i x39, .i x40]) = L_turn_Both_1 F (fun (z0 : Int) (z1 : Int) (z2 : Int) (z3 : Int) (z4 : Int) (z5 : Int) (z6 : Int) (z7 : Int) (z8 : Int) (z9 : Int) (z10 : Int) (z11 : Int) (z12 : Int) (z13 : Int) (z14 : Int) (z15 : Int) (z16 : Int) (z17 : Int) (z18 : Int) (z19 : Int) (z20 : Int) (z21 : Int) (z22 : Int) (z23 : Int) (z24 : Int) (z25 : Int) (z26 : Int) (z27 : Int) (z28 : Int) (z29 : Int) (z30 : Int) (z31 : Int) (z32 : Int) (z33 : Int) (z34 : Int) (z35 : Int) (z36 : Int) (z37 : Int) (z38 : Int) (z39 : Int) (z40 : Int) => k (.exit 2) (fS T_turn_Both_1_0 [.i z0, .i z1, .i z2, .i z3, .i z4, .i z5, .i z6, .i z7, .i z8, .i z9, .i z10, .i z11, .i z12, .i z13, .i z14, .i z15, .i z16, .i z17, .i z18, .i z19, .i z20, .i z21, .i z22, .i z23, .i z24, .i z25, .i z26, .i z27, .i z28, .i z29, .i z30, .i z31, .i z32, .i z33, .i z34, .i z35, .i z36, .i z37, .i z38, .i z39, .i z40])) n x0 x1 x2 x3 x4 x5 x6 x7 x8 x9 x10 x11 x12 x13 x14 x15 x16 x17 x18 x19 x20 x21 x22 x23 x24 x25 x26 x27 x28 x29 x30 x31 x32 x33 x34 x35 x36 x37 x38 x39 x40
  | 0, _, _, _, _, _, _, _, _, _, _, _, _, _, _, _, _, _, _, _, _, _, _, _, _, _, _, _, _, _, _, _, _, _, _, _, _, _, _, _, _, _ => rfl
  | n + 1, x0, x1, x2, x3, x4, x5, x6, x7, x8, x9, x10, x11, x12, x13, x14, x15, x16, x17, x18, x19, x20, x21, x22, x23, x24, x25, x26, x27, x28, x29, x30, x31, x32, x33, x34, x35, x36, x37, x38, x39, x40 => by
    have h0 : ∀ (ok_turn_angles : Nat → Bool) (o_turn_angles_0 : Nat → Int) (o_turn_angles_1 : Nat → Int) (o_turn_angles_2 : Nat → Int) (o_turn_angles_3 : Nat → Int) (o_turn_angles_4 : Nat → Int) (o_turn_angles_5 : Nat → Int) (o_turn_angles_6 : Nat → Int) (o_turn_angles_7 : Nat → Int) (o_turn_angles_8 : Nat → Int) (o_turn_angles_9 : Nat → Int) (o_turn_angles_10 : Nat → Int) (o_turn_angles_11 : Nat → Int) (o_turn_angles_12 : Nat → Int) (o_turn_angles_13 : Nat → Int) (o_turn_angles_14 : Nat → Int) (o_turn_angles_15 : Nat → Int) (o_turn_angles_16 : Nat → Int) (o_turn_angles_17 : Nat → Int) (o_turn_angles_18 : Nat → Int) (o_turn_angles_19 : Nat → Int) (o_turn_angles_20 : Nat → Int) (o_turn_angles_21 : Nat → Int) (o_turn_angles_22 : Nat → Int) (o_turn_angles_23 : Nat → Int) (o_turn_angles_24 : Nat → Int) (o_turn_angles_25 : Nat → Int) (o_turn_angles_26 : Nat → Int) (o_turn_angles_27 : Nat → Int) (o_turn_angles_28 : Nat → Int) (o_turn_angles_29 : Nat → Int) (ok_turn_pair_turned : Nat → Int → Int → Int → Bool → Bool) (o_turn_pair_turned_0 : Nat → Int → Int → Int → Bool → Int) (o_turn_pair_turned_1 : Nat → Int → Int → Int → Bool → Int) (ok_turn_unit : Nat → Int → Bool) (o_turn_unit_0 : Nat → Int → Int) (L_turn_Both_0 : Nat → (Int → Int → Int → Int → Int → Int → Int → Int → Int → Int → Int → Int → Int → Int → Int → Int → Int → Int → Int → Int → Int → Int → Int → Int → Int → Int → Int → Int → Int → Int → Int → Int → Int → Int → Int → Int → Int → R) → Nat → Int → Int → Int → Int → Int → Int → Int → Int → Int → Int → Int → Int → Int → Int → Int → Int → Int → Int → Int → Int → Int → Int → Int → Int → Int → Int → Int → Int → Int → Int → Int → Int → Int → Int → Int → Int → Int → R) (L_turn_Both_1 : Nat → (Int → Int → Int → Int → Int → Int → Int → Int → Int → Int → Int → Int → Int → Int → Int → Int → Int → Int → Int → Int → Int → Int → Int → Int → Int → Int → Int → Int → Int → Int → Int → Int → Int → Int → Int → Int → Int → Int → Int → Int → Int → R) → Nat → Int → Int → Int → Int → Int → Int → Int → Int → Int → Int → Int → Int → Int → Int → Int → Int → Int → Int → Int → Int → Int → Int → Int → Int → Int → Int → Int → Int → Int → Int → Int → Int → Int → Int → Int → Int → Int → Int → Int → Int → Int → R), iterC (codeL PP (words [(76, spec ti_turn_angles to_turn_angles (fun q => (ok_turn_angles F )) (fun q => [.i (o_turn_angles_0 F ), .i (o_turn_angles_1 F ), .i (o_turn_angles_2 F ), .i (o_turn_angles_3 F ), .i (o_turn_angles_4 F ), .i (o_turn_angles_5 F ), .i (o_turn_angles_6 F ), .i (o_turn_angles_7 F ), .i (o_turn_angles_8 F ), .i (o_turn_angles_9 F ), .i (o_turn_angles_10 F ), .i (o_turn_angles_11 F ), .i (o_turn_angles_12 F ), .i (o_turn_angles_13 F ), .i (o_turn_angles_14 F ), .i (o_turn_angles_15 F ), .i (o_turn_angles_16 F ), .i (o_turn_angles_17 F ), .i (o_turn_angles_18 F ), .i (o_turn_angles_19 F ), .i (o_turn_angles_20 F ), .i (o_turn_angles_21 F ), .i (o_turn_angles_22 F ), .i (o_turn_angles_23 F ), .i (o_turn_angles_24 F ), .i (o_turn_angles_25 F ), .i (o_turn_angles_26 F ), .i (o_turn_angles_27 F ), .i (o_turn_angles_28 F ), .i (o_turn_angles_29 F )])), (77, spec ti_turn_pair_turned to_turn_pair_turned (fun q => (ok_turn_pair_turned F (atI (nth q 0)) (atI (nth q 1)) (atI (nth q 2)) (atB (nth q 3)))) (fun q => [.i (o_turn_pair_turned_0 F (atI (nth q 0)) (atI (nth q 1)) (atI (nth q 2)) (atB (nth q 3))), .i (o_turn_pair_turned_1 F (atI (nth q 0)) (atI (nth q 1)) (atI (nth q 2)) (atB (nth q 3)))])), (78, spec ti_turn_unit to_turn_unit (fun q => (ok_turn_unit F (atI (nth q 0)))) (fun q => [.i (o_turn_unit_0 F (atI (nth q 0)))]))]) c_turn_Both (tabI c_turn_Both [⟨0, T_turn_Both_0, fun k q => L_turn_Both_0 F (fun (z0 : Int) (z1 : Int) (z2 : Int) (z3 : Int) (z4 : Int) (z5 : Int) (z6 : Int) (z7 : Int) (z8 : Int) (z9 : Int) (z10 : Int) (z11 : Int) (z12 : Int) (z13 : Int) (z14 : Int) (z15 : Int) (z16 : Int) (z17 : Int) (z18 : Int) (z19 : Int) (z20 : Int) (z21 : Int) (z22 : Int) (z23 : Int) (z24 : Int) (z25 : Int) (z26 : Int) (z27 : Int) (z28 : Int) (z29 : Int) (z30 : Int) (z31 : Int) (z32 : Int) (z33 : Int) (z34 : Int) (z35 : Int) (z36 : Int) => k (.exit 0) (fS T_turn_Both_0_0 [.i z0, .i z1, .i z2, .i z3, .i z4, .i z5, .i z6, .i z7, .i z8, .i z9, .i z10, .i z11, .i z12, .i z13, .i z14, .i z15, .i z16, .i z17, .i z18, .i z19, .i z20, .i z21, .i z22, .i z23, .i z24, .i z25, .i z26, .i z27, .i z28, .i z29, .i z30, .i z31, .i z32, .i z33, .i z34, .i z35, .i z36])) F (atI (nth q 0)) (atI (nth q 1)) (atI (nth q 2)) (atI (nth q 3)) (atI (nth q 4)) (atI (nth q 5)) (atI (nth q 6)) (atI (nth q 7)) (atI (nth q 8)) (atI (nth q 9)) (atI (nth q 10)) (atI (nth q 11)) (atI (nth q 12)) (atI (nth q 13)) (atI (nth q 14)) (atI (nth q 15)) (atI (nth q 16)) (atI (nth q 17)) (atI (nth q 18)) (atI (nth q 19)) (atI (nth q 20)) (atI (nth q 21)) (atI (nth q 22)) (atI (nth q 23)) (atI (nth q 24)) (atI (nth q 25)) (atI (nth q 26)) (atI (nth q 27)) (atI (nth q 28)) (atI (nth q 29)) (atI (nth q 30)) (atI (nth q 31)) (atI (nth q 32)) (atI (nth q 33)) (atI (nth q 34)) (atI (nth q 35)) (atI (nth q 36))⟩, ⟨2, T_turn_Both_1, fun k q => L_turn_Both_1 F (fun (z0 : Int) (z1 : Int) (z2 : Int) (z3 : Int) (z4 : Int) (z5 : Int) (z6 : Int) (z7 : Int) (z8 : Int) (z9 : Int) (z10 : Int) (z11 : Int) (z12 : Int) (z13 : Int) (z14 : Int) (z15 : Int) (z16 : Int) (z17 : Int) (z18 : Int) (z19 : Int) (z20 : Int) (z21 : Int) (z22 : Int) (z23 : Int) (z24 : Int) (z25 : Int) (z26 : Int) (z27 : Int) (z28 : Int) (z29 : Int) (z30 : Int) (z31 : Int) (z32 : Int) (z33 : Int) (z34 : Int) (z35 : Int) (z36 : Int) (z37 : Int) (z38 : Int) (z39 : Int) (z40 : Int) => k (.exit 2) (fS T_turn_Both_1_0 [.i z0, .i z1, .i z2, .i z3, .i z4, .i z5, .i z6, .i z7, .i z8, .i z9, .i z10, .i z11, .i z12, .i z13, .i z14, .i z15, .i z16, .i z17, .i z18, .i z19, .i z20, .i z21, .i z22, .i z23, .i z24, .i z25, .i z26, .i z27, .i z28, .i z29, .i z30, .i z31, .i z32, .i z33, .i z34, .i z35, .i z36, .i z37, .i z38, .i z39, .i z40])) F (atI (nth q 0)) (atI (nth q 1)) (atI (nth q 2)) (atI (nth q 3)) (atI (nth q 4)) (atI (nth q 5)) (atI (nth q 6)) (atI (nth q 7)) (atI (nth q 8)) (atI (nth q 9)) (atI (nth q 10)) (atI (nth q 11)) (atI (nth q 12)) (atI (nth q 13)) (atI (nth q 14)) (atI (nth q 15)) (atI (nth q 16)) (atI (nth q 17)) (atI (nth q 18)) (atI (nth q 19)) (atI (nth q 20)) (atI (nth q 21)) (atI (nth q 22)) (atI (nth q 23)) (atI (nth q 24)) (atI (nth q 25)) (atI (nth q 26)) (atI (nth q 27)) (atI (nth q 28)) (atI (nth q 29)) (atI (nth q 30)) (atI (nth q 31)) (atI (nth q 32)) (atI (nth q 33)) (atI (nth q 34)) (atI (nth q 35)) (atI (nth q 36)) (atI (nth q 37)) (atI (nth q 38)) (atI (nth q 39)) (atI (nth q 40))⟩]) (tabJ []) (loopAt PP 25 1) 2) (headOf c_turn_Both 2) k (n + 1) (fS T_turn_Both_1 [.i x0, .i x1, .i x2, .i x3, .i x4, .i x5, .i x6, .i x7, .i x8, .i x9, .i x10, .i x11, .i x12, .i x13, .i x14, .i x15, .i x16, .i x17, .i x18, .i x19, .i x20, .i x21, .i x22, .i x23, .i x24, .i x25, .i x26, .i x27, .i x28, .i x29, .i x30, .i x31, .i x32, .i x33, .i x34, .i x35, .i x36, .i x37, .i x38, .i x39, .i x40]) = (fun (rc : Int → Int → Int → Int → Int → Int → Int → Int → Int → Int → Int → Int → Int → Int → Int → Int → Int → Int → Int → Int → Int → Int → Int → Int → Int → Int → Int → Int → Int → Int → Int → Int → Int → Int → Int → Int → Int → Int → Int → Int → Int → R) (ex0 : Int → Int → Int → Int → Int → Int → Int → Int → Int → Int → Int → Int → Int → Int → Int → Int → Int → Int → Int → Int → Int → Int → Int → Int → Int → Int → Int → Int → Int → Int → Int → Int → Int → Int → Int → Int → Int → Int → Int → Int → Int → R) (x0 : Int) (x1 : Int) (x2 : Int) (x3 : Int) (x4 : Int) (x5 : Int) (x6 : Int) (x7 : Int) (x8 : Int) (x9 : Int) (x10 : Int) (x11 : Int) (x12 : Int) (x13 : Int) (x14 : Int) (x15 : Int) (x16 : Int) (x17 : Int) (x18 : Int) (x19 : Int) (x20 : Int) (x21 : Int) (x22 : Int) (x23 : Int) (x24 : Int) (x25 : Int) (x26 : Int) (x27 : Int) (x28 : Int) (x29 : Int) (x30 : Int) (x31 : Int) (x32 : Int) (x33 : Int) (x34 : Int) (x35 : Int) (x36 : Int) (x37 : Int) (x38 : Int) (x39 : Int) (x40 : Int) => (
  bif ((decide (x38 < x37))) then (
    rc x0 x1 x2 x3 ((IntKind.wrap .i64 (0 - x5))) x4 x6 x7 x8 x9 x10 x11 x12 x13 x14 x15 x16 x17 x18 x19 x20 x21 x22 x23 x24 x25 x26 x27 x28 x29 x30 x31 x32 x33 x34 x35 x36 x37 ((IntKind.wrap .u32 (x38 + 1))) x39 x40)
  else (
    ex0 x0 x1 x2 x3 x4 x5 x6 x7 x8 x9 x10 x11 x12 x13 x14 x15 x16 x17 x18 x19 x20 x21 x22 x23 x24 x25 x26 x27 x28 x29 x30 x31 x32 x33 x34 x35 x36 x37 x38 x39 x40) : R)) (fun (y0 : Int) (y1 : Int) (y2 : Int) (y3 : Int) (y4 : Int) (y5 : Int) (y6 : Int) (y7 : Int) (y8 : Int) (y9 : Int) (y10 : Int) (y11 : Int) (y12 : Int) (y13 : Int) (y14 : Int) (y15 : Int) (y16 : Int) (y17 : Int) (y18 : Int) (y19 : Int) (y20 : Int) (y21 : Int) (y22 : Int) (y23 : Int) (y24 : Int) (y25 : Int) (y26 : Int) (y27 : Int) (y28 : Int) (y29 : Int) (y30 : Int) (y31 : Int) (y32 : Int) (y33 : Int) (y34 : Int) (y35 : Int) (y36 : Int) (y37 : Int) (y38 : Int) (y39 : Int) (y40 : Int) => iterC (codeL PP (words [(76, spec ti_turn_angles to_turn_angles (fun q => (ok_turn_angles F )) (fun q => [.i (o_turn_angles_0 F ), .i (o_turn_angles_1 F ), .i (o_turn_angles_2 F ), .i (o_turn_angles_3 F ), .i (o_turn_angles_4 F ), .i (o_turn_angles_5 F ), .i (o_turn_angles_6 F ), .i (o_turn_angles_7 F ), .i (o_turn_angles_8 F ), .i (o_turn_angles_9 F ), .i (o_turn_angles_10 F ), .i (o_turn_angles_11 F ), .i (o_turn_angles_12 F ), .i (o_turn_angles_13 F ), .i (o_turn_angles_14 F ), .i (o_turn_angles_15 F ), .i (o_turn_angles_16 F ), .i (o_turn_angles_17 F ), .i (o_turn_angles_18 F ), .i (o_turn_angles_19 F ), .i (o_turn_angles_20 F ), .i (o_turn_angles_21 F ), .i (o_turn_angles_22 F ), .i (o_turn_angles_23 F ), .i (o_turn_angles_24 F ), .i (o_turn_angles_25 F ), .i (o_turn_angles_26 F ), .i (o_turn_angles_27 F ), .i (o_turn_angles_28 F ), .i (o_turn_angles_29 F )])), (77, spec ti_turn_pair_turned to_turn_pair_turned (fun q => (ok_turn_pair_turned F (atI (nth q 0)) (atI (nth q 1)) (atI (nth q 2)) (atB (nth q 3)))) (fun q => [.i (o_turn_pair_turned_0 F (atI (nth q 0)) (atI (nth q 1)) (atI (nth q 2)) (atB (nth q 3))), .i (o_turn_pair_turned_1 F (atI (nth q 0)) (atI (nth q 1)) (atI (nth q 2)) (atB (nth q 3)))])), (78, spec ti_turn_unit to_turn_unit (fun q => (ok_turn_unit F (atI (nth q 0)))) (fun q => [.i (o_turn_unit_0 F (atI (nth q 0)))]))]) c_turn_Both (tabI c_turn_Both [⟨0, T_turn_Both_0, fun k q => L_turn_Both_0 F (fun (z0 : Int) (z1 : Int) (z2 : Int) (z3 : Int) (z4 : Int) (z5 : Int) (z6 : Int) (z7 : Int) (z8 : Int) (z9 : Int) (z10 : Int) (z11 : Int) (z12 : Int) (z13 : Int) (z14 : Int) (z15 : Int) (z16 : Int) (z17 : Int) (z18 : Int) (z19 : Int) (z20 : Int) (z21 : Int) (z22 : Int) (z23 : Int) (z24 : Int) (z25 : Int) (z26 : Int) (z27 : Int) (z28 : Int) (z29 : Int) (z30 : Int) (z31 : Int) (z32 : Int) (z33 : Int) (z34 : Int) (z35 : Int) (z36 : Int) => k (.exit 0) (fS T_turn_Both_0_0 [.i z0, .i z1, .i z2, .i z3, .i z4, .i z5, .i z6, .i z7, .i z8, .i z9, .i z10, .i z11, .i z12, .i z13, .i z14, .i z15, .i z16, .i z17, .i z18, .i z19, .i z20, .i z21, .i z22, .i z23, .i z24, .i z25, .i z26, .i z27, .i z28, .i z29, .i z30, .i z31, .i z32, .i z33, .i z34, .i z35, .i z36])) F (atI (nth q 0)) (atI (nth q 1)) (atI (nth q 2)) (atI (nth q 3)) (atI (nth q 4)) (atI (nth q 5)) (atI (nth q 6)) (atI (nth q 7)) (atI (nth q 8)) (atI (nth q 9)) (atI (nth q 10)) (atI (nth q 11)) (atI (nth q 12)) (atI (nth q 13)) (atI (nth q 14)) (atI (nth q 15)) (atI (nth q 16)) (atI (nth q 17)) (atI (nth q 18)) (atI (nth q 19)) (atI (nth q 20)) (atI (nth q 21)) (atI (nth q 22)) (atI (nth q 23)) (atI (nth q 24)) (atI (nth q 25)) (atI (nth q 26)) (atI (nth q 27)) (atI (nth q 28)) (atI (nth q 29)) (atI (nth q 30)) (atI (nth q 31)) (atI (nth q 32)) (atI (nth q 33)) (atI (nth q 34)) (atI (nth q 35)) (atI (nth q 36))⟩, ⟨2, T_turn_Both_1, fun k q => L_turn_Both_1 F (fun (z0 : Int) (z1 : Int) (z2 : Int) (z3 : Int) (z4 : Int) (z5 : Int) (z6 : Int) (z7 : Int) (z8 : Int) (z9 : Int) (z10 : Int) (z11 : Int) (z12 : Int) (z13 : Int) (z14 : Int) (z15 : Int) (z16 : Int) (z17 : Int) (z18 : Int) (z19 : Int) (z20 : Int) (z21 : Int) (z22 : Int) (z23 : Int) (z24 : Int) (z25 : Int) (z26 : Int) (z27 : Int) (z28 : Int) (z29 : Int) (z30 : Int) (z31 : Int) (z32 : Int) (z33 : Int) (z34 : Int) (z35 : Int) (z36 : Int) (z37 : Int) (z38 : Int) (z39 : Int) (z40 : Int) => k (.exit 2) (fS T_turn_Both_1_0 [.i z0, .i z1, .i z2, .i z3, .i z4, .i z5, .i z6, .i z7, .i z8, .i z9, .i z10, .i z11, .i z12, .i z13, .i z14, .i z15, .i z16, .i z17, .i z18, .i z19, .i z20, .i z21, .i z22, .i z23, .i z24, .i z25, .i z26, .i z27, .i z28, .i z29, .i z30, .i z31, .i z32, .i z33, .i z34, .i z35, .i z36, .i z37, .i z38, .i z39, .i z40])) F (atI (nth q 0)) (atI (nth q 1)) (atI (nth q 2)) (atI (nth q 3)) (atI (nth q 4)) (atI (nth q 5)) (atI (nth q 6)) (atI (nth q 7)) (atI (nth q 8)) (atI (nth q 9)) (atI (nth q 10)) (atI (nth q 11)) (atI (nth q 12)) (atI (nth q 13)) (atI (nth q 14)) (atI (nth q 15)) (atI (nth q 16)) (atI (nth q 17)) (atI (nth q 18)) (atI (nth q 19)) (atI (nth q 20)) (atI (nth q 21)) (atI (nth q 22)) (atI (nth q 23)) (atI (nth q 24)) (atI (nth q 25)) (atI (nth q 26)) (atI (nth q 27)) (atI (nth q 28)) (atI (nth q 29)) (atI (nth q 30)) (atI (nth q 31)) (atI (nth q 32)) (atI (nth q 33)) (atI (nth q 34)) (atI (nth q 35)) (atI (nth q 36)) (atI (nth q 37)) (atI (nth q 38)) (atI (nth q 39)) (atI (nth q 40))⟩]) (tabJ []) (loopAt PP 25 1) 2) (headOf c_turn_Both 2) k n (fS T_turn_Both_1 [.i y0, .i y1, .i y2, .i y3, .i y4, .i y5, .i y6, .i y7, .i y8, .i y9, .i y10, .i y11, .i y12, .i y13, .i y14, .i y15, .i y16, .i y17, .i y18, .i y19, .i y20, .i y21, .i y22, .i y23, .i y24, .i y25, .i y26, .i y27, .i y28, .i y29, .i y30, .i y31, .i y32, .i y33, .i y34, .i y35, .i y36, .i y37, .i y38, .i y39, .i y40])) (fun (z0 : Int) (z1 : Int) (z2 : Int) (z3 : Int) (z4 : Int) (z5 : Int) (z6 : Int) (z7 : Int) (z8 : Int) (z9 : Int) (z10 : Int) (z11 : Int) (z12 : Int) (z13 : Int) (z14 : Int) (z15 : Int) (z16 : Int) (z17 : Int) (z18 : Int) (z19 : Int) (z20 : Int) (z21 : Int) (z22 : Int) (z23 : Int) (z24 : Int) (z25 : Int) (z26 : Int) (z27 : Int) (z28 : Int) (z29 : Int) (z30 : Int) (z31 : Int) (z32 : Int) (z33 : Int) (z34 : Int) (z35 : Int) (z36 : Int) (z37 : Int) (z38 : Int) (z39 : Int) (z40 : Int) => k (.exit 2) (fS T_turn_Both_1_0 [.i z0, .i z1, .i z2, .i z3, .i z4, .i z5, .i z6, .i z7, .i z8, .i z9, .i z10, .i z11, .i z12, .i z13, .i z14, .i z15, .i z16, .i z17, .i z18, .i z19, .i z20, .i z21, .i z22, .i z23, .i z24, .i z25, .i z26, .i z27, .i z28, .i z29, .i z30, .i z31, .i z32, .i z33, .i z34, .i z35, .i z36, .i z37, .i z38, .i z39, .i z40])) x0 x1 x2 x3 x4 x5 x6 x7 x8 x9 x10 x11 x12 x13 x14 x15 x16 x17 x18 x19 x20 x21 x22 x23 x24 x25 x26 x27 x28 x29 x30 x31 x32 x33 x34 x35 x36 x37 x38 x39 x40 := by
      intros
      kernel_rfl
    have h : iterC (codeL PP (S_turn_Both F) c_turn_Both (I_turn_Both F) (J_turn_Both F) (loopAt PP 25 1) 2) (headOf c_turn_Both 2) k (n + 1) (fS T_turn_Both_1 [.i x0, .i x1, .i x2, .i x3, .i x4, .i x5, .i x6, .i x7, .i x8, .i x9, .i x10, .i x11, .i x12, .i x13, .i x14, .i x15, .i x16, .i x17, .i x18, .i x19, .i x20, .i x21, .i x22, .i x23, .i x24, .i x25, .i x26, .i x27, .i x28, .i x29, .i x30, .i x31, .i x32, .i x33, .i x34, .i x35, .i x36, .i x37, .i x38, .i x39, .i x40]) = B_turn_Both_1 F (fun (y0 : Int) (y1 : Int) (y2 : Int) (y3 : Int) (y4 : Int) (y5 : Int) (y6 : Int) (y7 : Int) (y8 : Int) (y9 : Int) (y10 : Int) (y11 : Int) (y12 : Int) (y13 : Int) (y14 : Int) (y15 : Int) (y16 : Int) (y17 : Int) (y18 : Int) (y19 : Int) (y20 : Int) (y21 : Int) (y22 : Int) (y23 : Int) (y24 : Int) (y25 : Int) (y26 : Int) (y27 : Int) (y28 : Int) (y29 : Int) (y30 : Int) (y31 : Int) (y32 : Int) (y33 : Int) (y34 : Int) (y35 : Int) (y36 : Int) (y37 : Int) (y38 : Int) (y39 : Int) (y40 : Int) => iterC (codeL PP (S_turn_Both F) c_turn_Both (I_turn_Both F) (J_turn_Both F) (loopAt PP 25 1) 2) (headOf c_turn_Both 2) k n (fS T_turn_Both_1 [.i y0, .i y1, .i y2, .i y3, .i y4, .i y5, .i y6, .i y7, .i y8, .i y9, .i y10, .i y11, .i y12, .i y13, .i y14, .i y15, .i y16, .i y17, .i y18, .i y19, .i y20, .i y21, .i y22, .i y23, .i y24, .i y25, .i y26, .i y27, .i y28, .i y29, .i y30, .i y31, .i y32, .i y33, .i y34, .i y35, .i y36, .i y37, .i y38, .i y39, .i y40])) (fun (z0 : Int) (z1 : Int) (z2 : Int) (z3 : Int) (z4 : Int) (z5 : Int) (z6 : Int) (z7 : Int) (z8 : Int) (z9 : Int) (z10 : Int) (z11 : Int) (z12 : Int) (z13 : Int) (z14 : Int) (z15 : Int) (z16 : Int) (z17 : Int) (z18 : Int) (z19 : Int) (z20 : Int) (z21 : Int) (z22 : Int) (z23 : Int) (z24 : Int) (z25 : Int) (z26 : Int) (z27 : Int) (z28 : Int) (z29 : Int) (z30 : Int) (z31 : Int) (z32 : Int) (z33 : Int) (z34 : Int) (z35 : Int) (z36 : Int) (z37 : Int) (z38 : Int) (z39 : Int) (z40 : Int) => k (.exit 2) (fS T_turn_Both_1_0 [.i z0, .i z1, .i z2, .i z3, .i z4, .i z5, .i z6, .i z7, .i z8, .i z9, .i z10, .i z11, .i z12, .i z13, .i z14, .i z15, .i z16, .i z17, .i z18, .i z19, .i z20, .i z21, .i z22, .i z23, .i z24, .i z25, .i z26, .i z27, .i z28, .i z29, .i z30, .i z31, .i z32, .i z33, .i z34, .i z35, .i z36, .i z37, .i z38, .i z39, .i z40])) x0 x1 x2 x3 x4 x5 x6 x7 x8 x9 x10 x11 x12 x13 x14 x15 x16 x17 x18 x19 x20 x21 x22 x23 x24 x25 x26 x27 x28 x29 x30 x31 x32 x33 x34 x35 x36 x37 x38 x39 x40 := (h0 ok_turn_angles o_turn_angles_0 o_turn_angles_1 o_turn_angles_2 o_turn_angles_3 o_turn_angles_4 o_turn_angles_5 o_turn_angles_6 o_turn_angles_7 o_turn_angles_8 o_turn_angles_9 o_turn_angles_10 o_turn_angles_11 o_turn_angles_12 o_turn_angles_13 o_turn_angles_14 o_turn_angles_15 o_turn_angles_16 o_turn_angles_17 o_turn_angles_18 o_turn_angles_19 o_turn_angles_20 o_turn_angles_21 o_turn_angles_22 o_turn_angles_23 o_turn_angles_24 o_turn_angles_25 o_turn_angles_26 o_turn_angles_27 o_turn_angles_28 o_turn_angles_29 ok_turn_pair_turned o_turn_pair_turned_0 o_turn_pair_turned_1 ok_turn_unit o_turn_unit_0 L_turn_Both_0 L_turn_Both_1).trans (by kernel_rfl)
    rw [h]
    simp only [lL_turn_Both_1 F k n]
    rfl
def f_turn_Both (F : Nat) (a0 : Int) : R :=
  bif (ok_turn_angles F) then (
    L_turn_Both_0 F (fun (v85 : Int) (v86 : Int) (v87 : Int) (v88 : Int) (v89 : Int) (v90 : Int) (v91 : Int) (v92 : Int) (v93 : Int) (v94 : Int) (v95 : Int) (v96 : Int) (v97 : Int) (v98 : Int) (v99 : Int) (v100 : Int) (v101 : Int) (v102 : Int) (v103 : Int) (v104 : Int) (v105 : Int) (v106 : Int) (v107 : Int) (v108 : Int) (v109 : Int) (v110 : Int) (v111 : Int) (v112 : Int) (v113 : Int) (v114 : Int) (v115 : Int) (v116 : Int) (v117 : Int) (v118 : Int) (v119 : Int) (v120 : Int) (v121 : Int) =>
      bif (ok_turn_unit F v120) then (
        bif (ok_turn_unit F v121) then (
          L_turn_Both_1 F (fun (v175 : Int) (v176 : Int) (v177 : Int) (v178 : Int) (v179 : Int) (v180 : Int) (v181 : Int) (v182 : Int) (v183 : Int) (v184 : Int) (v185 : Int) (v186 : Int) (v187 : Int) (v188 : Int) (v189 : Int) (v190 : Int) (v191 : Int) (v192 : Int) (v193 : Int) (v194 : Int) (v195 : Int) (v196 : Int) (v197 : Int) (v198 : Int) (v199 : Int) (v200 : Int) (v201 : Int) (v202 : Int) (v203 : Int) (v204 : Int) (v205 : Int) (v206 : Int) (v207 : Int) (v208 : Int) (v209 : Int) (v210 : Int) (v211 : Int) (v212 : Int) (v213 : Int) (v214 : Int) (v215 : Int) =>
            some (.v (.tuple #[.int .i64 v179, .int .i64 v180]))) F v85 v86 v87 v88 ((o_turn_unit_0 F v120)) ((o_turn_unit_0 F v121)) v89 v90 v91 v92 v93 v94 v95 v96 v97 v98 v99 v100 v101 v102 v103 v104 v105 v106 v107 v108 v109 v110 v111 v112 v113 v114 v115 v116 v117 v118 v119 ((Int.fdiv v85 (1073741824))) 0 v120 v121)
        else (
          none))
      else (
        none)) F a0 0 0 ((IntKind.wrap .i64 ((andI .u32 a0 1073741823)))) ((o_turn_angles_0 F)) ((o_turn_angles_1 F)) ((o_turn_angles_2 F)) ((o_turn_angles_3 F)) ((o_turn_angles_4 F)) ((o_turn_angles_5 F)) ((o_turn_angles_6 F)) ((o_turn_angles_7 F)) ((o_turn_angles_8 F)) ((o_turn_angles_9 F)) ((o_turn_angles_10 F)) ((o_turn_angles_11 F)) ((o_turn_angles_12 F)) ((o_turn_angles_13 F)) ((o_turn_angles_14 F)) ((o_turn_angles_15 F)) ((o_turn_angles_16 F)) ((o_turn_angles_17 F)) ((o_turn_angles_18 F)) ((o_turn_angles_19 F)) ((o_turn_angles_20 F)) ((o_turn_angles_21 F)) ((o_turn_angles_22 F)) ((o_turn_angles_23 F)) ((o_turn_angles_24 F)) ((o_turn_angles_25 F)) ((o_turn_angles_26 F)) ((o_turn_angles_27 F)) ((o_turn_angles_28 F)) ((o_turn_angles_29 F)) 0 2608131496 0)
  else (
    none)
theorem e_turn_Both (F : Nat) (a0 : Int) : funL PP (S_turn_Both F) c_turn_Both (I_turn_Both F) (J_turn_Both F) 25 (fTs ti_turn_Both [.i a0]).1 = f_turn_Both F a0 := by
  have h : ∀ (ok_turn_angles : Nat → Bool) (o_turn_angles_0 : Nat → Int) (o_turn_angles_1 : Nat → Int) (o_turn_angles_2 : Nat → Int) (o_turn_angles_3 : Nat → Int) (o_turn_angles_4 : Nat → Int) (o_turn_angles_5 : Nat → Int) (o_turn_angles_6 : Nat → Int) (o_turn_angles_7 : Nat → Int) (o_turn_angles_8 : Nat → Int) (o_turn_angles_9 : Nat → Int) (o_turn_angles_10 : Nat → Int) (o_turn_angles_11 : Nat → Int) (o_turn_angles_12 : Nat → Int) (o_turn_angles_13 : Nat → Int) (o_turn_angles_14 : Nat → Int) (o_turn_angles_15 : Nat → Int) (o_turn_angles_16 : Nat → Int) (o_turn_angles_17 : Nat → Int) (o_turn_angles_18 : Nat → Int) (o_turn_angles_19 : Nat → Int) (o_turn_angles_20 : Nat → Int) (o_turn_angles_21 : Nat → Int) (o_turn_angles_22 : Nat → Int) (o_turn_angles_23 : Nat → Int) (o_turn_angles_24 : Nat → Int) (o_turn_angles_25 : Nat → Int) (o_turn_angles_26 : Nat → Int) (o_turn_angles_27 : Nat → Int) (o_turn_angles_28 : Nat → Int) (o_turn_angles_29 : Nat → Int) (ok_turn_pair_turned : Nat → Int → Int → Int → Bool → Bool) (o_turn_pair_turned_0 : Nat → Int → Int → Int → Bool → Int) (o_turn_pair_turned_1 : Nat → Int → Int → Int → Bool → Int) (ok_turn_unit : Nat → Int → Bool) (o_turn_unit_0 : Nat → Int → Int) (L_turn_Both_0 : Nat → (Int → Int → Int → Int → Int → Int → Int → Int → Int → Int → Int → Int → Int → Int → Int → Int → Int → Int → Int → Int → Int → Int → Int → Int → Int → Int → Int → Int → Int → Int → Int → Int → Int → Int → Int → Int → Int → R) → Nat → Int → Int → Int → Int → Int → Int → Int → Int → Int → Int → Int → Int → Int → Int → Int → Int → Int → Int → Int → Int → Int → Int → Int → Int → Int → Int → Int → Int → Int → Int → Int → Int → Int → Int → Int → Int → Int → R) (L_turn_Both_1 : Nat → (Int → Int → Int → Int → Int → Int → Int → Int → Int → Int → Int → Int → Int → Int → Int → Int → Int → Int → Int → Int → Int → Int → Int → Int → Int → Int → Int → Int → Int → Int → Int → Int → Int → Int → Int → Int → Int → Int → Int → Int → Int → R) → Nat → Int → Int → Int → Int → Int → Int → Int → Int → Int → Int → Int → Int → Int → Int → Int → Int → Int → Int → Int → Int → Int → Int → Int → Int → Int → Int → Int → Int → Int → Int → Int → Int → Int → Int → Int → Int → Int → Int → Int → Int → Int → R), funL PP (words [(76, spec ti_turn_angles to_turn_angles (fun q => (ok_turn_angles F )) (fun q => [.i (o_turn_angles_0 F ), .i (o_turn_angles_1 F ), .i (o_turn_angles_2 F ), .i (o_turn_angles_3 F ), .i (o_turn_angles_4 F ), .i (o_turn_angles_5 F ), .i (o_turn_angles_6 F ), .i (o_turn_angles_7 F ), .i (o_turn_angles_8 F ), .i (o_turn_angles_9 F ), .i (o_turn_angles_10 F ), .i (o_turn_angles_11 F ), .i (o_turn_angles_12 F ), .i (o_turn_angles_13 F ), .i (o_turn_angles_14 F ), .i (o_turn_angles_15 F ), .i (o_turn_angles_16 F ), .i (o_turn_angles_17 F ), .i (o_turn_angles_18 F ), .i (o_turn_angles_19 F ), .i (o_turn_angles_20 F ), .i (o_turn_angles_21 F ), .i (o_turn_angles_22 F ), .i (o_turn_angles_23 F ), .i (o_turn_angles_24 F ), .i (o_turn_angles_25 F ), .i (o_turn_angles_26 F ), .i (o_turn_angles_27 F ), .i (o_turn_angles_28 F ), .i (o_turn_angles_29 F )])), (77, spec ti_turn_pair_turned to_turn_pair_turned (fun q => (ok_turn_pair_turned F (atI (nth q 0)) (atI (nth q 1)) (atI (nth q 2)) (atB (nth q 3)))) (fun q => [.i (o_turn_pair_turned_0 F (atI (nth q 0)) (atI (nth q 1)) (atI (nth q 2)) (atB (nth q 3))), .i (o_turn_pair_turned_1 F (atI (nth q 0)) (atI (nth q 1)) (atI (nth q 2)) (atB (nth q 3)))])), (78, spec ti_turn_unit to_turn_unit (fun q => (ok_turn_unit F (atI (nth q 0)))) (fun q => [.i (o_turn_unit_0 F (atI (nth q 0)))]))]) c_turn_Both (tabI c_turn_Both [⟨0, T_turn_Both_0, fun k q => L_turn_Both_0 F (fun (z0 : Int) (z1 : Int) (z2 : Int) (z3 : Int) (z4 : Int) (z5 : Int) (z6 : Int) (z7 : Int) (z8 : Int) (z9 : Int) (z10 : Int) (z11 : Int) (z12 : Int) (z13 : Int) (z14 : Int) (z15 : Int) (z16 : Int) (z17 : Int) (z18 : Int) (z19 : Int) (z20 : Int) (z21 : Int) (z22 : Int) (z23 : Int) (z24 : Int) (z25 : Int) (z26 : Int) (z27 : Int) (z28 : Int) (z29 : Int) (z30 : Int) (z31 : Int) (z32 : Int) (z33 : Int) (z34 : Int) (z35 : Int) (z36 : Int) => k (.exit 0) (fS T_turn_Both_0_0 [.i z0, .i z1, .i z2, .i z3, .i z4, .i z5, .i z6, .i z7, .i z8, .i z9, .i z10, .i z11, .i z12, .i z13, .i z14, .i z15, .i z16, .i z17, .i z18, .i z19, .i z20, .i z21, .i z22, .i z23, .i z24, .i z25, .i z26, .i z27, .i z28, .i z29, .i z30, .i z31, .i z32, .i z33, .i z34, .i z35, .i z36])) F (atI (nth q 0)) (atI (nth q 1)) (atI (nth q 2)) (atI (nth q 3)) (atI (nth q 4)) (atI (nth q 5)) (atI (nth q 6)) (atI (nth q 7)) (atI (nth q 8)) (atI (nth q 9)) (atI (nth q 10)) (atI (nth q 11)) (atI (nth q 12)) (atI (nth q 13)) (atI (nth q 14)) (atI (nth q 15)) (atI (nth q 16)) (atI (nth q 17)) (atI (nth q 18)) (atI (nth q 19)) (atI (nth q 20)) (atI (nth q 21)) (atI (nth q 22)) (atI (nth q 23)) (atI (nth q 24)) (atI (nth q 25)) (atI (nth q 26)) (atI (nth q 27)) (atI (nth q 28)) (atI (nth q 29)) (atI (nth q 30)) (atI (nth q 31)) (atI (nth q 32)) (atI (nth q 33)) (atI (nth q 34)) (atI (nth q 35)) (atI (nth q 36))⟩, ⟨2, T_turn_Both_1, fun k q => L_turn_Both_1 F (fun (z0 : Int) (z1 : Int) (z2 : Int) (z3 : Int) (z4 : Int) (z5 : Int) (z6 : Int) (z7 : Int) (z8 : Int) (z9 : Int) (z10 : Int) (z11 : Int) (z12 : Int) (z13 : Int) (z14 : Int) (z15 : Int) (z16 : Int) (z17 : Int) (z18 : Int) (z19 : Int) (z20 : Int) (z21 : Int) (z22 : Int) (z23 : Int) (z24 : Int) (z25 : Int) (z26 : Int) (z27 : Int) (z28 : Int) (z29 : Int) (z30 : Int) (z31 : Int) (z32 : Int) (z33 : Int) (z34 : Int) (z35 : Int) (z36 : Int) (z37 : Int) (z38 : Int) (z39 : Int) (z40 : Int) => k (.exit 2) (fS T_turn_Both_1_0 [.i z0, .i z1, .i z2, .i z3, .i z4, .i z5, .i z6, .i z7, .i z8, .i z9, .i z10, .i z11, .i z12, .i z13, .i z14, .i z15, .i z16, .i z17, .i z18, .i z19, .i z20, .i z21, .i z22, .i z23, .i z24, .i z25, .i z26, .i z27, .i z28, .i z29, .i z30, .i z31, .i z32, .i z33, .i z34, .i z35, .i z36, .i z37, .i z38, .i z39, .i z40])) F (atI (nth q 0)) (atI (nth q 1)) (atI (nth q 2)) (atI (nth q 3)) (atI (nth q 4)) (atI (nth q 5)) (atI (nth q 6)) (atI (nth q 7)) (atI (nth q 8)) (atI (nth q 9)) (atI (nth q 10)) (atI (nth q 11)) (atI (nth q 12)) (atI (nth q 13)) (atI (nth q 14)) (atI (nth q 15)) (atI (nth q 16)) (atI (nth q 17)) (atI (nth q 18)) (atI (nth q 19)) (atI (nth q 20)) (atI (nth q 21)) (atI (nth q 22)) (atI (nth q 23)) (atI (nth q 24)) (atI (nth q 25)) (atI (nth q 26)) (atI (nth q 27)) (atI (nth q 28)) (atI (nth q 29)) (atI (nth q 30)) (atI (nth q 31)) (atI (nth q 32)) (atI (nth q 33)) (atI (nth q 34)) (atI (nth q 35)) (atI (nth q 36)) (atI (nth q 37)) (atI (nth q 38)) (atI (nth q 39)) (atI (nth q 40))⟩]) (tabJ []) 25 (fTs ti_turn_Both [.i a0]).1 = (
  bif (ok_turn_angles F) then (
    L_turn_Both_0 F (fun (v85 : Int) (v86 : Int) (v87 : Int) (v88 : Int) (v89 : Int) (v90 : Int) (v91 : Int) (v92 : Int) (v93 : Int) (v94 : Int) (v95 : Int) (v96 : Int) (v97 : Int) (v98 : Int) (v99 : Int) (v100 : Int) (v101 : Int) (v102 : Int) (v103 : Int) (v104 : Int) (v105 : Int) (v106 : Int) (v107 : Int) (v108 : Int) (v109 : Int) (v110 : Int) (v111 : Int) (v112 : Int) (v113 : Int) (v114 : Int) (v115 : Int) (v116 : Int) (v117 : Int) (v118 : Int) (v119 : Int) (v120 : Int) (v121 : Int) =>
      bif (ok_turn_unit F v120) then (
        bif (ok_turn_unit F v121) then (
          L_turn_Both_1 F (fun (v175 : Int) (v176 : Int) (v177 : Int) (v178 : Int) (v179 : Int) (v180 : Int) (v181 : Int) (v182 : Int) (v183 : Int) (v184 : Int) (v185 : Int) (v186 : Int) (v187 : Int) (v188 : Int) (v189 : Int) (v190 : Int) (v191 : Int) (v192 : Int) (v193 : Int) (v194 : Int) (v195 : Int) (v196 : Int) (v197 : Int) (v198 : Int) (v199 : Int) (v200 : Int) (v201 : Int) (v202 : Int) (v203 : Int) (v204 : Int) (v205 : Int) (v206 : Int) (v207 : Int) (v208 : Int) (v209 : Int) (v210 : Int) (v211 : Int) (v212 : Int) (v213 : Int) (v214 : Int) (v215 : Int) =>
            some (.v (.tuple #[.int .i64 v179, .int .i64 v180]))) F v85 v86 v87 v88 ((o_turn_unit_0 F v120)) ((o_turn_unit_0 F v121)) v89 v90 v91 v92 v93 v94 v95 v96 v97 v98 v99 v100 v101 v102 v103 v104 v105 v106 v107 v108 v109 v110 v111 v112 v113 v114 v115 v116 v117 v118 v119 ((Int.fdiv v85 (1073741824))) 0 v120 v121)
        else (
          none))
      else (
        none)) F a0 0 0 ((IntKind.wrap .i64 ((andI .u32 a0 1073741823)))) ((o_turn_angles_0 F)) ((o_turn_angles_1 F)) ((o_turn_angles_2 F)) ((o_turn_angles_3 F)) ((o_turn_angles_4 F)) ((o_turn_angles_5 F)) ((o_turn_angles_6 F)) ((o_turn_angles_7 F)) ((o_turn_angles_8 F)) ((o_turn_angles_9 F)) ((o_turn_angles_10 F)) ((o_turn_angles_11 F)) ((o_turn_angles_12 F)) ((o_turn_angles_13 F)) ((o_turn_angles_14 F)) ((o_turn_angles_15 F)) ((o_turn_angles_16 F)) ((o_turn_angles_17 F)) ((o_turn_angles_18 F)) ((o_turn_angles_19 F)) ((o_turn_angles_20 F)) ((o_turn_angles_21 F)) ((o_turn_angles_22 F)) ((o_turn_angles_23 F)) ((o_turn_angles_24 F)) ((o_turn_angles_25 F)) ((o_turn_angles_26 F)) ((o_turn_angles_27 F)) ((o_turn_angles_28 F)) ((o_turn_angles_29 F)) 0 2608131496 0)
  else (
    none) : R) := by
    intros
    kernel_rfl
  exact (h ok_turn_angles o_turn_angles_0 o_turn_angles_1 o_turn_angles_2 o_turn_angles_3 o_turn_angles_4 o_turn_angles_5 o_turn_angles_6 o_turn_angles_7 o_turn_angles_8 o_turn_angles_9 o_turn_angles_10 o_turn_angles_11 o_turn_angles_12 o_turn_angles_13 o_turn_angles_14 o_turn_angles_15 o_turn_angles_16 o_turn_angles_17 o_turn_angles_18 o_turn_angles_19 o_turn_angles_20 o_turn_angles_21 o_turn_angles_22 o_turn_angles_23 o_turn_angles_24 o_turn_angles_25 o_turn_angles_26 o_turn_angles_27 o_turn_angles_28 o_turn_angles_29 ok_turn_pair_turned o_turn_pair_turned_0 o_turn_pair_turned_1 ok_turn_unit o_turn_unit_0 L_turn_Both_0 L_turn_Both_1).trans (by kernel_rfl)
def ok_turn_Both (F : Nat) (a0 : Int) : Bool := okT to_turn_Both (f_turn_Both F a0)
def o_turn_Both_0 (F : Nat) (a0 : Int) : Int := atI (nth (outT to_turn_Both (f_turn_Both F a0)) 0)
def o_turn_Both_1 (F : Nat) (a0 : Int) : Int := atI (nth (outT to_turn_Both (f_turn_Both F a0)) 1)
theorem k_turn_Both (F : Nat) (a0 : Int) {z0 : Int} {z1 : Int} (h : f_turn_Both F a0 = some (.v (.tuple #[.int .i64 z0, .int .i64 z1]))) : ok_turn_Both F a0 = true ∧ o_turn_Both_0 F a0 = z0 ∧ o_turn_Both_1 F a0 = z1 := by
  refine ⟨?_, ?_, ?_⟩
  · unfold ok_turn_Both; rw [h]; kernel_rfl
  · unfold o_turn_Both_0; rw [h]; kernel_rfl
  · unfold o_turn_Both_1; rw [h]; kernel_rfl
def s_turn_Both (F : Nat) : List VV → Option (Bool × VV) := spec ti_turn_Both to_turn_Both (fun q => (ok_turn_Both F (atI (nth q 0)))) (fun q => [.i (o_turn_Both_0 F (atI (nth q 0))), .i (o_turn_Both_1 F (atI (nth q 0)))])
theorem hS_turn_Both (F : Nat) : ∀ f, Good PP f (unS (S_turn_Both F f)) := words_good fun p hp => by
  simp only [List.mem_cons, List.not_mem_nil, or_false] at hp
  rcases hp with rfl | rfl | rfl
  · exact g_turn_angles F
  · exact g_turn_pair_turned F
  · exact g_turn_unit F
theorem hl_turn_Both (F : Nat) : ∀ p ∈ loopsIn PP 25, LoopOK PP (S_turn_Both F) c_turn_Both F (I_turn_Both F) (J_turn_Both F) p :=
  loops_of [(0, loopAt PP 25 0), (2, loopAt PP 25 1)] (by kernel_rfl) (all_cons
    (loop_ok (W_turn_Both F) rfl (tab_cons (fun _ k q => Le.ofEq ((lL_turn_Both_0 F k F (atI (nth q 0)) (atI (nth q 1)) (atI (nth q 2)) (atI (nth q 3)) (atI (nth q 4)) (atI (nth q 5)) (atI (nth q 6)) (atI (nth q 7)) (atI (nth q 8)) (atI (nth q 9)) (atI (nth q 10)) (atI (nth q 11)) (atI (nth q 12)) (atI (nth q 13)) (atI (nth q 14)) (atI (nth q 15)) (atI (nth q 16)) (atI (nth q 17)) (atI (nth q 18)) (atI (nth q 19)) (atI (nth q 20)) (atI (nth q 21)) (atI (nth q 22)) (atI (nth q 23)) (atI (nth q 24)) (atI (nth q 25)) (atI (nth q 26)) (atI (nth q 27)) (atI (nth q 28)) (atI (nth q 29)) (atI (nth q 30)) (atI (nth q 31)) (atI (nth q 32)) (atI (nth q 33)) (atI (nth q 34)) (atI (nth q 35)) (atI (nth q 36))).symm.trans (congrArg (iterC (codeL PP (S_turn_Both F) c_turn_Both (I_turn_Both F) (J_turn_Both F) (loopAt PP 25 0) 0) (headOf c_turn_Both 0) k F) (show fS T_turn_Both_0 [.i (atI (nth q 0)), .i (atI (nth q 1)), .i (atI (nth q 2)), .i (atI (nth q 3)), .i (atI (nth q 4)), .i (atI (nth q 5)), .i (atI (nth q 6)), .i (atI (nth q 7)), .i (atI (nth q 8)), .i (atI (nth q 9)), .i (atI (nth q 10)), .i (atI (nth q 11)), .i (atI (nth q 12)), .i (atI (nth q 13)), .i (atI (nth q 14)), .i (atI (nth q 15)), .i (atI (nth q 16)), .i (atI (nth q 17)), .i (atI (nth q 18)), .i (atI (nth q 19)), .i (atI (nth q 20)), .i (atI (nth q 21)), .i (atI (nth q 22)), .i (atI (nth q 23)), .i (atI (nth q 24)), .i (atI (nth q 25)), .i (atI (nth q 26)), .i (atI (nth q 27)), .i (atI (nth q 28)), .i (atI (nth q 29)), .i (atI (nth q 30)), .i (atI (nth q 31)), .i (atI (nth q 32)), .i (atI (nth q 33)), .i (atI (nth q 34)), .i (atI (nth q 35)), .i (atI (nth q 36))] = fS T_turn_Both_0 q by kernel_rfl)))) (tab_cons (fun h => absurd h (by decide)) tab_nil))) (all_cons
    (loop_ok (W_turn_Both F) rfl (tab_cons (fun h => absurd h (by decide)) (tab_cons (fun _ k q => Le.ofEq ((lL_turn_Both_1 F k F (atI (nth q 0)) (atI (nth q 1)) (atI (nth q 2)) (atI (nth q 3)) (atI (nth q 4)) (atI (nth q 5)) (atI (nth q 6)) (atI (nth q 7)) (atI (nth q 8)) (atI (nth q 9)) (atI (nth q 10)) (atI (nth q 11)) (atI (nth q 12)) (atI (nth q 13)) (atI (nth q 14)) (atI (nth q 15)) (atI (nth q 16)) (atI (nth q 17)) (atI (nth q 18)) (atI (nth q 19)) (atI (nth q 20)) (atI (nth q 21)) (atI (nth q 22)) (atI (nth q 23)) (atI (nth q 24)) (atI (nth q 25)) (atI (nth q 26)) (atI (nth q 27)) (atI (nth q 28)) (atI (nth q 29)) (atI (nth q 30)) (atI (nth q 31)) (atI (nth q 32)) (atI (nth q 33)) (atI (nth q 34)) (atI (nth q 35)) (atI (nth q 36)) (atI (nth q 37)) (atI (nth q 38)) (atI (nth q 39)) (atI (nth q 40))).symm.trans (congrArg (iterC (codeL PP (S_turn_Both F) c_turn_Both (I_turn_Both F) (J_turn_Both F) (loopAt PP 25 1) 2) (headOf c_turn_Both 2) k F) (show fS T_turn_Both_1 [.i (atI (nth q 0)), .i (atI (nth q 1)), .i (atI (nth q 2)), .i (atI (nth q 3)), .i (atI (nth q 4)), .i (atI (nth q 5)), .i (atI (nth q 6)), .i (atI (nth q 7)), .i (atI (nth q 8)), .i (atI (nth q 9)), .i (atI (nth q 10)), .i (atI (nth q 11)), .i (atI (nth q 12)), .i (atI (nth q 13)), .i (atI (nth q 14)), .i (atI (nth q 15)), .i (atI (nth q 16)), .i (atI (nth q 17)), .i (atI (nth q 18)), .i (atI (nth q 19)), .i (atI (nth q 20)), .i (atI (nth q 21)), .i (atI (nth q 22)), .i (atI (nth q 23)), .i (atI (nth q 24)), .i (atI (nth q 25)), .i (atI (nth q 26)), .i (atI (nth q 27)), .i (atI (nth q 28)), .i (atI (nth q 29)), .i (atI (nth q 30)), .i (atI (nth q 31)), .i (atI (nth q 32)), .i (atI (nth q 33)), .i (atI (nth q 34)), .i (atI (nth q 35)), .i (atI (nth q 36)), .i (atI (nth q 37)), .i (atI (nth q 38)), .i (atI (nth q 39)), .i (atI (nth q 40))] = fS T_turn_Both_1 q by kernel_rfl)))) tab_nil))) all_nil))
theorem hj_turn_Both (F : Nat) : ∀ p ∈ joinsIn PP c_turn_Both 25, JoinOK PP (S_turn_Both F) c_turn_Both (I_turn_Both F) (J_turn_Both F) p :=
  joins_of [] (by kernel_rfl) all_nil
theorem g_turn_Both (F : Nat) : Good PP 25 (unS (s_turn_Both F)) :=
  fun_spec (hS_turn_Both F) (by kernel_rfl) (by kernel_rfl) (C := c_turn_Both) (F := fun q => (f_turn_Both F (atI (nth q 0)))) (fun _ => F) (fun _ => I_turn_Both F) (fun _ => J_turn_Both F) (fun _ => hl_turn_Both F) (fun _ => hj_turn_Both F)
    (fun q => (congrArg (funL PP (S_turn_Both F) c_turn_Both (I_turn_Both F) (J_turn_Both F) 25) (show (fTs ti_turn_Both q).1 = (fTs ti_turn_Both [.i (atI (nth q 0))]).1 by kernel_rfl)).trans (e_turn_Both F (atI (nth q 0))))
    (fun _ h => (okT_fill h).trans (congrArg some (by kernel_rfl)))

end Go.Xv
set_option linter.unusedVariables false
namespace Go.Xv
/- 93 _vec_product -/
def c_vec_product : Cfg := ⟨[0, 1, 4], [], [7], []⟩
def ti_vec_product : List TV := [.v (.int .i64), .v (.int .i64)]
def to_vec_product : TV := .v (.agg [.int .i64, .int .u64])
def S_vec_product (F : Nat) : FuncId → List VV → Option (Bool × VV) := words [(116, s_wide_Mul F), (115, s_wide_Near F)]
def W_vec_product (F : Nat) : List LW := []
def I_vec_product (F : Nat) : Nat → VS → (Exit → VS → R) → R := tabI c_vec_product (W_vec_product F)
def WJ_vec_product (F : Nat) : List LJ := []
def J_vec_product (F : Nat) : Nat → Nat → VS → (Exit → VS → R) → R := tabJ (WJ_vec_product F)
def f_vec_product (F : Nat) (a0 : Int) (a1 : Int) : R :=
  bif (ok_wide_Mul F a0 a1) then (
    let v1667 : Int := (o_wide_Mul_0 F a0 a1)
    let v1668 : Int := (o_wide_Mul_1 F a0 a1)
    bif (ok_wide_Near F v1667 v1668 32) then (
      some (.v (.agg #[.int .i64 ((o_wide_Near_0 F v1667 v1668 32)), .int .u64 ((o_wide_Near_1 F v1667 v1668 32))])))
    else (
      none))
  else (
    none)
theorem e_vec_product (F : Nat) (a0 : Int) (a1 : Int) : funL PP (S_vec_product F) c_vec_product (I_vec_product F) (J_vec_product F) 93 (fTs ti_vec_product [.i a0, .i a1]).1 = f_vec_product F a0 a1 := by
  have h : ∀ (ok_wide_Mul : Nat → Int → Int → Bool) (o_wide_Mul_0 : Nat → Int → Int → Int) (o_wide_Mul_1 : Nat → Int → Int → Int) (ok_wide_Near : Nat → Int → Int → Int → Bool) (o_wide_Near_0 : Nat → Int → Int → Int → Int) (o_wide_Near_1 : Nat → Int → Int → Int → Int), funL PP (words [(116, spec ti_wide_Mul to_wide_Mul (fun q => (ok_wide_Mul F (atI (nth q 0)) (atI (nth q 1)))) (fun q => [.i (o_wide_Mul_0 F (atI (nth q 0)) (atI (nth q 1))), .i (o_wide_Mul_1 F (atI (nth q 0)) (atI (nth q 1)))])), (115, spec ti_wide_Near to_wide_Near (fun q => (ok_wide_Near F (atI (nth q 0)) (atI (nth q 1)) (atI (nth q 2)))) (fun q => [.i (o_wide_Near_0 F (atI (nth q 0)) (atI (nth q 1)) (atI (nth q 2))), .i (o_wide_Near_1 F (atI (nth q 0)) (atI (nth q 1)) (atI (nth q 2)))]))]) c_vec_product (tabI c_vec_product []) (tabJ []) 93 (fTs ti_vec_product [.i a0, .i a1]).1 = (
  bif (ok_wide_Mul F a0 a1) then (
    let v1667 : Int := (o_wide_Mul_0 F a0 a1)
    let v1668 : Int := (o_wide_Mul_1 F a0 a1)
    bif (ok_wide_Near F v1667 v1668 32) then (
      some (.v (.agg #[.int .i64 ((o_wide_Near_0 F v1667 v1668 32)), .int .u64 ((o_wide_Near_1 F v1667 v1668 32))])))
    else (
      none))
  else (
    none) : R) := by
    intros
    kernel_rfl
  exact (h ok_wide_Mul o_wide_Mul_0 o_wide_Mul_1 ok_wide_Near o_wide_Near_0 o_wide_Near_1).trans (by kernel_rfl)
def ok_vec_product (F : Nat) (a0 : Int) (a1 : Int) : Bool := okT to_vec_product (f_vec_product F a0 a1)
def o_vec_product_0 (F : Nat) (a0 : Int) (a1 : Int) : Int := atI (nth (outT to_vec_product (f_vec_product F a0 a1)) 0)
def o_vec_product_1 (F : Nat) (a0 : Int) (a1 : Int) : Int := atI (nth (outT to_vec_product (f_vec_product F a0 a1)) 1)
theorem k_vec_product (F : Nat) (a0 : Int) (a1 : Int) {z0 : Int} {z1 : Int} (h : f_vec_product F a0 a1 = some (.v (.agg #[.int .i64 z0, .int .u64 z1]))) : ok_vec_product F a0 a1 = true ∧ o_vec_product_0 F a0 a1 = z0 ∧ o_vec_product_1 F a0 a1 = z1 := by
  refine ⟨?_, ?_, ?_⟩
  · unfold ok_vec_product; rw [h]; kernel_rfl
  · unfold o_vec_product_0; rw [h]; kernel_rfl
  · unfold o_vec_product_1; rw [h]; kernel_rfl
def s_vec_product (F : Nat) : List VV → Option (Bool × VV) := spec ti_vec_product to_vec_product (fun q => (ok_vec_product F (atI (nth q 0)) (atI (nth q 1)))) (fun q => [.i (o_vec_product_0 F (atI (nth q 0)) (atI (nth q 1))), .i (o_vec_product_1 F (atI (nth q 0)) (atI (nth q 1)))])
theorem hS_vec_product (F : Nat) : ∀ f, Good PP f (unS (S_vec_product F f)) := words_good fun p hp => by
  simp only [List.mem_cons, List.not_mem_nil, or_false] at hp
  rcases hp with rfl | rfl
  · exact g_wide_Mul F
  · exact g_wide_Near F
theorem hl_vec_product (F : Nat) : ∀ p ∈ loopsIn PP 93, LoopOK PP (S_vec_product F) c_vec_product F (I_vec_product F) (J_vec_product F) p :=
  loops_of [] (by kernel_rfl) all_nil
theorem hj_vec_product (F : Nat) : ∀ p ∈ joinsIn PP c_vec_product 93, JoinOK PP (S_vec_product F) c_vec_product (I_vec_product F) (J_vec_product F) p :=
  joins_of [] (by kernel_rfl) all_nil
theorem g_vec_product (F : Nat) : Good PP 93 (unS (s_vec_product F)) :=
  fun_spec (hS_vec_product F) (by kernel_rfl) (by kernel_rfl) (C := c_vec_product) (F := fun q => (f_vec_product F (atI (nth q 0)) (atI (nth q 1)))) (fun _ => F) (fun _ => I_vec_product F) (fun _ => J_vec_product F) (fun _ => hl_vec_product F) (fun _ => hj_vec_product F)
    (fun q => (congrArg (funL PP (S_vec_product F) c_vec_product (I_vec_product F) (J_vec_product F) 93) (show (fTs ti_vec_product q).1 = (fTs ti_vec_product [.i (atI (nth q 0)), .i (atI (nth q 1))]).1 by kernel_rfl)).trans (e_vec_product F (atI (nth q 0)) (atI (nth q 1))))
    (fun _ h => (okT_fill h).trans (congrArg some (by kernel_rfl)))

end Go.Xv
set_option linter.unusedVariables false
namespace Go.Xv
/- 94 _vec_clip -/
def c_vec_clip : Cfg := ⟨[0, 1, 2, 3, 4, 5], [], [], []⟩
def ti_vec_clip : List TV := [.v (.agg [.int .i64, .int .u64])]
def to_vec_clip : TV := .v (.tup [.int .i64, .bool])
def S_vec_clip (F : Nat) : FuncId → List VV → Option (Bool × VV) := words [(117, s_wide_Clip F)]
def W_vec_clip (F : Nat) : List LW := []
def I_vec_clip (F : Nat) : Nat → VS → (Exit → VS → R) → R := tabI c_vec_clip (W_vec_clip F)
def WJ_vec_clip (F : Nat) : List LJ := []
def J_vec_clip (F : Nat) : Nat → Nat → VS → (Exit → VS → R) → R := tabJ (WJ_vec_clip F)
def f_vec_clip (F : Nat) (a0 : Int) (a1 : Int) : R :=
  bif (ok_wide_Clip F a0 a1) then (
    some (.v (.tuple #[.int .i64 ((o_wide_Clip_0 F a0 a1)), .bool ((o_wide_Clip_1 F a0 a1))])))
  else (
    none)
theorem e_vec_clip (F : Nat) (a0 : Int) (a1 : Int) : funL PP (S_vec_clip F) c_vec_clip (I_vec_clip F) (J_vec_clip F) 94 (fTs ti_vec_clip [.i a0, .i a1]).1 = f_vec_clip F a0 a1 := by
  have h : ∀ (ok_wide_Clip : Nat → Int → Int → Bool) (o_wide_Clip_0 : Nat → Int → Int → Int) (o_wide_Clip_1 : Nat → Int → Int → Bool), funL PP (words [(117, spec ti_wide_Clip to_wide_Clip (fun q => (ok_wide_Clip F (atI (nth q 0)) (atI (nth q 1)))) (fun q => [.i (o_wide_Clip_0 F (atI (nth q 0)) (atI (nth q 1))), .b (o_wide_Clip_1 F (atI (nth q 0)) (atI (nth q 1)))]))]) c_vec_clip (tabI c_vec_clip []) (tabJ []) 94 (fTs ti_vec_clip [.i a0, .i a1]).1 = (
  bif (ok_wide_Clip F a0 a1) then (
    some (.v (.tuple #[.int .i64 ((o_wide_Clip_0 F a0 a1)), .bool ((o_wide_Clip_1 F a0 a1))])))
  else (
    none) : R) := by
    intros
    kernel_rfl
  exact (h ok_wide_Clip o_wide_Clip_0 o_wide_Clip_1).trans (by kernel_rfl)
def ok_vec_clip (F : Nat) (a0 : Int) (a1 : Int) : Bool := okT to_vec_clip (f_vec_clip F a0 a1)
def o_vec_clip_0 (F : Nat) (a0 : Int) (a1 : Int) : Int := atI (nth (outT to_vec_clip (f_vec_clip F a0 a1)) 0)
def o_vec_clip_1 (F : Nat) (a0 : Int) (a1 : Int) : Bool := atB (nth (outT to_vec_clip (f_vec_clip F a0 a1)) 1)
theorem k_vec_clip (F : Nat) (a0 : Int) (a1 : Int) {z0 : Int} {z1 : Bool} (h : f_vec_clip F a0 a1 = some (.v (.tuple #[.int .i64 z0, .bool z1]))) : ok_vec_clip F a0 a1 = true ∧ o_vec_clip_0 F a0 a1 = z0 ∧ o_vec_clip_1 F a0 a1 = z1 := by
  refine ⟨?_, ?_, ?_⟩
  · unfold ok_vec_clip; rw [h]; kernel_rfl
  · unfold o_vec_clip_0; rw [h]; kernel_rfl
  · unfold o_vec_clip_1; rw [h]; kernel_rfl
def s_vec_clip (F : Nat) : List VV → Option (Bool × VV) := spec ti_vec_clip to_vec_clip (fun q => (ok_vec_clip F (atI (nth q 0)) (atI (nth q 1)))) (fun q => [.i (o_vec_clip_0 F (atI (nth q 0)) (atI (nth q 1))), .b (o_vec_clip_1 F (atI (nth q 0)) (atI (nth q 1)))])
theorem hS_vec_clip (F : Nat) : ∀ f, Good PP f (unS (S_vec_clip F f)) := words_good fun p hp => by
  simp only [List.mem_cons, List.not_mem_nil, or_false] at hp
  rcases hp with rfl
  · exact g_wide_Clip F
theorem hl_vec_clip (F : Nat) : ∀ p ∈ loopsIn PP 94, LoopOK PP (S_vec_clip F) c_vec_clip F (I_vec_clip F) (J_vec_clip F) p :=
  loops_of [] (by kernel_rfl) all_nil
theorem hj_vec_clip (F : Nat) : ∀ p ∈ joinsIn PP c_vec_clip 94, JoinOK PP (S_vec_clip F) c_vec_clip (I_vec_clip F) (J_vec_clip F) p :=
  joins_of [] (by kernel_rfl) all_nil
theorem g_vec_clip (F : Nat) : Good PP 94 (unS (s_vec_clip F)) :=
  fun_spec (hS_vec_clip F) (by kernel_rfl) (by kernel_rfl) (C := c_vec_clip) (F := fun q => (f_vec_clip F (atI (nth q 0)) (atI (nth q 1)))) (fun _ => F) (fun _ => I_vec_clip F) (fun _ => J_vec_clip F) (fun _ => hl_vec_clip F) (fun _ => hj_vec_clip F)
    (fun q => (congrArg (funL PP (S_vec_clip F) c_vec_clip (I_vec_clip F) (J_vec_clip F) 94) (show (fTs ti_vec_clip q).1 = (fTs ti_vec_clip [.i (atI (nth q 0)), .i (atI (nth q 1))]).1 by kernel_rfl)).trans (e_vec_clip F (atI (nth q 0)) (atI (nth q 1))))
    (fun _ h => (okT_fill h).trans (congrArg some (by kernel_rfl)))

end Go.Xv
set_option linter.unusedVariables false
namespace Go.Xv
/- 47 _vec_Dot -/
def c_vec_Dot : Cfg := ⟨[0, 1, 2, 3, 4, 5, 6, 7, 8, 9], [(0, [0, 1, 2, 3, 4, 5, 6, 8, 21, 22, 23, 24])], [18], []⟩
def ti_vec_Dot : List TV := [.v (.agg [.int .i64, .int .i64, .int .i64]), .v (.agg [.int .i64, .int .i64, .int .i64])]
def to_vec_Dot : TV := .v (.tup [.int .i64, .bool])
def S_vec_Dot (F : Nat) : FuncId → List VV → Option (Bool × VV) := words [(93, s_vec_product F), (71, s_wide_Add F), (94, s_vec_clip F)]
def T_vec_Dot_0 : TS := ⟨[(0, .v (.agg [.int .i64, .int .i64, .int .i64])), (1, .v (.agg [.int .i64, .int .i64, .int .i64])), (2, .lp 0 (.lit 0)), (3, .lp 1 (.lit 0)), (4, .v (.int .i64)), (5, .v (.bool)), (6, .lp 2 (.lit 0)), (8, .v (.int .i64))], [(0, ⟨(.ex [.v (.int .i64), .v (.int .i64), .v (.int .i64)]), true⟩), (1, ⟨(.ex [.v (.int .i64), .v (.int .i64), .v (.int .i64)]), true⟩), (2, ⟨(.ex [.v (.int .i64), .v (.int .u64)]), true⟩)], 3⟩
def T_vec_Dot_0_0 : TS := ⟨[(0, .v (.agg [.int .i64, .int .i64, .int .i64])), (1, .v (.agg [.int .i64, .int .i64, .int .i64])), (2, .lp 0 (.lit 0)), (3, .lp 1 (.lit 0)), (4, .v (.int .i64)), (5, .v (.bool)), (6, .lp 2 (.lit 0)), (8, .v (.int .i64))], [(0, ⟨(.ex [.v (.int .i64), .v (.int .i64), .v (.int .i64)]), true⟩), (1, ⟨(.ex [.v (.int .i64), .v (.int .i64), .v (.int .i64)]), true⟩), (2, ⟨(.ex [.v (.int .i64), .v (.int .u64)]), true⟩)], 3⟩
def B_vec_Dot_0 (F : Nat) (rc : Int → Int → Int → Int → Int → Int → Int → Bool → Int → Int → Int → Int → Int → Int → Int → Int → Int → R) (ex0 : Int → Int → Int → Int → Int → Int → Int → Bool → Int → Int → Int → Int → Int → Int → Int → Int → Int → R) (x0 : Int) (x1 : Int) (x2 : Int) (x3 : Int) (x4 : Int) (x5 : Int) (x6 : Int) (x7 : Bool) (x8 : Int) (x9 : Int) (x10 : Int) (x11 : Int) (x12 : Int) (x13 : Int) (x14 : Int) (x15 : Int) (x16 : Int) : R :=
  bif ((decide (x8 < 3))) then (
    bif ((decide (0 ≤ x8)) && (decide (x8 < 3))) then (
      let v1625 : Nat := (0 + ((Int.toNat x8) * 1))
      bif ((isI .i64 [.v (.int .i64 x9), .v (.int .i64 x10), .v (.int .i64 x11)][v1625]?) && true) then (
        let v1626 : Int := (iv [.v (.int .i64 x9), .v (.int .i64 x10), .v (.int .i64 x11)][v1625]?)
        bif ((decide (0 ≤ x8)) && (decide (x8 < 3))) then (
          let v1627 : Nat := (0 + ((Int.toNat x8) * 1))
          bif ((isI .i64 [.v (.int .i64 x12), .v (.int .i64 x13), .v (.int .i64 x14)][v1627]?) && true) then (
            let v1628 : Int := (iv [.v (.int .i64 x12), .v (.int .i64 x13), .v (.int .i64 x14)][v1627]?)
            bif (ok_vec_product F v1626 v1628) then (
              let v1696 : Int := (o_vec_product_0 F v1626 v1628)
              let v1697 : Int := (o_vec_product_1 F v1626 v1628)
              bif (ok_wide_Add F x15 x16 v1696 v1697) then (
                rc x0 x1 x2 x3 x4 x5 x6 x7 ((IntKind.wrap .i64 (x8 + 1))) x9 x10 x11 x12 x13 x14 ((o_wide_Add_0 F x15 x16 v1696 v1697)) ((o_wide_Add_1 F x15 x16 v1696 v1697)))
              else (
                none))
            else (
              none))
          else (
            none))
        else (
          none))
      else (
        none))
    else (
      none))
  else (
    ex0 x0 x1 x2 x3 x4 x5 x6 x7 x8 x9 x10 x11 x12 x13 x14 x15 x16)
def L_vec_Dot_0 (F : Nat) (ex0 : Int → Int → Int → Int → Int → Int → Int → Bool → Int → Int → Int → Int → Int → Int → Int → Int → Int → R) : Nat → Int → Int → Int → Int → Int → Int → Int → Bool → Int → Int → Int → Int → Int → Int → Int → Int → Int → R
  | 0, _, _, _, _, _, _, _, _, _, _, _, _, _, _, _, _, _ => none
  | n + 1, x0, x1, x2, x3, x4, x5, x6, x7, x8, x9, x10, x11, x12, x13, x14, x15, x16 => B_vec_Dot_0 F (L_vec_Dot_0 F ex0 n) ex0 x0 x1 x2 x3 x4 x5 x6 x7 x8 x9 x10 x11 x12 x13 x14 x15 x16
def W_vec_Dot (F : Nat) : List LW := [⟨0, T_vec_Dot_0, fun k q => L_vec_Dot_0 F (fun (z0 : Int) (z1 : Int) (z2 : Int) (z3 : Int) (z4 : Int) (z5 : Int) (z6 : Int) (z7 : Bool) (z8 : Int) (z9 : Int) (z10 : Int) (z11 : Int) (z12 : Int) (z13 : Int) (z14 : Int) (z15 : Int) (z16 : Int) => k (.exit 0) (fS T_vec_Dot_0_0 [.i z0, .i z1, .i z2, .i z3, .i z4, .i z5, .i z6, .b z7, .i z8, .i z9, .i z10, .i z11, .i z12, .i z13, .i z14, .i z15, .i z16])) F (atI (nth q 0)) (atI (nth q 1)) (atI (nth q 2)) (atI (nth q 3)) (atI (nth q 4)) (atI (nth q 5)) (atI (nth q 6)) (atB (nth q 7)) (atI (nth q 8)) (atI (nth q 9)) (atI (nth q 10)) (atI (nth q 11)) (atI (nth q 12)) (atI (nth q 13)) (atI (nth q 14)) (atI (nth q 15)) (atI (nth q 16))⟩]
def I_vec_Dot (F : Nat) : Nat → VS → (Exit → VS → R) → R := tabI c_vec_Dot (W_vec_Dot F)
def WJ_vec_Dot (F : Nat) : List LJ := []
def J_vec_Dot (F : Nat) : Nat → Nat → VS → (Exit → VS → R) → R := tabJ (WJ_vec_Dot F)
theorem lL_vec_Dot_0 (F : Nat) (k : Exit → VS → R) : ∀ (n : Nat) (x0 : Int) (x1 : Int) (x2 : Int) (x3 : Int) (x4 : Int) (x5 : Int) (x6 : Int) (x7 : Bool) (x8 : Int) (x9 : Int) (x10 : Int) (x11 : Int) (x12 : Int) (x13 : Int) (x14 : Int) (x15 : Int) (x16 : Int), iterC (codeL PP (S_vec_Dot F) c_vec_Dot (I_vec_Dot F) (J_vec_Dot F) (loopAt PP 47 0) 0) (headOf c_vec_Dot 0) k n (fS T_vec_Dot_0 [.i x0, .i x1, .i x2, .i x3, .i x4, .i x5, .i x6, .b x7, .i x8, .i x9, .i x10, .i x11, .i x12, .i x13, .i x14, .i x15, .i x16]) = L_vec_Dot_0 F (fun (z0 : Int) (z1 : Int) (z2 : Int) (z3 : Int) (z4 : Int) (z5 : Int) (z6 : Int) (z7 : Bool) (z8 : Int) (z9 : Int) (z10 : Int) (z11 : Int) (z12 : Int) (z13 : Int) (z14 : Int) (z15 : Int) (z16 : Int) => k (.exit 0) (fS T_vec_Dot_0_0 [.i z0, .i z1, .i z2, .i z3, .i z4, .i z5, .i z6, .b z7, .i z8, .i z9, .i z10, .i z11, .i z12, .i z13, .i z14, .i z15, .i z16])) n x0 x1 x2 x3 x4 x5 x6 x7 x8 x9 x10 x11 x12 x13 x14 x15 x16
  | 0, _, _, _, _, _, _, _, _, _, _, _, _, _, _, _, _, _ => rfl
  | n + 1, x0, x1, x2, x3, x4, x5, x6, x7, x8, x9, x10, x11, x12, x13, x14, x15, x16 => by
    have h0 : ∀ (ok_vec_product : Nat → Int → Int → Bool) (o_vec_product_0 : Nat → Int → Int → Int) (o_vec_product_1 : Nat → Int → Int → Int) (ok_wide_Add : Nat → Int → Int → Int → Int → Bool) (o_wide_Add_0 : Nat → Int → Int → Int → Int → Int) (o_wide_Add_1 : Nat → Int → Int → Int → Int → Int) (ok_vec_clip : Nat → Int → Int → Bool) (o_vec_clip_0 : Nat → Int → Int → Int) (o_vec_clip_1 : Nat → Int → Int → Bool) (L_vec_Dot_0 : Nat → (Int → Int → Int → Int → Int → Int → Int → Bool → Int → Int → Int → Int → Int → Int → Int → Int → Int → R) → Nat → Int → Int → Int → Int → Int → Int → Int → Bool → Int → Int → Int → Int → Int → Int → Int → Int → Int → R), iterC (codeL PP (words [(93, spec ti_vec_product to_vec_product (fun q => (ok_vec_product F (atI (nth q 0)) (atI (nth q 1)))) (fun q => [.i (o_vec_product_0 F (atI (nth q 0)) (atI (nth q 1))), .i (o_vec_product_1 F (atI (nth q 0)) (atI (nth q 1)))])), (71, spec ti_wide_Add to_wide_Add (fun q => (ok_wide_Add F (atI (nth q 0)) (atI (nth q 1)) (atI (nth q 2)) (atI (nth q 3)))) (fun q => [.i (o_wide_Add_0 F (atI (nth q 0)) (atI (nth q 1)) (atI (nth q 2)) (atI (nth q 3))), .i (o_wide_Add_1 F (atI (nth q 0)) (atI (nth q 1)) (atI (nth q 2)) (atI (nth q 3)))])), (94, spec ti_vec_clip to_vec_clip (fun q => (ok_vec_clip F (atI (nth q 0)) (atI (nth q 1)))) (fun q => [.i (o_vec_clip_0 F (atI (nth q 0)) (atI (nth q 1))), .b (o_vec_clip_1 F (atI (nth q 0)) (atI (nth q 1)))]))]) c_vec_Dot (tabI c_vec_Dot [⟨0, T_vec_Dot_0, fun k q => L_vec_Dot_0 F (fun (z0 : Int) (z1 : Int) (z2 : Int) (z3 : Int) (z4 : Int) (z5 : Int) (z6 : Int) (z7 : Bool) (z8 : Int) (z9 : Int) (z10 : Int) (z11 : Int) (z12 : Int) (z13 : Int) (z14 : Int) (z15 : Int) (z16 : Int) => k (.exit 0) (fS T_vec_Dot_0_0 [.i z0, .i z1, .i z2, .i z3, .i z4, .i z5, .i z6, .b z7, .i z8, .i z9, .i z10, .i z11, .i z12, .i z13, .i z14, .i z15, .i z16])) F (atI (nth q 0)) (atI (nth q 1)) (atI (nth q 2)) (atI (nth q 3)) (atI (nth q 4)) (atI (nth q 5)) (atI (nth q 6)) (atB (nth q 7)) (atI (nth q 8)) (atI (nth q 9)) (atI (nth q 10)) (atI (nth q 11)) (atI (nth q 12)) (atI (nth q 13)) (atI (nth q 14)) (atI (nth q 15)) (atI (nth q 16))⟩]) (tabJ []) (loopAt PP 47 0) 0) (headOf c_vec_Dot 0) k (n + 1) (fS T_vec_Dot_0 [.i x0, .i x1, .i x2, .i x3, .i x4, .i x5, .i x6, .b x7, .i x8, .i x9, .i x10, .i x11, .i x12, .i x13, .i x14, .i x15, .i x16]) = (fun (rc : Int → Int → Int → Int → Int → Int → Int → Bool → Int → Int → Int → Int → Int → Int → Int → Int → Int → R) (ex0 : Int → Int → Int → Int → Int → Int → Int → Bool → Int → Int → Int → Int → Int → Int → Int → Int → Int → R) (x0 : Int) (x1 : Int) (x2 : Int) (x3 : Int) (x4 : Int) (x5 : Int) (x6 : Int) (x7 : Bool) (x8 : Int) (x9 : Int) (x10 : Int) (x11 : Int) (x12 : Int) (x13 : Int) (x14 : Int) (x15 : Int) (x16 : Int) => (
  bif ((decide (x8 < 3))) then (
    bif ((decide (0 ≤ x8)) && (decide (x8 < 3))) then (
      let v1625 : Nat := (0 + ((Int.toNat x8) * 1))
      bif ((isI .i64 [.v (.int .i64 x9), .v (.int .i64 x10), .v (.int .i64 x11)][v1625]?) && true) then (
        let v1626 : Int := (iv [.v (.int .i64 x9), .v (.int .i64 x10), .v (.int .i64 x11)][v1625]?)
        bif ((decide (0 ≤ x8)) && (decide (x8 < 3))) then (
          let v1627 : Nat := (0 + ((Int.toNat x8) * 1))
          bif ((isI .i64 [.v (.int .i64 x12), .v (.int .i64 x13), .v (.int .i64 x14)][v1627]?) && true) then (
            let v1628 : Int := (iv [.v (.int .i64 x12), .v (.int .i64 x13), .v (.int .i64 x14)][v1627]?)
            bif (ok_vec_product F v1626 v1628) then (
              let v1696 : Int := (o_vec_product_0 F v1626 v1628)
              let v1697 : Int := (o_vec_product_1 F v1626 v1628)
              bif (ok_wide_Add F x15 x16 v1696 v1697) then (
                rc x0 x1 x2 x3 x4 x5 x6 x7 ((IntKind.wrap .i64 (x8 + 1))) x9 x10 x11 x12 x13 x14 ((o_wide_Add_0 F x15 x16 v1696 v1697)) ((o_wide_Add_1 F x15 x16 v1696 v1697)))
              else (
                none))
            else (
              none))
          else (
            none))
        else (
          none))
      else (
        none))
    else (
      none))
  else (
    ex0 x0 x1 x2 x3 x4 x5 x6 x7 x8 x9 x10 x11 x12 x13 x14 x15 x16) : R)) (fun (y0 : Int) (y1 : Int) (y2 : Int) (y3 : Int) (y4 : Int) (y5 : Int) (y6 : Int) (y7 : Bool) (y8 : Int) (y9 : Int) (y10 : Int) (y11 : Int) (y12 : Int) (y13 : Int) (y14 : Int) (y15 : Int) (y16 : Int) => iterC (codeL PP (words [(93, spec ti_vec_product to_vec_product (fun q => (ok_vec_product F (atI (nth q 0)) (atI (nth q 1)))) (fun q => [.i (o_vec_product_0 F (atI (nth q 0)) (atI (nth q 1))), .i (o_vec_product_1 F (atI (nth q 0)) (atI (nth q 1)))])), (71, spec ti_wide_Add to_wide_Add (fun q => (ok_wide_Add F (atI (nth q 0)) (atI (nth q 1)) (atI (nth q 2)) (atI (nth q 3)))) (fun q => [.i (o_wide_Add_0 F (atI (nth q 0)) (atI (nth q 1)) (atI (nth q 2)) (atI (nth q 3))), .i (o_wide_Add_1 F (atI (nth q 0)) (atI (nth q 1)) (atI (nth q 2)) (atI (nth q 3)))])), (94, spec ti_vec_clip to_vec_clip (fun q => (ok_vec_clip F (atI (nth q 0)) (atI (nth q 1)))) (fun q => [.i (o_vec_clip_0 F (atI (nth q 0)) (atI (nth q 1))), .b (o_vec_clip_1 F (atI (nth q 0)) (atI (nth q 1)))]))]) c_vec_Dot (tabI c_vec_Dot [⟨0, T_vec_Dot_0, fun k q => L_vec_Dot_0 F (fun (z0 : Int) (z1 : Int) (z2 : Int) (z3 : Int) (z4 : Int) (z5 : Int) (z6 : Int) (z7 : Bool) (z8 : Int) (z9 : Int) (z10 : Int) (z11 : Int) (z12 : Int) (z13 : Int) (z14 : Int) (z15 : Int) (z16 : Int) => k (.exit 0) (fS T_vec_Dot_0_0 [.i z0, .i z1, .i z2, .i z3, .i z4, .i z5, .i z6, .b z7, .i z8, .i z9, .i z10, .i z11, .i z12, .i z13, .i z14, .i z15, .i z16])) F (atI (nth q 0)) (atI (nth q 1)) (atI (nth q 2)) (atI (nth q 3)) (atI (nth q 4)) (atI (nth q 5)) (atI (nth q 6)) (atB (nth q 7)) (atI (nth q 8)) (atI (nth q 9)) (atI (nth q 10)) (atI (nth q 11)) (atI (nth q 12)) (atI (nth q 13)) (atI (nth q 14)) (atI (nth q 15)) (atI (nth q 16))⟩]) (tabJ []) (loopAt PP 47 0) 0) (headOf c_vec_Dot 0) k n (fS T_vec_Dot_0 [.i y0, .i y1, .i y2, .i y3, .i y4, .i y5, .i y6, .b y7, .i y8, .i y9, .i y10, .i y11, .i y12, .i y13, .i y14, .i y15, .i y16])) (fun (z0 : Int) (z1 : Int) (z2 : Int) (z3 : Int) (z4 : Int) (z5 : Int) (z6 : Int) (z7 : Bool) (z8 : Int) (z9 : Int) (z10 : Int) (z11 : Int) (z12 : Int) (z13 : Int) (z14 : Int) (z15 : Int) (z16 : Int) => k (.exit 0) (fS T_vec_Dot_0_0 [.i z0, .i z1, .i z2, .i z3, .i z4, .i z5, .i z6, .b z7, .i z8, .i z9, .i z10, .i z11, .i z12, .i z13, .i z14, .i z15, .i z16])) x0 x1 x2 x3 x4 x5 x6 x7 x8 x9 x10 x11 x12 x13 x14 x15 x16 := by
      intros
      kernel_rfl
    have h : iterC (codeL PP (S_vec_Dot F) c_vec_Dot (I_vec_Dot F) (J_vec_Dot F) (loopAt PP 47 0) 0) (headOf c_vec_Dot 0) k (n + 1) (fS T_vec_Dot_0 [.i x0, .i x1, .i x2, .i x3, .i x4, .i x5, .i x6, .b x7, .i x8, .i x9, .i x10, .i x11, .i x12, .i x13, .i x14, .i x15, .i x16]) = B_vec_Dot_0 F (fun (y0 : Int) (y1 : Int) (y2 : Int) (y3 : Int) (y4 : Int) (y5 : Int) (y6 : Int) (y7 : Bool) (y8 : Int) (y9 : Int) (y10 : Int) (y11 : Int) (y12 : Int) (y13 : Int) (y14 : Int) (y15 : Int) (y16 : Int) => iterC (codeL PP (S_vec_Dot F) c_vec_Dot (I_vec_Dot F) (J_vec_Dot F) (loopAt PP 47 0) 0) (headOf c_vec_Dot 0) k n (fS T_vec_Dot_0 [.i y0, .i y1, .i y2, .i y3, .i y4, .i y5, .i y6, .b y7, .i y8, .i y9, .i y10, .i y11, .i y12, .i y13, .i y14, .i y15, .i y16])) (fun (z0 : Int) (z1 : Int) (z2 : Int) (z3 : Int) (z4 : Int) (z5 : Int) (z6 : Int) (z7 : Bool) (z8 : Int) (z9 : Int) (z10 : Int) (z11 : Int) (z12 : Int) (z13 : Int) (z14 : Int) (z15 : Int) (z16 : Int) => k (.exit 0) (fS T_vec_Dot_0_0 [.i z0, .i z1, .i z2, .i z3, .i z4, .i z5, .i z6, .b z7, .i z8, .i z9, .i z10, .i z11, .i z12, .i z13, .i z14, .i z15, .i z16])) x0 x1 x2 x3 x4 x5 x6 x7 x8 x9 x10 x11 x12 x13 x14 x15 x16 := (h0 ok_vec_product o_vec_product_0 o_vec_product_1 ok_wide_Add o_wide_Add_0 o_wide_Add_1 ok_vec_clip o_vec_clip_0 o_vec_clip_1 L_vec_Dot_0).trans (by kernel_rfl)
    rw [h]
    simp only [lL_vec_Dot_0 F k n]
    rfl
def f_vec_Dot (F : Nat) (a0 : Int) (a1 : Int) (a2 : Int) (a3 : Int) (a4 : Int) (a5 : Int) : R :=
  L_vec_Dot_0 F (fun (v1701 : Int) (v1702 : Int) (v1703 : Int) (v1704 : Int) (v1705 : Int) (v1706 : Int) (v1707 : Int) (v1708 : Bool) (v1709 : Int) (v1710 : Int) (v1711 : Int) (v1712 : Int) (v1713 : Int) (v1714 : Int) (v1715 : Int) (v1716 : Int) (v1717 : Int) =>
    bif (ok_vec_clip F v1716 v1717) then (
      some (.v (.tuple #[.int .i64 ((o_vec_clip_0 F v1716 v1717)), .bool ((o_vec_clip_1 F v1716 v1717))])))
    else (
      none)) F a0 a1 a2 a3 a4 a5 0 false 0 a0 a1 a2 a3 a4 a5 0 0
theorem e_vec_Dot (F : Nat) (a0 : Int) (a1 : Int) (a2 : Int) (a3 : Int) (a4 : Int) (a5 : Int) : funL PP (S_vec_Dot F) c_vec_Dot (I_vec_Dot F) (J_vec_Dot F) 47 (fTs ti_vec_Dot [.i a0, .i a1, .i a2, .i a3, .i a4, .i a5]).1 = f_vec_Dot F a0 a1 a2 a3 a4 a5 := by
  have h : ∀ (ok_vec_product : Nat → Int → Int → Bool) (o_vec_product_0 : Nat → Int → Int → Int) (o_vec_product_1 : Nat → Int → Int → Int) (ok_wide_Add : Nat → Int → Int → Int → Int → Bool) (o_wide_Add_0 : Nat → Int → Int → Int → Int → Int) (o_wide_Add_1 : Nat → Int → Int → Int → Int → Int) (ok_vec_clip : Nat → Int → Int → Bool) (o_vec_clip_0 : Nat → Int → Int → Int) (o_vec_clip_1 : Nat → Int → Int → Bool) (L_vec_Dot_0 : Nat → (Int → Int → Int → Int → Int → Int → Int → Bool → Int → Int → Int → Int → Int → Int → Int → Int → Int → R) → Nat → Int → Int → Int → Int → Int → Int → Int → Bool → Int → Int → Int → Int → Int → Int → Int → Int → Int → R), funL PP (words [(93, spec ti_vec_product to_vec_product (fun q => (ok_vec_product F (atI (nth q 0)) (atI (nth q 1)))) (fun q => [.i (o_vec_product_0 F (atI (nth q 0)) (atI (nth q 1))), .i (o_vec_product_1 F (atI (nth q 0)) (atI (nth q 1)))])), (71, spec ti_wide_Add to_wide_Add (fun q => (ok_wide_Add F (atI (nth q 0)) (atI (nth q 1)) (atI (nth q 2)) (atI (nth q 3)))) (fun q => [.i (o_wide_Add_0 F (atI (nth q 0)) (atI (nth q 1)) (atI (nth q 2)) (atI (nth q 3))), .i (o_wide_Add_1 F (atI (nth q 0)) (atI (nth q 1)) (atI (nth q 2)) (atI (nth q 3)))])), (94, spec ti_vec_clip to_vec_clip (fun q => (ok_vec_clip F (atI (nth q 0)) (atI (nth q 1)))) (fun q => [.i (o_vec_clip_0 F (atI (nth q 0)) (atI (nth q 1))), .b (o_vec_clip_1 F (atI (nth q 0)) (atI (nth q 1)))]))]) c_vec_Dot (tabI c_vec_Dot [⟨0, T_vec_Dot_0, fun k q => L_vec_Dot_0 F (fun (z0 : Int) (z1 : Int) (z2 : Int) (z3 : Int) (z4 : Int) (z5 : Int) (z6 : Int) (z7 : Bool) (z8 : Int) (z9 : Int) (z10 : Int) (z11 : Int) (z12 : Int) (z13 : Int) (z14 : Int) (z15 : Int) (z16 : Int) => k (.exit 0) (fS T_vec_Dot_0_0 [.i z0, .i z1, .i z2, .i z3, .i z4, .i z5, .i z6, .b z7, .i z8, .i z9, .i z10, .i z11, .i z12, .i z13, .i z14, .i z15, .i z16])) F (atI (nth q 0)) (atI (nth q 1)) (atI (nth q 2)) (atI (nth q 3)) (atI (nth q 4)) (atI (nth q 5)) (atI (nth q 6)) (atB (nth q 7)) (atI (nth q 8)) (atI (nth q 9)) (atI (nth q 10)) (atI (nth q 11)) (atI (nth q 12)) (atI (nth q 13)) (atI (nth q 14)) (atI (nth q 15)) (atI (nth q 16))⟩]) (tabJ []) 47 (fTs ti_vec_Dot [.i a0, .i a1, .i a2, .i a3, .i a4, .i a5]).1 = (
  L_vec_Dot_0 F (fun (v1701 : Int) (v1702 : Int) (v1703 : Int) (v1704 : Int) (v1705 : Int) (v1706 : Int) (v1707 : Int) (v1708 : Bool) (v1709 : Int) (v1710 : Int) (v1711 : Int) (v1712 : Int) (v1713 : Int) (v1714 : Int) (v1715 : Int) (v1716 : Int) (v1717 : Int) =>
    bif (ok_vec_clip F v1716 v1717) then (
      some (.v (.tuple #[.int .i64 ((o_vec_clip_0 F v1716 v1717)), .bool ((o_vec_clip_1 F v1716 v1717))])))
    else (
      none)) F a0 a1 a2 a3 a4 a5 0 false 0 a0 a1 a2 a3 a4 a5 0 0 : R) := by
    intros
    kernel_rfl
  exact (h ok_vec_product o_vec_product_0 o_vec_product_1 ok_wide_Add o_wide_Add_0 o_wide_Add_1 ok_vec_clip o_vec_clip_0 o_vec_clip_1 L_vec_Dot_0).trans (by kernel_rfl)
def ok_vec_Dot (F : Nat) (a0 : Int) (a1 : Int) (a2 : Int) (a3 : Int) (a4 : Int) (a5 : Int) : Bool := okT to_vec_Dot (f_vec_Dot F a0 a1 a2 a3 a4 a5)
def o_vec_Dot_0 (F : Nat) (a0 : Int) (a1 : Int) (a2 : Int) (a3 : Int) (a4 : Int) (a5 : Int) : Int := atI (nth (outT to_vec_Dot (f_vec_Dot F a0 a1 a2 a3 a4 a5)) 0)
def o_vec_Dot_1 (F : Nat) (a0 : Int) (a1 : Int) (a2 : Int) (a3 : Int) (a4 : Int) (a5 : Int) : Bool := atB (nth (outT to_vec_Dot (f_vec_Dot F a0 a1 a2 a3 a4 a5)) 1)
theorem k_vec_Dot (F : Nat) (a0 : Int) (a1 : Int) (a2 : Int) (a3 : Int) (a4 : Int) (a5 : Int) {z0 : Int} {z1 : Bool} (h : f_vec_Dot F a0 a1 a2 a3 a4 a5 = some (.v (.tuple #[.int .i64 z0, .bool z1]))) : ok_vec_Dot F a0 a1 a2 a3 a4 a5 = true ∧ o_vec_Dot_0 F a0 a1 a2 a3 a4 a5 = z0 ∧ o_vec_Dot_1 F a0 a1 a2 a3 a4 a5 = z1 := by
  refine ⟨?_, ?_, ?_⟩
  · unfold ok_vec_Dot; rw [h]; kernel_rfl
  · unfold o_vec_Dot_0; rw [h]; kernel_rfl
  · unfold o_vec_Dot_1; rw [h]; kernel_rfl
def s_vec_Dot (F : Nat) : List VV → Option (Bool × VV) := spec ti_vec_Dot to_vec_Dot (fun q => (ok_vec_Dot F (atI (nth q 0)) (atI (nth q 1)) (atI (nth q 2)) (atI (nth q 3)) (atI (nth q 4)) (atI (nth q 5)))) (fun q => [.i (o_vec_Dot_0 F (atI (nth q 0)) (atI (nth q 1)) (atI (nth q 2)) (atI (nth q 3)) (atI (nth q 4)) (atI (nth q 5))), .b (o_vec_Dot_1 F (atI (nth q 0)) (atI (nth q 1)) (atI (nth q 2)) (atI (nth q 3)) (atI (nth q 4)) (atI (nth q 5)))])
theorem hS_vec_Dot (F : Nat) : ∀ f, Good PP f (unS (S_vec_Dot F f)) := words_good fun p hp => by
  simp only [List.mem_cons, List.not_mem_nil, or_false] at hp
  rcases hp with rfl | rfl | rfl
  · exact g_vec_product F
  · exact g_wide_Add F
  · exact g_vec_clip F
theorem hl_vec_Dot (F : Nat) : ∀ p ∈ loopsIn PP 47, LoopOK PP (S_vec_Dot F) c_vec_Dot F (I_vec_Dot F) (J_vec_Dot F) p :=
  loops_of [(0, loopAt PP 47 0)] (by kernel_rfl) (all_cons
    (loop_ok (W_vec_Dot F) rfl (tab_cons (fun _ k q => Le.ofEq ((lL_vec_Dot_0 F k F (atI (nth q 0)) (atI (nth q 1)) (atI (nth q 2)) (atI (nth q 3)) (atI (nth q 4)) (atI (nth q 5)) (atI (nth q 6)) (atB (nth q 7)) (atI (nth q 8)) (atI (nth q 9)) (atI (nth q 10)) (atI (nth q 11)) (atI (nth q 12)) (atI (nth q 13)) (atI (nth q 14)) (atI (nth q 15)) (atI (nth q 16))).symm.trans (congrArg (iterC (codeL PP (S_vec_Dot F) c_vec_Dot (I_vec_Dot F) (J_vec_Dot F) (loopAt PP 47 0) 0) (headOf c_vec_Dot 0) k F) (show fS T_vec_Dot_0 [.i (atI (nth q 0)), .i (atI (nth q 1)), .i (atI (nth q 2)), .i (atI (nth q 3)), .i (atI (nth q 4)), .i (atI (nth q 5)), .i (atI (nth q 6)), .b (atB (nth q 7)), .i (atI (nth q 8)), .i (atI (nth q 9)), .i (atI (nth q 10)), .i (atI (nth q 11)), .i (atI (nth q 12)), .i (atI (nth q 13)), .i (atI (nth q 14)), .i (atI (nth q 15)), .i (atI (nth q 16))] = fS T_vec_Dot_0 q by kernel_rfl)))) tab_nil)) all_nil)
theorem hj_vec_Dot (F : Nat) : ∀ p ∈ joinsIn PP c_vec_Dot 47, JoinOK PP (S_vec_Dot F) c_vec_Dot (I_vec_Dot F) (J_vec_Dot F) p :=
  joins_of [] (by kernel_rfl) all_nil
theorem g_vec_Dot (F : Nat) : Good PP 47 (unS (s_vec_Dot F)) :=
  fun_spec (hS_vec_Dot F) (by kernel_rfl) (by kernel_rfl) (C := c_vec_Dot) (F := fun q => (f_vec_Dot F (atI (nth q 0)) (atI (nth q 1)) (atI (nth q 2)) (atI (nth q 3)) (atI (nth q 4)) (atI (nth q 5)))) (fun _ => F) (fun _ => I_vec_Dot F) (fun _ => J_vec_Dot F) (fun _ => hl_vec_Dot F) (fun _ => hj_vec_Dot F)
    (fun q => (congrArg (funL PP (S_vec_Dot F) c_vec_Dot (I_vec_Dot F) (J_vec_Dot F) 47) (show (fTs ti_vec_Dot q).1 = (fTs ti_vec_Dot [.i (atI (nth q 0)), .i (atI (nth q 1)), .i (atI (nth q 2)), .i (atI (nth q 3)), .i (atI (nth q 4)), .i (atI (nth q 5))]).1 by kernel_rfl)).trans (e_vec_Dot F (atI (nth q 0)) (atI (nth q 1)) (atI (nth q 2)) (atI (nth q 3)) (atI (nth q 4)) (atI (nth q 5))))
    (fun _ h => (okT_fill h).trans (congrArg some (by kernel_rfl)))

end Go.Xv
set_option linter.unusedVariables false
namespace Go.Xv
/- 82 _turn_opposite -/
def c_turn_opposite : Cfg := ⟨[0, 1, 4, 5, 7], [], [], []⟩
def ti_turn_opposite : List TV := [.v (.int .i64), .v (.int .i64)]
def to_turn_opposite : TV := .v (.agg [.int .i64, .int .i64])
def S_turn_opposite (F : Nat) : FuncId → List VV → Option (Bool × VV) := words [(113, s_fix_Neg F)]
def W_turn_opposite (F : Nat) : List LW := []
def I_turn_opposite (F : Nat) : Nat → VS → (Exit → VS → R) → R := tabI c_turn_opposite (W_turn_opposite F)
def WJ_turn_opposite (F : Nat) : List LJ := []
def J_turn_opposite (F : Nat) : Nat → Nat → VS → (Exit → VS → R) → R := tabJ (WJ_turn_opposite F)
def f_turn_opposite (F : Nat) (a0 : Int) (a1 : Int) : R :=
  bif (ok_fix_Neg F a0) then (
    bif (ok_fix_Neg F a1) then (
      some (.v (.agg #[.int .i64 ((o_fix_Neg_0 F a0)), .int .i64 ((o_fix_Neg_0 F a1))])))
    else (
      none))
  else (
    none)
theorem e_turn_opposite (F : Nat) (a0 : Int) (a1 : Int) : funL PP (S_turn_opposite F) c_turn_opposite (I_turn_opposite F) (J_turn_opposite F) 82 (fTs ti_turn_opposite [.i a0, .i a1]).1 = f_turn_opposite F a0 a1 := by
  have h : ∀ (ok_fix_Neg : Nat → Int → Bool) (o_fix_Neg_0 : Nat → Int → Int) (o_fix_Neg_1 : Nat → Int → Bool), funL PP (words [(113, spec ti_fix_Neg to_fix_Neg (fun q => (ok_fix_Neg F (atI (nth q 0)))) (fun q => [.i (o_fix_Neg_0 F (atI (nth q 0))), .b (o_fix_Neg_1 F (atI (nth q 0)))]))]) c_turn_opposite (tabI c_turn_opposite []) (tabJ []) 82 (fTs ti_turn_opposite [.i a0, .i a1]).1 = (
  bif (ok_fix_Neg F a0) then (
    bif (ok_fix_Neg F a1) then (
      some (.v (.agg #[.int .i64 ((o_fix_Neg_0 F a0)), .int .i64 ((o_fix_Neg_0 F a1))])))
    else (
      none))
  else (
    none) : R) := by
    intros
    kernel_rfl
  exact (h ok_fix_Neg o_fix_Neg_0 o_fix_Neg_1).trans (by kernel_rfl)
def ok_turn_opposite (F : Nat) (a0 : Int) (a1 : Int) : Bool := okT to_turn_opposite (f_turn_opposite F a0 a1)
def o_turn_opposite_0 (F : Nat) (a0 : Int) (a1 : Int) : Int := atI (nth (outT to_turn_opposite (f_turn_opposite F a0 a1)) 0)
def o_turn_opposite_1 (F : Nat) (a0 : Int) (a1 : Int) : Int := atI (nth (outT to_turn_opposite (f_turn_opposite F a0 a1)) 1)
theorem k_turn_opposite (F : Nat) (a0 : Int) (a1 : Int) {z0 : Int} {z1 : Int} (h : f_turn_opposite F a0 a1 = some (.v (.agg #[.int .i64 z0, .int .i64 z1]))) : ok_turn_opposite F a0 a1 = true ∧ o_turn_opposite_0 F a0 a1 = z0 ∧ o_turn_opposite_1 F a0 a1 = z1 := by
  refine ⟨?_, ?_, ?_⟩
  · unfold ok_turn_opposite; rw [h]; kernel_rfl
  · unfold o_turn_opposite_0; rw [h]; kernel_rfl
  · unfold o_turn_opposite_1; rw [h]; kernel_rfl
def s_turn_opposite (F : Nat) : List VV → Option (Bool × VV) := spec ti_turn_opposite to_turn_opposite (fun q => (ok_turn_opposite F (atI (nth q 0)) (atI (nth q 1)))) (fun q => [.i (o_turn_opposite_0 F (atI (nth q 0)) (atI (nth q 1))), .i (o_turn_opposite_1 F (atI (nth q 0)) (atI (nth q 1)))])
theorem hS_turn_opposite (F : Nat) : ∀ f, Good PP f (unS (S_turn_opposite F f)) := words_good fun p hp => by
  simp only [List.mem_cons, List.not_mem_nil, or_false] at hp
  rcases hp with rfl
  · exact g_fix_Neg F
theorem hl_turn_opposite (F : Nat) : ∀ p ∈ loopsIn PP 82, LoopOK PP (S_turn_opposite F) c_turn_opposite F (I_turn_opposite F) (J_turn_opposite F) p :=
  loops_of [] (by kernel_rfl) all_nil
theorem hj_turn_opposite (F : Nat) : ∀ p ∈ joinsIn PP c_turn_opposite 82, JoinOK PP (S_turn_opposite F) c_turn_opposite (I_turn_opposite F) (J_turn_opposite F) p :=
  joins_of [] (by kernel_rfl) all_nil
theorem g_turn_opposite (F : Nat) : Good PP 82 (unS (s_turn_opposite F)) :=
  fun_spec (hS_turn_opposite F) (by kernel_rfl) (by kernel_rfl) (C := c_turn_opposite) (F := fun q => (f_turn_opposite F (atI (nth q 0)) (atI (nth q 1)))) (fun _ => F) (fun _ => I_turn_opposite F) (fun _ => J_turn_opposite F) (fun _ => hl_turn_opposite F) (fun _ => hj_turn_opposite F)
    (fun q => (congrArg (funL PP (S_turn_opposite F) c_turn_opposite (I_turn_opposite F) (J_turn_opposite F) 82) (show (fTs ti_turn_opposite q).1 = (fTs ti_turn_opposite [.i (atI (nth q 0)), .i (atI (nth q 1))]).1 by kernel_rfl)).trans (e_turn_opposite F (atI (nth q 0)) (atI (nth q 1))))
    (fun _ h => (okT_fill h).trans (congrArg some (by kernel_rfl)))

end Go.Xv
set_option linter.unusedVariables false
namespace Go.Xv
/- 114 _turn_size -/
def c_turn_size : Cfg := ⟨[0, 2, 4], [], [], []⟩
def ti_turn_size : List TV := [.v (.int .i64)]
def to_turn_size : TV := .v (.int .u64)
def S_turn_size (F : Nat) : FuncId → List VV → Option (Bool × VV) := words []
def W_turn_size (F : Nat) : List LW := []
def I_turn_size (F : Nat) : Nat → VS → (Exit → VS → R) → R := tabI c_turn_size (W_turn_size F)
def WJ_turn_size (F : Nat) : List LJ := []
def J_turn_size (F : Nat) : Nat → Nat → VS → (Exit → VS → R) → R := tabJ (WJ_turn_size F)
def f_turn_size (F : Nat) (a0 : Int) : R :=
  bif ((decide (a0 < 0))) then (
    some (.v (.int .u64 ((IntKind.wrap .u64 (0 - ((IntKind.wrap .u64 a0))))))))
  else (
    some (.v (.int .u64 ((IntKind.wrap .u64 a0)))))
theorem e_turn_size (F : Nat) (a0 : Int) : funL PP (S_turn_size F) c_turn_size (I_turn_size F) (J_turn_size F) 114 (fTs ti_turn_size [.i a0]).1 = f_turn_size F a0 := by
  have h : ∀ (_ : Unit), funL PP (words []) c_turn_size (tabI c_turn_size []) (tabJ []) 114 (fTs ti_turn_size [.i a0]).1 = (
  bif ((decide (a0 < 0))) then (
    some (.v (.int .u64 ((IntKind.wrap .u64 (0 - ((IntKind.wrap .u64 a0))))))))
  else (
    some (.v (.int .u64 ((IntKind.wrap .u64 a0))))) : R) := by
    intros
    kernel_rfl
  exact (h ()).trans (by kernel_rfl)
def ok_turn_size (F : Nat) (a0 : Int) : Bool := okT to_turn_size (f_turn_size F a0)
def o_turn_size_0 (F : Nat) (a0 : Int) : Int := atI (nth (outT to_turn_size (f_turn_size F a0)) 0)
theorem k_turn_size (F : Nat) (a0 : Int) {z0 : Int} (h : f_turn_size F a0 = some (.v (.int .u64 z0))) : ok_turn_size F a0 = true ∧ o_turn_size_0 F a0 = z0 := by
  refine ⟨?_, ?_⟩
  · unfold ok_turn_size; rw [h]; kernel_rfl
  · unfold o_turn_size_0; rw [h]; kernel_rfl
def s_turn_size (F : Nat) : List VV → Option (Bool × VV) := spec ti_turn_size to_turn_size (fun q => (ok_turn_size F (atI (nth q 0)))) (fun q => [.i (o_turn_size_0 F (atI (nth q 0)))])
theorem hS_turn_size (F : Nat) : ∀ f, Good PP f (unS (S_turn_size F f)) := words_good fun p hp => by
  cases hp
theorem hl_turn_size (F : Nat) : ∀ p ∈ loopsIn PP 114, LoopOK PP (S_turn_size F) c_turn_size F (I_turn_size F) (J_turn_size F) p :=
  loops_of [] (by kernel_rfl) all_nil
theorem hj_turn_size (F : Nat) : ∀ p ∈ joinsIn PP c_turn_size 114, JoinOK PP (S_turn_size F) c_turn_size (I_turn_size F) (J_turn_size F) p :=
  joins_of [] (by kernel_rfl) all_nil
theorem g_turn_size (F : Nat) : Good PP 114 (unS (s_turn_size F)) :=
  fun_spec (hS_turn_size F) (by kernel_rfl) (by kernel_rfl) (C := c_turn_size) (F := fun q => (f_turn_size F (atI (nth q 0)))) (fun _ => F) (fun _ => I_turn_size F) (fun _ => J_turn_size F) (fun _ => hl_turn_size F) (fun _ => hj_turn_size F)
    (fun q => (congrArg (funL PP (S_turn_size F) c_turn_size (I_turn_size F) (J_turn_size F) 114) (show (fTs ti_turn_size q).1 = (fTs ti_turn_size [.i (atI (nth q 0))]).1 by kernel_rfl)).trans (e_turn_size F (atI (nth q 0))))
    (fun _ h => (okT_fill h).trans (congrArg some (by kernel_rfl)))

end Go.Xv
set_option linter.unusedVariables false
namespace Go.Xv
/- 83 _turn_pair_scaled -/
def c_turn_pair_scaled : Cfg := ⟨[0, 1, 2, 10, 25], [(0, [0, 1, 2, 18, 19, 20, 21, 22, 23, 24, 25, 26, 27, 28, 29, 30, 31, 32, 33]), (2, [0, 1, 2, 3, 4, 5, 6, 7, 8, 9, 10, 11, 12, 13, 14, 15, 16, 17, 33])], [], []⟩
def ti_turn_pair_scaled : List TV := [.v (.agg [.int .i64, .int .i64])]
def to_turn_pair_scaled : TV := .v (.agg [.int .i64, .int .i64])
def S_turn_pair_scaled (F : Nat) : FuncId → List VV → Option (Bool × VV) := words [(114, s_turn_size F)]
def T_turn_pair_scaled_0 : TS := ⟨[(0, .v (.agg [.int .i64, .int .i64])), (1, .lp 0 (.lit 0)), (2, .lp 1 (.lit 0))], [(0, ⟨(.ex [.v (.int .i64), .v (.int .i64)]), true⟩), (1, ⟨(.ex [.v (.int .i64), .v (.int .i64)]), true⟩)], 2⟩
def T_turn_pair_scaled_0_0 : TS := ⟨[(0, .v (.agg [.int .i64, .int .i64])), (1, .lp 0 (.lit 0)), (2, .lp 1 (.lit 0))], [(0, ⟨(.ex [.v (.int .i64), .v (.int .i64)]), true⟩), (1, ⟨(.ex [.v (.int .i64), .v (.int .i64)]), true⟩)], 2⟩
def B_turn_pair_scaled_0 (F : Nat) (rc : Int → Int → Int → Int → Int → Int → R) (ex0 : Int → Int → Int → Int → Int → Int → R) (x0 : Int) (x1 : Int) (x2 : Int) (x3 : Int) (x4 : Int) (x5 : Int) : R :=
  bif (ok_turn_size F x2) then (
    let v312 : Int := (o_turn_size_0 F x2)
    bif (ok_turn_size F x3) then (
      let v313 : Int := (o_turn_size_0 F x3)
      bif ((decide (((if v313 > v312 then v313 else v312)) ≥ 2305843009213693952))) then (
        rc x0 x1 ((Int.fdiv x2 (2))) ((Int.fdiv x3 (2))) x4 x5)
      else (
        ex0 x0 x1 x2 x3 x4 x5))
    else (
      none))
  else (
    none)
def L_turn_pair_scaled_0 (F : Nat) (ex0 : Int → Int → Int → Int → Int → Int → R) : Nat → Int → Int → Int → Int → Int → Int → R
  | 0, _, _, _, _, _, _ => none
  | n + 1, x0, x1, x2, x3, x4, x5 => B_turn_pair_scaled_0 F (L_turn_pair_scaled_0 F ex0 n) ex0 x0 x1 x2 x3 x4 x5
def T_turn_pair_scaled_1 : TS := ⟨[(0, .v (.agg [.int .i64, .int .i64])), (1, .lp 0 (.lit 0)), (2, .lp 1 (.lit 0))], [(0, ⟨(.ex [.v (.int .i64), .v (.int .i64)]), true⟩), (1, ⟨(.ex [.v (.int .i64), .v (.int .i64)]), true⟩)], 2⟩
def T_turn_pair_scaled_1_0 : TS := ⟨[(0, .v (.agg [.int .i64, .int .i64])), (1, .lp 0 (.lit 0)), (2, .lp 1 (.lit 0))], [(0, ⟨(.ex [.v (.int .i64), .v (.int .i64)]), true⟩), (1, ⟨(.ex [.v (.int .i64), .v (.int .i64)]), true⟩)], 2⟩
def B_turn_pair_scaled_1 (F : Nat) (rc : Int → Int → Int → Int → Int → Int → R) (ex0 : Int → Int → Int → Int → Int → Int → R) (x0 : Int) (x1 : Int) (x2 : Int) (x3 : Int) (x4 : Int) (x5 : Int) : R :=
  bif (ok_turn_size F x2) then (
    let v330 : Int := (o_turn_size_0 F x2)
    bif (ok_turn_size F x3) then (
      let v331 : Int := (o_turn_size_0 F x3)
      bif ((decide (((if v331 > v330 then v331 else v330)) < 1152921504606846976))) then (
        rc x0 x1 ((IntKind.wrap .i64 (x2 * 2))) ((IntKind.wrap .i64 (x3 * 2))) x4 x5)
      else (
        ex0 x0 x1 x2 x3 x4 x5))
    else (
      none))
  else (
    none)
def L_turn_pair_scaled_1 (F : Nat) (ex0 : Int → Int → Int → Int → Int → Int → R) : Nat → Int → Int → Int → Int → Int → Int → R
  | 0, _, _, _, _, _, _ => none
  | n + 1, x0, x1, x2, x3, x4, x5 => B_turn_pair_scaled_1 F (L_turn_pair_scaled_1 F ex0 n) ex0 x0 x1 x2 x3 x4 x5
def W_turn_pair_scaled (F : Nat) : List LW := [⟨0, T_turn_pair_scaled_0, fun k q => L_turn_pair_scaled_0 F (fun (z0 : Int) (z1 : Int) (z2 : Int) (z3 : Int) (z4 : Int) (z5 : Int) => k (.exit 0) (fS T_turn_pair_scaled_0_0 [.i z0, .i z1, .i z2, .i z3, .i z4, .i z5])) F (atI (nth q 0)) (atI (nth q 1)) (atI (nth q 2)) (atI (nth q 3)) (atI (nth q 4)) (atI (nth q 5))⟩, ⟨2, T_turn_pair_scaled_1, fun k q => L_turn_pair_scaled_1 F (fun (z0 : Int) (z1 : Int) (z2 : Int) (z3 : Int) (z4 : Int) (z5 : Int) => k (.exit 2) (fS T_turn_pair_scaled_1_0 [.i z0, .i z1, .i z2, .i z3, .i z4, .i z5])) F (atI (nth q 0)) (atI (nth q 1)) (atI (nth q 2)) (atI (nth q 3)) (atI (nth q 4)) (atI (nth q 5))⟩]
def I_turn_pair_scaled (F : Nat) : Nat → VS → (Exit → VS → R) → R := tabI c_turn_pair_scaled (W_turn_pair_scaled F)
def WJ_turn_pair_scaled (F : Nat) : List LJ := []
def J_turn_pair_scaled (F : Nat) : Nat → Nat → VS → (Exit → VS → R) → R := tabJ (WJ_turn_pair_scaled F)
theorem lL_turn_pair_scaled_0 (F : Nat) (k : Exit → VS → R) : ∀ (n : Nat) (x0 : Int) (x1 : Int) (x2 : Int) (x3 : Int) (x4 : Int) (x5 : Int), iterC (codeL PP (S_turn_pair_scaled F) c_turn_pair_scaled (I_turn_pair_scaled F) (J_turn_pair_scaled F) (loopAt PP 83 0) 0) (headOf c_turn_pair_scaled 0) k n (fS T_turn_pair_scaled_0 [.i x0, .i x1, .i x2, .i x3, .i x4, .i x5]) = L_turn_pair_scaled_0 F (fun (z0 : Int) (z1 : Int) (z2 : Int) (z3 : Int) (z4 : Int) (z5 : Int) => k (.exit 0) (fS T_turn_pair_scaled_0_0 [.i z0, .i z1, .i z2, .i z3, .i z4, .i z5])) n x0 x1 x2 x3 x4 x5
  | 0, _, _, _, _, _, _ => rfl
  | n + 1, x0, x1, x2, x3, x4, x5 => by
    have h0 : ∀ (ok_turn_size : Nat → Int → Bool) (o_turn_size_0 : Nat → Int → Int) (L_turn_pair_scaled_0 : Nat → (Int → Int → Int → Int → Int → Int → R) → Nat → Int → Int → Int → Int → Int → Int → R) (L_turn_pair_scaled_1 : Nat → (Int → Int → Int → Int → Int → Int → R) → Nat → Int → Int → Int → Int → Int → Int → R), iterC (codeL PP (words [(114, spec ti_turn_size to_turn_size (fun q => (ok_turn_size F (atI (nth q 0)))) (fun q => [.i (o_turn_size_0 F (atI (nth q 0)))]))]) c_turn_pair_scaled (tabI c_turn_pair_scaled [⟨0, T_turn_pair_scaled_0, fun k q => L_turn_pair_scaled_0 F (fun (z0 : Int) (z1 : Int) (z2 : Int) (z3 : Int) (z4 : Int) (z5 : Int) => k (.exit 0) (fS T_turn_pair_scaled_0_0 [.i z0, .i z1, .i z2, .i z3, .i z4, .i z5])) F (atI (nth q 0)) (atI (nth q 1)) (atI (nth q 2)) (atI (nth q 3)) (atI (nth q 4)) (atI (nth q 5))⟩, ⟨2, T_turn_pair_scaled_1, fun k q => L_turn_pair_scaled_1 F (fun (z0 : Int) (z1 : Int) (z2 : Int) (z3 : Int) (z4 : Int) (z5 : Int) => k (.exit 2) (fS T_turn_pair_scaled_1_0 [.i z0, .i z1, .i z2, .i z3, .i z4, .i z5])) F (atI (nth q 0)) (atI (nth q 1)) (atI (nth q 2)) (atI (nth q 3)) (atI (nth q 4)) (atI (nth q 5))⟩]) (tabJ []) (loopAt PP 83 0) 0) (headOf c_turn_pair_scaled 0) k (n + 1) (fS T_turn_pair_scaled_0 [.i x0, .i x1, .i x2, .i x3, .i x4, .i x5]) = (fun (rc : Int → Int → Int → Int → Int → Int → R) (ex0 : Int → Int → Int → Int → Int → Int → R) (x0 : Int) (x1 : Int) (x2 : Int) (x3 : Int) (x4 : Int) (x5 : Int) => (
  bif (ok_turn_size F x2) then (
    let v312 : Int := (o_turn_size_0 F x2)
    bif (ok_turn_size F x3) then (
      let v313 : Int := (o_turn_size_0 F x3)
      bif ((decide (((if v313 > v312 then v313 else v312)) ≥ 2305843009213693952))) then (
        rc x0 x1 ((Int.fdiv x2 (2))) ((Int.fdiv x3 (2))) x4 x5)
      else (
        ex0 x0 x1 x2 x3 x4 x5))
    else (
      none))
  else (
    none) : R)) (fun (y0 : Int) (y1 : Int) (y2 : Int) (y3 : Int) (y4 : Int) (y5 : Int) => iterC (codeL PP (words [(114, spec ti_turn_size to_turn_size (fun q => (ok_turn_size F (atI (nth q 0)))) (fun q => [.i (o_turn_size_0 F (atI (nth q 0)))]))]) c_turn_pair_scaled (tabI c_turn_pair_scaled [⟨0, T_turn_pair_scaled_0, fun k q => L_turn_pair_scaled_0 F (fun (z0 : Int) (z1 : Int) (z2 : Int) (z3 : Int) (z4 : Int) (z5 : Int) => k (.exit 0) (fS T_turn_pair_scaled_0_0 [.i z0, .i z1, .i z2, .i z3, .i z4, .i z5])) F (atI (nth q 0)) (atI (nth q 1)) (atI (nth q 2)) (atI (nth q 3)) (atI (nth q 4)) (atI (nth q 5))⟩, ⟨2, T_turn_pair_scaled_1, fun k q => L_turn_pair_scaled_1 F (fun (z0 : Int) (z1 : Int) (z2 : Int) (z3 : Int) (z4 : Int) (z5 : Int) => k (.exit 2) (fS T_turn_pair_scaled_1_0 [.i z0, .i z1, .i z2, .i z3, .i z4, .i z5])) F (atI (nth q 0)) (atI (nth q 1)) (atI (nth q 2)) (atI (nth q 3)) (atI (nth q 4)) (atI (nth q 5))⟩]) (tabJ []) (loopAt PP 83 0) 0) (headOf c_turn_pair_scaled 0) k n (fS T_turn_pair_scaled_0 [.i y0, .i y1, .i y2, .i y3, .i y4, .i y5])) (fun (z0 : Int) (z1 : Int) (z2 : Int) (z3 : Int) (z4 : Int) (z5 : Int) => k (.exit 0) (fS T_turn_pair_scaled_0_0 [.i z0, .i z1, .i z2, .i z3, .i z4, .i z5])) x0 x1 x2 x3 x4 x5 := by
      intros
      kernel_rfl
    have h : iterC (codeL PP (S_turn_pair_scaled F) c_turn_pair_scaled (I_turn_pair_scaled F) (J_turn_pair_scaled F) (loopAt PP 83 0) 0) (headOf c_turn_pair_scaled 0) k (n + 1) (fS T_turn_pair_scaled_0 [.i x0, .i x1, .i x2, .i x3, .i x4, .i x5]) = B_turn_pair_scaled_0 F (fun (y0 : Int) (y1 : Int) (y2 : Int) (y3 : Int) (y4 : Int) (y5 : Int) => iterC (codeL PP (S_turn_pair_scaled F) c_turn_pair_scaled (I_turn_pair_scaled F) (J_turn_pair_scaled F) (loopAt PP 83 0) 0) (headOf c_turn_pair_scaled 0) k n (fS T_turn_pair_scaled_0 [.i y0, .i y1, .i y2, .i y3, .i y4, .i y5])) (fun (z0 : Int) (z1 : Int) (z2 : Int) (z3 : Int) (z4 : Int) (z5 : Int) => k (.exit 0) (fS T_turn_pair_scaled_0_0 [.i z0, .i z1, .i z2, .i z3, .i z4, .i z5])) x0 x1 x2 x3 x4 x5 := (h0 ok_turn_size o_turn_size_0 L_turn_pair_scaled_0 L_turn_pair_scaled_1).trans (by kernel_rfl)
    rw [h]
    simp only [lL_turn_pair_scaled_0 F k n]
    rfl
theorem lL_turn_pair_scaled_1 (F : Nat) (k : Exit → VS → R) : ∀ (n : Nat) (x0 : Int) (x1 : Int) (x2 : Int) (x3 : Int) (x4 : Int) (x5 : Int), iterC (codeL PP (S_turn_pair_scaled F) c_turn_pair_scaled (I_turn_pair_scaled F) (J_turn_pair_scaled F) (loopAt PP 83 1) 2) (headOf c_turn_pair_scaled 2) k n (fS T_turn_pair_scaled_1 [.i x0, .i x1, .i x2, .i x3, .i x4, .i x5]) = L_turn_pair_scaled_1 F (fun (z0 : Int) (z1 : Int) (z2 : Int) (z3 : Int) (z4 : Int) (z5 : Int) => k (.exit 2) (fS T_turn_pair_scaled_1_0 [.i z0, .i z1, .i z2, .i z3, .i z4, .i z5])) n x0 x1 x2 x3 x4 x5
  | 0, _, _, _, _, _, _ => rfl
  | n + 1, x0, x1, x2, x3, x4, x5 => by
    have h0 : ∀ (ok_turn_size : Nat → Int → Bool) (o_turn_size_0 : Nat → Int → Int) (L_turn_pair_scaled_0 : Nat → (Int → Int → Int → Int → Int → Int → R) → Nat → Int → Int → Int → Int → Int → Int → R) (L_turn_pair_scaled_1 : Nat → (Int → Int → Int → Int → Int → Int → R) → Nat → Int → Int → Int → Int → Int → Int → R), iterC (codeL PP (words [(114, spec ti_turn_size to_turn_size (fun q => (ok_turn_size F (atI (nth q 0)))) (fun q => [.i (o_turn_size_0 F (atI (nth q 0)))]))]) c_turn_pair_scaled (tabI c_turn_pair_scaled [⟨0, T_turn_pair_scaled_0, fun k q => L_turn_pair_scaled_0 F (fun (z0 : Int) (z1 : Int) (z2 : Int) (z3 : Int) (z4 : Int) (z5 : Int) => k (.exit 0) (fS T_turn_pair_scaled_0_0 [.i z0, .i z1, .i z2, .i z3, .i z4, .i z5])) F (atI (nth q 0)) (atI (nth q 1)) (atI (nth q 2)) (atI (nth q 3)) (atI (nth q 4)) (atI (nth q 5))⟩, ⟨2, T_turn_pair_scaled_1, fun k q => L_turn_pair_scaled_1 F (fun (z0 : Int) (z1 : Int) (z2 : Int) (z3 : Int) (z4 : Int) (z5 : Int) => k (.exit 2) (fS T_turn_pair_scaled_1_0 [.i z0, .i z1, .i z2, .i z3, .i z4, .i z5])) F (atI (nth q 0)) (atI (nth q 1)) (atI (nth q 2)) (atI (nth q 3)) (atI (nth q 4)) (atI (nth q 5))⟩]) (tabJ []) (loopAt PP 83 1) 2) (headOf c_turn_pair_scaled 2) k (n + 1) (fS T_turn_pair_scaled_1 [.i x0, .i x1, .i x2, .i x3, .i x4, .i x5]) = (fun (rc : Int → Int → Int → Int → Int → Int → R) (ex0 : Int → Int → Int → Int → Int → Int → R) (x0 : Int) (x1 : Int) (x2 : Int) (x3 : Int) (x4 : Int) (x5 : Int) => (
  bif (ok_turn_size F x2) then (
    let v330 : Int := (o_turn_size_0 F x2)
    bif (ok_turn_size F x3) then (
      let v331 : Int := (o_turn_size_0 F x3)
      bif ((decide (((if v331 > v330 then v331 else v330)) < 1152921504606846976))) then (
        rc x0 x1 ((IntKind.wrap .i64 (x2 * 2))) ((IntKind.wrap .i64 (x3 * 2))) x4 x5)
      else (
        ex0 x0 x1 x2 x3 x4 x5))
    else (
      none))
  else (
    none) : R)) (fun (y0 : Int) (y1 : Int) (y2 : Int) (y3 : Int) (y4 : Int) (y5 : Int) => iterC (codeL PP (words [(114, spec ti_turn_size to_turn_size (fun q => (ok_turn_size F (atI (nth q 0)))) (fun q => [.i (o_turn_size_0 F (atI (nth q 0)))]))]) c_turn_pair_scaled (tabI c_turn_pair_scaled [⟨0, T_turn_pair_scaled_0, fun k q => L_turn_pair_scaled_0 F (fun (z0 : Int) (z1 : Int) (z2 : Int) (z3 : Int) (z4 : Int) (z5 : Int) => k (.exit 0) (fS T_turn_pair_scaled_0_0 [.i z0, .i z1, .i z2, .i z3, .i z4, .i z5])) F (atI (nth q 0)) (atI (nth q 1)) (atI (nth q 2)) (atI (nth q 3)) (atI (nth q 4)) (atI (nth q 5))⟩, ⟨2, T_turn_pair_scaled_1, fun k q => L_turn_pair_scaled_1 F (fun (z0 : Int) (z1 : Int) (z2 : Int) (z3 : Int) (z4 : Int) (z5 : Int) => k (.exit 2) (fS T_turn_pair_scaled_1_0 [.i z0, .i z1, .i z2, .i z3, .i z4, .i z5])) F (atI (nth q 0)) (atI (nth q 1)) (atI (nth q 2)) (atI (nth q 3)) (atI (nth q 4)) (atI (nth q 5))⟩]) (tabJ []) (loopAt PP 83 1) 2) (headOf c_turn_pair_scaled 2) k n (fS T_turn_pair_scaled_1 [.i y0, .i y1, .i y2, .i y3, .i y4, .i y5])) (fun (z0 : Int) (z1 : Int) (z2 : Int) (z3 : Int) (z4 : Int) (z5 : Int) => k (.exit 2) (fS T_turn_pair_scaled_1_0 [.i z0, .i z1, .i z2, .i z3, .i z4, .i z5])) x0 x1 x2 x3 x4 x5 := by
      intros
      kernel_rfl
    have h : iterC (codeL PP (S_turn_pair_scaled F) c_turn_pair_scaled (I_turn_pair_scaled F) (J_turn_pair_scaled F) (loopAt PP 83 1) 2) (headOf c_turn_pair_scaled 2) k (n + 1) (fS T_turn_pair_scaled_1 [.i x0, .i x1, .i x2, .i x3, .i x4, .i x5]) = B_turn_pair_scaled_1 F (fun (y0 : Int) (y1 : Int) (y2 : Int) (y3 : Int) (y4 : Int) (y5 : Int) => iterC (codeL PP (S_turn_pair_scaled F) c_turn_pair_scaled (I_turn_pair_scaled F) (J_turn_pair_scaled F) (loopAt PP 83 1) 2) (headOf c_turn_pair_scaled 2) k n (fS T_turn_pair_scaled_1 [.i y0, .i y1, .i y2, .i y3, .i y4, .i y5])) (fun (z0 : Int) (z1 : Int) (z2 : Int) (z3 : Int) (z4 : Int) (z5 : Int) => k (.exit 2) (fS T_turn_pair_scaled_1_0 [.i z0, .i z1, .i z2, .i z3, .i z4, .i z5])) x0 x1 x2 x3 x4 x5 := (h0 ok_turn_size o_turn_size_0 L_turn_pair_scaled_0 L_turn_pair_scaled_1).trans (by kernel_rfl)
    rw [h]
    simp only [lL_turn_pair_scaled_1 F k n]
    rfl
def f_turn_pair_scaled (F : Nat) (a0 : Int) (a1 : Int) : R :=
  L_turn_pair_scaled_0 F (fun (v318 : Int) (v319 : Int) (v320 : Int) (v321 : Int) (v322 : Int) (v323 : Int) =>
    L_turn_pair_scaled_1 F (fun (v336 : Int) (v337 : Int) (v338 : Int) (v339 : Int) (v340 : Int) (v341 : Int) =>
      some (.v (.agg #[.int .i64 v338, .int .i64 v339]))) F v318 v319 v320 v321 v322 v323) F a0 a1 a0 a1 0 0
theorem e_turn_pair_scaled (F : Nat) (a0 : Int) (a1 : Int) : funL PP (S_turn_pair_scaled F) c_turn_pair_scaled (I_turn_pair_scaled F) (J_turn_pair_scaled F) 83 (fTs ti_turn_pair_scaled [.i a0, .i a1]).1 = f_turn_pair_scaled F a0 a1 := by
  have h : ∀ (ok_turn_size : Nat → Int → Bool) (o_turn_size_0 : Nat → Int → Int) (L_turn_pair_scaled_0 : Nat → (Int → Int → Int → Int → Int → Int → R) → Nat → Int → Int → Int → Int → Int → Int → R) (L_turn_pair_scaled_1 : Nat → (Int → Int → Int → Int → Int → Int → R) → Nat → Int → Int → Int → Int → Int → Int → R), funL PP (words [(114, spec ti_turn_size to_turn_size (fun q => (ok_turn_size F (atI (nth q 0)))) (fun q => [.i (o_turn_size_0 F (atI (nth q 0)))]))]) c_turn_pair_scaled (tabI c_turn_pair_scaled [⟨0, T_turn_pair_scaled_0, fun k q => L_turn_pair_scaled_0 F (fun (z0 : Int) (z1 : Int) (z2 : Int) (z3 : Int) (z4 : Int) (z5 : Int) => k (.exit 0) (fS T_turn_pair_scaled_0_0 [.i z0, .i z1, .i z2, .i z3, .i z4, .i z5])) F (atI (nth q 0)) (atI (nth q 1)) (atI (nth q 2)) (atI (nth q 3)) (atI (nth q 4)) (atI (nth q 5))⟩, ⟨2, T_turn_pair_scaled_1, fun k q => L_turn_pair_scaled_1 F (fun (z0 : Int) (z1 : Int) (z2 : Int) (z3 : Int) (z4 : Int) (z5 : Int) => k (.exit 2) (fS T_turn_pair_scaled_1_0 [.i z0, .i z1, .i z2, .i z3, .i z4, .i z5])) F (atI (nth q 0)) (atI (nth q 1)) (atI (nth q 2)) (atI (nth q 3)) (atI (nth q 4)) (atI (nth q 5))⟩]) (tabJ []) 83 (fTs ti_turn_pair_scaled [.i a0, .i a1]).1 = (
  L_turn_pair_scaled_0 F (fun (v318 : Int) (v319 : Int) (v320 : Int) (v321 : Int) (v322 : Int) (v323 : Int) =>
    L_turn_pair_scaled_1 F (fun (v336 : Int) (v337 : Int) (v338 : Int) (v339 : Int) (v340 : Int) (v341 : Int) =>
      some (.v (.agg #[.int .i64 v338, .int .i64 v339]))) F v318 v319 v320 v321 v322 v323) F a0 a1 a0 a1 0 0 : R) := by
    intros
    kernel_rfl
  exact (h ok_turn_size o_turn_size_0 L_turn_pair_scaled_0 L_turn_pair_scaled_1).trans (by kernel_rfl)
def ok_turn_pair_scaled (F : Nat) (a0 : Int) (a1 : Int) : Bool := okT to_turn_pair_scaled (f_turn_pair_scaled F a0 a1)
def o_turn_pair_scaled_0 (F : Nat) (a0 : Int) (a1 : Int) : Int := atI (nth (outT to_turn_pair_scaled (f_turn_pair_scaled F a0 a1)) 0)
def o_turn_pair_scaled_1 (F : Nat) (a0 : Int) (a1 : Int) : Int := atI (nth (outT to_turn_pair_scaled (f_turn_pair_scaled F a0 a1)) 1)
theorem k_turn_pair_scaled (F : Nat) (a0 : Int) (a1 : Int) {z0 : Int} {z1 : Int} (h : f_turn_pair_scaled F a0 a1 = some (.v (.agg #[.int .i64 z0, .int .i64 z1]))) : ok_turn_pair_scaled F a0 a1 = true ∧ o_turn_pair_scaled_0 F a0 a1 = z0 ∧ o_turn_pair_scaled_1 F a0 a1 = z1 := by
  refine ⟨?_, ?_, ?_⟩
  · unfold ok_turn_pair_scaled; rw [h]; kernel_rfl
  · unfold o_turn_pair_scaled_0; rw [h]; kernel_rfl
  · unfold o_turn_pair_scaled_1; rw [h]; kernel_rfl
def s_turn_pair_scaled (F : Nat) : List VV → Option (Bool × VV) := spec ti_turn_pair_scaled to_turn_pair_scaled (fun q => (ok_turn_pair_scaled F (atI (nth q 0)) (atI (nth q 1)))) (fun q => [.i (o_turn_pair_scaled_0 F (atI (nth q 0)) (atI (nth q 1))), .i (o_turn_pair_scaled_1 F (atI (nth q 0)) (atI (nth q 1)))])
theorem hS_turn_pair_scaled (F : Nat) : ∀ f, Good PP f (unS (S_turn_pair_scaled F f)) := words_good fun p hp => by
  simp only [List.mem_cons, List.not_mem_nil, or_false] at hp
  rcases hp with rfl
  · exact g_turn_size F
theorem hl_turn_pair_scaled (F : Nat) : ∀ p ∈ loopsIn PP 83, LoopOK PP (S_turn_pair_scaled F) c_turn_pair_scaled F (I_turn_pair_scaled F) (J_turn_pair_scaled F) p :=
  loops_of [(0, loopAt PP 83 0), (2, loopAt PP 83 1)] (by kernel_rfl) (all_cons
    (loop_ok (W_turn_pair_scaled F) rfl (tab_cons (fun _ k q => Le.ofEq ((lL_turn_pair_scaled_0 F k F (atI (nth q 0)) (atI (nth q 1)) (atI (nth q 2)) (atI (nth q 3)) (atI (nth q 4)) (atI (nth q 5))).symm.trans (congrArg (iterC (codeL PP (S_turn_pair_scaled F) c_turn_pair_scaled (I_turn_pair_scaled F) (J_turn_pair_scaled F) (loopAt PP 83 0) 0) (headOf c_turn_pair_scaled 0) k F) (show fS T_turn_pair_scaled_0 [.i (atI (nth q 0)), .i (atI (nth q 1)), .i (atI (nth q 2)), .i (atI (nth q 3)), .i (atI (nth q 4)), .i (atI (nth q 5))] = fS T_turn_pair_scaled_0 q by kernel_rfl)))) (tab_cons (fun h => absurd h (by decide)) tab_nil))) (all_cons
    (loop_ok (W_turn_pair_scaled F) rfl (tab_cons (fun h => absurd h (by decide)) (tab_cons (fun _ k q => Le.ofEq ((lL_turn_pair_scaled_1 F k F (atI (nth q 0)) (atI (nth q 1)) (atI (nth q 2)) (atI (nth q 3)) (atI (nth q 4)) (atI (nth q 5))).symm.trans (congrArg (iterC (codeL PP (S_turn_pair_scaled F) c_turn_pair_scaled (I_turn_pair_scaled F) (J_turn_pair_scaled F) (loopAt PP 83 1) 2) (headOf c_turn_pair_scaled 2) k F) (show fS T_turn_pair_scaled_1 [.i (atI (nth q 0)), .i (atI (nth q 1)), .i (atI (nth q 2)), .i (atI (nth q 3)), .i (atI (nth q 4)), .i (atI (nth q 5))] = fS T_turn_pair_scaled_1 q by kernel_rfl)))) tab_nil))) all_nil))
theorem hj_turn_pair_scaled (F : Nat) : ∀ p ∈ joinsIn PP c_turn_pair_scaled 83, JoinOK PP (S_turn_pair_scaled F) c_turn_pair_scaled (I_turn_pair_scaled F) (J_turn_pair_scaled F) p :=
  joins_of [] (by kernel_rfl) all_nil
theorem g_turn_pair_scaled (F : Nat) : Good PP 83 (unS (s_turn_pair_scaled F)) :=
  fun_spec (hS_turn_pair_scaled F) (by kernel_rfl) (by kernel_rfl) (C := c_turn_pair_scaled) (F := fun q => (f_turn_pair_scaled F (atI (nth q 0)) (atI (nth q 1)))) (fun _ => F) (fun _ => I_turn_pair_scaled F) (fun _ => J_turn_pair_scaled F) (fun _ => hl_turn_pair_scaled F) (fun _ => hj_turn_pair_scaled F)
    (fun q => (congrArg (funL PP (S_turn_pair_scaled F) c_turn_pair_scaled (I_turn_pair_scaled F) (J_turn_pair_scaled F) 83) (show (fTs ti_turn_pair_scaled q).1 = (fTs ti_turn_pair_scaled [.i (atI (nth q 0)), .i (atI (nth q 1))]).1 by kernel_rfl)).trans (e_turn_pair_scaled F (atI (nth q 0)) (atI (nth q 1))))
    (fun _ h => (okT_fill h).trans (congrArg some (by kernel_rfl)))

end Go.Xv
set_option linter.unusedVariables false
namespace Go.Xv
/- 28 _turn_Angle -/
def c_turn_Angle : Cfg := ⟨[0, 1, 4, 5, 6, 7, 8, 9, 15, 20, 26, 27, 28, 38], [(0, [0, 1, 4, 5, 6, 10, 11, 12, 13, 14, 15, 16, 17, 18, 19, 20, 21, 22, 23, 24, 25, 26, 27, 46])], [], []⟩
def ti_turn_Angle : List TV := [.v (.int .i64), .v (.int .i64)]
def to_turn_Angle : TV := .v (.int .u32)
def S_turn_Angle (F : Nat) : FuncId → List VV → Option (Bool × VV) := words [(82, s_turn_opposite F), (83, s_turn_pair_scaled F), (76, s_turn_angles F), (77, s_turn_pair_turned F)]
def T_turn_Angle_0 : TS := ⟨[(0, .v (.int .i64)), (1, .v (.int .i64)), (4, .v (.int .u32)), (5, .lp 0 (.lit 0)), (6, .v (.int .u32)), (26, .v (.agg [.int .i64, .int .i64, .int .i64, .int .i64, .int .i64, .int .i64, .int .i64, .int .i64, .int .i64, .int .i64, .int .i64, .int .i64, .int .i64, .int .i64, .int .i64, .int .i64, .int .i64, .int .i64, .int .i64, .int .i64, .int .i64, .int .i64, .int .i64, .int .i64, .int .i64, .int .i64, .int .i64, .int .i64, .int .i64, .int .i64])), (27, .v (.int .i64))], [(0, ⟨(.ex [.v (.int .i64), .v (.int .i64)]), true⟩)], 1⟩
def T_turn_Angle_0_0 : TS := ⟨[(0, .v (.int .i64)), (1, .v (.int .i64)), (4, .v (.int .u32)), (5, .lp 0 (.lit 0)), (6, .v (.int .u32)), (26, .v (.agg [.int .i64, .int .i64, .int .i64, .int .i64, .int .i64, .int .i64, .int .i64, .int .i64, .int .i64, .int .i64, .int .i64, .int .i64, .int .i64, .int .i64, .int .i64, .int .i64, .int .i64, .int .i64, .int .i64, .int .i64, .int .i64, .int .i64, .int .i64, .int .i64, .int .i64, .int .i64, .int .i64, .int .i64, .int .i64, .int .i64])), (27, .v (.int .i64))], [(0, ⟨(.ex [.v (.int .i64), .v (.int .i64)]), true⟩)], 1⟩
def B_turn_Angle_0 (F : Nat) (rc : Int → Int → Int → Int → Int → Int → Int → Int → Int → Int → Int → Int → Int → Int → Int → Int → Int → Int → Int → Int → Int → Int → Int → Int → Int → Int → Int → Int → Int → Int → Int → Int → Int → Int → Int → Int → Int → R) (ex0 : Int → Int → Int → Int → Int → Int → Int → Int → Int → Int → Int → Int → Int → Int → Int → Int → Int → Int → Int → Int → Int → Int → Int → Int → Int → Int → Int → Int → Int → Int → Int → Int → Int → Int → Int → Int → Int → R) (x0 : Int) (x1 : Int) (x2 : Int) (x3 : Int) (x4 : Int) (x5 : Int) (x6 : Int) (x7 : Int) (x8 : Int) (x9 : Int) (x10 : Int) (x11 : Int) (x12 : Int) (x13 : Int) (x14 : Int) (x15 : Int) (x16 : Int) (x17 : Int) (x18 : Int) (x19 : Int) (x20 : Int) (x21 : Int) (x22 : Int) (x23 : Int) (x24 : Int) (x25 : Int) (x26 : Int) (x27 : Int) (x28 : Int) (x29 : Int) (x30 : Int) (x31 : Int) (x32 : Int) (x33 : Int) (x34 : Int) (x35 : Int) (x36 : Int) : R :=
  bif ((decide (x34 < 30))) then (
    bif (((decide (0 ≤ x34)) && (decide (x34 < 30))) && ((isI .i64 [.v (.int .i64 x4), .v (.int .i64 x5), .v (.int .i64 x6), .v (.int .i64 x7), .v (.int .i64 x8), .v (.int .i64 x9), .v (.int .i64 x10), .v (.int .i64 x11), .v (.int .i64 x12), .v (.int .i64 x13), .v (.int .i64 x14), .v (.int .i64 x15), .v (.int .i64 x16), .v (.int .i64 x17), .v (.int .i64 x18), .v (.int .i64 x19), .v (.int .i64 x20), .v (.int .i64 x21), .v (.int .i64 x22), .v (.int .i64 x23), .v (.int .i64 x24), .v (.int .i64 x25), .v (.int .i64 x26), .v (.int .i64 x27), .v (.int .i64 x28), .v (.int .i64 x29), .v (.int .i64 x30), .v (.int .i64 x31), .v (.int .i64 x32), .v (.int .i64 x33)][((Int.toNat x34) * 1)]?) && true)) then (
      let v412 : Int := (iv [.v (.int .i64 x4), .v (.int .i64 x5), .v (.int .i64 x6), .v (.int .i64 x7), .v (.int .i64 x8), .v (.int .i64 x9), .v (.int .i64 x10), .v (.int .i64 x11), .v (.int .i64 x12), .v (.int .i64 x13), .v (.int .i64 x14), .v (.int .i64 x15), .v (.int .i64 x16), .v (.int .i64 x17), .v (.int .i64 x18), .v (.int .i64 x19), .v (.int .i64 x20), .v (.int .i64 x21), .v (.int .i64 x22), .v (.int .i64 x23), .v (.int .i64 x24), .v (.int .i64 x25), .v (.int .i64 x26), .v (.int .i64 x27), .v (.int .i64 x28), .v (.int .i64 x29), .v (.int .i64 x30), .v (.int .i64 x31), .v (.int .i64 x32), .v (.int .i64 x33)][((Int.toNat x34) * 1)]?)
      let v413 : Bool := (decide (x36 < 0))
      bif (ok_turn_pair_turned F x35 x36 x34 v413) then (
        let v414 : Int := (o_turn_pair_turned_0 F x35 x36 x34 v413)
        let v415 : Int := (o_turn_pair_turned_1 F x35 x36 x34 v413)
        bif v413 then (
          rc x0 x1 x2 ((IntKind.wrap .u32 (x3 + ((IntKind.wrap .u32 ((IntKind.wrap .i64 (0 - v412)))))))) x4 x5 x6 x7 x8 x9 x10 x11 x12 x13 x14 x15 x16 x17 x18 x19 x20 x21 x22 x23 x24 x25 x26 x27 x28 x29 x30 x31 x32 x33 ((IntKind.wrap .i64 (x34 + 1))) v414 v415)
        else (
          rc x0 x1 x2 ((IntKind.wrap .u32 (x3 + ((IntKind.wrap .u32 v412))))) x4 x5 x6 x7 x8 x9 x10 x11 x12 x13 x14 x15 x16 x17 x18 x19 x20 x21 x22 x23 x24 x25 x26 x27 x28 x29 x30 x31 x32 x33 ((IntKind.wrap .i64 (x34 + 1))) v414 v415))
      else (
        none))
    else (
      none))
  else (
    ex0 x0 x1 x2 x3 x4 x5 x6 x7 x8 x9 x10 x11 x12 x13 x14 x15 x16 x17 x18 x19 x20 x21 x22 x23 x24 x25 x26 x27 x28 x29 x30 x31 x32 x33 x34 x35 x36)
def L_turn_Angle_0 (F : Nat) (ex0 : Int → Int → Int → Int → Int → Int → Int → Int → Int → Int → Int → Int → Int → Int → Int → Int → Int → Int → Int → Int → Int → Int → Int → Int → Int → Int → Int → Int → Int → Int → Int → Int → Int → Int → Int → Int → Int → R) : Nat → Int → Int → Int → Int → Int → Int → Int → Int → Int → Int → Int → Int → Int → Int → Int → Int → Int → Int → Int → Int → Int → Int → Int → Int → Int → Int → Int → Int → Int → Int → Int → Int → Int → Int → Int → Int → Int → R
  | 0, _, _, _, _, _, _, _, _, _, _, _, _, _, _, _, _, _, _, _, _, _, _, _, _, _, _, _, _, _, _, _, _, _, _, _, _, _ => none
  | n + 1, x0, x1, x2, x3, x4, x5, x6, x7, x8, x9, x10, x11, x12, x13, x14, x15, x16, x17, x18, x19, x20, x21, x22, x23, x24, x25, x26, x27, x28, x29, x30, x31, x32, x33, x34, x35, x36 => B_turn_Angle_0 F (L_turn_Angle_0 F ex0 n) ex0 x0 x1 x2 x3 x4 x5 x6 x7 x8 x9 x10 x11 x12 x13 x14 x15 x16 x17 x18 x19 x20 x21 x22 x23 x24 x25 x26 x27 x28 x29 x30 x31 x32 x33 x34 x35 x36
def W_turn_Angle (F : Nat) : List LW := [⟨0, T_turn_Angle_0, fun k q => L_turn_Angle_0 F (fun (z0 : Int) (z1 : Int) (z2 : Int) (z3 : Int) (z4 : Int) (z5 : Int) (z6 : Int) (z7 : Int) (z8 : Int) (z9 : Int) (z10 : Int) (z11 : Int) (z12 : Int) (z13 : Int) (z14 : Int) (z15 : Int) (z16 : Int) (z17 : Int) (z18 : Int) (z19 : Int) (z20 : Int) (z21 : Int) (z22 : Int) (z23 : Int) (z24 : Int) (z25 : Int) (z26 : Int) (z27 : Int) (z28 : Int) (z29 : Int) (z30 : Int) (z31 : Int) (z32 : Int) (z33 : Int) (z34 : Int) (z35 : Int) (z36 : Int) => k (.exit 0) (fS T_turn_Angle_0_0 [.i z0, .i z1, .i z2, .i z3, .i z4, .i z5, .i z6, .i z7, .i z8, .i z9, .i z10, .i z11, .i z12, .i z13, .i z14, .i z15, .i z16, .i z17, .i z18, .i z19, .i z20, .i z21, .i z22, .i z23, .i z24, .i z25, .i z26, .i z27, .i z28, .i z29, .i z30, .i z31, .i z32, .i z33, .i z34, .i z35, .i z36])) F (atI (nth q 0)) (atI (nth q 1)) (atI (nth q 2)) (atI (nth q 3)) (atI (nth q 4)) (atI (nth q 5)) (atI (nth q 6)) (atI (nth q 7)) (atI (nth q 8)) (atI (nth q 9)) (atI (nth q 10)) (atI (nth q 11)) (atI (nth q 12)) (atI (nth q 13)) (atI (nth q 14)) (atI (nth q 15)) (atI (nth q 16)) (atI (nth q 17)) (atI (nth q 18)) (atI (nth q 19)) (atI (nth q 20)) (atI (nth q 21)) (atI (nth q 22)) (atI (nth q 23)) (atI (nth q 24)) (atI (nth q 25)) (atI (nth q 26)) (atI (nth q 27)) (atI (nth q 28)) (atI (nth q 29)) (atI (nth q 30)) (atI (nth q 31)) (atI (nth q 32)) (atI (nth q 33)) (atI (nth q 34)) (atI (nth q 35)) (atI (nth q 36))⟩]
def I_turn_Angle (F : Nat) : Nat → VS → (Exit → VS → R) → R := tabI c_turn_Angle (W_turn_Angle F)
def WJ_turn_Angle (F : Nat) : List LJ := []
def J_turn_Angle (F : Nat) : Nat → Nat → VS → (Exit → VS → R) → R := tabJ (WJ_turn_Angle F)
theorem lL_turn_Angle_0 (F : Nat) (k : Exit → VS → R) : ∀ (n : Nat) (x0 : Int) (x1 : Int) (x2 : Int) (x3 : Int) (x4 : Int) (x5 : Int) (x6 : Int) (x7 : Int) (x8 : Int) (x9 : Int) (x10 : Int) (x11 : Int) (x12 : Int) (x13 : Int) (x14 : Int) (x15 : Int) (x16 : Int) (x17 : Int) (x18 : Int) (x19 : Int) (x20 : Int) (x21 : Int) (x22 : Int) (x23 : Int) (x24 : Int) (x25 : Int) (x26 : Int) (x27 : Int) (x28 : Int) (x29 : Int) (x30 : Int) (x31 : Int) (x32 : Int) (x33 : Int) (x34 : Int) (x35 : Int) (x36 : Int), iterC (codeL PP (S_turn_Angle F) c_turn_Angle (I_turn_Angle F) (J_turn_Angle F) (loopAt PP 28 0) 0) (headOf c_turn_Angle 0) k n (fS T_turn_Angle_0 [.i x0, .i x1, .i x2, .i x3, .i x4, .i x5, .i x6, .i x7, .i x8, .i x9, .i x10, .i x11, .i x12, .i x13, .i x14, .i x15, .i x16, .i x17, .i x18, .i x19, .i x20, .i x21, .i x22, .i x23, .i x24, .i x25, .i x26, .i x27, .i x28, .i x29, .i x30, .i x31, .i x32, .i x33, .i x34, .i x35, .i x36]) = L_turn_Angle_0 F (fun (z0 : Int) (z1 : Int) (z2 : Int) (z3 : Int) (z4 : Int) (z5 : Int) (z6 : Int) (z7 : Int) (z8 : Int) (z9 : Int) (z10 : Int) (z11 : Int) (z12 : Int) (z13 : Int) (z14 : Int) (z15 : Int) (z16 : Int) (z17 : Int) (z18 : Int) (z19 : Int) (z20 : Int) (z21 : Int) (z22 : Int) (z23 : Int) (z24 : Int) (z25 : Int) (z26 : Int) (z27 : Int) (z28 : Int) (z29 : Int) (z30 : Int) (z31 : Int) (z32 : Int) (z33 : Int) (z34 : Int) (z35 : Int) (z36 : Int) => k (.exit 0) (fS T_turn_Angle_0_0 [.i z0, .i z1, .i z2, .i z3, .i z4, .i z5, .i z6, .i z7, .i z8, .i z9, .i z10, .i z11, .i z12, .i z13, .i z14, .i z15, .i z16, .i z17, .i z18, .i z19, .i z20, .i z21, .i z22, .i z23, .i z24, .i z25, .i z26, .i z27, .i z28, .i z29, .i z30, .i z31, .i z32, .i z33, .i z34, .i z35, .i z36])) n x0 x1 x2 x3 x4 x5 x6 x7 x8 x9 x10 x11 x12 x13 x14 x15 x16 x17 x18 x19 x20 x21 x22 x23 x24 x25 x26 x27 x28 x29 x30 x31 x32 x33 x34 x35 x36
  | 0, _, _, _, _, _, _, _, _, _, _, _, _, _, _, _, _, _, _, _, _, _, _, _, _, _, _, _, _, _, _, _, _, _, _, _, _, _ => rfl
  | n + 1, x0, x1, x2, x3, x4, x5, x6, x7, x8, x9, x10, x11, x12, x13, x14, x15, x16, x17, x18, x19, x20, x21, x22, x23, x24, x25, x26, x27, x28, x29, x30, x31, x32, x33, x34, x35, x36 => by
    have h0 : ∀ (ok_turn_opposite : Nat → Int → Int → Bool) (o_turn_opposite_0 : Nat → Int → Int → Int) (o_turn_opposite_1 : Nat → Int → Int → Int) (ok_turn_pair_scaled : Nat → Int → Int → Bool) (o_turn_pair_scaled_0 : Nat → Int → Int → Int) (o_turn_pair_scaled_1 : Nat → Int → Int → Int) (ok_turn_angles : Nat → Bool) (o_turn_angles_0 : Nat → Int) (o_turn_angles_1 : Nat → Int) (o_turn_angles_2 : Nat → Int) (o_turn_angles_3 : Nat → Int) (o_turn_angles_4 : Nat → Int) (o_turn_angles_5 : Nat → Int) (o_turn_angles_6 : Nat → Int) (o_turn_angles_7 : Nat → Int) (o_turn_angles_8 : Nat → Int) (o_turn_angles_9 : Nat → Int) (o_turn_angles_10 : Nat → Int) (o_turn_angles_11 : Nat → Int) (o_turn_angles_12 : Nat → Int) (o_turn_angles_13 : Nat → Int) (o_turn_angles_14 : Nat → Int) (o_turn_angles_15 : Nat → Int) (o_turn_angles_16 : Nat → Int) (o_turn_angles_17 : Nat → Int) (o_turn_angles_18 : Nat → Int) (o_turn_angles_19 : Nat → Int) (o_turn_angles_20 : Nat → Int) (o_turn_angles_21 : Nat → Int) (o_turn_angles_22 : Nat → Int) (o_turn_angles_23 : Nat → Int) (o_turn_angles_24 : Nat → Int) (o_turn_angles_25 : Nat → Int) (o_turn_angles_26 : Nat → Int) (o_turn_angles_27 : Nat → Int) (o_turn_angles_28 : Nat → Int) (o_turn_angles_29 : Nat → Int) (ok_turn_pair_turned : Nat → Int → Int → Int → Bool → Bool) (o_turn_pair_turned_0 : Nat → Int → Int → Int → Bool → Int) (o_turn_pair_turned_1 : Nat → Int → Int → Int → Bool → Int) (L_turn_Angle_0 : Nat → (Int → Int → Int → Int → Int → Int → Int → Int → Int → Int → Int → Int → Int → Int → Int → Int → Int → Int → Int → Int → Int → Int → Int → Int → Int → Int → Int → Int → Int → Int → Int → Int → Int → Int → Int → Int → Int → R) → Nat → Int → Int → Int → Int → Int → Int → Int → Int → Int → Int → Int → Int → Int → Int → Int → Int → Int → Int → Int → Int → Int → Int → Int → Int → Int → Int → Int → Int → Int → Int → Int → Int → Int → Int → Int → Int → Int → R), iterC (codeL PP (words [(82, spec ti_turn_opposite to_turn_opposite (fun q => (ok_turn_opposite F (atI (nth q 0)) (atI (nth q 1)))) (fun q => [.i (o_turn_opposite_0 F (atI (nth q 0)) (atI (nth q 1))), .i (o_turn_opposite_1 F (atI (nth q 0)) (atI (nth q 1)))])), (83, spec ti_turn_pair_scaled to_turn_pair_scaled (fun q => (ok_turn_pair_scaled F (atI (nth q 0)) (atI (nth q 1)))) (fun q => [.i (o_turn_pair_scaled_0 F (atI (nth q 0)) (atI (nth q 1))), .i (o_turn_pair_scaled_1 F (atI (nth q 0)) (atI (nth q 1)))])), (76, spec ti_turn_angles to_turn_angles (fun q => (ok_turn_angles F )) (fun q => [.i (o_turn_angles_0 F ), .i (o_turn_angles_1 F ), .i (o_turn_angles_2 F ), .i (o_turn_angles_3 F ), .i (o_turn_angles_4 F ), .i (o_turn_angles_5 F ), .i (o_turn_angles_6 F ), .i (o_turn_angles_7 F ), .i (o_turn_angles_8 F ), .i (o_turn_angles_9 F ), .i (o_turn_angles_10 F ), .i (o_turn_angles_11 F ), .i (o_turn_angles_12 F ), .i (o_turn_angles_13 F ), .i (o_turn_angles_14 F ), .i (o_turn_angles_15 F ), .i (o_turn_angles_16 F ), .i (o_turn_angles_17 F ), .i (o_turn_angles_18 F ), .i (o_turn_angles_19 F ), .i (o_turn_angles_20 F ), .i (o_turn_angles_21 F ), .i (o_turn_angles_22 F ), .i (o_turn_angles_23 F ), .i (o_turn_angles_24 F ), .i (o_turn_angles_25 F ), .i (o_turn_angles_26 F ), .i (o_turn_angles_27 F ), .i (o_turn_angles_28 F ), .i (o_turn_angles_29 F )])), (77, spec ti_turn_pair_turned to_turn_pair_turned (fun q => (ok_turn_pair_turned F (atI (nth q 0)) (atI (nth q 1)) (atI (nth q 2)) (atB (nth q 3)))) (fun q => [.i (o_turn_pair_turned_0 F (atI (nth q 0)) (atI (nth q 1)) (atI (nth q 2)) (atB (nth q 3))), .i (o_turn_pair_turned_1 F (atI (nth q 0)) (atI (nth q 1)) (atI (nth q 2)) (atB (nth q 3)))]))]) c_turn_Angle (tabI c_turn_Angle [⟨0, T_turn_Angle_0, fun k q => L_turn_Angle_0 F (fun (z0 : Int) (z1 : Int) (z2 : Int) (z3 : Int) (z4 : Int) (z5 : Int) (z6 : Int) (z7 : Int) (z8 : Int) (z9 : Int) (z10 : Int) (z11 : Int) (z12 : Int) (z13 : Int) (z14 : Int) (z15 : Int) (z16 : Int) (z17 : Int) (z18 : Int) (z19 : Int) (z20 : Int) (z21 : Int) (z22 : Int) (z23 : Int) (z24 : Int) (z25 : Int) (z26 : Int) (z27 : Int) (z28 : Int) (z29 : Int) (z30 : Int) (z31 : Int) (z32 : Int) (z33 : Int) (z34 : Int) (z35 : Int) (z36 : Int) => k (.exit 0) (fS T_turn_Angle_0_0 [.i z0, .i z1, .i z2, .i z3, .i z4, .i z5, .i z6, .i z7, .i z8, .i z9, .i z10, .i z11, .i z12, .i z13, .i z14, .i z15, .i z16, .i z17, .i z18, .i z19, .i z20, .i z21, .i z22, .i z23, .i z24, .i z25, .i z26, .i z27, .i z28, .i z29, .i z30, .i z31, .i z32, .i z33, .i z34, .i z35, .i z36])) F (atI (nth q 0)) (atI (nth q 1)) (atI (nth q 2)) (atI (nth q 3)) (atI (nth q 4)) (atI (nth q 5)) (atI (nth q 6)) (atI (nth q 7)) (atI (nth q 8)) (atI (nth q 9)) (atI (nth q 10)) (atI (nth q 11)) (atI (nth q 12)) (atI (nth q 13)) (atI (nth q 14)) (atI (nth q 15)) (atI (nth q 16)) (atI (nth q 17)) (atI (nth q 18)) (atI (nth q 19)) (atI (nth q 20)) (atI (nth q 21)) (atI (nth q 22)) (atI (nth q 23)) (atI (nth q 24)) (atI (nth q 25)) (atI (nth q 26)) (atI (nth q 27)) (atI (nth q 28)) (atI (nth q 29)) (atI (nth q 30)) (atI (nth q 31)) (atI (nth q 32)) (atI (nth q 33)) (atI (nth q 34)) (atI (nth q 35)) (atI (nth q 36))⟩]) (tabJ []) (loopAt PP 28 0) 0) (headOf c_turn_Angle 0) k (n + 1) (fS T_turn_Angle_0 [.i x0, .i x1, .i x2, .i x3, .i x4, .i x5, .i x6, .i x7, .i x8, .i x9, .i x10, .i x11, .i x12, .i x13, .i x14, .i x15, .i x16, .i x17, .i x18, .i x19, .i x20, .i x21, .i x22, .i x23, .i x24, .i x25, .i x26, .i x27, .i x28, .i x29, .i x30, .i x31, .i x32, .i x33, .i x34, .i x35, .i x36]) = (fun (rc : Int → Int → Int → Int → Int → Int → Int → Int → Int → Int → Int → Int → Int → Int → Int → Int → Int → Int → Int → Int → Int → Int → Int → Int → Int → Int → Int → Int → Int → Int → Int → Int → Int → Int → Int → Int → Int → R) (ex0 : Int → Int → Int → Int → Int → Int → Int → Int → Int → Int → Int → Int → Int → Int → Int → Int → Int → Int → Int → Int → Int → Int → Int → Int → Int → Int → Int → Int → Int → Int → Int → Int → Int → Int → Int → Int → Int → R) (x0 : Int) (x1 : Int) (x2 : Int) (x3 : Int) (x4 : Int) (x5 : Int) (x6 : Int) (x7 : Int) (x8 : Int) (x9 : Int) (x10 : Int) (x11 : Int) (x12 : Int) (x13 : Int) (x14 : Int) (x15 : Int) (x16 : Int) (x17 : Int) (x18 : Int) (x19 : Int) (x20 : Int) (x21 : Int) (x22 : Int) (x23 : Int) (x24 : Int) (x25 : Int) (x26 : Int) (x27 : Int) (x28 : Int) (x29 : Int) (x30 : Int) (x31 : Int) (x32 : Int) (x33 : Int) (x34 : Int) (x35 : Int) (x36 : Int) => (
  bif ((decide (x34 < 30))) then (
    bif (((decide (0 ≤ x34)) && (decide (x34 < 30))) && ((isI .i64 [.v (.int .i64 x4), .v (.int .i64 x5), .v (.int .i64 x6), .v (.int .i64 x7), .v (.int .i64 x8), .v (.int .i64 x9), .v (.int .i64 x10), .v (.int .i64 x11), .v (.int .i64 x12), .v (.int .i64 x13), .v (.int .i64 x14), .v (.int .i64 x15), .v (.int .i64 x16), .v (.int .i64 x17), .v (.int .i64 x18), .v (.int .i64 x19), .v (.int .i64 x20), .v (.int .i64 x21), .v (.int .i64 x22), .v (.int .i64 x23), .v (.int .i64 x24), .v (.int .i64 x25), .v (.int .i64 x26), .v (.int .i64 x27), .v (.int .i64 x28), .v (.int .i64 x29), .v (.int .i64 x30), .v (.int .i64 x31), .v (.int .i64 x32), .v (.int .i64 x33)][((Int.toNat x34) * 1)]?) && true)) then (
      let v412 : Int := (iv [.v (.int .i64 x4), .v (.int .i64 x5), .v (.int .i64 x6), .v (.int .i64 x7), .v (.int .i64 x8), .v (.int .i64 x9), .v (.int .i64 x10), .v (.int .i64 x11), .v (.int .i64 x12), .v (.int .i64 x13), .v (.int .i64 x14), .v (.int .i64 x15), .v (.int .i64 x16), .v (.int .i64 x17), .v (.int .i64 x18), .v (.int .i64 x19), .v (.int .i64 x20), .v (.int .i64 x21), .v (.int .i64 x22), .v (.int .i64 x23), .v (.int .i64 x24), .v (.int .i64 x25), .v (.int .i64 x26), .v (.int .i64 x27), .v (.int .i64 x28), .v (.int .i64 x29), .v (.int .i64 x30), .v (.int .i64 x31), .v (.int .i64 x32), .v (.int .i64 x33)][((Int.toNat x34) * 1)]?)
      let v413 : Bool := (decide (x36 < 0))
      bif (ok_turn_pair_turned F x35 x36 x34 v413) then (
        let v414 : Int := (o_turn_pair_turned_0 F x35 x36 x34 v413)
        let v415 : Int := (o_turn_pair_turned_1 F x35 x36 x34 v413)
        bif v413 then (
          rc x0 x1 x2 ((IntKind.wrap .u32 (x3 + ((IntKind.wrap .u32 ((IntKind.wrap .i64 (0 - v412)))))))) x4 x5 x6 x7 x8 x9 x10 x11 x12 x13 x14 x15 x16 x17 x18 x19 x20 x21 x22 x23 x24 x25 x26 x27 x28 x29 x30 x31 x32 x33 ((IntKind.wrap .i64 (x34 + 1))) v414 v415)
        else (
          rc x0 x1 x2 ((IntKind.wrap .u32 (x3 + ((IntKind.wrap .u32 v412))))) x4 x5 x6 x7 x8 x9 x10 x11 x12 x13 x14 x15 x16 x17 x18 x19 x20 x21 x22 x23 x24 x25 x26 x27 x28 x29 x30 x31 x32 x33 ((IntKind.wrap .i64 (x34 + 1))) v414 v415))
      else (
        none))
    else (
      none))
  else (
    ex0 x0 x1 x2 x3 x4 x5 x6 x7 x8 x9 x10 x11 x12 x13 x14 x15 x16 x17 x18 x19 x20 x21 x22 x23 x24 x25 x26 x27 x28 x29 x30 x31 x32 x33 x34 x35 x36) : R)) (fun (y0 : Int) (y1 : Int) (y2 : Int) (y3 : Int) (y4 : Int) (y5 : Int) (y6 : Int) (y7 : Int) (y8 : Int) (y9 : Int) (y10 : Int) (y11 : Int) (y12 : Int) (y13 : Int) (y14 : Int) (y15 : Int) (y16 : Int) (y17 : Int) (y18 : Int) (y19 : Int) (y20 : Int) (y21 : Int) (y22 : Int) (y23 : Int) (y24 : Int) (y25 : Int) (y26 : Int) (y27 : Int) (y28 : Int) (y29 : Int) (y30 : Int) (y31 : Int) (y32 : Int) (y33 : Int) (y34 : Int) (y35 : Int) (y36 : Int) => iterC (codeL PP (words [(82, spec ti_turn_opposite to_turn_opposite (fun q => (ok_turn_opposite F (atI (nth q 0)) (atI (nth q 1)))) (fun q => [.i (o_turn_opposite_0 F (atI (nth q 0)) (atI (nth q 1))), .i (o_turn_opposite_1 F (atI (nth q 0)) (atI (nth q 1)))])), (83, spec ti_turn_pair_scaled to_turn_pair_scaled (fun q => (ok_turn_pair_scaled F (atI (nth q 0)) (atI (nth q 1)))) (fun q => [.i (o_turn_pair_scaled_0 F (atI (nth q 0)) (atI (nth q 1))), .i (o_turn_pair_scaled_1 F (atI (nth q 0)) (atI (nth q 1)))])), (76, spec ti_turn_angles to_turn_angles (fun q => (ok_turn_angles F )) (fun q => [.i (o_turn_angles_0 F ), .i (o_turn_angles_1 F ), .i (o_turn_angles_2 F ), .i (o_turn_angles_3 F ), .i (o_turn_angles_4 F ), .i (o_turn_angles_5 F ), .i (o_turn_angles_6 F ), .i (o_turn_angles_7 F ), .i (o_turn_angles_8 F ), .i (o_turn_angles_9 F ), .i (o_turn_angles_10 F ), .i (o_turn_angles_11 F ), .i (o_turn_angles_12 F ), .i (o_turn_angles_13 F ), .i (o_turn_angles_14 F ), .i (o_turn_angles_15 F ), .i (o_turn_angles_16 F ), .i (o_turn_angles_17 F ), .i (o_turn_angles_18 F ), .i (o_turn_angles_19 F ), .i (o_turn_angles_20 F ), .i (o_turn_angles_21 F ), .i (o_turn_angles_22 F ), .i (o_turn_angles_23 F ), .i (o_turn_angles_24 F ), .i (o_turn_angles_25 F ), .i (o_turn_angles_26 F ), .i (o_turn_angles_27 F ), .i (o_turn_angles_28 F ), .i (o_turn_angles_29 F )])), (77, spec ti_turn_pair_turned to_turn_pair_turned (fun q => (ok_turn_pair_turned F (atI (nth q 0)) (atI (nth q 1)) (atI (nth q 2)) (atB (nth q 3)))) (fun q => [.i (o_turn_pair_turned_0 F (atI (nth q 0)) (atI (nth q 1)) (atI (nth q 2)) (atB (nth q 3))), .i (o_turn_pair_turned_1 F (atI (nth q 0)) (atI (nth q 1)) (atI (nth q 2)) (atB (nth q 3)))]))]) c_turn_Angle (tabI c_turn_Angle [⟨0, T_turn_Angle_0, fun k q => L_turn_Angle_0 F (fun (z0 : Int) (z1 : Int) (z2 : Int) (z3 : Int) (z4 : Int) (z5 : Int) (z6 : Int) (z7 : Int) (z8 : Int) (z9 : Int) (z10 : Int) (z11 : Int) (z12 : Int) (z13 : Int) (z14 : Int) (z15 : Int) (z16 : Int) (z17 : Int) (z18 : Int) (z19 : Int) (z20 : Int) (z21 : Int) (z22 : Int) (z23 : Int) (z24 : Int) (z25 : Int) (z26 : Int) (z27 : Int) (z28 : Int) (z29 : Int) (z30 : Int) (z31 : Int) (z32 : Int) (z33 : Int) (z34 : Int) (z35 : Int) (z36 : Int) => k (.exit 0) (fS T_turn_Angle_0_0 [.i z0, .i z1, .i z2, .i z3, .i z4, .i z5, .i z6, .i z7, .i z8, .i z9, .i z10, .i z11, .i z12, .i z13, .i z14, .i z15, .i z16, .i z17, .i z18, .i z19, .i z20, .i z21, .i z22, .i z23, .i z24, .i z25, .i z26, .i z27, .i z28, .i z29, .i z30, .i z31, .i z32, .i z33, .i z34, .i z35, .i z36])) F (atI (nth q 0)) (atI (nth q 1)) (atI (nth q 2)) (atI (nth q 3)) (atI (nth q 4)) (atI (nth q 5)) (atI (nth q 6)) (atI (nth q 7)) (atI (nth q 8)) (atI (nth q 9)) (atI (nth q 10)) (atI (nth q 11)) (atI (nth q 12)) (atI (nth q 13)) (atI (nth q 14)) (atI (nth q 15)) (atI (nth q 16)) (atI (nth q 17)) (atI (nth q 18)) (atI (nth q 19)) (atI (nth q 20)) (atI (nth q 21)) (atI (nth q 22)) (atI (nth q 23)) (atI (nth q 24)) (atI (nth q 25)) (atI (nth q 26)) (atI (nth q 27)) (atI (nth q 28)) (atI (nth q 29)) (atI (nth q 30)) (atI (nth q 31)) (atI (nth q 32)) (atI (nth q 33)) (atI (nth q 34)) (atI (nth q 35)) (atI (nth q 36))⟩]) (tabJ []) (loopAt PP 28 0) 0) (headOf c_turn_Angle 0) k n (fS T_turn_Angle_0 [.i y0, .i y1, .i y2, .i y3, .i y4, .i y5, .i y6, .i y7, .i y8, .i y9, .i y10, .i y11, .i y12, .i y13, .i y14, .i y15, .i y16, .i y17, .i y18, .i y19, .i y20, .i y21, .i y22, .i y23, .i y24, .i y25, .i y26, .i y27, .i y28, .i y29, .i y30, .i y31, .i y32, .i y33, .i y34, .i y35, .i y36])) (fun (z0 : Int) (z1 : Int) (z2 : Int) (z3 : Int) (z4 : Int) (z5 : Int) (z6 : Int) (z7 : Int) (z8 : Int) (z9 : Int) (z10 : Int) (z11 : Int) (z12 : Int) (z13 : Int) (z14 : Int) (z15 : Int) (z16 : Int) (z17 : Int) (z18 : Int) (z19 : Int) (z20 : Int) (z21 : Int) (z22 : Int) (z23 : Int) (z24 : Int) (z25 : Int) (z26 : Int) (z27 : Int) (z28 : Int) (z29 : Int) (z30 : Int) (z31 : Int) (z32 : Int) (z33 : Int) (z34 : Int) (z35 : Int) (z36 : Int) => k (.exit 0) (fS T_turn_Angle_0_0 [.i z0, .i z1, .i z2, .i z3, .i z4, .i z5, .i z6, .i z7, .i z8, .i z9, .i z10, .i z11, .i z12, .i z13, .i z14, .i z15, .i z16, .i z17, .i z18, .i z19, .i z20, .i z21, .i z22, .i z23, .i z24, .i z25, .i z26, .i z27, .i z28, .i z29, .i z30, .i z31, .i z32, .i z33, .i z34, .i z35, .i z36])) x0 x1 x2 x3 x4 x5 x6 x7 x8 x9 x10 x11 x12 x13 x14 x15 x16 x17 x18 x19 x20 x21 x22 x23 x24 x25 x26 x27 x28 x29 x30 x31 x32 x33 x34 x35 x36 := by
      intros
      kernel_rfl
    have h : iterC (codeL PP (S_turn_Angle F) c_turn_Angle (I_turn_Angle F) (J_turn_Angle F) (loopAt PP 28 0) 0) (headOf c_turn_Angle 0) k (n + 1) (fS T_turn_Angle_0 [.i x0, .i x1, .i x2, .i x3, .i x4, .i x5, .i x6, .i x7, .i x8, .i x9, .i x10, .i x11, .i x12, .i x13, .i x14, .i x15, .i x16, .i x17, .i x18, .i x19, .i x20, .i x21, .i x22, .i x23, .i x24, .i x25, .i x26, .i x27, .i x28, .i x29, .i x30, .i x31, .i x32, .i x33, .i x34, .i x35, .i x36]) = B_turn_Angle_0 F (fun (y0 : Int) (y1 : Int) (y2 : Int) (y3 : Int) (y4 : Int) (y5 : Int) (y6 : Int) (y7 : Int) (y8 : Int) (y9 : Int) (y10 : Int) (y11 : Int) (y12 : Int) (y13 : Int) (y14 : Int) (y15 : Int) (y16 : Int) (y17 : Int) (y18 : Int) (y19 : Int) (y20 : Int) (y21 : Int) (y22 : Int) (y23 : Int) (y24 : Int) (y25 : Int) (y26 : Int) (y27 : Int) (y28 : Int) (y29 : Int) (y30 : Int) (y31 : Int) (y32 : Int) (y33 : Int) (y34 : Int) (y35 : Int) (y36 : Int) => iterC (codeL PP (S_turn_Angle F) c_turn_Angle (I_turn_Angle F) (J_turn_Angle F) (loopAt PP 28 0) 0) (headOf c_turn_Angle 0) k n (fS T_turn_Angle_0 [.i y0, .i y1, .i y2, .i y3, .i y4, .i y5, .i y6, .i y7, .i y8, .i y9, .i y10, .i y11, .i y12, .i y13, .i y14, .i y15, .i y16, .i y17, .i y18, .i y19, .i y20, .i y21, .i y22, .i y23, .i y24, .i y25, .i y26, .i y27, .i y28, .i y29, .i y30, .i y31, .i y32, .i y33, .i y34, .i y35, .i y36])) (fun (z0 : Int) (z1 : Int) (z2 : Int) (z3 : Int) (z4 : Int) (z5 : Int) (z6 : Int) (z7 : Int) (z8 : Int) (z9 : Int) (z10 : Int) (z11 : Int) (z12 : Int) (z13 : Int) (z14 : Int) (z15 : Int) (z16 : Int) (z17 : Int) (z18 : Int) (z19 : Int) (z20 : Int) (z21 : Int) (z22 : Int) (z23 : Int) (z24 : Int) (z25 : Int) (z26 : Int) (z27 : Int) (z28 : Int) (z29 : Int) (z30 : Int) (z31 : Int) (z32 : Int) (z33 : Int) (z34 : Int) (z35 : Int) (z36 : Int) => k (.exit 0) (fS T_turn_Angle_0_0 [.i z0, .i z1, .i z2, .i z3, .i z4, .i z5, .i z6, .i z7, .i z8, .i z9, .i z10, .i z11, .i z12, .i z13, .i z14, .i z15, .i z16, .i z17, .i z18, .i z19, .i z20, .i z21, .i z22, .i z23, .i z24, .i z25, .i z26, .i z27, .i z28, .i z29, .i z30, .i z31, .i z32, .i z33, .i z34, .i z35, .i z36])) x0 x1 x2 x3 x4 x5 x6 x7 x8 x9 x10 x11 x12 x13 x14 x15 x16 x17 x18 x19 x20 x21 x22 x23 x24 x25 x26 x27 x28 x29 x30 x31 x32 x33 x34 x35 x36 := (h0 ok_turn_opposite o_turn_opposite_0 o_turn_opposite_1 ok_turn_pair_scaled o_turn_pair_scaled_0 o_turn_pair_scaled_1 ok_turn_angles o_turn_angles_0 o_turn_angles_1 o_turn_angles_2 o_turn_angles_3 o_turn_angles_4 o_turn_angles_5 o_turn_angles_6 o_turn_angles_7 o_turn_angles_8 o_turn_angles_9 o_turn_angles_10 o_turn_angles_11 o_turn_angles_12 o_turn_angles_13 o_turn_angles_14 o_turn_angles_15 o_turn_angles_16 o_turn_angles_17 o_turn_angles_18 o_turn_angles_19 o_turn_angles_20 o_turn_angles_21 o_turn_angles_22 o_turn_angles_23 o_turn_angles_24 o_turn_angles_25 o_turn_angles_26 o_turn_angles_27 o_turn_angles_28 o_turn_angles_29 ok_turn_pair_turned o_turn_pair_turned_0 o_turn_pair_turned_1 L_turn_Angle_0).trans (by kernel_rfl)
    rw [h]
    simp only [lL_turn_Angle_0 F k n]
    rfl
def f_turn_Angle (F : Nat) (a0 : Int) (a1 : Int) : R :=
  bif ((a1 == 0)) then (
    bif ((a0 == 0)) then (
      some (.v (.int .u32 0)))
    else (
      bif ((decide (a1 < 0))) then (
        bif (ok_turn_opposite F a1 a0) then (
          let v300 : Int := (o_turn_opposite_0 F a1 a0)
          let v301 : Int := (o_turn_opposite_1 F a1 a0)
          bif (ok_turn_pair_scaled F v300 v301) then (
            bif (ok_turn_angles F) then (
              L_turn_Angle_0 F (fun (v423 : Int) (v424 : Int) (v425 : Int) (v426 : Int) (v427 : Int) (v428 : Int) (v429 : Int) (v430 : Int) (v431 : Int) (v432 : Int) (v433 : Int) (v434 : Int) (v435 : Int) (v436 : Int) (v437 : Int) (v438 : Int) (v439 : Int) (v440 : Int) (v441 : Int) (v442 : Int) (v443 : Int) (v444 : Int) (v445 : Int) (v446 : Int) (v447 : Int) (v448 : Int) (v449 : Int) (v450 : Int) (v451 : Int) (v452 : Int) (v453 : Int) (v454 : Int) (v455 : Int) (v456 : Int) (v457 : Int) (v458 : Int) (v459 : Int) =>
                some (.v (.int .u32 v426))) F a0 a1 0 2147483648 ((o_turn_angles_0 F)) ((o_turn_angles_1 F)) ((o_turn_angles_2 F)) ((o_turn_angles_3 F)) ((o_turn_angles_4 F)) ((o_turn_angles_5 F)) ((o_turn_angles_6 F)) ((o_turn_angles_7 F)) ((o_turn_angles_8 F)) ((o_turn_angles_9 F)) ((o_turn_angles_10 F)) ((o_turn_angles_11 F)) ((o_turn_angles_12 F)) ((o_turn_angles_13 F)) ((o_turn_angles_14 F)) ((o_turn_angles_15 F)) ((o_turn_angles_16 F)) ((o_turn_angles_17 F)) ((o_turn_angles_18 F)) ((o_turn_angles_19 F)) ((o_turn_angles_20 F)) ((o_turn_angles_21 F)) ((o_turn_angles_22 F)) ((o_turn_angles_23 F)) ((o_turn_angles_24 F)) ((o_turn_angles_25 F)) ((o_turn_angles_26 F)) ((o_turn_angles_27 F)) ((o_turn_angles_28 F)) ((o_turn_angles_29 F)) 0 ((o_turn_pair_scaled_0 F v300 v301)) ((o_turn_pair_scaled_1 F v300 v301)))
            else (
              none))
          else (
            none))
        else (
          none))
      else (
        bif (ok_turn_pair_scaled F a1 a0) then (
          bif (ok_turn_angles F) then (
            L_turn_Angle_0 F (fun (v492 : Int) (v493 : Int) (v494 : Int) (v495 : Int) (v496 : Int) (v497 : Int) (v498 : Int) (v499 : Int) (v500 : Int) (v501 : Int) (v502 : Int) (v503 : Int) (v504 : Int) (v505 : Int) (v506 : Int) (v507 : Int) (v508 : Int) (v509 : Int) (v510 : Int) (v511 : Int) (v512 : Int) (v513 : Int) (v514 : Int) (v515 : Int) (v516 : Int) (v517 : Int) (v518 : Int) (v519 : Int) (v520 : Int) (v521 : Int) (v522 : Int) (v523 : Int) (v524 : Int) (v525 : Int) (v526 : Int) (v527 : Int) (v528 : Int) =>
              some (.v (.int .u32 v495))) F a0 a1 0 0 ((o_turn_angles_0 F)) ((o_turn_angles_1 F)) ((o_turn_angles_2 F)) ((o_turn_angles_3 F)) ((o_turn_angles_4 F)) ((o_turn_angles_5 F)) ((o_turn_angles_6 F)) ((o_turn_angles_7 F)) ((o_turn_angles_8 F)) ((o_turn_angles_9 F)) ((o_turn_angles_10 F)) ((o_turn_angles_11 F)) ((o_turn_angles_12 F)) ((o_turn_angles_13 F)) ((o_turn_angles_14 F)) ((o_turn_angles_15 F)) ((o_turn_angles_16 F)) ((o_turn_angles_17 F)) ((o_turn_angles_18 F)) ((o_turn_angles_19 F)) ((o_turn_angles_20 F)) ((o_turn_angles_21 F)) ((o_turn_angles_22 F)) ((o_turn_angles_23 F)) ((o_turn_angles_24 F)) ((o_turn_angles_25 F)) ((o_turn_angles_26 F)) ((o_turn_angles_27 F)) ((o_turn_angles_28 F)) ((o_turn_angles_29 F)) 0 ((o_turn_pair_scaled_0 F a1 a0)) ((o_turn_pair_scaled_1 F a1 a0)))
          else (
            none))
        else (
          none))))
  else (
    bif ((decide (a1 < 0))) then (
      bif (ok_turn_opposite F a1 a0) then (
        let v530 : Int := (o_turn_opposite_0 F a1 a0)
        let v531 : Int := (o_turn_opposite_1 F a1 a0)
        bif (ok_turn_pair_scaled F v530 v531) then (
          bif (ok_turn_angles F) then (
            L_turn_Angle_0 F (fun (v564 : Int) (v565 : Int) (v566 : Int) (v567 : Int) (v568 : Int) (v569 : Int) (v570 : Int) (v571 : Int) (v572 : Int) (v573 : Int) (v574 : Int) (v575 : Int) (v576 : Int) (v577 : Int) (v578 : Int) (v579 : Int) (v580 : Int) (v581 : Int) (v582 : Int) (v583 : Int) (v584 : Int) (v585 : Int) (v586 : Int) (v587 : Int) (v588 : Int) (v589 : Int) (v590 : Int) (v591 : Int) (v592 : Int) (v593 : Int) (v594 : Int) (v595 : Int) (v596 : Int) (v597 : Int) (v598 : Int) (v599 : Int) (v600 : Int) =>
              some (.v (.int .u32 v567))) F a0 a1 0 2147483648 ((o_turn_angles_0 F)) ((o_turn_angles_1 F)) ((o_turn_angles_2 F)) ((o_turn_angles_3 F)) ((o_turn_angles_4 F)) ((o_turn_angles_5 F)) ((o_turn_angles_6 F)) ((o_turn_angles_7 F)) ((o_turn_angles_8 F)) ((o_turn_angles_9 F)) ((o_turn_angles_10 F)) ((o_turn_angles_11 F)) ((o_turn_angles_12 F)) ((o_turn_angles_13 F)) ((o_turn_angles_14 F)) ((o_turn_angles_15 F)) ((o_turn_angles_16 F)) ((o_turn_angles_17 F)) ((o_turn_angles_18 F)) ((o_turn_angles_19 F)) ((o_turn_angles_20 F)) ((o_turn_angles_21 F)) ((o_turn_angles_22 F)) ((o_turn_angles_23 F)) ((o_turn_angles_24 F)) ((o_turn_angles_25 F)) ((o_turn_angles_26 F)) ((o_turn_angles_27 F)) ((o_turn_angles_28 F)) ((o_turn_angles_29 F)) 0 ((o_turn_pair_scaled_0 F v530 v531)) ((o_turn_pair_scaled_1 F v530 v531)))
          else (
            none))
        else (
          none))
      else (
        none))
    else (
      bif (ok_turn_pair_scaled F a1 a0) then (
        bif (ok_turn_angles F) then (
          L_turn_Angle_0 F (fun (v633 : Int) (v634 : Int) (v635 : Int) (v636 : Int) (v637 : Int) (v638 : Int) (v639 : Int) (v640 : Int) (v641 : Int) (v642 : Int) (v643 : Int) (v644 : Int) (v645 : Int) (v646 : Int) (v647 : Int) (v648 : Int) (v649 : Int) (v650 : Int) (v651 : Int) (v652 : Int) (v653 : Int) (v654 : Int) (v655 : Int) (v656 : Int) (v657 : Int) (v658 : Int) (v659 : Int) (v660 : Int) (v661 : Int) (v662 : Int) (v663 : Int) (v664 : Int) (v665 : Int) (v666 : Int) (v667 : Int) (v668 : Int) (v669 : Int) =>
            some (.v (.int .u32 v636))) F a0 a1 0 0 ((o_turn_angles_0 F)) ((o_turn_angles_1 F)) ((o_turn_angles_2 F)) ((o_turn_angles_3 F)) ((o_turn_angles_4 F)) ((o_turn_angles_5 F)) ((o_turn_angles_6 F)) ((o_turn_angles_7 F)) ((o_turn_angles_8 F)) ((o_turn_angles_9 F)) ((o_turn_angles_10 F)) ((o_turn_angles_11 F)) ((o_turn_angles_12 F)) ((o_turn_angles_13 F)) ((o_turn_angles_14 F)) ((o_turn_angles_15 F)) ((o_turn_angles_16 F)) ((o_turn_angles_17 F)) ((o_turn_angles_18 F)) ((o_turn_angles_19 F)) ((o_turn_angles_20 F)) ((o_turn_angles_21 F)) ((o_turn_angles_22 F)) ((o_turn_angles_23 F)) ((o_turn_angles_24 F)) ((o_turn_angles_25 F)) ((o_turn_angles_26 F)) ((o_turn_angles_27 F)) ((o_turn_angles_28 F)) ((o_turn_angles_29 F)) 0 ((o_turn_pair_scaled_0 F a1 a0)) ((o_turn_pair_scaled_1 F a1 a0)))
        else (
          none))
      else (
        none)))
theorem e_turn_Angle (F : Nat) (a0 : Int) (a1 : Int) : funL PP (S_turn_Angle F) c_turn_Angle (I_turn_Angle F) (J_turn_Angle F) 28 (fTs ti_turn_Angle [.i a0, .i a1]).1 = f_turn_Angle F a0 a1 := by
  have h : ∀ (ok_turn_opposite : Nat → Int → Int → Bool) (o_turn_opposite_0 : Nat → Int → Int → Int) (o_turn_opposite_1 : Nat → Int → Int → Int) (ok_turn_pair_scaled : Nat → Int → Int → Bool) (o_turn_pair_scaled_0 : Nat → Int → Int → Int) (o_turn_pair_scaled_1 : Nat → Int → Int → Int) (ok_turn_angles : Nat → Bool) (o_turn_angles_0 : Nat → Int) (o_turn_angles_1 : Nat → Int) (o_turn_angles_2 : Nat → Int) (o_turn_angles_3 : Nat → Int) (o_turn_angles_4 : Nat → Int) (o_turn_angles_5 : Nat → Int) (o_turn_angles_6 : Nat → Int) (o_turn_angles_7 : Nat → Int) (o_turn_angles_8 : Nat → Int) (o_turn_angles_9 : Nat → Int) (o_turn_angles_10 : Nat → Int) (o_turn_angles_11 : Nat → Int) (o_turn_angles_12 : Nat → Int) (o_turn_angles_13 : Nat → Int) (o_turn_angles_14 : Nat → Int) (o_turn_angles_15 : Nat → Int) (o_turn_angles_16 : Nat → Int) (o_turn_angles_17 : Nat → Int) (o_turn_angles_18 : Nat → Int) (o_turn_angles_19 : Nat → Int) (o_turn_angles_20 : Nat → Int) (o_turn_angles_21 : Nat → Int) (o_turn_angles_22 : Nat → Int) (o_turn_angles_23 : Nat → Int) (o_turn_angles_24 : Nat → Int) (o_turn_angles_25 : Nat → Int) (o_turn_angles_26 : Nat → Int) (o_turn_angles_27 : Nat → Int) (o_turn_angles_28 : Nat → Int) (o_turn_angles_29 : Nat → Int) (ok_turn_pair_turned : Nat → Int → Int → Int → Bool → Bool) (o_turn_pair_turned_0 : Nat → Int → Int → Int → Bool → Int) (o_turn_pair_turned_1 : Nat → Int → Int → Int → Bool → Int) (L_turn_Angle_0 : Nat → (Int → Int → Int → Int → Int → Int → Int → Int → Int → Int → Int → Int → Int → Int → Int → Int → Int → Int → Int → Int → Int → Int → Int → Int → Int → Int → Int → Int → Int → Int → Int → Int → Int → Int → Int → Int → Int → R) → Nat → Int → Int → Int → Int → Int → Int → Int → Int → Int → Int → Int → Int → Int → Int → Int → Int → Int → Int → Int → Int → Int → Int → Int → Int → Int → Int → Int → Int → Int → Int → Int → Int → Int → Int → Int → Int → Int → R), funL PP (words [(82, spec ti_turn_opposite to_turn_opposite (fun q => (ok_turn_opposite F (atI (nth q 0)) (atI (nth q 1)))) (fun q => [.i (o_turn_opposite_0 F (atI (nth q 0)) (atI (nth q 1))), .i (o_turn_opposite_1 F (atI (nth q 0)) (atI (nth q 1)))])), (83, spec ti_turn_pair_scaled to_turn_pair_scaled (fun q => (ok_turn_pair_scaled F (atI (nth q 0)) (atI (nth q 1)))) (fun q => [.i (o_turn_pair_scaled_0 F (atI (nth q 0)) (atI (nth q 1))), .i (o_turn_pair_scaled_1 F (atI (nth q 0)) (atI (nth q 1)))])), (76, spec ti_turn_angles to_turn_angles (fun q => (ok_turn_angles F )) (fun q => [.i (o_turn_angles_0 F ), .i (o_turn_angles_1 F ), .i (o_turn_angles_2 F ), .i (o_turn_angles_3 F ), .i (o_turn_angles_4 F ), .i (o_turn_angles_5 F ), .i (o_turn_angles_6 F ), .i (o_turn_angles_7 F ), .i (o_turn_angles_8 F ), .i (o_turn_angles_9 F ), .i (o_turn_angles_10 F ), .i (o_turn_angles_11 F ), .i (o_turn_angles_12 F ), .i (o_turn_angles_13 F ), .i (o_turn_angles_14 F ), .i (o_turn_angles_15 F ), .i (o_turn_angles_16 F ), .i (o_turn_angles_17 F ), .i (o_turn_angles_18 F ), .i (o_turn_angles_19 F ), .i (o_turn_angles_20 F ), .i (o_turn_angles_21 F ), .i (o_turn_angles_22 F ), .i (o_turn_angles_23 F ), .i (o_turn_angles_24 F ), .i (o_turn_angles_25 F ), .i (o_turn_angles_26 F ), .i (o_turn_angles_27 F ), .i (o_turn_angles_28 F ), .i (o_turn_angles_29 F )])), (77, spec ti_turn_pair_turned to_turn_pair_turned (fun q => (ok_turn_pair_turned F (atI (nth q 0)) (atI (nth q 1)) (atI (nth q 2)) (atB (nth q 3)))) (fun q => [.i (o_turn_pair_turned_0 F (atI (nth q 0)) (atI (nth q 1)) (atI (nth q 2)) (atB (nth q 3))), .i (o_turn_pair_turned_1 F (atI (nth q 0)) (atI (nth q 1)) (atI (nth q 2)) (atB (nth q 3)))]))]) c_turn_Angle (tabI c_turn_Angle [⟨0, T_turn_Angle_0, fun k q => L_turn_Angle_0 F (fun (z0 : Int) (z1 : Int) (z2 : Int) (z3 : Int) (z4 : Int) (z5 : Int) (z6 : Int) (z7 : Int) (z8 : Int) (z9 : Int) (z10 : Int) (z11 : Int) (z12 : Int) (z13 : Int) (z14 : Int) (z15 : Int) (z16 : Int) (z17 : Int) (z18 : Int) (z19 : Int) (z20 : Int) (z21 : Int) (z22 : Int) (z23 : Int) (z24 : Int) (z25 : Int) (z26 : Int) (z27 : Int) (z28 : Int) (z29 : Int) (z30 : Int) (z31 : Int) (z32 : Int) (z33 : Int) (z34 : Int) (z35 : Int) (z36 : Int) => k (.exit 0) (fS T_turn_Angle_0_0 [.i z0, .i z1, .i z2, .i z3, .i z4, .i z5, .i z6, .i z7, .i z8, .i z9, .i z10, .i z11, .i z12, .i z13, .i z14, .i z15, .i z16, .i z17, .i z18, .i z19, .i z20, .i z21, .i z22, .i z23, .i z24, .i z25, .i z26, .i z27, .i z28, .i z29, .i z30, .i z31, .i z32, .i z33, .i z34, .i z35, .i z36])) F (atI (nth q 0)) (atI (nth q 1)) (atI (nth q 2)) (atI (nth q 3)) (atI (nth q 4)) (atI (nth q 5)) (atI (nth q 6)) (atI (nth q 7)) (atI (nth q 8)) (atI (nth q 9)) (atI (nth q 10)) (atI (nth q 11)) (atI (nth q 12)) (atI (nth q 13)) (atI (nth q 14)) (atI (nth q 15)) (atI (nth q 16)) (atI (nth q 17)) (atI (nth q 18)) (atI (nth q 19)) (atI (nth q 20)) (atI (nth q 21)) (atI (nth q 22)) (atI (nth q 23)) (atI (nth q 24)) (atI (nth q 25)) (atI (nth q 26)) (atI (nth q 27)) (atI (nth q 28)) (atI (nth q 29)) (atI (nth q 30)) (atI (nth q 31)) (atI (nth q 32)) (atI (nth q 33)) (atI (nth q 34)) (atI (nth q 35)) (atI (nth q 36))⟩]) (tabJ []) 28 (fTs ti_turn_Angle [.i a0, .i a1]).1 = (
  bif ((a1 == 0)) then (
    bif ((a0 == 0)) then (
      some (.v (.int .u32 0)))
    else (
      bif ((decide (a1 < 0))) then (
        bif (ok_turn_opposite F a1 a0) then (
          let v300 : Int := (o_turn_opposite_0 F a1 a0)
          let v301 : Int := (o_turn_opposite_1 F a1 a0)
          bif (ok_turn_pair_scaled F v300 v301) then (
            bif (ok_turn_angles F) then (
              L_turn_Angle_0 F (fun (v423 : Int) (v424 : Int) (v425 : Int) (v426 : Int) (v427 : Int) (v428 : Int) (v429 : Int) (v430 : Int) (v431 : Int) (v432 : Int) (v433 : Int) (v434 : Int) (v435 : Int) (v436 : Int) (v437 : Int) (v438 : Int) (v439 : Int) (v440 : Int) (v441 : Int) (v442 : Int) (v443 : Int) (v444 : Int) (v445 : Int) (v446 : Int) (v447 : Int) (v448 : Int) (v449 : Int) (v450 : Int) (v451 : Int) (v452 : Int) (v453 : Int) (v454 : Int) (v455 : Int) (v456 : Int) (v457 : Int) (v458 : Int) (v459 : Int) =>
                some (.v (.int .u32 v426))) F a0 a1 0 2147483648 ((o_turn_angles_0 F)) ((o_turn_angles_1 F)) ((o_turn_angles_2 F)) ((o_turn_angles_3 F)) ((o_turn_angles_4 F)) ((o_turn_angles_5 F)) ((o_turn_angles_6 F)) ((o_turn_angles_7 F)) ((o_turn_angles_8 F)) ((o_turn_angles_9 F)) ((o_turn_angles_10 F)) ((o_turn_angles_11 F)) ((o_turn_angles_12 F)) ((o_turn_angles_13 F)) ((o_turn_angles_14 F)) ((o_turn_angles_15 F)) ((o_turn_angles_16 F)) ((o_turn_angles_17 F)) ((o_turn_angles_18 F)) ((o_turn_angles_19 F)) ((o_turn_angles_20 F)) ((o_turn_angles_21 F)) ((o_turn_angles_22 F)) ((o_turn_angles_23 F)) ((o_turn_angles_24 F)) ((o_turn_angles_25 F)) ((o_turn_angles_26 F)) ((o_turn_angles_27 F)) ((o_turn_angles_28 F)) ((o_turn_angles_29 F)) 0 ((o_turn_pair_scaled_0 F v300 v301)) ((o_turn_pair_scaled_1 F v300 v301)))
            else (
              none))
          else (
            none))
        else (
          none))
      else (
        bif (ok_turn_pair_scaled F a1 a0) then (
          bif (ok_turn_angles F) then (
            L_turn_Angle_0 F (fun (v492 : Int) (v493 : Int) (v494 : Int) (v495 : Int) (v496 : Int) (v497 : Int) (v498 : Int) (v499 : Int) (v500 : Int) (v501 : Int) (v502 : Int) (v503 : Int) (v504 : Int) (v505 : Int) (v506 : Int) (v507 : Int) (v508 : Int) (v509 : Int) (v510 : Int) (v511 : Int) (v512 : Int) (v513 : Int) (v514 : Int) (v515 : Int) (v516 : Int) (v517 : Int) (v518 : Int) (v519 : Int) (v520 : Int) (v521 : Int) (v522 : Int) (v523 : Int) (v524 : Int) (v525 : Int) (v526 : Int) (v527 : Int) (v528 : Int) =>
              some (.v (.int .u32 v495))) F a0 a1 0 0 ((o_turn_angles_0 F)) ((o_turn_angles_1 F)) ((o_turn_angles_2 F)) ((o_turn_angles_3 F)) ((o_turn_angles_4 F)) ((o_turn_angles_5 F)) ((o_turn_angles_6 F)) ((o_turn_angles_7 F)) ((o_turn_angles_8 F)) ((o_turn_angles_9 F)) ((o_turn_angles_10 F)) ((o_turn_angles_11 F)) ((o_turn_angles_12 F)) ((o_turn_angles_13 F)) ((o_turn_angles_14 F)) ((o_turn_angles_15 F)) ((o_turn_angles_16 F)) ((o_turn_angles_17 F)) ((o_turn_angles_18 F)) ((o_turn_angles_19 F)) ((o_turn_angles_20 F)) ((o_turn_angles_21 F)) ((o_turn_angles_22 F)) ((o_turn_angles_23 F)) ((o_turn_angles_24 F)) ((o_turn_angles_25 F)) ((o_turn_angles_26 F)) ((o_turn_angles_27 F)) ((o_turn_angles_28 F)) ((o_turn_angles_29 F)) 0 ((o_turn_pair_scaled_0 F a1 a0)) ((o_turn_pair_scaled_1 F a1 a0)))
          else (
            none))
        else (
          none))))
  else (
    bif ((decide (a1 < 0))) then (
      bif (ok_turn_opposite F a1 a0) then (
        let v530 : Int := (o_turn_opposite_0 F a1 a0)
        let v531 : Int := (o_turn_opposite_1 F a1 a0)
        bif (ok_turn_pair_scaled F v530 v531) then (
          bif (ok_turn_angles F) then (
            L_turn_Angle_0 F (fun (v564 : Int) (v565 : Int) (v566 : Int) (v567 : Int) (v568 : Int) (v569 : Int) (v570 : Int) (v571 : Int) (v572 : Int) (v573 : Int) (v574 : Int) (v575 : Int) (v576 : Int) (v577 : Int) (v578 : Int) (v579 : Int) (v580 : Int) (v581 : Int) (v582 : Int) (v583 : Int) (v584 : Int) (v585 : Int) (v586 : Int) (v587 : Int) (v588 : Int) (v589 : Int) (v590 : Int) (v591 : Int) (v592 : Int) (v593 : Int) (v594 : Int) (v595 : Int) (v596 : Int) (v597 : Int) (v598 : Int) (v599 : Int) (v600 : Int) =>
              some (.v (.int .u32 v567))) F a0 a1 0 2147483648 ((o_turn_angles_0 F)) ((o_turn_angles_1 F)) ((o_turn_angles_2 F)) ((o_turn_angles_3 F)) ((o_turn_angles_4 F)) ((o_turn_angles_5 F)) ((o_turn_angles_6 F)) ((o_turn_angles_7 F)) ((o_turn_angles_8 F)) ((o_turn_angles_9 F)) ((o_turn_angles_10 F)) ((o_turn_angles_11 F)) ((o_turn_angles_12 F)) ((o_turn_angles_13 F)) ((o_turn_angles_14 F)) ((o_turn_angles_15 F)) ((o_turn_angles_16 F)) ((o_turn_angles_17 F)) ((o_turn_angles_18 F)) ((o_turn_angles_19 F)) ((o_turn_angles_20 F)) ((o_turn_angles_21 F)) ((o_turn_angles_22 F)) ((o_turn_angles_23 F)) ((o_turn_angles_24 F)) ((o_turn_angles_25 F)) ((o_turn_angles_26 F)) ((o_turn_angles_27 F)) ((o_turn_angles_28 F)) ((o_turn_angles_29 F)) 0 ((o_turn_pair_scaled_0 F v530 v531)) ((o_turn_pair_scaled_1 F v530 v531)))
          else (
            none))
        else (
          none))
      else (
        none))
    else (
      bif (ok_turn_pair_scaled F a1 a0) then (
        bif (ok_turn_angles F) then (
          L_turn_Angle_0 F (fun (v633 : Int) (v634 : Int) (v635 : Int) (v636 : Int) (v637 : Int) (v638 : Int) (v639 : Int) (v640 : Int) (v641 : Int) (v642 : Int) (v643 : Int) (v644 : Int) (v645 : Int) (v646 : Int) (v647 : Int) (v648 : Int) (v649 : Int) (v650 : Int) (v651 : Int) (v652 : Int) (v653 : Int) (v654 : Int) (v655 : Int) (v656 : Int) (v657 : Int) (v658 : Int) (v659 : Int) (v660 : Int) (v661 : Int) (v662 : Int) (v663 : Int) (v664 : Int) (v665 : Int) (v666 : Int) (v667 : Int) (v668 : Int) (v669 : Int) =>
            some (.v (.int .u32 v636))) F a0 a1 0 0 ((o_turn_angles_0 F)) ((o_turn_angles_1 F)) ((o_turn_angles_2 F)) ((o_turn_angles_3 F)) ((o_turn_angles_4 F)) ((o_turn_angles_5 F)) ((o_turn_angles_6 F)) ((o_turn_angles_7 F)) ((o_turn_angles_8 F)) ((o_turn_angles_9 F)) ((o_turn_angles_10 F)) ((o_turn_angles_11 F)) ((o_turn_angles_12 F)) ((o_turn_angles_13 F)) ((o_turn_angles_14 F)) ((o_turn_angles_15 F)) ((o_turn_angles_16 F)) ((o_turn_angles_17 F)) ((o_turn_angles_18 F)) ((o_turn_angles_19 F)) ((o_turn_angles_20 F)) ((o_turn_angles_21 F)) ((o_turn_angles_22 F)) ((o_turn_angles_23 F)) ((o_turn_angles_24 F)) ((o_turn_angles_25 F)) ((o_turn_angles_26 F)) ((o_turn_angles_27 F)) ((o_turn_angles_28 F)) ((o_turn_angles_29 F)) 0 ((o_turn_pair_scaled_0 F a1 a0)) ((o_turn_pair_scaled_1 F a1 a0)))
        else (
          none))
      else (
        none))) : R) := by
    intros
    kernel_rfl
  exact (h ok_turn_opposite o_turn_opposite_0 o_turn_opposite_1 ok_turn_pair_scaled o_turn_pair_scaled_0 o_turn_pair_scaled_1 ok_turn_angles o_turn_angles_0 o_turn_angles_1 o_turn_angles_2 o_turn_angles_3 o_turn_angles_4 o_turn_angles_5 o_turn_angles_6 o_turn_angles_7 o_turn_angles_8 o_turn_angles_9 o_turn_angles_10 o_turn_angles_11 o_turn_angles_12 o_turn_angles_13 o_turn_angles_14 o_turn_angles_15 o_turn_angles_16 o_turn_angles_17 o_turn_angles_18 o_turn_angles_19 o_turn_angles_20 o_turn_angles_21 o_turn_angles_22 o_turn_angles_23 o_turn_angles_24 o_turn_angles_25 o_turn_angles_26 o_turn_angles_27 o_turn_angles_28 o_turn_angles_29 ok_turn_pair_turned o_turn_pair_turned_0 o_turn_pair_turned_1 L_turn_Angle_0).trans (by kernel_rfl)
def ok_turn_Angle (F : Nat) (a0 : Int) (a1 : Int) : Bool := okT to_turn_Angle (f_turn_Angle F a0 a1)
def o_turn_Angle_0 (F : Nat) (a0 : Int) (a1 : Int) : Int := atI (nth (outT to_turn_Angle (f_turn_Angle F a0 a1)) 0)
theorem k_turn_Angle (F : Nat) (a0 : Int) (a1 : Int) {z0 : Int} (h : f_turn_Angle F a0 a1 = some (.v (.int .u32 z0))) : ok_turn_Angle F a0 a1 = true ∧ o_turn_Angle_0 F a0 a1 = z0 := by
  refine ⟨?_, ?_⟩
  · unfold ok_turn_Angle; rw [h]; kernel_rfl
  · unfold o_turn_Angle_0; rw [h]; kernel_rfl
def s_turn_Angle (F : Nat) : List VV → Option (Bool × VV) := spec ti_turn_Angle to_turn_Angle (fun q => (ok_turn_Angle F (atI (nth q 0)) (atI (nth q 1)))) (fun q => [.i (o_turn_Angle_0 F (atI (nth q 0)) (atI (nth q 1)))])
theorem hS_turn_Angle (F : Nat) : ∀ f, Good PP f (unS (S_turn_Angle F f)) := words_good fun p hp => by
  simp only [List.mem_cons, List.not_mem_nil, or_false] at hp
  rcases hp with rfl | rfl | rfl | rfl
  · exact g_turn_opposite F
  · exact g_turn_pair_scaled F
  · exact g_turn_angles F
  · exact g_turn_pair_turned F
theorem hl_turn_Angle (F : Nat) : ∀ p ∈ loopsIn PP 28, LoopOK PP (S_turn_Angle F) c_turn_Angle F (I_turn_Angle F) (J_turn_Angle F) p :=
  loops_of [(0, loopAt PP 28 0)] (by kernel_rfl) (all_cons
    (loop_ok (W_turn_Angle F) rfl (tab_cons (fun _ k q => Le.ofEq ((lL_turn_Angle_0 F k F (atI (nth q 0)) (atI (nth q 1)) (atI (nth q 2)) (atI (nth q 3)) (atI (nth q 4)) (atI (nth q 5)) (atI (nth q 6)) (atI (nth q 7)) (atI (nth q 8)) (atI (nth q 9)) (atI (nth q 10)) (atI (nth q 11)) (atI (nth q 12)) (atI (nth q 13)) (atI (nth q 14)) (atI (nth q 15)) (atI (nth q 16)) (atI (nth q 17)) (atI (nth q 18)) (atI (nth q 19)) (atI (nth q 20)) (atI (nth q 21)) (atI (nth q 22)) (atI (nth q 23)) (atI (nth q 24)) (atI (nth q 25)) (atI (nth q 26)) (atI (nth q 27)) (atI (nth q 28)) (atI (nth q 29)) (atI (nth q 30)) (atI (nth q 31)) (atI (nth q 32)) (atI (nth q 33)) (atI (nth q 34)) (atI (nth q 35)) (atI (nth q 36))).symm.trans (congrArg (iterC (codeL PP (S_turn_Angle F) c_turn_Angle (I_turn_Angle F) (J_turn_Angle F) (loopAt PP 28 0) 0) (headOf c_turn_Angle 0) k F) (show fS T_turn_Angle_0 [.i (atI (nth q 0)), .i (atI (nth q 1)), .i (atI (nth q 2)), .i (atI (nth q 3)), .i (atI (nth q 4)), .i (atI (nth q 5)), .i (atI (nth q 6)), .i (atI (nth q 7)), .i (atI (nth q 8)), .i (atI (nth q 9)), .i (atI (nth q 10)), .i (atI (nth q 11)), .i (atI (nth q 12)), .i (atI (nth q 13)), .i (atI (nth q 14)), .i (atI (nth q 15)), .i (atI (nth q 16)), .i (atI (nth q 17)), .i (atI (nth q 18)), .i (atI (nth q 19)), .i (atI (nth q 20)), .i (atI (nth q 21)), .i (atI (nth q 22)), .i (atI (nth q 23)), .i (atI (nth q 24)), .i (atI (nth q 25)), .i (atI (nth q 26)), .i (atI (nth q 27)), .i (atI (nth q 28)), .i (atI (nth q 29)), .i (atI (nth q 30)), .i (atI (nth q 31)), .i (atI (nth q 32)), .i (atI (nth q 33)), .i (atI (nth q 34)), .i (atI (nth q 35)), .i (atI (nth q 36))] = fS T_turn_Angle_0 q by kernel_rfl)))) tab_nil)) all_nil)
theorem hj_turn_Angle (F : Nat) : ∀ p ∈ joinsIn PP c_turn_Angle 28, JoinOK PP (S_turn_Angle F) c_turn_Angle (I_turn_Angle F) (J_turn_Angle F) p :=
  joins_of [] (by kernel_rfl) all_nil
theorem g_turn_Angle (F : Nat) : Good PP 28 (unS (s_turn_Angle F)) :=
  fun_spec (hS_turn_Angle F) (by kernel_rfl) (by kernel_rfl) (C := c_turn_Angle) (F := fun q => (f_turn_Angle F (atI (nth q 0)) (atI (nth q 1)))) (fun _ => F) (fun _ => I_turn_Angle F) (fun _ => J_turn_Angle F) (fun _ => hl_turn_Angle F) (fun _ => hj_turn_Angle F)
    (fun q => (congrArg (funL PP (S_turn_Angle F) c_turn_Angle (I_turn_Angle F) (J_turn_Angle F) 28) (show (fTs ti_turn_Angle q).1 = (fTs ti_turn_Angle [.i (atI (nth q 0)), .i (atI (nth q 1))]).1 by kernel_rfl)).trans (e_turn_Angle F (atI (nth q 0)) (atI (nth q 1))))
    (fun _ h => (okT_fill h).trans (congrArg some (by kernel_rfl)))

end Go.Xv
set_option linter.unusedVariables false
namespace Go.Xv
/- 57 _mat_Same -/
def c_mat_Same : Cfg := ⟨[0, 1, 2, 3, 4], [(0, [0, 1, 3, 11])], [], []⟩
def ti_mat_Same : List TV := []
def to_mat_Same : TV := .v (.agg [.int .i64, .int .i64, .int .i64, .int .i64, .int .i64, .int .i64, .int .i64, .int .i64, .int .i64])
def S_mat_Same (F : Nat) : FuncId → List VV → Option (Bool × VV) := words []
def T_mat_Same_0 : TS := ⟨[(0, .lp 0 (.lit 0)), (1, .lp 1 (.lit 0)), (3, .v (.int .i64))], [(0, ⟨(.ex [.v (.int .i64), .v (.int .i64), .v (.int .i64), .v (.int .i64), .v (.int .i64), .v (.int .i64), .v (.int .i64), .v (.int .i64), .v (.int .i64)]), true⟩), (1, ⟨.hole, true⟩)], 2⟩
def T_mat_Same_0_0 : TS := ⟨[(0, .lp 0 (.lit 0)), (1, .lp 1 (.lit 0)), (3, .v (.int .i64))], [(0, ⟨(.ex [.v (.int .i64), .v (.int .i64), .v (.int .i64), .v (.int .i64), .v (.int .i64), .v (.int .i64), .v (.int .i64), .v (.int .i64), .v (.int .i64)]), true⟩), (1, ⟨.hole, true⟩)], 2⟩
def B_mat_Same_0 (F : Nat) (rc : Int → Int → Int → Int → Int → Int → Int → Int → Int → Int → List VV → R) (ex0 : Int → Int → Int → Int → Int → Int → Int → Int → Int → Int → List VV → R) (x0 : Int) (x1 : Int) (x2 : Int) (x3 : Int) (x4 : Int) (x5 : Int) (x6 : Int) (x7 : Int) (x8 : Int) (x9 : Int) (x10 : List VV) : R :=
  bif ((decide (x0 < 3))) then (
    bif ((decide (0 ≤ x0)) && (decide (x0 < 3))) then (
      bif ((decide (0 ≤ x0)) && (decide (x0 < 3))) then (
        let v2437 : Nat := (((0 + ((Int.toNat x0) * 3))) + ((Int.toNat x0) * 1))
        bif (decide ((v2437 + 1) ≤ x10.length)) then (
          rc ((IntKind.wrap .i64 (x0 + 1))) x1 x2 x3 x4 x5 x6 x7 x8 x9 ((x10.take v2437 ++ [.v (.int .i64 4294967296)] ++ x10.drop (v2437 + 1))))
        else (
          none))
      else (
        none))
    else (
      none))
  else (
    ex0 x0 x1 x2 x3 x4 x5 x6 x7 x8 x9 x10)
def L_mat_Same_0 (F : Nat) (ex0 : Int → Int → Int → Int → Int → Int → Int → Int → Int → Int → List VV → R) : Nat → Int → Int → Int → Int → Int → Int → Int → Int → Int → Int → List VV → R
  | 0, _, _, _, _, _, _, _, _, _, _, _ => none
  | n + 1, x0, x1, x2, x3, x4, x5, x6, x7, x8, x9, x10 => B_mat_Same_0 F (L_mat_Same_0 F ex0 n) ex0 x0 x1 x2 x3 x4 x5 x6 x7 x8 x9 x10
def W_mat_Same (F : Nat) : List LW := [⟨0, T_mat_Same_0, fun k q => L_mat_Same_0 F (fun (z0 : Int) (z1 : Int) (z2 : Int) (z3 : Int) (z4 : Int) (z5 : Int) (z6 : Int) (z7 : Int) (z8 : Int) (z9 : Int) (z10 : List VV) => k (.exit 0) (fS T_mat_Same_0_0 [.i z0, .i z1, .i z2, .i z3, .i z4, .i z5, .i z6, .i z7, .i z8, .i z9, .c z10])) F (atI (nth q 0)) (atI (nth q 1)) (atI (nth q 2)) (atI (nth q 3)) (atI (nth q 4)) (atI (nth q 5)) (atI (nth q 6)) (atI (nth q 7)) (atI (nth q 8)) (atI (nth q 9)) (atC (nth q 10))⟩]
def I_mat_Same (F : Nat) : Nat → VS → (Exit → VS → R) → R := tabI c_mat_Same (W_mat_Same F)
def WJ_mat_Same (F : Nat) : List LJ := []
def J_mat_Same (F : Nat) : Nat → Nat → VS → (Exit → VS → R) → R := tabJ (WJ_mat_Same F)
theorem lL_mat_Same_0 (F : Nat) (k : Exit → VS → R) : ∀ (n : Nat) (x0 : Int) (x1 : Int) (x2 : Int) (x3 : Int) (x4 : Int) (x5 : Int) (x6 : Int) (x7 : Int) (x8 : Int) (x9 : Int) (x10 : List VV), iterC (codeL PP (S_mat_Same F) c_mat_Same (I_mat_Same F) (J_mat_Same F) (loopAt PP 57 0) 0) (headOf c_mat_Same 0) k n (fS T_mat_Same_0 [.i x0, .i x1, .i x2, .i x3, .i x4, .i x5, .i x6, .i x7, .i x8, .i x9, .c x10]) = L_mat_Same_0 F (fun (z0 : Int) (z1 : Int) (z2 : Int) (z3 : Int) (z4 : Int) (z5 : Int) (z6 : Int) (z7 : Int) (z8 : Int) (z9 : Int) (z10 : List VV) => k (.exit 0) (fS T_mat_Same_0_0 [.i z0, .i z1, .i z2, .i z3, .i z4, .i z5, .i z6, .i z7, .i z8, .i z9, .c z10])) n x0 x1 x2 x3 x4 x5 x6 x7 x8 x9 x10
  | 0, _, _, _, _, _, _, _, _, _, _, _ => rfl
  | n + 1, x0, x1, x2, x3, x4, x5, x6, x7, x8, x9, x10 => by
    have h0 : ∀ (L_mat_Same_0 : Nat → (Int → Int → Int → Int → Int → Int → Int → Int → Int → Int → List VV → R) → Nat → Int → Int → Int → Int → Int → Int → Int → Int → Int → Int → List VV → R), iterC (codeL PP (words []) c_mat_Same (tabI c_mat_Same [⟨0, T_mat_Same_0, fun k q => L_mat_Same_0 F (fun (z0 : Int) (z1 : Int) (z2 : Int) (z3 : Int) (z4 : Int) (z5 : Int) (z6 : Int) (z7 : Int) (z8 : Int) (z9 : Int) (z10 : List VV) => k (.exit 0) (fS T_mat_Same_0_0 [.i z0, .i z1, .i z2, .i z3, .i z4, .i z5, .i z6, .i z7, .i z8, .i z9, .c z10])) F (atI (nth q 0)) (atI (nth q 1)) (atI (nth q 2)) (atI (nth q 3)) (atI (nth q 4)) (atI (nth q 5)) (atI (nth q 6)) (atI (nth q 7)) (atI (nth q 8)) (atI (nth q 9)) (atC (nth q 10))⟩]) (tabJ []) (loopAt PP 57 0) 0) (headOf c_mat_Same 0) k (n + 1) (fS T_mat_Same_0 [.i x0, .i x1, .i x2, .i x3, .i x4, .i x5, .i x6, .i x7, .i x8, .i x9, .c x10]) = (fun (rc : Int → Int → Int → Int → Int → Int → Int → Int → Int → Int → List VV → R) (ex0 : Int → Int → Int → Int → Int → Int → Int → Int → Int → Int → List VV → R) (x0 : Int) (x1 : Int) (x2 : Int) (x3 : Int) (x4 : Int) (x5 : Int) (x6 : Int) (x7 : Int) (x8 : Int) (x9 : Int) (x10 : List VV) => (
  bif ((decide (x0 < 3))) then (
    bif ((decide (0 ≤ x0)) && (decide (x0 < 3))) then (
      bif ((decide (0 ≤ x0)) && (decide (x0 < 3))) then (
        let v2437 : Nat := (((0 + ((Int.toNat x0) * 3))) + ((Int.toNat x0) * 1))
        bif (decide ((v2437 + 1) ≤ x10.length)) then (
          rc ((IntKind.wrap .i64 (x0 + 1))) x1 x2 x3 x4 x5 x6 x7 x8 x9 ((x10.take v2437 ++ [.v (.int .i64 4294967296)] ++ x10.drop (v2437 + 1))))
        else (
          none))
      else (
        none))
    else (
      none))
  else (
    ex0 x0 x1 x2 x3 x4 x5 x6 x7 x8 x9 x10) : R)) (fun (y0 : Int) (y1 : Int) (y2 : Int) (y3 : Int) (y4 : Int) (y5 : Int) (y6 : Int) (y7 : Int) (y8 : Int) (y9 : Int) (y10 : List VV) => iterC (codeL PP (words []) c_mat_Same (tabI c_mat_Same [⟨0, T_mat_Same_0, fun k q => L_mat_Same_0 F (fun (z0 : Int) (z1 : Int) (z2 : Int) (z3 : Int) (z4 : Int) (z5 : Int) (z6 : Int) (z7 : Int) (z8 : Int) (z9 : Int) (z10 : List VV) => k (.exit 0) (fS T_mat_Same_0_0 [.i z0, .i z1, .i z2, .i z3, .i z4, .i z5, .i z6, .i z7, .i z8, .i z9, .c z10])) F (atI (nth q 0)) (atI (nth q 1)) (atI (nth q 2)) (atI (nth q 3)) (atI (nth q 4)) (atI (nth q 5)) (atI (nth q 6)) (atI (nth q 7)) (atI (nth q 8)) (atI (nth q 9)) (atC (nth q 10))⟩]) (tabJ []) (loopAt PP 57 0) 0) (headOf c_mat_Same 0) k n (fS T_mat_Same_0 [.i y0, .i y1, .i y2, .i y3, .i y4, .i y5, .i y6, .i y7, .i y8, .i y9, .c y10])) (fun (z0 : Int) (z1 : Int) (z2 : Int) (z3 : Int) (z4 : Int) (z5 : Int) (z6 : Int) (z7 : Int) (z8 : Int) (z9 : Int) (z10 : List VV) => k (.exit 0) (fS T_mat_Same_0_0 [.i z0, .i z1, .i z2, .i z3, .i z4, .i z5, .i z6, .i z7, .i z8, .i z9, .c z10])) x0 x1 x2 x3 x4 x5 x6 x7 x8 x9 x10 := by
      intros
      kernel_rfl
    have h : iterC (codeL PP (S_mat_Same F) c_mat_Same (I_mat_Same F) (J_mat_Same F) (loopAt PP 57 0) 0) (headOf c_mat_Same 0) k (n + 1) (fS T_mat_Same_0 [.i x0, .i x1, .i x2, .i x3, .i x4, .i x5, .i x6, .i x7, .i x8, .i x9, .c x10]) = B_mat_Same_0 F (fun (y0 : Int) (y1 : Int) (y2 : Int) (y3 : Int) (y4 : Int) (y5 : Int) (y6 : Int) (y7 : Int) (y8 : Int) (y9 : Int) (y10 : List VV) => iterC (codeL PP (S_mat_Same F) c_mat_Same (I_mat_Same F) (J_mat_Same F) (loopAt PP 57 0) 0) (headOf c_mat_Same 0) k n (fS T_mat_Same_0 [.i y0, .i y1, .i y2, .i y3, .i y4, .i y5, .i y6, .i y7, .i y8, .i y9, .c y10])) (fun (z0 : Int) (z1 : Int) (z2 : Int) (z3 : Int) (z4 : Int) (z5 : Int) (z6 : Int) (z7 : Int) (z8 : Int) (z9 : Int) (z10 : List VV) => k (.exit 0) (fS T_mat_Same_0_0 [.i z0, .i z1, .i z2, .i z3, .i z4, .i z5, .i z6, .i z7, .i z8, .i z9, .c z10])) x0 x1 x2 x3 x4 x5 x6 x7 x8 x9 x10 := (h0 L_mat_Same_0).trans (by kernel_rfl)
    rw [h]
    simp only [lL_mat_Same_0 F k n]
    rfl
def f_mat_Same (F : Nat) : R :=
  L_mat_Same_0 F (fun (v2440 : Int) (v2441 : Int) (v2442 : Int) (v2443 : Int) (v2444 : Int) (v2445 : Int) (v2446 : Int) (v2447 : Int) (v2448 : Int) (v2449 : Int) (v2450 : List VV) =>
    bif ((isI .i64 v2450[0]?) && ((isI .i64 v2450[1]?) && ((isI .i64 v2450[2]?) && ((isI .i64 v2450[3]?) && ((isI .i64 v2450[4]?) && ((isI .i64 v2450[5]?) && ((isI .i64 v2450[6]?) && ((isI .i64 v2450[7]?) && ((isI .i64 v2450[8]?) && true))))))))) then (
      some (.v (.agg #[.int .i64 ((iv v2450[0]?)), .int .i64 ((iv v2450[1]?)), .int .i64 ((iv v2450[2]?)), .int .i64 ((iv v2450[3]?)), .int .i64 ((iv v2450[4]?)), .int .i64 ((iv v2450[5]?)), .int .i64 ((iv v2450[6]?)), .int .i64 ((iv v2450[7]?)), .int .i64 ((iv v2450[8]?))])))
    else (
      none)) F 0 0 0 0 0 0 0 0 0 0 ([.v (.int .i64 0), .v (.int .i64 0), .v (.int .i64 0), .v (.int .i64 0), .v (.int .i64 0), .v (.int .i64 0), .v (.int .i64 0), .v (.int .i64 0), .v (.int .i64 0)])
theorem e_mat_Same (F : Nat) : funL PP (S_mat_Same F) c_mat_Same (I_mat_Same F) (J_mat_Same F) 57 (fTs ti_mat_Same []).1 = f_mat_Same F := by
  have h : ∀ (L_mat_Same_0 : Nat → (Int → Int → Int → Int → Int → Int → Int → Int → Int → Int → List VV → R) → Nat → Int → Int → Int → Int → Int → Int → Int → Int → Int → Int → List VV → R), funL PP (words []) c_mat_Same (tabI c_mat_Same [⟨0, T_mat_Same_0, fun k q => L_mat_Same_0 F (fun (z0 : Int) (z1 : Int) (z2 : Int) (z3 : Int) (z4 : Int) (z5 : Int) (z6 : Int) (z7 : Int) (z8 : Int) (z9 : Int) (z10 : List VV) => k (.exit 0) (fS T_mat_Same_0_0 [.i z0, .i z1, .i z2, .i z3, .i z4, .i z5, .i z6, .i z7, .i z8, .i z9, .c z10])) F (atI (nth q 0)) (atI (nth q 1)) (atI (nth q 2)) (atI (nth q 3)) (atI (nth q 4)) (atI (nth q 5)) (atI (nth q 6)) (atI (nth q 7)) (atI (nth q 8)) (atI (nth q 9)) (atC (nth q 10))⟩]) (tabJ []) 57 (fTs ti_mat_Same []).1 = (
  L_mat_Same_0 F (fun (v2440 : Int) (v2441 : Int) (v2442 : Int) (v2443 : Int) (v2444 : Int) (v2445 : Int) (v2446 : Int) (v2447 : Int) (v2448 : Int) (v2449 : Int) (v2450 : List VV) =>
    bif ((isI .i64 v2450[0]?) && ((isI .i64 v2450[1]?) && ((isI .i64 v2450[2]?) && ((isI .i64 v2450[3]?) && ((isI .i64 v2450[4]?) && ((isI .i64 v2450[5]?) && ((isI .i64 v2450[6]?) && ((isI .i64 v2450[7]?) && ((isI .i64 v2450[8]?) && true))))))))) then (
      some (.v (.agg #[.int .i64 ((iv v2450[0]?)), .int .i64 ((iv v2450[1]?)), .int .i64 ((iv v2450[2]?)), .int .i64 ((iv v2450[3]?)), .int .i64 ((iv v2450[4]?)), .int .i64 ((iv v2450[5]?)), .int .i64 ((iv v2450[6]?)), .int .i64 ((iv v2450[7]?)), .int .i64 ((iv v2450[8]?))])))
    else (
      none)) F 0 0 0 0 0 0 0 0 0 0 ([.v (.int .i64 0), .v (.int .i64 0), .v (.int .i64 0), .v (.int .i64 0), .v (.int .i64 0), .v (.int .i64 0), .v (.int .i64 0), .v (.int .i64 0), .v (.int .i64 0)]) : R) := by
    intros
    kernel_rfl
  exact (h L_mat_Same_0).trans (by kernel_rfl)
def ok_mat_Same (F : Nat) : Bool := okT to_mat_Same (f_mat_Same F)
def o_mat_Same_0 (F : Nat) : Int := atI (nth (outT to_mat_Same (f_mat_Same F)) 0)
def o_mat_Same_1 (F : Nat) : Int := atI (nth (outT to_mat_Same (f_mat_Same F)) 1)
def o_mat_Same_2 (F : Nat) : Int := atI (nth (outT to_mat_Same (f_mat_Same F)) 2)
def o_mat_Same_3 (F : Nat) : Int := atI (nth (outT to_mat_Same (f_mat_Same F)) 3)
def o_mat_Same_4 (F : Nat) : Int := atI (nth (outT to_mat_Same (f_mat_Same F)) 4)
def o_mat_Same_5 (F : Nat) : Int := atI (nth (outT to_mat_Same (f_mat_Same F)) 5)
def o_mat_Same_6 (F : Nat) : Int := atI (nth (outT to_mat_Same (f_mat_Same F)) 6)
def o_mat_Same_7 (F : Nat) : Int := atI (nth (outT to_mat_Same (f_mat_Same F)) 7)
def o_mat_Same_8 (F : Nat) : Int := atI (nth (outT to_mat_Same (f_mat_Same F)) 8)
theorem k_mat_Same (F : Nat) {z0 : Int} {z1 : Int} {z2 : Int} {z3 : Int} {z4 : Int} {z5 : Int} {z6 : Int} {z7 : Int} {z8 : Int} (h : f_mat_Same F = some (.v (.agg #[.int .i64 z0, .int .i64 z1, .int .i64 z2, .int .i64 z3, .int .i64 z4, .int .i64 z5, .int .i64 z6, .int .i64 z7, .int .i64 z8]))) : ok_mat_Same F = true ∧ o_mat_Same_0 F = z0 ∧ o_mat_Same_1 F = z1 ∧ o_mat_Same_2 F = z2 ∧ o_mat_Same_3 F = z3 ∧ o_mat_Same_4 F = z4 ∧ o_mat_Same_5 F = z5 ∧ o_mat_Same_6 F = z6 ∧ o_mat_Same_7 F = z7 ∧ o_mat_Same_8 F = z8 := by
  refine ⟨?_, ?_, ?_, ?_, ?_, ?_, ?_, ?_, ?_, ?_⟩
  · unfold ok_mat_Same; rw [h]; kernel_rfl
  · unfold o_mat_Same_0; rw [h]; kernel_rfl
  · unfold o_mat_Same_1; rw [h]; kernel_rfl
  · unfold o_mat_Same_2; rw [h]; kernel_rfl
  · unfold o_mat_Same_3; rw [h]; kernel_rfl
  · unfold o_mat_Same_4; rw [h]; kernel_rfl
  · unfold o_mat_Same_5; rw [h]; kernel_rfl
  · unfold o_mat_Same_6; rw [h]; kernel_rfl
  · unfold o_mat_Same_7; rw [h]; kernel_rfl
  · unfold o_mat_Same_8; rw [h]; kernel_rfl
def s_mat_Same (F : Nat) : List VV → Option (Bool × VV) := spec ti_mat_Same to_mat_Same (fun q => (ok_mat_Same F )) (fun q => [.i (o_mat_Same_0 F ), .i (o_mat_Same_1 F ), .i (o_mat_Same_2 F ), .i (o_mat_Same_3 F ), .i (o_mat_Same_4 F ), .i (o_mat_Same_5 F ), .i (o_mat_Same_6 F ), .i (o_mat_Same_7 F ), .i (o_mat_Same_8 F )])
theorem hS_mat_Same (F : Nat) : ∀ f, Good PP f (unS (S_mat_Same F f)) := words_good fun p hp => by
  cases hp
theorem hl_mat_Same (F : Nat) : ∀ p ∈ loopsIn PP 57, LoopOK PP (S_mat_Same F) c_mat_Same F (I_mat_Same F) (J_mat_Same F) p :=
  loops_of [(0, loopAt PP 57 0)] (by kernel_rfl) (all_cons
    (loop_ok (W_mat_Same F) rfl (tab_cons (fun _ k q => Le.ofEq ((lL_mat_Same_0 F k F (atI (nth q 0)) (atI (nth q 1)) (atI (nth q 2)) (atI (nth q 3)) (atI (nth q 4)) (atI (nth q 5)) (atI (nth q 6)) (atI (nth q 7)) (atI (nth q 8)) (atI (nth q 9)) (atC (nth q 10))).symm.trans (congrArg (iterC (codeL PP (S_mat_Same F) c_mat_Same (I_mat_Same F) (J_mat_Same F) (loopAt PP 57 0) 0) (headOf c_mat_Same 0) k F) (show fS T_mat_Same_0 [.i (atI (nth q 0)), .i (atI (nth q 1)), .i (atI (nth q 2)), .i (atI (nth q 3)), .i (atI (nth q 4)), .i (atI (nth q 5)), .i (atI (nth q 6)), .i (atI (nth q 7)), .i (atI (nth q 8)), .i (atI (nth q 9)), .c (atC (nth q 10))] = fS T_mat_Same_0 q by kernel_rfl)))) tab_nil)) all_nil)
theorem hj_mat_Same (F : Nat) : ∀ p ∈ joinsIn PP c_mat_Same 57, JoinOK PP (S_mat_Same F) c_mat_Same (I_mat_Same F) (J_mat_Same F) p :=
  joins_of [] (by kernel_rfl) all_nil
theorem g_mat_Same (F : Nat) : Good PP 57 (unS (s_mat_Same F)) :=
  fun_spec (hS_mat_Same F) (by kernel_rfl) (by kernel_rfl) (C := c_mat_Same) (F := fun q => (f_mat_Same F )) (fun _ => F) (fun _ => I_mat_Same F) (fun _ => J_mat_Same F) (fun _ => hl_mat_Same F) (fun _ => hj_mat_Same F)
    (fun q => (congrArg (funL PP (S_mat_Same F) c_mat_Same (I_mat_Same F) (J_mat_Same F) 57) (show (fTs ti_mat_Same q).1 = (fTs ti_mat_Same []).1 by kernel_rfl)).trans (e_mat_Same F ))
    (fun _ h => (okT_fill h).trans (congrArg some (by kernel_rfl)))

end Go.Xv
