/- The functions of wide numbers, of the program and of the document: what they compute (their loops end within the steps that are given). -/
import Derived.Test.YtpcblnkllakejaaA2
import Derived.Test.YtpcblnkllakejaaProg
import Derived.KernelRfl
set_option linter.unusedVariables false
namespace Go.Xv
noncomputable abbrev PP := Proofs.Try.prog
/- 104 _wide_bare -/
def c_wide_bare : Cfg := ⟨[0, 2, 4], [], [], []⟩
def ti_wide_bare : List TV := [.v (.int .i64)]
def to_wide_bare : TV := .v (.int .u64)
def S_wide_bare (F : Nat) : FuncId → List VV → Option (Bool × VV) := words []
def W_wide_bare (F : Nat) : List LW := []
def I_wide_bare (F : Nat) : Nat → VS → (Exit → VS → R) → R := tabI c_wide_bare (W_wide_bare F)
def WJ_wide_bare (F : Nat) : List LJ := []
def J_wide_bare (F : Nat) : Nat → Nat → VS → (Exit → VS → R) → R := tabJ (WJ_wide_bare F)
def f_wide_bare (F : Nat) (a0 : Int) : R :=
  bif ((decide (a0 < 0))) then (
    some (.v (.int .u64 ((IntKind.wrap .u64 (0 - ((IntKind.wrap .u64 a0))))))))
  else (
    some (.v (.int .u64 ((IntKind.wrap .u64 a0)))))
theorem e_wide_bare (F : Nat) (a0 : Int) : funL PP (S_wide_bare F) c_wide_bare (I_wide_bare F) (J_wide_bare F) 104 (fTs ti_wide_bare [.i a0]).1 = f_wide_bare F a0 := by
  have h : ∀ (_ : Unit), funL PP (words []) c_wide_bare (tabI c_wide_bare []) (tabJ []) 104 (fTs ti_wide_bare [.i a0]).1 = (
  bif ((decide (a0 < 0))) then (
    some (.v (.int .u64 ((IntKind.wrap .u64 (0 - ((IntKind.wrap .u64 a0))))))))
  else (
    some (.v (.int .u64 ((IntKind.wrap .u64 a0))))) : R) := by
    intros
    kernel_rfl
  exact (h ()).trans (by kernel_rfl)
def ok_wide_bare (F : Nat) (a0 : Int) : Bool := okT to_wide_bare (f_wide_bare F a0)
def o_wide_bare_0 (F : Nat) (a0 : Int) : Int := atI (nth (outT to_wide_bare (f_wide_bare F a0)) 0)
theorem k_wide_bare (F : Nat) (a0 : Int) {z0 : Int} (h : f_wide_bare F a0 = some (.v (.int .u64 z0))) : ok_wide_bare F a0 = true ∧ o_wide_bare_0 F a0 = z0 := by
  refine ⟨?_, ?_⟩
  · unfold ok_wide_bare; rw [h]; kernel_rfl
  · unfold o_wide_bare_0; rw [h]; kernel_rfl
def s_wide_bare (F : Nat) : List VV → Option (Bool × VV) := spec ti_wide_bare to_wide_bare (fun q => (ok_wide_bare F (atI (nth q 0)))) (fun q => [.i (o_wide_bare_0 F (atI (nth q 0)))])
theorem hS_wide_bare (F : Nat) : ∀ f, Good PP f (unS (S_wide_bare F f)) := words_good fun p hp => by
  cases hp
theorem hl_wide_bare (F : Nat) : ∀ p ∈ loopsIn PP 104, LoopOK PP (S_wide_bare F) c_wide_bare F (I_wide_bare F) (J_wide_bare F) p :=
  loops_of [] (by kernel_rfl) all_nil
theorem hj_wide_bare (F : Nat) : ∀ p ∈ joinsIn PP c_wide_bare 104, JoinOK PP (S_wide_bare F) c_wide_bare (I_wide_bare F) (J_wide_bare F) p :=
  joins_of [] (by kernel_rfl) all_nil
theorem g_wide_bare (F : Nat) : Good PP 104 (unS (s_wide_bare F)) :=
  fun_spec (hS_wide_bare F) (by kernel_rfl) (by kernel_rfl) (C := c_wide_bare) (F := fun q => (f_wide_bare F (atI (nth q 0)))) (fun _ => F) (fun _ => I_wide_bare F) (fun _ => J_wide_bare F) (fun _ => hl_wide_bare F) (fun _ => hj_wide_bare F)
    (fun q => (congrArg (funL PP (S_wide_bare F) c_wide_bare (I_wide_bare F) (J_wide_bare F) 104) (show (fTs ti_wide_bare q).1 = (fTs ti_wide_bare [.i (atI (nth q 0))]).1 by kernel_rfl)).trans (e_wide_bare F (atI (nth q 0))))
    (fun _ h => (okT_fill h).trans (congrArg some (by kernel_rfl)))

end Go.Xv
set_option linter.unusedVariables false
namespace Go.Xv
/- 103 _wide_product -/
def c_wide_product : Cfg := ⟨[0, 1, 4, 5, 6, 7, 8, 9, 10], [], [], []⟩
def ti_wide_product : List TV := [.v (.int .u64), .v (.int .u64)]
def to_wide_product : TV := .v (.agg [.int .i64, .int .u64])
def S_wide_product (F : Nat) : FuncId → List VV → Option (Bool × VV) := words []
def W_wide_product (F : Nat) : List LW := []
def I_wide_product (F : Nat) : Nat → VS → (Exit → VS → R) → R := tabI c_wide_product (W_wide_product F)
def WJ_wide_product (F : Nat) : List LJ := []
def J_wide_product (F : Nat) : Nat → Nat → VS → (Exit → VS → R) → R := tabJ (WJ_wide_product F)
def f_wide_product (F : Nat) (a0 : Int) (a1 : Int) : R :=
  let v6 : Int := (Int.fdiv a0 (4294967296))
  let v7 : Int := (andI .u64 a0 4294967295)
  let v8 : Int := (Int.fdiv a1 (4294967296))
  let v9 : Int := (andI .u64 a1 4294967295)
  let v13 : Int := (IntKind.wrap .u64 (((IntKind.wrap .u64 (v6 * v9))) + ((Int.fdiv ((IntKind.wrap .u64 (v7 * v9))) (4294967296)))))
  let v16 : Int := (IntKind.wrap .u64 (((andI .u64 v13 4294967295)) + ((IntKind.wrap .u64 (v7 * v8)))))
  some (.v (.agg #[.int .i64 ((IntKind.wrap .i64 ((IntKind.wrap .u64 (((IntKind.wrap .u64 (((IntKind.wrap .u64 (v6 * v8))) + ((Int.fdiv v13 (4294967296)))))) + ((Int.fdiv v16 (4294967296)))))))), .int .u64 ((orI .u64 ((IntKind.wrap .u64 (v16 * 4294967296))) ((andI .u64 ((IntKind.wrap .u64 (v7 * v9))) 4294967295))))]))
theorem e_wide_product (F : Nat) (a0 : Int) (a1 : Int) : funL PP (S_wide_product F) c_wide_product (I_wide_product F) (J_wide_product F) 103 (fTs ti_wide_product [.i a0, .i a1]).1 = f_wide_product F a0 a1 := by
  have h : ∀ (_ : Unit), funL PP (words []) c_wide_product (tabI c_wide_product []) (tabJ []) 103 (fTs ti_wide_product [.i a0, .i a1]).1 = (
  let v6 : Int := (Int.fdiv a0 (4294967296))
  let v7 : Int := (andI .u64 a0 4294967295)
  let v8 : Int := (Int.fdiv a1 (4294967296))
  let v9 : Int := (andI .u64 a1 4294967295)
  let v13 : Int := (IntKind.wrap .u64 (((IntKind.wrap .u64 (v6 * v9))) + ((Int.fdiv ((IntKind.wrap .u64 (v7 * v9))) (4294967296)))))
  let v16 : Int := (IntKind.wrap .u64 (((andI .u64 v13 4294967295)) + ((IntKind.wrap .u64 (v7 * v8)))))
  some (.v (.agg #[.int .i64 ((IntKind.wrap .i64 ((IntKind.wrap .u64 (((IntKind.wrap .u64 (((IntKind.wrap .u64 (v6 * v8))) + ((Int.fdiv v13 (4294967296)))))) + ((Int.fdiv v16 (4294967296)))))))), .int .u64 ((orI .u64 ((IntKind.wrap .u64 (v16 * 4294967296))) ((andI .u64 ((IntKind.wrap .u64 (v7 * v9))) 4294967295))))])) : R) := by
    intros
    kernel_rfl
  exact (h ()).trans (by kernel_rfl)
def ok_wide_product (F : Nat) (a0 : Int) (a1 : Int) : Bool := okT to_wide_product (f_wide_product F a0 a1)
def o_wide_product_0 (F : Nat) (a0 : Int) (a1 : Int) : Int := atI (nth (outT to_wide_product (f_wide_product F a0 a1)) 0)
def o_wide_product_1 (F : Nat) (a0 : Int) (a1 : Int) : Int := atI (nth (outT to_wide_product (f_wide_product F a0 a1)) 1)
theorem k_wide_product (F : Nat) (a0 : Int) (a1 : Int) {z0 : Int} {z1 : Int} (h : f_wide_product F a0 a1 = some (.v (.agg #[.int .i64 z0, .int .u64 z1]))) : ok_wide_product F a0 a1 = true ∧ o_wide_product_0 F a0 a1 = z0 ∧ o_wide_product_1 F a0 a1 = z1 := by
  refine ⟨?_, ?_, ?_⟩
  · unfold ok_wide_product; rw [h]; kernel_rfl
  · unfold o_wide_product_0; rw [h]; kernel_rfl
  · unfold o_wide_product_1; rw [h]; kernel_rfl
def s_wide_product (F : Nat) : List VV → Option (Bool × VV) := spec ti_wide_product to_wide_product (fun q => (ok_wide_product F (atI (nth q 0)) (atI (nth q 1)))) (fun q => [.i (o_wide_product_0 F (atI (nth q 0)) (atI (nth q 1))), .i (o_wide_product_1 F (atI (nth q 0)) (atI (nth q 1)))])
theorem hS_wide_product (F : Nat) : ∀ f, Good PP f (unS (S_wide_product F f)) := words_good fun p hp => by
  cases hp
theorem hl_wide_product (F : Nat) : ∀ p ∈ loopsIn PP 103, LoopOK PP (S_wide_product F) c_wide_product F (I_wide_product F) (J_wide_product F) p :=
  loops_of [] (by kernel_rfl) all_nil
theorem hj_wide_product (F : Nat) : ∀ p ∈ joinsIn PP c_wide_product 103, JoinOK PP (S_wide_product F) c_wide_product (I_wide_product F) (J_wide_product F) p :=
  joins_of [] (by kernel_rfl) all_nil
theorem g_wide_product (F : Nat) : Good PP 103 (unS (s_wide_product F)) :=
  fun_spec (hS_wide_product F) (by kernel_rfl) (by kernel_rfl) (C := c_wide_product) (F := fun q => (f_wide_product F (atI (nth q 0)) (atI (nth q 1)))) (fun _ => F) (fun _ => I_wide_product F) (fun _ => J_wide_product F) (fun _ => hl_wide_product F) (fun _ => hj_wide_product F)
    (fun q => (congrArg (funL PP (S_wide_product F) c_wide_product (I_wide_product F) (J_wide_product F) 103) (show (fTs ti_wide_product q).1 = (fTs ti_wide_product [.i (atI (nth q 0)), .i (atI (nth q 1))]).1 by kernel_rfl)).trans (e_wide_product F (atI (nth q 0)) (atI (nth q 1))))
    (fun _ h => (okT_fill h).trans (congrArg some (by kernel_rfl)))

end Go.Xv
set_option linter.unusedVariables false
namespace Go.Xv
/- 43 _wide_Add -/
def c_wide_Add : Cfg := ⟨[0, 1, 2, 3, 4, 5, 6, 22], [], [], []⟩
def ti_wide_Add : List TV := [.v (.agg [.int .i64, .int .u64]), .v (.agg [.int .i64, .int .u64])]
def to_wide_Add : TV := .v (.agg [.int .i64, .int .u64])
def S_wide_Add (F : Nat) : FuncId → List VV → Option (Bool × VV) := words []
def W_wide_Add (F : Nat) : List LW := []
def I_wide_Add (F : Nat) : Nat → VS → (Exit → VS → R) → R := tabI c_wide_Add (W_wide_Add F)
def WJ_wide_Add (F : Nat) : List LJ := []
def J_wide_Add (F : Nat) : Nat → Nat → VS → (Exit → VS → R) → R := tabJ (WJ_wide_Add F)
def f_wide_Add (F : Nat) (a0 : Int) (a1 : Int) (a2 : Int) (a3 : Int) : R :=
  let v34 : Int := (IntKind.wrap .u64 (a1 + a3))
  let v37 : Int := (IntKind.wrap .u64 (((IntKind.wrap .u64 a0)) + ((IntKind.wrap .u64 a2))))
  bif ((decide (v34 < a1))) then (
    some (.v (.agg #[.int .i64 ((IntKind.wrap .i64 ((IntKind.wrap .u64 (v37 + 1))))), .int .u64 v34])))
  else (
    some (.v (.agg #[.int .i64 ((IntKind.wrap .i64 v37)), .int .u64 v34])))
theorem e_wide_Add (F : Nat) (a0 : Int) (a1 : Int) (a2 : Int) (a3 : Int) : funL PP (S_wide_Add F) c_wide_Add (I_wide_Add F) (J_wide_Add F) 43 (fTs ti_wide_Add [.i a0, .i a1, .i a2, .i a3]).1 = f_wide_Add F a0 a1 a2 a3 := by
  have h : ∀ (_ : Unit), funL PP (words []) c_wide_Add (tabI c_wide_Add []) (tabJ []) 43 (fTs ti_wide_Add [.i a0, .i a1, .i a2, .i a3]).1 = (
  let v34 : Int := (IntKind.wrap .u64 (a1 + a3))
  let v37 : Int := (IntKind.wrap .u64 (((IntKind.wrap .u64 a0)) + ((IntKind.wrap .u64 a2))))
  bif ((decide (v34 < a1))) then (
    some (.v (.agg #[.int .i64 ((IntKind.wrap .i64 ((IntKind.wrap .u64 (v37 + 1))))), .int .u64 v34])))
  else (
    some (.v (.agg #[.int .i64 ((IntKind.wrap .i64 v37)), .int .u64 v34]))) : R) := by
    intros
    kernel_rfl
  exact (h ()).trans (by kernel_rfl)
def ok_wide_Add (F : Nat) (a0 : Int) (a1 : Int) (a2 : Int) (a3 : Int) : Bool := okT to_wide_Add (f_wide_Add F a0 a1 a2 a3)
def o_wide_Add_0 (F : Nat) (a0 : Int) (a1 : Int) (a2 : Int) (a3 : Int) : Int := atI (nth (outT to_wide_Add (f_wide_Add F a0 a1 a2 a3)) 0)
def o_wide_Add_1 (F : Nat) (a0 : Int) (a1 : Int) (a2 : Int) (a3 : Int) : Int := atI (nth (outT to_wide_Add (f_wide_Add F a0 a1 a2 a3)) 1)
theorem k_wide_Add (F : Nat) (a0 : Int) (a1 : Int) (a2 : Int) (a3 : Int) {z0 : Int} {z1 : Int} (h : f_wide_Add F a0 a1 a2 a3 = some (.v (.agg #[.int .i64 z0, .int .u64 z1]))) : ok_wide_Add F a0 a1 a2 a3 = true ∧ o_wide_Add_0 F a0 a1 a2 a3 = z0 ∧ o_wide_Add_1 F a0 a1 a2 a3 = z1 := by
  refine ⟨?_, ?_, ?_⟩
  · unfold ok_wide_Add; rw [h]; kernel_rfl
  · unfold o_wide_Add_0; rw [h]; kernel_rfl
  · unfold o_wide_Add_1; rw [h]; kernel_rfl
def s_wide_Add (F : Nat) : List VV → Option (Bool × VV) := spec ti_wide_Add to_wide_Add (fun q => (ok_wide_Add F (atI (nth q 0)) (atI (nth q 1)) (atI (nth q 2)) (atI (nth q 3)))) (fun q => [.i (o_wide_Add_0 F (atI (nth q 0)) (atI (nth q 1)) (atI (nth q 2)) (atI (nth q 3))), .i (o_wide_Add_1 F (atI (nth q 0)) (atI (nth q 1)) (atI (nth q 2)) (atI (nth q 3)))])
theorem hS_wide_Add (F : Nat) : ∀ f, Good PP f (unS (S_wide_Add F f)) := words_good fun p hp => by
  cases hp
theorem hl_wide_Add (F : Nat) : ∀ p ∈ loopsIn PP 43, LoopOK PP (S_wide_Add F) c_wide_Add F (I_wide_Add F) (J_wide_Add F) p :=
  loops_of [] (by kernel_rfl) all_nil
theorem hj_wide_Add (F : Nat) : ∀ p ∈ joinsIn PP c_wide_Add 43, JoinOK PP (S_wide_Add F) c_wide_Add (I_wide_Add F) (J_wide_Add F) p :=
  joins_of [] (by kernel_rfl) all_nil
theorem g_wide_Add (F : Nat) : Good PP 43 (unS (s_wide_Add F)) :=
  fun_spec (hS_wide_Add F) (by kernel_rfl) (by kernel_rfl) (C := c_wide_Add) (F := fun q => (f_wide_Add F (atI (nth q 0)) (atI (nth q 1)) (atI (nth q 2)) (atI (nth q 3)))) (fun _ => F) (fun _ => I_wide_Add F) (fun _ => J_wide_Add F) (fun _ => hl_wide_Add F) (fun _ => hj_wide_Add F)
    (fun q => (congrArg (funL PP (S_wide_Add F) c_wide_Add (I_wide_Add F) (J_wide_Add F) 43) (show (fTs ti_wide_Add q).1 = (fTs ti_wide_Add [.i (atI (nth q 0)), .i (atI (nth q 1)), .i (atI (nth q 2)), .i (atI (nth q 3))]).1 by kernel_rfl)).trans (e_wide_Add F (atI (nth q 0)) (atI (nth q 1)) (atI (nth q 2)) (atI (nth q 3))))
    (fun _ h => (okT_fill h).trans (congrArg some (by kernel_rfl)))

end Go.Xv
set_option linter.unusedVariables false
namespace Go.Xv
/- 44 _wide_Neg -/
def c_wide_Neg : Cfg := ⟨[0, 1, 2], [], [], []⟩
def ti_wide_Neg : List TV := [.v (.agg [.int .i64, .int .u64])]
def to_wide_Neg : TV := .v (.agg [.int .i64, .int .u64])
def S_wide_Neg (F : Nat) : FuncId → List VV → Option (Bool × VV) := words [(43, s_wide_Add F)]
def W_wide_Neg (F : Nat) : List LW := []
def I_wide_Neg (F : Nat) : Nat → VS → (Exit → VS → R) → R := tabI c_wide_Neg (W_wide_Neg F)
def WJ_wide_Neg (F : Nat) : List LJ := []
def J_wide_Neg (F : Nat) : Nat → Nat → VS → (Exit → VS → R) → R := tabJ (WJ_wide_Neg F)
def f_wide_Neg (F : Nat) (a0 : Int) (a1 : Int) : R :=
  let v32 : Int := (xorI .i64 (-1) a0)
  let v33 : Int := (xorI .u64 18446744073709551615 a1)
  bif (ok_wide_Add F v32 v33 0 1) then (
    some (.v (.agg #[.int .i64 ((o_wide_Add_0 F v32 v33 0 1)), .int .u64 ((o_wide_Add_1 F v32 v33 0 1))])))
  else (
    none)
theorem e_wide_Neg (F : Nat) (a0 : Int) (a1 : Int) : funL PP (S_wide_Neg F) c_wide_Neg (I_wide_Neg F) (J_wide_Neg F) 44 (fTs ti_wide_Neg [.i a0, .i a1]).1 = f_wide_Neg F a0 a1 := by
  have h : ∀ (ok_wide_Add : Nat → Int → Int → Int → Int → Bool) (o_wide_Add_0 : Nat → Int → Int → Int → Int → Int) (o_wide_Add_1 : Nat → Int → Int → Int → Int → Int), funL PP (words [(43, spec ti_wide_Add to_wide_Add (fun q => (ok_wide_Add F (atI (nth q 0)) (atI (nth q 1)) (atI (nth q 2)) (atI (nth q 3)))) (fun q => [.i (o_wide_Add_0 F (atI (nth q 0)) (atI (nth q 1)) (atI (nth q 2)) (atI (nth q 3))), .i (o_wide_Add_1 F (atI (nth q 0)) (atI (nth q 1)) (atI (nth q 2)) (atI (nth q 3)))]))]) c_wide_Neg (tabI c_wide_Neg []) (tabJ []) 44 (fTs ti_wide_Neg [.i a0, .i a1]).1 = (
  let v32 : Int := (xorI .i64 (-1) a0)
  let v33 : Int := (xorI .u64 18446744073709551615 a1)
  bif (ok_wide_Add F v32 v33 0 1) then (
    some (.v (.agg #[.int .i64 ((o_wide_Add_0 F v32 v33 0 1)), .int .u64 ((o_wide_Add_1 F v32 v33 0 1))])))
  else (
    none) : R) := by
    intros
    kernel_rfl
  exact (h ok_wide_Add o_wide_Add_0 o_wide_Add_1).trans (by kernel_rfl)
def ok_wide_Neg (F : Nat) (a0 : Int) (a1 : Int) : Bool := okT to_wide_Neg (f_wide_Neg F a0 a1)
def o_wide_Neg_0 (F : Nat) (a0 : Int) (a1 : Int) : Int := atI (nth (outT to_wide_Neg (f_wide_Neg F a0 a1)) 0)
def o_wide_Neg_1 (F : Nat) (a0 : Int) (a1 : Int) : Int := atI (nth (outT to_wide_Neg (f_wide_Neg F a0 a1)) 1)
theorem k_wide_Neg (F : Nat) (a0 : Int) (a1 : Int) {z0 : Int} {z1 : Int} (h : f_wide_Neg F a0 a1 = some (.v (.agg #[.int .i64 z0, .int .u64 z1]))) : ok_wide_Neg F a0 a1 = true ∧ o_wide_Neg_0 F a0 a1 = z0 ∧ o_wide_Neg_1 F a0 a1 = z1 := by
  refine ⟨?_, ?_, ?_⟩
  · unfold ok_wide_Neg; rw [h]; kernel_rfl
  · unfold o_wide_Neg_0; rw [h]; kernel_rfl
  · unfold o_wide_Neg_1; rw [h]; kernel_rfl
def s_wide_Neg (F : Nat) : List VV → Option (Bool × VV) := spec ti_wide_Neg to_wide_Neg (fun q => (ok_wide_Neg F (atI (nth q 0)) (atI (nth q 1)))) (fun q => [.i (o_wide_Neg_0 F (atI (nth q 0)) (atI (nth q 1))), .i (o_wide_Neg_1 F (atI (nth q 0)) (atI (nth q 1)))])
theorem hS_wide_Neg (F : Nat) : ∀ f, Good PP f (unS (S_wide_Neg F f)) := words_good fun p hp => by
  simp only [List.mem_cons, List.not_mem_nil, or_false] at hp
  rcases hp with rfl
  · exact g_wide_Add F
theorem hl_wide_Neg (F : Nat) : ∀ p ∈ loopsIn PP 44, LoopOK PP (S_wide_Neg F) c_wide_Neg F (I_wide_Neg F) (J_wide_Neg F) p :=
  loops_of [] (by kernel_rfl) all_nil
theorem hj_wide_Neg (F : Nat) : ∀ p ∈ joinsIn PP c_wide_Neg 44, JoinOK PP (S_wide_Neg F) c_wide_Neg (I_wide_Neg F) (J_wide_Neg F) p :=
  joins_of [] (by kernel_rfl) all_nil
theorem g_wide_Neg (F : Nat) : Good PP 44 (unS (s_wide_Neg F)) :=
  fun_spec (hS_wide_Neg F) (by kernel_rfl) (by kernel_rfl) (C := c_wide_Neg) (F := fun q => (f_wide_Neg F (atI (nth q 0)) (atI (nth q 1)))) (fun _ => F) (fun _ => I_wide_Neg F) (fun _ => J_wide_Neg F) (fun _ => hl_wide_Neg F) (fun _ => hj_wide_Neg F)
    (fun q => (congrArg (funL PP (S_wide_Neg F) c_wide_Neg (I_wide_Neg F) (J_wide_Neg F) 44) (show (fTs ti_wide_Neg q).1 = (fTs ti_wide_Neg [.i (atI (nth q 0)), .i (atI (nth q 1))]).1 by kernel_rfl)).trans (e_wide_Neg F (atI (nth q 0)) (atI (nth q 1))))
    (fun _ h => (okT_fill h).trans (congrArg some (by kernel_rfl)))

end Go.Xv
set_option linter.unusedVariables false
namespace Go.Xv
/- 40 _wide_Mul -/
def c_wide_Mul : Cfg := ⟨[0, 1, 4, 5, 15], [], [7, 9], []⟩
def ti_wide_Mul : List TV := [.v (.int .i64), .v (.int .i64)]
def to_wide_Mul : TV := .v (.agg [.int .i64, .int .u64])
def S_wide_Mul (F : Nat) : FuncId → List VV → Option (Bool × VV) := words [(104, s_wide_bare F), (103, s_wide_product F), (44, s_wide_Neg F)]
def W_wide_Mul (F : Nat) : List LW := []
def I_wide_Mul (F : Nat) : Nat → VS → (Exit → VS → R) → R := tabI c_wide_Mul (W_wide_Mul F)
def WJ_wide_Mul (F : Nat) : List LJ := []
def J_wide_Mul (F : Nat) : Nat → Nat → VS → (Exit → VS → R) → R := tabJ (WJ_wide_Mul F)
def f_wide_Mul (F : Nat) (a0 : Int) (a1 : Int) : R :=
  bif (ok_wide_bare F a0) then (
    let v4 : Int := (o_wide_bare_0 F a0)
    bif (ok_wide_bare F a1) then (
      let v5 : Int := (o_wide_bare_0 F a1)
      bif (ok_wide_product F v4 v5) then (
        let v27 : Int := (o_wide_product_0 F v4 v5)
        let v28 : Int := (o_wide_product_1 F v4 v5)
        bif ((!(((decide (a0 < 0))) == ((decide (a1 < 0)))))) then (
          bif (ok_wide_Neg F v27 v28) then (
            some (.v (.agg #[.int .i64 ((o_wide_Neg_0 F v27 v28)), .int .u64 ((o_wide_Neg_1 F v27 v28))])))
          else (
            none))
        else (
          some (.v (.agg #[.int .i64 v27, .int .u64 v28]))))
      else (
        none))
    else (
      none))
  else (
    none)
theorem e_wide_Mul (F : Nat) (a0 : Int) (a1 : Int) : funL PP (S_wide_Mul F) c_wide_Mul (I_wide_Mul F) (J_wide_Mul F) 40 (fTs ti_wide_Mul [.i a0, .i a1]).1 = f_wide_Mul F a0 a1 := by
  have h : ∀ (ok_wide_bare : Nat → Int → Bool) (o_wide_bare_0 : Nat → Int → Int) (ok_wide_product : Nat → Int → Int → Bool) (o_wide_product_0 : Nat → Int → Int → Int) (o_wide_product_1 : Nat → Int → Int → Int) (ok_wide_Neg : Nat → Int → Int → Bool) (o_wide_Neg_0 : Nat → Int → Int → Int) (o_wide_Neg_1 : Nat → Int → Int → Int), funL PP (words [(104, spec ti_wide_bare to_wide_bare (fun q => (ok_wide_bare F (atI (nth q 0)))) (fun q => [.i (o_wide_bare_0 F (atI (nth q 0)))])), (103, spec ti_wide_product to_wide_product (fun q => (ok_wide_product F (atI (nth q 0)) (atI (nth q 1)))) (fun q => [.i (o_wide_product_0 F (atI (nth q 0)) (atI (nth q 1))), .i (o_wide_product_1 F (atI (nth q 0)) (atI (nth q 1)))])), (44, spec ti_wide_Neg to_wide_Neg (fun q => (ok_wide_Neg F (atI (nth q 0)) (atI (nth q 1)))) (fun q => [.i (o_wide_Neg_0 F (atI (nth q 0)) (atI (nth q 1))), .i (o_wide_Neg_1 F (atI (nth q 0)) (atI (nth q 1)))]))]) c_wide_Mul (tabI c_wide_Mul []) (tabJ []) 40 (fTs ti_wide_Mul [.i a0, .i a1]).1 = (
  bif (ok_wide_bare F a0) then (
    let v4 : Int := (o_wide_bare_0 F a0)
    bif (ok_wide_bare F a1) then (
      let v5 : Int := (o_wide_bare_0 F a1)
      bif (ok_wide_product F v4 v5) then (
        let v27 : Int := (o_wide_product_0 F v4 v5)
        let v28 : Int := (o_wide_product_1 F v4 v5)
        bif ((!(((decide (a0 < 0))) == ((decide (a1 < 0)))))) then (
          bif (ok_wide_Neg F v27 v28) then (
            some (.v (.agg #[.int .i64 ((o_wide_Neg_0 F v27 v28)), .int .u64 ((o_wide_Neg_1 F v27 v28))])))
          else (
            none))
        else (
          some (.v (.agg #[.int .i64 v27, .int .u64 v28]))))
      else (
        none))
    else (
      none))
  else (
    none) : R) := by
    intros
    kernel_rfl
  exact (h ok_wide_bare o_wide_bare_0 ok_wide_product o_wide_product_0 o_wide_product_1 ok_wide_Neg o_wide_Neg_0 o_wide_Neg_1).trans (by kernel_rfl)
def ok_wide_Mul (F : Nat) (a0 : Int) (a1 : Int) : Bool := okT to_wide_Mul (f_wide_Mul F a0 a1)
def o_wide_Mul_0 (F : Nat) (a0 : Int) (a1 : Int) : Int := atI (nth (outT to_wide_Mul (f_wide_Mul F a0 a1)) 0)
def o_wide_Mul_1 (F : Nat) (a0 : Int) (a1 : Int) : Int := atI (nth (outT to_wide_Mul (f_wide_Mul F a0 a1)) 1)
theorem k_wide_Mul (F : Nat) (a0 : Int) (a1 : Int) {z0 : Int} {z1 : Int} (h : f_wide_Mul F a0 a1 = some (.v (.agg #[.int .i64 z0, .int .u64 z1]))) : ok_wide_Mul F a0 a1 = true ∧ o_wide_Mul_0 F a0 a1 = z0 ∧ o_wide_Mul_1 F a0 a1 = z1 := by
  refine ⟨?_, ?_, ?_⟩
  · unfold ok_wide_Mul; rw [h]; kernel_rfl
  · unfold o_wide_Mul_0; rw [h]; kernel_rfl
  · unfold o_wide_Mul_1; rw [h]; kernel_rfl
def s_wide_Mul (F : Nat) : List VV → Option (Bool × VV) := spec ti_wide_Mul to_wide_Mul (fun q => (ok_wide_Mul F (atI (nth q 0)) (atI (nth q 1)))) (fun q => [.i (o_wide_Mul_0 F (atI (nth q 0)) (atI (nth q 1))), .i (o_wide_Mul_1 F (atI (nth q 0)) (atI (nth q 1)))])
theorem hS_wide_Mul (F : Nat) : ∀ f, Good PP f (unS (S_wide_Mul F f)) := words_good fun p hp => by
  simp only [List.mem_cons, List.not_mem_nil, or_false] at hp
  rcases hp with rfl | rfl | rfl
  · exact g_wide_bare F
  · exact g_wide_product F
  · exact g_wide_Neg F
theorem hl_wide_Mul (F : Nat) : ∀ p ∈ loopsIn PP 40, LoopOK PP (S_wide_Mul F) c_wide_Mul F (I_wide_Mul F) (J_wide_Mul F) p :=
  loops_of [] (by kernel_rfl) all_nil
theorem hj_wide_Mul (F : Nat) : ∀ p ∈ joinsIn PP c_wide_Mul 40, JoinOK PP (S_wide_Mul F) c_wide_Mul (I_wide_Mul F) (J_wide_Mul F) p :=
  joins_of [] (by kernel_rfl) all_nil
theorem g_wide_Mul (F : Nat) : Good PP 40 (unS (s_wide_Mul F)) :=
  fun_spec (hS_wide_Mul F) (by kernel_rfl) (by kernel_rfl) (C := c_wide_Mul) (F := fun q => (f_wide_Mul F (atI (nth q 0)) (atI (nth q 1)))) (fun _ => F) (fun _ => I_wide_Mul F) (fun _ => J_wide_Mul F) (fun _ => hl_wide_Mul F) (fun _ => hj_wide_Mul F)
    (fun q => (congrArg (funL PP (S_wide_Mul F) c_wide_Mul (I_wide_Mul F) (J_wide_Mul F) 40) (show (fTs ti_wide_Mul q).1 = (fTs ti_wide_Mul [.i (atI (nth q 0)), .i (atI (nth q 1))]).1 by kernel_rfl)).trans (e_wide_Mul F (atI (nth q 0)) (atI (nth q 1))))
    (fun _ h => (okT_fill h).trans (congrArg some (by kernel_rfl)))

end Go.Xv
set_option linter.unusedVariables false
namespace Go.Xv
/- 58 _ref01_Of -/
def c_ref01_Of : Cfg := ⟨[0, 2, 4], [], [], []⟩
def ti_ref01_Of : List TV := [.v (.int .i64)]
def to_ref01_Of : TV := .v (.agg [.int .i64, .int .u64])
def S_ref01_Of (F : Nat) : FuncId → List VV → Option (Bool × VV) := words []
def W_ref01_Of (F : Nat) : List LW := []
def I_ref01_Of (F : Nat) : Nat → VS → (Exit → VS → R) → R := tabI c_ref01_Of (W_ref01_Of F)
def WJ_ref01_Of (F : Nat) : List LJ := []
def J_ref01_Of (F : Nat) : Nat → Nat → VS → (Exit → VS → R) → R := tabJ (WJ_ref01_Of F)
def f_ref01_Of (F : Nat) (a0 : Int) : R :=
  bif ((decide (a0 < 0))) then (
    some (.v (.agg #[.int .i64 (-1), .int .u64 ((IntKind.wrap .u64 a0))])))
  else (
    some (.v (.agg #[.int .i64 0, .int .u64 ((IntKind.wrap .u64 a0))])))
theorem e_ref01_Of (F : Nat) (a0 : Int) : funL PP (S_ref01_Of F) c_ref01_Of (I_ref01_Of F) (J_ref01_Of F) 58 (fTs ti_ref01_Of [.i a0]).1 = f_ref01_Of F a0 := by
  have h : ∀ (_ : Unit), funL PP (words []) c_ref01_Of (tabI c_ref01_Of []) (tabJ []) 58 (fTs ti_ref01_Of [.i a0]).1 = (
  bif ((decide (a0 < 0))) then (
    some (.v (.agg #[.int .i64 (-1), .int .u64 ((IntKind.wrap .u64 a0))])))
  else (
    some (.v (.agg #[.int .i64 0, .int .u64 ((IntKind.wrap .u64 a0))]))) : R) := by
    intros
    kernel_rfl
  exact (h ()).trans (by kernel_rfl)
def ok_ref01_Of (F : Nat) (a0 : Int) : Bool := okT to_ref01_Of (f_ref01_Of F a0)
def o_ref01_Of_0 (F : Nat) (a0 : Int) : Int := atI (nth (outT to_ref01_Of (f_ref01_Of F a0)) 0)
def o_ref01_Of_1 (F : Nat) (a0 : Int) : Int := atI (nth (outT to_ref01_Of (f_ref01_Of F a0)) 1)
theorem k_ref01_Of (F : Nat) (a0 : Int) {z0 : Int} {z1 : Int} (h : f_ref01_Of F a0 = some (.v (.agg #[.int .i64 z0, .int .u64 z1]))) : ok_ref01_Of F a0 = true ∧ o_ref01_Of_0 F a0 = z0 ∧ o_ref01_Of_1 F a0 = z1 := by
  refine ⟨?_, ?_, ?_⟩
  · unfold ok_ref01_Of; rw [h]; kernel_rfl
  · unfold o_ref01_Of_0; rw [h]; kernel_rfl
  · unfold o_ref01_Of_1; rw [h]; kernel_rfl
def s_ref01_Of (F : Nat) : List VV → Option (Bool × VV) := spec ti_ref01_Of to_ref01_Of (fun q => (ok_ref01_Of F (atI (nth q 0)))) (fun q => [.i (o_ref01_Of_0 F (atI (nth q 0))), .i (o_ref01_Of_1 F (atI (nth q 0)))])
theorem hS_ref01_Of (F : Nat) : ∀ f, Good PP f (unS (S_ref01_Of F f)) := words_good fun p hp => by
  cases hp
theorem hl_ref01_Of (F : Nat) : ∀ p ∈ loopsIn PP 58, LoopOK PP (S_ref01_Of F) c_ref01_Of F (I_ref01_Of F) (J_ref01_Of F) p :=
  loops_of [] (by kernel_rfl) all_nil
theorem hj_ref01_Of (F : Nat) : ∀ p ∈ joinsIn PP c_ref01_Of 58, JoinOK PP (S_ref01_Of F) c_ref01_Of (I_ref01_Of F) (J_ref01_Of F) p :=
  joins_of [] (by kernel_rfl) all_nil
theorem g_ref01_Of (F : Nat) : Good PP 58 (unS (s_ref01_Of F)) :=
  fun_spec (hS_ref01_Of F) (by kernel_rfl) (by kernel_rfl) (C := c_ref01_Of) (F := fun q => (f_ref01_Of F (atI (nth q 0)))) (fun _ => F) (fun _ => I_ref01_Of F) (fun _ => J_ref01_Of F) (fun _ => hl_ref01_Of F) (fun _ => hj_ref01_Of F)
    (fun q => (congrArg (funL PP (S_ref01_Of F) c_ref01_Of (I_ref01_Of F) (J_ref01_Of F) 58) (show (fTs ti_ref01_Of q).1 = (fTs ti_ref01_Of [.i (atI (nth q 0))]).1 by kernel_rfl)).trans (e_ref01_Of F (atI (nth q 0))))
    (fun _ h => (okT_fill h).trans (congrArg some (by kernel_rfl)))

end Go.Xv
set_option linter.unusedVariables false
namespace Go.Xv
/- 105 _ref01_Digits -/
def c_ref01_Digits : Cfg := ⟨[0, 1, 2, 3, 4, 5, 6, 7, 12, 27], [(0, [0, 1, 2, 3, 4, 5, 6, 7, 8, 9, 10, 23, 24, 25, 26, 27, 28, 29, 30, 31, 32, 33, 34, 35, 36, 37, 38]), (2, [0, 1, 2, 3, 4, 5, 6, 7, 8, 9, 10, 11, 12, 13, 14, 15, 16, 17, 18, 19, 20, 21, 22, 23, 24, 25, 38])], [19, 34], []⟩
def ti_ref01_Digits : List TV := [.v (.agg [.int .i64, .int .u64])]
def to_ref01_Digits : TV := .fs (.lit 0) .hole 1
def S_ref01_Digits (F : Nat) : FuncId → List VV → Option (Bool × VV) := words []
def T_ref01_Digits_0 : TS := ⟨[(0, .v (.agg [.int .i64, .int .u64])), (1, .lp 0 (.lit 0)), (2, .v (.nils)), (3, .ls 1 (.lit 0) .hole 1), (4, .v (.int .u64)), (5, .v (.int .i64))], [(0, ⟨(.ex [.v (.int .i64), .v (.int .u64)]), true⟩), (1, ⟨.hole, true⟩)], 2⟩
def T_ref01_Digits_0_0 : TS := ⟨[(0, .v (.agg [.int .i64, .int .u64])), (1, .lp 0 (.lit 0)), (2, .v (.nils)), (3, .ls 1 (.lit 0) .hole 1), (4, .v (.int .u64)), (5, .v (.int .i64))], [(0, ⟨(.ex [.v (.int .i64), .v (.int .u64)]), true⟩), (1, ⟨.hole, true⟩)], 2⟩
def B_ref01_Digits_0 (F : Nat) (rc : Int → Int → Nat → Int → Int → Int → Int → List VV → R) (ex0 : Int → Int → Nat → Int → Int → Int → Int → List VV → R) (x0 : Int) (x1 : Int) (x2 : Nat) (x3 : Int) (x4 : Int) (x5 : Int) (x6 : Int) (x7 : List VV) : R :=
  bif ((decide (x4 < 64))) then (
    bif (((decide ((0 + (x2 * 1)) ≤ x7.length)) && true) && (decide ((x2 + 1) * 9 ≤ bigger))) then (
      rc x0 x1 ((x2 + 1)) ((IntKind.wrap .u64 (Int.tdiv x3 2))) ((IntKind.wrap .i64 (x4 + 1))) x5 x6 ((((x7.drop 0).take (x2 * 1)) ++ [.v (.int .i64 ((IntKind.wrap .i64 ((Int.tmod x3 2)))))])))
    else (
      none))
  else (
    ex0 x0 x1 x2 x3 x4 x5 x6 x7)
def L_ref01_Digits_0 (F : Nat) (ex0 : Int → Int → Nat → Int → Int → Int → Int → List VV → R) : Nat → Int → Int → Nat → Int → Int → Int → Int → List VV → R
  | 0, _, _, _, _, _, _, _, _ => none
  | n + 1, x0, x1, x2, x3, x4, x5, x6, x7 => B_ref01_Digits_0 F (L_ref01_Digits_0 F ex0 n) ex0 x0 x1 x2 x3 x4 x5 x6 x7
def T_ref01_Digits_1 : TS := ⟨[(0, .v (.agg [.int .i64, .int .u64])), (1, .lp 0 (.lit 0)), (2, .v (.nils)), (3, .ls 1 (.lit 0) .hole 1), (4, .v (.int .u64)), (5, .v (.int .i64)), (6, .v (.int .u64)), (7, .v (.int .i64))], [(0, ⟨(.ex [.v (.int .i64), .v (.int .u64)]), true⟩), (1, ⟨.hole, true⟩)], 2⟩
def T_ref01_Digits_1_0 : TS := ⟨[(0, .v (.agg [.int .i64, .int .u64])), (1, .lp 0 (.lit 0)), (2, .v (.nils)), (3, .ls 1 (.lit 0) .hole 1), (4, .v (.int .u64)), (5, .v (.int .i64)), (6, .v (.int .u64)), (7, .v (.int .i64))], [(0, ⟨(.ex [.v (.int .i64), .v (.int .u64)]), true⟩), (1, ⟨.hole, true⟩)], 2⟩
def B_ref01_Digits_1 (F : Nat) (rc : Int → Int → Nat → Int → Int → Int → Int → Int → Int → List VV → R) (ex0 : Int → Int → Nat → Int → Int → Int → Int → Int → Int → List VV → R) (x0 : Int) (x1 : Int) (x2 : Nat) (x3 : Int) (x4 : Int) (x5 : Int) (x6 : Int) (x7 : Int) (x8 : Int) (x9 : List VV) : R :=
  bif ((decide (x6 < 64))) then (
    bif (((decide ((0 + (x2 * 1)) ≤ x9.length)) && true) && (decide ((x2 + 1) * 9 ≤ bigger))) then (
      rc x0 x1 ((x2 + 1)) x3 x4 ((IntKind.wrap .u64 (Int.tdiv x5 2))) ((IntKind.wrap .i64 (x6 + 1))) x7 x8 ((((x9.drop 0).take (x2 * 1)) ++ [.v (.int .i64 ((IntKind.wrap .i64 ((Int.tmod x5 2)))))])))
    else (
      none))
  else (
    ex0 x0 x1 x2 x3 x4 x5 x6 x7 x8 x9)
def L_ref01_Digits_1 (F : Nat) (ex0 : Int → Int → Nat → Int → Int → Int → Int → Int → Int → List VV → R) : Nat → Int → Int → Nat → Int → Int → Int → Int → Int → Int → List VV → R
  | 0, _, _, _, _, _, _, _, _, _, _ => none
  | n + 1, x0, x1, x2, x3, x4, x5, x6, x7, x8, x9 => B_ref01_Digits_1 F (L_ref01_Digits_1 F ex0 n) ex0 x0 x1 x2 x3 x4 x5 x6 x7 x8 x9
def W_ref01_Digits (F : Nat) : List LW := [⟨0, T_ref01_Digits_0, fun k q => L_ref01_Digits_0 F (fun (z0 : Int) (z1 : Int) (z2 : Nat) (z3 : Int) (z4 : Int) (z5 : Int) (z6 : Int) (z7 : List VV) => k (.exit 0) (fS T_ref01_Digits_0_0 [.i z0, .i z1, .n z2, .i z3, .i z4, .i z5, .i z6, .c z7])) F (atI (nth q 0)) (atI (nth q 1)) (atN (nth q 2)) (atI (nth q 3)) (atI (nth q 4)) (atI (nth q 5)) (atI (nth q 6)) (atC (nth q 7))⟩, ⟨2, T_ref01_Digits_1, fun k q => L_ref01_Digits_1 F (fun (z0 : Int) (z1 : Int) (z2 : Nat) (z3 : Int) (z4 : Int) (z5 : Int) (z6 : Int) (z7 : Int) (z8 : Int) (z9 : List VV) => k (.exit 2) (fS T_ref01_Digits_1_0 [.i z0, .i z1, .n z2, .i z3, .i z4, .i z5, .i z6, .i z7, .i z8, .c z9])) F (atI (nth q 0)) (atI (nth q 1)) (atN (nth q 2)) (atI (nth q 3)) (atI (nth q 4)) (atI (nth q 5)) (atI (nth q 6)) (atI (nth q 7)) (atI (nth q 8)) (atC (nth q 9))⟩]
def I_ref01_Digits (F : Nat) : Nat → VS → (Exit → VS → R) → R := tabI c_ref01_Digits (W_ref01_Digits F)
def WJ_ref01_Digits (F : Nat) : List LJ := []
def J_ref01_Digits (F : Nat) : Nat → Nat → VS → (Exit → VS → R) → R := tabJ (WJ_ref01_Digits F)
theorem lL_ref01_Digits_0 (F : Nat) (k : Exit → VS → R) : ∀ (n : Nat) (x0 : Int) (x1 : Int) (x2 : Nat) (x3 : Int) (x4 : Int) (x5 : Int) (x6 : Int) (x7 : List VV), iterC (codeL PP (S_ref01_Digits F) c_ref01_Digits (I_ref01_Digits F) (J_ref01_Digits F) (loopAt PP 105 0) 0) (headOf c_ref01_Digits 0) k n (fS T_ref01_Digits_0 [.i x0, .i x1, .n x2, .i x3, .i x4, .i x5, .i x6, .c x7]) = L_ref01_Digits_0 F (fun (z0 : Int) (z1 : Int) (z2 : Nat) (z3 : Int) (z4 : Int) (z5 : Int) (z6 : Int) (z7 : List VV) => k (.exit 0) (fS T_ref01_Digits_0_0 [.i z0, .i z1, .n z2, .i z3, .i z4, .i z5, .i z6, .c z7])) n x0 x1 x2 x3 x4 x5 x6 x7
  | 0, _, _, _, _, _, _, _, _ => rfl
  | n + 1, x0, x1, x2, x3, x4, x5, x6, x7 => by
    have h0 : ∀ (L_ref01_Digits_0 : Nat → (Int → Int → Nat → Int → Int → Int → Int → List VV → R) → Nat → Int → Int → Nat → Int → Int → Int → Int → List VV → R) (L_ref01_Digits_1 : Nat → (Int → Int → Nat → Int → Int → Int → Int → Int → Int → List VV → R) → Nat → Int → Int → Nat → Int → Int → Int → Int → Int → Int → List VV → R), iterC (codeL PP (words []) c_ref01_Digits (tabI c_ref01_Digits [⟨0, T_ref01_Digits_0, fun k q => L_ref01_Digits_0 F (fun (z0 : Int) (z1 : Int) (z2 : Nat) (z3 : Int) (z4 : Int) (z5 : Int) (z6 : Int) (z7 : List VV) => k (.exit 0) (fS T_ref01_Digits_0_0 [.i z0, .i z1, .n z2, .i z3, .i z4, .i z5, .i z6, .c z7])) F (atI (nth q 0)) (atI (nth q 1)) (atN (nth q 2)) (atI (nth q 3)) (atI (nth q 4)) (atI (nth q 5)) (atI (nth q 6)) (atC (nth q 7))⟩, ⟨2, T_ref01_Digits_1, fun k q => L_ref01_Digits_1 F (fun (z0 : Int) (z1 : Int) (z2 : Nat) (z3 : Int) (z4 : Int) (z5 : Int) (z6 : Int) (z7 : Int) (z8 : Int) (z9 : List VV) => k (.exit 2) (fS T_ref01_Digits_1_0 [.i z0, .i z1, .n z2, .i z3, .i z4, .i z5, .i z6, .i z7, .i z8, .c z9])) F (atI (nth q 0)) (atI (nth q 1)) (atN (nth q 2)) (atI (nth q 3)) (atI (nth q 4)) (atI (nth q 5)) (atI (nth q 6)) (atI (nth q 7)) (atI (nth q 8)) (atC (nth q 9))⟩]) (tabJ []) (loopAt PP 105 0) 0) (headOf c_ref01_Digits 0) k (n + 1) (fS T_ref01_Digits_0 [.i x0, .i x1, .n x2, .i x3, .i x4, .i x5, .i x6, .c x7]) = (fun (rc : Int → Int → Nat → Int → Int → Int → Int → List VV → R) (ex0 : Int → Int → Nat → Int → Int → Int → Int → List VV → R) (x0 : Int) (x1 : Int) (x2 : Nat) (x3 : Int) (x4 : Int) (x5 : Int) (x6 : Int) (x7 : List VV) => (
  bif ((decide (x4 < 64))) then (
    bif (((decide ((0 + (x2 * 1)) ≤ x7.length)) && true) && (decide ((x2 + 1) * 9 ≤ bigger))) then (
      rc x0 x1 ((x2 + 1)) ((IntKind.wrap .u64 (Int.tdiv x3 2))) ((IntKind.wrap .i64 (x4 + 1))) x5 x6 ((((x7.drop 0).take (x2 * 1)) ++ [.v (.int .i64 ((IntKind.wrap .i64 ((Int.tmod x3 2)))))])))
    else (
      none))
  else (
    ex0 x0 x1 x2 x3 x4 x5 x6 x7) : R)) (fun (y0 : Int) (y1 : Int) (y2 : Nat) (y3 : Int) (y4 : Int) (y5 : Int) (y6 : Int) (y7 : List VV) => iterC (codeL PP (words []) c_ref01_Digits (tabI c_ref01_Digits [⟨0, T_ref01_Digits_0, fun k q => L_ref01_Digits_0 F (fun (z0 : Int) (z1 : Int) (z2 : Nat) (z3 : Int) (z4 : Int) (z5 : Int) (z6 : Int) (z7 : List VV) => k (.exit 0) (fS T_ref01_Digits_0_0 [.i z0, .i z1, .n z2, .i z3, .i z4, .i z5, .i z6, .c z7])) F (atI (nth q 0)) (atI (nth q 1)) (atN (nth q 2)) (atI (nth q 3)) (atI (nth q 4)) (atI (nth q 5)) (atI (nth q 6)) (atC (nth q 7))⟩, ⟨2, T_ref01_Digits_1, fun k q => L_ref01_Digits_1 F (fun (z0 : Int) (z1 : Int) (z2 : Nat) (z3 : Int) (z4 : Int) (z5 : Int) (z6 : Int) (z7 : Int) (z8 : Int) (z9 : List VV) => k (.exit 2) (fS T_ref01_Digits_1_0 [.i z0, .i z1, .n z2, .i z3, .i z4, .i z5, .i z6, .i z7, .i z8, .c z9])) F (atI (nth q 0)) (atI (nth q 1)) (atN (nth q 2)) (atI (nth q 3)) (atI (nth q 4)) (atI (nth q 5)) (atI (nth q 6)) (atI (nth q 7)) (atI (nth q 8)) (atC (nth q 9))⟩]) (tabJ []) (loopAt PP 105 0) 0) (headOf c_ref01_Digits 0) k n (fS T_ref01_Digits_0 [.i y0, .i y1, .n y2, .i y3, .i y4, .i y5, .i y6, .c y7])) (fun (z0 : Int) (z1 : Int) (z2 : Nat) (z3 : Int) (z4 : Int) (z5 : Int) (z6 : Int) (z7 : List VV) => k (.exit 0) (fS T_ref01_Digits_0_0 [.i z0, .i z1, .n z2, .i z3, .i z4, .i z5, .i z6, .c z7])) x0 x1 x2 x3 x4 x5 x6 x7 := by
      intros
      kernel_rfl
    have h : iterC (codeL PP (S_ref01_Digits F) c_ref01_Digits (I_ref01_Digits F) (J_ref01_Digits F) (loopAt PP 105 0) 0) (headOf c_ref01_Digits 0) k (n + 1) (fS T_ref01_Digits_0 [.i x0, .i x1, .n x2, .i x3, .i x4, .i x5, .i x6, .c x7]) = B_ref01_Digits_0 F (fun (y0 : Int) (y1 : Int) (y2 : Nat) (y3 : Int) (y4 : Int) (y5 : Int) (y6 : Int) (y7 : List VV) => iterC (codeL PP (S_ref01_Digits F) c_ref01_Digits (I_ref01_Digits F) (J_ref01_Digits F) (loopAt PP 105 0) 0) (headOf c_ref01_Digits 0) k n (fS T_ref01_Digits_0 [.i y0, .i y1, .n y2, .i y3, .i y4, .i y5, .i y6, .c y7])) (fun (z0 : Int) (z1 : Int) (z2 : Nat) (z3 : Int) (z4 : Int) (z5 : Int) (z6 : Int) (z7 : List VV) => k (.exit 0) (fS T_ref01_Digits_0_0 [.i z0, .i z1, .n z2, .i z3, .i z4, .i z5, .i z6, .c z7])) x0 x1 x2 x3 x4 x5 x6 x7 := (h0 L_ref01_Digits_0 L_ref01_Digits_1).trans (by kernel_rfl)
    rw [h]
    simp only [lL_ref01_Digits_0 F k n]
    rfl
theorem lL_ref01_Digits_1 (F : Nat) (k : Exit → VS → R) : ∀ (n : Nat) (x0 : Int) (x1 : Int) (x2 : Nat) (x3 : Int) (x4 : Int) (x5 : Int) (x6 : Int) (x7 : Int) (x8 : Int) (x9 : List VV), iterC (codeL PP (S_ref01_Digits F) c_ref01_Digits (I_ref01_Digits F) (J_ref01_Digits F) (loopAt PP 105 1) 2) (headOf c_ref01_Digits 2) k n (fS T_ref01_Digits_1 [.i x0, .i x1, .n x2, .i x3, .i x4, .i x5, .i x6, .i x7, .i x8, .c x9]) = L_ref01_Digits_1 F (fun (z0 : Int) (z1 : Int) (z2 : Nat) (z3 : Int) (z4 : Int) (z5 : Int) (z6 : Int) (z7 : Int) (z8 : Int) (z9 : List VV) => k (.exit 2) (fS T_ref01_Digits_1_0 [.i z0, .i z1, .n z2, .i z3, .i z4, .i z5, .i z6, .i z7, .i z8, .c z9])) n x0 x1 x2 x3 x4 x5 x6 x7 x8 x9
  | 0, _, _, _, _, _, _, _, _, _, _ => rfl
  | n + 1, x0, x1, x2, x3, x4, x5, x6, x7, x8, x9 => by
    have h0 : ∀ (L_ref01_Digits_0 : Nat → (Int → Int → Nat → Int → Int → Int → Int → List VV → R) → Nat → Int → Int → Nat → Int → Int → Int → Int → List VV → R) (L_ref01_Digits_1 : Nat → (Int → Int → Nat → Int → Int → Int → Int → Int → Int → List VV → R) → Nat → Int → Int → Nat → Int → Int → Int → Int → Int → Int → List VV → R), iterC (codeL PP (words []) c_ref01_Digits (tabI c_ref01_Digits [⟨0, T_ref01_Digits_0, fun k q => L_ref01_Digits_0 F (fun (z0 : Int) (z1 : Int) (z2 : Nat) (z3 : Int) (z4 : Int) (z5 : Int) (z6 : Int) (z7 : List VV) => k (.exit 0) (fS T_ref01_Digits_0_0 [.i z0, .i z1, .n z2, .i z3, .i z4, .i z5, .i z6, .c z7])) F (atI (nth q 0)) (atI (nth q 1)) (atN (nth q 2)) (atI (nth q 3)) (atI (nth q 4)) (atI (nth q 5)) (atI (nth q 6)) (atC (nth q 7))⟩, ⟨2, T_ref01_Digits_1, fun k q => L_ref01_Digits_1 F (fun (z0 : Int) (z1 : Int) (z2 : Nat) (z3 : Int) (z4 : Int) (z5 : Int) (z6 : Int) (z7 : Int) (z8 : Int) (z9 : List VV) => k (.exit 2) (fS T_ref01_Digits_1_0 [.i z0, .i z1, .n z2, .i z3, .i z4, .i z5, .i z6, .i z7, .i z8, .c z9])) F (atI (nth q 0)) (atI (nth q 1)) (atN (nth q 2)) (atI (nth q 3)) (atI (nth q 4)) (atI (nth q 5)) (atI (nth q 6)) (atI (nth q 7)) (atI (nth q 8)) (atC (nth q 9))⟩]) (tabJ []) (loopAt PP 105 1) 2) (headOf c_ref01_Digits 2) k (n + 1) (fS T_ref01_Digits_1 [.i x0, .i x1, .n x2, .i x3, .i x4, .i x5, .i x6, .i x7, .i x8, .c x9]) = (fun (rc : Int → Int → Nat → Int → Int → Int → Int → Int → Int → List VV → R) (ex0 : Int → Int → Nat → Int → Int → Int → Int → Int → Int → List VV → R) (x0 : Int) (x1 : Int) (x2 : Nat) (x3 : Int) (x4 : Int) (x5 : Int) (x6 : Int) (x7 : Int) (x8 : Int) (x9 : List VV) => (
  bif ((decide (x6 < 64))) then (
    bif (((decide ((0 + (x2 * 1)) ≤ x9.length)) && true) && (decide ((x2 + 1) * 9 ≤ bigger))) then (
      rc x0 x1 ((x2 + 1)) x3 x4 ((IntKind.wrap .u64 (Int.tdiv x5 2))) ((IntKind.wrap .i64 (x6 + 1))) x7 x8 ((((x9.drop 0).take (x2 * 1)) ++ [.v (.int .i64 ((IntKind.wrap .i64 ((Int.tmod x5 2)))))])))
    else (
      none))
  else (
    ex0 x0 x1 x2 x3 x4 x5 x6 x7 x8 x9) : R)) (fun (y0 : Int) (y1 : Int) (y2 : Nat) (y3 : Int) (y4 : Int) (y5 : Int) (y6 : Int) (y7 : Int) (y8 : Int) (y9 : List VV) => iterC (codeL PP (words []) c_ref01_Digits (tabI c_ref01_Digits [⟨0, T_ref01_Digits_0, fun k q => L_ref01_Digits_0 F (fun (z0 : Int) (z1 : Int) (z2 : Nat) (z3 : Int) (z4 : Int) (z5 : Int) (z6 : Int) (z7 : List VV) => k (.exit 0) (fS T_ref01_Digits_0_0 [.i z0, .i z1, .n z2, .i z3, .i z4, .i z5, .i z6, .c z7])) F (atI (nth q 0)) (atI (nth q 1)) (atN (nth q 2)) (atI (nth q 3)) (atI (nth q 4)) (atI (nth q 5)) (atI (nth q 6)) (atC (nth q 7))⟩, ⟨2, T_ref01_Digits_1, fun k q => L_ref01_Digits_1 F (fun (z0 : Int) (z1 : Int) (z2 : Nat) (z3 : Int) (z4 : Int) (z5 : Int) (z6 : Int) (z7 : Int) (z8 : Int) (z9 : List VV) => k (.exit 2) (fS T_ref01_Digits_1_0 [.i z0, .i z1, .n z2, .i z3, .i z4, .i z5, .i z6, .i z7, .i z8, .c z9])) F (atI (nth q 0)) (atI (nth q 1)) (atN (nth q 2)) (atI (nth q 3)) (atI (nth q 4)) (atI (nth q 5)) (atI (nth q 6)) (atI (nth q 7)) (atI (nth q 8)) (atC (nth q 9))⟩]) (tabJ []) (loopAt PP 105 1) 2) (headOf c_ref01_Digits 2) k n (fS T_ref01_Digits_1 [.i y0, .i y1, .n y2, .i y3, .i y4, .i y5, .i y6, .i y7, .i y8, .c y9])) (fun (z0 : Int) (z1 : Int) (z2 : Nat) (z3 : Int) (z4 : Int) (z5 : Int) (z6 : Int) (z7 : Int) (z8 : Int) (z9 : List VV) => k (.exit 2) (fS T_ref01_Digits_1_0 [.i z0, .i z1, .n z2, .i z3, .i z4, .i z5, .i z6, .i z7, .i z8, .c z9])) x0 x1 x2 x3 x4 x5 x6 x7 x8 x9 := by
      intros
      kernel_rfl
    have h : iterC (codeL PP (S_ref01_Digits F) c_ref01_Digits (I_ref01_Digits F) (J_ref01_Digits F) (loopAt PP 105 1) 2) (headOf c_ref01_Digits 2) k (n + 1) (fS T_ref01_Digits_1 [.i x0, .i x1, .n x2, .i x3, .i x4, .i x5, .i x6, .i x7, .i x8, .c x9]) = B_ref01_Digits_1 F (fun (y0 : Int) (y1 : Int) (y2 : Nat) (y3 : Int) (y4 : Int) (y5 : Int) (y6 : Int) (y7 : Int) (y8 : Int) (y9 : List VV) => iterC (codeL PP (S_ref01_Digits F) c_ref01_Digits (I_ref01_Digits F) (J_ref01_Digits F) (loopAt PP 105 1) 2) (headOf c_ref01_Digits 2) k n (fS T_ref01_Digits_1 [.i y0, .i y1, .n y2, .i y3, .i y4, .i y5, .i y6, .i y7, .i y8, .c y9])) (fun (z0 : Int) (z1 : Int) (z2 : Nat) (z3 : Int) (z4 : Int) (z5 : Int) (z6 : Int) (z7 : Int) (z8 : Int) (z9 : List VV) => k (.exit 2) (fS T_ref01_Digits_1_0 [.i z0, .i z1, .n z2, .i z3, .i z4, .i z5, .i z6, .i z7, .i z8, .c z9])) x0 x1 x2 x3 x4 x5 x6 x7 x8 x9 := (h0 L_ref01_Digits_0 L_ref01_Digits_1).trans (by kernel_rfl)
    rw [h]
    simp only [lL_ref01_Digits_1 F k n]
    rfl
def f_ref01_Digits (F : Nat) (a0 : Int) (a1 : Int) : R :=
  L_ref01_Digits_0 F (fun (v70 : Int) (v71 : Int) (v72 : Nat) (v73 : Int) (v74 : Int) (v75 : Int) (v76 : Int) (v77 : List VV) =>
    L_ref01_Digits_1 F (fun (v96 : Int) (v97 : Int) (v98 : Nat) (v99 : Int) (v100 : Int) (v101 : Int) (v102 : Int) (v103 : Int) (v104 : Int) (v105 : List VV) =>
      some (.fs v105 0 v98 1)) F v70 v71 v72 v73 v74 ((IntKind.wrap .u64 v75)) 0 v75 v76 v77) F a0 a1 0 a1 0 a0 a1 []
theorem e_ref01_Digits (F : Nat) (a0 : Int) (a1 : Int) : funL PP (S_ref01_Digits F) c_ref01_Digits (I_ref01_Digits F) (J_ref01_Digits F) 105 (fTs ti_ref01_Digits [.i a0, .i a1]).1 = f_ref01_Digits F a0 a1 := by
  have h : ∀ (L_ref01_Digits_0 : Nat → (Int → Int → Nat → Int → Int → Int → Int → List VV → R) → Nat → Int → Int → Nat → Int → Int → Int → Int → List VV → R) (L_ref01_Digits_1 : Nat → (Int → Int → Nat → Int → Int → Int → Int → Int → Int → List VV → R) → Nat → Int → Int → Nat → Int → Int → Int → Int → Int → Int → List VV → R), funL PP (words []) c_ref01_Digits (tabI c_ref01_Digits [⟨0, T_ref01_Digits_0, fun k q => L_ref01_Digits_0 F (fun (z0 : Int) (z1 : Int) (z2 : Nat) (z3 : Int) (z4 : Int) (z5 : Int) (z6 : Int) (z7 : List VV) => k (.exit 0) (fS T_ref01_Digits_0_0 [.i z0, .i z1, .n z2, .i z3, .i z4, .i z5, .i z6, .c z7])) F (atI (nth q 0)) (atI (nth q 1)) (atN (nth q 2)) (atI (nth q 3)) (atI (nth q 4)) (atI (nth q 5)) (atI (nth q 6)) (atC (nth q 7))⟩, ⟨2, T_ref01_Digits_1, fun k q => L_ref01_Digits_1 F (fun (z0 : Int) (z1 : Int) (z2 : Nat) (z3 : Int) (z4 : Int) (z5 : Int) (z6 : Int) (z7 : Int) (z8 : Int) (z9 : List VV) => k (.exit 2) (fS T_ref01_Digits_1_0 [.i z0, .i z1, .n z2, .i z3, .i z4, .i z5, .i z6, .i z7, .i z8, .c z9])) F (atI (nth q 0)) (atI (nth q 1)) (atN (nth q 2)) (atI (nth q 3)) (atI (nth q 4)) (atI (nth q 5)) (atI (nth q 6)) (atI (nth q 7)) (atI (nth q 8)) (atC (nth q 9))⟩]) (tabJ []) 105 (fTs ti_ref01_Digits [.i a0, .i a1]).1 = (
  L_ref01_Digits_0 F (fun (v70 : Int) (v71 : Int) (v72 : Nat) (v73 : Int) (v74 : Int) (v75 : Int) (v76 : Int) (v77 : List VV) =>
    L_ref01_Digits_1 F (fun (v96 : Int) (v97 : Int) (v98 : Nat) (v99 : Int) (v100 : Int) (v101 : Int) (v102 : Int) (v103 : Int) (v104 : Int) (v105 : List VV) =>
      some (.fs v105 0 v98 1)) F v70 v71 v72 v73 v74 ((IntKind.wrap .u64 v75)) 0 v75 v76 v77) F a0 a1 0 a1 0 a0 a1 [] : R) := by
    intros
    kernel_rfl
  exact (h L_ref01_Digits_0 L_ref01_Digits_1).trans (by kernel_rfl)
def ok_ref01_Digits (F : Nat) (a0 : Int) (a1 : Int) : Bool := okT to_ref01_Digits (f_ref01_Digits F a0 a1)
def o_ref01_Digits_0 (F : Nat) (a0 : Int) (a1 : Int) : List VV := atC (nth (outT to_ref01_Digits (f_ref01_Digits F a0 a1)) 0)
def o_ref01_Digits_1 (F : Nat) (a0 : Int) (a1 : Int) : Nat := atN (nth (outT to_ref01_Digits (f_ref01_Digits F a0 a1)) 1)
theorem k_ref01_Digits (F : Nat) (a0 : Int) (a1 : Int) {z0 : List VV} {z1 : Nat} (h : f_ref01_Digits F a0 a1 = some (.fs z0 0 z1 1)) : ok_ref01_Digits F a0 a1 = true ∧ o_ref01_Digits_0 F a0 a1 = z0 ∧ o_ref01_Digits_1 F a0 a1 = z1 := by
  refine ⟨?_, ?_, ?_⟩
  · unfold ok_ref01_Digits; rw [h]; kernel_rfl
  · unfold o_ref01_Digits_0; rw [h]; kernel_rfl
  · unfold o_ref01_Digits_1; rw [h]; kernel_rfl
def s_ref01_Digits (F : Nat) : List VV → Option (Bool × VV) := spec ti_ref01_Digits to_ref01_Digits (fun q => (ok_ref01_Digits F (atI (nth q 0)) (atI (nth q 1)))) (fun q => [.c (o_ref01_Digits_0 F (atI (nth q 0)) (atI (nth q 1))), .n (o_ref01_Digits_1 F (atI (nth q 0)) (atI (nth q 1)))])
theorem hS_ref01_Digits (F : Nat) : ∀ f, Good PP f (unS (S_ref01_Digits F f)) := words_good fun p hp => by
  cases hp
theorem hl_ref01_Digits (F : Nat) : ∀ p ∈ loopsIn PP 105, LoopOK PP (S_ref01_Digits F) c_ref01_Digits F (I_ref01_Digits F) (J_ref01_Digits F) p :=
  loops_of [(0, loopAt PP 105 0), (2, loopAt PP 105 1)] (by kernel_rfl) (all_cons
    (loop_ok (W_ref01_Digits F) rfl (tab_cons (fun _ k q => Le.ofEq ((lL_ref01_Digits_0 F k F (atI (nth q 0)) (atI (nth q 1)) (atN (nth q 2)) (atI (nth q 3)) (atI (nth q 4)) (atI (nth q 5)) (atI (nth q 6)) (atC (nth q 7))).symm.trans (congrArg (iterC (codeL PP (S_ref01_Digits F) c_ref01_Digits (I_ref01_Digits F) (J_ref01_Digits F) (loopAt PP 105 0) 0) (headOf c_ref01_Digits 0) k F) (show fS T_ref01_Digits_0 [.i (atI (nth q 0)), .i (atI (nth q 1)), .n (atN (nth q 2)), .i (atI (nth q 3)), .i (atI (nth q 4)), .i (atI (nth q 5)), .i (atI (nth q 6)), .c (atC (nth q 7))] = fS T_ref01_Digits_0 q by kernel_rfl)))) (tab_cons (fun h => absurd h (by decide)) tab_nil))) (all_cons
    (loop_ok (W_ref01_Digits F) rfl (tab_cons (fun h => absurd h (by decide)) (tab_cons (fun _ k q => Le.ofEq ((lL_ref01_Digits_1 F k F (atI (nth q 0)) (atI (nth q 1)) (atN (nth q 2)) (atI (nth q 3)) (atI (nth q 4)) (atI (nth q 5)) (atI (nth q 6)) (atI (nth q 7)) (atI (nth q 8)) (atC (nth q 9))).symm.trans (congrArg (iterC (codeL PP (S_ref01_Digits F) c_ref01_Digits (I_ref01_Digits F) (J_ref01_Digits F) (loopAt PP 105 1) 2) (headOf c_ref01_Digits 2) k F) (show fS T_ref01_Digits_1 [.i (atI (nth q 0)), .i (atI (nth q 1)), .n (atN (nth q 2)), .i (atI (nth q 3)), .i (atI (nth q 4)), .i (atI (nth q 5)), .i (atI (nth q 6)), .i (atI (nth q 7)), .i (atI (nth q 8)), .c (atC (nth q 9))] = fS T_ref01_Digits_1 q by kernel_rfl)))) tab_nil))) all_nil))
theorem hj_ref01_Digits (F : Nat) : ∀ p ∈ joinsIn PP c_ref01_Digits 105, JoinOK PP (S_ref01_Digits F) c_ref01_Digits (I_ref01_Digits F) (J_ref01_Digits F) p :=
  joins_of [] (by kernel_rfl) all_nil
theorem g_ref01_Digits (F : Nat) : Good PP 105 (unS (s_ref01_Digits F)) :=
  fun_spec (hS_ref01_Digits F) (by kernel_rfl) (by kernel_rfl) (C := c_ref01_Digits) (F := fun q => (f_ref01_Digits F (atI (nth q 0)) (atI (nth q 1)))) (fun _ => F) (fun _ => I_ref01_Digits F) (fun _ => J_ref01_Digits F) (fun _ => hl_ref01_Digits F) (fun _ => hj_ref01_Digits F)
    (fun q => (congrArg (funL PP (S_ref01_Digits F) c_ref01_Digits (I_ref01_Digits F) (J_ref01_Digits F) 105) (show (fTs ti_ref01_Digits q).1 = (fTs ti_ref01_Digits [.i (atI (nth q 0)), .i (atI (nth q 1))]).1 by kernel_rfl)).trans (e_ref01_Digits F (atI (nth q 0)) (atI (nth q 1))))
    (fun _ h => (okT_fill h).trans (congrArg some (by kernel_rfl)))

end Go.Xv
set_option linter.unusedVariables false
namespace Go.Xv
/- 106 _ref01_Number -/
def c_ref01_Number : Cfg := ⟨[0, 2, 3, 4, 5, 6, 7, 15, 36], [(0, [0, 2, 3, 4, 5, 6, 7, 29, 30, 31, 32, 33, 34, 35, 36, 37, 38, 39, 40, 41, 42, 43, 44, 45, 46, 47, 48, 49, 50, 51, 52, 53]), (2, [0, 2, 3, 4, 5, 6, 7, 8, 9, 10, 11, 12, 13, 14, 15, 16, 17, 18, 19, 20, 21, 22, 23, 24, 25, 26, 27, 28, 50, 51, 52, 53])], [], []⟩
def ti_ref01_Number : List TV := [.fs (.lit 0) .hole 1]
def to_ref01_Number : TV := .v (.agg [.int .i64, .int .u64])
def S_ref01_Number (F : Nat) : FuncId → List VV → Option (Bool × VV) := words []
def T_ref01_Number_0 : TS := ⟨[(0, .fs (.lit 0) .hole 1), (2, .lp 0 (.lit 0)), (3, .v (.int .u64)), (4, .v (.int .u64)), (5, .v (.int .u64)), (6, .v (.int .i64))], [(0, ⟨(.ex [.v (.int .i64), .v (.int .u64)]), true⟩)], 1⟩
def T_ref01_Number_0_0 : TS := ⟨[(0, .fs (.lit 0) .hole 1), (2, .lp 0 (.lit 0)), (3, .v (.int .u64)), (4, .v (.int .u64)), (5, .v (.int .u64)), (6, .v (.int .i64))], [(0, ⟨(.ex [.v (.int .i64), .v (.int .u64)]), true⟩)], 1⟩
def B_ref01_Number_0 (F : Nat) (rc : List VV → Nat → Int → Int → Int → Int → Int → Int → R) (ex0 : List VV → Nat → Int → Int → Int → Int → Int → Int → R) (x0 : List VV) (x1 : Nat) (x2 : Int) (x3 : Int) (x4 : Int) (x5 : Int) (x6 : Int) (x7 : Int) : R :=
  bif ((decide (x5 < 64))) then (
    bif ((decide (x5 < (((x1 : Nat) : Int))))) then (
      bif ((decide (0 ≤ x5)) && (decide (x5 < ((x1 : Nat) : Int)))) then (
        let v186 : Nat := (0 + ((Int.toNat x5) * 1))
        bif ((isI .i64 x0[v186]?) && true) then (
          rc x0 x1 ((IntKind.wrap .u64 (x2 + ((IntKind.wrap .u64 (((IntKind.wrap .u64 ((iv x0[v186]?)))) * x4)))))) x3 ((IntKind.wrap .u64 (2 * x4))) ((IntKind.wrap .i64 (x5 + 1))) x6 x7)
        else (
          none))
      else (
        none))
    else (
      ex0 x0 x1 x2 x3 x4 x5 x6 x7))
  else (
    ex0 x0 x1 x2 x3 x4 x5 x6 x7)
def L_ref01_Number_0 (F : Nat) (ex0 : List VV → Nat → Int → Int → Int → Int → Int → Int → R) : Nat → List VV → Nat → Int → Int → Int → Int → Int → Int → R
  | 0, _, _, _, _, _, _, _, _ => none
  | n + 1, x0, x1, x2, x3, x4, x5, x6, x7 => B_ref01_Number_0 F (L_ref01_Number_0 F ex0 n) ex0 x0 x1 x2 x3 x4 x5 x6 x7
def T_ref01_Number_1 : TS := ⟨[(0, .fs (.lit 0) .hole 1), (2, .lp 0 (.lit 0)), (3, .v (.int .u64)), (4, .v (.int .u64)), (5, .v (.int .u64)), (6, .v (.int .i64)), (7, .v (.int .i64))], [(0, ⟨(.ex [.v (.int .i64), .v (.int .u64)]), true⟩)], 1⟩
def T_ref01_Number_1_0 : TS := ⟨[(0, .fs (.lit 0) .hole 1), (2, .lp 0 (.lit 0)), (3, .v (.int .u64)), (4, .v (.int .u64)), (5, .v (.int .u64)), (6, .v (.int .i64)), (7, .v (.int .i64))], [(0, ⟨(.ex [.v (.int .i64), .v (.int .u64)]), true⟩)], 1⟩
def B_ref01_Number_1 (F : Nat) (rc : List VV → Nat → Int → Int → Int → Int → Int → Int → Int → R) (ex0 : List VV → Nat → Int → Int → Int → Int → Int → Int → Int → R) (x0 : List VV) (x1 : Nat) (x2 : Int) (x3 : Int) (x4 : Int) (x5 : Int) (x6 : Int) (x7 : Int) (x8 : Int) : R :=
  bif ((decide (x6 < 128))) then (
    bif ((decide (x6 < (((x1 : Nat) : Int))))) then (
      bif ((decide (0 ≤ x6)) && (decide (x6 < ((x1 : Nat) : Int)))) then (
        let v213 : Nat := (0 + ((Int.toNat x6) * 1))
        bif ((isI .i64 x0[v213]?) && true) then (
          rc x0 x1 x2 ((IntKind.wrap .u64 (x3 + ((IntKind.wrap .u64 (((IntKind.wrap .u64 ((iv x0[v213]?)))) * x4)))))) ((IntKind.wrap .u64 (2 * x4))) x5 ((IntKind.wrap .i64 (x6 + 1))) x7 x8)
        else (
          none))
      else (
        none))
    else (
      ex0 x0 x1 x2 x3 x4 x5 x6 x7 x8))
  else (
    ex0 x0 x1 x2 x3 x4 x5 x6 x7 x8)
def L_ref01_Number_1 (F : Nat) (ex0 : List VV → Nat → Int → Int → Int → Int → Int → Int → Int → R) : Nat → List VV → Nat → Int → Int → Int → Int → Int → Int → Int → R
  | 0, _, _, _, _, _, _, _, _, _ => none
  | n + 1, x0, x1, x2, x3, x4, x5, x6, x7, x8 => B_ref01_Number_1 F (L_ref01_Number_1 F ex0 n) ex0 x0 x1 x2 x3 x4 x5 x6 x7 x8
def W_ref01_Number (F : Nat) : List LW := [⟨0, T_ref01_Number_0, fun k q => L_ref01_Number_0 F (fun (z0 : List VV) (z1 : Nat) (z2 : Int) (z3 : Int) (z4 : Int) (z5 : Int) (z6 : Int) (z7 : Int) => k (.exit 0) (fS T_ref01_Number_0_0 [.c z0, .n z1, .i z2, .i z3, .i z4, .i z5, .i z6, .i z7])) F (atC (nth q 0)) (atN (nth q 1)) (atI (nth q 2)) (atI (nth q 3)) (atI (nth q 4)) (atI (nth q 5)) (atI (nth q 6)) (atI (nth q 7))⟩, ⟨2, T_ref01_Number_1, fun k q => L_ref01_Number_1 F (fun (z0 : List VV) (z1 : Nat) (z2 : Int) (z3 : Int) (z4 : Int) (z5 : Int) (z6 : Int) (z7 : Int) (z8 : Int) => k (.exit 2) (fS T_ref01_Number_1_0 [.c z0, .n z1, .i z2, .i z3, .i z4, .i z5, .i z6, .i z7, .i z8])) F (atC (nth q 0)) (atN (nth q 1)) (atI (nth q 2)) (atI (nth q 3)) (atI (nth q 4)) (atI (nth q 5)) (atI (nth q 6)) (atI (nth q 7)) (atI (nth q 8))⟩]
def I_ref01_Number (F : Nat) : Nat → VS → (Exit → VS → R) → R := tabI c_ref01_Number (W_ref01_Number F)
def WJ_ref01_Number (F : Nat) : List LJ := []
def J_ref01_Number (F : Nat) : Nat → Nat → VS → (Exit → VS → R) → R := tabJ (WJ_ref01_Number F)
theorem lL_ref01_Number_0 (F : Nat) (k : Exit → VS → R) : ∀ (n : Nat) (x0 : List VV) (x1 : Nat) (x2 : Int) (x3 : Int) (x4 : Int) (x5 : Int) (x6 : Int) (x7 : Int), iterC (codeL PP (S_ref01_Number F) c_ref01_Number (I_ref01_Number F) (J_ref01_Number F) (loopAt PP 106 0) 0) (headOf c_ref01_Number 0) k n (fS T_ref01_Number_0 [.c x0, .n x1, .i x2, .i x3, .i x4, .i x5, .i x6, .i x7]) = L_ref01_Number_0 F (fun (z0 : List VV) (z1 : Nat) (z2 : Int) (z3 : Int) (z4 : Int) (z5 : Int) (z6 : Int) (z7 : Int) => k (.exit 0) (fS T_ref01_Number_0_0 [.c z0, .n z1, .i z2, .i z3, .i z4, .i z5, .i z6, .i z7])) n x0 x1 x2 x3 x4 x5 x6 x7
  | 0, _, _, _, _, _, _, _, _ => rfl
  | n + 1, x0, x1, x2, x3, x4, x5, x6, x7 => by
    have h0 : ∀ (L_ref01_Number_0 : Nat → (List VV → Nat → Int → Int → Int → Int → Int → Int → R) → Nat → List VV → Nat → Int → Int → Int → Int → Int → Int → R) (L_ref01_Number_1 : Nat → (List VV → Nat → Int → Int → Int → Int → Int → Int → Int → R) → Nat → List VV → Nat → Int → Int → Int → Int → Int → Int → Int → R), iterC (codeL PP (words []) c_ref01_Number (tabI c_ref01_Number [⟨0, T_ref01_Number_0, fun k q => L_ref01_Number_0 F (fun (z0 : List VV) (z1 : Nat) (z2 : Int) (z3 : Int) (z4 : Int) (z5 : Int) (z6 : Int) (z7 : Int) => k (.exit 0) (fS T_ref01_Number_0_0 [.c z0, .n z1, .i z2, .i z3, .i z4, .i z5, .i z6, .i z7])) F (atC (nth q 0)) (atN (nth q 1)) (atI (nth q 2)) (atI (nth q 3)) (atI (nth q 4)) (atI (nth q 5)) (atI (nth q 6)) (atI (nth q 7))⟩, ⟨2, T_ref01_Number_1, fun k q => L_ref01_Number_1 F (fun (z0 : List VV) (z1 : Nat) (z2 : Int) (z3 : Int) (z4 : Int) (z5 : Int) (z6 : Int) (z7 : Int) (z8 : Int) => k (.exit 2) (fS T_ref01_Number_1_0 [.c z0, .n z1, .i z2, .i z3, .i z4, .i z5, .i z6, .i z7, .i z8])) F (atC (nth q 0)) (atN (nth q 1)) (atI (nth q 2)) (atI (nth q 3)) (atI (nth q 4)) (atI (nth q 5)) (atI (nth q 6)) (atI (nth q 7)) (atI (nth q 8))⟩]) (tabJ []) (loopAt PP 106 0) 0) (headOf c_ref01_Number 0) k (n + 1) (fS T_ref01_Number_0 [.c x0, .n x1, .i x2, .i x3, .i x4, .i x5, .i x6, .i x7]) = (fun (rc : List VV → Nat → Int → Int → Int → Int → Int → Int → R) (ex0 : List VV → Nat → Int → Int → Int → Int → Int → Int → R) (x0 : List VV) (x1 : Nat) (x2 : Int) (x3 : Int) (x4 : Int) (x5 : Int) (x6 : Int) (x7 : Int) => (
  bif ((decide (x5 < 64))) then (
    bif ((decide (x5 < (((x1 : Nat) : Int))))) then (
      bif ((decide (0 ≤ x5)) && (decide (x5 < ((x1 : Nat) : Int)))) then (
        let v186 : Nat := (0 + ((Int.toNat x5) * 1))
        bif ((isI .i64 x0[v186]?) && true) then (
          rc x0 x1 ((IntKind.wrap .u64 (x2 + ((IntKind.wrap .u64 (((IntKind.wrap .u64 ((iv x0[v186]?)))) * x4)))))) x3 ((IntKind.wrap .u64 (2 * x4))) ((IntKind.wrap .i64 (x5 + 1))) x6 x7)
        else (
          none))
      else (
        none))
    else (
      ex0 x0 x1 x2 x3 x4 x5 x6 x7))
  else (
    ex0 x0 x1 x2 x3 x4 x5 x6 x7) : R)) (fun (y0 : List VV) (y1 : Nat) (y2 : Int) (y3 : Int) (y4 : Int) (y5 : Int) (y6 : Int) (y7 : Int) => iterC (codeL PP (words []) c_ref01_Number (tabI c_ref01_Number [⟨0, T_ref01_Number_0, fun k q => L_ref01_Number_0 F (fun (z0 : List VV) (z1 : Nat) (z2 : Int) (z3 : Int) (z4 : Int) (z5 : Int) (z6 : Int) (z7 : Int) => k (.exit 0) (fS T_ref01_Number_0_0 [.c z0, .n z1, .i z2, .i z3, .i z4, .i z5, .i z6, .i z7])) F (atC (nth q 0)) (atN (nth q 1)) (atI (nth q 2)) (atI (nth q 3)) (atI (nth q 4)) (atI (nth q 5)) (atI (nth q 6)) (atI (nth q 7))⟩, ⟨2, T_ref01_Number_1, fun k q => L_ref01_Number_1 F (fun (z0 : List VV) (z1 : Nat) (z2 : Int) (z3 : Int) (z4 : Int) (z5 : Int) (z6 : Int) (z7 : Int) (z8 : Int) => k (.exit 2) (fS T_ref01_Number_1_0 [.c z0, .n z1, .i z2, .i z3, .i z4, .i z5, .i z6, .i z7, .i z8])) F (atC (nth q 0)) (atN (nth q 1)) (atI (nth q 2)) (atI (nth q 3)) (atI (nth q 4)) (atI (nth q 5)) (atI (nth q 6)) (atI (nth q 7)) (atI (nth q 8))⟩]) (tabJ []) (loopAt PP 106 0) 0) (headOf c_ref01_Number 0) k n (fS T_ref01_Number_0 [.c y0, .n y1, .i y2, .i y3, .i y4, .i y5, .i y6, .i y7])) (fun (z0 : List VV) (z1 : Nat) (z2 : Int) (z3 : Int) (z4 : Int) (z5 : Int) (z6 : Int) (z7 : Int) => k (.exit 0) (fS T_ref01_Number_0_0 [.c z0, .n z1, .i z2, .i z3, .i z4, .i z5, .i z6, .i z7])) x0 x1 x2 x3 x4 x5 x6 x7 := by
      intros
      kernel_rfl
    have h : iterC (codeL PP (S_ref01_Number F) c_ref01_Number (I_ref01_Number F) (J_ref01_Number F) (loopAt PP 106 0) 0) (headOf c_ref01_Number 0) k (n + 1) (fS T_ref01_Number_0 [.c x0, .n x1, .i x2, .i x3, .i x4, .i x5, .i x6, .i x7]) = B_ref01_Number_0 F (fun (y0 : List VV) (y1 : Nat) (y2 : Int) (y3 : Int) (y4 : Int) (y5 : Int) (y6 : Int) (y7 : Int) => iterC (codeL PP (S_ref01_Number F) c_ref01_Number (I_ref01_Number F) (J_ref01_Number F) (loopAt PP 106 0) 0) (headOf c_ref01_Number 0) k n (fS T_ref01_Number_0 [.c y0, .n y1, .i y2, .i y3, .i y4, .i y5, .i y6, .i y7])) (fun (z0 : List VV) (z1 : Nat) (z2 : Int) (z3 : Int) (z4 : Int) (z5 : Int) (z6 : Int) (z7 : Int) => k (.exit 0) (fS T_ref01_Number_0_0 [.c z0, .n z1, .i z2, .i z3, .i z4, .i z5, .i z6, .i z7])) x0 x1 x2 x3 x4 x5 x6 x7 := (h0 L_ref01_Number_0 L_ref01_Number_1).trans (by kernel_rfl)
    rw [h]
    simp only [lL_ref01_Number_0 F k n]
    rfl
theorem lL_ref01_Number_1 (F : Nat) (k : Exit → VS → R) : ∀ (n : Nat) (x0 : List VV) (x1 : Nat) (x2 : Int) (x3 : Int) (x4 : Int) (x5 : Int) (x6 : Int) (x7 : Int) (x8 : Int), iterC (codeL PP (S_ref01_Number F) c_ref01_Number (I_ref01_Number F) (J_ref01_Number F) (loopAt PP 106 1) 2) (headOf c_ref01_Number 2) k n (fS T_ref01_Number_1 [.c x0, .n x1, .i x2, .i x3, .i x4, .i x5, .i x6, .i x7, .i x8]) = L_ref01_Number_1 F (fun (z0 : List VV) (z1 : Nat) (z2 : Int) (z3 : Int) (z4 : Int) (z5 : Int) (z6 : Int) (z7 : Int) (z8 : Int) => k (.exit 2) (fS T_ref01_Number_1_0 [.c z0, .n z1, .i z2, .i z3, .i z4, .i z5, .i z6, .i z7, .i z8])) n x0 x1 x2 x3 x4 x5 x6 x7 x8
  | 0, _, _, _, _, _, _, _, _, _ => rfl
  | n + 1, x0, x1, x2, x3, x4, x5, x6, x7, x8 => by
    have h0 : ∀ (L_ref01_Number_0 : Nat → (List VV → Nat → Int → Int → Int → Int → Int → Int → R) → Nat → List VV → Nat → Int → Int → Int → Int → Int → Int → R) (L_ref01_Number_1 : Nat → (List VV → Nat → Int → Int → Int → Int → Int → Int → Int → R) → Nat → List VV → Nat → Int → Int → Int → Int → Int → Int → Int → R), iterC (codeL PP (words []) c_ref01_Number (tabI c_ref01_Number [⟨0, T_ref01_Number_0, fun k q => L_ref01_Number_0 F (fun (z0 : List VV) (z1 : Nat) (z2 : Int) (z3 : Int) (z4 : Int) (z5 : Int) (z6 : Int) (z7 : Int) => k (.exit 0) (fS T_ref01_Number_0_0 [.c z0, .n z1, .i z2, .i z3, .i z4, .i z5, .i z6, .i z7])) F (atC (nth q 0)) (atN (nth q 1)) (atI (nth q 2)) (atI (nth q 3)) (atI (nth q 4)) (atI (nth q 5)) (atI (nth q 6)) (atI (nth q 7))⟩, ⟨2, T_ref01_Number_1, fun k q => L_ref01_Number_1 F (fun (z0 : List VV) (z1 : Nat) (z2 : Int) (z3 : Int) (z4 : Int) (z5 : Int) (z6 : Int) (z7 : Int) (z8 : Int) => k (.exit 2) (fS T_ref01_Number_1_0 [.c z0, .n z1, .i z2, .i z3, .i z4, .i z5, .i z6, .i z7, .i z8])) F (atC (nth q 0)) (atN (nth q 1)) (atI (nth q 2)) (atI (nth q 3)) (atI (nth q 4)) (atI (nth q 5)) (atI (nth q 6)) (atI (nth q 7)) (atI (nth q 8))⟩]) (tabJ []) (loopAt PP 106 1) 2) (headOf c_ref01_Number 2) k (n + 1) (fS T_ref01_Number_1 [.c x0, .n x1, .i x2, .i x3, .i x4, .i x5, .i x6, .i x7, .i x8]) = (fun (rc : List VV → Nat → Int → Int → Int → Int → Int → Int → Int → R) (ex0 : List VV → Nat → Int → Int → Int → Int → Int → Int → Int → R) (x0 : List VV) (x1 : Nat) (x2 : Int) (x3 : Int) (x4 : Int) (x5 : Int) (x6 : Int) (x7 : Int) (x8 : Int) => (
  bif ((decide (x6 < 128))) then (
    bif ((decide (x6 < (((x1 : Nat) : Int))))) then (
      bif ((decide (0 ≤ x6)) && (decide (x6 < ((x1 : Nat) : Int)))) then (
        let v213 : Nat := (0 + ((Int.toNat x6) * 1))
        bif ((isI .i64 x0[v213]?) && true) then (
          rc x0 x1 x2 ((IntKind.wrap .u64 (x3 + ((IntKind.wrap .u64 (((IntKind.wrap .u64 ((iv x0[v213]?)))) * x4)))))) ((IntKind.wrap .u64 (2 * x4))) x5 ((IntKind.wrap .i64 (x6 + 1))) x7 x8)
        else (
          none))
      else (
        none))
    else (
      ex0 x0 x1 x2 x3 x4 x5 x6 x7 x8))
  else (
    ex0 x0 x1 x2 x3 x4 x5 x6 x7 x8) : R)) (fun (y0 : List VV) (y1 : Nat) (y2 : Int) (y3 : Int) (y4 : Int) (y5 : Int) (y6 : Int) (y7 : Int) (y8 : Int) => iterC (codeL PP (words []) c_ref01_Number (tabI c_ref01_Number [⟨0, T_ref01_Number_0, fun k q => L_ref01_Number_0 F (fun (z0 : List VV) (z1 : Nat) (z2 : Int) (z3 : Int) (z4 : Int) (z5 : Int) (z6 : Int) (z7 : Int) => k (.exit 0) (fS T_ref01_Number_0_0 [.c z0, .n z1, .i z2, .i z3, .i z4, .i z5, .i z6, .i z7])) F (atC (nth q 0)) (atN (nth q 1)) (atI (nth q 2)) (atI (nth q 3)) (atI (nth q 4)) (atI (nth q 5)) (atI (nth q 6)) (atI (nth q 7))⟩, ⟨2, T_ref01_Number_1, fun k q => L_ref01_Number_1 F (fun (z0 : List VV) (z1 : Nat) (z2 : Int) (z3 : Int) (z4 : Int) (z5 : Int) (z6 : Int) (z7 : Int) (z8 : Int) => k (.exit 2) (fS T_ref01_Number_1_0 [.c z0, .n z1, .i z2, .i z3, .i z4, .i z5, .i z6, .i z7, .i z8])) F (atC (nth q 0)) (atN (nth q 1)) (atI (nth q 2)) (atI (nth q 3)) (atI (nth q 4)) (atI (nth q 5)) (atI (nth q 6)) (atI (nth q 7)) (atI (nth q 8))⟩]) (tabJ []) (loopAt PP 106 1) 2) (headOf c_ref01_Number 2) k n (fS T_ref01_Number_1 [.c y0, .n y1, .i y2, .i y3, .i y4, .i y5, .i y6, .i y7, .i y8])) (fun (z0 : List VV) (z1 : Nat) (z2 : Int) (z3 : Int) (z4 : Int) (z5 : Int) (z6 : Int) (z7 : Int) (z8 : Int) => k (.exit 2) (fS T_ref01_Number_1_0 [.c z0, .n z1, .i z2, .i z3, .i z4, .i z5, .i z6, .i z7, .i z8])) x0 x1 x2 x3 x4 x5 x6 x7 x8 := by
      intros
      kernel_rfl
    have h : iterC (codeL PP (S_ref01_Number F) c_ref01_Number (I_ref01_Number F) (J_ref01_Number F) (loopAt PP 106 1) 2) (headOf c_ref01_Number 2) k (n + 1) (fS T_ref01_Number_1 [.c x0, .n x1, .i x2, .i x3, .i x4, .i x5, .i x6, .i x7, .i x8]) = B_ref01_Number_1 F (fun (y0 : List VV) (y1 : Nat) (y2 : Int) (y3 : Int) (y4 : Int) (y5 : Int) (y6 : Int) (y7 : Int) (y8 : Int) => iterC (codeL PP (S_ref01_Number F) c_ref01_Number (I_ref01_Number F) (J_ref01_Number F) (loopAt PP 106 1) 2) (headOf c_ref01_Number 2) k n (fS T_ref01_Number_1 [.c y0, .n y1, .i y2, .i y3, .i y4, .i y5, .i y6, .i y7, .i y8])) (fun (z0 : List VV) (z1 : Nat) (z2 : Int) (z3 : Int) (z4 : Int) (z5 : Int) (z6 : Int) (z7 : Int) (z8 : Int) => k (.exit 2) (fS T_ref01_Number_1_0 [.c z0, .n z1, .i z2, .i z3, .i z4, .i z5, .i z6, .i z7, .i z8])) x0 x1 x2 x3 x4 x5 x6 x7 x8 := (h0 L_ref01_Number_0 L_ref01_Number_1).trans (by kernel_rfl)
    rw [h]
    simp only [lL_ref01_Number_1 F k n]
    rfl
def f_ref01_Number (F : Nat) (a0 : List VV) (a1 : Nat) : R :=
  L_ref01_Number_0 F (fun (v193 : List VV) (v194 : Nat) (v195 : Int) (v196 : Int) (v197 : Int) (v198 : Int) (v199 : Int) (v200 : Int) =>
    L_ref01_Number_1 F (fun (v220 : List VV) (v221 : Nat) (v222 : Int) (v223 : Int) (v224 : Int) (v225 : Int) (v226 : Int) (v227 : Int) (v228 : Int) =>
      some (.v (.agg #[.int .i64 ((IntKind.wrap .i64 v223)), .int .u64 v222]))) F v193 v194 v195 v196 1 v198 64 v199 v200) F a0 a1 0 0 1 0 0 0
theorem e_ref01_Number (F : Nat) (a0 : List VV) (a1 : Nat) : funL PP (S_ref01_Number F) c_ref01_Number (I_ref01_Number F) (J_ref01_Number F) 106 (fTs ti_ref01_Number [.c a0, .n a1]).1 = f_ref01_Number F a0 a1 := by
  have h : ∀ (L_ref01_Number_0 : Nat → (List VV → Nat → Int → Int → Int → Int → Int → Int → R) → Nat → List VV → Nat → Int → Int → Int → Int → Int → Int → R) (L_ref01_Number_1 : Nat → (List VV → Nat → Int → Int → Int → Int → Int → Int → Int → R) → Nat → List VV → Nat → Int → Int → Int → Int → Int → Int → Int → R), funL PP (words []) c_ref01_Number (tabI c_ref01_Number [⟨0, T_ref01_Number_0, fun k q => L_ref01_Number_0 F (fun (z0 : List VV) (z1 : Nat) (z2 : Int) (z3 : Int) (z4 : Int) (z5 : Int) (z6 : Int) (z7 : Int) => k (.exit 0) (fS T_ref01_Number_0_0 [.c z0, .n z1, .i z2, .i z3, .i z4, .i z5, .i z6, .i z7])) F (atC (nth q 0)) (atN (nth q 1)) (atI (nth q 2)) (atI (nth q 3)) (atI (nth q 4)) (atI (nth q 5)) (atI (nth q 6)) (atI (nth q 7))⟩, ⟨2, T_ref01_Number_1, fun k q => L_ref01_Number_1 F (fun (z0 : List VV) (z1 : Nat) (z2 : Int) (z3 : Int) (z4 : Int) (z5 : Int) (z6 : Int) (z7 : Int) (z8 : Int) => k (.exit 2) (fS T_ref01_Number_1_0 [.c z0, .n z1, .i z2, .i z3, .i z4, .i z5, .i z6, .i z7, .i z8])) F (atC (nth q 0)) (atN (nth q 1)) (atI (nth q 2)) (atI (nth q 3)) (atI (nth q 4)) (atI (nth q 5)) (atI (nth q 6)) (atI (nth q 7)) (atI (nth q 8))⟩]) (tabJ []) 106 (fTs ti_ref01_Number [.c a0, .n a1]).1 = (
  L_ref01_Number_0 F (fun (v193 : List VV) (v194 : Nat) (v195 : Int) (v196 : Int) (v197 : Int) (v198 : Int) (v199 : Int) (v200 : Int) =>
    L_ref01_Number_1 F (fun (v220 : List VV) (v221 : Nat) (v222 : Int) (v223 : Int) (v224 : Int) (v225 : Int) (v226 : Int) (v227 : Int) (v228 : Int) =>
      some (.v (.agg #[.int .i64 ((IntKind.wrap .i64 v223)), .int .u64 v222]))) F v193 v194 v195 v196 1 v198 64 v199 v200) F a0 a1 0 0 1 0 0 0 : R) := by
    intros
    kernel_rfl
  exact (h L_ref01_Number_0 L_ref01_Number_1).trans (by kernel_rfl)
def ok_ref01_Number (F : Nat) (a0 : List VV) (a1 : Nat) : Bool := okT to_ref01_Number (f_ref01_Number F a0 a1)
def o_ref01_Number_0 (F : Nat) (a0 : List VV) (a1 : Nat) : Int := atI (nth (outT to_ref01_Number (f_ref01_Number F a0 a1)) 0)
def o_ref01_Number_1 (F : Nat) (a0 : List VV) (a1 : Nat) : Int := atI (nth (outT to_ref01_Number (f_ref01_Number F a0 a1)) 1)
theorem k_ref01_Number (F : Nat) (a0 : List VV) (a1 : Nat) {z0 : Int} {z1 : Int} (h : f_ref01_Number F a0 a1 = some (.v (.agg #[.int .i64 z0, .int .u64 z1]))) : ok_ref01_Number F a0 a1 = true ∧ o_ref01_Number_0 F a0 a1 = z0 ∧ o_ref01_Number_1 F a0 a1 = z1 := by
  refine ⟨?_, ?_, ?_⟩
  · unfold ok_ref01_Number; rw [h]; kernel_rfl
  · unfold o_ref01_Number_0; rw [h]; kernel_rfl
  · unfold o_ref01_Number_1; rw [h]; kernel_rfl
def s_ref01_Number (F : Nat) : List VV → Option (Bool × VV) := spec ti_ref01_Number to_ref01_Number (fun q => (ok_ref01_Number F (atC (nth q 0)) (atN (nth q 1)))) (fun q => [.i (o_ref01_Number_0 F (atC (nth q 0)) (atN (nth q 1))), .i (o_ref01_Number_1 F (atC (nth q 0)) (atN (nth q 1)))])
theorem hS_ref01_Number (F : Nat) : ∀ f, Good PP f (unS (S_ref01_Number F f)) := words_good fun p hp => by
  cases hp
theorem hl_ref01_Number (F : Nat) : ∀ p ∈ loopsIn PP 106, LoopOK PP (S_ref01_Number F) c_ref01_Number F (I_ref01_Number F) (J_ref01_Number F) p :=
  loops_of [(0, loopAt PP 106 0), (2, loopAt PP 106 1)] (by kernel_rfl) (all_cons
    (loop_ok (W_ref01_Number F) rfl (tab_cons (fun _ k q => Le.ofEq ((lL_ref01_Number_0 F k F (atC (nth q 0)) (atN (nth q 1)) (atI (nth q 2)) (atI (nth q 3)) (atI (nth q 4)) (atI (nth q 5)) (atI (nth q 6)) (atI (nth q 7))).symm.trans (congrArg (iterC (codeL PP (S_ref01_Number F) c_ref01_Number (I_ref01_Number F) (J_ref01_Number F) (loopAt PP 106 0) 0) (headOf c_ref01_Number 0) k F) (show fS T_ref01_Number_0 [.c (atC (nth q 0)), .n (atN (nth q 1)), .i (atI (nth q 2)), .i (atI (nth q 3)), .i (atI (nth q 4)), .i (atI (nth q 5)), .i (atI (nth q 6)), .i (atI (nth q 7))] = fS T_ref01_Number_0 q by kernel_rfl)))) (tab_cons (fun h => absurd h (by decide)) tab_nil))) (all_cons
    (loop_ok (W_ref01_Number F) rfl (tab_cons (fun h => absurd h (by decide)) (tab_cons (fun _ k q => Le.ofEq ((lL_ref01_Number_1 F k F (atC (nth q 0)) (atN (nth q 1)) (atI (nth q 2)) (atI (nth q 3)) (atI (nth q 4)) (atI (nth q 5)) (atI (nth q 6)) (atI (nth q 7)) (atI (nth q 8))).symm.trans (congrArg (iterC (codeL PP (S_ref01_Number F) c_ref01_Number (I_ref01_Number F) (J_ref01_Number F) (loopAt PP 106 1) 2) (headOf c_ref01_Number 2) k F) (show fS T_ref01_Number_1 [.c (atC (nth q 0)), .n (atN (nth q 1)), .i (atI (nth q 2)), .i (atI (nth q 3)), .i (atI (nth q 4)), .i (atI (nth q 5)), .i (atI (nth q 6)), .i (atI (nth q 7)), .i (atI (nth q 8))] = fS T_ref01_Number_1 q by kernel_rfl)))) tab_nil))) all_nil))
theorem hj_ref01_Number (F : Nat) : ∀ p ∈ joinsIn PP c_ref01_Number 106, JoinOK PP (S_ref01_Number F) c_ref01_Number (I_ref01_Number F) (J_ref01_Number F) p :=
  joins_of [] (by kernel_rfl) all_nil
theorem g_ref01_Number (F : Nat) : Good PP 106 (unS (s_ref01_Number F)) :=
  fun_spec (hS_ref01_Number F) (by kernel_rfl) (by kernel_rfl) (C := c_ref01_Number) (F := fun q => (f_ref01_Number F (atC (nth q 0)) (atN (nth q 1)))) (fun _ => F) (fun _ => I_ref01_Number F) (fun _ => J_ref01_Number F) (fun _ => hl_ref01_Number F) (fun _ => hj_ref01_Number F)
    (fun q => (congrArg (funL PP (S_ref01_Number F) c_ref01_Number (I_ref01_Number F) (J_ref01_Number F) 106) (show (fTs ti_ref01_Number q).1 = (fTs ti_ref01_Number [.c (atC (nth q 0)), .n (atN (nth q 1))]).1 by kernel_rfl)).trans (e_ref01_Number F (atC (nth q 0)) (atN (nth q 1))))
    (fun _ h => (okT_fill h).trans (congrArg some (by kernel_rfl)))

end Go.Xv
set_option linter.unusedVariables false
namespace Go.Xv
/- 51 _ref01_Add -/
def c_ref01_Add : Cfg := ⟨[0, 1, 2, 3, 4, 5, 6, 7, 8, 9, 10, 17], [(0, [0, 1, 2, 3, 4, 5, 6, 7, 8, 9, 11, 12, 13, 14, 15, 38, 39])], [34], []⟩
def ti_ref01_Add : List TV := [.v (.agg [.int .i64, .int .u64]), .v (.agg [.int .i64, .int .u64])]
def to_ref01_Add : TV := .v (.agg [.int .i64, .int .u64])
def S_ref01_Add (F : Nat) : FuncId → List VV → Option (Bool × VV) := words [(105, s_ref01_Digits F), (106, s_ref01_Number F)]
def T_ref01_Add_0 : TS := ⟨[(0, .v (.agg [.int .i64, .int .u64])), (1, .v (.agg [.int .i64, .int .u64])), (2, .lp 0 (.lit 0)), (3, .lp 1 (.lit 0)), (4, .lp 2 (.lit 0)), (5, .ls 3 (.lit 0) .hole 1), (6, .ls 4 (.lit 0) .hole 1), (7, .ls 5 (.lit 0) .hole 1), (8, .v (.int .i64)), (9, .v (.int .i64))], [(0, ⟨(.ex [.v (.int .i64), .v (.int .u64)]), true⟩), (1, ⟨(.ex [.v (.int .i64), .v (.int .u64)]), true⟩), (2, ⟨(.ex [.v (.int .i64), .v (.int .u64)]), true⟩), (3, ⟨.hole, true⟩), (4, ⟨.hole, true⟩), (5, ⟨.hole, true⟩)], 6⟩
def T_ref01_Add_0_0 : TS := ⟨[(0, .v (.agg [.int .i64, .int .u64])), (1, .v (.agg [.int .i64, .int .u64])), (2, .lp 0 (.lit 0)), (3, .lp 1 (.lit 0)), (4, .lp 2 (.lit 0)), (5, .ls 3 (.lit 0) .hole 1), (6, .ls 4 (.lit 0) .hole 1), (7, .ls 5 (.lit 0) .hole 1), (8, .v (.int .i64)), (9, .v (.int .i64))], [(0, ⟨(.ex [.v (.int .i64), .v (.int .u64)]), true⟩), (1, ⟨(.ex [.v (.int .i64), .v (.int .u64)]), true⟩), (2, ⟨(.ex [.v (.int .i64), .v (.int .u64)]), true⟩), (3, ⟨.hole, true⟩), (4, ⟨.hole, true⟩), (5, ⟨.hole, true⟩)], 6⟩
def B_ref01_Add_0 (F : Nat) (rc : Int → Int → Int → Int → Nat → Nat → Nat → Int → Int → Int → Int → Int → Int → Int → Int → List VV → List VV → List VV → R) (ex0 : Int → Int → Int → Int → Nat → Nat → Nat → Int → Int → Int → Int → Int → Int → Int → Int → List VV → List VV → List VV → R) (x0 : Int) (x1 : Int) (x2 : Int) (x3 : Int) (x4 : Nat) (x5 : Nat) (x6 : Nat) (x7 : Int) (x8 : Int) (x9 : Int) (x10 : Int) (x11 : Int) (x12 : Int) (x13 : Int) (x14 : Int) (x15 : List VV) (x16 : List VV) (x17 : List VV) : R :=
  bif ((decide (x8 < 128))) then (
    bif ((decide (0 ≤ x8)) && (decide (x8 < ((x4 : Nat) : Int)))) then (
      let v146 : Nat := (0 + ((Int.toNat x8) * 1))
      bif ((isI .i64 x15[v146]?) && true) then (
        bif ((decide (0 ≤ x8)) && (decide (x8 < ((x5 : Nat) : Int)))) then (
          let v148 : Nat := (0 + ((Int.toNat x8) * 1))
          bif ((isI .i64 x16[v148]?) && true) then (
            let v151 : Int := (IntKind.wrap .i64 (((IntKind.wrap .i64 (((iv x15[v146]?)) + ((iv x16[v148]?))))) + x7))
            bif (((decide ((0 + (x6 * 1)) ≤ x17.length)) && true) && (decide ((x6 + 1) * 9 ≤ bigger))) then (
              rc x0 x1 x2 x3 x4 x5 ((x6 + 1)) ((IntKind.wrap .i64 (Int.tdiv v151 2))) ((IntKind.wrap .i64 (x8 + 1))) x9 x10 x11 x12 x13 x14 x15 x16 ((((x17.drop 0).take (x6 * 1)) ++ [.v (.int .i64 ((Int.tmod v151 2)))])))
            else (
              none))
          else (
            none))
        else (
          none))
      else (
        none))
    else (
      none))
  else (
    ex0 x0 x1 x2 x3 x4 x5 x6 x7 x8 x9 x10 x11 x12 x13 x14 x15 x16 x17)
def L_ref01_Add_0 (F : Nat) (ex0 : Int → Int → Int → Int → Nat → Nat → Nat → Int → Int → Int → Int → Int → Int → Int → Int → List VV → List VV → List VV → R) : Nat → Int → Int → Int → Int → Nat → Nat → Nat → Int → Int → Int → Int → Int → Int → Int → Int → List VV → List VV → List VV → R
  | 0, _, _, _, _, _, _, _, _, _, _, _, _, _, _, _, _, _, _ => none
  | n + 1, x0, x1, x2, x3, x4, x5, x6, x7, x8, x9, x10, x11, x12, x13, x14, x15, x16, x17 => B_ref01_Add_0 F (L_ref01_Add_0 F ex0 n) ex0 x0 x1 x2 x3 x4 x5 x6 x7 x8 x9 x10 x11 x12 x13 x14 x15 x16 x17
def W_ref01_Add (F : Nat) : List LW := [⟨0, T_ref01_Add_0, fun k q => L_ref01_Add_0 F (fun (z0 : Int) (z1 : Int) (z2 : Int) (z3 : Int) (z4 : Nat) (z5 : Nat) (z6 : Nat) (z7 : Int) (z8 : Int) (z9 : Int) (z10 : Int) (z11 : Int) (z12 : Int) (z13 : Int) (z14 : Int) (z15 : List VV) (z16 : List VV) (z17 : List VV) => k (.exit 0) (fS T_ref01_Add_0_0 [.i z0, .i z1, .i z2, .i z3, .n z4, .n z5, .n z6, .i z7, .i z8, .i z9, .i z10, .i z11, .i z12, .i z13, .i z14, .c z15, .c z16, .c z17])) F (atI (nth q 0)) (atI (nth q 1)) (atI (nth q 2)) (atI (nth q 3)) (atN (nth q 4)) (atN (nth q 5)) (atN (nth q 6)) (atI (nth q 7)) (atI (nth q 8)) (atI (nth q 9)) (atI (nth q 10)) (atI (nth q 11)) (atI (nth q 12)) (atI (nth q 13)) (atI (nth q 14)) (atC (nth q 15)) (atC (nth q 16)) (atC (nth q 17))⟩]
def I_ref01_Add (F : Nat) : Nat → VS → (Exit → VS → R) → R := tabI c_ref01_Add (W_ref01_Add F)
def WJ_ref01_Add (F : Nat) : List LJ := []
def J_ref01_Add (F : Nat) : Nat → Nat → VS → (Exit → VS → R) → R := tabJ (WJ_ref01_Add F)
theorem lL_ref01_Add_0 (F : Nat) (k : Exit → VS → R) : ∀ (n : Nat) (x0 : Int) (x1 : Int) (x2 : Int) (x3 : Int) (x4 : Nat) (x5 : Nat) (x6 : Nat) (x7 : Int) (x8 : Int) (x9 : Int) (x10 : Int) (x11 : Int) (x12 : Int) (x13 : Int) (x14 : Int) (x15 : List VV) (x16 : List VV) (x17 : List VV), iterC (codeL PP (S_ref01_Add F) c_ref01_Add (I_ref01_Add F) (J_ref01_Add F) (loopAt PP 51 0) 0) (headOf c_ref01_Add 0) k n (fS T_ref01_Add_0 [.i x0, .i x1, .i x2, .i x3, .n x4, .n x5, .n x6, .i x7, .i x8, .i x9, .i x10, .i x11, .i x12, .i x13, .i x14, .c x15, .c x16, .c x17]) = L_ref01_Add_0 F (fun (z0 : Int) (z1 : Int) (z2 : Int) (z3 : Int) (z4 : Nat) (z5 : Nat) (z6 : Nat) (z7 : Int) (z8 : Int) (z9 : Int) (z10 : Int) (z11 : Int) (z12 : Int) (z13 : Int) (z14 : Int) (z15 : List VV) (z16 : List VV) (z17 : List VV) => k (.exit 0) (fS T_ref01_Add_0_0 [.i z0, .i z1, .i z2, .i z3, .n z4, .n z5, .n z6, .i z7, .i z8, .i z9, .i z10, .i z11, .i z12, .i z13, .i z14, .c z15, .c z16, .c z17])) n x0 x1 x2 x3 x4 x5 x6 x7 x8 x9 x10 x11 x12 x13 x14 x15 x16 x17
  | 0, _, _, _, _, _, _, _, _, _, _, _, _, _, _, _, _, _, _ => rfl
  | n + 1, x0, x1, x2, x3, x4, x5, x6, x7, x8, x9, x10, x11, x12, x13, x14, x15, x16, x17 => by
    have h0 : ∀ (ok_ref01_Digits : Nat → Int → Int → Bool) (o_ref01_Digits_0 : Nat → Int → Int → List VV) (o_ref01_Digits_1 : Nat → Int → Int → Nat) (ok_ref01_Number : Nat → List VV → Nat → Bool) (o_ref01_Number_0 : Nat → List VV → Nat → Int) (o_ref01_Number_1 : Nat → List VV → Nat → Int) (L_ref01_Add_0 : Nat → (Int → Int → Int → Int → Nat → Nat → Nat → Int → Int → Int → Int → Int → Int → Int → Int → List VV → List VV → List VV → R) → Nat → Int → Int → Int → Int → Nat → Nat → Nat → Int → Int → Int → Int → Int → Int → Int → Int → List VV → List VV → List VV → R), iterC (codeL PP (words [(105, spec ti_ref01_Digits to_ref01_Digits (fun q => (ok_ref01_Digits F (atI (nth q 0)) (atI (nth q 1)))) (fun q => [.c (o_ref01_Digits_0 F (atI (nth q 0)) (atI (nth q 1))), .n (o_ref01_Digits_1 F (atI (nth q 0)) (atI (nth q 1)))])), (106, spec ti_ref01_Number to_ref01_Number (fun q => (ok_ref01_Number F (atC (nth q 0)) (atN (nth q 1)))) (fun q => [.i (o_ref01_Number_0 F (atC (nth q 0)) (atN (nth q 1))), .i (o_ref01_Number_1 F (atC (nth q 0)) (atN (nth q 1)))]))]) c_ref01_Add (tabI c_ref01_Add [⟨0, T_ref01_Add_0, fun k q => L_ref01_Add_0 F (fun (z0 : Int) (z1 : Int) (z2 : Int) (z3 : Int) (z4 : Nat) (z5 : Nat) (z6 : Nat) (z7 : Int) (z8 : Int) (z9 : Int) (z10 : Int) (z11 : Int) (z12 : Int) (z13 : Int) (z14 : Int) (z15 : List VV) (z16 : List VV) (z17 : List VV) => k (.exit 0) (fS T_ref01_Add_0_0 [.i z0, .i z1, .i z2, .i z3, .n z4, .n z5, .n z6, .i z7, .i z8, .i z9, .i z10, .i z11, .i z12, .i z13, .i z14, .c z15, .c z16, .c z17])) F (atI (nth q 0)) (atI (nth q 1)) (atI (nth q 2)) (atI (nth q 3)) (atN (nth q 4)) (atN (nth q 5)) (atN (nth q 6)) (atI (nth q 7)) (atI (nth q 8)) (atI (nth q 9)) (atI (nth q 10)) (atI (nth q 11)) (atI (nth q 12)) (atI (nth q 13)) (atI (nth q 14)) (atC (nth q 15)) (atC (nth q 16)) (atC (nth q 17))⟩]) (tabJ []) (loopAt PP 51 0) 0) (headOf c_ref01_Add 0) k (n + 1) (fS T_ref01_Add_0 [.i x0, .i x1, .i x2, .i x3, .n x4, .n x5, .n x6, .i x7, .i x8, .i x9, .i x10, .i x11, .i x12, .i x13, .i x14, .c x15, .c x16, .c x17]) = (fun (rc : Int → Int → Int → Int → Nat → Nat → Nat → Int → Int → Int → Int → Int → Int → Int → Int → List VV → List VV → List VV → R) (ex0 : Int → Int → Int → Int → Nat → Nat → Nat → Int → Int → Int → Int → Int → Int → Int → Int → List VV → List VV → List VV → R) (x0 : Int) (x1 : Int) (x2 : Int) (x3 : Int) (x4 : Nat) (x5 : Nat) (x6 : Nat) (x7 : Int) (x8 : Int) (x9 : Int) (x10 : Int) (x11 : Int) (x12 : Int) (x13 : Int) (x14 : Int) (x15 : List VV) (x16 : List VV) (x17 : List VV) => (
  bif ((decide (x8 < 128))) then (
    bif ((decide (0 ≤ x8)) && (decide (x8 < ((x4 : Nat) : Int)))) then (
      let v146 : Nat := (0 + ((Int.toNat x8) * 1))
      bif ((isI .i64 x15[v146]?) && true) then (
        bif ((decide (0 ≤ x8)) && (decide (x8 < ((x5 : Nat) : Int)))) then (
          let v148 : Nat := (0 + ((Int.toNat x8) * 1))
          bif ((isI .i64 x16[v148]?) && true) then (
            let v151 : Int := (IntKind.wrap .i64 (((IntKind.wrap .i64 (((iv x15[v146]?)) + ((iv x16[v148]?))))) + x7))
            bif (((decide ((0 + (x6 * 1)) ≤ x17.length)) && true) && (decide ((x6 + 1) * 9 ≤ bigger))) then (
              rc x0 x1 x2 x3 x4 x5 ((x6 + 1)) ((IntKind.wrap .i64 (Int.tdiv v151 2))) ((IntKind.wrap .i64 (x8 + 1))) x9 x10 x11 x12 x13 x14 x15 x16 ((((x17.drop 0).take (x6 * 1)) ++ [.v (.int .i64 ((Int.tmod v151 2)))])))
            else (
              none))
          else (
            none))
        else (
          none))
      else (
        none))
    else (
      none))
  else (
    ex0 x0 x1 x2 x3 x4 x5 x6 x7 x8 x9 x10 x11 x12 x13 x14 x15 x16 x17) : R)) (fun (y0 : Int) (y1 : Int) (y2 : Int) (y3 : Int) (y4 : Nat) (y5 : Nat) (y6 : Nat) (y7 : Int) (y8 : Int) (y9 : Int) (y10 : Int) (y11 : Int) (y12 : Int) (y13 : Int) (y14 : Int) (y15 : List VV) (y16 : List VV) (y17 : List VV) => iterC (codeL PP (words [(105, spec ti_ref01_Digits to_ref01_Digits (fun q => (ok_ref01_Digits F (atI (nth q 0)) (atI (nth q 1)))) (fun q => [.c (o_ref01_Digits_0 F (atI (nth q 0)) (atI (nth q 1))), .n (o_ref01_Digits_1 F (atI (nth q 0)) (atI (nth q 1)))])), (106, spec ti_ref01_Number to_ref01_Number (fun q => (ok_ref01_Number F (atC (nth q 0)) (atN (nth q 1)))) (fun q => [.i (o_ref01_Number_0 F (atC (nth q 0)) (atN (nth q 1))), .i (o_ref01_Number_1 F (atC (nth q 0)) (atN (nth q 1)))]))]) c_ref01_Add (tabI c_ref01_Add [⟨0, T_ref01_Add_0, fun k q => L_ref01_Add_0 F (fun (z0 : Int) (z1 : Int) (z2 : Int) (z3 : Int) (z4 : Nat) (z5 : Nat) (z6 : Nat) (z7 : Int) (z8 : Int) (z9 : Int) (z10 : Int) (z11 : Int) (z12 : Int) (z13 : Int) (z14 : Int) (z15 : List VV) (z16 : List VV) (z17 : List VV) => k (.exit 0) (fS T_ref01_Add_0_0 [.i z0, .i z1, .i z2, .i z3, .n z4, .n z5, .n z6, .i z7, .i z8, .i z9, .i z10, .i z11, .i z12, .i z13, .i z14, .c z15, .c z16, .c z17])) F (atI (nth q 0)) (atI (nth q 1)) (atI (nth q 2)) (atI (nth q 3)) (atN (nth q 4)) (atN (nth q 5)) (atN (nth q 6)) (atI (nth q 7)) (atI (nth q 8)) (atI (nth q 9)) (atI (nth q 10)) (atI (nth q 11)) (atI (nth q 12)) (atI (nth q 13)) (atI (nth q 14)) (atC (nth q 15)) (atC (nth q 16)) (atC (nth q 17))⟩]) (tabJ []) (loopAt PP 51 0) 0) (headOf c_ref01_Add 0) k n (fS T_ref01_Add_0 [.i y0, .i y1, .i y2, .i y3, .n y4, .n y5, .n y6, .i y7, .i y8, .i y9, .i y10, .i y11, .i y12, .i y13, .i y14, .c y15, .c y16, .c y17])) (fun (z0 : Int) (z1 : Int) (z2 : Int) (z3 : Int) (z4 : Nat) (z5 : Nat) (z6 : Nat) (z7 : Int) (z8 : Int) (z9 : Int) (z10 : Int) (z11 : Int) (z12 : Int) (z13 : Int) (z14 : Int) (z15 : List VV) (z16 : List VV) (z17 : List VV) => k (.exit 0) (fS T_ref01_Add_0_0 [.i z0, .i z1, .i z2, .i z3, .n z4, .n z5, .n z6, .i z7, .i z8, .i z9, .i z10, .i z11, .i z12, .i z13, .i z14, .c z15, .c z16, .c z17])) x0 x1 x2 x3 x4 x5 x6 x7 x8 x9 x10 x11 x12 x13 x14 x15 x16 x17 := by
      intros
      kernel_rfl
    have h : iterC (codeL PP (S_ref01_Add F) c_ref01_Add (I_ref01_Add F) (J_ref01_Add F) (loopAt PP 51 0) 0) (headOf c_ref01_Add 0) k (n + 1) (fS T_ref01_Add_0 [.i x0, .i x1, .i x2, .i x3, .n x4, .n x5, .n x6, .i x7, .i x8, .i x9, .i x10, .i x11, .i x12, .i x13, .i x14, .c x15, .c x16, .c x17]) = B_ref01_Add_0 F (fun (y0 : Int) (y1 : Int) (y2 : Int) (y3 : Int) (y4 : Nat) (y5 : Nat) (y6 : Nat) (y7 : Int) (y8 : Int) (y9 : Int) (y10 : Int) (y11 : Int) (y12 : Int) (y13 : Int) (y14 : Int) (y15 : List VV) (y16 : List VV) (y17 : List VV) => iterC (codeL PP (S_ref01_Add F) c_ref01_Add (I_ref01_Add F) (J_ref01_Add F) (loopAt PP 51 0) 0) (headOf c_ref01_Add 0) k n (fS T_ref01_Add_0 [.i y0, .i y1, .i y2, .i y3, .n y4, .n y5, .n y6, .i y7, .i y8, .i y9, .i y10, .i y11, .i y12, .i y13, .i y14, .c y15, .c y16, .c y17])) (fun (z0 : Int) (z1 : Int) (z2 : Int) (z3 : Int) (z4 : Nat) (z5 : Nat) (z6 : Nat) (z7 : Int) (z8 : Int) (z9 : Int) (z10 : Int) (z11 : Int) (z12 : Int) (z13 : Int) (z14 : Int) (z15 : List VV) (z16 : List VV) (z17 : List VV) => k (.exit 0) (fS T_ref01_Add_0_0 [.i z0, .i z1, .i z2, .i z3, .n z4, .n z5, .n z6, .i z7, .i z8, .i z9, .i z10, .i z11, .i z12, .i z13, .i z14, .c z15, .c z16, .c z17])) x0 x1 x2 x3 x4 x5 x6 x7 x8 x9 x10 x11 x12 x13 x14 x15 x16 x17 := (h0 ok_ref01_Digits o_ref01_Digits_0 o_ref01_Digits_1 ok_ref01_Number o_ref01_Number_0 o_ref01_Number_1 L_ref01_Add_0).trans (by kernel_rfl)
    rw [h]
    simp only [lL_ref01_Add_0 F k n]
    rfl
def f_ref01_Add (F : Nat) (a0 : Int) (a1 : Int) (a2 : Int) (a3 : Int) : R :=
  bif (ok_ref01_Digits F a0 a1) then (
    bif (ok_ref01_Digits F a2 a3) then (
      L_ref01_Add_0 F (fun (v157 : Int) (v158 : Int) (v159 : Int) (v160 : Int) (v161 : Nat) (v162 : Nat) (v163 : Nat) (v164 : Int) (v165 : Int) (v166 : Int) (v167 : Int) (v168 : Int) (v169 : Int) (v170 : Int) (v171 : Int) (v172 : List VV) (v173 : List VV) (v174 : List VV) =>
        bif (ok_ref01_Number F v174 v163) then (
          some (.v (.agg #[.int .i64 ((o_ref01_Number_0 F v174 v163)), .int .u64 ((o_ref01_Number_1 F v174 v163))])))
        else (
          none)) F a0 a1 a2 a3 ((o_ref01_Digits_1 F a0 a1)) ((o_ref01_Digits_1 F a2 a3)) 0 0 0 a0 a1 a2 a3 0 0 ((o_ref01_Digits_0 F a0 a1)) ((o_ref01_Digits_0 F a2 a3)) [])
    else (
      none))
  else (
    none)
theorem e_ref01_Add (F : Nat) (a0 : Int) (a1 : Int) (a2 : Int) (a3 : Int) : funL PP (S_ref01_Add F) c_ref01_Add (I_ref01_Add F) (J_ref01_Add F) 51 (fTs ti_ref01_Add [.i a0, .i a1, .i a2, .i a3]).1 = f_ref01_Add F a0 a1 a2 a3 := by
  have h : ∀ (ok_ref01_Digits : Nat → Int → Int → Bool) (o_ref01_Digits_0 : Nat → Int → Int → List VV) (o_ref01_Digits_1 : Nat → Int → Int → Nat) (ok_ref01_Number : Nat → List VV → Nat → Bool) (o_ref01_Number_0 : Nat → List VV → Nat → Int) (o_ref01_Number_1 : Nat → List VV → Nat → Int) (L_ref01_Add_0 : Nat → (Int → Int → Int → Int → Nat → Nat → Nat → Int → Int → Int → Int → Int → Int → Int → Int → List VV → List VV → List VV → R) → Nat → Int → Int → Int → Int → Nat → Nat → Nat → Int → Int → Int → Int → Int → Int → Int → Int → List VV → List VV → List VV → R), funL PP (words [(105, spec ti_ref01_Digits to_ref01_Digits (fun q => (ok_ref01_Digits F (atI (nth q 0)) (atI (nth q 1)))) (fun q => [.c (o_ref01_Digits_0 F (atI (nth q 0)) (atI (nth q 1))), .n (o_ref01_Digits_1 F (atI (nth q 0)) (atI (nth q 1)))])), (106, spec ti_ref01_Number to_ref01_Number (fun q => (ok_ref01_Number F (atC (nth q 0)) (atN (nth q 1)))) (fun q => [.i (o_ref01_Number_0 F (atC (nth q 0)) (atN (nth q 1))), .i (o_ref01_Number_1 F (atC (nth q 0)) (atN (nth q 1)))]))]) c_ref01_Add (tabI c_ref01_Add [⟨0, T_ref01_Add_0, fun k q => L_ref01_Add_0 F (fun (z0 : Int) (z1 : Int) (z2 : Int) (z3 : Int) (z4 : Nat) (z5 : Nat) (z6 : Nat) (z7 : Int) (z8 : Int) (z9 : Int) (z10 : Int) (z11 : Int) (z12 : Int) (z13 : Int) (z14 : Int) (z15 : List VV) (z16 : List VV) (z17 : List VV) => k (.exit 0) (fS T_ref01_Add_0_0 [.i z0, .i z1, .i z2, .i z3, .n z4, .n z5, .n z6, .i z7, .i z8, .i z9, .i z10, .i z11, .i z12, .i z13, .i z14, .c z15, .c z16, .c z17])) F (atI (nth q 0)) (atI (nth q 1)) (atI (nth q 2)) (atI (nth q 3)) (atN (nth q 4)) (atN (nth q 5)) (atN (nth q 6)) (atI (nth q 7)) (atI (nth q 8)) (atI (nth q 9)) (atI (nth q 10)) (atI (nth q 11)) (atI (nth q 12)) (atI (nth q 13)) (atI (nth q 14)) (atC (nth q 15)) (atC (nth q 16)) (atC (nth q 17))⟩]) (tabJ []) 51 (fTs ti_ref01_Add [.i a0, .i a1, .i a2, .i a3]).1 = (
  bif (ok_ref01_Digits F a0 a1) then (
    bif (ok_ref01_Digits F a2 a3) then (
      L_ref01_Add_0 F (fun (v157 : Int) (v158 : Int) (v159 : Int) (v160 : Int) (v161 : Nat) (v162 : Nat) (v163 : Nat) (v164 : Int) (v165 : Int) (v166 : Int) (v167 : Int) (v168 : Int) (v169 : Int) (v170 : Int) (v171 : Int) (v172 : List VV) (v173 : List VV) (v174 : List VV) =>
        bif (ok_ref01_Number F v174 v163) then (
          some (.v (.agg #[.int .i64 ((o_ref01_Number_0 F v174 v163)), .int .u64 ((o_ref01_Number_1 F v174 v163))])))
        else (
          none)) F a0 a1 a2 a3 ((o_ref01_Digits_1 F a0 a1)) ((o_ref01_Digits_1 F a2 a3)) 0 0 0 a0 a1 a2 a3 0 0 ((o_ref01_Digits_0 F a0 a1)) ((o_ref01_Digits_0 F a2 a3)) [])
    else (
      none))
  else (
    none) : R) := by
    intros
    kernel_rfl
  exact (h ok_ref01_Digits o_ref01_Digits_0 o_ref01_Digits_1 ok_ref01_Number o_ref01_Number_0 o_ref01_Number_1 L_ref01_Add_0).trans (by kernel_rfl)
def ok_ref01_Add (F : Nat) (a0 : Int) (a1 : Int) (a2 : Int) (a3 : Int) : Bool := okT to_ref01_Add (f_ref01_Add F a0 a1 a2 a3)
def o_ref01_Add_0 (F : Nat) (a0 : Int) (a1 : Int) (a2 : Int) (a3 : Int) : Int := atI (nth (outT to_ref01_Add (f_ref01_Add F a0 a1 a2 a3)) 0)
def o_ref01_Add_1 (F : Nat) (a0 : Int) (a1 : Int) (a2 : Int) (a3 : Int) : Int := atI (nth (outT to_ref01_Add (f_ref01_Add F a0 a1 a2 a3)) 1)
theorem k_ref01_Add (F : Nat) (a0 : Int) (a1 : Int) (a2 : Int) (a3 : Int) {z0 : Int} {z1 : Int} (h : f_ref01_Add F a0 a1 a2 a3 = some (.v (.agg #[.int .i64 z0, .int .u64 z1]))) : ok_ref01_Add F a0 a1 a2 a3 = true ∧ o_ref01_Add_0 F a0 a1 a2 a3 = z0 ∧ o_ref01_Add_1 F a0 a1 a2 a3 = z1 := by
  refine ⟨?_, ?_, ?_⟩
  · unfold ok_ref01_Add; rw [h]; kernel_rfl
  · unfold o_ref01_Add_0; rw [h]; kernel_rfl
  · unfold o_ref01_Add_1; rw [h]; kernel_rfl
def s_ref01_Add (F : Nat) : List VV → Option (Bool × VV) := spec ti_ref01_Add to_ref01_Add (fun q => (ok_ref01_Add F (atI (nth q 0)) (atI (nth q 1)) (atI (nth q 2)) (atI (nth q 3)))) (fun q => [.i (o_ref01_Add_0 F (atI (nth q 0)) (atI (nth q 1)) (atI (nth q 2)) (atI (nth q 3))), .i (o_ref01_Add_1 F (atI (nth q 0)) (atI (nth q 1)) (atI (nth q 2)) (atI (nth q 3)))])
theorem hS_ref01_Add (F : Nat) : ∀ f, Good PP f (unS (S_ref01_Add F f)) := words_good fun p hp => by
  simp only [List.mem_cons, List.not_mem_nil, or_false] at hp
  rcases hp with rfl | rfl
  · exact g_ref01_Digits F
  · exact g_ref01_Number F
theorem hl_ref01_Add (F : Nat) : ∀ p ∈ loopsIn PP 51, LoopOK PP (S_ref01_Add F) c_ref01_Add F (I_ref01_Add F) (J_ref01_Add F) p :=
  loops_of [(0, loopAt PP 51 0)] (by kernel_rfl) (all_cons
    (loop_ok (W_ref01_Add F) rfl (tab_cons (fun _ k q => Le.ofEq ((lL_ref01_Add_0 F k F (atI (nth q 0)) (atI (nth q 1)) (atI (nth q 2)) (atI (nth q 3)) (atN (nth q 4)) (atN (nth q 5)) (atN (nth q 6)) (atI (nth q 7)) (atI (nth q 8)) (atI (nth q 9)) (atI (nth q 10)) (atI (nth q 11)) (atI (nth q 12)) (atI (nth q 13)) (atI (nth q 14)) (atC (nth q 15)) (atC (nth q 16)) (atC (nth q 17))).symm.trans (congrArg (iterC (codeL PP (S_ref01_Add F) c_ref01_Add (I_ref01_Add F) (J_ref01_Add F) (loopAt PP 51 0) 0) (headOf c_ref01_Add 0) k F) (show fS T_ref01_Add_0 [.i (atI (nth q 0)), .i (atI (nth q 1)), .i (atI (nth q 2)), .i (atI (nth q 3)), .n (atN (nth q 4)), .n (atN (nth q 5)), .n (atN (nth q 6)), .i (atI (nth q 7)), .i (atI (nth q 8)), .i (atI (nth q 9)), .i (atI (nth q 10)), .i (atI (nth q 11)), .i (atI (nth q 12)), .i (atI (nth q 13)), .i (atI (nth q 14)), .c (atC (nth q 15)), .c (atC (nth q 16)), .c (atC (nth q 17))] = fS T_ref01_Add_0 q by kernel_rfl)))) tab_nil)) all_nil)
theorem hj_ref01_Add (F : Nat) : ∀ p ∈ joinsIn PP c_ref01_Add 51, JoinOK PP (S_ref01_Add F) c_ref01_Add (I_ref01_Add F) (J_ref01_Add F) p :=
  joins_of [] (by kernel_rfl) all_nil
theorem g_ref01_Add (F : Nat) : Good PP 51 (unS (s_ref01_Add F)) :=
  fun_spec (hS_ref01_Add F) (by kernel_rfl) (by kernel_rfl) (C := c_ref01_Add) (F := fun q => (f_ref01_Add F (atI (nth q 0)) (atI (nth q 1)) (atI (nth q 2)) (atI (nth q 3)))) (fun _ => F) (fun _ => I_ref01_Add F) (fun _ => J_ref01_Add F) (fun _ => hl_ref01_Add F) (fun _ => hj_ref01_Add F)
    (fun q => (congrArg (funL PP (S_ref01_Add F) c_ref01_Add (I_ref01_Add F) (J_ref01_Add F) 51) (show (fTs ti_ref01_Add q).1 = (fTs ti_ref01_Add [.i (atI (nth q 0)), .i (atI (nth q 1)), .i (atI (nth q 2)), .i (atI (nth q 3))]).1 by kernel_rfl)).trans (e_ref01_Add F (atI (nth q 0)) (atI (nth q 1)) (atI (nth q 2)) (atI (nth q 3))))
    (fun _ h => (okT_fill h).trans (congrArg some (by kernel_rfl)))

end Go.Xv
set_option linter.unusedVariables false
namespace Go.Xv
/- 52 _ref01_Neg -/
def c_ref01_Neg : Cfg := ⟨[0, 1, 2, 3, 4, 8], [(0, [0, 1, 2, 3, 4, 5, 6, 19, 20, 21, 22])], [20, 21], []⟩
def ti_ref01_Neg : List TV := [.v (.agg [.int .i64, .int .u64])]
def to_ref01_Neg : TV := .v (.agg [.int .i64, .int .u64])
def S_ref01_Neg (F : Nat) : FuncId → List VV → Option (Bool × VV) := words [(105, s_ref01_Digits F), (106, s_ref01_Number F), (58, s_ref01_Of F), (51, s_ref01_Add F)]
def T_ref01_Neg_0 : TS := ⟨[(0, .v (.agg [.int .i64, .int .u64])), (1, .lp 0 (.lit 0)), (2, .lp 1 (.lit 0)), (3, .ls 2 (.lit 0) .hole 1), (4, .v (.int .i64))], [(0, ⟨(.ex [.v (.int .i64), .v (.int .u64)]), true⟩), (1, ⟨(.ex [.v (.int .i64), .v (.int .u64)]), true⟩), (2, ⟨.hole, true⟩)], 3⟩
def T_ref01_Neg_0_0 : TS := ⟨[(0, .v (.agg [.int .i64, .int .u64])), (1, .lp 0 (.lit 0)), (2, .lp 1 (.lit 0)), (3, .ls 2 (.lit 0) .hole 1), (4, .v (.int .i64))], [(0, ⟨(.ex [.v (.int .i64), .v (.int .u64)]), true⟩), (1, ⟨(.ex [.v (.int .i64), .v (.int .u64)]), true⟩), (2, ⟨.hole, true⟩)], 3⟩
def B_ref01_Neg_0 (F : Nat) (rc : Int → Int → Nat → Int → Int → Int → Int → Int → List VV → R) (ex0 : Int → Int → Nat → Int → Int → Int → Int → Int → List VV → R) (x0 : Int) (x1 : Int) (x2 : Nat) (x3 : Int) (x4 : Int) (x5 : Int) (x6 : Int) (x7 : Int) (x8 : List VV) : R :=
  bif ((decide (x3 < 128))) then (
    bif ((decide (0 ≤ x3)) && (decide (x3 < ((x2 : Nat) : Int)))) then (
      let v265 : Nat := (0 + ((Int.toNat x3) * 1))
      bif ((isI .i64 x8[v265]?) && true) then (
        bif ((decide (0 ≤ x3)) && (decide (x3 < ((x2 : Nat) : Int)))) then (
          let v268 : Nat := (0 + ((Int.toNat x3) * 1))
          bif (decide ((v268 + 1) ≤ x8.length)) then (
            rc x0 x1 x2 ((IntKind.wrap .i64 (x3 + 1))) x4 x5 x6 x7 ((x8.take v268 ++ [.v (.int .i64 ((IntKind.wrap .i64 (1 - ((iv x8[v265]?))))))] ++ x8.drop (v268 + 1))))
          else (
            none))
        else (
          none))
      else (
        none))
    else (
      none))
  else (
    ex0 x0 x1 x2 x3 x4 x5 x6 x7 x8)
def L_ref01_Neg_0 (F : Nat) (ex0 : Int → Int → Nat → Int → Int → Int → Int → Int → List VV → R) : Nat → Int → Int → Nat → Int → Int → Int → Int → Int → List VV → R
  | 0, _, _, _, _, _, _, _, _, _ => none
  | n + 1, x0, x1, x2, x3, x4, x5, x6, x7, x8 => B_ref01_Neg_0 F (L_ref01_Neg_0 F ex0 n) ex0 x0 x1 x2 x3 x4 x5 x6 x7 x8
def W_ref01_Neg (F : Nat) : List LW := [⟨0, T_ref01_Neg_0, fun k q => L_ref01_Neg_0 F (fun (z0 : Int) (z1 : Int) (z2 : Nat) (z3 : Int) (z4 : Int) (z5 : Int) (z6 : Int) (z7 : Int) (z8 : List VV) => k (.exit 0) (fS T_ref01_Neg_0_0 [.i z0, .i z1, .n z2, .i z3, .i z4, .i z5, .i z6, .i z7, .c z8])) F (atI (nth q 0)) (atI (nth q 1)) (atN (nth q 2)) (atI (nth q 3)) (atI (nth q 4)) (atI (nth q 5)) (atI (nth q 6)) (atI (nth q 7)) (atC (nth q 8))⟩]
def I_ref01_Neg (F : Nat) : Nat → VS → (Exit → VS → R) → R := tabI c_ref01_Neg (W_ref01_Neg F)
def WJ_ref01_Neg (F : Nat) : List LJ := []
def J_ref01_Neg (F : Nat) : Nat → Nat → VS → (Exit → VS → R) → R := tabJ (WJ_ref01_Neg F)
theorem lL_ref01_Neg_0 (F : Nat) (k : Exit → VS → R) : ∀ (n : Nat) (x0 : Int) (x1 : Int) (x2 : Nat) (x3 : Int) (x4 : Int) (x5 : Int) (x6 : Int) (x7 : Int) (x8 : List VV), iterC (codeL PP (S_ref01_Neg F) c_ref01_Neg (I_ref01_Neg F) (J_ref01_Neg F) (loopAt PP 52 0) 0) (headOf c_ref01_Neg 0) k n (fS T_ref01_Neg_0 [.i x0, .i x1, .n x2, .i x3, .i x4, .i x5, .i x6, .i x7, .c x8]) = L_ref01_Neg_0 F (fun (z0 : Int) (z1 : Int) (z2 : Nat) (z3 : Int) (z4 : Int) (z5 : Int) (z6 : Int) (z7 : Int) (z8 : List VV) => k (.exit 0) (fS T_ref01_Neg_0_0 [.i z0, .i z1, .n z2, .i z3, .i z4, .i z5, .i z6, .i z7, .c z8])) n x0 x1 x2 x3 x4 x5 x6 x7 x8
  | 0, _, _, _, _, _, _, _, _, _ => rfl
  | n + 1, x0, x1, x2, x3, x4, x5, x6, x7, x8 => by
    have h0 : ∀ (ok_ref01_Digits : Nat → Int → Int → Bool) (o_ref01_Digits_0 : Nat → Int → Int → List VV) (o_ref01_Digits_1 : Nat → Int → Int → Nat) (ok_ref01_Number : Nat → List VV → Nat → Bool) (o_ref01_Number_0 : Nat → List VV → Nat → Int) (o_ref01_Number_1 : Nat → List VV → Nat → Int) (ok_ref01_Of : Nat → Int → Bool) (o_ref01_Of_0 : Nat → Int → Int) (o_ref01_Of_1 : Nat → Int → Int) (ok_ref01_Add : Nat → Int → Int → Int → Int → Bool) (o_ref01_Add_0 : Nat → Int → Int → Int → Int → Int) (o_ref01_Add_1 : Nat → Int → Int → Int → Int → Int) (L_ref01_Neg_0 : Nat → (Int → Int → Nat → Int → Int → Int → Int → Int → List VV → R) → Nat → Int → Int → Nat → Int → Int → Int → Int → Int → List VV → R), iterC (codeL PP (words [(105, spec ti_ref01_Digits to_ref01_Digits (fun q => (ok_ref01_Digits F (atI (nth q 0)) (atI (nth q 1)))) (fun q => [.c (o_ref01_Digits_0 F (atI (nth q 0)) (atI (nth q 1))), .n (o_ref01_Digits_1 F (atI (nth q 0)) (atI (nth q 1)))])), (106, spec ti_ref01_Number to_ref01_Number (fun q => (ok_ref01_Number F (atC (nth q 0)) (atN (nth q 1)))) (fun q => [.i (o_ref01_Number_0 F (atC (nth q 0)) (atN (nth q 1))), .i (o_ref01_Number_1 F (atC (nth q 0)) (atN (nth q 1)))])), (58, spec ti_ref01_Of to_ref01_Of (fun q => (ok_ref01_Of F (atI (nth q 0)))) (fun q => [.i (o_ref01_Of_0 F (atI (nth q 0))), .i (o_ref01_Of_1 F (atI (nth q 0)))])), (51, spec ti_ref01_Add to_ref01_Add (fun q => (ok_ref01_Add F (atI (nth q 0)) (atI (nth q 1)) (atI (nth q 2)) (atI (nth q 3)))) (fun q => [.i (o_ref01_Add_0 F (atI (nth q 0)) (atI (nth q 1)) (atI (nth q 2)) (atI (nth q 3))), .i (o_ref01_Add_1 F (atI (nth q 0)) (atI (nth q 1)) (atI (nth q 2)) (atI (nth q 3)))]))]) c_ref01_Neg (tabI c_ref01_Neg [⟨0, T_ref01_Neg_0, fun k q => L_ref01_Neg_0 F (fun (z0 : Int) (z1 : Int) (z2 : Nat) (z3 : Int) (z4 : Int) (z5 : Int) (z6 : Int) (z7 : Int) (z8 : List VV) => k (.exit 0) (fS T_ref01_Neg_0_0 [.i z0, .i z1, .n z2, .i z3, .i z4, .i z5, .i z6, .i z7, .c z8])) F (atI (nth q 0)) (atI (nth q 1)) (atN (nth q 2)) (atI (nth q 3)) (atI (nth q 4)) (atI (nth q 5)) (atI (nth q 6)) (atI (nth q 7)) (atC (nth q 8))⟩]) (tabJ []) (loopAt PP 52 0) 0) (headOf c_ref01_Neg 0) k (n + 1) (fS T_ref01_Neg_0 [.i x0, .i x1, .n x2, .i x3, .i x4, .i x5, .i x6, .i x7, .c x8]) = (fun (rc : Int → Int → Nat → Int → Int → Int → Int → Int → List VV → R) (ex0 : Int → Int → Nat → Int → Int → Int → Int → Int → List VV → R) (x0 : Int) (x1 : Int) (x2 : Nat) (x3 : Int) (x4 : Int) (x5 : Int) (x6 : Int) (x7 : Int) (x8 : List VV) => (
  bif ((decide (x3 < 128))) then (
    bif ((decide (0 ≤ x3)) && (decide (x3 < ((x2 : Nat) : Int)))) then (
      let v265 : Nat := (0 + ((Int.toNat x3) * 1))
      bif ((isI .i64 x8[v265]?) && true) then (
        bif ((decide (0 ≤ x3)) && (decide (x3 < ((x2 : Nat) : Int)))) then (
          let v268 : Nat := (0 + ((Int.toNat x3) * 1))
          bif (decide ((v268 + 1) ≤ x8.length)) then (
            rc x0 x1 x2 ((IntKind.wrap .i64 (x3 + 1))) x4 x5 x6 x7 ((x8.take v268 ++ [.v (.int .i64 ((IntKind.wrap .i64 (1 - ((iv x8[v265]?))))))] ++ x8.drop (v268 + 1))))
          else (
            none))
        else (
          none))
      else (
        none))
    else (
      none))
  else (
    ex0 x0 x1 x2 x3 x4 x5 x6 x7 x8) : R)) (fun (y0 : Int) (y1 : Int) (y2 : Nat) (y3 : Int) (y4 : Int) (y5 : Int) (y6 : Int) (y7 : Int) (y8 : List VV) => iterC (codeL PP (words [(105, spec ti_ref01_Digits to_ref01_Digits (fun q => (ok_ref01_Digits F (atI (nth q 0)) (atI (nth q 1)))) (fun q => [.c (o_ref01_Digits_0 F (atI (nth q 0)) (atI (nth q 1))), .n (o_ref01_Digits_1 F (atI (nth q 0)) (atI (nth q 1)))])), (106, spec ti_ref01_Number to_ref01_Number (fun q => (ok_ref01_Number F (atC (nth q 0)) (atN (nth q 1)))) (fun q => [.i (o_ref01_Number_0 F (atC (nth q 0)) (atN (nth q 1))), .i (o_ref01_Number_1 F (atC (nth q 0)) (atN (nth q 1)))])), (58, spec ti_ref01_Of to_ref01_Of (fun q => (ok_ref01_Of F (atI (nth q 0)))) (fun q => [.i (o_ref01_Of_0 F (atI (nth q 0))), .i (o_ref01_Of_1 F (atI (nth q 0)))])), (51, spec ti_ref01_Add to_ref01_Add (fun q => (ok_ref01_Add F (atI (nth q 0)) (atI (nth q 1)) (atI (nth q 2)) (atI (nth q 3)))) (fun q => [.i (o_ref01_Add_0 F (atI (nth q 0)) (atI (nth q 1)) (atI (nth q 2)) (atI (nth q 3))), .i (o_ref01_Add_1 F (atI (nth q 0)) (atI (nth q 1)) (atI (nth q 2)) (atI (nth q 3)))]))]) c_ref01_Neg (tabI c_ref01_Neg [⟨0, T_ref01_Neg_0, fun k q => L_ref01_Neg_0 F (fun (z0 : Int) (z1 : Int) (z2 : Nat) (z3 : Int) (z4 : Int) (z5 : Int) (z6 : Int) (z7 : Int) (z8 : List VV) => k (.exit 0) (fS T_ref01_Neg_0_0 [.i z0, .i z1, .n z2, .i z3, .i z4, .i z5, .i z6, .i z7, .c z8])) F (atI (nth q 0)) (atI (nth q 1)) (atN (nth q 2)) (atI (nth q 3)) (atI (nth q 4)) (atI (nth q 5)) (atI (nth q 6)) (atI (nth q 7)) (atC (nth q 8))⟩]) (tabJ []) (loopAt PP 52 0) 0) (headOf c_ref01_Neg 0) k n (fS T_ref01_Neg_0 [.i y0, .i y1, .n y2, .i y3, .i y4, .i y5, .i y6, .i y7, .c y8])) (fun (z0 : Int) (z1 : Int) (z2 : Nat) (z3 : Int) (z4 : Int) (z5 : Int) (z6 : Int) (z7 : Int) (z8 : List VV) => k (.exit 0) (fS T_ref01_Neg_0_0 [.i z0, .i z1, .n z2, .i z3, .i z4, .i z5, .i z6, .i z7, .c z8])) x0 x1 x2 x3 x4 x5 x6 x7 x8 := by
      intros
      kernel_rfl
    have h : iterC (codeL PP (S_ref01_Neg F) c_ref01_Neg (I_ref01_Neg F) (J_ref01_Neg F) (loopAt PP 52 0) 0) (headOf c_ref01_Neg 0) k (n + 1) (fS T_ref01_Neg_0 [.i x0, .i x1, .n x2, .i x3, .i x4, .i x5, .i x6, .i x7, .c x8]) = B_ref01_Neg_0 F (fun (y0 : Int) (y1 : Int) (y2 : Nat) (y3 : Int) (y4 : Int) (y5 : Int) (y6 : Int) (y7 : Int) (y8 : List VV) => iterC (codeL PP (S_ref01_Neg F) c_ref01_Neg (I_ref01_Neg F) (J_ref01_Neg F) (loopAt PP 52 0) 0) (headOf c_ref01_Neg 0) k n (fS T_ref01_Neg_0 [.i y0, .i y1, .n y2, .i y3, .i y4, .i y5, .i y6, .i y7, .c y8])) (fun (z0 : Int) (z1 : Int) (z2 : Nat) (z3 : Int) (z4 : Int) (z5 : Int) (z6 : Int) (z7 : Int) (z8 : List VV) => k (.exit 0) (fS T_ref01_Neg_0_0 [.i z0, .i z1, .n z2, .i z3, .i z4, .i z5, .i z6, .i z7, .c z8])) x0 x1 x2 x3 x4 x5 x6 x7 x8 := (h0 ok_ref01_Digits o_ref01_Digits_0 o_ref01_Digits_1 ok_ref01_Number o_ref01_Number_0 o_ref01_Number_1 ok_ref01_Of o_ref01_Of_0 o_ref01_Of_1 ok_ref01_Add o_ref01_Add_0 o_ref01_Add_1 L_ref01_Neg_0).trans (by kernel_rfl)
    rw [h]
    simp only [lL_ref01_Neg_0 F k n]
    rfl
def f_ref01_Neg (F : Nat) (a0 : Int) (a1 : Int) : R :=
  bif (ok_ref01_Digits F a0 a1) then (
    L_ref01_Neg_0 F (fun (v271 : Int) (v272 : Int) (v273 : Nat) (v274 : Int) (v275 : Int) (v276 : Int) (v277 : Int) (v278 : Int) (v279 : List VV) =>
      bif (ok_ref01_Number F v279 v273) then (
        let v280 : Int := (o_ref01_Number_0 F v279 v273)
        let v281 : Int := (o_ref01_Number_1 F v279 v273)
        bif (ok_ref01_Of F 1) then (
          let v282 : Int := (o_ref01_Of_0 F 1)
          let v283 : Int := (o_ref01_Of_1 F 1)
          bif (ok_ref01_Add F v280 v281 v282 v283) then (
            some (.v (.agg #[.int .i64 ((o_ref01_Add_0 F v280 v281 v282 v283)), .int .u64 ((o_ref01_Add_1 F v280 v281 v282 v283))])))
          else (
            none))
        else (
          none))
      else (
        none)) F a0 a1 ((o_ref01_Digits_1 F a0 a1)) 0 a0 a1 0 0 ((o_ref01_Digits_0 F a0 a1)))
  else (
    none)
theorem e_ref01_Neg (F : Nat) (a0 : Int) (a1 : Int) : funL PP (S_ref01_Neg F) c_ref01_Neg (I_ref01_Neg F) (J_ref01_Neg F) 52 (fTs ti_ref01_Neg [.i a0, .i a1]).1 = f_ref01_Neg F a0 a1 := by
  have h : ∀ (ok_ref01_Digits : Nat → Int → Int → Bool) (o_ref01_Digits_0 : Nat → Int → Int → List VV) (o_ref01_Digits_1 : Nat → Int → Int → Nat) (ok_ref01_Number : Nat → List VV → Nat → Bool) (o_ref01_Number_0 : Nat → List VV → Nat → Int) (o_ref01_Number_1 : Nat → List VV → Nat → Int) (ok_ref01_Of : Nat → Int → Bool) (o_ref01_Of_0 : Nat → Int → Int) (o_ref01_Of_1 : Nat → Int → Int) (ok_ref01_Add : Nat → Int → Int → Int → Int → Bool) (o_ref01_Add_0 : Nat → Int → Int → Int → Int → Int) (o_ref01_Add_1 : Nat → Int → Int → Int → Int → Int) (L_ref01_Neg_0 : Nat → (Int → Int → Nat → Int → Int → Int → Int → Int → List VV → R) → Nat → Int → Int → Nat → Int → Int → Int → Int → Int → List VV → R), funL PP (words [(105, spec ti_ref01_Digits to_ref01_Digits (fun q => (ok_ref01_Digits F (atI (nth q 0)) (atI (nth q 1)))) (fun q => [.c (o_ref01_Digits_0 F (atI (nth q 0)) (atI (nth q 1))), .n (o_ref01_Digits_1 F (atI (nth q 0)) (atI (nth q 1)))])), (106, spec ti_ref01_Number to_ref01_Number (fun q => (ok_ref01_Number F (atC (nth q 0)) (atN (nth q 1)))) (fun q => [.i (o_ref01_Number_0 F (atC (nth q 0)) (atN (nth q 1))), .i (o_ref01_Number_1 F (atC (nth q 0)) (atN (nth q 1)))])), (58, spec ti_ref01_Of to_ref01_Of (fun q => (ok_ref01_Of F (atI (nth q 0)))) (fun q => [.i (o_ref01_Of_0 F (atI (nth q 0))), .i (o_ref01_Of_1 F (atI (nth q 0)))])), (51, spec ti_ref01_Add to_ref01_Add (fun q => (ok_ref01_Add F (atI (nth q 0)) (atI (nth q 1)) (atI (nth q 2)) (atI (nth q 3)))) (fun q => [.i (o_ref01_Add_0 F (atI (nth q 0)) (atI (nth q 1)) (atI (nth q 2)) (atI (nth q 3))), .i (o_ref01_Add_1 F (atI (nth q 0)) (atI (nth q 1)) (atI (nth q 2)) (atI (nth q 3)))]))]) c_ref01_Neg (tabI c_ref01_Neg [⟨0, T_ref01_Neg_0, fun k q => L_ref01_Neg_0 F (fun (z0 : Int) (z1 : Int) (z2 : Nat) (z3 : Int) (z4 : Int) (z5 : Int) (z6 : Int) (z7 : Int) (z8 : List VV) => k (.exit 0) (fS T_ref01_Neg_0_0 [.i z0, .i z1, .n z2, .i z3, .i z4, .i z5, .i z6, .i z7, .c z8])) F (atI (nth q 0)) (atI (nth q 1)) (atN (nth q 2)) (atI (nth q 3)) (atI (nth q 4)) (atI (nth q 5)) (atI (nth q 6)) (atI (nth q 7)) (atC (nth q 8))⟩]) (tabJ []) 52 (fTs ti_ref01_Neg [.i a0, .i a1]).1 = (
  bif (ok_ref01_Digits F a0 a1) then (
    L_ref01_Neg_0 F (fun (v271 : Int) (v272 : Int) (v273 : Nat) (v274 : Int) (v275 : Int) (v276 : Int) (v277 : Int) (v278 : Int) (v279 : List VV) =>
      bif (ok_ref01_Number F v279 v273) then (
        let v280 : Int := (o_ref01_Number_0 F v279 v273)
        let v281 : Int := (o_ref01_Number_1 F v279 v273)
        bif (ok_ref01_Of F 1) then (
          let v282 : Int := (o_ref01_Of_0 F 1)
          let v283 : Int := (o_ref01_Of_1 F 1)
          bif (ok_ref01_Add F v280 v281 v282 v283) then (
            some (.v (.agg #[.int .i64 ((o_ref01_Add_0 F v280 v281 v282 v283)), .int .u64 ((o_ref01_Add_1 F v280 v281 v282 v283))])))
          else (
            none))
        else (
          none))
      else (
        none)) F a0 a1 ((o_ref01_Digits_1 F a0 a1)) 0 a0 a1 0 0 ((o_ref01_Digits_0 F a0 a1)))
  else (
    none) : R) := by
    intros
    kernel_rfl
  exact (h ok_ref01_Digits o_ref01_Digits_0 o_ref01_Digits_1 ok_ref01_Number o_ref01_Number_0 o_ref01_Number_1 ok_ref01_Of o_ref01_Of_0 o_ref01_Of_1 ok_ref01_Add o_ref01_Add_0 o_ref01_Add_1 L_ref01_Neg_0).trans (by kernel_rfl)
def ok_ref01_Neg (F : Nat) (a0 : Int) (a1 : Int) : Bool := okT to_ref01_Neg (f_ref01_Neg F a0 a1)
def o_ref01_Neg_0 (F : Nat) (a0 : Int) (a1 : Int) : Int := atI (nth (outT to_ref01_Neg (f_ref01_Neg F a0 a1)) 0)
def o_ref01_Neg_1 (F : Nat) (a0 : Int) (a1 : Int) : Int := atI (nth (outT to_ref01_Neg (f_ref01_Neg F a0 a1)) 1)
theorem k_ref01_Neg (F : Nat) (a0 : Int) (a1 : Int) {z0 : Int} {z1 : Int} (h : f_ref01_Neg F a0 a1 = some (.v (.agg #[.int .i64 z0, .int .u64 z1]))) : ok_ref01_Neg F a0 a1 = true ∧ o_ref01_Neg_0 F a0 a1 = z0 ∧ o_ref01_Neg_1 F a0 a1 = z1 := by
  refine ⟨?_, ?_, ?_⟩
  · unfold ok_ref01_Neg; rw [h]; kernel_rfl
  · unfold o_ref01_Neg_0; rw [h]; kernel_rfl
  · unfold o_ref01_Neg_1; rw [h]; kernel_rfl
def s_ref01_Neg (F : Nat) : List VV → Option (Bool × VV) := spec ti_ref01_Neg to_ref01_Neg (fun q => (ok_ref01_Neg F (atI (nth q 0)) (atI (nth q 1)))) (fun q => [.i (o_ref01_Neg_0 F (atI (nth q 0)) (atI (nth q 1))), .i (o_ref01_Neg_1 F (atI (nth q 0)) (atI (nth q 1)))])
theorem hS_ref01_Neg (F : Nat) : ∀ f, Good PP f (unS (S_ref01_Neg F f)) := words_good fun p hp => by
  simp only [List.mem_cons, List.not_mem_nil, or_false] at hp
  rcases hp with rfl | rfl | rfl | rfl
  · exact g_ref01_Digits F
  · exact g_ref01_Number F
  · exact g_ref01_Of F
  · exact g_ref01_Add F
theorem hl_ref01_Neg (F : Nat) : ∀ p ∈ loopsIn PP 52, LoopOK PP (S_ref01_Neg F) c_ref01_Neg F (I_ref01_Neg F) (J_ref01_Neg F) p :=
  loops_of [(0, loopAt PP 52 0)] (by kernel_rfl) (all_cons
    (loop_ok (W_ref01_Neg F) rfl (tab_cons (fun _ k q => Le.ofEq ((lL_ref01_Neg_0 F k F (atI (nth q 0)) (atI (nth q 1)) (atN (nth q 2)) (atI (nth q 3)) (atI (nth q 4)) (atI (nth q 5)) (atI (nth q 6)) (atI (nth q 7)) (atC (nth q 8))).symm.trans (congrArg (iterC (codeL PP (S_ref01_Neg F) c_ref01_Neg (I_ref01_Neg F) (J_ref01_Neg F) (loopAt PP 52 0) 0) (headOf c_ref01_Neg 0) k F) (show fS T_ref01_Neg_0 [.i (atI (nth q 0)), .i (atI (nth q 1)), .n (atN (nth q 2)), .i (atI (nth q 3)), .i (atI (nth q 4)), .i (atI (nth q 5)), .i (atI (nth q 6)), .i (atI (nth q 7)), .c (atC (nth q 8))] = fS T_ref01_Neg_0 q by kernel_rfl)))) tab_nil)) all_nil)
theorem hj_ref01_Neg (F : Nat) : ∀ p ∈ joinsIn PP c_ref01_Neg 52, JoinOK PP (S_ref01_Neg F) c_ref01_Neg (I_ref01_Neg F) (J_ref01_Neg F) p :=
  joins_of [] (by kernel_rfl) all_nil
theorem g_ref01_Neg (F : Nat) : Good PP 52 (unS (s_ref01_Neg F)) :=
  fun_spec (hS_ref01_Neg F) (by kernel_rfl) (by kernel_rfl) (C := c_ref01_Neg) (F := fun q => (f_ref01_Neg F (atI (nth q 0)) (atI (nth q 1)))) (fun _ => F) (fun _ => I_ref01_Neg F) (fun _ => J_ref01_Neg F) (fun _ => hl_ref01_Neg F) (fun _ => hj_ref01_Neg F)
    (fun q => (congrArg (funL PP (S_ref01_Neg F) c_ref01_Neg (I_ref01_Neg F) (J_ref01_Neg F) 52) (show (fTs ti_ref01_Neg q).1 = (fTs ti_ref01_Neg [.i (atI (nth q 0)), .i (atI (nth q 1))]).1 by kernel_rfl)).trans (e_ref01_Neg F (atI (nth q 0)) (atI (nth q 1))))
    (fun _ h => (okT_fill h).trans (congrArg some (by kernel_rfl)))

end Go.Xv
set_option linter.unusedVariables false
namespace Go.Xv
/- 41 _ref01_Mul -/
def c_ref01_Mul : Cfg := ⟨[0, 1, 4, 5, 6, 7, 8, 16, 23, 33], [(0, [0, 1, 4, 5, 6, 7, 8, 9, 10, 11, 12, 13, 14, 30, 31, 32, 33, 34, 35, 36, 37, 38])], [13, 36], []⟩
def ti_ref01_Mul : List TV := [.v (.int .i64), .v (.int .i64)]
def to_ref01_Mul : TV := .v (.agg [.int .i64, .int .u64])
def S_ref01_Mul (F : Nat) : FuncId → List VV → Option (Bool × VV) := words [(58, s_ref01_Of F), (105, s_ref01_Digits F), (51, s_ref01_Add F), (52, s_ref01_Neg F)]
def T_ref01_Mul_0 : TS := ⟨[(0, .v (.int .i64)), (1, .v (.int .i64)), (4, .lp 0 (.lit 0)), (5, .lp 1 (.lit 0)), (6, .lp 2 (.lit 0)), (7, .ls 3 (.lit 0) .hole 1), (8, .v (.int .i64))], [(0, ⟨(.ex [.v (.int .i64), .v (.int .u64)]), true⟩), (1, ⟨(.ex [.v (.int .i64), .v (.int .u64)]), true⟩), (2, ⟨(.ex [.v (.int .i64), .v (.int .u64)]), true⟩), (3, ⟨.hole, true⟩)], 4⟩
def T_ref01_Mul_0_0 : TS := ⟨[(0, .v (.int .i64)), (1, .v (.int .i64)), (4, .lp 0 (.lit 0)), (5, .lp 1 (.lit 0)), (6, .lp 2 (.lit 0)), (7, .ls 3 (.lit 0) .hole 1), (8, .v (.int .i64))], [(0, ⟨(.ex [.v (.int .i64), .v (.int .u64)]), true⟩), (1, ⟨(.ex [.v (.int .i64), .v (.int .u64)]), true⟩), (2, ⟨(.ex [.v (.int .i64), .v (.int .u64)]), true⟩), (3, ⟨.hole, true⟩)], 4⟩
def B_ref01_Mul_0 (F : Nat) (rc : Int → Int → Nat → Int → Int → Int → Int → Int → Int → Int → List VV → R) (ex0 : Int → Int → Nat → Int → Int → Int → Int → Int → Int → Int → List VV → R) (x0 : Int) (x1 : Int) (x2 : Nat) (x3 : Int) (x4 : Int) (x5 : Int) (x6 : Int) (x7 : Int) (x8 : Int) (x9 : Int) (x10 : List VV) : R :=
  bif ((decide (x3 < 127))) then (
    bif ((decide (0 ≤ x3)) && (decide (x3 < ((x2 : Nat) : Int)))) then (
      let v120 : Nat := (0 + ((Int.toNat x3) * 1))
      bif ((isI .i64 x10[v120]?) && true) then (
        bif ((((iv x10[v120]?)) == 1)) then (
          bif (ok_ref01_Add F x6 x7 x8 x9) then (
            bif (ok_ref01_Add F x8 x9 x8 x9) then (
              rc x0 x1 x2 ((IntKind.wrap .i64 (x3 + 1))) x4 x5 ((o_ref01_Add_0 F x6 x7 x8 x9)) ((o_ref01_Add_1 F x6 x7 x8 x9)) ((o_ref01_Add_0 F x8 x9 x8 x9)) ((o_ref01_Add_1 F x8 x9 x8 x9)) x10)
            else (
              none))
          else (
            none))
        else (
          bif (ok_ref01_Add F x8 x9 x8 x9) then (
            rc x0 x1 x2 ((IntKind.wrap .i64 (x3 + 1))) x4 x5 x6 x7 ((o_ref01_Add_0 F x8 x9 x8 x9)) ((o_ref01_Add_1 F x8 x9 x8 x9)) x10)
          else (
            none)))
      else (
        none))
    else (
      none))
  else (
    ex0 x0 x1 x2 x3 x4 x5 x6 x7 x8 x9 x10)
def L_ref01_Mul_0 (F : Nat) (ex0 : Int → Int → Nat → Int → Int → Int → Int → Int → Int → Int → List VV → R) : Nat → Int → Int → Nat → Int → Int → Int → Int → Int → Int → Int → List VV → R
  | 0, _, _, _, _, _, _, _, _, _, _, _ => none
  | n + 1, x0, x1, x2, x3, x4, x5, x6, x7, x8, x9, x10 => B_ref01_Mul_0 F (L_ref01_Mul_0 F ex0 n) ex0 x0 x1 x2 x3 x4 x5 x6 x7 x8 x9 x10
def W_ref01_Mul (F : Nat) : List LW := [⟨0, T_ref01_Mul_0, fun k q => L_ref01_Mul_0 F (fun (z0 : Int) (z1 : Int) (z2 : Nat) (z3 : Int) (z4 : Int) (z5 : Int) (z6 : Int) (z7 : Int) (z8 : Int) (z9 : Int) (z10 : List VV) => k (.exit 0) (fS T_ref01_Mul_0_0 [.i z0, .i z1, .n z2, .i z3, .i z4, .i z5, .i z6, .i z7, .i z8, .i z9, .c z10])) F (atI (nth q 0)) (atI (nth q 1)) (atN (nth q 2)) (atI (nth q 3)) (atI (nth q 4)) (atI (nth q 5)) (atI (nth q 6)) (atI (nth q 7)) (atI (nth q 8)) (atI (nth q 9)) (atC (nth q 10))⟩]
def I_ref01_Mul (F : Nat) : Nat → VS → (Exit → VS → R) → R := tabI c_ref01_Mul (W_ref01_Mul F)
def WJ_ref01_Mul (F : Nat) : List LJ := []
def J_ref01_Mul (F : Nat) : Nat → Nat → VS → (Exit → VS → R) → R := tabJ (WJ_ref01_Mul F)
theorem lL_ref01_Mul_0 (F : Nat) (k : Exit → VS → R) : ∀ (n : Nat) (x0 : Int) (x1 : Int) (x2 : Nat) (x3 : Int) (x4 : Int) (x5 : Int) (x6 : Int) (x7 : Int) (x8 : Int) (x9 : Int) (x10 : List VV), iterC (codeL PP (S_ref01_Mul F) c_ref01_Mul (I_ref01_Mul F) (J_ref01_Mul F) (loopAt PP 41 0) 0) (headOf c_ref01_Mul 0) k n (fS T_ref01_Mul_0 [.i x0, .i x1, .n x2, .i x3, .i x4, .i x5, .i x6, .i x7, .i x8, .i x9, .c x10]) = L_ref01_Mul_0 F (fun (z0 : Int) (z1 : Int) (z2 : Nat) (z3 : Int) (z4 : Int) (z5 : Int) (z6 : Int) (z7 : Int) (z8 : Int) (z9 : Int) (z10 : List VV) => k (.exit 0) (fS T_ref01_Mul_0_0 [.i z0, .i z1, .n z2, .i z3, .i z4, .i z5, .i z6, .i z7, .i z8, .i z9, .c z10])) n x0 x1 x2 x3 x4 x5 x6 x7 x8 x9 x10
  | 0, _, _, _, _, _, _, _, _, _, _, _ => rfl
  | n + 1, x0, x1, x2, x3, x4, x5, x6, x7, x8, x9, x10 => by
    have h0 : ∀ (ok_ref01_Of : Nat → Int → Bool) (o_ref01_Of_0 : Nat → Int → Int) (o_ref01_Of_1 : Nat → Int → Int) (ok_ref01_Digits : Nat → Int → Int → Bool) (o_ref01_Digits_0 : Nat → Int → Int → List VV) (o_ref01_Digits_1 : Nat → Int → Int → Nat) (ok_ref01_Add : Nat → Int → Int → Int → Int → Bool) (o_ref01_Add_0 : Nat → Int → Int → Int → Int → Int) (o_ref01_Add_1 : Nat → Int → Int → Int → Int → Int) (ok_ref01_Neg : Nat → Int → Int → Bool) (o_ref01_Neg_0 : Nat → Int → Int → Int) (o_ref01_Neg_1 : Nat → Int → Int → Int) (L_ref01_Mul_0 : Nat → (Int → Int → Nat → Int → Int → Int → Int → Int → Int → Int → List VV → R) → Nat → Int → Int → Nat → Int → Int → Int → Int → Int → Int → Int → List VV → R), iterC (codeL PP (words [(58, spec ti_ref01_Of to_ref01_Of (fun q => (ok_ref01_Of F (atI (nth q 0)))) (fun q => [.i (o_ref01_Of_0 F (atI (nth q 0))), .i (o_ref01_Of_1 F (atI (nth q 0)))])), (105, spec ti_ref01_Digits to_ref01_Digits (fun q => (ok_ref01_Digits F (atI (nth q 0)) (atI (nth q 1)))) (fun q => [.c (o_ref01_Digits_0 F (atI (nth q 0)) (atI (nth q 1))), .n (o_ref01_Digits_1 F (atI (nth q 0)) (atI (nth q 1)))])), (51, spec ti_ref01_Add to_ref01_Add (fun q => (ok_ref01_Add F (atI (nth q 0)) (atI (nth q 1)) (atI (nth q 2)) (atI (nth q 3)))) (fun q => [.i (o_ref01_Add_0 F (atI (nth q 0)) (atI (nth q 1)) (atI (nth q 2)) (atI (nth q 3))), .i (o_ref01_Add_1 F (atI (nth q 0)) (atI (nth q 1)) (atI (nth q 2)) (atI (nth q 3)))])), (52, spec ti_ref01_Neg to_ref01_Neg (fun q => (ok_ref01_Neg F (atI (nth q 0)) (atI (nth q 1)))) (fun q => [.i (o_ref01_Neg_0 F (atI (nth q 0)) (atI (nth q 1))), .i (o_ref01_Neg_1 F (atI (nth q 0)) (atI (nth q 1)))]))]) c_ref01_Mul (tabI c_ref01_Mul [⟨0, T_ref01_Mul_0, fun k q => L_ref01_Mul_0 F (fun (z0 : Int) (z1 : Int) (z2 : Nat) (z3 : Int) (z4 : Int) (z5 : Int) (z6 : Int) (z7 : Int) (z8 : Int) (z9 : Int) (z10 : List VV) => k (.exit 0) (fS T_ref01_Mul_0_0 [.i z0, .i z1, .n z2, .i z3, .i z4, .i z5, .i z6, .i z7, .i z8, .i z9, .c z10])) F (atI (nth q 0)) (atI (nth q 1)) (atN (nth q 2)) (atI (nth q 3)) (atI (nth q 4)) (atI (nth q 5)) (atI (nth q 6)) (atI (nth q 7)) (atI (nth q 8)) (atI (nth q 9)) (atC (nth q 10))⟩]) (tabJ []) (loopAt PP 41 0) 0) (headOf c_ref01_Mul 0) k (n + 1) (fS T_ref01_Mul_0 [.i x0, .i x1, .n x2, .i x3, .i x4, .i x5, .i x6, .i x7, .i x8, .i x9, .c x10]) = (fun (rc : Int → Int → Nat → Int → Int → Int → Int → Int → Int → Int → List VV → R) (ex0 : Int → Int → Nat → Int → Int → Int → Int → Int → Int → Int → List VV → R) (x0 : Int) (x1 : Int) (x2 : Nat) (x3 : Int) (x4 : Int) (x5 : Int) (x6 : Int) (x7 : Int) (x8 : Int) (x9 : Int) (x10 : List VV) => (
  bif ((decide (x3 < 127))) then (
    bif ((decide (0 ≤ x3)) && (decide (x3 < ((x2 : Nat) : Int)))) then (
      let v120 : Nat := (0 + ((Int.toNat x3) * 1))
      bif ((isI .i64 x10[v120]?) && true) then (
        bif ((((iv x10[v120]?)) == 1)) then (
          bif (ok_ref01_Add F x6 x7 x8 x9) then (
            bif (ok_ref01_Add F x8 x9 x8 x9) then (
              rc x0 x1 x2 ((IntKind.wrap .i64 (x3 + 1))) x4 x5 ((o_ref01_Add_0 F x6 x7 x8 x9)) ((o_ref01_Add_1 F x6 x7 x8 x9)) ((o_ref01_Add_0 F x8 x9 x8 x9)) ((o_ref01_Add_1 F x8 x9 x8 x9)) x10)
            else (
              none))
          else (
            none))
        else (
          bif (ok_ref01_Add F x8 x9 x8 x9) then (
            rc x0 x1 x2 ((IntKind.wrap .i64 (x3 + 1))) x4 x5 x6 x7 ((o_ref01_Add_0 F x8 x9 x8 x9)) ((o_ref01_Add_1 F x8 x9 x8 x9)) x10)
          else (
            none)))
      else (
        none))
    else (
      none))
  else (
    ex0 x0 x1 x2 x3 x4 x5 x6 x7 x8 x9 x10) : R)) (fun (y0 : Int) (y1 : Int) (y2 : Nat) (y3 : Int) (y4 : Int) (y5 : Int) (y6 : Int) (y7 : Int) (y8 : Int) (y9 : Int) (y10 : List VV) => iterC (codeL PP (words [(58, spec ti_ref01_Of to_ref01_Of (fun q => (ok_ref01_Of F (atI (nth q 0)))) (fun q => [.i (o_ref01_Of_0 F (atI (nth q 0))), .i (o_ref01_Of_1 F (atI (nth q 0)))])), (105, spec ti_ref01_Digits to_ref01_Digits (fun q => (ok_ref01_Digits F (atI (nth q 0)) (atI (nth q 1)))) (fun q => [.c (o_ref01_Digits_0 F (atI (nth q 0)) (atI (nth q 1))), .n (o_ref01_Digits_1 F (atI (nth q 0)) (atI (nth q 1)))])), (51, spec ti_ref01_Add to_ref01_Add (fun q => (ok_ref01_Add F (atI (nth q 0)) (atI (nth q 1)) (atI (nth q 2)) (atI (nth q 3)))) (fun q => [.i (o_ref01_Add_0 F (atI (nth q 0)) (atI (nth q 1)) (atI (nth q 2)) (atI (nth q 3))), .i (o_ref01_Add_1 F (atI (nth q 0)) (atI (nth q 1)) (atI (nth q 2)) (atI (nth q 3)))])), (52, spec ti_ref01_Neg to_ref01_Neg (fun q => (ok_ref01_Neg F (atI (nth q 0)) (atI (nth q 1)))) (fun q => [.i (o_ref01_Neg_0 F (atI (nth q 0)) (atI (nth q 1))), .i (o_ref01_Neg_1 F (atI (nth q 0)) (atI (nth q 1)))]))]) c_ref01_Mul (tabI c_ref01_Mul [⟨0, T_ref01_Mul_0, fun k q => L_ref01_Mul_0 F (fun (z0 : Int) (z1 : Int) (z2 : Nat) (z3 : Int) (z4 : Int) (z5 : Int) (z6 : Int) (z7 : Int) (z8 : Int) (z9 : Int) (z10 : List VV) => k (.exit 0) (fS T_ref01_Mul_0_0 [.i z0, .i z1, .n z2, .i z3, .i z4, .i z5, .i z6, .i z7, .i z8, .i z9, .c z10])) F (atI (nth q 0)) (atI (nth q 1)) (atN (nth q 2)) (atI (nth q 3)) (atI (nth q 4)) (atI (nth q 5)) (atI (nth q 6)) (atI (nth q 7)) (atI (nth q 8)) (atI (nth q 9)) (atC (nth q 10))⟩]) (tabJ []) (loopAt PP 41 0) 0) (headOf c_ref01_Mul 0) k n (fS T_ref01_Mul_0 [.i y0, .i y1, .n y2, .i y3, .i y4, .i y5, .i y6, .i y7, .i y8, .i y9, .c y10])) (fun (z0 : Int) (z1 : Int) (z2 : Nat) (z3 : Int) (z4 : Int) (z5 : Int) (z6 : Int) (z7 : Int) (z8 : Int) (z9 : Int) (z10 : List VV) => k (.exit 0) (fS T_ref01_Mul_0_0 [.i z0, .i z1, .n z2, .i z3, .i z4, .i z5, .i z6, .i z7, .i z8, .i z9, .c z10])) x0 x1 x2 x3 x4 x5 x6 x7 x8 x9 x10 := by
      intros
      kernel_rfl
    have h : iterC (codeL PP (S_ref01_Mul F) c_ref01_Mul (I_ref01_Mul F) (J_ref01_Mul F) (loopAt PP 41 0) 0) (headOf c_ref01_Mul 0) k (n + 1) (fS T_ref01_Mul_0 [.i x0, .i x1, .n x2, .i x3, .i x4, .i x5, .i x6, .i x7, .i x8, .i x9, .c x10]) = B_ref01_Mul_0 F (fun (y0 : Int) (y1 : Int) (y2 : Nat) (y3 : Int) (y4 : Int) (y5 : Int) (y6 : Int) (y7 : Int) (y8 : Int) (y9 : Int) (y10 : List VV) => iterC (codeL PP (S_ref01_Mul F) c_ref01_Mul (I_ref01_Mul F) (J_ref01_Mul F) (loopAt PP 41 0) 0) (headOf c_ref01_Mul 0) k n (fS T_ref01_Mul_0 [.i y0, .i y1, .n y2, .i y3, .i y4, .i y5, .i y6, .i y7, .i y8, .i y9, .c y10])) (fun (z0 : Int) (z1 : Int) (z2 : Nat) (z3 : Int) (z4 : Int) (z5 : Int) (z6 : Int) (z7 : Int) (z8 : Int) (z9 : Int) (z10 : List VV) => k (.exit 0) (fS T_ref01_Mul_0_0 [.i z0, .i z1, .n z2, .i z3, .i z4, .i z5, .i z6, .i z7, .i z8, .i z9, .c z10])) x0 x1 x2 x3 x4 x5 x6 x7 x8 x9 x10 := (h0 ok_ref01_Of o_ref01_Of_0 o_ref01_Of_1 ok_ref01_Digits o_ref01_Digits_0 o_ref01_Digits_1 ok_ref01_Add o_ref01_Add_0 o_ref01_Add_1 ok_ref01_Neg o_ref01_Neg_0 o_ref01_Neg_1 L_ref01_Mul_0).trans (by kernel_rfl)
    rw [h]
    simp only [lL_ref01_Mul_0 F k n]
    rfl
def f_ref01_Mul (F : Nat) (a0 : Int) (a1 : Int) : R :=
  bif (ok_ref01_Of F a0) then (
    bif (ok_ref01_Of F a1) then (
      let v53 : Int := (o_ref01_Of_0 F a1)
      let v54 : Int := (o_ref01_Of_1 F a1)
      bif (ok_ref01_Digits F v53 v54) then (
        L_ref01_Mul_0 F (fun (v240 : Int) (v241 : Int) (v242 : Nat) (v243 : Int) (v244 : Int) (v245 : Int) (v246 : Int) (v247 : Int) (v248 : Int) (v249 : Int) (v250 : List VV) =>
          bif (decide (127 < ((v242 : Nat) : Int))) then (
            bif ((isI .i64 v250[127]?) && true) then (
              bif ((((iv v250[127]?)) == 1)) then (
                bif (ok_ref01_Neg F v248 v249) then (
                  let v286 : Int := (o_ref01_Neg_0 F v248 v249)
                  let v287 : Int := (o_ref01_Neg_1 F v248 v249)
                  bif (ok_ref01_Add F v246 v247 v286 v287) then (
                    some (.v (.agg #[.int .i64 ((o_ref01_Add_0 F v246 v247 v286 v287)), .int .u64 ((o_ref01_Add_1 F v246 v247 v286 v287))])))
                  else (
                    none))
                else (
                  none))
              else (
                some (.v (.agg #[.int .i64 v246, .int .u64 v247]))))
            else (
              none))
          else (
            none)) F a0 a1 ((o_ref01_Digits_1 F v53 v54)) 0 0 0 0 0 ((o_ref01_Of_0 F a0)) ((o_ref01_Of_1 F a0)) ((o_ref01_Digits_0 F v53 v54)))
      else (
        none))
    else (
      none))
  else (
    none)
theorem e_ref01_Mul (F : Nat) (a0 : Int) (a1 : Int) : funL PP (S_ref01_Mul F) c_ref01_Mul (I_ref01_Mul F) (J_ref01_Mul F) 41 (fTs ti_ref01_Mul [.i a0, .i a1]).1 = f_ref01_Mul F a0 a1 := by
  have h : ∀ (ok_ref01_Of : Nat → Int → Bool) (o_ref01_Of_0 : Nat → Int → Int) (o_ref01_Of_1 : Nat → Int → Int) (ok_ref01_Digits : Nat → Int → Int → Bool) (o_ref01_Digits_0 : Nat → Int → Int → List VV) (o_ref01_Digits_1 : Nat → Int → Int → Nat) (ok_ref01_Add : Nat → Int → Int → Int → Int → Bool) (o_ref01_Add_0 : Nat → Int → Int → Int → Int → Int) (o_ref01_Add_1 : Nat → Int → Int → Int → Int → Int) (ok_ref01_Neg : Nat → Int → Int → Bool) (o_ref01_Neg_0 : Nat → Int → Int → Int) (o_ref01_Neg_1 : Nat → Int → Int → Int) (L_ref01_Mul_0 : Nat → (Int → Int → Nat → Int → Int → Int → Int → Int → Int → Int → List VV → R) → Nat → Int → Int → Nat → Int → Int → Int → Int → Int → Int → Int → List VV → R), funL PP (words [(58, spec ti_ref01_Of to_ref01_Of (fun q => (ok_ref01_Of F (atI (nth q 0)))) (fun q => [.i (o_ref01_Of_0 F (atI (nth q 0))), .i (o_ref01_Of_1 F (atI (nth q 0)))])), (105, spec ti_ref01_Digits to_ref01_Digits (fun q => (ok_ref01_Digits F (atI (nth q 0)) (atI (nth q 1)))) (fun q => [.c (o_ref01_Digits_0 F (atI (nth q 0)) (atI (nth q 1))), .n (o_ref01_Digits_1 F (atI (nth q 0)) (atI (nth q 1)))])), (51, spec ti_ref01_Add to_ref01_Add (fun q => (ok_ref01_Add F (atI (nth q 0)) (atI (nth q 1)) (atI (nth q 2)) (atI (nth q 3)))) (fun q => [.i (o_ref01_Add_0 F (atI (nth q 0)) (atI (nth q 1)) (atI (nth q 2)) (atI (nth q 3))), .i (o_ref01_Add_1 F (atI (nth q 0)) (atI (nth q 1)) (atI (nth q 2)) (atI (nth q 3)))])), (52, spec ti_ref01_Neg to_ref01_Neg (fun q => (ok_ref01_Neg F (atI (nth q 0)) (atI (nth q 1)))) (fun q => [.i (o_ref01_Neg_0 F (atI (nth q 0)) (atI (nth q 1))), .i (o_ref01_Neg_1 F (atI (nth q 0)) (atI (nth q 1)))]))]) c_ref01_Mul (tabI c_ref01_Mul [⟨0, T_ref01_Mul_0, fun k q => L_ref01_Mul_0 F (fun (z0 : Int) (z1 : Int) (z2 : Nat) (z3 : Int) (z4 : Int) (z5 : Int) (z6 : Int) (z7 : Int) (z8 : Int) (z9 : Int) (z10 : List VV) => k (.exit 0) (fS T_ref01_Mul_0_0 [.i z0, .i z1, .n z2, .i z3, .i z4, .i z5, .i z6, .i z7, .i z8, .i z9, .c z10])) F (atI (nth q 0)) (atI (nth q 1)) (atN (nth q 2)) (atI (nth q 3)) (atI (nth q 4)) (atI (nth q 5)) (atI (nth q 6)) (atI (nth q 7)) (atI (nth q 8)) (atI (nth q 9)) (atC (nth q 10))⟩]) (tabJ []) 41 (fTs ti_ref01_Mul [.i a0, .i a1]).1 = (
  bif (ok_ref01_Of F a0) then (
    bif (ok_ref01_Of F a1) then (
      let v53 : Int := (o_ref01_Of_0 F a1)
      let v54 : Int := (o_ref01_Of_1 F a1)
      bif (ok_ref01_Digits F v53 v54) then (
        L_ref01_Mul_0 F (fun (v240 : Int) (v241 : Int) (v242 : Nat) (v243 : Int) (v244 : Int) (v245 : Int) (v246 : Int) (v247 : Int) (v248 : Int) (v249 : Int) (v250 : List VV) =>
          bif (decide (127 < ((v242 : Nat) : Int))) then (
            bif ((isI .i64 v250[127]?) && true) then (
              bif ((((iv v250[127]?)) == 1)) then (
                bif (ok_ref01_Neg F v248 v249) then (
                  let v286 : Int := (o_ref01_Neg_0 F v248 v249)
                  let v287 : Int := (o_ref01_Neg_1 F v248 v249)
                  bif (ok_ref01_Add F v246 v247 v286 v287) then (
                    some (.v (.agg #[.int .i64 ((o_ref01_Add_0 F v246 v247 v286 v287)), .int .u64 ((o_ref01_Add_1 F v246 v247 v286 v287))])))
                  else (
                    none))
                else (
                  none))
              else (
                some (.v (.agg #[.int .i64 v246, .int .u64 v247]))))
            else (
              none))
          else (
            none)) F a0 a1 ((o_ref01_Digits_1 F v53 v54)) 0 0 0 0 0 ((o_ref01_Of_0 F a0)) ((o_ref01_Of_1 F a0)) ((o_ref01_Digits_0 F v53 v54)))
      else (
        none))
    else (
      none))
  else (
    none) : R) := by
    intros
    kernel_rfl
  exact (h ok_ref01_Of o_ref01_Of_0 o_ref01_Of_1 ok_ref01_Digits o_ref01_Digits_0 o_ref01_Digits_1 ok_ref01_Add o_ref01_Add_0 o_ref01_Add_1 ok_ref01_Neg o_ref01_Neg_0 o_ref01_Neg_1 L_ref01_Mul_0).trans (by kernel_rfl)
def ok_ref01_Mul (F : Nat) (a0 : Int) (a1 : Int) : Bool := okT to_ref01_Mul (f_ref01_Mul F a0 a1)
def o_ref01_Mul_0 (F : Nat) (a0 : Int) (a1 : Int) : Int := atI (nth (outT to_ref01_Mul (f_ref01_Mul F a0 a1)) 0)
def o_ref01_Mul_1 (F : Nat) (a0 : Int) (a1 : Int) : Int := atI (nth (outT to_ref01_Mul (f_ref01_Mul F a0 a1)) 1)
theorem k_ref01_Mul (F : Nat) (a0 : Int) (a1 : Int) {z0 : Int} {z1 : Int} (h : f_ref01_Mul F a0 a1 = some (.v (.agg #[.int .i64 z0, .int .u64 z1]))) : ok_ref01_Mul F a0 a1 = true ∧ o_ref01_Mul_0 F a0 a1 = z0 ∧ o_ref01_Mul_1 F a0 a1 = z1 := by
  refine ⟨?_, ?_, ?_⟩
  · unfold ok_ref01_Mul; rw [h]; kernel_rfl
  · unfold o_ref01_Mul_0; rw [h]; kernel_rfl
  · unfold o_ref01_Mul_1; rw [h]; kernel_rfl
def s_ref01_Mul (F : Nat) : List VV → Option (Bool × VV) := spec ti_ref01_Mul to_ref01_Mul (fun q => (ok_ref01_Mul F (atI (nth q 0)) (atI (nth q 1)))) (fun q => [.i (o_ref01_Mul_0 F (atI (nth q 0)) (atI (nth q 1))), .i (o_ref01_Mul_1 F (atI (nth q 0)) (atI (nth q 1)))])
theorem hS_ref01_Mul (F : Nat) : ∀ f, Good PP f (unS (S_ref01_Mul F f)) := words_good fun p hp => by
  simp only [List.mem_cons, List.not_mem_nil, or_false] at hp
  rcases hp with rfl | rfl | rfl | rfl
  · exact g_ref01_Of F
  · exact g_ref01_Digits F
  · exact g_ref01_Add F
  · exact g_ref01_Neg F
theorem hl_ref01_Mul (F : Nat) : ∀ p ∈ loopsIn PP 41, LoopOK PP (S_ref01_Mul F) c_ref01_Mul F (I_ref01_Mul F) (J_ref01_Mul F) p :=
  loops_of [(0, loopAt PP 41 0)] (by kernel_rfl) (all_cons
    (loop_ok (W_ref01_Mul F) rfl (tab_cons (fun _ k q => Le.ofEq ((lL_ref01_Mul_0 F k F (atI (nth q 0)) (atI (nth q 1)) (atN (nth q 2)) (atI (nth q 3)) (atI (nth q 4)) (atI (nth q 5)) (atI (nth q 6)) (atI (nth q 7)) (atI (nth q 8)) (atI (nth q 9)) (atC (nth q 10))).symm.trans (congrArg (iterC (codeL PP (S_ref01_Mul F) c_ref01_Mul (I_ref01_Mul F) (J_ref01_Mul F) (loopAt PP 41 0) 0) (headOf c_ref01_Mul 0) k F) (show fS T_ref01_Mul_0 [.i (atI (nth q 0)), .i (atI (nth q 1)), .n (atN (nth q 2)), .i (atI (nth q 3)), .i (atI (nth q 4)), .i (atI (nth q 5)), .i (atI (nth q 6)), .i (atI (nth q 7)), .i (atI (nth q 8)), .i (atI (nth q 9)), .c (atC (nth q 10))] = fS T_ref01_Mul_0 q by kernel_rfl)))) tab_nil)) all_nil)
theorem hj_ref01_Mul (F : Nat) : ∀ p ∈ joinsIn PP c_ref01_Mul 41, JoinOK PP (S_ref01_Mul F) c_ref01_Mul (I_ref01_Mul F) (J_ref01_Mul F) p :=
  joins_of [] (by kernel_rfl) all_nil
theorem g_ref01_Mul (F : Nat) : Good PP 41 (unS (s_ref01_Mul F)) :=
  fun_spec (hS_ref01_Mul F) (by kernel_rfl) (by kernel_rfl) (C := c_ref01_Mul) (F := fun q => (f_ref01_Mul F (atI (nth q 0)) (atI (nth q 1)))) (fun _ => F) (fun _ => I_ref01_Mul F) (fun _ => J_ref01_Mul F) (fun _ => hl_ref01_Mul F) (fun _ => hj_ref01_Mul F)
    (fun q => (congrArg (funL PP (S_ref01_Mul F) c_ref01_Mul (I_ref01_Mul F) (J_ref01_Mul F) 41) (show (fTs ti_ref01_Mul q).1 = (fTs ti_ref01_Mul [.i (atI (nth q 0)), .i (atI (nth q 1))]).1 by kernel_rfl)).trans (e_ref01_Mul F (atI (nth q 0)) (atI (nth q 1))))
    (fun _ h => (okT_fill h).trans (congrArg some (by kernel_rfl)))

end Go.Xv
set_option linter.unusedVariables false
namespace Go.Xv
/- 57 _wide_Of -/
def c_wide_Of : Cfg := ⟨[0, 2], [], [], []⟩
def ti_wide_Of : List TV := [.v (.int .i64)]
def to_wide_Of : TV := .v (.agg [.int .i64, .int .u64])
def S_wide_Of (F : Nat) : FuncId → List VV → Option (Bool × VV) := words []
def W_wide_Of (F : Nat) : List LW := []
def I_wide_Of (F : Nat) : Nat → VS → (Exit → VS → R) → R := tabI c_wide_Of (W_wide_Of F)
def WJ_wide_Of (F : Nat) : List LJ := []
def J_wide_Of (F : Nat) : Nat → Nat → VS → (Exit → VS → R) → R := tabJ (WJ_wide_Of F)
def f_wide_Of (F : Nat) (a0 : Int) : R :=
  some (.v (.agg #[.int .i64 ((Int.fdiv a0 (9223372036854775808))), .int .u64 ((IntKind.wrap .u64 a0))]))
theorem e_wide_Of (F : Nat) (a0 : Int) : funL PP (S_wide_Of F) c_wide_Of (I_wide_Of F) (J_wide_Of F) 57 (fTs ti_wide_Of [.i a0]).1 = f_wide_Of F a0 := by
  have h : ∀ (_ : Unit), funL PP (words []) c_wide_Of (tabI c_wide_Of []) (tabJ []) 57 (fTs ti_wide_Of [.i a0]).1 = (
  some (.v (.agg #[.int .i64 ((Int.fdiv a0 (9223372036854775808))), .int .u64 ((IntKind.wrap .u64 a0))])) : R) := by
    intros
    kernel_rfl
  exact (h ()).trans (by kernel_rfl)
def ok_wide_Of (F : Nat) (a0 : Int) : Bool := okT to_wide_Of (f_wide_Of F a0)
def o_wide_Of_0 (F : Nat) (a0 : Int) : Int := atI (nth (outT to_wide_Of (f_wide_Of F a0)) 0)
def o_wide_Of_1 (F : Nat) (a0 : Int) : Int := atI (nth (outT to_wide_Of (f_wide_Of F a0)) 1)
theorem k_wide_Of (F : Nat) (a0 : Int) {z0 : Int} {z1 : Int} (h : f_wide_Of F a0 = some (.v (.agg #[.int .i64 z0, .int .u64 z1]))) : ok_wide_Of F a0 = true ∧ o_wide_Of_0 F a0 = z0 ∧ o_wide_Of_1 F a0 = z1 := by
  refine ⟨?_, ?_, ?_⟩
  · unfold ok_wide_Of; rw [h]; kernel_rfl
  · unfold o_wide_Of_0; rw [h]; kernel_rfl
  · unfold o_wide_Of_1; rw [h]; kernel_rfl
def s_wide_Of (F : Nat) : List VV → Option (Bool × VV) := spec ti_wide_Of to_wide_Of (fun q => (ok_wide_Of F (atI (nth q 0)))) (fun q => [.i (o_wide_Of_0 F (atI (nth q 0))), .i (o_wide_Of_1 F (atI (nth q 0)))])
theorem hS_wide_Of (F : Nat) : ∀ f, Good PP f (unS (S_wide_Of F f)) := words_good fun p hp => by
  cases hp
theorem hl_wide_Of (F : Nat) : ∀ p ∈ loopsIn PP 57, LoopOK PP (S_wide_Of F) c_wide_Of F (I_wide_Of F) (J_wide_Of F) p :=
  loops_of [] (by kernel_rfl) all_nil
theorem hj_wide_Of (F : Nat) : ∀ p ∈ joinsIn PP c_wide_Of 57, JoinOK PP (S_wide_Of F) c_wide_Of (I_wide_Of F) (J_wide_Of F) p :=
  joins_of [] (by kernel_rfl) all_nil
theorem g_wide_Of (F : Nat) : Good PP 57 (unS (s_wide_Of F)) :=
  fun_spec (hS_wide_Of F) (by kernel_rfl) (by kernel_rfl) (C := c_wide_Of) (F := fun q => (f_wide_Of F (atI (nth q 0)))) (fun _ => F) (fun _ => I_wide_Of F) (fun _ => J_wide_Of F) (fun _ => hl_wide_Of F) (fun _ => hj_wide_Of F)
    (fun q => (congrArg (funL PP (S_wide_Of F) c_wide_Of (I_wide_Of F) (J_wide_Of F) 57) (show (fTs ti_wide_Of q).1 = (fTs ti_wide_Of [.i (atI (nth q 0))]).1 by kernel_rfl)).trans (e_wide_Of F (atI (nth q 0))))
    (fun _ h => (okT_fill h).trans (congrArg some (by kernel_rfl)))

end Go.Xv
set_option linter.unusedVariables false
namespace Go.Xv
/- 47 _wide_Right -/
def c_wide_Right : Cfg := ⟨[0, 1, 2, 4, 8], [], [], []⟩
def ti_wide_Right : List TV := [.v (.agg [.int .i64, .int .u64]), .v (.int .i64)]
def to_wide_Right : TV := .v (.agg [.int .i64, .int .u64])
def S_wide_Right (F : Nat) : FuncId → List VV → Option (Bool × VV) := words [(57, s_wide_Of F)]
def W_wide_Right (F : Nat) : List LW := []
def I_wide_Right (F : Nat) : Nat → VS → (Exit → VS → R) → R := tabI c_wide_Right (W_wide_Right F)
def WJ_wide_Right (F : Nat) : List LJ := []
def J_wide_Right (F : Nat) : Nat → Nat → VS → (Exit → VS → R) → R := tabJ (WJ_wide_Right F)
def f_wide_Right (F : Nat) (a0 : Int) (a1 : Int) (a2 : Int) : R :=
  let v302 : Int := (if 0 > a2 then 0 else a2)
  let v303 : Int := (if 127 < v302 then 127 else v302)
  bif ((decide (v303 ≥ 64))) then (
    let v305 : Int := (IntKind.wrap .i64 (v303 - 64))
    bif (!(decide (v305 < 0))) then (
      let v306 : Int := (Int.fdiv a0 (2 ^ (min (Int.toNat v305) 64)))
      bif (ok_wide_Of F v306) then (
        some (.v (.agg #[.int .i64 ((o_wide_Of_0 F v306)), .int .u64 ((o_wide_Of_1 F v306))])))
      else (
        none))
    else (
      none))
  else (
    bif (!(decide (v303 < 0))) then (
      bif (!(decide (v303 < 0))) then (
        let v312 : Int := (IntKind.wrap .i64 (64 - v303))
        bif (!(decide (v312 < 0))) then (
          some (.v (.agg #[.int .i64 ((Int.fdiv a0 (2 ^ (min (Int.toNat v303) 64)))), .int .u64 ((orI .u64 ((Int.fdiv a1 (2 ^ (min (Int.toNat v303) 64)))) ((IntKind.wrap .u64 (((IntKind.wrap .u64 a0)) * 2 ^ (min (Int.toNat v312) 64))))))])))
        else (
          none))
      else (
        none))
    else (
      none))
theorem e_wide_Right (F : Nat) (a0 : Int) (a1 : Int) (a2 : Int) : funL PP (S_wide_Right F) c_wide_Right (I_wide_Right F) (J_wide_Right F) 47 (fTs ti_wide_Right [.i a0, .i a1, .i a2]).1 = f_wide_Right F a0 a1 a2 := by
  have h : ∀ (ok_wide_Of : Nat → Int → Bool) (o_wide_Of_0 : Nat → Int → Int) (o_wide_Of_1 : Nat → Int → Int), funL PP (words [(57, spec ti_wide_Of to_wide_Of (fun q => (ok_wide_Of F (atI (nth q 0)))) (fun q => [.i (o_wide_Of_0 F (atI (nth q 0))), .i (o_wide_Of_1 F (atI (nth q 0)))]))]) c_wide_Right (tabI c_wide_Right []) (tabJ []) 47 (fTs ti_wide_Right [.i a0, .i a1, .i a2]).1 = (
  let v302 : Int := (if 0 > a2 then 0 else a2)
  let v303 : Int := (if 127 < v302 then 127 else v302)
  bif ((decide (v303 ≥ 64))) then (
    let v305 : Int := (IntKind.wrap .i64 (v303 - 64))
    bif (!(decide (v305 < 0))) then (
      let v306 : Int := (Int.fdiv a0 (2 ^ (min (Int.toNat v305) 64)))
      bif (ok_wide_Of F v306) then (
        some (.v (.agg #[.int .i64 ((o_wide_Of_0 F v306)), .int .u64 ((o_wide_Of_1 F v306))])))
      else (
        none))
    else (
      none))
  else (
    bif (!(decide (v303 < 0))) then (
      bif (!(decide (v303 < 0))) then (
        let v312 : Int := (IntKind.wrap .i64 (64 - v303))
        bif (!(decide (v312 < 0))) then (
          some (.v (.agg #[.int .i64 ((Int.fdiv a0 (2 ^ (min (Int.toNat v303) 64)))), .int .u64 ((orI .u64 ((Int.fdiv a1 (2 ^ (min (Int.toNat v303) 64)))) ((IntKind.wrap .u64 (((IntKind.wrap .u64 a0)) * 2 ^ (min (Int.toNat v312) 64))))))])))
        else (
          none))
      else (
        none))
    else (
      none)) : R) := by
    intros
    kernel_rfl
  exact (h ok_wide_Of o_wide_Of_0 o_wide_Of_1).trans (by kernel_rfl)
def ok_wide_Right (F : Nat) (a0 : Int) (a1 : Int) (a2 : Int) : Bool := okT to_wide_Right (f_wide_Right F a0 a1 a2)
def o_wide_Right_0 (F : Nat) (a0 : Int) (a1 : Int) (a2 : Int) : Int := atI (nth (outT to_wide_Right (f_wide_Right F a0 a1 a2)) 0)
def o_wide_Right_1 (F : Nat) (a0 : Int) (a1 : Int) (a2 : Int) : Int := atI (nth (outT to_wide_Right (f_wide_Right F a0 a1 a2)) 1)
theorem k_wide_Right (F : Nat) (a0 : Int) (a1 : Int) (a2 : Int) {z0 : Int} {z1 : Int} (h : f_wide_Right F a0 a1 a2 = some (.v (.agg #[.int .i64 z0, .int .u64 z1]))) : ok_wide_Right F a0 a1 a2 = true ∧ o_wide_Right_0 F a0 a1 a2 = z0 ∧ o_wide_Right_1 F a0 a1 a2 = z1 := by
  refine ⟨?_, ?_, ?_⟩
  · unfold ok_wide_Right; rw [h]; kernel_rfl
  · unfold o_wide_Right_0; rw [h]; kernel_rfl
  · unfold o_wide_Right_1; rw [h]; kernel_rfl
def s_wide_Right (F : Nat) : List VV → Option (Bool × VV) := spec ti_wide_Right to_wide_Right (fun q => (ok_wide_Right F (atI (nth q 0)) (atI (nth q 1)) (atI (nth q 2)))) (fun q => [.i (o_wide_Right_0 F (atI (nth q 0)) (atI (nth q 1)) (atI (nth q 2))), .i (o_wide_Right_1 F (atI (nth q 0)) (atI (nth q 1)) (atI (nth q 2)))])
theorem hS_wide_Right (F : Nat) : ∀ f, Good PP f (unS (S_wide_Right F f)) := words_good fun p hp => by
  simp only [List.mem_cons, List.not_mem_nil, or_false] at hp
  rcases hp with rfl
  · exact g_wide_Of F
theorem hl_wide_Right (F : Nat) : ∀ p ∈ loopsIn PP 47, LoopOK PP (S_wide_Right F) c_wide_Right F (I_wide_Right F) (J_wide_Right F) p :=
  loops_of [] (by kernel_rfl) all_nil
theorem hj_wide_Right (F : Nat) : ∀ p ∈ joinsIn PP c_wide_Right 47, JoinOK PP (S_wide_Right F) c_wide_Right (I_wide_Right F) (J_wide_Right F) p :=
  joins_of [] (by kernel_rfl) all_nil
theorem g_wide_Right (F : Nat) : Good PP 47 (unS (s_wide_Right F)) :=
  fun_spec (hS_wide_Right F) (by kernel_rfl) (by kernel_rfl) (C := c_wide_Right) (F := fun q => (f_wide_Right F (atI (nth q 0)) (atI (nth q 1)) (atI (nth q 2)))) (fun _ => F) (fun _ => I_wide_Right F) (fun _ => J_wide_Right F) (fun _ => hl_wide_Right F) (fun _ => hj_wide_Right F)
    (fun q => (congrArg (funL PP (S_wide_Right F) c_wide_Right (I_wide_Right F) (J_wide_Right F) 47) (show (fTs ti_wide_Right q).1 = (fTs ti_wide_Right [.i (atI (nth q 0)), .i (atI (nth q 1)), .i (atI (nth q 2))]).1 by kernel_rfl)).trans (e_wide_Right F (atI (nth q 0)) (atI (nth q 1)) (atI (nth q 2))))
    (fun _ h => (okT_fill h).trans (congrArg some (by kernel_rfl)))

end Go.Xv
set_option linter.unusedVariables false
namespace Go.Xv
/- 49 _wide_Near -/
def c_wide_Near : Cfg := ⟨[0, 1, 2, 4, 8], [], [12], []⟩
def ti_wide_Near : List TV := [.v (.agg [.int .i64, .int .u64]), .v (.int .i64)]
def to_wide_Near : TV := .v (.agg [.int .i64, .int .u64])
def S_wide_Near (F : Nat) : FuncId → List VV → Option (Bool × VV) := words [(47, s_wide_Right F), (43, s_wide_Add F)]
def W_wide_Near (F : Nat) : List LW := []
def I_wide_Near (F : Nat) : Nat → VS → (Exit → VS → R) → R := tabI c_wide_Near (W_wide_Near F)
def WJ_wide_Near (F : Nat) : List LJ := []
def J_wide_Near (F : Nat) : Nat → Nat → VS → (Exit → VS → R) → R := tabJ (WJ_wide_Near F)
def f_wide_Near (F : Nat) (a0 : Int) (a1 : Int) (a2 : Int) : R :=
  let v300 : Int := (if 127 < a2 then 127 else a2)
  bif ((decide (v300 ≤ 0))) then (
    some (.v (.agg #[.int .i64 a0, .int .u64 a1])))
  else (
    bif (ok_wide_Right F a0 a1 v300) then (
      let v315 : Int := (o_wide_Right_0 F a0 a1 v300)
      let v316 : Int := (o_wide_Right_1 F a0 a1 v300)
      let v317 : Int := (IntKind.wrap .i64 (v300 - 1))
      bif (ok_wide_Right F a0 a1 v317) then (
        let v320 : Int := (andI .u64 ((o_wide_Right_1 F a0 a1 v317)) 1)
        bif (ok_wide_Add F v315 v316 0 v320) then (
          some (.v (.agg #[.int .i64 ((o_wide_Add_0 F v315 v316 0 v320)), .int .u64 ((o_wide_Add_1 F v315 v316 0 v320))])))
        else (
          none))
      else (
        none))
    else (
      none))
theorem e_wide_Near (F : Nat) (a0 : Int) (a1 : Int) (a2 : Int) : funL PP (S_wide_Near F) c_wide_Near (I_wide_Near F) (J_wide_Near F) 49 (fTs ti_wide_Near [.i a0, .i a1, .i a2]).1 = f_wide_Near F a0 a1 a2 := by
  have h : ∀ (ok_wide_Right : Nat → Int → Int → Int → Bool) (o_wide_Right_0 : Nat → Int → Int → Int → Int) (o_wide_Right_1 : Nat → Int → Int → Int → Int) (ok_wide_Add : Nat → Int → Int → Int → Int → Bool) (o_wide_Add_0 : Nat → Int → Int → Int → Int → Int) (o_wide_Add_1 : Nat → Int → Int → Int → Int → Int), funL PP (words [(47, spec ti_wide_Right to_wide_Right (fun q => (ok_wide_Right F (atI (nth q 0)) (atI (nth q 1)) (atI (nth q 2)))) (fun q => [.i (o_wide_Right_0 F (atI (nth q 0)) (atI (nth q 1)) (atI (nth q 2))), .i (o_wide_Right_1 F (atI (nth q 0)) (atI (nth q 1)) (atI (nth q 2)))])), (43, spec ti_wide_Add to_wide_Add (fun q => (ok_wide_Add F (atI (nth q 0)) (atI (nth q 1)) (atI (nth q 2)) (atI (nth q 3)))) (fun q => [.i (o_wide_Add_0 F (atI (nth q 0)) (atI (nth q 1)) (atI (nth q 2)) (atI (nth q 3))), .i (o_wide_Add_1 F (atI (nth q 0)) (atI (nth q 1)) (atI (nth q 2)) (atI (nth q 3)))]))]) c_wide_Near (tabI c_wide_Near []) (tabJ []) 49 (fTs ti_wide_Near [.i a0, .i a1, .i a2]).1 = (
  let v300 : Int := (if 127 < a2 then 127 else a2)
  bif ((decide (v300 ≤ 0))) then (
    some (.v (.agg #[.int .i64 a0, .int .u64 a1])))
  else (
    bif (ok_wide_Right F a0 a1 v300) then (
      let v315 : Int := (o_wide_Right_0 F a0 a1 v300)
      let v316 : Int := (o_wide_Right_1 F a0 a1 v300)
      let v317 : Int := (IntKind.wrap .i64 (v300 - 1))
      bif (ok_wide_Right F a0 a1 v317) then (
        let v320 : Int := (andI .u64 ((o_wide_Right_1 F a0 a1 v317)) 1)
        bif (ok_wide_Add F v315 v316 0 v320) then (
          some (.v (.agg #[.int .i64 ((o_wide_Add_0 F v315 v316 0 v320)), .int .u64 ((o_wide_Add_1 F v315 v316 0 v320))])))
        else (
          none))
      else (
        none))
    else (
      none)) : R) := by
    intros
    kernel_rfl
  exact (h ok_wide_Right o_wide_Right_0 o_wide_Right_1 ok_wide_Add o_wide_Add_0 o_wide_Add_1).trans (by kernel_rfl)
def ok_wide_Near (F : Nat) (a0 : Int) (a1 : Int) (a2 : Int) : Bool := okT to_wide_Near (f_wide_Near F a0 a1 a2)
def o_wide_Near_0 (F : Nat) (a0 : Int) (a1 : Int) (a2 : Int) : Int := atI (nth (outT to_wide_Near (f_wide_Near F a0 a1 a2)) 0)
def o_wide_Near_1 (F : Nat) (a0 : Int) (a1 : Int) (a2 : Int) : Int := atI (nth (outT to_wide_Near (f_wide_Near F a0 a1 a2)) 1)
theorem k_wide_Near (F : Nat) (a0 : Int) (a1 : Int) (a2 : Int) {z0 : Int} {z1 : Int} (h : f_wide_Near F a0 a1 a2 = some (.v (.agg #[.int .i64 z0, .int .u64 z1]))) : ok_wide_Near F a0 a1 a2 = true ∧ o_wide_Near_0 F a0 a1 a2 = z0 ∧ o_wide_Near_1 F a0 a1 a2 = z1 := by
  refine ⟨?_, ?_, ?_⟩
  · unfold ok_wide_Near; rw [h]; kernel_rfl
  · unfold o_wide_Near_0; rw [h]; kernel_rfl
  · unfold o_wide_Near_1; rw [h]; kernel_rfl
def s_wide_Near (F : Nat) : List VV → Option (Bool × VV) := spec ti_wide_Near to_wide_Near (fun q => (ok_wide_Near F (atI (nth q 0)) (atI (nth q 1)) (atI (nth q 2)))) (fun q => [.i (o_wide_Near_0 F (atI (nth q 0)) (atI (nth q 1)) (atI (nth q 2))), .i (o_wide_Near_1 F (atI (nth q 0)) (atI (nth q 1)) (atI (nth q 2)))])
theorem hS_wide_Near (F : Nat) : ∀ f, Good PP f (unS (S_wide_Near F f)) := words_good fun p hp => by
  simp only [List.mem_cons, List.not_mem_nil, or_false] at hp
  rcases hp with rfl | rfl
  · exact g_wide_Right F
  · exact g_wide_Add F
theorem hl_wide_Near (F : Nat) : ∀ p ∈ loopsIn PP 49, LoopOK PP (S_wide_Near F) c_wide_Near F (I_wide_Near F) (J_wide_Near F) p :=
  loops_of [] (by kernel_rfl) all_nil
theorem hj_wide_Near (F : Nat) : ∀ p ∈ joinsIn PP c_wide_Near 49, JoinOK PP (S_wide_Near F) c_wide_Near (I_wide_Near F) (J_wide_Near F) p :=
  joins_of [] (by kernel_rfl) all_nil
theorem g_wide_Near (F : Nat) : Good PP 49 (unS (s_wide_Near F)) :=
  fun_spec (hS_wide_Near F) (by kernel_rfl) (by kernel_rfl) (C := c_wide_Near) (F := fun q => (f_wide_Near F (atI (nth q 0)) (atI (nth q 1)) (atI (nth q 2)))) (fun _ => F) (fun _ => I_wide_Near F) (fun _ => J_wide_Near F) (fun _ => hl_wide_Near F) (fun _ => hj_wide_Near F)
    (fun q => (congrArg (funL PP (S_wide_Near F) c_wide_Near (I_wide_Near F) (J_wide_Near F) 49) (show (fTs ti_wide_Near q).1 = (fTs ti_wide_Near [.i (atI (nth q 0)), .i (atI (nth q 1)), .i (atI (nth q 2))]).1 by kernel_rfl)).trans (e_wide_Near F (atI (nth q 0)) (atI (nth q 1)) (atI (nth q 2))))
    (fun _ h => (okT_fill h).trans (congrArg some (by kernel_rfl)))

end Go.Xv
set_option linter.unusedVariables false
namespace Go.Xv
/- 42 _law01_works -/
def c_law01_works : Cfg := ⟨[0], [], [5, 11], []⟩
def ti_law01_works : List TV := []
def to_law01_works : TV := .v (.bool)
def S_law01_works (F : Nat) : FuncId → List VV → Option (Bool × VV) := words [(40, s_wide_Mul F), (57, s_wide_Of F), (49, s_wide_Near F)]
def W_law01_works (F : Nat) : List LW := []
def I_law01_works (F : Nat) : Nat → VS → (Exit → VS → R) → R := tabI c_law01_works (W_law01_works F)
def WJ_law01_works (F : Nat) : List LJ := []
def J_law01_works (F : Nat) : Nat → Nat → VS → (Exit → VS → R) → R := tabJ (WJ_law01_works F)
def f_law01_works (F : Nat) : R :=
  bif (ok_wide_Mul F 4611686018427387904 4) then (
    bif (((((o_wide_Mul_0 F 4611686018427387904 4)) == 1) && (((o_wide_Mul_1 F 4611686018427387904 4)) == 0))) then (
      bif (ok_wide_Of F 3) then (
        let v298 : Int := (o_wide_Of_0 F 3)
        let v299 : Int := (o_wide_Of_1 F 3)
        bif (ok_wide_Near F v298 v299 1) then (
          bif (ok_wide_Of F 2) then (
            bif (((((o_wide_Near_0 F v298 v299 1)) == ((o_wide_Of_0 F 2))) && (((o_wide_Near_1 F v298 v299 1)) == ((o_wide_Of_1 F 2))))) then (
              bif (ok_wide_Of F ((-3))) then (
                let v328 : Int := (o_wide_Of_0 F ((-3)))
                let v329 : Int := (o_wide_Of_1 F ((-3)))
                bif (ok_wide_Near F v328 v329 1) then (
                  bif (ok_wide_Of F ((-1))) then (
                    bif (((((o_wide_Near_0 F v328 v329 1)) == ((o_wide_Of_0 F ((-1))))) && (((o_wide_Near_1 F v328 v329 1)) == ((o_wide_Of_1 F ((-1))))))) then (
                      bif (ok_wide_Of F ((-1))) then (
                        some (.v (.bool (((((o_wide_Of_0 F ((-1)))) == (-1)) && (((o_wide_Of_1 F ((-1)))) == 18446744073709551615))))))
                      else (
                        none))
                    else (
                      some (.v (.bool false))))
                  else (
                    none))
                else (
                  none))
              else (
                none))
            else (
              some (.v (.bool false))))
          else (
            none))
        else (
          none))
      else (
        none))
    else (
      some (.v (.bool false))))
  else (
    none)
theorem e_law01_works (F : Nat) : funL PP (S_law01_works F) c_law01_works (I_law01_works F) (J_law01_works F) 42 (fTs ti_law01_works []).1 = f_law01_works F := by
  have h : ∀ (ok_wide_Mul : Nat → Int → Int → Bool) (o_wide_Mul_0 : Nat → Int → Int → Int) (o_wide_Mul_1 : Nat → Int → Int → Int) (ok_wide_Of : Nat → Int → Bool) (o_wide_Of_0 : Nat → Int → Int) (o_wide_Of_1 : Nat → Int → Int) (ok_wide_Near : Nat → Int → Int → Int → Bool) (o_wide_Near_0 : Nat → Int → Int → Int → Int) (o_wide_Near_1 : Nat → Int → Int → Int → Int), funL PP (words [(40, spec ti_wide_Mul to_wide_Mul (fun q => (ok_wide_Mul F (atI (nth q 0)) (atI (nth q 1)))) (fun q => [.i (o_wide_Mul_0 F (atI (nth q 0)) (atI (nth q 1))), .i (o_wide_Mul_1 F (atI (nth q 0)) (atI (nth q 1)))])), (57, spec ti_wide_Of to_wide_Of (fun q => (ok_wide_Of F (atI (nth q 0)))) (fun q => [.i (o_wide_Of_0 F (atI (nth q 0))), .i (o_wide_Of_1 F (atI (nth q 0)))])), (49, spec ti_wide_Near to_wide_Near (fun q => (ok_wide_Near F (atI (nth q 0)) (atI (nth q 1)) (atI (nth q 2)))) (fun q => [.i (o_wide_Near_0 F (atI (nth q 0)) (atI (nth q 1)) (atI (nth q 2))), .i (o_wide_Near_1 F (atI (nth q 0)) (atI (nth q 1)) (atI (nth q 2)))]))]) c_law01_works (tabI c_law01_works []) (tabJ []) 42 (fTs ti_law01_works []).1 = (
  bif (ok_wide_Mul F 4611686018427387904 4) then (
    bif (((((o_wide_Mul_0 F 4611686018427387904 4)) == 1) && (((o_wide_Mul_1 F 4611686018427387904 4)) == 0))) then (
      bif (ok_wide_Of F 3) then (
        let v298 : Int := (o_wide_Of_0 F 3)
        let v299 : Int := (o_wide_Of_1 F 3)
        bif (ok_wide_Near F v298 v299 1) then (
          bif (ok_wide_Of F 2) then (
            bif (((((o_wide_Near_0 F v298 v299 1)) == ((o_wide_Of_0 F 2))) && (((o_wide_Near_1 F v298 v299 1)) == ((o_wide_Of_1 F 2))))) then (
              bif (ok_wide_Of F ((-3))) then (
                let v328 : Int := (o_wide_Of_0 F ((-3)))
                let v329 : Int := (o_wide_Of_1 F ((-3)))
                bif (ok_wide_Near F v328 v329 1) then (
                  bif (ok_wide_Of F ((-1))) then (
                    bif (((((o_wide_Near_0 F v328 v329 1)) == ((o_wide_Of_0 F ((-1))))) && (((o_wide_Near_1 F v328 v329 1)) == ((o_wide_Of_1 F ((-1))))))) then (
                      bif (ok_wide_Of F ((-1))) then (
                        some (.v (.bool (((((o_wide_Of_0 F ((-1)))) == (-1)) && (((o_wide_Of_1 F ((-1)))) == 18446744073709551615))))))
                      else (
                        none))
                    else (
                      some (.v (.bool false))))
                  else (
                    none))
                else (
                  none))
              else (
                none))
            else (
              some (.v (.bool false))))
          else (
            none))
        else (
          none))
      else (
        none))
    else (
      some (.v (.bool false))))
  else (
    none) : R) := by
    intros
    kernel_rfl
  exact (h ok_wide_Mul o_wide_Mul_0 o_wide_Mul_1 ok_wide_Of o_wide_Of_0 o_wide_Of_1 ok_wide_Near o_wide_Near_0 o_wide_Near_1).trans (by kernel_rfl)
def ok_law01_works (F : Nat) : Bool := okT to_law01_works (f_law01_works F)
def o_law01_works_0 (F : Nat) : Bool := atB (nth (outT to_law01_works (f_law01_works F)) 0)
theorem k_law01_works (F : Nat) {z0 : Bool} (h : f_law01_works F = some (.v (.bool z0))) : ok_law01_works F = true ∧ o_law01_works_0 F = z0 := by
  refine ⟨?_, ?_⟩
  · unfold ok_law01_works; rw [h]; kernel_rfl
  · unfold o_law01_works_0; rw [h]; kernel_rfl
def s_law01_works (F : Nat) : List VV → Option (Bool × VV) := spec ti_law01_works to_law01_works (fun q => (ok_law01_works F )) (fun q => [.b (o_law01_works_0 F )])
theorem hS_law01_works (F : Nat) : ∀ f, Good PP f (unS (S_law01_works F f)) := words_good fun p hp => by
  simp only [List.mem_cons, List.not_mem_nil, or_false] at hp
  rcases hp with rfl | rfl | rfl
  · exact g_wide_Mul F
  · exact g_wide_Of F
  · exact g_wide_Near F
theorem hl_law01_works (F : Nat) : ∀ p ∈ loopsIn PP 42, LoopOK PP (S_law01_works F) c_law01_works F (I_law01_works F) (J_law01_works F) p :=
  loops_of [] (by kernel_rfl) all_nil
theorem hj_law01_works (F : Nat) : ∀ p ∈ joinsIn PP c_law01_works 42, JoinOK PP (S_law01_works F) c_law01_works (I_law01_works F) (J_law01_works F) p :=
  joins_of [] (by kernel_rfl) all_nil
theorem g_law01_works (F : Nat) : Good PP 42 (unS (s_law01_works F)) :=
  fun_spec (hS_law01_works F) (by kernel_rfl) (by kernel_rfl) (C := c_law01_works) (F := fun q => (f_law01_works F )) (fun _ => F) (fun _ => I_law01_works F) (fun _ => J_law01_works F) (fun _ => hl_law01_works F) (fun _ => hj_law01_works F)
    (fun q => (congrArg (funL PP (S_law01_works F) c_law01_works (I_law01_works F) (J_law01_works F) 42) (show (fTs ti_law01_works q).1 = (fTs ti_law01_works []).1 by kernel_rfl)).trans (e_law01_works F ))
    (fun _ h => (okT_fill h).trans (congrArg some (by kernel_rfl)))

end Go.Xv
set_option linter.unusedVariables false
namespace Go.Xv
/- 45 _wide_Left -/
def c_wide_Left : Cfg := ⟨[0, 1, 2, 4, 7, 11], [], [], []⟩
def ti_wide_Left : List TV := [.v (.agg [.int .i64, .int .u64]), .v (.int .i64)]
def to_wide_Left : TV := .v (.agg [.int .i64, .int .u64])
def S_wide_Left (F : Nat) : FuncId → List VV → Option (Bool × VV) := words []
def W_wide_Left (F : Nat) : List LW := []
def I_wide_Left (F : Nat) : Nat → VS → (Exit → VS → R) → R := tabI c_wide_Left (W_wide_Left F)
def WJ_wide_Left (F : Nat) : List LJ := []
def J_wide_Left (F : Nat) : Nat → Nat → VS → (Exit → VS → R) → R := tabJ (WJ_wide_Left F)
def f_wide_Left (F : Nat) (a0 : Int) (a1 : Int) (a2 : Int) : R :=
  let v377 : Int := (if 0 > a2 then 0 else a2)
  bif ((decide (v377 ≥ 128))) then (
    some (.v (.agg #[.int .i64 0, .int .u64 0])))
  else (
    bif ((decide (v377 ≥ 64))) then (
      let v380 : Int := (IntKind.wrap .i64 (v377 - 64))
      bif (!(decide (v380 < 0))) then (
        some (.v (.agg #[.int .i64 ((IntKind.wrap .i64 ((IntKind.wrap .u64 (a1 * 2 ^ (min (Int.toNat v380) 64)))))), .int .u64 0])))
      else (
        none))
    else (
      bif (!(decide (v377 < 0))) then (
        let v385 : Int := (IntKind.wrap .i64 (64 - v377))
        bif (!(decide (v385 < 0))) then (
          bif (!(decide (v377 < 0))) then (
            some (.v (.agg #[.int .i64 ((IntKind.wrap .i64 ((orI .u64 ((IntKind.wrap .u64 (((IntKind.wrap .u64 a0)) * 2 ^ (min (Int.toNat v377) 64)))) ((Int.fdiv a1 (2 ^ (min (Int.toNat v385) 64)))))))), .int .u64 ((IntKind.wrap .u64 (a1 * 2 ^ (min (Int.toNat v377) 64))))])))
          else (
            none))
        else (
          none))
      else (
        none)))
theorem e_wide_Left (F : Nat) (a0 : Int) (a1 : Int) (a2 : Int) : funL PP (S_wide_Left F) c_wide_Left (I_wide_Left F) (J_wide_Left F) 45 (fTs ti_wide_Left [.i a0, .i a1, .i a2]).1 = f_wide_Left F a0 a1 a2 := by
  have h : ∀ (_ : Unit), funL PP (words []) c_wide_Left (tabI c_wide_Left []) (tabJ []) 45 (fTs ti_wide_Left [.i a0, .i a1, .i a2]).1 = (
  let v377 : Int := (if 0 > a2 then 0 else a2)
  bif ((decide (v377 ≥ 128))) then (
    some (.v (.agg #[.int .i64 0, .int .u64 0])))
  else (
    bif ((decide (v377 ≥ 64))) then (
      let v380 : Int := (IntKind.wrap .i64 (v377 - 64))
      bif (!(decide (v380 < 0))) then (
        some (.v (.agg #[.int .i64 ((IntKind.wrap .i64 ((IntKind.wrap .u64 (a1 * 2 ^ (min (Int.toNat v380) 64)))))), .int .u64 0])))
      else (
        none))
    else (
      bif (!(decide (v377 < 0))) then (
        let v385 : Int := (IntKind.wrap .i64 (64 - v377))
        bif (!(decide (v385 < 0))) then (
          bif (!(decide (v377 < 0))) then (
            some (.v (.agg #[.int .i64 ((IntKind.wrap .i64 ((orI .u64 ((IntKind.wrap .u64 (((IntKind.wrap .u64 a0)) * 2 ^ (min (Int.toNat v377) 64)))) ((Int.fdiv a1 (2 ^ (min (Int.toNat v385) 64)))))))), .int .u64 ((IntKind.wrap .u64 (a1 * 2 ^ (min (Int.toNat v377) 64))))])))
          else (
            none))
        else (
          none))
      else (
        none))) : R) := by
    intros
    kernel_rfl
  exact (h ()).trans (by kernel_rfl)
def ok_wide_Left (F : Nat) (a0 : Int) (a1 : Int) (a2 : Int) : Bool := okT to_wide_Left (f_wide_Left F a0 a1 a2)
def o_wide_Left_0 (F : Nat) (a0 : Int) (a1 : Int) (a2 : Int) : Int := atI (nth (outT to_wide_Left (f_wide_Left F a0 a1 a2)) 0)
def o_wide_Left_1 (F : Nat) (a0 : Int) (a1 : Int) (a2 : Int) : Int := atI (nth (outT to_wide_Left (f_wide_Left F a0 a1 a2)) 1)
theorem k_wide_Left (F : Nat) (a0 : Int) (a1 : Int) (a2 : Int) {z0 : Int} {z1 : Int} (h : f_wide_Left F a0 a1 a2 = some (.v (.agg #[.int .i64 z0, .int .u64 z1]))) : ok_wide_Left F a0 a1 a2 = true ∧ o_wide_Left_0 F a0 a1 a2 = z0 ∧ o_wide_Left_1 F a0 a1 a2 = z1 := by
  refine ⟨?_, ?_, ?_⟩
  · unfold ok_wide_Left; rw [h]; kernel_rfl
  · unfold o_wide_Left_0; rw [h]; kernel_rfl
  · unfold o_wide_Left_1; rw [h]; kernel_rfl
def s_wide_Left (F : Nat) : List VV → Option (Bool × VV) := spec ti_wide_Left to_wide_Left (fun q => (ok_wide_Left F (atI (nth q 0)) (atI (nth q 1)) (atI (nth q 2)))) (fun q => [.i (o_wide_Left_0 F (atI (nth q 0)) (atI (nth q 1)) (atI (nth q 2))), .i (o_wide_Left_1 F (atI (nth q 0)) (atI (nth q 1)) (atI (nth q 2)))])
theorem hS_wide_Left (F : Nat) : ∀ f, Good PP f (unS (S_wide_Left F f)) := words_good fun p hp => by
  cases hp
theorem hl_wide_Left (F : Nat) : ∀ p ∈ loopsIn PP 45, LoopOK PP (S_wide_Left F) c_wide_Left F (I_wide_Left F) (J_wide_Left F) p :=
  loops_of [] (by kernel_rfl) all_nil
theorem hj_wide_Left (F : Nat) : ∀ p ∈ joinsIn PP c_wide_Left 45, JoinOK PP (S_wide_Left F) c_wide_Left (I_wide_Left F) (J_wide_Left F) p :=
  joins_of [] (by kernel_rfl) all_nil
theorem g_wide_Left (F : Nat) : Good PP 45 (unS (s_wide_Left F)) :=
  fun_spec (hS_wide_Left F) (by kernel_rfl) (by kernel_rfl) (C := c_wide_Left) (F := fun q => (f_wide_Left F (atI (nth q 0)) (atI (nth q 1)) (atI (nth q 2)))) (fun _ => F) (fun _ => I_wide_Left F) (fun _ => J_wide_Left F) (fun _ => hl_wide_Left F) (fun _ => hj_wide_Left F)
    (fun q => (congrArg (funL PP (S_wide_Left F) c_wide_Left (I_wide_Left F) (J_wide_Left F) 45) (show (fTs ti_wide_Left q).1 = (fTs ti_wide_Left [.i (atI (nth q 0)), .i (atI (nth q 1)), .i (atI (nth q 2))]).1 by kernel_rfl)).trans (e_wide_Left F (atI (nth q 0)) (atI (nth q 1)) (atI (nth q 2))))
    (fun _ h => (okT_fill h).trans (congrArg some (by kernel_rfl)))

end Go.Xv
set_option linter.unusedVariables false
namespace Go.Xv
/- 46 _ref01_Left -/
def c_ref01_Left : Cfg := ⟨[0, 1, 2, 4, 5, 9], [(0, [0, 1, 2, 4, 5, 15])], [], []⟩
def ti_ref01_Left : List TV := [.v (.agg [.int .i64, .int .u64]), .v (.int .i64)]
def to_ref01_Left : TV := .v (.agg [.int .i64, .int .u64])
def S_ref01_Left (F : Nat) : FuncId → List VV → Option (Bool × VV) := words [(51, s_ref01_Add F)]
def T_ref01_Left_0 : TS := ⟨[(0, .v (.agg [.int .i64, .int .u64])), (1, .v (.int .i64)), (2, .lp 0 (.lit 0)), (4, .lp 1 (.lit 0)), (5, .v (.int .i64))], [(0, ⟨(.ex [.v (.int .i64), .v (.int .u64)]), true⟩), (1, ⟨(.ex [.v (.int .i64), .v (.int .u64)]), true⟩)], 2⟩
def T_ref01_Left_0_0 : TS := ⟨[(0, .v (.agg [.int .i64, .int .u64])), (1, .v (.int .i64)), (2, .lp 0 (.lit 0)), (4, .lp 1 (.lit 0)), (5, .v (.int .i64))], [(0, ⟨(.ex [.v (.int .i64), .v (.int .u64)]), true⟩), (1, ⟨(.ex [.v (.int .i64), .v (.int .u64)]), true⟩)], 2⟩
def B_ref01_Left_0 (F : Nat) (rc : Int → Int → Int → Int → Int → Int → Int → Int → R) (ex0 : Int → Int → Int → Int → Int → Int → Int → Int → R) (x0 : Int) (x1 : Int) (x2 : Int) (x3 : Int) (x4 : Int) (x5 : Int) (x6 : Int) (x7 : Int) : R :=
  bif ((decide (x3 < ((if 128 < x2 then 128 else x2))))) then (
    bif (ok_ref01_Add F x4 x5 x4 x5) then (
      rc x0 x1 x2 ((IntKind.wrap .i64 (x3 + 1))) ((o_ref01_Add_0 F x4 x5 x4 x5)) ((o_ref01_Add_1 F x4 x5 x4 x5)) x6 x7)
    else (
      none))
  else (
    ex0 x0 x1 x2 x3 x4 x5 x6 x7)
def L_ref01_Left_0 (F : Nat) (ex0 : Int → Int → Int → Int → Int → Int → Int → Int → R) : Nat → Int → Int → Int → Int → Int → Int → Int → Int → R
  | 0, _, _, _, _, _, _, _, _ => none
  | n + 1, x0, x1, x2, x3, x4, x5, x6, x7 => B_ref01_Left_0 F (L_ref01_Left_0 F ex0 n) ex0 x0 x1 x2 x3 x4 x5 x6 x7
def W_ref01_Left (F : Nat) : List LW := [⟨0, T_ref01_Left_0, fun k q => L_ref01_Left_0 F (fun (z0 : Int) (z1 : Int) (z2 : Int) (z3 : Int) (z4 : Int) (z5 : Int) (z6 : Int) (z7 : Int) => k (.exit 0) (fS T_ref01_Left_0_0 [.i z0, .i z1, .i z2, .i z3, .i z4, .i z5, .i z6, .i z7])) F (atI (nth q 0)) (atI (nth q 1)) (atI (nth q 2)) (atI (nth q 3)) (atI (nth q 4)) (atI (nth q 5)) (atI (nth q 6)) (atI (nth q 7))⟩]
def I_ref01_Left (F : Nat) : Nat → VS → (Exit → VS → R) → R := tabI c_ref01_Left (W_ref01_Left F)
def WJ_ref01_Left (F : Nat) : List LJ := []
def J_ref01_Left (F : Nat) : Nat → Nat → VS → (Exit → VS → R) → R := tabJ (WJ_ref01_Left F)
theorem lL_ref01_Left_0 (F : Nat) (k : Exit → VS → R) : ∀ (n : Nat) (x0 : Int) (x1 : Int) (x2 : Int) (x3 : Int) (x4 : Int) (x5 : Int) (x6 : Int) (x7 : Int), iterC (codeL PP (S_ref01_Left F) c_ref01_Left (I_ref01_Left F) (J_ref01_Left F) (loopAt PP 46 0) 0) (headOf c_ref01_Left 0) k n (fS T_ref01_Left_0 [.i x0, .i x1, .i x2, .i x3, .i x4, .i x5, .i x6, .i x7]) = L_ref01_Left_0 F (fun (z0 : Int) (z1 : Int) (z2 : Int) (z3 : Int) (z4 : Int) (z5 : Int) (z6 : Int) (z7 : Int) => k (.exit 0) (fS T_ref01_Left_0_0 [.i z0, .i z1, .i z2, .i z3, .i z4, .i z5, .i z6, .i z7])) n x0 x1 x2 x3 x4 x5 x6 x7
  | 0, _, _, _, _, _, _, _, _ => rfl
  | n + 1, x0, x1, x2, x3, x4, x5, x6, x7 => by
    have h0 : ∀ (ok_ref01_Add : Nat → Int → Int → Int → Int → Bool) (o_ref01_Add_0 : Nat → Int → Int → Int → Int → Int) (o_ref01_Add_1 : Nat → Int → Int → Int → Int → Int) (L_ref01_Left_0 : Nat → (Int → Int → Int → Int → Int → Int → Int → Int → R) → Nat → Int → Int → Int → Int → Int → Int → Int → Int → R), iterC (codeL PP (words [(51, spec ti_ref01_Add to_ref01_Add (fun q => (ok_ref01_Add F (atI (nth q 0)) (atI (nth q 1)) (atI (nth q 2)) (atI (nth q 3)))) (fun q => [.i (o_ref01_Add_0 F (atI (nth q 0)) (atI (nth q 1)) (atI (nth q 2)) (atI (nth q 3))), .i (o_ref01_Add_1 F (atI (nth q 0)) (atI (nth q 1)) (atI (nth q 2)) (atI (nth q 3)))]))]) c_ref01_Left (tabI c_ref01_Left [⟨0, T_ref01_Left_0, fun k q => L_ref01_Left_0 F (fun (z0 : Int) (z1 : Int) (z2 : Int) (z3 : Int) (z4 : Int) (z5 : Int) (z6 : Int) (z7 : Int) => k (.exit 0) (fS T_ref01_Left_0_0 [.i z0, .i z1, .i z2, .i z3, .i z4, .i z5, .i z6, .i z7])) F (atI (nth q 0)) (atI (nth q 1)) (atI (nth q 2)) (atI (nth q 3)) (atI (nth q 4)) (atI (nth q 5)) (atI (nth q 6)) (atI (nth q 7))⟩]) (tabJ []) (loopAt PP 46 0) 0) (headOf c_ref01_Left 0) k (n + 1) (fS T_ref01_Left_0 [.i x0, .i x1, .i x2, .i x3, .i x4, .i x5, .i x6, .i x7]) = (fun (rc : Int → Int → Int → Int → Int → Int → Int → Int → R) (ex0 : Int → Int → Int → Int → Int → Int → Int → Int → R) (x0 : Int) (x1 : Int) (x2 : Int) (x3 : Int) (x4 : Int) (x5 : Int) (x6 : Int) (x7 : Int) => (
  bif ((decide (x3 < ((if 128 < x2 then 128 else x2))))) then (
    bif (ok_ref01_Add F x4 x5 x4 x5) then (
      rc x0 x1 x2 ((IntKind.wrap .i64 (x3 + 1))) ((o_ref01_Add_0 F x4 x5 x4 x5)) ((o_ref01_Add_1 F x4 x5 x4 x5)) x6 x7)
    else (
      none))
  else (
    ex0 x0 x1 x2 x3 x4 x5 x6 x7) : R)) (fun (y0 : Int) (y1 : Int) (y2 : Int) (y3 : Int) (y4 : Int) (y5 : Int) (y6 : Int) (y7 : Int) => iterC (codeL PP (words [(51, spec ti_ref01_Add to_ref01_Add (fun q => (ok_ref01_Add F (atI (nth q 0)) (atI (nth q 1)) (atI (nth q 2)) (atI (nth q 3)))) (fun q => [.i (o_ref01_Add_0 F (atI (nth q 0)) (atI (nth q 1)) (atI (nth q 2)) (atI (nth q 3))), .i (o_ref01_Add_1 F (atI (nth q 0)) (atI (nth q 1)) (atI (nth q 2)) (atI (nth q 3)))]))]) c_ref01_Left (tabI c_ref01_Left [⟨0, T_ref01_Left_0, fun k q => L_ref01_Left_0 F (fun (z0 : Int) (z1 : Int) (z2 : Int) (z3 : Int) (z4 : Int) (z5 : Int) (z6 : Int) (z7 : Int) => k (.exit 0) (fS T_ref01_Left_0_0 [.i z0, .i z1, .i z2, .i z3, .i z4, .i z5, .i z6, .i z7])) F (atI (nth q 0)) (atI (nth q 1)) (atI (nth q 2)) (atI (nth q 3)) (atI (nth q 4)) (atI (nth q 5)) (atI (nth q 6)) (atI (nth q 7))⟩]) (tabJ []) (loopAt PP 46 0) 0) (headOf c_ref01_Left 0) k n (fS T_ref01_Left_0 [.i y0, .i y1, .i y2, .i y3, .i y4, .i y5, .i y6, .i y7])) (fun (z0 : Int) (z1 : Int) (z2 : Int) (z3 : Int) (z4 : Int) (z5 : Int) (z6 : Int) (z7 : Int) => k (.exit 0) (fS T_ref01_Left_0_0 [.i z0, .i z1, .i z2, .i z3, .i z4, .i z5, .i z6, .i z7])) x0 x1 x2 x3 x4 x5 x6 x7 := by
      intros
      kernel_rfl
    have h : iterC (codeL PP (S_ref01_Left F) c_ref01_Left (I_ref01_Left F) (J_ref01_Left F) (loopAt PP 46 0) 0) (headOf c_ref01_Left 0) k (n + 1) (fS T_ref01_Left_0 [.i x0, .i x1, .i x2, .i x3, .i x4, .i x5, .i x6, .i x7]) = B_ref01_Left_0 F (fun (y0 : Int) (y1 : Int) (y2 : Int) (y3 : Int) (y4 : Int) (y5 : Int) (y6 : Int) (y7 : Int) => iterC (codeL PP (S_ref01_Left F) c_ref01_Left (I_ref01_Left F) (J_ref01_Left F) (loopAt PP 46 0) 0) (headOf c_ref01_Left 0) k n (fS T_ref01_Left_0 [.i y0, .i y1, .i y2, .i y3, .i y4, .i y5, .i y6, .i y7])) (fun (z0 : Int) (z1 : Int) (z2 : Int) (z3 : Int) (z4 : Int) (z5 : Int) (z6 : Int) (z7 : Int) => k (.exit 0) (fS T_ref01_Left_0_0 [.i z0, .i z1, .i z2, .i z3, .i z4, .i z5, .i z6, .i z7])) x0 x1 x2 x3 x4 x5 x6 x7 := (h0 ok_ref01_Add o_ref01_Add_0 o_ref01_Add_1 L_ref01_Left_0).trans (by kernel_rfl)
    rw [h]
    simp only [lL_ref01_Left_0 F k n]
    rfl
def f_ref01_Left (F : Nat) (a0 : Int) (a1 : Int) (a2 : Int) : R :=
  L_ref01_Left_0 F (fun (v405 : Int) (v406 : Int) (v407 : Int) (v408 : Int) (v409 : Int) (v410 : Int) (v411 : Int) (v412 : Int) =>
    some (.v (.agg #[.int .i64 v409, .int .u64 v410]))) F a0 a1 a2 0 a0 a1 0 0
theorem e_ref01_Left (F : Nat) (a0 : Int) (a1 : Int) (a2 : Int) : funL PP (S_ref01_Left F) c_ref01_Left (I_ref01_Left F) (J_ref01_Left F) 46 (fTs ti_ref01_Left [.i a0, .i a1, .i a2]).1 = f_ref01_Left F a0 a1 a2 := by
  have h : ∀ (ok_ref01_Add : Nat → Int → Int → Int → Int → Bool) (o_ref01_Add_0 : Nat → Int → Int → Int → Int → Int) (o_ref01_Add_1 : Nat → Int → Int → Int → Int → Int) (L_ref01_Left_0 : Nat → (Int → Int → Int → Int → Int → Int → Int → Int → R) → Nat → Int → Int → Int → Int → Int → Int → Int → Int → R), funL PP (words [(51, spec ti_ref01_Add to_ref01_Add (fun q => (ok_ref01_Add F (atI (nth q 0)) (atI (nth q 1)) (atI (nth q 2)) (atI (nth q 3)))) (fun q => [.i (o_ref01_Add_0 F (atI (nth q 0)) (atI (nth q 1)) (atI (nth q 2)) (atI (nth q 3))), .i (o_ref01_Add_1 F (atI (nth q 0)) (atI (nth q 1)) (atI (nth q 2)) (atI (nth q 3)))]))]) c_ref01_Left (tabI c_ref01_Left [⟨0, T_ref01_Left_0, fun k q => L_ref01_Left_0 F (fun (z0 : Int) (z1 : Int) (z2 : Int) (z3 : Int) (z4 : Int) (z5 : Int) (z6 : Int) (z7 : Int) => k (.exit 0) (fS T_ref01_Left_0_0 [.i z0, .i z1, .i z2, .i z3, .i z4, .i z5, .i z6, .i z7])) F (atI (nth q 0)) (atI (nth q 1)) (atI (nth q 2)) (atI (nth q 3)) (atI (nth q 4)) (atI (nth q 5)) (atI (nth q 6)) (atI (nth q 7))⟩]) (tabJ []) 46 (fTs ti_ref01_Left [.i a0, .i a1, .i a2]).1 = (
  L_ref01_Left_0 F (fun (v405 : Int) (v406 : Int) (v407 : Int) (v408 : Int) (v409 : Int) (v410 : Int) (v411 : Int) (v412 : Int) =>
    some (.v (.agg #[.int .i64 v409, .int .u64 v410]))) F a0 a1 a2 0 a0 a1 0 0 : R) := by
    intros
    kernel_rfl
  exact (h ok_ref01_Add o_ref01_Add_0 o_ref01_Add_1 L_ref01_Left_0).trans (by kernel_rfl)
def ok_ref01_Left (F : Nat) (a0 : Int) (a1 : Int) (a2 : Int) : Bool := okT to_ref01_Left (f_ref01_Left F a0 a1 a2)
def o_ref01_Left_0 (F : Nat) (a0 : Int) (a1 : Int) (a2 : Int) : Int := atI (nth (outT to_ref01_Left (f_ref01_Left F a0 a1 a2)) 0)
def o_ref01_Left_1 (F : Nat) (a0 : Int) (a1 : Int) (a2 : Int) : Int := atI (nth (outT to_ref01_Left (f_ref01_Left F a0 a1 a2)) 1)
theorem k_ref01_Left (F : Nat) (a0 : Int) (a1 : Int) (a2 : Int) {z0 : Int} {z1 : Int} (h : f_ref01_Left F a0 a1 a2 = some (.v (.agg #[.int .i64 z0, .int .u64 z1]))) : ok_ref01_Left F a0 a1 a2 = true ∧ o_ref01_Left_0 F a0 a1 a2 = z0 ∧ o_ref01_Left_1 F a0 a1 a2 = z1 := by
  refine ⟨?_, ?_, ?_⟩
  · unfold ok_ref01_Left; rw [h]; kernel_rfl
  · unfold o_ref01_Left_0; rw [h]; kernel_rfl
  · unfold o_ref01_Left_1; rw [h]; kernel_rfl
def s_ref01_Left (F : Nat) : List VV → Option (Bool × VV) := spec ti_ref01_Left to_ref01_Left (fun q => (ok_ref01_Left F (atI (nth q 0)) (atI (nth q 1)) (atI (nth q 2)))) (fun q => [.i (o_ref01_Left_0 F (atI (nth q 0)) (atI (nth q 1)) (atI (nth q 2))), .i (o_ref01_Left_1 F (atI (nth q 0)) (atI (nth q 1)) (atI (nth q 2)))])
theorem hS_ref01_Left (F : Nat) : ∀ f, Good PP f (unS (S_ref01_Left F f)) := words_good fun p hp => by
  simp only [List.mem_cons, List.not_mem_nil, or_false] at hp
  rcases hp with rfl
  · exact g_ref01_Add F
theorem hl_ref01_Left (F : Nat) : ∀ p ∈ loopsIn PP 46, LoopOK PP (S_ref01_Left F) c_ref01_Left F (I_ref01_Left F) (J_ref01_Left F) p :=
  loops_of [(0, loopAt PP 46 0)] (by kernel_rfl) (all_cons
    (loop_ok (W_ref01_Left F) rfl (tab_cons (fun _ k q => Le.ofEq ((lL_ref01_Left_0 F k F (atI (nth q 0)) (atI (nth q 1)) (atI (nth q 2)) (atI (nth q 3)) (atI (nth q 4)) (atI (nth q 5)) (atI (nth q 6)) (atI (nth q 7))).symm.trans (congrArg (iterC (codeL PP (S_ref01_Left F) c_ref01_Left (I_ref01_Left F) (J_ref01_Left F) (loopAt PP 46 0) 0) (headOf c_ref01_Left 0) k F) (show fS T_ref01_Left_0 [.i (atI (nth q 0)), .i (atI (nth q 1)), .i (atI (nth q 2)), .i (atI (nth q 3)), .i (atI (nth q 4)), .i (atI (nth q 5)), .i (atI (nth q 6)), .i (atI (nth q 7))] = fS T_ref01_Left_0 q by kernel_rfl)))) tab_nil)) all_nil)
theorem hj_ref01_Left (F : Nat) : ∀ p ∈ joinsIn PP c_ref01_Left 46, JoinOK PP (S_ref01_Left F) c_ref01_Left (I_ref01_Left F) (J_ref01_Left F) p :=
  joins_of [] (by kernel_rfl) all_nil
theorem g_ref01_Left (F : Nat) : Good PP 46 (unS (s_ref01_Left F)) :=
  fun_spec (hS_ref01_Left F) (by kernel_rfl) (by kernel_rfl) (C := c_ref01_Left) (F := fun q => (f_ref01_Left F (atI (nth q 0)) (atI (nth q 1)) (atI (nth q 2)))) (fun _ => F) (fun _ => I_ref01_Left F) (fun _ => J_ref01_Left F) (fun _ => hl_ref01_Left F) (fun _ => hj_ref01_Left F)
    (fun q => (congrArg (funL PP (S_ref01_Left F) c_ref01_Left (I_ref01_Left F) (J_ref01_Left F) 46) (show (fTs ti_ref01_Left q).1 = (fTs ti_ref01_Left [.i (atI (nth q 0)), .i (atI (nth q 1)), .i (atI (nth q 2))]).1 by kernel_rfl)).trans (e_ref01_Left F (atI (nth q 0)) (atI (nth q 1)) (atI (nth q 2))))
    (fun _ h => (okT_fill h).trans (congrArg some (by kernel_rfl)))

end Go.Xv
set_option linter.unusedVariables false
namespace Go.Xv
/- 48 _ref01_Right -/
def c_ref01_Right : Cfg := ⟨[0, 1, 2, 4, 5, 6, 7, 16], [(0, [0, 1, 2, 4, 5, 6, 7, 8, 9, 10, 11, 12, 24, 25])], [22], []⟩
def ti_ref01_Right : List TV := [.v (.agg [.int .i64, .int .u64]), .v (.int .i64)]
def to_ref01_Right : TV := .v (.agg [.int .i64, .int .u64])
def S_ref01_Right (F : Nat) : FuncId → List VV → Option (Bool × VV) := words [(105, s_ref01_Digits F), (106, s_ref01_Number F)]
def T_ref01_Right_0 : TS := ⟨[(0, .v (.agg [.int .i64, .int .u64])), (1, .v (.int .i64)), (2, .lp 0 (.lit 0)), (4, .lp 1 (.lit 0)), (5, .ls 2 (.lit 0) .hole 1), (6, .v (.int .i64)), (7, .v (.int .i64))], [(0, ⟨(.ex [.v (.int .i64), .v (.int .u64)]), true⟩), (1, ⟨(.ex [.v (.int .i64), .v (.int .u64)]), true⟩), (2, ⟨.hole, true⟩)], 3⟩
def T_ref01_Right_0_0 : TS := ⟨[(0, .v (.agg [.int .i64, .int .u64])), (1, .v (.int .i64)), (2, .lp 0 (.lit 0)), (4, .lp 1 (.lit 0)), (5, .ls 2 (.lit 0) .hole 1), (6, .v (.int .i64)), (7, .v (.int .i64))], [(0, ⟨(.ex [.v (.int .i64), .v (.int .u64)]), true⟩), (1, ⟨(.ex [.v (.int .i64), .v (.int .u64)]), true⟩), (2, ⟨.hole, true⟩)], 3⟩
def B_ref01_Right_0 (F : Nat) (rc : Int → Int → Int → Nat → Int → Int → Int → Int → Int → Int → List VV → R) (ex0 : Int → Int → Int → Nat → Int → Int → Int → Int → Int → Int → List VV → R) (x0 : Int) (x1 : Int) (x2 : Int) (x3 : Nat) (x4 : Int) (x5 : Int) (x6 : Int) (x7 : Int) (x8 : Int) (x9 : Int) (x10 : List VV) : R :=
  bif ((decide (x5 < ((if 127 < x2 then 127 else x2))))) then (
    bif ((decide (1 ≤ x3)) && (decide (x3 ≤ x3))) then (
      let v434 : Nat := (x3 - 1)
      bif (((decide ((1 + (v434 * 1)) ≤ x10.length)) && true) && (decide ((v434 + 1) * 9 ≤ bigger))) then (
        rc x0 x1 x2 ((v434 + 1)) x4 ((IntKind.wrap .i64 (x5 + 1))) x6 x7 x8 x9 ((((x10.drop 1).take (v434 * 1)) ++ [.v (.int .i64 x4)])))
      else (
        none))
    else (
      none))
  else (
    ex0 x0 x1 x2 x3 x4 x5 x6 x7 x8 x9 x10)
def L_ref01_Right_0 (F : Nat) (ex0 : Int → Int → Int → Nat → Int → Int → Int → Int → Int → Int → List VV → R) : Nat → Int → Int → Int → Nat → Int → Int → Int → Int → Int → Int → List VV → R
  | 0, _, _, _, _, _, _, _, _, _, _, _ => none
  | n + 1, x0, x1, x2, x3, x4, x5, x6, x7, x8, x9, x10 => B_ref01_Right_0 F (L_ref01_Right_0 F ex0 n) ex0 x0 x1 x2 x3 x4 x5 x6 x7 x8 x9 x10
def W_ref01_Right (F : Nat) : List LW := [⟨0, T_ref01_Right_0, fun k q => L_ref01_Right_0 F (fun (z0 : Int) (z1 : Int) (z2 : Int) (z3 : Nat) (z4 : Int) (z5 : Int) (z6 : Int) (z7 : Int) (z8 : Int) (z9 : Int) (z10 : List VV) => k (.exit 0) (fS T_ref01_Right_0_0 [.i z0, .i z1, .i z2, .n z3, .i z4, .i z5, .i z6, .i z7, .i z8, .i z9, .c z10])) F (atI (nth q 0)) (atI (nth q 1)) (atI (nth q 2)) (atN (nth q 3)) (atI (nth q 4)) (atI (nth q 5)) (atI (nth q 6)) (atI (nth q 7)) (atI (nth q 8)) (atI (nth q 9)) (atC (nth q 10))⟩]
def I_ref01_Right (F : Nat) : Nat → VS → (Exit → VS → R) → R := tabI c_ref01_Right (W_ref01_Right F)
def WJ_ref01_Right (F : Nat) : List LJ := []
def J_ref01_Right (F : Nat) : Nat → Nat → VS → (Exit → VS → R) → R := tabJ (WJ_ref01_Right F)
theorem lL_ref01_Right_0 (F : Nat) (k : Exit → VS → R) : ∀ (n : Nat) (x0 : Int) (x1 : Int) (x2 : Int) (x3 : Nat) (x4 : Int) (x5 : Int) (x6 : Int) (x7 : Int) (x8 : Int) (x9 : Int) (x10 : List VV), iterC (codeL PP (S_ref01_Right F) c_ref01_Right (I_ref01_Right F) (J_ref01_Right F) (loopAt PP 48 0) 0) (headOf c_ref01_Right 0) k n (fS T_ref01_Right_0 [.i x0, .i x1, .i x2, .n x3, .i x4, .i x5, .i x6, .i x7, .i x8, .i x9, .c x10]) = L_ref01_Right_0 F (fun (z0 : Int) (z1 : Int) (z2 : Int) (z3 : Nat) (z4 : Int) (z5 : Int) (z6 : Int) (z7 : Int) (z8 : Int) (z9 : Int) (z10 : List VV) => k (.exit 0) (fS T_ref01_Right_0_0 [.i z0, .i z1, .i z2, .n z3, .i z4, .i z5, .i z6, .i z7, .i z8, .i z9, .c z10])) n x0 x1 x2 x3 x4 x5 x6 x7 x8 x9 x10
  | 0, _, _, _, _, _, _, _, _, _, _, _ => rfl
  | n + 1, x0, x1, x2, x3, x4, x5, x6, x7, x8, x9, x10 => by
    have h0 : ∀ (ok_ref01_Digits : Nat → Int → Int → Bool) (o_ref01_Digits_0 : Nat → Int → Int → List VV) (o_ref01_Digits_1 : Nat → Int → Int → Nat) (ok_ref01_Number : Nat → List VV → Nat → Bool) (o_ref01_Number_0 : Nat → List VV → Nat → Int) (o_ref01_Number_1 : Nat → List VV → Nat → Int) (L_ref01_Right_0 : Nat → (Int → Int → Int → Nat → Int → Int → Int → Int → Int → Int → List VV → R) → Nat → Int → Int → Int → Nat → Int → Int → Int → Int → Int → Int → List VV → R), iterC (codeL PP (words [(105, spec ti_ref01_Digits to_ref01_Digits (fun q => (ok_ref01_Digits F (atI (nth q 0)) (atI (nth q 1)))) (fun q => [.c (o_ref01_Digits_0 F (atI (nth q 0)) (atI (nth q 1))), .n (o_ref01_Digits_1 F (atI (nth q 0)) (atI (nth q 1)))])), (106, spec ti_ref01_Number to_ref01_Number (fun q => (ok_ref01_Number F (atC (nth q 0)) (atN (nth q 1)))) (fun q => [.i (o_ref01_Number_0 F (atC (nth q 0)) (atN (nth q 1))), .i (o_ref01_Number_1 F (atC (nth q 0)) (atN (nth q 1)))]))]) c_ref01_Right (tabI c_ref01_Right [⟨0, T_ref01_Right_0, fun k q => L_ref01_Right_0 F (fun (z0 : Int) (z1 : Int) (z2 : Int) (z3 : Nat) (z4 : Int) (z5 : Int) (z6 : Int) (z7 : Int) (z8 : Int) (z9 : Int) (z10 : List VV) => k (.exit 0) (fS T_ref01_Right_0_0 [.i z0, .i z1, .i z2, .n z3, .i z4, .i z5, .i z6, .i z7, .i z8, .i z9, .c z10])) F (atI (nth q 0)) (atI (nth q 1)) (atI (nth q 2)) (atN (nth q 3)) (atI (nth q 4)) (atI (nth q 5)) (atI (nth q 6)) (atI (nth q 7)) (atI (nth q 8)) (atI (nth q 9)) (atC (nth q 10))⟩]) (tabJ []) (loopAt PP 48 0) 0) (headOf c_ref01_Right 0) k (n + 1) (fS T_ref01_Right_0 [.i x0, .i x1, .i x2, .n x3, .i x4, .i x5, .i x6, .i x7, .i x8, .i x9, .c x10]) = (fun (rc : Int → Int → Int → Nat → Int → Int → Int → Int → Int → Int → List VV → R) (ex0 : Int → Int → Int → Nat → Int → Int → Int → Int → Int → Int → List VV → R) (x0 : Int) (x1 : Int) (x2 : Int) (x3 : Nat) (x4 : Int) (x5 : Int) (x6 : Int) (x7 : Int) (x8 : Int) (x9 : Int) (x10 : List VV) => (
  bif ((decide (x5 < ((if 127 < x2 then 127 else x2))))) then (
    bif ((decide (1 ≤ x3)) && (decide (x3 ≤ x3))) then (
      let v434 : Nat := (x3 - 1)
      bif (((decide ((1 + (v434 * 1)) ≤ x10.length)) && true) && (decide ((v434 + 1) * 9 ≤ bigger))) then (
        rc x0 x1 x2 ((v434 + 1)) x4 ((IntKind.wrap .i64 (x5 + 1))) x6 x7 x8 x9 ((((x10.drop 1).take (v434 * 1)) ++ [.v (.int .i64 x4)])))
      else (
        none))
    else (
      none))
  else (
    ex0 x0 x1 x2 x3 x4 x5 x6 x7 x8 x9 x10) : R)) (fun (y0 : Int) (y1 : Int) (y2 : Int) (y3 : Nat) (y4 : Int) (y5 : Int) (y6 : Int) (y7 : Int) (y8 : Int) (y9 : Int) (y10 : List VV) => iterC (codeL PP (words [(105, spec ti_ref01_Digits to_ref01_Digits (fun q => (ok_ref01_Digits F (atI (nth q 0)) (atI (nth q 1)))) (fun q => [.c (o_ref01_Digits_0 F (atI (nth q 0)) (atI (nth q 1))), .n (o_ref01_Digits_1 F (atI (nth q 0)) (atI (nth q 1)))])), (106, spec ti_ref01_Number to_ref01_Number (fun q => (ok_ref01_Number F (atC (nth q 0)) (atN (nth q 1)))) (fun q => [.i (o_ref01_Number_0 F (atC (nth q 0)) (atN (nth q 1))), .i (o_ref01_Number_1 F (atC (nth q 0)) (atN (nth q 1)))]))]) c_ref01_Right (tabI c_ref01_Right [⟨0, T_ref01_Right_0, fun k q => L_ref01_Right_0 F (fun (z0 : Int) (z1 : Int) (z2 : Int) (z3 : Nat) (z4 : Int) (z5 : Int) (z6 : Int) (z7 : Int) (z8 : Int) (z9 : Int) (z10 : List VV) => k (.exit 0) (fS T_ref01_Right_0_0 [.i z0, .i z1, .i z2, .n z3, .i z4, .i z5, .i z6, .i z7, .i z8, .i z9, .c z10])) F (atI (nth q 0)) (atI (nth q 1)) (atI (nth q 2)) (atN (nth q 3)) (atI (nth q 4)) (atI (nth q 5)) (atI (nth q 6)) (atI (nth q 7)) (atI (nth q 8)) (atI (nth q 9)) (atC (nth q 10))⟩]) (tabJ []) (loopAt PP 48 0) 0) (headOf c_ref01_Right 0) k n (fS T_ref01_Right_0 [.i y0, .i y1, .i y2, .n y3, .i y4, .i y5, .i y6, .i y7, .i y8, .i y9, .c y10])) (fun (z0 : Int) (z1 : Int) (z2 : Int) (z3 : Nat) (z4 : Int) (z5 : Int) (z6 : Int) (z7 : Int) (z8 : Int) (z9 : Int) (z10 : List VV) => k (.exit 0) (fS T_ref01_Right_0_0 [.i z0, .i z1, .i z2, .n z3, .i z4, .i z5, .i z6, .i z7, .i z8, .i z9, .c z10])) x0 x1 x2 x3 x4 x5 x6 x7 x8 x9 x10 := by
      intros
      kernel_rfl
    have h : iterC (codeL PP (S_ref01_Right F) c_ref01_Right (I_ref01_Right F) (J_ref01_Right F) (loopAt PP 48 0) 0) (headOf c_ref01_Right 0) k (n + 1) (fS T_ref01_Right_0 [.i x0, .i x1, .i x2, .n x3, .i x4, .i x5, .i x6, .i x7, .i x8, .i x9, .c x10]) = B_ref01_Right_0 F (fun (y0 : Int) (y1 : Int) (y2 : Int) (y3 : Nat) (y4 : Int) (y5 : Int) (y6 : Int) (y7 : Int) (y8 : Int) (y9 : Int) (y10 : List VV) => iterC (codeL PP (S_ref01_Right F) c_ref01_Right (I_ref01_Right F) (J_ref01_Right F) (loopAt PP 48 0) 0) (headOf c_ref01_Right 0) k n (fS T_ref01_Right_0 [.i y0, .i y1, .i y2, .n y3, .i y4, .i y5, .i y6, .i y7, .i y8, .i y9, .c y10])) (fun (z0 : Int) (z1 : Int) (z2 : Int) (z3 : Nat) (z4 : Int) (z5 : Int) (z6 : Int) (z7 : Int) (z8 : Int) (z9 : Int) (z10 : List VV) => k (.exit 0) (fS T_ref01_Right_0_0 [.i z0, .i z1, .i z2, .n z3, .i z4, .i z5, .i z6, .i z7, .i z8, .i z9, .c z10])) x0 x1 x2 x3 x4 x5 x6 x7 x8 x9 x10 := (h0 ok_ref01_Digits o_ref01_Digits_0 o_ref01_Digits_1 ok_ref01_Number o_ref01_Number_0 o_ref01_Number_1 L_ref01_Right_0).trans (by kernel_rfl)
    rw [h]
    simp only [lL_ref01_Right_0 F k n]
    rfl
def f_ref01_Right (F : Nat) (a0 : Int) (a1 : Int) (a2 : Int) : R :=
  bif (ok_ref01_Digits F a0 a1) then (
    let v418 : Nat := (o_ref01_Digits_1 F a0 a1)
    let v419 : List VV := (o_ref01_Digits_0 F a0 a1)
    bif (decide (127 < ((v418 : Nat) : Int))) then (
      bif ((isI .i64 v419[127]?) && true) then (
        L_ref01_Right_0 F (fun (v438 : Int) (v439 : Int) (v440 : Int) (v441 : Nat) (v442 : Int) (v443 : Int) (v444 : Int) (v445 : Int) (v446 : Int) (v447 : Int) (v448 : List VV) =>
          bif (ok_ref01_Number F v448 v441) then (
            some (.v (.agg #[.int .i64 ((o_ref01_Number_0 F v448 v441)), .int .u64 ((o_ref01_Number_1 F v448 v441))])))
          else (
            none)) F a0 a1 a2 v418 ((iv v419[127]?)) 0 a0 a1 0 0 v419)
      else (
        none))
    else (
      none))
  else (
    none)
theorem e_ref01_Right (F : Nat) (a0 : Int) (a1 : Int) (a2 : Int) : funL PP (S_ref01_Right F) c_ref01_Right (I_ref01_Right F) (J_ref01_Right F) 48 (fTs ti_ref01_Right [.i a0, .i a1, .i a2]).1 = f_ref01_Right F a0 a1 a2 := by
  have h : ∀ (ok_ref01_Digits : Nat → Int → Int → Bool) (o_ref01_Digits_0 : Nat → Int → Int → List VV) (o_ref01_Digits_1 : Nat → Int → Int → Nat) (ok_ref01_Number : Nat → List VV → Nat → Bool) (o_ref01_Number_0 : Nat → List VV → Nat → Int) (o_ref01_Number_1 : Nat → List VV → Nat → Int) (L_ref01_Right_0 : Nat → (Int → Int → Int → Nat → Int → Int → Int → Int → Int → Int → List VV → R) → Nat → Int → Int → Int → Nat → Int → Int → Int → Int → Int → Int → List VV → R), funL PP (words [(105, spec ti_ref01_Digits to_ref01_Digits (fun q => (ok_ref01_Digits F (atI (nth q 0)) (atI (nth q 1)))) (fun q => [.c (o_ref01_Digits_0 F (atI (nth q 0)) (atI (nth q 1))), .n (o_ref01_Digits_1 F (atI (nth q 0)) (atI (nth q 1)))])), (106, spec ti_ref01_Number to_ref01_Number (fun q => (ok_ref01_Number F (atC (nth q 0)) (atN (nth q 1)))) (fun q => [.i (o_ref01_Number_0 F (atC (nth q 0)) (atN (nth q 1))), .i (o_ref01_Number_1 F (atC (nth q 0)) (atN (nth q 1)))]))]) c_ref01_Right (tabI c_ref01_Right [⟨0, T_ref01_Right_0, fun k q => L_ref01_Right_0 F (fun (z0 : Int) (z1 : Int) (z2 : Int) (z3 : Nat) (z4 : Int) (z5 : Int) (z6 : Int) (z7 : Int) (z8 : Int) (z9 : Int) (z10 : List VV) => k (.exit 0) (fS T_ref01_Right_0_0 [.i z0, .i z1, .i z2, .n z3, .i z4, .i z5, .i z6, .i z7, .i z8, .i z9, .c z10])) F (atI (nth q 0)) (atI (nth q 1)) (atI (nth q 2)) (atN (nth q 3)) (atI (nth q 4)) (atI (nth q 5)) (atI (nth q 6)) (atI (nth q 7)) (atI (nth q 8)) (atI (nth q 9)) (atC (nth q 10))⟩]) (tabJ []) 48 (fTs ti_ref01_Right [.i a0, .i a1, .i a2]).1 = (
  bif (ok_ref01_Digits F a0 a1) then (
    let v418 : Nat := (o_ref01_Digits_1 F a0 a1)
    let v419 : List VV := (o_ref01_Digits_0 F a0 a1)
    bif (decide (127 < ((v418 : Nat) : Int))) then (
      bif ((isI .i64 v419[127]?) && true) then (
        L_ref01_Right_0 F (fun (v438 : Int) (v439 : Int) (v440 : Int) (v441 : Nat) (v442 : Int) (v443 : Int) (v444 : Int) (v445 : Int) (v446 : Int) (v447 : Int) (v448 : List VV) =>
          bif (ok_ref01_Number F v448 v441) then (
            some (.v (.agg #[.int .i64 ((o_ref01_Number_0 F v448 v441)), .int .u64 ((o_ref01_Number_1 F v448 v441))])))
          else (
            none)) F a0 a1 a2 v418 ((iv v419[127]?)) 0 a0 a1 0 0 v419)
      else (
        none))
    else (
      none))
  else (
    none) : R) := by
    intros
    kernel_rfl
  exact (h ok_ref01_Digits o_ref01_Digits_0 o_ref01_Digits_1 ok_ref01_Number o_ref01_Number_0 o_ref01_Number_1 L_ref01_Right_0).trans (by kernel_rfl)
def ok_ref01_Right (F : Nat) (a0 : Int) (a1 : Int) (a2 : Int) : Bool := okT to_ref01_Right (f_ref01_Right F a0 a1 a2)
def o_ref01_Right_0 (F : Nat) (a0 : Int) (a1 : Int) (a2 : Int) : Int := atI (nth (outT to_ref01_Right (f_ref01_Right F a0 a1 a2)) 0)
def o_ref01_Right_1 (F : Nat) (a0 : Int) (a1 : Int) (a2 : Int) : Int := atI (nth (outT to_ref01_Right (f_ref01_Right F a0 a1 a2)) 1)
theorem k_ref01_Right (F : Nat) (a0 : Int) (a1 : Int) (a2 : Int) {z0 : Int} {z1 : Int} (h : f_ref01_Right F a0 a1 a2 = some (.v (.agg #[.int .i64 z0, .int .u64 z1]))) : ok_ref01_Right F a0 a1 a2 = true ∧ o_ref01_Right_0 F a0 a1 a2 = z0 ∧ o_ref01_Right_1 F a0 a1 a2 = z1 := by
  refine ⟨?_, ?_, ?_⟩
  · unfold ok_ref01_Right; rw [h]; kernel_rfl
  · unfold o_ref01_Right_0; rw [h]; kernel_rfl
  · unfold o_ref01_Right_1; rw [h]; kernel_rfl
def s_ref01_Right (F : Nat) : List VV → Option (Bool × VV) := spec ti_ref01_Right to_ref01_Right (fun q => (ok_ref01_Right F (atI (nth q 0)) (atI (nth q 1)) (atI (nth q 2)))) (fun q => [.i (o_ref01_Right_0 F (atI (nth q 0)) (atI (nth q 1)) (atI (nth q 2))), .i (o_ref01_Right_1 F (atI (nth q 0)) (atI (nth q 1)) (atI (nth q 2)))])
theorem hS_ref01_Right (F : Nat) : ∀ f, Good PP f (unS (S_ref01_Right F f)) := words_good fun p hp => by
  simp only [List.mem_cons, List.not_mem_nil, or_false] at hp
  rcases hp with rfl | rfl
  · exact g_ref01_Digits F
  · exact g_ref01_Number F
theorem hl_ref01_Right (F : Nat) : ∀ p ∈ loopsIn PP 48, LoopOK PP (S_ref01_Right F) c_ref01_Right F (I_ref01_Right F) (J_ref01_Right F) p :=
  loops_of [(0, loopAt PP 48 0)] (by kernel_rfl) (all_cons
    (loop_ok (W_ref01_Right F) rfl (tab_cons (fun _ k q => Le.ofEq ((lL_ref01_Right_0 F k F (atI (nth q 0)) (atI (nth q 1)) (atI (nth q 2)) (atN (nth q 3)) (atI (nth q 4)) (atI (nth q 5)) (atI (nth q 6)) (atI (nth q 7)) (atI (nth q 8)) (atI (nth q 9)) (atC (nth q 10))).symm.trans (congrArg (iterC (codeL PP (S_ref01_Right F) c_ref01_Right (I_ref01_Right F) (J_ref01_Right F) (loopAt PP 48 0) 0) (headOf c_ref01_Right 0) k F) (show fS T_ref01_Right_0 [.i (atI (nth q 0)), .i (atI (nth q 1)), .i (atI (nth q 2)), .n (atN (nth q 3)), .i (atI (nth q 4)), .i (atI (nth q 5)), .i (atI (nth q 6)), .i (atI (nth q 7)), .i (atI (nth q 8)), .i (atI (nth q 9)), .c (atC (nth q 10))] = fS T_ref01_Right_0 q by kernel_rfl)))) tab_nil)) all_nil)
theorem hj_ref01_Right (F : Nat) : ∀ p ∈ joinsIn PP c_ref01_Right 48, JoinOK PP (S_ref01_Right F) c_ref01_Right (I_ref01_Right F) (J_ref01_Right F) p :=
  joins_of [] (by kernel_rfl) all_nil
theorem g_ref01_Right (F : Nat) : Good PP 48 (unS (s_ref01_Right F)) :=
  fun_spec (hS_ref01_Right F) (by kernel_rfl) (by kernel_rfl) (C := c_ref01_Right) (F := fun q => (f_ref01_Right F (atI (nth q 0)) (atI (nth q 1)) (atI (nth q 2)))) (fun _ => F) (fun _ => I_ref01_Right F) (fun _ => J_ref01_Right F) (fun _ => hl_ref01_Right F) (fun _ => hj_ref01_Right F)
    (fun q => (congrArg (funL PP (S_ref01_Right F) c_ref01_Right (I_ref01_Right F) (J_ref01_Right F) 48) (show (fTs ti_ref01_Right q).1 = (fTs ti_ref01_Right [.i (atI (nth q 0)), .i (atI (nth q 1)), .i (atI (nth q 2))]).1 by kernel_rfl)).trans (e_ref01_Right F (atI (nth q 0)) (atI (nth q 1)) (atI (nth q 2))))
    (fun _ h => (okT_fill h).trans (congrArg some (by kernel_rfl)))

end Go.Xv
set_option linter.unusedVariables false
namespace Go.Xv
/- 50 _ref01_Near -/
def c_ref01_Near : Cfg := ⟨[0, 1, 2, 4, 5, 9], [], [19, 21], []⟩
def ti_ref01_Near : List TV := [.v (.agg [.int .i64, .int .u64]), .v (.int .i64)]
def to_ref01_Near : TV := .v (.agg [.int .i64, .int .u64])
def S_ref01_Near (F : Nat) : FuncId → List VV → Option (Bool × VV) := words [(105, s_ref01_Digits F), (48, s_ref01_Right F), (58, s_ref01_Of F), (51, s_ref01_Add F)]
def W_ref01_Near (F : Nat) : List LW := []
def I_ref01_Near (F : Nat) : Nat → VS → (Exit → VS → R) → R := tabI c_ref01_Near (W_ref01_Near F)
def WJ_ref01_Near (F : Nat) : List LJ := []
def J_ref01_Near (F : Nat) : Nat → Nat → VS → (Exit → VS → R) → R := tabJ (WJ_ref01_Near F)
def f_ref01_Near (F : Nat) (a0 : Int) (a1 : Int) (a2 : Int) : R :=
  let v456 : Int := (if 127 < a2 then 127 else a2)
  bif ((decide (v456 ≤ 0))) then (
    some (.v (.agg #[.int .i64 a0, .int .u64 a1])))
  else (
    bif (ok_ref01_Digits F a0 a1) then (
      let v459 : List VV := (o_ref01_Digits_0 F a0 a1)
      let v460 : Int := (IntKind.wrap .i64 (v456 - 1))
      bif ((decide (0 ≤ v460)) && (decide (v460 < ((((o_ref01_Digits_1 F a0 a1)) : Nat) : Int)))) then (
        let v461 : Nat := (0 + ((Int.toNat v460) * 1))
        bif ((isI .i64 v459[v461]?) && true) then (
          let v462 : Int := (iv v459[v461]?)
          bif (ok_ref01_Right F a0 a1 v456) then (
            let v463 : Int := (o_ref01_Right_0 F a0 a1 v456)
            let v464 : Int := (o_ref01_Right_1 F a0 a1 v456)
            bif (ok_ref01_Of F v462) then (
              let v465 : Int := (o_ref01_Of_0 F v462)
              let v466 : Int := (o_ref01_Of_1 F v462)
              bif (ok_ref01_Add F v463 v464 v465 v466) then (
                some (.v (.agg #[.int .i64 ((o_ref01_Add_0 F v463 v464 v465 v466)), .int .u64 ((o_ref01_Add_1 F v463 v464 v465 v466))])))
              else (
                none))
            else (
              none))
          else (
            none))
        else (
          none))
      else (
        none))
    else (
      none))
theorem e_ref01_Near (F : Nat) (a0 : Int) (a1 : Int) (a2 : Int) : funL PP (S_ref01_Near F) c_ref01_Near (I_ref01_Near F) (J_ref01_Near F) 50 (fTs ti_ref01_Near [.i a0, .i a1, .i a2]).1 = f_ref01_Near F a0 a1 a2 := by
  have h : ∀ (ok_ref01_Digits : Nat → Int → Int → Bool) (o_ref01_Digits_0 : Nat → Int → Int → List VV) (o_ref01_Digits_1 : Nat → Int → Int → Nat) (ok_ref01_Right : Nat → Int → Int → Int → Bool) (o_ref01_Right_0 : Nat → Int → Int → Int → Int) (o_ref01_Right_1 : Nat → Int → Int → Int → Int) (ok_ref01_Of : Nat → Int → Bool) (o_ref01_Of_0 : Nat → Int → Int) (o_ref01_Of_1 : Nat → Int → Int) (ok_ref01_Add : Nat → Int → Int → Int → Int → Bool) (o_ref01_Add_0 : Nat → Int → Int → Int → Int → Int) (o_ref01_Add_1 : Nat → Int → Int → Int → Int → Int), funL PP (words [(105, spec ti_ref01_Digits to_ref01_Digits (fun q => (ok_ref01_Digits F (atI (nth q 0)) (atI (nth q 1)))) (fun q => [.c (o_ref01_Digits_0 F (atI (nth q 0)) (atI (nth q 1))), .n (o_ref01_Digits_1 F (atI (nth q 0)) (atI (nth q 1)))])), (48, spec ti_ref01_Right to_ref01_Right (fun q => (ok_ref01_Right F (atI (nth q 0)) (atI (nth q 1)) (atI (nth q 2)))) (fun q => [.i (o_ref01_Right_0 F (atI (nth q 0)) (atI (nth q 1)) (atI (nth q 2))), .i (o_ref01_Right_1 F (atI (nth q 0)) (atI (nth q 1)) (atI (nth q 2)))])), (58, spec ti_ref01_Of to_ref01_Of (fun q => (ok_ref01_Of F (atI (nth q 0)))) (fun q => [.i (o_ref01_Of_0 F (atI (nth q 0))), .i (o_ref01_Of_1 F (atI (nth q 0)))])), (51, spec ti_ref01_Add to_ref01_Add (fun q => (ok_ref01_Add F (atI (nth q 0)) (atI (nth q 1)) (atI (nth q 2)) (atI (nth q 3)))) (fun q => [.i (o_ref01_Add_0 F (atI (nth q 0)) (atI (nth q 1)) (atI (nth q 2)) (atI (nth q 3))), .i (o_ref01_Add_1 F (atI (nth q 0)) (atI (nth q 1)) (atI (nth q 2)) (atI (nth q 3)))]))]) c_ref01_Near (tabI c_ref01_Near []) (tabJ []) 50 (fTs ti_ref01_Near [.i a0, .i a1, .i a2]).1 = (
  let v456 : Int := (if 127 < a2 then 127 else a2)
  bif ((decide (v456 ≤ 0))) then (
    some (.v (.agg #[.int .i64 a0, .int .u64 a1])))
  else (
    bif (ok_ref01_Digits F a0 a1) then (
      let v459 : List VV := (o_ref01_Digits_0 F a0 a1)
      let v460 : Int := (IntKind.wrap .i64 (v456 - 1))
      bif ((decide (0 ≤ v460)) && (decide (v460 < ((((o_ref01_Digits_1 F a0 a1)) : Nat) : Int)))) then (
        let v461 : Nat := (0 + ((Int.toNat v460) * 1))
        bif ((isI .i64 v459[v461]?) && true) then (
          let v462 : Int := (iv v459[v461]?)
          bif (ok_ref01_Right F a0 a1 v456) then (
            let v463 : Int := (o_ref01_Right_0 F a0 a1 v456)
            let v464 : Int := (o_ref01_Right_1 F a0 a1 v456)
            bif (ok_ref01_Of F v462) then (
              let v465 : Int := (o_ref01_Of_0 F v462)
              let v466 : Int := (o_ref01_Of_1 F v462)
              bif (ok_ref01_Add F v463 v464 v465 v466) then (
                some (.v (.agg #[.int .i64 ((o_ref01_Add_0 F v463 v464 v465 v466)), .int .u64 ((o_ref01_Add_1 F v463 v464 v465 v466))])))
              else (
                none))
            else (
              none))
          else (
            none))
        else (
          none))
      else (
        none))
    else (
      none)) : R) := by
    intros
    kernel_rfl
  exact (h ok_ref01_Digits o_ref01_Digits_0 o_ref01_Digits_1 ok_ref01_Right o_ref01_Right_0 o_ref01_Right_1 ok_ref01_Of o_ref01_Of_0 o_ref01_Of_1 ok_ref01_Add o_ref01_Add_0 o_ref01_Add_1).trans (by kernel_rfl)
def ok_ref01_Near (F : Nat) (a0 : Int) (a1 : Int) (a2 : Int) : Bool := okT to_ref01_Near (f_ref01_Near F a0 a1 a2)
def o_ref01_Near_0 (F : Nat) (a0 : Int) (a1 : Int) (a2 : Int) : Int := atI (nth (outT to_ref01_Near (f_ref01_Near F a0 a1 a2)) 0)
def o_ref01_Near_1 (F : Nat) (a0 : Int) (a1 : Int) (a2 : Int) : Int := atI (nth (outT to_ref01_Near (f_ref01_Near F a0 a1 a2)) 1)
theorem k_ref01_Near (F : Nat) (a0 : Int) (a1 : Int) (a2 : Int) {z0 : Int} {z1 : Int} (h : f_ref01_Near F a0 a1 a2 = some (.v (.agg #[.int .i64 z0, .int .u64 z1]))) : ok_ref01_Near F a0 a1 a2 = true ∧ o_ref01_Near_0 F a0 a1 a2 = z0 ∧ o_ref01_Near_1 F a0 a1 a2 = z1 := by
  refine ⟨?_, ?_, ?_⟩
  · unfold ok_ref01_Near; rw [h]; kernel_rfl
  · unfold o_ref01_Near_0; rw [h]; kernel_rfl
  · unfold o_ref01_Near_1; rw [h]; kernel_rfl
def s_ref01_Near (F : Nat) : List VV → Option (Bool × VV) := spec ti_ref01_Near to_ref01_Near (fun q => (ok_ref01_Near F (atI (nth q 0)) (atI (nth q 1)) (atI (nth q 2)))) (fun q => [.i (o_ref01_Near_0 F (atI (nth q 0)) (atI (nth q 1)) (atI (nth q 2))), .i (o_ref01_Near_1 F (atI (nth q 0)) (atI (nth q 1)) (atI (nth q 2)))])
theorem hS_ref01_Near (F : Nat) : ∀ f, Good PP f (unS (S_ref01_Near F f)) := words_good fun p hp => by
  simp only [List.mem_cons, List.not_mem_nil, or_false] at hp
  rcases hp with rfl | rfl | rfl | rfl
  · exact g_ref01_Digits F
  · exact g_ref01_Right F
  · exact g_ref01_Of F
  · exact g_ref01_Add F
theorem hl_ref01_Near (F : Nat) : ∀ p ∈ loopsIn PP 50, LoopOK PP (S_ref01_Near F) c_ref01_Near F (I_ref01_Near F) (J_ref01_Near F) p :=
  loops_of [] (by kernel_rfl) all_nil
theorem hj_ref01_Near (F : Nat) : ∀ p ∈ joinsIn PP c_ref01_Near 50, JoinOK PP (S_ref01_Near F) c_ref01_Near (I_ref01_Near F) (J_ref01_Near F) p :=
  joins_of [] (by kernel_rfl) all_nil
theorem g_ref01_Near (F : Nat) : Good PP 50 (unS (s_ref01_Near F)) :=
  fun_spec (hS_ref01_Near F) (by kernel_rfl) (by kernel_rfl) (C := c_ref01_Near) (F := fun q => (f_ref01_Near F (atI (nth q 0)) (atI (nth q 1)) (atI (nth q 2)))) (fun _ => F) (fun _ => I_ref01_Near F) (fun _ => J_ref01_Near F) (fun _ => hl_ref01_Near F) (fun _ => hj_ref01_Near F)
    (fun q => (congrArg (funL PP (S_ref01_Near F) c_ref01_Near (I_ref01_Near F) (J_ref01_Near F) 50) (show (fTs ti_ref01_Near q).1 = (fTs ti_ref01_Near [.i (atI (nth q 0)), .i (atI (nth q 1)), .i (atI (nth q 2))]).1 by kernel_rfl)).trans (e_ref01_Near F (atI (nth q 0)) (atI (nth q 1)) (atI (nth q 2))))
    (fun _ h => (okT_fill h).trans (congrArg some (by kernel_rfl)))

end Go.Xv
set_option linter.unusedVariables false
namespace Go.Xv
/- 53 _wide_Sign -/
def c_wide_Sign : Cfg := ⟨[0, 1, 2, 3, 7], [], [], []⟩
def ti_wide_Sign : List TV := [.v (.agg [.int .i64, .int .u64])]
def to_wide_Sign : TV := .v (.int .i64)
def S_wide_Sign (F : Nat) : FuncId → List VV → Option (Bool × VV) := words []
def W_wide_Sign (F : Nat) : List LW := []
def I_wide_Sign (F : Nat) : Nat → VS → (Exit → VS → R) → R := tabI c_wide_Sign (W_wide_Sign F)
def WJ_wide_Sign (F : Nat) : List LJ := []
def J_wide_Sign (F : Nat) : Nat → Nat → VS → (Exit → VS → R) → R := tabJ (WJ_wide_Sign F)
def f_wide_Sign (F : Nat) (a0 : Int) (a1 : Int) : R :=
  bif ((decide (a0 < 0))) then (
    some (.v (.int .i64 (-1))))
  else (
    bif (((a0 == 0) && (a1 == 0))) then (
      some (.v (.int .i64 0)))
    else (
      some (.v (.int .i64 1))))
theorem e_wide_Sign (F : Nat) (a0 : Int) (a1 : Int) : funL PP (S_wide_Sign F) c_wide_Sign (I_wide_Sign F) (J_wide_Sign F) 53 (fTs ti_wide_Sign [.i a0, .i a1]).1 = f_wide_Sign F a0 a1 := by
  have h : ∀ (_ : Unit), funL PP (words []) c_wide_Sign (tabI c_wide_Sign []) (tabJ []) 53 (fTs ti_wide_Sign [.i a0, .i a1]).1 = (
  bif ((decide (a0 < 0))) then (
    some (.v (.int .i64 (-1))))
  else (
    bif (((a0 == 0) && (a1 == 0))) then (
      some (.v (.int .i64 0)))
    else (
      some (.v (.int .i64 1)))) : R) := by
    intros
    kernel_rfl
  exact (h ()).trans (by kernel_rfl)
def ok_wide_Sign (F : Nat) (a0 : Int) (a1 : Int) : Bool := okT to_wide_Sign (f_wide_Sign F a0 a1)
def o_wide_Sign_0 (F : Nat) (a0 : Int) (a1 : Int) : Int := atI (nth (outT to_wide_Sign (f_wide_Sign F a0 a1)) 0)
theorem k_wide_Sign (F : Nat) (a0 : Int) (a1 : Int) {z0 : Int} (h : f_wide_Sign F a0 a1 = some (.v (.int .i64 z0))) : ok_wide_Sign F a0 a1 = true ∧ o_wide_Sign_0 F a0 a1 = z0 := by
  refine ⟨?_, ?_⟩
  · unfold ok_wide_Sign; rw [h]; kernel_rfl
  · unfold o_wide_Sign_0; rw [h]; kernel_rfl
def s_wide_Sign (F : Nat) : List VV → Option (Bool × VV) := spec ti_wide_Sign to_wide_Sign (fun q => (ok_wide_Sign F (atI (nth q 0)) (atI (nth q 1)))) (fun q => [.i (o_wide_Sign_0 F (atI (nth q 0)) (atI (nth q 1)))])
theorem hS_wide_Sign (F : Nat) : ∀ f, Good PP f (unS (S_wide_Sign F f)) := words_good fun p hp => by
  cases hp
theorem hl_wide_Sign (F : Nat) : ∀ p ∈ loopsIn PP 53, LoopOK PP (S_wide_Sign F) c_wide_Sign F (I_wide_Sign F) (J_wide_Sign F) p :=
  loops_of [] (by kernel_rfl) all_nil
theorem hj_wide_Sign (F : Nat) : ∀ p ∈ joinsIn PP c_wide_Sign 53, JoinOK PP (S_wide_Sign F) c_wide_Sign (I_wide_Sign F) (J_wide_Sign F) p :=
  joins_of [] (by kernel_rfl) all_nil
theorem g_wide_Sign (F : Nat) : Good PP 53 (unS (s_wide_Sign F)) :=
  fun_spec (hS_wide_Sign F) (by kernel_rfl) (by kernel_rfl) (C := c_wide_Sign) (F := fun q => (f_wide_Sign F (atI (nth q 0)) (atI (nth q 1)))) (fun _ => F) (fun _ => I_wide_Sign F) (fun _ => J_wide_Sign F) (fun _ => hl_wide_Sign F) (fun _ => hj_wide_Sign F)
    (fun q => (congrArg (funL PP (S_wide_Sign F) c_wide_Sign (I_wide_Sign F) (J_wide_Sign F) 53) (show (fTs ti_wide_Sign q).1 = (fTs ti_wide_Sign [.i (atI (nth q 0)), .i (atI (nth q 1))]).1 by kernel_rfl)).trans (e_wide_Sign F (atI (nth q 0)) (atI (nth q 1))))
    (fun _ h => (okT_fill h).trans (congrArg some (by kernel_rfl)))

end Go.Xv
set_option linter.unusedVariables false
namespace Go.Xv
/- 54 _ref01_Sign -/
def c_ref01_Sign : Cfg := ⟨[0, 1, 2, 5, 13], [], [], []⟩
def ti_ref01_Sign : List TV := [.v (.agg [.int .i64, .int .u64])]
def to_ref01_Sign : TV := .v (.int .i64)
def S_ref01_Sign (F : Nat) : FuncId → List VV → Option (Bool × VV) := words []
def W_ref01_Sign (F : Nat) : List LW := []
def I_ref01_Sign (F : Nat) : Nat → VS → (Exit → VS → R) → R := tabI c_ref01_Sign (W_ref01_Sign F)
def WJ_ref01_Sign (F : Nat) : List LJ := []
def J_ref01_Sign (F : Nat) : Nat → Nat → VS → (Exit → VS → R) → R := tabJ (WJ_ref01_Sign F)
def f_ref01_Sign (F : Nat) (a0 : Int) (a1 : Int) : R :=
  bif ((decide (a0 < 0))) then (
    some (.v (.int .i64 (-1))))
  else (
    bif ((a0 == 0)) then (
      bif ((a1 == 0)) then (
        some (.v (.int .i64 0)))
      else (
        some (.v (.int .i64 1))))
    else (
      some (.v (.int .i64 1))))
theorem e_ref01_Sign (F : Nat) (a0 : Int) (a1 : Int) : funL PP (S_ref01_Sign F) c_ref01_Sign (I_ref01_Sign F) (J_ref01_Sign F) 54 (fTs ti_ref01_Sign [.i a0, .i a1]).1 = f_ref01_Sign F a0 a1 := by
  have h : ∀ (_ : Unit), funL PP (words []) c_ref01_Sign (tabI c_ref01_Sign []) (tabJ []) 54 (fTs ti_ref01_Sign [.i a0, .i a1]).1 = (
  bif ((decide (a0 < 0))) then (
    some (.v (.int .i64 (-1))))
  else (
    bif ((a0 == 0)) then (
      bif ((a1 == 0)) then (
        some (.v (.int .i64 0)))
      else (
        some (.v (.int .i64 1))))
    else (
      some (.v (.int .i64 1)))) : R) := by
    intros
    kernel_rfl
  exact (h ()).trans (by kernel_rfl)
def ok_ref01_Sign (F : Nat) (a0 : Int) (a1 : Int) : Bool := okT to_ref01_Sign (f_ref01_Sign F a0 a1)
def o_ref01_Sign_0 (F : Nat) (a0 : Int) (a1 : Int) : Int := atI (nth (outT to_ref01_Sign (f_ref01_Sign F a0 a1)) 0)
theorem k_ref01_Sign (F : Nat) (a0 : Int) (a1 : Int) {z0 : Int} (h : f_ref01_Sign F a0 a1 = some (.v (.int .i64 z0))) : ok_ref01_Sign F a0 a1 = true ∧ o_ref01_Sign_0 F a0 a1 = z0 := by
  refine ⟨?_, ?_⟩
  · unfold ok_ref01_Sign; rw [h]; kernel_rfl
  · unfold o_ref01_Sign_0; rw [h]; kernel_rfl
def s_ref01_Sign (F : Nat) : List VV → Option (Bool × VV) := spec ti_ref01_Sign to_ref01_Sign (fun q => (ok_ref01_Sign F (atI (nth q 0)) (atI (nth q 1)))) (fun q => [.i (o_ref01_Sign_0 F (atI (nth q 0)) (atI (nth q 1)))])
theorem hS_ref01_Sign (F : Nat) : ∀ f, Good PP f (unS (S_ref01_Sign F f)) := words_good fun p hp => by
  cases hp
theorem hl_ref01_Sign (F : Nat) : ∀ p ∈ loopsIn PP 54, LoopOK PP (S_ref01_Sign F) c_ref01_Sign F (I_ref01_Sign F) (J_ref01_Sign F) p :=
  loops_of [] (by kernel_rfl) all_nil
theorem hj_ref01_Sign (F : Nat) : ∀ p ∈ joinsIn PP c_ref01_Sign 54, JoinOK PP (S_ref01_Sign F) c_ref01_Sign (I_ref01_Sign F) (J_ref01_Sign F) p :=
  joins_of [] (by kernel_rfl) all_nil
theorem g_ref01_Sign (F : Nat) : Good PP 54 (unS (s_ref01_Sign F)) :=
  fun_spec (hS_ref01_Sign F) (by kernel_rfl) (by kernel_rfl) (C := c_ref01_Sign) (F := fun q => (f_ref01_Sign F (atI (nth q 0)) (atI (nth q 1)))) (fun _ => F) (fun _ => I_ref01_Sign F) (fun _ => J_ref01_Sign F) (fun _ => hl_ref01_Sign F) (fun _ => hj_ref01_Sign F)
    (fun q => (congrArg (funL PP (S_ref01_Sign F) c_ref01_Sign (I_ref01_Sign F) (J_ref01_Sign F) 54) (show (fTs ti_ref01_Sign q).1 = (fTs ti_ref01_Sign [.i (atI (nth q 0)), .i (atI (nth q 1))]).1 by kernel_rfl)).trans (e_ref01_Sign F (atI (nth q 0)) (atI (nth q 1))))
    (fun _ h => (okT_fill h).trans (congrArg some (by kernel_rfl)))

end Go.Xv
set_option linter.unusedVariables false
namespace Go.Xv
/- 55 _wide_Less -/
def c_wide_Less : Cfg := ⟨[0, 1, 2, 3, 4, 9], [], [], []⟩
def ti_wide_Less : List TV := [.v (.agg [.int .i64, .int .u64]), .v (.agg [.int .i64, .int .u64])]
def to_wide_Less : TV := .v (.bool)
def S_wide_Less (F : Nat) : FuncId → List VV → Option (Bool × VV) := words []
def W_wide_Less (F : Nat) : List LW := []
def I_wide_Less (F : Nat) : Nat → VS → (Exit → VS → R) → R := tabI c_wide_Less (W_wide_Less F)
def WJ_wide_Less (F : Nat) : List LJ := []
def J_wide_Less (F : Nat) : Nat → Nat → VS → (Exit → VS → R) → R := tabJ (WJ_wide_Less F)
def f_wide_Less (F : Nat) (a0 : Int) (a1 : Int) (a2 : Int) (a3 : Int) : R :=
  bif ((a0 != a2)) then (
    some (.v (.bool ((decide (a0 < a2))))))
  else (
    some (.v (.bool ((decide (a1 < a3))))))
theorem e_wide_Less (F : Nat) (a0 : Int) (a1 : Int) (a2 : Int) (a3 : Int) : funL PP (S_wide_Less F) c_wide_Less (I_wide_Less F) (J_wide_Less F) 55 (fTs ti_wide_Less [.i a0, .i a1, .i a2, .i a3]).1 = f_wide_Less F a0 a1 a2 a3 := by
  have h : ∀ (_ : Unit), funL PP (words []) c_wide_Less (tabI c_wide_Less []) (tabJ []) 55 (fTs ti_wide_Less [.i a0, .i a1, .i a2, .i a3]).1 = (
  bif ((a0 != a2)) then (
    some (.v (.bool ((decide (a0 < a2))))))
  else (
    some (.v (.bool ((decide (a1 < a3)))))) : R) := by
    intros
    kernel_rfl
  exact (h ()).trans (by kernel_rfl)
def ok_wide_Less (F : Nat) (a0 : Int) (a1 : Int) (a2 : Int) (a3 : Int) : Bool := okT to_wide_Less (f_wide_Less F a0 a1 a2 a3)
def o_wide_Less_0 (F : Nat) (a0 : Int) (a1 : Int) (a2 : Int) (a3 : Int) : Bool := atB (nth (outT to_wide_Less (f_wide_Less F a0 a1 a2 a3)) 0)
theorem k_wide_Less (F : Nat) (a0 : Int) (a1 : Int) (a2 : Int) (a3 : Int) {z0 : Bool} (h : f_wide_Less F a0 a1 a2 a3 = some (.v (.bool z0))) : ok_wide_Less F a0 a1 a2 a3 = true ∧ o_wide_Less_0 F a0 a1 a2 a3 = z0 := by
  refine ⟨?_, ?_⟩
  · unfold ok_wide_Less; rw [h]; kernel_rfl
  · unfold o_wide_Less_0; rw [h]; kernel_rfl
def s_wide_Less (F : Nat) : List VV → Option (Bool × VV) := spec ti_wide_Less to_wide_Less (fun q => (ok_wide_Less F (atI (nth q 0)) (atI (nth q 1)) (atI (nth q 2)) (atI (nth q 3)))) (fun q => [.b (o_wide_Less_0 F (atI (nth q 0)) (atI (nth q 1)) (atI (nth q 2)) (atI (nth q 3)))])
theorem hS_wide_Less (F : Nat) : ∀ f, Good PP f (unS (S_wide_Less F f)) := words_good fun p hp => by
  cases hp
theorem hl_wide_Less (F : Nat) : ∀ p ∈ loopsIn PP 55, LoopOK PP (S_wide_Less F) c_wide_Less F (I_wide_Less F) (J_wide_Less F) p :=
  loops_of [] (by kernel_rfl) all_nil
theorem hj_wide_Less (F : Nat) : ∀ p ∈ joinsIn PP c_wide_Less 55, JoinOK PP (S_wide_Less F) c_wide_Less (I_wide_Less F) (J_wide_Less F) p :=
  joins_of [] (by kernel_rfl) all_nil
theorem g_wide_Less (F : Nat) : Good PP 55 (unS (s_wide_Less F)) :=
  fun_spec (hS_wide_Less F) (by kernel_rfl) (by kernel_rfl) (C := c_wide_Less) (F := fun q => (f_wide_Less F (atI (nth q 0)) (atI (nth q 1)) (atI (nth q 2)) (atI (nth q 3)))) (fun _ => F) (fun _ => I_wide_Less F) (fun _ => J_wide_Less F) (fun _ => hl_wide_Less F) (fun _ => hj_wide_Less F)
    (fun q => (congrArg (funL PP (S_wide_Less F) c_wide_Less (I_wide_Less F) (J_wide_Less F) 55) (show (fTs ti_wide_Less q).1 = (fTs ti_wide_Less [.i (atI (nth q 0)), .i (atI (nth q 1)), .i (atI (nth q 2)), .i (atI (nth q 3))]).1 by kernel_rfl)).trans (e_wide_Less F (atI (nth q 0)) (atI (nth q 1)) (atI (nth q 2)) (atI (nth q 3))))
    (fun _ h => (okT_fill h).trans (congrArg some (by kernel_rfl)))

end Go.Xv
set_option linter.unusedVariables false
namespace Go.Xv
/- 56 _ref01_Less -/
def c_ref01_Less : Cfg := ⟨[0, 1, 2, 3, 4], [], [], []⟩
def ti_ref01_Less : List TV := [.v (.agg [.int .i64, .int .u64]), .v (.agg [.int .i64, .int .u64])]
def to_ref01_Less : TV := .v (.bool)
def S_ref01_Less (F : Nat) : FuncId → List VV → Option (Bool × VV) := words []
def W_ref01_Less (F : Nat) : List LW := []
def I_ref01_Less (F : Nat) : Nat → VS → (Exit → VS → R) → R := tabI c_ref01_Less (W_ref01_Less F)
def WJ_ref01_Less (F : Nat) : List LJ := []
def J_ref01_Less (F : Nat) : Nat → Nat → VS → (Exit → VS → R) → R := tabJ (WJ_ref01_Less F)
def f_ref01_Less (F : Nat) (a0 : Int) (a1 : Int) (a2 : Int) (a3 : Int) : R :=
  bif ((decide (a0 < a2))) then (
    some (.v (.bool true)))
  else (
    bif ((a0 == a2)) then (
      some (.v (.bool ((decide (a1 < a3))))))
    else (
      some (.v (.bool false))))
theorem e_ref01_Less (F : Nat) (a0 : Int) (a1 : Int) (a2 : Int) (a3 : Int) : funL PP (S_ref01_Less F) c_ref01_Less (I_ref01_Less F) (J_ref01_Less F) 56 (fTs ti_ref01_Less [.i a0, .i a1, .i a2, .i a3]).1 = f_ref01_Less F a0 a1 a2 a3 := by
  have h : ∀ (_ : Unit), funL PP (words []) c_ref01_Less (tabI c_ref01_Less []) (tabJ []) 56 (fTs ti_ref01_Less [.i a0, .i a1, .i a2, .i a3]).1 = (
  bif ((decide (a0 < a2))) then (
    some (.v (.bool true)))
  else (
    bif ((a0 == a2)) then (
      some (.v (.bool ((decide (a1 < a3))))))
    else (
      some (.v (.bool false)))) : R) := by
    intros
    kernel_rfl
  exact (h ()).trans (by kernel_rfl)
def ok_ref01_Less (F : Nat) (a0 : Int) (a1 : Int) (a2 : Int) (a3 : Int) : Bool := okT to_ref01_Less (f_ref01_Less F a0 a1 a2 a3)
def o_ref01_Less_0 (F : Nat) (a0 : Int) (a1 : Int) (a2 : Int) (a3 : Int) : Bool := atB (nth (outT to_ref01_Less (f_ref01_Less F a0 a1 a2 a3)) 0)
theorem k_ref01_Less (F : Nat) (a0 : Int) (a1 : Int) (a2 : Int) (a3 : Int) {z0 : Bool} (h : f_ref01_Less F a0 a1 a2 a3 = some (.v (.bool z0))) : ok_ref01_Less F a0 a1 a2 a3 = true ∧ o_ref01_Less_0 F a0 a1 a2 a3 = z0 := by
  refine ⟨?_, ?_⟩
  · unfold ok_ref01_Less; rw [h]; kernel_rfl
  · unfold o_ref01_Less_0; rw [h]; kernel_rfl
def s_ref01_Less (F : Nat) : List VV → Option (Bool × VV) := spec ti_ref01_Less to_ref01_Less (fun q => (ok_ref01_Less F (atI (nth q 0)) (atI (nth q 1)) (atI (nth q 2)) (atI (nth q 3)))) (fun q => [.b (o_ref01_Less_0 F (atI (nth q 0)) (atI (nth q 1)) (atI (nth q 2)) (atI (nth q 3)))])
theorem hS_ref01_Less (F : Nat) : ∀ f, Good PP f (unS (S_ref01_Less F f)) := words_good fun p hp => by
  cases hp
theorem hl_ref01_Less (F : Nat) : ∀ p ∈ loopsIn PP 56, LoopOK PP (S_ref01_Less F) c_ref01_Less F (I_ref01_Less F) (J_ref01_Less F) p :=
  loops_of [] (by kernel_rfl) all_nil
theorem hj_ref01_Less (F : Nat) : ∀ p ∈ joinsIn PP c_ref01_Less 56, JoinOK PP (S_ref01_Less F) c_ref01_Less (I_ref01_Less F) (J_ref01_Less F) p :=
  joins_of [] (by kernel_rfl) all_nil
theorem g_ref01_Less (F : Nat) : Good PP 56 (unS (s_ref01_Less F)) :=
  fun_spec (hS_ref01_Less F) (by kernel_rfl) (by kernel_rfl) (C := c_ref01_Less) (F := fun q => (f_ref01_Less F (atI (nth q 0)) (atI (nth q 1)) (atI (nth q 2)) (atI (nth q 3)))) (fun _ => F) (fun _ => I_ref01_Less F) (fun _ => J_ref01_Less F) (fun _ => hl_ref01_Less F) (fun _ => hj_ref01_Less F)
    (fun q => (congrArg (funL PP (S_ref01_Less F) c_ref01_Less (I_ref01_Less F) (J_ref01_Less F) 56) (show (fTs ti_ref01_Less q).1 = (fTs ti_ref01_Less [.i (atI (nth q 0)), .i (atI (nth q 1)), .i (atI (nth q 2)), .i (atI (nth q 3))]).1 by kernel_rfl)).trans (e_ref01_Less F (atI (nth q 0)) (atI (nth q 1)) (atI (nth q 2)) (atI (nth q 3))))
    (fun _ h => (okT_fill h).trans (congrArg some (by kernel_rfl)))

end Go.Xv
set_option linter.unusedVariables false
namespace Go.Xv
/- 111 _wide_divide -/
def c_wide_divide : Cfg := ⟨[0, 1, 2, 4, 5, 6, 7, 8, 9, 27], [(0, [0, 1, 2, 4, 5, 6, 8, 36, 37])], [], []⟩
def ti_wide_divide : List TV := [.v (.agg [.int .i64, .int .u64]), .v (.int .u64)]
def to_wide_divide : TV := .v (.tup [.agg [.int .i64, .int .u64], .int .u64])
def S_wide_divide (F : Nat) : FuncId → List VV → Option (Bool × VV) := words [(45, s_wide_Left F)]
def T_wide_divide_0 : TS := ⟨[(0, .v (.agg [.int .i64, .int .u64])), (1, .v (.int .u64)), (2, .lp 0 (.lit 0)), (4, .lp 1 (.lit 0)), (5, .v (.int .u64)), (6, .v (.int .u64)), (8, .v (.int .i64))], [(0, ⟨(.ex [.v (.int .i64), .v (.int .u64)]), true⟩), (1, ⟨(.ex [.v (.int .i64), .v (.int .u64)]), true⟩)], 2⟩
def T_wide_divide_0_0 : TS := ⟨[(0, .v (.agg [.int .i64, .int .u64])), (1, .v (.int .u64)), (2, .lp 0 (.lit 0)), (4, .lp 1 (.lit 0)), (5, .v (.int .u64)), (6, .v (.int .u64)), (8, .v (.int .i64))], [(0, ⟨(.ex [.v (.int .i64), .v (.int .u64)]), true⟩), (1, ⟨(.ex [.v (.int .i64), .v (.int .u64)]), true⟩)], 2⟩
def B_wide_divide_0 (F : Nat) (rc : Int → Int → Int → Int → Int → Int → Int → Int → Int → Int → R) (ex0 : Int → Int → Int → Int → Int → Int → Int → Int → Int → Int → R) (x0 : Int) (x1 : Int) (x2 : Int) (x3 : Int) (x4 : Int) (x5 : Int) (x6 : Int) (x7 : Int) (x8 : Int) (x9 : Int) : R :=
  bif ((decide (x5 < 128))) then (
    let v561 : Int := (orI .u64 ((IntKind.wrap .u64 (x4 * 2))) ((Int.fdiv ((IntKind.wrap .u64 x6)) (9223372036854775808))))
    bif (ok_wide_Left F x6 x7 1) then (
      let v562 : Int := (o_wide_Left_0 F x6 x7 1)
      let v563 : Int := (o_wide_Left_1 F x6 x7 1)
      bif ((((Int.fdiv x4 (9223372036854775808))) == 1)) then (
        rc x0 x1 x2 x3 ((IntKind.wrap .u64 (v561 - x2))) ((IntKind.wrap .i64 (x5 + 1))) v562 ((orI .u64 v563 1)) x8 x9)
      else (
        bif ((decide (v561 ≥ x2))) then (
          rc x0 x1 x2 x3 ((IntKind.wrap .u64 (v561 - x2))) ((IntKind.wrap .i64 (x5 + 1))) v562 ((orI .u64 v563 1)) x8 x9)
        else (
          rc x0 x1 x2 x3 v561 ((IntKind.wrap .i64 (x5 + 1))) v562 v563 x8 x9)))
    else (
      none))
  else (
    ex0 x0 x1 x2 x3 x4 x5 x6 x7 x8 x9)
def L_wide_divide_0 (F : Nat) (ex0 : Int → Int → Int → Int → Int → Int → Int → Int → Int → Int → R) : Nat → Int → Int → Int → Int → Int → Int → Int → Int → Int → Int → R
  | 0, _, _, _, _, _, _, _, _, _, _ => none
  | n + 1, x0, x1, x2, x3, x4, x5, x6, x7, x8, x9 => B_wide_divide_0 F (L_wide_divide_0 F ex0 n) ex0 x0 x1 x2 x3 x4 x5 x6 x7 x8 x9
def W_wide_divide (F : Nat) : List LW := [⟨0, T_wide_divide_0, fun k q => L_wide_divide_0 F (fun (z0 : Int) (z1 : Int) (z2 : Int) (z3 : Int) (z4 : Int) (z5 : Int) (z6 : Int) (z7 : Int) (z8 : Int) (z9 : Int) => k (.exit 0) (fS T_wide_divide_0_0 [.i z0, .i z1, .i z2, .i z3, .i z4, .i z5, .i z6, .i z7, .i z8, .i z9])) F (atI (nth q 0)) (atI (nth q 1)) (atI (nth q 2)) (atI (nth q 3)) (atI (nth q 4)) (atI (nth q 5)) (atI (nth q 6)) (atI (nth q 7)) (atI (nth q 8)) (atI (nth q 9))⟩]
def I_wide_divide (F : Nat) : Nat → VS → (Exit → VS → R) → R := tabI c_wide_divide (W_wide_divide F)
def WJ_wide_divide (F : Nat) : List LJ := []
def J_wide_divide (F : Nat) : Nat → Nat → VS → (Exit → VS → R) → R := tabJ (WJ_wide_divide F)
theorem lL_wide_divide_0 (F : Nat) (k : Exit → VS → R) : ∀ (n : Nat) (x0 : Int) (x1 : Int) (x2 : Int) (x3 : Int) (x4 : Int) (x5 : Int) (x6 : Int) (x7 : Int) (x8 : Int) (x9 : Int), iterC (codeL PP (S_wide_divide F) c_wide_divide (I_wide_divide F) (J_wide_divide F) (loopAt PP 111 0) 0) (headOf c_wide_divide 0) k n (fS T_wide_divide_0 [.i x0, .i x1, .i x2, .i x3, .i x4, .i x5, .i x6, .i x7, .i x8, .i x9]) = L_wide_divide_0 F (fun (z0 : Int) (z1 : Int) (z2 : Int) (z3 : Int) (z4 : Int) (z5 : Int) (z6 : Int) (z7 : Int) (z8 : Int) (z9 : Int) => k (.exit 0) (fS T_wide_divide_0_0 [.i z0, .i z1, .i z2, .i z3, .i z4, .i z5, .i z6, .i z7, .i z8, .i z9])) n x0 x1 x2 x3 x4 x5 x6 x7 x8 x9
  | 0, _, _, _, _, _, _, _, _, _, _ => rfl
  | n + 1, x0, x1, x2, x3, x4, x5, x6, x7, x8, x9 => by
    have h0 : ∀ (ok_wide_Left : Nat → Int → Int → Int → Bool) (o_wide_Left_0 : Nat → Int → Int → Int → Int) (o_wide_Left_1 : Nat → Int → Int → Int → Int) (L_wide_divide_0 : Nat → (Int → Int → Int → Int → Int → Int → Int → Int → Int → Int → R) → Nat → Int → Int → Int → Int → Int → Int → Int → Int → Int → Int → R), iterC (codeL PP (words [(45, spec ti_wide_Left to_wide_Left (fun q => (ok_wide_Left F (atI (nth q 0)) (atI (nth q 1)) (atI (nth q 2)))) (fun q => [.i (o_wide_Left_0 F (atI (nth q 0)) (atI (nth q 1)) (atI (nth q 2))), .i (o_wide_Left_1 F (atI (nth q 0)) (atI (nth q 1)) (atI (nth q 2)))]))]) c_wide_divide (tabI c_wide_divide [⟨0, T_wide_divide_0, fun k q => L_wide_divide_0 F (fun (z0 : Int) (z1 : Int) (z2 : Int) (z3 : Int) (z4 : Int) (z5 : Int) (z6 : Int) (z7 : Int) (z8 : Int) (z9 : Int) => k (.exit 0) (fS T_wide_divide_0_0 [.i z0, .i z1, .i z2, .i z3, .i z4, .i z5, .i z6, .i z7, .i z8, .i z9])) F (atI (nth q 0)) (atI (nth q 1)) (atI (nth q 2)) (atI (nth q 3)) (atI (nth q 4)) (atI (nth q 5)) (atI (nth q 6)) (atI (nth q 7)) (atI (nth q 8)) (atI (nth q 9))⟩]) (tabJ []) (loopAt PP 111 0) 0) (headOf c_wide_divide 0) k (n + 1) (fS T_wide_divide_0 [.i x0, .i x1, .i x2, .i x3, .i x4, .i x5, .i x6, .i x7, .i x8, .i x9]) = (fun (rc : Int → Int → Int → Int → Int → Int → Int → Int → Int → Int → R) (ex0 : Int → Int → Int → Int → Int → Int → Int → Int → Int → Int → R) (x0 : Int) (x1 : Int) (x2 : Int) (x3 : Int) (x4 : Int) (x5 : Int) (x6 : Int) (x7 : Int) (x8 : Int) (x9 : Int) => (
  bif ((decide (x5 < 128))) then (
    let v561 : Int := (orI .u64 ((IntKind.wrap .u64 (x4 * 2))) ((Int.fdiv ((IntKind.wrap .u64 x6)) (9223372036854775808))))
    bif (ok_wide_Left F x6 x7 1) then (
      let v562 : Int := (o_wide_Left_0 F x6 x7 1)
      let v563 : Int := (o_wide_Left_1 F x6 x7 1)
      bif ((((Int.fdiv x4 (9223372036854775808))) == 1)) then (
        rc x0 x1 x2 x3 ((IntKind.wrap .u64 (v561 - x2))) ((IntKind.wrap .i64 (x5 + 1))) v562 ((orI .u64 v563 1)) x8 x9)
      else (
        bif ((decide (v561 ≥ x2))) then (
          rc x0 x1 x2 x3 ((IntKind.wrap .u64 (v561 - x2))) ((IntKind.wrap .i64 (x5 + 1))) v562 ((orI .u64 v563 1)) x8 x9)
        else (
          rc x0 x1 x2 x3 v561 ((IntKind.wrap .i64 (x5 + 1))) v562 v563 x8 x9)))
    else (
      none))
  else (
    ex0 x0 x1 x2 x3 x4 x5 x6 x7 x8 x9) : R)) (fun (y0 : Int) (y1 : Int) (y2 : Int) (y3 : Int) (y4 : Int) (y5 : Int) (y6 : Int) (y7 : Int) (y8 : Int) (y9 : Int) => iterC (codeL PP (words [(45, spec ti_wide_Left to_wide_Left (fun q => (ok_wide_Left F (atI (nth q 0)) (atI (nth q 1)) (atI (nth q 2)))) (fun q => [.i (o_wide_Left_0 F (atI (nth q 0)) (atI (nth q 1)) (atI (nth q 2))), .i (o_wide_Left_1 F (atI (nth q 0)) (atI (nth q 1)) (atI (nth q 2)))]))]) c_wide_divide (tabI c_wide_divide [⟨0, T_wide_divide_0, fun k q => L_wide_divide_0 F (fun (z0 : Int) (z1 : Int) (z2 : Int) (z3 : Int) (z4 : Int) (z5 : Int) (z6 : Int) (z7 : Int) (z8 : Int) (z9 : Int) => k (.exit 0) (fS T_wide_divide_0_0 [.i z0, .i z1, .i z2, .i z3, .i z4, .i z5, .i z6, .i z7, .i z8, .i z9])) F (atI (nth q 0)) (atI (nth q 1)) (atI (nth q 2)) (atI (nth q 3)) (atI (nth q 4)) (atI (nth q 5)) (atI (nth q 6)) (atI (nth q 7)) (atI (nth q 8)) (atI (nth q 9))⟩]) (tabJ []) (loopAt PP 111 0) 0) (headOf c_wide_divide 0) k n (fS T_wide_divide_0 [.i y0, .i y1, .i y2, .i y3, .i y4, .i y5, .i y6, .i y7, .i y8, .i y9])) (fun (z0 : Int) (z1 : Int) (z2 : Int) (z3 : Int) (z4 : Int) (z5 : Int) (z6 : Int) (z7 : Int) (z8 : Int) (z9 : Int) => k (.exit 0) (fS T_wide_divide_0_0 [.i z0, .i z1, .i z2, .i z3, .i z4, .i z5, .i z6, .i z7, .i z8, .i z9])) x0 x1 x2 x3 x4 x5 x6 x7 x8 x9 := by
      intros
      kernel_rfl
    have h : iterC (codeL PP (S_wide_divide F) c_wide_divide (I_wide_divide F) (J_wide_divide F) (loopAt PP 111 0) 0) (headOf c_wide_divide 0) k (n + 1) (fS T_wide_divide_0 [.i x0, .i x1, .i x2, .i x3, .i x4, .i x5, .i x6, .i x7, .i x8, .i x9]) = B_wide_divide_0 F (fun (y0 : Int) (y1 : Int) (y2 : Int) (y3 : Int) (y4 : Int) (y5 : Int) (y6 : Int) (y7 : Int) (y8 : Int) (y9 : Int) => iterC (codeL PP (S_wide_divide F) c_wide_divide (I_wide_divide F) (J_wide_divide F) (loopAt PP 111 0) 0) (headOf c_wide_divide 0) k n (fS T_wide_divide_0 [.i y0, .i y1, .i y2, .i y3, .i y4, .i y5, .i y6, .i y7, .i y8, .i y9])) (fun (z0 : Int) (z1 : Int) (z2 : Int) (z3 : Int) (z4 : Int) (z5 : Int) (z6 : Int) (z7 : Int) (z8 : Int) (z9 : Int) => k (.exit 0) (fS T_wide_divide_0_0 [.i z0, .i z1, .i z2, .i z3, .i z4, .i z5, .i z6, .i z7, .i z8, .i z9])) x0 x1 x2 x3 x4 x5 x6 x7 x8 x9 := (h0 ok_wide_Left o_wide_Left_0 o_wide_Left_1 L_wide_divide_0).trans (by kernel_rfl)
    rw [h]
    simp only [lL_wide_divide_0 F k n]
    rfl
def f_wide_divide (F : Nat) (a0 : Int) (a1 : Int) (a2 : Int) : R :=
  L_wide_divide_0 F (fun (v572 : Int) (v573 : Int) (v574 : Int) (v575 : Int) (v576 : Int) (v577 : Int) (v578 : Int) (v579 : Int) (v580 : Int) (v581 : Int) =>
    some (.v (.tuple #[.agg #[.int .i64 v578, .int .u64 v579], .int .u64 v576]))) F a0 a1 a2 0 0 0 a0 a1 0 0
theorem e_wide_divide (F : Nat) (a0 : Int) (a1 : Int) (a2 : Int) : funL PP (S_wide_divide F) c_wide_divide (I_wide_divide F) (J_wide_divide F) 111 (fTs ti_wide_divide [.i a0, .i a1, .i a2]).1 = f_wide_divide F a0 a1 a2 := by
  have h : ∀ (ok_wide_Left : Nat → Int → Int → Int → Bool) (o_wide_Left_0 : Nat → Int → Int → Int → Int) (o_wide_Left_1 : Nat → Int → Int → Int → Int) (L_wide_divide_0 : Nat → (Int → Int → Int → Int → Int → Int → Int → Int → Int → Int → R) → Nat → Int → Int → Int → Int → Int → Int → Int → Int → Int → Int → R), funL PP (words [(45, spec ti_wide_Left to_wide_Left (fun q => (ok_wide_Left F (atI (nth q 0)) (atI (nth q 1)) (atI (nth q 2)))) (fun q => [.i (o_wide_Left_0 F (atI (nth q 0)) (atI (nth q 1)) (atI (nth q 2))), .i (o_wide_Left_1 F (atI (nth q 0)) (atI (nth q 1)) (atI (nth q 2)))]))]) c_wide_divide (tabI c_wide_divide [⟨0, T_wide_divide_0, fun k q => L_wide_divide_0 F (fun (z0 : Int) (z1 : Int) (z2 : Int) (z3 : Int) (z4 : Int) (z5 : Int) (z6 : Int) (z7 : Int) (z8 : Int) (z9 : Int) => k (.exit 0) (fS T_wide_divide_0_0 [.i z0, .i z1, .i z2, .i z3, .i z4, .i z5, .i z6, .i z7, .i z8, .i z9])) F (atI (nth q 0)) (atI (nth q 1)) (atI (nth q 2)) (atI (nth q 3)) (atI (nth q 4)) (atI (nth q 5)) (atI (nth q 6)) (atI (nth q 7)) (atI (nth q 8)) (atI (nth q 9))⟩]) (tabJ []) 111 (fTs ti_wide_divide [.i a0, .i a1, .i a2]).1 = (
  L_wide_divide_0 F (fun (v572 : Int) (v573 : Int) (v574 : Int) (v575 : Int) (v576 : Int) (v577 : Int) (v578 : Int) (v579 : Int) (v580 : Int) (v581 : Int) =>
    some (.v (.tuple #[.agg #[.int .i64 v578, .int .u64 v579], .int .u64 v576]))) F a0 a1 a2 0 0 0 a0 a1 0 0 : R) := by
    intros
    kernel_rfl
  exact (h ok_wide_Left o_wide_Left_0 o_wide_Left_1 L_wide_divide_0).trans (by kernel_rfl)
def ok_wide_divide (F : Nat) (a0 : Int) (a1 : Int) (a2 : Int) : Bool := okT to_wide_divide (f_wide_divide F a0 a1 a2)
def o_wide_divide_0 (F : Nat) (a0 : Int) (a1 : Int) (a2 : Int) : Int := atI (nth (outT to_wide_divide (f_wide_divide F a0 a1 a2)) 0)
def o_wide_divide_1 (F : Nat) (a0 : Int) (a1 : Int) (a2 : Int) : Int := atI (nth (outT to_wide_divide (f_wide_divide F a0 a1 a2)) 1)
def o_wide_divide_2 (F : Nat) (a0 : Int) (a1 : Int) (a2 : Int) : Int := atI (nth (outT to_wide_divide (f_wide_divide F a0 a1 a2)) 2)
theorem k_wide_divide (F : Nat) (a0 : Int) (a1 : Int) (a2 : Int) {z0 : Int} {z1 : Int} {z2 : Int} (h : f_wide_divide F a0 a1 a2 = some (.v (.tuple #[.agg #[.int .i64 z0, .int .u64 z1], .int .u64 z2]))) : ok_wide_divide F a0 a1 a2 = true ∧ o_wide_divide_0 F a0 a1 a2 = z0 ∧ o_wide_divide_1 F a0 a1 a2 = z1 ∧ o_wide_divide_2 F a0 a1 a2 = z2 := by
  refine ⟨?_, ?_, ?_, ?_⟩
  · unfold ok_wide_divide; rw [h]; kernel_rfl
  · unfold o_wide_divide_0; rw [h]; kernel_rfl
  · unfold o_wide_divide_1; rw [h]; kernel_rfl
  · unfold o_wide_divide_2; rw [h]; kernel_rfl
def s_wide_divide (F : Nat) : List VV → Option (Bool × VV) := spec ti_wide_divide to_wide_divide (fun q => (ok_wide_divide F (atI (nth q 0)) (atI (nth q 1)) (atI (nth q 2)))) (fun q => [.i (o_wide_divide_0 F (atI (nth q 0)) (atI (nth q 1)) (atI (nth q 2))), .i (o_wide_divide_1 F (atI (nth q 0)) (atI (nth q 1)) (atI (nth q 2))), .i (o_wide_divide_2 F (atI (nth q 0)) (atI (nth q 1)) (atI (nth q 2)))])
theorem hS_wide_divide (F : Nat) : ∀ f, Good PP f (unS (S_wide_divide F f)) := words_good fun p hp => by
  simp only [List.mem_cons, List.not_mem_nil, or_false] at hp
  rcases hp with rfl
  · exact g_wide_Left F
theorem hl_wide_divide (F : Nat) : ∀ p ∈ loopsIn PP 111, LoopOK PP (S_wide_divide F) c_wide_divide F (I_wide_divide F) (J_wide_divide F) p :=
  loops_of [(0, loopAt PP 111 0)] (by kernel_rfl) (all_cons
    (loop_ok (W_wide_divide F) rfl (tab_cons (fun _ k q => Le.ofEq ((lL_wide_divide_0 F k F (atI (nth q 0)) (atI (nth q 1)) (atI (nth q 2)) (atI (nth q 3)) (atI (nth q 4)) (atI (nth q 5)) (atI (nth q 6)) (atI (nth q 7)) (atI (nth q 8)) (atI (nth q 9))).symm.trans (congrArg (iterC (codeL PP (S_wide_divide F) c_wide_divide (I_wide_divide F) (J_wide_divide F) (loopAt PP 111 0) 0) (headOf c_wide_divide 0) k F) (show fS T_wide_divide_0 [.i (atI (nth q 0)), .i (atI (nth q 1)), .i (atI (nth q 2)), .i (atI (nth q 3)), .i (atI (nth q 4)), .i (atI (nth q 5)), .i (atI (nth q 6)), .i (atI (nth q 7)), .i (atI (nth q 8)), .i (atI (nth q 9))] = fS T_wide_divide_0 q by kernel_rfl)))) tab_nil)) all_nil)
theorem hj_wide_divide (F : Nat) : ∀ p ∈ joinsIn PP c_wide_divide 111, JoinOK PP (S_wide_divide F) c_wide_divide (I_wide_divide F) (J_wide_divide F) p :=
  joins_of [] (by kernel_rfl) all_nil
theorem g_wide_divide (F : Nat) : Good PP 111 (unS (s_wide_divide F)) :=
  fun_spec (hS_wide_divide F) (by kernel_rfl) (by kernel_rfl) (C := c_wide_divide) (F := fun q => (f_wide_divide F (atI (nth q 0)) (atI (nth q 1)) (atI (nth q 2)))) (fun _ => F) (fun _ => I_wide_divide F) (fun _ => J_wide_divide F) (fun _ => hl_wide_divide F) (fun _ => hj_wide_divide F)
    (fun q => (congrArg (funL PP (S_wide_divide F) c_wide_divide (I_wide_divide F) (J_wide_divide F) 111) (show (fTs ti_wide_divide q).1 = (fTs ti_wide_divide [.i (atI (nth q 0)), .i (atI (nth q 1)), .i (atI (nth q 2))]).1 by kernel_rfl)).trans (e_wide_divide F (atI (nth q 0)) (atI (nth q 1)) (atI (nth q 2))))
    (fun _ h => (okT_fill h).trans (congrArg some (by kernel_rfl)))

end Go.Xv
set_option linter.unusedVariables false
namespace Go.Xv
/- 83 _wide_Div -/
def c_wide_Div : Cfg := ⟨[0, 1, 2, 4, 5, 6, 7, 8, 9, 10, 12, 17, 32, 39], [], [23], []⟩
def ti_wide_Div : List TV := [.v (.agg [.int .i64, .int .u64]), .v (.int .i64)]
def to_wide_Div : TV := .v (.tup [.agg [.int .i64, .int .u64], .int .i64, .bool])
def S_wide_Div (F : Nat) : FuncId → List VV → Option (Bool × VV) := words [(44, s_wide_Neg F), (104, s_wide_bare F), (111, s_wide_divide F)]
def W_wide_Div (F : Nat) : List LW := []
def I_wide_Div (F : Nat) : Nat → VS → (Exit → VS → R) → R := tabI c_wide_Div (W_wide_Div F)
def WJ_wide_Div (F : Nat) : List LJ := []
def J_wide_Div (F : Nat) : Nat → Nat → VS → (Exit → VS → R) → R := tabJ (WJ_wide_Div F)
def f_wide_Div (F : Nat) (a0 : Int) (a1 : Int) (a2 : Int) : R :=
  bif ((a2 == 0)) then (
    some (.v (.tuple #[.agg #[.int .i64 0, .int .u64 0], .int .i64 0, .bool false])))
  else (
    bif ((decide (a0 < 0))) then (
      bif (ok_wide_Neg F a0 a1) then (
        let v542 : Int := (o_wide_Neg_0 F a0 a1)
        let v543 : Int := (o_wide_Neg_1 F a0 a1)
        bif (ok_wide_bare F a2) then (
          let v544 : Int := (o_wide_bare_0 F a2)
          bif (ok_wide_divide F v542 v543 v544) then (
            let v582 : Int := (o_wide_divide_0 F v542 v543 v544)
            let v583 : Int := (o_wide_divide_1 F v542 v543 v544)
            let v584 : Int := (o_wide_divide_2 F v542 v543 v544)
            bif ((!(((decide (a0 < 0))) == ((decide (a2 < 0)))))) then (
              bif (ok_wide_Neg F v582 v583) then (
                let v588 : Int := (o_wide_Neg_0 F v582 v583)
                let v589 : Int := (o_wide_Neg_1 F v582 v583)
                let v590 : Int := (IntKind.wrap .i64 v584)
                bif ((decide (a0 < 0))) then (
                  some (.v (.tuple #[.agg #[.int .i64 v588, .int .u64 v589], .int .i64 ((IntKind.wrap .i64 (0 - v590))), .bool true])))
                else (
                  some (.v (.tuple #[.agg #[.int .i64 v588, .int .u64 v589], .int .i64 v590, .bool true]))))
              else (
                none))
            else (
              let v593 : Int := (IntKind.wrap .i64 v584)
              bif ((decide (a0 < 0))) then (
                some (.v (.tuple #[.agg #[.int .i64 v582, .int .u64 v583], .int .i64 ((IntKind.wrap .i64 (0 - v593))), .bool true])))
              else (
                some (.v (.tuple #[.agg #[.int .i64 v582, .int .u64 v583], .int .i64 v593, .bool true])))))
          else (
            none))
        else (
          none))
      else (
        none))
    else (
      bif (ok_wide_bare F a2) then (
        let v596 : Int := (o_wide_bare_0 F a2)
        bif (ok_wide_divide F a0 a1 v596) then (
          let v597 : Int := (o_wide_divide_0 F a0 a1 v596)
          let v598 : Int := (o_wide_divide_1 F a0 a1 v596)
          let v599 : Int := (o_wide_divide_2 F a0 a1 v596)
          bif ((!(((decide (a0 < 0))) == ((decide (a2 < 0)))))) then (
            bif (ok_wide_Neg F v597 v598) then (
              let v603 : Int := (o_wide_Neg_0 F v597 v598)
              let v604 : Int := (o_wide_Neg_1 F v597 v598)
              let v605 : Int := (IntKind.wrap .i64 v599)
              bif ((decide (a0 < 0))) then (
                some (.v (.tuple #[.agg #[.int .i64 v603, .int .u64 v604], .int .i64 ((IntKind.wrap .i64 (0 - v605))), .bool true])))
              else (
                some (.v (.tuple #[.agg #[.int .i64 v603, .int .u64 v604], .int .i64 v605, .bool true]))))
            else (
              none))
          else (
            let v608 : Int := (IntKind.wrap .i64 v599)
            bif ((decide (a0 < 0))) then (
              some (.v (.tuple #[.agg #[.int .i64 v597, .int .u64 v598], .int .i64 ((IntKind.wrap .i64 (0 - v608))), .bool true])))
            else (
              some (.v (.tuple #[.agg #[.int .i64 v597, .int .u64 v598], .int .i64 v608, .bool true])))))
        else (
          none))
      else (
        none)))
theorem e_wide_Div (F : Nat) (a0 : Int) (a1 : Int) (a2 : Int) : funL PP (S_wide_Div F) c_wide_Div (I_wide_Div F) (J_wide_Div F) 83 (fTs ti_wide_Div [.i a0, .i a1, .i a2]).1 = f_wide_Div F a0 a1 a2 := by
  have h : ∀ (ok_wide_Neg : Nat → Int → Int → Bool) (o_wide_Neg_0 : Nat → Int → Int → Int) (o_wide_Neg_1 : Nat → Int → Int → Int) (ok_wide_bare : Nat → Int → Bool) (o_wide_bare_0 : Nat → Int → Int) (ok_wide_divide : Nat → Int → Int → Int → Bool) (o_wide_divide_0 : Nat → Int → Int → Int → Int) (o_wide_divide_1 : Nat → Int → Int → Int → Int) (o_wide_divide_2 : Nat → Int → Int → Int → Int), funL PP (words [(44, spec ti_wide_Neg to_wide_Neg (fun q => (ok_wide_Neg F (atI (nth q 0)) (atI (nth q 1)))) (fun q => [.i (o_wide_Neg_0 F (atI (nth q 0)) (atI (nth q 1))), .i (o_wide_Neg_1 F (atI (nth q 0)) (atI (nth q 1)))])), (104, spec ti_wide_bare to_wide_bare (fun q => (ok_wide_bare F (atI (nth q 0)))) (fun q => [.i (o_wide_bare_0 F (atI (nth q 0)))])), (111, spec ti_wide_divide to_wide_divide (fun q => (ok_wide_divide F (atI (nth q 0)) (atI (nth q 1)) (atI (nth q 2)))) (fun q => [.i (o_wide_divide_0 F (atI (nth q 0)) (atI (nth q 1)) (atI (nth q 2))), .i (o_wide_divide_1 F (atI (nth q 0)) (atI (nth q 1)) (atI (nth q 2))), .i (o_wide_divide_2 F (atI (nth q 0)) (atI (nth q 1)) (atI (nth q 2)))]))]) c_wide_Div (tabI c_wide_Div []) (tabJ []) 83 (fTs ti_wide_Div [.i a0, .i a1, .i a2]).1 = (
  bif ((a2 == 0)) then (
    some (.v (.tuple #[.agg #[.int .i64 0, .int .u64 0], .int .i64 0, .bool false])))
  else (
    bif ((decide (a0 < 0))) then (
      bif (ok_wide_Neg F a0 a1) then (
        let v542 : Int := (o_wide_Neg_0 F a0 a1)
        let v543 : Int := (o_wide_Neg_1 F a0 a1)
        bif (ok_wide_bare F a2) then (
          let v544 : Int := (o_wide_bare_0 F a2)
          bif (ok_wide_divide F v542 v543 v544) then (
            let v582 : Int := (o_wide_divide_0 F v542 v543 v544)
            let v583 : Int := (o_wide_divide_1 F v542 v543 v544)
            let v584 : Int := (o_wide_divide_2 F v542 v543 v544)
            bif ((!(((decide (a0 < 0))) == ((decide (a2 < 0)))))) then (
              bif (ok_wide_Neg F v582 v583) then (
                let v588 : Int := (o_wide_Neg_0 F v582 v583)
                let v589 : Int := (o_wide_Neg_1 F v582 v583)
                let v590 : Int := (IntKind.wrap .i64 v584)
                bif ((decide (a0 < 0))) then (
                  some (.v (.tuple #[.agg #[.int .i64 v588, .int .u64 v589], .int .i64 ((IntKind.wrap .i64 (0 - v590))), .bool true])))
                else (
                  some (.v (.tuple #[.agg #[.int .i64 v588, .int .u64 v589], .int .i64 v590, .bool true]))))
              else (
                none))
            else (
              let v593 : Int := (IntKind.wrap .i64 v584)
              bif ((decide (a0 < 0))) then (
                some (.v (.tuple #[.agg #[.int .i64 v582, .int .u64 v583], .int .i64 ((IntKind.wrap .i64 (0 - v593))), .bool true])))
              else (
                some (.v (.tuple #[.agg #[.int .i64 v582, .int .u64 v583], .int .i64 v593, .bool true])))))
          else (
            none))
        else (
          none))
      else (
        none))
    else (
      bif (ok_wide_bare F a2) then (
        let v596 : Int := (o_wide_bare_0 F a2)
        bif (ok_wide_divide F a0 a1 v596) then (
          let v597 : Int := (o_wide_divide_0 F a0 a1 v596)
          let v598 : Int := (o_wide_divide_1 F a0 a1 v596)
          let v599 : Int := (o_wide_divide_2 F a0 a1 v596)
          bif ((!(((decide (a0 < 0))) == ((decide (a2 < 0)))))) then (
            bif (ok_wide_Neg F v597 v598) then (
              let v603 : Int := (o_wide_Neg_0 F v597 v598)
              let v604 : Int := (o_wide_Neg_1 F v597 v598)
              let v605 : Int := (IntKind.wrap .i64 v599)
              bif ((decide (a0 < 0))) then (
                some (.v (.tuple #[.agg #[.int .i64 v603, .int .u64 v604], .int .i64 ((IntKind.wrap .i64 (0 - v605))), .bool true])))
              else (
                some (.v (.tuple #[.agg #[.int .i64 v603, .int .u64 v604], .int .i64 v605, .bool true]))))
            else (
              none))
          else (
            let v608 : Int := (IntKind.wrap .i64 v599)
            bif ((decide (a0 < 0))) then (
              some (.v (.tuple #[.agg #[.int .i64 v597, .int .u64 v598], .int .i64 ((IntKind.wrap .i64 (0 - v608))), .bool true])))
            else (
              some (.v (.tuple #[.agg #[.int .i64 v597, .int .u64 v598], .int .i64 v608, .bool true])))))
        else (
          none))
      else (
        none))) : R) := by
    intros
    kernel_rfl
  exact (h ok_wide_Neg o_wide_Neg_0 o_wide_Neg_1 ok_wide_bare o_wide_bare_0 ok_wide_divide o_wide_divide_0 o_wide_divide_1 o_wide_divide_2).trans (by kernel_rfl)
def ok_wide_Div (F : Nat) (a0 : Int) (a1 : Int) (a2 : Int) : Bool := okT to_wide_Div (f_wide_Div F a0 a1 a2)
def o_wide_Div_0 (F : Nat) (a0 : Int) (a1 : Int) (a2 : Int) : Int := atI (nth (outT to_wide_Div (f_wide_Div F a0 a1 a2)) 0)
def o_wide_Div_1 (F : Nat) (a0 : Int) (a1 : Int) (a2 : Int) : Int := atI (nth (outT to_wide_Div (f_wide_Div F a0 a1 a2)) 1)
def o_wide_Div_2 (F : Nat) (a0 : Int) (a1 : Int) (a2 : Int) : Int := atI (nth (outT to_wide_Div (f_wide_Div F a0 a1 a2)) 2)
def o_wide_Div_3 (F : Nat) (a0 : Int) (a1 : Int) (a2 : Int) : Bool := atB (nth (outT to_wide_Div (f_wide_Div F a0 a1 a2)) 3)
theorem k_wide_Div (F : Nat) (a0 : Int) (a1 : Int) (a2 : Int) {z0 : Int} {z1 : Int} {z2 : Int} {z3 : Bool} (h : f_wide_Div F a0 a1 a2 = some (.v (.tuple #[.agg #[.int .i64 z0, .int .u64 z1], .int .i64 z2, .bool z3]))) : ok_wide_Div F a0 a1 a2 = true ∧ o_wide_Div_0 F a0 a1 a2 = z0 ∧ o_wide_Div_1 F a0 a1 a2 = z1 ∧ o_wide_Div_2 F a0 a1 a2 = z2 ∧ o_wide_Div_3 F a0 a1 a2 = z3 := by
  refine ⟨?_, ?_, ?_, ?_, ?_⟩
  · unfold ok_wide_Div; rw [h]; kernel_rfl
  · unfold o_wide_Div_0; rw [h]; kernel_rfl
  · unfold o_wide_Div_1; rw [h]; kernel_rfl
  · unfold o_wide_Div_2; rw [h]; kernel_rfl
  · unfold o_wide_Div_3; rw [h]; kernel_rfl
def s_wide_Div (F : Nat) : List VV → Option (Bool × VV) := spec ti_wide_Div to_wide_Div (fun q => (ok_wide_Div F (atI (nth q 0)) (atI (nth q 1)) (atI (nth q 2)))) (fun q => [.i (o_wide_Div_0 F (atI (nth q 0)) (atI (nth q 1)) (atI (nth q 2))), .i (o_wide_Div_1 F (atI (nth q 0)) (atI (nth q 1)) (atI (nth q 2))), .i (o_wide_Div_2 F (atI (nth q 0)) (atI (nth q 1)) (atI (nth q 2))), .b (o_wide_Div_3 F (atI (nth q 0)) (atI (nth q 1)) (atI (nth q 2)))])
theorem hS_wide_Div (F : Nat) : ∀ f, Good PP f (unS (S_wide_Div F f)) := words_good fun p hp => by
  simp only [List.mem_cons, List.not_mem_nil, or_false] at hp
  rcases hp with rfl | rfl | rfl
  · exact g_wide_Neg F
  · exact g_wide_bare F
  · exact g_wide_divide F
theorem hl_wide_Div (F : Nat) : ∀ p ∈ loopsIn PP 83, LoopOK PP (S_wide_Div F) c_wide_Div F (I_wide_Div F) (J_wide_Div F) p :=
  loops_of [] (by kernel_rfl) all_nil
theorem hj_wide_Div (F : Nat) : ∀ p ∈ joinsIn PP c_wide_Div 83, JoinOK PP (S_wide_Div F) c_wide_Div (I_wide_Div F) (J_wide_Div F) p :=
  joins_of [] (by kernel_rfl) all_nil
theorem g_wide_Div (F : Nat) : Good PP 83 (unS (s_wide_Div F)) :=
  fun_spec (hS_wide_Div F) (by kernel_rfl) (by kernel_rfl) (C := c_wide_Div) (F := fun q => (f_wide_Div F (atI (nth q 0)) (atI (nth q 1)) (atI (nth q 2)))) (fun _ => F) (fun _ => I_wide_Div F) (fun _ => J_wide_Div F) (fun _ => hl_wide_Div F) (fun _ => hj_wide_Div F)
    (fun q => (congrArg (funL PP (S_wide_Div F) c_wide_Div (I_wide_Div F) (J_wide_Div F) 83) (show (fTs ti_wide_Div q).1 = (fTs ti_wide_Div [.i (atI (nth q 0)), .i (atI (nth q 1)), .i (atI (nth q 2))]).1 by kernel_rfl)).trans (e_wide_Div F (atI (nth q 0)) (atI (nth q 1)) (atI (nth q 2))))
    (fun _ h => (okT_fill h).trans (congrArg some (by kernel_rfl)))

end Go.Xv
set_option linter.unusedVariables false
namespace Go.Xv
/- 84 _ref01_Div -/
def c_ref01_Div : Cfg := ⟨[0, 1, 2, 4, 5, 6, 7, 8, 9, 10, 11, 12, 13, 14, 15, 17, 24, 28, 38, 56, 70, 77], [(0, [0, 1, 2, 4, 5, 6, 7, 8, 9, 10, 11, 12, 14, 15, 16, 17, 18, 19, 20, 21, 22, 23, 24, 25, 26, 27, 28, 29, 30, 31, 32, 33, 34, 35, 36, 63, 64, 65, 66, 67, 68, 69, 70, 71, 72, 73, 74, 75, 76, 77, 78, 79, 80, 81])], [], []⟩
def ti_ref01_Div : List TV := [.v (.agg [.int .i64, .int .u64]), .v (.int .i64)]
def to_ref01_Div : TV := .v (.tup [.agg [.int .i64, .int .u64], .int .i64, .bool])
def S_ref01_Div (F : Nat) : FuncId → List VV → Option (Bool × VV) := words [(52, s_ref01_Neg F), (105, s_ref01_Digits F), (106, s_ref01_Number F)]
def T_ref01_Div_0 : TS := ⟨[(0, .v (.agg [.int .i64, .int .u64])), (1, .v (.int .i64)), (2, .lp 0 (.lit 0)), (4, .lp 1 (.lit 0)), (5, .v (.int .i64)), (6, .v (.bool)), (7, .lp 2 (.lit 0)), (8, .v (.int .u64)), (9, .ls 3 (.lit 0) .hole 1), (10, .ls 4 (.lit 0) (.lit 128) 1), (11, .v (.int .u64)), (12, .v (.int .i64))], [(0, ⟨(.ex [.v (.int .i64), .v (.int .u64)]), true⟩), (1, ⟨(.ex [.v (.int .i64), .v (.int .u64)]), true⟩), (2, ⟨(.ex [.v (.int .i64), .v (.int .u64)]), true⟩), (3, ⟨.hole, true⟩), (4, ⟨.hole, true⟩)], 5⟩
def T_ref01_Div_0_0 : TS := ⟨[(0, .v (.agg [.int .i64, .int .u64])), (1, .v (.int .i64)), (2, .lp 0 (.lit 0)), (4, .lp 1 (.lit 0)), (5, .v (.int .i64)), (6, .v (.bool)), (7, .lp 2 (.lit 0)), (8, .v (.int .u64)), (9, .ls 3 (.lit 0) .hole 1), (10, .ls 4 (.lit 0) (.lit 128) 1), (11, .v (.int .u64)), (12, .v (.int .i64))], [(0, ⟨(.ex [.v (.int .i64), .v (.int .u64)]), true⟩), (1, ⟨(.ex [.v (.int .i64), .v (.int .u64)]), true⟩), (2, ⟨(.ex [.v (.int .i64), .v (.int .u64)]), true⟩), (3, ⟨.hole, true⟩), (4, ⟨.hole, true⟩)], 5⟩
def B_ref01_Div_0 (F : Nat) (rc : Int → Int → Int → Int → Bool → Int → Nat → Int → Int → Int → Int → Int → Int → Int → Int → List VV → List VV → R) (ex0 : Int → Int → Int → Int → Bool → Int → Nat → Int → Int → Int → Int → Int → Int → Int → Int → List VV → List VV → R) (x0 : Int) (x1 : Int) (x2 : Int) (x3 : Int) (x4 : Bool) (x5 : Int) (x6 : Nat) (x7 : Int) (x8 : Int) (x9 : Int) (x10 : Int) (x11 : Int) (x12 : Int) (x13 : Int) (x14 : Int) (x15 : List VV) (x16 : List VV) : R :=
  bif ((decide (x8 ≥ 0))) then (
    bif ((decide (0 ≤ x8)) && (decide (x8 < ((x6 : Nat) : Int)))) then (
      let v648 : Nat := (0 + ((Int.toNat x8) * 1))
      bif ((isI .i64 x15[v648]?) && true) then (
        let v651 : Int := (IntKind.wrap .u64 (((IntKind.wrap .u64 (2 * x7))) + ((IntKind.wrap .u64 ((iv x15[v648]?))))))
        bif ((decide (x7 ≥ 9223372036854775808))) then (
          bif ((decide (0 ≤ x8)) && (decide (x8 < 128))) then (
            let v653 : Nat := (0 + ((Int.toNat x8) * 1))
            bif (decide ((v653 + 1) ≤ x16.length)) then (
              rc x0 x1 x2 x3 x4 x5 x6 ((IntKind.wrap .u64 (v651 - x5))) ((IntKind.wrap .i64 (x8 - 1))) x9 x10 x11 x12 x13 x14 x15 ((x16.take v653 ++ [.v (.int .i64 1)] ++ x16.drop (v653 + 1))))
            else (
              none))
          else (
            none))
        else (
          bif ((decide (v651 ≥ x5))) then (
            bif ((decide (0 ≤ x8)) && (decide (x8 < 128))) then (
              let v658 : Nat := (0 + ((Int.toNat x8) * 1))
              bif (decide ((v658 + 1) ≤ x16.length)) then (
                rc x0 x1 x2 x3 x4 x5 x6 ((IntKind.wrap .u64 (v651 - x5))) ((IntKind.wrap .i64 (x8 - 1))) x9 x10 x11 x12 x13 x14 x15 ((x16.take v658 ++ [.v (.int .i64 1)] ++ x16.drop (v658 + 1))))
              else (
                none))
            else (
              none))
          else (
            rc x0 x1 x2 x3 x4 x5 x6 v651 ((IntKind.wrap .i64 (x8 - 1))) x9 x10 x11 x12 x13 x14 x15 x16)))
      else (
        none))
    else (
      none))
  else (
    ex0 x0 x1 x2 x3 x4 x5 x6 x7 x8 x9 x10 x11 x12 x13 x14 x15 x16)
def L_ref01_Div_0 (F : Nat) (ex0 : Int → Int → Int → Int → Bool → Int → Nat → Int → Int → Int → Int → Int → Int → Int → Int → List VV → List VV → R) : Nat → Int → Int → Int → Int → Bool → Int → Nat → Int → Int → Int → Int → Int → Int → Int → Int → List VV → List VV → R
  | 0, _, _, _, _, _, _, _, _, _, _, _, _, _, _, _, _, _ => none
  | n + 1, x0, x1, x2, x3, x4, x5, x6, x7, x8, x9, x10, x11, x12, x13, x14, x15, x16 => B_ref01_Div_0 F (L_ref01_Div_0 F ex0 n) ex0 x0 x1 x2 x3 x4 x5 x6 x7 x8 x9 x10 x11 x12 x13 x14 x15 x16
def W_ref01_Div (F : Nat) : List LW := [⟨0, T_ref01_Div_0, fun k q => L_ref01_Div_0 F (fun (z0 : Int) (z1 : Int) (z2 : Int) (z3 : Int) (z4 : Bool) (z5 : Int) (z6 : Nat) (z7 : Int) (z8 : Int) (z9 : Int) (z10 : Int) (z11 : Int) (z12 : Int) (z13 : Int) (z14 : Int) (z15 : List VV) (z16 : List VV) => k (.exit 0) (fS T_ref01_Div_0_0 [.i z0, .i z1, .i z2, .i z3, .b z4, .i z5, .n z6, .i z7, .i z8, .i z9, .i z10, .i z11, .i z12, .i z13, .i z14, .c z15, .c z16])) F (atI (nth q 0)) (atI (nth q 1)) (atI (nth q 2)) (atI (nth q 3)) (atB (nth q 4)) (atI (nth q 5)) (atN (nth q 6)) (atI (nth q 7)) (atI (nth q 8)) (atI (nth q 9)) (atI (nth q 10)) (atI (nth q 11)) (atI (nth q 12)) (atI (nth q 13)) (atI (nth q 14)) (atC (nth q 15)) (atC (nth q 16))⟩]
def I_ref01_Div (F : Nat) : Nat → VS → (Exit → VS → R) → R := tabI c_ref01_Div (W_ref01_Div F)
def WJ_ref01_Div (F : Nat) : List LJ := []
def J_ref01_Div (F : Nat) : Nat → Nat → VS → (Exit → VS → R) → R := tabJ (WJ_ref01_Div F)
theorem lL_ref01_Div_0 (F : Nat) (k : Exit → VS → R) : ∀ (n : Nat) (x0 : Int) (x1 : Int) (x2 : Int) (x3 : Int) (x4 : Bool) (x5 : Int) (x6 : Nat) (x7 : Int) (x8 : Int) (x9 : Int) (x10 : Int) (x11 : Int) (x12 : Int) (x13 : Int) (x14 : Int) (x15 : List VV) (x16 : List VV), iterC (codeL PP (S_ref01_Div F) c_ref01_Div (I_ref01_Div F) (J_ref01_Div F) (loopAt PP 84 0) 0) (headOf c_ref01_Div 0) k n (fS T_ref01_Div_0 [.i x0, .i x1, .i x2, .i x3, .b x4, .i x5, .n x6, .i x7, .i x8, .i x9, .i x10, .i x11, .i x12, .i x13, .i x14, .c x15, .c x16]) = L_ref01_Div_0 F (fun (z0 : Int) (z1 : Int) (z2 : Int) (z3 : Int) (z4 : Bool) (z5 : Int) (z6 : Nat) (z7 : Int) (z8 : Int) (z9 : Int) (z10 : Int) (z11 : Int) (z12 : Int) (z13 : Int) (z14 : Int) (z15 : List VV) (z16 : List VV) => k (.exit 0) (fS T_ref01_Div_0_0 [.i z0, .i z1, .i z2, .i z3, .b z4, .i z5, .n z6, .i z7, .i z8, .i z9, .i z10, .i z11, .i z12, .i z13, .i z14, .c z15, .c z16])) n x0 x1 x2 x3 x4 x5 x6 x7 x8 x9 x10 x11 x12 x13 x14 x15 x16
  | 0, _, _, _, _, _, _, _, _, _, _, _, _, _, _, _, _, _ => rfl
  | n + 1, x0, x1, x2, x3, x4, x5, x6, x7, x8, x9, x10, x11, x12, x13, x14, x15, x16 => by
    have h0 : ∀ (ok_ref01_Neg : Nat → Int → Int → Bool) (o_ref01_Neg_0 : Nat → Int → Int → Int) (o_ref01_Neg_1 : Nat → Int → Int → Int) (ok_ref01_Digits : Nat → Int → Int → Bool) (o_ref01_Digits_0 : Nat → Int → Int → List VV) (o_ref01_Digits_1 : Nat → Int → Int → Nat) (ok_ref01_Number : Nat → List VV → Nat → Bool) (o_ref01_Number_0 : Nat → List VV → Nat → Int) (o_ref01_Number_1 : Nat → List VV → Nat → Int) (L_ref01_Div_0 : Nat → (Int → Int → Int → Int → Bool → Int → Nat → Int → Int → Int → Int → Int → Int → Int → Int → List VV → List VV → R) → Nat → Int → Int → Int → Int → Bool → Int → Nat → Int → Int → Int → Int → Int → Int → Int → Int → List VV → List VV → R), iterC (codeL PP (words [(52, spec ti_ref01_Neg to_ref01_Neg (fun q => (ok_ref01_Neg F (atI (nth q 0)) (atI (nth q 1)))) (fun q => [.i (o_ref01_Neg_0 F (atI (nth q 0)) (atI (nth q 1))), .i (o_ref01_Neg_1 F (atI (nth q 0)) (atI (nth q 1)))])), (105, spec ti_ref01_Digits to_ref01_Digits (fun q => (ok_ref01_Digits F (atI (nth q 0)) (atI (nth q 1)))) (fun q => [.c (o_ref01_Digits_0 F (atI (nth q 0)) (atI (nth q 1))), .n (o_ref01_Digits_1 F (atI (nth q 0)) (atI (nth q 1)))])), (106, spec ti_ref01_Number to_ref01_Number (fun q => (ok_ref01_Number F (atC (nth q 0)) (atN (nth q 1)))) (fun q => [.i (o_ref01_Number_0 F (atC (nth q 0)) (atN (nth q 1))), .i (o_ref01_Number_1 F (atC (nth q 0)) (atN (nth q 1)))]))]) c_ref01_Div (tabI c_ref01_Div [⟨0, T_ref01_Div_0, fun k q => L_ref01_Div_0 F (fun (z0 : Int) (z1 : Int) (z2 : Int) (z3 : Int) (z4 : Bool) (z5 : Int) (z6 : Nat) (z7 : Int) (z8 : Int) (z9 : Int) (z10 : Int) (z11 : Int) (z12 : Int) (z13 : Int) (z14 : Int) (z15 : List VV) (z16 : List VV) => k (.exit 0) (fS T_ref01_Div_0_0 [.i z0, .i z1, .i z2, .i z3, .b z4, .i z5, .n z6, .i z7, .i z8, .i z9, .i z10, .i z11, .i z12, .i z13, .i z14, .c z15, .c z16])) F (atI (nth q 0)) (atI (nth q 1)) (atI (nth q 2)) (atI (nth q 3)) (atB (nth q 4)) (atI (nth q 5)) (atN (nth q 6)) (atI (nth q 7)) (atI (nth q 8)) (atI (nth q 9)) (atI (nth q 10)) (atI (nth q 11)) (atI (nth q 12)) (atI (nth q 13)) (atI (nth q 14)) (atC (nth q 15)) (atC (nth q 16))⟩]) (tabJ []) (loopAt PP 84 0) 0) (headOf c_ref01_Div 0) k (n + 1) (fS T_ref01_Div_0 [.i x0, .i x1, .i x2, .i x3, .b x4, .i x5, .n x6, .i x7, .i x8, .i x9, .i x10, .i x11, .i x12, .i x13, .i x14, .c x15, .c x16]) = (fun (rc : Int → Int → Int → Int → Bool → Int → Nat → Int → Int → Int → Int → Int → Int → Int → Int → List VV → List VV → R) (ex0 : Int → Int → Int → Int → Bool → Int → Nat → Int → Int → Int → Int → Int → Int → Int → Int → List VV → List VV → R) (x0 : Int) (x1 : Int) (x2 : Int) (x3 : Int) (x4 : Bool) (x5 : Int) (x6 : Nat) (x7 : Int) (x8 : Int) (x9 : Int) (x10 : Int) (x11 : Int) (x12 : Int) (x13 : Int) (x14 : Int) (x15 : List VV) (x16 : List VV) => (
  bif ((decide (x8 ≥ 0))) then (
    bif ((decide (0 ≤ x8)) && (decide (x8 < ((x6 : Nat) : Int)))) then (
      let v648 : Nat := (0 + ((Int.toNat x8) * 1))
      bif ((isI .i64 x15[v648]?) && true) then (
        let v651 : Int := (IntKind.wrap .u64 (((IntKind.wrap .u64 (2 * x7))) + ((IntKind.wrap .u64 ((iv x15[v648]?))))))
        bif ((decide (x7 ≥ 9223372036854775808))) then (
          bif ((decide (0 ≤ x8)) && (decide (x8 < 128))) then (
            let v653 : Nat := (0 + ((Int.toNat x8) * 1))
            bif (decide ((v653 + 1) ≤ x16.length)) then (
              rc x0 x1 x2 x3 x4 x5 x6 ((IntKind.wrap .u64 (v651 - x5))) ((IntKind.wrap .i64 (x8 - 1))) x9 x10 x11 x12 x13 x14 x15 ((x16.take v653 ++ [.v (.int .i64 1)] ++ x16.drop (v653 + 1))))
            else (
              none))
          else (
            none))
        else (
          bif ((decide (v651 ≥ x5))) then (
            bif ((decide (0 ≤ x8)) && (decide (x8 < 128))) then (
              let v658 : Nat := (0 + ((Int.toNat x8) * 1))
              bif (decide ((v658 + 1) ≤ x16.length)) then (
                rc x0 x1 x2 x3 x4 x5 x6 ((IntKind.wrap .u64 (v651 - x5))) ((IntKind.wrap .i64 (x8 - 1))) x9 x10 x11 x12 x13 x14 x15 ((x16.take v658 ++ [.v (.int .i64 1)] ++ x16.drop (v658 + 1))))
              else (
                none))
            else (
              none))
          else (
            rc x0 x1 x2 x3 x4 x5 x6 v651 ((IntKind.wrap .i64 (x8 - 1))) x9 x10 x11 x12 x13 x14 x15 x16)))
      else (
        none))
    else (
      none))
  else (
    ex0 x0 x1 x2 x3 x4 x5 x6 x7 x8 x9 x10 x11 x12 x13 x14 x15 x16) : R)) (fun (y0 : Int) (y1 : Int) (y2 : Int) (y3 : Int) (y4 : Bool) (y5 : Int) (y6 : Nat) (y7 : Int) (y8 : Int) (y9 : Int) (y10 : Int) (y11 : Int) (y12 : Int) (y13 : Int) (y14 : Int) (y15 : List VV) (y16 : List VV) => iterC (codeL PP (words [(52, spec ti_ref01_Neg to_ref01_Neg (fun q => (ok_ref01_Neg F (atI (nth q 0)) (atI (nth q 1)))) (fun q => [.i (o_ref01_Neg_0 F (atI (nth q 0)) (atI (nth q 1))), .i (o_ref01_Neg_1 F (atI (nth q 0)) (atI (nth q 1)))])), (105, spec ti_ref01_Digits to_ref01_Digits (fun q => (ok_ref01_Digits F (atI (nth q 0)) (atI (nth q 1)))) (fun q => [.c (o_ref01_Digits_0 F (atI (nth q 0)) (atI (nth q 1))), .n (o_ref01_Digits_1 F (atI (nth q 0)) (atI (nth q 1)))])), (106, spec ti_ref01_Number to_ref01_Number (fun q => (ok_ref01_Number F (atC (nth q 0)) (atN (nth q 1)))) (fun q => [.i (o_ref01_Number_0 F (atC (nth q 0)) (atN (nth q 1))), .i (o_ref01_Number_1 F (atC (nth q 0)) (atN (nth q 1)))]))]) c_ref01_Div (tabI c_ref01_Div [⟨0, T_ref01_Div_0, fun k q => L_ref01_Div_0 F (fun (z0 : Int) (z1 : Int) (z2 : Int) (z3 : Int) (z4 : Bool) (z5 : Int) (z6 : Nat) (z7 : Int) (z8 : Int) (z9 : Int) (z10 : Int) (z11 : Int) (z12 : Int) (z13 : Int) (z14 : Int) (z15 : List VV) (z16 : List VV) => k (.exit 0) (fS T_ref01_Div_0_0 [.i z0, .i z1, .i z2, .i z3, .b z4, .i z5, .n z6, .i z7, .i z8, .i z9, .i z10, .i z11, .i z12, .i z13, .i z14, .c z15, .c z16])) F (atI (nth q 0)) (atI (nth q 1)) (atI (nth q 2)) (atI (nth q 3)) (atB (nth q 4)) (atI (nth q 5)) (atN (nth q 6)) (atI (nth q 7)) (atI (nth q 8)) (atI (nth q 9)) (atI (nth q 10)) (atI (nth q 11)) (atI (nth q 12)) (atI (nth q 13)) (atI (nth q 14)) (atC (nth q 15)) (atC (nth q 16))⟩]) (tabJ []) (loopAt PP 84 0) 0) (headOf c_ref01_Div 0) k n (fS T_ref01_Div_0 [.i y0, .i y1, .i y2, .i y3, .b y4, .i y5, .n y6, .i y7, .i y8, .i y9, .i y10, .i y11, .i y12, .i y13, .i y14, .c y15, .c y16])) (fun (z0 : Int) (z1 : Int) (z2 : Int) (z3 : Int) (z4 : Bool) (z5 : Int) (z6 : Nat) (z7 : Int) (z8 : Int) (z9 : Int) (z10 : Int) (z11 : Int) (z12 : Int) (z13 : Int) (z14 : Int) (z15 : List VV) (z16 : List VV) => k (.exit 0) (fS T_ref01_Div_0_0 [.i z0, .i z1, .i z2, .i z3, .b z4, .i z5, .n z6, .i z7, .i z8, .i z9, .i z10, .i z11, .i z12, .i z13, .i z14, .c z15, .c z16])) x0 x1 x2 x3 x4 x5 x6 x7 x8 x9 x10 x11 x12 x13 x14 x15 x16 := by
      intros
      kernel_rfl
    have h : iterC (codeL PP (S_ref01_Div F) c_ref01_Div (I_ref01_Div F) (J_ref01_Div F) (loopAt PP 84 0) 0) (headOf c_ref01_Div 0) k (n + 1) (fS T_ref01_Div_0 [.i x0, .i x1, .i x2, .i x3, .b x4, .i x5, .n x6, .i x7, .i x8, .i x9, .i x10, .i x11, .i x12, .i x13, .i x14, .c x15, .c x16]) = B_ref01_Div_0 F (fun (y0 : Int) (y1 : Int) (y2 : Int) (y3 : Int) (y4 : Bool) (y5 : Int) (y6 : Nat) (y7 : Int) (y8 : Int) (y9 : Int) (y10 : Int) (y11 : Int) (y12 : Int) (y13 : Int) (y14 : Int) (y15 : List VV) (y16 : List VV) => iterC (codeL PP (S_ref01_Div F) c_ref01_Div (I_ref01_Div F) (J_ref01_Div F) (loopAt PP 84 0) 0) (headOf c_ref01_Div 0) k n (fS T_ref01_Div_0 [.i y0, .i y1, .i y2, .i y3, .b y4, .i y5, .n y6, .i y7, .i y8, .i y9, .i y10, .i y11, .i y12, .i y13, .i y14, .c y15, .c y16])) (fun (z0 : Int) (z1 : Int) (z2 : Int) (z3 : Int) (z4 : Bool) (z5 : Int) (z6 : Nat) (z7 : Int) (z8 : Int) (z9 : Int) (z10 : Int) (z11 : Int) (z12 : Int) (z13 : Int) (z14 : Int) (z15 : List VV) (z16 : List VV) => k (.exit 0) (fS T_ref01_Div_0_0 [.i z0, .i z1, .i z2, .i z3, .b z4, .i z5, .n z6, .i z7, .i z8, .i z9, .i z10, .i z11, .i z12, .i z13, .i z14, .c z15, .c z16])) x0 x1 x2 x3 x4 x5 x6 x7 x8 x9 x10 x11 x12 x13 x14 x15 x16 := (h0 ok_ref01_Neg o_ref01_Neg_0 o_ref01_Neg_1 ok_ref01_Digits o_ref01_Digits_0 o_ref01_Digits_1 ok_ref01_Number o_ref01_Number_0 o_ref01_Number_1 L_ref01_Div_0).trans (by kernel_rfl)
    rw [h]
    simp only [lL_ref01_Div_0 F k n]
    rfl
def f_ref01_Div (F : Nat) (a0 : Int) (a1 : Int) (a2 : Int) : R :=
  bif ((a2 == 0)) then (
    some (.v (.tuple #[.agg #[.int .i64 0, .int .u64 0], .int .i64 0, .bool false])))
  else (
    let v616 : Int := (IntKind.wrap .u64 a2)
    bif ((decide (a0 < 0))) then (
      bif (ok_ref01_Neg F a0 a1) then (
        let v618 : Int := (o_ref01_Neg_0 F a0 a1)
        let v619 : Int := (o_ref01_Neg_1 F a0 a1)
        bif ((decide (a2 < 0))) then (
          bif (ok_ref01_Digits F v618 v619) then (
            L_ref01_Div_0 F (fun (v662 : Int) (v663 : Int) (v664 : Int) (v665 : Int) (v666 : Bool) (v667 : Int) (v668 : Nat) (v669 : Int) (v670 : Int) (v671 : Int) (v672 : Int) (v673 : Int) (v674 : Int) (v675 : Int) (v676 : Int) (v677 : List VV) (v678 : List VV) =>
              bif (ok_ref01_Number F v678 128) then (
                let v679 : Int := (o_ref01_Number_0 F v678 128)
                let v680 : Int := (o_ref01_Number_1 F v678 128)
                bif ((!(((decide (v671 < 0))) == ((decide (v664 < 0)))))) then (
                  bif (ok_ref01_Neg F v679 v680) then (
                    let v684 : Int := (o_ref01_Neg_0 F v679 v680)
                    let v685 : Int := (o_ref01_Neg_1 F v679 v680)
                    let v686 : Int := (IntKind.wrap .i64 v669)
                    bif ((decide (v671 < 0))) then (
                      some (.v (.tuple #[.agg #[.int .i64 v684, .int .u64 v685], .int .i64 ((IntKind.wrap .i64 (0 - v686))), .bool true])))
                    else (
                      some (.v (.tuple #[.agg #[.int .i64 v684, .int .u64 v685], .int .i64 v686, .bool true]))))
                  else (
                    none))
                else (
                  let v689 : Int := (IntKind.wrap .i64 v669)
                  bif ((decide (v671 < 0))) then (
                    some (.v (.tuple #[.agg #[.int .i64 v679, .int .u64 v680], .int .i64 ((IntKind.wrap .i64 (0 - v689))), .bool true])))
                  else (
                    some (.v (.tuple #[.agg #[.int .i64 v679, .int .u64 v680], .int .i64 v689, .bool true])))))
              else (
                none)) F a0 a1 a2 0 false ((IntKind.wrap .u64 (((IntKind.wrap .u64 ((IntKind.wrap .i64 (0 - ((IntKind.wrap .i64 (a2 + 1)))))))) + 1))) ((o_ref01_Digits_1 F v618 v619)) 0 127 a0 a1 0 0 v618 v619 ((o_ref01_Digits_0 F v618 v619)) ((List.replicate 128 [.v (.int .i64 0)]).flatten))
          else (
            none))
        else (
          bif (ok_ref01_Digits F v618 v619) then (
            L_ref01_Div_0 F (fun (v695 : Int) (v696 : Int) (v697 : Int) (v698 : Int) (v699 : Bool) (v700 : Int) (v701 : Nat) (v702 : Int) (v703 : Int) (v704 : Int) (v705 : Int) (v706 : Int) (v707 : Int) (v708 : Int) (v709 : Int) (v710 : List VV) (v711 : List VV) =>
              bif (ok_ref01_Number F v711 128) then (
                let v712 : Int := (o_ref01_Number_0 F v711 128)
                let v713 : Int := (o_ref01_Number_1 F v711 128)
                bif ((!(((decide (v704 < 0))) == ((decide (v697 < 0)))))) then (
                  bif (ok_ref01_Neg F v712 v713) then (
                    let v717 : Int := (o_ref01_Neg_0 F v712 v713)
                    let v718 : Int := (o_ref01_Neg_1 F v712 v713)
                    let v719 : Int := (IntKind.wrap .i64 v702)
                    bif ((decide (v704 < 0))) then (
                      some (.v (.tuple #[.agg #[.int .i64 v717, .int .u64 v718], .int .i64 ((IntKind.wrap .i64 (0 - v719))), .bool true])))
                    else (
                      some (.v (.tuple #[.agg #[.int .i64 v717, .int .u64 v718], .int .i64 v719, .bool true]))))
                  else (
                    none))
                else (
                  let v722 : Int := (IntKind.wrap .i64 v702)
                  bif ((decide (v704 < 0))) then (
                    some (.v (.tuple #[.agg #[.int .i64 v712, .int .u64 v713], .int .i64 ((IntKind.wrap .i64 (0 - v722))), .bool true])))
                  else (
                    some (.v (.tuple #[.agg #[.int .i64 v712, .int .u64 v713], .int .i64 v722, .bool true])))))
              else (
                none)) F a0 a1 a2 0 false v616 ((o_ref01_Digits_1 F v618 v619)) 0 127 a0 a1 0 0 v618 v619 ((o_ref01_Digits_0 F v618 v619)) ((List.replicate 128 [.v (.int .i64 0)]).flatten))
          else (
            none)))
      else (
        none))
    else (
      bif ((decide (a2 < 0))) then (
        bif (ok_ref01_Digits F a0 a1) then (
          L_ref01_Div_0 F (fun (v733 : Int) (v734 : Int) (v735 : Int) (v736 : Int) (v737 : Bool) (v738 : Int) (v739 : Nat) (v740 : Int) (v741 : Int) (v742 : Int) (v743 : Int) (v744 : Int) (v745 : Int) (v746 : Int) (v747 : Int) (v748 : List VV) (v749 : List VV) =>
            bif (ok_ref01_Number F v749 128) then (
              let v750 : Int := (o_ref01_Number_0 F v749 128)
              let v751 : Int := (o_ref01_Number_1 F v749 128)
              bif ((!(((decide (v742 < 0))) == ((decide (v735 < 0)))))) then (
                bif (ok_ref01_Neg F v750 v751) then (
                  let v755 : Int := (o_ref01_Neg_0 F v750 v751)
                  let v756 : Int := (o_ref01_Neg_1 F v750 v751)
                  let v757 : Int := (IntKind.wrap .i64 v740)
                  bif ((decide (v742 < 0))) then (
                    some (.v (.tuple #[.agg #[.int .i64 v755, .int .u64 v756], .int .i64 ((IntKind.wrap .i64 (0 - v757))), .bool true])))
                  else (
                    some (.v (.tuple #[.agg #[.int .i64 v755, .int .u64 v756], .int .i64 v757, .bool true]))))
                else (
                  none))
              else (
                let v760 : Int := (IntKind.wrap .i64 v740)
                bif ((decide (v742 < 0))) then (
                  some (.v (.tuple #[.agg #[.int .i64 v750, .int .u64 v751], .int .i64 ((IntKind.wrap .i64 (0 - v760))), .bool true])))
                else (
                  some (.v (.tuple #[.agg #[.int .i64 v750, .int .u64 v751], .int .i64 v760, .bool true])))))
            else (
              none)) F a0 a1 a2 0 false ((IntKind.wrap .u64 (((IntKind.wrap .u64 ((IntKind.wrap .i64 (0 - ((IntKind.wrap .i64 (a2 + 1)))))))) + 1))) ((o_ref01_Digits_1 F a0 a1)) 0 127 a0 a1 0 0 a0 a1 ((o_ref01_Digits_0 F a0 a1)) ((List.replicate 128 [.v (.int .i64 0)]).flatten))
        else (
          none))
      else (
        bif (ok_ref01_Digits F a0 a1) then (
          L_ref01_Div_0 F (fun (v766 : Int) (v767 : Int) (v768 : Int) (v769 : Int) (v770 : Bool) (v771 : Int) (v772 : Nat) (v773 : Int) (v774 : Int) (v775 : Int) (v776 : Int) (v777 : Int) (v778 : Int) (v779 : Int) (v780 : Int) (v781 : List VV) (v782 : List VV) =>
            bif (ok_ref01_Number F v782 128) then (
              let v783 : Int := (o_ref01_Number_0 F v782 128)
              let v784 : Int := (o_ref01_Number_1 F v782 128)
              bif ((!(((decide (v775 < 0))) == ((decide (v768 < 0)))))) then (
                bif (ok_ref01_Neg F v783 v784) then (
                  let v788 : Int := (o_ref01_Neg_0 F v783 v784)
                  let v789 : Int := (o_ref01_Neg_1 F v783 v784)
                  let v790 : Int := (IntKind.wrap .i64 v773)
                  bif ((decide (v775 < 0))) then (
                    some (.v (.tuple #[.agg #[.int .i64 v788, .int .u64 v789], .int .i64 ((IntKind.wrap .i64 (0 - v790))), .bool true])))
                  else (
                    some (.v (.tuple #[.agg #[.int .i64 v788, .int .u64 v789], .int .i64 v790, .bool true]))))
                else (
                  none))
              else (
                let v793 : Int := (IntKind.wrap .i64 v773)
                bif ((decide (v775 < 0))) then (
                  some (.v (.tuple #[.agg #[.int .i64 v783, .int .u64 v784], .int .i64 ((IntKind.wrap .i64 (0 - v793))), .bool true])))
                else (
                  some (.v (.tuple #[.agg #[.int .i64 v783, .int .u64 v784], .int .i64 v793, .bool true])))))
            else (
              none)) F a0 a1 a2 0 false v616 ((o_ref01_Digits_1 F a0 a1)) 0 127 a0 a1 0 0 a0 a1 ((o_ref01_Digits_0 F a0 a1)) ((List.replicate 128 [.v (.int .i64 0)]).flatten))
        else (
          none))))
theorem e_ref01_Div (F : Nat) (a0 : Int) (a1 : Int) (a2 : Int) : funL PP (S_ref01_Div F) c_ref01_Div (I_ref01_Div F) (J_ref01_Div F) 84 (fTs ti_ref01_Div [.i a0, .i a1, .i a2]).1 = f_ref01_Div F a0 a1 a2 := by
  have h : ∀ (ok_ref01_Neg : Nat → Int → Int → Bool) (o_ref01_Neg_0 : Nat → Int → Int → Int) (o_ref01_Neg_1 : Nat → Int → Int → Int) (ok_ref01_Digits : Nat → Int → Int → Bool) (o_ref01_Digits_0 : Nat → Int → Int → List VV) (o_ref01_Digits_1 : Nat → Int → Int → Nat) (ok_ref01_Number : Nat → List VV → Nat → Bool) (o_ref01_Number_0 : Nat → List VV → Nat → Int) (o_ref01_Number_1 : Nat → List VV → Nat → Int) (L_ref01_Div_0 : Nat → (Int → Int → Int → Int → Bool → Int → Nat → Int → Int → Int → Int → Int → Int → Int → Int → List VV → List VV → R) → Nat → Int → Int → Int → Int → Bool → Int → Nat → Int → Int → Int → Int → Int → Int → Int → Int → List VV → List VV → R), funL PP (words [(52, spec ti_ref01_Neg to_ref01_Neg (fun q => (ok_ref01_Neg F (atI (nth q 0)) (atI (nth q 1)))) (fun q => [.i (o_ref01_Neg_0 F (atI (nth q 0)) (atI (nth q 1))), .i (o_ref01_Neg_1 F (atI (nth q 0)) (atI (nth q 1)))])), (105, spec ti_ref01_Digits to_ref01_Digits (fun q => (ok_ref01_Digits F (atI (nth q 0)) (atI (nth q 1)))) (fun q => [.c (o_ref01_Digits_0 F (atI (nth q 0)) (atI (nth q 1))), .n (o_ref01_Digits_1 F (atI (nth q 0)) (atI (nth q 1)))])), (106, spec ti_ref01_Number to_ref01_Number (fun q => (ok_ref01_Number F (atC (nth q 0)) (atN (nth q 1)))) (fun q => [.i (o_ref01_Number_0 F (atC (nth q 0)) (atN (nth q 1))), .i (o_ref01_Number_1 F (atC (nth q 0)) (atN (nth q 1)))]))]) c_ref01_Div (tabI c_ref01_Div [⟨0, T_ref01_Div_0, fun k q => L_ref01_Div_0 F (fun (z0 : Int) (z1 : Int) (z2 : Int) (z3 : Int) (z4 : Bool) (z5 : Int) (z6 : Nat) (z7 : Int) (z8 : Int) (z9 : Int) (z10 : Int) (z11 : Int) (z12 : Int) (z13 : Int) (z14 : Int) (z15 : List VV) (z16 : List VV) => k (.exit 0) (fS T_ref01_Div_0_0 [.i z0, .i z1, .i z2, .i z3, .b z4, .i z5, .n z6, .i z7, .i z8, .i z9, .i z10, .i z11, .i z12, .i z13, .i z14, .c z15, .c z16])) F (atI (nth q 0)) (atI (nth q 1)) (atI (nth q 2)) (atI (nth q 3)) (atB (nth q 4)) (atI (nth q 5)) (atN (nth q 6)) (atI (nth q 7)) (atI (nth q 8)) (atI (nth q 9)) (atI (nth q 10)) (atI (nth q 11)) (atI (nth q 12)) (atI (nth q 13)) (atI (nth q 14)) (atC (nth q 15)) (atC (nth q 16))⟩]) (tabJ []) 84 (fTs ti_ref01_Div [.i a0, .i a1, .i a2]).1 = (
  bif ((a2 == 0)) then (
    some (.v (.tuple #[.agg #[.int .i64 0, .int .u64 0], .int .i64 0, .bool false])))
  else (
    let v616 : Int := (IntKind.wrap .u64 a2)
    bif ((decide (a0 < 0))) then (
      bif (ok_ref01_Neg F a0 a1) then (
        let v618 : Int := (o_ref01_Neg_0 F a0 a1)
        let v619 : Int := (o_ref01_Neg_1 F a0 a1)
        bif ((decide (a2 < 0))) then (
          bif (ok_ref01_Digits F v618 v619) then (
            L_ref01_Div_0 F (fun (v662 : Int) (v663 : Int) (v664 : Int) (v665 : Int) (v666 : Bool) (v667 : Int) (v668 : Nat) (v669 : Int) (v670 : Int) (v671 : Int) (v672 : Int) (v673 : Int) (v674 : Int) (v675 : Int) (v676 : Int) (v677 : List VV) (v678 : List VV) =>
              bif (ok_ref01_Number F v678 128) then (
                let v679 : Int := (o_ref01_Number_0 F v678 128)
                let v680 : Int := (o_ref01_Number_1 F v678 128)
                bif ((!(((decide (v671 < 0))) == ((decide (v664 < 0)))))) then (
                  bif (ok_ref01_Neg F v679 v680) then (
                    let v684 : Int := (o_ref01_Neg_0 F v679 v680)
                    let v685 : Int := (o_ref01_Neg_1 F v679 v680)
                    let v686 : Int := (IntKind.wrap .i64 v669)
                    bif ((decide (v671 < 0))) then (
                      some (.v (.tuple #[.agg #[.int .i64 v684, .int .u64 v685], .int .i64 ((IntKind.wrap .i64 (0 - v686))), .bool true])))
                    else (
                      some (.v (.tuple #[.agg #[.int .i64 v684, .int .u64 v685], .int .i64 v686, .bool true]))))
                  else (
                    none))
                else (
                  let v689 : Int := (IntKind.wrap .i64 v669)
                  bif ((decide (v671 < 0))) then (
                    some (.v (.tuple #[.agg #[.int .i64 v679, .int .u64 v680], .int .i64 ((IntKind.wrap .i64 (0 - v689))), .bool true])))
                  else (
                    some (.v (.tuple #[.agg #[.int .i64 v679, .int .u64 v680], .int .i64 v689, .bool true])))))
              else (
                none)) F a0 a1 a2 0 false ((IntKind.wrap .u64 (((IntKind.wrap .u64 ((IntKind.wrap .i64 (0 - ((IntKind.wrap .i64 (a2 + 1)))))))) + 1))) ((o_ref01_Digits_1 F v618 v619)) 0 127 a0 a1 0 0 v618 v619 ((o_ref01_Digits_0 F v618 v619)) ((List.replicate 128 [.v (.int .i64 0)]).flatten))
          else (
            none))
        else (
          bif (ok_ref01_Digits F v618 v619) then (
            L_ref01_Div_0 F (fun (v695 : Int) (v696 : Int) (v697 : Int) (v698 : Int) (v699 : Bool) (v700 : Int) (v701 : Nat) (v702 : Int) (v703 : Int) (v704 : Int) (v705 : Int) (v706 : Int) (v707 : Int) (v708 : Int) (v709 : Int) (v710 : List VV) (v711 : List VV) =>
              bif (ok_ref01_Number F v711 128) then (
                let v712 : Int := (o_ref01_Number_0 F v711 128)
                let v713 : Int := (o_ref01_Number_1 F v711 128)
                bif ((!(((decide (v704 < 0))) == ((decide (v697 < 0)))))) then (
                  bif (ok_ref01_Neg F v712 v713) then (
                    let v717 : Int := (o_ref01_Neg_0 F v712 v713)
                    let v718 : Int := (o_ref01_Neg_1 F v712 v713)
                    let v719 : Int := (IntKind.wrap .i64 v702)
                    bif ((decide (v704 < 0))) then (
                      some (.v (.tuple #[.agg #[.int .i64 v717, .int .u64 v718], .int .i64 ((IntKind.wrap .i64 (0 - v719))), .bool true])))
                    else (
                      some (.v (.tuple #[.agg #[.int .i64 v717, .int .u64 v718], .int .i64 v719, .bool true]))))
                  else (
                    none))
                else (
                  let v722 : Int := (IntKind.wrap .i64 v702)
                  bif ((decide (v704 < 0))) then (
                    some (.v (.tuple #[.agg #[.int .i64 v712, .int .u64 v713], .int .i64 ((IntKind.wrap .i64 (0 - v722))), .bool true])))
                  else (
                    some (.v (.tuple #[.agg #[.int .i64 v712, .int .u64 v713], .int .i64 v722, .bool true])))))
              else (
                none)) F a0 a1 a2 0 false v616 ((o_ref01_Digits_1 F v618 v619)) 0 127 a0 a1 0 0 v618 v619 ((o_ref01_Digits_0 F v618 v619)) ((List.replicate 128 [.v (.int .i64 0)]).flatten))
          else (
            none)))
      else (
        none))
    else (
      bif ((decide (a2 < 0))) then (
        bif (ok_ref01_Digits F a0 a1) then (
          L_ref01_Div_0 F (fun (v733 : Int) (v734 : Int) (v735 : Int) (v736 : Int) (v737 : Bool) (v738 : Int) (v739 : Nat) (v740 : Int) (v741 : Int) (v742 : Int) (v743 : Int) (v744 : Int) (v745 : Int) (v746 : Int) (v747 : Int) (v748 : List VV) (v749 : List VV) =>
            bif (ok_ref01_Number F v749 128) then (
              let v750 : Int := (o_ref01_Number_0 F v749 128)
              let v751 : Int := (o_ref01_Number_1 F v749 128)
              bif ((!(((decide (v742 < 0))) == ((decide (v735 < 0)))))) then (
                bif (ok_ref01_Neg F v750 v751) then (
                  let v755 : Int := (o_ref01_Neg_0 F v750 v751)
                  let v756 : Int := (o_ref01_Neg_1 F v750 v751)
                  let v757 : Int := (IntKind.wrap .i64 v740)
                  bif ((decide (v742 < 0))) then (
                    some (.v (.tuple #[.agg #[.int .i64 v755, .int .u64 v756], .int .i64 ((IntKind.wrap .i64 (0 - v757))), .bool true])))
                  else (
                    some (.v (.tuple #[.agg #[.int .i64 v755, .int .u64 v756], .int .i64 v757, .bool true]))))
                else (
                  none))
              else (
                let v760 : Int := (IntKind.wrap .i64 v740)
                bif ((decide (v742 < 0))) then (
                  some (.v (.tuple #[.agg #[.int .i64 v750, .int .u64 v751], .int .i64 ((IntKind.wrap .i64 (0 - v760))), .bool true])))
                else (
                  some (.v (.tuple #[.agg #[.int .i64 v750, .int .u64 v751], .int .i64 v760, .bool true])))))
            else (
              none)) F a0 a1 a2 0 false ((IntKind.wrap .u64 (((IntKind.wrap .u64 ((IntKind.wrap .i64 (0 - ((IntKind.wrap .i64 (a2 + 1)))))))) + 1))) ((o_ref01_Digits_1 F a0 a1)) 0 127 a0 a1 0 0 a0 a1 ((o_ref01_Digits_0 F a0 a1)) ((List.replicate 128 [.v (.int .i64 0)]).flatten))
        else (
          none))
      else (
        bif (ok_ref01_Digits F a0 a1) then (
          L_ref01_Div_0 F (fun (v766 : Int) (v767 : Int) (v768 : Int) (v769 : Int) (v770 : Bool) (v771 : Int) (v772 : Nat) (v773 : Int) (v774 : Int) (v775 : Int) (v776 : Int) (v777 : Int) (v778 : Int) (v779 : Int) (v780 : Int) (v781 : List VV) (v782 : List VV) =>
            bif (ok_ref01_Number F v782 128) then (
              let v783 : Int := (o_ref01_Number_0 F v782 128)
              let v784 : Int := (o_ref01_Number_1 F v782 128)
              bif ((!(((decide (v775 < 0))) == ((decide (v768 < 0)))))) then (
                bif (ok_ref01_Neg F v783 v784) then (
                  let v788 : Int := (o_ref01_Neg_0 F v783 v784)
                  let v789 : Int := (o_ref01_Neg_1 F v783 v784)
                  let v790 : Int := (IntKind.wrap .i64 v773)
                  bif ((decide (v775 < 0))) then (
                    some (.v (.tuple #[.agg #[.int .i64 v788, .int .u64 v789], .int .i64 ((IntKind.wrap .i64 (0 - v790))), .bool true])))
                  else (
                    some (.v (.tuple #[.agg #[.int .i64 v788, .int .u64 v789], .int .i64 v790, .bool true]))))
                else (
                  none))
              else (
                let v793 : Int := (IntKind.wrap .i64 v773)
                bif ((decide (v775 < 0))) then (
                  some (.v (.tuple #[.agg #[.int .i64 v783, .int .u64 v784], .int .i64 ((IntKind.wrap .i64 (0 - v793))), .bool true])))
                else (
                  some (.v (.tuple #[.agg #[.int .i64 v783, .int .u64 v784], .int .i64 v793, .bool true])))))
            else (
              none)) F a0 a1 a2 0 false v616 ((o_ref01_Digits_1 F a0 a1)) 0 127 a0 a1 0 0 a0 a1 ((o_ref01_Digits_0 F a0 a1)) ((List.replicate 128 [.v (.int .i64 0)]).flatten))
        else (
          none)))) : R) := by
    intros
    kernel_rfl
  exact (h ok_ref01_Neg o_ref01_Neg_0 o_ref01_Neg_1 ok_ref01_Digits o_ref01_Digits_0 o_ref01_Digits_1 ok_ref01_Number o_ref01_Number_0 o_ref01_Number_1 L_ref01_Div_0).trans (by kernel_rfl)
def ok_ref01_Div (F : Nat) (a0 : Int) (a1 : Int) (a2 : Int) : Bool := okT to_ref01_Div (f_ref01_Div F a0 a1 a2)
def o_ref01_Div_0 (F : Nat) (a0 : Int) (a1 : Int) (a2 : Int) : Int := atI (nth (outT to_ref01_Div (f_ref01_Div F a0 a1 a2)) 0)
def o_ref01_Div_1 (F : Nat) (a0 : Int) (a1 : Int) (a2 : Int) : Int := atI (nth (outT to_ref01_Div (f_ref01_Div F a0 a1 a2)) 1)
def o_ref01_Div_2 (F : Nat) (a0 : Int) (a1 : Int) (a2 : Int) : Int := atI (nth (outT to_ref01_Div (f_ref01_Div F a0 a1 a2)) 2)
def o_ref01_Div_3 (F : Nat) (a0 : Int) (a1 : Int) (a2 : Int) : Bool := atB (nth (outT to_ref01_Div (f_ref01_Div F a0 a1 a2)) 3)
theorem k_ref01_Div (F : Nat) (a0 : Int) (a1 : Int) (a2 : Int) {z0 : Int} {z1 : Int} {z2 : Int} {z3 : Bool} (h : f_ref01_Div F a0 a1 a2 = some (.v (.tuple #[.agg #[.int .i64 z0, .int .u64 z1], .int .i64 z2, .bool z3]))) : ok_ref01_Div F a0 a1 a2 = true ∧ o_ref01_Div_0 F a0 a1 a2 = z0 ∧ o_ref01_Div_1 F a0 a1 a2 = z1 ∧ o_ref01_Div_2 F a0 a1 a2 = z2 ∧ o_ref01_Div_3 F a0 a1 a2 = z3 := by
  refine ⟨?_, ?_, ?_, ?_, ?_⟩
  · unfold ok_ref01_Div; rw [h]; kernel_rfl
  · unfold o_ref01_Div_0; rw [h]; kernel_rfl
  · unfold o_ref01_Div_1; rw [h]; kernel_rfl
  · unfold o_ref01_Div_2; rw [h]; kernel_rfl
  · unfold o_ref01_Div_3; rw [h]; kernel_rfl
def s_ref01_Div (F : Nat) : List VV → Option (Bool × VV) := spec ti_ref01_Div to_ref01_Div (fun q => (ok_ref01_Div F (atI (nth q 0)) (atI (nth q 1)) (atI (nth q 2)))) (fun q => [.i (o_ref01_Div_0 F (atI (nth q 0)) (atI (nth q 1)) (atI (nth q 2))), .i (o_ref01_Div_1 F (atI (nth q 0)) (atI (nth q 1)) (atI (nth q 2))), .i (o_ref01_Div_2 F (atI (nth q 0)) (atI (nth q 1)) (atI (nth q 2))), .b (o_ref01_Div_3 F (atI (nth q 0)) (atI (nth q 1)) (atI (nth q 2)))])
theorem hS_ref01_Div (F : Nat) : ∀ f, Good PP f (unS (S_ref01_Div F f)) := words_good fun p hp => by
  simp only [List.mem_cons, List.not_mem_nil, or_false] at hp
  rcases hp with rfl | rfl | rfl
  · exact g_ref01_Neg F
  · exact g_ref01_Digits F
  · exact g_ref01_Number F
theorem hl_ref01_Div (F : Nat) : ∀ p ∈ loopsIn PP 84, LoopOK PP (S_ref01_Div F) c_ref01_Div F (I_ref01_Div F) (J_ref01_Div F) p :=
  loops_of [(0, loopAt PP 84 0)] (by kernel_rfl) (all_cons
    (loop_ok (W_ref01_Div F) rfl (tab_cons (fun _ k q => Le.ofEq ((lL_ref01_Div_0 F k F (atI (nth q 0)) (atI (nth q 1)) (atI (nth q 2)) (atI (nth q 3)) (atB (nth q 4)) (atI (nth q 5)) (atN (nth q 6)) (atI (nth q 7)) (atI (nth q 8)) (atI (nth q 9)) (atI (nth q 10)) (atI (nth q 11)) (atI (nth q 12)) (atI (nth q 13)) (atI (nth q 14)) (atC (nth q 15)) (atC (nth q 16))).symm.trans (congrArg (iterC (codeL PP (S_ref01_Div F) c_ref01_Div (I_ref01_Div F) (J_ref01_Div F) (loopAt PP 84 0) 0) (headOf c_ref01_Div 0) k F) (show fS T_ref01_Div_0 [.i (atI (nth q 0)), .i (atI (nth q 1)), .i (atI (nth q 2)), .i (atI (nth q 3)), .b (atB (nth q 4)), .i (atI (nth q 5)), .n (atN (nth q 6)), .i (atI (nth q 7)), .i (atI (nth q 8)), .i (atI (nth q 9)), .i (atI (nth q 10)), .i (atI (nth q 11)), .i (atI (nth q 12)), .i (atI (nth q 13)), .i (atI (nth q 14)), .c (atC (nth q 15)), .c (atC (nth q 16))] = fS T_ref01_Div_0 q by kernel_rfl)))) tab_nil)) all_nil)
theorem hj_ref01_Div (F : Nat) : ∀ p ∈ joinsIn PP c_ref01_Div 84, JoinOK PP (S_ref01_Div F) c_ref01_Div (I_ref01_Div F) (J_ref01_Div F) p :=
  joins_of [] (by kernel_rfl) all_nil
theorem g_ref01_Div (F : Nat) : Good PP 84 (unS (s_ref01_Div F)) :=
  fun_spec (hS_ref01_Div F) (by kernel_rfl) (by kernel_rfl) (C := c_ref01_Div) (F := fun q => (f_ref01_Div F (atI (nth q 0)) (atI (nth q 1)) (atI (nth q 2)))) (fun _ => F) (fun _ => I_ref01_Div F) (fun _ => J_ref01_Div F) (fun _ => hl_ref01_Div F) (fun _ => hj_ref01_Div F)
    (fun q => (congrArg (funL PP (S_ref01_Div F) c_ref01_Div (I_ref01_Div F) (J_ref01_Div F) 84) (show (fTs ti_ref01_Div q).1 = (fTs ti_ref01_Div [.i (atI (nth q 0)), .i (atI (nth q 1)), .i (atI (nth q 2))]).1 by kernel_rfl)).trans (e_ref01_Div F (atI (nth q 0)) (atI (nth q 1)) (atI (nth q 2))))
    (fun _ h => (okT_fill h).trans (congrArg some (by kernel_rfl)))

end Go.Xv
set_option linter.unusedVariables false
namespace Go.Xv
/- 85 _wide_Clip -/
def c_wide_Clip : Cfg := ⟨[0, 1, 2, 3, 4, 8, 14], [], [], []⟩
def ti_wide_Clip : List TV := [.v (.agg [.int .i64, .int .u64])]
def to_wide_Clip : TV := .v (.tup [.int .i64, .bool])
def S_wide_Clip (F : Nat) : FuncId → List VV → Option (Bool × VV) := words [(57, s_wide_Of F)]
def W_wide_Clip (F : Nat) : List LW := []
def I_wide_Clip (F : Nat) : Nat → VS → (Exit → VS → R) → R := tabI c_wide_Clip (W_wide_Clip F)
def WJ_wide_Clip (F : Nat) : List LJ := []
def J_wide_Clip (F : Nat) : Nat → Nat → VS → (Exit → VS → R) → R := tabJ (WJ_wide_Clip F)
def f_wide_Clip (F : Nat) (a0 : Int) (a1 : Int) : R :=
  let v800 : Int := (IntKind.wrap .i64 a1)
  bif (ok_wide_Of F v800) then (
    bif (((((o_wide_Of_0 F v800)) == a0) && (((o_wide_Of_1 F v800)) == a1))) then (
      some (.v (.tuple #[.int .i64 v800, .bool false])))
    else (
      bif ((decide (a0 < 0))) then (
        some (.v (.tuple #[.int .i64 (-9223372036854775808), .bool true])))
      else (
        some (.v (.tuple #[.int .i64 9223372036854775807, .bool true])))))
  else (
    none)
theorem e_wide_Clip (F : Nat) (a0 : Int) (a1 : Int) : funL PP (S_wide_Clip F) c_wide_Clip (I_wide_Clip F) (J_wide_Clip F) 85 (fTs ti_wide_Clip [.i a0, .i a1]).1 = f_wide_Clip F a0 a1 := by
  have h : ∀ (ok_wide_Of : Nat → Int → Bool) (o_wide_Of_0 : Nat → Int → Int) (o_wide_Of_1 : Nat → Int → Int), funL PP (words [(57, spec ti_wide_Of to_wide_Of (fun q => (ok_wide_Of F (atI (nth q 0)))) (fun q => [.i (o_wide_Of_0 F (atI (nth q 0))), .i (o_wide_Of_1 F (atI (nth q 0)))]))]) c_wide_Clip (tabI c_wide_Clip []) (tabJ []) 85 (fTs ti_wide_Clip [.i a0, .i a1]).1 = (
  let v800 : Int := (IntKind.wrap .i64 a1)
  bif (ok_wide_Of F v800) then (
    bif (((((o_wide_Of_0 F v800)) == a0) && (((o_wide_Of_1 F v800)) == a1))) then (
      some (.v (.tuple #[.int .i64 v800, .bool false])))
    else (
      bif ((decide (a0 < 0))) then (
        some (.v (.tuple #[.int .i64 (-9223372036854775808), .bool true])))
      else (
        some (.v (.tuple #[.int .i64 9223372036854775807, .bool true])))))
  else (
    none) : R) := by
    intros
    kernel_rfl
  exact (h ok_wide_Of o_wide_Of_0 o_wide_Of_1).trans (by kernel_rfl)
def ok_wide_Clip (F : Nat) (a0 : Int) (a1 : Int) : Bool := okT to_wide_Clip (f_wide_Clip F a0 a1)
def o_wide_Clip_0 (F : Nat) (a0 : Int) (a1 : Int) : Int := atI (nth (outT to_wide_Clip (f_wide_Clip F a0 a1)) 0)
def o_wide_Clip_1 (F : Nat) (a0 : Int) (a1 : Int) : Bool := atB (nth (outT to_wide_Clip (f_wide_Clip F a0 a1)) 1)
theorem k_wide_Clip (F : Nat) (a0 : Int) (a1 : Int) {z0 : Int} {z1 : Bool} (h : f_wide_Clip F a0 a1 = some (.v (.tuple #[.int .i64 z0, .bool z1]))) : ok_wide_Clip F a0 a1 = true ∧ o_wide_Clip_0 F a0 a1 = z0 ∧ o_wide_Clip_1 F a0 a1 = z1 := by
  refine ⟨?_, ?_, ?_⟩
  · unfold ok_wide_Clip; rw [h]; kernel_rfl
  · unfold o_wide_Clip_0; rw [h]; kernel_rfl
  · unfold o_wide_Clip_1; rw [h]; kernel_rfl
def s_wide_Clip (F : Nat) : List VV → Option (Bool × VV) := spec ti_wide_Clip to_wide_Clip (fun q => (ok_wide_Clip F (atI (nth q 0)) (atI (nth q 1)))) (fun q => [.i (o_wide_Clip_0 F (atI (nth q 0)) (atI (nth q 1))), .b (o_wide_Clip_1 F (atI (nth q 0)) (atI (nth q 1)))])
theorem hS_wide_Clip (F : Nat) : ∀ f, Good PP f (unS (S_wide_Clip F f)) := words_good fun p hp => by
  simp only [List.mem_cons, List.not_mem_nil, or_false] at hp
  rcases hp with rfl
  · exact g_wide_Of F
theorem hl_wide_Clip (F : Nat) : ∀ p ∈ loopsIn PP 85, LoopOK PP (S_wide_Clip F) c_wide_Clip F (I_wide_Clip F) (J_wide_Clip F) p :=
  loops_of [] (by kernel_rfl) all_nil
theorem hj_wide_Clip (F : Nat) : ∀ p ∈ joinsIn PP c_wide_Clip 85, JoinOK PP (S_wide_Clip F) c_wide_Clip (I_wide_Clip F) (J_wide_Clip F) p :=
  joins_of [] (by kernel_rfl) all_nil
theorem g_wide_Clip (F : Nat) : Good PP 85 (unS (s_wide_Clip F)) :=
  fun_spec (hS_wide_Clip F) (by kernel_rfl) (by kernel_rfl) (C := c_wide_Clip) (F := fun q => (f_wide_Clip F (atI (nth q 0)) (atI (nth q 1)))) (fun _ => F) (fun _ => I_wide_Clip F) (fun _ => J_wide_Clip F) (fun _ => hl_wide_Clip F) (fun _ => hj_wide_Clip F)
    (fun q => (congrArg (funL PP (S_wide_Clip F) c_wide_Clip (I_wide_Clip F) (J_wide_Clip F) 85) (show (fTs ti_wide_Clip q).1 = (fTs ti_wide_Clip [.i (atI (nth q 0)), .i (atI (nth q 1))]).1 by kernel_rfl)).trans (e_wide_Clip F (atI (nth q 0)) (atI (nth q 1))))
    (fun _ h => (okT_fill h).trans (congrArg some (by kernel_rfl)))

end Go.Xv
set_option linter.unusedVariables false
namespace Go.Xv
/- 86 _ref01_Clip -/
def c_ref01_Clip : Cfg := ⟨[0, 1, 2, 3, 6, 9], [], [5, 7], []⟩
def ti_ref01_Clip : List TV := [.v (.agg [.int .i64, .int .u64])]
def to_ref01_Clip : TV := .v (.tup [.int .i64, .bool])
def S_ref01_Clip (F : Nat) : FuncId → List VV → Option (Bool × VV) := words [(58, s_ref01_Of F), (56, s_ref01_Less F)]
def W_ref01_Clip (F : Nat) : List LW := []
def I_ref01_Clip (F : Nat) : Nat → VS → (Exit → VS → R) → R := tabI c_ref01_Clip (W_ref01_Clip F)
def WJ_ref01_Clip (F : Nat) : List LJ := []
def J_ref01_Clip (F : Nat) : Nat → Nat → VS → (Exit → VS → R) → R := tabJ (WJ_ref01_Clip F)
def f_ref01_Clip (F : Nat) (a0 : Int) (a1 : Int) : R :=
  bif (ok_ref01_Of F ((-9223372036854775808))) then (
    let v807 : Int := (o_ref01_Of_0 F ((-9223372036854775808)))
    let v808 : Int := (o_ref01_Of_1 F ((-9223372036854775808)))
    bif (ok_ref01_Less F a0 a1 v807 v808) then (
      bif ((o_ref01_Less_0 F a0 a1 v807 v808)) then (
        some (.v (.tuple #[.int .i64 (-9223372036854775808), .bool true])))
      else (
        bif (ok_ref01_Of F 9223372036854775807) then (
          let v810 : Int := (o_ref01_Of_0 F 9223372036854775807)
          let v811 : Int := (o_ref01_Of_1 F 9223372036854775807)
          bif (ok_ref01_Less F v810 v811 a0 a1) then (
            bif ((o_ref01_Less_0 F v810 v811 a0 a1)) then (
              some (.v (.tuple #[.int .i64 9223372036854775807, .bool true])))
            else (
              some (.v (.tuple #[.int .i64 ((IntKind.wrap .i64 a1)), .bool false]))))
          else (
            none))
        else (
          none)))
    else (
      none))
  else (
    none)
theorem e_ref01_Clip (F : Nat) (a0 : Int) (a1 : Int) : funL PP (S_ref01_Clip F) c_ref01_Clip (I_ref01_Clip F) (J_ref01_Clip F) 86 (fTs ti_ref01_Clip [.i a0, .i a1]).1 = f_ref01_Clip F a0 a1 := by
  have h : ∀ (ok_ref01_Of : Nat → Int → Bool) (o_ref01_Of_0 : Nat → Int → Int) (o_ref01_Of_1 : Nat → Int → Int) (ok_ref01_Less : Nat → Int → Int → Int → Int → Bool) (o_ref01_Less_0 : Nat → Int → Int → Int → Int → Bool), funL PP (words [(58, spec ti_ref01_Of to_ref01_Of (fun q => (ok_ref01_Of F (atI (nth q 0)))) (fun q => [.i (o_ref01_Of_0 F (atI (nth q 0))), .i (o_ref01_Of_1 F (atI (nth q 0)))])), (56, spec ti_ref01_Less to_ref01_Less (fun q => (ok_ref01_Less F (atI (nth q 0)) (atI (nth q 1)) (atI (nth q 2)) (atI (nth q 3)))) (fun q => [.b (o_ref01_Less_0 F (atI (nth q 0)) (atI (nth q 1)) (atI (nth q 2)) (atI (nth q 3)))]))]) c_ref01_Clip (tabI c_ref01_Clip []) (tabJ []) 86 (fTs ti_ref01_Clip [.i a0, .i a1]).1 = (
  bif (ok_ref01_Of F ((-9223372036854775808))) then (
    let v807 : Int := (o_ref01_Of_0 F ((-9223372036854775808)))
    let v808 : Int := (o_ref01_Of_1 F ((-9223372036854775808)))
    bif (ok_ref01_Less F a0 a1 v807 v808) then (
      bif ((o_ref01_Less_0 F a0 a1 v807 v808)) then (
        some (.v (.tuple #[.int .i64 (-9223372036854775808), .bool true])))
      else (
        bif (ok_ref01_Of F 9223372036854775807) then (
          let v810 : Int := (o_ref01_Of_0 F 9223372036854775807)
          let v811 : Int := (o_ref01_Of_1 F 9223372036854775807)
          bif (ok_ref01_Less F v810 v811 a0 a1) then (
            bif ((o_ref01_Less_0 F v810 v811 a0 a1)) then (
              some (.v (.tuple #[.int .i64 9223372036854775807, .bool true])))
            else (
              some (.v (.tuple #[.int .i64 ((IntKind.wrap .i64 a1)), .bool false]))))
          else (
            none))
        else (
          none)))
    else (
      none))
  else (
    none) : R) := by
    intros
    kernel_rfl
  exact (h ok_ref01_Of o_ref01_Of_0 o_ref01_Of_1 ok_ref01_Less o_ref01_Less_0).trans (by kernel_rfl)
def ok_ref01_Clip (F : Nat) (a0 : Int) (a1 : Int) : Bool := okT to_ref01_Clip (f_ref01_Clip F a0 a1)
def o_ref01_Clip_0 (F : Nat) (a0 : Int) (a1 : Int) : Int := atI (nth (outT to_ref01_Clip (f_ref01_Clip F a0 a1)) 0)
def o_ref01_Clip_1 (F : Nat) (a0 : Int) (a1 : Int) : Bool := atB (nth (outT to_ref01_Clip (f_ref01_Clip F a0 a1)) 1)
theorem k_ref01_Clip (F : Nat) (a0 : Int) (a1 : Int) {z0 : Int} {z1 : Bool} (h : f_ref01_Clip F a0 a1 = some (.v (.tuple #[.int .i64 z0, .bool z1]))) : ok_ref01_Clip F a0 a1 = true ∧ o_ref01_Clip_0 F a0 a1 = z0 ∧ o_ref01_Clip_1 F a0 a1 = z1 := by
  refine ⟨?_, ?_, ?_⟩
  · unfold ok_ref01_Clip; rw [h]; kernel_rfl
  · unfold o_ref01_Clip_0; rw [h]; kernel_rfl
  · unfold o_ref01_Clip_1; rw [h]; kernel_rfl
def s_ref01_Clip (F : Nat) : List VV → Option (Bool × VV) := spec ti_ref01_Clip to_ref01_Clip (fun q => (ok_ref01_Clip F (atI (nth q 0)) (atI (nth q 1)))) (fun q => [.i (o_ref01_Clip_0 F (atI (nth q 0)) (atI (nth q 1))), .b (o_ref01_Clip_1 F (atI (nth q 0)) (atI (nth q 1)))])
theorem hS_ref01_Clip (F : Nat) : ∀ f, Good PP f (unS (S_ref01_Clip F f)) := words_good fun p hp => by
  simp only [List.mem_cons, List.not_mem_nil, or_false] at hp
  rcases hp with rfl | rfl
  · exact g_ref01_Of F
  · exact g_ref01_Less F
theorem hl_ref01_Clip (F : Nat) : ∀ p ∈ loopsIn PP 86, LoopOK PP (S_ref01_Clip F) c_ref01_Clip F (I_ref01_Clip F) (J_ref01_Clip F) p :=
  loops_of [] (by kernel_rfl) all_nil
theorem hj_ref01_Clip (F : Nat) : ∀ p ∈ joinsIn PP c_ref01_Clip 86, JoinOK PP (S_ref01_Clip F) c_ref01_Clip (I_ref01_Clip F) (J_ref01_Clip F) p :=
  joins_of [] (by kernel_rfl) all_nil
theorem g_ref01_Clip (F : Nat) : Good PP 86 (unS (s_ref01_Clip F)) :=
  fun_spec (hS_ref01_Clip F) (by kernel_rfl) (by kernel_rfl) (C := c_ref01_Clip) (F := fun q => (f_ref01_Clip F (atI (nth q 0)) (atI (nth q 1)))) (fun _ => F) (fun _ => I_ref01_Clip F) (fun _ => J_ref01_Clip F) (fun _ => hl_ref01_Clip F) (fun _ => hj_ref01_Clip F)
    (fun q => (congrArg (funL PP (S_ref01_Clip F) c_ref01_Clip (I_ref01_Clip F) (J_ref01_Clip F) 86) (show (fTs ti_ref01_Clip q).1 = (fTs ti_ref01_Clip [.i (atI (nth q 0)), .i (atI (nth q 1))]).1 by kernel_rfl)).trans (e_ref01_Clip F (atI (nth q 0)) (atI (nth q 1))))
    (fun _ h => (okT_fill h).trans (congrArg some (by kernel_rfl)))

end Go.Xv
