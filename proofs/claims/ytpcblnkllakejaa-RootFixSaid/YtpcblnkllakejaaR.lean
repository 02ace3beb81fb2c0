/- Roots and squares, of the program and of the document: what they compute. -/
import Derived.Test.YtpcblnkllakejaaF
import Derived.Test.YtpcblnkllakejaaProg
import Derived.KernelRfl
set_option linter.unusedVariables false
namespace Go.Xv
/- 65 _root_Square -/
def c_root_Square : Cfg := ⟨[0, 2, 3, 4, 5, 6], [], []⟩
def ti_root_Square : List TV := [.v (.int .u64)]
def to_root_Square : TV := .v (.agg [.int .i64, .int .u64])
def S_root_Square (F : Nat) : FuncId → List VV → Option (Bool × VV) := words [(45, s_wide_Left F), (43, s_wide_Add F)]
def W_root_Square (F : Nat) : List LW := []
def I_root_Square (F : Nat) : Nat → VS → (Exit → VS → R) → R := tabI c_root_Square (W_root_Square F)
def f_root_Square (F : Nat) (a0 : Int) : R :=
  let v1414 : Int := (Int.fdiv a0 (4294967296))
  let v1415 : Int := (andI .u64 a0 4294967295)
  let v1417 : Int := (IntKind.wrap .i64 ((IntKind.wrap .u64 (v1414 * v1414))))
  let v1418 : Int := (IntKind.wrap .u64 (v1415 * v1415))
  let v1419 : Int := (IntKind.wrap .u64 (v1414 * v1415))
  bif (ok_wide_Left F 0 v1419 33) then (
    let v1420 : Int := (o_wide_Left_0 F 0 v1419 33)
    let v1421 : Int := (o_wide_Left_1 F 0 v1419 33)
    bif (ok_wide_Add F v1417 v1418 v1420 v1421) then (
      some (.v (.agg #[.int .i64 ((o_wide_Add_0 F v1417 v1418 v1420 v1421)), .int .u64 ((o_wide_Add_1 F v1417 v1418 v1420 v1421))])))
    else (
      none))
  else (
    none)
theorem e_root_Square (F : Nat) (a0 : Int) : funL PP (S_root_Square F) c_root_Square (I_root_Square F) 65 (fTs ti_root_Square [.i a0]).1 = f_root_Square F a0 := by
  have h : ∀ (ok_wide_Left : Nat → Int → Int → Int → Bool) (o_wide_Left_0 : Nat → Int → Int → Int → Int) (o_wide_Left_1 : Nat → Int → Int → Int → Int) (ok_wide_Add : Nat → Int → Int → Int → Int → Bool) (o_wide_Add_0 : Nat → Int → Int → Int → Int → Int) (o_wide_Add_1 : Nat → Int → Int → Int → Int → Int), funL PP (words [(45, spec ti_wide_Left to_wide_Left (fun q => (ok_wide_Left F (atI (nth q 0)) (atI (nth q 1)) (atI (nth q 2)))) (fun q => [.i (o_wide_Left_0 F (atI (nth q 0)) (atI (nth q 1)) (atI (nth q 2))), .i (o_wide_Left_1 F (atI (nth q 0)) (atI (nth q 1)) (atI (nth q 2)))])), (43, spec ti_wide_Add to_wide_Add (fun q => (ok_wide_Add F (atI (nth q 0)) (atI (nth q 1)) (atI (nth q 2)) (atI (nth q 3)))) (fun q => [.i (o_wide_Add_0 F (atI (nth q 0)) (atI (nth q 1)) (atI (nth q 2)) (atI (nth q 3))), .i (o_wide_Add_1 F (atI (nth q 0)) (atI (nth q 1)) (atI (nth q 2)) (atI (nth q 3)))]))]) c_root_Square (tabI c_root_Square []) 65 (fTs ti_root_Square [.i a0]).1 = (
  let v1414 : Int := (Int.fdiv a0 (4294967296))
  let v1415 : Int := (andI .u64 a0 4294967295)
  let v1417 : Int := (IntKind.wrap .i64 ((IntKind.wrap .u64 (v1414 * v1414))))
  let v1418 : Int := (IntKind.wrap .u64 (v1415 * v1415))
  let v1419 : Int := (IntKind.wrap .u64 (v1414 * v1415))
  bif (ok_wide_Left F 0 v1419 33) then (
    let v1420 : Int := (o_wide_Left_0 F 0 v1419 33)
    let v1421 : Int := (o_wide_Left_1 F 0 v1419 33)
    bif (ok_wide_Add F v1417 v1418 v1420 v1421) then (
      some (.v (.agg #[.int .i64 ((o_wide_Add_0 F v1417 v1418 v1420 v1421)), .int .u64 ((o_wide_Add_1 F v1417 v1418 v1420 v1421))])))
    else (
      none))
  else (
    none) : R) := by
    intros
    kernel_rfl
  exact (h ok_wide_Left o_wide_Left_0 o_wide_Left_1 ok_wide_Add o_wide_Add_0 o_wide_Add_1).trans (by kernel_rfl)
def ok_root_Square (F : Nat) (a0 : Int) : Bool := okT to_root_Square (f_root_Square F a0)
def o_root_Square_0 (F : Nat) (a0 : Int) : Int := atI (nth (outT to_root_Square (f_root_Square F a0)) 0)
def o_root_Square_1 (F : Nat) (a0 : Int) : Int := atI (nth (outT to_root_Square (f_root_Square F a0)) 1)
theorem k_root_Square (F : Nat) (a0 : Int) {z0 : Int} {z1 : Int} (h : f_root_Square F a0 = some (.v (.agg #[.int .i64 z0, .int .u64 z1]))) : ok_root_Square F a0 = true ∧ o_root_Square_0 F a0 = z0 ∧ o_root_Square_1 F a0 = z1 := by
  refine ⟨?_, ?_, ?_⟩
  · unfold ok_root_Square; rw [h]; kernel_rfl
  · unfold o_root_Square_0; rw [h]; kernel_rfl
  · unfold o_root_Square_1; rw [h]; kernel_rfl
def s_root_Square (F : Nat) : List VV → Option (Bool × VV) := spec ti_root_Square to_root_Square (fun q => (ok_root_Square F (atI (nth q 0)))) (fun q => [.i (o_root_Square_0 F (atI (nth q 0))), .i (o_root_Square_1 F (atI (nth q 0)))])
theorem hS_root_Square (F : Nat) : ∀ f, Good PP f (unS (S_root_Square F f)) := words_good fun p hp => by
  simp only [List.mem_cons, List.not_mem_nil, or_false] at hp
  rcases hp with rfl | rfl
  · exact g_wide_Left F
  · exact g_wide_Add F
theorem hl_root_Square (F : Nat) : ∀ p ∈ loopsIn PP 65, LoopOK PP (S_root_Square F) c_root_Square F (I_root_Square F) p :=
  loops_of [] (by kernel_rfl) all_nil
theorem g_root_Square (F : Nat) : Good PP 65 (unS (s_root_Square F)) :=
  fun_spec (hS_root_Square F) (by kernel_rfl) (by kernel_rfl) (C := c_root_Square) (F := fun q => (f_root_Square F (atI (nth q 0)))) (fun _ => F) (fun _ => I_root_Square F) (fun _ => hl_root_Square F)
    (fun q => (congrArg (funL PP (S_root_Square F) c_root_Square (I_root_Square F) 65) (show (fTs ti_root_Square q).1 = (fTs ti_root_Square [.i (atI (nth q 0))]).1 by kernel_rfl)).trans (e_root_Square F (atI (nth q 0))))
    (fun _ h => (okT_fill h).trans (congrArg some (by kernel_rfl)))

end Go.Xv
set_option linter.unusedVariables false
namespace Go.Xv
/- 59 _root_Wide -/
def c_root_Wide : Cfg := ⟨[0, 1, 2, 3, 4, 5, 6, 7, 10, 11, 12, 29], [(0, [0, 1, 2, 3, 4, 8, 9, 10, 11, 34])], []⟩
def ti_root_Wide : List TV := [.v (.agg [.int .i64, .int .u64])]
def to_root_Wide : TV := .v (.tup [.int .u64, .bool])
def S_root_Wide (F : Nat) : FuncId → List VV → Option (Bool × VV) := words [(65, s_root_Square F), (55, s_wide_Less F)]
def T_root_Wide_0 : TS := ⟨[(0, .v (.agg [.int .i64, .int .u64])), (1, .lp 0 (.lit 0)), (2, .v (.int .u64)), (3, .v (.bool)), (4, .v (.int .u64)), (11, .v (.int .i64))], [(0, ⟨(.ex [.v (.int .i64), .v (.int .u64)]), true⟩)], 1⟩
def T_root_Wide_0_0 : TS := ⟨[(0, .v (.agg [.int .i64, .int .u64])), (1, .lp 0 (.lit 0)), (2, .v (.int .u64)), (3, .v (.bool)), (4, .v (.int .u64)), (11, .v (.int .i64))], [(0, ⟨(.ex [.v (.int .i64), .v (.int .u64)]), true⟩)], 1⟩
def B_root_Wide_0 (F : Nat) (rc : Int → Int → Int → Bool → Int → Int → Int → Int → R) (ex0 : Int → Int → Int → Bool → Int → Int → Int → Int → R) (x0 : Int) (x1 : Int) (x2 : Int) (x3 : Bool) (x4 : Int) (x5 : Int) (x6 : Int) (x7 : Int) : R :=
  bif ((decide (x5 < 64))) then (
    let v1411 : Int := (IntKind.wrap .i64 (63 - x5))
    bif (!(decide (v1411 < 0))) then (
      let v1412 : Int := (IntKind.wrap .u64 (1 * 2 ^ (min (Int.toNat v1411) 64)))
      let v1413 : Int := (orI .u64 x4 v1412)
      bif (ok_root_Square F v1413) then (
        let v1424 : Int := (o_root_Square_0 F v1413)
        let v1425 : Int := (o_root_Square_1 F v1413)
        bif ((decide (v1424 ≥ 0))) then (
          bif (ok_wide_Less F x6 x7 v1424 v1425) then (
            bif ((!((o_wide_Less_0 F x6 x7 v1424 v1425)))) then (
              rc x0 x1 x2 x3 ((orI .u64 x4 v1412)) ((IntKind.wrap .i64 (x5 + 1))) x6 x7)
            else (
              rc x0 x1 x2 x3 x4 ((IntKind.wrap .i64 (x5 + 1))) x6 x7))
          else (
            none))
        else (
          rc x0 x1 x2 x3 x4 ((IntKind.wrap .i64 (x5 + 1))) x6 x7))
      else (
        none))
    else (
      none))
  else (
    ex0 x0 x1 x2 x3 x4 x5 x6 x7)
def L_root_Wide_0 (F : Nat) (ex0 : Int → Int → Int → Bool → Int → Int → Int → Int → R) : Nat → Int → Int → Int → Bool → Int → Int → Int → Int → R
  | 0, _, _, _, _, _, _, _, _ => none
  | n + 1, x0, x1, x2, x3, x4, x5, x6, x7 => B_root_Wide_0 F (L_root_Wide_0 F ex0 n) ex0 x0 x1 x2 x3 x4 x5 x6 x7
def W_root_Wide (F : Nat) : List LW := [⟨0, T_root_Wide_0, fun k q => L_root_Wide_0 F (fun (z0 : Int) (z1 : Int) (z2 : Int) (z3 : Bool) (z4 : Int) (z5 : Int) (z6 : Int) (z7 : Int) => k (.exit 0) (fS T_root_Wide_0_0 [.i z0, .i z1, .i z2, .b z3, .i z4, .i z5, .i z6, .i z7])) F (atI (nth q 0)) (atI (nth q 1)) (atI (nth q 2)) (atB (nth q 3)) (atI (nth q 4)) (atI (nth q 5)) (atI (nth q 6)) (atI (nth q 7))⟩]
def I_root_Wide (F : Nat) : Nat → VS → (Exit → VS → R) → R := tabI c_root_Wide (W_root_Wide F)
theorem lL_root_Wide_0 (F : Nat) (k : Exit → VS → R) : ∀ (n : Nat) (x0 : Int) (x1 : Int) (x2 : Int) (x3 : Bool) (x4 : Int) (x5 : Int) (x6 : Int) (x7 : Int), iterC (codeL PP (S_root_Wide F) c_root_Wide (I_root_Wide F) (loopAt PP 59 0) 0) (headOf c_root_Wide 0) k n (fS T_root_Wide_0 [.i x0, .i x1, .i x2, .b x3, .i x4, .i x5, .i x6, .i x7]) = L_root_Wide_0 F (fun (z0 : Int) (z1 : Int) (z2 : Int) (z3 : Bool) (z4 : Int) (z5 : Int) (z6 : Int) (z7 : Int) => k (.exit 0) (fS T_root_Wide_0_0 [.i z0, .i z1, .i z2, .b z3, .i z4, .i z5, .i z6, .i z7])) n x0 x1 x2 x3 x4 x5 x6 x7
  | 0, _, _, _, _, _, _, _, _ => rfl
  | n + 1, x0, x1, x2, x3, x4, x5, x6, x7 => by
    have h0 : ∀ (ok_root_Square : Nat → Int → Bool) (o_root_Square_0 : Nat → Int → Int) (o_root_Square_1 : Nat → Int → Int) (ok_wide_Less : Nat → Int → Int → Int → Int → Bool) (o_wide_Less_0 : Nat → Int → Int → Int → Int → Bool) (L_root_Wide_0 : Nat → (Int → Int → Int → Bool → Int → Int → Int → Int → R) → Nat → Int → Int → Int → Bool → Int → Int → Int → Int → R), iterC (codeL PP (words [(65, spec ti_root_Square to_root_Square (fun q => (ok_root_Square F (atI (nth q 0)))) (fun q => [.i (o_root_Square_0 F (atI (nth q 0))), .i (o_root_Square_1 F (atI (nth q 0)))])), (55, spec ti_wide_Less to_wide_Less (fun q => (ok_wide_Less F (atI (nth q 0)) (atI (nth q 1)) (atI (nth q 2)) (atI (nth q 3)))) (fun q => [.b (o_wide_Less_0 F (atI (nth q 0)) (atI (nth q 1)) (atI (nth q 2)) (atI (nth q 3)))]))]) c_root_Wide (tabI c_root_Wide [⟨0, T_root_Wide_0, fun k q => L_root_Wide_0 F (fun (z0 : Int) (z1 : Int) (z2 : Int) (z3 : Bool) (z4 : Int) (z5 : Int) (z6 : Int) (z7 : Int) => k (.exit 0) (fS T_root_Wide_0_0 [.i z0, .i z1, .i z2, .b z3, .i z4, .i z5, .i z6, .i z7])) F (atI (nth q 0)) (atI (nth q 1)) (atI (nth q 2)) (atB (nth q 3)) (atI (nth q 4)) (atI (nth q 5)) (atI (nth q 6)) (atI (nth q 7))⟩]) (loopAt PP 59 0) 0) (headOf c_root_Wide 0) k (n + 1) (fS T_root_Wide_0 [.i x0, .i x1, .i x2, .b x3, .i x4, .i x5, .i x6, .i x7]) = (fun (rc : Int → Int → Int → Bool → Int → Int → Int → Int → R) (ex0 : Int → Int → Int → Bool → Int → Int → Int → Int → R) (x0 : Int) (x1 : Int) (x2 : Int) (x3 : Bool) (x4 : Int) (x5 : Int) (x6 : Int) (x7 : Int) => (
  bif ((decide (x5 < 64))) then (
    let v1411 : Int := (IntKind.wrap .i64 (63 - x5))
    bif (!(decide (v1411 < 0))) then (
      let v1412 : Int := (IntKind.wrap .u64 (1 * 2 ^ (min (Int.toNat v1411) 64)))
      let v1413 : Int := (orI .u64 x4 v1412)
      bif (ok_root_Square F v1413) then (
        let v1424 : Int := (o_root_Square_0 F v1413)
        let v1425 : Int := (o_root_Square_1 F v1413)
        bif ((decide (v1424 ≥ 0))) then (
          bif (ok_wide_Less F x6 x7 v1424 v1425) then (
            bif ((!((o_wide_Less_0 F x6 x7 v1424 v1425)))) then (
              rc x0 x1 x2 x3 ((orI .u64 x4 v1412)) ((IntKind.wrap .i64 (x5 + 1))) x6 x7)
            else (
              rc x0 x1 x2 x3 x4 ((IntKind.wrap .i64 (x5 + 1))) x6 x7))
          else (
            none))
        else (
          rc x0 x1 x2 x3 x4 ((IntKind.wrap .i64 (x5 + 1))) x6 x7))
      else (
        none))
    else (
      none))
  else (
    ex0 x0 x1 x2 x3 x4 x5 x6 x7) : R)) (fun (y0 : Int) (y1 : Int) (y2 : Int) (y3 : Bool) (y4 : Int) (y5 : Int) (y6 : Int) (y7 : Int) => iterC (codeL PP (words [(65, spec ti_root_Square to_root_Square (fun q => (ok_root_Square F (atI (nth q 0)))) (fun q => [.i (o_root_Square_0 F (atI (nth q 0))), .i (o_root_Square_1 F (atI (nth q 0)))])), (55, spec ti_wide_Less to_wide_Less (fun q => (ok_wide_Less F (atI (nth q 0)) (atI (nth q 1)) (atI (nth q 2)) (atI (nth q 3)))) (fun q => [.b (o_wide_Less_0 F (atI (nth q 0)) (atI (nth q 1)) (atI (nth q 2)) (atI (nth q 3)))]))]) c_root_Wide (tabI c_root_Wide [⟨0, T_root_Wide_0, fun k q => L_root_Wide_0 F (fun (z0 : Int) (z1 : Int) (z2 : Int) (z3 : Bool) (z4 : Int) (z5 : Int) (z6 : Int) (z7 : Int) => k (.exit 0) (fS T_root_Wide_0_0 [.i z0, .i z1, .i z2, .b z3, .i z4, .i z5, .i z6, .i z7])) F (atI (nth q 0)) (atI (nth q 1)) (atI (nth q 2)) (atB (nth q 3)) (atI (nth q 4)) (atI (nth q 5)) (atI (nth q 6)) (atI (nth q 7))⟩]) (loopAt PP 59 0) 0) (headOf c_root_Wide 0) k n (fS T_root_Wide_0 [.i y0, .i y1, .i y2, .b y3, .i y4, .i y5, .i y6, .i y7])) (fun (z0 : Int) (z1 : Int) (z2 : Int) (z3 : Bool) (z4 : Int) (z5 : Int) (z6 : Int) (z7 : Int) => k (.exit 0) (fS T_root_Wide_0_0 [.i z0, .i z1, .i z2, .b z3, .i z4, .i z5, .i z6, .i z7])) x0 x1 x2 x3 x4 x5 x6 x7 := by
      intros
      kernel_rfl
    have h : iterC (codeL PP (S_root_Wide F) c_root_Wide (I_root_Wide F) (loopAt PP 59 0) 0) (headOf c_root_Wide 0) k (n + 1) (fS T_root_Wide_0 [.i x0, .i x1, .i x2, .b x3, .i x4, .i x5, .i x6, .i x7]) = B_root_Wide_0 F (fun (y0 : Int) (y1 : Int) (y2 : Int) (y3 : Bool) (y4 : Int) (y5 : Int) (y6 : Int) (y7 : Int) => iterC (codeL PP (S_root_Wide F) c_root_Wide (I_root_Wide F) (loopAt PP 59 0) 0) (headOf c_root_Wide 0) k n (fS T_root_Wide_0 [.i y0, .i y1, .i y2, .b y3, .i y4, .i y5, .i y6, .i y7])) (fun (z0 : Int) (z1 : Int) (z2 : Int) (z3 : Bool) (z4 : Int) (z5 : Int) (z6 : Int) (z7 : Int) => k (.exit 0) (fS T_root_Wide_0_0 [.i z0, .i z1, .i z2, .b z3, .i z4, .i z5, .i z6, .i z7])) x0 x1 x2 x3 x4 x5 x6 x7 := (h0 ok_root_Square o_root_Square_0 o_root_Square_1 ok_wide_Less o_wide_Less_0 L_root_Wide_0).trans (by kernel_rfl)
    rw [h]
    simp only [lL_root_Wide_0 F k n]
    rfl
def f_root_Wide (F : Nat) (a0 : Int) (a1 : Int) : R :=
  bif ((decide (a0 < 0))) then (
    some (.v (.tuple #[.int .u64 0, .bool false])))
  else (
    L_root_Wide_0 F (fun (v1433 : Int) (v1434 : Int) (v1435 : Int) (v1436 : Bool) (v1437 : Int) (v1438 : Int) (v1439 : Int) (v1440 : Int) =>
      some (.v (.tuple #[.int .u64 v1437, .bool true]))) F a0 a1 0 false 0 0 a0 a1)
theorem e_root_Wide (F : Nat) (a0 : Int) (a1 : Int) : funL PP (S_root_Wide F) c_root_Wide (I_root_Wide F) 59 (fTs ti_root_Wide [.i a0, .i a1]).1 = f_root_Wide F a0 a1 := by
  have h : ∀ (ok_root_Square : Nat → Int → Bool) (o_root_Square_0 : Nat → Int → Int) (o_root_Square_1 : Nat → Int → Int) (ok_wide_Less : Nat → Int → Int → Int → Int → Bool) (o_wide_Less_0 : Nat → Int → Int → Int → Int → Bool) (L_root_Wide_0 : Nat → (Int → Int → Int → Bool → Int → Int → Int → Int → R) → Nat → Int → Int → Int → Bool → Int → Int → Int → Int → R), funL PP (words [(65, spec ti_root_Square to_root_Square (fun q => (ok_root_Square F (atI (nth q 0)))) (fun q => [.i (o_root_Square_0 F (atI (nth q 0))), .i (o_root_Square_1 F (atI (nth q 0)))])), (55, spec ti_wide_Less to_wide_Less (fun q => (ok_wide_Less F (atI (nth q 0)) (atI (nth q 1)) (atI (nth q 2)) (atI (nth q 3)))) (fun q => [.b (o_wide_Less_0 F (atI (nth q 0)) (atI (nth q 1)) (atI (nth q 2)) (atI (nth q 3)))]))]) c_root_Wide (tabI c_root_Wide [⟨0, T_root_Wide_0, fun k q => L_root_Wide_0 F (fun (z0 : Int) (z1 : Int) (z2 : Int) (z3 : Bool) (z4 : Int) (z5 : Int) (z6 : Int) (z7 : Int) => k (.exit 0) (fS T_root_Wide_0_0 [.i z0, .i z1, .i z2, .b z3, .i z4, .i z5, .i z6, .i z7])) F (atI (nth q 0)) (atI (nth q 1)) (atI (nth q 2)) (atB (nth q 3)) (atI (nth q 4)) (atI (nth q 5)) (atI (nth q 6)) (atI (nth q 7))⟩]) 59 (fTs ti_root_Wide [.i a0, .i a1]).1 = (
  bif ((decide (a0 < 0))) then (
    some (.v (.tuple #[.int .u64 0, .bool false])))
  else (
    L_root_Wide_0 F (fun (v1433 : Int) (v1434 : Int) (v1435 : Int) (v1436 : Bool) (v1437 : Int) (v1438 : Int) (v1439 : Int) (v1440 : Int) =>
      some (.v (.tuple #[.int .u64 v1437, .bool true]))) F a0 a1 0 false 0 0 a0 a1) : R) := by
    intros
    kernel_rfl
  exact (h ok_root_Square o_root_Square_0 o_root_Square_1 ok_wide_Less o_wide_Less_0 L_root_Wide_0).trans (by kernel_rfl)
def ok_root_Wide (F : Nat) (a0 : Int) (a1 : Int) : Bool := okT to_root_Wide (f_root_Wide F a0 a1)
def o_root_Wide_0 (F : Nat) (a0 : Int) (a1 : Int) : Int := atI (nth (outT to_root_Wide (f_root_Wide F a0 a1)) 0)
def o_root_Wide_1 (F : Nat) (a0 : Int) (a1 : Int) : Bool := atB (nth (outT to_root_Wide (f_root_Wide F a0 a1)) 1)
theorem k_root_Wide (F : Nat) (a0 : Int) (a1 : Int) {z0 : Int} {z1 : Bool} (h : f_root_Wide F a0 a1 = some (.v (.tuple #[.int .u64 z0, .bool z1]))) : ok_root_Wide F a0 a1 = true ∧ o_root_Wide_0 F a0 a1 = z0 ∧ o_root_Wide_1 F a0 a1 = z1 := by
  refine ⟨?_, ?_, ?_⟩
  · unfold ok_root_Wide; rw [h]; kernel_rfl
  · unfold o_root_Wide_0; rw [h]; kernel_rfl
  · unfold o_root_Wide_1; rw [h]; kernel_rfl
def s_root_Wide (F : Nat) : List VV → Option (Bool × VV) := spec ti_root_Wide to_root_Wide (fun q => (ok_root_Wide F (atI (nth q 0)) (atI (nth q 1)))) (fun q => [.i (o_root_Wide_0 F (atI (nth q 0)) (atI (nth q 1))), .b (o_root_Wide_1 F (atI (nth q 0)) (atI (nth q 1)))])
theorem hS_root_Wide (F : Nat) : ∀ f, Good PP f (unS (S_root_Wide F f)) := words_good fun p hp => by
  simp only [List.mem_cons, List.not_mem_nil, or_false] at hp
  rcases hp with rfl | rfl
  · exact g_root_Square F
  · exact g_wide_Less F
theorem hl_root_Wide (F : Nat) : ∀ p ∈ loopsIn PP 59, LoopOK PP (S_root_Wide F) c_root_Wide F (I_root_Wide F) p :=
  loops_of [(0, loopAt PP 59 0)] (by kernel_rfl) (all_cons
    (loop_ok (W_root_Wide F) rfl (tab_cons (fun _ k q => Le.ofEq ((lL_root_Wide_0 F k F (atI (nth q 0)) (atI (nth q 1)) (atI (nth q 2)) (atB (nth q 3)) (atI (nth q 4)) (atI (nth q 5)) (atI (nth q 6)) (atI (nth q 7))).symm.trans (congrArg (iterC (codeL PP (S_root_Wide F) c_root_Wide (I_root_Wide F) (loopAt PP 59 0) 0) (headOf c_root_Wide 0) k F) (show fS T_root_Wide_0 [.i (atI (nth q 0)), .i (atI (nth q 1)), .i (atI (nth q 2)), .b (atB (nth q 3)), .i (atI (nth q 4)), .i (atI (nth q 5)), .i (atI (nth q 6)), .i (atI (nth q 7))] = fS T_root_Wide_0 q by kernel_rfl)))) tab_nil)) all_nil)
theorem g_root_Wide (F : Nat) : Good PP 59 (unS (s_root_Wide F)) :=
  fun_spec (hS_root_Wide F) (by kernel_rfl) (by kernel_rfl) (C := c_root_Wide) (F := fun q => (f_root_Wide F (atI (nth q 0)) (atI (nth q 1)))) (fun _ => F) (fun _ => I_root_Wide F) (fun _ => hl_root_Wide F)
    (fun q => (congrArg (funL PP (S_root_Wide F) c_root_Wide (I_root_Wide F) 59) (show (fTs ti_root_Wide q).1 = (fTs ti_root_Wide [.i (atI (nth q 0)), .i (atI (nth q 1))]).1 by kernel_rfl)).trans (e_root_Wide F (atI (nth q 0)) (atI (nth q 1))))
    (fun _ h => (okT_fill h).trans (congrArg some (by kernel_rfl)))

end Go.Xv
set_option linter.unusedVariables false
namespace Go.Xv
/- 66 _ref04_Square -/
def c_ref04_Square : Cfg := ⟨[0, 2, 3, 4, 5, 6, 13, 20], [(0, [0, 2, 3, 4, 5, 6, 7, 8, 9, 10, 11, 27])], []⟩
def ti_ref04_Square : List TV := [.v (.int .u64)]
def to_ref04_Square : TV := .v (.agg [.int .i64, .int .u64])
def S_ref04_Square (F : Nat) : FuncId → List VV → Option (Bool × VV) := words [(105, s_ref01_Digits F), (51, s_ref01_Add F)]
def T_ref04_Square_0 : TS := ⟨[(0, .v (.int .u64)), (2, .lp 0 (.lit 0)), (3, .lp 1 (.lit 0)), (4, .lp 2 (.lit 0)), (5, .ls 3 (.lit 0) .hole 1), (6, .v (.int .i64))], [(0, ⟨(.ex [.v (.int .i64), .v (.int .u64)]), true⟩), (1, ⟨(.ex [.v (.int .i64), .v (.int .u64)]), true⟩), (2, ⟨(.ex [.v (.int .i64), .v (.int .u64)]), true⟩), (3, ⟨.hole, true⟩)], 4⟩
def T_ref04_Square_0_0 : TS := ⟨[(0, .v (.int .u64)), (2, .lp 0 (.lit 0)), (3, .lp 1 (.lit 0)), (4, .lp 2 (.lit 0)), (5, .ls 3 (.lit 0) .hole 1), (6, .v (.int .i64))], [(0, ⟨(.ex [.v (.int .i64), .v (.int .u64)]), true⟩), (1, ⟨(.ex [.v (.int .i64), .v (.int .u64)]), true⟩), (2, ⟨(.ex [.v (.int .i64), .v (.int .u64)]), true⟩), (3, ⟨.hole, true⟩)], 4⟩
def B_ref04_Square_0 (F : Nat) (rc : Int → Nat → Int → Int → Int → Int → Int → Int → Int → List VV → R) (ex0 : Int → Nat → Int → Int → Int → Int → Int → Int → Int → List VV → R) (x0 : Int) (x1 : Nat) (x2 : Int) (x3 : Int) (x4 : Int) (x5 : Int) (x6 : Int) (x7 : Int) (x8 : Int) (x9 : List VV) : R :=
  bif ((decide (x2 < 64))) then (
    bif ((decide (0 ≤ x2)) && (decide (x2 < ((x1 : Nat) : Int)))) then (
      let v1474 : Nat := (0 + ((Int.toNat x2) * 1))
      bif ((isI .i64 x9[v1474]?) && true) then (
        bif ((((iv x9[v1474]?)) == 1)) then (
          bif (ok_ref01_Add F x5 x6 x7 x8) then (
            bif (ok_ref01_Add F x7 x8 x7 x8) then (
              rc x0 x1 ((IntKind.wrap .i64 (x2 + 1))) x3 x4 ((o_ref01_Add_0 F x5 x6 x7 x8)) ((o_ref01_Add_1 F x5 x6 x7 x8)) ((o_ref01_Add_0 F x7 x8 x7 x8)) ((o_ref01_Add_1 F x7 x8 x7 x8)) x9)
            else (
              none))
          else (
            none))
        else (
          bif (ok_ref01_Add F x7 x8 x7 x8) then (
            rc x0 x1 ((IntKind.wrap .i64 (x2 + 1))) x3 x4 x5 x6 ((o_ref01_Add_0 F x7 x8 x7 x8)) ((o_ref01_Add_1 F x7 x8 x7 x8)) x9)
          else (
            none)))
      else (
        none))
    else (
      none))
  else (
    ex0 x0 x1 x2 x3 x4 x5 x6 x7 x8 x9)
def L_ref04_Square_0 (F : Nat) (ex0 : Int → Nat → Int → Int → Int → Int → Int → Int → Int → List VV → R) : Nat → Int → Nat → Int → Int → Int → Int → Int → Int → Int → List VV → R
  | 0, _, _, _, _, _, _, _, _, _, _ => none
  | n + 1, x0, x1, x2, x3, x4, x5, x6, x7, x8, x9 => B_ref04_Square_0 F (L_ref04_Square_0 F ex0 n) ex0 x0 x1 x2 x3 x4 x5 x6 x7 x8 x9
def W_ref04_Square (F : Nat) : List LW := [⟨0, T_ref04_Square_0, fun k q => L_ref04_Square_0 F (fun (z0 : Int) (z1 : Nat) (z2 : Int) (z3 : Int) (z4 : Int) (z5 : Int) (z6 : Int) (z7 : Int) (z8 : Int) (z9 : List VV) => k (.exit 0) (fS T_ref04_Square_0_0 [.i z0, .n z1, .i z2, .i z3, .i z4, .i z5, .i z6, .i z7, .i z8, .c z9])) F (atI (nth q 0)) (atN (nth q 1)) (atI (nth q 2)) (atI (nth q 3)) (atI (nth q 4)) (atI (nth q 5)) (atI (nth q 6)) (atI (nth q 7)) (atI (nth q 8)) (atC (nth q 9))⟩]
def I_ref04_Square (F : Nat) : Nat → VS → (Exit → VS → R) → R := tabI c_ref04_Square (W_ref04_Square F)
theorem lL_ref04_Square_0 (F : Nat) (k : Exit → VS → R) : ∀ (n : Nat) (x0 : Int) (x1 : Nat) (x2 : Int) (x3 : Int) (x4 : Int) (x5 : Int) (x6 : Int) (x7 : Int) (x8 : Int) (x9 : List VV), iterC (codeL PP (S_ref04_Square F) c_ref04_Square (I_ref04_Square F) (loopAt PP 66 0) 0) (headOf c_ref04_Square 0) k n (fS T_ref04_Square_0 [.i x0, .n x1, .i x2, .i x3, .i x4, .i x5, .i x6, .i x7, .i x8, .c x9]) = L_ref04_Square_0 F (fun (z0 : Int) (z1 : Nat) (z2 : Int) (z3 : Int) (z4 : Int) (z5 : Int) (z6 : Int) (z7 : Int) (z8 : Int) (z9 : List VV) => k (.exit 0) (fS T_ref04_Square_0_0 [.i z0, .n z1, .i z2, .i z3, .i z4, .i z5, .i z6, .i z7, .i z8, .c z9])) n x0 x1 x2 x3 x4 x5 x6 x7 x8 x9
  | 0, _, _, _, _, _, _, _, _, _, _ => rfl
  | n + 1, x0, x1, x2, x3, x4, x5, x6, x7, x8, x9 => by
    have h0 : ∀ (ok_ref01_Digits : Nat → Int → Int → Bool) (o_ref01_Digits_0 : Nat → Int → Int → List VV) (o_ref01_Digits_1 : Nat → Int → Int → Nat) (ok_ref01_Add : Nat → Int → Int → Int → Int → Bool) (o_ref01_Add_0 : Nat → Int → Int → Int → Int → Int) (o_ref01_Add_1 : Nat → Int → Int → Int → Int → Int) (L_ref04_Square_0 : Nat → (Int → Nat → Int → Int → Int → Int → Int → Int → Int → List VV → R) → Nat → Int → Nat → Int → Int → Int → Int → Int → Int → Int → List VV → R), iterC (codeL PP (words [(105, spec ti_ref01_Digits to_ref01_Digits (fun q => (ok_ref01_Digits F (atI (nth q 0)) (atI (nth q 1)))) (fun q => [.c (o_ref01_Digits_0 F (atI (nth q 0)) (atI (nth q 1))), .n (o_ref01_Digits_1 F (atI (nth q 0)) (atI (nth q 1)))])), (51, spec ti_ref01_Add to_ref01_Add (fun q => (ok_ref01_Add F (atI (nth q 0)) (atI (nth q 1)) (atI (nth q 2)) (atI (nth q 3)))) (fun q => [.i (o_ref01_Add_0 F (atI (nth q 0)) (atI (nth q 1)) (atI (nth q 2)) (atI (nth q 3))), .i (o_ref01_Add_1 F (atI (nth q 0)) (atI (nth q 1)) (atI (nth q 2)) (atI (nth q 3)))]))]) c_ref04_Square (tabI c_ref04_Square [⟨0, T_ref04_Square_0, fun k q => L_ref04_Square_0 F (fun (z0 : Int) (z1 : Nat) (z2 : Int) (z3 : Int) (z4 : Int) (z5 : Int) (z6 : Int) (z7 : Int) (z8 : Int) (z9 : List VV) => k (.exit 0) (fS T_ref04_Square_0_0 [.i z0, .n z1, .i z2, .i z3, .i z4, .i z5, .i z6, .i z7, .i z8, .c z9])) F (atI (nth q 0)) (atN (nth q 1)) (atI (nth q 2)) (atI (nth q 3)) (atI (nth q 4)) (atI (nth q 5)) (atI (nth q 6)) (atI (nth q 7)) (atI (nth q 8)) (atC (nth q 9))⟩]) (loopAt PP 66 0) 0) (headOf c_ref04_Square 0) k (n + 1) (fS T_ref04_Square_0 [.i x0, .n x1, .i x2, .i x3, .i x4, .i x5, .i x6, .i x7, .i x8, .c x9]) = (fun (rc : Int → Nat → Int → Int → Int → Int → Int → Int → Int → List VV → R) (ex0 : Int → Nat → Int → Int → Int → Int → Int → Int → Int → List VV → R) (x0 : Int) (x1 : Nat) (x2 : Int) (x3 : Int) (x4 : Int) (x5 : Int) (x6 : Int) (x7 : Int) (x8 : Int) (x9 : List VV) => (
  bif ((decide (x2 < 64))) then (
    bif ((decide (0 ≤ x2)) && (decide (x2 < ((x1 : Nat) : Int)))) then (
      let v1474 : Nat := (0 + ((Int.toNat x2) * 1))
      bif ((isI .i64 x9[v1474]?) && true) then (
        bif ((((iv x9[v1474]?)) == 1)) then (
          bif (ok_ref01_Add F x5 x6 x7 x8) then (
            bif (ok_ref01_Add F x7 x8 x7 x8) then (
              rc x0 x1 ((IntKind.wrap .i64 (x2 + 1))) x3 x4 ((o_ref01_Add_0 F x5 x6 x7 x8)) ((o_ref01_Add_1 F x5 x6 x7 x8)) ((o_ref01_Add_0 F x7 x8 x7 x8)) ((o_ref01_Add_1 F x7 x8 x7 x8)) x9)
            else (
              none))
          else (
            none))
        else (
          bif (ok_ref01_Add F x7 x8 x7 x8) then (
            rc x0 x1 ((IntKind.wrap .i64 (x2 + 1))) x3 x4 x5 x6 ((o_ref01_Add_0 F x7 x8 x7 x8)) ((o_ref01_Add_1 F x7 x8 x7 x8)) x9)
          else (
            none)))
      else (
        none))
    else (
      none))
  else (
    ex0 x0 x1 x2 x3 x4 x5 x6 x7 x8 x9) : R)) (fun (y0 : Int) (y1 : Nat) (y2 : Int) (y3 : Int) (y4 : Int) (y5 : Int) (y6 : Int) (y7 : Int) (y8 : Int) (y9 : List VV) => iterC (codeL PP (words [(105, spec ti_ref01_Digits to_ref01_Digits (fun q => (ok_ref01_Digits F (atI (nth q 0)) (atI (nth q 1)))) (fun q => [.c (o_ref01_Digits_0 F (atI (nth q 0)) (atI (nth q 1))), .n (o_ref01_Digits_1 F (atI (nth q 0)) (atI (nth q 1)))])), (51, spec ti_ref01_Add to_ref01_Add (fun q => (ok_ref01_Add F (atI (nth q 0)) (atI (nth q 1)) (atI (nth q 2)) (atI (nth q 3)))) (fun q => [.i (o_ref01_Add_0 F (atI (nth q 0)) (atI (nth q 1)) (atI (nth q 2)) (atI (nth q 3))), .i (o_ref01_Add_1 F (atI (nth q 0)) (atI (nth q 1)) (atI (nth q 2)) (atI (nth q 3)))]))]) c_ref04_Square (tabI c_ref04_Square [⟨0, T_ref04_Square_0, fun k q => L_ref04_Square_0 F (fun (z0 : Int) (z1 : Nat) (z2 : Int) (z3 : Int) (z4 : Int) (z5 : Int) (z6 : Int) (z7 : Int) (z8 : Int) (z9 : List VV) => k (.exit 0) (fS T_ref04_Square_0_0 [.i z0, .n z1, .i z2, .i z3, .i z4, .i z5, .i z6, .i z7, .i z8, .c z9])) F (atI (nth q 0)) (atN (nth q 1)) (atI (nth q 2)) (atI (nth q 3)) (atI (nth q 4)) (atI (nth q 5)) (atI (nth q 6)) (atI (nth q 7)) (atI (nth q 8)) (atC (nth q 9))⟩]) (loopAt PP 66 0) 0) (headOf c_ref04_Square 0) k n (fS T_ref04_Square_0 [.i y0, .n y1, .i y2, .i y3, .i y4, .i y5, .i y6, .i y7, .i y8, .c y9])) (fun (z0 : Int) (z1 : Nat) (z2 : Int) (z3 : Int) (z4 : Int) (z5 : Int) (z6 : Int) (z7 : Int) (z8 : Int) (z9 : List VV) => k (.exit 0) (fS T_ref04_Square_0_0 [.i z0, .n z1, .i z2, .i z3, .i z4, .i z5, .i z6, .i z7, .i z8, .c z9])) x0 x1 x2 x3 x4 x5 x6 x7 x8 x9 := by
      intros
      kernel_rfl
    have h : iterC (codeL PP (S_ref04_Square F) c_ref04_Square (I_ref04_Square F) (loopAt PP 66 0) 0) (headOf c_ref04_Square 0) k (n + 1) (fS T_ref04_Square_0 [.i x0, .n x1, .i x2, .i x3, .i x4, .i x5, .i x6, .i x7, .i x8, .c x9]) = B_ref04_Square_0 F (fun (y0 : Int) (y1 : Nat) (y2 : Int) (y3 : Int) (y4 : Int) (y5 : Int) (y6 : Int) (y7 : Int) (y8 : Int) (y9 : List VV) => iterC (codeL PP (S_ref04_Square F) c_ref04_Square (I_ref04_Square F) (loopAt PP 66 0) 0) (headOf c_ref04_Square 0) k n (fS T_ref04_Square_0 [.i y0, .n y1, .i y2, .i y3, .i y4, .i y5, .i y6, .i y7, .i y8, .c y9])) (fun (z0 : Int) (z1 : Nat) (z2 : Int) (z3 : Int) (z4 : Int) (z5 : Int) (z6 : Int) (z7 : Int) (z8 : Int) (z9 : List VV) => k (.exit 0) (fS T_ref04_Square_0_0 [.i z0, .n z1, .i z2, .i z3, .i z4, .i z5, .i z6, .i z7, .i z8, .c z9])) x0 x1 x2 x3 x4 x5 x6 x7 x8 x9 := (h0 ok_ref01_Digits o_ref01_Digits_0 o_ref01_Digits_1 ok_ref01_Add o_ref01_Add_0 o_ref01_Add_1 L_ref04_Square_0).trans (by kernel_rfl)
    rw [h]
    simp only [lL_ref04_Square_0 F k n]
    rfl
def f_ref04_Square (F : Nat) (a0 : Int) : R :=
  bif (ok_ref01_Digits F 0 a0) then (
    L_ref04_Square_0 F (fun (v1485 : Int) (v1486 : Nat) (v1487 : Int) (v1488 : Int) (v1489 : Int) (v1490 : Int) (v1491 : Int) (v1492 : Int) (v1493 : Int) (v1494 : List VV) =>
      some (.v (.agg #[.int .i64 v1490, .int .u64 v1491]))) F a0 ((o_ref01_Digits_1 F 0 a0)) 0 0 0 0 0 0 a0 ((o_ref01_Digits_0 F 0 a0)))
  else (
    none)
theorem e_ref04_Square (F : Nat) (a0 : Int) : funL PP (S_ref04_Square F) c_ref04_Square (I_ref04_Square F) 66 (fTs ti_ref04_Square [.i a0]).1 = f_ref04_Square F a0 := by
  have h : ∀ (ok_ref01_Digits : Nat → Int → Int → Bool) (o_ref01_Digits_0 : Nat → Int → Int → List VV) (o_ref01_Digits_1 : Nat → Int → Int → Nat) (ok_ref01_Add : Nat → Int → Int → Int → Int → Bool) (o_ref01_Add_0 : Nat → Int → Int → Int → Int → Int) (o_ref01_Add_1 : Nat → Int → Int → Int → Int → Int) (L_ref04_Square_0 : Nat → (Int → Nat → Int → Int → Int → Int → Int → Int → Int → List VV → R) → Nat → Int → Nat → Int → Int → Int → Int → Int → Int → Int → List VV → R), funL PP (words [(105, spec ti_ref01_Digits to_ref01_Digits (fun q => (ok_ref01_Digits F (atI (nth q 0)) (atI (nth q 1)))) (fun q => [.c (o_ref01_Digits_0 F (atI (nth q 0)) (atI (nth q 1))), .n (o_ref01_Digits_1 F (atI (nth q 0)) (atI (nth q 1)))])), (51, spec ti_ref01_Add to_ref01_Add (fun q => (ok_ref01_Add F (atI (nth q 0)) (atI (nth q 1)) (atI (nth q 2)) (atI (nth q 3)))) (fun q => [.i (o_ref01_Add_0 F (atI (nth q 0)) (atI (nth q 1)) (atI (nth q 2)) (atI (nth q 3))), .i (o_ref01_Add_1 F (atI (nth q 0)) (atI (nth q 1)) (atI (nth q 2)) (atI (nth q 3)))]))]) c_ref04_Square (tabI c_ref04_Square [⟨0, T_ref04_Square_0, fun k q => L_ref04_Square_0 F (fun (z0 : Int) (z1 : Nat) (z2 : Int) (z3 : Int) (z4 : Int) (z5 : Int) (z6 : Int) (z7 : Int) (z8 : Int) (z9 : List VV) => k (.exit 0) (fS T_ref04_Square_0_0 [.i z0, .n z1, .i z2, .i z3, .i z4, .i z5, .i z6, .i z7, .i z8, .c z9])) F (atI (nth q 0)) (atN (nth q 1)) (atI (nth q 2)) (atI (nth q 3)) (atI (nth q 4)) (atI (nth q 5)) (atI (nth q 6)) (atI (nth q 7)) (atI (nth q 8)) (atC (nth q 9))⟩]) 66 (fTs ti_ref04_Square [.i a0]).1 = (
  bif (ok_ref01_Digits F 0 a0) then (
    L_ref04_Square_0 F (fun (v1485 : Int) (v1486 : Nat) (v1487 : Int) (v1488 : Int) (v1489 : Int) (v1490 : Int) (v1491 : Int) (v1492 : Int) (v1493 : Int) (v1494 : List VV) =>
      some (.v (.agg #[.int .i64 v1490, .int .u64 v1491]))) F a0 ((o_ref01_Digits_1 F 0 a0)) 0 0 0 0 0 0 a0 ((o_ref01_Digits_0 F 0 a0)))
  else (
    none) : R) := by
    intros
    kernel_rfl
  exact (h ok_ref01_Digits o_ref01_Digits_0 o_ref01_Digits_1 ok_ref01_Add o_ref01_Add_0 o_ref01_Add_1 L_ref04_Square_0).trans (by kernel_rfl)
def ok_ref04_Square (F : Nat) (a0 : Int) : Bool := okT to_ref04_Square (f_ref04_Square F a0)
def o_ref04_Square_0 (F : Nat) (a0 : Int) : Int := atI (nth (outT to_ref04_Square (f_ref04_Square F a0)) 0)
def o_ref04_Square_1 (F : Nat) (a0 : Int) : Int := atI (nth (outT to_ref04_Square (f_ref04_Square F a0)) 1)
theorem k_ref04_Square (F : Nat) (a0 : Int) {z0 : Int} {z1 : Int} (h : f_ref04_Square F a0 = some (.v (.agg #[.int .i64 z0, .int .u64 z1]))) : ok_ref04_Square F a0 = true ∧ o_ref04_Square_0 F a0 = z0 ∧ o_ref04_Square_1 F a0 = z1 := by
  refine ⟨?_, ?_, ?_⟩
  · unfold ok_ref04_Square; rw [h]; kernel_rfl
  · unfold o_ref04_Square_0; rw [h]; kernel_rfl
  · unfold o_ref04_Square_1; rw [h]; kernel_rfl
def s_ref04_Square (F : Nat) : List VV → Option (Bool × VV) := spec ti_ref04_Square to_ref04_Square (fun q => (ok_ref04_Square F (atI (nth q 0)))) (fun q => [.i (o_ref04_Square_0 F (atI (nth q 0))), .i (o_ref04_Square_1 F (atI (nth q 0)))])
theorem hS_ref04_Square (F : Nat) : ∀ f, Good PP f (unS (S_ref04_Square F f)) := words_good fun p hp => by
  simp only [List.mem_cons, List.not_mem_nil, or_false] at hp
  rcases hp with rfl | rfl
  · exact g_ref01_Digits F
  · exact g_ref01_Add F
theorem hl_ref04_Square (F : Nat) : ∀ p ∈ loopsIn PP 66, LoopOK PP (S_ref04_Square F) c_ref04_Square F (I_ref04_Square F) p :=
  loops_of [(0, loopAt PP 66 0)] (by kernel_rfl) (all_cons
    (loop_ok (W_ref04_Square F) rfl (tab_cons (fun _ k q => Le.ofEq ((lL_ref04_Square_0 F k F (atI (nth q 0)) (atN (nth q 1)) (atI (nth q 2)) (atI (nth q 3)) (atI (nth q 4)) (atI (nth q 5)) (atI (nth q 6)) (atI (nth q 7)) (atI (nth q 8)) (atC (nth q 9))).symm.trans (congrArg (iterC (codeL PP (S_ref04_Square F) c_ref04_Square (I_ref04_Square F) (loopAt PP 66 0) 0) (headOf c_ref04_Square 0) k F) (show fS T_ref04_Square_0 [.i (atI (nth q 0)), .n (atN (nth q 1)), .i (atI (nth q 2)), .i (atI (nth q 3)), .i (atI (nth q 4)), .i (atI (nth q 5)), .i (atI (nth q 6)), .i (atI (nth q 7)), .i (atI (nth q 8)), .c (atC (nth q 9))] = fS T_ref04_Square_0 q by kernel_rfl)))) tab_nil)) all_nil)
theorem g_ref04_Square (F : Nat) : Good PP 66 (unS (s_ref04_Square F)) :=
  fun_spec (hS_ref04_Square F) (by kernel_rfl) (by kernel_rfl) (C := c_ref04_Square) (F := fun q => (f_ref04_Square F (atI (nth q 0)))) (fun _ => F) (fun _ => I_ref04_Square F) (fun _ => hl_ref04_Square F)
    (fun q => (congrArg (funL PP (S_ref04_Square F) c_ref04_Square (I_ref04_Square F) 66) (show (fTs ti_ref04_Square q).1 = (fTs ti_ref04_Square [.i (atI (nth q 0))]).1 by kernel_rfl)).trans (e_ref04_Square F (atI (nth q 0))))
    (fun _ h => (okT_fill h).trans (congrArg some (by kernel_rfl)))

end Go.Xv
set_option linter.unusedVariables false
namespace Go.Xv
/- 60 _ref04_Wide -/
def c_ref04_Wide : Cfg := ⟨[0, 1, 2, 3, 4, 5, 6, 7, 10, 17, 34], [(0, [0, 1, 2, 3, 4, 5, 6, 8, 9, 10, 38])], []⟩
def ti_ref04_Wide : List TV := [.v (.agg [.int .i64, .int .u64])]
def to_ref04_Wide : TV := .v (.tup [.int .u64, .bool])
def S_ref04_Wide (F : Nat) : FuncId → List VV → Option (Bool × VV) := words [(66, s_ref04_Square F), (56, s_ref01_Less F)]
def T_ref04_Wide_0 : TS := ⟨[(0, .v (.agg [.int .i64, .int .u64])), (1, .lp 0 (.lit 0)), (2, .v (.int .u64)), (3, .v (.bool)), (4, .v (.int .u64)), (5, .v (.int .u64)), (6, .v (.int .i64))], [(0, ⟨(.ex [.v (.int .i64), .v (.int .u64)]), true⟩)], 1⟩
def T_ref04_Wide_0_0 : TS := ⟨[(0, .v (.agg [.int .i64, .int .u64])), (1, .lp 0 (.lit 0)), (2, .v (.int .u64)), (3, .v (.bool)), (4, .v (.int .u64)), (5, .v (.int .u64)), (6, .v (.int .i64))], [(0, ⟨(.ex [.v (.int .i64), .v (.int .u64)]), true⟩)], 1⟩
def B_ref04_Wide_0 (F : Nat) (rc : Int → Int → Int → Bool → Int → Int → Int → Int → Int → R) (ex0 : Int → Int → Int → Bool → Int → Int → Int → Int → Int → R) (x0 : Int) (x1 : Int) (x2 : Int) (x3 : Bool) (x4 : Int) (x5 : Int) (x6 : Int) (x7 : Int) (x8 : Int) : R :=
  bif ((decide (x6 < 65))) then (
    bif ((decide (x4 < x5))) then (
      let v1460 : Int := (IntKind.wrap .u64 (((IntKind.wrap .u64 (x4 + ((IntKind.wrap .u64 (Int.tdiv ((IntKind.wrap .u64 (x5 - x4))) 2)))))) + ((Int.tmod ((IntKind.wrap .u64 (x5 - x4))) 2))))
      bif (ok_ref04_Square F v1460) then (
        let v1495 : Int := (o_ref04_Square_0 F v1460)
        let v1496 : Int := (o_ref04_Square_1 F v1460)
        bif (ok_ref01_Less F x7 x8 v1495 v1496) then (
          bif ((o_ref01_Less_0 F x7 x8 v1495 v1496)) then (
            rc x0 x1 x2 x3 x4 ((IntKind.wrap .u64 (v1460 - 1))) ((IntKind.wrap .i64 (x6 + 1))) x7 x8)
          else (
            rc x0 x1 x2 x3 v1460 x5 ((IntKind.wrap .i64 (x6 + 1))) x7 x8))
        else (
          none))
      else (
        none))
    else (
      ex0 x0 x1 x2 x3 x4 x5 x6 x7 x8))
  else (
    ex0 x0 x1 x2 x3 x4 x5 x6 x7 x8)
def L_ref04_Wide_0 (F : Nat) (ex0 : Int → Int → Int → Bool → Int → Int → Int → Int → Int → R) : Nat → Int → Int → Int → Bool → Int → Int → Int → Int → Int → R
  | 0, _, _, _, _, _, _, _, _, _ => none
  | n + 1, x0, x1, x2, x3, x4, x5, x6, x7, x8 => B_ref04_Wide_0 F (L_ref04_Wide_0 F ex0 n) ex0 x0 x1 x2 x3 x4 x5 x6 x7 x8
def W_ref04_Wide (F : Nat) : List LW := [⟨0, T_ref04_Wide_0, fun k q => L_ref04_Wide_0 F (fun (z0 : Int) (z1 : Int) (z2 : Int) (z3 : Bool) (z4 : Int) (z5 : Int) (z6 : Int) (z7 : Int) (z8 : Int) => k (.exit 0) (fS T_ref04_Wide_0_0 [.i z0, .i z1, .i z2, .b z3, .i z4, .i z5, .i z6, .i z7, .i z8])) F (atI (nth q 0)) (atI (nth q 1)) (atI (nth q 2)) (atB (nth q 3)) (atI (nth q 4)) (atI (nth q 5)) (atI (nth q 6)) (atI (nth q 7)) (atI (nth q 8))⟩]
def I_ref04_Wide (F : Nat) : Nat → VS → (Exit → VS → R) → R := tabI c_ref04_Wide (W_ref04_Wide F)
theorem lL_ref04_Wide_0 (F : Nat) (k : Exit → VS → R) : ∀ (n : Nat) (x0 : Int) (x1 : Int) (x2 : Int) (x3 : Bool) (x4 : Int) (x5 : Int) (x6 : Int) (x7 : Int) (x8 : Int), iterC (codeL PP (S_ref04_Wide F) c_ref04_Wide (I_ref04_Wide F) (loopAt PP 60 0) 0) (headOf c_ref04_Wide 0) k n (fS T_ref04_Wide_0 [.i x0, .i x1, .i x2, .b x3, .i x4, .i x5, .i x6, .i x7, .i x8]) = L_ref04_Wide_0 F (fun (z0 : Int) (z1 : Int) (z2 : Int) (z3 : Bool) (z4 : Int) (z5 : Int) (z6 : Int) (z7 : Int) (z8 : Int) => k (.exit 0) (fS T_ref04_Wide_0_0 [.i z0, .i z1, .i z2, .b z3, .i z4, .i z5, .i z6, .i z7, .i z8])) n x0 x1 x2 x3 x4 x5 x6 x7 x8
  | 0, _, _, _, _, _, _, _, _, _ => rfl
  | n + 1, x0, x1, x2, x3, x4, x5, x6, x7, x8 => by
    have h0 : ∀ (ok_ref04_Square : Nat → Int → Bool) (o_ref04_Square_0 : Nat → Int → Int) (o_ref04_Square_1 : Nat → Int → Int) (ok_ref01_Less : Nat → Int → Int → Int → Int → Bool) (o_ref01_Less_0 : Nat → Int → Int → Int → Int → Bool) (L_ref04_Wide_0 : Nat → (Int → Int → Int → Bool → Int → Int → Int → Int → Int → R) → Nat → Int → Int → Int → Bool → Int → Int → Int → Int → Int → R), iterC (codeL PP (words [(66, spec ti_ref04_Square to_ref04_Square (fun q => (ok_ref04_Square F (atI (nth q 0)))) (fun q => [.i (o_ref04_Square_0 F (atI (nth q 0))), .i (o_ref04_Square_1 F (atI (nth q 0)))])), (56, spec ti_ref01_Less to_ref01_Less (fun q => (ok_ref01_Less F (atI (nth q 0)) (atI (nth q 1)) (atI (nth q 2)) (atI (nth q 3)))) (fun q => [.b (o_ref01_Less_0 F (atI (nth q 0)) (atI (nth q 1)) (atI (nth q 2)) (atI (nth q 3)))]))]) c_ref04_Wide (tabI c_ref04_Wide [⟨0, T_ref04_Wide_0, fun k q => L_ref04_Wide_0 F (fun (z0 : Int) (z1 : Int) (z2 : Int) (z3 : Bool) (z4 : Int) (z5 : Int) (z6 : Int) (z7 : Int) (z8 : Int) => k (.exit 0) (fS T_ref04_Wide_0_0 [.i z0, .i z1, .i z2, .b z3, .i z4, .i z5, .i z6, .i z7, .i z8])) F (atI (nth q 0)) (atI (nth q 1)) (atI (nth q 2)) (atB (nth q 3)) (atI (nth q 4)) (atI (nth q 5)) (atI (nth q 6)) (atI (nth q 7)) (atI (nth q 8))⟩]) (loopAt PP 60 0) 0) (headOf c_ref04_Wide 0) k (n + 1) (fS T_ref04_Wide_0 [.i x0, .i x1, .i x2, .b x3, .i x4, .i x5, .i x6, .i x7, .i x8]) = (fun (rc : Int → Int → Int → Bool → Int → Int → Int → Int → Int → R) (ex0 : Int → Int → Int → Bool → Int → Int → Int → Int → Int → R) (x0 : Int) (x1 : Int) (x2 : Int) (x3 : Bool) (x4 : Int) (x5 : Int) (x6 : Int) (x7 : Int) (x8 : Int) => (
  bif ((decide (x6 < 65))) then (
    bif ((decide (x4 < x5))) then (
      let v1460 : Int := (IntKind.wrap .u64 (((IntKind.wrap .u64 (x4 + ((IntKind.wrap .u64 (Int.tdiv ((IntKind.wrap .u64 (x5 - x4))) 2)))))) + ((Int.tmod ((IntKind.wrap .u64 (x5 - x4))) 2))))
      bif (ok_ref04_Square F v1460) then (
        let v1495 : Int := (o_ref04_Square_0 F v1460)
        let v1496 : Int := (o_ref04_Square_1 F v1460)
        bif (ok_ref01_Less F x7 x8 v1495 v1496) then (
          bif ((o_ref01_Less_0 F x7 x8 v1495 v1496)) then (
            rc x0 x1 x2 x3 x4 ((IntKind.wrap .u64 (v1460 - 1))) ((IntKind.wrap .i64 (x6 + 1))) x7 x8)
          else (
            rc x0 x1 x2 x3 v1460 x5 ((IntKind.wrap .i64 (x6 + 1))) x7 x8))
        else (
          none))
      else (
        none))
    else (
      ex0 x0 x1 x2 x3 x4 x5 x6 x7 x8))
  else (
    ex0 x0 x1 x2 x3 x4 x5 x6 x7 x8) : R)) (fun (y0 : Int) (y1 : Int) (y2 : Int) (y3 : Bool) (y4 : Int) (y5 : Int) (y6 : Int) (y7 : Int) (y8 : Int) => iterC (codeL PP (words [(66, spec ti_ref04_Square to_ref04_Square (fun q => (ok_ref04_Square F (atI (nth q 0)))) (fun q => [.i (o_ref04_Square_0 F (atI (nth q 0))), .i (o_ref04_Square_1 F (atI (nth q 0)))])), (56, spec ti_ref01_Less to_ref01_Less (fun q => (ok_ref01_Less F (atI (nth q 0)) (atI (nth q 1)) (atI (nth q 2)) (atI (nth q 3)))) (fun q => [.b (o_ref01_Less_0 F (atI (nth q 0)) (atI (nth q 1)) (atI (nth q 2)) (atI (nth q 3)))]))]) c_ref04_Wide (tabI c_ref04_Wide [⟨0, T_ref04_Wide_0, fun k q => L_ref04_Wide_0 F (fun (z0 : Int) (z1 : Int) (z2 : Int) (z3 : Bool) (z4 : Int) (z5 : Int) (z6 : Int) (z7 : Int) (z8 : Int) => k (.exit 0) (fS T_ref04_Wide_0_0 [.i z0, .i z1, .i z2, .b z3, .i z4, .i z5, .i z6, .i z7, .i z8])) F (atI (nth q 0)) (atI (nth q 1)) (atI (nth q 2)) (atB (nth q 3)) (atI (nth q 4)) (atI (nth q 5)) (atI (nth q 6)) (atI (nth q 7)) (atI (nth q 8))⟩]) (loopAt PP 60 0) 0) (headOf c_ref04_Wide 0) k n (fS T_ref04_Wide_0 [.i y0, .i y1, .i y2, .b y3, .i y4, .i y5, .i y6, .i y7, .i y8])) (fun (z0 : Int) (z1 : Int) (z2 : Int) (z3 : Bool) (z4 : Int) (z5 : Int) (z6 : Int) (z7 : Int) (z8 : Int) => k (.exit 0) (fS T_ref04_Wide_0_0 [.i z0, .i z1, .i z2, .b z3, .i z4, .i z5, .i z6, .i z7, .i z8])) x0 x1 x2 x3 x4 x5 x6 x7 x8 := by
      intros
      kernel_rfl
    have h : iterC (codeL PP (S_ref04_Wide F) c_ref04_Wide (I_ref04_Wide F) (loopAt PP 60 0) 0) (headOf c_ref04_Wide 0) k (n + 1) (fS T_ref04_Wide_0 [.i x0, .i x1, .i x2, .b x3, .i x4, .i x5, .i x6, .i x7, .i x8]) = B_ref04_Wide_0 F (fun (y0 : Int) (y1 : Int) (y2 : Int) (y3 : Bool) (y4 : Int) (y5 : Int) (y6 : Int) (y7 : Int) (y8 : Int) => iterC (codeL PP (S_ref04_Wide F) c_ref04_Wide (I_ref04_Wide F) (loopAt PP 60 0) 0) (headOf c_ref04_Wide 0) k n (fS T_ref04_Wide_0 [.i y0, .i y1, .i y2, .b y3, .i y4, .i y5, .i y6, .i y7, .i y8])) (fun (z0 : Int) (z1 : Int) (z2 : Int) (z3 : Bool) (z4 : Int) (z5 : Int) (z6 : Int) (z7 : Int) (z8 : Int) => k (.exit 0) (fS T_ref04_Wide_0_0 [.i z0, .i z1, .i z2, .b z3, .i z4, .i z5, .i z6, .i z7, .i z8])) x0 x1 x2 x3 x4 x5 x6 x7 x8 := (h0 ok_ref04_Square o_ref04_Square_0 o_ref04_Square_1 ok_ref01_Less o_ref01_Less_0 L_ref04_Wide_0).trans (by kernel_rfl)
    rw [h]
    simp only [lL_ref04_Wide_0 F k n]
    rfl
def f_ref04_Wide (F : Nat) (a0 : Int) (a1 : Int) : R :=
  bif ((decide (a0 < 0))) then (
    some (.v (.tuple #[.int .u64 0, .bool false])))
  else (
    L_ref04_Wide_0 F (fun (v1501 : Int) (v1502 : Int) (v1503 : Int) (v1504 : Bool) (v1505 : Int) (v1506 : Int) (v1507 : Int) (v1508 : Int) (v1509 : Int) =>
      some (.v (.tuple #[.int .u64 v1505, .bool true]))) F a0 a1 0 false 0 13043817825332782212 0 a0 a1)
theorem e_ref04_Wide (F : Nat) (a0 : Int) (a1 : Int) : funL PP (S_ref04_Wide F) c_ref04_Wide (I_ref04_Wide F) 60 (fTs ti_ref04_Wide [.i a0, .i a1]).1 = f_ref04_Wide F a0 a1 := by
  have h : ∀ (ok_ref04_Square : Nat → Int → Bool) (o_ref04_Square_0 : Nat → Int → Int) (o_ref04_Square_1 : Nat → Int → Int) (ok_ref01_Less : Nat → Int → Int → Int → Int → Bool) (o_ref01_Less_0 : Nat → Int → Int → Int → Int → Bool) (L_ref04_Wide_0 : Nat → (Int → Int → Int → Bool → Int → Int → Int → Int → Int → R) → Nat → Int → Int → Int → Bool → Int → Int → Int → Int → Int → R), funL PP (words [(66, spec ti_ref04_Square to_ref04_Square (fun q => (ok_ref04_Square F (atI (nth q 0)))) (fun q => [.i (o_ref04_Square_0 F (atI (nth q 0))), .i (o_ref04_Square_1 F (atI (nth q 0)))])), (56, spec ti_ref01_Less to_ref01_Less (fun q => (ok_ref01_Less F (atI (nth q 0)) (atI (nth q 1)) (atI (nth q 2)) (atI (nth q 3)))) (fun q => [.b (o_ref01_Less_0 F (atI (nth q 0)) (atI (nth q 1)) (atI (nth q 2)) (atI (nth q 3)))]))]) c_ref04_Wide (tabI c_ref04_Wide [⟨0, T_ref04_Wide_0, fun k q => L_ref04_Wide_0 F (fun (z0 : Int) (z1 : Int) (z2 : Int) (z3 : Bool) (z4 : Int) (z5 : Int) (z6 : Int) (z7 : Int) (z8 : Int) => k (.exit 0) (fS T_ref04_Wide_0_0 [.i z0, .i z1, .i z2, .b z3, .i z4, .i z5, .i z6, .i z7, .i z8])) F (atI (nth q 0)) (atI (nth q 1)) (atI (nth q 2)) (atB (nth q 3)) (atI (nth q 4)) (atI (nth q 5)) (atI (nth q 6)) (atI (nth q 7)) (atI (nth q 8))⟩]) 60 (fTs ti_ref04_Wide [.i a0, .i a1]).1 = (
  bif ((decide (a0 < 0))) then (
    some (.v (.tuple #[.int .u64 0, .bool false])))
  else (
    L_ref04_Wide_0 F (fun (v1501 : Int) (v1502 : Int) (v1503 : Int) (v1504 : Bool) (v1505 : Int) (v1506 : Int) (v1507 : Int) (v1508 : Int) (v1509 : Int) =>
      some (.v (.tuple #[.int .u64 v1505, .bool true]))) F a0 a1 0 false 0 13043817825332782212 0 a0 a1) : R) := by
    intros
    kernel_rfl
  exact (h ok_ref04_Square o_ref04_Square_0 o_ref04_Square_1 ok_ref01_Less o_ref01_Less_0 L_ref04_Wide_0).trans (by kernel_rfl)
def ok_ref04_Wide (F : Nat) (a0 : Int) (a1 : Int) : Bool := okT to_ref04_Wide (f_ref04_Wide F a0 a1)
def o_ref04_Wide_0 (F : Nat) (a0 : Int) (a1 : Int) : Int := atI (nth (outT to_ref04_Wide (f_ref04_Wide F a0 a1)) 0)
def o_ref04_Wide_1 (F : Nat) (a0 : Int) (a1 : Int) : Bool := atB (nth (outT to_ref04_Wide (f_ref04_Wide F a0 a1)) 1)
theorem k_ref04_Wide (F : Nat) (a0 : Int) (a1 : Int) {z0 : Int} {z1 : Bool} (h : f_ref04_Wide F a0 a1 = some (.v (.tuple #[.int .u64 z0, .bool z1]))) : ok_ref04_Wide F a0 a1 = true ∧ o_ref04_Wide_0 F a0 a1 = z0 ∧ o_ref04_Wide_1 F a0 a1 = z1 := by
  refine ⟨?_, ?_, ?_⟩
  · unfold ok_ref04_Wide; rw [h]; kernel_rfl
  · unfold o_ref04_Wide_0; rw [h]; kernel_rfl
  · unfold o_ref04_Wide_1; rw [h]; kernel_rfl
def s_ref04_Wide (F : Nat) : List VV → Option (Bool × VV) := spec ti_ref04_Wide to_ref04_Wide (fun q => (ok_ref04_Wide F (atI (nth q 0)) (atI (nth q 1)))) (fun q => [.i (o_ref04_Wide_0 F (atI (nth q 0)) (atI (nth q 1))), .b (o_ref04_Wide_1 F (atI (nth q 0)) (atI (nth q 1)))])
theorem hS_ref04_Wide (F : Nat) : ∀ f, Good PP f (unS (S_ref04_Wide F f)) := words_good fun p hp => by
  simp only [List.mem_cons, List.not_mem_nil, or_false] at hp
  rcases hp with rfl | rfl
  · exact g_ref04_Square F
  · exact g_ref01_Less F
theorem hl_ref04_Wide (F : Nat) : ∀ p ∈ loopsIn PP 60, LoopOK PP (S_ref04_Wide F) c_ref04_Wide F (I_ref04_Wide F) p :=
  loops_of [(0, loopAt PP 60 0)] (by kernel_rfl) (all_cons
    (loop_ok (W_ref04_Wide F) rfl (tab_cons (fun _ k q => Le.ofEq ((lL_ref04_Wide_0 F k F (atI (nth q 0)) (atI (nth q 1)) (atI (nth q 2)) (atB (nth q 3)) (atI (nth q 4)) (atI (nth q 5)) (atI (nth q 6)) (atI (nth q 7)) (atI (nth q 8))).symm.trans (congrArg (iterC (codeL PP (S_ref04_Wide F) c_ref04_Wide (I_ref04_Wide F) (loopAt PP 60 0) 0) (headOf c_ref04_Wide 0) k F) (show fS T_ref04_Wide_0 [.i (atI (nth q 0)), .i (atI (nth q 1)), .i (atI (nth q 2)), .b (atB (nth q 3)), .i (atI (nth q 4)), .i (atI (nth q 5)), .i (atI (nth q 6)), .i (atI (nth q 7)), .i (atI (nth q 8))] = fS T_ref04_Wide_0 q by kernel_rfl)))) tab_nil)) all_nil)
theorem g_ref04_Wide (F : Nat) : Good PP 60 (unS (s_ref04_Wide F)) :=
  fun_spec (hS_ref04_Wide F) (by kernel_rfl) (by kernel_rfl) (C := c_ref04_Wide) (F := fun q => (f_ref04_Wide F (atI (nth q 0)) (atI (nth q 1)))) (fun _ => F) (fun _ => I_ref04_Wide F) (fun _ => hl_ref04_Wide F)
    (fun q => (congrArg (funL PP (S_ref04_Wide F) c_ref04_Wide (I_ref04_Wide F) 60) (show (fTs ti_ref04_Wide q).1 = (fTs ti_ref04_Wide [.i (atI (nth q 0)), .i (atI (nth q 1))]).1 by kernel_rfl)).trans (e_ref04_Wide F (atI (nth q 0)) (atI (nth q 1))))
    (fun _ h => (okT_fill h).trans (congrArg some (by kernel_rfl)))

end Go.Xv
set_option linter.unusedVariables false
namespace Go.Xv
/- 61 _root_Fix -/
def c_root_Fix : Cfg := ⟨[0, 2, 3, 4, 5], [], []⟩
def ti_root_Fix : List TV := [.v (.int .i64)]
def to_root_Fix : TV := .v (.tup [.int .i64, .bool])
def S_root_Fix (F : Nat) : FuncId → List VV → Option (Bool × VV) := words [(57, s_wide_Of F), (45, s_wide_Left F), (59, s_root_Wide F)]
def W_root_Fix (F : Nat) : List LW := []
def I_root_Fix (F : Nat) : Nat → VS → (Exit → VS → R) → R := tabI c_root_Fix (W_root_Fix F)
def f_root_Fix (F : Nat) (a0 : Int) : R :=
  bif (ok_wide_Of F a0) then (
    let v1512 : Int := (o_wide_Of_0 F a0)
    let v1513 : Int := (o_wide_Of_1 F a0)
    bif (ok_wide_Left F v1512 v1513 32) then (
      let v1514 : Int := (o_wide_Left_0 F v1512 v1513 32)
      let v1515 : Int := (o_wide_Left_1 F v1512 v1513 32)
      bif (ok_root_Wide F v1514 v1515) then (
        some (.v (.tuple #[.int .i64 ((IntKind.wrap .i64 ((o_root_Wide_0 F v1514 v1515)))), .bool ((o_root_Wide_1 F v1514 v1515))])))
      else (
        none))
    else (
      none))
  else (
    none)
theorem e_root_Fix (F : Nat) (a0 : Int) : funL PP (S_root_Fix F) c_root_Fix (I_root_Fix F) 61 (fTs ti_root_Fix [.i a0]).1 = f_root_Fix F a0 := by
  have h : ∀ (ok_wide_Of : Nat → Int → Bool) (o_wide_Of_0 : Nat → Int → Int) (o_wide_Of_1 : Nat → Int → Int) (ok_wide_Left : Nat → Int → Int → Int → Bool) (o_wide_Left_0 : Nat → Int → Int → Int → Int) (o_wide_Left_1 : Nat → Int → Int → Int → Int) (ok_root_Wide : Nat → Int → Int → Bool) (o_root_Wide_0 : Nat → Int → Int → Int) (o_root_Wide_1 : Nat → Int → Int → Bool), funL PP (words [(57, spec ti_wide_Of to_wide_Of (fun q => (ok_wide_Of F (atI (nth q 0)))) (fun q => [.i (o_wide_Of_0 F (atI (nth q 0))), .i (o_wide_Of_1 F (atI (nth q 0)))])), (45, spec ti_wide_Left to_wide_Left (fun q => (ok_wide_Left F (atI (nth q 0)) (atI (nth q 1)) (atI (nth q 2)))) (fun q => [.i (o_wide_Left_0 F (atI (nth q 0)) (atI (nth q 1)) (atI (nth q 2))), .i (o_wide_Left_1 F (atI (nth q 0)) (atI (nth q 1)) (atI (nth q 2)))])), (59, spec ti_root_Wide to_root_Wide (fun q => (ok_root_Wide F (atI (nth q 0)) (atI (nth q 1)))) (fun q => [.i (o_root_Wide_0 F (atI (nth q 0)) (atI (nth q 1))), .b (o_root_Wide_1 F (atI (nth q 0)) (atI (nth q 1)))]))]) c_root_Fix (tabI c_root_Fix []) 61 (fTs ti_root_Fix [.i a0]).1 = (
  bif (ok_wide_Of F a0) then (
    let v1512 : Int := (o_wide_Of_0 F a0)
    let v1513 : Int := (o_wide_Of_1 F a0)
    bif (ok_wide_Left F v1512 v1513 32) then (
      let v1514 : Int := (o_wide_Left_0 F v1512 v1513 32)
      let v1515 : Int := (o_wide_Left_1 F v1512 v1513 32)
      bif (ok_root_Wide F v1514 v1515) then (
        some (.v (.tuple #[.int .i64 ((IntKind.wrap .i64 ((o_root_Wide_0 F v1514 v1515)))), .bool ((o_root_Wide_1 F v1514 v1515))])))
      else (
        none))
    else (
      none))
  else (
    none) : R) := by
    intros
    kernel_rfl
  exact (h ok_wide_Of o_wide_Of_0 o_wide_Of_1 ok_wide_Left o_wide_Left_0 o_wide_Left_1 ok_root_Wide o_root_Wide_0 o_root_Wide_1).trans (by kernel_rfl)
def ok_root_Fix (F : Nat) (a0 : Int) : Bool := okT to_root_Fix (f_root_Fix F a0)
def o_root_Fix_0 (F : Nat) (a0 : Int) : Int := atI (nth (outT to_root_Fix (f_root_Fix F a0)) 0)
def o_root_Fix_1 (F : Nat) (a0 : Int) : Bool := atB (nth (outT to_root_Fix (f_root_Fix F a0)) 1)
theorem k_root_Fix (F : Nat) (a0 : Int) {z0 : Int} {z1 : Bool} (h : f_root_Fix F a0 = some (.v (.tuple #[.int .i64 z0, .bool z1]))) : ok_root_Fix F a0 = true ∧ o_root_Fix_0 F a0 = z0 ∧ o_root_Fix_1 F a0 = z1 := by
  refine ⟨?_, ?_, ?_⟩
  · unfold ok_root_Fix; rw [h]; kernel_rfl
  · unfold o_root_Fix_0; rw [h]; kernel_rfl
  · unfold o_root_Fix_1; rw [h]; kernel_rfl
def s_root_Fix (F : Nat) : List VV → Option (Bool × VV) := spec ti_root_Fix to_root_Fix (fun q => (ok_root_Fix F (atI (nth q 0)))) (fun q => [.i (o_root_Fix_0 F (atI (nth q 0))), .b (o_root_Fix_1 F (atI (nth q 0)))])
theorem hS_root_Fix (F : Nat) : ∀ f, Good PP f (unS (S_root_Fix F f)) := words_good fun p hp => by
  simp only [List.mem_cons, List.not_mem_nil, or_false] at hp
  rcases hp with rfl | rfl | rfl
  · exact g_wide_Of F
  · exact g_wide_Left F
  · exact g_root_Wide F
theorem hl_root_Fix (F : Nat) : ∀ p ∈ loopsIn PP 61, LoopOK PP (S_root_Fix F) c_root_Fix F (I_root_Fix F) p :=
  loops_of [] (by kernel_rfl) all_nil
theorem g_root_Fix (F : Nat) : Good PP 61 (unS (s_root_Fix F)) :=
  fun_spec (hS_root_Fix F) (by kernel_rfl) (by kernel_rfl) (C := c_root_Fix) (F := fun q => (f_root_Fix F (atI (nth q 0)))) (fun _ => F) (fun _ => I_root_Fix F) (fun _ => hl_root_Fix F)
    (fun q => (congrArg (funL PP (S_root_Fix F) c_root_Fix (I_root_Fix F) 61) (show (fTs ti_root_Fix q).1 = (fTs ti_root_Fix [.i (atI (nth q 0))]).1 by kernel_rfl)).trans (e_root_Fix F (atI (nth q 0))))
    (fun _ h => (okT_fill h).trans (congrArg some (by kernel_rfl)))

end Go.Xv
set_option linter.unusedVariables false
namespace Go.Xv
/- 62 _ref04_Fix -/
def c_ref04_Fix : Cfg := ⟨[0, 2, 3, 4, 7], [], []⟩
def ti_ref04_Fix : List TV := [.v (.int .i64)]
def to_ref04_Fix : TV := .v (.tup [.int .i64, .bool])
def S_ref04_Fix (F : Nat) : FuncId → List VV → Option (Bool × VV) := words [(58, s_ref01_Of F), (46, s_ref01_Left F), (60, s_ref04_Wide F)]
def W_ref04_Fix (F : Nat) : List LW := []
def I_ref04_Fix (F : Nat) : Nat → VS → (Exit → VS → R) → R := tabI c_ref04_Fix (W_ref04_Fix F)
def f_ref04_Fix (F : Nat) (a0 : Int) : R :=
  bif ((decide (a0 < 0))) then (
    some (.v (.tuple #[.int .i64 0, .bool false])))
  else (
    bif (ok_ref01_Of F a0) then (
      let v1522 : Int := (o_ref01_Of_0 F a0)
      let v1523 : Int := (o_ref01_Of_1 F a0)
      bif (ok_ref01_Left F v1522 v1523 32) then (
        let v1524 : Int := (o_ref01_Left_0 F v1522 v1523 32)
        let v1525 : Int := (o_ref01_Left_1 F v1522 v1523 32)
        bif (ok_ref04_Wide F v1524 v1525) then (
          some (.v (.tuple #[.int .i64 ((IntKind.wrap .i64 ((o_ref04_Wide_0 F v1524 v1525)))), .bool true])))
        else (
          none))
      else (
        none))
    else (
      none))
theorem e_ref04_Fix (F : Nat) (a0 : Int) : funL PP (S_ref04_Fix F) c_ref04_Fix (I_ref04_Fix F) 62 (fTs ti_ref04_Fix [.i a0]).1 = f_ref04_Fix F a0 := by
  have h : ∀ (ok_ref01_Of : Nat → Int → Bool) (o_ref01_Of_0 : Nat → Int → Int) (o_ref01_Of_1 : Nat → Int → Int) (ok_ref01_Left : Nat → Int → Int → Int → Bool) (o_ref01_Left_0 : Nat → Int → Int → Int → Int) (o_ref01_Left_1 : Nat → Int → Int → Int → Int) (ok_ref04_Wide : Nat → Int → Int → Bool) (o_ref04_Wide_0 : Nat → Int → Int → Int) (o_ref04_Wide_1 : Nat → Int → Int → Bool), funL PP (words [(58, spec ti_ref01_Of to_ref01_Of (fun q => (ok_ref01_Of F (atI (nth q 0)))) (fun q => [.i (o_ref01_Of_0 F (atI (nth q 0))), .i (o_ref01_Of_1 F (atI (nth q 0)))])), (46, spec ti_ref01_Left to_ref01_Left (fun q => (ok_ref01_Left F (atI (nth q 0)) (atI (nth q 1)) (atI (nth q 2)))) (fun q => [.i (o_ref01_Left_0 F (atI (nth q 0)) (atI (nth q 1)) (atI (nth q 2))), .i (o_ref01_Left_1 F (atI (nth q 0)) (atI (nth q 1)) (atI (nth q 2)))])), (60, spec ti_ref04_Wide to_ref04_Wide (fun q => (ok_ref04_Wide F (atI (nth q 0)) (atI (nth q 1)))) (fun q => [.i (o_ref04_Wide_0 F (atI (nth q 0)) (atI (nth q 1))), .b (o_ref04_Wide_1 F (atI (nth q 0)) (atI (nth q 1)))]))]) c_ref04_Fix (tabI c_ref04_Fix []) 62 (fTs ti_ref04_Fix [.i a0]).1 = (
  bif ((decide (a0 < 0))) then (
    some (.v (.tuple #[.int .i64 0, .bool false])))
  else (
    bif (ok_ref01_Of F a0) then (
      let v1522 : Int := (o_ref01_Of_0 F a0)
      let v1523 : Int := (o_ref01_Of_1 F a0)
      bif (ok_ref01_Left F v1522 v1523 32) then (
        let v1524 : Int := (o_ref01_Left_0 F v1522 v1523 32)
        let v1525 : Int := (o_ref01_Left_1 F v1522 v1523 32)
        bif (ok_ref04_Wide F v1524 v1525) then (
          some (.v (.tuple #[.int .i64 ((IntKind.wrap .i64 ((o_ref04_Wide_0 F v1524 v1525)))), .bool true])))
        else (
          none))
      else (
        none))
    else (
      none)) : R) := by
    intros
    kernel_rfl
  exact (h ok_ref01_Of o_ref01_Of_0 o_ref01_Of_1 ok_ref01_Left o_ref01_Left_0 o_ref01_Left_1 ok_ref04_Wide o_ref04_Wide_0 o_ref04_Wide_1).trans (by kernel_rfl)
def ok_ref04_Fix (F : Nat) (a0 : Int) : Bool := okT to_ref04_Fix (f_ref04_Fix F a0)
def o_ref04_Fix_0 (F : Nat) (a0 : Int) : Int := atI (nth (outT to_ref04_Fix (f_ref04_Fix F a0)) 0)
def o_ref04_Fix_1 (F : Nat) (a0 : Int) : Bool := atB (nth (outT to_ref04_Fix (f_ref04_Fix F a0)) 1)
theorem k_ref04_Fix (F : Nat) (a0 : Int) {z0 : Int} {z1 : Bool} (h : f_ref04_Fix F a0 = some (.v (.tuple #[.int .i64 z0, .bool z1]))) : ok_ref04_Fix F a0 = true ∧ o_ref04_Fix_0 F a0 = z0 ∧ o_ref04_Fix_1 F a0 = z1 := by
  refine ⟨?_, ?_, ?_⟩
  · unfold ok_ref04_Fix; rw [h]; kernel_rfl
  · unfold o_ref04_Fix_0; rw [h]; kernel_rfl
  · unfold o_ref04_Fix_1; rw [h]; kernel_rfl
def s_ref04_Fix (F : Nat) : List VV → Option (Bool × VV) := spec ti_ref04_Fix to_ref04_Fix (fun q => (ok_ref04_Fix F (atI (nth q 0)))) (fun q => [.i (o_ref04_Fix_0 F (atI (nth q 0))), .b (o_ref04_Fix_1 F (atI (nth q 0)))])
theorem hS_ref04_Fix (F : Nat) : ∀ f, Good PP f (unS (S_ref04_Fix F f)) := words_good fun p hp => by
  simp only [List.mem_cons, List.not_mem_nil, or_false] at hp
  rcases hp with rfl | rfl | rfl
  · exact g_ref01_Of F
  · exact g_ref01_Left F
  · exact g_ref04_Wide F
theorem hl_ref04_Fix (F : Nat) : ∀ p ∈ loopsIn PP 62, LoopOK PP (S_ref04_Fix F) c_ref04_Fix F (I_ref04_Fix F) p :=
  loops_of [] (by kernel_rfl) all_nil
theorem g_ref04_Fix (F : Nat) : Good PP 62 (unS (s_ref04_Fix F)) :=
  fun_spec (hS_ref04_Fix F) (by kernel_rfl) (by kernel_rfl) (C := c_ref04_Fix) (F := fun q => (f_ref04_Fix F (atI (nth q 0)))) (fun _ => F) (fun _ => I_ref04_Fix F) (fun _ => hl_ref04_Fix F)
    (fun q => (congrArg (funL PP (S_ref04_Fix F) c_ref04_Fix (I_ref04_Fix F) 62) (show (fTs ti_ref04_Fix q).1 = (fTs ti_ref04_Fix [.i (atI (nth q 0))]).1 by kernel_rfl)).trans (e_ref04_Fix F (atI (nth q 0))))
    (fun _ h => (okT_fill h).trans (congrArg some (by kernel_rfl)))

end Go.Xv
set_option linter.unusedVariables false
namespace Go.Xv
/- 63 _root_Of -/
def c_root_Of : Cfg := ⟨[0, 2, 3, 4, 5, 6, 7, 8, 21], [(0, [0, 2, 3, 7, 26])], []⟩
def ti_root_Of : List TV := [.v (.int .u64)]
def to_root_Of : TV := .v (.int .u32)
def S_root_Of (F : Nat) : FuncId → List VV → Option (Bool × VV) := words []
def T_root_Of_0 : TS := ⟨[(0, .v (.int .u64)), (2, .v (.int .u32)), (3, .v (.int .u32)), (7, .v (.int .i64))], [], 0⟩
def T_root_Of_0_0 : TS := ⟨[(0, .v (.int .u64)), (2, .v (.int .u32)), (3, .v (.int .u32)), (7, .v (.int .i64))], [], 0⟩
def B_root_Of_0 (F : Nat) (rc : Int → Int → Int → Int → R) (ex0 : Int → Int → Int → Int → R) (x0 : Int) (x1 : Int) (x2 : Int) (x3 : Int) : R :=
  bif ((decide (x3 < 32))) then (
    let v1536 : Int := (IntKind.wrap .i64 (31 - x3))
    bif (!(decide (v1536 < 0))) then (
      let v1537 : Int := (IntKind.wrap .u32 (1 * 2 ^ (min (Int.toNat v1536) 32)))
      let v1539 : Int := (IntKind.wrap .u64 ((orI .u32 x2 v1537)))
      bif ((decide (((IntKind.wrap .u64 (v1539 * v1539))) ≤ x0))) then (
        rc x0 x1 ((orI .u32 x2 v1537)) ((IntKind.wrap .i64 (x3 + 1))))
      else (
        rc x0 x1 x2 ((IntKind.wrap .i64 (x3 + 1)))))
    else (
      none))
  else (
    ex0 x0 x1 x2 x3)
def L_root_Of_0 (F : Nat) (ex0 : Int → Int → Int → Int → R) : Nat → Int → Int → Int → Int → R
  | 0, _, _, _, _ => none
  | n + 1, x0, x1, x2, x3 => B_root_Of_0 F (L_root_Of_0 F ex0 n) ex0 x0 x1 x2 x3
def W_root_Of (F : Nat) : List LW := [⟨0, T_root_Of_0, fun k q => L_root_Of_0 F (fun (z0 : Int) (z1 : Int) (z2 : Int) (z3 : Int) => k (.exit 0) (fS T_root_Of_0_0 [.i z0, .i z1, .i z2, .i z3])) F (atI (nth q 0)) (atI (nth q 1)) (atI (nth q 2)) (atI (nth q 3))⟩]
def I_root_Of (F : Nat) : Nat → VS → (Exit → VS → R) → R := tabI c_root_Of (W_root_Of F)
theorem lL_root_Of_0 (F : Nat) (k : Exit → VS → R) : ∀ (n : Nat) (x0 : Int) (x1 : Int) (x2 : Int) (x3 : Int), iterC (codeL PP (S_root_Of F) c_root_Of (I_root_Of F) (loopAt PP 63 0) 0) (headOf c_root_Of 0) k n (fS T_root_Of_0 [.i x0, .i x1, .i x2, .i x3]) = L_root_Of_0 F (fun (z0 : Int) (z1 : Int) (z2 : Int) (z3 : Int) => k (.exit 0) (fS T_root_Of_0_0 [.i z0, .i z1, .i z2, .i z3])) n x0 x1 x2 x3
  | 0, _, _, _, _ => rfl
  | n + 1, x0, x1, x2, x3 => by
    have h0 : ∀ (L_root_Of_0 : Nat → (Int → Int → Int → Int → R) → Nat → Int → Int → Int → Int → R), iterC (codeL PP (words []) c_root_Of (tabI c_root_Of [⟨0, T_root_Of_0, fun k q => L_root_Of_0 F (fun (z0 : Int) (z1 : Int) (z2 : Int) (z3 : Int) => k (.exit 0) (fS T_root_Of_0_0 [.i z0, .i z1, .i z2, .i z3])) F (atI (nth q 0)) (atI (nth q 1)) (atI (nth q 2)) (atI (nth q 3))⟩]) (loopAt PP 63 0) 0) (headOf c_root_Of 0) k (n + 1) (fS T_root_Of_0 [.i x0, .i x1, .i x2, .i x3]) = (fun (rc : Int → Int → Int → Int → R) (ex0 : Int → Int → Int → Int → R) (x0 : Int) (x1 : Int) (x2 : Int) (x3 : Int) => (
  bif ((decide (x3 < 32))) then (
    let v1536 : Int := (IntKind.wrap .i64 (31 - x3))
    bif (!(decide (v1536 < 0))) then (
      let v1537 : Int := (IntKind.wrap .u32 (1 * 2 ^ (min (Int.toNat v1536) 32)))
      let v1539 : Int := (IntKind.wrap .u64 ((orI .u32 x2 v1537)))
      bif ((decide (((IntKind.wrap .u64 (v1539 * v1539))) ≤ x0))) then (
        rc x0 x1 ((orI .u32 x2 v1537)) ((IntKind.wrap .i64 (x3 + 1))))
      else (
        rc x0 x1 x2 ((IntKind.wrap .i64 (x3 + 1)))))
    else (
      none))
  else (
    ex0 x0 x1 x2 x3) : R)) (fun (y0 : Int) (y1 : Int) (y2 : Int) (y3 : Int) => iterC (codeL PP (words []) c_root_Of (tabI c_root_Of [⟨0, T_root_Of_0, fun k q => L_root_Of_0 F (fun (z0 : Int) (z1 : Int) (z2 : Int) (z3 : Int) => k (.exit 0) (fS T_root_Of_0_0 [.i z0, .i z1, .i z2, .i z3])) F (atI (nth q 0)) (atI (nth q 1)) (atI (nth q 2)) (atI (nth q 3))⟩]) (loopAt PP 63 0) 0) (headOf c_root_Of 0) k n (fS T_root_Of_0 [.i y0, .i y1, .i y2, .i y3])) (fun (z0 : Int) (z1 : Int) (z2 : Int) (z3 : Int) => k (.exit 0) (fS T_root_Of_0_0 [.i z0, .i z1, .i z2, .i z3])) x0 x1 x2 x3 := by
      intros
      kernel_rfl
    have h : iterC (codeL PP (S_root_Of F) c_root_Of (I_root_Of F) (loopAt PP 63 0) 0) (headOf c_root_Of 0) k (n + 1) (fS T_root_Of_0 [.i x0, .i x1, .i x2, .i x3]) = B_root_Of_0 F (fun (y0 : Int) (y1 : Int) (y2 : Int) (y3 : Int) => iterC (codeL PP (S_root_Of F) c_root_Of (I_root_Of F) (loopAt PP 63 0) 0) (headOf c_root_Of 0) k n (fS T_root_Of_0 [.i y0, .i y1, .i y2, .i y3])) (fun (z0 : Int) (z1 : Int) (z2 : Int) (z3 : Int) => k (.exit 0) (fS T_root_Of_0_0 [.i z0, .i z1, .i z2, .i z3])) x0 x1 x2 x3 := (h0 L_root_Of_0).trans (by kernel_rfl)
    rw [h]
    simp only [lL_root_Of_0 F k n]
    rfl
def f_root_Of (F : Nat) (a0 : Int) : R :=
  L_root_Of_0 F (fun (v1545 : Int) (v1546 : Int) (v1547 : Int) (v1548 : Int) =>
    some (.v (.int .u32 v1547))) F a0 0 0 0
theorem e_root_Of (F : Nat) (a0 : Int) : funL PP (S_root_Of F) c_root_Of (I_root_Of F) 63 (fTs ti_root_Of [.i a0]).1 = f_root_Of F a0 := by
  have h : ∀ (L_root_Of_0 : Nat → (Int → Int → Int → Int → R) → Nat → Int → Int → Int → Int → R), funL PP (words []) c_root_Of (tabI c_root_Of [⟨0, T_root_Of_0, fun k q => L_root_Of_0 F (fun (z0 : Int) (z1 : Int) (z2 : Int) (z3 : Int) => k (.exit 0) (fS T_root_Of_0_0 [.i z0, .i z1, .i z2, .i z3])) F (atI (nth q 0)) (atI (nth q 1)) (atI (nth q 2)) (atI (nth q 3))⟩]) 63 (fTs ti_root_Of [.i a0]).1 = (
  L_root_Of_0 F (fun (v1545 : Int) (v1546 : Int) (v1547 : Int) (v1548 : Int) =>
    some (.v (.int .u32 v1547))) F a0 0 0 0 : R) := by
    intros
    kernel_rfl
  exact (h L_root_Of_0).trans (by kernel_rfl)
def ok_root_Of (F : Nat) (a0 : Int) : Bool := okT to_root_Of (f_root_Of F a0)
def o_root_Of_0 (F : Nat) (a0 : Int) : Int := atI (nth (outT to_root_Of (f_root_Of F a0)) 0)
theorem k_root_Of (F : Nat) (a0 : Int) {z0 : Int} (h : f_root_Of F a0 = some (.v (.int .u32 z0))) : ok_root_Of F a0 = true ∧ o_root_Of_0 F a0 = z0 := by
  refine ⟨?_, ?_⟩
  · unfold ok_root_Of; rw [h]; kernel_rfl
  · unfold o_root_Of_0; rw [h]; kernel_rfl
def s_root_Of (F : Nat) : List VV → Option (Bool × VV) := spec ti_root_Of to_root_Of (fun q => (ok_root_Of F (atI (nth q 0)))) (fun q => [.i (o_root_Of_0 F (atI (nth q 0)))])
theorem hS_root_Of (F : Nat) : ∀ f, Good PP f (unS (S_root_Of F f)) := words_good fun p hp => by
  cases hp
theorem hl_root_Of (F : Nat) : ∀ p ∈ loopsIn PP 63, LoopOK PP (S_root_Of F) c_root_Of F (I_root_Of F) p :=
  loops_of [(0, loopAt PP 63 0)] (by kernel_rfl) (all_cons
    (loop_ok (W_root_Of F) rfl (tab_cons (fun _ k q => Le.ofEq ((lL_root_Of_0 F k F (atI (nth q 0)) (atI (nth q 1)) (atI (nth q 2)) (atI (nth q 3))).symm.trans (congrArg (iterC (codeL PP (S_root_Of F) c_root_Of (I_root_Of F) (loopAt PP 63 0) 0) (headOf c_root_Of 0) k F) (show fS T_root_Of_0 [.i (atI (nth q 0)), .i (atI (nth q 1)), .i (atI (nth q 2)), .i (atI (nth q 3))] = fS T_root_Of_0 q by kernel_rfl)))) tab_nil)) all_nil)
theorem g_root_Of (F : Nat) : Good PP 63 (unS (s_root_Of F)) :=
  fun_spec (hS_root_Of F) (by kernel_rfl) (by kernel_rfl) (C := c_root_Of) (F := fun q => (f_root_Of F (atI (nth q 0)))) (fun _ => F) (fun _ => I_root_Of F) (fun _ => hl_root_Of F)
    (fun q => (congrArg (funL PP (S_root_Of F) c_root_Of (I_root_Of F) 63) (show (fTs ti_root_Of q).1 = (fTs ti_root_Of [.i (atI (nth q 0))]).1 by kernel_rfl)).trans (e_root_Of F (atI (nth q 0))))
    (fun _ h => (okT_fill h).trans (congrArg some (by kernel_rfl)))

end Go.Xv
set_option linter.unusedVariables false
namespace Go.Xv
/- 64 _ref04_Of -/
def c_ref04_Of : Cfg := ⟨[0, 2, 3], [], []⟩
def ti_ref04_Of : List TV := [.v (.int .u64)]
def to_ref04_Of : TV := .v (.int .u32)
def S_ref04_Of (F : Nat) : FuncId → List VV → Option (Bool × VV) := words [(60, s_ref04_Wide F)]
def W_ref04_Of (F : Nat) : List LW := []
def I_ref04_Of (F : Nat) : Nat → VS → (Exit → VS → R) → R := tabI c_ref04_Of (W_ref04_Of F)
def f_ref04_Of (F : Nat) (a0 : Int) : R :=
  bif (ok_ref04_Wide F 0 a0) then (
    some (.v (.int .u32 ((IntKind.wrap .u32 ((o_ref04_Wide_0 F 0 a0)))))))
  else (
    none)
theorem e_ref04_Of (F : Nat) (a0 : Int) : funL PP (S_ref04_Of F) c_ref04_Of (I_ref04_Of F) 64 (fTs ti_ref04_Of [.i a0]).1 = f_ref04_Of F a0 := by
  have h : ∀ (ok_ref04_Wide : Nat → Int → Int → Bool) (o_ref04_Wide_0 : Nat → Int → Int → Int) (o_ref04_Wide_1 : Nat → Int → Int → Bool), funL PP (words [(60, spec ti_ref04_Wide to_ref04_Wide (fun q => (ok_ref04_Wide F (atI (nth q 0)) (atI (nth q 1)))) (fun q => [.i (o_ref04_Wide_0 F (atI (nth q 0)) (atI (nth q 1))), .b (o_ref04_Wide_1 F (atI (nth q 0)) (atI (nth q 1)))]))]) c_ref04_Of (tabI c_ref04_Of []) 64 (fTs ti_ref04_Of [.i a0]).1 = (
  bif (ok_ref04_Wide F 0 a0) then (
    some (.v (.int .u32 ((IntKind.wrap .u32 ((o_ref04_Wide_0 F 0 a0)))))))
  else (
    none) : R) := by
    intros
    kernel_rfl
  exact (h ok_ref04_Wide o_ref04_Wide_0 o_ref04_Wide_1).trans (by kernel_rfl)
def ok_ref04_Of (F : Nat) (a0 : Int) : Bool := okT to_ref04_Of (f_ref04_Of F a0)
def o_ref04_Of_0 (F : Nat) (a0 : Int) : Int := atI (nth (outT to_ref04_Of (f_ref04_Of F a0)) 0)
theorem k_ref04_Of (F : Nat) (a0 : Int) {z0 : Int} (h : f_ref04_Of F a0 = some (.v (.int .u32 z0))) : ok_ref04_Of F a0 = true ∧ o_ref04_Of_0 F a0 = z0 := by
  refine ⟨?_, ?_⟩
  · unfold ok_ref04_Of; rw [h]; kernel_rfl
  · unfold o_ref04_Of_0; rw [h]; kernel_rfl
def s_ref04_Of (F : Nat) : List VV → Option (Bool × VV) := spec ti_ref04_Of to_ref04_Of (fun q => (ok_ref04_Of F (atI (nth q 0)))) (fun q => [.i (o_ref04_Of_0 F (atI (nth q 0)))])
theorem hS_ref04_Of (F : Nat) : ∀ f, Good PP f (unS (S_ref04_Of F f)) := words_good fun p hp => by
  simp only [List.mem_cons, List.not_mem_nil, or_false] at hp
  rcases hp with rfl
  · exact g_ref04_Wide F
theorem hl_ref04_Of (F : Nat) : ∀ p ∈ loopsIn PP 64, LoopOK PP (S_ref04_Of F) c_ref04_Of F (I_ref04_Of F) p :=
  loops_of [] (by kernel_rfl) all_nil
theorem g_ref04_Of (F : Nat) : Good PP 64 (unS (s_ref04_Of F)) :=
  fun_spec (hS_ref04_Of F) (by kernel_rfl) (by kernel_rfl) (C := c_ref04_Of) (F := fun q => (f_ref04_Of F (atI (nth q 0)))) (fun _ => F) (fun _ => I_ref04_Of F) (fun _ => hl_ref04_Of F)
    (fun q => (congrArg (funL PP (S_ref04_Of F) c_ref04_Of (I_ref04_Of F) 64) (show (fTs ti_ref04_Of q).1 = (fTs ti_ref04_Of [.i (atI (nth q 0))]).1 by kernel_rfl)).trans (e_ref04_Of F (atI (nth q 0))))
    (fun _ h => (okT_fill h).trans (congrArg some (by kernel_rfl)))

end Go.Xv
set_option linter.unusedVariables false
namespace Go.Xv
/- 67 _law04_works -/
def c_law04_works : Cfg := ⟨[0, 1, 2], [], []⟩
def ti_law04_works : List TV := []
def to_law04_works : TV := .v (.bool)
def S_law04_works (F : Nat) : FuncId → List VV → Option (Bool × VV) := words [(61, s_root_Fix F), (63, s_root_Of F)]
def W_law04_works (F : Nat) : List LW := []
def I_law04_works (F : Nat) : Nat → VS → (Exit → VS → R) → R := tabI c_law04_works (W_law04_works F)
def f_law04_works (F : Nat) : R :=
  bif (ok_root_Fix F 8589934592) then (
    bif (ok_root_Of F 15) then (
      bif ((((o_root_Of_0 F 15)) == 3)) then (
        bif (ok_root_Of F 16) then (
          bif ((((o_root_Of_0 F 16)) == 4)) then (
            bif ((((o_root_Fix_0 F 8589934592)) == 6074000999)) then (
              some (.v (.bool ((o_root_Fix_1 F 8589934592)))))
            else (
              some (.v (.bool false))))
          else (
            some (.v (.bool false))))
        else (
          none))
      else (
        some (.v (.bool false))))
    else (
      none))
  else (
    none)
theorem e_law04_works (F : Nat) : funL PP (S_law04_works F) c_law04_works (I_law04_works F) 67 (fTs ti_law04_works []).1 = f_law04_works F := by
  have h : ∀ (ok_root_Fix : Nat → Int → Bool) (o_root_Fix_0 : Nat → Int → Int) (o_root_Fix_1 : Nat → Int → Bool) (ok_root_Of : Nat → Int → Bool) (o_root_Of_0 : Nat → Int → Int), funL PP (words [(61, spec ti_root_Fix to_root_Fix (fun q => (ok_root_Fix F (atI (nth q 0)))) (fun q => [.i (o_root_Fix_0 F (atI (nth q 0))), .b (o_root_Fix_1 F (atI (nth q 0)))])), (63, spec ti_root_Of to_root_Of (fun q => (ok_root_Of F (atI (nth q 0)))) (fun q => [.i (o_root_Of_0 F (atI (nth q 0)))]))]) c_law04_works (tabI c_law04_works []) 67 (fTs ti_law04_works []).1 = (
  bif (ok_root_Fix F 8589934592) then (
    bif (ok_root_Of F 15) then (
      bif ((((o_root_Of_0 F 15)) == 3)) then (
        bif (ok_root_Of F 16) then (
          bif ((((o_root_Of_0 F 16)) == 4)) then (
            bif ((((o_root_Fix_0 F 8589934592)) == 6074000999)) then (
              some (.v (.bool ((o_root_Fix_1 F 8589934592)))))
            else (
              some (.v (.bool false))))
          else (
            some (.v (.bool false))))
        else (
          none))
      else (
        some (.v (.bool false))))
    else (
      none))
  else (
    none) : R) := by
    intros
    kernel_rfl
  exact (h ok_root_Fix o_root_Fix_0 o_root_Fix_1 ok_root_Of o_root_Of_0).trans (by kernel_rfl)
def ok_law04_works (F : Nat) : Bool := okT to_law04_works (f_law04_works F)
def o_law04_works_0 (F : Nat) : Bool := atB (nth (outT to_law04_works (f_law04_works F)) 0)
theorem k_law04_works (F : Nat) {z0 : Bool} (h : f_law04_works F = some (.v (.bool z0))) : ok_law04_works F = true ∧ o_law04_works_0 F = z0 := by
  refine ⟨?_, ?_⟩
  · unfold ok_law04_works; rw [h]; kernel_rfl
  · unfold o_law04_works_0; rw [h]; kernel_rfl
def s_law04_works (F : Nat) : List VV → Option (Bool × VV) := spec ti_law04_works to_law04_works (fun q => (ok_law04_works F )) (fun q => [.b (o_law04_works_0 F )])
theorem hS_law04_works (F : Nat) : ∀ f, Good PP f (unS (S_law04_works F f)) := words_good fun p hp => by
  simp only [List.mem_cons, List.not_mem_nil, or_false] at hp
  rcases hp with rfl | rfl
  · exact g_root_Fix F
  · exact g_root_Of F
theorem hl_law04_works (F : Nat) : ∀ p ∈ loopsIn PP 67, LoopOK PP (S_law04_works F) c_law04_works F (I_law04_works F) p :=
  loops_of [] (by kernel_rfl) all_nil
theorem g_law04_works (F : Nat) : Good PP 67 (unS (s_law04_works F)) :=
  fun_spec (hS_law04_works F) (by kernel_rfl) (by kernel_rfl) (C := c_law04_works) (F := fun q => (f_law04_works F )) (fun _ => F) (fun _ => I_law04_works F) (fun _ => hl_law04_works F)
    (fun q => (congrArg (funL PP (S_law04_works F) c_law04_works (I_law04_works F) 67) (show (fTs ti_law04_works q).1 = (fTs ti_law04_works []).1 by kernel_rfl)).trans (e_law04_works F ))
    (fun _ h => (okT_fill h).trans (congrArg some (by kernel_rfl)))

end Go.Xv
namespace Go.Xv
/-! ### roots of whole numbers, of 128 bits -/
theorem sq_lt {x y : Int} (hx : 0 ≤ x) (h : x < y) : x * x < y * y := by
  have h1 : x * x ≤ x * y := Int.mul_le_mul_of_nonneg_left (by omega) hx
  have h2 : x * y < y * y := Int.mul_lt_mul_of_pos_right h (by omega)
  omega
theorem sq_le {x y : Int} (hx : 0 ≤ x) (h : x ≤ y) : x * x ≤ y * y := by
  rcases Int.lt_or_eq_of_le h with h | rfl
  · exact Int.le_of_lt (sq_lt hx h)
  · exact Int.le_refl _
/-- a root is one only -/
theorem root_one {z x y : Int} (hx : 0 ≤ x) (hy : 0 ≤ y) (h1 : x * x ≤ z) (h2 : z < (x + 1) * (x + 1)) (h3 : y * y ≤ z) (h4 : z < (y + 1) * (y + 1)) : x = y := by
  rcases Int.lt_trichotomy x y with h | h | h
  · have := sq_le (x := x + 1) (y := y) (by omega) (by omega); omega
  · exact h
  · have := sq_le (x := y + 1) (y := x) (by omega) (by omega); omega
/-- There is a root. -/
theorem root_ex (z : Int) (hz : 0 ≤ z) : ∃ x : Int, 0 ≤ x ∧ x * x ≤ z ∧ z < (x + 1) * (x + 1) := by
  obtain ⟨n, rfl⟩ := Int.eq_ofNat_of_zero_le hz
  induction n with
  | zero => exact ⟨0, by omega, by omega, by omega⟩
  | succ n ih =>
    obtain ⟨x, h1, h2, h3⟩ := ih (by omega)
    by_cases h : (x + 1) * (x + 1) ≤ ((n + 1 : Nat) : Int)
    · refine ⟨x + 1, by omega, h, ?_⟩
      have := sq_lt (x := x + 1) (y := x + 1 + 1) (by omega) (by omega)
      push_cast
      omega
    · refine ⟨x, h1, ?_, by omega⟩
      push_cast
      omega
noncomputable def rt (z : Int) : Int := if h : 0 ≤ z then Classical.choose (root_ex z h) else 0
theorem rt_spec {z : Int} (h : 0 ≤ z) : 0 ≤ rt z ∧ rt z * rt z ≤ z ∧ z < (rt z + 1) * (rt z + 1) := by
  unfold rt
  rw [dif_pos h]
  exact Classical.choose_spec (root_ex z h)
theorem rt_eq {z x : Int} (hx : 0 ≤ x) (h1 : x * x ≤ z) (h2 : z < (x + 1) * (x + 1)) : rt z = x := by
  have h0 : 0 ≤ x * x := Int.mul_nonneg hx hx
  obtain ⟨h3, h4, h5⟩ := rt_spec (z := z) (by omega)
  exact root_one h3 hx h4 h5 h1 h2
/-- a number is not beyond the root just if its square is not above -/
theorem rt_le {z y : Int} (hz : 0 ≤ z) (hy : 0 ≤ y) : y ≤ rt z ↔ y * y ≤ z := by
  obtain ⟨h3, h4, h5⟩ := rt_spec hz
  constructor
  · intro h
    have := sq_le hy h
    omega
  · intro h
    rcases Int.lt_or_le (rt z) y with hlt | hle
    · have := sq_le (x := rt z + 1) (y := y) (by omega) (by omega); omega
    · exact hle
/-- the root's upper bits -/
theorem top_step {r P : Int} (hr : 0 ≤ r) (hP : 0 < P) : (r / (2 * P) * (2 * P) + P ≤ r → r / P * P = r / (2 * P) * (2 * P) + P) ∧ (¬ r / (2 * P) * (2 * P) + P ≤ r → r / P * P = r / (2 * P) * (2 * P)) := by
  have e : r / (2 * P) = r / P / 2 := by rw [Int.mul_comm, Int.ediv_ediv_of_nonneg (by omega)]
  have hd := Int.mul_ediv_add_emod r P
  have h2 := Int.emod_nonneg r (show P ≠ 0 by omega)
  have h3 := Int.emod_lt_of_pos r hP
  rw [e]
  generalize r / P = q at *
  have hq : 0 ≤ q ∨ q < 0 := by omega
  have e1 : q / 2 * (2 * P) = 2 * (q / 2) * P := by simp only [Int.mul_comm, Int.mul_left_comm]
  rw [e1]
  rcases (show q = 2 * (q / 2) ∨ q = 2 * (q / 2) + 1 by omega) with h | h
  · rw [← h]
    constructor
    · intro hx
      rw [Int.mul_comm q P] at hx; omega
    · intro _; rfl
  · have e2 : q * P = 2 * (q / 2) * P + P := by
      have : q * P = (2 * (q / 2) + 1) * P := by rw [← h]
      rw [this, Int.add_mul, Int.one_mul]
    rw [← e2]
    constructor
    · intro _; rfl
    · intro hx
      rw [Int.mul_comm q P] at hx; omega
end Go.Xv
namespace Go.Xv
theorem f_Square (F : Nat) {n : Int} (hn : U64 n) : f_root_Square F n = some (wd (n * n)) := by
  unfold f_root_Square
  dsimp only
  unfold U64 at hn
  rw [fdiv_pos _ (by decide), mask32_u64 hn]
  have en : n = n / 4294967296 * 4294967296 + n % 4294967296 := by omega
  have hp : 0 ≤ n / 4294967296 ∧ n / 4294967296 ≤ 4294967295 := by omega
  have hq : 0 ≤ n % 4294967296 ∧ n % 4294967296 ≤ 4294967295 := by omega
  have bd : ∀ x y : Int, (0 ≤ x ∧ x ≤ 4294967295) → (0 ≤ y ∧ y ≤ 4294967295) → 0 ≤ x * y ∧ x * y ≤ 18446744065119617025 := by
    intro x y hx hy
    have h1 := Int.mul_nonneg hx.1 hy.1
    have h2 : x * y ≤ 4294967295 * 4294967295 := Int.mul_le_mul hx.2 hy.2 hy.1 (by decide)
    exact ⟨h1, by simpa using h2⟩
  have b1 := bd _ _ hp hp
  have b2 := bd _ _ hq hq
  have b3 := bd _ _ hp hq
  have hnn : n * n = (n / 4294967296) * (n / 4294967296) * 18446744073709551616 + (n / 4294967296) * (n % 4294967296) * 8589934592 + (n % 4294967296) * (n % 4294967296) := by
    generalize n / 4294967296 = p at *
    generalize n % 4294967296 = q at *
    subst en
    simp only [Int.add_mul, Int.mul_add]
    have : p * 4294967296 * (p * 4294967296) = p * p * 18446744073709551616 := by
      rw [show (18446744073709551616 : Int) = 4294967296 * 4294967296 by decide]
      simp only [Int.mul_comm, Int.mul_assoc, Int.mul_left_comm]
    have : p * 4294967296 * q = p * q * 4294967296 := by simp only [Int.mul_comm, Int.mul_assoc, Int.mul_left_comm]
    have : q * (p * 4294967296) = p * q * 4294967296 := by simp only [Int.mul_comm, Int.mul_assoc, Int.mul_left_comm]
    omega
  rw [hnn]
  generalize n / 4294967296 * (n / 4294967296) = pp at *
  generalize n / 4294967296 * (n % 4294967296) = pq at *
  generalize n % 4294967296 * (n % 4294967296) = qq at *
  rw [wu64_in (x := pp) (by unfold U64; omega), wu64_in (x := qq) (by unfold U64; omega), wu64_in (x := pq) (by unfold U64; omega)]
  obtain ⟨l1, l2, l3⟩ := k_wide_Left F _ _ 33 (f_Left F (a := 0) (b := pq) (n := 33) (by unfold U64; omega))
  rw [show ((33 : Int).toNat) = 33 from rfl, show (2 : Int) ^ 33 = 8589934592 by decide] at l2 l3
  refine bp l1 ?_
  rw [l2, l3]
  obtain ⟨s1, s2, s3⟩ := k_wide_Add F _ _ _ _ (f_Add F (a := IntKind.wrap .i64 pp) (b := qq) (c := hi (val 0 pq * 8589934592)) (by unfold U64; omega) (lo_U (val 0 pq * 8589934592)))
  refine bp s1 ?_
  rw [s2, s3]
  have e : Eqv (val (IntKind.wrap .i64 pp) qq + val (hi (val 0 pq * 8589934592)) (lo (val 0 pq * 8589934592))) (pp * 18446744073709551616 + pq * 8589934592 + qq) := by
    rw [val_hl]
    refine ((Eqv.rfl (x := val (IntKind.wrap .i64 pp) qq)).add (W_eqv _)).trans ?_
    rw [wi64]
    unfold Eqv val; omega
  exact some_wd (hi_eqv e) (lo_eqv e)
theorem a_Square (F : Nat) {n : Int} (hn : U64 n) : ok_root_Square F n = true ∧ o_root_Square_0 F n = hi (n * n) ∧ o_root_Square_1 F n = lo (n * n) := k_root_Square F _ (f_Square F hn)
theorem lp_rSquare_0 (F : Nat) (hF : 200 ≤ F) (ex) (a b x0 x3 x4 : Int) : ∀ (k n i : Nat) (x2 x5 x6 x7 x8 : Int), i + k = 64 → k < n → x2 = i → x5 = hi (a * num b i) → x6 = lo (a * num b i) → x7 = hi (a * 2 ^ i) → x8 = lo (a * 2 ^ i) →
    L_ref04_Square_0 F ex n x0 128 x2 x3 x4 x5 x6 x7 x8 (ds b 128) = ex x0 128 64 x3 x4 (hi (a * num b 64)) (lo (a * num b 64)) (hi (a * 2 ^ 64)) (lo (a * 2 ^ 64)) (ds b 128)
  | _, 0, _, _, _, _, _, _, _, h, _, _, _, _, _ => absurd h (by omega)
  | 0, n + 1, i, _, _, _, _, _, h, _, rfl, rfl, rfl, rfl, rfl => by
    obtain rfl : i = 64 := by omega
    rw [L_ref04_Square_0]
    unfold B_ref04_Square_0
    exact bn (df (by omega)) rfl
  | k + 1, n + 1, i, _, _, _, _, _, h, hn, rfl, rfl, rfl, rfl, rfl => by
    have hi' : i < 128 := by omega
    rw [L_ref04_Square_0]
    unfold B_ref04_Square_0
    refine bp (dt (by omega)) (bp (ix_ok i 128 hi') (bp (isI_ds b hi') ?_))
    rw [iv_ds b hi']
    obtain ⟨d1, d2, d3⟩ := a_rAdd F hF (a * 2 ^ i) (a * 2 ^ i)
    have e2 : a * 2 ^ i + a * 2 ^ i = a * 2 ^ (i + 1) := by rw [Int.pow_succ, ← Int.mul_assoc]; omega
    rw [e2] at d2 d3
    rcases (show dg b i = 0 ∨ dg b i = 1 by have := dg_01 b i; omega) with hd | hd
    · refine bn (by rw [hd]; rfl) (bp d1 ?_)
      have e : num b (i + 1) = num b i := by rw [num_succ, hd]; omega
      exact lp_rSquare_0 F hF ex a b x0 x3 x4 k n (i + 1) _ _ _ _ _ (by omega) (by omega) (wi64_s i (by omega)) (by rw [e]) (by rw [e]) d2 d3
    · obtain ⟨c1, c2, c3⟩ := a_rAdd F hF (a * num b i) (a * 2 ^ i)
      have e : a * num b i + a * 2 ^ i = a * num b (i + 1) := by rw [num_succ, hd, Int.mul_add, Int.one_mul]
      rw [e] at c2 c3
      refine bp (by rw [hd]; rfl) (bp c1 (bp d1 ?_))
      exact lp_rSquare_0 F hF ex a b x0 x3 x4 k n (i + 1) _ _ _ _ _ (by omega) (by omega) (wi64_s i (by omega)) c2 c3 d2 d3
theorem hl_U {n : Int} (h : U64 n) : hi n = 0 ∧ lo n = n := by unfold U64 at h; unfold hi lo; omega
theorem f_rSquare (F : Nat) (hF : 200 ≤ F) {n : Int} (hn : U64 n) : f_ref04_Square F n = some (wd (n * n)) := by
  unfold f_ref04_Square
  obtain ⟨d1, d2, d3⟩ := k_ref01_Digits F _ _ (f_Digits F hF (a := 0) hn)
  have e0 : val 0 n = n := by unfold val; omega
  rw [e0] at d2
  obtain ⟨h1, h2⟩ := hl_U hn
  refine bp d1 ?_
  rw [d2, d3]
  rw [lp_rSquare_0 F hF _ n n n 0 0 64 F 0 0 0 0 0 n (by omega) (by omega) rfl (by rw [num_zero, Int.mul_zero]; rfl) (by rw [num_zero, Int.mul_zero]; rfl) (by rw [Int.pow_zero, Int.mul_one, h1]) (by rw [Int.pow_zero, Int.mul_one, h2])]
  have e : num n 64 = n := by
    unfold num
    unfold U64 at hn
    rw [show (2 : Int) ^ 64 = 18446744073709551616 by decide]; omega
  rw [e]; rfl
theorem a_rSquare (F : Nat) (hF : 200 ≤ F) {n : Int} (hn : U64 n) : ok_ref04_Square F n = true ∧ o_ref04_Square_0 F n = hi (n * n) ∧ o_ref04_Square_1 F n = lo (n * n) := k_ref04_Square F _ (f_rSquare F hF hn)

theorem rt_bd {z : Int} (h : 0 ≤ z) (h2 : z < 170141183460469231731687303715884105728) : 0 ≤ rt z ∧ rt z ≤ 13043817825332782212 := by
  obtain ⟨h3, h4, h5⟩ := rt_spec h
  refine ⟨h3, ?_⟩
  rcases Int.lt_or_le 13043817825332782212 (rt z) with hlt | hle
  · have := sq_le (x := 13043817825332782213) (y := rt z) (by omega) (by omega)
    have e : (13043817825332782213 : Int) * 13043817825332782213 = 170141183460469231748655437451289177369 := by decide
    omega
  · exact hle
theorem sq_bd {y : Int} (h : 0 ≤ y) (h2 : y < 18446744073709551616) : 0 ≤ y * y ∧ y * y < 340282366920938463463374607431768211456 := by
  have h1 := Int.mul_nonneg h h
  have := sq_le h (show y ≤ 18446744073709551615 by omega)
  have e : (18446744073709551615 : Int) * 18446744073709551615 = 340282366920938463426481119284349108225 := by decide
  omega
theorem lp_rootWide_0 (F : Nat) (ex) {a b : Int} (ha : I64 a) (hb : U64 b) (hz : 0 ≤ val a b) (x0 x1 x2 : Int) (x3 : Bool) : ∀ (k n i : Nat) (x4 x5 : Int), i + k = 64 → k < n → x4 = rt (val a b) / 2 ^ k * 2 ^ k → x5 = i →
    L_root_Wide_0 F ex n x0 x1 x2 x3 x4 x5 a b = ex x0 x1 x2 x3 (rt (val a b)) 64 a b
  | _, 0, _, _, _, _, h, _, _ => absurd h (by omega)
  | 0, n + 1, i, _, _, h, _, rfl, rfl => by
    obtain rfl : i = 64 := by omega
    rw [L_root_Wide_0]
    unfold B_root_Wide_0
    refine bn (df (by omega)) ?_
    rw [Int.pow_zero, Int.ediv_one, Int.mul_one]; rfl
  | k + 1, n + 1, i, _, _, h, hn, rfl, rfl => by
    have hW := val_W ha hb
    unfold W128 at hW
    obtain ⟨r1, r2⟩ := rt_bd hz hW.2
    have ih := lp_rootWide_0 F ex ha hb hz x0 x1 x2 x3 k n (i + 1)
    rw [L_root_Wide_0]
    unfold B_root_Wide_0
    dsimp only
    have hi63 : IntKind.wrap .i64 (63 - (i : Int)) = ((k : Nat) : Int) := by rw [wi64_in (by unfold I64; omega)]; omega
    have hP := p2pos k
    have hPb : (2 : Int) ^ k ≤ 9223372036854775808 := by
      have := p2mono (a := k) (b := 63) (by omega)
      simpa using this
    rw [hi63, p2min (by omega), Int.one_mul, wu64_in (x := 2 ^ k) (by unfold U64; omega)]
    obtain ⟨t1, t2⟩ := top_step (r := rt (val a b)) (P := 2 ^ k) r1 hP
    rw [show (2 : Int) * 2 ^ k = 2 ^ (k + 1) by rw [Int.pow_succ, Int.mul_comm]] at t1 t2
    have hq := Int.ediv_nonneg r1 (Int.le_of_lt (p2pos (k + 1)))
    have hqr : rt (val a b) / 2 ^ (k + 1) * 2 ^ (k + 1) ≤ rt (val a b) := Int.ediv_mul_le _ (by have := p2pos (k + 1); omega)
    have hq0 := Int.mul_nonneg hq (Int.le_of_lt (p2pos (k + 1)))
    have eor : orI .u64 (rt (val a b) / 2 ^ (k + 1) * 2 ^ (k + 1)) (2 ^ k) = rt (val a b) / 2 ^ (k + 1) * 2 ^ (k + 1) + 2 ^ k := by
      have h1 := or_add_u64 (k + 1) (a := rt (val a b) / 2 ^ (k + 1)) (b := 2 ^ k) hq (by omega)
      rw [p2cast (k + 1)] at h1
      refine h1 ?_ ?_
      · rw [Int.pow_succ]; omega
      · by_cases hk : k = 63
        · subst hk
          have : rt (val a b) / 2 ^ (63 + 1) = 0 := Int.ediv_eq_zero_of_lt r1 (by rw [show (2 : Int) ^ (63 + 1) = 18446744073709551616 by decide]; omega)
          rw [this]
          decide
        · have := p2mono (a := k) (b := 62) (by omega)
          rw [show (2 : Int) ^ 62 = 4611686018427387904 by decide] at this
          omega
    rw [eor]
    have hyU : U64 (rt (val a b) / 2 ^ (k + 1) * 2 ^ (k + 1) + 2 ^ k) := by
      have hw := orI .u64 (rt (val a b) / 2 ^ (k + 1) * 2 ^ (k + 1)) (2 ^ k)
      rw [← eor, or_u64_bv]
      exact wu64_U _
    generalize hx : rt (val a b) / 2 ^ (k + 1) * 2 ^ (k + 1) = x at *
    obtain ⟨s1, s2, s3⟩ := a_Square F hyU
    have hle := rt_le (z := val a b) (y := x + 2 ^ k) hz (by omega)
    unfold U64 at hyU
    obtain ⟨b1, b2⟩ := sq_bd hyU.1 hyU.2
    have w5 : IntKind.wrap .i64 ((i : Int) + 1) = ((i + 1 : Nat) : Int) := wi64_s i (by omega)
    refine bp (dt (by omega)) (bp (nn k) (bp s1 ?_))
    rw [s2, s3]
    generalize hs : (x + 2 ^ k) * (x + 2 ^ k) = s at *
    by_cases hhi : hi s ≥ 0
    · have hs127 : s < 170141183460469231731687303715884105728 := by unfold hi at hhi; omega
      obtain ⟨l1, l2⟩ := k_wide_Less F _ _ _ _ (f_Less F (a := a) (c := hi s) hb (lo_U s))
      rw [val_hl, W_in (by unfold W128; omega)] at l2
      refine bp (dt hhi) (bp l1 ?_)
      rw [l2]
      by_cases hc : val a b < s
      · refine bn (by rw [dt hc]; rfl) ?_
        exact ih _ _ (by omega) (by omega) (t2 (fun h => by have := hle.1 h; omega)).symm w5
      · refine bp (by rw [df hc]; rfl) ?_
        exact ih _ _ (by omega) (by omega) (t1 (hle.2 (by omega))).symm w5
    · have hs127 : 170141183460469231731687303715884105728 ≤ s := by unfold hi at hhi; omega
      refine bn (df hhi) ?_
      exact ih _ _ (by omega) (by omega) (t2 (fun h => by have := hle.1 h; omega)).symm w5
/-- what the root of a wide number answers -/
noncomputable def rootR (z : Int) : Value := if z < 0 then .tuple #[.int .u64 0, .bool false] else .tuple #[.int .u64 (rt z), .bool true]
theorem f_rootWide (F : Nat) (hF : 200 ≤ F) {a b : Int} (ha : I64 a) (hb : U64 b) : f_root_Wide F a b = some (.v (rootR (val a b))) := by
  unfold f_root_Wide rootR
  have hn := val_neg (a := a) hb
  by_cases h : a < 0
  · refine bp (dt h) ?_
    rw [if_pos (hn.2 h)]
  · have hz : 0 ≤ val a b := by
      rcases Int.lt_or_le (val a b) 0 with h2 | h2
      · exact absurd (hn.1 h2) h
      · exact h2
    refine bn (df h) ?_
    rw [if_neg (by omega)]
    have hW := val_W ha hb
    unfold W128 at hW
    obtain ⟨r1, r2⟩ := rt_bd hz hW.2
    rw [lp_rootWide_0 F _ ha hb hz a b 0 false 64 F 0 0 0 (by omega) (by omega) ?_ rfl]
    rw [Int.ediv_eq_zero_of_lt r1 (by rw [show (2 : Int) ^ 64 = 18446744073709551616 by decide]; omega)]; simp
theorem lp_rWide_0 (F : Nat) (hF : 200 ≤ F) (ex) {a b : Int} (ha : I64 a) (hb : U64 b) (hz : 0 ≤ val a b) (x0 x1 x2 : Int) (x3 : Bool) : ∀ (k n i : Nat) (x4 x5 x6 : Int), i + k = 64 → k + 1 < n → 0 ≤ x4 → x5 ≤ 13043817825332782212 → x4 ≤ rt (val a b) → rt (val a b) ≤ x5 → x5 - x4 < 2 ^ k → x6 = i →
    ∃ h' i' : Int, L_ref04_Wide_0 F ex n x0 x1 x2 x3 x4 x5 x6 a b = ex x0 x1 x2 x3 (rt (val a b)) h' i' a b
  | _, 0, _, _, _, _, _, h, _, _, _, _, _, _ => absurd h (by omega)
  | 0, n + 1, i, x4, x5, _, h, _, h0, h1, h2, h3, h4, rfl => by
    obtain rfl : x4 = rt (val a b) := by rw [Int.pow_zero] at h4; omega
    refine ⟨x5, i, ?_⟩
    rw [L_ref04_Wide_0]
    unfold B_ref04_Wide_0
    rw [Int.pow_zero] at h4
    exact bp (dt (by omega)) (bn (df (by omega)) rfl)
  | k + 1, n + 1, i, x4, x5, _, h, hn, h0, h1, h2, h3, h4, rfl => by
    rw [L_ref04_Wide_0]
    unfold B_ref04_Wide_0
    by_cases hlt : x4 < x5
    · have hd : 0 ≤ x5 - x4 := by omega
      have em : IntKind.wrap .u64 (IntKind.wrap .u64 (x4 + IntKind.wrap .u64 (Int.tdiv (IntKind.wrap .u64 (x5 - x4)) 2)) + Int.tmod (IntKind.wrap .u64 (x5 - x4)) 2) = x4 + (x5 - x4) / 2 + (x5 - x4) % 2 := by
        rw [wu64_in (x := x5 - x4) (by unfold U64; omega), Int.tdiv_eq_ediv_of_nonneg hd, Int.tmod_eq_emod_of_nonneg hd, wu64_in (x := (x5 - x4) / 2) (by unfold U64; omega), wu64_in (x := x4 + (x5 - x4) / 2) (by unfold U64; omega), wu64_in (by unfold U64; omega)]
      dsimp only
      rw [em]
      generalize hm : x4 + (x5 - x4) / 2 + (x5 - x4) % 2 = m at *
      have hm1 : x4 < m ∧ m ≤ x5 := by omega
      obtain ⟨s1, s2, s3⟩ := a_rSquare F hF (n := m) (by unfold U64; omega)
      have hsq := sq_le (x := m) (y := 13043817825332782212) (by omega) (by omega)
      have e : (13043817825332782212 : Int) * 13043817825332782212 = 170141183460469231722567801800623612944 := by decide
      have hsq0 := Int.mul_nonneg (show 0 ≤ m by omega) (show 0 ≤ m by omega)
      obtain ⟨l1, l2⟩ := k_ref01_Less F _ _ _ _ (f_rLess F (a := a) (c := hi (m * m)) hb (lo_U (m * m)))
      rw [val_hl, W_in (by unfold W128; omega)] at l2
      have hle := rt_le (z := val a b) (y := m) hz (by omega)
      rw [Int.pow_succ] at h4
      have w5 : IntKind.wrap .i64 ((i : Int) + 1) = ((i + 1 : Nat) : Int) := wi64_s i (by omega)
      by_cases hc : val a b < m * m
      · have hrm : rt (val a b) < m := by
          rcases Int.lt_or_le (rt (val a b)) m with h | h
          · exact h
          · have := hle.1 h; omega
        obtain ⟨h', i', ih⟩ := lp_rWide_0 F hF ex ha hb hz x0 x1 x2 x3 k n (i + 1) x4 (m - 1) _ (by omega) (by omega) h0 (by omega) h2 (by omega) (by omega) w5
        refine ⟨h', i', bp (dt (by omega)) (bp (dt hlt) (bp s1 ?_))⟩
        rw [s2, s3]
        refine bp l1 (bp (by rw [l2, dt hc]) ?_)
        rw [wu64_in (x := m - 1) (by unfold U64; omega)]
        exact ih
      · have hrm : m ≤ rt (val a b) := hle.2 (by omega)
        obtain ⟨h', i', ih⟩ := lp_rWide_0 F hF ex ha hb hz x0 x1 x2 x3 k n (i + 1) m x5 _ (by omega) (by omega) (by omega) h1 hrm h3 (by omega) w5
        refine ⟨h', i', bp (dt (by omega)) (bp (dt hlt) (bp s1 ?_))⟩
        rw [s2, s3]
        exact bp l1 (bn (by rw [l2, df hc]) ih)
    · obtain rfl : x4 = rt (val a b) := by omega
      exact ⟨x5, i, bp (dt (by omega)) (bn (df hlt) rfl)⟩
theorem f_rWide (F : Nat) (hF : 200 ≤ F) {a b : Int} (ha : I64 a) (hb : U64 b) : f_ref04_Wide F a b = some (.v (rootR (val a b))) := by
  unfold f_ref04_Wide rootR
  have hn := val_neg (a := a) hb
  by_cases h : a < 0
  · refine bp (dt h) ?_
    rw [if_pos (hn.2 h)]
  · have hz : 0 ≤ val a b := by
      rcases Int.lt_or_le (val a b) 0 with h2 | h2
      · exact absurd (hn.1 h2) h
      · exact h2
    refine bn (df h) ?_
    rw [if_neg (by omega)]
    have hW := val_W ha hb
    unfold W128 at hW
    obtain ⟨r1, r2⟩ := rt_bd hz hW.2
    obtain ⟨h', i', e⟩ := lp_rWide_0 F hF (fun (_ : Int) (_ : Int) (_ : Int) (_ : Bool) (v : Int) (_ : Int) (_ : Int) (_ : Int) (_ : Int) => (some (.v (.tuple #[.int .u64 v, .bool true])) : R)) ha hb hz a b 0 false 64 F 0 0 13043817825332782212 0 (by omega) (by omega) (by omega) (by omega) r1 r2 (by decide) rfl
    exact e
end Go.Xv
namespace Go.Xv
theorem or_u32_bv (a b : Int) : orI .u32 a b = IntKind.wrap .u32 ((BitVec.ofInt 32 a ||| BitVec.ofInt 32 b).toNat : Int) := rfl
theorem or_add_u32 (k : Nat) {a b : Int} (ha0 : 0 ≤ a) (hb : 0 ≤ b) (hb' : b < (2 ^ k : Nat)) (hs : a * (2 ^ k : Nat) + b < 4294967296) : orI .u32 (a * (2 ^ k : Nat)) b = a * (2 ^ k : Nat) + b := by
  obtain ⟨n, rfl⟩ := Int.eq_ofNat_of_zero_le ha0
  obtain ⟨m, rfl⟩ := Int.eq_ofNat_of_zero_le hb
  have e : (n : Int) * (2 ^ k : Nat) = ((n * 2 ^ k : Nat) : Int) := by push_cast; rfl
  rw [e] at hs ⊢
  have h1 : (BitVec.ofInt 32 ((n * 2 ^ k : Nat) : Int)).toNat = n * 2 ^ k := by simp only [BitVec.toNat_ofInt]; omega
  have h2 : (BitVec.ofInt 32 (m : Int)).toNat = m := by simp only [BitVec.toNat_ofInt]; omega
  rw [or_u32_bv, BitVec.toNat_or, h1, h2, or_add_nat k n m (by omega), wu32]
  clear h1 h2 e hb'
  generalize n * 2 ^ k = N at *
  omega
theorem some_u32 {a b : Int} (h : a = b) : (some (VV.v (.int .u32 a)) : R) = some (.v (.int .u32 b)) := by rw [h]
end Go.Xv
namespace Go.Xv
theorem rt32 {n : Int} (hn : U64 n) : 0 ≤ rt n ∧ rt n < 4294967296 := by
  unfold U64 at hn
  obtain ⟨h3, h4, h5⟩ := rt_spec hn.1
  refine ⟨h3, ?_⟩
  rcases Int.lt_or_le (rt n) 4294967296 with hlt | hle
  · exact hlt
  · have := sq_le (x := 4294967296) (y := rt n) (by omega) hle
    omega
theorem lp_rootOf_0 (F : Nat) (ex) {z : Int} (hz : U64 z) (x1 : Int) : ∀ (k n i : Nat) (x2 x3 : Int), i + k = 32 → k < n → x2 = rt z / 2 ^ k * 2 ^ k → x3 = i →
    L_root_Of_0 F ex n z x1 x2 x3 = ex z x1 (rt z) 32
  | _, 0, _, _, _, _, h, _, _ => absurd h (by omega)
  | 0, n + 1, i, _, _, h, _, rfl, rfl => by
    obtain rfl : i = 32 := by omega
    rw [L_root_Of_0]
    unfold B_root_Of_0
    refine bn (df (by omega)) ?_
    rw [Int.pow_zero, Int.ediv_one, Int.mul_one]; rfl
  | k + 1, n + 1, i, _, _, h, hn, rfl, rfl => by
    obtain ⟨r1, r2⟩ := rt32 hz
    have ih := lp_rootOf_0 F ex hz x1 k n (i + 1)
    rw [L_root_Of_0]
    unfold B_root_Of_0
    dsimp only
    have hi31 : IntKind.wrap .i64 (31 - (i : Int)) = ((k : Nat) : Int) := by rw [wi64_in (by unfold I64; omega)]; omega
    have hP := p2pos k
    have hPb : (2 : Int) ^ k ≤ 2147483648 := by
      have := p2mono (a := k) (b := 31) (by omega)
      simpa using this
    rw [hi31, show min (Int.toNat ((k : Nat) : Int)) 32 = k by omega, Int.one_mul, wu32_in (x := 2 ^ k) (by unfold U32; omega)]
    obtain ⟨t1, t2⟩ := top_step (r := rt z) (P := 2 ^ k) r1 hP
    rw [show (2 : Int) * 2 ^ k = 2 ^ (k + 1) by rw [Int.pow_succ, Int.mul_comm]] at t1 t2
    have hq := Int.ediv_nonneg r1 (Int.le_of_lt (p2pos (k + 1)))
    have hqr : rt z / 2 ^ (k + 1) * 2 ^ (k + 1) ≤ rt z := Int.ediv_mul_le _ (by have := p2pos (k + 1); omega)
    have hq0 := Int.mul_nonneg hq (Int.le_of_lt (p2pos (k + 1)))
    have hlt : rt z / 2 ^ (k + 1) * 2 ^ (k + 1) + 2 ^ k < 4294967296 := by
      have e : (4294967296 : Int) = 2 ^ (31 - k) * 2 ^ (k + 1) := by
        rw [p2add, show 31 - k + (k + 1) = 32 by omega]; decide
      have h1 : rt z / 2 ^ (k + 1) < 2 ^ (31 - k) := Int.ediv_lt_of_lt_mul (p2pos _) (by rw [← e]; exact r2)
      have h2 : rt z / 2 ^ (k + 1) * 2 ^ (k + 1) ≤ (2 ^ (31 - k) - 1) * 2 ^ (k + 1) := Int.mul_le_mul_of_nonneg_right (by omega) (Int.le_of_lt (p2pos _))
      rw [Int.sub_mul, ← e, Int.pow_succ] at h2
      rw [Int.pow_succ]
      omega
    have eor : orI .u32 (rt z / 2 ^ (k + 1) * 2 ^ (k + 1)) (2 ^ k) = rt z / 2 ^ (k + 1) * 2 ^ (k + 1) + 2 ^ k := by
      have h1 := or_add_u32 (k + 1) (a := rt z / 2 ^ (k + 1)) (b := 2 ^ k) hq (by omega)
      rw [p2cast (k + 1)] at h1
      exact h1 (by rw [Int.pow_succ]; omega) hlt
    rw [eor]
    generalize hx : rt z / 2 ^ (k + 1) * 2 ^ (k + 1) = x at *
    have hle := rt_le (z := z) (y := x + 2 ^ k) hz.1 (by omega)
    have hsq := sq_le (x := x + 2 ^ k) (y := 4294967295) (by omega) (by omega)
    have hsq0 := Int.mul_nonneg (show 0 ≤ x + 2 ^ k by omega) (show 0 ≤ x + 2 ^ k by omega)
    have w5 : IntKind.wrap .i64 ((i : Int) + 1) = ((i + 1 : Nat) : Int) := wi64_s i (by omega)
    rw [wu64_in (x := x + 2 ^ k) (by unfold U64; omega), wu64_in (x := (x + 2 ^ k) * (x + 2 ^ k)) (by unfold U64; omega)]
    refine bp (dt (by omega)) (bp (nn k) ?_)
    by_cases hc : (x + 2 ^ k) * (x + 2 ^ k) ≤ z
    · refine bp (dt hc) ?_
      exact ih _ _ (by omega) (by omega) (t1 (hle.2 hc)).symm w5
    · refine bn (df hc) ?_
      exact ih _ _ (by omega) (by omega) (t2 (fun h => hc (hle.1 h))).symm w5
theorem f_rootOf (F : Nat) (hF : 200 ≤ F) {z : Int} (hz : U64 z) : f_root_Of F z = some (.v (.int .u32 (rt z))) := by
  unfold f_root_Of
  obtain ⟨r1, r2⟩ := rt32 hz
  rw [lp_rootOf_0 F _ hz 0 32 F 0 0 0 (by omega) (by omega) (by rw [Int.ediv_eq_zero_of_lt r1 (by rw [show (2 : Int) ^ 32 = 4294967296 by decide]; omega)]; simp) rfl]
theorem a_rootOf (F : Nat) (hF : 200 ≤ F) {z : Int} (hz : U64 z) : ok_root_Of F z = true ∧ o_root_Of_0 F z = rt z := k_root_Of F _ (f_rootOf F hF hz)
theorem val0 (n : Int) : val 0 n = n := by unfold val; omega
theorem f_rOf4 (F : Nat) (hF : 200 ≤ F) {z : Int} (hz : U64 z) : f_ref04_Of F z = some (.v (.int .u32 (rt z))) := by
  unfold f_ref04_Of
  have h := f_rWide F hF (a := 0) (by unfold I64; omega) hz
  rw [val0] at h
  unfold rootR at h
  have h0 : ¬ z < 0 := by unfold U64 at hz; omega
  rw [if_neg h0] at h
  obtain ⟨w1, w2, w3⟩ := k_ref04_Wide F _ _ h
  obtain ⟨r1, r2⟩ := rt32 hz
  refine bp w1 (some_u32 ?_)
  rw [w2, wu32_in ⟨r1, r2⟩]
noncomputable def fixR (a : Int) : Int := if a < 0 then 0 else rt (a * 4294967296)
theorem rt_fix {a : Int} (ha : I64 a) (h0 : ¬ a < 0) : 0 ≤ rt (a * 4294967296) ∧ rt (a * 4294967296) ≤ 281474976710656 := by
  unfold I64 at ha
  obtain ⟨h3, h4, h5⟩ := rt_spec (z := a * 4294967296) (by omega)
  refine ⟨h3, ?_⟩
  rcases Int.lt_or_le 281474976710656 (rt (a * 4294967296)) with hlt | hle
  · have := sq_le (x := 281474976710656) (y := rt (a * 4294967296)) (by omega) (by omega)
    omega
  · exact hle
theorem some_fix {n : Int} {c : Bool} {a : Int} (h : n = fixR a) (k : c = !decide (a < 0)) : (some (VV.v (.tuple #[.int .i64 n, .bool c])) : R) = some (.v (.tuple #[.int .i64 (fixR a), .bool (!decide (a < 0))])) := by rw [h, k]
theorem f_rootFix (F : Nat) (hF : 200 ≤ F) {a : Int} (ha : I64 a) : f_root_Fix F a = some (.v (.tuple #[.int .i64 (fixR a), .bool (!decide (a < 0))])) := by
  unfold f_root_Fix
  dsimp only
  obtain ⟨o1, o2, o3⟩ := a_Of F ha
  obtain ⟨l1, l2, l3⟩ := a_Left F a 32
  rw [show ((32 : Int).toNat) = 32 from rfl, show (2 : Int) ^ 32 = 4294967296 by decide] at l2 l3
  have h := f_rootWide F hF (hi_I (a * 4294967296)) (lo_U (a * 4294967296))
  rw [val_hl, W_in (p32W ha)] at h
  unfold rootR at h
  rw [o2, o3]
  refine bp o1 (bp l1 ?_)
  rw [l2, l3]
  by_cases h0 : a < 0
  · rw [if_pos (by omega)] at h
    obtain ⟨w1, w2, w3⟩ := k_root_Wide F _ _ h
    refine bp w1 (some_fix ?_ ?_)
    · rw [w2]; unfold fixR; rw [if_pos h0]; rfl
    · rw [w3, dt h0]; rfl
  · rw [if_neg (by omega)] at h
    obtain ⟨w1, w2, w3⟩ := k_root_Wide F _ _ h
    have hb := rt_fix ha h0
    refine bp w1 (some_fix ?_ ?_)
    · rw [w2, wi64_in (by unfold I64; omega)]; unfold fixR; rw [if_neg h0]
    · rw [w3, df h0]; rfl
theorem a_rootFix (F : Nat) (hF : 200 ≤ F) {a : Int} (ha : I64 a) : ok_root_Fix F a = true ∧ o_root_Fix_0 F a = fixR a ∧ o_root_Fix_1 F a = !decide (a < 0) := k_root_Fix F _ (f_rootFix F hF ha)
theorem f_rFix4 (F : Nat) (hF : 200 ≤ F) {a : Int} (ha : I64 a) : f_ref04_Fix F a = some (.v (.tuple #[.int .i64 (fixR a), .bool (!decide (a < 0))])) := by
  unfold f_ref04_Fix
  dsimp only
  by_cases h0 : a < 0
  · refine bp (dt h0) (some_fix ?_ ?_)
    · unfold fixR; rw [if_pos h0]
    · rw [dt h0]; rfl
  · obtain ⟨o1, o2, o3⟩ := a_rOf F ha
    obtain ⟨l1, l2, l3⟩ := a_rLeft F hF a 32
    rw [show ((32 : Int).toNat) = 32 from rfl, show (2 : Int) ^ 32 = 4294967296 by decide] at l2 l3
    have h := f_rWide F hF (hi_I (a * 4294967296)) (lo_U (a * 4294967296))
    rw [val_hl, W_in (p32W ha)] at h
    unfold rootR at h
    rw [if_neg (by omega)] at h
    obtain ⟨w1, w2, w3⟩ := k_ref04_Wide F _ _ h
    have hb := rt_fix ha h0
    rw [o2, o3]
    refine bn (df h0) (bp o1 (bp l1 ?_))
    rw [l2, l3]
    refine bp w1 (some_fix ?_ ?_)
    · rw [w2, wi64_in (by unfold I64; omega)]; unfold fixR; rw [if_neg h0]
    · rw [df h0]; rfl
theorem f_works04 (F : Nat) (hF : 200 ≤ F) : f_law04_works F = some (.v (.bool true)) := by
  unfold f_law04_works
  obtain ⟨h1, h2, h3⟩ := a_rootFix F hF (a := 8589934592) (by unfold I64; omega)
  obtain ⟨g1, g2⟩ := a_rootOf F hF (z := 15) (by unfold U64; omega)
  obtain ⟨i1, i2⟩ := a_rootOf F hF (z := 16) (by unfold U64; omega)
  have e1 : fixR 8589934592 = 6074000999 := by
    unfold fixR
    rw [if_neg (by omega)]
    exact rt_eq (by omega) (by decide) (by decide)
  have e2 : rt 15 = 3 := rt_eq (by omega) (by decide) (by decide)
  have e3 : rt 16 = 4 := rt_eq (by omega) (by decide) (by decide)
  rw [e1] at h2
  rw [e2] at g2
  rw [e3] at i2
  simp only [h1, h2, h3, g1, g2, i1, i2, BEq.rfl, cond_true]
  rfl
theorem a_works04 (F : Nat) (hF : 200 ≤ F) : ok_law04_works F = true ∧ o_law04_works_0 F = true := k_law04_works F (f_works04 F hF)
end Go.Xv
