/- The worst state of any zones is as the document says, or refused: the law returns true for every input, and leaves its arguments as they were. -/
import Derived.Test.YtjhnmpfaemhnhaaLFenceWorst
import Derived.KernelRfl
import Derived.RangeFuncBox
set_option linter.unusedVariables false
namespace Go.Xv
/- 25 _fence_square_touches -/
def c_fence_square_touches : Cfg := ⟨[0, 1, 2, 3, 4, 5, 6, 7, 8, 9, 11, 12, 14, 15, 16, 44, 50, 51, 52], [(0, [0, 1, 2, 3, 4, 5, 6, 9, 11, 12, 13, 14, 15, 46, 47, 48, 49, 50, 51, 52, 53, 54, 55, 56, 57, 58, 59, 60, 61, 62, 63, 64, 65, 66, 67, 68, 69, 70, 71, 72, 73, 74, 75, 76, 77, 78, 79, 80, 81, 82, 83, 84, 85]), (2, [0, 1, 2, 3, 4, 5, 6, 7, 8, 9, 13, 14, 15, 16, 17, 18, 19, 20, 21, 22, 23, 24, 25, 26, 27, 28, 29, 30, 31, 32, 33, 34, 35, 36, 37, 38, 39, 40, 41, 42, 43, 44, 45, 46, 47, 48, 49, 50, 51, 80, 81, 82, 83, 84, 85])], [], []⟩
def ti_fence_square_touches : List TV := [.v (.agg [.int .i64, .int .i64, .int .i64]), .v (.agg [.int .i64, .int .i64]), .v (.agg [.int .i64, .int .i64])]
def to_fence_square_touches : TV := .v (.bool)
def S_fence_square_touches (F : Nat) : FuncId → List VV → Option (Bool × VV) := words [(22, s_fence_side F)]
def T_fence_square_touches_0 : TS := ⟨[(0, .v (.agg [.int .i64, .int .i64, .int .i64])), (1, .v (.agg [.int .i64, .int .i64])), (2, .v (.agg [.int .i64, .int .i64])), (3, .lp 0 (.lit 0)), (4, .lp 1 (.lit 0)), (5, .lp 2 (.lit 0)), (6, .v (.bool)), (14, .v (.agg [.int .i64, .int .i64])), (15, .v (.int .i64))], [(0, ⟨(.ex [.v (.int .i64), .v (.int .i64), .v (.int .i64)]), true⟩), (1, ⟨(.ex [.v (.int .i64), .v (.int .i64)]), true⟩), (2, ⟨(.ex [.v (.int .i64), .v (.int .i64)]), true⟩)], 3⟩
def T_fence_square_touches_0_0 : TS := ⟨[(0, .v (.agg [.int .i64, .int .i64, .int .i64])), (1, .v (.agg [.int .i64, .int .i64])), (2, .v (.agg [.int .i64, .int .i64])), (3, .lp 0 (.lit 0)), (4, .lp 1 (.lit 0)), (5, .lp 2 (.lit 0)), (6, .v (.bool)), (7, .v (.int .i64)), (8, .v (.int .i64)), (14, .v (.agg [.int .i64, .int .i64])), (15, .v (.int .i64))], [(0, ⟨(.ex [.v (.int .i64), .v (.int .i64), .v (.int .i64)]), true⟩), (1, ⟨(.ex [.v (.int .i64), .v (.int .i64)]), true⟩), (2, ⟨(.ex [.v (.int .i64), .v (.int .i64)]), true⟩)], 3⟩
def T_fence_square_touches_0_1 : TS := ⟨[(0, .v (.agg [.int .i64, .int .i64, .int .i64])), (1, .v (.agg [.int .i64, .int .i64])), (2, .v (.agg [.int .i64, .int .i64])), (3, .lp 0 (.lit 0)), (4, .lp 1 (.lit 0)), (5, .lp 2 (.lit 0)), (6, .v (.bool)), (14, .v (.agg [.int .i64, .int .i64])), (15, .v (.int .i64))], [(0, ⟨(.ex [.v (.int .i64), .v (.int .i64), .v (.int .i64)]), true⟩), (1, ⟨(.ex [.v (.int .i64), .v (.int .i64)]), true⟩), (2, ⟨(.ex [.v (.int .i64), .v (.int .i64)]), true⟩)], 3⟩
def B_fence_square_touches_0 (F : Nat) (rc : Int → Int → Int → Int → Int → Int → Int → Bool → Int → Int → Int → Int → Int → Int → Int → Int → Int → Int → R) (ex0 : Int → Int → Int → Int → Int → Int → Int → Bool → Int → Int → Int → Int → Int → Int → Int → Int → Int → Int → Int → Int → R) (ex1 : Int → Int → Int → Int → Int → Int → Int → Bool → Int → Int → Int → Int → Int → Int → Int → Int → Int → Int → R) (x0 : Int) (x1 : Int) (x2 : Int) (x3 : Int) (x4 : Int) (x5 : Int) (x6 : Int) (x7 : Bool) (x8 : Int) (x9 : Int) (x10 : Int) (x11 : Int) (x12 : Int) (x13 : Int) (x14 : Int) (x15 : Int) (x16 : Int) (x17 : Int) : R :=
  bif ((decide (x10 < 2))) then (
    bif (((decide (0 ≤ x10)) && (decide (x10 < 2))) && ((isI .i64 [.v (.int .i64 x8), .v (.int .i64 x9)][((Int.toNat x10) * 1)]?) && true)) then (
      let v113 : Int := (iv [.v (.int .i64 x8), .v (.int .i64 x9)][((Int.toNat x10) * 1)]?)
      bif ((decide (0 ≤ x10)) && (decide (x10 < 2))) then (
        let v114 : Nat := (0 + ((Int.toNat x10) * 1))
        bif ((isI .i64 [.v (.int .i64 x14), .v (.int .i64 x15)][v114]?) && true) then (
          let v115 : Int := (iv [.v (.int .i64 x14), .v (.int .i64 x15)][v114]?)
          bif ((decide (0 ≤ x10)) && (decide (x10 < 2))) then (
            let v116 : Nat := (0 + ((Int.toNat x10) * 1))
            bif ((isI .i64 [.v (.int .i64 x16), .v (.int .i64 x17)][v116]?) && true) then (
              let v117 : Int := (iv [.v (.int .i64 x16), .v (.int .i64 x17)][v116]?)
              bif ((decide (((if v117 > v115 then v117 else v115)) < ((IntKind.wrap .i64 (v113 - x13)))))) then (
                ex0 x0 x1 x2 x3 x4 x5 x6 false x10 v113 x8 x9 x10 x11 x12 x13 x14 x15 x16 x17)
              else (
                bif ((decide (0 ≤ x10)) && (decide (x10 < 2))) then (
                  let v121 : Nat := (0 + ((Int.toNat x10) * 1))
                  bif ((isI .i64 [.v (.int .i64 x14), .v (.int .i64 x15)][v121]?) && true) then (
                    let v122 : Int := (iv [.v (.int .i64 x14), .v (.int .i64 x15)][v121]?)
                    bif ((decide (0 ≤ x10)) && (decide (x10 < 2))) then (
                      let v123 : Nat := (0 + ((Int.toNat x10) * 1))
                      bif ((isI .i64 [.v (.int .i64 x16), .v (.int .i64 x17)][v123]?) && true) then (
                        let v124 : Int := (iv [.v (.int .i64 x16), .v (.int .i64 x17)][v123]?)
                        bif ((decide (((if v124 < v122 then v124 else v122)) > ((IntKind.wrap .i64 (v113 + x13)))))) then (
                          ex0 x0 x1 x2 x3 x4 x5 x6 false x10 v113 x8 x9 x10 x11 x12 x13 x14 x15 x16 x17)
                        else (
                          rc x0 x1 x2 x3 x4 x5 x6 x7 x8 x9 ((IntKind.wrap .i64 (x10 + 1))) x11 x12 x13 x14 x15 x16 x17))
                      else (
                        none))
                    else (
                      none))
                  else (
                    none))
                else (
                  none)))
            else (
              none))
          else (
            none))
        else (
          none))
      else (
        none))
    else (
      none))
  else (
    ex1 x0 x1 x2 x3 x4 x5 x6 x7 x8 x9 x10 x11 x12 x13 x14 x15 x16 x17)
def L_fence_square_touches_0 (F : Nat) (ex0 : Int → Int → Int → Int → Int → Int → Int → Bool → Int → Int → Int → Int → Int → Int → Int → Int → Int → Int → Int → Int → R) (ex1 : Int → Int → Int → Int → Int → Int → Int → Bool → Int → Int → Int → Int → Int → Int → Int → Int → Int → Int → R) : Nat → Int → Int → Int → Int → Int → Int → Int → Bool → Int → Int → Int → Int → Int → Int → Int → Int → Int → Int → R
  | 0, _, _, _, _, _, _, _, _, _, _, _, _, _, _, _, _, _, _ => none
  | n + 1, x0, x1, x2, x3, x4, x5, x6, x7, x8, x9, x10, x11, x12, x13, x14, x15, x16, x17 => B_fence_square_touches_0 F (L_fence_square_touches_0 F ex0 ex1 n) ex0 ex1 x0 x1 x2 x3 x4 x5 x6 x7 x8 x9 x10 x11 x12 x13 x14 x15 x16 x17
def T_fence_square_touches_1 : TS := ⟨[(0, .v (.agg [.int .i64, .int .i64, .int .i64])), (1, .v (.agg [.int .i64, .int .i64])), (2, .v (.agg [.int .i64, .int .i64])), (3, .lp 0 (.lit 0)), (4, .lp 1 (.lit 0)), (5, .lp 2 (.lit 0)), (6, .v (.bool)), (9, .v (.int .i64)), (14, .v (.agg [.int .i64, .int .i64])), (15, .v (.int .i64)), (50, .v (.agg [.int .i64, .int .i64, .int .i64, .int .i64, .int .i64, .int .i64, .int .i64, .int .i64])), (51, .v (.int .i64))], [(0, ⟨(.ex [.v (.int .i64), .v (.int .i64), .v (.int .i64)]), true⟩), (1, ⟨(.ex [.v (.int .i64), .v (.int .i64)]), true⟩), (2, ⟨(.ex [.v (.int .i64), .v (.int .i64)]), true⟩)], 3⟩
def T_fence_square_touches_1_0 : TS := ⟨[(0, .v (.agg [.int .i64, .int .i64, .int .i64])), (1, .v (.agg [.int .i64, .int .i64])), (2, .v (.agg [.int .i64, .int .i64])), (3, .lp 0 (.lit 0)), (4, .lp 1 (.lit 0)), (5, .lp 2 (.lit 0)), (6, .v (.bool)), (9, .v (.int .i64)), (14, .v (.agg [.int .i64, .int .i64])), (15, .v (.int .i64)), (50, .v (.agg [.int .i64, .int .i64, .int .i64, .int .i64, .int .i64, .int .i64, .int .i64, .int .i64])), (51, .v (.int .i64))], [(0, ⟨(.ex [.v (.int .i64), .v (.int .i64), .v (.int .i64)]), true⟩), (1, ⟨(.ex [.v (.int .i64), .v (.int .i64)]), true⟩), (2, ⟨(.ex [.v (.int .i64), .v (.int .i64)]), true⟩)], 3⟩
def B_fence_square_touches_1 (F : Nat) (rc : Int → Int → Int → Int → Int → Int → Int → Bool → Int → Int → Int → Int → Int → Int → Int → Int → Int → Int → Int → Int → Int → Int → Int → Int → Int → Int → Int → Int → R) (ex0 : Int → Int → Int → Int → Int → Int → Int → Bool → Int → Int → Int → Int → Int → Int → Int → Int → Int → Int → Int → Int → Int → Int → Int → Int → Int → Int → Int → Int → R) (x0 : Int) (x1 : Int) (x2 : Int) (x3 : Int) (x4 : Int) (x5 : Int) (x6 : Int) (x7 : Bool) (x8 : Int) (x9 : Int) (x10 : Int) (x11 : Int) (x12 : Int) (x13 : Int) (x14 : Int) (x15 : Int) (x16 : Int) (x17 : Int) (x18 : Int) (x19 : Int) (x20 : Int) (x21 : Int) (x22 : Int) (x23 : Int) (x24 : Int) (x25 : Int) (x26 : Int) (x27 : Int) : R :=
  bif ((decide (x20 < 4))) then (
    bif (((decide (0 ≤ x20)) && (decide (x20 < 4))) && ((isI .i64 [.v (.int .i64 x12), .v (.int .i64 x13), .v (.int .i64 x14), .v (.int .i64 x15), .v (.int .i64 x16), .v (.int .i64 x17), .v (.int .i64 x18), .v (.int .i64 x19)][((Int.toNat x20) * 2)]?) && ((isI .i64 [.v (.int .i64 x12), .v (.int .i64 x13), .v (.int .i64 x14), .v (.int .i64 x15), .v (.int .i64 x16), .v (.int .i64 x17), .v (.int .i64 x18), .v (.int .i64 x19)][(((Int.toNat x20) * 2) + 1)]?) && true))) then (
      let v199 : Int := (IntKind.wrap .i64 (x21 + ((IntKind.wrap .i64 (((iv [.v (.int .i64 x12), .v (.int .i64 x13), .v (.int .i64 x14), .v (.int .i64 x15), .v (.int .i64 x16), .v (.int .i64 x17), .v (.int .i64 x18), .v (.int .i64 x19)][((Int.toNat x20) * 2)]?)) * x23)))))
      let v201 : Int := (IntKind.wrap .i64 (x22 + ((IntKind.wrap .i64 (((iv [.v (.int .i64 x12), .v (.int .i64 x13), .v (.int .i64 x14), .v (.int .i64 x15), .v (.int .i64 x16), .v (.int .i64 x17), .v (.int .i64 x18), .v (.int .i64 x19)][(((Int.toNat x20) * 2) + 1)]?)) * x23)))))
      bif (ok_fence_side F x24 x25 x26 x27 v199 v201) then (
        rc x0 x1 x2 x3 x4 x5 x6 x7 ((IntKind.wrap .i64 (x8 + ((o_fence_side_0 F x24 x25 x26 x27 v199 v201))))) x9 x10 x11 x12 x13 x14 x15 x16 x17 x18 x19 ((IntKind.wrap .i64 (x20 + 1))) x21 x22 x23 x24 x25 x26 x27)
      else (
        none))
    else (
      none))
  else (
    ex0 x0 x1 x2 x3 x4 x5 x6 x7 x8 x9 x10 x11 x12 x13 x14 x15 x16 x17 x18 x19 x20 x21 x22 x23 x24 x25 x26 x27)
def L_fence_square_touches_1 (F : Nat) (ex0 : Int → Int → Int → Int → Int → Int → Int → Bool → Int → Int → Int → Int → Int → Int → Int → Int → Int → Int → Int → Int → Int → Int → Int → Int → Int → Int → Int → Int → R) : Nat → Int → Int → Int → Int → Int → Int → Int → Bool → Int → Int → Int → Int → Int → Int → Int → Int → Int → Int → Int → Int → Int → Int → Int → Int → Int → Int → Int → Int → R
  | 0, _, _, _, _, _, _, _, _, _, _, _, _, _, _, _, _, _, _, _, _, _, _, _, _, _, _, _, _ => none
  | n + 1, x0, x1, x2, x3, x4, x5, x6, x7, x8, x9, x10, x11, x12, x13, x14, x15, x16, x17, x18, x19, x20, x21, x22, x23, x24, x25, x26, x27 => B_fence_square_touches_1 F (L_fence_square_touches_1 F ex0 n) ex0 x0 x1 x2 x3 x4 x5 x6 x7 x8 x9 x10 x11 x12 x13 x14 x15 x16 x17 x18 x19 x20 x21 x22 x23 x24 x25 x26 x27
def W_fence_square_touches (F : Nat) : List LW := [⟨0, T_fence_square_touches_0, fun k q => L_fence_square_touches_0 F (fun (z0 : Int) (z1 : Int) (z2 : Int) (z3 : Int) (z4 : Int) (z5 : Int) (z6 : Int) (z7 : Bool) (z8 : Int) (z9 : Int) (z10 : Int) (z11 : Int) (z12 : Int) (z13 : Int) (z14 : Int) (z15 : Int) (z16 : Int) (z17 : Int) (z18 : Int) (z19 : Int) => k .ret (fS T_fence_square_touches_0_0 [.i z0, .i z1, .i z2, .i z3, .i z4, .i z5, .i z6, .b z7, .i z8, .i z9, .i z10, .i z11, .i z12, .i z13, .i z14, .i z15, .i z16, .i z17, .i z18, .i z19])) (fun (z0 : Int) (z1 : Int) (z2 : Int) (z3 : Int) (z4 : Int) (z5 : Int) (z6 : Int) (z7 : Bool) (z8 : Int) (z9 : Int) (z10 : Int) (z11 : Int) (z12 : Int) (z13 : Int) (z14 : Int) (z15 : Int) (z16 : Int) (z17 : Int) => k (.exit 0) (fS T_fence_square_touches_0_1 [.i z0, .i z1, .i z2, .i z3, .i z4, .i z5, .i z6, .b z7, .i z8, .i z9, .i z10, .i z11, .i z12, .i z13, .i z14, .i z15, .i z16, .i z17])) F (atI (nth q 0)) (atI (nth q 1)) (atI (nth q 2)) (atI (nth q 3)) (atI (nth q 4)) (atI (nth q 5)) (atI (nth q 6)) (atB (nth q 7)) (atI (nth q 8)) (atI (nth q 9)) (atI (nth q 10)) (atI (nth q 11)) (atI (nth q 12)) (atI (nth q 13)) (atI (nth q 14)) (atI (nth q 15)) (atI (nth q 16)) (atI (nth q 17))⟩, ⟨2, T_fence_square_touches_1, fun k q => L_fence_square_touches_1 F (fun (z0 : Int) (z1 : Int) (z2 : Int) (z3 : Int) (z4 : Int) (z5 : Int) (z6 : Int) (z7 : Bool) (z8 : Int) (z9 : Int) (z10 : Int) (z11 : Int) (z12 : Int) (z13 : Int) (z14 : Int) (z15 : Int) (z16 : Int) (z17 : Int) (z18 : Int) (z19 : Int) (z20 : Int) (z21 : Int) (z22 : Int) (z23 : Int) (z24 : Int) (z25 : Int) (z26 : Int) (z27 : Int) => k (.exit 2) (fS T_fence_square_touches_1_0 [.i z0, .i z1, .i z2, .i z3, .i z4, .i z5, .i z6, .b z7, .i z8, .i z9, .i z10, .i z11, .i z12, .i z13, .i z14, .i z15, .i z16, .i z17, .i z18, .i z19, .i z20, .i z21, .i z22, .i z23, .i z24, .i z25, .i z26, .i z27])) F (atI (nth q 0)) (atI (nth q 1)) (atI (nth q 2)) (atI (nth q 3)) (atI (nth q 4)) (atI (nth q 5)) (atI (nth q 6)) (atB (nth q 7)) (atI (nth q 8)) (atI (nth q 9)) (atI (nth q 10)) (atI (nth q 11)) (atI (nth q 12)) (atI (nth q 13)) (atI (nth q 14)) (atI (nth q 15)) (atI (nth q 16)) (atI (nth q 17)) (atI (nth q 18)) (atI (nth q 19)) (atI (nth q 20)) (atI (nth q 21)) (atI (nth q 22)) (atI (nth q 23)) (atI (nth q 24)) (atI (nth q 25)) (atI (nth q 26)) (atI (nth q 27))⟩]
def I_fence_square_touches (F : Nat) : Nat → VS → (Exit → VS → R) → R := tabI c_fence_square_touches (W_fence_square_touches F)
def WJ_fence_square_touches (F : Nat) : List LJ := []
def J_fence_square_touches (F : Nat) : Nat → Nat → VS → (Exit → VS → R) → R := tabJ (WJ_fence_square_touches F)
theorem lL_fence_square_touches_0 (F : Nat) (k : Exit → VS → R) : ∀ (n : Nat) (x0 : Int) (x1 : Int) (x2 : Int) (x3 : Int) (x4 : Int) (x5 : Int) (x6 : Int) (x7 : Bool) (x8 : Int) (x9 : Int) (x10 : Int) (x11 : Int) (x12 : Int) (x13 : Int) (x14 : Int) (x15 : Int) (x16 : Int) (x17 : Int), iterC (codeL PP (S_fence_square_touches F) c_fence_square_touches (I_fence_square_touches F) (J_fence_square_touches F) (loopAt PP 25 0) 0) (headOf c_fence_square_touches 0) k n (fS T_fence_square_touches_0 [.i x0, .i x1, .i x2, .i x3, .i x4, .i x5, .i x6, .b x7, .i x8, .i x9, .i x10, .i x11, .i x12, .i x13, .i x14, .i x15, .i x16, .i x17]) = L_fence_square_touches_0 F (fun (z0 : Int) (z1 : Int) (z2 : Int) (z3 : Int) (z4 : Int) (z5 : Int) (z6 : Int) (z7 : Bool) (z8 : Int) (z9 : Int) (z10 : Int) (z11 : Int) (z12 : Int) (z13 : Int) (z14 : Int) (z15 : Int) (z16 : Int) (z17 : Int) (z18 : Int) (z19 : Int) => k .ret (fS T_fence_square_touches_0_0 [.i z0, .i z1, .i z2, .i z3, .i z4, .i z5, .i z6, .b z7, .i z8, .i z9, .i z10, .i z11, .i z12, .i z13, .i z14, .i z15, .i z16, .i z17, .i z18, .i z19])) (fun (z0 : Int) (z1 : Int) (z2 : Int) (z3 : Int) (z4 : Int) (z5 : Int) (z6 : Int) (z7 : Bool) (z8 : Int) (z9 : Int) (z10 : Int) (z11 : Int) (z12 : Int) (z13 : Int) (z14 : Int) (z15 : Int) (z16 : Int) (z17 : Int) => k (.exit 0) (fS T_fence_square_touches_0_1 [.i z0, .i z1, .i z2, .i z3, .i z4, .i z5, .i z6, .b z7, .i z8, .i z9, .i z10, .i z11, .i z12, .i z13, .i z14, .i z15, .i z16, .i z17])) n x0 x1 x2 x3 x4 x5 x6 x7 x8 x9 x10 x11 x12 x13 x14 x15 x16 x17
  | 0, _, _, _, _, _, _, _, _, _, _, _, _, _, _, _, _, _, _ => rfl
  | n + 1, x0, x1, x2, x3, x4, x5, x6, x7, x8, x9, x10, x11, x12, x13, x14, x15, x16, x17 => by
    have h0 : ∀ (ok_fence_side : Nat → Int → Int → Int → Int → Int → Int → Bool) (o_fence_side_0 : Nat → Int → Int → Int → Int → Int → Int → Int) (L_fence_square_touches_0 : Nat → (Int → Int → Int → Int → Int → Int → Int → Bool → Int → Int → Int → Int → Int → Int → Int → Int → Int → Int → Int → Int → R) → (Int → Int → Int → Int → Int → Int → Int → Bool → Int → Int → Int → Int → Int → Int → Int → Int → Int → Int → R) → Nat → Int → Int → Int → Int → Int → Int → Int → Bool → Int → Int → Int → Int → Int → Int → Int → Int → Int → Int → R) (L_fence_square_touches_1 : Nat → (Int → Int → Int → Int → Int → Int → Int → Bool → Int → Int → Int → Int → Int → Int → Int → Int → Int → Int → Int → Int → Int → Int → Int → Int → Int → Int → Int → Int → R) → Nat → Int → Int → Int → Int → Int → Int → Int → Bool → Int → Int → Int → Int → Int → Int → Int → Int → Int → Int → Int → Int → Int → Int → Int → Int → Int → Int → Int → Int → R), iterC (codeL PP (words [(22, spec ti_fence_side to_fence_side (fun q => (ok_fence_side F (atI (nth q 0)) (atI (nth q 1)) (atI (nth q 2)) (atI (nth q 3)) (atI (nth q 4)) (atI (nth q 5)))) (fun q => [.i (o_fence_side_0 F (atI (nth q 0)) (atI (nth q 1)) (atI (nth q 2)) (atI (nth q 3)) (atI (nth q 4)) (atI (nth q 5)))]))]) c_fence_square_touches (tabI c_fence_square_touches [⟨0, T_fence_square_touches_0, fun k q => L_fence_square_touches_0 F (fun (z0 : Int) (z1 : Int) (z2 : Int) (z3 : Int) (z4 : Int) (z5 : Int) (z6 : Int) (z7 : Bool) (z8 : Int) (z9 : Int) (z10 : Int) (z11 : Int) (z12 : Int) (z13 : Int) (z14 : Int) (z15 : Int) (z16 : Int) (z17 : Int) (z18 : Int) (z19 : Int) => k .ret (fS T_fence_square_touches_0_0 [.i z0, .i z1, .i z2, .i z3, .i z4, .i z5, .i z6, .b z7, .i z8, .i z9, .i z10, .i z11, .i z12, .i z13, .i z14, .i z15, .i z16, .i z17, .i z18, .i z19])) (fun (z0 : Int) (z1 : Int) (z2 : Int) (z3 : Int) (z4 : Int) (z5 : Int) (z6 : Int) (z7 : Bool) (z8 : Int) (z9 : Int) (z10 : Int) (z11 : Int) (z12 : Int) (z13 : Int) (z14 : Int) (z15 : Int) (z16 : Int) (z17 : Int) => k (.exit 0) (fS T_fence_square_touches_0_1 [.i z0, .i z1, .i z2, .i z3, .i z4, .i z5, .i z6, .b z7, .i z8, .i z9, .i z10, .i z11, .i z12, .i z13, .i z14, .i z15, .i z16, .i z17])) F (atI (nth q 0)) (atI (nth q 1)) (atI (nth q 2)) (atI (nth q 3)) (atI (nth q 4)) (atI (nth q 5)) (atI (nth q 6)) (atB (nth q 7)) (atI (nth q 8)) (atI (nth q 9)) (atI (nth q 10)) (atI (nth q 11)) (atI (nth q 12)) (atI (nth q 13)) (atI (nth q 14)) (atI (nth q 15)) (atI (nth q 16)) (atI (nth q 17))⟩, ⟨2, T_fence_square_touches_1, fun k q => L_fence_square_touches_1 F (fun (z0 : Int) (z1 : Int) (z2 : Int) (z3 : Int) (z4 : Int) (z5 : Int) (z6 : Int) (z7 : Bool) (z8 : Int) (z9 : Int) (z10 : Int) (z11 : Int) (z12 : Int) (z13 : Int) (z14 : Int) (z15 : Int) (z16 : Int) (z17 : Int) (z18 : Int) (z19 : Int) (z20 : Int) (z21 : Int) (z22 : Int) (z23 : Int) (z24 : Int) (z25 : Int) (z26 : Int) (z27 : Int) => k (.exit 2) (fS T_fence_square_touches_1_0 [.i z0, .i z1, .i z2, .i z3, .i z4, .i z5, .i z6, .b z7, .i z8, .i z9, .i z10, .i z11, .i z12, .i z13, .i z14, .i z15, .i z16, .i z17, .i z18, .i z19, .i z20, .i z21, .i z22, .i z23, .i z24, .i z25, .i z26, .i z27])) F (atI (nth q 0)) (atI (nth q 1)) (atI (nth q 2)) (atI (nth q 3)) (atI (nth q 4)) (atI (nth q 5)) (atI (nth q 6)) (atB (nth q 7)) (atI (nth q 8)) (atI (nth q 9)) (atI (nth q 10)) (atI (nth q 11)) (atI (nth q 12)) (atI (nth q 13)) (atI (nth q 14)) (atI (nth q 15)) (atI (nth q 16)) (atI (nth q 17)) (atI (nth q 18)) (atI (nth q 19)) (atI (nth q 20)) (atI (nth q 21)) (atI (nth q 22)) (atI (nth q 23)) (atI (nth q 24)) (atI (nth q 25)) (atI (nth q 26)) (atI (nth q 27))⟩]) (tabJ []) (loopAt PP 25 0) 0) (headOf c_fence_square_touches 0) k (n + 1) (fS T_fence_square_touches_0 [.i x0, .i x1, .i x2, .i x3, .i x4, .i x5, .i x6, .b x7, .i x8, .i x9, .i x10, .i x11, .i x12, .i x13, .i x14, .i x15, .i x16, .i x17]) = (fun (rc : Int → Int → Int → Int → Int → Int → Int → Bool → Int → Int → Int → Int → Int → Int → Int → Int → Int → Int → R) (ex0 : Int → Int → Int → Int → Int → Int → Int → Bool → Int → Int → Int → Int → Int → Int → Int → Int → Int → Int → Int → Int → R) (ex1 : Int → Int → Int → Int → Int → Int → Int → Bool → Int → Int → Int → Int → Int → Int → Int → Int → Int → Int → R) (x0 : Int) (x1 : Int) (x2 : Int) (x3 : Int) (x4 : Int) (x5 : Int) (x6 : Int) (x7 : Bool) (x8 : Int) (x9 : Int) (x10 : Int) (x11 : Int) (x12 : Int) (x13 : Int) (x14 : Int) (x15 : Int) (x16 : Int) (x17 : Int) => (
  bif ((decide (x10 < 2))) then (
    bif (((decide (0 ≤ x10)) && (decide (x10 < 2))) && ((isI .i64 [.v (.int .i64 x8), .v (.int .i64 x9)][((Int.toNat x10) * 1)]?) && true)) then (
      let v113 : Int := (iv [.v (.int .i64 x8), .v (.int .i64 x9)][((Int.toNat x10) * 1)]?)
      bif ((decide (0 ≤ x10)) && (decide (x10 < 2))) then (
        let v114 : Nat := (0 + ((Int.toNat x10) * 1))
        bif ((isI .i64 [.v (.int .i64 x14), .v (.int .i64 x15)][v114]?) && true) then (
          let v115 : Int := (iv [.v (.int .i64 x14), .v (.int .i64 x15)][v114]?)
          bif ((decide (0 ≤ x10)) && (decide (x10 < 2))) then (
            let v116 : Nat := (0 + ((Int.toNat x10) * 1))
            bif ((isI .i64 [.v (.int .i64 x16), .v (.int .i64 x17)][v116]?) && true) then (
              let v117 : Int := (iv [.v (.int .i64 x16), .v (.int .i64 x17)][v116]?)
              bif ((decide (((if v117 > v115 then v117 else v115)) < ((IntKind.wrap .i64 (v113 - x13)))))) then (
                ex0 x0 x1 x2 x3 x4 x5 x6 false x10 v113 x8 x9 x10 x11 x12 x13 x14 x15 x16 x17)
              else (
                bif ((decide (0 ≤ x10)) && (decide (x10 < 2))) then (
                  let v121 : Nat := (0 + ((Int.toNat x10) * 1))
                  bif ((isI .i64 [.v (.int .i64 x14), .v (.int .i64 x15)][v121]?) && true) then (
                    let v122 : Int := (iv [.v (.int .i64 x14), .v (.int .i64 x15)][v121]?)
                    bif ((decide (0 ≤ x10)) && (decide (x10 < 2))) then (
                      let v123 : Nat := (0 + ((Int.toNat x10) * 1))
                      bif ((isI .i64 [.v (.int .i64 x16), .v (.int .i64 x17)][v123]?) && true) then (
                        let v124 : Int := (iv [.v (.int .i64 x16), .v (.int .i64 x17)][v123]?)
                        bif ((decide (((if v124 < v122 then v124 else v122)) > ((IntKind.wrap .i64 (v113 + x13)))))) then (
                          ex0 x0 x1 x2 x3 x4 x5 x6 false x10 v113 x8 x9 x10 x11 x12 x13 x14 x15 x16 x17)
                        else (
                          rc x0 x1 x2 x3 x4 x5 x6 x7 x8 x9 ((IntKind.wrap .i64 (x10 + 1))) x11 x12 x13 x14 x15 x16 x17))
                      else (
                        none))
                    else (
                      none))
                  else (
                    none))
                else (
                  none)))
            else (
              none))
          else (
            none))
        else (
          none))
      else (
        none))
    else (
      none))
  else (
    ex1 x0 x1 x2 x3 x4 x5 x6 x7 x8 x9 x10 x11 x12 x13 x14 x15 x16 x17) : R)) (fun (y0 : Int) (y1 : Int) (y2 : Int) (y3 : Int) (y4 : Int) (y5 : Int) (y6 : Int) (y7 : Bool) (y8 : Int) (y9 : Int) (y10 : Int) (y11 : Int) (y12 : Int) (y13 : Int) (y14 : Int) (y15 : Int) (y16 : Int) (y17 : Int) => iterC (codeL PP (words [(22, spec ti_fence_side to_fence_side (fun q => (ok_fence_side F (atI (nth q 0)) (atI (nth q 1)) (atI (nth q 2)) (atI (nth q 3)) (atI (nth q 4)) (atI (nth q 5)))) (fun q => [.i (o_fence_side_0 F (atI (nth q 0)) (atI (nth q 1)) (atI (nth q 2)) (atI (nth q 3)) (atI (nth q 4)) (atI (nth q 5)))]))]) c_fence_square_touches (tabI c_fence_square_touches [⟨0, T_fence_square_touches_0, fun k q => L_fence_square_touches_0 F (fun (z0 : Int) (z1 : Int) (z2 : Int) (z3 : Int) (z4 : Int) (z5 : Int) (z6 : Int) (z7 : Bool) (z8 : Int) (z9 : Int) (z10 : Int) (z11 : Int) (z12 : Int) (z13 : Int) (z14 : Int) (z15 : Int) (z16 : Int) (z17 : Int) (z18 : Int) (z19 : Int) => k .ret (fS T_fence_square_touches_0_0 [.i z0, .i z1, .i z2, .i z3, .i z4, .i z5, .i z6, .b z7, .i z8, .i z9, .i z10, .i z11, .i z12, .i z13, .i z14, .i z15, .i z16, .i z17, .i z18, .i z19])) (fun (z0 : Int) (z1 : Int) (z2 : Int) (z3 : Int) (z4 : Int) (z5 : Int) (z6 : Int) (z7 : Bool) (z8 : Int) (z9 : Int) (z10 : Int) (z11 : Int) (z12 : Int) (z13 : Int) (z14 : Int) (z15 : Int) (z16 : Int) (z17 : Int) => k (.exit 0) (fS T_fence_square_touches_0_1 [.i z0, .i z1, .i z2, .i z3, .i z4, .i z5, .i z6, .b z7, .i z8, .i z9, .i z10, .i z11, .i z12, .i z13, .i z14, .i z15, .i z16, .i z17])) F (atI (nth q 0)) (atI (nth q 1)) (atI (nth q 2)) (atI (nth q 3)) (atI (nth q 4)) (atI (nth q 5)) (atI (nth q 6)) (atB (nth q 7)) (atI (nth q 8)) (atI (nth q 9)) (atI (nth q 10)) (atI (nth q 11)) (atI (nth q 12)) (atI (nth q 13)) (atI (nth q 14)) (atI (nth q 15)) (atI (nth q 16)) (atI (nth q 17))⟩, ⟨2, T_fence_square_touches_1, fun k q => L_fence_square_touches_1 F (fun (z0 : Int) (z1 : Int) (z2 : Int) (z3 : Int) (z4 : Int) (z5 : Int) (z6 : Int) (z7 : Bool) (z8 : Int) (z9 : Int) (z10 : Int) (z11 : Int) (z12 : Int) (z13 : Int) (z14 : Int) (z15 : Int) (z16 : Int) (z17 : Int) (z18 : Int) (z19 : Int) (z20 : Int) (z21 : Int) (z22 : Int) (z23 : Int) (z24 : Int) (z25 : Int) (z26 : Int) (z27 : Int) => k (.exit 2) (fS T_fence_square_touches_1_0 [.i z0, .i z1, .i z2, .i z3, .i z4, .i z5, .i z6, .b z7, .i z8, .i z9, .i z10, .i z11, .i z12, .i z13, .i z14, .i z15, .i z16, .i z17, .i z18, .i z19, .i z20, .i z21, .i z22, .i z23, .i z24, .i z25, .i z26, .i z27])) F (atI (nth q 0)) (atI (nth q 1)) (atI (nth q 2)) (atI (nth q 3)) (atI (nth q 4)) (atI (nth q 5)) (atI (nth q 6)) (atB (nth q 7)) (atI (nth q 8)) (atI (nth q 9)) (atI (nth q 10)) (atI (nth q 11)) (atI (nth q 12)) (atI (nth q 13)) (atI (nth q 14)) (atI (nth q 15)) (atI (nth q 16)) (atI (nth q 17)) (atI (nth q 18)) (atI (nth q 19)) (atI (nth q 20)) (atI (nth q 21)) (atI (nth q 22)) (atI (nth q 23)) (atI (nth q 24)) (atI (nth q 25)) (atI (nth q 26)) (atI (nth q 27))⟩]) (tabJ []) (loopAt PP 25 0) 0) (headOf c_fence_square_touches 0) k n (fS T_fence_square_touches_0 [.i y0, .i y1, .i y2, .i y3, .i y4, .i y5, .i y6, .b y7, .i y8, .i y9, .i y10, .i y11, .i y12, .i y13, .i y14, .i y15, .i y16, .i y17])) (fun (z0 : Int) (z1 : Int) (z2 : Int) (z3 : Int) (z4 : Int) (z5 : Int) (z6 : Int) (z7 : Bool) (z8 : Int) (z9 : Int) (z10 : Int) (z11 : Int) (z12 : Int) (z13 : Int) (z14 : Int) (z15 : Int) (z16 : Int) (z17 : Int) (z18 : Int) (z19 : Int) => k .ret (fS T_fence_square_touches_0_0 [.i z0, .i z1, .i z2, .i z3, .i z4, .i z5, .i z6, .b z7, .i z8, .i z9, .i z10, .i z11, .i z12, .i z13, .i z14, .i z15, .i z16, .i z17, .i z18, .i z19])) (fun (z0 : Int) (z1 : Int) (z2 : Int) (z3 : Int) (z4 : Int) (z5 : Int) (z6 : Int) (z7 : Bool) (z8 : Int) (z9 : Int) (z10 : Int) (z11 : Int) (z12 : Int) (z13 : Int) (z14 : Int) (z15 : Int) (z16 : Int) (z17 : Int) => k (.exit 0) (fS T_fence_square_touches_0_1 [.i z0, .i z1, .i z2, .i z3, .i z4, .i z5, .i z6, .b z7, .i z8, .i z9, .i z10, .i z11, .i z12, .i z13, .i z14, .i z15, .i z16, .i z17])) x0 x1 x2 x3 x4 x5 x6 x7 x8 x9 x10 x11 x12 x13 x14 x15 x16 x17 := by
      intros
      kernel_rfl
    have h : iterC (codeL PP (S_fence_square_touches F) c_fence_square_touches (I_fence_square_touches F) (J_fence_square_touches F) (loopAt PP 25 0) 0) (headOf c_fence_square_touches 0) k (n + 1) (fS T_fence_square_touches_0 [.i x0, .i x1, .i x2, .i x3, .i x4, .i x5, .i x6, .b x7, .i x8, .i x9, .i x10, .i x11, .i x12, .i x13, .i x14, .i x15, .i x16, .i x17]) = B_fence_square_touches_0 F (fun (y0 : Int) (y1 : Int) (y2 : Int) (y3 : Int) (y4 : Int) (y5 : Int) (y6 : Int) (y7 : Bool) (y8 : Int) (y9 : Int) (y10 : Int) (y11 : Int) (y12 : Int) (y13 : Int) (y14 : Int) (y15 : Int) (y16 : Int) (y17 : Int) => iterC (codeL PP (S_fence_square_touches F) c_fence_square_touches (I_fence_square_touches F) (J_fence_square_touches F) (loopAt PP 25 0) 0) (headOf c_fence_square_touches 0) k n (fS T_fence_square_touches_0 [.i y0, .i y1, .i y2, .i y3, .i y4, .i y5, .i y6, .b y7, .i y8, .i y9, .i y10, .i y11, .i y12, .i y13, .i y14, .i y15, .i y16, .i y17])) (fun (z0 : Int) (z1 : Int) (z2 : Int) (z3 : Int) (z4 : Int) (z5 : Int) (z6 : Int) (z7 : Bool) (z8 : Int) (z9 : Int) (z10 : Int) (z11 : Int) (z12 : Int) (z13 : Int) (z14 : Int) (z15 : Int) (z16 : Int) (z17 : Int) (z18 : Int) (z19 : Int) => k .ret (fS T_fence_square_touches_0_0 [.i z0, .i z1, .i z2, .i z3, .i z4, .i z5, .i z6, .b z7, .i z8, .i z9, .i z10, .i z11, .i z12, .i z13, .i z14, .i z15, .i z16, .i z17, .i z18, .i z19])) (fun (z0 : Int) (z1 : Int) (z2 : Int) (z3 : Int) (z4 : Int) (z5 : Int) (z6 : Int) (z7 : Bool) (z8 : Int) (z9 : Int) (z10 : Int) (z11 : Int) (z12 : Int) (z13 : Int) (z14 : Int) (z15 : Int) (z16 : Int) (z17 : Int) => k (.exit 0) (fS T_fence_square_touches_0_1 [.i z0, .i z1, .i z2, .i z3, .i z4, .i z5, .i z6, .b z7, .i z8, .i z9, .i z10, .i z11, .i z12, .i z13, .i z14, .i z15, .i z16, .i z17])) x0 x1 x2 x3 x4 x5 x6 x7 x8 x9 x10 x11 x12 x13 x14 x15 x16 x17 := (h0 ok_fence_side o_fence_side_0 L_fence_square_touches_0 L_fence_square_touches_1).trans (by kernel_rfl)
    rw [h]
    simp only [lL_fence_square_touches_0 F k n]
    rfl
theorem lL_fence_square_touches_1 (F : Nat) (k : Exit → VS → R) : ∀ (n : Nat) (x0 : Int) (x1 : Int) (x2 : Int) (x3 : Int) (x4 : Int) (x5 : Int) (x6 : Int) (x7 : Bool) (x8 : Int) (x9 : Int) (x10 : Int) (x11 : Int) (x12 : Int) (x13 : Int) (x14 : Int) (x15 : Int) (x16 : Int) (x17 : Int) (x18 : Int) (x19 : Int) (x20 : Int) (x21 : Int) (x22 : Int) (x23 : Int) (x24 : Int) (x25 : Int) (x26 : Int) (x27 : Int), iterC (codeL PP (S_fence_square_touches F) c_fence_square_touches (I_fence_square_touches F) (J_fence_square_touches F) (loopAt PP 25 1) 2) (headOf c_fence_square_touches 2) k n (fS T_fence_square_touches_1 [.i x0, .i x1, .i x2, .i x3, .i x4, .i x5, .i x6, .b x7, .i x8, .i x9, .i x10, .i x11, .i x12, .i x13, .i x14, .i x15, .i x16, .i x17, .i x18, .i x19, .i x20, .i x21, .i x22, .i x23, .i x24, .i x25, .i x26, .i x27]) = L_fence_square_touches_1 F (fun (z0 : Int) (z1 : Int) (z2 : Int) (z3 : Int) (z4 : Int) (z5 : Int) (z6 : Int) (z7 : Bool) (z8 : Int) (z9 : Int) (z10 : Int) (z11 : Int) (z12 : Int) (z13 : Int) (z14 : Int) (z15 : Int) (z16 : Int) (z17 : Int) (z18 : Int) (z19 : Int) (z20 : Int) (z21 : Int) (z22 : Int) (z23 : Int) (z24 : Int) (z25 : Int) (z26 : Int) (z27 : Int) => k (.exit 2) (fS T_fence_square_touches_1_0 [.i z0, .i z1, .i z2, .i z3, .i z4, .i z5, .i z6, .b z7, .i z8, .i z9, .i z10, .i z11, .i z12, .i z13, .i z14, .i z15, .i z16, .i z17, .i z18, .i z19, .i z20, .i z21, .i z22, .i z23, .i z24, .i z25, .i z26, .i z27])) n x0 x1 x2 x3 x4 x5 x6 x7 x8 x9 x10 x11 x12 x13 x14 x15 x16 x17 x18 x19 x20 x21 x22 x23 x24 x25 x26 x27
  | 0, _, _, _, _, _, _, _, _, _, _, _, _, _, _, _, _, _, _, _, _, _, _, _, _, _, _, _, _ => rfl
  | n + 1, x0, x1, x2, x3, x4, x5, x6, x7, x8, x9, x10, x11, x12, x13, x14, x15, x16, x17, x18, x19, x20, x21, x22, x23, x24, x25, x26, x27 => by
    have h0 : ∀ (ok_fence_side : Nat → Int → Int → Int → Int → Int → Int → Bool) (o_fence_side_0 : Nat → Int → Int → Int → Int → Int → Int → Int) (L_fence_square_touches_0 : Nat → (Int → Int → Int → Int → Int → Int → Int → Bool → Int → Int → Int → Int → Int → Int → Int → Int → Int → Int → Int → Int → R) → (Int → Int → Int → Int → Int → Int → Int → Bool → Int → Int → Int → Int → Int → Int → Int → Int → Int → Int → R) → Nat → Int → Int → Int → Int → Int → Int → Int → Bool → Int → Int → Int → Int → Int → Int → Int → Int → Int → Int → R) (L_fence_square_touches_1 : Nat → (Int → Int → Int → Int → Int → Int → Int → Bool → Int → Int → Int → Int → Int → Int → Int → Int → Int → Int → Int → Int → Int → Int → Int → Int → Int → Int → Int → Int → R) → Nat → Int → Int → Int → Int → Int → Int → Int → Bool → Int → Int → Int → Int → Int → Int → Int → Int → Int → Int → Int → Int → Int → Int → Int → Int → Int → Int → Int → Int → R), iterC (codeL PP (words [(22, spec ti_fence_side to_fence_side (fun q => (ok_fence_side F (atI (nth q 0)) (atI (nth q 1)) (atI (nth q 2)) (atI (nth q 3)) (atI (nth q 4)) (atI (nth q 5)))) (fun q => [.i (o_fence_side_0 F (atI (nth q 0)) (atI (nth q 1)) (atI (nth q 2)) (atI (nth q 3)) (atI (nth q 4)) (atI (nth q 5)))]))]) c_fence_square_touches (tabI c_fence_square_touches [⟨0, T_fence_square_touches_0, fun k q => L_fence_square_touches_0 F (fun (z0 : Int) (z1 : Int) (z2 : Int) (z3 : Int) (z4 : Int) (z5 : Int) (z6 : Int) (z7 : Bool) (z8 : Int) (z9 : Int) (z10 : Int) (z11 : Int) (z12 : Int) (z13 : Int) (z14 : Int) (z15 : Int) (z16 : Int) (z17 : Int) (z18 : Int) (z19 : Int) => k .ret (fS T_fence_square_touches_0_0 [.i z0, .i z1, .i z2, .i z3, .i z4, .i z5, .i z6, .b z7, .i z8, .i z9, .i z10, .i z11, .i z12, .i z13, .i z14, .i z15, .i z16, .i z17, .i z18, .i z19])) (fun (z0 : Int) (z1 : Int) (z2 : Int) (z3 : Int) (z4 : Int) (z5 : Int) (z6 : Int) (z7 : Bool) (z8 : Int) (z9 : Int) (z10 : Int) (z11 : Int) (z12 : Int) (z13 : Int) (z14 : Int) (z15 : Int) (z16 : Int) (z17 : Int) => k (.exit 0) (fS T_fence_square_touches_0_1 [.i z0, .i z1, .i z2, .i z3, .i z4, .i z5, .i z6, .b z7, .i z8, .i z9, .i z10, .i z11, .i z12, .i z13, .i z14, .i z15, .i z16, .i z17])) F (atI (nth q 0)) (atI (nth q 1)) (atI (nth q 2)) (atI (nth q 3)) (atI (nth q 4)) (atI (nth q 5)) (atI (nth q 6)) (atB (nth q 7)) (atI (nth q 8)) (atI (nth q 9)) (atI (nth q 10)) (atI (nth q 11)) (atI (nth q 12)) (atI (nth q 13)) (atI (nth q 14)) (atI (nth q 15)) (atI (nth q 16)) (atI (nth q 17))⟩, ⟨2, T_fence_square_touches_1, fun k q => L_fence_square_touches_1 F (fun (z0 : Int) (z1 : Int) (z2 : Int) (z3 : Int) (z4 : Int) (z5 : Int) (z6 : Int) (z7 : Bool) (z8 : Int) (z9 : Int) (z10 : Int) (z11 : Int) (z12 : Int) (z13 : Int) (z14 : Int) (z15 : Int) (z16 : Int) (z17 : Int) (z18 : Int) (z19 : Int) (z20 : Int) (z21 : Int) (z22 : Int) (z23 : Int) (z24 : Int) (z25 : Int) (z26 : Int) (z27 : Int) => k (.exit 2) (fS T_fence_square_touches_1_0 [.i z0, .i z1, .i z2, .i z3, .i z4, .i z5, .i z6, .b z7, .i z8, .i z9, .i z10, .i z11, .i z12, .i z13, .i z14, .i z15, .i z16, .i z17, .i z18, .i z19, .i z20, .i z21, .i z22, .i z23, .i z24, .i z25, .i z26, .i z27])) F (atI (nth q 0)) (atI (nth q 1)) (atI (nth q 2)) (atI (nth q 3)) (atI (nth q 4)) (atI (nth q 5)) (atI (nth q 6)) (atB (nth q 7)) (atI (nth q 8)) (atI (nth q 9)) (atI (nth q 10)) (atI (nth q 11)) (atI (nth q 12)) (atI (nth q 13)) (atI (nth q 14)) (atI (nth q 15)) (atI (nth q 16)) (atI (nth q 17)) (atI (nth q 18)) (atI (nth q 19)) (atI (nth q 20)) (atI (nth q 21)) (atI (nth q 22)) (atI (nth q 23)) (atI (nth q 24)) (atI (nth q 25)) (atI (nth q 26)) (atI (nth q 27))⟩]) (tabJ []) (loopAt PP 25 1) 2) (headOf c_fence_square_touches 2) k (n + 1) (fS T_fence_square_touches_1 [.i x0, .i x1, .i x2, .i x3, .i x4, .i x5, .i x6, .b x7, .i x8, .i x9, .i x10, .i x11, .i x12, .i x13, .i x14, .i x15, .i x16, .i x17, .i x18, .i x19, .i x20, .i x21, .i x22, .i x23, .i x24, .i x25, .i x26, .i x27]) = (fun (rc : Int → Int → Int → Int → Int → Int → Int → Bool → Int → Int → Int → Int → Int → Int → Int → Int → Int → Int → Int → Int → Int → Int → Int → Int → Int → Int → Int → Int → R) (ex0 : Int → Int → Int → Int → Int → Int → Int → Bool → Int → Int → Int → Int → Int → Int → Int → Int → Int → Int → Int → Int → Int → Int → Int → Int → Int → Int → Int → Int → R) (x0 : Int) (x1 : Int) (x2 : Int) (x3 : Int) (x4 : Int) (x5 : Int) (x6 : Int) (x7 : Bool) (x8 : Int) (x9 : Int) (x10 : Int) (x11 : Int) (x12 : Int) (x13 : Int) (x14 : Int) (x15 : Int) (x16 : Int) (x17 : Int) (x18 : Int) (x19 : Int) (x20 : Int) (x21 : Int) (x22 : Int) (x23 : Int) (x24 : Int) (x25 : Int) (x26 : Int) (x27 : Int) => (
  bif ((decide (x20 < 4))) then (
    bif (((decide (0 ≤ x20)) && (decide (x20 < 4))) && ((isI .i64 [.v (.int .i64 x12), .v (.int .i64 x13), .v (.int .i64 x14), .v (.int .i64 x15), .v (.int .i64 x16), .v (.int .i64 x17), .v (.int .i64 x18), .v (.int .i64 x19)][((Int.toNat x20) * 2)]?) && ((isI .i64 [.v (.int .i64 x12), .v (.int .i64 x13), .v (.int .i64 x14), .v (.int .i64 x15), .v (.int .i64 x16), .v (.int .i64 x17), .v (.int .i64 x18), .v (.int .i64 x19)][(((Int.toNat x20) * 2) + 1)]?) && true))) then (
      let v199 : Int := (IntKind.wrap .i64 (x21 + ((IntKind.wrap .i64 (((iv [.v (.int .i64 x12), .v (.int .i64 x13), .v (.int .i64 x14), .v (.int .i64 x15), .v (.int .i64 x16), .v (.int .i64 x17), .v (.int .i64 x18), .v (.int .i64 x19)][((Int.toNat x20) * 2)]?)) * x23)))))
      let v201 : Int := (IntKind.wrap .i64 (x22 + ((IntKind.wrap .i64 (((iv [.v (.int .i64 x12), .v (.int .i64 x13), .v (.int .i64 x14), .v (.int .i64 x15), .v (.int .i64 x16), .v (.int .i64 x17), .v (.int .i64 x18), .v (.int .i64 x19)][(((Int.toNat x20) * 2) + 1)]?)) * x23)))))
      bif (ok_fence_side F x24 x25 x26 x27 v199 v201) then (
        rc x0 x1 x2 x3 x4 x5 x6 x7 ((IntKind.wrap .i64 (x8 + ((o_fence_side_0 F x24 x25 x26 x27 v199 v201))))) x9 x10 x11 x12 x13 x14 x15 x16 x17 x18 x19 ((IntKind.wrap .i64 (x20 + 1))) x21 x22 x23 x24 x25 x26 x27)
      else (
        none))
    else (
      none))
  else (
    ex0 x0 x1 x2 x3 x4 x5 x6 x7 x8 x9 x10 x11 x12 x13 x14 x15 x16 x17 x18 x19 x20 x21 x22 x23 x24 x25 x26 x27) : R)) (fun (y0 : Int) (y1 : Int) (y2 : Int) (y3 : Int) (y4 : Int) (y5 : Int) (y6 : Int) (y7 : Bool) (y8 : Int) (y9 : Int) (y10 : Int) (y11 : Int) (y12 : Int) (y13 : Int) (y14 : Int) (y15 : Int) (y16 : Int) (y17 : Int) (y18 : Int) (y19 : Int) (y20 : Int) (y21 : Int) (y22 : Int) (y23 : Int) (y24 : Int) (y25 : Int) (y26 : Int) (y27 : Int) => iterC (codeL PP (words [(22, spec ti_fence_side to_fence_side (fun q => (ok_fence_side F (atI (nth q 0)) (atI (nth q 1)) (atI (nth q 2)) (atI (nth q 3)) (atI (nth q 4)) (atI (nth q 5)))) (fun q => [.i (o_fence_side_0 F (atI (nth q 0)) (atI (nth q 1)) (atI (nth q 2)) (atI (nth q 3)) (atI (nth q 4)) (atI (nth q 5)))]))]) c_fence_square_touches (tabI c_fence_square_touches [⟨0, T_fence_square_touches_0, fun k q => L_fence_square_touches_0 F (fun (z0 : Int) (z1 : Int) (z2 : Int) (z3 : Int) (z4 : Int) (z5 : Int) (z6 : Int) (z7 : Bool) (z8 : Int) (z9 : Int) (z10 : Int) (z11 : Int) (z12 : Int) (z13 : Int) (z14 : Int) (z15 : Int) (z16 : Int) (z17 : Int) (z18 : Int) (z19 : Int) => k .ret (fS T_fence_square_touches_0_0 [.i z0, .i z1, .i z2, .i z3, .i z4, .i z5, .i z6, .b z7, .i z8, .i z9, .i z10, .i z11, .i z12, .i z13, .i z14, .i z15, .i z16, .i z17, .i z18, .i z19])) (fun (z0 : Int) (z1 : Int) (z2 : Int) (z3 : Int) (z4 : Int) (z5 : Int) (z6 : Int) (z7 : Bool) (z8 : Int) (z9 : Int) (z10 : Int) (z11 : Int) (z12 : Int) (z13 : Int) (z14 : Int) (z15 : Int) (z16 : Int) (z17 : Int) => k (.exit 0) (fS T_fence_square_touches_0_1 [.i z0, .i z1, .i z2, .i z3, .i z4, .i z5, .i z6, .b z7, .i z8, .i z9, .i z10, .i z11, .i z12, .i z13, .i z14, .i z15, .i z16, .i z17])) F (atI (nth q 0)) (atI (nth q 1)) (atI (nth q 2)) (atI (nth q 3)) (atI (nth q 4)) (atI (nth q 5)) (atI (nth q 6)) (atB (nth q 7)) (atI (nth q 8)) (atI (nth q 9)) (atI (nth q 10)) (atI (nth q 11)) (atI (nth q 12)) (atI (nth q 13)) (atI (nth q 14)) (atI (nth q 15)) (atI (nth q 16)) (atI (nth q 17))⟩, ⟨2, T_fence_square_touches_1, fun k q => L_fence_square_touches_1 F (fun (z0 : Int) (z1 : Int) (z2 : Int) (z3 : Int) (z4 : Int) (z5 : Int) (z6 : Int) (z7 : Bool) (z8 : Int) (z9 : Int) (z10 : Int) (z11 : Int) (z12 : Int) (z13 : Int) (z14 : Int) (z15 : Int) (z16 : Int) (z17 : Int) (z18 : Int) (z19 : Int) (z20 : Int) (z21 : Int) (z22 : Int) (z23 : Int) (z24 : Int) (z25 : Int) (z26 : Int) (z27 : Int) => k (.exit 2) (fS T_fence_square_touches_1_0 [.i z0, .i z1, .i z2, .i z3, .i z4, .i z5, .i z6, .b z7, .i z8, .i z9, .i z10, .i z11, .i z12, .i z13, .i z14, .i z15, .i z16, .i z17, .i z18, .i z19, .i z20, .i z21, .i z22, .i z23, .i z24, .i z25, .i z26, .i z27])) F (atI (nth q 0)) (atI (nth q 1)) (atI (nth q 2)) (atI (nth q 3)) (atI (nth q 4)) (atI (nth q 5)) (atI (nth q 6)) (atB (nth q 7)) (atI (nth q 8)) (atI (nth q 9)) (atI (nth q 10)) (atI (nth q 11)) (atI (nth q 12)) (atI (nth q 13)) (atI (nth q 14)) (atI (nth q 15)) (atI (nth q 16)) (atI (nth q 17)) (atI (nth q 18)) (atI (nth q 19)) (atI (nth q 20)) (atI (nth q 21)) (atI (nth q 22)) (atI (nth q 23)) (atI (nth q 24)) (atI (nth q 25)) (atI (nth q 26)) (atI (nth q 27))⟩]) (tabJ []) (loopAt PP 25 1) 2) (headOf c_fence_square_touches 2) k n (fS T_fence_square_touches_1 [.i y0, .i y1, .i y2, .i y3, .i y4, .i y5, .i y6, .b y7, .i y8, .i y9, .i y10, .i y11, .i y12, .i y13, .i y14, .i y15, .i y16, .i y17, .i y18, .i y19, .i y20, .i y21, .i y22, .i y23, .i y24, .i y25, .i y26, .i y27])) (fun (z0 : Int) (z1 : Int) (z2 : Int) (z3 : Int) (z4 : Int) (z5 : Int) (z6 : Int) (z7 : Bool) (z8 : Int) (z9 : Int) (z10 : Int) (z11 : Int) (z12 : Int) (z13 : Int) (z14 : Int) (z15 : Int) (z16 : Int) (z17 : Int) (z18 : Int) (z19 : Int) (z20 : Int) (z21 : Int) (z22 : Int) (z23 : Int) (z24 : Int) (z25 : Int) (z26 : Int) (z27 : Int) => k (.exit 2) (fS T_fence_square_touches_1_0 [.i z0, .i z1, .i z2, .i z3, .i z4, .i z5, .i z6, .b z7, .i z8, .i z9, .i z10, .i z11, .i z12, .i z13, .i z14, .i z15, .i z16, .i z17, .i z18, .i z19, .i z20, .i z21, .i z22, .i z23, .i z24, .i z25, .i z26, .i z27])) x0 x1 x2 x3 x4 x5 x6 x7 x8 x9 x10 x11 x12 x13 x14 x15 x16 x17 x18 x19 x20 x21 x22 x23 x24 x25 x26 x27 := by
      intros
      kernel_rfl
    have h : iterC (codeL PP (S_fence_square_touches F) c_fence_square_touches (I_fence_square_touches F) (J_fence_square_touches F) (loopAt PP 25 1) 2) (headOf c_fence_square_touches 2) k (n + 1) (fS T_fence_square_touches_1 [.i x0, .i x1, .i x2, .i x3, .i x4, .i x5, .i x6, .b x7, .i x8, .i x9, .i x10, .i x11, .i x12, .i x13, .i x14, .i x15, .i x16, .i x17, .i x18, .i x19, .i x20, .i x21, .i x22, .i x23, .i x24, .i x25, .i x26, .i x27]) = B_fence_square_touches_1 F (fun (y0 : Int) (y1 : Int) (y2 : Int) (y3 : Int) (y4 : Int) (y5 : Int) (y6 : Int) (y7 : Bool) (y8 : Int) (y9 : Int) (y10 : Int) (y11 : Int) (y12 : Int) (y13 : Int) (y14 : Int) (y15 : Int) (y16 : Int) (y17 : Int) (y18 : Int) (y19 : Int) (y20 : Int) (y21 : Int) (y22 : Int) (y23 : Int) (y24 : Int) (y25 : Int) (y26 : Int) (y27 : Int) => iterC (codeL PP (S_fence_square_touches F) c_fence_square_touches (I_fence_square_touches F) (J_fence_square_touches F) (loopAt PP 25 1) 2) (headOf c_fence_square_touches 2) k n (fS T_fence_square_touches_1 [.i y0, .i y1, .i y2, .i y3, .i y4, .i y5, .i y6, .b y7, .i y8, .i y9, .i y10, .i y11, .i y12, .i y13, .i y14, .i y15, .i y16, .i y17, .i y18, .i y19, .i y20, .i y21, .i y22, .i y23, .i y24, .i y25, .i y26, .i y27])) (fun (z0 : Int) (z1 : Int) (z2 : Int) (z3 : Int) (z4 : Int) (z5 : Int) (z6 : Int) (z7 : Bool) (z8 : Int) (z9 : Int) (z10 : Int) (z11 : Int) (z12 : Int) (z13 : Int) (z14 : Int) (z15 : Int) (z16 : Int) (z17 : Int) (z18 : Int) (z19 : Int) (z20 : Int) (z21 : Int) (z22 : Int) (z23 : Int) (z24 : Int) (z25 : Int) (z26 : Int) (z27 : Int) => k (.exit 2) (fS T_fence_square_touches_1_0 [.i z0, .i z1, .i z2, .i z3, .i z4, .i z5, .i z6, .b z7, .i z8, .i z9, .i z10, .i z11, .i z12, .i z13, .i z14, .i z15, .i z16, .i z17, .i z18, .i z19, .i z20, .i z21, .i z22, .i z23, .i z24, .i z25, .i z26, .i z27])) x0 x1 x2 x3 x4 x5 x6 x7 x8 x9 x10 x11 x12 x13 x14 x15 x16 x17 x18 x19 x20 x21 x22 x23 x24 x25 x26 x27 := (h0 ok_fence_side o_fence_side_0 L_fence_square_touches_0 L_fence_square_touches_1).trans (by kernel_rfl)
    rw [h]
    simp only [lL_fence_square_touches_1 F k n]
    rfl
def f_fence_square_touches (F : Nat) (a0 : Int) (a1 : Int) (a2 : Int) (a3 : Int) (a4 : Int) (a5 : Int) (a6 : Int) : R :=
  L_fence_square_touches_0 F (fun (v129 : Int) (v130 : Int) (v131 : Int) (v132 : Int) (v133 : Int) (v134 : Int) (v135 : Int) (v136 : Bool) (v137 : Int) (v138 : Int) (v139 : Int) (v140 : Int) (v141 : Int) (v142 : Int) (v143 : Int) (v144 : Int) (v145 : Int) (v146 : Int) (v147 : Int) (v148 : Int) =>
    some (.v (.bool v136))) (fun (v149 : Int) (v150 : Int) (v151 : Int) (v152 : Int) (v153 : Int) (v154 : Int) (v155 : Int) (v156 : Bool) (v157 : Int) (v158 : Int) (v159 : Int) (v160 : Int) (v161 : Int) (v162 : Int) (v163 : Int) (v164 : Int) (v165 : Int) (v166 : Int) =>
    L_fence_square_touches_1 F (fun (v205 : Int) (v206 : Int) (v207 : Int) (v208 : Int) (v209 : Int) (v210 : Int) (v211 : Int) (v212 : Bool) (v213 : Int) (v214 : Int) (v215 : Int) (v216 : Int) (v217 : Int) (v218 : Int) (v219 : Int) (v220 : Int) (v221 : Int) (v222 : Int) (v223 : Int) (v224 : Int) (v225 : Int) (v226 : Int) (v227 : Int) (v228 : Int) (v229 : Int) (v230 : Int) (v231 : Int) (v232 : Int) =>
      bif ((decide (v213 > (-4)))) then (
        some (.v (.bool ((decide (v213 < 4))))))
      else (
        some (.v (.bool false)))) F v149 v150 v151 v152 v153 v154 v155 v156 0 v157 v158 v159 ((-1)) ((-1)) ((-1)) 1 1 ((-1)) 1 1 0 v160 v161 v162 v163 v164 v165 v166) F a0 a1 a2 a3 a4 a5 a6 false a0 a1 0 a0 a1 a2 a3 a4 a5 a6
theorem e_fence_square_touches (F : Nat) (a0 : Int) (a1 : Int) (a2 : Int) (a3 : Int) (a4 : Int) (a5 : Int) (a6 : Int) : funL PP (S_fence_square_touches F) c_fence_square_touches (I_fence_square_touches F) (J_fence_square_touches F) 25 (fTs ti_fence_square_touches [.i a0, .i a1, .i a2, .i a3, .i a4, .i a5, .i a6]).1 = f_fence_square_touches F a0 a1 a2 a3 a4 a5 a6 := by
  have h : ∀ (ok_fence_side : Nat → Int → Int → Int → Int → Int → Int → Bool) (o_fence_side_0 : Nat → Int → Int → Int → Int → Int → Int → Int) (L_fence_square_touches_0 : Nat → (Int → Int → Int → Int → Int → Int → Int → Bool → Int → Int → Int → Int → Int → Int → Int → Int → Int → Int → Int → Int → R) → (Int → Int → Int → Int → Int → Int → Int → Bool → Int → Int → Int → Int → Int → Int → Int → Int → Int → Int → R) → Nat → Int → Int → Int → Int → Int → Int → Int → Bool → Int → Int → Int → Int → Int → Int → Int → Int → Int → Int → R) (L_fence_square_touches_1 : Nat → (Int → Int → Int → Int → Int → Int → Int → Bool → Int → Int → Int → Int → Int → Int → Int → Int → Int → Int → Int → Int → Int → Int → Int → Int → Int → Int → Int → Int → R) → Nat → Int → Int → Int → Int → Int → Int → Int → Bool → Int → Int → Int → Int → Int → Int → Int → Int → Int → Int → Int → Int → Int → Int → Int → Int → Int → Int → Int → Int → R), funL PP (words [(22, spec ti_fence_side to_fence_side (fun q => (ok_fence_side F (atI (nth q 0)) (atI (nth q 1)) (atI (nth q 2)) (atI (nth q 3)) (atI (nth q 4)) (atI (nth q 5)))) (fun q => [.i (o_fence_side_0 F (atI (nth q 0)) (atI (nth q 1)) (atI (nth q 2)) (atI (nth q 3)) (atI (nth q 4)) (atI (nth q 5)))]))]) c_fence_square_touches (tabI c_fence_square_touches [⟨0, T_fence_square_touches_0, fun k q => L_fence_square_touches_0 F (fun (z0 : Int) (z1 : Int) (z2 : Int) (z3 : Int) (z4 : Int) (z5 : Int) (z6 : Int) (z7 : Bool) (z8 : Int) (z9 : Int) (z10 : Int) (z11 : Int) (z12 : Int) (z13 : Int) (z14 : Int) (z15 : Int) (z16 : Int) (z17 : Int) (z18 : Int) (z19 : Int) => k .ret (fS T_fence_square_touches_0_0 [.i z0, .i z1, .i z2, .i z3, .i z4, .i z5, .i z6, .b z7, .i z8, .i z9, .i z10, .i z11, .i z12, .i z13, .i z14, .i z15, .i z16, .i z17, .i z18, .i z19])) (fun (z0 : Int) (z1 : Int) (z2 : Int) (z3 : Int) (z4 : Int) (z5 : Int) (z6 : Int) (z7 : Bool) (z8 : Int) (z9 : Int) (z10 : Int) (z11 : Int) (z12 : Int) (z13 : Int) (z14 : Int) (z15 : Int) (z16 : Int) (z17 : Int) => k (.exit 0) (fS T_fence_square_touches_0_1 [.i z0, .i z1, .i z2, .i z3, .i z4, .i z5, .i z6, .b z7, .i z8, .i z9, .i z10, .i z11, .i z12, .i z13, .i z14, .i z15, .i z16, .i z17])) F (atI (nth q 0)) (atI (nth q 1)) (atI (nth q 2)) (atI (nth q 3)) (atI (nth q 4)) (atI (nth q 5)) (atI (nth q 6)) (atB (nth q 7)) (atI (nth q 8)) (atI (nth q 9)) (atI (nth q 10)) (atI (nth q 11)) (atI (nth q 12)) (atI (nth q 13)) (atI (nth q 14)) (atI (nth q 15)) (atI (nth q 16)) (atI (nth q 17))⟩, ⟨2, T_fence_square_touches_1, fun k q => L_fence_square_touches_1 F (fun (z0 : Int) (z1 : Int) (z2 : Int) (z3 : Int) (z4 : Int) (z5 : Int) (z6 : Int) (z7 : Bool) (z8 : Int) (z9 : Int) (z10 : Int) (z11 : Int) (z12 : Int) (z13 : Int) (z14 : Int) (z15 : Int) (z16 : Int) (z17 : Int) (z18 : Int) (z19 : Int) (z20 : Int) (z21 : Int) (z22 : Int) (z23 : Int) (z24 : Int) (z25 : Int) (z26 : Int) (z27 : Int) => k (.exit 2) (fS T_fence_square_touches_1_0 [.i z0, .i z1, .i z2, .i z3, .i z4, .i z5, .i z6, .b z7, .i z8, .i z9, .i z10, .i z11, .i z12, .i z13, .i z14, .i z15, .i z16, .i z17, .i z18, .i z19, .i z20, .i z21, .i z22, .i z23, .i z24, .i z25, .i z26, .i z27])) F (atI (nth q 0)) (atI (nth q 1)) (atI (nth q 2)) (atI (nth q 3)) (atI (nth q 4)) (atI (nth q 5)) (atI (nth q 6)) (atB (nth q 7)) (atI (nth q 8)) (atI (nth q 9)) (atI (nth q 10)) (atI (nth q 11)) (atI (nth q 12)) (atI (nth q 13)) (atI (nth q 14)) (atI (nth q 15)) (atI (nth q 16)) (atI (nth q 17)) (atI (nth q 18)) (atI (nth q 19)) (atI (nth q 20)) (atI (nth q 21)) (atI (nth q 22)) (atI (nth q 23)) (atI (nth q 24)) (atI (nth q 25)) (atI (nth q 26)) (atI (nth q 27))⟩]) (tabJ []) 25 (fTs ti_fence_square_touches [.i a0, .i a1, .i a2, .i a3, .i a4, .i a5, .i a6]).1 = (
  L_fence_square_touches_0 F (fun (v129 : Int) (v130 : Int) (v131 : Int) (v132 : Int) (v133 : Int) (v134 : Int) (v135 : Int) (v136 : Bool) (v137 : Int) (v138 : Int) (v139 : Int) (v140 : Int) (v141 : Int) (v142 : Int) (v143 : Int) (v144 : Int) (v145 : Int) (v146 : Int) (v147 : Int) (v148 : Int) =>
    some (.v (.bool v136))) (fun (v149 : Int) (v150 : Int) (v151 : Int) (v152 : Int) (v153 : Int) (v154 : Int) (v155 : Int) (v156 : Bool) (v157 : Int) (v158 : Int) (v159 : Int) (v160 : Int) (v161 : Int) (v162 : Int) (v163 : Int) (v164 : Int) (v165 : Int) (v166 : Int) =>
    L_fence_square_touches_1 F (fun (v205 : Int) (v206 : Int) (v207 : Int) (v208 : Int) (v209 : Int) (v210 : Int) (v211 : Int) (v212 : Bool) (v213 : Int) (v214 : Int) (v215 : Int) (v216 : Int) (v217 : Int) (v218 : Int) (v219 : Int) (v220 : Int) (v221 : Int) (v222 : Int) (v223 : Int) (v224 : Int) (v225 : Int) (v226 : Int) (v227 : Int) (v228 : Int) (v229 : Int) (v230 : Int) (v231 : Int) (v232 : Int) =>
      bif ((decide (v213 > (-4)))) then (
        some (.v (.bool ((decide (v213 < 4))))))
      else (
        some (.v (.bool false)))) F v149 v150 v151 v152 v153 v154 v155 v156 0 v157 v158 v159 ((-1)) ((-1)) ((-1)) 1 1 ((-1)) 1 1 0 v160 v161 v162 v163 v164 v165 v166) F a0 a1 a2 a3 a4 a5 a6 false a0 a1 0 a0 a1 a2 a3 a4 a5 a6 : R) := by
    intros
    kernel_rfl
  exact (h ok_fence_side o_fence_side_0 L_fence_square_touches_0 L_fence_square_touches_1).trans (by kernel_rfl)
def ok_fence_square_touches (F : Nat) (a0 : Int) (a1 : Int) (a2 : Int) (a3 : Int) (a4 : Int) (a5 : Int) (a6 : Int) : Bool := okT to_fence_square_touches (f_fence_square_touches F a0 a1 a2 a3 a4 a5 a6)
def o_fence_square_touches_0 (F : Nat) (a0 : Int) (a1 : Int) (a2 : Int) (a3 : Int) (a4 : Int) (a5 : Int) (a6 : Int) : Bool := atB (nth (outT to_fence_square_touches (f_fence_square_touches F a0 a1 a2 a3 a4 a5 a6)) 0)
theorem k_fence_square_touches (F : Nat) (a0 : Int) (a1 : Int) (a2 : Int) (a3 : Int) (a4 : Int) (a5 : Int) (a6 : Int) {z0 : Bool} (h : f_fence_square_touches F a0 a1 a2 a3 a4 a5 a6 = some (.v (.bool z0))) : ok_fence_square_touches F a0 a1 a2 a3 a4 a5 a6 = true ∧ o_fence_square_touches_0 F a0 a1 a2 a3 a4 a5 a6 = z0 := by
  refine ⟨?_, ?_⟩
  · unfold ok_fence_square_touches; rw [h]; kernel_rfl
  · unfold o_fence_square_touches_0; rw [h]; kernel_rfl
def s_fence_square_touches (F : Nat) : List VV → Option (Bool × VV) := spec ti_fence_square_touches to_fence_square_touches (fun q => (ok_fence_square_touches F (atI (nth q 0)) (atI (nth q 1)) (atI (nth q 2)) (atI (nth q 3)) (atI (nth q 4)) (atI (nth q 5)) (atI (nth q 6)))) (fun q => [.b (o_fence_square_touches_0 F (atI (nth q 0)) (atI (nth q 1)) (atI (nth q 2)) (atI (nth q 3)) (atI (nth q 4)) (atI (nth q 5)) (atI (nth q 6)))])
theorem hS_fence_square_touches (F : Nat) : ∀ f, Good PP f (unS (S_fence_square_touches F f)) := words_good fun p hp => by
  simp only [List.mem_cons, List.not_mem_nil, or_false] at hp
  rcases hp with rfl
  · exact g_fence_side F
theorem hl_fence_square_touches (F : Nat) : ∀ p ∈ loopsIn PP 25, LoopOK PP (S_fence_square_touches F) c_fence_square_touches F (I_fence_square_touches F) (J_fence_square_touches F) p :=
  loops_of [(0, loopAt PP 25 0), (2, loopAt PP 25 1)] (by kernel_rfl) (all_cons
    (loop_ok (W_fence_square_touches F) rfl (tab_cons (fun _ k q => Le.ofEq ((lL_fence_square_touches_0 F k F (atI (nth q 0)) (atI (nth q 1)) (atI (nth q 2)) (atI (nth q 3)) (atI (nth q 4)) (atI (nth q 5)) (atI (nth q 6)) (atB (nth q 7)) (atI (nth q 8)) (atI (nth q 9)) (atI (nth q 10)) (atI (nth q 11)) (atI (nth q 12)) (atI (nth q 13)) (atI (nth q 14)) (atI (nth q 15)) (atI (nth q 16)) (atI (nth q 17))).symm.trans (congrArg (iterC (codeL PP (S_fence_square_touches F) c_fence_square_touches (I_fence_square_touches F) (J_fence_square_touches F) (loopAt PP 25 0) 0) (headOf c_fence_square_touches 0) k F) (show fS T_fence_square_touches_0 [.i (atI (nth q 0)), .i (atI (nth q 1)), .i (atI (nth q 2)), .i (atI (nth q 3)), .i (atI (nth q 4)), .i (atI (nth q 5)), .i (atI (nth q 6)), .b (atB (nth q 7)), .i (atI (nth q 8)), .i (atI (nth q 9)), .i (atI (nth q 10)), .i (atI (nth q 11)), .i (atI (nth q 12)), .i (atI (nth q 13)), .i (atI (nth q 14)), .i (atI (nth q 15)), .i (atI (nth q 16)), .i (atI (nth q 17))] = fS T_fence_square_touches_0 q by kernel_rfl)))) (tab_cons (fun h => absurd h (by decide)) tab_nil))) (all_cons
    (loop_ok (W_fence_square_touches F) rfl (tab_cons (fun h => absurd h (by decide)) (tab_cons (fun _ k q => Le.ofEq ((lL_fence_square_touches_1 F k F (atI (nth q 0)) (atI (nth q 1)) (atI (nth q 2)) (atI (nth q 3)) (atI (nth q 4)) (atI (nth q 5)) (atI (nth q 6)) (atB (nth q 7)) (atI (nth q 8)) (atI (nth q 9)) (atI (nth q 10)) (atI (nth q 11)) (atI (nth q 12)) (atI (nth q 13)) (atI (nth q 14)) (atI (nth q 15)) (atI (nth q 16)) (atI (nth q 17)) (atI (nth q 18)) (atI (nth q 19)) (atI (nth q 20)) (atI (nth q 21)) (atI (nth q 22)) (atI (nth q 23)) (atI (nth q 24)) (atI (nth q 25)) (atI (nth q 26)) (atI (nth q 27))).symm.trans (congrArg (iterC (codeL PP (S_fence_square_touches F) c_fence_square_touches (I_fence_square_touches F) (J_fence_square_touches F) (loopAt PP 25 1) 2) (headOf c_fence_square_touches 2) k F) (show fS T_fence_square_touches_1 [.i (atI (nth q 0)), .i (atI (nth q 1)), .i (atI (nth q 2)), .i (atI (nth q 3)), .i (atI (nth q 4)), .i (atI (nth q 5)), .i (atI (nth q 6)), .b (atB (nth q 7)), .i (atI (nth q 8)), .i (atI (nth q 9)), .i (atI (nth q 10)), .i (atI (nth q 11)), .i (atI (nth q 12)), .i (atI (nth q 13)), .i (atI (nth q 14)), .i (atI (nth q 15)), .i (atI (nth q 16)), .i (atI (nth q 17)), .i (atI (nth q 18)), .i (atI (nth q 19)), .i (atI (nth q 20)), .i (atI (nth q 21)), .i (atI (nth q 22)), .i (atI (nth q 23)), .i (atI (nth q 24)), .i (atI (nth q 25)), .i (atI (nth q 26)), .i (atI (nth q 27))] = fS T_fence_square_touches_1 q by kernel_rfl)))) tab_nil))) all_nil))
theorem hj_fence_square_touches (F : Nat) : ∀ p ∈ joinsIn PP c_fence_square_touches 25, JoinOK PP (S_fence_square_touches F) c_fence_square_touches (I_fence_square_touches F) (J_fence_square_touches F) p :=
  joins_of [] (by kernel_rfl) all_nil
theorem g_fence_square_touches (F : Nat) : Good PP 25 (unS (s_fence_square_touches F)) :=
  fun_spec (hS_fence_square_touches F) (by kernel_rfl) (by kernel_rfl) (C := c_fence_square_touches) (F := fun q => (f_fence_square_touches F (atI (nth q 0)) (atI (nth q 1)) (atI (nth q 2)) (atI (nth q 3)) (atI (nth q 4)) (atI (nth q 5)) (atI (nth q 6)))) (fun _ => F) (fun _ => I_fence_square_touches F) (fun _ => J_fence_square_touches F) (fun _ => hl_fence_square_touches F) (fun _ => hj_fence_square_touches F)
    (fun q => (congrArg (funL PP (S_fence_square_touches F) c_fence_square_touches (I_fence_square_touches F) (J_fence_square_touches F) 25) (show (fTs ti_fence_square_touches q).1 = (fTs ti_fence_square_touches [.i (atI (nth q 0)), .i (atI (nth q 1)), .i (atI (nth q 2)), .i (atI (nth q 3)), .i (atI (nth q 4)), .i (atI (nth q 5)), .i (atI (nth q 6))]).1 by kernel_rfl)).trans (e_fence_square_touches F (atI (nth q 0)) (atI (nth q 1)) (atI (nth q 2)) (atI (nth q 3)) (atI (nth q 4)) (atI (nth q 5)) (atI (nth q 6))))
    (fun _ h => okT_fill' h (by kernel_rfl))

end Go.Xv
set_option linter.unusedVariables false
namespace Go.Xv
/- 27 _ref37_touch -/
def c_ref37_touch : Cfg := ⟨[0, 1, 2, 3, 4, 5, 6, 8, 9, 10, 11, 12, 13, 41, 43, 57, 65, 76, 80], [(0, [0, 1, 2, 3, 4, 5, 6, 8, 9, 10, 11, 14, 15, 16, 17, 18, 19, 20, 21, 22, 23, 24, 25, 26, 27, 28, 29, 30, 31, 32, 33, 34, 35, 36, 37, 38, 39, 40, 41, 83, 84, 85, 86, 87, 88])], [], []⟩
def ti_ref37_touch : List TV := [.v (.agg [.int .i64, .int .i64]), .v (.agg [.int .i64, .int .i64]), .v (.agg [.int .i64, .int .i64]), .v (.int .i64)]
def to_ref37_touch : TV := .v (.bool)
def S_ref37_touch (F : Nat) : FuncId → List VV → Option (Bool × VV) := words [(38, s_ref37_apart F), (23, s_ref37_side F)]
def T_ref37_touch_0 : TS := ⟨[(0, .v (.agg [.int .i64, .int .i64])), (1, .v (.agg [.int .i64, .int .i64])), (2, .v (.agg [.int .i64, .int .i64])), (3, .v (.int .i64)), (4, .lp 0 (.lit 0)), (5, .lp 1 (.lit 0)), (6, .lp 2 (.lit 0)), (8, .v (.bool)), (9, .v (.int .i64)), (10, .v (.int .i64)), (11, .v (.int .i64))], [(0, ⟨(.ex [.v (.int .i64), .v (.int .i64)]), true⟩), (1, ⟨(.ex [.v (.int .i64), .v (.int .i64)]), true⟩), (2, ⟨(.ex [.v (.int .i64), .v (.int .i64)]), true⟩)], 3⟩
def T_ref37_touch_0_0 : TS := ⟨[(0, .v (.agg [.int .i64, .int .i64])), (1, .v (.agg [.int .i64, .int .i64])), (2, .v (.agg [.int .i64, .int .i64])), (3, .v (.int .i64)), (4, .lp 0 (.lit 0)), (5, .lp 1 (.lit 0)), (6, .lp 2 (.lit 0)), (8, .v (.bool)), (9, .v (.int .i64)), (10, .v (.int .i64)), (11, .v (.int .i64))], [(0, ⟨(.ex [.v (.int .i64), .v (.int .i64)]), true⟩), (1, ⟨(.ex [.v (.int .i64), .v (.int .i64)]), true⟩), (2, ⟨(.ex [.v (.int .i64), .v (.int .i64)]), true⟩)], 3⟩
def B_ref37_touch_0 (F : Nat) (rc : Int → Int → Int → Int → Int → Int → Int → Bool → Int → Int → Int → Int → Int → Int → Int → Int → Int → R) (ex0 : Int → Int → Int → Int → Int → Int → Int → Bool → Int → Int → Int → Int → Int → Int → Int → Int → Int → R) (x0 : Int) (x1 : Int) (x2 : Int) (x3 : Int) (x4 : Int) (x5 : Int) (x6 : Int) (x7 : Bool) (x8 : Int) (x9 : Int) (x10 : Int) (x11 : Int) (x12 : Int) (x13 : Int) (x14 : Int) (x15 : Int) (x16 : Int) : R :=
  bif ((decide (x10 < 4))) then (
    let v474 : Int := (IntKind.wrap .i64 (x15 - x6))
    let v475 : Int := (IntKind.wrap .i64 (x16 - x6))
    bif ((((Int.tmod x10 2)) == 1)) then (
      let v478 : Int := (IntKind.wrap .i64 (x15 + x6))
      bif ((((IntKind.wrap .i64 (Int.tdiv x10 2))) == 1)) then (
        let v481 : Int := (IntKind.wrap .i64 (x16 + x6))
        bif (ok_ref37_side F x11 x12 x13 x14 v478 v481) then (
          let v740 : Int := (o_ref37_side_0 F x11 x12 x13 x14 v478 v481)
          bif ((decide (v740 > 0))) then (
            let v742 : Int := (IntKind.wrap .i64 (x8 + 1))
            bif ((decide (v740 < 0))) then (
              rc x0 x1 x2 x3 x4 x5 x6 x7 v742 ((IntKind.wrap .i64 (x9 + 1))) ((IntKind.wrap .i64 (x10 + 1))) x11 x12 x13 x14 x15 x16)
            else (
              rc x0 x1 x2 x3 x4 x5 x6 x7 v742 x9 ((IntKind.wrap .i64 (x10 + 1))) x11 x12 x13 x14 x15 x16))
          else (
            bif ((decide (v740 < 0))) then (
              rc x0 x1 x2 x3 x4 x5 x6 x7 x8 ((IntKind.wrap .i64 (x9 + 1))) ((IntKind.wrap .i64 (x10 + 1))) x11 x12 x13 x14 x15 x16)
            else (
              rc x0 x1 x2 x3 x4 x5 x6 x7 x8 x9 ((IntKind.wrap .i64 (x10 + 1))) x11 x12 x13 x14 x15 x16)))
        else (
          none))
      else (
        bif (ok_ref37_side F x11 x12 x13 x14 v478 v475) then (
          let v751 : Int := (o_ref37_side_0 F x11 x12 x13 x14 v478 v475)
          bif ((decide (v751 > 0))) then (
            let v753 : Int := (IntKind.wrap .i64 (x8 + 1))
            bif ((decide (v751 < 0))) then (
              rc x0 x1 x2 x3 x4 x5 x6 x7 v753 ((IntKind.wrap .i64 (x9 + 1))) ((IntKind.wrap .i64 (x10 + 1))) x11 x12 x13 x14 x15 x16)
            else (
              rc x0 x1 x2 x3 x4 x5 x6 x7 v753 x9 ((IntKind.wrap .i64 (x10 + 1))) x11 x12 x13 x14 x15 x16))
          else (
            bif ((decide (v751 < 0))) then (
              rc x0 x1 x2 x3 x4 x5 x6 x7 x8 ((IntKind.wrap .i64 (x9 + 1))) ((IntKind.wrap .i64 (x10 + 1))) x11 x12 x13 x14 x15 x16)
            else (
              rc x0 x1 x2 x3 x4 x5 x6 x7 x8 x9 ((IntKind.wrap .i64 (x10 + 1))) x11 x12 x13 x14 x15 x16)))
        else (
          none)))
    else (
      bif ((((IntKind.wrap .i64 (Int.tdiv x10 2))) == 1)) then (
        let v764 : Int := (IntKind.wrap .i64 (x16 + x6))
        bif (ok_ref37_side F x11 x12 x13 x14 v474 v764) then (
          let v765 : Int := (o_ref37_side_0 F x11 x12 x13 x14 v474 v764)
          bif ((decide (v765 > 0))) then (
            let v767 : Int := (IntKind.wrap .i64 (x8 + 1))
            bif ((decide (v765 < 0))) then (
              rc x0 x1 x2 x3 x4 x5 x6 x7 v767 ((IntKind.wrap .i64 (x9 + 1))) ((IntKind.wrap .i64 (x10 + 1))) x11 x12 x13 x14 x15 x16)
            else (
              rc x0 x1 x2 x3 x4 x5 x6 x7 v767 x9 ((IntKind.wrap .i64 (x10 + 1))) x11 x12 x13 x14 x15 x16))
          else (
            bif ((decide (v765 < 0))) then (
              rc x0 x1 x2 x3 x4 x5 x6 x7 x8 ((IntKind.wrap .i64 (x9 + 1))) ((IntKind.wrap .i64 (x10 + 1))) x11 x12 x13 x14 x15 x16)
            else (
              rc x0 x1 x2 x3 x4 x5 x6 x7 x8 x9 ((IntKind.wrap .i64 (x10 + 1))) x11 x12 x13 x14 x15 x16)))
        else (
          none))
      else (
        bif (ok_ref37_side F x11 x12 x13 x14 v474 v475) then (
          let v776 : Int := (o_ref37_side_0 F x11 x12 x13 x14 v474 v475)
          bif ((decide (v776 > 0))) then (
            let v778 : Int := (IntKind.wrap .i64 (x8 + 1))
            bif ((decide (v776 < 0))) then (
              rc x0 x1 x2 x3 x4 x5 x6 x7 v778 ((IntKind.wrap .i64 (x9 + 1))) ((IntKind.wrap .i64 (x10 + 1))) x11 x12 x13 x14 x15 x16)
            else (
              rc x0 x1 x2 x3 x4 x5 x6 x7 v778 x9 ((IntKind.wrap .i64 (x10 + 1))) x11 x12 x13 x14 x15 x16))
          else (
            bif ((decide (v776 < 0))) then (
              rc x0 x1 x2 x3 x4 x5 x6 x7 x8 ((IntKind.wrap .i64 (x9 + 1))) ((IntKind.wrap .i64 (x10 + 1))) x11 x12 x13 x14 x15 x16)
            else (
              rc x0 x1 x2 x3 x4 x5 x6 x7 x8 x9 ((IntKind.wrap .i64 (x10 + 1))) x11 x12 x13 x14 x15 x16)))
        else (
          none))))
  else (
    ex0 x0 x1 x2 x3 x4 x5 x6 x7 x8 x9 x10 x11 x12 x13 x14 x15 x16)
def L_ref37_touch_0 (F : Nat) (ex0 : Int → Int → Int → Int → Int → Int → Int → Bool → Int → Int → Int → Int → Int → Int → Int → Int → Int → R) : Nat → Int → Int → Int → Int → Int → Int → Int → Bool → Int → Int → Int → Int → Int → Int → Int → Int → Int → R
  | 0, _, _, _, _, _, _, _, _, _, _, _, _, _, _, _, _, _ => none
  | n + 1, x0, x1, x2, x3, x4, x5, x6, x7, x8, x9, x10, x11, x12, x13, x14, x15, x16 => B_ref37_touch_0 F (L_ref37_touch_0 F ex0 n) ex0 x0 x1 x2 x3 x4 x5 x6 x7 x8 x9 x10 x11 x12 x13 x14 x15 x16
def W_ref37_touch (F : Nat) : List LW := [⟨0, T_ref37_touch_0, fun k q => L_ref37_touch_0 F (fun (z0 : Int) (z1 : Int) (z2 : Int) (z3 : Int) (z4 : Int) (z5 : Int) (z6 : Int) (z7 : Bool) (z8 : Int) (z9 : Int) (z10 : Int) (z11 : Int) (z12 : Int) (z13 : Int) (z14 : Int) (z15 : Int) (z16 : Int) => k (.exit 0) (fS T_ref37_touch_0_0 [.i z0, .i z1, .i z2, .i z3, .i z4, .i z5, .i z6, .b z7, .i z8, .i z9, .i z10, .i z11, .i z12, .i z13, .i z14, .i z15, .i z16])) F (atI (nth q 0)) (atI (nth q 1)) (atI (nth q 2)) (atI (nth q 3)) (atI (nth q 4)) (atI (nth q 5)) (atI (nth q 6)) (atB (nth q 7)) (atI (nth q 8)) (atI (nth q 9)) (atI (nth q 10)) (atI (nth q 11)) (atI (nth q 12)) (atI (nth q 13)) (atI (nth q 14)) (atI (nth q 15)) (atI (nth q 16))⟩]
def I_ref37_touch (F : Nat) : Nat → VS → (Exit → VS → R) → R := tabI c_ref37_touch (W_ref37_touch F)
def WJ_ref37_touch (F : Nat) : List LJ := []
def J_ref37_touch (F : Nat) : Nat → Nat → VS → (Exit → VS → R) → R := tabJ (WJ_ref37_touch F)
theorem lL_ref37_touch_0 (F : Nat) (k : Exit → VS → R) : ∀ (n : Nat) (x0 : Int) (x1 : Int) (x2 : Int) (x3 : Int) (x4 : Int) (x5 : Int) (x6 : Int) (x7 : Bool) (x8 : Int) (x9 : Int) (x10 : Int) (x11 : Int) (x12 : Int) (x13 : Int) (x14 : Int) (x15 : Int) (x16 : Int), iterC (codeL PP (S_ref37_touch F) c_ref37_touch (I_ref37_touch F) (J_ref37_touch F) (loopAt PP 27 0) 0) (headOf c_ref37_touch 0) k n (fS T_ref37_touch_0 [.i x0, .i x1, .i x2, .i x3, .i x4, .i x5, .i x6, .b x7, .i x8, .i x9, .i x10, .i x11, .i x12, .i x13, .i x14, .i x15, .i x16]) = L_ref37_touch_0 F (fun (z0 : Int) (z1 : Int) (z2 : Int) (z3 : Int) (z4 : Int) (z5 : Int) (z6 : Int) (z7 : Bool) (z8 : Int) (z9 : Int) (z10 : Int) (z11 : Int) (z12 : Int) (z13 : Int) (z14 : Int) (z15 : Int) (z16 : Int) => k (.exit 0) (fS T_ref37_touch_0_0 [.i z0, .i z1, .i z2, .i z3, .i z4, .i z5, .i z6, .b z7, .i z8, .i z9, .i z10, .i z11, .i z12, .i z13, .i z14, .i z15, .i z16])) n x0 x1 x2 x3 x4 x5 x6 x7 x8 x9 x10 x11 x12 x13 x14 x15 x16
  | 0, _, _, _, _, _, _, _, _, _, _, _, _, _, _, _, _, _ => rfl
  | n + 1, x0, x1, x2, x3, x4, x5, x6, x7, x8, x9, x10, x11, x12, x13, x14, x15, x16 => by
    have h0 : ∀ (ok_ref37_apart : Nat → Int → Int → Int → Int → Bool) (o_ref37_apart_0 : Nat → Int → Int → Int → Int → Bool) (ok_ref37_side : Nat → Int → Int → Int → Int → Int → Int → Bool) (o_ref37_side_0 : Nat → Int → Int → Int → Int → Int → Int → Int) (L_ref37_touch_0 : Nat → (Int → Int → Int → Int → Int → Int → Int → Bool → Int → Int → Int → Int → Int → Int → Int → Int → Int → R) → Nat → Int → Int → Int → Int → Int → Int → Int → Bool → Int → Int → Int → Int → Int → Int → Int → Int → Int → R), iterC (codeL PP (words [(38, spec ti_ref37_apart to_ref37_apart (fun q => (ok_ref37_apart F (atI (nth q 0)) (atI (nth q 1)) (atI (nth q 2)) (atI (nth q 3)))) (fun q => [.b (o_ref37_apart_0 F (atI (nth q 0)) (atI (nth q 1)) (atI (nth q 2)) (atI (nth q 3)))])), (23, spec ti_ref37_side to_ref37_side (fun q => (ok_ref37_side F (atI (nth q 0)) (atI (nth q 1)) (atI (nth q 2)) (atI (nth q 3)) (atI (nth q 4)) (atI (nth q 5)))) (fun q => [.i (o_ref37_side_0 F (atI (nth q 0)) (atI (nth q 1)) (atI (nth q 2)) (atI (nth q 3)) (atI (nth q 4)) (atI (nth q 5)))]))]) c_ref37_touch (tabI c_ref37_touch [⟨0, T_ref37_touch_0, fun k q => L_ref37_touch_0 F (fun (z0 : Int) (z1 : Int) (z2 : Int) (z3 : Int) (z4 : Int) (z5 : Int) (z6 : Int) (z7 : Bool) (z8 : Int) (z9 : Int) (z10 : Int) (z11 : Int) (z12 : Int) (z13 : Int) (z14 : Int) (z15 : Int) (z16 : Int) => k (.exit 0) (fS T_ref37_touch_0_0 [.i z0, .i z1, .i z2, .i z3, .i z4, .i z5, .i z6, .b z7, .i z8, .i z9, .i z10, .i z11, .i z12, .i z13, .i z14, .i z15, .i z16])) F (atI (nth q 0)) (atI (nth q 1)) (atI (nth q 2)) (atI (nth q 3)) (atI (nth q 4)) (atI (nth q 5)) (atI (nth q 6)) (atB (nth q 7)) (atI (nth q 8)) (atI (nth q 9)) (atI (nth q 10)) (atI (nth q 11)) (atI (nth q 12)) (atI (nth q 13)) (atI (nth q 14)) (atI (nth q 15)) (atI (nth q 16))⟩]) (tabJ []) (loopAt PP 27 0) 0) (headOf c_ref37_touch 0) k (n + 1) (fS T_ref37_touch_0 [.i x0, .i x1, .i x2, .i x3, .i x4, .i x5, .i x6, .b x7, .i x8, .i x9, .i x10, .i x11, .i x12, .i x13, .i x14, .i x15, .i x16]) = (fun (rc : Int → Int → Int → Int → Int → Int → Int → Bool → Int → Int → Int → Int → Int → Int → Int → Int → Int → R) (ex0 : Int → Int → Int → Int → Int → Int → Int → Bool → Int → Int → Int → Int → Int → Int → Int → Int → Int → R) (x0 : Int) (x1 : Int) (x2 : Int) (x3 : Int) (x4 : Int) (x5 : Int) (x6 : Int) (x7 : Bool) (x8 : Int) (x9 : Int) (x10 : Int) (x11 : Int) (x12 : Int) (x13 : Int) (x14 : Int) (x15 : Int) (x16 : Int) => (
  bif ((decide (x10 < 4))) then (
    let v474 : Int := (IntKind.wrap .i64 (x15 - x6))
    let v475 : Int := (IntKind.wrap .i64 (x16 - x6))
    bif ((((Int.tmod x10 2)) == 1)) then (
      let v478 : Int := (IntKind.wrap .i64 (x15 + x6))
      bif ((((IntKind.wrap .i64 (Int.tdiv x10 2))) == 1)) then (
        let v481 : Int := (IntKind.wrap .i64 (x16 + x6))
        bif (ok_ref37_side F x11 x12 x13 x14 v478 v481) then (
          let v740 : Int := (o_ref37_side_0 F x11 x12 x13 x14 v478 v481)
          bif ((decide (v740 > 0))) then (
            let v742 : Int := (IntKind.wrap .i64 (x8 + 1))
            bif ((decide (v740 < 0))) then (
              rc x0 x1 x2 x3 x4 x5 x6 x7 v742 ((IntKind.wrap .i64 (x9 + 1))) ((IntKind.wrap .i64 (x10 + 1))) x11 x12 x13 x14 x15 x16)
            else (
              rc x0 x1 x2 x3 x4 x5 x6 x7 v742 x9 ((IntKind.wrap .i64 (x10 + 1))) x11 x12 x13 x14 x15 x16))
          else (
            bif ((decide (v740 < 0))) then (
              rc x0 x1 x2 x3 x4 x5 x6 x7 x8 ((IntKind.wrap .i64 (x9 + 1))) ((IntKind.wrap .i64 (x10 + 1))) x11 x12 x13 x14 x15 x16)
            else (
              rc x0 x1 x2 x3 x4 x5 x6 x7 x8 x9 ((IntKind.wrap .i64 (x10 + 1))) x11 x12 x13 x14 x15 x16)))
        else (
          none))
      else (
        bif (ok_ref37_side F x11 x12 x13 x14 v478 v475) then (
          let v751 : Int := (o_ref37_side_0 F x11 x12 x13 x14 v478 v475)
          bif ((decide (v751 > 0))) then (
            let v753 : Int := (IntKind.wrap .i64 (x8 + 1))
            bif ((decide (v751 < 0))) then (
              rc x0 x1 x2 x3 x4 x5 x6 x7 v753 ((IntKind.wrap .i64 (x9 + 1))) ((IntKind.wrap .i64 (x10 + 1))) x11 x12 x13 x14 x15 x16)
            else (
              rc x0 x1 x2 x3 x4 x5 x6 x7 v753 x9 ((IntKind.wrap .i64 (x10 + 1))) x11 x12 x13 x14 x15 x16))
          else (
            bif ((decide (v751 < 0))) then (
              rc x0 x1 x2 x3 x4 x5 x6 x7 x8 ((IntKind.wrap .i64 (x9 + 1))) ((IntKind.wrap .i64 (x10 + 1))) x11 x12 x13 x14 x15 x16)
            else (
              rc x0 x1 x2 x3 x4 x5 x6 x7 x8 x9 ((IntKind.wrap .i64 (x10 + 1))) x11 x12 x13 x14 x15 x16)))
        else (
          none)))
    else (
      bif ((((IntKind.wrap .i64 (Int.tdiv x10 2))) == 1)) then (
        let v764 : Int := (IntKind.wrap .i64 (x16 + x6))
        bif (ok_ref37_side F x11 x12 x13 x14 v474 v764) then (
          let v765 : Int := (o_ref37_side_0 F x11 x12 x13 x14 v474 v764)
          bif ((decide (v765 > 0))) then (
            let v767 : Int := (IntKind.wrap .i64 (x8 + 1))
            bif ((decide (v765 < 0))) then (
              rc x0 x1 x2 x3 x4 x5 x6 x7 v767 ((IntKind.wrap .i64 (x9 + 1))) ((IntKind.wrap .i64 (x10 + 1))) x11 x12 x13 x14 x15 x16)
            else (
              rc x0 x1 x2 x3 x4 x5 x6 x7 v767 x9 ((IntKind.wrap .i64 (x10 + 1))) x11 x12 x13 x14 x15 x16))
          else (
            bif ((decide (v765 < 0))) then (
              rc x0 x1 x2 x3 x4 x5 x6 x7 x8 ((IntKind.wrap .i64 (x9 + 1))) ((IntKind.wrap .i64 (x10 + 1))) x11 x12 x13 x14 x15 x16)
            else (
              rc x0 x1 x2 x3 x4 x5 x6 x7 x8 x9 ((IntKind.wrap .i64 (x10 + 1))) x11 x12 x13 x14 x15 x16)))
        else (
          none))
      else (
        bif (ok_ref37_side F x11 x12 x13 x14 v474 v475) then (
          let v776 : Int := (o_ref37_side_0 F x11 x12 x13 x14 v474 v475)
          bif ((decide (v776 > 0))) then (
            let v778 : Int := (IntKind.wrap .i64 (x8 + 1))
            bif ((decide (v776 < 0))) then (
              rc x0 x1 x2 x3 x4 x5 x6 x7 v778 ((IntKind.wrap .i64 (x9 + 1))) ((IntKind.wrap .i64 (x10 + 1))) x11 x12 x13 x14 x15 x16)
            else (
              rc x0 x1 x2 x3 x4 x5 x6 x7 v778 x9 ((IntKind.wrap .i64 (x10 + 1))) x11 x12 x13 x14 x15 x16))
          else (
            bif ((decide (v776 < 0))) then (
              rc x0 x1 x2 x3 x4 x5 x6 x7 x8 ((IntKind.wrap .i64 (x9 + 1))) ((IntKind.wrap .i64 (x10 + 1))) x11 x12 x13 x14 x15 x16)
            else (
              rc x0 x1 x2 x3 x4 x5 x6 x7 x8 x9 ((IntKind.wrap .i64 (x10 + 1))) x11 x12 x13 x14 x15 x16)))
        else (
          none))))
  else (
    ex0 x0 x1 x2 x3 x4 x5 x6 x7 x8 x9 x10 x11 x12 x13 x14 x15 x16) : R)) (fun (y0 : Int) (y1 : Int) (y2 : Int) (y3 : Int) (y4 : Int) (y5 : Int) (y6 : Int) (y7 : Bool) (y8 : Int) (y9 : Int) (y10 : Int) (y11 : Int) (y12 : Int) (y13 : Int) (y14 : Int) (y15 : Int) (y16 : Int) => iterC (codeL PP (words [(38, spec ti_ref37_apart to_ref37_apart (fun q => (ok_ref37_apart F (atI (nth q 0)) (atI (nth q 1)) (atI (nth q 2)) (atI (nth q 3)))) (fun q => [.b (o_ref37_apart_0 F (atI (nth q 0)) (atI (nth q 1)) (atI (nth q 2)) (atI (nth q 3)))])), (23, spec ti_ref37_side to_ref37_side (fun q => (ok_ref37_side F (atI (nth q 0)) (atI (nth q 1)) (atI (nth q 2)) (atI (nth q 3)) (atI (nth q 4)) (atI (nth q 5)))) (fun q => [.i (o_ref37_side_0 F (atI (nth q 0)) (atI (nth q 1)) (atI (nth q 2)) (atI (nth q 3)) (atI (nth q 4)) (atI (nth q 5)))]))]) c_ref37_touch (tabI c_ref37_touch [⟨0, T_ref37_touch_0, fun k q => L_ref37_touch_0 F (fun (z0 : Int) (z1 : Int) (z2 : Int) (z3 : Int) (z4 : Int) (z5 : Int) (z6 : Int) (z7 : Bool) (z8 : Int) (z9 : Int) (z10 : Int) (z11 : Int) (z12 : Int) (z13 : Int) (z14 : Int) (z15 : Int) (z16 : Int) => k (.exit 0) (fS T_ref37_touch_0_0 [.i z0, .i z1, .i z2, .i z3, .i z4, .i z5, .i z6, .b z7, .i z8, .i z9, .i z10, .i z11, .i z12, .i z13, .i z14, .i z15, .i z16])) F (atI (nth q 0)) (atI (nth q 1)) (atI (nth q 2)) (atI (nth q 3)) (atI (nth q 4)) (atI (nth q 5)) (atI (nth q 6)) (atB (nth q 7)) (atI (nth q 8)) (atI (nth q 9)) (atI (nth q 10)) (atI (nth q 11)) (atI (nth q 12)) (atI (nth q 13)) (atI (nth q 14)) (atI (nth q 15)) (atI (nth q 16))⟩]) (tabJ []) (loopAt PP 27 0) 0) (headOf c_ref37_touch 0) k n (fS T_ref37_touch_0 [.i y0, .i y1, .i y2, .i y3, .i y4, .i y5, .i y6, .b y7, .i y8, .i y9, .i y10, .i y11, .i y12, .i y13, .i y14, .i y15, .i y16])) (fun (z0 : Int) (z1 : Int) (z2 : Int) (z3 : Int) (z4 : Int) (z5 : Int) (z6 : Int) (z7 : Bool) (z8 : Int) (z9 : Int) (z10 : Int) (z11 : Int) (z12 : Int) (z13 : Int) (z14 : Int) (z15 : Int) (z16 : Int) => k (.exit 0) (fS T_ref37_touch_0_0 [.i z0, .i z1, .i z2, .i z3, .i z4, .i z5, .i z6, .b z7, .i z8, .i z9, .i z10, .i z11, .i z12, .i z13, .i z14, .i z15, .i z16])) x0 x1 x2 x3 x4 x5 x6 x7 x8 x9 x10 x11 x12 x13 x14 x15 x16 := by
      intros
      kernel_rfl
    have h : iterC (codeL PP (S_ref37_touch F) c_ref37_touch (I_ref37_touch F) (J_ref37_touch F) (loopAt PP 27 0) 0) (headOf c_ref37_touch 0) k (n + 1) (fS T_ref37_touch_0 [.i x0, .i x1, .i x2, .i x3, .i x4, .i x5, .i x6, .b x7, .i x8, .i x9, .i x10, .i x11, .i x12, .i x13, .i x14, .i x15, .i x16]) = B_ref37_touch_0 F (fun (y0 : Int) (y1 : Int) (y2 : Int) (y3 : Int) (y4 : Int) (y5 : Int) (y6 : Int) (y7 : Bool) (y8 : Int) (y9 : Int) (y10 : Int) (y11 : Int) (y12 : Int) (y13 : Int) (y14 : Int) (y15 : Int) (y16 : Int) => iterC (codeL PP (S_ref37_touch F) c_ref37_touch (I_ref37_touch F) (J_ref37_touch F) (loopAt PP 27 0) 0) (headOf c_ref37_touch 0) k n (fS T_ref37_touch_0 [.i y0, .i y1, .i y2, .i y3, .i y4, .i y5, .i y6, .b y7, .i y8, .i y9, .i y10, .i y11, .i y12, .i y13, .i y14, .i y15, .i y16])) (fun (z0 : Int) (z1 : Int) (z2 : Int) (z3 : Int) (z4 : Int) (z5 : Int) (z6 : Int) (z7 : Bool) (z8 : Int) (z9 : Int) (z10 : Int) (z11 : Int) (z12 : Int) (z13 : Int) (z14 : Int) (z15 : Int) (z16 : Int) => k (.exit 0) (fS T_ref37_touch_0_0 [.i z0, .i z1, .i z2, .i z3, .i z4, .i z5, .i z6, .b z7, .i z8, .i z9, .i z10, .i z11, .i z12, .i z13, .i z14, .i z15, .i z16])) x0 x1 x2 x3 x4 x5 x6 x7 x8 x9 x10 x11 x12 x13 x14 x15 x16 := (h0 ok_ref37_apart o_ref37_apart_0 ok_ref37_side o_ref37_side_0 L_ref37_touch_0).trans (by kernel_rfl)
    rw [h]
    simp only [lL_ref37_touch_0 F k n]
    rfl
def f_ref37_touch (F : Nat) (a0 : Int) (a1 : Int) (a2 : Int) (a3 : Int) (a4 : Int) (a5 : Int) (a6 : Int) : R :=
  let v446 : Int := (IntKind.wrap .i64 (a4 - a6))
  let v447 : Int := (IntKind.wrap .i64 (a4 + a6))
  bif (ok_ref37_apart F a0 a2 v446 v447) then (
    bif ((o_ref37_apart_0 F a0 a2 v446 v447)) then (
      some (.v (.bool false)))
    else (
      let v453 : Int := (IntKind.wrap .i64 (a5 - a6))
      let v454 : Int := (IntKind.wrap .i64 (a5 + a6))
      bif (ok_ref37_apart F a1 a3 v453 v454) then (
        bif ((o_ref37_apart_0 F a1 a3 v453 v454)) then (
          some (.v (.bool false)))
        else (
          L_ref37_touch_0 F (fun (v787 : Int) (v788 : Int) (v789 : Int) (v790 : Int) (v791 : Int) (v792 : Int) (v793 : Int) (v794 : Bool) (v795 : Int) (v796 : Int) (v797 : Int) (v798 : Int) (v799 : Int) (v800 : Int) (v801 : Int) (v802 : Int) (v803 : Int) =>
            bif ((decide (v795 < 4))) then (
              some (.v (.bool ((decide (v796 < 4))))))
            else (
              some (.v (.bool false)))) F a0 a1 a2 a3 a4 a5 a6 false 0 0 0 a0 a1 a2 a3 a4 a5))
      else (
        none)))
  else (
    none)
theorem e_ref37_touch (F : Nat) (a0 : Int) (a1 : Int) (a2 : Int) (a3 : Int) (a4 : Int) (a5 : Int) (a6 : Int) : funL PP (S_ref37_touch F) c_ref37_touch (I_ref37_touch F) (J_ref37_touch F) 27 (fTs ti_ref37_touch [.i a0, .i a1, .i a2, .i a3, .i a4, .i a5, .i a6]).1 = f_ref37_touch F a0 a1 a2 a3 a4 a5 a6 := by
  have h : ∀ (ok_ref37_apart : Nat → Int → Int → Int → Int → Bool) (o_ref37_apart_0 : Nat → Int → Int → Int → Int → Bool) (ok_ref37_side : Nat → Int → Int → Int → Int → Int → Int → Bool) (o_ref37_side_0 : Nat → Int → Int → Int → Int → Int → Int → Int) (L_ref37_touch_0 : Nat → (Int → Int → Int → Int → Int → Int → Int → Bool → Int → Int → Int → Int → Int → Int → Int → Int → Int → R) → Nat → Int → Int → Int → Int → Int → Int → Int → Bool → Int → Int → Int → Int → Int → Int → Int → Int → Int → R), funL PP (words [(38, spec ti_ref37_apart to_ref37_apart (fun q => (ok_ref37_apart F (atI (nth q 0)) (atI (nth q 1)) (atI (nth q 2)) (atI (nth q 3)))) (fun q => [.b (o_ref37_apart_0 F (atI (nth q 0)) (atI (nth q 1)) (atI (nth q 2)) (atI (nth q 3)))])), (23, spec ti_ref37_side to_ref37_side (fun q => (ok_ref37_side F (atI (nth q 0)) (atI (nth q 1)) (atI (nth q 2)) (atI (nth q 3)) (atI (nth q 4)) (atI (nth q 5)))) (fun q => [.i (o_ref37_side_0 F (atI (nth q 0)) (atI (nth q 1)) (atI (nth q 2)) (atI (nth q 3)) (atI (nth q 4)) (atI (nth q 5)))]))]) c_ref37_touch (tabI c_ref37_touch [⟨0, T_ref37_touch_0, fun k q => L_ref37_touch_0 F (fun (z0 : Int) (z1 : Int) (z2 : Int) (z3 : Int) (z4 : Int) (z5 : Int) (z6 : Int) (z7 : Bool) (z8 : Int) (z9 : Int) (z10 : Int) (z11 : Int) (z12 : Int) (z13 : Int) (z14 : Int) (z15 : Int) (z16 : Int) => k (.exit 0) (fS T_ref37_touch_0_0 [.i z0, .i z1, .i z2, .i z3, .i z4, .i z5, .i z6, .b z7, .i z8, .i z9, .i z10, .i z11, .i z12, .i z13, .i z14, .i z15, .i z16])) F (atI (nth q 0)) (atI (nth q 1)) (atI (nth q 2)) (atI (nth q 3)) (atI (nth q 4)) (atI (nth q 5)) (atI (nth q 6)) (atB (nth q 7)) (atI (nth q 8)) (atI (nth q 9)) (atI (nth q 10)) (atI (nth q 11)) (atI (nth q 12)) (atI (nth q 13)) (atI (nth q 14)) (atI (nth q 15)) (atI (nth q 16))⟩]) (tabJ []) 27 (fTs ti_ref37_touch [.i a0, .i a1, .i a2, .i a3, .i a4, .i a5, .i a6]).1 = (
  let v446 : Int := (IntKind.wrap .i64 (a4 - a6))
  let v447 : Int := (IntKind.wrap .i64 (a4 + a6))
  bif (ok_ref37_apart F a0 a2 v446 v447) then (
    bif ((o_ref37_apart_0 F a0 a2 v446 v447)) then (
      some (.v (.bool false)))
    else (
      let v453 : Int := (IntKind.wrap .i64 (a5 - a6))
      let v454 : Int := (IntKind.wrap .i64 (a5 + a6))
      bif (ok_ref37_apart F a1 a3 v453 v454) then (
        bif ((o_ref37_apart_0 F a1 a3 v453 v454)) then (
          some (.v (.bool false)))
        else (
          L_ref37_touch_0 F (fun (v787 : Int) (v788 : Int) (v789 : Int) (v790 : Int) (v791 : Int) (v792 : Int) (v793 : Int) (v794 : Bool) (v795 : Int) (v796 : Int) (v797 : Int) (v798 : Int) (v799 : Int) (v800 : Int) (v801 : Int) (v802 : Int) (v803 : Int) =>
            bif ((decide (v795 < 4))) then (
              some (.v (.bool ((decide (v796 < 4))))))
            else (
              some (.v (.bool false)))) F a0 a1 a2 a3 a4 a5 a6 false 0 0 0 a0 a1 a2 a3 a4 a5))
      else (
        none)))
  else (
    none) : R) := by
    intros
    kernel_rfl
  exact (h ok_ref37_apart o_ref37_apart_0 ok_ref37_side o_ref37_side_0 L_ref37_touch_0).trans (by kernel_rfl)
def ok_ref37_touch (F : Nat) (a0 : Int) (a1 : Int) (a2 : Int) (a3 : Int) (a4 : Int) (a5 : Int) (a6 : Int) : Bool := okT to_ref37_touch (f_ref37_touch F a0 a1 a2 a3 a4 a5 a6)
def o_ref37_touch_0 (F : Nat) (a0 : Int) (a1 : Int) (a2 : Int) (a3 : Int) (a4 : Int) (a5 : Int) (a6 : Int) : Bool := atB (nth (outT to_ref37_touch (f_ref37_touch F a0 a1 a2 a3 a4 a5 a6)) 0)
theorem k_ref37_touch (F : Nat) (a0 : Int) (a1 : Int) (a2 : Int) (a3 : Int) (a4 : Int) (a5 : Int) (a6 : Int) {z0 : Bool} (h : f_ref37_touch F a0 a1 a2 a3 a4 a5 a6 = some (.v (.bool z0))) : ok_ref37_touch F a0 a1 a2 a3 a4 a5 a6 = true ∧ o_ref37_touch_0 F a0 a1 a2 a3 a4 a5 a6 = z0 := by
  refine ⟨?_, ?_⟩
  · unfold ok_ref37_touch; rw [h]; kernel_rfl
  · unfold o_ref37_touch_0; rw [h]; kernel_rfl
def s_ref37_touch (F : Nat) : List VV → Option (Bool × VV) := spec ti_ref37_touch to_ref37_touch (fun q => (ok_ref37_touch F (atI (nth q 0)) (atI (nth q 1)) (atI (nth q 2)) (atI (nth q 3)) (atI (nth q 4)) (atI (nth q 5)) (atI (nth q 6)))) (fun q => [.b (o_ref37_touch_0 F (atI (nth q 0)) (atI (nth q 1)) (atI (nth q 2)) (atI (nth q 3)) (atI (nth q 4)) (atI (nth q 5)) (atI (nth q 6)))])
theorem hS_ref37_touch (F : Nat) : ∀ f, Good PP f (unS (S_ref37_touch F f)) := words_good fun p hp => by
  simp only [List.mem_cons, List.not_mem_nil, or_false] at hp
  rcases hp with rfl | rfl
  · exact g_ref37_apart F
  · exact g_ref37_side F
theorem hl_ref37_touch (F : Nat) : ∀ p ∈ loopsIn PP 27, LoopOK PP (S_ref37_touch F) c_ref37_touch F (I_ref37_touch F) (J_ref37_touch F) p :=
  loops_of [(0, loopAt PP 27 0)] (by kernel_rfl) (all_cons
    (loop_ok (W_ref37_touch F) rfl (tab_cons (fun _ k q => Le.ofEq ((lL_ref37_touch_0 F k F (atI (nth q 0)) (atI (nth q 1)) (atI (nth q 2)) (atI (nth q 3)) (atI (nth q 4)) (atI (nth q 5)) (atI (nth q 6)) (atB (nth q 7)) (atI (nth q 8)) (atI (nth q 9)) (atI (nth q 10)) (atI (nth q 11)) (atI (nth q 12)) (atI (nth q 13)) (atI (nth q 14)) (atI (nth q 15)) (atI (nth q 16))).symm.trans (congrArg (iterC (codeL PP (S_ref37_touch F) c_ref37_touch (I_ref37_touch F) (J_ref37_touch F) (loopAt PP 27 0) 0) (headOf c_ref37_touch 0) k F) (show fS T_ref37_touch_0 [.i (atI (nth q 0)), .i (atI (nth q 1)), .i (atI (nth q 2)), .i (atI (nth q 3)), .i (atI (nth q 4)), .i (atI (nth q 5)), .i (atI (nth q 6)), .b (atB (nth q 7)), .i (atI (nth q 8)), .i (atI (nth q 9)), .i (atI (nth q 10)), .i (atI (nth q 11)), .i (atI (nth q 12)), .i (atI (nth q 13)), .i (atI (nth q 14)), .i (atI (nth q 15)), .i (atI (nth q 16))] = fS T_ref37_touch_0 q by kernel_rfl)))) tab_nil)) all_nil)
theorem hj_ref37_touch (F : Nat) : ∀ p ∈ joinsIn PP c_ref37_touch 27, JoinOK PP (S_ref37_touch F) c_ref37_touch (I_ref37_touch F) (J_ref37_touch F) p :=
  joins_of [] (by kernel_rfl) all_nil
theorem g_ref37_touch (F : Nat) : Good PP 27 (unS (s_ref37_touch F)) :=
  fun_spec (hS_ref37_touch F) (by kernel_rfl) (by kernel_rfl) (C := c_ref37_touch) (F := fun q => (f_ref37_touch F (atI (nth q 0)) (atI (nth q 1)) (atI (nth q 2)) (atI (nth q 3)) (atI (nth q 4)) (atI (nth q 5)) (atI (nth q 6)))) (fun _ => F) (fun _ => I_ref37_touch F) (fun _ => J_ref37_touch F) (fun _ => hl_ref37_touch F) (fun _ => hj_ref37_touch F)
    (fun q => (congrArg (funL PP (S_ref37_touch F) c_ref37_touch (I_ref37_touch F) (J_ref37_touch F) 27) (show (fTs ti_ref37_touch q).1 = (fTs ti_ref37_touch [.i (atI (nth q 0)), .i (atI (nth q 1)), .i (atI (nth q 2)), .i (atI (nth q 3)), .i (atI (nth q 4)), .i (atI (nth q 5)), .i (atI (nth q 6))]).1 by kernel_rfl)).trans (e_ref37_touch F (atI (nth q 0)) (atI (nth q 1)) (atI (nth q 2)) (atI (nth q 3)) (atI (nth q 4)) (atI (nth q 5)) (atI (nth q 6))))
    (fun _ h => okT_fill' h (by kernel_rfl))

end Go.Xv
namespace Go.Xv

def apB (x y l h : Int) : Bool := (decide (x < l) && decide (y < l)) || (decide (h < x) && decide (h < y))
def cnr (p : Pt) (r : Int) : Nat → Pt
  | 0 => (p.1 - r, p.2 - r)
  | 1 => (p.1 - r, p.2 + r)
  | 2 => (p.1 + r, p.2 - r)
  | _ => (p.1 + r, p.2 + r)
def posB (a b p : Pt) (r : Int) : Bool := decide (0 < cross a b (cnr p r 0)) && decide (0 < cross a b (cnr p r 1)) && decide (0 < cross a b (cnr p r 2)) && decide (0 < cross a b (cnr p r 3))
def negB (a b p : Pt) (r : Int) : Bool := decide (cross a b (cnr p r 0) < 0) && decide (cross a b (cnr p r 1) < 0) && decide (cross a b (cnr p r 2) < 0) && decide (cross a b (cnr p r 3) < 0)
/-- a square touches an edge. -/
def touchB (a b p : Pt) (r : Int) : Bool := !apB a.1 b.1 (p.1 - r) (p.1 + r) && !apB a.2 b.2 (p.2 - r) (p.2 + r) && !posB a b p r && !negB a b p r

structure OkR (r : Int) : Prop where
  a : 0 ≤ r
  b : r ≤ 1152921504606846976
theorem cnr_near {p : Pt} {r : Int} (hp : OkP p) (hr : OkR r) (i : Nat) : NearP (cnr p r i) := by
  obtain ⟨p1, p2, p3, p4⟩ := hp
  obtain ⟨r1, r2⟩ := hr
  unfold cnr
  split <;> exact ⟨by simp only; omega, by simp only; omega, by simp only; omega, by simp only; omega⟩
theorem mx_lt {x y l : Int} : ((if y > x then y else x) < l) ↔ (x < l ∧ y < l) := by split <;> omega
theorem mn_gt {x y h : Int} : ((if y < x then y else x) > h) ↔ (h < x ∧ h < y) := by split <;> omega
theorem sgn_bd (x : Int) : -1 ≤ sgn x ∧ sgn x ≤ 1 := by unfold sgn; split <;> (try split) <;> omega
theorem sgn_pos {x : Int} : sgn x = 1 ↔ 0 < x := by unfold sgn; split <;> (try split) <;> omega
theorem sgn_neg {x : Int} : sgn x = -1 ↔ x < 0 := by unfold sgn; split <;> (try split) <;> omega

theorem apB_bif {α : Type} {x y l h : Int} (s u : α) : (bif decide ((if y > x then y else x) < l) then s else bif decide ((if y < x then y else x) > h) then s else u) = bif apB x y l h then s else u := by
  unfold apB
  by_cases h1 : x < l ∧ y < l
  · rw [dt (mx_lt.2 h1), dt h1.1, dt h1.2]; rfl
  · rw [df (fun e => h1 (mx_lt.1 e))]
    have e1 : (decide (x < l) && decide (y < l)) = false := by
      rw [Bool.and_eq_false_iff]
      by_cases q : x < l
      · exact .inr (df fun e => h1 ⟨q, e⟩)
      · exact .inl (df q)
    rw [e1, Bool.false_or]
    by_cases h2 : h < x ∧ h < y
    · rw [dt (mn_gt.2 h2), dt h2.1, dt h2.2]; rfl
    · rw [df (fun e => h2 (mn_gt.1 e))]
      have e2 : (decide (h < x) && decide (h < y)) = false := by
        rw [Bool.and_eq_false_iff]
        by_cases q : h < x
        · exact .inr (df fun e => h2 ⟨q, e⟩)
        · exact .inl (df q)
      rw [e2]; rfl

theorem ts0 (F : Nat) (ex0) (ex1) (n : Nat) (p1 p2 r a1 a2 b1 b2 : Int) : L_fence_square_touches_0 F ex0 ex1 (n + 1) p1 p2 r a1 a2 b1 b2 false p1 p2 0 p1 p2 r a1 a2 b1 b2 =
    bif decide ((if b1 > a1 then b1 else a1) < IntKind.wrap .i64 (p1 - r)) then ex0 p1 p2 r a1 a2 b1 b2 false 0 p1 p1 p2 0 p1 p2 r a1 a2 b1 b2
    else bif decide ((if b1 < a1 then b1 else a1) > IntKind.wrap .i64 (p1 + r)) then ex0 p1 p2 r a1 a2 b1 b2 false 0 p1 p1 p2 0 p1 p2 r a1 a2 b1 b2
    else L_fence_square_touches_0 F ex0 ex1 n p1 p2 r a1 a2 b1 b2 false p1 p2 1 p1 p2 r a1 a2 b1 b2 := by kernel_rfl
theorem ts1 (F : Nat) (ex0) (ex1) (n : Nat) (p1 p2 r a1 a2 b1 b2 : Int) : L_fence_square_touches_0 F ex0 ex1 (n + 2) p1 p2 r a1 a2 b1 b2 false p1 p2 1 p1 p2 r a1 a2 b1 b2 =
    bif decide ((if b2 > a2 then b2 else a2) < IntKind.wrap .i64 (p2 - r)) then ex0 p1 p2 r a1 a2 b1 b2 false 1 p2 p1 p2 1 p1 p2 r a1 a2 b1 b2
    else bif decide ((if b2 < a2 then b2 else a2) > IntKind.wrap .i64 (p2 + r)) then ex0 p1 p2 r a1 a2 b1 b2 false 1 p2 p1 p2 1 p1 p2 r a1 a2 b1 b2
    else ex1 p1 p2 r a1 a2 b1 b2 false p1 p2 2 p1 p2 r a1 a2 b1 b2 := by kernel_rfl
theorem tsq (F : Nat) (ex) (n : Nat) (x0 x1 x2 x3 x4 x5 x6 x9 x10 x11 p1 p2 r a1 a2 b1 b2 : Int) (s0 s1 s2 s3 : Int) (hs0 : -1 ≤ s0 ∧ s0 ≤ 1) (hs1 : -1 ≤ s1 ∧ s1 ≤ 1) (hs2 : -1 ≤ s2 ∧ s2 ≤ 1) (hs3 : -1 ≤ s3 ∧ s3 ≤ 1)
    (m1 : IntKind.wrap .i64 (p1 + IntKind.wrap .i64 ((-1) * r)) = p1 - r) (m2 : IntKind.wrap .i64 (p1 + IntKind.wrap .i64 (1 * r)) = p1 + r)
    (m3 : IntKind.wrap .i64 (p2 + IntKind.wrap .i64 ((-1) * r)) = p2 - r) (m4 : IntKind.wrap .i64 (p2 + IntKind.wrap .i64 (1 * r)) = p2 + r)
    (k0 : ok_fence_side F a1 a2 b1 b2 (p1 - r) (p2 - r) = true ∧ o_fence_side_0 F a1 a2 b1 b2 (p1 - r) (p2 - r) = s0)
    (k1 : ok_fence_side F a1 a2 b1 b2 (p1 - r) (p2 + r) = true ∧ o_fence_side_0 F a1 a2 b1 b2 (p1 - r) (p2 + r) = s1)
    (k2 : ok_fence_side F a1 a2 b1 b2 (p1 + r) (p2 - r) = true ∧ o_fence_side_0 F a1 a2 b1 b2 (p1 + r) (p2 - r) = s2)
    (k3 : ok_fence_side F a1 a2 b1 b2 (p1 + r) (p2 + r) = true ∧ o_fence_side_0 F a1 a2 b1 b2 (p1 + r) (p2 + r) = s3) :
    L_fence_square_touches_1 F ex (n + 5) x0 x1 x2 x3 x4 x5 x6 false 0 x9 x10 x11 (-1) (-1) (-1) 1 1 (-1) 1 1 0 p1 p2 r a1 a2 b1 b2 =
      ex x0 x1 x2 x3 x4 x5 x6 false (s0 + s1 + s2 + s3) x9 x10 x11 (-1) (-1) (-1) 1 1 (-1) 1 1 4 p1 p2 r a1 a2 b1 b2 := by
  have st : ∀ (n i : Nat) (s c d p q : Int) (x y : Int), i < 4 → [VV.v (.int .i64 (-1)), VV.v (.int .i64 (-1)), VV.v (.int .i64 (-1)), VV.v (.int .i64 1), VV.v (.int .i64 1), VV.v (.int .i64 (-1)), VV.v (.int .i64 1), VV.v (.int .i64 1)][i * 2]? = some (.v (.int .i64 c)) →
      [VV.v (.int .i64 (-1)), VV.v (.int .i64 (-1)), VV.v (.int .i64 (-1)), VV.v (.int .i64 1), VV.v (.int .i64 1), VV.v (.int .i64 (-1)), VV.v (.int .i64 1), VV.v (.int .i64 1)][i * 2 + 1]? = some (.v (.int .i64 d)) →
      IntKind.wrap .i64 (p1 + IntKind.wrap .i64 (c * r)) = x → IntKind.wrap .i64 (p2 + IntKind.wrap .i64 (d * r)) = y → ok_fence_side F a1 a2 b1 b2 x y = true → o_fence_side_0 F a1 a2 b1 b2 x y = q → I64 (s + q) →
      L_fence_square_touches_1 F ex (n + 1) x0 x1 x2 x3 x4 x5 x6 false s x9 x10 x11 (-1) (-1) (-1) 1 1 (-1) 1 1 (i : Int) p1 p2 r a1 a2 b1 b2 = L_fence_square_touches_1 F ex n x0 x1 x2 x3 x4 x5 x6 false (s + q) x9 x10 x11 (-1) (-1) (-1) 1 1 (-1) 1 1 ((i + 1 : Nat) : Int) p1 p2 r a1 a2 b1 b2 := by
    intro n i s c d p q x y hi hc hd hx hy hk ho hI
    rw [L_fence_square_touches_1, B_fence_square_touches_1]
    simp only [Int.toNat_natCast, hc, hd, isI, iv, hx, hy, ho, wi64_in hI]
    refine (bp (dt (by omega)) (bp ?_ (bp hk ?_)))
    · simp only [decide_true, Bool.and_true, Bool.and_eq_true, decide_eq_true_eq]; omega
    · rw [show IntKind.wrap .i64 ((i : Int) + 1) = ((i + 1 : Nat) : Int) by rw [wi64_in (by unfold I64; omega)]; simp]
  rw [show (0 : Int) = ((0 : Nat) : Int) by rfl]
  rw [show n + 5 = (n + 4) + 1 by rfl, st (n + 4) 0 _ (-1) (-1) 0 s0 _ _ (by omega) rfl rfl m1 m3 k0.1 k0.2 (by unfold I64; omega)]
  rw [show n + 4 = (n + 3) + 1 by rfl, st (n + 3) 1 _ (-1) 1 0 s1 _ _ (by omega) rfl rfl m1 m4 k1.1 k1.2 (by unfold I64; omega)]
  rw [show n + 3 = (n + 2) + 1 by rfl, st (n + 2) 2 _ 1 (-1) 0 s2 _ _ (by omega) rfl rfl m2 m3 k2.1 k2.2 (by unfold I64; omega)]
  rw [show n + 2 = (n + 1) + 1 by rfl, st (n + 1) 3 _ 1 1 0 s3 _ _ (by omega) rfl rfl m2 m4 k3.1 k3.2 (by unfold I64; omega)]
  rw [L_fence_square_touches_1, B_fence_square_touches_1]
  refine (bn (df (by omega)) ?_)
  simp

theorem sum4 {x0 x1 x2 x3 : Int} : (decide (sgn x0 + sgn x1 + sgn x2 + sgn x3 > -4) && decide (sgn x0 + sgn x1 + sgn x2 + sgn x3 < 4)) =
    (!(decide (0 < x0) && decide (0 < x1) && decide (0 < x2) && decide (0 < x3)) && !(decide (x0 < 0) && decide (x1 < 0) && decide (x2 < 0) && decide (x3 < 0))) := by
  have p : ∀ x : Int, decide (0 < x) = decide (sgn x = 1) := fun x => by simp only [sgn_pos]
  have q : ∀ x : Int, decide (x < 0) = decide (sgn x = -1) := fun x => by simp only [sgn_neg]
  simp only [p, q]
  have := sgn_bd x0
  have := sgn_bd x1
  have := sgn_bd x2
  have := sgn_bd x3
  rw [Bool.eq_iff_iff]
  simp only [Bool.and_eq_true, Bool.not_eq_true', Bool.and_eq_false_iff, decide_eq_true_eq, decide_eq_false_iff_not]
  omega

theorem f_touches (F : Nat) (hF : 200 ≤ F) {p a b : Pt} {r : Int} (hp : OkP p) (hr : OkR r) (ha : OkP a) (hb : OkP b) :
    f_fence_square_touches F p.1 p.2 r a.1 a.2 b.1 b.2 = some (.v (.bool (touchB a b p r))) := by
  have s0 := a_side F ha hb (cnr_near hp hr 0)
  have s1 := a_side F ha hb (cnr_near hp hr 1)
  have s2 := a_side F ha hb (cnr_near hp hr 2)
  have s3 := a_side F ha hb (cnr_near hp hr 3)
  simp only [cnr] at s0 s1 s2 s3
  obtain ⟨p1, p2, p3, p4⟩ := hp
  obtain ⟨r1, r2⟩ := hr
  obtain ⟨n, hn⟩ : ∃ n, F = n + 6 := ⟨F - 6, by omega⟩
  unfold f_fence_square_touches touchB
  have e1 : IntKind.wrap .i64 (p.1 - r) = p.1 - r := wi64_in (by unfold I64; omega)
  have e2 : IntKind.wrap .i64 (p.1 + r) = p.1 + r := wi64_in (by unfold I64; omega)
  have e3 : IntKind.wrap .i64 (p.2 - r) = p.2 - r := wi64_in (by unfold I64; omega)
  have e4 : IntKind.wrap .i64 (p.2 + r) = p.2 + r := wi64_in (by unfold I64; omega)
  have n1 : IntKind.wrap .i64 ((-1) * r) = -r := by rw [wi64_in (by unfold I64; omega)]; omega
  have n2 : IntKind.wrap .i64 (1 * r) = r := by rw [wi64_in (by unfold I64; omega)]; omega
  have hL : ∀ ex0 ex1, L_fence_square_touches_0 F ex0 ex1 F p.1 p.2 r a.1 a.2 b.1 b.2 false p.1 p.2 0 p.1 p.2 r a.1 a.2 b.1 b.2 =
      bif apB a.1 b.1 (p.1 - r) (p.1 + r) then ex0 p.1 p.2 r a.1 a.2 b.1 b.2 false 0 p.1 p.1 p.2 0 p.1 p.2 r a.1 a.2 b.1 b.2
      else bif apB a.2 b.2 (p.2 - r) (p.2 + r) then ex0 p.1 p.2 r a.1 a.2 b.1 b.2 false 1 p.2 p.1 p.2 1 p.1 p.2 r a.1 a.2 b.1 b.2 else ex1 p.1 p.2 r a.1 a.2 b.1 b.2 false p.1 p.2 2 p.1 p.2 r a.1 a.2 b.1 b.2 := by
    intro ex0 ex1
    rw [show L_fence_square_touches_0 F ex0 ex1 F = L_fence_square_touches_0 F ex0 ex1 ((n + 3) + 2 + 1) by rw [hn]]
    rw [ts0, e1, e2, apB_bif, ts1, e3, e4, apB_bif]
  rw [hL]
  clear hL
  cases apB a.1 b.1 (p.1 - r) (p.1 + r) with
  | true => rfl
  | false =>
    cases apB a.2 b.2 (p.2 - r) (p.2 + r) with
    | true => rfl
    | false =>
      simp only [cond_false, Bool.not_false, Bool.true_and]
      have hq := fun ex => tsq F ex (n + 1) p.1 p.2 r a.1 a.2 b.1 b.2 p.1 p.2 2 p.1 p.2 r a.1 a.2 b.1 b.2 _ _ _ _ (sgn_bd _) (sgn_bd _) (sgn_bd _) (sgn_bd _)
        (by rw [n1, ← Int.sub_eq_add_neg, e1]) (by rw [n2, e2]) (by rw [n1, ← Int.sub_eq_add_neg, e3]) (by rw [n2, e4]) s0 s1 s2 s3
      rw [show n + 1 + 5 = F by omega] at hq
      rw [hq]
      unfold posB negB
      simp only [cnr]
      rw [← sum4]
      cases decide (sgn (cross a b (p.1 - r, p.2 - r)) + sgn (cross a b (p.1 - r, p.2 + r)) + sgn (cross a b (p.1 + r, p.2 - r)) + sgn (cross a b (p.1 + r, p.2 + r)) > -4) <;> rfl
theorem a_touches (F : Nat) (hF : 200 ≤ F) {p a b : Pt} {r : Int} (hp : OkP p) (hr : OkR r) (ha : OkP a) (hb : OkP b) :
    ok_fence_square_touches F p.1 p.2 r a.1 a.2 b.1 b.2 = true ∧ o_fence_square_touches_0 F p.1 p.2 r a.1 a.2 b.1 b.2 = touchB a b p r := k_fence_square_touches F _ _ _ _ _ _ _ (f_touches F hF hp hr ha hb)
end Go.Xv
set_option linter.unusedVariables false
namespace Go.Xv
/- 16 _ref37_Check -/
def c_ref37_Check : Cfg := ⟨[0, 1, 2, 3, 20, 25, 52], [(0, [0, 1, 2, 3, 4, 5, 6, 7, 8, 9, 10, 11, 12, 13, 14, 15, 16, 17, 18, 19, 20])], [], []⟩
def ti_ref37_Check : List TV := [.agg [.v (.bool), .fs (.lit 0) .hole 2, .v (.int .i64), .v (.int .i64)]]
def to_ref37_Check : TV := .v (.int .i64)
def S_ref37_Check (F : Nat) : FuncId → List VV → Option (Bool × VV) := words [(26, s_ref37_point F)]
def T_ref37_Check_0 : TS := ⟨[(0, .agg [.v (.bool), .fs (.lit 0) .hole 2, .v (.int .i64), .v (.int .i64)]), (1, .lp 0 (.lit 0)), (2, .v (.int .i64)), (3, .v (.int .i64))], [(0, ⟨(.ex [.v (.bool), .fs (.lit 0) .hole 2, .v (.int .i64), .v (.int .i64)]), false⟩)], 1⟩
def T_ref37_Check_0_0 : TS := ⟨[(0, .agg [.v (.bool), .fs (.lit 0) .hole 2, .v (.int .i64), .v (.int .i64)]), (1, .lp 0 (.lit 0)), (2, .v (.int .i64)), (3, .v (.int .i64))], [(0, ⟨(.ex [.v (.bool), .fs (.lit 0) .hole 2, .v (.int .i64), .v (.int .i64)]), false⟩)], 1⟩
def T_ref37_Check_0_1 : TS := ⟨[(0, .agg [.v (.bool), .fs (.lit 0) .hole 2, .v (.int .i64), .v (.int .i64)]), (1, .lp 0 (.lit 0)), (2, .v (.int .i64)), (3, .v (.int .i64))], [(0, ⟨(.ex [.v (.bool), .fs (.lit 0) .hole 2, .v (.int .i64), .v (.int .i64)]), false⟩)], 1⟩
def B_ref37_Check_0 (F : Nat) (rc : Bool → List VV → Nat → Int → Int → Int → Int → Bool → List VV → Nat → Int → Int → R) (ex0 : Bool → List VV → Nat → Int → Int → Int → Int → Bool → List VV → Nat → Int → Int → R) (ex1 : Bool → List VV → Nat → Int → Int → Int → Int → Bool → List VV → Nat → Int → Int → R) (x0 : Bool) (x1 : List VV) (x2 : Nat) (x3 : Int) (x4 : Int) (x5 : Int) (x6 : Int) (x7 : Bool) (x8 : List VV) (x9 : Nat) (x10 : Int) (x11 : Int) : R :=
  bif ((decide (x6 < (((x9 : Nat) : Int))))) then (
    bif ((decide (0 ≤ x6)) && (decide (x6 < ((x9 : Nat) : Int)))) then (
      let v367 : Nat := (0 + ((Int.toNat x6) * 2))
      bif ((isI .i64 x8[v367]?) && ((isI .i64 x8[(v367 + 1)]?) && true)) then (
        let v368 : Int := (iv x8[v367]?)
        let v369 : Int := (iv x8[(v367 + 1)]?)
        bif (ok_ref37_point F v368 v369) then (
          bif ((!((o_ref37_point_0 F v368 v369)))) then (
            ex0 x0 x1 x2 x3 x4 2 x6 x7 x8 x9 x10 x11)
          else (
            bif ((decide (0 ≤ x6)) && (decide (x6 < ((x9 : Nat) : Int)))) then (
              let v376 : Nat := (0 + ((Int.toNat x6) * 2))
              bif ((isI .i64 x8[v376]?) && ((isI .i64 x8[(v376 + 1)]?) && true)) then (
                let v380 : Int := ((x9 : Nat) : Int)
                bif (!(decide (v380 = 0))) then (
                  let v381 : Int := (Int.tmod ((IntKind.wrap .i64 (x6 + 1))) v380)
                  bif ((decide (0 ≤ v381)) && (decide (v381 < ((x9 : Nat) : Int)))) then (
                    let v382 : Nat := (0 + ((Int.toNat v381) * 2))
                    bif ((isI .i64 x8[v382]?) && ((isI .i64 x8[(v382 + 1)]?) && true)) then (
                      bif (((((iv x8[v376]?)) == ((iv x8[v382]?))) && (((iv x8[(v376 + 1)]?)) == ((iv x8[(v382 + 1)]?))))) then (
                        ex0 x0 x1 x2 x3 x4 2 x6 x7 x8 x9 x10 x11)
                      else (
                        rc x0 x1 x2 x3 x4 x5 ((IntKind.wrap .i64 (x6 + 1))) x7 x8 x9 x10 x11))
                    else (
                      none))
                  else (
                    none))
                else (
                  none))
              else (
                none))
            else (
              none)))
        else (
          none))
      else (
        none))
    else (
      none))
  else (
    ex1 x0 x1 x2 x3 x4 x5 x6 x7 x8 x9 x10 x11)
def L_ref37_Check_0 (F : Nat) (ex0 : Bool → List VV → Nat → Int → Int → Int → Int → Bool → List VV → Nat → Int → Int → R) (ex1 : Bool → List VV → Nat → Int → Int → Int → Int → Bool → List VV → Nat → Int → Int → R) : Nat → Bool → List VV → Nat → Int → Int → Int → Int → Bool → List VV → Nat → Int → Int → R
  | 0, _, _, _, _, _, _, _, _, _, _, _, _ => none
  | n + 1, x0, x1, x2, x3, x4, x5, x6, x7, x8, x9, x10, x11 => B_ref37_Check_0 F (L_ref37_Check_0 F ex0 ex1 n) ex0 ex1 x0 x1 x2 x3 x4 x5 x6 x7 x8 x9 x10 x11
def W_ref37_Check (F : Nat) : List LW := [⟨0, T_ref37_Check_0, fun k q => L_ref37_Check_0 F (fun (z0 : Bool) (z1 : List VV) (z2 : Nat) (z3 : Int) (z4 : Int) (z5 : Int) (z6 : Int) (z7 : Bool) (z8 : List VV) (z9 : Nat) (z10 : Int) (z11 : Int) => k .ret (fS T_ref37_Check_0_0 [.b z0, .c z1, .n z2, .i z3, .i z4, .i z5, .i z6, .b z7, .c z8, .n z9, .i z10, .i z11])) (fun (z0 : Bool) (z1 : List VV) (z2 : Nat) (z3 : Int) (z4 : Int) (z5 : Int) (z6 : Int) (z7 : Bool) (z8 : List VV) (z9 : Nat) (z10 : Int) (z11 : Int) => k (.exit 0) (fS T_ref37_Check_0_1 [.b z0, .c z1, .n z2, .i z3, .i z4, .i z5, .i z6, .b z7, .c z8, .n z9, .i z10, .i z11])) F (atB (nth q 0)) (atC (nth q 1)) (atN (nth q 2)) (atI (nth q 3)) (atI (nth q 4)) (atI (nth q 5)) (atI (nth q 6)) (atB (nth q 7)) (atC (nth q 8)) (atN (nth q 9)) (atI (nth q 10)) (atI (nth q 11))⟩]
def I_ref37_Check (F : Nat) : Nat → VS → (Exit → VS → R) → R := tabI c_ref37_Check (W_ref37_Check F)
def WJ_ref37_Check (F : Nat) : List LJ := []
def J_ref37_Check (F : Nat) : Nat → Nat → VS → (Exit → VS → R) → R := tabJ (WJ_ref37_Check F)
theorem lL_ref37_Check_0 (F : Nat) (k : Exit → VS → R) : ∀ (n : Nat) (x0 : Bool) (x1 : List VV) (x2 : Nat) (x3 : Int) (x4 : Int) (x5 : Int) (x6 : Int) (x7 : Bool) (x8 : List VV) (x9 : Nat) (x10 : Int) (x11 : Int), iterC (codeL PP (S_ref37_Check F) c_ref37_Check (I_ref37_Check F) (J_ref37_Check F) (loopAt PP 16 0) 0) (headOf c_ref37_Check 0) k n (fS T_ref37_Check_0 [.b x0, .c x1, .n x2, .i x3, .i x4, .i x5, .i x6, .b x7, .c x8, .n x9, .i x10, .i x11]) = L_ref37_Check_0 F (fun (z0 : Bool) (z1 : List VV) (z2 : Nat) (z3 : Int) (z4 : Int) (z5 : Int) (z6 : Int) (z7 : Bool) (z8 : List VV) (z9 : Nat) (z10 : Int) (z11 : Int) => k .ret (fS T_ref37_Check_0_0 [.b z0, .c z1, .n z2, .i z3, .i z4, .i z5, .i z6, .b z7, .c z8, .n z9, .i z10, .i z11])) (fun (z0 : Bool) (z1 : List VV) (z2 : Nat) (z3 : Int) (z4 : Int) (z5 : Int) (z6 : Int) (z7 : Bool) (z8 : List VV) (z9 : Nat) (z10 : Int) (z11 : Int) => k (.exit 0) (fS T_ref37_Check_0_1 [.b z0, .c z1, .n z2, .i z3, .i z4, .i z5, .i z6, .b z7, .c z8, .n z9, .i z10, .i z11])) n x0 x1 x2 x3 x4 x5 x6 x7 x8 x9 x10 x11
  | 0, _, _, _, _, _, _, _, _, _, _, _, _ => rfl
  | n + 1, x0, x1, x2, x3, x4, x5, x6, x7, x8, x9, x10, x11 => by
    have h0 : ∀ (ok_ref37_point : Nat → Int → Int → Bool) (o_ref37_point_0 : Nat → Int → Int → Bool) (L_ref37_Check_0 : Nat → (Bool → List VV → Nat → Int → Int → Int → Int → Bool → List VV → Nat → Int → Int → R) → (Bool → List VV → Nat → Int → Int → Int → Int → Bool → List VV → Nat → Int → Int → R) → Nat → Bool → List VV → Nat → Int → Int → Int → Int → Bool → List VV → Nat → Int → Int → R), iterC (codeL PP (words [(26, spec ti_ref37_point to_ref37_point (fun q => (ok_ref37_point F (atI (nth q 0)) (atI (nth q 1)))) (fun q => [.b (o_ref37_point_0 F (atI (nth q 0)) (atI (nth q 1)))]))]) c_ref37_Check (tabI c_ref37_Check [⟨0, T_ref37_Check_0, fun k q => L_ref37_Check_0 F (fun (z0 : Bool) (z1 : List VV) (z2 : Nat) (z3 : Int) (z4 : Int) (z5 : Int) (z6 : Int) (z7 : Bool) (z8 : List VV) (z9 : Nat) (z10 : Int) (z11 : Int) => k .ret (fS T_ref37_Check_0_0 [.b z0, .c z1, .n z2, .i z3, .i z4, .i z5, .i z6, .b z7, .c z8, .n z9, .i z10, .i z11])) (fun (z0 : Bool) (z1 : List VV) (z2 : Nat) (z3 : Int) (z4 : Int) (z5 : Int) (z6 : Int) (z7 : Bool) (z8 : List VV) (z9 : Nat) (z10 : Int) (z11 : Int) => k (.exit 0) (fS T_ref37_Check_0_1 [.b z0, .c z1, .n z2, .i z3, .i z4, .i z5, .i z6, .b z7, .c z8, .n z9, .i z10, .i z11])) F (atB (nth q 0)) (atC (nth q 1)) (atN (nth q 2)) (atI (nth q 3)) (atI (nth q 4)) (atI (nth q 5)) (atI (nth q 6)) (atB (nth q 7)) (atC (nth q 8)) (atN (nth q 9)) (atI (nth q 10)) (atI (nth q 11))⟩]) (tabJ []) (loopAt PP 16 0) 0) (headOf c_ref37_Check 0) k (n + 1) (fS T_ref37_Check_0 [.b x0, .c x1, .n x2, .i x3, .i x4, .i x5, .i x6, .b x7, .c x8, .n x9, .i x10, .i x11]) = (fun (rc : Bool → List VV → Nat → Int → Int → Int → Int → Bool → List VV → Nat → Int → Int → R) (ex0 : Bool → List VV → Nat → Int → Int → Int → Int → Bool → List VV → Nat → Int → Int → R) (ex1 : Bool → List VV → Nat → Int → Int → Int → Int → Bool → List VV → Nat → Int → Int → R) (x0 : Bool) (x1 : List VV) (x2 : Nat) (x3 : Int) (x4 : Int) (x5 : Int) (x6 : Int) (x7 : Bool) (x8 : List VV) (x9 : Nat) (x10 : Int) (x11 : Int) => (
  bif ((decide (x6 < (((x9 : Nat) : Int))))) then (
    bif ((decide (0 ≤ x6)) && (decide (x6 < ((x9 : Nat) : Int)))) then (
      let v367 : Nat := (0 + ((Int.toNat x6) * 2))
      bif ((isI .i64 x8[v367]?) && ((isI .i64 x8[(v367 + 1)]?) && true)) then (
        let v368 : Int := (iv x8[v367]?)
        let v369 : Int := (iv x8[(v367 + 1)]?)
        bif (ok_ref37_point F v368 v369) then (
          bif ((!((o_ref37_point_0 F v368 v369)))) then (
            ex0 x0 x1 x2 x3 x4 2 x6 x7 x8 x9 x10 x11)
          else (
            bif ((decide (0 ≤ x6)) && (decide (x6 < ((x9 : Nat) : Int)))) then (
              let v376 : Nat := (0 + ((Int.toNat x6) * 2))
              bif ((isI .i64 x8[v376]?) && ((isI .i64 x8[(v376 + 1)]?) && true)) then (
                let v380 : Int := ((x9 : Nat) : Int)
                bif (!(decide (v380 = 0))) then (
                  let v381 : Int := (Int.tmod ((IntKind.wrap .i64 (x6 + 1))) v380)
                  bif ((decide (0 ≤ v381)) && (decide (v381 < ((x9 : Nat) : Int)))) then (
                    let v382 : Nat := (0 + ((Int.toNat v381) * 2))
                    bif ((isI .i64 x8[v382]?) && ((isI .i64 x8[(v382 + 1)]?) && true)) then (
                      bif (((((iv x8[v376]?)) == ((iv x8[v382]?))) && (((iv x8[(v376 + 1)]?)) == ((iv x8[(v382 + 1)]?))))) then (
                        ex0 x0 x1 x2 x3 x4 2 x6 x7 x8 x9 x10 x11)
                      else (
                        rc x0 x1 x2 x3 x4 x5 ((IntKind.wrap .i64 (x6 + 1))) x7 x8 x9 x10 x11))
                    else (
                      none))
                  else (
                    none))
                else (
                  none))
              else (
                none))
            else (
              none)))
        else (
          none))
      else (
        none))
    else (
      none))
  else (
    ex1 x0 x1 x2 x3 x4 x5 x6 x7 x8 x9 x10 x11) : R)) (fun (y0 : Bool) (y1 : List VV) (y2 : Nat) (y3 : Int) (y4 : Int) (y5 : Int) (y6 : Int) (y7 : Bool) (y8 : List VV) (y9 : Nat) (y10 : Int) (y11 : Int) => iterC (codeL PP (words [(26, spec ti_ref37_point to_ref37_point (fun q => (ok_ref37_point F (atI (nth q 0)) (atI (nth q 1)))) (fun q => [.b (o_ref37_point_0 F (atI (nth q 0)) (atI (nth q 1)))]))]) c_ref37_Check (tabI c_ref37_Check [⟨0, T_ref37_Check_0, fun k q => L_ref37_Check_0 F (fun (z0 : Bool) (z1 : List VV) (z2 : Nat) (z3 : Int) (z4 : Int) (z5 : Int) (z6 : Int) (z7 : Bool) (z8 : List VV) (z9 : Nat) (z10 : Int) (z11 : Int) => k .ret (fS T_ref37_Check_0_0 [.b z0, .c z1, .n z2, .i z3, .i z4, .i z5, .i z6, .b z7, .c z8, .n z9, .i z10, .i z11])) (fun (z0 : Bool) (z1 : List VV) (z2 : Nat) (z3 : Int) (z4 : Int) (z5 : Int) (z6 : Int) (z7 : Bool) (z8 : List VV) (z9 : Nat) (z10 : Int) (z11 : Int) => k (.exit 0) (fS T_ref37_Check_0_1 [.b z0, .c z1, .n z2, .i z3, .i z4, .i z5, .i z6, .b z7, .c z8, .n z9, .i z10, .i z11])) F (atB (nth q 0)) (atC (nth q 1)) (atN (nth q 2)) (atI (nth q 3)) (atI (nth q 4)) (atI (nth q 5)) (atI (nth q 6)) (atB (nth q 7)) (atC (nth q 8)) (atN (nth q 9)) (atI (nth q 10)) (atI (nth q 11))⟩]) (tabJ []) (loopAt PP 16 0) 0) (headOf c_ref37_Check 0) k n (fS T_ref37_Check_0 [.b y0, .c y1, .n y2, .i y3, .i y4, .i y5, .i y6, .b y7, .c y8, .n y9, .i y10, .i y11])) (fun (z0 : Bool) (z1 : List VV) (z2 : Nat) (z3 : Int) (z4 : Int) (z5 : Int) (z6 : Int) (z7 : Bool) (z8 : List VV) (z9 : Nat) (z10 : Int) (z11 : Int) => k .ret (fS T_ref37_Check_0_0 [.b z0, .c z1, .n z2, .i z3, .i z4, .i z5, .i z6, .b z7, .c z8, .n z9, .i z10, .i z11])) (fun (z0 : Bool) (z1 : List VV) (z2 : Nat) (z3 : Int) (z4 : Int) (z5 : Int) (z6 : Int) (z7 : Bool) (z8 : List VV) (z9 : Nat) (z10 : Int) (z11 : Int) => k (.exit 0) (fS T_ref37_Check_0_1 [.b z0, .c z1, .n z2, .i z3, .i z4, .i z5, .i z6, .b z7, .c z8, .n z9, .i z10, .i z11])) x0 x1 x2 x3 x4 x5 x6 x7 x8 x9 x10 x11 := by
      intros
      kernel_rfl
    have h : iterC (codeL PP (S_ref37_Check F) c_ref37_Check (I_ref37_Check F) (J_ref37_Check F) (loopAt PP 16 0) 0) (headOf c_ref37_Check 0) k (n + 1) (fS T_ref37_Check_0 [.b x0, .c x1, .n x2, .i x3, .i x4, .i x5, .i x6, .b x7, .c x8, .n x9, .i x10, .i x11]) = B_ref37_Check_0 F (fun (y0 : Bool) (y1 : List VV) (y2 : Nat) (y3 : Int) (y4 : Int) (y5 : Int) (y6 : Int) (y7 : Bool) (y8 : List VV) (y9 : Nat) (y10 : Int) (y11 : Int) => iterC (codeL PP (S_ref37_Check F) c_ref37_Check (I_ref37_Check F) (J_ref37_Check F) (loopAt PP 16 0) 0) (headOf c_ref37_Check 0) k n (fS T_ref37_Check_0 [.b y0, .c y1, .n y2, .i y3, .i y4, .i y5, .i y6, .b y7, .c y8, .n y9, .i y10, .i y11])) (fun (z0 : Bool) (z1 : List VV) (z2 : Nat) (z3 : Int) (z4 : Int) (z5 : Int) (z6 : Int) (z7 : Bool) (z8 : List VV) (z9 : Nat) (z10 : Int) (z11 : Int) => k .ret (fS T_ref37_Check_0_0 [.b z0, .c z1, .n z2, .i z3, .i z4, .i z5, .i z6, .b z7, .c z8, .n z9, .i z10, .i z11])) (fun (z0 : Bool) (z1 : List VV) (z2 : Nat) (z3 : Int) (z4 : Int) (z5 : Int) (z6 : Int) (z7 : Bool) (z8 : List VV) (z9 : Nat) (z10 : Int) (z11 : Int) => k (.exit 0) (fS T_ref37_Check_0_1 [.b z0, .c z1, .n z2, .i z3, .i z4, .i z5, .i z6, .b z7, .c z8, .n z9, .i z10, .i z11])) x0 x1 x2 x3 x4 x5 x6 x7 x8 x9 x10 x11 := (h0 ok_ref37_point o_ref37_point_0 L_ref37_Check_0).trans (by kernel_rfl)
    rw [h]
    simp only [lL_ref37_Check_0 F k n]
    rfl
def f_ref37_Check (F : Nat) (a0 : Bool) (a1 : List VV) (a2 : Nat) (a3 : Int) (a4 : Int) : R :=
  bif ((decide ((((a2 : Nat) : Int)) < 3))) then (
    some (.v (.int .i64 2)))
  else (
    bif ((decide ((((a2 : Nat) : Int)) > 16))) then (
      some (.v (.int .i64 2)))
    else (
      bif ((decide (a4 < a3))) then (
        some (.v (.int .i64 2)))
      else (
        L_ref37_Check_0 F (fun (v387 : Bool) (v388 : List VV) (v389 : Nat) (v390 : Int) (v391 : Int) (v392 : Int) (v393 : Int) (v394 : Bool) (v395 : List VV) (v396 : Nat) (v397 : Int) (v398 : Int) =>
          some (.v (.int .i64 v392))) (fun (v399 : Bool) (v400 : List VV) (v401 : Nat) (v402 : Int) (v403 : Int) (v404 : Int) (v405 : Int) (v406 : Bool) (v407 : List VV) (v408 : Nat) (v409 : Int) (v410 : Int) =>
          some (.v (.int .i64 0))) F a0 a1 a2 a3 a4 0 0 a0 a1 a2 a3 a4)))
theorem e_ref37_Check (F : Nat) (a0 : Bool) (a1 : List VV) (a2 : Nat) (a3 : Int) (a4 : Int) : funL PP (S_ref37_Check F) c_ref37_Check (I_ref37_Check F) (J_ref37_Check F) 16 (fTs ti_ref37_Check [.b a0, .c a1, .n a2, .i a3, .i a4]).1 = f_ref37_Check F a0 a1 a2 a3 a4 := by
  have h : ∀ (ok_ref37_point : Nat → Int → Int → Bool) (o_ref37_point_0 : Nat → Int → Int → Bool) (L_ref37_Check_0 : Nat → (Bool → List VV → Nat → Int → Int → Int → Int → Bool → List VV → Nat → Int → Int → R) → (Bool → List VV → Nat → Int → Int → Int → Int → Bool → List VV → Nat → Int → Int → R) → Nat → Bool → List VV → Nat → Int → Int → Int → Int → Bool → List VV → Nat → Int → Int → R), funL PP (words [(26, spec ti_ref37_point to_ref37_point (fun q => (ok_ref37_point F (atI (nth q 0)) (atI (nth q 1)))) (fun q => [.b (o_ref37_point_0 F (atI (nth q 0)) (atI (nth q 1)))]))]) c_ref37_Check (tabI c_ref37_Check [⟨0, T_ref37_Check_0, fun k q => L_ref37_Check_0 F (fun (z0 : Bool) (z1 : List VV) (z2 : Nat) (z3 : Int) (z4 : Int) (z5 : Int) (z6 : Int) (z7 : Bool) (z8 : List VV) (z9 : Nat) (z10 : Int) (z11 : Int) => k .ret (fS T_ref37_Check_0_0 [.b z0, .c z1, .n z2, .i z3, .i z4, .i z5, .i z6, .b z7, .c z8, .n z9, .i z10, .i z11])) (fun (z0 : Bool) (z1 : List VV) (z2 : Nat) (z3 : Int) (z4 : Int) (z5 : Int) (z6 : Int) (z7 : Bool) (z8 : List VV) (z9 : Nat) (z10 : Int) (z11 : Int) => k (.exit 0) (fS T_ref37_Check_0_1 [.b z0, .c z1, .n z2, .i z3, .i z4, .i z5, .i z6, .b z7, .c z8, .n z9, .i z10, .i z11])) F (atB (nth q 0)) (atC (nth q 1)) (atN (nth q 2)) (atI (nth q 3)) (atI (nth q 4)) (atI (nth q 5)) (atI (nth q 6)) (atB (nth q 7)) (atC (nth q 8)) (atN (nth q 9)) (atI (nth q 10)) (atI (nth q 11))⟩]) (tabJ []) 16 (fTs ti_ref37_Check [.b a0, .c a1, .n a2, .i a3, .i a4]).1 = (
  bif ((decide ((((a2 : Nat) : Int)) < 3))) then (
    some (.v (.int .i64 2)))
  else (
    bif ((decide ((((a2 : Nat) : Int)) > 16))) then (
      some (.v (.int .i64 2)))
    else (
      bif ((decide (a4 < a3))) then (
        some (.v (.int .i64 2)))
      else (
        L_ref37_Check_0 F (fun (v387 : Bool) (v388 : List VV) (v389 : Nat) (v390 : Int) (v391 : Int) (v392 : Int) (v393 : Int) (v394 : Bool) (v395 : List VV) (v396 : Nat) (v397 : Int) (v398 : Int) =>
          some (.v (.int .i64 v392))) (fun (v399 : Bool) (v400 : List VV) (v401 : Nat) (v402 : Int) (v403 : Int) (v404 : Int) (v405 : Int) (v406 : Bool) (v407 : List VV) (v408 : Nat) (v409 : Int) (v410 : Int) =>
          some (.v (.int .i64 0))) F a0 a1 a2 a3 a4 0 0 a0 a1 a2 a3 a4))) : R) := by
    intros
    kernel_rfl
  exact (h ok_ref37_point o_ref37_point_0 L_ref37_Check_0).trans (by kernel_rfl)
def ok_ref37_Check (F : Nat) (a0 : Bool) (a1 : List VV) (a2 : Nat) (a3 : Int) (a4 : Int) : Bool := okT to_ref37_Check (f_ref37_Check F a0 a1 a2 a3 a4)
def o_ref37_Check_0 (F : Nat) (a0 : Bool) (a1 : List VV) (a2 : Nat) (a3 : Int) (a4 : Int) : Int := atI (nth (outT to_ref37_Check (f_ref37_Check F a0 a1 a2 a3 a4)) 0)
theorem k_ref37_Check (F : Nat) (a0 : Bool) (a1 : List VV) (a2 : Nat) (a3 : Int) (a4 : Int) {z0 : Int} (h : f_ref37_Check F a0 a1 a2 a3 a4 = some (.v (.int .i64 z0))) : ok_ref37_Check F a0 a1 a2 a3 a4 = true ∧ o_ref37_Check_0 F a0 a1 a2 a3 a4 = z0 := by
  refine ⟨?_, ?_⟩
  · unfold ok_ref37_Check; rw [h]; kernel_rfl
  · unfold o_ref37_Check_0; rw [h]; kernel_rfl
def s_ref37_Check (F : Nat) : List VV → Option (Bool × VV) := spec ti_ref37_Check to_ref37_Check (fun q => (ok_ref37_Check F (atB (nth q 0)) (atC (nth q 1)) (atN (nth q 2)) (atI (nth q 3)) (atI (nth q 4)))) (fun q => [.i (o_ref37_Check_0 F (atB (nth q 0)) (atC (nth q 1)) (atN (nth q 2)) (atI (nth q 3)) (atI (nth q 4)))])
theorem hS_ref37_Check (F : Nat) : ∀ f, Good PP f (unS (S_ref37_Check F f)) := words_good fun p hp => by
  simp only [List.mem_cons, List.not_mem_nil, or_false] at hp
  rcases hp with rfl
  · exact g_ref37_point F
theorem hl_ref37_Check (F : Nat) : ∀ p ∈ loopsIn PP 16, LoopOK PP (S_ref37_Check F) c_ref37_Check F (I_ref37_Check F) (J_ref37_Check F) p :=
  loops_of [(0, loopAt PP 16 0)] (by kernel_rfl) (all_cons
    (loop_ok (W_ref37_Check F) rfl (tab_cons (fun _ k q => Le.ofEq ((lL_ref37_Check_0 F k F (atB (nth q 0)) (atC (nth q 1)) (atN (nth q 2)) (atI (nth q 3)) (atI (nth q 4)) (atI (nth q 5)) (atI (nth q 6)) (atB (nth q 7)) (atC (nth q 8)) (atN (nth q 9)) (atI (nth q 10)) (atI (nth q 11))).symm.trans (congrArg (iterC (codeL PP (S_ref37_Check F) c_ref37_Check (I_ref37_Check F) (J_ref37_Check F) (loopAt PP 16 0) 0) (headOf c_ref37_Check 0) k F) (show fS T_ref37_Check_0 [.b (atB (nth q 0)), .c (atC (nth q 1)), .n (atN (nth q 2)), .i (atI (nth q 3)), .i (atI (nth q 4)), .i (atI (nth q 5)), .i (atI (nth q 6)), .b (atB (nth q 7)), .c (atC (nth q 8)), .n (atN (nth q 9)), .i (atI (nth q 10)), .i (atI (nth q 11))] = fS T_ref37_Check_0 q by kernel_rfl)))) tab_nil)) all_nil)
theorem hj_ref37_Check (F : Nat) : ∀ p ∈ joinsIn PP c_ref37_Check 16, JoinOK PP (S_ref37_Check F) c_ref37_Check (I_ref37_Check F) (J_ref37_Check F) p :=
  joins_of [] (by kernel_rfl) all_nil
theorem g_ref37_Check (F : Nat) : Good PP 16 (unS (s_ref37_Check F)) :=
  fun_spec (hS_ref37_Check F) (by kernel_rfl) (by kernel_rfl) (C := c_ref37_Check) (F := fun q => (f_ref37_Check F (atB (nth q 0)) (atC (nth q 1)) (atN (nth q 2)) (atI (nth q 3)) (atI (nth q 4)))) (fun _ => F) (fun _ => I_ref37_Check F) (fun _ => J_ref37_Check F) (fun _ => hl_ref37_Check F) (fun _ => hj_ref37_Check F)
    (fun q => (congrArg (funL PP (S_ref37_Check F) c_ref37_Check (I_ref37_Check F) (J_ref37_Check F) 16) (show (fTs ti_ref37_Check q).1 = (fTs ti_ref37_Check [.b (atB (nth q 0)), .c (atC (nth q 1)), .n (atN (nth q 2)), .i (atI (nth q 3)), .i (atI (nth q 4))]).1 by kernel_rfl)).trans (e_ref37_Check F (atB (nth q 0)) (atC (nth q 1)) (atN (nth q 2)) (atI (nth q 3)) (atI (nth q 4))))
    (fun _ h => okT_fill' h (by kernel_rfl))

end Go.Xv
namespace Go.Xv

theorem rt0 (F : Nat) (ex) (n : Nat) (x0 x1 x2 x3 x4 x5 r l q a1 a2 b1 b2 p1 p2 : Int) (x7 : Bool) : L_ref37_touch_0 F ex (n + 1) x0 x1 x2 x3 x4 x5 r x7 l q 0 a1 a2 b1 b2 p1 p2 =
    bif ok_ref37_side F a1 a2 b1 b2 (IntKind.wrap .i64 (p1 - r)) (IntKind.wrap .i64 (p2 - r)) then (bif decide (o_ref37_side_0 F a1 a2 b1 b2 (IntKind.wrap .i64 (p1 - r)) (IntKind.wrap .i64 (p2 - r)) > 0) then (bif decide (o_ref37_side_0 F a1 a2 b1 b2 (IntKind.wrap .i64 (p1 - r)) (IntKind.wrap .i64 (p2 - r)) < 0) then L_ref37_touch_0 F ex n x0 x1 x2 x3 x4 x5 r x7 (IntKind.wrap .i64 (l + 1)) (IntKind.wrap .i64 (q + 1)) 1 a1 a2 b1 b2 p1 p2 else L_ref37_touch_0 F ex n x0 x1 x2 x3 x4 x5 r x7 (IntKind.wrap .i64 (l + 1)) q 1 a1 a2 b1 b2 p1 p2) else (bif decide (o_ref37_side_0 F a1 a2 b1 b2 (IntKind.wrap .i64 (p1 - r)) (IntKind.wrap .i64 (p2 - r)) < 0) then L_ref37_touch_0 F ex n x0 x1 x2 x3 x4 x5 r x7 l (IntKind.wrap .i64 (q + 1)) 1 a1 a2 b1 b2 p1 p2 else L_ref37_touch_0 F ex n x0 x1 x2 x3 x4 x5 r x7 l q 1 a1 a2 b1 b2 p1 p2)) else none := by kernel_rfl

theorem rt1 (F : Nat) (ex) (n : Nat) (x0 x1 x2 x3 x4 x5 r l q a1 a2 b1 b2 p1 p2 : Int) (x7 : Bool) : L_ref37_touch_0 F ex (n + 1) x0 x1 x2 x3 x4 x5 r x7 l q 1 a1 a2 b1 b2 p1 p2 =
    bif ok_ref37_side F a1 a2 b1 b2 (IntKind.wrap .i64 (p1 + r)) (IntKind.wrap .i64 (p2 - r)) then (bif decide (o_ref37_side_0 F a1 a2 b1 b2 (IntKind.wrap .i64 (p1 + r)) (IntKind.wrap .i64 (p2 - r)) > 0) then (bif decide (o_ref37_side_0 F a1 a2 b1 b2 (IntKind.wrap .i64 (p1 + r)) (IntKind.wrap .i64 (p2 - r)) < 0) then L_ref37_touch_0 F ex n x0 x1 x2 x3 x4 x5 r x7 (IntKind.wrap .i64 (l + 1)) (IntKind.wrap .i64 (q + 1)) 2 a1 a2 b1 b2 p1 p2 else L_ref37_touch_0 F ex n x0 x1 x2 x3 x4 x5 r x7 (IntKind.wrap .i64 (l + 1)) q 2 a1 a2 b1 b2 p1 p2) else (bif decide (o_ref37_side_0 F a1 a2 b1 b2 (IntKind.wrap .i64 (p1 + r)) (IntKind.wrap .i64 (p2 - r)) < 0) then L_ref37_touch_0 F ex n x0 x1 x2 x3 x4 x5 r x7 l (IntKind.wrap .i64 (q + 1)) 2 a1 a2 b1 b2 p1 p2 else L_ref37_touch_0 F ex n x0 x1 x2 x3 x4 x5 r x7 l q 2 a1 a2 b1 b2 p1 p2)) else none := by kernel_rfl

theorem rt2 (F : Nat) (ex) (n : Nat) (x0 x1 x2 x3 x4 x5 r l q a1 a2 b1 b2 p1 p2 : Int) (x7 : Bool) : L_ref37_touch_0 F ex (n + 1) x0 x1 x2 x3 x4 x5 r x7 l q 2 a1 a2 b1 b2 p1 p2 =
    bif ok_ref37_side F a1 a2 b1 b2 (IntKind.wrap .i64 (p1 - r)) (IntKind.wrap .i64 (p2 + r)) then (bif decide (o_ref37_side_0 F a1 a2 b1 b2 (IntKind.wrap .i64 (p1 - r)) (IntKind.wrap .i64 (p2 + r)) > 0) then (bif decide (o_ref37_side_0 F a1 a2 b1 b2 (IntKind.wrap .i64 (p1 - r)) (IntKind.wrap .i64 (p2 + r)) < 0) then L_ref37_touch_0 F ex n x0 x1 x2 x3 x4 x5 r x7 (IntKind.wrap .i64 (l + 1)) (IntKind.wrap .i64 (q + 1)) 3 a1 a2 b1 b2 p1 p2 else L_ref37_touch_0 F ex n x0 x1 x2 x3 x4 x5 r x7 (IntKind.wrap .i64 (l + 1)) q 3 a1 a2 b1 b2 p1 p2) else (bif decide (o_ref37_side_0 F a1 a2 b1 b2 (IntKind.wrap .i64 (p1 - r)) (IntKind.wrap .i64 (p2 + r)) < 0) then L_ref37_touch_0 F ex n x0 x1 x2 x3 x4 x5 r x7 l (IntKind.wrap .i64 (q + 1)) 3 a1 a2 b1 b2 p1 p2 else L_ref37_touch_0 F ex n x0 x1 x2 x3 x4 x5 r x7 l q 3 a1 a2 b1 b2 p1 p2)) else none := by kernel_rfl

theorem rt3 (F : Nat) (ex) (n : Nat) (x0 x1 x2 x3 x4 x5 r l q a1 a2 b1 b2 p1 p2 : Int) (x7 : Bool) : L_ref37_touch_0 F ex (n + 1) x0 x1 x2 x3 x4 x5 r x7 l q 3 a1 a2 b1 b2 p1 p2 =
    bif ok_ref37_side F a1 a2 b1 b2 (IntKind.wrap .i64 (p1 + r)) (IntKind.wrap .i64 (p2 + r)) then (bif decide (o_ref37_side_0 F a1 a2 b1 b2 (IntKind.wrap .i64 (p1 + r)) (IntKind.wrap .i64 (p2 + r)) > 0) then (bif decide (o_ref37_side_0 F a1 a2 b1 b2 (IntKind.wrap .i64 (p1 + r)) (IntKind.wrap .i64 (p2 + r)) < 0) then L_ref37_touch_0 F ex n x0 x1 x2 x3 x4 x5 r x7 (IntKind.wrap .i64 (l + 1)) (IntKind.wrap .i64 (q + 1)) 4 a1 a2 b1 b2 p1 p2 else L_ref37_touch_0 F ex n x0 x1 x2 x3 x4 x5 r x7 (IntKind.wrap .i64 (l + 1)) q 4 a1 a2 b1 b2 p1 p2) else (bif decide (o_ref37_side_0 F a1 a2 b1 b2 (IntKind.wrap .i64 (p1 + r)) (IntKind.wrap .i64 (p2 + r)) < 0) then L_ref37_touch_0 F ex n x0 x1 x2 x3 x4 x5 r x7 l (IntKind.wrap .i64 (q + 1)) 4 a1 a2 b1 b2 p1 p2 else L_ref37_touch_0 F ex n x0 x1 x2 x3 x4 x5 r x7 l q 4 a1 a2 b1 b2 p1 p2)) else none := by kernel_rfl

theorem rt4 (F : Nat) (ex) (n : Nat) (x0 x1 x2 x3 x4 x5 r l q a1 a2 b1 b2 p1 p2 : Int) (x7 : Bool) : L_ref37_touch_0 F ex (n + 1) x0 x1 x2 x3 x4 x5 r x7 l q 4 a1 a2 b1 b2 p1 p2 = ex x0 x1 x2 x3 x4 x5 r x7 l q 4 a1 a2 b1 b2 p1 p2 := by kernel_rfl
def up1 (x : Int) : Int := if 0 < x then 1 else 0
def dn1 (x : Int) : Int := if x < 0 then 1 else 0
theorem rstep {k : Bool} {s v l q : Int} {z : R} {f : Int → Int → R} (hk : k = true) (hs : s = sgn v) (hl : 0 ≤ l ∧ l ≤ 1000) (hq : 0 ≤ q ∧ q ≤ 1000) (h : f (l + up1 v) (q + dn1 v) = z) :
    (bif k then (bif decide (s > 0) then (bif decide (s < 0) then f (IntKind.wrap .i64 (l + 1)) (IntKind.wrap .i64 (q + 1)) else f (IntKind.wrap .i64 (l + 1)) q) else (bif decide (s < 0) then f l (IntKind.wrap .i64 (q + 1)) else f l q)) else none) = z := by
  subst hk hs
  rw [wi64_in (by unfold I64; omega), wi64_in (by unfold I64; omega)]
  have := sgn_bd v
  unfold up1 dn1 at h
  by_cases h1 : 0 < v
  · have := sgn_pos.2 h1
    rw [if_pos h1, if_neg (by omega)] at h
    rw [this]
    simpa using h
  · by_cases h2 : v < 0
    · have := sgn_neg.2 h2
      rw [if_neg h1, if_pos h2] at h
      rw [this]
      simpa using h
    · have : sgn v = 0 := by unfold sgn; rw [if_neg h2, if_pos (by omega)]
      rw [if_neg h1, if_neg h2] at h
      rw [this]
      simpa using h
theorem up1_bd (x : Int) : 0 ≤ up1 x ∧ up1 x ≤ 1 := by unfold up1; split <;> omega
theorem dn1_bd (x : Int) : 0 ≤ dn1 x ∧ dn1 x ≤ 1 := by unfold dn1; split <;> omega
theorem rsum {x0 x1 x2 x3 : Int} : (decide (0 + up1 x0 + up1 x2 + up1 x1 + up1 x3 < 4) && decide (0 + dn1 x0 + dn1 x2 + dn1 x1 + dn1 x3 < 4)) =
    (!(decide (0 < x0) && decide (0 < x1) && decide (0 < x2) && decide (0 < x3)) && !(decide (x0 < 0) && decide (x1 < 0) && decide (x2 < 0) && decide (x3 < 0))) := by
  have p : ∀ x : Int, decide (0 < x) = decide (up1 x = 1) := fun x => by unfold up1; split <;> simp_all
  have q : ∀ x : Int, decide (x < 0) = decide (dn1 x = 1) := fun x => by unfold dn1; split <;> simp_all
  simp only [p, q]
  have := up1_bd x0
  have := up1_bd x1
  have := up1_bd x2
  have := up1_bd x3
  have := dn1_bd x0
  have := dn1_bd x1
  have := dn1_bd x2
  have := dn1_bd x3
  rw [Bool.eq_iff_iff]
  simp only [Bool.and_eq_true, Bool.not_eq_true', Bool.and_eq_false_iff, decide_eq_true_eq, decide_eq_false_iff_not]
  omega

theorem a_rapart (F : Nat) (x y l h : Int) : ok_ref37_apart F x y l h = true ∧ o_ref37_apart_0 F x y l h = apB x y l h := by
  refine k_ref37_apart F _ _ _ _ ?_
  unfold f_ref37_apart
  have := apB_bif (α := R) (x := x) (y := y) (l := l) (h := h) (some (.v (.bool true))) (some (.v (.bool false)))
  rw [show (some (VV.v (.bool (decide ((if y < x then y else x) > h)))) : R) = bif decide ((if y < x then y else x) > h) then some (.v (.bool true)) else some (.v (.bool false)) by cases decide ((if y < x then y else x) > h) <;> rfl]
  rw [this]
  cases apB x y l h <;> rfl

theorem f_rtouch (F : Nat) (hF : 200 ≤ F) {p a b : Pt} {r : Int} (hp : OkP p) (hr : OkR r) (ha : OkP a) (hb : OkP b) :
    f_ref37_touch F a.1 a.2 b.1 b.2 p.1 p.2 r = some (.v (.bool (touchB a b p r))) := by
  have s0 := a_rside F hF ha hb (cnr_near hp hr 0)
  have s1 := a_rside F hF ha hb (cnr_near hp hr 1)
  have s2 := a_rside F hF ha hb (cnr_near hp hr 2)
  have s3 := a_rside F hF ha hb (cnr_near hp hr 3)
  simp only [cnr] at s0 s1 s2 s3
  obtain ⟨p1, p2, p3, p4⟩ := hp
  obtain ⟨r1, r2⟩ := hr
  obtain ⟨n, hn⟩ : ∃ n, F = n + 5 := ⟨F - 5, by omega⟩
  unfold f_ref37_touch touchB
  have e1 : IntKind.wrap .i64 (p.1 - r) = p.1 - r := wi64_in (by unfold I64; omega)
  have e2 : IntKind.wrap .i64 (p.1 + r) = p.1 + r := wi64_in (by unfold I64; omega)
  have e3 : IntKind.wrap .i64 (p.2 - r) = p.2 - r := wi64_in (by unfold I64; omega)
  have e4 : IntKind.wrap .i64 (p.2 + r) = p.2 + r := wi64_in (by unfold I64; omega)
  simp only [e1, e2, e3, e4]
  obtain ⟨k1, k2⟩ := a_rapart F a.1 b.1 (p.1 - r) (p.1 + r)
  obtain ⟨j1, j2⟩ := a_rapart F a.2 b.2 (p.2 - r) (p.2 + r)
  rw [k2, j2]
  refine bp k1 ?_
  cases apB a.1 b.1 (p.1 - r) (p.1 + r) with
  | true => rfl
  | false =>
    rw [cond_false]
    refine bp j1 ?_
    cases apB a.2 b.2 (p.2 - r) (p.2 + r) with
    | true => rfl
    | false =>
      simp only [cond_false, Bool.not_false, Bool.true_and]
      have u0 := up1_bd (cross a b (p.1 - r, p.2 - r))
      have u1 := up1_bd (cross a b (p.1 - r, p.2 + r))
      have u2 := up1_bd (cross a b (p.1 + r, p.2 - r))
      have d0 := dn1_bd (cross a b (p.1 - r, p.2 - r))
      have d1 := dn1_bd (cross a b (p.1 - r, p.2 + r))
      have d2 := dn1_bd (cross a b (p.1 + r, p.2 - r))
      have hL : ∀ ex, L_ref37_touch_0 F ex F a.1 a.2 b.1 b.2 p.1 p.2 r false 0 0 0 a.1 a.2 b.1 b.2 p.1 p.2 =
          ex a.1 a.2 b.1 b.2 p.1 p.2 r false (0 + up1 (cross a b (p.1 - r, p.2 - r)) + up1 (cross a b (p.1 + r, p.2 - r)) + up1 (cross a b (p.1 - r, p.2 + r)) + up1 (cross a b (p.1 + r, p.2 + r)))
            (0 + dn1 (cross a b (p.1 - r, p.2 - r)) + dn1 (cross a b (p.1 + r, p.2 - r)) + dn1 (cross a b (p.1 - r, p.2 + r)) + dn1 (cross a b (p.1 + r, p.2 + r))) 4 a.1 a.2 b.1 b.2 p.1 p.2 := by
        intro ex
        rw [show L_ref37_touch_0 F ex F = L_ref37_touch_0 F ex (n + 4 + 1) by rw [hn]]
        rw [rt0, e1, e3]
        refine rstep (f := fun l q => L_ref37_touch_0 F ex (n + 4) a.1 a.2 b.1 b.2 p.1 p.2 r false l q 1 a.1 a.2 b.1 b.2 p.1 p.2) s0.1 s0.2 (by omega) (by omega) ?_
        rw [rt1, e2, e3]
        refine rstep (f := fun l q => L_ref37_touch_0 F ex (n + 3) a.1 a.2 b.1 b.2 p.1 p.2 r false l q 2 a.1 a.2 b.1 b.2 p.1 p.2) s2.1 s2.2 (by omega) (by omega) ?_
        rw [rt2, e1, e4]
        refine rstep (f := fun l q => L_ref37_touch_0 F ex (n + 2) a.1 a.2 b.1 b.2 p.1 p.2 r false l q 3 a.1 a.2 b.1 b.2 p.1 p.2) s1.1 s1.2 (by omega) (by omega) ?_
        rw [rt3, e2, e4]
        refine rstep (f := fun l q => L_ref37_touch_0 F ex (n + 1) a.1 a.2 b.1 b.2 p.1 p.2 r false l q 4 a.1 a.2 b.1 b.2 p.1 p.2) s3.1 s3.2 (by omega) (by omega) ?_
        rw [rt4]
      rw [hL]
      unfold posB negB
      simp only [cnr]
      rw [← rsum]
      cases decide (0 + up1 (cross a b (p.1 - r, p.2 - r)) + up1 (cross a b (p.1 + r, p.2 - r)) + up1 (cross a b (p.1 - r, p.2 + r)) + up1 (cross a b (p.1 + r, p.2 + r)) < 4) <;> rfl
theorem a_rtouch (F : Nat) (hF : 200 ≤ F) {p a b : Pt} {r : Int} (hp : OkP p) (hr : OkR r) (ha : OkP a) (hb : OkP b) :
    ok_ref37_touch F a.1 a.2 b.1 b.2 p.1 p.2 r = true ∧ o_ref37_touch_0 F a.1 a.2 b.1 b.2 p.1 p.2 r = touchB a b p r := k_ref37_touch F _ _ _ _ _ _ _ (f_rtouch F hF hp hr ha hb)
end Go.Xv
set_option linter.unusedVariables false
namespace Go.Xv
/- 12 _ref37_Touches -/
def c_ref37_Touches : Cfg := ⟨[0, 1, 2, 3, 4, 6, 7, 8, 24, 29, 49], [(0, [0, 1, 2, 3, 4, 6, 7, 8, 9, 10, 11, 12, 13, 14, 15, 16, 17, 18, 19, 20, 21, 22, 23, 24])], [], []⟩
def ti_ref37_Touches : List TV := [.agg [.v (.bool), .fs (.lit 0) .hole 2, .v (.int .i64), .v (.int .i64)], .v (.agg [.int .i64, .int .i64]), .v (.int .i64)]
def to_ref37_Touches : TV := .v (.tup [.bool, .int .i64])
def S_ref37_Touches (F : Nat) : FuncId → List VV → Option (Bool × VV) := words [(16, s_ref37_Check F), (26, s_ref37_point F), (27, s_ref37_touch F)]
def T_ref37_Touches_0 : TS := ⟨[(0, .agg [.v (.bool), .fs (.lit 0) .hole 2, .v (.int .i64), .v (.int .i64)]), (1, .v (.agg [.int .i64, .int .i64])), (2, .v (.int .i64)), (3, .lp 0 (.lit 0)), (4, .lp 1 (.lit 0)), (6, .v (.bool)), (7, .v (.int .i64)), (8, .v (.int .i64))], [(0, ⟨(.ex [.v (.bool), .fs (.lit 0) .hole 2, .v (.int .i64), .v (.int .i64)]), false⟩), (1, ⟨(.ex [.v (.int .i64), .v (.int .i64)]), true⟩)], 2⟩
def T_ref37_Touches_0_0 : TS := ⟨[(0, .agg [.v (.bool), .fs (.lit 0) .hole 2, .v (.int .i64), .v (.int .i64)]), (1, .v (.agg [.int .i64, .int .i64])), (2, .v (.int .i64)), (3, .lp 0 (.lit 0)), (4, .lp 1 (.lit 0)), (6, .v (.bool)), (7, .v (.int .i64)), (8, .v (.int .i64))], [(0, ⟨(.ex [.v (.bool), .fs (.lit 0) .hole 2, .v (.int .i64), .v (.int .i64)]), false⟩), (1, ⟨(.ex [.v (.int .i64), .v (.int .i64)]), true⟩)], 2⟩
def T_ref37_Touches_0_1 : TS := ⟨[(0, .agg [.v (.bool), .fs (.lit 0) .hole 2, .v (.int .i64), .v (.int .i64)]), (1, .v (.agg [.int .i64, .int .i64])), (2, .v (.int .i64)), (3, .lp 0 (.lit 0)), (4, .lp 1 (.lit 0)), (6, .v (.bool)), (7, .v (.int .i64)), (8, .v (.int .i64))], [(0, ⟨(.ex [.v (.bool), .fs (.lit 0) .hole 2, .v (.int .i64), .v (.int .i64)]), false⟩), (1, ⟨(.ex [.v (.int .i64), .v (.int .i64)]), true⟩)], 2⟩
def B_ref37_Touches_0 (F : Nat) (rc : Bool → List VV → Nat → Int → Int → Int → Int → Int → Bool → Int → Int → Bool → List VV → Nat → Int → Int → Int → Int → R) (ex0 : Bool → List VV → Nat → Int → Int → Int → Int → Int → Bool → Int → Int → Bool → List VV → Nat → Int → Int → Int → Int → R) (ex1 : Bool → List VV → Nat → Int → Int → Int → Int → Int → Bool → Int → Int → Bool → List VV → Nat → Int → Int → Int → Int → R) (x0 : Bool) (x1 : List VV) (x2 : Nat) (x3 : Int) (x4 : Int) (x5 : Int) (x6 : Int) (x7 : Int) (x8 : Bool) (x9 : Int) (x10 : Int) (x11 : Bool) (x12 : List VV) (x13 : Nat) (x14 : Int) (x15 : Int) (x16 : Int) (x17 : Int) : R :=
  bif ((decide (x10 < (((x13 : Nat) : Int))))) then (
    bif ((decide (0 ≤ x10)) && (decide (x10 < ((x13 : Nat) : Int)))) then (
      let v437 : Nat := (0 + ((Int.toNat x10) * 2))
      bif ((isI .i64 x12[v437]?) && ((isI .i64 x12[(v437 + 1)]?) && true)) then (
        let v438 : Int := (iv x12[v437]?)
        let v439 : Int := (iv x12[(v437 + 1)]?)
        let v441 : Int := ((x13 : Nat) : Int)
        bif (!(decide (v441 = 0))) then (
          let v442 : Int := (Int.tmod ((IntKind.wrap .i64 (x10 + 1))) v441)
          bif ((decide (0 ≤ v442)) && (decide (v442 < ((x13 : Nat) : Int)))) then (
            let v443 : Nat := (0 + ((Int.toNat v442) * 2))
            bif ((isI .i64 x12[v443]?) && ((isI .i64 x12[(v443 + 1)]?) && true)) then (
              let v444 : Int := (iv x12[v443]?)
              let v445 : Int := (iv x12[(v443 + 1)]?)
              bif (ok_ref37_touch F v438 v439 v444 v445 x16 x17 x7) then (
                bif ((o_ref37_touch_0 F v438 v439 v444 v445 x16 x17 x7)) then (
                  ex0 x0 x1 x2 x3 x4 x5 x6 x7 true 0 x10 x11 x12 x13 x14 x15 x16 x17)
                else (
                  rc x0 x1 x2 x3 x4 x5 x6 x7 x8 x9 ((IntKind.wrap .i64 (x10 + 1))) x11 x12 x13 x14 x15 x16 x17))
              else (
                none))
            else (
              none))
          else (
            none))
        else (
          none))
      else (
        none))
    else (
      none))
  else (
    ex1 x0 x1 x2 x3 x4 x5 x6 x7 x8 x9 x10 x11 x12 x13 x14 x15 x16 x17)
def L_ref37_Touches_0 (F : Nat) (ex0 : Bool → List VV → Nat → Int → Int → Int → Int → Int → Bool → Int → Int → Bool → List VV → Nat → Int → Int → Int → Int → R) (ex1 : Bool → List VV → Nat → Int → Int → Int → Int → Int → Bool → Int → Int → Bool → List VV → Nat → Int → Int → Int → Int → R) : Nat → Bool → List VV → Nat → Int → Int → Int → Int → Int → Bool → Int → Int → Bool → List VV → Nat → Int → Int → Int → Int → R
  | 0, _, _, _, _, _, _, _, _, _, _, _, _, _, _, _, _, _, _ => none
  | n + 1, x0, x1, x2, x3, x4, x5, x6, x7, x8, x9, x10, x11, x12, x13, x14, x15, x16, x17 => B_ref37_Touches_0 F (L_ref37_Touches_0 F ex0 ex1 n) ex0 ex1 x0 x1 x2 x3 x4 x5 x6 x7 x8 x9 x10 x11 x12 x13 x14 x15 x16 x17
def W_ref37_Touches (F : Nat) : List LW := [⟨0, T_ref37_Touches_0, fun k q => L_ref37_Touches_0 F (fun (z0 : Bool) (z1 : List VV) (z2 : Nat) (z3 : Int) (z4 : Int) (z5 : Int) (z6 : Int) (z7 : Int) (z8 : Bool) (z9 : Int) (z10 : Int) (z11 : Bool) (z12 : List VV) (z13 : Nat) (z14 : Int) (z15 : Int) (z16 : Int) (z17 : Int) => k .ret (fS T_ref37_Touches_0_0 [.b z0, .c z1, .n z2, .i z3, .i z4, .i z5, .i z6, .i z7, .b z8, .i z9, .i z10, .b z11, .c z12, .n z13, .i z14, .i z15, .i z16, .i z17])) (fun (z0 : Bool) (z1 : List VV) (z2 : Nat) (z3 : Int) (z4 : Int) (z5 : Int) (z6 : Int) (z7 : Int) (z8 : Bool) (z9 : Int) (z10 : Int) (z11 : Bool) (z12 : List VV) (z13 : Nat) (z14 : Int) (z15 : Int) (z16 : Int) (z17 : Int) => k (.exit 0) (fS T_ref37_Touches_0_1 [.b z0, .c z1, .n z2, .i z3, .i z4, .i z5, .i z6, .i z7, .b z8, .i z9, .i z10, .b z11, .c z12, .n z13, .i z14, .i z15, .i z16, .i z17])) F (atB (nth q 0)) (atC (nth q 1)) (atN (nth q 2)) (atI (nth q 3)) (atI (nth q 4)) (atI (nth q 5)) (atI (nth q 6)) (atI (nth q 7)) (atB (nth q 8)) (atI (nth q 9)) (atI (nth q 10)) (atB (nth q 11)) (atC (nth q 12)) (atN (nth q 13)) (atI (nth q 14)) (atI (nth q 15)) (atI (nth q 16)) (atI (nth q 17))⟩]
def I_ref37_Touches (F : Nat) : Nat → VS → (Exit → VS → R) → R := tabI c_ref37_Touches (W_ref37_Touches F)
def WJ_ref37_Touches (F : Nat) : List LJ := []
def J_ref37_Touches (F : Nat) : Nat → Nat → VS → (Exit → VS → R) → R := tabJ (WJ_ref37_Touches F)
theorem lL_ref37_Touches_0 (F : Nat) (k : Exit → VS → R) : ∀ (n : Nat) (x0 : Bool) (x1 : List VV) (x2 : Nat) (x3 : Int) (x4 : Int) (x5 : Int) (x6 : Int) (x7 : Int) (x8 : Bool) (x9 : Int) (x10 : Int) (x11 : Bool) (x12 : List VV) (x13 : Nat) (x14 : Int) (x15 : Int) (x16 : Int) (x17 : Int), iterC (codeL PP (S_ref37_Touches F) c_ref37_Touches (I_ref37_Touches F) (J_ref37_Touches F) (loopAt PP 12 0) 0) (headOf c_ref37_Touches 0) k n (fS T_ref37_Touches_0 [.b x0, .c x1, .n x2, .i x3, .i x4, .i x5, .i x6, .i x7, .b x8, .i x9, .i x10, .b x11, .c x12, .n x13, .i x14, .i x15, .i x16, .i x17]) = L_ref37_Touches_0 F (fun (z0 : Bool) (z1 : List VV) (z2 : Nat) (z3 : Int) (z4 : Int) (z5 : Int) (z6 : Int) (z7 : Int) (z8 : Bool) (z9 : Int) (z10 : Int) (z11 : Bool) (z12 : List VV) (z13 : Nat) (z14 : Int) (z15 : Int) (z16 : Int) (z17 : Int) => k .ret (fS T_ref37_Touches_0_0 [.b z0, .c z1, .n z2, .i z3, .i z4, .i z5, .i z6, .i z7, .b z8, .i z9, .i z10, .b z11, .c z12, .n z13, .i z14, .i z15, .i z16, .i z17])) (fun (z0 : Bool) (z1 : List VV) (z2 : Nat) (z3 : Int) (z4 : Int) (z5 : Int) (z6 : Int) (z7 : Int) (z8 : Bool) (z9 : Int) (z10 : Int) (z11 : Bool) (z12 : List VV) (z13 : Nat) (z14 : Int) (z15 : Int) (z16 : Int) (z17 : Int) => k (.exit 0) (fS T_ref37_Touches_0_1 [.b z0, .c z1, .n z2, .i z3, .i z4, .i z5, .i z6, .i z7, .b z8, .i z9, .i z10, .b z11, .c z12, .n z13, .i z14, .i z15, .i z16, .i z17])) n x0 x1 x2 x3 x4 x5 x6 x7 x8 x9 x10 x11 x12 x13 x14 x15 x16 x17
  | 0, _, _, _, _, _, _, _, _, _, _, _, _, _, _, _, _, _, _ => rfl
  | n + 1, x0, x1, x2, x3, x4, x5, x6, x7, x8, x9, x10, x11, x12, x13, x14, x15, x16, x17 => by
    have h0 : ∀ (ok_ref37_Check : Nat → Bool → List VV → Nat → Int → Int → Bool) (o_ref37_Check_0 : Nat → Bool → List VV → Nat → Int → Int → Int) (ok_ref37_point : Nat → Int → Int → Bool) (o_ref37_point_0 : Nat → Int → Int → Bool) (ok_ref37_touch : Nat → Int → Int → Int → Int → Int → Int → Int → Bool) (o_ref37_touch_0 : Nat → Int → Int → Int → Int → Int → Int → Int → Bool) (L_ref37_Touches_0 : Nat → (Bool → List VV → Nat → Int → Int → Int → Int → Int → Bool → Int → Int → Bool → List VV → Nat → Int → Int → Int → Int → R) → (Bool → List VV → Nat → Int → Int → Int → Int → Int → Bool → Int → Int → Bool → List VV → Nat → Int → Int → Int → Int → R) → Nat → Bool → List VV → Nat → Int → Int → Int → Int → Int → Bool → Int → Int → Bool → List VV → Nat → Int → Int → Int → Int → R), iterC (codeL PP (words [(16, spec ti_ref37_Check to_ref37_Check (fun q => (ok_ref37_Check F (atB (nth q 0)) (atC (nth q 1)) (atN (nth q 2)) (atI (nth q 3)) (atI (nth q 4)))) (fun q => [.i (o_ref37_Check_0 F (atB (nth q 0)) (atC (nth q 1)) (atN (nth q 2)) (atI (nth q 3)) (atI (nth q 4)))])), (26, spec ti_ref37_point to_ref37_point (fun q => (ok_ref37_point F (atI (nth q 0)) (atI (nth q 1)))) (fun q => [.b (o_ref37_point_0 F (atI (nth q 0)) (atI (nth q 1)))])), (27, spec ti_ref37_touch to_ref37_touch (fun q => (ok_ref37_touch F (atI (nth q 0)) (atI (nth q 1)) (atI (nth q 2)) (atI (nth q 3)) (atI (nth q 4)) (atI (nth q 5)) (atI (nth q 6)))) (fun q => [.b (o_ref37_touch_0 F (atI (nth q 0)) (atI (nth q 1)) (atI (nth q 2)) (atI (nth q 3)) (atI (nth q 4)) (atI (nth q 5)) (atI (nth q 6)))]))]) c_ref37_Touches (tabI c_ref37_Touches [⟨0, T_ref37_Touches_0, fun k q => L_ref37_Touches_0 F (fun (z0 : Bool) (z1 : List VV) (z2 : Nat) (z3 : Int) (z4 : Int) (z5 : Int) (z6 : Int) (z7 : Int) (z8 : Bool) (z9 : Int) (z10 : Int) (z11 : Bool) (z12 : List VV) (z13 : Nat) (z14 : Int) (z15 : Int) (z16 : Int) (z17 : Int) => k .ret (fS T_ref37_Touches_0_0 [.b z0, .c z1, .n z2, .i z3, .i z4, .i z5, .i z6, .i z7, .b z8, .i z9, .i z10, .b z11, .c z12, .n z13, .i z14, .i z15, .i z16, .i z17])) (fun (z0 : Bool) (z1 : List VV) (z2 : Nat) (z3 : Int) (z4 : Int) (z5 : Int) (z6 : Int) (z7 : Int) (z8 : Bool) (z9 : Int) (z10 : Int) (z11 : Bool) (z12 : List VV) (z13 : Nat) (z14 : Int) (z15 : Int) (z16 : Int) (z17 : Int) => k (.exit 0) (fS T_ref37_Touches_0_1 [.b z0, .c z1, .n z2, .i z3, .i z4, .i z5, .i z6, .i z7, .b z8, .i z9, .i z10, .b z11, .c z12, .n z13, .i z14, .i z15, .i z16, .i z17])) F (atB (nth q 0)) (atC (nth q 1)) (atN (nth q 2)) (atI (nth q 3)) (atI (nth q 4)) (atI (nth q 5)) (atI (nth q 6)) (atI (nth q 7)) (atB (nth q 8)) (atI (nth q 9)) (atI (nth q 10)) (atB (nth q 11)) (atC (nth q 12)) (atN (nth q 13)) (atI (nth q 14)) (atI (nth q 15)) (atI (nth q 16)) (atI (nth q 17))⟩]) (tabJ []) (loopAt PP 12 0) 0) (headOf c_ref37_Touches 0) k (n + 1) (fS T_ref37_Touches_0 [.b x0, .c x1, .n x2, .i x3, .i x4, .i x5, .i x6, .i x7, .b x8, .i x9, .i x10, .b x11, .c x12, .n x13, .i x14, .i x15, .i x16, .i x17]) = (fun (rc : Bool → List VV → Nat → Int → Int → Int → Int → Int → Bool → Int → Int → Bool → List VV → Nat → Int → Int → Int → Int → R) (ex0 : Bool → List VV → Nat → Int → Int → Int → Int → Int → Bool → Int → Int → Bool → List VV → Nat → Int → Int → Int → Int → R) (ex1 : Bool → List VV → Nat → Int → Int → Int → Int → Int → Bool → Int → Int → Bool → List VV → Nat → Int → Int → Int → Int → R) (x0 : Bool) (x1 : List VV) (x2 : Nat) (x3 : Int) (x4 : Int) (x5 : Int) (x6 : Int) (x7 : Int) (x8 : Bool) (x9 : Int) (x10 : Int) (x11 : Bool) (x12 : List VV) (x13 : Nat) (x14 : Int) (x15 : Int) (x16 : Int) (x17 : Int) => (
  bif ((decide (x10 < (((x13 : Nat) : Int))))) then (
    bif ((decide (0 ≤ x10)) && (decide (x10 < ((x13 : Nat) : Int)))) then (
      let v437 : Nat := (0 + ((Int.toNat x10) * 2))
      bif ((isI .i64 x12[v437]?) && ((isI .i64 x12[(v437 + 1)]?) && true)) then (
        let v438 : Int := (iv x12[v437]?)
        let v439 : Int := (iv x12[(v437 + 1)]?)
        let v441 : Int := ((x13 : Nat) : Int)
        bif (!(decide (v441 = 0))) then (
          let v442 : Int := (Int.tmod ((IntKind.wrap .i64 (x10 + 1))) v441)
          bif ((decide (0 ≤ v442)) && (decide (v442 < ((x13 : Nat) : Int)))) then (
            let v443 : Nat := (0 + ((Int.toNat v442) * 2))
            bif ((isI .i64 x12[v443]?) && ((isI .i64 x12[(v443 + 1)]?) && true)) then (
              let v444 : Int := (iv x12[v443]?)
              let v445 : Int := (iv x12[(v443 + 1)]?)
              bif (ok_ref37_touch F v438 v439 v444 v445 x16 x17 x7) then (
                bif ((o_ref37_touch_0 F v438 v439 v444 v445 x16 x17 x7)) then (
                  ex0 x0 x1 x2 x3 x4 x5 x6 x7 true 0 x10 x11 x12 x13 x14 x15 x16 x17)
                else (
                  rc x0 x1 x2 x3 x4 x5 x6 x7 x8 x9 ((IntKind.wrap .i64 (x10 + 1))) x11 x12 x13 x14 x15 x16 x17))
              else (
                none))
            else (
              none))
          else (
            none))
        else (
          none))
      else (
        none))
    else (
      none))
  else (
    ex1 x0 x1 x2 x3 x4 x5 x6 x7 x8 x9 x10 x11 x12 x13 x14 x15 x16 x17) : R)) (fun (y0 : Bool) (y1 : List VV) (y2 : Nat) (y3 : Int) (y4 : Int) (y5 : Int) (y6 : Int) (y7 : Int) (y8 : Bool) (y9 : Int) (y10 : Int) (y11 : Bool) (y12 : List VV) (y13 : Nat) (y14 : Int) (y15 : Int) (y16 : Int) (y17 : Int) => iterC (codeL PP (words [(16, spec ti_ref37_Check to_ref37_Check (fun q => (ok_ref37_Check F (atB (nth q 0)) (atC (nth q 1)) (atN (nth q 2)) (atI (nth q 3)) (atI (nth q 4)))) (fun q => [.i (o_ref37_Check_0 F (atB (nth q 0)) (atC (nth q 1)) (atN (nth q 2)) (atI (nth q 3)) (atI (nth q 4)))])), (26, spec ti_ref37_point to_ref37_point (fun q => (ok_ref37_point F (atI (nth q 0)) (atI (nth q 1)))) (fun q => [.b (o_ref37_point_0 F (atI (nth q 0)) (atI (nth q 1)))])), (27, spec ti_ref37_touch to_ref37_touch (fun q => (ok_ref37_touch F (atI (nth q 0)) (atI (nth q 1)) (atI (nth q 2)) (atI (nth q 3)) (atI (nth q 4)) (atI (nth q 5)) (atI (nth q 6)))) (fun q => [.b (o_ref37_touch_0 F (atI (nth q 0)) (atI (nth q 1)) (atI (nth q 2)) (atI (nth q 3)) (atI (nth q 4)) (atI (nth q 5)) (atI (nth q 6)))]))]) c_ref37_Touches (tabI c_ref37_Touches [⟨0, T_ref37_Touches_0, fun k q => L_ref37_Touches_0 F (fun (z0 : Bool) (z1 : List VV) (z2 : Nat) (z3 : Int) (z4 : Int) (z5 : Int) (z6 : Int) (z7 : Int) (z8 : Bool) (z9 : Int) (z10 : Int) (z11 : Bool) (z12 : List VV) (z13 : Nat) (z14 : Int) (z15 : Int) (z16 : Int) (z17 : Int) => k .ret (fS T_ref37_Touches_0_0 [.b z0, .c z1, .n z2, .i z3, .i z4, .i z5, .i z6, .i z7, .b z8, .i z9, .i z10, .b z11, .c z12, .n z13, .i z14, .i z15, .i z16, .i z17])) (fun (z0 : Bool) (z1 : List VV) (z2 : Nat) (z3 : Int) (z4 : Int) (z5 : Int) (z6 : Int) (z7 : Int) (z8 : Bool) (z9 : Int) (z10 : Int) (z11 : Bool) (z12 : List VV) (z13 : Nat) (z14 : Int) (z15 : Int) (z16 : Int) (z17 : Int) => k (.exit 0) (fS T_ref37_Touches_0_1 [.b z0, .c z1, .n z2, .i z3, .i z4, .i z5, .i z6, .i z7, .b z8, .i z9, .i z10, .b z11, .c z12, .n z13, .i z14, .i z15, .i z16, .i z17])) F (atB (nth q 0)) (atC (nth q 1)) (atN (nth q 2)) (atI (nth q 3)) (atI (nth q 4)) (atI (nth q 5)) (atI (nth q 6)) (atI (nth q 7)) (atB (nth q 8)) (atI (nth q 9)) (atI (nth q 10)) (atB (nth q 11)) (atC (nth q 12)) (atN (nth q 13)) (atI (nth q 14)) (atI (nth q 15)) (atI (nth q 16)) (atI (nth q 17))⟩]) (tabJ []) (loopAt PP 12 0) 0) (headOf c_ref37_Touches 0) k n (fS T_ref37_Touches_0 [.b y0, .c y1, .n y2, .i y3, .i y4, .i y5, .i y6, .i y7, .b y8, .i y9, .i y10, .b y11, .c y12, .n y13, .i y14, .i y15, .i y16, .i y17])) (fun (z0 : Bool) (z1 : List VV) (z2 : Nat) (z3 : Int) (z4 : Int) (z5 : Int) (z6 : Int) (z7 : Int) (z8 : Bool) (z9 : Int) (z10 : Int) (z11 : Bool) (z12 : List VV) (z13 : Nat) (z14 : Int) (z15 : Int) (z16 : Int) (z17 : Int) => k .ret (fS T_ref37_Touches_0_0 [.b z0, .c z1, .n z2, .i z3, .i z4, .i z5, .i z6, .i z7, .b z8, .i z9, .i z10, .b z11, .c z12, .n z13, .i z14, .i z15, .i z16, .i z17])) (fun (z0 : Bool) (z1 : List VV) (z2 : Nat) (z3 : Int) (z4 : Int) (z5 : Int) (z6 : Int) (z7 : Int) (z8 : Bool) (z9 : Int) (z10 : Int) (z11 : Bool) (z12 : List VV) (z13 : Nat) (z14 : Int) (z15 : Int) (z16 : Int) (z17 : Int) => k (.exit 0) (fS T_ref37_Touches_0_1 [.b z0, .c z1, .n z2, .i z3, .i z4, .i z5, .i z6, .i z7, .b z8, .i z9, .i z10, .b z11, .c z12, .n z13, .i z14, .i z15, .i z16, .i z17])) x0 x1 x2 x3 x4 x5 x6 x7 x8 x9 x10 x11 x12 x13 x14 x15 x16 x17 := by
      intros
      kernel_rfl
    have h : iterC (codeL PP (S_ref37_Touches F) c_ref37_Touches (I_ref37_Touches F) (J_ref37_Touches F) (loopAt PP 12 0) 0) (headOf c_ref37_Touches 0) k (n + 1) (fS T_ref37_Touches_0 [.b x0, .c x1, .n x2, .i x3, .i x4, .i x5, .i x6, .i x7, .b x8, .i x9, .i x10, .b x11, .c x12, .n x13, .i x14, .i x15, .i x16, .i x17]) = B_ref37_Touches_0 F (fun (y0 : Bool) (y1 : List VV) (y2 : Nat) (y3 : Int) (y4 : Int) (y5 : Int) (y6 : Int) (y7 : Int) (y8 : Bool) (y9 : Int) (y10 : Int) (y11 : Bool) (y12 : List VV) (y13 : Nat) (y14 : Int) (y15 : Int) (y16 : Int) (y17 : Int) => iterC (codeL PP (S_ref37_Touches F) c_ref37_Touches (I_ref37_Touches F) (J_ref37_Touches F) (loopAt PP 12 0) 0) (headOf c_ref37_Touches 0) k n (fS T_ref37_Touches_0 [.b y0, .c y1, .n y2, .i y3, .i y4, .i y5, .i y6, .i y7, .b y8, .i y9, .i y10, .b y11, .c y12, .n y13, .i y14, .i y15, .i y16, .i y17])) (fun (z0 : Bool) (z1 : List VV) (z2 : Nat) (z3 : Int) (z4 : Int) (z5 : Int) (z6 : Int) (z7 : Int) (z8 : Bool) (z9 : Int) (z10 : Int) (z11 : Bool) (z12 : List VV) (z13 : Nat) (z14 : Int) (z15 : Int) (z16 : Int) (z17 : Int) => k .ret (fS T_ref37_Touches_0_0 [.b z0, .c z1, .n z2, .i z3, .i z4, .i z5, .i z6, .i z7, .b z8, .i z9, .i z10, .b z11, .c z12, .n z13, .i z14, .i z15, .i z16, .i z17])) (fun (z0 : Bool) (z1 : List VV) (z2 : Nat) (z3 : Int) (z4 : Int) (z5 : Int) (z6 : Int) (z7 : Int) (z8 : Bool) (z9 : Int) (z10 : Int) (z11 : Bool) (z12 : List VV) (z13 : Nat) (z14 : Int) (z15 : Int) (z16 : Int) (z17 : Int) => k (.exit 0) (fS T_ref37_Touches_0_1 [.b z0, .c z1, .n z2, .i z3, .i z4, .i z5, .i z6, .i z7, .b z8, .i z9, .i z10, .b z11, .c z12, .n z13, .i z14, .i z15, .i z16, .i z17])) x0 x1 x2 x3 x4 x5 x6 x7 x8 x9 x10 x11 x12 x13 x14 x15 x16 x17 := (h0 ok_ref37_Check o_ref37_Check_0 ok_ref37_point o_ref37_point_0 ok_ref37_touch o_ref37_touch_0 L_ref37_Touches_0).trans (by kernel_rfl)
    rw [h]
    simp only [lL_ref37_Touches_0 F k n]
    rfl
def f_ref37_Touches (F : Nat) (a0 : Bool) (a1 : List VV) (a2 : Nat) (a3 : Int) (a4 : Int) (a5 : Int) (a6 : Int) (a7 : Int) : R :=
  bif (ok_ref37_Check F a0 a1 a2 a3 a4) then (
    bif ((((o_ref37_Check_0 F a0 a1 a2 a3 a4)) != 0)) then (
      some (.v (.tuple #[.bool false, .int .i64 2])))
    else (
      bif (ok_ref37_point F a5 a6) then (
        bif ((!((o_ref37_point_0 F a5 a6)))) then (
          some (.v (.tuple #[.bool false, .int .i64 2])))
        else (
          bif ((decide (a7 < 0))) then (
            some (.v (.tuple #[.bool false, .int .i64 2])))
          else (
            bif ((decide (a7 > 1152921504606846976))) then (
              some (.v (.tuple #[.bool false, .int .i64 2])))
            else (
              L_ref37_Touches_0 F (fun (v808 : Bool) (v809 : List VV) (v810 : Nat) (v811 : Int) (v812 : Int) (v813 : Int) (v814 : Int) (v815 : Int) (v816 : Bool) (v817 : Int) (v818 : Int) (v819 : Bool) (v820 : List VV) (v821 : Nat) (v822 : Int) (v823 : Int) (v824 : Int) (v825 : Int) =>
                some (.v (.tuple #[.bool v816, .int .i64 v817]))) (fun (v826 : Bool) (v827 : List VV) (v828 : Nat) (v829 : Int) (v830 : Int) (v831 : Int) (v832 : Int) (v833 : Int) (v834 : Bool) (v835 : Int) (v836 : Int) (v837 : Bool) (v838 : List VV) (v839 : Nat) (v840 : Int) (v841 : Int) (v842 : Int) (v843 : Int) =>
                some (.v (.tuple #[.bool false, .int .i64 0]))) F a0 a1 a2 a3 a4 a5 a6 a7 false 0 0 a0 a1 a2 a3 a4 a5 a6))))
      else (
        none)))
  else (
    none)
theorem e_ref37_Touches (F : Nat) (a0 : Bool) (a1 : List VV) (a2 : Nat) (a3 : Int) (a4 : Int) (a5 : Int) (a6 : Int) (a7 : Int) : funL PP (S_ref37_Touches F) c_ref37_Touches (I_ref37_Touches F) (J_ref37_Touches F) 12 (fTs ti_ref37_Touches [.b a0, .c a1, .n a2, .i a3, .i a4, .i a5, .i a6, .i a7]).1 = f_ref37_Touches F a0 a1 a2 a3 a4 a5 a6 a7 := by
  have h : ∀ (ok_ref37_Check : Nat → Bool → List VV → Nat → Int → Int → Bool) (o_ref37_Check_0 : Nat → Bool → List VV → Nat → Int → Int → Int) (ok_ref37_point : Nat → Int → Int → Bool) (o_ref37_point_0 : Nat → Int → Int → Bool) (ok_ref37_touch : Nat → Int → Int → Int → Int → Int → Int → Int → Bool) (o_ref37_touch_0 : Nat → Int → Int → Int → Int → Int → Int → Int → Bool) (L_ref37_Touches_0 : Nat → (Bool → List VV → Nat → Int → Int → Int → Int → Int → Bool → Int → Int → Bool → List VV → Nat → Int → Int → Int → Int → R) → (Bool → List VV → Nat → Int → Int → Int → Int → Int → Bool → Int → Int → Bool → List VV → Nat → Int → Int → Int → Int → R) → Nat → Bool → List VV → Nat → Int → Int → Int → Int → Int → Bool → Int → Int → Bool → List VV → Nat → Int → Int → Int → Int → R), funL PP (words [(16, spec ti_ref37_Check to_ref37_Check (fun q => (ok_ref37_Check F (atB (nth q 0)) (atC (nth q 1)) (atN (nth q 2)) (atI (nth q 3)) (atI (nth q 4)))) (fun q => [.i (o_ref37_Check_0 F (atB (nth q 0)) (atC (nth q 1)) (atN (nth q 2)) (atI (nth q 3)) (atI (nth q 4)))])), (26, spec ti_ref37_point to_ref37_point (fun q => (ok_ref37_point F (atI (nth q 0)) (atI (nth q 1)))) (fun q => [.b (o_ref37_point_0 F (atI (nth q 0)) (atI (nth q 1)))])), (27, spec ti_ref37_touch to_ref37_touch (fun q => (ok_ref37_touch F (atI (nth q 0)) (atI (nth q 1)) (atI (nth q 2)) (atI (nth q 3)) (atI (nth q 4)) (atI (nth q 5)) (atI (nth q 6)))) (fun q => [.b (o_ref37_touch_0 F (atI (nth q 0)) (atI (nth q 1)) (atI (nth q 2)) (atI (nth q 3)) (atI (nth q 4)) (atI (nth q 5)) (atI (nth q 6)))]))]) c_ref37_Touches (tabI c_ref37_Touches [⟨0, T_ref37_Touches_0, fun k q => L_ref37_Touches_0 F (fun (z0 : Bool) (z1 : List VV) (z2 : Nat) (z3 : Int) (z4 : Int) (z5 : Int) (z6 : Int) (z7 : Int) (z8 : Bool) (z9 : Int) (z10 : Int) (z11 : Bool) (z12 : List VV) (z13 : Nat) (z14 : Int) (z15 : Int) (z16 : Int) (z17 : Int) => k .ret (fS T_ref37_Touches_0_0 [.b z0, .c z1, .n z2, .i z3, .i z4, .i z5, .i z6, .i z7, .b z8, .i z9, .i z10, .b z11, .c z12, .n z13, .i z14, .i z15, .i z16, .i z17])) (fun (z0 : Bool) (z1 : List VV) (z2 : Nat) (z3 : Int) (z4 : Int) (z5 : Int) (z6 : Int) (z7 : Int) (z8 : Bool) (z9 : Int) (z10 : Int) (z11 : Bool) (z12 : List VV) (z13 : Nat) (z14 : Int) (z15 : Int) (z16 : Int) (z17 : Int) => k (.exit 0) (fS T_ref37_Touches_0_1 [.b z0, .c z1, .n z2, .i z3, .i z4, .i z5, .i z6, .i z7, .b z8, .i z9, .i z10, .b z11, .c z12, .n z13, .i z14, .i z15, .i z16, .i z17])) F (atB (nth q 0)) (atC (nth q 1)) (atN (nth q 2)) (atI (nth q 3)) (atI (nth q 4)) (atI (nth q 5)) (atI (nth q 6)) (atI (nth q 7)) (atB (nth q 8)) (atI (nth q 9)) (atI (nth q 10)) (atB (nth q 11)) (atC (nth q 12)) (atN (nth q 13)) (atI (nth q 14)) (atI (nth q 15)) (atI (nth q 16)) (atI (nth q 17))⟩]) (tabJ []) 12 (fTs ti_ref37_Touches [.b a0, .c a1, .n a2, .i a3, .i a4, .i a5, .i a6, .i a7]).1 = (
  bif (ok_ref37_Check F a0 a1 a2 a3 a4) then (
    bif ((((o_ref37_Check_0 F a0 a1 a2 a3 a4)) != 0)) then (
      some (.v (.tuple #[.bool false, .int .i64 2])))
    else (
      bif (ok_ref37_point F a5 a6) then (
        bif ((!((o_ref37_point_0 F a5 a6)))) then (
          some (.v (.tuple #[.bool false, .int .i64 2])))
        else (
          bif ((decide (a7 < 0))) then (
            some (.v (.tuple #[.bool false, .int .i64 2])))
          else (
            bif ((decide (a7 > 1152921504606846976))) then (
              some (.v (.tuple #[.bool false, .int .i64 2])))
            else (
              L_ref37_Touches_0 F (fun (v808 : Bool) (v809 : List VV) (v810 : Nat) (v811 : Int) (v812 : Int) (v813 : Int) (v814 : Int) (v815 : Int) (v816 : Bool) (v817 : Int) (v818 : Int) (v819 : Bool) (v820 : List VV) (v821 : Nat) (v822 : Int) (v823 : Int) (v824 : Int) (v825 : Int) =>
                some (.v (.tuple #[.bool v816, .int .i64 v817]))) (fun (v826 : Bool) (v827 : List VV) (v828 : Nat) (v829 : Int) (v830 : Int) (v831 : Int) (v832 : Int) (v833 : Int) (v834 : Bool) (v835 : Int) (v836 : Int) (v837 : Bool) (v838 : List VV) (v839 : Nat) (v840 : Int) (v841 : Int) (v842 : Int) (v843 : Int) =>
                some (.v (.tuple #[.bool false, .int .i64 0]))) F a0 a1 a2 a3 a4 a5 a6 a7 false 0 0 a0 a1 a2 a3 a4 a5 a6))))
      else (
        none)))
  else (
    none) : R) := by
    intros
    kernel_rfl
  exact (h ok_ref37_Check o_ref37_Check_0 ok_ref37_point o_ref37_point_0 ok_ref37_touch o_ref37_touch_0 L_ref37_Touches_0).trans (by kernel_rfl)
def ok_ref37_Touches (F : Nat) (a0 : Bool) (a1 : List VV) (a2 : Nat) (a3 : Int) (a4 : Int) (a5 : Int) (a6 : Int) (a7 : Int) : Bool := okT to_ref37_Touches (f_ref37_Touches F a0 a1 a2 a3 a4 a5 a6 a7)
def o_ref37_Touches_0 (F : Nat) (a0 : Bool) (a1 : List VV) (a2 : Nat) (a3 : Int) (a4 : Int) (a5 : Int) (a6 : Int) (a7 : Int) : Bool := atB (nth (outT to_ref37_Touches (f_ref37_Touches F a0 a1 a2 a3 a4 a5 a6 a7)) 0)
def o_ref37_Touches_1 (F : Nat) (a0 : Bool) (a1 : List VV) (a2 : Nat) (a3 : Int) (a4 : Int) (a5 : Int) (a6 : Int) (a7 : Int) : Int := atI (nth (outT to_ref37_Touches (f_ref37_Touches F a0 a1 a2 a3 a4 a5 a6 a7)) 1)
theorem k_ref37_Touches (F : Nat) (a0 : Bool) (a1 : List VV) (a2 : Nat) (a3 : Int) (a4 : Int) (a5 : Int) (a6 : Int) (a7 : Int) {z0 : Bool} {z1 : Int} (h : f_ref37_Touches F a0 a1 a2 a3 a4 a5 a6 a7 = some (.v (.tuple #[.bool z0, .int .i64 z1]))) : ok_ref37_Touches F a0 a1 a2 a3 a4 a5 a6 a7 = true ∧ o_ref37_Touches_0 F a0 a1 a2 a3 a4 a5 a6 a7 = z0 ∧ o_ref37_Touches_1 F a0 a1 a2 a3 a4 a5 a6 a7 = z1 := by
  refine ⟨?_, ?_, ?_⟩
  · unfold ok_ref37_Touches; rw [h]; kernel_rfl
  · unfold o_ref37_Touches_0; rw [h]; kernel_rfl
  · unfold o_ref37_Touches_1; rw [h]; kernel_rfl
def s_ref37_Touches (F : Nat) : List VV → Option (Bool × VV) := spec ti_ref37_Touches to_ref37_Touches (fun q => (ok_ref37_Touches F (atB (nth q 0)) (atC (nth q 1)) (atN (nth q 2)) (atI (nth q 3)) (atI (nth q 4)) (atI (nth q 5)) (atI (nth q 6)) (atI (nth q 7)))) (fun q => [.b (o_ref37_Touches_0 F (atB (nth q 0)) (atC (nth q 1)) (atN (nth q 2)) (atI (nth q 3)) (atI (nth q 4)) (atI (nth q 5)) (atI (nth q 6)) (atI (nth q 7))), .i (o_ref37_Touches_1 F (atB (nth q 0)) (atC (nth q 1)) (atN (nth q 2)) (atI (nth q 3)) (atI (nth q 4)) (atI (nth q 5)) (atI (nth q 6)) (atI (nth q 7)))])
theorem hS_ref37_Touches (F : Nat) : ∀ f, Good PP f (unS (S_ref37_Touches F f)) := words_good fun p hp => by
  simp only [List.mem_cons, List.not_mem_nil, or_false] at hp
  rcases hp with rfl | rfl | rfl
  · exact g_ref37_Check F
  · exact g_ref37_point F
  · exact g_ref37_touch F
theorem hl_ref37_Touches (F : Nat) : ∀ p ∈ loopsIn PP 12, LoopOK PP (S_ref37_Touches F) c_ref37_Touches F (I_ref37_Touches F) (J_ref37_Touches F) p :=
  loops_of [(0, loopAt PP 12 0)] (by kernel_rfl) (all_cons
    (loop_ok (W_ref37_Touches F) rfl (tab_cons (fun _ k q => Le.ofEq ((lL_ref37_Touches_0 F k F (atB (nth q 0)) (atC (nth q 1)) (atN (nth q 2)) (atI (nth q 3)) (atI (nth q 4)) (atI (nth q 5)) (atI (nth q 6)) (atI (nth q 7)) (atB (nth q 8)) (atI (nth q 9)) (atI (nth q 10)) (atB (nth q 11)) (atC (nth q 12)) (atN (nth q 13)) (atI (nth q 14)) (atI (nth q 15)) (atI (nth q 16)) (atI (nth q 17))).symm.trans (congrArg (iterC (codeL PP (S_ref37_Touches F) c_ref37_Touches (I_ref37_Touches F) (J_ref37_Touches F) (loopAt PP 12 0) 0) (headOf c_ref37_Touches 0) k F) (show fS T_ref37_Touches_0 [.b (atB (nth q 0)), .c (atC (nth q 1)), .n (atN (nth q 2)), .i (atI (nth q 3)), .i (atI (nth q 4)), .i (atI (nth q 5)), .i (atI (nth q 6)), .i (atI (nth q 7)), .b (atB (nth q 8)), .i (atI (nth q 9)), .i (atI (nth q 10)), .b (atB (nth q 11)), .c (atC (nth q 12)), .n (atN (nth q 13)), .i (atI (nth q 14)), .i (atI (nth q 15)), .i (atI (nth q 16)), .i (atI (nth q 17))] = fS T_ref37_Touches_0 q by kernel_rfl)))) tab_nil)) all_nil)
theorem hj_ref37_Touches (F : Nat) : ∀ p ∈ joinsIn PP c_ref37_Touches 12, JoinOK PP (S_ref37_Touches F) c_ref37_Touches (I_ref37_Touches F) (J_ref37_Touches F) p :=
  joins_of [] (by kernel_rfl) all_nil
theorem g_ref37_Touches (F : Nat) : Good PP 12 (unS (s_ref37_Touches F)) :=
  fun_spec (hS_ref37_Touches F) (by kernel_rfl) (by kernel_rfl) (C := c_ref37_Touches) (F := fun q => (f_ref37_Touches F (atB (nth q 0)) (atC (nth q 1)) (atN (nth q 2)) (atI (nth q 3)) (atI (nth q 4)) (atI (nth q 5)) (atI (nth q 6)) (atI (nth q 7)))) (fun _ => F) (fun _ => I_ref37_Touches F) (fun _ => J_ref37_Touches F) (fun _ => hl_ref37_Touches F) (fun _ => hj_ref37_Touches F)
    (fun q => (congrArg (funL PP (S_ref37_Touches F) c_ref37_Touches (I_ref37_Touches F) (J_ref37_Touches F) 12) (show (fTs ti_ref37_Touches q).1 = (fTs ti_ref37_Touches [.b (atB (nth q 0)), .c (atC (nth q 1)), .n (atN (nth q 2)), .i (atI (nth q 3)), .i (atI (nth q 4)), .i (atI (nth q 5)), .i (atI (nth q 6)), .i (atI (nth q 7))]).1 by kernel_rfl)).trans (e_ref37_Touches F (atB (nth q 0)) (atC (nth q 1)) (atN (nth q 2)) (atI (nth q 3)) (atI (nth q 4)) (atI (nth q 5)) (atI (nth q 6)) (atI (nth q 7))))
    (fun _ h => okT_fill' h (by kernel_rfl))

end Go.Xv
set_option linter.unusedVariables false
namespace Go.Xv
/- 10 _ref37_Within -/
def c_ref37_Within : Cfg := ⟨[0, 1, 2, 3, 4, 5, 6, 7, 8, 9, 10, 11, 22, 29, 51, 72], [(0, [0, 1, 2, 3, 4, 5, 6, 7, 8, 9, 12, 13, 14, 15, 16, 17, 18, 19, 20, 21, 22, 23, 24, 75, 76, 77])], [], []⟩
def ti_ref37_Within : List TV := [.agg [.v (.bool), .fs (.lit 0) .hole 2, .v (.int .i64), .v (.int .i64)], .v (.agg [.int .i64, .int .i64])]
def to_ref37_Within : TV := .v (.tup [.bool, .int .i64])
def S_ref37_Within (F : Nat) : FuncId → List VV → Option (Bool × VV) := words [(12, s_ref37_Touches F), (23, s_ref37_side F)]
def T_ref37_Within_0 : TS := ⟨[(0, .agg [.v (.bool), .fs (.lit 0) .hole 2, .v (.int .i64), .v (.int .i64)]), (1, .v (.agg [.int .i64, .int .i64])), (2, .lp 0 (.lit 0)), (3, .lp 1 (.lit 0)), (4, .v (.bool)), (5, .v (.int .i64)), (6, .v (.bool)), (7, .v (.int .i64)), (8, .v (.int .i64)), (9, .v (.int .i64))], [(0, ⟨(.ex [.v (.bool), .fs (.lit 0) .hole 2, .v (.int .i64), .v (.int .i64)]), false⟩), (1, ⟨(.ex [.v (.int .i64), .v (.int .i64)]), true⟩)], 2⟩
def T_ref37_Within_0_0 : TS := ⟨[(0, .agg [.v (.bool), .fs (.lit 0) .hole 2, .v (.int .i64), .v (.int .i64)]), (1, .v (.agg [.int .i64, .int .i64])), (2, .lp 0 (.lit 0)), (3, .lp 1 (.lit 0)), (4, .v (.bool)), (5, .v (.int .i64)), (6, .v (.bool)), (7, .v (.int .i64)), (8, .v (.int .i64)), (9, .v (.int .i64))], [(0, ⟨(.ex [.v (.bool), .fs (.lit 0) .hole 2, .v (.int .i64), .v (.int .i64)]), false⟩), (1, ⟨(.ex [.v (.int .i64), .v (.int .i64)]), true⟩)], 2⟩
def B_ref37_Within_0 (F : Nat) (rc : Bool → List VV → Nat → Int → Int → Int → Int → Bool → Int → Bool → Int → Int → Int → Bool → List VV → Nat → Int → Int → Int → Int → R) (ex0 : Bool → List VV → Nat → Int → Int → Int → Int → Bool → Int → Bool → Int → Int → Int → Bool → List VV → Nat → Int → Int → Int → Int → R) (x0 : Bool) (x1 : List VV) (x2 : Nat) (x3 : Int) (x4 : Int) (x5 : Int) (x6 : Int) (x7 : Bool) (x8 : Int) (x9 : Bool) (x10 : Int) (x11 : Int) (x12 : Int) (x13 : Bool) (x14 : List VV) (x15 : Nat) (x16 : Int) (x17 : Int) (x18 : Int) (x19 : Int) : R :=
  bif ((decide (x12 < (((x15 : Nat) : Int))))) then (
    bif ((decide (0 ≤ x12)) && (decide (x12 < ((x15 : Nat) : Int)))) then (
      let v869 : Nat := (0 + ((Int.toNat x12) * 2))
      bif ((isI .i64 x14[v869]?) && ((isI .i64 x14[(v869 + 1)]?) && true)) then (
        let v870 : Int := (iv x14[v869]?)
        let v871 : Int := (iv x14[(v869 + 1)]?)
        let v873 : Int := ((x15 : Nat) : Int)
        bif (!(decide (v873 = 0))) then (
          let v874 : Int := (Int.tmod ((IntKind.wrap .i64 (x12 + 1))) v873)
          bif ((decide (0 ≤ v874)) && (decide (v874 < ((x15 : Nat) : Int)))) then (
            let v875 : Nat := (0 + ((Int.toNat v874) * 2))
            bif ((isI .i64 x14[v875]?) && ((isI .i64 x14[(v875 + 1)]?) && true)) then (
              let v876 : Int := (iv x14[v875]?)
              let v877 : Int := (iv x14[(v875 + 1)]?)
              bif ((decide (v871 > v877))) then (
                bif ((decide (v877 ≤ x19))) then (
                  bif ((decide (v871 > x19))) then (
                    bif (ok_ref37_side F v876 v877 v870 v871 x18 x19) then (
                      bif ((decide (((o_ref37_side_0 F v876 v877 v870 v871 x18 x19)) > 0))) then (
                        rc x0 x1 x2 x3 x4 x5 x6 x7 x8 x9 x10 ((IntKind.wrap .i64 (x11 + 1))) ((IntKind.wrap .i64 (x12 + 1))) x13 x14 x15 x16 x17 x18 x19)
                      else (
                        rc x0 x1 x2 x3 x4 x5 x6 x7 x8 x9 x10 x11 ((IntKind.wrap .i64 (x12 + 1))) x13 x14 x15 x16 x17 x18 x19))
                    else (
                      none))
                  else (
                    rc x0 x1 x2 x3 x4 x5 x6 x7 x8 x9 x10 x11 ((IntKind.wrap .i64 (x12 + 1))) x13 x14 x15 x16 x17 x18 x19))
                else (
                  rc x0 x1 x2 x3 x4 x5 x6 x7 x8 x9 x10 x11 ((IntKind.wrap .i64 (x12 + 1))) x13 x14 x15 x16 x17 x18 x19))
              else (
                bif ((decide (v871 ≤ x19))) then (
                  bif ((decide (v877 > x19))) then (
                    bif (ok_ref37_side F v870 v871 v876 v877 x18 x19) then (
                      bif ((decide (((o_ref37_side_0 F v870 v871 v876 v877 x18 x19)) > 0))) then (
                        rc x0 x1 x2 x3 x4 x5 x6 x7 x8 x9 x10 ((IntKind.wrap .i64 (x11 + 1))) ((IntKind.wrap .i64 (x12 + 1))) x13 x14 x15 x16 x17 x18 x19)
                      else (
                        rc x0 x1 x2 x3 x4 x5 x6 x7 x8 x9 x10 x11 ((IntKind.wrap .i64 (x12 + 1))) x13 x14 x15 x16 x17 x18 x19))
                    else (
                      none))
                  else (
                    rc x0 x1 x2 x3 x4 x5 x6 x7 x8 x9 x10 x11 ((IntKind.wrap .i64 (x12 + 1))) x13 x14 x15 x16 x17 x18 x19))
                else (
                  rc x0 x1 x2 x3 x4 x5 x6 x7 x8 x9 x10 x11 ((IntKind.wrap .i64 (x12 + 1))) x13 x14 x15 x16 x17 x18 x19)))
            else (
              none))
          else (
            none))
        else (
          none))
      else (
        none))
    else (
      none))
  else (
    ex0 x0 x1 x2 x3 x4 x5 x6 x7 x8 x9 x10 x11 x12 x13 x14 x15 x16 x17 x18 x19)
def L_ref37_Within_0 (F : Nat) (ex0 : Bool → List VV → Nat → Int → Int → Int → Int → Bool → Int → Bool → Int → Int → Int → Bool → List VV → Nat → Int → Int → Int → Int → R) : Nat → Bool → List VV → Nat → Int → Int → Int → Int → Bool → Int → Bool → Int → Int → Int → Bool → List VV → Nat → Int → Int → Int → Int → R
  | 0, _, _, _, _, _, _, _, _, _, _, _, _, _, _, _, _, _, _, _, _ => none
  | n + 1, x0, x1, x2, x3, x4, x5, x6, x7, x8, x9, x10, x11, x12, x13, x14, x15, x16, x17, x18, x19 => B_ref37_Within_0 F (L_ref37_Within_0 F ex0 n) ex0 x0 x1 x2 x3 x4 x5 x6 x7 x8 x9 x10 x11 x12 x13 x14 x15 x16 x17 x18 x19
def W_ref37_Within (F : Nat) : List LW := [⟨0, T_ref37_Within_0, fun k q => L_ref37_Within_0 F (fun (z0 : Bool) (z1 : List VV) (z2 : Nat) (z3 : Int) (z4 : Int) (z5 : Int) (z6 : Int) (z7 : Bool) (z8 : Int) (z9 : Bool) (z10 : Int) (z11 : Int) (z12 : Int) (z13 : Bool) (z14 : List VV) (z15 : Nat) (z16 : Int) (z17 : Int) (z18 : Int) (z19 : Int) => k (.exit 0) (fS T_ref37_Within_0_0 [.b z0, .c z1, .n z2, .i z3, .i z4, .i z5, .i z6, .b z7, .i z8, .b z9, .i z10, .i z11, .i z12, .b z13, .c z14, .n z15, .i z16, .i z17, .i z18, .i z19])) F (atB (nth q 0)) (atC (nth q 1)) (atN (nth q 2)) (atI (nth q 3)) (atI (nth q 4)) (atI (nth q 5)) (atI (nth q 6)) (atB (nth q 7)) (atI (nth q 8)) (atB (nth q 9)) (atI (nth q 10)) (atI (nth q 11)) (atI (nth q 12)) (atB (nth q 13)) (atC (nth q 14)) (atN (nth q 15)) (atI (nth q 16)) (atI (nth q 17)) (atI (nth q 18)) (atI (nth q 19))⟩]
def I_ref37_Within (F : Nat) : Nat → VS → (Exit → VS → R) → R := tabI c_ref37_Within (W_ref37_Within F)
def WJ_ref37_Within (F : Nat) : List LJ := []
def J_ref37_Within (F : Nat) : Nat → Nat → VS → (Exit → VS → R) → R := tabJ (WJ_ref37_Within F)
theorem lL_ref37_Within_0 (F : Nat) (k : Exit → VS → R) : ∀ (n : Nat) (x0 : Bool) (x1 : List VV) (x2 : Nat) (x3 : Int) (x4 : Int) (x5 : Int) (x6 : Int) (x7 : Bool) (x8 : Int) (x9 : Bool) (x10 : Int) (x11 : Int) (x12 : Int) (x13 : Bool) (x14 : List VV) (x15 : Nat) (x16 : Int) (x17 : Int) (x18 : Int) (x19 : Int), iterC (codeL PP (S_ref37_Within F) c_ref37_Within (I_ref37_Within F) (J_ref37_Within F) (loopAt PP 10 0) 0) (headOf c_ref37_Within 0) k n (fS T_ref37_Within_0 [.b x0, .c x1, .n x2, .i x3, .i x4, .i x5, .i x6, .b x7, .i x8, .b x9, .i x10, .i x11, .i x12, .b x13, .c x14, .n x15, .i x16, .i x17, .i x18, .i x19]) = L_ref37_Within_0 F (fun (z0 : Bool) (z1 : List VV) (z2 : Nat) (z3 : Int) (z4 : Int) (z5 : Int) (z6 : Int) (z7 : Bool) (z8 : Int) (z9 : Bool) (z10 : Int) (z11 : Int) (z12 : Int) (z13 : Bool) (z14 : List VV) (z15 : Nat) (z16 : Int) (z17 : Int) (z18 : Int) (z19 : Int) => k (.exit 0) (fS T_ref37_Within_0_0 [.b z0, .c z1, .n z2, .i z3, .i z4, .i z5, .i z6, .b z7, .i z8, .b z9, .i z10, .i z11, .i z12, .b z13, .c z14, .n z15, .i z16, .i z17, .i z18, .i z19])) n x0 x1 x2 x3 x4 x5 x6 x7 x8 x9 x10 x11 x12 x13 x14 x15 x16 x17 x18 x19
  | 0, _, _, _, _, _, _, _, _, _, _, _, _, _, _, _, _, _, _, _, _ => rfl
  | n + 1, x0, x1, x2, x3, x4, x5, x6, x7, x8, x9, x10, x11, x12, x13, x14, x15, x16, x17, x18, x19 => by
    have h0 : ∀ (ok_ref37_Touches : Nat → Bool → List VV → Nat → Int → Int → Int → Int → Int → Bool) (o_ref37_Touches_0 : Nat → Bool → List VV → Nat → Int → Int → Int → Int → Int → Bool) (o_ref37_Touches_1 : Nat → Bool → List VV → Nat → Int → Int → Int → Int → Int → Int) (ok_ref37_side : Nat → Int → Int → Int → Int → Int → Int → Bool) (o_ref37_side_0 : Nat → Int → Int → Int → Int → Int → Int → Int) (L_ref37_Within_0 : Nat → (Bool → List VV → Nat → Int → Int → Int → Int → Bool → Int → Bool → Int → Int → Int → Bool → List VV → Nat → Int → Int → Int → Int → R) → Nat → Bool → List VV → Nat → Int → Int → Int → Int → Bool → Int → Bool → Int → Int → Int → Bool → List VV → Nat → Int → Int → Int → Int → R), iterC (codeL PP (words [(12, spec ti_ref37_Touches to_ref37_Touches (fun q => (ok_ref37_Touches F (atB (nth q 0)) (atC (nth q 1)) (atN (nth q 2)) (atI (nth q 3)) (atI (nth q 4)) (atI (nth q 5)) (atI (nth q 6)) (atI (nth q 7)))) (fun q => [.b (o_ref37_Touches_0 F (atB (nth q 0)) (atC (nth q 1)) (atN (nth q 2)) (atI (nth q 3)) (atI (nth q 4)) (atI (nth q 5)) (atI (nth q 6)) (atI (nth q 7))), .i (o_ref37_Touches_1 F (atB (nth q 0)) (atC (nth q 1)) (atN (nth q 2)) (atI (nth q 3)) (atI (nth q 4)) (atI (nth q 5)) (atI (nth q 6)) (atI (nth q 7)))])), (23, spec ti_ref37_side to_ref37_side (fun q => (ok_ref37_side F (atI (nth q 0)) (atI (nth q 1)) (atI (nth q 2)) (atI (nth q 3)) (atI (nth q 4)) (atI (nth q 5)))) (fun q => [.i (o_ref37_side_0 F (atI (nth q 0)) (atI (nth q 1)) (atI (nth q 2)) (atI (nth q 3)) (atI (nth q 4)) (atI (nth q 5)))]))]) c_ref37_Within (tabI c_ref37_Within [⟨0, T_ref37_Within_0, fun k q => L_ref37_Within_0 F (fun (z0 : Bool) (z1 : List VV) (z2 : Nat) (z3 : Int) (z4 : Int) (z5 : Int) (z6 : Int) (z7 : Bool) (z8 : Int) (z9 : Bool) (z10 : Int) (z11 : Int) (z12 : Int) (z13 : Bool) (z14 : List VV) (z15 : Nat) (z16 : Int) (z17 : Int) (z18 : Int) (z19 : Int) => k (.exit 0) (fS T_ref37_Within_0_0 [.b z0, .c z1, .n z2, .i z3, .i z4, .i z5, .i z6, .b z7, .i z8, .b z9, .i z10, .i z11, .i z12, .b z13, .c z14, .n z15, .i z16, .i z17, .i z18, .i z19])) F (atB (nth q 0)) (atC (nth q 1)) (atN (nth q 2)) (atI (nth q 3)) (atI (nth q 4)) (atI (nth q 5)) (atI (nth q 6)) (atB (nth q 7)) (atI (nth q 8)) (atB (nth q 9)) (atI (nth q 10)) (atI (nth q 11)) (atI (nth q 12)) (atB (nth q 13)) (atC (nth q 14)) (atN (nth q 15)) (atI (nth q 16)) (atI (nth q 17)) (atI (nth q 18)) (atI (nth q 19))⟩]) (tabJ []) (loopAt PP 10 0) 0) (headOf c_ref37_Within 0) k (n + 1) (fS T_ref37_Within_0 [.b x0, .c x1, .n x2, .i x3, .i x4, .i x5, .i x6, .b x7, .i x8, .b x9, .i x10, .i x11, .i x12, .b x13, .c x14, .n x15, .i x16, .i x17, .i x18, .i x19]) = (fun (rc : Bool → List VV → Nat → Int → Int → Int → Int → Bool → Int → Bool → Int → Int → Int → Bool → List VV → Nat → Int → Int → Int → Int → R) (ex0 : Bool → List VV → Nat → Int → Int → Int → Int → Bool → Int → Bool → Int → Int → Int → Bool → List VV → Nat → Int → Int → Int → Int → R) (x0 : Bool) (x1 : List VV) (x2 : Nat) (x3 : Int) (x4 : Int) (x5 : Int) (x6 : Int) (x7 : Bool) (x8 : Int) (x9 : Bool) (x10 : Int) (x11 : Int) (x12 : Int) (x13 : Bool) (x14 : List VV) (x15 : Nat) (x16 : Int) (x17 : Int) (x18 : Int) (x19 : Int) => (
  bif ((decide (x12 < (((x15 : Nat) : Int))))) then (
    bif ((decide (0 ≤ x12)) && (decide (x12 < ((x15 : Nat) : Int)))) then (
      let v869 : Nat := (0 + ((Int.toNat x12) * 2))
      bif ((isI .i64 x14[v869]?) && ((isI .i64 x14[(v869 + 1)]?) && true)) then (
        let v870 : Int := (iv x14[v869]?)
        let v871 : Int := (iv x14[(v869 + 1)]?)
        let v873 : Int := ((x15 : Nat) : Int)
        bif (!(decide (v873 = 0))) then (
          let v874 : Int := (Int.tmod ((IntKind.wrap .i64 (x12 + 1))) v873)
          bif ((decide (0 ≤ v874)) && (decide (v874 < ((x15 : Nat) : Int)))) then (
            let v875 : Nat := (0 + ((Int.toNat v874) * 2))
            bif ((isI .i64 x14[v875]?) && ((isI .i64 x14[(v875 + 1)]?) && true)) then (
              let v876 : Int := (iv x14[v875]?)
              let v877 : Int := (iv x14[(v875 + 1)]?)
              bif ((decide (v871 > v877))) then (
                bif ((decide (v877 ≤ x19))) then (
                  bif ((decide (v871 > x19))) then (
                    bif (ok_ref37_side F v876 v877 v870 v871 x18 x19) then (
                      bif ((decide (((o_ref37_side_0 F v876 v877 v870 v871 x18 x19)) > 0))) then (
                        rc x0 x1 x2 x3 x4 x5 x6 x7 x8 x9 x10 ((IntKind.wrap .i64 (x11 + 1))) ((IntKind.wrap .i64 (x12 + 1))) x13 x14 x15 x16 x17 x18 x19)
                      else (
                        rc x0 x1 x2 x3 x4 x5 x6 x7 x8 x9 x10 x11 ((IntKind.wrap .i64 (x12 + 1))) x13 x14 x15 x16 x17 x18 x19))
                    else (
                      none))
                  else (
                    rc x0 x1 x2 x3 x4 x5 x6 x7 x8 x9 x10 x11 ((IntKind.wrap .i64 (x12 + 1))) x13 x14 x15 x16 x17 x18 x19))
                else (
                  rc x0 x1 x2 x3 x4 x5 x6 x7 x8 x9 x10 x11 ((IntKind.wrap .i64 (x12 + 1))) x13 x14 x15 x16 x17 x18 x19))
              else (
                bif ((decide (v871 ≤ x19))) then (
                  bif ((decide (v877 > x19))) then (
                    bif (ok_ref37_side F v870 v871 v876 v877 x18 x19) then (
                      bif ((decide (((o_ref37_side_0 F v870 v871 v876 v877 x18 x19)) > 0))) then (
                        rc x0 x1 x2 x3 x4 x5 x6 x7 x8 x9 x10 ((IntKind.wrap .i64 (x11 + 1))) ((IntKind.wrap .i64 (x12 + 1))) x13 x14 x15 x16 x17 x18 x19)
                      else (
                        rc x0 x1 x2 x3 x4 x5 x6 x7 x8 x9 x10 x11 ((IntKind.wrap .i64 (x12 + 1))) x13 x14 x15 x16 x17 x18 x19))
                    else (
                      none))
                  else (
                    rc x0 x1 x2 x3 x4 x5 x6 x7 x8 x9 x10 x11 ((IntKind.wrap .i64 (x12 + 1))) x13 x14 x15 x16 x17 x18 x19))
                else (
                  rc x0 x1 x2 x3 x4 x5 x6 x7 x8 x9 x10 x11 ((IntKind.wrap .i64 (x12 + 1))) x13 x14 x15 x16 x17 x18 x19)))
            else (
              none))
          else (
            none))
        else (
          none))
      else (
        none))
    else (
      none))
  else (
    ex0 x0 x1 x2 x3 x4 x5 x6 x7 x8 x9 x10 x11 x12 x13 x14 x15 x16 x17 x18 x19) : R)) (fun (y0 : Bool) (y1 : List VV) (y2 : Nat) (y3 : Int) (y4 : Int) (y5 : Int) (y6 : Int) (y7 : Bool) (y8 : Int) (y9 : Bool) (y10 : Int) (y11 : Int) (y12 : Int) (y13 : Bool) (y14 : List VV) (y15 : Nat) (y16 : Int) (y17 : Int) (y18 : Int) (y19 : Int) => iterC (codeL PP (words [(12, spec ti_ref37_Touches to_ref37_Touches (fun q => (ok_ref37_Touches F (atB (nth q 0)) (atC (nth q 1)) (atN (nth q 2)) (atI (nth q 3)) (atI (nth q 4)) (atI (nth q 5)) (atI (nth q 6)) (atI (nth q 7)))) (fun q => [.b (o_ref37_Touches_0 F (atB (nth q 0)) (atC (nth q 1)) (atN (nth q 2)) (atI (nth q 3)) (atI (nth q 4)) (atI (nth q 5)) (atI (nth q 6)) (atI (nth q 7))), .i (o_ref37_Touches_1 F (atB (nth q 0)) (atC (nth q 1)) (atN (nth q 2)) (atI (nth q 3)) (atI (nth q 4)) (atI (nth q 5)) (atI (nth q 6)) (atI (nth q 7)))])), (23, spec ti_ref37_side to_ref37_side (fun q => (ok_ref37_side F (atI (nth q 0)) (atI (nth q 1)) (atI (nth q 2)) (atI (nth q 3)) (atI (nth q 4)) (atI (nth q 5)))) (fun q => [.i (o_ref37_side_0 F (atI (nth q 0)) (atI (nth q 1)) (atI (nth q 2)) (atI (nth q 3)) (atI (nth q 4)) (atI (nth q 5)))]))]) c_ref37_Within (tabI c_ref37_Within [⟨0, T_ref37_Within_0, fun k q => L_ref37_Within_0 F (fun (z0 : Bool) (z1 : List VV) (z2 : Nat) (z3 : Int) (z4 : Int) (z5 : Int) (z6 : Int) (z7 : Bool) (z8 : Int) (z9 : Bool) (z10 : Int) (z11 : Int) (z12 : Int) (z13 : Bool) (z14 : List VV) (z15 : Nat) (z16 : Int) (z17 : Int) (z18 : Int) (z19 : Int) => k (.exit 0) (fS T_ref37_Within_0_0 [.b z0, .c z1, .n z2, .i z3, .i z4, .i z5, .i z6, .b z7, .i z8, .b z9, .i z10, .i z11, .i z12, .b z13, .c z14, .n z15, .i z16, .i z17, .i z18, .i z19])) F (atB (nth q 0)) (atC (nth q 1)) (atN (nth q 2)) (atI (nth q 3)) (atI (nth q 4)) (atI (nth q 5)) (atI (nth q 6)) (atB (nth q 7)) (atI (nth q 8)) (atB (nth q 9)) (atI (nth q 10)) (atI (nth q 11)) (atI (nth q 12)) (atB (nth q 13)) (atC (nth q 14)) (atN (nth q 15)) (atI (nth q 16)) (atI (nth q 17)) (atI (nth q 18)) (atI (nth q 19))⟩]) (tabJ []) (loopAt PP 10 0) 0) (headOf c_ref37_Within 0) k n (fS T_ref37_Within_0 [.b y0, .c y1, .n y2, .i y3, .i y4, .i y5, .i y6, .b y7, .i y8, .b y9, .i y10, .i y11, .i y12, .b y13, .c y14, .n y15, .i y16, .i y17, .i y18, .i y19])) (fun (z0 : Bool) (z1 : List VV) (z2 : Nat) (z3 : Int) (z4 : Int) (z5 : Int) (z6 : Int) (z7 : Bool) (z8 : Int) (z9 : Bool) (z10 : Int) (z11 : Int) (z12 : Int) (z13 : Bool) (z14 : List VV) (z15 : Nat) (z16 : Int) (z17 : Int) (z18 : Int) (z19 : Int) => k (.exit 0) (fS T_ref37_Within_0_0 [.b z0, .c z1, .n z2, .i z3, .i z4, .i z5, .i z6, .b z7, .i z8, .b z9, .i z10, .i z11, .i z12, .b z13, .c z14, .n z15, .i z16, .i z17, .i z18, .i z19])) x0 x1 x2 x3 x4 x5 x6 x7 x8 x9 x10 x11 x12 x13 x14 x15 x16 x17 x18 x19 := by
      intros
      kernel_rfl
    have h : iterC (codeL PP (S_ref37_Within F) c_ref37_Within (I_ref37_Within F) (J_ref37_Within F) (loopAt PP 10 0) 0) (headOf c_ref37_Within 0) k (n + 1) (fS T_ref37_Within_0 [.b x0, .c x1, .n x2, .i x3, .i x4, .i x5, .i x6, .b x7, .i x8, .b x9, .i x10, .i x11, .i x12, .b x13, .c x14, .n x15, .i x16, .i x17, .i x18, .i x19]) = B_ref37_Within_0 F (fun (y0 : Bool) (y1 : List VV) (y2 : Nat) (y3 : Int) (y4 : Int) (y5 : Int) (y6 : Int) (y7 : Bool) (y8 : Int) (y9 : Bool) (y10 : Int) (y11 : Int) (y12 : Int) (y13 : Bool) (y14 : List VV) (y15 : Nat) (y16 : Int) (y17 : Int) (y18 : Int) (y19 : Int) => iterC (codeL PP (S_ref37_Within F) c_ref37_Within (I_ref37_Within F) (J_ref37_Within F) (loopAt PP 10 0) 0) (headOf c_ref37_Within 0) k n (fS T_ref37_Within_0 [.b y0, .c y1, .n y2, .i y3, .i y4, .i y5, .i y6, .b y7, .i y8, .b y9, .i y10, .i y11, .i y12, .b y13, .c y14, .n y15, .i y16, .i y17, .i y18, .i y19])) (fun (z0 : Bool) (z1 : List VV) (z2 : Nat) (z3 : Int) (z4 : Int) (z5 : Int) (z6 : Int) (z7 : Bool) (z8 : Int) (z9 : Bool) (z10 : Int) (z11 : Int) (z12 : Int) (z13 : Bool) (z14 : List VV) (z15 : Nat) (z16 : Int) (z17 : Int) (z18 : Int) (z19 : Int) => k (.exit 0) (fS T_ref37_Within_0_0 [.b z0, .c z1, .n z2, .i z3, .i z4, .i z5, .i z6, .b z7, .i z8, .b z9, .i z10, .i z11, .i z12, .b z13, .c z14, .n z15, .i z16, .i z17, .i z18, .i z19])) x0 x1 x2 x3 x4 x5 x6 x7 x8 x9 x10 x11 x12 x13 x14 x15 x16 x17 x18 x19 := (h0 ok_ref37_Touches o_ref37_Touches_0 o_ref37_Touches_1 ok_ref37_side o_ref37_side_0 L_ref37_Within_0).trans (by kernel_rfl)
    rw [h]
    simp only [lL_ref37_Within_0 F k n]
    rfl
def f_ref37_Within (F : Nat) (a0 : Bool) (a1 : List VV) (a2 : Nat) (a3 : Int) (a4 : Int) (a5 : Int) (a6 : Int) : R :=
  bif (ok_ref37_Touches F a0 a1 a2 a3 a4 a5 a6 0) then (
    let v844 : Bool := (o_ref37_Touches_0 F a0 a1 a2 a3 a4 a5 a6 0)
    let v845 : Int := (o_ref37_Touches_1 F a0 a1 a2 a3 a4 a5 a6 0)
    bif ((v845 != 0)) then (
      some (.v (.tuple #[.bool v844, .int .i64 v845])))
    else (
      bif v844 then (
        some (.v (.tuple #[.bool v844, .int .i64 v845])))
      else (
        L_ref37_Within_0 F (fun (v897 : Bool) (v898 : List VV) (v899 : Nat) (v900 : Int) (v901 : Int) (v902 : Int) (v903 : Int) (v904 : Bool) (v905 : Int) (v906 : Bool) (v907 : Int) (v908 : Int) (v909 : Int) (v910 : Bool) (v911 : List VV) (v912 : Nat) (v913 : Int) (v914 : Int) (v915 : Int) (v916 : Int) =>
          some (.v (.tuple #[.bool ((((Int.tmod v908 2)) == 1)), .int .i64 0]))) F a0 a1 a2 a3 a4 a5 a6 false 0 v844 v845 0 0 a0 a1 a2 a3 a4 a5 a6)))
  else (
    none)
theorem e_ref37_Within (F : Nat) (a0 : Bool) (a1 : List VV) (a2 : Nat) (a3 : Int) (a4 : Int) (a5 : Int) (a6 : Int) : funL PP (S_ref37_Within F) c_ref37_Within (I_ref37_Within F) (J_ref37_Within F) 10 (fTs ti_ref37_Within [.b a0, .c a1, .n a2, .i a3, .i a4, .i a5, .i a6]).1 = f_ref37_Within F a0 a1 a2 a3 a4 a5 a6 := by
  have h : ∀ (ok_ref37_Touches : Nat → Bool → List VV → Nat → Int → Int → Int → Int → Int → Bool) (o_ref37_Touches_0 : Nat → Bool → List VV → Nat → Int → Int → Int → Int → Int → Bool) (o_ref37_Touches_1 : Nat → Bool → List VV → Nat → Int → Int → Int → Int → Int → Int) (ok_ref37_side : Nat → Int → Int → Int → Int → Int → Int → Bool) (o_ref37_side_0 : Nat → Int → Int → Int → Int → Int → Int → Int) (L_ref37_Within_0 : Nat → (Bool → List VV → Nat → Int → Int → Int → Int → Bool → Int → Bool → Int → Int → Int → Bool → List VV → Nat → Int → Int → Int → Int → R) → Nat → Bool → List VV → Nat → Int → Int → Int → Int → Bool → Int → Bool → Int → Int → Int → Bool → List VV → Nat → Int → Int → Int → Int → R), funL PP (words [(12, spec ti_ref37_Touches to_ref37_Touches (fun q => (ok_ref37_Touches F (atB (nth q 0)) (atC (nth q 1)) (atN (nth q 2)) (atI (nth q 3)) (atI (nth q 4)) (atI (nth q 5)) (atI (nth q 6)) (atI (nth q 7)))) (fun q => [.b (o_ref37_Touches_0 F (atB (nth q 0)) (atC (nth q 1)) (atN (nth q 2)) (atI (nth q 3)) (atI (nth q 4)) (atI (nth q 5)) (atI (nth q 6)) (atI (nth q 7))), .i (o_ref37_Touches_1 F (atB (nth q 0)) (atC (nth q 1)) (atN (nth q 2)) (atI (nth q 3)) (atI (nth q 4)) (atI (nth q 5)) (atI (nth q 6)) (atI (nth q 7)))])), (23, spec ti_ref37_side to_ref37_side (fun q => (ok_ref37_side F (atI (nth q 0)) (atI (nth q 1)) (atI (nth q 2)) (atI (nth q 3)) (atI (nth q 4)) (atI (nth q 5)))) (fun q => [.i (o_ref37_side_0 F (atI (nth q 0)) (atI (nth q 1)) (atI (nth q 2)) (atI (nth q 3)) (atI (nth q 4)) (atI (nth q 5)))]))]) c_ref37_Within (tabI c_ref37_Within [⟨0, T_ref37_Within_0, fun k q => L_ref37_Within_0 F (fun (z0 : Bool) (z1 : List VV) (z2 : Nat) (z3 : Int) (z4 : Int) (z5 : Int) (z6 : Int) (z7 : Bool) (z8 : Int) (z9 : Bool) (z10 : Int) (z11 : Int) (z12 : Int) (z13 : Bool) (z14 : List VV) (z15 : Nat) (z16 : Int) (z17 : Int) (z18 : Int) (z19 : Int) => k (.exit 0) (fS T_ref37_Within_0_0 [.b z0, .c z1, .n z2, .i z3, .i z4, .i z5, .i z6, .b z7, .i z8, .b z9, .i z10, .i z11, .i z12, .b z13, .c z14, .n z15, .i z16, .i z17, .i z18, .i z19])) F (atB (nth q 0)) (atC (nth q 1)) (atN (nth q 2)) (atI (nth q 3)) (atI (nth q 4)) (atI (nth q 5)) (atI (nth q 6)) (atB (nth q 7)) (atI (nth q 8)) (atB (nth q 9)) (atI (nth q 10)) (atI (nth q 11)) (atI (nth q 12)) (atB (nth q 13)) (atC (nth q 14)) (atN (nth q 15)) (atI (nth q 16)) (atI (nth q 17)) (atI (nth q 18)) (atI (nth q 19))⟩]) (tabJ []) 10 (fTs ti_ref37_Within [.b a0, .c a1, .n a2, .i a3, .i a4, .i a5, .i a6]).1 = (
  bif (ok_ref37_Touches F a0 a1 a2 a3 a4 a5 a6 0) then (
    let v844 : Bool := (o_ref37_Touches_0 F a0 a1 a2 a3 a4 a5 a6 0)
    let v845 : Int := (o_ref37_Touches_1 F a0 a1 a2 a3 a4 a5 a6 0)
    bif ((v845 != 0)) then (
      some (.v (.tuple #[.bool v844, .int .i64 v845])))
    else (
      bif v844 then (
        some (.v (.tuple #[.bool v844, .int .i64 v845])))
      else (
        L_ref37_Within_0 F (fun (v897 : Bool) (v898 : List VV) (v899 : Nat) (v900 : Int) (v901 : Int) (v902 : Int) (v903 : Int) (v904 : Bool) (v905 : Int) (v906 : Bool) (v907 : Int) (v908 : Int) (v909 : Int) (v910 : Bool) (v911 : List VV) (v912 : Nat) (v913 : Int) (v914 : Int) (v915 : Int) (v916 : Int) =>
          some (.v (.tuple #[.bool ((((Int.tmod v908 2)) == 1)), .int .i64 0]))) F a0 a1 a2 a3 a4 a5 a6 false 0 v844 v845 0 0 a0 a1 a2 a3 a4 a5 a6)))
  else (
    none) : R) := by
    intros
    kernel_rfl
  exact (h ok_ref37_Touches o_ref37_Touches_0 o_ref37_Touches_1 ok_ref37_side o_ref37_side_0 L_ref37_Within_0).trans (by kernel_rfl)
def ok_ref37_Within (F : Nat) (a0 : Bool) (a1 : List VV) (a2 : Nat) (a3 : Int) (a4 : Int) (a5 : Int) (a6 : Int) : Bool := okT to_ref37_Within (f_ref37_Within F a0 a1 a2 a3 a4 a5 a6)
def o_ref37_Within_0 (F : Nat) (a0 : Bool) (a1 : List VV) (a2 : Nat) (a3 : Int) (a4 : Int) (a5 : Int) (a6 : Int) : Bool := atB (nth (outT to_ref37_Within (f_ref37_Within F a0 a1 a2 a3 a4 a5 a6)) 0)
def o_ref37_Within_1 (F : Nat) (a0 : Bool) (a1 : List VV) (a2 : Nat) (a3 : Int) (a4 : Int) (a5 : Int) (a6 : Int) : Int := atI (nth (outT to_ref37_Within (f_ref37_Within F a0 a1 a2 a3 a4 a5 a6)) 1)
theorem k_ref37_Within (F : Nat) (a0 : Bool) (a1 : List VV) (a2 : Nat) (a3 : Int) (a4 : Int) (a5 : Int) (a6 : Int) {z0 : Bool} {z1 : Int} (h : f_ref37_Within F a0 a1 a2 a3 a4 a5 a6 = some (.v (.tuple #[.bool z0, .int .i64 z1]))) : ok_ref37_Within F a0 a1 a2 a3 a4 a5 a6 = true ∧ o_ref37_Within_0 F a0 a1 a2 a3 a4 a5 a6 = z0 ∧ o_ref37_Within_1 F a0 a1 a2 a3 a4 a5 a6 = z1 := by
  refine ⟨?_, ?_, ?_⟩
  · unfold ok_ref37_Within; rw [h]; kernel_rfl
  · unfold o_ref37_Within_0; rw [h]; kernel_rfl
  · unfold o_ref37_Within_1; rw [h]; kernel_rfl
def s_ref37_Within (F : Nat) : List VV → Option (Bool × VV) := spec ti_ref37_Within to_ref37_Within (fun q => (ok_ref37_Within F (atB (nth q 0)) (atC (nth q 1)) (atN (nth q 2)) (atI (nth q 3)) (atI (nth q 4)) (atI (nth q 5)) (atI (nth q 6)))) (fun q => [.b (o_ref37_Within_0 F (atB (nth q 0)) (atC (nth q 1)) (atN (nth q 2)) (atI (nth q 3)) (atI (nth q 4)) (atI (nth q 5)) (atI (nth q 6))), .i (o_ref37_Within_1 F (atB (nth q 0)) (atC (nth q 1)) (atN (nth q 2)) (atI (nth q 3)) (atI (nth q 4)) (atI (nth q 5)) (atI (nth q 6)))])
theorem hS_ref37_Within (F : Nat) : ∀ f, Good PP f (unS (S_ref37_Within F f)) := words_good fun p hp => by
  simp only [List.mem_cons, List.not_mem_nil, or_false] at hp
  rcases hp with rfl | rfl
  · exact g_ref37_Touches F
  · exact g_ref37_side F
theorem hl_ref37_Within (F : Nat) : ∀ p ∈ loopsIn PP 10, LoopOK PP (S_ref37_Within F) c_ref37_Within F (I_ref37_Within F) (J_ref37_Within F) p :=
  loops_of [(0, loopAt PP 10 0)] (by kernel_rfl) (all_cons
    (loop_ok (W_ref37_Within F) rfl (tab_cons (fun _ k q => Le.ofEq ((lL_ref37_Within_0 F k F (atB (nth q 0)) (atC (nth q 1)) (atN (nth q 2)) (atI (nth q 3)) (atI (nth q 4)) (atI (nth q 5)) (atI (nth q 6)) (atB (nth q 7)) (atI (nth q 8)) (atB (nth q 9)) (atI (nth q 10)) (atI (nth q 11)) (atI (nth q 12)) (atB (nth q 13)) (atC (nth q 14)) (atN (nth q 15)) (atI (nth q 16)) (atI (nth q 17)) (atI (nth q 18)) (atI (nth q 19))).symm.trans (congrArg (iterC (codeL PP (S_ref37_Within F) c_ref37_Within (I_ref37_Within F) (J_ref37_Within F) (loopAt PP 10 0) 0) (headOf c_ref37_Within 0) k F) (show fS T_ref37_Within_0 [.b (atB (nth q 0)), .c (atC (nth q 1)), .n (atN (nth q 2)), .i (atI (nth q 3)), .i (atI (nth q 4)), .i (atI (nth q 5)), .i (atI (nth q 6)), .b (atB (nth q 7)), .i (atI (nth q 8)), .b (atB (nth q 9)), .i (atI (nth q 10)), .i (atI (nth q 11)), .i (atI (nth q 12)), .b (atB (nth q 13)), .c (atC (nth q 14)), .n (atN (nth q 15)), .i (atI (nth q 16)), .i (atI (nth q 17)), .i (atI (nth q 18)), .i (atI (nth q 19))] = fS T_ref37_Within_0 q by kernel_rfl)))) tab_nil)) all_nil)
theorem hj_ref37_Within (F : Nat) : ∀ p ∈ joinsIn PP c_ref37_Within 10, JoinOK PP (S_ref37_Within F) c_ref37_Within (I_ref37_Within F) (J_ref37_Within F) p :=
  joins_of [] (by kernel_rfl) all_nil
theorem g_ref37_Within (F : Nat) : Good PP 10 (unS (s_ref37_Within F)) :=
  fun_spec (hS_ref37_Within F) (by kernel_rfl) (by kernel_rfl) (C := c_ref37_Within) (F := fun q => (f_ref37_Within F (atB (nth q 0)) (atC (nth q 1)) (atN (nth q 2)) (atI (nth q 3)) (atI (nth q 4)) (atI (nth q 5)) (atI (nth q 6)))) (fun _ => F) (fun _ => I_ref37_Within F) (fun _ => J_ref37_Within F) (fun _ => hl_ref37_Within F) (fun _ => hj_ref37_Within F)
    (fun q => (congrArg (funL PP (S_ref37_Within F) c_ref37_Within (I_ref37_Within F) (J_ref37_Within F) 10) (show (fTs ti_ref37_Within q).1 = (fTs ti_ref37_Within [.b (atB (nth q 0)), .c (atC (nth q 1)), .n (atN (nth q 2)), .i (atI (nth q 3)), .i (atI (nth q 4)), .i (atI (nth q 5)), .i (atI (nth q 6))]).1 by kernel_rfl)).trans (e_ref37_Within F (atB (nth q 0)) (atC (nth q 1)) (atN (nth q 2)) (atI (nth q 3)) (atI (nth q 4)) (atI (nth q 5)) (atI (nth q 6))))
    (fun _ h => okT_fill' h (by kernel_rfl))

end Go.Xv
namespace Go.Xv

def cellsP : List Pt → List VV
  | [] => []
  | p :: r => .v (.int .i64 p.1) :: .v (.int .i64 p.2) :: cellsP r
theorem cellsP_get : ∀ (zs : List Pt) (k : Nat), k < zs.length → (cellsP zs)[k * 2]? = some (.v (.int .i64 (at0 zs k).1)) ∧ (cellsP zs)[k * 2 + 1]? = some (.v (.int .i64 (at0 zs k).2))
  | [], k, h => by simp at h
  | p :: r, 0, _ => by simp [cellsP, at0]
  | p :: r, k + 1, h => by
    have := cellsP_get r k (by simpa using h)
    rw [show (k + 1) * 2 = k * 2 + 2 by omega, show k * 2 + 2 + 1 = k * 2 + 1 + 2 by omega]
    simpa [cellsP, at0] using this
theorem cellsP_len : ∀ (zs : List Pt), (cellsP zs).length = zs.length * 2
  | [] => rfl
  | _ :: r => by have := cellsP_len r; simp [cellsP, this]; omega
theorem nextE' {n i : Nat} : Int.tmod (((i + 1 : Nat) : Int)) ((n : Nat) : Int) = (((i + 1) % n : Nat) : Int) := by
  rw [Int.tmod_eq_emod_of_nonneg (by omega)]; simp
/-- whether a zone's corner may be: a point, and not the next one. -/
def cornB (zs : List Pt) (k : Nat) : Bool := rightB (at0 zs k) && !decide (at0 zs k = at0 zs ((k + 1) % zs.length))
def checkB (zs : List Pt) (fl rf : Int) : Bool := decide (3 ≤ zs.length) && decide (zs.length ≤ 16) && decide (fl ≤ rf) && allN (cornB zs) 0 zs.length
structure Sound (zs : List Pt) : Prop where
  lo : 3 ≤ zs.length
  hi : zs.length ≤ 16
  ok : ∀ k, OkP (at0 zs k)
  ne : ∀ k, k < zs.length → at0 zs k ≠ at0 zs ((k + 1) % zs.length)
theorem checkB_sound {zs : List Pt} {fl rf : Int} (h : checkB zs fl rf = true) : Sound zs ∧ fl ≤ rf := by
  unfold checkB at h
  simp only [Bool.and_eq_true, decide_eq_true_eq, allN_iff] at h
  obtain ⟨⟨⟨h1, h2⟩, h3⟩, h4⟩ := h
  refine ⟨⟨h1, h2, fun k => ?_, fun k hk => ?_⟩, h3⟩
  · by_cases hk : k < zs.length
    · have := h4 k (by omega) (by omega)
      simp only [cornB, Bool.and_eq_true] at this
      exact rightB_iff.1 this.1
    · have : at0 zs k = (0, 0) := by simp [at0, List.getElem?_eq_none (Nat.le_of_not_lt hk)]
      rw [this]
      exact ⟨by decide, by decide, by decide, by decide⟩
  · have := h4 k (by omega) (by omega)
    simp only [cornB, Bool.and_eq_true, Bool.not_eq_true', decide_eq_false_iff_not] at this
    exact this.2
theorem checkB_of {zs : List Pt} {fl rf : Int} (h : Sound zs) (hf : fl ≤ rf) : checkB zs fl rf = true := by
  unfold checkB
  simp only [Bool.and_eq_true, decide_eq_true_eq, allN_iff]
  exact ⟨⟨⟨h.lo, h.hi⟩, hf⟩, fun k _ hk => by simp only [cornB, Bool.and_eq_true, Bool.not_eq_true', decide_eq_false_iff_not]; exact ⟨rightB_iff.2 (h.ok k), h.ne k (by omega)⟩⟩

theorem ptEq (p q : Pt) : ((p.1 == q.1) && (p.2 == q.2)) = decide (p = q) := by
  by_cases h : p = q
  · subst h; simp
  · rw [df h]
    cases h1 : p.1 == q.1 with
    | false => rfl
    | true =>
      cases h2 : p.2 == q.2 with
      | false => rfl
      | true => exact absurd (Prod.ext (by simpa using h1) (by simpa using h2)) h

theorem lp_rCheck (F : Nat) (ex0) (ex1) (zs : List Pt) (hb : zs.length ≤ 1000) (x0 x7 : Bool) (x1 : List VV) (x2 : Nat) (x3 x4 x5 x10 x11 : Int) (r0 : R) (he : ∀ i, ex0 x0 x1 x2 x3 x4 2 i x7 (cellsP zs) zs.length x10 x11 = r0) :
    ∀ (k n i : Nat), i + k = zs.length → k < n → L_ref37_Check_0 F ex0 ex1 n x0 x1 x2 x3 x4 x5 (i : Int) x7 (cellsP zs) zs.length x10 x11 =
      bif allN (cornB zs) i k then ex1 x0 x1 x2 x3 x4 x5 (zs.length : Int) x7 (cellsP zs) zs.length x10 x11 else r0
  | _, 0, _, _, h => by omega
  | 0, n + 1, i, hi, _ => by
    rw [L_ref37_Check_0, B_ref37_Check_0]
    obtain rfl : i = zs.length := by omega
    refine bn (df (by omega)) ?_
    rfl
  | k + 1, n + 1, i, hi, hk => by
    rw [L_ref37_Check_0, B_ref37_Check_0]
    have hlt : i < zs.length := by omega
    have hlt2 : (i + 1) % zs.length < zs.length := Nat.mod_lt _ (by omega)
    obtain ⟨g1, g2⟩ := cellsP_get zs i hlt
    obtain ⟨g3, g4⟩ := cellsP_get zs ((i + 1) % zs.length) hlt2
    obtain ⟨r1, r2⟩ := a_rpoint F (at0 zs i).1 (at0 zs i).2
    have ih := lp_rCheck F ex0 ex1 zs hb x0 x7 x1 x2 x3 x4 x5 x10 x11 r0 he k n (i + 1) (by omega) (by omega)
    simp only [nextE', Int.toNat_natCast, Nat.zero_add, g1, g2, g3, g4, isI, iv, decide_true, Bool.and_true, r1, r2, ptEq, dt (show (0 : Int) ≤ (i : Int) by omega), dt (show (i : Int) < (zs.length : Int) by omega),
      dt (show (0 : Int) ≤ (((i + 1) % zs.length : Nat) : Int) by omega), dt (show (((i + 1) % zs.length : Nat) : Int) < (zs.length : Int) by omega), df (show ¬ (zs.length : Int) = 0 by omega), Bool.and_self, Bool.not_false, cond_true, wi64_s i (show i < 1000 by omega)]
    rw [allN, cornB]
    cases hr : rightB (at0 zs i) with
    | false => exact he i
    | true =>
      cases hd : decide (at0 zs i = at0 zs ((i + 1) % zs.length)) with
      | true => exact he i
      | false => exact ih

theorem f_rCheck (F : Nat) (hF : 200 ≤ F) (kp : Bool) (zs : List Pt) (hb : zs.length ≤ 20) (fl rf : Int) :
    f_ref37_Check F kp (cellsP zs) zs.length fl rf = some (.v (.int .i64 (bif checkB zs fl rf then 0 else 2))) := by
  unfold f_ref37_Check checkB
  by_cases h1 : zs.length < 3
  · rw [dt (by omega), df (show ¬ 3 ≤ zs.length by omega)]; rfl
  rw [df (by omega), dt (show 3 ≤ zs.length by omega), cond_false]
  by_cases h2 : zs.length > 16
  · rw [dt (by omega), df (show ¬ zs.length ≤ 16 by omega)]; rfl
  rw [df (by omega), dt (show zs.length ≤ 16 by omega), cond_false]
  by_cases h3 : rf < fl
  · rw [dt h3, df (show ¬ fl ≤ rf by omega)]; rfl
  rw [df h3, dt (show fl ≤ rf by omega), cond_false]
  have := lp_rCheck F (fun (v387 : Bool) (v388 : List VV) (v389 : Nat) (v390 : Int) (v391 : Int) (v392 : Int) (v393 : Int) (v394 : Bool) (v395 : List VV) (v396 : Nat) (v397 : Int) (v398 : Int) =>
          some (.v (.int .i64 v392))) (fun (v399 : Bool) (v400 : List VV) (v401 : Nat) (v402 : Int) (v403 : Int) (v404 : Int) (v405 : Int) (v406 : Bool) (v407 : List VV) (v408 : Nat) (v409 : Int) (v410 : Int) =>
          some (.v (.int .i64 0))) zs (by omega) kp kp (cellsP zs) zs.length fl rf 0 fl rf (some (.v (.int .i64 2))) (fun _ => rfl) zs.length F 0 (by omega) (by omega)
  rw [show ((0 : Nat) : Int) = 0 from rfl] at this
  rw [this]
  cases allN (cornB zs) 0 zs.length <;> rfl
theorem a_rCheck (F : Nat) (hF : 200 ≤ F) (kp : Bool) (zs : List Pt) (hb : zs.length ≤ 20) (fl rf : Int) :
    ok_ref37_Check F kp (cellsP zs) zs.length fl rf = true ∧ o_ref37_Check_0 F kp (cellsP zs) zs.length fl rf = bif checkB zs fl rf then 0 else 2 := k_ref37_Check F _ _ _ _ _ (f_rCheck F hF kp zs hb fl rf)
end Go.Xv
namespace Go.Xv

def touchesB (zs : List Pt) (p : Pt) (r : Int) : Bool := anyN (fun k => touchB (edge zs k).1 (edge zs k).2 p r) 0 zs.length
def mayB (zs : List Pt) (fl rf : Int) (p : Pt) (r : Int) : Bool := checkB zs fl rf && rightB p && (decide (0 ≤ r) && decide (r ≤ 1152921504606846976))
theorem mayB_sound {zs : List Pt} {fl rf : Int} {p : Pt} {r : Int} (h : mayB zs fl rf p r = true) : Sound zs ∧ fl ≤ rf ∧ OkP p ∧ OkR r := by
  unfold mayB at h
  simp only [Bool.and_eq_true, decide_eq_true_eq] at h
  obtain ⟨⟨h1, h2⟩, h3, h4⟩ := h
  obtain ⟨k1, k2⟩ := checkB_sound h1
  exact ⟨k1, k2, rightB_iff.1 h2, ⟨h3, h4⟩⟩
theorem mayB_of {zs : List Pt} {fl rf : Int} {p : Pt} {r : Int} (h : Sound zs) (hf : fl ≤ rf) (hp : OkP p) (hr : OkR r) : mayB zs fl rf p r = true := by
  unfold mayB
  rw [checkB_of h hf, rightB_iff.2 hp, dt hr.a, dt hr.b]
  rfl
/-- an edge crosses the ray. -/
def crossB (a b p : Pt) : Bool := (decide (a.2 > p.2) != decide (b.2 > p.2)) && (decide (0 < cross a b p) == decide (b.2 > p.2))
def rcrossB (a b p : Pt) : Bool := if a.2 > b.2 then decide (b.2 ≤ p.2) && decide (a.2 > p.2) && decide (0 < cross b a p) else decide (a.2 ≤ p.2) && decide (b.2 > p.2) && decide (0 < cross a b p)
def withinB (zs : List Pt) (p : Pt) : Bool := touchesB zs p 0 || decide (cntN (fun k => crossB (edge zs k).1 (edge zs k).2 p) 0 zs.length % 2 = 1)

theorem cross_swap (a b p : Pt) : cross b a p = -cross a b p := by unfold cross; grind
/-- a point of which an edge goes by the height, and that is on its line, is on it. -/
theorem on_line {D t u v : Int} (h : D * u = t * v) (hD : 0 < D) (ht : 0 ≤ t) (htD : t ≤ D) : (0 ≤ u ∧ u ≤ v) ∨ (v ≤ u ∧ u ≤ 0) := by
  rcases Int.le_total 0 v with hv | hv
  · left
    have h1 : 0 ≤ t * v := Int.mul_nonneg ht hv
    have h2 : t * v ≤ D * v := Int.mul_le_mul_of_nonneg_right htD hv
    constructor
    · rcases Int.lt_or_le u 0 with hu | hu
      · have := Int.mul_neg_of_pos_of_neg hD hu; omega
      · exact hu
    · exact Int.le_of_mul_le_mul_left (by omega : D * u ≤ D * v) hD
  · right
    have h1 : t * v ≤ 0 := Int.mul_nonpos_of_nonneg_of_nonpos ht hv
    have h2 : D * v ≤ t * v := Int.mul_le_mul_of_nonpos_right htD hv
    constructor
    · exact Int.le_of_mul_le_mul_left (by omega : D * v ≤ D * u) hD
    · rcases Int.lt_or_le 0 u with hu | hu
      · have := Int.mul_pos hD hu; omega
      · exact hu
theorem touch0 (a b p : Pt) : touchB a b p 0 = (!apB a.1 b.1 p.1 p.1 && !apB a.2 b.2 p.2 p.2 && decide (cross a b p = 0)) := by
  unfold touchB posB negB
  simp only [cnr, Int.sub_zero, Int.add_zero]
  have : (!decide (0 < cross a b (p.1, p.2)) && !decide (cross a b (p.1, p.2) < 0)) = decide (cross a b p = 0) := by
    show (!decide (0 < cross a b p) && !decide (cross a b p < 0)) = decide (cross a b p = 0)
    rw [Bool.eq_iff_iff]
    simp only [Bool.and_eq_true, Bool.not_eq_true', decide_eq_false_iff_not, decide_eq_true_eq]
    omega
  rw [← this]
  simp only [Bool.and_self, Bool.and_assoc]
theorem apB_false {x y l h : Int} : apB x y l h = false ↔ ¬ (x < l ∧ y < l) ∧ ¬ (h < x ∧ h < y) := by
  unfold apB
  rw [Bool.or_eq_false_iff, Bool.and_eq_false_iff, Bool.and_eq_false_iff]
  simp only [decide_eq_false_iff_not]
  omega
/-- where an edge goes by a point's height, and the point is on its line, it is on it. -/
theorem on_edge {a b p : Pt} (h : cross a b p = 0) (h1 : (a.2 ≤ p.2 ∧ p.2 < b.2) ∨ (b.2 ≤ p.2 ∧ p.2 < a.2)) : touchB a b p 0 = true := by
  rw [touch0, dt h]
  have hy : apB a.2 b.2 p.2 p.2 = false := apB_false.2 (by omega)
  have hx : apB a.1 b.1 p.1 p.1 = false := by
    rw [apB_false]
    unfold cross at h
    rcases h1 with h1 | h1
    · have := on_line (D := b.2 - a.2) (t := p.2 - a.2) (u := p.1 - a.1) (v := b.1 - a.1) (by rw [Int.mul_comm (p.2 - a.2)]; omega) (by omega) (by omega) (by omega)
      omega
    · have := on_line (D := a.2 - b.2) (t := a.2 - p.2) (u := p.1 - a.1) (v := b.1 - a.1) (by grind) (by omega) (by omega) (by omega)
      omega
  rw [hx, hy]; rfl
theorem rcross_eq {a b p : Pt} (h : touchB a b p 0 = false) : rcrossB a b p = crossB a b p := by
  have hne : ∀ _ : (a.2 ≤ p.2 ∧ p.2 < b.2) ∨ (b.2 ≤ p.2 ∧ p.2 < a.2), cross a b p ≠ 0 := fun h1 h0 => by rw [on_edge h0 h1] at h; cases h
  unfold rcrossB crossB
  rw [cross_swap a b p]
  generalize cross a b p = c at *
  by_cases h1 : a.2 > p.2 <;> by_cases h2 : b.2 > p.2
  · rw [dt h1, dt h2, df (show ¬ b.2 ≤ p.2 by omega), df (show ¬ a.2 ≤ p.2 by omega)]
    split <;> rfl
  · have hc := hne (.inr (by omega))
    rw [if_pos (by omega), dt h1, df h2, dt (show b.2 ≤ p.2 by omega)]
    by_cases h3 : 0 < c
    · rw [dt h3, df (by omega)]; rfl
    · rw [df h3, dt (by omega)]; rfl
  · have hc := hne (.inl (by omega))
    rw [if_neg (by omega), df h1, dt h2, dt (show a.2 ≤ p.2 by omega)]
    by_cases h3 : 0 < c
    · rw [dt h3]; rfl
    · rw [df h3]; rfl
  · rw [df h1, df h2]
    split <;> simp

theorem lp_rTouches (F : Nat) (hF : 200 ≤ F) (ex0) (ex1) (zs : List Pt) (hz : Sound zs) (p : Pt) (hp : OkP p) (r : Int) (hr : OkR r) (x0 x8 x11 : Bool) (x1 : List VV) (x2 : Nat) (x3 x4 x5 x6 x9 x14 x15 : Int) (r0 : R)
    (he : ∀ i, ex0 x0 x1 x2 x3 x4 x5 x6 r true 0 i x11 (cellsP zs) zs.length x14 x15 p.1 p.2 = r0) :
    ∀ (k n i : Nat), i + k = zs.length → k < n → L_ref37_Touches_0 F ex0 ex1 n x0 x1 x2 x3 x4 x5 x6 r x8 x9 (i : Int) x11 (cellsP zs) zs.length x14 x15 p.1 p.2 =
      bif anyN (fun k => touchB (edge zs k).1 (edge zs k).2 p r) i k then r0 else ex1 x0 x1 x2 x3 x4 x5 x6 r x8 x9 (zs.length : Int) x11 (cellsP zs) zs.length x14 x15 p.1 p.2
  | _, 0, _, _, h => by omega
  | 0, n + 1, i, hi, _ => by
    rw [L_ref37_Touches_0, B_ref37_Touches_0]
    obtain rfl : i = zs.length := by omega
    refine bn (df (by omega)) ?_
    rfl
  | k + 1, n + 1, i, hi, hk => by
    rw [L_ref37_Touches_0, B_ref37_Touches_0]
    have hb := hz.hi
    have hlt : i < zs.length := by omega
    have hlt2 : (i + 1) % zs.length < zs.length := Nat.mod_lt _ (by omega)
    obtain ⟨g1, g2⟩ := cellsP_get zs i hlt
    obtain ⟨g3, g4⟩ := cellsP_get zs ((i + 1) % zs.length) hlt2
    obtain ⟨r1, r2⟩ := a_rtouch F hF hp hr (hz.ok i) (hz.ok ((i + 1) % zs.length))
    have ih := lp_rTouches F hF ex0 ex1 zs hz p hp r hr x0 x8 x11 x1 x2 x3 x4 x5 x6 x9 x14 x15 r0 he k n (i + 1) (by omega) (by omega)
    simp only [nextE', Int.toNat_natCast, Nat.zero_add, g1, g2, g3, g4, isI, iv, decide_true, Bool.and_true, r1, r2, dt (show (0 : Int) ≤ (i : Int) by omega), dt (show (i : Int) < (zs.length : Int) by omega),
      dt (show (0 : Int) ≤ (((i + 1) % zs.length : Nat) : Int) by omega), dt (show (((i + 1) % zs.length : Nat) : Int) < (zs.length : Int) by omega), df (show ¬ (zs.length : Int) = 0 by omega), Bool.and_self, Bool.not_false, cond_true, wi64_s i (show i < 1000 by omega)]
    rw [anyN]
    show _ = bif touchB (at0 zs i) (at0 zs ((i + 1) % zs.length)) p r || _ then _ else _
    cases hr : touchB (at0 zs i) (at0 zs ((i + 1) % zs.length)) p r with
    | true => exact he i
    | false => exact ih

theorem f_rTouches (F : Nat) (hF : 200 ≤ F) (kp : Bool) (zs : List Pt) (hb : zs.length ≤ 20) (fl rf : Int) (p : Pt) (r : Int) :
    f_ref37_Touches F kp (cellsP zs) zs.length fl rf p.1 p.2 r = some (.v (.tuple #[.bool (mayB zs fl rf p r && touchesB zs p r), .int .i64 (bif mayB zs fl rf p r then 0 else 2)])) := by
  obtain ⟨k1, k2⟩ := a_rCheck F hF kp zs hb fl rf
  obtain ⟨r1, r2⟩ := a_rpoint F p.1 p.2
  unfold f_ref37_Touches
  refine bp k1 ?_
  rw [k2, r2]
  cases hc : checkB zs fl rf with
  | false => rw [show mayB zs fl rf p r = false by unfold mayB; rw [hc]; rfl]; rfl
  | true =>
    refine (bn (by rfl) (bp r1 ?_))
    cases hp : rightB (p.1, p.2) with
    | false => rw [show mayB zs fl rf p r = false by unfold mayB; rw [hc, show rightB p = false from hp]; rfl]; rfl
    | true =>
      rw [Bool.not_true, cond_false]
      by_cases h0 : r < 0
      · rw [dt h0, show mayB zs fl rf p r = false by unfold mayB; rw [df (show ¬ 0 ≤ r by omega)]; simp]; rfl
      rw [df h0, cond_false]
      by_cases h1 : r > 1152921504606846976
      · rw [dt h1, show mayB zs fl rf p r = false by unfold mayB; rw [df (show ¬ r ≤ 1152921504606846976 by omega)]; simp]; rfl
      rw [df h1, cond_false]
      obtain ⟨z1, z2⟩ := checkB_sound hc
      have hm : mayB zs fl rf p r = true := mayB_of z1 z2 (rightB_iff.1 hp) ⟨by omega, by omega⟩
      have := lp_rTouches F hF (fun (v808 : Bool) (v809 : List VV) (v810 : Nat) (v811 : Int) (v812 : Int) (v813 : Int) (v814 : Int) (v815 : Int) (v816 : Bool) (v817 : Int) (v818 : Int) (v819 : Bool) (v820 : List VV) (v821 : Nat) (v822 : Int) (v823 : Int) (v824 : Int) (v825 : Int) =>
                some (.v (.tuple #[.bool v816, .int .i64 v817]))) (fun (v826 : Bool) (v827 : List VV) (v828 : Nat) (v829 : Int) (v830 : Int) (v831 : Int) (v832 : Int) (v833 : Int) (v834 : Bool) (v835 : Int) (v836 : Int) (v837 : Bool) (v838 : List VV) (v839 : Nat) (v840 : Int) (v841 : Int) (v842 : Int) (v843 : Int) =>
                some (.v (.tuple #[.bool false, .int .i64 0]))) zs z1 p (rightB_iff.1 hp) r ⟨by omega, by omega⟩ kp false kp (cellsP zs) zs.length fl rf p.1 p.2 0 fl rf _ (fun _ => rfl) zs.length F 0 (by omega) (by omega)
      rw [show ((0 : Nat) : Int) = 0 from rfl] at this
      rw [this, hm]
      unfold touchesB
      cases anyN (fun k => touchB (edge zs k).1 (edge zs k).2 p r) 0 zs.length <;> rfl
theorem a_rTouches (F : Nat) (hF : 200 ≤ F) (kp : Bool) (zs : List Pt) (hb : zs.length ≤ 20) (fl rf : Int) (p : Pt) (r : Int) :
    ok_ref37_Touches F kp (cellsP zs) zs.length fl rf p.1 p.2 r = true ∧ o_ref37_Touches_0 F kp (cellsP zs) zs.length fl rf p.1 p.2 r = (mayB zs fl rf p r && touchesB zs p r) ∧ o_ref37_Touches_1 F kp (cellsP zs) zs.length fl rf p.1 p.2 r = (bif mayB zs fl rf p r then 0 else 2) :=
  k_ref37_Touches F _ _ _ _ _ _ _ _ (f_rTouches F hF kp zs hb fl rf p r)

theorem lp_rWithin (F : Nat) (hF : 200 ≤ F) (ex0) (zs : List Pt) (hz : Sound zs) (p : Pt) (hp : OkP p) (x0 x7 x9 x13 : Bool) (x1 : List VV) (x2 : Nat) (x3 x4 x5 x6 x8 x10 x16 x17 : Int) :
    ∀ (k n i c : Nat), i + k = zs.length → k < n → c + k ≤ 1000 → L_ref37_Within_0 F ex0 n x0 x1 x2 x3 x4 x5 x6 x7 x8 x9 x10 (c : Int) (i : Int) x13 (cellsP zs) zs.length x16 x17 p.1 p.2 =
      ex0 x0 x1 x2 x3 x4 x5 x6 x7 x8 x9 x10 ((c + cntN (fun k => rcrossB (edge zs k).1 (edge zs k).2 p) i k : Nat) : Int) (zs.length : Int) x13 (cellsP zs) zs.length x16 x17 p.1 p.2
  | _, 0, _, _, _, h, _ => by omega
  | 0, n + 1, i, c, hi, _, _ => by
    rw [L_ref37_Within_0, B_ref37_Within_0]
    obtain rfl : i = zs.length := by omega
    refine bn (df (by omega)) ?_
    rfl
  | k + 1, n + 1, i, c, hi, hk, hc => by
    rw [L_ref37_Within_0, B_ref37_Within_0]
    have hb := hz.hi
    have hlt : i < zs.length := by omega
    have hlt2 : (i + 1) % zs.length < zs.length := Nat.mod_lt _ (by omega)
    obtain ⟨g1, g2⟩ := cellsP_get zs i hlt
    obtain ⟨g3, g4⟩ := cellsP_get zs ((i + 1) % zs.length) hlt2
    obtain ⟨r1, r2⟩ := a_rside F hF (hz.ok i) (hz.ok ((i + 1) % zs.length)) hp.near
    obtain ⟨s1, s2⟩ := a_rside F hF (hz.ok ((i + 1) % zs.length)) (hz.ok i) hp.near
    have ih0 := lp_rWithin F hF ex0 zs hz p hp x0 x7 x9 x13 x1 x2 x3 x4 x5 x6 x8 x10 x16 x17 k n (i + 1) c (by omega) (by omega) (by omega)
    have ih1 := lp_rWithin F hF ex0 zs hz p hp x0 x7 x9 x13 x1 x2 x3 x4 x5 x6 x8 x10 x16 x17 k n (i + 1) (c + 1) (by omega) (by omega) (by omega)
    have sp : ∀ x, decide (sgn x > 0) = decide (0 < x) := fun x => by
      rw [Bool.eq_iff_iff, decide_eq_true_eq, decide_eq_true_eq, ← sgn_pos]
      have := sgn_bd x
      omega
    simp only [nextE', Int.toNat_natCast, Nat.zero_add, g1, g2, g3, g4, isI, iv, decide_true, Bool.and_true, r1, r2, s1, s2, sp, dt (show (0 : Int) ≤ (i : Int) by omega), dt (show (i : Int) < (zs.length : Int) by omega),
      dt (show (0 : Int) ≤ (((i + 1) % zs.length : Nat) : Int) by omega), dt (show (((i + 1) % zs.length : Nat) : Int) < (zs.length : Int) by omega), df (show ¬ (zs.length : Int) = 0 by omega), Bool.and_self, Bool.not_false, cond_true, wi64_s i (show i < 1000 by omega), wi64_s c (show c < 1000 by omega)]
    rw [cntN]
    rw [show c + ((if rcrossB (edge zs i).1 (edge zs i).2 p then 1 else 0) + cntN (fun k => rcrossB (edge zs k).1 (edge zs k).2 p) (i + 1) k) = (if rcrossB (edge zs i).1 (edge zs i).2 p then c + 1 else c) + cntN (fun k => rcrossB (edge zs k).1 (edge zs k).2 p) (i + 1) k by split <;> omega]
    have key : ∀ (q : R), (rcrossB (edge zs i).1 (edge zs i).2 p = true → q = L_ref37_Within_0 F ex0 n x0 x1 x2 x3 x4 x5 x6 x7 x8 x9 x10 ((c + 1 : Nat) : Int) ((i + 1 : Nat) : Int) x13 (cellsP zs) zs.length x16 x17 p.1 p.2) →
        (rcrossB (edge zs i).1 (edge zs i).2 p = false → q = L_ref37_Within_0 F ex0 n x0 x1 x2 x3 x4 x5 x6 x7 x8 x9 x10 (c : Int) ((i + 1 : Nat) : Int) x13 (cellsP zs) zs.length x16 x17 p.1 p.2) →
        q = ex0 x0 x1 x2 x3 x4 x5 x6 x7 x8 x9 x10 (((if rcrossB (edge zs i).1 (edge zs i).2 p then c + 1 else c) + cntN (fun k => rcrossB (edge zs k).1 (edge zs k).2 p) (i + 1) k : Nat) : Int) (zs.length : Int) x13 (cellsP zs) zs.length x16 x17 p.1 p.2 := by
      intro q h1 h2
      cases hr : rcrossB (edge zs i).1 (edge zs i).2 p with
      | true => rw [h1 hr, ih1]; rfl
      | false => rw [h2 hr, ih0]; rfl
    refine key _ ?_ ?_
    all_goals
      unfold rcrossB edge
      simp only
      by_cases h1 : (at0 zs i).2 > (at0 zs ((i + 1) % zs.length)).2
      · rw [if_pos h1, dt h1, cond_true]
        cases decide ((at0 zs ((i + 1) % zs.length)).2 ≤ p.2) <;> cases decide ((at0 zs i).2 > p.2) <;> cases decide (0 < cross (at0 zs ((i + 1) % zs.length)) (at0 zs i) p) <;> intro h <;> first | rfl | cases h
      · rw [if_neg h1, df h1, cond_false]
        cases decide ((at0 zs i).2 ≤ p.2) <;> cases decide ((at0 zs ((i + 1) % zs.length)).2 > p.2) <;> cases decide (0 < cross (at0 zs i) (at0 zs ((i + 1) % zs.length)) p) <;> intro h <;> first | rfl | cases h

theorem f_rWithin (F : Nat) (hF : 200 ≤ F) (kp : Bool) (zs : List Pt) (hb : zs.length ≤ 20) (fl rf : Int) (p : Pt) :
    f_ref37_Within F kp (cellsP zs) zs.length fl rf p.1 p.2 = some (.v (.tuple #[.bool (mayB zs fl rf p 0 && withinB zs p), .int .i64 (bif mayB zs fl rf p 0 then 0 else 2)])) := by
  obtain ⟨k1, k2, k3⟩ := a_rTouches F hF kp zs hb fl rf p 0
  unfold f_ref37_Within
  refine bp k1 ?_
  simp only [k2, k3]
  cases hm : mayB zs fl rf p 0 with
  | false => rfl
  | true =>
    obtain ⟨z1, z2, z3, z4⟩ := mayB_sound hm
    unfold withinB
    refine bn (by rfl) ?_
    cases ht : touchesB zs p 0 with
    | true => rfl
    | false =>
      have hl := z1.hi
      have := lp_rWithin F hF (fun (v897 : Bool) (v898 : List VV) (v899 : Nat) (v900 : Int) (v901 : Int) (v902 : Int) (v903 : Int) (v904 : Bool) (v905 : Int) (v906 : Bool) (v907 : Int) (v908 : Int) (v909 : Int) (v910 : Bool) (v911 : List VV) (v912 : Nat) (v913 : Int) (v914 : Int) (v915 : Int) (v916 : Int) =>
          some (.v (.tuple #[.bool ((((Int.tmod v908 2)) == 1)), .int .i64 0]))) zs z1 p z3 kp false false kp (cellsP zs) zs.length fl rf p.1 p.2 0 0 fl rf zs.length F 0 0 (by omega) (by omega) (by omega)
      rw [show ((0 : Nat) : Int) = 0 from rfl] at this
      simp only [Bool.and_false, cond_false, cond_true]
      rw [this]
      have hq : cntN (fun k => rcrossB (edge zs k).1 (edge zs k).2 p) 0 zs.length = cntN (fun k => crossB (edge zs k).1 (edge zs k).2 p) 0 zs.length := cntN_congr fun j h1 h2 => by
        refine rcross_eq ?_
        cases hj : touchB (edge zs j).1 (edge zs j).2 p 0 with
        | false => rfl
        | true =>
          have : touchesB zs p 0 = true := anyN_iff.2 ⟨j, h1, h2, hj⟩
          rw [ht] at this; cases this
      rw [hq]
      simp only [Nat.zero_add, Bool.false_or, Bool.true_and]
      generalize cntN (fun k => crossB (edge zs k).1 (edge zs k).2 p) 0 zs.length = c
      have : (Int.tmod ((c : Nat) : Int) 2 == 1) = decide (c % 2 = 1) := by
        rw [Int.tmod_eq_emod_of_nonneg (by omega), Bool.eq_iff_iff, beq_iff_eq, decide_eq_true_eq]
        omega
      rw [this]
theorem a_rWithin (F : Nat) (hF : 200 ≤ F) (kp : Bool) (zs : List Pt) (hb : zs.length ≤ 20) (fl rf : Int) (p : Pt) :
    ok_ref37_Within F kp (cellsP zs) zs.length fl rf p.1 p.2 = true ∧ o_ref37_Within_0 F kp (cellsP zs) zs.length fl rf p.1 p.2 = (mayB zs fl rf p 0 && withinB zs p) ∧ o_ref37_Within_1 F kp (cellsP zs) zs.length fl rf p.1 p.2 = (bif mayB zs fl rf p 0 then 0 else 2) :=
  k_ref37_Within F _ _ _ _ _ _ _ (f_rWithin F hF kp zs hb fl rf p)
end Go.Xv
namespace Go.Xv
open Go.RowKit Go.Shelf

theorem Good.plain {P : Program} {f : FuncId} {g : List VV → Option VV} (hg : Good P f g) (xs : List Value) (y : Value) (h : g (xs.map .v) = some (.v y)) (w : World) :
    Calls P f xs.toArray w fun e w' => e = .returned y ∧ Below w.heap.size w w' := by
  obtain ⟨_, hk⟩ := hg _ _ h
  refine (hk w xs.toArray (fun _ => False) (fun _ h => h.elim) (by simp) (fun i x hx => ?_)).mono ?_
  · simp only [List.getElem?_map, Option.map_eq_some_iff] at hx
    obtain ⟨v, hv, rfl⟩ := hx
    exact ⟨v, by simpa using hv, .v _ _⟩
  · rintro e w' ⟨v, rfl, hb, hr⟩
    obtain rfl := hr.1.v_inv
    exact ⟨rfl, hb⟩

theorem right_calls (x y : Int) (w : World) : CallsIn Fence.wide 0 PP 33 #[.agg #[.int .i64 x, .int .i64 y]] w fun e w' => e = .returned (.bool (rightB (x, y))) ∧ Below w.heap.size w w' := by
  refine callsIn_wide.2 (Good.plain (g_fence_Point_right 200) [.agg #[.int .i64 x, .int .i64 y]] _ ?_ w)
  obtain ⟨h1, h2⟩ := a_right 200 (Nat.le_refl _) x y
  have e : s_fence_Point_right 200 [.v (.agg #[.int .i64 x, .int .i64 y])] = some (ok_fence_Point_right 200 x y, .v (.bool (o_fence_Point_right_0 200 x y))) := by kernel_rfl
  rw [h1, h2] at e
  show unS (s_fence_Point_right 200) [.v (.agg #[.int .i64 x, .int .i64 y])] = _
  unfold unS
  rw [e]
theorem touches_calls {a b p : Pt} {r : Int} (hp : OkP p) (hr : OkR r) (ha : OkP a) (hb : OkP b) (w : World) : CallsIn Fence.wide 0 PP 25 #[.agg #[.int .i64 p.1, .int .i64 p.2, .int .i64 r], .agg #[.int .i64 a.1, .int .i64 a.2], .agg #[.int .i64 b.1, .int .i64 b.2]] w
    fun e w' => e = .returned (.bool (touchB a b p r)) ∧ Below w.heap.size w w' := by
  refine callsIn_wide.2 (Good.plain (g_fence_square_touches 200) [.agg #[.int .i64 p.1, .int .i64 p.2, .int .i64 r], .agg #[.int .i64 a.1, .int .i64 a.2], .agg #[.int .i64 b.1, .int .i64 b.2]] _ ?_ w)
  obtain ⟨h1, h2⟩ := a_touches 200 (Nat.le_refl _) hp hr ha hb
  have e : s_fence_square_touches 200 [.v (.agg #[.int .i64 p.1, .int .i64 p.2, .int .i64 r]), .v (.agg #[.int .i64 a.1, .int .i64 a.2]), .v (.agg #[.int .i64 b.1, .int .i64 b.2])] = some (ok_fence_square_touches 200 p.1 p.2 r a.1 a.2 b.1 b.2, .v (.bool (o_fence_square_touches_0 200 p.1 p.2 r a.1 a.2 b.1 b.2))) := by kernel_rfl
  rw [h1, h2] at e
  show unS (s_fence_square_touches 200) [.v (.agg #[.int .i64 p.1, .int .i64 p.2, .int .i64 r]), .v (.agg #[.int .i64 a.1, .int .i64 a.2]), .v (.agg #[.int .i64 b.1, .int .i64 b.2])] = _
  unfold unS
  rw [e]
theorem side_calls {a b p : Pt} (hp : OkP p) (ha : OkP a) (hb : OkP b) (w : World) : CallsIn Fence.wide 0 PP 22 #[.agg #[.int .i64 a.1, .int .i64 a.2], .agg #[.int .i64 b.1, .int .i64 b.2], .agg #[.int .i64 p.1, .int .i64 p.2]] w
    fun e w' => e = .returned (.int .i64 (sgn (cross a b p))) ∧ Below w.heap.size w w' := by
  refine callsIn_wide.2 (Good.plain (g_fence_side 200) [.agg #[.int .i64 a.1, .int .i64 a.2], .agg #[.int .i64 b.1, .int .i64 b.2], .agg #[.int .i64 p.1, .int .i64 p.2]] _ ?_ w)
  obtain ⟨h1, h2⟩ := a_side 200 ha hb hp.near
  have e : s_fence_side 200 [.v (.agg #[.int .i64 a.1, .int .i64 a.2]), .v (.agg #[.int .i64 b.1, .int .i64 b.2]), .v (.agg #[.int .i64 p.1, .int .i64 p.2])] = some (ok_fence_side 200 a.1 a.2 b.1 b.2 p.1 p.2, .v (.int .i64 (o_fence_side_0 200 a.1 a.2 b.1 b.2 p.1 p.2))) := by kernel_rfl
  rw [h1, h2] at e
  show unS (s_fence_side 200) [.v (.agg #[.int .i64 a.1, .int .i64 a.2]), .v (.agg #[.int .i64 b.1, .int .i64 b.2]), .v (.agg #[.int .i64 p.1, .int .i64 p.2])] = _
  unfold unS
  rw [e]

/-- a zone's value, whose corners lie in w. -/
structure ZIn (w : World) (zs : List Pt) (a : Option Addr) (cap : Nat) : Prop where
  hl : zs.length ≤ 1000
  hc : zs.length ≤ cap
  h : ∃ b q, (0 < cap → a = some ⟨b, q, none⟩) ∧ (0 < zs.length → b < w.heap.size ∧ Lies w b q zs)
theorem ZIn.pos {w : World} {zs : List Pt} {a : Option Addr} {cap : Nat} (h : ZIn w zs a cap) (hp : 0 < zs.length) : ∃ b q, a = some ⟨b, q, none⟩ ∧ b < w.heap.size ∧ Lies w b q zs := by
  obtain ⟨b, q, h1, h2⟩ := h.h
  exact ⟨b, q, h1 (by have := h.hc; omega), h2 hp⟩
theorem ZIn.below {w w' : World} {zs : List Pt} {a : Option Addr} {cap : Nat} (h : ZIn w zs a cap) (hb : Below w.heap.size w w') : ZIn w' zs a cap := by
  obtain ⟨b, q, h1, h2⟩ := h.h
  refine ⟨h.hl, h.hc, b, q, h1, fun hp => ?_⟩
  obtain ⟨h3, h4⟩ := h2 hp
  refine ⟨Nat.lt_of_lt_of_le h3 hb.size, fun j hj => ?_⟩
  obtain ⟨p1, p2⟩ := h4 j hj
  exact ⟨(hb.cell (p := ⟨b, _, none⟩) h3).trans p1, (hb.cell (p := ⟨b, _, none⟩) h3).trans p2⟩
theorem cellsP_cases (zs : List Pt) {i : Nat} {x : VV} (h : (cellsP zs)[i]? = some x) : ∃ j, j < zs.length ∧ ((i = j * 2 ∧ x = .v (.int .i64 (at0 zs j).1)) ∨ (i = j * 2 + 1 ∧ x = .v (.int .i64 (at0 zs j).2))) := by
  have hi := (List.getElem?_eq_some_iff.1 h).1
  rw [cellsP_len] at hi
  refine ⟨i / 2, by omega, ?_⟩
  obtain ⟨p1, p2⟩ := cellsP_get zs (i / 2) (by omega)
  by_cases he : i = i / 2 * 2
  · left; refine ⟨he, ?_⟩; rw [he, p1] at h; simpa using h.symm
  · right
    have he : i = i / 2 * 2 + 1 := by omega
    refine ⟨he, ?_⟩; rw [he, p2] at h; simpa using h.symm
theorem ZIn.rel {w : World} {zs : List Pt} {a : Option Addr} {cap : Nat} (h : ZIn w zs a cap) (kp : Bool) (fl rf : Int) :
    Rel (fun b => b < w.heap.size) w rho0 (.agg [.v (.bool kp), .fs (cellsP zs) 0 zs.length 2, .v (.int .i64 fl), .v (.int .i64 rf)]) (.agg #[.bool kp, .slice a zs.length cap, .int .i64 fl, .int .i64 rf]) := by
  obtain ⟨b, q, h1, h2⟩ := h.h
  let ys : Nat → Value := fun i => match (cellsP zs)[i]? with | some (.v y) => y | _ => undef
  have hy : ∀ (i : Nat) (x : VV), (cellsP zs)[i]? = some x → x = .v (ys i) := fun i x hx => by
    obtain ⟨j, _, ⟨rfl, rfl⟩ | ⟨rfl, rfl⟩⟩ := cellsP_cases zs hx <;> simp only [ys, hx]
  have hs : Rel (fun b => b < w.heap.size) w rho0 (.fs (cellsP zs) 0 zs.length 2) (.slice a zs.length cap) := by
    refine .fs _ _ 0 _ _ b q cap a ys h.hc h1 (fun i x hx => ?_) (fun i x hx => ?_) hy
    · obtain ⟨j, hj, _⟩ := cellsP_cases zs hx
      exact (h2 (by omega)).1
    · obtain ⟨j, hj, ⟨rfl, rfl⟩ | ⟨rfl, rfl⟩⟩ := cellsP_cases zs hx
      · have := hy _ _ hx
        simp only [VV.v.injEq] at this
        rw [← this]
        exact ⟨((h2 (by omega)).2 j hj).1, rfl⟩
      · have := hy _ _ hx
        simp only [VV.v.injEq] at this
        rw [← this]
        exact ⟨by have := ((h2 (by omega)).2 j hj).2; rwa [Nat.add_assoc] at this, rfl⟩
  refine .agg _ _ _ (fun i => (#[Value.bool kp, .slice a zs.length cap, .int .i64 fl, .int .i64 rf])[i]?.getD undef) rfl (fun i x hx => ?_) (fun i x hx => ?_)
  · match i, hx with
    | 0, _ => rfl
    | 1, _ => rfl
    | 2, _ => rfl
    | 3, _ => rfl
  · match i, hx with
    | 0, hx => cases hx; exact .v _ _
    | 1, hx => cases hx; exact hs
    | 2, hx => cases hx; exact .v _ _
    | 3, hx => cases hx; exact .v _ _

theorem cell_blk {W : World} {b o : Nat} {cs : Array Value} {ty : TypeId} (h : W.heap[b]? = some (.cells cs ty (0, 0))) : W.cell? ⟨b, o, none⟩ = cs[o]? := cell_of_row W b o cs ty (0, 0) h
theorem frozen_blk {W : World} {b o : Nat} {cs : Array Value} {ty : TypeId} (h : W.heap[b]? = some (.cells cs ty (0, 0))) (ho : o < cs.size) : W.frozen? ⟨b, o, none⟩ = false := by
  simp [World.frozen?, h]
theorem edge_mem {zs : List Pt} {n : Nat} {e : Pt × Pt} (h : e ∈ edgesOf zs n) : ∃ k, k < n ∧ e = edge zs k := by
  simp only [edgesOf, List.mem_map, List.mem_range] at h
  obtain ⟨k, hk, rfl⟩ := h
  exact ⟨k, hk, rfl⟩
theorem prefix_mem {α : Type} {l m : List α} (h : l <+: m) {x : α} (hx : x ∈ l) : x ∈ m := h.subset hx
end Go.Xv
namespace Go.Xv
theorem run_eq_pt (p q : Pt) (w : World) : (Op.equalIn 10000 33 (.agg #[.int .i64 p.1, .int .i64 p.2]) (.agg #[.int .i64 q.1, .int .i64 q.2])).run PP w = .ok (decide (p = q)) w := by
  have := eq_agg_run (P := PP) (t := 33) (ks := [some .i64, some .i64]) (xs := #[.int .i64 p.1, .int .i64 p.2]) (ys := #[.int .i64 q.1, .int .i64 q.2]) (by kernel_rfl) (by simp [fitK]) (by simp [fitK]) (by kernel_rfl) w
  rw [← ptEq p q]
  simpa [eqL, eqV] using this
end Go.Xv
namespace Go.Xv
open Go.RowKit
theorem setCell_blk {W : World} {b o : Nat} {cs : Array Value} {ty : TypeId} {v : Value} (h : W.heap[b]? = some (.cells cs ty (0, 0))) :
    (W.setCell ⟨b, o, none⟩ v).heap[b]? = some (.cells (cs.setIfInBounds o v) ty (0, 0)) := by
  simp only [World.setCell]
  rw [Array.getElem?_modify]
  simp [h]
/-- a way out behind the loop's block for deferred calls. -/
theorem leave_mark {fn : Func} {R : Ending → World → Prop} {a : Act} {w : World} {D : Nat} {v : Value} (hd : a.defers = [{ target := .collected D, args := #[] }]) (hK : w.heap[D]? = some (.deferred (some [])))
    (hr : (results fn a.tmps).run PP (w.putObj D (.deferred none)) = .ok v (w.putObj D (.deferred none))) (hR : R (.returned v) (w.putObj D (.deferred none))) : bodyPostM Fence.wide 0 PP fn R .ret a w := by
  show LeavesInM Fence.wide 0 PP fn a.tmps R a.defers .returning w
  rw [hd]
  exact ⟨by simp, .inl ⟨_, _, rfl, run_takeDeferred hK, v, hr, hR⟩⟩
theorem leave_plain {fn : Func} {R : Ending → World → Prop} {a : Act} {w : World} {v : Value} (hd : a.defers = [])
    (hr : (results fn a.tmps).run PP w = .ok v w) (hR : R (.returned v) w) : bodyPostM Fence.wide 0 PP fn R .ret a w := by
  show LeavesInM Fence.wide 0 PP fn a.tmps R a.defers .returning w
  rw [hd]
  exact ⟨v, hr, hR⟩
theorem putObj_below {B : Nat} {w w' : World} {D : Nat} {o : Obj} (h : Below B w w') (hD : B ≤ D) : Below B w (w'.putObj D o) :=
  h.trans ⟨rfl, rfl, rfl, by simp, fun k hk => World.putObj_heap_other (by omega)⟩
end Go.Xv
namespace Go.Xv
open Go.RowKit Go.Shelf
attribute [local go_sem] Oper.semAt_some

def edgeOK (e : Pt × Pt) : Bool := rightB e.1 && !decide (e.1 = e.2)
theorem corn_edge (zs : List Pt) (k : Nat) : cornB zs k = edgeOK (edge zs k) := rfl

set_option maxRecDepth 100000 in
set_option maxHeartbeats 4000000 in
theorem Check_calls (kp : Bool) (fl rf : Int) (zs : List Pt) (a : Option Addr) (cap : Nat) (w : World) (hz : ZIn w zs a cap) :
    CallsIn Fence.wide 0 PP 15 #[.agg #[.bool kp, .slice a zs.length cap, .int .i64 fl, .int .i64 rf]] w fun e w' => e = .returned (.int .i64 (bif checkB zs fl rf then 0 else 2)) ∧ Below w.heap.size w w' := by
  have hno : ¬ (3 ≤ zs.length ∧ zs.length ≤ 16 ∧ fl ≤ rf) → checkB zs fl rf = false := fun h => by
    cases hc : checkB zs fl rf with
    | false => rfl
    | true => obtain ⟨h1, h2⟩ := checkB_sound hc; exact absurd ⟨h1.lo, h1.hi, h2⟩ h
  refine callsIn_of_wp_marks Proofs.Try.func15 rfl trivial ?_ rfl
  simp only [Proofs.Try.ntmps15, List.size_toArray, List.length_cons, List.length_nil, Nat.reduceAdd, Nat.reduceSub, Array.replicate_succ, Array.replicate_zero, List.push_toArray, List.append_toArray, List.nil_append, List.cons_append]
  gi_wp2
  · rename_i h1 h2 h3
    rw [hno (by omega)]
    exact leave_plain rfl (by simp [results, Proofs.Try.f15, go_sem]) ⟨rfl, ((Below.refl _ w).alloc (Nat.le_refl _) _).alloc (by simp) _⟩
  · rename_i h1 _ _
    obtain ⟨b, q, rfl, hb, hL⟩ := hz.pos (by omega)
    obtain ⟨W0, hW0⟩ : ∃ W0, (w.alloc (.cells #[.bool kp, .slice (some ⟨b, q, none⟩) zs.length cap, .int .i64 fl, .int .i64 rf] 25)).alloc (.cells #[.int .i64 0] 34) = W0 := ⟨_, rfl⟩
    have hw0 : Below w.heap.size w W0 := by rw [← hW0]; exact ((Below.refl _ w).alloc (Nat.le_refl _) _).alloc (by simp) _
    have hs0 : W0.heap.size = w.heap.size + 2 := by rw [← hW0]; simp
    have hr0 : W0.heap[w.heap.size + 1]? = some (.cells #[.int .i64 0] 34 (0, 0)) := by
      rw [← hW0]; have := World.alloc_heap_new (w.alloc (.cells #[.bool kp, .slice (some ⟨b, q, none⟩) zs.length cap, .int .i64 fl, .int .i64 rf] 25)) (.cells #[.int .i64 0] 34); rw [World.size_alloc] at this; exact this
    rw [hW0]
    clear hW0
    refine range_recv (gf := 21) (z := .agg #[.bool kp, .slice (some ⟨b, q, none⟩) zs.length cap, .int .i64 fl, .int .i64 rf]) rfl (Proofs.enters_of Proofs.Try.func21 (by kernel_rfl) rfl) (encs := edgeV) (xs := edgesOf zs zs.length) (fun _ => rfl)
      (edges_gives zs kp fl rf b q cap (by omega) (by omega) w.heap.size w hb (Nat.le_refl _) hL) (Nat.le_refl _) hw0
      (fun k => k = w.heap.size + 1) (fun k hk => by omega)
      (fun pre W => (∀ e ∈ pre, edgeOK e = true) ∧ W.heap[w.heap.size + 1]? = some (.cells #[.int .i64 0] 34 (0, 0)) ∧ Below w.heap.size w W)
      (fun pre W => (∃ e ∈ pre, edgeOK e = false) ∧ W.heap[w.heap.size + 1]? = some (.cells #[.int .i64 2] 34 (0, 0)) ∧ Below w.heap.size w W)
      (fun pre X Y h hb => ⟨h.1, by rw [hb.block _ (by omega)]; exact h.2.1, h.2.2.trans (hb.mono (by omega))⟩)
      (fun pre X Y h hb => ⟨h.1, by rw [hb.block _ (by omega)]; exact h.2.1, h.2.2.trans (hb.mono (by omega))⟩)
      ⟨by simp, hr0, hw0⟩
      (fun x m a' X => X.heap[m]? = some (.cells #[.int .i64 x.1.1, .int .i64 x.1.2] 33 (0, 0)) ∧ X.heap[m + 1]? = some (.cells #[.int .i64 x.2.1, .int .i64 x.2.2] 33 (0, 0)) ∧
        a' = { tmps := #[Value.agg #[Value.bool kp, Value.slice (some { block := b, off := q }) zs.length cap, Value.int IntKind.i64 fl, Value.int IntKind.i64 rf], Value.pointer (some { block := w.heap.size, off := 0 }), Value.pointer (some { block := w.heap.size + 1, off := 0 }), Value.pointer (some { block := m, off := 0 }), Value.pointer (some { block := m + 1, off := 0 }), Value.pointer (some { block := w.heap.size, off := 1 }), Value.slice (some { block := b, off := q }) zs.length cap, Value.int IntKind.i64 (zs.length : Int), Value.bool (decide ((zs.length : Int) < 3)), Value.bool (decide ((zs.length : Int) < 3)), Value.pointer (some { block := w.heap.size, off := 1 }), Value.slice (some { block := b, off := q }) zs.length cap, Value.int IntKind.i64 (zs.length : Int), Value.bool (decide (16 < (zs.length : Int))), Value.bool (decide ((zs.length : Int) < 3) || decide (16 < (zs.length : Int))), Value.bool (decide ((zs.length : Int) < 3) || decide (16 < (zs.length : Int))), Value.pointer (some { block := w.heap.size, off := 3 }), Value.int IntKind.i64 rf, Value.pointer (some { block := w.heap.size, off := 2 }), Value.int IntKind.i64 fl, Value.bool (decide (rf < fl)), Value.bool (decide ((zs.length : Int) < 3) || decide (16 < (zs.length : Int)) || decide (rf < fl)), Value.agg #[Value.bool kp, Value.slice (some { block := b, off := q }) zs.length cap, Value.int IntKind.i64 fl, Value.int IntKind.i64 rf], Value.func (Fn.func 21) #[Value.agg #[Value.bool kp, Value.slice (some { block := b, off := q }) zs.length cap, Value.int IntKind.i64 fl, Value.int IntKind.i64 rf]] #[], ptV x.1, ptV x.2, undef, undef, undef, undef, undef, undef, undef, undef], defers := [] })
      (fun x m a' X l o hl h => ⟨by rw [World.putObj_heap_other (by omega)]; exact h.1, by rw [World.putObj_heap_other (by omega)]; exact h.2.1, h.2.2⟩)
      ?assign ?body ?done ?stop
    case assign =>
      intro l x X K hX hK
      gi_wp2
      refine hK _ _ (((Below.refl _ X).alloc (Nat.le_refl _) _).alloc (by simp) _) ⟨?_, ?_, rfl⟩
      · exact (Below.heap_alloc _ _ _ (by simp)).trans (World.alloc_heap_new X _)
      · have := World.alloc_heap_new (X.alloc (.cells #[.int .i64 x.1.1, .int .i64 x.1.2] 33)) (.cells #[.int .i64 x.2.1, .int .i64 x.2.2] 33); rw [World.size_alloc] at this; exact this
    case body =>
      rintro l pre x m a' X hm hmX ⟨hI1, hI2, hI3⟩ ⟨hb1, hb2, rfl⟩ hpre
      have c0 : X.cell? ⟨m, 0, none⟩ = some (.int .i64 x.1.1) := cell_blk hb1
      have c1 : X.cell? ⟨m, 1, none⟩ = some (.int .i64 x.1.2) := cell_blk hb1
      have d0 : X.cell? ⟨m + 1, 0, none⟩ = some (.int .i64 x.2.1) := cell_blk hb2
      have d1 : X.cell? ⟨m + 1, 1, none⟩ = some (.int .i64 x.2.2) := cell_blk hb2
      have hlt1 := (Array.getElem?_eq_some_iff.1 hb1).1
      have hlt2 := (Array.getElem?_eq_some_iff.1 hb2).1
      have hlt3 := (Array.getElem?_eq_some_iff.1 hI2).1
      have hq := fun w => run_eq_pt x.1 x.2 w
      gi_wp2_with (refine ⟨trivial, rfl, ?_⟩; refine (CallsIn.inRound l (right_calls _ _ _)).mono ?_; rintro e w' ⟨rfl, hB'⟩; have c0' := (hB'.cell (p := ⟨m, 0, none⟩) hlt1).trans c0; have c1' := (hB'.cell (p := ⟨m, 1, none⟩) hlt1).trans c1; have d0' := (hB'.cell (p := ⟨m + 1, 0, none⟩) hlt2).trans d0; have d1' := (hB'.cell (p := ⟨m + 1, 1, none⟩) hlt2).trans d1; have hr' := (hB'.block _ hlt3).trans hI2; have f0' := frozen_blk (o := 0) hr' (by decide); have r0' := cell_blk (o := 0) hr')
      · rename_i e1 e2
        refine ⟨(Keep.of hB').trans (Keep.setCell rfl), ⟨x, by simp, by unfold edgeOK; rw [e2]; simp⟩, setCell_blk hr', (hI3.trans (hB'.mono hI3.size)).setCell (p := ⟨w.heap.size + 1, 0, none⟩) (by simp) _⟩
      · rename_i e1 e2
        refine ⟨Keep.of hB', ⟨fun e he => ?_, hr', hI3.trans (hB'.mono hI3.size)⟩⟩
        rcases List.mem_append.1 he with he | he
        · exact hI1 e he
        · simp only [List.mem_singleton] at he
          subst he
          unfold edgeOK
          rw [df e2, show rightB e.1 = true from e1]
          rfl
      · rename_i e1
        refine ⟨(Keep.of hB').trans (Keep.setCell rfl), ⟨x, by simp, by unfold edgeOK; rw [show rightB x.1 = false from by simpa using e1]; rfl⟩, setCell_blk hr', (hI3.trans (hB'.mono hI3.size)).setCell (p := ⟨w.heap.size + 1, 0, none⟩) (by simp) _⟩
    case done =>
      rintro D W hD ⟨hI1, hI2, hI3⟩ hK
      have f0 := frozen_blk (o := 0) hI2 (by decide)
      have r0 := cell_blk (o := 0) hI2
      gi_wp2
      have hlt := (Array.getElem?_eq_some_iff.1 hI2).1
      have hW2 := setCell_blk (o := 0) (v := .int .i64 0) hI2
      have hc : checkB zs fl rf = true := by
        unfold checkB
        simp only [Bool.and_eq_true, decide_eq_true_eq, allN_iff]
        refine ⟨⟨⟨by omega, by omega⟩, by omega⟩, fun j _ hj => ?_⟩
        rw [corn_edge]
        exact hI1 _ (by simp only [edgesOf, List.mem_map, List.mem_range]; exact ⟨j, by omega, rfl⟩)
      rw [hc]
      refine leave_mark (D := D) (v := .int .i64 0) rfl ((KeepsOthers.setCell W ⟨w.heap.size + 1, 0, none⟩ (.int .i64 0)).same D _ hK rfl) ?_ ⟨rfl, putObj_below (hI3.setCell (p := ⟨w.heap.size + 1, 0, none⟩) (by simp) _) (by omega)⟩
      have := cell_blk (o := 0) ((World.putObj_heap_other (r := D) (o := .deferred none) (by omega)).trans hW2)
      simp [results, Proofs.Try.f15, go_sem, this]
    case stop =>
      rintro D pre x W hD hpre ⟨⟨e, he1, he2⟩, hI2, hI3⟩ hK
      have hlt := (Array.getElem?_eq_some_iff.1 hI2).1
      have hc : checkB zs fl rf = false := by
        cases hc : checkB zs fl rf with
        | false => rfl
        | true =>
          exfalso
          unfold checkB at hc
          simp only [Bool.and_eq_true, decide_eq_true_eq, allN_iff] at hc
          obtain ⟨j, hj, rfl⟩ := edge_mem (prefix_mem hpre he1)
          have := hc.2 j (by omega) (by omega)
          rw [corn_edge, he2] at this
          cases this
      refine leave_mark (D := D) (v := .int .i64 2) rfl hK ?_ ⟨by rw [hc]; rfl, putObj_below hI3 (by omega)⟩
      have := cell_blk (o := 0) ((World.putObj_heap_other (r := D) (o := .deferred none) (by omega)).trans hI2)
      simp [results, Proofs.Try.f15, go_sem, this]
  · rw [hno (by omega)]
    exact leave_plain rfl (by simp [results, Proofs.Try.f15, go_sem]) ⟨rfl, ((Below.refl _ w).alloc (Nat.le_refl _) _).alloc (by simp) _⟩
  · rw [hno (by omega)]
    exact leave_plain rfl (by simp [results, Proofs.Try.f15, go_sem]) ⟨rfl, ((Below.refl _ w).alloc (Nat.le_refl _) _).alloc (by simp) _⟩
end Go.Xv
namespace Go.Xv
open Go.RowKit

def ptsOf : List VV → Option (List Pt)
  | [] => some []
  | .v (.int .i64 x) :: .v (.int .i64 y) :: r => match ptsOf r with
    | some l => some ((x, y) :: l)
    | none => none
  | _ => none
theorem ptsOf_cells : ∀ zs : List Pt, ptsOf (cellsP zs) = some zs
  | [] => rfl
  | p :: r => by simp only [cellsP, ptsOf, ptsOf_cells r]
theorem ptsOf_spec : ∀ (c : List VV) (zs : List Pt), ptsOf c = some zs → c = cellsP zs
  | [], zs, h => by simp only [ptsOf, Option.some.injEq] at h; subst h; rfl
  | [x], zs, h => by simp [ptsOf] at h
  | x :: y :: r, zs, h => by
    unfold ptsOf at h
    split at h
    · rename_i heq; cases heq
    · rename_i heq
      cases heq
      cases hr : ptsOf r with
      | none => rw [hr] at h; cases h
      | some l =>
        rw [hr] at h
        simp only [Option.some.injEq] at h
        subst h
        rw [ptsOf_spec r l hr]
        rfl
    · cases h
/-- the corners of a zone that is handed over. -/
def zoneOf (c : List VV) (o l : Nat) : Option (List Pt) := match ptsOf c with
  | some zs => bif Nat.beq o 0 && Nat.beq zs.length l && Nat.ble l 1000 then some zs else none
  | none => none
theorem zoneOf_cells {zs : List Pt} (h : zs.length ≤ 1000) : zoneOf (cellsP zs) 0 zs.length = some zs := by
  unfold zoneOf
  rw [ptsOf_cells]
  simp only [Nat.beq_refl, Bool.true_and]
  rw [Nat.ble_eq_true_of_le h]
  rfl
theorem zoneOf_spec {c : List VV} {o l : Nat} {zs : List Pt} (h : zoneOf c o l = some zs) : c = cellsP zs ∧ o = 0 ∧ zs.length = l ∧ l ≤ 1000 := by
  unfold zoneOf at h
  cases hp : ptsOf c with
  | none => rw [hp] at h; cases h
  | some q =>
    rw [hp] at h
    simp only at h
    cases hb : (Nat.beq o 0 && Nat.beq q.length l && Nat.ble l 1000) with
    | false => rw [hb] at h; cases h
    | true =>
      rw [hb] at h
      simp only [cond_true, Option.some.injEq] at h
      subst h
      simp only [Bool.and_eq_true] at hb
      exact ⟨ptsOf_spec c q hp, Nat.eq_of_beq_eq_true hb.1.1, Nat.eq_of_beq_eq_true hb.1.2, Nat.le_of_ble_eq_true hb.2⟩

theorem rel_zone {St : Nat → Prop} {w : World} (hSt : ∀ b, St b → b < w.heap.size) {kp : Bool} {c : List VV} {o l : Nat} {fl rf : Int} {v : Value} {zs : List Pt}
    (h : Rel St w rho0 (.agg [.v (.bool kp), .fs c o l 2, .v (.int .i64 fl), .v (.int .i64 rf)]) v) (hz : zoneOf c o l = some zs) :
    ∃ a cap, v = .agg #[.bool kp, .slice a zs.length cap, .int .i64 fl, .int .i64 rf] ∧ ZIn w zs a cap := by
  obtain ⟨rfl, rfl, rfl, hl⟩ := zoneOf_spec hz
  obtain ⟨vs, xs, h1, h2, h3, rfl⟩ := h.agg_inv
  have g0 := h3 0 _ rfl
  have g1 := h3 1 _ rfl
  have g2 := h3 2 _ rfl
  have g3 := h3 3 _ rfl
  have e0 := h2 0 _ rfl
  have e1 := h2 1 _ rfl
  have e2 := h2 2 _ rfl
  have e3 := h2 3 _ rfl
  rw [g0.v_inv] at e0
  rw [g2.v_inv] at e2
  rw [g3.v_inv] at e3
  obtain ⟨b, q, cp, a, ys, k1, k2, k3, k4, k5, k6⟩ := g1.fs_inv
  rw [k6] at e1
  refine ⟨a, cp, ?_, hl, k1, b, q, (fun hc => by have := k2 hc; simpa using this), fun hpos => ⟨?_, fun j hj => ?_⟩⟩
  · congr 1
    apply Array.ext
    · simpa using h1
    · intro i hi _
      simp only [List.length_cons, List.length_nil] at h1
      have : i = 0 ∨ i = 1 ∨ i = 2 ∨ i = 3 := by omega
      rcases this with rfl | rfl | rfl | rfl
      · simpa [Array.getElem?_eq_getElem hi] using e0
      · simpa [Array.getElem?_eq_getElem hi] using e1
      · simpa [Array.getElem?_eq_getElem hi] using e2
      · simpa [Array.getElem?_eq_getElem hi] using e3
  · exact hSt _ (k3 0 _ (by have := (cellsP_get zs 0 hpos).1; simpa using this))
  · obtain ⟨p1, p2⟩ := cellsP_get zs j hj
    have q1 := k4 _ _ p1
    have q2 := k4 _ _ p2
    have r1 := k5 _ _ p1
    have r2 := k5 _ _ p2
    simp only [VV.v.injEq] at r1 r2
    rw [r1, r2]
    exact ⟨q1.1, by rw [Nat.add_assoc]; exact q2.1⟩
end Go.Xv
set_option linter.unusedVariables false
namespace Go.Xv
open Go.RowKit
def ti_fence_Check : List TV := [.agg [.v (.bool), .fs .hole .hole 2, .v (.int .i64), .v (.int .i64)]]
def to_fence_Check : TV := .v (.int .i64)
def f_fence_Check (F : Nat) (a0 : Bool) (a1 : List VV) (a2 : Nat) (a3 : Nat) (a4 : Int) (a5 : Int) : R :=
  match zoneOf a1 a2 a3 with
  | some zs => some (.v (.int .i64 (bif checkB zs a4 a5 then 0 else 2)))
  | none => none
def ok_fence_Check (F : Nat) (a0 : Bool) (a1 : List VV) (a2 : Nat) (a3 : Nat) (a4 : Int) (a5 : Int) : Bool := okT to_fence_Check (f_fence_Check F a0 a1 a2 a3 a4 a5)
def o_fence_Check_0 (F : Nat) (a0 : Bool) (a1 : List VV) (a2 : Nat) (a3 : Nat) (a4 : Int) (a5 : Int) : Int := atI (nth (outT to_fence_Check (f_fence_Check F a0 a1 a2 a3 a4 a5)) 0)
theorem k_fence_Check (F : Nat) (a0 : Bool) (a1 : List VV) (a2 : Nat) (a3 : Nat) (a4 : Int) (a5 : Int) {z0 : Int} (h : f_fence_Check F a0 a1 a2 a3 a4 a5 = some (.v (.int .i64 z0))) : ok_fence_Check F a0 a1 a2 a3 a4 a5 = true ∧ o_fence_Check_0 F a0 a1 a2 a3 a4 a5 = z0 := by
  refine ⟨?_, ?_⟩
  · unfold ok_fence_Check; rw [h]; kernel_rfl
  · unfold o_fence_Check_0; rw [h]; kernel_rfl
def s_fence_Check (F : Nat) : List VV → Option (Bool × VV) := spec ti_fence_Check to_fence_Check (fun q => (ok_fence_Check F (atB (nth q 0)) (atC (nth q 1)) (atN (nth q 2)) (atN (nth q 3)) (atI (nth q 4)) (atI (nth q 5)))) (fun q => [.i (o_fence_Check_0 F (atB (nth q 0)) (atC (nth q 1)) (atN (nth q 2)) (atN (nth q 3)) (atI (nth q 4)) (atI (nth q 5)))])
def gz_fence_Check (F : Nat) : List VV → R
  | [.agg [.v (.bool a0), .fs a1 a2 a3 2, .v (.int .i64 a4), .v (.int .i64 a5)]] => f_fence_Check F a0 a1 a2 a3 a4 a5
  | _ => none
theorem gg_fence_Check (F : Nat) : Good PP 15 (gz_fence_Check F) := by
  intro args r h
  unfold gz_fence_Check at h
  split at h
  · rename_i kp c o l fl rf
    unfold f_fence_Check at h
    cases hz : zoneOf c o l with
    | none => rw [hz] at h; cases h
    | some zs =>
      rw [hz] at h
      simp only [Option.some.injEq] at h
      subst h
      refine ⟨⟨_, Proofs.Try.func15, by kernel_rfl, by kernel_rfl⟩, fun w vs St hS hs hv => ?_⟩
      obtain ⟨v, h1, h2⟩ := hv 0 _ rfl
      obtain ⟨a, cap, rfl, hz⟩ := rel_zone hS h2 hz
      obtain rfl : vs = #[.agg #[.bool kp, .slice a zs.length cap, .int .i64 fl, .int .i64 rf]] := by
        apply Array.ext
        · simpa using hs
        · intro i hi _
          have : i = 0 := by simp at hs; omega
          subst this
          simpa [Array.getElem?_eq_getElem hi] using h1
      refine (callsIn_wide.1 (Check_calls kp fl rf zs a cap w hz)).mono ?_
      rintro e w' ⟨rfl, hb⟩
      exact ⟨_, rfl, hb, ⟨.v _ _, fun _ _ _ e => by cases e⟩⟩
  · cases h
theorem g_fence_Check (F : Nat) : Good PP 15 (unS (s_fence_Check F)) :=
  spec_good fun q h => by
    obtain ⟨x, h1, h2⟩ := okT_fill' h (y := (fT to_fence_Check [.i (o_fence_Check_0 F (atB (nth q 0)) (atC (nth q 1)) (atN (nth q 2)) (atN (nth q 3)) (atI (nth q 4)) (atI (nth q 5)))]).1) (by kernel_rfl)
    exact ⟨gz_fence_Check F, x, gg_fence_Check F, (show gz_fence_Check F (fTs ti_fence_Check q).1 = _ by kernel_rfl).trans h1, h2⟩
end Go.Xv
set_option linter.unusedVariables false
namespace Go.Xv
/- 24 _fence_may -/
def c_fence_may : Cfg := ⟨[0, 1, 2, 3, 4, 6], [], [], []⟩
def ti_fence_may : List TV := [.agg [.v (.bool), .fs .hole .hole 2, .v (.int .i64), .v (.int .i64)], .v (.agg [.int .i64, .int .i64]), .v (.int .i64)]
def to_fence_may : TV := .v (.bool)
def S_fence_may (F : Nat) : FuncId → List VV → Option (Bool × VV) := words [(15, s_fence_Check F), (33, s_fence_Point_right F)]
def W_fence_may (F : Nat) : List LW := []
def I_fence_may (F : Nat) : Nat → VS → (Exit → VS → R) → R := tabI c_fence_may (W_fence_may F)
def WJ_fence_may (F : Nat) : List LJ := []
def J_fence_may (F : Nat) : Nat → Nat → VS → (Exit → VS → R) → R := tabJ (WJ_fence_may F)
def f_fence_may (F : Nat) (a0 : Bool) (a1 : List VV) (a2 : Nat) (a3 : Nat) (a4 : Int) (a5 : Int) (a6 : Int) (a7 : Int) (a8 : Int) : R :=
  bif (ok_fence_Check F a0 a1 a2 a3 a4 a5) then (
    bif ((((o_fence_Check_0 F a0 a1 a2 a3 a4 a5)) == 0)) then (
      bif (ok_fence_Point_right F a6 a7) then (
        bif ((o_fence_Point_right_0 F a6 a7)) then (
          bif ((decide (a8 ≥ 0))) then (
            some (.v (.bool ((decide (a8 ≤ 1152921504606846976))))))
          else (
            some (.v (.bool false))))
        else (
          some (.v (.bool false))))
      else (
        none))
    else (
      some (.v (.bool false))))
  else (
    none)
theorem e_fence_may (F : Nat) (a0 : Bool) (a1 : List VV) (a2 : Nat) (a3 : Nat) (a4 : Int) (a5 : Int) (a6 : Int) (a7 : Int) (a8 : Int) : funL PP (S_fence_may F) c_fence_may (I_fence_may F) (J_fence_may F) 24 (fTs ti_fence_may [.b a0, .c a1, .n a2, .n a3, .i a4, .i a5, .i a6, .i a7, .i a8]).1 = f_fence_may F a0 a1 a2 a3 a4 a5 a6 a7 a8 := by
  have h : ∀ (ok_fence_Check : Nat → Bool → List VV → Nat → Nat → Int → Int → Bool) (o_fence_Check_0 : Nat → Bool → List VV → Nat → Nat → Int → Int → Int) (ok_fence_Point_right : Nat → Int → Int → Bool) (o_fence_Point_right_0 : Nat → Int → Int → Bool), funL PP (words [(15, spec ti_fence_Check to_fence_Check (fun q => (ok_fence_Check F (atB (nth q 0)) (atC (nth q 1)) (atN (nth q 2)) (atN (nth q 3)) (atI (nth q 4)) (atI (nth q 5)))) (fun q => [.i (o_fence_Check_0 F (atB (nth q 0)) (atC (nth q 1)) (atN (nth q 2)) (atN (nth q 3)) (atI (nth q 4)) (atI (nth q 5)))])), (33, spec ti_fence_Point_right to_fence_Point_right (fun q => (ok_fence_Point_right F (atI (nth q 0)) (atI (nth q 1)))) (fun q => [.b (o_fence_Point_right_0 F (atI (nth q 0)) (atI (nth q 1)))]))]) c_fence_may (tabI c_fence_may []) (tabJ []) 24 (fTs ti_fence_may [.b a0, .c a1, .n a2, .n a3, .i a4, .i a5, .i a6, .i a7, .i a8]).1 = (
  bif (ok_fence_Check F a0 a1 a2 a3 a4 a5) then (
    bif ((((o_fence_Check_0 F a0 a1 a2 a3 a4 a5)) == 0)) then (
      bif (ok_fence_Point_right F a6 a7) then (
        bif ((o_fence_Point_right_0 F a6 a7)) then (
          bif ((decide (a8 ≥ 0))) then (
            some (.v (.bool ((decide (a8 ≤ 1152921504606846976))))))
          else (
            some (.v (.bool false))))
        else (
          some (.v (.bool false))))
      else (
        none))
    else (
      some (.v (.bool false))))
  else (
    none) : R) := by
    intros
    kernel_rfl
  exact (h ok_fence_Check o_fence_Check_0 ok_fence_Point_right o_fence_Point_right_0).trans (by kernel_rfl)
def ok_fence_may (F : Nat) (a0 : Bool) (a1 : List VV) (a2 : Nat) (a3 : Nat) (a4 : Int) (a5 : Int) (a6 : Int) (a7 : Int) (a8 : Int) : Bool := okT to_fence_may (f_fence_may F a0 a1 a2 a3 a4 a5 a6 a7 a8)
def o_fence_may_0 (F : Nat) (a0 : Bool) (a1 : List VV) (a2 : Nat) (a3 : Nat) (a4 : Int) (a5 : Int) (a6 : Int) (a7 : Int) (a8 : Int) : Bool := atB (nth (outT to_fence_may (f_fence_may F a0 a1 a2 a3 a4 a5 a6 a7 a8)) 0)
theorem k_fence_may (F : Nat) (a0 : Bool) (a1 : List VV) (a2 : Nat) (a3 : Nat) (a4 : Int) (a5 : Int) (a6 : Int) (a7 : Int) (a8 : Int) {z0 : Bool} (h : f_fence_may F a0 a1 a2 a3 a4 a5 a6 a7 a8 = some (.v (.bool z0))) : ok_fence_may F a0 a1 a2 a3 a4 a5 a6 a7 a8 = true ∧ o_fence_may_0 F a0 a1 a2 a3 a4 a5 a6 a7 a8 = z0 := by
  refine ⟨?_, ?_⟩
  · unfold ok_fence_may; rw [h]; kernel_rfl
  · unfold o_fence_may_0; rw [h]; kernel_rfl
def s_fence_may (F : Nat) : List VV → Option (Bool × VV) := spec ti_fence_may to_fence_may (fun q => (ok_fence_may F (atB (nth q 0)) (atC (nth q 1)) (atN (nth q 2)) (atN (nth q 3)) (atI (nth q 4)) (atI (nth q 5)) (atI (nth q 6)) (atI (nth q 7)) (atI (nth q 8)))) (fun q => [.b (o_fence_may_0 F (atB (nth q 0)) (atC (nth q 1)) (atN (nth q 2)) (atN (nth q 3)) (atI (nth q 4)) (atI (nth q 5)) (atI (nth q 6)) (atI (nth q 7)) (atI (nth q 8)))])
theorem hS_fence_may (F : Nat) : ∀ f, Good PP f (unS (S_fence_may F f)) := words_good fun p hp => by
  simp only [List.mem_cons, List.not_mem_nil, or_false] at hp
  rcases hp with rfl | rfl
  · exact g_fence_Check F
  · exact g_fence_Point_right F
theorem hl_fence_may (F : Nat) : ∀ p ∈ loopsIn PP 24, LoopOK PP (S_fence_may F) c_fence_may F (I_fence_may F) (J_fence_may F) p :=
  loops_of [] (by kernel_rfl) all_nil
theorem hj_fence_may (F : Nat) : ∀ p ∈ joinsIn PP c_fence_may 24, JoinOK PP (S_fence_may F) c_fence_may (I_fence_may F) (J_fence_may F) p :=
  joins_of [] (by kernel_rfl) all_nil
theorem g_fence_may (F : Nat) : Good PP 24 (unS (s_fence_may F)) :=
  fun_spec (hS_fence_may F) (by kernel_rfl) (by kernel_rfl) (C := c_fence_may) (F := fun q => (f_fence_may F (atB (nth q 0)) (atC (nth q 1)) (atN (nth q 2)) (atN (nth q 3)) (atI (nth q 4)) (atI (nth q 5)) (atI (nth q 6)) (atI (nth q 7)) (atI (nth q 8)))) (fun _ => F) (fun _ => I_fence_may F) (fun _ => J_fence_may F) (fun _ => hl_fence_may F) (fun _ => hj_fence_may F)
    (fun q => (congrArg (funL PP (S_fence_may F) c_fence_may (I_fence_may F) (J_fence_may F) 24) (show (fTs ti_fence_may q).1 = (fTs ti_fence_may [.b (atB (nth q 0)), .c (atC (nth q 1)), .n (atN (nth q 2)), .n (atN (nth q 3)), .i (atI (nth q 4)), .i (atI (nth q 5)), .i (atI (nth q 6)), .i (atI (nth q 7)), .i (atI (nth q 8))]).1 by kernel_rfl)).trans (e_fence_may F (atB (nth q 0)) (atC (nth q 1)) (atN (nth q 2)) (atN (nth q 3)) (atI (nth q 4)) (atI (nth q 5)) (atI (nth q 6)) (atI (nth q 7)) (atI (nth q 8))))
    (fun _ h => okT_fill' h (by kernel_rfl))

end Go.Xv
namespace Go.Xv
open Go.RowKit Go.Shelf
attribute [local go_sem] Oper.semAt_some

theorem a_Check (F : Nat) (kp : Bool) {zs : List Pt} (hl : zs.length ≤ 1000) (fl rf : Int) : ok_fence_Check F kp (cellsP zs) 0 zs.length fl rf = true ∧ o_fence_Check_0 F kp (cellsP zs) 0 zs.length fl rf = bif checkB zs fl rf then 0 else 2 :=
  k_fence_Check F _ _ _ _ _ _ (by unfold f_fence_Check; rw [zoneOf_cells hl])
theorem f_may (F : Nat) (hF : 200 ≤ F) (kp : Bool) {zs : List Pt} (hl : zs.length ≤ 1000) (fl rf : Int) (p : Pt) (r : Int) : f_fence_may F kp (cellsP zs) 0 zs.length fl rf p.1 p.2 r = some (.v (.bool (mayB zs fl rf p r))) := by
  obtain ⟨k1, k2⟩ := a_Check F kp hl fl rf
  obtain ⟨r1, r2⟩ := a_right F hF p.1 p.2
  unfold f_fence_may mayB
  refine bp k1 ?_
  rw [k2, r2]
  cases checkB zs fl rf with
  | false => rfl
  | true =>
    refine bp (by rfl) (bp r1 ?_)
    show (bif rightB p then _ else _) = _
    cases rightB p with
    | false => rfl
    | true =>
      by_cases h : 0 ≤ r
      · show (bif true then (bif decide (0 ≤ r) then some (VV.v (.bool (decide (r ≤ 1152921504606846976)))) else _) else _) = _
        rw [dt h]; rfl
      · show (bif true then (bif decide (0 ≤ r) then some (VV.v (.bool (decide (r ≤ 1152921504606846976)))) else _) else _) = _
        rw [df h]; rfl
theorem a_may (F : Nat) (hF : 200 ≤ F) (kp : Bool) {zs : List Pt} (hl : zs.length ≤ 1000) (fl rf : Int) (p : Pt) (r : Int) : ok_fence_may F kp (cellsP zs) 0 zs.length fl rf p.1 p.2 r = true ∧ o_fence_may_0 F kp (cellsP zs) 0 zs.length fl rf p.1 p.2 r = mayB zs fl rf p r :=
  k_fence_may F _ _ _ _ _ _ _ _ _ (f_may F hF kp hl fl rf p r)
theorem may_calls (kp : Bool) (fl rf : Int) (zs : List Pt) (a : Option Addr) (cap : Nat) (w : World) (hz : ZIn w zs a cap) (p : Pt) (r : Int) :
    CallsIn Fence.wide 0 PP 24 #[.agg #[.bool kp, .slice a zs.length cap, .int .i64 fl, .int .i64 rf], .agg #[.int .i64 p.1, .int .i64 p.2], .int .i64 r] w fun e w' => e = .returned (.bool (mayB zs fl rf p r)) ∧ Below w.heap.size w w' := by
  obtain ⟨h1, h2⟩ := a_may 200 (Nat.le_refl _) kp hz.hl fl rf p r
  have e : s_fence_may 200 [.agg [.v (.bool kp), .fs (cellsP zs) 0 zs.length 2, .v (.int .i64 fl), .v (.int .i64 rf)], .v (.agg #[.int .i64 p.1, .int .i64 p.2]), .v (.int .i64 r)] =
      some (ok_fence_may 200 kp (cellsP zs) 0 zs.length fl rf p.1 p.2 r, .v (.bool (o_fence_may_0 200 kp (cellsP zs) 0 zs.length fl rf p.1 p.2 r))) := by kernel_rfl
  rw [h1, h2] at e
  obtain ⟨_, hk⟩ := g_fence_may 200 [.agg [.v (.bool kp), .fs (cellsP zs) 0 zs.length 2, .v (.int .i64 fl), .v (.int .i64 rf)], .v (.agg #[.int .i64 p.1, .int .i64 p.2]), .v (.int .i64 r)] (.v (.bool (mayB zs fl rf p r))) (by unfold unS; rw [e])
  refine callsIn_wide.2 ((hk w _ (fun b => b < w.heap.size) (fun _ h => h) rfl (fun i x hx => ?_)).mono ?_)
  · match i, hx with
    | 0, hx => cases hx; exact ⟨_, rfl, hz.rel kp fl rf⟩
    | 1, hx => cases hx; exact ⟨_, rfl, .v _ _⟩
    | 2, hx => cases hx; exact ⟨_, rfl, .v _ _⟩
  · rintro e w' ⟨v, rfl, hb, hr⟩
    obtain rfl := hr.1.v_inv
    exact ⟨rfl, hb⟩

/-- the world once Touches has laid its own blocks. -/
def W11 (w : World) (kp : Bool) (a : Option Addr) (n cap : Nat) (fl rf : Int) (p : Pt) : World :=
  (((w.alloc (.cells #[.bool kp, .slice a n cap, .int .i64 fl, .int .i64 rf] 25)).alloc (.cells #[.int .i64 p.1, .int .i64 p.2] 33)).alloc (.cells #[.bool false] 4)).alloc (.cells #[.int .i64 0] 34)
theorem W11_facts (w : World) (kp : Bool) (a : Option Addr) (n cap : Nat) (fl rf : Int) (p : Pt) : Below w.heap.size w (W11 w kp a n cap fl rf p) ∧ (W11 w kp a n cap fl rf p).heap.size = w.heap.size + 4 ∧
    (W11 w kp a n cap fl rf p).heap[w.heap.size]? = some (.cells #[.bool kp, .slice a n cap, .int .i64 fl, .int .i64 rf] 25 (0, 0)) ∧
    (W11 w kp a n cap fl rf p).heap[w.heap.size + 1]? = some (.cells #[.int .i64 p.1, .int .i64 p.2] 33 (0, 0)) ∧
    (W11 w kp a n cap fl rf p).heap[w.heap.size + 2]? = some (.cells #[.bool false] 4 (0, 0)) ∧
    (W11 w kp a n cap fl rf p).heap[w.heap.size + 3]? = some (.cells #[.int .i64 0] 34 (0, 0)) := by
  unfold W11
  refine ⟨((((Below.refl _ w).alloc (Nat.le_refl _) _).alloc (by simp) _).alloc (by simp; omega) _).alloc (by simp; omega) _, by simp, ?_, ?_, ?_, ?_⟩
  · exact (Below.heap_alloc _ _ _ (by simp; omega)).trans ((Below.heap_alloc _ _ _ (by simp; omega)).trans ((Below.heap_alloc _ _ _ (by simp)).trans (World.alloc_heap_new w _)))
  · refine (Below.heap_alloc _ _ _ (by simp)).trans ((Below.heap_alloc _ _ _ (by simp)).trans ?_)
    have := World.alloc_heap_new (w.alloc (.cells #[.bool kp, .slice a n cap, .int .i64 fl, .int .i64 rf] 25)) (.cells #[.int .i64 p.1, .int .i64 p.2] 33)
    rwa [World.size_alloc] at this
  · refine (Below.heap_alloc _ _ _ (by simp)).trans ?_
    have := World.alloc_heap_new ((w.alloc (.cells #[.bool kp, .slice a n cap, .int .i64 fl, .int .i64 rf] 25)).alloc (.cells #[.int .i64 p.1, .int .i64 p.2] 33)) (.cells #[.bool false] 4)
    rwa [World.size_alloc, World.size_alloc] at this
  · have := World.alloc_heap_new (((w.alloc (.cells #[.bool kp, .slice a n cap, .int .i64 fl, .int .i64 rf] 25)).alloc (.cells #[.int .i64 p.1, .int .i64 p.2] 33)).alloc (.cells #[.bool false] 4)) (.cells #[.int .i64 0] 34)
    rwa [World.size_alloc, World.size_alloc, World.size_alloc] at this

set_option maxRecDepth 100000 in
set_option maxHeartbeats 4000000 in
theorem Touches_calls (kp : Bool) (fl rf : Int) (zs : List Pt) (a : Option Addr) (cap : Nat) (w : World) (hz : ZIn w zs a cap) (p : Pt) (r : Int) :
    CallsIn Fence.wide 0 PP 11 #[.agg #[.bool kp, .slice a zs.length cap, .int .i64 fl, .int .i64 rf], .agg #[.int .i64 p.1, .int .i64 p.2], .int .i64 r] w
      fun e w' => e = .returned (.tuple #[.bool (mayB zs fl rf p r && touchesB zs p r), .int .i64 (bif mayB zs fl rf p r then 0 else 2)]) ∧ Below w.heap.size w w' := by
  refine callsIn_of_wp_marks Proofs.Try.func11 rfl trivial ?_ rfl
  simp only [Proofs.Try.ntmps11, List.size_toArray, List.length_cons, List.length_nil, Nat.reduceAdd, Nat.reduceSub, Array.replicate_succ, Array.replicate_zero, List.push_toArray, List.append_toArray, List.nil_append, List.cons_append]
  obtain ⟨hw0, hs0, b0, b1, b2, b3⟩ := W11_facts w kp a zs.length cap fl rf p
  have hm := may_calls kp fl rf zs a cap _ (hz.below hw0) p r
  gi_wp2_with (refine ⟨trivial, rfl, ?_⟩; refine hm.mono ?_; clear hm; rintro e w1 ⟨rfl, hB1⟩; have u0 := (hB1.block _ (by omega)).trans b0; have u1 := (hB1.block _ (by omega)).trans b1; have u2 := (hB1.block _ (by omega)).trans b2; have u3 := (hB1.block _ (by omega)).trans b3; have c0 := cell_blk (o := 0) u0; have c1 := cell_blk (o := 1) u0; have c2 := cell_blk (o := 2) u0; have c3 := cell_blk (o := 3) u0; have d0 := cell_blk (o := 0) u1; have d1 := cell_blk (o := 1) u1; have r0 := cell_blk (o := 0) u2; have r1 := cell_blk (o := 0) u3; have f0 := frozen_blk (o := 0) u2 (by decide); have f1 := frozen_blk (o := 0) u3 (by decide); have hw1 := hw0.trans (hB1.mono (by omega)); have hs1 := hB1.size; rw [hs0] at hs1; clear hw0 hB1 hs0; have bq := fun (b : Nat) (o : Obj) (h : w1.heap[b]? = some o) => (Below.heap_alloc w1 (.cells #[.int .i64 p.1, .int .i64 p.2, .int .i64 r] 64) b (Array.getElem?_eq_some_iff.1 h).1).trans h; have c0q := cell_blk (o := 0) (bq _ _ u0); have c1q := cell_blk (o := 1) (bq _ _ u0); have c2q := cell_blk (o := 2) (bq _ _ u0); have c3q := cell_blk (o := 3) (bq _ _ u0))
  · have hm' : mayB zs fl rf p r = false := by
      have h1 : (!mayB zs fl rf p r) = true := by assumption
      simpa using h1
    have s1 := setCell_blk (o := 0) (v := .bool false) u2
    have s2 : (w1.setCell { block := w.heap.size + 1 + 1, off := 0 } (Value.bool false)).heap[w.heap.size + 3]? = some (.cells #[.int .i64 0] 34 (0, 0)) := (Below.heap_setCell w1 ⟨w.heap.size + 1 + 1, 0, none⟩ _ _ (by show w.heap.size + 3 ≠ w.heap.size + 1 + 1; omega)).trans u3
    have s3 := setCell_blk (o := 0) (v := .int .i64 2) s2
    have s4 := (Below.heap_setCell (w1.setCell { block := w.heap.size + 1 + 1, off := 0 } (Value.bool false)) ⟨w.heap.size + 1 + 1 + 1, 0, none⟩ (Value.int .i64 2) (w.heap.size + 2) (by show w.heap.size + 2 ≠ w.heap.size + 1 + 1 + 1; omega)).trans s1
    have t1 := cell_blk (o := 0) s3
    have t2 := cell_blk (o := 0) s4
    have hbl : Below w.heap.size w ((w1.setCell { block := w.heap.size + 1 + 1, off := 0 } (Value.bool false)).setCell { block := w.heap.size + 1 + 1 + 1, off := 0 } (Value.int .i64 2)) :=
      (hw1.setCell (p := ⟨w.heap.size + 1 + 1, 0, none⟩) (by show _ ≤ w.heap.size + 1 + 1; omega) _).setCell (p := ⟨w.heap.size + 1 + 1 + 1, 0, none⟩) (by show _ ≤ w.heap.size + 1 + 1 + 1; omega) _
    refine leave_plain (v := .tuple #[.bool false, .int .i64 2]) rfl ?_ ⟨by rw [hm']; rfl, hbl⟩
    generalize ((w1.setCell { block := w.heap.size + 1 + 1, off := 0 } (Value.bool false)).setCell { block := w.heap.size + 1 + 1 + 1, off := 0 } (Value.int .i64 2)) = wz at *
    simp [results, Proofs.Try.f11, go_sem, t1, t2]
  · have hm' : mayB zs fl rf p r = true := by
      first
        | assumption
        | (have h1 : (!mayB zs fl rf p r) = false := by assumption
           simpa using h1)
    obtain ⟨hS, hfl, hp, hr⟩ := mayB_sound hm'
    obtain ⟨b, q, rfl, hb, hL⟩ := hz.pos (by have := hS.lo; omega)
    have hi := hS.hi
    have hlo := hS.lo
    have b2q := bq _ _ u2
    have b3q := bq _ _ u3
    have bsq := World.alloc_heap_new w1 (.cells #[.int .i64 p.1, .int .i64 p.2, .int .i64 r] 64)
    have hwq := hw1.alloc (by have := hw1.size; omega) (.cells #[.int .i64 p.1, .int .i64 p.2, .int .i64 r] 64)
    have hsq : (w1.alloc (.cells #[.int .i64 p.1, .int .i64 p.2, .int .i64 r] 64)).heap.size = w1.heap.size + 1 := by simp
    clear c0 c1 c2 c3 c0q c1q c2q c3q d0 d1 r0 r1 f0 f1 bq b0 b1 b2 b3 u0 u1 u2 u3
    generalize w1.alloc (.cells #[.int .i64 p.1, .int .i64 p.2, .int .i64 r] 64) = W0 at *
    generalize hq : w1.heap.size = sq at *
    rw [hm', Bool.not_true]
    refine range_recv (gf := 21) (z := .agg #[.bool kp, .slice (some ⟨b, q, none⟩) zs.length cap, .int .i64 fl, .int .i64 rf]) rfl (Proofs.enters_of Proofs.Try.func21 (by kernel_rfl) rfl) (encs := edgeV) (xs := edgesOf zs zs.length) (fun _ => rfl)
      (edges_gives zs kp fl rf b q cap (by omega) (by omega) w.heap.size w hb (Nat.le_refl _) hL) (Nat.le_refl _) hwq
      (fun k => k = w.heap.size + 2 ∨ k = w.heap.size + 3) (fun k hk => by omega)
      (fun pre W => (∀ e ∈ pre, touchB e.1 e.2 p r = false) ∧ (W.heap[sq]? = some (.cells #[.int .i64 p.1, .int .i64 p.2, .int .i64 r] 64 (0, 0)) ∧ W.heap[w.heap.size + 2]? = some (.cells #[.bool false] 4 (0, 0)) ∧ W.heap[w.heap.size + 3]? = some (.cells #[.int .i64 0] 34 (0, 0))) ∧ Below w.heap.size w W)
      (fun pre W => (∃ e ∈ pre, touchB e.1 e.2 p r = true) ∧ (W.heap[w.heap.size + 2]? = some (.cells #[.bool true] 4 (0, 0)) ∧ W.heap[w.heap.size + 3]? = some (.cells #[.int .i64 0] 34 (0, 0))) ∧ Below w.heap.size w W)
      (fun pre X Y h hb => ⟨h.1, ⟨by rw [hb.block _ (by omega)]; exact h.2.1.1, by rw [hb.block _ (by omega)]; exact h.2.1.2.1, by rw [hb.block _ (by omega)]; exact h.2.1.2.2⟩, h.2.2.trans (hb.mono (by omega))⟩)
      (fun pre X Y h hb => ⟨h.1, ⟨by rw [hb.block _ (by omega)]; exact h.2.1.1, by rw [hb.block _ (by omega)]; exact h.2.1.2⟩, h.2.2.trans (hb.mono (by omega))⟩)
      ⟨by simp, ⟨bsq, b2q, b3q⟩, hwq⟩
      (fun x m a' X => X.heap[m]? = some (.cells #[.int .i64 x.1.1, .int .i64 x.1.2] 33 (0, 0)) ∧ X.heap[m + 1]? = some (.cells #[.int .i64 x.2.1, .int .i64 x.2.2] 33 (0, 0)) ∧
        a' = { tmps := #[Value.agg #[Value.bool kp, Value.slice (some ⟨b, q, none⟩) zs.length cap, Value.int IntKind.i64 fl, Value.int IntKind.i64 rf], Value.agg #[Value.int IntKind.i64 p.fst, Value.int IntKind.i64 p.snd], Value.int IntKind.i64 r, Value.pointer (some { block := w.heap.size, off := 0 }), Value.pointer (some { block := w.heap.size + 1, off := 0 }), undef, Value.pointer (some { block := w.heap.size + 1 + 1, off := 0 }), Value.pointer (some { block := w.heap.size + 1 + 1 + 1, off := 0 }), Value.pointer (some { block := sq, off := 0 }), Value.pointer (some { block := m, off := 0 }), Value.pointer (some { block := m + 1, off := 0 }), Value.agg #[Value.bool kp, Value.slice (some ⟨b, q, none⟩) zs.length cap, Value.int IntKind.i64 fl, Value.int IntKind.i64 rf], Value.agg #[Value.int IntKind.i64 p.fst, Value.int IntKind.i64 p.snd], Value.int IntKind.i64 r, Value.bool true, Value.bool false, Value.agg #[Value.int IntKind.i64 p.fst, Value.int IntKind.i64 p.snd], Value.int IntKind.i64 r, Value.agg #[Value.int IntKind.i64 p.fst, Value.int IntKind.i64 p.snd, Value.int IntKind.i64 r], Value.agg #[Value.bool kp, Value.slice (some ⟨b, q, none⟩) zs.length cap, Value.int IntKind.i64 fl, Value.int IntKind.i64 rf], Value.func (Fn.func 21) #[Value.agg #[Value.bool kp, Value.slice (some ⟨b, q, none⟩) zs.length cap, Value.int IntKind.i64 fl, Value.int IntKind.i64 rf]] #[], ptV x.1, ptV x.2, undef, undef, undef, undef], defers := [] })
      (fun x m a' X l o hl h => ⟨by rw [World.putObj_heap_other (by omega)]; exact h.1, by rw [World.putObj_heap_other (by omega)]; exact h.2.1, h.2.2⟩)
      ?assign ?body ?done ?stop
    case assign =>
      intro l x X K hX hK
      gi_wp2
      refine hK _ _ (((Below.refl _ X).alloc (Nat.le_refl _) _).alloc (by simp) _) ⟨?_, ?_, rfl⟩
      · exact (Below.heap_alloc _ _ _ (by simp)).trans (World.alloc_heap_new X _)
      · have := World.alloc_heap_new (X.alloc (.cells #[.int .i64 x.1.1, .int .i64 x.1.2] 33)) (.cells #[.int .i64 x.2.1, .int .i64 x.2.2] 33); rw [World.size_alloc] at this; exact this
    case body =>
      rintro l pre x m a' X hm hmX ⟨hI1, ⟨hI2, hI3, hI4⟩, hI5⟩ ⟨hb1, hb2, rfl⟩ hpre
      obtain ⟨jx, hjx, rfl⟩ := edge_mem (prefix_mem hpre (x := x) (by simp))
      have c0 : X.cell? ⟨m, 0, none⟩ = some (.int .i64 (edge zs jx).1.1) := cell_blk hb1
      have c1 : X.cell? ⟨m, 1, none⟩ = some (.int .i64 (edge zs jx).1.2) := cell_blk hb1
      have d0 : X.cell? ⟨m + 1, 0, none⟩ = some (.int .i64 (edge zs jx).2.1) := cell_blk hb2
      have d1 : X.cell? ⟨m + 1, 1, none⟩ = some (.int .i64 (edge zs jx).2.2) := cell_blk hb2
      have q0 : X.cell? ⟨sq, 0, none⟩ = some (.int .i64 p.1) := cell_blk hI2
      have q1 : X.cell? ⟨sq, 1, none⟩ = some (.int .i64 p.2) := cell_blk hI2
      have q2 : X.cell? ⟨sq, 2, none⟩ = some (.int .i64 r) := cell_blk hI2
      have hlt2 := (Array.getElem?_eq_some_iff.1 hI3).1
      have hlt3 := (Array.getElem?_eq_some_iff.1 hI4).1
      have hcall := fun w => touches_calls hp hr (hS.ok jx) (hS.ok ((jx + 1) % zs.length)) w
      gi_wp2_with (refine ⟨trivial, rfl, ?_⟩; refine (CallsIn.inRound l (hcall _)).mono ?_; clear hcall; rintro e w' ⟨rfl, hB'⟩; have i3 := (hB'.block _ hlt2).trans hI3; have i4 := (hB'.block _ hlt3).trans hI4; have f0' := frozen_blk (o := 0) i3 (by decide); have r0' := cell_blk (o := 0) i3; have f1' := frozen_blk (o := 0) i4 (by decide); have r1' := cell_blk (o := 0) i4)
      · have e1 : touchB (edge zs jx).1 (edge zs jx).2 p r = true := by assumption
        have s1 := setCell_blk (o := 0) (v := .bool true) i3
        have s2 : (w'.setCell { block := w.heap.size + 1 + 1, off := 0 } (Value.bool true)).heap[w.heap.size + 3]? = some (.cells #[.int .i64 0] 34 (0, 0)) := (Below.heap_setCell w' ⟨w.heap.size + 1 + 1, 0, none⟩ _ _ (by show w.heap.size + 3 ≠ w.heap.size + 1 + 1; omega)).trans i4
        have s3 := setCell_blk (o := 0) (v := .int .i64 0) s2
        have s4 := (Below.heap_setCell (w'.setCell { block := w.heap.size + 1 + 1, off := 0 } (Value.bool true)) ⟨w.heap.size + 1 + 1 + 1, 0, none⟩ (Value.int .i64 0) (w.heap.size + 2) (by show w.heap.size + 2 ≠ w.heap.size + 1 + 1 + 1; omega)).trans s1
        exact ⟨((Keep.of hB').trans (Keep.setCell (.inl rfl))).trans (Keep.setCell (.inr rfl)), ⟨edge zs jx, by simp, e1⟩, ⟨s4, s3⟩,
          ((hI5.trans (hB'.mono (by have := hI5.size; omega))).setCell (p := ⟨w.heap.size + 1 + 1, 0, none⟩) (by show _ ≤ w.heap.size + 1 + 1; omega) _).setCell (p := ⟨w.heap.size + 1 + 1 + 1, 0, none⟩) (by show _ ≤ w.heap.size + 1 + 1 + 1; omega) _⟩
      · have e1 : touchB (edge zs jx).1 (edge zs jx).2 p r = false := by
          first
            | assumption
            | (have h1 : ¬ touchB (edge zs jx).1 (edge zs jx).2 p r = true := by assumption
               simpa using h1)
        refine ⟨Keep.of hB', ⟨fun e he => ?_, ⟨(hB'.block _ (by omega)).trans hI2, i3, i4⟩, hI5.trans (hB'.mono (by have := hI5.size; omega))⟩⟩
        rcases List.mem_append.1 he with he | he
        · exact hI1 e he
        · simp only [List.mem_singleton] at he
          subst he
          exact e1
    case done =>
      rintro D W hD ⟨hI1, ⟨hI2, hI3, hI4⟩, hI5⟩ hK
      have f0 := frozen_blk (o := 0) hI3 (by decide)
      have r0 := cell_blk (o := 0) hI3
      have f1 := frozen_blk (o := 0) hI4 (by decide)
      have r1 := cell_blk (o := 0) hI4
      gi_wp2
      have hlt2 := (Array.getElem?_eq_some_iff.1 hI3).1
      have s1 := setCell_blk (o := 0) (v := .bool false) hI3
      have s2 : (W.setCell { block := w.heap.size + 1 + 1, off := 0 } (Value.bool false)).heap[w.heap.size + 3]? = some (.cells #[.int .i64 0] 34 (0, 0)) := (Below.heap_setCell W ⟨w.heap.size + 1 + 1, 0, none⟩ _ _ (by show w.heap.size + 3 ≠ w.heap.size + 1 + 1; omega)).trans hI4
      have s3 := setCell_blk (o := 0) (v := .int .i64 0) s2
      have s4 := (Below.heap_setCell (W.setCell { block := w.heap.size + 1 + 1, off := 0 } (Value.bool false)) ⟨w.heap.size + 1 + 1 + 1, 0, none⟩ (Value.int .i64 0) (w.heap.size + 2) (by show w.heap.size + 2 ≠ w.heap.size + 1 + 1 + 1; omega)).trans s1
      have ht : touchesB zs p r = false := by
        cases ht : touchesB zs p r with
        | false => rfl
        | true =>
          obtain ⟨j, h1, h2, h3⟩ := anyN_iff.1 ht
          have := hI1 (edge zs j) (by simp only [edgesOf, List.mem_map, List.mem_range]; exact ⟨j, by omega, rfl⟩)
          rw [h3] at this; cases this
      have hK2 := ((KeepsOthers.setCell W ⟨w.heap.size + 1 + 1, 0, none⟩ (.bool false)).trans (KeepsOthers.setCell _ ⟨w.heap.size + 1 + 1 + 1, 0, none⟩ (.int .i64 0))).same D _ hK rfl
      have hbl := (hI5.setCell (p := ⟨w.heap.size + 1 + 1, 0, none⟩) (by show _ ≤ w.heap.size + 1 + 1; omega) (.bool false)).setCell (p := ⟨w.heap.size + 1 + 1 + 1, 0, none⟩) (by show _ ≤ w.heap.size + 1 + 1 + 1; omega) (.int .i64 0)
      refine leave_mark (D := D) (v := .tuple #[.bool false, .int .i64 0]) rfl hK2 ?_ ⟨by rw [hm', ht]; rfl, putObj_below hbl (by omega)⟩
      have t1 := cell_blk (o := 0) ((World.putObj_heap_other (r := D) (o := .deferred none) (by omega)).trans s4)
      have t2 := cell_blk (o := 0) ((World.putObj_heap_other (r := D) (o := .deferred none) (by omega)).trans s3)
      generalize World.putObj _ D (.deferred none) = wz at *
      simp [results, Proofs.Try.f11, go_sem, t1, t2]
    case stop =>
      rintro D pre x W hD hpre ⟨⟨e, he1, he2⟩, ⟨hI3, hI4⟩, hI5⟩ hK
      have hlt2 := (Array.getElem?_eq_some_iff.1 hI3).1
      have ht : touchesB zs p r = true := by
        obtain ⟨j, hj, rfl⟩ := edge_mem (prefix_mem hpre he1)
        exact anyN_iff.2 ⟨j, by omega, by omega, he2⟩
      refine leave_mark (D := D) (v := .tuple #[.bool true, .int .i64 0]) rfl hK ?_ ⟨by rw [hm', ht]; rfl, putObj_below hI5 (by omega)⟩
      have t1 := cell_blk (o := 0) ((World.putObj_heap_other (r := D) (o := .deferred none) (by omega)).trans hI3)
      have t2 := cell_blk (o := 0) ((World.putObj_heap_other (r := D) (o := .deferred none) (by omega)).trans hI4)
      generalize World.putObj _ D (.deferred none) = wz at *
      simp [results, Proofs.Try.f11, go_sem, t1, t2]
end Go.Xv
namespace Go.Xv
open Go.RowKit Go.Shelf
attribute [local go_sem] Oper.semAt_some

/-- the world once Within has laid its own blocks. -/
def W8 (w : World) (kp : Bool) (a : Option Addr) (n cap : Nat) (fl rf : Int) (p : Pt) : World :=
  (w.alloc (.cells #[.bool kp, .slice a n cap, .int .i64 fl, .int .i64 rf] 25)).alloc (.cells #[.int .i64 p.1, .int .i64 p.2] 33)
theorem W8_facts (w : World) (kp : Bool) (a : Option Addr) (n cap : Nat) (fl rf : Int) (p : Pt) : Below w.heap.size w (W8 w kp a n cap fl rf p) ∧ (W8 w kp a n cap fl rf p).heap.size = w.heap.size + 2 ∧
    (W8 w kp a n cap fl rf p).heap[w.heap.size]? = some (.cells #[.bool kp, .slice a n cap, .int .i64 fl, .int .i64 rf] 25 (0, 0)) ∧
    (W8 w kp a n cap fl rf p).heap[w.heap.size + 1]? = some (.cells #[.int .i64 p.1, .int .i64 p.2] 33 (0, 0)) := by
  unfold W8
  refine ⟨((Below.refl _ w).alloc (Nat.le_refl _) _).alloc (by simp) _, by simp, ?_, ?_⟩
  · exact (Below.heap_alloc _ _ _ (by simp)).trans (World.alloc_heap_new w _)
  · have := World.alloc_heap_new (w.alloc (.cells #[.bool kp, .slice a n cap, .int .i64 fl, .int .i64 rf] 25)) (.cells #[.int .i64 p.1, .int .i64 p.2] 33)
    rwa [World.size_alloc] at this

theorem sgn_gt {x : Int} : 0 < sgn x ↔ 0 < x := by
  have := sgn_bd x
  have := sgn_pos (x := x)
  omega
def parE (p : Pt) (l : List (Pt × Pt)) : Bool := l.foldl (fun b e => if crossB e.1 e.2 p then !b else b) false
theorem parE_snoc (p : Pt) (l : List (Pt × Pt)) (e : Pt × Pt) : parE p (l ++ [e]) = if crossB e.1 e.2 p then !(parE p l) else parE p l := by simp [parE]
theorem parE_edges (p : Pt) (zs : List Pt) : ∀ n, parE p (edgesOf zs n) = decide (cntN (fun k => crossB (edge zs k).1 (edge zs k).2 p) 0 n % 2 = 1)
  | 0 => rfl
  | n + 1 => by
    rw [edgesOf_succ, parE_snoc, parE_edges p zs n, cntN_snoc, Nat.zero_add]
    cases hc : crossB (edge zs n).1 (edge zs n).2 p with
    | false => simp
    | true =>
      simp only [if_true]
      by_cases h : cntN (fun k => crossB (edge zs k).1 (edge zs k).2 p) 0 n % 2 = 1
      · rw [dt h, df (by omega)]; rfl
      · rw [df h, dt (by omega)]; rfl

set_option maxRecDepth 100000 in
set_option maxHeartbeats 4000000 in
theorem Within_calls (kp : Bool) (fl rf : Int) (zs : List Pt) (a : Option Addr) (cap : Nat) (w : World) (hz : ZIn w zs a cap) (p : Pt) :
    CallsIn Fence.wide 0 PP 8 #[.agg #[.bool kp, .slice a zs.length cap, .int .i64 fl, .int .i64 rf], .agg #[.int .i64 p.1, .int .i64 p.2]] w
      fun e w' => e = .returned (.tuple #[.bool (mayB zs fl rf p 0 && withinB zs p), .int .i64 (bif mayB zs fl rf p 0 then 0 else 2)]) ∧ Below w.heap.size w w' := by
  refine callsIn_of_wp_marks Proofs.Try.func8 rfl trivial ?_ rfl
  simp only [Proofs.Try.ntmps8, List.size_toArray, List.length_cons, List.length_nil, Nat.reduceAdd, Nat.reduceSub, Array.replicate_succ, Array.replicate_zero, List.push_toArray, List.append_toArray, List.nil_append, List.cons_append]
  obtain ⟨hw0, hs0, b0, b1⟩ := W8_facts w kp a zs.length cap fl rf p
  have hm := Touches_calls kp fl rf zs a cap _ (hz.below hw0) p 0
  cases hmay : mayB zs fl rf p 0 with
  | false =>
    rw [hmay] at hm
    simp only [Bool.false_and, cond_false] at hm ⊢
    gi_wp2_with (refine ⟨trivial, rfl, ?_⟩; refine hm.mono ?_; clear hm; rintro e w1 ⟨rfl, hB1⟩)
    refine leave_plain (v := .tuple #[.bool false, .int .i64 2]) rfl (by simp [results, Proofs.Try.f8, go_sem]) ⟨rfl, hw0.trans (hB1.mono (by omega))⟩
  | true =>
    rw [hmay] at hm
    simp only [Bool.true_and, cond_true] at hm ⊢
    unfold withinB
    cases ht : touchesB zs p 0 with
    | true =>
      rw [ht] at hm
      simp only [Bool.true_or]
      gi_wp2_with (refine ⟨trivial, rfl, ?_⟩; refine hm.mono ?_; clear hm; rintro e w1 ⟨rfl, hB1⟩)
      refine leave_plain (v := .tuple #[.bool true, .int .i64 0]) rfl (by simp [results, Proofs.Try.f8, go_sem]) ⟨rfl, hw0.trans (hB1.mono (by omega))⟩
    | false =>
      rw [ht] at hm
      simp only [Bool.false_or]
      gi_wp2_with (refine ⟨trivial, rfl, ?_⟩; refine hm.mono ?_; clear hm; rintro e w1 ⟨rfl, hB1⟩; have u0 := (hB1.block _ (by omega)).trans b0; have u1 := (hB1.block _ (by omega)).trans b1; have hw1 := hw0.trans (hB1.mono (by omega)); have hs1 := hB1.size; rw [hs0] at hs1; clear hw0 hB1 hs0; have bq := fun (b : Nat) (o : Obj) (h : w1.heap[b]? = some o) => (Below.heap_alloc w1 (.cells #[.bool false] 4) b (Array.getElem?_eq_some_iff.1 h).1).trans h; have c0q := cell_blk (o := 0) (bq _ _ u0); have c1q := cell_blk (o := 1) (bq _ _ u0); have c2q := cell_blk (o := 2) (bq _ _ u0); have c3q := cell_blk (o := 3) (bq _ _ u0))
      obtain ⟨hS, hfl, hp, hr⟩ := mayB_sound hmay
      obtain ⟨b, q, rfl, hb, hL⟩ := hz.pos (by have := hS.lo; omega)
      have hi := hS.hi
      have hlo := hS.lo
      have u1q := bq _ _ u1
      have bsq := World.alloc_heap_new w1 (.cells #[.bool false] 4)
      have hwq := hw1.alloc (by have := hw1.size; omega) (.cells #[.bool false] 4)
      have hsq : (w1.alloc (.cells #[.bool false] 4)).heap.size = w1.heap.size + 1 := by simp
      clear c0q c1q c2q c3q bq b0 b1 u0 u1
      generalize w1.alloc (.cells #[.bool false] 4) = W0 at *
      generalize hq : w1.heap.size = sq at *
      refine range_recv (gf := 21) (z := .agg #[.bool kp, .slice (some ⟨b, q, none⟩) zs.length cap, .int .i64 fl, .int .i64 rf]) rfl (Proofs.enters_of Proofs.Try.func21 (by kernel_rfl) rfl) (encs := edgeV) (xs := edgesOf zs zs.length) (fun _ => rfl)
        (edges_gives zs kp fl rf b q cap (by omega) (by omega) w.heap.size w hb (Nat.le_refl _) hL) (Nat.le_refl _) hwq
        (fun k => k = sq) (fun k hk => by omega)
        (fun pre W => (W.heap[sq]? = some (.cells #[.bool (parE p pre)] 4 (0, 0)) ∧ W.heap[w.heap.size + 1]? = some (.cells #[.int .i64 p.1, .int .i64 p.2] 33 (0, 0))) ∧ Below w.heap.size w W)
        (fun _ _ => False)
        (fun pre X Y h hb => ⟨⟨by rw [hb.block _ (by omega)]; exact h.1.1, by rw [hb.block _ (by omega)]; exact h.1.2⟩, h.2.trans (hb.mono (by omega))⟩)
        (fun pre X Y h hb => h)
        ⟨⟨bsq, u1q⟩, hwq⟩
        (fun x m a' X => X.heap[m]? = some (.cells #[.int .i64 x.1.1, .int .i64 x.1.2] 33 (0, 0)) ∧ X.heap[m + 1]? = some (.cells #[.int .i64 x.2.1, .int .i64 x.2.2] 33 (0, 0)) ∧
          a' = { tmps := #[Value.agg #[Value.bool kp, Value.slice (some ⟨b, q, none⟩) zs.length cap, Value.int IntKind.i64 fl, Value.int IntKind.i64 rf], Value.agg #[Value.int IntKind.i64 p.fst, Value.int IntKind.i64 p.snd], Value.pointer (some { block := w.heap.size, off := 0 }), Value.pointer (some { block := w.heap.size + 1, off := 0 }), Value.bool false, Value.int IntKind.i64 0, Value.bool false, Value.int IntKind.i64 0, Value.pointer (some { block := sq, off := 0 }), Value.pointer (some { block := m, off := 0 }), Value.pointer (some { block := m + 1, off := 0 }), undef, Value.tuple #[Value.bool false, Value.int IntKind.i64 0], Value.agg #[Value.bool kp, Value.slice (some ⟨b, q, none⟩) zs.length cap, Value.int IntKind.i64 fl, Value.int IntKind.i64 rf], Value.agg #[Value.int IntKind.i64 p.fst, Value.int IntKind.i64 p.snd], Value.tuple #[Value.bool false, Value.int IntKind.i64 0], Value.bool false, Value.int IntKind.i64 0, Value.int IntKind.i64 0, Value.bool false, Value.bool false, Value.bool false, Value.bool false, undef, undef, Value.agg #[Value.bool kp, Value.slice (some ⟨b, q, none⟩) zs.length cap, Value.int IntKind.i64 fl, Value.int IntKind.i64 rf], Value.func (Fn.func 21) #[Value.agg #[Value.bool kp, Value.slice (some ⟨b, q, none⟩) zs.length cap, Value.int IntKind.i64 fl, Value.int IntKind.i64 rf]] #[], ptV x.1, ptV x.2, undef, undef, undef, undef, undef, undef, undef, undef, undef, undef, undef, undef, undef, undef, undef, undef, undef, undef, undef, undef, undef, undef, undef, undef, undef], defers := [] })
        (fun x m a' X l o hl h => ⟨by rw [World.putObj_heap_other (by omega)]; exact h.1, by rw [World.putObj_heap_other (by omega)]; exact h.2.1, h.2.2⟩)
        ?assign ?body ?done ?stop
      case assign =>
        intro l x X K hX hK
        gi_wp2
        refine hK _ _ (((Below.refl _ X).alloc (Nat.le_refl _) _).alloc (by simp) _) ⟨?_, ?_, rfl⟩
        · exact (Below.heap_alloc _ _ _ (by simp)).trans (World.alloc_heap_new X _)
        · have := World.alloc_heap_new (X.alloc (.cells #[.int .i64 x.1.1, .int .i64 x.1.2] 33)) (.cells #[.int .i64 x.2.1, .int .i64 x.2.2] 33); rw [World.size_alloc] at this; exact this
      case body =>
        rintro l pre x m a' X hm hmX ⟨⟨hI1, hI2⟩, hI3⟩ ⟨hb1, hb2, rfl⟩ hpre
        obtain ⟨jx, hjx, rfl⟩ := edge_mem (prefix_mem hpre (x := x) (by simp))
        have oa := hS.ok jx
        have ob := hS.ok ((jx + 1) % zs.length)
        have hcall := fun w => side_calls hp oa ob w
        have ea : (edge zs jx).1 = at0 zs jx := rfl
        have eb : (edge zs jx).2 = at0 zs ((jx + 1) % zs.length) := rfl
        rw [ea] at hb1
        rw [eb] at hb2
        have c0 : X.cell? ⟨m, 0, none⟩ = some (.int .i64 (at0 zs jx).1) := cell_blk hb1
        have c1 : X.cell? ⟨m, 1, none⟩ = some (.int .i64 (at0 zs jx).2) := cell_blk hb1
        have d0 : X.cell? ⟨m + 1, 0, none⟩ = some (.int .i64 (at0 zs ((jx + 1) % zs.length)).1) := cell_blk hb2
        have d1 : X.cell? ⟨m + 1, 1, none⟩ = some (.int .i64 (at0 zs ((jx + 1) % zs.length)).2) := cell_blk hb2
        have q0 : X.cell? ⟨w.heap.size + 1, 0, none⟩ = some (.int .i64 p.1) := cell_blk hI2
        have q1 : X.cell? ⟨w.heap.size + 1, 1, none⟩ = some (.int .i64 p.2) := cell_blk hI2
        have f0 := frozen_blk (o := 0) hI1 (by simp)
        have r0 := cell_blk (o := 0) hI1
        have hlt1 := (Array.getElem?_eq_some_iff.1 hI1).1
        have hlt2 := (Array.getElem?_eq_some_iff.1 hI2).1
        have snoc : ∀ c, crossB (at0 zs jx) (at0 zs ((jx + 1) % zs.length)) p = c → parE p (pre ++ [edge zs jx]) = if c then !(parE p pre) else parE p pre := fun c hc => by rw [parE_snoc, ea, eb, hc]
        unfold crossB at snoc
        rw [ea, eb]
        generalize at0 zs jx = a0 at *
        generalize at0 zs ((jx + 1) % zs.length) = b0 at *
        have stay : ∀ w', Below X.heap.size X w' → parE p (pre ++ [edge zs jx]) = parE p pre → roundQ (fun k => k = sq)
            (fun pre W => (W.heap[sq]? = some (.cells #[.bool (parE p pre)] 4 (0, 0)) ∧ W.heap[w.heap.size + 1]? = some (.cells #[.int .i64 p.1, .int .i64 p.2] 33 (0, 0))) ∧ Below w.heap.size w W) (fun _ _ => False) (pre ++ [edge zs jx]) X .normal { tmps := #[], defers := [] } w' :=
          fun w' hB' hs => ⟨Keep.of hB', ⟨by rw [hs]; exact (hB'.block _ hlt1).trans hI1, (hB'.block _ hlt2).trans hI2⟩, hI3.trans (hB'.mono hI3.size)⟩
        have turn : ∀ w', Below X.heap.size X w' → parE p (pre ++ [edge zs jx]) = (!parE p pre) → roundQ (fun k => k = sq)
            (fun pre W => (W.heap[sq]? = some (.cells #[.bool (parE p pre)] 4 (0, 0)) ∧ W.heap[w.heap.size + 1]? = some (.cells #[.int .i64 p.1, .int .i64 p.2] 33 (0, 0))) ∧ Below w.heap.size w W) (fun _ _ => False) (pre ++ [edge zs jx]) X .normal { tmps := #[], defers := [] } (w'.setCell ⟨sq, 0, none⟩ (.bool (!parE p pre))) :=
          fun w' hB' hs => ⟨(Keep.of hB').trans (Keep.setCell rfl), ⟨by rw [hs]; have := setCell_blk (o := 0) (v := .bool (!parE p pre)) ((hB'.block _ hlt1).trans hI1); simpa using this,
            (Below.heap_setCell w' ⟨sq, 0, none⟩ _ _ (by show w.heap.size + 1 ≠ sq; omega)).trans ((hB'.block _ hlt2).trans hI2)⟩, (hI3.trans (hB'.mono hI3.size)).setCell (p := ⟨sq, 0, none⟩) (by show _ ≤ sq; omega) _⟩
        by_cases h1 : a0.2 > p.2 <;> by_cases h2 : b0.2 > p.2
        all_goals gi_wp2_with (refine ⟨trivial, rfl, ?_⟩; refine (CallsIn.inRound l (hcall _)).mono ?_; clear hcall; rintro e w' ⟨rfl, hB'⟩; have i1 := (hB'.block _ hlt1).trans hI1; have f0' := frozen_blk (o := 0) i1 (by simp); have r0' := cell_blk (o := 0) i1)
        · refine ⟨trivial, ?_⟩
          gi_wp2
          exact stay X (Below.refl _ _) (snoc false (by rw [dt h1, dt h2]; rfl))
        · have e1 : ¬ 0 < cross a0 b0 p := by
            have h3 : (!decide (0 < sgn (cross a0 b0 p))) = true := by assumption
            rw [Bool.not_eq_true', decide_eq_false_iff_not, sgn_gt] at h3; exact h3
          exact turn w' hB' (snoc true (by rw [dt h1, df (by omega), df e1]; rfl))
        · have e1 : 0 < cross a0 b0 p := by
            have h3 : (!decide (0 < sgn (cross a0 b0 p))) = false := by assumption
            rw [Bool.not_eq_false', decide_eq_true_eq, sgn_gt] at h3; exact h3
          exact stay w' hB' (snoc false (by rw [dt h1, df (by omega), dt e1]; rfl))
        · have e1 : 0 < cross a0 b0 p := by rw [← sgn_gt]; assumption
          exact turn w' hB' (snoc true (by rw [df (by omega), dt h2, dt e1]; rfl))
        · have e1 : ¬ 0 < cross a0 b0 p := by rw [← sgn_gt]; have h3 : sgn (cross a0 b0 p) ≤ 0 := by assumption
                                              omega
          exact stay w' hB' (snoc false (by rw [df (by omega), dt h2, df e1]; rfl))
        · refine ⟨trivial, ?_⟩
          gi_wp2
          exact stay X (Below.refl _ _) (snoc false (by rw [df (by omega), df (by omega)]; rfl))
      case done =>
        rintro D W hD ⟨⟨hI1, hI2⟩, hI3⟩ hK
        have r0 := cell_blk (o := 0) hI1
        gi_wp2
        refine leave_mark (D := D) (v := .tuple #[.bool (parE p (edgesOf zs zs.length)), .int .i64 0]) rfl hK ?_ ⟨by rw [parE_edges], putObj_below hI3 (by omega)⟩
        simp [results, Proofs.Try.f8, go_sem]
      case stop =>
        rintro D pre x W hD hpre h hK
        exact h.elim
end Go.Xv
set_option linter.unusedVariables false
namespace Go.Xv
open Go.RowKit
def ti_fence_Touches : List TV := [.agg [.v (.bool), .fs .hole .hole 2, .v (.int .i64), .v (.int .i64)], .v (.agg [.int .i64, .int .i64]), .v (.int .i64)]
def to_fence_Touches : TV := .v (.tup [.bool, .int .i64])
def f_fence_Touches (F : Nat) (a0 : Bool) (a1 : List VV) (a2 : Nat) (a3 : Nat) (a4 : Int) (a5 : Int) (a6 : Int) (a7 : Int) (a8 : Int) : R :=
  match zoneOf a1 a2 a3 with
  | some zs => some (.v (.tuple #[.bool (mayB zs a4 a5 (a6, a7) a8 && touchesB zs (a6, a7) a8), .int .i64 (bif mayB zs a4 a5 (a6, a7) a8 then 0 else 2)]))
  | none => none
def ok_fence_Touches (F : Nat) (a0 : Bool) (a1 : List VV) (a2 : Nat) (a3 : Nat) (a4 : Int) (a5 : Int) (a6 : Int) (a7 : Int) (a8 : Int) : Bool := okT to_fence_Touches (f_fence_Touches F a0 a1 a2 a3 a4 a5 a6 a7 a8)
def o_fence_Touches_0 (F : Nat) (a0 : Bool) (a1 : List VV) (a2 : Nat) (a3 : Nat) (a4 : Int) (a5 : Int) (a6 : Int) (a7 : Int) (a8 : Int) : Bool := atB (nth (outT to_fence_Touches (f_fence_Touches F a0 a1 a2 a3 a4 a5 a6 a7 a8)) 0)
def o_fence_Touches_1 (F : Nat) (a0 : Bool) (a1 : List VV) (a2 : Nat) (a3 : Nat) (a4 : Int) (a5 : Int) (a6 : Int) (a7 : Int) (a8 : Int) : Int := atI (nth (outT to_fence_Touches (f_fence_Touches F a0 a1 a2 a3 a4 a5 a6 a7 a8)) 1)
theorem k_fence_Touches (F : Nat) (a0 : Bool) (a1 : List VV) (a2 : Nat) (a3 : Nat) (a4 : Int) (a5 : Int) (a6 : Int) (a7 : Int) (a8 : Int) {z0 : Bool} {z1 : Int} (h : f_fence_Touches F a0 a1 a2 a3 a4 a5 a6 a7 a8 = some (.v (.tuple #[.bool z0, .int .i64 z1]))) : ok_fence_Touches F a0 a1 a2 a3 a4 a5 a6 a7 a8 = true ∧ o_fence_Touches_0 F a0 a1 a2 a3 a4 a5 a6 a7 a8 = z0 ∧ o_fence_Touches_1 F a0 a1 a2 a3 a4 a5 a6 a7 a8 = z1 := by
  refine ⟨?_, ?_, ?_⟩
  · unfold ok_fence_Touches; rw [h]; kernel_rfl
  · unfold o_fence_Touches_0; rw [h]; kernel_rfl
  · unfold o_fence_Touches_1; rw [h]; kernel_rfl
def s_fence_Touches (F : Nat) : List VV → Option (Bool × VV) := spec ti_fence_Touches to_fence_Touches (fun q => (ok_fence_Touches F (atB (nth q 0)) (atC (nth q 1)) (atN (nth q 2)) (atN (nth q 3)) (atI (nth q 4)) (atI (nth q 5)) (atI (nth q 6)) (atI (nth q 7)) (atI (nth q 8)))) (fun q => [.b (o_fence_Touches_0 F (atB (nth q 0)) (atC (nth q 1)) (atN (nth q 2)) (atN (nth q 3)) (atI (nth q 4)) (atI (nth q 5)) (atI (nth q 6)) (atI (nth q 7)) (atI (nth q 8))), .i (o_fence_Touches_1 F (atB (nth q 0)) (atC (nth q 1)) (atN (nth q 2)) (atN (nth q 3)) (atI (nth q 4)) (atI (nth q 5)) (atI (nth q 6)) (atI (nth q 7)) (atI (nth q 8)))])
def gz_fence_Touches (F : Nat) : List VV → R
  | [.agg [.v (.bool a0), .fs a1 a2 a3 2, .v (.int .i64 a4), .v (.int .i64 a5)], .v (.agg ⟨[.int .i64 a6, .int .i64 a7]⟩), .v (.int .i64 a8)] => f_fence_Touches F a0 a1 a2 a3 a4 a5 a6 a7 a8
  | _ => none
theorem gg_fence_Touches (F : Nat) : Good PP 11 (gz_fence_Touches F) := by
  intro args r h
  unfold gz_fence_Touches at h
  split at h
  · rename_i kp c o l fl rf x y r
    unfold f_fence_Touches at h
    cases hz : zoneOf c o l with
    | none => rw [hz] at h; cases h
    | some zs =>
      rw [hz] at h
      simp only [Option.some.injEq] at h
      subst h
      refine ⟨⟨_, Proofs.Try.func11, by kernel_rfl, by kernel_rfl⟩, fun w vs St hS hs hv => ?_⟩
      obtain ⟨v, h1, h2⟩ := hv 0 _ rfl
      obtain ⟨a, cap, rfl, hz⟩ := rel_zone hS h2 hz
      obtain ⟨v1, g1, gr1⟩ := hv 1 _ rfl
      rw [gr1.v_inv] at g1
      obtain ⟨v2, g2, gr2⟩ := hv 2 _ rfl
      rw [gr2.v_inv] at g2
      obtain rfl : vs = #[.agg #[.bool kp, .slice a zs.length cap, .int .i64 fl, .int .i64 rf], .agg #[.int .i64 x, .int .i64 y], .int .i64 r] := by
        apply Array.ext
        · simpa using hs
        · intro i hi _
          have : i = 0 ∨ i = 1 ∨ i = 2 := by simp at hs; omega
          rcases this with rfl | rfl | rfl
          · simpa [Array.getElem?_eq_getElem hi] using h1
          · simpa [Array.getElem?_eq_getElem hi] using g1
          · simpa [Array.getElem?_eq_getElem hi] using g2
      refine (callsIn_wide.1 (Touches_calls kp fl rf zs a cap w hz (x, y) r)).mono ?_
      rintro e w' ⟨rfl, hb⟩
      exact ⟨_, rfl, hb, ⟨.v _ _, fun _ _ _ e => by cases e⟩⟩
  · cases h
theorem g_fence_Touches (F : Nat) : Good PP 11 (unS (s_fence_Touches F)) :=
  spec_good fun q h => by
    obtain ⟨x, h1, h2⟩ := okT_fill' h (y := (fT to_fence_Touches [.b (o_fence_Touches_0 F (atB (nth q 0)) (atC (nth q 1)) (atN (nth q 2)) (atN (nth q 3)) (atI (nth q 4)) (atI (nth q 5)) (atI (nth q 6)) (atI (nth q 7)) (atI (nth q 8))), .i (o_fence_Touches_1 F (atB (nth q 0)) (atC (nth q 1)) (atN (nth q 2)) (atN (nth q 3)) (atI (nth q 4)) (atI (nth q 5)) (atI (nth q 6)) (atI (nth q 7)) (atI (nth q 8)))]).1) (by kernel_rfl)
    exact ⟨gz_fence_Touches F, x, gg_fence_Touches F, (show gz_fence_Touches F (fTs ti_fence_Touches q).1 = _ by kernel_rfl).trans h1, h2⟩
end Go.Xv
set_option linter.unusedVariables false
namespace Go.Xv
open Go.RowKit
def ti_fence_Within : List TV := [.agg [.v (.bool), .fs .hole .hole 2, .v (.int .i64), .v (.int .i64)], .v (.agg [.int .i64, .int .i64])]
def to_fence_Within : TV := .v (.tup [.bool, .int .i64])
def f_fence_Within (F : Nat) (a0 : Bool) (a1 : List VV) (a2 : Nat) (a3 : Nat) (a4 : Int) (a5 : Int) (a6 : Int) (a7 : Int) : R :=
  match zoneOf a1 a2 a3 with
  | some zs => some (.v (.tuple #[.bool (mayB zs a4 a5 (a6, a7) 0 && withinB zs (a6, a7)), .int .i64 (bif mayB zs a4 a5 (a6, a7) 0 then 0 else 2)]))
  | none => none
def ok_fence_Within (F : Nat) (a0 : Bool) (a1 : List VV) (a2 : Nat) (a3 : Nat) (a4 : Int) (a5 : Int) (a6 : Int) (a7 : Int) : Bool := okT to_fence_Within (f_fence_Within F a0 a1 a2 a3 a4 a5 a6 a7)
def o_fence_Within_0 (F : Nat) (a0 : Bool) (a1 : List VV) (a2 : Nat) (a3 : Nat) (a4 : Int) (a5 : Int) (a6 : Int) (a7 : Int) : Bool := atB (nth (outT to_fence_Within (f_fence_Within F a0 a1 a2 a3 a4 a5 a6 a7)) 0)
def o_fence_Within_1 (F : Nat) (a0 : Bool) (a1 : List VV) (a2 : Nat) (a3 : Nat) (a4 : Int) (a5 : Int) (a6 : Int) (a7 : Int) : Int := atI (nth (outT to_fence_Within (f_fence_Within F a0 a1 a2 a3 a4 a5 a6 a7)) 1)
theorem k_fence_Within (F : Nat) (a0 : Bool) (a1 : List VV) (a2 : Nat) (a3 : Nat) (a4 : Int) (a5 : Int) (a6 : Int) (a7 : Int) {z0 : Bool} {z1 : Int} (h : f_fence_Within F a0 a1 a2 a3 a4 a5 a6 a7 = some (.v (.tuple #[.bool z0, .int .i64 z1]))) : ok_fence_Within F a0 a1 a2 a3 a4 a5 a6 a7 = true ∧ o_fence_Within_0 F a0 a1 a2 a3 a4 a5 a6 a7 = z0 ∧ o_fence_Within_1 F a0 a1 a2 a3 a4 a5 a6 a7 = z1 := by
  refine ⟨?_, ?_, ?_⟩
  · unfold ok_fence_Within; rw [h]; kernel_rfl
  · unfold o_fence_Within_0; rw [h]; kernel_rfl
  · unfold o_fence_Within_1; rw [h]; kernel_rfl
def s_fence_Within (F : Nat) : List VV → Option (Bool × VV) := spec ti_fence_Within to_fence_Within (fun q => (ok_fence_Within F (atB (nth q 0)) (atC (nth q 1)) (atN (nth q 2)) (atN (nth q 3)) (atI (nth q 4)) (atI (nth q 5)) (atI (nth q 6)) (atI (nth q 7)))) (fun q => [.b (o_fence_Within_0 F (atB (nth q 0)) (atC (nth q 1)) (atN (nth q 2)) (atN (nth q 3)) (atI (nth q 4)) (atI (nth q 5)) (atI (nth q 6)) (atI (nth q 7))), .i (o_fence_Within_1 F (atB (nth q 0)) (atC (nth q 1)) (atN (nth q 2)) (atN (nth q 3)) (atI (nth q 4)) (atI (nth q 5)) (atI (nth q 6)) (atI (nth q 7)))])
def gz_fence_Within (F : Nat) : List VV → R
  | [.agg [.v (.bool a0), .fs a1 a2 a3 2, .v (.int .i64 a4), .v (.int .i64 a5)], .v (.agg ⟨[.int .i64 a6, .int .i64 a7]⟩)] => f_fence_Within F a0 a1 a2 a3 a4 a5 a6 a7
  | _ => none
theorem gg_fence_Within (F : Nat) : Good PP 8 (gz_fence_Within F) := by
  intro args r h
  unfold gz_fence_Within at h
  split at h
  · rename_i kp c o l fl rf x y
    unfold f_fence_Within at h
    cases hz : zoneOf c o l with
    | none => rw [hz] at h; cases h
    | some zs =>
      rw [hz] at h
      simp only [Option.some.injEq] at h
      subst h
      refine ⟨⟨_, Proofs.Try.func8, by kernel_rfl, by kernel_rfl⟩, fun w vs St hS hs hv => ?_⟩
      obtain ⟨v, h1, h2⟩ := hv 0 _ rfl
      obtain ⟨a, cap, rfl, hz⟩ := rel_zone hS h2 hz
      obtain ⟨v1, g1, gr1⟩ := hv 1 _ rfl
      rw [gr1.v_inv] at g1
      obtain rfl : vs = #[.agg #[.bool kp, .slice a zs.length cap, .int .i64 fl, .int .i64 rf], .agg #[.int .i64 x, .int .i64 y]] := by
        apply Array.ext
        · simpa using hs
        · intro i hi _
          have : i = 0 ∨ i = 1 := by simp at hs; omega
          rcases this with rfl | rfl
          · simpa [Array.getElem?_eq_getElem hi] using h1
          · simpa [Array.getElem?_eq_getElem hi] using g1
      refine (callsIn_wide.1 (Within_calls kp fl rf zs a cap w hz (x, y))).mono ?_
      rintro e w' ⟨rfl, hb⟩
      exact ⟨_, rfl, hb, ⟨.v _ _, fun _ _ _ e => by cases e⟩⟩
  · cases h
theorem g_fence_Within (F : Nat) : Good PP 8 (unS (s_fence_Within F)) :=
  spec_good fun q h => by
    obtain ⟨x, h1, h2⟩ := okT_fill' h (y := (fT to_fence_Within [.b (o_fence_Within_0 F (atB (nth q 0)) (atC (nth q 1)) (atN (nth q 2)) (atN (nth q 3)) (atI (nth q 4)) (atI (nth q 5)) (atI (nth q 6)) (atI (nth q 7))), .i (o_fence_Within_1 F (atB (nth q 0)) (atC (nth q 1)) (atN (nth q 2)) (atN (nth q 3)) (atI (nth q 4)) (atI (nth q 5)) (atI (nth q 6)) (atI (nth q 7)))]).1) (by kernel_rfl)
    exact ⟨gz_fence_Within F, x, gg_fence_Within F, (show gz_fence_Within F (fTs ti_fence_Within q).1 = _ by kernel_rfl).trans h1, h2⟩
end Go.Xv
