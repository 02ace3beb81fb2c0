/- Same times a matrix, and a matrix times Same, is the matrix, and to turn over twice changes nothing: the law returns true for every input, and leaves its arguments as they were. -/
import Derived.Test.YtpnggkefjgpleaaLMatSame
import Derived.KernelRfl
set_option linter.unusedVariables false
namespace Go.Xv
/- 55 _mat_Back -/
def c_mat_Back : Cfg := ⟨[0, 1, 2, 3, 4, 5, 6, 7, 8, 9, 10, 13, 14, 15], [(0, [0, 1, 2, 3, 8, 9, 25]), (2, [0, 1, 2, 3, 4, 5, 8, 9, 10, 11, 12, 13, 14, 24, 25])], [], []⟩
def ti_mat_Back : List TV := [.v (.agg [.int .i64, .int .i64, .int .i64, .int .i64, .int .i64, .int .i64, .int .i64, .int .i64, .int .i64])]
def to_mat_Back : TV := .v (.agg [.int .i64, .int .i64, .int .i64, .int .i64, .int .i64, .int .i64, .int .i64, .int .i64, .int .i64])
def S_mat_Back (F : Nat) : FuncId → List VV → Option (Bool × VV) := words []
def T_mat_Back_0 : TS := ⟨[(0, .v (.agg [.int .i64, .int .i64, .int .i64, .int .i64, .int .i64, .int .i64, .int .i64, .int .i64, .int .i64])), (1, .lp 0 (.lit 0)), (2, .lp 1 (.lit 0)), (3, .lp 2 (.lit 0)), (4, .v (.int .i64)), (5, .lp 3 (.lit 0)), (8, .v (.agg [.int .i64, .int .i64, .int .i64, .int .i64, .int .i64, .int .i64, .int .i64, .int .i64, .int .i64])), (9, .v (.int .i64)), (13, .v (.agg [.int .i64, .int .i64, .int .i64])), (14, .v (.int .i64))], [(0, ⟨(.ex [.v (.int .i64), .v (.int .i64), .v (.int .i64), .v (.int .i64), .v (.int .i64), .v (.int .i64), .v (.int .i64), .v (.int .i64), .v (.int .i64)]), true⟩), (1, ⟨(.ex [.v (.int .i64), .v (.int .i64), .v (.int .i64), .v (.int .i64), .v (.int .i64), .v (.int .i64), .v (.int .i64), .v (.int .i64), .v (.int .i64)]), true⟩), (2, ⟨.hole, true⟩), (3, ⟨(.ex [.v (.int .i64), .v (.int .i64), .v (.int .i64)]), true⟩)], 4⟩
def T_mat_Back_0_0 : TS := ⟨[(0, .v (.agg [.int .i64, .int .i64, .int .i64, .int .i64, .int .i64, .int .i64, .int .i64, .int .i64, .int .i64])), (1, .lp 0 (.lit 0)), (2, .lp 1 (.lit 0)), (3, .lp 2 (.lit 0)), (4, .v (.int .i64)), (5, .lp 3 (.lit 0)), (8, .v (.agg [.int .i64, .int .i64, .int .i64, .int .i64, .int .i64, .int .i64, .int .i64, .int .i64, .int .i64])), (9, .v (.int .i64)), (13, .v (.agg [.int .i64, .int .i64, .int .i64])), (14, .v (.int .i64))], [(0, ⟨(.ex [.v (.int .i64), .v (.int .i64), .v (.int .i64), .v (.int .i64), .v (.int .i64), .v (.int .i64), .v (.int .i64), .v (.int .i64), .v (.int .i64)]), true⟩), (1, ⟨(.ex [.v (.int .i64), .v (.int .i64), .v (.int .i64), .v (.int .i64), .v (.int .i64), .v (.int .i64), .v (.int .i64), .v (.int .i64), .v (.int .i64)]), true⟩), (2, ⟨.hole, true⟩), (3, ⟨(.ex [.v (.int .i64), .v (.int .i64), .v (.int .i64)]), true⟩)], 4⟩
def B_mat_Back_0 (F : Nat) (rc : Int → Int → Int → Int → Int → Int → Int → Int → Int → Int → Int → Int → Int → Int → Int → Int → Int → Int → Int → Int → Int → Int → Int → Int → Int → Int → Int → Int → Int → Int → Int → Int → Int → Int → Int → Int → Int → Int → Int → Int → Int → Int → List VV → Int → Int → Int → R) (ex0 : Int → Int → Int → Int → Int → Int → Int → Int → Int → Int → Int → Int → Int → Int → Int → Int → Int → Int → Int → Int → Int → Int → Int → Int → Int → Int → Int → Int → Int → Int → Int → Int → Int → Int → Int → Int → Int → Int → Int → Int → Int → Int → List VV → Int → Int → Int → R) (x0 : Int) (x1 : Int) (x2 : Int) (x3 : Int) (x4 : Int) (x5 : Int) (x6 : Int) (x7 : Int) (x8 : Int) (x9 : Int) (x10 : Int) (x11 : Int) (x12 : Int) (x13 : Int) (x14 : Int) (x15 : Int) (x16 : Int) (x17 : Int) (x18 : Int) (x19 : Int) (x20 : Int) (x21 : Int) (x22 : Int) (x23 : Int) (x24 : Int) (x25 : Int) (x26 : Int) (x27 : Int) (x28 : Int) (x29 : Int) (x30 : Int) (x31 : Int) (x32 : Int) (x33 : Int) (x34 : Int) (x35 : Int) (x36 : Int) (x37 : Int) (x38 : Int) (x39 : Int) (x40 : Int) (x41 : Int) (x42 : List VV) (x43 : Int) (x44 : Int) (x45 : Int) : R :=
  bif ((decide (x23 < 3))) then (
    bif (((decide (0 ≤ x23)) && (decide (x23 < 3))) && ((isI .i64 [.v (.int .i64 x20), .v (.int .i64 x21), .v (.int .i64 x22)][((Int.toNat x23) * 1)]?) && true)) then (
      bif ((decide (0 ≤ x23)) && (decide (x23 < 3))) then (
        bif ((decide (0 ≤ x9)) && (decide (x9 < 3))) then (
          let v2741 : Nat := (((0 + ((Int.toNat x23) * 3))) + ((Int.toNat x9) * 1))
          bif (decide ((v2741 + 1) ≤ x42.length)) then (
            rc x0 x1 x2 x3 x4 x5 x6 x7 x8 x9 x10 x11 x12 x13 x14 x15 x16 x17 x18 x19 x20 x21 x22 ((IntKind.wrap .i64 (x23 + 1))) x24 x25 x26 x27 x28 x29 x30 x31 x32 x33 x34 x35 x36 x37 x38 x39 x40 x41 ((x42.take v2741 ++ [.v (.int .i64 ((iv [.v (.int .i64 x20), .v (.int .i64 x21), .v (.int .i64 x22)][((Int.toNat x23) * 1)]?)))] ++ x42.drop (v2741 + 1))) x43 x44 x45)
          else (
            none))
        else (
          none))
      else (
        none))
    else (
      none))
  else (
    ex0 x0 x1 x2 x3 x4 x5 x6 x7 x8 x9 x10 x11 x12 x13 x14 x15 x16 x17 x18 x19 x20 x21 x22 x23 x24 x25 x26 x27 x28 x29 x30 x31 x32 x33 x34 x35 x36 x37 x38 x39 x40 x41 x42 x43 x44 x45)
def L_mat_Back_0 (F : Nat) (ex0 : Int → Int → Int → Int → Int → Int → Int → Int → Int → Int → Int → Int → Int → Int → Int → Int → Int → Int → Int → Int → Int → Int → Int → Int → Int → Int → Int → Int → Int → Int → Int → Int → Int → Int → Int → Int → Int → Int → Int → Int → Int → Int → List VV → Int → Int → Int → R) : Nat → Int → Int → Int → Int → Int → Int → Int → Int → Int → Int → Int → Int → Int → Int → Int → Int → Int → Int → Int → Int → Int → Int → Int → Int → Int → Int → Int → Int → Int → Int → Int → Int → Int → Int → Int → Int → Int → Int → Int → Int → Int → Int → List VV → Int → Int → Int → R
  | 0, _, _, _, _, _, _, _, _, _, _, _, _, _, _, _, _, _, _, _, _, _, _, _, _, _, _, _, _, _, _, _, _, _, _, _, _, _, _, _, _, _, _, _, _, _, _ => none
  | n + 1, x0, x1, x2, x3, x4, x5, x6, x7, x8, x9, x10, x11, x12, x13, x14, x15, x16, x17, x18, x19, x20, x21, x22, x23, x24, x25, x26, x27, x28, x29, x30, x31, x32, x33, x34, x35, x36, x37, x38, x39, x40, x41, x42, x43, x44, x45 => B_mat_Back_0 F (L_mat_Back_0 F ex0 n) ex0 x0 x1 x2 x3 x4 x5 x6 x7 x8 x9 x10 x11 x12 x13 x14 x15 x16 x17 x18 x19 x20 x21 x22 x23 x24 x25 x26 x27 x28 x29 x30 x31 x32 x33 x34 x35 x36 x37 x38 x39 x40 x41 x42 x43 x44 x45
def T_mat_Back_1 : TS := ⟨[(0, .v (.agg [.int .i64, .int .i64, .int .i64, .int .i64, .int .i64, .int .i64, .int .i64, .int .i64, .int .i64])), (1, .lp 0 (.lit 0)), (2, .lp 1 (.lit 0)), (3, .lp 2 (.lit 0)), (8, .v (.agg [.int .i64, .int .i64, .int .i64, .int .i64, .int .i64, .int .i64, .int .i64, .int .i64, .int .i64])), (9, .v (.int .i64))], [(0, ⟨(.ex [.v (.int .i64), .v (.int .i64), .v (.int .i64), .v (.int .i64), .v (.int .i64), .v (.int .i64), .v (.int .i64), .v (.int .i64), .v (.int .i64)]), true⟩), (1, ⟨(.ex [.v (.int .i64), .v (.int .i64), .v (.int .i64), .v (.int .i64), .v (.int .i64), .v (.int .i64), .v (.int .i64), .v (.int .i64), .v (.int .i64)]), true⟩), (2, ⟨.hole, true⟩)], 3⟩
def T_mat_Back_1_0 : TS := ⟨[(0, .v (.agg [.int .i64, .int .i64, .int .i64, .int .i64, .int .i64, .int .i64, .int .i64, .int .i64, .int .i64])), (1, .lp 0 (.lit 0)), (2, .lp 1 (.lit 0)), (3, .lp 2 (.lit 0)), (8, .v (.agg [.int .i64, .int .i64, .int .i64, .int .i64, .int .i64, .int .i64, .int .i64, .int .i64, .int .i64])), (9, .v (.int .i64))], [(0, ⟨(.ex [.v (.int .i64), .v (.int .i64), .v (.int .i64), .v (.int .i64), .v (.int .i64), .v (.int .i64), .v (.int .i64), .v (.int .i64), .v (.int .i64)]), true⟩), (1, ⟨(.ex [.v (.int .i64), .v (.int .i64), .v (.int .i64), .v (.int .i64), .v (.int .i64), .v (.int .i64), .v (.int .i64), .v (.int .i64), .v (.int .i64)]), true⟩), (2, ⟨.hole, true⟩)], 3⟩
def B_mat_Back_1 (F : Nat) (rc : Int → Int → Int → Int → Int → Int → Int → Int → Int → Int → Int → Int → Int → Int → Int → Int → Int → Int → Int → Int → Int → Int → Int → Int → Int → Int → Int → Int → Int → Int → Int → Int → Int → Int → Int → Int → Int → List VV → R) (ex0 : Int → Int → Int → Int → Int → Int → Int → Int → Int → Int → Int → Int → Int → Int → Int → Int → Int → Int → Int → Int → Int → Int → Int → Int → Int → Int → Int → Int → Int → Int → Int → Int → Int → Int → Int → Int → Int → List VV → R) (x0 : Int) (x1 : Int) (x2 : Int) (x3 : Int) (x4 : Int) (x5 : Int) (x6 : Int) (x7 : Int) (x8 : Int) (x9 : Int) (x10 : Int) (x11 : Int) (x12 : Int) (x13 : Int) (x14 : Int) (x15 : Int) (x16 : Int) (x17 : Int) (x18 : Int) (x19 : Int) (x20 : Int) (x21 : Int) (x22 : Int) (x23 : Int) (x24 : Int) (x25 : Int) (x26 : Int) (x27 : Int) (x28 : Int) (x29 : Int) (x30 : Int) (x31 : Int) (x32 : Int) (x33 : Int) (x34 : Int) (x35 : Int) (x36 : Int) (x37 : List VV) : R :=
  bif ((decide (x18 < 3))) then (
    bif (((decide (0 ≤ x18)) && (decide (x18 < 3))) && ((isI .i64 [.v (.int .i64 x9), .v (.int .i64 x10), .v (.int .i64 x11), .v (.int .i64 x12), .v (.int .i64 x13), .v (.int .i64 x14), .v (.int .i64 x15), .v (.int .i64 x16), .v (.int .i64 x17)][((Int.toNat x18) * 3)]?) && ((isI .i64 [.v (.int .i64 x9), .v (.int .i64 x10), .v (.int .i64 x11), .v (.int .i64 x12), .v (.int .i64 x13), .v (.int .i64 x14), .v (.int .i64 x15), .v (.int .i64 x16), .v (.int .i64 x17)][(((Int.toNat x18) * 3) + 1)]?) && ((isI .i64 [.v (.int .i64 x9), .v (.int .i64 x10), .v (.int .i64 x11), .v (.int .i64 x12), .v (.int .i64 x13), .v (.int .i64 x14), .v (.int .i64 x15), .v (.int .i64 x16), .v (.int .i64 x17)][((((Int.toNat x18) * 3) + 1) + 1)]?) && true)))) then (
      let v2689 : Int := (iv [.v (.int .i64 x9), .v (.int .i64 x10), .v (.int .i64 x11), .v (.int .i64 x12), .v (.int .i64 x13), .v (.int .i64 x14), .v (.int .i64 x15), .v (.int .i64 x16), .v (.int .i64 x17)][((Int.toNat x18) * 3)]?)
      let v2690 : Int := (iv [.v (.int .i64 x9), .v (.int .i64 x10), .v (.int .i64 x11), .v (.int .i64 x12), .v (.int .i64 x13), .v (.int .i64 x14), .v (.int .i64 x15), .v (.int .i64 x16), .v (.int .i64 x17)][(((Int.toNat x18) * 3) + 1)]?)
      let v2691 : Int := (iv [.v (.int .i64 x9), .v (.int .i64 x10), .v (.int .i64 x11), .v (.int .i64 x12), .v (.int .i64 x13), .v (.int .i64 x14), .v (.int .i64 x15), .v (.int .i64 x16), .v (.int .i64 x17)][((((Int.toNat x18) * 3) + 1) + 1)]?)
      L_mat_Back_0 F (fun (v2744 : Int) (v2745 : Int) (v2746 : Int) (v2747 : Int) (v2748 : Int) (v2749 : Int) (v2750 : Int) (v2751 : Int) (v2752 : Int) (v2753 : Int) (v2754 : Int) (v2755 : Int) (v2756 : Int) (v2757 : Int) (v2758 : Int) (v2759 : Int) (v2760 : Int) (v2761 : Int) (v2762 : Int) (v2763 : Int) (v2764 : Int) (v2765 : Int) (v2766 : Int) (v2767 : Int) (v2768 : Int) (v2769 : Int) (v2770 : Int) (v2771 : Int) (v2772 : Int) (v2773 : Int) (v2774 : Int) (v2775 : Int) (v2776 : Int) (v2777 : Int) (v2778 : Int) (v2779 : Int) (v2780 : Int) (v2781 : Int) (v2782 : Int) (v2783 : Int) (v2784 : Int) (v2785 : Int) (v2786 : List VV) (v2787 : Int) (v2788 : Int) (v2789 : Int) =>
        rc v2744 v2745 v2746 v2747 v2748 v2749 v2750 v2751 v2752 v2754 v2755 v2756 v2757 v2758 v2759 v2760 v2761 v2762 ((IntKind.wrap .i64 (v2763 + 1))) v2768 v2769 v2770 v2771 v2772 v2773 v2774 v2775 v2776 v2777 v2778 v2779 v2780 v2781 v2782 v2783 v2784 v2785 v2786) F x0 x1 x2 x3 x4 x5 x6 x7 x8 x18 x9 x10 x11 x12 x13 x14 x15 x16 x17 x18 v2689 v2690 v2691 0 x19 x20 x21 x22 x23 x24 x25 x26 x27 x28 x29 x30 x31 x32 x33 x34 x35 x36 x37 v2689 v2690 v2691)
    else (
      none))
  else (
    ex0 x0 x1 x2 x3 x4 x5 x6 x7 x8 x9 x10 x11 x12 x13 x14 x15 x16 x17 x18 x19 x20 x21 x22 x23 x24 x25 x26 x27 x28 x29 x30 x31 x32 x33 x34 x35 x36 x37)
def L_mat_Back_1 (F : Nat) (ex0 : Int → Int → Int → Int → Int → Int → Int → Int → Int → Int → Int → Int → Int → Int → Int → Int → Int → Int → Int → Int → Int → Int → Int → Int → Int → Int → Int → Int → Int → Int → Int → Int → Int → Int → Int → Int → Int → List VV → R) : Nat → Int → Int → Int → Int → Int → Int → Int → Int → Int → Int → Int → Int → Int → Int → Int → Int → Int → Int → Int → Int → Int → Int → Int → Int → Int → Int → Int → Int → Int → Int → Int → Int → Int → Int → Int → Int → Int → List VV → R
  | 0, _, _, _, _, _, _, _, _, _, _, _, _, _, _, _, _, _, _, _, _, _, _, _, _, _, _, _, _, _, _, _, _, _, _, _, _, _, _ => none
  | n + 1, x0, x1, x2, x3, x4, x5, x6, x7, x8, x9, x10, x11, x12, x13, x14, x15, x16, x17, x18, x19, x20, x21, x22, x23, x24, x25, x26, x27, x28, x29, x30, x31, x32, x33, x34, x35, x36, x37 => B_mat_Back_1 F (L_mat_Back_1 F ex0 n) ex0 x0 x1 x2 x3 x4 x5 x6 x7 x8 x9 x10 x11 x12 x13 x14 x15 x16 x17 x18 x19 x20 x21 x22 x23 x24 x25 x26 x27 x28 x29 x30 x31 x32 x33 x34 x35 x36 x37
def W_mat_Back (F : Nat) : List LW := [⟨2, T_mat_Back_0, fun k q => L_mat_Back_0 F (fun (z0 : Int) (z1 : Int) (z2 : Int) (z3 : Int) (z4 : Int) (z5 : Int) (z6 : Int) (z7 : Int) (z8 : Int) (z9 : Int) (z10 : Int) (z11 : Int) (z12 : Int) (z13 : Int) (z14 : Int) (z15 : Int) (z16 : Int) (z17 : Int) (z18 : Int) (z19 : Int) (z20 : Int) (z21 : Int) (z22 : Int) (z23 : Int) (z24 : Int) (z25 : Int) (z26 : Int) (z27 : Int) (z28 : Int) (z29 : Int) (z30 : Int) (z31 : Int) (z32 : Int) (z33 : Int) (z34 : Int) (z35 : Int) (z36 : Int) (z37 : Int) (z38 : Int) (z39 : Int) (z40 : Int) (z41 : Int) (z42 : List VV) (z43 : Int) (z44 : Int) (z45 : Int) => k (.exit 2) (fS T_mat_Back_0_0 [.i z0, .i z1, .i z2, .i z3, .i z4, .i z5, .i z6, .i z7, .i z8, .i z9, .i z10, .i z11, .i z12, .i z13, .i z14, .i z15, .i z16, .i z17, .i z18, .i z19, .i z20, .i z21, .i z22, .i z23, .i z24, .i z25, .i z26, .i z27, .i z28, .i z29, .i z30, .i z31, .i z32, .i z33, .i z34, .i z35, .i z36, .i z37, .i z38, .i z39, .i z40, .i z41, .c z42, .i z43, .i z44, .i z45])) F (atI (nth q 0)) (atI (nth q 1)) (atI (nth q 2)) (atI (nth q 3)) (atI (nth q 4)) (atI (nth q 5)) (atI (nth q 6)) (atI (nth q 7)) (atI (nth q 8)) (atI (nth q 9)) (atI (nth q 10)) (atI (nth q 11)) (atI (nth q 12)) (atI (nth q 13)) (atI (nth q 14)) (atI (nth q 15)) (atI (nth q 16)) (atI (nth q 17)) (atI (nth q 18)) (atI (nth q 19)) (atI (nth q 20)) (atI (nth q 21)) (atI (nth q 22)) (atI (nth q 23)) (atI (nth q 24)) (atI (nth q 25)) (atI (nth q 26)) (atI (nth q 27)) (atI (nth q 28)) (atI (nth q 29)) (atI (nth q 30)) (atI (nth q 31)) (atI (nth q 32)) (atI (nth q 33)) (atI (nth q 34)) (atI (nth q 35)) (atI (nth q 36)) (atI (nth q 37)) (atI (nth q 38)) (atI (nth q 39)) (atI (nth q 40)) (atI (nth q 41)) (atC (nth q 42)) (atI (nth q 43)) (atI (nth q 44)) (atI (nth q 45))⟩, ⟨0, T_mat_Back_1, fun k q => L_mat_Back_1 F (fun (z0 : Int) (z1 : Int) (z2 : Int) (z3 : Int) (z4 : Int) (z5 : Int) (z6 : Int) (z7 : Int) (z8 : Int) (z9 : Int) (z10 : Int) (z11 : Int) (z12 : Int) (z13 : Int) (z14 : Int) (z15 : Int) (z16 : Int) (z17 : Int) (z18 : Int) (z19 : Int) (z20 : Int) (z21 : Int) (z22 : Int) (z23 : Int) (z24 : Int) (z25 : Int) (z26 : Int) (z27 : Int) (z28 : Int) (z29 : Int) (z30 : Int) (z31 : Int) (z32 : Int) (z33 : Int) (z34 : Int) (z35 : Int) (z36 : Int) (z37 : List VV) => k (.exit 0) (fS T_mat_Back_1_0 [.i z0, .i z1, .i z2, .i z3, .i z4, .i z5, .i z6, .i z7, .i z8, .i z9, .i z10, .i z11, .i z12, .i z13, .i z14, .i z15, .i z16, .i z17, .i z18, .i z19, .i z20, .i z21, .i z22, .i z23, .i z24, .i z25, .i z26, .i z27, .i z28, .i z29, .i z30, .i z31, .i z32, .i z33, .i z34, .i z35, .i z36, .c z37])) F (atI (nth q 0)) (atI (nth q 1)) (atI (nth q 2)) (atI (nth q 3)) (atI (nth q 4)) (atI (nth q 5)) (atI (nth q 6)) (atI (nth q 7)) (atI (nth q 8)) (atI (nth q 9)) (atI (nth q 10)) (atI (nth q 11)) (atI (nth q 12)) (atI (nth q 13)) (atI (nth q 14)) (atI (nth q 15)) (atI (nth q 16)) (atI (nth q 17)) (atI (nth q 18)) (atI (nth q 19)) (atI (nth q 20)) (atI (nth q 21)) (atI (nth q 22)) (atI (nth q 23)) (atI (nth q 24)) (atI (nth q 25)) (atI (nth q 26)) (atI (nth q 27)) (atI (nth q 28)) (atI (nth q 29)) (atI (nth q 30)) (atI (nth q 31)) (atI (nth q 32)) (atI (nth q 33)) (atI (nth q 34)) (atI (nth q 35)) (atI (nth q 36)) (atC (nth q 37))⟩]
def I_mat_Back (F : Nat) : Nat → VS → (Exit → VS → R) → R := tabI c_mat_Back (W_mat_Back F)
def WJ_mat_Back (F : Nat) : List LJ := []
def J_mat_Back (F : Nat) : Nat → Nat → VS → (Exit → VS → R) → R := tabJ (WJ_mat_Back F)
theorem lL_mat_Back_0 (F : Nat) (k : Exit → VS → R) : ∀ (n : Nat) (x0 : Int) (x1 : Int) (x2 : Int) (x3 : Int) (x4 : Int) (x5 : Int) (x6 : Int) (x7 : Int) (x8 : Int) (x9 : Int) (x10 : Int) (x11 : Int) (x12 : Int) (x13 : Int) (x14 : Int) (x15 : Int) (x16 : Int) (x17 : Int) (x18 : Int) (x19 : Int) (x20 : Int) (x21 : Int) (x22 : Int) (x23 : Int) (x24 : Int) (x25 : Int) (x26 : Int) (x27 : Int) (x28 : Int) (x29 : Int) (x30 : Int) (x31 : Int) (x32 : Int) (x33 : Int) (x34 : Int) (x35 : Int) (x36 : Int) (x37 : Int) (x38 : Int) (x39 : Int) (x40 : Int) (x41 : Int) (x42 : List VV) (x43 : Int) (x44 : Int) (x45 : Int), iterC (codeL PP (S_mat_Back F) c_mat_Back (I_mat_Back F) (J_mat_Back F) (loopAt PP 55 1) 2) (headOf c_mat_Back 2) k n (fS T_mat_Back_0 [.i x0, .i x1, .i x2, .i x3, .i x4, .i x5, .i x6, .i x7, .i x8, .i x9, .i x10, .i x11, .i x12, .i x13, .i x14, .i x15, .i x16, .i x17, .i x18, .i x19, .i x20, .i x21, .i x22, .i x23, .i x24, .i x25, .i x26, .i x27, .i x28, .i x29, .i x30, .i x31, .i x32, .i x33, .i x34, .i x35, .i x36, .i x37, .i x38, .i x39, .i x40, .i x41, .c x42, .i x43, .i x44, .i x45]) = L_mat_Back_0 F (fun (z0 : Int) (z1 : Int) (z2 : Int) (z3 : Int) (z4 : Int) (z5 : Int) (z6 : Int) (z7 : Int) (z8 : Int) (z9 : Int) (z10 : Int) (z11 : Int) (z12 : Int) (z13 : Int) (z14 : Int) (z15 : Int) (z16 : Int) (z17 : Int) (z18 : Int) (z19 : Int) (z20 : Int) (z21 : Int) (z22 : Int) (z23 : Int) (z24 : Int) (z25 : Int) (z26 : Int) (z27 : Int) (z28 : Int) (z29 : Int) (z30 : Int) (z31 : Int) (z32 : Int) (z33 : Int) (z34 : Int) (z35 : Int) (z36 : Int) (z37 : Int) (z38 : Int) (z39 : Int) (z40 : Int) (z41 : Int) (z42 : List VV) (z43 : Int) (z44 : Int) (z45 : Int) => k (.exit 2) (fS T_mat_Back_0_0 [.i z0, .i z1, .i z2, .i z3, .i z4, .i z5, .i z6, .i z7, .i z8, .i z9, .i z10, .i z11, .i z12, .i z13, .i z14, .i z15, .i z16, .i z17, .i z18, .i z19, .i z20, .i z21, .i z22, .i z23, .i z24, .i z25, .i z26, .i z27, .i z28, .i z29, .i z30, .i z31, .i z32, .i z33, .i z34, .i z35, .i z36, .i z37, .i z38, .i z39, .i z40, .i z41, .c z42, .i z43, .i z44, .i z45])) n x0 x1 x2 x3 x4 x5 x6 x7 x8 x9 x10 x11 x12 x13 x14 x15 x16 x17 x18 x19 x20 x21 x22 x23 x24 x25 x26 x27 x28 x29 x30 x31 x32 x33 x34 x35 x36 x37 x38 x39 x40 x41 x42 x43 x44 x45
  | 0, _, _, _, _, _, _, _, _, _, _, _, _, _, _, _, _, _, _, _, _, _, _, _, _, _, _, _, _, _, _, _, _, _, _, _, _, _, _, _, _, _, _, _, _, _, _ => rfl
  | n + 1, x0, x1, x2, x3, x4, x5, x6, x7, x8, x9, x10, x11, x12, x13, x14, x15, x16, x17, x18, x19, x20, x21, x22, x23, x24, x25, x26, x27, x28, x29, x30, x31, x32, x33, x34, x35, x36, x37, x38, x39, x40, x41, x42, x43, x44, x45 => by
    have h0 : ∀ (L_mat_Back_0 : Nat → (Int → Int → Int → Int → Int → Int → Int → Int → Int → Int → Int → Int → Int → Int → Int → Int → Int → Int → Int → Int → Int → Int → Int → Int → Int → Int → Int → Int → Int → Int → Int → Int → Int → Int → Int → Int → Int → Int → Int → Int → Int → Int → List VV → Int → Int → Int → R) → Nat → Int → Int → Int → Int → Int → Int → Int → Int → Int → Int → Int → Int → Int → Int → Int → Int → Int → Int → Int → Int → Int → Int → Int → Int → Int → Int → Int → Int → Int → Int → Int → Int → Int → Int → Int → Int → Int → Int → Int → Int → Int → Int → List VV → Int → Int → Int → R) (L_mat_Back_1 : Nat → (Int → Int → Int → Int → Int → Int → Int → Int → Int → Int → Int → Int → Int → Int → Int → Int → Int → Int → Int → Int → Int → Int → Int → Int → Int → Int → Int → Int → Int → Int → Int → Int → Int → Int → Int → Int → Int → List VV → R) → Nat → Int → Int → Int → Int → Int → Int → Int → Int → Int → Int → Int → Int → Int → Int → Int → Int → Int → Int → Int → Int → Int → Int → Int → Int → Int → Int → Int → Int → Int → Int → Int → Int → Int → Int → Int → Int → Int → List VV → R), iterC (codeL PP (words []) c_mat_Back (tabI c_mat_Back [⟨2, T_mat_Back_0, fun k q => L_mat_Back_0 F (fun (z0 : Int) (z1 : Int) (z2 : Int) (z3 : Int) (z4 : Int) (z5 : Int) (z6 : Int) (z7 : Int) (z8 : Int) (z9 : Int) (z10 : Int) (z11 : Int) (z12 : Int) (z13 : Int) (z14 : Int) (z15 : Int) (z16 : Int) (z17 : Int) (z18 : Int) (z19 : Int) (z20 : Int) (z21 : Int) (z22 : Int) (z23 : Int) (z24 : Int) (z25 : Int) (z26 : Int) (z27 : Int) (z28 : Int) (z29 : Int) (z30 : Int) (z31 : Int) (z32 : Int) (z33 : Int) (z34 : Int) (z35 : Int) (z36 : Int) (z37 : Int) (z38 : Int) (z39 : Int) (z40 : Int) (z41 : Int) (z42 : List VV) (z43 : Int) (z44 : Int) (z45 : Int) => k (.exit 2) (fS T_mat_Back_0_0 [.i z0, .i z1, .i z2, .i z3, .i z4, .i z5, .i z6, .i z7, .i z8, .i z9, .i z10, .i z11, .i z12, .i z13, .i z14, .i z15, .i z16, .i z17, .i z18, .i z19, .i z20, .i z21, .i z22, .i z23, .i z24, .i z25, .i z26, .i z27, .i z28, .i z29, .i z30, .i z31, .i z32, .i z33, .i z34, .i z35, .i z36, .i z37, .i z38, .i z39, .i z40, .i z41, .c z42, .i z43, .i z44, .i z45])) F (atI (nth q 0)) (atI (nth q 1)) (atI (nth q 2)) (atI (nth q 3)) (atI (nth q 4)) (atI (nth q 5)) (atI (nth q 6)) (atI (nth q 7)) (atI (nth q 8)) (atI (nth q 9)) (atI (nth q 10)) (atI (nth q 11)) (atI (nth q 12)) (atI (nth q 13)) (atI (nth q 14)) (atI (nth q 15)) (atI (nth q 16)) (atI (nth q 17)) (atI (nth q 18)) (atI (nth q 19)) (atI (nth q 20)) (atI (nth q 21)) (atI (nth q 22)) (atI (nth q 23)) (atI (nth q 24)) (atI (nth q 25)) (atI (nth q 26)) (atI (nth q 27)) (atI (nth q 28)) (atI (nth q 29)) (atI (nth q 30)) (atI (nth q 31)) (atI (nth q 32)) (atI (nth q 33)) (atI (nth q 34)) (atI (nth q 35)) (atI (nth q 36)) (atI (nth q 37)) (atI (nth q 38)) (atI (nth q 39)) (atI (nth q 40)) (atI (nth q 41)) (atC (nth q 42)) (atI (nth q 43)) (atI (nth q 44)) (atI (nth q 45))⟩, ⟨0, T_mat_Back_1, fun k q => L_mat_Back_1 F (fun (z0 : Int) (z1 : Int) (z2 : Int) (z3 : Int) (z4 : Int) (z5 : Int) (z6 : Int) (z7 : Int) (z8 : Int) (z9 : Int) (z10 : Int) (z11 : Int) (z12 : Int) (z13 : Int) (z14 : Int) (z15 : Int) (z16 : Int) (z17 : Int) (z18 : Int) (z19 : Int) (z20 : Int) (z21 : Int) (z22 : Int) (z23 : Int) (z24 : Int) (z25 : Int) (z26 : Int) (z27 : Int) (z28 : Int) (z29 : Int) (z30 : Int) (z31 : Int) (z32 : Int) (z33 : Int) (z34 : Int) (z35 : Int) (z36 : Int) (z37 : List VV) => k (.exit 0) (fS T_mat_Back_1_0 [.i z0, .i z1, .i z2, .i z3, .i z4, .i z5, .i z6, .i z7, .i z8, .i z9, .i z10, .i z11, .i z12, .i z13, .i z14, .i z15, .i z16, .i z17, .i z18, .i z19, .i z20, .i z21, .i z22, .i z23, .i z24, .i z25, .i z26, .i z27, .i z28, .i z29, .i z30, .i z31, .i z32, .i z33, .i z34, .i z35, .i z36, .c z37])) F (atI (nth q 0)) (atI (nth q 1)) (atI (nth q 2)) (atI (nth q 3)) (atI (nth q 4)) (atI (nth q 5)) (atI (nth q 6)) (atI (nth q 7)) (atI (nth q 8)) (atI (nth q 9)) (atI (nth q 10)) (atI (nth q 11)) (atI (nth q 12)) (atI (nth q 13)) (atI (nth q 14)) (atI (nth q 15)) (atI (nth q 16)) (atI (nth q 17)) (atI (nth q 18)) (atI (nth q 19)) (atI (nth q 20)) (atI (nth q 21)) (atI (nth q 22)) (atI (nth q 23)) (atI (nth q 24)) (atI (nth q 25)) (atI (nth q 26)) (atI (nth q 27)) (atI (nth q 28)) (atI (nth q 29)) (atI (nth q 30)) (atI (nth q 31)) (atI (nth q 32)) (atI (nth q 33)) (atI (nth q 34)) (atI (nth q 35)) (atI (nth q 36)) (atC (nth q 37))⟩]) (tabJ []) (loopAt PP 55 1) 2) (headOf c_mat_Back 2) k (n + 1) (fS T_mat_Back_0 [.i x0, .i x1, .i x2, .i x3, .i x4, .i x5, .i x6, .i x7, .i x8, .i x9, .i x10, .i x11, .i x12, .i x13, .i x14, .i x15, .i x16, .i x17, .i x18, .i x19, .i x20, .i x21, .i x22, .i x23, .i x24, .i x25, .i x26, .i x27, .i x28, .i x29, .i x30, .i x31, .i x32, .i x33, .i x34, .i x35, .i x36, .i x37, .i x38, .i x39, .i x40, .i x41, .c x42, .i x43, .i x44, .i x45]) = (fun (rc : Int → Int → Int → Int → Int → Int → Int → Int → Int → Int → Int → Int → Int → Int → Int → Int → Int → Int → Int → Int → Int → Int → Int → Int → Int → Int → Int → Int → Int → Int → Int → Int → Int → Int → Int → Int → Int → Int → Int → Int → Int → Int → List VV → Int → Int → Int → R) (ex0 : Int → Int → Int → Int → Int → Int → Int → Int → Int → Int → Int → Int → Int → Int → Int → Int → Int → Int → Int → Int → Int → Int → Int → Int → Int → Int → Int → Int → Int → Int → Int → Int → Int → Int → Int → Int → Int → Int → Int → Int → Int → Int → List VV → Int → Int → Int → R) (x0 : Int) (x1 : Int) (x2 : Int) (x3 : Int) (x4 : Int) (x5 : Int) (x6 : Int) (x7 : Int) (x8 : Int) (x9 : Int) (x10 : Int) (x11 : Int) (x12 : Int) (x13 : Int) (x14 : Int) (x15 : Int) (x16 : Int) (x17 : Int) (x18 : Int) (x19 : Int) (x20 : Int) (x21 : Int) (x22 : Int) (x23 : Int) (x24 : Int) (x25 : Int) (x26 : Int) (x27 : Int) (x28 : Int) (x29 : Int) (x30 : Int) (x31 : Int) (x32 : Int) (x33 : Int) (x34 : Int) (x35 : Int) (x36 : Int) (x37 : Int) (x38 : Int) (x39 : Int) (x40 : Int) (x41 : Int) (x42 : List VV) (x43 : Int) (x44 : Int) (x45 : Int) => (
  bif ((decide (x23 < 3))) then (
    bif (((decide (0 ≤ x23)) && (decide (x23 < 3))) && ((isI .i64 [.v (.int .i64 x20), .v (.int .i64 x21), .v (.int .i64 x22)][((Int.toNat x23) * 1)]?) && true)) then (
      bif ((decide (0 ≤ x23)) && (decide (x23 < 3))) then (
        bif ((decide (0 ≤ x9)) && (decide (x9 < 3))) then (
          let v2741 : Nat := (((0 + ((Int.toNat x23) * 3))) + ((Int.toNat x9) * 1))
          bif (decide ((v2741 + 1) ≤ x42.length)) then (
            rc x0 x1 x2 x3 x4 x5 x6 x7 x8 x9 x10 x11 x12 x13 x14 x15 x16 x17 x18 x19 x20 x21 x22 ((IntKind.wrap .i64 (x23 + 1))) x24 x25 x26 x27 x28 x29 x30 x31 x32 x33 x34 x35 x36 x37 x38 x39 x40 x41 ((x42.take v2741 ++ [.v (.int .i64 ((iv [.v (.int .i64 x20), .v (.int .i64 x21), .v (.int .i64 x22)][((Int.toNat x23) * 1)]?)))] ++ x42.drop (v2741 + 1))) x43 x44 x45)
          else (
            none))
        else (
          none))
      else (
        none))
    else (
      none))
  else (
    ex0 x0 x1 x2 x3 x4 x5 x6 x7 x8 x9 x10 x11 x12 x13 x14 x15 x16 x17 x18 x19 x20 x21 x22 x23 x24 x25 x26 x27 x28 x29 x30 x31 x32 x33 x34 x35 x36 x37 x38 x39 x40 x41 x42 x43 x44 x45) : R)) (fun (y0 : Int) (y1 : Int) (y2 : Int) (y3 : Int) (y4 : Int) (y5 : Int) (y6 : Int) (y7 : Int) (y8 : Int) (y9 : Int) (y10 : Int) (y11 : Int) (y12 : Int) (y13 : Int) (y14 : Int) (y15 : Int) (y16 : Int) (y17 : Int) (y18 : Int) (y19 : Int) (y20 : Int) (y21 : Int) (y22 : Int) (y23 : Int) (y24 : Int) (y25 : Int) (y26 : Int) (y27 : Int) (y28 : Int) (y29 : Int) (y30 : Int) (y31 : Int) (y32 : Int) (y33 : Int) (y34 : Int) (y35 : Int) (y36 : Int) (y37 : Int) (y38 : Int) (y39 : Int) (y40 : Int) (y41 : Int) (y42 : List VV) (y43 : Int) (y44 : Int) (y45 : Int) => iterC (codeL PP (words []) c_mat_Back (tabI c_mat_Back [⟨2, T_mat_Back_0, fun k q => L_mat_Back_0 F (fun (z0 : Int) (z1 : Int) (z2 : Int) (z3 : Int) (z4 : Int) (z5 : Int) (z6 : Int) (z7 : Int) (z8 : Int) (z9 : Int) (z10 : Int) (z11 : Int) (z12 : Int) (z13 : Int) (z14 : Int) (z15 : Int) (z16 : Int) (z17 : Int) (z18 : Int) (z19 : Int) (z20 : Int) (z21 : Int) (z22 : Int) (z23 : Int) (z24 : Int) (z25 : Int) (z26 : Int) (z27 : Int) (z28 : Int) (z29 : Int) (z30 : Int) (z31 : Int) (z32 : Int) (z33 : Int) (z34 : Int) (z35 : Int) (z36 : Int) (z37 : Int) (z38 : Int) (z39 : Int) (z40 : Int) (z41 : Int) (z42 : List VV) (z43 : Int) (z44 : Int) (z45 : Int) => k (.exit 2) (fS T_mat_Back_0_0 [.i z0, .i z1, .i z2, .i z3, .i z4, .i z5, .i z6, .i z7, .i z8, .i z9, .i z10, .i z11, .i z12, .i z13, .i z14, .i z15, .i z16, .i z17, .i z18, .i z19, .i z20, .i z21, .i z22, .i z23, .i z24, .i z25, .i z26, .i z27, .i z28, .i z29, .i z30, .i z31, .i z32, .i z33, .i z34, .i z35, .i z36, .i z37, .i z38, .i z39, .i z40, .i z41, .c z42, .i z43, .i z44, .i z45])) F (atI (nth q 0)) (atI (nth q 1)) (atI (nth q 2)) (atI (nth q 3)) (atI (nth q 4)) (atI (nth q 5)) (atI (nth q 6)) (atI (nth q 7)) (atI (nth q 8)) (atI (nth q 9)) (atI (nth q 10)) (atI (nth q 11)) (atI (nth q 12)) (atI (nth q 13)) (atI (nth q 14)) (atI (nth q 15)) (atI (nth q 16)) (atI (nth q 17)) (atI (nth q 18)) (atI (nth q 19)) (atI (nth q 20)) (atI (nth q 21)) (atI (nth q 22)) (atI (nth q 23)) (atI (nth q 24)) (atI (nth q 25)) (atI (nth q 26)) (atI (nth q 27)) (atI (nth q 28)) (atI (nth q 29)) (atI (nth q 30)) (atI (nth q 31)) (atI (nth q 32)) (atI (nth q 33)) (atI (nth q 34)) (atI (nth q 35)) (atI (nth q 36)) (atI (nth q 37)) (atI (nth q 38)) (atI (nth q 39)) (atI (nth q 40)) (atI (nth q 41)) (atC (nth q 42)) (atI (nth q 43)) (atI (nth q 44)) (atI (nth q 45))⟩, ⟨0, T_mat_Back_1, fun k q => L_mat_Back_1 F (fun (z0 : Int) (z1 : Int) (z2 : Int) (z3 : Int) (z4 : Int) (z5 : Int) (z6 : Int) (z7 : Int) (z8 : Int) (z9 : Int) (z10 : Int) (z11 : Int) (z12 : Int) (z13 : Int) (z14 : Int) (z15 : Int) (z16 : Int) (z17 : Int) (z18 : Int) (z19 : Int) (z20 : Int) (z21 : Int) (z22 : Int) (z23 : Int) (z24 : Int) (z25 : Int) (z26 : Int) (z27 : Int) (z28 : Int) (z29 : Int) (z30 : Int) (z31 : Int) (z32 : Int) (z33 : Int) (z34 : Int) (z35 : Int) (z36 : Int) (z37 : List VV) => k (.exit 0) (fS T_mat_Back_1_0 [.i z0, .i z1, .i z2, .i z3, .i z4, .i z5, .i z6, .i z7, .i z8, .i z9, .i z10, .i z11, .i z12, .i z13, .i z14, .i z15, .i z16, .i z17, .i z18, .i z19, .i z20, .i z21, .i z22, .i z23, .i z24, .i z25, .i z26, .i z27, .i z28, .i z29, .i z30, .i z31, .i z32, .i z33, .i z34, .i z35, .i z36, .c z37])) F (atI (nth q 0)) (atI (nth q 1)) (atI (nth q 2)) (atI (nth q 3)) (atI (nth q 4)) (atI (nth q 5)) (atI (nth q 6)) (atI (nth q 7)) (atI (nth q 8)) (atI (nth q 9)) (atI (nth q 10)) (atI (nth q 11)) (atI (nth q 12)) (atI (nth q 13)) (atI (nth q 14)) (atI (nth q 15)) (atI (nth q 16)) (atI (nth q 17)) (atI (nth q 18)) (atI (nth q 19)) (atI (nth q 20)) (atI (nth q 21)) (atI (nth q 22)) (atI (nth q 23)) (atI (nth q 24)) (atI (nth q 25)) (atI (nth q 26)) (atI (nth q 27)) (atI (nth q 28)) (atI (nth q 29)) (atI (nth q 30)) (atI (nth q 31)) (atI (nth q 32)) (atI (nth q 33)) (atI (nth q 34)) (atI (nth q 35)) (atI (nth q 36)) (atC (nth q 37))⟩]) (tabJ []) (loopAt PP 55 1) 2) (headOf c_mat_Back 2) k n (fS T_mat_Back_0 [.i y0, .i y1, .i y2, .i y3, .i y4, .i y5, .i y6, .i y7, .i y8, .i y9, .i y10, .i y11, .i y12, .i y13, .i y14, .i y15, .i y16, .i y17, .i y18, .i y19, .i y20, .i y21, .i y22, .i y23, .i y24, .i y25, .i y26, .i y27, .i y28, .i y29, .i y30, .i y31, .i y32, .i y33, .i y34, .i y35, .i y36, .i y37, .i y38, .i y39, .i y40, .i y41, .c y42, .i y43, .i y44, .i y45])) (fun (z0 : Int) (z1 : Int) (z2 : Int) (z3 : Int) (z4 : Int) (z5 : Int) (z6 : Int) (z7 : Int) (z8 : Int) (z9 : Int) (z10 : Int) (z11 : Int) (z12 : Int) (z13 : Int) (z14 : Int) (z15 : Int) (z16 : Int) (z17 : Int) (z18 : Int) (z19 : Int) (z20 : Int) (z21 : Int) (z22 : Int) (z23 : Int) (z24 : Int) (z25 : Int) (z26 : Int) (z27 : Int) (z28 : Int) (z29 : Int) (z30 : Int) (z31 : Int) (z32 : Int) (z33 : Int) (z34 : Int) (z35 : Int) (z36 : Int) (z37 : Int) (z38 : Int) (z39 : Int) (z40 : Int) (z41 : Int) (z42 : List VV) (z43 : Int) (z44 : Int) (z45 : Int) => k (.exit 2) (fS T_mat_Back_0_0 [.i z0, .i z1, .i z2, .i z3, .i z4, .i z5, .i z6, .i z7, .i z8, .i z9, .i z10, .i z11, .i z12, .i z13, .i z14, .i z15, .i z16, .i z17, .i z18, .i z19, .i z20, .i z21, .i z22, .i z23, .i z24, .i z25, .i z26, .i z27, .i z28, .i z29, .i z30, .i z31, .i z32, .i z33, .i z34, .i z35, .i z36, .i z37, .i z38, .i z39, .i z40, .i z41, .c z42, .i z43, .i z44, .i z45])) x0 x1 x2 x3 x4 x5 x6 x7 x8 x9 x10 x11 x12 x13 x14 x15 x16 x17 x18 x19 x20 x21 x22 x23 x24 x25 x26 x27 x28 x29 x30 x31 x32 x33 x34 x35 x36 x37 x38 x39 x40 x41 x42 x43 x44 x45 := by
      intros
      kernel_rfl
    have h : iterC (codeL PP (S_mat_Back F) c_mat_Back (I_mat_Back F) (J_mat_Back F) (loopAt PP 55 1) 2) (headOf c_mat_Back 2) k (n + 1) (fS T_mat_Back_0 [.i x0, .i x1, .i x2, .i x3, .i x4, .i x5, .i x6, .i x7, .i x8, .i x9, .i x10, .i x11, .i x12, .i x13, .i x14, .i x15, .i x16, .i x17, .i x18, .i x19, .i x20, .i x21, .i x22, .i x23, .i x24, .i x25, .i x26, .i x27, .i x28, .i x29, .i x30, .i x31, .i x32, .i x33, .i x34, .i x35, .i x36, .i x37, .i x38, .i x39, .i x40, .i x41, .c x42, .i x43, .i x44, .i x45]) = B_mat_Back_0 F (fun (y0 : Int) (y1 : Int) (y2 : Int) (y3 : Int) (y4 : Int) (y5 : Int) (y6 : Int) (y7 : Int) (y8 : Int) (y9 : Int) (y10 : Int) (y11 : Int) (y12 : Int) (y13 : Int) (y14 : Int) (y15 : Int) (y16 : Int) (y17 : Int) (y18 : Int) (y19 : Int) (y20 : Int) (y21 : Int) (y22 : Int) (y23 : Int) (y24 : Int) (y25 : Int) (y26 : Int) (y27 : Int) (y28 : Int) (y29 : Int) (y30 : Int) (y31 : Int) (y32 : Int) (y33 : Int) (y34 : Int) (y35 : Int) (y36 : Int) (y37 : Int) (y38 : Int) (y39 : Int) (y40 : Int) (y41 : Int) (y42 : List VV) (y43 : Int) (y44 : Int) (y45 : Int) => iterC (codeL PP (S_mat_Back F) c_mat_Back (I_mat_Back F) (J_mat_Back F) (loopAt PP 55 1) 2) (headOf c_mat_Back 2) k n (fS T_mat_Back_0 [.i y0, .i y1, .i y2, .i y3, .i y4, .i y5, .i y6, .i y7, .i y8, .i y9, .i y10, .i y11, .i y12, .i y13, .i y14, .i y15, .i y16, .i y17, .i y18, .i y19, .i y20, .i y21, .i y22, .i y23, .i y24, .i y25, .i y26, .i y27, .i y28, .i y29, .i y30, .i y31, .i y32, .i y33, .i y34, .i y35, .i y36, .i y37, .i y38, .i y39, .i y40, .i y41, .c y42, .i y43, .i y44, .i y45])) (fun (z0 : Int) (z1 : Int) (z2 : Int) (z3 : Int) (z4 : Int) (z5 : Int) (z6 : Int) (z7 : Int) (z8 : Int) (z9 : Int) (z10 : Int) (z11 : Int) (z12 : Int) (z13 : Int) (z14 : Int) (z15 : Int) (z16 : Int) (z17 : Int) (z18 : Int) (z19 : Int) (z20 : Int) (z21 : Int) (z22 : Int) (z23 : Int) (z24 : Int) (z25 : Int) (z26 : Int) (z27 : Int) (z28 : Int) (z29 : Int) (z30 : Int) (z31 : Int) (z32 : Int) (z33 : Int) (z34 : Int) (z35 : Int) (z36 : Int) (z37 : Int) (z38 : Int) (z39 : Int) (z40 : Int) (z41 : Int) (z42 : List VV) (z43 : Int) (z44 : Int) (z45 : Int) => k (.exit 2) (fS T_mat_Back_0_0 [.i z0, .i z1, .i z2, .i z3, .i z4, .i z5, .i z6, .i z7, .i z8, .i z9, .i z10, .i z11, .i z12, .i z13, .i z14, .i z15, .i z16, .i z17, .i z18, .i z19, .i z20, .i z21, .i z22, .i z23, .i z24, .i z25, .i z26, .i z27, .i z28, .i z29, .i z30, .i z31, .i z32, .i z33, .i z34, .i z35, .i z36, .i z37, .i z38, .i z39, .i z40, .i z41, .c z42, .i z43, .i z44, .i z45])) x0 x1 x2 x3 x4 x5 x6 x7 x8 x9 x10 x11 x12 x13 x14 x15 x16 x17 x18 x19 x20 x21 x22 x23 x24 x25 x26 x27 x28 x29 x30 x31 x32 x33 x34 x35 x36 x37 x38 x39 x40 x41 x42 x43 x44 x45 := (h0 L_mat_Back_0 L_mat_Back_1).trans (by kernel_rfl)
    rw [h]
    simp only [lL_mat_Back_0 F k n]
    rfl
theorem lL_mat_Back_1 (F : Nat) (k : Exit → VS → R) : ∀ (n : Nat) (x0 : Int) (x1 : Int) (x2 : Int) (x3 : Int) (x4 : Int) (x5 : Int) (x6 : Int) (x7 : Int) (x8 : Int) (x9 : Int) (x10 : Int) (x11 : Int) (x12 : Int) (x13 : Int) (x14 : Int) (x15 : Int) (x16 : Int) (x17 : Int) (x18 : Int) (x19 : Int) (x20 : Int) (x21 : Int) (x22 : Int) (x23 : Int) (x24 : Int) (x25 : Int) (x26 : Int) (x27 : Int) (x28 : Int) (x29 : Int) (x30 : Int) (x31 : Int) (x32 : Int) (x33 : Int) (x34 : Int) (x35 : Int) (x36 : Int) (x37 : List VV), iterC (codeL PP (S_mat_Back F) c_mat_Back (I_mat_Back F) (J_mat_Back F) (loopAt PP 55 0) 0) (headOf c_mat_Back 0) k n (fS T_mat_Back_1 [.i x0, .i x1, .i x2, .i x3, .i x4, .i x5, .i x6, .i x7, .i x8, .i x9, .i x10, .i x11, .i x12, .i x13, .i x14, .i x15, .i x16, .i x17, .i x18, .i x19, .i x20, .i x21, .i x22, .i x23, .i x24, .i x25, .i x26, .i x27, .i x28, .i x29, .i x30, .i x31, .i x32, .i x33, .i x34, .i x35, .i x36, .c x37]) = L_mat_Back_1 F (fun (z0 : Int) (z1 : Int) (z2 : Int) (z3 : Int) (z4 : Int) (z5 : Int) (z6 : Int) (z7 : Int) (z8 : Int) (z9 : Int) (z10 : Int) (z11 : Int) (z12 : Int) (z13 : Int) (z14 : Int) (z15 : Int) (z16 : Int) (z17 : Int) (z18 : Int) (z19 : Int) (z20 : Int) (z21 : Int) (z22 : Int) (z23 : Int) (z24 : Int) (z25 : Int) (z26 : Int) (z27 : Int) (z28 : Int) (z29 : Int) (z30 : Int) (z31 : Int) (z32 : Int) (z33 : Int) (z34 : Int) (z35 : Int) (z36 : Int) (z37 : List VV) => k (.exit 0) (fS T_mat_Back_1_0 [.i z0, .i z1, .i z2, .i z3, .i z4, .i z5, .i z6, .i z7, .i z8, .i z9, .i z10, .i z11, .i z12, .i z13, .i z14, .i z15, .i z16, .i z17, .i z18, .i z19, .i z20, .i z21, .i z22, .i z23, .i z24, .i z25, .i z26, .i z27, .i z28, .i z29, .i z30, .i z31, .i z32, .i z33, .i z34, .i z35, .i z36, .c z37])) n x0 x1 x2 x3 x4 x5 x6 x7 x8 x9 x10 x11 x12 x13 x14 x15 x16 x17 x18 x19 x20 x21 x22 x23 x24 x25 x26 x27 x28 x29 x30 x31 x32 x33 x34 x35 x36 x37
  | 0, _, _, _, _, _, _, _, _, _, _, _, _, _, _, _, _, _, _, _, _, _, _, _, _, _, _, _, _, _, _, _, _, _, _, _, _, _, _ => rfl
  | n + 1, x0, x1, x2, x3, x4, x5, x6, x7, x8, x9, x10, x11, x12, x13, x14, x15, x16, x17, x18, x19, x20, x21, x22, x23, x24, x25, x26, x27, x28, x29, x30, x31, x32, x33, x34, x35, x36, x37 => by
    have h0 : ∀ (L_mat_Back_0 : Nat → (Int → Int → Int → Int → Int → Int → Int → Int → Int → Int → Int → Int → Int → Int → Int → Int → Int → Int → Int → Int → Int → Int → Int → Int → Int → Int → Int → Int → Int → Int → Int → Int → Int → Int → Int → Int → Int → Int → Int → Int → Int → Int → List VV → Int → Int → Int → R) → Nat → Int → Int → Int → Int → Int → Int → Int → Int → Int → Int → Int → Int → Int → Int → Int → Int → Int → Int → Int → Int → Int → Int → Int → Int → Int → Int → Int → Int → Int → Int → Int → Int → Int → Int → Int → Int → Int → Int → Int → Int → Int → Int → List VV → Int → Int → Int → R) (L_mat_Back_1 : Nat → (Int → Int → Int → Int → Int → Int → Int → Int → Int → Int → Int → Int → Int → Int → Int → Int → Int → Int → Int → Int → Int → Int → Int → Int → Int → Int → Int → Int → Int → Int → Int → Int → Int → Int → Int → Int → Int → List VV → R) → Nat → Int → Int → Int → Int → Int → Int → Int → Int → Int → Int → Int → Int → Int → Int → Int → Int → Int → Int → Int → Int → Int → Int → Int → Int → Int → Int → Int → Int → Int → Int → Int → Int → Int → Int → Int → Int → Int → List VV → R), iterC (codeL PP (words []) c_mat_Back (tabI c_mat_Back [⟨2, T_mat_Back_0, fun k q => L_mat_Back_0 F (fun (z0 : Int) (z1 : Int) (z2 : Int) (z3 : Int) (z4 : Int) (z5 : Int) (z6 : Int) (z7 : Int) (z8 : Int) (z9 : Int) (z10 : Int) (z11 : Int) (z12 : Int) (z13 : Int) (z14 : Int) (z15 : Int) (z16 : Int) (z17 : Int) (z18 : Int) (z19 : Int) (z20 : Int) (z21 : Int) (z22 : Int) (z23 : Int) (z24 : Int) (z25 : Int) (z26 : Int) (z27 : Int) (z28 : Int) (z29 : Int) (z30 : Int) (z31 : Int) (z32 : Int) (z33 : Int) (z34 : Int) (z35 : Int) (z36 : Int) (z37 : Int) (z38 : Int) (z39 : Int) (z40 : Int) (z41 : Int) (z42 : List VV) (z43 : Int) (z44 : Int) (z45 : Int) => k (.exit 2) (fS T_mat_Back_0_0 [.i z0, .i z1, .i z2, .i z3, .i z4, .i z5, .i z6, .i z7, .i z8, .i z9, .i z10, .i z11, .i z12, .i z13, .i z14, .i z15, .i z16, .i z17, .i z18, .i z19, .i z20, .i z21, .i z22, .i z23, .i z24, .i z25, .i z26, .i z27, .i z28, .i z29, .i z30, .i z31, .i z32, .i z33, .i z34, .i z35, .i z36, .i z37, .i z38, .i z39, .i z40, .i z41, .c z42, .i z43, .i z44, .i z45])) F (atI (nth q 0)) (atI (nth q 1)) (atI (nth q 2)) (atI (nth q 3)) (atI (nth q 4)) (atI (nth q 5)) (atI (nth q 6)) (atI (nth q 7)) (atI (nth q 8)) (atI (nth q 9)) (atI (nth q 10)) (atI (nth q 11)) (atI (nth q 12)) (atI (nth q 13)) (atI (nth q 14)) (atI (nth q 15)) (atI (nth q 16)) (atI (nth q 17)) (atI (nth q 18)) (atI (nth q 19)) (atI (nth q 20)) (atI (nth q 21)) (atI (nth q 22)) (atI (nth q 23)) (atI (nth q 24)) (atI (nth q 25)) (atI (nth q 26)) (atI (nth q 27)) (atI (nth q 28)) (atI (nth q 29)) (atI (nth q 30)) (atI (nth q 31)) (atI (nth q 32)) (atI (nth q 33)) (atI (nth q 34)) (atI (nth q 35)) (atI (nth q 36)) (atI (nth q 37)) (atI (nth q 38)) (atI (nth q 39)) (atI (nth q 40)) (atI (nth q 41)) (atC (nth q 42)) (atI (nth q 43)) (atI (nth q 44)) (atI (nth q 45))⟩, ⟨0, T_mat_Back_1, fun k q => L_mat_Back_1 F (fun (z0 : Int) (z1 : Int) (z2 : Int) (z3 : Int) (z4 : Int) (z5 : Int) (z6 : Int) (z7 : Int) (z8 : Int) (z9 : Int) (z10 : Int) (z11 : Int) (z12 : Int) (z13 : Int) (z14 : Int) (z15 : Int) (z16 : Int) (z17 : Int) (z18 : Int) (z19 : Int) (z20 : Int) (z21 : Int) (z22 : Int) (z23 : Int) (z24 : Int) (z25 : Int) (z26 : Int) (z27 : Int) (z28 : Int) (z29 : Int) (z30 : Int) (z31 : Int) (z32 : Int) (z33 : Int) (z34 : Int) (z35 : Int) (z36 : Int) (z37 : List VV) => k (.exit 0) (fS T_mat_Back_1_0 [.i z0, .i z1, .i z2, .i z3, .i z4, .i z5, .i z6, .i z7, .i z8, .i z9, .i z10, .i z11, .i z12, .i z13, .i z14, .i z15, .i z16, .i z17, .i z18, .i z19, .i z20, .i z21, .i z22, .i z23, .i z24, .i z25, .i z26, .i z27, .i z28, .i z29, .i z30, .i z31, .i z32, .i z33, .i z34, .i z35, .i z36, .c z37])) F (atI (nth q 0)) (atI (nth q 1)) (atI (nth q 2)) (atI (nth q 3)) (atI (nth q 4)) (atI (nth q 5)) (atI (nth q 6)) (atI (nth q 7)) (atI (nth q 8)) (atI (nth q 9)) (atI (nth q 10)) (atI (nth q 11)) (atI (nth q 12)) (atI (nth q 13)) (atI (nth q 14)) (atI (nth q 15)) (atI (nth q 16)) (atI (nth q 17)) (atI (nth q 18)) (atI (nth q 19)) (atI (nth q 20)) (atI (nth q 21)) (atI (nth q 22)) (atI (nth q 23)) (atI (nth q 24)) (atI (nth q 25)) (atI (nth q 26)) (atI (nth q 27)) (atI (nth q 28)) (atI (nth q 29)) (atI (nth q 30)) (atI (nth q 31)) (atI (nth q 32)) (atI (nth q 33)) (atI (nth q 34)) (atI (nth q 35)) (atI (nth q 36)) (atC (nth q 37))⟩]) (tabJ []) (loopAt PP 55 0) 0) (headOf c_mat_Back 0) k (n + 1) (fS T_mat_Back_1 [.i x0, .i x1, .i x2, .i x3, .i x4, .i x5, .i x6, .i x7, .i x8, .i x9, .i x10, .i x11, .i x12, .i x13, .i x14, .i x15, .i x16, .i x17, .i x18, .i x19, .i x20, .i x21, .i x22, .i x23, .i x24, .i x25, .i x26, .i x27, .i x28, .i x29, .i x30, .i x31, .i x32, .i x33, .i x34, .i x35, .i x36, .c x37]) = (fun (rc : Int → Int → Int → Int → Int → Int → Int → Int → Int → Int → Int → Int → Int → Int → Int → Int → Int → Int → Int → Int → Int → Int → Int → Int → Int → Int → Int → Int → Int → Int → Int → Int → Int → Int → Int → Int → Int → List VV → R) (ex0 : Int → Int → Int → Int → Int → Int → Int → Int → Int → Int → Int → Int → Int → Int → Int → Int → Int → Int → Int → Int → Int → Int → Int → Int → Int → Int → Int → Int → Int → Int → Int → Int → Int → Int → Int → Int → Int → List VV → R) (x0 : Int) (x1 : Int) (x2 : Int) (x3 : Int) (x4 : Int) (x5 : Int) (x6 : Int) (x7 : Int) (x8 : Int) (x9 : Int) (x10 : Int) (x11 : Int) (x12 : Int) (x13 : Int) (x14 : Int) (x15 : Int) (x16 : Int) (x17 : Int) (x18 : Int) (x19 : Int) (x20 : Int) (x21 : Int) (x22 : Int) (x23 : Int) (x24 : Int) (x25 : Int) (x26 : Int) (x27 : Int) (x28 : Int) (x29 : Int) (x30 : Int) (x31 : Int) (x32 : Int) (x33 : Int) (x34 : Int) (x35 : Int) (x36 : Int) (x37 : List VV) => (
  bif ((decide (x18 < 3))) then (
    bif (((decide (0 ≤ x18)) && (decide (x18 < 3))) && ((isI .i64 [.v (.int .i64 x9), .v (.int .i64 x10), .v (.int .i64 x11), .v (.int .i64 x12), .v (.int .i64 x13), .v (.int .i64 x14), .v (.int .i64 x15), .v (.int .i64 x16), .v (.int .i64 x17)][((Int.toNat x18) * 3)]?) && ((isI .i64 [.v (.int .i64 x9), .v (.int .i64 x10), .v (.int .i64 x11), .v (.int .i64 x12), .v (.int .i64 x13), .v (.int .i64 x14), .v (.int .i64 x15), .v (.int .i64 x16), .v (.int .i64 x17)][(((Int.toNat x18) * 3) + 1)]?) && ((isI .i64 [.v (.int .i64 x9), .v (.int .i64 x10), .v (.int .i64 x11), .v (.int .i64 x12), .v (.int .i64 x13), .v (.int .i64 x14), .v (.int .i64 x15), .v (.int .i64 x16), .v (.int .i64 x17)][((((Int.toNat x18) * 3) + 1) + 1)]?) && true)))) then (
      let v2689 : Int := (iv [.v (.int .i64 x9), .v (.int .i64 x10), .v (.int .i64 x11), .v (.int .i64 x12), .v (.int .i64 x13), .v (.int .i64 x14), .v (.int .i64 x15), .v (.int .i64 x16), .v (.int .i64 x17)][((Int.toNat x18) * 3)]?)
      let v2690 : Int := (iv [.v (.int .i64 x9), .v (.int .i64 x10), .v (.int .i64 x11), .v (.int .i64 x12), .v (.int .i64 x13), .v (.int .i64 x14), .v (.int .i64 x15), .v (.int .i64 x16), .v (.int .i64 x17)][(((Int.toNat x18) * 3) + 1)]?)
      let v2691 : Int := (iv [.v (.int .i64 x9), .v (.int .i64 x10), .v (.int .i64 x11), .v (.int .i64 x12), .v (.int .i64 x13), .v (.int .i64 x14), .v (.int .i64 x15), .v (.int .i64 x16), .v (.int .i64 x17)][((((Int.toNat x18) * 3) + 1) + 1)]?)
      L_mat_Back_0 F (fun (v2744 : Int) (v2745 : Int) (v2746 : Int) (v2747 : Int) (v2748 : Int) (v2749 : Int) (v2750 : Int) (v2751 : Int) (v2752 : Int) (v2753 : Int) (v2754 : Int) (v2755 : Int) (v2756 : Int) (v2757 : Int) (v2758 : Int) (v2759 : Int) (v2760 : Int) (v2761 : Int) (v2762 : Int) (v2763 : Int) (v2764 : Int) (v2765 : Int) (v2766 : Int) (v2767 : Int) (v2768 : Int) (v2769 : Int) (v2770 : Int) (v2771 : Int) (v2772 : Int) (v2773 : Int) (v2774 : Int) (v2775 : Int) (v2776 : Int) (v2777 : Int) (v2778 : Int) (v2779 : Int) (v2780 : Int) (v2781 : Int) (v2782 : Int) (v2783 : Int) (v2784 : Int) (v2785 : Int) (v2786 : List VV) (v2787 : Int) (v2788 : Int) (v2789 : Int) =>
        rc v2744 v2745 v2746 v2747 v2748 v2749 v2750 v2751 v2752 v2754 v2755 v2756 v2757 v2758 v2759 v2760 v2761 v2762 ((IntKind.wrap .i64 (v2763 + 1))) v2768 v2769 v2770 v2771 v2772 v2773 v2774 v2775 v2776 v2777 v2778 v2779 v2780 v2781 v2782 v2783 v2784 v2785 v2786) F x0 x1 x2 x3 x4 x5 x6 x7 x8 x18 x9 x10 x11 x12 x13 x14 x15 x16 x17 x18 v2689 v2690 v2691 0 x19 x20 x21 x22 x23 x24 x25 x26 x27 x28 x29 x30 x31 x32 x33 x34 x35 x36 x37 v2689 v2690 v2691)
    else (
      none))
  else (
    ex0 x0 x1 x2 x3 x4 x5 x6 x7 x8 x9 x10 x11 x12 x13 x14 x15 x16 x17 x18 x19 x20 x21 x22 x23 x24 x25 x26 x27 x28 x29 x30 x31 x32 x33 x34 x35 x36 x37) : R)) (fun (y0 : Int) (y1 : Int) (y2 : Int) (y3 : Int) (y4 : Int) (y5 : Int) (y6 : Int) (y7 : Int) (y8 : Int) (y9 : Int) (y10 : Int) (y11 : Int) (y12 : Int) (y13 : Int) (y14 : Int) (y15 : Int) (y16 : Int) (y17 : Int) (y18 : Int) (y19 : Int) (y20 : Int) (y21 : Int) (y22 : Int) (y23 : Int) (y24 : Int) (y25 : Int) (y26 : Int) (y27 : Int) (y28 : Int) (y29 : Int) (y30 : Int) (y31 : Int) (y32 : Int) (y33 : Int) (y34 : Int) (y35 : Int) (y36 : Int) (y37 : List VV) => iterC (codeL PP (words []) c_mat_Back (tabI c_mat_Back [⟨2, T_mat_Back_0, fun k q => L_mat_Back_0 F (fun (z0 : Int) (z1 : Int) (z2 : Int) (z3 : Int) (z4 : Int) (z5 : Int) (z6 : Int) (z7 : Int) (z8 : Int) (z9 : Int) (z10 : Int) (z11 : Int) (z12 : Int) (z13 : Int) (z14 : Int) (z15 : Int) (z16 : Int) (z17 : Int) (z18 : Int) (z19 : Int) (z20 : Int) (z21 : Int) (z22 : Int) (z23 : Int) (z24 : Int) (z25 : Int) (z26 : Int) (z27 : Int) (z28 : Int) (z29 : Int) (z30 : Int) (z31 : Int) (z32 : Int) (z33 : Int) (z34 : Int) (z35 : Int) (z36 : Int) (z37 : Int) (z38 : Int) (z39 : Int) (z40 : Int) (z41 : Int) (z42 : List VV) (z43 : Int) (z44 : Int) (z45 : Int) => k (.exit 2) (fS T_mat_Back_0_0 [.i z0, .i z1, .i z2, .i z3, .i z4, .i z5, .i z6, .i z7, .i z8, .i z9, .i z10, .i z11, .i z12, .i z13, .i z14, .i z15, .i z16, .i z17, .i z18, .i z19, .i z20, .i z21, .i z22, .i z23, .i z24, .i z25, .i z26, .i z27, .i z28, .i z29, .i z30, .i z31, .i z32, .i z33, .i z34, .i z35, .i z36, .i z37, .i z38, .i z39, .i z40, .i z41, .c z42, .i z43, .i z44, .i z45])) F (atI (nth q 0)) (atI (nth q 1)) (atI (nth q 2)) (atI (nth q 3)) (atI (nth q 4)) (atI (nth q 5)) (atI (nth q 6)) (atI (nth q 7)) (atI (nth q 8)) (atI (nth q 9)) (atI (nth q 10)) (atI (nth q 11)) (atI (nth q 12)) (atI (nth q 13)) (atI (nth q 14)) (atI (nth q 15)) (atI (nth q 16)) (atI (nth q 17)) (atI (nth q 18)) (atI (nth q 19)) (atI (nth q 20)) (atI (nth q 21)) (atI (nth q 22)) (atI (nth q 23)) (atI (nth q 24)) (atI (nth q 25)) (atI (nth q 26)) (atI (nth q 27)) (atI (nth q 28)) (atI (nth q 29)) (atI (nth q 30)) (atI (nth q 31)) (atI (nth q 32)) (atI (nth q 33)) (atI (nth q 34)) (atI (nth q 35)) (atI (nth q 36)) (atI (nth q 37)) (atI (nth q 38)) (atI (nth q 39)) (atI (nth q 40)) (atI (nth q 41)) (atC (nth q 42)) (atI (nth q 43)) (atI (nth q 44)) (atI (nth q 45))⟩, ⟨0, T_mat_Back_1, fun k q => L_mat_Back_1 F (fun (z0 : Int) (z1 : Int) (z2 : Int) (z3 : Int) (z4 : Int) (z5 : Int) (z6 : Int) (z7 : Int) (z8 : Int) (z9 : Int) (z10 : Int) (z11 : Int) (z12 : Int) (z13 : Int) (z14 : Int) (z15 : Int) (z16 : Int) (z17 : Int) (z18 : Int) (z19 : Int) (z20 : Int) (z21 : Int) (z22 : Int) (z23 : Int) (z24 : Int) (z25 : Int) (z26 : Int) (z27 : Int) (z28 : Int) (z29 : Int) (z30 : Int) (z31 : Int) (z32 : Int) (z33 : Int) (z34 : Int) (z35 : Int) (z36 : Int) (z37 : List VV) => k (.exit 0) (fS T_mat_Back_1_0 [.i z0, .i z1, .i z2, .i z3, .i z4, .i z5, .i z6, .i z7, .i z8, .i z9, .i z10, .i z11, .i z12, .i z13, .i z14, .i z15, .i z16, .i z17, .i z18, .i z19, .i z20, .i z21, .i z22, .i z23, .i z24, .i z25, .i z26, .i z27, .i z28, .i z29, .i z30, .i z31, .i z32, .i z33, .i z34, .i z35, .i z36, .c z37])) F (atI (nth q 0)) (atI (nth q 1)) (atI (nth q 2)) (atI (nth q 3)) (atI (nth q 4)) (atI (nth q 5)) (atI (nth q 6)) (atI (nth q 7)) (atI (nth q 8)) (atI (nth q 9)) (atI (nth q 10)) (atI (nth q 11)) (atI (nth q 12)) (atI (nth q 13)) (atI (nth q 14)) (atI (nth q 15)) (atI (nth q 16)) (atI (nth q 17)) (atI (nth q 18)) (atI (nth q 19)) (atI (nth q 20)) (atI (nth q 21)) (atI (nth q 22)) (atI (nth q 23)) (atI (nth q 24)) (atI (nth q 25)) (atI (nth q 26)) (atI (nth q 27)) (atI (nth q 28)) (atI (nth q 29)) (atI (nth q 30)) (atI (nth q 31)) (atI (nth q 32)) (atI (nth q 33)) (atI (nth q 34)) (atI (nth q 35)) (atI (nth q 36)) (atC (nth q 37))⟩]) (tabJ []) (loopAt PP 55 0) 0) (headOf c_mat_Back 0) k n (fS T_mat_Back_1 [.i y0, .i y1, .i y2, .i y3, .i y4, .i y5, .i y6, .i y7, .i y8, .i y9, .i y10, .i y11, .i y12, .i y13, .i y14, .i y15, .i y16, .i y17, .i y18, .i y19, .i y20, .i y21, .i y22, .i y23, .i y24, .i y25, .i y26, .i y27, .i y28, .i y29, .i y30, .i y31, .i y32, .i y33, .i y34, .i y35, .i y36, .c y37])) (fun (z0 : Int) (z1 : Int) (z2 : Int) (z3 : Int) (z4 : Int) (z5 : Int) (z6 : Int) (z7 : Int) (z8 : Int) (z9 : Int) (z10 : Int) (z11 : Int) (z12 : Int) (z13 : Int) (z14 : Int) (z15 : Int) (z16 : Int) (z17 : Int) (z18 : Int) (z19 : Int) (z20 : Int) (z21 : Int) (z22 : Int) (z23 : Int) (z24 : Int) (z25 : Int) (z26 : Int) (z27 : Int) (z28 : Int) (z29 : Int) (z30 : Int) (z31 : Int) (z32 : Int) (z33 : Int) (z34 : Int) (z35 : Int) (z36 : Int) (z37 : List VV) => k (.exit 0) (fS T_mat_Back_1_0 [.i z0, .i z1, .i z2, .i z3, .i z4, .i z5, .i z6, .i z7, .i z8, .i z9, .i z10, .i z11, .i z12, .i z13, .i z14, .i z15, .i z16, .i z17, .i z18, .i z19, .i z20, .i z21, .i z22, .i z23, .i z24, .i z25, .i z26, .i z27, .i z28, .i z29, .i z30, .i z31, .i z32, .i z33, .i z34, .i z35, .i z36, .c z37])) x0 x1 x2 x3 x4 x5 x6 x7 x8 x9 x10 x11 x12 x13 x14 x15 x16 x17 x18 x19 x20 x21 x22 x23 x24 x25 x26 x27 x28 x29 x30 x31 x32 x33 x34 x35 x36 x37 := by
      intros
      kernel_rfl
    have h : iterC (codeL PP (S_mat_Back F) c_mat_Back (I_mat_Back F) (J_mat_Back F) (loopAt PP 55 0) 0) (headOf c_mat_Back 0) k (n + 1) (fS T_mat_Back_1 [.i x0, .i x1, .i x2, .i x3, .i x4, .i x5, .i x6, .i x7, .i x8, .i x9, .i x10, .i x11, .i x12, .i x13, .i x14, .i x15, .i x16, .i x17, .i x18, .i x19, .i x20, .i x21, .i x22, .i x23, .i x24, .i x25, .i x26, .i x27, .i x28, .i x29, .i x30, .i x31, .i x32, .i x33, .i x34, .i x35, .i x36, .c x37]) = B_mat_Back_1 F (fun (y0 : Int) (y1 : Int) (y2 : Int) (y3 : Int) (y4 : Int) (y5 : Int) (y6 : Int) (y7 : Int) (y8 : Int) (y9 : Int) (y10 : Int) (y11 : Int) (y12 : Int) (y13 : Int) (y14 : Int) (y15 : Int) (y16 : Int) (y17 : Int) (y18 : Int) (y19 : Int) (y20 : Int) (y21 : Int) (y22 : Int) (y23 : Int) (y24 : Int) (y25 : Int) (y26 : Int) (y27 : Int) (y28 : Int) (y29 : Int) (y30 : Int) (y31 : Int) (y32 : Int) (y33 : Int) (y34 : Int) (y35 : Int) (y36 : Int) (y37 : List VV) => iterC (codeL PP (S_mat_Back F) c_mat_Back (I_mat_Back F) (J_mat_Back F) (loopAt PP 55 0) 0) (headOf c_mat_Back 0) k n (fS T_mat_Back_1 [.i y0, .i y1, .i y2, .i y3, .i y4, .i y5, .i y6, .i y7, .i y8, .i y9, .i y10, .i y11, .i y12, .i y13, .i y14, .i y15, .i y16, .i y17, .i y18, .i y19, .i y20, .i y21, .i y22, .i y23, .i y24, .i y25, .i y26, .i y27, .i y28, .i y29, .i y30, .i y31, .i y32, .i y33, .i y34, .i y35, .i y36, .c y37])) (fun (z0 : Int) (z1 : Int) (z2 : Int) (z3 : Int) (z4 : Int) (z5 : Int) (z6 : Int) (z7 : Int) (z8 : Int) (z9 : Int) (z10 : Int) (z11 : Int) (z12 : Int) (z13 : Int) (z14 : Int) (z15 : Int) (z16 : Int) (z17 : Int) (z18 : Int) (z19 : Int) (z20 : Int) (z21 : Int) (z22 : Int) (z23 : Int) (z24 : Int) (z25 : Int) (z26 : Int) (z27 : Int) (z28 : Int) (z29 : Int) (z30 : Int) (z31 : Int) (z32 : Int) (z33 : Int) (z34 : Int) (z35 : Int) (z36 : Int) (z37 : List VV) => k (.exit 0) (fS T_mat_Back_1_0 [.i z0, .i z1, .i z2, .i z3, .i z4, .i z5, .i z6, .i z7, .i z8, .i z9, .i z10, .i z11, .i z12, .i z13, .i z14, .i z15, .i z16, .i z17, .i z18, .i z19, .i z20, .i z21, .i z22, .i z23, .i z24, .i z25, .i z26, .i z27, .i z28, .i z29, .i z30, .i z31, .i z32, .i z33, .i z34, .i z35, .i z36, .c z37])) x0 x1 x2 x3 x4 x5 x6 x7 x8 x9 x10 x11 x12 x13 x14 x15 x16 x17 x18 x19 x20 x21 x22 x23 x24 x25 x26 x27 x28 x29 x30 x31 x32 x33 x34 x35 x36 x37 := (h0 L_mat_Back_0 L_mat_Back_1).trans (by kernel_rfl)
    rw [h]
    simp only [lL_mat_Back_1 F k n]
    rfl
def f_mat_Back (F : Nat) (a0 : Int) (a1 : Int) (a2 : Int) (a3 : Int) (a4 : Int) (a5 : Int) (a6 : Int) (a7 : Int) (a8 : Int) : R :=
  L_mat_Back_1 F (fun (v2791 : Int) (v2792 : Int) (v2793 : Int) (v2794 : Int) (v2795 : Int) (v2796 : Int) (v2797 : Int) (v2798 : Int) (v2799 : Int) (v2800 : Int) (v2801 : Int) (v2802 : Int) (v2803 : Int) (v2804 : Int) (v2805 : Int) (v2806 : Int) (v2807 : Int) (v2808 : Int) (v2809 : Int) (v2810 : Int) (v2811 : Int) (v2812 : Int) (v2813 : Int) (v2814 : Int) (v2815 : Int) (v2816 : Int) (v2817 : Int) (v2818 : Int) (v2819 : Int) (v2820 : Int) (v2821 : Int) (v2822 : Int) (v2823 : Int) (v2824 : Int) (v2825 : Int) (v2826 : Int) (v2827 : Int) (v2828 : List VV) =>
    bif ((isI .i64 v2828[0]?) && ((isI .i64 v2828[1]?) && ((isI .i64 v2828[2]?) && ((isI .i64 v2828[3]?) && ((isI .i64 v2828[4]?) && ((isI .i64 v2828[5]?) && ((isI .i64 v2828[6]?) && ((isI .i64 v2828[7]?) && ((isI .i64 v2828[8]?) && true))))))))) then (
      some (.v (.agg #[.int .i64 ((iv v2828[0]?)), .int .i64 ((iv v2828[1]?)), .int .i64 ((iv v2828[2]?)), .int .i64 ((iv v2828[3]?)), .int .i64 ((iv v2828[4]?)), .int .i64 ((iv v2828[5]?)), .int .i64 ((iv v2828[6]?)), .int .i64 ((iv v2828[7]?)), .int .i64 ((iv v2828[8]?))])))
    else (
      none)) F a0 a1 a2 a3 a4 a5 a6 a7 a8 a0 a1 a2 a3 a4 a5 a6 a7 a8 0 a0 a1 a2 a3 a4 a5 a6 a7 a8 0 0 0 0 0 0 0 0 0 ([.v (.int .i64 0), .v (.int .i64 0), .v (.int .i64 0), .v (.int .i64 0), .v (.int .i64 0), .v (.int .i64 0), .v (.int .i64 0), .v (.int .i64 0), .v (.int .i64 0)])
theorem e_mat_Back (F : Nat) (a0 : Int) (a1 : Int) (a2 : Int) (a3 : Int) (a4 : Int) (a5 : Int) (a6 : Int) (a7 : Int) (a8 : Int) : funL PP (S_mat_Back F) c_mat_Back (I_mat_Back F) (J_mat_Back F) 55 (fTs ti_mat_Back [.i a0, .i a1, .i a2, .i a3, .i a4, .i a5, .i a6, .i a7, .i a8]).1 = f_mat_Back F a0 a1 a2 a3 a4 a5 a6 a7 a8 := by
  have h : ∀ (L_mat_Back_0 : Nat → (Int → Int → Int → Int → Int → Int → Int → Int → Int → Int → Int → Int → Int → Int → Int → Int → Int → Int → Int → Int → Int → Int → Int → Int → Int → Int → Int → Int → Int → Int → Int → Int → Int → Int → Int → Int → Int → Int → Int → Int → Int → Int → List VV → Int → Int → Int → R) → Nat → Int → Int → Int → Int → Int → Int → Int → Int → Int → Int → Int → Int → Int → Int → Int → Int → Int → Int → Int → Int → Int → Int → Int → Int → Int → Int → Int → Int → Int → Int → Int → Int → Int → Int → Int → Int → Int → Int → Int → Int → Int → Int → List VV → Int → Int → Int → R) (L_mat_Back_1 : Nat → (Int → Int → Int → Int → Int → Int → Int → Int → Int → Int → Int → Int → Int → Int → Int → Int → Int → Int → Int → Int → Int → Int → Int → Int → Int → Int → Int → Int → Int → Int → Int → Int → Int → Int → Int → Int → Int → List VV → R) → Nat → Int → Int → Int → Int → Int → Int → Int → Int → Int → Int → Int → Int → Int → Int → Int → Int → Int → Int → Int → Int → Int → Int → Int → Int → Int → Int → Int → Int → Int → Int → Int → Int → Int → Int → Int → Int → Int → List VV → R), funL PP (words []) c_mat_Back (tabI c_mat_Back [⟨2, T_mat_Back_0, fun k q => L_mat_Back_0 F (fun (z0 : Int) (z1 : Int) (z2 : Int) (z3 : Int) (z4 : Int) (z5 : Int) (z6 : Int) (z7 : Int) (z8 : Int) (z9 : Int) (z10 : Int) (z11 : Int) (z12 : Int) (z13 : Int) (z14 : Int) (z15 : Int) (z16 : Int) (z17 : Int) (z18 : Int) (z19 : Int) (z20 : Int) (z21 : Int) (z22 : Int) (z23 : Int) (z24 : Int) (z25 : Int) (z26 : Int) (z27 : Int) (z28 : Int) (z29 : Int) (z30 : Int) (z31 : Int) (z32 : Int) (z33 : Int) (z34 : Int) (z35 : Int) (z36 : Int) (z37 : Int) (z38 : Int) (z39 : Int) (z40 : Int) (z41 : Int) (z42 : List VV) (z43 : Int) (z44 : Int) (z45 : Int) => k (.exit 2) (fS T_mat_Back_0_0 [.i z0, .i z1, .i z2, .i z3, .i z4, .i z5, .i z6, .i z7, .i z8, .i z9, .i z10, .i z11, .i z12, .i z13, .i z14, .i z15, .i z16, .i z17, .i z18, .i z19, .i z20, .i z21, .i z22, .i z23, .i z24, .i z25, .i z26, .i z27, .i z28, .i z29, .i z30, .i z31, .i z32, .i z33, .i z34, .i z35, .i z36, .i z37, .i z38, .i z39, .i z40, .i z41, .c z42, .i z43, .i z44, .i z45])) F (atI (nth q 0)) (atI (nth q 1)) (atI (nth q 2)) (atI (nth q 3)) (atI (nth q 4)) (atI (nth q 5)) (atI (nth q 6)) (atI (nth q 7)) (atI (nth q 8)) (atI (nth q 9)) (atI (nth q 10)) (atI (nth q 11)) (atI (nth q 12)) (atI (nth q 13)) (atI (nth q 14)) (atI (nth q 15)) (atI (nth q 16)) (atI (nth q 17)) (atI (nth q 18)) (atI (nth q 19)) (atI (nth q 20)) (atI (nth q 21)) (atI (nth q 22)) (atI (nth q 23)) (atI (nth q 24)) (atI (nth q 25)) (atI (nth q 26)) (atI (nth q 27)) (atI (nth q 28)) (atI (nth q 29)) (atI (nth q 30)) (atI (nth q 31)) (atI (nth q 32)) (atI (nth q 33)) (atI (nth q 34)) (atI (nth q 35)) (atI (nth q 36)) (atI (nth q 37)) (atI (nth q 38)) (atI (nth q 39)) (atI (nth q 40)) (atI (nth q 41)) (atC (nth q 42)) (atI (nth q 43)) (atI (nth q 44)) (atI (nth q 45))⟩, ⟨0, T_mat_Back_1, fun k q => L_mat_Back_1 F (fun (z0 : Int) (z1 : Int) (z2 : Int) (z3 : Int) (z4 : Int) (z5 : Int) (z6 : Int) (z7 : Int) (z8 : Int) (z9 : Int) (z10 : Int) (z11 : Int) (z12 : Int) (z13 : Int) (z14 : Int) (z15 : Int) (z16 : Int) (z17 : Int) (z18 : Int) (z19 : Int) (z20 : Int) (z21 : Int) (z22 : Int) (z23 : Int) (z24 : Int) (z25 : Int) (z26 : Int) (z27 : Int) (z28 : Int) (z29 : Int) (z30 : Int) (z31 : Int) (z32 : Int) (z33 : Int) (z34 : Int) (z35 : Int) (z36 : Int) (z37 : List VV) => k (.exit 0) (fS T_mat_Back_1_0 [.i z0, .i z1, .i z2, .i z3, .i z4, .i z5, .i z6, .i z7, .i z8, .i z9, .i z10, .i z11, .i z12, .i z13, .i z14, .i z15, .i z16, .i z17, .i z18, .i z19, .i z20, .i z21, .i z22, .i z23, .i z24, .i z25, .i z26, .i z27, .i z28, .i z29, .i z30, .i z31, .i z32, .i z33, .i z34, .i z35, .i z36, .c z37])) F (atI (nth q 0)) (atI (nth q 1)) (atI (nth q 2)) (atI (nth q 3)) (atI (nth q 4)) (atI (nth q 5)) (atI (nth q 6)) (atI (nth q 7)) (atI (nth q 8)) (atI (nth q 9)) (atI (nth q 10)) (atI (nth q 11)) (atI (nth q 12)) (atI (nth q 13)) (atI (nth q 14)) (atI (nth q 15)) (atI (nth q 16)) (atI (nth q 17)) (atI (nth q 18)) (atI (nth q 19)) (atI (nth q 20)) (atI (nth q 21)) (atI (nth q 22)) (atI (nth q 23)) (atI (nth q 24)) (atI (nth q 25)) (atI (nth q 26)) (atI (nth q 27)) (atI (nth q 28)) (atI (nth q 29)) (atI (nth q 30)) (atI (nth q 31)) (atI (nth q 32)) (atI (nth q 33)) (atI (nth q 34)) (atI (nth q 35)) (atI (nth q 36)) (atC (nth q 37))⟩]) (tabJ []) 55 (fTs ti_mat_Back [.i a0, .i a1, .i a2, .i a3, .i a4, .i a5, .i a6, .i a7, .i a8]).1 = (
  L_mat_Back_1 F (fun (v2791 : Int) (v2792 : Int) (v2793 : Int) (v2794 : Int) (v2795 : Int) (v2796 : Int) (v2797 : Int) (v2798 : Int) (v2799 : Int) (v2800 : Int) (v2801 : Int) (v2802 : Int) (v2803 : Int) (v2804 : Int) (v2805 : Int) (v2806 : Int) (v2807 : Int) (v2808 : Int) (v2809 : Int) (v2810 : Int) (v2811 : Int) (v2812 : Int) (v2813 : Int) (v2814 : Int) (v2815 : Int) (v2816 : Int) (v2817 : Int) (v2818 : Int) (v2819 : Int) (v2820 : Int) (v2821 : Int) (v2822 : Int) (v2823 : Int) (v2824 : Int) (v2825 : Int) (v2826 : Int) (v2827 : Int) (v2828 : List VV) =>
    bif ((isI .i64 v2828[0]?) && ((isI .i64 v2828[1]?) && ((isI .i64 v2828[2]?) && ((isI .i64 v2828[3]?) && ((isI .i64 v2828[4]?) && ((isI .i64 v2828[5]?) && ((isI .i64 v2828[6]?) && ((isI .i64 v2828[7]?) && ((isI .i64 v2828[8]?) && true))))))))) then (
      some (.v (.agg #[.int .i64 ((iv v2828[0]?)), .int .i64 ((iv v2828[1]?)), .int .i64 ((iv v2828[2]?)), .int .i64 ((iv v2828[3]?)), .int .i64 ((iv v2828[4]?)), .int .i64 ((iv v2828[5]?)), .int .i64 ((iv v2828[6]?)), .int .i64 ((iv v2828[7]?)), .int .i64 ((iv v2828[8]?))])))
    else (
      none)) F a0 a1 a2 a3 a4 a5 a6 a7 a8 a0 a1 a2 a3 a4 a5 a6 a7 a8 0 a0 a1 a2 a3 a4 a5 a6 a7 a8 0 0 0 0 0 0 0 0 0 ([.v (.int .i64 0), .v (.int .i64 0), .v (.int .i64 0), .v (.int .i64 0), .v (.int .i64 0), .v (.int .i64 0), .v (.int .i64 0), .v (.int .i64 0), .v (.int .i64 0)]) : R) := by
    intros
    kernel_rfl
  exact (h L_mat_Back_0 L_mat_Back_1).trans (by kernel_rfl)
def ok_mat_Back (F : Nat) (a0 : Int) (a1 : Int) (a2 : Int) (a3 : Int) (a4 : Int) (a5 : Int) (a6 : Int) (a7 : Int) (a8 : Int) : Bool := okT to_mat_Back (f_mat_Back F a0 a1 a2 a3 a4 a5 a6 a7 a8)
def o_mat_Back_0 (F : Nat) (a0 : Int) (a1 : Int) (a2 : Int) (a3 : Int) (a4 : Int) (a5 : Int) (a6 : Int) (a7 : Int) (a8 : Int) : Int := atI (nth (outT to_mat_Back (f_mat_Back F a0 a1 a2 a3 a4 a5 a6 a7 a8)) 0)
def o_mat_Back_1 (F : Nat) (a0 : Int) (a1 : Int) (a2 : Int) (a3 : Int) (a4 : Int) (a5 : Int) (a6 : Int) (a7 : Int) (a8 : Int) : Int := atI (nth (outT to_mat_Back (f_mat_Back F a0 a1 a2 a3 a4 a5 a6 a7 a8)) 1)
def o_mat_Back_2 (F : Nat) (a0 : Int) (a1 : Int) (a2 : Int) (a3 : Int) (a4 : Int) (a5 : Int) (a6 : Int) (a7 : Int) (a8 : Int) : Int := atI (nth (outT to_mat_Back (f_mat_Back F a0 a1 a2 a3 a4 a5 a6 a7 a8)) 2)
def o_mat_Back_3 (F : Nat) (a0 : Int) (a1 : Int) (a2 : Int) (a3 : Int) (a4 : Int) (a5 : Int) (a6 : Int) (a7 : Int) (a8 : Int) : Int := atI (nth (outT to_mat_Back (f_mat_Back F a0 a1 a2 a3 a4 a5 a6 a7 a8)) 3)
def o_mat_Back_4 (F : Nat) (a0 : Int) (a1 : Int) (a2 : Int) (a3 : Int) (a4 : Int) (a5 : Int) (a6 : Int) (a7 : Int) (a8 : Int) : Int := atI (nth (outT to_mat_Back (f_mat_Back F a0 a1 a2 a3 a4 a5 a6 a7 a8)) 4)
def o_mat_Back_5 (F : Nat) (a0 : Int) (a1 : Int) (a2 : Int) (a3 : Int) (a4 : Int) (a5 : Int) (a6 : Int) (a7 : Int) (a8 : Int) : Int := atI (nth (outT to_mat_Back (f_mat_Back F a0 a1 a2 a3 a4 a5 a6 a7 a8)) 5)
def o_mat_Back_6 (F : Nat) (a0 : Int) (a1 : Int) (a2 : Int) (a3 : Int) (a4 : Int) (a5 : Int) (a6 : Int) (a7 : Int) (a8 : Int) : Int := atI (nth (outT to_mat_Back (f_mat_Back F a0 a1 a2 a3 a4 a5 a6 a7 a8)) 6)
def o_mat_Back_7 (F : Nat) (a0 : Int) (a1 : Int) (a2 : Int) (a3 : Int) (a4 : Int) (a5 : Int) (a6 : Int) (a7 : Int) (a8 : Int) : Int := atI (nth (outT to_mat_Back (f_mat_Back F a0 a1 a2 a3 a4 a5 a6 a7 a8)) 7)
def o_mat_Back_8 (F : Nat) (a0 : Int) (a1 : Int) (a2 : Int) (a3 : Int) (a4 : Int) (a5 : Int) (a6 : Int) (a7 : Int) (a8 : Int) : Int := atI (nth (outT to_mat_Back (f_mat_Back F a0 a1 a2 a3 a4 a5 a6 a7 a8)) 8)
theorem k_mat_Back (F : Nat) (a0 : Int) (a1 : Int) (a2 : Int) (a3 : Int) (a4 : Int) (a5 : Int) (a6 : Int) (a7 : Int) (a8 : Int) {z0 : Int} {z1 : Int} {z2 : Int} {z3 : Int} {z4 : Int} {z5 : Int} {z6 : Int} {z7 : Int} {z8 : Int} (h : f_mat_Back F a0 a1 a2 a3 a4 a5 a6 a7 a8 = some (.v (.agg #[.int .i64 z0, .int .i64 z1, .int .i64 z2, .int .i64 z3, .int .i64 z4, .int .i64 z5, .int .i64 z6, .int .i64 z7, .int .i64 z8]))) : ok_mat_Back F a0 a1 a2 a3 a4 a5 a6 a7 a8 = true ∧ o_mat_Back_0 F a0 a1 a2 a3 a4 a5 a6 a7 a8 = z0 ∧ o_mat_Back_1 F a0 a1 a2 a3 a4 a5 a6 a7 a8 = z1 ∧ o_mat_Back_2 F a0 a1 a2 a3 a4 a5 a6 a7 a8 = z2 ∧ o_mat_Back_3 F a0 a1 a2 a3 a4 a5 a6 a7 a8 = z3 ∧ o_mat_Back_4 F a0 a1 a2 a3 a4 a5 a6 a7 a8 = z4 ∧ o_mat_Back_5 F a0 a1 a2 a3 a4 a5 a6 a7 a8 = z5 ∧ o_mat_Back_6 F a0 a1 a2 a3 a4 a5 a6 a7 a8 = z6 ∧ o_mat_Back_7 F a0 a1 a2 a3 a4 a5 a6 a7 a8 = z7 ∧ o_mat_Back_8 F a0 a1 a2 a3 a4 a5 a6 a7 a8 = z8 := by
  refine ⟨?_, ?_, ?_, ?_, ?_, ?_, ?_, ?_, ?_, ?_⟩
  · unfold ok_mat_Back; rw [h]; kernel_rfl
  · unfold o_mat_Back_0; rw [h]; kernel_rfl
  · unfold o_mat_Back_1; rw [h]; kernel_rfl
  · unfold o_mat_Back_2; rw [h]; kernel_rfl
  · unfold o_mat_Back_3; rw [h]; kernel_rfl
  · unfold o_mat_Back_4; rw [h]; kernel_rfl
  · unfold o_mat_Back_5; rw [h]; kernel_rfl
  · unfold o_mat_Back_6; rw [h]; kernel_rfl
  · unfold o_mat_Back_7; rw [h]; kernel_rfl
  · unfold o_mat_Back_8; rw [h]; kernel_rfl
def s_mat_Back (F : Nat) : List VV → Option (Bool × VV) := spec ti_mat_Back to_mat_Back (fun q => (ok_mat_Back F (atI (nth q 0)) (atI (nth q 1)) (atI (nth q 2)) (atI (nth q 3)) (atI (nth q 4)) (atI (nth q 5)) (atI (nth q 6)) (atI (nth q 7)) (atI (nth q 8)))) (fun q => [.i (o_mat_Back_0 F (atI (nth q 0)) (atI (nth q 1)) (atI (nth q 2)) (atI (nth q 3)) (atI (nth q 4)) (atI (nth q 5)) (atI (nth q 6)) (atI (nth q 7)) (atI (nth q 8))), .i (o_mat_Back_1 F (atI (nth q 0)) (atI (nth q 1)) (atI (nth q 2)) (atI (nth q 3)) (atI (nth q 4)) (atI (nth q 5)) (atI (nth q 6)) (atI (nth q 7)) (atI (nth q 8))), .i (o_mat_Back_2 F (atI (nth q 0)) (atI (nth q 1)) (atI (nth q 2)) (atI (nth q 3)) (atI (nth q 4)) (atI (nth q 5)) (atI (nth q 6)) (atI (nth q 7)) (atI (nth q 8))), .i (o_mat_Back_3 F (atI (nth q 0)) (atI (nth q 1)) (atI (nth q 2)) (atI (nth q 3)) (atI (nth q 4)) (atI (nth q 5)) (atI (nth q 6)) (atI (nth q 7)) (atI (nth q 8))), .i (o_mat_Back_4 F (atI (nth q 0)) (atI (nth q 1)) (atI (nth q 2)) (atI (nth q 3)) (atI (nth q 4)) (atI (nth q 5)) (atI (nth q 6)) (atI (nth q 7)) (atI (nth q 8))), .i (o_mat_Back_5 F (atI (nth q 0)) (atI (nth q 1)) (atI (nth q 2)) (atI (nth q 3)) (atI (nth q 4)) (atI (nth q 5)) (atI (nth q 6)) (atI (nth q 7)) (atI (nth q 8))), .i (o_mat_Back_6 F (atI (nth q 0)) (atI (nth q 1)) (atI (nth q 2)) (atI (nth q 3)) (atI (nth q 4)) (atI (nth q 5)) (atI (nth q 6)) (atI (nth q 7)) (atI (nth q 8))), .i (o_mat_Back_7 F (atI (nth q 0)) (atI (nth q 1)) (atI (nth q 2)) (atI (nth q 3)) (atI (nth q 4)) (atI (nth q 5)) (atI (nth q 6)) (atI (nth q 7)) (atI (nth q 8))), .i (o_mat_Back_8 F (atI (nth q 0)) (atI (nth q 1)) (atI (nth q 2)) (atI (nth q 3)) (atI (nth q 4)) (atI (nth q 5)) (atI (nth q 6)) (atI (nth q 7)) (atI (nth q 8)))])
theorem hS_mat_Back (F : Nat) : ∀ f, Good PP f (unS (S_mat_Back F f)) := words_good fun p hp => by
  cases hp
theorem hl_mat_Back (F : Nat) : ∀ p ∈ loopsIn PP 55, LoopOK PP (S_mat_Back F) c_mat_Back F (I_mat_Back F) (J_mat_Back F) p :=
  loops_of [(0, loopAt PP 55 0), (2, loopAt PP 55 1)] (by kernel_rfl) (all_cons
    (loop_ok (W_mat_Back F) rfl (tab_cons (fun h => absurd h (by decide)) (tab_cons (fun _ k q => Le.ofEq ((lL_mat_Back_1 F k F (atI (nth q 0)) (atI (nth q 1)) (atI (nth q 2)) (atI (nth q 3)) (atI (nth q 4)) (atI (nth q 5)) (atI (nth q 6)) (atI (nth q 7)) (atI (nth q 8)) (atI (nth q 9)) (atI (nth q 10)) (atI (nth q 11)) (atI (nth q 12)) (atI (nth q 13)) (atI (nth q 14)) (atI (nth q 15)) (atI (nth q 16)) (atI (nth q 17)) (atI (nth q 18)) (atI (nth q 19)) (atI (nth q 20)) (atI (nth q 21)) (atI (nth q 22)) (atI (nth q 23)) (atI (nth q 24)) (atI (nth q 25)) (atI (nth q 26)) (atI (nth q 27)) (atI (nth q 28)) (atI (nth q 29)) (atI (nth q 30)) (atI (nth q 31)) (atI (nth q 32)) (atI (nth q 33)) (atI (nth q 34)) (atI (nth q 35)) (atI (nth q 36)) (atC (nth q 37))).symm.trans (congrArg (iterC (codeL PP (S_mat_Back F) c_mat_Back (I_mat_Back F) (J_mat_Back F) (loopAt PP 55 0) 0) (headOf c_mat_Back 0) k F) (show fS T_mat_Back_1 [.i (atI (nth q 0)), .i (atI (nth q 1)), .i (atI (nth q 2)), .i (atI (nth q 3)), .i (atI (nth q 4)), .i (atI (nth q 5)), .i (atI (nth q 6)), .i (atI (nth q 7)), .i (atI (nth q 8)), .i (atI (nth q 9)), .i (atI (nth q 10)), .i (atI (nth q 11)), .i (atI (nth q 12)), .i (atI (nth q 13)), .i (atI (nth q 14)), .i (atI (nth q 15)), .i (atI (nth q 16)), .i (atI (nth q 17)), .i (atI (nth q 18)), .i (atI (nth q 19)), .i (atI (nth q 20)), .i (atI (nth q 21)), .i (atI (nth q 22)), .i (atI (nth q 23)), .i (atI (nth q 24)), .i (atI (nth q 25)), .i (atI (nth q 26)), .i (atI (nth q 27)), .i (atI (nth q 28)), .i (atI (nth q 29)), .i (atI (nth q 30)), .i (atI (nth q 31)), .i (atI (nth q 32)), .i (atI (nth q 33)), .i (atI (nth q 34)), .i (atI (nth q 35)), .i (atI (nth q 36)), .c (atC (nth q 37))] = fS T_mat_Back_1 q by kernel_rfl)))) tab_nil))) (all_cons
    (loop_ok (W_mat_Back F) rfl (tab_cons (fun _ k q => Le.ofEq ((lL_mat_Back_0 F k F (atI (nth q 0)) (atI (nth q 1)) (atI (nth q 2)) (atI (nth q 3)) (atI (nth q 4)) (atI (nth q 5)) (atI (nth q 6)) (atI (nth q 7)) (atI (nth q 8)) (atI (nth q 9)) (atI (nth q 10)) (atI (nth q 11)) (atI (nth q 12)) (atI (nth q 13)) (atI (nth q 14)) (atI (nth q 15)) (atI (nth q 16)) (atI (nth q 17)) (atI (nth q 18)) (atI (nth q 19)) (atI (nth q 20)) (atI (nth q 21)) (atI (nth q 22)) (atI (nth q 23)) (atI (nth q 24)) (atI (nth q 25)) (atI (nth q 26)) (atI (nth q 27)) (atI (nth q 28)) (atI (nth q 29)) (atI (nth q 30)) (atI (nth q 31)) (atI (nth q 32)) (atI (nth q 33)) (atI (nth q 34)) (atI (nth q 35)) (atI (nth q 36)) (atI (nth q 37)) (atI (nth q 38)) (atI (nth q 39)) (atI (nth q 40)) (atI (nth q 41)) (atC (nth q 42)) (atI (nth q 43)) (atI (nth q 44)) (atI (nth q 45))).symm.trans (congrArg (iterC (codeL PP (S_mat_Back F) c_mat_Back (I_mat_Back F) (J_mat_Back F) (loopAt PP 55 1) 2) (headOf c_mat_Back 2) k F) (show fS T_mat_Back_0 [.i (atI (nth q 0)), .i (atI (nth q 1)), .i (atI (nth q 2)), .i (atI (nth q 3)), .i (atI (nth q 4)), .i (atI (nth q 5)), .i (atI (nth q 6)), .i (atI (nth q 7)), .i (atI (nth q 8)), .i (atI (nth q 9)), .i (atI (nth q 10)), .i (atI (nth q 11)), .i (atI (nth q 12)), .i (atI (nth q 13)), .i (atI (nth q 14)), .i (atI (nth q 15)), .i (atI (nth q 16)), .i (atI (nth q 17)), .i (atI (nth q 18)), .i (atI (nth q 19)), .i (atI (nth q 20)), .i (atI (nth q 21)), .i (atI (nth q 22)), .i (atI (nth q 23)), .i (atI (nth q 24)), .i (atI (nth q 25)), .i (atI (nth q 26)), .i (atI (nth q 27)), .i (atI (nth q 28)), .i (atI (nth q 29)), .i (atI (nth q 30)), .i (atI (nth q 31)), .i (atI (nth q 32)), .i (atI (nth q 33)), .i (atI (nth q 34)), .i (atI (nth q 35)), .i (atI (nth q 36)), .i (atI (nth q 37)), .i (atI (nth q 38)), .i (atI (nth q 39)), .i (atI (nth q 40)), .i (atI (nth q 41)), .c (atC (nth q 42)), .i (atI (nth q 43)), .i (atI (nth q 44)), .i (atI (nth q 45))] = fS T_mat_Back_0 q by kernel_rfl)))) (tab_cons (fun h => absurd h (by decide)) tab_nil))) all_nil))
theorem hj_mat_Back (F : Nat) : ∀ p ∈ joinsIn PP c_mat_Back 55, JoinOK PP (S_mat_Back F) c_mat_Back (I_mat_Back F) (J_mat_Back F) p :=
  joins_of [] (by kernel_rfl) all_nil
theorem g_mat_Back (F : Nat) : Good PP 55 (unS (s_mat_Back F)) :=
  fun_spec (hS_mat_Back F) (by kernel_rfl) (by kernel_rfl) (C := c_mat_Back) (F := fun q => (f_mat_Back F (atI (nth q 0)) (atI (nth q 1)) (atI (nth q 2)) (atI (nth q 3)) (atI (nth q 4)) (atI (nth q 5)) (atI (nth q 6)) (atI (nth q 7)) (atI (nth q 8)))) (fun _ => F) (fun _ => I_mat_Back F) (fun _ => J_mat_Back F) (fun _ => hl_mat_Back F) (fun _ => hj_mat_Back F)
    (fun q => (congrArg (funL PP (S_mat_Back F) c_mat_Back (I_mat_Back F) (J_mat_Back F) 55) (show (fTs ti_mat_Back q).1 = (fTs ti_mat_Back [.i (atI (nth q 0)), .i (atI (nth q 1)), .i (atI (nth q 2)), .i (atI (nth q 3)), .i (atI (nth q 4)), .i (atI (nth q 5)), .i (atI (nth q 6)), .i (atI (nth q 7)), .i (atI (nth q 8))]).1 by kernel_rfl)).trans (e_mat_Back F (atI (nth q 0)) (atI (nth q 1)) (atI (nth q 2)) (atI (nth q 3)) (atI (nth q 4)) (atI (nth q 5)) (atI (nth q 6)) (atI (nth q 7)) (atI (nth q 8))))
    (fun _ h => (okT_fill h).trans (congrArg some (by kernel_rfl)))

end Go.Xv
set_option linter.unusedVariables false
namespace Go.Xv
/- 51 _mat_Mul -/
def c_mat_Mul : Cfg := ⟨[0, 1, 2, 3, 4, 5, 6, 7, 8, 9, 10, 11, 12, 15, 16, 17], [(0, [0, 1, 2, 3, 4, 5, 6, 7, 8, 13, 14, 15, 16, 34, 35])], [], []⟩
def ti_mat_Mul : List TV := [.v (.agg [.int .i64, .int .i64, .int .i64, .int .i64, .int .i64, .int .i64, .int .i64, .int .i64, .int .i64]), .v (.agg [.int .i64, .int .i64, .int .i64, .int .i64, .int .i64, .int .i64, .int .i64, .int .i64, .int .i64])]
def to_mat_Mul : TV := .v (.tup [.agg [.int .i64, .int .i64, .int .i64, .int .i64, .int .i64, .int .i64, .int .i64, .int .i64, .int .i64], .bool])
def S_mat_Mul (F : Nat) : FuncId → List VV → Option (Bool × VV) := words [(55, s_mat_Back F), (53, s_mat_Apply F)]
def T_mat_Mul_0 : TS := ⟨[(0, .v (.agg [.int .i64, .int .i64, .int .i64, .int .i64, .int .i64, .int .i64, .int .i64, .int .i64, .int .i64])), (1, .v (.agg [.int .i64, .int .i64, .int .i64, .int .i64, .int .i64, .int .i64, .int .i64, .int .i64, .int .i64])), (2, .lp 0 (.lit 0)), (3, .lp 1 (.lit 0)), (4, .lp 2 (.lit 0)), (5, .v (.bool)), (6, .lp 3 (.lit 0)), (7, .v (.bool)), (8, .lp 4 (.lit 0)), (15, .v (.agg [.int .i64, .int .i64, .int .i64, .int .i64, .int .i64, .int .i64, .int .i64, .int .i64, .int .i64])), (16, .v (.int .i64))], [(0, ⟨(.ex [.v (.int .i64), .v (.int .i64), .v (.int .i64), .v (.int .i64), .v (.int .i64), .v (.int .i64), .v (.int .i64), .v (.int .i64), .v (.int .i64)]), true⟩), (1, ⟨(.ex [.v (.int .i64), .v (.int .i64), .v (.int .i64), .v (.int .i64), .v (.int .i64), .v (.int .i64), .v (.int .i64), .v (.int .i64), .v (.int .i64)]), true⟩), (2, ⟨(.ex [.v (.int .i64), .v (.int .i64), .v (.int .i64), .v (.int .i64), .v (.int .i64), .v (.int .i64), .v (.int .i64), .v (.int .i64), .v (.int .i64)]), true⟩), (3, ⟨.hole, true⟩), (4, ⟨(.ex [.v (.int .i64), .v (.int .i64), .v (.int .i64), .v (.int .i64), .v (.int .i64), .v (.int .i64), .v (.int .i64), .v (.int .i64), .v (.int .i64)]), true⟩)], 5⟩
def T_mat_Mul_0_0 : TS := ⟨[(0, .v (.agg [.int .i64, .int .i64, .int .i64, .int .i64, .int .i64, .int .i64, .int .i64, .int .i64, .int .i64])), (1, .v (.agg [.int .i64, .int .i64, .int .i64, .int .i64, .int .i64, .int .i64, .int .i64, .int .i64, .int .i64])), (2, .lp 0 (.lit 0)), (3, .lp 1 (.lit 0)), (4, .lp 2 (.lit 0)), (5, .v (.bool)), (6, .lp 3 (.lit 0)), (7, .v (.bool)), (8, .lp 4 (.lit 0)), (15, .v (.agg [.int .i64, .int .i64, .int .i64, .int .i64, .int .i64, .int .i64, .int .i64, .int .i64, .int .i64])), (16, .v (.int .i64))], [(0, ⟨(.ex [.v (.int .i64), .v (.int .i64), .v (.int .i64), .v (.int .i64), .v (.int .i64), .v (.int .i64), .v (.int .i64), .v (.int .i64), .v (.int .i64)]), true⟩), (1, ⟨(.ex [.v (.int .i64), .v (.int .i64), .v (.int .i64), .v (.int .i64), .v (.int .i64), .v (.int .i64), .v (.int .i64), .v (.int .i64), .v (.int .i64)]), true⟩), (2, ⟨(.ex [.v (.int .i64), .v (.int .i64), .v (.int .i64), .v (.int .i64), .v (.int .i64), .v (.int .i64), .v (.int .i64), .v (.int .i64), .v (.int .i64)]), true⟩), (3, ⟨.hole, true⟩), (4, ⟨(.ex [.v (.int .i64), .v (.int .i64), .v (.int .i64), .v (.int .i64), .v (.int .i64), .v (.int .i64), .v (.int .i64), .v (.int .i64), .v (.int .i64)]), true⟩)], 5⟩
def B_mat_Mul_0 (F : Nat) (rc : Int → Int → Int → Int → Int → Int → Int → Int → Int → Int → Int → Int → Int → Int → Int → Int → Int → Int → Bool → Bool → Int → Int → Int → Int → Int → Int → Int → Int → Int → Int → Int → Int → Int → Int → Int → Int → Int → Int → Int → Int → Int → Int → Int → Int → Int → Int → Int → Int → Int → Int → Int → Int → Int → Int → Int → Int → Int → List VV → Int → Int → Int → Int → Int → Int → Int → Int → Int → R) (ex0 : Int → Int → Int → Int → Int → Int → Int → Int → Int → Int → Int → Int → Int → Int → Int → Int → Int → Int → Bool → Bool → Int → Int → Int → Int → Int → Int → Int → Int → Int → Int → Int → Int → Int → Int → Int → Int → Int → Int → Int → Int → Int → Int → Int → Int → Int → Int → Int → Int → Int → Int → Int → Int → Int → Int → Int → Int → Int → List VV → Int → Int → Int → Int → Int → Int → Int → Int → Int → R) (x0 : Int) (x1 : Int) (x2 : Int) (x3 : Int) (x4 : Int) (x5 : Int) (x6 : Int) (x7 : Int) (x8 : Int) (x9 : Int) (x10 : Int) (x11 : Int) (x12 : Int) (x13 : Int) (x14 : Int) (x15 : Int) (x16 : Int) (x17 : Int) (x18 : Bool) (x19 : Bool) (x20 : Int) (x21 : Int) (x22 : Int) (x23 : Int) (x24 : Int) (x25 : Int) (x26 : Int) (x27 : Int) (x28 : Int) (x29 : Int) (x30 : Int) (x31 : Int) (x32 : Int) (x33 : Int) (x34 : Int) (x35 : Int) (x36 : Int) (x37 : Int) (x38 : Int) (x39 : Int) (x40 : Int) (x41 : Int) (x42 : Int) (x43 : Int) (x44 : Int) (x45 : Int) (x46 : Int) (x47 : Int) (x48 : Int) (x49 : Int) (x50 : Int) (x51 : Int) (x52 : Int) (x53 : Int) (x54 : Int) (x55 : Int) (x56 : Int) (x57 : List VV) (x58 : Int) (x59 : Int) (x60 : Int) (x61 : Int) (x62 : Int) (x63 : Int) (x64 : Int) (x65 : Int) (x66 : Int) : R :=
  bif ((decide (x29 < 3))) then (
    bif (((decide (0 ≤ x29)) && (decide (x29 < 3))) && ((isI .i64 [.v (.int .i64 x20), .v (.int .i64 x21), .v (.int .i64 x22), .v (.int .i64 x23), .v (.int .i64 x24), .v (.int .i64 x25), .v (.int .i64 x26), .v (.int .i64 x27), .v (.int .i64 x28)][((Int.toNat x29) * 3)]?) && ((isI .i64 [.v (.int .i64 x20), .v (.int .i64 x21), .v (.int .i64 x22), .v (.int .i64 x23), .v (.int .i64 x24), .v (.int .i64 x25), .v (.int .i64 x26), .v (.int .i64 x27), .v (.int .i64 x28)][(((Int.toNat x29) * 3) + 1)]?) && ((isI .i64 [.v (.int .i64 x20), .v (.int .i64 x21), .v (.int .i64 x22), .v (.int .i64 x23), .v (.int .i64 x24), .v (.int .i64 x25), .v (.int .i64 x26), .v (.int .i64 x27), .v (.int .i64 x28)][((((Int.toNat x29) * 3) + 1) + 1)]?) && true)))) then (
      let v2915 : Int := (iv [.v (.int .i64 x20), .v (.int .i64 x21), .v (.int .i64 x22), .v (.int .i64 x23), .v (.int .i64 x24), .v (.int .i64 x25), .v (.int .i64 x26), .v (.int .i64 x27), .v (.int .i64 x28)][((Int.toNat x29) * 3)]?)
      let v2916 : Int := (iv [.v (.int .i64 x20), .v (.int .i64 x21), .v (.int .i64 x22), .v (.int .i64 x23), .v (.int .i64 x24), .v (.int .i64 x25), .v (.int .i64 x26), .v (.int .i64 x27), .v (.int .i64 x28)][(((Int.toNat x29) * 3) + 1)]?)
      let v2917 : Int := (iv [.v (.int .i64 x20), .v (.int .i64 x21), .v (.int .i64 x22), .v (.int .i64 x23), .v (.int .i64 x24), .v (.int .i64 x25), .v (.int .i64 x26), .v (.int .i64 x27), .v (.int .i64 x28)][((((Int.toNat x29) * 3) + 1) + 1)]?)
      bif (ok_mat_Apply F x58 x59 x60 x61 x62 x63 x64 x65 x66 v2915 v2916 v2917) then (
        let v2918 : Int := (o_mat_Apply_0 F x58 x59 x60 x61 x62 x63 x64 x65 x66 v2915 v2916 v2917)
        let v2919 : Int := (o_mat_Apply_1 F x58 x59 x60 x61 x62 x63 x64 x65 x66 v2915 v2916 v2917)
        let v2920 : Int := (o_mat_Apply_2 F x58 x59 x60 x61 x62 x63 x64 x65 x66 v2915 v2916 v2917)
        bif x19 then (
          bif ((decide (0 ≤ x29)) && (decide (x29 < 3))) then (
            let v2922 : Nat := (0 + ((Int.toNat x29) * 3))
            bif (decide ((v2922 + 3) ≤ x57.length)) then (
              rc x0 x1 x2 x3 x4 x5 x6 x7 x8 x9 x10 x11 x12 x13 x14 x15 x16 x17 x18 true x20 x21 x22 x23 x24 x25 x26 x27 x28 ((IntKind.wrap .i64 (x29 + 1))) x30 x31 x32 x33 x34 x35 x36 x37 x38 x39 x40 x41 x42 x43 x44 x45 x46 x47 x48 x49 x50 x51 x52 x53 x54 x55 x56 ((x57.take v2922 ++ [.v (.int .i64 v2918), .v (.int .i64 v2919), .v (.int .i64 v2920)] ++ x57.drop (v2922 + 3))) x58 x59 x60 x61 x62 x63 x64 x65 x66)
            else (
              none))
          else (
            none))
        else (
          bif ((decide (0 ≤ x29)) && (decide (x29 < 3))) then (
            let v2925 : Nat := (0 + ((Int.toNat x29) * 3))
            bif (decide ((v2925 + 3) ≤ x57.length)) then (
              rc x0 x1 x2 x3 x4 x5 x6 x7 x8 x9 x10 x11 x12 x13 x14 x15 x16 x17 x18 ((o_mat_Apply_3 F x58 x59 x60 x61 x62 x63 x64 x65 x66 v2915 v2916 v2917)) x20 x21 x22 x23 x24 x25 x26 x27 x28 ((IntKind.wrap .i64 (x29 + 1))) x30 x31 x32 x33 x34 x35 x36 x37 x38 x39 x40 x41 x42 x43 x44 x45 x46 x47 x48 x49 x50 x51 x52 x53 x54 x55 x56 ((x57.take v2925 ++ [.v (.int .i64 v2918), .v (.int .i64 v2919), .v (.int .i64 v2920)] ++ x57.drop (v2925 + 3))) x58 x59 x60 x61 x62 x63 x64 x65 x66)
            else (
              none))
          else (
            none)))
      else (
        none))
    else (
      none))
  else (
    ex0 x0 x1 x2 x3 x4 x5 x6 x7 x8 x9 x10 x11 x12 x13 x14 x15 x16 x17 x18 x19 x20 x21 x22 x23 x24 x25 x26 x27 x28 x29 x30 x31 x32 x33 x34 x35 x36 x37 x38 x39 x40 x41 x42 x43 x44 x45 x46 x47 x48 x49 x50 x51 x52 x53 x54 x55 x56 x57 x58 x59 x60 x61 x62 x63 x64 x65 x66)
def L_mat_Mul_0 (F : Nat) (ex0 : Int → Int → Int → Int → Int → Int → Int → Int → Int → Int → Int → Int → Int → Int → Int → Int → Int → Int → Bool → Bool → Int → Int → Int → Int → Int → Int → Int → Int → Int → Int → Int → Int → Int → Int → Int → Int → Int → Int → Int → Int → Int → Int → Int → Int → Int → Int → Int → Int → Int → Int → Int → Int → Int → Int → Int → Int → Int → List VV → Int → Int → Int → Int → Int → Int → Int → Int → Int → R) : Nat → Int → Int → Int → Int → Int → Int → Int → Int → Int → Int → Int → Int → Int → Int → Int → Int → Int → Int → Bool → Bool → Int → Int → Int → Int → Int → Int → Int → Int → Int → Int → Int → Int → Int → Int → Int → Int → Int → Int → Int → Int → Int → Int → Int → Int → Int → Int → Int → Int → Int → Int → Int → Int → Int → Int → Int → Int → Int → List VV → Int → Int → Int → Int → Int → Int → Int → Int → Int → R
  | 0, _, _, _, _, _, _, _, _, _, _, _, _, _, _, _, _, _, _, _, _, _, _, _, _, _, _, _, _, _, _, _, _, _, _, _, _, _, _, _, _, _, _, _, _, _, _, _, _, _, _, _, _, _, _, _, _, _, _, _, _, _, _, _, _, _, _, _ => none
  | n + 1, x0, x1, x2, x3, x4, x5, x6, x7, x8, x9, x10, x11, x12, x13, x14, x15, x16, x17, x18, x19, x20, x21, x22, x23, x24, x25, x26, x27, x28, x29, x30, x31, x32, x33, x34, x35, x36, x37, x38, x39, x40, x41, x42, x43, x44, x45, x46, x47, x48, x49, x50, x51, x52, x53, x54, x55, x56, x57, x58, x59, x60, x61, x62, x63, x64, x65, x66 => B_mat_Mul_0 F (L_mat_Mul_0 F ex0 n) ex0 x0 x1 x2 x3 x4 x5 x6 x7 x8 x9 x10 x11 x12 x13 x14 x15 x16 x17 x18 x19 x20 x21 x22 x23 x24 x25 x26 x27 x28 x29 x30 x31 x32 x33 x34 x35 x36 x37 x38 x39 x40 x41 x42 x43 x44 x45 x46 x47 x48 x49 x50 x51 x52 x53 x54 x55 x56 x57 x58 x59 x60 x61 x62 x63 x64 x65 x66
def W_mat_Mul (F : Nat) : List LW := [⟨0, T_mat_Mul_0, fun k q => L_mat_Mul_0 F (fun (z0 : Int) (z1 : Int) (z2 : Int) (z3 : Int) (z4 : Int) (z5 : Int) (z6 : Int) (z7 : Int) (z8 : Int) (z9 : Int) (z10 : Int) (z11 : Int) (z12 : Int) (z13 : Int) (z14 : Int) (z15 : Int) (z16 : Int) (z17 : Int) (z18 : Bool) (z19 : Bool) (z20 : Int) (z21 : Int) (z22 : Int) (z23 : Int) (z24 : Int) (z25 : Int) (z26 : Int) (z27 : Int) (z28 : Int) (z29 : Int) (z30 : Int) (z31 : Int) (z32 : Int) (z33 : Int) (z34 : Int) (z35 : Int) (z36 : Int) (z37 : Int) (z38 : Int) (z39 : Int) (z40 : Int) (z41 : Int) (z42 : Int) (z43 : Int) (z44 : Int) (z45 : Int) (z46 : Int) (z47 : Int) (z48 : Int) (z49 : Int) (z50 : Int) (z51 : Int) (z52 : Int) (z53 : Int) (z54 : Int) (z55 : Int) (z56 : Int) (z57 : List VV) (z58 : Int) (z59 : Int) (z60 : Int) (z61 : Int) (z62 : Int) (z63 : Int) (z64 : Int) (z65 : Int) (z66 : Int) => k (.exit 0) (fS T_mat_Mul_0_0 [.i z0, .i z1, .i z2, .i z3, .i z4, .i z5, .i z6, .i z7, .i z8, .i z9, .i z10, .i z11, .i z12, .i z13, .i z14, .i z15, .i z16, .i z17, .b z18, .b z19, .i z20, .i z21, .i z22, .i z23, .i z24, .i z25, .i z26, .i z27, .i z28, .i z29, .i z30, .i z31, .i z32, .i z33, .i z34, .i z35, .i z36, .i z37, .i z38, .i z39, .i z40, .i z41, .i z42, .i z43, .i z44, .i z45, .i z46, .i z47, .i z48, .i z49, .i z50, .i z51, .i z52, .i z53, .i z54, .i z55, .i z56, .c z57, .i z58, .i z59, .i z60, .i z61, .i z62, .i z63, .i z64, .i z65, .i z66])) F (atI (nth q 0)) (atI (nth q 1)) (atI (nth q 2)) (atI (nth q 3)) (atI (nth q 4)) (atI (nth q 5)) (atI (nth q 6)) (atI (nth q 7)) (atI (nth q 8)) (atI (nth q 9)) (atI (nth q 10)) (atI (nth q 11)) (atI (nth q 12)) (atI (nth q 13)) (atI (nth q 14)) (atI (nth q 15)) (atI (nth q 16)) (atI (nth q 17)) (atB (nth q 18)) (atB (nth q 19)) (atI (nth q 20)) (atI (nth q 21)) (atI (nth q 22)) (atI (nth q 23)) (atI (nth q 24)) (atI (nth q 25)) (atI (nth q 26)) (atI (nth q 27)) (atI (nth q 28)) (atI (nth q 29)) (atI (nth q 30)) (atI (nth q 31)) (atI (nth q 32)) (atI (nth q 33)) (atI (nth q 34)) (atI (nth q 35)) (atI (nth q 36)) (atI (nth q 37)) (atI (nth q 38)) (atI (nth q 39)) (atI (nth q 40)) (atI (nth q 41)) (atI (nth q 42)) (atI (nth q 43)) (atI (nth q 44)) (atI (nth q 45)) (atI (nth q 46)) (atI (nth q 47)) (atI (nth q 48)) (atI (nth q 49)) (atI (nth q 50)) (atI (nth q 51)) (atI (nth q 52)) (atI (nth q 53)) (atI (nth q 54)) (atI (nth q 55)) (atI (nth q 56)) (atC (nth q 57)) (atI (nth q 58)) (atI (nth q 59)) (atI (nth q 60)) (atI (nth q 61)) (atI (nth q 62)) (atI (nth q 63)) (atI (nth q 64)) (atI (nth q 65)) (atI (nth q 66))⟩]
def I_mat_Mul (F : Nat) : Nat → VS → (Exit → VS → R) → R := tabI c_mat_Mul (W_mat_Mul F)
def WJ_mat_Mul (F : Nat) : List LJ := []
def J_mat_Mul (F : Nat) : Nat → Nat → VS → (Exit → VS → R) → R := tabJ (WJ_mat_Mul F)
theorem lL_mat_Mul_0 (F : Nat) (k : Exit → VS → R) : ∀ (n : Nat) (x0 : Int) (x1 : Int) (x2 : Int) (x3 : Int) (x4 : Int) (x5 : Int) (x6 : Int) (x7 : Int) (x8 : Int) (x9 : Int) (x10 : Int) (x11 : Int) (x12 : Int) (x13 : Int) (x14 : Int) (x15 : Int) (x16 : Int) (x17 : Int) (x18 : Bool) (x19 : Bool) (x20 : Int) (x21 : Int) (x22 : Int) (x23 : Int) (x24 : Int) (x25 : Int) (x26 : Int) (x27 : Int) (x28 : Int) (x29 : Int) (x30 : Int) (x31 : Int) (x32 : Int) (x33 : Int) (x34 : Int) (x35 : Int) (x36 : Int) (x37 : Int) (x38 : Int) (x39 : Int) (x40 : Int) (x41 : Int) (x42 : Int) (x43 : Int) (x44 : Int) (x45 : Int) (x46 : Int) (x47 : Int) (x48 : Int) (x49 : Int) (x50 : Int) (x51 : Int) (x52 : Int) (x53 : Int) (x54 : Int) (x55 : Int) (x56 : Int) (x57 : List VV) (x58 : Int) (x59 : Int) (x60 : Int) (x61 : Int) (x62 : Int) (x63 : Int) (x64 : Int) (x65 : Int) (x66 : Int), iterC (codeL PP (S_mat_Mul F) c_mat_Mul (I_mat_Mul F) (J_mat_Mul F) (loopAt PP 51 0) 0) (headOf c_mat_Mul 0) k n (fS T_mat_Mul_0 [.i x0, .i x1, .i x2, .i x3, .i x4, .i x5, .i x6, .i x7, .i x8, .i x9, .i x10, .i x11, .i x12, .i x13, .i x14, .i x15, .i x16, .i x17, .b x18, .b x19, .i x20, .i x21, .i x22, .i x23, .i x24, .i x25, .i x26, .i x27, .i x28, .i x29, .i x30, .i x31, .i x32, .i x33, .i x34, .i x35, .i x36, .i x37, .i x38, .i x39, .i x40, .i x41, .i x42, .i x43, .i x44, .i x45, .i x46, .i x47, .i x48, .i x49, .i x50, .i x51, .i x52, .i x53, .i x54, .i x55, .i x56, .c x57, .i x58, .i x59, .i x60, .i x61, .i x62, .i x63, .i x64, .i x65, .i x66]) = L_mat_Mul_0 F (fun (z0 : Int) (z1 : Int) (z2 : Int) (z3 : Int) (z4 : Int) (z5 : Int) (z6 : Int) (z7 : Int) (z8 : Int) (z9 : Int) (z10 : Int) (z11 : Int) (z12 : Int) (z13 : Int) (z14 : Int) (z15 : Int) (z16 : Int) (z17 : Int) (z18 : Bool) (z19 : Bool) (z20 : Int) (z21 : Int) (z22 : Int) (z23 : Int) (z24 : Int) (z25 : Int) (z26 : Int) (z27 : Int) (z28 : Int) (z29 : Int) (z30 : Int) (z31 : Int) (z32 : Int) (z33 : Int) (z34 : Int) (z35 : Int) (z36 : Int) (z37 : Int) (z38 : Int) (z39 : Int) (z40 : Int) (z41 : Int) (z42 : Int) (z43 : Int) (z44 : Int) (z45 : Int) (z46 : Int) (z47 : Int) (z48 : Int) (z49 : Int) (z50 : Int) (z51 : Int) (z52 : Int) (z53 : Int) (z54 : Int) (z55 : Int) (z56 : Int) (z57 : List VV) (z58 : Int) (z59 : Int) (z60 : Int) (z61 : Int) (z62 : Int) (z63 : Int) (z64 : Int) (z65 : Int) (z66 : Int) => k (.exit 0) (fS T_mat_Mul_0_0 [.i z0, .i z1, .i z2, .i z3, .i z4, .i z5, .i z6, .i z7, .i z8, .i z9, .i z10, .i z11, .i z12, .i z13, .i z14, .i z15, .i z16, .i z17, .b z18, .b z19, .i z20, .i z21, .i z22, .i z23, .i z24, .i z25, .i z26, .i z27, .i z28, .i z29, .i z30, .i z31, .i z32, .i z33, .i z34, .i z35, .i z36, .i z37, .i z38, .i z39, .i z40, .i z41, .i z42, .i z43, .i z44, .i z45, .i z46, .i z47, .i z48, .i z49, .i z50, .i z51, .i z52, .i z53, .i z54, .i z55, .i z56, .c z57, .i z58, .i z59, .i z60, .i z61, .i z62, .i z63, .i z64, .i z65, .i z66])) n x0 x1 x2 x3 x4 x5 x6 x7 x8 x9 x10 x11 x12 x13 x14 x15 x16 x17 x18 x19 x20 x21 x22 x23 x24 x25 x26 x27 x28 x29 x30 x31 x32 x33 x34 x35 x36 x37 x38 x39 x40 x41 x42 x43 x44 x45 x46 x47 x48 x49 x50 x51 x52 x53 x54 x55 x56 x57 x58 x59 x60 x61 x62 x63 x64 x65 x66
  | 0, _, _, _, _, _, _, _, _, _, _, _, _, _, _, _, _, _, _, _, _, _, _, _, _, _, _, _, _, _, _, _, _, _, _, _, _, _, _, _, _, _, _, _, _, _, _, _, _, _, _, _, _, _, _, _, _, _, _, _, _, _, _, _, _, _, _, _ => rfl
  | n + 1, x0, x1, x2, x3, x4, x5, x6, x7, x8, x9, x10, x11, x12, x13, x14, x15, x16, x17, x18, x19, x20, x21, x22, x23, x24, x25, x26, x27, x28, x29, x30, x31, x32, x33, x34, x35, x36, x37, x38, x39, x40, x41, x42, x43, x44, x45, x46, x47, x48, x49, x50, x51, x52, x53, x54, x55, x56, x57, x58, x59, x60, x61, x62, x63, x64, x65, x66 => by
    have h0 : ∀ (ok_mat_Back : Nat → Int → Int → Int → Int → Int → Int → Int → Int → Int → Bool) (o_mat_Back_0 : Nat → Int → Int → Int → Int → Int → Int → Int → Int → Int → Int) (o_mat_Back_1 : Nat → Int → Int → Int → Int → Int → Int → Int → Int → Int → Int) (o_mat_Back_2 : Nat → Int → Int → Int → Int → Int → Int → Int → Int → Int → Int) (o_mat_Back_3 : Nat → Int → Int → Int → Int → Int → Int → Int → Int → Int → Int) (o_mat_Back_4 : Nat → Int → Int → Int → Int → Int → Int → Int → Int → Int → Int) (o_mat_Back_5 : Nat → Int → Int → Int → Int → Int → Int → Int → Int → Int → Int) (o_mat_Back_6 : Nat → Int → Int → Int → Int → Int → Int → Int → Int → Int → Int) (o_mat_Back_7 : Nat → Int → Int → Int → Int → Int → Int → Int → Int → Int → Int) (o_mat_Back_8 : Nat → Int → Int → Int → Int → Int → Int → Int → Int → Int → Int) (ok_mat_Apply : Nat → Int → Int → Int → Int → Int → Int → Int → Int → Int → Int → Int → Int → Bool) (o_mat_Apply_0 : Nat → Int → Int → Int → Int → Int → Int → Int → Int → Int → Int → Int → Int → Int) (o_mat_Apply_1 : Nat → Int → Int → Int → Int → Int → Int → Int → Int → Int → Int → Int → Int → Int) (o_mat_Apply_2 : Nat → Int → Int → Int → Int → Int → Int → Int → Int → Int → Int → Int → Int → Int) (o_mat_Apply_3 : Nat → Int → Int → Int → Int → Int → Int → Int → Int → Int → Int → Int → Int → Bool) (L_mat_Mul_0 : Nat → (Int → Int → Int → Int → Int → Int → Int → Int → Int → Int → Int → Int → Int → Int → Int → Int → Int → Int → Bool → Bool → Int → Int → Int → Int → Int → Int → Int → Int → Int → Int → Int → Int → Int → Int → Int → Int → Int → Int → Int → Int → Int → Int → Int → Int → Int → Int → Int → Int → Int → Int → Int → Int → Int → Int → Int → Int → Int → List VV → Int → Int → Int → Int → Int → Int → Int → Int → Int → R) → Nat → Int → Int → Int → Int → Int → Int → Int → Int → Int → Int → Int → Int → Int → Int → Int → Int → Int → Int → Bool → Bool → Int → Int → Int → Int → Int → Int → Int → Int → Int → Int → Int → Int → Int → Int → Int → Int → Int → Int → Int → Int → Int → Int → Int → Int → Int → Int → Int → Int → Int → Int → Int → Int → Int → Int → Int → Int → Int → List VV → Int → Int → Int → Int → Int → Int → Int → Int → Int → R), iterC (codeL PP (words [(55, spec ti_mat_Back to_mat_Back (fun q => (ok_mat_Back F (atI (nth q 0)) (atI (nth q 1)) (atI (nth q 2)) (atI (nth q 3)) (atI (nth q 4)) (atI (nth q 5)) (atI (nth q 6)) (atI (nth q 7)) (atI (nth q 8)))) (fun q => [.i (o_mat_Back_0 F (atI (nth q 0)) (atI (nth q 1)) (atI (nth q 2)) (atI (nth q 3)) (atI (nth q 4)) (atI (nth q 5)) (atI (nth q 6)) (atI (nth q 7)) (atI (nth q 8))), .i (o_mat_Back_1 F (atI (nth q 0)) (atI (nth q 1)) (atI (nth q 2)) (atI (nth q 3)) (atI (nth q 4)) (atI (nth q 5)) (atI (nth q 6)) (atI (nth q 7)) (atI (nth q 8))), .i (o_mat_Back_2 F (atI (nth q 0)) (atI (nth q 1)) (atI (nth q 2)) (atI (nth q 3)) (atI (nth q 4)) (atI (nth q 5)) (atI (nth q 6)) (atI (nth q 7)) (atI (nth q 8))), .i (o_mat_Back_3 F (atI (nth q 0)) (atI (nth q 1)) (atI (nth q 2)) (atI (nth q 3)) (atI (nth q 4)) (atI (nth q 5)) (atI (nth q 6)) (atI (nth q 7)) (atI (nth q 8))), .i (o_mat_Back_4 F (atI (nth q 0)) (atI (nth q 1)) (atI (nth q 2)) (atI (nth q 3)) (atI (nth q 4)) (atI (nth q 5)) (atI (nth q 6)) (atI (nth q 7)) (atI (nth q 8))), .i (o_mat_Back_5 F (atI (nth q 0)) (atI (nth q 1)) (atI (nth q 2)) (atI (nth q 3)) (atI (nth q 4)) (atI (nth q 5)) (atI (nth q 6)) (atI (nth q 7)) (atI (nth q 8))), .i (o_mat_Back_6 F (atI (nth q 0)) (atI (nth q 1)) (atI (nth q 2)) (atI (nth q 3)) (atI (nth q 4)) (atI (nth q 5)) (atI (nth q 6)) (atI (nth q 7)) (atI (nth q 8))), .i (o_mat_Back_7 F (atI (nth q 0)) (atI (nth q 1)) (atI (nth q 2)) (atI (nth q 3)) (atI (nth q 4)) (atI (nth q 5)) (atI (nth q 6)) (atI (nth q 7)) (atI (nth q 8))), .i (o_mat_Back_8 F (atI (nth q 0)) (atI (nth q 1)) (atI (nth q 2)) (atI (nth q 3)) (atI (nth q 4)) (atI (nth q 5)) (atI (nth q 6)) (atI (nth q 7)) (atI (nth q 8)))])), (53, spec ti_mat_Apply to_mat_Apply (fun q => (ok_mat_Apply F (atI (nth q 0)) (atI (nth q 1)) (atI (nth q 2)) (atI (nth q 3)) (atI (nth q 4)) (atI (nth q 5)) (atI (nth q 6)) (atI (nth q 7)) (atI (nth q 8)) (atI (nth q 9)) (atI (nth q 10)) (atI (nth q 11)))) (fun q => [.i (o_mat_Apply_0 F (atI (nth q 0)) (atI (nth q 1)) (atI (nth q 2)) (atI (nth q 3)) (atI (nth q 4)) (atI (nth q 5)) (atI (nth q 6)) (atI (nth q 7)) (atI (nth q 8)) (atI (nth q 9)) (atI (nth q 10)) (atI (nth q 11))), .i (o_mat_Apply_1 F (atI (nth q 0)) (atI (nth q 1)) (atI (nth q 2)) (atI (nth q 3)) (atI (nth q 4)) (atI (nth q 5)) (atI (nth q 6)) (atI (nth q 7)) (atI (nth q 8)) (atI (nth q 9)) (atI (nth q 10)) (atI (nth q 11))), .i (o_mat_Apply_2 F (atI (nth q 0)) (atI (nth q 1)) (atI (nth q 2)) (atI (nth q 3)) (atI (nth q 4)) (atI (nth q 5)) (atI (nth q 6)) (atI (nth q 7)) (atI (nth q 8)) (atI (nth q 9)) (atI (nth q 10)) (atI (nth q 11))), .b (o_mat_Apply_3 F (atI (nth q 0)) (atI (nth q 1)) (atI (nth q 2)) (atI (nth q 3)) (atI (nth q 4)) (atI (nth q 5)) (atI (nth q 6)) (atI (nth q 7)) (atI (nth q 8)) (atI (nth q 9)) (atI (nth q 10)) (atI (nth q 11)))]))]) c_mat_Mul (tabI c_mat_Mul [⟨0, T_mat_Mul_0, fun k q => L_mat_Mul_0 F (fun (z0 : Int) (z1 : Int) (z2 : Int) (z3 : Int) (z4 : Int) (z5 : Int) (z6 : Int) (z7 : Int) (z8 : Int) (z9 : Int) (z10 : Int) (z11 : Int) (z12 : Int) (z13 : Int) (z14 : Int) (z15 : Int) (z16 : Int) (z17 : Int) (z18 : Bool) (z19 : Bool) (z20 : Int) (z21 : Int) (z22 : Int) (z23 : Int) (z24 : Int) (z25 : Int) (z26 : Int) (z27 : Int) (z28 : Int) (z29 : Int) (z30 : Int) (z31 : Int) (z32 : Int) (z33 : Int) (z34 : Int) (z35 : Int) (z36 : Int) (z37 : Int) (z38 : Int) (z39 : Int) (z40 : Int) (z41 : Int) (z42 : Int) (z43 : Int) (z44 : Int) (z45 : Int) (z46 : Int) (z47 : Int) (z48 : Int) (z49 : Int) (z50 : Int) (z51 : Int) (z52 : Int) (z53 : Int) (z54 : Int) (z55 : Int) (z56 : Int) (z57 : List VV) (z58 : Int) (z59 : Int) (z60 : Int) (z61 : Int) (z62 : Int) (z63 : Int) (z64 : Int) (z65 : Int) (z66 : Int) => k (.exit 0) (fS T_mat_Mul_0_0 [.i z0, .i z1, .i z2, .i z3, .i z4, .i z5, .i z6, .i z7, .i z8, .i z9, .i z10, .i z11, .i z12, .i z13, .i z14, .i z15, .i z16, .i z17, .b z18, .b z19, .i z20, .i z21, .i z22, .i z23, .i z24, .i z25, .i z26, .i z27, .i z28, .i z29, .i z30, .i z31, .i z32, .i z33, .i z34, .i z35, .i z36, .i z37, .i z38, .i z39, .i z40, .i z41, .i z42, .i z43, .i z44, .i z45, .i z46, .i z47, .i z48, .i z49, .i z50, .i z51, .i z52, .i z53, .i z54, .i z55, .i z56, .c z57, .i z58, .i z59, .i z60, .i z61, .i z62, .i z63, .i z64, .i z65, .i z66])) F (atI (nth q 0)) (atI (nth q 1)) (atI (nth q 2)) (atI (nth q 3)) (atI (nth q 4)) (atI (nth q 5)) (atI (nth q 6)) (atI (nth q 7)) (atI (nth q 8)) (atI (nth q 9)) (atI (nth q 10)) (atI (nth q 11)) (atI (nth q 12)) (atI (nth q 13)) (atI (nth q 14)) (atI (nth q 15)) (atI (nth q 16)) (atI (nth q 17)) (atB (nth q 18)) (atB (nth q 19)) (atI (nth q 20)) (atI (nth q 21)) (atI (nth q 22)) (atI (nth q 23)) (atI (nth q 24)) (atI (nth q 25)) (atI (nth q 26)) (atI (nth q 27)) (atI (nth q 28)) (atI (nth q 29)) (atI (nth q 30)) (atI (nth q 31)) (atI (nth q 32)) (atI (nth q 33)) (atI (nth q 34)) (atI (nth q 35)) (atI (nth q 36)) (atI (nth q 37)) (atI (nth q 38)) (atI (nth q 39)) (atI (nth q 40)) (atI (nth q 41)) (atI (nth q 42)) (atI (nth q 43)) (atI (nth q 44)) (atI (nth q 45)) (atI (nth q 46)) (atI (nth q 47)) (atI (nth q 48)) (atI (nth q 49)) (atI (nth q 50)) (atI (nth q 51)) (atI (nth q 52)) (atI (nth q 53)) (atI (nth q 54)) (atI (nth q 55)) (atI (nth q 56)) (atC (nth q 57)) (atI (nth q 58)) (atI (nth q 59)) (atI (nth q 60)) (atI (nth q 61)) (atI (nth q 62)) (atI (nth q 63)) (atI (nth q 64)) (atI (nth q 65)) (atI (nth q 66))⟩]) (tabJ []) (loopAt PP 51 0) 0) (headOf c_mat_Mul 0) k (n + 1) (fS T_mat_Mul_0 [.i x0, .i x1, .i x2, .i x3, .i x4, .i x5, .i x6, .i x7, .i x8, .i x9, .i x10, .i x11, .i x12, .i x13, .i x14, .i x15, .i x16, .i x17, .b x18, .b x19, .i x20, .i x21, .i x22, .i x23, .i x24, .i x25, .i x26, .i x27, .i x28, .i x29, .i x30, .i x31, .i x32, .i x33, .i x34, .i x35, .i x36, .i x37, .i x38, .i x39, .i x40, .i x41, .i x42, .i x43, .i x44, .i x45, .i x46, .i x47, .i x48, .i x49, .i x50, .i x51, .i x52, .i x53, .i x54, .i x55, .i x56, .c x57, .i x58, .i x59, .i x60, .i x61, .i x62, .i x63, .i x64, .i x65, .i x66]) = (fun (rc : Int → Int → Int → Int → Int → Int → Int → Int → Int → Int → Int → Int → Int → Int → Int → Int → Int → Int → Bool → Bool → Int → Int → Int → Int → Int → Int → Int → Int → Int → Int → Int → Int → Int → Int → Int → Int → Int → Int → Int → Int → Int → Int → Int → Int → Int → Int → Int → Int → Int → Int → Int → Int → Int → Int → Int → Int → Int → List VV → Int → Int → Int → Int → Int → Int → Int → Int → Int → R) (ex0 : Int → Int → Int → Int → Int → Int → Int → Int → Int → Int → Int → Int → Int → Int → Int → Int → Int → Int → Bool → Bool → Int → Int → Int → Int → Int → Int → Int → Int → Int → Int → Int → Int → Int → Int → Int → Int → Int → Int → Int → Int → Int → Int → Int → Int → Int → Int → Int → Int → Int → Int → Int → Int → Int → Int → Int → Int → Int → List VV → Int → Int → Int → Int → Int → Int → Int → Int → Int → R) (x0 : Int) (x1 : Int) (x2 : Int) (x3 : Int) (x4 : Int) (x5 : Int) (x6 : Int) (x7 : Int) (x8 : Int) (x9 : Int) (x10 : Int) (x11 : Int) (x12 : Int) (x13 : Int) (x14 : Int) (x15 : Int) (x16 : Int) (x17 : Int) (x18 : Bool) (x19 : Bool) (x20 : Int) (x21 : Int) (x22 : Int) (x23 : Int) (x24 : Int) (x25 : Int) (x26 : Int) (x27 : Int) (x28 : Int) (x29 : Int) (x30 : Int) (x31 : Int) (x32 : Int) (x33 : Int) (x34 : Int) (x35 : Int) (x36 : Int) (x37 : Int) (x38 : Int) (x39 : Int) (x40 : Int) (x41 : Int) (x42 : Int) (x43 : Int) (x44 : Int) (x45 : Int) (x46 : Int) (x47 : Int) (x48 : Int) (x49 : Int) (x50 : Int) (x51 : Int) (x52 : Int) (x53 : Int) (x54 : Int) (x55 : Int) (x56 : Int) (x57 : List VV) (x58 : Int) (x59 : Int) (x60 : Int) (x61 : Int) (x62 : Int) (x63 : Int) (x64 : Int) (x65 : Int) (x66 : Int) => (
  bif ((decide (x29 < 3))) then (
    bif (((decide (0 ≤ x29)) && (decide (x29 < 3))) && ((isI .i64 [.v (.int .i64 x20), .v (.int .i64 x21), .v (.int .i64 x22), .v (.int .i64 x23), .v (.int .i64 x24), .v (.int .i64 x25), .v (.int .i64 x26), .v (.int .i64 x27), .v (.int .i64 x28)][((Int.toNat x29) * 3)]?) && ((isI .i64 [.v (.int .i64 x20), .v (.int .i64 x21), .v (.int .i64 x22), .v (.int .i64 x23), .v (.int .i64 x24), .v (.int .i64 x25), .v (.int .i64 x26), .v (.int .i64 x27), .v (.int .i64 x28)][(((Int.toNat x29) * 3) + 1)]?) && ((isI .i64 [.v (.int .i64 x20), .v (.int .i64 x21), .v (.int .i64 x22), .v (.int .i64 x23), .v (.int .i64 x24), .v (.int .i64 x25), .v (.int .i64 x26), .v (.int .i64 x27), .v (.int .i64 x28)][((((Int.toNat x29) * 3) + 1) + 1)]?) && true)))) then (
      let v2915 : Int := (iv [.v (.int .i64 x20), .v (.int .i64 x21), .v (.int .i64 x22), .v (.int .i64 x23), .v (.int .i64 x24), .v (.int .i64 x25), .v (.int .i64 x26), .v (.int .i64 x27), .v (.int .i64 x28)][((Int.toNat x29) * 3)]?)
      let v2916 : Int := (iv [.v (.int .i64 x20), .v (.int .i64 x21), .v (.int .i64 x22), .v (.int .i64 x23), .v (.int .i64 x24), .v (.int .i64 x25), .v (.int .i64 x26), .v (.int .i64 x27), .v (.int .i64 x28)][(((Int.toNat x29) * 3) + 1)]?)
      let v2917 : Int := (iv [.v (.int .i64 x20), .v (.int .i64 x21), .v (.int .i64 x22), .v (.int .i64 x23), .v (.int .i64 x24), .v (.int .i64 x25), .v (.int .i64 x26), .v (.int .i64 x27), .v (.int .i64 x28)][((((Int.toNat x29) * 3) + 1) + 1)]?)
      bif (ok_mat_Apply F x58 x59 x60 x61 x62 x63 x64 x65 x66 v2915 v2916 v2917) then (
        let v2918 : Int := (o_mat_Apply_0 F x58 x59 x60 x61 x62 x63 x64 x65 x66 v2915 v2916 v2917)
        let v2919 : Int := (o_mat_Apply_1 F x58 x59 x60 x61 x62 x63 x64 x65 x66 v2915 v2916 v2917)
        let v2920 : Int := (o_mat_Apply_2 F x58 x59 x60 x61 x62 x63 x64 x65 x66 v2915 v2916 v2917)
        bif x19 then (
          bif ((decide (0 ≤ x29)) && (decide (x29 < 3))) then (
            let v2922 : Nat := (0 + ((Int.toNat x29) * 3))
            bif (decide ((v2922 + 3) ≤ x57.length)) then (
              rc x0 x1 x2 x3 x4 x5 x6 x7 x8 x9 x10 x11 x12 x13 x14 x15 x16 x17 x18 true x20 x21 x22 x23 x24 x25 x26 x27 x28 ((IntKind.wrap .i64 (x29 + 1))) x30 x31 x32 x33 x34 x35 x36 x37 x38 x39 x40 x41 x42 x43 x44 x45 x46 x47 x48 x49 x50 x51 x52 x53 x54 x55 x56 ((x57.take v2922 ++ [.v (.int .i64 v2918), .v (.int .i64 v2919), .v (.int .i64 v2920)] ++ x57.drop (v2922 + 3))) x58 x59 x60 x61 x62 x63 x64 x65 x66)
            else (
              none))
          else (
            none))
        else (
          bif ((decide (0 ≤ x29)) && (decide (x29 < 3))) then (
            let v2925 : Nat := (0 + ((Int.toNat x29) * 3))
            bif (decide ((v2925 + 3) ≤ x57.length)) then (
              rc x0 x1 x2 x3 x4 x5 x6 x7 x8 x9 x10 x11 x12 x13 x14 x15 x16 x17 x18 ((o_mat_Apply_3 F x58 x59 x60 x61 x62 x63 x64 x65 x66 v2915 v2916 v2917)) x20 x21 x22 x23 x24 x25 x26 x27 x28 ((IntKind.wrap .i64 (x29 + 1))) x30 x31 x32 x33 x34 x35 x36 x37 x38 x39 x40 x41 x42 x43 x44 x45 x46 x47 x48 x49 x50 x51 x52 x53 x54 x55 x56 ((x57.take v2925 ++ [.v (.int .i64 v2918), .v (.int .i64 v2919), .v (.int .i64 v2920)] ++ x57.drop (v2925 + 3))) x58 x59 x60 x61 x62 x63 x64 x65 x66)
            else (
              none))
          else (
            none)))
      else (
        none))
    else (
      none))
  else (
    ex0 x0 x1 x2 x3 x4 x5 x6 x7 x8 x9 x10 x11 x12 x13 x14 x15 x16 x17 x18 x19 x20 x21 x22 x23 x24 x25 x26 x27 x28 x29 x30 x31 x32 x33 x34 x35 x36 x37 x38 x39 x40 x41 x42 x43 x44 x45 x46 x47 x48 x49 x50 x51 x52 x53 x54 x55 x56 x57 x58 x59 x60 x61 x62 x63 x64 x65 x66) : R)) (fun (y0 : Int) (y1 : Int) (y2 : Int) (y3 : Int) (y4 : Int) (y5 : Int) (y6 : Int) (y7 : Int) (y8 : Int) (y9 : Int) (y10 : Int) (y11 : Int) (y12 : Int) (y13 : Int) (y14 : Int) (y15 : Int) (y16 : Int) (y17 : Int) (y18 : Bool) (y19 : Bool) (y20 : Int) (y21 : Int) (y22 : Int) (y23 : Int) (y24 : Int) (y25 : Int) (y26 : Int) (y27 : Int) (y28 : Int) (y29 : Int) (y30 : Int) (y31 : Int) (y32 : Int) (y33 : Int) (y34 : Int) (y35 : Int) (y36 : Int) (y37 : Int) (y38 : Int) (y39 : Int) (y40 : Int) (y41 : Int) (y42 : Int) (y43 : Int) (y44 : Int) (y45 : Int) (y46 : Int) (y47 : Int) (y48 : Int) (y49 : Int) (y50 : Int) (y51 : Int) (y52 : Int) (y53 : Int) (y54 : Int) (y55 : Int) (y56 : Int) (y57 : List VV) (y58 : Int) (y59 : Int) (y60 : Int) (y61 : Int) (y62 : Int) (y63 : Int) (y64 : Int) (y65 : Int) (y66 : Int) => iterC (codeL PP (words [(55, spec ti_mat_Back to_mat_Back (fun q => (ok_mat_Back F (atI (nth q 0)) (atI (nth q 1)) (atI (nth q 2)) (atI (nth q 3)) (atI (nth q 4)) (atI (nth q 5)) (atI (nth q 6)) (atI (nth q 7)) (atI (nth q 8)))) (fun q => [.i (o_mat_Back_0 F (atI (nth q 0)) (atI (nth q 1)) (atI (nth q 2)) (atI (nth q 3)) (atI (nth q 4)) (atI (nth q 5)) (atI (nth q 6)) (atI (nth q 7)) (atI (nth q 8))), .i (o_mat_Back_1 F (atI (nth q 0)) (atI (nth q 1)) (atI (nth q 2)) (atI (nth q 3)) (atI (nth q 4)) (atI (nth q 5)) (atI (nth q 6)) (atI (nth q 7)) (atI (nth q 8))), .i (o_mat_Back_2 F (atI (nth q 0)) (atI (nth q 1)) (atI (nth q 2)) (atI (nth q 3)) (atI (nth q 4)) (atI (nth q 5)) (atI (nth q 6)) (atI (nth q 7)) (atI (nth q 8))), .i (o_mat_Back_3 F (atI (nth q 0)) (atI (nth q 1)) (atI (nth q 2)) (atI (nth q 3)) (atI (nth q 4)) (atI (nth q 5)) (atI (nth q 6)) (atI (nth q 7)) (atI (nth q 8))), .i (o_mat_Back_4 F (atI (nth q 0)) (atI (nth q 1)) (atI (nth q 2)) (atI (nth q 3)) (atI (nth q 4)) (atI (nth q 5)) (atI (nth q 6)) (atI (nth q 7)) (atI (nth q 8))), .i (o_mat_Back_5 F (atI (nth q 0)) (atI (nth q 1)) (atI (nth q 2)) (atI (nth q 3)) (atI (nth q 4)) (atI (nth q 5)) (atI (nth q 6)) (atI (nth q 7)) (atI (nth q 8))), .i (o_mat_Back_6 F (atI (nth q 0)) (atI (nth q 1)) (atI (nth q 2)) (atI (nth q 3)) (atI (nth q 4)) (atI (nth q 5)) (atI (nth q 6)) (atI (nth q 7)) (atI (nth q 8))), .i (o_mat_Back_7 F (atI (nth q 0)) (atI (nth q 1)) (atI (nth q 2)) (atI (nth q 3)) (atI (nth q 4)) (atI (nth q 5)) (atI (nth q 6)) (atI (nth q 7)) (atI (nth q 8))), .i (o_mat_Back_8 F (atI (nth q 0)) (atI (nth q 1)) (atI (nth q 2)) (atI (nth q 3)) (atI (nth q 4)) (atI (nth q 5)) (atI (nth q 6)) (atI (nth q 7)) (atI (nth q 8)))])), (53, spec ti_mat_Apply to_mat_Apply (fun q => (ok_mat_Apply F (atI (nth q 0)) (atI (nth q 1)) (atI (nth q 2)) (atI (nth q 3)) (atI (nth q 4)) (atI (nth q 5)) (atI (nth q 6)) (atI (nth q 7)) (atI (nth q 8)) (atI (nth q 9)) (atI (nth q 10)) (atI (nth q 11)))) (fun q => [.i (o_mat_Apply_0 F (atI (nth q 0)) (atI (nth q 1)) (atI (nth q 2)) (atI (nth q 3)) (atI (nth q 4)) (atI (nth q 5)) (atI (nth q 6)) (atI (nth q 7)) (atI (nth q 8)) (atI (nth q 9)) (atI (nth q 10)) (atI (nth q 11))), .i (o_mat_Apply_1 F (atI (nth q 0)) (atI (nth q 1)) (atI (nth q 2)) (atI (nth q 3)) (atI (nth q 4)) (atI (nth q 5)) (atI (nth q 6)) (atI (nth q 7)) (atI (nth q 8)) (atI (nth q 9)) (atI (nth q 10)) (atI (nth q 11))), .i (o_mat_Apply_2 F (atI (nth q 0)) (atI (nth q 1)) (atI (nth q 2)) (atI (nth q 3)) (atI (nth q 4)) (atI (nth q 5)) (atI (nth q 6)) (atI (nth q 7)) (atI (nth q 8)) (atI (nth q 9)) (atI (nth q 10)) (atI (nth q 11))), .b (o_mat_Apply_3 F (atI (nth q 0)) (atI (nth q 1)) (atI (nth q 2)) (atI (nth q 3)) (atI (nth q 4)) (atI (nth q 5)) (atI (nth q 6)) (atI (nth q 7)) (atI (nth q 8)) (atI (nth q 9)) (atI (nth q 10)) (atI (nth q 11)))]))]) c_mat_Mul (tabI c_mat_Mul [⟨0, T_mat_Mul_0, fun k q => L_mat_Mul_0 F (fun (z0 : Int) (z1 : Int) (z2 : Int) (z3 : Int) (z4 : Int) (z5 : Int) (z6 : Int) (z7 : Int) (z8 : Int) (z9 : Int) (z10 : Int) (z11 : Int) (z12 : Int) (z13 : Int) (z14 : Int) (z15 : Int) (z16 : Int) (z17 : Int) (z18 : Bool) (z19 : Bool) (z20 : Int) (z21 : Int) (z22 : Int) (z23 : Int) (z24 : Int) (z25 : Int) (z26 : Int) (z27 : Int) (z28 : Int) (z29 : Int) (z30 : Int) (z31 : Int) (z32 : Int) (z33 : Int) (z34 : Int) (z35 : Int) (z36 : Int) (z37 : Int) (z38 : Int) (z39 : Int) (z40 : Int) (z41 : Int) (z42 : Int) (z43 : Int) (z44 : Int) (z45 : Int) (z46 : Int) (z47 : Int) (z48 : Int) (z49 : Int) (z50 : Int) (z51 : Int) (z52 : Int) (z53 : Int) (z54 : Int) (z55 : Int) (z56 : Int) (z57 : List VV) (z58 : Int) (z59 : Int) (z60 : Int) (z61 : Int) (z62 : Int) (z63 : Int) (z64 : Int) (z65 : Int) (z66 : Int) => k (.exit 0) (fS T_mat_Mul_0_0 [.i z0, .i z1, .i z2, .i z3, .i z4, .i z5, .i z6, .i z7, .i z8, .i z9, .i z10, .i z11, .i z12, .i z13, .i z14, .i z15, .i z16, .i z17, .b z18, .b z19, .i z20, .i z21, .i z22, .i z23, .i z24, .i z25, .i z26, .i z27, .i z28, .i z29, .i z30, .i z31, .i z32, .i z33, .i z34, .i z35, .i z36, .i z37, .i z38, .i z39, .i z40, .i z41, .i z42, .i z43, .i z44, .i z45, .i z46, .i z47, .i z48, .i z49, .i z50, .i z51, .i z52, .i z53, .i z54, .i z55, .i z56, .c z57, .i z58, .i z59, .i z60, .i z61, .i z62, .i z63, .i z64, .i z65, .i z66])) F (atI (nth q 0)) (atI (nth q 1)) (atI (nth q 2)) (atI (nth q 3)) (atI (nth q 4)) (atI (nth q 5)) (atI (nth q 6)) (atI (nth q 7)) (atI (nth q 8)) (atI (nth q 9)) (atI (nth q 10)) (atI (nth q 11)) (atI (nth q 12)) (atI (nth q 13)) (atI (nth q 14)) (atI (nth q 15)) (atI (nth q 16)) (atI (nth q 17)) (atB (nth q 18)) (atB (nth q 19)) (atI (nth q 20)) (atI (nth q 21)) (atI (nth q 22)) (atI (nth q 23)) (atI (nth q 24)) (atI (nth q 25)) (atI (nth q 26)) (atI (nth q 27)) (atI (nth q 28)) (atI (nth q 29)) (atI (nth q 30)) (atI (nth q 31)) (atI (nth q 32)) (atI (nth q 33)) (atI (nth q 34)) (atI (nth q 35)) (atI (nth q 36)) (atI (nth q 37)) (atI (nth q 38)) (atI (nth q 39)) (atI (nth q 40)) (atI (nth q 41)) (atI (nth q 42)) (atI (nth q 43)) (atI (nth q 44)) (atI (nth q 45)) (atI (nth q 46)) (atI (nth q 47)) (atI (nth q 48)) (atI (nth q 49)) (atI (nth q 50)) (atI (nth q 51)) (atI (nth q 52)) (atI (nth q 53)) (atI (nth q 54)) (atI (nth q 55)) (atI (nth q 56)) (atC (nth q 57)) (atI (nth q 58)) (atI (nth q 59)) (atI (nth q 60)) (atI (nth q 61)) (atI (nth q 62)) (atI (nth q 63)) (atI (nth q 64)) (atI (nth q 65)) (atI (nth q 66))⟩]) (tabJ []) (loopAt PP 51 0) 0) (headOf c_mat_Mul 0) k n (fS T_mat_Mul_0 [.i y0, .i y1, .i y2, .i y3, .i y4, .i y5, .i y6, .i y7, .i y8, .i y9, .i y10, .i y11, .i y12, .i y13, .i y14, .i y15, .i y16, .i y17, .b y18, .b y19, .i y20, .i y21, .i y22, .i y23, .i y24, .i y25, .i y26, .i y27, .i y28, .i y29, .i y30, .i y31, .i y32, .i y33, .i y34, .i y35, .i y36, .i y37, .i y38, .i y39, .i y40, .i y41, .i y42, .i y43, .i y44, .i y45, .i y46, .i y47, .i y48, .i y49, .i y50, .i y51, .i y52, .i y53, .i y54, .i y55, .i y56, .c y57, .i y58, .i y59, .i y60, .i y61, .i y62, .i y63, .i y64, .i y65, .i y66])) (fun (z0 : Int) (z1 : Int) (z2 : Int) (z3 : Int) (z4 : Int) (z5 : Int) (z6 : Int) (z7 : Int) (z8 : Int) (z9 : Int) (z10 : Int) (z11 : Int) (z12 : Int) (z13 : Int) (z14 : Int) (z15 : Int) (z16 : Int) (z17 : Int) (z18 : Bool) (z19 : Bool) (z20 : Int) (z21 : Int) (z22 : Int) (z23 : Int) (z24 : Int) (z25 : Int) (z26 : Int) (z27 : Int) (z28 : Int) (z29 : Int) (z30 : Int) (z31 : Int) (z32 : Int) (z33 : Int) (z34 : Int) (z35 : Int) (z36 : Int) (z37 : Int) (z38 : Int) (z39 : Int) (z40 : Int) (z41 : Int) (z42 : Int) (z43 : Int) (z44 : Int) (z45 : Int) (z46 : Int) (z47 : Int) (z48 : Int) (z49 : Int) (z50 : Int) (z51 : Int) (z52 : Int) (z53 : Int) (z54 : Int) (z55 : Int) (z56 : Int) (z57 : List VV) (z58 : Int) (z59 : Int) (z60 : Int) (z61 : Int) (z62 : Int) (z63 : Int) (z64 : Int) (z65 : Int) (z66 : Int) => k (.exit 0) (fS T_mat_Mul_0_0 [.i z0, .i z1, .i z2, .i z3, .i z4, .i z5, .i z6, .i z7, .i z8, .i z9, .i z10, .i z11, .i z12, .i z13, .i z14, .i z15, .i z16, .i z17, .b z18, .b z19, .i z20, .i z21, .i z22, .i z23, .i z24, .i z25, .i z26, .i z27, .i z28, .i z29, .i z30, .i z31, .i z32, .i z33, .i z34, .i z35, .i z36, .i z37, .i z38, .i z39, .i z40, .i z41, .i z42, .i z43, .i z44, .i z45, .i z46, .i z47, .i z48, .i z49, .i z50, .i z51, .i z52, .i z53, .i z54, .i z55, .i z56, .c z57, .i z58, .i z59, .i z60, .i z61, .i z62, .i z63, .i z64, .i z65, .i z66])) x0 x1 x2 x3 x4 x5 x6 x7 x8 x9 x10 x11 x12 x13 x14 x15 x16 x17 x18 x19 x20 x21 x22 x23 x24 x25 x26 x27 x28 x29 x30 x31 x32 x33 x34 x35 x36 x37 x38 x39 x40 x41 x42 x43 x44 x45 x46 x47 x48 x49 x50 x51 x52 x53 x54 x55 x56 x57 x58 x59 x60 x61 x62 x63 x64 x65 x66 := by
      intros
      kernel_rfl
    have h : iterC (codeL PP (S_mat_Mul F) c_mat_Mul (I_mat_Mul F) (J_mat_Mul F) (loopAt PP 51 0) 0) (headOf c_mat_Mul 0) k (n + 1) (fS T_mat_Mul_0 [.i x0, .i x1, .i x2, .i x3, .i x4, .i x5, .i x6, .i x7, .i x8, .i x9, .i x10, .i x11, .i x12, .i x13, .i x14, .i x15, .i x16, .i x17, .b x18, .b x19, .i x20, .i x21, .i x22, .i x23, .i x24, .i x25, .i x26, .i x27, .i x28, .i x29, .i x30, .i x31, .i x32, .i x33, .i x34, .i x35, .i x36, .i x37, .i x38, .i x39, .i x40, .i x41, .i x42, .i x43, .i x44, .i x45, .i x46, .i x47, .i x48, .i x49, .i x50, .i x51, .i x52, .i x53, .i x54, .i x55, .i x56, .c x57, .i x58, .i x59, .i x60, .i x61, .i x62, .i x63, .i x64, .i x65, .i x66]) = B_mat_Mul_0 F (fun (y0 : Int) (y1 : Int) (y2 : Int) (y3 : Int) (y4 : Int) (y5 : Int) (y6 : Int) (y7 : Int) (y8 : Int) (y9 : Int) (y10 : Int) (y11 : Int) (y12 : Int) (y13 : Int) (y14 : Int) (y15 : Int) (y16 : Int) (y17 : Int) (y18 : Bool) (y19 : Bool) (y20 : Int) (y21 : Int) (y22 : Int) (y23 : Int) (y24 : Int) (y25 : Int) (y26 : Int) (y27 : Int) (y28 : Int) (y29 : Int) (y30 : Int) (y31 : Int) (y32 : Int) (y33 : Int) (y34 : Int) (y35 : Int) (y36 : Int) (y37 : Int) (y38 : Int) (y39 : Int) (y40 : Int) (y41 : Int) (y42 : Int) (y43 : Int) (y44 : Int) (y45 : Int) (y46 : Int) (y47 : Int) (y48 : Int) (y49 : Int) (y50 : Int) (y51 : Int) (y52 : Int) (y53 : Int) (y54 : Int) (y55 : Int) (y56 : Int) (y57 : List VV) (y58 : Int) (y59 : Int) (y60 : Int) (y61 : Int) (y62 : Int) (y63 : Int) (y64 : Int) (y65 : Int) (y66 : Int) => iterC (codeL PP (S_mat_Mul F) c_mat_Mul (I_mat_Mul F) (J_mat_Mul F) (loopAt PP 51 0) 0) (headOf c_mat_Mul 0) k n (fS T_mat_Mul_0 [.i y0, .i y1, .i y2, .i y3, .i y4, .i y5, .i y6, .i y7, .i y8, .i y9, .i y10, .i y11, .i y12, .i y13, .i y14, .i y15, .i y16, .i y17, .b y18, .b y19, .i y20, .i y21, .i y22, .i y23, .i y24, .i y25, .i y26, .i y27, .i y28, .i y29, .i y30, .i y31, .i y32, .i y33, .i y34, .i y35, .i y36, .i y37, .i y38, .i y39, .i y40, .i y41, .i y42, .i y43, .i y44, .i y45, .i y46, .i y47, .i y48, .i y49, .i y50, .i y51, .i y52, .i y53, .i y54, .i y55, .i y56, .c y57, .i y58, .i y59, .i y60, .i y61, .i y62, .i y63, .i y64, .i y65, .i y66])) (fun (z0 : Int) (z1 : Int) (z2 : Int) (z3 : Int) (z4 : Int) (z5 : Int) (z6 : Int) (z7 : Int) (z8 : Int) (z9 : Int) (z10 : Int) (z11 : Int) (z12 : Int) (z13 : Int) (z14 : Int) (z15 : Int) (z16 : Int) (z17 : Int) (z18 : Bool) (z19 : Bool) (z20 : Int) (z21 : Int) (z22 : Int) (z23 : Int) (z24 : Int) (z25 : Int) (z26 : Int) (z27 : Int) (z28 : Int) (z29 : Int) (z30 : Int) (z31 : Int) (z32 : Int) (z33 : Int) (z34 : Int) (z35 : Int) (z36 : Int) (z37 : Int) (z38 : Int) (z39 : Int) (z40 : Int) (z41 : Int) (z42 : Int) (z43 : Int) (z44 : Int) (z45 : Int) (z46 : Int) (z47 : Int) (z48 : Int) (z49 : Int) (z50 : Int) (z51 : Int) (z52 : Int) (z53 : Int) (z54 : Int) (z55 : Int) (z56 : Int) (z57 : List VV) (z58 : Int) (z59 : Int) (z60 : Int) (z61 : Int) (z62 : Int) (z63 : Int) (z64 : Int) (z65 : Int) (z66 : Int) => k (.exit 0) (fS T_mat_Mul_0_0 [.i z0, .i z1, .i z2, .i z3, .i z4, .i z5, .i z6, .i z7, .i z8, .i z9, .i z10, .i z11, .i z12, .i z13, .i z14, .i z15, .i z16, .i z17, .b z18, .b z19, .i z20, .i z21, .i z22, .i z23, .i z24, .i z25, .i z26, .i z27, .i z28, .i z29, .i z30, .i z31, .i z32, .i z33, .i z34, .i z35, .i z36, .i z37, .i z38, .i z39, .i z40, .i z41, .i z42, .i z43, .i z44, .i z45, .i z46, .i z47, .i z48, .i z49, .i z50, .i z51, .i z52, .i z53, .i z54, .i z55, .i z56, .c z57, .i z58, .i z59, .i z60, .i z61, .i z62, .i z63, .i z64, .i z65, .i z66])) x0 x1 x2 x3 x4 x5 x6 x7 x8 x9 x10 x11 x12 x13 x14 x15 x16 x17 x18 x19 x20 x21 x22 x23 x24 x25 x26 x27 x28 x29 x30 x31 x32 x33 x34 x35 x36 x37 x38 x39 x40 x41 x42 x43 x44 x45 x46 x47 x48 x49 x50 x51 x52 x53 x54 x55 x56 x57 x58 x59 x60 x61 x62 x63 x64 x65 x66 := (h0 ok_mat_Back o_mat_Back_0 o_mat_Back_1 o_mat_Back_2 o_mat_Back_3 o_mat_Back_4 o_mat_Back_5 o_mat_Back_6 o_mat_Back_7 o_mat_Back_8 ok_mat_Apply o_mat_Apply_0 o_mat_Apply_1 o_mat_Apply_2 o_mat_Apply_3 L_mat_Mul_0).trans (by kernel_rfl)
    rw [h]
    simp only [lL_mat_Mul_0 F k n]
    rfl
def f_mat_Mul (F : Nat) (a0 : Int) (a1 : Int) (a2 : Int) (a3 : Int) (a4 : Int) (a5 : Int) (a6 : Int) (a7 : Int) (a8 : Int) (a9 : Int) (a10 : Int) (a11 : Int) (a12 : Int) (a13 : Int) (a14 : Int) (a15 : Int) (a16 : Int) (a17 : Int) : R :=
  bif (ok_mat_Back F a9 a10 a11 a12 a13 a14 a15 a16 a17) then (
    L_mat_Mul_0 F (fun (v2928 : Int) (v2929 : Int) (v2930 : Int) (v2931 : Int) (v2932 : Int) (v2933 : Int) (v2934 : Int) (v2935 : Int) (v2936 : Int) (v2937 : Int) (v2938 : Int) (v2939 : Int) (v2940 : Int) (v2941 : Int) (v2942 : Int) (v2943 : Int) (v2944 : Int) (v2945 : Int) (v2946 : Bool) (v2947 : Bool) (v2948 : Int) (v2949 : Int) (v2950 : Int) (v2951 : Int) (v2952 : Int) (v2953 : Int) (v2954 : Int) (v2955 : Int) (v2956 : Int) (v2957 : Int) (v2958 : Int) (v2959 : Int) (v2960 : Int) (v2961 : Int) (v2962 : Int) (v2963 : Int) (v2964 : Int) (v2965 : Int) (v2966 : Int) (v2967 : Int) (v2968 : Int) (v2969 : Int) (v2970 : Int) (v2971 : Int) (v2972 : Int) (v2973 : Int) (v2974 : Int) (v2975 : Int) (v2976 : Int) (v2977 : Int) (v2978 : Int) (v2979 : Int) (v2980 : Int) (v2981 : Int) (v2982 : Int) (v2983 : Int) (v2984 : Int) (v2985 : List VV) (v2986 : Int) (v2987 : Int) (v2988 : Int) (v2989 : Int) (v2990 : Int) (v2991 : Int) (v2992 : Int) (v2993 : Int) (v2994 : Int) =>
      bif ((isI .i64 v2985[0]?) && ((isI .i64 v2985[1]?) && ((isI .i64 v2985[2]?) && ((isI .i64 v2985[3]?) && ((isI .i64 v2985[4]?) && ((isI .i64 v2985[5]?) && ((isI .i64 v2985[6]?) && ((isI .i64 v2985[7]?) && ((isI .i64 v2985[8]?) && true))))))))) then (
        some (.v (.tuple #[.agg #[.int .i64 ((iv v2985[0]?)), .int .i64 ((iv v2985[1]?)), .int .i64 ((iv v2985[2]?)), .int .i64 ((iv v2985[3]?)), .int .i64 ((iv v2985[4]?)), .int .i64 ((iv v2985[5]?)), .int .i64 ((iv v2985[6]?)), .int .i64 ((iv v2985[7]?)), .int .i64 ((iv v2985[8]?))], .bool v2947])))
      else (
        none)) F a0 a1 a2 a3 a4 a5 a6 a7 a8 a9 a10 a11 a12 a13 a14 a15 a16 a17 false false a0 a1 a2 a3 a4 a5 a6 a7 a8 0 a0 a1 a2 a3 a4 a5 a6 a7 a8 a9 a10 a11 a12 a13 a14 a15 a16 a17 0 0 0 0 0 0 0 0 0 ([.v (.int .i64 0), .v (.int .i64 0), .v (.int .i64 0), .v (.int .i64 0), .v (.int .i64 0), .v (.int .i64 0), .v (.int .i64 0), .v (.int .i64 0), .v (.int .i64 0)]) ((o_mat_Back_0 F a9 a10 a11 a12 a13 a14 a15 a16 a17)) ((o_mat_Back_1 F a9 a10 a11 a12 a13 a14 a15 a16 a17)) ((o_mat_Back_2 F a9 a10 a11 a12 a13 a14 a15 a16 a17)) ((o_mat_Back_3 F a9 a10 a11 a12 a13 a14 a15 a16 a17)) ((o_mat_Back_4 F a9 a10 a11 a12 a13 a14 a15 a16 a17)) ((o_mat_Back_5 F a9 a10 a11 a12 a13 a14 a15 a16 a17)) ((o_mat_Back_6 F a9 a10 a11 a12 a13 a14 a15 a16 a17)) ((o_mat_Back_7 F a9 a10 a11 a12 a13 a14 a15 a16 a17)) ((o_mat_Back_8 F a9 a10 a11 a12 a13 a14 a15 a16 a17)))
  else (
    none)
theorem e_mat_Mul (F : Nat) (a0 : Int) (a1 : Int) (a2 : Int) (a3 : Int) (a4 : Int) (a5 : Int) (a6 : Int) (a7 : Int) (a8 : Int) (a9 : Int) (a10 : Int) (a11 : Int) (a12 : Int) (a13 : Int) (a14 : Int) (a15 : Int) (a16 : Int) (a17 : Int) : funL PP (S_mat_Mul F) c_mat_Mul (I_mat_Mul F) (J_mat_Mul F) 51 (fTs ti_mat_Mul [.i a0, .i a1, .i a2, .i a3, .i a4, .i a5, .i a6, .i a7, .i a8, .i a9, .i a10, .i a11, .i a12, .i a13, .i a14, .i a15, .i a16, .i a17]).1 = f_mat_Mul F a0 a1 a2 a3 a4 a5 a6 a7 a8 a9 a10 a11 a12 a13 a14 a15 a16 a17 := by
  have h : ∀ (ok_mat_Back : Nat → Int → Int → Int → Int → Int → Int → Int → Int → Int → Bool) (o_mat_Back_0 : Nat → Int → Int → Int → Int → Int → Int → Int → Int → Int → Int) (o_mat_Back_1 : Nat → Int → Int → Int → Int → Int → Int → Int → Int → Int → Int) (o_mat_Back_2 : Nat → Int → Int → Int → Int → Int → Int → Int → Int → Int → Int) (o_mat_Back_3 : Nat → Int → Int → Int → Int → Int → Int → Int → Int → Int → Int) (o_mat_Back_4 : Nat → Int → Int → Int → Int → Int → Int → Int → Int → Int → Int) (o_mat_Back_5 : Nat → Int → Int → Int → Int → Int → Int → Int → Int → Int → Int) (o_mat_Back_6 : Nat → Int → Int → Int → Int → Int → Int → Int → Int → Int → Int) (o_mat_Back_7 : Nat → Int → Int → Int → Int → Int → Int → Int → Int → Int → Int) (o_mat_Back_8 : Nat → Int → Int → Int → Int → Int → Int → Int → Int → Int → Int) (ok_mat_Apply : Nat → Int → Int → Int → Int → Int → Int → Int → Int → Int → Int → Int → Int → Bool) (o_mat_Apply_0 : Nat → Int → Int → Int → Int → Int → Int → Int → Int → Int → Int → Int → Int → Int) (o_mat_Apply_1 : Nat → Int → Int → Int → Int → Int → Int → Int → Int → Int → Int → Int → Int → Int) (o_mat_Apply_2 : Nat → Int → Int → Int → Int → Int → Int → Int → Int → Int → Int → Int → Int → Int) (o_mat_Apply_3 : Nat → Int → Int → Int → Int → Int → Int → Int → Int → Int → Int → Int → Int → Bool) (L_mat_Mul_0 : Nat → (Int → Int → Int → Int → Int → Int → Int → Int → Int → Int → Int → Int → Int → Int → Int → Int → Int → Int → Bool → Bool → Int → Int → Int → Int → Int → Int → Int → Int → Int → Int → Int → Int → Int → Int → Int → Int → Int → Int → Int → Int → Int → Int → Int → Int → Int → Int → Int → Int → Int → Int → Int → Int → Int → Int → Int → Int → Int → List VV → Int → Int → Int → Int → Int → Int → Int → Int → Int → R) → Nat → Int → Int → Int → Int → Int → Int → Int → Int → Int → Int → Int → Int → Int → Int → Int → Int → Int → Int → Bool → Bool → Int → Int → Int → Int → Int → Int → Int → Int → Int → Int → Int → Int → Int → Int → Int → Int → Int → Int → Int → Int → Int → Int → Int → Int → Int → Int → Int → Int → Int → Int → Int → Int → Int → Int → Int → Int → Int → List VV → Int → Int → Int → Int → Int → Int → Int → Int → Int → R), funL PP (words [(55, spec ti_mat_Back to_mat_Back (fun q => (ok_mat_Back F (atI (nth q 0)) (atI (nth q 1)) (atI (nth q 2)) (atI (nth q 3)) (atI (nth q 4)) (atI (nth q 5)) (atI (nth q 6)) (atI (nth q 7)) (atI (nth q 8)))) (fun q => [.i (o_mat_Back_0 F (atI (nth q 0)) (atI (nth q 1)) (atI (nth q 2)) (atI (nth q 3)) (atI (nth q 4)) (atI (nth q 5)) (atI (nth q 6)) (atI (nth q 7)) (atI (nth q 8))), .i (o_mat_Back_1 F (atI (nth q 0)) (atI (nth q 1)) (atI (nth q 2)) (atI (nth q 3)) (atI (nth q 4)) (atI (nth q 5)) (atI (nth q 6)) (atI (nth q 7)) (atI (nth q 8))), .i (o_mat_Back_2 F (atI (nth q 0)) (atI (nth q 1)) (atI (nth q 2)) (atI (nth q 3)) (atI (nth q 4)) (atI (nth q 5)) (atI (nth q 6)) (atI (nth q 7)) (atI (nth q 8))), .i (o_mat_Back_3 F (atI (nth q 0)) (atI (nth q 1)) (atI (nth q 2)) (atI (nth q 3)) (atI (nth q 4)) (atI (nth q 5)) (atI (nth q 6)) (atI (nth q 7)) (atI (nth q 8))), .i (o_mat_Back_4 F (atI (nth q 0)) (atI (nth q 1)) (atI (nth q 2)) (atI (nth q 3)) (atI (nth q 4)) (atI (nth q 5)) (atI (nth q 6)) (atI (nth q 7)) (atI (nth q 8))), .i (o_mat_Back_5 F (atI (nth q 0)) (atI (nth q 1)) (atI (nth q 2)) (atI (nth q 3)) (atI (nth q 4)) (atI (nth q 5)) (atI (nth q 6)) (atI (nth q 7)) (atI (nth q 8))), .i (o_mat_Back_6 F (atI (nth q 0)) (atI (nth q 1)) (atI (nth q 2)) (atI (nth q 3)) (atI (nth q 4)) (atI (nth q 5)) (atI (nth q 6)) (atI (nth q 7)) (atI (nth q 8))), .i (o_mat_Back_7 F (atI (nth q 0)) (atI (nth q 1)) (atI (nth q 2)) (atI (nth q 3)) (atI (nth q 4)) (atI (nth q 5)) (atI (nth q 6)) (atI (nth q 7)) (atI (nth q 8))), .i (o_mat_Back_8 F (atI (nth q 0)) (atI (nth q 1)) (atI (nth q 2)) (atI (nth q 3)) (atI (nth q 4)) (atI (nth q 5)) (atI (nth q 6)) (atI (nth q 7)) (atI (nth q 8)))])), (53, spec ti_mat_Apply to_mat_Apply (fun q => (ok_mat_Apply F (atI (nth q 0)) (atI (nth q 1)) (atI (nth q 2)) (atI (nth q 3)) (atI (nth q 4)) (atI (nth q 5)) (atI (nth q 6)) (atI (nth q 7)) (atI (nth q 8)) (atI (nth q 9)) (atI (nth q 10)) (atI (nth q 11)))) (fun q => [.i (o_mat_Apply_0 F (atI (nth q 0)) (atI (nth q 1)) (atI (nth q 2)) (atI (nth q 3)) (atI (nth q 4)) (atI (nth q 5)) (atI (nth q 6)) (atI (nth q 7)) (atI (nth q 8)) (atI (nth q 9)) (atI (nth q 10)) (atI (nth q 11))), .i (o_mat_Apply_1 F (atI (nth q 0)) (atI (nth q 1)) (atI (nth q 2)) (atI (nth q 3)) (atI (nth q 4)) (atI (nth q 5)) (atI (nth q 6)) (atI (nth q 7)) (atI (nth q 8)) (atI (nth q 9)) (atI (nth q 10)) (atI (nth q 11))), .i (o_mat_Apply_2 F (atI (nth q 0)) (atI (nth q 1)) (atI (nth q 2)) (atI (nth q 3)) (atI (nth q 4)) (atI (nth q 5)) (atI (nth q 6)) (atI (nth q 7)) (atI (nth q 8)) (atI (nth q 9)) (atI (nth q 10)) (atI (nth q 11))), .b (o_mat_Apply_3 F (atI (nth q 0)) (atI (nth q 1)) (atI (nth q 2)) (atI (nth q 3)) (atI (nth q 4)) (atI (nth q 5)) (atI (nth q 6)) (atI (nth q 7)) (atI (nth q 8)) (atI (nth q 9)) (atI (nth q 10)) (atI (nth q 11)))]))]) c_mat_Mul (tabI c_mat_Mul [⟨0, T_mat_Mul_0, fun k q => L_mat_Mul_0 F (fun (z0 : Int) (z1 : Int) (z2 : Int) (z3 : Int) (z4 : Int) (z5 : Int) (z6 : Int) (z7 : Int) (z8 : Int) (z9 : Int) (z10 : Int) (z11 : Int) (z12 : Int) (z13 : Int) (z14 : Int) (z15 : Int) (z16 : Int) (z17 : Int) (z18 : Bool) (z19 : Bool) (z20 : Int) (z21 : Int) (z22 : Int) (z23 : Int) (z24 : Int) (z25 : Int) (z26 : Int) (z27 : Int) (z28 : Int) (z29 : Int) (z30 : Int) (z31 : Int) (z32 : Int) (z33 : Int) (z34 : Int) (z35 : Int) (z36 : Int) (z37 : Int) (z38 : Int) (z39 : Int) (z40 : Int) (z41 : Int) (z42 : Int) (z43 : Int) (z44 : Int) (z45 : Int) (z46 : Int) (z47 : Int) (z48 : Int) (z49 : Int) (z50 : Int) (z51 : Int) (z52 : Int) (z53 : Int) (z54 : Int) (z55 : Int) (z56 : Int) (z57 : List VV) (z58 : Int) (z59 : Int) (z60 : Int) (z61 : Int) (z62 : Int) (z63 : Int) (z64 : Int) (z65 : Int) (z66 : Int) => k (.exit 0) (fS T_mat_Mul_0_0 [.i z0, .i z1, .i z2, .i z3, .i z4, .i z5, .i z6, .i z7, .i z8, .i z9, .i z10, .i z11, .i z12, .i z13, .i z14, .i z15, .i z16, .i z17, .b z18, .b z19, .i z20, .i z21, .i z22, .i z23, .i z24, .i z25, .i z26, .i z27, .i z28, .i z29, .i z30, .i z31, .i z32, .i z33, .i z34, .i z35, .i z36, .i z37, .i z38, .i z39, .i z40, .i z41, .i z42, .i z43, .i z44, .i z45, .i z46, .i z47, .i z48, .i z49, .i z50, .i z51, .i z52, .i z53, .i z54, .i z55, .i z56, .c z57, .i z58, .i z59, .i z60, .i z61, .i z62, .i z63, .i z64, .i z65, .i z66])) F (atI (nth q 0)) (atI (nth q 1)) (atI (nth q 2)) (atI (nth q 3)) (atI (nth q 4)) (atI (nth q 5)) (atI (nth q 6)) (atI (nth q 7)) (atI (nth q 8)) (atI (nth q 9)) (atI (nth q 10)) (atI (nth q 11)) (atI (nth q 12)) (atI (nth q 13)) (atI (nth q 14)) (atI (nth q 15)) (atI (nth q 16)) (atI (nth q 17)) (atB (nth q 18)) (atB (nth q 19)) (atI (nth q 20)) (atI (nth q 21)) (atI (nth q 22)) (atI (nth q 23)) (atI (nth q 24)) (atI (nth q 25)) (atI (nth q 26)) (atI (nth q 27)) (atI (nth q 28)) (atI (nth q 29)) (atI (nth q 30)) (atI (nth q 31)) (atI (nth q 32)) (atI (nth q 33)) (atI (nth q 34)) (atI (nth q 35)) (atI (nth q 36)) (atI (nth q 37)) (atI (nth q 38)) (atI (nth q 39)) (atI (nth q 40)) (atI (nth q 41)) (atI (nth q 42)) (atI (nth q 43)) (atI (nth q 44)) (atI (nth q 45)) (atI (nth q 46)) (atI (nth q 47)) (atI (nth q 48)) (atI (nth q 49)) (atI (nth q 50)) (atI (nth q 51)) (atI (nth q 52)) (atI (nth q 53)) (atI (nth q 54)) (atI (nth q 55)) (atI (nth q 56)) (atC (nth q 57)) (atI (nth q 58)) (atI (nth q 59)) (atI (nth q 60)) (atI (nth q 61)) (atI (nth q 62)) (atI (nth q 63)) (atI (nth q 64)) (atI (nth q 65)) (atI (nth q 66))⟩]) (tabJ []) 51 (fTs ti_mat_Mul [.i a0, .i a1, .i a2, .i a3, .i a4, .i a5, .i a6, .i a7, .i a8, .i a9, .i a10, .i a11, .i a12, .i a13, .i a14, .i a15, .i a16, .i a17]).1 = (
  bif (ok_mat_Back F a9 a10 a11 a12 a13 a14 a15 a16 a17) then (
    L_mat_Mul_0 F (fun (v2928 : Int) (v2929 : Int) (v2930 : Int) (v2931 : Int) (v2932 : Int) (v2933 : Int) (v2934 : Int) (v2935 : Int) (v2936 : Int) (v2937 : Int) (v2938 : Int) (v2939 : Int) (v2940 : Int) (v2941 : Int) (v2942 : Int) (v2943 : Int) (v2944 : Int) (v2945 : Int) (v2946 : Bool) (v2947 : Bool) (v2948 : Int) (v2949 : Int) (v2950 : Int) (v2951 : Int) (v2952 : Int) (v2953 : Int) (v2954 : Int) (v2955 : Int) (v2956 : Int) (v2957 : Int) (v2958 : Int) (v2959 : Int) (v2960 : Int) (v2961 : Int) (v2962 : Int) (v2963 : Int) (v2964 : Int) (v2965 : Int) (v2966 : Int) (v2967 : Int) (v2968 : Int) (v2969 : Int) (v2970 : Int) (v2971 : Int) (v2972 : Int) (v2973 : Int) (v2974 : Int) (v2975 : Int) (v2976 : Int) (v2977 : Int) (v2978 : Int) (v2979 : Int) (v2980 : Int) (v2981 : Int) (v2982 : Int) (v2983 : Int) (v2984 : Int) (v2985 : List VV) (v2986 : Int) (v2987 : Int) (v2988 : Int) (v2989 : Int) (v2990 : Int) (v2991 : Int) (v2992 : Int) (v2993 : Int) (v2994 : Int) =>
      bif ((isI .i64 v2985[0]?) && ((isI .i64 v2985[1]?) && ((isI .i64 v2985[2]?) && ((isI .i64 v2985[3]?) && ((isI .i64 v2985[4]?) && ((isI .i64 v2985[5]?) && ((isI .i64 v2985[6]?) && ((isI .i64 v2985[7]?) && ((isI .i64 v2985[8]?) && true))))))))) then (
        some (.v (.tuple #[.agg #[.int .i64 ((iv v2985[0]?)), .int .i64 ((iv v2985[1]?)), .int .i64 ((iv v2985[2]?)), .int .i64 ((iv v2985[3]?)), .int .i64 ((iv v2985[4]?)), .int .i64 ((iv v2985[5]?)), .int .i64 ((iv v2985[6]?)), .int .i64 ((iv v2985[7]?)), .int .i64 ((iv v2985[8]?))], .bool v2947])))
      else (
        none)) F a0 a1 a2 a3 a4 a5 a6 a7 a8 a9 a10 a11 a12 a13 a14 a15 a16 a17 false false a0 a1 a2 a3 a4 a5 a6 a7 a8 0 a0 a1 a2 a3 a4 a5 a6 a7 a8 a9 a10 a11 a12 a13 a14 a15 a16 a17 0 0 0 0 0 0 0 0 0 ([.v (.int .i64 0), .v (.int .i64 0), .v (.int .i64 0), .v (.int .i64 0), .v (.int .i64 0), .v (.int .i64 0), .v (.int .i64 0), .v (.int .i64 0), .v (.int .i64 0)]) ((o_mat_Back_0 F a9 a10 a11 a12 a13 a14 a15 a16 a17)) ((o_mat_Back_1 F a9 a10 a11 a12 a13 a14 a15 a16 a17)) ((o_mat_Back_2 F a9 a10 a11 a12 a13 a14 a15 a16 a17)) ((o_mat_Back_3 F a9 a10 a11 a12 a13 a14 a15 a16 a17)) ((o_mat_Back_4 F a9 a10 a11 a12 a13 a14 a15 a16 a17)) ((o_mat_Back_5 F a9 a10 a11 a12 a13 a14 a15 a16 a17)) ((o_mat_Back_6 F a9 a10 a11 a12 a13 a14 a15 a16 a17)) ((o_mat_Back_7 F a9 a10 a11 a12 a13 a14 a15 a16 a17)) ((o_mat_Back_8 F a9 a10 a11 a12 a13 a14 a15 a16 a17)))
  else (
    none) : R) := by
    intros
    kernel_rfl
  exact (h ok_mat_Back o_mat_Back_0 o_mat_Back_1 o_mat_Back_2 o_mat_Back_3 o_mat_Back_4 o_mat_Back_5 o_mat_Back_6 o_mat_Back_7 o_mat_Back_8 ok_mat_Apply o_mat_Apply_0 o_mat_Apply_1 o_mat_Apply_2 o_mat_Apply_3 L_mat_Mul_0).trans (by kernel_rfl)
def ok_mat_Mul (F : Nat) (a0 : Int) (a1 : Int) (a2 : Int) (a3 : Int) (a4 : Int) (a5 : Int) (a6 : Int) (a7 : Int) (a8 : Int) (a9 : Int) (a10 : Int) (a11 : Int) (a12 : Int) (a13 : Int) (a14 : Int) (a15 : Int) (a16 : Int) (a17 : Int) : Bool := okT to_mat_Mul (f_mat_Mul F a0 a1 a2 a3 a4 a5 a6 a7 a8 a9 a10 a11 a12 a13 a14 a15 a16 a17)
def o_mat_Mul_0 (F : Nat) (a0 : Int) (a1 : Int) (a2 : Int) (a3 : Int) (a4 : Int) (a5 : Int) (a6 : Int) (a7 : Int) (a8 : Int) (a9 : Int) (a10 : Int) (a11 : Int) (a12 : Int) (a13 : Int) (a14 : Int) (a15 : Int) (a16 : Int) (a17 : Int) : Int := atI (nth (outT to_mat_Mul (f_mat_Mul F a0 a1 a2 a3 a4 a5 a6 a7 a8 a9 a10 a11 a12 a13 a14 a15 a16 a17)) 0)
def o_mat_Mul_1 (F : Nat) (a0 : Int) (a1 : Int) (a2 : Int) (a3 : Int) (a4 : Int) (a5 : Int) (a6 : Int) (a7 : Int) (a8 : Int) (a9 : Int) (a10 : Int) (a11 : Int) (a12 : Int) (a13 : Int) (a14 : Int) (a15 : Int) (a16 : Int) (a17 : Int) : Int := atI (nth (outT to_mat_Mul (f_mat_Mul F a0 a1 a2 a3 a4 a5 a6 a7 a8 a9 a10 a11 a12 a13 a14 a15 a16 a17)) 1)
def o_mat_Mul_2 (F : Nat) (a0 : Int) (a1 : Int) (a2 : Int) (a3 : Int) (a4 : Int) (a5 : Int) (a6 : Int) (a7 : Int) (a8 : Int) (a9 : Int) (a10 : Int) (a11 : Int) (a12 : Int) (a13 : Int) (a14 : Int) (a15 : Int) (a16 : Int) (a17 : Int) : Int := atI (nth (outT to_mat_Mul (f_mat_Mul F a0 a1 a2 a3 a4 a5 a6 a7 a8 a9 a10 a11 a12 a13 a14 a15 a16 a17)) 2)
def o_mat_Mul_3 (F : Nat) (a0 : Int) (a1 : Int) (a2 : Int) (a3 : Int) (a4 : Int) (a5 : Int) (a6 : Int) (a7 : Int) (a8 : Int) (a9 : Int) (a10 : Int) (a11 : Int) (a12 : Int) (a13 : Int) (a14 : Int) (a15 : Int) (a16 : Int) (a17 : Int) : Int := atI (nth (outT to_mat_Mul (f_mat_Mul F a0 a1 a2 a3 a4 a5 a6 a7 a8 a9 a10 a11 a12 a13 a14 a15 a16 a17)) 3)
def o_mat_Mul_4 (F : Nat) (a0 : Int) (a1 : Int) (a2 : Int) (a3 : Int) (a4 : Int) (a5 : Int) (a6 : Int) (a7 : Int) (a8 : Int) (a9 : Int) (a10 : Int) (a11 : Int) (a12 : Int) (a13 : Int) (a14 : Int) (a15 : Int) (a16 : Int) (a17 : Int) : Int := atI (nth (outT to_mat_Mul (f_mat_Mul F a0 a1 a2 a3 a4 a5 a6 a7 a8 a9 a10 a11 a12 a13 a14 a15 a16 a17)) 4)
def o_mat_Mul_5 (F : Nat) (a0 : Int) (a1 : Int) (a2 : Int) (a3 : Int) (a4 : Int) (a5 : Int) (a6 : Int) (a7 : Int) (a8 : Int) (a9 : Int) (a10 : Int) (a11 : Int) (a12 : Int) (a13 : Int) (a14 : Int) (a15 : Int) (a16 : Int) (a17 : Int) : Int := atI (nth (outT to_mat_Mul (f_mat_Mul F a0 a1 a2 a3 a4 a5 a6 a7 a8 a9 a10 a11 a12 a13 a14 a15 a16 a17)) 5)
def o_mat_Mul_6 (F : Nat) (a0 : Int) (a1 : Int) (a2 : Int) (a3 : Int) (a4 : Int) (a5 : Int) (a6 : Int) (a7 : Int) (a8 : Int) (a9 : Int) (a10 : Int) (a11 : Int) (a12 : Int) (a13 : Int) (a14 : Int) (a15 : Int) (a16 : Int) (a17 : Int) : Int := atI (nth (outT to_mat_Mul (f_mat_Mul F a0 a1 a2 a3 a4 a5 a6 a7 a8 a9 a10 a11 a12 a13 a14 a15 a16 a17)) 6)
def o_mat_Mul_7 (F : Nat) (a0 : Int) (a1 : Int) (a2 : Int) (a3 : Int) (a4 : Int) (a5 : Int) (a6 : Int) (a7 : Int) (a8 : Int) (a9 : Int) (a10 : Int) (a11 : Int) (a12 : Int) (a13 : Int) (a14 : Int) (a15 : Int) (a16 : Int) (a17 : Int) : Int := atI (nth (outT to_mat_Mul (f_mat_Mul F a0 a1 a2 a3 a4 a5 a6 a7 a8 a9 a10 a11 a12 a13 a14 a15 a16 a17)) 7)
def o_mat_Mul_8 (F : Nat) (a0 : Int) (a1 : Int) (a2 : Int) (a3 : Int) (a4 : Int) (a5 : Int) (a6 : Int) (a7 : Int) (a8 : Int) (a9 : Int) (a10 : Int) (a11 : Int) (a12 : Int) (a13 : Int) (a14 : Int) (a15 : Int) (a16 : Int) (a17 : Int) : Int := atI (nth (outT to_mat_Mul (f_mat_Mul F a0 a1 a2 a3 a4 a5 a6 a7 a8 a9 a10 a11 a12 a13 a14 a15 a16 a17)) 8)
def o_mat_Mul_9 (F : Nat) (a0 : Int) (a1 : Int) (a2 : Int) (a3 : Int) (a4 : Int) (a5 : Int) (a6 : Int) (a7 : Int) (a8 : Int) (a9 : Int) (a10 : Int) (a11 : Int) (a12 : Int) (a13 : Int) (a14 : Int) (a15 : Int) (a16 : Int) (a17 : Int) : Bool := atB (nth (outT to_mat_Mul (f_mat_Mul F a0 a1 a2 a3 a4 a5 a6 a7 a8 a9 a10 a11 a12 a13 a14 a15 a16 a17)) 9)
theorem k_mat_Mul (F : Nat) (a0 : Int) (a1 : Int) (a2 : Int) (a3 : Int) (a4 : Int) (a5 : Int) (a6 : Int) (a7 : Int) (a8 : Int) (a9 : Int) (a10 : Int) (a11 : Int) (a12 : Int) (a13 : Int) (a14 : Int) (a15 : Int) (a16 : Int) (a17 : Int) {z0 : Int} {z1 : Int} {z2 : Int} {z3 : Int} {z4 : Int} {z5 : Int} {z6 : Int} {z7 : Int} {z8 : Int} {z9 : Bool} (h : f_mat_Mul F a0 a1 a2 a3 a4 a5 a6 a7 a8 a9 a10 a11 a12 a13 a14 a15 a16 a17 = some (.v (.tuple #[.agg #[.int .i64 z0, .int .i64 z1, .int .i64 z2, .int .i64 z3, .int .i64 z4, .int .i64 z5, .int .i64 z6, .int .i64 z7, .int .i64 z8], .bool z9]))) : ok_mat_Mul F a0 a1 a2 a3 a4 a5 a6 a7 a8 a9 a10 a11 a12 a13 a14 a15 a16 a17 = true ∧ o_mat_Mul_0 F a0 a1 a2 a3 a4 a5 a6 a7 a8 a9 a10 a11 a12 a13 a14 a15 a16 a17 = z0 ∧ o_mat_Mul_1 F a0 a1 a2 a3 a4 a5 a6 a7 a8 a9 a10 a11 a12 a13 a14 a15 a16 a17 = z1 ∧ o_mat_Mul_2 F a0 a1 a2 a3 a4 a5 a6 a7 a8 a9 a10 a11 a12 a13 a14 a15 a16 a17 = z2 ∧ o_mat_Mul_3 F a0 a1 a2 a3 a4 a5 a6 a7 a8 a9 a10 a11 a12 a13 a14 a15 a16 a17 = z3 ∧ o_mat_Mul_4 F a0 a1 a2 a3 a4 a5 a6 a7 a8 a9 a10 a11 a12 a13 a14 a15 a16 a17 = z4 ∧ o_mat_Mul_5 F a0 a1 a2 a3 a4 a5 a6 a7 a8 a9 a10 a11 a12 a13 a14 a15 a16 a17 = z5 ∧ o_mat_Mul_6 F a0 a1 a2 a3 a4 a5 a6 a7 a8 a9 a10 a11 a12 a13 a14 a15 a16 a17 = z6 ∧ o_mat_Mul_7 F a0 a1 a2 a3 a4 a5 a6 a7 a8 a9 a10 a11 a12 a13 a14 a15 a16 a17 = z7 ∧ o_mat_Mul_8 F a0 a1 a2 a3 a4 a5 a6 a7 a8 a9 a10 a11 a12 a13 a14 a15 a16 a17 = z8 ∧ o_mat_Mul_9 F a0 a1 a2 a3 a4 a5 a6 a7 a8 a9 a10 a11 a12 a13 a14 a15 a16 a17 = z9 := by
  refine ⟨?_, ?_, ?_, ?_, ?_, ?_, ?_, ?_, ?_, ?_, ?_⟩
  · unfold ok_mat_Mul; rw [h]; kernel_rfl
  · unfold o_mat_Mul_0; rw [h]; kernel_rfl
  · unfold o_mat_Mul_1; rw [h]; kernel_rfl
  · unfold o_mat_Mul_2; rw [h]; kernel_rfl
  · unfold o_mat_Mul_3; rw [h]; kernel_rfl
  · unfold o_mat_Mul_4; rw [h]; kernel_rfl
  · unfold o_mat_Mul_5; rw [h]; kernel_rfl
  · unfold o_mat_Mul_6; rw [h]; kernel_rfl
  · unfold o_mat_Mul_7; rw [h]; kernel_rfl
  · unfold o_mat_Mul_8; rw [h]; kernel_rfl
  · unfold o_mat_Mul_9; rw [h]; kernel_rfl
def s_mat_Mul (F : Nat) : List VV → Option (Bool × VV) := spec ti_mat_Mul to_mat_Mul (fun q => (ok_mat_Mul F (atI (nth q 0)) (atI (nth q 1)) (atI (nth q 2)) (atI (nth q 3)) (atI (nth q 4)) (atI (nth q 5)) (atI (nth q 6)) (atI (nth q 7)) (atI (nth q 8)) (atI (nth q 9)) (atI (nth q 10)) (atI (nth q 11)) (atI (nth q 12)) (atI (nth q 13)) (atI (nth q 14)) (atI (nth q 15)) (atI (nth q 16)) (atI (nth q 17)))) (fun q => [.i (o_mat_Mul_0 F (atI (nth q 0)) (atI (nth q 1)) (atI (nth q 2)) (atI (nth q 3)) (atI (nth q 4)) (atI (nth q 5)) (atI (nth q 6)) (atI (nth q 7)) (atI (nth q 8)) (atI (nth q 9)) (atI (nth q 10)) (atI (nth q 11)) (atI (nth q 12)) (atI (nth q 13)) (atI (nth q 14)) (atI (nth q 15)) (atI (nth q 16)) (atI (nth q 17))), .i (o_mat_Mul_1 F (atI (nth q 0)) (atI (nth q 1)) (atI (nth q 2)) (atI (nth q 3)) (atI (nth q 4)) (atI (nth q 5)) (atI (nth q 6)) (atI (nth q 7)) (atI (nth q 8)) (atI (nth q 9)) (atI (nth q 10)) (atI (nth q 11)) (atI (nth q 12)) (atI (nth q 13)) (atI (nth q 14)) (atI (nth q 15)) (atI (nth q 16)) (atI (nth q 17))), .i (o_mat_Mul_2 F (atI (nth q 0)) (atI (nth q 1)) (atI (nth q 2)) (atI (nth q 3)) (atI (nth q 4)) (atI (nth q 5)) (atI (nth q 6)) (atI (nth q 7)) (atI (nth q 8)) (atI (nth q 9)) (atI (nth q 10)) (atI (nth q 11)) (atI (nth q 12)) (atI (nth q 13)) (atI (nth q 14)) (atI (nth q 15)) (atI (nth q 16)) (atI (nth q 17))), .i (o_mat_Mul_3 F (atI (nth q 0)) (atI (nth q 1)) (atI (nth q 2)) (atI (nth q 3)) (atI (nth q 4)) (atI (nth q 5)) (atI (nth q 6)) (atI (nth q 7)) (atI (nth q 8)) (atI (nth q 9)) (atI (nth q 10)) (atI (nth q 11)) (atI (nth q 12)) (atI (nth q 13)) (atI (nth q 14)) (atI (nth q 15)) (atI (nth q 16)) (atI (nth q 17))), .i (o_mat_Mul_4 F (atI (nth q 0)) (atI (nth q 1)) (atI (nth q 2)) (atI (nth q 3)) (atI (nth q 4)) (atI (nth q 5)) (atI (nth q 6)) (atI (nth q 7)) (atI (nth q 8)) (atI (nth q 9)) (atI (nth q 10)) (atI (nth q 11)) (atI (nth q 12)) (atI (nth q 13)) (atI (nth q 14)) (atI (nth q 15)) (atI (nth q 16)) (atI (nth q 17))), .i (o_mat_Mul_5 F (atI (nth q 0)) (atI (nth q 1)) (atI (nth q 2)) (atI (nth q 3)) (atI (nth q 4)) (atI (nth q 5)) (atI (nth q 6)) (atI (nth q 7)) (atI (nth q 8)) (atI (nth q 9)) (atI (nth q 10)) (atI (nth q 11)) (atI (nth q 12)) (atI (nth q 13)) (atI (nth q 14)) (atI (nth q 15)) (atI (nth q 16)) (atI (nth q 17))), .i (o_mat_Mul_6 F (atI (nth q 0)) (atI (nth q 1)) (atI (nth q 2)) (atI (nth q 3)) (atI (nth q 4)) (atI (nth q 5)) (atI (nth q 6)) (atI (nth q 7)) (atI (nth q 8)) (atI (nth q 9)) (atI (nth q 10)) (atI (nth q 11)) (atI (nth q 12)) (atI (nth q 13)) (atI (nth q 14)) (atI (nth q 15)) (atI (nth q 16)) (atI (nth q 17))), .i (o_mat_Mul_7 F (atI (nth q 0)) (atI (nth q 1)) (atI (nth q 2)) (atI (nth q 3)) (atI (nth q 4)) (atI (nth q 5)) (atI (nth q 6)) (atI (nth q 7)) (atI (nth q 8)) (atI (nth q 9)) (atI (nth q 10)) (atI (nth q 11)) (atI (nth q 12)) (atI (nth q 13)) (atI (nth q 14)) (atI (nth q 15)) (atI (nth q 16)) (atI (nth q 17))), .i (o_mat_Mul_8 F (atI (nth q 0)) (atI (nth q 1)) (atI (nth q 2)) (atI (nth q 3)) (atI (nth q 4)) (atI (nth q 5)) (atI (nth q 6)) (atI (nth q 7)) (atI (nth q 8)) (atI (nth q 9)) (atI (nth q 10)) (atI (nth q 11)) (atI (nth q 12)) (atI (nth q 13)) (atI (nth q 14)) (atI (nth q 15)) (atI (nth q 16)) (atI (nth q 17))), .b (o_mat_Mul_9 F (atI (nth q 0)) (atI (nth q 1)) (atI (nth q 2)) (atI (nth q 3)) (atI (nth q 4)) (atI (nth q 5)) (atI (nth q 6)) (atI (nth q 7)) (atI (nth q 8)) (atI (nth q 9)) (atI (nth q 10)) (atI (nth q 11)) (atI (nth q 12)) (atI (nth q 13)) (atI (nth q 14)) (atI (nth q 15)) (atI (nth q 16)) (atI (nth q 17)))])
theorem hS_mat_Mul (F : Nat) : ∀ f, Good PP f (unS (S_mat_Mul F f)) := words_good fun p hp => by
  simp only [List.mem_cons, List.not_mem_nil, or_false] at hp
  rcases hp with rfl | rfl
  · exact g_mat_Back F
  · exact g_mat_Apply F
theorem hl_mat_Mul (F : Nat) : ∀ p ∈ loopsIn PP 51, LoopOK PP (S_mat_Mul F) c_mat_Mul F (I_mat_Mul F) (J_mat_Mul F) p :=
  loops_of [(0, loopAt PP 51 0)] (by kernel_rfl) (all_cons
    (loop_ok (W_mat_Mul F) rfl (tab_cons (fun _ k q => Le.ofEq ((lL_mat_Mul_0 F k F (atI (nth q 0)) (atI (nth q 1)) (atI (nth q 2)) (atI (nth q 3)) (atI (nth q 4)) (atI (nth q 5)) (atI (nth q 6)) (atI (nth q 7)) (atI (nth q 8)) (atI (nth q 9)) (atI (nth q 10)) (atI (nth q 11)) (atI (nth q 12)) (atI (nth q 13)) (atI (nth q 14)) (atI (nth q 15)) (atI (nth q 16)) (atI (nth q 17)) (atB (nth q 18)) (atB (nth q 19)) (atI (nth q 20)) (atI (nth q 21)) (atI (nth q 22)) (atI (nth q 23)) (atI (nth q 24)) (atI (nth q 25)) (atI (nth q 26)) (atI (nth q 27)) (atI (nth q 28)) (atI (nth q 29)) (atI (nth q 30)) (atI (nth q 31)) (atI (nth q 32)) (atI (nth q 33)) (atI (nth q 34)) (atI (nth q 35)) (atI (nth q 36)) (atI (nth q 37)) (atI (nth q 38)) (atI (nth q 39)) (atI (nth q 40)) (atI (nth q 41)) (atI (nth q 42)) (atI (nth q 43)) (atI (nth q 44)) (atI (nth q 45)) (atI (nth q 46)) (atI (nth q 47)) (atI (nth q 48)) (atI (nth q 49)) (atI (nth q 50)) (atI (nth q 51)) (atI (nth q 52)) (atI (nth q 53)) (atI (nth q 54)) (atI (nth q 55)) (atI (nth q 56)) (atC (nth q 57)) (atI (nth q 58)) (atI (nth q 59)) (atI (nth q 60)) (atI (nth q 61)) (atI (nth q 62)) (atI (nth q 63)) (atI (nth q 64)) (atI (nth q 65)) (atI (nth q 66))).symm.trans (congrArg (iterC (codeL PP (S_mat_Mul F) c_mat_Mul (I_mat_Mul F) (J_mat_Mul F) (loopAt PP 51 0) 0) (headOf c_mat_Mul 0) k F) (show fS T_mat_Mul_0 [.i (atI (nth q 0)), .i (atI (nth q 1)), .i (atI (nth q 2)), .i (atI (nth q 3)), .i (atI (nth q 4)), .i (atI (nth q 5)), .i (atI (nth q 6)), .i (atI (nth q 7)), .i (atI (nth q 8)), .i (atI (nth q 9)), .i (atI (nth q 10)), .i (atI (nth q 11)), .i (atI (nth q 12)), .i (atI (nth q 13)), .i (atI (nth q 14)), .i (atI (nth q 15)), .i (atI (nth q 16)), .i (atI (nth q 17)), .b (atB (nth q 18)), .b (atB (nth q 19)), .i (atI (nth q 20)), .i (atI (nth q 21)), .i (atI (nth q 22)), .i (atI (nth q 23)), .i (atI (nth q 24)), .i (atI (nth q 25)), .i (atI (nth q 26)), .i (atI (nth q 27)), .i (atI (nth q 28)), .i (atI (nth q 29)), .i (atI (nth q 30)), .i (atI (nth q 31)), .i (atI (nth q 32)), .i (atI (nth q 33)), .i (atI (nth q 34)), .i (atI (nth q 35)), .i (atI (nth q 36)), .i (atI (nth q 37)), .i (atI (nth q 38)), .i (atI (nth q 39)), .i (atI (nth q 40)), .i (atI (nth q 41)), .i (atI (nth q 42)), .i (atI (nth q 43)), .i (atI (nth q 44)), .i (atI (nth q 45)), .i (atI (nth q 46)), .i (atI (nth q 47)), .i (atI (nth q 48)), .i (atI (nth q 49)), .i (atI (nth q 50)), .i (atI (nth q 51)), .i (atI (nth q 52)), .i (atI (nth q 53)), .i (atI (nth q 54)), .i (atI (nth q 55)), .i (atI (nth q 56)), .c (atC (nth q 57)), .i (atI (nth q 58)), .i (atI (nth q 59)), .i (atI (nth q 60)), .i (atI (nth q 61)), .i (atI (nth q 62)), .i (atI (nth q 63)), .i (atI (nth q 64)), .i (atI (nth q 65)), .i (atI (nth q 66))] = fS T_mat_Mul_0 q by kernel_rfl)))) tab_nil)) all_nil)
theorem hj_mat_Mul (F : Nat) : ∀ p ∈ joinsIn PP c_mat_Mul 51, JoinOK PP (S_mat_Mul F) c_mat_Mul (I_mat_Mul F) (J_mat_Mul F) p :=
  joins_of [] (by kernel_rfl) all_nil
theorem g_mat_Mul (F : Nat) : Good PP 51 (unS (s_mat_Mul F)) :=
  fun_spec (hS_mat_Mul F) (by kernel_rfl) (by kernel_rfl) (C := c_mat_Mul) (F := fun q => (f_mat_Mul F (atI (nth q 0)) (atI (nth q 1)) (atI (nth q 2)) (atI (nth q 3)) (atI (nth q 4)) (atI (nth q 5)) (atI (nth q 6)) (atI (nth q 7)) (atI (nth q 8)) (atI (nth q 9)) (atI (nth q 10)) (atI (nth q 11)) (atI (nth q 12)) (atI (nth q 13)) (atI (nth q 14)) (atI (nth q 15)) (atI (nth q 16)) (atI (nth q 17)))) (fun _ => F) (fun _ => I_mat_Mul F) (fun _ => J_mat_Mul F) (fun _ => hl_mat_Mul F) (fun _ => hj_mat_Mul F)
    (fun q => (congrArg (funL PP (S_mat_Mul F) c_mat_Mul (I_mat_Mul F) (J_mat_Mul F) 51) (show (fTs ti_mat_Mul q).1 = (fTs ti_mat_Mul [.i (atI (nth q 0)), .i (atI (nth q 1)), .i (atI (nth q 2)), .i (atI (nth q 3)), .i (atI (nth q 4)), .i (atI (nth q 5)), .i (atI (nth q 6)), .i (atI (nth q 7)), .i (atI (nth q 8)), .i (atI (nth q 9)), .i (atI (nth q 10)), .i (atI (nth q 11)), .i (atI (nth q 12)), .i (atI (nth q 13)), .i (atI (nth q 14)), .i (atI (nth q 15)), .i (atI (nth q 16)), .i (atI (nth q 17))]).1 by kernel_rfl)).trans (e_mat_Mul F (atI (nth q 0)) (atI (nth q 1)) (atI (nth q 2)) (atI (nth q 3)) (atI (nth q 4)) (atI (nth q 5)) (atI (nth q 6)) (atI (nth q 7)) (atI (nth q 8)) (atI (nth q 9)) (atI (nth q 10)) (atI (nth q 11)) (atI (nth q 12)) (atI (nth q 13)) (atI (nth q 14)) (atI (nth q 15)) (atI (nth q 16)) (atI (nth q 17))))
    (fun _ h => (okT_fill h).trans (congrArg some (by kernel_rfl)))

end Go.Xv
set_option linter.unusedVariables false
namespace Go.Xv
/- 16 _law07_MatSame -/
def c_law07_MatSame : Cfg := ⟨[0, 1, 2, 3, 4, 5, 6, 7, 8, 9, 10, 12], [], [14, 21, 26, 58], []⟩
def ti_law07_MatSame : List TV := [.v (.agg [.int .i64, .int .i64, .int .i64, .int .i64, .int .i64, .int .i64, .int .i64, .int .i64, .int .i64]), .v (.agg [.int .i64, .int .i64, .int .i64])]
def to_law07_MatSame : TV := .v (.bool)
def S_law07_MatSame (F : Nat) : FuncId → List VV → Option (Bool × VV) := words [(46, s_law07_works F), (57, s_mat_Same F), (51, s_mat_Mul F), (53, s_mat_Apply F), (55, s_mat_Back F)]
def W_law07_MatSame (F : Nat) : List LW := []
def I_law07_MatSame (F : Nat) : Nat → VS → (Exit → VS → R) → R := tabI c_law07_MatSame (W_law07_MatSame F)
def WJ_law07_MatSame (F : Nat) : List LJ := []
def J_law07_MatSame (F : Nat) : Nat → Nat → VS → (Exit → VS → R) → R := tabJ (WJ_law07_MatSame F)
def f_law07_MatSame (F : Nat) (a0 : Int) (a1 : Int) (a2 : Int) (a3 : Int) (a4 : Int) (a5 : Int) (a6 : Int) (a7 : Int) (a8 : Int) (a9 : Int) (a10 : Int) (a11 : Int) : R :=
  bif (ok_law07_works F) then (
    bif ((!((o_law07_works_0 F)))) then (
      some (.v (.bool false)))
    else (
      bif (ok_mat_Same F) then (
        let v3113 : Int := (o_mat_Same_0 F)
        let v3114 : Int := (o_mat_Same_1 F)
        let v3115 : Int := (o_mat_Same_2 F)
        let v3116 : Int := (o_mat_Same_3 F)
        let v3117 : Int := (o_mat_Same_4 F)
        let v3118 : Int := (o_mat_Same_5 F)
        let v3119 : Int := (o_mat_Same_6 F)
        let v3120 : Int := (o_mat_Same_7 F)
        let v3121 : Int := (o_mat_Same_8 F)
        bif (ok_mat_Mul F v3113 v3114 v3115 v3116 v3117 v3118 v3119 v3120 v3121 a0 a1 a2 a3 a4 a5 a6 a7 a8) then (
          bif (ok_mat_Same F) then (
            let v3132 : Int := (o_mat_Same_0 F)
            let v3133 : Int := (o_mat_Same_1 F)
            let v3134 : Int := (o_mat_Same_2 F)
            let v3135 : Int := (o_mat_Same_3 F)
            let v3136 : Int := (o_mat_Same_4 F)
            let v3137 : Int := (o_mat_Same_5 F)
            let v3138 : Int := (o_mat_Same_6 F)
            let v3139 : Int := (o_mat_Same_7 F)
            let v3140 : Int := (o_mat_Same_8 F)
            bif (ok_mat_Mul F a0 a1 a2 a3 a4 a5 a6 a7 a8 v3132 v3133 v3134 v3135 v3136 v3137 v3138 v3139 v3140) then (
              bif (ok_mat_Same F) then (
                let v3151 : Int := (o_mat_Same_0 F)
                let v3152 : Int := (o_mat_Same_1 F)
                let v3153 : Int := (o_mat_Same_2 F)
                let v3154 : Int := (o_mat_Same_3 F)
                let v3155 : Int := (o_mat_Same_4 F)
                let v3156 : Int := (o_mat_Same_5 F)
                let v3157 : Int := (o_mat_Same_6 F)
                let v3158 : Int := (o_mat_Same_7 F)
                let v3159 : Int := (o_mat_Same_8 F)
                bif (ok_mat_Apply F v3151 v3152 v3153 v3154 v3155 v3156 v3157 v3158 v3159 a9 a10 a11) then (
                  bif (((((o_mat_Mul_0 F v3113 v3114 v3115 v3116 v3117 v3118 v3119 v3120 v3121 a0 a1 a2 a3 a4 a5 a6 a7 a8)) == a0) && ((((o_mat_Mul_1 F v3113 v3114 v3115 v3116 v3117 v3118 v3119 v3120 v3121 a0 a1 a2 a3 a4 a5 a6 a7 a8)) == a1) && ((((o_mat_Mul_2 F v3113 v3114 v3115 v3116 v3117 v3118 v3119 v3120 v3121 a0 a1 a2 a3 a4 a5 a6 a7 a8)) == a2) && ((((o_mat_Mul_3 F v3113 v3114 v3115 v3116 v3117 v3118 v3119 v3120 v3121 a0 a1 a2 a3 a4 a5 a6 a7 a8)) == a3) && ((((o_mat_Mul_4 F v3113 v3114 v3115 v3116 v3117 v3118 v3119 v3120 v3121 a0 a1 a2 a3 a4 a5 a6 a7 a8)) == a4) && ((((o_mat_Mul_5 F v3113 v3114 v3115 v3116 v3117 v3118 v3119 v3120 v3121 a0 a1 a2 a3 a4 a5 a6 a7 a8)) == a5) && ((((o_mat_Mul_6 F v3113 v3114 v3115 v3116 v3117 v3118 v3119 v3120 v3121 a0 a1 a2 a3 a4 a5 a6 a7 a8)) == a6) && ((((o_mat_Mul_7 F v3113 v3114 v3115 v3116 v3117 v3118 v3119 v3120 v3121 a0 a1 a2 a3 a4 a5 a6 a7 a8)) == a7) && (((o_mat_Mul_8 F v3113 v3114 v3115 v3116 v3117 v3118 v3119 v3120 v3121 a0 a1 a2 a3 a4 a5 a6 a7 a8)) == a8)))))))))) then (
                    bif (((((o_mat_Mul_0 F a0 a1 a2 a3 a4 a5 a6 a7 a8 v3132 v3133 v3134 v3135 v3136 v3137 v3138 v3139 v3140)) == a0) && ((((o_mat_Mul_1 F a0 a1 a2 a3 a4 a5 a6 a7 a8 v3132 v3133 v3134 v3135 v3136 v3137 v3138 v3139 v3140)) == a1) && ((((o_mat_Mul_2 F a0 a1 a2 a3 a4 a5 a6 a7 a8 v3132 v3133 v3134 v3135 v3136 v3137 v3138 v3139 v3140)) == a2) && ((((o_mat_Mul_3 F a0 a1 a2 a3 a4 a5 a6 a7 a8 v3132 v3133 v3134 v3135 v3136 v3137 v3138 v3139 v3140)) == a3) && ((((o_mat_Mul_4 F a0 a1 a2 a3 a4 a5 a6 a7 a8 v3132 v3133 v3134 v3135 v3136 v3137 v3138 v3139 v3140)) == a4) && ((((o_mat_Mul_5 F a0 a1 a2 a3 a4 a5 a6 a7 a8 v3132 v3133 v3134 v3135 v3136 v3137 v3138 v3139 v3140)) == a5) && ((((o_mat_Mul_6 F a0 a1 a2 a3 a4 a5 a6 a7 a8 v3132 v3133 v3134 v3135 v3136 v3137 v3138 v3139 v3140)) == a6) && ((((o_mat_Mul_7 F a0 a1 a2 a3 a4 a5 a6 a7 a8 v3132 v3133 v3134 v3135 v3136 v3137 v3138 v3139 v3140)) == a7) && (((o_mat_Mul_8 F a0 a1 a2 a3 a4 a5 a6 a7 a8 v3132 v3133 v3134 v3135 v3136 v3137 v3138 v3139 v3140)) == a8)))))))))) then (
                      bif (((((o_mat_Apply_0 F v3151 v3152 v3153 v3154 v3155 v3156 v3157 v3158 v3159 a9 a10 a11)) == a9) && ((((o_mat_Apply_1 F v3151 v3152 v3153 v3154 v3155 v3156 v3157 v3158 v3159 a9 a10 a11)) == a10) && (((o_mat_Apply_2 F v3151 v3152 v3153 v3154 v3155 v3156 v3157 v3158 v3159 a9 a10 a11)) == a11)))) then (
                        bif ((!((o_mat_Mul_9 F v3113 v3114 v3115 v3116 v3117 v3118 v3119 v3120 v3121 a0 a1 a2 a3 a4 a5 a6 a7 a8)))) then (
                          bif ((!((o_mat_Mul_9 F a0 a1 a2 a3 a4 a5 a6 a7 a8 v3132 v3133 v3134 v3135 v3136 v3137 v3138 v3139 v3140)))) then (
                            bif ((!((o_mat_Apply_3 F v3151 v3152 v3153 v3154 v3155 v3156 v3157 v3158 v3159 a9 a10 a11)))) then (
                              bif (ok_mat_Back F a0 a1 a2 a3 a4 a5 a6 a7 a8) then (
                                let v3170 : Int := (o_mat_Back_0 F a0 a1 a2 a3 a4 a5 a6 a7 a8)
                                let v3171 : Int := (o_mat_Back_1 F a0 a1 a2 a3 a4 a5 a6 a7 a8)
                                let v3172 : Int := (o_mat_Back_2 F a0 a1 a2 a3 a4 a5 a6 a7 a8)
                                let v3173 : Int := (o_mat_Back_3 F a0 a1 a2 a3 a4 a5 a6 a7 a8)
                                let v3174 : Int := (o_mat_Back_4 F a0 a1 a2 a3 a4 a5 a6 a7 a8)
                                let v3175 : Int := (o_mat_Back_5 F a0 a1 a2 a3 a4 a5 a6 a7 a8)
                                let v3176 : Int := (o_mat_Back_6 F a0 a1 a2 a3 a4 a5 a6 a7 a8)
                                let v3177 : Int := (o_mat_Back_7 F a0 a1 a2 a3 a4 a5 a6 a7 a8)
                                let v3178 : Int := (o_mat_Back_8 F a0 a1 a2 a3 a4 a5 a6 a7 a8)
                                bif (ok_mat_Back F v3170 v3171 v3172 v3173 v3174 v3175 v3176 v3177 v3178) then (
                                  some (.v (.bool (((((o_mat_Back_0 F v3170 v3171 v3172 v3173 v3174 v3175 v3176 v3177 v3178)) == a0) && ((((o_mat_Back_1 F v3170 v3171 v3172 v3173 v3174 v3175 v3176 v3177 v3178)) == a1) && ((((o_mat_Back_2 F v3170 v3171 v3172 v3173 v3174 v3175 v3176 v3177 v3178)) == a2) && ((((o_mat_Back_3 F v3170 v3171 v3172 v3173 v3174 v3175 v3176 v3177 v3178)) == a3) && ((((o_mat_Back_4 F v3170 v3171 v3172 v3173 v3174 v3175 v3176 v3177 v3178)) == a4) && ((((o_mat_Back_5 F v3170 v3171 v3172 v3173 v3174 v3175 v3176 v3177 v3178)) == a5) && ((((o_mat_Back_6 F v3170 v3171 v3172 v3173 v3174 v3175 v3176 v3177 v3178)) == a6) && ((((o_mat_Back_7 F v3170 v3171 v3172 v3173 v3174 v3175 v3176 v3177 v3178)) == a7) && (((o_mat_Back_8 F v3170 v3171 v3172 v3173 v3174 v3175 v3176 v3177 v3178)) == a8)))))))))))))
                                else (
                                  none))
                              else (
                                none))
                            else (
                              some (.v (.bool false))))
                          else (
                            some (.v (.bool false))))
                        else (
                          some (.v (.bool false))))
                      else (
                        some (.v (.bool false))))
                    else (
                      some (.v (.bool false))))
                  else (
                    some (.v (.bool false))))
                else (
                  none))
              else (
                none))
            else (
              none))
          else (
            none))
        else (
          none))
      else (
        none)))
  else (
    none)
theorem e_law07_MatSame (F : Nat) (a0 : Int) (a1 : Int) (a2 : Int) (a3 : Int) (a4 : Int) (a5 : Int) (a6 : Int) (a7 : Int) (a8 : Int) (a9 : Int) (a10 : Int) (a11 : Int) : funL PP (S_law07_MatSame F) c_law07_MatSame (I_law07_MatSame F) (J_law07_MatSame F) 16 (fTs ti_law07_MatSame [.i a0, .i a1, .i a2, .i a3, .i a4, .i a5, .i a6, .i a7, .i a8, .i a9, .i a10, .i a11]).1 = f_law07_MatSame F a0 a1 a2 a3 a4 a5 a6 a7 a8 a9 a10 a11 := by
  have h : ∀ (ok_law07_works : Nat → Bool) (o_law07_works_0 : Nat → Bool) (ok_mat_Same : Nat → Bool) (o_mat_Same_0 : Nat → Int) (o_mat_Same_1 : Nat → Int) (o_mat_Same_2 : Nat → Int) (o_mat_Same_3 : Nat → Int) (o_mat_Same_4 : Nat → Int) (o_mat_Same_5 : Nat → Int) (o_mat_Same_6 : Nat → Int) (o_mat_Same_7 : Nat → Int) (o_mat_Same_8 : Nat → Int) (ok_mat_Mul : Nat → Int → Int → Int → Int → Int → Int → Int → Int → Int → Int → Int → Int → Int → Int → Int → Int → Int → Int → Bool) (o_mat_Mul_0 : Nat → Int → Int → Int → Int → Int → Int → Int → Int → Int → Int → Int → Int → Int → Int → Int → Int → Int → Int → Int) (o_mat_Mul_1 : Nat → Int → Int → Int → Int → Int → Int → Int → Int → Int → Int → Int → Int → Int → Int → Int → Int → Int → Int → Int) (o_mat_Mul_2 : Nat → Int → Int → Int → Int → Int → Int → Int → Int → Int → Int → Int → Int → Int → Int → Int → Int → Int → Int → Int) (o_mat_Mul_3 : Nat → Int → Int → Int → Int → Int → Int → Int → Int → Int → Int → Int → Int → Int → Int → Int → Int → Int → Int → Int) (o_mat_Mul_4 : Nat → Int → Int → Int → Int → Int → Int → Int → Int → Int → Int → Int → Int → Int → Int → Int → Int → Int → Int → Int) (o_mat_Mul_5 : Nat → Int → Int → Int → Int → Int → Int → Int → Int → Int → Int → Int → Int → Int → Int → Int → Int → Int → Int → Int) (o_mat_Mul_6 : Nat → Int → Int → Int → Int → Int → Int → Int → Int → Int → Int → Int → Int → Int → Int → Int → Int → Int → Int → Int) (o_mat_Mul_7 : Nat → Int → Int → Int → Int → Int → Int → Int → Int → Int → Int → Int → Int → Int → Int → Int → Int → Int → Int → Int) (o_mat_Mul_8 : Nat → Int → Int → Int → Int → Int → Int → Int → Int → Int → Int → Int → Int → Int → Int → Int → Int → Int → Int → Int) (o_mat_Mul_9 : Nat → Int → Int → Int → Int → Int → Int → Int → Int → Int → Int → Int → Int → Int → Int → Int → Int → Int → Int → Bool) (ok_mat_Apply : Nat → Int → Int → Int → Int → Int → Int → Int → Int → Int → Int → Int → Int → Bool) (o_mat_Apply_0 : Nat → Int → Int → Int → Int → Int → Int → Int → Int → Int → Int → Int → Int → Int) (o_mat_Apply_1 : Nat → Int → Int → Int → Int → Int → Int → Int → Int → Int → Int → Int → Int → Int) (o_mat_Apply_2 : Nat → Int → Int → Int → Int → Int → Int → Int → Int → Int → Int → Int → Int → Int) (o_mat_Apply_3 : Nat → Int → Int → Int → Int → Int → Int → Int → Int → Int → Int → Int → Int → Bool) (ok_mat_Back : Nat → Int → Int → Int → Int → Int → Int → Int → Int → Int → Bool) (o_mat_Back_0 : Nat → Int → Int → Int → Int → Int → Int → Int → Int → Int → Int) (o_mat_Back_1 : Nat → Int → Int → Int → Int → Int → Int → Int → Int → Int → Int) (o_mat_Back_2 : Nat → Int → Int → Int → Int → Int → Int → Int → Int → Int → Int) (o_mat_Back_3 : Nat → Int → Int → Int → Int → Int → Int → Int → Int → Int → Int) (o_mat_Back_4 : Nat → Int → Int → Int → Int → Int → Int → Int → Int → Int → Int) (o_mat_Back_5 : Nat → Int → Int → Int → Int → Int → Int → Int → Int → Int → Int) (o_mat_Back_6 : Nat → Int → Int → Int → Int → Int → Int → Int → Int → Int → Int) (o_mat_Back_7 : Nat → Int → Int → Int → Int → Int → Int → Int → Int → Int → Int) (o_mat_Back_8 : Nat → Int → Int → Int → Int → Int → Int → Int → Int → Int → Int), funL PP (words [(46, spec ti_law07_works to_law07_works (fun q => (ok_law07_works F )) (fun q => [.b (o_law07_works_0 F )])), (57, spec ti_mat_Same to_mat_Same (fun q => (ok_mat_Same F )) (fun q => [.i (o_mat_Same_0 F ), .i (o_mat_Same_1 F ), .i (o_mat_Same_2 F ), .i (o_mat_Same_3 F ), .i (o_mat_Same_4 F ), .i (o_mat_Same_5 F ), .i (o_mat_Same_6 F ), .i (o_mat_Same_7 F ), .i (o_mat_Same_8 F )])), (51, spec ti_mat_Mul to_mat_Mul (fun q => (ok_mat_Mul F (atI (nth q 0)) (atI (nth q 1)) (atI (nth q 2)) (atI (nth q 3)) (atI (nth q 4)) (atI (nth q 5)) (atI (nth q 6)) (atI (nth q 7)) (atI (nth q 8)) (atI (nth q 9)) (atI (nth q 10)) (atI (nth q 11)) (atI (nth q 12)) (atI (nth q 13)) (atI (nth q 14)) (atI (nth q 15)) (atI (nth q 16)) (atI (nth q 17)))) (fun q => [.i (o_mat_Mul_0 F (atI (nth q 0)) (atI (nth q 1)) (atI (nth q 2)) (atI (nth q 3)) (atI (nth q 4)) (atI (nth q 5)) (atI (nth q 6)) (atI (nth q 7)) (atI (nth q 8)) (atI (nth q 9)) (atI (nth q 10)) (atI (nth q 11)) (atI (nth q 12)) (atI (nth q 13)) (atI (nth q 14)) (atI (nth q 15)) (atI (nth q 16)) (atI (nth q 17))), .i (o_mat_Mul_1 F (atI (nth q 0)) (atI (nth q 1)) (atI (nth q 2)) (atI (nth q 3)) (atI (nth q 4)) (atI (nth q 5)) (atI (nth q 6)) (atI (nth q 7)) (atI (nth q 8)) (atI (nth q 9)) (atI (nth q 10)) (atI (nth q 11)) (atI (nth q 12)) (atI (nth q 13)) (atI (nth q 14)) (atI (nth q 15)) (atI (nth q 16)) (atI (nth q 17))), .i (o_mat_Mul_2 F (atI (nth q 0)) (atI (nth q 1)) (atI (nth q 2)) (atI (nth q 3)) (atI (nth q 4)) (atI (nth q 5)) (atI (nth q 6)) (atI (nth q 7)) (atI (nth q 8)) (atI (nth q 9)) (atI (nth q 10)) (atI (nth q 11)) (atI (nth q 12)) (atI (nth q 13)) (atI (nth q 14)) (atI (nth q 15)) (atI (nth q 16)) (atI (nth q 17))), .i (o_mat_Mul_3 F (atI (nth q 0)) (atI (nth q 1)) (atI (nth q 2)) (atI (nth q 3)) (atI (nth q 4)) (atI (nth q 5)) (atI (nth q 6)) (atI (nth q 7)) (atI (nth q 8)) (atI (nth q 9)) (atI (nth q 10)) (atI (nth q 11)) (atI (nth q 12)) (atI (nth q 13)) (atI (nth q 14)) (atI (nth q 15)) (atI (nth q 16)) (atI (nth q 17))), .i (o_mat_Mul_4 F (atI (nth q 0)) (atI (nth q 1)) (atI (nth q 2)) (atI (nth q 3)) (atI (nth q 4)) (atI (nth q 5)) (atI (nth q 6)) (atI (nth q 7)) (atI (nth q 8)) (atI (nth q 9)) (atI (nth q 10)) (atI (nth q 11)) (atI (nth q 12)) (atI (nth q 13)) (atI (nth q 14)) (atI (nth q 15)) (atI (nth q 16)) (atI (nth q 17))), .i (o_mat_Mul_5 F (atI (nth q 0)) (atI (nth q 1)) (atI (nth q 2)) (atI (nth q 3)) (atI (nth q 4)) (atI (nth q 5)) (atI (nth q 6)) (atI (nth q 7)) (atI (nth q 8)) (atI (nth q 9)) (atI (nth q 10)) (atI (nth q 11)) (atI (nth q 12)) (atI (nth q 13)) (atI (nth q 14)) (atI (nth q 15)) (atI (nth q 16)) (atI (nth q 17))), .i (o_mat_Mul_6 F (atI (nth q 0)) (atI (nth q 1)) (atI (nth q 2)) (atI (nth q 3)) (atI (nth q 4)) (atI (nth q 5)) (atI (nth q 6)) (atI (nth q 7)) (atI (nth q 8)) (atI (nth q 9)) (atI (nth q 10)) (atI (nth q 11)) (atI (nth q 12)) (atI (nth q 13)) (atI (nth q 14)) (atI (nth q 15)) (atI (nth q 16)) (atI (nth q 17))), .i (o_mat_Mul_7 F (atI (nth q 0)) (atI (nth q 1)) (atI (nth q 2)) (atI (nth q 3)) (atI (nth q 4)) (atI (nth q 5)) (atI (nth q 6)) (atI (nth q 7)) (atI (nth q 8)) (atI (nth q 9)) (atI (nth q 10)) (atI (nth q 11)) (atI (nth q 12)) (atI (nth q 13)) (atI (nth q 14)) (atI (nth q 15)) (atI (nth q 16)) (atI (nth q 17))), .i (o_mat_Mul_8 F (atI (nth q 0)) (atI (nth q 1)) (atI (nth q 2)) (atI (nth q 3)) (atI (nth q 4)) (atI (nth q 5)) (atI (nth q 6)) (atI (nth q 7)) (atI (nth q 8)) (atI (nth q 9)) (atI (nth q 10)) (atI (nth q 11)) (atI (nth q 12)) (atI (nth q 13)) (atI (nth q 14)) (atI (nth q 15)) (atI (nth q 16)) (atI (nth q 17))), .b (o_mat_Mul_9 F (atI (nth q 0)) (atI (nth q 1)) (atI (nth q 2)) (atI (nth q 3)) (atI (nth q 4)) (atI (nth q 5)) (atI (nth q 6)) (atI (nth q 7)) (atI (nth q 8)) (atI (nth q 9)) (atI (nth q 10)) (atI (nth q 11)) (atI (nth q 12)) (atI (nth q 13)) (atI (nth q 14)) (atI (nth q 15)) (atI (nth q 16)) (atI (nth q 17)))])), (53, spec ti_mat_Apply to_mat_Apply (fun q => (ok_mat_Apply F (atI (nth q 0)) (atI (nth q 1)) (atI (nth q 2)) (atI (nth q 3)) (atI (nth q 4)) (atI (nth q 5)) (atI (nth q 6)) (atI (nth q 7)) (atI (nth q 8)) (atI (nth q 9)) (atI (nth q 10)) (atI (nth q 11)))) (fun q => [.i (o_mat_Apply_0 F (atI (nth q 0)) (atI (nth q 1)) (atI (nth q 2)) (atI (nth q 3)) (atI (nth q 4)) (atI (nth q 5)) (atI (nth q 6)) (atI (nth q 7)) (atI (nth q 8)) (atI (nth q 9)) (atI (nth q 10)) (atI (nth q 11))), .i (o_mat_Apply_1 F (atI (nth q 0)) (atI (nth q 1)) (atI (nth q 2)) (atI (nth q 3)) (atI (nth q 4)) (atI (nth q 5)) (atI (nth q 6)) (atI (nth q 7)) (atI (nth q 8)) (atI (nth q 9)) (atI (nth q 10)) (atI (nth q 11))), .i (o_mat_Apply_2 F (atI (nth q 0)) (atI (nth q 1)) (atI (nth q 2)) (atI (nth q 3)) (atI (nth q 4)) (atI (nth q 5)) (atI (nth q 6)) (atI (nth q 7)) (atI (nth q 8)) (atI (nth q 9)) (atI (nth q 10)) (atI (nth q 11))), .b (o_mat_Apply_3 F (atI (nth q 0)) (atI (nth q 1)) (atI (nth q 2)) (atI (nth q 3)) (atI (nth q 4)) (atI (nth q 5)) (atI (nth q 6)) (atI (nth q 7)) (atI (nth q 8)) (atI (nth q 9)) (atI (nth q 10)) (atI (nth q 11)))])), (55, spec ti_mat_Back to_mat_Back (fun q => (ok_mat_Back F (atI (nth q 0)) (atI (nth q 1)) (atI (nth q 2)) (atI (nth q 3)) (atI (nth q 4)) (atI (nth q 5)) (atI (nth q 6)) (atI (nth q 7)) (atI (nth q 8)))) (fun q => [.i (o_mat_Back_0 F (atI (nth q 0)) (atI (nth q 1)) (atI (nth q 2)) (atI (nth q 3)) (atI (nth q 4)) (atI (nth q 5)) (atI (nth q 6)) (atI (nth q 7)) (atI (nth q 8))), .i (o_mat_Back_1 F (atI (nth q 0)) (atI (nth q 1)) (atI (nth q 2)) (atI (nth q 3)) (atI (nth q 4)) (atI (nth q 5)) (atI (nth q 6)) (atI (nth q 7)) (atI (nth q 8))), .i (o_mat_Back_2 F (atI (nth q 0)) (atI (nth q 1)) (atI (nth q 2)) (atI (nth q 3)) (atI (nth q 4)) (atI (nth q 5)) (atI (nth q 6)) (atI (nth q 7)) (atI (nth q 8))), .i (o_mat_Back_3 F (atI (nth q 0)) (atI (nth q 1)) (atI (nth q 2)) (atI (nth q 3)) (atI (nth q 4)) (atI (nth q 5)) (atI (nth q 6)) (atI (nth q 7)) (atI (nth q 8))), .i (o_mat_Back_4 F (atI (nth q 0)) (atI (nth q 1)) (atI (nth q 2)) (atI (nth q 3)) (atI (nth q 4)) (atI (nth q 5)) (atI (nth q 6)) (atI (nth q 7)) (atI (nth q 8))), .i (o_mat_Back_5 F (atI (nth q 0)) (atI (nth q 1)) (atI (nth q 2)) (atI (nth q 3)) (atI (nth q 4)) (atI (nth q 5)) (atI (nth q 6)) (atI (nth q 7)) (atI (nth q 8))), .i (o_mat_Back_6 F (atI (nth q 0)) (atI (nth q 1)) (atI (nth q 2)) (atI (nth q 3)) (atI (nth q 4)) (atI (nth q 5)) (atI (nth q 6)) (atI (nth q 7)) (atI (nth q 8))), .i (o_mat_Back_7 F (atI (nth q 0)) (atI (nth q 1)) (atI (nth q 2)) (atI (nth q 3)) (atI (nth q 4)) (atI (nth q 5)) (atI (nth q 6)) (atI (nth q 7)) (atI (nth q 8))), .i (o_mat_Back_8 F (atI (nth q 0)) (atI (nth q 1)) (atI (nth q 2)) (atI (nth q 3)) (atI (nth q 4)) (atI (nth q 5)) (atI (nth q 6)) (atI (nth q 7)) (atI (nth q 8)))]))]) c_law07_MatSame (tabI c_law07_MatSame []) (tabJ []) 16 (fTs ti_law07_MatSame [.i a0, .i a1, .i a2, .i a3, .i a4, .i a5, .i a6, .i a7, .i a8, .i a9, .i a10, .i a11]).1 = (
  bif (ok_law07_works F) then (
    bif ((!((o_law07_works_0 F)))) then (
      some (.v (.bool false)))
    else (
      bif (ok_mat_Same F) then (
        let v3113 : Int := (o_mat_Same_0 F)
        let v3114 : Int := (o_mat_Same_1 F)
        let v3115 : Int := (o_mat_Same_2 F)
        let v3116 : Int := (o_mat_Same_3 F)
        let v3117 : Int := (o_mat_Same_4 F)
        let v3118 : Int := (o_mat_Same_5 F)
        let v3119 : Int := (o_mat_Same_6 F)
        let v3120 : Int := (o_mat_Same_7 F)
        let v3121 : Int := (o_mat_Same_8 F)
        bif (ok_mat_Mul F v3113 v3114 v3115 v3116 v3117 v3118 v3119 v3120 v3121 a0 a1 a2 a3 a4 a5 a6 a7 a8) then (
          bif (ok_mat_Same F) then (
            let v3132 : Int := (o_mat_Same_0 F)
            let v3133 : Int := (o_mat_Same_1 F)
            let v3134 : Int := (o_mat_Same_2 F)
            let v3135 : Int := (o_mat_Same_3 F)
            let v3136 : Int := (o_mat_Same_4 F)
            let v3137 : Int := (o_mat_Same_5 F)
            let v3138 : Int := (o_mat_Same_6 F)
            let v3139 : Int := (o_mat_Same_7 F)
            let v3140 : Int := (o_mat_Same_8 F)
            bif (ok_mat_Mul F a0 a1 a2 a3 a4 a5 a6 a7 a8 v3132 v3133 v3134 v3135 v3136 v3137 v3138 v3139 v3140) then (
              bif (ok_mat_Same F) then (
                let v3151 : Int := (o_mat_Same_0 F)
                let v3152 : Int := (o_mat_Same_1 F)
                let v3153 : Int := (o_mat_Same_2 F)
                let v3154 : Int := (o_mat_Same_3 F)
                let v3155 : Int := (o_mat_Same_4 F)
                let v3156 : Int := (o_mat_Same_5 F)
                let v3157 : Int := (o_mat_Same_6 F)
                let v3158 : Int := (o_mat_Same_7 F)
                let v3159 : Int := (o_mat_Same_8 F)
                bif (ok_mat_Apply F v3151 v3152 v3153 v3154 v3155 v3156 v3157 v3158 v3159 a9 a10 a11) then (
                  bif (((((o_mat_Mul_0 F v3113 v3114 v3115 v3116 v3117 v3118 v3119 v3120 v3121 a0 a1 a2 a3 a4 a5 a6 a7 a8)) == a0) && ((((o_mat_Mul_1 F v3113 v3114 v3115 v3116 v3117 v3118 v3119 v3120 v3121 a0 a1 a2 a3 a4 a5 a6 a7 a8)) == a1) && ((((o_mat_Mul_2 F v3113 v3114 v3115 v3116 v3117 v3118 v3119 v3120 v3121 a0 a1 a2 a3 a4 a5 a6 a7 a8)) == a2) && ((((o_mat_Mul_3 F v3113 v3114 v3115 v3116 v3117 v3118 v3119 v3120 v3121 a0 a1 a2 a3 a4 a5 a6 a7 a8)) == a3) && ((((o_mat_Mul_4 F v3113 v3114 v3115 v3116 v3117 v3118 v3119 v3120 v3121 a0 a1 a2 a3 a4 a5 a6 a7 a8)) == a4) && ((((o_mat_Mul_5 F v3113 v3114 v3115 v3116 v3117 v3118 v3119 v3120 v3121 a0 a1 a2 a3 a4 a5 a6 a7 a8)) == a5) && ((((o_mat_Mul_6 F v3113 v3114 v3115 v3116 v3117 v3118 v3119 v3120 v3121 a0 a1 a2 a3 a4 a5 a6 a7 a8)) == a6) && ((((o_mat_Mul_7 F v3113 v3114 v3115 v3116 v3117 v3118 v3119 v3120 v3121 a0 a1 a2 a3 a4 a5 a6 a7 a8)) == a7) && (((o_mat_Mul_8 F v3113 v3114 v3115 v3116 v3117 v3118 v3119 v3120 v3121 a0 a1 a2 a3 a4 a5 a6 a7 a8)) == a8)))))))))) then (
                    bif (((((o_mat_Mul_0 F a0 a1 a2 a3 a4 a5 a6 a7 a8 v3132 v3133 v3134 v3135 v3136 v3137 v3138 v3139 v3140)) == a0) && ((((o_mat_Mul_1 F a0 a1 a2 a3 a4 a5 a6 a7 a8 v3132 v3133 v3134 v3135 v3136 v3137 v3138 v3139 v3140)) == a1) && ((((o_mat_Mul_2 F a0 a1 a2 a3 a4 a5 a6 a7 a8 v3132 v3133 v3134 v3135 v3136 v3137 v3138 v3139 v3140)) == a2) && ((((o_mat_Mul_3 F a0 a1 a2 a3 a4 a5 a6 a7 a8 v3132 v3133 v3134 v3135 v3136 v3137 v3138 v3139 v3140)) == a3) && ((((o_mat_Mul_4 F a0 a1 a2 a3 a4 a5 a6 a7 a8 v3132 v3133 v3134 v3135 v3136 v3137 v3138 v3139 v3140)) == a4) && ((((o_mat_Mul_5 F a0 a1 a2 a3 a4 a5 a6 a7 a8 v3132 v3133 v3134 v3135 v3136 v3137 v3138 v3139 v3140)) == a5) && ((((o_mat_Mul_6 F a0 a1 a2 a3 a4 a5 a6 a7 a8 v3132 v3133 v3134 v3135 v3136 v3137 v3138 v3139 v3140)) == a6) && ((((o_mat_Mul_7 F a0 a1 a2 a3 a4 a5 a6 a7 a8 v3132 v3133 v3134 v3135 v3136 v3137 v3138 v3139 v3140)) == a7) && (((o_mat_Mul_8 F a0 a1 a2 a3 a4 a5 a6 a7 a8 v3132 v3133 v3134 v3135 v3136 v3137 v3138 v3139 v3140)) == a8)))))))))) then (
                      bif (((((o_mat_Apply_0 F v3151 v3152 v3153 v3154 v3155 v3156 v3157 v3158 v3159 a9 a10 a11)) == a9) && ((((o_mat_Apply_1 F v3151 v3152 v3153 v3154 v3155 v3156 v3157 v3158 v3159 a9 a10 a11)) == a10) && (((o_mat_Apply_2 F v3151 v3152 v3153 v3154 v3155 v3156 v3157 v3158 v3159 a9 a10 a11)) == a11)))) then (
                        bif ((!((o_mat_Mul_9 F v3113 v3114 v3115 v3116 v3117 v3118 v3119 v3120 v3121 a0 a1 a2 a3 a4 a5 a6 a7 a8)))) then (
                          bif ((!((o_mat_Mul_9 F a0 a1 a2 a3 a4 a5 a6 a7 a8 v3132 v3133 v3134 v3135 v3136 v3137 v3138 v3139 v3140)))) then (
                            bif ((!((o_mat_Apply_3 F v3151 v3152 v3153 v3154 v3155 v3156 v3157 v3158 v3159 a9 a10 a11)))) then (
                              bif (ok_mat_Back F a0 a1 a2 a3 a4 a5 a6 a7 a8) then (
                                let v3170 : Int := (o_mat_Back_0 F a0 a1 a2 a3 a4 a5 a6 a7 a8)
                                let v3171 : Int := (o_mat_Back_1 F a0 a1 a2 a3 a4 a5 a6 a7 a8)
                                let v3172 : Int := (o_mat_Back_2 F a0 a1 a2 a3 a4 a5 a6 a7 a8)
                                let v3173 : Int := (o_mat_Back_3 F a0 a1 a2 a3 a4 a5 a6 a7 a8)
                                let v3174 : Int := (o_mat_Back_4 F a0 a1 a2 a3 a4 a5 a6 a7 a8)
                                let v3175 : Int := (o_mat_Back_5 F a0 a1 a2 a3 a4 a5 a6 a7 a8)
                                let v3176 : Int := (o_mat_Back_6 F a0 a1 a2 a3 a4 a5 a6 a7 a8)
                                let v3177 : Int := (o_mat_Back_7 F a0 a1 a2 a3 a4 a5 a6 a7 a8)
                                let v3178 : Int := (o_mat_Back_8 F a0 a1 a2 a3 a4 a5 a6 a7 a8)
                                bif (ok_mat_Back F v3170 v3171 v3172 v3173 v3174 v3175 v3176 v3177 v3178) then (
                                  some (.v (.bool (((((o_mat_Back_0 F v3170 v3171 v3172 v3173 v3174 v3175 v3176 v3177 v3178)) == a0) && ((((o_mat_Back_1 F v3170 v3171 v3172 v3173 v3174 v3175 v3176 v3177 v3178)) == a1) && ((((o_mat_Back_2 F v3170 v3171 v3172 v3173 v3174 v3175 v3176 v3177 v3178)) == a2) && ((((o_mat_Back_3 F v3170 v3171 v3172 v3173 v3174 v3175 v3176 v3177 v3178)) == a3) && ((((o_mat_Back_4 F v3170 v3171 v3172 v3173 v3174 v3175 v3176 v3177 v3178)) == a4) && ((((o_mat_Back_5 F v3170 v3171 v3172 v3173 v3174 v3175 v3176 v3177 v3178)) == a5) && ((((o_mat_Back_6 F v3170 v3171 v3172 v3173 v3174 v3175 v3176 v3177 v3178)) == a6) && ((((o_mat_Back_7 F v3170 v3171 v3172 v3173 v3174 v3175 v3176 v3177 v3178)) == a7) && (((o_mat_Back_8 F v3170 v3171 v3172 v3173 v3174 v3175 v3176 v3177 v3178)) == a8)))))))))))))
                                else (
                                  none))
                              else (
                                none))
                            else (
                              some (.v (.bool false))))
                          else (
                            some (.v (.bool false))))
                        else (
                          some (.v (.bool false))))
                      else (
                        some (.v (.bool false))))
                    else (
                      some (.v (.bool false))))
                  else (
                    some (.v (.bool false))))
                else (
                  none))
              else (
                none))
            else (
              none))
          else (
            none))
        else (
          none))
      else (
        none)))
  else (
    none) : R) := by
    intros
    kernel_rfl
  exact (h ok_law07_works o_law07_works_0 ok_mat_Same o_mat_Same_0 o_mat_Same_1 o_mat_Same_2 o_mat_Same_3 o_mat_Same_4 o_mat_Same_5 o_mat_Same_6 o_mat_Same_7 o_mat_Same_8 ok_mat_Mul o_mat_Mul_0 o_mat_Mul_1 o_mat_Mul_2 o_mat_Mul_3 o_mat_Mul_4 o_mat_Mul_5 o_mat_Mul_6 o_mat_Mul_7 o_mat_Mul_8 o_mat_Mul_9 ok_mat_Apply o_mat_Apply_0 o_mat_Apply_1 o_mat_Apply_2 o_mat_Apply_3 ok_mat_Back o_mat_Back_0 o_mat_Back_1 o_mat_Back_2 o_mat_Back_3 o_mat_Back_4 o_mat_Back_5 o_mat_Back_6 o_mat_Back_7 o_mat_Back_8).trans (by kernel_rfl)
def ok_law07_MatSame (F : Nat) (a0 : Int) (a1 : Int) (a2 : Int) (a3 : Int) (a4 : Int) (a5 : Int) (a6 : Int) (a7 : Int) (a8 : Int) (a9 : Int) (a10 : Int) (a11 : Int) : Bool := okT to_law07_MatSame (f_law07_MatSame F a0 a1 a2 a3 a4 a5 a6 a7 a8 a9 a10 a11)
def o_law07_MatSame_0 (F : Nat) (a0 : Int) (a1 : Int) (a2 : Int) (a3 : Int) (a4 : Int) (a5 : Int) (a6 : Int) (a7 : Int) (a8 : Int) (a9 : Int) (a10 : Int) (a11 : Int) : Bool := atB (nth (outT to_law07_MatSame (f_law07_MatSame F a0 a1 a2 a3 a4 a5 a6 a7 a8 a9 a10 a11)) 0)
theorem k_law07_MatSame (F : Nat) (a0 : Int) (a1 : Int) (a2 : Int) (a3 : Int) (a4 : Int) (a5 : Int) (a6 : Int) (a7 : Int) (a8 : Int) (a9 : Int) (a10 : Int) (a11 : Int) {z0 : Bool} (h : f_law07_MatSame F a0 a1 a2 a3 a4 a5 a6 a7 a8 a9 a10 a11 = some (.v (.bool z0))) : ok_law07_MatSame F a0 a1 a2 a3 a4 a5 a6 a7 a8 a9 a10 a11 = true ∧ o_law07_MatSame_0 F a0 a1 a2 a3 a4 a5 a6 a7 a8 a9 a10 a11 = z0 := by
  refine ⟨?_, ?_⟩
  · unfold ok_law07_MatSame; rw [h]; kernel_rfl
  · unfold o_law07_MatSame_0; rw [h]; kernel_rfl
def s_law07_MatSame (F : Nat) : List VV → Option (Bool × VV) := spec ti_law07_MatSame to_law07_MatSame (fun q => (ok_law07_MatSame F (atI (nth q 0)) (atI (nth q 1)) (atI (nth q 2)) (atI (nth q 3)) (atI (nth q 4)) (atI (nth q 5)) (atI (nth q 6)) (atI (nth q 7)) (atI (nth q 8)) (atI (nth q 9)) (atI (nth q 10)) (atI (nth q 11)))) (fun q => [.b (o_law07_MatSame_0 F (atI (nth q 0)) (atI (nth q 1)) (atI (nth q 2)) (atI (nth q 3)) (atI (nth q 4)) (atI (nth q 5)) (atI (nth q 6)) (atI (nth q 7)) (atI (nth q 8)) (atI (nth q 9)) (atI (nth q 10)) (atI (nth q 11)))])
theorem hS_law07_MatSame (F : Nat) : ∀ f, Good PP f (unS (S_law07_MatSame F f)) := words_good fun p hp => by
  simp only [List.mem_cons, List.not_mem_nil, or_false] at hp
  rcases hp with rfl | rfl | rfl | rfl | rfl
  · exact g_law07_works F
  · exact g_mat_Same F
  · exact g_mat_Mul F
  · exact g_mat_Apply F
  · exact g_mat_Back F
theorem hl_law07_MatSame (F : Nat) : ∀ p ∈ loopsIn PP 16, LoopOK PP (S_law07_MatSame F) c_law07_MatSame F (I_law07_MatSame F) (J_law07_MatSame F) p :=
  loops_of [] (by kernel_rfl) all_nil
theorem hj_law07_MatSame (F : Nat) : ∀ p ∈ joinsIn PP c_law07_MatSame 16, JoinOK PP (S_law07_MatSame F) c_law07_MatSame (I_law07_MatSame F) (J_law07_MatSame F) p :=
  joins_of [] (by kernel_rfl) all_nil
theorem g_law07_MatSame (F : Nat) : Good PP 16 (unS (s_law07_MatSame F)) :=
  fun_spec (hS_law07_MatSame F) (by kernel_rfl) (by kernel_rfl) (C := c_law07_MatSame) (F := fun q => (f_law07_MatSame F (atI (nth q 0)) (atI (nth q 1)) (atI (nth q 2)) (atI (nth q 3)) (atI (nth q 4)) (atI (nth q 5)) (atI (nth q 6)) (atI (nth q 7)) (atI (nth q 8)) (atI (nth q 9)) (atI (nth q 10)) (atI (nth q 11)))) (fun _ => F) (fun _ => I_law07_MatSame F) (fun _ => J_law07_MatSame F) (fun _ => hl_law07_MatSame F) (fun _ => hj_law07_MatSame F)
    (fun q => (congrArg (funL PP (S_law07_MatSame F) c_law07_MatSame (I_law07_MatSame F) (J_law07_MatSame F) 16) (show (fTs ti_law07_MatSame q).1 = (fTs ti_law07_MatSame [.i (atI (nth q 0)), .i (atI (nth q 1)), .i (atI (nth q 2)), .i (atI (nth q 3)), .i (atI (nth q 4)), .i (atI (nth q 5)), .i (atI (nth q 6)), .i (atI (nth q 7)), .i (atI (nth q 8)), .i (atI (nth q 9)), .i (atI (nth q 10)), .i (atI (nth q 11))]).1 by kernel_rfl)).trans (e_law07_MatSame F (atI (nth q 0)) (atI (nth q 1)) (atI (nth q 2)) (atI (nth q 3)) (atI (nth q 4)) (atI (nth q 5)) (atI (nth q 6)) (atI (nth q 7)) (atI (nth q 8)) (atI (nth q 9)) (atI (nth q 10)) (atI (nth q 11))))
    (fun _ h => (okT_fill h).trans (congrArg some (by kernel_rfl)))

end Go.Xv
namespace Go.Xv
theorem p2pos (n : Nat) : (0 : Int) < 2 ^ n := Int.pow_pos (by decide)
theorem p2add (a b : Nat) : (2 : Int) ^ a * 2 ^ b = 2 ^ (a + b) := (Int.pow_add 2 a b).symm
theorem p2_64 {m : Nat} (h : m ≤ 64) : (2 : Int) ^ m * 2 ^ (64 - m) = 18446744073709551616 := by
  rw [p2add, show m + (64 - m) = 64 by omega]; decide
theorem p2cast (k : Nat) : ((2 ^ k : Nat) : Int) = 2 ^ k := by push_cast; rfl
theorem or_comm_u64 (a b : Int) : orI .u64 a b = orI .u64 b a := by rw [or_u64_bv, or_u64_bv, BitVec.or_comm]
theorem div_I64 {h P : Int} (hh : I64 h) (hP : 0 < P) : I64 (h / P) := by
  unfold I64 at *
  rcases Int.lt_or_le h 0 with hn | hn
  · constructor
    · rw [Int.le_ediv_iff_mul_le hP]
      have : -9223372036854775808 * P ≤ -9223372036854775808 * 1 := Int.mul_le_mul_of_nonpos_left (by omega) (by omega)
      omega
    · have := Int.ediv_neg_of_neg_of_pos hn hP
      omega
  · have h1 := Int.ediv_nonneg hn (Int.le_of_lt hP)
    have h2 := Int.ediv_le_self P hn
    omega
theorem emod_mul {a P Q : Int} (hP : 0 < P) : (a * P) % (P * Q) = (a % Q) * P := by
  rw [Int.mul_comm a P, Int.mul_emod_mul_of_pos _ _ hP, Int.mul_comm]

/-- a shift to the right by less than a half, put together of both halves. -/
theorem shr_small {h l : Int} {m : Nat} (hh : I64 h) (hl : U64 l) (hm : m < 64) :
    h / 2 ^ m = hi (val h l / 2 ^ m) ∧ orI .u64 (l / 2 ^ m) (((h % 18446744073709551616) * 2 ^ (64 - m)) % 18446744073709551616) = lo (val h l / 2 ^ m) := by
  have hP := p2pos m
  have hQ := p2pos (64 - m)
  have hPQ := p2_64 (m := m) (by omega)
  have hI := div_I64 hh hP
  have eP : ((2 ^ (64 - m) : Nat) : Int) = 2 ^ (64 - m) := p2cast _
  have orq := fun a b => or_add_u64 (64 - m) (a := a) (b := b)
  rw [eP] at orq
  generalize (2 : Int) ^ m = P at *
  generalize (2 : Int) ^ (64 - m) = Q at *
  have hv : val h l / P = h * Q + l / P := by
    unfold val
    rw [← hPQ, show h * (P * Q) + l = l + h * Q * P by rw [Int.mul_comm P Q, ← Int.mul_assoc]; omega, Int.add_mul_ediv_right _ _ (by omega)]
    omega
  have hlP : 0 ≤ l / P ∧ l / P < Q := by
    unfold U64 at hl
    refine ⟨Int.ediv_nonneg hl.1 (by omega), Int.ediv_lt_of_lt_mul hP ?_⟩
    rw [Int.mul_comm]; omega
  have h64 : (0 : Int) < 18446744073709551616 := by decide
  have hdd : (h * Q + l / P) / 18446744073709551616 = h / P := by
    rw [← hPQ, Int.mul_comm P Q, ← Int.ediv_ediv_of_nonneg (by omega), show h * Q + l / P = l / P + h * Q by omega, Int.add_mul_ediv_right _ _ (by omega), Int.ediv_eq_zero_of_lt hlP.1 hlP.2]
    simp
  rw [hv]
  constructor
  · unfold hi
    rw [hdd]
    unfold I64 at hI
    omega
  · have e1 : ((h % 18446744073709551616) * Q) % 18446744073709551616 = (h % P) * Q := by
      rw [← hPQ, Int.mul_comm P Q, emod_mul hQ, Int.mul_comm Q P, Int.emod_emod_of_dvd h (Int.dvd_mul_right P Q)]
    have b1 := Int.emod_nonneg h (show P ≠ 0 by omega)
    have b2 := Int.emod_lt_of_pos h hP
    have b3 : (h % P) * Q + l / P < 18446744073709551616 := by
      have : (h % P) * Q ≤ (P - 1) * Q := Int.mul_le_mul_of_nonneg_right (by omega) (by omega)
      rw [Int.sub_mul] at this
      omega
    have b4 := Int.mul_nonneg b1 (show 0 ≤ Q by omega)
    rw [e1, or_comm_u64, orq _ _ b1 hlP.1 hlP.2 b3]
    unfold lo
    have e2 : (h * Q) % 18446744073709551616 = (h % P) * Q := by rw [← hPQ, Int.mul_comm P Q, emod_mul hQ]
    omega

theorem shr_great {h l : Int} {m : Nat} (hl : U64 l) (hm : 64 ≤ m) : h / 2 ^ (m - 64) = val h l / 2 ^ m := by
  have e : (2 : Int) ^ m = 18446744073709551616 * 2 ^ (m - 64) := by
    rw [show (18446744073709551616 : Int) = 2 ^ 64 by decide, p2add, show 64 + (m - 64) = m by omega]
  rw [e, ← Int.ediv_ediv_of_nonneg (by decide)]
  congr 1
  unfold val
  unfold U64 at hl
  omega

end Go.Xv
namespace Go.Xv
/-- one bit of a number -/
def dg (z : Int) (i : Nat) : Int := z / 2 ^ i % 2
def ds (z : Int) (n : Nat) : List VV := (List.range n).map fun i => .v (.int .i64 (dg z i))
theorem p2mono {a b : Nat} (h : a ≤ b) : (2 : Int) ^ a ≤ 2 ^ b := by
  rw [show b = a + (b - a) by omega, ← p2add]
  have h1 := p2pos a
  have h2 := p2pos (b - a)
  have : (2 : Int) ^ a * 1 ≤ 2 ^ a * 2 ^ (b - a) := Int.mul_le_mul_of_nonneg_left (by omega) (by omega)
  omega
end Go.Xv
namespace Go.Xv
def angs : List Int := [536870912, 316933406, 167458907, 85004756, 42667331, 21354465, 10679838, 5340245, 2670163, 1335087, 667544, 333772, 166886, 83443, 41722, 20861, 10430, 5215, 2608, 1304, 652, 326, 163, 81, 41, 20, 10, 5, 3, 1]
def tA (i : Nat) : Int := angs.getD i 0
theorem tA_bd : ∀ i, i < 30 → 1 ≤ tA i ∧ tA i ≤ 536870912 := by decide
theorem ediv_bd {y B : Int} (h : -B ≤ y ∧ y ≤ B) (i : Nat) : -B ≤ y / 2 ^ i ∧ y / 2 ^ i ≤ B := by
  have hP := p2pos i
  generalize (2 : Int) ^ i = P at *
  rcases Int.lt_or_le y 0 with hn | hn
  · constructor
    · rw [Int.le_ediv_iff_mul_le hP]
      have : -B * P ≤ -B * 1 := Int.mul_le_mul_of_nonpos_left (by omega) (by omega)
      omega
    · have := Int.ediv_neg_of_neg_of_pos hn hP
      omega
  · have h1 := Int.ediv_nonneg hn (Int.le_of_lt hP)
    have h2 := Int.ediv_le_self P hn
    omega
def rotX (i : Nat) (o : Bool) (x y : Int) : Int := if o then x - y / 2 ^ i else x + y / 2 ^ i
def rotY (i : Nat) (o : Bool) (x y : Int) : Int := if o then y + x / 2 ^ i else y - x / 2 ^ i
theorem rot_bd {x y B : Int} (hx : -B ≤ x ∧ x ≤ B) (hy : -B ≤ y ∧ y ≤ B) (i : Nat) (o : Bool) : (-(2 * B) ≤ rotX i o x y ∧ rotX i o x y ≤ 2 * B) ∧ (-(2 * B) ≤ rotY i o x y ∧ rotY i o x y ≤ 2 * B) := by
  have h1 := ediv_bd hx i
  have h2 := ediv_bd hy i
  unfold rotX rotY
  cases o
  · simp only [Bool.false_eq_true, if_false]; omega
  · simp only [if_true]; omega
/-- sine and cosine, step by step: both parts, and what is left -/
def bS (z : Int) : Nat → Int × Int × Int
  | 0 => (2608131496, 0, z)
  | i + 1 => (rotX i (decide (0 ≤ (bS z i).2.2)) (bS z i).1 (bS z i).2.1, rotY i (decide (0 ≤ (bS z i).2.2)) (bS z i).1 (bS z i).2.1, if 0 ≤ (bS z i).2.2 then (bS z i).2.2 - tA i else (bS z i).2.2 + tA i)
theorem bS_bd (z : Int) : ∀ i, (-(2608131496 * 2 ^ i) ≤ (bS z i).1 ∧ (bS z i).1 ≤ 2608131496 * 2 ^ i) ∧ (-(2608131496 * 2 ^ i) ≤ (bS z i).2.1 ∧ (bS z i).2.1 ≤ 2608131496 * 2 ^ i)
  | 0 => by simp [bS]
  | i + 1 => by
    obtain ⟨h1, h2⟩ := bS_bd z i
    have := rot_bd h1 h2 i (decide (0 ≤ (bS z i).2.2))
    have e : (2608131496 : Int) * 2 ^ (i + 1) = 2 * (2608131496 * 2 ^ i) := by rw [Int.pow_succ]; omega
    rw [e]
    exact this
theorem bS_I (z : Int) {i : Nat} (h : i ≤ 30) : (-4611686018427387904 ≤ (bS z i).1 ∧ (bS z i).1 ≤ 4611686018427387904) ∧ (-4611686018427387904 ≤ (bS z i).2.1 ∧ (bS z i).2.1 ≤ 4611686018427387904) := by
  have h1 := bS_bd z i
  have h2 : (2608131496 : Int) * 2 ^ i ≤ 2608131496 * 2 ^ 30 := Int.mul_le_mul_of_nonneg_left (p2mono h) (by decide)
  have h3 : (2608131496 : Int) * 2 ^ 30 ≤ 4611686018427387904 := by decide
  omega
theorem bS_z {z : Int} (hz : 0 ≤ z ∧ z < 1073741824) : ∀ {i : Nat}, i ≤ 30 → -(1073741824 + 536870912 * (i : Int)) ≤ (bS z i).2.2 ∧ (bS z i).2.2 ≤ 1073741824 + 536870912 * (i : Int)
  | 0, _ => by simp only [bS]; omega
  | i + 1, h => by
    have ih := bS_z hz (i := i) (by omega)
    have := tA_bd i (by omega)
    simp only [bS]
    push_cast
    split <;> omega
def cl01 (x : Int) : Int := min (max x 0) 4294967296
theorem cl01_bd (x : Int) : 0 ≤ cl01 x ∧ cl01 x ≤ 4294967296 := by unfold cl01; omega
def bC (a : Int) : Int := cl01 (bS (a % 1073741824) 30).1
def bN (a : Int) : Int := cl01 (bS (a % 1073741824) 30).2.1
/-- cosine and sine -/
def bothC (a : Int) : Int := if a / 1073741824 = 0 then bC a else if a / 1073741824 = 1 then -bN a else if a / 1073741824 = 2 then -bC a else bN a
def bothS (a : Int) : Int := if a / 1073741824 = 0 then bN a else if a / 1073741824 = 1 then bC a else if a / 1073741824 = 2 then -bN a else -bC a
theorem both_bd (a : Int) : (-4294967296 ≤ bothC a ∧ bothC a ≤ 4294967296) ∧ (-4294967296 ≤ bothS a ∧ bothS a ≤ 4294967296) := by
  have h1 := cl01_bd (bS (a % 1073741824) 30).1
  have h2 := cl01_bd (bS (a % 1073741824) 30).2.1
  unfold bothC bothS bC bN
  constructor <;> (repeat' split) <;> omega
end Go.Xv
namespace Go.Xv
theorem bp {α : Type} {c : Bool} {a b x : α} (h : c = true) (h2 : a = x) : (bif c then a else b) = x := by rw [h]; exact h2
theorem bn {α : Type} {c : Bool} {a b x : α} (h : c = false) (h2 : b = x) : (bif c then a else b) = x := by rw [h]; exact h2
theorem dt {p : Prop} [Decidable p] (h : p) : decide p = true := decide_eq_true h
theorem df {p : Prop} [Decidable p] (h : ¬ p) : decide p = false := decide_eq_false h
theorem fdiv_pos (a : Int) {b : Int} (h : 0 ≤ b) : Int.fdiv a b = a / b := Int.fdiv_eq_ediv_of_nonneg a h
theorem some_int {k : IntKind} {a b : Int} (h : a = b) : (some (VV.v (.int k a)) : R) = some (.v (.int k b)) := by rw [h]
theorem some_wd {a b : Int} {z : Int} (h : a = hi z) (k : b = lo z) : (some (VV.v (.agg #[.int .i64 a, .int .u64 b])) : R) = some (wd z) := by rw [h, k]; rfl

theorem f_bare (F : Nat) {a : Int} (h : I64 a) : f_wide_bare F a = some (.v (.int .u64 (if a < 0 then -a else a))) := by
  unfold f_wide_bare
  unfold I64 at h
  by_cases h0 : a < 0
  · refine bp (dt h0) (some_int ?_)
    rw [if_pos h0, wu64, wu64]; omega
  · refine bn (df h0) (some_int ?_)
    rw [if_neg h0, wu64]; omega

theorem f_product (F : Nat) {a b : Int} (ha : U64 a) (hb : U64 b) : f_wide_product F a b = some (wd (a * b)) := by
  unfold f_wide_product
  unfold U64 at ha hb
  have ea : a = a / 4294967296 * 4294967296 + a % 4294967296 := by omega
  have eb : b = b / 4294967296 * 4294967296 + b % 4294967296 := by omega
  have hp : 0 ≤ a / 4294967296 ∧ a / 4294967296 ≤ 4294967295 := by omega
  have hq : 0 ≤ a % 4294967296 ∧ a % 4294967296 ≤ 4294967295 := by omega
  have hr : 0 ≤ b / 4294967296 ∧ b / 4294967296 ≤ 4294967295 := by omega
  have hs : 0 ≤ b % 4294967296 ∧ b % 4294967296 ≤ 4294967295 := by omega
  have hab : a * b = (a / 4294967296) * (b / 4294967296) * 18446744073709551616 + ((a / 4294967296) * (b % 4294967296) + (a % 4294967296) * (b / 4294967296)) * 4294967296 + (a % 4294967296) * (b % 4294967296) := by
    generalize a / 4294967296 = p at *
    generalize a % 4294967296 = q at *
    generalize b / 4294967296 = r at *
    generalize b % 4294967296 = s at *
    subst ea eb
    simp only [Int.add_mul, Int.mul_add]
    have : p * 4294967296 * (r * 4294967296) = p * r * 18446744073709551616 := by
      rw [show (18446744073709551616 : Int) = 4294967296 * 4294967296 by decide]
      simp only [Int.mul_comm, Int.mul_assoc, Int.mul_left_comm]
    have : p * 4294967296 * s = p * s * 4294967296 := by simp only [Int.mul_comm, Int.mul_assoc, Int.mul_left_comm]
    have : q * (r * 4294967296) = q * r * 4294967296 := by simp only [Int.mul_assoc]
    omega
  have bd : ∀ x y : Int, (0 ≤ x ∧ x ≤ 4294967295) → (0 ≤ y ∧ y ≤ 4294967295) → 0 ≤ x * y ∧ x * y ≤ 18446744065119617025 := by
    intro x y hx hy
    have h1 := Int.mul_nonneg hx.1 hy.1
    have h2 : x * y ≤ 4294967295 * 4294967295 := Int.mul_le_mul hx.2 hy.2 hy.1 (by decide)
    exact ⟨h1, by simpa using h2⟩
  have b1 := bd _ _ hp hr
  have b2 := bd _ _ hp hs
  have b3 := bd _ _ hq hr
  have b4 := bd _ _ hq hs
  have m1 : ∀ x, U64 x → andI .u64 x 4294967295 = x % 4294967296 := fun x hx => mask32_u64 hx
  simp only [fdiv_pos _ (show (0 : Int) ≤ 4294967296 by decide)]
  rw [m1 a ha, m1 b hb]
  rw [hab]
  clear hab ea eb
  generalize a / 4294967296 * (b / 4294967296) = pr at *
  generalize a / 4294967296 * (b % 4294967296) = ps at *
  generalize a % 4294967296 * (b / 4294967296) = qr at *
  generalize a % 4294967296 * (b % 4294967296) = qs at *
  rw [wu64_in (x := qs) (by unfold U64; omega), wu64_in (x := ps) (by unfold U64; omega), wu64_in (x := qr) (by unfold U64; omega), wu64_in (x := pr) (by unfold U64; omega)]
  rw [wu64_in (x := ps + qs / 4294967296) (by unfold U64; omega)]
  rw [m1 _ (show U64 (ps + qs / 4294967296) by unfold U64; omega), m1 qs (by unfold U64; omega)]
  rw [wu64_in (x := (ps + qs / 4294967296) % 4294967296 + qr) (by unfold U64; omega)]
  have e : IntKind.wrap .u64 (((ps + qs / 4294967296) % 4294967296 + qr) * 4294967296) = (((ps + qs / 4294967296) % 4294967296 + qr) % 4294967296) * (2 ^ 32 : Nat) := by
    rw [wu64]; omega
  rw [e, or_add_u64 32 (by omega) (by omega) (by omega) (by omega)]
  refine some_wd ?_ ?_
  · simp only [wu64, wi64]; unfold hi; omega
  · unfold lo; omega

theorem f_Add (F : Nat) {a b c d : Int} (hb : U64 b) (hd : U64 d) : f_wide_Add F a b c d = some (wd (val a b + val c d)) := by
  unfold f_wide_Add
  unfold U64 at hb hd
  simp only [wu64, wi64]
  by_cases h : (b + d) % 18446744073709551616 < b
  · refine bp (dt h) (some_wd ?_ ?_)
    · unfold hi val; omega
    · unfold lo val; omega
  · refine bn (df h) (some_wd ?_ ?_)
    · unfold hi val; omega
    · unfold lo val; omega

theorem f_Neg (F : Nat) {a b : Int} (ha : I64 a) (hb : U64 b) : f_wide_Neg F a b = some (wd (-val a b)) := by
  unfold f_wide_Neg
  rw [not_i64 ha, not_u64 hb]
  unfold U64 at hb
  obtain ⟨h1, h2, h3⟩ := k_wide_Add F _ _ _ _ (f_Add F (a := -1 - a) (b := 18446744073709551615 - b) (c := 0) (d := 1) (by unfold U64; omega) (by unfold U64; omega))
  refine bp h1 ?_
  rw [h2, h3]
  refine some_wd (hi_eqv ?_) (lo_eqv ?_)
  all_goals unfold Eqv val; omega

theorem f_Mul (F : Nat) {a b : Int} (ha : I64 a) (hb : I64 b) : f_wide_Mul F a b = some (wd (a * b)) := by
  unfold f_wide_Mul
  obtain ⟨h1, h2⟩ := k_wide_bare F a (f_bare F ha)
  obtain ⟨h3, h4⟩ := k_wide_bare F b (f_bare F hb)
  unfold I64 at ha hb
  refine bp h1 (bp h3 ?_)
  simp only [h2, h4]
  obtain ⟨p1, p2, p3⟩ := k_wide_product F _ _ (f_product F (a := if a < 0 then -a else a) (b := if b < 0 then -b else b) (by unfold U64; split <;> omega) (by unfold U64; split <;> omega))
  refine bp p1 ?_
  simp only [p2, p3]
  have neg : ∀ z : Int, (bif ok_wide_Neg F (hi z) (lo z) then (some (.v (.agg #[.int .i64 (o_wide_Neg_0 F (hi z) (lo z)), .int .u64 (o_wide_Neg_1 F (hi z) (lo z))])) : R) else none) = some (wd (-z)) := by
    intro z
    obtain ⟨n1, n2, n3⟩ := k_wide_Neg F _ _ (f_Neg F (hi_I z) (lo_U z))
    refine bp n1 ?_
    rw [n2, n3, val_hl]
    exact some_wd (hi_eqv (W_eqv z).neg) (lo_eqv (W_eqv z).neg)
  by_cases h0 : a < 0 <;> by_cases k0 : b < 0
  · simp only [h0, k0, decide_true, if_true, BEq.rfl, Bool.not_true, cond_false, Int.neg_mul_neg]; rfl
  · simp only [h0, k0, decide_true, decide_false, if_true, if_false]
    refine bp (by decide) ?_
    rw [neg, Int.neg_mul, Int.neg_neg]
  · simp only [h0, k0, decide_true, decide_false, if_true, if_false]
    refine bp (by decide) ?_
    rw [neg, Int.mul_neg, Int.neg_neg]
  · simp only [h0, k0, decide_false, if_false, BEq.rfl, Bool.not_true, cond_false]; rfl
end Go.Xv
namespace Go.Xv
theorem some_bool {a b : Bool} (h : a = b) : (some (VV.v (.bool a)) : R) = some (.v (.bool b)) := by rw [h]
theorem nn (k : Nat) : (!decide ((k : Int) < 0)) = true := by rw [df (by omega)]; rfl
theorem p2min {m : Nat} (h : m ≤ 64) : min (Int.toNat (m : Int)) 64 = m := by omega

theorem f_Of (F : Nat) {n : Int} (h : I64 n) : f_wide_Of F n = some (wd n) := by
  unfold f_wide_Of
  unfold I64 at h
  refine some_wd ?_ ?_
  · rw [fdiv_pos _ (by decide)]; unfold hi; omega
  · rw [wu64]; rfl
/-- how far a number is shifted to the right at most -/
def cl (n : Int) : Nat := (if 127 < (if 0 > n then 0 else n) then 127 else (if 0 > n then 0 else n)).toNat
theorem f_Right (F : Nat) {a b n : Int} (ha : I64 a) (hb : U64 b) : f_wide_Right F a b n = some (wd (val a b / 2 ^ cl n)) := by
  unfold f_wide_Right cl
  dsimp only
  generalize hv : (if 127 < (if 0 > n then 0 else n) then (127 : Int) else (if 0 > n then 0 else n)) = v
  have hv2 : 0 ≤ v ∧ v ≤ 127 := by
    subst hv
    split <;> split <;> omega
  obtain ⟨m, rfl⟩ := Int.eq_ofNat_of_zero_le hv2.1
  simp only [Int.toNat_natCast]
  by_cases h : 64 ≤ m
  · refine bp (dt (by omega)) ?_
    rw [wi64_in (x := (m : Int) - 64) (by unfold I64; omega), show (m : Int) - 64 = ((m - 64 : Nat) : Int) by omega]
    refine bp (nn _) ?_
    rw [p2min (by omega), fdiv_pos _ (Int.le_of_lt (p2pos _))]
    obtain ⟨h1, h2, h3⟩ := k_wide_Of F _ (f_Of F (div_I64 ha (p2pos (m - 64))))
    refine bp h1 ?_
    rw [h2, h3, ← shr_great hb h]; rfl
  · refine bn (df (by omega)) ?_
    refine bp (nn _) (bp (nn _) ?_)
    rw [wi64_in (x := 64 - (m : Int)) (by unfold I64; omega), show 64 - (m : Int) = ((64 - m : Nat) : Int) by omega]
    refine bp (nn _) ?_
    rw [fdiv_pos _ (Int.le_of_lt (p2pos _)), fdiv_pos _ (Int.le_of_lt (p2pos _)), show min m 64 = m by omega, p2min (by omega), wu64, wu64]
    obtain ⟨h1, h2⟩ := shr_small ha hb (show m < 64 by omega)
    exact some_wd h1 h2

/-- over a power of two, to the nearest one -/
def near (z : Int) (m : Nat) : Int := if m = 0 then z else z / 2 ^ m + z / 2 ^ (m - 1) % 2
theorem cl_pred {n : Int} (h : 0 < n) (h2 : n ≤ 127) : cl (n - 1) = cl n - 1 := by
  unfold cl
  rw [if_neg (show ¬ 0 > n by omega), if_neg (show ¬ 0 > n - 1 by omega), if_neg (by omega), if_neg (by omega)]
  omega
theorem lo_mod2 (z : Int) : lo z % 2 = z % 2 := by unfold lo; omega
theorem f_Near (F : Nat) {a b n : Int} (ha : I64 a) (hb : U64 b) : f_wide_Near F a b n = some (wd (near (val a b) (cl n))) := by
  unfold f_wide_Near
  by_cases h : n ≤ 0
  · rw [if_neg (show ¬ 127 < n by omega)]
    refine bp (dt h) ?_
    have : cl n = 0 := by
      unfold cl
      rw [if_neg]
      · split <;> omega
      · split <;> omega
    rw [this]
    exact some_wd (hi_val ha hb).symm (lo_val hb).symm
  · generalize hv : (if 127 < n then 127 else n) = v
    have hc : cl n = cl v := by
      subst hv
      unfold cl
      by_cases hn : 127 < n
      · rw [if_pos hn, if_neg (show ¬ 0 > n by omega), if_pos hn]; decide
      · rw [if_neg hn]
    have hv1 : 0 < v ∧ v ≤ 127 := by subst hv; split <;> omega
    refine bn (df (by omega)) ?_
    obtain ⟨h1, h2, h3⟩ := k_wide_Right F _ _ _ (f_Right F (n := v) ha hb)
    refine bp h1 ?_
    rw [wi64_in (x := v - 1) (by unfold I64; omega)]
    obtain ⟨g1, g2, g3⟩ := k_wide_Right F _ _ _ (f_Right F (n := v - 1) ha hb)
    refine bp g1 ?_
    rw [h2, h3, g3, mask1_u64 (lo_U _), lo_mod2, cl_pred hv1.1 hv1.2, ← hc]
    have hm : cl n ≠ 0 := by
      rw [hc]
      unfold cl
      rw [if_neg (show ¬ 0 > v by omega), if_neg (by omega)]
      omega
    obtain ⟨k1, k2, k3⟩ := k_wide_Add F _ _ _ _ (f_Add F (a := hi (val a b / 2 ^ cl n)) (c := 0) (d := val a b / 2 ^ (cl n - 1) % 2) (lo_U (val a b / 2 ^ cl n)) (by unfold U64; omega))
    refine bp k1 ?_
    rw [k2, k3, val_hl]
    unfold near
    rw [if_neg hm]
    refine some_wd (hi_eqv ?_) (lo_eqv ?_)
    all_goals exact (W_eqv _).add (show Eqv (val 0 _) _ by unfold val; rw [Int.zero_mul, Int.zero_add]; exact rfl)

end Go.Xv
namespace Go.Xv
theorem wi64_s (i : Nat) (h : i < 1000) : IntKind.wrap .i64 ((i : Int) + 1) = ((i + 1 : Nat) : Int) := by
  rw [wi64_in (by unfold I64; omega)]; push_cast; rfl
theorem ix_ok (i n : Nat) (h : i < n) : ((decide (0 ≤ (i : Int))) && (decide ((i : Int) < ((n : Nat) : Int)))) = true := by
  rw [dt (by omega), dt (by omega)]; rfl
end Go.Xv
namespace Go.Xv
theorem a_Add (F : Nat) (x y : Int) : ok_wide_Add F (hi x) (lo x) (hi y) (lo y) = true ∧ o_wide_Add_0 F (hi x) (lo x) (hi y) (lo y) = hi (x + y) ∧ o_wide_Add_1 F (hi x) (lo x) (hi y) (lo y) = lo (x + y) := by
  obtain ⟨h1, h2, h3⟩ := k_wide_Add F _ _ _ _ (f_Add F (a := hi x) (c := hi y) (lo_U x) (lo_U y))
  rw [h2, h3, val_hl, val_hl]
  have e := (W_eqv x).add (W_eqv y)
  exact ⟨h1, hi_eqv e, lo_eqv e⟩
theorem a_Of (F : Nat) {n : Int} (h : I64 n) : ok_wide_Of F n = true ∧ o_wide_Of_0 F n = hi n ∧ o_wide_Of_1 F n = lo n := k_wide_Of F _ (f_Of F h)
theorem a_Mul (F : Nat) {a b : Int} (ha : I64 a) (hb : I64 b) : ok_wide_Mul F a b = true ∧ o_wide_Mul_0 F a b = hi (a * b) ∧ o_wide_Mul_1 F a b = lo (a * b) := k_wide_Mul F _ _ (f_Mul F ha hb)
theorem a_Near (F : Nat) {x : Int} (n : Int) (h : W128 x) : ok_wide_Near F (hi x) (lo x) n = true ∧ o_wide_Near_0 F (hi x) (lo x) n = hi (near x (cl n)) ∧ o_wide_Near_1 F (hi x) (lo x) n = lo (near x (cl n)) := by
  have := k_wide_Near F _ _ n (f_Near F (n := n) (hi_I x) (lo_U x))
  rw [val_hl, W_in h] at this
  exact this
end Go.Xv
namespace Go.Xv
def clipV (z : Int) : Int := if z < -9223372036854775808 then -9223372036854775808 else if 9223372036854775807 < z then 9223372036854775807 else z
def clipC (z : Int) : Bool := decide (z < -9223372036854775808 ∨ 9223372036854775807 < z)
theorem some_clip {n : Int} {c : Bool} {z : Int} (h : n = clipV z) (k : c = clipC z) : (some (VV.v (.tuple #[.int .i64 n, .bool c])) : R) = some (.v (.tuple #[.int .i64 (clipV z), .bool (clipC z)])) := by rw [h, k]
theorem f_Clip (F : Nat) {a b : Int} (ha : I64 a) (hb : U64 b) : f_wide_Clip F a b = some (.v (.tuple #[.int .i64 (clipV (val a b)), .bool (clipC (val a b))])) := by
  unfold f_wide_Clip
  dsimp only
  obtain ⟨o1, o2, o3⟩ := a_Of F (wi64_I b)
  refine bp o1 ?_
  rw [o2, o3, wi64]
  have hv : ∀ z, z = val a b → True := fun _ _ => trivial
  unfold I64 at ha
  unfold U64 at hb
  by_cases h : -9223372036854775808 ≤ val a b ∧ val a b ≤ 9223372036854775807
  · refine bp ?_ (some_clip ?_ ?_)
    · unfold val at h
      rw [Bool.and_eq_true, beq_iff_eq, beq_iff_eq]
      unfold hi lo; omega
    · unfold clipV
      rw [if_neg (by omega), if_neg (by omega)]
      unfold val at *; omega
    · unfold clipC
      exact (df (by omega)).symm
  · refine bn ?_ ?_
    · unfold val at h
      rw [Bool.and_eq_false_iff, beq_eq_false_iff_ne, beq_eq_false_iff_ne]
      unfold hi lo; omega
    · by_cases h2 : a < 0
      · refine bp (dt h2) (some_clip ?_ ?_)
        · unfold clipV
          rw [if_pos]
          unfold val at *; omega
        · unfold clipC
          refine (dt ?_).symm
          unfold val at *; omega
      · refine bn (df h2) (some_clip ?_ ?_)
        · unfold clipV
          rw [if_neg, if_pos]
          · unfold val at *; omega
          · unfold val at *; omega
        · unfold clipC
          refine (dt ?_).symm
          unfold val at *; omega
theorem a_Clip (F : Nat) {x : Int} (h : W128 x) : ok_wide_Clip F (hi x) (lo x) = true ∧ o_wide_Clip_0 F (hi x) (lo x) = clipV x ∧ o_wide_Clip_1 F (hi x) (lo x) = clipC x := by
  have := k_wide_Clip F _ _ (f_Clip F (hi_I x) (lo_U x))
  rw [val_hl, W_in h] at this
  exact this
end Go.Xv
namespace Go.Xv
theorem mul_bd {a b : Int} (ha : I64 a) (hb : I64 b) : -85070591730234615865843651857942052864 ≤ a * b ∧ a * b ≤ 85070591730234615865843651857942052864 := by
  unfold I64 at ha hb
  have h : (a * b).natAbs ≤ 9223372036854775808 * 9223372036854775808 := by
    rw [Int.natAbs_mul]
    exact Nat.mul_le_mul (by omega) (by omega)
  omega
theorem mul_W {a b : Int} (ha : I64 a) (hb : I64 b) : W128 (a * b) := by
  have := mul_bd ha hb
  unfold W128; omega
theorem cl32 : cl 32 = 32 := by decide
theorem clip_in {z : Int} (h : I64 z) : clipV z = z ∧ clipC z = false := by
  unfold I64 at h
  unfold clipV clipC
  exact ⟨by rw [if_neg (by omega), if_neg (by omega)], df (by omega)⟩

theorem f_fClamp (F : Nat) {a l h : Int} : f_fix_Clamp F a l h = some (.v (.tuple #[.int .i64 (if h < l then l else min (max a l) h), .bool (if h < l then true else decide (min (max a l) h ≠ a))])) := by
  unfold f_fix_Clamp
  dsimp only
  by_cases hl : h < l
  · refine bp (dt hl) ?_
    rw [if_pos hl, if_pos hl]
  · refine bn (df hl) ?_
    rw [if_neg hl, if_neg hl]
    have e : (if h < (if l > a then l else a) then h else (if l > a then l else a)) = min (max a l) h := by split <;> (try split) <;> omega
    have e2 : (min (max a l) h != a) = decide (min (max a l) h ≠ a) := by rw [Bool.eq_iff_iff]; simp
    rw [e, e2]
end Go.Xv
namespace Go.Xv
theorem angL_get : ∀ i : Nat, i < 30 → isI .i64 [.v (.int .i64 536870912), .v (.int .i64 316933406), .v (.int .i64 167458907), .v (.int .i64 85004756), .v (.int .i64 42667331), .v (.int .i64 21354465), .v (.int .i64 10679838), .v (.int .i64 5340245), .v (.int .i64 2670163), .v (.int .i64 1335087), .v (.int .i64 667544), .v (.int .i64 333772), .v (.int .i64 166886), .v (.int .i64 83443), .v (.int .i64 41722), .v (.int .i64 20861), .v (.int .i64 10430), .v (.int .i64 5215), .v (.int .i64 2608), .v (.int .i64 1304), .v (.int .i64 652), .v (.int .i64 326), .v (.int .i64 163), .v (.int .i64 81), .v (.int .i64 41), .v (.int .i64 20), .v (.int .i64 10), .v (.int .i64 5), .v (.int .i64 3), .v (.int .i64 1)][i]? = true ∧ iv [.v (.int .i64 536870912), .v (.int .i64 316933406), .v (.int .i64 167458907), .v (.int .i64 85004756), .v (.int .i64 42667331), .v (.int .i64 21354465), .v (.int .i64 10679838), .v (.int .i64 5340245), .v (.int .i64 2670163), .v (.int .i64 1335087), .v (.int .i64 667544), .v (.int .i64 333772), .v (.int .i64 166886), .v (.int .i64 83443), .v (.int .i64 41722), .v (.int .i64 20861), .v (.int .i64 10430), .v (.int .i64 5215), .v (.int .i64 2608), .v (.int .i64 1304), .v (.int .i64 652), .v (.int .i64 326), .v (.int .i64 163), .v (.int .i64 81), .v (.int .i64 41), .v (.int .i64 20), .v (.int .i64 10), .v (.int .i64 5), .v (.int .i64 3), .v (.int .i64 1)][i]? = tA i := by decide
theorem zmul1 (i : Nat) : (Int.toNat (i : Int)) * 1 = i := by simp
theorem turnedF (F : Nat) {x y : Int} {i : Nat} (hi : i < 64) (o : Bool) (h1 : I64 (rotX i o x y)) (h2 : I64 (rotY i o x y)) : ok_turn_pair_turned F x y i o = true ∧ o_turn_pair_turned_0 F x y i o = rotX i o x y ∧ o_turn_pair_turned_1 F x y i o = rotY i o x y := by
  refine k_turn_pair_turned F _ _ _ _ ?_
  unfold f_turn_pair_turned
  have hd : (!decide ((i : Int) < 0)) = true := nn i
  have hP := p2pos i
  rw [hd, p2min (by omega), fdiv_pos _ (by omega), fdiv_pos _ (by omega)]
  simp only [cond_true]
  unfold rotX rotY at *
  cases o
  · simp only [Bool.false_eq_true, if_false, cond_false] at *
    rw [wi64_in h1, wi64_in h2]
  · simp only [if_true, cond_true] at *
    rw [wi64_in h1, wi64_in h2]
theorem unitF (F : Nat) (x : Int) : ok_turn_unit F x = true ∧ o_turn_unit_0 F x = cl01 x := by
  refine k_turn_unit F _ ?_
  unfold f_turn_unit
  obtain ⟨h1, h2, h3⟩ := k_fix_Clamp F _ _ _ (f_fClamp F (a := x) (l := 0) (h := 4294967296))
  rw [h1, h2]
  rfl
theorem lp_turn_Both_0 (F : Nat) (ex) {z : Int} (hz : 0 ≤ z ∧ z < 1073741824) (x0 x1 x2 : Int) : ∀ (k n i : Nat) (x3 x34 x35 x36 : Int), i + k = 30 → k < n → x34 = i → x35 = (bS z i).1 → x36 = (bS z i).2.1 → x3 = (bS z i).2.2 →
    L_turn_Both_0 F ex n x0 x1 x2 x3 536870912 316933406 167458907 85004756 42667331 21354465 10679838 5340245 2670163 1335087 667544 333772 166886 83443 41722 20861 10430 5215 2608 1304 652 326 163 81 41 20 10 5 3 1 x34 x35 x36 = ex x0 x1 x2 (bS z 30).2.2 536870912 316933406 167458907 85004756 42667331 21354465 10679838 5340245 2670163 1335087 667544 333772 166886 83443 41722 20861 10430 5215 2608 1304 652 326 163 81 41 20 10 5 3 1 30 (bS z 30).1 (bS z 30).2.1
  | _, 0, _, _, _, _, _, _, h, _, _, _, _ => absurd h (by omega)
  | 0, n + 1, i, _, _, _, _, h, _, rfl, rfl, rfl, rfl => by
    obtain rfl : i = 30 := by omega
    rw [L_turn_Both_0]
    unfold B_turn_Both_0
    exact bn (df (by omega)) rfl
  | k + 1, n + 1, i, _, _, _, _, h, hn, rfl, rfl, rfl, rfl => by
    have hi' : i < 30 := by omega
    obtain ⟨g1, g2⟩ := angL_get i hi'
    have b1 := bS_I z (i := i + 1) (by omega)
    have b2 := bS_z hz (i := i) (by omega)
    have b3 := tA_bd i hi'
    obtain ⟨t1, t2, t3⟩ := turnedF F (x := (bS z i).1) (y := (bS z i).2.1) (i := i) (by omega) (decide (0 ≤ (bS z i).2.2)) (by simp only [bS] at b1; unfold I64; omega) (by simp only [bS] at b1; unfold I64; omega)
    rw [L_turn_Both_0]
    unfold B_turn_Both_0
    refine bp (dt (by omega)) (bp (by rw [zmul1, g1, show ((decide (0 ≤ (i : Int))) && (decide ((i : Int) < 30))) = true from ix_ok i 30 hi']; rfl) ?_)
    rw [zmul1, g2]
    have eg : decide ((bS z i).2.2 ≥ 0) = decide (0 ≤ (bS z i).2.2) := rfl
    rw [eg]
    refine bp t1 ?_
    rw [t2, t3]
    have w1 : IntKind.wrap .i64 ((i : Int) + 1) = ((i + 1 : Nat) : Int) := wi64_s i (by omega)
    rw [w1]
    by_cases hs : 0 ≤ (bS z i).2.2
    · refine bp (dt hs) ?_
      refine lp_turn_Both_0 F ex hz x0 x1 x2 k n (i + 1) _ _ _ _ (by omega) (by omega) rfl rfl rfl ?_
      simp only [bS]
      rw [if_pos hs, wi64_in (x := 0 - tA i) (by unfold I64; omega), wi64_in (by unfold I64; omega)]
      omega
    · refine bn (df hs) ?_
      refine lp_turn_Both_0 F ex hz x0 x1 x2 k n (i + 1) _ _ _ _ (by omega) (by omega) rfl rfl rfl ?_
      simp only [bS]
      rw [if_neg hs, wi64_in (by unfold I64; omega)]
theorem mask30_u32 {a : Int} (ha : U32 a) : andI .u32 a 1073741823 = a % 1073741824 := by
  have e : andI .u32 a 1073741823 = IntKind.wrap .u32 ((BitVec.ofInt 32 a &&& BitVec.ofInt 32 1073741823).toNat : Int) := rfl
  unfold U32 at ha
  have h1 : (BitVec.ofInt 32 a).toNat = a.toNat := by simp only [BitVec.toNat_ofInt]; omega
  have h2 : (BitVec.ofInt 32 1073741823).toNat = 2 ^ 30 - 1 := by decide
  rw [e, BitVec.toNat_and, h1, h2, Nat.and_two_pow_sub_one_eq_mod, wu32]
  omega
theorem angF (F : Nat) : ok_turn_angles F = true ∧ o_turn_angles_0 F = 536870912 ∧ o_turn_angles_1 F = 316933406 ∧ o_turn_angles_2 F = 167458907 ∧ o_turn_angles_3 F = 85004756 ∧ o_turn_angles_4 F = 42667331 ∧ o_turn_angles_5 F = 21354465 ∧ o_turn_angles_6 F = 10679838 ∧ o_turn_angles_7 F = 5340245 ∧ o_turn_angles_8 F = 2670163 ∧ o_turn_angles_9 F = 1335087 ∧ o_turn_angles_10 F = 667544 ∧ o_turn_angles_11 F = 333772 ∧ o_turn_angles_12 F = 166886 ∧ o_turn_angles_13 F = 83443 ∧ o_turn_angles_14 F = 41722 ∧ o_turn_angles_15 F = 20861 ∧ o_turn_angles_16 F = 10430 ∧ o_turn_angles_17 F = 5215 ∧ o_turn_angles_18 F = 2608 ∧ o_turn_angles_19 F = 1304 ∧ o_turn_angles_20 F = 652 ∧ o_turn_angles_21 F = 326 ∧ o_turn_angles_22 F = 163 ∧ o_turn_angles_23 F = 81 ∧ o_turn_angles_24 F = 41 ∧ o_turn_angles_25 F = 20 ∧ o_turn_angles_26 F = 10 ∧ o_turn_angles_27 F = 5 ∧ o_turn_angles_28 F = 3 ∧ o_turn_angles_29 F = 1 := k_turn_angles F rfl
theorem some_two {a b c d : Int} (h : a = c) (k : b = d) : (some (VV.v (.tuple #[.int .i64 a, .int .i64 b])) : R) = some (.v (.tuple #[.int .i64 c, .int .i64 d])) := by rw [h, k]
theorem f_tBoth (F : Nat) (hF : 200 ≤ F) {a : Int} (ha : U32 a) : f_turn_Both F a = some (.v (.tuple #[.int .i64 (bothC a), .int .i64 (bothS a)])) := by
  unfold f_turn_Both
  obtain ⟨h0, e0, e1, e2, e3, e4, e5, e6, e7, e8, e9, e10, e11, e12, e13, e14, e15, e16, e17, e18, e19, e20, e21, e22, e23, e24, e25, e26, e27, e28, e29⟩ := angF F
  refine bp h0 ?_
  rw [e0, e1, e2, e3, e4, e5, e6, e7, e8, e9, e10, e11, e12, e13, e14, e15, e16, e17, e18, e19, e20, e21, e22, e23, e24, e25, e26, e27, e28, e29, mask30_u32 ha]
  have hz : 0 ≤ a % 1073741824 ∧ a % 1073741824 < 1073741824 := by omega
  rw [wi64_in (x := a % 1073741824) (by unfold I64; omega), lp_turn_Both_0 F _ hz a 0 0 30 F 0 (a % 1073741824) 0 2608131496 0 (by omega) (by omega) rfl rfl rfl rfl]
  obtain ⟨u1, u2⟩ := unitF F (bS (a % 1073741824) 30).1
  obtain ⟨v1, v2⟩ := unitF F (bS (a % 1073741824) 30).2.1
  refine bp u1 (bp v1 ?_)
  rw [u2, v2]
  obtain ⟨F, rfl⟩ : ∃ G, F = G + 4 := ⟨F - 4, by omega⟩
  have c1 := cl01_bd (bS (a % 1073741824) 30).1
  have c2 := cl01_bd (bS (a % 1073741824) 30).2.1
  unfold U32 at ha
  have w0 : IntKind.wrap .u32 (0 + 1) = 1 := by rw [wu32]; omega
  have w1 : IntKind.wrap .u32 (1 + 1) = 2 := by rw [wu32]; omega
  have w2 : IntKind.wrap .u32 (2 + 1) = 3 := by rw [wu32]; omega
  have eC : cl01 (bS (a % 1073741824) 30).1 = bC a := rfl
  have eN : cl01 (bS (a % 1073741824) 30).2.1 = bN a := rfl
  rw [eC] at c1 ⊢
  rw [eN] at c2 ⊢
  rw [fdiv_pos _ (by decide)]
  have n1 : IntKind.wrap .i64 (0 - bN a) = -bN a := by rw [wi64_in (by unfold I64; omega)]; omega
  have n2 : IntKind.wrap .i64 (0 - bC a) = -bC a := by rw [wi64_in (by unfold I64; omega)]; omega
  have n3 : IntKind.wrap .i64 (0 - -bN a) = bN a := by rw [wi64_in (by unfold I64; omega)]; omega
  unfold bothC bothS
  rw [L_turn_Both_1]
  unfold B_turn_Both_1
  by_cases q0 : a / 1073741824 = 0
  · refine bn (df (by omega)) (some_two ?_ ?_) <;> rw [if_pos q0]
  · refine bp (dt (by omega)) ?_
    rw [w0, n1, L_turn_Both_1]
    unfold B_turn_Both_1
    by_cases q1 : a / 1073741824 = 1
    · refine bn (df (by omega)) (some_two ?_ ?_) <;> rw [if_neg q0, if_pos q1]
    · refine bp (dt (by omega)) ?_
      rw [w1, n2, L_turn_Both_1]
      unfold B_turn_Both_1
      by_cases q2 : a / 1073741824 = 2
      · refine bn (df (by omega)) (some_two ?_ ?_) <;> rw [if_neg q0, if_neg q1, if_pos q2]
      · refine bp (dt (by omega)) ?_
        rw [w2, n3, L_turn_Both_1]
        unfold B_turn_Both_1
        refine bn (df (by omega)) (some_two ?_ ?_) <;> rw [if_neg q0, if_neg q1, if_neg q2]
theorem a_tBoth (F : Nat) (hF : 200 ≤ F) {a : Int} (ha : U32 a) : ok_turn_Both F a = true ∧ o_turn_Both_0 F a = bothC a ∧ o_turn_Both_1 F a = bothS a := k_turn_Both F _ (f_tBoth F hF ha)
end Go.Xv
namespace Go.Xv
def pr (a b : Int) : Int := a * b / 4294967296 + a * b / 2147483648 % 2
theorem pr_near (a b : Int) : near (a * b) 32 = pr a b := by
  unfold near pr
  rw [if_neg (by decide), show (2 : Int) ^ 32 = 4294967296 by decide, show (2 : Int) ^ (32 - 1) = 2147483648 by decide]
theorem pr_comm (a b : Int) : pr a b = pr b a := by unfold pr; rw [Int.mul_comm]
theorem pr_bd {a b : Int} (ha : I64 a) (hb : I64 b) : -19807040628566084398385987585 ≤ pr a b ∧ pr a b ≤ 19807040628566084398385987585 := by
  have := mul_bd ha hb
  unfold pr; omega
theorem a_product (F : Nat) {a b : Int} (ha : I64 a) (hb : I64 b) : ok_vec_product F a b = true ∧ o_vec_product_0 F a b = hi (pr a b) ∧ o_vec_product_1 F a b = lo (pr a b) := by
  refine k_vec_product F _ _ ?_
  unfold f_vec_product
  obtain ⟨h1, h2, h3⟩ := a_Mul F ha hb
  obtain ⟨n1, n2, n3⟩ := a_Near F 32 (mul_W ha hb)
  rw [cl32, pr_near] at n2 n3
  refine bp h1 ?_
  rw [h2, h3]
  refine bp n1 ?_
  rw [n2, n3]
theorem a_vclip (F : Nat) {z : Int} (h : W128 z) : ok_vec_clip F (hi z) (lo z) = true ∧ o_vec_clip_0 F (hi z) (lo z) = clipV z ∧ o_vec_clip_1 F (hi z) (lo z) = clipC z := by
  refine k_vec_clip F _ _ ?_
  unfold f_vec_clip
  obtain ⟨h1, h2, h3⟩ := a_Clip F h
  refine bp h1 ?_
  rw [h2, h3]
def dotZ (a0 a1 a2 a3 a4 a5 : Int) : Int := pr a0 a3 + pr a1 a4 + pr a2 a5
theorem dot_W {a0 a1 a2 a3 a4 a5 : Int} (h0 : I64 a0) (h1 : I64 a1) (h2 : I64 a2) (h3 : I64 a3) (h4 : I64 a4) (h5 : I64 a5) : W128 (dotZ a0 a1 a2 a3 a4 a5) := by
  have := pr_bd h0 h3
  have := pr_bd h1 h4
  have := pr_bd h2 h5
  unfold dotZ W128; omega
theorem f_Dot (F : Nat) (hF : 200 ≤ F) {a0 a1 a2 a3 a4 a5 : Int} (h0 : I64 a0) (h1 : I64 a1) (h2 : I64 a2) (h3 : I64 a3) (h4 : I64 a4) (h5 : I64 a5) : f_vec_Dot F a0 a1 a2 a3 a4 a5 = some (.v (.tuple #[.int .i64 (clipV (dotZ a0 a1 a2 a3 a4 a5)), .bool (clipC (dotZ a0 a1 a2 a3 a4 a5))])) := by
  obtain ⟨p1, p2, p3⟩ := a_product F h0 h3
  obtain ⟨q1, q2, q3⟩ := a_product F h1 h4
  obtain ⟨r1, r2, r3⟩ := a_product F h2 h5
  obtain ⟨s1, s2, s3⟩ := a_Add F 0 (pr a0 a3)
  obtain ⟨t1, t2, t3⟩ := a_Add F (pr a0 a3) (pr a1 a4)
  obtain ⟨u1, u2, u3⟩ := a_Add F (pr a0 a3 + pr a1 a4) (pr a2 a5)
  obtain ⟨c1, c2, c3⟩ := a_vclip F (dot_W h0 h1 h2 h3 h4 h5)
  rw [Int.zero_add] at s2 s3
  obtain ⟨G, hG⟩ : ∃ G, F = G + 4 := ⟨F - 4, by omega⟩
  have w1 : IntKind.wrap .i64 (0 + 1) = 1 := by decide
  have w2 : IntKind.wrap .i64 (1 + 1) = 2 := by decide
  have w3 : IntKind.wrap .i64 (2 + 1) = 3 := by decide
  unfold f_vec_Dot
  rw [show L_vec_Dot_0 F _ F = L_vec_Dot_0 F _ (G + 4) from congrArg (L_vec_Dot_0 F _) hG, L_vec_Dot_0]
  unfold B_vec_Dot_0
  refine bp rfl (bp rfl (bp rfl (bp rfl (bp rfl (bp p1 ?_)))))
  have e0 : (iv [.v (.int .i64 a0), .v (.int .i64 a1), .v (.int .i64 a2)][0 + Int.toNat 0 * 1]?) = a0 := rfl
  have e3 : (iv [.v (.int .i64 a3), .v (.int .i64 a4), .v (.int .i64 a5)][0 + Int.toNat 0 * 1]?) = a3 := rfl
  rw [e0, e3, p2, p3]
  have s1' : ok_wide_Add F 0 0 (hi (pr a0 a3)) (lo (pr a0 a3)) = true := s1
  have s2' : o_wide_Add_0 F 0 0 (hi (pr a0 a3)) (lo (pr a0 a3)) = hi (pr a0 a3) := s2
  have s3' : o_wide_Add_1 F 0 0 (hi (pr a0 a3)) (lo (pr a0 a3)) = lo (pr a0 a3) := s3
  refine bp s1' ?_
  rw [s2', s3', w1, L_vec_Dot_0]
  unfold B_vec_Dot_0
  refine bp rfl (bp rfl (bp rfl (bp rfl (bp rfl (bp q1 ?_)))))
  have e1 : (iv [.v (.int .i64 a0), .v (.int .i64 a1), .v (.int .i64 a2)][0 + Int.toNat 1 * 1]?) = a1 := rfl
  have e4 : (iv [.v (.int .i64 a3), .v (.int .i64 a4), .v (.int .i64 a5)][0 + Int.toNat 1 * 1]?) = a4 := rfl
  rw [e1, e4, q2, q3]
  refine bp t1 ?_
  rw [t2, t3, w2, L_vec_Dot_0]
  unfold B_vec_Dot_0
  refine bp rfl (bp rfl (bp rfl (bp rfl (bp rfl (bp r1 ?_)))))
  have e2 : (iv [.v (.int .i64 a0), .v (.int .i64 a1), .v (.int .i64 a2)][0 + Int.toNat 2 * 1]?) = a2 := rfl
  have e5 : (iv [.v (.int .i64 a3), .v (.int .i64 a4), .v (.int .i64 a5)][0 + Int.toNat 2 * 1]?) = a5 := rfl
  rw [e2, e5, r2, r3]
  refine bp u1 ?_
  rw [u2, u3, w3, L_vec_Dot_0]
  unfold B_vec_Dot_0
  refine bn rfl ?_
  have e : pr a0 a3 + pr a1 a4 + pr a2 a5 = dotZ a0 a1 a2 a3 a4 a5 := rfl
  rw [e]
  refine bp c1 ?_
  rw [c2, c3]
theorem a_Dot (F : Nat) (hF : 200 ≤ F) {a0 a1 a2 a3 a4 a5 : Int} (h0 : I64 a0) (h1 : I64 a1) (h2 : I64 a2) (h3 : I64 a3) (h4 : I64 a4) (h5 : I64 a5) : ok_vec_Dot F a0 a1 a2 a3 a4 a5 = true ∧ o_vec_Dot_0 F a0 a1 a2 a3 a4 a5 = clipV (dotZ a0 a1 a2 a3 a4 a5) ∧ o_vec_Dot_1 F a0 a1 a2 a3 a4 a5 = clipC (dotZ a0 a1 a2 a3 a4 a5) := k_vec_Dot F _ _ _ _ _ _ (f_Dot F hF h0 h1 h2 h3 h4 h5)
end Go.Xv
namespace Go.Xv
theorem dot_turn (a0 a1 a2 a3 a4 a5 : Int) : dotZ a3 a4 a5 a0 a1 a2 = dotZ a0 a1 a2 a3 a4 a5 := by unfold dotZ; rw [pr_comm a3, pr_comm a4, pr_comm a5]
theorem a_mSame (F : Nat) (hF : 200 ≤ F) : ok_mat_Same F = true ∧ o_mat_Same_0 F = 4294967296 ∧ o_mat_Same_1 F = 0 ∧ o_mat_Same_2 F = 0 ∧ o_mat_Same_3 F = 0 ∧ o_mat_Same_4 F = 4294967296 ∧ o_mat_Same_5 F = 0 ∧ o_mat_Same_6 F = 0 ∧ o_mat_Same_7 F = 0 ∧ o_mat_Same_8 F = 4294967296 := by
  refine k_mat_Same F ?_
  obtain ⟨G, rfl⟩ : ∃ G, F = G + 4 := ⟨F - 4, by omega⟩
  kernel_rfl
theorem a_mBack (F : Nat) (hF : 200 ≤ F) (a0 a1 a2 a3 a4 a5 a6 a7 a8 : Int) : ok_mat_Back F a0 a1 a2 a3 a4 a5 a6 a7 a8 = true ∧ o_mat_Back_0 F a0 a1 a2 a3 a4 a5 a6 a7 a8 = a0 ∧ o_mat_Back_1 F a0 a1 a2 a3 a4 a5 a6 a7 a8 = a3 ∧ o_mat_Back_2 F a0 a1 a2 a3 a4 a5 a6 a7 a8 = a6 ∧ o_mat_Back_3 F a0 a1 a2 a3 a4 a5 a6 a7 a8 = a1 ∧ o_mat_Back_4 F a0 a1 a2 a3 a4 a5 a6 a7 a8 = a4 ∧ o_mat_Back_5 F a0 a1 a2 a3 a4 a5 a6 a7 a8 = a7 ∧ o_mat_Back_6 F a0 a1 a2 a3 a4 a5 a6 a7 a8 = a2 ∧ o_mat_Back_7 F a0 a1 a2 a3 a4 a5 a6 a7 a8 = a5 ∧ o_mat_Back_8 F a0 a1 a2 a3 a4 a5 a6 a7 a8 = a8 := by
  refine k_mat_Back F _ _ _ _ _ _ _ _ _ ?_
  obtain ⟨G, rfl⟩ : ∃ G, F = G + 4 := ⟨F - 4, by omega⟩
  kernel_rfl
theorem f_Apply' (F : Nat) (hF : 200 ≤ F) {a0 a1 a2 a3 a4 a5 a6 a7 a8 u0 u1 u2 : Int} {p0 p1 p2 : Int} {c0 c1 c2 : Bool} (d0 : ok_vec_Dot F a0 a1 a2 u0 u1 u2 = true ∧ o_vec_Dot_0 F a0 a1 a2 u0 u1 u2 = p0 ∧ o_vec_Dot_1 F a0 a1 a2 u0 u1 u2 = c0) (d1 : ok_vec_Dot F a3 a4 a5 u0 u1 u2 = true ∧ o_vec_Dot_0 F a3 a4 a5 u0 u1 u2 = p1 ∧ o_vec_Dot_1 F a3 a4 a5 u0 u1 u2 = c1) (d2 : ok_vec_Dot F a6 a7 a8 u0 u1 u2 = true ∧ o_vec_Dot_0 F a6 a7 a8 u0 u1 u2 = p2 ∧ o_vec_Dot_1 F a6 a7 a8 u0 u1 u2 = c2) :
    f_mat_Apply F a0 a1 a2 a3 a4 a5 a6 a7 a8 u0 u1 u2 = some (.v (.tuple #[.agg #[.int .i64 p0, .int .i64 p1, .int .i64 p2], .bool (c0 || c1 || c2)])) := by
  obtain ⟨d01, d02, d03⟩ := d0
  obtain ⟨d11, d12, d13⟩ := d1
  obtain ⟨d21, d22, d23⟩ := d2
  have w1 : IntKind.wrap .i64 (0 + 1) = 1 := by decide
  have w2 : IntKind.wrap .i64 (1 + 1) = 2 := by decide
  have w3 : IntKind.wrap .i64 (2 + 1) = 3 := by decide
  unfold f_mat_Apply
  obtain ⟨G, hG⟩ : ∃ G, F = G + 4 := ⟨F - 4, by omega⟩
  rw [show L_mat_Apply_0 F _ F = L_mat_Apply_0 F _ (G + 4) from congrArg (L_mat_Apply_0 F _) hG]
  have e00 : (iv [.v (.int .i64 a0), .v (.int .i64 a1), .v (.int .i64 a2), .v (.int .i64 a3), .v (.int .i64 a4), .v (.int .i64 a5), .v (.int .i64 a6), .v (.int .i64 a7), .v (.int .i64 a8)][Int.toNat 0 * 3]?) = a0 := rfl
  have e01 : (iv [.v (.int .i64 a0), .v (.int .i64 a1), .v (.int .i64 a2), .v (.int .i64 a3), .v (.int .i64 a4), .v (.int .i64 a5), .v (.int .i64 a6), .v (.int .i64 a7), .v (.int .i64 a8)][Int.toNat 0 * 3 + 1]?) = a1 := rfl
  have e02 : (iv [.v (.int .i64 a0), .v (.int .i64 a1), .v (.int .i64 a2), .v (.int .i64 a3), .v (.int .i64 a4), .v (.int .i64 a5), .v (.int .i64 a6), .v (.int .i64 a7), .v (.int .i64 a8)][Int.toNat 0 * 3 + 1 + 1]?) = a2 := rfl
  have e10 : (iv [.v (.int .i64 a0), .v (.int .i64 a1), .v (.int .i64 a2), .v (.int .i64 a3), .v (.int .i64 a4), .v (.int .i64 a5), .v (.int .i64 a6), .v (.int .i64 a7), .v (.int .i64 a8)][Int.toNat 1 * 3]?) = a3 := rfl
  have e11 : (iv [.v (.int .i64 a0), .v (.int .i64 a1), .v (.int .i64 a2), .v (.int .i64 a3), .v (.int .i64 a4), .v (.int .i64 a5), .v (.int .i64 a6), .v (.int .i64 a7), .v (.int .i64 a8)][Int.toNat 1 * 3 + 1]?) = a4 := rfl
  have e12 : (iv [.v (.int .i64 a0), .v (.int .i64 a1), .v (.int .i64 a2), .v (.int .i64 a3), .v (.int .i64 a4), .v (.int .i64 a5), .v (.int .i64 a6), .v (.int .i64 a7), .v (.int .i64 a8)][Int.toNat 1 * 3 + 1 + 1]?) = a5 := rfl
  have e20 : (iv [.v (.int .i64 a0), .v (.int .i64 a1), .v (.int .i64 a2), .v (.int .i64 a3), .v (.int .i64 a4), .v (.int .i64 a5), .v (.int .i64 a6), .v (.int .i64 a7), .v (.int .i64 a8)][Int.toNat 2 * 3]?) = a6 := rfl
  have e21 : (iv [.v (.int .i64 a0), .v (.int .i64 a1), .v (.int .i64 a2), .v (.int .i64 a3), .v (.int .i64 a4), .v (.int .i64 a5), .v (.int .i64 a6), .v (.int .i64 a7), .v (.int .i64 a8)][Int.toNat 2 * 3 + 1]?) = a7 := rfl
  have e22 : (iv [.v (.int .i64 a0), .v (.int .i64 a1), .v (.int .i64 a2), .v (.int .i64 a3), .v (.int .i64 a4), .v (.int .i64 a5), .v (.int .i64 a6), .v (.int .i64 a7), .v (.int .i64 a8)][Int.toNat 2 * 3 + 1 + 1]?) = a8 := rfl
  rw [L_mat_Apply_0]
  unfold B_mat_Apply_0
  refine bp rfl (bp rfl ?_)
  rw [e00, e01, e02]
  refine bp d01 ?_
  rw [d02, d03]
  refine bn rfl (bp rfl (bp rfl ?_))
  rw [w1]
  cases c0
  · rw [L_mat_Apply_0]
    unfold B_mat_Apply_0
    refine bp rfl (bp rfl ?_)
    rw [e10, e11, e12]
    refine bp d11 ?_
    rw [d12, d13]
    refine bn rfl (bp rfl (bp rfl ?_))
    rw [w2]
    cases c1
    · rw [L_mat_Apply_0]
      unfold B_mat_Apply_0
      refine bp rfl (bp rfl ?_)
      rw [e20, e21, e22]
      refine bp d21 ?_
      rw [d22, d23]
      refine bn rfl (bp rfl (bp rfl ?_))
      rw [w3]
      rw [L_mat_Apply_0]
      unfold B_mat_Apply_0
      exact bn rfl (bp rfl rfl)
    · rw [L_mat_Apply_0]
      unfold B_mat_Apply_0
      refine bp rfl (bp rfl ?_)
      rw [e20, e21, e22]
      refine bp d21 ?_
      rw [d22]
      refine bp rfl (bp rfl (bp rfl ?_))
      rw [w3]
      rw [L_mat_Apply_0]
      unfold B_mat_Apply_0
      exact bn rfl (bp rfl rfl)
  · rw [L_mat_Apply_0]
    unfold B_mat_Apply_0
    refine bp rfl (bp rfl ?_)
    rw [e10, e11, e12]
    refine bp d11 ?_
    rw [d12]
    refine bp rfl (bp rfl (bp rfl ?_))
    rw [w2]
    rw [L_mat_Apply_0]
    unfold B_mat_Apply_0
    refine bp rfl (bp rfl ?_)
    rw [e20, e21, e22]
    refine bp d21 ?_
    rw [d22]
    refine bp rfl (bp rfl (bp rfl ?_))
    rw [w3]
    rw [L_mat_Apply_0]
    unfold B_mat_Apply_0
    exact bn rfl (bp rfl rfl)
theorem a_mApply (F : Nat) (hF : 200 ≤ F) {a0 a1 a2 a3 a4 a5 a6 a7 a8 u0 u1 u2 : Int} (ha0 : I64 a0) (ha1 : I64 a1) (ha2 : I64 a2) (ha3 : I64 a3) (ha4 : I64 a4) (ha5 : I64 a5) (ha6 : I64 a6) (ha7 : I64 a7) (ha8 : I64 a8) (hu0 : I64 u0) (hu1 : I64 u1) (hu2 : I64 u2) : ok_mat_Apply F a0 a1 a2 a3 a4 a5 a6 a7 a8 u0 u1 u2 = true ∧ o_mat_Apply_0 F a0 a1 a2 a3 a4 a5 a6 a7 a8 u0 u1 u2 = clipV (dotZ a0 a1 a2 u0 u1 u2) ∧ o_mat_Apply_1 F a0 a1 a2 a3 a4 a5 a6 a7 a8 u0 u1 u2 = clipV (dotZ a3 a4 a5 u0 u1 u2) ∧ o_mat_Apply_2 F a0 a1 a2 a3 a4 a5 a6 a7 a8 u0 u1 u2 = clipV (dotZ a6 a7 a8 u0 u1 u2) ∧ o_mat_Apply_3 F a0 a1 a2 a3 a4 a5 a6 a7 a8 u0 u1 u2 = (clipC (dotZ a0 a1 a2 u0 u1 u2) || clipC (dotZ a3 a4 a5 u0 u1 u2) || clipC (dotZ a6 a7 a8 u0 u1 u2)) :=
  k_mat_Apply F _ _ _ _ _ _ _ _ _ _ _ _ (f_Apply' F hF (a_Dot F hF ha0 ha1 ha2 hu0 hu1 hu2) (a_Dot F hF ha3 ha4 ha5 hu0 hu1 hu2) (a_Dot F hF ha6 ha7 ha8 hu0 hu1 hu2))
theorem f_Mul' (F : Nat) (hF : 200 ≤ F) {a0 a1 a2 a3 a4 a5 a6 a7 a8 b0 b1 b2 b3 b4 b5 b6 b7 b8 : Int} {p0 p1 p2 p3 p4 p5 p6 p7 p8 : Int} {c0 c1 c2 : Bool} (d0 : ok_mat_Apply F b0 b3 b6 b1 b4 b7 b2 b5 b8 a0 a1 a2 = true ∧ o_mat_Apply_0 F b0 b3 b6 b1 b4 b7 b2 b5 b8 a0 a1 a2 = p0 ∧ o_mat_Apply_1 F b0 b3 b6 b1 b4 b7 b2 b5 b8 a0 a1 a2 = p1 ∧ o_mat_Apply_2 F b0 b3 b6 b1 b4 b7 b2 b5 b8 a0 a1 a2 = p2 ∧ o_mat_Apply_3 F b0 b3 b6 b1 b4 b7 b2 b5 b8 a0 a1 a2 = c0) (d1 : ok_mat_Apply F b0 b3 b6 b1 b4 b7 b2 b5 b8 a3 a4 a5 = true ∧ o_mat_Apply_0 F b0 b3 b6 b1 b4 b7 b2 b5 b8 a3 a4 a5 = p3 ∧ o_mat_Apply_1 F b0 b3 b6 b1 b4 b7 b2 b5 b8 a3 a4 a5 = p4 ∧ o_mat_Apply_2 F b0 b3 b6 b1 b4 b7 b2 b5 b8 a3 a4 a5 = p5 ∧ o_mat_Apply_3 F b0 b3 b6 b1 b4 b7 b2 b5 b8 a3 a4 a5 = c1) (d2 : ok_mat_Apply F b0 b3 b6 b1 b4 b7 b2 b5 b8 a6 a7 a8 = true ∧ o_mat_Apply_0 F b0 b3 b6 b1 b4 b7 b2 b5 b8 a6 a7 a8 = p6 ∧ o_mat_Apply_1 F b0 b3 b6 b1 b4 b7 b2 b5 b8 a6 a7 a8 = p7 ∧ o_mat_Apply_2 F b0 b3 b6 b1 b4 b7 b2 b5 b8 a6 a7 a8 = p8 ∧ o_mat_Apply_3 F b0 b3 b6 b1 b4 b7 b2 b5 b8 a6 a7 a8 = c2) :
    f_mat_Mul F a0 a1 a2 a3 a4 a5 a6 a7 a8 b0 b1 b2 b3 b4 b5 b6 b7 b8 = some (.v (.tuple #[.agg #[.int .i64 p0, .int .i64 p1, .int .i64 p2, .int .i64 p3, .int .i64 p4, .int .i64 p5, .int .i64 p6, .int .i64 p7, .int .i64 p8], .bool (c0 || c1 || c2)])) := by
  obtain ⟨d01, d02, d03, d04, d05⟩ := d0
  obtain ⟨d11, d12, d13, d14, d15⟩ := d1
  obtain ⟨d21, d22, d23, d24, d25⟩ := d2
  have w1 : IntKind.wrap .i64 (0 + 1) = 1 := by decide
  have w2 : IntKind.wrap .i64 (1 + 1) = 2 := by decide
  have w3 : IntKind.wrap .i64 (2 + 1) = 3 := by decide
  unfold f_mat_Mul
  obtain ⟨b0_, bb0, bb1, bb2, bb3, bb4, bb5, bb6, bb7, bb8⟩ := a_mBack F hF b0 b1 b2 b3 b4 b5 b6 b7 b8
  refine bp b0_ ?_
  rw [bb0, bb1, bb2, bb3, bb4, bb5, bb6, bb7, bb8]
  obtain ⟨G, hG⟩ : ∃ G, F = G + 4 := ⟨F - 4, by omega⟩
  rw [show L_mat_Mul_0 F _ F = L_mat_Mul_0 F _ (G + 4) from congrArg (L_mat_Mul_0 F _) hG]
  have e00 : (iv [.v (.int .i64 a0), .v (.int .i64 a1), .v (.int .i64 a2), .v (.int .i64 a3), .v (.int .i64 a4), .v (.int .i64 a5), .v (.int .i64 a6), .v (.int .i64 a7), .v (.int .i64 a8)][Int.toNat 0 * 3]?) = a0 := rfl
  have e01 : (iv [.v (.int .i64 a0), .v (.int .i64 a1), .v (.int .i64 a2), .v (.int .i64 a3), .v (.int .i64 a4), .v (.int .i64 a5), .v (.int .i64 a6), .v (.int .i64 a7), .v (.int .i64 a8)][Int.toNat 0 * 3 + 1]?) = a1 := rfl
  have e02 : (iv [.v (.int .i64 a0), .v (.int .i64 a1), .v (.int .i64 a2), .v (.int .i64 a3), .v (.int .i64 a4), .v (.int .i64 a5), .v (.int .i64 a6), .v (.int .i64 a7), .v (.int .i64 a8)][Int.toNat 0 * 3 + 1 + 1]?) = a2 := rfl
  have e10 : (iv [.v (.int .i64 a0), .v (.int .i64 a1), .v (.int .i64 a2), .v (.int .i64 a3), .v (.int .i64 a4), .v (.int .i64 a5), .v (.int .i64 a6), .v (.int .i64 a7), .v (.int .i64 a8)][Int.toNat 1 * 3]?) = a3 := rfl
  have e11 : (iv [.v (.int .i64 a0), .v (.int .i64 a1), .v (.int .i64 a2), .v (.int .i64 a3), .v (.int .i64 a4), .v (.int .i64 a5), .v (.int .i64 a6), .v (.int .i64 a7), .v (.int .i64 a8)][Int.toNat 1 * 3 + 1]?) = a4 := rfl
  have e12 : (iv [.v (.int .i64 a0), .v (.int .i64 a1), .v (.int .i64 a2), .v (.int .i64 a3), .v (.int .i64 a4), .v (.int .i64 a5), .v (.int .i64 a6), .v (.int .i64 a7), .v (.int .i64 a8)][Int.toNat 1 * 3 + 1 + 1]?) = a5 := rfl
  have e20 : (iv [.v (.int .i64 a0), .v (.int .i64 a1), .v (.int .i64 a2), .v (.int .i64 a3), .v (.int .i64 a4), .v (.int .i64 a5), .v (.int .i64 a6), .v (.int .i64 a7), .v (.int .i64 a8)][Int.toNat 2 * 3]?) = a6 := rfl
  have e21 : (iv [.v (.int .i64 a0), .v (.int .i64 a1), .v (.int .i64 a2), .v (.int .i64 a3), .v (.int .i64 a4), .v (.int .i64 a5), .v (.int .i64 a6), .v (.int .i64 a7), .v (.int .i64 a8)][Int.toNat 2 * 3 + 1]?) = a7 := rfl
  have e22 : (iv [.v (.int .i64 a0), .v (.int .i64 a1), .v (.int .i64 a2), .v (.int .i64 a3), .v (.int .i64 a4), .v (.int .i64 a5), .v (.int .i64 a6), .v (.int .i64 a7), .v (.int .i64 a8)][Int.toNat 2 * 3 + 1 + 1]?) = a8 := rfl
  rw [L_mat_Mul_0]
  unfold B_mat_Mul_0
  refine bp rfl (bp rfl ?_)
  rw [e00, e01, e02]
  refine bp d01 ?_
  rw [d02, d03, d04, d05]
  refine bn rfl (bp rfl (bp rfl ?_))
  rw [w1]
  cases c0
  · rw [L_mat_Mul_0]
    unfold B_mat_Mul_0
    refine bp rfl (bp rfl ?_)
    rw [e10, e11, e12]
    refine bp d11 ?_
    rw [d12, d13, d14, d15]
    refine bn rfl (bp rfl (bp rfl ?_))
    rw [w2]
    cases c1
    · rw [L_mat_Mul_0]
      unfold B_mat_Mul_0
      refine bp rfl (bp rfl ?_)
      rw [e20, e21, e22]
      refine bp d21 ?_
      rw [d22, d23, d24, d25]
      refine bn rfl (bp rfl (bp rfl ?_))
      rw [w3]
      rw [L_mat_Mul_0]
      unfold B_mat_Mul_0
      exact bn rfl (bp rfl rfl)
    · rw [L_mat_Mul_0]
      unfold B_mat_Mul_0
      refine bp rfl (bp rfl ?_)
      rw [e20, e21, e22]
      refine bp d21 ?_
      rw [d22, d23, d24]
      refine bp rfl (bp rfl (bp rfl ?_))
      rw [w3]
      rw [L_mat_Mul_0]
      unfold B_mat_Mul_0
      exact bn rfl (bp rfl rfl)
  · rw [L_mat_Mul_0]
    unfold B_mat_Mul_0
    refine bp rfl (bp rfl ?_)
    rw [e10, e11, e12]
    refine bp d11 ?_
    rw [d12, d13, d14]
    refine bp rfl (bp rfl (bp rfl ?_))
    rw [w2]
    rw [L_mat_Mul_0]
    unfold B_mat_Mul_0
    refine bp rfl (bp rfl ?_)
    rw [e20, e21, e22]
    refine bp d21 ?_
    rw [d22, d23, d24]
    refine bp rfl (bp rfl (bp rfl ?_))
    rw [w3]
    rw [L_mat_Mul_0]
    unfold B_mat_Mul_0
    exact bn rfl (bp rfl rfl)
theorem a_mMul (F : Nat) (hF : 200 ≤ F) {a0 a1 a2 a3 a4 a5 a6 a7 a8 b0 b1 b2 b3 b4 b5 b6 b7 b8 : Int} (ha0 : I64 a0) (ha1 : I64 a1) (ha2 : I64 a2) (ha3 : I64 a3) (ha4 : I64 a4) (ha5 : I64 a5) (ha6 : I64 a6) (ha7 : I64 a7) (ha8 : I64 a8) (hb0 : I64 b0) (hb1 : I64 b1) (hb2 : I64 b2) (hb3 : I64 b3) (hb4 : I64 b4) (hb5 : I64 b5) (hb6 : I64 b6) (hb7 : I64 b7) (hb8 : I64 b8) : ok_mat_Mul F a0 a1 a2 a3 a4 a5 a6 a7 a8 b0 b1 b2 b3 b4 b5 b6 b7 b8 = true ∧ o_mat_Mul_0 F a0 a1 a2 a3 a4 a5 a6 a7 a8 b0 b1 b2 b3 b4 b5 b6 b7 b8 = clipV (dotZ a0 a1 a2 b0 b3 b6) ∧ o_mat_Mul_1 F a0 a1 a2 a3 a4 a5 a6 a7 a8 b0 b1 b2 b3 b4 b5 b6 b7 b8 = clipV (dotZ a0 a1 a2 b1 b4 b7) ∧ o_mat_Mul_2 F a0 a1 a2 a3 a4 a5 a6 a7 a8 b0 b1 b2 b3 b4 b5 b6 b7 b8 = clipV (dotZ a0 a1 a2 b2 b5 b8) ∧ o_mat_Mul_3 F a0 a1 a2 a3 a4 a5 a6 a7 a8 b0 b1 b2 b3 b4 b5 b6 b7 b8 = clipV (dotZ a3 a4 a5 b0 b3 b6) ∧ o_mat_Mul_4 F a0 a1 a2 a3 a4 a5 a6 a7 a8 b0 b1 b2 b3 b4 b5 b6 b7 b8 = clipV (dotZ a3 a4 a5 b1 b4 b7) ∧ o_mat_Mul_5 F a0 a1 a2 a3 a4 a5 a6 a7 a8 b0 b1 b2 b3 b4 b5 b6 b7 b8 = clipV (dotZ a3 a4 a5 b2 b5 b8) ∧ o_mat_Mul_6 F a0 a1 a2 a3 a4 a5 a6 a7 a8 b0 b1 b2 b3 b4 b5 b6 b7 b8 = clipV (dotZ a6 a7 a8 b0 b3 b6) ∧ o_mat_Mul_7 F a0 a1 a2 a3 a4 a5 a6 a7 a8 b0 b1 b2 b3 b4 b5 b6 b7 b8 = clipV (dotZ a6 a7 a8 b1 b4 b7) ∧ o_mat_Mul_8 F a0 a1 a2 a3 a4 a5 a6 a7 a8 b0 b1 b2 b3 b4 b5 b6 b7 b8 = clipV (dotZ a6 a7 a8 b2 b5 b8) ∧ o_mat_Mul_9 F a0 a1 a2 a3 a4 a5 a6 a7 a8 b0 b1 b2 b3 b4 b5 b6 b7 b8 = ((clipC (dotZ a0 a1 a2 b0 b3 b6) || clipC (dotZ a0 a1 a2 b1 b4 b7) || clipC (dotZ a0 a1 a2 b2 b5 b8)) || (clipC (dotZ a3 a4 a5 b0 b3 b6) || clipC (dotZ a3 a4 a5 b1 b4 b7) || clipC (dotZ a3 a4 a5 b2 b5 b8)) || (clipC (dotZ a6 a7 a8 b0 b3 b6) || clipC (dotZ a6 a7 a8 b1 b4 b7) || clipC (dotZ a6 a7 a8 b2 b5 b8))) := by
  have d0 := a_mApply F hF hb0 hb3 hb6 hb1 hb4 hb7 hb2 hb5 hb8 ha0 ha1 ha2
  rw [dot_turn a0 a1 a2 b0 b3 b6, dot_turn a0 a1 a2 b1 b4 b7, dot_turn a0 a1 a2 b2 b5 b8] at d0
  have d1 := a_mApply F hF hb0 hb3 hb6 hb1 hb4 hb7 hb2 hb5 hb8 ha3 ha4 ha5
  rw [dot_turn a3 a4 a5 b0 b3 b6, dot_turn a3 a4 a5 b1 b4 b7, dot_turn a3 a4 a5 b2 b5 b8] at d1
  have d2 := a_mApply F hF hb0 hb3 hb6 hb1 hb4 hb7 hb2 hb5 hb8 ha6 ha7 ha8
  rw [dot_turn a6 a7 a8 b0 b3 b6, dot_turn a6 a7 a8 b1 b4 b7, dot_turn a6 a7 a8 b2 b5 b8] at d2
  exact k_mat_Mul F _ _ _ _ _ _ _ _ _ _ _ _ _ _ _ _ _ _ (f_Mul' F hF d0 d1 d2)
theorem neg_both (x : Int) : IntKind.wrap .i64 (0 - bothS x) = -bothS x := by
  have := (both_bd x).2
  rw [wi64_in (by unfold I64; omega), Int.zero_sub]
theorem a_mAbout2 (F : Nat) (hF : 200 ≤ F) {x : Int} (hx : U32 x) : ok_mat_About F 2 x = true ∧ o_mat_About_0 F 2 x = (bothC x) ∧ o_mat_About_1 F 2 x = (-bothS x) ∧ o_mat_About_2 F 2 x = 0 ∧ o_mat_About_3 F 2 x = (bothS x) ∧ o_mat_About_4 F 2 x = (bothC x) ∧ o_mat_About_5 F 2 x = 0 ∧ o_mat_About_6 F 2 x = 0 ∧ o_mat_About_7 F 2 x = 0 ∧ o_mat_About_8 F 2 x = 4294967296 ∧ o_mat_About_9 F 2 x = 0 := by
  refine k_mat_About F _ _ ?_
  unfold f_mat_About
  obtain ⟨h1, h2, h3⟩ := a_tBoth F hF hx
  obtain ⟨m0, mm0, mm1, mm2, mm3, mm4, mm5, mm6, mm7, mm8⟩ := a_mSame F hF
  have w1 : Int.tmod (IntKind.wrap .i64 (2 + 1)) 3 = 0 := by decide
  have w2 : Int.tmod (IntKind.wrap .i64 (2 + 2)) 3 = 1 := by decide
  refine bn rfl (bn rfl (bp h1 ?_))
  rw [h2, h3, w1, w2]
  refine bp m0 ?_
  rw [mm0, mm1, mm2, mm3, mm4, mm5, mm6, mm7, mm8]
  dsimp only
  rw [neg_both]
  refine bp rfl (bp rfl (bp rfl (bp rfl (bp rfl (bp rfl (bp rfl (bp rfl (bp rfl (bp rfl (bp rfl (bp rfl (bp rfl ?_))))))))))))
  rfl
theorem f_works07 (F : Nat) (hF : 200 ≤ F) : f_law07_works F = some (.v (.bool true)) := by
  unfold f_law07_works
  have hI : ∀ y : Int, -4294967296 ≤ y ∧ y ≤ 4294967296 → I64 y := fun y h => by unfold I64; omega
  obtain ⟨⟨b1, b2⟩, b3, b4⟩ := both_bd 1073741824
  obtain ⟨a0_, aa0, aa1, aa2, aa3, aa4, aa5, aa6, aa7, aa8, a9_⟩ := a_mAbout2 F hF (x := 1073741824) (by unfold U32; omega)
  have eC : bothC 1073741824 = (-23) := by decide +kernel
  have eS : bothS 1073741824 = 4294967296 := by decide +kernel
  rw [eC] at aa0 aa4
  rw [eS] at aa1 aa3
  refine bp a0_ ?_
  rw [aa0, aa1, aa2, aa3, aa4, aa5, aa6, aa7, aa8]
  obtain ⟨p0_, p1, p2, p3, p4⟩ := a_mApply F hF (a0 := (-23)) (a1 := -4294967296) (a2 := 0) (a3 := 4294967296) (a4 := (-23)) (a5 := 0) (a6 := 0) (a7 := 0) (a8 := 4294967296) (u0 := 4294967296) (u1 := 0) (u2 := 0) (by unfold I64; omega) (by unfold I64; omega) (by unfold I64; omega) (by unfold I64; omega) (by unfold I64; omega) (by unfold I64; omega) (by unfold I64; omega) (by unfold I64; omega) (by unfold I64; omega) (by unfold I64; omega) (by unfold I64; omega) (by unfold I64; omega)
  obtain ⟨q0_, q1, q2, q3, q4⟩ := a_mApply F hF (a0 := (-23)) (a1 := -4294967296) (a2 := 0) (a3 := 4294967296) (a4 := (-23)) (a5 := 0) (a6 := 0) (a7 := 0) (a8 := 4294967296) (u0 := 0) (u1 := 0) (u2 := 4294967296) (by unfold I64; omega) (by unfold I64; omega) (by unfold I64; omega) (by unfold I64; omega) (by unfold I64; omega) (by unfold I64; omega) (by unfold I64; omega) (by unfold I64; omega) (by unfold I64; omega) (by unfold I64; omega) (by unfold I64; omega) (by unfold I64; omega)
  obtain ⟨m0, mm0, mm1, mm2, mm3, mm4, mm5, mm6, mm7, mm8⟩ := a_mSame F hF
  refine bp p0_ ?_
  refine bp q0_ ?_
  refine bp (by rw [a9_]; rfl) ?_
  refine bp ?_ ?_
  · rw [p2]; decide
  refine bp ?_ ?_
  · rw [p4]; decide
  refine bp ?_ ?_
  · rw [q1, q2, q3]; decide
  refine bp ?_ ?_
  · rw [q4]; decide
  refine bp m0 (some_bool ?_)
  rw [mm4]; rfl
theorem a_works07 (F : Nat) (hF : 200 ≤ F) : ok_law07_works F = true ∧ o_law07_works_0 F = true := k_law07_works F (f_works07 F hF)
end Go.Xv
namespace Go.Xv
namespace Cx
def q : Rat := 340282366920938463463374607431768211456
theorem q0 : (0 : Rat) < q := by decide +kernel
def r : Rat := 1 / q
theorem r0 : (0 : Rat) < r := by decide +kernel
def w1 : Int := 497805226624462170283482630030
end Cx
end Go.Xv
namespace Go.Xv
theorem pr_one (a : Int) : pr 4294967296 a = a ∧ pr a 4294967296 = a := by
  have : pr a 4294967296 = a := by unfold pr; omega
  exact ⟨by rw [pr_comm]; exact this, this⟩
theorem pr_nil (a : Int) : pr 0 a = 0 ∧ pr a 0 = 0 := by
  have : pr a 0 = 0 := by unfold pr; rw [Int.mul_zero]; decide
  exact ⟨by rw [pr_comm]; exact this, this⟩
theorem dot_0 (x y z : Int) : dotZ 4294967296 0 0 x y z = x ∧ dotZ x y z 4294967296 0 0 = x := by
  unfold dotZ
  rw [(pr_one x).1, (pr_one x).2, (pr_nil y).1, (pr_nil y).2, (pr_nil z).1, (pr_nil z).2]
  omega
theorem dot_1 (x y z : Int) : dotZ 0 4294967296 0 x y z = y ∧ dotZ x y z 0 4294967296 0 = y := by
  unfold dotZ
  rw [(pr_one y).1, (pr_one y).2, (pr_nil x).1, (pr_nil x).2, (pr_nil z).1, (pr_nil z).2]
  omega
theorem dot_2 (x y z : Int) : dotZ 0 0 4294967296 x y z = z ∧ dotZ x y z 0 0 4294967296 = z := by
  unfold dotZ
  rw [(pr_one z).1, (pr_one z).2, (pr_nil x).1, (pr_nil x).2, (pr_nil y).1, (pr_nil y).2]
  omega
end Go.Xv
namespace Go.Xv
theorem f_MatSame (F : Nat) (hF : 200 ≤ F) {a0 a1 a2 a3 a4 a5 a6 a7 a8 a9 a10 a11 : Int} (ha0 : I64 a0) (ha1 : I64 a1) (ha2 : I64 a2) (ha3 : I64 a3) (ha4 : I64 a4) (ha5 : I64 a5) (ha6 : I64 a6) (ha7 : I64 a7) (ha8 : I64 a8) (ha9 : I64 a9) (ha10 : I64 a10) (ha11 : I64 a11) : f_law07_MatSame F a0 a1 a2 a3 a4 a5 a6 a7 a8 a9 a10 a11 = some (.v (.bool true)) := by
  unfold f_law07_MatSame
  obtain ⟨w1, w2⟩ := a_works07 F hF
  have j0 : I64 0 := by unfold I64; omega
  have jO : I64 4294967296 := by unfold I64; omega
  obtain ⟨v0, v1, v2, v3, v4, v5, v6, v7, v8, v9⟩ := a_mSame F hF
  obtain ⟨p0, p1, p2, p3, p4, p5, p6, p7, p8, p9, p10⟩ := a_mMul F hF jO j0 j0 j0 jO j0 j0 j0 jO ha0 ha1 ha2 ha3 ha4 ha5 ha6 ha7 ha8
  obtain ⟨q0, q1, q2, q3, q4, q5, q6, q7, q8, q9, q10⟩ := a_mMul F hF ha0 ha1 ha2 ha3 ha4 ha5 ha6 ha7 ha8 jO j0 j0 j0 jO j0 j0 j0 jO
  obtain ⟨r0, r1, r2, r3, r4⟩ := a_mApply F hF jO j0 j0 j0 jO j0 j0 j0 jO ha9 ha10 ha11
  obtain ⟨t0, t1, t2, t3, t4, t5, t6, t7, t8, t9⟩ := a_mBack F hF a0 a1 a2 a3 a4 a5 a6 a7 a8
  obtain ⟨u0, u1, u2, u3, u4, u5, u6, u7, u8, u9⟩ := a_mBack F hF a0 a3 a6 a1 a4 a7 a2 a5 a8
  simp only [(dot_0 _ _ _).1, (dot_0 _ _ _).2, (dot_1 _ _ _).1, (dot_1 _ _ _).2, (dot_2 _ _ _).1, (dot_2 _ _ _).2] at p1 p2 p3 p4 p5 p6 p7 p8 p9 p10 q1 q2 q3 q4 q5 q6 q7 q8 q9 q10 r1 r2 r3 r4
  simp only [(clip_in ha0).1, (clip_in ha0).2, (clip_in ha1).1, (clip_in ha1).2, (clip_in ha2).1, (clip_in ha2).2, (clip_in ha3).1, (clip_in ha3).2, (clip_in ha4).1, (clip_in ha4).2, (clip_in ha5).1, (clip_in ha5).2, (clip_in ha6).1, (clip_in ha6).2, (clip_in ha7).1, (clip_in ha7).2, (clip_in ha8).1, (clip_in ha8).2, (clip_in ha9).1, (clip_in ha9).2, (clip_in ha10).1, (clip_in ha10).2, (clip_in ha11).1, (clip_in ha11).2] at p1 p2 p3 p4 p5 p6 p7 p8 p9 p10 q1 q2 q3 q4 q5 q6 q7 q8 q9 q10 r1 r2 r3 r4
  refine bp w1 (bn (by rw [w2]; rfl) (bp v0 ?_))
  rw [v1, v2, v3, v4, v5, v6, v7, v8, v9]
  refine bp p0 (bp v0 (bp q0 (bp v0 (bp r0 (bp ?_ (bp ?_ (bp ?_ (bp ?_ (bp ?_ (bp ?_ (bp t0 ?_)))))))))))
  · rw [p1, p2, p3, p4, p5, p6, p7, p8, p9]; simp
  · rw [q1, q2, q3, q4, q5, q6, q7, q8, q9]; simp
  · rw [r1, r2, r3]; simp
  · rw [p10]; rfl
  · rw [q10]; rfl
  · rw [r4]; rfl
  · rw [t1, t2, t3, t4, t5, t6, t7, t8, t9]
    refine bp u0 (some_bool ?_)
    rw [u1, u2, u3, u4, u5, u6, u7, u8, u9]
    simp
end Go.Xv
namespace Go.Proofs.Ytpnggkefjgpleaa.matSame
open Go.ChangeShapes Go.WideShapes Go.ChangeAt Go.RowKit Go.Xv Go.Proofs.Ytpnggkefjgpleaa.base
set_option linter.unusedVariables false
set_option maxRecDepth 100000 in
theorem lifted (os : Os) (started : os.Started) (H : Type) (enc : TypeId × Value → H) :
    ReturnsInHanded {} Try.checked os 16 .any (Rows.matSameSpec.pre6 enc Try.prog Try.f16 Rows.matSameRow.domain false) (Rows.matSameSpec.post enc Try.prog Try.f16 false true false false) := by
  refine returnsInHanded_of_change (C := Try.checked) own started (by kernel_rfl) Try.func16
    (ChangeSpec.witness6 (enc := enc) (C := Try.checked) false ⟨#[], #[.agg #[.int .i64 0, .int .i64 0, .int .i64 0, .int .i64 0, .int .i64 0, .int .i64 0, .int .i64 0, .int .i64 0, .int .i64 0], .agg #[.int .i64 0, .int .i64 0, .int .i64 0]], []⟩ 8 (by kernel_rfl) (by kernel_rfl) (by kernel_rfl) (by kernel_rfl)) ?_
  intro W base args ds gs before hval0 hW hcnd _
  have hval : ∀ (j : Nat) t v, Try.f16.params[j]? = some t → args[j]? = some v → Value.okWide Try.prog W .any base t v := hval0
  have hW' := hW
  obtain ⟨p, q, hA0, hV, rfl, hfz, hnd⟩ := hW
  have hA : DataW.TrodAll enc Try.prog W 0 (fun _ => true) true Try.f16.params.toList args.toList ds p := hA0
  rw [Try.params16] at hA hval
  obtain ⟨v0, vs0, d0, ds0, p0, q0, hargs, rfl, rfl, h0, r0⟩ := trodAll_cons hA
  obtain ⟨v1, vs1, d1, ds1, p1, q1, rfl, rfl, rfl, h1, r1⟩ := trodAll_cons r0
  obtain ⟨rfl, rfl, rfl⟩ := trodAll_nil r1
  obtain rfl : args = #[v0, v1] := by cases args; simp_all
  obtain ⟨l0, rfl, f0⟩ := open_flat (ks := [some .i64, some .i64, some .i64, some .i64, some .i64, some .i64, some .i64, some .i64, some .i64]) (by kernel_rfl) (by kernel_rfl) (hval 0 55 v0 rfl rfl) h0
  obtain ⟨a0, l0, rfl, wa0, f0⟩ := fitW_some f0
  obtain ⟨a1, l0, rfl, wa1, f0⟩ := fitW_some f0
  obtain ⟨a2, l0, rfl, wa2, f0⟩ := fitW_some f0
  obtain ⟨a3, l0, rfl, wa3, f0⟩ := fitW_some f0
  obtain ⟨a4, l0, rfl, wa4, f0⟩ := fitW_some f0
  obtain ⟨a5, l0, rfl, wa5, f0⟩ := fitW_some f0
  obtain ⟨a6, l0, rfl, wa6, f0⟩ := fitW_some f0
  obtain ⟨a7, l0, rfl, wa7, f0⟩ := fitW_some f0
  obtain ⟨a8, l0, rfl, wa8, f0⟩ := fitW_some f0
  obtain rfl := fitW_nil f0
  obtain ⟨l1, rfl, f1⟩ := open_flat (ks := [some .i64, some .i64, some .i64]) (by kernel_rfl) (by kernel_rfl) (hval 1 24 v1 rfl rfl) h1
  obtain ⟨a9, l1, rfl, wa9, f1⟩ := fitW_some f1
  obtain ⟨a10, l1, rfl, wa10, f1⟩ := fitW_some f1
  obtain ⟨a11, l1, rfl, wa11, f1⟩ := fitW_some f1
  obtain rfl := fitW_nil f1
  refine law_contract laidOut (g_law07_MatSame fuel0) (bt := 4) (by kernel_rfl) (by kernel_rfl) (by kernel_rfl) (by kernel_rfl) rfl hW' ?_
  refine ⟨[.v (.agg #[.int .i64 a0, .int .i64 a1, .int .i64 a2, .int .i64 a3, .int .i64 a4, .int .i64 a5, .int .i64 a6, .int .i64 a7, .int .i64 a8]), .v (.agg #[.int .i64 a9, .int .i64 a10, .int .i64 a11])], rfl, fun i x hx => ?_, unS_of ?_⟩
  · match i, hx with
    | 0, hx => exact ⟨_, rfl, by cases hx; exact Rel.v _ _⟩
    | 1, hx => exact ⟨_, rfl, by cases hx; exact Rel.v _ _⟩
    | _ + 2, hx => cases hx
  · obtain ⟨y1, y2⟩ := k_law07_MatSame fuel0 a0 a1 a2 a3 a4 a5 a6 a7 a8 a9 a10 a11 (f_MatSame fuel0 (by unfold fuel0; omega) (wf_i64 wa0) (wf_i64 wa1) (wf_i64 wa2) (wf_i64 wa3) (wf_i64 wa4) (wf_i64 wa5) (wf_i64 wa6) (wf_i64 wa7) (wf_i64 wa8) (wf_i64 wa9) (wf_i64 wa10) (wf_i64 wa11))
    have e : s_law07_MatSame fuel0 [.v (.agg #[.int .i64 a0, .int .i64 a1, .int .i64 a2, .int .i64 a3, .int .i64 a4, .int .i64 a5, .int .i64 a6, .int .i64 a7, .int .i64 a8]), .v (.agg #[.int .i64 a9, .int .i64 a10, .int .i64 a11])] = some (ok_law07_MatSame fuel0 a0 a1 a2 a3 a4 a5 a6 a7 a8 a9 a10 a11, .v (.bool (o_law07_MatSame_0 fuel0 a0 a1 a2 a3 a4 a5 a6 a7 a8 a9 a10 a11))) := by kernel_rfl
    rw [e, y1, y2]
theorem over : Rows.matSameRow.holds Try.pinned (OpenSpec.ofChange Rows.matSameSpec) :=
  OpenClaim.holds_of_wide 16 Try.f16 rfl rfl rfl rfl rfl rfl rfl ⟨rfl, rfl, rfl, rfl, rfl⟩ rfl rfl rfl rfl rfl (by kernel_rfl) Try.func16 (joined_of (P := Try.prog) behind enter_ rfl rfl ⟨rfl, rfl⟩ (by kernel_rfl))
    (of_decide_eq_true (by kernel_rfl)) (by unfold Func.isWrapper; first | (rw [if_pos (by decide +kernel)]; kernel_rfl) | (rw [if_neg (by decide +kernel)]; exact ⟨rfl, rfl⟩))
    (fun os started H enc _ => lifted os started H enc)
/-- The statement. -/
theorem proved : Rows.MatSameSaid := over
#print axioms proved
end Go.Proofs.Ytpnggkefjgpleaa.matSame
