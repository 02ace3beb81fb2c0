/- The squares of sine and cosine come to One, to within 1024 parts: the law returns true for every input, and leaves its arguments as they were. -/
import Derived.Test.YtpnggkefjgpleaaLTurnUnit
import Derived.KernelRfl
set_option linter.unusedVariables false
namespace Go.Xv
/- 28 _turn_Angle -/
def c_turn_Angle : Cfg := ⟨[0, 1, 4, 5, 6, 7, 8, 9, 15, 20, 26, 27, 28, 38], [(0, [0, 1, 4, 5, 6, 10, 11, 12, 13, 14, 15, 16, 17, 18, 19, 20, 21, 22, 23, 24, 25, 26, 27, 46])], [], []⟩
def ti_turn_Angle : List TV := [.v (.int .i64), .v (.int .i64)]
def to_turn_Angle : TV := .v (.int .u32)
def S_turn_Angle (F : Nat) : FuncId → List VV → Option (Bool × VV) := words [(82, s_turn_opposite F), (83, s_turn_pair_scaled F), (76, s_turn_angles F), (77, s_turn_pair_turned F)]
def T_turn_Angle_0 : TS := ⟨[(0, .v (.int .i64)), (1, .v (.int .i64)), (4, .v (.int .u32)), (5, .lp 0 (.lit 0)), (6, .v (.int .u32)), (26, .v (.agg [.int .i64, .int .i64, .int .i64, .int .i64, .int .i64, .int .i64, .int .i64, .int .i64, .int .i64, .int .i64, .int .i64, .int .i64, .int .i64, .int .i64, .int .i64, .int .i64, .int .i64, .int .i64, .int .i64, .int .i64, .int .i64, .int .i64, .int .i64, .int .i64, .int .i64, .int .i64, .int .i64, .int .i64, .int .i64, .int .i64])), (27, .v (.int .i64))], [(0, ⟨(.ex [.v (.int .i64), .v (.int .i64)]), true⟩)], 1⟩
def T_turn_Angle_0_0 : TS := ⟨[(0, .v (.int .i64)), (1, .v (.int .i64)), (4, .v (.int .u32)), (5, .lp 0 (.lit 0)), (6, .v (.int .u32)), (26, .v (.agg [.int .i64, .int .i64, .int .i64, .int .i64, .int .i64, .int .i64, .int .i64, .int .i64, .int .i64, .int .i64, .int .i64, .int .i64, .int .i64, .int .i64, .int .i64, .int .i64, .int .i64, .int .i64, .int .i64, .int .i64, .int .i64, .int .i64, .int .i64, .int .i64, .int .i64, .int .i64, .int .i64, .int .i64, .int .i64, .int .i64])), (27, .v (.int .i64))], [(0, ⟨(.ex [.v (.int .i64), .v (.int .i64)]), true⟩)], 1⟩
def B_turn_Angle_0 (F : Nat) (rc : Int → Int → Int → Int → Int → Int → Int → Int → Int → Int → Int → Int → Int → Int → Int → Int → Int → Int → Int → Int → Int → Int → Int → Int → Int → Int → Int → Int → Int → Int → Int → Int → Int → Int → Int → Int → Int → R) (ex0 : Int → Int → Int → Int → Int → Int → Int → Int → Int → Int → Int → Int → Int → Int → Int → Int → Int → Int → Int → Int → Int → Int → Int → Int → Int → Int → Int → Int → Int → Int → Int → Int → Int → Int → Int → Int → Int → R) (x0 : Int) (x1 : Int) (x2 : Int) (x3 : Int) (x4 : Int) (x5 : Int) (x6 : Int) (x7 : Int) (x8 : Int) (x9 : Int) (x10 : Int) (x11 : Int) (x12 : Int) (x13 : Int) (x14 : Int) (x15 : Int) (x16 : Int) (x17 : Int) (x18 : Int) (x19 : Int) (x20 : Int) (x21 : Int) (x22 : Int) (x23 : Int) (x24 : Int) (x25 : Int) (x26 : Int) (x27 : Int) (x28 : Int) (x29 : Int) (x30 : Int) (x31 : Int) (x32 : Int) (x33 : Int) (x34 : Int) (x35 : Int) (x36 : Int) : R :=
  bif ((decide (x34 < 30))) then (
    bif (((decide (0 ≤ x34)) && (decide (x34 < 30))) && ((isI .i64 [.v (.int .i64 x4), .v (.int .i64 x5), .v (.int .i64 x6), .v (.int .i64 x7), .v (.int .i64 x8), .v (.int .i64 x9), .v (.int .i64 x10), .v (.int .i64 x11), .v (.int .i64 x12), .v (.int .i64 x13), .v (.int .i64 x14), .v (.int .i64 x15), .v (.int .i64 x16), .v (.int .i64 x17), .v (.int .i64 x18), .v (.int .i64 x19), .v (.int .i64 x20), .v (.int .i64 x21), .v (.int .i64 x22), .v (.int .i64 x23), .v (.int .i64 x24), .v (.int .i64 x25), .v (.int .i64 x26), .v (.int .i64 x27), .v (.int .i64 x28), .v (.int .i64 x29), .v (.int .i64 x30), .v (.int .i64 x31), .v (.int .i64 x32), .v (.int .i64 x33)][((Int.toNat x34) * 1)]?) && true)) then (
      let v412 : Int := (iv [.v (.int .i64 x4), .v (.int .i64 x5), .v (.int .i64 x6), .v (.int .i64 x7), .v (.int .i64 x8), .v (.int .i64 x9), .v (.int .i64 x10), .v (.int .i64 x11), .v (.int .i64 x12), .v (.int .i64 x13), .v (.int .i64 x14), .v (.int .i64 x15), .v (.int .i64 x16), .v (.int .i64 x17), .v (.int .i64 x18), .v (.int .i64 x19), .v (.int .i64 x20), .v (.int .i64 x21), .v (.int .i64 x22), .v (.int .i64 x23), .v (.int .i64 x24), .v (.int .i64 x25), .v (.int .i64 x26), .v (.int .i64 x27), .v (.int .i64 x28), .v (.int .i64 x29), .v (.int .i64 x30), .v (.int .i64 x31), .v (.int .i64 x32), .v (.int .i64 x33)][((Int.toNat x34) * 1)]?)
      let v413 : Bool := (decide (x36 < 0))
      bif (ok_turn_pair_turned F x35 x36 x34 v413) then (
        let v414 : Int := (o_turn_pair_turned_0 F x35 x36 x34 v413)
        let v415 : Int := (o_turn_pair_turned_1 F x35 x36 x34 v413)
        bif v413 then (
          rc x0 x1 x2 ((IntKind.wrap .u32 (x3 + ((IntKind.wrap .u32 ((IntKind.wrap .i64 (0 - v412)))))))) x4 x5 x6 x7 x8 x9 x10 x11 x12 x13 x14 x15 x16 x17 x18 x19 x20 x21 x22 x23 x24 x25 x26 x27 x28 x29 x30 x31 x32 x33 ((IntKind.wrap .i64 (x34 + 1))) v414 v415)
        else (
          rc x0 x1 x2 ((IntKind.wrap .u32 (x3 + ((IntKind.wrap .u32 v412))))) x4 x5 x6 x7 x8 x9 x10 x11 x12 x13 x14 x15 x16 x17 x18 x19 x20 x21 x22 x23 x24 x25 x26 x27 x28 x29 x30 x31 x32 x33 ((IntKind.wrap .i64 (x34 + 1))) v414 v415))
      else (
        none))
    else (
      none))
  else (
    ex0 x0 x1 x2 x3 x4 x5 x6 x7 x8 x9 x10 x11 x12 x13 x14 x15 x16 x17 x18 x19 x20 x21 x22 x23 x24 x25 x26 x27 x28 x29 x30 x31 x32 x33 x34 x35 x36)
def L_turn_Angle_0 (F : Nat) (ex0 : Int → Int → Int → Int → Int → Int → Int → Int → Int → Int → Int → Int → Int → Int → Int → Int → Int → Int → Int → Int → Int → Int → Int → Int → Int → Int → Int → Int → Int → Int → Int → Int → Int → Int → Int → Int → Int → R) : Nat → Int → Int → Int → Int → Int → Int → Int → Int → Int → Int → Int → Int → Int → Int → Int → Int → Int → Int → Int → Int → Int → Int → Int → Int → Int → Int → Int → Int → Int → Int → Int → Int → Int → Int → Int → Int → Int → R
  | 0, _, _, _, _, _, _, _, _, _, _, _, _, _, _, _, _, _, _, _, _, _, _, _, _, _, _, _, _, _, _, _, _, _, _, _, _, _ => none
  | n + 1, x0, x1, x2, x3, x4, x5, x6, x7, x8, x9, x10, x11, x12, x13, x14, x15, x16, x17, x18, x19, x20, x21, x22, x23, x24, x25, x26, x27, x28, x29, x30, x31, x32, x33, x34, x35, x36 => B_turn_Angle_0 F (L_turn_Angle_0 F ex0 n) ex0 x0 x1 x2 x3 x4 x5 x6 x7 x8 x9 x10 x11 x12 x13 x14 x15 x16 x17 x18 x19 x20 x21 x22 x23 x24 x25 x26 x27 x28 x29 x30 x31 x32 x33 x34 x35 x36
def W_turn_Angle (F : Nat) : List LW := [⟨0, T_turn_Angle_0, fun k q => L_turn_Angle_0 F (fun (z0 : Int) (z1 : Int) (z2 : Int) (z3 : Int) (z4 : Int) (z5 : Int) (z6 : Int) (z7 : Int) (z8 : Int) (z9 : Int) (z10 : Int) (z11 : Int) (z12 : Int) (z13 : Int) (z14 : Int) (z15 : Int) (z16 : Int) (z17 : Int) (z18 : Int) (z19 : Int) (z20 : Int) (z21 : Int) (z22 : Int) (z23 : Int) (z24 : Int) (z25 : Int) (z26 : Int) (z27 : Int) (z28 : Int) (z29 : Int) (z30 : Int) (z31 : Int) (z32 : Int) (z33 : Int) (z34 : Int) (z35 : Int) (z36 : Int) => k (.exit 0) (fS T_turn_Angle_0_0 [.i z0, .i z1, .i z2, .i z3, .i z4, .i z5, .i z6, .i z7, .i z8, .i z9, .i z10, .i z11, .i z12, .i z13, .i z14, .i z15, .i z16, .i z17, .i z18, .i z19, .i z20, .i z21, .i z22, .i z23, .i z24, .i z25, .i z26, .i z27, .i z28, .i z29, .i z30, .i z31, .i z32, .i z33, .i z34, .i z35, .i z36])) F (atI (nth q 0)) (atI (nth q 1)) (atI (nth q 2)) (atI (nth q 3)) (atI (nth q 4)) (atI (nth q 5)) (atI (nth q 6)) (atI (nth q 7)) (atI (nth q 8)) (atI (nth q 9)) (atI (nth q 10)) (atI (nth q 11)) (atI (nth q 12)) (atI (nth q 13)) (atI (nth q 14)) (atI (nth q 15)) (atI (nth q 16)) (atI (nth q 17)) (atI (nth q 18)) (atI (nth q 19)) (atI (nth q 20)) (atI (nth q 21)) (atI (nth q 22)) (atI (nth q 23)) (atI (nth q 24)) (atI (nth q 25)) (atI (nth q 26)) (atI (nth q 27)) (atI (nth q 28)) (atI (nth q 29)) (atI (nth q 30)) (atI (nth q 31)) (atI (nth q 32)) (atI (nth q 33)) (atI (nth q 34)) (atI (nth q 35)) (atI (nth q 36))⟩]
def I_turn_Angle (F : Nat) : Nat → VS → (Exit → VS → R) → R := tabI c_turn_Angle (W_turn_Angle F)
def WJ_turn_Angle (F : Nat) : List LJ := []
def J_turn_Angle (F : Nat) : Nat → Nat → VS → (Exit → VS → R) → R := tabJ (WJ_turn_Angle F)
theorem lL_turn_Angle_0 (F : Nat) (k : Exit → VS → R) : ∀ (n : Nat) (x0 : Int) (x1 : Int) (x2 : Int) (x3 : Int) (x4 : Int) (x5 : Int) (x6 : Int) (x7 : Int) (x8 : Int) (x9 : Int) (x10 : Int) (x11 : Int) (x12 : Int) (x13 : Int) (x14 : Int) (x15 : Int) (x16 : Int) (x17 : Int) (x18 : Int) (x19 : Int) (x20 : Int) (x21 : Int) (x22 : Int) (x23 : Int) (x24 : Int) (x25 : Int) (x26 : Int) (x27 : Int) (x28 : Int) (x29 : Int) (x30 : Int) (x31 : Int) (x32 : Int) (x33 : Int) (x34 : Int) (x35 : Int) (x36 : Int), iterC (codeL PP (S_turn_Angle F) c_turn_Angle (I_turn_Angle F) (J_turn_Angle F) (loopAt PP 28 0) 0) (headOf c_turn_Angle 0) k n (fS T_turn_Angle_0 [.i x0, .i x1, .i x2, .i x3, .i x4, .i x5, .i x6, .i x7, .i x8, .i x9, .i x10, .i x11, .i x12, .i x13, .i x14, .i x15, .i x16, .i x17, .i x18, .i x19, .i x20, .i x21, .i x22, .i x23, .i x24, .i x25, .i x26, .i x27, .i x28, .i x29, .i x30, .i x31, .i x32, .i x33, .i x34, .i x35, .i x36]) = L_turn_Angle_0 F (fun (z0 : Int) (z1 : Int) (z2 : Int) (z3 : Int) (z4 : Int) (z5 : Int) (z6 : Int) (z7 : Int) (z8 : Int) (z9 : Int) (z10 : Int) (z11 : Int) (z12 : Int) (z13 : Int) (z14 : Int) (z15 : Int) (z16 : Int) (z17 : Int) (z18 : Int) (z19 : Int) (z20 : Int) (z21 : Int) (z22 : Int) (z23 : Int) (z24 : Int) (z25 : Int) (z26 : Int) (z27 : Int) (z28 : Int) (z29 : Int) (z30 : Int) (z31 : Int) (z32 : Int) (z33 : Int) (z34 : Int) (z35 : Int) (z36 : Int) => k (.exit 0) (fS T_turn_Angle_0_0 [.i z0, .i z1, .i z2, .i z3, .i z4, .i z5, .i z6, .i z7, .i z8, .i z9, .i z10, .i z11, .i z12, .i z13, .i z14, .i z15, .i z16, .i z17, .i z18, .i z19, .i z20, .i z21, .i z22, .i z23, .i z24, .i z25, .i z26, .i z27, .i z28, .i z29, .i z30, .i z31, .i z32, .i z33, .i z34, .i z35, .i z36])) n x0 x1 x2 x3 x4 x5 x6 x7 x8 x9 x10 x11 x12 x13 x14 x15 x16 x17 x18 x19 x20 x21 x22 x23 x24 x25 x26 x27 x28 x29 x30 x31 x32 x33 x34 x35 x36
  | 0, _, _, _, _, _, _, _, _, _, _, _, _, _, _, _, _, _, _, _, _, _, _, _, _, _, _, _, _, _, _, _, _, _, _, _, _, _ => rfl
  | n + 1, x0, x1, x2, x3, x4, x5, x6, x7, x8, x9, x10, x11, x12, x13, x14, x15, x16, x17, x18, x19, x20, x21, x22, x23, x24, x25, x26, x27, x28, x29, x30, x31, x32, x33, x34, x35, x36 => by
    have h0 : ∀ (ok_turn_opposite : Nat → Int → Int → Bool) (o_turn_opposite_0 : Nat → Int → Int → Int) (o_turn_opposite_1 : Nat → Int → Int → Int) (ok_turn_pair_scaled : Nat → Int → Int → Bool) (o_turn_pair_scaled_0 : Nat → Int → Int → Int) (o_turn_pair_scaled_1 : Nat → Int → Int → Int) (ok_turn_angles : Nat → Bool) (o_turn_angles_0 : Nat → Int) (o_turn_angles_1 : Nat → Int) (o_turn_angles_2 : Nat → Int) (o_turn_angles_3 : Nat → Int) (o_turn_angles_4 : Nat → Int) (o_turn_angles_5 : Nat → Int) (o_turn_angles_6 : Nat → Int) (o_turn_angles_7 : Nat → Int) (o_turn_angles_8 : Nat → Int) (o_turn_angles_9 : Nat → Int) (o_turn_angles_10 : Nat → Int) (o_turn_angles_11 : Nat → Int) (o_turn_angles_12 : Nat → Int) (o_turn_angles_13 : Nat → Int) (o_turn_angles_14 : Nat → Int) (o_turn_angles_15 : Nat → Int) (o_turn_angles_16 : Nat → Int) (o_turn_angles_17 : Nat → Int) (o_turn_angles_18 : Nat → Int) (o_turn_angles_19 : Nat → Int) (o_turn_angles_20 : Nat → Int) (o_turn_angles_21 : Nat → Int) (o_turn_angles_22 : Nat → Int) (o_turn_angles_23 : Nat → Int) (o_turn_angles_24 : Nat → Int) (o_turn_angles_25 : Nat → Int) (o_turn_angles_26 : Nat → Int) (o_turn_angles_27 : Nat → Int) (o_turn_angles_28 : Nat → Int) (o_turn_angles_29 : Nat → Int) (ok_turn_pair_turned : Nat → Int → Int → Int → Bool → Bool) (o_turn_pair_turned_0 : Nat → Int → Int → Int → Bool → Int) (o_turn_pair_turned_1 : Nat → Int → Int → Int → Bool → Int) (L_turn_Angle_0 : Nat → (Int → Int → Int → Int → Int → Int → Int → Int → Int → Int → Int → Int → Int → Int → Int → Int → Int → Int → Int → Int → Int → Int → Int → Int → Int → Int → Int → Int → Int → Int → Int → Int → Int → Int → Int → Int → Int → R) → Nat → Int → Int → Int → Int → Int → Int → Int → Int → Int → Int → Int → Int → Int → Int → Int → Int → Int → Int → Int → Int → Int → Int → Int → Int → Int → Int → Int → Int → Int → Int → Int → Int → Int → Int → Int → Int → Int → R), iterC (codeL PP (words [(82, spec ti_turn_opposite to_turn_opposite (fun q => (ok_turn_opposite F (atI (nth q 0)) (atI (nth q 1)))) (fun q => [.i (o_turn_opposite_0 F (atI (nth q 0)) (atI (nth q 1))), .i (o_turn_opposite_1 F (atI (nth q 0)) (atI (nth q 1)))])), (83, spec ti_turn_pair_scaled to_turn_pair_scaled (fun q => (ok_turn_pair_scaled F (atI (nth q 0)) (atI (nth q 1)))) (fun q => [.i (o_turn_pair_scaled_0 F (atI (nth q 0)) (atI (nth q 1))), .i (o_turn_pair_scaled_1 F (atI (nth q 0)) (atI (nth q 1)))])), (76, spec ti_turn_angles to_turn_angles (fun q => (ok_turn_angles F )) (fun q => [.i (o_turn_angles_0 F ), .i (o_turn_angles_1 F ), .i (o_turn_angles_2 F ), .i (o_turn_angles_3 F ), .i (o_turn_angles_4 F ), .i (o_turn_angles_5 F ), .i (o_turn_angles_6 F ), .i (o_turn_angles_7 F ), .i (o_turn_angles_8 F ), .i (o_turn_angles_9 F ), .i (o_turn_angles_10 F ), .i (o_turn_angles_11 F ), .i (o_turn_angles_12 F ), .i (o_turn_angles_13 F ), .i (o_turn_angles_14 F ), .i (o_turn_angles_15 F ), .i (o_turn_angles_16 F ), .i (o_turn_angles_17 F ), .i (o_turn_angles_18 F ), .i (o_turn_angles_19 F ), .i (o_turn_angles_20 F ), .i (o_turn_angles_21 F ), .i (o_turn_angles_22 F ), .i (o_turn_angles_23 F ), .i (o_turn_angles_24 F ), .i (o_turn_angles_25 F ), .i (o_turn_angles_26 F ), .i (o_turn_angles_27 F ), .i (o_turn_angles_28 F ), .i (o_turn_angles_29 F )])), (77, spec ti_turn_pair_turned to_turn_pair_turned (fun q => (ok_turn_pair_turned F (atI (nth q 0)) (atI (nth q 1)) (atI (nth q 2)) (atB (nth q 3)))) (fun q => [.i (o_turn_pair_turned_0 F (atI (nth q 0)) (atI (nth q 1)) (atI (nth q 2)) (atB (nth q 3))), .i (o_turn_pair_turned_1 F (atI (nth q 0)) (atI (nth q 1)) (atI (nth q 2)) (atB (nth q 3)))]))]) c_turn_Angle (tabI c_turn_Angle [⟨0, T_turn_Angle_0, fun k q => L_turn_Angle_0 F (fun (z0 : Int) (z1 : Int) (z2 : Int) (z3 : Int) (z4 : Int) (z5 : Int) (z6 : Int) (z7 : Int) (z8 : Int) (z9 : Int) (z10 : Int) (z11 : Int) (z12 : Int) (z13 : Int) (z14 : Int) (z15 : Int) (z16 : Int) (z17 : Int) (z18 : Int) (z19 : Int) (z20 : Int) (z21 : Int) (z22 : Int) (z23 : Int) (z24 : Int) (z25 : Int) (z26 : Int) (z27 : Int) (z28 : Int) (z29 : Int) (z30 : Int) (z31 : Int) (z32 : Int) (z33 : Int) (z34 : Int) (z35 : Int) (z36 : Int) => k (.exit 0) (fS T_turn_Angle_0_0 [.i z0, .i z1, .i z2, .i z3, .i z4, .i z5, .i z6, .i z7, .i z8, .i z9, .i z10, .i z11, .i z12, .i z13, .i z14, .i z15, .i z16, .i z17, .i z18, .i z19, .i z20, .i z21, .i z22, .i z23, .i z24, .i z25, .i z26, .i z27, .i z28, .i z29, .i z30, .i z31, .i z32, .i z33, .i z34, .i z35, .i z36])) F (atI (nth q 0)) (atI (nth q 1)) (atI (nth q 2)) (atI (nth q 3)) (atI (nth q 4)) (atI (nth q 5)) (atI (nth q 6)) (atI (nth q 7)) (atI (nth q 8)) (atI (nth q 9)) (atI (nth q 10)) (atI (nth q 11)) (atI (nth q 12)) (atI (nth q 13)) (atI (nth q 14)) (atI (nth q 15)) (atI (nth q 16)) (atI (nth q 17)) (atI (nth q 18)) (atI (nth q 19)) (atI (nth q 20)) (atI (nth q 21)) (atI (nth q 22)) (atI (nth q 23)) (atI (nth q 24)) (atI (nth q 25)) (atI (nth q 26)) (atI (nth q 27)) (atI (nth q 28)) (atI (nth q 29)) (atI (nth q 30)) (atI (nth q 31)) (atI (nth q 32)) (atI (nth q 33)) (atI (nth q 34)) (atI (nth q 35)) (atI (nth q 36))⟩]) (tabJ []) (loopAt PP 28 0) 0) (headOf c_turn_Angle 0) k (n + 1) (fS T_turn_Angle_0 [.i x0, .i x1, .i x2, .i x3, .i x4, .i x5, .i x6, .i x7, .i x8, .i x9, .i x10, .i x11, .i x12, .i x13, .i x14, .i x15, .i x16, .i x17, .i x18, .i x19, .i x20, .i x21, .i x22, .i x23, .i x24, .i x25, .i x26, .i x27, .i x28, .i x29, .i x30, .i x31, .i x32, .i x33, .i x34, .i x35, .i x36]) = (fun (rc : Int → Int → Int → Int → Int → Int → Int → Int → Int → Int → Int → Int → Int → Int → Int → Int → Int → Int → Int → Int → Int → Int → Int → Int → Int → Int → Int → Int → Int → Int → Int → Int → Int → Int → Int → Int → Int → R) (ex0 : Int → Int → Int → Int → Int → Int → Int → Int → Int → Int → Int → Int → Int → Int → Int → Int → Int → Int → Int → Int → Int → Int → Int → Int → Int → Int → Int → Int → Int → Int → Int → Int → Int → Int → Int → Int → Int → R) (x0 : Int) (x1 : Int) (x2 : Int) (x3 : Int) (x4 : Int) (x5 : Int) (x6 : Int) (x7 : Int) (x8 : Int) (x9 : Int) (x10 : Int) (x11 : Int) (x12 : Int) (x13 : Int) (x14 : Int) (x15 : Int) (x16 : Int) (x17 : Int) (x18 : Int) (x19 : Int) (x20 : Int) (x21 : Int) (x22 : Int) (x23 : Int) (x24 : Int) (x25 : Int) (x26 : Int) (x27 : Int) (x28 : Int) (x29 : Int) (x30 : Int) (x31 : Int) (x32 : Int) (x33 : Int) (x34 : Int) (x35 : Int) (x36 : Int) => (
  bif ((decide (x34 < 30))) then (
    bif (((decide (0 ≤ x34)) && (decide (x34 < 30))) && ((isI .i64 [.v (.int .i64 x4), .v (.int .i64 x5), .v (.int .i64 x6), .v (.int .i64 x7), .v (.int .i64 x8), .v (.int .i64 x9), .v (.int .i64 x10), .v (.int .i64 x11), .v (.int .i64 x12), .v (.int .i64 x13), .v (.int .i64 x14), .v (.int .i64 x15), .v (.int .i64 x16), .v (.int .i64 x17), .v (.int .i64 x18), .v (.int .i64 x19), .v (.int .i64 x20), .v (.int .i64 x21), .v (.int .i64 x22), .v (.int .i64 x23), .v (.int .i64 x24), .v (.int .i64 x25), .v (.int .i64 x26), .v (.int .i64 x27), .v (.int .i64 x28), .v (.int .i64 x29), .v (.int .i64 x30), .v (.int .i64 x31), .v (.int .i64 x32), .v (.int .i64 x33)][((Int.toNat x34) * 1)]?) && true)) then (
      let v412 : Int := (iv [.v (.int .i64 x4), .v (.int .i64 x5), .v (.int .i64 x6), .v (.int .i64 x7), .v (.int .i64 x8), .v (.int .i64 x9), .v (.int .i64 x10), .v (.int .i64 x11), .v (.int .i64 x12), .v (.int .i64 x13), .v (.int .i64 x14), .v (.int .i64 x15), .v (.int .i64 x16), .v (.int .i64 x17), .v (.int .i64 x18), .v (.int .i64 x19), .v (.int .i64 x20), .v (.int .i64 x21), .v (.int .i64 x22), .v (.int .i64 x23), .v (.int .i64 x24), .v (.int .i64 x25), .v (.int .i64 x26), .v (.int .i64 x27), .v (.int .i64 x28), .v (.int .i64 x29), .v (.int .i64 x30), .v (.int .i64 x31), .v (.int .i64 x32), .v (.int .i64 x33)][((Int.toNat x34) * 1)]?)
      let v413 : Bool := (decide (x36 < 0))
      bif (ok_turn_pair_turned F x35 x36 x34 v413) then (
        let v414 : Int := (o_turn_pair_turned_0 F x35 x36 x34 v413)
        let v415 : Int := (o_turn_pair_turned_1 F x35 x36 x34 v413)
        bif v413 then (
          rc x0 x1 x2 ((IntKind.wrap .u32 (x3 + ((IntKind.wrap .u32 ((IntKind.wrap .i64 (0 - v412)))))))) x4 x5 x6 x7 x8 x9 x10 x11 x12 x13 x14 x15 x16 x17 x18 x19 x20 x21 x22 x23 x24 x25 x26 x27 x28 x29 x30 x31 x32 x33 ((IntKind.wrap .i64 (x34 + 1))) v414 v415)
        else (
          rc x0 x1 x2 ((IntKind.wrap .u32 (x3 + ((IntKind.wrap .u32 v412))))) x4 x5 x6 x7 x8 x9 x10 x11 x12 x13 x14 x15 x16 x17 x18 x19 x20 x21 x22 x23 x24 x25 x26 x27 x28 x29 x30 x31 x32 x33 ((IntKind.wrap .i64 (x34 + 1))) v414 v415))
      else (
        none))
    else (
      none))
  else (
    ex0 x0 x1 x2 x3 x4 x5 x6 x7 x8 x9 x10 x11 x12 x13 x14 x15 x16 x17 x18 x19 x20 x21 x22 x23 x24 x25 x26 x27 x28 x29 x30 x31 x32 x33 x34 x35 x36) : R)) (fun (y0 : Int) (y1 : Int) (y2 : Int) (y3 : Int) (y4 : Int) (y5 : Int) (y6 : Int) (y7 : Int) (y8 : Int) (y9 : Int) (y10 : Int) (y11 : Int) (y12 : Int) (y13 : Int) (y14 : Int) (y15 : Int) (y16 : Int) (y17 : Int) (y18 : Int) (y19 : Int) (y20 : Int) (y21 : Int) (y22 : Int) (y23 : Int) (y24 : Int) (y25 : Int) (y26 : Int) (y27 : Int) (y28 : Int) (y29 : Int) (y30 : Int) (y31 : Int) (y32 : Int) (y33 : Int) (y34 : Int) (y35 : Int) (y36 : Int) => iterC (codeL PP (words [(82, spec ti_turn_opposite to_turn_opposite (fun q => (ok_turn_opposite F (atI (nth q 0)) (atI (nth q 1)))) (fun q => [.i (o_turn_opposite_0 F (atI (nth q 0)) (atI (nth q 1))), .i (o_turn_opposite_1 F (atI (nth q 0)) (atI (nth q 1)))])), (83, spec ti_turn_pair_scaled to_turn_pair_scaled (fun q => (ok_turn_pair_scaled F (atI (nth q 0)) (atI (nth q 1)))) (fun q => [.i (o_turn_pair_scaled_0 F (atI (nth q 0)) (atI (nth q 1))), .i (o_turn_pair_scaled_1 F (atI (nth q 0)) (atI (nth q 1)))])), (76, spec ti_turn_angles to_turn_angles (fun q => (ok_turn_angles F )) (fun q => [.i (o_turn_angles_0 F ), .i (o_turn_angles_1 F ), .i (o_turn_angles_2 F ), .i (o_turn_angles_3 F ), .i (o_turn_angles_4 F ), .i (o_turn_angles_5 F ), .i (o_turn_angles_6 F ), .i (o_turn_angles_7 F ), .i (o_turn_angles_8 F ), .i (o_turn_angles_9 F ), .i (o_turn_angles_10 F ), .i (o_turn_angles_11 F ), .i (o_turn_angles_12 F ), .i (o_turn_angles_13 F ), .i (o_turn_angles_14 F ), .i (o_turn_angles_15 F ), .i (o_turn_angles_16 F ), .i (o_turn_angles_17 F ), .i (o_turn_angles_18 F ), .i (o_turn_angles_19 F ), .i (o_turn_angles_20 F ), .i (o_turn_angles_21 F ), .i (o_turn_angles_22 F ), .i (o_turn_angles_23 F ), .i (o_turn_angles_24 F ), .i (o_turn_angles_25 F ), .i (o_turn_angles_26 F ), .i (o_turn_angles_27 F ), .i (o_turn_angles_28 F ), .i (o_turn_angles_29 F )])), (77, spec ti_turn_pair_turned to_turn_pair_turned (fun q => (ok_turn_pair_turned F (atI (nth q 0)) (atI (nth q 1)) (atI (nth q 2)) (atB (nth q 3)))) (fun q => [.i (o_turn_pair_turned_0 F (atI (nth q 0)) (atI (nth q 1)) (atI (nth q 2)) (atB (nth q 3))), .i (o_turn_pair_turned_1 F (atI (nth q 0)) (atI (nth q 1)) (atI (nth q 2)) (atB (nth q 3)))]))]) c_turn_Angle (tabI c_turn_Angle [⟨0, T_turn_Angle_0, fun k q => L_turn_Angle_0 F (fun (z0 : Int) (z1 : Int) (z2 : Int) (z3 : Int) (z4 : Int) (z5 : Int) (z6 : Int) (z7 : Int) (z8 : Int) (z9 : Int) (z10 : Int) (z11 : Int) (z12 : Int) (z13 : Int) (z14 : Int) (z15 : Int) (z16 : Int) (z17 : Int) (z18 : Int) (z19 : Int) (z20 : Int) (z21 : Int) (z22 : Int) (z23 : Int) (z24 : Int) (z25 : Int) (z26 : Int) (z27 : Int) (z28 : Int) (z29 : Int) (z30 : Int) (z31 : Int) (z32 : Int) (z33 : Int) (z34 : Int) (z35 : Int) (z36 : Int) => k (.exit 0) (fS T_turn_Angle_0_0 [.i z0, .i z1, .i z2, .i z3, .i z4, .i z5, .i z6, .i z7, .i z8, .i z9, .i z10, .i z11, .i z12, .i z13, .i z14, .i z15, .i z16, .i z17, .i z18, .i z19, .i z20, .i z21, .i z22, .i z23, .i z24, .i z25, .i z26, .i z27, .i z28, .i z29, .i z30, .i z31, .i z32, .i z33, .i z34, .i z35, .i z36])) F (atI (nth q 0)) (atI (nth q 1)) (atI (nth q 2)) (atI (nth q 3)) (atI (nth q 4)) (atI (nth q 5)) (atI (nth q 6)) (atI (nth q 7)) (atI (nth q 8)) (atI (nth q 9)) (atI (nth q 10)) (atI (nth q 11)) (atI (nth q 12)) (atI (nth q 13)) (atI (nth q 14)) (atI (nth q 15)) (atI (nth q 16)) (atI (nth q 17)) (atI (nth q 18)) (atI (nth q 19)) (atI (nth q 20)) (atI (nth q 21)) (atI (nth q 22)) (atI (nth q 23)) (atI (nth q 24)) (atI (nth q 25)) (atI (nth q 26)) (atI (nth q 27)) (atI (nth q 28)) (atI (nth q 29)) (atI (nth q 30)) (atI (nth q 31)) (atI (nth q 32)) (atI (nth q 33)) (atI (nth q 34)) (atI (nth q 35)) (atI (nth q 36))⟩]) (tabJ []) (loopAt PP 28 0) 0) (headOf c_turn_Angle 0) k n (fS T_turn_Angle_0 [.i y0, .i y1, .i y2, .i y3, .i y4, .i y5, .i y6, .i y7, .i y8, .i y9, .i y10, .i y11, .i y12, .i y13, .i y14, .i y15, .i y16, .i y17, .i y18, .i y19, .i y20, .i y21, .i y22, .i y23, .i y24, .i y25, .i y26, .i y27, .i y28, .i y29, .i y30, .i y31, .i y32, .i y33, .i y34, .i y35, .i y36])) (fun (z0 : Int) (z1 : Int) (z2 : Int) (z3 : Int) (z4 : Int) (z5 : Int) (z6 : Int) (z7 : Int) (z8 : Int) (z9 : Int) (z10 : Int) (z11 : Int) (z12 : Int) (z13 : Int) (z14 : Int) (z15 : Int) (z16 : Int) (z17 : Int) (z18 : Int) (z19 : Int) (z20 : Int) (z21 : Int) (z22 : Int) (z23 : Int) (z24 : Int) (z25 : Int) (z26 : Int) (z27 : Int) (z28 : Int) (z29 : Int) (z30 : Int) (z31 : Int) (z32 : Int) (z33 : Int) (z34 : Int) (z35 : Int) (z36 : Int) => k (.exit 0) (fS T_turn_Angle_0_0 [.i z0, .i z1, .i z2, .i z3, .i z4, .i z5, .i z6, .i z7, .i z8, .i z9, .i z10, .i z11, .i z12, .i z13, .i z14, .i z15, .i z16, .i z17, .i z18, .i z19, .i z20, .i z21, .i z22, .i z23, .i z24, .i z25, .i z26, .i z27, .i z28, .i z29, .i z30, .i z31, .i z32, .i z33, .i z34, .i z35, .i z36])) x0 x1 x2 x3 x4 x5 x6 x7 x8 x9 x10 x11 x12 x13 x14 x15 x16 x17 x18 x19 x20 x21 x22 x23 x24 x25 x26 x27 x28 x29 x30 x31 x32 x33 x34 x35 x36 := by
      intros
      kernel_rfl
    have h : iterC (codeL PP (S_turn_Angle F) c_turn_Angle (I_turn_Angle F) (J_turn_Angle F) (loopAt PP 28 0) 0) (headOf c_turn_Angle 0) k (n + 1) (fS T_turn_Angle_0 [.i x0, .i x1, .i x2, .i x3, .i x4, .i x5, .i x6, .i x7, .i x8, .i x9, .i x10, .i x11, .i x12, .i x13, .i x14, .i x15, .i x16, .i x17, .i x18, .i x19, .i x20, .i x21, .i x22, .i x23, .i x24, .i x25, .i x26, .i x27, .i x28, .i x29, .i x30, .i x31, .i x32, .i x33, .i x34, .i x35, .i x36]) = B_turn_Angle_0 F (fun (y0 : Int) (y1 : Int) (y2 : Int) (y3 : Int) (y4 : Int) (y5 : Int) (y6 : Int) (y7 : Int) (y8 : Int) (y9 : Int) (y10 : Int) (y11 : Int) (y12 : Int) (y13 : Int) (y14 : Int) (y15 : Int) (y16 : Int) (y17 : Int) (y18 : Int) (y19 : Int) (y20 : Int) (y21 : Int) (y22 : Int) (y23 : Int) (y24 : Int) (y25 : Int) (y26 : Int) (y27 : Int) (y28 : Int) (y29 : Int) (y30 : Int) (y31 : Int) (y32 : Int) (y33 : Int) (y34 : Int) (y35 : Int) (y36 : Int) => iterC (codeL PP (S_turn_Angle F) c_turn_Angle (I_turn_Angle F) (J_turn_Angle F) (loopAt PP 28 0) 0) (headOf c_turn_Angle 0) k n (fS T_turn_Angle_0 [.i y0, .i y1, .i y2, .i y3, .i y4, .i y5, .i y6, .i y7, .i y8, .i y9, .i y10, .i y11, .i y12, .i y13, .i y14, .i y15, .i y16, .i y17, .i y18, .i y19, .i y20, .i y21, .i y22, .i y23, .i y24, .i y25, .i y26, .i y27, .i y28, .i y29, .i y30, .i y31, .i y32, .i y33, .i y34, .i y35, .i y36])) (fun (z0 : Int) (z1 : Int) (z2 : Int) (z3 : Int) (z4 : Int) (z5 : Int) (z6 : Int) (z7 : Int) (z8 : Int) (z9 : Int) (z10 : Int) (z11 : Int) (z12 : Int) (z13 : Int) (z14 : Int) (z15 : Int) (z16 : Int) (z17 : Int) (z18 : Int) (z19 : Int) (z20 : Int) (z21 : Int) (z22 : Int) (z23 : Int) (z24 : Int) (z25 : Int) (z26 : Int) (z27 : Int) (z28 : Int) (z29 : Int) (z30 : Int) (z31 : Int) (z32 : Int) (z33 : Int) (z34 : Int) (z35 : Int) (z36 : Int) => k (.exit 0) (fS T_turn_Angle_0_0 [.i z0, .i z1, .i z2, .i z3, .i z4, .i z5, .i z6, .i z7, .i z8, .i z9, .i z10, .i z11, .i z12, .i z13, .i z14, .i z15, .i z16, .i z17, .i z18, .i z19, .i z20, .i z21, .i z22, .i z23, .i z24, .i z25, .i z26, .i z27, .i z28, .i z29, .i z30, .i z31, .i z32, .i z33, .i z34, .i z35, .i z36])) x0 x1 x2 x3 x4 x5 x6 x7 x8 x9 x10 x11 x12 x13 x14 x15 x16 x17 x18 x19 x20 x21 x22 x23 x24 x25 x26 x27 x28 x29 x30 x31 x32 x33 x34 x35 x36 := (h0 ok_turn_opposite o_turn_opposite_0 o_turn_opposite_1 ok_turn_pair_scaled o_turn_pair_scaled_0 o_turn_pair_scaled_1 ok_turn_angles o_turn_angles_0 o_turn_angles_1 o_turn_angles_2 o_turn_angles_3 o_turn_angles_4 o_turn_angles_5 o_turn_angles_6 o_turn_angles_7 o_turn_angles_8 o_turn_angles_9 o_turn_angles_10 o_turn_angles_11 o_turn_angles_12 o_turn_angles_13 o_turn_angles_14 o_turn_angles_15 o_turn_angles_16 o_turn_angles_17 o_turn_angles_18 o_turn_angles_19 o_turn_angles_20 o_turn_angles_21 o_turn_angles_22 o_turn_angles_23 o_turn_angles_24 o_turn_angles_25 o_turn_angles_26 o_turn_angles_27 o_turn_angles_28 o_turn_angles_29 ok_turn_pair_turned o_turn_pair_turned_0 o_turn_pair_turned_1 L_turn_Angle_0).trans (by kernel_rfl)
    rw [h]
    simp only [lL_turn_Angle_0 F k n]
    rfl
def f_turn_Angle (F : Nat) (a0 : Int) (a1 : Int) : R :=
  bif ((a1 == 0)) then (
    bif ((a0 == 0)) then (
      some (.v (.int .u32 0)))
    else (
      bif ((decide (a1 < 0))) then (
        bif (ok_turn_opposite F a1 a0) then (
          let v300 : Int := (o_turn_opposite_0 F a1 a0)
          let v301 : Int := (o_turn_opposite_1 F a1 a0)
          bif (ok_turn_pair_scaled F v300 v301) then (
            bif (ok_turn_angles F) then (
              L_turn_Angle_0 F (fun (v423 : Int) (v424 : Int) (v425 : Int) (v426 : Int) (v427 : Int) (v428 : Int) (v429 : Int) (v430 : Int) (v431 : Int) (v432 : Int) (v433 : Int) (v434 : Int) (v435 : Int) (v436 : Int) (v437 : Int) (v438 : Int) (v439 : Int) (v440 : Int) (v441 : Int) (v442 : Int) (v443 : Int) (v444 : Int) (v445 : Int) (v446 : Int) (v447 : Int) (v448 : Int) (v449 : Int) (v450 : Int) (v451 : Int) (v452 : Int) (v453 : Int) (v454 : Int) (v455 : Int) (v456 : Int) (v457 : Int) (v458 : Int) (v459 : Int) =>
                some (.v (.int .u32 v426))) F a0 a1 0 2147483648 ((o_turn_angles_0 F)) ((o_turn_angles_1 F)) ((o_turn_angles_2 F)) ((o_turn_angles_3 F)) ((o_turn_angles_4 F)) ((o_turn_angles_5 F)) ((o_turn_angles_6 F)) ((o_turn_angles_7 F)) ((o_turn_angles_8 F)) ((o_turn_angles_9 F)) ((o_turn_angles_10 F)) ((o_turn_angles_11 F)) ((o_turn_angles_12 F)) ((o_turn_angles_13 F)) ((o_turn_angles_14 F)) ((o_turn_angles_15 F)) ((o_turn_angles_16 F)) ((o_turn_angles_17 F)) ((o_turn_angles_18 F)) ((o_turn_angles_19 F)) ((o_turn_angles_20 F)) ((o_turn_angles_21 F)) ((o_turn_angles_22 F)) ((o_turn_angles_23 F)) ((o_turn_angles_24 F)) ((o_turn_angles_25 F)) ((o_turn_angles_26 F)) ((o_turn_angles_27 F)) ((o_turn_angles_28 F)) ((o_turn_angles_29 F)) 0 ((o_turn_pair_scaled_0 F v300 v301)) ((o_turn_pair_scaled_1 F v300 v301)))
            else (
              none))
          else (
            none))
        else (
          none))
      else (
        bif (ok_turn_pair_scaled F a1 a0) then (
          bif (ok_turn_angles F) then (
            L_turn_Angle_0 F (fun (v492 : Int) (v493 : Int) (v494 : Int) (v495 : Int) (v496 : Int) (v497 : Int) (v498 : Int) (v499 : Int) (v500 : Int) (v501 : Int) (v502 : Int) (v503 : Int) (v504 : Int) (v505 : Int) (v506 : Int) (v507 : Int) (v508 : Int) (v509 : Int) (v510 : Int) (v511 : Int) (v512 : Int) (v513 : Int) (v514 : Int) (v515 : Int) (v516 : Int) (v517 : Int) (v518 : Int) (v519 : Int) (v520 : Int) (v521 : Int) (v522 : Int) (v523 : Int) (v524 : Int) (v525 : Int) (v526 : Int) (v527 : Int) (v528 : Int) =>
              some (.v (.int .u32 v495))) F a0 a1 0 0 ((o_turn_angles_0 F)) ((o_turn_angles_1 F)) ((o_turn_angles_2 F)) ((o_turn_angles_3 F)) ((o_turn_angles_4 F)) ((o_turn_angles_5 F)) ((o_turn_angles_6 F)) ((o_turn_angles_7 F)) ((o_turn_angles_8 F)) ((o_turn_angles_9 F)) ((o_turn_angles_10 F)) ((o_turn_angles_11 F)) ((o_turn_angles_12 F)) ((o_turn_angles_13 F)) ((o_turn_angles_14 F)) ((o_turn_angles_15 F)) ((o_turn_angles_16 F)) ((o_turn_angles_17 F)) ((o_turn_angles_18 F)) ((o_turn_angles_19 F)) ((o_turn_angles_20 F)) ((o_turn_angles_21 F)) ((o_turn_angles_22 F)) ((o_turn_angles_23 F)) ((o_turn_angles_24 F)) ((o_turn_angles_25 F)) ((o_turn_angles_26 F)) ((o_turn_angles_27 F)) ((o_turn_angles_28 F)) ((o_turn_angles_29 F)) 0 ((o_turn_pair_scaled_0 F a1 a0)) ((o_turn_pair_scaled_1 F a1 a0)))
          else (
            none))
        else (
          none))))
  else (
    bif ((decide (a1 < 0))) then (
      bif (ok_turn_opposite F a1 a0) then (
        let v530 : Int := (o_turn_opposite_0 F a1 a0)
        let v531 : Int := (o_turn_opposite_1 F a1 a0)
        bif (ok_turn_pair_scaled F v530 v531) then (
          bif (ok_turn_angles F) then (
            L_turn_Angle_0 F (fun (v564 : Int) (v565 : Int) (v566 : Int) (v567 : Int) (v568 : Int) (v569 : Int) (v570 : Int) (v571 : Int) (v572 : Int) (v573 : Int) (v574 : Int) (v575 : Int) (v576 : Int) (v577 : Int) (v578 : Int) (v579 : Int) (v580 : Int) (v581 : Int) (v582 : Int) (v583 : Int) (v584 : Int) (v585 : Int) (v586 : Int) (v587 : Int) (v588 : Int) (v589 : Int) (v590 : Int) (v591 : Int) (v592 : Int) (v593 : Int) (v594 : Int) (v595 : Int) (v596 : Int) (v597 : Int) (v598 : Int) (v599 : Int) (v600 : Int) =>
              some (.v (.int .u32 v567))) F a0 a1 0 2147483648 ((o_turn_angles_0 F)) ((o_turn_angles_1 F)) ((o_turn_angles_2 F)) ((o_turn_angles_3 F)) ((o_turn_angles_4 F)) ((o_turn_angles_5 F)) ((o_turn_angles_6 F)) ((o_turn_angles_7 F)) ((o_turn_angles_8 F)) ((o_turn_angles_9 F)) ((o_turn_angles_10 F)) ((o_turn_angles_11 F)) ((o_turn_angles_12 F)) ((o_turn_angles_13 F)) ((o_turn_angles_14 F)) ((o_turn_angles_15 F)) ((o_turn_angles_16 F)) ((o_turn_angles_17 F)) ((o_turn_angles_18 F)) ((o_turn_angles_19 F)) ((o_turn_angles_20 F)) ((o_turn_angles_21 F)) ((o_turn_angles_22 F)) ((o_turn_angles_23 F)) ((o_turn_angles_24 F)) ((o_turn_angles_25 F)) ((o_turn_angles_26 F)) ((o_turn_angles_27 F)) ((o_turn_angles_28 F)) ((o_turn_angles_29 F)) 0 ((o_turn_pair_scaled_0 F v530 v531)) ((o_turn_pair_scaled_1 F v530 v531)))
          else (
            none))
        else (
          none))
      else (
        none))
    else (
      bif (ok_turn_pair_scaled F a1 a0) then (
        bif (ok_turn_angles F) then (
          L_turn_Angle_0 F (fun (v633 : Int) (v634 : Int) (v635 : Int) (v636 : Int) (v637 : Int) (v638 : Int) (v639 : Int) (v640 : Int) (v641 : Int) (v642 : Int) (v643 : Int) (v644 : Int) (v645 : Int) (v646 : Int) (v647 : Int) (v648 : Int) (v649 : Int) (v650 : Int) (v651 : Int) (v652 : Int) (v653 : Int) (v654 : Int) (v655 : Int) (v656 : Int) (v657 : Int) (v658 : Int) (v659 : Int) (v660 : Int) (v661 : Int) (v662 : Int) (v663 : Int) (v664 : Int) (v665 : Int) (v666 : Int) (v667 : Int) (v668 : Int) (v669 : Int) =>
            some (.v (.int .u32 v636))) F a0 a1 0 0 ((o_turn_angles_0 F)) ((o_turn_angles_1 F)) ((o_turn_angles_2 F)) ((o_turn_angles_3 F)) ((o_turn_angles_4 F)) ((o_turn_angles_5 F)) ((o_turn_angles_6 F)) ((o_turn_angles_7 F)) ((o_turn_angles_8 F)) ((o_turn_angles_9 F)) ((o_turn_angles_10 F)) ((o_turn_angles_11 F)) ((o_turn_angles_12 F)) ((o_turn_angles_13 F)) ((o_turn_angles_14 F)) ((o_turn_angles_15 F)) ((o_turn_angles_16 F)) ((o_turn_angles_17 F)) ((o_turn_angles_18 F)) ((o_turn_angles_19 F)) ((o_turn_angles_20 F)) ((o_turn_angles_21 F)) ((o_turn_angles_22 F)) ((o_turn_angles_23 F)) ((o_turn_angles_24 F)) ((o_turn_angles_25 F)) ((o_turn_angles_26 F)) ((o_turn_angles_27 F)) ((o_turn_angles_28 F)) ((o_turn_angles_29 F)) 0 ((o_turn_pair_scaled_0 F a1 a0)) ((o_turn_pair_scaled_1 F a1 a0)))
        else (
          none))
      else (
        none)))
theorem e_turn_Angle (F : Nat) (a0 : Int) (a1 : Int) : funL PP (S_turn_Angle F) c_turn_Angle (I_turn_Angle F) (J_turn_Angle F) 28 (fTs ti_turn_Angle [.i a0, .i a1]).1 = f_turn_Angle F a0 a1 := by
  have h : ∀ (ok_turn_opposite : Nat → Int → Int → Bool) (o_turn_opposite_0 : Nat → Int → Int → Int) (o_turn_opposite_1 : Nat → Int → Int → Int) (ok_turn_pair_scaled : Nat → Int → Int → Bool) (o_turn_pair_scaled_0 : Nat → Int → Int → Int) (o_turn_pair_scaled_1 : Nat → Int → Int → Int) (ok_turn_angles : Nat → Bool) (o_turn_angles_0 : Nat → Int) (o_turn_angles_1 : Nat → Int) (o_turn_angles_2 : Nat → Int) (o_turn_angles_3 : Nat → Int) (o_turn_angles_4 : Nat → Int) (o_turn_angles_5 : Nat → Int) (o_turn_angles_6 : Nat → Int) (o_turn_angles_7 : Nat → Int) (o_turn_angles_8 : Nat → Int) (o_turn_angles_9 : Nat → Int) (o_turn_angles_10 : Nat → Int) (o_turn_angles_11 : Nat → Int) (o_turn_angles_12 : Nat → Int) (o_turn_angles_13 : Nat → Int) (o_turn_angles_14 : Nat → Int) (o_turn_angles_15 : Nat → Int) (o_turn_angles_16 : Nat → Int) (o_turn_angles_17 : Nat → Int) (o_turn_angles_18 : Nat → Int) (o_turn_angles_19 : Nat → Int) (o_turn_angles_20 : Nat → Int) (o_turn_angles_21 : Nat → Int) (o_turn_angles_22 : Nat → Int) (o_turn_angles_23 : Nat → Int) (o_turn_angles_24 : Nat → Int) (o_turn_angles_25 : Nat → Int) (o_turn_angles_26 : Nat → Int) (o_turn_angles_27 : Nat → Int) (o_turn_angles_28 : Nat → Int) (o_turn_angles_29 : Nat → Int) (ok_turn_pair_turned : Nat → Int → Int → Int → Bool → Bool) (o_turn_pair_turned_0 : Nat → Int → Int → Int → Bool → Int) (o_turn_pair_turned_1 : Nat → Int → Int → Int → Bool → Int) (L_turn_Angle_0 : Nat → (Int → Int → Int → Int → Int → Int → Int → Int → Int → Int → Int → Int → Int → Int → Int → Int → Int → Int → Int → Int → Int → Int → Int → Int → Int → Int → Int → Int → Int → Int → Int → Int → Int → Int → Int → Int → Int → R) → Nat → Int → Int → Int → Int → Int → Int → Int → Int → Int → Int → Int → Int → Int → Int → Int → Int → Int → Int → Int → Int → Int → Int → Int → Int → Int → Int → Int → Int → Int → Int → Int → Int → Int → Int → Int → Int → Int → R), funL PP (words [(82, spec ti_turn_opposite to_turn_opposite (fun q => (ok_turn_opposite F (atI (nth q 0)) (atI (nth q 1)))) (fun q => [.i (o_turn_opposite_0 F (atI (nth q 0)) (atI (nth q 1))), .i (o_turn_opposite_1 F (atI (nth q 0)) (atI (nth q 1)))])), (83, spec ti_turn_pair_scaled to_turn_pair_scaled (fun q => (ok_turn_pair_scaled F (atI (nth q 0)) (atI (nth q 1)))) (fun q => [.i (o_turn_pair_scaled_0 F (atI (nth q 0)) (atI (nth q 1))), .i (o_turn_pair_scaled_1 F (atI (nth q 0)) (atI (nth q 1)))])), (76, spec ti_turn_angles to_turn_angles (fun q => (ok_turn_angles F )) (fun q => [.i (o_turn_angles_0 F ), .i (o_turn_angles_1 F ), .i (o_turn_angles_2 F ), .i (o_turn_angles_3 F ), .i (o_turn_angles_4 F ), .i (o_turn_angles_5 F ), .i (o_turn_angles_6 F ), .i (o_turn_angles_7 F ), .i (o_turn_angles_8 F ), .i (o_turn_angles_9 F ), .i (o_turn_angles_10 F ), .i (o_turn_angles_11 F ), .i (o_turn_angles_12 F ), .i (o_turn_angles_13 F ), .i (o_turn_angles_14 F ), .i (o_turn_angles_15 F ), .i (o_turn_angles_16 F ), .i (o_turn_angles_17 F ), .i (o_turn_angles_18 F ), .i (o_turn_angles_19 F ), .i (o_turn_angles_20 F ), .i (o_turn_angles_21 F ), .i (o_turn_angles_22 F ), .i (o_turn_angles_23 F ), .i (o_turn_angles_24 F ), .i (o_turn_angles_25 F ), .i (o_turn_angles_26 F ), .i (o_turn_angles_27 F ), .i (o_turn_angles_28 F ), .i (o_turn_angles_29 F )])), (77, spec ti_turn_pair_turned to_turn_pair_turned (fun q => (ok_turn_pair_turned F (atI (nth q 0)) (atI (nth q 1)) (atI (nth q 2)) (atB (nth q 3)))) (fun q => [.i (o_turn_pair_turned_0 F (atI (nth q 0)) (atI (nth q 1)) (atI (nth q 2)) (atB (nth q 3))), .i (o_turn_pair_turned_1 F (atI (nth q 0)) (atI (nth q 1)) (atI (nth q 2)) (atB (nth q 3)))]))]) c_turn_Angle (tabI c_turn_Angle [⟨0, T_turn_Angle_0, fun k q => L_turn_Angle_0 F (fun (z0 : Int) (z1 : Int) (z2 : Int) (z3 : Int) (z4 : Int) (z5 : Int) (z6 : Int) (z7 : Int) (z8 : Int) (z9 : Int) (z10 : Int) (z11 : Int) (z12 : Int) (z13 : Int) (z14 : Int) (z15 : Int) (z16 : Int) (z17 : Int) (z18 : Int) (z19 : Int) (z20 : Int) (z21 : Int) (z22 : Int) (z23 : Int) (z24 : Int) (z25 : Int) (z26 : Int) (z27 : Int) (z28 : Int) (z29 : Int) (z30 : Int) (z31 : Int) (z32 : Int) (z33 : Int) (z34 : Int) (z35 : Int) (z36 : Int) => k (.exit 0) (fS T_turn_Angle_0_0 [.i z0, .i z1, .i z2, .i z3, .i z4, .i z5, .i z6, .i z7, .i z8, .i z9, .i z10, .i z11, .i z12, .i z13, .i z14, .i z15, .i z16, .i z17, .i z18, .i z19, .i z20, .i z21, .i z22, .i z23, .i z24, .i z25, .i z26, .i z27, .i z28, .i z29, .i z30, .i z31, .i z32, .i z33, .i z34, .i z35, .i z36])) F (atI (nth q 0)) (atI (nth q 1)) (atI (nth q 2)) (atI (nth q 3)) (atI (nth q 4)) (atI (nth q 5)) (atI (nth q 6)) (atI (nth q 7)) (atI (nth q 8)) (atI (nth q 9)) (atI (nth q 10)) (atI (nth q 11)) (atI (nth q 12)) (atI (nth q 13)) (atI (nth q 14)) (atI (nth q 15)) (atI (nth q 16)) (atI (nth q 17)) (atI (nth q 18)) (atI (nth q 19)) (atI (nth q 20)) (atI (nth q 21)) (atI (nth q 22)) (atI (nth q 23)) (atI (nth q 24)) (atI (nth q 25)) (atI (nth q 26)) (atI (nth q 27)) (atI (nth q 28)) (atI (nth q 29)) (atI (nth q 30)) (atI (nth q 31)) (atI (nth q 32)) (atI (nth q 33)) (atI (nth q 34)) (atI (nth q 35)) (atI (nth q 36))⟩]) (tabJ []) 28 (fTs ti_turn_Angle [.i a0, .i a1]).1 = (
  bif ((a1 == 0)) then (
    bif ((a0 == 0)) then (
      some (.v (.int .u32 0)))
    else (
      bif ((decide (a1 < 0))) then (
        bif (ok_turn_opposite F a1 a0) then (
          let v300 : Int := (o_turn_opposite_0 F a1 a0)
          let v301 : Int := (o_turn_opposite_1 F a1 a0)
          bif (ok_turn_pair_scaled F v300 v301) then (
            bif (ok_turn_angles F) then (
              L_turn_Angle_0 F (fun (v423 : Int) (v424 : Int) (v425 : Int) (v426 : Int) (v427 : Int) (v428 : Int) (v429 : Int) (v430 : Int) (v431 : Int) (v432 : Int) (v433 : Int) (v434 : Int) (v435 : Int) (v436 : Int) (v437 : Int) (v438 : Int) (v439 : Int) (v440 : Int) (v441 : Int) (v442 : Int) (v443 : Int) (v444 : Int) (v445 : Int) (v446 : Int) (v447 : Int) (v448 : Int) (v449 : Int) (v450 : Int) (v451 : Int) (v452 : Int) (v453 : Int) (v454 : Int) (v455 : Int) (v456 : Int) (v457 : Int) (v458 : Int) (v459 : Int) =>
                some (.v (.int .u32 v426))) F a0 a1 0 2147483648 ((o_turn_angles_0 F)) ((o_turn_angles_1 F)) ((o_turn_angles_2 F)) ((o_turn_angles_3 F)) ((o_turn_angles_4 F)) ((o_turn_angles_5 F)) ((o_turn_angles_6 F)) ((o_turn_angles_7 F)) ((o_turn_angles_8 F)) ((o_turn_angles_9 F)) ((o_turn_angles_10 F)) ((o_turn_angles_11 F)) ((o_turn_angles_12 F)) ((o_turn_angles_13 F)) ((o_turn_angles_14 F)) ((o_turn_angles_15 F)) ((o_turn_angles_16 F)) ((o_turn_angles_17 F)) ((o_turn_angles_18 F)) ((o_turn_angles_19 F)) ((o_turn_angles_20 F)) ((o_turn_angles_21 F)) ((o_turn_angles_22 F)) ((o_turn_angles_23 F)) ((o_turn_angles_24 F)) ((o_turn_angles_25 F)) ((o_turn_angles_26 F)) ((o_turn_angles_27 F)) ((o_turn_angles_28 F)) ((o_turn_angles_29 F)) 0 ((o_turn_pair_scaled_0 F v300 v301)) ((o_turn_pair_scaled_1 F v300 v301)))
            else (
              none))
          else (
            none))
        else (
          none))
      else (
        bif (ok_turn_pair_scaled F a1 a0) then (
          bif (ok_turn_angles F) then (
            L_turn_Angle_0 F (fun (v492 : Int) (v493 : Int) (v494 : Int) (v495 : Int) (v496 : Int) (v497 : Int) (v498 : Int) (v499 : Int) (v500 : Int) (v501 : Int) (v502 : Int) (v503 : Int) (v504 : Int) (v505 : Int) (v506 : Int) (v507 : Int) (v508 : Int) (v509 : Int) (v510 : Int) (v511 : Int) (v512 : Int) (v513 : Int) (v514 : Int) (v515 : Int) (v516 : Int) (v517 : Int) (v518 : Int) (v519 : Int) (v520 : Int) (v521 : Int) (v522 : Int) (v523 : Int) (v524 : Int) (v525 : Int) (v526 : Int) (v527 : Int) (v528 : Int) =>
              some (.v (.int .u32 v495))) F a0 a1 0 0 ((o_turn_angles_0 F)) ((o_turn_angles_1 F)) ((o_turn_angles_2 F)) ((o_turn_angles_3 F)) ((o_turn_angles_4 F)) ((o_turn_angles_5 F)) ((o_turn_angles_6 F)) ((o_turn_angles_7 F)) ((o_turn_angles_8 F)) ((o_turn_angles_9 F)) ((o_turn_angles_10 F)) ((o_turn_angles_11 F)) ((o_turn_angles_12 F)) ((o_turn_angles_13 F)) ((o_turn_angles_14 F)) ((o_turn_angles_15 F)) ((o_turn_angles_16 F)) ((o_turn_angles_17 F)) ((o_turn_angles_18 F)) ((o_turn_angles_19 F)) ((o_turn_angles_20 F)) ((o_turn_angles_21 F)) ((o_turn_angles_22 F)) ((o_turn_angles_23 F)) ((o_turn_angles_24 F)) ((o_turn_angles_25 F)) ((o_turn_angles_26 F)) ((o_turn_angles_27 F)) ((o_turn_angles_28 F)) ((o_turn_angles_29 F)) 0 ((o_turn_pair_scaled_0 F a1 a0)) ((o_turn_pair_scaled_1 F a1 a0)))
          else (
            none))
        else (
          none))))
  else (
    bif ((decide (a1 < 0))) then (
      bif (ok_turn_opposite F a1 a0) then (
        let v530 : Int := (o_turn_opposite_0 F a1 a0)
        let v531 : Int := (o_turn_opposite_1 F a1 a0)
        bif (ok_turn_pair_scaled F v530 v531) then (
          bif (ok_turn_angles F) then (
            L_turn_Angle_0 F (fun (v564 : Int) (v565 : Int) (v566 : Int) (v567 : Int) (v568 : Int) (v569 : Int) (v570 : Int) (v571 : Int) (v572 : Int) (v573 : Int) (v574 : Int) (v575 : Int) (v576 : Int) (v577 : Int) (v578 : Int) (v579 : Int) (v580 : Int) (v581 : Int) (v582 : Int) (v583 : Int) (v584 : Int) (v585 : Int) (v586 : Int) (v587 : Int) (v588 : Int) (v589 : Int) (v590 : Int) (v591 : Int) (v592 : Int) (v593 : Int) (v594 : Int) (v595 : Int) (v596 : Int) (v597 : Int) (v598 : Int) (v599 : Int) (v600 : Int) =>
              some (.v (.int .u32 v567))) F a0 a1 0 2147483648 ((o_turn_angles_0 F)) ((o_turn_angles_1 F)) ((o_turn_angles_2 F)) ((o_turn_angles_3 F)) ((o_turn_angles_4 F)) ((o_turn_angles_5 F)) ((o_turn_angles_6 F)) ((o_turn_angles_7 F)) ((o_turn_angles_8 F)) ((o_turn_angles_9 F)) ((o_turn_angles_10 F)) ((o_turn_angles_11 F)) ((o_turn_angles_12 F)) ((o_turn_angles_13 F)) ((o_turn_angles_14 F)) ((o_turn_angles_15 F)) ((o_turn_angles_16 F)) ((o_turn_angles_17 F)) ((o_turn_angles_18 F)) ((o_turn_angles_19 F)) ((o_turn_angles_20 F)) ((o_turn_angles_21 F)) ((o_turn_angles_22 F)) ((o_turn_angles_23 F)) ((o_turn_angles_24 F)) ((o_turn_angles_25 F)) ((o_turn_angles_26 F)) ((o_turn_angles_27 F)) ((o_turn_angles_28 F)) ((o_turn_angles_29 F)) 0 ((o_turn_pair_scaled_0 F v530 v531)) ((o_turn_pair_scaled_1 F v530 v531)))
          else (
            none))
        else (
          none))
      else (
        none))
    else (
      bif (ok_turn_pair_scaled F a1 a0) then (
        bif (ok_turn_angles F) then (
          L_turn_Angle_0 F (fun (v633 : Int) (v634 : Int) (v635 : Int) (v636 : Int) (v637 : Int) (v638 : Int) (v639 : Int) (v640 : Int) (v641 : Int) (v642 : Int) (v643 : Int) (v644 : Int) (v645 : Int) (v646 : Int) (v647 : Int) (v648 : Int) (v649 : Int) (v650 : Int) (v651 : Int) (v652 : Int) (v653 : Int) (v654 : Int) (v655 : Int) (v656 : Int) (v657 : Int) (v658 : Int) (v659 : Int) (v660 : Int) (v661 : Int) (v662 : Int) (v663 : Int) (v664 : Int) (v665 : Int) (v666 : Int) (v667 : Int) (v668 : Int) (v669 : Int) =>
            some (.v (.int .u32 v636))) F a0 a1 0 0 ((o_turn_angles_0 F)) ((o_turn_angles_1 F)) ((o_turn_angles_2 F)) ((o_turn_angles_3 F)) ((o_turn_angles_4 F)) ((o_turn_angles_5 F)) ((o_turn_angles_6 F)) ((o_turn_angles_7 F)) ((o_turn_angles_8 F)) ((o_turn_angles_9 F)) ((o_turn_angles_10 F)) ((o_turn_angles_11 F)) ((o_turn_angles_12 F)) ((o_turn_angles_13 F)) ((o_turn_angles_14 F)) ((o_turn_angles_15 F)) ((o_turn_angles_16 F)) ((o_turn_angles_17 F)) ((o_turn_angles_18 F)) ((o_turn_angles_19 F)) ((o_turn_angles_20 F)) ((o_turn_angles_21 F)) ((o_turn_angles_22 F)) ((o_turn_angles_23 F)) ((o_turn_angles_24 F)) ((o_turn_angles_25 F)) ((o_turn_angles_26 F)) ((o_turn_angles_27 F)) ((o_turn_angles_28 F)) ((o_turn_angles_29 F)) 0 ((o_turn_pair_scaled_0 F a1 a0)) ((o_turn_pair_scaled_1 F a1 a0)))
        else (
          none))
      else (
        none))) : R) := by
    intros
    kernel_rfl
  exact (h ok_turn_opposite o_turn_opposite_0 o_turn_opposite_1 ok_turn_pair_scaled o_turn_pair_scaled_0 o_turn_pair_scaled_1 ok_turn_angles o_turn_angles_0 o_turn_angles_1 o_turn_angles_2 o_turn_angles_3 o_turn_angles_4 o_turn_angles_5 o_turn_angles_6 o_turn_angles_7 o_turn_angles_8 o_turn_angles_9 o_turn_angles_10 o_turn_angles_11 o_turn_angles_12 o_turn_angles_13 o_turn_angles_14 o_turn_angles_15 o_turn_angles_16 o_turn_angles_17 o_turn_angles_18 o_turn_angles_19 o_turn_angles_20 o_turn_angles_21 o_turn_angles_22 o_turn_angles_23 o_turn_angles_24 o_turn_angles_25 o_turn_angles_26 o_turn_angles_27 o_turn_angles_28 o_turn_angles_29 ok_turn_pair_turned o_turn_pair_turned_0 o_turn_pair_turned_1 L_turn_Angle_0).trans (by kernel_rfl)
def ok_turn_Angle (F : Nat) (a0 : Int) (a1 : Int) : Bool := okT to_turn_Angle (f_turn_Angle F a0 a1)
def o_turn_Angle_0 (F : Nat) (a0 : Int) (a1 : Int) : Int := atI (nth (outT to_turn_Angle (f_turn_Angle F a0 a1)) 0)
theorem k_turn_Angle (F : Nat) (a0 : Int) (a1 : Int) {z0 : Int} (h : f_turn_Angle F a0 a1 = some (.v (.int .u32 z0))) : ok_turn_Angle F a0 a1 = true ∧ o_turn_Angle_0 F a0 a1 = z0 := by
  refine ⟨?_, ?_⟩
  · unfold ok_turn_Angle; rw [h]; kernel_rfl
  · unfold o_turn_Angle_0; rw [h]; kernel_rfl
def s_turn_Angle (F : Nat) : List VV → Option (Bool × VV) := spec ti_turn_Angle to_turn_Angle (fun q => (ok_turn_Angle F (atI (nth q 0)) (atI (nth q 1)))) (fun q => [.i (o_turn_Angle_0 F (atI (nth q 0)) (atI (nth q 1)))])
theorem hS_turn_Angle (F : Nat) : ∀ f, Good PP f (unS (S_turn_Angle F f)) := words_good fun p hp => by
  simp only [List.mem_cons, List.not_mem_nil, or_false] at hp
  rcases hp with rfl | rfl | rfl | rfl
  · exact g_turn_opposite F
  · exact g_turn_pair_scaled F
  · exact g_turn_angles F
  · exact g_turn_pair_turned F
theorem hl_turn_Angle (F : Nat) : ∀ p ∈ loopsIn PP 28, LoopOK PP (S_turn_Angle F) c_turn_Angle F (I_turn_Angle F) (J_turn_Angle F) p :=
  loops_of [(0, loopAt PP 28 0)] (by kernel_rfl) (all_cons
    (loop_ok (W_turn_Angle F) rfl (tab_cons (fun _ k q => Le.ofEq ((lL_turn_Angle_0 F k F (atI (nth q 0)) (atI (nth q 1)) (atI (nth q 2)) (atI (nth q 3)) (atI (nth q 4)) (atI (nth q 5)) (atI (nth q 6)) (atI (nth q 7)) (atI (nth q 8)) (atI (nth q 9)) (atI (nth q 10)) (atI (nth q 11)) (atI (nth q 12)) (atI (nth q 13)) (atI (nth q 14)) (atI (nth q 15)) (atI (nth q 16)) (atI (nth q 17)) (atI (nth q 18)) (atI (nth q 19)) (atI (nth q 20)) (atI (nth q 21)) (atI (nth q 22)) (atI (nth q 23)) (atI (nth q 24)) (atI (nth q 25)) (atI (nth q 26)) (atI (nth q 27)) (atI (nth q 28)) (atI (nth q 29)) (atI (nth q 30)) (atI (nth q 31)) (atI (nth q 32)) (atI (nth q 33)) (atI (nth q 34)) (atI (nth q 35)) (atI (nth q 36))).symm.trans (congrArg (iterC (codeL PP (S_turn_Angle F) c_turn_Angle (I_turn_Angle F) (J_turn_Angle F) (loopAt PP 28 0) 0) (headOf c_turn_Angle 0) k F) (show fS T_turn_Angle_0 [.i (atI (nth q 0)), .i (atI (nth q 1)), .i (atI (nth q 2)), .i (atI (nth q 3)), .i (atI (nth q 4)), .i (atI (nth q 5)), .i (atI (nth q 6)), .i (atI (nth q 7)), .i (atI (nth q 8)), .i (atI (nth q 9)), .i (atI (nth q 10)), .i (atI (nth q 11)), .i (atI (nth q 12)), .i (atI (nth q 13)), .i (atI (nth q 14)), .i (atI (nth q 15)), .i (atI (nth q 16)), .i (atI (nth q 17)), .i (atI (nth q 18)), .i (atI (nth q 19)), .i (atI (nth q 20)), .i (atI (nth q 21)), .i (atI (nth q 22)), .i (atI (nth q 23)), .i (atI (nth q 24)), .i (atI (nth q 25)), .i (atI (nth q 26)), .i (atI (nth q 27)), .i (atI (nth q 28)), .i (atI (nth q 29)), .i (atI (nth q 30)), .i (atI (nth q 31)), .i (atI (nth q 32)), .i (atI (nth q 33)), .i (atI (nth q 34)), .i (atI (nth q 35)), .i (atI (nth q 36))] = fS T_turn_Angle_0 q by kernel_rfl)))) tab_nil)) all_nil)
theorem hj_turn_Angle (F : Nat) : ∀ p ∈ joinsIn PP c_turn_Angle 28, JoinOK PP (S_turn_Angle F) c_turn_Angle (I_turn_Angle F) (J_turn_Angle F) p :=
  joins_of [] (by kernel_rfl) all_nil
theorem g_turn_Angle (F : Nat) : Good PP 28 (unS (s_turn_Angle F)) :=
  fun_spec (hS_turn_Angle F) (by kernel_rfl) (by kernel_rfl) (C := c_turn_Angle) (F := fun q => (f_turn_Angle F (atI (nth q 0)) (atI (nth q 1)))) (fun _ => F) (fun _ => I_turn_Angle F) (fun _ => J_turn_Angle F) (fun _ => hl_turn_Angle F) (fun _ => hj_turn_Angle F)
    (fun q => (congrArg (funL PP (S_turn_Angle F) c_turn_Angle (I_turn_Angle F) (J_turn_Angle F) 28) (show (fTs ti_turn_Angle q).1 = (fTs ti_turn_Angle [.i (atI (nth q 0)), .i (atI (nth q 1))]).1 by kernel_rfl)).trans (e_turn_Angle F (atI (nth q 0)) (atI (nth q 1))))
    (fun _ h => (okT_fill h).trans (congrArg some (by kernel_rfl)))

end Go.Xv
set_option linter.unusedVariables false
namespace Go.Xv
/- 36 _law05_near -/
def c_law05_near : Cfg := ⟨[0, 1, 2, 6, 7], [], [], []⟩
def ti_law05_near : List TV := [.v (.int .u32), .v (.int .u32), .v (.int .i32)]
def to_law05_near : TV := .v (.bool)
def S_law05_near (F : Nat) : FuncId → List VV → Option (Bool × VV) := words []
def W_law05_near (F : Nat) : List LW := []
def I_law05_near (F : Nat) : Nat → VS → (Exit → VS → R) → R := tabI c_law05_near (W_law05_near F)
def WJ_law05_near (F : Nat) : List LJ := []
def J_law05_near (F : Nat) : Nat → Nat → VS → (Exit → VS → R) → R := tabJ (WJ_law05_near F)
def f_law05_near (F : Nat) (a0 : Int) (a1 : Int) (a2 : Int) : R :=
  let v672 : Int := (IntKind.wrap .i32 ((IntKind.wrap .u32 (a0 - a1))))
  bif ((decide (v672 ≤ a2))) then (
    some (.v (.bool ((decide (v672 ≥ ((IntKind.wrap .i32 (0 - a2)))))))))
  else (
    some (.v (.bool false)))
theorem e_law05_near (F : Nat) (a0 : Int) (a1 : Int) (a2 : Int) : funL PP (S_law05_near F) c_law05_near (I_law05_near F) (J_law05_near F) 36 (fTs ti_law05_near [.i a0, .i a1, .i a2]).1 = f_law05_near F a0 a1 a2 := by
  have h : ∀ (_ : Unit), funL PP (words []) c_law05_near (tabI c_law05_near []) (tabJ []) 36 (fTs ti_law05_near [.i a0, .i a1, .i a2]).1 = (
  let v672 : Int := (IntKind.wrap .i32 ((IntKind.wrap .u32 (a0 - a1))))
  bif ((decide (v672 ≤ a2))) then (
    some (.v (.bool ((decide (v672 ≥ ((IntKind.wrap .i32 (0 - a2)))))))))
  else (
    some (.v (.bool false))) : R) := by
    intros
    kernel_rfl
  exact (h ()).trans (by kernel_rfl)
def ok_law05_near (F : Nat) (a0 : Int) (a1 : Int) (a2 : Int) : Bool := okT to_law05_near (f_law05_near F a0 a1 a2)
def o_law05_near_0 (F : Nat) (a0 : Int) (a1 : Int) (a2 : Int) : Bool := atB (nth (outT to_law05_near (f_law05_near F a0 a1 a2)) 0)
theorem k_law05_near (F : Nat) (a0 : Int) (a1 : Int) (a2 : Int) {z0 : Bool} (h : f_law05_near F a0 a1 a2 = some (.v (.bool z0))) : ok_law05_near F a0 a1 a2 = true ∧ o_law05_near_0 F a0 a1 a2 = z0 := by
  refine ⟨?_, ?_⟩
  · unfold ok_law05_near; rw [h]; kernel_rfl
  · unfold o_law05_near_0; rw [h]; kernel_rfl
def s_law05_near (F : Nat) : List VV → Option (Bool × VV) := spec ti_law05_near to_law05_near (fun q => (ok_law05_near F (atI (nth q 0)) (atI (nth q 1)) (atI (nth q 2)))) (fun q => [.b (o_law05_near_0 F (atI (nth q 0)) (atI (nth q 1)) (atI (nth q 2)))])
theorem hS_law05_near (F : Nat) : ∀ f, Good PP f (unS (S_law05_near F f)) := words_good fun p hp => by
  cases hp
theorem hl_law05_near (F : Nat) : ∀ p ∈ loopsIn PP 36, LoopOK PP (S_law05_near F) c_law05_near F (I_law05_near F) (J_law05_near F) p :=
  loops_of [] (by kernel_rfl) all_nil
theorem hj_law05_near (F : Nat) : ∀ p ∈ joinsIn PP c_law05_near 36, JoinOK PP (S_law05_near F) c_law05_near (I_law05_near F) (J_law05_near F) p :=
  joins_of [] (by kernel_rfl) all_nil
theorem g_law05_near (F : Nat) : Good PP 36 (unS (s_law05_near F)) :=
  fun_spec (hS_law05_near F) (by kernel_rfl) (by kernel_rfl) (C := c_law05_near) (F := fun q => (f_law05_near F (atI (nth q 0)) (atI (nth q 1)) (atI (nth q 2)))) (fun _ => F) (fun _ => I_law05_near F) (fun _ => J_law05_near F) (fun _ => hl_law05_near F) (fun _ => hj_law05_near F)
    (fun q => (congrArg (funL PP (S_law05_near F) c_law05_near (I_law05_near F) (J_law05_near F) 36) (show (fTs ti_law05_near q).1 = (fTs ti_law05_near [.i (atI (nth q 0)), .i (atI (nth q 1)), .i (atI (nth q 2))]).1 by kernel_rfl)).trans (e_law05_near F (atI (nth q 0)) (atI (nth q 1)) (atI (nth q 2))))
    (fun _ h => (okT_fill h).trans (congrArg some (by kernel_rfl)))

end Go.Xv
set_option linter.unusedVariables false
namespace Go.Xv
/- 38 _turn_Way -/
def c_turn_Way : Cfg := ⟨[0, 1, 4], [], [], []⟩
def ti_turn_Way : List TV := [.v (.int .u32), .v (.int .u32)]
def to_turn_Way : TV := .v (.int .i32)
def S_turn_Way (F : Nat) : FuncId → List VV → Option (Bool × VV) := words []
def W_turn_Way (F : Nat) : List LW := []
def I_turn_Way (F : Nat) : Nat → VS → (Exit → VS → R) → R := tabI c_turn_Way (W_turn_Way F)
def WJ_turn_Way (F : Nat) : List LJ := []
def J_turn_Way (F : Nat) : Nat → Nat → VS → (Exit → VS → R) → R := tabJ (WJ_turn_Way F)
def f_turn_Way (F : Nat) (a0 : Int) (a1 : Int) : R :=
  some (.v (.int .i32 ((IntKind.wrap .i32 ((IntKind.wrap .u32 (a1 - a0)))))))
theorem e_turn_Way (F : Nat) (a0 : Int) (a1 : Int) : funL PP (S_turn_Way F) c_turn_Way (I_turn_Way F) (J_turn_Way F) 38 (fTs ti_turn_Way [.i a0, .i a1]).1 = f_turn_Way F a0 a1 := by
  have h : ∀ (_ : Unit), funL PP (words []) c_turn_Way (tabI c_turn_Way []) (tabJ []) 38 (fTs ti_turn_Way [.i a0, .i a1]).1 = (
  some (.v (.int .i32 ((IntKind.wrap .i32 ((IntKind.wrap .u32 (a1 - a0))))))) : R) := by
    intros
    kernel_rfl
  exact (h ()).trans (by kernel_rfl)
def ok_turn_Way (F : Nat) (a0 : Int) (a1 : Int) : Bool := okT to_turn_Way (f_turn_Way F a0 a1)
def o_turn_Way_0 (F : Nat) (a0 : Int) (a1 : Int) : Int := atI (nth (outT to_turn_Way (f_turn_Way F a0 a1)) 0)
theorem k_turn_Way (F : Nat) (a0 : Int) (a1 : Int) {z0 : Int} (h : f_turn_Way F a0 a1 = some (.v (.int .i32 z0))) : ok_turn_Way F a0 a1 = true ∧ o_turn_Way_0 F a0 a1 = z0 := by
  refine ⟨?_, ?_⟩
  · unfold ok_turn_Way; rw [h]; kernel_rfl
  · unfold o_turn_Way_0; rw [h]; kernel_rfl
def s_turn_Way (F : Nat) : List VV → Option (Bool × VV) := spec ti_turn_Way to_turn_Way (fun q => (ok_turn_Way F (atI (nth q 0)) (atI (nth q 1)))) (fun q => [.i (o_turn_Way_0 F (atI (nth q 0)) (atI (nth q 1)))])
theorem hS_turn_Way (F : Nat) : ∀ f, Good PP f (unS (S_turn_Way F f)) := words_good fun p hp => by
  cases hp
theorem hl_turn_Way (F : Nat) : ∀ p ∈ loopsIn PP 38, LoopOK PP (S_turn_Way F) c_turn_Way F (I_turn_Way F) (J_turn_Way F) p :=
  loops_of [] (by kernel_rfl) all_nil
theorem hj_turn_Way (F : Nat) : ∀ p ∈ joinsIn PP c_turn_Way 38, JoinOK PP (S_turn_Way F) c_turn_Way (I_turn_Way F) (J_turn_Way F) p :=
  joins_of [] (by kernel_rfl) all_nil
theorem g_turn_Way (F : Nat) : Good PP 38 (unS (s_turn_Way F)) :=
  fun_spec (hS_turn_Way F) (by kernel_rfl) (by kernel_rfl) (C := c_turn_Way) (F := fun q => (f_turn_Way F (atI (nth q 0)) (atI (nth q 1)))) (fun _ => F) (fun _ => I_turn_Way F) (fun _ => J_turn_Way F) (fun _ => hl_turn_Way F) (fun _ => hj_turn_Way F)
    (fun q => (congrArg (funL PP (S_turn_Way F) c_turn_Way (I_turn_Way F) (J_turn_Way F) 38) (show (fTs ti_turn_Way q).1 = (fTs ti_turn_Way [.i (atI (nth q 0)), .i (atI (nth q 1))]).1 by kernel_rfl)).trans (e_turn_Way F (atI (nth q 0)) (atI (nth q 1))))
    (fun _ h => (okT_fill h).trans (congrArg some (by kernel_rfl)))

end Go.Xv
set_option linter.unusedVariables false
namespace Go.Xv
/- 27 _law05_works -/
def c_law05_works : Cfg := ⟨[0, 1, 2], [], [7], []⟩
def ti_law05_works : List TV := []
def to_law05_works : TV := .v (.bool)
def S_law05_works (F : Nat) : FuncId → List VV → Option (Bool × VV) := words [(25, s_turn_Both F), (28, s_turn_Angle F), (36, s_law05_near F), (38, s_turn_Way F)]
def W_law05_works (F : Nat) : List LW := []
def I_law05_works (F : Nat) : Nat → VS → (Exit → VS → R) → R := tabI c_law05_works (W_law05_works F)
def WJ_law05_works (F : Nat) : List LJ := []
def J_law05_works (F : Nat) : Nat → Nat → VS → (Exit → VS → R) → R := tabJ (WJ_law05_works F)
def f_law05_works (F : Nat) : R :=
  bif (ok_turn_Both F 0) then (
    bif (ok_turn_Angle F 4294967296 4294967296) then (
      let v670 : Int := (o_turn_Angle_0 F 4294967296 4294967296)
      bif (ok_law05_near F v670 536870912 256) then (
        bif ((o_law05_near_0 F v670 536870912 256)) then (
          bif (ok_turn_Way F 1 0) then (
            bif ((((o_turn_Way_0 F 1 0)) == (-1))) then (
              bif ((decide (((o_turn_Both_0 F 0)) > 4294966272))) then (
                some (.v (.bool ((decide (((o_turn_Both_1 F 0)) < 1024))))))
              else (
                some (.v (.bool false))))
            else (
              some (.v (.bool false))))
          else (
            none))
        else (
          some (.v (.bool false))))
      else (
        none))
    else (
      none))
  else (
    none)
theorem e_law05_works (F : Nat) : funL PP (S_law05_works F) c_law05_works (I_law05_works F) (J_law05_works F) 27 (fTs ti_law05_works []).1 = f_law05_works F := by
  have h : ∀ (ok_turn_Both : Nat → Int → Bool) (o_turn_Both_0 : Nat → Int → Int) (o_turn_Both_1 : Nat → Int → Int) (ok_turn_Angle : Nat → Int → Int → Bool) (o_turn_Angle_0 : Nat → Int → Int → Int) (ok_law05_near : Nat → Int → Int → Int → Bool) (o_law05_near_0 : Nat → Int → Int → Int → Bool) (ok_turn_Way : Nat → Int → Int → Bool) (o_turn_Way_0 : Nat → Int → Int → Int), funL PP (words [(25, spec ti_turn_Both to_turn_Both (fun q => (ok_turn_Both F (atI (nth q 0)))) (fun q => [.i (o_turn_Both_0 F (atI (nth q 0))), .i (o_turn_Both_1 F (atI (nth q 0)))])), (28, spec ti_turn_Angle to_turn_Angle (fun q => (ok_turn_Angle F (atI (nth q 0)) (atI (nth q 1)))) (fun q => [.i (o_turn_Angle_0 F (atI (nth q 0)) (atI (nth q 1)))])), (36, spec ti_law05_near to_law05_near (fun q => (ok_law05_near F (atI (nth q 0)) (atI (nth q 1)) (atI (nth q 2)))) (fun q => [.b (o_law05_near_0 F (atI (nth q 0)) (atI (nth q 1)) (atI (nth q 2)))])), (38, spec ti_turn_Way to_turn_Way (fun q => (ok_turn_Way F (atI (nth q 0)) (atI (nth q 1)))) (fun q => [.i (o_turn_Way_0 F (atI (nth q 0)) (atI (nth q 1)))]))]) c_law05_works (tabI c_law05_works []) (tabJ []) 27 (fTs ti_law05_works []).1 = (
  bif (ok_turn_Both F 0) then (
    bif (ok_turn_Angle F 4294967296 4294967296) then (
      let v670 : Int := (o_turn_Angle_0 F 4294967296 4294967296)
      bif (ok_law05_near F v670 536870912 256) then (
        bif ((o_law05_near_0 F v670 536870912 256)) then (
          bif (ok_turn_Way F 1 0) then (
            bif ((((o_turn_Way_0 F 1 0)) == (-1))) then (
              bif ((decide (((o_turn_Both_0 F 0)) > 4294966272))) then (
                some (.v (.bool ((decide (((o_turn_Both_1 F 0)) < 1024))))))
              else (
                some (.v (.bool false))))
            else (
              some (.v (.bool false))))
          else (
            none))
        else (
          some (.v (.bool false))))
      else (
        none))
    else (
      none))
  else (
    none) : R) := by
    intros
    kernel_rfl
  exact (h ok_turn_Both o_turn_Both_0 o_turn_Both_1 ok_turn_Angle o_turn_Angle_0 ok_law05_near o_law05_near_0 ok_turn_Way o_turn_Way_0).trans (by kernel_rfl)
def ok_law05_works (F : Nat) : Bool := okT to_law05_works (f_law05_works F)
def o_law05_works_0 (F : Nat) : Bool := atB (nth (outT to_law05_works (f_law05_works F)) 0)
theorem k_law05_works (F : Nat) {z0 : Bool} (h : f_law05_works F = some (.v (.bool z0))) : ok_law05_works F = true ∧ o_law05_works_0 F = z0 := by
  refine ⟨?_, ?_⟩
  · unfold ok_law05_works; rw [h]; kernel_rfl
  · unfold o_law05_works_0; rw [h]; kernel_rfl
def s_law05_works (F : Nat) : List VV → Option (Bool × VV) := spec ti_law05_works to_law05_works (fun q => (ok_law05_works F )) (fun q => [.b (o_law05_works_0 F )])
theorem hS_law05_works (F : Nat) : ∀ f, Good PP f (unS (S_law05_works F f)) := words_good fun p hp => by
  simp only [List.mem_cons, List.not_mem_nil, or_false] at hp
  rcases hp with rfl | rfl | rfl | rfl
  · exact g_turn_Both F
  · exact g_turn_Angle F
  · exact g_law05_near F
  · exact g_turn_Way F
theorem hl_law05_works (F : Nat) : ∀ p ∈ loopsIn PP 27, LoopOK PP (S_law05_works F) c_law05_works F (I_law05_works F) (J_law05_works F) p :=
  loops_of [] (by kernel_rfl) all_nil
theorem hj_law05_works (F : Nat) : ∀ p ∈ joinsIn PP c_law05_works 27, JoinOK PP (S_law05_works F) c_law05_works (I_law05_works F) (J_law05_works F) p :=
  joins_of [] (by kernel_rfl) all_nil
theorem g_law05_works (F : Nat) : Good PP 27 (unS (s_law05_works F)) :=
  fun_spec (hS_law05_works F) (by kernel_rfl) (by kernel_rfl) (C := c_law05_works) (F := fun q => (f_law05_works F )) (fun _ => F) (fun _ => I_law05_works F) (fun _ => J_law05_works F) (fun _ => hl_law05_works F) (fun _ => hj_law05_works F)
    (fun q => (congrArg (funL PP (S_law05_works F) c_law05_works (I_law05_works F) (J_law05_works F) 27) (show (fTs ti_law05_works q).1 = (fTs ti_law05_works []).1 by kernel_rfl)).trans (e_law05_works F ))
    (fun _ h => (okT_fill h).trans (congrArg some (by kernel_rfl)))

end Go.Xv
set_option linter.unusedVariables false
namespace Go.Xv
/- 7 _law05_TurnUnit -/
def c_law05_TurnUnit : Cfg := ⟨[0, 2, 3, 4, 5, 6, 7, 9], [], [17, 20, 24, 25, 26, 27], []⟩
def ti_law05_TurnUnit : List TV := [.v (.int .u32)]
def to_law05_TurnUnit : TV := .v (.bool)
def S_law05_TurnUnit (F : Nat) : FuncId → List VV → Option (Bool × VV) := words [(27, s_law05_works F), (25, s_turn_Both F), (31, s_ref01_Mul F), (30, s_ref01_Add F), (33, s_ref01_Near F), (35, s_ref01_Of F), (34, s_ref01_Neg F), (32, s_ref01_Clip F)]
def W_law05_TurnUnit (F : Nat) : List LW := []
def I_law05_TurnUnit (F : Nat) : Nat → VS → (Exit → VS → R) → R := tabI c_law05_TurnUnit (W_law05_TurnUnit F)
def WJ_law05_TurnUnit (F : Nat) : List LJ := []
def J_law05_TurnUnit (F : Nat) : Nat → Nat → VS → (Exit → VS → R) → R := tabJ (WJ_law05_TurnUnit F)
def f_law05_TurnUnit (F : Nat) (a0 : Int) : R :=
  bif (ok_law05_works F) then (
    bif ((!((o_law05_works_0 F)))) then (
      some (.v (.bool false)))
    else (
      bif (ok_turn_Both F a0) then (
        let v870 : Int := (o_turn_Both_0 F a0)
        let v871 : Int := (o_turn_Both_1 F a0)
        bif (ok_ref01_Mul F v870 v870) then (
          let v1114 : Int := (o_ref01_Mul_0 F v870 v870)
          let v1115 : Int := (o_ref01_Mul_1 F v870 v870)
          bif (ok_ref01_Mul F v871 v871) then (
            let v1116 : Int := (o_ref01_Mul_0 F v871 v871)
            let v1117 : Int := (o_ref01_Mul_1 F v871 v871)
            bif (ok_ref01_Add F v1114 v1115 v1116 v1117) then (
              let v1118 : Int := (o_ref01_Add_0 F v1114 v1115 v1116 v1117)
              let v1119 : Int := (o_ref01_Add_1 F v1114 v1115 v1116 v1117)
              bif (ok_ref01_Near F v1118 v1119 32) then (
                let v1166 : Int := (o_ref01_Near_0 F v1118 v1119 32)
                let v1167 : Int := (o_ref01_Near_1 F v1118 v1119 32)
                bif (ok_ref01_Of F 4294967296) then (
                  let v1168 : Int := (o_ref01_Of_0 F 4294967296)
                  let v1169 : Int := (o_ref01_Of_1 F 4294967296)
                  bif (ok_ref01_Neg F v1168 v1169) then (
                    let v1170 : Int := (o_ref01_Neg_0 F v1168 v1169)
                    let v1171 : Int := (o_ref01_Neg_1 F v1168 v1169)
                    bif (ok_ref01_Add F v1166 v1167 v1170 v1171) then (
                      let v1172 : Int := (o_ref01_Add_0 F v1166 v1167 v1170 v1171)
                      let v1173 : Int := (o_ref01_Add_1 F v1166 v1167 v1170 v1171)
                      bif (ok_ref01_Clip F v1172 v1173) then (
                        let v1184 : Int := (o_ref01_Clip_0 F v1172 v1173)
                        bif ((!((o_ref01_Clip_1 F v1172 v1173)))) then (
                          bif ((decide (v1184 ≤ 1024))) then (
                            some (.v (.bool ((decide (v1184 ≥ (-1024)))))))
                          else (
                            some (.v (.bool false))))
                        else (
                          some (.v (.bool false))))
                      else (
                        none))
                    else (
                      none))
                  else (
                    none))
                else (
                  none))
              else (
                none))
            else (
              none))
          else (
            none))
        else (
          none))
      else (
        none)))
  else (
    none)
theorem e_law05_TurnUnit (F : Nat) (a0 : Int) : funL PP (S_law05_TurnUnit F) c_law05_TurnUnit (I_law05_TurnUnit F) (J_law05_TurnUnit F) 7 (fTs ti_law05_TurnUnit [.i a0]).1 = f_law05_TurnUnit F a0 := by
  have h : ∀ (ok_law05_works : Nat → Bool) (o_law05_works_0 : Nat → Bool) (ok_turn_Both : Nat → Int → Bool) (o_turn_Both_0 : Nat → Int → Int) (o_turn_Both_1 : Nat → Int → Int) (ok_ref01_Mul : Nat → Int → Int → Bool) (o_ref01_Mul_0 : Nat → Int → Int → Int) (o_ref01_Mul_1 : Nat → Int → Int → Int) (ok_ref01_Add : Nat → Int → Int → Int → Int → Bool) (o_ref01_Add_0 : Nat → Int → Int → Int → Int → Int) (o_ref01_Add_1 : Nat → Int → Int → Int → Int → Int) (ok_ref01_Near : Nat → Int → Int → Int → Bool) (o_ref01_Near_0 : Nat → Int → Int → Int → Int) (o_ref01_Near_1 : Nat → Int → Int → Int → Int) (ok_ref01_Of : Nat → Int → Bool) (o_ref01_Of_0 : Nat → Int → Int) (o_ref01_Of_1 : Nat → Int → Int) (ok_ref01_Neg : Nat → Int → Int → Bool) (o_ref01_Neg_0 : Nat → Int → Int → Int) (o_ref01_Neg_1 : Nat → Int → Int → Int) (ok_ref01_Clip : Nat → Int → Int → Bool) (o_ref01_Clip_0 : Nat → Int → Int → Int) (o_ref01_Clip_1 : Nat → Int → Int → Bool), funL PP (words [(27, spec ti_law05_works to_law05_works (fun q => (ok_law05_works F )) (fun q => [.b (o_law05_works_0 F )])), (25, spec ti_turn_Both to_turn_Both (fun q => (ok_turn_Both F (atI (nth q 0)))) (fun q => [.i (o_turn_Both_0 F (atI (nth q 0))), .i (o_turn_Both_1 F (atI (nth q 0)))])), (31, spec ti_ref01_Mul to_ref01_Mul (fun q => (ok_ref01_Mul F (atI (nth q 0)) (atI (nth q 1)))) (fun q => [.i (o_ref01_Mul_0 F (atI (nth q 0)) (atI (nth q 1))), .i (o_ref01_Mul_1 F (atI (nth q 0)) (atI (nth q 1)))])), (30, spec ti_ref01_Add to_ref01_Add (fun q => (ok_ref01_Add F (atI (nth q 0)) (atI (nth q 1)) (atI (nth q 2)) (atI (nth q 3)))) (fun q => [.i (o_ref01_Add_0 F (atI (nth q 0)) (atI (nth q 1)) (atI (nth q 2)) (atI (nth q 3))), .i (o_ref01_Add_1 F (atI (nth q 0)) (atI (nth q 1)) (atI (nth q 2)) (atI (nth q 3)))])), (33, spec ti_ref01_Near to_ref01_Near (fun q => (ok_ref01_Near F (atI (nth q 0)) (atI (nth q 1)) (atI (nth q 2)))) (fun q => [.i (o_ref01_Near_0 F (atI (nth q 0)) (atI (nth q 1)) (atI (nth q 2))), .i (o_ref01_Near_1 F (atI (nth q 0)) (atI (nth q 1)) (atI (nth q 2)))])), (35, spec ti_ref01_Of to_ref01_Of (fun q => (ok_ref01_Of F (atI (nth q 0)))) (fun q => [.i (o_ref01_Of_0 F (atI (nth q 0))), .i (o_ref01_Of_1 F (atI (nth q 0)))])), (34, spec ti_ref01_Neg to_ref01_Neg (fun q => (ok_ref01_Neg F (atI (nth q 0)) (atI (nth q 1)))) (fun q => [.i (o_ref01_Neg_0 F (atI (nth q 0)) (atI (nth q 1))), .i (o_ref01_Neg_1 F (atI (nth q 0)) (atI (nth q 1)))])), (32, spec ti_ref01_Clip to_ref01_Clip (fun q => (ok_ref01_Clip F (atI (nth q 0)) (atI (nth q 1)))) (fun q => [.i (o_ref01_Clip_0 F (atI (nth q 0)) (atI (nth q 1))), .b (o_ref01_Clip_1 F (atI (nth q 0)) (atI (nth q 1)))]))]) c_law05_TurnUnit (tabI c_law05_TurnUnit []) (tabJ []) 7 (fTs ti_law05_TurnUnit [.i a0]).1 = (
  bif (ok_law05_works F) then (
    bif ((!((o_law05_works_0 F)))) then (
      some (.v (.bool false)))
    else (
      bif (ok_turn_Both F a0) then (
        let v870 : Int := (o_turn_Both_0 F a0)
        let v871 : Int := (o_turn_Both_1 F a0)
        bif (ok_ref01_Mul F v870 v870) then (
          let v1114 : Int := (o_ref01_Mul_0 F v870 v870)
          let v1115 : Int := (o_ref01_Mul_1 F v870 v870)
          bif (ok_ref01_Mul F v871 v871) then (
            let v1116 : Int := (o_ref01_Mul_0 F v871 v871)
            let v1117 : Int := (o_ref01_Mul_1 F v871 v871)
            bif (ok_ref01_Add F v1114 v1115 v1116 v1117) then (
              let v1118 : Int := (o_ref01_Add_0 F v1114 v1115 v1116 v1117)
              let v1119 : Int := (o_ref01_Add_1 F v1114 v1115 v1116 v1117)
              bif (ok_ref01_Near F v1118 v1119 32) then (
                let v1166 : Int := (o_ref01_Near_0 F v1118 v1119 32)
                let v1167 : Int := (o_ref01_Near_1 F v1118 v1119 32)
                bif (ok_ref01_Of F 4294967296) then (
                  let v1168 : Int := (o_ref01_Of_0 F 4294967296)
                  let v1169 : Int := (o_ref01_Of_1 F 4294967296)
                  bif (ok_ref01_Neg F v1168 v1169) then (
                    let v1170 : Int := (o_ref01_Neg_0 F v1168 v1169)
                    let v1171 : Int := (o_ref01_Neg_1 F v1168 v1169)
                    bif (ok_ref01_Add F v1166 v1167 v1170 v1171) then (
                      let v1172 : Int := (o_ref01_Add_0 F v1166 v1167 v1170 v1171)
                      let v1173 : Int := (o_ref01_Add_1 F v1166 v1167 v1170 v1171)
                      bif (ok_ref01_Clip F v1172 v1173) then (
                        let v1184 : Int := (o_ref01_Clip_0 F v1172 v1173)
                        bif ((!((o_ref01_Clip_1 F v1172 v1173)))) then (
                          bif ((decide (v1184 ≤ 1024))) then (
                            some (.v (.bool ((decide (v1184 ≥ (-1024)))))))
                          else (
                            some (.v (.bool false))))
                        else (
                          some (.v (.bool false))))
                      else (
                        none))
                    else (
                      none))
                  else (
                    none))
                else (
                  none))
              else (
                none))
            else (
              none))
          else (
            none))
        else (
          none))
      else (
        none)))
  else (
    none) : R) := by
    intros
    kernel_rfl
  exact (h ok_law05_works o_law05_works_0 ok_turn_Both o_turn_Both_0 o_turn_Both_1 ok_ref01_Mul o_ref01_Mul_0 o_ref01_Mul_1 ok_ref01_Add o_ref01_Add_0 o_ref01_Add_1 ok_ref01_Near o_ref01_Near_0 o_ref01_Near_1 ok_ref01_Of o_ref01_Of_0 o_ref01_Of_1 ok_ref01_Neg o_ref01_Neg_0 o_ref01_Neg_1 ok_ref01_Clip o_ref01_Clip_0 o_ref01_Clip_1).trans (by kernel_rfl)
def ok_law05_TurnUnit (F : Nat) (a0 : Int) : Bool := okT to_law05_TurnUnit (f_law05_TurnUnit F a0)
def o_law05_TurnUnit_0 (F : Nat) (a0 : Int) : Bool := atB (nth (outT to_law05_TurnUnit (f_law05_TurnUnit F a0)) 0)
theorem k_law05_TurnUnit (F : Nat) (a0 : Int) {z0 : Bool} (h : f_law05_TurnUnit F a0 = some (.v (.bool z0))) : ok_law05_TurnUnit F a0 = true ∧ o_law05_TurnUnit_0 F a0 = z0 := by
  refine ⟨?_, ?_⟩
  · unfold ok_law05_TurnUnit; rw [h]; kernel_rfl
  · unfold o_law05_TurnUnit_0; rw [h]; kernel_rfl
def s_law05_TurnUnit (F : Nat) : List VV → Option (Bool × VV) := spec ti_law05_TurnUnit to_law05_TurnUnit (fun q => (ok_law05_TurnUnit F (atI (nth q 0)))) (fun q => [.b (o_law05_TurnUnit_0 F (atI (nth q 0)))])
theorem hS_law05_TurnUnit (F : Nat) : ∀ f, Good PP f (unS (S_law05_TurnUnit F f)) := words_good fun p hp => by
  simp only [List.mem_cons, List.not_mem_nil, or_false] at hp
  rcases hp with rfl | rfl | rfl | rfl | rfl | rfl | rfl | rfl
  · exact g_law05_works F
  · exact g_turn_Both F
  · exact g_ref01_Mul F
  · exact g_ref01_Add F
  · exact g_ref01_Near F
  · exact g_ref01_Of F
  · exact g_ref01_Neg F
  · exact g_ref01_Clip F
theorem hl_law05_TurnUnit (F : Nat) : ∀ p ∈ loopsIn PP 7, LoopOK PP (S_law05_TurnUnit F) c_law05_TurnUnit F (I_law05_TurnUnit F) (J_law05_TurnUnit F) p :=
  loops_of [] (by kernel_rfl) all_nil
theorem hj_law05_TurnUnit (F : Nat) : ∀ p ∈ joinsIn PP c_law05_TurnUnit 7, JoinOK PP (S_law05_TurnUnit F) c_law05_TurnUnit (I_law05_TurnUnit F) (J_law05_TurnUnit F) p :=
  joins_of [] (by kernel_rfl) all_nil
theorem g_law05_TurnUnit (F : Nat) : Good PP 7 (unS (s_law05_TurnUnit F)) :=
  fun_spec (hS_law05_TurnUnit F) (by kernel_rfl) (by kernel_rfl) (C := c_law05_TurnUnit) (F := fun q => (f_law05_TurnUnit F (atI (nth q 0)))) (fun _ => F) (fun _ => I_law05_TurnUnit F) (fun _ => J_law05_TurnUnit F) (fun _ => hl_law05_TurnUnit F) (fun _ => hj_law05_TurnUnit F)
    (fun q => (congrArg (funL PP (S_law05_TurnUnit F) c_law05_TurnUnit (I_law05_TurnUnit F) (J_law05_TurnUnit F) 7) (show (fTs ti_law05_TurnUnit q).1 = (fTs ti_law05_TurnUnit [.i (atI (nth q 0))]).1 by kernel_rfl)).trans (e_law05_TurnUnit F (atI (nth q 0))))
    (fun _ h => (okT_fill h).trans (congrArg some (by kernel_rfl)))

end Go.Xv
namespace Go.Xv
theorem p2pos (n : Nat) : (0 : Int) < 2 ^ n := Int.pow_pos (by decide)
theorem p2add (a b : Nat) : (2 : Int) ^ a * 2 ^ b = 2 ^ (a + b) := (Int.pow_add 2 a b).symm
end Go.Xv
namespace Go.Xv
/-- one bit of a number -/
def dg (z : Int) (i : Nat) : Int := z / 2 ^ i % 2
def ds (z : Int) (n : Nat) : List VV := (List.range n).map fun i => .v (.int .i64 (dg z i))
theorem dg_01 (z : Int) (i : Nat) : 0 ≤ dg z i ∧ dg z i ≤ 1 := by unfold dg; omega
theorem ds_len (z : Int) (n : Nat) : (ds z n).length = n := by simp [ds]
theorem ds_zero (z : Int) : ds z 0 = [] := rfl
theorem ds_succ (z : Int) (n : Nat) : ds z (n + 1) = ds z n ++ [.v (.int .i64 (dg z n))] := by simp [ds, List.range_succ]
theorem ds_get (z : Int) {n i : Nat} (h : i < n) : (ds z n)[i]? = some (.v (.int .i64 (dg z i))) := by simp [ds, h]
theorem ds_take (z : Int) (n : Nat) : ((ds z n).drop 0).take (n * 1) = ds z n := by
  rw [List.drop_zero, List.take_of_length_le]
  rw [ds_len]; omega
theorem ediv2 (x : Int) (i : Nat) : x / 2 ^ i / 2 = x / 2 ^ (i + 1) := by
  rw [Int.ediv_ediv_of_nonneg (Int.le_of_lt (p2pos i))]; rfl
theorem bitlo (x : Int) {n i : Nat} (h : i < n) : (x % 2 ^ n) / 2 ^ i % 2 = x / 2 ^ i % 2 := by
  have e : (2 : Int) ^ n = 2 ^ i * (2 * 2 ^ (n - i - 1)) := by
    rw [show (2 : Int) * 2 ^ (n - i - 1) = 2 ^ (n - i) by
      rw [show n - i = (n - i - 1) + 1 by omega, Int.pow_succ]; simp [Int.mul_comm]]
    rw [p2add, show i + (n - i) = n by omega]
  have hd := Int.mul_ediv_add_emod x (2 ^ n)
  generalize hq : x / 2 ^ n = q at hd
  generalize hr : x % 2 ^ n = r at hd ⊢
  rw [← hd, e]
  have hP := p2pos i
  generalize (2 : Int) ^ i = P at *
  generalize (2 : Int) ^ (n - i - 1) = T at *
  rw [show P * (2 * T) * q + r = r + 2 * T * q * P by
    have : P * (2 * T) * q = 2 * T * q * P := by simp only [Int.mul_comm, Int.mul_left_comm]
    omega, Int.add_mul_ediv_right _ _ (by omega)]
  have : 2 * T * q = 2 * (T * q) := Int.mul_assoc ..
  omega
theorem dg_lo (z : Int) {i : Nat} (h : i < 64) : lo z / 2 ^ i % 2 = dg z i := bitlo z (n := 64) h
theorem dg_hi (z : Int) {i : Nat} (h : i < 64) : (z / 18446744073709551616 % 18446744073709551616) / 2 ^ i % 2 = dg z (64 + i) := by
  have := bitlo (z / 18446744073709551616) (n := 64) h
  rw [show (18446744073709551616 : Int) = 2 ^ 64 by decide] at *
  rw [this, Int.ediv_ediv_of_nonneg (by decide), p2add]
  rfl
/-- the number of the first bits -/
def num (z : Int) (n : Nat) : Int := z % 2 ^ n
theorem num_zero (z : Int) : num z 0 = 0 := by unfold num; omega
theorem num_succ (z : Int) (n : Nat) : num z (n + 1) = num z n + dg z n * 2 ^ n := by
  unfold num dg
  have h1 := Int.mul_ediv_add_emod z (2 ^ n)
  have h2 := Int.mul_ediv_add_emod (z / 2 ^ n) 2
  have h3 := Int.mul_ediv_add_emod z (2 ^ (n + 1))
  rw [← ediv2] at h3
  have hP := p2pos n
  have e : (2 : Int) ^ (n + 1) = 2 * 2 ^ n := by rw [Int.pow_succ, Int.mul_comm]
  rw [e] at h3 ⊢
  generalize (2 : Int) ^ n = P at *
  generalize z / P = q at *
  have : 2 * P * (q / 2) = P * (2 * (q / 2)) := by simp only [Int.mul_comm, Int.mul_left_comm]
  have : P * q = P * (2 * (q / 2) + q % 2) := by rw [h2]
  rw [Int.mul_add] at this
  rw [Int.mul_comm (q % 2) P]
  omega
theorem num_bd (z : Int) (n : Nat) : 0 ≤ num z n ∧ num z n < 2 ^ n := by
  have := p2pos n
  exact ⟨Int.emod_nonneg _ (by omega), Int.emod_lt_of_pos _ this⟩
theorem p2mono {a b : Nat} (h : a ≤ b) : (2 : Int) ^ a ≤ 2 ^ b := by
  rw [show b = a + (b - a) by omega, ← p2add]
  have h1 := p2pos a
  have h2 := p2pos (b - a)
  have : (2 : Int) ^ a * 1 ≤ 2 ^ a * 2 ^ (b - a) := Int.mul_le_mul_of_nonneg_left (by omega) (by omega)
  omega
theorem p2_lt64 {i : Nat} (h : i < 64) : (2 : Int) ^ i * 2 ≤ 18446744073709551616 := by
  have := p2mono (a := i + 1) (b := 64) (by omega)
  rw [Int.pow_succ] at this
  simpa using this
/-- the bits of a sum -/
def cy (x y : Int) (i : Nat) : Int := (num x i + num y i) / 2 ^ i
theorem cy_zero (x y : Int) : cy x y 0 = 0 := by unfold cy; rw [num_zero, num_zero]; decide
theorem cy_01 (x y : Int) (i : Nat) : 0 ≤ cy x y i ∧ cy x y i ≤ 1 := by
  unfold cy
  have h1 := num_bd x i
  have h2 := num_bd y i
  have hP := p2pos i
  generalize (2 : Int) ^ i = P at *
  refine ⟨Int.ediv_nonneg (by omega) (by omega), ?_⟩
  have : (num x i + num y i) / P < 2 := Int.ediv_lt_of_lt_mul hP (by omega)
  omega
theorem cy_succ (x y : Int) (i : Nat) : cy x y (i + 1) = (dg x i + dg y i + cy x y i) / 2 ∧ dg (x + y) i = (dg x i + dg y i + cy x y i) % 2 := by
  have hP := p2pos i
  have e1 := num_succ x i
  have e2 := num_succ y i
  constructor
  · unfold cy
    rw [e1, e2, ← ediv2]
    generalize (2 : Int) ^ i = P at *
    rw [show num x i + dg x i * P + (num y i + dg y i * P) = num x i + num y i + (dg x i + dg y i) * P by rw [Int.add_mul]; omega, Int.add_mul_ediv_right _ _ (by omega)]
    congr 1
    omega
  · unfold cy
    have h1 := Int.mul_ediv_add_emod x (2 ^ i)
    have h2 := Int.mul_ediv_add_emod y (2 ^ i)
    have h3 : (x + y) / 2 ^ i = x / 2 ^ i + y / 2 ^ i + (num x i + num y i) / 2 ^ i := by
      unfold num
      generalize (2 : Int) ^ i = P at *
      have : x + y = (x % P + y % P) + (x / P + y / P) * P := by
        rw [Int.add_mul, Int.mul_comm _ P, Int.mul_comm _ P]; omega
      rw [this, Int.add_mul_ediv_right _ _ (by omega)]
      omega
    unfold dg
    rw [h3]
    omega
theorem dg_not (z : Int) (i : Nat) : dg (-1 - z) i = 1 - dg z i := by
  have h : (-1 - z) / 2 ^ i = -1 - z / 2 ^ i := by
    have hP := p2pos i
    have h1 := Int.mul_ediv_add_emod z (2 ^ i)
    have h2 := Int.emod_nonneg z (show (2 : Int) ^ i ≠ 0 by omega)
    have h3 := Int.emod_lt_of_pos z hP
    generalize (2 : Int) ^ i = P at *
    generalize z / P = q at *
    generalize z % P = r at *
    rw [← h1, show -1 - (P * q + r) = (P - 1 - r) + (-1 - q) * P by rw [Int.sub_mul, Int.mul_comm P q]; omega, Int.add_mul_ediv_right _ _ (by omega), Int.ediv_eq_zero_of_lt (by omega) (by omega)]
    omega
  unfold dg
  rw [h]
  omega
end Go.Xv
namespace Go.Xv
def angs : List Int := [536870912, 316933406, 167458907, 85004756, 42667331, 21354465, 10679838, 5340245, 2670163, 1335087, 667544, 333772, 166886, 83443, 41722, 20861, 10430, 5215, 2608, 1304, 652, 326, 163, 81, 41, 20, 10, 5, 3, 1]
def tA (i : Nat) : Int := angs.getD i 0
theorem tA_bd : ∀ i, i < 30 → 1 ≤ tA i ∧ tA i ≤ 536870912 := by decide
theorem ediv_bd {y B : Int} (h : -B ≤ y ∧ y ≤ B) (i : Nat) : -B ≤ y / 2 ^ i ∧ y / 2 ^ i ≤ B := by
  have hP := p2pos i
  generalize (2 : Int) ^ i = P at *
  rcases Int.lt_or_le y 0 with hn | hn
  · constructor
    · rw [Int.le_ediv_iff_mul_le hP]
      have : -B * P ≤ -B * 1 := Int.mul_le_mul_of_nonpos_left (by omega) (by omega)
      omega
    · have := Int.ediv_neg_of_neg_of_pos hn hP
      omega
  · have h1 := Int.ediv_nonneg hn (Int.le_of_lt hP)
    have h2 := Int.ediv_le_self P hn
    omega
def rotX (i : Nat) (o : Bool) (x y : Int) : Int := if o then x - y / 2 ^ i else x + y / 2 ^ i
def rotY (i : Nat) (o : Bool) (x y : Int) : Int := if o then y + x / 2 ^ i else y - x / 2 ^ i
theorem rot_bd {x y B : Int} (hx : -B ≤ x ∧ x ≤ B) (hy : -B ≤ y ∧ y ≤ B) (i : Nat) (o : Bool) : (-(2 * B) ≤ rotX i o x y ∧ rotX i o x y ≤ 2 * B) ∧ (-(2 * B) ≤ rotY i o x y ∧ rotY i o x y ≤ 2 * B) := by
  have h1 := ediv_bd hx i
  have h2 := ediv_bd hy i
  unfold rotX rotY
  cases o
  · simp only [Bool.false_eq_true, if_false]; omega
  · simp only [if_true]; omega
/-- sine and cosine, step by step: both parts, and what is left -/
def bS (z : Int) : Nat → Int × Int × Int
  | 0 => (2608131496, 0, z)
  | i + 1 => (rotX i (decide (0 ≤ (bS z i).2.2)) (bS z i).1 (bS z i).2.1, rotY i (decide (0 ≤ (bS z i).2.2)) (bS z i).1 (bS z i).2.1, if 0 ≤ (bS z i).2.2 then (bS z i).2.2 - tA i else (bS z i).2.2 + tA i)
theorem bS_bd (z : Int) : ∀ i, (-(2608131496 * 2 ^ i) ≤ (bS z i).1 ∧ (bS z i).1 ≤ 2608131496 * 2 ^ i) ∧ (-(2608131496 * 2 ^ i) ≤ (bS z i).2.1 ∧ (bS z i).2.1 ≤ 2608131496 * 2 ^ i)
  | 0 => by simp [bS]
  | i + 1 => by
    obtain ⟨h1, h2⟩ := bS_bd z i
    have := rot_bd h1 h2 i (decide (0 ≤ (bS z i).2.2))
    have e : (2608131496 : Int) * 2 ^ (i + 1) = 2 * (2608131496 * 2 ^ i) := by rw [Int.pow_succ]; omega
    rw [e]
    exact this
theorem bS_I (z : Int) {i : Nat} (h : i ≤ 30) : (-4611686018427387904 ≤ (bS z i).1 ∧ (bS z i).1 ≤ 4611686018427387904) ∧ (-4611686018427387904 ≤ (bS z i).2.1 ∧ (bS z i).2.1 ≤ 4611686018427387904) := by
  have h1 := bS_bd z i
  have h2 : (2608131496 : Int) * 2 ^ i ≤ 2608131496 * 2 ^ 30 := Int.mul_le_mul_of_nonneg_left (p2mono h) (by decide)
  have h3 : (2608131496 : Int) * 2 ^ 30 ≤ 4611686018427387904 := by decide
  omega
theorem bS_z {z : Int} (hz : 0 ≤ z ∧ z < 1073741824) : ∀ {i : Nat}, i ≤ 30 → -(1073741824 + 536870912 * (i : Int)) ≤ (bS z i).2.2 ∧ (bS z i).2.2 ≤ 1073741824 + 536870912 * (i : Int)
  | 0, _ => by simp only [bS]; omega
  | i + 1, h => by
    have ih := bS_z hz (i := i) (by omega)
    have := tA_bd i (by omega)
    simp only [bS]
    push_cast
    split <;> omega
def cl01 (x : Int) : Int := min (max x 0) 4294967296
theorem cl01_bd (x : Int) : 0 ≤ cl01 x ∧ cl01 x ≤ 4294967296 := by unfold cl01; omega
def bC (a : Int) : Int := cl01 (bS (a % 1073741824) 30).1
def bN (a : Int) : Int := cl01 (bS (a % 1073741824) 30).2.1
/-- cosine and sine -/
def bothC (a : Int) : Int := if a / 1073741824 = 0 then bC a else if a / 1073741824 = 1 then -bN a else if a / 1073741824 = 2 then -bC a else bN a
def bothS (a : Int) : Int := if a / 1073741824 = 0 then bN a else if a / 1073741824 = 1 then bC a else if a / 1073741824 = 2 then -bN a else -bC a
theorem both_bd (a : Int) : (-4294967296 ≤ bothC a ∧ bothC a ≤ 4294967296) ∧ (-4294967296 ≤ bothS a ∧ bothS a ≤ 4294967296) := by
  have h1 := cl01_bd (bS (a % 1073741824) 30).1
  have h2 := cl01_bd (bS (a % 1073741824) 30).2.1
  unfold bothC bothS bC bN
  constructor <;> (repeat' split) <;> omega
/-- the angle, step by step -/
def aS (x y : Int) : Nat → Int × Int × Int
  | 0 => (x, y, 0)
  | i + 1 => (rotX i (decide ((aS x y i).2.1 < 0)) (aS x y i).1 (aS x y i).2.1, rotY i (decide ((aS x y i).2.1 < 0)) (aS x y i).1 (aS x y i).2.1, if (aS x y i).2.1 < 0 then (aS x y i).2.2 - tA i else (aS x y i).2.2 + tA i)
def sz (a : Int) : Int := if a < 0 then -a else a
/-- how often it is halved, and doubled -/
def big (x y : Int) : Int := max (sz x) (sz y)
def down : Nat → Int → Int → Int × Int
  | 0, x, y => (x, y)
  | n + 1, x, y => if 2305843009213693952 ≤ big x y then down n (x / 2) (y / 2) else (x, y)
def dbl : Nat → Int → Int → Int × Int
  | 0, x, y => (x, y)
  | n + 1, x, y => if big x y < 1152921504606846976 then dbl n (x * 2) (y * 2) else (x, y)
def scd (x y : Int) : Int × Int := dbl 64 (down 64 x y).1 (down 64 x y).2
def opp (a : Int) : Int := if a = -9223372036854775808 then 9223372036854775807 else -a
def angle (y x : Int) : Int := if x = 0 ∧ y = 0 then 0 else if x < 0 then ((aS (scd (opp x) (opp y)).1 (scd (opp x) (opp y)).2 30).2.2 + 2147483648) % 4294967296 else (aS (scd x y).1 (scd x y).2 30).2.2 % 4294967296
end Go.Xv
namespace Go.Xv
theorem bp {α : Type} {c : Bool} {a b x : α} (h : c = true) (h2 : a = x) : (bif c then a else b) = x := by rw [h]; exact h2
theorem bn {α : Type} {c : Bool} {a b x : α} (h : c = false) (h2 : b = x) : (bif c then a else b) = x := by rw [h]; exact h2
theorem dt {p : Prop} [Decidable p] (h : p) : decide p = true := decide_eq_true h
theorem df {p : Prop} [Decidable p] (h : ¬ p) : decide p = false := decide_eq_false h
theorem fdiv_pos (a : Int) {b : Int} (h : 0 ≤ b) : Int.fdiv a b = a / b := Int.fdiv_eq_ediv_of_nonneg a h
theorem some_int {k : IntKind} {a b : Int} (h : a = b) : (some (VV.v (.int k a)) : R) = some (.v (.int k b)) := by rw [h]
theorem some_wd {a b : Int} {z : Int} (h : a = hi z) (k : b = lo z) : (some (VV.v (.agg #[.int .i64 a, .int .u64 b])) : R) = some (wd z) := by rw [h, k]; rfl

end Go.Xv
namespace Go.Xv
theorem some_bool {a b : Bool} (h : a = b) : (some (VV.v (.bool a)) : R) = some (.v (.bool b)) := by rw [h]
theorem nn (k : Nat) : (!decide ((k : Int) < 0)) = true := by rw [df (by omega)]; rfl
theorem p2min {m : Nat} (h : m ≤ 64) : min (Int.toNat (m : Int)) 64 = m := by omega

theorem f_rOf (F : Nat) {n : Int} (h : I64 n) : f_ref01_Of F n = some (wd n) := by
  unfold f_ref01_Of
  unfold I64 at h
  by_cases h0 : n < 0
  · refine bp (dt h0) (some_wd ?_ ?_)
    · unfold hi; omega
    · rw [wu64]; rfl
  · refine bn (df h0) (some_wd ?_ ?_)
    · unfold hi; omega
    · rw [wu64]; rfl

/-- how far a number is shifted to the right at most -/
def cl (n : Int) : Nat := (if 127 < (if 0 > n then 0 else n) then 127 else (if 0 > n then 0 else n)).toNat
/-- over a power of two, to the nearest one -/
def near (z : Int) (m : Nat) : Int := if m = 0 then z else z / 2 ^ m + z / 2 ^ (m - 1) % 2
end Go.Xv
namespace Go.Xv
theorem lo_step (z : Int) (i : Nat) : IntKind.wrap .u64 (Int.tdiv (lo z / 2 ^ i) 2) = lo z / 2 ^ (i + 1) := by
  have h := lo_U z
  unfold U64 at h
  have h1 := Int.ediv_nonneg h.1 (Int.le_of_lt (p2pos i))
  have h2 := Int.ediv_le_self (2 ^ i) h.1
  rw [Int.tdiv_eq_ediv_of_nonneg h1, ediv2, wu64_in]
  have h3 := Int.ediv_nonneg h.1 (Int.le_of_lt (p2pos (i + 1)))
  have h4 := Int.ediv_le_self (2 ^ (i + 1)) h.1
  unfold U64; omega
theorem lo_bit (z : Int) {i : Nat} (h : i < 64) : IntKind.wrap .i64 (Int.tmod (lo z / 2 ^ i) 2) = dg z i := by
  have h0 := lo_U z
  unfold U64 at h0
  have h1 := Int.ediv_nonneg h0.1 (Int.le_of_lt (p2pos i))
  rw [Int.tmod_eq_emod_of_nonneg h1, dg_lo z h, wi64_in]
  have := dg_01 z i
  unfold I64; omega
theorem cap_ok (z : Int) (i : Nat) (h : i < 1000) : (((decide ((0 + (i * 1)) ≤ (ds z i).length)) && true) && (decide ((i + 1) * 9 ≤ bigger))) = true := by
  rw [ds_len, dt (by omega), dt (show (i + 1) * 9 ≤ bigger by unfold bigger; omega)]; rfl
theorem lp_Digits_0 (F : Nat) (ex) (z x0 x1 x5 x6 : Int) : ∀ (k n i : Nat) (x3 x4 : Int) (x7 : List VV), i + k = 64 → k < n → x3 = lo z / 2 ^ i → x4 = i → x7 = ds z i →
    L_ref01_Digits_0 F ex n x0 x1 i x3 x4 x5 x6 x7 = ex x0 x1 64 (lo z / 2 ^ 64) 64 x5 x6 (ds z 64)
  | _, 0, _, _, _, _, _, h, _, _, _ => absurd h (by omega)
  | 0, n + 1, i, _, _, _, h, _, rfl, rfl, rfl => by
    obtain rfl : i = 64 := by omega
    rw [L_ref01_Digits_0]
    unfold B_ref01_Digits_0
    exact bn (df (by omega)) rfl
  | k + 1, n + 1, i, _, _, _, h, hn, rfl, rfl, rfl => by
    rw [L_ref01_Digits_0]
    unfold B_ref01_Digits_0
    refine bp (dt (by omega)) (bp (cap_ok z _ (by omega)) ?_)
    refine lp_Digits_0 F ex z x0 x1 x5 x6 k n (i + 1) _ _ _ (by omega) (by omega) (lo_step z i) ?_ ?_
    · rw [wi64_in (by unfold I64; omega)]; push_cast; rfl
    · rw [ds_take, lo_bit z (by omega), ← ds_succ]
def up (z : Int) : Int := z / 18446744073709551616 % 18446744073709551616
theorem lp_Digits_1 (F : Nat) (ex) (z x0 x1 x3 x4 x7 x8 : Int) : ∀ (k n i j : Nat) (x5 x6 : Int) (x9 : List VV), i + k = 64 → j = 64 + i → k < n → x5 = up z / 2 ^ i → x6 = i → x9 = ds z j →
    L_ref01_Digits_1 F ex n x0 x1 j x3 x4 x5 x6 x7 x8 x9 = ex x0 x1 128 x3 x4 (up z / 2 ^ 64) 64 x7 x8 (ds z 128)
  | _, 0, _, _, _, _, _, _, _, h, _, _, _ => absurd h (by omega)
  | 0, n + 1, i, j, _, _, _, h, hj, _, rfl, rfl, rfl => by
    obtain rfl : i = 64 := by omega
    obtain rfl : j = 128 := by omega
    rw [L_ref01_Digits_1]
    unfold B_ref01_Digits_1
    exact bn (df (by omega)) rfl
  | k + 1, n + 1, i, j, _, _, _, h, hj, hn, rfl, rfl, rfl => by
    rw [L_ref01_Digits_1]
    unfold B_ref01_Digits_1
    refine bp (dt (by omega)) (bp (cap_ok z _ (by omega)) ?_)
    have e : up z = lo (z / 18446744073709551616) := rfl
    refine lp_Digits_1 F ex z x0 x1 x3 x4 x7 x8 k n (i + 1) (j + 1) _ _ _ (by omega) (by omega) (by omega) ?_ ?_ ?_
    · rw [e, lo_step]
    · rw [wi64_in (by unfold I64; omega)]; push_cast; rfl
    · rw [ds_take, e, lo_bit _ (by omega), ← dg_lo _ (by omega), ← e]
      unfold up
      rw [dg_hi z (by omega), ← hj, ← ds_succ]
theorem f_Digits (F : Nat) (hF : 200 ≤ F) {a b : Int} (hb : U64 b) : f_ref01_Digits F a b = some (.fs (ds (val a b) 128) 0 128 1) := by
  unfold f_ref01_Digits
  have hl := lo_val (h := a) hb
  rw [lp_Digits_0 F _ (val a b) a b a b 64 F 0 b 0 [] (by omega) (by omega) (by rw [hl]; simp) rfl rfl]
  rw [lp_Digits_1 F _ (val a b) a b _ _ _ _ 64 F 0 64 _ 0 _ (by omega) (by omega) (by omega) ?_ rfl rfl]
  rw [wu64]
  unfold up val
  unfold U64 at hb
  simp only [Int.pow_zero]
  omega

theorem num_iv (l : List VV) (i : Nat) (b : Int) (h : l[i]? = some (.v (.int .i64 b))) : isI .i64 l[i]? = true ∧ iv l[i]? = b := by
  rw [h]
  exact ⟨rfl, rfl⟩
theorem zmul (i : Nat) : (0 + ((Int.toNat (i : Int)) * 1)) = i := by simp
theorem lp_Number_0 (F : Nat) (ex) (z : Int) (l : List VV) (x1 : Nat) (x3 x6 x7 : Int) (h1 : 64 ≤ x1) (hl : ∀ i : Nat, i < 64 → l[i]? = some (.v (.int .i64 (dg z i)))) : ∀ (k n i : Nat) (x2 x4 x5 : Int), i + k = 64 → k < n → x2 = num z i → x4 = (2 ^ i) % 18446744073709551616 → x5 = i →
    L_ref01_Number_0 F ex n l x1 x2 x3 x4 x5 x6 x7 = ex l x1 (num z 64) x3 0 64 x6 x7
  | _, 0, _, _, _, _, _, h, _, _, _ => absurd h (by omega)
  | 0, n + 1, i, _, _, _, h, _, rfl, rfl, rfl => by
    obtain rfl : i = 64 := by omega
    rw [L_ref01_Number_0]
    unfold B_ref01_Number_0
    exact bn (df (by omega)) rfl
  | k + 1, n + 1, i, _, _, _, h, hn, rfl, rfl, rfl => by
    have hi : i < 64 := by omega
    obtain ⟨g1, g2⟩ := num_iv l i _ (hl i hi)
    have hd := dg_01 z i
    have hp := p2pos i
    have hp2 := p2_lt64 hi
    have hb := num_bd z i
    rw [L_ref01_Number_0]
    unfold B_ref01_Number_0
    refine bp (dt (by omega)) (bp (dt (by omega)) (bp (by simp; omega) (bp (by rw [zmul, g1]; rfl) ?_)))
    rw [zmul, g2, wu64_in (x := dg z i) (by unfold U64; omega)]
    refine lp_Number_0 F ex z l x1 x3 x6 x7 h1 hl k n (i + 1) _ _ _ (by omega) (by omega) ?_ ?_ ?_
    · rw [num_succ]
      generalize (2 : Int) ^ i = P at *
      rw [Int.emod_eq_of_lt (a := P) (by omega) (by omega)]
      have : 0 ≤ dg z i * P ∧ dg z i * P ≤ P := by
        rcases (show dg z i = 0 ∨ dg z i = 1 by omega) with h | h <;> rw [h] <;> omega
      rw [wu64_in (x := dg z i * P) (by unfold U64; omega), wu64_in (by unfold U64; omega)]
    · rw [wu64, Int.pow_succ]
      omega
    · rw [wi64_in (by unfold I64; omega)]; push_cast; rfl
theorem lp_Number_1 (F : Nat) (ex) (z : Int) (l : List VV) (x1 : Nat) (x2 x5 x7 x8 : Int) (h1 : 128 ≤ x1) (hl : ∀ i : Nat, i < 64 → l[64 + i]? = some (.v (.int .i64 (dg z i)))) : ∀ (k n i : Nat) (x3 x4 x6 : Int), i + k = 64 → k < n → x3 = num z i → x4 = (2 ^ i) % 18446744073709551616 → x6 = 64 + i →
    L_ref01_Number_1 F ex n l x1 x2 x3 x4 x5 x6 x7 x8 = ex l x1 x2 (num z 64) 0 x5 128 x7 x8
  | _, 0, _, _, _, _, _, h, _, _, _ => absurd h (by omega)
  | 0, n + 1, i, _, _, _, h, _, rfl, rfl, rfl => by
    obtain rfl : i = 64 := by omega
    rw [L_ref01_Number_1]
    unfold B_ref01_Number_1
    exact bn (df (by omega)) rfl
  | k + 1, n + 1, i, _, _, _, h, hn, rfl, rfl, rfl => by
    have hi : i < 64 := by omega
    obtain ⟨g1, g2⟩ := num_iv l (64 + i) _ (hl i hi)
    have hd := dg_01 z i
    have hp := p2pos i
    have hp2 := p2_lt64 hi
    have hb := num_bd z i
    have zm : (0 + ((Int.toNat (64 + (i : Int))) * 1)) = 64 + i := by omega
    rw [L_ref01_Number_1]
    unfold B_ref01_Number_1
    refine bp (dt (by omega)) (bp (dt (by omega)) (bp (by simp; omega) (bp (by rw [zm, g1]; rfl) ?_)))
    rw [zm, g2, wu64_in (x := dg z i) (by unfold U64; omega)]
    refine lp_Number_1 F ex z l x1 x2 x5 x7 x8 h1 hl k n (i + 1) _ _ _ (by omega) (by omega) ?_ ?_ ?_
    · rw [num_succ]
      generalize (2 : Int) ^ i = P at *
      rw [Int.emod_eq_of_lt (a := P) (by omega) (by omega)]
      have : 0 ≤ dg z i * P ∧ dg z i * P ≤ P := by
        rcases (show dg z i = 0 ∨ dg z i = 1 by omega) with h | h <;> rw [h] <;> omega
      rw [wu64_in (x := dg z i * P) (by unfold U64; omega), wu64_in (by unfold U64; omega)]
    · rw [wu64, Int.pow_succ]
      omega
    · rw [wi64_in (by unfold I64; omega)]; push_cast; omega
theorem dg_up (z : Int) (i : Nat) : dg z (64 + i) = dg (z / 18446744073709551616) i := by
  unfold dg
  rw [show (18446744073709551616 : Int) = 2 ^ 64 by decide, Int.ediv_ediv_of_nonneg (by decide), p2add]
theorem f_Number (F : Nat) (hF : 200 ≤ F) (z : Int) : f_ref01_Number F (ds z 128) 128 = some (wd z) := by
  unfold f_ref01_Number
  rw [lp_Number_0 F _ z (ds z 128) 128 0 0 0 (by omega) (fun i hi => ds_get z (by omega)) 64 F 0 0 1 0 (by omega) (by omega) (num_zero z).symm (by decide) rfl]
  rw [lp_Number_1 F _ (z / 18446744073709551616) (ds z 128) 128 _ _ _ _ (by omega) (fun i hi => by rw [ds_get z (by omega), dg_up]) 64 F 0 0 1 64 (by omega) (by omega) (num_zero _).symm (by decide) rfl]
  refine some_wd ?_ ?_
  · rw [wi64]; unfold num hi
    rw [show (2 : Int) ^ 64 = 18446744073709551616 by decide]
    omega
  · unfold num lo
    rw [show (2 : Int) ^ 64 = 18446744073709551616 by decide]
end Go.Xv
namespace Go.Xv
theorem wi64_s (i : Nat) (h : i < 1000) : IntKind.wrap .i64 ((i : Int) + 1) = ((i + 1 : Nat) : Int) := by
  rw [wi64_in (by unfold I64; omega)]; push_cast; rfl
theorem ix_ok (i n : Nat) (h : i < n) : ((decide (0 ≤ (i : Int))) && (decide ((i : Int) < ((n : Nat) : Int)))) = true := by
  rw [dt (by omega), dt (by omega)]; rfl
theorem isI_ds (z : Int) {i n : Nat} (h : i < n) : ((isI .i64 (ds z n)[0 + ((Int.toNat (i : Int)) * 1)]?) && true) = true := by
  rw [zmul, ds_get z h]; rfl
theorem iv_ds (z : Int) {i n : Nat} (h : i < n) : iv (ds z n)[0 + ((Int.toNat (i : Int)) * 1)]? = dg z i := by
  rw [zmul, ds_get z h]; rfl
theorem lp_Add_0 (F : Nat) (ex) (x y a b c d x9 x10 x11 x12 x13 x14 : Int) : ∀ (k n i : Nat) (x7 x8 : Int) (l : List VV), i + k = 128 → k < n → x7 = cy x y i → x8 = i → l = ds (x + y) i →
    L_ref01_Add_0 F ex n a b c d 128 128 i x7 x8 x9 x10 x11 x12 x13 x14 (ds x 128) (ds y 128) l = ex a b c d 128 128 128 (cy x y 128) 128 x9 x10 x11 x12 x13 x14 (ds x 128) (ds y 128) (ds (x + y) 128)
  | _, 0, _, _, _, _, _, h, _, _, _ => absurd h (by omega)
  | 0, n + 1, i, _, _, _, h, _, rfl, rfl, rfl => by
    obtain rfl : i = 128 := by omega
    rw [L_ref01_Add_0]
    unfold B_ref01_Add_0
    exact bn (df (by omega)) rfl
  | k + 1, n + 1, i, _, _, _, h, hn, rfl, rfl, rfl => by
    have hi : i < 128 := by omega
    rw [L_ref01_Add_0]
    unfold B_ref01_Add_0
    have h1 := dg_01 x i
    have h2 := dg_01 y i
    have h3 := cy_01 x y i
    obtain ⟨e1, e2⟩ := cy_succ x y i
    refine bp (dt (by omega)) (bp (ix_ok i 128 hi) (bp (isI_ds x hi) (bp (ix_ok i 128 hi) (bp (isI_ds y hi) ?_))))
    dsimp only
    rw [iv_ds x hi, iv_ds y hi, wi64_in (x := dg x i + dg y i) (by unfold I64; omega), wi64_in (x := dg x i + dg y i + cy x y i) (by unfold I64; omega)]
    refine bp (cap_ok _ _ (by omega)) ?_
    refine lp_Add_0 F ex x y a b c d x9 x10 x11 x12 x13 x14 k n (i + 1) _ _ _ (by omega) (by omega) ?_ (wi64_s i (by omega)) ?_
    · rw [Int.tdiv_eq_ediv_of_nonneg (by omega), ← e1, wi64_in]
      have := cy_01 x y (i + 1)
      unfold I64; omega
    · rw [ds_take, Int.tmod_eq_emod_of_nonneg (by omega), ← e2, ← ds_succ]
theorem f_rAdd (F : Nat) (hF : 200 ≤ F) {a b c d : Int} (hb : U64 b) (hd : U64 d) : f_ref01_Add F a b c d = some (wd (val a b + val c d)) := by
  unfold f_ref01_Add
  obtain ⟨h1, h2, h3⟩ := k_ref01_Digits F _ _ (f_Digits F hF (a := a) hb)
  obtain ⟨g1, g2, g3⟩ := k_ref01_Digits F _ _ (f_Digits F hF (a := c) hd)
  refine bp h1 (bp g1 ?_)
  rw [h2, h3, g2, g3]
  rw [lp_Add_0 F _ (val a b) (val c d) a b c d a b c d 0 0 128 F 0 0 0 [] (by omega) (by omega) (cy_zero _ _).symm rfl rfl]
  obtain ⟨n1, n2, n3⟩ := k_ref01_Number F _ _ (f_Number F hF (val a b + val c d))
  refine bp n1 ?_
  rw [n2, n3]; rfl
theorem lp_Neg_0 (F : Nat) (ex) (z x0 x1 x4 x5 x6 x7 : Int) : ∀ (k n i : Nat) (x3 : Int) (l : List VV), i + k = 128 → k < n → x3 = i → l = ds (-1 - z) i ++ (ds z 128).drop i →
    L_ref01_Neg_0 F ex n x0 x1 128 x3 x4 x5 x6 x7 l = ex x0 x1 128 128 x4 x5 x6 x7 (ds (-1 - z) 128)
  | _, 0, _, _, _, _, h, _, _ => absurd h (by omega)
  | 0, n + 1, i, _, _, h, _, rfl, rfl => by
    obtain rfl : i = 128 := by omega
    rw [L_ref01_Neg_0]
    unfold B_ref01_Neg_0
    refine bn (df (by omega)) ?_
    rw [List.drop_eq_nil_of_le (by rw [ds_len]; omega), List.append_nil]; rfl
  | k + 1, n + 1, i, _, _, h, hn, rfl, rfl => by
    have hi : i < 128 := by omega
    have hg : (ds (-1 - z) i ++ (ds z 128).drop i)[0 + ((Int.toNat (i : Int)) * 1)]? = some (.v (.int .i64 (dg z i))) := by
      rw [zmul, List.getElem?_append_right (by rw [ds_len]; omega), ds_len, Nat.sub_self, List.getElem?_drop, Nat.add_zero, ds_get z hi]
    rw [L_ref01_Neg_0]
    unfold B_ref01_Neg_0
    have h1 := dg_01 z i
    refine bp (dt (by omega)) (bp (ix_ok i 128 hi) (bp (by rw [hg]; rfl) (bp (ix_ok i 128 hi) (bp ?_ ?_))))
    · rw [zmul, dt]
      rw [List.length_append, List.length_drop, ds_len, ds_len]; omega
    · rw [hg]
      refine lp_Neg_0 F ex z x0 x1 x4 x5 x6 x7 k n (i + 1) _ _ (by omega) (by omega) (wi64_s i (by omega)) ?_
      rw [zmul, show iv (some (VV.v (.int .i64 (dg z i)))) = dg z i from rfl, wi64_in (by unfold I64; omega), ← dg_not, ds_succ (-1 - z) i]
      rw [List.take_append_of_le_length (by rw [ds_len]; omega), List.take_of_length_le (by rw [ds_len]; omega), List.drop_append, ds_len, List.drop_drop, List.drop_eq_nil_of_le (by rw [ds_len]; omega)]
      rw [show i + (i + 1 - i) = i + 1 by omega]
      simp
theorem f_rNeg (F : Nat) (hF : 200 ≤ F) {a b : Int} (hb : U64 b) : f_ref01_Neg F a b = some (wd (-val a b)) := by
  unfold f_ref01_Neg
  obtain ⟨h1, h2, h3⟩ := k_ref01_Digits F _ _ (f_Digits F hF (a := a) hb)
  refine bp h1 ?_
  rw [h2, h3]
  rw [lp_Neg_0 F _ (val a b) a b a b 0 0 128 F 0 0 _ (by omega) (by omega) rfl (by simp [ds_zero])]
  obtain ⟨n1, n2, n3⟩ := k_ref01_Number F _ _ (f_Number F hF (-1 - val a b))
  refine bp n1 ?_
  dsimp only
  obtain ⟨o1, o2, o3⟩ := k_ref01_Of F _ (f_rOf F (n := 1) (by unfold I64; omega))
  refine bp o1 ?_
  rw [n2, n3, o2, o3]
  obtain ⟨p1, p2, p3⟩ := k_ref01_Add F _ _ _ _ (f_rAdd F hF (a := hi (-1 - val a b)) (c := hi 1) (lo_U (-1 - val a b)) (lo_U 1))
  refine bp p1 ?_
  rw [p2, p3]
  have e : Eqv (val (hi (-1 - val a b)) (lo (-1 - val a b)) + val (hi 1) (lo 1)) (-val a b) := by
    rw [val_hl, val_hl]
    have := (W_eqv (-1 - val a b)).add (W_eqv 1)
    rw [show -1 - val a b + 1 = -val a b by omega] at this
    exact this
  exact some_wd (hi_eqv e) (lo_eqv e)
end Go.Xv
namespace Go.Xv
theorem a_rAdd (F : Nat) (hF : 200 ≤ F) (x y : Int) : ok_ref01_Add F (hi x) (lo x) (hi y) (lo y) = true ∧ o_ref01_Add_0 F (hi x) (lo x) (hi y) (lo y) = hi (x + y) ∧ o_ref01_Add_1 F (hi x) (lo x) (hi y) (lo y) = lo (x + y) := by
  obtain ⟨h1, h2, h3⟩ := k_ref01_Add F _ _ _ _ (f_rAdd F hF (a := hi x) (c := hi y) (lo_U x) (lo_U y))
  rw [h2, h3, val_hl, val_hl]
  have e := (W_eqv x).add (W_eqv y)
  exact ⟨h1, hi_eqv e, lo_eqv e⟩
theorem a_rNeg (F : Nat) (hF : 200 ≤ F) (x : Int) : ok_ref01_Neg F (hi x) (lo x) = true ∧ o_ref01_Neg_0 F (hi x) (lo x) = hi (-x) ∧ o_ref01_Neg_1 F (hi x) (lo x) = lo (-x) := by
  obtain ⟨h1, h2, h3⟩ := k_ref01_Neg F _ _ (f_rNeg F hF (a := hi x) (lo_U x))
  rw [h2, h3, val_hl]
  exact ⟨h1, hi_eqv (W_eqv x).neg, lo_eqv (W_eqv x).neg⟩
theorem a_rOf (F : Nat) {n : Int} (h : I64 n) : ok_ref01_Of F n = true ∧ o_ref01_Of_0 F n = hi n ∧ o_ref01_Of_1 F n = lo n := k_ref01_Of F _ (f_rOf F h)
theorem lp_Mul_0 (F : Nat) (hF : 200 ≤ F) (ex) (a b x0 x1 x4 x5 : Int) : ∀ (k n i : Nat) (x3 x6 x7 x8 x9 : Int), i + k = 127 → k < n → x3 = i → x6 = hi (a * num b i) → x7 = lo (a * num b i) → x8 = hi (a * 2 ^ i) → x9 = lo (a * 2 ^ i) →
    L_ref01_Mul_0 F ex n x0 x1 128 x3 x4 x5 x6 x7 x8 x9 (ds b 128) = ex x0 x1 128 127 x4 x5 (hi (a * num b 127)) (lo (a * num b 127)) (hi (a * 2 ^ 127)) (lo (a * 2 ^ 127)) (ds b 128)
  | _, 0, _, _, _, _, _, _, _, h, _, _, _, _, _ => absurd h (by omega)
  | 0, n + 1, i, _, _, _, _, _, h, _, rfl, rfl, rfl, rfl, rfl => by
    obtain rfl : i = 127 := by omega
    rw [L_ref01_Mul_0]
    unfold B_ref01_Mul_0
    exact bn (df (by omega)) rfl
  | k + 1, n + 1, i, _, _, _, _, _, h, hn, rfl, rfl, rfl, rfl, rfl => by
    have hi' : i < 128 := by omega
    rw [L_ref01_Mul_0]
    unfold B_ref01_Mul_0
    refine bp (dt (by omega)) (bp (ix_ok i 128 hi') (bp (isI_ds b hi') ?_))
    rw [iv_ds b hi']
    obtain ⟨d1, d2, d3⟩ := a_rAdd F hF (a * 2 ^ i) (a * 2 ^ i)
    have e2 : a * 2 ^ i + a * 2 ^ i = a * 2 ^ (i + 1) := by rw [Int.pow_succ, ← Int.mul_assoc]; omega
    rw [e2] at d2 d3
    rcases (show dg b i = 0 ∨ dg b i = 1 by have := dg_01 b i; omega) with hd | hd
    · refine bn (by rw [hd]; rfl) (bp d1 ?_)
      have e : num b (i + 1) = num b i := by rw [num_succ, hd]; omega
      exact lp_Mul_0 F hF ex a b x0 x1 x4 x5 k n (i + 1) _ _ _ _ _ (by omega) (by omega) (wi64_s i (by omega)) (by rw [e]) (by rw [e]) d2 d3
    · obtain ⟨c1, c2, c3⟩ := a_rAdd F hF (a * num b i) (a * 2 ^ i)
      have e : a * num b i + a * 2 ^ i = a * num b (i + 1) := by rw [num_succ, hd, Int.mul_add, Int.one_mul]
      rw [e] at c2 c3
      refine bp (by rw [hd]; rfl) (bp c1 (bp d1 ?_))
      exact lp_Mul_0 F hF ex a b x0 x1 x4 x5 k n (i + 1) _ _ _ _ _ (by omega) (by omega) (wi64_s i (by omega)) c2 c3 d2 d3
theorem num_127 {b : Int} (h : W128 b) : b = num b 127 - dg b 127 * 2 ^ 127 := by
  unfold num dg
  unfold W128 at h
  rw [show (2 : Int) ^ 127 = 170141183460469231731687303715884105728 by decide]
  omega
theorem I64_W {b : Int} (h : I64 b) : W128 b := by unfold I64 at h; unfold W128; omega
theorem f_rMul (F : Nat) (hF : 200 ≤ F) {a b : Int} (ha : I64 a) (hb : I64 b) : f_ref01_Mul F a b = some (wd (a * b)) := by
  unfold f_ref01_Mul
  obtain ⟨h1, h2, h3⟩ := a_rOf F ha
  obtain ⟨g1, g2, g3⟩ := a_rOf F hb
  obtain ⟨d1, d2, d3⟩ := k_ref01_Digits F _ _ (f_Digits F hF (a := hi b) (lo_U b))
  rw [val_hl, W_in (I64_W hb)] at d2
  refine bp h1 (bp g1 ?_)
  rw [g2, g3, h2, h3]
  refine bp d1 ?_
  rw [d2, d3]
  rw [lp_Mul_0 F hF _ a b a b 0 0 127 F 0 0 0 0 _ _ (by omega) (by omega) rfl (by rw [num_zero, Int.mul_zero]; rfl) (by rw [num_zero, Int.mul_zero]; rfl) (by rw [Int.pow_zero, Int.mul_one]) (by rw [Int.pow_zero, Int.mul_one])]
  have hn := num_127 (I64_W hb)
  refine bp (dt (by decide)) (bp (isI_ds b (i := 127) (by omega)) ?_)
  have hg : iv (ds b 128)[127]? = dg b 127 := by rw [ds_get b (by omega)]; rfl
  rw [hg]
  rcases (show dg b 127 = 0 ∨ dg b 127 = 1 by have := dg_01 b 127; omega) with hd | hd
  · refine bn (by rw [hd]; rfl) ?_
    rw [hd] at hn
    rw [show num b 127 = b by omega]; rfl
  · obtain ⟨n1, n2, n3⟩ := a_rNeg F hF (a * 2 ^ 127)
    refine bp (by rw [hd]; rfl) (bp n1 ?_)
    rw [n2, n3]
    obtain ⟨c1, c2, c3⟩ := a_rAdd F hF (a * num b 127) (-(a * 2 ^ 127))
    refine bp c1 ?_
    rw [c2, c3]
    rw [hd] at hn
    have e : a * num b 127 + -(a * 2 ^ 127) = a * b := by
      rw [show num b 127 = b + 2 ^ 127 by omega, Int.mul_add]; omega
    rw [e]; rfl
theorem a_rMul (F : Nat) (hF : 200 ≤ F) {a b : Int} (ha : I64 a) (hb : I64 b) : ok_ref01_Mul F a b = true ∧ o_ref01_Mul_0 F a b = hi (a * b) ∧ o_ref01_Mul_1 F a b = lo (a * b) := k_ref01_Mul F _ _ (f_rMul F hF ha hb)
end Go.Xv
namespace Go.Xv
theorem f_rLess (F : Nat) {a b c d : Int} (hb : U64 b) (hd : U64 d) : f_ref01_Less F a b c d = some (.v (.bool (decide (val a b < val c d)))) := by
  unfold f_ref01_Less val
  unfold U64 at hb hd
  by_cases h : a < c
  · refine bp (dt h) (some_bool ?_)
    exact (dt (by omega)).symm
  · refine bn (df h) ?_
    by_cases h2 : a = c
    · refine bp (by simp [h2]) (some_bool ?_)
      rw [decide_eq_decide]; omega
    · refine bn (by simp [h2]) (some_bool ?_)
      exact (df (by omega)).symm
theorem W_div {y : Int} (h : W128 y) (i : Nat) : W128 (y / 2 ^ i) := by
  have hP := p2pos i
  unfold W128 at *
  generalize (2 : Int) ^ i = P at *
  rcases Int.lt_or_le y 0 with hn | hn
  · constructor
    · rw [Int.le_ediv_iff_mul_le hP]
      have : -170141183460469231731687303715884105728 * P ≤ -170141183460469231731687303715884105728 * 1 := Int.mul_le_mul_of_nonpos_left (by omega) (by omega)
      omega
    · have := Int.ediv_neg_of_neg_of_pos hn hP
      omega
  · have h1 := Int.ediv_nonneg hn (Int.le_of_lt hP)
    have h2 := Int.ediv_le_self P hn
    omega
theorem dg_half (y : Int) (j : Nat) : dg (y / 2) j = dg y (j + 1) := by
  unfold dg
  rw [Int.ediv_ediv_of_nonneg (by decide), show (2 : Int) * 2 ^ j = 2 ^ (j + 1) by rw [Int.pow_succ, Int.mul_comm]]
theorem dg_sign {y : Int} (h : W128 y) : dg (y / 2) 127 = dg y 127 := by
  unfold dg
  unfold W128 at h
  rw [show (2 : Int) ^ 127 = 170141183460469231731687303715884105728 by decide]
  omega
theorem ds_shift {y : Int} (h : W128 y) : ((ds y 128).drop 1).take (127 * 1) ++ [.v (.int .i64 (dg y 127))] = ds (y / 2) 128 := by
  apply List.ext_getElem?
  intro i
  rcases Nat.lt_or_ge i 127 with hi | hi
  · rw [List.getElem?_append_left (by simp [ds_len]; omega), List.getElem?_take, if_pos (by omega), List.getElem?_drop, ds_get _ (by omega), ds_get _ (by omega), dg_half, Nat.add_comm]
  · rcases Nat.lt_or_ge i 128 with hi2 | hi2
    · obtain rfl : i = 127 := by omega
      rw [List.getElem?_append_right (by simp [ds_len]), ds_get _ (by omega), dg_sign h]
      simp [ds_len]
    · rw [List.getElem?_eq_none (by simp [ds_len]; omega), List.getElem?_eq_none (by rw [ds_len]; omega)]
theorem lp_Right_0 (F : Nat) (ex) {z : Int} (hz : W128 z) (x0 x1 x2 x6 x7 x8 x9 : Int) (m : Nat) (hm : (if 127 < x2 then 127 else x2) ≤ (m : Int)) (hm2 : (m : Int) ≤ 0 ∨ (m : Int) = (if 127 < x2 then 127 else x2)) (h128 : m ≤ 127) : ∀ (k n i : Nat) (x4 x5 : Int) (l : List VV), i + k = m → k < n → x4 = dg z 127 → x5 = i → l = ds (z / 2 ^ i) 128 →
    L_ref01_Right_0 F ex n x0 x1 x2 128 x4 x5 x6 x7 x8 x9 l = ex x0 x1 x2 128 (dg z 127) m x6 x7 x8 x9 (ds (z / 2 ^ m) 128)
  | _, 0, _, _, _, _, _, h, _, _, _ => absurd h (by omega)
  | 0, n + 1, i, _, _, _, h, _, rfl, rfl, rfl => by
    obtain rfl : i = m := by omega
    rw [L_ref01_Right_0]
    unfold B_ref01_Right_0
    exact bn (df (by omega)) rfl
  | k + 1, n + 1, i, _, _, _, h, hn, rfl, rfl, rfl => by
    rw [L_ref01_Right_0]
    unfold B_ref01_Right_0
    have hy := W_div hz i
    have hs : dg z 127 = dg (z / 2 ^ i) 127 := by
      have : ∀ j, dg (z / 2 ^ j) 127 = dg z 127 := by
        intro j
        induction j with
        | zero => simp
        | succ j ih => rw [← ediv2, dg_sign (W_div hz j), ih]
      exact (this i).symm
    refine bp (dt (by omega)) (bp rfl (bp ?_ ?_))
    · rw [ds_len, dt (by omega), dt (by unfold bigger; omega)]; rfl
    · refine lp_Right_0 F ex hz x0 x1 x2 x6 x7 x8 x9 m hm hm2 h128 k n (i + 1) _ _ _ (by omega) (by omega) rfl (wi64_s i (by omega)) ?_
      rw [hs, ds_shift hy, ediv2]
theorem f_rRight (F : Nat) (hF : 200 ≤ F) {a b n : Int} (ha : I64 a) (hb : U64 b) : f_ref01_Right F a b n = some (wd (val a b / 2 ^ cl n)) := by
  unfold f_ref01_Right
  obtain ⟨d1, d2, d3⟩ := k_ref01_Digits F _ _ (f_Digits F hF (a := a) hb)
  refine bp d1 ?_
  rw [d2, d3]
  refine bp (dt (by decide)) (bp (isI_ds (val a b) (i := 127) (by omega)) ?_)
  have hg : iv (ds (val a b) 128)[127]? = dg (val a b) 127 := by rw [ds_get _ (by omega)]; rfl
  have hm : ∃ m : Nat, (if 127 < n then 127 else n) ≤ (m : Int) ∧ ((m : Int) ≤ 0 ∨ (m : Int) = (if 127 < n then 127 else n)) ∧ m ≤ 127 ∧ cl n = m := by
    refine ⟨cl n, ?_⟩
    unfold cl
    by_cases h : 127 < n
    · rw [if_pos h, if_neg (show ¬ 0 > n by omega), if_pos h]; omega
    · rw [if_neg h]
      by_cases h2 : 0 > n
      · rw [if_pos h2, if_neg (by omega)]; omega
      · rw [if_neg h2, if_neg h]; omega
  obtain ⟨m, h1, h2, h3, h4⟩ := hm
  rw [lp_Right_0 F _ (val_W ha hb) a b n a b 0 0 m h1 h2 h3 m F 0 _ 0 _ (by omega) (by omega) hg rfl (by rw [Int.pow_zero, Int.ediv_one])]
  obtain ⟨n1, n2, n3⟩ := k_ref01_Number F _ _ (f_Number F hF (val a b / 2 ^ m))
  refine bp n1 ?_
  rw [n2, n3, h4]; rfl
theorem f_rNear (F : Nat) (hF : 200 ≤ F) {a b n : Int} (ha : I64 a) (hb : U64 b) : f_ref01_Near F a b n = some (wd (near (val a b) (cl n))) := by
  unfold f_ref01_Near
  by_cases h : n ≤ 0
  · rw [if_neg (show ¬ 127 < n by omega)]
    refine bp (dt h) ?_
    have : cl n = 0 := by
      unfold cl
      rw [if_neg]
      · split <;> omega
      · split <;> omega
    rw [this]
    exact some_wd (hi_val ha hb).symm (lo_val hb).symm
  · generalize hv : (if 127 < n then 127 else n) = v
    have hc : cl n = cl v := by
      subst hv
      unfold cl
      by_cases hn : 127 < n
      · rw [if_pos hn, if_neg (show ¬ 0 > n by omega), if_pos hn]; decide
      · rw [if_neg hn]
    have hv1 : 0 < v ∧ v ≤ 127 := by subst hv; split <;> omega
    obtain ⟨m, rfl⟩ : ∃ m : Nat, v = ((m + 1 : Nat) : Int) := ⟨(v - 1).toNat, by omega⟩
    have hcv : cl ((m + 1 : Nat) : Int) = m + 1 := by
      unfold cl
      rw [if_neg (show ¬ 0 > ((m + 1 : Nat) : Int) by omega), if_neg (by omega)]
      omega
    refine bn (df (by omega)) ?_
    obtain ⟨d1, d2, d3⟩ := k_ref01_Digits F _ _ (f_Digits F hF (a := a) hb)
    refine bp d1 ?_
    rw [d2, d3, wi64_in (x := ((m + 1 : Nat) : Int) - 1) (by unfold I64; omega), show ((m + 1 : Nat) : Int) - 1 = (m : Int) by omega]
    refine bp (ix_ok m 128 (by omega)) (bp (isI_ds _ (by omega)) ?_)
    rw [iv_ds _ (by omega)]
    obtain ⟨h1, h2, h3⟩ := k_ref01_Right F _ _ _ (f_rRight F hF (n := ((m + 1 : Nat) : Int)) ha hb)
    refine bp h1 ?_
    have hd := dg_01 (val a b) m
    obtain ⟨o1, o2, o3⟩ := a_rOf F (n := dg (val a b) m) (by unfold I64; omega)
    refine bp o1 ?_
    rw [h2, h3, o2, o3]
    obtain ⟨k1, k2, k3⟩ := a_rAdd F hF (val a b / 2 ^ cl ((m + 1 : Nat) : Int)) (dg (val a b) m)
    refine bp k1 ?_
    rw [k2, k3, hc, hcv]
    unfold near
    rw [if_neg (by omega), show m + 1 - 1 = m by omega]
    rfl
theorem a_rNear (F : Nat) (hF : 200 ≤ F) {x : Int} (n : Int) (h : W128 x) : ok_ref01_Near F (hi x) (lo x) n = true ∧ o_ref01_Near_0 F (hi x) (lo x) n = hi (near x (cl n)) ∧ o_ref01_Near_1 F (hi x) (lo x) n = lo (near x (cl n)) := by
  have := k_ref01_Near F _ _ n (f_rNear F hF (n := n) (hi_I x) (lo_U x))
  rw [val_hl, W_in h] at this
  exact this
end Go.Xv
namespace Go.Xv
def clipV (z : Int) : Int := if z < -9223372036854775808 then -9223372036854775808 else if 9223372036854775807 < z then 9223372036854775807 else z
def clipC (z : Int) : Bool := decide (z < -9223372036854775808 ∨ 9223372036854775807 < z)
theorem some_clip {n : Int} {c : Bool} {z : Int} (h : n = clipV z) (k : c = clipC z) : (some (VV.v (.tuple #[.int .i64 n, .bool c])) : R) = some (.v (.tuple #[.int .i64 (clipV z), .bool (clipC z)])) := by rw [h, k]
theorem f_rClip (F : Nat) {a b : Int} (ha : I64 a) (hb : U64 b) : f_ref01_Clip F a b = some (.v (.tuple #[.int .i64 (clipV (val a b)), .bool (clipC (val a b))])) := by
  unfold f_ref01_Clip
  dsimp only
  obtain ⟨o1, o2, o3⟩ := a_rOf F (n := -9223372036854775808) (by unfold I64; omega)
  obtain ⟨p1, p2, p3⟩ := a_rOf F (n := 9223372036854775807) (by unfold I64; omega)
  obtain ⟨l1, l2⟩ := k_ref01_Less F _ _ _ _ (f_rLess F (a := a) (c := hi (-9223372036854775808)) hb (lo_U (-9223372036854775808)))
  obtain ⟨m1, m2⟩ := k_ref01_Less F _ _ _ _ (f_rLess F (a := hi 9223372036854775807) (c := a) (lo_U 9223372036854775807) hb)
  rw [val_hl, W_in (by unfold W128; omega)] at l2 m2
  refine bp o1 ?_
  rw [o2, o3]
  refine bp l1 ?_
  rw [l2]
  by_cases h : val a b < -9223372036854775808
  · refine bp (dt h) (some_clip ?_ ?_)
    · unfold clipV; rw [if_pos h]
    · unfold clipC; exact (dt (.inl h)).symm
  · refine bn (df h) (bp p1 ?_)
    rw [p2, p3]
    refine bp m1 ?_
    rw [m2]
    by_cases h2 : 9223372036854775807 < val a b
    · refine bp (dt h2) (some_clip ?_ ?_)
      · unfold clipV; rw [if_neg h, if_pos h2]
      · unfold clipC; exact (dt (.inr h2)).symm
    · refine bn (df h2) (some_clip ?_ ?_)
      · unfold clipV
        rw [if_neg h, if_neg h2, wi64]
        unfold I64 at ha
        unfold U64 at hb
        unfold val at *; omega
      · unfold clipC; exact (df (by omega)).symm
theorem a_rClip (F : Nat) {x : Int} (h : W128 x) : ok_ref01_Clip F (hi x) (lo x) = true ∧ o_ref01_Clip_0 F (hi x) (lo x) = clipV x ∧ o_ref01_Clip_1 F (hi x) (lo x) = clipC x := by
  have := k_ref01_Clip F _ _ (f_rClip F (hi_I x) (lo_U x))
  rw [val_hl, W_in h] at this
  exact this

end Go.Xv
namespace Go.Xv
abbrev cp (z : Int) : VV := .v (.tuple #[.int .i64 (clipV z), .bool (clipC z)])
theorem clip_in {z : Int} (h : I64 z) : clipV z = z ∧ clipC z = false := by
  unfold I64 at h
  unfold clipV clipC
  exact ⟨by rw [if_neg (by omega), if_neg (by omega)], df (by omega)⟩

theorem f_fSub (F : Nat) {a b : Int} (ha : I64 a) (hb : I64 b) : f_fix_Sub F a b = some (cp (a - b)) := by
  unfold f_fix_Sub
  dsimp only
  have hs := wi64_I (a - b)
  have e := wi64 (a - b)
  generalize IntKind.wrap .i64 (a - b) = s at *
  have h1 := and_neg (xorI_I a b) (xorI_I a s)
  have h2 := xor_neg ha hb
  have h3 := xor_neg ha hs
  unfold I64 at ha hb hs
  by_cases h : -9223372036854775808 ≤ a - b ∧ a - b < 9223372036854775808
  · refine bp (dt ?_) (some_clip ?_ ?_)
    · have : ¬ andI .i64 (xorI .i64 a b) (xorI .i64 a s) < 0 := by
        rw [h1, h2, h3]; omega
      omega
    · rw [(clip_in h).1]; omega
    · rw [(clip_in h).2]
  · refine bn (df ?_) ?_
    · have : andI .i64 (xorI .i64 a b) (xorI .i64 a s) < 0 := by
        rw [h1, h2, h3]; omega
      omega
    · by_cases ha0 : a < 0
      · refine bp (dt ha0) (some_clip ?_ ?_)
        · unfold clipV; rw [if_pos (by omega)]
        · unfold clipC; exact (dt (by omega)).symm
      · refine bn (df ha0) (some_clip ?_ ?_)
        · unfold clipV; rw [if_neg (by omega), if_pos (by omega)]
        · unfold clipC; exact (dt (by omega)).symm
theorem a_fSub (F : Nat) {a b : Int} (ha : I64 a) (hb : I64 b) : ok_fix_Sub F a b = true ∧ o_fix_Sub_0 F a b = clipV (a - b) ∧ o_fix_Sub_1 F a b = clipC (a - b) := k_fix_Sub F _ _ (f_fSub F ha hb)
theorem I0 : I64 0 := by unfold I64; omega
theorem f_fNeg (F : Nat) {a : Int} (ha : I64 a) : f_fix_Neg F a = some (cp (-a)) := by
  unfold f_fix_Neg
  obtain ⟨h1, h2, h3⟩ := a_fSub F I0 ha
  refine bp h1 ?_
  rw [h2, h3, Int.zero_sub]
theorem a_fNeg (F : Nat) {a : Int} (ha : I64 a) : ok_fix_Neg F a = true ∧ o_fix_Neg_0 F a = clipV (-a) ∧ o_fix_Neg_1 F a = clipC (-a) := k_fix_Neg F _ (f_fNeg F ha)
theorem f_fClamp (F : Nat) {a l h : Int} : f_fix_Clamp F a l h = some (.v (.tuple #[.int .i64 (if h < l then l else min (max a l) h), .bool (if h < l then true else decide (min (max a l) h ≠ a))])) := by
  unfold f_fix_Clamp
  dsimp only
  by_cases hl : h < l
  · refine bp (dt hl) ?_
    rw [if_pos hl, if_pos hl]
  · refine bn (df hl) ?_
    rw [if_neg hl, if_neg hl]
    have e : (if h < (if l > a then l else a) then h else (if l > a then l else a)) = min (max a l) h := by split <;> (try split) <;> omega
    have e2 : (min (max a l) h != a) = decide (min (max a l) h ≠ a) := by rw [Bool.eq_iff_iff]; simp
    rw [e, e2]
end Go.Xv
namespace Go.Xv
theorem angL_get : ∀ i : Nat, i < 30 → isI .i64 [.v (.int .i64 536870912), .v (.int .i64 316933406), .v (.int .i64 167458907), .v (.int .i64 85004756), .v (.int .i64 42667331), .v (.int .i64 21354465), .v (.int .i64 10679838), .v (.int .i64 5340245), .v (.int .i64 2670163), .v (.int .i64 1335087), .v (.int .i64 667544), .v (.int .i64 333772), .v (.int .i64 166886), .v (.int .i64 83443), .v (.int .i64 41722), .v (.int .i64 20861), .v (.int .i64 10430), .v (.int .i64 5215), .v (.int .i64 2608), .v (.int .i64 1304), .v (.int .i64 652), .v (.int .i64 326), .v (.int .i64 163), .v (.int .i64 81), .v (.int .i64 41), .v (.int .i64 20), .v (.int .i64 10), .v (.int .i64 5), .v (.int .i64 3), .v (.int .i64 1)][i]? = true ∧ iv [.v (.int .i64 536870912), .v (.int .i64 316933406), .v (.int .i64 167458907), .v (.int .i64 85004756), .v (.int .i64 42667331), .v (.int .i64 21354465), .v (.int .i64 10679838), .v (.int .i64 5340245), .v (.int .i64 2670163), .v (.int .i64 1335087), .v (.int .i64 667544), .v (.int .i64 333772), .v (.int .i64 166886), .v (.int .i64 83443), .v (.int .i64 41722), .v (.int .i64 20861), .v (.int .i64 10430), .v (.int .i64 5215), .v (.int .i64 2608), .v (.int .i64 1304), .v (.int .i64 652), .v (.int .i64 326), .v (.int .i64 163), .v (.int .i64 81), .v (.int .i64 41), .v (.int .i64 20), .v (.int .i64 10), .v (.int .i64 5), .v (.int .i64 3), .v (.int .i64 1)][i]? = tA i := by decide
theorem zmul1 (i : Nat) : (Int.toNat (i : Int)) * 1 = i := by simp
theorem turnedF (F : Nat) {x y : Int} {i : Nat} (hi : i < 64) (o : Bool) (h1 : I64 (rotX i o x y)) (h2 : I64 (rotY i o x y)) : ok_turn_pair_turned F x y i o = true ∧ o_turn_pair_turned_0 F x y i o = rotX i o x y ∧ o_turn_pair_turned_1 F x y i o = rotY i o x y := by
  refine k_turn_pair_turned F _ _ _ _ ?_
  unfold f_turn_pair_turned
  have hd : (!decide ((i : Int) < 0)) = true := nn i
  have hP := p2pos i
  rw [hd, p2min (by omega), fdiv_pos _ (by omega), fdiv_pos _ (by omega)]
  simp only [cond_true]
  unfold rotX rotY at *
  cases o
  · simp only [Bool.false_eq_true, if_false, cond_false] at *
    rw [wi64_in h1, wi64_in h2]
  · simp only [if_true, cond_true] at *
    rw [wi64_in h1, wi64_in h2]
theorem unitF (F : Nat) (x : Int) : ok_turn_unit F x = true ∧ o_turn_unit_0 F x = cl01 x := by
  refine k_turn_unit F _ ?_
  unfold f_turn_unit
  obtain ⟨h1, h2, h3⟩ := k_fix_Clamp F _ _ _ (f_fClamp F (a := x) (l := 0) (h := 4294967296))
  rw [h1, h2]
  rfl
theorem lp_turn_Both_0 (F : Nat) (ex) {z : Int} (hz : 0 ≤ z ∧ z < 1073741824) (x0 x1 x2 : Int) : ∀ (k n i : Nat) (x3 x34 x35 x36 : Int), i + k = 30 → k < n → x34 = i → x35 = (bS z i).1 → x36 = (bS z i).2.1 → x3 = (bS z i).2.2 →
    L_turn_Both_0 F ex n x0 x1 x2 x3 536870912 316933406 167458907 85004756 42667331 21354465 10679838 5340245 2670163 1335087 667544 333772 166886 83443 41722 20861 10430 5215 2608 1304 652 326 163 81 41 20 10 5 3 1 x34 x35 x36 = ex x0 x1 x2 (bS z 30).2.2 536870912 316933406 167458907 85004756 42667331 21354465 10679838 5340245 2670163 1335087 667544 333772 166886 83443 41722 20861 10430 5215 2608 1304 652 326 163 81 41 20 10 5 3 1 30 (bS z 30).1 (bS z 30).2.1
  | _, 0, _, _, _, _, _, _, h, _, _, _, _ => absurd h (by omega)
  | 0, n + 1, i, _, _, _, _, h, _, rfl, rfl, rfl, rfl => by
    obtain rfl : i = 30 := by omega
    rw [L_turn_Both_0]
    unfold B_turn_Both_0
    exact bn (df (by omega)) rfl
  | k + 1, n + 1, i, _, _, _, _, h, hn, rfl, rfl, rfl, rfl => by
    have hi' : i < 30 := by omega
    obtain ⟨g1, g2⟩ := angL_get i hi'
    have b1 := bS_I z (i := i + 1) (by omega)
    have b2 := bS_z hz (i := i) (by omega)
    have b3 := tA_bd i hi'
    obtain ⟨t1, t2, t3⟩ := turnedF F (x := (bS z i).1) (y := (bS z i).2.1) (i := i) (by omega) (decide (0 ≤ (bS z i).2.2)) (by simp only [bS] at b1; unfold I64; omega) (by simp only [bS] at b1; unfold I64; omega)
    rw [L_turn_Both_0]
    unfold B_turn_Both_0
    refine bp (dt (by omega)) (bp (by rw [zmul1, g1, show ((decide (0 ≤ (i : Int))) && (decide ((i : Int) < 30))) = true from ix_ok i 30 hi']; rfl) ?_)
    rw [zmul1, g2]
    have eg : decide ((bS z i).2.2 ≥ 0) = decide (0 ≤ (bS z i).2.2) := rfl
    rw [eg]
    refine bp t1 ?_
    rw [t2, t3]
    have w1 : IntKind.wrap .i64 ((i : Int) + 1) = ((i + 1 : Nat) : Int) := wi64_s i (by omega)
    rw [w1]
    by_cases hs : 0 ≤ (bS z i).2.2
    · refine bp (dt hs) ?_
      refine lp_turn_Both_0 F ex hz x0 x1 x2 k n (i + 1) _ _ _ _ (by omega) (by omega) rfl rfl rfl ?_
      simp only [bS]
      rw [if_pos hs, wi64_in (x := 0 - tA i) (by unfold I64; omega), wi64_in (by unfold I64; omega)]
      omega
    · refine bn (df hs) ?_
      refine lp_turn_Both_0 F ex hz x0 x1 x2 k n (i + 1) _ _ _ _ (by omega) (by omega) rfl rfl rfl ?_
      simp only [bS]
      rw [if_neg hs, wi64_in (by unfold I64; omega)]
theorem mask30_u32 {a : Int} (ha : U32 a) : andI .u32 a 1073741823 = a % 1073741824 := by
  have e : andI .u32 a 1073741823 = IntKind.wrap .u32 ((BitVec.ofInt 32 a &&& BitVec.ofInt 32 1073741823).toNat : Int) := rfl
  unfold U32 at ha
  have h1 : (BitVec.ofInt 32 a).toNat = a.toNat := by simp only [BitVec.toNat_ofInt]; omega
  have h2 : (BitVec.ofInt 32 1073741823).toNat = 2 ^ 30 - 1 := by decide
  rw [e, BitVec.toNat_and, h1, h2, Nat.and_two_pow_sub_one_eq_mod, wu32]
  omega
theorem angF (F : Nat) : ok_turn_angles F = true ∧ o_turn_angles_0 F = 536870912 ∧ o_turn_angles_1 F = 316933406 ∧ o_turn_angles_2 F = 167458907 ∧ o_turn_angles_3 F = 85004756 ∧ o_turn_angles_4 F = 42667331 ∧ o_turn_angles_5 F = 21354465 ∧ o_turn_angles_6 F = 10679838 ∧ o_turn_angles_7 F = 5340245 ∧ o_turn_angles_8 F = 2670163 ∧ o_turn_angles_9 F = 1335087 ∧ o_turn_angles_10 F = 667544 ∧ o_turn_angles_11 F = 333772 ∧ o_turn_angles_12 F = 166886 ∧ o_turn_angles_13 F = 83443 ∧ o_turn_angles_14 F = 41722 ∧ o_turn_angles_15 F = 20861 ∧ o_turn_angles_16 F = 10430 ∧ o_turn_angles_17 F = 5215 ∧ o_turn_angles_18 F = 2608 ∧ o_turn_angles_19 F = 1304 ∧ o_turn_angles_20 F = 652 ∧ o_turn_angles_21 F = 326 ∧ o_turn_angles_22 F = 163 ∧ o_turn_angles_23 F = 81 ∧ o_turn_angles_24 F = 41 ∧ o_turn_angles_25 F = 20 ∧ o_turn_angles_26 F = 10 ∧ o_turn_angles_27 F = 5 ∧ o_turn_angles_28 F = 3 ∧ o_turn_angles_29 F = 1 := k_turn_angles F rfl
theorem some_two {a b c d : Int} (h : a = c) (k : b = d) : (some (VV.v (.tuple #[.int .i64 a, .int .i64 b])) : R) = some (.v (.tuple #[.int .i64 c, .int .i64 d])) := by rw [h, k]
theorem f_tBoth (F : Nat) (hF : 200 ≤ F) {a : Int} (ha : U32 a) : f_turn_Both F a = some (.v (.tuple #[.int .i64 (bothC a), .int .i64 (bothS a)])) := by
  unfold f_turn_Both
  obtain ⟨h0, e0, e1, e2, e3, e4, e5, e6, e7, e8, e9, e10, e11, e12, e13, e14, e15, e16, e17, e18, e19, e20, e21, e22, e23, e24, e25, e26, e27, e28, e29⟩ := angF F
  refine bp h0 ?_
  rw [e0, e1, e2, e3, e4, e5, e6, e7, e8, e9, e10, e11, e12, e13, e14, e15, e16, e17, e18, e19, e20, e21, e22, e23, e24, e25, e26, e27, e28, e29, mask30_u32 ha]
  have hz : 0 ≤ a % 1073741824 ∧ a % 1073741824 < 1073741824 := by omega
  rw [wi64_in (x := a % 1073741824) (by unfold I64; omega), lp_turn_Both_0 F _ hz a 0 0 30 F 0 (a % 1073741824) 0 2608131496 0 (by omega) (by omega) rfl rfl rfl rfl]
  obtain ⟨u1, u2⟩ := unitF F (bS (a % 1073741824) 30).1
  obtain ⟨v1, v2⟩ := unitF F (bS (a % 1073741824) 30).2.1
  refine bp u1 (bp v1 ?_)
  rw [u2, v2]
  obtain ⟨F, rfl⟩ : ∃ G, F = G + 4 := ⟨F - 4, by omega⟩
  have c1 := cl01_bd (bS (a % 1073741824) 30).1
  have c2 := cl01_bd (bS (a % 1073741824) 30).2.1
  unfold U32 at ha
  have w0 : IntKind.wrap .u32 (0 + 1) = 1 := by rw [wu32]; omega
  have w1 : IntKind.wrap .u32 (1 + 1) = 2 := by rw [wu32]; omega
  have w2 : IntKind.wrap .u32 (2 + 1) = 3 := by rw [wu32]; omega
  have eC : cl01 (bS (a % 1073741824) 30).1 = bC a := rfl
  have eN : cl01 (bS (a % 1073741824) 30).2.1 = bN a := rfl
  rw [eC] at c1 ⊢
  rw [eN] at c2 ⊢
  rw [fdiv_pos _ (by decide)]
  have n1 : IntKind.wrap .i64 (0 - bN a) = -bN a := by rw [wi64_in (by unfold I64; omega)]; omega
  have n2 : IntKind.wrap .i64 (0 - bC a) = -bC a := by rw [wi64_in (by unfold I64; omega)]; omega
  have n3 : IntKind.wrap .i64 (0 - -bN a) = bN a := by rw [wi64_in (by unfold I64; omega)]; omega
  unfold bothC bothS
  rw [L_turn_Both_1]
  unfold B_turn_Both_1
  by_cases q0 : a / 1073741824 = 0
  · refine bn (df (by omega)) (some_two ?_ ?_) <;> rw [if_pos q0]
  · refine bp (dt (by omega)) ?_
    rw [w0, n1, L_turn_Both_1]
    unfold B_turn_Both_1
    by_cases q1 : a / 1073741824 = 1
    · refine bn (df (by omega)) (some_two ?_ ?_) <;> rw [if_neg q0, if_pos q1]
    · refine bp (dt (by omega)) ?_
      rw [w1, n2, L_turn_Both_1]
      unfold B_turn_Both_1
      by_cases q2 : a / 1073741824 = 2
      · refine bn (df (by omega)) (some_two ?_ ?_) <;> rw [if_neg q0, if_neg q1, if_pos q2]
      · refine bp (dt (by omega)) ?_
        rw [w2, n3, L_turn_Both_1]
        unfold B_turn_Both_1
        refine bn (df (by omega)) (some_two ?_ ?_) <;> rw [if_neg q0, if_neg q1, if_neg q2]
theorem a_tBoth (F : Nat) (hF : 200 ≤ F) {a : Int} (ha : U32 a) : ok_turn_Both F a = true ∧ o_turn_Both_0 F a = bothC a ∧ o_turn_Both_1 F a = bothS a := k_turn_Both F _ (f_tBoth F hF ha)
theorem I64_half {x : Int} (h : I64 x) (i : Nat) : I64 (x / 2 ^ i) := by
  unfold I64 at *
  have := ediv_bd (y := x) (B := 9223372036854775808) (by omega) i
  refine ⟨by omega, ?_⟩
  have hP := p2pos i
  rcases Int.lt_or_le x 0 with hn | hn
  · have := Int.ediv_neg_of_neg_of_pos hn hP; omega
  · have := Int.ediv_le_self (2 ^ i) hn; omega
end Go.Xv
namespace Go.Xv
theorem sz_half (x : Int) : 2 * sz (x / 2) ≤ sz x + 1 := by unfold sz; split <;> split <;> omega
theorem sz_dbl (x : Int) : sz (x * 2) = 2 * sz x := by unfold sz; split <;> split <;> omega
theorem big_half (x y : Int) : 2 * big (x / 2) (y / 2) ≤ big x y + 1 := by
  have := sz_half x
  have := sz_half y
  unfold big; omega
theorem big_dbl (x y : Int) : big (x * 2) (y * 2) = 2 * big x y := by unfold big; rw [sz_dbl, sz_dbl]; omega
theorem down_small {x y : Int} (h : big x y < 2305843009213693952) : ∀ m, down m x y = (x, y)
  | 0 => rfl
  | m + 1 => by rw [down, if_neg (by omega)]
theorem down_end : ∀ (m k : Nat) (x y : Int), big x y ≤ 2305843009213693952 * 2 ^ k → k < m → big (down m x y).1 (down m x y).2 < 2305843009213693952
  | 0, _, _, _, _, h => absurd h (by omega)
  | m + 1, k, x, y, h, hk => by
    rw [down]
    split
    · have h2 := big_half x y
      cases k with
      | zero =>
        have hs : big (x / 2) (y / 2) < 2305843009213693952 := by simp at h; omega
        rw [down_small hs]
        exact hs
      | succ k =>
        refine down_end m k _ _ ?_ (by omega)
        have e : (2 : Int) ^ (k + 1) = 2 * 2 ^ k := by rw [Int.pow_succ]; omega
        rw [e] at h
        omega
    · dsimp only; omega
theorem dbl_end : ∀ (m : Nat) (x y : Int), 1152921504606846976 ≤ big x y * 2 ^ m → 1152921504606846976 ≤ big (dbl m x y).1 (dbl m x y).2
  | 0, x, y, h => by simp [dbl] at h ⊢; omega
  | m + 1, x, y, h => by
    rw [dbl]
    split
    · refine dbl_end m _ _ ?_
      rw [big_dbl, show 2 * big x y * 2 ^ m = big x y * (2 ^ m * 2) by rw [Int.mul_comm 2 (big x y), Int.mul_assoc, Int.mul_comm 2], ← Int.pow_succ]
      exact h
    · dsimp only; omega
theorem dbl_lt : ∀ (m : Nat) (x y : Int), big x y < 2305843009213693952 → big (dbl m x y).1 (dbl m x y).2 < 2305843009213693952
  | 0, x, y, h => h
  | m + 1, x, y, h => by
    rw [dbl]
    split
    · exact dbl_lt m _ _ (by rw [big_dbl]; omega)
    · exact h
theorem down_pos : ∀ (m : Nat) (x y : Int), 1 ≤ big x y → 1 ≤ big (down m x y).1 (down m x y).2
  | 0, x, y, h => h
  | m + 1, x, y, h => by
    rw [down]
    split
    · refine down_pos m _ _ ?_
      have : ∀ z : Int, 2305843009213693952 ≤ sz z → 1 ≤ sz (z / 2) := by intro z; unfold sz; split <;> split <;> omega
      have h1 := this x
      have h2 := this y
      unfold big at *
      omega
    · exact h
theorem big_I {x y : Int} (hx : I64 x) (hy : I64 y) : big x y ≤ 2305843009213693952 * 2 ^ 2 := by
  unfold I64 at *
  unfold big sz
  split <;> split <;> omega
theorem scd_bd {x y : Int} (hx : I64 x) (hy : I64 y) (h : 1 ≤ big x y) : 1152921504606846976 ≤ big (scd x y).1 (scd x y).2 ∧ big (scd x y).1 (scd x y).2 < 2305843009213693952 := by
  have h1 := down_end 64 2 x y (big_I hx hy) (by omega)
  have h2 := down_pos 64 x y h
  unfold scd
  refine ⟨dbl_end 64 _ _ ?_, dbl_lt 64 _ _ h1⟩
  omega
theorem sz_I {x y : Int} (h : big x y < 9223372036854775808) : I64 x ∧ I64 y := by
  unfold big sz at h
  unfold I64
  split at h <;> split at h <;> omega
theorem down_sgn : ∀ (m : Nat) (x y : Int), 0 ≤ x → 0 ≤ (down m x y).1
  | 0, _, _, h => h
  | m + 1, x, y, h => by
    rw [down]
    split
    · exact down_sgn m _ _ (by omega)
    · exact h
theorem dbl_sgn : ∀ (m : Nat) (x y : Int), 0 ≤ x → 0 ≤ (dbl m x y).1
  | 0, _, _, h => h
  | m + 1, x, y, h => by
    rw [dbl]
    split
    · exact dbl_sgn m _ _ (by omega)
    · exact h
theorem scd_sgn {x y : Int} (h : 0 ≤ x) : 0 ≤ (scd x y).1 := dbl_sgn 64 _ _ (down_sgn 64 _ _ h)
theorem opp_I {a : Int} (h : I64 a) : I64 (opp a) := by unfold opp; unfold I64 at *; split <;> omega
theorem a_size (F : Nat) {a : Int} (h : I64 a) : ok_turn_size F a = true ∧ o_turn_size_0 F a = sz a := by
  refine k_turn_size F _ ?_
  unfold f_turn_size sz
  unfold I64 at h
  by_cases hs : a < 0
  · refine bp (dt hs) ?_
    rw [if_pos hs, wu64, wu64]
    congr 3
    omega
  · refine bn (df hs) ?_
    rw [if_neg hs, wu64]
    congr 3
    omega
theorem mx {a b : Int} : (if b > a then b else a) = max a b := by split <;> omega
theorem lp_scaled_0 (F : Nat) (ex) (x0 x1 x4 x5 : Int) : ∀ (m n : Nat) (x y : Int), I64 x → I64 y → m < n → big (down m x y).1 (down m x y).2 < 2305843009213693952 →
    L_turn_pair_scaled_0 F ex n x0 x1 x y x4 x5 = ex x0 x1 (down m x y).1 (down m x y).2 x4 x5
  | _, 0, _, _, _, _, h, _ => absurd h (by omega)
  | 0, n + 1, x, y, hx, hy, _, h => by
    rw [L_turn_pair_scaled_0]
    unfold B_turn_pair_scaled_0
    obtain ⟨a1, a2⟩ := a_size F hx
    obtain ⟨b1, b2⟩ := a_size F hy
    refine bp a1 (bp b1 ?_)
    rw [a2, b2]
    dsimp only
    rw [mx]
    exact bn (df (by unfold big down at h; dsimp only at h; omega)) rfl
  | m + 1, n + 1, x, y, hx, hy, hm, h => by
    rw [L_turn_pair_scaled_0]
    unfold B_turn_pair_scaled_0
    obtain ⟨a1, a2⟩ := a_size F hx
    obtain ⟨b1, b2⟩ := a_size F hy
    refine bp a1 (bp b1 ?_)
    rw [a2, b2]
    dsimp only
    rw [mx]
    rw [down] at h ⊢
    by_cases hc : 2305843009213693952 ≤ big x y
    · rw [if_pos hc] at h ⊢
      refine bp (dt hc) ?_
      rw [fdiv_pos _ (by decide), fdiv_pos _ (by decide)]
      exact lp_scaled_0 F ex x0 x1 x4 x5 m n _ _ (I64_half hx 1) (I64_half hy 1) (by omega) h
    · rw [if_neg hc]
      exact bn (df hc) rfl
theorem lp_scaled_1 (F : Nat) (ex) (x0 x1 x4 x5 : Int) : ∀ (m n : Nat) (x y : Int), I64 x → I64 y → m < n → 1152921504606846976 ≤ big (dbl m x y).1 (dbl m x y).2 →
    L_turn_pair_scaled_1 F ex n x0 x1 x y x4 x5 = ex x0 x1 (dbl m x y).1 (dbl m x y).2 x4 x5
  | _, 0, _, _, _, _, h, _ => absurd h (by omega)
  | 0, n + 1, x, y, hx, hy, _, h => by
    rw [L_turn_pair_scaled_1]
    unfold B_turn_pair_scaled_1
    obtain ⟨a1, a2⟩ := a_size F hx
    obtain ⟨b1, b2⟩ := a_size F hy
    refine bp a1 (bp b1 ?_)
    rw [a2, b2]
    dsimp only
    rw [mx]
    exact bn (df (by unfold big dbl at h; dsimp only at h; omega)) rfl
  | m + 1, n + 1, x, y, hx, hy, hm, h => by
    rw [L_turn_pair_scaled_1]
    unfold B_turn_pair_scaled_1
    obtain ⟨a1, a2⟩ := a_size F hx
    obtain ⟨b1, b2⟩ := a_size F hy
    refine bp a1 (bp b1 ?_)
    rw [a2, b2]
    dsimp only
    rw [mx]
    rw [dbl] at h ⊢
    by_cases hc : big x y < 1152921504606846976
    · rw [if_pos hc] at h ⊢
      refine bp (dt hc) ?_
      obtain ⟨i1, i2⟩ := sz_I (x := x * 2) (y := y * 2) (by rw [big_dbl]; omega)
      rw [wi64_in i1, wi64_in i2]
      exact lp_scaled_1 F ex x0 x1 x4 x5 m n _ _ i1 i2 (by omega) h
    · rw [if_neg hc]
      exact bn (df hc) rfl
theorem a_scaled (F : Nat) (hF : 200 ≤ F) {x y : Int} (hx : I64 x) (hy : I64 y) (h : 1 ≤ big x y) : ok_turn_pair_scaled F x y = true ∧ o_turn_pair_scaled_0 F x y = (scd x y).1 ∧ o_turn_pair_scaled_1 F x y = (scd x y).2 := by
  refine k_turn_pair_scaled F _ _ ?_
  unfold f_turn_pair_scaled
  have h1 := down_end 64 2 x y (big_I hx hy) (by omega)
  have h2 := down_pos 64 x y h
  obtain ⟨i1, i2⟩ := sz_I (x := (down 64 x y).1) (y := (down 64 x y).2) (by omega)
  rw [lp_scaled_0 F _ x y 0 0 64 F x y hx hy (by omega) h1]
  rw [lp_scaled_1 F _ x y 0 0 64 F _ _ i1 i2 (by omega) (dbl_end 64 _ _ (by omega))]
  rfl
/-- bounds of the steps -/
theorem aS_bd {x y : Int} (hx : 0 ≤ x ∧ x ≤ 2305843009213693952) (hy : -2305843009213693952 ≤ y ∧ y ≤ 2305843009213693952) : ∀ {i : Nat}, i ≤ 30 →
    (0 ≤ (aS x y i).1 ∧ (aS x y i).1 ≤ 6917529027641081856 - 2 * 2 ^ (61 - i)) ∧ (-2305843009213693952 ≤ (aS x y i).2.1 ∧ (aS x y i).2.1 ≤ 2305843009213693952) ∧ (-(536870912 * (i : Int)) ≤ (aS x y i).2.2 ∧ (aS x y i).2.2 ≤ 536870912 * (i : Int))
  | 0, _ => by simp only [aS]; omega
  | i + 1, h => by
    obtain ⟨h1, h2, h3⟩ := aS_bd hx hy (i := i) (by omega)
    have ht := tA_bd i (by omega)
    have hPQ : (2 : Int) ^ (61 - i) * 2 ^ i = 2305843009213693952 := by rw [p2add, show 61 - i + i = 61 by omega]; decide
    have e : (2 : Int) * 2 ^ (61 - (i + 1)) = 2 ^ (61 - i) := by
      rw [show 61 - i = (61 - (i + 1)) + 1 by omega, Int.pow_succ]; omega
    rw [e]
    have hQ := p2pos i
    have hP := p2pos (61 - i)
    have hx2 : (aS x y i).1 ≤ 2305843009213693952 * 2 ^ i := by
      match i, h1, hPQ with
      | 0, h1, _ => simp at h1 ⊢; omega
      | 1, h1, _ => simp at h1 ⊢; omega
      | i + 2, h1, _ =>
        have : (2 : Int) ^ (i + 2) = 4 * 2 ^ i := by rw [Int.pow_succ, Int.pow_succ]; omega
        have := p2pos i
        omega
    have hq0 : 0 ≤ (aS x y i).1 / 2 ^ i := Int.ediv_nonneg h1.1 (by omega)
    have hq1 : (aS x y i).1 / 2 ^ i ≤ 2305843009213693952 := Int.ediv_le_of_le_mul hQ hx2
    simp only [aS]
    have hy0 : (aS x y i).2.1 / 2 ^ i ≤ 2 ^ (61 - i) := Int.ediv_le_of_le_mul hQ (by rw [hPQ]; omega)
    have hy1 : -(2 ^ (61 - i)) ≤ (aS x y i).2.1 / 2 ^ i := (Int.le_ediv_iff_mul_le hQ).2 (by rw [Int.neg_mul, hPQ]; omega)
    by_cases hs : (aS x y i).2.1 < 0
    · have hn : (aS x y i).2.1 / 2 ^ i < 0 := Int.ediv_neg_of_neg_of_pos hs hQ
      simp only [hs, decide_true, if_true, rotX, rotY]
      push_cast
      omega
    · have hn : 0 ≤ (aS x y i).2.1 / 2 ^ i := Int.ediv_nonneg (by omega) (by omega)
      simp only [hs, decide_false, if_false, rotX, rotY, Bool.false_eq_true]
      push_cast
      omega
theorem aS_I {x y : Int} (hx : 0 ≤ x ∧ x ≤ 2305843009213693952) (hy : -2305843009213693952 ≤ y ∧ y ≤ 2305843009213693952) {i : Nat} (h : i ≤ 30) : I64 (aS x y i).1 ∧ I64 (aS x y i).2.1 := by
  obtain ⟨h1, h2, _⟩ := aS_bd hx hy h
  have := p2pos (61 - i)
  unfold I64
  omega
theorem lp_turn_Angle_0 (F : Nat) (ex) {x y z : Int} (hx : 0 ≤ x ∧ x ≤ 2305843009213693952) (hy : -2305843009213693952 ≤ y ∧ y ≤ 2305843009213693952) (x0 x1 x2 : Int) : ∀ (k n i : Nat) (x3 x34 x35 x36 : Int), i + k = 30 → k < n → x34 = i → x35 = (aS x y i).1 → x36 = (aS x y i).2.1 → x3 = ((aS x y i).2.2 + z) % 4294967296 →
    L_turn_Angle_0 F ex n x0 x1 x2 x3 536870912 316933406 167458907 85004756 42667331 21354465 10679838 5340245 2670163 1335087 667544 333772 166886 83443 41722 20861 10430 5215 2608 1304 652 326 163 81 41 20 10 5 3 1 x34 x35 x36 = ex x0 x1 x2 (((aS x y 30).2.2 + z) % 4294967296) 536870912 316933406 167458907 85004756 42667331 21354465 10679838 5340245 2670163 1335087 667544 333772 166886 83443 41722 20861 10430 5215 2608 1304 652 326 163 81 41 20 10 5 3 1 30 (aS x y 30).1 (aS x y 30).2.1
  | _, 0, _, _, _, _, _, _, h, _, _, _, _ => absurd h (by omega)
  | 0, n + 1, i, _, _, _, _, h, _, rfl, rfl, rfl, rfl => by
    obtain rfl : i = 30 := by omega
    rw [L_turn_Angle_0]
    unfold B_turn_Angle_0
    exact bn (df (by omega)) rfl
  | k + 1, n + 1, i, _, _, _, _, h, hn, rfl, rfl, rfl, rfl => by
    have hi' : i < 30 := by omega
    obtain ⟨g1, g2⟩ := angL_get i hi'
    obtain ⟨b1, b2⟩ := aS_I hx hy (i := i + 1) (by omega)
    have b3 := tA_bd i hi'
    obtain ⟨t1, t2, t3⟩ := turnedF F (x := (aS x y i).1) (y := (aS x y i).2.1) (i := i) (by omega) (decide ((aS x y i).2.1 < 0)) b1 b2
    rw [L_turn_Angle_0]
    unfold B_turn_Angle_0
    refine bp (dt (by omega)) (bp (by rw [zmul1, g1, show ((decide (0 ≤ (i : Int))) && (decide ((i : Int) < 30))) = true from ix_ok i 30 hi']; rfl) ?_)
    rw [zmul1, g2]
    refine bp t1 ?_
    rw [t2, t3]
    have w1 : IntKind.wrap .i64 ((i : Int) + 1) = ((i + 1 : Nat) : Int) := wi64_s i (by omega)
    rw [w1]
    by_cases hs : (aS x y i).2.1 < 0
    · refine bp (dt hs) ?_
      refine lp_turn_Angle_0 F ex hx hy x0 x1 x2 k n (i + 1) _ _ _ _ (by omega) (by omega) rfl rfl rfl ?_
      simp only [aS]
      rw [if_pos hs, wi64_in (x := 0 - tA i) (by unfold I64; omega), wu32, wu32]
      omega
    · refine bn (df hs) ?_
      refine lp_turn_Angle_0 F ex hx hy x0 x1 x2 k n (i + 1) _ _ _ _ (by omega) (by omega) rfl rfl rfl ?_
      simp only [aS]
      rw [if_neg hs, wu32, wu32]
      omega
end Go.Xv
namespace Go.Xv
theorem clip_opp {a : Int} (h : I64 a) : clipV (-a) = opp a := by
  unfold clipV opp; unfold I64 at h
  split <;> (try split) <;> (try split) <;> omega
theorem a_opp (F : Nat) {x y : Int} (hx : I64 x) (hy : I64 y) : ok_turn_opposite F x y = true ∧ o_turn_opposite_0 F x y = opp x ∧ o_turn_opposite_1 F x y = opp y := by
  refine k_turn_opposite F _ _ ?_
  unfold f_turn_opposite
  obtain ⟨h1, h2, _⟩ := a_fNeg F hx
  obtain ⟨g1, g2, _⟩ := a_fNeg F hy
  refine bp h1 (bp g1 ?_)
  rw [h2, g2, clip_opp hx, clip_opp hy]
theorem big_one {x y : Int} (h : ¬ (x = 0 ∧ y = 0)) : 1 ≤ big x y := by
  unfold big sz
  split <;> split <;> omega
theorem opp_pos {x : Int} (hx : I64 x) (h : x < 0) : 1 ≤ opp x := by unfold opp; split <;> omega
theorem big_to {x y : Int} (h : big x y < 2305843009213693952) (h0 : 0 ≤ x) : (0 ≤ x ∧ x ≤ 2305843009213693952) ∧ -2305843009213693952 ≤ y ∧ y ≤ 2305843009213693952 := by
  unfold big sz at h
  split at h <;> split at h <;> omega
theorem some_u32 {a b : Int} (h : a = b) : (some (VV.v (.int .u32 a)) : R) = some (.v (.int .u32 b)) := by rw [h]
theorem f_tAngle (F : Nat) (hF : 200 ≤ F) {y x : Int} (hy : I64 y) (hx : I64 x) : f_turn_Angle F y x = some (.v (.int .u32 (angle y x))) := by
  unfold f_turn_Angle
  obtain ⟨h0, e0, e1, e2, e3, e4, e5, e6, e7, e8, e9, e10, e11, e12, e13, e14, e15, e16, e17, e18, e19, e20, e21, e22, e23, e24, e25, e26, e27, e28, e29⟩ := angF F
  rw [e0, e1, e2, e3, e4, e5, e6, e7, e8, e9, e10, e11, e12, e13, e14, e15, e16, e17, e18, e19, e20, e21, e22, e23, e24, e25, e26, e27, e28, e29]
  have neg : x < 0 → angle y x = ((aS (scd (opp x) (opp y)).1 (scd (opp x) (opp y)).2 30).2.2 + 2147483648) % 4294967296 := by
    intro h; unfold angle; rw [if_neg (by omega), if_pos h]
  have pos : ¬ x < 0 → ¬ (x = 0 ∧ y = 0) → angle y x = ((aS (scd x y).1 (scd x y).2 30).2.2 + 0) % 4294967296 := by
    intro h h2; unfold angle; rw [if_neg h2, if_neg h, Int.add_zero]
  by_cases x0 : x = 0
  · refine bp (by simp [x0]) ?_
    by_cases y0 : y = 0
    · refine bp (by simp [y0]) (some_u32 ?_)
      unfold angle
      rw [if_pos ⟨x0, y0⟩]
    · have hb := big_one (x := x) (y := y) (by omega)
      obtain ⟨s1, s2, s3⟩ := a_scaled F hF hx hy hb
      obtain ⟨b1, b2⟩ := big_to (scd_bd hx hy hb).2 (scd_sgn (by omega))
      refine bn (by simp [y0]) (bn (df (by omega)) (bp s1 (bp h0 ?_)))
      rw [s2, s3, lp_turn_Angle_0 F _ (z := 0) b1 b2 _ _ _ 30 F 0 0 0 (scd x y).1 (scd x y).2 (by omega) (by omega) rfl rfl rfl rfl]
      exact some_u32 (pos (by omega) (by omega)).symm
  · refine bn (by simp [x0]) ?_
    by_cases hn : x < 0
    · have hb := big_one (x := opp x) (y := opp y) (by have := opp_pos hx hn; omega)
      obtain ⟨o1, o2, o3⟩ := a_opp F hx hy
      obtain ⟨s1, s2, s3⟩ := a_scaled F hF (opp_I hx) (opp_I hy) hb
      obtain ⟨b1, b2⟩ := big_to (scd_bd (opp_I hx) (opp_I hy) hb).2 (scd_sgn (by have := opp_pos hx hn; omega))
      refine bp (dt hn) (bp o1 ?_)
      rw [o2, o3]
      refine bp s1 (bp h0 ?_)
      rw [s2, s3, lp_turn_Angle_0 F _ (z := 2147483648) b1 b2 _ _ _ 30 F 0 2147483648 0 (scd (opp x) (opp y)).1 (scd (opp x) (opp y)).2 (by omega) (by omega) rfl rfl rfl rfl]
      exact some_u32 (neg hn).symm
    · have hb := big_one (x := x) (y := y) (by omega)
      obtain ⟨s1, s2, s3⟩ := a_scaled F hF hx hy hb
      obtain ⟨b1, b2⟩ := big_to (scd_bd hx hy hb).2 (scd_sgn (by omega))
      refine bn (df hn) (bp s1 (bp h0 ?_))
      rw [s2, s3, lp_turn_Angle_0 F _ (z := 0) b1 b2 _ _ _ 30 F 0 0 0 (scd x y).1 (scd x y).2 (by omega) (by omega) rfl rfl rfl rfl]
      exact some_u32 (pos hn (by omega)).symm
theorem a_tAngle (F : Nat) (hF : 200 ≤ F) {y x : Int} (hy : I64 y) (hx : I64 x) : ok_turn_Angle F y x = true ∧ o_turn_Angle_0 F y x = angle y x := k_turn_Angle F _ _ (f_tAngle F hF hy hx)
theorem angle_U (y x : Int) : U32 (angle y x) := by unfold angle U32; split <;> (try split) <;> omega
def wayV (a b : Int) : Int := (b - a + 2147483648) % 4294967296 - 2147483648
theorem a_Way (F : Nat) (a b : Int) : ok_turn_Way F a b = true ∧ o_turn_Way_0 F a b = wayV a b := by
  refine k_turn_Way F _ _ ?_
  unfold f_turn_Way wayV
  refine some_int ?_
  rw [wi32, wu32]; omega
theorem a_near (F : Nat) {a b n : Int} (ha : U32 a) (hb : U32 b) (hn : 0 ≤ n ∧ n < 1000000) : ok_law05_near F a b n = true ∧ o_law05_near_0 F a b n = decide (wayV b a ≤ n ∧ -n ≤ wayV b a) := by
  refine k_law05_near F _ _ _ ?_
  unfold f_law05_near
  have e : IntKind.wrap .i32 (IntKind.wrap .u32 (a - b)) = wayV b a := by unfold wayV; rw [wi32, wu32]; omega
  rw [e, wi32_in (x := 0 - n) (by unfold I32; omega)]
  dsimp only
  by_cases h1 : wayV b a ≤ n
  · refine bp (dt h1) (some_bool ?_)
    rw [Bool.eq_iff_iff]
    simp only [decide_eq_true_eq]
    omega
  · refine bn (df h1) (some_bool ?_)
    rw [df (by omega)]
theorem f_works05 (F : Nat) (hF : 200 ≤ F) : f_law05_works F = some (.v (.bool true)) := by
  unfold f_law05_works
  obtain ⟨h1, h2, h3⟩ := a_tBoth F hF (a := 0) (by unfold U32; omega)
  obtain ⟨g1, g2⟩ := a_tAngle F hF (y := 4294967296) (x := 4294967296) (by unfold I64; omega) (by unfold I64; omega)
  obtain ⟨n1, n2⟩ := a_near F (a := angle 4294967296 4294967296) (b := 536870912) (n := 256) (angle_U _ _) (by unfold U32; omega) (by omega)
  obtain ⟨w1, w2⟩ := a_Way F 1 0
  have e1 : wayV 536870912 (angle 4294967296 4294967296) ≤ 256 ∧ -256 ≤ wayV 536870912 (angle 4294967296 4294967296) := by decide +kernel
  have e2 : bothC 0 > 4294966272 := by decide +kernel
  have e3 : bothS 0 < 1024 := by decide +kernel
  refine bp h1 (bp g1 ?_)
  rw [g2]
  refine bp n1 (bp (by rw [n2]; exact dt e1) (bp w1 (bp (by rw [w2]; decide) (bp (by rw [h2]; exact dt e2) (some_bool ?_)))))
  rw [h3]
  exact dt e3
theorem a_works05 (F : Nat) (hF : 200 ≤ F) : ok_law05_works F = true ∧ o_law05_works_0 F = true := k_law05_works F (f_works05 F hF)
end Go.Xv
namespace Go.Xv
structure Cx where
  re : Rat
  im : Rat
namespace Cx
def mul (a b : Cx) : Cx := ⟨a.re * b.re - a.im * b.im, a.re * b.im + a.im * b.re⟩
def add (a b : Cx) : Cx := ⟨a.re + b.re, a.im + b.im⟩
def sub (a b : Cx) : Cx := ⟨a.re - b.re, a.im - b.im⟩
def cj (a : Cx) : Cx := ⟨a.re, -a.im⟩
def sc (r : Rat) (a : Cx) : Cx := ⟨r * a.re, r * a.im⟩
def one : Cx := ⟨1, 0⟩
def n2 (a : Cx) : Rat := a.re * a.re + a.im * a.im
theorem eqC {a b : Cx} (h1 : a.re = b.re) (h2 : a.im = b.im) : a = b := by cases a; cases b; simp_all
theorem mul_comm (a b : Cx) : mul a b = mul b a := by apply eqC <;> simp only [mul] <;> grind
theorem mul_assoc (a b c : Cx) : mul (mul a b) c = mul a (mul b c) := by apply eqC <;> simp only [mul] <;> grind
theorem mul_one (a : Cx) : mul a one = a := by apply eqC <;> simp only [mul, one] <;> grind
theorem one_mul (a : Cx) : mul one a = a := by apply eqC <;> simp only [mul, one] <;> grind
theorem n2_mul (a b : Cx) : n2 (mul a b) = n2 a * n2 b := by simp only [mul, n2]; grind
theorem n2_cj (a : Cx) : n2 (cj a) = n2 a := by simp only [cj, n2]; grind
theorem cj_mul (a b : Cx) : cj (mul a b) = mul (cj a) (cj b) := by apply eqC <;> simp only [mul, cj] <;> grind
theorem cj_cj (a : Cx) : cj (cj a) = a := by apply eqC <;> simp only [cj] <;> grind
theorem mul_cj (a : Cx) : mul a (cj a) = ⟨n2 a, 0⟩ := by apply eqC <;> simp only [mul, cj, n2] <;> grind
theorem sq_nn (a : Rat) : 0 ≤ a * a := by
  rcases Rat.le_total (a := 0) (b := a) with h | h
  · exact Rat.mul_nonneg h h
  · have := Rat.mul_nonneg (a := -a) (b := -a) (by grind) (by grind)
    grind
theorem n2_nn (a : Cx) : 0 ≤ n2 a := by
  have := sq_nn a.re
  have := sq_nn a.im
  simp only [n2]; grind
theorem le_of_sq {x y : Rat} (hy : 0 ≤ y) (h : x * x ≤ y * y) : x ≤ y := by
  rcases Rat.le_total (a := x) (b := y) with hx | hx
  · exact hx
  · by_cases he : x = y
    · grind
    · have hlt : 0 < x - y := by grind
      have h0 : 0 < x := by grind
      have h1 := Rat.mul_pos hlt h0
      have h2 := Rat.mul_nonneg (Rat.le_of_lt hlt) hy
      grind
theorem sq_le_sq {x y : Rat} (hx : 0 ≤ x) (h : x ≤ y) : x * x ≤ y * y := by
  have h1 := Rat.mul_nonneg hx (show 0 ≤ y - x by grind)
  have h2 := Rat.mul_nonneg (show 0 ≤ y by grind) (show 0 ≤ y - x by grind)
  grind
/-- not longer than -/
def Nm (a : Cx) (e : Rat) : Prop := 0 ≤ e ∧ n2 a ≤ e * e
theorem Nm.mono {a : Cx} {e f : Rat} (h : Nm a e) (k : e ≤ f) : Nm a f := by
  refine ⟨by have := h.1; grind, ?_⟩
  have := sq_le_sq h.1 k
  have := h.2
  grind
theorem Nm.add {a b : Cx} {e f : Rat} (h : Nm a e) (k : Nm b f) : Nm (add a b) (e + f) := by
  obtain ⟨h1, h2⟩ := h
  obtain ⟨k1, k2⟩ := k
  refine ⟨by grind, ?_⟩
  have hd : a.re * b.re + a.im * b.im ≤ e * f := by
    refine le_of_sq (Rat.mul_nonneg h1 k1) ?_
    have e1 := sq_nn (a.re * b.im - a.im * b.re)
    have e2 : (a.re * b.re + a.im * b.im) * (a.re * b.re + a.im * b.im) + (a.re * b.im - a.im * b.re) * (a.re * b.im - a.im * b.re) = n2 a * n2 b := by simp only [n2]; grind
    have e3 : n2 a * n2 b ≤ (e * e) * n2 b := Rat.mul_le_mul_of_nonneg_right h2 (n2_nn b)
    have e4 : (e * e) * n2 b ≤ (e * e) * (f * f) := Rat.mul_le_mul_of_nonneg_left k2 (sq_nn e)
    grind
  simp only [Cx.add, n2] at *
  grind
theorem Nm.mul {a b : Cx} {e f : Rat} (h : Nm a e) (k : Nm b f) : Nm (mul a b) (e * f) := by
  refine ⟨Rat.mul_nonneg h.1 k.1, ?_⟩
  rw [n2_mul]
  have e3 : n2 a * n2 b ≤ (e * e) * n2 b := Rat.mul_le_mul_of_nonneg_right h.2 (n2_nn b)
  have e4 : (e * e) * n2 b ≤ (e * e) * (f * f) := Rat.mul_le_mul_of_nonneg_left k.2 (sq_nn e)
  grind
theorem Nm.cj {a : Cx} {e : Rat} (h : Nm a e) : Nm (cj a) e := ⟨h.1, by rw [n2_cj]; exact h.2⟩
theorem Nm.neg {a b : Cx} {e : Rat} (h : Nm (sub a b) e) : Nm (sub b a) e := by
  refine ⟨h.1, ?_⟩
  have := h.2
  simp only [sub, n2] at *
  grind
theorem Nm.sc {a : Cx} {e r : Rat} (hr : 0 ≤ r) (h : Nm a e) : Nm (sc r a) (r * e) := by
  refine ⟨Rat.mul_nonneg hr h.1, ?_⟩
  have e1 := Rat.mul_le_mul_of_nonneg_left h.2 (sq_nn r)
  simp only [Cx.sc, n2] at *
  grind
theorem Nm.trans {a b c : Cx} {e f : Rat} (h : Nm (sub a b) e) (k : Nm (sub b c) f) : Nm (sub a c) (e + f) := by
  have := h.add k
  have e : Cx.add (sub a b) (sub b c) = sub a c := by apply eqC <;> simp only [Cx.add, sub] <;> grind
  rwa [e] at this
theorem Nm.re {a : Cx} {e : Rat} (h : Nm a e) : a.re ≤ e ∧ -e ≤ a.re := by
  have h1 := sq_nn a.im
  have h2 := h.2
  simp only [n2] at h2
  constructor
  · exact le_of_sq h.1 (by grind)
  · have := le_of_sq (x := -a.re) h.1 (by grind)
    grind
theorem Nm.im {a : Cx} {e : Rat} (h : Nm a e) : a.im ≤ e ∧ -e ≤ a.im := by
  have h1 := sq_nn a.re
  have h2 := h.2
  simp only [n2] at h2
  constructor
  · exact le_of_sq h.1 (by grind)
  · have := le_of_sq (x := -a.im) h.1 (by grind)
    grind
theorem Nm.of {a : Cx} {x y : Rat} (hx : a.re ≤ x) (hx' : -x ≤ a.re) (hy : a.im ≤ y) (hy' : -y ≤ a.im) : Nm a (x + y) := by
  have h0 : 0 ≤ x := by grind
  have k0 : 0 ≤ y := by grind
  refine ⟨by grind, ?_⟩
  have h1 : a.re * a.re ≤ x * x := by
    have := Rat.mul_nonneg (show 0 ≤ x - a.re by grind) (show 0 ≤ x + a.re by grind)
    grind
  have k1 : a.im * a.im ≤ y * y := by
    have := Rat.mul_nonneg (show 0 ≤ y - a.im by grind) (show 0 ≤ y + a.im by grind)
    grind
  have := Rat.mul_nonneg h0 k0
  simp only [n2]
  grind
/-- 1.5 is enough for two parts of at most one each -/
theorem Nm.unit {a : Cx} (hx : a.re ≤ 1) (hx' : -1 ≤ a.re) (hy : a.im ≤ 1) (hy' : -1 ≤ a.im) : Nm a (3 / 2) := by
  refine ⟨by grind, ?_⟩
  have h1 : a.re * a.re ≤ 1 := by
    have := Rat.mul_nonneg (show 0 ≤ 1 - a.re by grind) (show 0 ≤ 1 + a.re by grind)
    grind
  have k1 : a.im * a.im ≤ 1 := by
    have := Rat.mul_nonneg (show 0 ≤ 1 - a.im by grind) (show 0 ≤ 1 + a.im by grind)
    grind
  simp only [n2]
  grind
/-- what has the length 1 -/
def U (a : Cx) : Prop := n2 a = 1
theorem U.nm {a : Cx} (h : U a) : Nm a 1 := ⟨by grind, by unfold U at h; grind⟩
theorem U.mul {a b : Cx} (h : U a) (k : U b) : U (mul a b) := by unfold U at *; rw [n2_mul, h, k]; grind
theorem U.cj {a : Cx} (h : U a) : U (cj a) := by unfold U at *; rw [n2_cj, h]
theorem U.mul_cj {a : Cx} (h : U a) : Cx.mul a (Cx.cj a) = one := by rw [Cx.mul_cj]; unfold U at h; rw [h]; rfl
theorem U_one : U one := by simp only [U, n2, one]; grind
/-- to turn changes no length -/
theorem Nm.turn {a u : Cx} {e : Rat} (h : Nm a e) (k : U u) : Nm (Cx.mul a u) e := by
  have := h.mul k.nm
  rwa [Rat.mul_one] at this
theorem sub_mul (a b c : Cx) : mul (sub a b) c = sub (mul a c) (mul b c) := by apply eqC <;> simp only [mul, sub] <;> grind
end Cx
end Go.Xv
namespace Go.Xv
namespace Cx
def wA : Rat := 1329227995784915872903807060280344576
def wB : Rat := 972275833250902676855126013
def w : Cx := ⟨(wA * wA - wB * wB) / (wA * wA + wB * wB), 2 * wA * wB / (wA * wA + wB * wB)⟩
theorem w_U : U w := by unfold U; decide +kernel
def V : Nat → Cx
  | 0 => one
  | n + 1 => mul (V n) w
theorem V_U : ∀ n, U (V n)
  | 0 => U_one
  | n + 1 => (V_U n).mul w_U
theorem V_add (n : Nat) : ∀ m, V (n + m) = mul (V n) (V m)
  | 0 => (mul_one _).symm
  | m + 1 => by
    show mul (V (n + m)) w = mul (V n) (mul (V m) w)
    rw [V_add n m, mul_assoc]
def VI (n : Int) : Cx := mul (V n.toNat) (cj (V (-n).toNat))
theorem cj_one : cj one = one := by apply eqC <;> simp only [cj, one] <;> grind
theorem VI_nat (n : Nat) : VI n = V n := by
  unfold VI
  rw [Int.toNat_natCast, show (-(n : Int)).toNat = 0 by omega]
  show mul (V n) (cj one) = V n
  rw [cj_one, mul_one]
theorem VI_sub (a b : Nat) : VI ((a : Int) - b) = mul (V a) (cj (V b)) := by
  unfold VI
  rcases Nat.le_total b a with h | h
  · obtain ⟨d, rfl⟩ : ∃ d, a = d + b := ⟨a - b, by omega⟩
    rw [show (((d + b : Nat) : Int) - b).toNat = d by omega, show (-(((d + b : Nat) : Int) - b)).toNat = 0 by omega, V_add, mul_assoc, (V_U b).mul_cj]
    show mul (V d) (cj one) = _
    rw [cj_one]
  · obtain ⟨d, rfl⟩ : ∃ d, b = a + d := ⟨b - a, by omega⟩
    rw [show ((a : Int) - ((a + d : Nat) : Int)).toNat = 0 by omega, show (-((a : Int) - ((a + d : Nat) : Int))).toNat = d by omega, V_add, cj_mul, ← mul_assoc, (V_U a).mul_cj]
    rfl
theorem int_sub (n : Int) : ∃ a b : Nat, n = (a : Int) - b := ⟨n.toNat, (-n).toNat, by omega⟩
theorem VI_add (n m : Int) : VI (n + m) = mul (VI n) (VI m) := by
  obtain ⟨a, b, rfl⟩ := int_sub n
  obtain ⟨c, d, rfl⟩ := int_sub m
  rw [show (a : Int) - b + (c - d) = ((a + c : Nat) : Int) - ((b + d : Nat) : Int) by omega, VI_sub, VI_sub, VI_sub, V_add, V_add, cj_mul]
  rw [mul_assoc, mul_assoc, ← mul_assoc (V c), mul_comm (V c) (cj (V b)), mul_assoc (cj (V b))]
theorem VI_neg (n : Int) : VI (-n) = cj (VI n) := by
  obtain ⟨a, b, rfl⟩ := int_sub n
  rw [show -((a : Int) - b) = (b : Int) - a by omega, VI_sub, VI_sub, cj_mul, cj_cj, mul_comm]
theorem VI_U (n : Int) : U (VI n) := (V_U _).mul (V_U _).cj
theorem VI_zero : VI 0 = one := by rw [show (0 : Int) = ((0 : Nat) : Int) by rfl, VI_nat]; rfl
def Q : Int := 340282366920938463463374607431768211456
def q : Rat := 340282366920938463463374607431768211456
theorem Qq : ((Q : Int) : Rat) = q := by decide +kernel
theorem q0 : (0 : Rat) < q := by decide +kernel
def r : Rat := 1 / q
theorem qr : q * r = 1 := by decide +kernel
theorem r0 : (0 : Rat) < r := by decide +kernel
def toC (a b : Int) : Cx := ⟨(a : Rat) * r, (b : Rat) * r⟩
def Ap (z : Cx) (a b e : Int) : Prop := 0 ≤ e ∧ Nm (sub z (toC a b)) ((e : Rat) * r)
theorem cast_le {a b : Int} (h : a ≤ b) : (a : Rat) ≤ (b : Rat) := Rat.intCast_le_intCast.2 h
theorem floor_q (x : Int) : ((x / Q : Int) : Rat) * q ≤ x ∧ (x : Rat) ≤ ((x / Q : Int) : Rat) * q + q := by
  have h1 := Int.mul_ediv_add_emod x Q
  have h2 := Int.emod_nonneg x (show Q ≠ 0 by decide)
  have h3 := Int.emod_lt_of_pos x (show 0 < Q by decide)
  rw [← Qq, ← Rat.intCast_mul, ← Rat.intCast_add]
  refine ⟨cast_le ?_, cast_le ?_⟩
  · rw [Int.mul_comm]; omega
  · rw [Int.mul_comm]; omega
theorem floor_r (x : Int) : ((x / Q : Int) : Rat) ≤ x * r ∧ (x : Rat) * r ≤ ((x / Q : Int) : Rat) + 1 := by
  obtain ⟨h1, h2⟩ := floor_q x
  have m1 := Rat.mul_le_mul_of_nonneg_right (c := r) h1 (Rat.le_of_lt r0)
  have m2 := Rat.mul_le_mul_of_nonneg_right (c := r) h2 (Rat.le_of_lt r0)
  rw [Rat.mul_assoc, qr, Rat.mul_one] at m1
  rw [Rat.add_mul, Rat.mul_assoc, qr, Rat.mul_one] at m2
  exact ⟨m1, m2⟩
theorem Ap.mul {z y : Cx} {a b e c d f : Int} (hz : U z) (hy : U y) (h : Ap z a b e) (k : Ap y c d f) :
    Ap (mul z y) ((a * c - b * d) / Q) ((a * d + b * c) / Q) (e + f + e * f / Q + 3) := by
  obtain ⟨h0, h1⟩ := h
  obtain ⟨k0, k1⟩ := k
  have hef : 0 ≤ e * f / Q := Int.ediv_nonneg (Int.mul_nonneg h0 k0) (by decide)
  refine ⟨by omega, ?_⟩
  have e1 : Nm (toC a b) (1 + (e : Rat) * r) := by
    have := (hz.nm).add h1.neg
    have e : Cx.add z (sub (toC a b) z) = toC a b := by apply eqC <;> simp only [Cx.add, sub] <;> grind
    rwa [e] at this
  have e2 := (h1.turn hy).add (e1.mul k1)
  have f1 := floor_r (a * c - b * d)
  have f2 := floor_r (a * d + b * c)
  have f3 := floor_r (e * f)
  simp only [Rat.intCast_sub, Rat.intCast_add, Rat.intCast_mul] at f1 f2 f3
  have e3 : Nm (sub (Cx.mul (toC a b) (toC c d)) (toC ((a * c - b * d) / Q) ((a * d + b * c) / Q))) (r * (3 / 2)) := by
    have g : Nm ⟨((a : Rat) * c - b * d) * r - ((a * c - b * d) / Q : Int), ((a : Rat) * d + b * c) * r - ((a * d + b * c) / Q : Int)⟩ (3 / 2) := by
      apply Nm.unit <;> simp only <;> grind
    have g2 := g.sc (r := r) (Rat.le_of_lt r0)
    have ee : Cx.sc r ⟨((a : Rat) * c - b * d) * r - ((a * c - b * d) / Q : Int), ((a : Rat) * d + b * c) * r - ((a * d + b * c) / Q : Int)⟩ = sub (Cx.mul (toC a b) (toC c d)) (toC ((a * c - b * d) / Q) ((a * d + b * c) / Q)) := by
      apply eqC <;> simp only [Cx.sc, Cx.mul, sub, toC] <;> grind
    rwa [ee] at g2
  have e4 := e2.add e3
  have ee : Cx.add (Cx.add (Cx.mul (sub z (toC a b)) y) (Cx.mul (toC a b) (sub y (toC c d)))) (sub (Cx.mul (toC a b) (toC c d)) (toC ((a * c - b * d) / Q) ((a * d + b * c) / Q))) = sub (Cx.mul z y) (toC ((a * c - b * d) / Q) ((a * d + b * c) / Q)) := by
    apply eqC <;> simp only [Cx.add, Cx.mul, sub] <;> grind
  rw [ee] at e4
  refine e4.mono ?_
  have m5 := Rat.mul_le_mul_of_nonneg_right (c := r) f3.2 (Rat.le_of_lt r0)
  have hr := r0
  simp only [Rat.intCast_add]
  generalize ((e * f / Q : Int) : Rat) = g at *
  have t3 : ((3 : Int) : Rat) = 3 := by decide +kernel
  rw [t3]
  grind
def sq3 (p : Int × Int × Int) : Int × Int × Int := ((p.1 * p.1 - p.2.1 * p.2.1) / Q, (p.1 * p.2.1 + p.2.1 * p.1) / Q, p.2.2 + p.2.2 + p.2.2 * p.2.2 / Q + 3)
def w0 : Int := 340282366920938463099250474440462542326
def w1 : Int := 497805226624462170283482630030
def mw (p : Int × Int × Int) : Int × Int × Int := ((p.1 * w0 - p.2.1 * w1) / Q, (p.1 * w1 + p.2.1 * w0) / Q, p.2.2 + 2 + p.2.2 * 2 / Q + 3)
theorem w_Ap : Ap w w0 w1 2 := by
  refine ⟨by decide, ?_, ?_⟩
  · decide +kernel
  · decide +kernel
def pw : Nat → Nat → Int × Int × Int
  | 0, _ => (Q, 0, 0)
  | f + 1, n => if n = 0 then (Q, 0, 0) else if n % 2 = 1 then mw (sq3 (pw f (n / 2))) else sq3 (pw f (n / 2))
theorem one_Ap : Ap one Q 0 0 := by
  refine ⟨by decide, ?_, ?_⟩
  · decide +kernel
  · decide +kernel
theorem pw_ok : ∀ (f n : Nat), n < 2 ^ f → Ap (V n) (pw f n).1 (pw f n).2.1 (pw f n).2.2
  | 0, n, h => by
    obtain rfl : n = 0 := by simp at h; omega
    exact one_Ap
  | f + 1, n, h => by
    rw [pw]
    by_cases h0 : n = 0
    · rw [if_pos h0]; subst h0; exact one_Ap
    · rw [if_neg h0]
      have ih := pw_ok f (n / 2) (by rw [Nat.pow_succ] at h; omega)
      have hs := Ap.mul (V_U _) (V_U _) ih ih
      rw [← V_add] at hs
      by_cases h1 : n % 2 = 1
      · rw [if_pos h1]
        have hm := Ap.mul (V_U _) w_U hs w_Ap
        rw [show n = (n / 2 + n / 2) + 1 by omega]
        rw [show ((n / 2 + n / 2) + 1) / 2 = n / 2 by omega]
        exact hm
      · rw [if_neg h1]
        rw [show n / 2 + n / 2 = n by omega] at hs
        exact hs
end Cx
end Go.Xv
namespace Go.Xv
namespace Cx
theorem Ap.bd {z : Cx} {a b e : Int} (h : Ap z a b e) : (z.re ≤ ((a + e : Int) : Rat) * r ∧ ((a - e : Int) : Rat) * r ≤ z.re) ∧ (z.im ≤ ((b + e : Int) : Rat) * r ∧ ((b - e : Int) : Rat) * r ≤ z.im) := by
  obtain ⟨_, h⟩ := h
  have h1 := h.re
  have h2 := h.im
  simp only [sub, toC] at h1 h2
  simp only [Rat.intCast_sub, Rat.intCast_add]
  grind
theorem pw_bd (f n : Nat) (h : n < 2 ^ f) : ((V n).re ≤ (((pw f n).1 + (pw f n).2.2 : Int) : Rat) * r ∧ (((pw f n).1 - (pw f n).2.2 : Int) : Rat) * r ≤ (V n).re) ∧ ((V n).im ≤ (((pw f n).2.1 + (pw f n).2.2 : Int) : Rat) * r ∧ (((pw f n).2.1 - (pw f n).2.2 : Int) : Rat) * r ≤ (V n).im) := (pw_ok f n h).bd
def Lw : Rat := 147 / 100000000000
theorem lip1 : Nm (sub w one) Lw := ⟨by decide +kernel, by decide +kernel⟩
theorem lip (m : Nat) : ∀ d : Nat, Nm (sub (V (m + d)) (V m)) ((d : Rat) * Lw)
  | 0 => by
    refine ⟨by simp, ?_⟩
    simp only [Nat.add_zero, sub, n2]; grind
  | d + 1 => by
    have h := lip1.turn (V_U (m + d))
    have k := (lip m d).add h
    have e : Cx.add (sub (V (m + d)) (V m)) (mul (sub w one) (V (m + d))) = sub (V (m + (d + 1))) (V m) := by
      rw [← Nat.add_assoc, show V (m + d + 1) = mul (V (m + d)) w from rfl]
      apply eqC <;> simp only [Cx.add, sub, mul, one] <;> grind
    rw [e] at k
    refine k.mono ?_
    rw [Rat.natCast_add]
    show _ ≤ ((d : Rat) + ((1 : Nat) : Rat)) * Lw
    have : ((1 : Nat) : Rat) = 1 := by decide +kernel
    rw [this]
    grind
theorem cast_leN {a b : Nat} (h : a ≤ b) : (a : Rat) ≤ (b : Rat) := Rat.natCast_le_natCast.2 h
theorem lipB (m d : Nat) (h : d ≤ 268435456) : Nm (sub (V (m + d)) (V m)) (2 / 5) := by
  refine (lip m d).mono ?_
  have h1 := Rat.mul_le_mul_of_nonneg_right (c := Lw) (cast_leN h) (by decide +kernel)
  have h2 : ((268435456 : Nat) : Rat) * Lw ≤ 2 / 5 := by decide +kernel
  grind
theorem half_re {m : Nat} (h : m ≤ 536870912) : 1 / 2 ≤ (V m).re := by
  rcases Nat.le_total m 268435456 with h1 | h1
  · have k := (lipB 0 m h1).re
    rw [Nat.zero_add] at k
    simp only [sub, V, one] at k
    grind
  · obtain ⟨d, rfl⟩ : ∃ d, m = 268435456 + d := ⟨m - 268435456, by omega⟩
    have k := (lipB 268435456 d (by omega)).re
    have g := (pw_bd 30 268435456 (by decide)).1.2
    have g2 : 9 / 10 ≤ (((pw 30 268435456).1 - (pw 30 268435456).2.2 : Int) : Rat) * r := by decide +kernel
    have g3 := Rat.le_trans g2 g
    clear g g2
    simp only [sub] at k
    generalize (V (268435456 + d)).re = x at *
    generalize (V 268435456).re = y at *
    grind
/-- a hair -/
def hair : Rat := 1 / 1152921504606846976
def Ci : Cx := ⟨0, 1⟩
theorem Ci_U : U Ci := by simp only [U, n2, Ci]; grind
theorem of_pw (f n : Nat) (hn : n < 2 ^ f) (c : Cx) (x y : Rat) (h1 : (((pw f n).1 + (pw f n).2.2 : Int) : Rat) * r - c.re ≤ x) (h2 : -x ≤ (((pw f n).1 - (pw f n).2.2 : Int) : Rat) * r - c.re)
    (h3 : (((pw f n).2.1 + (pw f n).2.2 : Int) : Rat) * r - c.im ≤ y) (h4 : -y ≤ (((pw f n).2.1 - (pw f n).2.2 : Int) : Rat) * r - c.im) : Nm (sub (V n) c) (x + y) := by
  obtain ⟨⟨a1, a2⟩, a3, a4⟩ := pw_bd f n hn
  apply Nm.of <;> simp only [sub] <;> grind
theorem quarter : Nm (sub (V 1073741824) Ci) hair := by
  have := of_pw 33 1073741824 (by decide) Ci (hair / 2) (hair / 2) (by decide +kernel) (by decide +kernel) (by decide +kernel) (by decide +kernel)
  exact this.mono (by decide +kernel)
theorem im_nn : ∀ {m : Nat}, m ≤ 536870912 → 0 ≤ (V m).im
  | 0, _ => by simp only [V, one]; grind
  | m + 1, h => by
    have ih := im_nn (m := m) (by omega)
    have hr := half_re (m := m) (by omega)
    have w1 : 0 ≤ w.im := by decide +kernel
    have w2 : 0 ≤ w.re := by decide +kernel
    have m1 := Rat.mul_nonneg ih w2
    have m2 := Rat.mul_nonneg (show 0 ≤ (V m).re by grind) w1
    simp only [V, mul]
    grind
/-- the first quarter -/
theorem first_q {n : Nat} (h : n ≤ 1073741824) : -hair ≤ (V n).re ∧ -hair ≤ (V n).im := by
  have h0 : 0 ≤ hair := by decide +kernel
  have h5 : hair ≤ 1 / 2 := by decide +kernel
  rcases Nat.le_total n 536870912 with h1 | h1
  · have := half_re h1
    have := im_nn h1
    grind
  · obtain ⟨m, hm⟩ : ∃ m, 1073741824 = n + m := ⟨1073741824 - n, by omega⟩
    have e : V n = mul (V 1073741824) (cj (V m)) := by
      rw [hm, V_add, mul_assoc, (V_U m).mul_cj, mul_one]
    have hq := quarter.turn (V_U m).cj
    rw [sub_mul, ← e] at hq
    have k1 := hq.re
    have k2 := hq.im
    have a1 := half_re (m := m) (by omega)
    have a2 := im_nn (m := m) (by omega)
    simp only [sub, mul, Ci, cj] at k1 k2
    grind
end Cx
end Go.Xv
namespace Go.Xv
namespace Cx
/-- how much longer the steps make it, over 2^64 -/
def gL : List Int := [18446744073709551616, 26087635650665564425, 29166863343567579424, 30064514583371253785, 30298483206077454146, 30357602253914638508, 30372421684747952847, 30376129029489835462, 30377056021236072306, 30377287778897074256, 30377345718920132028, 30377360203963884889, 30377363825227197387, 30377364730543173905, 30377364956872177309, 30377365013454428739, 30377365027599991633, 30377365031136382359, 30377365032020480041, 30377365032241504461, 30377365032296760566, 30377365032310574592, 30377365032314028099, 30377365032314891476, 30377365032315107320, 30377365032315161281, 30377365032315174771, 30377365032315178144, 30377365032315178987, 30377365032315179197, 30377365032315179250]
def uu (i : Nat) : Rat := ((gL.getD i 0 : Int) : Rat) * (1 / 18446744073709551616)
def hp (i : Nat) : Rat := 1 / 2 ^ i
def eta : Rat := 1 / 1073741824
def stepC (i : Nat) (o : Bool) : Cx := ⟨1, if o then hp i else -hp i⟩
def kp (i : Nat) : Rat := if i = 0 then 3 / 2 else 1 + hp i * hp i / 2
def chk (i : Nat) : Bool := decide (n2 (sub (sc (uu i) ⟨1, hp i⟩) (sc (uu (i + 1)) (toC (pw 30 (tA i).toNat).1 (pw 30 (tA i).toNat).2.1))) ≤ (uu (i + 1) * (9 / 10 * eta)) * (uu (i + 1) * (9 / 10 * eta))) && decide (((pw 30 (tA i).toNat).2.2 : Rat) * r ≤ 1 / 10 * eta) && decide (0 ≤ uu (i + 1)) && decide (0 ≤ uu i)
theorem chk_all : ∀ i, i < 30 → chk i = true := by decide +kernel
theorem kp_all : ∀ i, i < 30 → decide (1 + hp i * hp i ≤ kp i * kp i ∧ 0 ≤ kp i) = true := by decide +kernel
theorem tab0 {i : Nat} (h : i < 30) : Nm (sub (sc (uu i) ⟨1, hp i⟩) (sc (uu (i + 1)) (VI (tA i)))) (uu (i + 1) * eta) := by
  have hc := chk_all i h
  unfold chk at hc
  simp only [Bool.and_eq_true, decide_eq_true_eq] at hc
  obtain ⟨⟨⟨c1, c2⟩, c3⟩, c4⟩ := hc
  have ht := tA_bd i h
  have e : VI (tA i) = V (tA i).toNat := by
    have : tA i = (((tA i).toNat : Nat) : Int) := by omega
    rw [this, VI_nat]
    rfl
  rw [e]
  have h1 := (pw_ok 30 (tA i).toNat (by omega)).2.neg
  have hr : (0 : Rat) ≤ 9 / 10 * eta := by decide +kernel
  have h2 : Nm (sub (sc (uu i) ⟨1, hp i⟩) (sc (uu (i + 1)) (toC (pw 30 (tA i).toNat).1 (pw 30 (tA i).toNat).2.1))) (uu (i + 1) * (9 / 10 * eta)) := ⟨Rat.mul_nonneg c3 hr, c1⟩
  have h3 := h2.add ((h1.mono c2).sc c3)
  generalize pw 30 (tA i).toNat = p at *
  generalize V (tA i).toNat = v at *
  have ee : Cx.add (sub (sc (uu i) ⟨1, hp i⟩) (sc (uu (i + 1)) (toC p.1 p.2.1))) (sc (uu (i + 1)) (sub (toC p.1 p.2.1) v)) = sub (sc (uu i) ⟨1, hp i⟩) (sc (uu (i + 1)) v) := by
    apply eqC <;> simp only [Cx.add, sub, sc] <;> grind
  rw [ee] at h3
  have e2 : uu (i + 1) * (9 / 10 * eta) + uu (i + 1) * (1 / 10 * eta) = uu (i + 1) * eta := by grind
  rwa [e2] at h3
def dt (i : Nat) (o : Bool) : Int := if o then tA i else -tA i
theorem tab {i : Nat} (h : i < 30) (o : Bool) : Nm (sub (sc (uu i) (stepC i o)) (sc (uu (i + 1)) (VI (dt i o)))) (uu (i + 1) * eta) := by
  have h1 := tab0 h
  cases o with
  | true => exact h1
  | false =>
    have h2 := h1.cj
    have e : Cx.cj (sub (sc (uu i) ⟨1, hp i⟩) (sc (uu (i + 1)) (VI (tA i)))) = sub (sc (uu i) (stepC i false)) (sc (uu (i + 1)) (VI (dt i false))) := by
      unfold dt stepC
      simp only [Bool.false_eq_true, if_false]
      rw [VI_neg]
      apply eqC <;> simp only [Cx.cj, sub, sc] <;> grind
    rwa [e] at h2
theorem step_nm {i : Nat} (h : i < 30) (o : Bool) : Nm (stepC i o) (kp i) := by
  have hc := kp_all i h
  simp only [decide_eq_true_eq] at hc
  refine ⟨hc.2, ?_⟩
  have : n2 (stepC i o) = 1 + hp i * hp i := by
    unfold stepC
    cases o <;> simp only [n2, Bool.false_eq_true, if_false, if_true] <;> grind
  rw [this]
  exact hc.1
def cx (x y : Int) : Cx := ⟨(x : Rat), (y : Rat)⟩
theorem hp_pos (i : Nat) : 0 < hp i ∧ ((2 ^ i : Int) : Rat) * hp i = 1 := by
  unfold hp
  have h : ((2 ^ i : Int) : Rat) = 2 ^ i := by rw [Rat.intCast_pow]; rfl
  have h0 : (0 : Rat) < 2 ^ i := Rat.pow_pos (by decide +kernel)
  rw [h]
  generalize (2 : Rat) ^ i = P at *
  constructor
  · rw [Rat.div_def, Rat.one_mul]
    exact Rat.inv_pos.2 h0
  · grind
theorem floor_p (y : Int) (i : Nat) : ((y / 2 ^ i : Int) : Rat) ≤ y * hp i ∧ (y : Rat) * hp i ≤ ((y / 2 ^ i : Int) : Rat) + 1 := by
  obtain ⟨h0, h1⟩ := hp_pos i
  have hP := p2pos i
  have d1 := Int.mul_ediv_add_emod y (2 ^ i)
  have d2 := Int.emod_nonneg y (show (2 : Int) ^ i ≠ 0 by omega)
  have d3 := Int.emod_lt_of_pos y hP
  generalize (2 : Int) ^ i = P at *
  have e1 : (((y / P) * P : Int) : Rat) ≤ (y : Rat) := cast_le (by rw [Int.mul_comm]; omega)
  have e2 : (y : Rat) ≤ (((y / P) * P + P : Int) : Rat) := cast_le (by rw [Int.mul_comm]; omega)
  rw [Rat.intCast_mul] at e1
  rw [Rat.intCast_add, Rat.intCast_mul] at e2
  have m1 := Rat.mul_le_mul_of_nonneg_right (c := hp i) e1 (Rat.le_of_lt h0)
  have m2 := Rat.mul_le_mul_of_nonneg_right (c := hp i) e2 (Rat.le_of_lt h0)
  rw [Rat.mul_assoc, h1, Rat.mul_one] at m1
  rw [Rat.add_mul, Rat.mul_assoc, h1, Rat.mul_one] at m2
  exact ⟨m1, m2⟩
theorem rot_nm (i : Nat) (o : Bool) (x y : Int) : Nm (sub (cx (rotX i o x y) (rotY i o x y)) (mul (cx x y) (stepC i o))) (3 / 2) := by
  have h1 := floor_p x i
  have h2 := floor_p y i
  unfold rotX rotY stepC
  cases o
  · simp only [Bool.false_eq_true, if_false, cx, Rat.intCast_add, Rat.intCast_sub]
    apply Nm.unit <;> simp only [sub, mul] <;> grind
  · simp only [if_true, cx, Rat.intCast_add, Rat.intCast_sub]
    apply Nm.unit <;> simp only [sub, mul] <;> grind
/-- one step of what lies near -/
theorem near_step {p v : Cx} {i : Nat} {o : Bool} {x y : Int} {c e : Rat} (hi : i < 30) (hp : p = cx x y) (hv : U v) (hc : 0 ≤ c) (h : Nm (sub p (sc (c * uu i) v)) e) :
    Nm (sub (cx (rotX i o x y) (rotY i o x y)) (sc (c * uu (i + 1)) (mul v (VI (dt i o))))) (e * kp i + 3 / 2 + c * (uu (i + 1) * eta)) := by
  subst hp
  have h1 := h.mul (step_nm hi o)
  have h2 := rot_nm i o x y
  have h3 := ((tab hi o).sc hc).turn hv
  have h4 := (h1.add h2).add h3
  have ee : Cx.add (Cx.add (mul (sub (cx x y) (sc (c * uu i) v)) (stepC i o)) (sub (cx (rotX i o x y) (rotY i o x y)) (mul (cx x y) (stepC i o)))) (mul (sc c (sub (sc (uu i) (stepC i o)) (sc (uu (i + 1)) (VI (dt i o))))) v) = sub (cx (rotX i o x y) (rotY i o x y)) (sc (c * uu (i + 1)) (mul v (VI (dt i o)))) := by
    apply eqC <;> simp only [Cx.add, sub, sc, mul] <;> grind
  rwa [ee] at h4
def KK : Rat := 2608131496
theorem stepB : ∀ i : Nat, i < 30 → decide (8 * (i : Rat) * kp i + 3 / 2 + KK * (uu (i + 1) * eta) ≤ 8 * ((i : Rat) + 1)) = true := by decide +kernel
theorem bS_near (z : Int) : ∀ i, i ≤ 30 → Nm (sub (cx (bS z i).1 (bS z i).2.1) (sc (KK * uu i) (VI (z - (bS z i).2.2)))) (8 * (i : Rat))
  | 0, _ => by
    refine ⟨by decide +kernel, ?_⟩
    simp only [bS]
    rw [Int.sub_self, VI_zero]
    decide +kernel
  | i + 1, h => by
    have ih := bS_near z i (by omega)
    have hs := near_step (o := decide (0 ≤ (bS z i).2.2)) (by omega) rfl (VI_U _) (by decide +kernel) ih
    have e : z - (bS z (i + 1)).2.2 = (z - (bS z i).2.2) + dt i (decide (0 ≤ (bS z i).2.2)) := by
      simp only [bS, dt]
      by_cases hz : 0 ≤ (bS z i).2.2
      · simp only [hz, decide_true, if_true]; omega
      · simp only [hz, decide_false, Bool.false_eq_true, if_false]; omega
    rw [e, VI_add]
    have hb := stepB i (by omega)
    simp only [decide_eq_true_eq] at hb
    refine Nm.mono hs ?_
    rw [Rat.natCast_add]
    exact hb
def TZ : Nat → Int
  | 0 => 1073741824
  | i + 1 => max (tA i) (TZ i - tA i)
theorem bS_left {z : Int} (hz : 0 ≤ z ∧ z < 1073741824) : ∀ i, -TZ i ≤ (bS z i).2.2 ∧ (bS z i).2.2 ≤ TZ i
  | 0 => by simp only [bS, TZ]; omega
  | i + 1 => by
    have ih := bS_left hz i
    simp only [bS, TZ]
    split <;> omega
theorem TZ30 : TZ 30 ≤ 3 := by decide +kernel
/-- of a few parts -/
theorem few {n : Int} (h : -3 ≤ n ∧ n ≤ 3) : Nm (sub (VI n) one) (1 / 200000000) := by
  have key : ∀ m : Nat, m ≤ 3 → Nm (sub (V m) one) (1 / 200000000) := by
    intro m hm
    have h1 := lip 0 m
    rw [Nat.zero_add] at h1
    refine h1.mono ?_
    have h2 := Rat.mul_le_mul_of_nonneg_right (c := Lw) (cast_leN hm) (by decide +kernel)
    have h3 : ((3 : Nat) : Rat) * Lw ≤ 1 / 200000000 := by decide +kernel
    grind
  rcases Int.le_total 0 n with hp | hp
  · obtain ⟨m, rfl⟩ := Int.eq_ofNat_of_zero_le hp
    rw [VI_nat]
    exact key m (by omega)
  · obtain ⟨m, hm⟩ := Int.eq_ofNat_of_zero_le (show 0 ≤ -n by omega)
    have e0 : n = -(m : Int) := by omega
    subst e0
    have hc := (key m (by omega)).cj
    have e1 : Cx.cj (sub (V m) one) = sub (VI (-(m : Int))) one := by
      rw [VI_neg, VI_nat]
      apply eqC <;> simp only [Cx.cj, sub, one] <;> grind
    rwa [e1] at hc
def One : Rat := 4294967296
theorem both0 {z : Int} (hz : 0 ≤ z ∧ z < 1073741824) : Nm (sub (cx (bS z 30).1 (bS z 30).2.1) (sc One (VI z))) 263 := by
  have h1 := bS_near z 30 (by omega)
  have hl := bS_left hz 30
  have hT := TZ30
  have h2 := (few (n := (bS z 30).2.2) (by omega)).neg
  have h3 := (h2.turn (VI_U (z - (bS z 30).2.2))).sc (r := KK * uu 30) (by decide +kernel)
  have e : VI z = mul (VI (z - (bS z 30).2.2)) (VI (bS z 30).2.2) := by rw [← VI_add]; congr 1; omega
  generalize (bS z 30).2.2 = l at *
  have h4 : Nm (sub (sc (KK * uu 30) (VI z)) (sc One (VI z))) 1 := by
    have := ((VI_U z).nm).sc (r := One - KK * uu 30) (by decide +kernel)
    have e : Cx.sc (One - KK * uu 30) (VI z) = sub (sc One (VI z)) (sc (KK * uu 30) (VI z)) := by apply eqC <;> simp only [sub, sc] <;> grind
    rw [e] at this
    exact (this.neg).mono (by decide +kernel)
  have e3 : Cx.sc (KK * uu 30) (mul (sub one (VI l)) (VI (z - l))) = sub (sc (KK * uu 30) (VI (z - l))) (sc (KK * uu 30) (VI z)) := by
    rw [e]; apply eqC <;> simp only [sub, sc, mul, one] <;> grind
  rw [e3] at h3
  have h5 := (h1.trans h3).trans h4
  exact h5.mono (by decide +kernel)
theorem Nm.coord {a b : Cx} {e : Rat} (h : Nm a e) (h1 : b.re * b.re ≤ a.re * a.re) (h2 : b.im * b.im ≤ a.im * a.im) : Nm b e := by
  refine ⟨h.1, ?_⟩
  have := h.2
  simp only [n2] at *
  grind
/-- clamping goes nearer to what lies between. -/
theorem clamp_near {x : Int} {t : Rat} (h0 : 0 ≤ t) (h1 : t ≤ One) : ((cl01 x : Int) : Rat) - t = 0 ∨ (((cl01 x : Int) : Rat) - t) * (((cl01 x : Int) : Rat) - t) ≤ ((x : Rat) - t) * ((x : Rat) - t) := by
  right
  have key : ∀ c d : Rat, 0 ≤ c * d → (c * c ≤ (c + d) * (c + d)) := by
    intro c d h
    have := sq_nn d
    grind
  have hcase : ((cl01 x : Int) : Rat) = x ∨ (((cl01 x : Int) : Rat) = 0 ∧ (x : Rat) ≤ 0) ∨ (((cl01 x : Int) : Rat) = One ∧ One ≤ (x : Rat)) := by
    unfold cl01
    by_cases c1 : x < 0
    · right; left
      rw [show min (max x 0) 4294967296 = 0 by omega]
      exact ⟨rfl, cast_le (b := 0) (by omega)⟩
    · by_cases c2 : 4294967296 ≤ x
      · right; right
        rw [show min (max x 0) 4294967296 = 4294967296 by omega]
        exact ⟨rfl, cast_le (a := 4294967296) c2⟩
      · left
        rw [show min (max x 0) 4294967296 = x by omega]
  rcases hcase with h | ⟨h, k⟩ | ⟨h, k⟩
  · rw [h]; exact Rat.le_refl
  · rw [h]
    have := key (0 - t) x (by have := Rat.mul_nonneg h0 (show 0 ≤ -(x : Rat) by grind); grind)
    grind
  · rw [h]
    have := key (One - t) (x - One) (Rat.mul_nonneg (by grind) (by grind))
    grind
theorem both1 {z : Int} (hz : 0 ≤ z ∧ z < 1073741824) : Nm (sub (cx (cl01 (bS z 30).1) (cl01 (bS z 30).2.1)) (sc One (VI z))) 264 := by
  have h1 := both0 hz
  obtain ⟨m, hm⟩ := Int.eq_ofNat_of_zero_le hz.1
  have hv : VI z = V m := by rw [hm, VI_nat]
  rw [hv] at h1 ⊢
  obtain ⟨q1, q2⟩ := first_q (n := m) (by omega)
  have b1 := (V_U m).nm.re
  have b2 := (V_U m).nm.im
  generalize V m = v at *
  let f : Rat → Rat := fun t => if t < 0 then 0 else t
  have hh : (0 : Rat) ≤ hair := by decide +kernel
  have hO : (0 : Rat) ≤ One := by decide +kernel
  have hOh : One * hair ≤ 1 / 8 := by decide +kernel
  have fd : ∀ t : Rat, -hair ≤ t → t ≤ 1 → (0 ≤ One * f t ∧ One * f t ≤ One) ∧ (One * f t - One * t ≤ 1 / 8 ∧ 0 ≤ One * f t - One * t) := by
    intro t h1 h2
    by_cases hn : t < 0
    · have : f t = 0 := if_pos hn
      rw [this]
      have := Rat.mul_le_mul_of_nonneg_left h1 hO
      have := Rat.mul_le_mul_of_nonneg_left (Rat.le_of_lt hn) hO
      grind
    · have : f t = t := if_neg hn
      rw [this]
      have h3 := Rat.mul_le_mul_of_nonneg_left h2 hO
      have h4 := Rat.mul_le_mul_of_nonneg_left (show 0 ≤ t by grind) hO
      grind
  obtain ⟨⟨f1, f2⟩, f3, f4⟩ := fd v.re q1 b1.1
  obtain ⟨⟨g1, g2⟩, g3, g4⟩ := fd v.im q2 b2.1
  have hT : Nm (sub (sc One v) ⟨One * f v.re, One * f v.im⟩) (1 / 8 + 1 / 8) := by
    apply Nm.of <;> simp only [sub, sc] <;> grind
  have h2 := h1.trans hT
  have c1 := clamp_near (x := (bS z 30).1) f1 f2
  have c2 := clamp_near (x := (bS z 30).2.1) g1 g2
  have h3 : Nm (sub (cx (cl01 (bS z 30).1) (cl01 (bS z 30).2.1)) ⟨One * f v.re, One * f v.im⟩) (263 + (1 / 8 + 1 / 8)) := by
    refine h2.coord ?_ ?_
    · simp only [sub, cx]
      rcases c1 with c | c
      · rw [c, Rat.zero_mul]; exact sq_nn _
      · exact c
    · simp only [sub, cx]
      rcases c2 with c | c
      · rw [c, Rat.zero_mul]; exact sq_nn _
      · exact c
  exact (h3.trans hT.neg).mono (by decide +kernel)
theorem VI_quarter : Nm (sub (VI 1073741824) Ci) hair := by
  rw [show (1073741824 : Int) = ((1073741824 : Nat) : Int) by rfl, VI_nat]
  exact quarter
/-- a quarter on -/
theorem on_quarter {c s n : Int} {e : Rat} (h : Nm (sub (cx c s) (sc One (VI n))) e) : Nm (sub (cx (-s) c) (sc One (VI (n + 1073741824)))) (e + 1 / 8) := by
  have h1 := h.turn Ci_U
  have h2 := ((VI_quarter.neg).turn (VI_U n)).sc (r := One) (by decide +kernel)
  have h3 := h1.add h2
  rw [VI_add]
  have ee : Cx.add (mul (sub (cx c s) (sc One (VI n))) Ci) (sc One (mul (sub Ci (VI 1073741824)) (VI n))) = sub (cx (-s) c) (sc One (mul (VI n) (VI 1073741824))) := by
    apply eqC <;> simp only [Cx.add, sub, sc, mul, cx, Ci, Rat.intCast_neg] <;> grind
  rw [ee] at h3
  exact h3.mono (by have : One * hair ≤ 1 / 8 := by decide +kernel
                    grind)
theorem both_near {a : Int} (ha : 0 ≤ a ∧ a < 4294967296) : Nm (sub (cx (bothC a) (bothS a)) (sc One (VI a))) 265 := by
  have h0 : Nm (sub (cx (bC a) (bN a)) (sc One (VI (a % 1073741824)))) 264 := both1 (z := a % 1073741824) (by omega)
  have h1 := on_quarter h0
  have h2 := on_quarter h1
  have h3 := on_quarter h2
  have hq : a / 1073741824 = 0 ∨ a / 1073741824 = 1 ∨ a / 1073741824 = 2 ∨ a / 1073741824 = 3 := by omega
  unfold bothC bothS
  rcases hq with h | h | h | h
  · rw [show a % 1073741824 = a by omega] at h0
    rw [if_pos h, if_pos h]
    exact h0.mono (by decide +kernel)
  · rw [show a % 1073741824 + 1073741824 = a by omega] at h1
    rw [if_neg (by omega), if_pos h, if_neg (by omega), if_pos h]
    exact h1.mono (by decide +kernel)
  · rw [show a % 1073741824 + 1073741824 + 1073741824 = a by omega] at h2
    rw [if_neg (by omega), if_neg (by omega), if_pos h, if_neg (by omega), if_neg (by omega), if_pos h]
    exact h2.mono (by decide +kernel)
  · rw [show a % 1073741824 + 1073741824 + 1073741824 + 1073741824 = a by omega, Int.neg_neg] at h3
    rw [if_neg (by omega), if_neg (by omega), if_neg (by omega), if_neg (by omega), if_neg (by omega), if_neg (by omega)]
    exact h3.mono (by decide +kernel)
/-- how long it is -/
theorem both_len {a : Int} (ha : 0 ≤ a ∧ a < 4294967296) : bothC a * bothC a + bothS a * bothS a ≤ 18446746350042288721 ∧ 18446741788787020900 ≤ bothC a * bothC a + bothS a * bothS a := by
  have h := both_near ha
  have hu := ((VI_U a).nm).sc (r := One) (by decide +kernel)
  have e0 : n2 (cx (bothC a) (bothS a)) = ((bothC a * bothC a + bothS a * bothS a : Int) : Rat) := by
    simp only [n2, cx, Rat.intCast_add, Rat.intCast_mul]
  constructor
  · have h1 := h.add hu
    have e : Cx.add (sub (cx (bothC a) (bothS a)) (sc One (VI a))) (sc One (VI a)) = cx (bothC a) (bothS a) := by apply eqC <;> simp only [Cx.add, sub] <;> grind
    rw [e] at h1
    have h2 := h1.2
    rw [e0] at h2
    have h3 : (265 + One * 1) * (265 + One * 1) = ((18446746350042288721 : Int) : Rat) := by decide +kernel
    rw [h3] at h2
    have := Rat.intCast_le_intCast.1 h2
    omega
  · rcases Int.lt_or_le (bothC a * bothC a + bothS a * bothS a) 18446741788787020900 with hl | hl
    · exfalso
      have k : Nm (cx (bothC a) (bothS a)) (One - 266) := by
        refine ⟨by decide +kernel, ?_⟩
        rw [e0]
        have h3 : (One - 266) * (One - 266) = ((18446741788787020900 : Int) : Rat) := by decide +kernel
        rw [h3]
        exact cast_le (by omega)
      have h1 := k.add h.neg
      have e : Cx.add (cx (bothC a) (bothS a)) (sub (sc One (VI a)) (cx (bothC a) (bothS a))) = sc One (VI a) := by apply eqC <;> simp only [Cx.add, sub] <;> grind
      rw [e] at h1
      have h2 := h1.2
      have e3 : n2 (sc One (VI a)) = One * One := by
        have := VI_U a
        simp only [U, n2, sc] at *
        grind
      rw [e3] at h2
      have : ¬ One * One ≤ (One - 266 + 265) * (One - 266 + 265) := by decide +kernel
      exact this h2
    · exact hl
end Cx
end Go.Xv
namespace Go.Xv
theorem f_TurnUnit (F : Nat) (hF : 200 ≤ F) {a : Int} (ha : U32 a) : f_law05_TurnUnit F a = some (.v (.bool true)) := by
  unfold f_law05_TurnUnit
  obtain ⟨w1, w2⟩ := a_works05 F hF
  obtain ⟨h1, h2, h3⟩ := a_tBoth F hF ha
  obtain ⟨⟨c1, c2⟩, s1, s2⟩ := both_bd a
  obtain ⟨l1, l2⟩ := Cx.both_len (a := a) (by unfold U32 at ha; omega)
  have ic : I64 (bothC a) := by unfold I64; omega
  have is_ : I64 (bothS a) := by unfold I64; omega
  dsimp only
  rw [h2, h3]
  generalize bothC a = c at *
  generalize bothS a = s at *
  obtain ⟨m1, m2, m3⟩ := a_rMul F hF ic ic
  obtain ⟨n1, n2, n3⟩ := a_rMul F hF is_ is_
  obtain ⟨a1, a2, a3⟩ := a_rAdd F hF (c * c) (s * s)
  generalize hz : c * c + s * s = z at *
  obtain ⟨r1, r2, r3⟩ := a_rNear F hF (x := z) 32 (by unfold W128; omega)
  obtain ⟨o1, o2, o3⟩ := a_rOf F (n := 4294967296) (by unfold I64; omega)
  obtain ⟨g1, g2, g3⟩ := a_rNeg F hF 4294967296
  have e32 : near z (cl 32) = z / 4294967296 + z / 2147483648 % 2 := by
    rw [show cl 32 = 32 from rfl]
    unfold near
    rw [if_neg (by decide), show (2 : Int) ^ 32 = 4294967296 by decide, show (2 : Int) ^ (32 - 1) = 2147483648 by decide]
  rw [e32] at r2 r3
  obtain ⟨b1, b2, b3⟩ := a_rAdd F hF (z / 4294967296 + z / 2147483648 % 2) (-4294967296)
  obtain ⟨k1, k2, k3⟩ := a_rClip F (x := z / 4294967296 + z / 2147483648 % 2 + -4294967296) (by unfold W128; omega)
  refine bp w1 (bn (by rw [w2]; rfl) (bp h1 (bp m1 (bp n1 ?_))))
  rw [m2, m3, n2, n3]
  refine bp a1 ?_
  rw [a2, a3]
  refine bp r1 ?_
  rw [r2, r3]
  refine bp o1 ?_
  rw [o2, o3]
  refine bp g1 ?_
  rw [g2, g3]
  refine bp b1 ?_
  rw [b2, b3]
  refine bp k1 (bp ?_ ?_)
  · rw [k3]; unfold clipC; rw [df (by omega)]; rfl
  · rw [k2]
    have ev : clipV (z / 4294967296 + z / 2147483648 % 2 + -4294967296) = z / 4294967296 + z / 2147483648 % 2 + -4294967296 := by
      unfold clipV; rw [if_neg (by omega), if_neg (by omega)]
    rw [ev]
    exact bp (dt (by omega)) (some_bool (dt (by omega)))
end Go.Xv
namespace Go.Proofs.Ytpnggkefjgpleaa.turnUnit
open Go.ChangeShapes Go.WideShapes Go.ChangeAt Go.RowKit Go.Xv Go.Proofs.Ytpnggkefjgpleaa.base
set_option linter.unusedVariables false
set_option maxRecDepth 100000 in
theorem lifted (os : Os) (started : os.Started) (H : Type) (enc : TypeId × Value → H) :
    ReturnsInHanded {} Try.checked os 7 .any (Rows.turnUnitSpec.pre6 enc Try.prog Try.f7 Rows.turnUnitRow.domain false) (Rows.turnUnitSpec.post enc Try.prog Try.f7 false true false false) := by
  refine returnsInHanded_of_change (C := Try.checked) own started (by kernel_rfl) Try.func7
    (ChangeSpec.witness6 (enc := enc) (C := Try.checked) false ⟨#[], #[.int .u32 0], []⟩ 8 (by kernel_rfl) (by kernel_rfl) (by kernel_rfl) (by kernel_rfl)) ?_
  intro W base args ds gs before hval0 hW hcnd _
  have hval : ∀ (j : Nat) t v, Try.f7.params[j]? = some t → args[j]? = some v → Value.okWide Try.prog W .any base t v := hval0
  have hW' := hW
  obtain ⟨p, q, hA0, hV, rfl, hfz, hnd⟩ := hW
  have hA : DataW.TrodAll enc Try.prog W 0 (fun _ => true) true Try.f7.params.toList args.toList ds p := hA0
  rw [Try.params7] at hA hval
  obtain ⟨v0, vs0, d0, ds0, p0, q0, hargs, rfl, rfl, h0, r0⟩ := trodAll_cons hA
  obtain ⟨rfl, rfl, rfl⟩ := trodAll_nil r0
  obtain rfl : args = #[v0] := by cases args; simp_all
  obtain ⟨a0, rfl, wa0⟩ := open_num (k := .u32) (by kernel_rfl) (hval 0 30 v0 rfl rfl) h0
  refine law_contract laidOut (g_law05_TurnUnit fuel0) (bt := 4) (by kernel_rfl) (by kernel_rfl) (by kernel_rfl) (by kernel_rfl) rfl hW' ?_
  refine ⟨[.v (.int .u32 a0)], rfl, fun i x hx => ?_, unS_of ?_⟩
  · match i, hx with
    | 0, hx => exact ⟨_, rfl, by cases hx; exact Rel.v _ _⟩
    | _ + 1, hx => cases hx
  · obtain ⟨y1, y2⟩ := k_law05_TurnUnit fuel0 a0 (f_TurnUnit fuel0 (by unfold fuel0; omega) (wf_u32 wa0))
    have e : s_law05_TurnUnit fuel0 [.v (.int .u32 a0)] = some (ok_law05_TurnUnit fuel0 a0, .v (.bool (o_law05_TurnUnit_0 fuel0 a0))) := by kernel_rfl
    rw [e, y1, y2]
theorem over : Rows.turnUnitRow.holds Try.pinned (OpenSpec.ofChange Rows.turnUnitSpec) :=
  OpenClaim.holds_of_wide 7 Try.f7 rfl rfl rfl rfl rfl rfl rfl ⟨rfl, rfl, rfl, rfl, rfl⟩ rfl rfl rfl rfl rfl (by kernel_rfl) Try.func7 (joined_of (P := Try.prog) behind enter_ rfl rfl ⟨rfl, rfl⟩ (by kernel_rfl))
    (of_decide_eq_true (by kernel_rfl)) (by unfold Func.isWrapper; first | (rw [if_pos (by decide +kernel)]; kernel_rfl) | (rw [if_neg (by decide +kernel)]; exact ⟨rfl, rfl⟩))
    (fun os started H enc _ => lifted os started H enc)
/-- The statement. -/
theorem proved : Rows.TurnUnitSaid := over
#print axioms proved
end Go.Proofs.Ytpnggkefjgpleaa.turnUnit
