/- A body that stands as the ground does, feels Gravity, and does not turn, stays where it is: the law returns true for every input, and leaves its arguments as they were. -/
import Derived.Test.YtdchhmffiiedmaaLNavRests2
import Derived.KernelRfl
import Derived.Tactics2
import Derived.LoopTactic
import Derived.WalkKit
import Derived.Deep.DeepCutAuto
import Derived.Deep.RegionHeld3
import Derived.Deep.AppendLies
import Derived.Deep.MidRow
import Derived.Maps.RangeRun
import Derived.Maps.OwnOps
import Derived.Maps.RangeWalk
set_option linter.unusedVariables false
namespace Go.Xv
/- 26 _att_Step -/
def c_ra : Cfg := ⟨[0, 1, 2, 3, 4, 6, 7, 8, 9, 10, 11, 12, 13, 15, 16, 19, 20, 21, 29, 50], [(0, [0, 1, 2, 3, 4, 6, 7, 8, 9, 17, 18, 19, 20, 48, 49, 50, 51, 52, 53, 54, 55, 56, 57, 58, 59, 60, 61, 62, 63, 64])], [], []⟩
def ti_ra : List TV := [.v (.agg [.int .i64, .int .i64, .int .i64, .int .i64, .int .i64, .int .i64, .int .i64, .int .i64, .int .i64, .int .i64]), .v (.agg [.int .i32, .int .i32, .int .i32]), vI]
def to_ra : TV := .v (.tup [.agg [.int .i64, .int .i64, .int .i64, .int .i64, .int .i64, .int .i64, .int .i64, .int .i64, .int .i64, .int .i64], .bool])
def S_ra (F : Nat) : FuncId → List VV → Option (Bool × VV) := words [(42, s_o F), (43, s_z F), (44, s_ib F), (45, s_ba F)]
def T_ra_0 : TS := ⟨[(0, .v (.agg [.int .i64, .int .i64, .int .i64, .int .i64, .int .i64, .int .i64, .int .i64, .int .i64, .int .i64, .int .i64])), (1, .v (.agg [.int .i32, .int .i32, .int .i32])), (2, vI), (3, .lp 0 (.lit 0)), (4, .lp 1 (.lit 0)), (6, .lp 2 (.lit 0)), (7, .v (.bool)), (8, .v (.bool)), (9, .lp 3 (.lit 0)), (19, .v (.agg [.int .i32, .int .i32, .int .i32])), (20, vI)], [(0, ⟨(.ex [vI, vI, vI, vI, vI, vI, vI, vI, vI, vI]), true⟩), (1, ⟨(.ex [.v (.int .i32), .v (.int .i32), .v (.int .i32)]), true⟩), (2, ⟨(.ex [vI, vI, vI, vI, vI, vI, vI, vI, vI, vI]), true⟩), (3, ⟨(.ex [vI, vI, vI, vI, vI, vI, vI, vI, vI]), true⟩)], 4⟩
def T_ra_0_0 : TS := ⟨[(0, .v (.agg [.int .i64, .int .i64, .int .i64, .int .i64, .int .i64, .int .i64, .int .i64, .int .i64, .int .i64, .int .i64])), (1, .v (.agg [.int .i32, .int .i32, .int .i32])), (2, vI), (3, .lp 0 (.lit 0)), (4, .lp 1 (.lit 0)), (6, .lp 2 (.lit 0)), (7, .v (.bool)), (8, .v (.bool)), (9, .lp 3 (.lit 0)), (19, .v (.agg [.int .i32, .int .i32, .int .i32])), (20, vI)], [(0, ⟨(.ex [vI, vI, vI, vI, vI, vI, vI, vI, vI, vI]), true⟩), (1, ⟨(.ex [.v (.int .i32), .v (.int .i32), .v (.int .i32)]), true⟩), (2, ⟨(.ex [vI, vI, vI, vI, vI, vI, vI, vI, vI, vI]), true⟩), (3, ⟨(.ex [vI, vI, vI, vI, vI, vI, vI, vI, vI]), true⟩)], 4⟩
def K_att_Step_0_0e0 (k : Exit → VS → R) : Y47 := fun (z0 z1 z2 z3 z4 z5 z6 z7 z8 z9 z10 z11 z12 z13 : Int) (z14 z15 : Bool) (z16 z17 z18 z19 z20 z21 z22 z23 z24 z25 z26 z27 z28 z29 z30 z31 z32 z33 z34 z35 z36 z37 z38 z39 z40 z41 z42 z43 z44 z45 z46 z47 z48 z49 z50 z51 : Int) => k (.exit 0) (fS T_ra_0_0 (C14 z0 z1 z2 z3 z4 z5 z6 z7 z8 z9 z10 z11 z12 z13 (.b z14 :: (.b z15 :: (C36 z16 z17 z18 z19 z20 z21 z22 z23 z24 z25 z26 z27 z28 z29 z30 z31 z32 z33 z34 z35 z36 z37 z38 z39 z40 z41 z42 z43 z44 z45 z46 z47 z48 z49 z50 z51 [])))))
def Bg_ra_0 (ok_o : Nat → Int → Int → Bool) (o_o_0 : Nat → Int → Int → Int) (ok_z : Nat → Int → Int → Bool) (o_z_0 o_z_1 o_z_2 o_z_3 o_z_4 o_z_5 o_z_6 o_z_7 o_z_8 : Nat → Int → Int → Int) (ok_ib : Y45) (o_ib_0 o_ib_1 o_ib_2 o_ib_3 o_ib_4 o_ib_5 o_ib_6 o_ib_7 o_ib_8 : Y46) (o_ib_9 : Y45) (F : Nat) (rc ex0 : Y47) (x0 x1 x2 x3 x4 x5 x6 x7 x8 x9 x10 x11 x12 x13 : Int) (x14 x15 : Bool) (x16 x17 x18 x19 x20 x21 x22 x23 x24 x25 x26 x27 x28 x29 x30 x31 x32 x33 x34 x35 x36 x37 x38 x39 x40 x41 x42 x43 x44 x45 x46 x47 x48 x49 x50 x51 : Int) : R :=
 bif ((decide (x19 < 3))) then (
 bif (((decide (0 ≤ x19)) && (decide (x19 < 3))) && ((isI .i32 [.v (.int .i32 x16), .v (.int .i32 x17), .v (.int .i32 x18)][((Int.toNat x19) * 1)]?) && true)) then (
 let v0 := iv [.v (.int .i32 x16), .v (.int .i32 x17), .v (.int .i32 x18)][((Int.toNat x19) * 1)]?
 let v1 : Int := (if (-2147483647) > v0 then (-2147483647) else v0)
 bif (ok_o F v1 x13) then (
 let v2 := o_o_0 F v1 x13
 bif ((v2 == 0)) then (
 rc x0 x1 x2 x3 x4 x5 x6 x7 x8 x9 x10 x11 x12 x13 x14 x15 x16 x17 x18 ((IntKind.wrap .i64 (x19 + 1))) x20 x21 x22 x23 x24 x25 x26 x27 x28 x29 x30 x31 x32 x33 x34 x35 x36 x37 x38 x39 x40 x41 x42 x43 x44 x45 x46 x47 x48 x49 x50 x51)
 else (
 bif (ok_z F x19 v2) then (
 let v3 := o_z_0 F x19 v2
 let v4 := o_z_1 F x19 v2
 let v5 := o_z_2 F x19 v2
 let v6 := o_z_3 F x19 v2
 let v7 := o_z_4 F x19 v2
 let v8 := o_z_5 F x19 v2
 let v9 := o_z_6 F x19 v2
 let v10 := o_z_7 F x19 v2
 let v11 := o_z_8 F x19 v2
 bif (ok_ib F x43 x44 x45 x46 x47 x48 x49 x50 x51 v3 v4 v5 v6 v7 v8 v9 v10 v11) then (
 let v12 := o_ib_0 F x43 x44 x45 x46 x47 x48 x49 x50 x51 v3 v4 v5 v6 v7 v8 v9 v10 v11
 let v13 := o_ib_1 F x43 x44 x45 x46 x47 x48 x49 x50 x51 v3 v4 v5 v6 v7 v8 v9 v10 v11
 let v14 := o_ib_2 F x43 x44 x45 x46 x47 x48 x49 x50 x51 v3 v4 v5 v6 v7 v8 v9 v10 v11
 let v15 := o_ib_3 F x43 x44 x45 x46 x47 x48 x49 x50 x51 v3 v4 v5 v6 v7 v8 v9 v10 v11
 let v16 := o_ib_4 F x43 x44 x45 x46 x47 x48 x49 x50 x51 v3 v4 v5 v6 v7 v8 v9 v10 v11
 let v17 := o_ib_5 F x43 x44 x45 x46 x47 x48 x49 x50 x51 v3 v4 v5 v6 v7 v8 v9 v10 v11
 let v18 := o_ib_6 F x43 x44 x45 x46 x47 x48 x49 x50 x51 v3 v4 v5 v6 v7 v8 v9 v10 v11
 let v19 := o_ib_7 F x43 x44 x45 x46 x47 x48 x49 x50 x51 v3 v4 v5 v6 v7 v8 v9 v10 v11
 let v20 := o_ib_8 F x43 x44 x45 x46 x47 x48 x49 x50 x51 v3 v4 v5 v6 v7 v8 v9 v10 v11
 bif x15 then (
 rc x0 x1 x2 x3 x4 x5 x6 x7 x8 x9 x10 x11 x12 x13 x14 true x16 x17 x18 ((IntKind.wrap .i64 (x19 + 1))) x20 x21 x22 x23 x24 x25 x26 x27 x28 x29 x30 x31 x32 x33 x34 x35 x36 x37 x38 x39 x40 x41 x42 v12 v13 v14 v15 v16 v17 v18 v19 v20)
 else (
 rc x0 x1 x2 x3 x4 x5 x6 x7 x8 x9 x10 x11 x12 x13 x14 ((o_ib_9 F x43 x44 x45 x46 x47 x48 x49 x50 x51 v3 v4 v5 v6 v7 v8 v9 v10 v11)) x16 x17 x18 ((IntKind.wrap .i64 (x19 + 1))) x20 x21 x22 x23 x24 x25 x26 x27 x28 x29 x30 x31 x32 x33 x34 x35 x36 x37 x38 x39 x40 x41 x42 v12 v13 v14 v15 v16 v17 v18 v19 v20)) else none) else none)) else none) else none)
 else (
 ex0 x0 x1 x2 x3 x4 x5 x6 x7 x8 x9 x10 x11 x12 x13 x14 x15 x16 x17 x18 x19 x20 x21 x22 x23 x24 x25 x26 x27 x28 x29 x30 x31 x32 x33 x34 x35 x36 x37 x38 x39 x40 x41 x42 x43 x44 x45 x46 x47 x48 x49 x50 x51)
def B_ra_0 (F : Nat) (rc ex0 : Y47) (x0 x1 x2 x3 x4 x5 x6 x7 x8 x9 x10 x11 x12 x13 : Int) (x14 x15 : Bool) (x16 x17 x18 x19 x20 x21 x22 x23 x24 x25 x26 x27 x28 x29 x30 x31 x32 x33 x34 x35 x36 x37 x38 x39 x40 x41 x42 x43 x44 x45 x46 x47 x48 x49 x50 x51 : Int) : R := Bg_ra_0 ok_o o_o_0 ok_z o_z_0 o_z_1 o_z_2 o_z_3 o_z_4 o_z_5 o_z_6 o_z_7 o_z_8 ok_ib o_ib_0 o_ib_1 o_ib_2 o_ib_3 o_ib_4 o_ib_5 o_ib_6 o_ib_7 o_ib_8 o_ib_9 F rc ex0 x0 x1 x2 x3 x4 x5 x6 x7 x8 x9 x10 x11 x12 x13 x14 x15 x16 x17 x18 x19 x20 x21 x22 x23 x24 x25 x26 x27 x28 x29 x30 x31 x32 x33 x34 x35 x36 x37 x38 x39 x40 x41 x42 x43 x44 x45 x46 x47 x48 x49 x50 x51
def L_ra_0 (F : Nat) (ex0 : Y47) : Y48
  | 0, _, _, _, _, _, _, _, _, _, _, _, _, _, _, _, _, _, _, _, _, _, _, _, _, _, _, _, _, _, _, _, _, _, _, _, _, _, _, _, _, _, _, _, _, _, _, _, _, _, _, _, _ => none
  | n + 1, x0, x1, x2, x3, x4, x5, x6, x7, x8, x9, x10, x11, x12, x13, x14, x15, x16, x17, x18, x19, x20, x21, x22, x23, x24, x25, x26, x27, x28, x29, x30, x31, x32, x33, x34, x35, x36, x37, x38, x39, x40, x41, x42, x43, x44, x45, x46, x47, x48, x49, x50, x51 => B_ra_0 F (L_ra_0 F ex0 n) ex0 x0 x1 x2 x3 x4 x5 x6 x7 x8 x9 x10 x11 x12 x13 x14 x15 x16 x17 x18 x19 x20 x21 x22 x23 x24 x25 x26 x27 x28 x29 x30 x31 x32 x33 x34 x35 x36 x37 x38 x39 x40 x41 x42 x43 x44 x45 x46 x47 x48 x49 x50 x51
def w_ra (L_ra_0 : Nat → (Y47) → Y48) (F : Nat) : List LW := [⟨0, T_ra_0, fun k q => L_ra_0 F (K_att_Step_0_0e0 k) F (iI q 0) (iI q 1) (iI q 2) (iI q 3) (iI q 4) (iI q 5) (iI q 6) (iI q 7) (iI q 8) (iI q 9) (iI q 10) (iI q 11) (iI q 12) (iI q 13) (iB q 14) (iB q 15) (iI q 16) (iI q 17) (iI q 18) (iI q 19) (iI q 20) (iI q 21) (iI q 22) (iI q 23) (iI q 24) (iI q 25) (iI q 26) (iI q 27) (iI q 28) (iI q 29) (iI q 30) (iI q 31) (iI q 32) (iI q 33) (iI q 34) (iI q 35) (iI q 36) (iI q 37) (iI q 38) (iI q 39) (iI q 40) (iI q 41) (iI q 42) (iI q 43) (iI q 44) (iI q 45) (iI q 46) (iI q 47) (iI q 48) (iI q 49) (iI q 50) (iI q 51)⟩]
def W_ra (F : Nat) : List LW := w_ra L_ra_0 F
def I_ra (F : Nat) : Nat → VS → (Exit → VS → R) → R := tabI c_ra (W_ra F)
theorem lL_ra_0 (F : Nat) (k : Exit → VS → R) : ∀ (n : Nat) (x0 x1 x2 x3 x4 x5 x6 x7 x8 x9 x10 x11 x12 x13 : Int) (x14 x15 : Bool) (x16 x17 x18 x19 x20 x21 x22 x23 x24 x25 x26 x27 x28 x29 x30 x31 x32 x33 x34 x35 x36 x37 x38 x39 x40 x41 x42 x43 x44 x45 x46 x47 x48 x49 x50 x51 : Int), iterC (codeL PP (S_ra F) c_ra (I_ra F) (tabJ []) (loopAt PP 26 0) 0) (headOf c_ra 0) k n (fS T_ra_0 (C14 x0 x1 x2 x3 x4 x5 x6 x7 x8 x9 x10 x11 x12 x13 (.b x14 :: (.b x15 :: (C36 x16 x17 x18 x19 x20 x21 x22 x23 x24 x25 x26 x27 x28 x29 x30 x31 x32 x33 x34 x35 x36 x37 x38 x39 x40 x41 x42 x43 x44 x45 x46 x47 x48 x49 x50 x51 []))))) = L_ra_0 F (K_att_Step_0_0e0 k) n x0 x1 x2 x3 x4 x5 x6 x7 x8 x9 x10 x11 x12 x13 x14 x15 x16 x17 x18 x19 x20 x21 x22 x23 x24 x25 x26 x27 x28 x29 x30 x31 x32 x33 x34 x35 x36 x37 x38 x39 x40 x41 x42 x43 x44 x45 x46 x47 x48 x49 x50 x51
  | 0, _, _, _, _, _, _, _, _, _, _, _, _, _, _, _, _, _, _, _, _, _, _, _, _, _, _, _, _, _, _, _, _, _, _, _, _, _, _, _, _, _, _, _, _, _, _, _, _, _, _, _, _ => rfl
  | n + 1, x0, x1, x2, x3, x4, x5, x6, x7, x8, x9, x10, x11, x12, x13, x14, x15, x16, x17, x18, x19, x20, x21, x22, x23, x24, x25, x26, x27, x28, x29, x30, x31, x32, x33, x34, x35, x36, x37, x38, x39, x40, x41, x42, x43, x44, x45, x46, x47, x48, x49, x50, x51 => by
    have h0 : ∀ (ok_o : Nat → Int → Int → Bool) (o_o_0 : Nat → Int → Int → Int) (ok_z : Nat → Int → Int → Bool) (o_z_0 o_z_1 o_z_2 o_z_3 o_z_4 o_z_5 o_z_6 o_z_7 o_z_8 o_z_9 : Nat → Int → Int → Int) (ok_ib : Y45) (o_ib_0 o_ib_1 o_ib_2 o_ib_3 o_ib_4 o_ib_5 o_ib_6 o_ib_7 o_ib_8 : Y46) (o_ib_9 : Y45) (ok_ba : Y43) (o_ba_0 o_ba_1 o_ba_2 o_ba_3 o_ba_4 o_ba_5 o_ba_6 o_ba_7 o_ba_8 : Y44) (o_ba_9 : Y43) (L_ra_0 : Nat → (Y47) → Y48), iterC (codeL PP (words [(42, z_o ok_o o_o_0 F), (43, z_z ok_z o_z_0 o_z_1 o_z_2 o_z_3 o_z_4 o_z_5 o_z_6 o_z_7 o_z_8 o_z_9 F), (44, z_ib ok_ib o_ib_0 o_ib_1 o_ib_2 o_ib_3 o_ib_4 o_ib_5 o_ib_6 o_ib_7 o_ib_8 o_ib_9 F), (45, z_ba ok_ba o_ba_0 o_ba_1 o_ba_2 o_ba_3 o_ba_4 o_ba_5 o_ba_6 o_ba_7 o_ba_8 o_ba_9 F)]) c_ra (tabI c_ra (w_ra L_ra_0 F)) (tabJ []) (loopAt PP 26 0) 0) (headOf c_ra 0) k (n + 1) (fS T_ra_0 (C14 x0 x1 x2 x3 x4 x5 x6 x7 x8 x9 x10 x11 x12 x13 (.b x14 :: (.b x15 :: (C36 x16 x17 x18 x19 x20 x21 x22 x23 x24 x25 x26 x27 x28 x29 x30 x31 x32 x33 x34 x35 x36 x37 x38 x39 x40 x41 x42 x43 x44 x45 x46 x47 x48 x49 x50 x51 []))))) = (Bg_ra_0 ok_o o_o_0 ok_z o_z_0 o_z_1 o_z_2 o_z_3 o_z_4 o_z_5 o_z_6 o_z_7 o_z_8 ok_ib o_ib_0 o_ib_1 o_ib_2 o_ib_3 o_ib_4 o_ib_5 o_ib_6 o_ib_7 o_ib_8 o_ib_9 F) (fun (y0 y1 y2 y3 y4 y5 y6 y7 y8 y9 y10 y11 y12 y13 : Int) (y14 y15 : Bool) (y16 y17 y18 y19 y20 y21 y22 y23 y24 y25 y26 y27 y28 y29 y30 y31 y32 y33 y34 y35 y36 y37 y38 y39 y40 y41 y42 y43 y44 y45 y46 y47 y48 y49 y50 y51 : Int) => iterC (codeL PP (words [(42, z_o ok_o o_o_0 F), (43, z_z ok_z o_z_0 o_z_1 o_z_2 o_z_3 o_z_4 o_z_5 o_z_6 o_z_7 o_z_8 o_z_9 F), (44, z_ib ok_ib o_ib_0 o_ib_1 o_ib_2 o_ib_3 o_ib_4 o_ib_5 o_ib_6 o_ib_7 o_ib_8 o_ib_9 F), (45, z_ba ok_ba o_ba_0 o_ba_1 o_ba_2 o_ba_3 o_ba_4 o_ba_5 o_ba_6 o_ba_7 o_ba_8 o_ba_9 F)]) c_ra (tabI c_ra (w_ra L_ra_0 F)) (tabJ []) (loopAt PP 26 0) 0) (headOf c_ra 0) k n (fS T_ra_0 (C14 y0 y1 y2 y3 y4 y5 y6 y7 y8 y9 y10 y11 y12 y13 (.b y14 :: (.b y15 :: (C36 y16 y17 y18 y19 y20 y21 y22 y23 y24 y25 y26 y27 y28 y29 y30 y31 y32 y33 y34 y35 y36 y37 y38 y39 y40 y41 y42 y43 y44 y45 y46 y47 y48 y49 y50 y51 [])))))) (K_att_Step_0_0e0 k) x0 x1 x2 x3 x4 x5 x6 x7 x8 x9 x10 x11 x12 x13 x14 x15 x16 x17 x18 x19 x20 x21 x22 x23 x24 x25 x26 x27 x28 x29 x30 x31 x32 x33 x34 x35 x36 x37 x38 x39 x40 x41 x42 x43 x44 x45 x46 x47 x48 x49 x50 x51 := by
      intros
      kernel_rfl
    have h : iterC (codeL PP (S_ra F) c_ra (I_ra F) (tabJ []) (loopAt PP 26 0) 0) (headOf c_ra 0) k (n + 1) (fS T_ra_0 (C14 x0 x1 x2 x3 x4 x5 x6 x7 x8 x9 x10 x11 x12 x13 (.b x14 :: (.b x15 :: (C36 x16 x17 x18 x19 x20 x21 x22 x23 x24 x25 x26 x27 x28 x29 x30 x31 x32 x33 x34 x35 x36 x37 x38 x39 x40 x41 x42 x43 x44 x45 x46 x47 x48 x49 x50 x51 []))))) = B_ra_0 F (fun (y0 y1 y2 y3 y4 y5 y6 y7 y8 y9 y10 y11 y12 y13 : Int) (y14 y15 : Bool) (y16 y17 y18 y19 y20 y21 y22 y23 y24 y25 y26 y27 y28 y29 y30 y31 y32 y33 y34 y35 y36 y37 y38 y39 y40 y41 y42 y43 y44 y45 y46 y47 y48 y49 y50 y51 : Int) => iterC (codeL PP (S_ra F) c_ra (I_ra F) (tabJ []) (loopAt PP 26 0) 0) (headOf c_ra 0) k n (fS T_ra_0 (C14 y0 y1 y2 y3 y4 y5 y6 y7 y8 y9 y10 y11 y12 y13 (.b y14 :: (.b y15 :: (C36 y16 y17 y18 y19 y20 y21 y22 y23 y24 y25 y26 y27 y28 y29 y30 y31 y32 y33 y34 y35 y36 y37 y38 y39 y40 y41 y42 y43 y44 y45 y46 y47 y48 y49 y50 y51 [])))))) (K_att_Step_0_0e0 k) x0 x1 x2 x3 x4 x5 x6 x7 x8 x9 x10 x11 x12 x13 x14 x15 x16 x17 x18 x19 x20 x21 x22 x23 x24 x25 x26 x27 x28 x29 x30 x31 x32 x33 x34 x35 x36 x37 x38 x39 x40 x41 x42 x43 x44 x45 x46 x47 x48 x49 x50 x51 := (h0 ok_o o_o_0 ok_z o_z_0 o_z_1 o_z_2 o_z_3 o_z_4 o_z_5 o_z_6 o_z_7 o_z_8 o_z_9 ok_ib o_ib_0 o_ib_1 o_ib_2 o_ib_3 o_ib_4 o_ib_5 o_ib_6 o_ib_7 o_ib_8 o_ib_9 ok_ba o_ba_0 o_ba_1 o_ba_2 o_ba_3 o_ba_4 o_ba_5 o_ba_6 o_ba_7 o_ba_8 o_ba_9 L_ra_0).trans (by kernel_rfl)
    rw [h]
    simp only [lL_ra_0 F k n]
    rfl
def fg_ra (ok_ba : Y43) (o_ba_0 o_ba_1 o_ba_2 o_ba_3 o_ba_4 o_ba_5 o_ba_6 o_ba_7 o_ba_8 : Y44) (L_ra_0 : Nat → (Y47) → Y48) (F : Nat) (a0 a1 a2 a3 a4 a5 a6 a7 a8 a9 a10 a11 a12 a13 : Int) : R :=
 L_ra_0 F (fun (v0 v1 v2 v3 v4 v5 v6 v7 v8 v9 v10 v11 v12 v13 : Int) (v14 v15 : Bool) (v16 v17 v18 v19 v20 v21 v22 v23 v24 v25 v26 v27 v28 v29 v30 v31 v32 v33 v34 v35 v36 v37 v38 v39 v40 v41 v42 v43 v44 v45 v46 v47 v48 v49 v50 v51 : Int) =>
 bif ((decide (v29 ≥ 15))) then (
 bif (ok_ba F v43 v44 v45 v46 v47 v48 v49 v50 v51) then (
 some (.v (.tuple #[.agg #[.int .i64 ((o_ba_0 F v43 v44 v45 v46 v47 v48 v49 v50 v51)), .int .i64 ((o_ba_1 F v43 v44 v45 v46 v47 v48 v49 v50 v51)), .int .i64 ((o_ba_2 F v43 v44 v45 v46 v47 v48 v49 v50 v51)), .int .i64 ((o_ba_3 F v43 v44 v45 v46 v47 v48 v49 v50 v51)), .int .i64 ((o_ba_4 F v43 v44 v45 v46 v47 v48 v49 v50 v51)), .int .i64 ((o_ba_5 F v43 v44 v45 v46 v47 v48 v49 v50 v51)), .int .i64 ((o_ba_6 F v43 v44 v45 v46 v47 v48 v49 v50 v51)), .int .i64 ((o_ba_7 F v43 v44 v45 v46 v47 v48 v49 v50 v51)), .int .i64 ((o_ba_8 F v43 v44 v45 v46 v47 v48 v49 v50 v51)), .int .i64 0], .bool v15]))) else none)
 else (
 some (.v (.tuple #[.agg #[.int .i64 v43, .int .i64 v44, .int .i64 v45, .int .i64 v46, .int .i64 v47, .int .i64 v48, .int .i64 v49, .int .i64 v50, .int .i64 v51, .int .i64 ((IntKind.wrap .i64 (v29 + 1)))], .bool v15])))) F a0 a1 a2 a3 a4 a5 a6 a7 a8 a9 a10 a11 a12 a13 false false a10 a11 a12 0 a0 a1 a2 a3 a4 a5 a6 a7 a8 a9 a10 a11 a12 0 0 0 0 0 0 0 0 0 0 a0 a1 a2 a3 a4 a5 a6 a7 a8
def f_ra (F : Nat) (a0 a1 a2 a3 a4 a5 a6 a7 a8 a9 a10 a11 a12 a13 : Int) : R := fg_ra ok_ba o_ba_0 o_ba_1 o_ba_2 o_ba_3 o_ba_4 o_ba_5 o_ba_6 o_ba_7 o_ba_8 L_ra_0 F a0 a1 a2 a3 a4 a5 a6 a7 a8 a9 a10 a11 a12 a13
theorem e_ra (F : Nat) (a0 a1 a2 a3 a4 a5 a6 a7 a8 a9 a10 a11 a12 a13 : Int) : funL PP (S_ra F) c_ra (I_ra F) (tabJ []) 26 (fTs ti_ra (C14 a0 a1 a2 a3 a4 a5 a6 a7 a8 a9 a10 a11 a12 a13 [])).1 = f_ra F a0 a1 a2 a3 a4 a5 a6 a7 a8 a9 a10 a11 a12 a13 := by
  have h : ∀ (ok_o : Nat → Int → Int → Bool) (o_o_0 : Nat → Int → Int → Int) (ok_z : Nat → Int → Int → Bool) (o_z_0 o_z_1 o_z_2 o_z_3 o_z_4 o_z_5 o_z_6 o_z_7 o_z_8 o_z_9 : Nat → Int → Int → Int) (ok_ib : Y45) (o_ib_0 o_ib_1 o_ib_2 o_ib_3 o_ib_4 o_ib_5 o_ib_6 o_ib_7 o_ib_8 : Y46) (o_ib_9 : Y45) (ok_ba : Y43) (o_ba_0 o_ba_1 o_ba_2 o_ba_3 o_ba_4 o_ba_5 o_ba_6 o_ba_7 o_ba_8 : Y44) (o_ba_9 : Y43) (L_ra_0 : Nat → (Y47) → Y48), funL PP (words [(42, z_o ok_o o_o_0 F), (43, z_z ok_z o_z_0 o_z_1 o_z_2 o_z_3 o_z_4 o_z_5 o_z_6 o_z_7 o_z_8 o_z_9 F), (44, z_ib ok_ib o_ib_0 o_ib_1 o_ib_2 o_ib_3 o_ib_4 o_ib_5 o_ib_6 o_ib_7 o_ib_8 o_ib_9 F), (45, z_ba ok_ba o_ba_0 o_ba_1 o_ba_2 o_ba_3 o_ba_4 o_ba_5 o_ba_6 o_ba_7 o_ba_8 o_ba_9 F)]) c_ra (tabI c_ra (w_ra L_ra_0 F)) (tabJ []) 26 (fTs ti_ra (C14 a0 a1 a2 a3 a4 a5 a6 a7 a8 a9 a10 a11 a12 a13 [])).1 = fg_ra ok_ba o_ba_0 o_ba_1 o_ba_2 o_ba_3 o_ba_4 o_ba_5 o_ba_6 o_ba_7 o_ba_8 L_ra_0 F a0 a1 a2 a3 a4 a5 a6 a7 a8 a9 a10 a11 a12 a13 := by
    intros
    kernel_rfl
  exact (h ok_o o_o_0 ok_z o_z_0 o_z_1 o_z_2 o_z_3 o_z_4 o_z_5 o_z_6 o_z_7 o_z_8 o_z_9 ok_ib o_ib_0 o_ib_1 o_ib_2 o_ib_3 o_ib_4 o_ib_5 o_ib_6 o_ib_7 o_ib_8 o_ib_9 ok_ba o_ba_0 o_ba_1 o_ba_2 o_ba_3 o_ba_4 o_ba_5 o_ba_6 o_ba_7 o_ba_8 o_ba_9 L_ra_0).trans (by kernel_rfl)
def ok_ra (F : Nat) (a0 a1 a2 a3 a4 a5 a6 a7 a8 a9 a10 a11 a12 a13 : Int) : Bool := okT to_ra (f_ra F a0 a1 a2 a3 a4 a5 a6 a7 a8 a9 a10 a11 a12 a13)
def o_ra_0 (F : Nat) (a0 a1 a2 a3 a4 a5 a6 a7 a8 a9 a10 a11 a12 a13 : Int) : Int := atI (nth (outT to_ra (f_ra F a0 a1 a2 a3 a4 a5 a6 a7 a8 a9 a10 a11 a12 a13)) 0)
def o_ra_1 (F : Nat) (a0 a1 a2 a3 a4 a5 a6 a7 a8 a9 a10 a11 a12 a13 : Int) : Int := atI (nth (outT to_ra (f_ra F a0 a1 a2 a3 a4 a5 a6 a7 a8 a9 a10 a11 a12 a13)) 1)
def o_ra_2 (F : Nat) (a0 a1 a2 a3 a4 a5 a6 a7 a8 a9 a10 a11 a12 a13 : Int) : Int := atI (nth (outT to_ra (f_ra F a0 a1 a2 a3 a4 a5 a6 a7 a8 a9 a10 a11 a12 a13)) 2)
def o_ra_3 (F : Nat) (a0 a1 a2 a3 a4 a5 a6 a7 a8 a9 a10 a11 a12 a13 : Int) : Int := atI (nth (outT to_ra (f_ra F a0 a1 a2 a3 a4 a5 a6 a7 a8 a9 a10 a11 a12 a13)) 3)
def o_ra_4 (F : Nat) (a0 a1 a2 a3 a4 a5 a6 a7 a8 a9 a10 a11 a12 a13 : Int) : Int := atI (nth (outT to_ra (f_ra F a0 a1 a2 a3 a4 a5 a6 a7 a8 a9 a10 a11 a12 a13)) 4)
def o_ra_5 (F : Nat) (a0 a1 a2 a3 a4 a5 a6 a7 a8 a9 a10 a11 a12 a13 : Int) : Int := atI (nth (outT to_ra (f_ra F a0 a1 a2 a3 a4 a5 a6 a7 a8 a9 a10 a11 a12 a13)) 5)
def o_ra_6 (F : Nat) (a0 a1 a2 a3 a4 a5 a6 a7 a8 a9 a10 a11 a12 a13 : Int) : Int := atI (nth (outT to_ra (f_ra F a0 a1 a2 a3 a4 a5 a6 a7 a8 a9 a10 a11 a12 a13)) 6)
def o_ra_7 (F : Nat) (a0 a1 a2 a3 a4 a5 a6 a7 a8 a9 a10 a11 a12 a13 : Int) : Int := atI (nth (outT to_ra (f_ra F a0 a1 a2 a3 a4 a5 a6 a7 a8 a9 a10 a11 a12 a13)) 7)
def o_ra_8 (F : Nat) (a0 a1 a2 a3 a4 a5 a6 a7 a8 a9 a10 a11 a12 a13 : Int) : Int := atI (nth (outT to_ra (f_ra F a0 a1 a2 a3 a4 a5 a6 a7 a8 a9 a10 a11 a12 a13)) 8)
def o_ra_9 (F : Nat) (a0 a1 a2 a3 a4 a5 a6 a7 a8 a9 a10 a11 a12 a13 : Int) : Int := atI (nth (outT to_ra (f_ra F a0 a1 a2 a3 a4 a5 a6 a7 a8 a9 a10 a11 a12 a13)) 9)
def o_ra_10 (F : Nat) (a0 a1 a2 a3 a4 a5 a6 a7 a8 a9 a10 a11 a12 a13 : Int) : Bool := atB (nth (outT to_ra (f_ra F a0 a1 a2 a3 a4 a5 a6 a7 a8 a9 a10 a11 a12 a13)) 10)
theorem k_ra (F : Nat) (a0 a1 a2 a3 a4 a5 a6 a7 a8 a9 a10 a11 a12 a13 : Int) {z0 : Int} {z1 : Int} {z2 : Int} {z3 : Int} {z4 : Int} {z5 : Int} {z6 : Int} {z7 : Int} {z8 : Int} {z9 : Int} {z10 : Bool} (h : f_ra F a0 a1 a2 a3 a4 a5 a6 a7 a8 a9 a10 a11 a12 a13 = some (.v (.tuple #[.agg #[.int .i64 z0, .int .i64 z1, .int .i64 z2, .int .i64 z3, .int .i64 z4, .int .i64 z5, .int .i64 z6, .int .i64 z7, .int .i64 z8, .int .i64 z9], .bool z10]))) : ok_ra F a0 a1 a2 a3 a4 a5 a6 a7 a8 a9 a10 a11 a12 a13 = true ∧ o_ra_0 F a0 a1 a2 a3 a4 a5 a6 a7 a8 a9 a10 a11 a12 a13 = z0 ∧ o_ra_1 F a0 a1 a2 a3 a4 a5 a6 a7 a8 a9 a10 a11 a12 a13 = z1 ∧ o_ra_2 F a0 a1 a2 a3 a4 a5 a6 a7 a8 a9 a10 a11 a12 a13 = z2 ∧ o_ra_3 F a0 a1 a2 a3 a4 a5 a6 a7 a8 a9 a10 a11 a12 a13 = z3 ∧ o_ra_4 F a0 a1 a2 a3 a4 a5 a6 a7 a8 a9 a10 a11 a12 a13 = z4 ∧ o_ra_5 F a0 a1 a2 a3 a4 a5 a6 a7 a8 a9 a10 a11 a12 a13 = z5 ∧ o_ra_6 F a0 a1 a2 a3 a4 a5 a6 a7 a8 a9 a10 a11 a12 a13 = z6 ∧ o_ra_7 F a0 a1 a2 a3 a4 a5 a6 a7 a8 a9 a10 a11 a12 a13 = z7 ∧ o_ra_8 F a0 a1 a2 a3 a4 a5 a6 a7 a8 a9 a10 a11 a12 a13 = z8 ∧ o_ra_9 F a0 a1 a2 a3 a4 a5 a6 a7 a8 a9 a10 a11 a12 a13 = z9 ∧ o_ra_10 F a0 a1 a2 a3 a4 a5 a6 a7 a8 a9 a10 a11 a12 a13 = z10 := by
  refine ⟨?_, ?_, ?_, ?_, ?_, ?_, ?_, ?_, ?_, ?_, ?_, ?_⟩ <;> (first | unfold ok_ra | unfold o_ra_0 | unfold o_ra_1 | unfold o_ra_2 | unfold o_ra_3 | unfold o_ra_4 | unfold o_ra_5 | unfold o_ra_6 | unfold o_ra_7 | unfold o_ra_8 | unfold o_ra_9 | unfold o_ra_10) <;> rw [h] <;> kernel_rfl
def s_ra (F : Nat) : List VV → Option (Bool × VV) := spec ti_ra to_ra (fun q => (A14 (ok_ra F) q)) (fun q => [.i (A14 (o_ra_0 F) q), .i (A14 (o_ra_1 F) q), .i (A14 (o_ra_2 F) q), .i (A14 (o_ra_3 F) q), .i (A14 (o_ra_4 F) q), .i (A14 (o_ra_5 F) q), .i (A14 (o_ra_6 F) q), .i (A14 (o_ra_7 F) q), .i (A14 (o_ra_8 F) q), .i (A14 (o_ra_9 F) q), .b (A14 (o_ra_10 F) q)])
theorem hS_ra (F : Nat) : ∀ f, Good PP f (unS (S_ra F f)) := words_good (wc (g_o F) (wc (g_z F) (wc (g_ib F) (wc (g_ba F) wn))))
theorem hl_ra (F : Nat) : ∀ p ∈ loopsIn PP 26, LoopOK PP (S_ra F) c_ra F (I_ra F) (tabJ []) p :=
  loops_of [(0, loopAt PP 26 0)] (by kernel_rfl) (all_cons
    (loop_ok (W_ra F) rfl (tab_cons (fun _ k q => Le.ofEq ((lL_ra_0 F k F (iI q 0) (iI q 1) (iI q 2) (iI q 3) (iI q 4) (iI q 5) (iI q 6) (iI q 7) (iI q 8) (iI q 9) (iI q 10) (iI q 11) (iI q 12) (iI q 13) (iB q 14) (iB q 15) (iI q 16) (iI q 17) (iI q 18) (iI q 19) (iI q 20) (iI q 21) (iI q 22) (iI q 23) (iI q 24) (iI q 25) (iI q 26) (iI q 27) (iI q 28) (iI q 29) (iI q 30) (iI q 31) (iI q 32) (iI q 33) (iI q 34) (iI q 35) (iI q 36) (iI q 37) (iI q 38) (iI q 39) (iI q 40) (iI q 41) (iI q 42) (iI q 43) (iI q 44) (iI q 45) (iI q 46) (iI q 47) (iI q 48) (iI q 49) (iI q 50) (iI q 51)).symm.trans (congrArg (iterC (codeL PP (S_ra F) c_ra (I_ra F) (tabJ []) (loopAt PP 26 0) 0) (headOf c_ra 0) k F) (show fS T_ra_0 (A14 C14 q (.b (iB q 14) :: (.b (iB q 15) :: (C36 (iI q 16) (iI q 17) (iI q 18) (iI q 19) (iI q 20) (iI q 21) (iI q 22) (iI q 23) (iI q 24) (iI q 25) (iI q 26) (iI q 27) (iI q 28) (iI q 29) (iI q 30) (iI q 31) (iI q 32) (iI q 33) (iI q 34) (iI q 35) (iI q 36) (iI q 37) (iI q 38) (iI q 39) (iI q 40) (iI q 41) (iI q 42) (iI q 43) (iI q 44) (iI q 45) (iI q 46) (iI q 47) (iI q 48) (iI q 49) (iI q 50) (iI q 51) [])))) = fS T_ra_0 q by kernel_rfl)))) tab_nil)) all_nil)
theorem g_ra (F : Nat) : Good PP 26 (unS (s_ra F)) :=
  fun_spec (hS_ra F) (by kernel_rfl) (by kernel_rfl) (C := c_ra) (F := fun q => (A14 (f_ra F) q)) (fun _ => F) (fun _ => I_ra F) (fun _ => tabJ []) (fun _ => hl_ra F) (fun _ => joins_of [] (by kernel_rfl) all_nil)
    (fun q => (congrArg (funL PP (S_ra F) c_ra (I_ra F) (tabJ []) 26) (show (fTs ti_ra q).1 = (fTs ti_ra (A14 C14 q [])).1 by kernel_rfl)).trans (e_ra F _ _ _ _ _ _ _ _ _ _ _ _ _ _))
    (fun _ h => okT_fill' h (by kernel_rfl))

end Go.Xv
namespace Go.Xv
def MI (M : Mt) : Prop := I64 M.a0 ∧ I64 M.a1 ∧ I64 M.a2 ∧ I64 M.a3 ∧ I64 M.a4 ∧ I64 M.a5 ∧ I64 M.a6 ∧ I64 M.a7 ∧ I64 M.a8
theorem mi_mul (A B : Mt) : MI (mulM A B) := ⟨clipV_I _, clipV_I _, clipV_I _, clipV_I _, clipV_I _, clipV_I _, clipV_I _, clipV_I _, clipV_I _⟩
theorem mi_ab (k : Nat) (x : Int) : MI (abM k x) := by
  obtain ⟨⟨c1, c2⟩, s1, s2⟩ := both_bd x
  have z : I64 0 := by unfold I64; omega
  have n : I64 4294967296 := by unfold I64; omega
  have c : I64 (bothC x) := by unfold I64; omega
  have s : I64 (bothS x) := by unfold I64; omega
  have ns : I64 (-bothS x) := by unfold I64; omega
  match k with
  | 0 => exact ⟨n, z, z, z, c, ns, z, s, c⟩
  | 1 => exact ⟨c, z, s, z, n, z, ns, z, c⟩
  | _ + 2 => exact ⟨c, ns, z, s, c, z, z, z, n⟩
theorem mi_go {M : Mt} (h : MI M) (k : Nat) (b : Int) : MI (goM M k b) := by
  unfold goM
  split
  · exact h
  · exact mi_mul _ _

theorem m_About0 (F : Nat) (hF : 200 ≤ F) {x : Int} (hx : U32 x) : ok_z F 0 x = true ∧ o_z_0 F 0 x = (abM 0 x).a0 ∧ o_z_1 F 0 x = (abM 0 x).a1 ∧ o_z_2 F 0 x = (abM 0 x).a2 ∧ o_z_3 F 0 x = (abM 0 x).a3 ∧ o_z_4 F 0 x = (abM 0 x).a4 ∧ o_z_5 F 0 x = (abM 0 x).a5 ∧ o_z_6 F 0 x = (abM 0 x).a6 ∧ o_z_7 F 0 x = (abM 0 x).a7 ∧ o_z_8 F 0 x = (abM 0 x).a8 := by
  obtain ⟨h, h0, h1, h2, h3, h4, h5, h6, h7, h8, _⟩ := a_mAbout0 F hF hx
  exact ⟨h, h0, h1, h2, h3, h4, h5, h6, h7, h8⟩
theorem m_About1 (F : Nat) (hF : 200 ≤ F) {x : Int} (hx : U32 x) : ok_z F 1 x = true ∧ o_z_0 F 1 x = (abM 1 x).a0 ∧ o_z_1 F 1 x = (abM 1 x).a1 ∧ o_z_2 F 1 x = (abM 1 x).a2 ∧ o_z_3 F 1 x = (abM 1 x).a3 ∧ o_z_4 F 1 x = (abM 1 x).a4 ∧ o_z_5 F 1 x = (abM 1 x).a5 ∧ o_z_6 F 1 x = (abM 1 x).a6 ∧ o_z_7 F 1 x = (abM 1 x).a7 ∧ o_z_8 F 1 x = (abM 1 x).a8 := by
  obtain ⟨h, h0, h1, h2, h3, h4, h5, h6, h7, h8, _⟩ := a_mAbout1 F hF hx
  exact ⟨h, h0, h1, h2, h3, h4, h5, h6, h7, h8⟩
theorem m_About2 (F : Nat) (hF : 200 ≤ F) {x : Int} (hx : U32 x) : ok_z F 2 x = true ∧ o_z_0 F 2 x = (abM 2 x).a0 ∧ o_z_1 F 2 x = (abM 2 x).a1 ∧ o_z_2 F 2 x = (abM 2 x).a2 ∧ o_z_3 F 2 x = (abM 2 x).a3 ∧ o_z_4 F 2 x = (abM 2 x).a4 ∧ o_z_5 F 2 x = (abM 2 x).a5 ∧ o_z_6 F 2 x = (abM 2 x).a6 ∧ o_z_7 F 2 x = (abM 2 x).a7 ∧ o_z_8 F 2 x = (abM 2 x).a8 := by
  obtain ⟨h, h0, h1, h2, h3, h4, h5, h6, h7, h8, _⟩ := a_mAbout2 F hF hx
  exact ⟨h, h0, h1, h2, h3, h4, h5, h6, h7, h8⟩
theorem m_Mul (F : Nat) (hF : 200 ≤ F) {A B : Mt} (hA : MI A) (hB : MI B) : ok_ib F A.a0 A.a1 A.a2 A.a3 A.a4 A.a5 A.a6 A.a7 A.a8 B.a0 B.a1 B.a2 B.a3 B.a4 B.a5 B.a6 B.a7 B.a8 = true ∧ o_ib_0 F A.a0 A.a1 A.a2 A.a3 A.a4 A.a5 A.a6 A.a7 A.a8 B.a0 B.a1 B.a2 B.a3 B.a4 B.a5 B.a6 B.a7 B.a8 = (mulM A B).a0 ∧ o_ib_1 F A.a0 A.a1 A.a2 A.a3 A.a4 A.a5 A.a6 A.a7 A.a8 B.a0 B.a1 B.a2 B.a3 B.a4 B.a5 B.a6 B.a7 B.a8 = (mulM A B).a1 ∧ o_ib_2 F A.a0 A.a1 A.a2 A.a3 A.a4 A.a5 A.a6 A.a7 A.a8 B.a0 B.a1 B.a2 B.a3 B.a4 B.a5 B.a6 B.a7 B.a8 = (mulM A B).a2 ∧ o_ib_3 F A.a0 A.a1 A.a2 A.a3 A.a4 A.a5 A.a6 A.a7 A.a8 B.a0 B.a1 B.a2 B.a3 B.a4 B.a5 B.a6 B.a7 B.a8 = (mulM A B).a3 ∧ o_ib_4 F A.a0 A.a1 A.a2 A.a3 A.a4 A.a5 A.a6 A.a7 A.a8 B.a0 B.a1 B.a2 B.a3 B.a4 B.a5 B.a6 B.a7 B.a8 = (mulM A B).a4 ∧ o_ib_5 F A.a0 A.a1 A.a2 A.a3 A.a4 A.a5 A.a6 A.a7 A.a8 B.a0 B.a1 B.a2 B.a3 B.a4 B.a5 B.a6 B.a7 B.a8 = (mulM A B).a5 ∧ o_ib_6 F A.a0 A.a1 A.a2 A.a3 A.a4 A.a5 A.a6 A.a7 A.a8 B.a0 B.a1 B.a2 B.a3 B.a4 B.a5 B.a6 B.a7 B.a8 = (mulM A B).a6 ∧ o_ib_7 F A.a0 A.a1 A.a2 A.a3 A.a4 A.a5 A.a6 A.a7 A.a8 B.a0 B.a1 B.a2 B.a3 B.a4 B.a5 B.a6 B.a7 B.a8 = (mulM A B).a7 ∧ o_ib_8 F A.a0 A.a1 A.a2 A.a3 A.a4 A.a5 A.a6 A.a7 A.a8 B.a0 B.a1 B.a2 B.a3 B.a4 B.a5 B.a6 B.a7 B.a8 = (mulM A B).a8 ∧ o_ib_9 F A.a0 A.a1 A.a2 A.a3 A.a4 A.a5 A.a6 A.a7 A.a8 B.a0 B.a1 B.a2 B.a3 B.a4 B.a5 B.a6 B.a7 B.a8 = mulK A B := by
  obtain ⟨x0, x1, x2, x3, x4, x5, x6, x7, x8⟩ := hA
  obtain ⟨y0, y1, y2, y3, y4, y5, y6, y7, y8⟩ := hB
  exact a_mMul F hF x0 x1 x2 x3 x4 x5 x6 x7 x8 y0 y1 y2 y3 y4 y5 y6 y7 y8
theorem m_Ortho (F : Nat) (hF : 200 ≤ F) {A : Mt} (hA : MI A) : ok_ba F A.a0 A.a1 A.a2 A.a3 A.a4 A.a5 A.a6 A.a7 A.a8 = true ∧ o_ba_0 F A.a0 A.a1 A.a2 A.a3 A.a4 A.a5 A.a6 A.a7 A.a8 = (upM A).a0 ∧ o_ba_1 F A.a0 A.a1 A.a2 A.a3 A.a4 A.a5 A.a6 A.a7 A.a8 = (upM A).a1 ∧ o_ba_2 F A.a0 A.a1 A.a2 A.a3 A.a4 A.a5 A.a6 A.a7 A.a8 = (upM A).a2 ∧ o_ba_3 F A.a0 A.a1 A.a2 A.a3 A.a4 A.a5 A.a6 A.a7 A.a8 = (upM A).a3 ∧ o_ba_4 F A.a0 A.a1 A.a2 A.a3 A.a4 A.a5 A.a6 A.a7 A.a8 = (upM A).a4 ∧ o_ba_5 F A.a0 A.a1 A.a2 A.a3 A.a4 A.a5 A.a6 A.a7 A.a8 = (upM A).a5 ∧ o_ba_6 F A.a0 A.a1 A.a2 A.a3 A.a4 A.a5 A.a6 A.a7 A.a8 = (upM A).a6 ∧ o_ba_7 F A.a0 A.a1 A.a2 A.a3 A.a4 A.a5 A.a6 A.a7 A.a8 = (upM A).a7 ∧ o_ba_8 F A.a0 A.a1 A.a2 A.a3 A.a4 A.a5 A.a6 A.a7 A.a8 = (upM A).a8 := by
  obtain ⟨x0, x1, x2, x3, x4, x5, x6, x7, x8⟩ := hA
  obtain ⟨h, h0, h1, h2, h3, h4, h5, h6, h7, h8, _⟩ := a_mat_Ortho F hF x0 x1 x2 x3 x4 x5 x6 x7 x8
  exact ⟨h, h0, h1, h2, h3, h4, h5, h6, h7, h8⟩
def rateV (r : Int) : Int := if (-2147483647) > r then (-2147483647) else r
theorem rate_I {r : Int} (h : I32 r) : I32 (rateV r) := by unfold rateV; unfold I32 at *; split <;> omega
def byV (r t : Int) : Int := turnV (rateV r * tk t)
theorem by_b (r t : Int) : 0 ≤ byV r t ∧ byV r t < 4294967296 := by unfold byV turnV; omega

theorem st_0 (F : Nat) (hF : 200 ≤ F) (ex) (G : Nat) (x0 x1 x2 x3 x4 x5 x6 x7 x8 x9 x10 x11 x12 : Int) (x14 : Bool) (x20 x21 x22 x23 x24 x25 x26 x27 x28 x29 x30 x31 x32 x33 x34 x35 x36 x37 x38 x39 x40 x41 x42 : Int) {t r0 r1 r2 : Int} (hr : I32 r0) (any : Bool) {M : Mt} (hM : MI M) :
    L_ra_0 F ex (G + 1) x0 x1 x2 x3 x4 x5 x6 x7 x8 x9 x10 x11 x12 t x14 any r0 r1 r2 0 x20 x21 x22 x23 x24 x25 x26 x27 x28 x29 x30 x31 x32 x33 x34 x35 x36 x37 x38 x39 x40 x41 x42 M.a0 M.a1 M.a2 M.a3 M.a4 M.a5 M.a6 M.a7 M.a8 = L_ra_0 F ex G x0 x1 x2 x3 x4 x5 x6 x7 x8 x9 x10 x11 x12 t x14 (any || goK M 0 (byV r0 t)) r0 r1 r2 1 x20 x21 x22 x23 x24 x25 x26 x27 x28 x29 x30 x31 x32 x33 x34 x35 x36 x37 x38 x39 x40 x41 x42 (goM M 0 (byV r0 t)).a0 (goM M 0 (byV r0 t)).a1 (goM M 0 (byV r0 t)).a2 (goM M 0 (byV r0 t)).a3 (goM M 0 (byV r0 t)).a4 (goM M 0 (byV r0 t)).a5 (goM M 0 (byV r0 t)).a6 (goM M 0 (byV r0 t)).a7 (goM M 0 (byV r0 t)).a8 := by
  have w : IntKind.wrap .i64 (0 + 1) = 1 := by decide
  obtain ⟨t1, t2⟩ := a_Turn F t (rate_I hr)
  have hb := by_b r0 t
  rw [L_ra_0]
  unfold B_ra_0 Bg_ra_0
  dsimp only
  refine bp rfl (bp rfl ?_)
  rw [show (iv [VV.v (.int .i32 r0), .v (.int .i32 r1), .v (.int .i32 r2)][Int.toNat 0 * 1]?) = r0 from rfl, show (if (-2147483647) > r0 then (-2147483647) else r0) = rateV r0 from rfl, w]
  refine bp t1 ?_
  rw [t2, show turnV (rateV r0 * tk t) = byV r0 t from rfl]
  by_cases h0 : byV r0 t = 0
  · refine bp (by rw [h0]; rfl) ?_
    unfold goM goK
    rw [if_pos h0, if_pos h0, Bool.or_false]
  · obtain ⟨a, a0, a1, a2, a3, a4, a5, a6, a7, a8⟩ := m_About0 F hF (x := byV r0 t) hb
    obtain ⟨m, m0, m1, m2, m3, m4, m5, m6, m7, m8, m9⟩ := m_Mul F hF hM (mi_ab 0 (byV r0 t))
    refine bn (by simpa using h0) (bp a ?_)
    rw [a0, a1, a2, a3, a4, a5, a6, a7, a8]
    refine bp m ?_
    rw [m0, m1, m2, m3, m4, m5, m6, m7, m8, m9]
    unfold goM goK
    rw [if_neg h0, if_neg h0]
    cases any
    · rfl
    · rfl

theorem st_1 (F : Nat) (hF : 200 ≤ F) (ex) (G : Nat) (x0 x1 x2 x3 x4 x5 x6 x7 x8 x9 x10 x11 x12 : Int) (x14 : Bool) (x20 x21 x22 x23 x24 x25 x26 x27 x28 x29 x30 x31 x32 x33 x34 x35 x36 x37 x38 x39 x40 x41 x42 : Int) {t r0 r1 r2 : Int} (hr : I32 r1) (any : Bool) {M : Mt} (hM : MI M) :
    L_ra_0 F ex (G + 1) x0 x1 x2 x3 x4 x5 x6 x7 x8 x9 x10 x11 x12 t x14 any r0 r1 r2 1 x20 x21 x22 x23 x24 x25 x26 x27 x28 x29 x30 x31 x32 x33 x34 x35 x36 x37 x38 x39 x40 x41 x42 M.a0 M.a1 M.a2 M.a3 M.a4 M.a5 M.a6 M.a7 M.a8 = L_ra_0 F ex G x0 x1 x2 x3 x4 x5 x6 x7 x8 x9 x10 x11 x12 t x14 (any || goK M 1 (byV r1 t)) r0 r1 r2 2 x20 x21 x22 x23 x24 x25 x26 x27 x28 x29 x30 x31 x32 x33 x34 x35 x36 x37 x38 x39 x40 x41 x42 (goM M 1 (byV r1 t)).a0 (goM M 1 (byV r1 t)).a1 (goM M 1 (byV r1 t)).a2 (goM M 1 (byV r1 t)).a3 (goM M 1 (byV r1 t)).a4 (goM M 1 (byV r1 t)).a5 (goM M 1 (byV r1 t)).a6 (goM M 1 (byV r1 t)).a7 (goM M 1 (byV r1 t)).a8 := by
  have w : IntKind.wrap .i64 (1 + 1) = 2 := by decide
  obtain ⟨t1, t2⟩ := a_Turn F t (rate_I hr)
  have hb := by_b r1 t
  rw [L_ra_0]
  unfold B_ra_0 Bg_ra_0
  dsimp only
  refine bp rfl (bp rfl ?_)
  rw [show (iv [VV.v (.int .i32 r0), .v (.int .i32 r1), .v (.int .i32 r2)][Int.toNat 1 * 1]?) = r1 from rfl, show (if (-2147483647) > r1 then (-2147483647) else r1) = rateV r1 from rfl, w]
  refine bp t1 ?_
  rw [t2, show turnV (rateV r1 * tk t) = byV r1 t from rfl]
  by_cases h0 : byV r1 t = 0
  · refine bp (by rw [h0]; rfl) ?_
    unfold goM goK
    rw [if_pos h0, if_pos h0, Bool.or_false]
  · obtain ⟨a, a0, a1, a2, a3, a4, a5, a6, a7, a8⟩ := m_About1 F hF (x := byV r1 t) hb
    obtain ⟨m, m0, m1, m2, m3, m4, m5, m6, m7, m8, m9⟩ := m_Mul F hF hM (mi_ab 1 (byV r1 t))
    refine bn (by simpa using h0) (bp a ?_)
    rw [a0, a1, a2, a3, a4, a5, a6, a7, a8]
    refine bp m ?_
    rw [m0, m1, m2, m3, m4, m5, m6, m7, m8, m9]
    unfold goM goK
    rw [if_neg h0, if_neg h0]
    cases any
    · rfl
    · rfl

theorem st_2 (F : Nat) (hF : 200 ≤ F) (ex) (G : Nat) (x0 x1 x2 x3 x4 x5 x6 x7 x8 x9 x10 x11 x12 : Int) (x14 : Bool) (x20 x21 x22 x23 x24 x25 x26 x27 x28 x29 x30 x31 x32 x33 x34 x35 x36 x37 x38 x39 x40 x41 x42 : Int) {t r0 r1 r2 : Int} (hr : I32 r2) (any : Bool) {M : Mt} (hM : MI M) :
    L_ra_0 F ex (G + 1) x0 x1 x2 x3 x4 x5 x6 x7 x8 x9 x10 x11 x12 t x14 any r0 r1 r2 2 x20 x21 x22 x23 x24 x25 x26 x27 x28 x29 x30 x31 x32 x33 x34 x35 x36 x37 x38 x39 x40 x41 x42 M.a0 M.a1 M.a2 M.a3 M.a4 M.a5 M.a6 M.a7 M.a8 = L_ra_0 F ex G x0 x1 x2 x3 x4 x5 x6 x7 x8 x9 x10 x11 x12 t x14 (any || goK M 2 (byV r2 t)) r0 r1 r2 3 x20 x21 x22 x23 x24 x25 x26 x27 x28 x29 x30 x31 x32 x33 x34 x35 x36 x37 x38 x39 x40 x41 x42 (goM M 2 (byV r2 t)).a0 (goM M 2 (byV r2 t)).a1 (goM M 2 (byV r2 t)).a2 (goM M 2 (byV r2 t)).a3 (goM M 2 (byV r2 t)).a4 (goM M 2 (byV r2 t)).a5 (goM M 2 (byV r2 t)).a6 (goM M 2 (byV r2 t)).a7 (goM M 2 (byV r2 t)).a8 := by
  have w : IntKind.wrap .i64 (2 + 1) = 3 := by decide
  obtain ⟨t1, t2⟩ := a_Turn F t (rate_I hr)
  have hb := by_b r2 t
  rw [L_ra_0]
  unfold B_ra_0 Bg_ra_0
  dsimp only
  refine bp rfl (bp rfl ?_)
  rw [show (iv [VV.v (.int .i32 r0), .v (.int .i32 r1), .v (.int .i32 r2)][Int.toNat 2 * 1]?) = r2 from rfl, show (if (-2147483647) > r2 then (-2147483647) else r2) = rateV r2 from rfl, w]
  refine bp t1 ?_
  rw [t2, show turnV (rateV r2 * tk t) = byV r2 t from rfl]
  by_cases h0 : byV r2 t = 0
  · refine bp (by rw [h0]; rfl) ?_
    unfold goM goK
    rw [if_pos h0, if_pos h0, Bool.or_false]
  · obtain ⟨a, a0, a1, a2, a3, a4, a5, a6, a7, a8⟩ := m_About2 F hF (x := byV r2 t) hb
    obtain ⟨m, m0, m1, m2, m3, m4, m5, m6, m7, m8, m9⟩ := m_Mul F hF hM (mi_ab 2 (byV r2 t))
    refine bn (by simpa using h0) (bp a ?_)
    rw [a0, a1, a2, a3, a4, a5, a6, a7, a8]
    refine bp m ?_
    rw [m0, m1, m2, m3, m4, m5, m6, m7, m8, m9]
    unfold goM goK
    rw [if_neg h0, if_neg h0]
    cases any
    · rfl
    · rfl

theorem f_Step (F : Nat) (hF : 200 ≤ F) {a : Att} (hM : MI a.m) (hn : a.n < 9223372036854775807 ∧ -9223372036854775808 ≤ a.n) {r0 r1 r2 t : Int} (h0 : I32 r0) (h1 : I32 r1) (h2 : I32 r2) :
    f_ra F a.m.a0 a.m.a1 a.m.a2 a.m.a3 a.m.a4 a.m.a5 a.m.a6 a.m.a7 a.m.a8 a.n r0 r1 r2 t = some (.v (.tuple #[.agg #[.int .i64 (stepA a (byV r0 t) (byV r1 t) (byV r2 t)).m.a0, .int .i64 (stepA a (byV r0 t) (byV r1 t) (byV r2 t)).m.a1, .int .i64 (stepA a (byV r0 t) (byV r1 t) (byV r2 t)).m.a2, .int .i64 (stepA a (byV r0 t) (byV r1 t) (byV r2 t)).m.a3, .int .i64 (stepA a (byV r0 t) (byV r1 t) (byV r2 t)).m.a4, .int .i64 (stepA a (byV r0 t) (byV r1 t) (byV r2 t)).m.a5, .int .i64 (stepA a (byV r0 t) (byV r1 t) (byV r2 t)).m.a6, .int .i64 (stepA a (byV r0 t) (byV r1 t) (byV r2 t)).m.a7, .int .i64 (stepA a (byV r0 t) (byV r1 t) (byV r2 t)).m.a8, .int .i64 (stepA a (byV r0 t) (byV r1 t) (byV r2 t)).n], .bool (go3K a.m (byV r0 t) (byV r1 t) (byV r2 t))])) := by
  obtain ⟨G, hG⟩ : ∃ G, F = G + 4 := ⟨F - 4, by omega⟩
  have g0 := mi_go hM 0 (byV r0 t)
  have g1 := mi_go g0 1 (byV r1 t)
  have g2 := mi_go g1 2 (byV r2 t)
  unfold f_ra fg_ra
  rw [show L_ra_0 F _ F = L_ra_0 F _ (G + 4) from congrArg (L_ra_0 F _) hG]
  rw [st_0 F hF _ (G + 3) (hr := h0) (any := false) (hM := hM), st_1 F hF _ (G + 2) (hr := h1) (hM := g0), st_2 F hF _ (G + 1) (hr := h2) (hM := g1), L_ra_0]
  unfold B_ra_0 Bg_ra_0
  refine bn rfl ?_
  have ek : (false || goK a.m 0 (byV r0 t) || goK (goM a.m 0 (byV r0 t)) 1 (byV r1 t) || goK (goM (goM a.m 0 (byV r0 t)) 1 (byV r1 t)) 2 (byV r2 t)) = go3K a.m (byV r0 t) (byV r1 t) (byV r2 t) := by rw [Bool.false_or]; rfl
  rw [ek]
  have hg : goM (goM (goM a.m 0 (byV r0 t)) 1 (byV r1 t)) 2 (byV r2 t) = go3 a.m (byV r0 t) (byV r1 t) (byV r2 t) := rfl
  rw [hg] at g2 ⊢
  generalize hK : go3K a.m (byV r0 t) (byV r1 t) (byV r2 t) = K
  unfold stepA
  generalize go3 a.m (byV r0 t) (byV r1 t) (byV r2 t) = B at *
  by_cases hc : 15 ≤ a.n
  · rw [if_pos hc]
    obtain ⟨m, m0, m1, m2, m3, m4, m5, m6, m7, m8⟩ := m_Ortho F hF g2
    refine bp (dt hc) (bp m ?_)
    rw [m0, m1, m2, m3, m4, m5, m6, m7, m8]
  · rw [if_neg hc]
    refine bn (df (by omega)) ?_
    rw [wi64_in (by unfold I64; omega)]

theorem a_Step (F : Nat) (hF : 200 ≤ F) {a : Att} (hM : MI a.m) (hn : a.n < 9223372036854775807 ∧ -9223372036854775808 ≤ a.n) {r0 r1 r2 t : Int} (h0 : I32 r0) (h1 : I32 r1) (h2 : I32 r2) : ok_ra F a.m.a0 a.m.a1 a.m.a2 a.m.a3 a.m.a4 a.m.a5 a.m.a6 a.m.a7 a.m.a8 a.n r0 r1 r2 t = true ∧ o_ra_0 F a.m.a0 a.m.a1 a.m.a2 a.m.a3 a.m.a4 a.m.a5 a.m.a6 a.m.a7 a.m.a8 a.n r0 r1 r2 t = (stepA a (byV r0 t) (byV r1 t) (byV r2 t)).m.a0 ∧ o_ra_1 F a.m.a0 a.m.a1 a.m.a2 a.m.a3 a.m.a4 a.m.a5 a.m.a6 a.m.a7 a.m.a8 a.n r0 r1 r2 t = (stepA a (byV r0 t) (byV r1 t) (byV r2 t)).m.a1 ∧ o_ra_2 F a.m.a0 a.m.a1 a.m.a2 a.m.a3 a.m.a4 a.m.a5 a.m.a6 a.m.a7 a.m.a8 a.n r0 r1 r2 t = (stepA a (byV r0 t) (byV r1 t) (byV r2 t)).m.a2 ∧ o_ra_3 F a.m.a0 a.m.a1 a.m.a2 a.m.a3 a.m.a4 a.m.a5 a.m.a6 a.m.a7 a.m.a8 a.n r0 r1 r2 t = (stepA a (byV r0 t) (byV r1 t) (byV r2 t)).m.a3 ∧ o_ra_4 F a.m.a0 a.m.a1 a.m.a2 a.m.a3 a.m.a4 a.m.a5 a.m.a6 a.m.a7 a.m.a8 a.n r0 r1 r2 t = (stepA a (byV r0 t) (byV r1 t) (byV r2 t)).m.a4 ∧ o_ra_5 F a.m.a0 a.m.a1 a.m.a2 a.m.a3 a.m.a4 a.m.a5 a.m.a6 a.m.a7 a.m.a8 a.n r0 r1 r2 t = (stepA a (byV r0 t) (byV r1 t) (byV r2 t)).m.a5 ∧ o_ra_6 F a.m.a0 a.m.a1 a.m.a2 a.m.a3 a.m.a4 a.m.a5 a.m.a6 a.m.a7 a.m.a8 a.n r0 r1 r2 t = (stepA a (byV r0 t) (byV r1 t) (byV r2 t)).m.a6 ∧ o_ra_7 F a.m.a0 a.m.a1 a.m.a2 a.m.a3 a.m.a4 a.m.a5 a.m.a6 a.m.a7 a.m.a8 a.n r0 r1 r2 t = (stepA a (byV r0 t) (byV r1 t) (byV r2 t)).m.a7 ∧ o_ra_8 F a.m.a0 a.m.a1 a.m.a2 a.m.a3 a.m.a4 a.m.a5 a.m.a6 a.m.a7 a.m.a8 a.n r0 r1 r2 t = (stepA a (byV r0 t) (byV r1 t) (byV r2 t)).m.a8 ∧ o_ra_9 F a.m.a0 a.m.a1 a.m.a2 a.m.a3 a.m.a4 a.m.a5 a.m.a6 a.m.a7 a.m.a8 a.n r0 r1 r2 t = (stepA a (byV r0 t) (byV r1 t) (byV r2 t)).n ∧ o_ra_10 F a.m.a0 a.m.a1 a.m.a2 a.m.a3 a.m.a4 a.m.a5 a.m.a6 a.m.a7 a.m.a8 a.n r0 r1 r2 t = go3K a.m (byV r0 t) (byV r1 t) (byV r2 t) := k_ra F _ _ _ _ _ _ _ _ _ _ _ _ _ _ (f_Step F hF hM hn h0 h1 h2)
theorem a_New (F : Nat) (hF : 200 ≤ F) : ok_cb F = true ∧ o_cb_0 F = newA.m.a0 ∧ o_cb_1 F = newA.m.a1 ∧ o_cb_2 F = newA.m.a2 ∧ o_cb_3 F = newA.m.a3 ∧ o_cb_4 F = newA.m.a4 ∧ o_cb_5 F = newA.m.a5 ∧ o_cb_6 F = newA.m.a6 ∧ o_cb_7 F = newA.m.a7 ∧ o_cb_8 F = newA.m.a8 ∧ o_cb_9 F = newA.n := by
  refine k_cb F ?_
  unfold f_cb fg_cb
  obtain ⟨m, m0, m1, m2, m3, m4, m5, m6, m7, m8⟩ := a_mSame F hF
  refine bp m ?_
  rw [m0, m1, m2, m3, m4, m5, m6, m7, m8]
  rfl
theorem a_aHeading (F : Nat) (hF : 200 ≤ F) {a : Att} (hM : MI a.m) : ok_e F a.m.a0 a.m.a1 a.m.a2 a.m.a3 a.m.a4 a.m.a5 a.m.a6 a.m.a7 a.m.a8 a.n = true ∧ o_e_0 F a.m.a0 a.m.a1 a.m.a2 a.m.a3 a.m.a4 a.m.a5 a.m.a6 a.m.a7 a.m.a8 a.n = angle a.m.a3 a.m.a0 := by
  refine k_e F _ _ _ _ _ _ _ _ _ _ ?_
  unfold f_e fg_e
  obtain ⟨h, k⟩ := a_Heading F hF (a1 := a.m.a1) (a2 := a.m.a2) (a4 := a.m.a4) (a5 := a.m.a5) (a6 := a.m.a6) (a7 := a.m.a7) (a8 := a.m.a8) hM.1 hM.2.2.2.1
  refine bp h ?_
  rw [k]
namespace Cx
end Cx
namespace Cx
end Cx
end Go.Xv
set_option linter.unusedVariables false
namespace Go.Xv
/- 46 _small_Widen -/
def c_h : Cfg := ⟨[0, 2], [], [], []⟩
def ti_h : List TV := [.v (.int .i32)]
def to_h : TV := vI
def S_h (F : Nat) : FuncId → List VV → Option (Bool × VV) := words []
def fg_h (F : Nat) (a0 : Int) : R :=
 some (.v (.int .i64 ((IntKind.wrap .i64 (((IntKind.wrap .i64 a0)) * 65536)))))
def f_h (F : Nat) (a0 : Int) : R := fg_h F a0
theorem e_h (F : Nat) (a0 : Int) : funL PP (S_h F) c_h (tabI c_h []) (tabJ []) 46 (fTs ti_h [.i a0]).1 = f_h F a0 := by
  have h : ∀ (_ : Unit), funL PP (words []) c_h (tabI c_h []) (tabJ []) 46 (fTs ti_h [.i a0]).1 = fg_h F a0 := by
    intros
    kernel_rfl
  exact (h ()).trans (by kernel_rfl)
def ok_h (F : Nat) (a0 : Int) : Bool := okT to_h (f_h F a0)
def o_h_0 (F : Nat) (a0 : Int) : Int := atI (nth (outT to_h (f_h F a0)) 0)
theorem k_h (F : Nat) (a0 : Int) {z0 : Int} (h : f_h F a0 = some (.v (.int .i64 z0))) : ok_h F a0 = true ∧ o_h_0 F a0 = z0 := by
  refine ⟨?_, ?_⟩ <;> (first | unfold ok_h | unfold o_h_0) <;> rw [h] <;> kernel_rfl
def z_h (k : Nat → Int → Bool) (r0 : Nat → Int → Int) (F : Nat) : List VV → Option (Bool × VV) := spec ti_h to_h (fun q => (k F (iI q 0))) (fun q => [.i (r0 F (iI q 0))])
def s_h (F : Nat) : List VV → Option (Bool × VV) := z_h ok_h o_h_0 F
theorem hS_h (F : Nat) : ∀ f, Good PP f (unS (S_h F f)) := words_good fun p hp => by
  cases hp
theorem g_h (F : Nat) : Good PP 46 (unS (s_h F)) :=
  fun_spec (hS_h F) (by kernel_rfl) (by kernel_rfl) (C := c_h) (F := fun q => (f_h F (iI q 0))) (fun _ => F) (fun _ => tabI c_h []) (fun _ => tabJ []) (fun _ => loops_of [] (by kernel_rfl) all_nil) (fun _ => joins_of [] (by kernel_rfl) all_nil)
    (fun q => (congrArg (funL PP (S_h F) c_h (tabI c_h []) (tabJ []) 46) (show (fTs ti_h q).1 = (fTs ti_h [.i (iI q 0)]).1 by kernel_rfl)).trans (e_h F (iI q 0)))
    (fun _ h => okT_fill' h (by kernel_rfl))

end Go.Xv
namespace Go.Xv
def wid (x : Int) : Int := x * 65536
theorem wid_I {x : Int} (h : I32 x) : I64 (wid x) := by unfold wid; unfold I32 at h; unfold I64; omega
theorem a_sWiden (F : Nat) {x : Int} (h : I32 x) : ok_h F x = true ∧ o_h_0 F x = wid x := by
  refine k_h F _ ?_
  unfold f_h fg_h wid
  unfold I32 at h
  rw [wi64_in (x := x) (by unfold I64; omega), wi64_in (by unfold I64; omega)]
end Go.Xv
set_option linter.unusedVariables false
namespace Go.Xv
/- 36 _vec_Add_1 -/
def c_ga : Cfg := ⟨[0, 1, 2, 4, 5], [], [], []⟩
def ti_ga : List TV := [vI, .fpx [vI, vI, vI] (.lit 0), .fpx [vI, vI, vI] (.lit 0)]
def to_ga : TV := .v (.tup [.int .i64, .bool])
def S_ga (F : Nat) : FuncId → List VV → Option (Bool × VV) := words [(20, s_db F)]
def fg_ga (ok_db : Nat → Int → Int → Bool) (o_db_0 : Nat → Int → Int → Int) (o_db_1 : Nat → Int → Int → Bool) (F : Nat) (a0 a1 a2 a3 a4 a5 a6 : Int) : R :=
 bif ((decide (0 ≤ a0)) && (decide (a0 < 3))) then (
 let v0 : Nat := (0 + ((Int.toNat a0) * 1))
 bif ((isI .i64 [.v (.int .i64 a1), .v (.int .i64 a2), .v (.int .i64 a3)][v0]?) && true) then (
 let v1 := iv [.v (.int .i64 a1), .v (.int .i64 a2), .v (.int .i64 a3)][v0]?
 bif ((decide (0 ≤ a0)) && (decide (a0 < 3))) then (
 let v2 : Nat := (0 + ((Int.toNat a0) * 1))
 bif ((isI .i64 [.v (.int .i64 a4), .v (.int .i64 a5), .v (.int .i64 a6)][v2]?) && true) then (
 let v3 := iv [.v (.int .i64 a4), .v (.int .i64 a5), .v (.int .i64 a6)][v2]?
 bif (ok_db F v1 v3) then (
 some (.v (.tuple #[.int .i64 ((o_db_0 F v1 v3)), .bool ((o_db_1 F v1 v3))]))) else none) else none) else none) else none) else none
def f_ga (F : Nat) (a0 a1 a2 a3 a4 a5 a6 : Int) : R := fg_ga ok_db o_db_0 o_db_1 F a0 a1 a2 a3 a4 a5 a6
theorem e_ga (F : Nat) (a0 a1 a2 a3 a4 a5 a6 : Int) : funL PP (S_ga F) c_ga (tabI c_ga []) (tabJ []) 36 (fTs ti_ga (C7 a0 a1 a2 a3 a4 a5 a6 [])).1 = f_ga F a0 a1 a2 a3 a4 a5 a6 := by
  have h : ∀ (ok_db : Nat → Int → Int → Bool) (o_db_0 : Nat → Int → Int → Int) (o_db_1 : Nat → Int → Int → Bool), funL PP (words [(20, spec ti_db to_db (fun q => (ok_db F (iI q 0) (iI q 1))) (fun q => [.i (o_db_0 F (iI q 0) (iI q 1)), .b (o_db_1 F (iI q 0) (iI q 1))]))]) c_ga (tabI c_ga []) (tabJ []) 36 (fTs ti_ga (C7 a0 a1 a2 a3 a4 a5 a6 [])).1 = fg_ga ok_db o_db_0 o_db_1 F a0 a1 a2 a3 a4 a5 a6 := by
    intros
    kernel_rfl
  exact (h ok_db o_db_0 o_db_1).trans (by kernel_rfl)
def ok_ga (F : Nat) (a0 a1 a2 a3 a4 a5 a6 : Int) : Bool := okT to_ga (f_ga F a0 a1 a2 a3 a4 a5 a6)
def o_ga_0 (F : Nat) (a0 a1 a2 a3 a4 a5 a6 : Int) : Int := atI (nth (outT to_ga (f_ga F a0 a1 a2 a3 a4 a5 a6)) 0)
def o_ga_1 (F : Nat) (a0 a1 a2 a3 a4 a5 a6 : Int) : Bool := atB (nth (outT to_ga (f_ga F a0 a1 a2 a3 a4 a5 a6)) 1)
theorem k_ga (F : Nat) (a0 a1 a2 a3 a4 a5 a6 : Int) {z0 : Int} {z1 : Bool} (h : f_ga F a0 a1 a2 a3 a4 a5 a6 = some (.v (.tuple #[.int .i64 z0, .bool z1]))) : ok_ga F a0 a1 a2 a3 a4 a5 a6 = true ∧ o_ga_0 F a0 a1 a2 a3 a4 a5 a6 = z0 ∧ o_ga_1 F a0 a1 a2 a3 a4 a5 a6 = z1 := by
  refine ⟨?_, ?_, ?_⟩ <;> (first | unfold ok_ga | unfold o_ga_0 | unfold o_ga_1) <;> rw [h] <;> kernel_rfl
def z_ga (k : Y14) (r0 : Y15) (r1 : Y14) (F : Nat) : List VV → Option (Bool × VV) := spec ti_ga to_ga (fun q => (A7 (k F) q)) (fun q => [.i (A7 (r0 F) q), .b (A7 (r1 F) q)])
def s_ga (F : Nat) : List VV → Option (Bool × VV) := z_ga ok_ga o_ga_0 o_ga_1 F
theorem hS_ga (F : Nat) : ∀ f, Good PP f (unS (S_ga F f)) := words_good (wc (g_db F) wn)
theorem g_ga (F : Nat) : Good PP 36 (unS (s_ga F)) :=
  fun_spec (hS_ga F) (by kernel_rfl) (by kernel_rfl) (C := c_ga) (F := fun q => (A7 (f_ga F) q)) (fun _ => F) (fun _ => tabI c_ga []) (fun _ => tabJ []) (fun _ => loops_of [] (by kernel_rfl) all_nil) (fun _ => joins_of [] (by kernel_rfl) all_nil)
    (fun q => (congrArg (funL PP (S_ga F) c_ga (tabI c_ga []) (tabJ []) 36) (show (fTs ti_ga q).1 = (fTs ti_ga (A7 C7 q [])).1 by kernel_rfl)).trans (e_ga F _ _ _ _ _ _ _))
    (fun _ h => okT_fill' h (by kernel_rfl))

end Go.Xv
set_option linter.unusedVariables false
namespace Go.Xv
/- 33 _vec_eachv6 -/
def c_w : Cfg := ⟨[0, 2, 3, 4, 5, 6, 7, 8, 9, 10], [(0, [0, 2, 3, 4, 5, 9, 26, 27])], [], []⟩
def ti_w : List TV := [.fn 36 [.fpx [vI, vI, vI] (.lit 0), .fpx [vI, vI, vI] (.lit 0)]]
def to_w : TV := .v (.tup [.agg [.int .i64, .int .i64, .int .i64], .bool])
def S_w (F : Nat) : FuncId → List VV → Option (Bool × VV) := words [(36, s_ga F)]
def T_w_0 : TS := ⟨[(0, .fn 36 [.fpx [vI, vI, vI] (.lit 0), .fpx [vI, vI, vI] (.lit 0)]), (2, .lp 0 (.lit 0)), (3, .v (.bool)), (4, .lp 1 (.lit 0)), (5, .v (.bool)), (9, vI)], [(0, ⟨(.ex [vI, vI, vI]), true⟩), (1, ⟨.hole, true⟩)], 2⟩
def T_w_0_0 : TS := ⟨[(0, .fn 36 [.fpx [vI, vI, vI] (.lit 0), .fpx [vI, vI, vI] (.lit 0)]), (2, .lp 0 (.lit 0)), (3, .v (.bool)), (4, .lp 1 (.lit 0)), (5, .v (.bool)), (9, vI)], [(0, ⟨(.ex [vI, vI, vI]), true⟩), (1, ⟨.hole, true⟩)], 2⟩
def K_vec_eachv6_0_0e0 (k : Exit → VS → R) : Y16 := fun (z0 z1 z2 z3 z4 z5 : Int) (z6 z7 : Bool) (z8 z9 z10 z11 : Int) (z12 : List VV) => k (.exit 0) (fS T_w_0_0 (C6 z0 z1 z2 z3 z4 z5 (.b z6 :: (.b z7 :: (C4 z8 z9 z10 z11 (.c z12 :: []))))))
def Bg_w_0 (ok_ga : Y14) (o_ga_0 : Y15) (o_ga_1 : Y14) (F : Nat) (rc ex0 : Y16) (x0 x1 x2 x3 x4 x5 : Int) (x6 x7 : Bool) (x8 x9 x10 x11 : Int) (x12 : List VV) : R :=
 bif ((decide (x8 < 3))) then (
 bif (ok_ga F x8 x0 x1 x2 x3 x4 x5) then (
 let v0 := o_ga_0 F x8 x0 x1 x2 x3 x4 x5
 bif x7 then (
 bif ((decide (0 ≤ x8)) && (decide (x8 < 3))) then (
 let v1 : Nat := (0 + ((Int.toNat x8) * 1))
 bif (decide ((v1 + 1) ≤ x12.length)) then (
 rc x0 x1 x2 x3 x4 x5 x6 true ((IntKind.wrap .i64 (x8 + 1))) x9 x10 x11 ((x12.take v1 ++ [.v (.int .i64 v0)] ++ x12.drop (v1 + 1)))) else none) else none)
 else (
 bif ((decide (0 ≤ x8)) && (decide (x8 < 3))) then (
 let v2 : Nat := (0 + ((Int.toNat x8) * 1))
 bif (decide ((v2 + 1) ≤ x12.length)) then (
 rc x0 x1 x2 x3 x4 x5 x6 ((o_ga_1 F x8 x0 x1 x2 x3 x4 x5)) ((IntKind.wrap .i64 (x8 + 1))) x9 x10 x11 ((x12.take v2 ++ [.v (.int .i64 v0)] ++ x12.drop (v2 + 1)))) else none) else none)) else none)
 else (
 ex0 x0 x1 x2 x3 x4 x5 x6 x7 x8 x9 x10 x11 x12)
def B_w_0 (F : Nat) (rc ex0 : Y16) (x0 x1 x2 x3 x4 x5 : Int) (x6 x7 : Bool) (x8 x9 x10 x11 : Int) (x12 : List VV) : R := Bg_w_0 ok_ga o_ga_0 o_ga_1 F rc ex0 x0 x1 x2 x3 x4 x5 x6 x7 x8 x9 x10 x11 x12
def L_w_0 (F : Nat) (ex0 : Y16) : Y17
  | 0, _, _, _, _, _, _, _, _, _, _, _, _, _ => none
  | n + 1, x0, x1, x2, x3, x4, x5, x6, x7, x8, x9, x10, x11, x12 => B_w_0 F (L_w_0 F ex0 n) ex0 x0 x1 x2 x3 x4 x5 x6 x7 x8 x9 x10 x11 x12
def w_w (L_w_0 : Nat → (Y16) → Y17) (F : Nat) : List LW := [⟨0, T_w_0, fun k q => L_w_0 F (K_vec_eachv6_0_0e0 k) F (iI q 0) (iI q 1) (iI q 2) (iI q 3) (iI q 4) (iI q 5) (iB q 6) (iB q 7) (iI q 8) (iI q 9) (iI q 10) (iI q 11) (atC (nth q 12))⟩]
def W_w (F : Nat) : List LW := w_w L_w_0 F
def I_w (F : Nat) : Nat → VS → (Exit → VS → R) → R := tabI c_w (W_w F)
theorem lL_w_0 (F : Nat) (k : Exit → VS → R) : ∀ (n : Nat) (x0 x1 x2 x3 x4 x5 : Int) (x6 x7 : Bool) (x8 x9 x10 x11 : Int) (x12 : List VV), iterC (codeL PP (S_w F) c_w (I_w F) (tabJ []) (loopAt PP 33 0) 0) (headOf c_w 0) k n (fS T_w_0 (C6 x0 x1 x2 x3 x4 x5 (.b x6 :: (.b x7 :: (C4 x8 x9 x10 x11 (.c x12 :: [])))))) = L_w_0 F (K_vec_eachv6_0_0e0 k) n x0 x1 x2 x3 x4 x5 x6 x7 x8 x9 x10 x11 x12
  | 0, _, _, _, _, _, _, _, _, _, _, _, _, _ => rfl
  | n + 1, x0, x1, x2, x3, x4, x5, x6, x7, x8, x9, x10, x11, x12 => by
    have h0 : ∀ (ok_ga : Y14) (o_ga_0 : Y15) (o_ga_1 : Y14) (L_w_0 : Nat → (Y16) → Y17), iterC (codeL PP (words [(36, z_ga ok_ga o_ga_0 o_ga_1 F)]) c_w (tabI c_w (w_w L_w_0 F)) (tabJ []) (loopAt PP 33 0) 0) (headOf c_w 0) k (n + 1) (fS T_w_0 (C6 x0 x1 x2 x3 x4 x5 (.b x6 :: (.b x7 :: (C4 x8 x9 x10 x11 (.c x12 :: [])))))) = (Bg_w_0 ok_ga o_ga_0 o_ga_1 F) (fun (y0 y1 y2 y3 y4 y5 : Int) (y6 y7 : Bool) (y8 y9 y10 y11 : Int) (y12 : List VV) => iterC (codeL PP (words [(36, z_ga ok_ga o_ga_0 o_ga_1 F)]) c_w (tabI c_w (w_w L_w_0 F)) (tabJ []) (loopAt PP 33 0) 0) (headOf c_w 0) k n (fS T_w_0 (C6 y0 y1 y2 y3 y4 y5 (.b y6 :: (.b y7 :: (C4 y8 y9 y10 y11 (.c y12 :: []))))))) (K_vec_eachv6_0_0e0 k) x0 x1 x2 x3 x4 x5 x6 x7 x8 x9 x10 x11 x12 := by
      intros
      kernel_rfl
    have h : iterC (codeL PP (S_w F) c_w (I_w F) (tabJ []) (loopAt PP 33 0) 0) (headOf c_w 0) k (n + 1) (fS T_w_0 (C6 x0 x1 x2 x3 x4 x5 (.b x6 :: (.b x7 :: (C4 x8 x9 x10 x11 (.c x12 :: [])))))) = B_w_0 F (fun (y0 y1 y2 y3 y4 y5 : Int) (y6 y7 : Bool) (y8 y9 y10 y11 : Int) (y12 : List VV) => iterC (codeL PP (S_w F) c_w (I_w F) (tabJ []) (loopAt PP 33 0) 0) (headOf c_w 0) k n (fS T_w_0 (C6 y0 y1 y2 y3 y4 y5 (.b y6 :: (.b y7 :: (C4 y8 y9 y10 y11 (.c y12 :: []))))))) (K_vec_eachv6_0_0e0 k) x0 x1 x2 x3 x4 x5 x6 x7 x8 x9 x10 x11 x12 := (h0 ok_ga o_ga_0 o_ga_1 L_w_0).trans (by kernel_rfl)
    rw [h]
    simp only [lL_w_0 F k n]
    rfl
def fg_w (L_w_0 : Nat → (Y16) → Y17) (F : Nat) (a0 a1 a2 a3 a4 a5 : Int) : R :=
 L_w_0 F (fun (v0 v1 v2 v3 v4 v5 : Int) (v6 v7 : Bool) (v8 v9 v10 v11 : Int) (v12 : List VV) =>
 bif ((isI .i64 v12[0]?) && ((isI .i64 v12[1]?) && ((isI .i64 v12[2]?) && true))) then (
 some (.v (.tuple #[.agg #[.int .i64 ((iv v12[0]?)), .int .i64 ((iv v12[1]?)), .int .i64 ((iv v12[2]?))], .bool v7]))) else none) F a0 a1 a2 a3 a4 a5 false false 0 0 0 0 ([.v (.int .i64 0), .v (.int .i64 0), .v (.int .i64 0)])
def f_w (F : Nat) (a0 a1 a2 a3 a4 a5 : Int) : R := fg_w L_w_0 F a0 a1 a2 a3 a4 a5
theorem e_w (F : Nat) (a0 a1 a2 a3 a4 a5 : Int) : funL PP (S_w F) c_w (I_w F) (tabJ []) 33 (fTs ti_w (C6 a0 a1 a2 a3 a4 a5 [])).1 = f_w F a0 a1 a2 a3 a4 a5 := by
  have h : ∀ (ok_ga : Y14) (o_ga_0 : Y15) (o_ga_1 : Y14) (L_w_0 : Nat → (Y16) → Y17), funL PP (words [(36, z_ga ok_ga o_ga_0 o_ga_1 F)]) c_w (tabI c_w (w_w L_w_0 F)) (tabJ []) 33 (fTs ti_w (C6 a0 a1 a2 a3 a4 a5 [])).1 = fg_w L_w_0 F a0 a1 a2 a3 a4 a5 := by
    intros
    kernel_rfl
  exact (h ok_ga o_ga_0 o_ga_1 L_w_0).trans (by kernel_rfl)
def ok_w (F : Nat) (a0 a1 a2 a3 a4 a5 : Int) : Bool := okT to_w (f_w F a0 a1 a2 a3 a4 a5)
def o_w_0 (F : Nat) (a0 a1 a2 a3 a4 a5 : Int) : Int := atI (nth (outT to_w (f_w F a0 a1 a2 a3 a4 a5)) 0)
def o_w_1 (F : Nat) (a0 a1 a2 a3 a4 a5 : Int) : Int := atI (nth (outT to_w (f_w F a0 a1 a2 a3 a4 a5)) 1)
def o_w_2 (F : Nat) (a0 a1 a2 a3 a4 a5 : Int) : Int := atI (nth (outT to_w (f_w F a0 a1 a2 a3 a4 a5)) 2)
def o_w_3 (F : Nat) (a0 a1 a2 a3 a4 a5 : Int) : Bool := atB (nth (outT to_w (f_w F a0 a1 a2 a3 a4 a5)) 3)
theorem k_w (F : Nat) (a0 a1 a2 a3 a4 a5 : Int) {z0 : Int} {z1 : Int} {z2 : Int} {z3 : Bool} (h : f_w F a0 a1 a2 a3 a4 a5 = some (.v (.tuple #[.agg #[.int .i64 z0, .int .i64 z1, .int .i64 z2], .bool z3]))) : ok_w F a0 a1 a2 a3 a4 a5 = true ∧ o_w_0 F a0 a1 a2 a3 a4 a5 = z0 ∧ o_w_1 F a0 a1 a2 a3 a4 a5 = z1 ∧ o_w_2 F a0 a1 a2 a3 a4 a5 = z2 ∧ o_w_3 F a0 a1 a2 a3 a4 a5 = z3 := by
  refine ⟨?_, ?_, ?_, ?_, ?_⟩ <;> (first | unfold ok_w | unfold o_w_0 | unfold o_w_1 | unfold o_w_2 | unfold o_w_3) <;> rw [h] <;> kernel_rfl
def s_w (F : Nat) : List VV → Option (Bool × VV) := spec ti_w to_w (fun q => (A6 (ok_w F) q)) (fun q => [.i (A6 (o_w_0 F) q), .i (A6 (o_w_1 F) q), .i (A6 (o_w_2 F) q), .b (A6 (o_w_3 F) q)])
theorem hS_w (F : Nat) : ∀ f, Good PP f (unS (S_w F f)) := words_good (wc (g_ga F) wn)
theorem hl_w (F : Nat) : ∀ p ∈ loopsIn PP 33, LoopOK PP (S_w F) c_w F (I_w F) (tabJ []) p :=
  loops_of [(0, loopAt PP 33 0)] (by kernel_rfl) (all_cons
    (loop_ok (W_w F) rfl (tab_cons (fun _ k q => Le.ofEq ((lL_w_0 F k F (iI q 0) (iI q 1) (iI q 2) (iI q 3) (iI q 4) (iI q 5) (iB q 6) (iB q 7) (iI q 8) (iI q 9) (iI q 10) (iI q 11) (atC (nth q 12))).symm.trans (congrArg (iterC (codeL PP (S_w F) c_w (I_w F) (tabJ []) (loopAt PP 33 0) 0) (headOf c_w 0) k F) (show fS T_w_0 (A6 C6 q (.b (iB q 6) :: (.b (iB q 7) :: (C4 (iI q 8) (iI q 9) (iI q 10) (iI q 11) (.c (atC (nth q 12)) :: []))))) = fS T_w_0 q by kernel_rfl)))) tab_nil)) all_nil)
theorem g_w (F : Nat) : Good PP 33 (unS (s_w F)) :=
  fun_spec (hS_w F) (by kernel_rfl) (by kernel_rfl) (C := c_w) (F := fun q => (A6 (f_w F) q)) (fun _ => F) (fun _ => I_w F) (fun _ => tabJ []) (fun _ => hl_w F) (fun _ => joins_of [] (by kernel_rfl) all_nil)
    (fun q => (congrArg (funL PP (S_w F) c_w (I_w F) (tabJ []) 33) (show (fTs ti_w q).1 = (fTs ti_w (A6 C6 q [])).1 by kernel_rfl)).trans (e_w F _ _ _ _ _ _))
    (fun _ h => okT_fill' h (by kernel_rfl))

end Go.Xv
set_option linter.unusedVariables false
namespace Go.Xv
/- 19 _vec_Add -/
def c_jb : Cfg := ⟨[0, 1, 2, 3, 4, 5], [], [], []⟩
def ti_jb : List TV := [.v (.agg [.int .i64, .int .i64, .int .i64]), .v (.agg [.int .i64, .int .i64, .int .i64])]
def to_jb : TV := .v (.tup [.agg [.int .i64, .int .i64, .int .i64], .bool])
def S_jb (F : Nat) : FuncId → List VV → Option (Bool × VV) := words [(33, s_w F)]
def fg_jb (ok_w : Y24) (o_w_0 o_w_1 o_w_2 : Y25) (o_w_3 : Y24) (F : Nat) (a0 a1 a2 a3 a4 a5 : Int) : R :=
 bif (ok_w F a0 a1 a2 a3 a4 a5) then (
 some (.v (.tuple #[.agg #[.int .i64 ((o_w_0 F a0 a1 a2 a3 a4 a5)), .int .i64 ((o_w_1 F a0 a1 a2 a3 a4 a5)), .int .i64 ((o_w_2 F a0 a1 a2 a3 a4 a5))], .bool ((o_w_3 F a0 a1 a2 a3 a4 a5))]))) else none
def f_jb (F : Nat) (a0 a1 a2 a3 a4 a5 : Int) : R := fg_jb ok_w o_w_0 o_w_1 o_w_2 o_w_3 F a0 a1 a2 a3 a4 a5
theorem e_jb (F : Nat) (a0 a1 a2 a3 a4 a5 : Int) : funL PP (S_jb F) c_jb (tabI c_jb []) (tabJ []) 19 (fTs ti_jb (C6 a0 a1 a2 a3 a4 a5 [])).1 = f_jb F a0 a1 a2 a3 a4 a5 := by
  have h : ∀ (ok_w : Y24) (o_w_0 o_w_1 o_w_2 : Y25) (o_w_3 : Y24), funL PP (words [(33, spec ti_w to_w (fun q => (A6 (ok_w F) q)) (fun q => [.i (A6 (o_w_0 F) q), .i (A6 (o_w_1 F) q), .i (A6 (o_w_2 F) q), .b (A6 (o_w_3 F) q)]))]) c_jb (tabI c_jb []) (tabJ []) 19 (fTs ti_jb (C6 a0 a1 a2 a3 a4 a5 [])).1 = fg_jb ok_w o_w_0 o_w_1 o_w_2 o_w_3 F a0 a1 a2 a3 a4 a5 := by
    intros
    kernel_rfl
  exact (h ok_w o_w_0 o_w_1 o_w_2 o_w_3).trans (by kernel_rfl)
def ok_jb (F : Nat) (a0 a1 a2 a3 a4 a5 : Int) : Bool := okT to_jb (f_jb F a0 a1 a2 a3 a4 a5)
def o_jb_0 (F : Nat) (a0 a1 a2 a3 a4 a5 : Int) : Int := atI (nth (outT to_jb (f_jb F a0 a1 a2 a3 a4 a5)) 0)
def o_ga (F : Nat) (a0 a1 a2 a3 a4 a5 : Int) : Int := atI (nth (outT to_jb (f_jb F a0 a1 a2 a3 a4 a5)) 1)
def o_jb_2 (F : Nat) (a0 a1 a2 a3 a4 a5 : Int) : Int := atI (nth (outT to_jb (f_jb F a0 a1 a2 a3 a4 a5)) 2)
def o_jb_3 (F : Nat) (a0 a1 a2 a3 a4 a5 : Int) : Bool := atB (nth (outT to_jb (f_jb F a0 a1 a2 a3 a4 a5)) 3)
theorem k_jb (F : Nat) (a0 a1 a2 a3 a4 a5 : Int) {z0 : Int} {z1 : Int} {z2 : Int} {z3 : Bool} (h : f_jb F a0 a1 a2 a3 a4 a5 = some (.v (.tuple #[.agg #[.int .i64 z0, .int .i64 z1, .int .i64 z2], .bool z3]))) : ok_jb F a0 a1 a2 a3 a4 a5 = true ∧ o_jb_0 F a0 a1 a2 a3 a4 a5 = z0 ∧ o_ga F a0 a1 a2 a3 a4 a5 = z1 ∧ o_jb_2 F a0 a1 a2 a3 a4 a5 = z2 ∧ o_jb_3 F a0 a1 a2 a3 a4 a5 = z3 := by
  refine ⟨?_, ?_, ?_, ?_, ?_⟩ <;> (first | unfold ok_jb | unfold o_jb_0 | unfold o_ga | unfold o_jb_2 | unfold o_jb_3) <;> rw [h] <;> kernel_rfl
def s_jb (F : Nat) : List VV → Option (Bool × VV) := spec ti_jb to_jb (fun q => (A6 (ok_jb F) q)) (fun q => [.i (A6 (o_jb_0 F) q), .i (A6 (o_ga F) q), .i (A6 (o_jb_2 F) q), .b (A6 (o_jb_3 F) q)])
theorem hS_jb (F : Nat) : ∀ f, Good PP f (unS (S_jb F f)) := words_good (wc (g_w F) wn)
theorem g_jb (F : Nat) : Good PP 19 (unS (s_jb F)) :=
  fun_spec (hS_jb F) (by kernel_rfl) (by kernel_rfl) (C := c_jb) (F := fun q => (A6 (f_jb F) q)) (fun _ => F) (fun _ => tabI c_jb []) (fun _ => tabJ []) (fun _ => loops_of [] (by kernel_rfl) all_nil) (fun _ => joins_of [] (by kernel_rfl) all_nil)
    (fun q => (congrArg (funL PP (S_jb F) c_jb (tabI c_jb []) (tabJ []) 19) (show (fTs ti_jb q).1 = (fTs ti_jb (A6 C6 q [])).1 by kernel_rfl)).trans (e_jb F _ _ _ _ _ _))
    (fun _ h => okT_fill' h (by kernel_rfl))

end Go.Xv
set_option linter.unusedVariables false
namespace Go.Xv
/- 27 _att_Lift -/
def c_qa : Cfg := ⟨[0, 1, 2, 3, 4, 5, 6, 7, 8, 9, 10, 11], [(0, [0, 1, 2, 3, 4, 5, 6, 9, 10, 19, 20, 21, 22, 23, 24])], [], []⟩
def ti_qa : List TV := [.v (.agg [.int .i64, .int .i64, .int .i64, .int .i64, .int .i64, .int .i64, .int .i64, .int .i64, .int .i64, .int .i64]), .v (.agg [.int .i32, .int .i32, .int .i32])]
def to_qa : TV := .v (.tup [.agg [.int .i64, .int .i64, .int .i64], .bool])
def S_qa (F : Nat) : FuncId → List VV → Option (Bool × VV) := words [(46, s_h F), (47, s_aa F)]
def T_qa_0 : TS := ⟨[(0, .v (.agg [.int .i64, .int .i64, .int .i64, .int .i64, .int .i64, .int .i64, .int .i64, .int .i64, .int .i64, .int .i64])), (1, .v (.agg [.int .i32, .int .i32, .int .i32])), (2, .lp 0 (.lit 0)), (3, .lp 1 (.lit 0)), (4, .lp 2 (.lit 0)), (5, .v (.bool)), (6, .lp 3 (.lit 0)), (9, .v (.agg [.int .i32, .int .i32, .int .i32])), (10, vI)], [(0, ⟨(.ex [vI, vI, vI, vI, vI, vI, vI, vI, vI, vI]), true⟩), (1, ⟨(.ex [.v (.int .i32), .v (.int .i32), .v (.int .i32)]), true⟩), (2, ⟨(.ex [vI, vI, vI]), true⟩), (3, ⟨.hole, true⟩)], 4⟩
def T_qa_0_0 : TS := ⟨[(0, .v (.agg [.int .i64, .int .i64, .int .i64, .int .i64, .int .i64, .int .i64, .int .i64, .int .i64, .int .i64, .int .i64])), (1, .v (.agg [.int .i32, .int .i32, .int .i32])), (2, .lp 0 (.lit 0)), (3, .lp 1 (.lit 0)), (4, .lp 2 (.lit 0)), (5, .v (.bool)), (6, .lp 3 (.lit 0)), (9, .v (.agg [.int .i32, .int .i32, .int .i32])), (10, vI)], [(0, ⟨(.ex [vI, vI, vI, vI, vI, vI, vI, vI, vI, vI]), true⟩), (1, ⟨(.ex [.v (.int .i32), .v (.int .i32), .v (.int .i32)]), true⟩), (2, ⟨(.ex [vI, vI, vI]), true⟩), (3, ⟨.hole, true⟩)], 4⟩
def K_att_Lift_0_0e0 (k : Exit → VS → R) : Y49 := fun (z0 z1 z2 z3 z4 z5 z6 z7 z8 z9 z10 z11 z12 : Int) (z13 : Bool) (z14 z15 z16 z17 z18 z19 z20 z21 z22 z23 z24 z25 z26 z27 z28 z29 z30 z31 z32 z33 : Int) (z34 : List VV) => k (.exit 0) (fS T_qa_0_0 (C13 z0 z1 z2 z3 z4 z5 z6 z7 z8 z9 z10 z11 z12 (.b z13 :: (C20 z14 z15 z16 z17 z18 z19 z20 z21 z22 z23 z24 z25 z26 z27 z28 z29 z30 z31 z32 z33 (.c z34 :: [])))))
def Bg_qa_0 (ok_h : Nat → Int → Bool) (o_h_0 : Nat → Int → Int) (F : Nat) (rc ex0 : Y49) (x0 x1 x2 x3 x4 x5 x6 x7 x8 x9 x10 x11 x12 : Int) (x13 : Bool) (x14 x15 x16 x17 x18 x19 x20 x21 x22 x23 x24 x25 x26 x27 x28 x29 x30 x31 x32 x33 : Int) (x34 : List VV) : R :=
 bif ((decide (x17 < 3))) then (
 bif (((decide (0 ≤ x17)) && (decide (x17 < 3))) && ((isI .i32 [.v (.int .i32 x14), .v (.int .i32 x15), .v (.int .i32 x16)][((Int.toNat x17) * 1)]?) && true)) then (
 let v0 := iv [.v (.int .i32 x14), .v (.int .i32 x15), .v (.int .i32 x16)][((Int.toNat x17) * 1)]?
 bif (ok_h F v0) then (
 bif ((decide (0 ≤ x17)) && (decide (x17 < 3))) then (
 let v1 : Nat := (0 + ((Int.toNat x17) * 1))
 bif (decide ((v1 + 1) ≤ x34.length)) then (
 rc x0 x1 x2 x3 x4 x5 x6 x7 x8 x9 x10 x11 x12 x13 x14 x15 x16 ((IntKind.wrap .i64 (x17 + 1))) x18 x19 x20 x21 x22 x23 x24 x25 x26 x27 x28 x29 x30 x31 x32 x33 ((x34.take v1 ++ [.v (.int .i64 ((o_h_0 F v0)))] ++ x34.drop (v1 + 1)))) else none) else none) else none) else none)
 else (
 ex0 x0 x1 x2 x3 x4 x5 x6 x7 x8 x9 x10 x11 x12 x13 x14 x15 x16 x17 x18 x19 x20 x21 x22 x23 x24 x25 x26 x27 x28 x29 x30 x31 x32 x33 x34)
def B_qa_0 (F : Nat) (rc ex0 : Y49) (x0 x1 x2 x3 x4 x5 x6 x7 x8 x9 x10 x11 x12 : Int) (x13 : Bool) (x14 x15 x16 x17 x18 x19 x20 x21 x22 x23 x24 x25 x26 x27 x28 x29 x30 x31 x32 x33 : Int) (x34 : List VV) : R := Bg_qa_0 ok_h o_h_0 F rc ex0 x0 x1 x2 x3 x4 x5 x6 x7 x8 x9 x10 x11 x12 x13 x14 x15 x16 x17 x18 x19 x20 x21 x22 x23 x24 x25 x26 x27 x28 x29 x30 x31 x32 x33 x34
def L_qa_0 (F : Nat) (ex0 : Y49) : Y50
  | 0, _, _, _, _, _, _, _, _, _, _, _, _, _, _, _, _, _, _, _, _, _, _, _, _, _, _, _, _, _, _, _, _, _, _, _ => none
  | n + 1, x0, x1, x2, x3, x4, x5, x6, x7, x8, x9, x10, x11, x12, x13, x14, x15, x16, x17, x18, x19, x20, x21, x22, x23, x24, x25, x26, x27, x28, x29, x30, x31, x32, x33, x34 => B_qa_0 F (L_qa_0 F ex0 n) ex0 x0 x1 x2 x3 x4 x5 x6 x7 x8 x9 x10 x11 x12 x13 x14 x15 x16 x17 x18 x19 x20 x21 x22 x23 x24 x25 x26 x27 x28 x29 x30 x31 x32 x33 x34
def w_qa (L_qa_0 : Nat → (Y49) → Y50) (F : Nat) : List LW := [⟨0, T_qa_0, fun k q => L_qa_0 F (K_att_Lift_0_0e0 k) F (iI q 0) (iI q 1) (iI q 2) (iI q 3) (iI q 4) (iI q 5) (iI q 6) (iI q 7) (iI q 8) (iI q 9) (iI q 10) (iI q 11) (iI q 12) (iB q 13) (iI q 14) (iI q 15) (iI q 16) (iI q 17) (iI q 18) (iI q 19) (iI q 20) (iI q 21) (iI q 22) (iI q 23) (iI q 24) (iI q 25) (iI q 26) (iI q 27) (iI q 28) (iI q 29) (iI q 30) (iI q 31) (iI q 32) (iI q 33) (atC (nth q 34))⟩]
def W_qa (F : Nat) : List LW := w_qa L_qa_0 F
def I_qa (F : Nat) : Nat → VS → (Exit → VS → R) → R := tabI c_qa (W_qa F)
theorem lL_qa_0 (F : Nat) (k : Exit → VS → R) : ∀ (n : Nat) (x0 x1 x2 x3 x4 x5 x6 x7 x8 x9 x10 x11 x12 : Int) (x13 : Bool) (x14 x15 x16 x17 x18 x19 x20 x21 x22 x23 x24 x25 x26 x27 x28 x29 x30 x31 x32 x33 : Int) (x34 : List VV), iterC (codeL PP (S_qa F) c_qa (I_qa F) (tabJ []) (loopAt PP 27 0) 0) (headOf c_qa 0) k n (fS T_qa_0 (C13 x0 x1 x2 x3 x4 x5 x6 x7 x8 x9 x10 x11 x12 (.b x13 :: (C20 x14 x15 x16 x17 x18 x19 x20 x21 x22 x23 x24 x25 x26 x27 x28 x29 x30 x31 x32 x33 (.c x34 :: []))))) = L_qa_0 F (K_att_Lift_0_0e0 k) n x0 x1 x2 x3 x4 x5 x6 x7 x8 x9 x10 x11 x12 x13 x14 x15 x16 x17 x18 x19 x20 x21 x22 x23 x24 x25 x26 x27 x28 x29 x30 x31 x32 x33 x34
  | 0, _, _, _, _, _, _, _, _, _, _, _, _, _, _, _, _, _, _, _, _, _, _, _, _, _, _, _, _, _, _, _, _, _, _, _ => rfl
  | n + 1, x0, x1, x2, x3, x4, x5, x6, x7, x8, x9, x10, x11, x12, x13, x14, x15, x16, x17, x18, x19, x20, x21, x22, x23, x24, x25, x26, x27, x28, x29, x30, x31, x32, x33, x34 => by
    have h0 : ∀ (ok_h : Nat → Int → Bool) (o_h_0 : Nat → Int → Int) (ok_aa : Y39) (o_aa_0 o_aa_1 o_aa_2 : Y40) (o_aa_3 : Y39) (L_qa_0 : Nat → (Y49) → Y50), iterC (codeL PP (words [(46, z_h ok_h o_h_0 F), (47, z_aa ok_aa o_aa_0 o_aa_1 o_aa_2 o_aa_3 F)]) c_qa (tabI c_qa (w_qa L_qa_0 F)) (tabJ []) (loopAt PP 27 0) 0) (headOf c_qa 0) k (n + 1) (fS T_qa_0 (C13 x0 x1 x2 x3 x4 x5 x6 x7 x8 x9 x10 x11 x12 (.b x13 :: (C20 x14 x15 x16 x17 x18 x19 x20 x21 x22 x23 x24 x25 x26 x27 x28 x29 x30 x31 x32 x33 (.c x34 :: []))))) = (Bg_qa_0 ok_h o_h_0 F) (fun (y0 y1 y2 y3 y4 y5 y6 y7 y8 y9 y10 y11 y12 : Int) (y13 : Bool) (y14 y15 y16 y17 y18 y19 y20 y21 y22 y23 y24 y25 y26 y27 y28 y29 y30 y31 y32 y33 : Int) (y34 : List VV) => iterC (codeL PP (words [(46, z_h ok_h o_h_0 F), (47, z_aa ok_aa o_aa_0 o_aa_1 o_aa_2 o_aa_3 F)]) c_qa (tabI c_qa (w_qa L_qa_0 F)) (tabJ []) (loopAt PP 27 0) 0) (headOf c_qa 0) k n (fS T_qa_0 (C13 y0 y1 y2 y3 y4 y5 y6 y7 y8 y9 y10 y11 y12 (.b y13 :: (C20 y14 y15 y16 y17 y18 y19 y20 y21 y22 y23 y24 y25 y26 y27 y28 y29 y30 y31 y32 y33 (.c y34 :: [])))))) (K_att_Lift_0_0e0 k) x0 x1 x2 x3 x4 x5 x6 x7 x8 x9 x10 x11 x12 x13 x14 x15 x16 x17 x18 x19 x20 x21 x22 x23 x24 x25 x26 x27 x28 x29 x30 x31 x32 x33 x34 := by
      intros
      kernel_rfl
    have h : iterC (codeL PP (S_qa F) c_qa (I_qa F) (tabJ []) (loopAt PP 27 0) 0) (headOf c_qa 0) k (n + 1) (fS T_qa_0 (C13 x0 x1 x2 x3 x4 x5 x6 x7 x8 x9 x10 x11 x12 (.b x13 :: (C20 x14 x15 x16 x17 x18 x19 x20 x21 x22 x23 x24 x25 x26 x27 x28 x29 x30 x31 x32 x33 (.c x34 :: []))))) = B_qa_0 F (fun (y0 y1 y2 y3 y4 y5 y6 y7 y8 y9 y10 y11 y12 : Int) (y13 : Bool) (y14 y15 y16 y17 y18 y19 y20 y21 y22 y23 y24 y25 y26 y27 y28 y29 y30 y31 y32 y33 : Int) (y34 : List VV) => iterC (codeL PP (S_qa F) c_qa (I_qa F) (tabJ []) (loopAt PP 27 0) 0) (headOf c_qa 0) k n (fS T_qa_0 (C13 y0 y1 y2 y3 y4 y5 y6 y7 y8 y9 y10 y11 y12 (.b y13 :: (C20 y14 y15 y16 y17 y18 y19 y20 y21 y22 y23 y24 y25 y26 y27 y28 y29 y30 y31 y32 y33 (.c y34 :: [])))))) (K_att_Lift_0_0e0 k) x0 x1 x2 x3 x4 x5 x6 x7 x8 x9 x10 x11 x12 x13 x14 x15 x16 x17 x18 x19 x20 x21 x22 x23 x24 x25 x26 x27 x28 x29 x30 x31 x32 x33 x34 := (h0 ok_h o_h_0 ok_aa o_aa_0 o_aa_1 o_aa_2 o_aa_3 L_qa_0).trans (by kernel_rfl)
    rw [h]
    simp only [lL_qa_0 F k n]
    rfl
def fg_qa (ok_aa : Y39) (o_aa_0 o_aa_1 o_aa_2 : Y40) (o_aa_3 : Y39) (L_qa_0 : Nat → (Y49) → Y50) (F : Nat) (a0 a1 a2 a3 a4 a5 a6 a7 a8 a9 a10 a11 a12 : Int) : R :=
 L_qa_0 F (fun (v0 v1 v2 v3 v4 v5 v6 v7 v8 v9 v10 v11 v12 : Int) (v13 : Bool) (v14 v15 v16 v17 v18 v19 v20 v21 v22 v23 v24 v25 v26 v27 v28 v29 v30 v31 v32 v33 : Int) (v34 : List VV) =>
 bif ((isI .i64 v34[0]?) && ((isI .i64 v34[1]?) && ((isI .i64 v34[2]?) && true))) then (
 let v35 := iv v34[0]?
 let v36 := iv v34[1]?
 let v37 := iv v34[2]?
 bif (ok_aa F v18 v19 v20 v21 v22 v23 v24 v25 v26 v35 v36 v37) then (
 some (.v (.tuple #[.agg #[.int .i64 ((o_aa_0 F v18 v19 v20 v21 v22 v23 v24 v25 v26 v35 v36 v37)), .int .i64 ((o_aa_1 F v18 v19 v20 v21 v22 v23 v24 v25 v26 v35 v36 v37)), .int .i64 ((o_aa_2 F v18 v19 v20 v21 v22 v23 v24 v25 v26 v35 v36 v37))], .bool ((o_aa_3 F v18 v19 v20 v21 v22 v23 v24 v25 v26 v35 v36 v37))]))) else none) else none) F a0 a1 a2 a3 a4 a5 a6 a7 a8 a9 a10 a11 a12 false a10 a11 a12 0 a0 a1 a2 a3 a4 a5 a6 a7 a8 a9 a10 a11 a12 0 0 0 ([.v (.int .i64 0), .v (.int .i64 0), .v (.int .i64 0)])
def f_qa (F : Nat) (a0 a1 a2 a3 a4 a5 a6 a7 a8 a9 a10 a11 a12 : Int) : R := fg_qa ok_aa o_aa_0 o_aa_1 o_aa_2 o_aa_3 L_qa_0 F a0 a1 a2 a3 a4 a5 a6 a7 a8 a9 a10 a11 a12
theorem e_qa (F : Nat) (a0 a1 a2 a3 a4 a5 a6 a7 a8 a9 a10 a11 a12 : Int) : funL PP (S_qa F) c_qa (I_qa F) (tabJ []) 27 (fTs ti_qa (C13 a0 a1 a2 a3 a4 a5 a6 a7 a8 a9 a10 a11 a12 [])).1 = f_qa F a0 a1 a2 a3 a4 a5 a6 a7 a8 a9 a10 a11 a12 := by
  have h : ∀ (ok_h : Nat → Int → Bool) (o_h_0 : Nat → Int → Int) (ok_aa : Y39) (o_aa_0 o_aa_1 o_aa_2 : Y40) (o_aa_3 : Y39) (L_qa_0 : Nat → (Y49) → Y50), funL PP (words [(46, z_h ok_h o_h_0 F), (47, z_aa ok_aa o_aa_0 o_aa_1 o_aa_2 o_aa_3 F)]) c_qa (tabI c_qa (w_qa L_qa_0 F)) (tabJ []) 27 (fTs ti_qa (C13 a0 a1 a2 a3 a4 a5 a6 a7 a8 a9 a10 a11 a12 [])).1 = fg_qa ok_aa o_aa_0 o_aa_1 o_aa_2 o_aa_3 L_qa_0 F a0 a1 a2 a3 a4 a5 a6 a7 a8 a9 a10 a11 a12 := by
    intros
    kernel_rfl
  exact (h ok_h o_h_0 ok_aa o_aa_0 o_aa_1 o_aa_2 o_aa_3 L_qa_0).trans (by kernel_rfl)
def ok_qa (F : Nat) (a0 a1 a2 a3 a4 a5 a6 a7 a8 a9 a10 a11 a12 : Int) : Bool := okT to_qa (f_qa F a0 a1 a2 a3 a4 a5 a6 a7 a8 a9 a10 a11 a12)
def o_qa_0 (F : Nat) (a0 a1 a2 a3 a4 a5 a6 a7 a8 a9 a10 a11 a12 : Int) : Int := atI (nth (outT to_qa (f_qa F a0 a1 a2 a3 a4 a5 a6 a7 a8 a9 a10 a11 a12)) 0)
def o_qa_1 (F : Nat) (a0 a1 a2 a3 a4 a5 a6 a7 a8 a9 a10 a11 a12 : Int) : Int := atI (nth (outT to_qa (f_qa F a0 a1 a2 a3 a4 a5 a6 a7 a8 a9 a10 a11 a12)) 1)
def o_qa_2 (F : Nat) (a0 a1 a2 a3 a4 a5 a6 a7 a8 a9 a10 a11 a12 : Int) : Int := atI (nth (outT to_qa (f_qa F a0 a1 a2 a3 a4 a5 a6 a7 a8 a9 a10 a11 a12)) 2)
def o_qa_3 (F : Nat) (a0 a1 a2 a3 a4 a5 a6 a7 a8 a9 a10 a11 a12 : Int) : Bool := atB (nth (outT to_qa (f_qa F a0 a1 a2 a3 a4 a5 a6 a7 a8 a9 a10 a11 a12)) 3)
theorem k_qa (F : Nat) (a0 a1 a2 a3 a4 a5 a6 a7 a8 a9 a10 a11 a12 : Int) {z0 : Int} {z1 : Int} {z2 : Int} {z3 : Bool} (h : f_qa F a0 a1 a2 a3 a4 a5 a6 a7 a8 a9 a10 a11 a12 = some (.v (.tuple #[.agg #[.int .i64 z0, .int .i64 z1, .int .i64 z2], .bool z3]))) : ok_qa F a0 a1 a2 a3 a4 a5 a6 a7 a8 a9 a10 a11 a12 = true ∧ o_qa_0 F a0 a1 a2 a3 a4 a5 a6 a7 a8 a9 a10 a11 a12 = z0 ∧ o_qa_1 F a0 a1 a2 a3 a4 a5 a6 a7 a8 a9 a10 a11 a12 = z1 ∧ o_qa_2 F a0 a1 a2 a3 a4 a5 a6 a7 a8 a9 a10 a11 a12 = z2 ∧ o_qa_3 F a0 a1 a2 a3 a4 a5 a6 a7 a8 a9 a10 a11 a12 = z3 := by
  refine ⟨?_, ?_, ?_, ?_, ?_⟩ <;> (first | unfold ok_qa | unfold o_qa_0 | unfold o_qa_1 | unfold o_qa_2 | unfold o_qa_3) <;> rw [h] <;> kernel_rfl
def s_qa (F : Nat) : List VV → Option (Bool × VV) := spec ti_qa to_qa (fun q => (A13 (ok_qa F) q)) (fun q => [.i (A13 (o_qa_0 F) q), .i (A13 (o_qa_1 F) q), .i (A13 (o_qa_2 F) q), .b (A13 (o_qa_3 F) q)])
theorem hS_qa (F : Nat) : ∀ f, Good PP f (unS (S_qa F f)) := words_good (wc (g_h F) (wc (g_aa F) wn))
theorem hl_qa (F : Nat) : ∀ p ∈ loopsIn PP 27, LoopOK PP (S_qa F) c_qa F (I_qa F) (tabJ []) p :=
  loops_of [(0, loopAt PP 27 0)] (by kernel_rfl) (all_cons
    (loop_ok (W_qa F) rfl (tab_cons (fun _ k q => Le.ofEq ((lL_qa_0 F k F (iI q 0) (iI q 1) (iI q 2) (iI q 3) (iI q 4) (iI q 5) (iI q 6) (iI q 7) (iI q 8) (iI q 9) (iI q 10) (iI q 11) (iI q 12) (iB q 13) (iI q 14) (iI q 15) (iI q 16) (iI q 17) (iI q 18) (iI q 19) (iI q 20) (iI q 21) (iI q 22) (iI q 23) (iI q 24) (iI q 25) (iI q 26) (iI q 27) (iI q 28) (iI q 29) (iI q 30) (iI q 31) (iI q 32) (iI q 33) (atC (nth q 34))).symm.trans (congrArg (iterC (codeL PP (S_qa F) c_qa (I_qa F) (tabJ []) (loopAt PP 27 0) 0) (headOf c_qa 0) k F) (show fS T_qa_0 (A13 C13 q (.b (iB q 13) :: (C20 (iI q 14) (iI q 15) (iI q 16) (iI q 17) (iI q 18) (iI q 19) (iI q 20) (iI q 21) (iI q 22) (iI q 23) (iI q 24) (iI q 25) (iI q 26) (iI q 27) (iI q 28) (iI q 29) (iI q 30) (iI q 31) (iI q 32) (iI q 33) (.c (atC (nth q 34)) :: [])))) = fS T_qa_0 q by kernel_rfl)))) tab_nil)) all_nil)
theorem g_qa (F : Nat) : Good PP 27 (unS (s_qa F)) :=
  fun_spec (hS_qa F) (by kernel_rfl) (by kernel_rfl) (C := c_qa) (F := fun q => (A13 (f_qa F) q)) (fun _ => F) (fun _ => I_qa F) (fun _ => tabJ []) (fun _ => hl_qa F) (fun _ => joins_of [] (by kernel_rfl) all_nil)
    (fun q => (congrArg (funL PP (S_qa F) c_qa (I_qa F) (tabJ []) 27) (show (fTs ti_qa q).1 = (fTs ti_qa (A13 C13 q [])).1 by kernel_rfl)).trans (e_qa F _ _ _ _ _ _ _ _ _ _ _ _ _))
    (fun _ h => okT_fill' h (by kernel_rfl))

end Go.Xv
set_option linter.unusedVariables false
namespace Go.Xv
/- 32 _att_Toward -/
def c_n : Cfg := ⟨[0, 1, 2, 4, 10], [], [], []⟩
def ti_n : List TV := [.v (.agg [.int .i64, .int .i64, .int .i64, .int .i64, .int .i64, .int .i64, .int .i64, .int .i64, .int .i64, .int .i64]), vI]
def to_n : TV := .v (.agg [.int .i64, .int .i64, .int .i64])
def S_n (F : Nat) : FuncId → List VV → Option (Bool × VV) := words [(56, s_ta F)]
def fg_n (ok_ta : Y43) (o_ta_0 o_ta_1 o_ta_2 o_ta_3 o_ta_4 o_ta_5 o_ta_6 o_ta_7 o_ta_8 : Y44) (F : Nat) (a0 a1 a2 a3 a4 a5 a6 a7 a8 a9 a10 : Int) : R :=
 bif ((decide (a10 < 0))) then (
 some (.v (.agg #[.int .i64 0, .int .i64 0, .int .i64 0])))
 else (
 bif ((decide (a10 ≥ 3))) then (
 some (.v (.agg #[.int .i64 0, .int .i64 0, .int .i64 0])))
 else (
 bif (ok_ta F a0 a1 a2 a3 a4 a5 a6 a7 a8) then (
 let v0 := o_ta_0 F a0 a1 a2 a3 a4 a5 a6 a7 a8
 let v1 := o_ta_1 F a0 a1 a2 a3 a4 a5 a6 a7 a8
 let v2 := o_ta_2 F a0 a1 a2 a3 a4 a5 a6 a7 a8
 let v3 := o_ta_3 F a0 a1 a2 a3 a4 a5 a6 a7 a8
 let v4 := o_ta_4 F a0 a1 a2 a3 a4 a5 a6 a7 a8
 let v5 := o_ta_5 F a0 a1 a2 a3 a4 a5 a6 a7 a8
 let v6 := o_ta_6 F a0 a1 a2 a3 a4 a5 a6 a7 a8
 let v7 := o_ta_7 F a0 a1 a2 a3 a4 a5 a6 a7 a8
 let v8 := o_ta_8 F a0 a1 a2 a3 a4 a5 a6 a7 a8
 bif (((decide (0 ≤ a10)) && (decide (a10 < 3))) && ((isI .i64 [.v (.int .i64 v0), .v (.int .i64 v1), .v (.int .i64 v2), .v (.int .i64 v3), .v (.int .i64 v4), .v (.int .i64 v5), .v (.int .i64 v6), .v (.int .i64 v7), .v (.int .i64 v8)][((Int.toNat a10) * 3)]?) && ((isI .i64 [.v (.int .i64 v0), .v (.int .i64 v1), .v (.int .i64 v2), .v (.int .i64 v3), .v (.int .i64 v4), .v (.int .i64 v5), .v (.int .i64 v6), .v (.int .i64 v7), .v (.int .i64 v8)][(((Int.toNat a10) * 3) + 1)]?) && ((isI .i64 [.v (.int .i64 v0), .v (.int .i64 v1), .v (.int .i64 v2), .v (.int .i64 v3), .v (.int .i64 v4), .v (.int .i64 v5), .v (.int .i64 v6), .v (.int .i64 v7), .v (.int .i64 v8)][((((Int.toNat a10) * 3) + 1) + 1)]?) && true)))) then (
 some (.v (.agg #[.int .i64 ((iv [.v (.int .i64 v0), .v (.int .i64 v1), .v (.int .i64 v2), .v (.int .i64 v3), .v (.int .i64 v4), .v (.int .i64 v5), .v (.int .i64 v6), .v (.int .i64 v7), .v (.int .i64 v8)][((Int.toNat a10) * 3)]?)), .int .i64 ((iv [.v (.int .i64 v0), .v (.int .i64 v1), .v (.int .i64 v2), .v (.int .i64 v3), .v (.int .i64 v4), .v (.int .i64 v5), .v (.int .i64 v6), .v (.int .i64 v7), .v (.int .i64 v8)][(((Int.toNat a10) * 3) + 1)]?)), .int .i64 ((iv [.v (.int .i64 v0), .v (.int .i64 v1), .v (.int .i64 v2), .v (.int .i64 v3), .v (.int .i64 v4), .v (.int .i64 v5), .v (.int .i64 v6), .v (.int .i64 v7), .v (.int .i64 v8)][((((Int.toNat a10) * 3) + 1) + 1)]?))]))) else none) else none))
def f_n (F : Nat) (a0 a1 a2 a3 a4 a5 a6 a7 a8 a9 a10 : Int) : R := fg_n ok_ta o_ta_0 o_ta_1 o_ta_2 o_ta_3 o_ta_4 o_ta_5 o_ta_6 o_ta_7 o_ta_8 F a0 a1 a2 a3 a4 a5 a6 a7 a8 a9 a10
theorem e_n (F : Nat) (a0 a1 a2 a3 a4 a5 a6 a7 a8 a9 a10 : Int) : funL PP (S_n F) c_n (tabI c_n []) (tabJ []) 32 (fTs ti_n (C11 a0 a1 a2 a3 a4 a5 a6 a7 a8 a9 a10 [])).1 = f_n F a0 a1 a2 a3 a4 a5 a6 a7 a8 a9 a10 := by
  have h : ∀ (ok_ta : Y43) (o_ta_0 o_ta_1 o_ta_2 o_ta_3 o_ta_4 o_ta_5 o_ta_6 o_ta_7 o_ta_8 : Y44), funL PP (words [(56, z_ta ok_ta o_ta_0 o_ta_1 o_ta_2 o_ta_3 o_ta_4 o_ta_5 o_ta_6 o_ta_7 o_ta_8 F)]) c_n (tabI c_n []) (tabJ []) 32 (fTs ti_n (C11 a0 a1 a2 a3 a4 a5 a6 a7 a8 a9 a10 [])).1 = fg_n ok_ta o_ta_0 o_ta_1 o_ta_2 o_ta_3 o_ta_4 o_ta_5 o_ta_6 o_ta_7 o_ta_8 F a0 a1 a2 a3 a4 a5 a6 a7 a8 a9 a10 := by
    intros
    kernel_rfl
  exact (h ok_ta o_ta_0 o_ta_1 o_ta_2 o_ta_3 o_ta_4 o_ta_5 o_ta_6 o_ta_7 o_ta_8).trans (by kernel_rfl)
def ok_n (F : Nat) (a0 a1 a2 a3 a4 a5 a6 a7 a8 a9 a10 : Int) : Bool := okT to_n (f_n F a0 a1 a2 a3 a4 a5 a6 a7 a8 a9 a10)
def o_n_0 (F : Nat) (a0 a1 a2 a3 a4 a5 a6 a7 a8 a9 a10 : Int) : Int := atI (nth (outT to_n (f_n F a0 a1 a2 a3 a4 a5 a6 a7 a8 a9 a10)) 0)
def o_n_1 (F : Nat) (a0 a1 a2 a3 a4 a5 a6 a7 a8 a9 a10 : Int) : Int := atI (nth (outT to_n (f_n F a0 a1 a2 a3 a4 a5 a6 a7 a8 a9 a10)) 1)
def o_n_2 (F : Nat) (a0 a1 a2 a3 a4 a5 a6 a7 a8 a9 a10 : Int) : Int := atI (nth (outT to_n (f_n F a0 a1 a2 a3 a4 a5 a6 a7 a8 a9 a10)) 2)
theorem k_n (F : Nat) (a0 a1 a2 a3 a4 a5 a6 a7 a8 a9 a10 : Int) {z0 : Int} {z1 : Int} {z2 : Int} (h : f_n F a0 a1 a2 a3 a4 a5 a6 a7 a8 a9 a10 = some (.v (.agg #[.int .i64 z0, .int .i64 z1, .int .i64 z2]))) : ok_n F a0 a1 a2 a3 a4 a5 a6 a7 a8 a9 a10 = true ∧ o_n_0 F a0 a1 a2 a3 a4 a5 a6 a7 a8 a9 a10 = z0 ∧ o_n_1 F a0 a1 a2 a3 a4 a5 a6 a7 a8 a9 a10 = z1 ∧ o_n_2 F a0 a1 a2 a3 a4 a5 a6 a7 a8 a9 a10 = z2 := by
  refine ⟨?_, ?_, ?_, ?_⟩ <;> (first | unfold ok_n | unfold o_n_0 | unfold o_n_1 | unfold o_n_2) <;> rw [h] <;> kernel_rfl
def s_n (F : Nat) : List VV → Option (Bool × VV) := spec ti_n to_n (fun q => (A11 (ok_n F) q)) (fun q => [.i (A11 (o_n_0 F) q), .i (A11 (o_n_1 F) q), .i (A11 (o_n_2 F) q)])
theorem hS_n (F : Nat) : ∀ f, Good PP f (unS (S_n F f)) := words_good (wc (g_ta F) wn)
theorem g_n (F : Nat) : Good PP 32 (unS (s_n F)) :=
  fun_spec (hS_n F) (by kernel_rfl) (by kernel_rfl) (C := c_n) (F := fun q => (A11 (f_n F) q)) (fun _ => F) (fun _ => tabI c_n []) (fun _ => tabJ []) (fun _ => loops_of [] (by kernel_rfl) all_nil) (fun _ => joins_of [] (by kernel_rfl) all_nil)
    (fun q => (congrArg (funL PP (S_n F) c_n (tabI c_n []) (tabJ []) 32) (show (fTs ti_n q).1 = (fTs ti_n (A11 C11 q [])).1 by kernel_rfl)).trans (e_n F _ _ _ _ _ _ _ _ _ _ _))
    (fun _ h => okT_fill' h (by kernel_rfl))

end Go.Xv
namespace Go.Xv
theorem f_vec_eachv6' (F : Nat) (hF : 200 ≤ F) {a0 a1 a2 a3 a4 a5 : Int} {v0 v1 v2 : Int} {c0 c1 c2 : Bool} (h0 : ok_ga F 0 a0 a1 a2 a3 a4 a5 = true ∧ o_ga_0 F 0 a0 a1 a2 a3 a4 a5 = v0 ∧ o_ga_1 F 0 a0 a1 a2 a3 a4 a5 = c0) (h1 : ok_ga F 1 a0 a1 a2 a3 a4 a5 = true ∧ o_ga_0 F 1 a0 a1 a2 a3 a4 a5 = v1 ∧ o_ga_1 F 1 a0 a1 a2 a3 a4 a5 = c1) (h2 : ok_ga F 2 a0 a1 a2 a3 a4 a5 = true ∧ o_ga_0 F 2 a0 a1 a2 a3 a4 a5 = v2 ∧ o_ga_1 F 2 a0 a1 a2 a3 a4 a5 = c2) :
    f_w F a0 a1 a2 a3 a4 a5 = some (.v (.tuple #[.agg #[.int .i64 v0, .int .i64 v1, .int .i64 v2], .bool (c0 || c1 || c2)])) := by
  obtain ⟨a1, a2, a3⟩ := h0
  obtain ⟨b1, b2, b3⟩ := h1
  obtain ⟨d1, d2, d3⟩ := h2
  obtain ⟨G, hG⟩ : ∃ G, F = G + 4 := ⟨F - 4, by omega⟩
  have w1 : IntKind.wrap .i64 (0 + 1) = 1 := by decide
  have w2 : IntKind.wrap .i64 (1 + 1) = 2 := by decide
  have w3 : IntKind.wrap .i64 (2 + 1) = 3 := by decide
  unfold f_w fg_w
  rw [show L_w_0 F _ F = L_w_0 F _ (G + 4) from congrArg (L_w_0 F _) hG, L_w_0]
  unfold B_w_0 Bg_w_0
  refine bp rfl (bp a1 (bn rfl (bp rfl (bp rfl ?_))))
  rw [a2, a3, w1, L_w_0]
  unfold B_w_0 Bg_w_0
  refine bp rfl (bp b1 ?_)
  rw [b2, b3, w2]
  cases c0
  · refine bn rfl (bp rfl (bp rfl ?_))
    rw [L_w_0]
    unfold B_w_0 Bg_w_0
    refine bp rfl (bp d1 ?_)
    rw [d2, d3, w3]
    cases c1
    · refine bn rfl (bp rfl (bp rfl ?_))
      rw [L_w_0]
      unfold B_w_0 Bg_w_0
      exact bn rfl (bp rfl rfl)
    · refine bp rfl (bp rfl (bp rfl ?_))
      rw [L_w_0]
      unfold B_w_0 Bg_w_0
      exact bn rfl (bp rfl rfl)
  · refine bp rfl (bp rfl (bp rfl ?_))
    rw [L_w_0]
    unfold B_w_0 Bg_w_0
    refine bp rfl (bp d1 ?_)
    rw [d2, w3]
    refine bp rfl (bp rfl (bp rfl ?_))
    rw [L_w_0]
    unfold B_w_0 Bg_w_0
    exact bn rfl (bp rfl (by rw [Bool.true_or, Bool.true_or]; rfl))
theorem a_Add_0 (F : Nat) {a0 a1 a2 a3 a4 a5 : Int} (h : I64 a0) (hm : I64 a3) : ok_ga F 0 a0 a1 a2 a3 a4 a5 = true ∧ o_ga_0 F 0 a0 a1 a2 a3 a4 a5 = clipV (a0 + a3) ∧ o_ga_1 F 0 a0 a1 a2 a3 a4 a5 = clipC (a0 + a3) := by
  refine k_ga F _ _ _ _ _ _ _ ?_
  unfold f_ga fg_ga
  obtain ⟨h1, h2, h3⟩ := a_fAdd F h hm
  refine bp rfl (bp rfl (bp rfl (bp rfl (bp h1 ?_))))
  exact congrArg some (show VV.v (.tuple #[.int .i64 (o_db_0 F a0 a3), .bool (o_db_1 F a0 a3)]) = _ by rw [h2, h3])
theorem a_Add_1 (F : Nat) {a0 a1 a2 a3 a4 a5 : Int} (h : I64 a1) (hm : I64 a4) : ok_ga F 1 a0 a1 a2 a3 a4 a5 = true ∧ o_ga_0 F 1 a0 a1 a2 a3 a4 a5 = clipV (a1 + a4) ∧ o_ga_1 F 1 a0 a1 a2 a3 a4 a5 = clipC (a1 + a4) := by
  refine k_ga F _ _ _ _ _ _ _ ?_
  unfold f_ga fg_ga
  obtain ⟨h1, h2, h3⟩ := a_fAdd F h hm
  refine bp rfl (bp rfl (bp rfl (bp rfl (bp h1 ?_))))
  exact congrArg some (show VV.v (.tuple #[.int .i64 (o_db_0 F a1 a4), .bool (o_db_1 F a1 a4)]) = _ by rw [h2, h3])
theorem a_Add_2 (F : Nat) {a0 a1 a2 a3 a4 a5 : Int} (h : I64 a2) (hm : I64 a5) : ok_ga F 2 a0 a1 a2 a3 a4 a5 = true ∧ o_ga_0 F 2 a0 a1 a2 a3 a4 a5 = clipV (a2 + a5) ∧ o_ga_1 F 2 a0 a1 a2 a3 a4 a5 = clipC (a2 + a5) := by
  refine k_ga F _ _ _ _ _ _ _ ?_
  unfold f_ga fg_ga
  obtain ⟨h1, h2, h3⟩ := a_fAdd F h hm
  refine bp rfl (bp rfl (bp rfl (bp rfl (bp h1 ?_))))
  exact congrArg some (show VV.v (.tuple #[.int .i64 (o_db_0 F a2 a5), .bool (o_db_1 F a2 a5)]) = _ by rw [h2, h3])
theorem a_vAdd (F : Nat) (hF : 200 ≤ F) {a0 a1 a2 a3 a4 a5 : Int} (h0 : I64 a0) (h1 : I64 a1) (h2 : I64 a2) (h3 : I64 a3) (h4 : I64 a4) (h5 : I64 a5) : ok_jb F a0 a1 a2 a3 a4 a5 = true ∧ o_jb_0 F a0 a1 a2 a3 a4 a5 = clipV (a0 + a3) ∧ o_ga F a0 a1 a2 a3 a4 a5 = clipV (a1 + a4) ∧ o_jb_2 F a0 a1 a2 a3 a4 a5 = clipV (a2 + a5) ∧ o_jb_3 F a0 a1 a2 a3 a4 a5 = (clipC (a0 + a3) || clipC (a1 + a4) || clipC (a2 + a5)) := by
  refine k_jb F _ _ _ _ _ _ ?_
  unfold f_jb fg_jb
  obtain ⟨e1, e2, e3, e4, e5⟩ := k_w F _ _ _ _ _ _ (f_vec_eachv6' F hF (a_Add_0 F h0 h3) (a_Add_1 F h1 h4) (a_Add_2 F h2 h5))
  refine bp e1 ?_
  rw [e2, e3, e4, e5]
theorem a_fDivN (F : Nat) (hF : 200 ≤ F) {a b : Int} (ha : I64 a) (hb : I64 b) : ok_eb F a b = true ∧ o_eb_0 F a b = fdivV a b ∧ o_eb_1 F a b = fdivC a b := k_eb F _ _ (f_fDiv F hF ha hb)
theorem a_Lift (F : Nat) (hF : 200 ≤ F) {a : Att} (hM : MI a.m) {v0 v1 v2 : Int} (h0 : I32 v0) (h1 : I32 v1) (h2 : I32 v2) : ok_qa F a.m.a0 a.m.a1 a.m.a2 a.m.a3 a.m.a4 a.m.a5 a.m.a6 a.m.a7 a.m.a8 a.n v0 v1 v2 = true ∧ o_qa_0 F a.m.a0 a.m.a1 a.m.a2 a.m.a3 a.m.a4 a.m.a5 a.m.a6 a.m.a7 a.m.a8 a.n v0 v1 v2 = clipV (dotZ a.m.a0 a.m.a1 a.m.a2 (wid v0) (wid v1) (wid v2)) ∧ o_qa_1 F a.m.a0 a.m.a1 a.m.a2 a.m.a3 a.m.a4 a.m.a5 a.m.a6 a.m.a7 a.m.a8 a.n v0 v1 v2 = clipV (dotZ a.m.a3 a.m.a4 a.m.a5 (wid v0) (wid v1) (wid v2)) ∧ o_qa_2 F a.m.a0 a.m.a1 a.m.a2 a.m.a3 a.m.a4 a.m.a5 a.m.a6 a.m.a7 a.m.a8 a.n v0 v1 v2 = clipV (dotZ a.m.a6 a.m.a7 a.m.a8 (wid v0) (wid v1) (wid v2)) ∧ o_qa_3 F a.m.a0 a.m.a1 a.m.a2 a.m.a3 a.m.a4 a.m.a5 a.m.a6 a.m.a7 a.m.a8 a.n v0 v1 v2 = (clipC (dotZ a.m.a0 a.m.a1 a.m.a2 (wid v0) (wid v1) (wid v2)) || clipC (dotZ a.m.a3 a.m.a4 a.m.a5 (wid v0) (wid v1) (wid v2)) || clipC (dotZ a.m.a6 a.m.a7 a.m.a8 (wid v0) (wid v1) (wid v2))) := by
  obtain ⟨i0, i1, i2, i3, i4, i5, i6, i7, i8⟩ := hM
  obtain ⟨p, p0, p1, p2, p3⟩ := a_mApply F hF i0 i1 i2 i3 i4 i5 i6 i7 i8 (wid_I h0) (wid_I h1) (wid_I h2)
  refine k_qa F _ _ _ _ _ _ _ _ _ _ _ _ _ ?_
  unfold f_qa fg_qa
  obtain ⟨G, hG⟩ : ∃ G, F = G + 4 := ⟨F - 4, by omega⟩
  have w0 : IntKind.wrap .i64 (0 + 1) = 1 := by decide
  have w1 : IntKind.wrap .i64 (1 + 1) = 2 := by decide
  have w2 : IntKind.wrap .i64 (2 + 1) = 3 := by decide
  obtain ⟨s0, t0⟩ := a_sWiden F h0
  obtain ⟨s1, t1⟩ := a_sWiden F h1
  obtain ⟨s2, t2⟩ := a_sWiden F h2
  rw [show L_qa_0 F _ F = L_qa_0 F _ (G + 4) from congrArg (L_qa_0 F _) hG]
  rw [L_qa_0]
  unfold B_qa_0 Bg_qa_0
  dsimp only
  refine bp rfl (bp rfl ?_)
  rw [show (iv [VV.v (.int .i32 v0), .v (.int .i32 v1), .v (.int .i32 v2)][Int.toNat 0 * 1]?) = v0 from rfl]
  refine bp s0 (bp rfl (bp rfl ?_))
  rw [t0, w0]
  rw [L_qa_0]
  unfold B_qa_0 Bg_qa_0
  dsimp only
  refine bp rfl (bp rfl ?_)
  rw [show (iv [VV.v (.int .i32 v0), .v (.int .i32 v1), .v (.int .i32 v2)][Int.toNat 1 * 1]?) = v1 from rfl]
  refine bp s1 (bp rfl (bp rfl ?_))
  rw [t1, w1]
  rw [L_qa_0]
  unfold B_qa_0 Bg_qa_0
  dsimp only
  refine bp rfl (bp rfl ?_)
  rw [show (iv [VV.v (.int .i32 v0), .v (.int .i32 v1), .v (.int .i32 v2)][Int.toNat 2 * 1]?) = v2 from rfl]
  refine bp s2 (bp rfl (bp rfl ?_))
  rw [t2, w2]
  rw [L_qa_0]
  unfold B_qa_0 Bg_qa_0
  dsimp only
  refine bn rfl (bp rfl (bp p ?_))
  exact congrArg some (show VV.v (.tuple #[.agg #[.int .i64 (o_aa_0 F a.m.a0 a.m.a1 a.m.a2 a.m.a3 a.m.a4 a.m.a5 a.m.a6 a.m.a7 a.m.a8 (wid v0) (wid v1) (wid v2)), .int .i64 (o_aa_1 F a.m.a0 a.m.a1 a.m.a2 a.m.a3 a.m.a4 a.m.a5 a.m.a6 a.m.a7 a.m.a8 (wid v0) (wid v1) (wid v2)), .int .i64 (o_aa_2 F a.m.a0 a.m.a1 a.m.a2 a.m.a3 a.m.a4 a.m.a5 a.m.a6 a.m.a7 a.m.a8 (wid v0) (wid v1) (wid v2))], .bool (o_aa_3 F a.m.a0 a.m.a1 a.m.a2 a.m.a3 a.m.a4 a.m.a5 a.m.a6 a.m.a7 a.m.a8 (wid v0) (wid v1) (wid v2))]) = _ by rw [p0, p1, p2, p3])
theorem a_Toward0 (F : Nat) (hF : 200 ≤ F) (A : Mt) (n : Int) : ok_n F A.a0 A.a1 A.a2 A.a3 A.a4 A.a5 A.a6 A.a7 A.a8 n 0 = true ∧ o_n_0 F A.a0 A.a1 A.a2 A.a3 A.a4 A.a5 A.a6 A.a7 A.a8 n 0 = A.a0 ∧ o_n_1 F A.a0 A.a1 A.a2 A.a3 A.a4 A.a5 A.a6 A.a7 A.a8 n 0 = A.a3 ∧ o_n_2 F A.a0 A.a1 A.a2 A.a3 A.a4 A.a5 A.a6 A.a7 A.a8 n 0 = A.a6 := by
  obtain ⟨b, b0, b1, b2, b3, b4, b5, b6, b7, b8⟩ := a_mBack F hF A.a0 A.a1 A.a2 A.a3 A.a4 A.a5 A.a6 A.a7 A.a8
  refine k_n F _ _ _ _ _ _ _ _ _ _ _ ?_
  unfold f_n fg_n
  dsimp only
  rw [b0, b1, b2, b3, b4, b5, b6, b7, b8]
  exact bn rfl (bn rfl (bp b (bp rfl rfl)))
end Go.Xv
namespace Go.Xv
open Go.RowKit
theorem Good.plain {P : Program} {f : FuncId} {g : List VV → Option VV} (hg : Good P f g) (xs : List Value) (y : Value) (h : g (xs.map .v) = some (.v y)) (w : World) :
    Calls P f xs.toArray w fun e w' => e = .returned y ∧ Below w.heap.size w w' := by
  obtain ⟨_, hk⟩ := hg _ _ h
  refine (hk w xs.toArray (fun _ => False) (fun _ h => h.elim) (by simp) (fun i x hx => ?_)).mono ?_
  · simp only [List.getElem?_map, Option.map_eq_some_iff] at hx
    obtain ⟨v, hv, rfl⟩ := hx
    exact ⟨v, by simpa using hv, .v _ _⟩
  · rintro e w' ⟨v, rfl, hb, hr⟩
    obtain rfl := hr.1.v_inv
    exact ⟨rfl, hb⟩
theorem div_calls {a b : Int} (ha : I64 a) (hb : I64 b) (w : World) : Calls PP 25 #[.int .i64 a, .int .i64 b] w fun e w' => e = .returned (.tuple #[.int .i64 (fdivV a b), .bool (fdivC a b)]) ∧ Below w.heap.size w w' := by
  refine Good.plain (g_eb 200) [.int .i64 a, .int .i64 b] _ ?_ w
  obtain ⟨h, q0, q1⟩ := a_fDivN 200 (Nat.le_refl _) ha hb
  have e : s_eb 200 [.v (.int .i64 a), .v (.int .i64 b)] = some (ok_eb 200 a b, .v (.tuple #[.int .i64 (o_eb_0 200 a b), .bool (o_eb_1 200 a b)])) := by kernel_rfl
  rw [h, q0, q1] at e
  show unS (s_eb 200) [.v (.int .i64 a), .v (.int .i64 b)] = _
  unfold unS
  rw [e]
theorem vsub_calls {a0 a1 a2 a3 a4 a5 : Int} (h0 : I64 a0) (h1 : I64 a1) (h2 : I64 a2) (h3 : I64 a3) (h4 : I64 a4) (h5 : I64 a5) (w : World) : Calls PP 28 #[.agg #[.int .i64 a0, .int .i64 a1, .int .i64 a2], .agg #[.int .i64 a3, .int .i64 a4, .int .i64 a5]] w fun e w' => e = .returned (.tuple #[.agg #[.int .i64 (clipV (a0 - a3)), .int .i64 (clipV (a1 - a4)), .int .i64 (clipV (a2 - a5))], .bool (clipC (a0 - a3) || clipC (a1 - a4) || clipC (a2 - a5))]) ∧ Below w.heap.size w w' := by
  refine Good.plain (g_lb 200) [.agg #[.int .i64 a0, .int .i64 a1, .int .i64 a2], .agg #[.int .i64 a3, .int .i64 a4, .int .i64 a5]] _ ?_ w
  obtain ⟨h, q0, q1, q2, q3⟩ := a_Sub 200 (Nat.le_refl _) h0 h1 h2 h3 h4 h5
  have e : s_lb 200 [.v (.agg #[.int .i64 a0, .int .i64 a1, .int .i64 a2]), .v (.agg #[.int .i64 a3, .int .i64 a4, .int .i64 a5])] = some (ok_lb 200 a0 a1 a2 a3 a4 a5, .v (.tuple #[.agg #[.int .i64 (o_lb_0 200 a0 a1 a2 a3 a4 a5), .int .i64 (o_ja 200 a0 a1 a2 a3 a4 a5), .int .i64 (o_lb_2 200 a0 a1 a2 a3 a4 a5)], .bool (o_lb_3 200 a0 a1 a2 a3 a4 a5)])) := by kernel_rfl
  rw [h, q0, q1, q2, q3] at e
  show unS (s_lb 200) [.v (.agg #[.int .i64 a0, .int .i64 a1, .int .i64 a2]), .v (.agg #[.int .i64 a3, .int .i64 a4, .int .i64 a5])] = _
  unfold unS
  rw [e]
theorem vadd_calls {a0 a1 a2 a3 a4 a5 : Int} (h0 : I64 a0) (h1 : I64 a1) (h2 : I64 a2) (h3 : I64 a3) (h4 : I64 a4) (h5 : I64 a5) (w : World) : Calls PP 19 #[.agg #[.int .i64 a0, .int .i64 a1, .int .i64 a2], .agg #[.int .i64 a3, .int .i64 a4, .int .i64 a5]] w fun e w' => e = .returned (.tuple #[.agg #[.int .i64 (clipV (a0 + a3)), .int .i64 (clipV (a1 + a4)), .int .i64 (clipV (a2 + a5))], .bool (clipC (a0 + a3) || clipC (a1 + a4) || clipC (a2 + a5))]) ∧ Below w.heap.size w w' := by
  refine Good.plain (g_jb 200) [.agg #[.int .i64 a0, .int .i64 a1, .int .i64 a2], .agg #[.int .i64 a3, .int .i64 a4, .int .i64 a5]] _ ?_ w
  obtain ⟨h, q0, q1, q2, q3⟩ := a_vAdd 200 (Nat.le_refl _) h0 h1 h2 h3 h4 h5
  have e : s_jb 200 [.v (.agg #[.int .i64 a0, .int .i64 a1, .int .i64 a2]), .v (.agg #[.int .i64 a3, .int .i64 a4, .int .i64 a5])] = some (ok_jb 200 a0 a1 a2 a3 a4 a5, .v (.tuple #[.agg #[.int .i64 (o_jb_0 200 a0 a1 a2 a3 a4 a5), .int .i64 (o_ga 200 a0 a1 a2 a3 a4 a5), .int .i64 (o_jb_2 200 a0 a1 a2 a3 a4 a5)], .bool (o_jb_3 200 a0 a1 a2 a3 a4 a5)])) := by kernel_rfl
  rw [h, q0, q1, q2, q3] at e
  show unS (s_jb 200) [.v (.agg #[.int .i64 a0, .int .i64 a1, .int .i64 a2]), .v (.agg #[.int .i64 a3, .int .i64 a4, .int .i64 a5])] = _
  unfold unS
  rw [e]
theorem vscale_calls {a0 a1 a2 a3 : Int} (h0 : I64 a0) (h1 : I64 a1) (h2 : I64 a2) (h3 : I64 a3) (w : World) : Calls PP 29 #[.agg #[.int .i64 a0, .int .i64 a1, .int .i64 a2], .int .i64 a3] w fun e w' => e = .returned (.tuple #[.agg #[.int .i64 (clipV (pr a0 a3)), .int .i64 (clipV (pr a1 a3)), .int .i64 (clipV (pr a2 a3))], .bool (clipC (pr a0 a3) || clipC (pr a1 a3) || clipC (pr a2 a3))]) ∧ Below w.heap.size w w' := by
  refine Good.plain (g_ia 200) [.agg #[.int .i64 a0, .int .i64 a1, .int .i64 a2], .int .i64 a3] _ ?_ w
  obtain ⟨h, q0, q1, q2, q3⟩ := a_Scale 200 (Nat.le_refl _) h0 h1 h2 h3
  have e : s_ia 200 [.v (.agg #[.int .i64 a0, .int .i64 a1, .int .i64 a2]), .v (.int .i64 a3)] = some (ok_ia 200 a0 a1 a2 a3, .v (.tuple #[.agg #[.int .i64 (o_ia_0 200 a0 a1 a2 a3), .int .i64 (o_k 200 a0 a1 a2 a3), .int .i64 (o_ia_2 200 a0 a1 a2 a3)], .bool (o_ia_3 200 a0 a1 a2 a3)])) := by kernel_rfl
  rw [h, q0, q1, q2, q3] at e
  show unS (s_ia 200) [.v (.agg #[.int .i64 a0, .int .i64 a1, .int .i64 a2]), .v (.int .i64 a3)] = _
  unfold unS
  rw [e]
theorem vdot_calls {a0 a1 a2 a3 a4 a5 : Int} (h0 : I64 a0) (h1 : I64 a1) (h2 : I64 a2) (h3 : I64 a3) (h4 : I64 a4) (h5 : I64 a5) (w : World) : Calls PP 31 #[.agg #[.int .i64 a0, .int .i64 a1, .int .i64 a2], .agg #[.int .i64 a3, .int .i64 a4, .int .i64 a5]] w fun e w' => e = .returned (.tuple #[.int .i64 (clipV (dotZ a0 a1 a2 a3 a4 a5)), .bool (clipC (dotZ a0 a1 a2 a3 a4 a5))]) ∧ Below w.heap.size w w' := by
  refine Good.plain (g_kb 200) [.agg #[.int .i64 a0, .int .i64 a1, .int .i64 a2], .agg #[.int .i64 a3, .int .i64 a4, .int .i64 a5]] _ ?_ w
  obtain ⟨h, q0, q1⟩ := a_Dot 200 (Nat.le_refl _) h0 h1 h2 h3 h4 h5
  have e : s_kb 200 [.v (.agg #[.int .i64 a0, .int .i64 a1, .int .i64 a2]), .v (.agg #[.int .i64 a3, .int .i64 a4, .int .i64 a5])] = some (ok_kb 200 a0 a1 a2 a3 a4 a5, .v (.tuple #[.int .i64 (o_kb_0 200 a0 a1 a2 a3 a4 a5), .bool (o_kb_1 200 a0 a1 a2 a3 a4 a5)])) := by kernel_rfl
  rw [h, q0, q1] at e
  show unS (s_kb 200) [.v (.agg #[.int .i64 a0, .int .i64 a1, .int .i64 a2]), .v (.agg #[.int .i64 a3, .int .i64 a4, .int .i64 a5])] = _
  unfold unS
  rw [e]
theorem anew_calls  (w : World) : Calls PP 10 #[] w fun e w' => e = .returned (.agg #[.int .i64 newA.m.a0, .int .i64 newA.m.a1, .int .i64 newA.m.a2, .int .i64 newA.m.a3, .int .i64 newA.m.a4, .int .i64 newA.m.a5, .int .i64 newA.m.a6, .int .i64 newA.m.a7, .int .i64 newA.m.a8, .int .i64 newA.n]) ∧ Below w.heap.size w w' := by
  refine Good.plain (g_cb 200) [] _ ?_ w
  obtain ⟨h, q0, q1, q2, q3, q4, q5, q6, q7, q8, q9⟩ := a_New 200 (Nat.le_refl _)
  have e : s_cb 200 [] = some (ok_cb 200 , .v (.agg #[.int .i64 (o_cb_0 200 ), .int .i64 (o_cb_1 200 ), .int .i64 (o_cb_2 200 ), .int .i64 (o_cb_3 200 ), .int .i64 (o_cb_4 200 ), .int .i64 (o_cb_5 200 ), .int .i64 (o_cb_6 200 ), .int .i64 (o_cb_7 200 ), .int .i64 (o_cb_8 200 ), .int .i64 (o_cb_9 200 )])) := by kernel_rfl
  rw [h, q0, q1, q2, q3, q4, q5, q6, q7, q8, q9] at e
  show unS (s_cb 200) [] = _
  unfold unS
  rw [e]
theorem astep_calls {a : Att} (hM : MI a.m) (hn : a.n < 9223372036854775807 ∧ -9223372036854775808 ≤ a.n) {r0 r1 r2 t : Int} (h0 : I32 r0) (h1 : I32 r1) (h2 : I32 r2) (w : World) : Calls PP 26 #[.agg #[.int .i64 a.m.a0, .int .i64 a.m.a1, .int .i64 a.m.a2, .int .i64 a.m.a3, .int .i64 a.m.a4, .int .i64 a.m.a5, .int .i64 a.m.a6, .int .i64 a.m.a7, .int .i64 a.m.a8, .int .i64 a.n], .agg #[.int .i32 r0, .int .i32 r1, .int .i32 r2], .int .i64 t] w fun e w' => e = .returned (.tuple #[.agg #[.int .i64 (stepA a (byV r0 t) (byV r1 t) (byV r2 t)).m.a0, .int .i64 (stepA a (byV r0 t) (byV r1 t) (byV r2 t)).m.a1, .int .i64 (stepA a (byV r0 t) (byV r1 t) (byV r2 t)).m.a2, .int .i64 (stepA a (byV r0 t) (byV r1 t) (byV r2 t)).m.a3, .int .i64 (stepA a (byV r0 t) (byV r1 t) (byV r2 t)).m.a4, .int .i64 (stepA a (byV r0 t) (byV r1 t) (byV r2 t)).m.a5, .int .i64 (stepA a (byV r0 t) (byV r1 t) (byV r2 t)).m.a6, .int .i64 (stepA a (byV r0 t) (byV r1 t) (byV r2 t)).m.a7, .int .i64 (stepA a (byV r0 t) (byV r1 t) (byV r2 t)).m.a8, .int .i64 (stepA a (byV r0 t) (byV r1 t) (byV r2 t)).n], .bool (go3K a.m (byV r0 t) (byV r1 t) (byV r2 t))]) ∧ Below w.heap.size w w' := by
  refine Good.plain (g_ra 200) [.agg #[.int .i64 a.m.a0, .int .i64 a.m.a1, .int .i64 a.m.a2, .int .i64 a.m.a3, .int .i64 a.m.a4, .int .i64 a.m.a5, .int .i64 a.m.a6, .int .i64 a.m.a7, .int .i64 a.m.a8, .int .i64 a.n], .agg #[.int .i32 r0, .int .i32 r1, .int .i32 r2], .int .i64 t] _ ?_ w
  obtain ⟨h, q0, q1, q2, q3, q4, q5, q6, q7, q8, q9, q10⟩ := a_Step 200 (Nat.le_refl _) hM hn h0 h1 h2
  have e : s_ra 200 [.v (.agg #[.int .i64 a.m.a0, .int .i64 a.m.a1, .int .i64 a.m.a2, .int .i64 a.m.a3, .int .i64 a.m.a4, .int .i64 a.m.a5, .int .i64 a.m.a6, .int .i64 a.m.a7, .int .i64 a.m.a8, .int .i64 a.n]), .v (.agg #[.int .i32 r0, .int .i32 r1, .int .i32 r2]), .v (.int .i64 t)] = some (ok_ra 200 a.m.a0 a.m.a1 a.m.a2 a.m.a3 a.m.a4 a.m.a5 a.m.a6 a.m.a7 a.m.a8 a.n r0 r1 r2 t, .v (.tuple #[.agg #[.int .i64 (o_ra_0 200 a.m.a0 a.m.a1 a.m.a2 a.m.a3 a.m.a4 a.m.a5 a.m.a6 a.m.a7 a.m.a8 a.n r0 r1 r2 t), .int .i64 (o_ra_1 200 a.m.a0 a.m.a1 a.m.a2 a.m.a3 a.m.a4 a.m.a5 a.m.a6 a.m.a7 a.m.a8 a.n r0 r1 r2 t), .int .i64 (o_ra_2 200 a.m.a0 a.m.a1 a.m.a2 a.m.a3 a.m.a4 a.m.a5 a.m.a6 a.m.a7 a.m.a8 a.n r0 r1 r2 t), .int .i64 (o_ra_3 200 a.m.a0 a.m.a1 a.m.a2 a.m.a3 a.m.a4 a.m.a5 a.m.a6 a.m.a7 a.m.a8 a.n r0 r1 r2 t), .int .i64 (o_ra_4 200 a.m.a0 a.m.a1 a.m.a2 a.m.a3 a.m.a4 a.m.a5 a.m.a6 a.m.a7 a.m.a8 a.n r0 r1 r2 t), .int .i64 (o_ra_5 200 a.m.a0 a.m.a1 a.m.a2 a.m.a3 a.m.a4 a.m.a5 a.m.a6 a.m.a7 a.m.a8 a.n r0 r1 r2 t), .int .i64 (o_ra_6 200 a.m.a0 a.m.a1 a.m.a2 a.m.a3 a.m.a4 a.m.a5 a.m.a6 a.m.a7 a.m.a8 a.n r0 r1 r2 t), .int .i64 (o_ra_7 200 a.m.a0 a.m.a1 a.m.a2 a.m.a3 a.m.a4 a.m.a5 a.m.a6 a.m.a7 a.m.a8 a.n r0 r1 r2 t), .int .i64 (o_ra_8 200 a.m.a0 a.m.a1 a.m.a2 a.m.a3 a.m.a4 a.m.a5 a.m.a6 a.m.a7 a.m.a8 a.n r0 r1 r2 t), .int .i64 (o_ra_9 200 a.m.a0 a.m.a1 a.m.a2 a.m.a3 a.m.a4 a.m.a5 a.m.a6 a.m.a7 a.m.a8 a.n r0 r1 r2 t)], .bool (o_ra_10 200 a.m.a0 a.m.a1 a.m.a2 a.m.a3 a.m.a4 a.m.a5 a.m.a6 a.m.a7 a.m.a8 a.n r0 r1 r2 t)])) := by kernel_rfl
  rw [h, q0, q1, q2, q3, q4, q5, q6, q7, q8, q9, q10] at e
  show unS (s_ra 200) [.v (.agg #[.int .i64 a.m.a0, .int .i64 a.m.a1, .int .i64 a.m.a2, .int .i64 a.m.a3, .int .i64 a.m.a4, .int .i64 a.m.a5, .int .i64 a.m.a6, .int .i64 a.m.a7, .int .i64 a.m.a8, .int .i64 a.n]), .v (.agg #[.int .i32 r0, .int .i32 r1, .int .i32 r2]), .v (.int .i64 t)] = _
  unfold unS
  rw [e]
theorem alift_calls {a : Att} (hM : MI a.m) {v0 v1 v2 : Int} (h0 : I32 v0) (h1 : I32 v1) (h2 : I32 v2) (w : World) : Calls PP 27 #[.agg #[.int .i64 a.m.a0, .int .i64 a.m.a1, .int .i64 a.m.a2, .int .i64 a.m.a3, .int .i64 a.m.a4, .int .i64 a.m.a5, .int .i64 a.m.a6, .int .i64 a.m.a7, .int .i64 a.m.a8, .int .i64 a.n], .agg #[.int .i32 v0, .int .i32 v1, .int .i32 v2]] w fun e w' => e = .returned (.tuple #[.agg #[.int .i64 (clipV (dotZ a.m.a0 a.m.a1 a.m.a2 (wid v0) (wid v1) (wid v2))), .int .i64 (clipV (dotZ a.m.a3 a.m.a4 a.m.a5 (wid v0) (wid v1) (wid v2))), .int .i64 (clipV (dotZ a.m.a6 a.m.a7 a.m.a8 (wid v0) (wid v1) (wid v2)))], .bool (clipC (dotZ a.m.a0 a.m.a1 a.m.a2 (wid v0) (wid v1) (wid v2)) || clipC (dotZ a.m.a3 a.m.a4 a.m.a5 (wid v0) (wid v1) (wid v2)) || clipC (dotZ a.m.a6 a.m.a7 a.m.a8 (wid v0) (wid v1) (wid v2)))]) ∧ Below w.heap.size w w' := by
  refine Good.plain (g_qa 200) [.agg #[.int .i64 a.m.a0, .int .i64 a.m.a1, .int .i64 a.m.a2, .int .i64 a.m.a3, .int .i64 a.m.a4, .int .i64 a.m.a5, .int .i64 a.m.a6, .int .i64 a.m.a7, .int .i64 a.m.a8, .int .i64 a.n], .agg #[.int .i32 v0, .int .i32 v1, .int .i32 v2]] _ ?_ w
  obtain ⟨h, q0, q1, q2, q3⟩ := a_Lift 200 (Nat.le_refl _) hM h0 h1 h2
  have e : s_qa 200 [.v (.agg #[.int .i64 a.m.a0, .int .i64 a.m.a1, .int .i64 a.m.a2, .int .i64 a.m.a3, .int .i64 a.m.a4, .int .i64 a.m.a5, .int .i64 a.m.a6, .int .i64 a.m.a7, .int .i64 a.m.a8, .int .i64 a.n]), .v (.agg #[.int .i32 v0, .int .i32 v1, .int .i32 v2])] = some (ok_qa 200 a.m.a0 a.m.a1 a.m.a2 a.m.a3 a.m.a4 a.m.a5 a.m.a6 a.m.a7 a.m.a8 a.n v0 v1 v2, .v (.tuple #[.agg #[.int .i64 (o_qa_0 200 a.m.a0 a.m.a1 a.m.a2 a.m.a3 a.m.a4 a.m.a5 a.m.a6 a.m.a7 a.m.a8 a.n v0 v1 v2), .int .i64 (o_qa_1 200 a.m.a0 a.m.a1 a.m.a2 a.m.a3 a.m.a4 a.m.a5 a.m.a6 a.m.a7 a.m.a8 a.n v0 v1 v2), .int .i64 (o_qa_2 200 a.m.a0 a.m.a1 a.m.a2 a.m.a3 a.m.a4 a.m.a5 a.m.a6 a.m.a7 a.m.a8 a.n v0 v1 v2)], .bool (o_qa_3 200 a.m.a0 a.m.a1 a.m.a2 a.m.a3 a.m.a4 a.m.a5 a.m.a6 a.m.a7 a.m.a8 a.n v0 v1 v2)])) := by kernel_rfl
  rw [h, q0, q1, q2, q3] at e
  show unS (s_qa 200) [.v (.agg #[.int .i64 a.m.a0, .int .i64 a.m.a1, .int .i64 a.m.a2, .int .i64 a.m.a3, .int .i64 a.m.a4, .int .i64 a.m.a5, .int .i64 a.m.a6, .int .i64 a.m.a7, .int .i64 a.m.a8, .int .i64 a.n]), .v (.agg #[.int .i32 v0, .int .i32 v1, .int .i32 v2])] = _
  unfold unS
  rw [e]
theorem toward_calls (a : Att) (w : World) : Calls PP 32 #[.agg #[.int .i64 a.m.a0, .int .i64 a.m.a1, .int .i64 a.m.a2, .int .i64 a.m.a3, .int .i64 a.m.a4, .int .i64 a.m.a5, .int .i64 a.m.a6, .int .i64 a.m.a7, .int .i64 a.m.a8, .int .i64 a.n], .int .i64 0] w fun e w' => e = .returned (.agg #[.int .i64 a.m.a0, .int .i64 a.m.a3, .int .i64 a.m.a6]) ∧ Below w.heap.size w w' := by
  refine Good.plain (g_n 200) [.agg #[.int .i64 a.m.a0, .int .i64 a.m.a1, .int .i64 a.m.a2, .int .i64 a.m.a3, .int .i64 a.m.a4, .int .i64 a.m.a5, .int .i64 a.m.a6, .int .i64 a.m.a7, .int .i64 a.m.a8, .int .i64 a.n], .int .i64 0] _ ?_ w
  obtain ⟨h, q0, q1, q2⟩ := a_Toward0 200 (Nat.le_refl _) a.m a.n
  have e : s_n 200 [.v (.agg #[.int .i64 a.m.a0, .int .i64 a.m.a1, .int .i64 a.m.a2, .int .i64 a.m.a3, .int .i64 a.m.a4, .int .i64 a.m.a5, .int .i64 a.m.a6, .int .i64 a.m.a7, .int .i64 a.m.a8, .int .i64 a.n]), .v (.int .i64 0)] = some (ok_n 200 a.m.a0 a.m.a1 a.m.a2 a.m.a3 a.m.a4 a.m.a5 a.m.a6 a.m.a7 a.m.a8 a.n 0, .v (.agg #[.int .i64 (o_n_0 200 a.m.a0 a.m.a1 a.m.a2 a.m.a3 a.m.a4 a.m.a5 a.m.a6 a.m.a7 a.m.a8 a.n 0), .int .i64 (o_n_1 200 a.m.a0 a.m.a1 a.m.a2 a.m.a3 a.m.a4 a.m.a5 a.m.a6 a.m.a7 a.m.a8 a.n 0), .int .i64 (o_n_2 200 a.m.a0 a.m.a1 a.m.a2 a.m.a3 a.m.a4 a.m.a5 a.m.a6 a.m.a7 a.m.a8 a.n 0)])) := by kernel_rfl
  rw [h, q0, q1, q2] at e
  show unS (s_n 200) [.v (.agg #[.int .i64 a.m.a0, .int .i64 a.m.a1, .int .i64 a.m.a2, .int .i64 a.m.a3, .int .i64 a.m.a4, .int .i64 a.m.a5, .int .i64 a.m.a6, .int .i64 a.m.a7, .int .i64 a.m.a8, .int .i64 a.n]), .v (.int .i64 0)] = _
  unfold unS
  rw [e]
theorem heading_calls {a : Att} (hM : MI a.m) (w : World) : Calls PP 15 #[.agg #[.int .i64 a.m.a0, .int .i64 a.m.a1, .int .i64 a.m.a2, .int .i64 a.m.a3, .int .i64 a.m.a4, .int .i64 a.m.a5, .int .i64 a.m.a6, .int .i64 a.m.a7, .int .i64 a.m.a8, .int .i64 a.n]] w fun e w' => e = .returned (.int .u32 (angle a.m.a3 a.m.a0)) ∧ Below w.heap.size w w' := by
  refine Good.plain (g_e 200) [.agg #[.int .i64 a.m.a0, .int .i64 a.m.a1, .int .i64 a.m.a2, .int .i64 a.m.a3, .int .i64 a.m.a4, .int .i64 a.m.a5, .int .i64 a.m.a6, .int .i64 a.m.a7, .int .i64 a.m.a8, .int .i64 a.n]] _ ?_ w
  obtain ⟨h, q0⟩ := a_aHeading 200 (Nat.le_refl _) hM
  have e : s_e 200 [.v (.agg #[.int .i64 a.m.a0, .int .i64 a.m.a1, .int .i64 a.m.a2, .int .i64 a.m.a3, .int .i64 a.m.a4, .int .i64 a.m.a5, .int .i64 a.m.a6, .int .i64 a.m.a7, .int .i64 a.m.a8, .int .i64 a.n])] = some (ok_e 200 a.m.a0 a.m.a1 a.m.a2 a.m.a3 a.m.a4 a.m.a5 a.m.a6 a.m.a7 a.m.a8 a.n, .v (.int .u32 (o_e_0 200 a.m.a0 a.m.a1 a.m.a2 a.m.a3 a.m.a4 a.m.a5 a.m.a6 a.m.a7 a.m.a8 a.n))) := by kernel_rfl
  rw [h, q0] at e
  show unS (s_e 200) [.v (.agg #[.int .i64 a.m.a0, .int .i64 a.m.a1, .int .i64 a.m.a2, .int .i64 a.m.a3, .int .i64 a.m.a4, .int .i64 a.m.a5, .int .i64 a.m.a6, .int .i64 a.m.a7, .int .i64 a.m.a8, .int .i64 a.n])] = _
  unfold unS
  rw [e]
end Go.Xv
namespace Go.Xv
open Go.RowKit

/-- what a navigator holds. -/
structure NS where
  g0 : Int
  g1 : Int
  g2 : Int
  v0 : Int
  v1 : Int
  v2 : Int
  p0 : Int
  p1 : Int
  p2 : Int
  drift : Int
  a : Att
  start : Int
  last : Int
  now : Int
  cut : Bool
abbrev navC (s : NS) (mb : Nat) : Array Value := #[.int .i64 s.g0, .int .i64 s.g1, .int .i64 s.g2, .int .i64 s.v0, .int .i64 s.v1, .int .i64 s.v2, .int .i64 s.p0, .int .i64 s.p1, .int .i64 s.p2, .int .i64 s.drift, .int .i64 s.a.m.a0, .int .i64 s.a.m.a1, .int .i64 s.a.m.a2, .int .i64 s.a.m.a3, .int .i64 s.a.m.a4, .int .i64 s.a.m.a5, .int .i64 s.a.m.a6, .int .i64 s.a.m.a7, .int .i64 s.a.m.a8, .int .i64 s.a.n, .map (some mb), .int .i64 s.start, .int .i64 s.last, .int .i64 s.now, .bool s.cut]
def NavAt (w : World) (nb mb : Nat) (s : NS) : Prop := w.heap[nb]? = some (.cells (navC s mb) 56 (0, 0))
structure NS.ok (s : NS) : Prop where
  g0 : I64 s.g0
  g1 : I64 s.g1
  g2 : I64 s.g2
  v0 : I64 s.v0
  v1 : I64 s.v1
  v2 : I64 s.v2
  p0 : I64 s.p0
  p1 : I64 s.p1
  p2 : I64 s.p2
  m : MI s.a.m
  n : 0 ≤ s.a.n ∧ s.a.n ≤ 15
/-- all blocks but nb are as they were. -/
structure Chg (nb : Nat) (w w' : World) : Prop where
  os : w'.os = w.os
  tape : w'.tape = w.tape
  output : w'.output = w.output
  size : w.heap.size ≤ w'.heap.size
  block : ∀ k, k < w.heap.size → k ≠ nb → w'.heap[k]? = w.heap[k]?
theorem Chg.of {nb : Nat} {w w' : World} (h : Below w.heap.size w w') : Chg nb w w' := ⟨h.os, h.tape, h.output, h.size, fun k hk _ => h.block k hk⟩
theorem Chg.refl (nb : Nat) (w : World) : Chg nb w w := ⟨rfl, rfl, rfl, Nat.le_refl _, fun _ _ _ => rfl⟩
theorem Chg.trans {nb : Nat} {w w' w'' : World} (h : Chg nb w w') (k : Chg nb w' w'') : Chg nb w w'' :=
  ⟨k.os.trans h.os, k.tape.trans h.tape, k.output.trans h.output, Nat.le_trans h.size k.size, fun i hi hn => (k.block i (Nat.lt_of_lt_of_le hi h.size) hn).trans (h.block i hi hn)⟩
theorem Chg.setCell {nb : Nat} {w w' : World} (h : Chg nb w w') (o : Nat) (v : Value) : Chg nb w (w'.setCell ⟨nb, o, none⟩ v) :=
  ⟨h.os, h.tape, h.output, by have := h.size; simpa using this, fun k hk hn => (Below.heap_setCell w' ⟨nb, o, none⟩ v k (fun e => hn e)).trans (h.block k hk hn)⟩
theorem Chg.below {nb : Nat} {w w' w'' : World} (h : Chg nb w w') (k : Below w'.heap.size w' w'') : Chg nb w w'' := h.trans (Chg.of k)
theorem Chg.alloc {nb : Nat} {w w' : World} (h : Chg nb w w') (o : Obj) : Chg nb w (w'.alloc o) := h.trans (Chg.of ((Below.refl _ _).alloc (Nat.le_refl _) _))
theorem cell_blk {W : World} {b o : Nat} {cs : Array Value} {ty : TypeId} (h : W.heap[b]? = some (.cells cs ty (0, 0))) : W.cell? ⟨b, o, none⟩ = cs[o]? := cell_of_row W b o cs ty (0, 0) h
theorem frozen_blk {W : World} {b o : Nat} {cs : Array Value} {ty : TypeId} (h : W.heap[b]? = some (.cells cs ty (0, 0))) (_ho : o < cs.size) : W.frozen? ⟨b, o, none⟩ = false := by
  simp [World.frozen?, h]
theorem setCell_blk {W : World} {b o : Nat} {cs : Array Value} {ty : TypeId} {v : Value} (h : W.heap[b]? = some (.cells cs ty (0, 0))) :
    (W.setCell ⟨b, o, none⟩ v).heap[b]? = some (.cells (cs.setIfInBounds o v) ty (0, 0)) := by
  simp only [World.setCell]
  rw [Array.getElem?_modify]
  simp [h]
theorem NavAt.lt {w : World} {nb mb : Nat} {s : NS} (h : NavAt w nb mb s) : nb < w.heap.size := (Array.getElem?_eq_some_iff.1 h).1
theorem NavAt.below {w w' : World} {nb mb : Nat} {s : NS} (h : NavAt w nb mb s) (hb : Below w.heap.size w w') : NavAt w' nb mb s := (hb.block nb h.lt).trans h

/-- the bools lie in block b. -/
def BsIn (w : World) (b : Nat) (bs : List Bool) : Prop := ∀ j x, bs[j]? = some x → w.cell? ⟨b, j, none⟩ = some (.bool x)
def firstT : List Bool → Int → Int
  | [], _ => -1
  | true :: _, i => i
  | false :: r, i => firstT r (i + 1)
theorem firstT_step {bs : List Bool} {j : Nat} {x : Bool} (h : bs[j]? = some x) (i : Int) : firstT (bs.drop j) i = if x = true then i else firstT (bs.drop (j + 1)) (i + 1) := by
  obtain ⟨hlt, hz⟩ := List.getElem?_eq_some_iff.1 h
  rw [List.drop_eq_getElem_cons hlt, hz]
  cases x <;> rfl
theorem firstT_any : ∀ (bs : List Bool) (i : Int), 0 ≤ i → (decide (0 ≤ firstT bs i) = bs.any id)
  | [], _, _ => rfl
  | true :: r, i, h => by simp [firstT, h]
  | false :: r, i, h => by
    have := firstT_any r (i + 1) (by omega)
    exact this
set_option maxRecDepth 100000 in
set_option maxHeartbeats 4000000 in
theorem idx_calls (bs : List Bool) (hn : bs.length ≤ 1000) (b cap : Nat) (w : World) (hb : BsIn w b bs) :
    Calls PP 57 #[.slice (some ⟨b, 0, none⟩) bs.length cap, .bool true] w fun e w' => e = .returned (.int .i64 (firstT bs 0)) ∧ w' = w := by
  go_enter Proofs.Try.func57, Proofs.Try.ntmps57
  go_wp2
  go_loopw [8] (fun i wr => ∃ j : Nat, j ≤ bs.length ∧ i = .int .i64 j ∧ wr = w ∧ firstT (bs.drop j) j = firstT bs 0) (fun i _ => bs.length - (intOf i).toNat)
  case atStart => exact ⟨0, Nat.zero_le _, rfl, rfl, rfl⟩
  case round =>
    obtain ⟨j, hj, rfl, rfl, hst⟩ := hrel
    by_cases hlt : j < bs.length
    · obtain ⟨x, hx⟩ : ∃ x, bs[j]? = some x := ⟨_, List.getElem?_eq_getElem hlt⟩
      have hc := hb j x hx
      rw [firstT_step hx] at hst
      cases x with
      | true =>
        rw [if_pos rfl] at hst
        replace hst := hst.symm
        go_wp2
        go_ret
        simp [hst]
      | false =>
        rw [if_neg (by simp)] at hst
        go_wp2
        exact ⟨⟨j + 1, by omega, by simp, by trivial, by push_cast; exact hst⟩, by simp [intOf]; omega⟩
    · obtain rfl : j = bs.length := by omega
      rw [List.drop_length] at hst
      replace hst : firstT bs 0 = -1 := hst.symm
      go_wp2
      go_ret
      simp [hst]
theorem cont_calls (bs : List Bool) (hn : bs.length ≤ 1000) (b cap : Nat) (w : World) (hb : BsIn w b bs) :
    Calls PP 37 #[.slice (some ⟨b, 0, none⟩) bs.length cap, .bool true] w fun e w' => e = .returned (.bool (bs.any id)) ∧ w' = w := by
  go_enter Proofs.Try.func37, Proofs.Try.ntmps37
  have hf := firstT_any bs 0 (Int.le_refl _)
  have hi := idx_calls bs hn b cap w hb
  go_wp2_with (go_at_call 57; refine hi.mono ?_; clear hi; rintro e w' ⟨rfl, rfl⟩)
  go_ret
  simp
set_option maxRecDepth 100000 in
set_option maxHeartbeats 4000000 in
theorem mind_calls (bs : List Bool) (hn : bs.length ≤ 1000) (b cap nb mb : Nat) (s : NS) (w : World) (hb : BsIn w b bs) (hN : NavAt w nb mb s) :
    Calls PP 21 #[.pointer (some ⟨nb, 0, none⟩), .slice (some ⟨b, 0, none⟩) bs.length cap] w fun e w' => e = .returned (.tuple #[]) ∧ NavAt w' nb mb { s with cut := s.cut || bs.any id } ∧ Chg nb w w' := by
  go_enter Proofs.Try.func21, Proofs.Try.ntmps21
  have c24 : w.cell? ⟨nb, 24, none⟩ = some (.bool s.cut) := cell_blk hN
  have f24 : w.frozen? ⟨nb, 24, none⟩ = false := frozen_blk hN (by simp)
  have hi := cont_calls bs hn b cap w hb
  have hN' := hN
  unfold NavAt at hN'
  cases hc : s.cut with
  | true =>
    rw [hc] at c24
    clear hN
    go_wp2
    go_end0
    refine ⟨rfl, ?_, (Chg.refl nb w).setCell 24 _⟩
    exact setCell_blk hN'
  | false =>
    rw [hc] at c24
    clear hN
    go_wp2_with (go_at_call 37; refine hi.mono ?_; clear hi; rintro e w' ⟨rfl, rfl⟩)
    go_end0
    refine ⟨rfl, ?_, (Chg.refl nb _).setCell 24 _⟩
    exact setCell_blk hN'
end Go.Xv
namespace Go.Xv
open Go.RowKit
def spZ (s : NS) : Int := dotZ s.v0 s.v1 s.v2 s.a.m.a0 s.a.m.a3 s.a.m.a6
theorem bsIn1 {w : World} {x : Bool} {ty : TypeId} : BsIn (w.alloc (.cells #[.bool x] ty)) w.heap.size [x] := by
  intro j y h
  match j, h with
  | 0, h =>
    simp only [List.getElem?_cons_zero, Option.some.injEq] at h
    subst h
    exact cell_blk (heap_alloc_new w _)
  | j + 1, h => simp at h
set_option maxRecDepth 100000 in
set_option maxHeartbeats 4000000 in
theorem speed_calls (nb mb : Nat) (s : NS) (hs : s.ok) (w : World) (hN : NavAt w nb mb s) :
    Calls PP 16 #[.pointer (some ⟨nb, 0, none⟩)] w fun e w' => e = .returned (.int .i64 (clipV (spZ s))) ∧ NavAt w' nb mb { s with cut := s.cut || clipC (spZ s) } ∧ Chg nb w w' := by
  go_enter Proofs.Try.func16, Proofs.Try.ntmps16
  have hS : ∀ w', Below w.heap.size w w' → w'.cell? ⟨nb, 3, none⟩ = some (.int .i64 s.v0) ∧ w'.cell? ⟨nb, 4, none⟩ = some (.int .i64 s.v1) ∧ w'.cell? ⟨nb, 5, none⟩ = some (.int .i64 s.v2) ∧ w'.cell? ⟨nb, 10, none⟩ = some (.int .i64 s.a.m.a0) ∧ w'.cell? ⟨nb, 11, none⟩ = some (.int .i64 s.a.m.a1) ∧ w'.cell? ⟨nb, 12, none⟩ = some (.int .i64 s.a.m.a2) ∧ w'.cell? ⟨nb, 13, none⟩ = some (.int .i64 s.a.m.a3) ∧ w'.cell? ⟨nb, 14, none⟩ = some (.int .i64 s.a.m.a4) ∧ w'.cell? ⟨nb, 15, none⟩ = some (.int .i64 s.a.m.a5) ∧ w'.cell? ⟨nb, 16, none⟩ = some (.int .i64 s.a.m.a6) ∧ w'.cell? ⟨nb, 17, none⟩ = some (.int .i64 s.a.m.a7) ∧ w'.cell? ⟨nb, 18, none⟩ = some (.int .i64 s.a.m.a8) ∧ w'.cell? ⟨nb, 19, none⟩ = some (.int .i64 s.a.n) := fun w' hB => ⟨(hB.cell (p := ⟨nb, _, none⟩) hN.lt).trans (cell_blk hN), (hB.cell (p := ⟨nb, _, none⟩) hN.lt).trans (cell_blk hN), (hB.cell (p := ⟨nb, _, none⟩) hN.lt).trans (cell_blk hN), (hB.cell (p := ⟨nb, _, none⟩) hN.lt).trans (cell_blk hN), (hB.cell (p := ⟨nb, _, none⟩) hN.lt).trans (cell_blk hN), (hB.cell (p := ⟨nb, _, none⟩) hN.lt).trans (cell_blk hN), (hB.cell (p := ⟨nb, _, none⟩) hN.lt).trans (cell_blk hN), (hB.cell (p := ⟨nb, _, none⟩) hN.lt).trans (cell_blk hN), (hB.cell (p := ⟨nb, _, none⟩) hN.lt).trans (cell_blk hN), (hB.cell (p := ⟨nb, _, none⟩) hN.lt).trans (cell_blk hN), (hB.cell (p := ⟨nb, _, none⟩) hN.lt).trans (cell_blk hN), (hB.cell (p := ⟨nb, _, none⟩) hN.lt).trans (cell_blk hN), (hB.cell (p := ⟨nb, _, none⟩) hN.lt).trans (cell_blk hN)⟩
  have hd : Below w.heap.size w w.drew := ⟨rfl, rfl, rfl, Nat.le_refl _, fun _ _ => rfl⟩
  obtain ⟨i0, i1, i2, i3, i4, i5, i6, i7, i8⟩ := hs.m
  have ht := toward_calls s.a
  have hdot := fun w => vdot_calls hs.v0 hs.v1 hs.v2 i0 i3 i6 w
  rw [show dotZ s.v0 s.v1 s.v2 s.a.m.a0 s.a.m.a3 s.a.m.a6 = spZ s from rfl] at hdot
  go_wp2
  go_region_held3 (fun w' => w'.cell? ⟨nb, 3, none⟩ = some (.int .i64 s.v0) ∧ w'.cell? ⟨nb, 4, none⟩ = some (.int .i64 s.v1) ∧ w'.cell? ⟨nb, 5, none⟩ = some (.int .i64 s.v2) ∧ w'.cell? ⟨nb, 10, none⟩ = some (.int .i64 s.a.m.a0) ∧ w'.cell? ⟨nb, 11, none⟩ = some (.int .i64 s.a.m.a1) ∧ w'.cell? ⟨nb, 12, none⟩ = some (.int .i64 s.a.m.a2) ∧ w'.cell? ⟨nb, 13, none⟩ = some (.int .i64 s.a.m.a3) ∧ w'.cell? ⟨nb, 14, none⟩ = some (.int .i64 s.a.m.a4) ∧ w'.cell? ⟨nb, 15, none⟩ = some (.int .i64 s.a.m.a5) ∧ w'.cell? ⟨nb, 16, none⟩ = some (.int .i64 s.a.m.a6) ∧ w'.cell? ⟨nb, 17, none⟩ = some (.int .i64 s.a.m.a7) ∧ w'.cell? ⟨nb, 18, none⟩ = some (.int .i64 s.a.m.a8) ∧ w'.cell? ⟨nb, 19, none⟩ = some (.int .i64 s.a.n)) (first | exact hS _ hd | exact hS _ hB1 | exact hS _ hB2)
    (first
      | (go_at_call 32; refine (ht _).mono ?_; clear ht; rintro e w1 ⟨rfl, hB1⟩; replace hB1 : Below w.heap.size w w1 := hd.trans hB1)
      | (go_at_call 31; refine (hdot _).mono ?_; clear hdot; rintro e w2 ⟨rfl, hB2⟩; replace hB2 : Below w.heap.size w w2 := hB1.trans (hB2.mono hB1.size)))
  have hN2 := hN.below hB2
  have hm := mind_calls [clipC (spZ s)] (by simp) w2.heap.size 1 nb mb s _ (bsIn1 (ty := 4)) (hN2.below ((Below.refl _ w2).alloc (Nat.le_refl _) _))
  clear hS hN
  go_wp2_with (go_at_call 21; refine hm.mono ?_; clear hm; rintro e w3 ⟨rfl, hN3, hC3⟩)
  go_ret
  refine ⟨rfl, ?_, ?_⟩
  · simpa using hN3
  · exact ((Chg.of hB2).alloc _).trans hC3
end Go.Xv
namespace Go.Xv
open Go.RowKit
structure V3 where
  x : Int
  y : Int
  z : Int
def vAddV (a b : V3) : V3 := ⟨clipV (a.x + b.x), clipV (a.y + b.y), clipV (a.z + b.z)⟩
def vAddK (a b : V3) : Bool := clipC (a.x + b.x) || clipC (a.y + b.y) || clipC (a.z + b.z)
def vSubV (a b : V3) : V3 := ⟨clipV (a.x - b.x), clipV (a.y - b.y), clipV (a.z - b.z)⟩
def vSubK (a b : V3) : Bool := clipC (a.x - b.x) || clipC (a.y - b.y) || clipC (a.z - b.z)
def vScaV (a : V3) (k : Int) : V3 := ⟨clipV (pr a.x k), clipV (pr a.y k), clipV (pr a.z k)⟩
def vScaK (a : V3) (k : Int) : Bool := clipC (pr a.x k) || clipC (pr a.y k) || clipC (pr a.z k)
def liftV (a : Att) (x : V3) : V3 := ⟨clipV (dotZ a.m.a0 a.m.a1 a.m.a2 (wid x.x) (wid x.y) (wid x.z)), clipV (dotZ a.m.a3 a.m.a4 a.m.a5 (wid x.x) (wid x.y) (wid x.z)), clipV (dotZ a.m.a6 a.m.a7 a.m.a8 (wid x.x) (wid x.y) (wid x.z))⟩
def liftK (a : Att) (x : V3) : Bool := clipC (dotZ a.m.a0 a.m.a1 a.m.a2 (wid x.x) (wid x.y) (wid x.z)) || clipC (dotZ a.m.a3 a.m.a4 a.m.a5 (wid x.x) (wid x.y) (wid x.z)) || clipC (dotZ a.m.a6 a.m.a7 a.m.a8 (wid x.x) (wid x.y) (wid x.z))
structure V3.I (a : V3) : Prop where
  x : I64 a.x
  y : I64 a.y
  z : I64 a.z
structure V3.W (a : V3) : Prop where
  x : I32 a.x
  y : I32 a.y
  z : I32 a.z
theorem vAddV_I (a b : V3) : (vAddV a b).I := ⟨clipV_I _, clipV_I _, clipV_I _⟩
theorem vSubV_I (a b : V3) : (vSubV a b).I := ⟨clipV_I _, clipV_I _, clipV_I _⟩
theorem vScaV_I (a : V3) (k : Int) : (vScaV a k).I := ⟨clipV_I _, clipV_I _, clipV_I _⟩
theorem liftV_I (a : Att) (x : V3) : (liftV a x).I := ⟨clipV_I _, clipV_I _, clipV_I _⟩
def dtZ (t : Int) : Int := fdivV (t * 4294967296) 429496729600
def NS.g (s : NS) : V3 := ⟨s.g0, s.g1, s.g2⟩
def NS.v (s : NS) : V3 := ⟨s.v0, s.v1, s.v2⟩
def NS.p (s : NS) : V3 := ⟨s.p0, s.p1, s.p2⟩
noncomputable def stA (s : NS) (t : Int) (r : V3) : Att := stepA s.a (byV r.x t) (byV r.y t) (byV r.z t)
noncomputable def stQ (s : NS) (t : Int) (r x : V3) : V3 := vSubV (liftV (stA s t r) x) s.g
noncomputable def stM (s : NS) (t : Int) (r x : V3) : V3 := vScaV (stQ s t r x) (dtZ t)
noncomputable def stV (s : NS) (t : Int) (r x : V3) : V3 := vAddV s.v (stM s t r x)
noncomputable def stY (s : NS) (t : Int) (r x : V3) : V3 := vScaV (stV s t r x) (dtZ t)
noncomputable def stP (s : NS) (t : Int) (r x : V3) : V3 := vAddV s.p (stY s t r x)
noncomputable def stKs (s : NS) (t : Int) (r x : V3) : List Bool := [go3K s.a.m (byV r.x t) (byV r.y t) (byV r.z t), liftK (stA s t r) x, vSubK (liftV (stA s t r) x) s.g, vScaK (stQ s t r x) (dtZ t), vAddK s.v (stM s t r x), vScaK (stV s t r x) (dtZ t), vAddK s.p (stY s t r x)]
/-- a navigator, some ticks on. -/
noncomputable def stepN (s : NS) (t : Int) (r x : V3) : NS :=
  ⟨s.g0, s.g1, s.g2, (stV s t r x).x, (stV s t r x).y, (stV s t r x).z, (stP s t r x).x, (stP s t r x).y, (stP s t r x).z, s.drift, stA s t r, s.start, s.last, s.now, s.cut || (stKs s t r x).any id⟩
end Go.Xv
namespace Go.Xv
open Go.RowKit
theorem store_blk3 {W : World} {b : Nat} {ty : TypeId} {x0 x1 x2 y0 y1 y2 : Value} (h : W.heap[b]? = some (.cells #[y0, y1, y2] ty (0, 0))) : (((W.setCell ⟨b, 0, none⟩ x0).setCell ⟨b, 1, none⟩ x1).setCell ⟨b, 2, none⟩ x2).heap[b]? = some (.cells #[x0, x1, x2] ty (0, 0)) := by
  replace h := setCell_blk (o := 0) (v := x0) h
  simp only [List.setIfInBounds_toArray, List.set_cons_zero, List.set_cons_succ] at h
  replace h := setCell_blk (o := 1) (v := x1) h
  simp only [List.setIfInBounds_toArray, List.set_cons_zero, List.set_cons_succ] at h
  replace h := setCell_blk (o := 2) (v := x2) h
  simp only [List.setIfInBounds_toArray, List.set_cons_zero, List.set_cons_succ] at h
  exact h
theorem store_below3 {B : Nat} {w W : World} {b : Nat} {x0 x1 x2 : Value} (h : Below B w W) (hb : B ≤ b) : Below B w (((W.setCell ⟨b, 0, none⟩ x0).setCell ⟨b, 1, none⟩ x1).setCell ⟨b, 2, none⟩ x2) := by
  repeat' (refine Below.setCell ?_ ?_ _)
  all_goals first | exact h | exact hb
theorem store_blk10 {W : World} {b : Nat} {ty : TypeId} {x0 x1 x2 x3 x4 x5 x6 x7 x8 x9 y0 y1 y2 y3 y4 y5 y6 y7 y8 y9 : Value} (h : W.heap[b]? = some (.cells #[y0, y1, y2, y3, y4, y5, y6, y7, y8, y9] ty (0, 0))) : ((((((((((W.setCell ⟨b, 0, none⟩ x0).setCell ⟨b, 1, none⟩ x1).setCell ⟨b, 2, none⟩ x2).setCell ⟨b, 3, none⟩ x3).setCell ⟨b, 4, none⟩ x4).setCell ⟨b, 5, none⟩ x5).setCell ⟨b, 6, none⟩ x6).setCell ⟨b, 7, none⟩ x7).setCell ⟨b, 8, none⟩ x8).setCell ⟨b, 9, none⟩ x9).heap[b]? = some (.cells #[x0, x1, x2, x3, x4, x5, x6, x7, x8, x9] ty (0, 0)) := by
  replace h := setCell_blk (o := 0) (v := x0) h
  simp only [List.setIfInBounds_toArray, List.set_cons_zero, List.set_cons_succ] at h
  replace h := setCell_blk (o := 1) (v := x1) h
  simp only [List.setIfInBounds_toArray, List.set_cons_zero, List.set_cons_succ] at h
  replace h := setCell_blk (o := 2) (v := x2) h
  simp only [List.setIfInBounds_toArray, List.set_cons_zero, List.set_cons_succ] at h
  replace h := setCell_blk (o := 3) (v := x3) h
  simp only [List.setIfInBounds_toArray, List.set_cons_zero, List.set_cons_succ] at h
  replace h := setCell_blk (o := 4) (v := x4) h
  simp only [List.setIfInBounds_toArray, List.set_cons_zero, List.set_cons_succ] at h
  replace h := setCell_blk (o := 5) (v := x5) h
  simp only [List.setIfInBounds_toArray, List.set_cons_zero, List.set_cons_succ] at h
  replace h := setCell_blk (o := 6) (v := x6) h
  simp only [List.setIfInBounds_toArray, List.set_cons_zero, List.set_cons_succ] at h
  replace h := setCell_blk (o := 7) (v := x7) h
  simp only [List.setIfInBounds_toArray, List.set_cons_zero, List.set_cons_succ] at h
  replace h := setCell_blk (o := 8) (v := x8) h
  simp only [List.setIfInBounds_toArray, List.set_cons_zero, List.set_cons_succ] at h
  replace h := setCell_blk (o := 9) (v := x9) h
  simp only [List.setIfInBounds_toArray, List.set_cons_zero, List.set_cons_succ] at h
  exact h
theorem store_below10 {B : Nat} {w W : World} {b : Nat} {x0 x1 x2 x3 x4 x5 x6 x7 x8 x9 : Value} (h : Below B w W) (hb : B ≤ b) : Below B w ((((((((((W.setCell ⟨b, 0, none⟩ x0).setCell ⟨b, 1, none⟩ x1).setCell ⟨b, 2, none⟩ x2).setCell ⟨b, 3, none⟩ x3).setCell ⟨b, 4, none⟩ x4).setCell ⟨b, 5, none⟩ x5).setCell ⟨b, 6, none⟩ x6).setCell ⟨b, 7, none⟩ x7).setCell ⟨b, 8, none⟩ x8).setCell ⟨b, 9, none⟩ x9) := by
  repeat' (refine Below.setCell ?_ ?_ _)
  all_goals first | exact h | exact hb
end Go.Xv
namespace Go.Xv
open Go.RowKit
theorem drew_heap (w : World) : w.drew.heap = w.heap := rfl
theorem Chg.drew {nb : Nat} {w w' : World} (h : Chg nb w w') : Chg nb w w'.drew := ⟨h.os, h.tape, h.output, h.size, h.block⟩
theorem bsInL (bs : List Bool) (w : World) (ty : TypeId) : BsIn (w.alloc (.cells (bs.map Value.bool).toArray ty)) w.heap.size bs := by
  intro j y h
  rw [cell_blk (heap_alloc_new w _)]
  simp [h]
theorem final_blk {W : World} {b : Nat} {ty : TypeId} {x0 x1 x2 x3 x4 x5 x6 x7 x8 x9 x10 x11 x12 x13 x14 x15 x16 x17 x18 x19 x20 x21 x22 x23 x24 y3 y4 y5 y6 y7 y8 y10 y11 y12 y13 y14 y15 y16 y17 y18 y19 : Value} (h : W.heap[b]? = some (.cells #[x0, x1, x2, x3, x4, x5, x6, x7, x8, x9, x10, x11, x12, x13, x14, x15, x16, x17, x18, x19, x20, x21, x22, x23, x24] ty (0, 0))) : ((((((((((((((((W.setCell ⟨b, 10, none⟩ y10).setCell ⟨b, 11, none⟩ y11).setCell ⟨b, 12, none⟩ y12).setCell ⟨b, 13, none⟩ y13).setCell ⟨b, 14, none⟩ y14).setCell ⟨b, 15, none⟩ y15).setCell ⟨b, 16, none⟩ y16).setCell ⟨b, 17, none⟩ y17).setCell ⟨b, 18, none⟩ y18).setCell ⟨b, 19, none⟩ y19).setCell ⟨b, 3, none⟩ y3).setCell ⟨b, 4, none⟩ y4).setCell ⟨b, 5, none⟩ y5).setCell ⟨b, 6, none⟩ y6).setCell ⟨b, 7, none⟩ y7).setCell ⟨b, 8, none⟩ y8).heap[b]? = some (.cells #[x0, x1, x2, y3, y4, y5, y6, y7, y8, x9, y10, y11, y12, y13, y14, y15, y16, y17, y18, y19, x20, x21, x22, x23, x24] ty (0, 0)) := by
  replace h := setCell_blk (o := 10) (v := y10) h
  simp only [List.setIfInBounds_toArray, List.set_cons_zero, List.set_cons_succ] at h
  replace h := setCell_blk (o := 11) (v := y11) h
  simp only [List.setIfInBounds_toArray, List.set_cons_zero, List.set_cons_succ] at h
  replace h := setCell_blk (o := 12) (v := y12) h
  simp only [List.setIfInBounds_toArray, List.set_cons_zero, List.set_cons_succ] at h
  replace h := setCell_blk (o := 13) (v := y13) h
  simp only [List.setIfInBounds_toArray, List.set_cons_zero, List.set_cons_succ] at h
  replace h := setCell_blk (o := 14) (v := y14) h
  simp only [List.setIfInBounds_toArray, List.set_cons_zero, List.set_cons_succ] at h
  replace h := setCell_blk (o := 15) (v := y15) h
  simp only [List.setIfInBounds_toArray, List.set_cons_zero, List.set_cons_succ] at h
  replace h := setCell_blk (o := 16) (v := y16) h
  simp only [List.setIfInBounds_toArray, List.set_cons_zero, List.set_cons_succ] at h
  replace h := setCell_blk (o := 17) (v := y17) h
  simp only [List.setIfInBounds_toArray, List.set_cons_zero, List.set_cons_succ] at h
  replace h := setCell_blk (o := 18) (v := y18) h
  simp only [List.setIfInBounds_toArray, List.set_cons_zero, List.set_cons_succ] at h
  replace h := setCell_blk (o := 19) (v := y19) h
  simp only [List.setIfInBounds_toArray, List.set_cons_zero, List.set_cons_succ] at h
  replace h := setCell_blk (o := 3) (v := y3) h
  simp only [List.setIfInBounds_toArray, List.set_cons_zero, List.set_cons_succ] at h
  replace h := setCell_blk (o := 4) (v := y4) h
  simp only [List.setIfInBounds_toArray, List.set_cons_zero, List.set_cons_succ] at h
  replace h := setCell_blk (o := 5) (v := y5) h
  simp only [List.setIfInBounds_toArray, List.set_cons_zero, List.set_cons_succ] at h
  replace h := setCell_blk (o := 6) (v := y6) h
  simp only [List.setIfInBounds_toArray, List.set_cons_zero, List.set_cons_succ] at h
  replace h := setCell_blk (o := 7) (v := y7) h
  simp only [List.setIfInBounds_toArray, List.set_cons_zero, List.set_cons_succ] at h
  replace h := setCell_blk (o := 8) (v := y8) h
  simp only [List.setIfInBounds_toArray, List.set_cons_zero, List.set_cons_succ] at h
  exact h
theorem final_nav {W : World} {nb mb : Nat} {s : NS} (h : NavAt W nb mb s) (A : Att) (v p : V3) : NavAt ((((((((((((((((W.setCell ⟨nb, 10, none⟩ (.int .i64 A.m.a0)).setCell ⟨nb, 11, none⟩ (.int .i64 A.m.a1)).setCell ⟨nb, 12, none⟩ (.int .i64 A.m.a2)).setCell ⟨nb, 13, none⟩ (.int .i64 A.m.a3)).setCell ⟨nb, 14, none⟩ (.int .i64 A.m.a4)).setCell ⟨nb, 15, none⟩ (.int .i64 A.m.a5)).setCell ⟨nb, 16, none⟩ (.int .i64 A.m.a6)).setCell ⟨nb, 17, none⟩ (.int .i64 A.m.a7)).setCell ⟨nb, 18, none⟩ (.int .i64 A.m.a8)).setCell ⟨nb, 19, none⟩ (.int .i64 A.n)).setCell ⟨nb, 3, none⟩ (.int .i64 v.x)).setCell ⟨nb, 4, none⟩ (.int .i64 v.y)).setCell ⟨nb, 5, none⟩ (.int .i64 v.z)).setCell ⟨nb, 6, none⟩ (.int .i64 p.x)).setCell ⟨nb, 7, none⟩ (.int .i64 p.y)).setCell ⟨nb, 8, none⟩ (.int .i64 p.z)).drew nb mb ⟨s.g0, s.g1, s.g2, v.x, v.y, v.z, p.x, p.y, p.z, s.drift, A, s.start, s.last, s.now, s.cut⟩ := by
  unfold NavAt at *
  rw [drew_heap]
  exact final_blk (y3 := .int .i64 v.x) (y4 := .int .i64 v.y) (y5 := .int .i64 v.z) (y6 := .int .i64 p.x) (y7 := .int .i64 p.y) (y8 := .int .i64 p.z) (y10 := .int .i64 A.m.a0) (y11 := .int .i64 A.m.a1) (y12 := .int .i64 A.m.a2) (y13 := .int .i64 A.m.a3) (y14 := .int .i64 A.m.a4) (y15 := .int .i64 A.m.a5) (y16 := .int .i64 A.m.a6) (y17 := .int .i64 A.m.a7) (y18 := .int .i64 A.m.a8) (y19 := .int .i64 A.n) h
theorem stA_MI {s : NS} (hs : s.ok) (t : Int) (r : V3) : MI (stA s t r).m := by
  have z : I64 0 := by unfold I64; omega
  have o : I64 4294967296 := by unfold I64; omega
  have hi : ∀ {c : Prop} [Decidable c] {a b : Int}, I64 a → I64 b → I64 (if c then a else b) := fun ha hb => by
    split
    · exact ha
    · exact hb
  unfold stA stepA
  split
  · exact ⟨hi (unV_I _ _ _ _) o, hi (unV_I _ _ _ _) z, hi (unV_I _ _ _ _) z, hi (unV_I _ _ _ _) z, hi (unV_I _ _ _ _) o, hi (unV_I _ _ _ _) z, hi (clipV_I _) z, hi (clipV_I _) z, hi (clipV_I _) o⟩
  · exact mi_go (mi_go (mi_go hs.m _ _) _ _) _ _
set_option maxRecDepth 100000 in
set_option maxHeartbeats 16000000 in
theorem step_calls (nb mb : Nat) (s : NS) (hs : s.ok) (t : Int) (ht0 : 0 ≤ t) (ht1 : t ≤ 65535) (rd : Array Value) (r x : V3) (hr : r.W) (hx : x.W)
    (d1 : rd[1]? = some (.int .i32 r.x)) (d2 : rd[2]? = some (.int .i32 r.y)) (d3 : rd[3]? = some (.int .i32 r.z)) (d4 : rd[4]? = some (.int .i32 x.x)) (d5 : rd[5]? = some (.int .i32 x.y)) (d6 : rd[6]? = some (.int .i32 x.z)) (w : World) (hN : NavAt w nb mb s) :
    Calls PP 14 #[.pointer (some ⟨nb, 0, none⟩), .int .i64 t, .agg rd] w fun e w' => e = .returned (.tuple #[]) ∧ NavAt w' nb mb (stepN s t r x) ∧ Chg nb w w' := by
  go_enter Proofs.Try.func14, Proofs.Try.ntmps14
  have hwt : IntKind.wrap .i64 (t * 4294967296) = t * 4294967296 := by simp [IntKind.wrap, IntKind.signed, IntKind.bits]; omega
  have hdiv := fun w => div_calls (a := t * 4294967296) (b := 429496729600) (by unfold I64; omega) (by unfold I64; omega) w
  rw [show fdivV (t * 4294967296) 429496729600 = dtZ t from rfl] at hdiv
  have hstep := fun w => astep_calls hs.m ⟨by have := hs.n; omega, by have := hs.n; omega⟩ (t := t) hr.x hr.y hr.z w
  rw [show stepA s.a (byV r.x t) (byV r.y t) (byV r.z t) = stA s t r from rfl] at hstep
  go_wp2_with (go_at_call 25; refine (hdiv _).mono ?_; clear hdiv; rintro e w1 ⟨rfl, hB1⟩)
  have h1 : Below w.heap.size w w1 := ((Below.refl _ w).alloc (Nat.le_refl _) _).trans (hB1.mono (by simp))
  have bx1 : w1.heap[w.heap.size]? = some (.cells rd 43 (0, 0)) := (hB1.block _ (by simp)).trans (heap_alloc_new w _)
  have hN1 := hN.below h1
  have hnw := hN.lt
  clear hB1 hwt
  have hS2 : ∀ w', Below w1.heap.size w1 w' → w'.cell? ⟨nb, 10, none⟩ = some (.int .i64 s.a.m.a0) ∧ w'.cell? ⟨nb, 11, none⟩ = some (.int .i64 s.a.m.a1) ∧ w'.cell? ⟨nb, 12, none⟩ = some (.int .i64 s.a.m.a2) ∧ w'.cell? ⟨nb, 13, none⟩ = some (.int .i64 s.a.m.a3) ∧ w'.cell? ⟨nb, 14, none⟩ = some (.int .i64 s.a.m.a4) ∧ w'.cell? ⟨nb, 15, none⟩ = some (.int .i64 s.a.m.a5) ∧ w'.cell? ⟨nb, 16, none⟩ = some (.int .i64 s.a.m.a6) ∧ w'.cell? ⟨nb, 17, none⟩ = some (.int .i64 s.a.m.a7) ∧ w'.cell? ⟨nb, 18, none⟩ = some (.int .i64 s.a.m.a8) ∧ w'.cell? ⟨nb, 19, none⟩ = some (.int .i64 s.a.n) ∧ w'.cell? ⟨w.heap.size, 1, none⟩ = some (.int .i32 r.x) ∧ w'.cell? ⟨w.heap.size, 2, none⟩ = some (.int .i32 r.y) ∧ w'.cell? ⟨w.heap.size, 3, none⟩ = some (.int .i32 r.z) := fun w' hB => ⟨(hB.cell (p := ⟨nb, _, none⟩) hN1.lt).trans (cell_blk hN1), (hB.cell (p := ⟨nb, _, none⟩) hN1.lt).trans (cell_blk hN1), (hB.cell (p := ⟨nb, _, none⟩) hN1.lt).trans (cell_blk hN1), (hB.cell (p := ⟨nb, _, none⟩) hN1.lt).trans (cell_blk hN1), (hB.cell (p := ⟨nb, _, none⟩) hN1.lt).trans (cell_blk hN1), (hB.cell (p := ⟨nb, _, none⟩) hN1.lt).trans (cell_blk hN1), (hB.cell (p := ⟨nb, _, none⟩) hN1.lt).trans (cell_blk hN1), (hB.cell (p := ⟨nb, _, none⟩) hN1.lt).trans (cell_blk hN1), (hB.cell (p := ⟨nb, _, none⟩) hN1.lt).trans (cell_blk hN1), (hB.cell (p := ⟨nb, _, none⟩) hN1.lt).trans (cell_blk hN1), (hB.cell (p := ⟨w.heap.size, _, none⟩) (Array.getElem?_eq_some_iff.1 bx1).1).trans ((cell_blk bx1).trans d1), (hB.cell (p := ⟨w.heap.size, _, none⟩) (Array.getElem?_eq_some_iff.1 bx1).1).trans ((cell_blk bx1).trans d2), (hB.cell (p := ⟨w.heap.size, _, none⟩) (Array.getElem?_eq_some_iff.1 bx1).1).trans ((cell_blk bx1).trans d3)⟩
  have hd2 : Below w1.heap.size w1 w1.drew := ⟨rfl, rfl, rfl, Nat.le_refl _, fun _ _ => rfl⟩
  have hA2 : ∀ o, Below w1.heap.size w1 (w1.alloc o).drew := fun o => hd2.alloc (Nat.le_refl _) o
  have hc2 := fun W (hW : Below w1.heap.size w1 W) => (hstep W).mono fun e w' (h : _ ∧ _) => (⟨h.1, hW.trans (h.2.mono hW.size), h.2⟩ : _ ∧ Below w1.heap.size w1 w' ∧ Below W.heap.size W w')
  go_cut [8, 9] (fun va vb w' => ∃ l, va = .pointer (some ⟨l, 0, none⟩) ∧ vb = .bool (go3K s.a.m (byV r.x t) (byV r.y t) (byV r.z t)) ∧ w'.heap[l]? = some (.cells #[.int .i64 (stA s t r).m.a0, .int .i64 (stA s t r).m.a1, .int .i64 (stA s t r).m.a2, .int .i64 (stA s t r).m.a3, .int .i64 (stA s t r).m.a4, .int .i64 (stA s t r).m.a5, .int .i64 (stA s t r).m.a6, .int .i64 (stA s t r).m.a7, .int .i64 (stA s t r).m.a8, .int .i64 (stA s t r).n] 52 (0, 0)) ∧ w1.heap.size ≤ l ∧ Below w1.heap.size w1 w')
  case first =>
    go_region_held3 (fun w' => w'.cell? ⟨nb, 10, none⟩ = some (.int .i64 s.a.m.a0) ∧ w'.cell? ⟨nb, 11, none⟩ = some (.int .i64 s.a.m.a1) ∧ w'.cell? ⟨nb, 12, none⟩ = some (.int .i64 s.a.m.a2) ∧ w'.cell? ⟨nb, 13, none⟩ = some (.int .i64 s.a.m.a3) ∧ w'.cell? ⟨nb, 14, none⟩ = some (.int .i64 s.a.m.a4) ∧ w'.cell? ⟨nb, 15, none⟩ = some (.int .i64 s.a.m.a5) ∧ w'.cell? ⟨nb, 16, none⟩ = some (.int .i64 s.a.m.a6) ∧ w'.cell? ⟨nb, 17, none⟩ = some (.int .i64 s.a.m.a7) ∧ w'.cell? ⟨nb, 18, none⟩ = some (.int .i64 s.a.m.a8) ∧ w'.cell? ⟨nb, 19, none⟩ = some (.int .i64 s.a.n) ∧ w'.cell? ⟨w.heap.size, 1, none⟩ = some (.int .i32 r.x) ∧ w'.cell? ⟨w.heap.size, 2, none⟩ = some (.int .i32 r.y) ∧ w'.cell? ⟨w.heap.size, 3, none⟩ = some (.int .i32 r.z))
      (first | (with_reducible exact hS2 _ hd2) | (with_reducible exact hS2 _ hBz') | (with_reducible exact hS2 _ (hA2 _)) | (with_reducible exact hS2 _ (hBz'.alloc hBz'.size _)) | (with_reducible exact hS2 _ (store_below10 hBz' (Nat.le_refl _))))
      (first
        | (go_at_call 26
           refine (hc2 _ (by with_reducible exact hd2)).mono ?_
           rintro e wz ⟨rfl, hBz', hBz⟩)
        | (go_at_call 26
           refine (hc2 _ (by with_reducible exact hA2 _)).mono ?_
           rintro e wz ⟨rfl, hBz', hBz⟩
           have hz : wz.heap[w1.heap.size]? = _ := (hBz.block _ (by simp)).trans (heap_alloc_new w1 _)
           have z0 : wz.cell? ⟨w1.heap.size, 0, none⟩ = some (.int .i64 0) := cell_blk hz
           have y0 : wz.frozen? ⟨w1.heap.size, 0, none⟩ = false := frozen_blk hz (by simp)
           have z1 : wz.cell? ⟨w1.heap.size, 1, none⟩ = some (.int .i64 0) := cell_blk hz
           have y1 : wz.frozen? ⟨w1.heap.size, 1, none⟩ = false := frozen_blk hz (by simp)
           have z2 : wz.cell? ⟨w1.heap.size, 2, none⟩ = some (.int .i64 0) := cell_blk hz
           have y2 : wz.frozen? ⟨w1.heap.size, 2, none⟩ = false := frozen_blk hz (by simp)
           have z3 : wz.cell? ⟨w1.heap.size, 3, none⟩ = some (.int .i64 0) := cell_blk hz
           have y3 : wz.frozen? ⟨w1.heap.size, 3, none⟩ = false := frozen_blk hz (by simp)
           have z4 : wz.cell? ⟨w1.heap.size, 4, none⟩ = some (.int .i64 0) := cell_blk hz
           have y4 : wz.frozen? ⟨w1.heap.size, 4, none⟩ = false := frozen_blk hz (by simp)
           have z5 : wz.cell? ⟨w1.heap.size, 5, none⟩ = some (.int .i64 0) := cell_blk hz
           have y5 : wz.frozen? ⟨w1.heap.size, 5, none⟩ = false := frozen_blk hz (by simp)
           have z6 : wz.cell? ⟨w1.heap.size, 6, none⟩ = some (.int .i64 0) := cell_blk hz
           have y6 : wz.frozen? ⟨w1.heap.size, 6, none⟩ = false := frozen_blk hz (by simp)
           have z7 : wz.cell? ⟨w1.heap.size, 7, none⟩ = some (.int .i64 0) := cell_blk hz
           have y7 : wz.frozen? ⟨w1.heap.size, 7, none⟩ = false := frozen_blk hz (by simp)
           have z8 : wz.cell? ⟨w1.heap.size, 8, none⟩ = some (.int .i64 0) := cell_blk hz
           have y8 : wz.frozen? ⟨w1.heap.size, 8, none⟩ = false := frozen_blk hz (by simp)
           have z9 : wz.cell? ⟨w1.heap.size, 9, none⟩ = some (.int .i64 0) := cell_blk hz
           have y9 : wz.frozen? ⟨w1.heap.size, 9, none⟩ = false := frozen_blk hz (by simp)))
    · go_wp2
      go_meet
      case rel => exact ⟨wz.heap.size, rfl, rfl, heap_alloc_new wz _, hBz'.size, hBz'.alloc hBz'.size _⟩
    · go_wp2
      go_meet
      case rel => exact ⟨w1.heap.size, rfl, rfl, store_blk10 hz, Nat.le_refl _, store_below10 hBz' (Nat.le_refl _)⟩
  case rest =>
  obtain ⟨la, rfl, rfl, bla2, hlla, hB2⟩ := hcut
  obtain ⟨w2, hw2⟩ : ∃ x, x = wc := ⟨_, rfl⟩
  subst hw2
  have h2 : Below w.heap.size w w2 := h1.trans (hB2.mono h1.size)
  have bx2 : w2.heap[w.heap.size]? = some (.cells rd 43 (0, 0)) := (hB2.block _ (Array.getElem?_eq_some_iff.1 bx1).1).trans bx1
  have hN2 := hN1.below hB2
  clear hS2 hd2 hA2 hc2
  have hA : MI (stA s t r).m := stA_MI hs t r
  have hlift : ∀ w, Calls PP 27 #[.agg #[.int .i64 (stA s t r).m.a0, .int .i64 (stA s t r).m.a1, .int .i64 (stA s t r).m.a2, .int .i64 (stA s t r).m.a3, .int .i64 (stA s t r).m.a4, .int .i64 (stA s t r).m.a5, .int .i64 (stA s t r).m.a6, .int .i64 (stA s t r).m.a7, .int .i64 (stA s t r).m.a8, .int .i64 (stA s t r).n], .agg #[.int .i32 x.x, .int .i32 x.y, .int .i32 x.z]] w fun e w' => e = .returned (.tuple #[.agg #[.int .i64 (liftV (stA s t r) x).x, .int .i64 (liftV (stA s t r) x).y, .int .i64 (liftV (stA s t r) x).z], .bool (liftK (stA s t r) x)]) ∧ Below w.heap.size w w' := fun w => alift_calls hA hx.x hx.y hx.z w
  have cla0 : w2.cell? ⟨la, 0, none⟩ = some (.int .i64 (stA s t r).m.a0) := cell_blk bla2
  have cla1 : w2.cell? ⟨la, 1, none⟩ = some (.int .i64 (stA s t r).m.a1) := cell_blk bla2
  have cla2 : w2.cell? ⟨la, 2, none⟩ = some (.int .i64 (stA s t r).m.a2) := cell_blk bla2
  have cla3 : w2.cell? ⟨la, 3, none⟩ = some (.int .i64 (stA s t r).m.a3) := cell_blk bla2
  have cla4 : w2.cell? ⟨la, 4, none⟩ = some (.int .i64 (stA s t r).m.a4) := cell_blk bla2
  have cla5 : w2.cell? ⟨la, 5, none⟩ = some (.int .i64 (stA s t r).m.a5) := cell_blk bla2
  have cla6 : w2.cell? ⟨la, 6, none⟩ = some (.int .i64 (stA s t r).m.a6) := cell_blk bla2
  have cla7 : w2.cell? ⟨la, 7, none⟩ = some (.int .i64 (stA s t r).m.a7) := cell_blk bla2
  have cla8 : w2.cell? ⟨la, 8, none⟩ = some (.int .i64 (stA s t r).m.a8) := cell_blk bla2
  have cla9 : w2.cell? ⟨la, 9, none⟩ = some (.int .i64 (stA s t r).n) := cell_blk bla2
  have cbox4 : w2.cell? ⟨w.heap.size, 4, none⟩ = some (.int .i32 x.x) := (cell_blk bx2).trans d4
  have cbox5 : w2.cell? ⟨w.heap.size, 5, none⟩ = some (.int .i32 x.y) := (cell_blk bx2).trans d5
  have cbox6 : w2.cell? ⟨w.heap.size, 6, none⟩ = some (.int .i32 x.z) := (cell_blk bx2).trans d6
  go_wp2_with (go_at_call 27; refine (hlift _).mono ?_; clear hlift; rintro e wz ⟨rfl, hBz⟩)
  clear cla0 cla1 cla2 cla3 cla4 cla5 cla6 cla7 cla8 cla9
  clear cbox4 cbox5 cbox6
  have hB3 : Below w2.heap.size w2 (wz.alloc (.cells #[.int .i64 (liftV (stA s t r) x).x, .int .i64 (liftV (stA s t r) x).y, .int .i64 (liftV (stA s t r) x).z] 28)) := hBz.alloc hBz.size _
  have blf3 : (wz.alloc (.cells #[.int .i64 (liftV (stA s t r) x).x, .int .i64 (liftV (stA s t r) x).y, .int .i64 (liftV (stA s t r) x).z] 28)).heap[wz.heap.size]? = some (.cells #[.int .i64 (liftV (stA s t r) x).x, .int .i64 (liftV (stA s t r) x).y, .int .i64 (liftV (stA s t r) x).z] 28 (0, 0)) := heap_alloc_new wz _
  have hllf := hBz.size
  clear hBz
  generalize wz.alloc (.cells #[.int .i64 (liftV (stA s t r) x).x, .int .i64 (liftV (stA s t r) x).y, .int .i64 (liftV (stA s t r) x).z] 28) = w3 at *
  generalize wz.heap.size = lf at *
  have h3 : Below w.heap.size w w3 := h2.trans (hB3.mono h2.size)
  have bx3 : w3.heap[w.heap.size]? = some (.cells rd 43 (0, 0)) := (hB3.block _ (Array.getElem?_eq_some_iff.1 bx2).1).trans bx2
  have hN3 := hN2.below hB3
  have bla3 : w3.heap[la]? = some (.cells #[.int .i64 (stA s t r).m.a0, .int .i64 (stA s t r).m.a1, .int .i64 (stA s t r).m.a2, .int .i64 (stA s t r).m.a3, .int .i64 (stA s t r).m.a4, .int .i64 (stA s t r).m.a5, .int .i64 (stA s t r).m.a6, .int .i64 (stA s t r).m.a7, .int .i64 (stA s t r).m.a8, .int .i64 (stA s t r).n] 52 (0, 0)) := (hB3.block _ (Array.getElem?_eq_some_iff.1 bla2).1).trans bla2
  have hsub : ∀ w, Calls PP 28 #[.agg #[.int .i64 (liftV (stA s t r) x).x, .int .i64 (liftV (stA s t r) x).y, .int .i64 (liftV (stA s t r) x).z], .agg #[.int .i64 s.g0, .int .i64 s.g1, .int .i64 s.g2]] w fun e w' => e = .returned (.tuple #[.agg #[.int .i64 (stQ s t r x).x, .int .i64 (stQ s t r x).y, .int .i64 (stQ s t r x).z], .bool (vSubK (liftV (stA s t r) x) s.g)]) ∧ Below w.heap.size w w' := fun w => vsub_calls (liftV_I _ _).x (liftV_I _ _).y (liftV_I _ _).z hs.g0 hs.g1 hs.g2 w
  have hS4 : ∀ w', Below w3.heap.size w3 w' → w'.cell? ⟨nb, 0, none⟩ = some (.int .i64 s.g0) ∧ w'.cell? ⟨nb, 1, none⟩ = some (.int .i64 s.g1) ∧ w'.cell? ⟨nb, 2, none⟩ = some (.int .i64 s.g2) ∧ w'.cell? ⟨lf, 0, none⟩ = some (.int .i64 (liftV (stA s t r) x).x) ∧ w'.cell? ⟨lf, 1, none⟩ = some (.int .i64 (liftV (stA s t r) x).y) ∧ w'.cell? ⟨lf, 2, none⟩ = some (.int .i64 (liftV (stA s t r) x).z) := fun w' hB => ⟨(hB.cell (p := ⟨nb, _, none⟩) hN3.lt).trans (cell_blk hN3), (hB.cell (p := ⟨nb, _, none⟩) hN3.lt).trans (cell_blk hN3), (hB.cell (p := ⟨nb, _, none⟩) hN3.lt).trans (cell_blk hN3), (hB.cell (p := ⟨lf, _, none⟩) (Array.getElem?_eq_some_iff.1 blf3).1).trans (cell_blk blf3), (hB.cell (p := ⟨lf, _, none⟩) (Array.getElem?_eq_some_iff.1 blf3).1).trans (cell_blk blf3), (hB.cell (p := ⟨lf, _, none⟩) (Array.getElem?_eq_some_iff.1 blf3).1).trans (cell_blk blf3)⟩
  have hd4 : Below w3.heap.size w3 w3.drew := ⟨rfl, rfl, rfl, Nat.le_refl _, fun _ _ => rfl⟩
  have hA4 : ∀ o, Below w3.heap.size w3 (w3.alloc o).drew := fun o => hd4.alloc (Nat.le_refl _) o
  have hc4 := fun W (hW : Below w3.heap.size w3 W) => (hsub W).mono fun e w' (h : _ ∧ _) => (⟨h.1, hW.trans (h.2.mono hW.size), h.2⟩ : _ ∧ Below w3.heap.size w3 w' ∧ Below W.heap.size W w')
  go_cut [12, 13] (fun va vb w' => ∃ l, va = .pointer (some ⟨l, 0, none⟩) ∧ vb = .bool (vSubK (liftV (stA s t r) x) s.g) ∧ w'.heap[l]? = some (.cells #[.int .i64 (stQ s t r x).x, .int .i64 (stQ s t r x).y, .int .i64 (stQ s t r x).z] 28 (0, 0)) ∧ w3.heap.size ≤ l ∧ Below w3.heap.size w3 w')
  case first =>
    go_region_held3 (fun w' => w'.cell? ⟨nb, 0, none⟩ = some (.int .i64 s.g0) ∧ w'.cell? ⟨nb, 1, none⟩ = some (.int .i64 s.g1) ∧ w'.cell? ⟨nb, 2, none⟩ = some (.int .i64 s.g2) ∧ w'.cell? ⟨lf, 0, none⟩ = some (.int .i64 (liftV (stA s t r) x).x) ∧ w'.cell? ⟨lf, 1, none⟩ = some (.int .i64 (liftV (stA s t r) x).y) ∧ w'.cell? ⟨lf, 2, none⟩ = some (.int .i64 (liftV (stA s t r) x).z))
      (first | (with_reducible exact hS4 _ hd4) | (with_reducible exact hS4 _ hBz') | (with_reducible exact hS4 _ (hA4 _)) | (with_reducible exact hS4 _ (hBz'.alloc hBz'.size _)) | (with_reducible exact hS4 _ (store_below3 hBz' (Nat.le_refl _))))
      (first
        | (go_at_call 28
           refine (hc4 _ (by with_reducible exact hd4)).mono ?_
           rintro e wz ⟨rfl, hBz', hBz⟩)
        | (go_at_call 28
           refine (hc4 _ (by with_reducible exact hA4 _)).mono ?_
           rintro e wz ⟨rfl, hBz', hBz⟩
           have hz : wz.heap[w3.heap.size]? = _ := (hBz.block _ (by simp)).trans (heap_alloc_new w3 _)
           have z0 : wz.cell? ⟨w3.heap.size, 0, none⟩ = some (.int .i64 0) := cell_blk hz
           have y0 : wz.frozen? ⟨w3.heap.size, 0, none⟩ = false := frozen_blk hz (by simp)
           have z1 : wz.cell? ⟨w3.heap.size, 1, none⟩ = some (.int .i64 0) := cell_blk hz
           have y1 : wz.frozen? ⟨w3.heap.size, 1, none⟩ = false := frozen_blk hz (by simp)
           have z2 : wz.cell? ⟨w3.heap.size, 2, none⟩ = some (.int .i64 0) := cell_blk hz
           have y2 : wz.frozen? ⟨w3.heap.size, 2, none⟩ = false := frozen_blk hz (by simp)))
    · go_wp2
      go_meet
      case rel => exact ⟨wz.heap.size, rfl, rfl, heap_alloc_new wz _, hBz'.size, hBz'.alloc hBz'.size _⟩
    · go_wp2
      go_meet
      case rel => exact ⟨w3.heap.size, rfl, rfl, store_blk3 hz, Nat.le_refl _, store_below3 hBz' (Nat.le_refl _)⟩
  case rest =>
  obtain ⟨lq, rfl, rfl, blq4, hllq, hB4⟩ := hcut
  obtain ⟨w4, hw4⟩ : ∃ x, x = wc := ⟨_, rfl⟩
  subst hw4
  have h4 : Below w.heap.size w w4 := h3.trans (hB4.mono h3.size)
  have hN4 := hN3.below hB4
  have bla4 : w4.heap[la]? = some (.cells #[.int .i64 (stA s t r).m.a0, .int .i64 (stA s t r).m.a1, .int .i64 (stA s t r).m.a2, .int .i64 (stA s t r).m.a3, .int .i64 (stA s t r).m.a4, .int .i64 (stA s t r).m.a5, .int .i64 (stA s t r).m.a6, .int .i64 (stA s t r).m.a7, .int .i64 (stA s t r).m.a8, .int .i64 (stA s t r).n] 52 (0, 0)) := (hB4.block _ (Array.getElem?_eq_some_iff.1 bla3).1).trans bla3
  clear hS4 hd4 hA4 hc4
  have hsc1 : ∀ w, Calls PP 29 #[.agg #[.int .i64 (stQ s t r x).x, .int .i64 (stQ s t r x).y, .int .i64 (stQ s t r x).z], .int .i64 (dtZ t)] w fun e w' => e = .returned (.tuple #[.agg #[.int .i64 (stM s t r x).x, .int .i64 (stM s t r x).y, .int .i64 (stM s t r x).z], .bool (vScaK (stQ s t r x) (dtZ t))]) ∧ Below w.heap.size w w' := fun w => vscale_calls (vSubV_I _ _).x (vSubV_I _ _).y (vSubV_I _ _).z (fdivV_I _ _) w
  have clq0 : w4.cell? ⟨lq, 0, none⟩ = some (.int .i64 (stQ s t r x).x) := cell_blk blq4
  have clq1 : w4.cell? ⟨lq, 1, none⟩ = some (.int .i64 (stQ s t r x).y) := cell_blk blq4
  have clq2 : w4.cell? ⟨lq, 2, none⟩ = some (.int .i64 (stQ s t r x).z) := cell_blk blq4
  go_wp2_with (go_at_call 29; refine (hsc1 _).mono ?_; clear hsc1; rintro e wz ⟨rfl, hBz⟩)
  clear clq0 clq1 clq2
  have hB5 : Below w4.heap.size w4 (wz.alloc (.cells #[.int .i64 (stM s t r x).x, .int .i64 (stM s t r x).y, .int .i64 (stM s t r x).z] 28)) := hBz.alloc hBz.size _
  have blm5 : (wz.alloc (.cells #[.int .i64 (stM s t r x).x, .int .i64 (stM s t r x).y, .int .i64 (stM s t r x).z] 28)).heap[wz.heap.size]? = some (.cells #[.int .i64 (stM s t r x).x, .int .i64 (stM s t r x).y, .int .i64 (stM s t r x).z] 28 (0, 0)) := heap_alloc_new wz _
  have hllm := hBz.size
  clear hBz
  generalize wz.alloc (.cells #[.int .i64 (stM s t r x).x, .int .i64 (stM s t r x).y, .int .i64 (stM s t r x).z] 28) = w5 at *
  generalize wz.heap.size = lm at *
  have h5 : Below w.heap.size w w5 := h4.trans (hB5.mono h4.size)
  have hN5 := hN4.below hB5
  have bla5 : w5.heap[la]? = some (.cells #[.int .i64 (stA s t r).m.a0, .int .i64 (stA s t r).m.a1, .int .i64 (stA s t r).m.a2, .int .i64 (stA s t r).m.a3, .int .i64 (stA s t r).m.a4, .int .i64 (stA s t r).m.a5, .int .i64 (stA s t r).m.a6, .int .i64 (stA s t r).m.a7, .int .i64 (stA s t r).m.a8, .int .i64 (stA s t r).n] 52 (0, 0)) := (hB5.block _ (Array.getElem?_eq_some_iff.1 bla4).1).trans bla4
  have hadd1 : ∀ w, Calls PP 19 #[.agg #[.int .i64 s.v0, .int .i64 s.v1, .int .i64 s.v2], .agg #[.int .i64 (stM s t r x).x, .int .i64 (stM s t r x).y, .int .i64 (stM s t r x).z]] w fun e w' => e = .returned (.tuple #[.agg #[.int .i64 (stV s t r x).x, .int .i64 (stV s t r x).y, .int .i64 (stV s t r x).z], .bool (vAddK s.v (stM s t r x))]) ∧ Below w.heap.size w w' := fun w => vadd_calls hs.v0 hs.v1 hs.v2 (vScaV_I _ _).x (vScaV_I _ _).y (vScaV_I _ _).z w
  have hS6 : ∀ w', Below w5.heap.size w5 w' → w'.cell? ⟨nb, 3, none⟩ = some (.int .i64 s.v0) ∧ w'.cell? ⟨nb, 4, none⟩ = some (.int .i64 s.v1) ∧ w'.cell? ⟨nb, 5, none⟩ = some (.int .i64 s.v2) ∧ w'.cell? ⟨lm, 0, none⟩ = some (.int .i64 (stM s t r x).x) ∧ w'.cell? ⟨lm, 1, none⟩ = some (.int .i64 (stM s t r x).y) ∧ w'.cell? ⟨lm, 2, none⟩ = some (.int .i64 (stM s t r x).z) := fun w' hB => ⟨(hB.cell (p := ⟨nb, _, none⟩) hN5.lt).trans (cell_blk hN5), (hB.cell (p := ⟨nb, _, none⟩) hN5.lt).trans (cell_blk hN5), (hB.cell (p := ⟨nb, _, none⟩) hN5.lt).trans (cell_blk hN5), (hB.cell (p := ⟨lm, _, none⟩) (Array.getElem?_eq_some_iff.1 blm5).1).trans (cell_blk blm5), (hB.cell (p := ⟨lm, _, none⟩) (Array.getElem?_eq_some_iff.1 blm5).1).trans (cell_blk blm5), (hB.cell (p := ⟨lm, _, none⟩) (Array.getElem?_eq_some_iff.1 blm5).1).trans (cell_blk blm5)⟩
  have hd6 : Below w5.heap.size w5 w5.drew := ⟨rfl, rfl, rfl, Nat.le_refl _, fun _ _ => rfl⟩
  have hA6 : ∀ o, Below w5.heap.size w5 (w5.alloc o).drew := fun o => hd6.alloc (Nat.le_refl _) o
  have hc6 := fun W (hW : Below w5.heap.size w5 W) => (hadd1 W).mono fun e w' (h : _ ∧ _) => (⟨h.1, hW.trans (h.2.mono hW.size), h.2⟩ : _ ∧ Below w5.heap.size w5 w' ∧ Below W.heap.size W w')
  go_cut [16, 17] (fun va vb w' => ∃ l, va = .pointer (some ⟨l, 0, none⟩) ∧ vb = .bool (vAddK s.v (stM s t r x)) ∧ w'.heap[l]? = some (.cells #[.int .i64 (stV s t r x).x, .int .i64 (stV s t r x).y, .int .i64 (stV s t r x).z] 28 (0, 0)) ∧ w5.heap.size ≤ l ∧ Below w5.heap.size w5 w')
  case first =>
    go_region_held3 (fun w' => w'.cell? ⟨nb, 3, none⟩ = some (.int .i64 s.v0) ∧ w'.cell? ⟨nb, 4, none⟩ = some (.int .i64 s.v1) ∧ w'.cell? ⟨nb, 5, none⟩ = some (.int .i64 s.v2) ∧ w'.cell? ⟨lm, 0, none⟩ = some (.int .i64 (stM s t r x).x) ∧ w'.cell? ⟨lm, 1, none⟩ = some (.int .i64 (stM s t r x).y) ∧ w'.cell? ⟨lm, 2, none⟩ = some (.int .i64 (stM s t r x).z))
      (first | (with_reducible exact hS6 _ hd6) | (with_reducible exact hS6 _ hBz') | (with_reducible exact hS6 _ (hA6 _)) | (with_reducible exact hS6 _ (hBz'.alloc hBz'.size _)) | (with_reducible exact hS6 _ (store_below3 hBz' (Nat.le_refl _))))
      (first
        | (go_at_call 19
           refine (hc6 _ (by with_reducible exact hd6)).mono ?_
           rintro e wz ⟨rfl, hBz', hBz⟩)
        | (go_at_call 19
           refine (hc6 _ (by with_reducible exact hA6 _)).mono ?_
           rintro e wz ⟨rfl, hBz', hBz⟩
           have hz : wz.heap[w5.heap.size]? = _ := (hBz.block _ (by simp)).trans (heap_alloc_new w5 _)
           have z0 : wz.cell? ⟨w5.heap.size, 0, none⟩ = some (.int .i64 0) := cell_blk hz
           have y0 : wz.frozen? ⟨w5.heap.size, 0, none⟩ = false := frozen_blk hz (by simp)
           have z1 : wz.cell? ⟨w5.heap.size, 1, none⟩ = some (.int .i64 0) := cell_blk hz
           have y1 : wz.frozen? ⟨w5.heap.size, 1, none⟩ = false := frozen_blk hz (by simp)
           have z2 : wz.cell? ⟨w5.heap.size, 2, none⟩ = some (.int .i64 0) := cell_blk hz
           have y2 : wz.frozen? ⟨w5.heap.size, 2, none⟩ = false := frozen_blk hz (by simp)))
    · go_wp2
      go_meet
      case rel => exact ⟨wz.heap.size, rfl, rfl, heap_alloc_new wz _, hBz'.size, hBz'.alloc hBz'.size _⟩
    · go_wp2
      go_meet
      case rel => exact ⟨w5.heap.size, rfl, rfl, store_blk3 hz, Nat.le_refl _, store_below3 hBz' (Nat.le_refl _)⟩
  case rest =>
  obtain ⟨lv, rfl, rfl, blv6, hllv, hB6⟩ := hcut
  obtain ⟨w6, hw6⟩ : ∃ x, x = wc := ⟨_, rfl⟩
  subst hw6
  have h6 : Below w.heap.size w w6 := h5.trans (hB6.mono h5.size)
  have hN6 := hN5.below hB6
  have bla6 : w6.heap[la]? = some (.cells #[.int .i64 (stA s t r).m.a0, .int .i64 (stA s t r).m.a1, .int .i64 (stA s t r).m.a2, .int .i64 (stA s t r).m.a3, .int .i64 (stA s t r).m.a4, .int .i64 (stA s t r).m.a5, .int .i64 (stA s t r).m.a6, .int .i64 (stA s t r).m.a7, .int .i64 (stA s t r).m.a8, .int .i64 (stA s t r).n] 52 (0, 0)) := (hB6.block _ (Array.getElem?_eq_some_iff.1 bla5).1).trans bla5
  clear hS6 hd6 hA6 hc6
  have hsc2 : ∀ w, Calls PP 29 #[.agg #[.int .i64 (stV s t r x).x, .int .i64 (stV s t r x).y, .int .i64 (stV s t r x).z], .int .i64 (dtZ t)] w fun e w' => e = .returned (.tuple #[.agg #[.int .i64 (stY s t r x).x, .int .i64 (stY s t r x).y, .int .i64 (stY s t r x).z], .bool (vScaK (stV s t r x) (dtZ t))]) ∧ Below w.heap.size w w' := fun w => vscale_calls (vAddV_I _ _).x (vAddV_I _ _).y (vAddV_I _ _).z (fdivV_I _ _) w
  have clv0 : w6.cell? ⟨lv, 0, none⟩ = some (.int .i64 (stV s t r x).x) := cell_blk blv6
  have clv1 : w6.cell? ⟨lv, 1, none⟩ = some (.int .i64 (stV s t r x).y) := cell_blk blv6
  have clv2 : w6.cell? ⟨lv, 2, none⟩ = some (.int .i64 (stV s t r x).z) := cell_blk blv6
  go_wp2_with (go_at_call 29; refine (hsc2 _).mono ?_; clear hsc2; rintro e wz ⟨rfl, hBz⟩)
  clear clv0 clv1 clv2
  have hB7 : Below w6.heap.size w6 (wz.alloc (.cells #[.int .i64 (stY s t r x).x, .int .i64 (stY s t r x).y, .int .i64 (stY s t r x).z] 28)) := hBz.alloc hBz.size _
  have bly7 : (wz.alloc (.cells #[.int .i64 (stY s t r x).x, .int .i64 (stY s t r x).y, .int .i64 (stY s t r x).z] 28)).heap[wz.heap.size]? = some (.cells #[.int .i64 (stY s t r x).x, .int .i64 (stY s t r x).y, .int .i64 (stY s t r x).z] 28 (0, 0)) := heap_alloc_new wz _
  have hlly := hBz.size
  clear hBz
  generalize wz.alloc (.cells #[.int .i64 (stY s t r x).x, .int .i64 (stY s t r x).y, .int .i64 (stY s t r x).z] 28) = w7 at *
  generalize wz.heap.size = ly at *
  have h7 : Below w.heap.size w w7 := h6.trans (hB7.mono h6.size)
  have hN7 := hN6.below hB7
  have bla7 : w7.heap[la]? = some (.cells #[.int .i64 (stA s t r).m.a0, .int .i64 (stA s t r).m.a1, .int .i64 (stA s t r).m.a2, .int .i64 (stA s t r).m.a3, .int .i64 (stA s t r).m.a4, .int .i64 (stA s t r).m.a5, .int .i64 (stA s t r).m.a6, .int .i64 (stA s t r).m.a7, .int .i64 (stA s t r).m.a8, .int .i64 (stA s t r).n] 52 (0, 0)) := (hB7.block _ (Array.getElem?_eq_some_iff.1 bla6).1).trans bla6
  have blv7 : w7.heap[lv]? = some (.cells #[.int .i64 (stV s t r x).x, .int .i64 (stV s t r x).y, .int .i64 (stV s t r x).z] 28 (0, 0)) := (hB7.block _ (Array.getElem?_eq_some_iff.1 blv6).1).trans blv6
  have hadd2 : ∀ w, Calls PP 19 #[.agg #[.int .i64 s.p0, .int .i64 s.p1, .int .i64 s.p2], .agg #[.int .i64 (stY s t r x).x, .int .i64 (stY s t r x).y, .int .i64 (stY s t r x).z]] w fun e w' => e = .returned (.tuple #[.agg #[.int .i64 (stP s t r x).x, .int .i64 (stP s t r x).y, .int .i64 (stP s t r x).z], .bool (vAddK s.p (stY s t r x))]) ∧ Below w.heap.size w w' := fun w => vadd_calls hs.p0 hs.p1 hs.p2 (vScaV_I _ _).x (vScaV_I _ _).y (vScaV_I _ _).z w
  have hS8 : ∀ w', Below w7.heap.size w7 w' → w'.cell? ⟨nb, 6, none⟩ = some (.int .i64 s.p0) ∧ w'.cell? ⟨nb, 7, none⟩ = some (.int .i64 s.p1) ∧ w'.cell? ⟨nb, 8, none⟩ = some (.int .i64 s.p2) ∧ w'.cell? ⟨ly, 0, none⟩ = some (.int .i64 (stY s t r x).x) ∧ w'.cell? ⟨ly, 1, none⟩ = some (.int .i64 (stY s t r x).y) ∧ w'.cell? ⟨ly, 2, none⟩ = some (.int .i64 (stY s t r x).z) := fun w' hB => ⟨(hB.cell (p := ⟨nb, _, none⟩) hN7.lt).trans (cell_blk hN7), (hB.cell (p := ⟨nb, _, none⟩) hN7.lt).trans (cell_blk hN7), (hB.cell (p := ⟨nb, _, none⟩) hN7.lt).trans (cell_blk hN7), (hB.cell (p := ⟨ly, _, none⟩) (Array.getElem?_eq_some_iff.1 bly7).1).trans (cell_blk bly7), (hB.cell (p := ⟨ly, _, none⟩) (Array.getElem?_eq_some_iff.1 bly7).1).trans (cell_blk bly7), (hB.cell (p := ⟨ly, _, none⟩) (Array.getElem?_eq_some_iff.1 bly7).1).trans (cell_blk bly7)⟩
  have hd8 : Below w7.heap.size w7 w7.drew := ⟨rfl, rfl, rfl, Nat.le_refl _, fun _ _ => rfl⟩
  have hA8 : ∀ o, Below w7.heap.size w7 (w7.alloc o).drew := fun o => hd8.alloc (Nat.le_refl _) o
  have hc8 := fun W (hW : Below w7.heap.size w7 W) => (hadd2 W).mono fun e w' (h : _ ∧ _) => (⟨h.1, hW.trans (h.2.mono hW.size), h.2⟩ : _ ∧ Below w7.heap.size w7 w' ∧ Below W.heap.size W w')
  go_cut [20, 21] (fun va vb w' => ∃ l, va = .pointer (some ⟨l, 0, none⟩) ∧ vb = .bool (vAddK s.p (stY s t r x)) ∧ w'.heap[l]? = some (.cells #[.int .i64 (stP s t r x).x, .int .i64 (stP s t r x).y, .int .i64 (stP s t r x).z] 28 (0, 0)) ∧ w7.heap.size ≤ l ∧ Below w7.heap.size w7 w')
  case first =>
    go_region_held3 (fun w' => w'.cell? ⟨nb, 6, none⟩ = some (.int .i64 s.p0) ∧ w'.cell? ⟨nb, 7, none⟩ = some (.int .i64 s.p1) ∧ w'.cell? ⟨nb, 8, none⟩ = some (.int .i64 s.p2) ∧ w'.cell? ⟨ly, 0, none⟩ = some (.int .i64 (stY s t r x).x) ∧ w'.cell? ⟨ly, 1, none⟩ = some (.int .i64 (stY s t r x).y) ∧ w'.cell? ⟨ly, 2, none⟩ = some (.int .i64 (stY s t r x).z))
      (first | (with_reducible exact hS8 _ hd8) | (with_reducible exact hS8 _ hBz') | (with_reducible exact hS8 _ (hA8 _)) | (with_reducible exact hS8 _ (hBz'.alloc hBz'.size _)) | (with_reducible exact hS8 _ (store_below3 hBz' (Nat.le_refl _))))
      (first
        | (go_at_call 19
           refine (hc8 _ (by with_reducible exact hd8)).mono ?_
           rintro e wz ⟨rfl, hBz', hBz⟩)
        | (go_at_call 19
           refine (hc8 _ (by with_reducible exact hA8 _)).mono ?_
           rintro e wz ⟨rfl, hBz', hBz⟩
           have hz : wz.heap[w7.heap.size]? = _ := (hBz.block _ (by simp)).trans (heap_alloc_new w7 _)
           have z0 : wz.cell? ⟨w7.heap.size, 0, none⟩ = some (.int .i64 0) := cell_blk hz
           have y0 : wz.frozen? ⟨w7.heap.size, 0, none⟩ = false := frozen_blk hz (by simp)
           have z1 : wz.cell? ⟨w7.heap.size, 1, none⟩ = some (.int .i64 0) := cell_blk hz
           have y1 : wz.frozen? ⟨w7.heap.size, 1, none⟩ = false := frozen_blk hz (by simp)
           have z2 : wz.cell? ⟨w7.heap.size, 2, none⟩ = some (.int .i64 0) := cell_blk hz
           have y2 : wz.frozen? ⟨w7.heap.size, 2, none⟩ = false := frozen_blk hz (by simp)))
    · go_wp2
      go_meet
      case rel => exact ⟨wz.heap.size, rfl, rfl, heap_alloc_new wz _, hBz'.size, hBz'.alloc hBz'.size _⟩
    · go_wp2
      go_meet
      case rel => exact ⟨w7.heap.size, rfl, rfl, store_blk3 hz, Nat.le_refl _, store_below3 hBz' (Nat.le_refl _)⟩
  case rest =>
  obtain ⟨lp, rfl, rfl, blp8, hllp, hB8⟩ := hcut
  obtain ⟨w8, hw8⟩ : ∃ x, x = wc := ⟨_, rfl⟩
  subst hw8
  have h8 : Below w.heap.size w w8 := h7.trans (hB8.mono h7.size)
  have hN8 := hN7.below hB8
  have bla8 : w8.heap[la]? = some (.cells #[.int .i64 (stA s t r).m.a0, .int .i64 (stA s t r).m.a1, .int .i64 (stA s t r).m.a2, .int .i64 (stA s t r).m.a3, .int .i64 (stA s t r).m.a4, .int .i64 (stA s t r).m.a5, .int .i64 (stA s t r).m.a6, .int .i64 (stA s t r).m.a7, .int .i64 (stA s t r).m.a8, .int .i64 (stA s t r).n] 52 (0, 0)) := (hB8.block _ (Array.getElem?_eq_some_iff.1 bla7).1).trans bla7
  have blv8 : w8.heap[lv]? = some (.cells #[.int .i64 (stV s t r x).x, .int .i64 (stV s t r x).y, .int .i64 (stV s t r x).z] 28 (0, 0)) := (hB8.block _ (Array.getElem?_eq_some_iff.1 blv7).1).trans blv7
  clear hS8 hd8 hA8 hc8
  have hA8 : Below w8.heap.size w8 (w8.alloc (.cells #[.bool (go3K s.a.m (byV r.x t) (byV r.y t) (byV r.z t)), .bool (liftK (stA s t r) x), .bool (vSubK (liftV (stA s t r) x) s.g), .bool (vScaK (stQ s t r x) (dtZ t)), .bool (vAddK s.v (stM s t r x)), .bool (vScaK (stV s t r x) (dtZ t)), .bool (vAddK s.p (stY s t r x))] 4)) := (Below.refl _ _).alloc (Nat.le_refl _) _
  have hm := mind_calls [go3K s.a.m (byV r.x t) (byV r.y t) (byV r.z t), liftK (stA s t r) x, vSubK (liftV (stA s t r) x) s.g, vScaK (stQ s t r x) (dtZ t), vAddK s.v (stM s t r x), vScaK (stV s t r x) (dtZ t), vAddK s.p (stY s t r x)] (by simp) w8.heap.size 7 nb mb s (w8.alloc (.cells #[.bool (go3K s.a.m (byV r.x t) (byV r.y t) (byV r.z t)), .bool (liftK (stA s t r) x), .bool (vSubK (liftV (stA s t r) x) s.g), .bool (vScaK (stQ s t r x) (dtZ t)), .bool (vAddK s.v (stM s t r x)), .bool (vScaK (stV s t r x) (dtZ t)), .bool (vAddK s.p (stY s t r x))] 4)) (bsInL _ _ _) (hN8.below hA8)
  go_wp2_with (go_at_call 21; refine hm.mono ?_; clear hm; rintro e w9 ⟨rfl, hN9, hC9⟩)
  have hC : Chg nb w8 w9 := (Chg.of hA8).trans hC9
  have bla9 : w9.heap[la]? = some (.cells #[.int .i64 (stA s t r).m.a0, .int .i64 (stA s t r).m.a1, .int .i64 (stA s t r).m.a2, .int .i64 (stA s t r).m.a3, .int .i64 (stA s t r).m.a4, .int .i64 (stA s t r).m.a5, .int .i64 (stA s t r).m.a6, .int .i64 (stA s t r).m.a7, .int .i64 (stA s t r).m.a8, .int .i64 (stA s t r).n] 52 (0, 0)) := (hC.block _ (Array.getElem?_eq_some_iff.1 bla8).1 (by have := h1.size; have := h3.size; have := h5.size; have := h7.size; omega)).trans bla8
  have blv9 : w9.heap[lv]? = some (.cells #[.int .i64 (stV s t r x).x, .int .i64 (stV s t r x).y, .int .i64 (stV s t r x).z] 28 (0, 0)) := (hC.block _ (Array.getElem?_eq_some_iff.1 blv8).1 (by have := h1.size; have := h3.size; have := h5.size; have := h7.size; omega)).trans blv8
  have blp9 : w9.heap[lp]? = some (.cells #[.int .i64 (stP s t r x).x, .int .i64 (stP s t r x).y, .int .i64 (stP s t r x).z] 28 (0, 0)) := (hC.block _ (Array.getElem?_eq_some_iff.1 blp8).1 (by have := h1.size; have := h3.size; have := h5.size; have := h7.size; omega)).trans blp8
  have hS10 : ∀ w', Chg nb w9 w' → w'.cell? ⟨la, 0, none⟩ = some (.int .i64 (stA s t r).m.a0) ∧ w'.cell? ⟨la, 1, none⟩ = some (.int .i64 (stA s t r).m.a1) ∧ w'.cell? ⟨la, 2, none⟩ = some (.int .i64 (stA s t r).m.a2) ∧ w'.cell? ⟨la, 3, none⟩ = some (.int .i64 (stA s t r).m.a3) ∧ w'.cell? ⟨la, 4, none⟩ = some (.int .i64 (stA s t r).m.a4) ∧ w'.cell? ⟨la, 5, none⟩ = some (.int .i64 (stA s t r).m.a5) ∧ w'.cell? ⟨la, 6, none⟩ = some (.int .i64 (stA s t r).m.a6) ∧ w'.cell? ⟨la, 7, none⟩ = some (.int .i64 (stA s t r).m.a7) ∧ w'.cell? ⟨la, 8, none⟩ = some (.int .i64 (stA s t r).m.a8) ∧ w'.cell? ⟨la, 9, none⟩ = some (.int .i64 (stA s t r).n) ∧ w'.cell? ⟨lv, 0, none⟩ = some (.int .i64 (stV s t r x).x) ∧ w'.cell? ⟨lv, 1, none⟩ = some (.int .i64 (stV s t r x).y) ∧ w'.cell? ⟨lv, 2, none⟩ = some (.int .i64 (stV s t r x).z) ∧ w'.cell? ⟨lp, 0, none⟩ = some (.int .i64 (stP s t r x).x) ∧ w'.cell? ⟨lp, 1, none⟩ = some (.int .i64 (stP s t r x).y) ∧ w'.cell? ⟨lp, 2, none⟩ = some (.int .i64 (stP s t r x).z) := fun w' hc => ⟨(World.cell?_of_block (w := w9) (a := ⟨la, _, none⟩) (hc.block la (Array.getElem?_eq_some_iff.1 bla9).1 (by have := h1.size; have := h3.size; have := h5.size; have := h7.size; omega))).trans (cell_blk bla9), (World.cell?_of_block (w := w9) (a := ⟨la, _, none⟩) (hc.block la (Array.getElem?_eq_some_iff.1 bla9).1 (by have := h1.size; have := h3.size; have := h5.size; have := h7.size; omega))).trans (cell_blk bla9), (World.cell?_of_block (w := w9) (a := ⟨la, _, none⟩) (hc.block la (Array.getElem?_eq_some_iff.1 bla9).1 (by have := h1.size; have := h3.size; have := h5.size; have := h7.size; omega))).trans (cell_blk bla9), (World.cell?_of_block (w := w9) (a := ⟨la, _, none⟩) (hc.block la (Array.getElem?_eq_some_iff.1 bla9).1 (by have := h1.size; have := h3.size; have := h5.size; have := h7.size; omega))).trans (cell_blk bla9), (World.cell?_of_block (w := w9) (a := ⟨la, _, none⟩) (hc.block la (Array.getElem?_eq_some_iff.1 bla9).1 (by have := h1.size; have := h3.size; have := h5.size; have := h7.size; omega))).trans (cell_blk bla9), (World.cell?_of_block (w := w9) (a := ⟨la, _, none⟩) (hc.block la (Array.getElem?_eq_some_iff.1 bla9).1 (by have := h1.size; have := h3.size; have := h5.size; have := h7.size; omega))).trans (cell_blk bla9), (World.cell?_of_block (w := w9) (a := ⟨la, _, none⟩) (hc.block la (Array.getElem?_eq_some_iff.1 bla9).1 (by have := h1.size; have := h3.size; have := h5.size; have := h7.size; omega))).trans (cell_blk bla9), (World.cell?_of_block (w := w9) (a := ⟨la, _, none⟩) (hc.block la (Array.getElem?_eq_some_iff.1 bla9).1 (by have := h1.size; have := h3.size; have := h5.size; have := h7.size; omega))).trans (cell_blk bla9), (World.cell?_of_block (w := w9) (a := ⟨la, _, none⟩) (hc.block la (Array.getElem?_eq_some_iff.1 bla9).1 (by have := h1.size; have := h3.size; have := h5.size; have := h7.size; omega))).trans (cell_blk bla9), (World.cell?_of_block (w := w9) (a := ⟨la, _, none⟩) (hc.block la (Array.getElem?_eq_some_iff.1 bla9).1 (by have := h1.size; have := h3.size; have := h5.size; have := h7.size; omega))).trans (cell_blk bla9), (World.cell?_of_block (w := w9) (a := ⟨lv, _, none⟩) (hc.block lv (Array.getElem?_eq_some_iff.1 blv9).1 (by have := h1.size; have := h3.size; have := h5.size; have := h7.size; omega))).trans (cell_blk blv9), (World.cell?_of_block (w := w9) (a := ⟨lv, _, none⟩) (hc.block lv (Array.getElem?_eq_some_iff.1 blv9).1 (by have := h1.size; have := h3.size; have := h5.size; have := h7.size; omega))).trans (cell_blk blv9), (World.cell?_of_block (w := w9) (a := ⟨lv, _, none⟩) (hc.block lv (Array.getElem?_eq_some_iff.1 blv9).1 (by have := h1.size; have := h3.size; have := h5.size; have := h7.size; omega))).trans (cell_blk blv9), (World.cell?_of_block (w := w9) (a := ⟨lp, _, none⟩) (hc.block lp (Array.getElem?_eq_some_iff.1 blp9).1 (by have := h1.size; have := h3.size; have := h5.size; have := h7.size; omega))).trans (cell_blk blp9), (World.cell?_of_block (w := w9) (a := ⟨lp, _, none⟩) (hc.block lp (Array.getElem?_eq_some_iff.1 blp9).1 (by have := h1.size; have := h3.size; have := h5.size; have := h7.size; omega))).trans (cell_blk blp9), (World.cell?_of_block (w := w9) (a := ⟨lp, _, none⟩) (hc.block lp (Array.getElem?_eq_some_iff.1 blp9).1 (by have := h1.size; have := h3.size; have := h5.size; have := h7.size; omega))).trans (cell_blk blp9)⟩
  have n10 : w9.cell? ⟨nb, 10, none⟩ = some (.int .i64 s.a.m.a0) := cell_blk hN9
  have f10 : w9.frozen? ⟨nb, 10, none⟩ = false := frozen_blk hN9 (by simp)
  have n11 : w9.cell? ⟨nb, 11, none⟩ = some (.int .i64 s.a.m.a1) := cell_blk hN9
  have f11 : w9.frozen? ⟨nb, 11, none⟩ = false := frozen_blk hN9 (by simp)
  have n12 : w9.cell? ⟨nb, 12, none⟩ = some (.int .i64 s.a.m.a2) := cell_blk hN9
  have f12 : w9.frozen? ⟨nb, 12, none⟩ = false := frozen_blk hN9 (by simp)
  have n13 : w9.cell? ⟨nb, 13, none⟩ = some (.int .i64 s.a.m.a3) := cell_blk hN9
  have f13 : w9.frozen? ⟨nb, 13, none⟩ = false := frozen_blk hN9 (by simp)
  have n14 : w9.cell? ⟨nb, 14, none⟩ = some (.int .i64 s.a.m.a4) := cell_blk hN9
  have f14 : w9.frozen? ⟨nb, 14, none⟩ = false := frozen_blk hN9 (by simp)
  have n15 : w9.cell? ⟨nb, 15, none⟩ = some (.int .i64 s.a.m.a5) := cell_blk hN9
  have f15 : w9.frozen? ⟨nb, 15, none⟩ = false := frozen_blk hN9 (by simp)
  have n16 : w9.cell? ⟨nb, 16, none⟩ = some (.int .i64 s.a.m.a6) := cell_blk hN9
  have f16 : w9.frozen? ⟨nb, 16, none⟩ = false := frozen_blk hN9 (by simp)
  have n17 : w9.cell? ⟨nb, 17, none⟩ = some (.int .i64 s.a.m.a7) := cell_blk hN9
  have f17 : w9.frozen? ⟨nb, 17, none⟩ = false := frozen_blk hN9 (by simp)
  have n18 : w9.cell? ⟨nb, 18, none⟩ = some (.int .i64 s.a.m.a8) := cell_blk hN9
  have f18 : w9.frozen? ⟨nb, 18, none⟩ = false := frozen_blk hN9 (by simp)
  have n19 : w9.cell? ⟨nb, 19, none⟩ = some (.int .i64 s.a.n) := cell_blk hN9
  have f19 : w9.frozen? ⟨nb, 19, none⟩ = false := frozen_blk hN9 (by simp)
  have n3 : w9.cell? ⟨nb, 3, none⟩ = some (.int .i64 s.v0) := cell_blk hN9
  have f3 : w9.frozen? ⟨nb, 3, none⟩ = false := frozen_blk hN9 (by simp)
  have n4 : w9.cell? ⟨nb, 4, none⟩ = some (.int .i64 s.v1) := cell_blk hN9
  have f4 : w9.frozen? ⟨nb, 4, none⟩ = false := frozen_blk hN9 (by simp)
  have n5 : w9.cell? ⟨nb, 5, none⟩ = some (.int .i64 s.v2) := cell_blk hN9
  have f5 : w9.frozen? ⟨nb, 5, none⟩ = false := frozen_blk hN9 (by simp)
  have n6 : w9.cell? ⟨nb, 6, none⟩ = some (.int .i64 s.p0) := cell_blk hN9
  have f6 : w9.frozen? ⟨nb, 6, none⟩ = false := frozen_blk hN9 (by simp)
  have n7 : w9.cell? ⟨nb, 7, none⟩ = some (.int .i64 s.p1) := cell_blk hN9
  have f7 : w9.frozen? ⟨nb, 7, none⟩ = false := frozen_blk hN9 (by simp)
  have n8 : w9.cell? ⟨nb, 8, none⟩ = some (.int .i64 s.p2) := cell_blk hN9
  have f8 : w9.frozen? ⟨nb, 8, none⟩ = false := frozen_blk hN9 (by simp)
  have c9 := Chg.refl nb w9
  go_region_held3 (fun w' => w'.cell? ⟨la, 0, none⟩ = some (.int .i64 (stA s t r).m.a0) ∧ w'.cell? ⟨la, 1, none⟩ = some (.int .i64 (stA s t r).m.a1) ∧ w'.cell? ⟨la, 2, none⟩ = some (.int .i64 (stA s t r).m.a2) ∧ w'.cell? ⟨la, 3, none⟩ = some (.int .i64 (stA s t r).m.a3) ∧ w'.cell? ⟨la, 4, none⟩ = some (.int .i64 (stA s t r).m.a4) ∧ w'.cell? ⟨la, 5, none⟩ = some (.int .i64 (stA s t r).m.a5) ∧ w'.cell? ⟨la, 6, none⟩ = some (.int .i64 (stA s t r).m.a6) ∧ w'.cell? ⟨la, 7, none⟩ = some (.int .i64 (stA s t r).m.a7) ∧ w'.cell? ⟨la, 8, none⟩ = some (.int .i64 (stA s t r).m.a8) ∧ w'.cell? ⟨la, 9, none⟩ = some (.int .i64 (stA s t r).n) ∧ w'.cell? ⟨lv, 0, none⟩ = some (.int .i64 (stV s t r x).x) ∧ w'.cell? ⟨lv, 1, none⟩ = some (.int .i64 (stV s t r x).y) ∧ w'.cell? ⟨lv, 2, none⟩ = some (.int .i64 (stV s t r x).z) ∧ w'.cell? ⟨lp, 0, none⟩ = some (.int .i64 (stP s t r x).x) ∧ w'.cell? ⟨lp, 1, none⟩ = some (.int .i64 (stP s t r x).y) ∧ w'.cell? ⟨lp, 2, none⟩ = some (.int .i64 (stP s t r x).z))
    (first | (with_reducible refine hS10 _ ?_; repeat (first | (with_reducible exact c9) | (with_reducible refine Chg.drew ?_) | (with_reducible refine Chg.setCell ?_ _ _))))
    (fail)
  go_wp2
  go_end0
  have hcw : Chg nb w w9 := (Chg.of h8).trans hC
  refine ⟨rfl, final_nav hN9 (stA s t r) (stV s t r x) (stP s t r x), ?_⟩
  repeat (first | (with_reducible exact hcw) | (with_reducible refine Chg.drew ?_) | (with_reducible refine Chg.setCell ?_ _ _))
end Go.Xv
namespace Go.Xv
open Go.RowKit
theorem map_ne (mb : Nat) (w : World) : Sem.run PP (binOp BinOp.neq 54 (Value.map (some mb)) (Value.map none)) w = .ok (.bool true) w := by
  kernel_rfl
set_option maxRecDepth 100000 in
theorem is_calls (nb mb : Nat) (s : NS) (w : World) (hN : NavAt w nb mb s) : Calls PP 12 #[.pointer (some ⟨nb, 0, none⟩)] w fun e w' => e = .returned (.bool true) ∧ w' = w := by
  go_enter Proofs.Try.func12, Proofs.Try.ntmps12
  have hmm := map_ne mb
  have c20 : w.cell? ⟨nb, 20, none⟩ = some (.map (some mb)) := cell_blk hN
  go_wp2
  go_ret
  simp
set_option maxRecDepth 100000 in
theorem at_calls (nb mb : Nat) (s : NS) (t : Int) (w : World) (hN : NavAt w nb mb s) : Calls PP 13 #[.pointer (some ⟨nb, 0, none⟩), .int .i64 t] w fun e w' =>
    (¬ (s.now ≤ t ∧ t ≤ 1099511627776) ∧ e = .returned (.int .i64 2) ∧ w' = w) ∨ ((s.now ≤ t ∧ t ≤ 1099511627776) ∧ e = .returned (.int .i64 0) ∧ w' = w.setCell ⟨nb, 23, none⟩ (.int .i64 t)) := by
  go_enter Proofs.Try.func13, Proofs.Try.ntmps13
  have hi := is_calls nb mb s w hN
  have c23 : w.cell? ⟨nb, 23, none⟩ = some (.int .i64 s.now) := cell_blk hN
  have f23 : w.frozen? ⟨nb, 23, none⟩ = false := frozen_blk hN (by simp)
  by_cases h1 : t < s.now
  · go_wp2_with (go_at_call 12; refine hi.mono ?_; clear hi; rintro e w' ⟨rfl, rfl⟩)
    go_ret
    exact .inl ⟨by omega, rfl, rfl⟩
  · by_cases h2 : 1099511627776 < t
    · go_wp2_with (go_at_call 12; refine hi.mono ?_; clear hi; rintro e w' ⟨rfl, rfl⟩)
      go_ret
      exact .inl ⟨by omega, rfl, rfl⟩
    · go_wp2_with (go_at_call 12; refine hi.mono ?_; clear hi; rintro e w' ⟨rfl, rfl⟩)
      go_ret
      exact .inr ⟨by omega, rfl, rfl⟩
end Go.Xv
namespace Go.Xv
open Go.RowKit
/-- what a navigator holds behind a reading, and what it answers. -/
noncomputable def imuN (s : NS) (t kd : Int) (r x : V3) : NS :=
  if kd = 1 ∧ s.now ≤ t ∧ t ≤ 1099511627776 then
    (if s.start = -1 then { s with now := t, start := t, last := t } else { stepN { s with now := t } (min (t - s.last) 65535) r x with last := t })
  else s
def imuE (s : NS) (t kd : Int) : Int := if kd = 1 ∧ s.now ≤ t ∧ t ≤ 1099511627776 then 0 else 2
/-- a reading's cells. -/
structure RdOf (f : Nat → Value) (kd : Int) (r x : V3) : Prop where
  d0 : f 0 = .int .i64 kd
  d1 : f 1 = .int .i32 r.x
  d2 : f 2 = .int .i32 r.y
  d3 : f 3 = .int .i32 r.z
  d4 : f 4 = .int .i32 x.x
  d5 : f 5 = .int .i32 x.y
  d6 : f 6 = .int .i32 x.z
theorem under_row {P : Program} {t : TypeId} (h : (match P.underlying t with | some d => d.isRow | none => false) = true) : ∃ d, P.underlying t = some d ∧ d.isRow = true := by
  cases hd : P.underlying t with
  | none => rw [hd] at h; exact absurd h (by simp)
  | some d => exact ⟨d, rfl, by rw [hd] at h; exact h⟩
def rdA (f : Nat → Value) : Array Value := #[f 0, f 1, f 2, f 3, f 4, f 5, f 6, f 7, f 8, f 9, f 10, f 11, f 12, f 13, f 14, f 15, f 16, f 17, f 18, f 19, f 20, f 21, f 22, f 23, f 24, f 25, f 26, f 27, f 28, f 29, f 30, f 31, f 32, f 33, f 34, f 35, f 36, f 37, f 38, f 39, f 40, f 41, f 42, f 43, f 44, f 45, f 46, f 47, f 48, f 49, f 50, f 51, f 52, f 53, f 54, f 55, f 56]
theorem rdA_get (f : Nat → Value) (k : Nat) (hk : k < 57) : (rdA f)[k]? = some (f k) := by
  have h : rdA f = ((List.range 57).map f).toArray := by unfold rdA; kernel_rfl
  rw [h]
  simp [hk]
set_option maxRecDepth 100000 in
set_option maxHeartbeats 8000000 in
theorem imu_calls (nb mb : Nat) (s : NS) (hs : s.ok) (hf : s.start = -1 ∨ (0 ≤ s.last ∧ s.last ≤ s.now)) (t kd : Int) (r x : V3) (hr : r.W) (hx : x.W) (f : Nat → Value) (hd : RdOf f kd r x) (w : World) (hN : NavAt w nb mb s) :
    Calls PP 6 #[.pointer (some ⟨nb, 0, none⟩), .int .i64 t, .agg (rdA f)] w fun e w' => e = .returned (.int .i64 (imuE s t kd)) ∧ NavAt w' nb mb (imuN s t kd r x) ∧ Chg nb w w' := by
  go_enter Proofs.Try.func6, Proofs.Try.ntmps6
  have hA0 : Below w.heap.size w (w.alloc (.cells (rdA f) 43)) := (Below.refl _ w).alloc (Nat.le_refl _) _
  have hN0 := hN.below hA0
  have hi := is_calls nb mb s _ hN0
  have ha := at_calls nb mb s t _ hN0
  have k0 : (w.alloc (.cells (rdA f) 43)).cell? ⟨w.heap.size, 0, none⟩ = some (.int .i64 kd) := (cell_blk (heap_alloc_new w _)).trans ((rdA_get f 0 (by omega)).trans (congrArg some hd.d0))
  by_cases hk : kd = 1
  · subst hk
    by_cases ht : s.now ≤ t ∧ t ≤ 1099511627776
    · have hE : imuE s t 1 = 0 := by unfold imuE; rw [if_pos ⟨rfl, ht⟩]
      rw [hE]
      replace ha := ha.mono (R' := fun e w' => e = .returned (.int .i64 0) ∧ NavAt w' nb mb { s with now := t } ∧ Chg nb (w.alloc (.cells (rdA f) 43)) w') fun e w' h => by
        rcases h with h | h
        · exact absurd ht h.1
        · obtain ⟨_, rfl, rfl⟩ := h
          exact ⟨rfl, setCell_blk hN0, (Chg.refl nb _).setCell 23 _⟩
      have hnw := hN.lt
      obtain ⟨s', hs'⟩ : ∃ s', s' = ({ s with now := t } : NS) := ⟨_, rfl⟩
      have hs1 : s'.ok := by rw [hs']; exact ⟨hs.g0, hs.g1, hs.g2, hs.v0, hs.v1, hs.v2, hs.p0, hs.p1, hs.p2, hs.m, hs.n⟩
      have hst : s'.start = s.start := by rw [hs']
      have hla : s'.last = s.last := by rw [hs']
      have hI : imuN s t 1 r x = if s.start = -1 then { s' with start := t, last := t } else { stepN s' (min (t - s.last) 65535) r x with last := t } := by unfold imuN; rw [if_pos ⟨rfl, ht⟩, hs']
      rw [hI]
      rw [← hs'] at ha
      clear hI hs'
      by_cases h0 : s.start = -1
      · rw [if_pos h0]
        go_wp2_with (first
          | (go_at_call 12; refine hi.mono ?_; clear hi; rintro e w' ⟨rfl, rfl⟩)
          | (go_at_call 13; refine ha.mono ?_; clear ha; rintro e w1 ⟨rfl, hN1, hC1⟩
             have c21 : w1.cell? ⟨nb, 21, none⟩ = some (.int .i64 s'.start) := cell_blk hN1
             have f21 : w1.frozen? ⟨nb, 21, none⟩ = false := frozen_blk hN1 (by simp)
             have c22 : w1.cell? ⟨nb, 22, none⟩ = some (.int .i64 s'.last) := cell_blk hN1
             have f22 : w1.frozen? ⟨nb, 22, none⟩ = false := frozen_blk hN1 (by simp)
             rw [hst, h0] at c21))
        go_ret
        refine ⟨rfl, ?_, (((Chg.of hA0).trans hC1).setCell 21 _).setCell 22 _⟩
        exact setCell_blk (setCell_blk hN1)
      · rw [if_neg h0]
        have hf' := hf.resolve_left h0
        have hmin : (if 65535 < t - s.last then 65535 else t - s.last) = min (t - s.last) 65535 := by omega
        go_wp2_with (first
          | (go_at_call 12; refine hi.mono ?_; clear hi; rintro e w' ⟨rfl, rfl⟩)
          | (go_at_call 13; refine ha.mono ?_; clear ha; rintro e w1 ⟨rfl, hN1, hC1⟩
             have c21 : w1.cell? ⟨nb, 21, none⟩ = some (.int .i64 s'.start) := cell_blk hN1
             have c22 : w1.cell? ⟨nb, 22, none⟩ = some (.int .i64 s'.last) := cell_blk hN1
             rw [hst] at c21
             rw [hla] at c22))
        have hwt : IntKind.wrap .i64 (t - s.last) = t - s.last := by simp [IntKind.wrap, IntKind.signed, IntKind.bits]; omega
        obtain ⟨w0, hw0⟩ : ∃ b, b = w.heap.size := ⟨_, rfl⟩
        have hb1 : w1.heap[w0]? = some (.cells (rdA f) 43 (0, 0)) := (hC1.block _ (by rw [hw0]; simp) (by omega)).trans (hw0 ▸ heap_alloc_new w _)
        have hlt : w0 < w1.heap.size := (Array.getElem?_eq_some_iff.1 hb1).1
        have hmin' : 0 ≤ min (t - s.last) 65535 ∧ min (t - s.last) 65535 ≤ 65535 := by omega
        have hstep := fun W hW => step_calls nb mb s' hs1 (min (t - s.last) 65535) hmin'.1 hmin'.2 (rdA f) r x hr hx ((rdA_get f 1 (by omega)).trans (congrArg some hd.d1)) ((rdA_get f 2 (by omega)).trans (congrArg some hd.d2)) ((rdA_get f 3 (by omega)).trans (congrArg some hd.d3)) ((rdA_get f 4 (by omega)).trans (congrArg some hd.d4)) ((rdA_get f 5 (by omega)).trans (congrArg some hd.d5)) ((rdA_get f 6 (by omega)).trans (congrArg some hd.d6)) W hW
        have hd1 : Below w1.heap.size w1 w1.drew := ⟨rfl, rfl, rfl, Nat.le_refl _, fun _ _ => rfl⟩
        obtain ⟨d43, hu43, hd43⟩ : ∃ d, PP.underlying 43 = some d ∧ d.isRow = true := under_row (by kernel_rfl)
        have hi43 : (PP.info? 43).map (·.size) = some (rdA f).toList.length := by kernel_rfl
        have hS : ∀ w', Below w1.heap.size w1 w' → w'.cell? ⟨nb, 22, none⟩ = some (.int .i64 s.last) ∧ w'.rangeAt w0 0 (rdA f).toList := fun w' hB => ⟨(hB.cell (p := ⟨nb, _, none⟩) hN1.lt).trans c22, fun k v hk => (hB.cell (p := ⟨w0, _, none⟩) hlt).trans ((cell_blk hb1).trans (by simpa using hk))⟩
        rw [← hw0]
        refine wp_region_held_drew (S := fun w' => w'.cell? ⟨nb, 22, none⟩ = some (.int .i64 s.last) ∧ w'.rangeAt w0 0 (rdA f).toList) (by kernel_rfl) (hS _ hd1) (fun hHeld => ?_)
        refine wpAnyH_take (i := 8) (oi := ⟨some 26, .load 43 (.tmp 5), 43, "nav.go:144", #[], none⟩) (v := .agg (rdA f)) rfl (by kernel_rfl) (by kernel_rfl) (by kernel_rfl) (fun _ _ _ h => h) (yieldsIf_load_mid (by rfl) _ _ rfl w0 0 rfl (rdA f).toList d43 (fun w h => h.2) hu43 hd43 hi43) (by assumption) ?_
        simp only [Act.put, List.setIfInBounds_toArray, List.set_cons_zero, List.set_cons_succ]
        refine wpAnyH_take (i := 0) (oi := ⟨some 18, .move (.tmp 0), 29, "nav.go:144", #[], none⟩) (v := ?_) rfl (by kernel_rfl) (by kernel_rfl) (by kernel_rfl) (fun _ _ _ h => h) (Or.inl ⟨by rfl, ?_⟩) (by assumption) ?_
        rotate_left
        · intro w hSw
          try dsimp only at hSw
          go_simp
          try with_reducible rfl
        simp only [Act.put, List.setIfInBounds_toArray, List.set_cons_zero, List.set_cons_succ]
        refine wpAnyH_take (i := 1) (oi := ⟨some 19, .move (.tmp 1), 3, "nav.go:144", #[], none⟩) (v := ?_) rfl (by kernel_rfl) (by kernel_rfl) (by kernel_rfl) (fun _ _ _ h => h) (Or.inl ⟨by rfl, ?_⟩) (by assumption) ?_
        rotate_left
        · intro w hSw
          try dsimp only at hSw
          go_simp
          try with_reducible rfl
        simp only [Act.put, List.setIfInBounds_toArray, List.set_cons_zero, List.set_cons_succ]
        refine wpAnyH_take (i := 2) (oi := ⟨some 20, .move (.tmp 0), 29, "nav.go:144", #[], none⟩) (v := ?_) rfl (by kernel_rfl) (by kernel_rfl) (by kernel_rfl) (fun _ _ _ h => h) (Or.inl ⟨by rfl, ?_⟩) (by assumption) ?_
        rotate_left
        · intro w hSw
          try dsimp only at hSw
          go_simp
          try with_reducible rfl
        simp only [Act.put, List.setIfInBounds_toArray, List.set_cons_zero, List.set_cons_succ]
        refine wpAnyH_take (i := 3) (oi := ⟨some 21, .nilCheck (.tmp 20), 0, "nav.go:144", #[⟨2, .data⟩], none⟩) (v := ?_) rfl (by kernel_rfl) (by kernel_rfl) (by kernel_rfl) (fun _ _ _ h => h) (Or.inl ⟨by rfl, ?_⟩) (by assumption) ?_
        rotate_left
        · intro w hSw
          try dsimp only at hSw
          go_simp
          try with_reducible rfl
        simp only [Act.put, List.setIfInBounds_toArray, List.set_cons_zero, List.set_cons_succ]
        refine wpAnyH_take (i := 4) (oi := ⟨some 22, .fieldAddr 56 (.tmp 21) 7, 0, "nav.go:144", #[⟨3, .data⟩], none⟩) (v := ?_) rfl (by kernel_rfl) (by kernel_rfl) (by kernel_rfl) (fun _ _ _ h => h) (Or.inl ⟨by rfl, ?_⟩) (by assumption) ?_
        rotate_left
        · intro w hSw
          try dsimp only at hSw
          go_simp
          try with_reducible rfl
        simp only [Act.put, List.setIfInBounds_toArray, List.set_cons_zero, List.set_cons_succ]
        refine wpAnyH_take (i := 5) (oi := ⟨some 23, .load 3 (.tmp 22), 3, "nav.go:144", #[⟨4, .data⟩], none⟩) (v := ?_) rfl (by kernel_rfl) (by kernel_rfl) (by kernel_rfl) (fun _ _ _ h => h) (Or.inl ⟨by rfl, ?_⟩) (by assumption) ?_
        rotate_left
        · intro w hSw
          try dsimp only at hSw
          go_simp
          try with_reducible rfl
        simp only [Act.put, List.setIfInBounds_toArray, List.set_cons_zero, List.set_cons_succ]
        refine wpAnyH_take (i := 6) (oi := ⟨some 24, .binOp .sub 3 (.tmp 19) (.tmp 23) 3, 3, "nav.go:144", #[⟨1, .data⟩, ⟨5, .data⟩], none⟩) (v := ?_) rfl (by kernel_rfl) (by kernel_rfl) (by kernel_rfl) (fun _ _ _ h => h) (Or.inl ⟨by rfl, ?_⟩) (by assumption) ?_
        rotate_left
        · intro w hSw
          try dsimp only at hSw
          go_simp
          try with_reducible rfl
        simp only [Act.put, List.setIfInBounds_toArray, List.set_cons_zero, List.set_cons_succ]
        refine wpAnyH_take (i := 7) (oi := ⟨some 25, .call ⟨.builtin .min, #[.tmp 24, .const (.int .i64 65535)], #[3, 3]⟩, 3, "nav.go:144", #[⟨6, .data⟩], none⟩) (v := ?_) rfl (by kernel_rfl) (by kernel_rfl) (by kernel_rfl) (fun _ _ _ h => h) (Or.inl ⟨by rfl, ?_⟩) (by assumption) ?_
        rotate_left
        · intro w hSw
          try dsimp only at hSw
          go_simp
          try with_reducible rfl
        simp only [Act.put, List.setIfInBounds_toArray, List.set_cons_zero, List.set_cons_succ]
        refine wpAnyH_ready (rs := [9]) (by kernel_rfl) (by simp) ?_
        refine AllReadyH.cons (o := ⟨some 27, .call ⟨.value (.func 14), #[.tmp 18, .tmp 25, .tmp 26], #[29, 3, 43]⟩, 0, "nav.go:144", #[⟨0, .data⟩, ⟨7, .data⟩, ⟨8, .data⟩], none⟩) rfl (fun K hK => ?_) ?_
        · go_simp
          go_at_call 14
          refine (hstep _ (hN1.below hd1)).mono ?_
          rintro e w2 ⟨rfl, hN2, hC2⟩
          have hla2 : (stepN s' (min (t - s.last) 65535) r x).last = s.last := hla
          have c22 : w2.cell? ⟨nb, 22, none⟩ = some (.int .i64 s.last) := hla2 ▸ cell_blk hN2
          have f22 : w2.frozen? ⟨nb, 22, none⟩ = false := frozen_blk hN2 (by simp)
          have hb2 : w2.heap[w0]? = some (.cells (rdA f) 43 (0, 0)) := (hC2.block _ hlt (by omega)).trans hb1
          refine hK.out _ _ ⟨c22, fun k v hk => (cell_blk hb2).trans (by simpa using hk)⟩ (fun hHeld => ?_)
          try simp only [Act.put, List.setIfInBounds_toArray, List.set_cons_zero, List.set_cons_succ]
          refine wpAnyH_done (by kernel_rfl) ?_ _
          go_wp2
          go_ret
          have hcw : Chg nb w w2 := ((Chg.of hA0).trans hC1).trans ((Chg.of hd1).trans hC2)
          refine ⟨rfl, ?_, hcw.setCell 22 _⟩
          exact setCell_blk hN2
        · exact AllReadyH.nil
    · have hI : imuN s t 1 r x = s := by unfold imuN; rw [if_neg (fun h => ht h.2)]
      have hE : imuE s t 1 = 2 := by unfold imuE; rw [if_neg (fun h => ht h.2)]
      rw [hI, hE]
      replace ha := ha.mono (R' := fun e w' => e = .returned (.int .i64 2) ∧ w' = _) fun e w' h => by
        rcases h with h | h
        · exact h.2
        · exact absurd h.1 ht
      go_wp2_with (first
        | (go_at_call 12; refine hi.mono ?_; clear hi; rintro e w' ⟨rfl, rfl⟩)
        | (go_at_call 13; refine ha.mono ?_; clear ha; rintro e w' ⟨rfl, rfl⟩))
      go_ret
      exact ⟨rfl, hN0, Chg.of hA0⟩
  · have hI : imuN s t kd r x = s := by unfold imuN; rw [if_neg (fun h => hk h.1)]
    have hE : imuE s t kd = 2 := by unfold imuE; rw [if_neg (fun h => hk h.1)]
    rw [hI, hE]
    go_wp2_with (go_at_call 12; refine hi.mono ?_; clear hi; rintro e w' ⟨rfl, rfl⟩)
    go_ret
    exact ⟨rfl, hN0, Chg.of hA0⟩
end Go.Xv
namespace Go.Xv
open Go.RowKit
/-- a map without entries. -/
def MapE (w : World) (mb : Nat) : Prop := ∃ c, w.heap[mb]? = some (.map #[] c)
theorem MapE.lt {w : World} {mb : Nat} (h : MapE w mb) : mb < w.heap.size := by
  obtain ⟨c, h⟩ := h
  exact (Array.getElem?_eq_some_iff.1 h).1
theorem MapE.chg {nb mb : Nat} {w w' : World} (h : MapE w mb) (hc : Chg nb w w') (hn : mb ≠ nb) : MapE w' mb := by
  have hl := h.lt
  obtain ⟨c, h⟩ := h
  exact ⟨c, (hc.block mb hl hn).trans h⟩
theorem under_map : PP.underlying 54 = some (.map 3 61) := by kernel_rfl
theorem zero_ptrk (w : World) : (zeroValue 61).run PP w = .ok (.pointer none) w := by kernel_rfl
theorem run_chk (b : Bool) (k : Int) (w : World) : (Instr.checkKey b 10000 3 (.int .i64 k)).run PP w = .ok () w := by kernel_rfl
theorem run_find_e (k : Int) (w : World) : (Instr.findKey 3 (.int .i64 k) []).run PP w = .ok none w := by kernel_rfl
theorem run_lookup_e {w : World} {mb : Nat} (h : MapE w mb) (k : Int) : (Instr.lookup 54 (.map (some mb)) (.int .i64 k) false).run PP w = .ok (.pointer none) w := by
  obtain ⟨c, h⟩ := h
  simp only [Instr.lookup, Sem.run_bind, run_underlying under_map, MapKept.run_getObj_map h, run_chk, run_find_e, zero_ptrk, Result.andThen, Sem.run_pure]
  simp [run_find_e, zero_ptrk]
set_option maxRecDepth 100000 in
set_option maxHeartbeats 4000000 in
theorem all_calls_e (nb mb : Nat) (s : NS) (w : World) (hN : NavAt w nb mb s) (hM : MapE w mb) :
    Calls PP 17 #[.pointer (some ⟨nb, 0, none⟩)] w fun e w' => e = .returned (.slice none 0 0) ∧ w' = w := by
  go_enter Proofs.Try.func17, Proofs.Try.ntmps17
  have c20 : w.cell? ⟨nb, 20, none⟩ = some (.map (some mb)) := cell_blk hN
  have hl := fun k => run_lookup_e hM k
  go_wp2
  go_loopw [3, 6] (fun v i wr => ∃ j : Nat, j ≤ 8 ∧ v = .slice none 0 0 ∧ i = .int .i64 j ∧ wr = w) (fun v i _ => 8 - (intOf i).toNat)
  case atStart => exact ⟨0, by omega, rfl, rfl, rfl⟩
  case round =>
    obtain ⟨j, hj, rfl, rfl, rfl⟩ := hrel
    by_cases hlt : j < 8
    · go_wp2
      exact ⟨⟨j + 1, by omega, by simp⟩, by simp [intOf]; omega⟩
    · obtain rfl : j = 8 := by omega
      go_wp2
      go_ret
      simp
set_option maxRecDepth 100000 in
theorem started_calls (nb mb : Nat) (s : NS) (w : World) (hN : NavAt w nb mb s) :
    Calls PP 22 #[.pointer (some ⟨nb, 0, none⟩)] w fun e w' => e = .returned (.bool (!(s.start == -1))) ∧ w' = w := by
  go_enter Proofs.Try.func22, Proofs.Try.ntmps22
  have hi := is_calls nb mb s w hN
  have c21 : w.cell? ⟨nb, 21, none⟩ = some (.int .i64 s.start) := cell_blk hN
  go_wp2_with (go_at_call 12; refine hi.mono ?_; clear hi; rintro e w' ⟨rfl, rfl⟩)
  go_ret
  simp [bne]
set_option maxRecDepth 100000 in
theorem cut_calls (nb mb : Nat) (s : NS) (w : World) (hN : NavAt w nb mb s) :
    Calls PP 8 #[.pointer (some ⟨nb, 0, none⟩)] w fun e w' => e = .returned (.bool s.cut) ∧ w' = w := by
  go_enter Proofs.Try.func8, Proofs.Try.ntmps8
  have hi := is_calls nb mb s w hN
  have c24 : w.cell? ⟨nb, 24, none⟩ = some (.bool s.cut) := cell_blk hN
  go_wp2_with (go_at_call 12; refine hi.mono ?_; clear hi; rintro e w' ⟨rfl, rfl⟩)
  go_ret
  simp
end Go.Xv
namespace Go.Xv
open Go.RowKit
theorem store_blk8 {W : World} {b : Nat} {ty : TypeId} {x0 x1 x2 x3 x4 x5 x6 x7 y0 y1 y2 y3 y4 y5 y6 y7 : Value} (h : W.heap[b]? = some (.cells #[y0, y1, y2, y3, y4, y5, y6, y7] ty (0, 0))) : ((((((((W.setCell ⟨b, 0, none⟩ x0).setCell ⟨b, 1, none⟩ x1).setCell ⟨b, 2, none⟩ x2).setCell ⟨b, 3, none⟩ x3).setCell ⟨b, 4, none⟩ x4).setCell ⟨b, 5, none⟩ x5).setCell ⟨b, 6, none⟩ x6).setCell ⟨b, 7, none⟩ x7).heap[b]? = some (.cells #[x0, x1, x2, x3, x4, x5, x6, x7] ty (0, 0)) := by
  replace h := setCell_blk (o := 0) (v := x0) h
  simp only [List.setIfInBounds_toArray, List.set_cons_zero, List.set_cons_succ] at h
  replace h := setCell_blk (o := 1) (v := x1) h
  simp only [List.setIfInBounds_toArray, List.set_cons_zero, List.set_cons_succ] at h
  replace h := setCell_blk (o := 2) (v := x2) h
  simp only [List.setIfInBounds_toArray, List.set_cons_zero, List.set_cons_succ] at h
  replace h := setCell_blk (o := 3) (v := x3) h
  simp only [List.setIfInBounds_toArray, List.set_cons_zero, List.set_cons_succ] at h
  replace h := setCell_blk (o := 4) (v := x4) h
  simp only [List.setIfInBounds_toArray, List.set_cons_zero, List.set_cons_succ] at h
  replace h := setCell_blk (o := 5) (v := x5) h
  simp only [List.setIfInBounds_toArray, List.set_cons_zero, List.set_cons_succ] at h
  replace h := setCell_blk (o := 6) (v := x6) h
  simp only [List.setIfInBounds_toArray, List.set_cons_zero, List.set_cons_succ] at h
  replace h := setCell_blk (o := 7) (v := x7) h
  simp only [List.setIfInBounds_toArray, List.set_cons_zero, List.set_cons_succ] at h
  exact h
theorem store_nav8 {W : World} {b nb mb : Nat} {s : NS} {x0 x1 x2 x3 x4 x5 x6 x7 : Value} (h : NavAt W nb mb s) (hb : nb ≠ b) : NavAt ((((((((W.setCell ⟨b, 0, none⟩ x0).setCell ⟨b, 1, none⟩ x1).setCell ⟨b, 2, none⟩ x2).setCell ⟨b, 3, none⟩ x3).setCell ⟨b, 4, none⟩ x4).setCell ⟨b, 5, none⟩ x5).setCell ⟨b, 6, none⟩ x6).setCell ⟨b, 7, none⟩ x7) nb mb s := by
  unfold NavAt at *
  repeat (rw [Below.heap_setCell _ _ _ nb hb])
  exact h
theorem store_chg8 {w W : World} {b nb : Nat} {x0 x1 x2 x3 x4 x5 x6 x7 : Value} (h : Chg nb w W) (hb : w.heap.size ≤ b) : Chg nb w ((((((((W.setCell ⟨b, 0, none⟩ x0).setCell ⟨b, 1, none⟩ x1).setCell ⟨b, 2, none⟩ x2).setCell ⟨b, 3, none⟩ x3).setCell ⟨b, 4, none⟩ x4).setCell ⟨b, 5, none⟩ x5).setCell ⟨b, 6, none⟩ x6).setCell ⟨b, 7, none⟩ x7) := by
  have hh : ∀ {W : World} {o : Nat} {v : Value}, Chg nb w W → Chg nb w (W.setCell ⟨b, o, none⟩ v) := fun h => ⟨h.os, h.tape, h.output, by have := h.size; simpa using this, fun k hk hn => (Below.heap_setCell _ ⟨b, _, none⟩ _ k (fun e => absurd hk (by simp only at e; omega))).trans (h.block k hk hn)⟩
  repeat' (refine hh ?_)
  exact h
set_option maxRecDepth 100000 in
set_option maxHeartbeats 4000000 in
theorem mode_calls_e (nb mb : Nat) (s : NS) (t : Int) (w : World) (hN : NavAt w nb mb s) (hM : MapE w mb) :
    Calls PP 9 #[.pointer (some ⟨nb, 0, none⟩), .int .i64 t] w fun e w' => e = .returned (.int .i64 (if s.start = -1 then 0 else 1)) ∧ Below w.heap.size w w' := by
  go_enter Proofs.Try.func9, Proofs.Try.ntmps9
  have hst := started_calls nb mb s w hN
  have c21 : w.cell? ⟨nb, 21, none⟩ = some (.int .i64 s.start) := cell_blk hN
  have c20 : w.cell? ⟨nb, 20, none⟩ = some (.map (some mb)) := cell_blk hN
  by_cases h0 : s.start = -1
  · rw [if_pos h0]
    rw [h0] at hst
    go_wp2_with (go_at_call 22; refine hst.mono ?_; clear hst; rintro e w' ⟨rfl, rfl⟩)
    go_ret
    exact ⟨rfl, Below.refl _ _⟩
  · rw [if_neg h0]
    have hb : (s.start == -1) = false := by simpa using h0
    rw [hb] at hst
    have hlt := hM.lt
    obtain ⟨c, hM⟩ := hM
    have hrg := run_range_map (P := PP) w 54 3 61 mb #[] c under_map hM
    go_wp2_with (go_at_call 22; refine hst.mono ?_; clear hst; rintro e w' ⟨rfl, hw⟩; obtain rfl := hw.symm)
    all_goals
      have hB : Below w.heap.size w (w.alloc (.mapIter (some mb) c #[] c)) := (Below.refl _ w).alloc (Nat.le_refl _) _
      have hnx := (run_next_at (P := PP) (w.alloc (.mapIter (some mb) c #[] c)) 0 w.heap.size mb c c #[] #[] c (heap_alloc_new w _) ((hB.block _ hlt).trans hM) (by simp) (Nat.le_refl _)).resolve_right (by rintro ⟨e, he, _⟩; simp [leftOf] at he)
      obtain ⟨_, hnx⟩ := hnx
      generalize hw1 : w.alloc (.mapIter (some mb) c #[] c) = w1 at *
      go_loopw [21] (fun _ wr => wr = w1) (fun _ _ => 0)
      case atStart => rfl
      case round =>
        obtain rfl := hrel
        go_wp2
        go_ret
        exact ⟨rfl, hB⟩
end Go.Xv
namespace Go.Xv
open Go.RowKit
theorem res_cell {fn : Func} {p : Tmp} {ty : TypeId} (h : fn.results = #[.cell p ty]) (tmps : Array Value) (w : World) (g : Nat) (t : TypeId) (cs : Array Value) (fr : Nat × Nat)
    (hp : tmps.getD p undef = .pointer (some ⟨g, 0, none⟩)) (hg : w.heap[g]? = some (.cells cs t fr)) (hr : ∃ d, PP.underlying ty = some d ∧ d.isRow = true) (hi : (PP.info? ty).map (·.size) = some cs.size) :
    (results fn tmps).run PP w = .ok (.agg cs) w := by
  obtain ⟨d, hu, hd⟩ := hr
  exact results_cell_row h tmps w g t cs fr d hp hg hu (by cases d <;> first | rfl | exact hd) hi
abbrev NS.sp (s : NS) : NS := { s with cut := s.cut || clipC (spZ s) }
abbrev outC (s : NS) : Array Value := #[.int .i64 s.p0, .int .i64 s.p1, .int .i64 s.p2, .int .i64 s.v0, .int .i64 s.v1, .int .i64 s.v2, .int .u32 (angle s.a.m.a3 s.a.m.a0), .int .i64 (clipV (spZ s))]
set_option maxRecDepth 100000 in
set_option maxHeartbeats 8000000 in
theorem out_calls_e (nb mb : Nat) (s : NS) (hs : s.ok) (w : World) (hN : NavAt w nb mb s) (hM : MapE w mb) (hnm : mb ≠ nb) :
    Calls PP 7 #[.pointer (some ⟨nb, 0, none⟩)] w fun e w' => e = .returned (.agg (outC s)) ∧ NavAt w' nb mb s.sp ∧ Chg nb w w' := by
  go_enter Proofs.Try.func7, Proofs.Try.ntmps7
  have hA0 : Below w.heap.size w (w.alloc (.cells #[.int .i64 0, .int .i64 0, .int .i64 0, .int .i64 0, .int .i64 0, .int .i64 0, .int .u32 0, .int .i64 0] 45)) := (Below.refl _ w).alloc (Nat.le_refl _) _
  have hb0 : (w.alloc (.cells #[.int .i64 0, .int .i64 0, .int .i64 0, .int .i64 0, .int .i64 0, .int .i64 0, .int .u32 0, .int .i64 0] 45)).heap[w.heap.size]? = some (.cells #[.int .i64 0, .int .i64 0, .int .i64 0, .int .i64 0, .int .i64 0, .int .i64 0, .int .u32 0, .int .i64 0] 45 (0, 0)) := heap_alloc_new w _
  have hnw := hN.lt
  have hN0 := hN.below hA0
  have hM0 := hM.chg (Chg.of hA0 : Chg nb _ _) hnm
  have hi := is_calls nb mb s _ hN0
  go_wp2_with (go_at_call 12; refine hi.mono ?_; clear hi; rintro e w' ⟨rfl, hw⟩; obtain rfl := hw.symm)
  generalize w.alloc (.cells #[.int .i64 0, .int .i64 0, .int .i64 0, .int .i64 0, .int .i64 0, .int .i64 0, .int .u32 0, .int .i64 0] 45) = w0 at *
  have hnw0 : nb < w0.heap.size := hN0.lt
  have hne0 : nb ≠ w0.heap.size := by omega
  have hd : Below w0.heap.size w0 w0.drew := ⟨rfl, rfl, rfl, Nat.le_refl _, fun _ _ => rfl⟩
  have hA : ∀ o, Below w0.heap.size w0 (w0.alloc o).drew := fun o => hd.alloc (Nat.le_refl _) o
  have hS : ∀ w', Below w0.heap.size w0 w' → w'.cell? ⟨nb, 3, none⟩ = some (.int .i64 s.v0) ∧ w'.cell? ⟨nb, 4, none⟩ = some (.int .i64 s.v1) ∧ w'.cell? ⟨nb, 5, none⟩ = some (.int .i64 s.v2) ∧ w'.cell? ⟨nb, 6, none⟩ = some (.int .i64 s.p0) ∧ w'.cell? ⟨nb, 7, none⟩ = some (.int .i64 s.p1) ∧ w'.cell? ⟨nb, 8, none⟩ = some (.int .i64 s.p2) ∧ w'.cell? ⟨nb, 10, none⟩ = some (.int .i64 s.a.m.a0) ∧ w'.cell? ⟨nb, 11, none⟩ = some (.int .i64 s.a.m.a1) ∧ w'.cell? ⟨nb, 12, none⟩ = some (.int .i64 s.a.m.a2) ∧ w'.cell? ⟨nb, 13, none⟩ = some (.int .i64 s.a.m.a3) ∧ w'.cell? ⟨nb, 14, none⟩ = some (.int .i64 s.a.m.a4) ∧ w'.cell? ⟨nb, 15, none⟩ = some (.int .i64 s.a.m.a5) ∧ w'.cell? ⟨nb, 16, none⟩ = some (.int .i64 s.a.m.a6) ∧ w'.cell? ⟨nb, 17, none⟩ = some (.int .i64 s.a.m.a7) ∧ w'.cell? ⟨nb, 18, none⟩ = some (.int .i64 s.a.m.a8) ∧ w'.cell? ⟨nb, 19, none⟩ = some (.int .i64 s.a.n) := fun w' hB => ⟨(hB.cell (p := ⟨nb, _, none⟩) hN0.lt).trans (cell_blk hN0), (hB.cell (p := ⟨nb, _, none⟩) hN0.lt).trans (cell_blk hN0), (hB.cell (p := ⟨nb, _, none⟩) hN0.lt).trans (cell_blk hN0), (hB.cell (p := ⟨nb, _, none⟩) hN0.lt).trans (cell_blk hN0), (hB.cell (p := ⟨nb, _, none⟩) hN0.lt).trans (cell_blk hN0), (hB.cell (p := ⟨nb, _, none⟩) hN0.lt).trans (cell_blk hN0), (hB.cell (p := ⟨nb, _, none⟩) hN0.lt).trans (cell_blk hN0), (hB.cell (p := ⟨nb, _, none⟩) hN0.lt).trans (cell_blk hN0), (hB.cell (p := ⟨nb, _, none⟩) hN0.lt).trans (cell_blk hN0), (hB.cell (p := ⟨nb, _, none⟩) hN0.lt).trans (cell_blk hN0), (hB.cell (p := ⟨nb, _, none⟩) hN0.lt).trans (cell_blk hN0), (hB.cell (p := ⟨nb, _, none⟩) hN0.lt).trans (cell_blk hN0), (hB.cell (p := ⟨nb, _, none⟩) hN0.lt).trans (cell_blk hN0), (hB.cell (p := ⟨nb, _, none⟩) hN0.lt).trans (cell_blk hN0), (hB.cell (p := ⟨nb, _, none⟩) hN0.lt).trans (cell_blk hN0), (hB.cell (p := ⟨nb, _, none⟩) hN0.lt).trans (cell_blk hN0)⟩
  have hT : ∀ w', NavAt w' nb mb s.sp → w'.cell? ⟨nb, 3, none⟩ = some (.int .i64 s.v0) ∧ w'.cell? ⟨nb, 4, none⟩ = some (.int .i64 s.v1) ∧ w'.cell? ⟨nb, 5, none⟩ = some (.int .i64 s.v2) ∧ w'.cell? ⟨nb, 6, none⟩ = some (.int .i64 s.p0) ∧ w'.cell? ⟨nb, 7, none⟩ = some (.int .i64 s.p1) ∧ w'.cell? ⟨nb, 8, none⟩ = some (.int .i64 s.p2) ∧ w'.cell? ⟨nb, 10, none⟩ = some (.int .i64 s.a.m.a0) ∧ w'.cell? ⟨nb, 11, none⟩ = some (.int .i64 s.a.m.a1) ∧ w'.cell? ⟨nb, 12, none⟩ = some (.int .i64 s.a.m.a2) ∧ w'.cell? ⟨nb, 13, none⟩ = some (.int .i64 s.a.m.a3) ∧ w'.cell? ⟨nb, 14, none⟩ = some (.int .i64 s.a.m.a4) ∧ w'.cell? ⟨nb, 15, none⟩ = some (.int .i64 s.a.m.a5) ∧ w'.cell? ⟨nb, 16, none⟩ = some (.int .i64 s.a.m.a6) ∧ w'.cell? ⟨nb, 17, none⟩ = some (.int .i64 s.a.m.a7) ∧ w'.cell? ⟨nb, 18, none⟩ = some (.int .i64 s.a.m.a8) ∧ w'.cell? ⟨nb, 19, none⟩ = some (.int .i64 s.a.n) := fun w' hB => ⟨cell_blk hB, cell_blk hB, cell_blk hB, cell_blk hB, cell_blk hB, cell_blk hB, cell_blk hB, cell_blk hB, cell_blk hB, cell_blk hB, cell_blk hB, cell_blk hB, cell_blk hB, cell_blk hB, cell_blk hB, cell_blk hB⟩
  have hh := fun W (hW : Below w0.heap.size w0 W) => (heading_calls hs.m (a := s.a) W).mono fun e w' (h : _ ∧ _) => (⟨h.1, hW.trans (h.2.mono hW.size), h.2⟩ : _ ∧ Below w0.heap.size w0 w' ∧ Below W.heap.size W w')
  have hsp := fun W (hW : NavAt W nb mb s) => speed_calls nb mb s hs W hW
  go_cut [3] (fun v w' => ∃ l, v = .pointer (some ⟨l, 0, none⟩) ∧ w'.heap[l]? = some (.cells (outC s) 45 (0, 0)) ∧ nb ≠ l ∧ w0.heap.size ≤ l ∧ NavAt w' nb mb s.sp ∧ Chg nb w0 w')
  case first =>
    go_region_held3 (fun w' => w'.cell? ⟨nb, 3, none⟩ = some (.int .i64 s.v0) ∧ w'.cell? ⟨nb, 4, none⟩ = some (.int .i64 s.v1) ∧ w'.cell? ⟨nb, 5, none⟩ = some (.int .i64 s.v2) ∧ w'.cell? ⟨nb, 6, none⟩ = some (.int .i64 s.p0) ∧ w'.cell? ⟨nb, 7, none⟩ = some (.int .i64 s.p1) ∧ w'.cell? ⟨nb, 8, none⟩ = some (.int .i64 s.p2) ∧ w'.cell? ⟨nb, 10, none⟩ = some (.int .i64 s.a.m.a0) ∧ w'.cell? ⟨nb, 11, none⟩ = some (.int .i64 s.a.m.a1) ∧ w'.cell? ⟨nb, 12, none⟩ = some (.int .i64 s.a.m.a2) ∧ w'.cell? ⟨nb, 13, none⟩ = some (.int .i64 s.a.m.a3) ∧ w'.cell? ⟨nb, 14, none⟩ = some (.int .i64 s.a.m.a4) ∧ w'.cell? ⟨nb, 15, none⟩ = some (.int .i64 s.a.m.a5) ∧ w'.cell? ⟨nb, 16, none⟩ = some (.int .i64 s.a.m.a6) ∧ w'.cell? ⟨nb, 17, none⟩ = some (.int .i64 s.a.m.a7) ∧ w'.cell? ⟨nb, 18, none⟩ = some (.int .i64 s.a.m.a8) ∧ w'.cell? ⟨nb, 19, none⟩ = some (.int .i64 s.a.n))
      (first | (with_reducible exact hS _ hd) | (with_reducible exact hS _ hBh') | (with_reducible exact hS _ (hA _)) | (with_reducible exact hS _ (hBh'.alloc hBh'.size _)) | (with_reducible exact hT _ hNs) | (with_reducible exact hT _ (hNs.below ((Below.refl _ ws).alloc (Nat.le_refl _) _))) | (with_reducible exact hT _ (store_nav8 hNs hne0)) | (with_reducible exact hT _ (store_nav8 hNs hne1)))
      (first
        | (go_at_call 15
           refine (hh _ (by with_reducible exact hd)).mono ?_
           rintro e wh ⟨rfl, hBh', hBh⟩)
        | (go_at_call 15
           refine (hh _ (by with_reducible exact hA _)).mono ?_
           rintro e wh ⟨rfl, hBh', hBh⟩
           have hz : wh.heap[w0.heap.size]? = some (.cells #[.int .i64 0, .int .i64 0, .int .i64 0, .int .i64 0, .int .i64 0, .int .i64 0, .int .u32 0, .int .i64 0] 45 (0, 0)) := (hBh.block _ (by simp)).trans (heap_alloc_new w0 _))
        | (go_at_call 16
           refine (hsp wh (hN0.below hBh')).mono ?_
           rintro e ws ⟨rfl, hNs, hCs⟩
           have hzs : ws.heap[w0.heap.size]? = some (.cells #[.int .i64 0, .int .i64 0, .int .i64 0, .int .i64 0, .int .i64 0, .int .i64 0, .int .u32 0, .int .i64 0] 45 (0, 0)) := (hCs.block _ (Array.getElem?_eq_some_iff.1 hz).1 (by omega)).trans hz
           have z0 : ws.cell? ⟨w0.heap.size, 0, none⟩ = some (.int .i64 0) := cell_blk hzs
           have y0 : ws.frozen? ⟨w0.heap.size, 0, none⟩ = false := frozen_blk hzs (by simp)
           have z1 : ws.cell? ⟨w0.heap.size, 1, none⟩ = some (.int .i64 0) := cell_blk hzs
           have y1 : ws.frozen? ⟨w0.heap.size, 1, none⟩ = false := frozen_blk hzs (by simp)
           have z2 : ws.cell? ⟨w0.heap.size, 2, none⟩ = some (.int .i64 0) := cell_blk hzs
           have y2 : ws.frozen? ⟨w0.heap.size, 2, none⟩ = false := frozen_blk hzs (by simp)
           have z3 : ws.cell? ⟨w0.heap.size, 3, none⟩ = some (.int .i64 0) := cell_blk hzs
           have y3 : ws.frozen? ⟨w0.heap.size, 3, none⟩ = false := frozen_blk hzs (by simp)
           have z4 : ws.cell? ⟨w0.heap.size, 4, none⟩ = some (.int .i64 0) := cell_blk hzs
           have y4 : ws.frozen? ⟨w0.heap.size, 4, none⟩ = false := frozen_blk hzs (by simp)
           have z5 : ws.cell? ⟨w0.heap.size, 5, none⟩ = some (.int .i64 0) := cell_blk hzs
           have y5 : ws.frozen? ⟨w0.heap.size, 5, none⟩ = false := frozen_blk hzs (by simp)
           have z6 : ws.cell? ⟨w0.heap.size, 6, none⟩ = some (.int .u32 0) := cell_blk hzs
           have y6 : ws.frozen? ⟨w0.heap.size, 6, none⟩ = false := frozen_blk hzs (by simp)
           have z7 : ws.cell? ⟨w0.heap.size, 7, none⟩ = some (.int .i64 0) := cell_blk hzs
           have y7 : ws.frozen? ⟨w0.heap.size, 7, none⟩ = false := frozen_blk hzs (by simp))
        | (go_at_call 16
           refine (hsp wh (hN0.below hBh')).mono ?_
           rintro e ws ⟨rfl, hNs, hCs⟩)
        | (go_at_call 16
           refine (hsp _ ((hN0.below hBh').below ((Below.refl _ wh).alloc (Nat.le_refl _) (.cells #[.int .i64 0, .int .i64 0, .int .i64 0, .int .i64 0, .int .i64 0, .int .i64 0, .int .u32 0, .int .i64 0] 45)))).mono ?_
           rintro e ws ⟨rfl, hNs, hCs⟩
           have hne1 : nb ≠ wh.heap.size := by have := hBh'.size; omega
           have hzs : ws.heap[wh.heap.size]? = some (.cells #[.int .i64 0, .int .i64 0, .int .i64 0, .int .i64 0, .int .i64 0, .int .i64 0, .int .u32 0, .int .i64 0] 45 (0, 0)) := (hCs.block _ (by simp) (by have := hBh'.size; omega)).trans (heap_alloc_new wh _)
           have z0 : ws.cell? ⟨wh.heap.size, 0, none⟩ = some (.int .i64 0) := cell_blk hzs
           have y0 : ws.frozen? ⟨wh.heap.size, 0, none⟩ = false := frozen_blk hzs (by simp)
           have z1 : ws.cell? ⟨wh.heap.size, 1, none⟩ = some (.int .i64 0) := cell_blk hzs
           have y1 : ws.frozen? ⟨wh.heap.size, 1, none⟩ = false := frozen_blk hzs (by simp)
           have z2 : ws.cell? ⟨wh.heap.size, 2, none⟩ = some (.int .i64 0) := cell_blk hzs
           have y2 : ws.frozen? ⟨wh.heap.size, 2, none⟩ = false := frozen_blk hzs (by simp)
           have z3 : ws.cell? ⟨wh.heap.size, 3, none⟩ = some (.int .i64 0) := cell_blk hzs
           have y3 : ws.frozen? ⟨wh.heap.size, 3, none⟩ = false := frozen_blk hzs (by simp)
           have z4 : ws.cell? ⟨wh.heap.size, 4, none⟩ = some (.int .i64 0) := cell_blk hzs
           have y4 : ws.frozen? ⟨wh.heap.size, 4, none⟩ = false := frozen_blk hzs (by simp)
           have z5 : ws.cell? ⟨wh.heap.size, 5, none⟩ = some (.int .i64 0) := cell_blk hzs
           have y5 : ws.frozen? ⟨wh.heap.size, 5, none⟩ = false := frozen_blk hzs (by simp)
           have z6 : ws.cell? ⟨wh.heap.size, 6, none⟩ = some (.int .u32 0) := cell_blk hzs
           have y6 : ws.frozen? ⟨wh.heap.size, 6, none⟩ = false := frozen_blk hzs (by simp)
           have z7 : ws.cell? ⟨wh.heap.size, 7, none⟩ = some (.int .i64 0) := cell_blk hzs
           have y7 : ws.frozen? ⟨wh.heap.size, 7, none⟩ = false := frozen_blk hzs (by simp)))
    all_goals
      go_wp2
      go_meet
      case rel =>
        first
          | (have hg := hne1; refine ⟨wh.heap.size, rfl, store_blk8 hzs, hne1, hBh'.size, store_nav8 hNs hne1, store_chg8 (((Chg.of hBh').alloc _).trans hCs) hBh'.size⟩; done)
          | (have hg := hzs; refine ⟨w0.heap.size, rfl, store_blk8 hzs, hne0, Nat.le_refl _, store_nav8 hNs hne0, store_chg8 ((Chg.of hBh').trans hCs) (Nat.le_refl _)⟩; done)
          | (refine ⟨ws.heap.size, rfl, heap_alloc_new ws _, ?_, Nat.le_trans hBh'.size hCs.size, hNs.below ((Below.refl _ ws).alloc (Nat.le_refl _) _), ((Chg.of hBh').trans hCs).alloc _⟩
             have := hNs.lt
             omega)
  case rest =>
    obtain ⟨l, rfl, hl, hnl, hls, hNc, hCc⟩ := hcut
    have hMc : MapE wc mb := hM0.chg hCc hnm
    obtain ⟨b0, hb0e⟩ : ∃ x, x = w.heap.size := ⟨_, rfl⟩
    have hb0le : w.heap.size ≤ b0 := Nat.le_of_eq hb0e.symm
    have hnb0 : nb ≠ b0 := by omega
    have hb0c : wc.heap[b0]? = some (.cells #[.int .i64 0, .int .i64 0, .int .i64 0, .int .i64 0, .int .i64 0, .int .i64 0, .int .u32 0, .int .i64 0] 45 (0, 0)) := by rw [hb0e]; exact (hCc.block _ (Array.getElem?_eq_some_iff.1 hb0).1 (by omega)).trans hb0
    have hal := all_calls_e nb mb s.sp wc hNc hMc
    have hcw : Chg nb w wc := (Chg.of hA0).trans hCc
    have c0 : wc.cell? ⟨l, 0, none⟩ = some (.int .i64 s.p0) := cell_blk hl
    have z0 : wc.cell? ⟨b0, 0, none⟩ = some (.int .i64 0) := cell_blk hb0c
    have y0 : wc.frozen? ⟨b0, 0, none⟩ = false := frozen_blk hb0c (by simp)
    have c1 : wc.cell? ⟨l, 1, none⟩ = some (.int .i64 s.p1) := cell_blk hl
    have z1 : wc.cell? ⟨b0, 1, none⟩ = some (.int .i64 0) := cell_blk hb0c
    have y1 : wc.frozen? ⟨b0, 1, none⟩ = false := frozen_blk hb0c (by simp)
    have c2 : wc.cell? ⟨l, 2, none⟩ = some (.int .i64 s.p2) := cell_blk hl
    have z2 : wc.cell? ⟨b0, 2, none⟩ = some (.int .i64 0) := cell_blk hb0c
    have y2 : wc.frozen? ⟨b0, 2, none⟩ = false := frozen_blk hb0c (by simp)
    have c3 : wc.cell? ⟨l, 3, none⟩ = some (.int .i64 s.v0) := cell_blk hl
    have z3 : wc.cell? ⟨b0, 3, none⟩ = some (.int .i64 0) := cell_blk hb0c
    have y3 : wc.frozen? ⟨b0, 3, none⟩ = false := frozen_blk hb0c (by simp)
    have c4 : wc.cell? ⟨l, 4, none⟩ = some (.int .i64 s.v1) := cell_blk hl
    have z4 : wc.cell? ⟨b0, 4, none⟩ = some (.int .i64 0) := cell_blk hb0c
    have y4 : wc.frozen? ⟨b0, 4, none⟩ = false := frozen_blk hb0c (by simp)
    have c5 : wc.cell? ⟨l, 5, none⟩ = some (.int .i64 s.v2) := cell_blk hl
    have z5 : wc.cell? ⟨b0, 5, none⟩ = some (.int .i64 0) := cell_blk hb0c
    have y5 : wc.frozen? ⟨b0, 5, none⟩ = false := frozen_blk hb0c (by simp)
    have c6 : wc.cell? ⟨l, 6, none⟩ = some (.int .u32 (angle s.a.m.a3 s.a.m.a0)) := cell_blk hl
    have z6 : wc.cell? ⟨b0, 6, none⟩ = some (.int .u32 0) := cell_blk hb0c
    have y6 : wc.frozen? ⟨b0, 6, none⟩ = false := frozen_blk hb0c (by simp)
    have c7 : wc.cell? ⟨l, 7, none⟩ = some (.int .i64 (clipV (spZ s))) := cell_blk hl
    have z7 : wc.cell? ⟨b0, 7, none⟩ = some (.int .i64 0) := cell_blk hb0c
    have y7 : wc.frozen? ⟨b0, 7, none⟩ = false := frozen_blk hb0c (by simp)
    rw [← hb0e]
    clear hb0e
    clear hS hT hh hsp hA
    go_wp2_with (go_at_call 17; refine hal.mono ?_; clear hal; rintro e w' ⟨rfl, hw⟩; obtain rfl := hw.symm)
    go_loopw [32] (fun v wr => v = .int .i64 0 ∧ wr = wc) (fun _ _ => 0)
    case atStart => exact ⟨rfl, rfl⟩
    case round =>
      obtain ⟨rfl, rfl⟩ := hrel
      go_wp2
      have hfin : ((((((((wr.setCell ⟨b0, 0, none⟩ (.int .i64 s.p0)).setCell ⟨b0, 1, none⟩ (.int .i64 s.p1)).setCell ⟨b0, 2, none⟩ (.int .i64 s.p2)).setCell ⟨b0, 3, none⟩ (.int .i64 s.v0)).setCell ⟨b0, 4, none⟩ (.int .i64 s.v1)).setCell ⟨b0, 5, none⟩ (.int .i64 s.v2)).setCell ⟨b0, 6, none⟩ (.int .u32 (angle s.a.m.a3 s.a.m.a0))).setCell ⟨b0, 7, none⟩ (.int .i64 (clipV (spZ s)))).heap[b0]? = some (.cells (outC s) 45 (0, 0)) := store_blk8 hb0c
      have hnf : NavAt ((((((((wr.setCell ⟨b0, 0, none⟩ (.int .i64 s.p0)).setCell ⟨b0, 1, none⟩ (.int .i64 s.p1)).setCell ⟨b0, 2, none⟩ (.int .i64 s.p2)).setCell ⟨b0, 3, none⟩ (.int .i64 s.v0)).setCell ⟨b0, 4, none⟩ (.int .i64 s.v1)).setCell ⟨b0, 5, none⟩ (.int .i64 s.v2)).setCell ⟨b0, 6, none⟩ (.int .u32 (angle s.a.m.a3 s.a.m.a0))).setCell ⟨b0, 7, none⟩ (.int .i64 (clipV (spZ s)))) nb mb s.sp := store_nav8 hNc hnb0
      have hcf : Chg nb w ((((((((wr.setCell ⟨b0, 0, none⟩ (.int .i64 s.p0)).setCell ⟨b0, 1, none⟩ (.int .i64 s.p1)).setCell ⟨b0, 2, none⟩ (.int .i64 s.p2)).setCell ⟨b0, 3, none⟩ (.int .i64 s.v0)).setCell ⟨b0, 4, none⟩ (.int .i64 s.v1)).setCell ⟨b0, 5, none⟩ (.int .i64 s.v2)).setCell ⟨b0, 6, none⟩ (.int .u32 (angle s.a.m.a3 s.a.m.a0))).setCell ⟨b0, 7, none⟩ (.int .i64 (clipV (spZ s)))) := store_chg8 hcw hb0le
      generalize ((((((((wr.setCell ⟨b0, 0, none⟩ (.int .i64 s.p0)).setCell ⟨b0, 1, none⟩ (.int .i64 s.p1)).setCell ⟨b0, 2, none⟩ (.int .i64 s.p2)).setCell ⟨b0, 3, none⟩ (.int .i64 s.v0)).setCell ⟨b0, 4, none⟩ (.int .i64 s.v1)).setCell ⟨b0, 5, none⟩ (.int .i64 s.v2)).setCell ⟨b0, 6, none⟩ (.int .u32 (angle s.a.m.a3 s.a.m.a0))).setCell ⟨b0, 7, none⟩ (.int .i64 (clipV (spZ s)))) = W at *
      try simp only [Exit.inBlock, Exit.then]
      refine bodyPost_ret (res_cell rfl _ _ b0 45 (outC s) (0, 0) rfl hfin (under_row (by kernel_rfl)) (by kernel_rfl)) rfl ?_
      exact ⟨rfl, hnf, hcf⟩
end Go.Xv
namespace Go.Xv
open Go.RowKit
def newN (g : V3) (d : Int) : NS := ⟨g.x, g.y, g.z, 0, 0, 0, 0, 0, 0, d, newA, -1, 0, 0, false⟩
set_option maxRecDepth 100000 in
set_option maxHeartbeats 8000000 in
theorem new_calls_e (g : V3) (d : Int) (hd : 0 ≤ d) (w : World) :
    Calls PP 5 #[.agg #[.int .i64 g.x, .int .i64 g.y, .int .i64 g.z, .int .i64 d, .slice none 0 0]] w fun e w' => ∃ nb mb, e = .returned (.tuple #[.pointer (some ⟨nb, 0, none⟩), .int .i64 0]) ∧ NavAt w' nb mb (newN g d) ∧ MapE w' mb ∧ mb ≠ nb ∧ w.heap.size ≤ nb ∧ Below w.heap.size w w' := by
  go_enter Proofs.Try.func5, Proofs.Try.ntmps5
  have hA0 : Below w.heap.size w (w.alloc (.cells #[.int .i64 g.x, .int .i64 g.y, .int .i64 g.z, .int .i64 d, .slice none 0 0] 35)) := (Below.refl _ w).alloc (Nat.le_refl _) _
  have hb0 : (w.alloc (.cells #[.int .i64 g.x, .int .i64 g.y, .int .i64 g.z, .int .i64 d, .slice none 0 0] 35)).heap[w.heap.size]? = some (.cells #[.int .i64 g.x, .int .i64 g.y, .int .i64 g.z, .int .i64 d, .slice none 0 0] 35 (0, 0)) := heap_alloc_new w _
  have hd' : ¬ d < 0 := by omega
  go_wp2
  generalize w.alloc (.cells #[.int .i64 g.x, .int .i64 g.y, .int .i64 g.z, .int .i64 d, .slice none 0 0] 35) = w0 at *
  have hw0 : Below w0.heap.size w0 w0.drew := ⟨rfl, rfl, rfl, Nat.le_refl _, fun _ _ => rfl⟩
  have hA : ∀ o, Below w0.heap.size w0 (w0.alloc o).drew := fun o => hw0.alloc (Nat.le_refl _) o
  have hlt : w.heap.size < w0.heap.size := (Array.getElem?_eq_some_iff.1 hb0).1
  have hS : ∀ w', Below w0.heap.size w0 w' → w'.cell? ⟨w.heap.size, 0, none⟩ = some (.int .i64 g.x) ∧ w'.cell? ⟨w.heap.size, 1, none⟩ = some (.int .i64 g.y) ∧ w'.cell? ⟨w.heap.size, 2, none⟩ = some (.int .i64 g.z) ∧ w'.cell? ⟨w.heap.size, 3, none⟩ = some (.int .i64 d) := fun w' hB => ⟨(hB.cell (p := ⟨w.heap.size, _, none⟩) hlt).trans (cell_blk hb0), (hB.cell (p := ⟨w.heap.size, _, none⟩) hlt).trans (cell_blk hb0), (hB.cell (p := ⟨w.heap.size, _, none⟩) hlt).trans (cell_blk hb0), (hB.cell (p := ⟨w.heap.size, _, none⟩) hlt).trans (cell_blk hb0)⟩
  have hh := fun W (hW : Below w0.heap.size w0 W) => (anew_calls W).mono fun e w' (h : _ ∧ _) => (⟨h.1, hW.trans (h.2.mono hW.size), h.2⟩ : _ ∧ Below w0.heap.size w0 w' ∧ Below W.heap.size W w')
  have hmm := @run_makeMap PP
  go_cut [4] (fun v w' => ∃ nb mb, v = .pointer (some ⟨nb, 0, none⟩) ∧ NavAt w' nb mb (newN g d) ∧ MapE w' mb ∧ mb ≠ nb ∧ w0.heap.size ≤ nb ∧ Below w0.heap.size w0 w')
  case first =>
    go_region_held3 (fun w' => w'.cell? ⟨w.heap.size, 0, none⟩ = some (.int .i64 g.x) ∧ w'.cell? ⟨w.heap.size, 1, none⟩ = some (.int .i64 g.y) ∧ w'.cell? ⟨w.heap.size, 2, none⟩ = some (.int .i64 g.z) ∧ w'.cell? ⟨w.heap.size, 3, none⟩ = some (.int .i64 d))
      (first | (with_reducible exact hS _ hw0) | (with_reducible exact hS _ hBh') | (with_reducible exact hS _ (hA _)) | (with_reducible exact hS _ (hBh'.alloc hBh'.size _)) | (with_reducible exact hS _ ((hBh'.alloc hBh'.size _).alloc (Nat.le_trans hBh'.size (by simp)) _)))
      (first
        | (go_at_call 10
           refine (hh _ (by with_reducible exact hw0)).mono ?_
           rintro e wh ⟨rfl, hBh', hBh⟩)
        | (go_at_call 10
           refine (hh _ (by with_reducible exact hA _)).mono ?_
           rintro e wh ⟨rfl, hBh', hBh⟩
           have hz : wh.heap[w0.heap.size]? = some (.map #[] 0) := (hBh.block _ (by simp)).trans (heap_alloc_new w0 _)))
    all_goals
      go_wp2
      go_meet
      case rel =>
        first
          | (have hlz := (Array.getElem?_eq_some_iff.1 hz).1
             refine ⟨wh.heap.size, w0.heap.size, rfl, heap_alloc_new wh _, ⟨0, (heap_alloc_old wh _ hlz).trans hz⟩, by omega, by omega, hBh'.alloc hBh'.size _⟩)
          | (have hsz := hBh'.size
             have hsz1 : w0.heap.size ≤ (wh.alloc (.map #[] 0)).heap.size := Nat.le_trans hsz (by simp)
             refine ⟨_, wh.heap.size, rfl, heap_alloc2_new wh _ _, ⟨0, (heap_alloc_old _ _ (by simp)).trans (heap_alloc_new wh _)⟩, by omega, by omega, (hBh'.alloc hsz _).alloc hsz1 _⟩)
  case rest =>
    obtain ⟨nb, mb, rfl, hNc, hMc, hne, hle, hB⟩ := hcut
    have c4 : wc.cell? ⟨w.heap.size, 4, none⟩ = some (.slice none 0 0) := (hB.cell (p := ⟨w.heap.size, _, none⟩) hlt).trans (cell_blk hb0)
    have hBw : Below w.heap.size w wc := hA0.trans (hB.mono hA0.size)
    have hnb : w.heap.size ≤ nb := by omega
    clear hS hh hmm hA
    go_wp2
    go_loopw [28] (fun v wr => v = .int .i64 0 ∧ wr = wc) (fun _ _ => 0)
    case atStart => exact ⟨rfl, rfl⟩
    case round =>
      obtain ⟨rfl, rfl⟩ := hrel
      go_wp2
      go_ret2
      exact ⟨nb, mb, rfl, hNc, hMc, hne, hnb, hBw⟩
end Go.Xv
namespace Go.Xv
open Go.RowKit
theorem pr_zero (w : Int) : pr 0 w = 0 := by unfold pr; simp
theorem clipV_in {z : Int} (h : I64 z) : clipV z = z := by unfold clipV; unfold I64 at h; split <;> (try split) <;> omega
theorem clipC_in {z : Int} (h : I64 z) : clipC z = false := by unfold clipC; unfold I64 at h; simp; omega
theorem byV_zero (t : Int) : byV 0 t = 0 := by
  unfold byV
  rw [show rateV 0 = 0 from rfl, Int.zero_mul]
  rfl
/-- at rest: nothing has been moved. -/
structure Rest (g : V3) (s : NS) : Prop where
  g0 : s.g0 = wid g.x
  g1 : s.g1 = wid g.y
  g2 : s.g2 = wid g.z
  v0 : s.v0 = 0
  v1 : s.v1 = 0
  v2 : s.v2 = 0
  p0 : s.p0 = 0
  p1 : s.p1 = 0
  p2 : s.p2 = 0
  m : s.a.m = sameM
  n : 0 ≤ s.a.n ∧ s.a.n ≤ 15
  cut : s.cut = false
theorem Rest.ok {g : V3} (hg : g.W) {s : NS} (h : Rest g s) : s.ok := by
  have z : I64 0 := by unfold I64; omega
  have hM : MI sameM := by unfold MI I64 sameM; decide
  refine ⟨?_, ?_, ?_, ?_, ?_, ?_, ?_, ?_, ?_, ?_, h.n⟩
  · rw [h.g0]; exact wid_I hg.x
  · rw [h.g1]; exact wid_I hg.y
  · rw [h.g2]; exact wid_I hg.z
  · rw [h.v0]; exact z
  · rw [h.v1]; exact z
  · rw [h.v2]; exact z
  · rw [h.p0]; exact z
  · rw [h.p1]; exact z
  · rw [h.p2]; exact z
  · rw [h.m]; exact hM
theorem stepA_zero {a : Att} (h : a.m = sameM) (hn : 0 ≤ a.n ∧ a.n ≤ 15) : (stepA a 0 0 0).m = sameM ∧ 0 ≤ (stepA a 0 0 0).n ∧ (stepA a 0 0 0).n ≤ 15 := by
  refine ⟨step_same h, ?_⟩
  unfold stepA
  split
  · exact ⟨Int.le_refl _, by show (0 : Int) ≤ 15; omega⟩
  · exact ⟨by show 0 ≤ a.n + 1; omega, by show a.n + 1 ≤ 15; omega⟩
theorem lift_same {a : Att} (h : a.m = sameM) {x : V3} (hx : x.W) : liftV a x = ⟨wid x.x, wid x.y, wid x.z⟩ ∧ liftK a x = false := by
  have w0 := wid_I hx.x
  have w1 := wid_I hx.y
  have w2 := wid_I hx.z
  have e0 : dotZ 4294967296 0 0 (wid x.x) (wid x.y) (wid x.z) = wid x.x := by unfold dotZ; rw [(pr_one _).1, pr_zero, pr_zero]; omega
  have e1 : dotZ 0 4294967296 0 (wid x.x) (wid x.y) (wid x.z) = wid x.y := by unfold dotZ; rw [(pr_one _).1, pr_zero, pr_zero]; omega
  have e2 : dotZ 0 0 4294967296 (wid x.x) (wid x.y) (wid x.z) = wid x.z := by unfold dotZ; rw [(pr_one _).1, pr_zero, pr_zero]; omega
  unfold liftV liftK
  rw [h]
  unfold sameM
  dsimp only
  rw [e0, e1, e2, clipV_in w0, clipV_in w1, clipV_in w2, clipC_in w0, clipC_in w1, clipC_in w2]
  exact ⟨rfl, rfl⟩
theorem vSub_self (a : V3) : vSubV a a = ⟨0, 0, 0⟩ ∧ vSubK a a = false := by
  unfold vSubV vSubK
  rw [Int.sub_self, Int.sub_self, Int.sub_self]
  exact ⟨rfl, rfl⟩
theorem vSca_zero (k : Int) : vScaV ⟨0, 0, 0⟩ k = ⟨0, 0, 0⟩ ∧ vScaK ⟨0, 0, 0⟩ k = false := by
  unfold vScaV vScaK
  dsimp only
  rw [pr_zero]
  exact ⟨rfl, rfl⟩
theorem goK_zero (M : Mt) (k : Nat) : goK M k 0 = false ∧ goM M k 0 = M := by
  unfold goK goM
  rw [if_pos rfl, if_pos rfl]
  exact ⟨rfl, rfl⟩
theorem go3K_zero (M : Mt) : go3K M 0 0 0 = false := by
  unfold go3K
  rw [(goK_zero _ _).1, (goK_zero _ _).1, (goK_zero _ _).1]
  rfl
theorem rest_step {g : V3} (hg : g.W) {s : NS} (h : Rest g s) (t : Int) : Rest g (stepN s t ⟨0, 0, 0⟩ g) := by
  obtain ⟨hm, hn⟩ := stepA_zero h.m h.n
  have hA : stA s t ⟨0, 0, 0⟩ = stepA s.a 0 0 0 := by unfold stA; dsimp only; rw [byV_zero]
  obtain ⟨l1, l2⟩ := lift_same hm hg
  have hgv : s.g = ⟨wid g.x, wid g.y, wid g.z⟩ := by unfold NS.g; rw [h.g0, h.g1, h.g2]
  have hQ : stQ s t ⟨0, 0, 0⟩ g = ⟨0, 0, 0⟩ := by unfold stQ; rw [hA, l1, hgv]; exact (vSub_self _).1
  have hM : stM s t ⟨0, 0, 0⟩ g = ⟨0, 0, 0⟩ := by unfold stM; rw [hQ]; exact (vSca_zero _).1
  have hv : s.v = ⟨0, 0, 0⟩ := by unfold NS.v; rw [h.v0, h.v1, h.v2]
  have hp : s.p = ⟨0, 0, 0⟩ := by unfold NS.p; rw [h.p0, h.p1, h.p2]
  have hV : stV s t ⟨0, 0, 0⟩ g = ⟨0, 0, 0⟩ := by unfold stV; rw [hM, hv]; rfl
  have hY : stY s t ⟨0, 0, 0⟩ g = ⟨0, 0, 0⟩ := by unfold stY; rw [hV]; exact (vSca_zero _).1
  have hP : stP s t ⟨0, 0, 0⟩ g = ⟨0, 0, 0⟩ := by unfold stP; rw [hY, hp]; rfl
  have hK : (stKs s t ⟨0, 0, 0⟩ g).any id = false := by
    unfold stKs
    dsimp only
    rw [byV_zero, go3K_zero, hA, l2, l1, hgv, (vSub_self _).2, hQ, (vSca_zero _).2, hv, hM, hV, (vSca_zero _).2, hp, hY]
    rfl
  unfold stepN
  rw [hA, hV, hP, hK, h.cut]
  exact ⟨h.g0, h.g1, h.g2, rfl, rfl, rfl, rfl, rfl, rfl, hm, hn, rfl⟩
theorem rest_new (g : V3) (d : Int) : Rest g (newN ⟨wid g.x, wid g.y, wid g.z⟩ d) := ⟨rfl, rfl, rfl, rfl, rfl, rfl, rfl, rfl, rfl, rfl, ⟨by show (0 : Int) ≤ 0; omega, by show (0 : Int) ≤ 15; omega⟩, rfl⟩
theorem rest_imu {g : V3} (hg : g.W) {s : NS} (h : Rest g s) (t : Int) : Rest g (imuN s t 1 ⟨0, 0, 0⟩ g) := by
  unfold imuN
  split
  · have h1 : Rest g { s with now := t } := ⟨h.g0, h.g1, h.g2, h.v0, h.v1, h.v2, h.p0, h.p1, h.p2, h.m, h.n, h.cut⟩
    split
    · exact ⟨h.g0, h.g1, h.g2, h.v0, h.v1, h.v2, h.p0, h.p1, h.p2, h.m, h.n, h.cut⟩
    · obtain ⟨a0, a1, a2, a3, a4, a5, a6, a7, a8, a9, a10, a11⟩ := rest_step hg h1 (min (t - s.last) 65535)
      exact ⟨a0, a1, a2, a3, a4, a5, a6, a7, a8, a9, a10, a11⟩
  · exact h
theorem rest_sp {g : V3} {s : NS} (h : Rest g s) : spZ s = 0 ∧ Rest g s.sp := by
  have e : spZ s = 0 := by
    unfold spZ
    rw [h.v0, h.v1, h.v2, h.m]
    rfl
  refine ⟨e, ?_⟩
  obtain ⟨a0, a1, a2, a3, a4, a5, a6, a7, a8, a9, a10, a11⟩ := h
  refine ⟨a0, a1, a2, a3, a4, a5, a6, a7, a8, a9, a10, ?_⟩
  show (s.cut || clipC (spZ s)) = false
  rw [a11, e]
  rfl
end Go.Xv
namespace Go.Xv
open Go.RowKit
def rdF (g : V3) : Nat → Value
  | 0 => .int .i64 1
  | 1 => .int .i32 0
  | 2 => .int .i32 0
  | 3 => .int .i32 0
  | 4 => .int .i32 g.x
  | 5 => .int .i32 g.y
  | 6 => .int .i32 g.z
  | 7 => .int .i64 0
  | 8 => .int .u32 0
  | 9 => .int .i32 0
  | 10 => .int .u32 0
  | 11 => .int .u32 0
  | 12 => .int .u8 0
  | 13 => .int .i64 0
  | 14 => .int .i64 0
  | 15 => .int .i64 0
  | 16 => .int .u8 0
  | 17 => .int .u8 0
  | 18 => .int .u8 0
  | 19 => .int .u8 0
  | 20 => .int .u8 0
  | 21 => .int .u8 0
  | 22 => .int .u8 0
  | 23 => .int .u8 0
  | 24 => .int .u8 0
  | 25 => .int .u8 0
  | 26 => .int .u8 0
  | 27 => .int .u8 0
  | 28 => .int .u8 0
  | 29 => .int .u8 0
  | 30 => .int .u8 0
  | 31 => .int .u8 0
  | 32 => .int .u8 0
  | 33 => .int .u8 0
  | 34 => .int .u8 0
  | 35 => .int .u8 0
  | 36 => .int .u8 0
  | 37 => .int .u8 0
  | 38 => .int .u8 0
  | 39 => .int .u8 0
  | 40 => .int .u8 0
  | 41 => .int .u8 0
  | 42 => .int .u8 0
  | 43 => .int .u8 0
  | 44 => .int .u8 0
  | 45 => .int .u8 0
  | 46 => .int .u8 0
  | 47 => .int .u8 0
  | 48 => .int .u64 0
  | 49 => .int .u8 0
  | 50 => .int .u32 0
  | 51 => .int .i64 0
  | 52 => .int .u32 0
  | 53 => .int .u8 0
  | 54 => .int .u8 0
  | 55 => .int .u16 0
  | 56 => .int .u64 0
  | _ + 57 => undef
theorem rdF_of (g : V3) : RdOf (rdF g) 1 ⟨0, 0, 0⟩ g := ⟨rfl, rfl, rfl, rfl, rfl, rfl, rfl⟩
theorem z3W : (⟨0, 0, 0⟩ : V3).W := ⟨by unfold I32; decide, by unfold I32; decide, by unfold I32; decide⟩
def wk1 : NS := ⟨0, 0, 0, 0, 0, 0, 0, 0, 0, 0, newA, 0, 0, 0, false⟩
def wk2 : NS := ⟨0, 0, 0, 4294967296, 0, 0, 4294967296, 0, 0, 0, ⟨sameM, 1⟩, 0, 100, 100, false⟩
theorem wk1_eq : imuN (newN ⟨0, 0, 0⟩ 0) 0 1 ⟨0, 0, 0⟩ ⟨0, 0, 0⟩ = wk1 := by kernel_rfl
theorem wk2_eq : imuN wk1 100 1 ⟨0, 0, 0⟩ ⟨65536, 0, 0⟩ = wk2 := by kernel_rfl
theorem wk0_ok : (newN ⟨0, 0, 0⟩ 0).ok := (rest_new ⟨0, 0, 0⟩ 0).ok z3W
theorem wk1_ok : wk1.ok := ⟨wk0_ok.g0, wk0_ok.g1, wk0_ok.g2, wk0_ok.v0, wk0_ok.v1, wk0_ok.v2, wk0_ok.p0, wk0_ok.p1, wk0_ok.p2, wk0_ok.m, wk0_ok.n⟩
theorem wk2_ok : wk2.ok := ⟨wk0_ok.g0, wk0_ok.g1, wk0_ok.g2, by unfold wk2 I64; decide, wk0_ok.v1, wk0_ok.v2, by unfold wk2 I64; decide, wk0_ok.p1, wk0_ok.p2, wk0_ok.m, by unfold wk2; decide⟩
theorem Chg.low {nb B : Nat} {a b : World} (h : Chg nb a b) (hn : B ≤ nb) (hs : B ≤ a.heap.size) : Below B a b := ⟨h.os, h.tape, h.output, h.size, fun k hk => h.block k (by omega) (by omega)⟩
theorem vec_eq1 (w : World) : Sem.run PP (binOp BinOp.eql 28 (Value.agg #[.int .i64 4294967296, .int .i64 0, .int .i64 0]) (Value.agg #[.int .i64 4294967296, .int .i64 0, .int .i64 0])) w = .ok (.bool true) w := by
  kernel_rfl
theorem vec_eq0 (w : World) : Sem.run PP (binOp BinOp.eql 28 (Value.agg #[.int .i64 0, .int .i64 0, .int .i64 0]) (Value.agg #[.int .i64 0, .int .i64 0, .int .i64 0])) w = .ok (.bool true) w := by
  kernel_rfl
set_option maxRecDepth 100000 in
set_option maxHeartbeats 8000000 in
theorem works_calls (w : World) : Calls PP 4 #[] w fun e w' => e = .returned (.bool true) ∧ Below w.heap.size w w' := by
  go_enter Proofs.Try.func4, Proofs.Try.ntmps4
  have hn := new_calls_e ⟨0, 0, 0⟩ 0 (Int.le_refl _) w
  go_wp2_with (go_at_call 5; refine hn.mono ?_; clear hn; rintro e w1 ⟨nb, mb, rfl, hN1, hM1, hne, hle, hB1⟩)
  have h1 := imu_calls nb mb (newN ⟨0, 0, 0⟩ 0) wk0_ok (.inl rfl) 0 1 ⟨0, 0, 0⟩ ⟨0, 0, 0⟩ z3W z3W _ (rdF_of ⟨0, 0, 0⟩) w1 hN1
  rw [wk1_eq, show imuE (newN ⟨0, 0, 0⟩ 0) 0 1 = 0 by kernel_rfl] at h1
  refine h1.mono ?_
  clear h1
  rintro e w2 ⟨rfl, hN2, hC2⟩
  have hM2 := hM1.chg hC2 hne
  have h2 := imu_calls nb mb wk1 wk1_ok (.inr ⟨Int.le_refl _, Int.le_refl _⟩) 100 1 ⟨0, 0, 0⟩ ⟨65536, 0, 0⟩ z3W ⟨by unfold I32; decide, by unfold I32; decide, by unfold I32; decide⟩ _ (rdF_of ⟨65536, 0, 0⟩) w2 hN2
  rw [wk2_eq, show imuE wk1 100 1 = 0 by kernel_rfl] at h2
  go_wp2_with (go_at_call 6; refine h2.mono ?_; clear h2; rintro e w3 ⟨rfl, hN3, hC3⟩)
  have hM3 := hM2.chg hC3 hne
  have h3 := out_calls_e nb mb wk2 wk2_ok w3 hN3 hM3 hne
  rw [show outC wk2 = #[.int .i64 4294967296, .int .i64 0, .int .i64 0, .int .i64 4294967296, .int .i64 0, .int .i64 0, .int .u32 (angle 0 4294967296), .int .i64 (clipV (spZ wk2))] from rfl] at h3
  generalize angle 0 4294967296 = A at h3
  generalize clipV (spZ wk2) = B at h3
  refine h3.mono ?_
  clear h3
  rintro e w4 ⟨rfl, hN4, hC4⟩
  have hM4 := hM3.chg hC4 hne
  have h4 := fun W hN hM => mode_calls_e nb mb wk2.sp 100 W hN hM
  rw [if_neg (show ¬ wk2.sp.start = -1 by show ¬ (0 : Int) = -1; decide)] at h4
  have hq := vec_eq1
  have hB5 : ∀ o, Below w4.heap.size w4 (w4.alloc o) := fun o => (Below.refl _ w4).alloc (Nat.le_refl _) o
  go_wp2_with (go_at_call 9; refine (h4 _ (hN4.below (hB5 _)) (hM4.chg (Chg.of (hB5 _)) hne)).mono ?_; rintro e w5 ⟨rfl, hB6⟩)
  go_ret
  have s1 := hB1.size
  have s2 := hC2.size
  have s3 := hC3.size
  have s4 := hC4.size
  have b4 : Below w.heap.size w w4 := ((hB1.trans (hC2.low hle s1)).trans (hC3.low hle (by omega))).trans (hC4.low hle (by omega))
  exact ⟨rfl, (b4.trans ((hB5 _).mono b4.size)).trans (hB6.mono (Nat.le_trans b4.size (hB5 _).size))⟩
end Go.Xv
namespace Go.Xv
open Go.RowKit
def grN (g : V3) (j : Nat) : Array Value := match j with
  | 0 => #[.int .i64 0, .int .i64 0, .int .i64 0]
  | 1 => #[.int .i64 (65536 * g.x), .int .i64 0, .int .i64 0]
  | 2 => #[.int .i64 (65536 * g.x), .int .i64 (65536 * g.y), .int .i64 0]
  | _ => #[.int .i64 (65536 * g.x), .int .i64 (65536 * g.y), .int .i64 (65536 * g.z)]
theorem imuN_next (s : NS) {t : Int} (r x : V3) (h : (1 : Int) = 1 ∧ s.now ≤ t ∧ t ≤ 1099511627776) : (imuN s t 1 r x).now = t ∧ (imuN s t 1 r x).last = t ∧ (imuN s t 1 r x).start = (if s.start = -1 then t else s.start) := by
  unfold imuN
  rw [if_pos h]
  split
  · exact ⟨rfl, rfl, rfl⟩
  · exact ⟨rfl, rfl, rfl⟩
set_option maxRecDepth 100000 in
set_option maxHeartbeats 8000000 in
theorem rests_calls (g : V3) (hg : g.W) (drift : Int) (hdr : I64 drift) (zs : List Int) (hz : ∀ n ∈ zs, 0 ≤ n ∧ n < 65536) (a : Option Addr) (len cap b q : Nat) (hlen : len ≤ zs.length) (ha : 0 < len → a = some ⟨b, q, none⟩) (w : World)
    (hc : ∀ i, i < zs.length → w.cell? ⟨b, q + i, none⟩ = some (.int .u16 (zs.getD i 0))) :
    Calls PP 3 #[.agg #[.int .i32 g.x, .int .i32 g.y, .int .i32 g.z], .int .i64 drift, .slice a len cap] w fun e w' => e = .returned (.bool true) ∧ Below w.heap.size w w' := by
  go_enter Proofs.Try.func3, Proofs.Try.ntmps3
  have hwk := works_calls
  have hA0 : Below w.heap.size w (w.alloc (.cells #[.int .i32 g.x, .int .i32 g.y, .int .i32 g.z] 23)) := (Below.refl _ w).alloc (Nat.le_refl _) _
  have hb0 : (w.alloc (.cells #[.int .i32 g.x, .int .i32 g.y, .int .i32 g.z] 23)).heap[w.heap.size]? = some (.cells #[.int .i32 g.x, .int .i32 g.y, .int .i32 g.z] 23 (0, 0)) := heap_alloc_new w _
  go_wp2_with (go_at_call 4; refine (hwk _).mono ?_; clear hwk; rintro e w1 ⟨rfl, hB1⟩)
  have hB2 : Below w.heap.size w (w1.alloc (.cells #[.int .i64 0, .int .i64 0, .int .i64 0] 28)) := (hA0.trans (hB1.mono hA0.size)).alloc (Nat.le_trans hA0.size hB1.size) _
  have hb2 : (w1.alloc (.cells #[.int .i64 0, .int .i64 0, .int .i64 0] 28)).heap[w.heap.size]? = some (.cells #[.int .i32 g.x, .int .i32 g.y, .int .i32 g.z] 23 (0, 0)) := (((Below.refl _ w1).alloc (Nat.le_refl _) _).block _ (Nat.lt_of_lt_of_le (by simp) hB1.size)).trans ((hB1.block _ (by simp)).trans hb0)
  have hl2 : (w1.alloc (.cells #[.int .i64 0, .int .i64 0, .int .i64 0] 28)).heap[w1.heap.size]? = some (.cells (grN g 0) 28 (0, 0)) := heap_alloc_new w1 _
  have hbl : w.heap.size < w1.heap.size := Nat.lt_of_lt_of_le (by simp) hB1.size
  generalize w1.alloc (.cells #[.int .i64 0, .int .i64 0, .int .i64 0] 28) = w2 at *
  obtain ⟨b0, hb0e⟩ : ∃ x, x = w.heap.size := ⟨_, rfl⟩
  have hb0s : w.heap.size ≤ b0 := by omega
  rw [← hb0e] at hb2 hbl ⊢
  clear hb0e hb0
  generalize w1.heap.size = l at *
  have x0 := hg.x
  have x1 := hg.y
  have x2 := hg.z
  unfold I32 at x0 x1 x2
  have m0 : IntKind.wrap .i64 (65536 * g.x) = 65536 * g.x := by simp [IntKind.wrap, IntKind.signed, IntKind.bits]; omega
  have m1 : IntKind.wrap .i64 (65536 * g.y) = 65536 * g.y := by simp [IntKind.wrap, IntKind.signed, IntKind.bits]; omega
  have m2 : IntKind.wrap .i64 (65536 * g.z) = 65536 * g.z := by simp [IntKind.wrap, IntKind.signed, IntKind.bits]; omega
  have n0 : IntKind.wrap .i64 g.x = g.x := by simp [IntKind.wrap, IntKind.signed, IntKind.bits]; omega
  have n1 : IntKind.wrap .i64 g.y = g.y := by simp [IntKind.wrap, IntKind.signed, IntKind.bits]; omega
  have n2 : IntKind.wrap .i64 g.z = g.z := by simp [IntKind.wrap, IntKind.signed, IntKind.bits]; omega
  go_loopw [8] (fun v wr => ∃ j : Nat, j ≤ 3 ∧ v = .int .i64 j ∧ wr.heap[l]? = some (.cells (grN g j) 28 (0, 0)) ∧ Below l w2 wr) (fun v _ => 3 - (intOf v).toNat)
  case atStart => exact ⟨0, by omega, rfl, hl2, Below.refl _ _⟩
  case round =>
    obtain ⟨j, hj, rfl, hl, hB⟩ := hrel
    rcases j with _ | _ | _ | _ | j
    · have z0 : wr.cell? ⟨l, 0, none⟩ = some (.int .i64 0) := cell_blk hl
      have f0 : wr.frozen? ⟨l, 0, none⟩ = false := frozen_blk hl (by simp [grN])
      have c0 : wr.cell? ⟨b0, 0, none⟩ = some (.int .i32 g.x) := (hB.cell (p := ⟨b0, _, none⟩) hbl).trans (cell_blk hb2)
      go_wp2
      refine ⟨⟨1, by omega, by simp, ?_, hB.setCell (Nat.le_refl _) _⟩, by simp [intOf]⟩
      exact setCell_blk hl
    · have z0 : wr.cell? ⟨l, 1, none⟩ = some (.int .i64 0) := cell_blk hl
      have f0 : wr.frozen? ⟨l, 1, none⟩ = false := frozen_blk hl (by simp [grN])
      have c0 : wr.cell? ⟨b0, 1, none⟩ = some (.int .i32 g.y) := (hB.cell (p := ⟨b0, _, none⟩) hbl).trans (cell_blk hb2)
      go_wp2
      refine ⟨⟨2, by omega, by simp, ?_, hB.setCell (Nat.le_refl _) _⟩, by simp [intOf]⟩
      exact setCell_blk hl
    · have z0 : wr.cell? ⟨l, 2, none⟩ = some (.int .i64 0) := cell_blk hl
      have f0 : wr.frozen? ⟨l, 2, none⟩ = false := frozen_blk hl (by simp [grN])
      have c0 : wr.cell? ⟨b0, 2, none⟩ = some (.int .i32 g.z) := (hB.cell (p := ⟨b0, _, none⟩) hbl).trans (cell_blk hb2)
      go_wp2
      refine ⟨⟨3, by omega, by simp, ?_, hB.setCell (Nat.le_refl _) _⟩, by simp [intOf]⟩
      exact setCell_blk hl
    · have c0 : wr.cell? ⟨l, 0, none⟩ = some (.int .i64 (65536 * g.x)) := cell_blk hl
      have c1 : wr.cell? ⟨l, 1, none⟩ = some (.int .i64 (65536 * g.y)) := cell_blk hl
      have c2 : wr.cell? ⟨l, 2, none⟩ = some (.int .i64 (65536 * g.z)) := cell_blk hl
      obtain ⟨d0, hmx, hd0⟩ : ∃ d0 : Int, (if drift < 0 then 0 else drift) = d0 ∧ 0 ≤ d0 := ⟨_, rfl, by split <;> omega⟩
      have hnew := fun W => new_calls_e ⟨65536 * g.x, 65536 * g.y, 65536 * g.z⟩ d0 hd0 W
      have hrest := rest_new g d0
      rw [show wid g.x = 65536 * g.x from Int.mul_comm _ _, show wid g.y = 65536 * g.y from Int.mul_comm _ _, show wid g.z = 65536 * g.z from Int.mul_comm _ _] at hrest
      go_wp2_with (go_at_call 5; refine (hnew _).mono ?_; clear hnew; rintro e w5 ⟨nb, mb, rfl, hN5, hM5, hne, hle, hBn⟩)
      have hlr : l < wr.heap.size := (Array.getElem?_eq_some_iff.1 hl).1
      have hb5 : w5.heap[b0]? = some (.cells #[.int .i32 g.x, .int .i32 g.y, .int .i32 g.z] 23 (0, 0)) := (hBn.block _ (by omega)).trans ((hB.block _ hbl).trans hb2)
      have hB5 : Below w.heap.size w w5 := (hB2.trans (hB.mono (by omega))).trans (hBn.mono (Nat.le_trans hB2.size hB.size))
      have hwnb : w.heap.size ≤ nb := Nat.le_trans (Nat.le_trans hB2.size hB.size) hle
      have hb0n : b0 ≠ nb := by omega
      clear c0 c1 c2 hl hB hl2 hb2 hB2 hmx m0 m1 m2 n0 n1 n2
      go_loopw [11, 12] (fun vn vi wr => ∃ (k : Nat) (now : Int) (s : NS), k ≤ len ∧ k ≤ 60 ∧ vn = .int .i64 now ∧ vi = .int .i64 k ∧ 0 ≤ now ∧ now ≤ 65535 * k ∧ Rest g s ∧ (s.start = -1 ∨ (0 ≤ s.last ∧ s.last ≤ s.now)) ∧ s.now ≤ now ∧ NavAt wr nb mb s ∧ MapE wr mb ∧ Chg nb w5 wr) (fun _ vi _ => 60 - (intOf vi).toNat)
      case atStart => exact ⟨0, 0, _, by omega, by omega, rfl, rfl, by omega, by omega, hrest, .inl rfl, Int.le_refl _, hN5, hM5, Chg.refl _ _⟩
      case round =>
        obtain ⟨k, now, s, hk, hk6, rfl, rfl, hn0, hn1, hR, hf, hsn, hN, hM, hC⟩ := hrel
        have hok := hR.ok hg
        obtain ⟨hs0, hsp1⟩ := rest_sp hR
        have hsp : spZ s = 0 ∧ Rest g s.sp := ⟨hs0, hsp1⟩
        have hout := out_calls_e nb mb s hok _ hN hM hne
        rw [show outC s = #[.int .i64 0, .int .i64 0, .int .i64 0, .int .i64 0, .int .i64 0, .int .i64 0, .int .u32 (angle s.a.m.a3 s.a.m.a0), .int .i64 0] by unfold outC; rw [hR.p0, hR.p1, hR.p2, hR.v0, hR.v1, hR.v2, hs0]; rfl] at hout
        have hq := vec_eq0
        generalize angle s.a.m.a3 s.a.m.a0 = A at hout
        by_cases hlt : k < len
        · by_cases h60 : k < 60
          · clear hout hsp hsp1 hs0 hq
            obtain rfl := ha (by omega)
            have hkz : k < zs.length := by omega
            have hzk := hz (zs.getD k 0) (by rw [List.getD_eq_getElem?_getD, List.getElem?_eq_getElem hkz]; simp)
            have hcb := hc k hkz
            have hblt : b < w.heap.size := World.block_lt_of_cell? w _ hcb
            have hcz : wr.cell? ⟨b, q + k, none⟩ = some (.int .u16 (zs.getD k 0)) := ((Below.cell (hB5.trans (hC.low hwnb hB5.size)) (p := ⟨b, _, none⟩) hblt)).trans hcb
            generalize zs.getD k 0 = z at *
            have hbr : wr.heap[b0]? = some (.cells #[.int .i32 g.x, .int .i32 g.y, .int .i32 g.z] 23 (0, 0)) := (hC.block _ (Array.getElem?_eq_some_iff.1 hb5).1 hb0n).trans hb5
            have c0 : wr.cell? ⟨b0, 0, none⟩ = some (.int .i32 g.x) := cell_blk hbr
            have c1 : wr.cell? ⟨b0, 1, none⟩ = some (.int .i32 g.y) := cell_blk hbr
            have c2 : wr.cell? ⟨b0, 2, none⟩ = some (.int .i32 g.z) := cell_blk hbr
            have hcond : (1 : Int) = 1 ∧ s.now ≤ now ∧ now ≤ 1099511627776 := ⟨rfl, hsn, by omega⟩
            have himu := imu_calls nb mb s hok hf now 1 ⟨0, 0, 0⟩ g z3W hg _ (rdF_of g) wr hN
            rw [show imuE s now 1 = 0 by unfold imuE; rw [if_pos hcond]] at himu
            obtain ⟨hnx1, hnx2, hnx3⟩ := imuN_next s ⟨0, 0, 0⟩ g hcond
            have hR' := rest_imu hg hR now
            generalize imuN s now 1 ⟨0, 0, 0⟩ g = s' at *
            have hwz : IntKind.wrap .i64 z = z := by simp [IntKind.wrap, IntKind.signed, IntKind.bits]; omega
            have hws : IntKind.wrap .i64 (now + z) = now + z := by simp [IntKind.wrap, IntKind.signed, IntKind.bits]; omega
            go_wp2_with (go_at_call 6; refine himu.mono ?_; clear himu; rintro e w6 ⟨rfl, hN6, hC6⟩
                         have hcz6 : w6.cell? ⟨b, q + k, none⟩ = some (.int .u16 z) := (World.cell?_of_block (w := wr) (a := ⟨b, _, none⟩) (hC6.block b (Nat.lt_of_lt_of_le hblt (Nat.le_trans hB5.size hC.size)) (by omega))).trans hcz)
            exact ⟨⟨k + 1, now + z, s', by omega, by omega, rfl, by simp, by omega, by push_cast; omega, hR', .inr ⟨by omega, by omega⟩, by omega, hN6, hM.chg hC6 hne, hC.trans hC6⟩, by simp [intOf]; omega⟩
          · skip
            go_wp2
            refine (hout.mono ?_)
            rintro e w6 ⟨rfl, hN6, hC6⟩
            have hcut := fun W hN => cut_calls nb mb s.sp W hN
            rw [hsp.2.cut] at hcut
            have hB7 : ∀ o, Below w6.heap.size w6 (w6.alloc o) := fun o => (Below.refl _ w6).alloc (Nat.le_refl _) o
            go_wp2_with (go_at_call 8; refine (hcut _ (hN6.below (hB7 _))).mono ?_; rintro e w7 ⟨rfl, rfl⟩)
            go_ret
            have sa := hC.size
            have sb := hC6.size
            have b6 : Below w.heap.size w w6 := (hB5.trans (hC.low hwnb hB5.size)).trans (hC6.low hwnb (by have := hB5.size; omega))
            exact ⟨rfl, b6.trans ((hB7 _).mono b6.size)⟩
        · skip
          go_wp2
          refine (hout.mono ?_)
          rintro e w6 ⟨rfl, hN6, hC6⟩
          have hcut := fun W hN => cut_calls nb mb s.sp W hN
          rw [hsp.2.cut] at hcut
          have hB7 : ∀ o, Below w6.heap.size w6 (w6.alloc o) := fun o => (Below.refl _ w6).alloc (Nat.le_refl _) o
          go_wp2_with (go_at_call 8; refine (hcut _ (hN6.below (hB7 _))).mono ?_; rintro e w7 ⟨rfl, rfl⟩)
          go_ret
          have sa := hC.size
          have sb := hC6.size
          have b6 : Below w.heap.size w w6 := (hB5.trans (hC.low hwnb hB5.size)).trans (hC6.low hwnb (by have := hB5.size; omega))
          exact ⟨rfl, b6.trans ((hB7 _).mono b6.size)⟩
    · omega
end Go.Xv
namespace Go.Xv
open Go.RowKit Go.WideShapes Go.ChangeShapes
section
variable {H : Type} {enc : TypeId × Value → H} {P : Program} {W : World} {base : Nat} {held : Bool}
/-- what a law's statement asks, of a walk by hand. -/
theorem law_contract_walked (hl : laidOutB P = true) {n : FuncId} {fn : Func} {s : ChangeSpec} {apart fresh handsOn again : Bool}
    {bt : TypeId} (hbt : P.underlying bt = some .bool) (hres : fn.resultTypes = #[bt]) (hro : rowed P fn.params.toList = true) (hsv : s.vars = [])
    {W : World} {args : Array Value} {ds gs : List (DataW H)} {before : List MemPlace}
    (hfn : s.fn H ds = { results := [.lit (.bool true)], args := ds })
    (hW : DataW.Whole enc P fn.params.toList s.vars apart W args.toList ds gs before)
    (hc : Calls P n args W fun e W' => e = .returned (.bool true) ∧ Below W.heap.size W W') :
    Calls P n args W fun e W' => ∃ v, e = .returned v ∧ s.post enc P fn apart fresh handsOn again W args v W' := by
  refine hc.mono fun e W' ⟨he, hb⟩ => ⟨.bool true, he, ?_⟩
  have hlt := hW.lt
  have hW0 := hW
  obtain ⟨p, q, hA, hV, rfl, hz, hn⟩ := hW
  rw [hsv] at hV
  obtain ⟨rfl, rfl⟩ : gs = [] ∧ q = [] := by
    cases gs with
    | nil => exact ⟨rfl, hV⟩
    | cons => exact hV.elim
  have hps : ∀ x ∈ p, x.block < W.heap.size := fun x hx => hlt x (by simp [hx])
  have hargs : ∀ sp : Nat → Bool, (∀ x ∈ p, sp x.block = true) → DataW.TrodAll enc P W' 0 sp true fn.params.toList args.toList ds p := fun sp hsp =>
    trodAll_below hl hb hro hA hps hsp
  have hresT : ∀ (b : Nat) (sp : Nat → Bool) (hd : Bool), DataW.TrodAll enc P W' b sp hd fn.resultTypes.toList ((Value.bool true).resultList fn.resultTypes.size) [.lit (.bool true)] [] := by
    intro b sp hd
    rw [hres]
    exact ⟨[], [], shut_bool hbt true, rfl, rfl⟩
  have hfn' : s.fn H (ds ++ []) = { results := [.lit (.bool true)], args := ds } := by rw [List.append_nil]; exact hfn
  have hvars : ∀ sp : Nat → Bool, DataW.TrodVars enc P W' sp s.vars [] [] := fun sp => by rw [hsv]; rfl
  refine ⟨ds, [], p ++ [], [], p, [], hW0, ?_, ?_, ?_, hb.frame _, fun _ => ⟨ok_one hres rfl (okWide_bool_mk hbt _), ?_⟩⟩
  · rw [hfn']; exact hresT _ _ _
  · rw [hfn']; exact hargs _ (fun x hx => by simpa using hps x hx)
  · rw [hfn']; exact hvars _
  · refine ⟨_, _, ([] ++ p) ++ [], ⟨[] ++ p, [], trodAll_append (hargs _ (fun _ _ => rfl)) (hresT _ _ _), hvars _, rfl, ?_, ?_⟩, ?_⟩
    · intro b off hp
      rw [hb.frozen (hlt _ (by simpa using hp))]
      exact hz b off (by simpa using hp)
    · intro ha
      simpa using hn ha
    · intro x hx _
      simpa using hx
theorem wf_u16 {n : Int} (h : (Lit.int .u16 n).wf = true) : 0 ≤ n ∧ n < 65536 := by
  simp [Lit.wf, IntKind.min, IntKind.max, IntKind.signed, IntKind.bits] at h
  omega
theorem rel_row {k : IntKind} {zs : List Int} {len cap : Nat} {p : Option Addr} {W : World} (hl : len ≤ zs.length) (h : Rel (fun b => b < W.heap.size) W rho0 (.fs (zs.map fun n => .v (.int k n)) 0 len 1) (.slice p len cap)) :
    ∃ b q, (0 < len → p = some ⟨b, q, none⟩) ∧ ∀ i, i < zs.length → W.cell? ⟨b, q + i, none⟩ = some (.int k (zs.getD i 0)) := by
  cases h with
  | fs _ _ _ _ b q _ _ xs h1 h2 h3 h4 h5 =>
    refine ⟨b, q, fun hp => h2 (by omega), fun i hi => ?_⟩
    have hg : (zs.map fun n => VV.v (.int k n))[i]? = some (.v (.int k (zs.getD i 0))) := by
      rw [List.getElem?_map, List.getD_eq_getElem?_getD, List.getElem?_eq_getElem hi]
      rfl
    have e := h5 i _ hg
    rw [(h4 i _ hg).1]
    simp only [VV.v.injEq] at e
    rw [e]
end
end Go.Xv
namespace Go.Proofs.Ytdchhmffiiedmaa.navRests
open Go.ChangeShapes Go.WideShapes Go.ChangeAt Go.RowKit Go.Xv Go.Proofs.Ytdchhmffiiedmaa.base
set_option linter.unusedVariables false
set_option maxRecDepth 100000 in
theorem lifted (os : Os) (started : os.Started) (H : Type) (enc : TypeId × Value → H) :
    ReturnsInHanded {} Try.checked os 3 .any (Rows.navRestsSpec.pre6 enc Try.prog Try.f3 Rows.navRestsRow.domain false) (Rows.navRestsSpec.post enc Try.prog Try.f3 false true false false) := by
  refine returnsInHanded_of_change (C := Try.checked) own started (by kernel_rfl) Try.func3
    (ChangeSpec.witness6 (enc := enc) (C := Try.checked) false ⟨#[], #[.agg #[.int .i32 0, .int .i32 0, .int .i32 0], .int .i64 0, .slice none 0 0], []⟩ 8 (by kernel_rfl) (by kernel_rfl) (by kernel_rfl) (by kernel_rfl)) ?_
  intro W base args ds gs before hval0 hW hcnd _
  have hval : ∀ (j : Nat) t v, Try.f3.params[j]? = some t → args[j]? = some v → Value.okWide Try.prog W .any base t v := hval0
  have hW' := hW
  obtain ⟨p, q, hA0, hV, rfl, hfz, hnd⟩ := hW
  have hA : DataW.TrodAll enc Try.prog W 0 (fun _ => true) true Try.f3.params.toList args.toList ds p := hA0
  rw [Try.params3] at hA hval
  obtain ⟨v0, vs0, d0, ds0, p0, q0, hargs, rfl, rfl, h0, r0⟩ := trodAll_cons hA
  obtain ⟨v1, vs1, d1, ds1, p1, q1, rfl, rfl, rfl, h1, r1⟩ := trodAll_cons r0
  obtain ⟨v2, vs2, d2, ds2, p2, q2, rfl, rfl, rfl, h2, r2⟩ := trodAll_cons r1
  obtain ⟨rfl, rfl, rfl⟩ := trodAll_nil r2
  obtain rfl : args = #[v0, v1, v2] := by cases args; simp_all
  obtain ⟨l0, rfl, f0⟩ := open_flat (ks := [some .i32, some .i32, some .i32]) (by kernel_rfl) (by kernel_rfl) (hval 0 23 v0 rfl rfl) h0
  obtain ⟨a0, l0, rfl, wa0, f0⟩ := fitW_some f0
  obtain ⟨a1, l0, rfl, wa1, f0⟩ := fitW_some f0
  obtain ⟨a2, l0, rfl, wa2, f0⟩ := fitW_some f0
  obtain rfl := fitW_nil f0
  obtain ⟨a3, rfl, wa3⟩ := open_num (k := .i64) (by kernel_rfl) (hval 1 24 v1 rfl rfl) h1
  obtain ⟨zs, len, cap, pa, rfl, hl, hz, hw, hr⟩ := open_row (e := 41) (k := .u16) (by kernel_rfl) (by kernel_rfl) (by kernel_rfl) (hval 2 25 v2 rfl rfl) h2
  obtain ⟨b, q, ha, hc⟩ := rel_row hl (hr rho0)
  exact law_contract_walked laidOut (bt := 4) (by kernel_rfl) (by kernel_rfl) (by kernel_rfl) (by kernel_rfl) rfl hW'
    (rests_calls ⟨a0, a1, a2⟩ ⟨wf_i32 wa0, wf_i32 wa1, wf_i32 wa2⟩ a3 (wf_i64 wa3) zs (fun n hn => wf_u16 (hw n hn)) pa len cap b q hl ha W hc)
theorem over : Rows.navRestsRow.holds Try.pinned (OpenSpec.ofChange Rows.navRestsSpec) :=
  OpenClaim.holds_of_wide 3 Try.f3 rfl rfl rfl rfl rfl rfl rfl ⟨rfl, rfl, rfl, rfl, rfl⟩ rfl rfl rfl rfl rfl (by kernel_rfl) Try.func3 (joined_of (P := Try.prog) behind enter_ rfl rfl ⟨rfl, rfl⟩ (by kernel_rfl))
    (of_decide_eq_true (by kernel_rfl)) (by unfold Func.isWrapper; first | (rw [if_pos (by decide +kernel)]; kernel_rfl) | (rw [if_neg (by decide +kernel)]; exact ⟨rfl, rfl⟩))
    (fun os started H enc _ => lifted os started H enc)
/-- The statement. -/
theorem proved : Rows.NavRestsSaid := over
#print axioms proved
end Go.Proofs.Ytdchhmffiiedmaa.navRests
