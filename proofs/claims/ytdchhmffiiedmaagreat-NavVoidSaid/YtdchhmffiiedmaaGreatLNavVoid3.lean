/- A navigator that no call made has and does nothing: the law returns true for every input, and leaves its arguments as they were. -/
import Derived.Test.YtdchhmffiiedmaaGreatLNavVoid2
import Derived.KernelRfl
import Derived.Tactics2
import Derived.LoopTactic
import Derived.WalkKit
import Derived.Deep.DeepCutAuto
import Derived.Deep.RegionHeld3
import Derived.Deep.AppendLies
import Derived.Deep.MidRow
import Derived.Maps.RangeRun
import Derived.Maps.OwnOps
import Derived.Maps.RangeWalk
namespace Go.Xv
def wid (x : Int) : Int := x * 65536
theorem wid_I {x : Int} (h : I32 x) : I64 (wid x) := by unfold wid; unfold I32 at h; unfold I64; omega
theorem a_sWiden (F : Nat) {x : Int} (h : I32 x) : ok_h F x = true ∧ o_h_0 F x = wid x := by
  refine k_h F _ ?_
  unfold f_h fg_h wid
  unfold I32 at h
  rw [wi64_in (x := x) (by unfold I64; omega), wi64_in (by unfold I64; omega)]
end Go.Xv
set_option linter.unusedVariables false
namespace Go.Xv
/- 99 _vec_Add_1 -/
def c_ga : Cfg := ⟨[0, 1, 2, 4, 5], [], [], []⟩
def ti_ga : List TV := [vI, .fpx [vI, vI, vI] (.lit 0), .fpx [vI, vI, vI] (.lit 0)]
def to_ga : TV := .v (.tup [.int .i64, .bool])
def S_ga (F : Nat) : FuncId → List VV → Option (Bool × VV) := words [(52, s_db F)]
def fg_ga (ok_db : Nat → Int → Int → Bool) (o_db_0 : Nat → Int → Int → Int) (o_db_1 : Nat → Int → Int → Bool) (F : Nat) (a0 a1 a2 a3 a4 a5 a6 : Int) : R :=
 bif ((decide (0 ≤ a0)) && (decide (a0 < 3))) then (
 let v0 : Nat := (0 + ((Int.toNat a0) * 1))
 bif ((isI .i64 [.v (.int .i64 a1), .v (.int .i64 a2), .v (.int .i64 a3)][v0]?) && true) then (
 let v1 := iv [.v (.int .i64 a1), .v (.int .i64 a2), .v (.int .i64 a3)][v0]?
 bif ((decide (0 ≤ a0)) && (decide (a0 < 3))) then (
 let v2 : Nat := (0 + ((Int.toNat a0) * 1))
 bif ((isI .i64 [.v (.int .i64 a4), .v (.int .i64 a5), .v (.int .i64 a6)][v2]?) && true) then (
 let v3 := iv [.v (.int .i64 a4), .v (.int .i64 a5), .v (.int .i64 a6)][v2]?
 bif (ok_db F v1 v3) then (
 some (.v (.tuple #[.int .i64 ((o_db_0 F v1 v3)), .bool ((o_db_1 F v1 v3))]))) else none) else none) else none) else none) else none
def f_ga (F : Nat) (a0 a1 a2 a3 a4 a5 a6 : Int) : R := fg_ga ok_db o_db_0 o_db_1 F a0 a1 a2 a3 a4 a5 a6
theorem e_ga (F : Nat) (a0 a1 a2 a3 a4 a5 a6 : Int) : funL PP (S_ga F) c_ga (tabI c_ga []) (tabJ []) 99 (fTs ti_ga (C7 a0 a1 a2 a3 a4 a5 a6 [])).1 = f_ga F a0 a1 a2 a3 a4 a5 a6 := by
  have h : ∀ (ok_db : Nat → Int → Int → Bool) (o_db_0 : Nat → Int → Int → Int) (o_db_1 : Nat → Int → Int → Bool), funL PP (words [(52, spec ti_db to_db (fun q => (ok_db F (iI q 0) (iI q 1))) (fun q => [.i (o_db_0 F (iI q 0) (iI q 1)), .b (o_db_1 F (iI q 0) (iI q 1))]))]) c_ga (tabI c_ga []) (tabJ []) 99 (fTs ti_ga (C7 a0 a1 a2 a3 a4 a5 a6 [])).1 = fg_ga ok_db o_db_0 o_db_1 F a0 a1 a2 a3 a4 a5 a6 := by
    intros
    kernel_rfl
  exact (h ok_db o_db_0 o_db_1).trans (by kernel_rfl)
def ok_ga (F : Nat) (a0 a1 a2 a3 a4 a5 a6 : Int) : Bool := okT to_ga (f_ga F a0 a1 a2 a3 a4 a5 a6)
def o_ga_0 (F : Nat) (a0 a1 a2 a3 a4 a5 a6 : Int) : Int := atI (nth (outT to_ga (f_ga F a0 a1 a2 a3 a4 a5 a6)) 0)
def o_ga_1 (F : Nat) (a0 a1 a2 a3 a4 a5 a6 : Int) : Bool := atB (nth (outT to_ga (f_ga F a0 a1 a2 a3 a4 a5 a6)) 1)
theorem k_ga (F : Nat) (a0 a1 a2 a3 a4 a5 a6 : Int) {z0 : Int} {z1 : Bool} (h : f_ga F a0 a1 a2 a3 a4 a5 a6 = some (.v (.tuple #[.int .i64 z0, .bool z1]))) : ok_ga F a0 a1 a2 a3 a4 a5 a6 = true ∧ o_ga_0 F a0 a1 a2 a3 a4 a5 a6 = z0 ∧ o_ga_1 F a0 a1 a2 a3 a4 a5 a6 = z1 := by
  refine ⟨?_, ?_, ?_⟩ <;> (first | unfold ok_ga | unfold o_ga_0 | unfold o_ga_1) <;> rw [h] <;> kernel_rfl
def z_ga (k : Y14) (r0 : Y15) (r1 : Y14) (F : Nat) : List VV → Option (Bool × VV) := spec ti_ga to_ga (fun q => (A7 (k F) q)) (fun q => [.i (A7 (r0 F) q), .b (A7 (r1 F) q)])
def s_ga (F : Nat) : List VV → Option (Bool × VV) := z_ga ok_ga o_ga_0 o_ga_1 F
theorem hS_ga (F : Nat) : ∀ f, Good PP f (unS (S_ga F f)) := words_good (wc (g_db F) wn)
theorem g_ga (F : Nat) : Good PP 99 (unS (s_ga F)) :=
  fun_spec (hS_ga F) (by kernel_rfl) (by kernel_rfl) (C := c_ga) (F := fun q => (A7 (f_ga F) q)) (fun _ => F) (fun _ => tabI c_ga []) (fun _ => tabJ []) (fun _ => loops_of [] (by kernel_rfl) all_nil) (fun _ => joins_of [] (by kernel_rfl) all_nil)
    (fun q => (congrArg (funL PP (S_ga F) c_ga (tabI c_ga []) (tabJ []) 99) (show (fTs ti_ga q).1 = (fTs ti_ga (A7 C7 q [])).1 by kernel_rfl)).trans (e_ga F _ _ _ _ _ _ _))
    (fun _ h => okT_fill' h (by kernel_rfl))

end Go.Xv
set_option linter.unusedVariables false
namespace Go.Xv
/- 96 _vec_eachv6 -/
def c_w : Cfg := ⟨[0, 2, 3, 4, 5, 6, 7, 8, 9, 10], [(0, [0, 2, 3, 4, 5, 9, 26, 27])], [], []⟩
def ti_w : List TV := [.fn 99 [.fpx [vI, vI, vI] (.lit 0), .fpx [vI, vI, vI] (.lit 0)]]
def to_w : TV := .v (.tup [.agg [.int .i64, .int .i64, .int .i64], .bool])
def S_w (F : Nat) : FuncId → List VV → Option (Bool × VV) := words [(99, s_ga F)]
def T_w_0 : TS := ⟨[(0, .fn 99 [.fpx [vI, vI, vI] (.lit 0), .fpx [vI, vI, vI] (.lit 0)]), (2, .lp 0 (.lit 0)), (3, .v (.bool)), (4, .lp 1 (.lit 0)), (5, .v (.bool)), (9, vI)], [(0, ⟨(.ex [vI, vI, vI]), true⟩), (1, ⟨.hole, true⟩)], 2⟩
def T_w_0_0 : TS := ⟨[(0, .fn 99 [.fpx [vI, vI, vI] (.lit 0), .fpx [vI, vI, vI] (.lit 0)]), (2, .lp 0 (.lit 0)), (3, .v (.bool)), (4, .lp 1 (.lit 0)), (5, .v (.bool)), (9, vI)], [(0, ⟨(.ex [vI, vI, vI]), true⟩), (1, ⟨.hole, true⟩)], 2⟩
def K_vec_eachv6_0_0e0 (k : Exit → VS → R) : Y16 := fun (z0 z1 z2 z3 z4 z5 : Int) (z6 z7 : Bool) (z8 z9 z10 z11 : Int) (z12 : List VV) => k (.exit 0) (fS T_w_0_0 (C6 z0 z1 z2 z3 z4 z5 (.b z6 :: (.b z7 :: (C4 z8 z9 z10 z11 (.c z12 :: []))))))
def Bg_w_0 (ok_ga : Y14) (o_ga_0 : Y15) (o_ga_1 : Y14) (F : Nat) (rc ex0 : Y16) (x0 x1 x2 x3 x4 x5 : Int) (x6 x7 : Bool) (x8 x9 x10 x11 : Int) (x12 : List VV) : R :=
 bif ((decide (x8 < 3))) then (
 bif (ok_ga F x8 x0 x1 x2 x3 x4 x5) then (
 let v0 := o_ga_0 F x8 x0 x1 x2 x3 x4 x5
 bif x7 then (
 bif ((decide (0 ≤ x8)) && (decide (x8 < 3))) then (
 let v1 : Nat := (0 + ((Int.toNat x8) * 1))
 bif (decide ((v1 + 1) ≤ x12.length)) then (
 rc x0 x1 x2 x3 x4 x5 x6 true ((IntKind.wrap .i64 (x8 + 1))) x9 x10 x11 ((x12.take v1 ++ [.v (.int .i64 v0)] ++ x12.drop (v1 + 1)))) else none) else none)
 else (
 bif ((decide (0 ≤ x8)) && (decide (x8 < 3))) then (
 let v2 : Nat := (0 + ((Int.toNat x8) * 1))
 bif (decide ((v2 + 1) ≤ x12.length)) then (
 rc x0 x1 x2 x3 x4 x5 x6 ((o_ga_1 F x8 x0 x1 x2 x3 x4 x5)) ((IntKind.wrap .i64 (x8 + 1))) x9 x10 x11 ((x12.take v2 ++ [.v (.int .i64 v0)] ++ x12.drop (v2 + 1)))) else none) else none)) else none)
 else (
 ex0 x0 x1 x2 x3 x4 x5 x6 x7 x8 x9 x10 x11 x12)
def B_w_0 (F : Nat) (rc ex0 : Y16) (x0 x1 x2 x3 x4 x5 : Int) (x6 x7 : Bool) (x8 x9 x10 x11 : Int) (x12 : List VV) : R := Bg_w_0 ok_ga o_ga_0 o_ga_1 F rc ex0 x0 x1 x2 x3 x4 x5 x6 x7 x8 x9 x10 x11 x12
def L_w_0 (F : Nat) (ex0 : Y16) : Y17
  | 0, _, _, _, _, _, _, _, _, _, _, _, _, _ => none
  | n + 1, x0, x1, x2, x3, x4, x5, x6, x7, x8, x9, x10, x11, x12 => B_w_0 F (L_w_0 F ex0 n) ex0 x0 x1 x2 x3 x4 x5 x6 x7 x8 x9 x10 x11 x12
def w_w (L_w_0 : Nat → (Y16) → Y17) (F : Nat) : List LW := [⟨0, T_w_0, fun k q => L_w_0 F (K_vec_eachv6_0_0e0 k) F (iI q 0) (iI q 1) (iI q 2) (iI q 3) (iI q 4) (iI q 5) (iB q 6) (iB q 7) (iI q 8) (iI q 9) (iI q 10) (iI q 11) (atC (nth q 12))⟩]
def W_w (F : Nat) : List LW := w_w L_w_0 F
def I_w (F : Nat) : Nat → VS → (Exit → VS → R) → R := tabI c_w (W_w F)
theorem lL_w_0 (F : Nat) (k : Exit → VS → R) : ∀ (n : Nat) (x0 x1 x2 x3 x4 x5 : Int) (x6 x7 : Bool) (x8 x9 x10 x11 : Int) (x12 : List VV), iterC (codeL PP (S_w F) c_w (I_w F) (tabJ []) (loopAt PP 96 0) 0) (headOf c_w 0) k n (fS T_w_0 (C6 x0 x1 x2 x3 x4 x5 (.b x6 :: (.b x7 :: (C4 x8 x9 x10 x11 (.c x12 :: [])))))) = L_w_0 F (K_vec_eachv6_0_0e0 k) n x0 x1 x2 x3 x4 x5 x6 x7 x8 x9 x10 x11 x12
  | 0, _, _, _, _, _, _, _, _, _, _, _, _, _ => rfl
  | n + 1, x0, x1, x2, x3, x4, x5, x6, x7, x8, x9, x10, x11, x12 => by
    have h0 : ∀ (ok_ga : Y14) (o_ga_0 : Y15) (o_ga_1 : Y14) (L_w_0 : Nat → (Y16) → Y17), iterC (codeL PP (words [(99, z_ga ok_ga o_ga_0 o_ga_1 F)]) c_w (tabI c_w (w_w L_w_0 F)) (tabJ []) (loopAt PP 96 0) 0) (headOf c_w 0) k (n + 1) (fS T_w_0 (C6 x0 x1 x2 x3 x4 x5 (.b x6 :: (.b x7 :: (C4 x8 x9 x10 x11 (.c x12 :: [])))))) = (Bg_w_0 ok_ga o_ga_0 o_ga_1 F) (fun (y0 y1 y2 y3 y4 y5 : Int) (y6 y7 : Bool) (y8 y9 y10 y11 : Int) (y12 : List VV) => iterC (codeL PP (words [(99, z_ga ok_ga o_ga_0 o_ga_1 F)]) c_w (tabI c_w (w_w L_w_0 F)) (tabJ []) (loopAt PP 96 0) 0) (headOf c_w 0) k n (fS T_w_0 (C6 y0 y1 y2 y3 y4 y5 (.b y6 :: (.b y7 :: (C4 y8 y9 y10 y11 (.c y12 :: []))))))) (K_vec_eachv6_0_0e0 k) x0 x1 x2 x3 x4 x5 x6 x7 x8 x9 x10 x11 x12 := by
      intros
      kernel_rfl
    have h : iterC (codeL PP (S_w F) c_w (I_w F) (tabJ []) (loopAt PP 96 0) 0) (headOf c_w 0) k (n + 1) (fS T_w_0 (C6 x0 x1 x2 x3 x4 x5 (.b x6 :: (.b x7 :: (C4 x8 x9 x10 x11 (.c x12 :: [])))))) = B_w_0 F (fun (y0 y1 y2 y3 y4 y5 : Int) (y6 y7 : Bool) (y8 y9 y10 y11 : Int) (y12 : List VV) => iterC (codeL PP (S_w F) c_w (I_w F) (tabJ []) (loopAt PP 96 0) 0) (headOf c_w 0) k n (fS T_w_0 (C6 y0 y1 y2 y3 y4 y5 (.b y6 :: (.b y7 :: (C4 y8 y9 y10 y11 (.c y12 :: []))))))) (K_vec_eachv6_0_0e0 k) x0 x1 x2 x3 x4 x5 x6 x7 x8 x9 x10 x11 x12 := (h0 ok_ga o_ga_0 o_ga_1 L_w_0).trans (by kernel_rfl)
    rw [h]
    simp only [lL_w_0 F k n]
    rfl
def fg_w (L_w_0 : Nat → (Y16) → Y17) (F : Nat) (a0 a1 a2 a3 a4 a5 : Int) : R :=
 L_w_0 F (fun (v0 v1 v2 v3 v4 v5 : Int) (v6 v7 : Bool) (v8 v9 v10 v11 : Int) (v12 : List VV) =>
 bif ((isI .i64 v12[0]?) && ((isI .i64 v12[1]?) && ((isI .i64 v12[2]?) && true))) then (
 some (.v (.tuple #[.agg #[.int .i64 ((iv v12[0]?)), .int .i64 ((iv v12[1]?)), .int .i64 ((iv v12[2]?))], .bool v7]))) else none) F a0 a1 a2 a3 a4 a5 false false 0 0 0 0 ([.v (.int .i64 0), .v (.int .i64 0), .v (.int .i64 0)])
def f_w (F : Nat) (a0 a1 a2 a3 a4 a5 : Int) : R := fg_w L_w_0 F a0 a1 a2 a3 a4 a5
theorem e_w (F : Nat) (a0 a1 a2 a3 a4 a5 : Int) : funL PP (S_w F) c_w (I_w F) (tabJ []) 96 (fTs ti_w (C6 a0 a1 a2 a3 a4 a5 [])).1 = f_w F a0 a1 a2 a3 a4 a5 := by
  have h : ∀ (ok_ga : Y14) (o_ga_0 : Y15) (o_ga_1 : Y14) (L_w_0 : Nat → (Y16) → Y17), funL PP (words [(99, z_ga ok_ga o_ga_0 o_ga_1 F)]) c_w (tabI c_w (w_w L_w_0 F)) (tabJ []) 96 (fTs ti_w (C6 a0 a1 a2 a3 a4 a5 [])).1 = fg_w L_w_0 F a0 a1 a2 a3 a4 a5 := by
    intros
    kernel_rfl
  exact (h ok_ga o_ga_0 o_ga_1 L_w_0).trans (by kernel_rfl)
def ok_w (F : Nat) (a0 a1 a2 a3 a4 a5 : Int) : Bool := okT to_w (f_w F a0 a1 a2 a3 a4 a5)
def o_w_0 (F : Nat) (a0 a1 a2 a3 a4 a5 : Int) : Int := atI (nth (outT to_w (f_w F a0 a1 a2 a3 a4 a5)) 0)
def o_w_1 (F : Nat) (a0 a1 a2 a3 a4 a5 : Int) : Int := atI (nth (outT to_w (f_w F a0 a1 a2 a3 a4 a5)) 1)
def o_w_2 (F : Nat) (a0 a1 a2 a3 a4 a5 : Int) : Int := atI (nth (outT to_w (f_w F a0 a1 a2 a3 a4 a5)) 2)
def o_w_3 (F : Nat) (a0 a1 a2 a3 a4 a5 : Int) : Bool := atB (nth (outT to_w (f_w F a0 a1 a2 a3 a4 a5)) 3)
theorem k_w (F : Nat) (a0 a1 a2 a3 a4 a5 : Int) {z0 : Int} {z1 : Int} {z2 : Int} {z3 : Bool} (h : f_w F a0 a1 a2 a3 a4 a5 = some (.v (.tuple #[.agg #[.int .i64 z0, .int .i64 z1, .int .i64 z2], .bool z3]))) : ok_w F a0 a1 a2 a3 a4 a5 = true ∧ o_w_0 F a0 a1 a2 a3 a4 a5 = z0 ∧ o_w_1 F a0 a1 a2 a3 a4 a5 = z1 ∧ o_w_2 F a0 a1 a2 a3 a4 a5 = z2 ∧ o_w_3 F a0 a1 a2 a3 a4 a5 = z3 := by
  refine ⟨?_, ?_, ?_, ?_, ?_⟩ <;> (first | unfold ok_w | unfold o_w_0 | unfold o_w_1 | unfold o_w_2 | unfold o_w_3) <;> rw [h] <;> kernel_rfl
def s_w (F : Nat) : List VV → Option (Bool × VV) := spec ti_w to_w (fun q => (A6 (ok_w F) q)) (fun q => [.i (A6 (o_w_0 F) q), .i (A6 (o_w_1 F) q), .i (A6 (o_w_2 F) q), .b (A6 (o_w_3 F) q)])
theorem hS_w (F : Nat) : ∀ f, Good PP f (unS (S_w F f)) := words_good (wc (g_ga F) wn)
theorem hl_w (F : Nat) : ∀ p ∈ loopsIn PP 96, LoopOK PP (S_w F) c_w F (I_w F) (tabJ []) p :=
  loops_of [(0, loopAt PP 96 0)] (by kernel_rfl) (all_cons
    (loop_ok (W_w F) rfl (tab_cons (fun _ k q => Le.ofEq ((lL_w_0 F k F (iI q 0) (iI q 1) (iI q 2) (iI q 3) (iI q 4) (iI q 5) (iB q 6) (iB q 7) (iI q 8) (iI q 9) (iI q 10) (iI q 11) (atC (nth q 12))).symm.trans (congrArg (iterC (codeL PP (S_w F) c_w (I_w F) (tabJ []) (loopAt PP 96 0) 0) (headOf c_w 0) k F) (show fS T_w_0 (A6 C6 q (.b (iB q 6) :: (.b (iB q 7) :: (C4 (iI q 8) (iI q 9) (iI q 10) (iI q 11) (.c (atC (nth q 12)) :: []))))) = fS T_w_0 q by kernel_rfl)))) tab_nil)) all_nil)
theorem g_w (F : Nat) : Good PP 96 (unS (s_w F)) :=
  fun_spec (hS_w F) (by kernel_rfl) (by kernel_rfl) (C := c_w) (F := fun q => (A6 (f_w F) q)) (fun _ => F) (fun _ => I_w F) (fun _ => tabJ []) (fun _ => hl_w F) (fun _ => joins_of [] (by kernel_rfl) all_nil)
    (fun q => (congrArg (funL PP (S_w F) c_w (I_w F) (tabJ []) 96) (show (fTs ti_w q).1 = (fTs ti_w (A6 C6 q [])).1 by kernel_rfl)).trans (e_w F _ _ _ _ _ _))
    (fun _ h => okT_fill' h (by kernel_rfl))

end Go.Xv
set_option linter.unusedVariables false
namespace Go.Xv
/- 51 _vec_Add -/
def c_jb : Cfg := ⟨[0, 1, 2, 3, 4, 5], [], [], []⟩
def ti_jb : List TV := [.v (.agg [.int .i64, .int .i64, .int .i64]), .v (.agg [.int .i64, .int .i64, .int .i64])]
def to_jb : TV := .v (.tup [.agg [.int .i64, .int .i64, .int .i64], .bool])
def S_jb (F : Nat) : FuncId → List VV → Option (Bool × VV) := words [(96, s_w F)]
def fg_jb (ok_w : Y24) (o_w_0 o_w_1 o_w_2 : Y25) (o_w_3 : Y24) (F : Nat) (a0 a1 a2 a3 a4 a5 : Int) : R :=
 bif (ok_w F a0 a1 a2 a3 a4 a5) then (
 some (.v (.tuple #[.agg #[.int .i64 ((o_w_0 F a0 a1 a2 a3 a4 a5)), .int .i64 ((o_w_1 F a0 a1 a2 a3 a4 a5)), .int .i64 ((o_w_2 F a0 a1 a2 a3 a4 a5))], .bool ((o_w_3 F a0 a1 a2 a3 a4 a5))]))) else none
def f_jb (F : Nat) (a0 a1 a2 a3 a4 a5 : Int) : R := fg_jb ok_w o_w_0 o_w_1 o_w_2 o_w_3 F a0 a1 a2 a3 a4 a5
theorem e_jb (F : Nat) (a0 a1 a2 a3 a4 a5 : Int) : funL PP (S_jb F) c_jb (tabI c_jb []) (tabJ []) 51 (fTs ti_jb (C6 a0 a1 a2 a3 a4 a5 [])).1 = f_jb F a0 a1 a2 a3 a4 a5 := by
  have h : ∀ (ok_w : Y24) (o_w_0 o_w_1 o_w_2 : Y25) (o_w_3 : Y24), funL PP (words [(96, spec ti_w to_w (fun q => (A6 (ok_w F) q)) (fun q => [.i (A6 (o_w_0 F) q), .i (A6 (o_w_1 F) q), .i (A6 (o_w_2 F) q), .b (A6 (o_w_3 F) q)]))]) c_jb (tabI c_jb []) (tabJ []) 51 (fTs ti_jb (C6 a0 a1 a2 a3 a4 a5 [])).1 = fg_jb ok_w o_w_0 o_w_1 o_w_2 o_w_3 F a0 a1 a2 a3 a4 a5 := by
    intros
    kernel_rfl
  exact (h ok_w o_w_0 o_w_1 o_w_2 o_w_3).trans (by kernel_rfl)
def ok_jb (F : Nat) (a0 a1 a2 a3 a4 a5 : Int) : Bool := okT to_jb (f_jb F a0 a1 a2 a3 a4 a5)
def o_jb_0 (F : Nat) (a0 a1 a2 a3 a4 a5 : Int) : Int := atI (nth (outT to_jb (f_jb F a0 a1 a2 a3 a4 a5)) 0)
def o_ga (F : Nat) (a0 a1 a2 a3 a4 a5 : Int) : Int := atI (nth (outT to_jb (f_jb F a0 a1 a2 a3 a4 a5)) 1)
def o_jb_2 (F : Nat) (a0 a1 a2 a3 a4 a5 : Int) : Int := atI (nth (outT to_jb (f_jb F a0 a1 a2 a3 a4 a5)) 2)
def o_jb_3 (F : Nat) (a0 a1 a2 a3 a4 a5 : Int) : Bool := atB (nth (outT to_jb (f_jb F a0 a1 a2 a3 a4 a5)) 3)
theorem k_jb (F : Nat) (a0 a1 a2 a3 a4 a5 : Int) {z0 : Int} {z1 : Int} {z2 : Int} {z3 : Bool} (h : f_jb F a0 a1 a2 a3 a4 a5 = some (.v (.tuple #[.agg #[.int .i64 z0, .int .i64 z1, .int .i64 z2], .bool z3]))) : ok_jb F a0 a1 a2 a3 a4 a5 = true ∧ o_jb_0 F a0 a1 a2 a3 a4 a5 = z0 ∧ o_ga F a0 a1 a2 a3 a4 a5 = z1 ∧ o_jb_2 F a0 a1 a2 a3 a4 a5 = z2 ∧ o_jb_3 F a0 a1 a2 a3 a4 a5 = z3 := by
  refine ⟨?_, ?_, ?_, ?_, ?_⟩ <;> (first | unfold ok_jb | unfold o_jb_0 | unfold o_ga | unfold o_jb_2 | unfold o_jb_3) <;> rw [h] <;> kernel_rfl
def s_jb (F : Nat) : List VV → Option (Bool × VV) := spec ti_jb to_jb (fun q => (A6 (ok_jb F) q)) (fun q => [.i (A6 (o_jb_0 F) q), .i (A6 (o_ga F) q), .i (A6 (o_jb_2 F) q), .b (A6 (o_jb_3 F) q)])
theorem hS_jb (F : Nat) : ∀ f, Good PP f (unS (S_jb F f)) := words_good (wc (g_w F) wn)
theorem g_jb (F : Nat) : Good PP 51 (unS (s_jb F)) :=
  fun_spec (hS_jb F) (by kernel_rfl) (by kernel_rfl) (C := c_jb) (F := fun q => (A6 (f_jb F) q)) (fun _ => F) (fun _ => tabI c_jb []) (fun _ => tabJ []) (fun _ => loops_of [] (by kernel_rfl) all_nil) (fun _ => joins_of [] (by kernel_rfl) all_nil)
    (fun q => (congrArg (funL PP (S_jb F) c_jb (tabI c_jb []) (tabJ []) 51) (show (fTs ti_jb q).1 = (fTs ti_jb (A6 C6 q [])).1 by kernel_rfl)).trans (e_jb F _ _ _ _ _ _))
    (fun _ h => okT_fill' h (by kernel_rfl))

end Go.Xv
set_option linter.unusedVariables false
namespace Go.Xv
/- 89 _att_Lift -/
def c_qa : Cfg := ⟨[0, 1, 2, 3, 4, 5, 6, 7, 8, 9, 10, 11], [(0, [0, 1, 2, 3, 4, 5, 6, 9, 10, 19, 20, 21, 22, 23, 24])], [], []⟩
def ti_qa : List TV := [.v (.agg [.int .i64, .int .i64, .int .i64, .int .i64, .int .i64, .int .i64, .int .i64, .int .i64, .int .i64, .int .i64]), .v (.agg [.int .i32, .int .i32, .int .i32])]
def to_qa : TV := .v (.tup [.agg [.int .i64, .int .i64, .int .i64], .bool])
def S_qa (F : Nat) : FuncId → List VV → Option (Bool × VV) := words [(40, s_h F), (134, s_aa F)]
def T_qa_0 : TS := ⟨[(0, .v (.agg [.int .i64, .int .i64, .int .i64, .int .i64, .int .i64, .int .i64, .int .i64, .int .i64, .int .i64, .int .i64])), (1, .v (.agg [.int .i32, .int .i32, .int .i32])), (2, .lp 0 (.lit 0)), (3, .lp 1 (.lit 0)), (4, .lp 2 (.lit 0)), (5, .v (.bool)), (6, .lp 3 (.lit 0)), (9, .v (.agg [.int .i32, .int .i32, .int .i32])), (10, vI)], [(0, ⟨(.ex [vI, vI, vI, vI, vI, vI, vI, vI, vI, vI]), true⟩), (1, ⟨(.ex [.v (.int .i32), .v (.int .i32), .v (.int .i32)]), true⟩), (2, ⟨(.ex [vI, vI, vI]), true⟩), (3, ⟨.hole, true⟩)], 4⟩
def T_qa_0_0 : TS := ⟨[(0, .v (.agg [.int .i64, .int .i64, .int .i64, .int .i64, .int .i64, .int .i64, .int .i64, .int .i64, .int .i64, .int .i64])), (1, .v (.agg [.int .i32, .int .i32, .int .i32])), (2, .lp 0 (.lit 0)), (3, .lp 1 (.lit 0)), (4, .lp 2 (.lit 0)), (5, .v (.bool)), (6, .lp 3 (.lit 0)), (9, .v (.agg [.int .i32, .int .i32, .int .i32])), (10, vI)], [(0, ⟨(.ex [vI, vI, vI, vI, vI, vI, vI, vI, vI, vI]), true⟩), (1, ⟨(.ex [.v (.int .i32), .v (.int .i32), .v (.int .i32)]), true⟩), (2, ⟨(.ex [vI, vI, vI]), true⟩), (3, ⟨.hole, true⟩)], 4⟩
def K_att_Lift_0_0e0 (k : Exit → VS → R) : Y49 := fun (z0 z1 z2 z3 z4 z5 z6 z7 z8 z9 z10 z11 z12 : Int) (z13 : Bool) (z14 z15 z16 z17 z18 z19 z20 z21 z22 z23 z24 z25 z26 z27 z28 z29 z30 z31 z32 z33 : Int) (z34 : List VV) => k (.exit 0) (fS T_qa_0_0 (C13 z0 z1 z2 z3 z4 z5 z6 z7 z8 z9 z10 z11 z12 (.b z13 :: (C20 z14 z15 z16 z17 z18 z19 z20 z21 z22 z23 z24 z25 z26 z27 z28 z29 z30 z31 z32 z33 (.c z34 :: [])))))
def Bg_qa_0 (ok_h : Nat → Int → Bool) (o_h_0 : Nat → Int → Int) (F : Nat) (rc ex0 : Y49) (x0 x1 x2 x3 x4 x5 x6 x7 x8 x9 x10 x11 x12 : Int) (x13 : Bool) (x14 x15 x16 x17 x18 x19 x20 x21 x22 x23 x24 x25 x26 x27 x28 x29 x30 x31 x32 x33 : Int) (x34 : List VV) : R :=
 bif ((decide (x17 < 3))) then (
 bif (((decide (0 ≤ x17)) && (decide (x17 < 3))) && ((isI .i32 [.v (.int .i32 x14), .v (.int .i32 x15), .v (.int .i32 x16)][((Int.toNat x17) * 1)]?) && true)) then (
 let v0 := iv [.v (.int .i32 x14), .v (.int .i32 x15), .v (.int .i32 x16)][((Int.toNat x17) * 1)]?
 bif (ok_h F v0) then (
 bif ((decide (0 ≤ x17)) && (decide (x17 < 3))) then (
 let v1 : Nat := (0 + ((Int.toNat x17) * 1))
 bif (decide ((v1 + 1) ≤ x34.length)) then (
 rc x0 x1 x2 x3 x4 x5 x6 x7 x8 x9 x10 x11 x12 x13 x14 x15 x16 ((IntKind.wrap .i64 (x17 + 1))) x18 x19 x20 x21 x22 x23 x24 x25 x26 x27 x28 x29 x30 x31 x32 x33 ((x34.take v1 ++ [.v (.int .i64 ((o_h_0 F v0)))] ++ x34.drop (v1 + 1)))) else none) else none) else none) else none)
 else (
 ex0 x0 x1 x2 x3 x4 x5 x6 x7 x8 x9 x10 x11 x12 x13 x14 x15 x16 x17 x18 x19 x20 x21 x22 x23 x24 x25 x26 x27 x28 x29 x30 x31 x32 x33 x34)
def B_qa_0 (F : Nat) (rc ex0 : Y49) (x0 x1 x2 x3 x4 x5 x6 x7 x8 x9 x10 x11 x12 : Int) (x13 : Bool) (x14 x15 x16 x17 x18 x19 x20 x21 x22 x23 x24 x25 x26 x27 x28 x29 x30 x31 x32 x33 : Int) (x34 : List VV) : R := Bg_qa_0 ok_h o_h_0 F rc ex0 x0 x1 x2 x3 x4 x5 x6 x7 x8 x9 x10 x11 x12 x13 x14 x15 x16 x17 x18 x19 x20 x21 x22 x23 x24 x25 x26 x27 x28 x29 x30 x31 x32 x33 x34
def L_qa_0 (F : Nat) (ex0 : Y49) : Y50
  | 0, _, _, _, _, _, _, _, _, _, _, _, _, _, _, _, _, _, _, _, _, _, _, _, _, _, _, _, _, _, _, _, _, _, _, _ => none
  | n + 1, x0, x1, x2, x3, x4, x5, x6, x7, x8, x9, x10, x11, x12, x13, x14, x15, x16, x17, x18, x19, x20, x21, x22, x23, x24, x25, x26, x27, x28, x29, x30, x31, x32, x33, x34 => B_qa_0 F (L_qa_0 F ex0 n) ex0 x0 x1 x2 x3 x4 x5 x6 x7 x8 x9 x10 x11 x12 x13 x14 x15 x16 x17 x18 x19 x20 x21 x22 x23 x24 x25 x26 x27 x28 x29 x30 x31 x32 x33 x34
def w_qa (L_qa_0 : Nat → (Y49) → Y50) (F : Nat) : List LW := [⟨0, T_qa_0, fun k q => L_qa_0 F (K_att_Lift_0_0e0 k) F (iI q 0) (iI q 1) (iI q 2) (iI q 3) (iI q 4) (iI q 5) (iI q 6) (iI q 7) (iI q 8) (iI q 9) (iI q 10) (iI q 11) (iI q 12) (iB q 13) (iI q 14) (iI q 15) (iI q 16) (iI q 17) (iI q 18) (iI q 19) (iI q 20) (iI q 21) (iI q 22) (iI q 23) (iI q 24) (iI q 25) (iI q 26) (iI q 27) (iI q 28) (iI q 29) (iI q 30) (iI q 31) (iI q 32) (iI q 33) (atC (nth q 34))⟩]
def W_qa (F : Nat) : List LW := w_qa L_qa_0 F
def I_qa (F : Nat) : Nat → VS → (Exit → VS → R) → R := tabI c_qa (W_qa F)
theorem lL_qa_0 (F : Nat) (k : Exit → VS → R) : ∀ (n : Nat) (x0 x1 x2 x3 x4 x5 x6 x7 x8 x9 x10 x11 x12 : Int) (x13 : Bool) (x14 x15 x16 x17 x18 x19 x20 x21 x22 x23 x24 x25 x26 x27 x28 x29 x30 x31 x32 x33 : Int) (x34 : List VV), iterC (codeL PP (S_qa F) c_qa (I_qa F) (tabJ []) (loopAt PP 89 0) 0) (headOf c_qa 0) k n (fS T_qa_0 (C13 x0 x1 x2 x3 x4 x5 x6 x7 x8 x9 x10 x11 x12 (.b x13 :: (C20 x14 x15 x16 x17 x18 x19 x20 x21 x22 x23 x24 x25 x26 x27 x28 x29 x30 x31 x32 x33 (.c x34 :: []))))) = L_qa_0 F (K_att_Lift_0_0e0 k) n x0 x1 x2 x3 x4 x5 x6 x7 x8 x9 x10 x11 x12 x13 x14 x15 x16 x17 x18 x19 x20 x21 x22 x23 x24 x25 x26 x27 x28 x29 x30 x31 x32 x33 x34
  | 0, _, _, _, _, _, _, _, _, _, _, _, _, _, _, _, _, _, _, _, _, _, _, _, _, _, _, _, _, _, _, _, _, _, _, _ => rfl
  | n + 1, x0, x1, x2, x3, x4, x5, x6, x7, x8, x9, x10, x11, x12, x13, x14, x15, x16, x17, x18, x19, x20, x21, x22, x23, x24, x25, x26, x27, x28, x29, x30, x31, x32, x33, x34 => by
    have h0 : ∀ (ok_h : Nat → Int → Bool) (o_h_0 : Nat → Int → Int) (ok_aa : Y39) (o_aa_0 o_aa_1 o_aa_2 : Y40) (o_aa_3 : Y39) (L_qa_0 : Nat → (Y49) → Y50), iterC (codeL PP (words [(40, z_h ok_h o_h_0 F), (134, z_aa ok_aa o_aa_0 o_aa_1 o_aa_2 o_aa_3 F)]) c_qa (tabI c_qa (w_qa L_qa_0 F)) (tabJ []) (loopAt PP 89 0) 0) (headOf c_qa 0) k (n + 1) (fS T_qa_0 (C13 x0 x1 x2 x3 x4 x5 x6 x7 x8 x9 x10 x11 x12 (.b x13 :: (C20 x14 x15 x16 x17 x18 x19 x20 x21 x22 x23 x24 x25 x26 x27 x28 x29 x30 x31 x32 x33 (.c x34 :: []))))) = (Bg_qa_0 ok_h o_h_0 F) (fun (y0 y1 y2 y3 y4 y5 y6 y7 y8 y9 y10 y11 y12 : Int) (y13 : Bool) (y14 y15 y16 y17 y18 y19 y20 y21 y22 y23 y24 y25 y26 y27 y28 y29 y30 y31 y32 y33 : Int) (y34 : List VV) => iterC (codeL PP (words [(40, z_h ok_h o_h_0 F), (134, z_aa ok_aa o_aa_0 o_aa_1 o_aa_2 o_aa_3 F)]) c_qa (tabI c_qa (w_qa L_qa_0 F)) (tabJ []) (loopAt PP 89 0) 0) (headOf c_qa 0) k n (fS T_qa_0 (C13 y0 y1 y2 y3 y4 y5 y6 y7 y8 y9 y10 y11 y12 (.b y13 :: (C20 y14 y15 y16 y17 y18 y19 y20 y21 y22 y23 y24 y25 y26 y27 y28 y29 y30 y31 y32 y33 (.c y34 :: [])))))) (K_att_Lift_0_0e0 k) x0 x1 x2 x3 x4 x5 x6 x7 x8 x9 x10 x11 x12 x13 x14 x15 x16 x17 x18 x19 x20 x21 x22 x23 x24 x25 x26 x27 x28 x29 x30 x31 x32 x33 x34 := by
      intros
      kernel_rfl
    have h : iterC (codeL PP (S_qa F) c_qa (I_qa F) (tabJ []) (loopAt PP 89 0) 0) (headOf c_qa 0) k (n + 1) (fS T_qa_0 (C13 x0 x1 x2 x3 x4 x5 x6 x7 x8 x9 x10 x11 x12 (.b x13 :: (C20 x14 x15 x16 x17 x18 x19 x20 x21 x22 x23 x24 x25 x26 x27 x28 x29 x30 x31 x32 x33 (.c x34 :: []))))) = B_qa_0 F (fun (y0 y1 y2 y3 y4 y5 y6 y7 y8 y9 y10 y11 y12 : Int) (y13 : Bool) (y14 y15 y16 y17 y18 y19 y20 y21 y22 y23 y24 y25 y26 y27 y28 y29 y30 y31 y32 y33 : Int) (y34 : List VV) => iterC (codeL PP (S_qa F) c_qa (I_qa F) (tabJ []) (loopAt PP 89 0) 0) (headOf c_qa 0) k n (fS T_qa_0 (C13 y0 y1 y2 y3 y4 y5 y6 y7 y8 y9 y10 y11 y12 (.b y13 :: (C20 y14 y15 y16 y17 y18 y19 y20 y21 y22 y23 y24 y25 y26 y27 y28 y29 y30 y31 y32 y33 (.c y34 :: [])))))) (K_att_Lift_0_0e0 k) x0 x1 x2 x3 x4 x5 x6 x7 x8 x9 x10 x11 x12 x13 x14 x15 x16 x17 x18 x19 x20 x21 x22 x23 x24 x25 x26 x27 x28 x29 x30 x31 x32 x33 x34 := (h0 ok_h o_h_0 ok_aa o_aa_0 o_aa_1 o_aa_2 o_aa_3 L_qa_0).trans (by kernel_rfl)
    rw [h]
    simp only [lL_qa_0 F k n]
    rfl
def fg_qa (ok_aa : Y39) (o_aa_0 o_aa_1 o_aa_2 : Y40) (o_aa_3 : Y39) (L_qa_0 : Nat → (Y49) → Y50) (F : Nat) (a0 a1 a2 a3 a4 a5 a6 a7 a8 a9 a10 a11 a12 : Int) : R :=
 L_qa_0 F (fun (v0 v1 v2 v3 v4 v5 v6 v7 v8 v9 v10 v11 v12 : Int) (v13 : Bool) (v14 v15 v16 v17 v18 v19 v20 v21 v22 v23 v24 v25 v26 v27 v28 v29 v30 v31 v32 v33 : Int) (v34 : List VV) =>
 bif ((isI .i64 v34[0]?) && ((isI .i64 v34[1]?) && ((isI .i64 v34[2]?) && true))) then (
 let v35 := iv v34[0]?
 let v36 := iv v34[1]?
 let v37 := iv v34[2]?
 bif (ok_aa F v18 v19 v20 v21 v22 v23 v24 v25 v26 v35 v36 v37) then (
 some (.v (.tuple #[.agg #[.int .i64 ((o_aa_0 F v18 v19 v20 v21 v22 v23 v24 v25 v26 v35 v36 v37)), .int .i64 ((o_aa_1 F v18 v19 v20 v21 v22 v23 v24 v25 v26 v35 v36 v37)), .int .i64 ((o_aa_2 F v18 v19 v20 v21 v22 v23 v24 v25 v26 v35 v36 v37))], .bool ((o_aa_3 F v18 v19 v20 v21 v22 v23 v24 v25 v26 v35 v36 v37))]))) else none) else none) F a0 a1 a2 a3 a4 a5 a6 a7 a8 a9 a10 a11 a12 false a10 a11 a12 0 a0 a1 a2 a3 a4 a5 a6 a7 a8 a9 a10 a11 a12 0 0 0 ([.v (.int .i64 0), .v (.int .i64 0), .v (.int .i64 0)])
def f_qa (F : Nat) (a0 a1 a2 a3 a4 a5 a6 a7 a8 a9 a10 a11 a12 : Int) : R := fg_qa ok_aa o_aa_0 o_aa_1 o_aa_2 o_aa_3 L_qa_0 F a0 a1 a2 a3 a4 a5 a6 a7 a8 a9 a10 a11 a12
theorem e_qa (F : Nat) (a0 a1 a2 a3 a4 a5 a6 a7 a8 a9 a10 a11 a12 : Int) : funL PP (S_qa F) c_qa (I_qa F) (tabJ []) 89 (fTs ti_qa (C13 a0 a1 a2 a3 a4 a5 a6 a7 a8 a9 a10 a11 a12 [])).1 = f_qa F a0 a1 a2 a3 a4 a5 a6 a7 a8 a9 a10 a11 a12 := by
  have h : ∀ (ok_h : Nat → Int → Bool) (o_h_0 : Nat → Int → Int) (ok_aa : Y39) (o_aa_0 o_aa_1 o_aa_2 : Y40) (o_aa_3 : Y39) (L_qa_0 : Nat → (Y49) → Y50), funL PP (words [(40, z_h ok_h o_h_0 F), (134, z_aa ok_aa o_aa_0 o_aa_1 o_aa_2 o_aa_3 F)]) c_qa (tabI c_qa (w_qa L_qa_0 F)) (tabJ []) 89 (fTs ti_qa (C13 a0 a1 a2 a3 a4 a5 a6 a7 a8 a9 a10 a11 a12 [])).1 = fg_qa ok_aa o_aa_0 o_aa_1 o_aa_2 o_aa_3 L_qa_0 F a0 a1 a2 a3 a4 a5 a6 a7 a8 a9 a10 a11 a12 := by
    intros
    kernel_rfl
  exact (h ok_h o_h_0 ok_aa o_aa_0 o_aa_1 o_aa_2 o_aa_3 L_qa_0).trans (by kernel_rfl)
def ok_qa (F : Nat) (a0 a1 a2 a3 a4 a5 a6 a7 a8 a9 a10 a11 a12 : Int) : Bool := okT to_qa (f_qa F a0 a1 a2 a3 a4 a5 a6 a7 a8 a9 a10 a11 a12)
def o_qa_0 (F : Nat) (a0 a1 a2 a3 a4 a5 a6 a7 a8 a9 a10 a11 a12 : Int) : Int := atI (nth (outT to_qa (f_qa F a0 a1 a2 a3 a4 a5 a6 a7 a8 a9 a10 a11 a12)) 0)
def o_qa_1 (F : Nat) (a0 a1 a2 a3 a4 a5 a6 a7 a8 a9 a10 a11 a12 : Int) : Int := atI (nth (outT to_qa (f_qa F a0 a1 a2 a3 a4 a5 a6 a7 a8 a9 a10 a11 a12)) 1)
def o_qa_2 (F : Nat) (a0 a1 a2 a3 a4 a5 a6 a7 a8 a9 a10 a11 a12 : Int) : Int := atI (nth (outT to_qa (f_qa F a0 a1 a2 a3 a4 a5 a6 a7 a8 a9 a10 a11 a12)) 2)
def o_qa_3 (F : Nat) (a0 a1 a2 a3 a4 a5 a6 a7 a8 a9 a10 a11 a12 : Int) : Bool := atB (nth (outT to_qa (f_qa F a0 a1 a2 a3 a4 a5 a6 a7 a8 a9 a10 a11 a12)) 3)
theorem k_qa (F : Nat) (a0 a1 a2 a3 a4 a5 a6 a7 a8 a9 a10 a11 a12 : Int) {z0 : Int} {z1 : Int} {z2 : Int} {z3 : Bool} (h : f_qa F a0 a1 a2 a3 a4 a5 a6 a7 a8 a9 a10 a11 a12 = some (.v (.tuple #[.agg #[.int .i64 z0, .int .i64 z1, .int .i64 z2], .bool z3]))) : ok_qa F a0 a1 a2 a3 a4 a5 a6 a7 a8 a9 a10 a11 a12 = true ∧ o_qa_0 F a0 a1 a2 a3 a4 a5 a6 a7 a8 a9 a10 a11 a12 = z0 ∧ o_qa_1 F a0 a1 a2 a3 a4 a5 a6 a7 a8 a9 a10 a11 a12 = z1 ∧ o_qa_2 F a0 a1 a2 a3 a4 a5 a6 a7 a8 a9 a10 a11 a12 = z2 ∧ o_qa_3 F a0 a1 a2 a3 a4 a5 a6 a7 a8 a9 a10 a11 a12 = z3 := by
  refine ⟨?_, ?_, ?_, ?_, ?_⟩ <;> (first | unfold ok_qa | unfold o_qa_0 | unfold o_qa_1 | unfold o_qa_2 | unfold o_qa_3) <;> rw [h] <;> kernel_rfl
def s_qa (F : Nat) : List VV → Option (Bool × VV) := spec ti_qa to_qa (fun q => (A13 (ok_qa F) q)) (fun q => [.i (A13 (o_qa_0 F) q), .i (A13 (o_qa_1 F) q), .i (A13 (o_qa_2 F) q), .b (A13 (o_qa_3 F) q)])
theorem hS_qa (F : Nat) : ∀ f, Good PP f (unS (S_qa F f)) := words_good (wc (g_h F) (wc (g_aa F) wn))
theorem hl_qa (F : Nat) : ∀ p ∈ loopsIn PP 89, LoopOK PP (S_qa F) c_qa F (I_qa F) (tabJ []) p :=
  loops_of [(0, loopAt PP 89 0)] (by kernel_rfl) (all_cons
    (loop_ok (W_qa F) rfl (tab_cons (fun _ k q => Le.ofEq ((lL_qa_0 F k F (iI q 0) (iI q 1) (iI q 2) (iI q 3) (iI q 4) (iI q 5) (iI q 6) (iI q 7) (iI q 8) (iI q 9) (iI q 10) (iI q 11) (iI q 12) (iB q 13) (iI q 14) (iI q 15) (iI q 16) (iI q 17) (iI q 18) (iI q 19) (iI q 20) (iI q 21) (iI q 22) (iI q 23) (iI q 24) (iI q 25) (iI q 26) (iI q 27) (iI q 28) (iI q 29) (iI q 30) (iI q 31) (iI q 32) (iI q 33) (atC (nth q 34))).symm.trans (congrArg (iterC (codeL PP (S_qa F) c_qa (I_qa F) (tabJ []) (loopAt PP 89 0) 0) (headOf c_qa 0) k F) (show fS T_qa_0 (A13 C13 q (.b (iB q 13) :: (C20 (iI q 14) (iI q 15) (iI q 16) (iI q 17) (iI q 18) (iI q 19) (iI q 20) (iI q 21) (iI q 22) (iI q 23) (iI q 24) (iI q 25) (iI q 26) (iI q 27) (iI q 28) (iI q 29) (iI q 30) (iI q 31) (iI q 32) (iI q 33) (.c (atC (nth q 34)) :: [])))) = fS T_qa_0 q by kernel_rfl)))) tab_nil)) all_nil)
theorem g_qa (F : Nat) : Good PP 89 (unS (s_qa F)) :=
  fun_spec (hS_qa F) (by kernel_rfl) (by kernel_rfl) (C := c_qa) (F := fun q => (A13 (f_qa F) q)) (fun _ => F) (fun _ => I_qa F) (fun _ => tabJ []) (fun _ => hl_qa F) (fun _ => joins_of [] (by kernel_rfl) all_nil)
    (fun q => (congrArg (funL PP (S_qa F) c_qa (I_qa F) (tabJ []) 89) (show (fTs ti_qa q).1 = (fTs ti_qa (A13 C13 q [])).1 by kernel_rfl)).trans (e_qa F _ _ _ _ _ _ _ _ _ _ _ _ _))
    (fun _ h => okT_fill' h (by kernel_rfl))

end Go.Xv
set_option linter.unusedVariables false
namespace Go.Xv
/- 86 _att_Toward -/
def c_n : Cfg := ⟨[0, 1, 2, 4, 10], [], [], []⟩
def ti_n : List TV := [.v (.agg [.int .i64, .int .i64, .int .i64, .int .i64, .int .i64, .int .i64, .int .i64, .int .i64, .int .i64, .int .i64]), vI]
def to_n : TV := .v (.agg [.int .i64, .int .i64, .int .i64])
def S_n (F : Nat) : FuncId → List VV → Option (Bool × VV) := words [(127, s_ta F)]
def fg_n (ok_ta : Y43) (o_ta_0 o_ta_1 o_ta_2 o_ta_3 o_ta_4 o_ta_5 o_ta_6 o_ta_7 o_ta_8 : Y44) (F : Nat) (a0 a1 a2 a3 a4 a5 a6 a7 a8 a9 a10 : Int) : R :=
 bif ((decide (a10 < 0))) then (
 some (.v (.agg #[.int .i64 0, .int .i64 0, .int .i64 0])))
 else (
 bif ((decide (a10 ≥ 3))) then (
 some (.v (.agg #[.int .i64 0, .int .i64 0, .int .i64 0])))
 else (
 bif (ok_ta F a0 a1 a2 a3 a4 a5 a6 a7 a8) then (
 let v0 := o_ta_0 F a0 a1 a2 a3 a4 a5 a6 a7 a8
 let v1 := o_ta_1 F a0 a1 a2 a3 a4 a5 a6 a7 a8
 let v2 := o_ta_2 F a0 a1 a2 a3 a4 a5 a6 a7 a8
 let v3 := o_ta_3 F a0 a1 a2 a3 a4 a5 a6 a7 a8
 let v4 := o_ta_4 F a0 a1 a2 a3 a4 a5 a6 a7 a8
 let v5 := o_ta_5 F a0 a1 a2 a3 a4 a5 a6 a7 a8
 let v6 := o_ta_6 F a0 a1 a2 a3 a4 a5 a6 a7 a8
 let v7 := o_ta_7 F a0 a1 a2 a3 a4 a5 a6 a7 a8
 let v8 := o_ta_8 F a0 a1 a2 a3 a4 a5 a6 a7 a8
 bif (((decide (0 ≤ a10)) && (decide (a10 < 3))) && ((isI .i64 [.v (.int .i64 v0), .v (.int .i64 v1), .v (.int .i64 v2), .v (.int .i64 v3), .v (.int .i64 v4), .v (.int .i64 v5), .v (.int .i64 v6), .v (.int .i64 v7), .v (.int .i64 v8)][((Int.toNat a10) * 3)]?) && ((isI .i64 [.v (.int .i64 v0), .v (.int .i64 v1), .v (.int .i64 v2), .v (.int .i64 v3), .v (.int .i64 v4), .v (.int .i64 v5), .v (.int .i64 v6), .v (.int .i64 v7), .v (.int .i64 v8)][(((Int.toNat a10) * 3) + 1)]?) && ((isI .i64 [.v (.int .i64 v0), .v (.int .i64 v1), .v (.int .i64 v2), .v (.int .i64 v3), .v (.int .i64 v4), .v (.int .i64 v5), .v (.int .i64 v6), .v (.int .i64 v7), .v (.int .i64 v8)][((((Int.toNat a10) * 3) + 1) + 1)]?) && true)))) then (
 some (.v (.agg #[.int .i64 ((iv [.v (.int .i64 v0), .v (.int .i64 v1), .v (.int .i64 v2), .v (.int .i64 v3), .v (.int .i64 v4), .v (.int .i64 v5), .v (.int .i64 v6), .v (.int .i64 v7), .v (.int .i64 v8)][((Int.toNat a10) * 3)]?)), .int .i64 ((iv [.v (.int .i64 v0), .v (.int .i64 v1), .v (.int .i64 v2), .v (.int .i64 v3), .v (.int .i64 v4), .v (.int .i64 v5), .v (.int .i64 v6), .v (.int .i64 v7), .v (.int .i64 v8)][(((Int.toNat a10) * 3) + 1)]?)), .int .i64 ((iv [.v (.int .i64 v0), .v (.int .i64 v1), .v (.int .i64 v2), .v (.int .i64 v3), .v (.int .i64 v4), .v (.int .i64 v5), .v (.int .i64 v6), .v (.int .i64 v7), .v (.int .i64 v8)][((((Int.toNat a10) * 3) + 1) + 1)]?))]))) else none) else none))
def f_n (F : Nat) (a0 a1 a2 a3 a4 a5 a6 a7 a8 a9 a10 : Int) : R := fg_n ok_ta o_ta_0 o_ta_1 o_ta_2 o_ta_3 o_ta_4 o_ta_5 o_ta_6 o_ta_7 o_ta_8 F a0 a1 a2 a3 a4 a5 a6 a7 a8 a9 a10
theorem e_n (F : Nat) (a0 a1 a2 a3 a4 a5 a6 a7 a8 a9 a10 : Int) : funL PP (S_n F) c_n (tabI c_n []) (tabJ []) 86 (fTs ti_n (C11 a0 a1 a2 a3 a4 a5 a6 a7 a8 a9 a10 [])).1 = f_n F a0 a1 a2 a3 a4 a5 a6 a7 a8 a9 a10 := by
  have h : ∀ (ok_ta : Y43) (o_ta_0 o_ta_1 o_ta_2 o_ta_3 o_ta_4 o_ta_5 o_ta_6 o_ta_7 o_ta_8 : Y44), funL PP (words [(127, z_ta ok_ta o_ta_0 o_ta_1 o_ta_2 o_ta_3 o_ta_4 o_ta_5 o_ta_6 o_ta_7 o_ta_8 F)]) c_n (tabI c_n []) (tabJ []) 86 (fTs ti_n (C11 a0 a1 a2 a3 a4 a5 a6 a7 a8 a9 a10 [])).1 = fg_n ok_ta o_ta_0 o_ta_1 o_ta_2 o_ta_3 o_ta_4 o_ta_5 o_ta_6 o_ta_7 o_ta_8 F a0 a1 a2 a3 a4 a5 a6 a7 a8 a9 a10 := by
    intros
    kernel_rfl
  exact (h ok_ta o_ta_0 o_ta_1 o_ta_2 o_ta_3 o_ta_4 o_ta_5 o_ta_6 o_ta_7 o_ta_8).trans (by kernel_rfl)
def ok_n (F : Nat) (a0 a1 a2 a3 a4 a5 a6 a7 a8 a9 a10 : Int) : Bool := okT to_n (f_n F a0 a1 a2 a3 a4 a5 a6 a7 a8 a9 a10)
def o_n_0 (F : Nat) (a0 a1 a2 a3 a4 a5 a6 a7 a8 a9 a10 : Int) : Int := atI (nth (outT to_n (f_n F a0 a1 a2 a3 a4 a5 a6 a7 a8 a9 a10)) 0)
def o_n_1 (F : Nat) (a0 a1 a2 a3 a4 a5 a6 a7 a8 a9 a10 : Int) : Int := atI (nth (outT to_n (f_n F a0 a1 a2 a3 a4 a5 a6 a7 a8 a9 a10)) 1)
def o_n_2 (F : Nat) (a0 a1 a2 a3 a4 a5 a6 a7 a8 a9 a10 : Int) : Int := atI (nth (outT to_n (f_n F a0 a1 a2 a3 a4 a5 a6 a7 a8 a9 a10)) 2)
theorem k_n (F : Nat) (a0 a1 a2 a3 a4 a5 a6 a7 a8 a9 a10 : Int) {z0 : Int} {z1 : Int} {z2 : Int} (h : f_n F a0 a1 a2 a3 a4 a5 a6 a7 a8 a9 a10 = some (.v (.agg #[.int .i64 z0, .int .i64 z1, .int .i64 z2]))) : ok_n F a0 a1 a2 a3 a4 a5 a6 a7 a8 a9 a10 = true ∧ o_n_0 F a0 a1 a2 a3 a4 a5 a6 a7 a8 a9 a10 = z0 ∧ o_n_1 F a0 a1 a2 a3 a4 a5 a6 a7 a8 a9 a10 = z1 ∧ o_n_2 F a0 a1 a2 a3 a4 a5 a6 a7 a8 a9 a10 = z2 := by
  refine ⟨?_, ?_, ?_, ?_⟩ <;> (first | unfold ok_n | unfold o_n_0 | unfold o_n_1 | unfold o_n_2) <;> rw [h] <;> kernel_rfl
def s_n (F : Nat) : List VV → Option (Bool × VV) := spec ti_n to_n (fun q => (A11 (ok_n F) q)) (fun q => [.i (A11 (o_n_0 F) q), .i (A11 (o_n_1 F) q), .i (A11 (o_n_2 F) q)])
theorem hS_n (F : Nat) : ∀ f, Good PP f (unS (S_n F f)) := words_good (wc (g_ta F) wn)
theorem g_n (F : Nat) : Good PP 86 (unS (s_n F)) :=
  fun_spec (hS_n F) (by kernel_rfl) (by kernel_rfl) (C := c_n) (F := fun q => (A11 (f_n F) q)) (fun _ => F) (fun _ => tabI c_n []) (fun _ => tabJ []) (fun _ => loops_of [] (by kernel_rfl) all_nil) (fun _ => joins_of [] (by kernel_rfl) all_nil)
    (fun q => (congrArg (funL PP (S_n F) c_n (tabI c_n []) (tabJ []) 86) (show (fTs ti_n q).1 = (fTs ti_n (A11 C11 q [])).1 by kernel_rfl)).trans (e_n F _ _ _ _ _ _ _ _ _ _ _))
    (fun _ h => okT_fill' h (by kernel_rfl))

end Go.Xv
namespace Go.Xv
theorem f_vec_eachv6' (F : Nat) (hF : 200 ≤ F) {a0 a1 a2 a3 a4 a5 : Int} {v0 v1 v2 : Int} {c0 c1 c2 : Bool} (h0 : ok_ga F 0 a0 a1 a2 a3 a4 a5 = true ∧ o_ga_0 F 0 a0 a1 a2 a3 a4 a5 = v0 ∧ o_ga_1 F 0 a0 a1 a2 a3 a4 a5 = c0) (h1 : ok_ga F 1 a0 a1 a2 a3 a4 a5 = true ∧ o_ga_0 F 1 a0 a1 a2 a3 a4 a5 = v1 ∧ o_ga_1 F 1 a0 a1 a2 a3 a4 a5 = c1) (h2 : ok_ga F 2 a0 a1 a2 a3 a4 a5 = true ∧ o_ga_0 F 2 a0 a1 a2 a3 a4 a5 = v2 ∧ o_ga_1 F 2 a0 a1 a2 a3 a4 a5 = c2) :
    f_w F a0 a1 a2 a3 a4 a5 = some (.v (.tuple #[.agg #[.int .i64 v0, .int .i64 v1, .int .i64 v2], .bool (c0 || c1 || c2)])) := by
  obtain ⟨a1, a2, a3⟩ := h0
  obtain ⟨b1, b2, b3⟩ := h1
  obtain ⟨d1, d2, d3⟩ := h2
  obtain ⟨G, hG⟩ : ∃ G, F = G + 4 := ⟨F - 4, by omega⟩
  have w1 : IntKind.wrap .i64 (0 + 1) = 1 := by decide
  have w2 : IntKind.wrap .i64 (1 + 1) = 2 := by decide
  have w3 : IntKind.wrap .i64 (2 + 1) = 3 := by decide
  unfold f_w fg_w
  rw [show L_w_0 F _ F = L_w_0 F _ (G + 4) from congrArg (L_w_0 F _) hG, L_w_0]
  unfold B_w_0 Bg_w_0
  refine bp rfl (bp a1 (bn rfl (bp rfl (bp rfl ?_))))
  rw [a2, a3, w1, L_w_0]
  unfold B_w_0 Bg_w_0
  refine bp rfl (bp b1 ?_)
  rw [b2, b3, w2]
  cases c0
  · refine bn rfl (bp rfl (bp rfl ?_))
    rw [L_w_0]
    unfold B_w_0 Bg_w_0
    refine bp rfl (bp d1 ?_)
    rw [d2, d3, w3]
    cases c1
    · refine bn rfl (bp rfl (bp rfl ?_))
      rw [L_w_0]
      unfold B_w_0 Bg_w_0
      exact bn rfl (bp rfl rfl)
    · refine bp rfl (bp rfl (bp rfl ?_))
      rw [L_w_0]
      unfold B_w_0 Bg_w_0
      exact bn rfl (bp rfl rfl)
  · refine bp rfl (bp rfl (bp rfl ?_))
    rw [L_w_0]
    unfold B_w_0 Bg_w_0
    refine bp rfl (bp d1 ?_)
    rw [d2, w3]
    refine bp rfl (bp rfl (bp rfl ?_))
    rw [L_w_0]
    unfold B_w_0 Bg_w_0
    exact bn rfl (bp rfl (by rw [Bool.true_or, Bool.true_or]; rfl))
theorem a_Add_0 (F : Nat) {a0 a1 a2 a3 a4 a5 : Int} (h : I64 a0) (hm : I64 a3) : ok_ga F 0 a0 a1 a2 a3 a4 a5 = true ∧ o_ga_0 F 0 a0 a1 a2 a3 a4 a5 = clipV (a0 + a3) ∧ o_ga_1 F 0 a0 a1 a2 a3 a4 a5 = clipC (a0 + a3) := by
  refine k_ga F _ _ _ _ _ _ _ ?_
  unfold f_ga fg_ga
  obtain ⟨h1, h2, h3⟩ := a_fAdd F h hm
  refine bp rfl (bp rfl (bp rfl (bp rfl (bp h1 ?_))))
  exact congrArg some (show VV.v (.tuple #[.int .i64 (o_db_0 F a0 a3), .bool (o_db_1 F a0 a3)]) = _ by rw [h2, h3])
theorem a_Add_1 (F : Nat) {a0 a1 a2 a3 a4 a5 : Int} (h : I64 a1) (hm : I64 a4) : ok_ga F 1 a0 a1 a2 a3 a4 a5 = true ∧ o_ga_0 F 1 a0 a1 a2 a3 a4 a5 = clipV (a1 + a4) ∧ o_ga_1 F 1 a0 a1 a2 a3 a4 a5 = clipC (a1 + a4) := by
  refine k_ga F _ _ _ _ _ _ _ ?_
  unfold f_ga fg_ga
  obtain ⟨h1, h2, h3⟩ := a_fAdd F h hm
  refine bp rfl (bp rfl (bp rfl (bp rfl (bp h1 ?_))))
  exact congrArg some (show VV.v (.tuple #[.int .i64 (o_db_0 F a1 a4), .bool (o_db_1 F a1 a4)]) = _ by rw [h2, h3])
theorem a_Add_2 (F : Nat) {a0 a1 a2 a3 a4 a5 : Int} (h : I64 a2) (hm : I64 a5) : ok_ga F 2 a0 a1 a2 a3 a4 a5 = true ∧ o_ga_0 F 2 a0 a1 a2 a3 a4 a5 = clipV (a2 + a5) ∧ o_ga_1 F 2 a0 a1 a2 a3 a4 a5 = clipC (a2 + a5) := by
  refine k_ga F _ _ _ _ _ _ _ ?_
  unfold f_ga fg_ga
  obtain ⟨h1, h2, h3⟩ := a_fAdd F h hm
  refine bp rfl (bp rfl (bp rfl (bp rfl (bp h1 ?_))))
  exact congrArg some (show VV.v (.tuple #[.int .i64 (o_db_0 F a2 a5), .bool (o_db_1 F a2 a5)]) = _ by rw [h2, h3])
theorem a_vAdd (F : Nat) (hF : 200 ≤ F) {a0 a1 a2 a3 a4 a5 : Int} (h0 : I64 a0) (h1 : I64 a1) (h2 : I64 a2) (h3 : I64 a3) (h4 : I64 a4) (h5 : I64 a5) : ok_jb F a0 a1 a2 a3 a4 a5 = true ∧ o_jb_0 F a0 a1 a2 a3 a4 a5 = clipV (a0 + a3) ∧ o_ga F a0 a1 a2 a3 a4 a5 = clipV (a1 + a4) ∧ o_jb_2 F a0 a1 a2 a3 a4 a5 = clipV (a2 + a5) ∧ o_jb_3 F a0 a1 a2 a3 a4 a5 = (clipC (a0 + a3) || clipC (a1 + a4) || clipC (a2 + a5)) := by
  refine k_jb F _ _ _ _ _ _ ?_
  unfold f_jb fg_jb
  obtain ⟨e1, e2, e3, e4, e5⟩ := k_w F _ _ _ _ _ _ (f_vec_eachv6' F hF (a_Add_0 F h0 h3) (a_Add_1 F h1 h4) (a_Add_2 F h2 h5))
  refine bp e1 ?_
  rw [e2, e3, e4, e5]
theorem a_fDivN (F : Nat) (hF : 200 ≤ F) {a b : Int} (ha : I64 a) (hb : I64 b) : ok_eb F a b = true ∧ o_eb_0 F a b = fdivV a b ∧ o_eb_1 F a b = fdivC a b := k_eb F _ _ (f_fDiv F hF ha hb)
theorem a_Lift (F : Nat) (hF : 200 ≤ F) {a : Att} (hM : MI a.m) {v0 v1 v2 : Int} (h0 : I32 v0) (h1 : I32 v1) (h2 : I32 v2) : ok_qa F a.m.a0 a.m.a1 a.m.a2 a.m.a3 a.m.a4 a.m.a5 a.m.a6 a.m.a7 a.m.a8 a.n v0 v1 v2 = true ∧ o_qa_0 F a.m.a0 a.m.a1 a.m.a2 a.m.a3 a.m.a4 a.m.a5 a.m.a6 a.m.a7 a.m.a8 a.n v0 v1 v2 = clipV (dotZ a.m.a0 a.m.a1 a.m.a2 (wid v0) (wid v1) (wid v2)) ∧ o_qa_1 F a.m.a0 a.m.a1 a.m.a2 a.m.a3 a.m.a4 a.m.a5 a.m.a6 a.m.a7 a.m.a8 a.n v0 v1 v2 = clipV (dotZ a.m.a3 a.m.a4 a.m.a5 (wid v0) (wid v1) (wid v2)) ∧ o_qa_2 F a.m.a0 a.m.a1 a.m.a2 a.m.a3 a.m.a4 a.m.a5 a.m.a6 a.m.a7 a.m.a8 a.n v0 v1 v2 = clipV (dotZ a.m.a6 a.m.a7 a.m.a8 (wid v0) (wid v1) (wid v2)) ∧ o_qa_3 F a.m.a0 a.m.a1 a.m.a2 a.m.a3 a.m.a4 a.m.a5 a.m.a6 a.m.a7 a.m.a8 a.n v0 v1 v2 = (clipC (dotZ a.m.a0 a.m.a1 a.m.a2 (wid v0) (wid v1) (wid v2)) || clipC (dotZ a.m.a3 a.m.a4 a.m.a5 (wid v0) (wid v1) (wid v2)) || clipC (dotZ a.m.a6 a.m.a7 a.m.a8 (wid v0) (wid v1) (wid v2))) := by
  obtain ⟨i0, i1, i2, i3, i4, i5, i6, i7, i8⟩ := hM
  obtain ⟨p, p0, p1, p2, p3⟩ := a_mApply F hF i0 i1 i2 i3 i4 i5 i6 i7 i8 (wid_I h0) (wid_I h1) (wid_I h2)
  refine k_qa F _ _ _ _ _ _ _ _ _ _ _ _ _ ?_
  unfold f_qa fg_qa
  obtain ⟨G, hG⟩ : ∃ G, F = G + 4 := ⟨F - 4, by omega⟩
  have w0 : IntKind.wrap .i64 (0 + 1) = 1 := by decide
  have w1 : IntKind.wrap .i64 (1 + 1) = 2 := by decide
  have w2 : IntKind.wrap .i64 (2 + 1) = 3 := by decide
  obtain ⟨s0, t0⟩ := a_sWiden F h0
  obtain ⟨s1, t1⟩ := a_sWiden F h1
  obtain ⟨s2, t2⟩ := a_sWiden F h2
  rw [show L_qa_0 F _ F = L_qa_0 F _ (G + 4) from congrArg (L_qa_0 F _) hG]
  rw [L_qa_0]
  unfold B_qa_0 Bg_qa_0
  dsimp only
  refine bp rfl (bp rfl ?_)
  rw [show (iv [VV.v (.int .i32 v0), .v (.int .i32 v1), .v (.int .i32 v2)][Int.toNat 0 * 1]?) = v0 from rfl]
  refine bp s0 (bp rfl (bp rfl ?_))
  rw [t0, w0]
  rw [L_qa_0]
  unfold B_qa_0 Bg_qa_0
  dsimp only
  refine bp rfl (bp rfl ?_)
  rw [show (iv [VV.v (.int .i32 v0), .v (.int .i32 v1), .v (.int .i32 v2)][Int.toNat 1 * 1]?) = v1 from rfl]
  refine bp s1 (bp rfl (bp rfl ?_))
  rw [t1, w1]
  rw [L_qa_0]
  unfold B_qa_0 Bg_qa_0
  dsimp only
  refine bp rfl (bp rfl ?_)
  rw [show (iv [VV.v (.int .i32 v0), .v (.int .i32 v1), .v (.int .i32 v2)][Int.toNat 2 * 1]?) = v2 from rfl]
  refine bp s2 (bp rfl (bp rfl ?_))
  rw [t2, w2]
  rw [L_qa_0]
  unfold B_qa_0 Bg_qa_0
  dsimp only
  refine bn rfl (bp rfl (bp p ?_))
  exact congrArg some (show VV.v (.tuple #[.agg #[.int .i64 (o_aa_0 F a.m.a0 a.m.a1 a.m.a2 a.m.a3 a.m.a4 a.m.a5 a.m.a6 a.m.a7 a.m.a8 (wid v0) (wid v1) (wid v2)), .int .i64 (o_aa_1 F a.m.a0 a.m.a1 a.m.a2 a.m.a3 a.m.a4 a.m.a5 a.m.a6 a.m.a7 a.m.a8 (wid v0) (wid v1) (wid v2)), .int .i64 (o_aa_2 F a.m.a0 a.m.a1 a.m.a2 a.m.a3 a.m.a4 a.m.a5 a.m.a6 a.m.a7 a.m.a8 (wid v0) (wid v1) (wid v2))], .bool (o_aa_3 F a.m.a0 a.m.a1 a.m.a2 a.m.a3 a.m.a4 a.m.a5 a.m.a6 a.m.a7 a.m.a8 (wid v0) (wid v1) (wid v2))]) = _ by rw [p0, p1, p2, p3])
theorem a_Toward0 (F : Nat) (hF : 200 ≤ F) (A : Mt) (n : Int) : ok_n F A.a0 A.a1 A.a2 A.a3 A.a4 A.a5 A.a6 A.a7 A.a8 n 0 = true ∧ o_n_0 F A.a0 A.a1 A.a2 A.a3 A.a4 A.a5 A.a6 A.a7 A.a8 n 0 = A.a0 ∧ o_n_1 F A.a0 A.a1 A.a2 A.a3 A.a4 A.a5 A.a6 A.a7 A.a8 n 0 = A.a3 ∧ o_n_2 F A.a0 A.a1 A.a2 A.a3 A.a4 A.a5 A.a6 A.a7 A.a8 n 0 = A.a6 := by
  obtain ⟨b, b0, b1, b2, b3, b4, b5, b6, b7, b8⟩ := a_mBack F hF A.a0 A.a1 A.a2 A.a3 A.a4 A.a5 A.a6 A.a7 A.a8
  refine k_n F _ _ _ _ _ _ _ _ _ _ _ ?_
  unfold f_n fg_n
  dsimp only
  rw [b0, b1, b2, b3, b4, b5, b6, b7, b8]
  exact bn rfl (bn rfl (bp b (bp rfl rfl)))
end Go.Xv
namespace Go.Xv
open Go.RowKit
theorem Good.plain {P : Program} {f : FuncId} {g : List VV → Option VV} (hg : Good P f g) (xs : List Value) (y : Value) (h : g (xs.map .v) = some (.v y)) (w : World) :
    Calls P f xs.toArray w fun e w' => e = .returned y ∧ Below w.heap.size w w' := by
  obtain ⟨_, hk⟩ := hg _ _ h
  refine (hk w xs.toArray (fun _ => False) (fun _ h => h.elim) (by simp) (fun i x hx => ?_)).mono ?_
  · simp only [List.getElem?_map, Option.map_eq_some_iff] at hx
    obtain ⟨v, hv, rfl⟩ := hx
    exact ⟨v, by simpa using hv, .v _ _⟩
  · rintro e w' ⟨v, rfl, hb, hr⟩
    obtain rfl := hr.1.v_inv
    exact ⟨rfl, hb⟩
theorem div_calls {a b : Int} (ha : I64 a) (hb : I64 b) (w : World) : Calls PP 87 #[.int .i64 a, .int .i64 b] w fun e w' => e = .returned (.tuple #[.int .i64 (fdivV a b), .bool (fdivC a b)]) ∧ Below w.heap.size w w' := by
  refine Good.plain (g_eb 200) [.int .i64 a, .int .i64 b] _ ?_ w
  obtain ⟨h, q0, q1⟩ := a_fDivN 200 (Nat.le_refl _) ha hb
  have e : s_eb 200 [.v (.int .i64 a), .v (.int .i64 b)] = some (ok_eb 200 a b, .v (.tuple #[.int .i64 (o_eb_0 200 a b), .bool (o_eb_1 200 a b)])) := by kernel_rfl
  rw [h, q0, q1] at e
  show unS (s_eb 200) [.v (.int .i64 a), .v (.int .i64 b)] = _
  unfold unS
  rw [e]
theorem vsub_calls {a0 a1 a2 a3 a4 a5 : Int} (h0 : I64 a0) (h1 : I64 a1) (h2 : I64 a2) (h3 : I64 a3) (h4 : I64 a4) (h5 : I64 a5) (w : World) : Calls PP 90 #[.agg #[.int .i64 a0, .int .i64 a1, .int .i64 a2], .agg #[.int .i64 a3, .int .i64 a4, .int .i64 a5]] w fun e w' => e = .returned (.tuple #[.agg #[.int .i64 (clipV (a0 - a3)), .int .i64 (clipV (a1 - a4)), .int .i64 (clipV (a2 - a5))], .bool (clipC (a0 - a3) || clipC (a1 - a4) || clipC (a2 - a5))]) ∧ Below w.heap.size w w' := by
  refine Good.plain (g_lb 200) [.agg #[.int .i64 a0, .int .i64 a1, .int .i64 a2], .agg #[.int .i64 a3, .int .i64 a4, .int .i64 a5]] _ ?_ w
  obtain ⟨h, q0, q1, q2, q3⟩ := a_Sub 200 (Nat.le_refl _) h0 h1 h2 h3 h4 h5
  have e : s_lb 200 [.v (.agg #[.int .i64 a0, .int .i64 a1, .int .i64 a2]), .v (.agg #[.int .i64 a3, .int .i64 a4, .int .i64 a5])] = some (ok_lb 200 a0 a1 a2 a3 a4 a5, .v (.tuple #[.agg #[.int .i64 (o_lb_0 200 a0 a1 a2 a3 a4 a5), .int .i64 (o_ja 200 a0 a1 a2 a3 a4 a5), .int .i64 (o_lb_2 200 a0 a1 a2 a3 a4 a5)], .bool (o_lb_3 200 a0 a1 a2 a3 a4 a5)])) := by kernel_rfl
  rw [h, q0, q1, q2, q3] at e
  show unS (s_lb 200) [.v (.agg #[.int .i64 a0, .int .i64 a1, .int .i64 a2]), .v (.agg #[.int .i64 a3, .int .i64 a4, .int .i64 a5])] = _
  unfold unS
  rw [e]
theorem vadd_calls {a0 a1 a2 a3 a4 a5 : Int} (h0 : I64 a0) (h1 : I64 a1) (h2 : I64 a2) (h3 : I64 a3) (h4 : I64 a4) (h5 : I64 a5) (w : World) : Calls PP 51 #[.agg #[.int .i64 a0, .int .i64 a1, .int .i64 a2], .agg #[.int .i64 a3, .int .i64 a4, .int .i64 a5]] w fun e w' => e = .returned (.tuple #[.agg #[.int .i64 (clipV (a0 + a3)), .int .i64 (clipV (a1 + a4)), .int .i64 (clipV (a2 + a5))], .bool (clipC (a0 + a3) || clipC (a1 + a4) || clipC (a2 + a5))]) ∧ Below w.heap.size w w' := by
  refine Good.plain (g_jb 200) [.agg #[.int .i64 a0, .int .i64 a1, .int .i64 a2], .agg #[.int .i64 a3, .int .i64 a4, .int .i64 a5]] _ ?_ w
  obtain ⟨h, q0, q1, q2, q3⟩ := a_vAdd 200 (Nat.le_refl _) h0 h1 h2 h3 h4 h5
  have e : s_jb 200 [.v (.agg #[.int .i64 a0, .int .i64 a1, .int .i64 a2]), .v (.agg #[.int .i64 a3, .int .i64 a4, .int .i64 a5])] = some (ok_jb 200 a0 a1 a2 a3 a4 a5, .v (.tuple #[.agg #[.int .i64 (o_jb_0 200 a0 a1 a2 a3 a4 a5), .int .i64 (o_ga 200 a0 a1 a2 a3 a4 a5), .int .i64 (o_jb_2 200 a0 a1 a2 a3 a4 a5)], .bool (o_jb_3 200 a0 a1 a2 a3 a4 a5)])) := by kernel_rfl
  rw [h, q0, q1, q2, q3] at e
  show unS (s_jb 200) [.v (.agg #[.int .i64 a0, .int .i64 a1, .int .i64 a2]), .v (.agg #[.int .i64 a3, .int .i64 a4, .int .i64 a5])] = _
  unfold unS
  rw [e]
theorem vscale_calls {a0 a1 a2 a3 : Int} (h0 : I64 a0) (h1 : I64 a1) (h2 : I64 a2) (h3 : I64 a3) (w : World) : Calls PP 91 #[.agg #[.int .i64 a0, .int .i64 a1, .int .i64 a2], .int .i64 a3] w fun e w' => e = .returned (.tuple #[.agg #[.int .i64 (clipV (pr a0 a3)), .int .i64 (clipV (pr a1 a3)), .int .i64 (clipV (pr a2 a3))], .bool (clipC (pr a0 a3) || clipC (pr a1 a3) || clipC (pr a2 a3))]) ∧ Below w.heap.size w w' := by
  refine Good.plain (g_ia 200) [.agg #[.int .i64 a0, .int .i64 a1, .int .i64 a2], .int .i64 a3] _ ?_ w
  obtain ⟨h, q0, q1, q2, q3⟩ := a_Scale 200 (Nat.le_refl _) h0 h1 h2 h3
  have e : s_ia 200 [.v (.agg #[.int .i64 a0, .int .i64 a1, .int .i64 a2]), .v (.int .i64 a3)] = some (ok_ia 200 a0 a1 a2 a3, .v (.tuple #[.agg #[.int .i64 (o_ia_0 200 a0 a1 a2 a3), .int .i64 (o_k 200 a0 a1 a2 a3), .int .i64 (o_ia_2 200 a0 a1 a2 a3)], .bool (o_ia_3 200 a0 a1 a2 a3)])) := by kernel_rfl
  rw [h, q0, q1, q2, q3] at e
  show unS (s_ia 200) [.v (.agg #[.int .i64 a0, .int .i64 a1, .int .i64 a2]), .v (.int .i64 a3)] = _
  unfold unS
  rw [e]
theorem vdot_calls {a0 a1 a2 a3 a4 a5 : Int} (h0 : I64 a0) (h1 : I64 a1) (h2 : I64 a2) (h3 : I64 a3) (h4 : I64 a4) (h5 : I64 a5) (w : World) : Calls PP 85 #[.agg #[.int .i64 a0, .int .i64 a1, .int .i64 a2], .agg #[.int .i64 a3, .int .i64 a4, .int .i64 a5]] w fun e w' => e = .returned (.tuple #[.int .i64 (clipV (dotZ a0 a1 a2 a3 a4 a5)), .bool (clipC (dotZ a0 a1 a2 a3 a4 a5))]) ∧ Below w.heap.size w w' := by
  refine Good.plain (g_kb 200) [.agg #[.int .i64 a0, .int .i64 a1, .int .i64 a2], .agg #[.int .i64 a3, .int .i64 a4, .int .i64 a5]] _ ?_ w
  obtain ⟨h, q0, q1⟩ := a_Dot 200 (Nat.le_refl _) h0 h1 h2 h3 h4 h5
  have e : s_kb 200 [.v (.agg #[.int .i64 a0, .int .i64 a1, .int .i64 a2]), .v (.agg #[.int .i64 a3, .int .i64 a4, .int .i64 a5])] = some (ok_kb 200 a0 a1 a2 a3 a4 a5, .v (.tuple #[.int .i64 (o_kb_0 200 a0 a1 a2 a3 a4 a5), .bool (o_kb_1 200 a0 a1 a2 a3 a4 a5)])) := by kernel_rfl
  rw [h, q0, q1] at e
  show unS (s_kb 200) [.v (.agg #[.int .i64 a0, .int .i64 a1, .int .i64 a2]), .v (.agg #[.int .i64 a3, .int .i64 a4, .int .i64 a5])] = _
  unfold unS
  rw [e]
theorem anew_calls  (w : World) : Calls PP 22 #[] w fun e w' => e = .returned (.agg #[.int .i64 newA.m.a0, .int .i64 newA.m.a1, .int .i64 newA.m.a2, .int .i64 newA.m.a3, .int .i64 newA.m.a4, .int .i64 newA.m.a5, .int .i64 newA.m.a6, .int .i64 newA.m.a7, .int .i64 newA.m.a8, .int .i64 newA.n]) ∧ Below w.heap.size w w' := by
  refine Good.plain (g_cb 200) [] _ ?_ w
  obtain ⟨h, q0, q1, q2, q3, q4, q5, q6, q7, q8, q9⟩ := a_New 200 (Nat.le_refl _)
  have e : s_cb 200 [] = some (ok_cb 200 , .v (.agg #[.int .i64 (o_cb_0 200 ), .int .i64 (o_cb_1 200 ), .int .i64 (o_cb_2 200 ), .int .i64 (o_cb_3 200 ), .int .i64 (o_cb_4 200 ), .int .i64 (o_cb_5 200 ), .int .i64 (o_cb_6 200 ), .int .i64 (o_cb_7 200 ), .int .i64 (o_cb_8 200 ), .int .i64 (o_cb_9 200 )])) := by kernel_rfl
  rw [h, q0, q1, q2, q3, q4, q5, q6, q7, q8, q9] at e
  show unS (s_cb 200) [] = _
  unfold unS
  rw [e]
theorem astep_calls {a : Att} (hM : MI a.m) (hn : a.n < 9223372036854775807 ∧ -9223372036854775808 ≤ a.n) {r0 r1 r2 t : Int} (h0 : I32 r0) (h1 : I32 r1) (h2 : I32 r2) (w : World) : Calls PP 88 #[.agg #[.int .i64 a.m.a0, .int .i64 a.m.a1, .int .i64 a.m.a2, .int .i64 a.m.a3, .int .i64 a.m.a4, .int .i64 a.m.a5, .int .i64 a.m.a6, .int .i64 a.m.a7, .int .i64 a.m.a8, .int .i64 a.n], .agg #[.int .i32 r0, .int .i32 r1, .int .i32 r2], .int .i64 t] w fun e w' => e = .returned (.tuple #[.agg #[.int .i64 (stepA a (byV r0 t) (byV r1 t) (byV r2 t)).m.a0, .int .i64 (stepA a (byV r0 t) (byV r1 t) (byV r2 t)).m.a1, .int .i64 (stepA a (byV r0 t) (byV r1 t) (byV r2 t)).m.a2, .int .i64 (stepA a (byV r0 t) (byV r1 t) (byV r2 t)).m.a3, .int .i64 (stepA a (byV r0 t) (byV r1 t) (byV r2 t)).m.a4, .int .i64 (stepA a (byV r0 t) (byV r1 t) (byV r2 t)).m.a5, .int .i64 (stepA a (byV r0 t) (byV r1 t) (byV r2 t)).m.a6, .int .i64 (stepA a (byV r0 t) (byV r1 t) (byV r2 t)).m.a7, .int .i64 (stepA a (byV r0 t) (byV r1 t) (byV r2 t)).m.a8, .int .i64 (stepA a (byV r0 t) (byV r1 t) (byV r2 t)).n], .bool (go3K a.m (byV r0 t) (byV r1 t) (byV r2 t))]) ∧ Below w.heap.size w w' := by
  refine Good.plain (g_ra 200) [.agg #[.int .i64 a.m.a0, .int .i64 a.m.a1, .int .i64 a.m.a2, .int .i64 a.m.a3, .int .i64 a.m.a4, .int .i64 a.m.a5, .int .i64 a.m.a6, .int .i64 a.m.a7, .int .i64 a.m.a8, .int .i64 a.n], .agg #[.int .i32 r0, .int .i32 r1, .int .i32 r2], .int .i64 t] _ ?_ w
  obtain ⟨h, q0, q1, q2, q3, q4, q5, q6, q7, q8, q9, q10⟩ := a_Step 200 (Nat.le_refl _) hM hn h0 h1 h2
  have e : s_ra 200 [.v (.agg #[.int .i64 a.m.a0, .int .i64 a.m.a1, .int .i64 a.m.a2, .int .i64 a.m.a3, .int .i64 a.m.a4, .int .i64 a.m.a5, .int .i64 a.m.a6, .int .i64 a.m.a7, .int .i64 a.m.a8, .int .i64 a.n]), .v (.agg #[.int .i32 r0, .int .i32 r1, .int .i32 r2]), .v (.int .i64 t)] = some (ok_ra 200 a.m.a0 a.m.a1 a.m.a2 a.m.a3 a.m.a4 a.m.a5 a.m.a6 a.m.a7 a.m.a8 a.n r0 r1 r2 t, .v (.tuple #[.agg #[.int .i64 (o_ra_0 200 a.m.a0 a.m.a1 a.m.a2 a.m.a3 a.m.a4 a.m.a5 a.m.a6 a.m.a7 a.m.a8 a.n r0 r1 r2 t), .int .i64 (o_ra_1 200 a.m.a0 a.m.a1 a.m.a2 a.m.a3 a.m.a4 a.m.a5 a.m.a6 a.m.a7 a.m.a8 a.n r0 r1 r2 t), .int .i64 (o_ra_2 200 a.m.a0 a.m.a1 a.m.a2 a.m.a3 a.m.a4 a.m.a5 a.m.a6 a.m.a7 a.m.a8 a.n r0 r1 r2 t), .int .i64 (o_ra_3 200 a.m.a0 a.m.a1 a.m.a2 a.m.a3 a.m.a4 a.m.a5 a.m.a6 a.m.a7 a.m.a8 a.n r0 r1 r2 t), .int .i64 (o_ra_4 200 a.m.a0 a.m.a1 a.m.a2 a.m.a3 a.m.a4 a.m.a5 a.m.a6 a.m.a7 a.m.a8 a.n r0 r1 r2 t), .int .i64 (o_ra_5 200 a.m.a0 a.m.a1 a.m.a2 a.m.a3 a.m.a4 a.m.a5 a.m.a6 a.m.a7 a.m.a8 a.n r0 r1 r2 t), .int .i64 (o_ra_6 200 a.m.a0 a.m.a1 a.m.a2 a.m.a3 a.m.a4 a.m.a5 a.m.a6 a.m.a7 a.m.a8 a.n r0 r1 r2 t), .int .i64 (o_ra_7 200 a.m.a0 a.m.a1 a.m.a2 a.m.a3 a.m.a4 a.m.a5 a.m.a6 a.m.a7 a.m.a8 a.n r0 r1 r2 t), .int .i64 (o_ra_8 200 a.m.a0 a.m.a1 a.m.a2 a.m.a3 a.m.a4 a.m.a5 a.m.a6 a.m.a7 a.m.a8 a.n r0 r1 r2 t), .int .i64 (o_ra_9 200 a.m.a0 a.m.a1 a.m.a2 a.m.a3 a.m.a4 a.m.a5 a.m.a6 a.m.a7 a.m.a8 a.n r0 r1 r2 t)], .bool (o_ra_10 200 a.m.a0 a.m.a1 a.m.a2 a.m.a3 a.m.a4 a.m.a5 a.m.a6 a.m.a7 a.m.a8 a.n r0 r1 r2 t)])) := by kernel_rfl
  rw [h, q0, q1, q2, q3, q4, q5, q6, q7, q8, q9, q10] at e
  show unS (s_ra 200) [.v (.agg #[.int .i64 a.m.a0, .int .i64 a.m.a1, .int .i64 a.m.a2, .int .i64 a.m.a3, .int .i64 a.m.a4, .int .i64 a.m.a5, .int .i64 a.m.a6, .int .i64 a.m.a7, .int .i64 a.m.a8, .int .i64 a.n]), .v (.agg #[.int .i32 r0, .int .i32 r1, .int .i32 r2]), .v (.int .i64 t)] = _
  unfold unS
  rw [e]
theorem alift_calls {a : Att} (hM : MI a.m) {v0 v1 v2 : Int} (h0 : I32 v0) (h1 : I32 v1) (h2 : I32 v2) (w : World) : Calls PP 89 #[.agg #[.int .i64 a.m.a0, .int .i64 a.m.a1, .int .i64 a.m.a2, .int .i64 a.m.a3, .int .i64 a.m.a4, .int .i64 a.m.a5, .int .i64 a.m.a6, .int .i64 a.m.a7, .int .i64 a.m.a8, .int .i64 a.n], .agg #[.int .i32 v0, .int .i32 v1, .int .i32 v2]] w fun e w' => e = .returned (.tuple #[.agg #[.int .i64 (clipV (dotZ a.m.a0 a.m.a1 a.m.a2 (wid v0) (wid v1) (wid v2))), .int .i64 (clipV (dotZ a.m.a3 a.m.a4 a.m.a5 (wid v0) (wid v1) (wid v2))), .int .i64 (clipV (dotZ a.m.a6 a.m.a7 a.m.a8 (wid v0) (wid v1) (wid v2)))], .bool (clipC (dotZ a.m.a0 a.m.a1 a.m.a2 (wid v0) (wid v1) (wid v2)) || clipC (dotZ a.m.a3 a.m.a4 a.m.a5 (wid v0) (wid v1) (wid v2)) || clipC (dotZ a.m.a6 a.m.a7 a.m.a8 (wid v0) (wid v1) (wid v2)))]) ∧ Below w.heap.size w w' := by
  refine Good.plain (g_qa 200) [.agg #[.int .i64 a.m.a0, .int .i64 a.m.a1, .int .i64 a.m.a2, .int .i64 a.m.a3, .int .i64 a.m.a4, .int .i64 a.m.a5, .int .i64 a.m.a6, .int .i64 a.m.a7, .int .i64 a.m.a8, .int .i64 a.n], .agg #[.int .i32 v0, .int .i32 v1, .int .i32 v2]] _ ?_ w
  obtain ⟨h, q0, q1, q2, q3⟩ := a_Lift 200 (Nat.le_refl _) hM h0 h1 h2
  have e : s_qa 200 [.v (.agg #[.int .i64 a.m.a0, .int .i64 a.m.a1, .int .i64 a.m.a2, .int .i64 a.m.a3, .int .i64 a.m.a4, .int .i64 a.m.a5, .int .i64 a.m.a6, .int .i64 a.m.a7, .int .i64 a.m.a8, .int .i64 a.n]), .v (.agg #[.int .i32 v0, .int .i32 v1, .int .i32 v2])] = some (ok_qa 200 a.m.a0 a.m.a1 a.m.a2 a.m.a3 a.m.a4 a.m.a5 a.m.a6 a.m.a7 a.m.a8 a.n v0 v1 v2, .v (.tuple #[.agg #[.int .i64 (o_qa_0 200 a.m.a0 a.m.a1 a.m.a2 a.m.a3 a.m.a4 a.m.a5 a.m.a6 a.m.a7 a.m.a8 a.n v0 v1 v2), .int .i64 (o_qa_1 200 a.m.a0 a.m.a1 a.m.a2 a.m.a3 a.m.a4 a.m.a5 a.m.a6 a.m.a7 a.m.a8 a.n v0 v1 v2), .int .i64 (o_qa_2 200 a.m.a0 a.m.a1 a.m.a2 a.m.a3 a.m.a4 a.m.a5 a.m.a6 a.m.a7 a.m.a8 a.n v0 v1 v2)], .bool (o_qa_3 200 a.m.a0 a.m.a1 a.m.a2 a.m.a3 a.m.a4 a.m.a5 a.m.a6 a.m.a7 a.m.a8 a.n v0 v1 v2)])) := by kernel_rfl
  rw [h, q0, q1, q2, q3] at e
  show unS (s_qa 200) [.v (.agg #[.int .i64 a.m.a0, .int .i64 a.m.a1, .int .i64 a.m.a2, .int .i64 a.m.a3, .int .i64 a.m.a4, .int .i64 a.m.a5, .int .i64 a.m.a6, .int .i64 a.m.a7, .int .i64 a.m.a8, .int .i64 a.n]), .v (.agg #[.int .i32 v0, .int .i32 v1, .int .i32 v2])] = _
  unfold unS
  rw [e]
theorem toward_calls (a : Att) (w : World) : Calls PP 86 #[.agg #[.int .i64 a.m.a0, .int .i64 a.m.a1, .int .i64 a.m.a2, .int .i64 a.m.a3, .int .i64 a.m.a4, .int .i64 a.m.a5, .int .i64 a.m.a6, .int .i64 a.m.a7, .int .i64 a.m.a8, .int .i64 a.n], .int .i64 0] w fun e w' => e = .returned (.agg #[.int .i64 a.m.a0, .int .i64 a.m.a3, .int .i64 a.m.a6]) ∧ Below w.heap.size w w' := by
  refine Good.plain (g_n 200) [.agg #[.int .i64 a.m.a0, .int .i64 a.m.a1, .int .i64 a.m.a2, .int .i64 a.m.a3, .int .i64 a.m.a4, .int .i64 a.m.a5, .int .i64 a.m.a6, .int .i64 a.m.a7, .int .i64 a.m.a8, .int .i64 a.n], .int .i64 0] _ ?_ w
  obtain ⟨h, q0, q1, q2⟩ := a_Toward0 200 (Nat.le_refl _) a.m a.n
  have e : s_n 200 [.v (.agg #[.int .i64 a.m.a0, .int .i64 a.m.a1, .int .i64 a.m.a2, .int .i64 a.m.a3, .int .i64 a.m.a4, .int .i64 a.m.a5, .int .i64 a.m.a6, .int .i64 a.m.a7, .int .i64 a.m.a8, .int .i64 a.n]), .v (.int .i64 0)] = some (ok_n 200 a.m.a0 a.m.a1 a.m.a2 a.m.a3 a.m.a4 a.m.a5 a.m.a6 a.m.a7 a.m.a8 a.n 0, .v (.agg #[.int .i64 (o_n_0 200 a.m.a0 a.m.a1 a.m.a2 a.m.a3 a.m.a4 a.m.a5 a.m.a6 a.m.a7 a.m.a8 a.n 0), .int .i64 (o_n_1 200 a.m.a0 a.m.a1 a.m.a2 a.m.a3 a.m.a4 a.m.a5 a.m.a6 a.m.a7 a.m.a8 a.n 0), .int .i64 (o_n_2 200 a.m.a0 a.m.a1 a.m.a2 a.m.a3 a.m.a4 a.m.a5 a.m.a6 a.m.a7 a.m.a8 a.n 0)])) := by kernel_rfl
  rw [h, q0, q1, q2] at e
  show unS (s_n 200) [.v (.agg #[.int .i64 a.m.a0, .int .i64 a.m.a1, .int .i64 a.m.a2, .int .i64 a.m.a3, .int .i64 a.m.a4, .int .i64 a.m.a5, .int .i64 a.m.a6, .int .i64 a.m.a7, .int .i64 a.m.a8, .int .i64 a.n]), .v (.int .i64 0)] = _
  unfold unS
  rw [e]
theorem heading_calls {a : Att} (hM : MI a.m) (w : World) : Calls PP 39 #[.agg #[.int .i64 a.m.a0, .int .i64 a.m.a1, .int .i64 a.m.a2, .int .i64 a.m.a3, .int .i64 a.m.a4, .int .i64 a.m.a5, .int .i64 a.m.a6, .int .i64 a.m.a7, .int .i64 a.m.a8, .int .i64 a.n]] w fun e w' => e = .returned (.int .u32 (angle a.m.a3 a.m.a0)) ∧ Below w.heap.size w w' := by
  refine Good.plain (g_e 200) [.agg #[.int .i64 a.m.a0, .int .i64 a.m.a1, .int .i64 a.m.a2, .int .i64 a.m.a3, .int .i64 a.m.a4, .int .i64 a.m.a5, .int .i64 a.m.a6, .int .i64 a.m.a7, .int .i64 a.m.a8, .int .i64 a.n]] _ ?_ w
  obtain ⟨h, q0⟩ := a_aHeading 200 (Nat.le_refl _) hM
  have e : s_e 200 [.v (.agg #[.int .i64 a.m.a0, .int .i64 a.m.a1, .int .i64 a.m.a2, .int .i64 a.m.a3, .int .i64 a.m.a4, .int .i64 a.m.a5, .int .i64 a.m.a6, .int .i64 a.m.a7, .int .i64 a.m.a8, .int .i64 a.n])] = some (ok_e 200 a.m.a0 a.m.a1 a.m.a2 a.m.a3 a.m.a4 a.m.a5 a.m.a6 a.m.a7 a.m.a8 a.n, .v (.int .u32 (o_e_0 200 a.m.a0 a.m.a1 a.m.a2 a.m.a3 a.m.a4 a.m.a5 a.m.a6 a.m.a7 a.m.a8 a.n))) := by kernel_rfl
  rw [h, q0] at e
  show unS (s_e 200) [.v (.agg #[.int .i64 a.m.a0, .int .i64 a.m.a1, .int .i64 a.m.a2, .int .i64 a.m.a3, .int .i64 a.m.a4, .int .i64 a.m.a5, .int .i64 a.m.a6, .int .i64 a.m.a7, .int .i64 a.m.a8, .int .i64 a.n])] = _
  unfold unS
  rw [e]
end Go.Xv
namespace Go.Xv
open Go.RowKit

/-- what a navigator holds. -/
structure NS where
  g0 : Int
  g1 : Int
  g2 : Int
  v0 : Int
  v1 : Int
  v2 : Int
  p0 : Int
  p1 : Int
  p2 : Int
  drift : Int
  a : Att
  start : Int
  last : Int
  now : Int
  cut : Bool
abbrev navC (s : NS) (mb : Nat) : Array Value := #[.int .i64 s.g0, .int .i64 s.g1, .int .i64 s.g2, .int .i64 s.v0, .int .i64 s.v1, .int .i64 s.v2, .int .i64 s.p0, .int .i64 s.p1, .int .i64 s.p2, .int .i64 s.drift, .int .i64 s.a.m.a0, .int .i64 s.a.m.a1, .int .i64 s.a.m.a2, .int .i64 s.a.m.a3, .int .i64 s.a.m.a4, .int .i64 s.a.m.a5, .int .i64 s.a.m.a6, .int .i64 s.a.m.a7, .int .i64 s.a.m.a8, .int .i64 s.a.n, .map (some mb), .int .i64 s.start, .int .i64 s.last, .int .i64 s.now, .bool s.cut]
def NavAt (w : World) (nb mb : Nat) (s : NS) : Prop := w.heap[nb]? = some (.cells (navC s mb) 62 (0, 0))
structure NS.ok (s : NS) : Prop where
  g0 : I64 s.g0
  g1 : I64 s.g1
  g2 : I64 s.g2
  v0 : I64 s.v0
  v1 : I64 s.v1
  v2 : I64 s.v2
  p0 : I64 s.p0
  p1 : I64 s.p1
  p2 : I64 s.p2
  m : MI s.a.m
  n : 0 ≤ s.a.n ∧ s.a.n ≤ 15
/-- all blocks but nb are as they were. -/
structure Chg (nb : Nat) (w w' : World) : Prop where
  os : w'.os = w.os
  tape : w'.tape = w.tape
  output : w'.output = w.output
  size : w.heap.size ≤ w'.heap.size
  block : ∀ k, k < w.heap.size → k ≠ nb → w'.heap[k]? = w.heap[k]?
theorem Chg.of {nb : Nat} {w w' : World} (h : Below w.heap.size w w') : Chg nb w w' := ⟨h.os, h.tape, h.output, h.size, fun k hk _ => h.block k hk⟩
theorem Chg.refl (nb : Nat) (w : World) : Chg nb w w := ⟨rfl, rfl, rfl, Nat.le_refl _, fun _ _ _ => rfl⟩
theorem Chg.trans {nb : Nat} {w w' w'' : World} (h : Chg nb w w') (k : Chg nb w' w'') : Chg nb w w'' :=
  ⟨k.os.trans h.os, k.tape.trans h.tape, k.output.trans h.output, Nat.le_trans h.size k.size, fun i hi hn => (k.block i (Nat.lt_of_lt_of_le hi h.size) hn).trans (h.block i hi hn)⟩
theorem Chg.setCell {nb : Nat} {w w' : World} (h : Chg nb w w') (o : Nat) (v : Value) : Chg nb w (w'.setCell ⟨nb, o, none⟩ v) :=
  ⟨h.os, h.tape, h.output, by have := h.size; simpa using this, fun k hk hn => (Below.heap_setCell w' ⟨nb, o, none⟩ v k (fun e => hn e)).trans (h.block k hk hn)⟩
theorem Chg.below {nb : Nat} {w w' w'' : World} (h : Chg nb w w') (k : Below w'.heap.size w' w'') : Chg nb w w'' := h.trans (Chg.of k)
theorem Chg.alloc {nb : Nat} {w w' : World} (h : Chg nb w w') (o : Obj) : Chg nb w (w'.alloc o) := h.trans (Chg.of ((Below.refl _ _).alloc (Nat.le_refl _) _))
theorem cell_blk {W : World} {b o : Nat} {cs : Array Value} {ty : TypeId} (h : W.heap[b]? = some (.cells cs ty (0, 0))) : W.cell? ⟨b, o, none⟩ = cs[o]? := cell_of_row W b o cs ty (0, 0) h
theorem frozen_blk {W : World} {b o : Nat} {cs : Array Value} {ty : TypeId} (h : W.heap[b]? = some (.cells cs ty (0, 0))) (_ho : o < cs.size) : W.frozen? ⟨b, o, none⟩ = false := by
  simp [World.frozen?, h]
theorem setCell_blk {W : World} {b o : Nat} {cs : Array Value} {ty : TypeId} {v : Value} (h : W.heap[b]? = some (.cells cs ty (0, 0))) :
    (W.setCell ⟨b, o, none⟩ v).heap[b]? = some (.cells (cs.setIfInBounds o v) ty (0, 0)) := by
  simp only [World.setCell]
  rw [Array.getElem?_modify]
  simp [h]
theorem NavAt.lt {w : World} {nb mb : Nat} {s : NS} (h : NavAt w nb mb s) : nb < w.heap.size := (Array.getElem?_eq_some_iff.1 h).1
theorem NavAt.below {w w' : World} {nb mb : Nat} {s : NS} (h : NavAt w nb mb s) (hb : Below w.heap.size w w') : NavAt w' nb mb s := (hb.block nb h.lt).trans h

/-- the bools lie in block b. -/
def BsIn (w : World) (b : Nat) (bs : List Bool) : Prop := ∀ j x, bs[j]? = some x → w.cell? ⟨b, j, none⟩ = some (.bool x)
def firstT : List Bool → Int → Int
  | [], _ => -1
  | true :: _, i => i
  | false :: r, i => firstT r (i + 1)
theorem firstT_step {bs : List Bool} {j : Nat} {x : Bool} (h : bs[j]? = some x) (i : Int) : firstT (bs.drop j) i = if x = true then i else firstT (bs.drop (j + 1)) (i + 1) := by
  obtain ⟨hlt, hz⟩ := List.getElem?_eq_some_iff.1 h
  rw [List.drop_eq_getElem_cons hlt, hz]
  cases x <;> rfl
theorem firstT_any : ∀ (bs : List Bool) (i : Int), 0 ≤ i → (decide (0 ≤ firstT bs i) = bs.any id)
  | [], _, _ => rfl
  | true :: r, i, h => by simp [firstT, h]
  | false :: r, i, h => by
    have := firstT_any r (i + 1) (by omega)
    exact this
set_option maxRecDepth 100000 in
set_option maxHeartbeats 4000000 in
theorem idx_calls (bs : List Bool) (hn : bs.length ≤ 1000) (b cap : Nat) (w : World) (hb : BsIn w b bs) :
    Calls PP 141 #[.slice (some ⟨b, 0, none⟩) bs.length cap, .bool true] w fun e w' => e = .returned (.int .i64 (firstT bs 0)) ∧ w' = w := by
  go_enter Proofs.Tryz.func141, Proofs.Tryz.ntmps141
  go_wp2
  go_loopw [8] (fun i wr => ∃ j : Nat, j ≤ bs.length ∧ i = .int .i64 j ∧ wr = w ∧ firstT (bs.drop j) j = firstT bs 0) (fun i _ => bs.length - (intOf i).toNat)
  case atStart => exact ⟨0, Nat.zero_le _, rfl, rfl, rfl⟩
  case round =>
    obtain ⟨j, hj, rfl, rfl, hst⟩ := hrel
    by_cases hlt : j < bs.length
    · obtain ⟨x, hx⟩ : ∃ x, bs[j]? = some x := ⟨_, List.getElem?_eq_getElem hlt⟩
      have hc := hb j x hx
      rw [firstT_step hx] at hst
      cases x with
      | true =>
        rw [if_pos rfl] at hst
        replace hst := hst.symm
        go_wp2
        go_ret
        simp [hst]
      | false =>
        rw [if_neg (by simp)] at hst
        go_wp2
        exact ⟨⟨j + 1, by omega, by simp, by trivial, by push_cast; exact hst⟩, by simp [intOf]; omega⟩
    · obtain rfl : j = bs.length := by omega
      rw [List.drop_length] at hst
      replace hst : firstT bs 0 = -1 := hst.symm
      go_wp2
      go_ret
      simp [hst]
theorem cont_calls (bs : List Bool) (hn : bs.length ≤ 1000) (b cap : Nat) (w : World) (hb : BsIn w b bs) :
    Calls PP 100 #[.slice (some ⟨b, 0, none⟩) bs.length cap, .bool true] w fun e w' => e = .returned (.bool (bs.any id)) ∧ w' = w := by
  go_enter Proofs.Tryz.func100, Proofs.Tryz.ntmps100
  have hf := firstT_any bs 0 (Int.le_refl _)
  have hi := idx_calls bs hn b cap w hb
  go_wp2_with (go_at_call 141; refine hi.mono ?_; clear hi; rintro e w' ⟨rfl, rfl⟩)
  go_ret
  simp
set_option maxRecDepth 100000 in
set_option maxHeartbeats 4000000 in
theorem mind_calls (bs : List Bool) (hn : bs.length ≤ 1000) (b cap nb mb : Nat) (s : NS) (w : World) (hb : BsIn w b bs) (hN : NavAt w nb mb s) :
    Calls PP 53 #[.pointer (some ⟨nb, 0, none⟩), .slice (some ⟨b, 0, none⟩) bs.length cap] w fun e w' => e = .returned (.tuple #[]) ∧ NavAt w' nb mb { s with cut := s.cut || bs.any id } ∧ Chg nb w w' := by
  go_enter Proofs.Tryz.func53, Proofs.Tryz.ntmps53
  have c24 : w.cell? ⟨nb, 24, none⟩ = some (.bool s.cut) := cell_blk hN
  have f24 : w.frozen? ⟨nb, 24, none⟩ = false := frozen_blk hN (by simp)
  have hi := cont_calls bs hn b cap w hb
  have hN' := hN
  unfold NavAt at hN'
  cases hc : s.cut with
  | true =>
    rw [hc] at c24
    clear hN
    go_wp2
    go_end0
    refine ⟨rfl, ?_, (Chg.refl nb w).setCell 24 _⟩
    exact setCell_blk hN'
  | false =>
    rw [hc] at c24
    clear hN
    go_wp2_with (go_at_call 100; refine hi.mono ?_; clear hi; rintro e w' ⟨rfl, rfl⟩)
    go_end0
    refine ⟨rfl, ?_, (Chg.refl nb _).setCell 24 _⟩
    exact setCell_blk hN'
end Go.Xv
namespace Go.Xv
open Go.RowKit
def spZ (s : NS) : Int := dotZ s.v0 s.v1 s.v2 s.a.m.a0 s.a.m.a3 s.a.m.a6
theorem bsIn1 {w : World} {x : Bool} {ty : TypeId} : BsIn (w.alloc (.cells #[.bool x] ty)) w.heap.size [x] := by
  intro j y h
  match j, h with
  | 0, h =>
    simp only [List.getElem?_cons_zero, Option.some.injEq] at h
    subst h
    exact cell_blk (heap_alloc_new w _)
  | j + 1, h => simp at h
set_option maxRecDepth 100000 in
set_option maxHeartbeats 4000000 in
theorem speed_calls (nb mb : Nat) (s : NS) (hs : s.ok) (w : World) (hN : NavAt w nb mb s) :
    Calls PP 41 #[.pointer (some ⟨nb, 0, none⟩)] w fun e w' => e = .returned (.int .i64 (clipV (spZ s))) ∧ NavAt w' nb mb { s with cut := s.cut || clipC (spZ s) } ∧ Chg nb w w' := by
  go_enter Proofs.Tryz.func41, Proofs.Tryz.ntmps41
  have hS : ∀ w', Below w.heap.size w w' → w'.cell? ⟨nb, 3, none⟩ = some (.int .i64 s.v0) ∧ w'.cell? ⟨nb, 4, none⟩ = some (.int .i64 s.v1) ∧ w'.cell? ⟨nb, 5, none⟩ = some (.int .i64 s.v2) ∧ w'.cell? ⟨nb, 10, none⟩ = some (.int .i64 s.a.m.a0) ∧ w'.cell? ⟨nb, 11, none⟩ = some (.int .i64 s.a.m.a1) ∧ w'.cell? ⟨nb, 12, none⟩ = some (.int .i64 s.a.m.a2) ∧ w'.cell? ⟨nb, 13, none⟩ = some (.int .i64 s.a.m.a3) ∧ w'.cell? ⟨nb, 14, none⟩ = some (.int .i64 s.a.m.a4) ∧ w'.cell? ⟨nb, 15, none⟩ = some (.int .i64 s.a.m.a5) ∧ w'.cell? ⟨nb, 16, none⟩ = some (.int .i64 s.a.m.a6) ∧ w'.cell? ⟨nb, 17, none⟩ = some (.int .i64 s.a.m.a7) ∧ w'.cell? ⟨nb, 18, none⟩ = some (.int .i64 s.a.m.a8) ∧ w'.cell? ⟨nb, 19, none⟩ = some (.int .i64 s.a.n) := fun w' hB => ⟨(hB.cell (p := ⟨nb, _, none⟩) hN.lt).trans (cell_blk hN), (hB.cell (p := ⟨nb, _, none⟩) hN.lt).trans (cell_blk hN), (hB.cell (p := ⟨nb, _, none⟩) hN.lt).trans (cell_blk hN), (hB.cell (p := ⟨nb, _, none⟩) hN.lt).trans (cell_blk hN), (hB.cell (p := ⟨nb, _, none⟩) hN.lt).trans (cell_blk hN), (hB.cell (p := ⟨nb, _, none⟩) hN.lt).trans (cell_blk hN), (hB.cell (p := ⟨nb, _, none⟩) hN.lt).trans (cell_blk hN), (hB.cell (p := ⟨nb, _, none⟩) hN.lt).trans (cell_blk hN), (hB.cell (p := ⟨nb, _, none⟩) hN.lt).trans (cell_blk hN), (hB.cell (p := ⟨nb, _, none⟩) hN.lt).trans (cell_blk hN), (hB.cell (p := ⟨nb, _, none⟩) hN.lt).trans (cell_blk hN), (hB.cell (p := ⟨nb, _, none⟩) hN.lt).trans (cell_blk hN), (hB.cell (p := ⟨nb, _, none⟩) hN.lt).trans (cell_blk hN)⟩
  have hd : Below w.heap.size w w.drew := ⟨rfl, rfl, rfl, Nat.le_refl _, fun _ _ => rfl⟩
  obtain ⟨i0, i1, i2, i3, i4, i5, i6, i7, i8⟩ := hs.m
  have ht := toward_calls s.a
  have hdot := fun w => vdot_calls hs.v0 hs.v1 hs.v2 i0 i3 i6 w
  rw [show dotZ s.v0 s.v1 s.v2 s.a.m.a0 s.a.m.a3 s.a.m.a6 = spZ s from rfl] at hdot
  go_wp2
  go_region_held3 (fun w' => w'.cell? ⟨nb, 3, none⟩ = some (.int .i64 s.v0) ∧ w'.cell? ⟨nb, 4, none⟩ = some (.int .i64 s.v1) ∧ w'.cell? ⟨nb, 5, none⟩ = some (.int .i64 s.v2) ∧ w'.cell? ⟨nb, 10, none⟩ = some (.int .i64 s.a.m.a0) ∧ w'.cell? ⟨nb, 11, none⟩ = some (.int .i64 s.a.m.a1) ∧ w'.cell? ⟨nb, 12, none⟩ = some (.int .i64 s.a.m.a2) ∧ w'.cell? ⟨nb, 13, none⟩ = some (.int .i64 s.a.m.a3) ∧ w'.cell? ⟨nb, 14, none⟩ = some (.int .i64 s.a.m.a4) ∧ w'.cell? ⟨nb, 15, none⟩ = some (.int .i64 s.a.m.a5) ∧ w'.cell? ⟨nb, 16, none⟩ = some (.int .i64 s.a.m.a6) ∧ w'.cell? ⟨nb, 17, none⟩ = some (.int .i64 s.a.m.a7) ∧ w'.cell? ⟨nb, 18, none⟩ = some (.int .i64 s.a.m.a8) ∧ w'.cell? ⟨nb, 19, none⟩ = some (.int .i64 s.a.n)) (first | exact hS _ hd | exact hS _ hB1 | exact hS _ hB2)
    (first
      | (go_at_call 86; refine (ht _).mono ?_; clear ht; rintro e w1 ⟨rfl, hB1⟩; replace hB1 : Below w.heap.size w w1 := hd.trans hB1)
      | (go_at_call 85; refine (hdot _).mono ?_; clear hdot; rintro e w2 ⟨rfl, hB2⟩; replace hB2 : Below w.heap.size w w2 := hB1.trans (hB2.mono hB1.size)))
  have hN2 := hN.below hB2
  have hm := mind_calls [clipC (spZ s)] (by simp) w2.heap.size 1 nb mb s _ (bsIn1 (ty := 4)) (hN2.below ((Below.refl _ w2).alloc (Nat.le_refl _) _))
  clear hS hN
  go_wp2_with (go_at_call 53; refine hm.mono ?_; clear hm; rintro e w3 ⟨rfl, hN3, hC3⟩)
  go_ret
  refine ⟨rfl, ?_, ?_⟩
  · simpa using hN3
  · exact ((Chg.of hB2).alloc _).trans hC3
end Go.Xv
namespace Go.Xv
open Go.RowKit
structure V3 where
  x : Int
  y : Int
  z : Int
def vAddV (a b : V3) : V3 := ⟨clipV (a.x + b.x), clipV (a.y + b.y), clipV (a.z + b.z)⟩
def vAddK (a b : V3) : Bool := clipC (a.x + b.x) || clipC (a.y + b.y) || clipC (a.z + b.z)
def vSubV (a b : V3) : V3 := ⟨clipV (a.x - b.x), clipV (a.y - b.y), clipV (a.z - b.z)⟩
def vSubK (a b : V3) : Bool := clipC (a.x - b.x) || clipC (a.y - b.y) || clipC (a.z - b.z)
def vScaV (a : V3) (k : Int) : V3 := ⟨clipV (pr a.x k), clipV (pr a.y k), clipV (pr a.z k)⟩
def vScaK (a : V3) (k : Int) : Bool := clipC (pr a.x k) || clipC (pr a.y k) || clipC (pr a.z k)
def liftV (a : Att) (x : V3) : V3 := ⟨clipV (dotZ a.m.a0 a.m.a1 a.m.a2 (wid x.x) (wid x.y) (wid x.z)), clipV (dotZ a.m.a3 a.m.a4 a.m.a5 (wid x.x) (wid x.y) (wid x.z)), clipV (dotZ a.m.a6 a.m.a7 a.m.a8 (wid x.x) (wid x.y) (wid x.z))⟩
def liftK (a : Att) (x : V3) : Bool := clipC (dotZ a.m.a0 a.m.a1 a.m.a2 (wid x.x) (wid x.y) (wid x.z)) || clipC (dotZ a.m.a3 a.m.a4 a.m.a5 (wid x.x) (wid x.y) (wid x.z)) || clipC (dotZ a.m.a6 a.m.a7 a.m.a8 (wid x.x) (wid x.y) (wid x.z))
structure V3.I (a : V3) : Prop where
  x : I64 a.x
  y : I64 a.y
  z : I64 a.z
structure V3.W (a : V3) : Prop where
  x : I32 a.x
  y : I32 a.y
  z : I32 a.z
theorem vAddV_I (a b : V3) : (vAddV a b).I := ⟨clipV_I _, clipV_I _, clipV_I _⟩
theorem vSubV_I (a b : V3) : (vSubV a b).I := ⟨clipV_I _, clipV_I _, clipV_I _⟩
theorem vScaV_I (a : V3) (k : Int) : (vScaV a k).I := ⟨clipV_I _, clipV_I _, clipV_I _⟩
theorem liftV_I (a : Att) (x : V3) : (liftV a x).I := ⟨clipV_I _, clipV_I _, clipV_I _⟩
def dtZ (t : Int) : Int := fdivV (t * 4294967296) 429496729600
def NS.g (s : NS) : V3 := ⟨s.g0, s.g1, s.g2⟩
def NS.v (s : NS) : V3 := ⟨s.v0, s.v1, s.v2⟩
def NS.p (s : NS) : V3 := ⟨s.p0, s.p1, s.p2⟩
noncomputable def stA (s : NS) (t : Int) (r : V3) : Att := stepA s.a (byV r.x t) (byV r.y t) (byV r.z t)
noncomputable def stQ (s : NS) (t : Int) (r x : V3) : V3 := vSubV (liftV (stA s t r) x) s.g
noncomputable def stM (s : NS) (t : Int) (r x : V3) : V3 := vScaV (stQ s t r x) (dtZ t)
noncomputable def stV (s : NS) (t : Int) (r x : V3) : V3 := vAddV s.v (stM s t r x)
noncomputable def stY (s : NS) (t : Int) (r x : V3) : V3 := vScaV (stV s t r x) (dtZ t)
noncomputable def stP (s : NS) (t : Int) (r x : V3) : V3 := vAddV s.p (stY s t r x)
noncomputable def stKs (s : NS) (t : Int) (r x : V3) : List Bool := [go3K s.a.m (byV r.x t) (byV r.y t) (byV r.z t), liftK (stA s t r) x, vSubK (liftV (stA s t r) x) s.g, vScaK (stQ s t r x) (dtZ t), vAddK s.v (stM s t r x), vScaK (stV s t r x) (dtZ t), vAddK s.p (stY s t r x)]
/-- a navigator, some ticks on. -/
noncomputable def stepN (s : NS) (t : Int) (r x : V3) : NS :=
  ⟨s.g0, s.g1, s.g2, (stV s t r x).x, (stV s t r x).y, (stV s t r x).z, (stP s t r x).x, (stP s t r x).y, (stP s t r x).z, s.drift, stA s t r, s.start, s.last, s.now, s.cut || (stKs s t r x).any id⟩
end Go.Xv
namespace Go.Xv
open Go.RowKit
theorem store_blk3 {W : World} {b : Nat} {ty : TypeId} {x0 x1 x2 y0 y1 y2 : Value} (h : W.heap[b]? = some (.cells #[y0, y1, y2] ty (0, 0))) : (((W.setCell ⟨b, 0, none⟩ x0).setCell ⟨b, 1, none⟩ x1).setCell ⟨b, 2, none⟩ x2).heap[b]? = some (.cells #[x0, x1, x2] ty (0, 0)) := by
  replace h := setCell_blk (o := 0) (v := x0) h
  simp only [List.setIfInBounds_toArray, List.set_cons_zero, List.set_cons_succ] at h
  replace h := setCell_blk (o := 1) (v := x1) h
  simp only [List.setIfInBounds_toArray, List.set_cons_zero, List.set_cons_succ] at h
  replace h := setCell_blk (o := 2) (v := x2) h
  simp only [List.setIfInBounds_toArray, List.set_cons_zero, List.set_cons_succ] at h
  exact h
theorem store_below3 {B : Nat} {w W : World} {b : Nat} {x0 x1 x2 : Value} (h : Below B w W) (hb : B ≤ b) : Below B w (((W.setCell ⟨b, 0, none⟩ x0).setCell ⟨b, 1, none⟩ x1).setCell ⟨b, 2, none⟩ x2) := by
  repeat' (refine Below.setCell ?_ ?_ _)
  all_goals first | exact h | exact hb
theorem store_blk10 {W : World} {b : Nat} {ty : TypeId} {x0 x1 x2 x3 x4 x5 x6 x7 x8 x9 y0 y1 y2 y3 y4 y5 y6 y7 y8 y9 : Value} (h : W.heap[b]? = some (.cells #[y0, y1, y2, y3, y4, y5, y6, y7, y8, y9] ty (0, 0))) : ((((((((((W.setCell ⟨b, 0, none⟩ x0).setCell ⟨b, 1, none⟩ x1).setCell ⟨b, 2, none⟩ x2).setCell ⟨b, 3, none⟩ x3).setCell ⟨b, 4, none⟩ x4).setCell ⟨b, 5, none⟩ x5).setCell ⟨b, 6, none⟩ x6).setCell ⟨b, 7, none⟩ x7).setCell ⟨b, 8, none⟩ x8).setCell ⟨b, 9, none⟩ x9).heap[b]? = some (.cells #[x0, x1, x2, x3, x4, x5, x6, x7, x8, x9] ty (0, 0)) := by
  replace h := setCell_blk (o := 0) (v := x0) h
  simp only [List.setIfInBounds_toArray, List.set_cons_zero, List.set_cons_succ] at h
  replace h := setCell_blk (o := 1) (v := x1) h
  simp only [List.setIfInBounds_toArray, List.set_cons_zero, List.set_cons_succ] at h
  replace h := setCell_blk (o := 2) (v := x2) h
  simp only [List.setIfInBounds_toArray, List.set_cons_zero, List.set_cons_succ] at h
  replace h := setCell_blk (o := 3) (v := x3) h
  simp only [List.setIfInBounds_toArray, List.set_cons_zero, List.set_cons_succ] at h
  replace h := setCell_blk (o := 4) (v := x4) h
  simp only [List.setIfInBounds_toArray, List.set_cons_zero, List.set_cons_succ] at h
  replace h := setCell_blk (o := 5) (v := x5) h
  simp only [List.setIfInBounds_toArray, List.set_cons_zero, List.set_cons_succ] at h
  replace h := setCell_blk (o := 6) (v := x6) h
  simp only [List.setIfInBounds_toArray, List.set_cons_zero, List.set_cons_succ] at h
  replace h := setCell_blk (o := 7) (v := x7) h
  simp only [List.setIfInBounds_toArray, List.set_cons_zero, List.set_cons_succ] at h
  replace h := setCell_blk (o := 8) (v := x8) h
  simp only [List.setIfInBounds_toArray, List.set_cons_zero, List.set_cons_succ] at h
  replace h := setCell_blk (o := 9) (v := x9) h
  simp only [List.setIfInBounds_toArray, List.set_cons_zero, List.set_cons_succ] at h
  exact h
theorem store_below10 {B : Nat} {w W : World} {b : Nat} {x0 x1 x2 x3 x4 x5 x6 x7 x8 x9 : Value} (h : Below B w W) (hb : B ≤ b) : Below B w ((((((((((W.setCell ⟨b, 0, none⟩ x0).setCell ⟨b, 1, none⟩ x1).setCell ⟨b, 2, none⟩ x2).setCell ⟨b, 3, none⟩ x3).setCell ⟨b, 4, none⟩ x4).setCell ⟨b, 5, none⟩ x5).setCell ⟨b, 6, none⟩ x6).setCell ⟨b, 7, none⟩ x7).setCell ⟨b, 8, none⟩ x8).setCell ⟨b, 9, none⟩ x9) := by
  repeat' (refine Below.setCell ?_ ?_ _)
  all_goals first | exact h | exact hb
end Go.Xv
namespace Go.Xv
open Go.RowKit
theorem drew_heap (w : World) : w.drew.heap = w.heap := rfl
theorem Chg.drew {nb : Nat} {w w' : World} (h : Chg nb w w') : Chg nb w w'.drew := ⟨h.os, h.tape, h.output, h.size, h.block⟩
theorem bsInL (bs : List Bool) (w : World) (ty : TypeId) : BsIn (w.alloc (.cells (bs.map Value.bool).toArray ty)) w.heap.size bs := by
  intro j y h
  rw [cell_blk (heap_alloc_new w _)]
  simp [h]
theorem final_blk {W : World} {b : Nat} {ty : TypeId} {x0 x1 x2 x3 x4 x5 x6 x7 x8 x9 x10 x11 x12 x13 x14 x15 x16 x17 x18 x19 x20 x21 x22 x23 x24 y3 y4 y5 y6 y7 y8 y10 y11 y12 y13 y14 y15 y16 y17 y18 y19 : Value} (h : W.heap[b]? = some (.cells #[x0, x1, x2, x3, x4, x5, x6, x7, x8, x9, x10, x11, x12, x13, x14, x15, x16, x17, x18, x19, x20, x21, x22, x23, x24] ty (0, 0))) : ((((((((((((((((W.setCell ⟨b, 10, none⟩ y10).setCell ⟨b, 11, none⟩ y11).setCell ⟨b, 12, none⟩ y12).setCell ⟨b, 13, none⟩ y13).setCell ⟨b, 14, none⟩ y14).setCell ⟨b, 15, none⟩ y15).setCell ⟨b, 16, none⟩ y16).setCell ⟨b, 17, none⟩ y17).setCell ⟨b, 18, none⟩ y18).setCell ⟨b, 19, none⟩ y19).setCell ⟨b, 3, none⟩ y3).setCell ⟨b, 4, none⟩ y4).setCell ⟨b, 5, none⟩ y5).setCell ⟨b, 6, none⟩ y6).setCell ⟨b, 7, none⟩ y7).setCell ⟨b, 8, none⟩ y8).heap[b]? = some (.cells #[x0, x1, x2, y3, y4, y5, y6, y7, y8, x9, y10, y11, y12, y13, y14, y15, y16, y17, y18, y19, x20, x21, x22, x23, x24] ty (0, 0)) := by
  replace h := setCell_blk (o := 10) (v := y10) h
  simp only [List.setIfInBounds_toArray, List.set_cons_zero, List.set_cons_succ] at h
  replace h := setCell_blk (o := 11) (v := y11) h
  simp only [List.setIfInBounds_toArray, List.set_cons_zero, List.set_cons_succ] at h
  replace h := setCell_blk (o := 12) (v := y12) h
  simp only [List.setIfInBounds_toArray, List.set_cons_zero, List.set_cons_succ] at h
  replace h := setCell_blk (o := 13) (v := y13) h
  simp only [List.setIfInBounds_toArray, List.set_cons_zero, List.set_cons_succ] at h
  replace h := setCell_blk (o := 14) (v := y14) h
  simp only [List.setIfInBounds_toArray, List.set_cons_zero, List.set_cons_succ] at h
  replace h := setCell_blk (o := 15) (v := y15) h
  simp only [List.setIfInBounds_toArray, List.set_cons_zero, List.set_cons_succ] at h
  replace h := setCell_blk (o := 16) (v := y16) h
  simp only [List.setIfInBounds_toArray, List.set_cons_zero, List.set_cons_succ] at h
  replace h := setCell_blk (o := 17) (v := y17) h
  simp only [List.setIfInBounds_toArray, List.set_cons_zero, List.set_cons_succ] at h
  replace h := setCell_blk (o := 18) (v := y18) h
  simp only [List.setIfInBounds_toArray, List.set_cons_zero, List.set_cons_succ] at h
  replace h := setCell_blk (o := 19) (v := y19) h
  simp only [List.setIfInBounds_toArray, List.set_cons_zero, List.set_cons_succ] at h
  replace h := setCell_blk (o := 3) (v := y3) h
  simp only [List.setIfInBounds_toArray, List.set_cons_zero, List.set_cons_succ] at h
  replace h := setCell_blk (o := 4) (v := y4) h
  simp only [List.setIfInBounds_toArray, List.set_cons_zero, List.set_cons_succ] at h
  replace h := setCell_blk (o := 5) (v := y5) h
  simp only [List.setIfInBounds_toArray, List.set_cons_zero, List.set_cons_succ] at h
  replace h := setCell_blk (o := 6) (v := y6) h
  simp only [List.setIfInBounds_toArray, List.set_cons_zero, List.set_cons_succ] at h
  replace h := setCell_blk (o := 7) (v := y7) h
  simp only [List.setIfInBounds_toArray, List.set_cons_zero, List.set_cons_succ] at h
  replace h := setCell_blk (o := 8) (v := y8) h
  simp only [List.setIfInBounds_toArray, List.set_cons_zero, List.set_cons_succ] at h
  exact h
theorem final_nav {W : World} {nb mb : Nat} {s : NS} (h : NavAt W nb mb s) (A : Att) (v p : V3) : NavAt ((((((((((((((((W.setCell ⟨nb, 10, none⟩ (.int .i64 A.m.a0)).setCell ⟨nb, 11, none⟩ (.int .i64 A.m.a1)).setCell ⟨nb, 12, none⟩ (.int .i64 A.m.a2)).setCell ⟨nb, 13, none⟩ (.int .i64 A.m.a3)).setCell ⟨nb, 14, none⟩ (.int .i64 A.m.a4)).setCell ⟨nb, 15, none⟩ (.int .i64 A.m.a5)).setCell ⟨nb, 16, none⟩ (.int .i64 A.m.a6)).setCell ⟨nb, 17, none⟩ (.int .i64 A.m.a7)).setCell ⟨nb, 18, none⟩ (.int .i64 A.m.a8)).setCell ⟨nb, 19, none⟩ (.int .i64 A.n)).setCell ⟨nb, 3, none⟩ (.int .i64 v.x)).setCell ⟨nb, 4, none⟩ (.int .i64 v.y)).setCell ⟨nb, 5, none⟩ (.int .i64 v.z)).setCell ⟨nb, 6, none⟩ (.int .i64 p.x)).setCell ⟨nb, 7, none⟩ (.int .i64 p.y)).setCell ⟨nb, 8, none⟩ (.int .i64 p.z)).drew nb mb ⟨s.g0, s.g1, s.g2, v.x, v.y, v.z, p.x, p.y, p.z, s.drift, A, s.start, s.last, s.now, s.cut⟩ := by
  unfold NavAt at *
  rw [drew_heap]
  exact final_blk (y3 := .int .i64 v.x) (y4 := .int .i64 v.y) (y5 := .int .i64 v.z) (y6 := .int .i64 p.x) (y7 := .int .i64 p.y) (y8 := .int .i64 p.z) (y10 := .int .i64 A.m.a0) (y11 := .int .i64 A.m.a1) (y12 := .int .i64 A.m.a2) (y13 := .int .i64 A.m.a3) (y14 := .int .i64 A.m.a4) (y15 := .int .i64 A.m.a5) (y16 := .int .i64 A.m.a6) (y17 := .int .i64 A.m.a7) (y18 := .int .i64 A.m.a8) (y19 := .int .i64 A.n) h
theorem stA_MI {s : NS} (hs : s.ok) (t : Int) (r : V3) : MI (stA s t r).m := by
  have z : I64 0 := by unfold I64; omega
  have o : I64 4294967296 := by unfold I64; omega
  have hi : ∀ {c : Prop} [Decidable c] {a b : Int}, I64 a → I64 b → I64 (if c then a else b) := fun ha hb => by
    split
    · exact ha
    · exact hb
  unfold stA stepA
  split
  · exact ⟨hi (unV_I _ _ _ _) o, hi (unV_I _ _ _ _) z, hi (unV_I _ _ _ _) z, hi (unV_I _ _ _ _) z, hi (unV_I _ _ _ _) o, hi (unV_I _ _ _ _) z, hi (clipV_I _) z, hi (clipV_I _) z, hi (clipV_I _) o⟩
  · exact mi_go (mi_go (mi_go hs.m _ _) _ _) _ _
set_option maxRecDepth 100000 in
set_option maxHeartbeats 16000000 in
theorem step_calls (nb mb : Nat) (s : NS) (hs : s.ok) (t : Int) (ht0 : 0 ≤ t) (ht1 : t ≤ 65535) (rd : Array Value) (r x : V3) (hr : r.W) (hx : x.W)
    (d1 : rd[1]? = some (.int .i32 r.x)) (d2 : rd[2]? = some (.int .i32 r.y)) (d3 : rd[3]? = some (.int .i32 r.z)) (d4 : rd[4]? = some (.int .i32 x.x)) (d5 : rd[5]? = some (.int .i32 x.y)) (d6 : rd[6]? = some (.int .i32 x.z)) (w : World) (hN : NavAt w nb mb s) :
    Calls PP 45 #[.pointer (some ⟨nb, 0, none⟩), .int .i64 t, .agg rd] w fun e w' => e = .returned (.tuple #[]) ∧ NavAt w' nb mb (stepN s t r x) ∧ Chg nb w w' := by
  go_enter Proofs.Tryz.func45, Proofs.Tryz.ntmps45
  have hwt : IntKind.wrap .i64 (t * 4294967296) = t * 4294967296 := by simp [IntKind.wrap, IntKind.signed, IntKind.bits]; omega
  have hdiv := fun w => div_calls (a := t * 4294967296) (b := 429496729600) (by unfold I64; omega) (by unfold I64; omega) w
  rw [show fdivV (t * 4294967296) 429496729600 = dtZ t from rfl] at hdiv
  have hstep := fun w => astep_calls hs.m ⟨by have := hs.n; omega, by have := hs.n; omega⟩ (t := t) hr.x hr.y hr.z w
  rw [show stepA s.a (byV r.x t) (byV r.y t) (byV r.z t) = stA s t r from rfl] at hstep
  go_wp2_with (go_at_call 87; refine (hdiv _).mono ?_; clear hdiv; rintro e w1 ⟨rfl, hB1⟩)
  have h1 : Below w.heap.size w w1 := ((Below.refl _ w).alloc (Nat.le_refl _) _).trans (hB1.mono (by simp))
  have bx1 : w1.heap[w.heap.size]? = some (.cells rd 50 (0, 0)) := (hB1.block _ (by simp)).trans (heap_alloc_new w _)
  have hN1 := hN.below h1
  have hnw := hN.lt
  clear hB1 hwt
  have hS2 : ∀ w', Below w1.heap.size w1 w' → w'.cell? ⟨nb, 10, none⟩ = some (.int .i64 s.a.m.a0) ∧ w'.cell? ⟨nb, 11, none⟩ = some (.int .i64 s.a.m.a1) ∧ w'.cell? ⟨nb, 12, none⟩ = some (.int .i64 s.a.m.a2) ∧ w'.cell? ⟨nb, 13, none⟩ = some (.int .i64 s.a.m.a3) ∧ w'.cell? ⟨nb, 14, none⟩ = some (.int .i64 s.a.m.a4) ∧ w'.cell? ⟨nb, 15, none⟩ = some (.int .i64 s.a.m.a5) ∧ w'.cell? ⟨nb, 16, none⟩ = some (.int .i64 s.a.m.a6) ∧ w'.cell? ⟨nb, 17, none⟩ = some (.int .i64 s.a.m.a7) ∧ w'.cell? ⟨nb, 18, none⟩ = some (.int .i64 s.a.m.a8) ∧ w'.cell? ⟨nb, 19, none⟩ = some (.int .i64 s.a.n) ∧ w'.cell? ⟨w.heap.size, 1, none⟩ = some (.int .i32 r.x) ∧ w'.cell? ⟨w.heap.size, 2, none⟩ = some (.int .i32 r.y) ∧ w'.cell? ⟨w.heap.size, 3, none⟩ = some (.int .i32 r.z) := fun w' hB => ⟨(hB.cell (p := ⟨nb, _, none⟩) hN1.lt).trans (cell_blk hN1), (hB.cell (p := ⟨nb, _, none⟩) hN1.lt).trans (cell_blk hN1), (hB.cell (p := ⟨nb, _, none⟩) hN1.lt).trans (cell_blk hN1), (hB.cell (p := ⟨nb, _, none⟩) hN1.lt).trans (cell_blk hN1), (hB.cell (p := ⟨nb, _, none⟩) hN1.lt).trans (cell_blk hN1), (hB.cell (p := ⟨nb, _, none⟩) hN1.lt).trans (cell_blk hN1), (hB.cell (p := ⟨nb, _, none⟩) hN1.lt).trans (cell_blk hN1), (hB.cell (p := ⟨nb, _, none⟩) hN1.lt).trans (cell_blk hN1), (hB.cell (p := ⟨nb, _, none⟩) hN1.lt).trans (cell_blk hN1), (hB.cell (p := ⟨nb, _, none⟩) hN1.lt).trans (cell_blk hN1), (hB.cell (p := ⟨w.heap.size, _, none⟩) (Array.getElem?_eq_some_iff.1 bx1).1).trans ((cell_blk bx1).trans d1), (hB.cell (p := ⟨w.heap.size, _, none⟩) (Array.getElem?_eq_some_iff.1 bx1).1).trans ((cell_blk bx1).trans d2), (hB.cell (p := ⟨w.heap.size, _, none⟩) (Array.getElem?_eq_some_iff.1 bx1).1).trans ((cell_blk bx1).trans d3)⟩
  have hd2 : Below w1.heap.size w1 w1.drew := ⟨rfl, rfl, rfl, Nat.le_refl _, fun _ _ => rfl⟩
  have hA2 : ∀ o, Below w1.heap.size w1 (w1.alloc o).drew := fun o => hd2.alloc (Nat.le_refl _) o
  have hc2 := fun W (hW : Below w1.heap.size w1 W) => (hstep W).mono fun e w' (h : _ ∧ _) => (⟨h.1, hW.trans (h.2.mono hW.size), h.2⟩ : _ ∧ Below w1.heap.size w1 w' ∧ Below W.heap.size W w')
  go_cut [8, 9] (fun va vb w' => ∃ l, va = .pointer (some ⟨l, 0, none⟩) ∧ vb = .bool (go3K s.a.m (byV r.x t) (byV r.y t) (byV r.z t)) ∧ w'.heap[l]? = some (.cells #[.int .i64 (stA s t r).m.a0, .int .i64 (stA s t r).m.a1, .int .i64 (stA s t r).m.a2, .int .i64 (stA s t r).m.a3, .int .i64 (stA s t r).m.a4, .int .i64 (stA s t r).m.a5, .int .i64 (stA s t r).m.a6, .int .i64 (stA s t r).m.a7, .int .i64 (stA s t r).m.a8, .int .i64 (stA s t r).n] 59 (0, 0)) ∧ w1.heap.size ≤ l ∧ Below w1.heap.size w1 w')
  case first =>
    go_region_held3 (fun w' => w'.cell? ⟨nb, 10, none⟩ = some (.int .i64 s.a.m.a0) ∧ w'.cell? ⟨nb, 11, none⟩ = some (.int .i64 s.a.m.a1) ∧ w'.cell? ⟨nb, 12, none⟩ = some (.int .i64 s.a.m.a2) ∧ w'.cell? ⟨nb, 13, none⟩ = some (.int .i64 s.a.m.a3) ∧ w'.cell? ⟨nb, 14, none⟩ = some (.int .i64 s.a.m.a4) ∧ w'.cell? ⟨nb, 15, none⟩ = some (.int .i64 s.a.m.a5) ∧ w'.cell? ⟨nb, 16, none⟩ = some (.int .i64 s.a.m.a6) ∧ w'.cell? ⟨nb, 17, none⟩ = some (.int .i64 s.a.m.a7) ∧ w'.cell? ⟨nb, 18, none⟩ = some (.int .i64 s.a.m.a8) ∧ w'.cell? ⟨nb, 19, none⟩ = some (.int .i64 s.a.n) ∧ w'.cell? ⟨w.heap.size, 1, none⟩ = some (.int .i32 r.x) ∧ w'.cell? ⟨w.heap.size, 2, none⟩ = some (.int .i32 r.y) ∧ w'.cell? ⟨w.heap.size, 3, none⟩ = some (.int .i32 r.z))
      (first | (with_reducible exact hS2 _ hd2) | (with_reducible exact hS2 _ hBz') | (with_reducible exact hS2 _ (hA2 _)) | (with_reducible exact hS2 _ (hBz'.alloc hBz'.size _)) | (with_reducible exact hS2 _ (store_below10 hBz' (Nat.le_refl _))))
      (first
        | (go_at_call 88
           refine (hc2 _ (by with_reducible exact hd2)).mono ?_
           rintro e wz ⟨rfl, hBz', hBz⟩)
        | (go_at_call 88
           refine (hc2 _ (by with_reducible exact hA2 _)).mono ?_
           rintro e wz ⟨rfl, hBz', hBz⟩
           have hz : wz.heap[w1.heap.size]? = _ := (hBz.block _ (by simp)).trans (heap_alloc_new w1 _)
           have z0 : wz.cell? ⟨w1.heap.size, 0, none⟩ = some (.int .i64 0) := cell_blk hz
           have y0 : wz.frozen? ⟨w1.heap.size, 0, none⟩ = false := frozen_blk hz (by simp)
           have z1 : wz.cell? ⟨w1.heap.size, 1, none⟩ = some (.int .i64 0) := cell_blk hz
           have y1 : wz.frozen? ⟨w1.heap.size, 1, none⟩ = false := frozen_blk hz (by simp)
           have z2 : wz.cell? ⟨w1.heap.size, 2, none⟩ = some (.int .i64 0) := cell_blk hz
           have y2 : wz.frozen? ⟨w1.heap.size, 2, none⟩ = false := frozen_blk hz (by simp)
           have z3 : wz.cell? ⟨w1.heap.size, 3, none⟩ = some (.int .i64 0) := cell_blk hz
           have y3 : wz.frozen? ⟨w1.heap.size, 3, none⟩ = false := frozen_blk hz (by simp)
           have z4 : wz.cell? ⟨w1.heap.size, 4, none⟩ = some (.int .i64 0) := cell_blk hz
           have y4 : wz.frozen? ⟨w1.heap.size, 4, none⟩ = false := frozen_blk hz (by simp)
           have z5 : wz.cell? ⟨w1.heap.size, 5, none⟩ = some (.int .i64 0) := cell_blk hz
           have y5 : wz.frozen? ⟨w1.heap.size, 5, none⟩ = false := frozen_blk hz (by simp)
           have z6 : wz.cell? ⟨w1.heap.size, 6, none⟩ = some (.int .i64 0) := cell_blk hz
           have y6 : wz.frozen? ⟨w1.heap.size, 6, none⟩ = false := frozen_blk hz (by simp)
           have z7 : wz.cell? ⟨w1.heap.size, 7, none⟩ = some (.int .i64 0) := cell_blk hz
           have y7 : wz.frozen? ⟨w1.heap.size, 7, none⟩ = false := frozen_blk hz (by simp)
           have z8 : wz.cell? ⟨w1.heap.size, 8, none⟩ = some (.int .i64 0) := cell_blk hz
           have y8 : wz.frozen? ⟨w1.heap.size, 8, none⟩ = false := frozen_blk hz (by simp)
           have z9 : wz.cell? ⟨w1.heap.size, 9, none⟩ = some (.int .i64 0) := cell_blk hz
           have y9 : wz.frozen? ⟨w1.heap.size, 9, none⟩ = false := frozen_blk hz (by simp)))
    · go_wp2
      go_meet
      case rel => exact ⟨wz.heap.size, rfl, rfl, heap_alloc_new wz _, hBz'.size, hBz'.alloc hBz'.size _⟩
    · go_wp2
      go_meet
      case rel => exact ⟨w1.heap.size, rfl, rfl, store_blk10 hz, Nat.le_refl _, store_below10 hBz' (Nat.le_refl _)⟩
  case rest =>
  obtain ⟨la, rfl, rfl, bla2, hlla, hB2⟩ := hcut
  obtain ⟨w2, hw2⟩ : ∃ x, x = wc := ⟨_, rfl⟩
  subst hw2
  have h2 : Below w.heap.size w w2 := h1.trans (hB2.mono h1.size)
  have bx2 : w2.heap[w.heap.size]? = some (.cells rd 50 (0, 0)) := (hB2.block _ (Array.getElem?_eq_some_iff.1 bx1).1).trans bx1
  have hN2 := hN1.below hB2
  clear hS2 hd2 hA2 hc2
  have hA : MI (stA s t r).m := stA_MI hs t r
  have hlift : ∀ w, Calls PP 89 #[.agg #[.int .i64 (stA s t r).m.a0, .int .i64 (stA s t r).m.a1, .int .i64 (stA s t r).m.a2, .int .i64 (stA s t r).m.a3, .int .i64 (stA s t r).m.a4, .int .i64 (stA s t r).m.a5, .int .i64 (stA s t r).m.a6, .int .i64 (stA s t r).m.a7, .int .i64 (stA s t r).m.a8, .int .i64 (stA s t r).n], .agg #[.int .i32 x.x, .int .i32 x.y, .int .i32 x.z]] w fun e w' => e = .returned (.tuple #[.agg #[.int .i64 (liftV (stA s t r) x).x, .int .i64 (liftV (stA s t r) x).y, .int .i64 (liftV (stA s t r) x).z], .bool (liftK (stA s t r) x)]) ∧ Below w.heap.size w w' := fun w => alift_calls hA hx.x hx.y hx.z w
  have cla0 : w2.cell? ⟨la, 0, none⟩ = some (.int .i64 (stA s t r).m.a0) := cell_blk bla2
  have cla1 : w2.cell? ⟨la, 1, none⟩ = some (.int .i64 (stA s t r).m.a1) := cell_blk bla2
  have cla2 : w2.cell? ⟨la, 2, none⟩ = some (.int .i64 (stA s t r).m.a2) := cell_blk bla2
  have cla3 : w2.cell? ⟨la, 3, none⟩ = some (.int .i64 (stA s t r).m.a3) := cell_blk bla2
  have cla4 : w2.cell? ⟨la, 4, none⟩ = some (.int .i64 (stA s t r).m.a4) := cell_blk bla2
  have cla5 : w2.cell? ⟨la, 5, none⟩ = some (.int .i64 (stA s t r).m.a5) := cell_blk bla2
  have cla6 : w2.cell? ⟨la, 6, none⟩ = some (.int .i64 (stA s t r).m.a6) := cell_blk bla2
  have cla7 : w2.cell? ⟨la, 7, none⟩ = some (.int .i64 (stA s t r).m.a7) := cell_blk bla2
  have cla8 : w2.cell? ⟨la, 8, none⟩ = some (.int .i64 (stA s t r).m.a8) := cell_blk bla2
  have cla9 : w2.cell? ⟨la, 9, none⟩ = some (.int .i64 (stA s t r).n) := cell_blk bla2
  have cbox4 : w2.cell? ⟨w.heap.size, 4, none⟩ = some (.int .i32 x.x) := (cell_blk bx2).trans d4
  have cbox5 : w2.cell? ⟨w.heap.size, 5, none⟩ = some (.int .i32 x.y) := (cell_blk bx2).trans d5
  have cbox6 : w2.cell? ⟨w.heap.size, 6, none⟩ = some (.int .i32 x.z) := (cell_blk bx2).trans d6
  go_wp2_with (go_at_call 89; refine (hlift _).mono ?_; clear hlift; rintro e wz ⟨rfl, hBz⟩)
  clear cla0 cla1 cla2 cla3 cla4 cla5 cla6 cla7 cla8 cla9
  clear cbox4 cbox5 cbox6
  have hB3 : Below w2.heap.size w2 (wz.alloc (.cells #[.int .i64 (liftV (stA s t r) x).x, .int .i64 (liftV (stA s t r) x).y, .int .i64 (liftV (stA s t r) x).z] 24)) := hBz.alloc hBz.size _
  have blf3 : (wz.alloc (.cells #[.int .i64 (liftV (stA s t r) x).x, .int .i64 (liftV (stA s t r) x).y, .int .i64 (liftV (stA s t r) x).z] 24)).heap[wz.heap.size]? = some (.cells #[.int .i64 (liftV (stA s t r) x).x, .int .i64 (liftV (stA s t r) x).y, .int .i64 (liftV (stA s t r) x).z] 24 (0, 0)) := heap_alloc_new wz _
  have hllf := hBz.size
  clear hBz
  generalize wz.alloc (.cells #[.int .i64 (liftV (stA s t r) x).x, .int .i64 (liftV (stA s t r) x).y, .int .i64 (liftV (stA s t r) x).z] 24) = w3 at *
  generalize wz.heap.size = lf at *
  have h3 : Below w.heap.size w w3 := h2.trans (hB3.mono h2.size)
  have bx3 : w3.heap[w.heap.size]? = some (.cells rd 50 (0, 0)) := (hB3.block _ (Array.getElem?_eq_some_iff.1 bx2).1).trans bx2
  have hN3 := hN2.below hB3
  have bla3 : w3.heap[la]? = some (.cells #[.int .i64 (stA s t r).m.a0, .int .i64 (stA s t r).m.a1, .int .i64 (stA s t r).m.a2, .int .i64 (stA s t r).m.a3, .int .i64 (stA s t r).m.a4, .int .i64 (stA s t r).m.a5, .int .i64 (stA s t r).m.a6, .int .i64 (stA s t r).m.a7, .int .i64 (stA s t r).m.a8, .int .i64 (stA s t r).n] 59 (0, 0)) := (hB3.block _ (Array.getElem?_eq_some_iff.1 bla2).1).trans bla2
  have hsub : ∀ w, Calls PP 90 #[.agg #[.int .i64 (liftV (stA s t r) x).x, .int .i64 (liftV (stA s t r) x).y, .int .i64 (liftV (stA s t r) x).z], .agg #[.int .i64 s.g0, .int .i64 s.g1, .int .i64 s.g2]] w fun e w' => e = .returned (.tuple #[.agg #[.int .i64 (stQ s t r x).x, .int .i64 (stQ s t r x).y, .int .i64 (stQ s t r x).z], .bool (vSubK (liftV (stA s t r) x) s.g)]) ∧ Below w.heap.size w w' := fun w => vsub_calls (liftV_I _ _).x (liftV_I _ _).y (liftV_I _ _).z hs.g0 hs.g1 hs.g2 w
  have hS4 : ∀ w', Below w3.heap.size w3 w' → w'.cell? ⟨nb, 0, none⟩ = some (.int .i64 s.g0) ∧ w'.cell? ⟨nb, 1, none⟩ = some (.int .i64 s.g1) ∧ w'.cell? ⟨nb, 2, none⟩ = some (.int .i64 s.g2) ∧ w'.cell? ⟨lf, 0, none⟩ = some (.int .i64 (liftV (stA s t r) x).x) ∧ w'.cell? ⟨lf, 1, none⟩ = some (.int .i64 (liftV (stA s t r) x).y) ∧ w'.cell? ⟨lf, 2, none⟩ = some (.int .i64 (liftV (stA s t r) x).z) := fun w' hB => ⟨(hB.cell (p := ⟨nb, _, none⟩) hN3.lt).trans (cell_blk hN3), (hB.cell (p := ⟨nb, _, none⟩) hN3.lt).trans (cell_blk hN3), (hB.cell (p := ⟨nb, _, none⟩) hN3.lt).trans (cell_blk hN3), (hB.cell (p := ⟨lf, _, none⟩) (Array.getElem?_eq_some_iff.1 blf3).1).trans (cell_blk blf3), (hB.cell (p := ⟨lf, _, none⟩) (Array.getElem?_eq_some_iff.1 blf3).1).trans (cell_blk blf3), (hB.cell (p := ⟨lf, _, none⟩) (Array.getElem?_eq_some_iff.1 blf3).1).trans (cell_blk blf3)⟩
  have hd4 : Below w3.heap.size w3 w3.drew := ⟨rfl, rfl, rfl, Nat.le_refl _, fun _ _ => rfl⟩
  have hA4 : ∀ o, Below w3.heap.size w3 (w3.alloc o).drew := fun o => hd4.alloc (Nat.le_refl _) o
  have hc4 := fun W (hW : Below w3.heap.size w3 W) => (hsub W).mono fun e w' (h : _ ∧ _) => (⟨h.1, hW.trans (h.2.mono hW.size), h.2⟩ : _ ∧ Below w3.heap.size w3 w' ∧ Below W.heap.size W w')
  go_cut [12, 13] (fun va vb w' => ∃ l, va = .pointer (some ⟨l, 0, none⟩) ∧ vb = .bool (vSubK (liftV (stA s t r) x) s.g) ∧ w'.heap[l]? = some (.cells #[.int .i64 (stQ s t r x).x, .int .i64 (stQ s t r x).y, .int .i64 (stQ s t r x).z] 24 (0, 0)) ∧ w3.heap.size ≤ l ∧ Below w3.heap.size w3 w')
  case first =>
    go_region_held3 (fun w' => w'.cell? ⟨nb, 0, none⟩ = some (.int .i64 s.g0) ∧ w'.cell? ⟨nb, 1, none⟩ = some (.int .i64 s.g1) ∧ w'.cell? ⟨nb, 2, none⟩ = some (.int .i64 s.g2) ∧ w'.cell? ⟨lf, 0, none⟩ = some (.int .i64 (liftV (stA s t r) x).x) ∧ w'.cell? ⟨lf, 1, none⟩ = some (.int .i64 (liftV (stA s t r) x).y) ∧ w'.cell? ⟨lf, 2, none⟩ = some (.int .i64 (liftV (stA s t r) x).z))
      (first | (with_reducible exact hS4 _ hd4) | (with_reducible exact hS4 _ hBz') | (with_reducible exact hS4 _ (hA4 _)) | (with_reducible exact hS4 _ (hBz'.alloc hBz'.size _)) | (with_reducible exact hS4 _ (store_below3 hBz' (Nat.le_refl _))))
      (first
        | (go_at_call 90
           refine (hc4 _ (by with_reducible exact hd4)).mono ?_
           rintro e wz ⟨rfl, hBz', hBz⟩)
        | (go_at_call 90
           refine (hc4 _ (by with_reducible exact hA4 _)).mono ?_
           rintro e wz ⟨rfl, hBz', hBz⟩
           have hz : wz.heap[w3.heap.size]? = _ := (hBz.block _ (by simp)).trans (heap_alloc_new w3 _)
           have z0 : wz.cell? ⟨w3.heap.size, 0, none⟩ = some (.int .i64 0) := cell_blk hz
           have y0 : wz.frozen? ⟨w3.heap.size, 0, none⟩ = false := frozen_blk hz (by simp)
           have z1 : wz.cell? ⟨w3.heap.size, 1, none⟩ = some (.int .i64 0) := cell_blk hz
           have y1 : wz.frozen? ⟨w3.heap.size, 1, none⟩ = false := frozen_blk hz (by simp)
           have z2 : wz.cell? ⟨w3.heap.size, 2, none⟩ = some (.int .i64 0) := cell_blk hz
           have y2 : wz.frozen? ⟨w3.heap.size, 2, none⟩ = false := frozen_blk hz (by simp)))
    · go_wp2
      go_meet
      case rel => exact ⟨wz.heap.size, rfl, rfl, heap_alloc_new wz _, hBz'.size, hBz'.alloc hBz'.size _⟩
    · go_wp2
      go_meet
      case rel => exact ⟨w3.heap.size, rfl, rfl, store_blk3 hz, Nat.le_refl _, store_below3 hBz' (Nat.le_refl _)⟩
  case rest =>
  obtain ⟨lq, rfl, rfl, blq4, hllq, hB4⟩ := hcut
  obtain ⟨w4, hw4⟩ : ∃ x, x = wc := ⟨_, rfl⟩
  subst hw4
  have h4 : Below w.heap.size w w4 := h3.trans (hB4.mono h3.size)
  have hN4 := hN3.below hB4
  have bla4 : w4.heap[la]? = some (.cells #[.int .i64 (stA s t r).m.a0, .int .i64 (stA s t r).m.a1, .int .i64 (stA s t r).m.a2, .int .i64 (stA s t r).m.a3, .int .i64 (stA s t r).m.a4, .int .i64 (stA s t r).m.a5, .int .i64 (stA s t r).m.a6, .int .i64 (stA s t r).m.a7, .int .i64 (stA s t r).m.a8, .int .i64 (stA s t r).n] 59 (0, 0)) := (hB4.block _ (Array.getElem?_eq_some_iff.1 bla3).1).trans bla3
  clear hS4 hd4 hA4 hc4
  have hsc1 : ∀ w, Calls PP 91 #[.agg #[.int .i64 (stQ s t r x).x, .int .i64 (stQ s t r x).y, .int .i64 (stQ s t r x).z], .int .i64 (dtZ t)] w fun e w' => e = .returned (.tuple #[.agg #[.int .i64 (stM s t r x).x, .int .i64 (stM s t r x).y, .int .i64 (stM s t r x).z], .bool (vScaK (stQ s t r x) (dtZ t))]) ∧ Below w.heap.size w w' := fun w => vscale_calls (vSubV_I _ _).x (vSubV_I _ _).y (vSubV_I _ _).z (fdivV_I _ _) w
  have clq0 : w4.cell? ⟨lq, 0, none⟩ = some (.int .i64 (stQ s t r x).x) := cell_blk blq4
  have clq1 : w4.cell? ⟨lq, 1, none⟩ = some (.int .i64 (stQ s t r x).y) := cell_blk blq4
  have clq2 : w4.cell? ⟨lq, 2, none⟩ = some (.int .i64 (stQ s t r x).z) := cell_blk blq4
  go_wp2_with (go_at_call 91; refine (hsc1 _).mono ?_; clear hsc1; rintro e wz ⟨rfl, hBz⟩)
  clear clq0 clq1 clq2
  have hB5 : Below w4.heap.size w4 (wz.alloc (.cells #[.int .i64 (stM s t r x).x, .int .i64 (stM s t r x).y, .int .i64 (stM s t r x).z] 24)) := hBz.alloc hBz.size _
  have blm5 : (wz.alloc (.cells #[.int .i64 (stM s t r x).x, .int .i64 (stM s t r x).y, .int .i64 (stM s t r x).z] 24)).heap[wz.heap.size]? = some (.cells #[.int .i64 (stM s t r x).x, .int .i64 (stM s t r x).y, .int .i64 (stM s t r x).z] 24 (0, 0)) := heap_alloc_new wz _
  have hllm := hBz.size
  clear hBz
  generalize wz.alloc (.cells #[.int .i64 (stM s t r x).x, .int .i64 (stM s t r x).y, .int .i64 (stM s t r x).z] 24) = w5 at *
  generalize wz.heap.size = lm at *
  have h5 : Below w.heap.size w w5 := h4.trans (hB5.mono h4.size)
  have hN5 := hN4.below hB5
  have bla5 : w5.heap[la]? = some (.cells #[.int .i64 (stA s t r).m.a0, .int .i64 (stA s t r).m.a1, .int .i64 (stA s t r).m.a2, .int .i64 (stA s t r).m.a3, .int .i64 (stA s t r).m.a4, .int .i64 (stA s t r).m.a5, .int .i64 (stA s t r).m.a6, .int .i64 (stA s t r).m.a7, .int .i64 (stA s t r).m.a8, .int .i64 (stA s t r).n] 59 (0, 0)) := (hB5.block _ (Array.getElem?_eq_some_iff.1 bla4).1).trans bla4
  have hadd1 : ∀ w, Calls PP 51 #[.agg #[.int .i64 s.v0, .int .i64 s.v1, .int .i64 s.v2], .agg #[.int .i64 (stM s t r x).x, .int .i64 (stM s t r x).y, .int .i64 (stM s t r x).z]] w fun e w' => e = .returned (.tuple #[.agg #[.int .i64 (stV s t r x).x, .int .i64 (stV s t r x).y, .int .i64 (stV s t r x).z], .bool (vAddK s.v (stM s t r x))]) ∧ Below w.heap.size w w' := fun w => vadd_calls hs.v0 hs.v1 hs.v2 (vScaV_I _ _).x (vScaV_I _ _).y (vScaV_I _ _).z w
  have hS6 : ∀ w', Below w5.heap.size w5 w' → w'.cell? ⟨nb, 3, none⟩ = some (.int .i64 s.v0) ∧ w'.cell? ⟨nb, 4, none⟩ = some (.int .i64 s.v1) ∧ w'.cell? ⟨nb, 5, none⟩ = some (.int .i64 s.v2) ∧ w'.cell? ⟨lm, 0, none⟩ = some (.int .i64 (stM s t r x).x) ∧ w'.cell? ⟨lm, 1, none⟩ = some (.int .i64 (stM s t r x).y) ∧ w'.cell? ⟨lm, 2, none⟩ = some (.int .i64 (stM s t r x).z) := fun w' hB => ⟨(hB.cell (p := ⟨nb, _, none⟩) hN5.lt).trans (cell_blk hN5), (hB.cell (p := ⟨nb, _, none⟩) hN5.lt).trans (cell_blk hN5), (hB.cell (p := ⟨nb, _, none⟩) hN5.lt).trans (cell_blk hN5), (hB.cell (p := ⟨lm, _, none⟩) (Array.getElem?_eq_some_iff.1 blm5).1).trans (cell_blk blm5), (hB.cell (p := ⟨lm, _, none⟩) (Array.getElem?_eq_some_iff.1 blm5).1).trans (cell_blk blm5), (hB.cell (p := ⟨lm, _, none⟩) (Array.getElem?_eq_some_iff.1 blm5).1).trans (cell_blk blm5)⟩
  have hd6 : Below w5.heap.size w5 w5.drew := ⟨rfl, rfl, rfl, Nat.le_refl _, fun _ _ => rfl⟩
  have hA6 : ∀ o, Below w5.heap.size w5 (w5.alloc o).drew := fun o => hd6.alloc (Nat.le_refl _) o
  have hc6 := fun W (hW : Below w5.heap.size w5 W) => (hadd1 W).mono fun e w' (h : _ ∧ _) => (⟨h.1, hW.trans (h.2.mono hW.size), h.2⟩ : _ ∧ Below w5.heap.size w5 w' ∧ Below W.heap.size W w')
  go_cut [16, 17] (fun va vb w' => ∃ l, va = .pointer (some ⟨l, 0, none⟩) ∧ vb = .bool (vAddK s.v (stM s t r x)) ∧ w'.heap[l]? = some (.cells #[.int .i64 (stV s t r x).x, .int .i64 (stV s t r x).y, .int .i64 (stV s t r x).z] 24 (0, 0)) ∧ w5.heap.size ≤ l ∧ Below w5.heap.size w5 w')
  case first =>
    go_region_held3 (fun w' => w'.cell? ⟨nb, 3, none⟩ = some (.int .i64 s.v0) ∧ w'.cell? ⟨nb, 4, none⟩ = some (.int .i64 s.v1) ∧ w'.cell? ⟨nb, 5, none⟩ = some (.int .i64 s.v2) ∧ w'.cell? ⟨lm, 0, none⟩ = some (.int .i64 (stM s t r x).x) ∧ w'.cell? ⟨lm, 1, none⟩ = some (.int .i64 (stM s t r x).y) ∧ w'.cell? ⟨lm, 2, none⟩ = some (.int .i64 (stM s t r x).z))
      (first | (with_reducible exact hS6 _ hd6) | (with_reducible exact hS6 _ hBz') | (with_reducible exact hS6 _ (hA6 _)) | (with_reducible exact hS6 _ (hBz'.alloc hBz'.size _)) | (with_reducible exact hS6 _ (store_below3 hBz' (Nat.le_refl _))))
      (first
        | (go_at_call 51
           refine (hc6 _ (by with_reducible exact hd6)).mono ?_
           rintro e wz ⟨rfl, hBz', hBz⟩)
        | (go_at_call 51
           refine (hc6 _ (by with_reducible exact hA6 _)).mono ?_
           rintro e wz ⟨rfl, hBz', hBz⟩
           have hz : wz.heap[w5.heap.size]? = _ := (hBz.block _ (by simp)).trans (heap_alloc_new w5 _)
           have z0 : wz.cell? ⟨w5.heap.size, 0, none⟩ = some (.int .i64 0) := cell_blk hz
           have y0 : wz.frozen? ⟨w5.heap.size, 0, none⟩ = false := frozen_blk hz (by simp)
           have z1 : wz.cell? ⟨w5.heap.size, 1, none⟩ = some (.int .i64 0) := cell_blk hz
           have y1 : wz.frozen? ⟨w5.heap.size, 1, none⟩ = false := frozen_blk hz (by simp)
           have z2 : wz.cell? ⟨w5.heap.size, 2, none⟩ = some (.int .i64 0) := cell_blk hz
           have y2 : wz.frozen? ⟨w5.heap.size, 2, none⟩ = false := frozen_blk hz (by simp)))
    · go_wp2
      go_meet
      case rel => exact ⟨wz.heap.size, rfl, rfl, heap_alloc_new wz _, hBz'.size, hBz'.alloc hBz'.size _⟩
    · go_wp2
      go_meet
      case rel => exact ⟨w5.heap.size, rfl, rfl, store_blk3 hz, Nat.le_refl _, store_below3 hBz' (Nat.le_refl _)⟩
  case rest =>
  obtain ⟨lv, rfl, rfl, blv6, hllv, hB6⟩ := hcut
  obtain ⟨w6, hw6⟩ : ∃ x, x = wc := ⟨_, rfl⟩
  subst hw6
  have h6 : Below w.heap.size w w6 := h5.trans (hB6.mono h5.size)
  have hN6 := hN5.below hB6
  have bla6 : w6.heap[la]? = some (.cells #[.int .i64 (stA s t r).m.a0, .int .i64 (stA s t r).m.a1, .int .i64 (stA s t r).m.a2, .int .i64 (stA s t r).m.a3, .int .i64 (stA s t r).m.a4, .int .i64 (stA s t r).m.a5, .int .i64 (stA s t r).m.a6, .int .i64 (stA s t r).m.a7, .int .i64 (stA s t r).m.a8, .int .i64 (stA s t r).n] 59 (0, 0)) := (hB6.block _ (Array.getElem?_eq_some_iff.1 bla5).1).trans bla5
  clear hS6 hd6 hA6 hc6
  have hsc2 : ∀ w, Calls PP 91 #[.agg #[.int .i64 (stV s t r x).x, .int .i64 (stV s t r x).y, .int .i64 (stV s t r x).z], .int .i64 (dtZ t)] w fun e w' => e = .returned (.tuple #[.agg #[.int .i64 (stY s t r x).x, .int .i64 (stY s t r x).y, .int .i64 (stY s t r x).z], .bool (vScaK (stV s t r x) (dtZ t))]) ∧ Below w.heap.size w w' := fun w => vscale_calls (vAddV_I _ _).x (vAddV_I _ _).y (vAddV_I _ _).z (fdivV_I _ _) w
  have clv0 : w6.cell? ⟨lv, 0, none⟩ = some (.int .i64 (stV s t r x).x) := cell_blk blv6
  have clv1 : w6.cell? ⟨lv, 1, none⟩ = some (.int .i64 (stV s t r x).y) := cell_blk blv6
  have clv2 : w6.cell? ⟨lv, 2, none⟩ = some (.int .i64 (stV s t r x).z) := cell_blk blv6
  go_wp2_with (go_at_call 91; refine (hsc2 _).mono ?_; clear hsc2; rintro e wz ⟨rfl, hBz⟩)
  clear clv0 clv1 clv2
  have hB7 : Below w6.heap.size w6 (wz.alloc (.cells #[.int .i64 (stY s t r x).x, .int .i64 (stY s t r x).y, .int .i64 (stY s t r x).z] 24)) := hBz.alloc hBz.size _
  have bly7 : (wz.alloc (.cells #[.int .i64 (stY s t r x).x, .int .i64 (stY s t r x).y, .int .i64 (stY s t r x).z] 24)).heap[wz.heap.size]? = some (.cells #[.int .i64 (stY s t r x).x, .int .i64 (stY s t r x).y, .int .i64 (stY s t r x).z] 24 (0, 0)) := heap_alloc_new wz _
  have hlly := hBz.size
  clear hBz
  generalize wz.alloc (.cells #[.int .i64 (stY s t r x).x, .int .i64 (stY s t r x).y, .int .i64 (stY s t r x).z] 24) = w7 at *
  generalize wz.heap.size = ly at *
  have h7 : Below w.heap.size w w7 := h6.trans (hB7.mono h6.size)
  have hN7 := hN6.below hB7
  have bla7 : w7.heap[la]? = some (.cells #[.int .i64 (stA s t r).m.a0, .int .i64 (stA s t r).m.a1, .int .i64 (stA s t r).m.a2, .int .i64 (stA s t r).m.a3, .int .i64 (stA s t r).m.a4, .int .i64 (stA s t r).m.a5, .int .i64 (stA s t r).m.a6, .int .i64 (stA s t r).m.a7, .int .i64 (stA s t r).m.a8, .int .i64 (stA s t r).n] 59 (0, 0)) := (hB7.block _ (Array.getElem?_eq_some_iff.1 bla6).1).trans bla6
  have blv7 : w7.heap[lv]? = some (.cells #[.int .i64 (stV s t r x).x, .int .i64 (stV s t r x).y, .int .i64 (stV s t r x).z] 24 (0, 0)) := (hB7.block _ (Array.getElem?_eq_some_iff.1 blv6).1).trans blv6
  have hadd2 : ∀ w, Calls PP 51 #[.agg #[.int .i64 s.p0, .int .i64 s.p1, .int .i64 s.p2], .agg #[.int .i64 (stY s t r x).x, .int .i64 (stY s t r x).y, .int .i64 (stY s t r x).z]] w fun e w' => e = .returned (.tuple #[.agg #[.int .i64 (stP s t r x).x, .int .i64 (stP s t r x).y, .int .i64 (stP s t r x).z], .bool (vAddK s.p (stY s t r x))]) ∧ Below w.heap.size w w' := fun w => vadd_calls hs.p0 hs.p1 hs.p2 (vScaV_I _ _).x (vScaV_I _ _).y (vScaV_I _ _).z w
  have hS8 : ∀ w', Below w7.heap.size w7 w' → w'.cell? ⟨nb, 6, none⟩ = some (.int .i64 s.p0) ∧ w'.cell? ⟨nb, 7, none⟩ = some (.int .i64 s.p1) ∧ w'.cell? ⟨nb, 8, none⟩ = some (.int .i64 s.p2) ∧ w'.cell? ⟨ly, 0, none⟩ = some (.int .i64 (stY s t r x).x) ∧ w'.cell? ⟨ly, 1, none⟩ = some (.int .i64 (stY s t r x).y) ∧ w'.cell? ⟨ly, 2, none⟩ = some (.int .i64 (stY s t r x).z) := fun w' hB => ⟨(hB.cell (p := ⟨nb, _, none⟩) hN7.lt).trans (cell_blk hN7), (hB.cell (p := ⟨nb, _, none⟩) hN7.lt).trans (cell_blk hN7), (hB.cell (p := ⟨nb, _, none⟩) hN7.lt).trans (cell_blk hN7), (hB.cell (p := ⟨ly, _, none⟩) (Array.getElem?_eq_some_iff.1 bly7).1).trans (cell_blk bly7), (hB.cell (p := ⟨ly, _, none⟩) (Array.getElem?_eq_some_iff.1 bly7).1).trans (cell_blk bly7), (hB.cell (p := ⟨ly, _, none⟩) (Array.getElem?_eq_some_iff.1 bly7).1).trans (cell_blk bly7)⟩
  have hd8 : Below w7.heap.size w7 w7.drew := ⟨rfl, rfl, rfl, Nat.le_refl _, fun _ _ => rfl⟩
  have hA8 : ∀ o, Below w7.heap.size w7 (w7.alloc o).drew := fun o => hd8.alloc (Nat.le_refl _) o
  have hc8 := fun W (hW : Below w7.heap.size w7 W) => (hadd2 W).mono fun e w' (h : _ ∧ _) => (⟨h.1, hW.trans (h.2.mono hW.size), h.2⟩ : _ ∧ Below w7.heap.size w7 w' ∧ Below W.heap.size W w')
  go_cut [20, 21] (fun va vb w' => ∃ l, va = .pointer (some ⟨l, 0, none⟩) ∧ vb = .bool (vAddK s.p (stY s t r x)) ∧ w'.heap[l]? = some (.cells #[.int .i64 (stP s t r x).x, .int .i64 (stP s t r x).y, .int .i64 (stP s t r x).z] 24 (0, 0)) ∧ w7.heap.size ≤ l ∧ Below w7.heap.size w7 w')
  case first =>
    go_region_held3 (fun w' => w'.cell? ⟨nb, 6, none⟩ = some (.int .i64 s.p0) ∧ w'.cell? ⟨nb, 7, none⟩ = some (.int .i64 s.p1) ∧ w'.cell? ⟨nb, 8, none⟩ = some (.int .i64 s.p2) ∧ w'.cell? ⟨ly, 0, none⟩ = some (.int .i64 (stY s t r x).x) ∧ w'.cell? ⟨ly, 1, none⟩ = some (.int .i64 (stY s t r x).y) ∧ w'.cell? ⟨ly, 2, none⟩ = some (.int .i64 (stY s t r x).z))
      (first | (with_reducible exact hS8 _ hd8) | (with_reducible exact hS8 _ hBz') | (with_reducible exact hS8 _ (hA8 _)) | (with_reducible exact hS8 _ (hBz'.alloc hBz'.size _)) | (with_reducible exact hS8 _ (store_below3 hBz' (Nat.le_refl _))))
      (first
        | (go_at_call 51
           refine (hc8 _ (by with_reducible exact hd8)).mono ?_
           rintro e wz ⟨rfl, hBz', hBz⟩)
        | (go_at_call 51
           refine (hc8 _ (by with_reducible exact hA8 _)).mono ?_
           rintro e wz ⟨rfl, hBz', hBz⟩
           have hz : wz.heap[w7.heap.size]? = _ := (hBz.block _ (by simp)).trans (heap_alloc_new w7 _)
           have z0 : wz.cell? ⟨w7.heap.size, 0, none⟩ = some (.int .i64 0) := cell_blk hz
           have y0 : wz.frozen? ⟨w7.heap.size, 0, none⟩ = false := frozen_blk hz (by simp)
           have z1 : wz.cell? ⟨w7.heap.size, 1, none⟩ = some (.int .i64 0) := cell_blk hz
           have y1 : wz.frozen? ⟨w7.heap.size, 1, none⟩ = false := frozen_blk hz (by simp)
           have z2 : wz.cell? ⟨w7.heap.size, 2, none⟩ = some (.int .i64 0) := cell_blk hz
           have y2 : wz.frozen? ⟨w7.heap.size, 2, none⟩ = false := frozen_blk hz (by simp)))
    · go_wp2
      go_meet
      case rel => exact ⟨wz.heap.size, rfl, rfl, heap_alloc_new wz _, hBz'.size, hBz'.alloc hBz'.size _⟩
    · go_wp2
      go_meet
      case rel => exact ⟨w7.heap.size, rfl, rfl, store_blk3 hz, Nat.le_refl _, store_below3 hBz' (Nat.le_refl _)⟩
  case rest =>
  obtain ⟨lp, rfl, rfl, blp8, hllp, hB8⟩ := hcut
  obtain ⟨w8, hw8⟩ : ∃ x, x = wc := ⟨_, rfl⟩
  subst hw8
  have h8 : Below w.heap.size w w8 := h7.trans (hB8.mono h7.size)
  have hN8 := hN7.below hB8
  have bla8 : w8.heap[la]? = some (.cells #[.int .i64 (stA s t r).m.a0, .int .i64 (stA s t r).m.a1, .int .i64 (stA s t r).m.a2, .int .i64 (stA s t r).m.a3, .int .i64 (stA s t r).m.a4, .int .i64 (stA s t r).m.a5, .int .i64 (stA s t r).m.a6, .int .i64 (stA s t r).m.a7, .int .i64 (stA s t r).m.a8, .int .i64 (stA s t r).n] 59 (0, 0)) := (hB8.block _ (Array.getElem?_eq_some_iff.1 bla7).1).trans bla7
  have blv8 : w8.heap[lv]? = some (.cells #[.int .i64 (stV s t r x).x, .int .i64 (stV s t r x).y, .int .i64 (stV s t r x).z] 24 (0, 0)) := (hB8.block _ (Array.getElem?_eq_some_iff.1 blv7).1).trans blv7
  clear hS8 hd8 hA8 hc8
  have hA8 : Below w8.heap.size w8 (w8.alloc (.cells #[.bool (go3K s.a.m (byV r.x t) (byV r.y t) (byV r.z t)), .bool (liftK (stA s t r) x), .bool (vSubK (liftV (stA s t r) x) s.g), .bool (vScaK (stQ s t r x) (dtZ t)), .bool (vAddK s.v (stM s t r x)), .bool (vScaK (stV s t r x) (dtZ t)), .bool (vAddK s.p (stY s t r x))] 4)) := (Below.refl _ _).alloc (Nat.le_refl _) _
  have hm := mind_calls [go3K s.a.m (byV r.x t) (byV r.y t) (byV r.z t), liftK (stA s t r) x, vSubK (liftV (stA s t r) x) s.g, vScaK (stQ s t r x) (dtZ t), vAddK s.v (stM s t r x), vScaK (stV s t r x) (dtZ t), vAddK s.p (stY s t r x)] (by simp) w8.heap.size 7 nb mb s (w8.alloc (.cells #[.bool (go3K s.a.m (byV r.x t) (byV r.y t) (byV r.z t)), .bool (liftK (stA s t r) x), .bool (vSubK (liftV (stA s t r) x) s.g), .bool (vScaK (stQ s t r x) (dtZ t)), .bool (vAddK s.v (stM s t r x)), .bool (vScaK (stV s t r x) (dtZ t)), .bool (vAddK s.p (stY s t r x))] 4)) (bsInL _ _ _) (hN8.below hA8)
  go_wp2_with (go_at_call 53; refine hm.mono ?_; clear hm; rintro e w9 ⟨rfl, hN9, hC9⟩)
  have hC : Chg nb w8 w9 := (Chg.of hA8).trans hC9
  have bla9 : w9.heap[la]? = some (.cells #[.int .i64 (stA s t r).m.a0, .int .i64 (stA s t r).m.a1, .int .i64 (stA s t r).m.a2, .int .i64 (stA s t r).m.a3, .int .i64 (stA s t r).m.a4, .int .i64 (stA s t r).m.a5, .int .i64 (stA s t r).m.a6, .int .i64 (stA s t r).m.a7, .int .i64 (stA s t r).m.a8, .int .i64 (stA s t r).n] 59 (0, 0)) := (hC.block _ (Array.getElem?_eq_some_iff.1 bla8).1 (by have := h1.size; have := h3.size; have := h5.size; have := h7.size; omega)).trans bla8
  have blv9 : w9.heap[lv]? = some (.cells #[.int .i64 (stV s t r x).x, .int .i64 (stV s t r x).y, .int .i64 (stV s t r x).z] 24 (0, 0)) := (hC.block _ (Array.getElem?_eq_some_iff.1 blv8).1 (by have := h1.size; have := h3.size; have := h5.size; have := h7.size; omega)).trans blv8
  have blp9 : w9.heap[lp]? = some (.cells #[.int .i64 (stP s t r x).x, .int .i64 (stP s t r x).y, .int .i64 (stP s t r x).z] 24 (0, 0)) := (hC.block _ (Array.getElem?_eq_some_iff.1 blp8).1 (by have := h1.size; have := h3.size; have := h5.size; have := h7.size; omega)).trans blp8
  have hS10 : ∀ w', Chg nb w9 w' → w'.cell? ⟨la, 0, none⟩ = some (.int .i64 (stA s t r).m.a0) ∧ w'.cell? ⟨la, 1, none⟩ = some (.int .i64 (stA s t r).m.a1) ∧ w'.cell? ⟨la, 2, none⟩ = some (.int .i64 (stA s t r).m.a2) ∧ w'.cell? ⟨la, 3, none⟩ = some (.int .i64 (stA s t r).m.a3) ∧ w'.cell? ⟨la, 4, none⟩ = some (.int .i64 (stA s t r).m.a4) ∧ w'.cell? ⟨la, 5, none⟩ = some (.int .i64 (stA s t r).m.a5) ∧ w'.cell? ⟨la, 6, none⟩ = some (.int .i64 (stA s t r).m.a6) ∧ w'.cell? ⟨la, 7, none⟩ = some (.int .i64 (stA s t r).m.a7) ∧ w'.cell? ⟨la, 8, none⟩ = some (.int .i64 (stA s t r).m.a8) ∧ w'.cell? ⟨la, 9, none⟩ = some (.int .i64 (stA s t r).n) ∧ w'.cell? ⟨lv, 0, none⟩ = some (.int .i64 (stV s t r x).x) ∧ w'.cell? ⟨lv, 1, none⟩ = some (.int .i64 (stV s t r x).y) ∧ w'.cell? ⟨lv, 2, none⟩ = some (.int .i64 (stV s t r x).z) ∧ w'.cell? ⟨lp, 0, none⟩ = some (.int .i64 (stP s t r x).x) ∧ w'.cell? ⟨lp, 1, none⟩ = some (.int .i64 (stP s t r x).y) ∧ w'.cell? ⟨lp, 2, none⟩ = some (.int .i64 (stP s t r x).z) := fun w' hc => ⟨(World.cell?_of_block (w := w9) (a := ⟨la, _, none⟩) (hc.block la (Array.getElem?_eq_some_iff.1 bla9).1 (by have := h1.size; have := h3.size; have := h5.size; have := h7.size; omega))).trans (cell_blk bla9), (World.cell?_of_block (w := w9) (a := ⟨la, _, none⟩) (hc.block la (Array.getElem?_eq_some_iff.1 bla9).1 (by have := h1.size; have := h3.size; have := h5.size; have := h7.size; omega))).trans (cell_blk bla9), (World.cell?_of_block (w := w9) (a := ⟨la, _, none⟩) (hc.block la (Array.getElem?_eq_some_iff.1 bla9).1 (by have := h1.size; have := h3.size; have := h5.size; have := h7.size; omega))).trans (cell_blk bla9), (World.cell?_of_block (w := w9) (a := ⟨la, _, none⟩) (hc.block la (Array.getElem?_eq_some_iff.1 bla9).1 (by have := h1.size; have := h3.size; have := h5.size; have := h7.size; omega))).trans (cell_blk bla9), (World.cell?_of_block (w := w9) (a := ⟨la, _, none⟩) (hc.block la (Array.getElem?_eq_some_iff.1 bla9).1 (by have := h1.size; have := h3.size; have := h5.size; have := h7.size; omega))).trans (cell_blk bla9), (World.cell?_of_block (w := w9) (a := ⟨la, _, none⟩) (hc.block la (Array.getElem?_eq_some_iff.1 bla9).1 (by have := h1.size; have := h3.size; have := h5.size; have := h7.size; omega))).trans (cell_blk bla9), (World.cell?_of_block (w := w9) (a := ⟨la, _, none⟩) (hc.block la (Array.getElem?_eq_some_iff.1 bla9).1 (by have := h1.size; have := h3.size; have := h5.size; have := h7.size; omega))).trans (cell_blk bla9), (World.cell?_of_block (w := w9) (a := ⟨la, _, none⟩) (hc.block la (Array.getElem?_eq_some_iff.1 bla9).1 (by have := h1.size; have := h3.size; have := h5.size; have := h7.size; omega))).trans (cell_blk bla9), (World.cell?_of_block (w := w9) (a := ⟨la, _, none⟩) (hc.block la (Array.getElem?_eq_some_iff.1 bla9).1 (by have := h1.size; have := h3.size; have := h5.size; have := h7.size; omega))).trans (cell_blk bla9), (World.cell?_of_block (w := w9) (a := ⟨la, _, none⟩) (hc.block la (Array.getElem?_eq_some_iff.1 bla9).1 (by have := h1.size; have := h3.size; have := h5.size; have := h7.size; omega))).trans (cell_blk bla9), (World.cell?_of_block (w := w9) (a := ⟨lv, _, none⟩) (hc.block lv (Array.getElem?_eq_some_iff.1 blv9).1 (by have := h1.size; have := h3.size; have := h5.size; have := h7.size; omega))).trans (cell_blk blv9), (World.cell?_of_block (w := w9) (a := ⟨lv, _, none⟩) (hc.block lv (Array.getElem?_eq_some_iff.1 blv9).1 (by have := h1.size; have := h3.size; have := h5.size; have := h7.size; omega))).trans (cell_blk blv9), (World.cell?_of_block (w := w9) (a := ⟨lv, _, none⟩) (hc.block lv (Array.getElem?_eq_some_iff.1 blv9).1 (by have := h1.size; have := h3.size; have := h5.size; have := h7.size; omega))).trans (cell_blk blv9), (World.cell?_of_block (w := w9) (a := ⟨lp, _, none⟩) (hc.block lp (Array.getElem?_eq_some_iff.1 blp9).1 (by have := h1.size; have := h3.size; have := h5.size; have := h7.size; omega))).trans (cell_blk blp9), (World.cell?_of_block (w := w9) (a := ⟨lp, _, none⟩) (hc.block lp (Array.getElem?_eq_some_iff.1 blp9).1 (by have := h1.size; have := h3.size; have := h5.size; have := h7.size; omega))).trans (cell_blk blp9), (World.cell?_of_block (w := w9) (a := ⟨lp, _, none⟩) (hc.block lp (Array.getElem?_eq_some_iff.1 blp9).1 (by have := h1.size; have := h3.size; have := h5.size; have := h7.size; omega))).trans (cell_blk blp9)⟩
  have n10 : w9.cell? ⟨nb, 10, none⟩ = some (.int .i64 s.a.m.a0) := cell_blk hN9
  have f10 : w9.frozen? ⟨nb, 10, none⟩ = false := frozen_blk hN9 (by simp)
  have n11 : w9.cell? ⟨nb, 11, none⟩ = some (.int .i64 s.a.m.a1) := cell_blk hN9
  have f11 : w9.frozen? ⟨nb, 11, none⟩ = false := frozen_blk hN9 (by simp)
  have n12 : w9.cell? ⟨nb, 12, none⟩ = some (.int .i64 s.a.m.a2) := cell_blk hN9
  have f12 : w9.frozen? ⟨nb, 12, none⟩ = false := frozen_blk hN9 (by simp)
  have n13 : w9.cell? ⟨nb, 13, none⟩ = some (.int .i64 s.a.m.a3) := cell_blk hN9
  have f13 : w9.frozen? ⟨nb, 13, none⟩ = false := frozen_blk hN9 (by simp)
  have n14 : w9.cell? ⟨nb, 14, none⟩ = some (.int .i64 s.a.m.a4) := cell_blk hN9
  have f14 : w9.frozen? ⟨nb, 14, none⟩ = false := frozen_blk hN9 (by simp)
  have n15 : w9.cell? ⟨nb, 15, none⟩ = some (.int .i64 s.a.m.a5) := cell_blk hN9
  have f15 : w9.frozen? ⟨nb, 15, none⟩ = false := frozen_blk hN9 (by simp)
  have n16 : w9.cell? ⟨nb, 16, none⟩ = some (.int .i64 s.a.m.a6) := cell_blk hN9
  have f16 : w9.frozen? ⟨nb, 16, none⟩ = false := frozen_blk hN9 (by simp)
  have n17 : w9.cell? ⟨nb, 17, none⟩ = some (.int .i64 s.a.m.a7) := cell_blk hN9
  have f17 : w9.frozen? ⟨nb, 17, none⟩ = false := frozen_blk hN9 (by simp)
  have n18 : w9.cell? ⟨nb, 18, none⟩ = some (.int .i64 s.a.m.a8) := cell_blk hN9
  have f18 : w9.frozen? ⟨nb, 18, none⟩ = false := frozen_blk hN9 (by simp)
  have n19 : w9.cell? ⟨nb, 19, none⟩ = some (.int .i64 s.a.n) := cell_blk hN9
  have f19 : w9.frozen? ⟨nb, 19, none⟩ = false := frozen_blk hN9 (by simp)
  have n3 : w9.cell? ⟨nb, 3, none⟩ = some (.int .i64 s.v0) := cell_blk hN9
  have f3 : w9.frozen? ⟨nb, 3, none⟩ = false := frozen_blk hN9 (by simp)
  have n4 : w9.cell? ⟨nb, 4, none⟩ = some (.int .i64 s.v1) := cell_blk hN9
  have f4 : w9.frozen? ⟨nb, 4, none⟩ = false := frozen_blk hN9 (by simp)
  have n5 : w9.cell? ⟨nb, 5, none⟩ = some (.int .i64 s.v2) := cell_blk hN9
  have f5 : w9.frozen? ⟨nb, 5, none⟩ = false := frozen_blk hN9 (by simp)
  have n6 : w9.cell? ⟨nb, 6, none⟩ = some (.int .i64 s.p0) := cell_blk hN9
  have f6 : w9.frozen? ⟨nb, 6, none⟩ = false := frozen_blk hN9 (by simp)
  have n7 : w9.cell? ⟨nb, 7, none⟩ = some (.int .i64 s.p1) := cell_blk hN9
  have f7 : w9.frozen? ⟨nb, 7, none⟩ = false := frozen_blk hN9 (by simp)
  have n8 : w9.cell? ⟨nb, 8, none⟩ = some (.int .i64 s.p2) := cell_blk hN9
  have f8 : w9.frozen? ⟨nb, 8, none⟩ = false := frozen_blk hN9 (by simp)
  have c9 := Chg.refl nb w9
  go_region_held3 (fun w' => w'.cell? ⟨la, 0, none⟩ = some (.int .i64 (stA s t r).m.a0) ∧ w'.cell? ⟨la, 1, none⟩ = some (.int .i64 (stA s t r).m.a1) ∧ w'.cell? ⟨la, 2, none⟩ = some (.int .i64 (stA s t r).m.a2) ∧ w'.cell? ⟨la, 3, none⟩ = some (.int .i64 (stA s t r).m.a3) ∧ w'.cell? ⟨la, 4, none⟩ = some (.int .i64 (stA s t r).m.a4) ∧ w'.cell? ⟨la, 5, none⟩ = some (.int .i64 (stA s t r).m.a5) ∧ w'.cell? ⟨la, 6, none⟩ = some (.int .i64 (stA s t r).m.a6) ∧ w'.cell? ⟨la, 7, none⟩ = some (.int .i64 (stA s t r).m.a7) ∧ w'.cell? ⟨la, 8, none⟩ = some (.int .i64 (stA s t r).m.a8) ∧ w'.cell? ⟨la, 9, none⟩ = some (.int .i64 (stA s t r).n) ∧ w'.cell? ⟨lv, 0, none⟩ = some (.int .i64 (stV s t r x).x) ∧ w'.cell? ⟨lv, 1, none⟩ = some (.int .i64 (stV s t r x).y) ∧ w'.cell? ⟨lv, 2, none⟩ = some (.int .i64 (stV s t r x).z) ∧ w'.cell? ⟨lp, 0, none⟩ = some (.int .i64 (stP s t r x).x) ∧ w'.cell? ⟨lp, 1, none⟩ = some (.int .i64 (stP s t r x).y) ∧ w'.cell? ⟨lp, 2, none⟩ = some (.int .i64 (stP s t r x).z))
    (first | (with_reducible refine hS10 _ ?_; repeat (first | (with_reducible exact c9) | (with_reducible refine Chg.drew ?_) | (with_reducible refine Chg.setCell ?_ _ _))))
    (fail)
  go_wp2
  go_end0
  have hcw : Chg nb w w9 := (Chg.of h8).trans hC
  refine ⟨rfl, final_nav hN9 (stA s t r) (stV s t r x) (stP s t r x), ?_⟩
  repeat (first | (with_reducible exact hcw) | (with_reducible refine Chg.drew ?_) | (with_reducible refine Chg.setCell ?_ _ _))
end Go.Xv
namespace Go.Xv
open Go.RowKit
theorem map_ne (mb : Nat) (w : World) : Sem.run PP (binOp BinOp.neq 60 (Value.map (some mb)) (Value.map none)) w = .ok (.bool true) w := by
  kernel_rfl
set_option maxRecDepth 100000 in
theorem is_calls (nb mb : Nat) (s : NS) (w : World) (hN : NavAt w nb mb s) : Calls PP 43 #[.pointer (some ⟨nb, 0, none⟩)] w fun e w' => e = .returned (.bool true) ∧ w' = w := by
  go_enter Proofs.Tryz.func43, Proofs.Tryz.ntmps43
  have hmm := map_ne mb
  have c20 : w.cell? ⟨nb, 20, none⟩ = some (.map (some mb)) := cell_blk hN
  go_wp2
  go_ret
  simp
set_option maxRecDepth 100000 in
theorem at_calls (nb mb : Nat) (s : NS) (t : Int) (w : World) (hN : NavAt w nb mb s) : Calls PP 44 #[.pointer (some ⟨nb, 0, none⟩), .int .i64 t] w fun e w' =>
    (¬ (s.now ≤ t ∧ t ≤ 1099511627776) ∧ e = .returned (.int .i64 2) ∧ w' = w) ∨ ((s.now ≤ t ∧ t ≤ 1099511627776) ∧ e = .returned (.int .i64 0) ∧ w' = w.setCell ⟨nb, 23, none⟩ (.int .i64 t)) := by
  go_enter Proofs.Tryz.func44, Proofs.Tryz.ntmps44
  have hi := is_calls nb mb s w hN
  have c23 : w.cell? ⟨nb, 23, none⟩ = some (.int .i64 s.now) := cell_blk hN
  have f23 : w.frozen? ⟨nb, 23, none⟩ = false := frozen_blk hN (by simp)
  by_cases h1 : t < s.now
  · go_wp2_with (go_at_call 43; refine hi.mono ?_; clear hi; rintro e w' ⟨rfl, rfl⟩)
    go_ret
    exact .inl ⟨by omega, rfl, rfl⟩
  · by_cases h2 : 1099511627776 < t
    · go_wp2_with (go_at_call 43; refine hi.mono ?_; clear hi; rintro e w' ⟨rfl, rfl⟩)
      go_ret
      exact .inl ⟨by omega, rfl, rfl⟩
    · go_wp2_with (go_at_call 43; refine hi.mono ?_; clear hi; rintro e w' ⟨rfl, rfl⟩)
      go_ret
      exact .inr ⟨by omega, rfl, rfl⟩
end Go.Xv
namespace Go.Xv
open Go.RowKit
/-- what a navigator holds behind a reading, and what it answers. -/
noncomputable def imuN (s : NS) (t kd : Int) (r x : V3) : NS :=
  if kd = 1 ∧ s.now ≤ t ∧ t ≤ 1099511627776 then
    (if s.start = -1 then { s with now := t, start := t, last := t } else { stepN { s with now := t } (min (t - s.last) 65535) r x with last := t })
  else s
def imuE (s : NS) (t kd : Int) : Int := if kd = 1 ∧ s.now ≤ t ∧ t ≤ 1099511627776 then 0 else 2
/-- a reading's cells. -/
structure RdOf (f : Nat → Value) (kd : Int) (r x : V3) : Prop where
  d0 : f 0 = .int .i64 kd
  d1 : f 1 = .int .i32 r.x
  d2 : f 2 = .int .i32 r.y
  d3 : f 3 = .int .i32 r.z
  d4 : f 4 = .int .i32 x.x
  d5 : f 5 = .int .i32 x.y
  d6 : f 6 = .int .i32 x.z
theorem under_row {P : Program} {t : TypeId} (h : (match P.underlying t with | some d => d.isRow | none => false) = true) : ∃ d, P.underlying t = some d ∧ d.isRow = true := by
  cases hd : P.underlying t with
  | none => rw [hd] at h; exact absurd h (by simp)
  | some d => exact ⟨d, rfl, by rw [hd] at h; exact h⟩
def rdA (f : Nat → Value) : Array Value := #[f 0, f 1, f 2, f 3, f 4, f 5, f 6, f 7, f 8, f 9, f 10, f 11, f 12, f 13, f 14, f 15, f 16, f 17, f 18, f 19, f 20, f 21, f 22, f 23, f 24, f 25, f 26, f 27, f 28, f 29, f 30, f 31, f 32, f 33, f 34, f 35, f 36, f 37, f 38, f 39, f 40, f 41, f 42, f 43, f 44, f 45, f 46, f 47, f 48, f 49, f 50, f 51, f 52, f 53, f 54, f 55, f 56]
theorem rdA_get (f : Nat → Value) (k : Nat) (hk : k < 57) : (rdA f)[k]? = some (f k) := by
  have h : rdA f = ((List.range 57).map f).toArray := by unfold rdA; kernel_rfl
  rw [h]
  simp [hk]
set_option maxRecDepth 100000 in
set_option maxHeartbeats 8000000 in
theorem imu_calls (nb mb : Nat) (s : NS) (hs : s.ok) (hf : s.start = -1 ∨ (0 ≤ s.last ∧ s.last ≤ s.now)) (t kd : Int) (r x : V3) (hr : r.W) (hx : x.W) (f : Nat → Value) (hd : RdOf f kd r x) (w : World) (hN : NavAt w nb mb s) :
    Calls PP 13 #[.pointer (some ⟨nb, 0, none⟩), .int .i64 t, .agg (rdA f)] w fun e w' => e = .returned (.int .i64 (imuE s t kd)) ∧ NavAt w' nb mb (imuN s t kd r x) ∧ Chg nb w w' := by
  go_enter Proofs.Tryz.func13, Proofs.Tryz.ntmps13
  have hA0 : Below w.heap.size w (w.alloc (.cells (rdA f) 50)) := (Below.refl _ w).alloc (Nat.le_refl _) _
  have hN0 := hN.below hA0
  have hi := is_calls nb mb s _ hN0
  have ha := at_calls nb mb s t _ hN0
  have k0 : (w.alloc (.cells (rdA f) 50)).cell? ⟨w.heap.size, 0, none⟩ = some (.int .i64 kd) := (cell_blk (heap_alloc_new w _)).trans ((rdA_get f 0 (by omega)).trans (congrArg some hd.d0))
  by_cases hk : kd = 1
  · subst hk
    by_cases ht : s.now ≤ t ∧ t ≤ 1099511627776
    · have hE : imuE s t 1 = 0 := by unfold imuE; rw [if_pos ⟨rfl, ht⟩]
      rw [hE]
      replace ha := ha.mono (R' := fun e w' => e = .returned (.int .i64 0) ∧ NavAt w' nb mb { s with now := t } ∧ Chg nb (w.alloc (.cells (rdA f) 50)) w') fun e w' h => by
        rcases h with h | h
        · exact absurd ht h.1
        · obtain ⟨_, rfl, rfl⟩ := h
          exact ⟨rfl, setCell_blk hN0, (Chg.refl nb _).setCell 23 _⟩
      have hnw := hN.lt
      obtain ⟨s', hs'⟩ : ∃ s', s' = ({ s with now := t } : NS) := ⟨_, rfl⟩
      have hs1 : s'.ok := by rw [hs']; exact ⟨hs.g0, hs.g1, hs.g2, hs.v0, hs.v1, hs.v2, hs.p0, hs.p1, hs.p2, hs.m, hs.n⟩
      have hst : s'.start = s.start := by rw [hs']
      have hla : s'.last = s.last := by rw [hs']
      have hI : imuN s t 1 r x = if s.start = -1 then { s' with start := t, last := t } else { stepN s' (min (t - s.last) 65535) r x with last := t } := by unfold imuN; rw [if_pos ⟨rfl, ht⟩, hs']
      rw [hI]
      rw [← hs'] at ha
      clear hI hs'
      by_cases h0 : s.start = -1
      · rw [if_pos h0]
        go_wp2_with (first
          | (go_at_call 43; refine hi.mono ?_; clear hi; rintro e w' ⟨rfl, rfl⟩)
          | (go_at_call 44; refine ha.mono ?_; clear ha; rintro e w1 ⟨rfl, hN1, hC1⟩
             have c21 : w1.cell? ⟨nb, 21, none⟩ = some (.int .i64 s'.start) := cell_blk hN1
             have f21 : w1.frozen? ⟨nb, 21, none⟩ = false := frozen_blk hN1 (by simp)
             have c22 : w1.cell? ⟨nb, 22, none⟩ = some (.int .i64 s'.last) := cell_blk hN1
             have f22 : w1.frozen? ⟨nb, 22, none⟩ = false := frozen_blk hN1 (by simp)
             rw [hst, h0] at c21))
        go_ret
        refine ⟨rfl, ?_, (((Chg.of hA0).trans hC1).setCell 21 _).setCell 22 _⟩
        exact setCell_blk (setCell_blk hN1)
      · rw [if_neg h0]
        have hf' := hf.resolve_left h0
        have hmin : (if 65535 < t - s.last then 65535 else t - s.last) = min (t - s.last) 65535 := by omega
        go_wp2_with (first
          | (go_at_call 43; refine hi.mono ?_; clear hi; rintro e w' ⟨rfl, rfl⟩)
          | (go_at_call 44; refine ha.mono ?_; clear ha; rintro e w1 ⟨rfl, hN1, hC1⟩
             have c21 : w1.cell? ⟨nb, 21, none⟩ = some (.int .i64 s'.start) := cell_blk hN1
             have c22 : w1.cell? ⟨nb, 22, none⟩ = some (.int .i64 s'.last) := cell_blk hN1
             rw [hst] at c21
             rw [hla] at c22))
        have hwt : IntKind.wrap .i64 (t - s.last) = t - s.last := by simp [IntKind.wrap, IntKind.signed, IntKind.bits]; omega
        obtain ⟨w0, hw0⟩ : ∃ b, b = w.heap.size := ⟨_, rfl⟩
        have hb1 : w1.heap[w0]? = some (.cells (rdA f) 50 (0, 0)) := (hC1.block _ (by rw [hw0]; simp) (by omega)).trans (hw0 ▸ heap_alloc_new w _)
        have hlt : w0 < w1.heap.size := (Array.getElem?_eq_some_iff.1 hb1).1
        have hmin' : 0 ≤ min (t - s.last) 65535 ∧ min (t - s.last) 65535 ≤ 65535 := by omega
        have hstep := fun W hW => step_calls nb mb s' hs1 (min (t - s.last) 65535) hmin'.1 hmin'.2 (rdA f) r x hr hx ((rdA_get f 1 (by omega)).trans (congrArg some hd.d1)) ((rdA_get f 2 (by omega)).trans (congrArg some hd.d2)) ((rdA_get f 3 (by omega)).trans (congrArg some hd.d3)) ((rdA_get f 4 (by omega)).trans (congrArg some hd.d4)) ((rdA_get f 5 (by omega)).trans (congrArg some hd.d5)) ((rdA_get f 6 (by omega)).trans (congrArg some hd.d6)) W hW
        have hd1 : Below w1.heap.size w1 w1.drew := ⟨rfl, rfl, rfl, Nat.le_refl _, fun _ _ => rfl⟩
        obtain ⟨d43, hu43, hd43⟩ : ∃ d, PP.underlying 50 = some d ∧ d.isRow = true := under_row (by kernel_rfl)
        have hi43 : (PP.info? 50).map (·.size) = some (rdA f).toList.length := by kernel_rfl
        have hS : ∀ w', Below w1.heap.size w1 w' → w'.cell? ⟨nb, 22, none⟩ = some (.int .i64 s.last) ∧ w'.rangeAt w0 0 (rdA f).toList := fun w' hB => ⟨(hB.cell (p := ⟨nb, _, none⟩) hN1.lt).trans c22, fun k v hk => (hB.cell (p := ⟨w0, _, none⟩) hlt).trans ((cell_blk hb1).trans (by simpa using hk))⟩
        rw [← hw0]
        refine wp_region_held_drew (S := fun w' => w'.cell? ⟨nb, 22, none⟩ = some (.int .i64 s.last) ∧ w'.rangeAt w0 0 (rdA f).toList) (by kernel_rfl) (hS _ hd1) (fun hHeld => ?_)
        refine wpAnyH_take (i := 8) (oi := ⟨some 26, .load 50 (.tmp 5), 50, "nav.go:144", #[], none⟩) (v := .agg (rdA f)) rfl (by kernel_rfl) (by kernel_rfl) (by kernel_rfl) (fun _ _ _ h => h) (yieldsIf_load_mid (by rfl) _ _ rfl w0 0 rfl (rdA f).toList d43 (fun w h => h.2) hu43 hd43 hi43) (by assumption) ?_
        simp only [Act.put, List.setIfInBounds_toArray, List.set_cons_zero, List.set_cons_succ]
        refine wpAnyH_take (i := 0) (oi := ⟨some 18, .move (.tmp 0), 29, "nav.go:144", #[], none⟩) (v := ?_) rfl (by kernel_rfl) (by kernel_rfl) (by kernel_rfl) (fun _ _ _ h => h) (Or.inl ⟨by rfl, ?_⟩) (by assumption) ?_
        rotate_left
        · intro w hSw
          try dsimp only at hSw
          go_simp
          try with_reducible rfl
        simp only [Act.put, List.setIfInBounds_toArray, List.set_cons_zero, List.set_cons_succ]
        refine wpAnyH_take (i := 1) (oi := ⟨some 19, .move (.tmp 1), 3, "nav.go:144", #[], none⟩) (v := ?_) rfl (by kernel_rfl) (by kernel_rfl) (by kernel_rfl) (fun _ _ _ h => h) (Or.inl ⟨by rfl, ?_⟩) (by assumption) ?_
        rotate_left
        · intro w hSw
          try dsimp only at hSw
          go_simp
          try with_reducible rfl
        simp only [Act.put, List.setIfInBounds_toArray, List.set_cons_zero, List.set_cons_succ]
        refine wpAnyH_take (i := 2) (oi := ⟨some 20, .move (.tmp 0), 29, "nav.go:144", #[], none⟩) (v := ?_) rfl (by kernel_rfl) (by kernel_rfl) (by kernel_rfl) (fun _ _ _ h => h) (Or.inl ⟨by rfl, ?_⟩) (by assumption) ?_
        rotate_left
        · intro w hSw
          try dsimp only at hSw
          go_simp
          try with_reducible rfl
        simp only [Act.put, List.setIfInBounds_toArray, List.set_cons_zero, List.set_cons_succ]
        refine wpAnyH_take (i := 3) (oi := ⟨some 21, .nilCheck (.tmp 20), 0, "nav.go:144", #[⟨2, .data⟩], none⟩) (v := ?_) rfl (by kernel_rfl) (by kernel_rfl) (by kernel_rfl) (fun _ _ _ h => h) (Or.inl ⟨by rfl, ?_⟩) (by assumption) ?_
        rotate_left
        · intro w hSw
          try dsimp only at hSw
          go_simp
          try with_reducible rfl
        simp only [Act.put, List.setIfInBounds_toArray, List.set_cons_zero, List.set_cons_succ]
        refine wpAnyH_take (i := 4) (oi := ⟨some 22, .fieldAddr 62 (.tmp 21) 7, 0, "nav.go:144", #[⟨3, .data⟩], none⟩) (v := ?_) rfl (by kernel_rfl) (by kernel_rfl) (by kernel_rfl) (fun _ _ _ h => h) (Or.inl ⟨by rfl, ?_⟩) (by assumption) ?_
        rotate_left
        · intro w hSw
          try dsimp only at hSw
          go_simp
          try with_reducible rfl
        simp only [Act.put, List.setIfInBounds_toArray, List.set_cons_zero, List.set_cons_succ]
        refine wpAnyH_take (i := 5) (oi := ⟨some 23, .load 3 (.tmp 22), 3, "nav.go:144", #[⟨4, .data⟩], none⟩) (v := ?_) rfl (by kernel_rfl) (by kernel_rfl) (by kernel_rfl) (fun _ _ _ h => h) (Or.inl ⟨by rfl, ?_⟩) (by assumption) ?_
        rotate_left
        · intro w hSw
          try dsimp only at hSw
          go_simp
          try with_reducible rfl
        simp only [Act.put, List.setIfInBounds_toArray, List.set_cons_zero, List.set_cons_succ]
        refine wpAnyH_take (i := 6) (oi := ⟨some 24, .binOp .sub 3 (.tmp 19) (.tmp 23) 3, 3, "nav.go:144", #[⟨1, .data⟩, ⟨5, .data⟩], none⟩) (v := ?_) rfl (by kernel_rfl) (by kernel_rfl) (by kernel_rfl) (fun _ _ _ h => h) (Or.inl ⟨by rfl, ?_⟩) (by assumption) ?_
        rotate_left
        · intro w hSw
          try dsimp only at hSw
          go_simp
          try with_reducible rfl
        simp only [Act.put, List.setIfInBounds_toArray, List.set_cons_zero, List.set_cons_succ]
        refine wpAnyH_take (i := 7) (oi := ⟨some 25, .call ⟨.builtin .min, #[.tmp 24, .const (.int .i64 65535)], #[3, 3]⟩, 3, "nav.go:144", #[⟨6, .data⟩], none⟩) (v := ?_) rfl (by kernel_rfl) (by kernel_rfl) (by kernel_rfl) (fun _ _ _ h => h) (Or.inl ⟨by rfl, ?_⟩) (by assumption) ?_
        rotate_left
        · intro w hSw
          try dsimp only at hSw
          go_simp
          try with_reducible rfl
        simp only [Act.put, List.setIfInBounds_toArray, List.set_cons_zero, List.set_cons_succ]
        refine wpAnyH_ready (rs := [9]) (by kernel_rfl) (by simp) ?_
        refine AllReadyH.cons (o := ⟨some 27, .call ⟨.value (.func 45), #[.tmp 18, .tmp 25, .tmp 26], #[29, 3, 50]⟩, 0, "nav.go:144", #[⟨0, .data⟩, ⟨7, .data⟩, ⟨8, .data⟩], none⟩) rfl (fun K hK => ?_) ?_
        · go_simp
          go_at_call 45
          refine (hstep _ (hN1.below hd1)).mono ?_
          rintro e w2 ⟨rfl, hN2, hC2⟩
          have hla2 : (stepN s' (min (t - s.last) 65535) r x).last = s.last := hla
          have c22 : w2.cell? ⟨nb, 22, none⟩ = some (.int .i64 s.last) := hla2 ▸ cell_blk hN2
          have f22 : w2.frozen? ⟨nb, 22, none⟩ = false := frozen_blk hN2 (by simp)
          have hb2 : w2.heap[w0]? = some (.cells (rdA f) 50 (0, 0)) := (hC2.block _ hlt (by omega)).trans hb1
          refine hK.out _ _ ⟨c22, fun k v hk => (cell_blk hb2).trans (by simpa using hk)⟩ (fun hHeld => ?_)
          try simp only [Act.put, List.setIfInBounds_toArray, List.set_cons_zero, List.set_cons_succ]
          refine wpAnyH_done (by kernel_rfl) ?_ _
          go_wp2
          go_ret
          have hcw : Chg nb w w2 := ((Chg.of hA0).trans hC1).trans ((Chg.of hd1).trans hC2)
          refine ⟨rfl, ?_, hcw.setCell 22 _⟩
          exact setCell_blk hN2
        · exact AllReadyH.nil
    · have hI : imuN s t 1 r x = s := by unfold imuN; rw [if_neg (fun h => ht h.2)]
      have hE : imuE s t 1 = 2 := by unfold imuE; rw [if_neg (fun h => ht h.2)]
      rw [hI, hE]
      replace ha := ha.mono (R' := fun e w' => e = .returned (.int .i64 2) ∧ w' = _) fun e w' h => by
        rcases h with h | h
        · exact h.2
        · exact absurd h.1 ht
      go_wp2_with (first
        | (go_at_call 43; refine hi.mono ?_; clear hi; rintro e w' ⟨rfl, rfl⟩)
        | (go_at_call 44; refine ha.mono ?_; clear ha; rintro e w' ⟨rfl, rfl⟩))
      go_ret
      exact ⟨rfl, hN0, Chg.of hA0⟩
  · have hI : imuN s t kd r x = s := by unfold imuN; rw [if_neg (fun h => hk h.1)]
    have hE : imuE s t kd = 2 := by unfold imuE; rw [if_neg (fun h => hk h.1)]
    rw [hI, hE]
    go_wp2_with (go_at_call 43; refine hi.mono ?_; clear hi; rintro e w' ⟨rfl, rfl⟩)
    go_ret
    exact ⟨rfl, hN0, Chg.of hA0⟩
end Go.Xv
namespace Go.Xv
open Go.RowKit
/-- a map without entries. -/
def MapE (w : World) (mb : Nat) : Prop := ∃ c, w.heap[mb]? = some (.map #[] c)
theorem MapE.lt {w : World} {mb : Nat} (h : MapE w mb) : mb < w.heap.size := by
  obtain ⟨c, h⟩ := h
  exact (Array.getElem?_eq_some_iff.1 h).1
theorem MapE.chg {nb mb : Nat} {w w' : World} (h : MapE w mb) (hc : Chg nb w w') (hn : mb ≠ nb) : MapE w' mb := by
  have hl := h.lt
  obtain ⟨c, h⟩ := h
  exact ⟨c, (hc.block mb hl hn).trans h⟩
theorem under_map : PP.underlying 60 = some (.map 3 83) := by kernel_rfl
theorem zero_ptrk (w : World) : (zeroValue 83).run PP w = .ok (.pointer none) w := by kernel_rfl
theorem run_chk (b : Bool) (k : Int) (w : World) : (Instr.checkKey b 10000 3 (.int .i64 k)).run PP w = .ok () w := by kernel_rfl
theorem run_find_e (k : Int) (w : World) : (Instr.findKey 3 (.int .i64 k) []).run PP w = .ok none w := by kernel_rfl
theorem run_lookup_e {w : World} {mb : Nat} (h : MapE w mb) (k : Int) : (Instr.lookup 60 (.map (some mb)) (.int .i64 k) false).run PP w = .ok (.pointer none) w := by
  obtain ⟨c, h⟩ := h
  simp only [Instr.lookup, Sem.run_bind, run_underlying under_map, MapKept.run_getObj_map h, run_chk, run_find_e, zero_ptrk, Result.andThen, Sem.run_pure]
  simp [run_find_e, zero_ptrk]
set_option maxRecDepth 100000 in
set_option maxHeartbeats 4000000 in
theorem all_calls_e (nb mb : Nat) (s : NS) (w : World) (hN : NavAt w nb mb s) (hM : MapE w mb) :
    Calls PP 49 #[.pointer (some ⟨nb, 0, none⟩)] w fun e w' => e = .returned (.slice none 0 0) ∧ w' = w := by
  go_enter Proofs.Tryz.func49, Proofs.Tryz.ntmps49
  have c20 : w.cell? ⟨nb, 20, none⟩ = some (.map (some mb)) := cell_blk hN
  have hl := fun k => run_lookup_e hM k
  go_wp2
  go_loopw [3, 6] (fun v i wr => ∃ j : Nat, j ≤ 8 ∧ v = .slice none 0 0 ∧ i = .int .i64 j ∧ wr = w) (fun v i _ => 8 - (intOf i).toNat)
  case atStart => exact ⟨0, by omega, rfl, rfl, rfl⟩
  case round =>
    obtain ⟨j, hj, rfl, rfl, rfl⟩ := hrel
    by_cases hlt : j < 8
    · go_wp2
      exact ⟨⟨j + 1, by omega, by simp⟩, by simp [intOf]; omega⟩
    · obtain rfl : j = 8 := by omega
      go_wp2
      go_ret
      simp
set_option maxRecDepth 100000 in
theorem started_calls (nb mb : Nat) (s : NS) (w : World) (hN : NavAt w nb mb s) :
    Calls PP 54 #[.pointer (some ⟨nb, 0, none⟩)] w fun e w' => e = .returned (.bool (!(s.start == -1))) ∧ w' = w := by
  go_enter Proofs.Tryz.func54, Proofs.Tryz.ntmps54
  have hi := is_calls nb mb s w hN
  have c21 : w.cell? ⟨nb, 21, none⟩ = some (.int .i64 s.start) := cell_blk hN
  go_wp2_with (go_at_call 43; refine hi.mono ?_; clear hi; rintro e w' ⟨rfl, rfl⟩)
  go_ret
  simp [bne]
end Go.Xv
namespace Go.Xv
open Go.RowKit
theorem store_blk8 {W : World} {b : Nat} {ty : TypeId} {x0 x1 x2 x3 x4 x5 x6 x7 y0 y1 y2 y3 y4 y5 y6 y7 : Value} (h : W.heap[b]? = some (.cells #[y0, y1, y2, y3, y4, y5, y6, y7] ty (0, 0))) : ((((((((W.setCell ⟨b, 0, none⟩ x0).setCell ⟨b, 1, none⟩ x1).setCell ⟨b, 2, none⟩ x2).setCell ⟨b, 3, none⟩ x3).setCell ⟨b, 4, none⟩ x4).setCell ⟨b, 5, none⟩ x5).setCell ⟨b, 6, none⟩ x6).setCell ⟨b, 7, none⟩ x7).heap[b]? = some (.cells #[x0, x1, x2, x3, x4, x5, x6, x7] ty (0, 0)) := by
  replace h := setCell_blk (o := 0) (v := x0) h
  simp only [List.setIfInBounds_toArray, List.set_cons_zero, List.set_cons_succ] at h
  replace h := setCell_blk (o := 1) (v := x1) h
  simp only [List.setIfInBounds_toArray, List.set_cons_zero, List.set_cons_succ] at h
  replace h := setCell_blk (o := 2) (v := x2) h
  simp only [List.setIfInBounds_toArray, List.set_cons_zero, List.set_cons_succ] at h
  replace h := setCell_blk (o := 3) (v := x3) h
  simp only [List.setIfInBounds_toArray, List.set_cons_zero, List.set_cons_succ] at h
  replace h := setCell_blk (o := 4) (v := x4) h
  simp only [List.setIfInBounds_toArray, List.set_cons_zero, List.set_cons_succ] at h
  replace h := setCell_blk (o := 5) (v := x5) h
  simp only [List.setIfInBounds_toArray, List.set_cons_zero, List.set_cons_succ] at h
  replace h := setCell_blk (o := 6) (v := x6) h
  simp only [List.setIfInBounds_toArray, List.set_cons_zero, List.set_cons_succ] at h
  replace h := setCell_blk (o := 7) (v := x7) h
  simp only [List.setIfInBounds_toArray, List.set_cons_zero, List.set_cons_succ] at h
  exact h
theorem store_nav8 {W : World} {b nb mb : Nat} {s : NS} {x0 x1 x2 x3 x4 x5 x6 x7 : Value} (h : NavAt W nb mb s) (hb : nb ≠ b) : NavAt ((((((((W.setCell ⟨b, 0, none⟩ x0).setCell ⟨b, 1, none⟩ x1).setCell ⟨b, 2, none⟩ x2).setCell ⟨b, 3, none⟩ x3).setCell ⟨b, 4, none⟩ x4).setCell ⟨b, 5, none⟩ x5).setCell ⟨b, 6, none⟩ x6).setCell ⟨b, 7, none⟩ x7) nb mb s := by
  unfold NavAt at *
  repeat (rw [Below.heap_setCell _ _ _ nb hb])
  exact h
theorem store_chg8 {w W : World} {b nb : Nat} {x0 x1 x2 x3 x4 x5 x6 x7 : Value} (h : Chg nb w W) (hb : w.heap.size ≤ b) : Chg nb w ((((((((W.setCell ⟨b, 0, none⟩ x0).setCell ⟨b, 1, none⟩ x1).setCell ⟨b, 2, none⟩ x2).setCell ⟨b, 3, none⟩ x3).setCell ⟨b, 4, none⟩ x4).setCell ⟨b, 5, none⟩ x5).setCell ⟨b, 6, none⟩ x6).setCell ⟨b, 7, none⟩ x7) := by
  have hh : ∀ {W : World} {o : Nat} {v : Value}, Chg nb w W → Chg nb w (W.setCell ⟨b, o, none⟩ v) := fun h => ⟨h.os, h.tape, h.output, by have := h.size; simpa using this, fun k hk hn => (Below.heap_setCell _ ⟨b, _, none⟩ _ k (fun e => absurd hk (by simp only at e; omega))).trans (h.block k hk hn)⟩
  repeat' (refine hh ?_)
  exact h
set_option maxRecDepth 100000 in
set_option maxHeartbeats 4000000 in
theorem mode_calls_e (nb mb : Nat) (s : NS) (t : Int) (w : World) (hN : NavAt w nb mb s) (hM : MapE w mb) :
    Calls PP 17 #[.pointer (some ⟨nb, 0, none⟩), .int .i64 t] w fun e w' => e = .returned (.int .i64 (if s.start = -1 then 0 else 1)) ∧ Below w.heap.size w w' := by
  go_enter Proofs.Tryz.func17, Proofs.Tryz.ntmps17
  have hst := started_calls nb mb s w hN
  have c21 : w.cell? ⟨nb, 21, none⟩ = some (.int .i64 s.start) := cell_blk hN
  have c20 : w.cell? ⟨nb, 20, none⟩ = some (.map (some mb)) := cell_blk hN
  by_cases h0 : s.start = -1
  · rw [if_pos h0]
    rw [h0] at hst
    go_wp2_with (go_at_call 54; refine hst.mono ?_; clear hst; rintro e w' ⟨rfl, rfl⟩)
    go_ret
    exact ⟨rfl, Below.refl _ _⟩
  · rw [if_neg h0]
    have hb : (s.start == -1) = false := by simpa using h0
    rw [hb] at hst
    have hlt := hM.lt
    obtain ⟨c, hM⟩ := hM
    have hrg := run_range_map (P := PP) w 60 3 83 mb #[] c under_map hM
    go_wp2_with (go_at_call 54; refine hst.mono ?_; clear hst; rintro e w' ⟨rfl, hw⟩; obtain rfl := hw.symm)
    all_goals
      have hB : Below w.heap.size w (w.alloc (.mapIter (some mb) c #[] c)) := (Below.refl _ w).alloc (Nat.le_refl _) _
      have hnx := (run_next_at (P := PP) (w.alloc (.mapIter (some mb) c #[] c)) 0 w.heap.size mb c c #[] #[] c (heap_alloc_new w _) ((hB.block _ hlt).trans hM) (by simp) (Nat.le_refl _)).resolve_right (by rintro ⟨e, he, _⟩; simp [leftOf] at he)
      obtain ⟨_, hnx⟩ := hnx
      generalize hw1 : w.alloc (.mapIter (some mb) c #[] c) = w1 at *
      go_loopw [21] (fun _ wr => wr = w1) (fun _ _ => 0)
      case atStart => rfl
      case round =>
        obtain rfl := hrel
        go_wp2
        go_ret
        exact ⟨rfl, hB⟩
end Go.Xv
namespace Go.Xv
open Go.RowKit
theorem res_cell {fn : Func} {p : Tmp} {ty : TypeId} (h : fn.results = #[.cell p ty]) (tmps : Array Value) (w : World) (g : Nat) (t : TypeId) (cs : Array Value) (fr : Nat × Nat)
    (hp : tmps.getD p undef = .pointer (some ⟨g, 0, none⟩)) (hg : w.heap[g]? = some (.cells cs t fr)) (hr : ∃ d, PP.underlying ty = some d ∧ d.isRow = true) (hi : (PP.info? ty).map (·.size) = some cs.size) :
    (results fn tmps).run PP w = .ok (.agg cs) w := by
  obtain ⟨d, hu, hd⟩ := hr
  exact results_cell_row h tmps w g t cs fr d hp hg hu (by cases d <;> first | rfl | exact hd) hi
abbrev NS.sp (s : NS) : NS := { s with cut := s.cut || clipC (spZ s) }
abbrev outC (s : NS) : Array Value := #[.int .i64 s.p0, .int .i64 s.p1, .int .i64 s.p2, .int .i64 s.v0, .int .i64 s.v1, .int .i64 s.v2, .int .u32 (angle s.a.m.a3 s.a.m.a0), .int .i64 (clipV (spZ s))]
set_option maxRecDepth 100000 in
set_option maxHeartbeats 8000000 in
theorem out_calls_e (nb mb : Nat) (s : NS) (hs : s.ok) (w : World) (hN : NavAt w nb mb s) (hM : MapE w mb) (hnm : mb ≠ nb) :
    Calls PP 16 #[.pointer (some ⟨nb, 0, none⟩)] w fun e w' => e = .returned (.agg (outC s)) ∧ NavAt w' nb mb s.sp ∧ Chg nb w w' := by
  go_enter Proofs.Tryz.func16, Proofs.Tryz.ntmps16
  have hA0 : Below w.heap.size w (w.alloc (.cells #[.int .i64 0, .int .i64 0, .int .i64 0, .int .i64 0, .int .i64 0, .int .i64 0, .int .u32 0, .int .i64 0] 69)) := (Below.refl _ w).alloc (Nat.le_refl _) _
  have hb0 : (w.alloc (.cells #[.int .i64 0, .int .i64 0, .int .i64 0, .int .i64 0, .int .i64 0, .int .i64 0, .int .u32 0, .int .i64 0] 69)).heap[w.heap.size]? = some (.cells #[.int .i64 0, .int .i64 0, .int .i64 0, .int .i64 0, .int .i64 0, .int .i64 0, .int .u32 0, .int .i64 0] 69 (0, 0)) := heap_alloc_new w _
  have hnw := hN.lt
  have hN0 := hN.below hA0
  have hM0 := hM.chg (Chg.of hA0 : Chg nb _ _) hnm
  have hi := is_calls nb mb s _ hN0
  go_wp2_with (go_at_call 43; refine hi.mono ?_; clear hi; rintro e w' ⟨rfl, hw⟩; obtain rfl := hw.symm)
  generalize w.alloc (.cells #[.int .i64 0, .int .i64 0, .int .i64 0, .int .i64 0, .int .i64 0, .int .i64 0, .int .u32 0, .int .i64 0] 69) = w0 at *
  have hnw0 : nb < w0.heap.size := hN0.lt
  have hne0 : nb ≠ w0.heap.size := by omega
  have hd : Below w0.heap.size w0 w0.drew := ⟨rfl, rfl, rfl, Nat.le_refl _, fun _ _ => rfl⟩
  have hA : ∀ o, Below w0.heap.size w0 (w0.alloc o).drew := fun o => hd.alloc (Nat.le_refl _) o
  have hS : ∀ w', Below w0.heap.size w0 w' → w'.cell? ⟨nb, 3, none⟩ = some (.int .i64 s.v0) ∧ w'.cell? ⟨nb, 4, none⟩ = some (.int .i64 s.v1) ∧ w'.cell? ⟨nb, 5, none⟩ = some (.int .i64 s.v2) ∧ w'.cell? ⟨nb, 6, none⟩ = some (.int .i64 s.p0) ∧ w'.cell? ⟨nb, 7, none⟩ = some (.int .i64 s.p1) ∧ w'.cell? ⟨nb, 8, none⟩ = some (.int .i64 s.p2) ∧ w'.cell? ⟨nb, 10, none⟩ = some (.int .i64 s.a.m.a0) ∧ w'.cell? ⟨nb, 11, none⟩ = some (.int .i64 s.a.m.a1) ∧ w'.cell? ⟨nb, 12, none⟩ = some (.int .i64 s.a.m.a2) ∧ w'.cell? ⟨nb, 13, none⟩ = some (.int .i64 s.a.m.a3) ∧ w'.cell? ⟨nb, 14, none⟩ = some (.int .i64 s.a.m.a4) ∧ w'.cell? ⟨nb, 15, none⟩ = some (.int .i64 s.a.m.a5) ∧ w'.cell? ⟨nb, 16, none⟩ = some (.int .i64 s.a.m.a6) ∧ w'.cell? ⟨nb, 17, none⟩ = some (.int .i64 s.a.m.a7) ∧ w'.cell? ⟨nb, 18, none⟩ = some (.int .i64 s.a.m.a8) ∧ w'.cell? ⟨nb, 19, none⟩ = some (.int .i64 s.a.n) := fun w' hB => ⟨(hB.cell (p := ⟨nb, _, none⟩) hN0.lt).trans (cell_blk hN0), (hB.cell (p := ⟨nb, _, none⟩) hN0.lt).trans (cell_blk hN0), (hB.cell (p := ⟨nb, _, none⟩) hN0.lt).trans (cell_blk hN0), (hB.cell (p := ⟨nb, _, none⟩) hN0.lt).trans (cell_blk hN0), (hB.cell (p := ⟨nb, _, none⟩) hN0.lt).trans (cell_blk hN0), (hB.cell (p := ⟨nb, _, none⟩) hN0.lt).trans (cell_blk hN0), (hB.cell (p := ⟨nb, _, none⟩) hN0.lt).trans (cell_blk hN0), (hB.cell (p := ⟨nb, _, none⟩) hN0.lt).trans (cell_blk hN0), (hB.cell (p := ⟨nb, _, none⟩) hN0.lt).trans (cell_blk hN0), (hB.cell (p := ⟨nb, _, none⟩) hN0.lt).trans (cell_blk hN0), (hB.cell (p := ⟨nb, _, none⟩) hN0.lt).trans (cell_blk hN0), (hB.cell (p := ⟨nb, _, none⟩) hN0.lt).trans (cell_blk hN0), (hB.cell (p := ⟨nb, _, none⟩) hN0.lt).trans (cell_blk hN0), (hB.cell (p := ⟨nb, _, none⟩) hN0.lt).trans (cell_blk hN0), (hB.cell (p := ⟨nb, _, none⟩) hN0.lt).trans (cell_blk hN0), (hB.cell (p := ⟨nb, _, none⟩) hN0.lt).trans (cell_blk hN0)⟩
  have hT : ∀ w', NavAt w' nb mb s.sp → w'.cell? ⟨nb, 3, none⟩ = some (.int .i64 s.v0) ∧ w'.cell? ⟨nb, 4, none⟩ = some (.int .i64 s.v1) ∧ w'.cell? ⟨nb, 5, none⟩ = some (.int .i64 s.v2) ∧ w'.cell? ⟨nb, 6, none⟩ = some (.int .i64 s.p0) ∧ w'.cell? ⟨nb, 7, none⟩ = some (.int .i64 s.p1) ∧ w'.cell? ⟨nb, 8, none⟩ = some (.int .i64 s.p2) ∧ w'.cell? ⟨nb, 10, none⟩ = some (.int .i64 s.a.m.a0) ∧ w'.cell? ⟨nb, 11, none⟩ = some (.int .i64 s.a.m.a1) ∧ w'.cell? ⟨nb, 12, none⟩ = some (.int .i64 s.a.m.a2) ∧ w'.cell? ⟨nb, 13, none⟩ = some (.int .i64 s.a.m.a3) ∧ w'.cell? ⟨nb, 14, none⟩ = some (.int .i64 s.a.m.a4) ∧ w'.cell? ⟨nb, 15, none⟩ = some (.int .i64 s.a.m.a5) ∧ w'.cell? ⟨nb, 16, none⟩ = some (.int .i64 s.a.m.a6) ∧ w'.cell? ⟨nb, 17, none⟩ = some (.int .i64 s.a.m.a7) ∧ w'.cell? ⟨nb, 18, none⟩ = some (.int .i64 s.a.m.a8) ∧ w'.cell? ⟨nb, 19, none⟩ = some (.int .i64 s.a.n) := fun w' hB => ⟨cell_blk hB, cell_blk hB, cell_blk hB, cell_blk hB, cell_blk hB, cell_blk hB, cell_blk hB, cell_blk hB, cell_blk hB, cell_blk hB, cell_blk hB, cell_blk hB, cell_blk hB, cell_blk hB, cell_blk hB, cell_blk hB⟩
  have hh := fun W (hW : Below w0.heap.size w0 W) => (heading_calls hs.m (a := s.a) W).mono fun e w' (h : _ ∧ _) => (⟨h.1, hW.trans (h.2.mono hW.size), h.2⟩ : _ ∧ Below w0.heap.size w0 w' ∧ Below W.heap.size W w')
  have hsp := fun W (hW : NavAt W nb mb s) => speed_calls nb mb s hs W hW
  go_cut [3] (fun v w' => ∃ l, v = .pointer (some ⟨l, 0, none⟩) ∧ w'.heap[l]? = some (.cells (outC s) 69 (0, 0)) ∧ nb ≠ l ∧ w0.heap.size ≤ l ∧ NavAt w' nb mb s.sp ∧ Chg nb w0 w')
  case first =>
    go_region_held3 (fun w' => w'.cell? ⟨nb, 3, none⟩ = some (.int .i64 s.v0) ∧ w'.cell? ⟨nb, 4, none⟩ = some (.int .i64 s.v1) ∧ w'.cell? ⟨nb, 5, none⟩ = some (.int .i64 s.v2) ∧ w'.cell? ⟨nb, 6, none⟩ = some (.int .i64 s.p0) ∧ w'.cell? ⟨nb, 7, none⟩ = some (.int .i64 s.p1) ∧ w'.cell? ⟨nb, 8, none⟩ = some (.int .i64 s.p2) ∧ w'.cell? ⟨nb, 10, none⟩ = some (.int .i64 s.a.m.a0) ∧ w'.cell? ⟨nb, 11, none⟩ = some (.int .i64 s.a.m.a1) ∧ w'.cell? ⟨nb, 12, none⟩ = some (.int .i64 s.a.m.a2) ∧ w'.cell? ⟨nb, 13, none⟩ = some (.int .i64 s.a.m.a3) ∧ w'.cell? ⟨nb, 14, none⟩ = some (.int .i64 s.a.m.a4) ∧ w'.cell? ⟨nb, 15, none⟩ = some (.int .i64 s.a.m.a5) ∧ w'.cell? ⟨nb, 16, none⟩ = some (.int .i64 s.a.m.a6) ∧ w'.cell? ⟨nb, 17, none⟩ = some (.int .i64 s.a.m.a7) ∧ w'.cell? ⟨nb, 18, none⟩ = some (.int .i64 s.a.m.a8) ∧ w'.cell? ⟨nb, 19, none⟩ = some (.int .i64 s.a.n))
      (first | (with_reducible exact hS _ hd) | (with_reducible exact hS _ hBh') | (with_reducible exact hS _ (hA _)) | (with_reducible exact hS _ (hBh'.alloc hBh'.size _)) | (with_reducible exact hT _ hNs) | (with_reducible exact hT _ (hNs.below ((Below.refl _ ws).alloc (Nat.le_refl _) _))) | (with_reducible exact hT _ (store_nav8 hNs hne0)) | (with_reducible exact hT _ (store_nav8 hNs hne1)))
      (first
        | (go_at_call 39
           refine (hh _ (by with_reducible exact hd)).mono ?_
           rintro e wh ⟨rfl, hBh', hBh⟩)
        | (go_at_call 39
           refine (hh _ (by with_reducible exact hA _)).mono ?_
           rintro e wh ⟨rfl, hBh', hBh⟩
           have hz : wh.heap[w0.heap.size]? = some (.cells #[.int .i64 0, .int .i64 0, .int .i64 0, .int .i64 0, .int .i64 0, .int .i64 0, .int .u32 0, .int .i64 0] 69 (0, 0)) := (hBh.block _ (by simp)).trans (heap_alloc_new w0 _))
        | (go_at_call 41
           refine (hsp wh (hN0.below hBh')).mono ?_
           rintro e ws ⟨rfl, hNs, hCs⟩
           have hzs : ws.heap[w0.heap.size]? = some (.cells #[.int .i64 0, .int .i64 0, .int .i64 0, .int .i64 0, .int .i64 0, .int .i64 0, .int .u32 0, .int .i64 0] 69 (0, 0)) := (hCs.block _ (Array.getElem?_eq_some_iff.1 hz).1 (by omega)).trans hz
           have z0 : ws.cell? ⟨w0.heap.size, 0, none⟩ = some (.int .i64 0) := cell_blk hzs
           have y0 : ws.frozen? ⟨w0.heap.size, 0, none⟩ = false := frozen_blk hzs (by simp)
           have z1 : ws.cell? ⟨w0.heap.size, 1, none⟩ = some (.int .i64 0) := cell_blk hzs
           have y1 : ws.frozen? ⟨w0.heap.size, 1, none⟩ = false := frozen_blk hzs (by simp)
           have z2 : ws.cell? ⟨w0.heap.size, 2, none⟩ = some (.int .i64 0) := cell_blk hzs
           have y2 : ws.frozen? ⟨w0.heap.size, 2, none⟩ = false := frozen_blk hzs (by simp)
           have z3 : ws.cell? ⟨w0.heap.size, 3, none⟩ = some (.int .i64 0) := cell_blk hzs
           have y3 : ws.frozen? ⟨w0.heap.size, 3, none⟩ = false := frozen_blk hzs (by simp)
           have z4 : ws.cell? ⟨w0.heap.size, 4, none⟩ = some (.int .i64 0) := cell_blk hzs
           have y4 : ws.frozen? ⟨w0.heap.size, 4, none⟩ = false := frozen_blk hzs (by simp)
           have z5 : ws.cell? ⟨w0.heap.size, 5, none⟩ = some (.int .i64 0) := cell_blk hzs
           have y5 : ws.frozen? ⟨w0.heap.size, 5, none⟩ = false := frozen_blk hzs (by simp)
           have z6 : ws.cell? ⟨w0.heap.size, 6, none⟩ = some (.int .u32 0) := cell_blk hzs
           have y6 : ws.frozen? ⟨w0.heap.size, 6, none⟩ = false := frozen_blk hzs (by simp)
           have z7 : ws.cell? ⟨w0.heap.size, 7, none⟩ = some (.int .i64 0) := cell_blk hzs
           have y7 : ws.frozen? ⟨w0.heap.size, 7, none⟩ = false := frozen_blk hzs (by simp))
        | (go_at_call 41
           refine (hsp wh (hN0.below hBh')).mono ?_
           rintro e ws ⟨rfl, hNs, hCs⟩)
        | (go_at_call 41
           refine (hsp _ ((hN0.below hBh').below ((Below.refl _ wh).alloc (Nat.le_refl _) (.cells #[.int .i64 0, .int .i64 0, .int .i64 0, .int .i64 0, .int .i64 0, .int .i64 0, .int .u32 0, .int .i64 0] 69)))).mono ?_
           rintro e ws ⟨rfl, hNs, hCs⟩
           have hne1 : nb ≠ wh.heap.size := by have := hBh'.size; omega
           have hzs : ws.heap[wh.heap.size]? = some (.cells #[.int .i64 0, .int .i64 0, .int .i64 0, .int .i64 0, .int .i64 0, .int .i64 0, .int .u32 0, .int .i64 0] 69 (0, 0)) := (hCs.block _ (by simp) (by have := hBh'.size; omega)).trans (heap_alloc_new wh _)
           have z0 : ws.cell? ⟨wh.heap.size, 0, none⟩ = some (.int .i64 0) := cell_blk hzs
           have y0 : ws.frozen? ⟨wh.heap.size, 0, none⟩ = false := frozen_blk hzs (by simp)
           have z1 : ws.cell? ⟨wh.heap.size, 1, none⟩ = some (.int .i64 0) := cell_blk hzs
           have y1 : ws.frozen? ⟨wh.heap.size, 1, none⟩ = false := frozen_blk hzs (by simp)
           have z2 : ws.cell? ⟨wh.heap.size, 2, none⟩ = some (.int .i64 0) := cell_blk hzs
           have y2 : ws.frozen? ⟨wh.heap.size, 2, none⟩ = false := frozen_blk hzs (by simp)
           have z3 : ws.cell? ⟨wh.heap.size, 3, none⟩ = some (.int .i64 0) := cell_blk hzs
           have y3 : ws.frozen? ⟨wh.heap.size, 3, none⟩ = false := frozen_blk hzs (by simp)
           have z4 : ws.cell? ⟨wh.heap.size, 4, none⟩ = some (.int .i64 0) := cell_blk hzs
           have y4 : ws.frozen? ⟨wh.heap.size, 4, none⟩ = false := frozen_blk hzs (by simp)
           have z5 : ws.cell? ⟨wh.heap.size, 5, none⟩ = some (.int .i64 0) := cell_blk hzs
           have y5 : ws.frozen? ⟨wh.heap.size, 5, none⟩ = false := frozen_blk hzs (by simp)
           have z6 : ws.cell? ⟨wh.heap.size, 6, none⟩ = some (.int .u32 0) := cell_blk hzs
           have y6 : ws.frozen? ⟨wh.heap.size, 6, none⟩ = false := frozen_blk hzs (by simp)
           have z7 : ws.cell? ⟨wh.heap.size, 7, none⟩ = some (.int .i64 0) := cell_blk hzs
           have y7 : ws.frozen? ⟨wh.heap.size, 7, none⟩ = false := frozen_blk hzs (by simp)))
    all_goals
      go_wp2
      go_meet
      case rel =>
        first
          | (have hg := hne1; refine ⟨wh.heap.size, rfl, store_blk8 hzs, hne1, hBh'.size, store_nav8 hNs hne1, store_chg8 (((Chg.of hBh').alloc _).trans hCs) hBh'.size⟩; done)
          | (have hg := hzs; refine ⟨w0.heap.size, rfl, store_blk8 hzs, hne0, Nat.le_refl _, store_nav8 hNs hne0, store_chg8 ((Chg.of hBh').trans hCs) (Nat.le_refl _)⟩; done)
          | (refine ⟨ws.heap.size, rfl, heap_alloc_new ws _, ?_, Nat.le_trans hBh'.size hCs.size, hNs.below ((Below.refl _ ws).alloc (Nat.le_refl _) _), ((Chg.of hBh').trans hCs).alloc _⟩
             have := hNs.lt
             omega)
  case rest =>
    obtain ⟨l, rfl, hl, hnl, hls, hNc, hCc⟩ := hcut
    have hMc : MapE wc mb := hM0.chg hCc hnm
    obtain ⟨b0, hb0e⟩ : ∃ x, x = w.heap.size := ⟨_, rfl⟩
    have hb0le : w.heap.size ≤ b0 := Nat.le_of_eq hb0e.symm
    have hnb0 : nb ≠ b0 := by omega
    have hb0c : wc.heap[b0]? = some (.cells #[.int .i64 0, .int .i64 0, .int .i64 0, .int .i64 0, .int .i64 0, .int .i64 0, .int .u32 0, .int .i64 0] 69 (0, 0)) := by rw [hb0e]; exact (hCc.block _ (Array.getElem?_eq_some_iff.1 hb0).1 (by omega)).trans hb0
    have hal := all_calls_e nb mb s.sp wc hNc hMc
    have hcw : Chg nb w wc := (Chg.of hA0).trans hCc
    have c0 : wc.cell? ⟨l, 0, none⟩ = some (.int .i64 s.p0) := cell_blk hl
    have z0 : wc.cell? ⟨b0, 0, none⟩ = some (.int .i64 0) := cell_blk hb0c
    have y0 : wc.frozen? ⟨b0, 0, none⟩ = false := frozen_blk hb0c (by simp)
    have c1 : wc.cell? ⟨l, 1, none⟩ = some (.int .i64 s.p1) := cell_blk hl
    have z1 : wc.cell? ⟨b0, 1, none⟩ = some (.int .i64 0) := cell_blk hb0c
    have y1 : wc.frozen? ⟨b0, 1, none⟩ = false := frozen_blk hb0c (by simp)
    have c2 : wc.cell? ⟨l, 2, none⟩ = some (.int .i64 s.p2) := cell_blk hl
    have z2 : wc.cell? ⟨b0, 2, none⟩ = some (.int .i64 0) := cell_blk hb0c
    have y2 : wc.frozen? ⟨b0, 2, none⟩ = false := frozen_blk hb0c (by simp)
    have c3 : wc.cell? ⟨l, 3, none⟩ = some (.int .i64 s.v0) := cell_blk hl
    have z3 : wc.cell? ⟨b0, 3, none⟩ = some (.int .i64 0) := cell_blk hb0c
    have y3 : wc.frozen? ⟨b0, 3, none⟩ = false := frozen_blk hb0c (by simp)
    have c4 : wc.cell? ⟨l, 4, none⟩ = some (.int .i64 s.v1) := cell_blk hl
    have z4 : wc.cell? ⟨b0, 4, none⟩ = some (.int .i64 0) := cell_blk hb0c
    have y4 : wc.frozen? ⟨b0, 4, none⟩ = false := frozen_blk hb0c (by simp)
    have c5 : wc.cell? ⟨l, 5, none⟩ = some (.int .i64 s.v2) := cell_blk hl
    have z5 : wc.cell? ⟨b0, 5, none⟩ = some (.int .i64 0) := cell_blk hb0c
    have y5 : wc.frozen? ⟨b0, 5, none⟩ = false := frozen_blk hb0c (by simp)
    have c6 : wc.cell? ⟨l, 6, none⟩ = some (.int .u32 (angle s.a.m.a3 s.a.m.a0)) := cell_blk hl
    have z6 : wc.cell? ⟨b0, 6, none⟩ = some (.int .u32 0) := cell_blk hb0c
    have y6 : wc.frozen? ⟨b0, 6, none⟩ = false := frozen_blk hb0c (by simp)
    have c7 : wc.cell? ⟨l, 7, none⟩ = some (.int .i64 (clipV (spZ s))) := cell_blk hl
    have z7 : wc.cell? ⟨b0, 7, none⟩ = some (.int .i64 0) := cell_blk hb0c
    have y7 : wc.frozen? ⟨b0, 7, none⟩ = false := frozen_blk hb0c (by simp)
    rw [← hb0e]
    clear hb0e
    clear hS hT hh hsp hA
    go_wp2_with (go_at_call 49; refine hal.mono ?_; clear hal; rintro e w' ⟨rfl, hw⟩; obtain rfl := hw.symm)
    go_loopw [32] (fun v wr => v = .int .i64 0 ∧ wr = wc) (fun _ _ => 0)
    case atStart => exact ⟨rfl, rfl⟩
    case round =>
      obtain ⟨rfl, rfl⟩ := hrel
      go_wp2
      have hfin : ((((((((wr.setCell ⟨b0, 0, none⟩ (.int .i64 s.p0)).setCell ⟨b0, 1, none⟩ (.int .i64 s.p1)).setCell ⟨b0, 2, none⟩ (.int .i64 s.p2)).setCell ⟨b0, 3, none⟩ (.int .i64 s.v0)).setCell ⟨b0, 4, none⟩ (.int .i64 s.v1)).setCell ⟨b0, 5, none⟩ (.int .i64 s.v2)).setCell ⟨b0, 6, none⟩ (.int .u32 (angle s.a.m.a3 s.a.m.a0))).setCell ⟨b0, 7, none⟩ (.int .i64 (clipV (spZ s)))).heap[b0]? = some (.cells (outC s) 69 (0, 0)) := store_blk8 hb0c
      have hnf : NavAt ((((((((wr.setCell ⟨b0, 0, none⟩ (.int .i64 s.p0)).setCell ⟨b0, 1, none⟩ (.int .i64 s.p1)).setCell ⟨b0, 2, none⟩ (.int .i64 s.p2)).setCell ⟨b0, 3, none⟩ (.int .i64 s.v0)).setCell ⟨b0, 4, none⟩ (.int .i64 s.v1)).setCell ⟨b0, 5, none⟩ (.int .i64 s.v2)).setCell ⟨b0, 6, none⟩ (.int .u32 (angle s.a.m.a3 s.a.m.a0))).setCell ⟨b0, 7, none⟩ (.int .i64 (clipV (spZ s)))) nb mb s.sp := store_nav8 hNc hnb0
      have hcf : Chg nb w ((((((((wr.setCell ⟨b0, 0, none⟩ (.int .i64 s.p0)).setCell ⟨b0, 1, none⟩ (.int .i64 s.p1)).setCell ⟨b0, 2, none⟩ (.int .i64 s.p2)).setCell ⟨b0, 3, none⟩ (.int .i64 s.v0)).setCell ⟨b0, 4, none⟩ (.int .i64 s.v1)).setCell ⟨b0, 5, none⟩ (.int .i64 s.v2)).setCell ⟨b0, 6, none⟩ (.int .u32 (angle s.a.m.a3 s.a.m.a0))).setCell ⟨b0, 7, none⟩ (.int .i64 (clipV (spZ s)))) := store_chg8 hcw hb0le
      generalize ((((((((wr.setCell ⟨b0, 0, none⟩ (.int .i64 s.p0)).setCell ⟨b0, 1, none⟩ (.int .i64 s.p1)).setCell ⟨b0, 2, none⟩ (.int .i64 s.p2)).setCell ⟨b0, 3, none⟩ (.int .i64 s.v0)).setCell ⟨b0, 4, none⟩ (.int .i64 s.v1)).setCell ⟨b0, 5, none⟩ (.int .i64 s.v2)).setCell ⟨b0, 6, none⟩ (.int .u32 (angle s.a.m.a3 s.a.m.a0))).setCell ⟨b0, 7, none⟩ (.int .i64 (clipV (spZ s)))) = W at *
      try simp only [Exit.inBlock, Exit.then]
      refine bodyPost_ret (res_cell rfl _ _ b0 69 (outC s) (0, 0) rfl hfin (under_row (by kernel_rfl)) (by kernel_rfl)) rfl ?_
      exact ⟨rfl, hnf, hcf⟩
end Go.Xv
namespace Go.Xv
open Go.RowKit
def newN (g : V3) (d : Int) : NS := ⟨g.x, g.y, g.z, 0, 0, 0, 0, 0, 0, d, newA, -1, 0, 0, false⟩
set_option maxRecDepth 100000 in
set_option maxHeartbeats 8000000 in
theorem new_calls_e (g : V3) (d : Int) (hd : 0 ≤ d) (w : World) :
    Calls PP 5 #[.agg #[.int .i64 g.x, .int .i64 g.y, .int .i64 g.z, .int .i64 d, .slice none 0 0]] w fun e w' => ∃ nb mb, e = .returned (.tuple #[.pointer (some ⟨nb, 0, none⟩), .int .i64 0]) ∧ NavAt w' nb mb (newN g d) ∧ MapE w' mb ∧ mb ≠ nb ∧ w.heap.size ≤ nb ∧ Below w.heap.size w w' := by
  go_enter Proofs.Tryz.func5, Proofs.Tryz.ntmps5
  have hA0 : Below w.heap.size w (w.alloc (.cells #[.int .i64 g.x, .int .i64 g.y, .int .i64 g.z, .int .i64 d, .slice none 0 0] 27)) := (Below.refl _ w).alloc (Nat.le_refl _) _
  have hb0 : (w.alloc (.cells #[.int .i64 g.x, .int .i64 g.y, .int .i64 g.z, .int .i64 d, .slice none 0 0] 27)).heap[w.heap.size]? = some (.cells #[.int .i64 g.x, .int .i64 g.y, .int .i64 g.z, .int .i64 d, .slice none 0 0] 27 (0, 0)) := heap_alloc_new w _
  have hd' : ¬ d < 0 := by omega
  go_wp2
  generalize w.alloc (.cells #[.int .i64 g.x, .int .i64 g.y, .int .i64 g.z, .int .i64 d, .slice none 0 0] 27) = w0 at *
  have hw0 : Below w0.heap.size w0 w0.drew := ⟨rfl, rfl, rfl, Nat.le_refl _, fun _ _ => rfl⟩
  have hA : ∀ o, Below w0.heap.size w0 (w0.alloc o).drew := fun o => hw0.alloc (Nat.le_refl _) o
  have hlt : w.heap.size < w0.heap.size := (Array.getElem?_eq_some_iff.1 hb0).1
  have hS : ∀ w', Below w0.heap.size w0 w' → w'.cell? ⟨w.heap.size, 0, none⟩ = some (.int .i64 g.x) ∧ w'.cell? ⟨w.heap.size, 1, none⟩ = some (.int .i64 g.y) ∧ w'.cell? ⟨w.heap.size, 2, none⟩ = some (.int .i64 g.z) ∧ w'.cell? ⟨w.heap.size, 3, none⟩ = some (.int .i64 d) := fun w' hB => ⟨(hB.cell (p := ⟨w.heap.size, _, none⟩) hlt).trans (cell_blk hb0), (hB.cell (p := ⟨w.heap.size, _, none⟩) hlt).trans (cell_blk hb0), (hB.cell (p := ⟨w.heap.size, _, none⟩) hlt).trans (cell_blk hb0), (hB.cell (p := ⟨w.heap.size, _, none⟩) hlt).trans (cell_blk hb0)⟩
  have hh := fun W (hW : Below w0.heap.size w0 W) => (anew_calls W).mono fun e w' (h : _ ∧ _) => (⟨h.1, hW.trans (h.2.mono hW.size), h.2⟩ : _ ∧ Below w0.heap.size w0 w' ∧ Below W.heap.size W w')
  have hmm := @run_makeMap PP
  go_cut [4] (fun v w' => ∃ nb mb, v = .pointer (some ⟨nb, 0, none⟩) ∧ NavAt w' nb mb (newN g d) ∧ MapE w' mb ∧ mb ≠ nb ∧ w0.heap.size ≤ nb ∧ Below w0.heap.size w0 w')
  case first =>
    go_region_held3 (fun w' => w'.cell? ⟨w.heap.size, 0, none⟩ = some (.int .i64 g.x) ∧ w'.cell? ⟨w.heap.size, 1, none⟩ = some (.int .i64 g.y) ∧ w'.cell? ⟨w.heap.size, 2, none⟩ = some (.int .i64 g.z) ∧ w'.cell? ⟨w.heap.size, 3, none⟩ = some (.int .i64 d))
      (first | (with_reducible exact hS _ hw0) | (with_reducible exact hS _ hBh') | (with_reducible exact hS _ (hA _)) | (with_reducible exact hS _ (hBh'.alloc hBh'.size _)) | (with_reducible exact hS _ ((hBh'.alloc hBh'.size _).alloc (Nat.le_trans hBh'.size (by simp)) _)))
      (first
        | (go_at_call 22
           refine (hh _ (by with_reducible exact hw0)).mono ?_
           rintro e wh ⟨rfl, hBh', hBh⟩)
        | (go_at_call 22
           refine (hh _ (by with_reducible exact hA _)).mono ?_
           rintro e wh ⟨rfl, hBh', hBh⟩
           have hz : wh.heap[w0.heap.size]? = some (.map #[] 0) := (hBh.block _ (by simp)).trans (heap_alloc_new w0 _)))
    all_goals
      go_wp2
      go_meet
      case rel =>
        first
          | (have hlz := (Array.getElem?_eq_some_iff.1 hz).1
             refine ⟨wh.heap.size, w0.heap.size, rfl, heap_alloc_new wh _, ⟨0, (heap_alloc_old wh _ hlz).trans hz⟩, by omega, by omega, hBh'.alloc hBh'.size _⟩)
          | (have hsz := hBh'.size
             have hsz1 : w0.heap.size ≤ (wh.alloc (.map #[] 0)).heap.size := Nat.le_trans hsz (by simp)
             refine ⟨_, wh.heap.size, rfl, heap_alloc2_new wh _ _, ⟨0, (heap_alloc_old _ _ (by simp)).trans (heap_alloc_new wh _)⟩, by omega, by omega, (hBh'.alloc hsz _).alloc hsz1 _⟩)
  case rest =>
    obtain ⟨nb, mb, rfl, hNc, hMc, hne, hle, hB⟩ := hcut
    have c4 : wc.cell? ⟨w.heap.size, 4, none⟩ = some (.slice none 0 0) := (hB.cell (p := ⟨w.heap.size, _, none⟩) hlt).trans (cell_blk hb0)
    have hBw : Below w.heap.size w wc := hA0.trans (hB.mono hA0.size)
    have hnb : w.heap.size ≤ nb := by omega
    clear hS hh hmm hA
    go_wp2
    go_loopw [28] (fun v wr => v = .int .i64 0 ∧ wr = wc) (fun _ _ => 0)
    case atStart => exact ⟨rfl, rfl⟩
    case round =>
      obtain ⟨rfl, rfl⟩ := hrel
      go_wp2
      go_ret2
      exact ⟨nb, mb, rfl, hNc, hMc, hne, hnb, hBw⟩
end Go.Xv
namespace Go.Xv
open Go.RowKit
/-- at rest: nothing has been moved. -/
structure Rest (g : V3) (s : NS) : Prop where
  g0 : s.g0 = wid g.x
  g1 : s.g1 = wid g.y
  g2 : s.g2 = wid g.z
  v0 : s.v0 = 0
  v1 : s.v1 = 0
  v2 : s.v2 = 0
  p0 : s.p0 = 0
  p1 : s.p1 = 0
  p2 : s.p2 = 0
  m : s.a.m = sameM
  n : 0 ≤ s.a.n ∧ s.a.n ≤ 15
  cut : s.cut = false
theorem Rest.ok {g : V3} (hg : g.W) {s : NS} (h : Rest g s) : s.ok := by
  have z : I64 0 := by unfold I64; omega
  have hM : MI sameM := by unfold MI I64 sameM; decide
  refine ⟨?_, ?_, ?_, ?_, ?_, ?_, ?_, ?_, ?_, ?_, h.n⟩
  · rw [h.g0]; exact wid_I hg.x
  · rw [h.g1]; exact wid_I hg.y
  · rw [h.g2]; exact wid_I hg.z
  · rw [h.v0]; exact z
  · rw [h.v1]; exact z
  · rw [h.v2]; exact z
  · rw [h.p0]; exact z
  · rw [h.p1]; exact z
  · rw [h.p2]; exact z
  · rw [h.m]; exact hM
theorem rest_new (g : V3) (d : Int) : Rest g (newN ⟨wid g.x, wid g.y, wid g.z⟩ d) := ⟨rfl, rfl, rfl, rfl, rfl, rfl, rfl, rfl, rfl, rfl, ⟨by show (0 : Int) ≤ 0; omega, by show (0 : Int) ≤ 15; omega⟩, rfl⟩
end Go.Xv
namespace Go.Xv
open Go.RowKit
def rdF (g : V3) : Nat → Value
  | 0 => .int .i64 1
  | 1 => .int .i32 0
  | 2 => .int .i32 0
  | 3 => .int .i32 0
  | 4 => .int .i32 g.x
  | 5 => .int .i32 g.y
  | 6 => .int .i32 g.z
  | 7 => .int .i64 0
  | 8 => .int .u32 0
  | 9 => .int .i32 0
  | 10 => .int .u32 0
  | 11 => .int .u32 0
  | 12 => .int .u8 0
  | 13 => .int .i64 0
  | 14 => .int .i64 0
  | 15 => .int .i64 0
  | 16 => .int .u8 0
  | 17 => .int .u8 0
  | 18 => .int .u8 0
  | 19 => .int .u8 0
  | 20 => .int .u8 0
  | 21 => .int .u8 0
  | 22 => .int .u8 0
  | 23 => .int .u8 0
  | 24 => .int .u8 0
  | 25 => .int .u8 0
  | 26 => .int .u8 0
  | 27 => .int .u8 0
  | 28 => .int .u8 0
  | 29 => .int .u8 0
  | 30 => .int .u8 0
  | 31 => .int .u8 0
  | 32 => .int .u8 0
  | 33 => .int .u8 0
  | 34 => .int .u8 0
  | 35 => .int .u8 0
  | 36 => .int .u8 0
  | 37 => .int .u8 0
  | 38 => .int .u8 0
  | 39 => .int .u8 0
  | 40 => .int .u8 0
  | 41 => .int .u8 0
  | 42 => .int .u8 0
  | 43 => .int .u8 0
  | 44 => .int .u8 0
  | 45 => .int .u8 0
  | 46 => .int .u8 0
  | 47 => .int .u8 0
  | 48 => .int .u64 0
  | 49 => .int .u8 0
  | 50 => .int .u32 0
  | 51 => .int .i64 0
  | 52 => .int .u32 0
  | 53 => .int .u8 0
  | 54 => .int .u8 0
  | 55 => .int .u16 0
  | 56 => .int .u64 0
  | _ + 57 => undef
theorem rdF_of (g : V3) : RdOf (rdF g) 1 ⟨0, 0, 0⟩ g := ⟨rfl, rfl, rfl, rfl, rfl, rfl, rfl⟩
theorem z3W : (⟨0, 0, 0⟩ : V3).W := ⟨by unfold I32; decide, by unfold I32; decide, by unfold I32; decide⟩
def wk1 : NS := ⟨0, 0, 0, 0, 0, 0, 0, 0, 0, 0, newA, 0, 0, 0, false⟩
def wk2 : NS := ⟨0, 0, 0, 4294967296, 0, 0, 4294967296, 0, 0, 0, ⟨sameM, 1⟩, 0, 100, 100, false⟩
theorem wk1_eq : imuN (newN ⟨0, 0, 0⟩ 0) 0 1 ⟨0, 0, 0⟩ ⟨0, 0, 0⟩ = wk1 := by kernel_rfl
theorem wk2_eq : imuN wk1 100 1 ⟨0, 0, 0⟩ ⟨65536, 0, 0⟩ = wk2 := by kernel_rfl
theorem wk0_ok : (newN ⟨0, 0, 0⟩ 0).ok := (rest_new ⟨0, 0, 0⟩ 0).ok z3W
theorem wk1_ok : wk1.ok := ⟨wk0_ok.g0, wk0_ok.g1, wk0_ok.g2, wk0_ok.v0, wk0_ok.v1, wk0_ok.v2, wk0_ok.p0, wk0_ok.p1, wk0_ok.p2, wk0_ok.m, wk0_ok.n⟩
theorem wk2_ok : wk2.ok := ⟨wk0_ok.g0, wk0_ok.g1, wk0_ok.g2, by unfold wk2 I64; decide, wk0_ok.v1, wk0_ok.v2, by unfold wk2 I64; decide, wk0_ok.p1, wk0_ok.p2, wk0_ok.m, by unfold wk2; decide⟩
theorem Chg.low {nb B : Nat} {a b : World} (h : Chg nb a b) (hn : B ≤ nb) (hs : B ≤ a.heap.size) : Below B a b := ⟨h.os, h.tape, h.output, h.size, fun k hk => h.block k (by omega) (by omega)⟩
theorem vec_eq1 (w : World) : Sem.run PP (binOp BinOp.eql 24 (Value.agg #[.int .i64 4294967296, .int .i64 0, .int .i64 0]) (Value.agg #[.int .i64 4294967296, .int .i64 0, .int .i64 0])) w = .ok (.bool true) w := by
  kernel_rfl
set_option maxRecDepth 100000 in
set_option maxHeartbeats 8000000 in
theorem works_calls (w : World) : Calls PP 11 #[] w fun e w' => e = .returned (.bool true) ∧ Below w.heap.size w w' := by
  go_enter Proofs.Tryz.func11, Proofs.Tryz.ntmps11
  have hn := new_calls_e ⟨0, 0, 0⟩ 0 (Int.le_refl _) w
  go_wp2_with (go_at_call 5; refine hn.mono ?_; clear hn; rintro e w1 ⟨nb, mb, rfl, hN1, hM1, hne, hle, hB1⟩)
  have h1 := imu_calls nb mb (newN ⟨0, 0, 0⟩ 0) wk0_ok (.inl rfl) 0 1 ⟨0, 0, 0⟩ ⟨0, 0, 0⟩ z3W z3W _ (rdF_of ⟨0, 0, 0⟩) w1 hN1
  rw [wk1_eq, show imuE (newN ⟨0, 0, 0⟩ 0) 0 1 = 0 by kernel_rfl] at h1
  refine h1.mono ?_
  clear h1
  rintro e w2 ⟨rfl, hN2, hC2⟩
  have hM2 := hM1.chg hC2 hne
  have h2 := imu_calls nb mb wk1 wk1_ok (.inr ⟨Int.le_refl _, Int.le_refl _⟩) 100 1 ⟨0, 0, 0⟩ ⟨65536, 0, 0⟩ z3W ⟨by unfold I32; decide, by unfold I32; decide, by unfold I32; decide⟩ _ (rdF_of ⟨65536, 0, 0⟩) w2 hN2
  rw [wk2_eq, show imuE wk1 100 1 = 0 by kernel_rfl] at h2
  go_wp2_with (go_at_call 13; refine h2.mono ?_; clear h2; rintro e w3 ⟨rfl, hN3, hC3⟩)
  have hM3 := hM2.chg hC3 hne
  have h3 := out_calls_e nb mb wk2 wk2_ok w3 hN3 hM3 hne
  rw [show outC wk2 = #[.int .i64 4294967296, .int .i64 0, .int .i64 0, .int .i64 4294967296, .int .i64 0, .int .i64 0, .int .u32 (angle 0 4294967296), .int .i64 (clipV (spZ wk2))] from rfl] at h3
  generalize angle 0 4294967296 = A at h3
  generalize clipV (spZ wk2) = B at h3
  refine h3.mono ?_
  clear h3
  rintro e w4 ⟨rfl, hN4, hC4⟩
  have hM4 := hM3.chg hC4 hne
  have h4 := fun W hN hM => mode_calls_e nb mb wk2.sp 100 W hN hM
  rw [if_neg (show ¬ wk2.sp.start = -1 by show ¬ (0 : Int) = -1; decide)] at h4
  have hq := vec_eq1
  have hB5 : ∀ o, Below w4.heap.size w4 (w4.alloc o) := fun o => (Below.refl _ w4).alloc (Nat.le_refl _) o
  go_wp2_with (go_at_call 17; refine (h4 _ (hN4.below (hB5 _)) (hM4.chg (Chg.of (hB5 _)) hne)).mono ?_; rintro e w5 ⟨rfl, hB6⟩)
  go_ret
  have s1 := hB1.size
  have s2 := hC2.size
  have s3 := hC3.size
  have s4 := hC4.size
  have b4 : Below w.heap.size w w4 := ((hB1.trans (hC2.low hle s1)).trans (hC3.low hle (by omega))).trans (hC4.low hle (by omega))
  exact ⟨rfl, (b4.trans ((hB5 _).mono b4.size)).trans (hB6.mono (Nat.le_trans b4.size (hB5 _).size))⟩
end Go.Xv
namespace Go.Xv
open Go.RowKit
/-- a navigator that no call made. -/
def VoidP (w : World) (p : Option Addr) : Prop := p = none ∨ ∃ zb, p = some ⟨zb, 0, none⟩ ∧ w.cell? ⟨zb, 20, none⟩ = some (.map none)
theorem VoidP.below {w w' : World} {p : Option Addr} (h : VoidP w p) (hb : Below w.heap.size w w') : VoidP w' p := by
  rcases h with h | ⟨zb, h, hc⟩
  · exact .inl h
  · exact .inr ⟨zb, h, (hb.cell (p := ⟨zb, 20, none⟩) (World.block_lt_of_cell? w _ hc)).trans hc⟩
theorem map_nn (w : World) : Sem.run PP (binOp BinOp.neq 60 (Value.map none) (Value.map none)) w = .ok (.bool false) w := by
  kernel_rfl
theorem res_ctt {fn : Func} {p u v : Tmp} {ty : TypeId} (h : fn.results = #[.cell p ty, .tmp u, .tmp v]) (tmps : Array Value) (w : World) (g : Nat) (t : TypeId) (cs : Array Value) (fr : Nat × Nat)
    (hp : tmps.getD p undef = .pointer (some ⟨g, 0, none⟩)) (hg : w.heap[g]? = some (.cells cs t fr)) (hr : ∃ d, PP.underlying ty = some d ∧ d.isRow = true) (hi : (PP.info? ty).map (·.size) = some cs.size) :
    (results fn tmps).run PP w = .ok (.tuple #[.agg cs, tmps.getD u undef, tmps.getD v undef]) w := by
  obtain ⟨d, hu, hd⟩ := hr
  have hp' : tmps[p]?.getD undef = .pointer (some ⟨g, 0, none⟩) := by simpa using hp
  have hl := run_loadVar_row (P := PP) w g t ty cs fr d hg hu (by cases d <;> first | rfl | exact hd) hi
  simp [results, h, hp', asAddr, hl, Sem.run_bind, Result.andThen]
set_option maxRecDepth 100000 in
theorem void_is {p : Option Addr} (w : World) (hv : VoidP w p) : Calls PP 43 #[.pointer p] w fun e w' => e = .returned (.bool false) ∧ w' = w := by
  go_enter Proofs.Tryz.func43, Proofs.Tryz.ntmps43
  have hmm := map_nn
  rcases hv with rfl | ⟨zb, rfl, hc⟩
  · go_wp2
    go_ret
    simp
  · go_wp2
    go_ret
    simp
set_option maxRecDepth 100000 in
set_option maxHeartbeats 4000000 in
theorem void_started {p : Option Addr} (w : World) (hv : VoidP w p) : Calls PP 54 #[.pointer p] w fun e w' => e = .returned (.bool false) ∧ w' = w := by
  go_enter Proofs.Tryz.func54, Proofs.Tryz.ntmps54
  have hi := void_is w hv
  go_wp2_with (go_at_call 43; refine hi.mono ?_; clear hi; rintro e w' ⟨rfl, hw⟩; obtain rfl := hw.symm)
  go_ret
  simp
set_option maxRecDepth 100000 in
set_option maxHeartbeats 4000000 in
theorem void_cut {p : Option Addr} (w : World) (hv : VoidP w p) : Calls PP 20 #[.pointer p] w fun e w' => e = .returned (.bool false) ∧ Below w.heap.size w w' := by
  go_enter Proofs.Tryz.func20, Proofs.Tryz.ntmps20
  have hi := void_is w hv
  go_wp2_with (go_at_call 43; refine hi.mono ?_; clear hi; rintro e w' ⟨rfl, hw⟩; obtain rfl := hw.symm)
  go_ret
  exact ⟨rfl, Below.refl _ _⟩
set_option maxRecDepth 100000 in
set_option maxHeartbeats 4000000 in
theorem void_at {p : Option Addr} (t : Int) (w : World) (hv : VoidP w p) : Calls PP 44 #[.pointer p, .int .i64 t] w fun e w' => e = .returned (.int .i64 1) ∧ w' = w := by
  go_enter Proofs.Tryz.func44, Proofs.Tryz.ntmps44
  have hi := void_is w hv
  go_wp2_with (go_at_call 43; refine hi.mono ?_; clear hi; rintro e w' ⟨rfl, hw⟩; obtain rfl := hw.symm)
  go_ret
  simp
set_option maxRecDepth 100000 in
set_option maxHeartbeats 4000000 in
theorem void_mode {p : Option Addr} (t : Int) (w : World) (hv : VoidP w p) : Calls PP 17 #[.pointer p, .int .i64 t] w fun e w' => e = .returned (.int .i64 0) ∧ Below w.heap.size w w' := by
  go_enter Proofs.Tryz.func17, Proofs.Tryz.ntmps17
  have hi := void_started w hv
  go_wp2_with (go_at_call 54; refine hi.mono ?_; clear hi; rintro e w' ⟨rfl, hw⟩; obtain rfl := hw.symm)
  go_ret
  exact ⟨rfl, Below.refl _ _⟩
set_option maxRecDepth 100000 in
set_option maxHeartbeats 4000000 in
theorem void_age {p : Option Addr} (s t : Int) (w : World) (hv : VoidP w p) : Calls PP 18 #[.pointer p, .int .i64 s, .int .i64 t] w fun e w' => e = .returned (.int .i64 0) ∧ Below w.heap.size w w' := by
  go_enter Proofs.Tryz.func18, Proofs.Tryz.ntmps18
  have hi := void_started w hv
  go_wp2_with (go_at_call 54; refine hi.mono ?_; clear hi; rintro e w' ⟨rfl, hw⟩; obtain rfl := hw.symm)
  go_ret
  exact ⟨rfl, Below.refl _ _⟩
set_option maxRecDepth 100000 in
set_option maxHeartbeats 4000000 in
theorem void_bound {p : Option Addr} (t : Int) (w : World) (hv : VoidP w p) : Calls PP 19 #[.pointer p, .int .i64 t] w fun e w' => e = .returned (.int .i64 0) ∧ Below w.heap.size w w' := by
  go_enter Proofs.Tryz.func19, Proofs.Tryz.ntmps19
  have hi := void_started w hv
  go_wp2_with (go_at_call 54; refine hi.mono ?_; clear hi; rintro e w' ⟨rfl, hw⟩; obtain rfl := hw.symm)
  go_ret
  exact ⟨rfl, Below.refl _ _⟩
set_option maxRecDepth 100000 in
set_option maxHeartbeats 4000000 in
theorem void_find {p : Option Addr} (s : Int) (f : Value) (w : World) (hv : VoidP w p) : Calls PP 35 #[.pointer p, .int .i64 s, f] w fun e w' => e = .returned (.tuple #[.pointer none, .int .i64 1]) ∧ w' = w := by
  go_enter Proofs.Tryz.func35, Proofs.Tryz.ntmps35
  have hi := void_is w hv
  go_wp2_with (go_at_call 43; refine hi.mono ?_; clear hi; rintro e w' ⟨rfl, hw⟩; obtain rfl := hw.symm)
  go_ret2
  simp
set_option maxRecDepth 100000 in
set_option maxHeartbeats 4000000 in
theorem void_tick {p : Option Addr} (t : Int) (w : World) (hv : VoidP w p) : Calls PP 15 #[.pointer p, .int .i64 t] w fun e w' => e = .returned (.int .i64 1) ∧ Below w.heap.size w w' := by
  go_enter Proofs.Tryz.func15, Proofs.Tryz.ntmps15
  have hi := void_at t w hv
  go_wp2_with (go_at_call 44; refine hi.mono ?_; clear hi; rintro e w' ⟨rfl, hw⟩; obtain rfl := hw.symm)
  go_ret
  exact ⟨rfl, Below.refl _ _⟩
set_option maxRecDepth 100000 in
set_option maxHeartbeats 4000000 in
theorem void_imu {p : Option Addr} (t : Int) (rd : Array Value) (w : World) (hv : VoidP w p) : Calls PP 13 #[.pointer p, .int .i64 t, .agg rd] w fun e w' => e = .returned (.int .i64 1) ∧ Below w.heap.size w w' := by
  go_enter Proofs.Tryz.func13, Proofs.Tryz.ntmps13
  have hA0 : Below w.heap.size w (w.alloc (.cells rd 50)) := (Below.refl _ w).alloc (Nat.le_refl _) _
  have hv0 := hv.below hA0
  have hi := void_is _ hv0
  have ha := void_at t _ hv0
  go_wp2_with (first
    | (go_at_call 43; refine hi.mono ?_; clear hi; rintro e w' ⟨rfl, hw⟩; obtain rfl := hw.symm)
    | (go_at_call 44; refine ha.mono ?_; clear ha; rintro e w' ⟨rfl, hw⟩; obtain rfl := hw.symm))
  go_ret
  exact ⟨rfl, hA0⟩
set_option maxRecDepth 100000 in
set_option maxHeartbeats 4000000 in
theorem void_pull {p : Option Addr} (s a b c t : Int) (w : World) (hv : VoidP w p) : Calls PP 14 #[.pointer p, .int .i64 s, .agg #[.int .i64 a, .int .i64 b, .int .i64 c], .int .i64 t] w fun e w' => e = .returned (.int .i64 1) ∧ Below w.heap.size w w' := by
  go_enter Proofs.Tryz.func14, Proofs.Tryz.ntmps14
  have hb3 : ∀ A B C, Below w.heap.size w (((w.alloc A).alloc B).alloc C) := fun A B C => (((Below.refl _ w).alloc (Nat.le_refl _) A).alloc (by simp) B).alloc (by simp; omega) C
  have hf := fun f W (hW : Below w.heap.size w W) => void_find s f W (hv.below hW)
  go_wp2_with (go_at_call 35; refine (hf _ _ (hb3 _ _ _)).mono ?_; clear hf; rintro e w' ⟨rfl, hw⟩; obtain rfl := hw.symm)
  go_ret
  exact ⟨rfl, hb3 _ _ _⟩
set_option maxRecDepth 100000 in
set_option maxHeartbeats 4000000 in
theorem void_off {p : Option Addr} (s : Int) (rd : Array Value) (w : World) (hv : VoidP w p) : Calls PP 12 #[.pointer p, .int .i64 s, .agg rd] w fun e w' => e = .returned (.tuple #[.agg #[.int .i64 0, .int .i64 0, .int .i64 0], .int .i64 0, .int .i64 1]) ∧ Below w.heap.size w w' := by
  go_enter Proofs.Tryz.func12, Proofs.Tryz.ntmps12
  have hb3 : ∀ A B C, Below w.heap.size w (((w.alloc A).alloc B).alloc C) := fun A B C => (((Below.refl _ w).alloc (Nat.le_refl _) A).alloc (by simp) B).alloc (by simp; omega) C
  have hf := fun f W (hW : Below w.heap.size w W) => void_find s f W (hv.below hW)
  go_wp2_with (go_at_call 35; refine (hf _ _ (hb3 _ _ _)).mono ?_; clear hf; rintro e w' ⟨rfl, hw⟩; obtain rfl := hw.symm)
  refine bodyPost_ret (res_ctt rfl _ _ (w.heap.size + 1) 24 #[.int .i64 0, .int .i64 0, .int .i64 0] (0, 0) rfl ((heap_alloc_old _ _ (by simp)).trans (heap_alloc2_new w _ _)) (under_row (by kernel_rfl)) (by kernel_rfl)) rfl ?_
  exact ⟨rfl, hb3 _ _ _⟩
set_option maxRecDepth 100000 in
set_option maxHeartbeats 4000000 in
theorem void_out {p : Option Addr} (w : World) (hv : VoidP w p) : Calls PP 16 #[.pointer p] w fun e w' => e = .returned (.agg #[.int .i64 0, .int .i64 0, .int .i64 0, .int .i64 0, .int .i64 0, .int .i64 0, .int .u32 0, .int .i64 0]) ∧ Below w.heap.size w w' := by
  go_enter Proofs.Tryz.func16, Proofs.Tryz.ntmps16
  have hA0 : Below w.heap.size w (w.alloc (.cells #[.int .i64 0, .int .i64 0, .int .i64 0, .int .i64 0, .int .i64 0, .int .i64 0, .int .u32 0, .int .i64 0] 69)) := (Below.refl _ w).alloc (Nat.le_refl _) _
  have hi := void_is _ (hv.below hA0)
  go_wp2_with (go_at_call 43; refine hi.mono ?_; clear hi; rintro e w' ⟨rfl, hw⟩; obtain rfl := hw.symm)
  refine bodyPost_ret (res_cell rfl _ _ w.heap.size 69 #[.int .i64 0, .int .i64 0, .int .i64 0, .int .i64 0, .int .i64 0, .int .i64 0, .int .u32 0, .int .i64 0] (0, 0) rfl (heap_alloc_new w _) (under_row (by kernel_rfl)) (by kernel_rfl)) rfl ?_
  exact ⟨rfl, hA0⟩
set_option maxRecDepth 100000 in
set_option maxHeartbeats 4000000 in
theorem void_corr {p : Option Addr} (s : Int) (w : World) (hv : VoidP w p) : Calls PP 21 #[.pointer p, .int .i64 s] w fun e w' => e = .returned (.agg #[.int .i64 0, .int .i64 0, .int .i64 0, .int .i64 0]) ∧ Below w.heap.size w w' := by
  go_enter Proofs.Tryz.func21, Proofs.Tryz.ntmps21
  have hA0 : Below w.heap.size w (w.alloc (.cells #[.int .i64 0, .int .i64 0, .int .i64 0, .int .i64 0] 75)) := (Below.refl _ w).alloc (Nat.le_refl _) _
  have hi := void_is _ (hv.below hA0)
  go_wp2_with (go_at_call 43; refine hi.mono ?_; clear hi; rintro e w' ⟨rfl, hw⟩; obtain rfl := hw.symm)
  refine bodyPost_ret (res_cell rfl _ _ w.heap.size 75 #[.int .i64 0, .int .i64 0, .int .i64 0, .int .i64 0] (0, 0) rfl (heap_alloc_new w _) (under_row (by kernel_rfl)) (by kernel_rfl)) rfl ?_
  exact ⟨rfl, hA0⟩
end Go.Xv
namespace Go.Xv
open Go.RowKit Go.WideShapes Go.ChangeShapes
section
variable {H : Type} {enc : TypeId × Value → H} {P : Program} {W : World} {base : Nat} {held : Bool}
/-- what a law's statement asks, of a walk by hand. -/
theorem law_contract_walked (hl : laidOutB P = true) {n : FuncId} {fn : Func} {s : ChangeSpec} {apart fresh handsOn again : Bool}
    {bt : TypeId} (hbt : P.underlying bt = some .bool) (hres : fn.resultTypes = #[bt]) (hro : rowed P fn.params.toList = true) (hsv : s.vars = [])
    {W : World} {args : Array Value} {ds gs : List (DataW H)} {before : List MemPlace}
    (hfn : s.fn H ds = { results := [.lit (.bool true)], args := ds })
    (hW : DataW.Whole enc P fn.params.toList s.vars apart W args.toList ds gs before)
    (hc : Calls P n args W fun e W' => e = .returned (.bool true) ∧ Below W.heap.size W W') :
    Calls P n args W fun e W' => ∃ v, e = .returned v ∧ s.post enc P fn apart fresh handsOn again W args v W' := by
  refine hc.mono fun e W' ⟨he, hb⟩ => ⟨.bool true, he, ?_⟩
  have hlt := hW.lt
  have hW0 := hW
  obtain ⟨p, q, hA, hV, rfl, hz, hn⟩ := hW
  rw [hsv] at hV
  obtain ⟨rfl, rfl⟩ : gs = [] ∧ q = [] := by
    cases gs with
    | nil => exact ⟨rfl, hV⟩
    | cons => exact hV.elim
  have hps : ∀ x ∈ p, x.block < W.heap.size := fun x hx => hlt x (by simp [hx])
  have hargs : ∀ sp : Nat → Bool, (∀ x ∈ p, sp x.block = true) → DataW.TrodAll enc P W' 0 sp true fn.params.toList args.toList ds p := fun sp hsp =>
    trodAll_below hl hb hro hA hps hsp
  have hresT : ∀ (b : Nat) (sp : Nat → Bool) (hd : Bool), DataW.TrodAll enc P W' b sp hd fn.resultTypes.toList ((Value.bool true).resultList fn.resultTypes.size) [.lit (.bool true)] [] := by
    intro b sp hd
    rw [hres]
    exact ⟨[], [], shut_bool hbt true, rfl, rfl⟩
  have hfn' : s.fn H (ds ++ []) = { results := [.lit (.bool true)], args := ds } := by rw [List.append_nil]; exact hfn
  have hvars : ∀ sp : Nat → Bool, DataW.TrodVars enc P W' sp s.vars [] [] := fun sp => by rw [hsv]; rfl
  refine ⟨ds, [], p ++ [], [], p, [], hW0, ?_, ?_, ?_, hb.frame _, fun _ => ⟨ok_one hres rfl (okWide_bool_mk hbt _), ?_⟩⟩
  · rw [hfn']; exact hresT _ _ _
  · rw [hfn']; exact hargs _ (fun x hx => by simpa using hps x hx)
  · rw [hfn']; exact hvars _
  · refine ⟨_, _, ([] ++ p) ++ [], ⟨[] ++ p, [], trodAll_append (hargs _ (fun _ _ => rfl)) (hresT _ _ _), hvars _, rfl, ?_, ?_⟩, ?_⟩
    · intro b off hp
      rw [hb.frozen (hlt _ (by simpa using hp))]
      exact hz b off (by simpa using hp)
    · intro ha
      simpa using hn ha
    · intro x hx _
      simpa using hx
end
end Go.Xv
namespace Go.Xv
open Go.RowKit
def actC (f : Nat → Value) : Array Value := #[f 0, f 1, f 2, f 3, f 4, f 5, f 6, f 7, f 8, f 9, f 10, f 11, f 12, f 13, f 14, f 15, f 16, f 17, f 18, f 19, f 20, f 21, f 22, f 23, f 24, f 25, f 26, f 27, f 28, f 29, f 30, f 31, f 32, f 33, f 34, f 35, f 36, f 37, f 38, f 39, f 40, f 41, f 42, f 43, f 44, f 45, f 46, f 47, f 48, f 49, f 50, f 51, f 52, f 53, f 54, f 55, f 56, f 57, f 58, f 59, f 60, f 61, f 62]
theorem actC_get (f : Nat → Value) (k : Nat) (hk : k < 63) : (actC f)[k]? = some (f k) := by
  have h : actC f = ((List.range 63).map f).toArray := by unfold actC; kernel_rfl
  rw [h]
  simp [hk]
def actR (f : Nat → Value) : List Value := [f 3, f 4, f 5, f 6, f 7, f 8, f 9, f 10, f 11, f 12, f 13, f 14, f 15, f 16, f 17, f 18, f 19, f 20, f 21, f 22, f 23, f 24, f 25, f 26, f 27, f 28, f 29, f 30, f 31, f 32, f 33, f 34, f 35, f 36, f 37, f 38, f 39, f 40, f 41, f 42, f 43, f 44, f 45, f 46, f 47, f 48, f 49, f 50, f 51, f 52, f 53, f 54, f 55, f 56, f 57, f 58, f 59]
theorem actR_get (f : Nat → Value) (k : Nat) (v : Value) (hk : (actR f)[k]? = some v) : (actC f)[3 + k]? = some v := by
  have h : actR f = ((List.range 57).map fun k => f (3 + k)) := by unfold actR; kernel_rfl
  have hlt : k < 57 := (List.getElem?_eq_some_iff.1 hk).1
  rw [actC_get f _ (by omega)]
  rw [h] at hk
  simpa [hlt] using hk
theorem eq_out (w : World) : Sem.run PP (binOp BinOp.eql 69 (Value.agg #[.int .i64 0, .int .i64 0, .int .i64 0, .int .i64 0, .int .i64 0, .int .i64 0, .int .u32 0, .int .i64 0]) (Value.agg #[.int .i64 0, .int .i64 0, .int .i64 0, .int .i64 0, .int .i64 0, .int .i64 0, .int .u32 0, .int .i64 0])) w = .ok (.bool true) w := by kernel_rfl
theorem eq_corr (w : World) : Sem.run PP (binOp BinOp.eql 75 (Value.agg #[.int .i64 0, .int .i64 0, .int .i64 0, .int .i64 0]) (Value.agg #[.int .i64 0, .int .i64 0, .int .i64 0, .int .i64 0])) w = .ok (.bool true) w := by kernel_rfl
set_option maxRecDepth 100000 in
set_option maxHeartbeats 16000000 in
theorem void_calls (f : Nat → Value) (sr tk y0 y1 y2 : Int) (h1 : f 1 = .int .i64 sr) (h2 : f 2 = .int .i64 tk) (h60 : f 60 = .int .i64 y0) (h61 : f 61 = .int .i64 y1) (h62 : f 62 = .int .i64 y2) (w : World) :
    Calls PP 4 #[.agg (actC f)] w fun e w' => e = .returned (.bool true) ∧ Below w.heap.size w w' := by
  go_enter Proofs.Tryz.func4, Proofs.Tryz.ntmps4
  have hwk := works_calls
  have hA0 : Below w.heap.size w (w.alloc (.cells (actC f) 52)) := (Below.refl _ w).alloc (Nat.le_refl _) _
  have hb0 : (w.alloc (.cells (actC f) 52)).heap[w.heap.size]? = some (.cells (actC f) 52 (0, 0)) := heap_alloc_new w _
  obtain ⟨dR, huR, hdR⟩ : ∃ d, PP.underlying 50 = some d ∧ d.isRow = true := under_row (by kernel_rfl)
  have hiR : (PP.info? 50).map (·.size) = some (actR f).length := by kernel_rfl
  have hSg : ∀ W : World, W.heap[w.heap.size]? = some (.cells (actC f) 52 (0, 0)) → W.cell? ⟨w.heap.size, 1, none⟩ = some (.int .i64 sr) ∧ W.cell? ⟨w.heap.size, 2, none⟩ = some (.int .i64 tk) ∧ W.cell? ⟨w.heap.size, 60, none⟩ = some (.int .i64 y0) ∧ W.cell? ⟨w.heap.size, 61, none⟩ = some (.int .i64 y1) ∧ W.cell? ⟨w.heap.size, 62, none⟩ = some (.int .i64 y2) ∧ W.rangeAt w.heap.size 3 (actR f) := fun W h =>
    ⟨h1 ▸ (cell_blk h).trans (actC_get f 1 (by omega)), h2 ▸ (cell_blk h).trans (actC_get f 2 (by omega)), h60 ▸ (cell_blk h).trans (actC_get f 60 (by omega)), h61 ▸ (cell_blk h).trans (actC_get f 61 (by omega)), h62 ▸ (cell_blk h).trans (actC_get f 62 (by omega)),
      fun k v hk => (cell_blk h).trans (actR_get f k v hk)⟩
  have hzN : ∀ W : World, ∀ b, W.heap[b]? = some (.cells #[.int .i64 0, .int .i64 0, .int .i64 0, .int .i64 0, .int .i64 0, .int .i64 0, .int .i64 0, .int .i64 0, .int .i64 0, .int .i64 0, .int .i64 0, .int .i64 0, .int .i64 0, .int .i64 0, .int .i64 0, .int .i64 0, .int .i64 0, .int .i64 0, .int .i64 0, .int .i64 0, .map none, .int .i64 0, .int .i64 0, .int .i64 0, .bool false] 62 (0, 0)) → VoidP W (some ⟨b, 0, none⟩) := fun W b h => .inr ⟨b, rfl, cell_blk h⟩
  have hoN := fun W s => void_off (p := none) s (actR f).toArray W (.inl rfl)
  have hoZ := fun b W s (h : W.heap[b]? = some (.cells #[.int .i64 0, .int .i64 0, .int .i64 0, .int .i64 0, .int .i64 0, .int .i64 0, .int .i64 0, .int .i64 0, .int .i64 0, .int .i64 0, .int .i64 0, .int .i64 0, .int .i64 0, .int .i64 0, .int .i64 0, .int .i64 0, .int .i64 0, .int .i64 0, .int .i64 0, .int .i64 0, .map none, .int .i64 0, .int .i64 0, .int .i64 0, .bool false] 62 (0, 0))) => void_off (p := some ⟨b, 0, none⟩) s (actR f).toArray W (hzN W b h)
  go_wp2_with (first
    | (go_at_call 11
       refine (hwk _).mono ?_
       clear hwk
       rintro e w1 ⟨rfl, hB1⟩
       have hB2 : Below w.heap.size w (w1.alloc (.cells #[.int .i64 0, .int .i64 0, .int .i64 0, .int .i64 0, .int .i64 0, .int .i64 0, .int .i64 0, .int .i64 0, .int .i64 0, .int .i64 0, .int .i64 0, .int .i64 0, .int .i64 0, .int .i64 0, .int .i64 0, .int .i64 0, .int .i64 0, .int .i64 0, .int .i64 0, .int .i64 0, .map none, .int .i64 0, .int .i64 0, .int .i64 0, .bool false] 62)) := (hA0.trans (hB1.mono hA0.size)).alloc (Nat.le_trans hA0.size hB1.size) _
       have hz2 : (w1.alloc (.cells #[.int .i64 0, .int .i64 0, .int .i64 0, .int .i64 0, .int .i64 0, .int .i64 0, .int .i64 0, .int .i64 0, .int .i64 0, .int .i64 0, .int .i64 0, .int .i64 0, .int .i64 0, .int .i64 0, .int .i64 0, .int .i64 0, .int .i64 0, .int .i64 0, .int .i64 0, .int .i64 0, .map none, .int .i64 0, .int .i64 0, .int .i64 0, .bool false] 62)).heap[w1.heap.size]? = some (.cells #[.int .i64 0, .int .i64 0, .int .i64 0, .int .i64 0, .int .i64 0, .int .i64 0, .int .i64 0, .int .i64 0, .int .i64 0, .int .i64 0, .int .i64 0, .int .i64 0, .int .i64 0, .int .i64 0, .int .i64 0, .int .i64 0, .int .i64 0, .int .i64 0, .int .i64 0, .int .i64 0, .map none, .int .i64 0, .int .i64 0, .int .i64 0, .bool false] 62 (0, 0)) := heap_alloc_new w1 _
       have hb2 : (w1.alloc (.cells #[.int .i64 0, .int .i64 0, .int .i64 0, .int .i64 0, .int .i64 0, .int .i64 0, .int .i64 0, .int .i64 0, .int .i64 0, .int .i64 0, .int .i64 0, .int .i64 0, .int .i64 0, .int .i64 0, .int .i64 0, .int .i64 0, .int .i64 0, .int .i64 0, .int .i64 0, .int .i64 0, .map none, .int .i64 0, .int .i64 0, .int .i64 0, .bool false] 62)).heap[w.heap.size]? = some (.cells (actC f) 52 (0, 0)) := (heap_alloc_old _ _ (Nat.lt_of_lt_of_le (by simp) hB1.size)).trans ((hB1.block _ (by simp)).trans hb0)
       obtain ⟨c1, c2, c60, c61, c62, hrg⟩ := hSg _ hb2)
    | (refine wpList_load_mid rfl 50 (.tmp 17) rfl w.heap.size 3 rfl (actR f) dR hrg huR hdR hiR ?_)
    | (go_at_call 12
       refine (hoN _ _).mono ?_
       clear hoN
       rintro e w3 ⟨rfl, hB3⟩
       have hB4 : Below w.heap.size w (w3.alloc (.cells #[.int .i64 0, .int .i64 0, .int .i64 0] 24)) := (hB2.trans (hB3.mono hB2.size)).alloc (Nat.le_trans hB2.size hB3.size) _
       have hz4 : (w3.alloc (.cells #[.int .i64 0, .int .i64 0, .int .i64 0] 24)).heap[w1.heap.size]? = some (.cells #[.int .i64 0, .int .i64 0, .int .i64 0, .int .i64 0, .int .i64 0, .int .i64 0, .int .i64 0, .int .i64 0, .int .i64 0, .int .i64 0, .int .i64 0, .int .i64 0, .int .i64 0, .int .i64 0, .int .i64 0, .int .i64 0, .int .i64 0, .int .i64 0, .int .i64 0, .int .i64 0, .map none, .int .i64 0, .int .i64 0, .int .i64 0, .bool false] 62 (0, 0)) := (heap_alloc_old _ _ (Nat.lt_of_lt_of_le (by simp) hB3.size)).trans ((hB3.block _ (by simp)).trans hz2)
       have hb4 : (w3.alloc (.cells #[.int .i64 0, .int .i64 0, .int .i64 0] 24)).heap[w.heap.size]? = some (.cells (actC f) 52 (0, 0)) := (heap_alloc_old _ _ (Nat.lt_of_lt_of_le (Array.getElem?_eq_some_iff.1 hb2).1 hB3.size)).trans ((hB3.block _ (Array.getElem?_eq_some_iff.1 hb2).1).trans hb2)
       obtain ⟨d1, d2, d60, d61, d62, hrg4⟩ := hSg _ hb4)
    | (refine wpList_load_mid rfl 50 (.tmp 26) rfl w.heap.size 3 rfl (actR f) dR hrg4 huR hdR hiR ?_)
    | (go_at_call 12
       refine (hoZ _ _ _ hz4).mono ?_
       rintro e w5 ⟨rfl, hB5⟩))
  have hB6 : Below w.heap.size w (w5.alloc (.cells #[.int .i64 0, .int .i64 0, .int .i64 0] 24)) := (hB4.trans (hB5.mono hB4.size)).alloc (Nat.le_trans hB4.size hB5.size) _
  have hz6 : (w5.alloc (.cells #[.int .i64 0, .int .i64 0, .int .i64 0] 24)).heap[w1.heap.size]? = some (.cells #[.int .i64 0, .int .i64 0, .int .i64 0, .int .i64 0, .int .i64 0, .int .i64 0, .int .i64 0, .int .i64 0, .int .i64 0, .int .i64 0, .int .i64 0, .int .i64 0, .int .i64 0, .int .i64 0, .int .i64 0, .int .i64 0, .int .i64 0, .int .i64 0, .int .i64 0, .int .i64 0, .map none, .int .i64 0, .int .i64 0, .int .i64 0, .bool false] 62 (0, 0)) := (heap_alloc_old _ _ (Nat.lt_of_lt_of_le (Array.getElem?_eq_some_iff.1 hz4).1 hB5.size)).trans ((hB5.block _ (Array.getElem?_eq_some_iff.1 hz4).1).trans hz4)
  have hb6 : (w5.alloc (.cells #[.int .i64 0, .int .i64 0, .int .i64 0] 24)).heap[w.heap.size]? = some (.cells (actC f) 52 (0, 0)) := (heap_alloc_old _ _ (Nat.lt_of_lt_of_le (Array.getElem?_eq_some_iff.1 hb4).1 hB5.size)).trans ((hB5.block _ (Array.getElem?_eq_some_iff.1 hb4).1).trans hb4)
  generalize w5.alloc (.cells #[.int .i64 0, .int .i64 0, .int .i64 0] 24) = w6 at *
  have hS : ∀ W, Below w6.heap.size w6 W → (W.cell? ⟨w.heap.size, 1, none⟩ = some (.int .i64 sr) ∧ W.cell? ⟨w.heap.size, 2, none⟩ = some (.int .i64 tk) ∧ W.cell? ⟨w.heap.size, 60, none⟩ = some (.int .i64 y0) ∧ W.cell? ⟨w.heap.size, 61, none⟩ = some (.int .i64 y1) ∧ W.cell? ⟨w.heap.size, 62, none⟩ = some (.int .i64 y2) ∧ W.rangeAt w.heap.size 3 (actR f)) := fun W hW => hSg W ((hW.block _ (Array.getElem?_eq_some_iff.1 hb6).1).trans hb6)
  have hV : ∀ W, Below w6.heap.size w6 W → VoidP W (some ⟨w1.heap.size, 0, none⟩) := fun W hW => hzN W _ ((hW.block _ (Array.getElem?_eq_some_iff.1 hz6).1).trans hz6)
  generalize w3.heap.size = k3
  generalize w5.heap.size = k5
  clear hoZ hzN hSg hz2 hb2 hz4 hb4 hB2 hB4 hB1 hB3 hB5 hA0 hb0 hb6 hz6 c1 c2 c60 c61 c62 hrg d1 d2 d60 d61 d62 hrg4 h1 h2 h60 h61 h62
  have hqo := eq_out
  have hqc := eq_corr
  have hwr0 : IntKind.wrap .i64 0 = 0 := by decide
  generalize hrr : (actR f).toArray = rr at *
  generalize w1.heap.size = zb at *
  generalize hb0 : w.heap.size = b0 at *
  have hsz6 : b0 ≤ w6.heap.size := by rw [← hb0]; exact hB6.size
  have hd : Below w6.heap.size w6 w6.drew := ⟨rfl, rfl, rfl, Nat.le_refl _, fun _ _ => rfl⟩
  refine wp_region_held_drew (S := fun W => W.cell? ⟨b0, 1, none⟩ = some (.int .i64 sr) ∧ W.cell? ⟨b0, 2, none⟩ = some (.int .i64 tk) ∧ W.cell? ⟨b0, 60, none⟩ = some (.int .i64 y0) ∧ W.cell? ⟨b0, 61, none⟩ = some (.int .i64 y1) ∧ W.cell? ⟨b0, 62, none⟩ = some (.int .i64 y2) ∧ W.rangeAt b0 3 (actR f)) (by kernel_rfl) (hS _ hd) (fun hHeld => ?_)
  refine wpAnyH_take (i := 0) (oi := ⟨some 32, .move (.tmp 7), 30, "law.go:210", #[], none⟩) (v := ?_) (by as_aux_lemma => kernel_rfl) (by as_aux_lemma => kernel_rfl) (by as_aux_lemma => kernel_rfl) (by as_aux_lemma => kernel_rfl) (fun _ _ _ h => h) (Or.inl ⟨by as_aux_lemma => kernel_rfl, ?_⟩) (by assumption) ?_
  rotate_left
  · intro w hSw
    go_simp
    try with_reducible rfl
  try simp only [Act.put, List.setIfInBounds_toArray, List.set_cons_zero, List.set_cons_succ]
  refine wpAnyH_take (i := 1) (oi := ⟨some 33, .binOp .eql 30 (.tmp 32) (.const (.int .i64 1)) 30, 4, "law.go:210", #[⟨0, .data⟩], none⟩) (v := ?_) (by as_aux_lemma => kernel_rfl) (by as_aux_lemma => kernel_rfl) (by as_aux_lemma => kernel_rfl) (by as_aux_lemma => kernel_rfl) (fun _ _ _ h => h) (Or.inl ⟨by as_aux_lemma => kernel_rfl, ?_⟩) (by assumption) ?_
  rotate_left
  · intro w hSw
    go_simp
    try with_reducible rfl
  try simp only [Act.put, List.setIfInBounds_toArray, List.set_cons_zero, List.set_cons_succ]
  refine wpAnyH_take (i := 2) (oi := ⟨some 34, .move (.tmp 33), 4, "law.go:210", #[⟨1, .data⟩], none⟩) (v := ?_) (by as_aux_lemma => kernel_rfl) (by as_aux_lemma => kernel_rfl) (by as_aux_lemma => kernel_rfl) (by as_aux_lemma => kernel_rfl) (fun _ _ _ h => h) (Or.inl ⟨by as_aux_lemma => kernel_rfl, ?_⟩) (by assumption) ?_
  rotate_left
  · intro w hSw
    go_simp
    try with_reducible rfl
  try simp only [Act.put, List.setIfInBounds_toArray, List.set_cons_zero, List.set_cons_succ]
  refine wpAnyH_take (i := 3) (oi := ⟨some 35, .move (.tmp 10), 30, "law.go:210", #[⟨2, .guard⟩], some (2, true)⟩) (v := ?_) (by as_aux_lemma => kernel_rfl) (by as_aux_lemma => kernel_rfl) (by as_aux_lemma => kernel_rfl) (by as_aux_lemma => kernel_rfl) (fun _ _ _ h => h) (Or.inl ⟨by as_aux_lemma => kernel_rfl, ?_⟩) (by assumption) ?_
  rotate_left
  · intro w hSw
    go_simp
    try with_reducible rfl
  try simp only [Act.put, List.setIfInBounds_toArray, List.set_cons_zero, List.set_cons_succ]
  refine wpAnyH_take (i := 4) (oi := ⟨some 36, .move (.tmp 7), 30, "law.go:210", #[⟨2, .guard⟩], some (2, true)⟩) (v := ?_) (by as_aux_lemma => kernel_rfl) (by as_aux_lemma => kernel_rfl) (by as_aux_lemma => kernel_rfl) (by as_aux_lemma => kernel_rfl) (fun _ _ _ h => h) (Or.inl ⟨by as_aux_lemma => kernel_rfl, ?_⟩) (by assumption) ?_
  rotate_left
  · intro w hSw
    go_simp
    try with_reducible rfl
  try simp only [Act.put, List.setIfInBounds_toArray, List.set_cons_zero, List.set_cons_succ]
  refine wpAnyH_take (i := 5) (oi := ⟨some 37, .binOp .eql 30 (.tmp 35) (.tmp 36) 30, 4, "law.go:210", #[⟨3, .data⟩, ⟨4, .data⟩, ⟨2, .guard⟩], some (2, true)⟩) (v := ?_) (by as_aux_lemma => kernel_rfl) (by as_aux_lemma => kernel_rfl) (by as_aux_lemma => kernel_rfl) (by as_aux_lemma => kernel_rfl) (fun _ _ _ h => h) (Or.inl ⟨by as_aux_lemma => kernel_rfl, ?_⟩) (by assumption) ?_
  rotate_left
  · intro w hSw
    go_simp
    try with_reducible rfl
  try simp only [Act.put, List.setIfInBounds_toArray, List.set_cons_zero, List.set_cons_succ]
  refine wpAnyH_take (i := 6) (oi := ⟨some 38, .pick (.tmp 34) (.tmp 37) (.const (.bool false)), 4, "law.go:210", #[⟨2, .data⟩, ⟨5, .data⟩], none⟩) (v := ?_) (by as_aux_lemma => kernel_rfl) (by as_aux_lemma => kernel_rfl) (by as_aux_lemma => kernel_rfl) (by as_aux_lemma => kernel_rfl) (fun _ _ _ h => h) (Or.inl ⟨by as_aux_lemma => kernel_rfl, ?_⟩) (by assumption) ?_
  rotate_left
  · intro w hSw
    go_simp
    try with_reducible rfl
  try simp only [Act.put, List.setIfInBounds_toArray, List.set_cons_zero, List.set_cons_succ]
  refine wpAnyH_take (i := 7) (oi := ⟨some 39, .move (.tmp 38), 4, "law.go:210", #[⟨6, .data⟩, ⟨2, .chain⟩], none⟩) (v := ?_) (by as_aux_lemma => kernel_rfl) (by as_aux_lemma => kernel_rfl) (by as_aux_lemma => kernel_rfl) (by as_aux_lemma => kernel_rfl) (fun _ _ _ h => h) (Or.inl ⟨by as_aux_lemma => kernel_rfl, ?_⟩) (by assumption) ?_
  rotate_left
  · intro w hSw
    go_simp
    try with_reducible rfl
  try simp only [Act.put, List.setIfInBounds_toArray, List.set_cons_zero, List.set_cons_succ]
  refine wpAnyH_take (i := 8) (oi := ⟨some 40, .move (.tmp 6), 3, "law.go:210", #[⟨7, .guard⟩], some (7, true)⟩) (v := ?_) (by as_aux_lemma => kernel_rfl) (by as_aux_lemma => kernel_rfl) (by as_aux_lemma => kernel_rfl) (by as_aux_lemma => kernel_rfl) (fun _ _ _ h => h) (Or.inl ⟨by as_aux_lemma => kernel_rfl, ?_⟩) (by assumption) ?_
  rotate_left
  · intro w hSw
    go_simp
    try with_reducible rfl
  try simp only [Act.put, List.setIfInBounds_toArray, List.set_cons_zero, List.set_cons_succ]
  refine wpAnyH_take (i := 9) (oi := ⟨some 41, .move (.tmp 9), 3, "law.go:210", #[⟨7, .guard⟩], some (7, true)⟩) (v := ?_) (by as_aux_lemma => kernel_rfl) (by as_aux_lemma => kernel_rfl) (by as_aux_lemma => kernel_rfl) (by as_aux_lemma => kernel_rfl) (fun _ _ _ h => h) (Or.inl ⟨by as_aux_lemma => kernel_rfl, ?_⟩) (by assumption) ?_
  rotate_left
  · intro w hSw
    go_simp
    try with_reducible rfl
  try simp only [Act.put, List.setIfInBounds_toArray, List.set_cons_zero, List.set_cons_succ]
  refine wpAnyH_take (i := 10) (oi := ⟨some 42, .binOp .add 3 (.tmp 40) (.tmp 41) 3, 3, "law.go:210", #[⟨8, .data⟩, ⟨9, .data⟩, ⟨7, .guard⟩], some (7, true)⟩) (v := ?_) (by as_aux_lemma => kernel_rfl) (by as_aux_lemma => kernel_rfl) (by as_aux_lemma => kernel_rfl) (by as_aux_lemma => kernel_rfl) (fun _ _ _ h => h) (Or.inl ⟨by as_aux_lemma => kernel_rfl, ?_⟩) (by assumption) ?_
  rotate_left
  · intro w hSw
    go_simp
    try with_reducible rfl
  try simp only [Act.put, List.setIfInBounds_toArray, List.set_cons_zero, List.set_cons_succ]
  refine wpAnyH_take (i := 11) (oi := ⟨some 43, .binOp .eql 3 (.tmp 42) (.const (.int .i64 0)) 3, 4, "law.go:210", #[⟨10, .data⟩, ⟨7, .guard⟩], some (7, true)⟩) (v := ?_) (by as_aux_lemma => kernel_rfl) (by as_aux_lemma => kernel_rfl) (by as_aux_lemma => kernel_rfl) (by as_aux_lemma => kernel_rfl) (fun _ _ _ h => h) (Or.inl ⟨by as_aux_lemma => kernel_rfl, ?_⟩) (by assumption) ?_
  rotate_left
  · intro w hSw
    go_simp
    try with_reducible rfl
  try simp only [Act.put, List.setIfInBounds_toArray, List.set_cons_zero, List.set_cons_succ]
  refine wpAnyH_take (i := 12) (oi := ⟨some 44, .pick (.tmp 39) (.tmp 43) (.const (.bool false)), 4, "law.go:210", #[⟨7, .data⟩, ⟨11, .data⟩], none⟩) (v := ?_) (by as_aux_lemma => kernel_rfl) (by as_aux_lemma => kernel_rfl) (by as_aux_lemma => kernel_rfl) (by as_aux_lemma => kernel_rfl) (fun _ _ _ h => h) (Or.inl ⟨by as_aux_lemma => kernel_rfl, ?_⟩) (by assumption) ?_
  rotate_left
  · intro w hSw
    go_simp
    try with_reducible rfl
  try simp only [Act.put, List.setIfInBounds_toArray, List.set_cons_zero, List.set_cons_succ]
  refine wpAnyH_take (i := 13) (oi := ⟨some 45, .move (.tmp 44), 4, "law.go:210", #[⟨12, .data⟩, ⟨7, .chain⟩], none⟩) (v := ?_) (by as_aux_lemma => kernel_rfl) (by as_aux_lemma => kernel_rfl) (by as_aux_lemma => kernel_rfl) (by as_aux_lemma => kernel_rfl) (fun _ _ _ h => h) (Or.inl ⟨by as_aux_lemma => kernel_rfl, ?_⟩) (by assumption) ?_
  rotate_left
  · intro w hSw
    go_simp
    try with_reducible rfl
  try simp only [Act.put, List.setIfInBounds_toArray, List.set_cons_zero, List.set_cons_succ]
  refine wpAnyH_take (i := 14) (oi := ⟨some 46, .move (.tmp 3), 29, "law.go:210", #[⟨13, .guard⟩], some (13, true)⟩) (v := ?_) (by as_aux_lemma => kernel_rfl) (by as_aux_lemma => kernel_rfl) (by as_aux_lemma => kernel_rfl) (by as_aux_lemma => kernel_rfl) (fun _ _ _ h => h) (Or.inl ⟨by as_aux_lemma => kernel_rfl, ?_⟩) (by assumption) ?_
  rotate_left
  · intro w hSw
    go_simp
    try with_reducible rfl
  try simp only [Act.put, List.setIfInBounds_toArray, List.set_cons_zero, List.set_cons_succ]
  refine wpAnyH_take (i := 15) (oi := ⟨some 47, .fieldAddr 52 (.tmp 1) 2, 0, "law.go:210", #[⟨13, .guard⟩], some (13, true)⟩) (v := ?_) (by as_aux_lemma => kernel_rfl) (by as_aux_lemma => kernel_rfl) (by as_aux_lemma => kernel_rfl) (by as_aux_lemma => kernel_rfl) (fun _ _ _ h => h) (Or.inl ⟨by as_aux_lemma => kernel_rfl, ?_⟩) (by assumption) ?_
  rotate_left
  · intro w hSw
    go_simp
    try with_reducible rfl
  try simp only [Act.put, List.setIfInBounds_toArray, List.set_cons_zero, List.set_cons_succ]
  refine wpAnyH_take (i := 16) (oi := ⟨some 48, .load 3 (.tmp 47), 3, "law.go:210", #[⟨15, .data⟩, ⟨13, .guard⟩], some (13, true)⟩) (v := ?_) (by as_aux_lemma => kernel_rfl) (by as_aux_lemma => kernel_rfl) (by as_aux_lemma => kernel_rfl) (by as_aux_lemma => kernel_rfl) (fun _ _ _ h => h) (Or.inl ⟨by as_aux_lemma => kernel_rfl, ?_⟩) (by assumption) ?_
  rotate_left
  · intro w hSw
    go_simp
    try with_reducible rfl
  try simp only [Act.put, List.setIfInBounds_toArray, List.set_cons_zero, List.set_cons_succ]
  refine wpAnyH_take (i := 17) (oi := ⟨some 49, .fieldAddr 52 (.tmp 1) 3, 0, "law.go:210", #[⟨13, .guard⟩], some (13, true)⟩) (v := ?_) (by as_aux_lemma => kernel_rfl) (by as_aux_lemma => kernel_rfl) (by as_aux_lemma => kernel_rfl) (by as_aux_lemma => kernel_rfl) (fun _ _ _ h => h) (Or.inl ⟨by as_aux_lemma => kernel_rfl, ?_⟩) (by assumption) ?_
  rotate_left
  · intro w hSw
    go_simp
    try with_reducible rfl
  try simp only [Act.put, List.setIfInBounds_toArray, List.set_cons_zero, List.set_cons_succ]
  refine wpAnyH_take (i := 18) (oi := ⟨some 50, .load 50 (.tmp 49), 50, "law.go:210", #[⟨17, .data⟩, ⟨13, .guard⟩], some (13, true)⟩) (v := .agg rr) (by as_aux_lemma => kernel_rfl) (by as_aux_lemma => kernel_rfl) (by as_aux_lemma => kernel_rfl) (by as_aux_lemma => kernel_rfl) (fun _ _ _ h => h) (hrr ▸ yieldsIf_load_mid (by as_aux_lemma => kernel_rfl) _ _ rfl b0 3 rfl (actR f) dR (fun w h => h.2.2.2.2.2) huR hdR hiR) (by assumption) ?_
  try simp only [Act.put, List.setIfInBounds_toArray, List.set_cons_zero, List.set_cons_succ]
  refine wpAnyH_take (i := 20) (oi := ⟨some 52, .move (.tmp 7), 30, "law.go:210", #[⟨13, .guard⟩], some (13, true)⟩) (v := ?_) (by as_aux_lemma => kernel_rfl) (by as_aux_lemma => kernel_rfl) (by as_aux_lemma => kernel_rfl) (by as_aux_lemma => kernel_rfl) (fun _ _ _ h => h) (Or.inl ⟨by as_aux_lemma => kernel_rfl, ?_⟩) (by assumption) ?_
  rotate_left
  · intro w hSw
    go_simp
    try with_reducible rfl
  try simp only [Act.put, List.setIfInBounds_toArray, List.set_cons_zero, List.set_cons_succ]
  refine wpAnyH_ready (rs := [19]) (by as_aux_lemma => kernel_rfl) (by simp) ?_
  refine AllReadyH.cons (o := ⟨some 51, .call ⟨.value (.func 13), #[(.tmp 46), (.tmp 48), (.tmp 50)], #[29, 3, 50]⟩, 30, "law.go:210", #[⟨14, .data⟩, ⟨16, .data⟩, ⟨18, .data⟩, ⟨13, .chain⟩, ⟨13, .guard⟩], some (13, true)⟩) (by as_aux_lemma => kernel_rfl) (fun K hK => ?_) AllReadyH.nil
  go_simp
  go_at_call 13
  refine (void_imu tk rr (p := none) _ (.inl rfl)).mono ?_
  rintro e x1 ⟨rfl, hx1⟩
  have hB101 : Below w6.heap.size w6 x1 := hd.trans (hx1.mono hd.size)
  refine hK.out _ _ (hS _ hB101) (fun hHeld1 => ?_)
  clear hHeld hx1 hK
  have hHeld := hHeld1
  clear hHeld1
  try simp only [Act.put, List.setIfInBounds_toArray, List.set_cons_zero, List.set_cons_succ]
  refine wpAnyH_take (i := 21) (oi := ⟨some 53, .binOp .eql 30 (.tmp 51) (.tmp 52) 30, 4, "law.go:210", #[⟨19, .data⟩, ⟨20, .data⟩, ⟨13, .guard⟩], some (13, true)⟩) (v := ?_) (by as_aux_lemma => kernel_rfl) (by as_aux_lemma => kernel_rfl) (by as_aux_lemma => kernel_rfl) (by as_aux_lemma => kernel_rfl) (fun _ _ _ h => h) (Or.inl ⟨by as_aux_lemma => kernel_rfl, ?_⟩) (by assumption) ?_
  rotate_left
  · intro w hSw
    go_simp
    try with_reducible rfl
  try simp only [Act.put, List.setIfInBounds_toArray, List.set_cons_zero, List.set_cons_succ]
  refine wpAnyH_take (i := 22) (oi := ⟨some 54, .pick (.tmp 45) (.tmp 53) (.const (.bool false)), 4, "law.go:210", #[⟨13, .data⟩, ⟨21, .data⟩], none⟩) (v := ?_) (by as_aux_lemma => kernel_rfl) (by as_aux_lemma => kernel_rfl) (by as_aux_lemma => kernel_rfl) (by as_aux_lemma => kernel_rfl) (fun _ _ _ h => h) (Or.inl ⟨by as_aux_lemma => kernel_rfl, ?_⟩) (by assumption) ?_
  rotate_left
  · intro w hSw
    go_simp
    try with_reducible rfl
  try simp only [Act.put, List.setIfInBounds_toArray, List.set_cons_zero, List.set_cons_succ]
  refine wpAnyH_take (i := 23) (oi := ⟨some 55, .move (.tmp 54), 4, "law.go:210", #[⟨22, .data⟩, ⟨19, .chain⟩], none⟩) (v := ?_) (by as_aux_lemma => kernel_rfl) (by as_aux_lemma => kernel_rfl) (by as_aux_lemma => kernel_rfl) (by as_aux_lemma => kernel_rfl) (fun _ _ _ h => h) (Or.inl ⟨by as_aux_lemma => kernel_rfl, ?_⟩) (by assumption) ?_
  rotate_left
  · intro w hSw
    go_simp
    try with_reducible rfl
  try simp only [Act.put, List.setIfInBounds_toArray, List.set_cons_zero, List.set_cons_succ]
  refine wpAnyH_take (i := 24) (oi := ⟨some 56, .fieldAddr 52 (.tmp 1) 2, 0, "law.go:210", #[⟨23, .guard⟩], some (23, true)⟩) (v := ?_) (by as_aux_lemma => kernel_rfl) (by as_aux_lemma => kernel_rfl) (by as_aux_lemma => kernel_rfl) (by as_aux_lemma => kernel_rfl) (fun _ _ _ h => h) (Or.inl ⟨by as_aux_lemma => kernel_rfl, ?_⟩) (by assumption) ?_
  rotate_left
  · intro w hSw
    go_simp
    try with_reducible rfl
  try simp only [Act.put, List.setIfInBounds_toArray, List.set_cons_zero, List.set_cons_succ]
  refine wpAnyH_take (i := 25) (oi := ⟨some 57, .load 3 (.tmp 56), 3, "law.go:210", #[⟨24, .data⟩, ⟨23, .guard⟩], some (23, true)⟩) (v := ?_) (by as_aux_lemma => kernel_rfl) (by as_aux_lemma => kernel_rfl) (by as_aux_lemma => kernel_rfl) (by as_aux_lemma => kernel_rfl) (fun _ _ _ h => h) (Or.inl ⟨by as_aux_lemma => kernel_rfl, ?_⟩) (by assumption) ?_
  rotate_left
  · intro w hSw
    go_simp
    try with_reducible rfl
  try simp only [Act.put, List.setIfInBounds_toArray, List.set_cons_zero, List.set_cons_succ]
  refine wpAnyH_take (i := 26) (oi := ⟨some 58, .fieldAddr 52 (.tmp 1) 3, 0, "law.go:210", #[⟨23, .guard⟩], some (23, true)⟩) (v := ?_) (by as_aux_lemma => kernel_rfl) (by as_aux_lemma => kernel_rfl) (by as_aux_lemma => kernel_rfl) (by as_aux_lemma => kernel_rfl) (fun _ _ _ h => h) (Or.inl ⟨by as_aux_lemma => kernel_rfl, ?_⟩) (by assumption) ?_
  rotate_left
  · intro w hSw
    go_simp
    try with_reducible rfl
  try simp only [Act.put, List.setIfInBounds_toArray, List.set_cons_zero, List.set_cons_succ]
  refine wpAnyH_take (i := 27) (oi := ⟨some 59, .load 50 (.tmp 58), 50, "law.go:210", #[⟨26, .data⟩, ⟨23, .guard⟩], some (23, true)⟩) (v := .agg rr) (by as_aux_lemma => kernel_rfl) (by as_aux_lemma => kernel_rfl) (by as_aux_lemma => kernel_rfl) (by as_aux_lemma => kernel_rfl) (fun _ _ _ h => h) (hrr ▸ yieldsIf_load_mid (by as_aux_lemma => kernel_rfl) _ _ rfl b0 3 rfl (actR f) dR (fun w h => h.2.2.2.2.2) huR hdR hiR) (by assumption) ?_
  try simp only [Act.put, List.setIfInBounds_toArray, List.set_cons_zero, List.set_cons_succ]
  refine wpAnyH_take (i := 29) (oi := ⟨some 61, .move (.tmp 7), 30, "law.go:210", #[⟨23, .guard⟩], some (23, true)⟩) (v := ?_) (by as_aux_lemma => kernel_rfl) (by as_aux_lemma => kernel_rfl) (by as_aux_lemma => kernel_rfl) (by as_aux_lemma => kernel_rfl) (fun _ _ _ h => h) (Or.inl ⟨by as_aux_lemma => kernel_rfl, ?_⟩) (by assumption) ?_
  rotate_left
  · intro w hSw
    go_simp
    try with_reducible rfl
  try simp only [Act.put, List.setIfInBounds_toArray, List.set_cons_zero, List.set_cons_succ]
  refine wpAnyH_ready (rs := [28]) (by as_aux_lemma => kernel_rfl) (by simp) ?_
  refine AllReadyH.cons (o := ⟨some 60, .call ⟨.value (.func 13), #[(.tmp 4), (.tmp 57), (.tmp 59)], #[62, 3, 50]⟩, 30, "law.go:210", #[⟨25, .data⟩, ⟨27, .data⟩, ⟨23, .chain⟩, ⟨23, .guard⟩], some (23, true)⟩) (by as_aux_lemma => kernel_rfl) (fun K hK => ?_) AllReadyH.nil
  go_simp
  go_at_call 13
  refine (void_imu tk rr _ (hV _ hB101)).mono ?_
  rintro e x2 ⟨rfl, hx2⟩
  have hB102 : Below w6.heap.size w6 x2 := hB101.trans (hx2.mono hB101.size)
  refine hK.out _ _ (hS _ hB102) (fun hHeld2 => ?_)
  clear hHeld hx2 hK
  have hHeld := hHeld2
  clear hHeld2
  try simp only [Act.put, List.setIfInBounds_toArray, List.set_cons_zero, List.set_cons_succ]
  refine wpAnyH_take (i := 30) (oi := ⟨some 62, .binOp .eql 30 (.tmp 60) (.tmp 61) 30, 4, "law.go:210", #[⟨28, .data⟩, ⟨29, .data⟩, ⟨23, .guard⟩], some (23, true)⟩) (v := ?_) (by as_aux_lemma => kernel_rfl) (by as_aux_lemma => kernel_rfl) (by as_aux_lemma => kernel_rfl) (by as_aux_lemma => kernel_rfl) (fun _ _ _ h => h) (Or.inl ⟨by as_aux_lemma => kernel_rfl, ?_⟩) (by assumption) ?_
  rotate_left
  · intro w hSw
    go_simp
    try with_reducible rfl
  try simp only [Act.put, List.setIfInBounds_toArray, List.set_cons_zero, List.set_cons_succ]
  refine wpAnyH_take (i := 31) (oi := ⟨some 63, .pick (.tmp 55) (.tmp 62) (.const (.bool false)), 4, "law.go:210", #[⟨23, .data⟩, ⟨30, .data⟩], none⟩) (v := ?_) (by as_aux_lemma => kernel_rfl) (by as_aux_lemma => kernel_rfl) (by as_aux_lemma => kernel_rfl) (by as_aux_lemma => kernel_rfl) (fun _ _ _ h => h) (Or.inl ⟨by as_aux_lemma => kernel_rfl, ?_⟩) (by assumption) ?_
  rotate_left
  · intro w hSw
    go_simp
    try with_reducible rfl
  try simp only [Act.put, List.setIfInBounds_toArray, List.set_cons_zero, List.set_cons_succ]
  refine wpAnyH_take (i := 32) (oi := ⟨some 64, .move (.tmp 63), 4, "law.go:210", #[⟨31, .data⟩, ⟨28, .chain⟩], none⟩) (v := ?_) (by as_aux_lemma => kernel_rfl) (by as_aux_lemma => kernel_rfl) (by as_aux_lemma => kernel_rfl) (by as_aux_lemma => kernel_rfl) (fun _ _ _ h => h) (Or.inl ⟨by as_aux_lemma => kernel_rfl, ?_⟩) (by assumption) ?_
  rotate_left
  · intro w hSw
    go_simp
    try with_reducible rfl
  try simp only [Act.put, List.setIfInBounds_toArray, List.set_cons_zero, List.set_cons_succ]
  refine wpAnyH_take (i := 33) (oi := ⟨some 65, .move (.tmp 3), 29, "law.go:210", #[⟨32, .guard⟩], some (32, true)⟩) (v := ?_) (by as_aux_lemma => kernel_rfl) (by as_aux_lemma => kernel_rfl) (by as_aux_lemma => kernel_rfl) (by as_aux_lemma => kernel_rfl) (fun _ _ _ h => h) (Or.inl ⟨by as_aux_lemma => kernel_rfl, ?_⟩) (by assumption) ?_
  rotate_left
  · intro w hSw
    go_simp
    try with_reducible rfl
  try simp only [Act.put, List.setIfInBounds_toArray, List.set_cons_zero, List.set_cons_succ]
  refine wpAnyH_take (i := 34) (oi := ⟨some 66, .fieldAddr 52 (.tmp 1) 1, 0, "law.go:210", #[⟨32, .guard⟩], some (32, true)⟩) (v := ?_) (by as_aux_lemma => kernel_rfl) (by as_aux_lemma => kernel_rfl) (by as_aux_lemma => kernel_rfl) (by as_aux_lemma => kernel_rfl) (fun _ _ _ h => h) (Or.inl ⟨by as_aux_lemma => kernel_rfl, ?_⟩) (by assumption) ?_
  rotate_left
  · intro w hSw
    go_simp
    try with_reducible rfl
  try simp only [Act.put, List.setIfInBounds_toArray, List.set_cons_zero, List.set_cons_succ]
  refine wpAnyH_take (i := 35) (oi := ⟨some 67, .load 3 (.tmp 66), 3, "law.go:210", #[⟨34, .data⟩, ⟨32, .guard⟩], some (32, true)⟩) (v := ?_) (by as_aux_lemma => kernel_rfl) (by as_aux_lemma => kernel_rfl) (by as_aux_lemma => kernel_rfl) (by as_aux_lemma => kernel_rfl) (fun _ _ _ h => h) (Or.inl ⟨by as_aux_lemma => kernel_rfl, ?_⟩) (by assumption) ?_
  rotate_left
  · intro w hSw
    go_simp
    try with_reducible rfl
  try simp only [Act.put, List.setIfInBounds_toArray, List.set_cons_zero, List.set_cons_succ]
  refine wpAnyH_take (i := 36) (oi := ⟨some 68, .fieldAddr 52 (.tmp 1) 4, 0, "law.go:210", #[⟨32, .guard⟩], some (32, true)⟩) (v := ?_) (by as_aux_lemma => kernel_rfl) (by as_aux_lemma => kernel_rfl) (by as_aux_lemma => kernel_rfl) (by as_aux_lemma => kernel_rfl) (fun _ _ _ h => h) (Or.inl ⟨by as_aux_lemma => kernel_rfl, ?_⟩) (by assumption) ?_
  rotate_left
  · intro w hSw
    go_simp
    try with_reducible rfl
  try simp only [Act.put, List.setIfInBounds_toArray, List.set_cons_zero, List.set_cons_succ]
  refine wpAnyH_take (i := 37) (oi := ⟨some 69, .load 24 (.tmp 68), 24, "law.go:210", #[⟨36, .data⟩, ⟨32, .guard⟩], some (32, true)⟩) (v := ?_) (by as_aux_lemma => kernel_rfl) (by as_aux_lemma => kernel_rfl) (by as_aux_lemma => kernel_rfl) (by as_aux_lemma => kernel_rfl) (fun _ _ _ h => h) (Or.inl ⟨by as_aux_lemma => kernel_rfl, ?_⟩) (by assumption) ?_
  rotate_left
  · intro w hSw
    go_simp
    try with_reducible rfl
  try simp only [Act.put, List.setIfInBounds_toArray, List.set_cons_zero, List.set_cons_succ]
  refine wpAnyH_take (i := 38) (oi := ⟨some 70, .fieldAddr 52 (.tmp 1) 2, 0, "law.go:210", #[⟨32, .guard⟩], some (32, true)⟩) (v := ?_) (by as_aux_lemma => kernel_rfl) (by as_aux_lemma => kernel_rfl) (by as_aux_lemma => kernel_rfl) (by as_aux_lemma => kernel_rfl) (fun _ _ _ h => h) (Or.inl ⟨by as_aux_lemma => kernel_rfl, ?_⟩) (by assumption) ?_
  rotate_left
  · intro w hSw
    go_simp
    try with_reducible rfl
  try simp only [Act.put, List.setIfInBounds_toArray, List.set_cons_zero, List.set_cons_succ]
  refine wpAnyH_take (i := 39) (oi := ⟨some 71, .load 3 (.tmp 70), 3, "law.go:210", #[⟨38, .data⟩, ⟨32, .guard⟩], some (32, true)⟩) (v := ?_) (by as_aux_lemma => kernel_rfl) (by as_aux_lemma => kernel_rfl) (by as_aux_lemma => kernel_rfl) (by as_aux_lemma => kernel_rfl) (fun _ _ _ h => h) (Or.inl ⟨by as_aux_lemma => kernel_rfl, ?_⟩) (by assumption) ?_
  rotate_left
  · intro w hSw
    go_simp
    try with_reducible rfl
  try simp only [Act.put, List.setIfInBounds_toArray, List.set_cons_zero, List.set_cons_succ]
  refine wpAnyH_take (i := 41) (oi := ⟨some 73, .move (.tmp 7), 30, "law.go:210", #[⟨32, .guard⟩], some (32, true)⟩) (v := ?_) (by as_aux_lemma => kernel_rfl) (by as_aux_lemma => kernel_rfl) (by as_aux_lemma => kernel_rfl) (by as_aux_lemma => kernel_rfl) (fun _ _ _ h => h) (Or.inl ⟨by as_aux_lemma => kernel_rfl, ?_⟩) (by assumption) ?_
  rotate_left
  · intro w hSw
    go_simp
    try with_reducible rfl
  try simp only [Act.put, List.setIfInBounds_toArray, List.set_cons_zero, List.set_cons_succ]
  refine wpAnyH_ready (rs := [40]) (by as_aux_lemma => kernel_rfl) (by simp) ?_
  refine AllReadyH.cons (o := ⟨some 72, .call ⟨.value (.func 14), #[(.tmp 65), (.tmp 67), (.tmp 69), (.tmp 71)], #[29, 3, 24, 3]⟩, 30, "law.go:210", #[⟨33, .data⟩, ⟨35, .data⟩, ⟨37, .data⟩, ⟨39, .data⟩, ⟨32, .chain⟩, ⟨32, .guard⟩], some (32, true)⟩) (by as_aux_lemma => kernel_rfl) (fun K hK => ?_) AllReadyH.nil
  go_simp
  go_at_call 14
  refine (void_pull sr y0 y1 y2 tk (p := none) _ (.inl rfl)).mono ?_
  rintro e x3 ⟨rfl, hx3⟩
  have hB103 : Below w6.heap.size w6 x3 := hB102.trans (hx3.mono hB102.size)
  refine hK.out _ _ (hS _ hB103) (fun hHeld3 => ?_)
  clear hHeld hx3 hK
  have hHeld := hHeld3
  clear hHeld3
  try simp only [Act.put, List.setIfInBounds_toArray, List.set_cons_zero, List.set_cons_succ]
  refine wpAnyH_take (i := 42) (oi := ⟨some 74, .binOp .eql 30 (.tmp 72) (.tmp 73) 30, 4, "law.go:210", #[⟨40, .data⟩, ⟨41, .data⟩, ⟨32, .guard⟩], some (32, true)⟩) (v := ?_) (by as_aux_lemma => kernel_rfl) (by as_aux_lemma => kernel_rfl) (by as_aux_lemma => kernel_rfl) (by as_aux_lemma => kernel_rfl) (fun _ _ _ h => h) (Or.inl ⟨by as_aux_lemma => kernel_rfl, ?_⟩) (by assumption) ?_
  rotate_left
  · intro w hSw
    go_simp
    try with_reducible rfl
  try simp only [Act.put, List.setIfInBounds_toArray, List.set_cons_zero, List.set_cons_succ]
  refine wpAnyH_take (i := 43) (oi := ⟨some 75, .pick (.tmp 64) (.tmp 74) (.const (.bool false)), 4, "law.go:210", #[⟨32, .data⟩, ⟨42, .data⟩], none⟩) (v := ?_) (by as_aux_lemma => kernel_rfl) (by as_aux_lemma => kernel_rfl) (by as_aux_lemma => kernel_rfl) (by as_aux_lemma => kernel_rfl) (fun _ _ _ h => h) (Or.inl ⟨by as_aux_lemma => kernel_rfl, ?_⟩) (by assumption) ?_
  rotate_left
  · intro w hSw
    go_simp
    try with_reducible rfl
  try simp only [Act.put, List.setIfInBounds_toArray, List.set_cons_zero, List.set_cons_succ]
  refine wpAnyH_take (i := 44) (oi := ⟨some 76, .move (.tmp 75), 4, "law.go:210", #[⟨43, .data⟩, ⟨40, .chain⟩], none⟩) (v := ?_) (by as_aux_lemma => kernel_rfl) (by as_aux_lemma => kernel_rfl) (by as_aux_lemma => kernel_rfl) (by as_aux_lemma => kernel_rfl) (fun _ _ _ h => h) (Or.inl ⟨by as_aux_lemma => kernel_rfl, ?_⟩) (by assumption) ?_
  rotate_left
  · intro w hSw
    go_simp
    try with_reducible rfl
  try simp only [Act.put, List.setIfInBounds_toArray, List.set_cons_zero, List.set_cons_succ]
  refine wpAnyH_take (i := 45) (oi := ⟨some 77, .fieldAddr 52 (.tmp 1) 2, 0, "law.go:210", #[⟨44, .guard⟩], some (44, true)⟩) (v := ?_) (by as_aux_lemma => kernel_rfl) (by as_aux_lemma => kernel_rfl) (by as_aux_lemma => kernel_rfl) (by as_aux_lemma => kernel_rfl) (fun _ _ _ h => h) (Or.inl ⟨by as_aux_lemma => kernel_rfl, ?_⟩) (by assumption) ?_
  rotate_left
  · intro w hSw
    go_simp
    try with_reducible rfl
  try simp only [Act.put, List.setIfInBounds_toArray, List.set_cons_zero, List.set_cons_succ]
  refine wpAnyH_take (i := 46) (oi := ⟨some 78, .load 3 (.tmp 77), 3, "law.go:210", #[⟨45, .data⟩, ⟨44, .guard⟩], some (44, true)⟩) (v := ?_) (by as_aux_lemma => kernel_rfl) (by as_aux_lemma => kernel_rfl) (by as_aux_lemma => kernel_rfl) (by as_aux_lemma => kernel_rfl) (fun _ _ _ h => h) (Or.inl ⟨by as_aux_lemma => kernel_rfl, ?_⟩) (by assumption) ?_
  rotate_left
  · intro w hSw
    go_simp
    try with_reducible rfl
  try simp only [Act.put, List.setIfInBounds_toArray, List.set_cons_zero, List.set_cons_succ]
  refine wpAnyH_take (i := 48) (oi := ⟨some 80, .move (.tmp 7), 30, "law.go:210", #[⟨44, .guard⟩], some (44, true)⟩) (v := ?_) (by as_aux_lemma => kernel_rfl) (by as_aux_lemma => kernel_rfl) (by as_aux_lemma => kernel_rfl) (by as_aux_lemma => kernel_rfl) (fun _ _ _ h => h) (Or.inl ⟨by as_aux_lemma => kernel_rfl, ?_⟩) (by assumption) ?_
  rotate_left
  · intro w hSw
    go_simp
    try with_reducible rfl
  try simp only [Act.put, List.setIfInBounds_toArray, List.set_cons_zero, List.set_cons_succ]
  refine wpAnyH_ready (rs := [47]) (by as_aux_lemma => kernel_rfl) (by simp) ?_
  refine AllReadyH.cons (o := ⟨some 79, .call ⟨.value (.func 15), #[(.tmp 4), (.tmp 78)], #[62, 3]⟩, 30, "law.go:210", #[⟨46, .data⟩, ⟨44, .chain⟩, ⟨44, .guard⟩], some (44, true)⟩) (by as_aux_lemma => kernel_rfl) (fun K hK => ?_) AllReadyH.nil
  go_simp
  go_at_call 15
  refine (void_tick tk _ (hV _ hB103)).mono ?_
  rintro e x4 ⟨rfl, hx4⟩
  have hB104 : Below w6.heap.size w6 x4 := hB103.trans (hx4.mono hB103.size)
  refine hK.out _ _ (hS _ hB104) (fun hHeld4 => ?_)
  clear hHeld hx4 hK
  have hHeld := hHeld4
  clear hHeld4
  try simp only [Act.put, List.setIfInBounds_toArray, List.set_cons_zero, List.set_cons_succ]
  refine wpAnyH_take (i := 49) (oi := ⟨some 81, .binOp .eql 30 (.tmp 79) (.tmp 80) 30, 4, "law.go:210", #[⟨47, .data⟩, ⟨48, .data⟩, ⟨44, .guard⟩], some (44, true)⟩) (v := ?_) (by as_aux_lemma => kernel_rfl) (by as_aux_lemma => kernel_rfl) (by as_aux_lemma => kernel_rfl) (by as_aux_lemma => kernel_rfl) (fun _ _ _ h => h) (Or.inl ⟨by as_aux_lemma => kernel_rfl, ?_⟩) (by assumption) ?_
  rotate_left
  · intro w hSw
    go_simp
    try with_reducible rfl
  try simp only [Act.put, List.setIfInBounds_toArray, List.set_cons_zero, List.set_cons_succ]
  refine wpAnyH_take (i := 50) (oi := ⟨some 82, .pick (.tmp 76) (.tmp 81) (.const (.bool false)), 4, "law.go:210", #[⟨44, .data⟩, ⟨49, .data⟩], none⟩) (v := ?_) (by as_aux_lemma => kernel_rfl) (by as_aux_lemma => kernel_rfl) (by as_aux_lemma => kernel_rfl) (by as_aux_lemma => kernel_rfl) (fun _ _ _ h => h) (Or.inl ⟨by as_aux_lemma => kernel_rfl, ?_⟩) (by assumption) ?_
  rotate_left
  · intro w hSw
    go_simp
    try with_reducible rfl
  try simp only [Act.put, List.setIfInBounds_toArray, List.set_cons_zero, List.set_cons_succ]
  refine wpAnyH_take (i := 51) (oi := ⟨some 83, .move (.tmp 82), 4, "law.go:210", #[⟨50, .data⟩, ⟨47, .chain⟩], none⟩) (v := ?_) (by as_aux_lemma => kernel_rfl) (by as_aux_lemma => kernel_rfl) (by as_aux_lemma => kernel_rfl) (by as_aux_lemma => kernel_rfl) (fun _ _ _ h => h) (Or.inl ⟨by as_aux_lemma => kernel_rfl, ?_⟩) (by assumption) ?_
  rotate_left
  · intro w hSw
    go_simp
    try with_reducible rfl
  try simp only [Act.put, List.setIfInBounds_toArray, List.set_cons_zero, List.set_cons_succ]
  refine wpAnyH_take (i := 52) (oi := ⟨some 84, .move (.tmp 3), 29, "law.go:210", #[⟨51, .guard⟩], some (51, true)⟩) (v := ?_) (by as_aux_lemma => kernel_rfl) (by as_aux_lemma => kernel_rfl) (by as_aux_lemma => kernel_rfl) (by as_aux_lemma => kernel_rfl) (fun _ _ _ h => h) (Or.inl ⟨by as_aux_lemma => kernel_rfl, ?_⟩) (by assumption) ?_
  rotate_left
  · intro w hSw
    go_simp
    try with_reducible rfl
  try simp only [Act.put, List.setIfInBounds_toArray, List.set_cons_zero, List.set_cons_succ]
  refine wpAnyH_take (i := 54) (oi := ⟨some 86, .build 69 #[], 69, "law.go:210", #[⟨51, .guard⟩], some (51, true)⟩) (v := ?_) (by as_aux_lemma => kernel_rfl) (by as_aux_lemma => kernel_rfl) (by as_aux_lemma => kernel_rfl) (by as_aux_lemma => kernel_rfl) (fun _ _ _ h => h) (Or.inl ⟨by as_aux_lemma => kernel_rfl, ?_⟩) (by assumption) ?_
  rotate_left
  · intro w hSw
    go_simp
    try with_reducible rfl
  try simp only [Act.put, List.setIfInBounds_toArray, List.set_cons_zero, List.set_cons_succ]
  refine wpAnyH_ready (rs := [53]) (by as_aux_lemma => kernel_rfl) (by simp) ?_
  refine AllReadyH.cons (o := ⟨some 85, .call ⟨.value (.func 16), #[(.tmp 84)], #[29]⟩, 69, "law.go:210", #[⟨52, .data⟩, ⟨51, .chain⟩, ⟨51, .guard⟩], some (51, true)⟩) (by as_aux_lemma => kernel_rfl) (fun K hK => ?_) AllReadyH.nil
  go_simp
  go_at_call 16
  refine (void_out (p := none) _ (.inl rfl)).mono ?_
  rintro e x5 ⟨rfl, hx5⟩
  have hB105 : Below w6.heap.size w6 x5 := hB104.trans (hx5.mono hB104.size)
  refine hK.out _ _ (hS _ hB105) (fun hHeld5 => ?_)
  clear hHeld hx5 hK
  have hHeld := hHeld5
  clear hHeld5
  try simp only [Act.put, List.setIfInBounds_toArray, List.set_cons_zero, List.set_cons_succ]
  refine wpAnyH_take (i := 55) (oi := ⟨some 87, .binOp .eql 69 (.tmp 85) (.tmp 86) 69, 4, "law.go:210", #[⟨53, .data⟩, ⟨54, .data⟩, ⟨51, .guard⟩], some (51, true)⟩) (v := ?_) (by as_aux_lemma => kernel_rfl) (by as_aux_lemma => kernel_rfl) (by as_aux_lemma => kernel_rfl) (by as_aux_lemma => kernel_rfl) (fun _ _ _ h => h) (Or.inl ⟨by as_aux_lemma => kernel_rfl, ?_⟩) (by assumption) ?_
  rotate_left
  · intro w hSw
    go_simp
    try with_reducible rfl
  try simp only [Act.put, List.setIfInBounds_toArray, List.set_cons_zero, List.set_cons_succ]
  refine wpAnyH_take (i := 56) (oi := ⟨some 88, .pick (.tmp 83) (.tmp 87) (.const (.bool false)), 4, "law.go:210", #[⟨51, .data⟩, ⟨55, .data⟩], none⟩) (v := ?_) (by as_aux_lemma => kernel_rfl) (by as_aux_lemma => kernel_rfl) (by as_aux_lemma => kernel_rfl) (by as_aux_lemma => kernel_rfl) (fun _ _ _ h => h) (Or.inl ⟨by as_aux_lemma => kernel_rfl, ?_⟩) (by assumption) ?_
  rotate_left
  · intro w hSw
    go_simp
    try with_reducible rfl
  try simp only [Act.put, List.setIfInBounds_toArray, List.set_cons_zero, List.set_cons_succ]
  refine wpAnyH_take (i := 57) (oi := ⟨some 89, .move (.tmp 88), 4, "law.go:210", #[⟨56, .data⟩, ⟨53, .chain⟩], none⟩) (v := ?_) (by as_aux_lemma => kernel_rfl) (by as_aux_lemma => kernel_rfl) (by as_aux_lemma => kernel_rfl) (by as_aux_lemma => kernel_rfl) (fun _ _ _ h => h) (Or.inl ⟨by as_aux_lemma => kernel_rfl, ?_⟩) (by assumption) ?_
  rotate_left
  · intro w hSw
    go_simp
    try with_reducible rfl
  try simp only [Act.put, List.setIfInBounds_toArray, List.set_cons_zero, List.set_cons_succ]
  refine wpAnyH_take (i := 59) (oi := ⟨some 91, .build 69 #[], 69, "law.go:210", #[⟨57, .guard⟩], some (57, true)⟩) (v := ?_) (by as_aux_lemma => kernel_rfl) (by as_aux_lemma => kernel_rfl) (by as_aux_lemma => kernel_rfl) (by as_aux_lemma => kernel_rfl) (fun _ _ _ h => h) (Or.inl ⟨by as_aux_lemma => kernel_rfl, ?_⟩) (by assumption) ?_
  rotate_left
  · intro w hSw
    go_simp
    try with_reducible rfl
  try simp only [Act.put, List.setIfInBounds_toArray, List.set_cons_zero, List.set_cons_succ]
  refine wpAnyH_ready (rs := [58]) (by as_aux_lemma => kernel_rfl) (by simp) ?_
  refine AllReadyH.cons (o := ⟨some 90, .call ⟨.value (.func 16), #[(.tmp 4)], #[62]⟩, 69, "law.go:210", #[⟨57, .chain⟩, ⟨57, .guard⟩], some (57, true)⟩) (by as_aux_lemma => kernel_rfl) (fun K hK => ?_) AllReadyH.nil
  go_simp
  go_at_call 16
  refine (void_out _ (hV _ hB105)).mono ?_
  rintro e x6 ⟨rfl, hx6⟩
  have hB106 : Below w6.heap.size w6 x6 := hB105.trans (hx6.mono hB105.size)
  refine hK.out _ _ (hS _ hB106) (fun hHeld6 => ?_)
  clear hHeld hx6 hK
  have hHeld := hHeld6
  clear hHeld6
  try simp only [Act.put, List.setIfInBounds_toArray, List.set_cons_zero, List.set_cons_succ]
  refine wpAnyH_take (i := 60) (oi := ⟨some 92, .binOp .eql 69 (.tmp 90) (.tmp 91) 69, 4, "law.go:210", #[⟨58, .data⟩, ⟨59, .data⟩, ⟨57, .guard⟩], some (57, true)⟩) (v := ?_) (by as_aux_lemma => kernel_rfl) (by as_aux_lemma => kernel_rfl) (by as_aux_lemma => kernel_rfl) (by as_aux_lemma => kernel_rfl) (fun _ _ _ h => h) (Or.inl ⟨by as_aux_lemma => kernel_rfl, ?_⟩) (by assumption) ?_
  rotate_left
  · intro w hSw
    go_simp
    try with_reducible rfl
  try simp only [Act.put, List.setIfInBounds_toArray, List.set_cons_zero, List.set_cons_succ]
  refine wpAnyH_take (i := 61) (oi := ⟨some 93, .pick (.tmp 89) (.tmp 92) (.const (.bool false)), 4, "law.go:210", #[⟨57, .data⟩, ⟨60, .data⟩], none⟩) (v := ?_) (by as_aux_lemma => kernel_rfl) (by as_aux_lemma => kernel_rfl) (by as_aux_lemma => kernel_rfl) (by as_aux_lemma => kernel_rfl) (fun _ _ _ h => h) (Or.inl ⟨by as_aux_lemma => kernel_rfl, ?_⟩) (by assumption) ?_
  rotate_left
  · intro w hSw
    go_simp
    try with_reducible rfl
  try simp only [Act.put, List.setIfInBounds_toArray, List.set_cons_zero, List.set_cons_succ]
  refine wpAnyH_take (i := 62) (oi := ⟨some 94, .move (.tmp 93), 4, "law.go:210", #[⟨61, .data⟩, ⟨58, .chain⟩], none⟩) (v := ?_) (by as_aux_lemma => kernel_rfl) (by as_aux_lemma => kernel_rfl) (by as_aux_lemma => kernel_rfl) (by as_aux_lemma => kernel_rfl) (fun _ _ _ h => h) (Or.inl ⟨by as_aux_lemma => kernel_rfl, ?_⟩) (by assumption) ?_
  rotate_left
  · intro w hSw
    go_simp
    try with_reducible rfl
  try simp only [Act.put, List.setIfInBounds_toArray, List.set_cons_zero, List.set_cons_succ]
  refine wpAnyH_take (i := 63) (oi := ⟨some 95, .move (.tmp 3), 29, "law.go:210", #[⟨62, .guard⟩], some (62, true)⟩) (v := ?_) (by as_aux_lemma => kernel_rfl) (by as_aux_lemma => kernel_rfl) (by as_aux_lemma => kernel_rfl) (by as_aux_lemma => kernel_rfl) (fun _ _ _ h => h) (Or.inl ⟨by as_aux_lemma => kernel_rfl, ?_⟩) (by assumption) ?_
  rotate_left
  · intro w hSw
    go_simp
    try with_reducible rfl
  try simp only [Act.put, List.setIfInBounds_toArray, List.set_cons_zero, List.set_cons_succ]
  refine wpAnyH_take (i := 64) (oi := ⟨some 96, .fieldAddr 52 (.tmp 1) 2, 0, "law.go:210", #[⟨62, .guard⟩], some (62, true)⟩) (v := ?_) (by as_aux_lemma => kernel_rfl) (by as_aux_lemma => kernel_rfl) (by as_aux_lemma => kernel_rfl) (by as_aux_lemma => kernel_rfl) (fun _ _ _ h => h) (Or.inl ⟨by as_aux_lemma => kernel_rfl, ?_⟩) (by assumption) ?_
  rotate_left
  · intro w hSw
    go_simp
    try with_reducible rfl
  try simp only [Act.put, List.setIfInBounds_toArray, List.set_cons_zero, List.set_cons_succ]
  refine wpAnyH_take (i := 65) (oi := ⟨some 97, .load 3 (.tmp 96), 3, "law.go:210", #[⟨64, .data⟩, ⟨62, .guard⟩], some (62, true)⟩) (v := ?_) (by as_aux_lemma => kernel_rfl) (by as_aux_lemma => kernel_rfl) (by as_aux_lemma => kernel_rfl) (by as_aux_lemma => kernel_rfl) (fun _ _ _ h => h) (Or.inl ⟨by as_aux_lemma => kernel_rfl, ?_⟩) (by assumption) ?_
  rotate_left
  · intro w hSw
    go_simp
    try with_reducible rfl
  try simp only [Act.put, List.setIfInBounds_toArray, List.set_cons_zero, List.set_cons_succ]
  refine wpAnyH_take (i := 67) (oi := ⟨some 99, .fieldAddr 52 (.tmp 1) 2, 0, "law.go:210", #[⟨62, .guard⟩], some (62, true)⟩) (v := ?_) (by as_aux_lemma => kernel_rfl) (by as_aux_lemma => kernel_rfl) (by as_aux_lemma => kernel_rfl) (by as_aux_lemma => kernel_rfl) (fun _ _ _ h => h) (Or.inl ⟨by as_aux_lemma => kernel_rfl, ?_⟩) (by assumption) ?_
  rotate_left
  · intro w hSw
    go_simp
    try with_reducible rfl
  try simp only [Act.put, List.setIfInBounds_toArray, List.set_cons_zero, List.set_cons_succ]
  refine wpAnyH_take (i := 68) (oi := ⟨some 100, .load 3 (.tmp 99), 3, "law.go:210", #[⟨67, .data⟩, ⟨62, .guard⟩], some (62, true)⟩) (v := ?_) (by as_aux_lemma => kernel_rfl) (by as_aux_lemma => kernel_rfl) (by as_aux_lemma => kernel_rfl) (by as_aux_lemma => kernel_rfl) (fun _ _ _ h => h) (Or.inl ⟨by as_aux_lemma => kernel_rfl, ?_⟩) (by assumption) ?_
  rotate_left
  · intro w hSw
    go_simp
    try with_reducible rfl
  try simp only [Act.put, List.setIfInBounds_toArray, List.set_cons_zero, List.set_cons_succ]
  refine wpAnyH_take (i := 71) (oi := ⟨some 103, .move (.tmp 3), 29, "law.go:210", #[⟨62, .guard⟩], some (62, true)⟩) (v := ?_) (by as_aux_lemma => kernel_rfl) (by as_aux_lemma => kernel_rfl) (by as_aux_lemma => kernel_rfl) (by as_aux_lemma => kernel_rfl) (fun _ _ _ h => h) (Or.inl ⟨by as_aux_lemma => kernel_rfl, ?_⟩) (by assumption) ?_
  rotate_left
  · intro w hSw
    go_simp
    try with_reducible rfl
  try simp only [Act.put, List.setIfInBounds_toArray, List.set_cons_zero, List.set_cons_succ]
  refine wpAnyH_take (i := 72) (oi := ⟨some 104, .fieldAddr 52 (.tmp 1) 1, 0, "law.go:210", #[⟨62, .guard⟩], some (62, true)⟩) (v := ?_) (by as_aux_lemma => kernel_rfl) (by as_aux_lemma => kernel_rfl) (by as_aux_lemma => kernel_rfl) (by as_aux_lemma => kernel_rfl) (fun _ _ _ h => h) (Or.inl ⟨by as_aux_lemma => kernel_rfl, ?_⟩) (by assumption) ?_
  rotate_left
  · intro w hSw
    go_simp
    try with_reducible rfl
  try simp only [Act.put, List.setIfInBounds_toArray, List.set_cons_zero, List.set_cons_succ]
  refine wpAnyH_take (i := 73) (oi := ⟨some 105, .load 3 (.tmp 104), 3, "law.go:210", #[⟨72, .data⟩, ⟨62, .guard⟩], some (62, true)⟩) (v := ?_) (by as_aux_lemma => kernel_rfl) (by as_aux_lemma => kernel_rfl) (by as_aux_lemma => kernel_rfl) (by as_aux_lemma => kernel_rfl) (fun _ _ _ h => h) (Or.inl ⟨by as_aux_lemma => kernel_rfl, ?_⟩) (by assumption) ?_
  rotate_left
  · intro w hSw
    go_simp
    try with_reducible rfl
  try simp only [Act.put, List.setIfInBounds_toArray, List.set_cons_zero, List.set_cons_succ]
  refine wpAnyH_take (i := 74) (oi := ⟨some 106, .fieldAddr 52 (.tmp 1) 2, 0, "law.go:210", #[⟨62, .guard⟩], some (62, true)⟩) (v := ?_) (by as_aux_lemma => kernel_rfl) (by as_aux_lemma => kernel_rfl) (by as_aux_lemma => kernel_rfl) (by as_aux_lemma => kernel_rfl) (fun _ _ _ h => h) (Or.inl ⟨by as_aux_lemma => kernel_rfl, ?_⟩) (by assumption) ?_
  rotate_left
  · intro w hSw
    go_simp
    try with_reducible rfl
  try simp only [Act.put, List.setIfInBounds_toArray, List.set_cons_zero, List.set_cons_succ]
  refine wpAnyH_take (i := 75) (oi := ⟨some 107, .load 3 (.tmp 106), 3, "law.go:210", #[⟨74, .data⟩, ⟨62, .guard⟩], some (62, true)⟩) (v := ?_) (by as_aux_lemma => kernel_rfl) (by as_aux_lemma => kernel_rfl) (by as_aux_lemma => kernel_rfl) (by as_aux_lemma => kernel_rfl) (fun _ _ _ h => h) (Or.inl ⟨by as_aux_lemma => kernel_rfl, ?_⟩) (by assumption) ?_
  rotate_left
  · intro w hSw
    go_simp
    try with_reducible rfl
  try simp only [Act.put, List.setIfInBounds_toArray, List.set_cons_zero, List.set_cons_succ]
  refine wpAnyH_take (i := 78) (oi := ⟨some 110, .fieldAddr 52 (.tmp 1) 1, 0, "law.go:210", #[⟨62, .guard⟩], some (62, true)⟩) (v := ?_) (by as_aux_lemma => kernel_rfl) (by as_aux_lemma => kernel_rfl) (by as_aux_lemma => kernel_rfl) (by as_aux_lemma => kernel_rfl) (fun _ _ _ h => h) (Or.inl ⟨by as_aux_lemma => kernel_rfl, ?_⟩) (by assumption) ?_
  rotate_left
  · intro w hSw
    go_simp
    try with_reducible rfl
  try simp only [Act.put, List.setIfInBounds_toArray, List.set_cons_zero, List.set_cons_succ]
  refine wpAnyH_take (i := 79) (oi := ⟨some 111, .load 3 (.tmp 110), 3, "law.go:210", #[⟨78, .data⟩, ⟨62, .guard⟩], some (62, true)⟩) (v := ?_) (by as_aux_lemma => kernel_rfl) (by as_aux_lemma => kernel_rfl) (by as_aux_lemma => kernel_rfl) (by as_aux_lemma => kernel_rfl) (fun _ _ _ h => h) (Or.inl ⟨by as_aux_lemma => kernel_rfl, ?_⟩) (by assumption) ?_
  rotate_left
  · intro w hSw
    go_simp
    try with_reducible rfl
  try simp only [Act.put, List.setIfInBounds_toArray, List.set_cons_zero, List.set_cons_succ]
  refine wpAnyH_take (i := 80) (oi := ⟨some 112, .fieldAddr 52 (.tmp 1) 2, 0, "law.go:210", #[⟨62, .guard⟩], some (62, true)⟩) (v := ?_) (by as_aux_lemma => kernel_rfl) (by as_aux_lemma => kernel_rfl) (by as_aux_lemma => kernel_rfl) (by as_aux_lemma => kernel_rfl) (fun _ _ _ h => h) (Or.inl ⟨by as_aux_lemma => kernel_rfl, ?_⟩) (by assumption) ?_
  rotate_left
  · intro w hSw
    go_simp
    try with_reducible rfl
  try simp only [Act.put, List.setIfInBounds_toArray, List.set_cons_zero, List.set_cons_succ]
  refine wpAnyH_take (i := 81) (oi := ⟨some 113, .load 3 (.tmp 112), 3, "law.go:210", #[⟨80, .data⟩, ⟨62, .guard⟩], some (62, true)⟩) (v := ?_) (by as_aux_lemma => kernel_rfl) (by as_aux_lemma => kernel_rfl) (by as_aux_lemma => kernel_rfl) (by as_aux_lemma => kernel_rfl) (fun _ _ _ h => h) (Or.inl ⟨by as_aux_lemma => kernel_rfl, ?_⟩) (by assumption) ?_
  rotate_left
  · intro w hSw
    go_simp
    try with_reducible rfl
  try simp only [Act.put, List.setIfInBounds_toArray, List.set_cons_zero, List.set_cons_succ]
  refine wpAnyH_ready (rs := [66]) (by as_aux_lemma => kernel_rfl) (by simp) ?_
  refine AllReadyH.cons (o := ⟨some 98, .call ⟨.value (.func 17), #[(.tmp 95), (.tmp 97)], #[29, 3]⟩, 3, "law.go:210", #[⟨63, .data⟩, ⟨65, .data⟩, ⟨62, .chain⟩, ⟨62, .guard⟩], some (62, true)⟩) (by as_aux_lemma => kernel_rfl) (fun K hK => ?_) AllReadyH.nil
  go_simp
  go_at_call 17
  refine (void_mode tk (p := none) _ (.inl rfl)).mono ?_
  rintro e x7 ⟨rfl, hx7⟩
  have hB107 : Below w6.heap.size w6 x7 := hB106.trans (hx7.mono hB106.size)
  refine hK.out _ _ (hS _ hB107) (fun hHeld7 => ?_)
  clear hHeld hx7 hK
  have hHeld := hHeld7
  clear hHeld7
  try simp only [Act.put, List.setIfInBounds_toArray, List.set_cons_zero, List.set_cons_succ]
  refine wpAnyH_ready (rs := [69]) (by as_aux_lemma => kernel_rfl) (by simp) ?_
  refine AllReadyH.cons (o := ⟨some 101, .call ⟨.value (.func 17), #[(.tmp 4), (.tmp 100)], #[62, 3]⟩, 3, "law.go:210", #[⟨68, .data⟩, ⟨66, .chain⟩, ⟨62, .guard⟩], some (62, true)⟩) (by as_aux_lemma => kernel_rfl) (fun K hK => ?_) AllReadyH.nil
  go_simp
  go_at_call 17
  refine (void_mode tk _ (hV _ hB107)).mono ?_
  rintro e x8 ⟨rfl, hx8⟩
  have hB108 : Below w6.heap.size w6 x8 := hB107.trans (hx8.mono hB107.size)
  refine hK.out _ _ (hS _ hB108) (fun hHeld8 => ?_)
  clear hHeld hx8 hK
  have hHeld := hHeld8
  clear hHeld8
  try simp only [Act.put, List.setIfInBounds_toArray, List.set_cons_zero, List.set_cons_succ]
  refine wpAnyH_take (i := 70) (oi := ⟨some 102, .binOp .add 3 (.tmp 98) (.tmp 101) 3, 3, "law.go:210", #[⟨66, .data⟩, ⟨69, .data⟩, ⟨62, .guard⟩], some (62, true)⟩) (v := ?_) (by as_aux_lemma => kernel_rfl) (by as_aux_lemma => kernel_rfl) (by as_aux_lemma => kernel_rfl) (by as_aux_lemma => kernel_rfl) (fun _ _ _ h => h) (Or.inl ⟨by as_aux_lemma => kernel_rfl, ?_⟩) (by assumption) ?_
  rotate_left
  · intro w hSw
    go_simp
    try with_reducible rfl
  try simp only [Act.put, List.setIfInBounds_toArray, List.set_cons_zero, List.set_cons_succ]
  refine wpAnyH_ready (rs := [76]) (by as_aux_lemma => kernel_rfl) (by simp) ?_
  refine AllReadyH.cons (o := ⟨some 108, .call ⟨.value (.func 18), #[(.tmp 103), (.tmp 105), (.tmp 107)], #[29, 3, 3]⟩, 3, "law.go:210", #[⟨71, .data⟩, ⟨73, .data⟩, ⟨75, .data⟩, ⟨69, .chain⟩, ⟨62, .guard⟩], some (62, true)⟩) (by as_aux_lemma => kernel_rfl) (fun K hK => ?_) AllReadyH.nil
  go_simp
  go_at_call 18
  refine (void_age sr tk (p := none) _ (.inl rfl)).mono ?_
  rintro e x9 ⟨rfl, hx9⟩
  have hB109 : Below w6.heap.size w6 x9 := hB108.trans (hx9.mono hB108.size)
  refine hK.out _ _ (hS _ hB109) (fun hHeld9 => ?_)
  clear hHeld hx9 hK
  have hHeld := hHeld9
  clear hHeld9
  try simp only [Act.put, List.setIfInBounds_toArray, List.set_cons_zero, List.set_cons_succ]
  refine wpAnyH_take (i := 77) (oi := ⟨some 109, .binOp .add 3 (.tmp 102) (.tmp 108) 3, 3, "law.go:210", #[⟨70, .data⟩, ⟨76, .data⟩, ⟨62, .guard⟩], some (62, true)⟩) (v := ?_) (by as_aux_lemma => kernel_rfl) (by as_aux_lemma => kernel_rfl) (by as_aux_lemma => kernel_rfl) (by as_aux_lemma => kernel_rfl) (fun _ _ _ h => h) (Or.inl ⟨by as_aux_lemma => kernel_rfl, ?_⟩) (by assumption) ?_
  rotate_left
  · intro w hSw
    go_simp
    try with_reducible rfl
  try simp only [Act.put, List.setIfInBounds_toArray, List.set_cons_zero, List.set_cons_succ]
  refine wpAnyH_ready (rs := [82]) (by as_aux_lemma => kernel_rfl) (by simp) ?_
  refine AllReadyH.cons (o := ⟨some 114, .call ⟨.value (.func 18), #[(.tmp 4), (.tmp 111), (.tmp 113)], #[62, 3, 3]⟩, 3, "law.go:210", #[⟨79, .data⟩, ⟨81, .data⟩, ⟨76, .chain⟩, ⟨62, .guard⟩], some (62, true)⟩) (by as_aux_lemma => kernel_rfl) (fun K hK => ?_) AllReadyH.nil
  go_simp
  go_at_call 18
  refine (void_age sr tk _ (hV _ hB109)).mono ?_
  rintro e x10 ⟨rfl, hx10⟩
  have hB110 : Below w6.heap.size w6 x10 := hB109.trans (hx10.mono hB109.size)
  refine hK.out _ _ (hS _ hB110) (fun hHeld10 => ?_)
  clear hHeld hx10 hK
  have hHeld := hHeld10
  clear hHeld10
  try simp only [Act.put, List.setIfInBounds_toArray, List.set_cons_zero, List.set_cons_succ]
  refine wpAnyH_take (i := 83) (oi := ⟨some 115, .binOp .add 3 (.tmp 109) (.tmp 114) 3, 3, "law.go:210", #[⟨77, .data⟩, ⟨82, .data⟩, ⟨62, .guard⟩], some (62, true)⟩) (v := ?_) (by as_aux_lemma => kernel_rfl) (by as_aux_lemma => kernel_rfl) (by as_aux_lemma => kernel_rfl) (by as_aux_lemma => kernel_rfl) (fun _ _ _ h => h) (Or.inl ⟨by as_aux_lemma => kernel_rfl, ?_⟩) (by assumption) ?_
  rotate_left
  · intro w hSw
    go_simp
    try with_reducible rfl
  try simp only [Act.put, List.setIfInBounds_toArray, List.set_cons_zero, List.set_cons_succ]
  refine wpAnyH_take (i := 84) (oi := ⟨some 116, .binOp .eql 3 (.tmp 115) (.const (.int .i64 0)) 3, 4, "law.go:210", #[⟨83, .data⟩, ⟨62, .guard⟩], some (62, true)⟩) (v := ?_) (by as_aux_lemma => kernel_rfl) (by as_aux_lemma => kernel_rfl) (by as_aux_lemma => kernel_rfl) (by as_aux_lemma => kernel_rfl) (fun _ _ _ h => h) (Or.inl ⟨by as_aux_lemma => kernel_rfl, ?_⟩) (by assumption) ?_
  rotate_left
  · intro w hSw
    go_simp
    try with_reducible rfl
  try simp only [Act.put, List.setIfInBounds_toArray, List.set_cons_zero, List.set_cons_succ]
  refine wpAnyH_take (i := 85) (oi := ⟨some 117, .pick (.tmp 94) (.tmp 116) (.const (.bool false)), 4, "law.go:210", #[⟨62, .data⟩, ⟨84, .data⟩], none⟩) (v := ?_) (by as_aux_lemma => kernel_rfl) (by as_aux_lemma => kernel_rfl) (by as_aux_lemma => kernel_rfl) (by as_aux_lemma => kernel_rfl) (fun _ _ _ h => h) (Or.inl ⟨by as_aux_lemma => kernel_rfl, ?_⟩) (by assumption) ?_
  rotate_left
  · intro w hSw
    go_simp
    try with_reducible rfl
  try simp only [Act.put, List.setIfInBounds_toArray, List.set_cons_zero, List.set_cons_succ]
  refine wpAnyH_take (i := 86) (oi := ⟨some 118, .move (.tmp 117), 4, "law.go:210", #[⟨85, .data⟩, ⟨82, .chain⟩], none⟩) (v := ?_) (by as_aux_lemma => kernel_rfl) (by as_aux_lemma => kernel_rfl) (by as_aux_lemma => kernel_rfl) (by as_aux_lemma => kernel_rfl) (fun _ _ _ h => h) (Or.inl ⟨by as_aux_lemma => kernel_rfl, ?_⟩) (by assumption) ?_
  rotate_left
  · intro w hSw
    go_simp
    try with_reducible rfl
  try simp only [Act.put, List.setIfInBounds_toArray, List.set_cons_zero, List.set_cons_succ]
  refine wpAnyH_take (i := 87) (oi := ⟨some 119, .move (.tmp 3), 29, "law.go:210", #[⟨86, .guard⟩], some (86, true)⟩) (v := ?_) (by as_aux_lemma => kernel_rfl) (by as_aux_lemma => kernel_rfl) (by as_aux_lemma => kernel_rfl) (by as_aux_lemma => kernel_rfl) (fun _ _ _ h => h) (Or.inl ⟨by as_aux_lemma => kernel_rfl, ?_⟩) (by assumption) ?_
  rotate_left
  · intro w hSw
    go_simp
    try with_reducible rfl
  try simp only [Act.put, List.setIfInBounds_toArray, List.set_cons_zero, List.set_cons_succ]
  refine wpAnyH_take (i := 88) (oi := ⟨some 120, .fieldAddr 52 (.tmp 1) 2, 0, "law.go:210", #[⟨86, .guard⟩], some (86, true)⟩) (v := ?_) (by as_aux_lemma => kernel_rfl) (by as_aux_lemma => kernel_rfl) (by as_aux_lemma => kernel_rfl) (by as_aux_lemma => kernel_rfl) (fun _ _ _ h => h) (Or.inl ⟨by as_aux_lemma => kernel_rfl, ?_⟩) (by assumption) ?_
  rotate_left
  · intro w hSw
    go_simp
    try with_reducible rfl
  try simp only [Act.put, List.setIfInBounds_toArray, List.set_cons_zero, List.set_cons_succ]
  refine wpAnyH_take (i := 89) (oi := ⟨some 121, .load 3 (.tmp 120), 3, "law.go:210", #[⟨88, .data⟩, ⟨86, .guard⟩], some (86, true)⟩) (v := ?_) (by as_aux_lemma => kernel_rfl) (by as_aux_lemma => kernel_rfl) (by as_aux_lemma => kernel_rfl) (by as_aux_lemma => kernel_rfl) (fun _ _ _ h => h) (Or.inl ⟨by as_aux_lemma => kernel_rfl, ?_⟩) (by assumption) ?_
  rotate_left
  · intro w hSw
    go_simp
    try with_reducible rfl
  try simp only [Act.put, List.setIfInBounds_toArray, List.set_cons_zero, List.set_cons_succ]
  refine wpAnyH_take (i := 91) (oi := ⟨some 123, .fieldAddr 52 (.tmp 1) 2, 0, "law.go:210", #[⟨86, .guard⟩], some (86, true)⟩) (v := ?_) (by as_aux_lemma => kernel_rfl) (by as_aux_lemma => kernel_rfl) (by as_aux_lemma => kernel_rfl) (by as_aux_lemma => kernel_rfl) (fun _ _ _ h => h) (Or.inl ⟨by as_aux_lemma => kernel_rfl, ?_⟩) (by assumption) ?_
  rotate_left
  · intro w hSw
    go_simp
    try with_reducible rfl
  try simp only [Act.put, List.setIfInBounds_toArray, List.set_cons_zero, List.set_cons_succ]
  refine wpAnyH_take (i := 92) (oi := ⟨some 124, .load 3 (.tmp 123), 3, "law.go:210", #[⟨91, .data⟩, ⟨86, .guard⟩], some (86, true)⟩) (v := ?_) (by as_aux_lemma => kernel_rfl) (by as_aux_lemma => kernel_rfl) (by as_aux_lemma => kernel_rfl) (by as_aux_lemma => kernel_rfl) (fun _ _ _ h => h) (Or.inl ⟨by as_aux_lemma => kernel_rfl, ?_⟩) (by assumption) ?_
  rotate_left
  · intro w hSw
    go_simp
    try with_reducible rfl
  try simp only [Act.put, List.setIfInBounds_toArray, List.set_cons_zero, List.set_cons_succ]
  refine wpAnyH_ready (rs := [90]) (by as_aux_lemma => kernel_rfl) (by simp) ?_
  refine AllReadyH.cons (o := ⟨some 122, .call ⟨.value (.func 19), #[(.tmp 119), (.tmp 121)], #[29, 3]⟩, 22, "law.go:210", #[⟨87, .data⟩, ⟨89, .data⟩, ⟨86, .chain⟩, ⟨86, .guard⟩], some (86, true)⟩) (by as_aux_lemma => kernel_rfl) (fun K hK => ?_) AllReadyH.nil
  go_simp
  go_at_call 19
  refine (void_bound tk (p := none) _ (.inl rfl)).mono ?_
  rintro e x11 ⟨rfl, hx11⟩
  have hB111 : Below w6.heap.size w6 x11 := hB110.trans (hx11.mono hB110.size)
  refine hK.out _ _ (hS _ hB111) (fun hHeld11 => ?_)
  clear hHeld hx11 hK
  have hHeld := hHeld11
  clear hHeld11
  try simp only [Act.put, List.setIfInBounds_toArray, List.set_cons_zero, List.set_cons_succ]
  refine wpAnyH_ready (rs := [93]) (by as_aux_lemma => kernel_rfl) (by simp) ?_
  refine AllReadyH.cons (o := ⟨some 125, .call ⟨.value (.func 19), #[(.tmp 4), (.tmp 124)], #[62, 3]⟩, 22, "law.go:210", #[⟨92, .data⟩, ⟨90, .chain⟩, ⟨86, .guard⟩], some (86, true)⟩) (by as_aux_lemma => kernel_rfl) (fun K hK => ?_) AllReadyH.nil
  go_simp
  go_at_call 19
  refine (void_bound tk _ (hV _ hB111)).mono ?_
  rintro e x12 ⟨rfl, hx12⟩
  have hB112 : Below w6.heap.size w6 x12 := hB111.trans (hx12.mono hB111.size)
  refine hK.out _ _ (hS _ hB112) (fun hHeld12 => ?_)
  clear hHeld hx12 hK
  have hHeld := hHeld12
  clear hHeld12
  try simp only [Act.put, List.setIfInBounds_toArray, List.set_cons_zero, List.set_cons_succ]
  refine wpAnyH_take (i := 94) (oi := ⟨some 126, .binOp .add 22 (.tmp 122) (.tmp 125) 22, 22, "law.go:210", #[⟨90, .data⟩, ⟨93, .data⟩, ⟨86, .guard⟩], some (86, true)⟩) (v := ?_) (by as_aux_lemma => kernel_rfl) (by as_aux_lemma => kernel_rfl) (by as_aux_lemma => kernel_rfl) (by as_aux_lemma => kernel_rfl) (fun _ _ _ h => h) (Or.inl ⟨by as_aux_lemma => kernel_rfl, ?_⟩) (by assumption) ?_
  rotate_left
  · intro w hSw
    go_simp
    try with_reducible rfl
  try simp only [Act.put, List.setIfInBounds_toArray, List.set_cons_zero, List.set_cons_succ]
  refine wpAnyH_take (i := 95) (oi := ⟨some 127, .binOp .eql 22 (.tmp 126) (.const (.int .i64 0)) 22, 4, "law.go:210", #[⟨94, .data⟩, ⟨86, .guard⟩], some (86, true)⟩) (v := ?_) (by as_aux_lemma => kernel_rfl) (by as_aux_lemma => kernel_rfl) (by as_aux_lemma => kernel_rfl) (by as_aux_lemma => kernel_rfl) (fun _ _ _ h => h) (Or.inl ⟨by as_aux_lemma => kernel_rfl, ?_⟩) (by assumption) ?_
  rotate_left
  · intro w hSw
    go_simp
    try with_reducible rfl
  try simp only [Act.put, List.setIfInBounds_toArray, List.set_cons_zero, List.set_cons_succ]
  refine wpAnyH_take (i := 96) (oi := ⟨some 128, .pick (.tmp 118) (.tmp 127) (.const (.bool false)), 4, "law.go:210", #[⟨86, .data⟩, ⟨95, .data⟩], none⟩) (v := ?_) (by as_aux_lemma => kernel_rfl) (by as_aux_lemma => kernel_rfl) (by as_aux_lemma => kernel_rfl) (by as_aux_lemma => kernel_rfl) (fun _ _ _ h => h) (Or.inl ⟨by as_aux_lemma => kernel_rfl, ?_⟩) (by assumption) ?_
  rotate_left
  · intro w hSw
    go_simp
    try with_reducible rfl
  try simp only [Act.put, List.setIfInBounds_toArray, List.set_cons_zero, List.set_cons_succ]
  refine wpAnyH_take (i := 97) (oi := ⟨some 129, .move (.tmp 128), 4, "law.go:210", #[⟨96, .data⟩, ⟨93, .chain⟩], none⟩) (v := ?_) (by as_aux_lemma => kernel_rfl) (by as_aux_lemma => kernel_rfl) (by as_aux_lemma => kernel_rfl) (by as_aux_lemma => kernel_rfl) (fun _ _ _ h => h) (Or.inl ⟨by as_aux_lemma => kernel_rfl, ?_⟩) (by assumption) ?_
  rotate_left
  · intro w hSw
    go_simp
    try with_reducible rfl
  try simp only [Act.put, List.setIfInBounds_toArray, List.set_cons_zero, List.set_cons_succ]
  refine wpAnyH_take (i := 98) (oi := ⟨some 130, .move (.tmp 3), 29, "law.go:210", #[⟨97, .guard⟩], some (97, true)⟩) (v := ?_) (by as_aux_lemma => kernel_rfl) (by as_aux_lemma => kernel_rfl) (by as_aux_lemma => kernel_rfl) (by as_aux_lemma => kernel_rfl) (fun _ _ _ h => h) (Or.inl ⟨by as_aux_lemma => kernel_rfl, ?_⟩) (by assumption) ?_
  rotate_left
  · intro w hSw
    go_simp
    try with_reducible rfl
  try simp only [Act.put, List.setIfInBounds_toArray, List.set_cons_zero, List.set_cons_succ]
  refine wpAnyH_ready (rs := [99]) (by as_aux_lemma => kernel_rfl) (by simp) ?_
  refine AllReadyH.cons (o := ⟨some 131, .call ⟨.value (.func 20), #[(.tmp 130)], #[29]⟩, 4, "law.go:210", #[⟨98, .data⟩, ⟨97, .chain⟩, ⟨97, .guard⟩], some (97, true)⟩) (by as_aux_lemma => kernel_rfl) (fun K hK => ?_) AllReadyH.nil
  go_simp
  go_at_call 20
  refine (void_cut (p := none) _ (.inl rfl)).mono ?_
  rintro e x13 ⟨rfl, hx13⟩
  have hB113 : Below w6.heap.size w6 x13 := hB112.trans (hx13.mono hB112.size)
  refine hK.out _ _ (hS _ hB113) (fun hHeld13 => ?_)
  clear hHeld hx13 hK
  have hHeld := hHeld13
  clear hHeld13
  try simp only [Act.put, List.setIfInBounds_toArray, List.set_cons_zero, List.set_cons_succ]
  refine wpAnyH_take (i := 100) (oi := ⟨some 132, .unOp .not 4 (.tmp 131), 4, "law.go:210", #[⟨99, .data⟩, ⟨97, .guard⟩], some (97, true)⟩) (v := ?_) (by as_aux_lemma => kernel_rfl) (by as_aux_lemma => kernel_rfl) (by as_aux_lemma => kernel_rfl) (by as_aux_lemma => kernel_rfl) (fun _ _ _ h => h) (Or.inl ⟨by as_aux_lemma => kernel_rfl, ?_⟩) (by assumption) ?_
  rotate_left
  · intro w hSw
    go_simp
    try with_reducible rfl
  try simp only [Act.put, List.setIfInBounds_toArray, List.set_cons_zero, List.set_cons_succ]
  refine wpAnyH_take (i := 101) (oi := ⟨some 133, .pick (.tmp 129) (.tmp 132) (.const (.bool false)), 4, "law.go:210", #[⟨97, .data⟩, ⟨100, .data⟩], none⟩) (v := ?_) (by as_aux_lemma => kernel_rfl) (by as_aux_lemma => kernel_rfl) (by as_aux_lemma => kernel_rfl) (by as_aux_lemma => kernel_rfl) (fun _ _ _ h => h) (Or.inl ⟨by as_aux_lemma => kernel_rfl, ?_⟩) (by assumption) ?_
  rotate_left
  · intro w hSw
    go_simp
    try with_reducible rfl
  try simp only [Act.put, List.setIfInBounds_toArray, List.set_cons_zero, List.set_cons_succ]
  refine wpAnyH_take (i := 102) (oi := ⟨some 134, .move (.tmp 133), 4, "law.go:210", #[⟨101, .data⟩, ⟨99, .chain⟩], none⟩) (v := ?_) (by as_aux_lemma => kernel_rfl) (by as_aux_lemma => kernel_rfl) (by as_aux_lemma => kernel_rfl) (by as_aux_lemma => kernel_rfl) (fun _ _ _ h => h) (Or.inl ⟨by as_aux_lemma => kernel_rfl, ?_⟩) (by assumption) ?_
  rotate_left
  · intro w hSw
    go_simp
    try with_reducible rfl
  try simp only [Act.put, List.setIfInBounds_toArray, List.set_cons_zero, List.set_cons_succ]
  refine wpAnyH_ready (rs := [103]) (by as_aux_lemma => kernel_rfl) (by simp) ?_
  refine AllReadyH.cons (o := ⟨some 135, .call ⟨.value (.func 20), #[(.tmp 4)], #[62]⟩, 4, "law.go:210", #[⟨102, .chain⟩, ⟨102, .guard⟩], some (102, true)⟩) (by as_aux_lemma => kernel_rfl) (fun K hK => ?_) AllReadyH.nil
  go_simp
  go_at_call 20
  refine (void_cut _ (hV _ hB113)).mono ?_
  rintro e x14 ⟨rfl, hx14⟩
  have hB114 : Below w6.heap.size w6 x14 := hB113.trans (hx14.mono hB113.size)
  refine hK.out _ _ (hS _ hB114) (fun hHeld14 => ?_)
  clear hHeld hx14 hK
  have hHeld := hHeld14
  clear hHeld14
  try simp only [Act.put, List.setIfInBounds_toArray, List.set_cons_zero, List.set_cons_succ]
  refine wpAnyH_take (i := 104) (oi := ⟨some 136, .unOp .not 4 (.tmp 135), 4, "law.go:210", #[⟨103, .data⟩, ⟨102, .guard⟩], some (102, true)⟩) (v := ?_) (by as_aux_lemma => kernel_rfl) (by as_aux_lemma => kernel_rfl) (by as_aux_lemma => kernel_rfl) (by as_aux_lemma => kernel_rfl) (fun _ _ _ h => h) (Or.inl ⟨by as_aux_lemma => kernel_rfl, ?_⟩) (by assumption) ?_
  rotate_left
  · intro w hSw
    go_simp
    try with_reducible rfl
  try simp only [Act.put, List.setIfInBounds_toArray, List.set_cons_zero, List.set_cons_succ]
  refine wpAnyH_take (i := 105) (oi := ⟨some 137, .pick (.tmp 134) (.tmp 136) (.const (.bool false)), 4, "law.go:210", #[⟨102, .data⟩, ⟨104, .data⟩], none⟩) (v := ?_) (by as_aux_lemma => kernel_rfl) (by as_aux_lemma => kernel_rfl) (by as_aux_lemma => kernel_rfl) (by as_aux_lemma => kernel_rfl) (fun _ _ _ h => h) (Or.inl ⟨by as_aux_lemma => kernel_rfl, ?_⟩) (by assumption) ?_
  rotate_left
  · intro w hSw
    go_simp
    try with_reducible rfl
  try simp only [Act.put, List.setIfInBounds_toArray, List.set_cons_zero, List.set_cons_succ]
  refine wpAnyH_take (i := 106) (oi := ⟨some 138, .move (.tmp 137), 4, "law.go:210", #[⟨105, .data⟩, ⟨103, .chain⟩], none⟩) (v := ?_) (by as_aux_lemma => kernel_rfl) (by as_aux_lemma => kernel_rfl) (by as_aux_lemma => kernel_rfl) (by as_aux_lemma => kernel_rfl) (fun _ _ _ h => h) (Or.inl ⟨by as_aux_lemma => kernel_rfl, ?_⟩) (by assumption) ?_
  rotate_left
  · intro w hSw
    go_simp
    try with_reducible rfl
  try simp only [Act.put, List.setIfInBounds_toArray, List.set_cons_zero, List.set_cons_succ]
  refine wpAnyH_take (i := 107) (oi := ⟨some 139, .move (.tmp 3), 29, "law.go:210", #[⟨106, .guard⟩], some (106, true)⟩) (v := ?_) (by as_aux_lemma => kernel_rfl) (by as_aux_lemma => kernel_rfl) (by as_aux_lemma => kernel_rfl) (by as_aux_lemma => kernel_rfl) (fun _ _ _ h => h) (Or.inl ⟨by as_aux_lemma => kernel_rfl, ?_⟩) (by assumption) ?_
  rotate_left
  · intro w hSw
    go_simp
    try with_reducible rfl
  try simp only [Act.put, List.setIfInBounds_toArray, List.set_cons_zero, List.set_cons_succ]
  refine wpAnyH_take (i := 108) (oi := ⟨some 140, .fieldAddr 52 (.tmp 1) 1, 0, "law.go:210", #[⟨106, .guard⟩], some (106, true)⟩) (v := ?_) (by as_aux_lemma => kernel_rfl) (by as_aux_lemma => kernel_rfl) (by as_aux_lemma => kernel_rfl) (by as_aux_lemma => kernel_rfl) (fun _ _ _ h => h) (Or.inl ⟨by as_aux_lemma => kernel_rfl, ?_⟩) (by assumption) ?_
  rotate_left
  · intro w hSw
    go_simp
    try with_reducible rfl
  try simp only [Act.put, List.setIfInBounds_toArray, List.set_cons_zero, List.set_cons_succ]
  refine wpAnyH_take (i := 109) (oi := ⟨some 141, .load 3 (.tmp 140), 3, "law.go:210", #[⟨108, .data⟩, ⟨106, .guard⟩], some (106, true)⟩) (v := ?_) (by as_aux_lemma => kernel_rfl) (by as_aux_lemma => kernel_rfl) (by as_aux_lemma => kernel_rfl) (by as_aux_lemma => kernel_rfl) (fun _ _ _ h => h) (Or.inl ⟨by as_aux_lemma => kernel_rfl, ?_⟩) (by assumption) ?_
  rotate_left
  · intro w hSw
    go_simp
    try with_reducible rfl
  try simp only [Act.put, List.setIfInBounds_toArray, List.set_cons_zero, List.set_cons_succ]
  refine wpAnyH_take (i := 111) (oi := ⟨some 143, .build 75 #[], 75, "law.go:210", #[⟨106, .guard⟩], some (106, true)⟩) (v := ?_) (by as_aux_lemma => kernel_rfl) (by as_aux_lemma => kernel_rfl) (by as_aux_lemma => kernel_rfl) (by as_aux_lemma => kernel_rfl) (fun _ _ _ h => h) (Or.inl ⟨by as_aux_lemma => kernel_rfl, ?_⟩) (by assumption) ?_
  rotate_left
  · intro w hSw
    go_simp
    try with_reducible rfl
  try simp only [Act.put, List.setIfInBounds_toArray, List.set_cons_zero, List.set_cons_succ]
  refine wpAnyH_ready (rs := [110]) (by as_aux_lemma => kernel_rfl) (by simp) ?_
  refine AllReadyH.cons (o := ⟨some 142, .call ⟨.value (.func 21), #[(.tmp 139), (.tmp 141)], #[29, 3]⟩, 75, "law.go:210", #[⟨107, .data⟩, ⟨109, .data⟩, ⟨106, .chain⟩, ⟨106, .guard⟩], some (106, true)⟩) (by as_aux_lemma => kernel_rfl) (fun K hK => ?_) AllReadyH.nil
  go_simp
  go_at_call 21
  refine (void_corr sr (p := none) _ (.inl rfl)).mono ?_
  rintro e x15 ⟨rfl, hx15⟩
  have hB115 : Below w6.heap.size w6 x15 := hB114.trans (hx15.mono hB114.size)
  refine hK.out _ _ (hS _ hB115) (fun hHeld15 => ?_)
  clear hHeld hx15 hK
  have hHeld := hHeld15
  clear hHeld15
  try simp only [Act.put, List.setIfInBounds_toArray, List.set_cons_zero, List.set_cons_succ]
  refine wpAnyH_take (i := 112) (oi := ⟨some 144, .binOp .eql 75 (.tmp 142) (.tmp 143) 75, 4, "law.go:210", #[⟨110, .data⟩, ⟨111, .data⟩, ⟨106, .guard⟩], some (106, true)⟩) (v := ?_) (by as_aux_lemma => kernel_rfl) (by as_aux_lemma => kernel_rfl) (by as_aux_lemma => kernel_rfl) (by as_aux_lemma => kernel_rfl) (fun _ _ _ h => h) (Or.inl ⟨by as_aux_lemma => kernel_rfl, ?_⟩) (by assumption) ?_
  rotate_left
  · intro w hSw
    go_simp
    try with_reducible rfl
  try simp only [Act.put, List.setIfInBounds_toArray, List.set_cons_zero, List.set_cons_succ]
  refine wpAnyH_take (i := 113) (oi := ⟨some 145, .pick (.tmp 138) (.tmp 144) (.const (.bool false)), 4, "law.go:210", #[⟨106, .data⟩, ⟨112, .data⟩], none⟩) (v := ?_) (by as_aux_lemma => kernel_rfl) (by as_aux_lemma => kernel_rfl) (by as_aux_lemma => kernel_rfl) (by as_aux_lemma => kernel_rfl) (fun _ _ _ h => h) (Or.inl ⟨by as_aux_lemma => kernel_rfl, ?_⟩) (by assumption) ?_
  rotate_left
  · intro w hSw
    go_simp
    try with_reducible rfl
  try simp only [Act.put, List.setIfInBounds_toArray, List.set_cons_zero, List.set_cons_succ]
  refine wpAnyH_take (i := 114) (oi := ⟨some 146, .move (.tmp 145), 4, "law.go:210", #[⟨113, .data⟩, ⟨110, .chain⟩], none⟩) (v := ?_) (by as_aux_lemma => kernel_rfl) (by as_aux_lemma => kernel_rfl) (by as_aux_lemma => kernel_rfl) (by as_aux_lemma => kernel_rfl) (fun _ _ _ h => h) (Or.inl ⟨by as_aux_lemma => kernel_rfl, ?_⟩) (by assumption) ?_
  rotate_left
  · intro w hSw
    go_simp
    try with_reducible rfl
  try simp only [Act.put, List.setIfInBounds_toArray, List.set_cons_zero, List.set_cons_succ]
  refine wpAnyH_take (i := 115) (oi := ⟨some 147, .fieldAddr 52 (.tmp 1) 1, 0, "law.go:210", #[⟨114, .guard⟩], some (114, true)⟩) (v := ?_) (by as_aux_lemma => kernel_rfl) (by as_aux_lemma => kernel_rfl) (by as_aux_lemma => kernel_rfl) (by as_aux_lemma => kernel_rfl) (fun _ _ _ h => h) (Or.inl ⟨by as_aux_lemma => kernel_rfl, ?_⟩) (by assumption) ?_
  rotate_left
  · intro w hSw
    go_simp
    try with_reducible rfl
  try simp only [Act.put, List.setIfInBounds_toArray, List.set_cons_zero, List.set_cons_succ]
  refine wpAnyH_take (i := 116) (oi := ⟨some 148, .load 3 (.tmp 147), 3, "law.go:210", #[⟨115, .data⟩, ⟨114, .guard⟩], some (114, true)⟩) (v := ?_) (by as_aux_lemma => kernel_rfl) (by as_aux_lemma => kernel_rfl) (by as_aux_lemma => kernel_rfl) (by as_aux_lemma => kernel_rfl) (fun _ _ _ h => h) (Or.inl ⟨by as_aux_lemma => kernel_rfl, ?_⟩) (by assumption) ?_
  rotate_left
  · intro w hSw
    go_simp
    try with_reducible rfl
  try simp only [Act.put, List.setIfInBounds_toArray, List.set_cons_zero, List.set_cons_succ]
  refine wpAnyH_take (i := 118) (oi := ⟨some 150, .build 75 #[], 75, "law.go:210", #[⟨114, .guard⟩], some (114, true)⟩) (v := ?_) (by as_aux_lemma => kernel_rfl) (by as_aux_lemma => kernel_rfl) (by as_aux_lemma => kernel_rfl) (by as_aux_lemma => kernel_rfl) (fun _ _ _ h => h) (Or.inl ⟨by as_aux_lemma => kernel_rfl, ?_⟩) (by assumption) ?_
  rotate_left
  · intro w hSw
    go_simp
    try with_reducible rfl
  try simp only [Act.put, List.setIfInBounds_toArray, List.set_cons_zero, List.set_cons_succ]
  refine wpAnyH_ready (rs := [117]) (by as_aux_lemma => kernel_rfl) (by simp) ?_
  refine AllReadyH.cons (o := ⟨some 149, .call ⟨.value (.func 21), #[(.tmp 4), (.tmp 148)], #[62, 3]⟩, 75, "law.go:210", #[⟨116, .data⟩, ⟨114, .chain⟩, ⟨114, .guard⟩], some (114, true)⟩) (by as_aux_lemma => kernel_rfl) (fun K hK => ?_) AllReadyH.nil
  go_simp
  go_at_call 21
  refine (void_corr sr _ (hV _ hB115)).mono ?_
  rintro e x16 ⟨rfl, hx16⟩
  have hB116 : Below w6.heap.size w6 x16 := hB115.trans (hx16.mono hB115.size)
  refine hK.out _ _ (hS _ hB116) (fun hHeld16 => ?_)
  clear hHeld hx16 hK
  have hHeld := hHeld16
  clear hHeld16
  try simp only [Act.put, List.setIfInBounds_toArray, List.set_cons_zero, List.set_cons_succ]
  refine wpAnyH_take (i := 119) (oi := ⟨some 151, .binOp .eql 75 (.tmp 149) (.tmp 150) 75, 4, "law.go:210", #[⟨117, .data⟩, ⟨118, .data⟩, ⟨114, .guard⟩], some (114, true)⟩) (v := ?_) (by as_aux_lemma => kernel_rfl) (by as_aux_lemma => kernel_rfl) (by as_aux_lemma => kernel_rfl) (by as_aux_lemma => kernel_rfl) (fun _ _ _ h => h) (Or.inl ⟨by as_aux_lemma => kernel_rfl, ?_⟩) (by assumption) ?_
  rotate_left
  · intro w hSw
    go_simp
    try with_reducible rfl
  try simp only [Act.put, List.setIfInBounds_toArray, List.set_cons_zero, List.set_cons_succ]
  refine wpAnyH_take (i := 120) (oi := ⟨some 152, .pick (.tmp 146) (.tmp 151) (.const (.bool false)), 4, "law.go:210", #[⟨114, .data⟩, ⟨119, .data⟩], none⟩) (v := ?_) (by as_aux_lemma => kernel_rfl) (by as_aux_lemma => kernel_rfl) (by as_aux_lemma => kernel_rfl) (by as_aux_lemma => kernel_rfl) (fun _ _ _ h => h) (Or.inl ⟨by as_aux_lemma => kernel_rfl, ?_⟩) (by assumption) ?_
  rotate_left
  · intro w hSw
    go_simp
    try with_reducible rfl
  try simp only [Act.put, List.setIfInBounds_toArray, List.set_cons_zero, List.set_cons_succ]
  refine wpAnyH_take (i := 121) (oi := ⟨some 2, .assign (.tmp 152), 4, "law.go:210", #[⟨120, .data⟩, ⟨117, .chain⟩, ⟨0, .phase⟩, ⟨1, .phase⟩, ⟨2, .phase⟩, ⟨3, .phase⟩, ⟨4, .phase⟩, ⟨5, .phase⟩, ⟨6, .phase⟩, ⟨7, .phase⟩, ⟨8, .phase⟩, ⟨9, .phase⟩, ⟨10, .phase⟩, ⟨11, .phase⟩, ⟨12, .phase⟩, ⟨13, .phase⟩, ⟨14, .phase⟩, ⟨15, .phase⟩, ⟨16, .phase⟩, ⟨17, .phase⟩, ⟨18, .phase⟩, ⟨19, .phase⟩, ⟨20, .phase⟩, ⟨21, .phase⟩, ⟨22, .phase⟩, ⟨23, .phase⟩, ⟨24, .phase⟩, ⟨25, .phase⟩, ⟨26, .phase⟩, ⟨27, .phase⟩, ⟨28, .phase⟩, ⟨29, .phase⟩, ⟨30, .phase⟩, ⟨31, .phase⟩, ⟨32, .phase⟩, ⟨33, .phase⟩, ⟨34, .phase⟩, ⟨35, .phase⟩, ⟨36, .phase⟩, ⟨37, .phase⟩, ⟨38, .phase⟩, ⟨39, .phase⟩, ⟨40, .phase⟩, ⟨41, .phase⟩, ⟨42, .phase⟩, ⟨43, .phase⟩, ⟨44, .phase⟩, ⟨45, .phase⟩, ⟨46, .phase⟩, ⟨47, .phase⟩, ⟨48, .phase⟩, ⟨49, .phase⟩, ⟨50, .phase⟩, ⟨51, .phase⟩, ⟨52, .phase⟩, ⟨53, .phase⟩, ⟨54, .phase⟩, ⟨55, .phase⟩, ⟨56, .phase⟩, ⟨57, .phase⟩, ⟨58, .phase⟩, ⟨59, .phase⟩, ⟨60, .phase⟩, ⟨61, .phase⟩, ⟨62, .phase⟩, ⟨63, .phase⟩, ⟨64, .phase⟩, ⟨65, .phase⟩, ⟨66, .phase⟩, ⟨67, .phase⟩, ⟨68, .phase⟩, ⟨69, .phase⟩, ⟨70, .phase⟩, ⟨71, .phase⟩, ⟨72, .phase⟩, ⟨73, .phase⟩, ⟨74, .phase⟩, ⟨75, .phase⟩, ⟨76, .phase⟩, ⟨77, .phase⟩, ⟨78, .phase⟩, ⟨79, .phase⟩, ⟨80, .phase⟩, ⟨81, .phase⟩, ⟨82, .phase⟩, ⟨83, .phase⟩, ⟨84, .phase⟩, ⟨85, .phase⟩, ⟨86, .phase⟩, ⟨87, .phase⟩, ⟨88, .phase⟩, ⟨89, .phase⟩, ⟨90, .phase⟩, ⟨91, .phase⟩, ⟨92, .phase⟩, ⟨93, .phase⟩, ⟨94, .phase⟩, ⟨95, .phase⟩, ⟨96, .phase⟩, ⟨97, .phase⟩, ⟨98, .phase⟩, ⟨99, .phase⟩, ⟨100, .phase⟩, ⟨101, .phase⟩, ⟨102, .phase⟩, ⟨103, .phase⟩, ⟨104, .phase⟩, ⟨105, .phase⟩, ⟨106, .phase⟩, ⟨107, .phase⟩, ⟨108, .phase⟩, ⟨109, .phase⟩, ⟨110, .phase⟩, ⟨111, .phase⟩, ⟨112, .phase⟩, ⟨113, .phase⟩, ⟨114, .phase⟩, ⟨115, .phase⟩, ⟨116, .phase⟩, ⟨117, .phase⟩, ⟨118, .phase⟩, ⟨119, .phase⟩, ⟨120, .phase⟩], none⟩) (v := ?_) (by as_aux_lemma => kernel_rfl) (by as_aux_lemma => kernel_rfl) (by as_aux_lemma => kernel_rfl) (by as_aux_lemma => kernel_rfl) (fun _ _ _ h => h) (Or.inl ⟨by as_aux_lemma => kernel_rfl, ?_⟩) (by assumption) ?_
  rotate_left
  · intro w hSw
    go_simp
    try with_reducible rfl
  try simp only [Act.put, List.setIfInBounds_toArray, List.set_cons_zero, List.set_cons_succ]
  refine wpAnyH_done (by as_aux_lemma => kernel_rfl) ?_ _
  go_wp2
  go_ret
  refine ⟨rfl, ?_⟩
  rw [hb0]
  exact hB6.trans (hB116.mono hsz6)
end Go.Xv
namespace Go.Proofs.YtdchhmffiiedmaaGreat.navVoid
open Go.ChangeShapes Go.WideShapes Go.ChangeAt Go.RowKit Go.Xv Go.Proofs.YtdchhmffiiedmaaGreat.base
set_option linter.unusedVariables false
set_option maxRecDepth 100000 in
set_option maxHeartbeats 4000000 in
theorem lifted (os : Os) (started : os.Started) (H : Type) (enc : TypeId × Value → H) :
    ReturnsInHanded {} Tryz.checked os 4 .any (Rows.navVoidSpec.pre6 enc Tryz.prog Tryz.f4 Rows.navVoidRow.domain false) (Rows.navVoidSpec.post enc Tryz.prog Tryz.f4 false true false false) := by
  refine returnsInHanded_of_change (C := Tryz.checked) own started (by kernel_rfl) Tryz.func4
    (ChangeSpec.witness6 (enc := enc) (C := Tryz.checked) false ⟨#[], #[.agg #[.int .i64 0, .int .i64 0, .int .i64 0, .int .i64 0, .int .i32 0, .int .i32 0, .int .i32 0, .int .i32 0, .int .i32 0, .int .i32 0, .int .i64 0, .int .u32 0, .int .i32 0, .int .u32 0, .int .u32 0, .int .u8 0, .int .i64 0, .int .i64 0, .int .i64 0, .int .u8 0, .int .u8 0, .int .u8 0, .int .u8 0, .int .u8 0, .int .u8 0, .int .u8 0, .int .u8 0, .int .u8 0, .int .u8 0, .int .u8 0, .int .u8 0, .int .u8 0, .int .u8 0, .int .u8 0, .int .u8 0, .int .u8 0, .int .u8 0, .int .u8 0, .int .u8 0, .int .u8 0, .int .u8 0, .int .u8 0, .int .u8 0, .int .u8 0, .int .u8 0, .int .u8 0, .int .u8 0, .int .u8 0, .int .u8 0, .int .u8 0, .int .u8 0, .int .u64 0, .int .u8 0, .int .u32 0, .int .i64 0, .int .u32 0, .int .u8 0, .int .u8 0, .int .u16 0, .int .u64 0, .int .i64 0, .int .i64 0, .int .i64 0]], []⟩ 8 (by kernel_rfl) (by kernel_rfl) (by kernel_rfl) (by kernel_rfl)) ?_
  intro W base args ds gs before hval0 hW hcnd _
  have hval : ∀ (j : Nat) t v, Tryz.f4.params[j]? = some t → args[j]? = some v → Value.okWide Tryz.prog W .any base t v := hval0
  have hW' := hW
  obtain ⟨p, q, hA0, hV, rfl, hfz, hnd⟩ := hW
  have hA : DataW.TrodAll enc Tryz.prog W 0 (fun _ => true) true Tryz.f4.params.toList args.toList ds p := hA0
  rw [Tryz.params4] at hA hval
  obtain ⟨v0, vs0, d0, ds0, p0, q0, hargs, rfl, rfl, h0, r0⟩ := trodAll_cons hA
  obtain ⟨rfl, rfl, rfl⟩ := trodAll_nil r0
  obtain rfl : args = #[v0] := by cases args; simp_all
  obtain ⟨l0, rfl, f0⟩ := open_flat (ks := [some .i64, some .i64, some .i64, some .i64, some .i32, some .i32, some .i32, some .i32, some .i32, some .i32, some .i64, some .u32, some .i32, some .u32, some .u32, some .u8, some .i64, some .i64, some .i64, some .u8, some .u8, some .u8, some .u8, some .u8, some .u8, some .u8, some .u8, some .u8, some .u8, some .u8, some .u8, some .u8, some .u8, some .u8, some .u8, some .u8, some .u8, some .u8, some .u8, some .u8, some .u8, some .u8, some .u8, some .u8, some .u8, some .u8, some .u8, some .u8, some .u8, some .u8, some .u8, some .u64, some .u8, some .u32, some .i64, some .u32, some .u8, some .u8, some .u16, some .u64, some .i64, some .i64, some .i64]) (by kernel_rfl) (by kernel_rfl) (hval 0 52 v0 rfl rfl) h0
  obtain ⟨a0, l0, rfl, _, f0⟩ := fitW_some f0
  obtain ⟨a1, l0, rfl, wa1, f0⟩ := fitW_some f0
  obtain ⟨a2, l0, rfl, wa2, f0⟩ := fitW_some f0
  obtain ⟨a3, l0, rfl, _, f0⟩ := fitW_some f0
  obtain ⟨a4, l0, rfl, _, f0⟩ := fitW_some f0
  obtain ⟨a5, l0, rfl, _, f0⟩ := fitW_some f0
  obtain ⟨a6, l0, rfl, _, f0⟩ := fitW_some f0
  obtain ⟨a7, l0, rfl, _, f0⟩ := fitW_some f0
  obtain ⟨a8, l0, rfl, _, f0⟩ := fitW_some f0
  obtain ⟨a9, l0, rfl, _, f0⟩ := fitW_some f0
  obtain ⟨a10, l0, rfl, _, f0⟩ := fitW_some f0
  obtain ⟨a11, l0, rfl, _, f0⟩ := fitW_some f0
  obtain ⟨a12, l0, rfl, _, f0⟩ := fitW_some f0
  obtain ⟨a13, l0, rfl, _, f0⟩ := fitW_some f0
  obtain ⟨a14, l0, rfl, _, f0⟩ := fitW_some f0
  obtain ⟨a15, l0, rfl, _, f0⟩ := fitW_some f0
  obtain ⟨a16, l0, rfl, _, f0⟩ := fitW_some f0
  obtain ⟨a17, l0, rfl, _, f0⟩ := fitW_some f0
  obtain ⟨a18, l0, rfl, _, f0⟩ := fitW_some f0
  obtain ⟨a19, l0, rfl, _, f0⟩ := fitW_some f0
  obtain ⟨a20, l0, rfl, _, f0⟩ := fitW_some f0
  obtain ⟨a21, l0, rfl, _, f0⟩ := fitW_some f0
  obtain ⟨a22, l0, rfl, _, f0⟩ := fitW_some f0
  obtain ⟨a23, l0, rfl, _, f0⟩ := fitW_some f0
  obtain ⟨a24, l0, rfl, _, f0⟩ := fitW_some f0
  obtain ⟨a25, l0, rfl, _, f0⟩ := fitW_some f0
  obtain ⟨a26, l0, rfl, _, f0⟩ := fitW_some f0
  obtain ⟨a27, l0, rfl, _, f0⟩ := fitW_some f0
  obtain ⟨a28, l0, rfl, _, f0⟩ := fitW_some f0
  obtain ⟨a29, l0, rfl, _, f0⟩ := fitW_some f0
  obtain ⟨a30, l0, rfl, _, f0⟩ := fitW_some f0
  obtain ⟨a31, l0, rfl, _, f0⟩ := fitW_some f0
  obtain ⟨a32, l0, rfl, _, f0⟩ := fitW_some f0
  obtain ⟨a33, l0, rfl, _, f0⟩ := fitW_some f0
  obtain ⟨a34, l0, rfl, _, f0⟩ := fitW_some f0
  obtain ⟨a35, l0, rfl, _, f0⟩ := fitW_some f0
  obtain ⟨a36, l0, rfl, _, f0⟩ := fitW_some f0
  obtain ⟨a37, l0, rfl, _, f0⟩ := fitW_some f0
  obtain ⟨a38, l0, rfl, _, f0⟩ := fitW_some f0
  obtain ⟨a39, l0, rfl, _, f0⟩ := fitW_some f0
  obtain ⟨a40, l0, rfl, _, f0⟩ := fitW_some f0
  obtain ⟨a41, l0, rfl, _, f0⟩ := fitW_some f0
  obtain ⟨a42, l0, rfl, _, f0⟩ := fitW_some f0
  obtain ⟨a43, l0, rfl, _, f0⟩ := fitW_some f0
  obtain ⟨a44, l0, rfl, _, f0⟩ := fitW_some f0
  obtain ⟨a45, l0, rfl, _, f0⟩ := fitW_some f0
  obtain ⟨a46, l0, rfl, _, f0⟩ := fitW_some f0
  obtain ⟨a47, l0, rfl, _, f0⟩ := fitW_some f0
  obtain ⟨a48, l0, rfl, _, f0⟩ := fitW_some f0
  obtain ⟨a49, l0, rfl, _, f0⟩ := fitW_some f0
  obtain ⟨a50, l0, rfl, _, f0⟩ := fitW_some f0
  obtain ⟨a51, l0, rfl, _, f0⟩ := fitW_some f0
  obtain ⟨a52, l0, rfl, _, f0⟩ := fitW_some f0
  obtain ⟨a53, l0, rfl, _, f0⟩ := fitW_some f0
  obtain ⟨a54, l0, rfl, _, f0⟩ := fitW_some f0
  obtain ⟨a55, l0, rfl, _, f0⟩ := fitW_some f0
  obtain ⟨a56, l0, rfl, _, f0⟩ := fitW_some f0
  obtain ⟨a57, l0, rfl, _, f0⟩ := fitW_some f0
  obtain ⟨a58, l0, rfl, _, f0⟩ := fitW_some f0
  obtain ⟨a59, l0, rfl, _, f0⟩ := fitW_some f0
  obtain ⟨a60, l0, rfl, wa60, f0⟩ := fitW_some f0
  obtain ⟨a61, l0, rfl, wa61, f0⟩ := fitW_some f0
  obtain ⟨a62, l0, rfl, wa62, f0⟩ := fitW_some f0
  obtain rfl := fitW_nil f0
  have hc := void_calls (fun k => (#[.int .i64 a0, .int .i64 a1, .int .i64 a2, .int .i64 a3, .int .i32 a4, .int .i32 a5, .int .i32 a6, .int .i32 a7, .int .i32 a8, .int .i32 a9, .int .i64 a10, .int .u32 a11, .int .i32 a12, .int .u32 a13, .int .u32 a14, .int .u8 a15, .int .i64 a16, .int .i64 a17, .int .i64 a18, .int .u8 a19, .int .u8 a20, .int .u8 a21, .int .u8 a22, .int .u8 a23, .int .u8 a24, .int .u8 a25, .int .u8 a26, .int .u8 a27, .int .u8 a28, .int .u8 a29, .int .u8 a30, .int .u8 a31, .int .u8 a32, .int .u8 a33, .int .u8 a34, .int .u8 a35, .int .u8 a36, .int .u8 a37, .int .u8 a38, .int .u8 a39, .int .u8 a40, .int .u8 a41, .int .u8 a42, .int .u8 a43, .int .u8 a44, .int .u8 a45, .int .u8 a46, .int .u8 a47, .int .u8 a48, .int .u8 a49, .int .u8 a50, .int .u64 a51, .int .u8 a52, .int .u32 a53, .int .i64 a54, .int .u32 a55, .int .u8 a56, .int .u8 a57, .int .u16 a58, .int .u64 a59, .int .i64 a60, .int .i64 a61, .int .i64 a62] : Array Value).getD k undef) a1 a2 a60 a61 a62 (by kernel_rfl) (by kernel_rfl) (by kernel_rfl) (by kernel_rfl) (by kernel_rfl) W
  rw [show actC (fun k => (#[.int .i64 a0, .int .i64 a1, .int .i64 a2, .int .i64 a3, .int .i32 a4, .int .i32 a5, .int .i32 a6, .int .i32 a7, .int .i32 a8, .int .i32 a9, .int .i64 a10, .int .u32 a11, .int .i32 a12, .int .u32 a13, .int .u32 a14, .int .u8 a15, .int .i64 a16, .int .i64 a17, .int .i64 a18, .int .u8 a19, .int .u8 a20, .int .u8 a21, .int .u8 a22, .int .u8 a23, .int .u8 a24, .int .u8 a25, .int .u8 a26, .int .u8 a27, .int .u8 a28, .int .u8 a29, .int .u8 a30, .int .u8 a31, .int .u8 a32, .int .u8 a33, .int .u8 a34, .int .u8 a35, .int .u8 a36, .int .u8 a37, .int .u8 a38, .int .u8 a39, .int .u8 a40, .int .u8 a41, .int .u8 a42, .int .u8 a43, .int .u8 a44, .int .u8 a45, .int .u8 a46, .int .u8 a47, .int .u8 a48, .int .u8 a49, .int .u8 a50, .int .u64 a51, .int .u8 a52, .int .u32 a53, .int .i64 a54, .int .u32 a55, .int .u8 a56, .int .u8 a57, .int .u16 a58, .int .u64 a59, .int .i64 a60, .int .i64 a61, .int .i64 a62] : Array Value).getD k undef) = #[.int .i64 a0, .int .i64 a1, .int .i64 a2, .int .i64 a3, .int .i32 a4, .int .i32 a5, .int .i32 a6, .int .i32 a7, .int .i32 a8, .int .i32 a9, .int .i64 a10, .int .u32 a11, .int .i32 a12, .int .u32 a13, .int .u32 a14, .int .u8 a15, .int .i64 a16, .int .i64 a17, .int .i64 a18, .int .u8 a19, .int .u8 a20, .int .u8 a21, .int .u8 a22, .int .u8 a23, .int .u8 a24, .int .u8 a25, .int .u8 a26, .int .u8 a27, .int .u8 a28, .int .u8 a29, .int .u8 a30, .int .u8 a31, .int .u8 a32, .int .u8 a33, .int .u8 a34, .int .u8 a35, .int .u8 a36, .int .u8 a37, .int .u8 a38, .int .u8 a39, .int .u8 a40, .int .u8 a41, .int .u8 a42, .int .u8 a43, .int .u8 a44, .int .u8 a45, .int .u8 a46, .int .u8 a47, .int .u8 a48, .int .u8 a49, .int .u8 a50, .int .u64 a51, .int .u8 a52, .int .u32 a53, .int .i64 a54, .int .u32 a55, .int .u8 a56, .int .u8 a57, .int .u16 a58, .int .u64 a59, .int .i64 a60, .int .i64 a61, .int .i64 a62] by kernel_rfl] at hc
  exact law_contract_walked laidOut (bt := 4) (by kernel_rfl) (by kernel_rfl) (by kernel_rfl) (by kernel_rfl) rfl hW' hc
theorem over : Rows.navVoidRow.holds Tryz.pinned (OpenSpec.ofChange Rows.navVoidSpec) :=
  OpenClaim.holds_of_wide 4 Tryz.f4 rfl rfl rfl rfl rfl rfl rfl ⟨rfl, rfl, rfl, rfl, rfl⟩ rfl rfl rfl rfl rfl (by kernel_rfl) Tryz.func4 (joined_of (P := Tryz.prog) behind enter_ rfl rfl ⟨rfl, rfl⟩ (by kernel_rfl))
    (of_decide_eq_true (by kernel_rfl)) (by unfold Func.isWrapper; first | (rw [if_pos (by decide +kernel)]; kernel_rfl) | (rw [if_neg (by decide +kernel)]; exact ⟨rfl, rfl⟩))
    (fun os started H enc _ => lifted os started H enc)
/-- The statement. -/
theorem proved : Rows.NavVoidSaid := over
#print axioms proved
end Go.Proofs.YtdchhmffiiedmaaGreat.navVoid
