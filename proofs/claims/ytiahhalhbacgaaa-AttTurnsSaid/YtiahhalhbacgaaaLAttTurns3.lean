/- AttTurns: about axis 2 alone the heading is near what the rates come to. -/
import Derived.Test.YtiahhalhbacgaaaLAttTurns2
import Derived.KernelRfl
set_option linter.unusedVariables false
namespace Go.Xv
/- 27 _att_Heading -/
def c_h : Cfg := ⟨[0, 1, 2], [], [], []⟩
def ti_h : List TV := [.v (.agg [.int .i64, .int .i64, .int .i64, .int .i64, .int .i64, .int .i64, .int .i64, .int .i64, .int .i64, .int .i64])]
def to_h : TV := .v (.int .u32)
def S_h (F : Nat) : FuncId → List VV → Option (Bool × VV) := words [(51, s_j F)]
def W_h (F : Nat) : List LW := []
def I_h (F : Nat) : Nat → VS → (Exit → VS → R) → R := tabI c_h (W_h F)
def WJ_h (F : Nat) : List LJ := []
def J_h (F : Nat) : Nat → Nat → VS → (Exit → VS → R) → R := tabJ (WJ_h F)
def fg_h (ok_j : Y64) (o_j_0 : Y65) (F : Nat) (a0 a1 a2 a3 a4 a5 a6 a7 a8 a9 : Int) : R :=
 bif (ok_j F a0 a1 a2 a3 a4 a5 a6 a7 a8) then (
 some (.v (.int .u32 ((o_j_0 F a0 a1 a2 a3 a4 a5 a6 a7 a8))))) else none
def f_h (F : Nat) (a0 a1 a2 a3 a4 a5 a6 a7 a8 a9 : Int) : R := fg_h ok_j o_j_0 F a0 a1 a2 a3 a4 a5 a6 a7 a8 a9
theorem e_h (F : Nat) (a0 a1 a2 a3 a4 a5 a6 a7 a8 a9 : Int) : funL PP (S_h F) c_h (I_h F) (J_h F) 27 (fTs ti_h [.i a0, .i a1, .i a2, .i a3, .i a4, .i a5, .i a6, .i a7, .i a8, .i a9]).1 = f_h F a0 a1 a2 a3 a4 a5 a6 a7 a8 a9 := by
  have h : ∀ (ok_j : Y64) (o_j_0 : Y65), funL PP (words [(51, spec ti_j to_j (fun q => (ok_j F (iI q 0) (iI q 1) (iI q 2) (iI q 3) (iI q 4) (iI q 5) (iI q 6) (iI q 7) (iI q 8))) (fun q => [.i (o_j_0 F (iI q 0) (iI q 1) (iI q 2) (iI q 3) (iI q 4) (iI q 5) (iI q 6) (iI q 7) (iI q 8))]))]) c_h (tabI c_h []) (tabJ []) 27 (fTs ti_h [.i a0, .i a1, .i a2, .i a3, .i a4, .i a5, .i a6, .i a7, .i a8, .i a9]).1 = fg_h ok_j o_j_0 F a0 a1 a2 a3 a4 a5 a6 a7 a8 a9 := by
    intros
    kernel_rfl
  exact (h ok_j o_j_0).trans (by kernel_rfl)
def ok_h (F : Nat) (a0 a1 a2 a3 a4 a5 a6 a7 a8 a9 : Int) : Bool := okT to_h (f_h F a0 a1 a2 a3 a4 a5 a6 a7 a8 a9)
def o_h_0 (F : Nat) (a0 a1 a2 a3 a4 a5 a6 a7 a8 a9 : Int) : Int := atI (nth (outT to_h (f_h F a0 a1 a2 a3 a4 a5 a6 a7 a8 a9)) 0)
theorem k_h (F : Nat) (a0 a1 a2 a3 a4 a5 a6 a7 a8 a9 : Int) {z0 : Int} (h : f_h F a0 a1 a2 a3 a4 a5 a6 a7 a8 a9 = some (.v (.int .u32 z0))) : ok_h F a0 a1 a2 a3 a4 a5 a6 a7 a8 a9 = true ∧ o_h_0 F a0 a1 a2 a3 a4 a5 a6 a7 a8 a9 = z0 := by
  refine ⟨?_, ?_⟩
  · unfold ok_h; rw [h]; kernel_rfl
  · unfold o_h_0; rw [h]; kernel_rfl
def z_h (k : Y72) (r0 : Y73) (F : Nat) : List VV → Option (Bool × VV) := spec ti_h to_h (fun q => (k F (iI q 0) (iI q 1) (iI q 2) (iI q 3) (iI q 4) (iI q 5) (iI q 6) (iI q 7) (iI q 8) (iI q 9))) (fun q => [.i (r0 F (iI q 0) (iI q 1) (iI q 2) (iI q 3) (iI q 4) (iI q 5) (iI q 6) (iI q 7) (iI q 8) (iI q 9))])
def s_h (F : Nat) : List VV → Option (Bool × VV) := z_h ok_h o_h_0 F
theorem hS_h (F : Nat) : ∀ f, Good PP f (unS (S_h F f)) := words_good fun p hp => by
  simp only [List.mem_cons, List.not_mem_nil, or_false] at hp
  rcases hp with rfl
  · exact g_j F
theorem hl_h (F : Nat) : ∀ p ∈ loopsIn PP 27, LoopOK PP (S_h F) c_h F (I_h F) (J_h F) p :=
  loops_of [] (by kernel_rfl) all_nil
theorem hj_h (F : Nat) : ∀ p ∈ joinsIn PP c_h 27, JoinOK PP (S_h F) c_h (I_h F) (J_h F) p :=
  joins_of [] (by kernel_rfl) all_nil
theorem g_h (F : Nat) : Good PP 27 (unS (s_h F)) :=
  fun_spec (hS_h F) (by kernel_rfl) (by kernel_rfl) (C := c_h) (F := fun q => (f_h F (iI q 0) (iI q 1) (iI q 2) (iI q 3) (iI q 4) (iI q 5) (iI q 6) (iI q 7) (iI q 8) (iI q 9))) (fun _ => F) (fun _ => I_h F) (fun _ => J_h F) (fun _ => hl_h F) (fun _ => hj_h F)
    (fun q => (congrArg (funL PP (S_h F) c_h (I_h F) (J_h F) 27) (show (fTs ti_h q).1 = (fTs ti_h [.i (iI q 0), .i (iI q 1), .i (iI q 2), .i (iI q 3), .i (iI q 4), .i (iI q 5), .i (iI q 6), .i (iI q 7), .i (iI q 8), .i (iI q 9)]).1 by kernel_rfl)).trans (e_h F (iI q 0) (iI q 1) (iI q 2) (iI q 3) (iI q 4) (iI q 5) (iI q 6) (iI q 7) (iI q 8) (iI q 9)))
    (fun _ h => (okT_fill h).trans (congrArg some (by kernel_rfl)))

end Go.Xv
set_option linter.unusedVariables false
namespace Go.Xv
/- 23 _law27_works -/
def c_i : Cfg := ⟨[0, 1, 2, 3], [], [5], []⟩
def ti_i : List TV := []
def to_i : TV := .v (.bool)
def S_i (F : Nat) : FuncId → List VV → Option (Bool × VV) := words [(24, s_jb F), (25, s_xa F), (27, s_h F)]
def W_i (F : Nat) : List LW := []
def I_i (F : Nat) : Nat → VS → (Exit → VS → R) → R := tabI c_i (W_i F)
def WJ_i (F : Nat) : List LJ := []
def J_i (F : Nat) : Nat → Nat → VS → (Exit → VS → R) → R := tabJ (WJ_i F)
def fg_i (ok_jb : Nat → Bool) (o_jb_0 : Nat → Int) (o_jb_1 : Nat → Int) (o_jb_2 : Nat → Int) (o_jb_3 : Nat → Int) (o_jb_4 : Nat → Int) (o_jb_5 : Nat → Int) (o_jb_6 : Nat → Int) (o_jb_7 : Nat → Int) (o_jb_8 : Nat → Int) (o_jb_9 : Nat → Int) (ok_xa : Y70) (o_xa_0 : Y71) (o_xa_1 : Y71) (o_xa_2 : Y71) (o_xa_3 : Y71) (o_xa_4 : Y71) (o_xa_5 : Y71) (o_xa_6 : Y71) (o_xa_7 : Y71) (o_xa_8 : Y71) (o_xa_9 : Y71) (o_xa_10 : Y70) (ok_h : Y72) (o_h_0 : Y73) (F : Nat) : R :=
 bif (ok_jb F) then (
 let v592 : Int := (o_jb_0 F)
 let v593 : Int := (o_jb_1 F)
 let v594 : Int := (o_jb_2 F)
 let v595 : Int := (o_jb_3 F)
 let v596 : Int := (o_jb_4 F)
 let v597 : Int := (o_jb_5 F)
 let v598 : Int := (o_jb_6 F)
 let v599 : Int := (o_jb_7 F)
 let v600 : Int := (o_jb_8 F)
 let v601 : Int := (o_jb_9 F)
 bif (ok_xa F v592 v593 v594 v595 v596 v597 v598 v599 v600 v601 0 0 65536 25) then (
 let v1591 : Int := (o_xa_0 F v592 v593 v594 v595 v596 v597 v598 v599 v600 v601 0 0 65536 25)
 let v1592 : Int := (o_xa_1 F v592 v593 v594 v595 v596 v597 v598 v599 v600 v601 0 0 65536 25)
 let v1593 : Int := (o_xa_2 F v592 v593 v594 v595 v596 v597 v598 v599 v600 v601 0 0 65536 25)
 let v1594 : Int := (o_xa_3 F v592 v593 v594 v595 v596 v597 v598 v599 v600 v601 0 0 65536 25)
 let v1595 : Int := (o_xa_4 F v592 v593 v594 v595 v596 v597 v598 v599 v600 v601 0 0 65536 25)
 let v1596 : Int := (o_xa_5 F v592 v593 v594 v595 v596 v597 v598 v599 v600 v601 0 0 65536 25)
 let v1597 : Int := (o_xa_6 F v592 v593 v594 v595 v596 v597 v598 v599 v600 v601 0 0 65536 25)
 let v1598 : Int := (o_xa_7 F v592 v593 v594 v595 v596 v597 v598 v599 v600 v601 0 0 65536 25)
 let v1599 : Int := (o_xa_8 F v592 v593 v594 v595 v596 v597 v598 v599 v600 v601 0 0 65536 25)
 let v1600 : Int := (o_xa_9 F v592 v593 v594 v595 v596 v597 v598 v599 v600 v601 0 0 65536 25)
 bif (ok_h F v1591 v1592 v1593 v1594 v1595 v1596 v1597 v1598 v1599 v1600) then (
 let v1985 : Int := (IntKind.wrap .i32 ((IntKind.wrap .u32 (((o_h_0 F v1591 v1592 v1593 v1594 v1595 v1596 v1597 v1598 v1599 v1600)) - 1073741824))))
 bif ((!((o_xa_10 F v592 v593 v594 v595 v596 v597 v598 v599 v600 v601 0 0 65536 25)))) then (
 bif ((decide (v1985 < 4096))) then (
 bif ((decide (v1985 > (-4096)))) then (
 some (.v (.bool ((v1600 == 1)))))
 else (
 some (.v (.bool false))))
 else (
 some (.v (.bool false))))
 else (
 some (.v (.bool false)))) else none) else none) else none
def f_i (F : Nat) : R := fg_i ok_jb o_jb_0 o_jb_1 o_jb_2 o_jb_3 o_jb_4 o_jb_5 o_jb_6 o_jb_7 o_jb_8 o_jb_9 ok_xa o_xa_0 o_xa_1 o_xa_2 o_xa_3 o_xa_4 o_xa_5 o_xa_6 o_xa_7 o_xa_8 o_xa_9 o_xa_10 ok_h o_h_0 F
theorem e_i (F : Nat) : funL PP (S_i F) c_i (I_i F) (J_i F) 23 (fTs ti_i []).1 = f_i F := by
  have h : ∀ (ok_jb : Nat → Bool) (o_jb_0 : Nat → Int) (o_jb_1 : Nat → Int) (o_jb_2 : Nat → Int) (o_jb_3 : Nat → Int) (o_jb_4 : Nat → Int) (o_jb_5 : Nat → Int) (o_jb_6 : Nat → Int) (o_jb_7 : Nat → Int) (o_jb_8 : Nat → Int) (o_jb_9 : Nat → Int) (ok_xa : Y70) (o_xa_0 : Y71) (o_xa_1 : Y71) (o_xa_2 : Y71) (o_xa_3 : Y71) (o_xa_4 : Y71) (o_xa_5 : Y71) (o_xa_6 : Y71) (o_xa_7 : Y71) (o_xa_8 : Y71) (o_xa_9 : Y71) (o_xa_10 : Y70) (ok_h : Y72) (o_h_0 : Y73), funL PP (words [(24, z_jb ok_jb o_jb_0 o_jb_1 o_jb_2 o_jb_3 o_jb_4 o_jb_5 o_jb_6 o_jb_7 o_jb_8 o_jb_9 F), (25, z_xa ok_xa o_xa_0 o_xa_1 o_xa_2 o_xa_3 o_xa_4 o_xa_5 o_xa_6 o_xa_7 o_xa_8 o_xa_9 o_xa_10 F), (27, z_h ok_h o_h_0 F)]) c_i (tabI c_i []) (tabJ []) 23 (fTs ti_i []).1 = fg_i ok_jb o_jb_0 o_jb_1 o_jb_2 o_jb_3 o_jb_4 o_jb_5 o_jb_6 o_jb_7 o_jb_8 o_jb_9 ok_xa o_xa_0 o_xa_1 o_xa_2 o_xa_3 o_xa_4 o_xa_5 o_xa_6 o_xa_7 o_xa_8 o_xa_9 o_xa_10 ok_h o_h_0 F := by
    intros
    kernel_rfl
  exact (h ok_jb o_jb_0 o_jb_1 o_jb_2 o_jb_3 o_jb_4 o_jb_5 o_jb_6 o_jb_7 o_jb_8 o_jb_9 ok_xa o_xa_0 o_xa_1 o_xa_2 o_xa_3 o_xa_4 o_xa_5 o_xa_6 o_xa_7 o_xa_8 o_xa_9 o_xa_10 ok_h o_h_0).trans (by kernel_rfl)
def ok_i (F : Nat) : Bool := okT to_i (f_i F)
def o_i_0 (F : Nat) : Bool := atB (nth (outT to_i (f_i F)) 0)
theorem k_i (F : Nat) {z0 : Bool} (h : f_i F = some (.v (.bool z0))) : ok_i F = true ∧ o_i_0 F = z0 := by
  refine ⟨?_, ?_⟩
  · unfold ok_i; rw [h]; kernel_rfl
  · unfold o_i_0; rw [h]; kernel_rfl
def z_i (k : Nat → Bool) (r0 : Nat → Bool) (F : Nat) : List VV → Option (Bool × VV) := spec ti_i to_i (fun q => (k F)) (fun q => [.b (r0 F )])
def s_i (F : Nat) : List VV → Option (Bool × VV) := z_i ok_i o_i_0 F
theorem hS_i (F : Nat) : ∀ f, Good PP f (unS (S_i F f)) := words_good fun p hp => by
  simp only [List.mem_cons, List.not_mem_nil, or_false] at hp
  rcases hp with rfl | rfl | rfl
  · exact g_jb F
  · exact g_xa F
  · exact g_h F
theorem hl_i (F : Nat) : ∀ p ∈ loopsIn PP 23, LoopOK PP (S_i F) c_i F (I_i F) (J_i F) p :=
  loops_of [] (by kernel_rfl) all_nil
theorem hj_i (F : Nat) : ∀ p ∈ joinsIn PP c_i 23, JoinOK PP (S_i F) c_i (I_i F) (J_i F) p :=
  joins_of [] (by kernel_rfl) all_nil
theorem g_i (F : Nat) : Good PP 23 (unS (s_i F)) :=
  fun_spec (hS_i F) (by kernel_rfl) (by kernel_rfl) (C := c_i) (F := fun q => (f_i F )) (fun _ => F) (fun _ => I_i F) (fun _ => J_i F) (fun _ => hl_i F) (fun _ => hj_i F)
    (fun q => (congrArg (funL PP (S_i F) c_i (I_i F) (J_i F) 23) (show (fTs ti_i q).1 = (fTs ti_i []).1 by kernel_rfl)).trans (e_i F ))
    (fun _ h => (okT_fill h).trans (congrArg some (by kernel_rfl)))

end Go.Xv
set_option linter.unusedVariables false
namespace Go.Xv
/- 7 _law27_AttTurns -/
def c_c : Cfg := ⟨[0, 1, 4, 5, 6, 7, 8, 9, 10, 11, 12, 14, 25, 67], [(0, [0, 1, 4, 5, 6, 7, 13, 14, 15, 16, 17])], [], []⟩
def ti_c : List TV := [.fs .hole .hole 1, .v (.int .i64)]
def to_c : TV := .v (.bool)
def S_c (F : Nat) : FuncId → List VV → Option (Bool × VV) := words [(23, s_i F), (24, s_jb F), (22, s_q F), (25, s_xa F), (26, s_s F), (27, s_h F)]
def T_c_0 : TS := ⟨[(0, .fs .hole .hole 1), (1, .v (.int .i64)), (4, .v (.bool)), (5, .lp 0 (.lit 0)), (6, .v (.int .u32)), (7, .v (.int .i64))], [(0, ⟨(.ex [.v (.int .i64), .v (.int .i64), .v (.int .i64), .v (.int .i64), .v (.int .i64), .v (.int .i64), .v (.int .i64), .v (.int .i64), .v (.int .i64), .v (.int .i64)]), true⟩)], 1⟩
def T_c_0_0 : TS := ⟨[(0, .fs .hole .hole 1), (1, .v (.int .i64)), (4, .v (.bool)), (5, .lp 0 (.lit 0)), (6, .v (.int .u32)), (7, .v (.int .i64)), (8, .v (.int .i32)), (9, .lp 1 (.lit 0)), (10, .v (.bool)), (11, .v (.int .i32)), (12, .v (.int .i32))], [(0, ⟨(.ex [.v (.int .i64), .v (.int .i64), .v (.int .i64), .v (.int .i64), .v (.int .i64), .v (.int .i64), .v (.int .i64), .v (.int .i64), .v (.int .i64), .v (.int .i64)]), true⟩), (1, ⟨(.ex [.v (.int .i64), .v (.int .i64), .v (.int .i64), .v (.int .i64), .v (.int .i64), .v (.int .i64), .v (.int .i64), .v (.int .i64), .v (.int .i64), .v (.int .i64)]), true⟩)], 2⟩
def K_law27_AttTurns_0_0r (k : Exit → VS → R) : Y75 := fun (z0 : List VV) (z1 z2 : Nat) (z3 : Int) (z4 : Bool) (z5 z6 z7 : Int) (z8 : Bool) (z9 z10 z11 z12 z13 z14 z15 z16 z17 z18 z19 z20 z21 z22 z23 z24 z25 z26 z27 z28 z29 z30 : Int) => k .ret (fS T_c_0_0 [.c z0, .n z1, .n z2, .i z3, .b z4, .i z5, .i z6, .i z7, .b z8, .i z9, .i z10, .i z11, .i z12, .i z13, .i z14, .i z15, .i z16, .i z17, .i z18, .i z19, .i z20, .i z21, .i z22, .i z23, .i z24, .i z25, .i z26, .i z27, .i z28, .i z29, .i z30])
def T_c_0_1 : TS := ⟨[(0, .fs .hole .hole 1), (1, .v (.int .i64)), (4, .v (.bool)), (5, .lp 0 (.lit 0)), (6, .v (.int .u32)), (7, .v (.int .i64))], [(0, ⟨(.ex [.v (.int .i64), .v (.int .i64), .v (.int .i64), .v (.int .i64), .v (.int .i64), .v (.int .i64), .v (.int .i64), .v (.int .i64), .v (.int .i64), .v (.int .i64)]), true⟩)], 1⟩
def K_law27_AttTurns_0_1e0 (k : Exit → VS → R) : Y74 := fun (z0 : List VV) (z1 z2 : Nat) (z3 : Int) (z4 : Bool) (z5 z6 z7 z8 z9 z10 z11 z12 z13 z14 z15 z16 : Int) => k (.exit 0) (fS T_c_0_1 [.c z0, .n z1, .n z2, .i z3, .b z4, .i z5, .i z6, .i z7, .i z8, .i z9, .i z10, .i z11, .i z12, .i z13, .i z14, .i z15, .i z16])
def Bg_c_0 (ok_xa : Y70) (o_xa_0 : Y71) (o_xa_1 : Y71) (o_xa_2 : Y71) (o_xa_3 : Y71) (o_xa_4 : Y71) (o_xa_5 : Y71) (o_xa_6 : Y71) (o_xa_7 : Y71) (o_xa_8 : Y71) (o_xa_9 : Y71) (o_xa_10 : Y70) (ok_s : Nat → Int → Int → Bool) (o_s_0 : Nat → Int → Int → Int) (ok_h : Y72) (o_h_0 : Y73) (F : Nat) (rc : Y74) (ex0 : Y75) (ex1 : Y74) (x0 : List VV) (x1 x2 : Nat) (x3 : Int) (x4 : Bool) (x5 x6 x7 x8 x9 x10 x11 x12 x13 x14 x15 x16 : Int) : R :=
 bif ((decide (x6 < (((x2 : Nat) : Int))))) then (
 bif ((decide (x6 < 40))) then (
 bif ((decide (0 ≤ x6)) && (decide (x6 < ((x2 : Nat) : Int)))) then (
 let v2028 : Nat := (x1 + ((Int.toNat x6) * 1))
 bif ((isI .i32 x0[v2028]?) && true) then (
 let v2029 : Int := (iv x0[v2028]?)
 let v2030 : Int := (if (-2147483647) > v2029 then (-2147483647) else v2029)
 bif (ok_xa F x7 x8 x9 x10 x11 x12 x13 x14 x15 x16 0 0 v2030 x3) then (
 let v2031 : Int := (o_xa_0 F x7 x8 x9 x10 x11 x12 x13 x14 x15 x16 0 0 v2030 x3)
 let v2032 : Int := (o_xa_1 F x7 x8 x9 x10 x11 x12 x13 x14 x15 x16 0 0 v2030 x3)
 let v2033 : Int := (o_xa_2 F x7 x8 x9 x10 x11 x12 x13 x14 x15 x16 0 0 v2030 x3)
 let v2034 : Int := (o_xa_3 F x7 x8 x9 x10 x11 x12 x13 x14 x15 x16 0 0 v2030 x3)
 let v2035 : Int := (o_xa_4 F x7 x8 x9 x10 x11 x12 x13 x14 x15 x16 0 0 v2030 x3)
 let v2036 : Int := (o_xa_5 F x7 x8 x9 x10 x11 x12 x13 x14 x15 x16 0 0 v2030 x3)
 let v2037 : Int := (o_xa_6 F x7 x8 x9 x10 x11 x12 x13 x14 x15 x16 0 0 v2030 x3)
 let v2038 : Int := (o_xa_7 F x7 x8 x9 x10 x11 x12 x13 x14 x15 x16 0 0 v2030 x3)
 let v2039 : Int := (o_xa_8 F x7 x8 x9 x10 x11 x12 x13 x14 x15 x16 0 0 v2030 x3)
 let v2040 : Int := (o_xa_9 F x7 x8 x9 x10 x11 x12 x13 x14 x15 x16 0 0 v2030 x3)
 let v2041 : Bool := (o_xa_10 F x7 x8 x9 x10 x11 x12 x13 x14 x15 x16 0 0 v2030 x3)
 bif (ok_s F v2030 x3) then (
 let v2502 : Int := (IntKind.wrap .u32 (x5 + ((o_s_0 F v2030 x3))))
 bif (ok_h F v2031 v2032 v2033 v2034 v2035 v2036 v2037 v2038 v2039 v2040) then (
 let v2505 : Int := (IntKind.wrap .i32 ((IntKind.wrap .u32 (((o_h_0 F v2031 v2032 v2033 v2034 v2035 v2036 v2037 v2038 v2039 v2040)) - v2502))))
 let v2508 : Int := (IntKind.wrap .i32 ((IntKind.wrap .i64 (4096 * ((IntKind.wrap .i64 (x6 + 1)))))))
 bif v2041 then (
 ex0 x0 x1 x2 x3 false v2502 x6 v2030 v2041 v2505 v2508 v2031 v2032 v2033 v2034 v2035 v2036 v2037 v2038 v2039 v2040 v2031 v2032 v2033 v2034 v2035 v2036 v2037 v2038 v2039 v2040)
 else (
 bif ((decide (v2505 > v2508))) then (
 ex0 x0 x1 x2 x3 false v2502 x6 v2030 v2041 v2505 v2508 v2031 v2032 v2033 v2034 v2035 v2036 v2037 v2038 v2039 v2040 v2031 v2032 v2033 v2034 v2035 v2036 v2037 v2038 v2039 v2040)
 else (
 bif ((decide (v2505 < ((IntKind.wrap .i32 (0 - v2508)))))) then (
 ex0 x0 x1 x2 x3 false v2502 x6 v2030 v2041 v2505 v2508 v2031 v2032 v2033 v2034 v2035 v2036 v2037 v2038 v2039 v2040 v2031 v2032 v2033 v2034 v2035 v2036 v2037 v2038 v2039 v2040)
 else (
 rc x0 x1 x2 x3 x4 v2502 ((IntKind.wrap .i64 (x6 + 1))) v2031 v2032 v2033 v2034 v2035 v2036 v2037 v2038 v2039 v2040)))) else none) else none) else none) else none) else none)
 else (
 ex1 x0 x1 x2 x3 x4 x5 x6 x7 x8 x9 x10 x11 x12 x13 x14 x15 x16))
 else (
 ex1 x0 x1 x2 x3 x4 x5 x6 x7 x8 x9 x10 x11 x12 x13 x14 x15 x16)
def B_c_0 (F : Nat) (rc : Y74) (ex0 : Y75) (ex1 : Y74) (x0 : List VV) (x1 x2 : Nat) (x3 : Int) (x4 : Bool) (x5 x6 x7 x8 x9 x10 x11 x12 x13 x14 x15 x16 : Int) : R := Bg_c_0 ok_xa o_xa_0 o_xa_1 o_xa_2 o_xa_3 o_xa_4 o_xa_5 o_xa_6 o_xa_7 o_xa_8 o_xa_9 o_xa_10 ok_s o_s_0 ok_h o_h_0 F rc ex0 ex1 x0 x1 x2 x3 x4 x5 x6 x7 x8 x9 x10 x11 x12 x13 x14 x15 x16
def L_c_0 (F : Nat) (ex0 : Y75) (ex1 : Y74) : Y76
  | 0, _, _, _, _, _, _, _, _, _, _, _, _, _, _, _, _, _ => none
  | n + 1, x0, x1, x2, x3, x4, x5, x6, x7, x8, x9, x10, x11, x12, x13, x14, x15, x16 => B_c_0 F (L_c_0 F ex0 ex1 n) ex0 ex1 x0 x1 x2 x3 x4 x5 x6 x7 x8 x9 x10 x11 x12 x13 x14 x15 x16
def W_c (F : Nat) : List LW := [⟨0, T_c_0, fun k q => L_c_0 F (K_law27_AttTurns_0_0r k) (K_law27_AttTurns_0_1e0 k) F (atC (nth q 0)) (iN q 1) (iN q 2) (iI q 3) (iB q 4) (iI q 5) (iI q 6) (iI q 7) (iI q 8) (iI q 9) (iI q 10) (iI q 11) (iI q 12) (iI q 13) (iI q 14) (iI q 15) (iI q 16)⟩]
def I_c (F : Nat) : Nat → VS → (Exit → VS → R) → R := tabI c_c (W_c F)
def WJ_c (F : Nat) : List LJ := []
def J_c (F : Nat) : Nat → Nat → VS → (Exit → VS → R) → R := tabJ (WJ_c F)
theorem lL_c_0 (F : Nat) (k : Exit → VS → R) : ∀ (n : Nat) (x0 : List VV) (x1 x2 : Nat) (x3 : Int) (x4 : Bool) (x5 x6 x7 x8 x9 x10 x11 x12 x13 x14 x15 x16 : Int), iterC (codeL PP (S_c F) c_c (I_c F) (J_c F) (loopAt PP 7 0) 0) (headOf c_c 0) k n (fS T_c_0 [.c x0, .n x1, .n x2, .i x3, .b x4, .i x5, .i x6, .i x7, .i x8, .i x9, .i x10, .i x11, .i x12, .i x13, .i x14, .i x15, .i x16]) = L_c_0 F (K_law27_AttTurns_0_0r k) (K_law27_AttTurns_0_1e0 k) n x0 x1 x2 x3 x4 x5 x6 x7 x8 x9 x10 x11 x12 x13 x14 x15 x16
  | 0, _, _, _, _, _, _, _, _, _, _, _, _, _, _, _, _, _ => rfl
  | n + 1, x0, x1, x2, x3, x4, x5, x6, x7, x8, x9, x10, x11, x12, x13, x14, x15, x16 => by
    have h0 : ∀ (ok_i : Nat → Bool) (o_i_0 : Nat → Bool) (ok_jb : Nat → Bool) (o_jb_0 : Nat → Int) (o_jb_1 : Nat → Int) (o_jb_2 : Nat → Int) (o_jb_3 : Nat → Int) (o_jb_4 : Nat → Int) (o_jb_5 : Nat → Int) (o_jb_6 : Nat → Int) (o_jb_7 : Nat → Int) (o_jb_8 : Nat → Int) (o_jb_9 : Nat → Int) (ok_q : Nat → Int → Int → Bool) (o_q_0 : Nat → Int → Int → Int) (ok_xa : Y70) (o_xa_0 : Y71) (o_xa_1 : Y71) (o_xa_2 : Y71) (o_xa_3 : Y71) (o_xa_4 : Y71) (o_xa_5 : Y71) (o_xa_6 : Y71) (o_xa_7 : Y71) (o_xa_8 : Y71) (o_xa_9 : Y71) (o_xa_10 : Y70) (ok_s : Nat → Int → Int → Bool) (o_s_0 : Nat → Int → Int → Int) (ok_h : Y72) (o_h_0 : Y73) (L_c_0 : Nat → (Y75) → (Y74) → Y76), iterC (codeL PP (words [(23, z_i ok_i o_i_0 F), (24, z_jb ok_jb o_jb_0 o_jb_1 o_jb_2 o_jb_3 o_jb_4 o_jb_5 o_jb_6 o_jb_7 o_jb_8 o_jb_9 F), (22, z_q ok_q o_q_0 F), (25, z_xa ok_xa o_xa_0 o_xa_1 o_xa_2 o_xa_3 o_xa_4 o_xa_5 o_xa_6 o_xa_7 o_xa_8 o_xa_9 o_xa_10 F), (26, z_s ok_s o_s_0 F), (27, z_h ok_h o_h_0 F)]) c_c (tabI c_c [⟨0, T_c_0, fun k q => L_c_0 F (K_law27_AttTurns_0_0r k) (K_law27_AttTurns_0_1e0 k) F (atC (nth q 0)) (iN q 1) (iN q 2) (iI q 3) (iB q 4) (iI q 5) (iI q 6) (iI q 7) (iI q 8) (iI q 9) (iI q 10) (iI q 11) (iI q 12) (iI q 13) (iI q 14) (iI q 15) (iI q 16)⟩]) (tabJ []) (loopAt PP 7 0) 0) (headOf c_c 0) k (n + 1) (fS T_c_0 [.c x0, .n x1, .n x2, .i x3, .b x4, .i x5, .i x6, .i x7, .i x8, .i x9, .i x10, .i x11, .i x12, .i x13, .i x14, .i x15, .i x16]) = (Bg_c_0 ok_xa o_xa_0 o_xa_1 o_xa_2 o_xa_3 o_xa_4 o_xa_5 o_xa_6 o_xa_7 o_xa_8 o_xa_9 o_xa_10 ok_s o_s_0 ok_h o_h_0 F) (fun (y0 : List VV) (y1 y2 : Nat) (y3 : Int) (y4 : Bool) (y5 y6 y7 y8 y9 y10 y11 y12 y13 y14 y15 y16 : Int) => iterC (codeL PP (words [(23, z_i ok_i o_i_0 F), (24, z_jb ok_jb o_jb_0 o_jb_1 o_jb_2 o_jb_3 o_jb_4 o_jb_5 o_jb_6 o_jb_7 o_jb_8 o_jb_9 F), (22, z_q ok_q o_q_0 F), (25, z_xa ok_xa o_xa_0 o_xa_1 o_xa_2 o_xa_3 o_xa_4 o_xa_5 o_xa_6 o_xa_7 o_xa_8 o_xa_9 o_xa_10 F), (26, z_s ok_s o_s_0 F), (27, z_h ok_h o_h_0 F)]) c_c (tabI c_c [⟨0, T_c_0, fun k q => L_c_0 F (K_law27_AttTurns_0_0r k) (K_law27_AttTurns_0_1e0 k) F (atC (nth q 0)) (iN q 1) (iN q 2) (iI q 3) (iB q 4) (iI q 5) (iI q 6) (iI q 7) (iI q 8) (iI q 9) (iI q 10) (iI q 11) (iI q 12) (iI q 13) (iI q 14) (iI q 15) (iI q 16)⟩]) (tabJ []) (loopAt PP 7 0) 0) (headOf c_c 0) k n (fS T_c_0 [.c y0, .n y1, .n y2, .i y3, .b y4, .i y5, .i y6, .i y7, .i y8, .i y9, .i y10, .i y11, .i y12, .i y13, .i y14, .i y15, .i y16])) (K_law27_AttTurns_0_0r k) (K_law27_AttTurns_0_1e0 k) x0 x1 x2 x3 x4 x5 x6 x7 x8 x9 x10 x11 x12 x13 x14 x15 x16 := by
      intros
      kernel_rfl
    have h : iterC (codeL PP (S_c F) c_c (I_c F) (J_c F) (loopAt PP 7 0) 0) (headOf c_c 0) k (n + 1) (fS T_c_0 [.c x0, .n x1, .n x2, .i x3, .b x4, .i x5, .i x6, .i x7, .i x8, .i x9, .i x10, .i x11, .i x12, .i x13, .i x14, .i x15, .i x16]) = B_c_0 F (fun (y0 : List VV) (y1 y2 : Nat) (y3 : Int) (y4 : Bool) (y5 y6 y7 y8 y9 y10 y11 y12 y13 y14 y15 y16 : Int) => iterC (codeL PP (S_c F) c_c (I_c F) (J_c F) (loopAt PP 7 0) 0) (headOf c_c 0) k n (fS T_c_0 [.c y0, .n y1, .n y2, .i y3, .b y4, .i y5, .i y6, .i y7, .i y8, .i y9, .i y10, .i y11, .i y12, .i y13, .i y14, .i y15, .i y16])) (K_law27_AttTurns_0_0r k) (K_law27_AttTurns_0_1e0 k) x0 x1 x2 x3 x4 x5 x6 x7 x8 x9 x10 x11 x12 x13 x14 x15 x16 := (h0 ok_i o_i_0 ok_jb o_jb_0 o_jb_1 o_jb_2 o_jb_3 o_jb_4 o_jb_5 o_jb_6 o_jb_7 o_jb_8 o_jb_9 ok_q o_q_0 ok_xa o_xa_0 o_xa_1 o_xa_2 o_xa_3 o_xa_4 o_xa_5 o_xa_6 o_xa_7 o_xa_8 o_xa_9 o_xa_10 ok_s o_s_0 ok_h o_h_0 L_c_0).trans (by kernel_rfl)
    rw [h]
    simp only [lL_c_0 F k n]
    rfl
def fg_c (ok_i : Nat → Bool) (o_i_0 : Nat → Bool) (ok_jb : Nat → Bool) (o_jb_0 : Nat → Int) (o_jb_1 : Nat → Int) (o_jb_2 : Nat → Int) (o_jb_3 : Nat → Int) (o_jb_4 : Nat → Int) (o_jb_5 : Nat → Int) (o_jb_6 : Nat → Int) (o_jb_7 : Nat → Int) (o_jb_8 : Nat → Int) (o_jb_9 : Nat → Int) (ok_q : Nat → Int → Int → Bool) (o_q_0 : Nat → Int → Int → Int) (L_c_0 : Nat → (Y75) → (Y74) → Y76) (F : Nat) (a0 : List VV) (a1 a2 : Nat) (a3 : Int) : R :=
 bif (ok_i F) then (
 bif ((!((o_i_0 F)))) then (
 some (.v (.bool false)))
 else (
 bif (ok_jb F) then (
 bif (ok_q F a3 100) then (
 L_c_0 F (fun (v2513 : List VV) (v2514 v2515 : Nat) (v2516 : Int) (v2517 : Bool) (v2518 v2519 v2520 : Int) (v2521 : Bool) (v2522 v2523 v2524 v2525 v2526 v2527 v2528 v2529 v2530 v2531 v2532 v2533 v2534 v2535 v2536 v2537 v2538 v2539 v2540 v2541 v2542 v2543 : Int) =>
 some (.v (.bool v2517))) (fun (v2544 : List VV) (v2545 v2546 : Nat) (v2547 : Int) (v2548 : Bool) (v2549 v2550 v2551 v2552 v2553 v2554 v2555 v2556 v2557 v2558 v2559 v2560 : Int) =>
 some (.v (.bool true))) F a0 a1 a2 ((o_q_0 F a3 100)) false 0 0 ((o_jb_0 F)) ((o_jb_1 F)) ((o_jb_2 F)) ((o_jb_3 F)) ((o_jb_4 F)) ((o_jb_5 F)) ((o_jb_6 F)) ((o_jb_7 F)) ((o_jb_8 F)) ((o_jb_9 F))) else none) else none)) else none
def f_c (F : Nat) (a0 : List VV) (a1 a2 : Nat) (a3 : Int) : R := fg_c ok_i o_i_0 ok_jb o_jb_0 o_jb_1 o_jb_2 o_jb_3 o_jb_4 o_jb_5 o_jb_6 o_jb_7 o_jb_8 o_jb_9 ok_q o_q_0 L_c_0 F a0 a1 a2 a3
theorem e_c (F : Nat) (a0 : List VV) (a1 a2 : Nat) (a3 : Int) : funL PP (S_c F) c_c (I_c F) (J_c F) 7 (fTs ti_c [.c a0, .n a1, .n a2, .i a3]).1 = f_c F a0 a1 a2 a3 := by
  have h : ∀ (ok_i : Nat → Bool) (o_i_0 : Nat → Bool) (ok_jb : Nat → Bool) (o_jb_0 : Nat → Int) (o_jb_1 : Nat → Int) (o_jb_2 : Nat → Int) (o_jb_3 : Nat → Int) (o_jb_4 : Nat → Int) (o_jb_5 : Nat → Int) (o_jb_6 : Nat → Int) (o_jb_7 : Nat → Int) (o_jb_8 : Nat → Int) (o_jb_9 : Nat → Int) (ok_q : Nat → Int → Int → Bool) (o_q_0 : Nat → Int → Int → Int) (ok_xa : Y70) (o_xa_0 : Y71) (o_xa_1 : Y71) (o_xa_2 : Y71) (o_xa_3 : Y71) (o_xa_4 : Y71) (o_xa_5 : Y71) (o_xa_6 : Y71) (o_xa_7 : Y71) (o_xa_8 : Y71) (o_xa_9 : Y71) (o_xa_10 : Y70) (ok_s : Nat → Int → Int → Bool) (o_s_0 : Nat → Int → Int → Int) (ok_h : Y72) (o_h_0 : Y73) (L_c_0 : Nat → (Y75) → (Y74) → Y76), funL PP (words [(23, z_i ok_i o_i_0 F), (24, z_jb ok_jb o_jb_0 o_jb_1 o_jb_2 o_jb_3 o_jb_4 o_jb_5 o_jb_6 o_jb_7 o_jb_8 o_jb_9 F), (22, z_q ok_q o_q_0 F), (25, z_xa ok_xa o_xa_0 o_xa_1 o_xa_2 o_xa_3 o_xa_4 o_xa_5 o_xa_6 o_xa_7 o_xa_8 o_xa_9 o_xa_10 F), (26, z_s ok_s o_s_0 F), (27, z_h ok_h o_h_0 F)]) c_c (tabI c_c [⟨0, T_c_0, fun k q => L_c_0 F (K_law27_AttTurns_0_0r k) (K_law27_AttTurns_0_1e0 k) F (atC (nth q 0)) (iN q 1) (iN q 2) (iI q 3) (iB q 4) (iI q 5) (iI q 6) (iI q 7) (iI q 8) (iI q 9) (iI q 10) (iI q 11) (iI q 12) (iI q 13) (iI q 14) (iI q 15) (iI q 16)⟩]) (tabJ []) 7 (fTs ti_c [.c a0, .n a1, .n a2, .i a3]).1 = fg_c ok_i o_i_0 ok_jb o_jb_0 o_jb_1 o_jb_2 o_jb_3 o_jb_4 o_jb_5 o_jb_6 o_jb_7 o_jb_8 o_jb_9 ok_q o_q_0 L_c_0 F a0 a1 a2 a3 := by
    intros
    kernel_rfl
  exact (h ok_i o_i_0 ok_jb o_jb_0 o_jb_1 o_jb_2 o_jb_3 o_jb_4 o_jb_5 o_jb_6 o_jb_7 o_jb_8 o_jb_9 ok_q o_q_0 ok_xa o_xa_0 o_xa_1 o_xa_2 o_xa_3 o_xa_4 o_xa_5 o_xa_6 o_xa_7 o_xa_8 o_xa_9 o_xa_10 ok_s o_s_0 ok_h o_h_0 L_c_0).trans (by kernel_rfl)
def ok_c (F : Nat) (a0 : List VV) (a1 a2 : Nat) (a3 : Int) : Bool := okT to_c (f_c F a0 a1 a2 a3)
def o_c_0 (F : Nat) (a0 : List VV) (a1 a2 : Nat) (a3 : Int) : Bool := atB (nth (outT to_c (f_c F a0 a1 a2 a3)) 0)
theorem k_c (F : Nat) (a0 : List VV) (a1 a2 : Nat) (a3 : Int) {z0 : Bool} (h : f_c F a0 a1 a2 a3 = some (.v (.bool z0))) : ok_c F a0 a1 a2 a3 = true ∧ o_c_0 F a0 a1 a2 a3 = z0 := by
  refine ⟨?_, ?_⟩
  · unfold ok_c; rw [h]; kernel_rfl
  · unfold o_c_0; rw [h]; kernel_rfl
def s_c (F : Nat) : List VV → Option (Bool × VV) := spec ti_c to_c (fun q => (ok_c F (atC (nth q 0)) (iN q 1) (iN q 2) (iI q 3))) (fun q => [.b (o_c_0 F (atC (nth q 0)) (iN q 1) (iN q 2) (iI q 3))])
theorem hS_c (F : Nat) : ∀ f, Good PP f (unS (S_c F f)) := words_good fun p hp => by
  simp only [List.mem_cons, List.not_mem_nil, or_false] at hp
  rcases hp with rfl | rfl | rfl | rfl | rfl | rfl
  · exact g_i F
  · exact g_jb F
  · exact g_q F
  · exact g_xa F
  · exact g_s F
  · exact g_h F
theorem hl_c (F : Nat) : ∀ p ∈ loopsIn PP 7, LoopOK PP (S_c F) c_c F (I_c F) (J_c F) p :=
  loops_of [(0, loopAt PP 7 0)] (by kernel_rfl) (all_cons
    (loop_ok (W_c F) rfl (tab_cons (fun _ k q => Le.ofEq ((lL_c_0 F k F (atC (nth q 0)) (iN q 1) (iN q 2) (iI q 3) (iB q 4) (iI q 5) (iI q 6) (iI q 7) (iI q 8) (iI q 9) (iI q 10) (iI q 11) (iI q 12) (iI q 13) (iI q 14) (iI q 15) (iI q 16)).symm.trans (congrArg (iterC (codeL PP (S_c F) c_c (I_c F) (J_c F) (loopAt PP 7 0) 0) (headOf c_c 0) k F) (show fS T_c_0 [.c (atC (nth q 0)), .n (iN q 1), .n (iN q 2), .i (iI q 3), .b (iB q 4), .i (iI q 5), .i (iI q 6), .i (iI q 7), .i (iI q 8), .i (iI q 9), .i (iI q 10), .i (iI q 11), .i (iI q 12), .i (iI q 13), .i (iI q 14), .i (iI q 15), .i (iI q 16)] = fS T_c_0 q by kernel_rfl)))) tab_nil)) all_nil)
theorem hj_c (F : Nat) : ∀ p ∈ joinsIn PP c_c 7, JoinOK PP (S_c F) c_c (I_c F) (J_c F) p :=
  joins_of [] (by kernel_rfl) all_nil
theorem g_c (F : Nat) : Good PP 7 (unS (s_c F)) :=
  fun_spec (hS_c F) (by kernel_rfl) (by kernel_rfl) (C := c_c) (F := fun q => (f_c F (atC (nth q 0)) (iN q 1) (iN q 2) (iI q 3))) (fun _ => F) (fun _ => I_c F) (fun _ => J_c F) (fun _ => hl_c F) (fun _ => hj_c F)
    (fun q => (congrArg (funL PP (S_c F) c_c (I_c F) (J_c F) 7) (show (fTs ti_c q).1 = (fTs ti_c [.c (atC (nth q 0)), .n (iN q 1), .n (iN q 2), .i (iI q 3)]).1 by kernel_rfl)).trans (e_c F (atC (nth q 0)) (iN q 1) (iN q 2) (iI q 3)))
    (fun _ h => (okT_fill h).trans (congrArg some (by kernel_rfl)))

end Go.Xv
namespace Go.Xv
theorem p2pos (n : Nat) : (0 : Int) < 2 ^ n := Int.pow_pos (by decide)
theorem p2add (a b : Nat) : (2 : Int) ^ a * 2 ^ b = 2 ^ (a + b) := (Int.pow_add 2 a b).symm
theorem p2_64 {m : Nat} (h : m ≤ 64) : (2 : Int) ^ m * 2 ^ (64 - m) = 18446744073709551616 := by
  rw [p2add, show m + (64 - m) = 64 by omega]; decide
theorem p2cast (k : Nat) : ((2 ^ k : Nat) : Int) = 2 ^ k := by push_cast; rfl
theorem or_comm_u64 (a b : Int) : orI .u64 a b = orI .u64 b a := by rw [or_u64_bv, or_u64_bv, BitVec.or_comm]
theorem div_I64 {h P : Int} (hh : I64 h) (hP : 0 < P) : I64 (h / P) := by
  unfold I64 at *
  rcases Int.lt_or_le h 0 with hn | hn
  · constructor
    · rw [Int.le_ediv_iff_mul_le hP]
      have : -9223372036854775808 * P ≤ -9223372036854775808 * 1 := Int.mul_le_mul_of_nonpos_left (by omega) (by omega)
      omega
    · have := Int.ediv_neg_of_neg_of_pos hn hP
      omega
  · have h1 := Int.ediv_nonneg hn (Int.le_of_lt hP)
    have h2 := Int.ediv_le_self P hn
    omega
theorem emod_mul {a P Q : Int} (hP : 0 < P) : (a * P) % (P * Q) = (a % Q) * P := by
  rw [Int.mul_comm a P, Int.mul_emod_mul_of_pos _ _ hP, Int.mul_comm]

/-- a shift to the right by less than a half, put together of both halves. -/
theorem shr_small {h l : Int} {m : Nat} (hh : I64 h) (hl : U64 l) (hm : m < 64) :
    h / 2 ^ m = hi (val h l / 2 ^ m) ∧ orI .u64 (l / 2 ^ m) (((h % 18446744073709551616) * 2 ^ (64 - m)) % 18446744073709551616) = lo (val h l / 2 ^ m) := by
  have hP := p2pos m
  have hQ := p2pos (64 - m)
  have hPQ := p2_64 (m := m) (by omega)
  have hI := div_I64 hh hP
  have eP : ((2 ^ (64 - m) : Nat) : Int) = 2 ^ (64 - m) := p2cast _
  have orq := fun a b => or_add_u64 (64 - m) (a := a) (b := b)
  rw [eP] at orq
  generalize (2 : Int) ^ m = P at *
  generalize (2 : Int) ^ (64 - m) = Q at *
  have hv : val h l / P = h * Q + l / P := by
    unfold val
    rw [← hPQ, show h * (P * Q) + l = l + h * Q * P by rw [Int.mul_comm P Q, ← Int.mul_assoc]; omega, Int.add_mul_ediv_right _ _ (by omega)]
    omega
  have hlP : 0 ≤ l / P ∧ l / P < Q := by
    unfold U64 at hl
    refine ⟨Int.ediv_nonneg hl.1 (by omega), Int.ediv_lt_of_lt_mul hP ?_⟩
    rw [Int.mul_comm]; omega
  have h64 : (0 : Int) < 18446744073709551616 := by decide
  have hdd : (h * Q + l / P) / 18446744073709551616 = h / P := by
    rw [← hPQ, Int.mul_comm P Q, ← Int.ediv_ediv_of_nonneg (by omega), show h * Q + l / P = l / P + h * Q by omega, Int.add_mul_ediv_right _ _ (by omega), Int.ediv_eq_zero_of_lt hlP.1 hlP.2]
    simp
  rw [hv]
  constructor
  · unfold hi
    rw [hdd]
    unfold I64 at hI
    omega
  · have e1 : ((h % 18446744073709551616) * Q) % 18446744073709551616 = (h % P) * Q := by
      rw [← hPQ, Int.mul_comm P Q, emod_mul hQ, Int.mul_comm Q P, Int.emod_emod_of_dvd h (Int.dvd_mul_right P Q)]
    have b1 := Int.emod_nonneg h (show P ≠ 0 by omega)
    have b2 := Int.emod_lt_of_pos h hP
    have b3 : (h % P) * Q + l / P < 18446744073709551616 := by
      have : (h % P) * Q ≤ (P - 1) * Q := Int.mul_le_mul_of_nonneg_right (by omega) (by omega)
      rw [Int.sub_mul] at this
      omega
    have b4 := Int.mul_nonneg b1 (show 0 ≤ Q by omega)
    rw [e1, or_comm_u64, orq _ _ b1 hlP.1 hlP.2 b3]
    unfold lo
    have e2 : (h * Q) % 18446744073709551616 = (h % P) * Q := by rw [← hPQ, Int.mul_comm P Q, emod_mul hQ]
    omega

theorem shr_great {h l : Int} {m : Nat} (hl : U64 l) (hm : 64 ≤ m) : h / 2 ^ (m - 64) = val h l / 2 ^ m := by
  have e : (2 : Int) ^ m = 18446744073709551616 * 2 ^ (m - 64) := by
    rw [show (18446744073709551616 : Int) = 2 ^ 64 by decide, p2add, show 64 + (m - 64) = m by omega]
  rw [e, ← Int.ediv_ediv_of_nonneg (by decide)]
  congr 1
  unfold val
  unfold U64 at hl
  omega

theorem shl_small {h l : Int} {m : Nat} (hl : U64 l) (hm : m < 64) :
    IntKind.wrap .i64 (orI .u64 (((h % 18446744073709551616) * 2 ^ m) % 18446744073709551616) (l / 2 ^ (64 - m))) = hi (val h l * 2 ^ m) ∧ (l * 2 ^ m) % 18446744073709551616 = lo (val h l * 2 ^ m) := by
  have hP := p2pos m
  have hQ := p2pos (64 - m)
  have hPQ := p2_64 (m := m) (by omega)
  have eP : ((2 ^ m : Nat) : Int) = 2 ^ m := p2cast _
  have orq := fun a b => or_add_u64 m (a := a) (b := b)
  rw [eP] at orq
  generalize (2 : Int) ^ m = P at *
  generalize (2 : Int) ^ (64 - m) = Q at *
  have hv : val h l * P = h * P * 18446744073709551616 + l * P := by
    unfold val
    rw [Int.add_mul]
    have : h * 18446744073709551616 * P = h * P * 18446744073709551616 := by simp only [Int.mul_comm, Int.mul_assoc, Int.mul_left_comm]
    omega
  have hlP : 0 ≤ l / Q ∧ l / Q < P := by
    unfold U64 at hl
    exact ⟨Int.ediv_nonneg hl.1 (by omega), Int.ediv_lt_of_lt_mul hQ (by omega)⟩
  rw [hv]
  have e3 : (l * P) / 18446744073709551616 = l / Q := by
    rw [← hPQ, ← Int.ediv_ediv_of_nonneg (by omega), Int.mul_ediv_cancel _ (by omega)]
  constructor
  · have e1 : ((h % 18446744073709551616) * P) % 18446744073709551616 = (h % Q) * P := by
      rw [← hPQ, emod_mul hP, Int.emod_emod_of_dvd h (show Q ∣ P * Q from ⟨P, Int.mul_comm P Q⟩)]
    have b1 := Int.emod_nonneg h (show Q ≠ 0 by omega)
    have b2 := Int.emod_lt_of_pos h hQ
    have b3 : (h % Q) * P + l / Q < 18446744073709551616 := by
      have : (h % Q) * P ≤ (Q - 1) * P := Int.mul_le_mul_of_nonneg_right (by omega) (by omega)
      rw [Int.sub_mul, Int.mul_comm Q P] at this
      omega
    have b4 := Int.mul_nonneg b1 (show 0 ≤ P by omega)
    rw [e1, orq _ _ b1 hlP.1 hlP.2 b3, wi64]
    unfold hi
    have e2 : (h * P) % 18446744073709551616 = (h % Q) * P := by rw [← hPQ, emod_mul hP]
    rw [show (h * P * 18446744073709551616 + l * P) / 18446744073709551616 = h * P + (l * P) / 18446744073709551616 by omega, e3]
    omega
  · unfold lo
    omega

theorem shl_great {h l : Int} {m : Nat} (hm : 64 ≤ m) :
    IntKind.wrap .i64 ((l * 2 ^ (m - 64)) % 18446744073709551616) = hi (val h l * 2 ^ m) ∧ 0 = lo (val h l * 2 ^ m) := by
  have e : (2 : Int) ^ m = 2 ^ (m - 64) * 18446744073709551616 := by
    rw [show (18446744073709551616 : Int) = 2 ^ 64 by decide, p2add, show (m - 64) + 64 = m by omega]
  rw [e]
  generalize (2 : Int) ^ (m - 64) = P at *
  have hv : val h l * (P * 18446744073709551616) = (h * P * 18446744073709551616 + l * P) * 18446744073709551616 := by
    unfold val
    simp only [Int.add_mul]
    have : h * 18446744073709551616 * (P * 18446744073709551616) = h * P * 18446744073709551616 * 18446744073709551616 := by simp only [Int.mul_comm, Int.mul_assoc, Int.mul_left_comm]
    have : l * (P * 18446744073709551616) = l * P * 18446744073709551616 := by simp only [Int.mul_assoc]
    omega
  rw [hv]
  generalize h * P = a
  generalize l * P = b
  constructor
  · rw [wi64]; unfold hi; omega
  · unfold lo; omega
theorem shl_all {h l : Int} {m : Nat} (hm : 128 ≤ m) : 0 = hi (val h l * 2 ^ m) ∧ 0 = lo (val h l * 2 ^ m) := by
  have e : (2 : Int) ^ m = 2 ^ (m - 128) * 340282366920938463463374607431768211456 := by
    rw [show (340282366920938463463374607431768211456 : Int) = 2 ^ 128 by decide, p2add, show (m - 128) + 128 = m by omega]
  rw [e, ← Int.mul_assoc]
  generalize val h l * 2 ^ (m - 128) = b
  constructor
  · unfold hi; omega
  · unfold lo; omega
end Go.Xv
namespace Go.Xv
/-- one bit of a number -/
def dg (z : Int) (i : Nat) : Int := z / 2 ^ i % 2
def ds (z : Int) (n : Nat) : List VV := (List.range n).map fun i => .v (.int .i64 (dg z i))
theorem dg_01 (z : Int) (i : Nat) : 0 ≤ dg z i ∧ dg z i ≤ 1 := by unfold dg; omega
theorem ds_len (z : Int) (n : Nat) : (ds z n).length = n := by simp [ds]
theorem ds_zero (z : Int) : ds z 0 = [] := rfl
theorem ds_succ (z : Int) (n : Nat) : ds z (n + 1) = ds z n ++ [.v (.int .i64 (dg z n))] := by simp [ds, List.range_succ]
theorem ds_get (z : Int) {n i : Nat} (h : i < n) : (ds z n)[i]? = some (.v (.int .i64 (dg z i))) := by simp [ds, h]
theorem ds_take (z : Int) (n : Nat) : ((ds z n).drop 0).take (n * 1) = ds z n := by
  rw [List.drop_zero, List.take_of_length_le]
  rw [ds_len]; omega
theorem ediv2 (x : Int) (i : Nat) : x / 2 ^ i / 2 = x / 2 ^ (i + 1) := by
  rw [Int.ediv_ediv_of_nonneg (Int.le_of_lt (p2pos i))]; rfl
theorem bitlo (x : Int) {n i : Nat} (h : i < n) : (x % 2 ^ n) / 2 ^ i % 2 = x / 2 ^ i % 2 := by
  have e : (2 : Int) ^ n = 2 ^ i * (2 * 2 ^ (n - i - 1)) := by
    rw [show (2 : Int) * 2 ^ (n - i - 1) = 2 ^ (n - i) by
      rw [show n - i = (n - i - 1) + 1 by omega, Int.pow_succ]; simp [Int.mul_comm]]
    rw [p2add, show i + (n - i) = n by omega]
  have hd := Int.mul_ediv_add_emod x (2 ^ n)
  generalize hq : x / 2 ^ n = q at hd
  generalize hr : x % 2 ^ n = r at hd ⊢
  rw [← hd, e]
  have hP := p2pos i
  generalize (2 : Int) ^ i = P at *
  generalize (2 : Int) ^ (n - i - 1) = T at *
  rw [show P * (2 * T) * q + r = r + 2 * T * q * P by
    have : P * (2 * T) * q = 2 * T * q * P := by simp only [Int.mul_comm, Int.mul_left_comm]
    omega, Int.add_mul_ediv_right _ _ (by omega)]
  have : 2 * T * q = 2 * (T * q) := Int.mul_assoc ..
  omega
theorem dg_lo (z : Int) {i : Nat} (h : i < 64) : lo z / 2 ^ i % 2 = dg z i := bitlo z (n := 64) h
theorem dg_hi (z : Int) {i : Nat} (h : i < 64) : (z / 18446744073709551616 % 18446744073709551616) / 2 ^ i % 2 = dg z (64 + i) := by
  have := bitlo (z / 18446744073709551616) (n := 64) h
  rw [show (18446744073709551616 : Int) = 2 ^ 64 by decide] at *
  rw [this, Int.ediv_ediv_of_nonneg (by decide), p2add]
  rfl
/-- the number of the first bits -/
def num (z : Int) (n : Nat) : Int := z % 2 ^ n
theorem num_zero (z : Int) : num z 0 = 0 := by unfold num; omega
theorem num_succ (z : Int) (n : Nat) : num z (n + 1) = num z n + dg z n * 2 ^ n := by
  unfold num dg
  have h1 := Int.mul_ediv_add_emod z (2 ^ n)
  have h2 := Int.mul_ediv_add_emod (z / 2 ^ n) 2
  have h3 := Int.mul_ediv_add_emod z (2 ^ (n + 1))
  rw [← ediv2] at h3
  have hP := p2pos n
  have e : (2 : Int) ^ (n + 1) = 2 * 2 ^ n := by rw [Int.pow_succ, Int.mul_comm]
  rw [e] at h3 ⊢
  generalize (2 : Int) ^ n = P at *
  generalize z / P = q at *
  have : 2 * P * (q / 2) = P * (2 * (q / 2)) := by simp only [Int.mul_comm, Int.mul_left_comm]
  have : P * q = P * (2 * (q / 2) + q % 2) := by rw [h2]
  rw [Int.mul_add] at this
  rw [Int.mul_comm (q % 2) P]
  omega
theorem num_bd (z : Int) (n : Nat) : 0 ≤ num z n ∧ num z n < 2 ^ n := by
  have := p2pos n
  exact ⟨Int.emod_nonneg _ (by omega), Int.emod_lt_of_pos _ this⟩
theorem p2mono {a b : Nat} (h : a ≤ b) : (2 : Int) ^ a ≤ 2 ^ b := by
  rw [show b = a + (b - a) by omega, ← p2add]
  have h1 := p2pos a
  have h2 := p2pos (b - a)
  have : (2 : Int) ^ a * 1 ≤ 2 ^ a * 2 ^ (b - a) := Int.mul_le_mul_of_nonneg_left (by omega) (by omega)
  omega
theorem p2_lt64 {i : Nat} (h : i < 64) : (2 : Int) ^ i * 2 ≤ 18446744073709551616 := by
  have := p2mono (a := i + 1) (b := 64) (by omega)
  rw [Int.pow_succ] at this
  simpa using this
/-- the bits of a sum -/
def cy (x y : Int) (i : Nat) : Int := (num x i + num y i) / 2 ^ i
theorem cy_zero (x y : Int) : cy x y 0 = 0 := by unfold cy; rw [num_zero, num_zero]; decide
theorem cy_01 (x y : Int) (i : Nat) : 0 ≤ cy x y i ∧ cy x y i ≤ 1 := by
  unfold cy
  have h1 := num_bd x i
  have h2 := num_bd y i
  have hP := p2pos i
  generalize (2 : Int) ^ i = P at *
  refine ⟨Int.ediv_nonneg (by omega) (by omega), ?_⟩
  have : (num x i + num y i) / P < 2 := Int.ediv_lt_of_lt_mul hP (by omega)
  omega
theorem cy_succ (x y : Int) (i : Nat) : cy x y (i + 1) = (dg x i + dg y i + cy x y i) / 2 ∧ dg (x + y) i = (dg x i + dg y i + cy x y i) % 2 := by
  have hP := p2pos i
  have e1 := num_succ x i
  have e2 := num_succ y i
  constructor
  · unfold cy
    rw [e1, e2, ← ediv2]
    generalize (2 : Int) ^ i = P at *
    rw [show num x i + dg x i * P + (num y i + dg y i * P) = num x i + num y i + (dg x i + dg y i) * P by rw [Int.add_mul]; omega, Int.add_mul_ediv_right _ _ (by omega)]
    congr 1
    omega
  · unfold cy
    have h1 := Int.mul_ediv_add_emod x (2 ^ i)
    have h2 := Int.mul_ediv_add_emod y (2 ^ i)
    have h3 : (x + y) / 2 ^ i = x / 2 ^ i + y / 2 ^ i + (num x i + num y i) / 2 ^ i := by
      unfold num
      generalize (2 : Int) ^ i = P at *
      have : x + y = (x % P + y % P) + (x / P + y / P) * P := by
        rw [Int.add_mul, Int.mul_comm _ P, Int.mul_comm _ P]; omega
      rw [this, Int.add_mul_ediv_right _ _ (by omega)]
      omega
    unfold dg
    rw [h3]
    omega
theorem dg_not (z : Int) (i : Nat) : dg (-1 - z) i = 1 - dg z i := by
  have h : (-1 - z) / 2 ^ i = -1 - z / 2 ^ i := by
    have hP := p2pos i
    have h1 := Int.mul_ediv_add_emod z (2 ^ i)
    have h2 := Int.emod_nonneg z (show (2 : Int) ^ i ≠ 0 by omega)
    have h3 := Int.emod_lt_of_pos z hP
    generalize (2 : Int) ^ i = P at *
    generalize z / P = q at *
    generalize z % P = r at *
    rw [← h1, show -1 - (P * q + r) = (P - 1 - r) + (-1 - q) * P by rw [Int.sub_mul, Int.mul_comm P q]; omega, Int.add_mul_ediv_right _ _ (by omega), Int.ediv_eq_zero_of_lt (by omega) (by omega)]
    omega
  unfold dg
  rw [h]
  omega
end Go.Xv
namespace Go.Xv
def angs : List Int := [536870912, 316933406, 167458907, 85004756, 42667331, 21354465, 10679838, 5340245, 2670163, 1335087, 667544, 333772, 166886, 83443, 41722, 20861, 10430, 5215, 2608, 1304, 652, 326, 163, 81, 41, 20, 10, 5, 3, 1]
def tA (i : Nat) : Int := angs.getD i 0
theorem tA_bd : ∀ i, i < 30 → 1 ≤ tA i ∧ tA i ≤ 536870912 := by decide
theorem ediv_bd {y B : Int} (h : -B ≤ y ∧ y ≤ B) (i : Nat) : -B ≤ y / 2 ^ i ∧ y / 2 ^ i ≤ B := by
  have hP := p2pos i
  generalize (2 : Int) ^ i = P at *
  rcases Int.lt_or_le y 0 with hn | hn
  · constructor
    · rw [Int.le_ediv_iff_mul_le hP]
      have : -B * P ≤ -B * 1 := Int.mul_le_mul_of_nonpos_left (by omega) (by omega)
      omega
    · have := Int.ediv_neg_of_neg_of_pos hn hP
      omega
  · have h1 := Int.ediv_nonneg hn (Int.le_of_lt hP)
    have h2 := Int.ediv_le_self P hn
    omega
def rotX (i : Nat) (o : Bool) (x y : Int) : Int := if o then x - y / 2 ^ i else x + y / 2 ^ i
def rotY (i : Nat) (o : Bool) (x y : Int) : Int := if o then y + x / 2 ^ i else y - x / 2 ^ i
theorem rot_bd {x y B : Int} (hx : -B ≤ x ∧ x ≤ B) (hy : -B ≤ y ∧ y ≤ B) (i : Nat) (o : Bool) : (-(2 * B) ≤ rotX i o x y ∧ rotX i o x y ≤ 2 * B) ∧ (-(2 * B) ≤ rotY i o x y ∧ rotY i o x y ≤ 2 * B) := by
  have h1 := ediv_bd hx i
  have h2 := ediv_bd hy i
  unfold rotX rotY
  cases o
  · simp only [Bool.false_eq_true, if_false]; omega
  · simp only [if_true]; omega
/-- sine and cosine, step by step: both parts, and what is left -/
def bS (z : Int) : Nat → Int × Int × Int
  | 0 => (2608131496, 0, z)
  | i + 1 => (rotX i (decide (0 ≤ (bS z i).2.2)) (bS z i).1 (bS z i).2.1, rotY i (decide (0 ≤ (bS z i).2.2)) (bS z i).1 (bS z i).2.1, if 0 ≤ (bS z i).2.2 then (bS z i).2.2 - tA i else (bS z i).2.2 + tA i)
theorem bS_bd (z : Int) : ∀ i, (-(2608131496 * 2 ^ i) ≤ (bS z i).1 ∧ (bS z i).1 ≤ 2608131496 * 2 ^ i) ∧ (-(2608131496 * 2 ^ i) ≤ (bS z i).2.1 ∧ (bS z i).2.1 ≤ 2608131496 * 2 ^ i)
  | 0 => by simp [bS]
  | i + 1 => by
    obtain ⟨h1, h2⟩ := bS_bd z i
    have := rot_bd h1 h2 i (decide (0 ≤ (bS z i).2.2))
    have e : (2608131496 : Int) * 2 ^ (i + 1) = 2 * (2608131496 * 2 ^ i) := by rw [Int.pow_succ]; omega
    rw [e]
    exact this
theorem bS_I (z : Int) {i : Nat} (h : i ≤ 30) : (-4611686018427387904 ≤ (bS z i).1 ∧ (bS z i).1 ≤ 4611686018427387904) ∧ (-4611686018427387904 ≤ (bS z i).2.1 ∧ (bS z i).2.1 ≤ 4611686018427387904) := by
  have h1 := bS_bd z i
  have h2 : (2608131496 : Int) * 2 ^ i ≤ 2608131496 * 2 ^ 30 := Int.mul_le_mul_of_nonneg_left (p2mono h) (by decide)
  have h3 : (2608131496 : Int) * 2 ^ 30 ≤ 4611686018427387904 := by decide
  omega
theorem bS_z {z : Int} (hz : 0 ≤ z ∧ z < 1073741824) : ∀ {i : Nat}, i ≤ 30 → -(1073741824 + 536870912 * (i : Int)) ≤ (bS z i).2.2 ∧ (bS z i).2.2 ≤ 1073741824 + 536870912 * (i : Int)
  | 0, _ => by simp only [bS]; omega
  | i + 1, h => by
    have ih := bS_z hz (i := i) (by omega)
    have := tA_bd i (by omega)
    simp only [bS]
    push_cast
    split <;> omega
def cl01 (x : Int) : Int := min (max x 0) 4294967296
theorem cl01_bd (x : Int) : 0 ≤ cl01 x ∧ cl01 x ≤ 4294967296 := by unfold cl01; omega
def bC (a : Int) : Int := cl01 (bS (a % 1073741824) 30).1
def bN (a : Int) : Int := cl01 (bS (a % 1073741824) 30).2.1
/-- cosine and sine -/
def bothC (a : Int) : Int := if a / 1073741824 = 0 then bC a else if a / 1073741824 = 1 then -bN a else if a / 1073741824 = 2 then -bC a else bN a
def bothS (a : Int) : Int := if a / 1073741824 = 0 then bN a else if a / 1073741824 = 1 then bC a else if a / 1073741824 = 2 then -bN a else -bC a
theorem both_bd (a : Int) : (-4294967296 ≤ bothC a ∧ bothC a ≤ 4294967296) ∧ (-4294967296 ≤ bothS a ∧ bothS a ≤ 4294967296) := by
  have h1 := cl01_bd (bS (a % 1073741824) 30).1
  have h2 := cl01_bd (bS (a % 1073741824) 30).2.1
  unfold bothC bothS bC bN
  constructor <;> (repeat' split) <;> omega
/-- the angle, step by step -/
def aS (x y : Int) : Nat → Int × Int × Int
  | 0 => (x, y, 0)
  | i + 1 => (rotX i (decide ((aS x y i).2.1 < 0)) (aS x y i).1 (aS x y i).2.1, rotY i (decide ((aS x y i).2.1 < 0)) (aS x y i).1 (aS x y i).2.1, if (aS x y i).2.1 < 0 then (aS x y i).2.2 - tA i else (aS x y i).2.2 + tA i)
def sz (a : Int) : Int := if a < 0 then -a else a
/-- how often it is halved, and doubled -/
def big (x y : Int) : Int := max (sz x) (sz y)
def down : Nat → Int → Int → Int × Int
  | 0, x, y => (x, y)
  | n + 1, x, y => if 2305843009213693952 ≤ big x y then down n (x / 2) (y / 2) else (x, y)
def dbl : Nat → Int → Int → Int × Int
  | 0, x, y => (x, y)
  | n + 1, x, y => if big x y < 1152921504606846976 then dbl n (x * 2) (y * 2) else (x, y)
def scd (x y : Int) : Int × Int := dbl 64 (down 64 x y).1 (down 64 x y).2
def opp (a : Int) : Int := if a = -9223372036854775808 then 9223372036854775807 else -a
def angle (y x : Int) : Int := if x = 0 ∧ y = 0 then 0 else if x < 0 then ((aS (scd (opp x) (opp y)).1 (scd (opp x) (opp y)).2 30).2.2 + 2147483648) % 4294967296 else (aS (scd x y).1 (scd x y).2 30).2.2 % 4294967296
end Go.Xv
namespace Go.Xv
theorem bp {α : Type} {c : Bool} {a b x : α} (h : c = true) (h2 : a = x) : (bif c then a else b) = x := by rw [h]; exact h2
theorem bn {α : Type} {c : Bool} {a b x : α} (h : c = false) (h2 : b = x) : (bif c then a else b) = x := by rw [h]; exact h2
theorem dt {p : Prop} [Decidable p] (h : p) : decide p = true := decide_eq_true h
theorem df {p : Prop} [Decidable p] (h : ¬ p) : decide p = false := decide_eq_false h
theorem fdiv_pos (a : Int) {b : Int} (h : 0 ≤ b) : Int.fdiv a b = a / b := Int.fdiv_eq_ediv_of_nonneg a h
theorem some_int {k : IntKind} {a b : Int} (h : a = b) : (some (VV.v (.int k a)) : R) = some (.v (.int k b)) := by rw [h]
theorem some_wd {a b : Int} {z : Int} (h : a = hi z) (k : b = lo z) : (some (VV.v (.agg #[.int .i64 a, .int .u64 b])) : R) = some (wd z) := by rw [h, k]; rfl

theorem f_bare (F : Nat) {a : Int} (h : I64 a) : f_wa F a = some (.v (.int .u64 (if a < 0 then -a else a))) := by
  unfold f_wa fg_wa
  unfold I64 at h
  by_cases h0 : a < 0
  · refine bp (dt h0) (some_int ?_)
    rw [if_pos h0, wu64, wu64]; omega
  · refine bn (df h0) (some_int ?_)
    rw [if_neg h0, wu64]; omega

theorem f_product (F : Nat) {a b : Int} (ha : U64 a) (hb : U64 b) : f_g F a b = some (wd (a * b)) := by
  unfold f_g fg_g
  unfold U64 at ha hb
  have ea : a = a / 4294967296 * 4294967296 + a % 4294967296 := by omega
  have eb : b = b / 4294967296 * 4294967296 + b % 4294967296 := by omega
  have hp : 0 ≤ a / 4294967296 ∧ a / 4294967296 ≤ 4294967295 := by omega
  have hq : 0 ≤ a % 4294967296 ∧ a % 4294967296 ≤ 4294967295 := by omega
  have hr : 0 ≤ b / 4294967296 ∧ b / 4294967296 ≤ 4294967295 := by omega
  have hs : 0 ≤ b % 4294967296 ∧ b % 4294967296 ≤ 4294967295 := by omega
  have hab : a * b = (a / 4294967296) * (b / 4294967296) * 18446744073709551616 + ((a / 4294967296) * (b % 4294967296) + (a % 4294967296) * (b / 4294967296)) * 4294967296 + (a % 4294967296) * (b % 4294967296) := by
    generalize a / 4294967296 = p at *
    generalize a % 4294967296 = q at *
    generalize b / 4294967296 = r at *
    generalize b % 4294967296 = s at *
    subst ea eb
    simp only [Int.add_mul, Int.mul_add]
    have : p * 4294967296 * (r * 4294967296) = p * r * 18446744073709551616 := by
      rw [show (18446744073709551616 : Int) = 4294967296 * 4294967296 by decide]
      simp only [Int.mul_comm, Int.mul_assoc, Int.mul_left_comm]
    have : p * 4294967296 * s = p * s * 4294967296 := by simp only [Int.mul_comm, Int.mul_assoc, Int.mul_left_comm]
    have : q * (r * 4294967296) = q * r * 4294967296 := by simp only [Int.mul_assoc]
    omega
  have bd : ∀ x y : Int, (0 ≤ x ∧ x ≤ 4294967295) → (0 ≤ y ∧ y ≤ 4294967295) → 0 ≤ x * y ∧ x * y ≤ 18446744065119617025 := by
    intro x y hx hy
    have h1 := Int.mul_nonneg hx.1 hy.1
    have h2 : x * y ≤ 4294967295 * 4294967295 := Int.mul_le_mul hx.2 hy.2 hy.1 (by decide)
    exact ⟨h1, by simpa using h2⟩
  have b1 := bd _ _ hp hr
  have b2 := bd _ _ hp hs
  have b3 := bd _ _ hq hr
  have b4 := bd _ _ hq hs
  have m1 : ∀ x, U64 x → andI .u64 x 4294967295 = x % 4294967296 := fun x hx => mask32_u64 hx
  simp only [fdiv_pos _ (show (0 : Int) ≤ 4294967296 by decide)]
  rw [m1 a ha, m1 b hb]
  rw [hab]
  clear hab ea eb
  generalize a / 4294967296 * (b / 4294967296) = pr at *
  generalize a / 4294967296 * (b % 4294967296) = ps at *
  generalize a % 4294967296 * (b / 4294967296) = qr at *
  generalize a % 4294967296 * (b % 4294967296) = qs at *
  rw [wu64_in (x := qs) (by unfold U64; omega), wu64_in (x := ps) (by unfold U64; omega), wu64_in (x := qr) (by unfold U64; omega), wu64_in (x := pr) (by unfold U64; omega)]
  rw [wu64_in (x := ps + qs / 4294967296) (by unfold U64; omega)]
  rw [m1 _ (show U64 (ps + qs / 4294967296) by unfold U64; omega), m1 qs (by unfold U64; omega)]
  rw [wu64_in (x := (ps + qs / 4294967296) % 4294967296 + qr) (by unfold U64; omega)]
  have e : IntKind.wrap .u64 (((ps + qs / 4294967296) % 4294967296 + qr) * 4294967296) = (((ps + qs / 4294967296) % 4294967296 + qr) % 4294967296) * (2 ^ 32 : Nat) := by
    rw [wu64]; omega
  rw [e, or_add_u64 32 (by omega) (by omega) (by omega) (by omega)]
  refine some_wd ?_ ?_
  · simp only [wu64, wi64]; unfold hi; omega
  · unfold lo; omega

theorem f_Add (F : Nat) {a b c d : Int} (hb : U64 b) (hd : U64 d) : f_fb F a b c d = some (wd (val a b + val c d)) := by
  unfold f_fb fg_fb
  unfold U64 at hb hd
  simp only [wu64, wi64]
  by_cases h : (b + d) % 18446744073709551616 < b
  · refine bp (dt h) (some_wd ?_ ?_)
    · unfold hi val; omega
    · unfold lo val; omega
  · refine bn (df h) (some_wd ?_ ?_)
    · unfold hi val; omega
    · unfold lo val; omega

theorem f_Neg (F : Nat) {a b : Int} (ha : I64 a) (hb : U64 b) : f_ib F a b = some (wd (-val a b)) := by
  unfold f_ib fg_ib
  rw [not_i64 ha, not_u64 hb]
  unfold U64 at hb
  obtain ⟨h1, h2, h3⟩ := k_fb F _ _ _ _ (f_Add F (a := -1 - a) (b := 18446744073709551615 - b) (c := 0) (d := 1) (by unfold U64; omega) (by unfold U64; omega))
  refine bp h1 ?_
  rw [h2, h3]
  refine some_wd (hi_eqv ?_) (lo_eqv ?_)
  all_goals unfold Eqv val; omega

theorem f_Mul (F : Nat) {a b : Int} (ha : I64 a) (hb : I64 b) : f_hb F a b = some (wd (a * b)) := by
  unfold f_hb fg_hb
  obtain ⟨h1, h2⟩ := k_wa F a (f_bare F ha)
  obtain ⟨h3, h4⟩ := k_wa F b (f_bare F hb)
  unfold I64 at ha hb
  refine bp h1 (bp h3 ?_)
  simp only [h2, h4]
  obtain ⟨p1, p2, p3⟩ := k_g F _ _ (f_product F (a := if a < 0 then -a else a) (b := if b < 0 then -b else b) (by unfold U64; split <;> omega) (by unfold U64; split <;> omega))
  refine bp p1 ?_
  simp only [p2, p3]
  have neg : ∀ z : Int, (bif ok_ib F (hi z) (lo z) then (some (.v (.agg #[.int .i64 (o_ib_0 F (hi z) (lo z)), .int .u64 (o_ib_1 F (hi z) (lo z))])) : R) else none) = some (wd (-z)) := by
    intro z
    obtain ⟨n1, n2, n3⟩ := k_ib F _ _ (f_Neg F (hi_I z) (lo_U z))
    refine bp n1 ?_
    rw [n2, n3, val_hl]
    exact some_wd (hi_eqv (W_eqv z).neg) (lo_eqv (W_eqv z).neg)
  by_cases h0 : a < 0 <;> by_cases k0 : b < 0
  · simp only [h0, k0, decide_true, if_true, BEq.rfl, Bool.not_true, cond_false, Int.neg_mul_neg]; rfl
  · simp only [h0, k0, decide_true, decide_false, if_true, if_false]
    refine bp (by decide) ?_
    rw [neg, Int.neg_mul, Int.neg_neg]
  · simp only [h0, k0, decide_true, decide_false, if_true, if_false]
    refine bp (by decide) ?_
    rw [neg, Int.mul_neg, Int.neg_neg]
  · simp only [h0, k0, decide_false, if_false, BEq.rfl, Bool.not_true, cond_false]; rfl
end Go.Xv
namespace Go.Xv
theorem some_bool {a b : Bool} (h : a = b) : (some (VV.v (.bool a)) : R) = some (.v (.bool b)) := by rw [h]
theorem nn (k : Nat) : (!decide ((k : Int) < 0)) = true := by rw [df (by omega)]; rfl
theorem p2min {m : Nat} (h : m ≤ 64) : min (Int.toNat (m : Int)) 64 = m := by omega

theorem f_Of (F : Nat) {n : Int} (h : I64 n) : f_rb F n = some (wd n) := by
  unfold f_rb fg_rb
  unfold I64 at h
  refine some_wd ?_ ?_
  · rw [fdiv_pos _ (by decide)]; unfold hi; omega
  · rw [wu64]; rfl
theorem f_rOf (F : Nat) {n : Int} (h : I64 n) : f_bb F n = some (wd n) := by
  unfold f_bb fg_bb
  unfold I64 at h
  by_cases h0 : n < 0
  · refine bp (dt h0) (some_wd ?_ ?_)
    · unfold hi; omega
    · rw [wu64]; rfl
  · refine bn (df h0) (some_wd ?_ ?_)
    · unfold hi; omega
    · rw [wu64]; rfl

/-- how far a number is shifted to the right at most -/
def cl (n : Int) : Nat := (if 127 < (if 0 > n then 0 else n) then 127 else (if 0 > n then 0 else n)).toNat
theorem f_Right (F : Nat) {a b n : Int} (ha : I64 a) (hb : U64 b) : f_ba F a b n = some (wd (val a b / 2 ^ cl n)) := by
  unfold f_ba fg_ba cl
  dsimp only
  generalize hv : (if 127 < (if 0 > n then 0 else n) then (127 : Int) else (if 0 > n then 0 else n)) = v
  have hv2 : 0 ≤ v ∧ v ≤ 127 := by
    subst hv
    split <;> split <;> omega
  obtain ⟨m, rfl⟩ := Int.eq_ofNat_of_zero_le hv2.1
  simp only [Int.toNat_natCast]
  by_cases h : 64 ≤ m
  · refine bp (dt (by omega)) ?_
    rw [wi64_in (x := (m : Int) - 64) (by unfold I64; omega), show (m : Int) - 64 = ((m - 64 : Nat) : Int) by omega]
    refine bp (nn _) ?_
    rw [p2min (by omega), fdiv_pos _ (Int.le_of_lt (p2pos _))]
    obtain ⟨h1, h2, h3⟩ := k_rb F _ (f_Of F (div_I64 ha (p2pos (m - 64))))
    refine bp h1 ?_
    rw [h2, h3, ← shr_great hb h]; rfl
  · refine bn (df (by omega)) ?_
    refine bp (nn _) (bp (nn _) ?_)
    rw [wi64_in (x := 64 - (m : Int)) (by unfold I64; omega), show 64 - (m : Int) = ((64 - m : Nat) : Int) by omega]
    refine bp (nn _) ?_
    rw [fdiv_pos _ (Int.le_of_lt (p2pos _)), fdiv_pos _ (Int.le_of_lt (p2pos _)), show min m 64 = m by omega, p2min (by omega), wu64, wu64]
    obtain ⟨h1, h2⟩ := shr_small ha hb (show m < 64 by omega)
    exact some_wd h1 h2

theorem f_Left (F : Nat) {a b n : Int} (hb : U64 b) : f_sa F a b n = some (wd (val a b * 2 ^ n.toNat)) := by
  unfold f_sa fg_sa
  have hv : (if 0 > n then 0 else n) = ((n.toNat : Nat) : Int) := by split <;> omega
  rw [hv]
  generalize n.toNat = m
  simp only [Int.toNat_natCast]
  by_cases h : 128 ≤ m
  · refine bp (dt (by omega)) ?_
    obtain ⟨h1, h2⟩ := shl_all (h := a) (l := b) h
    exact some_wd h1 h2
  · refine bn (df (by omega)) ?_
    by_cases h : 64 ≤ m
    · refine bp (dt (by omega)) ?_
      rw [wi64_in (x := (m : Int) - 64) (by unfold I64; omega), show (m : Int) - 64 = ((m - 64 : Nat) : Int) by omega]
      refine bp (nn _) ?_
      rw [p2min (by omega), wu64]
      obtain ⟨h1, h2⟩ := shl_great (h := a) (l := b) h
      exact some_wd h1 h2
    · refine bn (df (by omega)) ?_
      refine bp (nn _) ?_
      rw [wi64_in (x := 64 - (m : Int)) (by unfold I64; omega), show 64 - (m : Int) = ((64 - m : Nat) : Int) by omega]
      refine bp (nn _) (bp (nn _) ?_)
      rw [fdiv_pos _ (Int.le_of_lt (p2pos _)), show min m 64 = m by omega, p2min (by omega), wu64, wu64, wu64]
      obtain ⟨h1, h2⟩ := shl_small (h := a) hb (show m < 64 by omega)
      exact some_wd h1 h2

/-- over a power of two, to the nearest one -/
def near (z : Int) (m : Nat) : Int := if m = 0 then z else z / 2 ^ m + z / 2 ^ (m - 1) % 2
theorem cl_pred {n : Int} (h : 0 < n) (h2 : n ≤ 127) : cl (n - 1) = cl n - 1 := by
  unfold cl
  rw [if_neg (show ¬ 0 > n by omega), if_neg (show ¬ 0 > n - 1 by omega), if_neg (by omega), if_neg (by omega)]
  omega
theorem lo_mod2 (z : Int) : lo z % 2 = z % 2 := by unfold lo; omega
theorem f_Near (F : Nat) {a b n : Int} (ha : I64 a) (hb : U64 b) : f_ua F a b n = some (wd (near (val a b) (cl n))) := by
  unfold f_ua fg_ua
  by_cases h : n ≤ 0
  · rw [if_neg (show ¬ 127 < n by omega)]
    refine bp (dt h) ?_
    have : cl n = 0 := by
      unfold cl
      rw [if_neg]
      · split <;> omega
      · split <;> omega
    rw [this]
    exact some_wd (hi_val ha hb).symm (lo_val hb).symm
  · generalize hv : (if 127 < n then 127 else n) = v
    have hc : cl n = cl v := by
      subst hv
      unfold cl
      by_cases hn : 127 < n
      · rw [if_pos hn, if_neg (show ¬ 0 > n by omega), if_pos hn]; decide
      · rw [if_neg hn]
    have hv1 : 0 < v ∧ v ≤ 127 := by subst hv; split <;> omega
    refine bn (df (by omega)) ?_
    obtain ⟨h1, h2, h3⟩ := k_ba F _ _ _ (f_Right F (n := v) ha hb)
    refine bp h1 ?_
    rw [wi64_in (x := v - 1) (by unfold I64; omega)]
    obtain ⟨g1, g2, g3⟩ := k_ba F _ _ _ (f_Right F (n := v - 1) ha hb)
    refine bp g1 ?_
    rw [h2, h3, g3, mask1_u64 (lo_U _), lo_mod2, cl_pred hv1.1 hv1.2, ← hc]
    have hm : cl n ≠ 0 := by
      rw [hc]
      unfold cl
      rw [if_neg (show ¬ 0 > v by omega), if_neg (by omega)]
      omega
    obtain ⟨k1, k2, k3⟩ := k_fb F _ _ _ _ (f_Add F (a := hi (val a b / 2 ^ cl n)) (c := 0) (d := val a b / 2 ^ (cl n - 1) % 2) (lo_U (val a b / 2 ^ cl n)) (by unfold U64; omega))
    refine bp k1 ?_
    rw [k2, k3, val_hl]
    unfold near
    rw [if_neg hm]
    refine some_wd (hi_eqv ?_) (lo_eqv ?_)
    all_goals exact (W_eqv _).add (show Eqv (val 0 _) _ by unfold val; rw [Int.zero_mul, Int.zero_add]; exact rfl)

theorem f_Sign (F : Nat) {a b : Int} (hb : U64 b) : f_va F a b = some (.v (.int .i64 (if val a b < 0 then -1 else if val a b = 0 then 0 else 1))) := by
  unfold f_va fg_va val
  unfold U64 at hb
  by_cases h : a < 0
  · refine bp (dt h) (some_int ?_)
    rw [if_pos (by omega)]
  · refine bn (df h) ?_
    by_cases h2 : a = 0 ∧ b = 0
    · refine bp (by simp [h2]) (some_int ?_)
      rw [if_neg (by omega), if_pos (by omega)]
    · refine bn (by simp; omega) (some_int ?_)
      rw [if_neg (by omega), if_neg (by omega)]
theorem f_Less (F : Nat) {a b c d : Int} (hb : U64 b) (hd : U64 d) : f_ta F a b c d = some (.v (.bool (decide (val a b < val c d)))) := by
  unfold f_ta fg_ta val
  unfold U64 at hb hd
  by_cases h : a = c
  · refine bn (by simp [h]) (some_bool ?_)
    rw [decide_eq_decide]; omega
  · refine bp (by simp [h]) (some_bool ?_)
    rw [decide_eq_decide]; omega
end Go.Xv
namespace Go.Xv
theorem lo_step (z : Int) (i : Nat) : IntKind.wrap .u64 (Int.tdiv (lo z / 2 ^ i) 2) = lo z / 2 ^ (i + 1) := by
  have h := lo_U z
  unfold U64 at h
  have h1 := Int.ediv_nonneg h.1 (Int.le_of_lt (p2pos i))
  have h2 := Int.ediv_le_self (2 ^ i) h.1
  rw [Int.tdiv_eq_ediv_of_nonneg h1, ediv2, wu64_in]
  have h3 := Int.ediv_nonneg h.1 (Int.le_of_lt (p2pos (i + 1)))
  have h4 := Int.ediv_le_self (2 ^ (i + 1)) h.1
  unfold U64; omega
theorem lo_bit (z : Int) {i : Nat} (h : i < 64) : IntKind.wrap .i64 (Int.tmod (lo z / 2 ^ i) 2) = dg z i := by
  have h0 := lo_U z
  unfold U64 at h0
  have h1 := Int.ediv_nonneg h0.1 (Int.le_of_lt (p2pos i))
  rw [Int.tmod_eq_emod_of_nonneg h1, dg_lo z h, wi64_in]
  have := dg_01 z i
  unfold I64; omega
theorem cap_ok (z : Int) (i : Nat) (h : i < 1000) : (((decide ((0 + (i * 1)) ≤ (ds z i).length)) && true) && (decide ((i + 1) * 9 ≤ bigger))) = true := by
  rw [ds_len, dt (by omega), dt (show (i + 1) * 9 ≤ bigger by unfold bigger; omega)]; rfl
theorem lp_Digits_0 (F : Nat) (ex) (z x0 x1 x5 x6 : Int) : ∀ (k n i : Nat) (x3 x4 : Int) (x7 : List VV), i + k = 64 → k < n → x3 = lo z / 2 ^ i → x4 = i → x7 = ds z i →
    L_e_0 F ex n x0 x1 i x3 x4 x5 x6 x7 = ex x0 x1 64 (lo z / 2 ^ 64) 64 x5 x6 (ds z 64)
  | _, 0, _, _, _, _, _, h, _, _, _ => absurd h (by omega)
  | 0, n + 1, i, _, _, _, h, _, rfl, rfl, rfl => by
    obtain rfl : i = 64 := by omega
    rw [L_e_0]
    unfold B_e_0 Bg_e_0
    exact bn (df (by omega)) rfl
  | k + 1, n + 1, i, _, _, _, h, hn, rfl, rfl, rfl => by
    rw [L_e_0]
    unfold B_e_0 Bg_e_0
    refine bp (dt (by omega)) (bp (cap_ok z _ (by omega)) ?_)
    refine lp_Digits_0 F ex z x0 x1 x5 x6 k n (i + 1) _ _ _ (by omega) (by omega) (lo_step z i) ?_ ?_
    · rw [wi64_in (by unfold I64; omega)]; push_cast; rfl
    · rw [ds_take, lo_bit z (by omega), ← ds_succ]
def up (z : Int) : Int := z / 18446744073709551616 % 18446744073709551616
theorem lp_Digits_1 (F : Nat) (ex) (z x0 x1 x3 x4 x7 x8 : Int) : ∀ (k n i j : Nat) (x5 x6 : Int) (x9 : List VV), i + k = 64 → j = 64 + i → k < n → x5 = up z / 2 ^ i → x6 = i → x9 = ds z j →
    L_e_1 F ex n x0 x1 j x3 x4 x5 x6 x7 x8 x9 = ex x0 x1 128 x3 x4 (up z / 2 ^ 64) 64 x7 x8 (ds z 128)
  | _, 0, _, _, _, _, _, _, _, h, _, _, _ => absurd h (by omega)
  | 0, n + 1, i, j, _, _, _, h, hj, _, rfl, rfl, rfl => by
    obtain rfl : i = 64 := by omega
    obtain rfl : j = 128 := by omega
    rw [L_e_1]
    unfold B_e_1 Bg_e_1
    exact bn (df (by omega)) rfl
  | k + 1, n + 1, i, j, _, _, _, h, hj, hn, rfl, rfl, rfl => by
    rw [L_e_1]
    unfold B_e_1 Bg_e_1
    refine bp (dt (by omega)) (bp (cap_ok z _ (by omega)) ?_)
    have e : up z = lo (z / 18446744073709551616) := rfl
    refine lp_Digits_1 F ex z x0 x1 x3 x4 x7 x8 k n (i + 1) (j + 1) _ _ _ (by omega) (by omega) (by omega) ?_ ?_ ?_
    · rw [e, lo_step]
    · rw [wi64_in (by unfold I64; omega)]; push_cast; rfl
    · rw [ds_take, e, lo_bit _ (by omega), ← dg_lo _ (by omega), ← e]
      unfold up
      rw [dg_hi z (by omega), ← hj, ← ds_succ]
theorem f_Digits (F : Nat) (hF : 200 ≤ F) {a b : Int} (hb : U64 b) : f_e F a b = some (.fs (ds (val a b) 128) 0 128 1) := by
  unfold f_e fg_e
  have hl := lo_val (h := a) hb
  rw [lp_Digits_0 F _ (val a b) a b a b 64 F 0 b 0 [] (by omega) (by omega) (by rw [hl]; simp) rfl rfl]
  rw [lp_Digits_1 F _ (val a b) a b _ _ _ _ 64 F 0 64 _ 0 _ (by omega) (by omega) (by omega) ?_ rfl rfl]
  rw [wu64]
  unfold up val
  unfold U64 at hb
  simp only [Int.pow_zero]
  omega

theorem num_iv (l : List VV) (i : Nat) (b : Int) (h : l[i]? = some (.v (.int .i64 b))) : isI .i64 l[i]? = true ∧ iv l[i]? = b := by
  rw [h]
  exact ⟨rfl, rfl⟩
theorem zmul (i : Nat) : (0 + ((Int.toNat (i : Int)) * 1)) = i := by simp
theorem lp_Number_0 (F : Nat) (ex) (z : Int) (l : List VV) (x1 : Nat) (x3 x6 x7 : Int) (h1 : 64 ≤ x1) (hl : ∀ i : Nat, i < 64 → l[i]? = some (.v (.int .i64 (dg z i)))) : ∀ (k n i : Nat) (x2 x4 x5 : Int), i + k = 64 → k < n → x2 = num z i → x4 = (2 ^ i) % 18446744073709551616 → x5 = i →
    L_f_0 F ex n l x1 x2 x3 x4 x5 x6 x7 = ex l x1 (num z 64) x3 0 64 x6 x7
  | _, 0, _, _, _, _, _, h, _, _, _ => absurd h (by omega)
  | 0, n + 1, i, _, _, _, h, _, rfl, rfl, rfl => by
    obtain rfl : i = 64 := by omega
    rw [L_f_0]
    unfold B_f_0 Bg_f_0
    exact bn (df (by omega)) rfl
  | k + 1, n + 1, i, _, _, _, h, hn, rfl, rfl, rfl => by
    have hi : i < 64 := by omega
    obtain ⟨g1, g2⟩ := num_iv l i _ (hl i hi)
    have hd := dg_01 z i
    have hp := p2pos i
    have hp2 := p2_lt64 hi
    have hb := num_bd z i
    rw [L_f_0]
    unfold B_f_0 Bg_f_0
    refine bp (dt (by omega)) (bp (dt (by omega)) (bp (by simp; omega) (bp (by rw [zmul, g1]; rfl) ?_)))
    rw [zmul, g2, wu64_in (x := dg z i) (by unfold U64; omega)]
    refine lp_Number_0 F ex z l x1 x3 x6 x7 h1 hl k n (i + 1) _ _ _ (by omega) (by omega) ?_ ?_ ?_
    · rw [num_succ]
      generalize (2 : Int) ^ i = P at *
      rw [Int.emod_eq_of_lt (a := P) (by omega) (by omega)]
      have : 0 ≤ dg z i * P ∧ dg z i * P ≤ P := by
        rcases (show dg z i = 0 ∨ dg z i = 1 by omega) with h | h <;> rw [h] <;> omega
      rw [wu64_in (x := dg z i * P) (by unfold U64; omega), wu64_in (by unfold U64; omega)]
    · rw [wu64, Int.pow_succ]
      omega
    · rw [wi64_in (by unfold I64; omega)]; push_cast; rfl
theorem lp_Number_1 (F : Nat) (ex) (z : Int) (l : List VV) (x1 : Nat) (x2 x5 x7 x8 : Int) (h1 : 128 ≤ x1) (hl : ∀ i : Nat, i < 64 → l[64 + i]? = some (.v (.int .i64 (dg z i)))) : ∀ (k n i : Nat) (x3 x4 x6 : Int), i + k = 64 → k < n → x3 = num z i → x4 = (2 ^ i) % 18446744073709551616 → x6 = 64 + i →
    L_f_1 F ex n l x1 x2 x3 x4 x5 x6 x7 x8 = ex l x1 x2 (num z 64) 0 x5 128 x7 x8
  | _, 0, _, _, _, _, _, h, _, _, _ => absurd h (by omega)
  | 0, n + 1, i, _, _, _, h, _, rfl, rfl, rfl => by
    obtain rfl : i = 64 := by omega
    rw [L_f_1]
    unfold B_f_1 Bg_f_1
    exact bn (df (by omega)) rfl
  | k + 1, n + 1, i, _, _, _, h, hn, rfl, rfl, rfl => by
    have hi : i < 64 := by omega
    obtain ⟨g1, g2⟩ := num_iv l (64 + i) _ (hl i hi)
    have hd := dg_01 z i
    have hp := p2pos i
    have hp2 := p2_lt64 hi
    have hb := num_bd z i
    have zm : (0 + ((Int.toNat (64 + (i : Int))) * 1)) = 64 + i := by omega
    rw [L_f_1]
    unfold B_f_1 Bg_f_1
    refine bp (dt (by omega)) (bp (dt (by omega)) (bp (by simp; omega) (bp (by rw [zm, g1]; rfl) ?_)))
    rw [zm, g2, wu64_in (x := dg z i) (by unfold U64; omega)]
    refine lp_Number_1 F ex z l x1 x2 x5 x7 x8 h1 hl k n (i + 1) _ _ _ (by omega) (by omega) ?_ ?_ ?_
    · rw [num_succ]
      generalize (2 : Int) ^ i = P at *
      rw [Int.emod_eq_of_lt (a := P) (by omega) (by omega)]
      have : 0 ≤ dg z i * P ∧ dg z i * P ≤ P := by
        rcases (show dg z i = 0 ∨ dg z i = 1 by omega) with h | h <;> rw [h] <;> omega
      rw [wu64_in (x := dg z i * P) (by unfold U64; omega), wu64_in (by unfold U64; omega)]
    · rw [wu64, Int.pow_succ]
      omega
    · rw [wi64_in (by unfold I64; omega)]; push_cast; omega
theorem dg_up (z : Int) (i : Nat) : dg z (64 + i) = dg (z / 18446744073709551616) i := by
  unfold dg
  rw [show (18446744073709551616 : Int) = 2 ^ 64 by decide, Int.ediv_ediv_of_nonneg (by decide), p2add]
theorem f_Number (F : Nat) (hF : 200 ≤ F) (z : Int) : f_f F (ds z 128) 128 = some (wd z) := by
  unfold f_f fg_f
  rw [lp_Number_0 F _ z (ds z 128) 128 0 0 0 (by omega) (fun i hi => ds_get z (by omega)) 64 F 0 0 1 0 (by omega) (by omega) (num_zero z).symm (by decide) rfl]
  rw [lp_Number_1 F _ (z / 18446744073709551616) (ds z 128) 128 _ _ _ _ (by omega) (fun i hi => by rw [ds_get z (by omega), dg_up]) 64 F 0 0 1 64 (by omega) (by omega) (num_zero _).symm (by decide) rfl]
  refine some_wd ?_ ?_
  · rw [wi64]; unfold num hi
    rw [show (2 : Int) ^ 64 = 18446744073709551616 by decide]
    omega
  · unfold num lo
    rw [show (2 : Int) ^ 64 = 18446744073709551616 by decide]
end Go.Xv
namespace Go.Xv
theorem wi64_s (i : Nat) (h : i < 1000) : IntKind.wrap .i64 ((i : Int) + 1) = ((i + 1 : Nat) : Int) := by
  rw [wi64_in (by unfold I64; omega)]; push_cast; rfl
theorem ix_ok (i n : Nat) (h : i < n) : ((decide (0 ≤ (i : Int))) && (decide ((i : Int) < ((n : Nat) : Int)))) = true := by
  rw [dt (by omega), dt (by omega)]; rfl
theorem isI_ds (z : Int) {i n : Nat} (h : i < n) : ((isI .i64 (ds z n)[0 + ((Int.toNat (i : Int)) * 1)]?) && true) = true := by
  rw [zmul, ds_get z h]; rfl
theorem iv_ds (z : Int) {i n : Nat} (h : i < n) : iv (ds z n)[0 + ((Int.toNat (i : Int)) * 1)]? = dg z i := by
  rw [zmul, ds_get z h]; rfl
theorem lp_Add_0 (F : Nat) (ex) (x y a b c d x9 x10 x11 x12 x13 x14 : Int) : ∀ (k n i : Nat) (x7 x8 : Int) (l : List VV), i + k = 128 → k < n → x7 = cy x y i → x8 = i → l = ds (x + y) i →
    L_ga_0 F ex n a b c d 128 128 i x7 x8 x9 x10 x11 x12 x13 x14 (ds x 128) (ds y 128) l = ex a b c d 128 128 128 (cy x y 128) 128 x9 x10 x11 x12 x13 x14 (ds x 128) (ds y 128) (ds (x + y) 128)
  | _, 0, _, _, _, _, _, h, _, _, _ => absurd h (by omega)
  | 0, n + 1, i, _, _, _, h, _, rfl, rfl, rfl => by
    obtain rfl : i = 128 := by omega
    rw [L_ga_0]
    unfold B_ga_0 Bg_ga_0
    exact bn (df (by omega)) rfl
  | k + 1, n + 1, i, _, _, _, h, hn, rfl, rfl, rfl => by
    have hi : i < 128 := by omega
    rw [L_ga_0]
    unfold B_ga_0 Bg_ga_0
    have h1 := dg_01 x i
    have h2 := dg_01 y i
    have h3 := cy_01 x y i
    obtain ⟨e1, e2⟩ := cy_succ x y i
    refine bp (dt (by omega)) (bp (ix_ok i 128 hi) (bp (isI_ds x hi) (bp (ix_ok i 128 hi) (bp (isI_ds y hi) ?_))))
    dsimp only
    rw [iv_ds x hi, iv_ds y hi, wi64_in (x := dg x i + dg y i) (by unfold I64; omega), wi64_in (x := dg x i + dg y i + cy x y i) (by unfold I64; omega)]
    refine bp (cap_ok _ _ (by omega)) ?_
    refine lp_Add_0 F ex x y a b c d x9 x10 x11 x12 x13 x14 k n (i + 1) _ _ _ (by omega) (by omega) ?_ (wi64_s i (by omega)) ?_
    · rw [Int.tdiv_eq_ediv_of_nonneg (by omega), ← e1, wi64_in]
      have := cy_01 x y (i + 1)
      unfold I64; omega
    · rw [ds_take, Int.tmod_eq_emod_of_nonneg (by omega), ← e2, ← ds_succ]
theorem f_rAdd (F : Nat) (hF : 200 ≤ F) {a b c d : Int} (hb : U64 b) (hd : U64 d) : f_ga F a b c d = some (wd (val a b + val c d)) := by
  unfold f_ga fg_ga
  obtain ⟨h1, h2, h3⟩ := k_e F _ _ (f_Digits F hF (a := a) hb)
  obtain ⟨g1, g2, g3⟩ := k_e F _ _ (f_Digits F hF (a := c) hd)
  refine bp h1 (bp g1 ?_)
  rw [h2, h3, g2, g3]
  rw [lp_Add_0 F _ (val a b) (val c d) a b c d a b c d 0 0 128 F 0 0 0 [] (by omega) (by omega) (cy_zero _ _).symm rfl rfl]
  obtain ⟨n1, n2, n3⟩ := k_f F _ _ (f_Number F hF (val a b + val c d))
  refine bp n1 ?_
  rw [n2, n3]; rfl
theorem lp_Neg_0 (F : Nat) (ex) (z x0 x1 x4 x5 x6 x7 : Int) : ∀ (k n i : Nat) (x3 : Int) (l : List VV), i + k = 128 → k < n → x3 = i → l = ds (-1 - z) i ++ (ds z 128).drop i →
    L_ja_0 F ex n x0 x1 128 x3 x4 x5 x6 x7 l = ex x0 x1 128 128 x4 x5 x6 x7 (ds (-1 - z) 128)
  | _, 0, _, _, _, _, h, _, _ => absurd h (by omega)
  | 0, n + 1, i, _, _, h, _, rfl, rfl => by
    obtain rfl : i = 128 := by omega
    rw [L_ja_0]
    unfold B_ja_0 Bg_ja_0
    refine bn (df (by omega)) ?_
    rw [List.drop_eq_nil_of_le (by rw [ds_len]; omega), List.append_nil]; rfl
  | k + 1, n + 1, i, _, _, h, hn, rfl, rfl => by
    have hi : i < 128 := by omega
    have hg : (ds (-1 - z) i ++ (ds z 128).drop i)[0 + ((Int.toNat (i : Int)) * 1)]? = some (.v (.int .i64 (dg z i))) := by
      rw [zmul, List.getElem?_append_right (by rw [ds_len]; omega), ds_len, Nat.sub_self, List.getElem?_drop, Nat.add_zero, ds_get z hi]
    rw [L_ja_0]
    unfold B_ja_0 Bg_ja_0
    have h1 := dg_01 z i
    refine bp (dt (by omega)) (bp (ix_ok i 128 hi) (bp (by rw [hg]; rfl) (bp (ix_ok i 128 hi) (bp ?_ ?_))))
    · rw [zmul, dt]
      rw [List.length_append, List.length_drop, ds_len, ds_len]; omega
    · rw [hg]
      refine lp_Neg_0 F ex z x0 x1 x4 x5 x6 x7 k n (i + 1) _ _ (by omega) (by omega) (wi64_s i (by omega)) ?_
      rw [zmul, show iv (some (VV.v (.int .i64 (dg z i)))) = dg z i from rfl, wi64_in (by unfold I64; omega), ← dg_not, ds_succ (-1 - z) i]
      rw [List.take_append_of_le_length (by rw [ds_len]; omega), List.take_of_length_le (by rw [ds_len]; omega), List.drop_append, ds_len, List.drop_drop, List.drop_eq_nil_of_le (by rw [ds_len]; omega)]
      rw [show i + (i + 1 - i) = i + 1 by omega]
      simp
theorem f_rNeg (F : Nat) (hF : 200 ≤ F) {a b : Int} (hb : U64 b) : f_ja F a b = some (wd (-val a b)) := by
  unfold f_ja fg_ja
  obtain ⟨h1, h2, h3⟩ := k_e F _ _ (f_Digits F hF (a := a) hb)
  refine bp h1 ?_
  rw [h2, h3]
  rw [lp_Neg_0 F _ (val a b) a b a b 0 0 128 F 0 0 _ (by omega) (by omega) rfl (by simp [ds_zero])]
  obtain ⟨n1, n2, n3⟩ := k_f F _ _ (f_Number F hF (-1 - val a b))
  refine bp n1 ?_
  dsimp only
  obtain ⟨o1, o2, o3⟩ := k_bb F _ (f_rOf F (n := 1) (by unfold I64; omega))
  refine bp o1 ?_
  rw [n2, n3, o2, o3]
  obtain ⟨p1, p2, p3⟩ := k_ga F _ _ _ _ (f_rAdd F hF (a := hi (-1 - val a b)) (c := hi 1) (lo_U (-1 - val a b)) (lo_U 1))
  refine bp p1 ?_
  rw [p2, p3]
  have e : Eqv (val (hi (-1 - val a b)) (lo (-1 - val a b)) + val (hi 1) (lo 1)) (-val a b) := by
    rw [val_hl, val_hl]
    have := (W_eqv (-1 - val a b)).add (W_eqv 1)
    rw [show -1 - val a b + 1 = -val a b by omega] at this
    exact this
  exact some_wd (hi_eqv e) (lo_eqv e)
end Go.Xv
namespace Go.Xv
theorem a_Add (F : Nat) (x y : Int) : ok_fb F (hi x) (lo x) (hi y) (lo y) = true ∧ o_fb_0 F (hi x) (lo x) (hi y) (lo y) = hi (x + y) ∧ o_fb_1 F (hi x) (lo x) (hi y) (lo y) = lo (x + y) := by
  obtain ⟨h1, h2, h3⟩ := k_fb F _ _ _ _ (f_Add F (a := hi x) (c := hi y) (lo_U x) (lo_U y))
  rw [h2, h3, val_hl, val_hl]
  have e := (W_eqv x).add (W_eqv y)
  exact ⟨h1, hi_eqv e, lo_eqv e⟩
theorem a_rAdd (F : Nat) (hF : 200 ≤ F) (x y : Int) : ok_ga F (hi x) (lo x) (hi y) (lo y) = true ∧ o_ga_0 F (hi x) (lo x) (hi y) (lo y) = hi (x + y) ∧ o_ga_1 F (hi x) (lo x) (hi y) (lo y) = lo (x + y) := by
  obtain ⟨h1, h2, h3⟩ := k_ga F _ _ _ _ (f_rAdd F hF (a := hi x) (c := hi y) (lo_U x) (lo_U y))
  rw [h2, h3, val_hl, val_hl]
  have e := (W_eqv x).add (W_eqv y)
  exact ⟨h1, hi_eqv e, lo_eqv e⟩
theorem a_Neg (F : Nat) (x : Int) : ok_ib F (hi x) (lo x) = true ∧ o_ib_0 F (hi x) (lo x) = hi (-x) ∧ o_ib_1 F (hi x) (lo x) = lo (-x) := by
  obtain ⟨h1, h2, h3⟩ := k_ib F _ _ (f_Neg F (hi_I x) (lo_U x))
  rw [h2, h3, val_hl]
  exact ⟨h1, hi_eqv (W_eqv x).neg, lo_eqv (W_eqv x).neg⟩
theorem a_rNeg (F : Nat) (hF : 200 ≤ F) (x : Int) : ok_ja F (hi x) (lo x) = true ∧ o_ja_0 F (hi x) (lo x) = hi (-x) ∧ o_ja_1 F (hi x) (lo x) = lo (-x) := by
  obtain ⟨h1, h2, h3⟩ := k_ja F _ _ (f_rNeg F hF (a := hi x) (lo_U x))
  rw [h2, h3, val_hl]
  exact ⟨h1, hi_eqv (W_eqv x).neg, lo_eqv (W_eqv x).neg⟩
theorem a_Of (F : Nat) {n : Int} (h : I64 n) : ok_rb F n = true ∧ o_rb_0 F n = hi n ∧ o_rb_1 F n = lo n := k_rb F _ (f_Of F h)
theorem a_rOf (F : Nat) {n : Int} (h : I64 n) : ok_bb F n = true ∧ o_bb_0 F n = hi n ∧ o_bb_1 F n = lo n := k_bb F _ (f_rOf F h)
theorem a_Mul (F : Nat) {a b : Int} (ha : I64 a) (hb : I64 b) : ok_hb F a b = true ∧ o_hb_0 F a b = hi (a * b) ∧ o_hb_1 F a b = lo (a * b) := k_hb F _ _ (f_Mul F ha hb)
theorem a_Near (F : Nat) {x : Int} (n : Int) (h : W128 x) : ok_ua F (hi x) (lo x) n = true ∧ o_ua_0 F (hi x) (lo x) n = hi (near x (cl n)) ∧ o_ua_1 F (hi x) (lo x) n = lo (near x (cl n)) := by
  have := k_ua F _ _ n (f_Near F (n := n) (hi_I x) (lo_U x))
  rw [val_hl, W_in h] at this
  exact this
theorem a_Left (F : Nat) (x n : Int) : ok_sa F (hi x) (lo x) n = true ∧ o_sa_0 F (hi x) (lo x) n = hi (x * 2 ^ n.toNat) ∧ o_sa_1 F (hi x) (lo x) n = lo (x * 2 ^ n.toNat) := by
  obtain ⟨h1, h2, h3⟩ := k_sa F _ _ n (f_Left F (a := hi x) (n := n) (lo_U x))
  rw [h2, h3, val_hl]
  exact ⟨h1, hi_eqv ((W_eqv x).mul _), lo_eqv ((W_eqv x).mul _)⟩

theorem lp_Mul_0 (F : Nat) (hF : 200 ≤ F) (ex) (a b x0 x1 x4 x5 : Int) : ∀ (k n i : Nat) (x3 x6 x7 x8 x9 : Int), i + k = 127 → k < n → x3 = i → x6 = hi (a * num b i) → x7 = lo (a * num b i) → x8 = hi (a * 2 ^ i) → x9 = lo (a * 2 ^ i) →
    L_ia_0 F ex n x0 x1 128 x3 x4 x5 x6 x7 x8 x9 (ds b 128) = ex x0 x1 128 127 x4 x5 (hi (a * num b 127)) (lo (a * num b 127)) (hi (a * 2 ^ 127)) (lo (a * 2 ^ 127)) (ds b 128)
  | _, 0, _, _, _, _, _, _, _, h, _, _, _, _, _ => absurd h (by omega)
  | 0, n + 1, i, _, _, _, _, _, h, _, rfl, rfl, rfl, rfl, rfl => by
    obtain rfl : i = 127 := by omega
    rw [L_ia_0]
    unfold B_ia_0 Bg_ia_0
    exact bn (df (by omega)) rfl
  | k + 1, n + 1, i, _, _, _, _, _, h, hn, rfl, rfl, rfl, rfl, rfl => by
    have hi' : i < 128 := by omega
    rw [L_ia_0]
    unfold B_ia_0 Bg_ia_0
    refine bp (dt (by omega)) (bp (ix_ok i 128 hi') (bp (isI_ds b hi') ?_))
    rw [iv_ds b hi']
    obtain ⟨d1, d2, d3⟩ := a_rAdd F hF (a * 2 ^ i) (a * 2 ^ i)
    have e2 : a * 2 ^ i + a * 2 ^ i = a * 2 ^ (i + 1) := by rw [Int.pow_succ, ← Int.mul_assoc]; omega
    rw [e2] at d2 d3
    rcases (show dg b i = 0 ∨ dg b i = 1 by have := dg_01 b i; omega) with hd | hd
    · refine bn (by rw [hd]; rfl) (bp d1 ?_)
      have e : num b (i + 1) = num b i := by rw [num_succ, hd]; omega
      exact lp_Mul_0 F hF ex a b x0 x1 x4 x5 k n (i + 1) _ _ _ _ _ (by omega) (by omega) (wi64_s i (by omega)) (by rw [e]) (by rw [e]) d2 d3
    · obtain ⟨c1, c2, c3⟩ := a_rAdd F hF (a * num b i) (a * 2 ^ i)
      have e : a * num b i + a * 2 ^ i = a * num b (i + 1) := by rw [num_succ, hd, Int.mul_add, Int.one_mul]
      rw [e] at c2 c3
      refine bp (by rw [hd]; rfl) (bp c1 (bp d1 ?_))
      exact lp_Mul_0 F hF ex a b x0 x1 x4 x5 k n (i + 1) _ _ _ _ _ (by omega) (by omega) (wi64_s i (by omega)) c2 c3 d2 d3
theorem num_127 {b : Int} (h : W128 b) : b = num b 127 - dg b 127 * 2 ^ 127 := by
  unfold num dg
  unfold W128 at h
  rw [show (2 : Int) ^ 127 = 170141183460469231731687303715884105728 by decide]
  omega
theorem I64_W {b : Int} (h : I64 b) : W128 b := by unfold I64 at h; unfold W128; omega
theorem f_rMul (F : Nat) (hF : 200 ≤ F) {a b : Int} (ha : I64 a) (hb : I64 b) : f_ia F a b = some (wd (a * b)) := by
  unfold f_ia fg_ia
  obtain ⟨h1, h2, h3⟩ := a_rOf F ha
  obtain ⟨g1, g2, g3⟩ := a_rOf F hb
  obtain ⟨d1, d2, d3⟩ := k_e F _ _ (f_Digits F hF (a := hi b) (lo_U b))
  rw [val_hl, W_in (I64_W hb)] at d2
  refine bp h1 (bp g1 ?_)
  rw [g2, g3, h2, h3]
  refine bp d1 ?_
  rw [d2, d3]
  rw [lp_Mul_0 F hF _ a b a b 0 0 127 F 0 0 0 0 _ _ (by omega) (by omega) rfl (by rw [num_zero, Int.mul_zero]; rfl) (by rw [num_zero, Int.mul_zero]; rfl) (by rw [Int.pow_zero, Int.mul_one]) (by rw [Int.pow_zero, Int.mul_one])]
  have hn := num_127 (I64_W hb)
  refine bp (dt (by decide)) (bp (isI_ds b (i := 127) (by omega)) ?_)
  have hg : iv (ds b 128)[127]? = dg b 127 := by rw [ds_get b (by omega)]; rfl
  rw [hg]
  rcases (show dg b 127 = 0 ∨ dg b 127 = 1 by have := dg_01 b 127; omega) with hd | hd
  · refine bn (by rw [hd]; rfl) ?_
    rw [hd] at hn
    rw [show num b 127 = b by omega]; rfl
  · obtain ⟨n1, n2, n3⟩ := a_rNeg F hF (a * 2 ^ 127)
    refine bp (by rw [hd]; rfl) (bp n1 ?_)
    rw [n2, n3]
    obtain ⟨c1, c2, c3⟩ := a_rAdd F hF (a * num b 127) (-(a * 2 ^ 127))
    refine bp c1 ?_
    rw [c2, c3]
    rw [hd] at hn
    have e : a * num b 127 + -(a * 2 ^ 127) = a * b := by
      rw [show num b 127 = b + 2 ^ 127 by omega, Int.mul_add]; omega
    rw [e]; rfl
theorem a_rMul (F : Nat) (hF : 200 ≤ F) {a b : Int} (ha : I64 a) (hb : I64 b) : ok_ia F a b = true ∧ o_ia_0 F a b = hi (a * b) ∧ o_ia_1 F a b = lo (a * b) := k_ia F _ _ (f_rMul F hF ha hb)
end Go.Xv
namespace Go.Xv
theorem lp_Left_0 (F : Nat) (hF : 200 ≤ F) (ex) (z x0 x1 x2 x6 x7 : Int) (m : Nat) (hm : (if 128 < x2 then 128 else x2) ≤ (m : Int)) (hm2 : (m : Int) ≤ 0 ∨ (m : Int) = (if 128 < x2 then 128 else x2)) (h128 : m ≤ 128) : ∀ (k n i : Nat) (x3 x4 x5 : Int), i + k = m → k < n → x3 = i → x4 = hi (z * 2 ^ i) → x5 = lo (z * 2 ^ i) →
    L_r_0 F ex n x0 x1 x2 x3 x4 x5 x6 x7 = ex x0 x1 x2 m (hi (z * 2 ^ m)) (lo (z * 2 ^ m)) x6 x7
  | _, 0, _, _, _, _, _, h, _, _, _ => absurd h (by omega)
  | 0, n + 1, i, _, _, _, h, _, rfl, rfl, rfl => by
    obtain rfl : i = m := by omega
    rw [L_r_0]
    unfold B_r_0 Bg_r_0
    exact bn (df (by omega)) rfl
  | k + 1, n + 1, i, _, _, _, h, hn, rfl, rfl, rfl => by
    rw [L_r_0]
    unfold B_r_0 Bg_r_0
    obtain ⟨d1, d2, d3⟩ := a_rAdd F hF (z * 2 ^ i) (z * 2 ^ i)
    have e2 : z * 2 ^ i + z * 2 ^ i = z * 2 ^ (i + 1) := by rw [Int.pow_succ, ← Int.mul_assoc]; omega
    rw [e2] at d2 d3
    refine bp (dt (by omega)) (bp d1 ?_)
    exact lp_Left_0 F hF ex z x0 x1 x2 x6 x7 m hm hm2 h128 k n (i + 1) _ _ _ (by omega) (by omega) (wi64_s i (by omega)) d2 d3
theorem f_rLeft (F : Nat) (hF : 200 ≤ F) {a b n : Int} (ha : I64 a) (hb : U64 b) : f_r F a b n = some (wd (val a b * 2 ^ n.toNat)) := by
  unfold f_r fg_r
  have hm : ∃ m : Nat, (if 128 < n then 128 else n) ≤ (m : Int) ∧ ((m : Int) ≤ 0 ∨ (m : Int) = (if 128 < n then 128 else n)) ∧ m ≤ 128 ∧ (n.toNat = m ∨ 128 ≤ n.toNat ∧ m = 128) := by
    by_cases h : 128 < n
    · exact ⟨128, by rw [if_pos h]; omega, .inr (by rw [if_pos h]; omega), by omega, .inr (by omega)⟩
    · exact ⟨n.toNat, by rw [if_neg h]; omega, by rw [if_neg h]; omega, by omega, .inl rfl⟩
  obtain ⟨m, h1, h2, h3, h4⟩ := hm
  rw [lp_Left_0 F hF _ (val a b) a b n 0 0 m h1 h2 h3 m F 0 0 a b (by omega) (by omega) rfl (by rw [Int.pow_zero, Int.mul_one, hi_val ha hb]) (by rw [Int.pow_zero, Int.mul_one, lo_val hb])]
  rcases h4 with h4 | ⟨h4, rfl⟩
  · rw [h4]; rfl
  · obtain ⟨e1, e2⟩ := shl_all (h := a) (l := b) h4
    obtain ⟨e3, e4⟩ := shl_all (h := a) (l := b) (m := 128) (by omega)
    exact some_wd (e3.symm.trans e1) (e4.symm.trans e2)
theorem a_rLeft (F : Nat) (hF : 200 ≤ F) (x n : Int) : ok_r F (hi x) (lo x) n = true ∧ o_r_0 F (hi x) (lo x) n = hi (x * 2 ^ n.toNat) ∧ o_r_1 F (hi x) (lo x) n = lo (x * 2 ^ n.toNat) := by
  obtain ⟨h1, h2, h3⟩ := k_r F _ _ n (f_rLeft F hF (n := n) (hi_I x) (lo_U x))
  rw [h2, h3, val_hl]
  exact ⟨h1, hi_eqv ((W_eqv x).mul _), lo_eqv ((W_eqv x).mul _)⟩

end Go.Xv
namespace Go.Xv
/-- one step of a division, bit by bit. -/
theorem div_step {X P T b : Int} (hP : 0 < P) (hT : 0 < T) (hPT : P * T = 170141183460469231731687303715884105728) (hX : 0 ≤ X) (hX2 : X < 340282366920938463463374607431768211456) (hb : 1 ≤ b) (hb2 : b ≤ 9223372036854775808) :
    (0 ≤ (X % (2 * T)) * P + X / (2 * T) / b ∧ (X % (2 * T)) * P + X / (2 * T) / b < 340282366920938463463374607431768211456) ∧
    ((X % (2 * T)) * P + X / (2 * T) / b) / 170141183460469231731687303715884105728 = X / T % 2 ∧
    (0 ≤ X / (2 * T) % b ∧ X / (2 * T) % b < b) ∧
    (b ≤ 2 * (X / (2 * T) % b) + X / T % 2 → X / T % b = 2 * (X / (2 * T) % b) + X / T % 2 - b ∧ ((X % (2 * T)) * P + X / (2 * T) / b) * 2 - (X / T % 2) * 340282366920938463463374607431768211456 + 1 = (X % T) * (P * 2) + X / T / b) ∧
    (2 * (X / (2 * T) % b) + X / T % 2 < b → X / T % b = 2 * (X / (2 * T) % b) + X / T % 2 ∧ ((X % (2 * T)) * P + X / (2 * T) / b) * 2 - (X / T % 2) * 340282366920938463463374607431768211456 = (X % T) * (P * 2) + X / T / b) ∧
    (X % T) * (P * 2) % 2 = 0 ∧ 0 ≤ (X % T) * (P * 2) + X / T / b ∧ (X % T) * (P * 2) + X / T / b < 340282366920938463463374607431768211456 := by
  have e1 : X / (2 * T) = X / T / 2 := by rw [Int.mul_comm, Int.ediv_ediv_of_nonneg (by omega)]
  have hd := Int.mul_ediv_add_emod X T
  have hr := Int.emod_nonneg X (show T ≠ 0 by omega)
  have hr2 := Int.emod_lt_of_pos X hT
  have hq : 0 ≤ X / T := Int.ediv_nonneg hX (by omega)
  have hqP : X / T < 2 * P := Int.ediv_lt_of_lt_mul hT (by rw [Int.mul_assoc, hPT]; omega)
  have e2 : X % (2 * T) = (X / T % 2) * T + X % T := by
    have h := Int.mul_ediv_add_emod X (2 * T)
    rw [e1] at h
    have e : X / T = 2 * (X / T / 2) + X / T % 2 := by omega
    have e3 : T * (X / T) = 2 * T * (X / T / 2) + (X / T % 2) * T := by
      have : T * (X / T) = T * (2 * (X / T / 2) + X / T % 2) := by rw [← e]
      rw [this, Int.mul_add]
      have : T * (2 * (X / T / 2)) = 2 * T * (X / T / 2) := by simp only [Int.mul_comm, Int.mul_assoc, Int.mul_left_comm]
      rw [this, Int.mul_comm T]
    omega
  rw [e1, e2]
  generalize X / T = h at *
  generalize X % T = r at *
  have hbit : 0 ≤ h % 2 ∧ h % 2 ≤ 1 := by omega
  have hH : h = 2 * (h / 2) + h % 2 := by omega
  generalize hg : h % 2 = bit at *
  generalize h / 2 = H at *
  have g1 := Int.mul_ediv_add_emod H b
  have g2 := Int.emod_nonneg H (show b ≠ 0 by omega)
  have g3 := Int.emod_lt_of_pos H (show 0 < b by omega)
  have hHP : H < P := by omega
  have hH0 : 0 ≤ H := by omega
  have hQ0 : 0 ≤ H / b := Int.ediv_nonneg hH0 (by omega)
  have hQH : H / b ≤ H := Int.ediv_le_self b hH0
  have hrP0 : 0 ≤ r * P := Int.mul_nonneg hr (by omega)
  have hrP : r * P ≤ (T - 1) * P := Int.mul_le_mul_of_nonneg_right (by omega) (by omega)
  rw [Int.sub_mul, Int.mul_comm T P, hPT] at hrP
  have hA : (bit * T + r) * P = bit * 170141183460469231731687303715884105728 + r * P := by
    rw [Int.add_mul, Int.mul_assoc, Int.mul_comm T P, hPT]
  have hrP2 : r * (P * 2) = r * P * 2 := by rw [Int.mul_assoc]
  rw [hA, hrP2]
  have hq1 : b ≤ 2 * (H % b) + bit → h % b = 2 * (H % b) + bit - b ∧ h / b = 2 * (H / b) + 1 := by
    intro hx
    have e : h = (2 * (H % b) + bit - b) + (2 * (H / b) + 1) * b := by
      rw [Int.add_mul, Int.one_mul, Int.mul_assoc, Int.mul_comm (H / b) b]; omega
    constructor
    · rw [e, Int.add_mul_emod_self_right, Int.emod_eq_of_lt (by omega) (by omega)]
    · rw [e, Int.add_mul_ediv_right _ _ (by omega), Int.ediv_eq_zero_of_lt (by omega) (by omega)]; omega
  have hq2 : 2 * (H % b) + bit < b → h % b = 2 * (H % b) + bit ∧ h / b = 2 * (H / b) := by
    intro hx
    have e : h = (2 * (H % b) + bit) + (2 * (H / b)) * b := by
      rw [Int.mul_assoc, Int.mul_comm (H / b) b]; omega
    constructor
    · rw [e, Int.add_mul_emod_self_right, Int.emod_eq_of_lt (by omega) (by omega)]
    · rw [e, Int.add_mul_ediv_right _ _ (by omega), Int.ediv_eq_zero_of_lt (by omega) (by omega)]; omega
  refine ⟨⟨by omega, by omega⟩, by omega, ⟨g2, g3⟩, fun hx => ?_, fun hx => ?_, by omega, ?_, ?_⟩
  · obtain ⟨a1, a2⟩ := hq1 hx
    refine ⟨a1, ?_⟩
    rw [a2]; omega
  · obtain ⟨a1, a2⟩ := hq2 hx
    refine ⟨a1, ?_⟩
    rw [a2]; omega
  · by_cases hx : b ≤ 2 * (H % b) + bit
    · rw [(hq1 hx).2]; omega
    · rw [(hq2 (by omega)).2]; omega
  · by_cases hx : b ≤ 2 * (H % b) + bit
    · rw [(hq1 hx).2]; omega
    · rw [(hq2 (by omega)).2]; omega
end Go.Xv
namespace Go.Xv
def clipV (z : Int) : Int := if z < -9223372036854775808 then -9223372036854775808 else if 9223372036854775807 < z then 9223372036854775807 else z
def clipC (z : Int) : Bool := decide (z < -9223372036854775808 ∨ 9223372036854775807 < z)
theorem clipV_I (z : Int) : I64 (clipV z) := by unfold I64 clipV; split <;> (try split) <;> omega
theorem some_clip {n : Int} {c : Bool} {z : Int} (h : n = clipV z) (k : c = clipC z) : (some (VV.v (.tuple #[.int .i64 n, .bool c])) : R) = some (.v (.tuple #[.int .i64 (clipV z), .bool (clipC z)])) := by rw [h, k]
theorem f_Clip (F : Nat) {a b : Int} (ha : I64 a) (hb : U64 b) : f_ra F a b = some (.v (.tuple #[.int .i64 (clipV (val a b)), .bool (clipC (val a b))])) := by
  unfold f_ra fg_ra
  dsimp only
  obtain ⟨o1, o2, o3⟩ := a_Of F (wi64_I b)
  refine bp o1 ?_
  rw [o2, o3, wi64]
  have hv : ∀ z, z = val a b → True := fun _ _ => trivial
  unfold I64 at ha
  unfold U64 at hb
  by_cases h : -9223372036854775808 ≤ val a b ∧ val a b ≤ 9223372036854775807
  · refine bp ?_ (some_clip ?_ ?_)
    · unfold val at h
      rw [Bool.and_eq_true, beq_iff_eq, beq_iff_eq]
      unfold hi lo; omega
    · unfold clipV
      rw [if_neg (by omega), if_neg (by omega)]
      unfold val at *; omega
    · unfold clipC
      exact (df (by omega)).symm
  · refine bn ?_ ?_
    · unfold val at h
      rw [Bool.and_eq_false_iff, beq_eq_false_iff_ne, beq_eq_false_iff_ne]
      unfold hi lo; omega
    · by_cases h2 : a < 0
      · refine bp (dt h2) (some_clip ?_ ?_)
        · unfold clipV
          rw [if_pos]
          unfold val at *; omega
        · unfold clipC
          refine (dt ?_).symm
          unfold val at *; omega
      · refine bn (df h2) (some_clip ?_ ?_)
        · unfold clipV
          rw [if_neg, if_pos]
          · unfold val at *; omega
          · unfold val at *; omega
        · unfold clipC
          refine (dt ?_).symm
          unfold val at *; omega
theorem a_Clip (F : Nat) {x : Int} (h : W128 x) : ok_ra F (hi x) (lo x) = true ∧ o_ra_0 F (hi x) (lo x) = clipV x ∧ o_ra_1 F (hi x) (lo x) = clipC x := by
  have := k_ra F _ _ (f_Clip F (hi_I x) (lo_U x))
  rw [val_hl, W_in h] at this
  exact this
theorem or1 {E : Int} (h : E % 2 = 0) : orI .u64 (lo E) 1 = lo (E + 1) ∧ hi E = hi (E + 1) := by
  constructor
  · have hl := lo_U E
    unfold U64 at hl
    have e : lo E = lo E / 2 * ((2 ^ 1 : Nat) : Int) := by
      have : ((2 ^ 1 : Nat) : Int) = 2 := rfl
      rw [this]; unfold lo; omega
    have e2 : ((2 ^ 1 : Nat) : Int) = 2 := rfl
    rw [e, or_add_u64 1 (by omega) (by omega) (by rw [e2]; omega) (by rw [e2]; omega), ← e]
    unfold lo; omega
  · unfold hi; omega
theorem or_bit {R bit : Int} (hR : 0 ≤ R) (hR2 : R < 9223372036854775808) (hb : 0 ≤ bit) (hb2 : bit ≤ 1) : orI .u64 (IntKind.wrap .u64 (R * 2)) bit = 2 * R + bit := by
  have e2 : ((2 ^ 1 : Nat) : Int) = 2 := rfl
  have := or_add_u64 1 (a := R) (b := bit) hR hb (by rw [e2]; omega) (by rw [e2]; omega)
  rw [e2] at this
  rw [wu64_in (by unfold U64; omega), this]; omega
theorem up_bit {A : Int} (h : 0 ≤ A) (h2 : A < 340282366920938463463374607431768211456) : Int.fdiv (IntKind.wrap .u64 (hi A)) 9223372036854775808 = A / 170141183460469231731687303715884105728 := by
  rw [fdiv_pos _ (by decide), wu64]; unfold hi; omega
theorem p128 {i : Nat} (h : i < 128) : (2 : Int) ^ i * 2 ^ (127 - i) = 170141183460469231731687303715884105728 := by
  rw [p2add, show i + (127 - i) = 127 by omega]; decide
theorem p128' {i : Nat} (h : i < 128) : (2 : Int) ^ (128 - i) = 2 * 2 ^ (127 - i) := by
  rw [show 128 - i = (127 - i) + 1 by omega, Int.pow_succ, Int.mul_comm]
theorem lp_divide_0 (F : Nat) (ex) {X b : Int} (hX : 0 ≤ X) (hX2 : X < 340282366920938463463374607431768211456) (hb : 1 ≤ b) (hb2 : b ≤ 9223372036854775808) (x0 x1 x3 x8 x9 : Int) : ∀ (k n i : Nat) (x4 x5 x6 x7 : Int), i + k = 128 → k < n →
    x4 = X / 2 ^ (128 - i) % b → x5 = i → x6 = hi ((X % 2 ^ (128 - i)) * 2 ^ i + X / 2 ^ (128 - i) / b) → x7 = lo ((X % 2 ^ (128 - i)) * 2 ^ i + X / 2 ^ (128 - i) / b) →
    L_p_0 F ex n x0 x1 b x3 x4 x5 x6 x7 x8 x9 = ex x0 x1 b x3 (X % b) 128 (hi (X / b)) (lo (X / b)) x8 x9
  | _, 0, _, _, _, _, _, _, h, _, _, _, _ => absurd h (by omega)
  | 0, n + 1, i, _, _, _, _, h, _, rfl, rfl, rfl, rfl => by
    obtain rfl : i = 128 := by omega
    rw [L_p_0]
    unfold B_p_0 Bg_p_0
    refine bn (df (by omega)) ?_
    simp only [Nat.sub_self, Int.pow_zero, Int.ediv_one, Int.emod_one, Int.zero_mul, Int.zero_add]
    rfl
  | k + 1, n + 1, i, _, _, _, _, h, hn, rfl, rfl, rfl, rfl => by
    have hi' : i < 128 := by omega
    have ih := lp_divide_0 F ex hX hX2 hb hb2 x0 x1 x3 x8 x9 k n (i + 1)
    rw [show 128 - (i + 1) = 127 - i by omega, Int.pow_succ] at ih
    rw [L_p_0]
    unfold B_p_0 Bg_p_0
    dsimp only
    rw [p128' hi']
    obtain ⟨⟨s1, s2⟩, s3, ⟨s4, s5⟩, s6, s7, s8, s9, s10⟩ := div_step (p2pos i) (p2pos (127 - i)) (p128 hi') hX hX2 hb hb2
    generalize (2 : Int) ^ i = P at *
    generalize (2 : Int) ^ (127 - i) = T at *
    generalize hAe : X % (2 * T) * P + X / (2 * T) / b = A at *
    generalize X / (2 * T) % b = R0 at *
    have hbit : 0 ≤ X / T % 2 ∧ X / T % 2 ≤ 1 := by omega
    obtain ⟨l1, l2, l3⟩ := a_Left F A 1
    rw [show ((1 : Int).toNat) = 1 from rfl, Int.pow_one] at l2 l3
    refine bp (dt (by omega)) (bp l1 ?_)
    rw [l2, l3, up_bit s1 s2, s3, or_bit s4 (by omega) hbit.1 hbit.2]
    refine bn ?_ ?_
    · rw [fdiv_pos _ (by decide), beq_eq_false_iff_ne]; omega
    · by_cases hc : b ≤ 2 * R0 + X / T % 2
      · refine bp (dt hc) ?_
        obtain ⟨c1, c2⟩ := s6 hc
        have hE : (A * 2) % 2 = 0 := by omega
        obtain ⟨e1, e2⟩ := or1 hE
        have hq : Eqv (A * 2 + 1) (X % T * (P * 2) + X / T / b) := by unfold Eqv; omega
        refine ih _ _ _ _ (by omega) (by omega) ?_ (wi64_s i (by omega)) ?_ ?_
        · rw [c1, wu64_in]
          unfold U64; omega
        · rw [e2, hi_eqv hq]
        · rw [e1, lo_eqv hq]
      · refine bn (df hc) ?_
        obtain ⟨c1, c2⟩ := s7 (by omega)
        have hq : Eqv (A * 2) (X % T * (P * 2) + X / T / b) := by unfold Eqv; omega
        exact ih _ _ _ _ (by omega) (by omega) c1.symm (wi64_s i (by omega)) (hi_eqv hq) (lo_eqv hq)
/-- a number of 128 bits without its sign -/
def un (z : Int) : Int := z % 340282366920938463463374607431768211456
theorem un_eqv (z : Int) : Eqv (un z) z := by unfold Eqv un; omega
theorem f_divide (F : Nat) (hF : 200 ≤ F) (z : Int) {b : Int} (hb : 1 ≤ b) (hb2 : b ≤ 9223372036854775808) : f_p F (hi z) (lo z) b = some (.v (.tuple #[.agg #[.int .i64 (hi (un z / b)), .int .u64 (lo (un z / b))], .int .u64 (un z % b)])) := by
  unfold f_p fg_p
  have h1 : 0 ≤ un z ∧ un z < 340282366920938463463374607431768211456 := by unfold un; omega
  have e1 : un z / 2 ^ (128 - 0) = 0 := by
    rw [show (2 : Int) ^ (128 - 0) = 340282366920938463463374607431768211456 by decide]; omega
  have e2 : un z % 2 ^ (128 - 0) = un z := by
    rw [show (2 : Int) ^ (128 - 0) = 340282366920938463463374607431768211456 by decide]; omega
  rw [lp_divide_0 F _ h1.1 h1.2 hb hb2 (hi z) (lo z) 0 0 0 128 F 0 0 0 (hi z) (lo z) (by omega) (by omega) (by rw [e1]; simp) rfl
    (by rw [e1, e2, Int.zero_ediv, Int.pow_zero, Int.mul_one, Int.add_zero, hi_eqv (un_eqv z)]) (by rw [e1, e2, Int.zero_ediv, Int.pow_zero, Int.mul_one, Int.add_zero, lo_eqv (un_eqv z)])]
end Go.Xv
namespace Go.Xv
/-- a list of bits that fills up from its end -/
def fillL (Q : Int) (c : Nat) : List VV := List.replicate c (.v (.int .i64 0)) ++ (ds Q 128).drop c
theorem fill_len (Q : Int) {c : Nat} (h : c ≤ 128) : (fillL Q c).length = 128 := by
  unfold fillL
  rw [List.length_append, List.length_replicate, List.length_drop, ds_len]; omega
theorem drop_cons (Q : Int) {c : Nat} (h : c < 128) : (ds Q 128).drop c = .v (.int .i64 (dg Q c)) :: (ds Q 128).drop (c + 1) := by
  have h1 : c < (ds Q 128).length := by rw [ds_len]; exact h
  rw [List.drop_eq_getElem_cons h1]
  congr 1
  have := ds_get Q h
  rw [List.getElem?_eq_getElem h1] at this
  exact Option.some.inj this
theorem fill_zero (Q : Int) {c : Nat} (h : c < 128) (hd : dg Q c = 0) : fillL Q (c + 1) = fillL Q c := by
  unfold fillL
  rw [drop_cons Q h, hd, List.replicate_succ', List.append_assoc]; rfl
theorem fill_one (Q : Int) {c : Nat} (h : c < 128) (hd : dg Q c = 1) : (fillL Q (c + 1)).take c ++ [.v (.int .i64 1)] ++ (fillL Q (c + 1)).drop (c + 1) = fillL Q c := by
  unfold fillL
  rw [drop_cons Q h, hd, List.take_append_of_le_length (by rw [List.length_replicate]; omega), List.take_replicate, List.drop_append, List.length_replicate, List.drop_eq_nil_of_le (by rw [List.length_replicate]; omega)]
  rw [show min c (c + 1) = c by omega, Nat.sub_self, List.drop_zero, List.nil_append, List.append_assoc]; rfl
theorem quo_dg {X b : Int} (i : Nat) (hb : 1 ≤ b) : X / 2 ^ i / b % 2 = dg (X / b) i := by
  unfold dg
  rw [Int.ediv_ediv_of_nonneg (Int.le_of_lt (p2pos i)), Int.ediv_ediv_of_nonneg (by omega), Int.mul_comm]
theorem lp_rDiv_0 (F : Nat) (ex) {X b : Int} (hX : 0 ≤ X) (hX2 : X < 340282366920938463463374607431768211456) (hb : 1 ≤ b) (hb2 : b ≤ 9223372036854775808) (z : Int) (hz : X = un z) (x0 x1 x2 x3 : Int) (x4 : Bool) (x9 x10 x11 x12 x13 x14 : Int) : ∀ (c n : Nat) (x7 x8 : Int) (l : List VV), c ≤ 128 → c < n →
    x7 = X / 2 ^ c % b → x8 = (c : Int) - 1 → l = fillL (X / b) c →
    L_ha_0 F ex n x0 x1 x2 x3 x4 b 128 x7 x8 x9 x10 x11 x12 x13 x14 (ds z 128) l = ex x0 x1 x2 x3 x4 b 128 (X % b) (-1) x9 x10 x11 x12 x13 x14 (ds z 128) (ds (X / b) 128)
  | _, 0, _, _, _, _, h, _, _, _ => absurd h (by omega)
  | 0, n + 1, _, _, _, _, _, rfl, rfl, rfl => by
    rw [L_ha_0]
    unfold B_ha_0 Bg_ha_0
    refine bn (df (by omega)) ?_
    rw [Int.pow_zero, Int.ediv_one]
    rfl
  | c + 1, n + 1, _, _, _, hc, hn, rfl, rfl, rfl => by
    have hc' : c < 128 := by omega
    have ih := lp_rDiv_0 F ex hX hX2 hb hb2 z hz x0 x1 x2 x3 x4 x9 x10 x11 x12 x13 x14 c n
    rw [L_ha_0]
    unfold B_ha_0 Bg_ha_0
    dsimp only
    rw [show ((c + 1 : Nat) : Int) - 1 = (c : Int) by omega]
    have hs := div_step (P := 2 ^ (127 - c)) (T := 2 ^ c) (p2pos _) (p2pos c) (by rw [Int.mul_comm, p128 hc']) hX hX2 hb hb2
    obtain ⟨_, _, ⟨s4, s5⟩, s6, s7, _⟩ := hs
    rw [show (2 : Int) * 2 ^ c = 2 ^ (c + 1) by rw [Int.pow_succ, Int.mul_comm]] at s4 s5 s6 s7
    have hbit : X / 2 ^ c % 2 = dg z c := by
      rw [hz]
      exact bitlo z (n := 128) hc'
    have hq := quo_dg (X := X) (b := b) c hb
    have hd := dg_01 z c
    have key : (b ≤ 2 * (X / 2 ^ (c + 1) % b) + dg z c → dg (X / b) c = 1) ∧ (2 * (X / 2 ^ (c + 1) % b) + dg z c < b → dg (X / b) c = 0) := by
      rw [← hq, ← hbit]
      have e : X / 2 ^ c / 2 = X / 2 ^ (c + 1) := ediv2 X c
      clear ih hn hbit hq hd
      generalize X / 2 ^ (c + 1) = H at *
      generalize X / 2 ^ c = h at *
      have g1 := Int.mul_ediv_add_emod H b
      constructor
      · intro hx
        obtain ⟨c1, _⟩ := s6 hx
        have e1 : h = (2 * (H % b) + h % 2 - b) + (2 * (H / b) + 1) * b := by
          rw [Int.add_mul, Int.one_mul, Int.mul_assoc, Int.mul_comm (H / b) b]; omega
        have : h / b = 2 * (H / b) + 1 := by
          have h2 : h / b = ((2 * (H % b) + h % 2 - b) + (2 * (H / b) + 1) * b) / b := by rw [← e1]
          rw [h2, Int.add_mul_ediv_right _ _ (by omega), Int.ediv_eq_zero_of_lt (by omega) (by omega)]; omega
        omega
      · intro hx
        have e1 : h = (2 * (H % b) + h % 2) + (2 * (H / b)) * b := by
          rw [Int.mul_assoc, Int.mul_comm (H / b) b]; omega
        have : h / b = 2 * (H / b) := by
          have h2 : h / b = ((2 * (H % b) + h % 2) + (2 * (H / b)) * b) / b := by rw [← e1]
          rw [h2, Int.add_mul_ediv_right _ _ (by omega), Int.ediv_eq_zero_of_lt (by omega) (by omega)]; omega
        omega
    rw [hbit] at s6 s7
    generalize hR : X / 2 ^ (c + 1) % b = R0 at *
    refine bp (dt (by omega)) (bp (ix_ok c 128 hc') (bp (isI_ds z hc') ?_))
    rw [iv_ds z hc', wu64_in (x := dg z c) (by unfold U64; omega), wu64_in (x := 2 * R0) (by unfold U64; omega), wu64_in (x := 2 * R0 + dg z c) (by unfold U64; omega)]
    refine bn (df (by omega)) ?_
    have w8 : IntKind.wrap .i64 ((c : Int) - 1) = (c : Int) - 1 := wi64_in (by unfold I64; omega)
    by_cases hx : b ≤ 2 * R0 + dg z c
    · refine bp (dt hx) (bp (ix_ok c 128 hc') (bp ?_ ?_))
      · rw [zmul, fill_len _ hc, dt (by omega)]
      · refine ih _ _ _ (by omega) (by omega) ?_ w8 ?_
        · rw [(s6 hx).1, wu64_in]
          unfold U64; omega
        · rw [zmul]
          exact fill_one _ hc' (key.1 hx)
    · refine bn (df hx) ?_
      exact ih _ _ _ (by omega) (by omega) (s7 (by omega)).1.symm w8 (fill_zero _ hc' (key.2 (by omega)))
theorem qt_un {z b : Int} (hz : W128 z) (hb : I64 b) (h0 : b ≠ 0) :
    (un (if z < 0 then -z else z) / (if b < 0 then -b else b) = if (decide (z < 0)) = (decide (b < 0)) then Int.tdiv z b else -Int.tdiv z b) ∧
    un (if z < 0 then -z else z) % (if b < 0 then -b else b) = (if z < 0 then -Int.tmod z b else Int.tmod z b) := by
  have e : un (if z < 0 then -z else z) = (if z < 0 then -z else z) := by unfold un; unfold W128 at hz; split <;> omega
  rw [e]
  by_cases h1 : z < 0 <;> by_cases h2 : b < 0
  · simp only [h1, h2, if_true]
    rw [← Int.tdiv_eq_ediv_of_nonneg (by omega), ← Int.tmod_eq_emod_of_nonneg (by omega), Int.neg_tdiv_neg, Int.neg_tmod, Int.tmod_neg]
    exact ⟨rfl, rfl⟩
  · simp only [h1, h2, if_true, if_false, decide_true, decide_false]
    rw [← Int.tdiv_eq_ediv_of_nonneg (by omega), ← Int.tmod_eq_emod_of_nonneg (by omega), Int.neg_tdiv, Int.neg_tmod]
    exact ⟨rfl, rfl⟩
  · simp only [h1, h2, if_true, if_false, decide_true, decide_false]
    rw [← Int.tdiv_eq_ediv_of_nonneg (by omega), ← Int.tmod_eq_emod_of_nonneg (by omega), Int.tdiv_neg, Int.tmod_neg]
    exact ⟨rfl, rfl⟩
  · simp only [h1, h2, if_true, if_false]
    rw [← Int.tdiv_eq_ediv_of_nonneg (by omega), ← Int.tmod_eq_emod_of_nonneg (by omega)]
    exact ⟨rfl, rfl⟩
end Go.Xv
namespace Go.Xv
/-- what a division answers -/
def divR (z b : Int) : Value := if b = 0 then .tuple #[.agg #[.int .i64 0, .int .u64 0], .int .i64 0, .bool false] else .tuple #[.agg #[.int .i64 (hi (Int.tdiv z b)), .int .u64 (lo (Int.tdiv z b))], .int .i64 (Int.tmod z b), .bool true]
theorem tmod_I {z b : Int} (hb : I64 b) (h0 : b ≠ 0) : -9223372036854775808 < Int.tmod z b ∧ Int.tmod z b < 9223372036854775808 := by
  unfold I64 at hb
  have h1 := Int.emod_nonneg (if z < 0 then -z else z) (show (if b < 0 then -b else b) ≠ 0 by split <;> omega)
  have h2 := Int.emod_lt_of_pos (if z < 0 then -z else z) (show 0 < (if b < 0 then -b else b) by split <;> omega)
  have h3 : (if z < 0 then -z else z) % (if b < 0 then -b else b) = (if z < 0 then -Int.tmod z b else Int.tmod z b) := by
    by_cases hz : z < 0 <;> by_cases hbn : b < 0 <;> simp only [hz, hbn, if_true, if_false]
    · rw [← Int.tmod_eq_emod_of_nonneg (by omega), Int.neg_tmod, Int.tmod_neg]
    · rw [← Int.tmod_eq_emod_of_nonneg (by omega), Int.neg_tmod]
    · rw [← Int.tmod_eq_emod_of_nonneg (by omega), Int.tmod_neg]
    · rw [← Int.tmod_eq_emod_of_nonneg (by omega)]
  rw [h3] at h1 h2
  revert h1 h2
  by_cases hz : z < 0 <;> simp only [hz, if_true, if_false] <;> intro h1 h2 <;> split at h2 <;> omega
theorem val_neg {a b : Int} (hb : U64 b) : (val a b < 0) ↔ a < 0 := by unfold val; unfold U64 at hb; omega
theorem some_div {x y r z b : Int} (h0 : b ≠ 0) (hx : x = hi (Int.tdiv z b)) (hy : y = lo (Int.tdiv z b)) (hr : r = Int.tmod z b) :
    (some (VV.v (.tuple #[.agg #[.int .i64 x, .int .u64 y], .int .i64 r, .bool true])) : R) = some (.v (divR z b)) := by
  unfold divR
  rw [if_neg h0, hx, hy, hr]
theorem f_Div (F : Nat) (hF : 200 ≤ F) {a c b : Int} (ha : I64 a) (hc : U64 c) (hb : I64 b) : f_gb F a c b = some (.v (divR (val a c) b)) := by
  unfold f_gb fg_gb
  dsimp only
  by_cases h0 : b = 0
  · refine bp (by simp [h0]) ?_
    unfold divR
    rw [if_pos h0]
  · refine bn (by simp [h0]) ?_
    have hz := val_W ha hc
    have hzn := val_neg (a := a) hc
    obtain ⟨q1, q2⟩ := qt_un hz hb h0
    have hm := tmod_I (z := val a c) hb h0
    obtain ⟨b1, b2⟩ := k_wa F b (f_bare F hb)
    have hb1 : 1 ≤ (if b < 0 then -b else b) ∧ (if b < 0 then -b else b) ≤ 9223372036854775808 := by unfold I64 at hb; split <;> omega
    by_cases han : a < 0
    · have hvn := hzn.2 han
      simp only [hvn, if_true, decide_true] at q1 q2
      obtain ⟨n1, n2, n3⟩ := k_ib F _ _ (f_Neg F ha hc)
      obtain ⟨d1, d2, d3, d4⟩ := k_p F _ _ _ (f_divide F hF (-val a c) hb1.1 hb1.2)
      refine bp (dt han) (bp n1 (bp b1 ?_))
      rw [n2, n3, b2]
      refine bp d1 ?_
      rw [d2, d3, d4, q1, q2]
      have w1 : IntKind.wrap .i64 (0 - IntKind.wrap .i64 (-Int.tmod (val a c) b)) = Int.tmod (val a c) b := by rw [wi64, wi64]; omega
      by_cases hbn : b < 0
      · simp only [han, hbn, decide_true, if_true, BEq.rfl, Bool.not_true, cond_false, cond_true]
        exact some_div h0 rfl rfl w1
      · simp only [han, hbn, decide_true, decide_false]
        refine bp rfl ?_
        simp only [show ((true = false) ↔ False) by decide, if_false]
        obtain ⟨m1, m2, m3⟩ := a_Neg F (-Int.tdiv (val a c) b)
        refine bp m1 ?_
        rw [m2, m3, Int.neg_neg]
        exact bp rfl (some_div h0 rfl rfl w1)
    · have hvn : ¬ val a c < 0 := fun h => han (hzn.1 h)
      simp only [hvn, if_false, decide_false] at q1 q2
      have hv1 := hi_val ha hc
      have hv2 := lo_val (h := a) hc
      have hd := k_p F _ _ _ (f_divide F hF (val a c) hb1.1 hb1.2)
      rw [hv1, hv2] at hd
      obtain ⟨d1, d2, d3, d4⟩ := hd
      refine bn (df han) (bp b1 ?_)
      rw [b2]
      refine bp d1 ?_
      rw [d2, d3, d4, q1, q2]
      have w1 : IntKind.wrap .i64 (Int.tmod (val a c) b) = Int.tmod (val a c) b := by rw [wi64]; omega
      by_cases hbn : b < 0
      · simp only [han, hbn, decide_true, decide_false]
        refine bp rfl ?_
        simp only [show ((false = true) ↔ False) by decide, if_false]
        obtain ⟨m1, m2, m3⟩ := a_Neg F (-Int.tdiv (val a c) b)
        refine bp m1 ?_
        rw [m2, m3, Int.neg_neg]
        exact bn rfl (some_div h0 rfl rfl w1)
      · simp only [han, hbn, decide_false, if_true, BEq.rfl, Bool.not_true, cond_false]
        exact some_div h0 rfl rfl w1
theorem rep_flat (x : VV) : ∀ n, (List.replicate n [x]).flatten = List.replicate n x
  | 0 => rfl
  | n + 1 => by rw [List.replicate_succ, List.flatten_cons, rep_flat x n, List.replicate_succ]; rfl
theorem fill_all (Q : Int) : (List.replicate 128 [VV.v (.int .i64 0)]).flatten = fillL Q 128 := by
  unfold fillL
  rw [rep_flat, List.drop_eq_nil_of_le (by rw [ds_len]; omega), List.append_nil]
theorem rDiv_loop (F : Nat) (hF : 200 ≤ F) (ex) (z : Int) {b : Int} (hb : 1 ≤ b) (hb2 : b ≤ 9223372036854775808) (x0 x1 x2 x3 : Int) (x4 : Bool) (x9 x10 x11 x12 x13 x14 : Int) :
    L_ha_0 F ex F x0 x1 x2 x3 x4 b 128 0 127 x9 x10 x11 x12 x13 x14 (ds z 128) ((List.replicate 128 [VV.v (.int .i64 0)]).flatten) = ex x0 x1 x2 x3 x4 b 128 (un z % b) (-1) x9 x10 x11 x12 x13 x14 (ds z 128) (ds (un z / b) 128) := by
  have h1 : 0 ≤ un z ∧ un z < 340282366920938463463374607431768211456 := by unfold un; omega
  refine lp_rDiv_0 F ex h1.1 h1.2 hb hb2 z rfl x0 x1 x2 x3 x4 x9 x10 x11 x12 x13 x14 128 F 0 127 _ (by omega) (by omega) ?_ (by omega) (fill_all _)
  rw [show (2 : Int) ^ 128 = 340282366920938463463374607431768211456 by decide, Int.ediv_eq_zero_of_lt h1.1 h1.2]; simp
theorem f_rDiv (F : Nat) (hF : 200 ≤ F) {a c b : Int} (ha : I64 a) (hc : U64 c) (hb : I64 b) : f_ha F a c b = some (.v (divR (val a c) b)) := by
  unfold f_ha fg_ha
  dsimp only
  by_cases h0 : b = 0
  · refine bp (by simp [h0]) ?_
    unfold divR
    rw [if_pos h0]
  · refine bn (by simp [h0]) ?_
    have hz := val_W ha hc
    have hzn := val_neg (a := a) hc
    obtain ⟨q1, q2⟩ := qt_un hz hb h0
    have hm := tmod_I (z := val a c) hb h0
    have hb1 : 1 ≤ (if b < 0 then -b else b) ∧ (if b < 0 then -b else b) ≤ 9223372036854775808 := by unfold I64 at hb; split <;> omega
    by_cases han : a < 0
    · have hvn := hzn.2 han
      simp only [hvn, if_true, decide_true] at q1 q2
      obtain ⟨n1, n2, n3⟩ := k_ja F _ _ (f_rNeg F hF (a := a) hc)
      obtain ⟨d1, d2, d3⟩ := k_e F _ _ (f_Digits F hF (a := hi (-val a c)) (lo_U (-val a c)))
      have hds : ds (W (-val a c)) 128 = ds (-val a c) 128 := by
        unfold ds
        apply List.map_congr_left
        intro i hi
        have hi : i < 128 := List.mem_range.1 hi
        unfold dg
        rw [← bitlo _ hi, ← bitlo (-val a c) hi]
        have := W_eqv (-val a c)
        unfold Eqv at this
        rw [show (2 : Int) ^ 128 = 340282366920938463463374607431768211456 by decide, this]
      rw [val_hl, hds] at d2
      refine bp (dt han) (bp n1 ?_)
      rw [n2, n3]
      have w1 : IntKind.wrap .i64 (0 - IntKind.wrap .i64 (-Int.tmod (val a c) b)) = Int.tmod (val a c) b := by rw [wi64, wi64]; omega
      by_cases hbn : b < 0
      · simp only [hbn, if_true, decide_true] at q1 q2 hb1
        have hw : IntKind.wrap .u64 (IntKind.wrap .u64 (IntKind.wrap .i64 (0 - IntKind.wrap .i64 (b + 1))) + 1) = -b := by unfold I64 at hb; rw [wi64, wi64, wu64, wu64]; omega
        refine bp (dt hbn) (bp d1 ?_)
        rw [d2, d3, hw, rDiv_loop F hF _ _ hb1.1 hb1.2, q1, q2]
        obtain ⟨e1, e2, e3⟩ := k_f F _ _ (f_Number F hF (Int.tdiv (val a c) b))
        refine bp e1 (bn (by simp [han, hbn]) (bp (dt han) ?_))
        rw [e2, e3]
        exact some_div h0 rfl rfl w1
      · simp only [hbn, if_false, decide_false, show ((true = false) ↔ False) by decide] at q1 q2 hb1
        refine bn (df hbn) (bp d1 ?_)
        rw [d2, d3, wu64_in (x := b) (by unfold I64 at hb; unfold U64; omega), rDiv_loop F hF _ _ hb1.1 hb1.2, q1, q2]
        obtain ⟨e1, e2, e3⟩ := k_f F _ _ (f_Number F hF (-Int.tdiv (val a c) b))
        obtain ⟨m1, m2, m3⟩ := a_rNeg F hF (-Int.tdiv (val a c) b)
        refine bp e1 (bp (by simp [han, hbn]) ?_)
        rw [e2, e3]
        refine bp m1 (bp (dt han) ?_)
        rw [m2, m3, Int.neg_neg]
        exact some_div h0 rfl rfl w1
    · have hvn : ¬ val a c < 0 := fun h => han (hzn.1 h)
      simp only [hvn, if_false, decide_false] at q1 q2
      obtain ⟨d1, d2, d3⟩ := k_e F _ _ (f_Digits F hF (a := a) hc)
      refine bn (df han) ?_
      have w1 : IntKind.wrap .i64 (Int.tmod (val a c) b) = Int.tmod (val a c) b := by rw [wi64]; omega
      by_cases hbn : b < 0
      · simp only [hbn, if_true, decide_true, show ((false = true) ↔ False) by decide, if_false] at q1 q2 hb1
        have hw : IntKind.wrap .u64 (IntKind.wrap .u64 (IntKind.wrap .i64 (0 - IntKind.wrap .i64 (b + 1))) + 1) = -b := by unfold I64 at hb; rw [wi64, wi64, wu64, wu64]; omega
        refine bp (dt hbn) (bp d1 ?_)
        rw [d2, d3, hw, rDiv_loop F hF _ _ hb1.1 hb1.2, q1, q2]
        obtain ⟨e1, e2, e3⟩ := k_f F _ _ (f_Number F hF (-Int.tdiv (val a c) b))
        obtain ⟨m1, m2, m3⟩ := a_rNeg F hF (-Int.tdiv (val a c) b)
        refine bp e1 (bp (by simp [han, hbn]) ?_)
        rw [e2, e3]
        refine bp m1 (bn (df han) ?_)
        rw [m2, m3, Int.neg_neg]
        exact some_div h0 rfl rfl w1
      · simp only [hbn, if_false, decide_false, if_true] at q1 q2 hb1
        refine bn (df hbn) (bp d1 ?_)
        rw [d2, d3, wu64_in (x := b) (by unfold I64 at hb; unfold U64; omega), rDiv_loop F hF _ _ hb1.1 hb1.2, q1, q2]
        obtain ⟨e1, e2, e3⟩ := k_f F _ _ (f_Number F hF (Int.tdiv (val a c) b))
        refine bp e1 (bn (by simp [han, hbn]) (bn (df han) ?_))
        rw [e2, e3]
        exact some_div h0 rfl rfl w1
end Go.Xv
namespace Go.Xv
theorem mul_bd {a b : Int} (ha : I64 a) (hb : I64 b) : -85070591730234615865843651857942052864 ≤ a * b ∧ a * b ≤ 85070591730234615865843651857942052864 := by
  unfold I64 at ha hb
  have h : (a * b).natAbs ≤ 9223372036854775808 * 9223372036854775808 := by
    rw [Int.natAbs_mul]
    exact Nat.mul_le_mul (by omega) (by omega)
  omega
theorem mul_W {a b : Int} (ha : I64 a) (hb : I64 b) : W128 (a * b) := by
  have := mul_bd ha hb
  unfold W128; omega
theorem cl32 : cl 32 = 32 := by decide
theorem near_W {z : Int} (h : -85070591730234615865843651857942052864 ≤ z ∧ z ≤ 85070591730234615865843651857942052864) : W128 (near z 32) := by
  unfold near
  rw [if_neg (by decide), show (2 : Int) ^ 32 = 4294967296 by decide, show (2 : Int) ^ (32 - 1) = 2147483648 by decide]
  unfold W128; omega
abbrev cp (z : Int) : VV := .v (.tuple #[.int .i64 (clipV z), .bool (clipC z)])
theorem clip_in {z : Int} (h : I64 z) : clipV z = z ∧ clipC z = false := by
  unfold I64 at h
  unfold clipV clipC
  exact ⟨by rw [if_neg (by omega), if_neg (by omega)], df (by omega)⟩

theorem f_fclip (F : Nat) {z : Int} (h : W128 z) : f_ya F (hi z) (lo z) = some (cp z) := by
  unfold f_ya fg_ya
  obtain ⟨h1, h2, h3⟩ := a_Clip F h
  refine bp h1 ?_
  rw [h2, h3]
theorem a_fclip (F : Nat) {z : Int} (h : W128 z) : ok_ya F (hi z) (lo z) = true ∧ o_ya_0 F (hi z) (lo z) = clipV z ∧ o_ya_1 F (hi z) (lo z) = clipC z := k_ya F _ _ (f_fclip F h)
theorem f_fof (F : Nat) {n : Int} (h : I64 n) : f_sb F n = some (wd n) := by
  unfold f_sb fg_sb
  obtain ⟨h1, h2, h3⟩ := a_Of F h
  refine bp h1 ?_
  rw [h2, h3]; rfl
theorem a_fof (F : Nat) {n : Int} (h : I64 n) : ok_sb F n = true ∧ o_sb_0 F n = hi n ∧ o_sb_1 F n = lo n := k_sb F _ (f_fof F h)

theorem f_fSub (F : Nat) {a b : Int} (ha : I64 a) (hb : I64 b) : f_nb F a b = some (cp (a - b)) := by
  unfold f_nb fg_nb
  dsimp only
  have hs := wi64_I (a - b)
  have e := wi64 (a - b)
  generalize IntKind.wrap .i64 (a - b) = s at *
  have h1 := and_neg (xorI_I a b) (xorI_I a s)
  have h2 := xor_neg ha hb
  have h3 := xor_neg ha hs
  unfold I64 at ha hb hs
  by_cases h : -9223372036854775808 ≤ a - b ∧ a - b < 9223372036854775808
  · refine bp (dt ?_) (some_clip ?_ ?_)
    · have : ¬ andI .i64 (xorI .i64 a b) (xorI .i64 a s) < 0 := by
        rw [h1, h2, h3]; omega
      omega
    · rw [(clip_in h).1]; omega
    · rw [(clip_in h).2]
  · refine bn (df ?_) ?_
    · have : andI .i64 (xorI .i64 a b) (xorI .i64 a s) < 0 := by
        rw [h1, h2, h3]; omega
      omega
    · by_cases ha0 : a < 0
      · refine bp (dt ha0) (some_clip ?_ ?_)
        · unfold clipV; rw [if_pos (by omega)]
        · unfold clipC; exact (dt (by omega)).symm
      · refine bn (df ha0) (some_clip ?_ ?_)
        · unfold clipV; rw [if_neg (by omega), if_pos (by omega)]
        · unfold clipC; exact (dt (by omega)).symm
theorem a_fSub (F : Nat) {a b : Int} (ha : I64 a) (hb : I64 b) : ok_nb F a b = true ∧ o_nb_0 F a b = clipV (a - b) ∧ o_nb_1 F a b = clipC (a - b) := k_nb F _ _ (f_fSub F ha hb)
theorem I0 : I64 0 := by unfold I64; omega
theorem f_fNeg (F : Nat) {a : Int} (ha : I64 a) : f_mb F a = some (cp (-a)) := by
  unfold f_mb fg_mb
  obtain ⟨h1, h2, h3⟩ := a_fSub F I0 ha
  refine bp h1 ?_
  rw [h2, h3, Int.zero_sub]
theorem a_fNeg (F : Nat) {a : Int} (ha : I64 a) : ok_mb F a = true ∧ o_mb_0 F a = clipV (-a) ∧ o_mb_1 F a = clipC (-a) := k_mb F _ (f_fNeg F ha)
theorem f_fMul (F : Nat) {a b : Int} (ha : I64 a) (hb : I64 b) : f_lb F a b = some (cp (near (a * b) 32)) := by
  unfold f_lb fg_lb
  obtain ⟨h1, h2, h3⟩ := a_Mul F ha hb
  obtain ⟨n1, n2, n3⟩ := a_Near F 32 (mul_W ha hb)
  obtain ⟨c1, c2, c3⟩ := a_fclip F (near_W (mul_bd ha hb))
  refine bp h1 ?_
  rw [h2, h3]
  refine bp n1 ?_
  rw [n2, n3, cl32]
  refine bp c1 ?_
  rw [c2, c3]
theorem a_fMul (F : Nat) {a b : Int} (ha : I64 a) (hb : I64 b) : ok_lb F a b = true ∧ o_lb_0 F a b = clipV (near (a * b) 32) ∧ o_lb_1 F a b = clipC (near (a * b) 32) := k_lb F _ _ (f_fMul F ha hb)
theorem p32W {a : Int} (ha : I64 a) : W128 (a * 4294967296) := by unfold I64 at ha; unfold W128; omega
theorem f_fClamp (F : Nat) {a l h : Int} : f_ca F a l h = some (.v (.tuple #[.int .i64 (if h < l then l else min (max a l) h), .bool (if h < l then true else decide (min (max a l) h ≠ a))])) := by
  unfold f_ca fg_ca
  dsimp only
  by_cases hl : h < l
  · refine bp (dt hl) ?_
    rw [if_pos hl, if_pos hl]
  · refine bn (df hl) ?_
    rw [if_neg hl, if_neg hl]
    have e : (if h < (if l > a then l else a) then h else (if l > a then l else a)) = min (max a l) h := by split <;> (try split) <;> omega
    have e2 : (min (max a l) h != a) = decide (min (max a l) h ≠ a) := by rw [Bool.eq_iff_iff]; simp
    rw [e, e2]
end Go.Xv
namespace Go.Xv
theorem angL_get : ∀ i : Nat, i < 30 → isI .i64 [.v (.int .i64 536870912), .v (.int .i64 316933406), .v (.int .i64 167458907), .v (.int .i64 85004756), .v (.int .i64 42667331), .v (.int .i64 21354465), .v (.int .i64 10679838), .v (.int .i64 5340245), .v (.int .i64 2670163), .v (.int .i64 1335087), .v (.int .i64 667544), .v (.int .i64 333772), .v (.int .i64 166886), .v (.int .i64 83443), .v (.int .i64 41722), .v (.int .i64 20861), .v (.int .i64 10430), .v (.int .i64 5215), .v (.int .i64 2608), .v (.int .i64 1304), .v (.int .i64 652), .v (.int .i64 326), .v (.int .i64 163), .v (.int .i64 81), .v (.int .i64 41), .v (.int .i64 20), .v (.int .i64 10), .v (.int .i64 5), .v (.int .i64 3), .v (.int .i64 1)][i]? = true ∧ iv [.v (.int .i64 536870912), .v (.int .i64 316933406), .v (.int .i64 167458907), .v (.int .i64 85004756), .v (.int .i64 42667331), .v (.int .i64 21354465), .v (.int .i64 10679838), .v (.int .i64 5340245), .v (.int .i64 2670163), .v (.int .i64 1335087), .v (.int .i64 667544), .v (.int .i64 333772), .v (.int .i64 166886), .v (.int .i64 83443), .v (.int .i64 41722), .v (.int .i64 20861), .v (.int .i64 10430), .v (.int .i64 5215), .v (.int .i64 2608), .v (.int .i64 1304), .v (.int .i64 652), .v (.int .i64 326), .v (.int .i64 163), .v (.int .i64 81), .v (.int .i64 41), .v (.int .i64 20), .v (.int .i64 10), .v (.int .i64 5), .v (.int .i64 3), .v (.int .i64 1)][i]? = tA i := by decide
theorem zmul1 (i : Nat) : (Int.toNat (i : Int)) * 1 = i := by simp
theorem turnedF (F : Nat) {x y : Int} {i : Nat} (hi : i < 64) (o : Bool) (h1 : I64 (rotX i o x y)) (h2 : I64 (rotY i o x y)) : ok_b F x y i o = true ∧ o_b_0 F x y i o = rotX i o x y ∧ o_b_1 F x y i o = rotY i o x y := by
  refine k_b F _ _ _ _ ?_
  unfold f_b fg_b
  have hd : (!decide ((i : Int) < 0)) = true := nn i
  have hP := p2pos i
  rw [hd, p2min (by omega), fdiv_pos _ (by omega), fdiv_pos _ (by omega)]
  simp only [cond_true]
  unfold rotX rotY at *
  cases o
  · simp only [Bool.false_eq_true, if_false, cond_false] at *
    rw [wi64_in h1, wi64_in h2]
  · simp only [if_true, cond_true] at *
    rw [wi64_in h1, wi64_in h2]
theorem unitF (F : Nat) (x : Int) : ok_na F x = true ∧ o_na_0 F x = cl01 x := by
  refine k_na F _ ?_
  unfold f_na fg_na
  obtain ⟨h1, h2, h3⟩ := k_ca F _ _ _ (f_fClamp F (a := x) (l := 0) (h := 4294967296))
  rw [h1, h2]
  rfl
theorem lp_turn_Both_0 (F : Nat) (ex) {z : Int} (hz : 0 ≤ z ∧ z < 1073741824) (x0 x1 x2 : Int) : ∀ (k n i : Nat) (x3 x34 x35 x36 : Int), i + k = 30 → k < n → x34 = i → x35 = (bS z i).1 → x36 = (bS z i).2.1 → x3 = (bS z i).2.2 →
    L_la_0 F ex n x0 x1 x2 x3 536870912 316933406 167458907 85004756 42667331 21354465 10679838 5340245 2670163 1335087 667544 333772 166886 83443 41722 20861 10430 5215 2608 1304 652 326 163 81 41 20 10 5 3 1 x34 x35 x36 = ex x0 x1 x2 (bS z 30).2.2 536870912 316933406 167458907 85004756 42667331 21354465 10679838 5340245 2670163 1335087 667544 333772 166886 83443 41722 20861 10430 5215 2608 1304 652 326 163 81 41 20 10 5 3 1 30 (bS z 30).1 (bS z 30).2.1
  | _, 0, _, _, _, _, _, _, h, _, _, _, _ => absurd h (by omega)
  | 0, n + 1, i, _, _, _, _, h, _, rfl, rfl, rfl, rfl => by
    obtain rfl : i = 30 := by omega
    rw [L_la_0]
    unfold B_la_0 Bg_la_0
    exact bn (df (by omega)) rfl
  | k + 1, n + 1, i, _, _, _, _, h, hn, rfl, rfl, rfl, rfl => by
    have hi' : i < 30 := by omega
    obtain ⟨g1, g2⟩ := angL_get i hi'
    have b1 := bS_I z (i := i + 1) (by omega)
    have b2 := bS_z hz (i := i) (by omega)
    have b3 := tA_bd i hi'
    obtain ⟨t1, t2, t3⟩ := turnedF F (x := (bS z i).1) (y := (bS z i).2.1) (i := i) (by omega) (decide (0 ≤ (bS z i).2.2)) (by simp only [bS] at b1; unfold I64; omega) (by simp only [bS] at b1; unfold I64; omega)
    rw [L_la_0]
    unfold B_la_0 Bg_la_0
    refine bp (dt (by omega)) (bp (by rw [zmul1, g1, show ((decide (0 ≤ (i : Int))) && (decide ((i : Int) < 30))) = true from ix_ok i 30 hi']; rfl) ?_)
    rw [zmul1, g2]
    have eg : decide ((bS z i).2.2 ≥ 0) = decide (0 ≤ (bS z i).2.2) := rfl
    rw [eg]
    refine bp t1 ?_
    rw [t2, t3]
    have w1 : IntKind.wrap .i64 ((i : Int) + 1) = ((i + 1 : Nat) : Int) := wi64_s i (by omega)
    rw [w1]
    by_cases hs : 0 ≤ (bS z i).2.2
    · refine bp (dt hs) ?_
      refine lp_turn_Both_0 F ex hz x0 x1 x2 k n (i + 1) _ _ _ _ (by omega) (by omega) rfl rfl rfl ?_
      simp only [bS]
      rw [if_pos hs, wi64_in (x := 0 - tA i) (by unfold I64; omega), wi64_in (by unfold I64; omega)]
      omega
    · refine bn (df hs) ?_
      refine lp_turn_Both_0 F ex hz x0 x1 x2 k n (i + 1) _ _ _ _ (by omega) (by omega) rfl rfl rfl ?_
      simp only [bS]
      rw [if_neg hs, wi64_in (by unfold I64; omega)]
theorem mask30_u32 {a : Int} (ha : U32 a) : andI .u32 a 1073741823 = a % 1073741824 := by
  have e : andI .u32 a 1073741823 = IntKind.wrap .u32 ((BitVec.ofInt 32 a &&& BitVec.ofInt 32 1073741823).toNat : Int) := rfl
  unfold U32 at ha
  have h1 : (BitVec.ofInt 32 a).toNat = a.toNat := by simp only [BitVec.toNat_ofInt]; omega
  have h2 : (BitVec.ofInt 32 1073741823).toNat = 2 ^ 30 - 1 := by decide
  rw [e, BitVec.toNat_and, h1, h2, Nat.and_two_pow_sub_one_eq_mod, wu32]
  omega
theorem angF (F : Nat) : ok_l F = true ∧ o_l_0 F = 536870912 ∧ o_l_1 F = 316933406 ∧ o_l_2 F = 167458907 ∧ o_l_3 F = 85004756 ∧ o_l_4 F = 42667331 ∧ o_l_5 F = 21354465 ∧ o_l_6 F = 10679838 ∧ o_l_7 F = 5340245 ∧ o_l_8 F = 2670163 ∧ o_l_9 F = 1335087 ∧ o_l_10 F = 667544 ∧ o_l_11 F = 333772 ∧ o_l_12 F = 166886 ∧ o_l_13 F = 83443 ∧ o_l_14 F = 41722 ∧ o_l_15 F = 20861 ∧ o_l_16 F = 10430 ∧ o_l_17 F = 5215 ∧ o_l_18 F = 2608 ∧ o_l_19 F = 1304 ∧ o_l_20 F = 652 ∧ o_l_21 F = 326 ∧ o_l_22 F = 163 ∧ o_l_23 F = 81 ∧ o_l_24 F = 41 ∧ o_l_25 F = 20 ∧ o_l_26 F = 10 ∧ o_l_27 F = 5 ∧ o_l_28 F = 3 ∧ o_l_29 F = 1 := k_l F rfl
theorem some_two {a b c d : Int} (h : a = c) (k : b = d) : (some (VV.v (.tuple #[.int .i64 a, .int .i64 b])) : R) = some (.v (.tuple #[.int .i64 c, .int .i64 d])) := by rw [h, k]
theorem f_tBoth (F : Nat) (hF : 200 ≤ F) {a : Int} (ha : U32 a) : f_la F a = some (.v (.tuple #[.int .i64 (bothC a), .int .i64 (bothS a)])) := by
  unfold f_la fg_la
  obtain ⟨h0, e0, e1, e2, e3, e4, e5, e6, e7, e8, e9, e10, e11, e12, e13, e14, e15, e16, e17, e18, e19, e20, e21, e22, e23, e24, e25, e26, e27, e28, e29⟩ := angF F
  refine bp h0 ?_
  rw [e0, e1, e2, e3, e4, e5, e6, e7, e8, e9, e10, e11, e12, e13, e14, e15, e16, e17, e18, e19, e20, e21, e22, e23, e24, e25, e26, e27, e28, e29, mask30_u32 ha]
  have hz : 0 ≤ a % 1073741824 ∧ a % 1073741824 < 1073741824 := by omega
  rw [wi64_in (x := a % 1073741824) (by unfold I64; omega), lp_turn_Both_0 F _ hz a 0 0 30 F 0 (a % 1073741824) 0 2608131496 0 (by omega) (by omega) rfl rfl rfl rfl]
  obtain ⟨u1, u2⟩ := unitF F (bS (a % 1073741824) 30).1
  obtain ⟨v1, v2⟩ := unitF F (bS (a % 1073741824) 30).2.1
  refine bp u1 (bp v1 ?_)
  rw [u2, v2]
  obtain ⟨F, rfl⟩ : ∃ G, F = G + 4 := ⟨F - 4, by omega⟩
  have c1 := cl01_bd (bS (a % 1073741824) 30).1
  have c2 := cl01_bd (bS (a % 1073741824) 30).2.1
  unfold U32 at ha
  have w0 : IntKind.wrap .u32 (0 + 1) = 1 := by rw [wu32]; omega
  have w1 : IntKind.wrap .u32 (1 + 1) = 2 := by rw [wu32]; omega
  have w2 : IntKind.wrap .u32 (2 + 1) = 3 := by rw [wu32]; omega
  have eC : cl01 (bS (a % 1073741824) 30).1 = bC a := rfl
  have eN : cl01 (bS (a % 1073741824) 30).2.1 = bN a := rfl
  rw [eC] at c1 ⊢
  rw [eN] at c2 ⊢
  rw [fdiv_pos _ (by decide)]
  have n1 : IntKind.wrap .i64 (0 - bN a) = -bN a := by rw [wi64_in (by unfold I64; omega)]; omega
  have n2 : IntKind.wrap .i64 (0 - bC a) = -bC a := by rw [wi64_in (by unfold I64; omega)]; omega
  have n3 : IntKind.wrap .i64 (0 - -bN a) = bN a := by rw [wi64_in (by unfold I64; omega)]; omega
  unfold bothC bothS
  rw [L_la_1]
  unfold B_la_1 Bg_la_1
  by_cases q0 : a / 1073741824 = 0
  · refine bn (df (by omega)) (some_two ?_ ?_) <;> rw [if_pos q0]
  · refine bp (dt (by omega)) ?_
    rw [w0, n1, L_la_1]
    unfold B_la_1 Bg_la_1
    by_cases q1 : a / 1073741824 = 1
    · refine bn (df (by omega)) (some_two ?_ ?_) <;> rw [if_neg q0, if_pos q1]
    · refine bp (dt (by omega)) ?_
      rw [w1, n2, L_la_1]
      unfold B_la_1 Bg_la_1
      by_cases q2 : a / 1073741824 = 2
      · refine bn (df (by omega)) (some_two ?_ ?_) <;> rw [if_neg q0, if_neg q1, if_pos q2]
      · refine bp (dt (by omega)) ?_
        rw [w2, n3, L_la_1]
        unfold B_la_1 Bg_la_1
        refine bn (df (by omega)) (some_two ?_ ?_) <;> rw [if_neg q0, if_neg q1, if_neg q2]
theorem a_tBoth (F : Nat) (hF : 200 ≤ F) {a : Int} (ha : U32 a) : ok_la F a = true ∧ o_la_0 F a = bothC a ∧ o_la_1 F a = bothS a := k_la F _ (f_tBoth F hF ha)
theorem I64_half {x : Int} (h : I64 x) (i : Nat) : I64 (x / 2 ^ i) := by
  unfold I64 at *
  have := ediv_bd (y := x) (B := 9223372036854775808) (by omega) i
  refine ⟨by omega, ?_⟩
  have hP := p2pos i
  rcases Int.lt_or_le x 0 with hn | hn
  · have := Int.ediv_neg_of_neg_of_pos hn hP; omega
  · have := Int.ediv_le_self (2 ^ i) hn; omega
end Go.Xv
namespace Go.Xv
theorem sq_lt {x y : Int} (hx : 0 ≤ x) (h : x < y) : x * x < y * y := by
  have h1 : x * x ≤ x * y := Int.mul_le_mul_of_nonneg_left (by omega) hx
  have h2 : x * y < y * y := Int.mul_lt_mul_of_pos_right h (by omega)
  omega
theorem sq_le {x y : Int} (hx : 0 ≤ x) (h : x ≤ y) : x * x ≤ y * y := by
  rcases Int.lt_or_eq_of_le h with h | rfl
  · exact Int.le_of_lt (sq_lt hx h)
  · exact Int.le_refl _
/-- There is a root. -/
theorem root_ex (z : Int) (hz : 0 ≤ z) : ∃ x : Int, 0 ≤ x ∧ x * x ≤ z ∧ z < (x + 1) * (x + 1) := by
  obtain ⟨n, rfl⟩ := Int.eq_ofNat_of_zero_le hz
  induction n with
  | zero => exact ⟨0, by omega, by omega, by omega⟩
  | succ n ih =>
    obtain ⟨x, h1, h2, h3⟩ := ih (by omega)
    by_cases h : (x + 1) * (x + 1) ≤ ((n + 1 : Nat) : Int)
    · refine ⟨x + 1, by omega, h, ?_⟩
      have := sq_lt (x := x + 1) (y := x + 1 + 1) (by omega) (by omega)
      push_cast
      omega
    · refine ⟨x, h1, ?_, by omega⟩
      push_cast
      omega
noncomputable def rt (z : Int) : Int := if h : 0 ≤ z then Classical.choose (root_ex z h) else 0
theorem rt_spec {z : Int} (h : 0 ≤ z) : 0 ≤ rt z ∧ rt z * rt z ≤ z ∧ z < (rt z + 1) * (rt z + 1) := by
  unfold rt
  rw [dif_pos h]
  exact Classical.choose_spec (root_ex z h)
/-- a number is not beyond the root just if its square is not above -/
theorem rt_le {z y : Int} (hz : 0 ≤ z) (hy : 0 ≤ y) : y ≤ rt z ↔ y * y ≤ z := by
  obtain ⟨h3, h4, h5⟩ := rt_spec hz
  constructor
  · intro h
    have := sq_le hy h
    omega
  · intro h
    rcases Int.lt_or_le (rt z) y with hlt | hle
    · have := sq_le (x := rt z + 1) (y := y) (by omega) (by omega); omega
    · exact hle
/-- the root's upper bits -/
theorem top_step {r P : Int} (hr : 0 ≤ r) (hP : 0 < P) : (r / (2 * P) * (2 * P) + P ≤ r → r / P * P = r / (2 * P) * (2 * P) + P) ∧ (¬ r / (2 * P) * (2 * P) + P ≤ r → r / P * P = r / (2 * P) * (2 * P)) := by
  have e : r / (2 * P) = r / P / 2 := by rw [Int.mul_comm, Int.ediv_ediv_of_nonneg (by omega)]
  have hd := Int.mul_ediv_add_emod r P
  have h2 := Int.emod_nonneg r (show P ≠ 0 by omega)
  have h3 := Int.emod_lt_of_pos r hP
  rw [e]
  generalize r / P = q at *
  have hq : 0 ≤ q ∨ q < 0 := by omega
  have e1 : q / 2 * (2 * P) = 2 * (q / 2) * P := by simp only [Int.mul_comm, Int.mul_left_comm]
  rw [e1]
  rcases (show q = 2 * (q / 2) ∨ q = 2 * (q / 2) + 1 by omega) with h | h
  · rw [← h]
    constructor
    · intro hx
      rw [Int.mul_comm q P] at hx; omega
    · intro _; rfl
  · have e2 : q * P = 2 * (q / 2) * P + P := by
      have : q * P = (2 * (q / 2) + 1) * P := by rw [← h]
      rw [this, Int.add_mul, Int.one_mul]
    rw [← e2]
    constructor
    · intro _; rfl
    · intro hx
      rw [Int.mul_comm q P] at hx; omega
end Go.Xv
namespace Go.Xv
theorem f_Square (F : Nat) {n : Int} (hn : U64 n) : f_k F n = some (wd (n * n)) := by
  unfold f_k fg_k
  dsimp only
  unfold U64 at hn
  rw [fdiv_pos _ (by decide), mask32_u64 hn]
  have en : n = n / 4294967296 * 4294967296 + n % 4294967296 := by omega
  have hp : 0 ≤ n / 4294967296 ∧ n / 4294967296 ≤ 4294967295 := by omega
  have hq : 0 ≤ n % 4294967296 ∧ n % 4294967296 ≤ 4294967295 := by omega
  have bd : ∀ x y : Int, (0 ≤ x ∧ x ≤ 4294967295) → (0 ≤ y ∧ y ≤ 4294967295) → 0 ≤ x * y ∧ x * y ≤ 18446744065119617025 := by
    intro x y hx hy
    have h1 := Int.mul_nonneg hx.1 hy.1
    have h2 : x * y ≤ 4294967295 * 4294967295 := Int.mul_le_mul hx.2 hy.2 hy.1 (by decide)
    exact ⟨h1, by simpa using h2⟩
  have b1 := bd _ _ hp hp
  have b2 := bd _ _ hq hq
  have b3 := bd _ _ hp hq
  have hnn : n * n = (n / 4294967296) * (n / 4294967296) * 18446744073709551616 + (n / 4294967296) * (n % 4294967296) * 8589934592 + (n % 4294967296) * (n % 4294967296) := by
    generalize n / 4294967296 = p at *
    generalize n % 4294967296 = q at *
    subst en
    simp only [Int.add_mul, Int.mul_add]
    have : p * 4294967296 * (p * 4294967296) = p * p * 18446744073709551616 := by
      rw [show (18446744073709551616 : Int) = 4294967296 * 4294967296 by decide]
      simp only [Int.mul_comm, Int.mul_assoc, Int.mul_left_comm]
    have : p * 4294967296 * q = p * q * 4294967296 := by simp only [Int.mul_comm, Int.mul_assoc, Int.mul_left_comm]
    have : q * (p * 4294967296) = p * q * 4294967296 := by simp only [Int.mul_comm, Int.mul_assoc, Int.mul_left_comm]
    omega
  rw [hnn]
  generalize n / 4294967296 * (n / 4294967296) = pp at *
  generalize n / 4294967296 * (n % 4294967296) = pq at *
  generalize n % 4294967296 * (n % 4294967296) = qq at *
  rw [wu64_in (x := pp) (by unfold U64; omega), wu64_in (x := qq) (by unfold U64; omega), wu64_in (x := pq) (by unfold U64; omega)]
  obtain ⟨l1, l2, l3⟩ := k_sa F _ _ 33 (f_Left F (a := 0) (b := pq) (n := 33) (by unfold U64; omega))
  rw [show ((33 : Int).toNat) = 33 from rfl, show (2 : Int) ^ 33 = 8589934592 by decide] at l2 l3
  refine bp l1 ?_
  rw [l2, l3]
  obtain ⟨s1, s2, s3⟩ := k_fb F _ _ _ _ (f_Add F (a := IntKind.wrap .i64 pp) (b := qq) (c := hi (val 0 pq * 8589934592)) (by unfold U64; omega) (lo_U (val 0 pq * 8589934592)))
  refine bp s1 ?_
  rw [s2, s3]
  have e : Eqv (val (IntKind.wrap .i64 pp) qq + val (hi (val 0 pq * 8589934592)) (lo (val 0 pq * 8589934592))) (pp * 18446744073709551616 + pq * 8589934592 + qq) := by
    rw [val_hl]
    refine ((Eqv.rfl (x := val (IntKind.wrap .i64 pp) qq)).add (W_eqv _)).trans ?_
    rw [wi64]
    unfold Eqv val; omega
  exact some_wd (hi_eqv e) (lo_eqv e)
theorem a_Square (F : Nat) {n : Int} (hn : U64 n) : ok_k F n = true ∧ o_k_0 F n = hi (n * n) ∧ o_k_1 F n = lo (n * n) := k_k F _ (f_Square F hn)
theorem rt_bd {z : Int} (h : 0 ≤ z) (h2 : z < 170141183460469231731687303715884105728) : 0 ≤ rt z ∧ rt z ≤ 13043817825332782212 := by
  obtain ⟨h3, h4, h5⟩ := rt_spec h
  refine ⟨h3, ?_⟩
  rcases Int.lt_or_le 13043817825332782212 (rt z) with hlt | hle
  · have := sq_le (x := 13043817825332782213) (y := rt z) (by omega) (by omega)
    have e : (13043817825332782213 : Int) * 13043817825332782213 = 170141183460469231748655437451289177369 := by decide
    omega
  · exact hle
theorem sq_bd {y : Int} (h : 0 ≤ y) (h2 : y < 18446744073709551616) : 0 ≤ y * y ∧ y * y < 340282366920938463463374607431768211456 := by
  have h1 := Int.mul_nonneg h h
  have := sq_le h (show y ≤ 18446744073709551615 by omega)
  have e : (18446744073709551615 : Int) * 18446744073709551615 = 340282366920938463426481119284349108225 := by decide
  omega
theorem lp_rootWide_0 (F : Nat) (ex) {a b : Int} (ha : I64 a) (hb : U64 b) (hz : 0 ≤ val a b) (x0 x1 x2 : Int) (x3 : Bool) : ∀ (k n i : Nat) (x4 x5 : Int), i + k = 64 → k < n → x4 = rt (val a b) / 2 ^ k * 2 ^ k → x5 = i →
    L_ka_0 F ex n x0 x1 x2 x3 x4 x5 a b = ex x0 x1 x2 x3 (rt (val a b)) 64 a b
  | _, 0, _, _, _, _, h, _, _ => absurd h (by omega)
  | 0, n + 1, i, _, _, h, _, rfl, rfl => by
    obtain rfl : i = 64 := by omega
    rw [L_ka_0]
    unfold B_ka_0 Bg_ka_0
    refine bn (df (by omega)) ?_
    rw [Int.pow_zero, Int.ediv_one, Int.mul_one]; rfl
  | k + 1, n + 1, i, _, _, h, hn, rfl, rfl => by
    have hW := val_W ha hb
    unfold W128 at hW
    obtain ⟨r1, r2⟩ := rt_bd hz hW.2
    have ih := lp_rootWide_0 F ex ha hb hz x0 x1 x2 x3 k n (i + 1)
    rw [L_ka_0]
    unfold B_ka_0 Bg_ka_0
    dsimp only
    have hi63 : IntKind.wrap .i64 (63 - (i : Int)) = ((k : Nat) : Int) := by rw [wi64_in (by unfold I64; omega)]; omega
    have hP := p2pos k
    have hPb : (2 : Int) ^ k ≤ 9223372036854775808 := by
      have := p2mono (a := k) (b := 63) (by omega)
      simpa using this
    rw [hi63, p2min (by omega), Int.one_mul, wu64_in (x := 2 ^ k) (by unfold U64; omega)]
    obtain ⟨t1, t2⟩ := top_step (r := rt (val a b)) (P := 2 ^ k) r1 hP
    rw [show (2 : Int) * 2 ^ k = 2 ^ (k + 1) by rw [Int.pow_succ, Int.mul_comm]] at t1 t2
    have hq := Int.ediv_nonneg r1 (Int.le_of_lt (p2pos (k + 1)))
    have hqr : rt (val a b) / 2 ^ (k + 1) * 2 ^ (k + 1) ≤ rt (val a b) := Int.ediv_mul_le _ (by have := p2pos (k + 1); omega)
    have hq0 := Int.mul_nonneg hq (Int.le_of_lt (p2pos (k + 1)))
    have eor : orI .u64 (rt (val a b) / 2 ^ (k + 1) * 2 ^ (k + 1)) (2 ^ k) = rt (val a b) / 2 ^ (k + 1) * 2 ^ (k + 1) + 2 ^ k := by
      have h1 := or_add_u64 (k + 1) (a := rt (val a b) / 2 ^ (k + 1)) (b := 2 ^ k) hq (by omega)
      rw [p2cast (k + 1)] at h1
      refine h1 ?_ ?_
      · rw [Int.pow_succ]; omega
      · by_cases hk : k = 63
        · subst hk
          have : rt (val a b) / 2 ^ (63 + 1) = 0 := Int.ediv_eq_zero_of_lt r1 (by rw [show (2 : Int) ^ (63 + 1) = 18446744073709551616 by decide]; omega)
          rw [this]
          decide
        · have := p2mono (a := k) (b := 62) (by omega)
          rw [show (2 : Int) ^ 62 = 4611686018427387904 by decide] at this
          omega
    rw [eor]
    have hyU : U64 (rt (val a b) / 2 ^ (k + 1) * 2 ^ (k + 1) + 2 ^ k) := by
      have hw := orI .u64 (rt (val a b) / 2 ^ (k + 1) * 2 ^ (k + 1)) (2 ^ k)
      rw [← eor, or_u64_bv]
      exact wu64_U _
    generalize hx : rt (val a b) / 2 ^ (k + 1) * 2 ^ (k + 1) = x at *
    obtain ⟨s1, s2, s3⟩ := a_Square F hyU
    have hle := rt_le (z := val a b) (y := x + 2 ^ k) hz (by omega)
    unfold U64 at hyU
    obtain ⟨b1, b2⟩ := sq_bd hyU.1 hyU.2
    have w5 : IntKind.wrap .i64 ((i : Int) + 1) = ((i + 1 : Nat) : Int) := wi64_s i (by omega)
    refine bp (dt (by omega)) (bp (nn k) (bp s1 ?_))
    rw [s2, s3]
    generalize hs : (x + 2 ^ k) * (x + 2 ^ k) = s at *
    by_cases hhi : hi s ≥ 0
    · have hs127 : s < 170141183460469231731687303715884105728 := by unfold hi at hhi; omega
      obtain ⟨l1, l2⟩ := k_ta F _ _ _ _ (f_Less F (a := a) (c := hi s) hb (lo_U s))
      rw [val_hl, W_in (by unfold W128; omega)] at l2
      refine bp (dt hhi) (bp l1 ?_)
      rw [l2]
      by_cases hc : val a b < s
      · refine bn (by rw [dt hc]; rfl) ?_
        exact ih _ _ (by omega) (by omega) (t2 (fun h => by have := hle.1 h; omega)).symm w5
      · refine bp (by rw [df hc]; rfl) ?_
        exact ih _ _ (by omega) (by omega) (t1 (hle.2 (by omega))).symm w5
    · have hs127 : 170141183460469231731687303715884105728 ≤ s := by unfold hi at hhi; omega
      refine bn (df hhi) ?_
      exact ih _ _ (by omega) (by omega) (t2 (fun h => by have := hle.1 h; omega)).symm w5
/-- what the root of a wide number answers -/
noncomputable def rootR (z : Int) : Value := if z < 0 then .tuple #[.int .u64 0, .bool false] else .tuple #[.int .u64 (rt z), .bool true]
theorem f_rootWide (F : Nat) (hF : 200 ≤ F) {a b : Int} (ha : I64 a) (hb : U64 b) : f_ka F a b = some (.v (rootR (val a b))) := by
  unfold f_ka fg_ka rootR
  have hn := val_neg (a := a) hb
  by_cases h : a < 0
  · refine bp (dt h) ?_
    rw [if_pos (hn.2 h)]
  · have hz : 0 ≤ val a b := by
      rcases Int.lt_or_le (val a b) 0 with h2 | h2
      · exact absurd (hn.1 h2) h
      · exact h2
    refine bn (df h) ?_
    rw [if_neg (by omega)]
    have hW := val_W ha hb
    unfold W128 at hW
    obtain ⟨r1, r2⟩ := rt_bd hz hW.2
    rw [lp_rootWide_0 F _ ha hb hz a b 0 false 64 F 0 0 0 (by omega) (by omega) ?_ rfl]
    rw [Int.ediv_eq_zero_of_lt r1 (by rw [show (2 : Int) ^ 64 = 18446744073709551616 by decide]; omega)]; simp
end Go.Xv
namespace Go.Xv
theorem some_u32 {a b : Int} (h : a = b) : (some (VV.v (.int .u32 a)) : R) = some (.v (.int .u32 b)) := by rw [h]
end Go.Xv
namespace Go.Xv
theorem tdiv_W {z b : Int} (hz : -170141183460469231731687303715884105728 < z ∧ z < 170141183460469231731687303715884105728) : W128 (Int.tdiv z b) := by
  have h : (Int.tdiv z b).natAbs ≤ z.natAbs := by
    rw [Int.natAbs_tdiv]
    exact Nat.div_le_self _ _
  unfold W128; omega
/-- a quotient of numbers with a point -/
def fdivV (a b : Int) : Int := if b = 0 then (if 0 < a then 9223372036854775807 else if a < 0 then -9223372036854775808 else 0) else clipV (Int.tdiv (a * 4294967296) b)
def fdivC (a b : Int) : Bool := if b = 0 then true else clipC (Int.tdiv (a * 4294967296) b)
theorem p32b {a : Int} (ha : I64 a) : -170141183460469231731687303715884105728 < a * 4294967296 ∧ a * 4294967296 < 170141183460469231731687303715884105728 := by unfold I64 at ha; omega
theorem f_fDiv (F : Nat) (hF : 200 ≤ F) {a b : Int} (ha : I64 a) (hb : I64 b) : f_kb F a b = some (.v (.tuple #[.int .i64 (fdivV a b), .bool (fdivC a b)])) := by
  unfold f_kb fg_kb
  obtain ⟨h1, h2, h3⟩ := a_fof F ha
  obtain ⟨n1, n2, n3⟩ := a_Left F a 32
  rw [show ((32 : Int).toNat) = 32 from rfl, show (2 : Int) ^ 32 = 4294967296 by decide] at n2 n3
  have hd := f_Div F hF (hi_I (a * 4294967296)) (lo_U (a * 4294967296)) hb
  rw [val_hl, W_in (p32W ha)] at hd
  unfold divR at hd
  refine bp h1 ?_
  rw [h2, h3]
  refine bp n1 ?_
  rw [n2, n3]
  unfold fdivV fdivC
  by_cases h : b = 0
  · rw [if_pos h] at hd
    obtain ⟨d1, d2, d3, d4, d5⟩ := k_gb F _ _ _ hd
    refine bp d1 (bn d5 ?_)
    rw [if_pos h, if_pos h]
    by_cases h1 : 0 < a
    · refine bp (dt h1) ?_
      rw [if_pos h1]
    · refine bn (df h1) ?_
      rw [if_neg h1]
      by_cases h2 : a < 0
      · refine bp (dt h2) ?_
        rw [if_pos h2]
      · refine bn (df h2) ?_
        rw [if_neg h2]
  · rw [if_neg h] at hd
    obtain ⟨d1, d2, d3, d4, d5⟩ := k_gb F _ _ _ hd
    obtain ⟨c1, c2, c3⟩ := a_fclip F (tdiv_W (b := b) (p32b ha))
    refine bp d1 (bp d5 ?_)
    rw [d2, d3]
    refine bp c1 ?_
    rw [c2, c3, if_neg h, if_neg h]
end Go.Xv
namespace Go.Xv
theorem f_vec_eachv1' (F : Nat) (hF : 200 ≤ F) {a0 a1 a2 a3 a4 a5 : Int} {v0 v1 v2 : Int} {c0 c1 c2 : Bool} (h0 : ok_m F 0 a0 a1 a2 a3 a4 a5 = true ∧ o_m_0 F 0 a0 a1 a2 a3 a4 a5 = v0 ∧ o_m_1 F 0 a0 a1 a2 a3 a4 a5 = c0) (h1 : ok_m F 1 a0 a1 a2 a3 a4 a5 = true ∧ o_m_0 F 1 a0 a1 a2 a3 a4 a5 = v1 ∧ o_m_1 F 1 a0 a1 a2 a3 a4 a5 = c1) (h2 : ok_m F 2 a0 a1 a2 a3 a4 a5 = true ∧ o_m_0 F 2 a0 a1 a2 a3 a4 a5 = v2 ∧ o_m_1 F 2 a0 a1 a2 a3 a4 a5 = c2) :
    f_x F a0 a1 a2 a3 a4 a5 = some (.v (.tuple #[.agg #[.int .i64 v0, .int .i64 v1, .int .i64 v2], .bool (c0 || c1 || c2)])) := by
  obtain ⟨a1, a2, a3⟩ := h0
  obtain ⟨b1, b2, b3⟩ := h1
  obtain ⟨d1, d2, d3⟩ := h2
  obtain ⟨G, hG⟩ : ∃ G, F = G + 4 := ⟨F - 4, by omega⟩
  have w1 : IntKind.wrap .i64 (0 + 1) = 1 := by decide
  have w2 : IntKind.wrap .i64 (1 + 1) = 2 := by decide
  have w3 : IntKind.wrap .i64 (2 + 1) = 3 := by decide
  unfold f_x fg_x
  rw [show L_x_0 F _ F = L_x_0 F _ (G + 4) from congrArg (L_x_0 F _) hG, L_x_0]
  unfold B_x_0 Bg_x_0
  refine bp rfl (bp a1 (bn rfl (bp rfl (bp rfl ?_))))
  rw [a2, a3, w1, L_x_0]
  unfold B_x_0 Bg_x_0
  refine bp rfl (bp b1 ?_)
  rw [b2, b3, w2]
  cases c0
  · refine bn rfl (bp rfl (bp rfl ?_))
    rw [L_x_0]
    unfold B_x_0 Bg_x_0
    refine bp rfl (bp d1 ?_)
    rw [d2, d3, w3]
    cases c1
    · refine bn rfl (bp rfl (bp rfl ?_))
      rw [L_x_0]
      unfold B_x_0 Bg_x_0
      exact bn rfl (bp rfl rfl)
    · refine bp rfl (bp rfl (bp rfl ?_))
      rw [L_x_0]
      unfold B_x_0 Bg_x_0
      exact bn rfl (bp rfl rfl)
  · refine bp rfl (bp rfl (bp rfl ?_))
    rw [L_x_0]
    unfold B_x_0 Bg_x_0
    refine bp rfl (bp d1 ?_)
    rw [d2, w3]
    refine bp rfl (bp rfl (bp rfl ?_))
    rw [L_x_0]
    unfold B_x_0 Bg_x_0
    exact bn rfl (bp rfl (by rw [Bool.true_or, Bool.true_or]; rfl))
theorem f_vec_eachv2' (F : Nat) (hF : 200 ≤ F) {a0 a1 a2 a3 : Int} {v0 v1 v2 : Int} {c0 c1 c2 : Bool} (h0 : ok_w F 0 a0 a1 a2 a3 = true ∧ o_w_0 F 0 a0 a1 a2 a3 = v0 ∧ o_w_1 F 0 a0 a1 a2 a3 = c0) (h1 : ok_w F 1 a0 a1 a2 a3 = true ∧ o_w_0 F 1 a0 a1 a2 a3 = v1 ∧ o_w_1 F 1 a0 a1 a2 a3 = c1) (h2 : ok_w F 2 a0 a1 a2 a3 = true ∧ o_w_0 F 2 a0 a1 a2 a3 = v2 ∧ o_w_1 F 2 a0 a1 a2 a3 = c2) :
    f_y F a0 a1 a2 a3 = some (.v (.tuple #[.agg #[.int .i64 v0, .int .i64 v1, .int .i64 v2], .bool (c0 || c1 || c2)])) := by
  obtain ⟨a1, a2, a3⟩ := h0
  obtain ⟨b1, b2, b3⟩ := h1
  obtain ⟨d1, d2, d3⟩ := h2
  obtain ⟨G, hG⟩ : ∃ G, F = G + 4 := ⟨F - 4, by omega⟩
  have w1 : IntKind.wrap .i64 (0 + 1) = 1 := by decide
  have w2 : IntKind.wrap .i64 (1 + 1) = 2 := by decide
  have w3 : IntKind.wrap .i64 (2 + 1) = 3 := by decide
  unfold f_y fg_y
  rw [show L_y_0 F _ F = L_y_0 F _ (G + 4) from congrArg (L_y_0 F _) hG, L_y_0]
  unfold B_y_0 Bg_y_0
  refine bp rfl (bp a1 (bn rfl (bp rfl (bp rfl ?_))))
  rw [a2, a3, w1, L_y_0]
  unfold B_y_0 Bg_y_0
  refine bp rfl (bp b1 ?_)
  rw [b2, b3, w2]
  cases c0
  · refine bn rfl (bp rfl (bp rfl ?_))
    rw [L_y_0]
    unfold B_y_0 Bg_y_0
    refine bp rfl (bp d1 ?_)
    rw [d2, d3, w3]
    cases c1
    · refine bn rfl (bp rfl (bp rfl ?_))
      rw [L_y_0]
      unfold B_y_0 Bg_y_0
      exact bn rfl (bp rfl rfl)
    · refine bp rfl (bp rfl (bp rfl ?_))
      rw [L_y_0]
      unfold B_y_0 Bg_y_0
      exact bn rfl (bp rfl rfl)
  · refine bp rfl (bp rfl (bp rfl ?_))
    rw [L_y_0]
    unfold B_y_0 Bg_y_0
    refine bp rfl (bp d1 ?_)
    rw [d2, w3]
    refine bp rfl (bp rfl (bp rfl ?_))
    rw [L_y_0]
    unfold B_y_0 Bg_y_0
    exact bn rfl (bp rfl (by rw [Bool.true_or, Bool.true_or]; rfl))
theorem f_vec_eachv3' (F : Nat) (hF : 200 ≤ F) {a0 a1 a2 a3 a4 a5 : Int} {v0 v1 v2 : Int} {c0 c1 c2 : Bool} (h0 : ok_qa F 0 a0 a1 a2 a3 a4 a5 = true ∧ o_qa_0 F 0 a0 a1 a2 a3 a4 a5 = v0 ∧ o_qa_1 F 0 a0 a1 a2 a3 a4 a5 = c0) (h1 : ok_qa F 1 a0 a1 a2 a3 a4 a5 = true ∧ o_qa_0 F 1 a0 a1 a2 a3 a4 a5 = v1 ∧ o_qa_1 F 1 a0 a1 a2 a3 a4 a5 = c1) (h2 : ok_qa F 2 a0 a1 a2 a3 a4 a5 = true ∧ o_qa_0 F 2 a0 a1 a2 a3 a4 a5 = v2 ∧ o_qa_1 F 2 a0 a1 a2 a3 a4 a5 = c2) :
    f_z F a0 a1 a2 a3 a4 a5 = some (.v (.tuple #[.agg #[.int .i64 v0, .int .i64 v1, .int .i64 v2], .bool (c0 || c1 || c2)])) := by
  obtain ⟨a1, a2, a3⟩ := h0
  obtain ⟨b1, b2, b3⟩ := h1
  obtain ⟨d1, d2, d3⟩ := h2
  obtain ⟨G, hG⟩ : ∃ G, F = G + 4 := ⟨F - 4, by omega⟩
  have w1 : IntKind.wrap .i64 (0 + 1) = 1 := by decide
  have w2 : IntKind.wrap .i64 (1 + 1) = 2 := by decide
  have w3 : IntKind.wrap .i64 (2 + 1) = 3 := by decide
  unfold f_z fg_z
  rw [show L_z_0 F _ F = L_z_0 F _ (G + 4) from congrArg (L_z_0 F _) hG, L_z_0]
  unfold B_z_0 Bg_z_0
  refine bp rfl (bp a1 (bn rfl (bp rfl (bp rfl ?_))))
  rw [a2, a3, w1, L_z_0]
  unfold B_z_0 Bg_z_0
  refine bp rfl (bp b1 ?_)
  rw [b2, b3, w2]
  cases c0
  · refine bn rfl (bp rfl (bp rfl ?_))
    rw [L_z_0]
    unfold B_z_0 Bg_z_0
    refine bp rfl (bp d1 ?_)
    rw [d2, d3, w3]
    cases c1
    · refine bn rfl (bp rfl (bp rfl ?_))
      rw [L_z_0]
      unfold B_z_0 Bg_z_0
      exact bn rfl (bp rfl rfl)
    · refine bp rfl (bp rfl (bp rfl ?_))
      rw [L_z_0]
      unfold B_z_0 Bg_z_0
      exact bn rfl (bp rfl rfl)
  · refine bp rfl (bp rfl (bp rfl ?_))
    rw [L_z_0]
    unfold B_z_0 Bg_z_0
    refine bp rfl (bp d1 ?_)
    rw [d2, w3]
    refine bp rfl (bp rfl (bp rfl ?_))
    rw [L_z_0]
    unfold B_z_0 Bg_z_0
    exact bn rfl (bp rfl (by rw [Bool.true_or, Bool.true_or]; rfl))
theorem f_vec_eachv4' (F : Nat) (hF : 200 ≤ F) {a0 a1 a2 a3 : Int} {v0 v1 v2 : Int} {c0 c1 c2 : Bool} (h0 : ok_n F 0 a0 a1 a2 a3 = true ∧ o_n_0 F 0 a0 a1 a2 a3 = v0 ∧ o_n_1 F 0 a0 a1 a2 a3 = c0) (h1 : ok_n F 1 a0 a1 a2 a3 = true ∧ o_n_0 F 1 a0 a1 a2 a3 = v1 ∧ o_n_1 F 1 a0 a1 a2 a3 = c1) (h2 : ok_n F 2 a0 a1 a2 a3 = true ∧ o_n_0 F 2 a0 a1 a2 a3 = v2 ∧ o_n_1 F 2 a0 a1 a2 a3 = c2) :
    f_aa F a0 a1 a2 a3 = some (.v (.tuple #[.agg #[.int .i64 v0, .int .i64 v1, .int .i64 v2], .bool (c0 || c1 || c2)])) := by
  obtain ⟨a1, a2, a3⟩ := h0
  obtain ⟨b1, b2, b3⟩ := h1
  obtain ⟨d1, d2, d3⟩ := h2
  obtain ⟨G, hG⟩ : ∃ G, F = G + 4 := ⟨F - 4, by omega⟩
  have w1 : IntKind.wrap .i64 (0 + 1) = 1 := by decide
  have w2 : IntKind.wrap .i64 (1 + 1) = 2 := by decide
  have w3 : IntKind.wrap .i64 (2 + 1) = 3 := by decide
  unfold f_aa fg_aa
  rw [show L_aa_0 F _ F = L_aa_0 F _ (G + 4) from congrArg (L_aa_0 F _) hG, L_aa_0]
  unfold B_aa_0 Bg_aa_0
  refine bp rfl (bp a1 (bn rfl (bp rfl (bp rfl ?_))))
  rw [a2, a3, w1, L_aa_0]
  unfold B_aa_0 Bg_aa_0
  refine bp rfl (bp b1 ?_)
  rw [b2, b3, w2]
  cases c0
  · refine bn rfl (bp rfl (bp rfl ?_))
    rw [L_aa_0]
    unfold B_aa_0 Bg_aa_0
    refine bp rfl (bp d1 ?_)
    rw [d2, d3, w3]
    cases c1
    · refine bn rfl (bp rfl (bp rfl ?_))
      rw [L_aa_0]
      unfold B_aa_0 Bg_aa_0
      exact bn rfl (bp rfl rfl)
    · refine bp rfl (bp rfl (bp rfl ?_))
      rw [L_aa_0]
      unfold B_aa_0 Bg_aa_0
      exact bn rfl (bp rfl rfl)
  · refine bp rfl (bp rfl (bp rfl ?_))
    rw [L_aa_0]
    unfold B_aa_0 Bg_aa_0
    refine bp rfl (bp d1 ?_)
    rw [d2, w3]
    refine bp rfl (bp rfl (bp rfl ?_))
    rw [L_aa_0]
    unfold B_aa_0 Bg_aa_0
    exact bn rfl (bp rfl (by rw [Bool.true_or, Bool.true_or]; rfl))
end Go.Xv
namespace Go.Xv
theorem sz_half (x : Int) : 2 * sz (x / 2) ≤ sz x + 1 := by unfold sz; split <;> split <;> omega
theorem sz_dbl (x : Int) : sz (x * 2) = 2 * sz x := by unfold sz; split <;> split <;> omega
theorem big_half (x y : Int) : 2 * big (x / 2) (y / 2) ≤ big x y + 1 := by
  have := sz_half x
  have := sz_half y
  unfold big; omega
theorem big_dbl (x y : Int) : big (x * 2) (y * 2) = 2 * big x y := by unfold big; rw [sz_dbl, sz_dbl]; omega
theorem down_small {x y : Int} (h : big x y < 2305843009213693952) : ∀ m, down m x y = (x, y)
  | 0 => rfl
  | m + 1 => by rw [down, if_neg (by omega)]
theorem down_end : ∀ (m k : Nat) (x y : Int), big x y ≤ 2305843009213693952 * 2 ^ k → k < m → big (down m x y).1 (down m x y).2 < 2305843009213693952
  | 0, _, _, _, _, h => absurd h (by omega)
  | m + 1, k, x, y, h, hk => by
    rw [down]
    split
    · have h2 := big_half x y
      cases k with
      | zero =>
        have hs : big (x / 2) (y / 2) < 2305843009213693952 := by simp at h; omega
        rw [down_small hs]
        exact hs
      | succ k =>
        refine down_end m k _ _ ?_ (by omega)
        have e : (2 : Int) ^ (k + 1) = 2 * 2 ^ k := by rw [Int.pow_succ]; omega
        rw [e] at h
        omega
    · dsimp only; omega
theorem dbl_end : ∀ (m : Nat) (x y : Int), 1152921504606846976 ≤ big x y * 2 ^ m → 1152921504606846976 ≤ big (dbl m x y).1 (dbl m x y).2
  | 0, x, y, h => by simp [dbl] at h ⊢; omega
  | m + 1, x, y, h => by
    rw [dbl]
    split
    · refine dbl_end m _ _ ?_
      rw [big_dbl, show 2 * big x y * 2 ^ m = big x y * (2 ^ m * 2) by rw [Int.mul_comm 2 (big x y), Int.mul_assoc, Int.mul_comm 2], ← Int.pow_succ]
      exact h
    · dsimp only; omega
theorem dbl_lt : ∀ (m : Nat) (x y : Int), big x y < 2305843009213693952 → big (dbl m x y).1 (dbl m x y).2 < 2305843009213693952
  | 0, x, y, h => h
  | m + 1, x, y, h => by
    rw [dbl]
    split
    · exact dbl_lt m _ _ (by rw [big_dbl]; omega)
    · exact h
theorem down_pos : ∀ (m : Nat) (x y : Int), 1 ≤ big x y → 1 ≤ big (down m x y).1 (down m x y).2
  | 0, x, y, h => h
  | m + 1, x, y, h => by
    rw [down]
    split
    · refine down_pos m _ _ ?_
      have : ∀ z : Int, 2305843009213693952 ≤ sz z → 1 ≤ sz (z / 2) := by intro z; unfold sz; split <;> split <;> omega
      have h1 := this x
      have h2 := this y
      unfold big at *
      omega
    · exact h
theorem big_I {x y : Int} (hx : I64 x) (hy : I64 y) : big x y ≤ 2305843009213693952 * 2 ^ 2 := by
  unfold I64 at *
  unfold big sz
  split <;> split <;> omega
theorem scd_bd {x y : Int} (hx : I64 x) (hy : I64 y) (h : 1 ≤ big x y) : 1152921504606846976 ≤ big (scd x y).1 (scd x y).2 ∧ big (scd x y).1 (scd x y).2 < 2305843009213693952 := by
  have h1 := down_end 64 2 x y (big_I hx hy) (by omega)
  have h2 := down_pos 64 x y h
  unfold scd
  refine ⟨dbl_end 64 _ _ ?_, dbl_lt 64 _ _ h1⟩
  omega
theorem sz_I {x y : Int} (h : big x y < 9223372036854775808) : I64 x ∧ I64 y := by
  unfold big sz at h
  unfold I64
  split at h <;> split at h <;> omega
theorem down_sgn : ∀ (m : Nat) (x y : Int), 0 ≤ x → 0 ≤ (down m x y).1
  | 0, _, _, h => h
  | m + 1, x, y, h => by
    rw [down]
    split
    · exact down_sgn m _ _ (by omega)
    · exact h
theorem dbl_sgn : ∀ (m : Nat) (x y : Int), 0 ≤ x → 0 ≤ (dbl m x y).1
  | 0, _, _, h => h
  | m + 1, x, y, h => by
    rw [dbl]
    split
    · exact dbl_sgn m _ _ (by omega)
    · exact h
theorem scd_sgn {x y : Int} (h : 0 ≤ x) : 0 ≤ (scd x y).1 := dbl_sgn 64 _ _ (down_sgn 64 _ _ h)
theorem opp_I {a : Int} (h : I64 a) : I64 (opp a) := by unfold opp; unfold I64 at *; split <;> omega
theorem a_size (F : Nat) {a : Int} (h : I64 a) : ok_ma F a = true ∧ o_ma_0 F a = sz a := by
  refine k_ma F _ ?_
  unfold f_ma fg_ma sz
  unfold I64 at h
  by_cases hs : a < 0
  · refine bp (dt hs) ?_
    rw [if_pos hs, wu64, wu64]
    congr 3
    omega
  · refine bn (df hs) ?_
    rw [if_neg hs, wu64]
    congr 3
    omega
theorem mx {a b : Int} : (if b > a then b else a) = max a b := by split <;> omega
theorem lp_scaled_0 (F : Nat) (ex) (x0 x1 x4 x5 : Int) : ∀ (m n : Nat) (x y : Int), I64 x → I64 y → m < n → big (down m x y).1 (down m x y).2 < 2305843009213693952 →
    L_a_0 F ex n x0 x1 x y x4 x5 = ex x0 x1 (down m x y).1 (down m x y).2 x4 x5
  | _, 0, _, _, _, _, h, _ => absurd h (by omega)
  | 0, n + 1, x, y, hx, hy, _, h => by
    rw [L_a_0]
    unfold B_a_0 Bg_a_0
    obtain ⟨a1, a2⟩ := a_size F hx
    obtain ⟨b1, b2⟩ := a_size F hy
    refine bp a1 (bp b1 ?_)
    rw [a2, b2]
    dsimp only
    rw [mx]
    exact bn (df (by unfold big down at h; dsimp only at h; omega)) rfl
  | m + 1, n + 1, x, y, hx, hy, hm, h => by
    rw [L_a_0]
    unfold B_a_0 Bg_a_0
    obtain ⟨a1, a2⟩ := a_size F hx
    obtain ⟨b1, b2⟩ := a_size F hy
    refine bp a1 (bp b1 ?_)
    rw [a2, b2]
    dsimp only
    rw [mx]
    rw [down] at h ⊢
    by_cases hc : 2305843009213693952 ≤ big x y
    · rw [if_pos hc] at h ⊢
      refine bp (dt hc) ?_
      rw [fdiv_pos _ (by decide), fdiv_pos _ (by decide)]
      exact lp_scaled_0 F ex x0 x1 x4 x5 m n _ _ (I64_half hx 1) (I64_half hy 1) (by omega) h
    · rw [if_neg hc]
      exact bn (df hc) rfl
theorem lp_scaled_1 (F : Nat) (ex) (x0 x1 x4 x5 : Int) : ∀ (m n : Nat) (x y : Int), I64 x → I64 y → m < n → 1152921504606846976 ≤ big (dbl m x y).1 (dbl m x y).2 →
    L_a_1 F ex n x0 x1 x y x4 x5 = ex x0 x1 (dbl m x y).1 (dbl m x y).2 x4 x5
  | _, 0, _, _, _, _, h, _ => absurd h (by omega)
  | 0, n + 1, x, y, hx, hy, _, h => by
    rw [L_a_1]
    unfold B_a_1 Bg_a_1
    obtain ⟨a1, a2⟩ := a_size F hx
    obtain ⟨b1, b2⟩ := a_size F hy
    refine bp a1 (bp b1 ?_)
    rw [a2, b2]
    dsimp only
    rw [mx]
    exact bn (df (by unfold big dbl at h; dsimp only at h; omega)) rfl
  | m + 1, n + 1, x, y, hx, hy, hm, h => by
    rw [L_a_1]
    unfold B_a_1 Bg_a_1
    obtain ⟨a1, a2⟩ := a_size F hx
    obtain ⟨b1, b2⟩ := a_size F hy
    refine bp a1 (bp b1 ?_)
    rw [a2, b2]
    dsimp only
    rw [mx]
    rw [dbl] at h ⊢
    by_cases hc : big x y < 1152921504606846976
    · rw [if_pos hc] at h ⊢
      refine bp (dt hc) ?_
      obtain ⟨i1, i2⟩ := sz_I (x := x * 2) (y := y * 2) (by rw [big_dbl]; omega)
      rw [wi64_in i1, wi64_in i2]
      exact lp_scaled_1 F ex x0 x1 x4 x5 m n _ _ i1 i2 (by omega) h
    · rw [if_neg hc]
      exact bn (df hc) rfl
theorem a_scaled (F : Nat) (hF : 200 ≤ F) {x y : Int} (hx : I64 x) (hy : I64 y) (h : 1 ≤ big x y) : ok_a F x y = true ∧ o_a_0 F x y = (scd x y).1 ∧ o_a_1 F x y = (scd x y).2 := by
  refine k_a F _ _ ?_
  unfold f_a fg_a
  have h1 := down_end 64 2 x y (big_I hx hy) (by omega)
  have h2 := down_pos 64 x y h
  obtain ⟨i1, i2⟩ := sz_I (x := (down 64 x y).1) (y := (down 64 x y).2) (by omega)
  rw [lp_scaled_0 F _ x y 0 0 64 F x y hx hy (by omega) h1]
  rw [lp_scaled_1 F _ x y 0 0 64 F _ _ i1 i2 (by omega) (dbl_end 64 _ _ (by omega))]
  rfl
/-- bounds of the steps -/
theorem aS_bd {x y : Int} (hx : 0 ≤ x ∧ x ≤ 2305843009213693952) (hy : -2305843009213693952 ≤ y ∧ y ≤ 2305843009213693952) : ∀ {i : Nat}, i ≤ 30 →
    (0 ≤ (aS x y i).1 ∧ (aS x y i).1 ≤ 6917529027641081856 - 2 * 2 ^ (61 - i)) ∧ (-2305843009213693952 ≤ (aS x y i).2.1 ∧ (aS x y i).2.1 ≤ 2305843009213693952) ∧ (-(536870912 * (i : Int)) ≤ (aS x y i).2.2 ∧ (aS x y i).2.2 ≤ 536870912 * (i : Int))
  | 0, _ => by simp only [aS]; omega
  | i + 1, h => by
    obtain ⟨h1, h2, h3⟩ := aS_bd hx hy (i := i) (by omega)
    have ht := tA_bd i (by omega)
    have hPQ : (2 : Int) ^ (61 - i) * 2 ^ i = 2305843009213693952 := by rw [p2add, show 61 - i + i = 61 by omega]; decide
    have e : (2 : Int) * 2 ^ (61 - (i + 1)) = 2 ^ (61 - i) := by
      rw [show 61 - i = (61 - (i + 1)) + 1 by omega, Int.pow_succ]; omega
    rw [e]
    have hQ := p2pos i
    have hP := p2pos (61 - i)
    have hx2 : (aS x y i).1 ≤ 2305843009213693952 * 2 ^ i := by
      match i, h1, hPQ with
      | 0, h1, _ => simp at h1 ⊢; omega
      | 1, h1, _ => simp at h1 ⊢; omega
      | i + 2, h1, _ =>
        have : (2 : Int) ^ (i + 2) = 4 * 2 ^ i := by rw [Int.pow_succ, Int.pow_succ]; omega
        have := p2pos i
        omega
    have hq0 : 0 ≤ (aS x y i).1 / 2 ^ i := Int.ediv_nonneg h1.1 (by omega)
    have hq1 : (aS x y i).1 / 2 ^ i ≤ 2305843009213693952 := Int.ediv_le_of_le_mul hQ hx2
    simp only [aS]
    have hy0 : (aS x y i).2.1 / 2 ^ i ≤ 2 ^ (61 - i) := Int.ediv_le_of_le_mul hQ (by rw [hPQ]; omega)
    have hy1 : -(2 ^ (61 - i)) ≤ (aS x y i).2.1 / 2 ^ i := (Int.le_ediv_iff_mul_le hQ).2 (by rw [Int.neg_mul, hPQ]; omega)
    by_cases hs : (aS x y i).2.1 < 0
    · have hn : (aS x y i).2.1 / 2 ^ i < 0 := Int.ediv_neg_of_neg_of_pos hs hQ
      simp only [hs, decide_true, if_true, rotX, rotY]
      push_cast
      omega
    · have hn : 0 ≤ (aS x y i).2.1 / 2 ^ i := Int.ediv_nonneg (by omega) (by omega)
      simp only [hs, decide_false, if_false, rotX, rotY, Bool.false_eq_true]
      push_cast
      omega
theorem aS_I {x y : Int} (hx : 0 ≤ x ∧ x ≤ 2305843009213693952) (hy : -2305843009213693952 ≤ y ∧ y ≤ 2305843009213693952) {i : Nat} (h : i ≤ 30) : I64 (aS x y i).1 ∧ I64 (aS x y i).2.1 := by
  obtain ⟨h1, h2, _⟩ := aS_bd hx hy h
  have := p2pos (61 - i)
  unfold I64
  omega
theorem lp_turn_Angle_0 (F : Nat) (ex) {x y z : Int} (hx : 0 ≤ x ∧ x ≤ 2305843009213693952) (hy : -2305843009213693952 ≤ y ∧ y ≤ 2305843009213693952) (x0 x1 x2 : Int) : ∀ (k n i : Nat) (x3 x34 x35 x36 : Int), i + k = 30 → k < n → x34 = i → x35 = (aS x y i).1 → x36 = (aS x y i).2.1 → x3 = ((aS x y i).2.2 + z) % 4294967296 →
    L_u_0 F ex n x0 x1 x2 x3 536870912 316933406 167458907 85004756 42667331 21354465 10679838 5340245 2670163 1335087 667544 333772 166886 83443 41722 20861 10430 5215 2608 1304 652 326 163 81 41 20 10 5 3 1 x34 x35 x36 = ex x0 x1 x2 (((aS x y 30).2.2 + z) % 4294967296) 536870912 316933406 167458907 85004756 42667331 21354465 10679838 5340245 2670163 1335087 667544 333772 166886 83443 41722 20861 10430 5215 2608 1304 652 326 163 81 41 20 10 5 3 1 30 (aS x y 30).1 (aS x y 30).2.1
  | _, 0, _, _, _, _, _, _, h, _, _, _, _ => absurd h (by omega)
  | 0, n + 1, i, _, _, _, _, h, _, rfl, rfl, rfl, rfl => by
    obtain rfl : i = 30 := by omega
    rw [L_u_0]
    unfold B_u_0 Bg_u_0
    exact bn (df (by omega)) rfl
  | k + 1, n + 1, i, _, _, _, _, h, hn, rfl, rfl, rfl, rfl => by
    have hi' : i < 30 := by omega
    obtain ⟨g1, g2⟩ := angL_get i hi'
    obtain ⟨b1, b2⟩ := aS_I hx hy (i := i + 1) (by omega)
    have b3 := tA_bd i hi'
    obtain ⟨t1, t2, t3⟩ := turnedF F (x := (aS x y i).1) (y := (aS x y i).2.1) (i := i) (by omega) (decide ((aS x y i).2.1 < 0)) b1 b2
    rw [L_u_0]
    unfold B_u_0 Bg_u_0
    refine bp (dt (by omega)) (bp (by rw [zmul1, g1, show ((decide (0 ≤ (i : Int))) && (decide ((i : Int) < 30))) = true from ix_ok i 30 hi']; rfl) ?_)
    rw [zmul1, g2]
    refine bp t1 ?_
    rw [t2, t3]
    have w1 : IntKind.wrap .i64 ((i : Int) + 1) = ((i + 1 : Nat) : Int) := wi64_s i (by omega)
    rw [w1]
    by_cases hs : (aS x y i).2.1 < 0
    · refine bp (dt hs) ?_
      refine lp_turn_Angle_0 F ex hx hy x0 x1 x2 k n (i + 1) _ _ _ _ (by omega) (by omega) rfl rfl rfl ?_
      simp only [aS]
      rw [if_pos hs, wi64_in (x := 0 - tA i) (by unfold I64; omega), wu32, wu32]
      omega
    · refine bn (df hs) ?_
      refine lp_turn_Angle_0 F ex hx hy x0 x1 x2 k n (i + 1) _ _ _ _ (by omega) (by omega) rfl rfl rfl ?_
      simp only [aS]
      rw [if_neg hs, wu32, wu32]
      omega
end Go.Xv
namespace Go.Xv
theorem a_Unit_0 (F : Nat) (hF : 200 ≤ F) {a0 a1 a2 m : Int} (h : I64 a0) (hm : I64 m) : ok_w F 0 a0 a1 a2 m = true ∧ o_w_0 F 0 a0 a1 a2 m = fdivV a0 m ∧ o_w_1 F 0 a0 a1 a2 m = fdivC a0 m := by
  refine k_w F _ _ _ _ _ ?_
  unfold f_w fg_w
  obtain ⟨h1, h2, h3⟩ := k_kb F _ _ (f_fDiv F hF h hm)
  refine bp rfl (bp rfl (bp h1 ?_))
  exact congrArg some (show VV.v (.tuple #[.int .i64 (o_kb_0 F a0 m), .bool (o_kb_1 F a0 m)]) = _ by rw [h2, h3])
theorem a_Scale_0 (F : Nat) {a0 a1 a2 m : Int} (h : I64 a0) (hm : I64 m) : ok_n F 0 a0 a1 a2 m = true ∧ o_n_0 F 0 a0 a1 a2 m = clipV (near (a0 * m) 32) ∧ o_n_1 F 0 a0 a1 a2 m = clipC (near (a0 * m) 32) := by
  refine k_n F _ _ _ _ _ ?_
  unfold f_n fg_n
  obtain ⟨h1, h2, h3⟩ := a_fMul F h hm
  refine bp rfl (bp rfl (bp h1 ?_))
  exact congrArg some (show VV.v (.tuple #[.int .i64 (o_lb_0 F a0 m), .bool (o_lb_1 F a0 m)]) = _ by rw [h2, h3])
theorem a_Sub_0 (F : Nat) {a0 a1 a2 a3 a4 a5 : Int} (h : I64 a0) (hm : I64 a3) : ok_qa F 0 a0 a1 a2 a3 a4 a5 = true ∧ o_qa_0 F 0 a0 a1 a2 a3 a4 a5 = clipV (a0 - a3) ∧ o_qa_1 F 0 a0 a1 a2 a3 a4 a5 = clipC (a0 - a3) := by
  refine k_qa F _ _ _ _ _ _ _ ?_
  unfold f_qa fg_qa
  obtain ⟨h1, h2, h3⟩ := a_fSub F h hm
  refine bp rfl (bp rfl (bp rfl (bp rfl (bp h1 ?_))))
  exact congrArg some (show VV.v (.tuple #[.int .i64 (o_nb_0 F a0 a3), .bool (o_nb_1 F a0 a3)]) = _ by rw [h2, h3])
theorem a_Unit_1 (F : Nat) (hF : 200 ≤ F) {a0 a1 a2 m : Int} (h : I64 a1) (hm : I64 m) : ok_w F 1 a0 a1 a2 m = true ∧ o_w_0 F 1 a0 a1 a2 m = fdivV a1 m ∧ o_w_1 F 1 a0 a1 a2 m = fdivC a1 m := by
  refine k_w F _ _ _ _ _ ?_
  unfold f_w fg_w
  obtain ⟨h1, h2, h3⟩ := k_kb F _ _ (f_fDiv F hF h hm)
  refine bp rfl (bp rfl (bp h1 ?_))
  exact congrArg some (show VV.v (.tuple #[.int .i64 (o_kb_0 F a1 m), .bool (o_kb_1 F a1 m)]) = _ by rw [h2, h3])
theorem a_Scale_1 (F : Nat) {a0 a1 a2 m : Int} (h : I64 a1) (hm : I64 m) : ok_n F 1 a0 a1 a2 m = true ∧ o_n_0 F 1 a0 a1 a2 m = clipV (near (a1 * m) 32) ∧ o_n_1 F 1 a0 a1 a2 m = clipC (near (a1 * m) 32) := by
  refine k_n F _ _ _ _ _ ?_
  unfold f_n fg_n
  obtain ⟨h1, h2, h3⟩ := a_fMul F h hm
  refine bp rfl (bp rfl (bp h1 ?_))
  exact congrArg some (show VV.v (.tuple #[.int .i64 (o_lb_0 F a1 m), .bool (o_lb_1 F a1 m)]) = _ by rw [h2, h3])
theorem a_Sub_1 (F : Nat) {a0 a1 a2 a3 a4 a5 : Int} (h : I64 a1) (hm : I64 a4) : ok_qa F 1 a0 a1 a2 a3 a4 a5 = true ∧ o_qa_0 F 1 a0 a1 a2 a3 a4 a5 = clipV (a1 - a4) ∧ o_qa_1 F 1 a0 a1 a2 a3 a4 a5 = clipC (a1 - a4) := by
  refine k_qa F _ _ _ _ _ _ _ ?_
  unfold f_qa fg_qa
  obtain ⟨h1, h2, h3⟩ := a_fSub F h hm
  refine bp rfl (bp rfl (bp rfl (bp rfl (bp h1 ?_))))
  exact congrArg some (show VV.v (.tuple #[.int .i64 (o_nb_0 F a1 a4), .bool (o_nb_1 F a1 a4)]) = _ by rw [h2, h3])
theorem a_Unit_2 (F : Nat) (hF : 200 ≤ F) {a0 a1 a2 m : Int} (h : I64 a2) (hm : I64 m) : ok_w F 2 a0 a1 a2 m = true ∧ o_w_0 F 2 a0 a1 a2 m = fdivV a2 m ∧ o_w_1 F 2 a0 a1 a2 m = fdivC a2 m := by
  refine k_w F _ _ _ _ _ ?_
  unfold f_w fg_w
  obtain ⟨h1, h2, h3⟩ := k_kb F _ _ (f_fDiv F hF h hm)
  refine bp rfl (bp rfl (bp h1 ?_))
  exact congrArg some (show VV.v (.tuple #[.int .i64 (o_kb_0 F a2 m), .bool (o_kb_1 F a2 m)]) = _ by rw [h2, h3])
theorem a_Scale_2 (F : Nat) {a0 a1 a2 m : Int} (h : I64 a2) (hm : I64 m) : ok_n F 2 a0 a1 a2 m = true ∧ o_n_0 F 2 a0 a1 a2 m = clipV (near (a2 * m) 32) ∧ o_n_1 F 2 a0 a1 a2 m = clipC (near (a2 * m) 32) := by
  refine k_n F _ _ _ _ _ ?_
  unfold f_n fg_n
  obtain ⟨h1, h2, h3⟩ := a_fMul F h hm
  refine bp rfl (bp rfl (bp h1 ?_))
  exact congrArg some (show VV.v (.tuple #[.int .i64 (o_lb_0 F a2 m), .bool (o_lb_1 F a2 m)]) = _ by rw [h2, h3])
theorem a_Sub_2 (F : Nat) {a0 a1 a2 a3 a4 a5 : Int} (h : I64 a2) (hm : I64 a5) : ok_qa F 2 a0 a1 a2 a3 a4 a5 = true ∧ o_qa_0 F 2 a0 a1 a2 a3 a4 a5 = clipV (a2 - a5) ∧ o_qa_1 F 2 a0 a1 a2 a3 a4 a5 = clipC (a2 - a5) := by
  refine k_qa F _ _ _ _ _ _ _ ?_
  unfold f_qa fg_qa
  obtain ⟨h1, h2, h3⟩ := a_fSub F h hm
  refine bp rfl (bp rfl (bp rfl (bp rfl (bp h1 ?_))))
  exact congrArg some (show VV.v (.tuple #[.int .i64 (o_nb_0 F a2 a5), .bool (o_nb_1 F a2 a5)]) = _ by rw [h2, h3])
def pr (a b : Int) : Int := a * b / 4294967296 + a * b / 2147483648 % 2
theorem pr_near (a b : Int) : near (a * b) 32 = pr a b := by
  unfold near pr
  rw [if_neg (by decide), show (2 : Int) ^ 32 = 4294967296 by decide, show (2 : Int) ^ (32 - 1) = 2147483648 by decide]
theorem pr_comm (a b : Int) : pr a b = pr b a := by unfold pr; rw [Int.mul_comm]
theorem pr_bd {a b : Int} (ha : I64 a) (hb : I64 b) : -19807040628566084398385987585 ≤ pr a b ∧ pr a b ≤ 19807040628566084398385987585 := by
  have := mul_bd ha hb
  unfold pr; omega
theorem a_product (F : Nat) {a b : Int} (ha : I64 a) (hb : I64 b) : ok_o F a b = true ∧ o_o_0 F a b = hi (pr a b) ∧ o_o_1 F a b = lo (pr a b) := by
  refine k_o F _ _ ?_
  unfold f_o fg_o
  obtain ⟨h1, h2, h3⟩ := a_Mul F ha hb
  obtain ⟨n1, n2, n3⟩ := a_Near F 32 (mul_W ha hb)
  rw [cl32, pr_near] at n2 n3
  refine bp h1 ?_
  rw [h2, h3]
  refine bp n1 ?_
  rw [n2, n3]
theorem a_vclip (F : Nat) {z : Int} (h : W128 z) : ok_eb F (hi z) (lo z) = true ∧ o_eb_0 F (hi z) (lo z) = clipV z ∧ o_eb_1 F (hi z) (lo z) = clipC z := by
  refine k_eb F _ _ ?_
  unfold f_eb fg_eb
  obtain ⟨h1, h2, h3⟩ := a_Clip F h
  refine bp h1 ?_
  rw [h2, h3]
theorem hl0 : hi 0 = 0 ∧ lo 0 = 0 := by decide
def dotZ (a0 a1 a2 a3 a4 a5 : Int) : Int := pr a0 a3 + pr a1 a4 + pr a2 a5
theorem dot_W {a0 a1 a2 a3 a4 a5 : Int} (h0 : I64 a0) (h1 : I64 a1) (h2 : I64 a2) (h3 : I64 a3) (h4 : I64 a4) (h5 : I64 a5) : W128 (dotZ a0 a1 a2 a3 a4 a5) := by
  have := pr_bd h0 h3
  have := pr_bd h1 h4
  have := pr_bd h2 h5
  unfold dotZ W128; omega
theorem f_Dot (F : Nat) (hF : 200 ≤ F) {a0 a1 a2 a3 a4 a5 : Int} (h0 : I64 a0) (h1 : I64 a1) (h2 : I64 a2) (h3 : I64 a3) (h4 : I64 a4) (h5 : I64 a5) : f_pb F a0 a1 a2 a3 a4 a5 = some (.v (.tuple #[.int .i64 (clipV (dotZ a0 a1 a2 a3 a4 a5)), .bool (clipC (dotZ a0 a1 a2 a3 a4 a5))])) := by
  obtain ⟨p1, p2, p3⟩ := a_product F h0 h3
  obtain ⟨q1, q2, q3⟩ := a_product F h1 h4
  obtain ⟨r1, r2, r3⟩ := a_product F h2 h5
  obtain ⟨s1, s2, s3⟩ := a_Add F 0 (pr a0 a3)
  obtain ⟨t1, t2, t3⟩ := a_Add F (pr a0 a3) (pr a1 a4)
  obtain ⟨u1, u2, u3⟩ := a_Add F (pr a0 a3 + pr a1 a4) (pr a2 a5)
  obtain ⟨c1, c2, c3⟩ := a_vclip F (dot_W h0 h1 h2 h3 h4 h5)
  rw [Int.zero_add] at s2 s3
  obtain ⟨G, hG⟩ : ∃ G, F = G + 4 := ⟨F - 4, by omega⟩
  have w1 : IntKind.wrap .i64 (0 + 1) = 1 := by decide
  have w2 : IntKind.wrap .i64 (1 + 1) = 2 := by decide
  have w3 : IntKind.wrap .i64 (2 + 1) = 3 := by decide
  unfold f_pb fg_pb
  rw [show L_pb_0 F _ F = L_pb_0 F _ (G + 4) from congrArg (L_pb_0 F _) hG, L_pb_0]
  unfold B_pb_0 Bg_pb_0
  refine bp rfl (bp rfl (bp rfl (bp rfl (bp rfl (bp p1 ?_)))))
  have e0 : (iv [.v (.int .i64 a0), .v (.int .i64 a1), .v (.int .i64 a2)][0 + Int.toNat 0 * 1]?) = a0 := rfl
  have e3 : (iv [.v (.int .i64 a3), .v (.int .i64 a4), .v (.int .i64 a5)][0 + Int.toNat 0 * 1]?) = a3 := rfl
  rw [e0, e3, p2, p3]
  have s1' : ok_fb F 0 0 (hi (pr a0 a3)) (lo (pr a0 a3)) = true := s1
  have s2' : o_fb_0 F 0 0 (hi (pr a0 a3)) (lo (pr a0 a3)) = hi (pr a0 a3) := s2
  have s3' : o_fb_1 F 0 0 (hi (pr a0 a3)) (lo (pr a0 a3)) = lo (pr a0 a3) := s3
  refine bp s1' ?_
  rw [s2', s3', w1, L_pb_0]
  unfold B_pb_0 Bg_pb_0
  refine bp rfl (bp rfl (bp rfl (bp rfl (bp rfl (bp q1 ?_)))))
  have e1 : (iv [.v (.int .i64 a0), .v (.int .i64 a1), .v (.int .i64 a2)][0 + Int.toNat 1 * 1]?) = a1 := rfl
  have e4 : (iv [.v (.int .i64 a3), .v (.int .i64 a4), .v (.int .i64 a5)][0 + Int.toNat 1 * 1]?) = a4 := rfl
  rw [e1, e4, q2, q3]
  refine bp t1 ?_
  rw [t2, t3, w2, L_pb_0]
  unfold B_pb_0 Bg_pb_0
  refine bp rfl (bp rfl (bp rfl (bp rfl (bp rfl (bp r1 ?_)))))
  have e2 : (iv [.v (.int .i64 a0), .v (.int .i64 a1), .v (.int .i64 a2)][0 + Int.toNat 2 * 1]?) = a2 := rfl
  have e5 : (iv [.v (.int .i64 a3), .v (.int .i64 a4), .v (.int .i64 a5)][0 + Int.toNat 2 * 1]?) = a5 := rfl
  rw [e2, e5, r2, r3]
  refine bp u1 ?_
  rw [u2, u3, w3, L_pb_0]
  unfold B_pb_0 Bg_pb_0
  refine bn rfl ?_
  have e : pr a0 a3 + pr a1 a4 + pr a2 a5 = dotZ a0 a1 a2 a3 a4 a5 := rfl
  rw [e]
  refine bp c1 ?_
  rw [c2, c3]
theorem a_Dot (F : Nat) (hF : 200 ≤ F) {a0 a1 a2 a3 a4 a5 : Int} (h0 : I64 a0) (h1 : I64 a1) (h2 : I64 a2) (h3 : I64 a3) (h4 : I64 a4) (h5 : I64 a5) : ok_pb F a0 a1 a2 a3 a4 a5 = true ∧ o_pb_0 F a0 a1 a2 a3 a4 a5 = clipV (dotZ a0 a1 a2 a3 a4 a5) ∧ o_pb_1 F a0 a1 a2 a3 a4 a5 = clipC (dotZ a0 a1 a2 a3 a4 a5) := k_pb F _ _ _ _ _ _ (f_Dot F hF h0 h1 h2 h3 h4 h5)
def arZ (a b c d : Int) : Int := pr a b - pr c d
theorem ar_W {a b c d : Int} (h0 : I64 a) (h1 : I64 b) (h2 : I64 c) (h3 : I64 d) : W128 (arZ a b c d) := by
  have := pr_bd h0 h1
  have := pr_bd h2 h3
  unfold arZ W128; omega
theorem a_Cross_0 (F : Nat) {a0 a1 a2 a3 a4 a5 : Int} (h0 : I64 a0) (h1 : I64 a1) (h2 : I64 a2) (h3 : I64 a3) (h4 : I64 a4) (h5 : I64 a5) : ok_m F 0 a0 a1 a2 a3 a4 a5 = true ∧ o_m_0 F 0 a0 a1 a2 a3 a4 a5 = clipV (arZ a1 a5 a2 a4) ∧ o_m_1 F 0 a0 a1 a2 a3 a4 a5 = clipC (arZ a1 a5 a2 a4) := by
  refine k_m F _ _ _ _ _ _ _ ?_
  unfold f_m fg_m
  obtain ⟨p1, p2, p3⟩ := a_product F h1 h5
  obtain ⟨q1, q2, q3⟩ := a_product F h2 h4
  obtain ⟨n1, n2, n3⟩ := a_Neg F (pr a2 a4)
  obtain ⟨s1, s2, s3⟩ := a_Add F (pr a1 a5) (-pr a2 a4)
  obtain ⟨c1, c2, c3⟩ := a_vclip F (ar_W h1 h5 h2 h4)
  unfold arZ at c1 c2 c3 ⊢
  rw [Int.sub_eq_add_neg] at c1 c2 c3 ⊢
  have w1 : Int.tmod (IntKind.wrap .i64 (0 + 1)) 3 = 1 := by decide
  have w2 : Int.tmod (IntKind.wrap .i64 (0 + 2)) 3 = 2 := by decide
  rw [w1, w2]
  refine bp rfl (bp rfl (bp rfl (bp rfl (bp p1 (bp rfl (bp rfl (bp rfl (bp rfl (bp q1 ?_)))))))))
  have e1 : (iv [.v (.int .i64 a0), .v (.int .i64 a1), .v (.int .i64 a2)][0 + Int.toNat 1 * 1]?) = a1 := rfl
  have e2 : (iv [.v (.int .i64 a0), .v (.int .i64 a1), .v (.int .i64 a2)][0 + Int.toNat 2 * 1]?) = a2 := rfl
  have e3 : (iv [.v (.int .i64 a3), .v (.int .i64 a4), .v (.int .i64 a5)][0 + Int.toNat 1 * 1]?) = a4 := rfl
  have e4 : (iv [.v (.int .i64 a3), .v (.int .i64 a4), .v (.int .i64 a5)][0 + Int.toNat 2 * 1]?) = a5 := rfl
  rw [e1, e2, e3, e4, p2, p3, q2, q3]
  refine bp n1 ?_
  rw [n2, n3]
  refine bp s1 ?_
  rw [s2, s3]
  refine bp c1 ?_
  rw [c2, c3]
theorem a_Cross_1 (F : Nat) {a0 a1 a2 a3 a4 a5 : Int} (h0 : I64 a0) (h1 : I64 a1) (h2 : I64 a2) (h3 : I64 a3) (h4 : I64 a4) (h5 : I64 a5) : ok_m F 1 a0 a1 a2 a3 a4 a5 = true ∧ o_m_0 F 1 a0 a1 a2 a3 a4 a5 = clipV (arZ a2 a3 a0 a5) ∧ o_m_1 F 1 a0 a1 a2 a3 a4 a5 = clipC (arZ a2 a3 a0 a5) := by
  refine k_m F _ _ _ _ _ _ _ ?_
  unfold f_m fg_m
  obtain ⟨p1, p2, p3⟩ := a_product F h2 h3
  obtain ⟨q1, q2, q3⟩ := a_product F h0 h5
  obtain ⟨n1, n2, n3⟩ := a_Neg F (pr a0 a5)
  obtain ⟨s1, s2, s3⟩ := a_Add F (pr a2 a3) (-pr a0 a5)
  obtain ⟨c1, c2, c3⟩ := a_vclip F (ar_W h2 h3 h0 h5)
  unfold arZ at c1 c2 c3 ⊢
  rw [Int.sub_eq_add_neg] at c1 c2 c3 ⊢
  have w1 : Int.tmod (IntKind.wrap .i64 (1 + 1)) 3 = 2 := by decide
  have w2 : Int.tmod (IntKind.wrap .i64 (1 + 2)) 3 = 0 := by decide
  rw [w1, w2]
  refine bp rfl (bp rfl (bp rfl (bp rfl (bp p1 (bp rfl (bp rfl (bp rfl (bp rfl (bp q1 ?_)))))))))
  have e1 : (iv [.v (.int .i64 a0), .v (.int .i64 a1), .v (.int .i64 a2)][0 + Int.toNat 2 * 1]?) = a2 := rfl
  have e2 : (iv [.v (.int .i64 a0), .v (.int .i64 a1), .v (.int .i64 a2)][0 + Int.toNat 0 * 1]?) = a0 := rfl
  have e3 : (iv [.v (.int .i64 a3), .v (.int .i64 a4), .v (.int .i64 a5)][0 + Int.toNat 2 * 1]?) = a5 := rfl
  have e4 : (iv [.v (.int .i64 a3), .v (.int .i64 a4), .v (.int .i64 a5)][0 + Int.toNat 0 * 1]?) = a3 := rfl
  rw [e1, e2, e3, e4, p2, p3, q2, q3]
  refine bp n1 ?_
  rw [n2, n3]
  refine bp s1 ?_
  rw [s2, s3]
  refine bp c1 ?_
  rw [c2, c3]
theorem a_Cross_2 (F : Nat) {a0 a1 a2 a3 a4 a5 : Int} (h0 : I64 a0) (h1 : I64 a1) (h2 : I64 a2) (h3 : I64 a3) (h4 : I64 a4) (h5 : I64 a5) : ok_m F 2 a0 a1 a2 a3 a4 a5 = true ∧ o_m_0 F 2 a0 a1 a2 a3 a4 a5 = clipV (arZ a0 a4 a1 a3) ∧ o_m_1 F 2 a0 a1 a2 a3 a4 a5 = clipC (arZ a0 a4 a1 a3) := by
  refine k_m F _ _ _ _ _ _ _ ?_
  unfold f_m fg_m
  obtain ⟨p1, p2, p3⟩ := a_product F h0 h4
  obtain ⟨q1, q2, q3⟩ := a_product F h1 h3
  obtain ⟨n1, n2, n3⟩ := a_Neg F (pr a1 a3)
  obtain ⟨s1, s2, s3⟩ := a_Add F (pr a0 a4) (-pr a1 a3)
  obtain ⟨c1, c2, c3⟩ := a_vclip F (ar_W h0 h4 h1 h3)
  unfold arZ at c1 c2 c3 ⊢
  rw [Int.sub_eq_add_neg] at c1 c2 c3 ⊢
  have w1 : Int.tmod (IntKind.wrap .i64 (2 + 1)) 3 = 0 := by decide
  have w2 : Int.tmod (IntKind.wrap .i64 (2 + 2)) 3 = 1 := by decide
  rw [w1, w2]
  refine bp rfl (bp rfl (bp rfl (bp rfl (bp p1 (bp rfl (bp rfl (bp rfl (bp rfl (bp q1 ?_)))))))))
  have e1 : (iv [.v (.int .i64 a0), .v (.int .i64 a1), .v (.int .i64 a2)][0 + Int.toNat 0 * 1]?) = a0 := rfl
  have e2 : (iv [.v (.int .i64 a0), .v (.int .i64 a1), .v (.int .i64 a2)][0 + Int.toNat 1 * 1]?) = a1 := rfl
  have e3 : (iv [.v (.int .i64 a3), .v (.int .i64 a4), .v (.int .i64 a5)][0 + Int.toNat 0 * 1]?) = a3 := rfl
  have e4 : (iv [.v (.int .i64 a3), .v (.int .i64 a4), .v (.int .i64 a5)][0 + Int.toNat 1 * 1]?) = a4 := rfl
  rw [e1, e2, e3, e4, p2, p3, q2, q3]
  refine bp n1 ?_
  rw [n2, n3]
  refine bp s1 ?_
  rw [s2, s3]
  refine bp c1 ?_
  rw [c2, c3]
theorem a_Cross (F : Nat) (hF : 200 ≤ F) {a0 a1 a2 a3 a4 a5 : Int} (h0 : I64 a0) (h1 : I64 a1) (h2 : I64 a2) (h3 : I64 a3) (h4 : I64 a4) (h5 : I64 a5) : ok_oa F a0 a1 a2 a3 a4 a5 = true ∧ o_oa_0 F a0 a1 a2 a3 a4 a5 = clipV (arZ a1 a5 a2 a4) ∧ o_m F a0 a1 a2 a3 a4 a5 = clipV (arZ a2 a3 a0 a5) ∧ o_oa_2 F a0 a1 a2 a3 a4 a5 = clipV (arZ a0 a4 a1 a3) ∧ o_oa_3 F a0 a1 a2 a3 a4 a5 = (clipC (arZ a1 a5 a2 a4) || clipC (arZ a2 a3 a0 a5) || clipC (arZ a0 a4 a1 a3)) := by
  refine k_oa F _ _ _ _ _ _ ?_
  unfold f_oa fg_oa
  obtain ⟨e1, e2, e3, e4, e5⟩ := k_x F _ _ _ _ _ _ (f_vec_eachv1' F hF (a_Cross_0 F h0 h1 h2 h3 h4 h5) (a_Cross_1 F h0 h1 h2 h3 h4 h5) (a_Cross_2 F h0 h1 h2 h3 h4 h5))
  refine bp e1 ?_
  rw [e2, e3, e4, e5]
theorem a_Sub (F : Nat) (hF : 200 ≤ F) {a0 a1 a2 a3 a4 a5 : Int} (h0 : I64 a0) (h1 : I64 a1) (h2 : I64 a2) (h3 : I64 a3) (h4 : I64 a4) (h5 : I64 a5) : ok_qb F a0 a1 a2 a3 a4 a5 = true ∧ o_qb_0 F a0 a1 a2 a3 a4 a5 = clipV (a0 - a3) ∧ o_qa F a0 a1 a2 a3 a4 a5 = clipV (a1 - a4) ∧ o_qb_2 F a0 a1 a2 a3 a4 a5 = clipV (a2 - a5) ∧ o_qb_3 F a0 a1 a2 a3 a4 a5 = (clipC (a0 - a3) || clipC (a1 - a4) || clipC (a2 - a5)) := by
  refine k_qb F _ _ _ _ _ _ ?_
  unfold f_qb fg_qb
  obtain ⟨e1, e2, e3, e4, e5⟩ := k_z F _ _ _ _ _ _ (f_vec_eachv3' F hF (a_Sub_0 F h0 h3) (a_Sub_1 F h1 h4) (a_Sub_2 F h2 h5))
  refine bp e1 ?_
  rw [e2, e3, e4, e5]
theorem a_Scale (F : Nat) (hF : 200 ≤ F) {a0 a1 a2 a3 : Int} (h0 : I64 a0) (h1 : I64 a1) (h2 : I64 a2) (h3 : I64 a3) : ok_pa F a0 a1 a2 a3 = true ∧ o_pa_0 F a0 a1 a2 a3 = clipV (pr a0 a3) ∧ o_n F a0 a1 a2 a3 = clipV (pr a1 a3) ∧ o_pa_2 F a0 a1 a2 a3 = clipV (pr a2 a3) ∧ o_pa_3 F a0 a1 a2 a3 = (clipC (pr a0 a3) || clipC (pr a1 a3) || clipC (pr a2 a3)) := by
  refine k_pa F _ _ _ _ ?_
  unfold f_pa fg_pa
  obtain ⟨e1, e2, e3, e4, e5⟩ := k_aa F _ _ _ _ (f_vec_eachv4' F hF (a_Scale_0 F h0 h3) (a_Scale_1 F h1 h3) (a_Scale_2 F h2 h3))
  refine bp e1 ?_
  rw [e2, e3, e4, e5]
  simp only [pr_near]
theorem sz_U {a : Int} (h : I64 a) : U64 (sz a) := by unfold sz; unfold I64 at h; unfold U64; split <;> omega
theorem sz_sq (a : Int) : sz a * sz a = a * a := by
  unfold sz
  split
  · rw [Int.neg_mul_neg]
  · rfl
theorem a_vbare (F : Nat) {a : Int} (h : I64 a) : ok_db F a = true ∧ o_db_0 F a = sz a := by
  refine k_db F _ ?_
  unfold f_db fg_db sz
  unfold I64 at h
  by_cases hs : a < 0
  · refine bp (dt hs) ?_
    rw [if_pos hs, wu64, wu64]
    congr 3
    omega
  · refine bn (df hs) ?_
    rw [if_neg hs, wu64]
    congr 3
    omega
def sq3 (a b c : Int) : Int := a * a + b * b + c * c
noncomputable def lenV (z : Int) : Int := if z < 85070591730234615865843651857942052864 then rt z else 9223372036854775807
def lenC (z : Int) : Bool := decide (85070591730234615865843651857942052864 ≤ z)
theorem sq_bd64 {a : Int} (h : I64 a) : 0 ≤ a * a ∧ a * a ≤ 85070591730234615865843651857942052864 := by
  have h1 := sz_sq a
  have h2 : 0 ≤ sz a ∧ sz a ≤ 9223372036854775808 := by unfold sz; unfold I64 at h; split <;> omega
  have h3 := sq_le h2.1 h2.2
  have h4 := Int.mul_nonneg h2.1 h2.1
  omega
theorem rt_small {z : Int} (h0 : 0 ≤ z) : (rt z ≤ 9223372036854775807) ↔ z < 85070591730234615865843651857942052864 := by
  obtain ⟨h1, h2, h3⟩ := rt_spec h0
  constructor
  · intro h
    have := sq_le (x := rt z + 1) (y := 9223372036854775808) (by omega) (by omega)
    omega
  · intro h
    rcases Int.lt_or_le 9223372036854775807 (rt z) with hl | hl
    · have := sq_le (x := 9223372036854775808) (y := rt z) (by omega) (by omega)
      omega
    · exact hl
theorem len_some {n : Int} {c : Bool} {z : Int} (h : n = lenV z) (k : c = lenC z) : (some (VV.v (.tuple #[.int .i64 n, .bool c])) : R) = some (.v (.tuple #[.int .i64 (lenV z), .bool (lenC z)])) := by rw [h, k]
theorem len_big {z : Int} (h : 170141183460469231731687303715884105728 ≤ z) : (some (VV.v (.tuple #[.int .i64 9223372036854775807, .bool true])) : R) = some (.v (.tuple #[.int .i64 (lenV z), .bool (lenC z)])) := by
  refine len_some ?_ ?_
  · unfold lenV; rw [if_neg (by omega)]
  · unfold lenC; rw [dt (by omega)]
theorem hi_neg {z : Int} (h0 : 0 ≤ z) (h1 : z < 340282366920938463463374607431768211456) : (170141183460469231731687303715884105728 ≤ z ↔ W z < 0) := by unfold W; omega
end Go.Xv
namespace Go.Xv
theorem a_Sgn (F : Nat) {z : Int} (h0 : 0 ≤ z) (h1 : z < 340282366920938463463374607431768211456) : ok_va F (hi z) (lo z) = true ∧ decide (o_va_0 F (hi z) (lo z) < 0) = decide (170141183460469231731687303715884105728 ≤ z) := by
  obtain ⟨e1, e2⟩ := k_va F _ _ (f_Sign F (a := hi z) (lo_U z))
  refine ⟨e1, ?_⟩
  rw [e2, val_hl]
  have := hi_neg h0 h1
  rw [Bool.eq_iff_iff]
  simp only [decide_eq_true_eq]
  split
  · omega
  · split <;> omega
theorem a_rootW (F : Nat) (hF : 200 ≤ F) {z : Int} (h0 : 0 ≤ z) (h1 : z < 170141183460469231731687303715884105728) : ok_ka F (hi z) (lo z) = true ∧ o_ka_0 F (hi z) (lo z) = rt z := by
  have h := f_rootWide F hF (hi_I z) (lo_U z)
  rw [val_hl, W_in (by unfold W128; omega)] at h
  unfold rootR at h
  rw [if_neg (by omega)] at h
  obtain ⟨e1, e2, _⟩ := k_ka F _ _ h
  exact ⟨e1, e2⟩
theorem len_end {z : Int} (h0 : 0 ≤ z) : (bif decide (rt z > 9223372036854775807) then (some (.v (.tuple #[.int .i64 9223372036854775807, .bool true])) : R) else some (.v (.tuple #[.int .i64 (IntKind.wrap .i64 (rt z)), .bool false]))) = some (.v (.tuple #[.int .i64 (lenV z), .bool (lenC z)])) := by
  have hs := rt_small h0
  have hr := (rt_spec h0).1
  by_cases h : z < 85070591730234615865843651857942052864
  · refine bn (df (by have := hs.2 h; omega)) (len_some ?_ ?_)
    · unfold lenV; rw [if_pos h, wi64_in (by have := hs.2 h; unfold I64; omega)]
    · unfold lenC; rw [df (by omega)]
  · refine bp (dt ?_) (len_some ?_ ?_)
    · rcases Int.lt_or_le 9223372036854775807 (rt z) with hl | hl
      · exact hl
      · exact absurd (hs.1 hl) h
    · unfold lenV; rw [if_neg h]
    · unfold lenC; rw [dt (by omega)]
theorem f_Length (F : Nat) (hF : 200 ≤ F) {a b c : Int} (ha : I64 a) (hb : I64 b) (hc : I64 c) : f_v F a b c = some (.v (.tuple #[.int .i64 (lenV (sq3 a b c)), .bool (lenC (sq3 a b c))])) := by
  obtain ⟨p1, p2⟩ := a_vbare F ha
  obtain ⟨q1, q2⟩ := a_vbare F hb
  obtain ⟨r1, r2⟩ := a_vbare F hc
  obtain ⟨s1, s2, s3⟩ := a_Square F (sz_U ha)
  obtain ⟨t1, t2, t3⟩ := a_Square F (sz_U hb)
  obtain ⟨u1, u2, u3⟩ := a_Square F (sz_U hc)
  rw [sz_sq] at s2 s3 t2 t3 u2 u3
  have ba := sq_bd64 ha
  have bb := sq_bd64 hb
  have bc := sq_bd64 hc
  obtain ⟨v1, v2, v3⟩ := a_Add F 0 (a * a)
  obtain ⟨w1, w2, w3⟩ := a_Add F (a * a) (b * b)
  obtain ⟨x1, x2, x3⟩ := a_Add F (a * a + b * b) (c * c)
  rw [Int.zero_add] at v2 v3
  have v1' : ok_fb F 0 0 (hi (a * a)) (lo (a * a)) = true := v1
  have v2' : o_fb_0 F 0 0 (hi (a * a)) (lo (a * a)) = hi (a * a) := v2
  have v3' : o_fb_1 F 0 0 (hi (a * a)) (lo (a * a)) = lo (a * a) := v3
  obtain ⟨g1, g2⟩ := a_Sgn F (z := a * a) (by omega) (by omega)
  obtain ⟨i1, i2⟩ := a_Sgn F (z := a * a + b * b) (by omega) (by omega)
  obtain ⟨j1, j2⟩ := a_Sgn F (z := a * a + b * b + c * c) (by omega) (by omega)
  obtain ⟨G, hG⟩ : ∃ G, F = G + 4 := ⟨F - 4, by omega⟩
  have y1 : IntKind.wrap .i64 (0 + 1) = 1 := by decide
  have y2 : IntKind.wrap .i64 (1 + 1) = 2 := by decide
  have y3 : IntKind.wrap .i64 (2 + 1) = 3 := by decide
  unfold f_v fg_v
  rw [show L_v_0 F _ _ F = L_v_0 F _ _ (G + 4) from congrArg (L_v_0 F _ _) hG, L_v_0]
  unfold B_v_0 Bg_v_0
  have e0 : (iv [.v (.int .i64 a), .v (.int .i64 b), .v (.int .i64 c)][Int.toNat 0 * 1]?) = a := rfl
  have e1 : (iv [.v (.int .i64 a), .v (.int .i64 b), .v (.int .i64 c)][Int.toNat 1 * 1]?) = b := rfl
  have e2 : (iv [.v (.int .i64 a), .v (.int .i64 b), .v (.int .i64 c)][Int.toNat 2 * 1]?) = c := rfl
  refine bp rfl (bp rfl ?_)
  rw [e0]
  refine bp p1 ?_
  rw [p2]
  refine bp s1 ?_
  rw [s2, s3]
  refine bp v1' ?_
  rw [v2', v3']
  refine bp g1 ?_
  rw [g2]
  refine bn (df (by omega)) ?_
  rw [y1, L_v_0]
  unfold B_v_0 Bg_v_0
  refine bp rfl (bp rfl ?_)
  rw [e1]
  refine bp q1 ?_
  rw [q2]
  refine bp t1 ?_
  rw [t2, t3]
  refine bp w1 ?_
  rw [w2, w3]
  refine bp i1 ?_
  rw [i2]
  by_cases hz : 170141183460469231731687303715884105728 ≤ a * a + b * b
  · exact bp (dt hz) (len_big (by unfold sq3; omega))
  · refine bn (df hz) ?_
    rw [y2, L_v_0]
    unfold B_v_0 Bg_v_0
    refine bp rfl (bp rfl ?_)
    rw [e2]
    refine bp r1 ?_
    rw [r2]
    refine bp u1 ?_
    rw [u2, u3]
    refine bp x1 ?_
    rw [x2, x3]
    refine bp j1 ?_
    rw [j2]
    by_cases hz2 : 170141183460469231731687303715884105728 ≤ a * a + b * b + c * c
    · exact bp (dt hz2) (len_big (by unfold sq3; omega))
    · refine bn (df hz2) ?_
      rw [y3, L_v_0]
      unfold B_v_0 Bg_v_0
      refine bn rfl ?_
      obtain ⟨k1, k2⟩ := a_rootW F hF (z := a * a + b * b + c * c) (by omega) (by omega)
      refine bp k1 ?_
      rw [k2]
      exact len_end (z := a * a + b * b + c * c) (by omega)
theorem a_Length (F : Nat) (hF : 200 ≤ F) {a b c : Int} (ha : I64 a) (hb : I64 b) (hc : I64 c) : ok_v F a b c = true ∧ o_v_0 F a b c = lenV (sq3 a b c) ∧ o_v_1 F a b c = lenC (sq3 a b c) := k_v F _ _ _ (f_Length F hF ha hb hc)
/-- over the length -/
noncomputable def unitOK (a b c : Int) : Bool := !decide (lenV (sq3 a b c) = 0) && !lenC (sq3 a b c)
noncomputable def unV (k a b c : Int) : Int := if unitOK a b c = true then fdivV k (lenV (sq3 a b c)) else 0
theorem len_I {z : Int} (h : 0 ≤ z) : 0 ≤ lenV z ∧ I64 (lenV z) := by
  have h1 := (rt_spec h).1
  unfold lenV I64
  by_cases hz : z < 85070591730234615865843651857942052864
  · have := (rt_small h).2 hz
    rw [if_pos hz]; omega
  · rw [if_neg hz]; omega
theorem sq3_nn {a b c : Int} (ha : I64 a) (hb : I64 b) (hc : I64 c) : 0 ≤ sq3 a b c := by
  have := sq_bd64 ha
  have := sq_bd64 hb
  have := sq_bd64 hc
  unfold sq3; omega
theorem some_un {x y z x' y' z' : Int} {c c' : Bool} (h1 : x = x') (h2 : y = y') (h3 : z = z') (h4 : c = c') : (some (VV.v (.tuple #[.agg #[.int .i64 x, .int .i64 y, .int .i64 z], .bool c])) : R) = some (.v (.tuple #[.agg #[.int .i64 x', .int .i64 y', .int .i64 z'], .bool c'])) := by rw [h1, h2, h3, h4]
theorem f_Unit (F : Nat) (hF : 200 ≤ F) {a b c : Int} (ha : I64 a) (hb : I64 b) (hc : I64 c) : f_cb F a b c = some (.v (.tuple #[.agg #[.int .i64 (unV a a b c), .int .i64 (unV b a b c), .int .i64 (unV c a b c)], .bool (unitOK a b c)])) := by
  unfold f_cb fg_cb
  obtain ⟨l1, l2, l3⟩ := a_Length F hF ha hb hc
  have hl := len_I (sq3_nn ha hb hc)
  obtain ⟨e1, e2, e3, e4, e5⟩ := k_y F _ _ _ _ (f_vec_eachv2' F hF (a_Unit_0 F hF (a1 := b) (a2 := c) ha hl.2) (a_Unit_1 F hF (a0 := a) (a2 := c) hb hl.2) (a_Unit_2 F hF (a0 := a) (a1 := b) hc hl.2))
  refine bp l1 ?_
  rw [l2, l3]
  unfold unV unitOK
  generalize lenV (sq3 a b c) = n at *
  generalize lenC (sq3 a b c) = k at *
  by_cases h0 : n = 0
  · refine bp (by simp [h0]) (some_un ?_ ?_ ?_ ?_) <;> simp [h0]
  · refine bn (by simp [h0]) ?_
    cases k
    · refine bn rfl (bp e1 (some_un ?_ ?_ ?_ ?_))
      · rw [e2]; simp [h0]
      · rw [e3]; simp [h0]
      · rw [e4]; simp [h0]
      · simp [h0]
    · refine bp rfl (some_un ?_ ?_ ?_ ?_) <;> simp
theorem a_vUnit (F : Nat) (hF : 200 ≤ F) {a b c : Int} (ha : I64 a) (hb : I64 b) (hc : I64 c) : ok_cb F a b c = true ∧ o_cb_0 F a b c = unV a a b c ∧ o_w F a b c = unV b a b c ∧ o_cb_2 F a b c = unV c a b c ∧ o_cb_3 F a b c = unitOK a b c := k_cb F _ _ _ (f_Unit F hF ha hb hc)
end Go.Xv
namespace Go.Xv
theorem clip_opp {a : Int} (h : I64 a) : clipV (-a) = opp a := by
  unfold clipV opp; unfold I64 at h
  split <;> (try split) <;> (try split) <;> omega
theorem a_opp (F : Nat) {x y : Int} (hx : I64 x) (hy : I64 y) : ok_d F x y = true ∧ o_d_0 F x y = opp x ∧ o_d_1 F x y = opp y := by
  refine k_d F _ _ ?_
  unfold f_d fg_d
  obtain ⟨h1, h2, _⟩ := a_fNeg F hx
  obtain ⟨g1, g2, _⟩ := a_fNeg F hy
  refine bp h1 (bp g1 ?_)
  rw [h2, g2, clip_opp hx, clip_opp hy]
theorem big_one {x y : Int} (h : ¬ (x = 0 ∧ y = 0)) : 1 ≤ big x y := by
  unfold big sz
  split <;> split <;> omega
theorem opp_pos {x : Int} (hx : I64 x) (h : x < 0) : 1 ≤ opp x := by unfold opp; split <;> omega
theorem big_to {x y : Int} (h : big x y < 2305843009213693952) (h0 : 0 ≤ x) : (0 ≤ x ∧ x ≤ 2305843009213693952) ∧ -2305843009213693952 ≤ y ∧ y ≤ 2305843009213693952 := by
  unfold big sz at h
  split at h <;> split at h <;> omega
theorem f_tAngle (F : Nat) (hF : 200 ≤ F) {y x : Int} (hy : I64 y) (hx : I64 x) : f_u F y x = some (.v (.int .u32 (angle y x))) := by
  unfold f_u fg_u
  obtain ⟨h0, e0, e1, e2, e3, e4, e5, e6, e7, e8, e9, e10, e11, e12, e13, e14, e15, e16, e17, e18, e19, e20, e21, e22, e23, e24, e25, e26, e27, e28, e29⟩ := angF F
  rw [e0, e1, e2, e3, e4, e5, e6, e7, e8, e9, e10, e11, e12, e13, e14, e15, e16, e17, e18, e19, e20, e21, e22, e23, e24, e25, e26, e27, e28, e29]
  have neg : x < 0 → angle y x = ((aS (scd (opp x) (opp y)).1 (scd (opp x) (opp y)).2 30).2.2 + 2147483648) % 4294967296 := by
    intro h; unfold angle; rw [if_neg (by omega), if_pos h]
  have pos : ¬ x < 0 → ¬ (x = 0 ∧ y = 0) → angle y x = ((aS (scd x y).1 (scd x y).2 30).2.2 + 0) % 4294967296 := by
    intro h h2; unfold angle; rw [if_neg h2, if_neg h, Int.add_zero]
  by_cases x0 : x = 0
  · refine bp (by simp [x0]) ?_
    by_cases y0 : y = 0
    · refine bp (by simp [y0]) (some_u32 ?_)
      unfold angle
      rw [if_pos ⟨x0, y0⟩]
    · have hb := big_one (x := x) (y := y) (by omega)
      obtain ⟨s1, s2, s3⟩ := a_scaled F hF hx hy hb
      obtain ⟨b1, b2⟩ := big_to (scd_bd hx hy hb).2 (scd_sgn (by omega))
      refine bn (by simp [y0]) (bn (df (by omega)) (bp s1 (bp h0 ?_)))
      rw [s2, s3, lp_turn_Angle_0 F _ (z := 0) b1 b2 _ _ _ 30 F 0 0 0 (scd x y).1 (scd x y).2 (by omega) (by omega) rfl rfl rfl rfl]
      exact some_u32 (pos (by omega) (by omega)).symm
  · refine bn (by simp [x0]) ?_
    by_cases hn : x < 0
    · have hb := big_one (x := opp x) (y := opp y) (by have := opp_pos hx hn; omega)
      obtain ⟨o1, o2, o3⟩ := a_opp F hx hy
      obtain ⟨s1, s2, s3⟩ := a_scaled F hF (opp_I hx) (opp_I hy) hb
      obtain ⟨b1, b2⟩ := big_to (scd_bd (opp_I hx) (opp_I hy) hb).2 (scd_sgn (by have := opp_pos hx hn; omega))
      refine bp (dt hn) (bp o1 ?_)
      rw [o2, o3]
      refine bp s1 (bp h0 ?_)
      rw [s2, s3, lp_turn_Angle_0 F _ (z := 2147483648) b1 b2 _ _ _ 30 F 0 2147483648 0 (scd (opp x) (opp y)).1 (scd (opp x) (opp y)).2 (by omega) (by omega) rfl rfl rfl rfl]
      exact some_u32 (neg hn).symm
    · have hb := big_one (x := x) (y := y) (by omega)
      obtain ⟨s1, s2, s3⟩ := a_scaled F hF hx hy hb
      obtain ⟨b1, b2⟩ := big_to (scd_bd hx hy hb).2 (scd_sgn (by omega))
      refine bn (df hn) (bp s1 (bp h0 ?_))
      rw [s2, s3, lp_turn_Angle_0 F _ (z := 0) b1 b2 _ _ _ 30 F 0 0 0 (scd x y).1 (scd x y).2 (by omega) (by omega) rfl rfl rfl rfl]
      exact some_u32 (pos hn (by omega)).symm
theorem a_tAngle (F : Nat) (hF : 200 ≤ F) {y x : Int} (hy : I64 y) (hx : I64 x) : ok_u F y x = true ∧ o_u_0 F y x = angle y x := k_u F _ _ (f_tAngle F hF hy hx)
theorem angle_U (y x : Int) : U32 (angle y x) := by unfold angle U32; split <;> (try split) <;> omega
end Go.Xv
namespace Go.Xv
theorem dot_turn (a0 a1 a2 a3 a4 a5 : Int) : dotZ a3 a4 a5 a0 a1 a2 = dotZ a0 a1 a2 a3 a4 a5 := by unfold dotZ; rw [pr_comm a3, pr_comm a4, pr_comm a5]
theorem a_mSame (F : Nat) (hF : 200 ≤ F) : ok_ab F = true ∧ o_ab_0 F = 4294967296 ∧ o_ab_1 F = 0 ∧ o_ab_2 F = 0 ∧ o_ab_3 F = 0 ∧ o_ab_4 F = 4294967296 ∧ o_ab_5 F = 0 ∧ o_ab_6 F = 0 ∧ o_ab_7 F = 0 ∧ o_ab_8 F = 4294967296 := by
  refine k_ab F ?_
  obtain ⟨G, rfl⟩ : ∃ G, F = G + 4 := ⟨F - 4, by omega⟩
  kernel_rfl
theorem a_mBack (F : Nat) (hF : 200 ≤ F) (a0 a1 a2 a3 a4 a5 a6 a7 a8 : Int) : ok_za F a0 a1 a2 a3 a4 a5 a6 a7 a8 = true ∧ o_za_0 F a0 a1 a2 a3 a4 a5 a6 a7 a8 = a0 ∧ o_za_1 F a0 a1 a2 a3 a4 a5 a6 a7 a8 = a3 ∧ o_za_2 F a0 a1 a2 a3 a4 a5 a6 a7 a8 = a6 ∧ o_za_3 F a0 a1 a2 a3 a4 a5 a6 a7 a8 = a1 ∧ o_za_4 F a0 a1 a2 a3 a4 a5 a6 a7 a8 = a4 ∧ o_za_5 F a0 a1 a2 a3 a4 a5 a6 a7 a8 = a7 ∧ o_za_6 F a0 a1 a2 a3 a4 a5 a6 a7 a8 = a2 ∧ o_za_7 F a0 a1 a2 a3 a4 a5 a6 a7 a8 = a5 ∧ o_za_8 F a0 a1 a2 a3 a4 a5 a6 a7 a8 = a8 := by
  refine k_za F _ _ _ _ _ _ _ _ _ ?_
  obtain ⟨G, rfl⟩ : ∃ G, F = G + 4 := ⟨F - 4, by omega⟩
  kernel_rfl
theorem f_Apply' (F : Nat) (hF : 200 ≤ F) {a0 a1 a2 a3 a4 a5 a6 a7 a8 u0 u1 u2 : Int} {p0 p1 p2 : Int} {c0 c1 c2 : Bool} (d0 : ok_pb F a0 a1 a2 u0 u1 u2 = true ∧ o_pb_0 F a0 a1 a2 u0 u1 u2 = p0 ∧ o_pb_1 F a0 a1 a2 u0 u1 u2 = c0) (d1 : ok_pb F a3 a4 a5 u0 u1 u2 = true ∧ o_pb_0 F a3 a4 a5 u0 u1 u2 = p1 ∧ o_pb_1 F a3 a4 a5 u0 u1 u2 = c1) (d2 : ok_pb F a6 a7 a8 u0 u1 u2 = true ∧ o_pb_0 F a6 a7 a8 u0 u1 u2 = p2 ∧ o_pb_1 F a6 a7 a8 u0 u1 u2 = c2) :
    f_ea F a0 a1 a2 a3 a4 a5 a6 a7 a8 u0 u1 u2 = some (.v (.tuple #[.agg #[.int .i64 p0, .int .i64 p1, .int .i64 p2], .bool (c0 || c1 || c2)])) := by
  obtain ⟨d01, d02, d03⟩ := d0
  obtain ⟨d11, d12, d13⟩ := d1
  obtain ⟨d21, d22, d23⟩ := d2
  have w1 : IntKind.wrap .i64 (0 + 1) = 1 := by decide
  have w2 : IntKind.wrap .i64 (1 + 1) = 2 := by decide
  have w3 : IntKind.wrap .i64 (2 + 1) = 3 := by decide
  unfold f_ea fg_ea
  obtain ⟨G, hG⟩ : ∃ G, F = G + 4 := ⟨F - 4, by omega⟩
  rw [show L_ea_0 F _ F = L_ea_0 F _ (G + 4) from congrArg (L_ea_0 F _) hG]
  have e00 : (iv [.v (.int .i64 a0), .v (.int .i64 a1), .v (.int .i64 a2), .v (.int .i64 a3), .v (.int .i64 a4), .v (.int .i64 a5), .v (.int .i64 a6), .v (.int .i64 a7), .v (.int .i64 a8)][Int.toNat 0 * 3]?) = a0 := rfl
  have e01 : (iv [.v (.int .i64 a0), .v (.int .i64 a1), .v (.int .i64 a2), .v (.int .i64 a3), .v (.int .i64 a4), .v (.int .i64 a5), .v (.int .i64 a6), .v (.int .i64 a7), .v (.int .i64 a8)][Int.toNat 0 * 3 + 1]?) = a1 := rfl
  have e02 : (iv [.v (.int .i64 a0), .v (.int .i64 a1), .v (.int .i64 a2), .v (.int .i64 a3), .v (.int .i64 a4), .v (.int .i64 a5), .v (.int .i64 a6), .v (.int .i64 a7), .v (.int .i64 a8)][Int.toNat 0 * 3 + 1 + 1]?) = a2 := rfl
  have e10 : (iv [.v (.int .i64 a0), .v (.int .i64 a1), .v (.int .i64 a2), .v (.int .i64 a3), .v (.int .i64 a4), .v (.int .i64 a5), .v (.int .i64 a6), .v (.int .i64 a7), .v (.int .i64 a8)][Int.toNat 1 * 3]?) = a3 := rfl
  have e11 : (iv [.v (.int .i64 a0), .v (.int .i64 a1), .v (.int .i64 a2), .v (.int .i64 a3), .v (.int .i64 a4), .v (.int .i64 a5), .v (.int .i64 a6), .v (.int .i64 a7), .v (.int .i64 a8)][Int.toNat 1 * 3 + 1]?) = a4 := rfl
  have e12 : (iv [.v (.int .i64 a0), .v (.int .i64 a1), .v (.int .i64 a2), .v (.int .i64 a3), .v (.int .i64 a4), .v (.int .i64 a5), .v (.int .i64 a6), .v (.int .i64 a7), .v (.int .i64 a8)][Int.toNat 1 * 3 + 1 + 1]?) = a5 := rfl
  have e20 : (iv [.v (.int .i64 a0), .v (.int .i64 a1), .v (.int .i64 a2), .v (.int .i64 a3), .v (.int .i64 a4), .v (.int .i64 a5), .v (.int .i64 a6), .v (.int .i64 a7), .v (.int .i64 a8)][Int.toNat 2 * 3]?) = a6 := rfl
  have e21 : (iv [.v (.int .i64 a0), .v (.int .i64 a1), .v (.int .i64 a2), .v (.int .i64 a3), .v (.int .i64 a4), .v (.int .i64 a5), .v (.int .i64 a6), .v (.int .i64 a7), .v (.int .i64 a8)][Int.toNat 2 * 3 + 1]?) = a7 := rfl
  have e22 : (iv [.v (.int .i64 a0), .v (.int .i64 a1), .v (.int .i64 a2), .v (.int .i64 a3), .v (.int .i64 a4), .v (.int .i64 a5), .v (.int .i64 a6), .v (.int .i64 a7), .v (.int .i64 a8)][Int.toNat 2 * 3 + 1 + 1]?) = a8 := rfl
  rw [L_ea_0]
  unfold B_ea_0 Bg_ea_0
  refine bp rfl (bp rfl ?_)
  rw [e00, e01, e02]
  refine bp d01 ?_
  rw [d02, d03]
  refine bn rfl (bp rfl (bp rfl ?_))
  rw [w1]
  cases c0
  · rw [L_ea_0]
    unfold B_ea_0 Bg_ea_0
    refine bp rfl (bp rfl ?_)
    rw [e10, e11, e12]
    refine bp d11 ?_
    rw [d12, d13]
    refine bn rfl (bp rfl (bp rfl ?_))
    rw [w2]
    cases c1
    · rw [L_ea_0]
      unfold B_ea_0 Bg_ea_0
      refine bp rfl (bp rfl ?_)
      rw [e20, e21, e22]
      refine bp d21 ?_
      rw [d22, d23]
      refine bn rfl (bp rfl (bp rfl ?_))
      rw [w3]
      rw [L_ea_0]
      unfold B_ea_0 Bg_ea_0
      exact bn rfl (bp rfl rfl)
    · rw [L_ea_0]
      unfold B_ea_0 Bg_ea_0
      refine bp rfl (bp rfl ?_)
      rw [e20, e21, e22]
      refine bp d21 ?_
      rw [d22]
      refine bp rfl (bp rfl (bp rfl ?_))
      rw [w3]
      rw [L_ea_0]
      unfold B_ea_0 Bg_ea_0
      exact bn rfl (bp rfl rfl)
  · rw [L_ea_0]
    unfold B_ea_0 Bg_ea_0
    refine bp rfl (bp rfl ?_)
    rw [e10, e11, e12]
    refine bp d11 ?_
    rw [d12]
    refine bp rfl (bp rfl (bp rfl ?_))
    rw [w2]
    rw [L_ea_0]
    unfold B_ea_0 Bg_ea_0
    refine bp rfl (bp rfl ?_)
    rw [e20, e21, e22]
    refine bp d21 ?_
    rw [d22]
    refine bp rfl (bp rfl (bp rfl ?_))
    rw [w3]
    rw [L_ea_0]
    unfold B_ea_0 Bg_ea_0
    exact bn rfl (bp rfl rfl)
theorem a_mApply (F : Nat) (hF : 200 ≤ F) {a0 a1 a2 a3 a4 a5 a6 a7 a8 u0 u1 u2 : Int} (ha0 : I64 a0) (ha1 : I64 a1) (ha2 : I64 a2) (ha3 : I64 a3) (ha4 : I64 a4) (ha5 : I64 a5) (ha6 : I64 a6) (ha7 : I64 a7) (ha8 : I64 a8) (hu0 : I64 u0) (hu1 : I64 u1) (hu2 : I64 u2) : ok_ea F a0 a1 a2 a3 a4 a5 a6 a7 a8 u0 u1 u2 = true ∧ o_ea_0 F a0 a1 a2 a3 a4 a5 a6 a7 a8 u0 u1 u2 = clipV (dotZ a0 a1 a2 u0 u1 u2) ∧ o_ea_1 F a0 a1 a2 a3 a4 a5 a6 a7 a8 u0 u1 u2 = clipV (dotZ a3 a4 a5 u0 u1 u2) ∧ o_ea_2 F a0 a1 a2 a3 a4 a5 a6 a7 a8 u0 u1 u2 = clipV (dotZ a6 a7 a8 u0 u1 u2) ∧ o_ea_3 F a0 a1 a2 a3 a4 a5 a6 a7 a8 u0 u1 u2 = (clipC (dotZ a0 a1 a2 u0 u1 u2) || clipC (dotZ a3 a4 a5 u0 u1 u2) || clipC (dotZ a6 a7 a8 u0 u1 u2)) :=
  k_ea F _ _ _ _ _ _ _ _ _ _ _ _ (f_Apply' F hF (a_Dot F hF ha0 ha1 ha2 hu0 hu1 hu2) (a_Dot F hF ha3 ha4 ha5 hu0 hu1 hu2) (a_Dot F hF ha6 ha7 ha8 hu0 hu1 hu2))
theorem f_Mul' (F : Nat) (hF : 200 ≤ F) {a0 a1 a2 a3 a4 a5 a6 a7 a8 b0 b1 b2 b3 b4 b5 b6 b7 b8 : Int} {p0 p1 p2 p3 p4 p5 p6 p7 p8 : Int} {c0 c1 c2 : Bool} (d0 : ok_ea F b0 b3 b6 b1 b4 b7 b2 b5 b8 a0 a1 a2 = true ∧ o_ea_0 F b0 b3 b6 b1 b4 b7 b2 b5 b8 a0 a1 a2 = p0 ∧ o_ea_1 F b0 b3 b6 b1 b4 b7 b2 b5 b8 a0 a1 a2 = p1 ∧ o_ea_2 F b0 b3 b6 b1 b4 b7 b2 b5 b8 a0 a1 a2 = p2 ∧ o_ea_3 F b0 b3 b6 b1 b4 b7 b2 b5 b8 a0 a1 a2 = c0) (d1 : ok_ea F b0 b3 b6 b1 b4 b7 b2 b5 b8 a3 a4 a5 = true ∧ o_ea_0 F b0 b3 b6 b1 b4 b7 b2 b5 b8 a3 a4 a5 = p3 ∧ o_ea_1 F b0 b3 b6 b1 b4 b7 b2 b5 b8 a3 a4 a5 = p4 ∧ o_ea_2 F b0 b3 b6 b1 b4 b7 b2 b5 b8 a3 a4 a5 = p5 ∧ o_ea_3 F b0 b3 b6 b1 b4 b7 b2 b5 b8 a3 a4 a5 = c1) (d2 : ok_ea F b0 b3 b6 b1 b4 b7 b2 b5 b8 a6 a7 a8 = true ∧ o_ea_0 F b0 b3 b6 b1 b4 b7 b2 b5 b8 a6 a7 a8 = p6 ∧ o_ea_1 F b0 b3 b6 b1 b4 b7 b2 b5 b8 a6 a7 a8 = p7 ∧ o_ea_2 F b0 b3 b6 b1 b4 b7 b2 b5 b8 a6 a7 a8 = p8 ∧ o_ea_3 F b0 b3 b6 b1 b4 b7 b2 b5 b8 a6 a7 a8 = c2) :
    f_ob F a0 a1 a2 a3 a4 a5 a6 a7 a8 b0 b1 b2 b3 b4 b5 b6 b7 b8 = some (.v (.tuple #[.agg #[.int .i64 p0, .int .i64 p1, .int .i64 p2, .int .i64 p3, .int .i64 p4, .int .i64 p5, .int .i64 p6, .int .i64 p7, .int .i64 p8], .bool (c0 || c1 || c2)])) := by
  obtain ⟨d01, d02, d03, d04, d05⟩ := d0
  obtain ⟨d11, d12, d13, d14, d15⟩ := d1
  obtain ⟨d21, d22, d23, d24, d25⟩ := d2
  have w1 : IntKind.wrap .i64 (0 + 1) = 1 := by decide
  have w2 : IntKind.wrap .i64 (1 + 1) = 2 := by decide
  have w3 : IntKind.wrap .i64 (2 + 1) = 3 := by decide
  unfold f_ob fg_ob
  obtain ⟨b0_, bb0, bb1, bb2, bb3, bb4, bb5, bb6, bb7, bb8⟩ := a_mBack F hF b0 b1 b2 b3 b4 b5 b6 b7 b8
  refine bp b0_ ?_
  rw [bb0, bb1, bb2, bb3, bb4, bb5, bb6, bb7, bb8]
  obtain ⟨G, hG⟩ : ∃ G, F = G + 4 := ⟨F - 4, by omega⟩
  rw [show L_ob_0 F _ F = L_ob_0 F _ (G + 4) from congrArg (L_ob_0 F _) hG]
  have e00 : (iv [.v (.int .i64 a0), .v (.int .i64 a1), .v (.int .i64 a2), .v (.int .i64 a3), .v (.int .i64 a4), .v (.int .i64 a5), .v (.int .i64 a6), .v (.int .i64 a7), .v (.int .i64 a8)][Int.toNat 0 * 3]?) = a0 := rfl
  have e01 : (iv [.v (.int .i64 a0), .v (.int .i64 a1), .v (.int .i64 a2), .v (.int .i64 a3), .v (.int .i64 a4), .v (.int .i64 a5), .v (.int .i64 a6), .v (.int .i64 a7), .v (.int .i64 a8)][Int.toNat 0 * 3 + 1]?) = a1 := rfl
  have e02 : (iv [.v (.int .i64 a0), .v (.int .i64 a1), .v (.int .i64 a2), .v (.int .i64 a3), .v (.int .i64 a4), .v (.int .i64 a5), .v (.int .i64 a6), .v (.int .i64 a7), .v (.int .i64 a8)][Int.toNat 0 * 3 + 1 + 1]?) = a2 := rfl
  have e10 : (iv [.v (.int .i64 a0), .v (.int .i64 a1), .v (.int .i64 a2), .v (.int .i64 a3), .v (.int .i64 a4), .v (.int .i64 a5), .v (.int .i64 a6), .v (.int .i64 a7), .v (.int .i64 a8)][Int.toNat 1 * 3]?) = a3 := rfl
  have e11 : (iv [.v (.int .i64 a0), .v (.int .i64 a1), .v (.int .i64 a2), .v (.int .i64 a3), .v (.int .i64 a4), .v (.int .i64 a5), .v (.int .i64 a6), .v (.int .i64 a7), .v (.int .i64 a8)][Int.toNat 1 * 3 + 1]?) = a4 := rfl
  have e12 : (iv [.v (.int .i64 a0), .v (.int .i64 a1), .v (.int .i64 a2), .v (.int .i64 a3), .v (.int .i64 a4), .v (.int .i64 a5), .v (.int .i64 a6), .v (.int .i64 a7), .v (.int .i64 a8)][Int.toNat 1 * 3 + 1 + 1]?) = a5 := rfl
  have e20 : (iv [.v (.int .i64 a0), .v (.int .i64 a1), .v (.int .i64 a2), .v (.int .i64 a3), .v (.int .i64 a4), .v (.int .i64 a5), .v (.int .i64 a6), .v (.int .i64 a7), .v (.int .i64 a8)][Int.toNat 2 * 3]?) = a6 := rfl
  have e21 : (iv [.v (.int .i64 a0), .v (.int .i64 a1), .v (.int .i64 a2), .v (.int .i64 a3), .v (.int .i64 a4), .v (.int .i64 a5), .v (.int .i64 a6), .v (.int .i64 a7), .v (.int .i64 a8)][Int.toNat 2 * 3 + 1]?) = a7 := rfl
  have e22 : (iv [.v (.int .i64 a0), .v (.int .i64 a1), .v (.int .i64 a2), .v (.int .i64 a3), .v (.int .i64 a4), .v (.int .i64 a5), .v (.int .i64 a6), .v (.int .i64 a7), .v (.int .i64 a8)][Int.toNat 2 * 3 + 1 + 1]?) = a8 := rfl
  rw [L_ob_0]
  unfold B_ob_0 Bg_ob_0
  refine bp rfl (bp rfl ?_)
  rw [e00, e01, e02]
  refine bp d01 ?_
  rw [d02, d03, d04, d05]
  refine bn rfl (bp rfl (bp rfl ?_))
  rw [w1]
  cases c0
  · rw [L_ob_0]
    unfold B_ob_0 Bg_ob_0
    refine bp rfl (bp rfl ?_)
    rw [e10, e11, e12]
    refine bp d11 ?_
    rw [d12, d13, d14, d15]
    refine bn rfl (bp rfl (bp rfl ?_))
    rw [w2]
    cases c1
    · rw [L_ob_0]
      unfold B_ob_0 Bg_ob_0
      refine bp rfl (bp rfl ?_)
      rw [e20, e21, e22]
      refine bp d21 ?_
      rw [d22, d23, d24, d25]
      refine bn rfl (bp rfl (bp rfl ?_))
      rw [w3]
      rw [L_ob_0]
      unfold B_ob_0 Bg_ob_0
      exact bn rfl (bp rfl rfl)
    · rw [L_ob_0]
      unfold B_ob_0 Bg_ob_0
      refine bp rfl (bp rfl ?_)
      rw [e20, e21, e22]
      refine bp d21 ?_
      rw [d22, d23, d24]
      refine bp rfl (bp rfl (bp rfl ?_))
      rw [w3]
      rw [L_ob_0]
      unfold B_ob_0 Bg_ob_0
      exact bn rfl (bp rfl rfl)
  · rw [L_ob_0]
    unfold B_ob_0 Bg_ob_0
    refine bp rfl (bp rfl ?_)
    rw [e10, e11, e12]
    refine bp d11 ?_
    rw [d12, d13, d14]
    refine bp rfl (bp rfl (bp rfl ?_))
    rw [w2]
    rw [L_ob_0]
    unfold B_ob_0 Bg_ob_0
    refine bp rfl (bp rfl ?_)
    rw [e20, e21, e22]
    refine bp d21 ?_
    rw [d22, d23, d24]
    refine bp rfl (bp rfl (bp rfl ?_))
    rw [w3]
    rw [L_ob_0]
    unfold B_ob_0 Bg_ob_0
    exact bn rfl (bp rfl rfl)
theorem a_mMul (F : Nat) (hF : 200 ≤ F) {a0 a1 a2 a3 a4 a5 a6 a7 a8 b0 b1 b2 b3 b4 b5 b6 b7 b8 : Int} (ha0 : I64 a0) (ha1 : I64 a1) (ha2 : I64 a2) (ha3 : I64 a3) (ha4 : I64 a4) (ha5 : I64 a5) (ha6 : I64 a6) (ha7 : I64 a7) (ha8 : I64 a8) (hb0 : I64 b0) (hb1 : I64 b1) (hb2 : I64 b2) (hb3 : I64 b3) (hb4 : I64 b4) (hb5 : I64 b5) (hb6 : I64 b6) (hb7 : I64 b7) (hb8 : I64 b8) : ok_ob F a0 a1 a2 a3 a4 a5 a6 a7 a8 b0 b1 b2 b3 b4 b5 b6 b7 b8 = true ∧ o_ob_0 F a0 a1 a2 a3 a4 a5 a6 a7 a8 b0 b1 b2 b3 b4 b5 b6 b7 b8 = clipV (dotZ a0 a1 a2 b0 b3 b6) ∧ o_ob_1 F a0 a1 a2 a3 a4 a5 a6 a7 a8 b0 b1 b2 b3 b4 b5 b6 b7 b8 = clipV (dotZ a0 a1 a2 b1 b4 b7) ∧ o_ob_2 F a0 a1 a2 a3 a4 a5 a6 a7 a8 b0 b1 b2 b3 b4 b5 b6 b7 b8 = clipV (dotZ a0 a1 a2 b2 b5 b8) ∧ o_ob_3 F a0 a1 a2 a3 a4 a5 a6 a7 a8 b0 b1 b2 b3 b4 b5 b6 b7 b8 = clipV (dotZ a3 a4 a5 b0 b3 b6) ∧ o_ob_4 F a0 a1 a2 a3 a4 a5 a6 a7 a8 b0 b1 b2 b3 b4 b5 b6 b7 b8 = clipV (dotZ a3 a4 a5 b1 b4 b7) ∧ o_ob_5 F a0 a1 a2 a3 a4 a5 a6 a7 a8 b0 b1 b2 b3 b4 b5 b6 b7 b8 = clipV (dotZ a3 a4 a5 b2 b5 b8) ∧ o_ob_6 F a0 a1 a2 a3 a4 a5 a6 a7 a8 b0 b1 b2 b3 b4 b5 b6 b7 b8 = clipV (dotZ a6 a7 a8 b0 b3 b6) ∧ o_ob_7 F a0 a1 a2 a3 a4 a5 a6 a7 a8 b0 b1 b2 b3 b4 b5 b6 b7 b8 = clipV (dotZ a6 a7 a8 b1 b4 b7) ∧ o_ob_8 F a0 a1 a2 a3 a4 a5 a6 a7 a8 b0 b1 b2 b3 b4 b5 b6 b7 b8 = clipV (dotZ a6 a7 a8 b2 b5 b8) ∧ o_ob_9 F a0 a1 a2 a3 a4 a5 a6 a7 a8 b0 b1 b2 b3 b4 b5 b6 b7 b8 = ((clipC (dotZ a0 a1 a2 b0 b3 b6) || clipC (dotZ a0 a1 a2 b1 b4 b7) || clipC (dotZ a0 a1 a2 b2 b5 b8)) || (clipC (dotZ a3 a4 a5 b0 b3 b6) || clipC (dotZ a3 a4 a5 b1 b4 b7) || clipC (dotZ a3 a4 a5 b2 b5 b8)) || (clipC (dotZ a6 a7 a8 b0 b3 b6) || clipC (dotZ a6 a7 a8 b1 b4 b7) || clipC (dotZ a6 a7 a8 b2 b5 b8))) := by
  have d0 := a_mApply F hF hb0 hb3 hb6 hb1 hb4 hb7 hb2 hb5 hb8 ha0 ha1 ha2
  rw [dot_turn a0 a1 a2 b0 b3 b6, dot_turn a0 a1 a2 b1 b4 b7, dot_turn a0 a1 a2 b2 b5 b8] at d0
  have d1 := a_mApply F hF hb0 hb3 hb6 hb1 hb4 hb7 hb2 hb5 hb8 ha3 ha4 ha5
  rw [dot_turn a3 a4 a5 b0 b3 b6, dot_turn a3 a4 a5 b1 b4 b7, dot_turn a3 a4 a5 b2 b5 b8] at d1
  have d2 := a_mApply F hF hb0 hb3 hb6 hb1 hb4 hb7 hb2 hb5 hb8 ha6 ha7 ha8
  rw [dot_turn a6 a7 a8 b0 b3 b6, dot_turn a6 a7 a8 b1 b4 b7, dot_turn a6 a7 a8 b2 b5 b8] at d2
  exact k_ob F _ _ _ _ _ _ _ _ _ _ _ _ _ _ _ _ _ _ (f_Mul' F hF d0 d1 d2)
theorem neg_both (x : Int) : IntKind.wrap .i64 (0 - bothS x) = -bothS x := by
  have := (both_bd x).2
  rw [wi64_in (by unfold I64; omega), Int.zero_sub]
theorem a_mAbout0 (F : Nat) (hF : 200 ≤ F) {x : Int} (hx : U32 x) : ok_da F 0 x = true ∧ o_da_0 F 0 x = 4294967296 ∧ o_da_1 F 0 x = 0 ∧ o_da_2 F 0 x = 0 ∧ o_da_3 F 0 x = 0 ∧ o_da_4 F 0 x = (bothC x) ∧ o_da_5 F 0 x = (-bothS x) ∧ o_da_6 F 0 x = 0 ∧ o_da_7 F 0 x = (bothS x) ∧ o_da_8 F 0 x = (bothC x) ∧ o_da_9 F 0 x = 0 := by
  refine k_da F _ _ ?_
  unfold f_da fg_da
  obtain ⟨h1, h2, h3⟩ := a_tBoth F hF hx
  obtain ⟨m0, mm0, mm1, mm2, mm3, mm4, mm5, mm6, mm7, mm8⟩ := a_mSame F hF
  have w1 : Int.tmod (IntKind.wrap .i64 (0 + 1)) 3 = 1 := by decide
  have w2 : Int.tmod (IntKind.wrap .i64 (0 + 2)) 3 = 2 := by decide
  refine bn rfl (bn rfl (bp h1 ?_))
  rw [h2, h3, w1, w2]
  refine bp m0 ?_
  rw [mm0, mm1, mm2, mm3, mm4, mm5, mm6, mm7, mm8]
  dsimp only
  rw [neg_both]
  refine bp rfl (bp rfl (bp rfl (bp rfl (bp rfl (bp rfl (bp rfl (bp rfl (bp rfl (bp rfl (bp rfl (bp rfl (bp rfl ?_))))))))))))
  rfl
theorem a_mAbout1 (F : Nat) (hF : 200 ≤ F) {x : Int} (hx : U32 x) : ok_da F 1 x = true ∧ o_da_0 F 1 x = (bothC x) ∧ o_da_1 F 1 x = 0 ∧ o_da_2 F 1 x = (bothS x) ∧ o_da_3 F 1 x = 0 ∧ o_da_4 F 1 x = 4294967296 ∧ o_da_5 F 1 x = 0 ∧ o_da_6 F 1 x = (-bothS x) ∧ o_da_7 F 1 x = 0 ∧ o_da_8 F 1 x = (bothC x) ∧ o_da_9 F 1 x = 0 := by
  refine k_da F _ _ ?_
  unfold f_da fg_da
  obtain ⟨h1, h2, h3⟩ := a_tBoth F hF hx
  obtain ⟨m0, mm0, mm1, mm2, mm3, mm4, mm5, mm6, mm7, mm8⟩ := a_mSame F hF
  have w1 : Int.tmod (IntKind.wrap .i64 (1 + 1)) 3 = 2 := by decide
  have w2 : Int.tmod (IntKind.wrap .i64 (1 + 2)) 3 = 0 := by decide
  refine bn rfl (bn rfl (bp h1 ?_))
  rw [h2, h3, w1, w2]
  refine bp m0 ?_
  rw [mm0, mm1, mm2, mm3, mm4, mm5, mm6, mm7, mm8]
  dsimp only
  rw [neg_both]
  refine bp rfl (bp rfl (bp rfl (bp rfl (bp rfl (bp rfl (bp rfl (bp rfl (bp rfl (bp rfl (bp rfl (bp rfl (bp rfl ?_))))))))))))
  rfl
theorem a_mAbout2 (F : Nat) (hF : 200 ≤ F) {x : Int} (hx : U32 x) : ok_da F 2 x = true ∧ o_da_0 F 2 x = (bothC x) ∧ o_da_1 F 2 x = (-bothS x) ∧ o_da_2 F 2 x = 0 ∧ o_da_3 F 2 x = (bothS x) ∧ o_da_4 F 2 x = (bothC x) ∧ o_da_5 F 2 x = 0 ∧ o_da_6 F 2 x = 0 ∧ o_da_7 F 2 x = 0 ∧ o_da_8 F 2 x = 4294967296 ∧ o_da_9 F 2 x = 0 := by
  refine k_da F _ _ ?_
  unfold f_da fg_da
  obtain ⟨h1, h2, h3⟩ := a_tBoth F hF hx
  obtain ⟨m0, mm0, mm1, mm2, mm3, mm4, mm5, mm6, mm7, mm8⟩ := a_mSame F hF
  have w1 : Int.tmod (IntKind.wrap .i64 (2 + 1)) 3 = 0 := by decide
  have w2 : Int.tmod (IntKind.wrap .i64 (2 + 2)) 3 = 1 := by decide
  refine bn rfl (bn rfl (bp h1 ?_))
  rw [h2, h3, w1, w2]
  refine bp m0 ?_
  rw [mm0, mm1, mm2, mm3, mm4, mm5, mm6, mm7, mm8]
  dsimp only
  rw [neg_both]
  refine bp rfl (bp rfl (bp rfl (bp rfl (bp rfl (bp rfl (bp rfl (bp rfl (bp rfl (bp rfl (bp rfl (bp rfl (bp rfl ?_))))))))))))
  rfl
theorem a_Heading (F : Nat) (hF : 200 ≤ F) {a0 a1 a2 a3 a4 a5 a6 a7 a8 : Int} (ha0 : I64 a0) (ha3 : I64 a3) : ok_j F a0 a1 a2 a3 a4 a5 a6 a7 a8 = true ∧ o_j_0 F a0 a1 a2 a3 a4 a5 a6 a7 a8 = angle a3 a0 := by
  refine k_j F _ _ _ _ _ _ _ _ _ ?_
  unfold f_j fg_j
  obtain ⟨h1, h2⟩ := a_tAngle F hF ha3 ha0
  refine bp h1 ?_
  rw [h2]
end Go.Xv
namespace Go.Xv
noncomputable def oD (a0 a1 a2 a3 a4 a5 a6 a7 a8 : Int) : Int := clipV (dotZ a3 a4 a5 (unV a0 a0 a1 a2) (unV a1 a0 a1 a2) (unV a2 a0 a1 a2))
noncomputable def oR0 (a0 a1 a2 a3 a4 a5 a6 a7 a8 : Int) : Int := clipV (a3 - clipV (pr (unV a0 a0 a1 a2) (oD a0 a1 a2 a3 a4 a5 a6 a7 a8)))
noncomputable def oR1 (a0 a1 a2 a3 a4 a5 a6 a7 a8 : Int) : Int := clipV (a4 - clipV (pr (unV a1 a0 a1 a2) (oD a0 a1 a2 a3 a4 a5 a6 a7 a8)))
noncomputable def oR2 (a0 a1 a2 a3 a4 a5 a6 a7 a8 : Int) : Int := clipV (a5 - clipV (pr (unV a2 a0 a1 a2) (oD a0 a1 a2 a3 a4 a5 a6 a7 a8)))
noncomputable def oY0 (a0 a1 a2 a3 a4 a5 a6 a7 a8 : Int) : Int := unV (oR0 a0 a1 a2 a3 a4 a5 a6 a7 a8) (oR0 a0 a1 a2 a3 a4 a5 a6 a7 a8) (oR1 a0 a1 a2 a3 a4 a5 a6 a7 a8) (oR2 a0 a1 a2 a3 a4 a5 a6 a7 a8)
noncomputable def oY1 (a0 a1 a2 a3 a4 a5 a6 a7 a8 : Int) : Int := unV (oR1 a0 a1 a2 a3 a4 a5 a6 a7 a8) (oR0 a0 a1 a2 a3 a4 a5 a6 a7 a8) (oR1 a0 a1 a2 a3 a4 a5 a6 a7 a8) (oR2 a0 a1 a2 a3 a4 a5 a6 a7 a8)
noncomputable def oY2 (a0 a1 a2 a3 a4 a5 a6 a7 a8 : Int) : Int := unV (oR2 a0 a1 a2 a3 a4 a5 a6 a7 a8) (oR0 a0 a1 a2 a3 a4 a5 a6 a7 a8) (oR1 a0 a1 a2 a3 a4 a5 a6 a7 a8) (oR2 a0 a1 a2 a3 a4 a5 a6 a7 a8)
noncomputable def oZ0 (a0 a1 a2 a3 a4 a5 a6 a7 a8 : Int) : Int := clipV (arZ (unV a1 a0 a1 a2) (oY2 a0 a1 a2 a3 a4 a5 a6 a7 a8) (unV a2 a0 a1 a2) (oY1 a0 a1 a2 a3 a4 a5 a6 a7 a8))
noncomputable def oZ1 (a0 a1 a2 a3 a4 a5 a6 a7 a8 : Int) : Int := clipV (arZ (unV a2 a0 a1 a2) (oY0 a0 a1 a2 a3 a4 a5 a6 a7 a8) (unV a0 a0 a1 a2) (oY2 a0 a1 a2 a3 a4 a5 a6 a7 a8))
noncomputable def oZ2 (a0 a1 a2 a3 a4 a5 a6 a7 a8 : Int) : Int := clipV (arZ (unV a0 a0 a1 a2) (oY1 a0 a1 a2 a3 a4 a5 a6 a7 a8) (unV a1 a0 a1 a2) (oY0 a0 a1 a2 a3 a4 a5 a6 a7 a8))
noncomputable def ortC (a0 a1 a2 a3 a4 a5 a6 a7 a8 : Int) : Bool := unitOK a0 a1 a2 && (unitOK (oR0 a0 a1 a2 a3 a4 a5 a6 a7 a8) (oR1 a0 a1 a2 a3 a4 a5 a6 a7 a8) (oR2 a0 a1 a2 a3 a4 a5 a6 a7 a8) && (!clipC (dotZ a3 a4 a5 (unV a0 a0 a1 a2) (unV a1 a0 a1 a2) (unV a2 a0 a1 a2)) && (!(clipC (pr (unV a0 a0 a1 a2) (oD a0 a1 a2 a3 a4 a5 a6 a7 a8)) || clipC (pr (unV a1 a0 a1 a2) (oD a0 a1 a2 a3 a4 a5 a6 a7 a8)) || clipC (pr (unV a2 a0 a1 a2) (oD a0 a1 a2 a3 a4 a5 a6 a7 a8))) && (!(clipC (a3 - clipV (pr (unV a0 a0 a1 a2) (oD a0 a1 a2 a3 a4 a5 a6 a7 a8))) || clipC (a4 - clipV (pr (unV a1 a0 a1 a2) (oD a0 a1 a2 a3 a4 a5 a6 a7 a8))) || clipC (a5 - clipV (pr (unV a2 a0 a1 a2) (oD a0 a1 a2 a3 a4 a5 a6 a7 a8)))) && !(clipC (arZ (unV a1 a0 a1 a2) (oY2 a0 a1 a2 a3 a4 a5 a6 a7 a8) (unV a2 a0 a1 a2) (oY1 a0 a1 a2 a3 a4 a5 a6 a7 a8)) || clipC (arZ (unV a2 a0 a1 a2) (oY0 a0 a1 a2 a3 a4 a5 a6 a7 a8) (unV a0 a0 a1 a2) (oY2 a0 a1 a2 a3 a4 a5 a6 a7 a8)) || clipC (arZ (unV a0 a0 a1 a2) (oY1 a0 a1 a2 a3 a4 a5 a6 a7 a8) (unV a1 a0 a1 a2) (oY0 a0 a1 a2 a3 a4 a5 a6 a7 a8)))))))
noncomputable def ort0 (a0 a1 a2 a3 a4 a5 a6 a7 a8 : Int) : Int := if ortC a0 a1 a2 a3 a4 a5 a6 a7 a8 = true then (unV a0 a0 a1 a2) else 4294967296
noncomputable def ort1 (a0 a1 a2 a3 a4 a5 a6 a7 a8 : Int) : Int := if ortC a0 a1 a2 a3 a4 a5 a6 a7 a8 = true then (unV a1 a0 a1 a2) else 0
noncomputable def ort2 (a0 a1 a2 a3 a4 a5 a6 a7 a8 : Int) : Int := if ortC a0 a1 a2 a3 a4 a5 a6 a7 a8 = true then (unV a2 a0 a1 a2) else 0
noncomputable def ort3 (a0 a1 a2 a3 a4 a5 a6 a7 a8 : Int) : Int := if ortC a0 a1 a2 a3 a4 a5 a6 a7 a8 = true then (oY0 a0 a1 a2 a3 a4 a5 a6 a7 a8) else 0
noncomputable def ort4 (a0 a1 a2 a3 a4 a5 a6 a7 a8 : Int) : Int := if ortC a0 a1 a2 a3 a4 a5 a6 a7 a8 = true then (oY1 a0 a1 a2 a3 a4 a5 a6 a7 a8) else 4294967296
noncomputable def ort5 (a0 a1 a2 a3 a4 a5 a6 a7 a8 : Int) : Int := if ortC a0 a1 a2 a3 a4 a5 a6 a7 a8 = true then (oY2 a0 a1 a2 a3 a4 a5 a6 a7 a8) else 0
noncomputable def ort6 (a0 a1 a2 a3 a4 a5 a6 a7 a8 : Int) : Int := if ortC a0 a1 a2 a3 a4 a5 a6 a7 a8 = true then (oZ0 a0 a1 a2 a3 a4 a5 a6 a7 a8) else 0
noncomputable def ort7 (a0 a1 a2 a3 a4 a5 a6 a7 a8 : Int) : Int := if ortC a0 a1 a2 a3 a4 a5 a6 a7 a8 = true then (oZ1 a0 a1 a2 a3 a4 a5 a6 a7 a8) else 0
noncomputable def ort8 (a0 a1 a2 a3 a4 a5 a6 a7 a8 : Int) : Int := if ortC a0 a1 a2 a3 a4 a5 a6 a7 a8 = true then (oZ2 a0 a1 a2 a3 a4 a5 a6 a7 a8) else 4294967296
theorem fdivV_I (a b : Int) : I64 (fdivV a b) := by
  unfold fdivV
  split
  · unfold I64; split <;> (try split) <;> omega
  · exact clipV_I _
theorem unV_I (k a b c : Int) : I64 (unV k a b c) := by
  unfold unV
  split
  · exact fdivV_I _ _
  · unfold I64; omega
theorem some_mat {x0 x1 x2 x3 x4 x5 x6 x7 x8 y0 y1 y2 y3 y4 y5 y6 y7 y8 : Int} {c d : Bool} (h0 : x0 = y0) (h1 : x1 = y1) (h2 : x2 = y2) (h3 : x3 = y3) (h4 : x4 = y4) (h5 : x5 = y5) (h6 : x6 = y6) (h7 : x7 = y7) (h8 : x8 = y8) (h : c = d) : (some (VV.v (.tuple #[.agg #[.int .i64 x0, .int .i64 x1, .int .i64 x2, .int .i64 x3, .int .i64 x4, .int .i64 x5, .int .i64 x6, .int .i64 x7, .int .i64 x8], .bool c])) : R) = some (.v (.tuple #[.agg #[.int .i64 y0, .int .i64 y1, .int .i64 y2, .int .i64 y3, .int .i64 y4, .int .i64 y5, .int .i64 y6, .int .i64 y7, .int .i64 y8], .bool d])) := by
  rw [h0, h1, h2, h3, h4, h5, h6, h7, h8, h]
theorem ort_no {a0 a1 a2 a3 a4 a5 a6 a7 a8 : Int} (h : ortC a0 a1 a2 a3 a4 a5 a6 a7 a8 = false) : (some (VV.v (.tuple #[.agg #[.int .i64 4294967296, .int .i64 0, .int .i64 0, .int .i64 0, .int .i64 4294967296, .int .i64 0, .int .i64 0, .int .i64 0, .int .i64 4294967296], .bool false])) : R) = some (.v (.tuple #[.agg #[.int .i64 (ort0 a0 a1 a2 a3 a4 a5 a6 a7 a8), .int .i64 (ort1 a0 a1 a2 a3 a4 a5 a6 a7 a8), .int .i64 (ort2 a0 a1 a2 a3 a4 a5 a6 a7 a8), .int .i64 (ort3 a0 a1 a2 a3 a4 a5 a6 a7 a8), .int .i64 (ort4 a0 a1 a2 a3 a4 a5 a6 a7 a8), .int .i64 (ort5 a0 a1 a2 a3 a4 a5 a6 a7 a8), .int .i64 (ort6 a0 a1 a2 a3 a4 a5 a6 a7 a8), .int .i64 (ort7 a0 a1 a2 a3 a4 a5 a6 a7 a8), .int .i64 (ort8 a0 a1 a2 a3 a4 a5 a6 a7 a8)], .bool (ortC a0 a1 a2 a3 a4 a5 a6 a7 a8)])) := by
  refine some_mat ?_ ?_ ?_ ?_ ?_ ?_ ?_ ?_ ?_ h.symm
  · unfold ort0; rw [h]; rfl
  · unfold ort1; rw [h]; rfl
  · unfold ort2; rw [h]; rfl
  · unfold ort3; rw [h]; rfl
  · unfold ort4; rw [h]; rfl
  · unfold ort5; rw [h]; rfl
  · unfold ort6; rw [h]; rfl
  · unfold ort7; rw [h]; rfl
  · unfold ort8; rw [h]; rfl
theorem ort_yes {a0 a1 a2 a3 a4 a5 a6 a7 a8 : Int} (h : ortC a0 a1 a2 a3 a4 a5 a6 a7 a8 = true) : (some (VV.v (.tuple #[.agg #[.int .i64 (unV a0 a0 a1 a2), .int .i64 (unV a1 a0 a1 a2), .int .i64 (unV a2 a0 a1 a2), .int .i64 (oY0 a0 a1 a2 a3 a4 a5 a6 a7 a8), .int .i64 (oY1 a0 a1 a2 a3 a4 a5 a6 a7 a8), .int .i64 (oY2 a0 a1 a2 a3 a4 a5 a6 a7 a8), .int .i64 (oZ0 a0 a1 a2 a3 a4 a5 a6 a7 a8), .int .i64 (oZ1 a0 a1 a2 a3 a4 a5 a6 a7 a8), .int .i64 (oZ2 a0 a1 a2 a3 a4 a5 a6 a7 a8)], .bool true])) : R) = some (.v (.tuple #[.agg #[.int .i64 (ort0 a0 a1 a2 a3 a4 a5 a6 a7 a8), .int .i64 (ort1 a0 a1 a2 a3 a4 a5 a6 a7 a8), .int .i64 (ort2 a0 a1 a2 a3 a4 a5 a6 a7 a8), .int .i64 (ort3 a0 a1 a2 a3 a4 a5 a6 a7 a8), .int .i64 (ort4 a0 a1 a2 a3 a4 a5 a6 a7 a8), .int .i64 (ort5 a0 a1 a2 a3 a4 a5 a6 a7 a8), .int .i64 (ort6 a0 a1 a2 a3 a4 a5 a6 a7 a8), .int .i64 (ort7 a0 a1 a2 a3 a4 a5 a6 a7 a8), .int .i64 (ort8 a0 a1 a2 a3 a4 a5 a6 a7 a8)], .bool (ortC a0 a1 a2 a3 a4 a5 a6 a7 a8)])) := by
  refine some_mat ?_ ?_ ?_ ?_ ?_ ?_ ?_ ?_ ?_ h.symm
  · unfold ort0; rw [if_pos h]
  · unfold ort1; rw [if_pos h]
  · unfold ort2; rw [if_pos h]
  · unfold ort3; rw [if_pos h]
  · unfold ort4; rw [if_pos h]
  · unfold ort5; rw [if_pos h]
  · unfold ort6; rw [if_pos h]
  · unfold ort7; rw [if_pos h]
  · unfold ort8; rw [if_pos h]
theorem f_mat_Ortho' (F : Nat) (hF : 200 ≤ F) {a0 a1 a2 a3 a4 a5 a6 a7 a8 : Int} (ha0 : I64 a0) (ha1 : I64 a1) (ha2 : I64 a2) (ha3 : I64 a3) (ha4 : I64 a4) (ha5 : I64 a5) (ha6 : I64 a6) (ha7 : I64 a7) (ha8 : I64 a8) : f_fa F a0 a1 a2 a3 a4 a5 a6 a7 a8 = some (.v (.tuple #[.agg #[.int .i64 (ort0 a0 a1 a2 a3 a4 a5 a6 a7 a8), .int .i64 (ort1 a0 a1 a2 a3 a4 a5 a6 a7 a8), .int .i64 (ort2 a0 a1 a2 a3 a4 a5 a6 a7 a8), .int .i64 (ort3 a0 a1 a2 a3 a4 a5 a6 a7 a8), .int .i64 (ort4 a0 a1 a2 a3 a4 a5 a6 a7 a8), .int .i64 (ort5 a0 a1 a2 a3 a4 a5 a6 a7 a8), .int .i64 (ort6 a0 a1 a2 a3 a4 a5 a6 a7 a8), .int .i64 (ort7 a0 a1 a2 a3 a4 a5 a6 a7 a8), .int .i64 (ort8 a0 a1 a2 a3 a4 a5 a6 a7 a8)], .bool (ortC a0 a1 a2 a3 a4 a5 a6 a7 a8)])) := by
  unfold f_fa fg_fa
  obtain ⟨u0, u1, u2, u3, u4⟩ := a_vUnit F hF ha0 ha1 ha2
  obtain ⟨s0_, ss0, ss1, ss2, ss3, ss4, ss5, ss6, ss7, ss8⟩ := a_mSame F hF
  have no := fun h => ort_no (a0 := a0) (a1 := a1) (a2 := a2) (a3 := a3) (a4 := a4) (a5 := a5) (a6 := a6) (a7 := a7) (a8 := a8) h
  have yes := fun h => ort_yes (a0 := a0) (a1 := a1) (a2 := a2) (a3 := a3) (a4 := a4) (a5 := a5) (a6 := a6) (a7 := a7) (a8 := a8) h
  have dx0 := unV_I a0 a0 a1 a2
  have dx1 := unV_I a1 a0 a1 a2
  have dx2 := unV_I a2 a0 a1 a2
  obtain ⟨d0, d1, d2⟩ := a_Dot F hF ha3 ha4 ha5 dx0 dx1 dx2
  obtain ⟨c0, c1, c2, c3, c4⟩ := a_Scale F hF dx0 dx1 dx2 (clipV_I (dotZ a3 a4 a5 (unV a0 a0 a1 a2) (unV a1 a0 a1 a2) (unV a2 a0 a1 a2)))
  obtain ⟨b0, b1, b2, b3, b4⟩ := a_Sub F hF ha3 ha4 ha5 (clipV_I (pr (unV a0 a0 a1 a2) (clipV (dotZ a3 a4 a5 (unV a0 a0 a1 a2) (unV a1 a0 a1 a2) (unV a2 a0 a1 a2))))) (clipV_I (pr (unV a1 a0 a1 a2) (clipV (dotZ a3 a4 a5 (unV a0 a0 a1 a2) (unV a1 a0 a1 a2) (unV a2 a0 a1 a2))))) (clipV_I (pr (unV a2 a0 a1 a2) (clipV (dotZ a3 a4 a5 (unV a0 a0 a1 a2) (unV a1 a0 a1 a2) (unV a2 a0 a1 a2)))))
  obtain ⟨v0, v1, v2, v3, v4⟩ := a_vUnit F hF (clipV_I (a3 - clipV (pr (unV a0 a0 a1 a2) (clipV (dotZ a3 a4 a5 (unV a0 a0 a1 a2) (unV a1 a0 a1 a2) (unV a2 a0 a1 a2)))))) (clipV_I (a4 - clipV (pr (unV a1 a0 a1 a2) (clipV (dotZ a3 a4 a5 (unV a0 a0 a1 a2) (unV a1 a0 a1 a2) (unV a2 a0 a1 a2)))))) (clipV_I (a5 - clipV (pr (unV a2 a0 a1 a2) (clipV (dotZ a3 a4 a5 (unV a0 a0 a1 a2) (unV a1 a0 a1 a2) (unV a2 a0 a1 a2))))))
  obtain ⟨k0, k1, k2, k3, k4⟩ := a_Cross F hF dx0 dx1 dx2 (unV_I (clipV (a3 - clipV (pr (unV a0 a0 a1 a2) (clipV (dotZ a3 a4 a5 (unV a0 a0 a1 a2) (unV a1 a0 a1 a2) (unV a2 a0 a1 a2)))))) (clipV (a3 - clipV (pr (unV a0 a0 a1 a2) (clipV (dotZ a3 a4 a5 (unV a0 a0 a1 a2) (unV a1 a0 a1 a2) (unV a2 a0 a1 a2)))))) (clipV (a4 - clipV (pr (unV a1 a0 a1 a2) (clipV (dotZ a3 a4 a5 (unV a0 a0 a1 a2) (unV a1 a0 a1 a2) (unV a2 a0 a1 a2)))))) (clipV (a5 - clipV (pr (unV a2 a0 a1 a2) (clipV (dotZ a3 a4 a5 (unV a0 a0 a1 a2) (unV a1 a0 a1 a2) (unV a2 a0 a1 a2))))))) (unV_I (clipV (a4 - clipV (pr (unV a1 a0 a1 a2) (clipV (dotZ a3 a4 a5 (unV a0 a0 a1 a2) (unV a1 a0 a1 a2) (unV a2 a0 a1 a2)))))) (clipV (a3 - clipV (pr (unV a0 a0 a1 a2) (clipV (dotZ a3 a4 a5 (unV a0 a0 a1 a2) (unV a1 a0 a1 a2) (unV a2 a0 a1 a2)))))) (clipV (a4 - clipV (pr (unV a1 a0 a1 a2) (clipV (dotZ a3 a4 a5 (unV a0 a0 a1 a2) (unV a1 a0 a1 a2) (unV a2 a0 a1 a2)))))) (clipV (a5 - clipV (pr (unV a2 a0 a1 a2) (clipV (dotZ a3 a4 a5 (unV a0 a0 a1 a2) (unV a1 a0 a1 a2) (unV a2 a0 a1 a2))))))) (unV_I (clipV (a5 - clipV (pr (unV a2 a0 a1 a2) (clipV (dotZ a3 a4 a5 (unV a0 a0 a1 a2) (unV a1 a0 a1 a2) (unV a2 a0 a1 a2)))))) (clipV (a3 - clipV (pr (unV a0 a0 a1 a2) (clipV (dotZ a3 a4 a5 (unV a0 a0 a1 a2) (unV a1 a0 a1 a2) (unV a2 a0 a1 a2)))))) (clipV (a4 - clipV (pr (unV a1 a0 a1 a2) (clipV (dotZ a3 a4 a5 (unV a0 a0 a1 a2) (unV a1 a0 a1 a2) (unV a2 a0 a1 a2)))))) (clipV (a5 - clipV (pr (unV a2 a0 a1 a2) (clipV (dotZ a3 a4 a5 (unV a0 a0 a1 a2) (unV a1 a0 a1 a2) (unV a2 a0 a1 a2)))))))
  refine bp u0 ?_
  rw [u1, u2, u3, u4]
  cases q0 : unitOK a0 a1 a2 with
  | false => exact bp rfl (bp s0_ (by rw [ss0, ss1, ss2, ss3, ss4, ss5, ss6, ss7, ss8]; exact no (by unfold ortC; rw [q0]; rfl)))
  | true =>
    refine bn rfl (bp d0 ?_)
    rw [d1, d2]
    refine bp c0 ?_
    rw [c1, c2, c3, c4]
    refine bp b0 ?_
    rw [b1, b2, b3, b4]
    refine bp v0 ?_
    rw [v1, v2, v3, v4]
    have eo : ortC a0 a1 a2 a3 a4 a5 a6 a7 a8 = (true && ((unitOK (clipV (a3 - clipV (pr (unV a0 a0 a1 a2) (clipV (dotZ a3 a4 a5 (unV a0 a0 a1 a2) (unV a1 a0 a1 a2) (unV a2 a0 a1 a2)))))) (clipV (a4 - clipV (pr (unV a1 a0 a1 a2) (clipV (dotZ a3 a4 a5 (unV a0 a0 a1 a2) (unV a1 a0 a1 a2) (unV a2 a0 a1 a2)))))) (clipV (a5 - clipV (pr (unV a2 a0 a1 a2) (clipV (dotZ a3 a4 a5 (unV a0 a0 a1 a2) (unV a1 a0 a1 a2) (unV a2 a0 a1 a2))))))) && (!clipC (dotZ a3 a4 a5 (unV a0 a0 a1 a2) (unV a1 a0 a1 a2) (unV a2 a0 a1 a2)) && (!(clipC (pr (unV a0 a0 a1 a2) (clipV (dotZ a3 a4 a5 (unV a0 a0 a1 a2) (unV a1 a0 a1 a2) (unV a2 a0 a1 a2)))) || clipC (pr (unV a1 a0 a1 a2) (clipV (dotZ a3 a4 a5 (unV a0 a0 a1 a2) (unV a1 a0 a1 a2) (unV a2 a0 a1 a2)))) || clipC (pr (unV a2 a0 a1 a2) (clipV (dotZ a3 a4 a5 (unV a0 a0 a1 a2) (unV a1 a0 a1 a2) (unV a2 a0 a1 a2))))) && (!(clipC (a3 - clipV (pr (unV a0 a0 a1 a2) (clipV (dotZ a3 a4 a5 (unV a0 a0 a1 a2) (unV a1 a0 a1 a2) (unV a2 a0 a1 a2))))) || clipC (a4 - clipV (pr (unV a1 a0 a1 a2) (clipV (dotZ a3 a4 a5 (unV a0 a0 a1 a2) (unV a1 a0 a1 a2) (unV a2 a0 a1 a2))))) || clipC (a5 - clipV (pr (unV a2 a0 a1 a2) (clipV (dotZ a3 a4 a5 (unV a0 a0 a1 a2) (unV a1 a0 a1 a2) (unV a2 a0 a1 a2)))))) && !(clipC (arZ (unV a1 a0 a1 a2) (unV (clipV (a5 - clipV (pr (unV a2 a0 a1 a2) (clipV (dotZ a3 a4 a5 (unV a0 a0 a1 a2) (unV a1 a0 a1 a2) (unV a2 a0 a1 a2)))))) (clipV (a3 - clipV (pr (unV a0 a0 a1 a2) (clipV (dotZ a3 a4 a5 (unV a0 a0 a1 a2) (unV a1 a0 a1 a2) (unV a2 a0 a1 a2)))))) (clipV (a4 - clipV (pr (unV a1 a0 a1 a2) (clipV (dotZ a3 a4 a5 (unV a0 a0 a1 a2) (unV a1 a0 a1 a2) (unV a2 a0 a1 a2)))))) (clipV (a5 - clipV (pr (unV a2 a0 a1 a2) (clipV (dotZ a3 a4 a5 (unV a0 a0 a1 a2) (unV a1 a0 a1 a2) (unV a2 a0 a1 a2))))))) (unV a2 a0 a1 a2) (unV (clipV (a4 - clipV (pr (unV a1 a0 a1 a2) (clipV (dotZ a3 a4 a5 (unV a0 a0 a1 a2) (unV a1 a0 a1 a2) (unV a2 a0 a1 a2)))))) (clipV (a3 - clipV (pr (unV a0 a0 a1 a2) (clipV (dotZ a3 a4 a5 (unV a0 a0 a1 a2) (unV a1 a0 a1 a2) (unV a2 a0 a1 a2)))))) (clipV (a4 - clipV (pr (unV a1 a0 a1 a2) (clipV (dotZ a3 a4 a5 (unV a0 a0 a1 a2) (unV a1 a0 a1 a2) (unV a2 a0 a1 a2)))))) (clipV (a5 - clipV (pr (unV a2 a0 a1 a2) (clipV (dotZ a3 a4 a5 (unV a0 a0 a1 a2) (unV a1 a0 a1 a2) (unV a2 a0 a1 a2)))))))) || clipC (arZ (unV a2 a0 a1 a2) (unV (clipV (a3 - clipV (pr (unV a0 a0 a1 a2) (clipV (dotZ a3 a4 a5 (unV a0 a0 a1 a2) (unV a1 a0 a1 a2) (unV a2 a0 a1 a2)))))) (clipV (a3 - clipV (pr (unV a0 a0 a1 a2) (clipV (dotZ a3 a4 a5 (unV a0 a0 a1 a2) (unV a1 a0 a1 a2) (unV a2 a0 a1 a2)))))) (clipV (a4 - clipV (pr (unV a1 a0 a1 a2) (clipV (dotZ a3 a4 a5 (unV a0 a0 a1 a2) (unV a1 a0 a1 a2) (unV a2 a0 a1 a2)))))) (clipV (a5 - clipV (pr (unV a2 a0 a1 a2) (clipV (dotZ a3 a4 a5 (unV a0 a0 a1 a2) (unV a1 a0 a1 a2) (unV a2 a0 a1 a2))))))) (unV a0 a0 a1 a2) (unV (clipV (a5 - clipV (pr (unV a2 a0 a1 a2) (clipV (dotZ a3 a4 a5 (unV a0 a0 a1 a2) (unV a1 a0 a1 a2) (unV a2 a0 a1 a2)))))) (clipV (a3 - clipV (pr (unV a0 a0 a1 a2) (clipV (dotZ a3 a4 a5 (unV a0 a0 a1 a2) (unV a1 a0 a1 a2) (unV a2 a0 a1 a2)))))) (clipV (a4 - clipV (pr (unV a1 a0 a1 a2) (clipV (dotZ a3 a4 a5 (unV a0 a0 a1 a2) (unV a1 a0 a1 a2) (unV a2 a0 a1 a2)))))) (clipV (a5 - clipV (pr (unV a2 a0 a1 a2) (clipV (dotZ a3 a4 a5 (unV a0 a0 a1 a2) (unV a1 a0 a1 a2) (unV a2 a0 a1 a2)))))))) || clipC (arZ (unV a0 a0 a1 a2) (unV (clipV (a4 - clipV (pr (unV a1 a0 a1 a2) (clipV (dotZ a3 a4 a5 (unV a0 a0 a1 a2) (unV a1 a0 a1 a2) (unV a2 a0 a1 a2)))))) (clipV (a3 - clipV (pr (unV a0 a0 a1 a2) (clipV (dotZ a3 a4 a5 (unV a0 a0 a1 a2) (unV a1 a0 a1 a2) (unV a2 a0 a1 a2)))))) (clipV (a4 - clipV (pr (unV a1 a0 a1 a2) (clipV (dotZ a3 a4 a5 (unV a0 a0 a1 a2) (unV a1 a0 a1 a2) (unV a2 a0 a1 a2)))))) (clipV (a5 - clipV (pr (unV a2 a0 a1 a2) (clipV (dotZ a3 a4 a5 (unV a0 a0 a1 a2) (unV a1 a0 a1 a2) (unV a2 a0 a1 a2))))))) (unV a1 a0 a1 a2) (unV (clipV (a3 - clipV (pr (unV a0 a0 a1 a2) (clipV (dotZ a3 a4 a5 (unV a0 a0 a1 a2) (unV a1 a0 a1 a2) (unV a2 a0 a1 a2)))))) (clipV (a3 - clipV (pr (unV a0 a0 a1 a2) (clipV (dotZ a3 a4 a5 (unV a0 a0 a1 a2) (unV a1 a0 a1 a2) (unV a2 a0 a1 a2)))))) (clipV (a4 - clipV (pr (unV a1 a0 a1 a2) (clipV (dotZ a3 a4 a5 (unV a0 a0 a1 a2) (unV a1 a0 a1 a2) (unV a2 a0 a1 a2)))))) (clipV (a5 - clipV (pr (unV a2 a0 a1 a2) (clipV (dotZ a3 a4 a5 (unV a0 a0 a1 a2) (unV a1 a0 a1 a2) (unV a2 a0 a1 a2)))))))))))))) := by rw [← q0]; rfl
    refine bp k0 ?_
    rw [k1, k2, k3, k4]
    cases q1 : (unitOK (clipV (a3 - clipV (pr (unV a0 a0 a1 a2) (clipV (dotZ a3 a4 a5 (unV a0 a0 a1 a2) (unV a1 a0 a1 a2) (unV a2 a0 a1 a2)))))) (clipV (a4 - clipV (pr (unV a1 a0 a1 a2) (clipV (dotZ a3 a4 a5 (unV a0 a0 a1 a2) (unV a1 a0 a1 a2) (unV a2 a0 a1 a2)))))) (clipV (a5 - clipV (pr (unV a2 a0 a1 a2) (clipV (dotZ a3 a4 a5 (unV a0 a0 a1 a2) (unV a1 a0 a1 a2) (unV a2 a0 a1 a2))))))) with
    | false => exact bp rfl (bp s0_ (by rw [ss0, ss1, ss2, ss3, ss4, ss5, ss6, ss7, ss8]; exact no (by rw [eo, q1]; simp)))
    | true =>
      refine bn rfl ?_
      cases q2 : clipC (dotZ a3 a4 a5 (unV a0 a0 a1 a2) (unV a1 a0 a1 a2) (unV a2 a0 a1 a2)) with
      | true => exact bp rfl (bp s0_ (by rw [ss0, ss1, ss2, ss3, ss4, ss5, ss6, ss7, ss8]; exact no (by rw [eo, q2]; simp)))
      | false =>
        refine bn rfl ?_
        cases q3 : (clipC (pr (unV a0 a0 a1 a2) (clipV (dotZ a3 a4 a5 (unV a0 a0 a1 a2) (unV a1 a0 a1 a2) (unV a2 a0 a1 a2)))) || clipC (pr (unV a1 a0 a1 a2) (clipV (dotZ a3 a4 a5 (unV a0 a0 a1 a2) (unV a1 a0 a1 a2) (unV a2 a0 a1 a2)))) || clipC (pr (unV a2 a0 a1 a2) (clipV (dotZ a3 a4 a5 (unV a0 a0 a1 a2) (unV a1 a0 a1 a2) (unV a2 a0 a1 a2))))) with
        | true => exact bp rfl (bp s0_ (by rw [ss0, ss1, ss2, ss3, ss4, ss5, ss6, ss7, ss8]; exact no (by rw [eo, q3]; simp)))
        | false =>
          refine bn rfl ?_
          cases q4 : (clipC (a3 - clipV (pr (unV a0 a0 a1 a2) (clipV (dotZ a3 a4 a5 (unV a0 a0 a1 a2) (unV a1 a0 a1 a2) (unV a2 a0 a1 a2))))) || clipC (a4 - clipV (pr (unV a1 a0 a1 a2) (clipV (dotZ a3 a4 a5 (unV a0 a0 a1 a2) (unV a1 a0 a1 a2) (unV a2 a0 a1 a2))))) || clipC (a5 - clipV (pr (unV a2 a0 a1 a2) (clipV (dotZ a3 a4 a5 (unV a0 a0 a1 a2) (unV a1 a0 a1 a2) (unV a2 a0 a1 a2)))))) with
          | true => exact bp rfl (bp s0_ (by rw [ss0, ss1, ss2, ss3, ss4, ss5, ss6, ss7, ss8]; exact no (by rw [eo, q4]; simp)))
          | false =>
            refine bn rfl ?_
            cases q5 : (clipC (arZ (unV a1 a0 a1 a2) (unV (clipV (a5 - clipV (pr (unV a2 a0 a1 a2) (clipV (dotZ a3 a4 a5 (unV a0 a0 a1 a2) (unV a1 a0 a1 a2) (unV a2 a0 a1 a2)))))) (clipV (a3 - clipV (pr (unV a0 a0 a1 a2) (clipV (dotZ a3 a4 a5 (unV a0 a0 a1 a2) (unV a1 a0 a1 a2) (unV a2 a0 a1 a2)))))) (clipV (a4 - clipV (pr (unV a1 a0 a1 a2) (clipV (dotZ a3 a4 a5 (unV a0 a0 a1 a2) (unV a1 a0 a1 a2) (unV a2 a0 a1 a2)))))) (clipV (a5 - clipV (pr (unV a2 a0 a1 a2) (clipV (dotZ a3 a4 a5 (unV a0 a0 a1 a2) (unV a1 a0 a1 a2) (unV a2 a0 a1 a2))))))) (unV a2 a0 a1 a2) (unV (clipV (a4 - clipV (pr (unV a1 a0 a1 a2) (clipV (dotZ a3 a4 a5 (unV a0 a0 a1 a2) (unV a1 a0 a1 a2) (unV a2 a0 a1 a2)))))) (clipV (a3 - clipV (pr (unV a0 a0 a1 a2) (clipV (dotZ a3 a4 a5 (unV a0 a0 a1 a2) (unV a1 a0 a1 a2) (unV a2 a0 a1 a2)))))) (clipV (a4 - clipV (pr (unV a1 a0 a1 a2) (clipV (dotZ a3 a4 a5 (unV a0 a0 a1 a2) (unV a1 a0 a1 a2) (unV a2 a0 a1 a2)))))) (clipV (a5 - clipV (pr (unV a2 a0 a1 a2) (clipV (dotZ a3 a4 a5 (unV a0 a0 a1 a2) (unV a1 a0 a1 a2) (unV a2 a0 a1 a2)))))))) || clipC (arZ (unV a2 a0 a1 a2) (unV (clipV (a3 - clipV (pr (unV a0 a0 a1 a2) (clipV (dotZ a3 a4 a5 (unV a0 a0 a1 a2) (unV a1 a0 a1 a2) (unV a2 a0 a1 a2)))))) (clipV (a3 - clipV (pr (unV a0 a0 a1 a2) (clipV (dotZ a3 a4 a5 (unV a0 a0 a1 a2) (unV a1 a0 a1 a2) (unV a2 a0 a1 a2)))))) (clipV (a4 - clipV (pr (unV a1 a0 a1 a2) (clipV (dotZ a3 a4 a5 (unV a0 a0 a1 a2) (unV a1 a0 a1 a2) (unV a2 a0 a1 a2)))))) (clipV (a5 - clipV (pr (unV a2 a0 a1 a2) (clipV (dotZ a3 a4 a5 (unV a0 a0 a1 a2) (unV a1 a0 a1 a2) (unV a2 a0 a1 a2))))))) (unV a0 a0 a1 a2) (unV (clipV (a5 - clipV (pr (unV a2 a0 a1 a2) (clipV (dotZ a3 a4 a5 (unV a0 a0 a1 a2) (unV a1 a0 a1 a2) (unV a2 a0 a1 a2)))))) (clipV (a3 - clipV (pr (unV a0 a0 a1 a2) (clipV (dotZ a3 a4 a5 (unV a0 a0 a1 a2) (unV a1 a0 a1 a2) (unV a2 a0 a1 a2)))))) (clipV (a4 - clipV (pr (unV a1 a0 a1 a2) (clipV (dotZ a3 a4 a5 (unV a0 a0 a1 a2) (unV a1 a0 a1 a2) (unV a2 a0 a1 a2)))))) (clipV (a5 - clipV (pr (unV a2 a0 a1 a2) (clipV (dotZ a3 a4 a5 (unV a0 a0 a1 a2) (unV a1 a0 a1 a2) (unV a2 a0 a1 a2)))))))) || clipC (arZ (unV a0 a0 a1 a2) (unV (clipV (a4 - clipV (pr (unV a1 a0 a1 a2) (clipV (dotZ a3 a4 a5 (unV a0 a0 a1 a2) (unV a1 a0 a1 a2) (unV a2 a0 a1 a2)))))) (clipV (a3 - clipV (pr (unV a0 a0 a1 a2) (clipV (dotZ a3 a4 a5 (unV a0 a0 a1 a2) (unV a1 a0 a1 a2) (unV a2 a0 a1 a2)))))) (clipV (a4 - clipV (pr (unV a1 a0 a1 a2) (clipV (dotZ a3 a4 a5 (unV a0 a0 a1 a2) (unV a1 a0 a1 a2) (unV a2 a0 a1 a2)))))) (clipV (a5 - clipV (pr (unV a2 a0 a1 a2) (clipV (dotZ a3 a4 a5 (unV a0 a0 a1 a2) (unV a1 a0 a1 a2) (unV a2 a0 a1 a2))))))) (unV a1 a0 a1 a2) (unV (clipV (a3 - clipV (pr (unV a0 a0 a1 a2) (clipV (dotZ a3 a4 a5 (unV a0 a0 a1 a2) (unV a1 a0 a1 a2) (unV a2 a0 a1 a2)))))) (clipV (a3 - clipV (pr (unV a0 a0 a1 a2) (clipV (dotZ a3 a4 a5 (unV a0 a0 a1 a2) (unV a1 a0 a1 a2) (unV a2 a0 a1 a2)))))) (clipV (a4 - clipV (pr (unV a1 a0 a1 a2) (clipV (dotZ a3 a4 a5 (unV a0 a0 a1 a2) (unV a1 a0 a1 a2) (unV a2 a0 a1 a2)))))) (clipV (a5 - clipV (pr (unV a2 a0 a1 a2) (clipV (dotZ a3 a4 a5 (unV a0 a0 a1 a2) (unV a1 a0 a1 a2) (unV a2 a0 a1 a2))))))))) with
            | true => exact bp rfl (bp s0_ (by rw [ss0, ss1, ss2, ss3, ss4, ss5, ss6, ss7, ss8]; exact no (by rw [eo, q5]; simp)))
            | false =>
              refine bn rfl ?_
              exact yes (by rw [eo, q1, q2, q3, q4, q5]; rfl)
theorem a_mat_Ortho (F : Nat) (hF : 200 ≤ F) {a0 a1 a2 a3 a4 a5 a6 a7 a8 : Int} (ha0 : I64 a0) (ha1 : I64 a1) (ha2 : I64 a2) (ha3 : I64 a3) (ha4 : I64 a4) (ha5 : I64 a5) (ha6 : I64 a6) (ha7 : I64 a7) (ha8 : I64 a8) : ok_fa F a0 a1 a2 a3 a4 a5 a6 a7 a8 = true ∧ o_fa_0 F a0 a1 a2 a3 a4 a5 a6 a7 a8 = ort0 a0 a1 a2 a3 a4 a5 a6 a7 a8 ∧ o_fa_1 F a0 a1 a2 a3 a4 a5 a6 a7 a8 = ort1 a0 a1 a2 a3 a4 a5 a6 a7 a8 ∧ o_fa_2 F a0 a1 a2 a3 a4 a5 a6 a7 a8 = ort2 a0 a1 a2 a3 a4 a5 a6 a7 a8 ∧ o_fa_3 F a0 a1 a2 a3 a4 a5 a6 a7 a8 = ort3 a0 a1 a2 a3 a4 a5 a6 a7 a8 ∧ o_fa_4 F a0 a1 a2 a3 a4 a5 a6 a7 a8 = ort4 a0 a1 a2 a3 a4 a5 a6 a7 a8 ∧ o_fa_5 F a0 a1 a2 a3 a4 a5 a6 a7 a8 = ort5 a0 a1 a2 a3 a4 a5 a6 a7 a8 ∧ o_fa_6 F a0 a1 a2 a3 a4 a5 a6 a7 a8 = ort6 a0 a1 a2 a3 a4 a5 a6 a7 a8 ∧ o_fa_7 F a0 a1 a2 a3 a4 a5 a6 a7 a8 = ort7 a0 a1 a2 a3 a4 a5 a6 a7 a8 ∧ o_fa_8 F a0 a1 a2 a3 a4 a5 a6 a7 a8 = ort8 a0 a1 a2 a3 a4 a5 a6 a7 a8 ∧ o_fa_9 F a0 a1 a2 a3 a4 a5 a6 a7 a8 = ortC a0 a1 a2 a3 a4 a5 a6 a7 a8 := k_fa F _ _ _ _ _ _ _ _ _ (f_mat_Ortho' F hF ha0 ha1 ha2 ha3 ha4 ha5 ha6 ha7 ha8)
end Go.Xv
namespace Go.Xv
structure Cx where
  re : Rat
  im : Rat
namespace Cx
def mul (a b : Cx) : Cx := ⟨a.re * b.re - a.im * b.im, a.re * b.im + a.im * b.re⟩
def add (a b : Cx) : Cx := ⟨a.re + b.re, a.im + b.im⟩
def sub (a b : Cx) : Cx := ⟨a.re - b.re, a.im - b.im⟩
def cj (a : Cx) : Cx := ⟨a.re, -a.im⟩
def sc (r : Rat) (a : Cx) : Cx := ⟨r * a.re, r * a.im⟩
def one : Cx := ⟨1, 0⟩
def n2 (a : Cx) : Rat := a.re * a.re + a.im * a.im
theorem eqC {a b : Cx} (h1 : a.re = b.re) (h2 : a.im = b.im) : a = b := by cases a; cases b; simp_all
theorem mul_comm (a b : Cx) : mul a b = mul b a := by apply eqC <;> simp only [mul] <;> grind
theorem mul_assoc (a b c : Cx) : mul (mul a b) c = mul a (mul b c) := by apply eqC <;> simp only [mul] <;> grind
theorem mul_one (a : Cx) : mul a one = a := by apply eqC <;> simp only [mul, one] <;> grind
theorem one_mul (a : Cx) : mul one a = a := by apply eqC <;> simp only [mul, one] <;> grind
theorem n2_mul (a b : Cx) : n2 (mul a b) = n2 a * n2 b := by simp only [mul, n2]; grind
theorem n2_cj (a : Cx) : n2 (cj a) = n2 a := by simp only [cj, n2]; grind
theorem cj_mul (a b : Cx) : cj (mul a b) = mul (cj a) (cj b) := by apply eqC <;> simp only [mul, cj] <;> grind
theorem cj_cj (a : Cx) : cj (cj a) = a := by apply eqC <;> simp only [cj] <;> grind
theorem mul_cj (a : Cx) : mul a (cj a) = ⟨n2 a, 0⟩ := by apply eqC <;> simp only [mul, cj, n2] <;> grind
theorem sq_nn (a : Rat) : 0 ≤ a * a := by
  rcases Rat.le_total (a := 0) (b := a) with h | h
  · exact Rat.mul_nonneg h h
  · have := Rat.mul_nonneg (a := -a) (b := -a) (by grind) (by grind)
    grind
theorem n2_nn (a : Cx) : 0 ≤ n2 a := by
  have := sq_nn a.re
  have := sq_nn a.im
  simp only [n2]; grind
theorem le_of_sq {x y : Rat} (hy : 0 ≤ y) (h : x * x ≤ y * y) : x ≤ y := by
  rcases Rat.le_total (a := x) (b := y) with hx | hx
  · exact hx
  · by_cases he : x = y
    · grind
    · have hlt : 0 < x - y := by grind
      have h0 : 0 < x := by grind
      have h1 := Rat.mul_pos hlt h0
      have h2 := Rat.mul_nonneg (Rat.le_of_lt hlt) hy
      grind
theorem sq_le_sq {x y : Rat} (hx : 0 ≤ x) (h : x ≤ y) : x * x ≤ y * y := by
  have h1 := Rat.mul_nonneg hx (show 0 ≤ y - x by grind)
  have h2 := Rat.mul_nonneg (show 0 ≤ y by grind) (show 0 ≤ y - x by grind)
  grind
/-- not longer than -/
def Nm (a : Cx) (e : Rat) : Prop := 0 ≤ e ∧ n2 a ≤ e * e
theorem Nm.mono {a : Cx} {e f : Rat} (h : Nm a e) (k : e ≤ f) : Nm a f := by
  refine ⟨by have := h.1; grind, ?_⟩
  have := sq_le_sq h.1 k
  have := h.2
  grind
theorem Nm.add {a b : Cx} {e f : Rat} (h : Nm a e) (k : Nm b f) : Nm (add a b) (e + f) := by
  obtain ⟨h1, h2⟩ := h
  obtain ⟨k1, k2⟩ := k
  refine ⟨by grind, ?_⟩
  have hd : a.re * b.re + a.im * b.im ≤ e * f := by
    refine le_of_sq (Rat.mul_nonneg h1 k1) ?_
    have e1 := sq_nn (a.re * b.im - a.im * b.re)
    have e2 : (a.re * b.re + a.im * b.im) * (a.re * b.re + a.im * b.im) + (a.re * b.im - a.im * b.re) * (a.re * b.im - a.im * b.re) = n2 a * n2 b := by simp only [n2]; grind
    have e3 : n2 a * n2 b ≤ (e * e) * n2 b := Rat.mul_le_mul_of_nonneg_right h2 (n2_nn b)
    have e4 : (e * e) * n2 b ≤ (e * e) * (f * f) := Rat.mul_le_mul_of_nonneg_left k2 (sq_nn e)
    grind
  simp only [Cx.add, n2] at *
  grind
theorem Nm.mul {a b : Cx} {e f : Rat} (h : Nm a e) (k : Nm b f) : Nm (mul a b) (e * f) := by
  refine ⟨Rat.mul_nonneg h.1 k.1, ?_⟩
  rw [n2_mul]
  have e3 : n2 a * n2 b ≤ (e * e) * n2 b := Rat.mul_le_mul_of_nonneg_right h.2 (n2_nn b)
  have e4 : (e * e) * n2 b ≤ (e * e) * (f * f) := Rat.mul_le_mul_of_nonneg_left k.2 (sq_nn e)
  grind
theorem Nm.cj {a : Cx} {e : Rat} (h : Nm a e) : Nm (cj a) e := ⟨h.1, by rw [n2_cj]; exact h.2⟩
theorem Nm.neg {a b : Cx} {e : Rat} (h : Nm (sub a b) e) : Nm (sub b a) e := by
  refine ⟨h.1, ?_⟩
  have := h.2
  simp only [sub, n2] at *
  grind
theorem Nm.sc {a : Cx} {e r : Rat} (hr : 0 ≤ r) (h : Nm a e) : Nm (sc r a) (r * e) := by
  refine ⟨Rat.mul_nonneg hr h.1, ?_⟩
  have e1 := Rat.mul_le_mul_of_nonneg_left h.2 (sq_nn r)
  simp only [Cx.sc, n2] at *
  grind
theorem Nm.trans {a b c : Cx} {e f : Rat} (h : Nm (sub a b) e) (k : Nm (sub b c) f) : Nm (sub a c) (e + f) := by
  have := h.add k
  have e : Cx.add (sub a b) (sub b c) = sub a c := by apply eqC <;> simp only [Cx.add, sub] <;> grind
  rwa [e] at this
theorem Nm.re {a : Cx} {e : Rat} (h : Nm a e) : a.re ≤ e ∧ -e ≤ a.re := by
  have h1 := sq_nn a.im
  have h2 := h.2
  simp only [n2] at h2
  constructor
  · exact le_of_sq h.1 (by grind)
  · have := le_of_sq (x := -a.re) h.1 (by grind)
    grind
theorem Nm.im {a : Cx} {e : Rat} (h : Nm a e) : a.im ≤ e ∧ -e ≤ a.im := by
  have h1 := sq_nn a.re
  have h2 := h.2
  simp only [n2] at h2
  constructor
  · exact le_of_sq h.1 (by grind)
  · have := le_of_sq (x := -a.im) h.1 (by grind)
    grind
theorem Nm.of {a : Cx} {x y : Rat} (hx : a.re ≤ x) (hx' : -x ≤ a.re) (hy : a.im ≤ y) (hy' : -y ≤ a.im) : Nm a (x + y) := by
  have h0 : 0 ≤ x := by grind
  have k0 : 0 ≤ y := by grind
  refine ⟨by grind, ?_⟩
  have h1 : a.re * a.re ≤ x * x := by
    have := Rat.mul_nonneg (show 0 ≤ x - a.re by grind) (show 0 ≤ x + a.re by grind)
    grind
  have k1 : a.im * a.im ≤ y * y := by
    have := Rat.mul_nonneg (show 0 ≤ y - a.im by grind) (show 0 ≤ y + a.im by grind)
    grind
  have := Rat.mul_nonneg h0 k0
  simp only [n2]
  grind
/-- 1.5 is enough for two parts of at most one each -/
theorem Nm.unit {a : Cx} (hx : a.re ≤ 1) (hx' : -1 ≤ a.re) (hy : a.im ≤ 1) (hy' : -1 ≤ a.im) : Nm a (3 / 2) := by
  refine ⟨by grind, ?_⟩
  have h1 : a.re * a.re ≤ 1 := by
    have := Rat.mul_nonneg (show 0 ≤ 1 - a.re by grind) (show 0 ≤ 1 + a.re by grind)
    grind
  have k1 : a.im * a.im ≤ 1 := by
    have := Rat.mul_nonneg (show 0 ≤ 1 - a.im by grind) (show 0 ≤ 1 + a.im by grind)
    grind
  simp only [n2]
  grind
/-- what has the length 1 -/
def U (a : Cx) : Prop := n2 a = 1
theorem U.nm {a : Cx} (h : U a) : Nm a 1 := ⟨by grind, by unfold U at h; grind⟩
theorem U.mul {a b : Cx} (h : U a) (k : U b) : U (mul a b) := by unfold U at *; rw [n2_mul, h, k]; grind
theorem U.cj {a : Cx} (h : U a) : U (cj a) := by unfold U at *; rw [n2_cj, h]
theorem U.mul_cj {a : Cx} (h : U a) : Cx.mul a (Cx.cj a) = one := by rw [Cx.mul_cj]; unfold U at h; rw [h]; rfl
theorem U_one : U one := by simp only [U, n2, one]; grind
/-- to turn changes no length -/
theorem Nm.turn {a u : Cx} {e : Rat} (h : Nm a e) (k : U u) : Nm (Cx.mul a u) e := by
  have := h.mul k.nm
  rwa [Rat.mul_one] at this
theorem sub_mul (a b c : Cx) : mul (sub a b) c = sub (mul a c) (mul b c) := by apply eqC <;> simp only [mul, sub] <;> grind
theorem mul_sub (a b c : Cx) : mul c (sub a b) = sub (mul c a) (mul c b) := by apply eqC <;> simp only [mul, sub] <;> grind
end Cx
end Go.Xv
namespace Go.Xv
namespace Cx
def wA : Rat := 1329227995784915872903807060280344576
def wB : Rat := 972275833250902676855126013
def w : Cx := ⟨(wA * wA - wB * wB) / (wA * wA + wB * wB), 2 * wA * wB / (wA * wA + wB * wB)⟩
theorem w_U : U w := by unfold U; decide +kernel
def V : Nat → Cx
  | 0 => one
  | n + 1 => mul (V n) w
theorem V_U : ∀ n, U (V n)
  | 0 => U_one
  | n + 1 => (V_U n).mul w_U
theorem V_add (n : Nat) : ∀ m, V (n + m) = mul (V n) (V m)
  | 0 => (mul_one _).symm
  | m + 1 => by
    show mul (V (n + m)) w = mul (V n) (mul (V m) w)
    rw [V_add n m, mul_assoc]
def VI (n : Int) : Cx := mul (V n.toNat) (cj (V (-n).toNat))
theorem cj_one : cj one = one := by apply eqC <;> simp only [cj, one] <;> grind
theorem VI_nat (n : Nat) : VI n = V n := by
  unfold VI
  rw [Int.toNat_natCast, show (-(n : Int)).toNat = 0 by omega]
  show mul (V n) (cj one) = V n
  rw [cj_one, mul_one]
theorem VI_sub (a b : Nat) : VI ((a : Int) - b) = mul (V a) (cj (V b)) := by
  unfold VI
  rcases Nat.le_total b a with h | h
  · obtain ⟨d, rfl⟩ : ∃ d, a = d + b := ⟨a - b, by omega⟩
    rw [show (((d + b : Nat) : Int) - b).toNat = d by omega, show (-(((d + b : Nat) : Int) - b)).toNat = 0 by omega, V_add, mul_assoc, (V_U b).mul_cj]
    show mul (V d) (cj one) = _
    rw [cj_one]
  · obtain ⟨d, rfl⟩ : ∃ d, b = a + d := ⟨b - a, by omega⟩
    rw [show ((a : Int) - ((a + d : Nat) : Int)).toNat = 0 by omega, show (-((a : Int) - ((a + d : Nat) : Int))).toNat = d by omega, V_add, cj_mul, ← mul_assoc, (V_U a).mul_cj]
    rfl
theorem int_sub (n : Int) : ∃ a b : Nat, n = (a : Int) - b := ⟨n.toNat, (-n).toNat, by omega⟩
theorem VI_add (n m : Int) : VI (n + m) = mul (VI n) (VI m) := by
  obtain ⟨a, b, rfl⟩ := int_sub n
  obtain ⟨c, d, rfl⟩ := int_sub m
  rw [show (a : Int) - b + (c - d) = ((a + c : Nat) : Int) - ((b + d : Nat) : Int) by omega, VI_sub, VI_sub, VI_sub, V_add, V_add, cj_mul]
  rw [mul_assoc, mul_assoc, ← mul_assoc (V c), mul_comm (V c) (cj (V b)), mul_assoc (cj (V b))]
theorem VI_neg (n : Int) : VI (-n) = cj (VI n) := by
  obtain ⟨a, b, rfl⟩ := int_sub n
  rw [show -((a : Int) - b) = (b : Int) - a by omega, VI_sub, VI_sub, cj_mul, cj_cj, mul_comm]
theorem VI_U (n : Int) : U (VI n) := (V_U _).mul (V_U _).cj
theorem VI_zero : VI 0 = one := by rw [show (0 : Int) = ((0 : Nat) : Int) by rfl, VI_nat]; rfl
def Q : Int := 340282366920938463463374607431768211456
def q : Rat := 340282366920938463463374607431768211456
theorem Qq : ((Q : Int) : Rat) = q := by decide +kernel
theorem q0 : (0 : Rat) < q := by decide +kernel
def r : Rat := 1 / q
theorem qr : q * r = 1 := by decide +kernel
theorem r0 : (0 : Rat) < r := by decide +kernel
def toC (a b : Int) : Cx := ⟨(a : Rat) * r, (b : Rat) * r⟩
def Ap (z : Cx) (a b e : Int) : Prop := 0 ≤ e ∧ Nm (sub z (toC a b)) ((e : Rat) * r)
theorem cast_le {a b : Int} (h : a ≤ b) : (a : Rat) ≤ (b : Rat) := Rat.intCast_le_intCast.2 h
theorem floor_q (x : Int) : ((x / Q : Int) : Rat) * q ≤ x ∧ (x : Rat) ≤ ((x / Q : Int) : Rat) * q + q := by
  have h1 := Int.mul_ediv_add_emod x Q
  have h2 := Int.emod_nonneg x (show Q ≠ 0 by decide)
  have h3 := Int.emod_lt_of_pos x (show 0 < Q by decide)
  rw [← Qq, ← Rat.intCast_mul, ← Rat.intCast_add]
  refine ⟨cast_le ?_, cast_le ?_⟩
  · rw [Int.mul_comm]; omega
  · rw [Int.mul_comm]; omega
theorem floor_r (x : Int) : ((x / Q : Int) : Rat) ≤ x * r ∧ (x : Rat) * r ≤ ((x / Q : Int) : Rat) + 1 := by
  obtain ⟨h1, h2⟩ := floor_q x
  have m1 := Rat.mul_le_mul_of_nonneg_right (c := r) h1 (Rat.le_of_lt r0)
  have m2 := Rat.mul_le_mul_of_nonneg_right (c := r) h2 (Rat.le_of_lt r0)
  rw [Rat.mul_assoc, qr, Rat.mul_one] at m1
  rw [Rat.add_mul, Rat.mul_assoc, qr, Rat.mul_one] at m2
  exact ⟨m1, m2⟩
theorem Ap.mul {z y : Cx} {a b e c d f : Int} (hz : U z) (hy : U y) (h : Ap z a b e) (k : Ap y c d f) :
    Ap (mul z y) ((a * c - b * d) / Q) ((a * d + b * c) / Q) (e + f + e * f / Q + 3) := by
  obtain ⟨h0, h1⟩ := h
  obtain ⟨k0, k1⟩ := k
  have hef : 0 ≤ e * f / Q := Int.ediv_nonneg (Int.mul_nonneg h0 k0) (by decide)
  refine ⟨by omega, ?_⟩
  have e1 : Nm (toC a b) (1 + (e : Rat) * r) := by
    have := (hz.nm).add h1.neg
    have e : Cx.add z (sub (toC a b) z) = toC a b := by apply eqC <;> simp only [Cx.add, sub] <;> grind
    rwa [e] at this
  have e2 := (h1.turn hy).add (e1.mul k1)
  have f1 := floor_r (a * c - b * d)
  have f2 := floor_r (a * d + b * c)
  have f3 := floor_r (e * f)
  simp only [Rat.intCast_sub, Rat.intCast_add, Rat.intCast_mul] at f1 f2 f3
  have e3 : Nm (sub (Cx.mul (toC a b) (toC c d)) (toC ((a * c - b * d) / Q) ((a * d + b * c) / Q))) (r * (3 / 2)) := by
    have g : Nm ⟨((a : Rat) * c - b * d) * r - ((a * c - b * d) / Q : Int), ((a : Rat) * d + b * c) * r - ((a * d + b * c) / Q : Int)⟩ (3 / 2) := by
      apply Nm.unit <;> simp only <;> grind
    have g2 := g.sc (r := r) (Rat.le_of_lt r0)
    have ee : Cx.sc r ⟨((a : Rat) * c - b * d) * r - ((a * c - b * d) / Q : Int), ((a : Rat) * d + b * c) * r - ((a * d + b * c) / Q : Int)⟩ = sub (Cx.mul (toC a b) (toC c d)) (toC ((a * c - b * d) / Q) ((a * d + b * c) / Q)) := by
      apply eqC <;> simp only [Cx.sc, Cx.mul, sub, toC] <;> grind
    rwa [ee] at g2
  have e4 := e2.add e3
  have ee : Cx.add (Cx.add (Cx.mul (sub z (toC a b)) y) (Cx.mul (toC a b) (sub y (toC c d)))) (sub (Cx.mul (toC a b) (toC c d)) (toC ((a * c - b * d) / Q) ((a * d + b * c) / Q))) = sub (Cx.mul z y) (toC ((a * c - b * d) / Q) ((a * d + b * c) / Q)) := by
    apply eqC <;> simp only [Cx.add, Cx.mul, sub] <;> grind
  rw [ee] at e4
  refine e4.mono ?_
  have m5 := Rat.mul_le_mul_of_nonneg_right (c := r) f3.2 (Rat.le_of_lt r0)
  have hr := r0
  simp only [Rat.intCast_add]
  generalize ((e * f / Q : Int) : Rat) = g at *
  have t3 : ((3 : Int) : Rat) = 3 := by decide +kernel
  rw [t3]
  grind
def sq3 (p : Int × Int × Int) : Int × Int × Int := ((p.1 * p.1 - p.2.1 * p.2.1) / Q, (p.1 * p.2.1 + p.2.1 * p.1) / Q, p.2.2 + p.2.2 + p.2.2 * p.2.2 / Q + 3)
def w0 : Int := 340282366920938463099250474440462542326
def w1 : Int := 497805226624462170283482630030
def mw (p : Int × Int × Int) : Int × Int × Int := ((p.1 * w0 - p.2.1 * w1) / Q, (p.1 * w1 + p.2.1 * w0) / Q, p.2.2 + 2 + p.2.2 * 2 / Q + 3)
theorem w_Ap : Ap w w0 w1 2 := by
  refine ⟨by decide, ?_, ?_⟩
  · decide +kernel
  · decide +kernel
def pw : Nat → Nat → Int × Int × Int
  | 0, _ => (Q, 0, 0)
  | f + 1, n => if n = 0 then (Q, 0, 0) else if n % 2 = 1 then mw (sq3 (pw f (n / 2))) else sq3 (pw f (n / 2))
theorem one_Ap : Ap one Q 0 0 := by
  refine ⟨by decide, ?_, ?_⟩
  · decide +kernel
  · decide +kernel
theorem pw_ok : ∀ (f n : Nat), n < 2 ^ f → Ap (V n) (pw f n).1 (pw f n).2.1 (pw f n).2.2
  | 0, n, h => by
    obtain rfl : n = 0 := by simp at h; omega
    exact one_Ap
  | f + 1, n, h => by
    rw [pw]
    by_cases h0 : n = 0
    · rw [if_pos h0]; subst h0; exact one_Ap
    · rw [if_neg h0]
      have ih := pw_ok f (n / 2) (by rw [Nat.pow_succ] at h; omega)
      have hs := Ap.mul (V_U _) (V_U _) ih ih
      rw [← V_add] at hs
      by_cases h1 : n % 2 = 1
      · rw [if_pos h1]
        have hm := Ap.mul (V_U _) w_U hs w_Ap
        rw [show n = (n / 2 + n / 2) + 1 by omega]
        rw [show ((n / 2 + n / 2) + 1) / 2 = n / 2 by omega]
        exact hm
      · rw [if_neg h1]
        rw [show n / 2 + n / 2 = n by omega] at hs
        exact hs
end Cx
end Go.Xv
namespace Go.Xv
namespace Cx
theorem Ap.bd {z : Cx} {a b e : Int} (h : Ap z a b e) : (z.re ≤ ((a + e : Int) : Rat) * r ∧ ((a - e : Int) : Rat) * r ≤ z.re) ∧ (z.im ≤ ((b + e : Int) : Rat) * r ∧ ((b - e : Int) : Rat) * r ≤ z.im) := by
  obtain ⟨_, h⟩ := h
  have h1 := h.re
  have h2 := h.im
  simp only [sub, toC] at h1 h2
  simp only [Rat.intCast_sub, Rat.intCast_add]
  grind
theorem pw_bd (f n : Nat) (h : n < 2 ^ f) : ((V n).re ≤ (((pw f n).1 + (pw f n).2.2 : Int) : Rat) * r ∧ (((pw f n).1 - (pw f n).2.2 : Int) : Rat) * r ≤ (V n).re) ∧ ((V n).im ≤ (((pw f n).2.1 + (pw f n).2.2 : Int) : Rat) * r ∧ (((pw f n).2.1 - (pw f n).2.2 : Int) : Rat) * r ≤ (V n).im) := (pw_ok f n h).bd
def Lw : Rat := 147 / 100000000000
theorem lip1 : Nm (sub w one) Lw := ⟨by decide +kernel, by decide +kernel⟩
theorem lip (m : Nat) : ∀ d : Nat, Nm (sub (V (m + d)) (V m)) ((d : Rat) * Lw)
  | 0 => by
    refine ⟨by simp, ?_⟩
    simp only [Nat.add_zero, sub, n2]; grind
  | d + 1 => by
    have h := lip1.turn (V_U (m + d))
    have k := (lip m d).add h
    have e : Cx.add (sub (V (m + d)) (V m)) (mul (sub w one) (V (m + d))) = sub (V (m + (d + 1))) (V m) := by
      rw [← Nat.add_assoc, show V (m + d + 1) = mul (V (m + d)) w from rfl]
      apply eqC <;> simp only [Cx.add, sub, mul, one] <;> grind
    rw [e] at k
    refine k.mono ?_
    rw [Rat.natCast_add]
    show _ ≤ ((d : Rat) + ((1 : Nat) : Rat)) * Lw
    have : ((1 : Nat) : Rat) = 1 := by decide +kernel
    rw [this]
    grind
theorem cast_leN {a b : Nat} (h : a ≤ b) : (a : Rat) ≤ (b : Rat) := Rat.natCast_le_natCast.2 h
theorem lipB (m d : Nat) (h : d ≤ 268435456) : Nm (sub (V (m + d)) (V m)) (2 / 5) := by
  refine (lip m d).mono ?_
  have h1 := Rat.mul_le_mul_of_nonneg_right (c := Lw) (cast_leN h) (by decide +kernel)
  have h2 : ((268435456 : Nat) : Rat) * Lw ≤ 2 / 5 := by decide +kernel
  grind
theorem half_re {m : Nat} (h : m ≤ 536870912) : 1 / 2 ≤ (V m).re := by
  rcases Nat.le_total m 268435456 with h1 | h1
  · have k := (lipB 0 m h1).re
    rw [Nat.zero_add] at k
    simp only [sub, V, one] at k
    grind
  · obtain ⟨d, rfl⟩ : ∃ d, m = 268435456 + d := ⟨m - 268435456, by omega⟩
    have k := (lipB 268435456 d (by omega)).re
    have g := (pw_bd 30 268435456 (by decide)).1.2
    have g2 : 9 / 10 ≤ (((pw 30 268435456).1 - (pw 30 268435456).2.2 : Int) : Rat) * r := by decide +kernel
    have g3 := Rat.le_trans g2 g
    clear g g2
    simp only [sub] at k
    generalize (V (268435456 + d)).re = x at *
    generalize (V 268435456).re = y at *
    grind
theorem far_re {m : Nat} (h : 1073741824 ≤ m) (h2 : m ≤ 2684354560) : (V m).re ≤ 1 / 2 := by
  have key : ∀ g d : Nat, m = g + d → d ≤ 268435456 → (V g).re ≤ 1 / 10 → (V m).re ≤ 1 / 2 := by
    intro g d hm hd hg
    subst hm
    have k := (lipB g d hd).re
    simp only [sub] at k
    grind
  have pt : ∀ g : Nat, g < 2 ^ 33 → (((pw 33 g).1 + (pw 33 g).2.2 : Int) : Rat) * r ≤ 1 / 10 → (V g).re ≤ 1 / 10 := by
    intro g h1 h2
    have := (pw_bd 33 g h1).1.1
    grind
  have p0 := pt 1073741824 (by decide) (by decide +kernel)
  have p1 := pt 1342177280 (by decide) (by decide +kernel)
  have p2 := pt 1610612736 (by decide) (by decide +kernel)
  have p3 := pt 1879048192 (by decide) (by decide +kernel)
  have p4 := pt 2147483648 (by decide) (by decide +kernel)
  have p5 := pt 2415919104 (by decide) (by decide +kernel)
  by_cases c1 : m < 1342177280
  · exact key 1073741824 (m - 1073741824) (by omega) (by omega) p0
  by_cases c2 : m < 1610612736
  · exact key 1342177280 (m - 1342177280) (by omega) (by omega) p1
  by_cases c3 : m < 1879048192
  · exact key 1610612736 (m - 1610612736) (by omega) (by omega) p2
  by_cases c4 : m < 2147483648
  · exact key 1879048192 (m - 1879048192) (by omega) (by omega) p3
  by_cases c5 : m < 2415919104
  · exact key 2147483648 (m - 2147483648) (by omega) (by omega) p4
  · exact key 2415919104 (m - 2415919104) (by omega) (by omega) p5
/-- near 1 is only what is small -/
theorem near_one : ∀ (k m : Nat) (d : Rat), 1073741824 ≤ m * 2 ^ k → m ≤ 2684354560 → Nm (sub (V m) one) d → (m : Rat) ≤ 2684354560 * d
  | k, m, d, hk, hm, h => by
    rcases Nat.lt_or_ge m 1073741824 with hs | hs
    · match k, hk with
      | 0, hk => simp at hk; omega
      | k + 1, hk =>
        have e : Cx.add (mul (sub (V m) one) (V m)) (sub (V m) one) = sub (V (m + m)) one := by
          rw [V_add]
          apply eqC <;> simp only [Cx.add, sub, mul, one] <;> grind
        have h2 := (h.turn (V_U m)).add h
        rw [e] at h2
        have := near_one k (m + m) (d + d) (by rw [Nat.pow_succ, ← Nat.mul_assoc] at hk; rw [Nat.add_mul]; omega) (by omega) h2
        rw [Rat.natCast_add] at this
        grind
    · have h1 := far_re hs hm
      have h2 : n2 (sub (V m) one) = 2 - 2 * (V m).re := by
        have := V_U m
        simp only [U, n2, sub, one] at *
        grind
      obtain ⟨d0, hd⟩ := h
      have h3 : 1 ≤ d := le_of_sq (x := 1) d0 (by grind)
      have h4 := cast_leN hm
      have h5 : ((2684354560 : Nat) : Rat) = 2684354560 := by decide +kernel
      rw [h5] at h4
      grind
theorem near_V {m : Nat} {d : Rat} (hm : m ≤ 2684354560) (h : Nm (sub (V m) one) d) : (m : Rat) ≤ 2684354560 * d := by
  rcases Nat.eq_zero_or_pos m with h0 | h0
  · subst h0
    have := h.1
    have e : ((0 : Nat) : Rat) = 0 := by decide +kernel
    rw [e]
    grind
  · exact near_one 30 m d (by omega) hm h
theorem near_VI {n : Int} {d : Rat} (hn : -2684354560 ≤ n ∧ n ≤ 2684354560) (h : Nm (sub (VI n) one) d) : (n : Rat) ≤ 2684354560 * d ∧ -(2684354560 * d) ≤ (n : Rat) := by
  have h0 := h.1
  rcases Int.le_total 0 n with hp | hp
  · obtain ⟨m, rfl⟩ := Int.eq_ofNat_of_zero_le hp
    rw [VI_nat] at h
    have := near_V (by omega) h
    have e : ((m : Int) : Rat) = (m : Rat) := Rat.intCast_natCast m
    rw [e]
    have : (0 : Rat) ≤ (m : Rat) := Rat.natCast_nonneg
    grind
  · obtain ⟨m, hm⟩ := Int.eq_ofNat_of_zero_le (show 0 ≤ -n by omega)
    have e0 : n = -(m : Int) := by omega
    subst e0
    have hc := h.cj
    have e1 : Cx.cj (sub (VI (-(m : Int))) one) = sub (V m) one := by
      rw [VI_neg, VI_nat]
      apply eqC <;> simp only [Cx.cj, sub, one] <;> grind
    rw [e1] at hc
    have := near_V (by omega) hc
    have e : ((-(m : Int) : Int) : Rat) = -(m : Rat) := by rw [Rat.intCast_neg, Rat.intCast_natCast]
    rw [e]
    have : (0 : Rat) ≤ (m : Rat) := Rat.natCast_nonneg
    grind
/-- a hair -/
def hair : Rat := 1 / 1152921504606846976
def Ci : Cx := ⟨0, 1⟩
theorem Ci_U : U Ci := by simp only [U, n2, Ci]; grind
theorem of_pw (f n : Nat) (hn : n < 2 ^ f) (c : Cx) (x y : Rat) (h1 : (((pw f n).1 + (pw f n).2.2 : Int) : Rat) * r - c.re ≤ x) (h2 : -x ≤ (((pw f n).1 - (pw f n).2.2 : Int) : Rat) * r - c.re)
    (h3 : (((pw f n).2.1 + (pw f n).2.2 : Int) : Rat) * r - c.im ≤ y) (h4 : -y ≤ (((pw f n).2.1 - (pw f n).2.2 : Int) : Rat) * r - c.im) : Nm (sub (V n) c) (x + y) := by
  obtain ⟨⟨a1, a2⟩, a3, a4⟩ := pw_bd f n hn
  apply Nm.of <;> simp only [sub] <;> grind
theorem quarter : Nm (sub (V 1073741824) Ci) hair := by
  have := of_pw 33 1073741824 (by decide) Ci (hair / 2) (hair / 2) (by decide +kernel) (by decide +kernel) (by decide +kernel) (by decide +kernel)
  exact this.mono (by decide +kernel)
theorem whole : Nm (sub (V 4294967296) one) hair := by
  have := of_pw 34 4294967296 (by decide) one (hair / 2) (hair / 2) (by decide +kernel) (by decide +kernel) (by decide +kernel) (by decide +kernel)
  exact this.mono (by decide +kernel)
theorem half : Nm (sub (V 2147483648) ⟨-1, 0⟩) hair := by
  have := of_pw 33 2147483648 (by decide) ⟨-1, 0⟩ (hair / 2) (hair / 2) (by decide +kernel) (by decide +kernel) (by decide +kernel) (by decide +kernel)
  exact this.mono (by decide +kernel)
theorem im_nn : ∀ {m : Nat}, m ≤ 536870912 → 0 ≤ (V m).im
  | 0, _ => by simp only [V, one]; grind
  | m + 1, h => by
    have ih := im_nn (m := m) (by omega)
    have hr := half_re (m := m) (by omega)
    have w1 : 0 ≤ w.im := by decide +kernel
    have w2 : 0 ≤ w.re := by decide +kernel
    have m1 := Rat.mul_nonneg ih w2
    have m2 := Rat.mul_nonneg (show 0 ≤ (V m).re by grind) w1
    simp only [V, mul]
    grind
/-- the first quarter -/
theorem first_q {n : Nat} (h : n ≤ 1073741824) : -hair ≤ (V n).re ∧ -hair ≤ (V n).im := by
  have h0 : 0 ≤ hair := by decide +kernel
  have h5 : hair ≤ 1 / 2 := by decide +kernel
  rcases Nat.le_total n 536870912 with h1 | h1
  · have := half_re h1
    have := im_nn h1
    grind
  · obtain ⟨m, hm⟩ : ∃ m, 1073741824 = n + m := ⟨1073741824 - n, by omega⟩
    have e : V n = mul (V 1073741824) (cj (V m)) := by
      rw [hm, V_add, mul_assoc, (V_U m).mul_cj, mul_one]
    have hq := quarter.turn (V_U m).cj
    rw [sub_mul, ← e] at hq
    have k1 := hq.re
    have k2 := hq.im
    have a1 := half_re (m := m) (by omega)
    have a2 := im_nn (m := m) (by omega)
    simp only [sub, mul, Ci, cj] at k1 k2
    grind
end Cx
end Go.Xv
namespace Go.Xv
namespace Cx
/-- how much longer the steps make it, over 2^64 -/
def gL : List Int := [18446744073709551616, 26087635650665564425, 29166863343567579424, 30064514583371253785, 30298483206077454146, 30357602253914638508, 30372421684747952847, 30376129029489835462, 30377056021236072306, 30377287778897074256, 30377345718920132028, 30377360203963884889, 30377363825227197387, 30377364730543173905, 30377364956872177309, 30377365013454428739, 30377365027599991633, 30377365031136382359, 30377365032020480041, 30377365032241504461, 30377365032296760566, 30377365032310574592, 30377365032314028099, 30377365032314891476, 30377365032315107320, 30377365032315161281, 30377365032315174771, 30377365032315178144, 30377365032315178987, 30377365032315179197, 30377365032315179250]
def uu (i : Nat) : Rat := ((gL.getD i 0 : Int) : Rat) * (1 / 18446744073709551616)
def hp (i : Nat) : Rat := 1 / 2 ^ i
def eta : Rat := 1 / 1073741824
def stepC (i : Nat) (o : Bool) : Cx := ⟨1, if o then hp i else -hp i⟩
def kp (i : Nat) : Rat := if i = 0 then 3 / 2 else 1 + hp i * hp i / 2
def chk (i : Nat) : Bool := decide (n2 (sub (sc (uu i) ⟨1, hp i⟩) (sc (uu (i + 1)) (toC (pw 30 (tA i).toNat).1 (pw 30 (tA i).toNat).2.1))) ≤ (uu (i + 1) * (9 / 10 * eta)) * (uu (i + 1) * (9 / 10 * eta))) && decide (((pw 30 (tA i).toNat).2.2 : Rat) * r ≤ 1 / 10 * eta) && decide (0 ≤ uu (i + 1)) && decide (0 ≤ uu i)
theorem chk_all : ∀ i, i < 30 → chk i = true := by decide +kernel
theorem kp_all : ∀ i, i < 30 → decide (1 + hp i * hp i ≤ kp i * kp i ∧ 0 ≤ kp i) = true := by decide +kernel
theorem tab0 {i : Nat} (h : i < 30) : Nm (sub (sc (uu i) ⟨1, hp i⟩) (sc (uu (i + 1)) (VI (tA i)))) (uu (i + 1) * eta) := by
  have hc := chk_all i h
  unfold chk at hc
  simp only [Bool.and_eq_true, decide_eq_true_eq] at hc
  obtain ⟨⟨⟨c1, c2⟩, c3⟩, c4⟩ := hc
  have ht := tA_bd i h
  have e : VI (tA i) = V (tA i).toNat := by
    have : tA i = (((tA i).toNat : Nat) : Int) := by omega
    rw [this, VI_nat]
    rfl
  rw [e]
  have h1 := (pw_ok 30 (tA i).toNat (by omega)).2.neg
  have hr : (0 : Rat) ≤ 9 / 10 * eta := by decide +kernel
  have h2 : Nm (sub (sc (uu i) ⟨1, hp i⟩) (sc (uu (i + 1)) (toC (pw 30 (tA i).toNat).1 (pw 30 (tA i).toNat).2.1))) (uu (i + 1) * (9 / 10 * eta)) := ⟨Rat.mul_nonneg c3 hr, c1⟩
  have h3 := h2.add ((h1.mono c2).sc c3)
  generalize pw 30 (tA i).toNat = p at *
  generalize V (tA i).toNat = v at *
  have ee : Cx.add (sub (sc (uu i) ⟨1, hp i⟩) (sc (uu (i + 1)) (toC p.1 p.2.1))) (sc (uu (i + 1)) (sub (toC p.1 p.2.1) v)) = sub (sc (uu i) ⟨1, hp i⟩) (sc (uu (i + 1)) v) := by
    apply eqC <;> simp only [Cx.add, sub, sc] <;> grind
  rw [ee] at h3
  have e2 : uu (i + 1) * (9 / 10 * eta) + uu (i + 1) * (1 / 10 * eta) = uu (i + 1) * eta := by grind
  rwa [e2] at h3
def dt (i : Nat) (o : Bool) : Int := if o then tA i else -tA i
theorem tab {i : Nat} (h : i < 30) (o : Bool) : Nm (sub (sc (uu i) (stepC i o)) (sc (uu (i + 1)) (VI (dt i o)))) (uu (i + 1) * eta) := by
  have h1 := tab0 h
  cases o with
  | true => exact h1
  | false =>
    have h2 := h1.cj
    have e : Cx.cj (sub (sc (uu i) ⟨1, hp i⟩) (sc (uu (i + 1)) (VI (tA i)))) = sub (sc (uu i) (stepC i false)) (sc (uu (i + 1)) (VI (dt i false))) := by
      unfold dt stepC
      simp only [Bool.false_eq_true, if_false]
      rw [VI_neg]
      apply eqC <;> simp only [Cx.cj, sub, sc] <;> grind
    rwa [e] at h2
theorem step_nm {i : Nat} (h : i < 30) (o : Bool) : Nm (stepC i o) (kp i) := by
  have hc := kp_all i h
  simp only [decide_eq_true_eq] at hc
  refine ⟨hc.2, ?_⟩
  have : n2 (stepC i o) = 1 + hp i * hp i := by
    unfold stepC
    cases o <;> simp only [n2, Bool.false_eq_true, if_false, if_true] <;> grind
  rw [this]
  exact hc.1
def cx (x y : Int) : Cx := ⟨(x : Rat), (y : Rat)⟩
theorem hp_pos (i : Nat) : 0 < hp i ∧ ((2 ^ i : Int) : Rat) * hp i = 1 := by
  unfold hp
  have h : ((2 ^ i : Int) : Rat) = 2 ^ i := by rw [Rat.intCast_pow]; rfl
  have h0 : (0 : Rat) < 2 ^ i := Rat.pow_pos (by decide +kernel)
  rw [h]
  generalize (2 : Rat) ^ i = P at *
  constructor
  · rw [Rat.div_def, Rat.one_mul]
    exact Rat.inv_pos.2 h0
  · grind
theorem floor_p (y : Int) (i : Nat) : ((y / 2 ^ i : Int) : Rat) ≤ y * hp i ∧ (y : Rat) * hp i ≤ ((y / 2 ^ i : Int) : Rat) + 1 := by
  obtain ⟨h0, h1⟩ := hp_pos i
  have hP := p2pos i
  have d1 := Int.mul_ediv_add_emod y (2 ^ i)
  have d2 := Int.emod_nonneg y (show (2 : Int) ^ i ≠ 0 by omega)
  have d3 := Int.emod_lt_of_pos y hP
  generalize (2 : Int) ^ i = P at *
  have e1 : (((y / P) * P : Int) : Rat) ≤ (y : Rat) := cast_le (by rw [Int.mul_comm]; omega)
  have e2 : (y : Rat) ≤ (((y / P) * P + P : Int) : Rat) := cast_le (by rw [Int.mul_comm]; omega)
  rw [Rat.intCast_mul] at e1
  rw [Rat.intCast_add, Rat.intCast_mul] at e2
  have m1 := Rat.mul_le_mul_of_nonneg_right (c := hp i) e1 (Rat.le_of_lt h0)
  have m2 := Rat.mul_le_mul_of_nonneg_right (c := hp i) e2 (Rat.le_of_lt h0)
  rw [Rat.mul_assoc, h1, Rat.mul_one] at m1
  rw [Rat.add_mul, Rat.mul_assoc, h1, Rat.mul_one] at m2
  exact ⟨m1, m2⟩
theorem rot_nm (i : Nat) (o : Bool) (x y : Int) : Nm (sub (cx (rotX i o x y) (rotY i o x y)) (mul (cx x y) (stepC i o))) (3 / 2) := by
  have h1 := floor_p x i
  have h2 := floor_p y i
  unfold rotX rotY stepC
  cases o
  · simp only [Bool.false_eq_true, if_false, cx, Rat.intCast_add, Rat.intCast_sub]
    apply Nm.unit <;> simp only [sub, mul] <;> grind
  · simp only [if_true, cx, Rat.intCast_add, Rat.intCast_sub]
    apply Nm.unit <;> simp only [sub, mul] <;> grind
/-- one step of what lies near -/
theorem near_step {p v : Cx} {i : Nat} {o : Bool} {x y : Int} {c e : Rat} (hi : i < 30) (hp : p = cx x y) (hv : U v) (hc : 0 ≤ c) (h : Nm (sub p (sc (c * uu i) v)) e) :
    Nm (sub (cx (rotX i o x y) (rotY i o x y)) (sc (c * uu (i + 1)) (mul v (VI (dt i o))))) (e * kp i + 3 / 2 + c * (uu (i + 1) * eta)) := by
  subst hp
  have h1 := h.mul (step_nm hi o)
  have h2 := rot_nm i o x y
  have h3 := ((tab hi o).sc hc).turn hv
  have h4 := (h1.add h2).add h3
  have ee : Cx.add (Cx.add (mul (sub (cx x y) (sc (c * uu i) v)) (stepC i o)) (sub (cx (rotX i o x y) (rotY i o x y)) (mul (cx x y) (stepC i o)))) (mul (sc c (sub (sc (uu i) (stepC i o)) (sc (uu (i + 1)) (VI (dt i o))))) v) = sub (cx (rotX i o x y) (rotY i o x y)) (sc (c * uu (i + 1)) (mul v (VI (dt i o)))) := by
    apply eqC <;> simp only [Cx.add, sub, sc, mul] <;> grind
  rwa [ee] at h4
def KK : Rat := 2608131496
theorem stepB : ∀ i : Nat, i < 30 → decide (8 * (i : Rat) * kp i + 3 / 2 + KK * (uu (i + 1) * eta) ≤ 8 * ((i : Rat) + 1)) = true := by decide +kernel
theorem bS_near (z : Int) : ∀ i, i ≤ 30 → Nm (sub (cx (bS z i).1 (bS z i).2.1) (sc (KK * uu i) (VI (z - (bS z i).2.2)))) (8 * (i : Rat))
  | 0, _ => by
    refine ⟨by decide +kernel, ?_⟩
    simp only [bS]
    rw [Int.sub_self, VI_zero]
    decide +kernel
  | i + 1, h => by
    have ih := bS_near z i (by omega)
    have hs := near_step (o := decide (0 ≤ (bS z i).2.2)) (by omega) rfl (VI_U _) (by decide +kernel) ih
    have e : z - (bS z (i + 1)).2.2 = (z - (bS z i).2.2) + dt i (decide (0 ≤ (bS z i).2.2)) := by
      simp only [bS, dt]
      by_cases hz : 0 ≤ (bS z i).2.2
      · simp only [hz, decide_true, if_true]; omega
      · simp only [hz, decide_false, Bool.false_eq_true, if_false]; omega
    rw [e, VI_add]
    have hb := stepB i (by omega)
    simp only [decide_eq_true_eq] at hb
    refine Nm.mono hs ?_
    rw [Rat.natCast_add]
    exact hb
def TZ : Nat → Int
  | 0 => 1073741824
  | i + 1 => max (tA i) (TZ i - tA i)
theorem bS_left {z : Int} (hz : 0 ≤ z ∧ z < 1073741824) : ∀ i, -TZ i ≤ (bS z i).2.2 ∧ (bS z i).2.2 ≤ TZ i
  | 0 => by simp only [bS, TZ]; omega
  | i + 1 => by
    have ih := bS_left hz i
    simp only [bS, TZ]
    split <;> omega
theorem TZ30 : TZ 30 ≤ 3 := by decide +kernel
/-- of a few parts -/
theorem few {n : Int} (h : -3 ≤ n ∧ n ≤ 3) : Nm (sub (VI n) one) (1 / 200000000) := by
  have key : ∀ m : Nat, m ≤ 3 → Nm (sub (V m) one) (1 / 200000000) := by
    intro m hm
    have h1 := lip 0 m
    rw [Nat.zero_add] at h1
    refine h1.mono ?_
    have h2 := Rat.mul_le_mul_of_nonneg_right (c := Lw) (cast_leN hm) (by decide +kernel)
    have h3 : ((3 : Nat) : Rat) * Lw ≤ 1 / 200000000 := by decide +kernel
    grind
  rcases Int.le_total 0 n with hp | hp
  · obtain ⟨m, rfl⟩ := Int.eq_ofNat_of_zero_le hp
    rw [VI_nat]
    exact key m (by omega)
  · obtain ⟨m, hm⟩ := Int.eq_ofNat_of_zero_le (show 0 ≤ -n by omega)
    have e0 : n = -(m : Int) := by omega
    subst e0
    have hc := (key m (by omega)).cj
    have e1 : Cx.cj (sub (V m) one) = sub (VI (-(m : Int))) one := by
      rw [VI_neg, VI_nat]
      apply eqC <;> simp only [Cx.cj, sub, one] <;> grind
    rwa [e1] at hc
def One : Rat := 4294967296
theorem both0 {z : Int} (hz : 0 ≤ z ∧ z < 1073741824) : Nm (sub (cx (bS z 30).1 (bS z 30).2.1) (sc One (VI z))) 263 := by
  have h1 := bS_near z 30 (by omega)
  have hl := bS_left hz 30
  have hT := TZ30
  have h2 := (few (n := (bS z 30).2.2) (by omega)).neg
  have h3 := (h2.turn (VI_U (z - (bS z 30).2.2))).sc (r := KK * uu 30) (by decide +kernel)
  have e : VI z = mul (VI (z - (bS z 30).2.2)) (VI (bS z 30).2.2) := by rw [← VI_add]; congr 1; omega
  generalize (bS z 30).2.2 = l at *
  have h4 : Nm (sub (sc (KK * uu 30) (VI z)) (sc One (VI z))) 1 := by
    have := ((VI_U z).nm).sc (r := One - KK * uu 30) (by decide +kernel)
    have e : Cx.sc (One - KK * uu 30) (VI z) = sub (sc One (VI z)) (sc (KK * uu 30) (VI z)) := by apply eqC <;> simp only [sub, sc] <;> grind
    rw [e] at this
    exact (this.neg).mono (by decide +kernel)
  have e3 : Cx.sc (KK * uu 30) (mul (sub one (VI l)) (VI (z - l))) = sub (sc (KK * uu 30) (VI (z - l))) (sc (KK * uu 30) (VI z)) := by
    rw [e]; apply eqC <;> simp only [sub, sc, mul, one] <;> grind
  rw [e3] at h3
  have h5 := (h1.trans h3).trans h4
  exact h5.mono (by decide +kernel)
theorem Nm.coord {a b : Cx} {e : Rat} (h : Nm a e) (h1 : b.re * b.re ≤ a.re * a.re) (h2 : b.im * b.im ≤ a.im * a.im) : Nm b e := by
  refine ⟨h.1, ?_⟩
  have := h.2
  simp only [n2] at *
  grind
/-- clamping goes nearer to what lies between. -/
theorem clamp_near {x : Int} {t : Rat} (h0 : 0 ≤ t) (h1 : t ≤ One) : ((cl01 x : Int) : Rat) - t = 0 ∨ (((cl01 x : Int) : Rat) - t) * (((cl01 x : Int) : Rat) - t) ≤ ((x : Rat) - t) * ((x : Rat) - t) := by
  right
  have key : ∀ c d : Rat, 0 ≤ c * d → (c * c ≤ (c + d) * (c + d)) := by
    intro c d h
    have := sq_nn d
    grind
  have hcase : ((cl01 x : Int) : Rat) = x ∨ (((cl01 x : Int) : Rat) = 0 ∧ (x : Rat) ≤ 0) ∨ (((cl01 x : Int) : Rat) = One ∧ One ≤ (x : Rat)) := by
    unfold cl01
    by_cases c1 : x < 0
    · right; left
      rw [show min (max x 0) 4294967296 = 0 by omega]
      exact ⟨rfl, cast_le (b := 0) (by omega)⟩
    · by_cases c2 : 4294967296 ≤ x
      · right; right
        rw [show min (max x 0) 4294967296 = 4294967296 by omega]
        exact ⟨rfl, cast_le (a := 4294967296) c2⟩
      · left
        rw [show min (max x 0) 4294967296 = x by omega]
  rcases hcase with h | ⟨h, k⟩ | ⟨h, k⟩
  · rw [h]; exact Rat.le_refl
  · rw [h]
    have := key (0 - t) x (by have := Rat.mul_nonneg h0 (show 0 ≤ -(x : Rat) by grind); grind)
    grind
  · rw [h]
    have := key (One - t) (x - One) (Rat.mul_nonneg (by grind) (by grind))
    grind
theorem both1 {z : Int} (hz : 0 ≤ z ∧ z < 1073741824) : Nm (sub (cx (cl01 (bS z 30).1) (cl01 (bS z 30).2.1)) (sc One (VI z))) 264 := by
  have h1 := both0 hz
  obtain ⟨m, hm⟩ := Int.eq_ofNat_of_zero_le hz.1
  have hv : VI z = V m := by rw [hm, VI_nat]
  rw [hv] at h1 ⊢
  obtain ⟨q1, q2⟩ := first_q (n := m) (by omega)
  have b1 := (V_U m).nm.re
  have b2 := (V_U m).nm.im
  generalize V m = v at *
  let f : Rat → Rat := fun t => if t < 0 then 0 else t
  have hh : (0 : Rat) ≤ hair := by decide +kernel
  have hO : (0 : Rat) ≤ One := by decide +kernel
  have hOh : One * hair ≤ 1 / 8 := by decide +kernel
  have fd : ∀ t : Rat, -hair ≤ t → t ≤ 1 → (0 ≤ One * f t ∧ One * f t ≤ One) ∧ (One * f t - One * t ≤ 1 / 8 ∧ 0 ≤ One * f t - One * t) := by
    intro t h1 h2
    by_cases hn : t < 0
    · have : f t = 0 := if_pos hn
      rw [this]
      have := Rat.mul_le_mul_of_nonneg_left h1 hO
      have := Rat.mul_le_mul_of_nonneg_left (Rat.le_of_lt hn) hO
      grind
    · have : f t = t := if_neg hn
      rw [this]
      have h3 := Rat.mul_le_mul_of_nonneg_left h2 hO
      have h4 := Rat.mul_le_mul_of_nonneg_left (show 0 ≤ t by grind) hO
      grind
  obtain ⟨⟨f1, f2⟩, f3, f4⟩ := fd v.re q1 b1.1
  obtain ⟨⟨g1, g2⟩, g3, g4⟩ := fd v.im q2 b2.1
  have hT : Nm (sub (sc One v) ⟨One * f v.re, One * f v.im⟩) (1 / 8 + 1 / 8) := by
    apply Nm.of <;> simp only [sub, sc] <;> grind
  have h2 := h1.trans hT
  have c1 := clamp_near (x := (bS z 30).1) f1 f2
  have c2 := clamp_near (x := (bS z 30).2.1) g1 g2
  have h3 : Nm (sub (cx (cl01 (bS z 30).1) (cl01 (bS z 30).2.1)) ⟨One * f v.re, One * f v.im⟩) (263 + (1 / 8 + 1 / 8)) := by
    refine h2.coord ?_ ?_
    · simp only [sub, cx]
      rcases c1 with c | c
      · rw [c, Rat.zero_mul]; exact sq_nn _
      · exact c
    · simp only [sub, cx]
      rcases c2 with c | c
      · rw [c, Rat.zero_mul]; exact sq_nn _
      · exact c
  exact (h3.trans hT.neg).mono (by decide +kernel)
theorem VI_quarter : Nm (sub (VI 1073741824) Ci) hair := by
  rw [show (1073741824 : Int) = ((1073741824 : Nat) : Int) by rfl, VI_nat]
  exact quarter
/-- a quarter on -/
theorem on_quarter {c s n : Int} {e : Rat} (h : Nm (sub (cx c s) (sc One (VI n))) e) : Nm (sub (cx (-s) c) (sc One (VI (n + 1073741824)))) (e + 1 / 8) := by
  have h1 := h.turn Ci_U
  have h2 := ((VI_quarter.neg).turn (VI_U n)).sc (r := One) (by decide +kernel)
  have h3 := h1.add h2
  rw [VI_add]
  have ee : Cx.add (mul (sub (cx c s) (sc One (VI n))) Ci) (sc One (mul (sub Ci (VI 1073741824)) (VI n))) = sub (cx (-s) c) (sc One (mul (VI n) (VI 1073741824))) := by
    apply eqC <;> simp only [Cx.add, sub, sc, mul, cx, Ci, Rat.intCast_neg] <;> grind
  rw [ee] at h3
  exact h3.mono (by have : One * hair ≤ 1 / 8 := by decide +kernel
                    grind)
theorem both_near {a : Int} (ha : 0 ≤ a ∧ a < 4294967296) : Nm (sub (cx (bothC a) (bothS a)) (sc One (VI a))) 265 := by
  have h0 : Nm (sub (cx (bC a) (bN a)) (sc One (VI (a % 1073741824)))) 264 := both1 (z := a % 1073741824) (by omega)
  have h1 := on_quarter h0
  have h2 := on_quarter h1
  have h3 := on_quarter h2
  have hq : a / 1073741824 = 0 ∨ a / 1073741824 = 1 ∨ a / 1073741824 = 2 ∨ a / 1073741824 = 3 := by omega
  unfold bothC bothS
  rcases hq with h | h | h | h
  · rw [show a % 1073741824 = a by omega] at h0
    rw [if_pos h, if_pos h]
    exact h0.mono (by decide +kernel)
  · rw [show a % 1073741824 + 1073741824 = a by omega] at h1
    rw [if_neg (by omega), if_pos h, if_neg (by omega), if_pos h]
    exact h1.mono (by decide +kernel)
  · rw [show a % 1073741824 + 1073741824 + 1073741824 = a by omega] at h2
    rw [if_neg (by omega), if_neg (by omega), if_pos h, if_neg (by omega), if_neg (by omega), if_pos h]
    exact h2.mono (by decide +kernel)
  · rw [show a % 1073741824 + 1073741824 + 1073741824 + 1073741824 = a by omega, Int.neg_neg] at h3
    rw [if_neg (by omega), if_neg (by omega), if_neg (by omega), if_neg (by omega), if_neg (by omega), if_neg (by omega)]
    exact h3.mono (by decide +kernel)
/-- how long it is -/
theorem both_len {a : Int} (ha : 0 ≤ a ∧ a < 4294967296) : bothC a * bothC a + bothS a * bothS a ≤ 18446746350042288721 ∧ 18446741788787020900 ≤ bothC a * bothC a + bothS a * bothS a := by
  have h := both_near ha
  have hu := ((VI_U a).nm).sc (r := One) (by decide +kernel)
  have e0 : n2 (cx (bothC a) (bothS a)) = ((bothC a * bothC a + bothS a * bothS a : Int) : Rat) := by
    simp only [n2, cx, Rat.intCast_add, Rat.intCast_mul]
  constructor
  · have h1 := h.add hu
    have e : Cx.add (sub (cx (bothC a) (bothS a)) (sc One (VI a))) (sc One (VI a)) = cx (bothC a) (bothS a) := by apply eqC <;> simp only [Cx.add, sub] <;> grind
    rw [e] at h1
    have h2 := h1.2
    rw [e0] at h2
    have h3 : (265 + One * 1) * (265 + One * 1) = ((18446746350042288721 : Int) : Rat) := by decide +kernel
    rw [h3] at h2
    have := Rat.intCast_le_intCast.1 h2
    omega
  · rcases Int.lt_or_le (bothC a * bothC a + bothS a * bothS a) 18446741788787020900 with hl | hl
    · exfalso
      have k : Nm (cx (bothC a) (bothS a)) (One - 266) := by
        refine ⟨by decide +kernel, ?_⟩
        rw [e0]
        have h3 : (One - 266) * (One - 266) = ((18446741788787020900 : Int) : Rat) := by decide +kernel
        rw [h3]
        exact cast_le (by omega)
      have h1 := k.add h.neg
      have e : Cx.add (cx (bothC a) (bothS a)) (sub (sc One (VI a)) (cx (bothC a) (bothS a))) = sc One (VI a) := by apply eqC <;> simp only [Cx.add, sub] <;> grind
      rw [e] at h1
      have h2 := h1.2
      have e3 : n2 (sc One (VI a)) = One * One := by
        have := VI_U a
        simp only [U, n2, sc] at *
        grind
      rw [e3] at h2
      have : ¬ One * One ≤ (One - 266 + 265) * (One - 266 + 265) := by decide +kernel
      exact this h2
    · exact hl
end Cx
end Go.Xv
namespace Go.Xv
namespace Cx
theorem near_stepA {p v : Cx} {p0 : Cx} {i : Nat} {o : Bool} {x y : Int} {m e : Rat} (hi : i < 30) (hp : p = cx x y) (hv : U v) (h0 : Nm p0 m) (h : Nm (sub (mul p v) (sc (uu i) p0)) e) :
    Nm (sub (mul (cx (rotX i o x y) (rotY i o x y)) (mul v (cj (VI (dt i o))))) (sc (uu (i + 1)) p0)) (e * kp i + 3 / 2 + m * (uu (i + 1) * eta)) := by
  subst hp
  have hU := (VI_U (dt i o)).cj
  have h1 := (h.mul (step_nm hi o)).turn hU
  have h2 := (rot_nm i o x y).turn (hv.mul hU)
  have h3 := (h0.mul (tab hi o)).turn hU
  have h4 := (h1.add h2).add h3
  have hu : mul (VI (dt i o)) (cj (VI (dt i o))) = one := (VI_U (dt i o)).mul_cj
  have ee : Cx.add (Cx.add (mul (mul (sub (mul (cx x y) v) (sc (uu i) p0)) (stepC i o)) (cj (VI (dt i o)))) (mul (sub (cx (rotX i o x y) (rotY i o x y)) (mul (cx x y) (stepC i o))) (mul v (cj (VI (dt i o)))))) (mul (mul p0 (sub (sc (uu i) (stepC i o)) (sc (uu (i + 1)) (VI (dt i o))))) (cj (VI (dt i o)))) =
      sub (mul (cx (rotX i o x y) (rotY i o x y)) (mul v (cj (VI (dt i o))))) (sc (uu (i + 1)) (mul p0 (mul (VI (dt i o)) (cj (VI (dt i o)))))) := by
    apply eqC <;> simp only [Cx.add, sub, sc, mul] <;> grind
  rw [ee, hu, mul_one] at h4
  exact h4
theorem stepA : ∀ i : Nat, i < 30 → decide (3 * (i : Rat) * kp i + 1 / 1000 + 3 / 2 * uu (i + 1) ≤ 3 * ((i : Rat) + 1)) = true := by decide +kernel
theorem aS_near {x y : Int} {m : Rat} (hm : 1152921504606846976 ≤ m) (h0 : Nm (cx x y) (3 / 2 * m)) : ∀ i, i ≤ 30 → Nm (sub (mul (cx (aS x y i).1 (aS x y i).2.1) (VI (aS x y i).2.2)) (sc (uu i) (cx x y))) (3 * (i : Rat) * (m * eta))
  | 0, _ => by
    simp only [aS]
    rw [VI_zero, mul_one]
    have e : uu 0 = 1 := by decide +kernel
    rw [e]
    refine ⟨?_, ?_⟩
    · have : ((0 : Nat) : Rat) = 0 := by decide +kernel
      rw [this]; grind
    · simp only [n2, sub, sc, cx]
      have : ((0 : Nat) : Rat) = 0 := by decide +kernel
      rw [this]; grind
  | i + 1, h => by
    have ih := aS_near hm h0 i (by omega)
    have hs := near_stepA (o := decide ((aS x y i).2.1 < 0)) (by omega) rfl (VI_U _) h0 ih
    have e : (aS x y (i + 1)).2.2 = (aS x y i).2.2 + -dt i (decide ((aS x y i).2.1 < 0)) := by
      simp only [aS, dt]
      by_cases hz : (aS x y i).2.1 < 0
      · simp only [hz, decide_true, if_true]; omega
      · simp only [hz, decide_false, Bool.false_eq_true, if_false]; omega
    rw [e, VI_add, VI_neg]
    have hb := stepA i (by omega)
    simp only [decide_eq_true_eq] at hb
    refine Nm.mono hs ?_
    have hc : ((i + 1 : Nat) : Rat) = (i : Rat) + 1 := by rw [Rat.natCast_add]; rfl
    rw [hc]
    have hme : 1500 ≤ m * eta := by
      have := Rat.mul_le_mul_of_nonneg_right (c := eta) hm (by decide +kernel)
      have h2 : (1500 : Rat) ≤ 1152921504606846976 * eta := by decide +kernel
      grind
    have hb2 := Rat.mul_le_mul_of_nonneg_right (c := m * eta) hb (by grind)
    generalize kp i = K at *
    generalize uu (i + 1) = u at *
    generalize (i : Rat) = j at *
    generalize eta = t at *
    generalize hM : m * t = M at *
    have e1 : (3 * j * K + 1 / 1000 + 3 / 2 * u) * M = 3 * j * M * K + 1 / 1000 * M + 3 / 2 * m * (u * t) := by rw [← hM]; grind
    rw [e1] at hb2
    grind
/-- what is left across is little -/
theorem aS_thin {x y : Int} (hx : 0 ≤ x ∧ x ≤ 2305843009213693952) (hy : -2305843009213693952 ≤ y ∧ y ≤ 2305843009213693952) : ∀ i : Nat, 1 ≤ i → i ≤ 30 →
    (aS x y i).2.1 * 2 ^ i ≤ 2 * (aS x y i).1 + i * 2 ^ i ∧ -(2 * (aS x y i).1 + i * 2 ^ i) ≤ (aS x y i).2.1 * 2 ^ i
  | 0, h, _ => absurd h (by omega)
  | 1, _, _ => by
    simp only [aS, rotX, rotY]
    by_cases h : y < 0
    · simp [h]; omega
    · simp [h]; omega
  | i + 2, _, h2 => by
    obtain ⟨h3, h4⟩ := aS_thin hx hy (i + 1) (by omega) (by omega)
    obtain ⟨⟨b1, b2⟩, _, _⟩ := aS_bd hx hy (i := i + 1) (by omega)
    have hP := p2pos (i + 1)
    have e : (2 : Int) ^ (i + 2) = 2 * 2 ^ (i + 1) := by rw [Int.pow_succ]; omega
    have d1 := Int.mul_ediv_add_emod (aS x y (i + 1)).1 (2 ^ (i + 1))
    have d2 := Int.emod_nonneg (aS x y (i + 1)).1 (show (2 : Int) ^ (i + 1) ≠ 0 by omega)
    have d3 := Int.emod_lt_of_pos (aS x y (i + 1)).1 hP
    have f1 := Int.mul_ediv_add_emod (aS x y (i + 1)).2.1 (2 ^ (i + 1))
    have f2 := Int.emod_nonneg (aS x y (i + 1)).2.1 (show (2 : Int) ^ (i + 1) ≠ 0 by omega)
    have f3 := Int.emod_lt_of_pos (aS x y (i + 1)).2.1 hP
    have es : aS x y (i + 2) = (rotX (i + 1) (decide ((aS x y (i + 1)).2.1 < 0)) (aS x y (i + 1)).1 (aS x y (i + 1)).2.1, rotY (i + 1) (decide ((aS x y (i + 1)).2.1 < 0)) (aS x y (i + 1)).1 (aS x y (i + 1)).2.1, if (aS x y (i + 1)).2.1 < 0 then (aS x y (i + 1)).2.2 - tA (i + 1) else (aS x y (i + 1)).2.2 + tA (i + 1)) := rfl
    rw [es, e]
    have ec : ((i + 2 : Nat) : Int) = ((i + 1 : Nat) : Int) + 1 := by omega
    rw [ec]
    have hj : 0 ≤ ((i + 1 : Nat) : Int) * 2 ^ (i + 1) := Int.mul_nonneg (by omega) (by omega)
    generalize ((i + 1 : Nat) : Int) = j at *
    generalize (aS x y (i + 1)).1 = X at *
    generalize (aS x y (i + 1)).2.1 = Y at *
    simp only
    unfold rotX rotY
    generalize (2 : Int) ^ (i + 1) = P at *
    have m0 : (X / P) * (2 * P) = 2 * (P * (X / P)) := by rw [Int.mul_comm (X / P), Int.mul_assoc]
    have m1 : (j + 1) * (2 * P) = 2 * (j * P) + 2 * P := by rw [Int.add_mul, Int.one_mul, ← Int.mul_assoc, Int.mul_comm j 2, Int.mul_assoc]
    have m2 : Y * (2 * P) = 2 * (Y * P) := by rw [← Int.mul_assoc, Int.mul_comm Y 2, Int.mul_assoc]
    by_cases h : Y < 0
    · have hn : Y / P < 0 := Int.ediv_neg_of_neg_of_pos h hP
      have hY : Y * P ≤ 0 := Int.mul_nonpos_of_nonpos_of_nonneg (by omega) (by omega)
      simp only [h, decide_true, if_true]
      rw [Int.add_mul, m0, m1, m2]
      omega
    · have hn : 0 ≤ Y / P := Int.ediv_nonneg (by omega) (by omega)
      have hY : 0 ≤ Y * P := Int.mul_nonneg (by omega) (by omega)
      simp only [h, decide_false, Bool.false_eq_true, if_false]
      rw [Int.sub_mul, m0, m1, m2]
      omega
theorem gap {u v : Cx} {s t d : Rat} (hu : U u) (hv : U v) (hs : 0 ≤ s) (ht : 0 ≤ t) (h : Nm (sub (sc s u) (sc t v)) d) : s - t ≤ d ∧ t - s ≤ d := by
  have h2 := h.2
  have hr : u.re * v.re + u.im * v.im ≤ 1 := by
    refine le_of_sq (by decide +kernel) ?_
    have e1 := sq_nn (u.re * v.im - u.im * v.re)
    have e2 : (u.re * v.re + u.im * v.im) * (u.re * v.re + u.im * v.im) + (u.re * v.im - u.im * v.re) * (u.re * v.im - u.im * v.re) = n2 u * n2 v := by simp only [n2]; grind
    unfold U at hu hv
    rw [hu, hv] at e2
    grind
  have h3 := Rat.mul_le_mul_of_nonneg_left hr (Rat.mul_nonneg hs ht)
  have e : n2 (sub (sc s u) (sc t v)) = s * s * n2 u + t * t * n2 v - 2 * (s * t * (u.re * v.re + u.im * v.im)) := by simp only [n2, sub, sc]; grind
  unfold U at hu hv
  rw [e, hu, hv] at h2
  have k : (s - t) * (s - t) ≤ d * d := by grind
  constructor
  · exact le_of_sq h.1 k
  · exact le_of_sq h.1 (by grind)
theorem n2_sc (s : Rat) (u : Cx) : n2 (sc s u) = s * s * n2 u := by simp only [n2, sc]; grind
/-- What the steps end with, of numbers that are scaled. -/
theorem aS_end {x y : Int} (hx : 0 ≤ x ∧ x ≤ 2305843009213693952) (hy : -2305843009213693952 ≤ y ∧ y ≤ 2305843009213693952) {m : Int} (hm : 1152921504606846976 ≤ m) (h1 : x ≤ m) (h2 : -m ≤ y ∧ y ≤ m) (h3 : x = m ∨ y = m ∨ y = -m) :
    ∃ s : Rat, 0 < s ∧ Nm (sub (cx x y) (sc s (VI (aS x y 30).2.2))) (s * (59 / 1073741824)) := by
  have hM : (1152921504606846976 : Rat) ≤ (m : Rat) := cast_le (a := 1152921504606846976) hm
  have c1 : (x : Rat) ≤ (m : Rat) := cast_le h1
  have c0 : (0 : Rat) ≤ (x : Rat) := cast_le (a := 0) hx.1
  have c2 : (y : Rat) ≤ (m : Rat) := cast_le h2.2
  have c3 : -(m : Rat) ≤ (y : Rat) := by
    have := cast_le h2.1
    rw [Rat.intCast_neg] at this
    exact this
  have hlow : (m : Rat) * (m : Rat) ≤ n2 (cx x y) := by
    simp only [n2, cx]
    have s1 := sq_nn (x : Rat)
    have s2 := sq_nn (y : Rat)
    rcases h3 with h | h | h
    · rw [h]; grind
    · rw [h]; grind
    · rw [h, Rat.intCast_neg]; grind
  have h0 : Nm (cx x y) (3 / 2 * (m : Rat)) := by
    have q1 := Rat.mul_nonneg (show 0 ≤ (m : Rat) - x by grind) (show 0 ≤ (m : Rat) + x by grind)
    have q2 := Rat.mul_nonneg (show 0 ≤ (m : Rat) - y by grind) (show 0 ≤ (m : Rat) + y by grind)
    have q3 := sq_nn (m : Rat)
    refine ⟨by grind, ?_⟩
    simp only [n2, cx]
    grind
  have hn := aS_near hM h0 30 (by omega)
  obtain ⟨t1, t2⟩ := aS_thin hx hy 30 (by omega) (by omega)
  obtain ⟨⟨b1, _⟩, _, _⟩ := aS_bd hx hy (i := 30) (by omega)
  generalize (aS x y 30).1 = X at *
  generalize (aS x y 30).2.1 = Y at *
  have hv := VI_U (aS x y 30).2.2
  generalize VI (aS x y 30).2.2 = v at *
  have hX : (0 : Rat) ≤ (X : Rat) := cast_le (a := 0) b1
  have hY1 : (Y : Rat) * 1073741824 ≤ 2 * (X : Rat) + 32212254720 := by
    have := cast_le (a := Y * 1073741824) (b := 2 * X + 32212254720) (by omega)
    simp only [Rat.intCast_add, Rat.intCast_mul] at this
    exact this
  have hY2 : -(2 * (X : Rat) + 32212254720) ≤ (Y : Rat) * 1073741824 := by
    have := cast_le (a := -(2 * X + 32212254720)) (b := Y * 1073741824) (by omega)
    simp only [Rat.intCast_add, Rat.intCast_mul, Rat.intCast_neg] at this
    exact this
  have hc : Nm (sub (sc (X : Rat) v) (mul (cx X Y) v)) ((X : Rat) * (2 / 1073741824) + 30) := by
    have k : Nm (sub ⟨(X : Rat), 0⟩ (cx X Y)) (0 + ((X : Rat) * (2 / 1073741824) + 30)) := by
      apply Nm.of <;> simp only [sub, cx] <;> grind
    have k2 := k.turn hv
    have e : mul (sub ⟨(X : Rat), 0⟩ (cx X Y)) v = sub (sc (X : Rat) v) (mul (cx X Y) v) := by
      apply eqC <;> simp only [sub, sc, mul] <;> grind
    rw [e, Rat.zero_add] at k2
    exact k2
  have hd := hc.trans hn
  have ec : ((30 : Nat) : Rat) = 30 := by decide +kernel
  rw [ec] at hd
  have u1 : 8 / 5 + 4 / 100 ≤ uu 30 := by decide +kernel
  have u2 : uu 30 ≤ 1647 / 1000 := by decide +kernel
  -- X is large
  have hbig : 8 / 5 * (m : Rat) ≤ (X : Rat) := by
    rcases Rat.le_total (a := 8 / 5 * (m : Rat)) (b := (X : Rat)) with h | h
    · exact h
    · exfalso
      have k1 := ((hv.nm).sc hX).add hd.neg
      have e : Cx.add (sc (X : Rat) v) (sub (sc (uu 30) (cx x y)) (sc (X : Rat) v)) = sc (uu 30) (cx x y) := by apply eqC <;> simp only [Cx.add, sub] <;> grind
      rw [e] at k1
      have k2 := k1.mono (f := 161 / 100 * (m : Rat)) (by unfold eta; grind)
      have k3 := k2.2
      rw [n2_sc] at k3
      have k4 := Rat.mul_le_mul_of_nonneg_left hlow (sq_nn (uu 30))
      have k5 := sq_le_sq (x := 163 / 100) (y := uu 30) (by decide +kernel) (by grind)
      have k6 := Rat.mul_le_mul_of_nonneg_right k5 (sq_nn (m : Rat))
      have k7 := Rat.mul_pos (show 0 < (m : Rat) by grind) (show 0 < (m : Rat) by grind)
      generalize uu 30 * uu 30 = z at *
      generalize n2 (cx x y) = a at *
      grind
  have hu0 : 0 < uu 30 := by decide +kernel
  have hui : uu 30 * (uu 30)⁻¹ = 1 := Rat.mul_inv_cancel _ (by grind)
  have hip : 0 < (uu 30)⁻¹ := Rat.inv_pos.2 hu0
  generalize (uu 30)⁻¹ = g at *
  refine ⟨g * X, Rat.mul_pos hip (by grind), ?_⟩
  have hf := (hd.neg).sc (Rat.le_of_lt hip)
  have e : Cx.sc g (sub (sc (uu 30) (cx x y)) (sc (X : Rat) v)) = sub (cx x y) (sc (g * X) v) := by
    apply eqC <;> simp only [sub, sc] <;> grind
  rw [e] at hf
  refine hf.mono ?_
  have k : (X : Rat) * (2 / 1073741824) + 30 + 3 * 30 * ((m : Rat) * eta) ≤ X * (59 / 1073741824) := by unfold eta; grind
  have := Rat.mul_le_mul_of_nonneg_left k (Rat.le_of_lt hip)
  grind
end Cx
end Go.Xv
namespace Go.Xv
namespace Cx
theorem whole_nat : ∀ j : Nat, Nm (sub (V (4294967296 * j)) one) ((j : Rat) * hair)
  | 0 => by
    rw [Nat.mul_zero]
    have : ((0 : Nat) : Rat) = 0 := by decide +kernel
    rw [this]
    refine ⟨by grind, ?_⟩
    simp only [V, n2, sub, one]; grind
  | j + 1 => by
    have ih := (whole_nat j).add (whole.turn (V_U (4294967296 * j)))
    rw [Nat.mul_add, Nat.mul_one, V_add]
    have hc : ((j + 1 : Nat) : Rat) = (j : Rat) + 1 := by rw [Rat.natCast_add]; rfl
    generalize V (4294967296 * j) = u at *
    generalize V 4294967296 = v at *
    have e : Cx.add (sub u one) (mul (sub v one) u) = sub (mul u v) one := by
      apply eqC <;> simp only [Cx.add, sub, mul, one] <;> grind
    rw [e] at ih
    rw [hc]
    exact ih.mono (by grind)
theorem whole_int {j : Int} (h : -8 ≤ j ∧ j ≤ 8) : Nm (sub (VI (4294967296 * j)) one) (8 * hair) := by
  have hh : (0 : Rat) ≤ hair := by decide +kernel
  have key : ∀ m : Nat, m ≤ 8 → Nm (sub (V (4294967296 * m)) one) (8 * hair) := by
    intro m hm
    refine (whole_nat m).mono ?_
    exact Rat.mul_le_mul_of_nonneg_right (cast_leN hm) hh
  rcases Int.le_total 0 j with hp | hp
  · obtain ⟨m, rfl⟩ := Int.eq_ofNat_of_zero_le hp
    rw [show (4294967296 : Int) * (m : Int) = ((4294967296 * m : Nat) : Int) by omega, VI_nat]
    exact key m (by omega)
  · obtain ⟨m, hm⟩ := Int.eq_ofNat_of_zero_le (show 0 ≤ -j by omega)
    have e0 : 4294967296 * j = -((4294967296 * m : Nat) : Int) := by omega
    have hc := (key m (by omega)).cj
    rw [e0, VI_neg, VI_nat]
    generalize V (4294967296 * m) = u at *
    have e1 : Cx.cj (sub u one) = sub (cj u) one := by apply eqC <;> simp only [Cx.cj, sub, one] <;> grind
    rwa [e1] at hc
/-- whole turns change nothing -/
theorem VI_mod {z t : Int} (h : z % 4294967296 = t % 4294967296) (h1 : -17179869184 ≤ z - t ∧ z - t ≤ 17179869184) : Nm (sub (VI z) (VI t)) (8 * hair) := by
  have hj : z - t = 4294967296 * ((z - t) / 4294967296) := by omega
  have k := (whole_int (j := (z - t) / 4294967296) (by omega)).turn (VI_U t)
  have e : VI z = mul (VI (4294967296 * ((z - t) / 4294967296))) (VI t) := by rw [← VI_add, ← hj]; congr 1; omega
  rw [e]
  generalize VI (4294967296 * ((z - t) / 4294967296)) = u at *
  have e1 : mul (sub u one) (VI t) = sub (mul u (VI t)) (VI t) := by apply eqC <;> simp only [mul, sub, one] <;> grind
  rwa [e1] at k
theorem VI_half (n : Int) : Nm (sub (VI (n + 2147483648)) (sc (-1) (VI n))) hair := by
  have k := half.turn (VI_U n)
  rw [VI_add, show VI 2147483648 = V 2147483648 from VI_nat 2147483648]
  generalize V 2147483648 = u at *
  have e1 : mul (sub u ⟨-1, 0⟩) (VI n) = sub (mul (VI n) u) (sc (-1) (VI n)) := by apply eqC <;> simp only [mul, sub, sc] <;> grind
  rwa [e1] at k
/-- an angle near 0 -/
theorem near_mod {n : Int} {d : Rat} (hn : -17179869184 ≤ n ∧ n ≤ 17179869184) (h : Nm (sub (VI n) one) d) : (((n + 2147483648) % 4294967296 - 2147483648 : Int) : Rat) ≤ 2684354560 * (d + 8 * hair) ∧ -(2684354560 * (d + 8 * hair)) ≤ (((n + 2147483648) % 4294967296 - 2147483648 : Int) : Rat) := by
  have k := VI_mod (z := (n + 2147483648) % 4294967296 - 2147483648) (t := n) (by omega) (by omega)
  have k2 := k.trans h
  refine near_VI (by omega) (k2.mono (by grind))
theorem dbl_pow : ∀ (n : Nat) (x y : Int), ∃ k : Nat, dbl n x y = (x * 2 ^ k, y * 2 ^ k)
  | 0, x, y => ⟨0, by simp [dbl]⟩
  | n + 1, x, y => by
    rw [dbl]
    split
    · obtain ⟨k, hk⟩ := dbl_pow n (x * 2) (y * 2)
      refine ⟨k + 1, ?_⟩
      rw [hk, Int.pow_succ, Int.mul_comm (2 ^ k) 2, ← Int.mul_assoc, ← Int.mul_assoc]
    · exact ⟨0, by simp⟩
theorem scd_pow {x y : Int} (hb : big x y < 2305843009213693952) : ∃ k : Nat, scd x y = (x * 2 ^ k, y * 2 ^ k) := by
  unfold scd
  rw [down_small hb]
  exact dbl_pow 64 x y
/-- of a pair to the right of 0 -/
theorem right_near {x y : Int} (h0 : 0 ≤ x) (h1 : 1 ≤ big x y) (hb : big x y < 2305843009213693952) :
    ∃ s : Rat, 0 < s ∧ Nm (sub (cx x y) (sc s (VI (aS (scd x y).1 (scd x y).2 30).2.2))) (s * (59 / 1073741824)) := by
  obtain ⟨i1, i2⟩ := sz_I (x := x) (y := y) (by omega)
  have hs := scd_bd i1 i2 h1
  have hg := scd_sgn (y := y) h0
  obtain ⟨b1, b2⟩ := big_to hs.2 hg
  obtain ⟨k, hk⟩ := scd_pow hb
  obtain ⟨s, s0, hn⟩ := aS_end b1 b2 (m := big (scd x y).1 (scd x y).2) hs.1 (by unfold big sz; omega) (by unfold big sz; omega) (by unfold big sz; omega)
  generalize (aS (scd x y).1 (scd x y).2 30).2.2 = z at *
  rw [hk] at hn
  obtain ⟨p0, p1⟩ := hp_pos k
  refine ⟨hp k * s, Rat.mul_pos p0 s0, ?_⟩
  have h2 := hn.sc (Rat.le_of_lt p0)
  have e : Cx.sc (hp k) (sub (cx (x * 2 ^ k) (y * 2 ^ k)) (sc s (VI z))) = sub (cx x y) (sc (hp k * s) (VI z)) := by
    simp only [cx, Rat.intCast_mul]
    generalize ((2 ^ k : Int) : Rat) = P at *
    apply eqC <;> simp only [sub, sc] <;> grind
  dsimp only at h2
  rw [e] at h2
  exact h2.mono (by grind)
theorem aS_far (x y : Int) : ∀ i : Nat, i ≤ 30 → -(536870912 * (i : Int)) ≤ (aS x y i).2.2 ∧ (aS x y i).2.2 ≤ 536870912 * (i : Int)
  | 0, _ => by simp only [aS]; omega
  | i + 1, h => by
    have ih := aS_far x y i (by omega)
    have := tA_bd i (by omega)
    simp only [aS]
    split <;> omega
/-- The angle of two numbers is where they lie. -/
theorem angle_near {x y : Int} (h : ¬ (x = 0 ∧ y = 0)) (hb : big x y < 2305843009213693952) : ∃ s : Rat, 0 < s ∧ Nm (sub (cx x y) (sc s (VI (angle y x)))) (s * (60 / 1073741824)) := by
  have h1 := big_one h
  have fin : ∀ (s : Rat) (u v : Cx), 0 < s → Nm (sub (cx x y) (sc s u)) (s * (59 / 1073741824)) → Nm (sub u v) (9 * hair) → Nm (sub (cx x y) (sc s v)) (s * (60 / 1073741824)) := by
    intro s u v s0 k1 k2
    have k3 := k1.add (k2.sc (Rat.le_of_lt s0))
    have e : Cx.add (sub (cx x y) (sc s u)) (sc s (sub u v)) = sub (cx x y) (sc s v) := by apply eqC <;> simp only [Cx.add, sub, sc] <;> grind
    rw [e] at k3
    have hh : (59 / 1073741824 : Rat) + 9 * hair ≤ 60 / 1073741824 := by decide +kernel
    have := Rat.mul_le_mul_of_nonneg_left hh (Rat.le_of_lt s0)
    exact k3.mono (by grind)
  have hh : (0 : Rat) ≤ hair := by decide +kernel
  unfold angle
  rw [if_neg h]
  by_cases hn : x < 0
  · rw [if_pos hn]
    have ox : opp x = -x := by unfold opp; rw [if_neg (by unfold big sz at hb; omega)]
    have oy : opp y = -y := by unfold opp; rw [if_neg (by unfold big sz at hb; omega)]
    rw [ox, oy]
    have hbn : big (-x) (-y) = big x y := by unfold big sz; omega
    obtain ⟨s, s0, k⟩ := right_near (x := -x) (y := -y) (by omega) (by omega) (by omega)
    have hz := aS_far (scd (-x) (-y)).1 (scd (-x) (-y)).2 30 (by omega)
    generalize (aS (scd (-x) (-y)).1 (scd (-x) (-y)).2 30).2.2 = z at *
    refine ⟨s, s0, fin s (sc (-1) (VI z)) _ s0 ?_ ?_⟩
    · have k2 := k.neg
      have e : sub (sc s (VI z)) (cx (-x) (-y)) = sub (cx x y) (sc s (sc (-1) (VI z))) := by
        apply eqC <;> simp only [sub, sc, cx, Rat.intCast_neg] <;> grind
      rwa [e] at k2
    · have k3 := (VI_half z).neg.trans (VI_mod (z := z + 2147483648) (t := (z + 2147483648) % 4294967296) (by omega) (by omega))
      exact k3.mono (by grind)
  · rw [if_neg hn]
    obtain ⟨s, s0, k⟩ := right_near (x := x) (y := y) (by omega) h1 hb
    have hz := aS_far (scd x y).1 (scd x y).2 30 (by omega)
    generalize (aS (scd x y).1 (scd x y).2 30).2.2 = z at *
    refine ⟨s, s0, fin s (VI z) _ s0 k ?_⟩
    exact (VI_mod (z := z) (t := z % 4294967296) (by omega) (by omega)).mono (by grind)
/-- two directions that are near -/
theorem dir_near {s t e : Rat} {a b : Int} (hs : 0 < s) (ht : 0 ≤ t) (h : Nm (sub (sc s (VI a)) (sc t (VI b))) e) : Nm (sub (VI (a - b)) one) (s⁻¹ * (2 * e)) := by
  have hg := gap (VI_U a) (VI_U b) (Rat.le_of_lt hs) ht h
  have k : Nm (sub (sc t (VI b)) (sc s (VI b))) e := by
    have e1 : sub (sc t (VI b)) (sc s (VI b)) = sc (t - s) (VI b) := by apply eqC <;> simp only [sub, sc] <;> grind
    rw [e1]
    refine ⟨h.1, ?_⟩
    rw [n2_sc]
    have := VI_U b
    unfold U at this
    rw [this]
    have m1 := Rat.mul_nonneg (show 0 ≤ e - (t - s) by grind) (show 0 ≤ e + (t - s) by grind)
    grind
  have k2 := ((h.trans k).turn (VI_U b).cj).sc (Rat.le_of_lt (Rat.inv_pos.2 hs))
  have hi : s * s⁻¹ = 1 := Rat.mul_inv_cancel _ (by grind)
  generalize s⁻¹ = g at *
  rw [Int.sub_eq_add_neg, VI_add, VI_neg]
  have hu := (VI_U b).mul_cj
  generalize VI b = v at *
  generalize VI a = u at *
  have ee : Cx.sc g (mul (sub (sc s u) (sc s v)) (cj v)) = sub (mul u (cj v)) (mul v (cj v)) := by
    apply eqC <;> simp only [sub, sc, mul, cj] <;> grind
  rw [ee, hu] at k2
  exact k2.mono (by grind)
end Cx
end Go.Xv
