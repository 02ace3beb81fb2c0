/- FuseTells: what the code pulls, fades, checks and bounds is as the reference does. -/
import Derived.Test.YtiahhalhbacgaaaLFuseTells
import Derived.KernelRfl
set_option linter.unusedVariables false
namespace Go.Xv
/- 11 _fuse_Pull -/
def c_fuse_Pull : Cfg := ⟨[0, 1, 2, 3, 4, 5, 6, 7, 10, 11, 24], [], [], []⟩
def ti_fuse_Pull : List TV := [.v (.agg [.int .i64, .int .i64, .int .i64, .int .i64]), .v (.agg [.int .i64, .int .i64, .int .i64, .int .i64]), .v (.agg [.int .i64, .int .i64, .int .i64]), .v (.int .i64), .v (.int .i64)]
def to_fuse_Pull : TV := .v (.tup [.agg [.int .i64, .int .i64, .int .i64, .int .i64], .int .i64])
def S_fuse_Pull (F : Nat) : FuncId → List VV → Option (Bool × VV) := words [(31, s_fuse_may F), (32, s_fuse_each F)]
def W_fuse_Pull (F : Nat) : List LW := []
def I_fuse_Pull (F : Nat) : Nat → VS → (Exit → VS → R) → R := tabI c_fuse_Pull (W_fuse_Pull F)
def WJ_fuse_Pull (F : Nat) : List LJ := []
def J_fuse_Pull (F : Nat) : Nat → Nat → VS → (Exit → VS → R) → R := tabJ (WJ_fuse_Pull F)
def f_fuse_Pull (F : Nat) (a0 : Int) (a1 : Int) (a2 : Int) (a3 : Int) (a4 : Int) (a5 : Int) (a6 : Int) (a7 : Int) (a8 : Int) (a9 : Int) (a10 : Int) (a11 : Int) (a12 : Int) : R :=
  bif (ok_fuse_may F a0 a1 a2 a3 a4 a5 a6 a7 a12) then (
    bif ((!((o_fuse_may_0 F a0 a1 a2 a3 a4 a5 a6 a7 a12)))) then (
      some (.v (.tuple #[.agg #[.int .i64 0, .int .i64 0, .int .i64 0, .int .i64 0], .int .i64 2])))
    else (
      bif ((decide (a11 < 0))) then (
        some (.v (.tuple #[.agg #[.int .i64 0, .int .i64 0, .int .i64 0, .int .i64 0], .int .i64 2])))
      else (
        bif ((decide (a11 > 3))) then (
          some (.v (.tuple #[.agg #[.int .i64 0, .int .i64 0, .int .i64 0, .int .i64 0], .int .i64 2])))
        else (
          bif (ok_fuse_each F a0 a1 a2 a3 a4 a5 a6 a8 a9 a10 a11) then (
            some (.v (.tuple #[.agg #[.int .i64 ((o_fuse_each_0 F a0 a1 a2 a3 a4 a5 a6 a8 a9 a10 a11)), .int .i64 ((o_fuse_each_1 F a0 a1 a2 a3 a4 a5 a6 a8 a9 a10 a11)), .int .i64 ((o_fuse_each_2 F a0 a1 a2 a3 a4 a5 a6 a8 a9 a10 a11)), .int .i64 a12], .int .i64 0])))
          else (
            none)))))
  else (
    none)
theorem e_fuse_Pull (F : Nat) (a0 : Int) (a1 : Int) (a2 : Int) (a3 : Int) (a4 : Int) (a5 : Int) (a6 : Int) (a7 : Int) (a8 : Int) (a9 : Int) (a10 : Int) (a11 : Int) (a12 : Int) : funL PP (S_fuse_Pull F) c_fuse_Pull (I_fuse_Pull F) (J_fuse_Pull F) 11 (fTs ti_fuse_Pull [.i a0, .i a1, .i a2, .i a3, .i a4, .i a5, .i a6, .i a7, .i a8, .i a9, .i a10, .i a11, .i a12]).1 = f_fuse_Pull F a0 a1 a2 a3 a4 a5 a6 a7 a8 a9 a10 a11 a12 := by
  have h : ∀ (ok_fuse_may : Nat → Int → Int → Int → Int → Int → Int → Int → Int → Int → Bool) (o_fuse_may_0 : Nat → Int → Int → Int → Int → Int → Int → Int → Int → Int → Bool) (ok_fuse_each : Nat → Int → Int → Int → Int → Int → Int → Int → Int → Int → Int → Int → Bool) (o_fuse_each_0 : Nat → Int → Int → Int → Int → Int → Int → Int → Int → Int → Int → Int → Int) (o_fuse_each_1 : Nat → Int → Int → Int → Int → Int → Int → Int → Int → Int → Int → Int → Int) (o_fuse_each_2 : Nat → Int → Int → Int → Int → Int → Int → Int → Int → Int → Int → Int → Int), funL PP (words [(31, spec ti_fuse_may to_fuse_may (fun q => (ok_fuse_may F (atI (nth q 0)) (atI (nth q 1)) (atI (nth q 2)) (atI (nth q 3)) (atI (nth q 4)) (atI (nth q 5)) (atI (nth q 6)) (atI (nth q 7)) (atI (nth q 8)))) (fun q => [.b (o_fuse_may_0 F (atI (nth q 0)) (atI (nth q 1)) (atI (nth q 2)) (atI (nth q 3)) (atI (nth q 4)) (atI (nth q 5)) (atI (nth q 6)) (atI (nth q 7)) (atI (nth q 8)))])), (32, spec ti_fuse_each to_fuse_each (fun q => (ok_fuse_each F (atI (nth q 0)) (atI (nth q 1)) (atI (nth q 2)) (atI (nth q 3)) (atI (nth q 4)) (atI (nth q 5)) (atI (nth q 6)) (atI (nth q 7)) (atI (nth q 8)) (atI (nth q 9)) (atI (nth q 10)))) (fun q => [.i (o_fuse_each_0 F (atI (nth q 0)) (atI (nth q 1)) (atI (nth q 2)) (atI (nth q 3)) (atI (nth q 4)) (atI (nth q 5)) (atI (nth q 6)) (atI (nth q 7)) (atI (nth q 8)) (atI (nth q 9)) (atI (nth q 10))), .i (o_fuse_each_1 F (atI (nth q 0)) (atI (nth q 1)) (atI (nth q 2)) (atI (nth q 3)) (atI (nth q 4)) (atI (nth q 5)) (atI (nth q 6)) (atI (nth q 7)) (atI (nth q 8)) (atI (nth q 9)) (atI (nth q 10))), .i (o_fuse_each_2 F (atI (nth q 0)) (atI (nth q 1)) (atI (nth q 2)) (atI (nth q 3)) (atI (nth q 4)) (atI (nth q 5)) (atI (nth q 6)) (atI (nth q 7)) (atI (nth q 8)) (atI (nth q 9)) (atI (nth q 10)))]))]) c_fuse_Pull (tabI c_fuse_Pull []) (tabJ []) 11 (fTs ti_fuse_Pull [.i a0, .i a1, .i a2, .i a3, .i a4, .i a5, .i a6, .i a7, .i a8, .i a9, .i a10, .i a11, .i a12]).1 = (
  bif (ok_fuse_may F a0 a1 a2 a3 a4 a5 a6 a7 a12) then (
    bif ((!((o_fuse_may_0 F a0 a1 a2 a3 a4 a5 a6 a7 a12)))) then (
      some (.v (.tuple #[.agg #[.int .i64 0, .int .i64 0, .int .i64 0, .int .i64 0], .int .i64 2])))
    else (
      bif ((decide (a11 < 0))) then (
        some (.v (.tuple #[.agg #[.int .i64 0, .int .i64 0, .int .i64 0, .int .i64 0], .int .i64 2])))
      else (
        bif ((decide (a11 > 3))) then (
          some (.v (.tuple #[.agg #[.int .i64 0, .int .i64 0, .int .i64 0, .int .i64 0], .int .i64 2])))
        else (
          bif (ok_fuse_each F a0 a1 a2 a3 a4 a5 a6 a8 a9 a10 a11) then (
            some (.v (.tuple #[.agg #[.int .i64 ((o_fuse_each_0 F a0 a1 a2 a3 a4 a5 a6 a8 a9 a10 a11)), .int .i64 ((o_fuse_each_1 F a0 a1 a2 a3 a4 a5 a6 a8 a9 a10 a11)), .int .i64 ((o_fuse_each_2 F a0 a1 a2 a3 a4 a5 a6 a8 a9 a10 a11)), .int .i64 a12], .int .i64 0])))
          else (
            none)))))
  else (
    none) : R) := by
    intros
    kernel_rfl
  exact (h ok_fuse_may o_fuse_may_0 ok_fuse_each o_fuse_each_0 o_fuse_each_1 o_fuse_each_2).trans (by kernel_rfl)
def ok_fuse_Pull (F : Nat) (a0 : Int) (a1 : Int) (a2 : Int) (a3 : Int) (a4 : Int) (a5 : Int) (a6 : Int) (a7 : Int) (a8 : Int) (a9 : Int) (a10 : Int) (a11 : Int) (a12 : Int) : Bool := okT to_fuse_Pull (f_fuse_Pull F a0 a1 a2 a3 a4 a5 a6 a7 a8 a9 a10 a11 a12)
def o_fuse_Pull_0 (F : Nat) (a0 : Int) (a1 : Int) (a2 : Int) (a3 : Int) (a4 : Int) (a5 : Int) (a6 : Int) (a7 : Int) (a8 : Int) (a9 : Int) (a10 : Int) (a11 : Int) (a12 : Int) : Int := atI (nth (outT to_fuse_Pull (f_fuse_Pull F a0 a1 a2 a3 a4 a5 a6 a7 a8 a9 a10 a11 a12)) 0)
def o_fuse_Pull_1 (F : Nat) (a0 : Int) (a1 : Int) (a2 : Int) (a3 : Int) (a4 : Int) (a5 : Int) (a6 : Int) (a7 : Int) (a8 : Int) (a9 : Int) (a10 : Int) (a11 : Int) (a12 : Int) : Int := atI (nth (outT to_fuse_Pull (f_fuse_Pull F a0 a1 a2 a3 a4 a5 a6 a7 a8 a9 a10 a11 a12)) 1)
def o_fuse_Pull_2 (F : Nat) (a0 : Int) (a1 : Int) (a2 : Int) (a3 : Int) (a4 : Int) (a5 : Int) (a6 : Int) (a7 : Int) (a8 : Int) (a9 : Int) (a10 : Int) (a11 : Int) (a12 : Int) : Int := atI (nth (outT to_fuse_Pull (f_fuse_Pull F a0 a1 a2 a3 a4 a5 a6 a7 a8 a9 a10 a11 a12)) 2)
def o_fuse_Pull_3 (F : Nat) (a0 : Int) (a1 : Int) (a2 : Int) (a3 : Int) (a4 : Int) (a5 : Int) (a6 : Int) (a7 : Int) (a8 : Int) (a9 : Int) (a10 : Int) (a11 : Int) (a12 : Int) : Int := atI (nth (outT to_fuse_Pull (f_fuse_Pull F a0 a1 a2 a3 a4 a5 a6 a7 a8 a9 a10 a11 a12)) 3)
def o_fuse_Pull_4 (F : Nat) (a0 : Int) (a1 : Int) (a2 : Int) (a3 : Int) (a4 : Int) (a5 : Int) (a6 : Int) (a7 : Int) (a8 : Int) (a9 : Int) (a10 : Int) (a11 : Int) (a12 : Int) : Int := atI (nth (outT to_fuse_Pull (f_fuse_Pull F a0 a1 a2 a3 a4 a5 a6 a7 a8 a9 a10 a11 a12)) 4)
theorem k_fuse_Pull (F : Nat) (a0 : Int) (a1 : Int) (a2 : Int) (a3 : Int) (a4 : Int) (a5 : Int) (a6 : Int) (a7 : Int) (a8 : Int) (a9 : Int) (a10 : Int) (a11 : Int) (a12 : Int) {z0 : Int} {z1 : Int} {z2 : Int} {z3 : Int} {z4 : Int} (h : f_fuse_Pull F a0 a1 a2 a3 a4 a5 a6 a7 a8 a9 a10 a11 a12 = some (.v (.tuple #[.agg #[.int .i64 z0, .int .i64 z1, .int .i64 z2, .int .i64 z3], .int .i64 z4]))) : ok_fuse_Pull F a0 a1 a2 a3 a4 a5 a6 a7 a8 a9 a10 a11 a12 = true ∧ o_fuse_Pull_0 F a0 a1 a2 a3 a4 a5 a6 a7 a8 a9 a10 a11 a12 = z0 ∧ o_fuse_Pull_1 F a0 a1 a2 a3 a4 a5 a6 a7 a8 a9 a10 a11 a12 = z1 ∧ o_fuse_Pull_2 F a0 a1 a2 a3 a4 a5 a6 a7 a8 a9 a10 a11 a12 = z2 ∧ o_fuse_Pull_3 F a0 a1 a2 a3 a4 a5 a6 a7 a8 a9 a10 a11 a12 = z3 ∧ o_fuse_Pull_4 F a0 a1 a2 a3 a4 a5 a6 a7 a8 a9 a10 a11 a12 = z4 := by
  refine ⟨?_, ?_, ?_, ?_, ?_, ?_⟩
  · unfold ok_fuse_Pull; rw [h]; kernel_rfl
  · unfold o_fuse_Pull_0; rw [h]; kernel_rfl
  · unfold o_fuse_Pull_1; rw [h]; kernel_rfl
  · unfold o_fuse_Pull_2; rw [h]; kernel_rfl
  · unfold o_fuse_Pull_3; rw [h]; kernel_rfl
  · unfold o_fuse_Pull_4; rw [h]; kernel_rfl
def s_fuse_Pull (F : Nat) : List VV → Option (Bool × VV) := spec ti_fuse_Pull to_fuse_Pull (fun q => (ok_fuse_Pull F (atI (nth q 0)) (atI (nth q 1)) (atI (nth q 2)) (atI (nth q 3)) (atI (nth q 4)) (atI (nth q 5)) (atI (nth q 6)) (atI (nth q 7)) (atI (nth q 8)) (atI (nth q 9)) (atI (nth q 10)) (atI (nth q 11)) (atI (nth q 12)))) (fun q => [.i (o_fuse_Pull_0 F (atI (nth q 0)) (atI (nth q 1)) (atI (nth q 2)) (atI (nth q 3)) (atI (nth q 4)) (atI (nth q 5)) (atI (nth q 6)) (atI (nth q 7)) (atI (nth q 8)) (atI (nth q 9)) (atI (nth q 10)) (atI (nth q 11)) (atI (nth q 12))), .i (o_fuse_Pull_1 F (atI (nth q 0)) (atI (nth q 1)) (atI (nth q 2)) (atI (nth q 3)) (atI (nth q 4)) (atI (nth q 5)) (atI (nth q 6)) (atI (nth q 7)) (atI (nth q 8)) (atI (nth q 9)) (atI (nth q 10)) (atI (nth q 11)) (atI (nth q 12))), .i (o_fuse_Pull_2 F (atI (nth q 0)) (atI (nth q 1)) (atI (nth q 2)) (atI (nth q 3)) (atI (nth q 4)) (atI (nth q 5)) (atI (nth q 6)) (atI (nth q 7)) (atI (nth q 8)) (atI (nth q 9)) (atI (nth q 10)) (atI (nth q 11)) (atI (nth q 12))), .i (o_fuse_Pull_3 F (atI (nth q 0)) (atI (nth q 1)) (atI (nth q 2)) (atI (nth q 3)) (atI (nth q 4)) (atI (nth q 5)) (atI (nth q 6)) (atI (nth q 7)) (atI (nth q 8)) (atI (nth q 9)) (atI (nth q 10)) (atI (nth q 11)) (atI (nth q 12))), .i (o_fuse_Pull_4 F (atI (nth q 0)) (atI (nth q 1)) (atI (nth q 2)) (atI (nth q 3)) (atI (nth q 4)) (atI (nth q 5)) (atI (nth q 6)) (atI (nth q 7)) (atI (nth q 8)) (atI (nth q 9)) (atI (nth q 10)) (atI (nth q 11)) (atI (nth q 12)))])
theorem hS_fuse_Pull (F : Nat) : ∀ f, Good PP f (unS (S_fuse_Pull F f)) := words_good fun p hp => by
  simp only [List.mem_cons, List.not_mem_nil, or_false] at hp
  rcases hp with rfl | rfl
  · exact g_fuse_may F
  · exact g_fuse_each F
theorem hl_fuse_Pull (F : Nat) : ∀ p ∈ loopsIn PP 11, LoopOK PP (S_fuse_Pull F) c_fuse_Pull F (I_fuse_Pull F) (J_fuse_Pull F) p :=
  loops_of [] (by kernel_rfl) all_nil
theorem hj_fuse_Pull (F : Nat) : ∀ p ∈ joinsIn PP c_fuse_Pull 11, JoinOK PP (S_fuse_Pull F) c_fuse_Pull (I_fuse_Pull F) (J_fuse_Pull F) p :=
  joins_of [] (by kernel_rfl) all_nil
theorem g_fuse_Pull (F : Nat) : Good PP 11 (unS (s_fuse_Pull F)) :=
  fun_spec (hS_fuse_Pull F) (by kernel_rfl) (by kernel_rfl) (C := c_fuse_Pull) (F := fun q => (f_fuse_Pull F (atI (nth q 0)) (atI (nth q 1)) (atI (nth q 2)) (atI (nth q 3)) (atI (nth q 4)) (atI (nth q 5)) (atI (nth q 6)) (atI (nth q 7)) (atI (nth q 8)) (atI (nth q 9)) (atI (nth q 10)) (atI (nth q 11)) (atI (nth q 12)))) (fun _ => F) (fun _ => I_fuse_Pull F) (fun _ => J_fuse_Pull F) (fun _ => hl_fuse_Pull F) (fun _ => hj_fuse_Pull F)
    (fun q => (congrArg (funL PP (S_fuse_Pull F) c_fuse_Pull (I_fuse_Pull F) (J_fuse_Pull F) 11) (show (fTs ti_fuse_Pull q).1 = (fTs ti_fuse_Pull [.i (atI (nth q 0)), .i (atI (nth q 1)), .i (atI (nth q 2)), .i (atI (nth q 3)), .i (atI (nth q 4)), .i (atI (nth q 5)), .i (atI (nth q 6)), .i (atI (nth q 7)), .i (atI (nth q 8)), .i (atI (nth q 9)), .i (atI (nth q 10)), .i (atI (nth q 11)), .i (atI (nth q 12))]).1 by kernel_rfl)).trans (e_fuse_Pull F (atI (nth q 0)) (atI (nth q 1)) (atI (nth q 2)) (atI (nth q 3)) (atI (nth q 4)) (atI (nth q 5)) (atI (nth q 6)) (atI (nth q 7)) (atI (nth q 8)) (atI (nth q 9)) (atI (nth q 10)) (atI (nth q 11)) (atI (nth q 12))))
    (fun _ h => (okT_fill h).trans (congrArg some (by kernel_rfl)))

end Go.Xv
set_option linter.unusedVariables false
namespace Go.Xv
/- 13 _law28_rule -/
def c_law28_rule : Cfg := ⟨[0, 1, 2], [], [], []⟩
def ti_law28_rule : List TV := [.v (.agg [.int .i64, .int .i64, .int .i64, .int .i64])]
def to_law28_rule : TV := .v (.agg [.int .i64, .int .i64, .int .i64, .int .i64])
def S_law28_rule (F : Nat) : FuncId → List VV → Option (Bool × VV) := words []
def W_law28_rule (F : Nat) : List LW := []
def I_law28_rule (F : Nat) : Nat → VS → (Exit → VS → R) → R := tabI c_law28_rule (W_law28_rule F)
def WJ_law28_rule (F : Nat) : List LJ := []
def J_law28_rule (F : Nat) : Nat → Nat → VS → (Exit → VS → R) → R := tabJ (WJ_law28_rule F)
def f_law28_rule (F : Nat) (a0 : Int) (a1 : Int) (a2 : Int) (a3 : Int) : R :=
  some (.v (.agg #[.int .i64 a0, .int .i64 a1, .int .i64 a2, .int .i64 a3]))
theorem e_law28_rule (F : Nat) (a0 : Int) (a1 : Int) (a2 : Int) (a3 : Int) : funL PP (S_law28_rule F) c_law28_rule (I_law28_rule F) (J_law28_rule F) 13 (fTs ti_law28_rule [.i a0, .i a1, .i a2, .i a3]).1 = f_law28_rule F a0 a1 a2 a3 := by
  have h : ∀ (_ : Unit), funL PP (words []) c_law28_rule (tabI c_law28_rule []) (tabJ []) 13 (fTs ti_law28_rule [.i a0, .i a1, .i a2, .i a3]).1 = (
  some (.v (.agg #[.int .i64 a0, .int .i64 a1, .int .i64 a2, .int .i64 a3])) : R) := by
    intros
    kernel_rfl
  exact (h ()).trans (by kernel_rfl)
def ok_law28_rule (F : Nat) (a0 : Int) (a1 : Int) (a2 : Int) (a3 : Int) : Bool := okT to_law28_rule (f_law28_rule F a0 a1 a2 a3)
def o_law28_rule_0 (F : Nat) (a0 : Int) (a1 : Int) (a2 : Int) (a3 : Int) : Int := atI (nth (outT to_law28_rule (f_law28_rule F a0 a1 a2 a3)) 0)
def o_law28_rule_1 (F : Nat) (a0 : Int) (a1 : Int) (a2 : Int) (a3 : Int) : Int := atI (nth (outT to_law28_rule (f_law28_rule F a0 a1 a2 a3)) 1)
def o_law28_rule_2 (F : Nat) (a0 : Int) (a1 : Int) (a2 : Int) (a3 : Int) : Int := atI (nth (outT to_law28_rule (f_law28_rule F a0 a1 a2 a3)) 2)
def o_law28_rule_3 (F : Nat) (a0 : Int) (a1 : Int) (a2 : Int) (a3 : Int) : Int := atI (nth (outT to_law28_rule (f_law28_rule F a0 a1 a2 a3)) 3)
theorem k_law28_rule (F : Nat) (a0 : Int) (a1 : Int) (a2 : Int) (a3 : Int) {z0 : Int} {z1 : Int} {z2 : Int} {z3 : Int} (h : f_law28_rule F a0 a1 a2 a3 = some (.v (.agg #[.int .i64 z0, .int .i64 z1, .int .i64 z2, .int .i64 z3]))) : ok_law28_rule F a0 a1 a2 a3 = true ∧ o_law28_rule_0 F a0 a1 a2 a3 = z0 ∧ o_law28_rule_1 F a0 a1 a2 a3 = z1 ∧ o_law28_rule_2 F a0 a1 a2 a3 = z2 ∧ o_law28_rule_3 F a0 a1 a2 a3 = z3 := by
  refine ⟨?_, ?_, ?_, ?_, ?_⟩
  · unfold ok_law28_rule; rw [h]; kernel_rfl
  · unfold o_law28_rule_0; rw [h]; kernel_rfl
  · unfold o_law28_rule_1; rw [h]; kernel_rfl
  · unfold o_law28_rule_2; rw [h]; kernel_rfl
  · unfold o_law28_rule_3; rw [h]; kernel_rfl
def s_law28_rule (F : Nat) : List VV → Option (Bool × VV) := spec ti_law28_rule to_law28_rule (fun q => (ok_law28_rule F (atI (nth q 0)) (atI (nth q 1)) (atI (nth q 2)) (atI (nth q 3)))) (fun q => [.i (o_law28_rule_0 F (atI (nth q 0)) (atI (nth q 1)) (atI (nth q 2)) (atI (nth q 3))), .i (o_law28_rule_1 F (atI (nth q 0)) (atI (nth q 1)) (atI (nth q 2)) (atI (nth q 3))), .i (o_law28_rule_2 F (atI (nth q 0)) (atI (nth q 1)) (atI (nth q 2)) (atI (nth q 3))), .i (o_law28_rule_3 F (atI (nth q 0)) (atI (nth q 1)) (atI (nth q 2)) (atI (nth q 3)))])
theorem hS_law28_rule (F : Nat) : ∀ f, Good PP f (unS (S_law28_rule F f)) := words_good fun p hp => by
  cases hp
theorem hl_law28_rule (F : Nat) : ∀ p ∈ loopsIn PP 13, LoopOK PP (S_law28_rule F) c_law28_rule F (I_law28_rule F) (J_law28_rule F) p :=
  loops_of [] (by kernel_rfl) all_nil
theorem hj_law28_rule (F : Nat) : ∀ p ∈ joinsIn PP c_law28_rule 13, JoinOK PP (S_law28_rule F) c_law28_rule (I_law28_rule F) (J_law28_rule F) p :=
  joins_of [] (by kernel_rfl) all_nil
theorem g_law28_rule (F : Nat) : Good PP 13 (unS (s_law28_rule F)) :=
  fun_spec (hS_law28_rule F) (by kernel_rfl) (by kernel_rfl) (C := c_law28_rule) (F := fun q => (f_law28_rule F (atI (nth q 0)) (atI (nth q 1)) (atI (nth q 2)) (atI (nth q 3)))) (fun _ => F) (fun _ => I_law28_rule F) (fun _ => J_law28_rule F) (fun _ => hl_law28_rule F) (fun _ => hj_law28_rule F)
    (fun q => (congrArg (funL PP (S_law28_rule F) c_law28_rule (I_law28_rule F) (J_law28_rule F) 13) (show (fTs ti_law28_rule q).1 = (fTs ti_law28_rule [.i (atI (nth q 0)), .i (atI (nth q 1)), .i (atI (nth q 2)), .i (atI (nth q 3))]).1 by kernel_rfl)).trans (e_law28_rule F (atI (nth q 0)) (atI (nth q 1)) (atI (nth q 2)) (atI (nth q 3))))
    (fun _ h => (okT_fill h).trans (congrArg some (by kernel_rfl)))

end Go.Xv
set_option linter.unusedVariables false
namespace Go.Xv
/- 14 _law28_corr -/
def c_law28_corr : Cfg := ⟨[0, 1, 2], [], [], []⟩
def ti_law28_corr : List TV := [.v (.agg [.int .i64, .int .i64, .int .i64, .int .i64])]
def to_law28_corr : TV := .v (.agg [.int .i64, .int .i64, .int .i64, .int .i64])
def S_law28_corr (F : Nat) : FuncId → List VV → Option (Bool × VV) := words []
def W_law28_corr (F : Nat) : List LW := []
def I_law28_corr (F : Nat) : Nat → VS → (Exit → VS → R) → R := tabI c_law28_corr (W_law28_corr F)
def WJ_law28_corr (F : Nat) : List LJ := []
def J_law28_corr (F : Nat) : Nat → Nat → VS → (Exit → VS → R) → R := tabJ (WJ_law28_corr F)
def f_law28_corr (F : Nat) (a0 : Int) (a1 : Int) (a2 : Int) (a3 : Int) : R :=
  some (.v (.agg #[.int .i64 a0, .int .i64 a1, .int .i64 a2, .int .i64 a3]))
theorem e_law28_corr (F : Nat) (a0 : Int) (a1 : Int) (a2 : Int) (a3 : Int) : funL PP (S_law28_corr F) c_law28_corr (I_law28_corr F) (J_law28_corr F) 14 (fTs ti_law28_corr [.i a0, .i a1, .i a2, .i a3]).1 = f_law28_corr F a0 a1 a2 a3 := by
  have h : ∀ (_ : Unit), funL PP (words []) c_law28_corr (tabI c_law28_corr []) (tabJ []) 14 (fTs ti_law28_corr [.i a0, .i a1, .i a2, .i a3]).1 = (
  some (.v (.agg #[.int .i64 a0, .int .i64 a1, .int .i64 a2, .int .i64 a3])) : R) := by
    intros
    kernel_rfl
  exact (h ()).trans (by kernel_rfl)
def ok_law28_corr (F : Nat) (a0 : Int) (a1 : Int) (a2 : Int) (a3 : Int) : Bool := okT to_law28_corr (f_law28_corr F a0 a1 a2 a3)
def o_law28_corr_0 (F : Nat) (a0 : Int) (a1 : Int) (a2 : Int) (a3 : Int) : Int := atI (nth (outT to_law28_corr (f_law28_corr F a0 a1 a2 a3)) 0)
def o_law28_corr_1 (F : Nat) (a0 : Int) (a1 : Int) (a2 : Int) (a3 : Int) : Int := atI (nth (outT to_law28_corr (f_law28_corr F a0 a1 a2 a3)) 1)
def o_law28_corr_2 (F : Nat) (a0 : Int) (a1 : Int) (a2 : Int) (a3 : Int) : Int := atI (nth (outT to_law28_corr (f_law28_corr F a0 a1 a2 a3)) 2)
def o_law28_corr_3 (F : Nat) (a0 : Int) (a1 : Int) (a2 : Int) (a3 : Int) : Int := atI (nth (outT to_law28_corr (f_law28_corr F a0 a1 a2 a3)) 3)
theorem k_law28_corr (F : Nat) (a0 : Int) (a1 : Int) (a2 : Int) (a3 : Int) {z0 : Int} {z1 : Int} {z2 : Int} {z3 : Int} (h : f_law28_corr F a0 a1 a2 a3 = some (.v (.agg #[.int .i64 z0, .int .i64 z1, .int .i64 z2, .int .i64 z3]))) : ok_law28_corr F a0 a1 a2 a3 = true ∧ o_law28_corr_0 F a0 a1 a2 a3 = z0 ∧ o_law28_corr_1 F a0 a1 a2 a3 = z1 ∧ o_law28_corr_2 F a0 a1 a2 a3 = z2 ∧ o_law28_corr_3 F a0 a1 a2 a3 = z3 := by
  refine ⟨?_, ?_, ?_, ?_, ?_⟩
  · unfold ok_law28_corr; rw [h]; kernel_rfl
  · unfold o_law28_corr_0; rw [h]; kernel_rfl
  · unfold o_law28_corr_1; rw [h]; kernel_rfl
  · unfold o_law28_corr_2; rw [h]; kernel_rfl
  · unfold o_law28_corr_3; rw [h]; kernel_rfl
def s_law28_corr (F : Nat) : List VV → Option (Bool × VV) := spec ti_law28_corr to_law28_corr (fun q => (ok_law28_corr F (atI (nth q 0)) (atI (nth q 1)) (atI (nth q 2)) (atI (nth q 3)))) (fun q => [.i (o_law28_corr_0 F (atI (nth q 0)) (atI (nth q 1)) (atI (nth q 2)) (atI (nth q 3))), .i (o_law28_corr_1 F (atI (nth q 0)) (atI (nth q 1)) (atI (nth q 2)) (atI (nth q 3))), .i (o_law28_corr_2 F (atI (nth q 0)) (atI (nth q 1)) (atI (nth q 2)) (atI (nth q 3))), .i (o_law28_corr_3 F (atI (nth q 0)) (atI (nth q 1)) (atI (nth q 2)) (atI (nth q 3)))])
theorem hS_law28_corr (F : Nat) : ∀ f, Good PP f (unS (S_law28_corr F f)) := words_good fun p hp => by
  cases hp
theorem hl_law28_corr (F : Nat) : ∀ p ∈ loopsIn PP 14, LoopOK PP (S_law28_corr F) c_law28_corr F (I_law28_corr F) (J_law28_corr F) p :=
  loops_of [] (by kernel_rfl) all_nil
theorem hj_law28_corr (F : Nat) : ∀ p ∈ joinsIn PP c_law28_corr 14, JoinOK PP (S_law28_corr F) c_law28_corr (I_law28_corr F) (J_law28_corr F) p :=
  joins_of [] (by kernel_rfl) all_nil
theorem g_law28_corr (F : Nat) : Good PP 14 (unS (s_law28_corr F)) :=
  fun_spec (hS_law28_corr F) (by kernel_rfl) (by kernel_rfl) (C := c_law28_corr) (F := fun q => (f_law28_corr F (atI (nth q 0)) (atI (nth q 1)) (atI (nth q 2)) (atI (nth q 3)))) (fun _ => F) (fun _ => I_law28_corr F) (fun _ => J_law28_corr F) (fun _ => hl_law28_corr F) (fun _ => hj_law28_corr F)
    (fun q => (congrArg (funL PP (S_law28_corr F) c_law28_corr (I_law28_corr F) (J_law28_corr F) 14) (show (fTs ti_law28_corr q).1 = (fTs ti_law28_corr [.i (atI (nth q 0)), .i (atI (nth q 1)), .i (atI (nth q 2)), .i (atI (nth q 3))]).1 by kernel_rfl)).trans (e_law28_corr F (atI (nth q 0)) (atI (nth q 1)) (atI (nth q 2)) (atI (nth q 3))))
    (fun _ h => (okT_fill h).trans (congrArg some (by kernel_rfl)))

end Go.Xv
set_option linter.unusedVariables false
namespace Go.Xv
/- 17 _ref28_Check -/
def c_ref28_Check : Cfg := ⟨[0, 1, 2, 30], [], [], []⟩
def ti_ref28_Check : List TV := [.v (.agg [.int .i64, .int .i64, .int .i64, .int .i64])]
def to_ref28_Check : TV := .v (.int .i64)
def S_ref28_Check (F : Nat) : FuncId → List VV → Option (Bool × VV) := words []
def W_ref28_Check (F : Nat) : List LW := []
def I_ref28_Check (F : Nat) : Nat → VS → (Exit → VS → R) → R := tabI c_ref28_Check (W_ref28_Check F)
def WJ_ref28_Check (F : Nat) : List LJ := []
def J_ref28_Check (F : Nat) : Nat → Nat → VS → (Exit → VS → R) → R := tabJ (WJ_ref28_Check F)
def f_ref28_Check (F : Nat) (a0 : Int) (a1 : Int) (a2 : Int) (a3 : Int) : R :=
  bif ((decide (a0 < 0))) then (
    some (.v (.int .i64 2)))
  else (
    bif ((decide (a0 > 16))) then (
      some (.v (.int .i64 2)))
    else (
      bif ((decide (a1 < 0))) then (
        some (.v (.int .i64 2)))
      else (
        bif ((decide (a2 < 0))) then (
          some (.v (.int .i64 2)))
        else (
          bif ((decide (a3 < 1))) then (
            some (.v (.int .i64 2)))
          else (
            bif ((decide (a3 > 65535))) then (
              some (.v (.int .i64 2)))
            else (
              some (.v (.int .i64 0))))))))
theorem e_ref28_Check (F : Nat) (a0 : Int) (a1 : Int) (a2 : Int) (a3 : Int) : funL PP (S_ref28_Check F) c_ref28_Check (I_ref28_Check F) (J_ref28_Check F) 17 (fTs ti_ref28_Check [.i a0, .i a1, .i a2, .i a3]).1 = f_ref28_Check F a0 a1 a2 a3 := by
  have h : ∀ (_ : Unit), funL PP (words []) c_ref28_Check (tabI c_ref28_Check []) (tabJ []) 17 (fTs ti_ref28_Check [.i a0, .i a1, .i a2, .i a3]).1 = (
  bif ((decide (a0 < 0))) then (
    some (.v (.int .i64 2)))
  else (
    bif ((decide (a0 > 16))) then (
      some (.v (.int .i64 2)))
    else (
      bif ((decide (a1 < 0))) then (
        some (.v (.int .i64 2)))
      else (
        bif ((decide (a2 < 0))) then (
          some (.v (.int .i64 2)))
        else (
          bif ((decide (a3 < 1))) then (
            some (.v (.int .i64 2)))
          else (
            bif ((decide (a3 > 65535))) then (
              some (.v (.int .i64 2)))
            else (
              some (.v (.int .i64 0)))))))) : R) := by
    intros
    kernel_rfl
  exact (h ()).trans (by kernel_rfl)
def ok_ref28_Check (F : Nat) (a0 : Int) (a1 : Int) (a2 : Int) (a3 : Int) : Bool := okT to_ref28_Check (f_ref28_Check F a0 a1 a2 a3)
def o_ref28_Check_0 (F : Nat) (a0 : Int) (a1 : Int) (a2 : Int) (a3 : Int) : Int := atI (nth (outT to_ref28_Check (f_ref28_Check F a0 a1 a2 a3)) 0)
theorem k_ref28_Check (F : Nat) (a0 : Int) (a1 : Int) (a2 : Int) (a3 : Int) {z0 : Int} (h : f_ref28_Check F a0 a1 a2 a3 = some (.v (.int .i64 z0))) : ok_ref28_Check F a0 a1 a2 a3 = true ∧ o_ref28_Check_0 F a0 a1 a2 a3 = z0 := by
  refine ⟨?_, ?_⟩
  · unfold ok_ref28_Check; rw [h]; kernel_rfl
  · unfold o_ref28_Check_0; rw [h]; kernel_rfl
def s_ref28_Check (F : Nat) : List VV → Option (Bool × VV) := spec ti_ref28_Check to_ref28_Check (fun q => (ok_ref28_Check F (atI (nth q 0)) (atI (nth q 1)) (atI (nth q 2)) (atI (nth q 3)))) (fun q => [.i (o_ref28_Check_0 F (atI (nth q 0)) (atI (nth q 1)) (atI (nth q 2)) (atI (nth q 3)))])
theorem hS_ref28_Check (F : Nat) : ∀ f, Good PP f (unS (S_ref28_Check F f)) := words_good fun p hp => by
  cases hp
theorem hl_ref28_Check (F : Nat) : ∀ p ∈ loopsIn PP 17, LoopOK PP (S_ref28_Check F) c_ref28_Check F (I_ref28_Check F) (J_ref28_Check F) p :=
  loops_of [] (by kernel_rfl) all_nil
theorem hj_ref28_Check (F : Nat) : ∀ p ∈ joinsIn PP c_ref28_Check 17, JoinOK PP (S_ref28_Check F) c_ref28_Check (I_ref28_Check F) (J_ref28_Check F) p :=
  joins_of [] (by kernel_rfl) all_nil
theorem g_ref28_Check (F : Nat) : Good PP 17 (unS (s_ref28_Check F)) :=
  fun_spec (hS_ref28_Check F) (by kernel_rfl) (by kernel_rfl) (C := c_ref28_Check) (F := fun q => (f_ref28_Check F (atI (nth q 0)) (atI (nth q 1)) (atI (nth q 2)) (atI (nth q 3)))) (fun _ => F) (fun _ => I_ref28_Check F) (fun _ => J_ref28_Check F) (fun _ => hl_ref28_Check F) (fun _ => hj_ref28_Check F)
    (fun q => (congrArg (funL PP (S_ref28_Check F) c_ref28_Check (I_ref28_Check F) (J_ref28_Check F) 17) (show (fTs ti_ref28_Check q).1 = (fTs ti_ref28_Check [.i (atI (nth q 0)), .i (atI (nth q 1)), .i (atI (nth q 2)), .i (atI (nth q 3))]).1 by kernel_rfl)).trans (e_ref28_Check F (atI (nth q 0)) (atI (nth q 1)) (atI (nth q 2)) (atI (nth q 3))))
    (fun _ h => (okT_fill h).trans (congrArg some (by kernel_rfl)))

end Go.Xv
set_option linter.unusedVariables false
namespace Go.Xv
/- 19 _ref28_Right -/
def c_ref28_Right : Cfg := ⟨[0, 1, 2, 3, 4, 5, 18, 20, 39], [(0, [0, 1, 2, 3, 4, 5, 6, 7, 8, 9, 10, 11, 12, 13, 14, 15, 16, 17, 18])], [], []⟩
def ti_ref28_Right : List TV := [.v (.agg [.int .i64, .int .i64, .int .i64, .int .i64]), .v (.agg [.int .i64, .int .i64, .int .i64, .int .i64])]
def to_ref28_Right : TV := .v (.int .i64)
def S_ref28_Right (F : Nat) : FuncId → List VV → Option (Bool × VV) := words [(17, s_ref28_Check F)]
def T_ref28_Right_0 : TS := ⟨[(0, .v (.agg [.int .i64, .int .i64, .int .i64, .int .i64])), (1, .v (.agg [.int .i64, .int .i64, .int .i64, .int .i64])), (2, .lp 0 (.lit 0)), (3, .lp 1 (.lit 0)), (4, .v (.int .i64)), (5, .v (.int .i64))], [(0, ⟨(.ex [.v (.int .i64), .v (.int .i64), .v (.int .i64), .v (.int .i64)]), true⟩), (1, ⟨(.ex [.v (.int .i64), .v (.int .i64), .v (.int .i64), .v (.int .i64)]), true⟩)], 2⟩
def T_ref28_Right_0_0 : TS := ⟨[(0, .v (.agg [.int .i64, .int .i64, .int .i64, .int .i64])), (1, .v (.agg [.int .i64, .int .i64, .int .i64, .int .i64])), (2, .lp 0 (.lit 0)), (3, .lp 1 (.lit 0)), (4, .v (.int .i64)), (5, .v (.int .i64))], [(0, ⟨(.ex [.v (.int .i64), .v (.int .i64), .v (.int .i64), .v (.int .i64)]), true⟩), (1, ⟨(.ex [.v (.int .i64), .v (.int .i64), .v (.int .i64), .v (.int .i64)]), true⟩)], 2⟩
def T_ref28_Right_0_1 : TS := ⟨[(0, .v (.agg [.int .i64, .int .i64, .int .i64, .int .i64])), (1, .v (.agg [.int .i64, .int .i64, .int .i64, .int .i64])), (2, .lp 0 (.lit 0)), (3, .lp 1 (.lit 0)), (4, .v (.int .i64)), (5, .v (.int .i64))], [(0, ⟨(.ex [.v (.int .i64), .v (.int .i64), .v (.int .i64), .v (.int .i64)]), true⟩), (1, ⟨(.ex [.v (.int .i64), .v (.int .i64), .v (.int .i64), .v (.int .i64)]), true⟩)], 2⟩
def B_ref28_Right_0 (F : Nat) (rc : Int → Int → Int → Int → Int → Int → Int → Int → Int → Int → Int → Int → Int → Int → Int → Int → Int → Int → R) (ex0 : Int → Int → Int → Int → Int → Int → Int → Int → Int → Int → Int → Int → Int → Int → Int → Int → Int → Int → R) (ex1 : Int → Int → Int → Int → Int → Int → Int → Int → Int → Int → Int → Int → Int → Int → Int → Int → Int → Int → R) (x0 : Int) (x1 : Int) (x2 : Int) (x3 : Int) (x4 : Int) (x5 : Int) (x6 : Int) (x7 : Int) (x8 : Int) (x9 : Int) (x10 : Int) (x11 : Int) (x12 : Int) (x13 : Int) (x14 : Int) (x15 : Int) (x16 : Int) (x17 : Int) : R :=
  bif ((decide (x9 < 3))) then (
    bif ((decide (0 ≤ x9)) && (decide (x9 < 3))) then (
      let v3439 : Nat := (0 + ((Int.toNat x9) * 1))
      bif ((isI .i64 [.v (.int .i64 x14), .v (.int .i64 x15), .v (.int .i64 x16), .v (.int .i64 x17)][v3439]?) && true) then (
        bif ((decide (((iv [.v (.int .i64 x14), .v (.int .i64 x15), .v (.int .i64 x16), .v (.int .i64 x17)][v3439]?)) > x12))) then (
          ex0 x0 x1 x2 x3 x4 x5 x6 x7 2 x9 x10 x11 x12 x13 x14 x15 x16 x17)
        else (
          bif ((decide (0 ≤ x9)) && (decide (x9 < 3))) then (
            let v3442 : Nat := (0 + ((Int.toNat x9) * 1))
            bif ((isI .i64 [.v (.int .i64 x14), .v (.int .i64 x15), .v (.int .i64 x16), .v (.int .i64 x17)][v3442]?) && true) then (
              bif ((decide (((iv [.v (.int .i64 x14), .v (.int .i64 x15), .v (.int .i64 x16), .v (.int .i64 x17)][v3442]?)) < ((IntKind.wrap .i64 (0 - x12)))))) then (
                ex0 x0 x1 x2 x3 x4 x5 x6 x7 2 x9 x10 x11 x12 x13 x14 x15 x16 x17)
              else (
                rc x0 x1 x2 x3 x4 x5 x6 x7 x8 ((IntKind.wrap .i64 (x9 + 1))) x10 x11 x12 x13 x14 x15 x16 x17))
            else (
              none))
          else (
            none)))
      else (
        none))
    else (
      none))
  else (
    ex1 x0 x1 x2 x3 x4 x5 x6 x7 x8 x9 x10 x11 x12 x13 x14 x15 x16 x17)
def L_ref28_Right_0 (F : Nat) (ex0 : Int → Int → Int → Int → Int → Int → Int → Int → Int → Int → Int → Int → Int → Int → Int → Int → Int → Int → R) (ex1 : Int → Int → Int → Int → Int → Int → Int → Int → Int → Int → Int → Int → Int → Int → Int → Int → Int → Int → R) : Nat → Int → Int → Int → Int → Int → Int → Int → Int → Int → Int → Int → Int → Int → Int → Int → Int → Int → Int → R
  | 0, _, _, _, _, _, _, _, _, _, _, _, _, _, _, _, _, _, _ => none
  | n + 1, x0, x1, x2, x3, x4, x5, x6, x7, x8, x9, x10, x11, x12, x13, x14, x15, x16, x17 => B_ref28_Right_0 F (L_ref28_Right_0 F ex0 ex1 n) ex0 ex1 x0 x1 x2 x3 x4 x5 x6 x7 x8 x9 x10 x11 x12 x13 x14 x15 x16 x17
def W_ref28_Right (F : Nat) : List LW := [⟨0, T_ref28_Right_0, fun k q => L_ref28_Right_0 F (fun (z0 : Int) (z1 : Int) (z2 : Int) (z3 : Int) (z4 : Int) (z5 : Int) (z6 : Int) (z7 : Int) (z8 : Int) (z9 : Int) (z10 : Int) (z11 : Int) (z12 : Int) (z13 : Int) (z14 : Int) (z15 : Int) (z16 : Int) (z17 : Int) => k .ret (fS T_ref28_Right_0_0 [.i z0, .i z1, .i z2, .i z3, .i z4, .i z5, .i z6, .i z7, .i z8, .i z9, .i z10, .i z11, .i z12, .i z13, .i z14, .i z15, .i z16, .i z17])) (fun (z0 : Int) (z1 : Int) (z2 : Int) (z3 : Int) (z4 : Int) (z5 : Int) (z6 : Int) (z7 : Int) (z8 : Int) (z9 : Int) (z10 : Int) (z11 : Int) (z12 : Int) (z13 : Int) (z14 : Int) (z15 : Int) (z16 : Int) (z17 : Int) => k (.exit 0) (fS T_ref28_Right_0_1 [.i z0, .i z1, .i z2, .i z3, .i z4, .i z5, .i z6, .i z7, .i z8, .i z9, .i z10, .i z11, .i z12, .i z13, .i z14, .i z15, .i z16, .i z17])) F (atI (nth q 0)) (atI (nth q 1)) (atI (nth q 2)) (atI (nth q 3)) (atI (nth q 4)) (atI (nth q 5)) (atI (nth q 6)) (atI (nth q 7)) (atI (nth q 8)) (atI (nth q 9)) (atI (nth q 10)) (atI (nth q 11)) (atI (nth q 12)) (atI (nth q 13)) (atI (nth q 14)) (atI (nth q 15)) (atI (nth q 16)) (atI (nth q 17))⟩]
def I_ref28_Right (F : Nat) : Nat → VS → (Exit → VS → R) → R := tabI c_ref28_Right (W_ref28_Right F)
def WJ_ref28_Right (F : Nat) : List LJ := []
def J_ref28_Right (F : Nat) : Nat → Nat → VS → (Exit → VS → R) → R := tabJ (WJ_ref28_Right F)
theorem lL_ref28_Right_0 (F : Nat) (k : Exit → VS → R) : ∀ (n : Nat) (x0 : Int) (x1 : Int) (x2 : Int) (x3 : Int) (x4 : Int) (x5 : Int) (x6 : Int) (x7 : Int) (x8 : Int) (x9 : Int) (x10 : Int) (x11 : Int) (x12 : Int) (x13 : Int) (x14 : Int) (x15 : Int) (x16 : Int) (x17 : Int), iterC (codeL PP (S_ref28_Right F) c_ref28_Right (I_ref28_Right F) (J_ref28_Right F) (loopAt PP 19 0) 0) (headOf c_ref28_Right 0) k n (fS T_ref28_Right_0 [.i x0, .i x1, .i x2, .i x3, .i x4, .i x5, .i x6, .i x7, .i x8, .i x9, .i x10, .i x11, .i x12, .i x13, .i x14, .i x15, .i x16, .i x17]) = L_ref28_Right_0 F (fun (z0 : Int) (z1 : Int) (z2 : Int) (z3 : Int) (z4 : Int) (z5 : Int) (z6 : Int) (z7 : Int) (z8 : Int) (z9 : Int) (z10 : Int) (z11 : Int) (z12 : Int) (z13 : Int) (z14 : Int) (z15 : Int) (z16 : Int) (z17 : Int) => k .ret (fS T_ref28_Right_0_0 [.i z0, .i z1, .i z2, .i z3, .i z4, .i z5, .i z6, .i z7, .i z8, .i z9, .i z10, .i z11, .i z12, .i z13, .i z14, .i z15, .i z16, .i z17])) (fun (z0 : Int) (z1 : Int) (z2 : Int) (z3 : Int) (z4 : Int) (z5 : Int) (z6 : Int) (z7 : Int) (z8 : Int) (z9 : Int) (z10 : Int) (z11 : Int) (z12 : Int) (z13 : Int) (z14 : Int) (z15 : Int) (z16 : Int) (z17 : Int) => k (.exit 0) (fS T_ref28_Right_0_1 [.i z0, .i z1, .i z2, .i z3, .i z4, .i z5, .i z6, .i z7, .i z8, .i z9, .i z10, .i z11, .i z12, .i z13, .i z14, .i z15, .i z16, .i z17])) n x0 x1 x2 x3 x4 x5 x6 x7 x8 x9 x10 x11 x12 x13 x14 x15 x16 x17
  | 0, _, _, _, _, _, _, _, _, _, _, _, _, _, _, _, _, _, _ => rfl
  | n + 1, x0, x1, x2, x3, x4, x5, x6, x7, x8, x9, x10, x11, x12, x13, x14, x15, x16, x17 => by
    have h0 : ∀ (ok_ref28_Check : Nat → Int → Int → Int → Int → Bool) (o_ref28_Check_0 : Nat → Int → Int → Int → Int → Int) (L_ref28_Right_0 : Nat → (Int → Int → Int → Int → Int → Int → Int → Int → Int → Int → Int → Int → Int → Int → Int → Int → Int → Int → R) → (Int → Int → Int → Int → Int → Int → Int → Int → Int → Int → Int → Int → Int → Int → Int → Int → Int → Int → R) → Nat → Int → Int → Int → Int → Int → Int → Int → Int → Int → Int → Int → Int → Int → Int → Int → Int → Int → Int → R), iterC (codeL PP (words [(17, spec ti_ref28_Check to_ref28_Check (fun q => (ok_ref28_Check F (atI (nth q 0)) (atI (nth q 1)) (atI (nth q 2)) (atI (nth q 3)))) (fun q => [.i (o_ref28_Check_0 F (atI (nth q 0)) (atI (nth q 1)) (atI (nth q 2)) (atI (nth q 3)))]))]) c_ref28_Right (tabI c_ref28_Right [⟨0, T_ref28_Right_0, fun k q => L_ref28_Right_0 F (fun (z0 : Int) (z1 : Int) (z2 : Int) (z3 : Int) (z4 : Int) (z5 : Int) (z6 : Int) (z7 : Int) (z8 : Int) (z9 : Int) (z10 : Int) (z11 : Int) (z12 : Int) (z13 : Int) (z14 : Int) (z15 : Int) (z16 : Int) (z17 : Int) => k .ret (fS T_ref28_Right_0_0 [.i z0, .i z1, .i z2, .i z3, .i z4, .i z5, .i z6, .i z7, .i z8, .i z9, .i z10, .i z11, .i z12, .i z13, .i z14, .i z15, .i z16, .i z17])) (fun (z0 : Int) (z1 : Int) (z2 : Int) (z3 : Int) (z4 : Int) (z5 : Int) (z6 : Int) (z7 : Int) (z8 : Int) (z9 : Int) (z10 : Int) (z11 : Int) (z12 : Int) (z13 : Int) (z14 : Int) (z15 : Int) (z16 : Int) (z17 : Int) => k (.exit 0) (fS T_ref28_Right_0_1 [.i z0, .i z1, .i z2, .i z3, .i z4, .i z5, .i z6, .i z7, .i z8, .i z9, .i z10, .i z11, .i z12, .i z13, .i z14, .i z15, .i z16, .i z17])) F (atI (nth q 0)) (atI (nth q 1)) (atI (nth q 2)) (atI (nth q 3)) (atI (nth q 4)) (atI (nth q 5)) (atI (nth q 6)) (atI (nth q 7)) (atI (nth q 8)) (atI (nth q 9)) (atI (nth q 10)) (atI (nth q 11)) (atI (nth q 12)) (atI (nth q 13)) (atI (nth q 14)) (atI (nth q 15)) (atI (nth q 16)) (atI (nth q 17))⟩]) (tabJ []) (loopAt PP 19 0) 0) (headOf c_ref28_Right 0) k (n + 1) (fS T_ref28_Right_0 [.i x0, .i x1, .i x2, .i x3, .i x4, .i x5, .i x6, .i x7, .i x8, .i x9, .i x10, .i x11, .i x12, .i x13, .i x14, .i x15, .i x16, .i x17]) = (fun (rc : Int → Int → Int → Int → Int → Int → Int → Int → Int → Int → Int → Int → Int → Int → Int → Int → Int → Int → R) (ex0 : Int → Int → Int → Int → Int → Int → Int → Int → Int → Int → Int → Int → Int → Int → Int → Int → Int → Int → R) (ex1 : Int → Int → Int → Int → Int → Int → Int → Int → Int → Int → Int → Int → Int → Int → Int → Int → Int → Int → R) (x0 : Int) (x1 : Int) (x2 : Int) (x3 : Int) (x4 : Int) (x5 : Int) (x6 : Int) (x7 : Int) (x8 : Int) (x9 : Int) (x10 : Int) (x11 : Int) (x12 : Int) (x13 : Int) (x14 : Int) (x15 : Int) (x16 : Int) (x17 : Int) => (
  bif ((decide (x9 < 3))) then (
    bif ((decide (0 ≤ x9)) && (decide (x9 < 3))) then (
      let v3439 : Nat := (0 + ((Int.toNat x9) * 1))
      bif ((isI .i64 [.v (.int .i64 x14), .v (.int .i64 x15), .v (.int .i64 x16), .v (.int .i64 x17)][v3439]?) && true) then (
        bif ((decide (((iv [.v (.int .i64 x14), .v (.int .i64 x15), .v (.int .i64 x16), .v (.int .i64 x17)][v3439]?)) > x12))) then (
          ex0 x0 x1 x2 x3 x4 x5 x6 x7 2 x9 x10 x11 x12 x13 x14 x15 x16 x17)
        else (
          bif ((decide (0 ≤ x9)) && (decide (x9 < 3))) then (
            let v3442 : Nat := (0 + ((Int.toNat x9) * 1))
            bif ((isI .i64 [.v (.int .i64 x14), .v (.int .i64 x15), .v (.int .i64 x16), .v (.int .i64 x17)][v3442]?) && true) then (
              bif ((decide (((iv [.v (.int .i64 x14), .v (.int .i64 x15), .v (.int .i64 x16), .v (.int .i64 x17)][v3442]?)) < ((IntKind.wrap .i64 (0 - x12)))))) then (
                ex0 x0 x1 x2 x3 x4 x5 x6 x7 2 x9 x10 x11 x12 x13 x14 x15 x16 x17)
              else (
                rc x0 x1 x2 x3 x4 x5 x6 x7 x8 ((IntKind.wrap .i64 (x9 + 1))) x10 x11 x12 x13 x14 x15 x16 x17))
            else (
              none))
          else (
            none)))
      else (
        none))
    else (
      none))
  else (
    ex1 x0 x1 x2 x3 x4 x5 x6 x7 x8 x9 x10 x11 x12 x13 x14 x15 x16 x17) : R)) (fun (y0 : Int) (y1 : Int) (y2 : Int) (y3 : Int) (y4 : Int) (y5 : Int) (y6 : Int) (y7 : Int) (y8 : Int) (y9 : Int) (y10 : Int) (y11 : Int) (y12 : Int) (y13 : Int) (y14 : Int) (y15 : Int) (y16 : Int) (y17 : Int) => iterC (codeL PP (words [(17, spec ti_ref28_Check to_ref28_Check (fun q => (ok_ref28_Check F (atI (nth q 0)) (atI (nth q 1)) (atI (nth q 2)) (atI (nth q 3)))) (fun q => [.i (o_ref28_Check_0 F (atI (nth q 0)) (atI (nth q 1)) (atI (nth q 2)) (atI (nth q 3)))]))]) c_ref28_Right (tabI c_ref28_Right [⟨0, T_ref28_Right_0, fun k q => L_ref28_Right_0 F (fun (z0 : Int) (z1 : Int) (z2 : Int) (z3 : Int) (z4 : Int) (z5 : Int) (z6 : Int) (z7 : Int) (z8 : Int) (z9 : Int) (z10 : Int) (z11 : Int) (z12 : Int) (z13 : Int) (z14 : Int) (z15 : Int) (z16 : Int) (z17 : Int) => k .ret (fS T_ref28_Right_0_0 [.i z0, .i z1, .i z2, .i z3, .i z4, .i z5, .i z6, .i z7, .i z8, .i z9, .i z10, .i z11, .i z12, .i z13, .i z14, .i z15, .i z16, .i z17])) (fun (z0 : Int) (z1 : Int) (z2 : Int) (z3 : Int) (z4 : Int) (z5 : Int) (z6 : Int) (z7 : Int) (z8 : Int) (z9 : Int) (z10 : Int) (z11 : Int) (z12 : Int) (z13 : Int) (z14 : Int) (z15 : Int) (z16 : Int) (z17 : Int) => k (.exit 0) (fS T_ref28_Right_0_1 [.i z0, .i z1, .i z2, .i z3, .i z4, .i z5, .i z6, .i z7, .i z8, .i z9, .i z10, .i z11, .i z12, .i z13, .i z14, .i z15, .i z16, .i z17])) F (atI (nth q 0)) (atI (nth q 1)) (atI (nth q 2)) (atI (nth q 3)) (atI (nth q 4)) (atI (nth q 5)) (atI (nth q 6)) (atI (nth q 7)) (atI (nth q 8)) (atI (nth q 9)) (atI (nth q 10)) (atI (nth q 11)) (atI (nth q 12)) (atI (nth q 13)) (atI (nth q 14)) (atI (nth q 15)) (atI (nth q 16)) (atI (nth q 17))⟩]) (tabJ []) (loopAt PP 19 0) 0) (headOf c_ref28_Right 0) k n (fS T_ref28_Right_0 [.i y0, .i y1, .i y2, .i y3, .i y4, .i y5, .i y6, .i y7, .i y8, .i y9, .i y10, .i y11, .i y12, .i y13, .i y14, .i y15, .i y16, .i y17])) (fun (z0 : Int) (z1 : Int) (z2 : Int) (z3 : Int) (z4 : Int) (z5 : Int) (z6 : Int) (z7 : Int) (z8 : Int) (z9 : Int) (z10 : Int) (z11 : Int) (z12 : Int) (z13 : Int) (z14 : Int) (z15 : Int) (z16 : Int) (z17 : Int) => k .ret (fS T_ref28_Right_0_0 [.i z0, .i z1, .i z2, .i z3, .i z4, .i z5, .i z6, .i z7, .i z8, .i z9, .i z10, .i z11, .i z12, .i z13, .i z14, .i z15, .i z16, .i z17])) (fun (z0 : Int) (z1 : Int) (z2 : Int) (z3 : Int) (z4 : Int) (z5 : Int) (z6 : Int) (z7 : Int) (z8 : Int) (z9 : Int) (z10 : Int) (z11 : Int) (z12 : Int) (z13 : Int) (z14 : Int) (z15 : Int) (z16 : Int) (z17 : Int) => k (.exit 0) (fS T_ref28_Right_0_1 [.i z0, .i z1, .i z2, .i z3, .i z4, .i z5, .i z6, .i z7, .i z8, .i z9, .i z10, .i z11, .i z12, .i z13, .i z14, .i z15, .i z16, .i z17])) x0 x1 x2 x3 x4 x5 x6 x7 x8 x9 x10 x11 x12 x13 x14 x15 x16 x17 := by
      intros
      kernel_rfl
    have h : iterC (codeL PP (S_ref28_Right F) c_ref28_Right (I_ref28_Right F) (J_ref28_Right F) (loopAt PP 19 0) 0) (headOf c_ref28_Right 0) k (n + 1) (fS T_ref28_Right_0 [.i x0, .i x1, .i x2, .i x3, .i x4, .i x5, .i x6, .i x7, .i x8, .i x9, .i x10, .i x11, .i x12, .i x13, .i x14, .i x15, .i x16, .i x17]) = B_ref28_Right_0 F (fun (y0 : Int) (y1 : Int) (y2 : Int) (y3 : Int) (y4 : Int) (y5 : Int) (y6 : Int) (y7 : Int) (y8 : Int) (y9 : Int) (y10 : Int) (y11 : Int) (y12 : Int) (y13 : Int) (y14 : Int) (y15 : Int) (y16 : Int) (y17 : Int) => iterC (codeL PP (S_ref28_Right F) c_ref28_Right (I_ref28_Right F) (J_ref28_Right F) (loopAt PP 19 0) 0) (headOf c_ref28_Right 0) k n (fS T_ref28_Right_0 [.i y0, .i y1, .i y2, .i y3, .i y4, .i y5, .i y6, .i y7, .i y8, .i y9, .i y10, .i y11, .i y12, .i y13, .i y14, .i y15, .i y16, .i y17])) (fun (z0 : Int) (z1 : Int) (z2 : Int) (z3 : Int) (z4 : Int) (z5 : Int) (z6 : Int) (z7 : Int) (z8 : Int) (z9 : Int) (z10 : Int) (z11 : Int) (z12 : Int) (z13 : Int) (z14 : Int) (z15 : Int) (z16 : Int) (z17 : Int) => k .ret (fS T_ref28_Right_0_0 [.i z0, .i z1, .i z2, .i z3, .i z4, .i z5, .i z6, .i z7, .i z8, .i z9, .i z10, .i z11, .i z12, .i z13, .i z14, .i z15, .i z16, .i z17])) (fun (z0 : Int) (z1 : Int) (z2 : Int) (z3 : Int) (z4 : Int) (z5 : Int) (z6 : Int) (z7 : Int) (z8 : Int) (z9 : Int) (z10 : Int) (z11 : Int) (z12 : Int) (z13 : Int) (z14 : Int) (z15 : Int) (z16 : Int) (z17 : Int) => k (.exit 0) (fS T_ref28_Right_0_1 [.i z0, .i z1, .i z2, .i z3, .i z4, .i z5, .i z6, .i z7, .i z8, .i z9, .i z10, .i z11, .i z12, .i z13, .i z14, .i z15, .i z16, .i z17])) x0 x1 x2 x3 x4 x5 x6 x7 x8 x9 x10 x11 x12 x13 x14 x15 x16 x17 := (h0 ok_ref28_Check o_ref28_Check_0 L_ref28_Right_0).trans (by kernel_rfl)
    rw [h]
    simp only [lL_ref28_Right_0 F k n]
    rfl
def f_ref28_Right (F : Nat) (a0 : Int) (a1 : Int) (a2 : Int) (a3 : Int) (a4 : Int) (a5 : Int) (a6 : Int) (a7 : Int) : R :=
  bif (ok_ref28_Check F a0 a1 a2 a3) then (
    bif ((((o_ref28_Check_0 F a0 a1 a2 a3)) != 0)) then (
      some (.v (.int .i64 2)))
    else (
      bif ((decide (a7 < 0))) then (
        some (.v (.int .i64 2)))
      else (
        bif ((decide (a7 > 1099511627776))) then (
          some (.v (.int .i64 2)))
        else (
          L_ref28_Right_0 F (fun (v3447 : Int) (v3448 : Int) (v3449 : Int) (v3450 : Int) (v3451 : Int) (v3452 : Int) (v3453 : Int) (v3454 : Int) (v3455 : Int) (v3456 : Int) (v3457 : Int) (v3458 : Int) (v3459 : Int) (v3460 : Int) (v3461 : Int) (v3462 : Int) (v3463 : Int) (v3464 : Int) =>
            some (.v (.int .i64 v3455))) (fun (v3465 : Int) (v3466 : Int) (v3467 : Int) (v3468 : Int) (v3469 : Int) (v3470 : Int) (v3471 : Int) (v3472 : Int) (v3473 : Int) (v3474 : Int) (v3475 : Int) (v3476 : Int) (v3477 : Int) (v3478 : Int) (v3479 : Int) (v3480 : Int) (v3481 : Int) (v3482 : Int) =>
            some (.v (.int .i64 0))) F a0 a1 a2 a3 a4 a5 a6 a7 0 0 a0 a1 a2 a3 a4 a5 a6 a7))))
  else (
    none)
theorem e_ref28_Right (F : Nat) (a0 : Int) (a1 : Int) (a2 : Int) (a3 : Int) (a4 : Int) (a5 : Int) (a6 : Int) (a7 : Int) : funL PP (S_ref28_Right F) c_ref28_Right (I_ref28_Right F) (J_ref28_Right F) 19 (fTs ti_ref28_Right [.i a0, .i a1, .i a2, .i a3, .i a4, .i a5, .i a6, .i a7]).1 = f_ref28_Right F a0 a1 a2 a3 a4 a5 a6 a7 := by
  have h : ∀ (ok_ref28_Check : Nat → Int → Int → Int → Int → Bool) (o_ref28_Check_0 : Nat → Int → Int → Int → Int → Int) (L_ref28_Right_0 : Nat → (Int → Int → Int → Int → Int → Int → Int → Int → Int → Int → Int → Int → Int → Int → Int → Int → Int → Int → R) → (Int → Int → Int → Int → Int → Int → Int → Int → Int → Int → Int → Int → Int → Int → Int → Int → Int → Int → R) → Nat → Int → Int → Int → Int → Int → Int → Int → Int → Int → Int → Int → Int → Int → Int → Int → Int → Int → Int → R), funL PP (words [(17, spec ti_ref28_Check to_ref28_Check (fun q => (ok_ref28_Check F (atI (nth q 0)) (atI (nth q 1)) (atI (nth q 2)) (atI (nth q 3)))) (fun q => [.i (o_ref28_Check_0 F (atI (nth q 0)) (atI (nth q 1)) (atI (nth q 2)) (atI (nth q 3)))]))]) c_ref28_Right (tabI c_ref28_Right [⟨0, T_ref28_Right_0, fun k q => L_ref28_Right_0 F (fun (z0 : Int) (z1 : Int) (z2 : Int) (z3 : Int) (z4 : Int) (z5 : Int) (z6 : Int) (z7 : Int) (z8 : Int) (z9 : Int) (z10 : Int) (z11 : Int) (z12 : Int) (z13 : Int) (z14 : Int) (z15 : Int) (z16 : Int) (z17 : Int) => k .ret (fS T_ref28_Right_0_0 [.i z0, .i z1, .i z2, .i z3, .i z4, .i z5, .i z6, .i z7, .i z8, .i z9, .i z10, .i z11, .i z12, .i z13, .i z14, .i z15, .i z16, .i z17])) (fun (z0 : Int) (z1 : Int) (z2 : Int) (z3 : Int) (z4 : Int) (z5 : Int) (z6 : Int) (z7 : Int) (z8 : Int) (z9 : Int) (z10 : Int) (z11 : Int) (z12 : Int) (z13 : Int) (z14 : Int) (z15 : Int) (z16 : Int) (z17 : Int) => k (.exit 0) (fS T_ref28_Right_0_1 [.i z0, .i z1, .i z2, .i z3, .i z4, .i z5, .i z6, .i z7, .i z8, .i z9, .i z10, .i z11, .i z12, .i z13, .i z14, .i z15, .i z16, .i z17])) F (atI (nth q 0)) (atI (nth q 1)) (atI (nth q 2)) (atI (nth q 3)) (atI (nth q 4)) (atI (nth q 5)) (atI (nth q 6)) (atI (nth q 7)) (atI (nth q 8)) (atI (nth q 9)) (atI (nth q 10)) (atI (nth q 11)) (atI (nth q 12)) (atI (nth q 13)) (atI (nth q 14)) (atI (nth q 15)) (atI (nth q 16)) (atI (nth q 17))⟩]) (tabJ []) 19 (fTs ti_ref28_Right [.i a0, .i a1, .i a2, .i a3, .i a4, .i a5, .i a6, .i a7]).1 = (
  bif (ok_ref28_Check F a0 a1 a2 a3) then (
    bif ((((o_ref28_Check_0 F a0 a1 a2 a3)) != 0)) then (
      some (.v (.int .i64 2)))
    else (
      bif ((decide (a7 < 0))) then (
        some (.v (.int .i64 2)))
      else (
        bif ((decide (a7 > 1099511627776))) then (
          some (.v (.int .i64 2)))
        else (
          L_ref28_Right_0 F (fun (v3447 : Int) (v3448 : Int) (v3449 : Int) (v3450 : Int) (v3451 : Int) (v3452 : Int) (v3453 : Int) (v3454 : Int) (v3455 : Int) (v3456 : Int) (v3457 : Int) (v3458 : Int) (v3459 : Int) (v3460 : Int) (v3461 : Int) (v3462 : Int) (v3463 : Int) (v3464 : Int) =>
            some (.v (.int .i64 v3455))) (fun (v3465 : Int) (v3466 : Int) (v3467 : Int) (v3468 : Int) (v3469 : Int) (v3470 : Int) (v3471 : Int) (v3472 : Int) (v3473 : Int) (v3474 : Int) (v3475 : Int) (v3476 : Int) (v3477 : Int) (v3478 : Int) (v3479 : Int) (v3480 : Int) (v3481 : Int) (v3482 : Int) =>
            some (.v (.int .i64 0))) F a0 a1 a2 a3 a4 a5 a6 a7 0 0 a0 a1 a2 a3 a4 a5 a6 a7))))
  else (
    none) : R) := by
    intros
    kernel_rfl
  exact (h ok_ref28_Check o_ref28_Check_0 L_ref28_Right_0).trans (by kernel_rfl)
def ok_ref28_Right (F : Nat) (a0 : Int) (a1 : Int) (a2 : Int) (a3 : Int) (a4 : Int) (a5 : Int) (a6 : Int) (a7 : Int) : Bool := okT to_ref28_Right (f_ref28_Right F a0 a1 a2 a3 a4 a5 a6 a7)
def o_ref28_Right_0 (F : Nat) (a0 : Int) (a1 : Int) (a2 : Int) (a3 : Int) (a4 : Int) (a5 : Int) (a6 : Int) (a7 : Int) : Int := atI (nth (outT to_ref28_Right (f_ref28_Right F a0 a1 a2 a3 a4 a5 a6 a7)) 0)
theorem k_ref28_Right (F : Nat) (a0 : Int) (a1 : Int) (a2 : Int) (a3 : Int) (a4 : Int) (a5 : Int) (a6 : Int) (a7 : Int) {z0 : Int} (h : f_ref28_Right F a0 a1 a2 a3 a4 a5 a6 a7 = some (.v (.int .i64 z0))) : ok_ref28_Right F a0 a1 a2 a3 a4 a5 a6 a7 = true ∧ o_ref28_Right_0 F a0 a1 a2 a3 a4 a5 a6 a7 = z0 := by
  refine ⟨?_, ?_⟩
  · unfold ok_ref28_Right; rw [h]; kernel_rfl
  · unfold o_ref28_Right_0; rw [h]; kernel_rfl
def s_ref28_Right (F : Nat) : List VV → Option (Bool × VV) := spec ti_ref28_Right to_ref28_Right (fun q => (ok_ref28_Right F (atI (nth q 0)) (atI (nth q 1)) (atI (nth q 2)) (atI (nth q 3)) (atI (nth q 4)) (atI (nth q 5)) (atI (nth q 6)) (atI (nth q 7)))) (fun q => [.i (o_ref28_Right_0 F (atI (nth q 0)) (atI (nth q 1)) (atI (nth q 2)) (atI (nth q 3)) (atI (nth q 4)) (atI (nth q 5)) (atI (nth q 6)) (atI (nth q 7)))])
theorem hS_ref28_Right (F : Nat) : ∀ f, Good PP f (unS (S_ref28_Right F f)) := words_good fun p hp => by
  simp only [List.mem_cons, List.not_mem_nil, or_false] at hp
  rcases hp with rfl
  · exact g_ref28_Check F
theorem hl_ref28_Right (F : Nat) : ∀ p ∈ loopsIn PP 19, LoopOK PP (S_ref28_Right F) c_ref28_Right F (I_ref28_Right F) (J_ref28_Right F) p :=
  loops_of [(0, loopAt PP 19 0)] (by kernel_rfl) (all_cons
    (loop_ok (W_ref28_Right F) rfl (tab_cons (fun _ k q => Le.ofEq ((lL_ref28_Right_0 F k F (atI (nth q 0)) (atI (nth q 1)) (atI (nth q 2)) (atI (nth q 3)) (atI (nth q 4)) (atI (nth q 5)) (atI (nth q 6)) (atI (nth q 7)) (atI (nth q 8)) (atI (nth q 9)) (atI (nth q 10)) (atI (nth q 11)) (atI (nth q 12)) (atI (nth q 13)) (atI (nth q 14)) (atI (nth q 15)) (atI (nth q 16)) (atI (nth q 17))).symm.trans (congrArg (iterC (codeL PP (S_ref28_Right F) c_ref28_Right (I_ref28_Right F) (J_ref28_Right F) (loopAt PP 19 0) 0) (headOf c_ref28_Right 0) k F) (show fS T_ref28_Right_0 [.i (atI (nth q 0)), .i (atI (nth q 1)), .i (atI (nth q 2)), .i (atI (nth q 3)), .i (atI (nth q 4)), .i (atI (nth q 5)), .i (atI (nth q 6)), .i (atI (nth q 7)), .i (atI (nth q 8)), .i (atI (nth q 9)), .i (atI (nth q 10)), .i (atI (nth q 11)), .i (atI (nth q 12)), .i (atI (nth q 13)), .i (atI (nth q 14)), .i (atI (nth q 15)), .i (atI (nth q 16)), .i (atI (nth q 17))] = fS T_ref28_Right_0 q by kernel_rfl)))) tab_nil)) all_nil)
theorem hj_ref28_Right (F : Nat) : ∀ p ∈ joinsIn PP c_ref28_Right 19, JoinOK PP (S_ref28_Right F) c_ref28_Right (I_ref28_Right F) (J_ref28_Right F) p :=
  joins_of [] (by kernel_rfl) all_nil
theorem g_ref28_Right (F : Nat) : Good PP 19 (unS (s_ref28_Right F)) :=
  fun_spec (hS_ref28_Right F) (by kernel_rfl) (by kernel_rfl) (C := c_ref28_Right) (F := fun q => (f_ref28_Right F (atI (nth q 0)) (atI (nth q 1)) (atI (nth q 2)) (atI (nth q 3)) (atI (nth q 4)) (atI (nth q 5)) (atI (nth q 6)) (atI (nth q 7)))) (fun _ => F) (fun _ => I_ref28_Right F) (fun _ => J_ref28_Right F) (fun _ => hl_ref28_Right F) (fun _ => hj_ref28_Right F)
    (fun q => (congrArg (funL PP (S_ref28_Right F) c_ref28_Right (I_ref28_Right F) (J_ref28_Right F) 19) (show (fTs ti_ref28_Right q).1 = (fTs ti_ref28_Right [.i (atI (nth q 0)), .i (atI (nth q 1)), .i (atI (nth q 2)), .i (atI (nth q 3)), .i (atI (nth q 4)), .i (atI (nth q 5)), .i (atI (nth q 6)), .i (atI (nth q 7))]).1 by kernel_rfl)).trans (e_ref28_Right F (atI (nth q 0)) (atI (nth q 1)) (atI (nth q 2)) (atI (nth q 3)) (atI (nth q 4)) (atI (nth q 5)) (atI (nth q 6)) (atI (nth q 7))))
    (fun _ h => (okT_fill h).trans (congrArg some (by kernel_rfl)))

end Go.Xv
set_option linter.unusedVariables false
namespace Go.Xv
/- 34 _ref02_Shift -/
def c_ref02_Shift : Cfg := ⟨[0, 1, 4, 5, 7], [], [9, 12, 17, 22], []⟩
def ti_ref02_Shift : List TV := [.v (.int .i64), .v (.int .i64)]
def to_ref02_Shift : TV := .v (.tup [.int .i64, .bool])
def S_ref02_Shift (F : Nat) : FuncId → List VV → Option (Bool × VV) := words [(61, s_ref01_Of F), (49, s_ref01_Left F), (60, s_ref02_clip F), (62, s_ref01_Right F)]
def W_ref02_Shift (F : Nat) : List LW := []
def I_ref02_Shift (F : Nat) : Nat → VS → (Exit → VS → R) → R := tabI c_ref02_Shift (W_ref02_Shift F)
def WJ_ref02_Shift (F : Nat) : List LJ := []
def J_ref02_Shift (F : Nat) : Nat → Nat → VS → (Exit → VS → R) → R := tabJ (WJ_ref02_Shift F)
def f_ref02_Shift (F : Nat) (a0 : Int) (a1 : Int) : R :=
  bif ((decide (a1 ≥ 0))) then (
    bif (ok_ref01_Of F a0) then (
      let v3525 : Int := (o_ref01_Of_0 F a0)
      let v3526 : Int := (o_ref01_Of_1 F a0)
      let v3527 : Int := (if 64 < a1 then 64 else a1)
      bif (ok_ref01_Left F v3525 v3526 v3527) then (
        let v3528 : Int := (o_ref01_Left_0 F v3525 v3526 v3527)
        let v3529 : Int := (o_ref01_Left_1 F v3525 v3526 v3527)
        bif (ok_ref02_clip F v3528 v3529) then (
          some (.v (.tuple #[.int .i64 ((o_ref02_clip_0 F v3528 v3529)), .bool ((o_ref02_clip_1 F v3528 v3529))])))
        else (
          none))
      else (
        none))
    else (
      none))
  else (
    bif (ok_ref01_Of F a0) then (
      let v3532 : Int := (o_ref01_Of_0 F a0)
      let v3533 : Int := (o_ref01_Of_1 F a0)
      let v3535 : Int := (IntKind.wrap .i64 (0 - ((if (-127) > a1 then (-127) else a1))))
      let v3536 : Int := (if v3535 < 127 then v3535 else 127)
      bif (ok_ref01_Right F v3532 v3533 v3536) then (
        let v3537 : Int := (o_ref01_Right_0 F v3532 v3533 v3536)
        let v3538 : Int := (o_ref01_Right_1 F v3532 v3533 v3536)
        bif (ok_ref02_clip F v3537 v3538) then (
          some (.v (.tuple #[.int .i64 ((o_ref02_clip_0 F v3537 v3538)), .bool ((o_ref02_clip_1 F v3537 v3538))])))
        else (
          none))
      else (
        none))
    else (
      none))
theorem e_ref02_Shift (F : Nat) (a0 : Int) (a1 : Int) : funL PP (S_ref02_Shift F) c_ref02_Shift (I_ref02_Shift F) (J_ref02_Shift F) 34 (fTs ti_ref02_Shift [.i a0, .i a1]).1 = f_ref02_Shift F a0 a1 := by
  have h : ∀ (ok_ref01_Of : Nat → Int → Bool) (o_ref01_Of_0 : Nat → Int → Int) (o_ref01_Of_1 : Nat → Int → Int) (ok_ref01_Left : Nat → Int → Int → Int → Bool) (o_ref01_Left_0 : Nat → Int → Int → Int → Int) (o_ref01_Left_1 : Nat → Int → Int → Int → Int) (ok_ref02_clip : Nat → Int → Int → Bool) (o_ref02_clip_0 : Nat → Int → Int → Int) (o_ref02_clip_1 : Nat → Int → Int → Bool) (ok_ref01_Right : Nat → Int → Int → Int → Bool) (o_ref01_Right_0 : Nat → Int → Int → Int → Int) (o_ref01_Right_1 : Nat → Int → Int → Int → Int), funL PP (words [(61, spec ti_ref01_Of to_ref01_Of (fun q => (ok_ref01_Of F (atI (nth q 0)))) (fun q => [.i (o_ref01_Of_0 F (atI (nth q 0))), .i (o_ref01_Of_1 F (atI (nth q 0)))])), (49, spec ti_ref01_Left to_ref01_Left (fun q => (ok_ref01_Left F (atI (nth q 0)) (atI (nth q 1)) (atI (nth q 2)))) (fun q => [.i (o_ref01_Left_0 F (atI (nth q 0)) (atI (nth q 1)) (atI (nth q 2))), .i (o_ref01_Left_1 F (atI (nth q 0)) (atI (nth q 1)) (atI (nth q 2)))])), (60, spec ti_ref02_clip to_ref02_clip (fun q => (ok_ref02_clip F (atI (nth q 0)) (atI (nth q 1)))) (fun q => [.i (o_ref02_clip_0 F (atI (nth q 0)) (atI (nth q 1))), .b (o_ref02_clip_1 F (atI (nth q 0)) (atI (nth q 1)))])), (62, spec ti_ref01_Right to_ref01_Right (fun q => (ok_ref01_Right F (atI (nth q 0)) (atI (nth q 1)) (atI (nth q 2)))) (fun q => [.i (o_ref01_Right_0 F (atI (nth q 0)) (atI (nth q 1)) (atI (nth q 2))), .i (o_ref01_Right_1 F (atI (nth q 0)) (atI (nth q 1)) (atI (nth q 2)))]))]) c_ref02_Shift (tabI c_ref02_Shift []) (tabJ []) 34 (fTs ti_ref02_Shift [.i a0, .i a1]).1 = (
  bif ((decide (a1 ≥ 0))) then (
    bif (ok_ref01_Of F a0) then (
      let v3525 : Int := (o_ref01_Of_0 F a0)
      let v3526 : Int := (o_ref01_Of_1 F a0)
      let v3527 : Int := (if 64 < a1 then 64 else a1)
      bif (ok_ref01_Left F v3525 v3526 v3527) then (
        let v3528 : Int := (o_ref01_Left_0 F v3525 v3526 v3527)
        let v3529 : Int := (o_ref01_Left_1 F v3525 v3526 v3527)
        bif (ok_ref02_clip F v3528 v3529) then (
          some (.v (.tuple #[.int .i64 ((o_ref02_clip_0 F v3528 v3529)), .bool ((o_ref02_clip_1 F v3528 v3529))])))
        else (
          none))
      else (
        none))
    else (
      none))
  else (
    bif (ok_ref01_Of F a0) then (
      let v3532 : Int := (o_ref01_Of_0 F a0)
      let v3533 : Int := (o_ref01_Of_1 F a0)
      let v3535 : Int := (IntKind.wrap .i64 (0 - ((if (-127) > a1 then (-127) else a1))))
      let v3536 : Int := (if v3535 < 127 then v3535 else 127)
      bif (ok_ref01_Right F v3532 v3533 v3536) then (
        let v3537 : Int := (o_ref01_Right_0 F v3532 v3533 v3536)
        let v3538 : Int := (o_ref01_Right_1 F v3532 v3533 v3536)
        bif (ok_ref02_clip F v3537 v3538) then (
          some (.v (.tuple #[.int .i64 ((o_ref02_clip_0 F v3537 v3538)), .bool ((o_ref02_clip_1 F v3537 v3538))])))
        else (
          none))
      else (
        none))
    else (
      none)) : R) := by
    intros
    kernel_rfl
  exact (h ok_ref01_Of o_ref01_Of_0 o_ref01_Of_1 ok_ref01_Left o_ref01_Left_0 o_ref01_Left_1 ok_ref02_clip o_ref02_clip_0 o_ref02_clip_1 ok_ref01_Right o_ref01_Right_0 o_ref01_Right_1).trans (by kernel_rfl)
def ok_ref02_Shift (F : Nat) (a0 : Int) (a1 : Int) : Bool := okT to_ref02_Shift (f_ref02_Shift F a0 a1)
def o_ref02_Shift_0 (F : Nat) (a0 : Int) (a1 : Int) : Int := atI (nth (outT to_ref02_Shift (f_ref02_Shift F a0 a1)) 0)
def o_ref02_Shift_1 (F : Nat) (a0 : Int) (a1 : Int) : Bool := atB (nth (outT to_ref02_Shift (f_ref02_Shift F a0 a1)) 1)
theorem k_ref02_Shift (F : Nat) (a0 : Int) (a1 : Int) {z0 : Int} {z1 : Bool} (h : f_ref02_Shift F a0 a1 = some (.v (.tuple #[.int .i64 z0, .bool z1]))) : ok_ref02_Shift F a0 a1 = true ∧ o_ref02_Shift_0 F a0 a1 = z0 ∧ o_ref02_Shift_1 F a0 a1 = z1 := by
  refine ⟨?_, ?_, ?_⟩
  · unfold ok_ref02_Shift; rw [h]; kernel_rfl
  · unfold o_ref02_Shift_0; rw [h]; kernel_rfl
  · unfold o_ref02_Shift_1; rw [h]; kernel_rfl
def s_ref02_Shift (F : Nat) : List VV → Option (Bool × VV) := spec ti_ref02_Shift to_ref02_Shift (fun q => (ok_ref02_Shift F (atI (nth q 0)) (atI (nth q 1)))) (fun q => [.i (o_ref02_Shift_0 F (atI (nth q 0)) (atI (nth q 1))), .b (o_ref02_Shift_1 F (atI (nth q 0)) (atI (nth q 1)))])
theorem hS_ref02_Shift (F : Nat) : ∀ f, Good PP f (unS (S_ref02_Shift F f)) := words_good fun p hp => by
  simp only [List.mem_cons, List.not_mem_nil, or_false] at hp
  rcases hp with rfl | rfl | rfl | rfl
  · exact g_ref01_Of F
  · exact g_ref01_Left F
  · exact g_ref02_clip F
  · exact g_ref01_Right F
theorem hl_ref02_Shift (F : Nat) : ∀ p ∈ loopsIn PP 34, LoopOK PP (S_ref02_Shift F) c_ref02_Shift F (I_ref02_Shift F) (J_ref02_Shift F) p :=
  loops_of [] (by kernel_rfl) all_nil
theorem hj_ref02_Shift (F : Nat) : ∀ p ∈ joinsIn PP c_ref02_Shift 34, JoinOK PP (S_ref02_Shift F) c_ref02_Shift (I_ref02_Shift F) (J_ref02_Shift F) p :=
  joins_of [] (by kernel_rfl) all_nil
theorem g_ref02_Shift (F : Nat) : Good PP 34 (unS (s_ref02_Shift F)) :=
  fun_spec (hS_ref02_Shift F) (by kernel_rfl) (by kernel_rfl) (C := c_ref02_Shift) (F := fun q => (f_ref02_Shift F (atI (nth q 0)) (atI (nth q 1)))) (fun _ => F) (fun _ => I_ref02_Shift F) (fun _ => J_ref02_Shift F) (fun _ => hl_ref02_Shift F) (fun _ => hj_ref02_Shift F)
    (fun q => (congrArg (funL PP (S_ref02_Shift F) c_ref02_Shift (I_ref02_Shift F) (J_ref02_Shift F) 34) (show (fTs ti_ref02_Shift q).1 = (fTs ti_ref02_Shift [.i (atI (nth q 0)), .i (atI (nth q 1))]).1 by kernel_rfl)).trans (e_ref02_Shift F (atI (nth q 0)) (atI (nth q 1))))
    (fun _ h => (okT_fill h).trans (congrArg some (by kernel_rfl)))

end Go.Xv
set_option linter.unusedVariables false
namespace Go.Xv
/- 12 _ref28_Pull -/
def c_ref28_Pull : Cfg := ⟨[0, 1, 2, 3, 4, 5, 6, 7, 10, 11, 12, 13, 14, 16, 39, 47], [(0, [0, 1, 2, 3, 4, 5, 6, 7, 10, 11, 12, 13, 18, 19, 20, 21, 22, 23, 24, 25, 26, 27, 28, 29, 30, 31, 32, 33, 34, 35, 36, 37, 38, 39, 40, 41, 42, 43, 44, 92])], [], []⟩
def ti_ref28_Pull : List TV := [.v (.agg [.int .i64, .int .i64, .int .i64, .int .i64]), .v (.agg [.int .i64, .int .i64, .int .i64, .int .i64]), .v (.agg [.int .i64, .int .i64, .int .i64]), .v (.int .i64), .v (.int .i64)]
def to_ref28_Pull : TV := .v (.tup [.agg [.int .i64, .int .i64, .int .i64, .int .i64], .int .i64])
def S_ref28_Pull (F : Nat) : FuncId → List VV → Option (Bool × VV) := words [(19, s_ref28_Right F), (34, s_ref02_Shift F), (35, s_ref02_Clamp F), (36, s_ref02_Add F)]
def T_ref28_Pull_0 : TS := ⟨[(0, .v (.agg [.int .i64, .int .i64, .int .i64, .int .i64])), (1, .v (.agg [.int .i64, .int .i64, .int .i64, .int .i64])), (2, .v (.agg [.int .i64, .int .i64, .int .i64])), (3, .v (.int .i64)), (4, .v (.int .i64)), (5, .lp 0 (.lit 0)), (6, .lp 1 (.lit 0)), (7, .lp 2 (.lit 0)), (10, .lp 3 (.lit 0)), (11, .v (.int .i64)), (12, .lp 4 (.lit 0)), (13, .v (.int .i64))], [(0, ⟨(.ex [.v (.int .i64), .v (.int .i64), .v (.int .i64), .v (.int .i64)]), true⟩), (1, ⟨(.ex [.v (.int .i64), .v (.int .i64), .v (.int .i64), .v (.int .i64)]), true⟩), (2, ⟨(.ex [.v (.int .i64), .v (.int .i64), .v (.int .i64)]), true⟩), (3, ⟨(.ex [.v (.int .i64), .v (.int .i64), .v (.int .i64), .v (.int .i64)]), true⟩), (4, ⟨.hole, true⟩)], 5⟩
def T_ref28_Pull_0_0 : TS := ⟨[(0, .v (.agg [.int .i64, .int .i64, .int .i64, .int .i64])), (1, .v (.agg [.int .i64, .int .i64, .int .i64, .int .i64])), (2, .v (.agg [.int .i64, .int .i64, .int .i64])), (3, .v (.int .i64)), (4, .v (.int .i64)), (5, .lp 0 (.lit 0)), (6, .lp 1 (.lit 0)), (7, .lp 2 (.lit 0)), (10, .lp 3 (.lit 0)), (11, .v (.int .i64)), (12, .lp 4 (.lit 0)), (13, .v (.int .i64))], [(0, ⟨(.ex [.v (.int .i64), .v (.int .i64), .v (.int .i64), .v (.int .i64)]), true⟩), (1, ⟨(.ex [.v (.int .i64), .v (.int .i64), .v (.int .i64), .v (.int .i64)]), true⟩), (2, ⟨(.ex [.v (.int .i64), .v (.int .i64), .v (.int .i64)]), true⟩), (3, ⟨(.ex [.v (.int .i64), .v (.int .i64), .v (.int .i64), .v (.int .i64)]), true⟩), (4, ⟨.hole, true⟩)], 5⟩
def B_ref28_Pull_0 (F : Nat) (rc : Int → Int → Int → Int → Int → Int → Int → Int → Int → Int → Int → Int → Int → Int → Int → Int → Int → Int → Int → Int → Int → Int → Int → Int → Int → Int → Int → Int → Int → Int → List VV → R) (ex0 : Int → Int → Int → Int → Int → Int → Int → Int → Int → Int → Int → Int → Int → Int → Int → Int → Int → Int → Int → Int → Int → Int → Int → Int → Int → Int → Int → Int → Int → Int → List VV → R) (x0 : Int) (x1 : Int) (x2 : Int) (x3 : Int) (x4 : Int) (x5 : Int) (x6 : Int) (x7 : Int) (x8 : Int) (x9 : Int) (x10 : Int) (x11 : Int) (x12 : Int) (x13 : Int) (x14 : Int) (x15 : Int) (x16 : Int) (x17 : Int) (x18 : Int) (x19 : Int) (x20 : Int) (x21 : Int) (x22 : Int) (x23 : Int) (x24 : Int) (x25 : Int) (x26 : Int) (x27 : Int) (x28 : Int) (x29 : Int) (x30 : List VV) : R :=
  bif ((decide (x14 < x11))) then (
    bif ((decide (0 ≤ x14)) && (decide (x14 < 3))) then (
      let v3521 : Nat := (0 + ((Int.toNat x14) * 1))
      bif ((isI .i64 [.v (.int .i64 x23), .v (.int .i64 x24), .v (.int .i64 x25)][v3521]?) && true) then (
        let v3522 : Int := (iv [.v (.int .i64 x23), .v (.int .i64 x24), .v (.int .i64 x25)][v3521]?)
        let v3523 : Int := (IntKind.wrap .i64 (0 - x15))
        bif (ok_ref02_Shift F v3522 v3523) then (
          let v3541 : Int := (o_ref02_Shift_0 F v3522 v3523)
          let v3543 : Int := (IntKind.wrap .i64 (0 - x16))
          bif (ok_ref02_Clamp F v3541 v3543 x16) then (
            let v3552 : Int := (o_ref02_Clamp_0 F v3541 v3543 x16)
            bif ((decide (0 ≤ x14)) && (decide (x14 < 3))) then (
              let v3554 : Nat := (0 + ((Int.toNat x14) * 1))
              bif ((isI .i64 [.v (.int .i64 x19), .v (.int .i64 x20), .v (.int .i64 x21), .v (.int .i64 x22)][v3554]?) && true) then (
                let v3555 : Int := (iv [.v (.int .i64 x19), .v (.int .i64 x20), .v (.int .i64 x21), .v (.int .i64 x22)][v3554]?)
                bif (ok_ref02_Add F v3555 v3552) then (
                  let v3564 : Int := (o_ref02_Add_0 F v3555 v3552)
                  let v3566 : Int := (IntKind.wrap .i64 (0 - x17))
                  bif (ok_ref02_Clamp F v3564 v3566 x17) then (
                    bif ((decide (0 ≤ x14)) && (decide (x14 < 3))) then (
                      let v3569 : Nat := (0 + ((Int.toNat x14) * 1))
                      bif (decide ((v3569 + 1) ≤ x30.length)) then (
                        rc x0 x1 x2 x3 x4 x5 x6 x7 x8 x9 x10 x11 x12 x13 ((IntKind.wrap .i64 (x14 + 1))) x15 x16 x17 x18 x19 x20 x21 x22 x23 x24 x25 x26 x27 x28 x29 ((x30.take v3569 ++ [.v (.int .i64 ((o_ref02_Clamp_0 F v3564 v3566 x17)))] ++ x30.drop (v3569 + 1))))
                      else (
                        none))
                    else (
                      none))
                  else (
                    none))
                else (
                  none))
              else (
                none))
            else (
              none))
          else (
            none))
        else (
          none))
      else (
        none))
    else (
      none))
  else (
    ex0 x0 x1 x2 x3 x4 x5 x6 x7 x8 x9 x10 x11 x12 x13 x14 x15 x16 x17 x18 x19 x20 x21 x22 x23 x24 x25 x26 x27 x28 x29 x30)
def L_ref28_Pull_0 (F : Nat) (ex0 : Int → Int → Int → Int → Int → Int → Int → Int → Int → Int → Int → Int → Int → Int → Int → Int → Int → Int → Int → Int → Int → Int → Int → Int → Int → Int → Int → Int → Int → Int → List VV → R) : Nat → Int → Int → Int → Int → Int → Int → Int → Int → Int → Int → Int → Int → Int → Int → Int → Int → Int → Int → Int → Int → Int → Int → Int → Int → Int → Int → Int → Int → Int → Int → List VV → R
  | 0, _, _, _, _, _, _, _, _, _, _, _, _, _, _, _, _, _, _, _, _, _, _, _, _, _, _, _, _, _, _, _ => none
  | n + 1, x0, x1, x2, x3, x4, x5, x6, x7, x8, x9, x10, x11, x12, x13, x14, x15, x16, x17, x18, x19, x20, x21, x22, x23, x24, x25, x26, x27, x28, x29, x30 => B_ref28_Pull_0 F (L_ref28_Pull_0 F ex0 n) ex0 x0 x1 x2 x3 x4 x5 x6 x7 x8 x9 x10 x11 x12 x13 x14 x15 x16 x17 x18 x19 x20 x21 x22 x23 x24 x25 x26 x27 x28 x29 x30
def W_ref28_Pull (F : Nat) : List LW := [⟨0, T_ref28_Pull_0, fun k q => L_ref28_Pull_0 F (fun (z0 : Int) (z1 : Int) (z2 : Int) (z3 : Int) (z4 : Int) (z5 : Int) (z6 : Int) (z7 : Int) (z8 : Int) (z9 : Int) (z10 : Int) (z11 : Int) (z12 : Int) (z13 : Int) (z14 : Int) (z15 : Int) (z16 : Int) (z17 : Int) (z18 : Int) (z19 : Int) (z20 : Int) (z21 : Int) (z22 : Int) (z23 : Int) (z24 : Int) (z25 : Int) (z26 : Int) (z27 : Int) (z28 : Int) (z29 : Int) (z30 : List VV) => k (.exit 0) (fS T_ref28_Pull_0_0 [.i z0, .i z1, .i z2, .i z3, .i z4, .i z5, .i z6, .i z7, .i z8, .i z9, .i z10, .i z11, .i z12, .i z13, .i z14, .i z15, .i z16, .i z17, .i z18, .i z19, .i z20, .i z21, .i z22, .i z23, .i z24, .i z25, .i z26, .i z27, .i z28, .i z29, .c z30])) F (atI (nth q 0)) (atI (nth q 1)) (atI (nth q 2)) (atI (nth q 3)) (atI (nth q 4)) (atI (nth q 5)) (atI (nth q 6)) (atI (nth q 7)) (atI (nth q 8)) (atI (nth q 9)) (atI (nth q 10)) (atI (nth q 11)) (atI (nth q 12)) (atI (nth q 13)) (atI (nth q 14)) (atI (nth q 15)) (atI (nth q 16)) (atI (nth q 17)) (atI (nth q 18)) (atI (nth q 19)) (atI (nth q 20)) (atI (nth q 21)) (atI (nth q 22)) (atI (nth q 23)) (atI (nth q 24)) (atI (nth q 25)) (atI (nth q 26)) (atI (nth q 27)) (atI (nth q 28)) (atI (nth q 29)) (atC (nth q 30))⟩]
def I_ref28_Pull (F : Nat) : Nat → VS → (Exit → VS → R) → R := tabI c_ref28_Pull (W_ref28_Pull F)
def WJ_ref28_Pull (F : Nat) : List LJ := []
def J_ref28_Pull (F : Nat) : Nat → Nat → VS → (Exit → VS → R) → R := tabJ (WJ_ref28_Pull F)
theorem lL_ref28_Pull_0 (F : Nat) (k : Exit → VS → R) : ∀ (n : Nat) (x0 : Int) (x1 : Int) (x2 : Int) (x3 : Int) (x4 : Int) (x5 : Int) (x6 : Int) (x7 : Int) (x8 : Int) (x9 : Int) (x10 : Int) (x11 : Int) (x12 : Int) (x13 : Int) (x14 : Int) (x15 : Int) (x16 : Int) (x17 : Int) (x18 : Int) (x19 : Int) (x20 : Int) (x21 : Int) (x22 : Int) (x23 : Int) (x24 : Int) (x25 : Int) (x26 : Int) (x27 : Int) (x28 : Int) (x29 : Int) (x30 : List VV), iterC (codeL PP (S_ref28_Pull F) c_ref28_Pull (I_ref28_Pull F) (J_ref28_Pull F) (loopAt PP 12 0) 0) (headOf c_ref28_Pull 0) k n (fS T_ref28_Pull_0 [.i x0, .i x1, .i x2, .i x3, .i x4, .i x5, .i x6, .i x7, .i x8, .i x9, .i x10, .i x11, .i x12, .i x13, .i x14, .i x15, .i x16, .i x17, .i x18, .i x19, .i x20, .i x21, .i x22, .i x23, .i x24, .i x25, .i x26, .i x27, .i x28, .i x29, .c x30]) = L_ref28_Pull_0 F (fun (z0 : Int) (z1 : Int) (z2 : Int) (z3 : Int) (z4 : Int) (z5 : Int) (z6 : Int) (z7 : Int) (z8 : Int) (z9 : Int) (z10 : Int) (z11 : Int) (z12 : Int) (z13 : Int) (z14 : Int) (z15 : Int) (z16 : Int) (z17 : Int) (z18 : Int) (z19 : Int) (z20 : Int) (z21 : Int) (z22 : Int) (z23 : Int) (z24 : Int) (z25 : Int) (z26 : Int) (z27 : Int) (z28 : Int) (z29 : Int) (z30 : List VV) => k (.exit 0) (fS T_ref28_Pull_0_0 [.i z0, .i z1, .i z2, .i z3, .i z4, .i z5, .i z6, .i z7, .i z8, .i z9, .i z10, .i z11, .i z12, .i z13, .i z14, .i z15, .i z16, .i z17, .i z18, .i z19, .i z20, .i z21, .i z22, .i z23, .i z24, .i z25, .i z26, .i z27, .i z28, .i z29, .c z30])) n x0 x1 x2 x3 x4 x5 x6 x7 x8 x9 x10 x11 x12 x13 x14 x15 x16 x17 x18 x19 x20 x21 x22 x23 x24 x25 x26 x27 x28 x29 x30
  | 0, _, _, _, _, _, _, _, _, _, _, _, _, _, _, _, _, _, _, _, _, _, _, _, _, _, _, _, _, _, _, _ => rfl
  | n + 1, x0, x1, x2, x3, x4, x5, x6, x7, x8, x9, x10, x11, x12, x13, x14, x15, x16, x17, x18, x19, x20, x21, x22, x23, x24, x25, x26, x27, x28, x29, x30 => by
    have h0 : ∀ (ok_ref28_Right : Nat → Int → Int → Int → Int → Int → Int → Int → Int → Bool) (o_ref28_Right_0 : Nat → Int → Int → Int → Int → Int → Int → Int → Int → Int) (ok_ref02_Shift : Nat → Int → Int → Bool) (o_ref02_Shift_0 : Nat → Int → Int → Int) (o_ref02_Shift_1 : Nat → Int → Int → Bool) (ok_ref02_Clamp : Nat → Int → Int → Int → Bool) (o_ref02_Clamp_0 : Nat → Int → Int → Int → Int) (o_ref02_Clamp_1 : Nat → Int → Int → Int → Bool) (ok_ref02_Add : Nat → Int → Int → Bool) (o_ref02_Add_0 : Nat → Int → Int → Int) (o_ref02_Add_1 : Nat → Int → Int → Bool) (L_ref28_Pull_0 : Nat → (Int → Int → Int → Int → Int → Int → Int → Int → Int → Int → Int → Int → Int → Int → Int → Int → Int → Int → Int → Int → Int → Int → Int → Int → Int → Int → Int → Int → Int → Int → List VV → R) → Nat → Int → Int → Int → Int → Int → Int → Int → Int → Int → Int → Int → Int → Int → Int → Int → Int → Int → Int → Int → Int → Int → Int → Int → Int → Int → Int → Int → Int → Int → Int → List VV → R), iterC (codeL PP (words [(19, spec ti_ref28_Right to_ref28_Right (fun q => (ok_ref28_Right F (atI (nth q 0)) (atI (nth q 1)) (atI (nth q 2)) (atI (nth q 3)) (atI (nth q 4)) (atI (nth q 5)) (atI (nth q 6)) (atI (nth q 7)))) (fun q => [.i (o_ref28_Right_0 F (atI (nth q 0)) (atI (nth q 1)) (atI (nth q 2)) (atI (nth q 3)) (atI (nth q 4)) (atI (nth q 5)) (atI (nth q 6)) (atI (nth q 7)))])), (34, spec ti_ref02_Shift to_ref02_Shift (fun q => (ok_ref02_Shift F (atI (nth q 0)) (atI (nth q 1)))) (fun q => [.i (o_ref02_Shift_0 F (atI (nth q 0)) (atI (nth q 1))), .b (o_ref02_Shift_1 F (atI (nth q 0)) (atI (nth q 1)))])), (35, spec ti_ref02_Clamp to_ref02_Clamp (fun q => (ok_ref02_Clamp F (atI (nth q 0)) (atI (nth q 1)) (atI (nth q 2)))) (fun q => [.i (o_ref02_Clamp_0 F (atI (nth q 0)) (atI (nth q 1)) (atI (nth q 2))), .b (o_ref02_Clamp_1 F (atI (nth q 0)) (atI (nth q 1)) (atI (nth q 2)))])), (36, spec ti_ref02_Add to_ref02_Add (fun q => (ok_ref02_Add F (atI (nth q 0)) (atI (nth q 1)))) (fun q => [.i (o_ref02_Add_0 F (atI (nth q 0)) (atI (nth q 1))), .b (o_ref02_Add_1 F (atI (nth q 0)) (atI (nth q 1)))]))]) c_ref28_Pull (tabI c_ref28_Pull [⟨0, T_ref28_Pull_0, fun k q => L_ref28_Pull_0 F (fun (z0 : Int) (z1 : Int) (z2 : Int) (z3 : Int) (z4 : Int) (z5 : Int) (z6 : Int) (z7 : Int) (z8 : Int) (z9 : Int) (z10 : Int) (z11 : Int) (z12 : Int) (z13 : Int) (z14 : Int) (z15 : Int) (z16 : Int) (z17 : Int) (z18 : Int) (z19 : Int) (z20 : Int) (z21 : Int) (z22 : Int) (z23 : Int) (z24 : Int) (z25 : Int) (z26 : Int) (z27 : Int) (z28 : Int) (z29 : Int) (z30 : List VV) => k (.exit 0) (fS T_ref28_Pull_0_0 [.i z0, .i z1, .i z2, .i z3, .i z4, .i z5, .i z6, .i z7, .i z8, .i z9, .i z10, .i z11, .i z12, .i z13, .i z14, .i z15, .i z16, .i z17, .i z18, .i z19, .i z20, .i z21, .i z22, .i z23, .i z24, .i z25, .i z26, .i z27, .i z28, .i z29, .c z30])) F (atI (nth q 0)) (atI (nth q 1)) (atI (nth q 2)) (atI (nth q 3)) (atI (nth q 4)) (atI (nth q 5)) (atI (nth q 6)) (atI (nth q 7)) (atI (nth q 8)) (atI (nth q 9)) (atI (nth q 10)) (atI (nth q 11)) (atI (nth q 12)) (atI (nth q 13)) (atI (nth q 14)) (atI (nth q 15)) (atI (nth q 16)) (atI (nth q 17)) (atI (nth q 18)) (atI (nth q 19)) (atI (nth q 20)) (atI (nth q 21)) (atI (nth q 22)) (atI (nth q 23)) (atI (nth q 24)) (atI (nth q 25)) (atI (nth q 26)) (atI (nth q 27)) (atI (nth q 28)) (atI (nth q 29)) (atC (nth q 30))⟩]) (tabJ []) (loopAt PP 12 0) 0) (headOf c_ref28_Pull 0) k (n + 1) (fS T_ref28_Pull_0 [.i x0, .i x1, .i x2, .i x3, .i x4, .i x5, .i x6, .i x7, .i x8, .i x9, .i x10, .i x11, .i x12, .i x13, .i x14, .i x15, .i x16, .i x17, .i x18, .i x19, .i x20, .i x21, .i x22, .i x23, .i x24, .i x25, .i x26, .i x27, .i x28, .i x29, .c x30]) = (fun (rc : Int → Int → Int → Int → Int → Int → Int → Int → Int → Int → Int → Int → Int → Int → Int → Int → Int → Int → Int → Int → Int → Int → Int → Int → Int → Int → Int → Int → Int → Int → List VV → R) (ex0 : Int → Int → Int → Int → Int → Int → Int → Int → Int → Int → Int → Int → Int → Int → Int → Int → Int → Int → Int → Int → Int → Int → Int → Int → Int → Int → Int → Int → Int → Int → List VV → R) (x0 : Int) (x1 : Int) (x2 : Int) (x3 : Int) (x4 : Int) (x5 : Int) (x6 : Int) (x7 : Int) (x8 : Int) (x9 : Int) (x10 : Int) (x11 : Int) (x12 : Int) (x13 : Int) (x14 : Int) (x15 : Int) (x16 : Int) (x17 : Int) (x18 : Int) (x19 : Int) (x20 : Int) (x21 : Int) (x22 : Int) (x23 : Int) (x24 : Int) (x25 : Int) (x26 : Int) (x27 : Int) (x28 : Int) (x29 : Int) (x30 : List VV) => (
  bif ((decide (x14 < x11))) then (
    bif ((decide (0 ≤ x14)) && (decide (x14 < 3))) then (
      let v3521 : Nat := (0 + ((Int.toNat x14) * 1))
      bif ((isI .i64 [.v (.int .i64 x23), .v (.int .i64 x24), .v (.int .i64 x25)][v3521]?) && true) then (
        let v3522 : Int := (iv [.v (.int .i64 x23), .v (.int .i64 x24), .v (.int .i64 x25)][v3521]?)
        let v3523 : Int := (IntKind.wrap .i64 (0 - x15))
        bif (ok_ref02_Shift F v3522 v3523) then (
          let v3541 : Int := (o_ref02_Shift_0 F v3522 v3523)
          let v3543 : Int := (IntKind.wrap .i64 (0 - x16))
          bif (ok_ref02_Clamp F v3541 v3543 x16) then (
            let v3552 : Int := (o_ref02_Clamp_0 F v3541 v3543 x16)
            bif ((decide (0 ≤ x14)) && (decide (x14 < 3))) then (
              let v3554 : Nat := (0 + ((Int.toNat x14) * 1))
              bif ((isI .i64 [.v (.int .i64 x19), .v (.int .i64 x20), .v (.int .i64 x21), .v (.int .i64 x22)][v3554]?) && true) then (
                let v3555 : Int := (iv [.v (.int .i64 x19), .v (.int .i64 x20), .v (.int .i64 x21), .v (.int .i64 x22)][v3554]?)
                bif (ok_ref02_Add F v3555 v3552) then (
                  let v3564 : Int := (o_ref02_Add_0 F v3555 v3552)
                  let v3566 : Int := (IntKind.wrap .i64 (0 - x17))
                  bif (ok_ref02_Clamp F v3564 v3566 x17) then (
                    bif ((decide (0 ≤ x14)) && (decide (x14 < 3))) then (
                      let v3569 : Nat := (0 + ((Int.toNat x14) * 1))
                      bif (decide ((v3569 + 1) ≤ x30.length)) then (
                        rc x0 x1 x2 x3 x4 x5 x6 x7 x8 x9 x10 x11 x12 x13 ((IntKind.wrap .i64 (x14 + 1))) x15 x16 x17 x18 x19 x20 x21 x22 x23 x24 x25 x26 x27 x28 x29 ((x30.take v3569 ++ [.v (.int .i64 ((o_ref02_Clamp_0 F v3564 v3566 x17)))] ++ x30.drop (v3569 + 1))))
                      else (
                        none))
                    else (
                      none))
                  else (
                    none))
                else (
                  none))
              else (
                none))
            else (
              none))
          else (
            none))
        else (
          none))
      else (
        none))
    else (
      none))
  else (
    ex0 x0 x1 x2 x3 x4 x5 x6 x7 x8 x9 x10 x11 x12 x13 x14 x15 x16 x17 x18 x19 x20 x21 x22 x23 x24 x25 x26 x27 x28 x29 x30) : R)) (fun (y0 : Int) (y1 : Int) (y2 : Int) (y3 : Int) (y4 : Int) (y5 : Int) (y6 : Int) (y7 : Int) (y8 : Int) (y9 : Int) (y10 : Int) (y11 : Int) (y12 : Int) (y13 : Int) (y14 : Int) (y15 : Int) (y16 : Int) (y17 : Int) (y18 : Int) (y19 : Int) (y20 : Int) (y21 : Int) (y22 : Int) (y23 : Int) (y24 : Int) (y25 : Int) (y26 : Int) (y27 : Int) (y28 : Int) (y29 : Int) (y30 : List VV) => iterC (codeL PP (words [(19, spec ti_ref28_Right to_ref28_Right (fun q => (ok_ref28_Right F (atI (nth q 0)) (atI (nth q 1)) (atI (nth q 2)) (atI (nth q 3)) (atI (nth q 4)) (atI (nth q 5)) (atI (nth q 6)) (atI (nth q 7)))) (fun q => [.i (o_ref28_Right_0 F (atI (nth q 0)) (atI (nth q 1)) (atI (nth q 2)) (atI (nth q 3)) (atI (nth q 4)) (atI (nth q 5)) (atI (nth q 6)) (atI (nth q 7)))])), (34, spec ti_ref02_Shift to_ref02_Shift (fun q => (ok_ref02_Shift F (atI (nth q 0)) (atI (nth q 1)))) (fun q => [.i (o_ref02_Shift_0 F (atI (nth q 0)) (atI (nth q 1))), .b (o_ref02_Shift_1 F (atI (nth q 0)) (atI (nth q 1)))])), (35, spec ti_ref02_Clamp to_ref02_Clamp (fun q => (ok_ref02_Clamp F (atI (nth q 0)) (atI (nth q 1)) (atI (nth q 2)))) (fun q => [.i (o_ref02_Clamp_0 F (atI (nth q 0)) (atI (nth q 1)) (atI (nth q 2))), .b (o_ref02_Clamp_1 F (atI (nth q 0)) (atI (nth q 1)) (atI (nth q 2)))])), (36, spec ti_ref02_Add to_ref02_Add (fun q => (ok_ref02_Add F (atI (nth q 0)) (atI (nth q 1)))) (fun q => [.i (o_ref02_Add_0 F (atI (nth q 0)) (atI (nth q 1))), .b (o_ref02_Add_1 F (atI (nth q 0)) (atI (nth q 1)))]))]) c_ref28_Pull (tabI c_ref28_Pull [⟨0, T_ref28_Pull_0, fun k q => L_ref28_Pull_0 F (fun (z0 : Int) (z1 : Int) (z2 : Int) (z3 : Int) (z4 : Int) (z5 : Int) (z6 : Int) (z7 : Int) (z8 : Int) (z9 : Int) (z10 : Int) (z11 : Int) (z12 : Int) (z13 : Int) (z14 : Int) (z15 : Int) (z16 : Int) (z17 : Int) (z18 : Int) (z19 : Int) (z20 : Int) (z21 : Int) (z22 : Int) (z23 : Int) (z24 : Int) (z25 : Int) (z26 : Int) (z27 : Int) (z28 : Int) (z29 : Int) (z30 : List VV) => k (.exit 0) (fS T_ref28_Pull_0_0 [.i z0, .i z1, .i z2, .i z3, .i z4, .i z5, .i z6, .i z7, .i z8, .i z9, .i z10, .i z11, .i z12, .i z13, .i z14, .i z15, .i z16, .i z17, .i z18, .i z19, .i z20, .i z21, .i z22, .i z23, .i z24, .i z25, .i z26, .i z27, .i z28, .i z29, .c z30])) F (atI (nth q 0)) (atI (nth q 1)) (atI (nth q 2)) (atI (nth q 3)) (atI (nth q 4)) (atI (nth q 5)) (atI (nth q 6)) (atI (nth q 7)) (atI (nth q 8)) (atI (nth q 9)) (atI (nth q 10)) (atI (nth q 11)) (atI (nth q 12)) (atI (nth q 13)) (atI (nth q 14)) (atI (nth q 15)) (atI (nth q 16)) (atI (nth q 17)) (atI (nth q 18)) (atI (nth q 19)) (atI (nth q 20)) (atI (nth q 21)) (atI (nth q 22)) (atI (nth q 23)) (atI (nth q 24)) (atI (nth q 25)) (atI (nth q 26)) (atI (nth q 27)) (atI (nth q 28)) (atI (nth q 29)) (atC (nth q 30))⟩]) (tabJ []) (loopAt PP 12 0) 0) (headOf c_ref28_Pull 0) k n (fS T_ref28_Pull_0 [.i y0, .i y1, .i y2, .i y3, .i y4, .i y5, .i y6, .i y7, .i y8, .i y9, .i y10, .i y11, .i y12, .i y13, .i y14, .i y15, .i y16, .i y17, .i y18, .i y19, .i y20, .i y21, .i y22, .i y23, .i y24, .i y25, .i y26, .i y27, .i y28, .i y29, .c y30])) (fun (z0 : Int) (z1 : Int) (z2 : Int) (z3 : Int) (z4 : Int) (z5 : Int) (z6 : Int) (z7 : Int) (z8 : Int) (z9 : Int) (z10 : Int) (z11 : Int) (z12 : Int) (z13 : Int) (z14 : Int) (z15 : Int) (z16 : Int) (z17 : Int) (z18 : Int) (z19 : Int) (z20 : Int) (z21 : Int) (z22 : Int) (z23 : Int) (z24 : Int) (z25 : Int) (z26 : Int) (z27 : Int) (z28 : Int) (z29 : Int) (z30 : List VV) => k (.exit 0) (fS T_ref28_Pull_0_0 [.i z0, .i z1, .i z2, .i z3, .i z4, .i z5, .i z6, .i z7, .i z8, .i z9, .i z10, .i z11, .i z12, .i z13, .i z14, .i z15, .i z16, .i z17, .i z18, .i z19, .i z20, .i z21, .i z22, .i z23, .i z24, .i z25, .i z26, .i z27, .i z28, .i z29, .c z30])) x0 x1 x2 x3 x4 x5 x6 x7 x8 x9 x10 x11 x12 x13 x14 x15 x16 x17 x18 x19 x20 x21 x22 x23 x24 x25 x26 x27 x28 x29 x30 := by
      intros
      kernel_rfl
    have h : iterC (codeL PP (S_ref28_Pull F) c_ref28_Pull (I_ref28_Pull F) (J_ref28_Pull F) (loopAt PP 12 0) 0) (headOf c_ref28_Pull 0) k (n + 1) (fS T_ref28_Pull_0 [.i x0, .i x1, .i x2, .i x3, .i x4, .i x5, .i x6, .i x7, .i x8, .i x9, .i x10, .i x11, .i x12, .i x13, .i x14, .i x15, .i x16, .i x17, .i x18, .i x19, .i x20, .i x21, .i x22, .i x23, .i x24, .i x25, .i x26, .i x27, .i x28, .i x29, .c x30]) = B_ref28_Pull_0 F (fun (y0 : Int) (y1 : Int) (y2 : Int) (y3 : Int) (y4 : Int) (y5 : Int) (y6 : Int) (y7 : Int) (y8 : Int) (y9 : Int) (y10 : Int) (y11 : Int) (y12 : Int) (y13 : Int) (y14 : Int) (y15 : Int) (y16 : Int) (y17 : Int) (y18 : Int) (y19 : Int) (y20 : Int) (y21 : Int) (y22 : Int) (y23 : Int) (y24 : Int) (y25 : Int) (y26 : Int) (y27 : Int) (y28 : Int) (y29 : Int) (y30 : List VV) => iterC (codeL PP (S_ref28_Pull F) c_ref28_Pull (I_ref28_Pull F) (J_ref28_Pull F) (loopAt PP 12 0) 0) (headOf c_ref28_Pull 0) k n (fS T_ref28_Pull_0 [.i y0, .i y1, .i y2, .i y3, .i y4, .i y5, .i y6, .i y7, .i y8, .i y9, .i y10, .i y11, .i y12, .i y13, .i y14, .i y15, .i y16, .i y17, .i y18, .i y19, .i y20, .i y21, .i y22, .i y23, .i y24, .i y25, .i y26, .i y27, .i y28, .i y29, .c y30])) (fun (z0 : Int) (z1 : Int) (z2 : Int) (z3 : Int) (z4 : Int) (z5 : Int) (z6 : Int) (z7 : Int) (z8 : Int) (z9 : Int) (z10 : Int) (z11 : Int) (z12 : Int) (z13 : Int) (z14 : Int) (z15 : Int) (z16 : Int) (z17 : Int) (z18 : Int) (z19 : Int) (z20 : Int) (z21 : Int) (z22 : Int) (z23 : Int) (z24 : Int) (z25 : Int) (z26 : Int) (z27 : Int) (z28 : Int) (z29 : Int) (z30 : List VV) => k (.exit 0) (fS T_ref28_Pull_0_0 [.i z0, .i z1, .i z2, .i z3, .i z4, .i z5, .i z6, .i z7, .i z8, .i z9, .i z10, .i z11, .i z12, .i z13, .i z14, .i z15, .i z16, .i z17, .i z18, .i z19, .i z20, .i z21, .i z22, .i z23, .i z24, .i z25, .i z26, .i z27, .i z28, .i z29, .c z30])) x0 x1 x2 x3 x4 x5 x6 x7 x8 x9 x10 x11 x12 x13 x14 x15 x16 x17 x18 x19 x20 x21 x22 x23 x24 x25 x26 x27 x28 x29 x30 := (h0 ok_ref28_Right o_ref28_Right_0 ok_ref02_Shift o_ref02_Shift_0 o_ref02_Shift_1 ok_ref02_Clamp o_ref02_Clamp_0 o_ref02_Clamp_1 ok_ref02_Add o_ref02_Add_0 o_ref02_Add_1 L_ref28_Pull_0).trans (by kernel_rfl)
    rw [h]
    simp only [lL_ref28_Pull_0 F k n]
    rfl
def f_ref28_Pull (F : Nat) (a0 : Int) (a1 : Int) (a2 : Int) (a3 : Int) (a4 : Int) (a5 : Int) (a6 : Int) (a7 : Int) (a8 : Int) (a9 : Int) (a10 : Int) (a11 : Int) (a12 : Int) : R :=
  bif (ok_ref28_Right F a0 a1 a2 a3 a4 a5 a6 a7) then (
    bif ((((o_ref28_Right_0 F a0 a1 a2 a3 a4 a5 a6 a7)) != 0)) then (
      some (.v (.tuple #[.agg #[.int .i64 0, .int .i64 0, .int .i64 0, .int .i64 0], .int .i64 2])))
    else (
      bif ((decide (a11 < 0))) then (
        some (.v (.tuple #[.agg #[.int .i64 0, .int .i64 0, .int .i64 0, .int .i64 0], .int .i64 2])))
      else (
        bif ((decide (a11 > 3))) then (
          some (.v (.tuple #[.agg #[.int .i64 0, .int .i64 0, .int .i64 0, .int .i64 0], .int .i64 2])))
        else (
          bif ((decide (a12 < a7))) then (
            some (.v (.tuple #[.agg #[.int .i64 0, .int .i64 0, .int .i64 0, .int .i64 0], .int .i64 2])))
          else (
            bif ((decide (a12 > 1099511627776))) then (
              some (.v (.tuple #[.agg #[.int .i64 0, .int .i64 0, .int .i64 0, .int .i64 0], .int .i64 2])))
            else (
              L_ref28_Pull_0 F (fun (v3572 : Int) (v3573 : Int) (v3574 : Int) (v3575 : Int) (v3576 : Int) (v3577 : Int) (v3578 : Int) (v3579 : Int) (v3580 : Int) (v3581 : Int) (v3582 : Int) (v3583 : Int) (v3584 : Int) (v3585 : Int) (v3586 : Int) (v3587 : Int) (v3588 : Int) (v3589 : Int) (v3590 : Int) (v3591 : Int) (v3592 : Int) (v3593 : Int) (v3594 : Int) (v3595 : Int) (v3596 : Int) (v3597 : Int) (v3598 : Int) (v3599 : Int) (v3600 : Int) (v3601 : Int) (v3602 : List VV) =>
                bif ((isI .i64 v3602[0]?) && ((isI .i64 v3602[1]?) && ((isI .i64 v3602[2]?) && ((isI .i64 v3602[3]?) && true)))) then (
                  some (.v (.tuple #[.agg #[.int .i64 ((iv v3602[0]?)), .int .i64 ((iv v3602[1]?)), .int .i64 ((iv v3602[2]?)), .int .i64 ((iv v3602[3]?))], .int .i64 0])))
                else (
                  none)) F a0 a1 a2 a3 a4 a5 a6 a7 a8 a9 a10 a11 a12 0 0 a0 a1 a2 a3 a4 a5 a6 a7 a8 a9 a10 0 0 0 0 ([.v (.int .i64 a4), .v (.int .i64 a5), .v (.int .i64 a6), .v (.int .i64 a12)])))))))
  else (
    none)
theorem e_ref28_Pull (F : Nat) (a0 : Int) (a1 : Int) (a2 : Int) (a3 : Int) (a4 : Int) (a5 : Int) (a6 : Int) (a7 : Int) (a8 : Int) (a9 : Int) (a10 : Int) (a11 : Int) (a12 : Int) : funL PP (S_ref28_Pull F) c_ref28_Pull (I_ref28_Pull F) (J_ref28_Pull F) 12 (fTs ti_ref28_Pull [.i a0, .i a1, .i a2, .i a3, .i a4, .i a5, .i a6, .i a7, .i a8, .i a9, .i a10, .i a11, .i a12]).1 = f_ref28_Pull F a0 a1 a2 a3 a4 a5 a6 a7 a8 a9 a10 a11 a12 := by
  have h : ∀ (ok_ref28_Right : Nat → Int → Int → Int → Int → Int → Int → Int → Int → Bool) (o_ref28_Right_0 : Nat → Int → Int → Int → Int → Int → Int → Int → Int → Int) (ok_ref02_Shift : Nat → Int → Int → Bool) (o_ref02_Shift_0 : Nat → Int → Int → Int) (o_ref02_Shift_1 : Nat → Int → Int → Bool) (ok_ref02_Clamp : Nat → Int → Int → Int → Bool) (o_ref02_Clamp_0 : Nat → Int → Int → Int → Int) (o_ref02_Clamp_1 : Nat → Int → Int → Int → Bool) (ok_ref02_Add : Nat → Int → Int → Bool) (o_ref02_Add_0 : Nat → Int → Int → Int) (o_ref02_Add_1 : Nat → Int → Int → Bool) (L_ref28_Pull_0 : Nat → (Int → Int → Int → Int → Int → Int → Int → Int → Int → Int → Int → Int → Int → Int → Int → Int → Int → Int → Int → Int → Int → Int → Int → Int → Int → Int → Int → Int → Int → Int → List VV → R) → Nat → Int → Int → Int → Int → Int → Int → Int → Int → Int → Int → Int → Int → Int → Int → Int → Int → Int → Int → Int → Int → Int → Int → Int → Int → Int → Int → Int → Int → Int → Int → List VV → R), funL PP (words [(19, spec ti_ref28_Right to_ref28_Right (fun q => (ok_ref28_Right F (atI (nth q 0)) (atI (nth q 1)) (atI (nth q 2)) (atI (nth q 3)) (atI (nth q 4)) (atI (nth q 5)) (atI (nth q 6)) (atI (nth q 7)))) (fun q => [.i (o_ref28_Right_0 F (atI (nth q 0)) (atI (nth q 1)) (atI (nth q 2)) (atI (nth q 3)) (atI (nth q 4)) (atI (nth q 5)) (atI (nth q 6)) (atI (nth q 7)))])), (34, spec ti_ref02_Shift to_ref02_Shift (fun q => (ok_ref02_Shift F (atI (nth q 0)) (atI (nth q 1)))) (fun q => [.i (o_ref02_Shift_0 F (atI (nth q 0)) (atI (nth q 1))), .b (o_ref02_Shift_1 F (atI (nth q 0)) (atI (nth q 1)))])), (35, spec ti_ref02_Clamp to_ref02_Clamp (fun q => (ok_ref02_Clamp F (atI (nth q 0)) (atI (nth q 1)) (atI (nth q 2)))) (fun q => [.i (o_ref02_Clamp_0 F (atI (nth q 0)) (atI (nth q 1)) (atI (nth q 2))), .b (o_ref02_Clamp_1 F (atI (nth q 0)) (atI (nth q 1)) (atI (nth q 2)))])), (36, spec ti_ref02_Add to_ref02_Add (fun q => (ok_ref02_Add F (atI (nth q 0)) (atI (nth q 1)))) (fun q => [.i (o_ref02_Add_0 F (atI (nth q 0)) (atI (nth q 1))), .b (o_ref02_Add_1 F (atI (nth q 0)) (atI (nth q 1)))]))]) c_ref28_Pull (tabI c_ref28_Pull [⟨0, T_ref28_Pull_0, fun k q => L_ref28_Pull_0 F (fun (z0 : Int) (z1 : Int) (z2 : Int) (z3 : Int) (z4 : Int) (z5 : Int) (z6 : Int) (z7 : Int) (z8 : Int) (z9 : Int) (z10 : Int) (z11 : Int) (z12 : Int) (z13 : Int) (z14 : Int) (z15 : Int) (z16 : Int) (z17 : Int) (z18 : Int) (z19 : Int) (z20 : Int) (z21 : Int) (z22 : Int) (z23 : Int) (z24 : Int) (z25 : Int) (z26 : Int) (z27 : Int) (z28 : Int) (z29 : Int) (z30 : List VV) => k (.exit 0) (fS T_ref28_Pull_0_0 [.i z0, .i z1, .i z2, .i z3, .i z4, .i z5, .i z6, .i z7, .i z8, .i z9, .i z10, .i z11, .i z12, .i z13, .i z14, .i z15, .i z16, .i z17, .i z18, .i z19, .i z20, .i z21, .i z22, .i z23, .i z24, .i z25, .i z26, .i z27, .i z28, .i z29, .c z30])) F (atI (nth q 0)) (atI (nth q 1)) (atI (nth q 2)) (atI (nth q 3)) (atI (nth q 4)) (atI (nth q 5)) (atI (nth q 6)) (atI (nth q 7)) (atI (nth q 8)) (atI (nth q 9)) (atI (nth q 10)) (atI (nth q 11)) (atI (nth q 12)) (atI (nth q 13)) (atI (nth q 14)) (atI (nth q 15)) (atI (nth q 16)) (atI (nth q 17)) (atI (nth q 18)) (atI (nth q 19)) (atI (nth q 20)) (atI (nth q 21)) (atI (nth q 22)) (atI (nth q 23)) (atI (nth q 24)) (atI (nth q 25)) (atI (nth q 26)) (atI (nth q 27)) (atI (nth q 28)) (atI (nth q 29)) (atC (nth q 30))⟩]) (tabJ []) 12 (fTs ti_ref28_Pull [.i a0, .i a1, .i a2, .i a3, .i a4, .i a5, .i a6, .i a7, .i a8, .i a9, .i a10, .i a11, .i a12]).1 = (
  bif (ok_ref28_Right F a0 a1 a2 a3 a4 a5 a6 a7) then (
    bif ((((o_ref28_Right_0 F a0 a1 a2 a3 a4 a5 a6 a7)) != 0)) then (
      some (.v (.tuple #[.agg #[.int .i64 0, .int .i64 0, .int .i64 0, .int .i64 0], .int .i64 2])))
    else (
      bif ((decide (a11 < 0))) then (
        some (.v (.tuple #[.agg #[.int .i64 0, .int .i64 0, .int .i64 0, .int .i64 0], .int .i64 2])))
      else (
        bif ((decide (a11 > 3))) then (
          some (.v (.tuple #[.agg #[.int .i64 0, .int .i64 0, .int .i64 0, .int .i64 0], .int .i64 2])))
        else (
          bif ((decide (a12 < a7))) then (
            some (.v (.tuple #[.agg #[.int .i64 0, .int .i64 0, .int .i64 0, .int .i64 0], .int .i64 2])))
          else (
            bif ((decide (a12 > 1099511627776))) then (
              some (.v (.tuple #[.agg #[.int .i64 0, .int .i64 0, .int .i64 0, .int .i64 0], .int .i64 2])))
            else (
              L_ref28_Pull_0 F (fun (v3572 : Int) (v3573 : Int) (v3574 : Int) (v3575 : Int) (v3576 : Int) (v3577 : Int) (v3578 : Int) (v3579 : Int) (v3580 : Int) (v3581 : Int) (v3582 : Int) (v3583 : Int) (v3584 : Int) (v3585 : Int) (v3586 : Int) (v3587 : Int) (v3588 : Int) (v3589 : Int) (v3590 : Int) (v3591 : Int) (v3592 : Int) (v3593 : Int) (v3594 : Int) (v3595 : Int) (v3596 : Int) (v3597 : Int) (v3598 : Int) (v3599 : Int) (v3600 : Int) (v3601 : Int) (v3602 : List VV) =>
                bif ((isI .i64 v3602[0]?) && ((isI .i64 v3602[1]?) && ((isI .i64 v3602[2]?) && ((isI .i64 v3602[3]?) && true)))) then (
                  some (.v (.tuple #[.agg #[.int .i64 ((iv v3602[0]?)), .int .i64 ((iv v3602[1]?)), .int .i64 ((iv v3602[2]?)), .int .i64 ((iv v3602[3]?))], .int .i64 0])))
                else (
                  none)) F a0 a1 a2 a3 a4 a5 a6 a7 a8 a9 a10 a11 a12 0 0 a0 a1 a2 a3 a4 a5 a6 a7 a8 a9 a10 0 0 0 0 ([.v (.int .i64 a4), .v (.int .i64 a5), .v (.int .i64 a6), .v (.int .i64 a12)])))))))
  else (
    none) : R) := by
    intros
    kernel_rfl
  exact (h ok_ref28_Right o_ref28_Right_0 ok_ref02_Shift o_ref02_Shift_0 o_ref02_Shift_1 ok_ref02_Clamp o_ref02_Clamp_0 o_ref02_Clamp_1 ok_ref02_Add o_ref02_Add_0 o_ref02_Add_1 L_ref28_Pull_0).trans (by kernel_rfl)
def ok_ref28_Pull (F : Nat) (a0 : Int) (a1 : Int) (a2 : Int) (a3 : Int) (a4 : Int) (a5 : Int) (a6 : Int) (a7 : Int) (a8 : Int) (a9 : Int) (a10 : Int) (a11 : Int) (a12 : Int) : Bool := okT to_ref28_Pull (f_ref28_Pull F a0 a1 a2 a3 a4 a5 a6 a7 a8 a9 a10 a11 a12)
def o_ref28_Pull_0 (F : Nat) (a0 : Int) (a1 : Int) (a2 : Int) (a3 : Int) (a4 : Int) (a5 : Int) (a6 : Int) (a7 : Int) (a8 : Int) (a9 : Int) (a10 : Int) (a11 : Int) (a12 : Int) : Int := atI (nth (outT to_ref28_Pull (f_ref28_Pull F a0 a1 a2 a3 a4 a5 a6 a7 a8 a9 a10 a11 a12)) 0)
def o_ref28_Pull_1 (F : Nat) (a0 : Int) (a1 : Int) (a2 : Int) (a3 : Int) (a4 : Int) (a5 : Int) (a6 : Int) (a7 : Int) (a8 : Int) (a9 : Int) (a10 : Int) (a11 : Int) (a12 : Int) : Int := atI (nth (outT to_ref28_Pull (f_ref28_Pull F a0 a1 a2 a3 a4 a5 a6 a7 a8 a9 a10 a11 a12)) 1)
def o_ref28_Pull_2 (F : Nat) (a0 : Int) (a1 : Int) (a2 : Int) (a3 : Int) (a4 : Int) (a5 : Int) (a6 : Int) (a7 : Int) (a8 : Int) (a9 : Int) (a10 : Int) (a11 : Int) (a12 : Int) : Int := atI (nth (outT to_ref28_Pull (f_ref28_Pull F a0 a1 a2 a3 a4 a5 a6 a7 a8 a9 a10 a11 a12)) 2)
def o_ref28_Pull_3 (F : Nat) (a0 : Int) (a1 : Int) (a2 : Int) (a3 : Int) (a4 : Int) (a5 : Int) (a6 : Int) (a7 : Int) (a8 : Int) (a9 : Int) (a10 : Int) (a11 : Int) (a12 : Int) : Int := atI (nth (outT to_ref28_Pull (f_ref28_Pull F a0 a1 a2 a3 a4 a5 a6 a7 a8 a9 a10 a11 a12)) 3)
def o_ref28_Pull_4 (F : Nat) (a0 : Int) (a1 : Int) (a2 : Int) (a3 : Int) (a4 : Int) (a5 : Int) (a6 : Int) (a7 : Int) (a8 : Int) (a9 : Int) (a10 : Int) (a11 : Int) (a12 : Int) : Int := atI (nth (outT to_ref28_Pull (f_ref28_Pull F a0 a1 a2 a3 a4 a5 a6 a7 a8 a9 a10 a11 a12)) 4)
theorem k_ref28_Pull (F : Nat) (a0 : Int) (a1 : Int) (a2 : Int) (a3 : Int) (a4 : Int) (a5 : Int) (a6 : Int) (a7 : Int) (a8 : Int) (a9 : Int) (a10 : Int) (a11 : Int) (a12 : Int) {z0 : Int} {z1 : Int} {z2 : Int} {z3 : Int} {z4 : Int} (h : f_ref28_Pull F a0 a1 a2 a3 a4 a5 a6 a7 a8 a9 a10 a11 a12 = some (.v (.tuple #[.agg #[.int .i64 z0, .int .i64 z1, .int .i64 z2, .int .i64 z3], .int .i64 z4]))) : ok_ref28_Pull F a0 a1 a2 a3 a4 a5 a6 a7 a8 a9 a10 a11 a12 = true ∧ o_ref28_Pull_0 F a0 a1 a2 a3 a4 a5 a6 a7 a8 a9 a10 a11 a12 = z0 ∧ o_ref28_Pull_1 F a0 a1 a2 a3 a4 a5 a6 a7 a8 a9 a10 a11 a12 = z1 ∧ o_ref28_Pull_2 F a0 a1 a2 a3 a4 a5 a6 a7 a8 a9 a10 a11 a12 = z2 ∧ o_ref28_Pull_3 F a0 a1 a2 a3 a4 a5 a6 a7 a8 a9 a10 a11 a12 = z3 ∧ o_ref28_Pull_4 F a0 a1 a2 a3 a4 a5 a6 a7 a8 a9 a10 a11 a12 = z4 := by
  refine ⟨?_, ?_, ?_, ?_, ?_, ?_⟩
  · unfold ok_ref28_Pull; rw [h]; kernel_rfl
  · unfold o_ref28_Pull_0; rw [h]; kernel_rfl
  · unfold o_ref28_Pull_1; rw [h]; kernel_rfl
  · unfold o_ref28_Pull_2; rw [h]; kernel_rfl
  · unfold o_ref28_Pull_3; rw [h]; kernel_rfl
  · unfold o_ref28_Pull_4; rw [h]; kernel_rfl
def s_ref28_Pull (F : Nat) : List VV → Option (Bool × VV) := spec ti_ref28_Pull to_ref28_Pull (fun q => (ok_ref28_Pull F (atI (nth q 0)) (atI (nth q 1)) (atI (nth q 2)) (atI (nth q 3)) (atI (nth q 4)) (atI (nth q 5)) (atI (nth q 6)) (atI (nth q 7)) (atI (nth q 8)) (atI (nth q 9)) (atI (nth q 10)) (atI (nth q 11)) (atI (nth q 12)))) (fun q => [.i (o_ref28_Pull_0 F (atI (nth q 0)) (atI (nth q 1)) (atI (nth q 2)) (atI (nth q 3)) (atI (nth q 4)) (atI (nth q 5)) (atI (nth q 6)) (atI (nth q 7)) (atI (nth q 8)) (atI (nth q 9)) (atI (nth q 10)) (atI (nth q 11)) (atI (nth q 12))), .i (o_ref28_Pull_1 F (atI (nth q 0)) (atI (nth q 1)) (atI (nth q 2)) (atI (nth q 3)) (atI (nth q 4)) (atI (nth q 5)) (atI (nth q 6)) (atI (nth q 7)) (atI (nth q 8)) (atI (nth q 9)) (atI (nth q 10)) (atI (nth q 11)) (atI (nth q 12))), .i (o_ref28_Pull_2 F (atI (nth q 0)) (atI (nth q 1)) (atI (nth q 2)) (atI (nth q 3)) (atI (nth q 4)) (atI (nth q 5)) (atI (nth q 6)) (atI (nth q 7)) (atI (nth q 8)) (atI (nth q 9)) (atI (nth q 10)) (atI (nth q 11)) (atI (nth q 12))), .i (o_ref28_Pull_3 F (atI (nth q 0)) (atI (nth q 1)) (atI (nth q 2)) (atI (nth q 3)) (atI (nth q 4)) (atI (nth q 5)) (atI (nth q 6)) (atI (nth q 7)) (atI (nth q 8)) (atI (nth q 9)) (atI (nth q 10)) (atI (nth q 11)) (atI (nth q 12))), .i (o_ref28_Pull_4 F (atI (nth q 0)) (atI (nth q 1)) (atI (nth q 2)) (atI (nth q 3)) (atI (nth q 4)) (atI (nth q 5)) (atI (nth q 6)) (atI (nth q 7)) (atI (nth q 8)) (atI (nth q 9)) (atI (nth q 10)) (atI (nth q 11)) (atI (nth q 12)))])
theorem hS_ref28_Pull (F : Nat) : ∀ f, Good PP f (unS (S_ref28_Pull F f)) := words_good fun p hp => by
  simp only [List.mem_cons, List.not_mem_nil, or_false] at hp
  rcases hp with rfl | rfl | rfl | rfl
  · exact g_ref28_Right F
  · exact g_ref02_Shift F
  · exact g_ref02_Clamp F
  · exact g_ref02_Add F
theorem hl_ref28_Pull (F : Nat) : ∀ p ∈ loopsIn PP 12, LoopOK PP (S_ref28_Pull F) c_ref28_Pull F (I_ref28_Pull F) (J_ref28_Pull F) p :=
  loops_of [(0, loopAt PP 12 0)] (by kernel_rfl) (all_cons
    (loop_ok (W_ref28_Pull F) rfl (tab_cons (fun _ k q => Le.ofEq ((lL_ref28_Pull_0 F k F (atI (nth q 0)) (atI (nth q 1)) (atI (nth q 2)) (atI (nth q 3)) (atI (nth q 4)) (atI (nth q 5)) (atI (nth q 6)) (atI (nth q 7)) (atI (nth q 8)) (atI (nth q 9)) (atI (nth q 10)) (atI (nth q 11)) (atI (nth q 12)) (atI (nth q 13)) (atI (nth q 14)) (atI (nth q 15)) (atI (nth q 16)) (atI (nth q 17)) (atI (nth q 18)) (atI (nth q 19)) (atI (nth q 20)) (atI (nth q 21)) (atI (nth q 22)) (atI (nth q 23)) (atI (nth q 24)) (atI (nth q 25)) (atI (nth q 26)) (atI (nth q 27)) (atI (nth q 28)) (atI (nth q 29)) (atC (nth q 30))).symm.trans (congrArg (iterC (codeL PP (S_ref28_Pull F) c_ref28_Pull (I_ref28_Pull F) (J_ref28_Pull F) (loopAt PP 12 0) 0) (headOf c_ref28_Pull 0) k F) (show fS T_ref28_Pull_0 [.i (atI (nth q 0)), .i (atI (nth q 1)), .i (atI (nth q 2)), .i (atI (nth q 3)), .i (atI (nth q 4)), .i (atI (nth q 5)), .i (atI (nth q 6)), .i (atI (nth q 7)), .i (atI (nth q 8)), .i (atI (nth q 9)), .i (atI (nth q 10)), .i (atI (nth q 11)), .i (atI (nth q 12)), .i (atI (nth q 13)), .i (atI (nth q 14)), .i (atI (nth q 15)), .i (atI (nth q 16)), .i (atI (nth q 17)), .i (atI (nth q 18)), .i (atI (nth q 19)), .i (atI (nth q 20)), .i (atI (nth q 21)), .i (atI (nth q 22)), .i (atI (nth q 23)), .i (atI (nth q 24)), .i (atI (nth q 25)), .i (atI (nth q 26)), .i (atI (nth q 27)), .i (atI (nth q 28)), .i (atI (nth q 29)), .c (atC (nth q 30))] = fS T_ref28_Pull_0 q by kernel_rfl)))) tab_nil)) all_nil)
theorem hj_ref28_Pull (F : Nat) : ∀ p ∈ joinsIn PP c_ref28_Pull 12, JoinOK PP (S_ref28_Pull F) c_ref28_Pull (I_ref28_Pull F) (J_ref28_Pull F) p :=
  joins_of [] (by kernel_rfl) all_nil
theorem g_ref28_Pull (F : Nat) : Good PP 12 (unS (s_ref28_Pull F)) :=
  fun_spec (hS_ref28_Pull F) (by kernel_rfl) (by kernel_rfl) (C := c_ref28_Pull) (F := fun q => (f_ref28_Pull F (atI (nth q 0)) (atI (nth q 1)) (atI (nth q 2)) (atI (nth q 3)) (atI (nth q 4)) (atI (nth q 5)) (atI (nth q 6)) (atI (nth q 7)) (atI (nth q 8)) (atI (nth q 9)) (atI (nth q 10)) (atI (nth q 11)) (atI (nth q 12)))) (fun _ => F) (fun _ => I_ref28_Pull F) (fun _ => J_ref28_Pull F) (fun _ => hl_ref28_Pull F) (fun _ => hj_ref28_Pull F)
    (fun q => (congrArg (funL PP (S_ref28_Pull F) c_ref28_Pull (I_ref28_Pull F) (J_ref28_Pull F) 12) (show (fTs ti_ref28_Pull q).1 = (fTs ti_ref28_Pull [.i (atI (nth q 0)), .i (atI (nth q 1)), .i (atI (nth q 2)), .i (atI (nth q 3)), .i (atI (nth q 4)), .i (atI (nth q 5)), .i (atI (nth q 6)), .i (atI (nth q 7)), .i (atI (nth q 8)), .i (atI (nth q 9)), .i (atI (nth q 10)), .i (atI (nth q 11)), .i (atI (nth q 12))]).1 by kernel_rfl)).trans (e_ref28_Pull F (atI (nth q 0)) (atI (nth q 1)) (atI (nth q 2)) (atI (nth q 3)) (atI (nth q 4)) (atI (nth q 5)) (atI (nth q 6)) (atI (nth q 7)) (atI (nth q 8)) (atI (nth q 9)) (atI (nth q 10)) (atI (nth q 11)) (atI (nth q 12))))
    (fun _ h => (okT_fill h).trans (congrArg some (by kernel_rfl)))

end Go.Xv
set_option linter.unusedVariables false
namespace Go.Xv
/- 37 _fuse_Rule_faded -/
def c_fuse_Rule_faded : Cfg := ⟨[0, 1, 3, 6, 8], [], [], []⟩
def ti_fuse_Rule_faded : List TV := [.v (.agg [.int .i64, .int .i64, .int .i64, .int .i64]), .v (.int .i64), .v (.int .i64)]
def to_fuse_Rule_faded : TV := .v (.int .i64)
def S_fuse_Rule_faded (F : Nat) : FuncId → List VV → Option (Bool × VV) := words []
def W_fuse_Rule_faded (F : Nat) : List LW := []
def I_fuse_Rule_faded (F : Nat) : Nat → VS → (Exit → VS → R) → R := tabI c_fuse_Rule_faded (W_fuse_Rule_faded F)
def WJ_fuse_Rule_faded (F : Nat) : List LJ := []
def J_fuse_Rule_faded (F : Nat) : Nat → Nat → VS → (Exit → VS → R) → R := tabJ (WJ_fuse_Rule_faded F)
def f_fuse_Rule_faded (F : Nat) (a0 : Int) (a1 : Int) (a2 : Int) (a3 : Int) (a4 : Int) (a5 : Int) : R :=
  bif ((decide (a4 > 0))) then (
    let v3649 : Int := (IntKind.wrap .i64 (a4 - a1))
    some (.v (.int .i64 ((if 0 > v3649 then 0 else v3649)))))
  else (
    let v3651 : Int := (IntKind.wrap .i64 (a4 + a1))
    some (.v (.int .i64 ((if 0 < v3651 then 0 else v3651)))))
theorem e_fuse_Rule_faded (F : Nat) (a0 : Int) (a1 : Int) (a2 : Int) (a3 : Int) (a4 : Int) (a5 : Int) : funL PP (S_fuse_Rule_faded F) c_fuse_Rule_faded (I_fuse_Rule_faded F) (J_fuse_Rule_faded F) 37 (fTs ti_fuse_Rule_faded [.i a0, .i a1, .i a2, .i a3, .i a4, .i a5]).1 = f_fuse_Rule_faded F a0 a1 a2 a3 a4 a5 := by
  have h : ∀ (_ : Unit), funL PP (words []) c_fuse_Rule_faded (tabI c_fuse_Rule_faded []) (tabJ []) 37 (fTs ti_fuse_Rule_faded [.i a0, .i a1, .i a2, .i a3, .i a4, .i a5]).1 = (
  bif ((decide (a4 > 0))) then (
    let v3649 : Int := (IntKind.wrap .i64 (a4 - a1))
    some (.v (.int .i64 ((if 0 > v3649 then 0 else v3649)))))
  else (
    let v3651 : Int := (IntKind.wrap .i64 (a4 + a1))
    some (.v (.int .i64 ((if 0 < v3651 then 0 else v3651))))) : R) := by
    intros
    kernel_rfl
  exact (h ()).trans (by kernel_rfl)
def ok_fuse_Rule_faded (F : Nat) (a0 : Int) (a1 : Int) (a2 : Int) (a3 : Int) (a4 : Int) (a5 : Int) : Bool := okT to_fuse_Rule_faded (f_fuse_Rule_faded F a0 a1 a2 a3 a4 a5)
def o_fuse_Rule_faded_0 (F : Nat) (a0 : Int) (a1 : Int) (a2 : Int) (a3 : Int) (a4 : Int) (a5 : Int) : Int := atI (nth (outT to_fuse_Rule_faded (f_fuse_Rule_faded F a0 a1 a2 a3 a4 a5)) 0)
theorem k_fuse_Rule_faded (F : Nat) (a0 : Int) (a1 : Int) (a2 : Int) (a3 : Int) (a4 : Int) (a5 : Int) {z0 : Int} (h : f_fuse_Rule_faded F a0 a1 a2 a3 a4 a5 = some (.v (.int .i64 z0))) : ok_fuse_Rule_faded F a0 a1 a2 a3 a4 a5 = true ∧ o_fuse_Rule_faded_0 F a0 a1 a2 a3 a4 a5 = z0 := by
  refine ⟨?_, ?_⟩
  · unfold ok_fuse_Rule_faded; rw [h]; kernel_rfl
  · unfold o_fuse_Rule_faded_0; rw [h]; kernel_rfl
def s_fuse_Rule_faded (F : Nat) : List VV → Option (Bool × VV) := spec ti_fuse_Rule_faded to_fuse_Rule_faded (fun q => (ok_fuse_Rule_faded F (atI (nth q 0)) (atI (nth q 1)) (atI (nth q 2)) (atI (nth q 3)) (atI (nth q 4)) (atI (nth q 5)))) (fun q => [.i (o_fuse_Rule_faded_0 F (atI (nth q 0)) (atI (nth q 1)) (atI (nth q 2)) (atI (nth q 3)) (atI (nth q 4)) (atI (nth q 5)))])
theorem hS_fuse_Rule_faded (F : Nat) : ∀ f, Good PP f (unS (S_fuse_Rule_faded F f)) := words_good fun p hp => by
  cases hp
theorem hl_fuse_Rule_faded (F : Nat) : ∀ p ∈ loopsIn PP 37, LoopOK PP (S_fuse_Rule_faded F) c_fuse_Rule_faded F (I_fuse_Rule_faded F) (J_fuse_Rule_faded F) p :=
  loops_of [] (by kernel_rfl) all_nil
theorem hj_fuse_Rule_faded (F : Nat) : ∀ p ∈ joinsIn PP c_fuse_Rule_faded 37, JoinOK PP (S_fuse_Rule_faded F) c_fuse_Rule_faded (I_fuse_Rule_faded F) (J_fuse_Rule_faded F) p :=
  joins_of [] (by kernel_rfl) all_nil
theorem g_fuse_Rule_faded (F : Nat) : Good PP 37 (unS (s_fuse_Rule_faded F)) :=
  fun_spec (hS_fuse_Rule_faded F) (by kernel_rfl) (by kernel_rfl) (C := c_fuse_Rule_faded) (F := fun q => (f_fuse_Rule_faded F (atI (nth q 0)) (atI (nth q 1)) (atI (nth q 2)) (atI (nth q 3)) (atI (nth q 4)) (atI (nth q 5)))) (fun _ => F) (fun _ => I_fuse_Rule_faded F) (fun _ => J_fuse_Rule_faded F) (fun _ => hl_fuse_Rule_faded F) (fun _ => hj_fuse_Rule_faded F)
    (fun q => (congrArg (funL PP (S_fuse_Rule_faded F) c_fuse_Rule_faded (I_fuse_Rule_faded F) (J_fuse_Rule_faded F) 37) (show (fTs ti_fuse_Rule_faded q).1 = (fTs ti_fuse_Rule_faded [.i (atI (nth q 0)), .i (atI (nth q 1)), .i (atI (nth q 2)), .i (atI (nth q 3)), .i (atI (nth q 4)), .i (atI (nth q 5))]).1 by kernel_rfl)).trans (e_fuse_Rule_faded F (atI (nth q 0)) (atI (nth q 1)) (atI (nth q 2)) (atI (nth q 3)) (atI (nth q 4)) (atI (nth q 5))))
    (fun _ h => (okT_fill h).trans (congrArg some (by kernel_rfl)))

end Go.Xv
set_option linter.unusedVariables false
namespace Go.Xv
/- 32 _fuse_eachv1 -/
def c_fuse_eachv1 : Cfg := ⟨[0, 1, 2, 3, 5, 6, 8, 9, 10, 11, 12, 13, 14, 22], [(0, [0, 1, 2, 3, 5, 6, 8, 9, 12, 13, 32])], [], []⟩
def ti_fuse_eachv1 : List TV := [.fn 1000037 [.v (.agg [.int .i64, .int .i64, .int .i64, .int .i64])], .v (.agg [.int .i64, .int .i64, .int .i64]), .v (.agg [.int .i64, .int .i64, .int .i64]), .v (.int .i64)]
def to_fuse_eachv1 : TV := .v (.agg [.int .i64, .int .i64, .int .i64])
def S_fuse_eachv1 (F : Nat) : FuncId → List VV → Option (Bool × VV) := words [(37, s_fuse_Rule_faded F)]
def T_fuse_eachv1_0 : TS := ⟨[(0, .fn 1000037 [.v (.agg [.int .i64, .int .i64, .int .i64, .int .i64])]), (1, .v (.agg [.int .i64, .int .i64, .int .i64])), (2, .v (.agg [.int .i64, .int .i64, .int .i64])), (3, .v (.int .i64)), (5, .lp 0 (.lit 0)), (6, .lp 1 (.lit 0)), (8, .lp 2 (.lit 0)), (9, .lp 3 (.lit 0)), (12, .v (.agg [.int .i64, .int .i64, .int .i64])), (13, .v (.int .i64))], [(0, ⟨(.ex [.v (.int .i64), .v (.int .i64), .v (.int .i64)]), true⟩), (1, ⟨(.ex [.v (.int .i64), .v (.int .i64), .v (.int .i64)]), true⟩), (2, ⟨(.ex [.v (.int .i64), .v (.int .i64), .v (.int .i64)]), true⟩), (3, ⟨.hole, true⟩)], 4⟩
def T_fuse_eachv1_0_0 : TS := ⟨[(0, .fn 1000037 [.v (.agg [.int .i64, .int .i64, .int .i64, .int .i64])]), (1, .v (.agg [.int .i64, .int .i64, .int .i64])), (2, .v (.agg [.int .i64, .int .i64, .int .i64])), (3, .v (.int .i64)), (5, .lp 0 (.lit 0)), (6, .lp 1 (.lit 0)), (8, .lp 2 (.lit 0)), (9, .lp 3 (.lit 0)), (12, .v (.agg [.int .i64, .int .i64, .int .i64])), (13, .v (.int .i64))], [(0, ⟨(.ex [.v (.int .i64), .v (.int .i64), .v (.int .i64)]), true⟩), (1, ⟨(.ex [.v (.int .i64), .v (.int .i64), .v (.int .i64)]), true⟩), (2, ⟨(.ex [.v (.int .i64), .v (.int .i64), .v (.int .i64)]), true⟩), (3, ⟨.hole, true⟩)], 4⟩
def B_fuse_eachv1_0 (F : Nat) (rc : Int → Int → Int → Int → Int → Int → Int → Int → Int → Int → Int → Int → Int → Int → Int → Int → Int → Int → Int → Int → Int → Int → Int → Int → List VV → R) (ex0 : Int → Int → Int → Int → Int → Int → Int → Int → Int → Int → Int → Int → Int → Int → Int → Int → Int → Int → Int → Int → Int → Int → Int → Int → List VV → R) (x0 : Int) (x1 : Int) (x2 : Int) (x3 : Int) (x4 : Int) (x5 : Int) (x6 : Int) (x7 : Int) (x8 : Int) (x9 : Int) (x10 : Int) (x11 : Int) (x12 : Int) (x13 : Int) (x14 : Int) (x15 : Int) (x16 : Int) (x17 : Int) (x18 : Int) (x19 : Int) (x20 : Int) (x21 : Int) (x22 : Int) (x23 : Int) (x24 : List VV) : R :=
  bif ((decide (x14 < 3))) then (
    bif (((decide (0 ≤ x14)) && (decide (x14 < 3))) && ((isI .i64 [.v (.int .i64 x11), .v (.int .i64 x12), .v (.int .i64 x13)][((Int.toNat x14) * 1)]?) && true)) then (
      let v3642 : Int := (iv [.v (.int .i64 x11), .v (.int .i64 x12), .v (.int .i64 x13)][((Int.toNat x14) * 1)]?)
      bif ((decide (0 ≤ x14)) && (decide (x14 < 3))) then (
        let v3643 : Nat := (0 + ((Int.toNat x14) * 1))
        bif (decide ((v3643 + 1) ≤ x24.length)) then (
          let v3644 : List VV := (x24.take v3643 ++ [.v (.int .i64 v3642)] ++ x24.drop (v3643 + 1))
          bif ((decide (x14 < x10))) then (
            bif ((decide (0 ≤ x14)) && (decide (x14 < 3))) then (
              let v3646 : Nat := (0 + ((Int.toNat x14) * 1))
              bif ((isI .i64 [.v (.int .i64 x18), .v (.int .i64 x19), .v (.int .i64 x20)][v3646]?) && true) then (
                let v3647 : Int := (iv [.v (.int .i64 x18), .v (.int .i64 x19), .v (.int .i64 x20)][v3646]?)
                bif (ok_fuse_Rule_faded F x0 x1 x2 x3 v3642 v3647) then (
                  bif ((decide (0 ≤ x14)) && (decide (x14 < 3))) then (
                    let v3654 : Nat := (0 + ((Int.toNat x14) * 1))
                    bif (decide ((v3654 + 1) ≤ v3644.length)) then (
                      rc x0 x1 x2 x3 x4 x5 x6 x7 x8 x9 x10 x11 x12 x13 ((IntKind.wrap .i64 (x14 + 1))) x15 x16 x17 x18 x19 x20 x21 x22 x23 ((v3644.take v3654 ++ [.v (.int .i64 ((o_fuse_Rule_faded_0 F x0 x1 x2 x3 v3642 v3647)))] ++ v3644.drop (v3654 + 1))))
                    else (
                      none))
                  else (
                    none))
                else (
                  none))
              else (
                none))
            else (
              none))
          else (
            rc x0 x1 x2 x3 x4 x5 x6 x7 x8 x9 x10 x11 x12 x13 ((IntKind.wrap .i64 (x14 + 1))) x15 x16 x17 x18 x19 x20 x21 x22 x23 v3644))
        else (
          none))
      else (
        none))
    else (
      none))
  else (
    ex0 x0 x1 x2 x3 x4 x5 x6 x7 x8 x9 x10 x11 x12 x13 x14 x15 x16 x17 x18 x19 x20 x21 x22 x23 x24)
def L_fuse_eachv1_0 (F : Nat) (ex0 : Int → Int → Int → Int → Int → Int → Int → Int → Int → Int → Int → Int → Int → Int → Int → Int → Int → Int → Int → Int → Int → Int → Int → Int → List VV → R) : Nat → Int → Int → Int → Int → Int → Int → Int → Int → Int → Int → Int → Int → Int → Int → Int → Int → Int → Int → Int → Int → Int → Int → Int → Int → List VV → R
  | 0, _, _, _, _, _, _, _, _, _, _, _, _, _, _, _, _, _, _, _, _, _, _, _, _, _ => none
  | n + 1, x0, x1, x2, x3, x4, x5, x6, x7, x8, x9, x10, x11, x12, x13, x14, x15, x16, x17, x18, x19, x20, x21, x22, x23, x24 => B_fuse_eachv1_0 F (L_fuse_eachv1_0 F ex0 n) ex0 x0 x1 x2 x3 x4 x5 x6 x7 x8 x9 x10 x11 x12 x13 x14 x15 x16 x17 x18 x19 x20 x21 x22 x23 x24
def W_fuse_eachv1 (F : Nat) : List LW := [⟨0, T_fuse_eachv1_0, fun k q => L_fuse_eachv1_0 F (fun (z0 : Int) (z1 : Int) (z2 : Int) (z3 : Int) (z4 : Int) (z5 : Int) (z6 : Int) (z7 : Int) (z8 : Int) (z9 : Int) (z10 : Int) (z11 : Int) (z12 : Int) (z13 : Int) (z14 : Int) (z15 : Int) (z16 : Int) (z17 : Int) (z18 : Int) (z19 : Int) (z20 : Int) (z21 : Int) (z22 : Int) (z23 : Int) (z24 : List VV) => k (.exit 0) (fS T_fuse_eachv1_0_0 [.i z0, .i z1, .i z2, .i z3, .i z4, .i z5, .i z6, .i z7, .i z8, .i z9, .i z10, .i z11, .i z12, .i z13, .i z14, .i z15, .i z16, .i z17, .i z18, .i z19, .i z20, .i z21, .i z22, .i z23, .c z24])) F (atI (nth q 0)) (atI (nth q 1)) (atI (nth q 2)) (atI (nth q 3)) (atI (nth q 4)) (atI (nth q 5)) (atI (nth q 6)) (atI (nth q 7)) (atI (nth q 8)) (atI (nth q 9)) (atI (nth q 10)) (atI (nth q 11)) (atI (nth q 12)) (atI (nth q 13)) (atI (nth q 14)) (atI (nth q 15)) (atI (nth q 16)) (atI (nth q 17)) (atI (nth q 18)) (atI (nth q 19)) (atI (nth q 20)) (atI (nth q 21)) (atI (nth q 22)) (atI (nth q 23)) (atC (nth q 24))⟩]
def I_fuse_eachv1 (F : Nat) : Nat → VS → (Exit → VS → R) → R := tabI c_fuse_eachv1 (W_fuse_eachv1 F)
def WJ_fuse_eachv1 (F : Nat) : List LJ := []
def J_fuse_eachv1 (F : Nat) : Nat → Nat → VS → (Exit → VS → R) → R := tabJ (WJ_fuse_eachv1 F)
theorem lL_fuse_eachv1_0 (F : Nat) (k : Exit → VS → R) : ∀ (n : Nat) (x0 : Int) (x1 : Int) (x2 : Int) (x3 : Int) (x4 : Int) (x5 : Int) (x6 : Int) (x7 : Int) (x8 : Int) (x9 : Int) (x10 : Int) (x11 : Int) (x12 : Int) (x13 : Int) (x14 : Int) (x15 : Int) (x16 : Int) (x17 : Int) (x18 : Int) (x19 : Int) (x20 : Int) (x21 : Int) (x22 : Int) (x23 : Int) (x24 : List VV), iterC (codeL PP (S_fuse_eachv1 F) c_fuse_eachv1 (I_fuse_eachv1 F) (J_fuse_eachv1 F) (loopAt PP 32 0) 0) (headOf c_fuse_eachv1 0) k n (fS T_fuse_eachv1_0 [.i x0, .i x1, .i x2, .i x3, .i x4, .i x5, .i x6, .i x7, .i x8, .i x9, .i x10, .i x11, .i x12, .i x13, .i x14, .i x15, .i x16, .i x17, .i x18, .i x19, .i x20, .i x21, .i x22, .i x23, .c x24]) = L_fuse_eachv1_0 F (fun (z0 : Int) (z1 : Int) (z2 : Int) (z3 : Int) (z4 : Int) (z5 : Int) (z6 : Int) (z7 : Int) (z8 : Int) (z9 : Int) (z10 : Int) (z11 : Int) (z12 : Int) (z13 : Int) (z14 : Int) (z15 : Int) (z16 : Int) (z17 : Int) (z18 : Int) (z19 : Int) (z20 : Int) (z21 : Int) (z22 : Int) (z23 : Int) (z24 : List VV) => k (.exit 0) (fS T_fuse_eachv1_0_0 [.i z0, .i z1, .i z2, .i z3, .i z4, .i z5, .i z6, .i z7, .i z8, .i z9, .i z10, .i z11, .i z12, .i z13, .i z14, .i z15, .i z16, .i z17, .i z18, .i z19, .i z20, .i z21, .i z22, .i z23, .c z24])) n x0 x1 x2 x3 x4 x5 x6 x7 x8 x9 x10 x11 x12 x13 x14 x15 x16 x17 x18 x19 x20 x21 x22 x23 x24
  | 0, _, _, _, _, _, _, _, _, _, _, _, _, _, _, _, _, _, _, _, _, _, _, _, _, _ => rfl
  | n + 1, x0, x1, x2, x3, x4, x5, x6, x7, x8, x9, x10, x11, x12, x13, x14, x15, x16, x17, x18, x19, x20, x21, x22, x23, x24 => by
    have h0 : ∀ (ok_fuse_Rule_faded : Nat → Int → Int → Int → Int → Int → Int → Bool) (o_fuse_Rule_faded_0 : Nat → Int → Int → Int → Int → Int → Int → Int) (L_fuse_eachv1_0 : Nat → (Int → Int → Int → Int → Int → Int → Int → Int → Int → Int → Int → Int → Int → Int → Int → Int → Int → Int → Int → Int → Int → Int → Int → Int → List VV → R) → Nat → Int → Int → Int → Int → Int → Int → Int → Int → Int → Int → Int → Int → Int → Int → Int → Int → Int → Int → Int → Int → Int → Int → Int → Int → List VV → R), iterC (codeL PP (words [(37, spec ti_fuse_Rule_faded to_fuse_Rule_faded (fun q => (ok_fuse_Rule_faded F (atI (nth q 0)) (atI (nth q 1)) (atI (nth q 2)) (atI (nth q 3)) (atI (nth q 4)) (atI (nth q 5)))) (fun q => [.i (o_fuse_Rule_faded_0 F (atI (nth q 0)) (atI (nth q 1)) (atI (nth q 2)) (atI (nth q 3)) (atI (nth q 4)) (atI (nth q 5)))]))]) c_fuse_eachv1 (tabI c_fuse_eachv1 [⟨0, T_fuse_eachv1_0, fun k q => L_fuse_eachv1_0 F (fun (z0 : Int) (z1 : Int) (z2 : Int) (z3 : Int) (z4 : Int) (z5 : Int) (z6 : Int) (z7 : Int) (z8 : Int) (z9 : Int) (z10 : Int) (z11 : Int) (z12 : Int) (z13 : Int) (z14 : Int) (z15 : Int) (z16 : Int) (z17 : Int) (z18 : Int) (z19 : Int) (z20 : Int) (z21 : Int) (z22 : Int) (z23 : Int) (z24 : List VV) => k (.exit 0) (fS T_fuse_eachv1_0_0 [.i z0, .i z1, .i z2, .i z3, .i z4, .i z5, .i z6, .i z7, .i z8, .i z9, .i z10, .i z11, .i z12, .i z13, .i z14, .i z15, .i z16, .i z17, .i z18, .i z19, .i z20, .i z21, .i z22, .i z23, .c z24])) F (atI (nth q 0)) (atI (nth q 1)) (atI (nth q 2)) (atI (nth q 3)) (atI (nth q 4)) (atI (nth q 5)) (atI (nth q 6)) (atI (nth q 7)) (atI (nth q 8)) (atI (nth q 9)) (atI (nth q 10)) (atI (nth q 11)) (atI (nth q 12)) (atI (nth q 13)) (atI (nth q 14)) (atI (nth q 15)) (atI (nth q 16)) (atI (nth q 17)) (atI (nth q 18)) (atI (nth q 19)) (atI (nth q 20)) (atI (nth q 21)) (atI (nth q 22)) (atI (nth q 23)) (atC (nth q 24))⟩]) (tabJ []) (loopAt PP 32 0) 0) (headOf c_fuse_eachv1 0) k (n + 1) (fS T_fuse_eachv1_0 [.i x0, .i x1, .i x2, .i x3, .i x4, .i x5, .i x6, .i x7, .i x8, .i x9, .i x10, .i x11, .i x12, .i x13, .i x14, .i x15, .i x16, .i x17, .i x18, .i x19, .i x20, .i x21, .i x22, .i x23, .c x24]) = (fun (rc : Int → Int → Int → Int → Int → Int → Int → Int → Int → Int → Int → Int → Int → Int → Int → Int → Int → Int → Int → Int → Int → Int → Int → Int → List VV → R) (ex0 : Int → Int → Int → Int → Int → Int → Int → Int → Int → Int → Int → Int → Int → Int → Int → Int → Int → Int → Int → Int → Int → Int → Int → Int → List VV → R) (x0 : Int) (x1 : Int) (x2 : Int) (x3 : Int) (x4 : Int) (x5 : Int) (x6 : Int) (x7 : Int) (x8 : Int) (x9 : Int) (x10 : Int) (x11 : Int) (x12 : Int) (x13 : Int) (x14 : Int) (x15 : Int) (x16 : Int) (x17 : Int) (x18 : Int) (x19 : Int) (x20 : Int) (x21 : Int) (x22 : Int) (x23 : Int) (x24 : List VV) => (
  bif ((decide (x14 < 3))) then (
    bif (((decide (0 ≤ x14)) && (decide (x14 < 3))) && ((isI .i64 [.v (.int .i64 x11), .v (.int .i64 x12), .v (.int .i64 x13)][((Int.toNat x14) * 1)]?) && true)) then (
      let v3642 : Int := (iv [.v (.int .i64 x11), .v (.int .i64 x12), .v (.int .i64 x13)][((Int.toNat x14) * 1)]?)
      bif ((decide (0 ≤ x14)) && (decide (x14 < 3))) then (
        let v3643 : Nat := (0 + ((Int.toNat x14) * 1))
        bif (decide ((v3643 + 1) ≤ x24.length)) then (
          let v3644 : List VV := (x24.take v3643 ++ [.v (.int .i64 v3642)] ++ x24.drop (v3643 + 1))
          bif ((decide (x14 < x10))) then (
            bif ((decide (0 ≤ x14)) && (decide (x14 < 3))) then (
              let v3646 : Nat := (0 + ((Int.toNat x14) * 1))
              bif ((isI .i64 [.v (.int .i64 x18), .v (.int .i64 x19), .v (.int .i64 x20)][v3646]?) && true) then (
                let v3647 : Int := (iv [.v (.int .i64 x18), .v (.int .i64 x19), .v (.int .i64 x20)][v3646]?)
                bif (ok_fuse_Rule_faded F x0 x1 x2 x3 v3642 v3647) then (
                  bif ((decide (0 ≤ x14)) && (decide (x14 < 3))) then (
                    let v3654 : Nat := (0 + ((Int.toNat x14) * 1))
                    bif (decide ((v3654 + 1) ≤ v3644.length)) then (
                      rc x0 x1 x2 x3 x4 x5 x6 x7 x8 x9 x10 x11 x12 x13 ((IntKind.wrap .i64 (x14 + 1))) x15 x16 x17 x18 x19 x20 x21 x22 x23 ((v3644.take v3654 ++ [.v (.int .i64 ((o_fuse_Rule_faded_0 F x0 x1 x2 x3 v3642 v3647)))] ++ v3644.drop (v3654 + 1))))
                    else (
                      none))
                  else (
                    none))
                else (
                  none))
              else (
                none))
            else (
              none))
          else (
            rc x0 x1 x2 x3 x4 x5 x6 x7 x8 x9 x10 x11 x12 x13 ((IntKind.wrap .i64 (x14 + 1))) x15 x16 x17 x18 x19 x20 x21 x22 x23 v3644))
        else (
          none))
      else (
        none))
    else (
      none))
  else (
    ex0 x0 x1 x2 x3 x4 x5 x6 x7 x8 x9 x10 x11 x12 x13 x14 x15 x16 x17 x18 x19 x20 x21 x22 x23 x24) : R)) (fun (y0 : Int) (y1 : Int) (y2 : Int) (y3 : Int) (y4 : Int) (y5 : Int) (y6 : Int) (y7 : Int) (y8 : Int) (y9 : Int) (y10 : Int) (y11 : Int) (y12 : Int) (y13 : Int) (y14 : Int) (y15 : Int) (y16 : Int) (y17 : Int) (y18 : Int) (y19 : Int) (y20 : Int) (y21 : Int) (y22 : Int) (y23 : Int) (y24 : List VV) => iterC (codeL PP (words [(37, spec ti_fuse_Rule_faded to_fuse_Rule_faded (fun q => (ok_fuse_Rule_faded F (atI (nth q 0)) (atI (nth q 1)) (atI (nth q 2)) (atI (nth q 3)) (atI (nth q 4)) (atI (nth q 5)))) (fun q => [.i (o_fuse_Rule_faded_0 F (atI (nth q 0)) (atI (nth q 1)) (atI (nth q 2)) (atI (nth q 3)) (atI (nth q 4)) (atI (nth q 5)))]))]) c_fuse_eachv1 (tabI c_fuse_eachv1 [⟨0, T_fuse_eachv1_0, fun k q => L_fuse_eachv1_0 F (fun (z0 : Int) (z1 : Int) (z2 : Int) (z3 : Int) (z4 : Int) (z5 : Int) (z6 : Int) (z7 : Int) (z8 : Int) (z9 : Int) (z10 : Int) (z11 : Int) (z12 : Int) (z13 : Int) (z14 : Int) (z15 : Int) (z16 : Int) (z17 : Int) (z18 : Int) (z19 : Int) (z20 : Int) (z21 : Int) (z22 : Int) (z23 : Int) (z24 : List VV) => k (.exit 0) (fS T_fuse_eachv1_0_0 [.i z0, .i z1, .i z2, .i z3, .i z4, .i z5, .i z6, .i z7, .i z8, .i z9, .i z10, .i z11, .i z12, .i z13, .i z14, .i z15, .i z16, .i z17, .i z18, .i z19, .i z20, .i z21, .i z22, .i z23, .c z24])) F (atI (nth q 0)) (atI (nth q 1)) (atI (nth q 2)) (atI (nth q 3)) (atI (nth q 4)) (atI (nth q 5)) (atI (nth q 6)) (atI (nth q 7)) (atI (nth q 8)) (atI (nth q 9)) (atI (nth q 10)) (atI (nth q 11)) (atI (nth q 12)) (atI (nth q 13)) (atI (nth q 14)) (atI (nth q 15)) (atI (nth q 16)) (atI (nth q 17)) (atI (nth q 18)) (atI (nth q 19)) (atI (nth q 20)) (atI (nth q 21)) (atI (nth q 22)) (atI (nth q 23)) (atC (nth q 24))⟩]) (tabJ []) (loopAt PP 32 0) 0) (headOf c_fuse_eachv1 0) k n (fS T_fuse_eachv1_0 [.i y0, .i y1, .i y2, .i y3, .i y4, .i y5, .i y6, .i y7, .i y8, .i y9, .i y10, .i y11, .i y12, .i y13, .i y14, .i y15, .i y16, .i y17, .i y18, .i y19, .i y20, .i y21, .i y22, .i y23, .c y24])) (fun (z0 : Int) (z1 : Int) (z2 : Int) (z3 : Int) (z4 : Int) (z5 : Int) (z6 : Int) (z7 : Int) (z8 : Int) (z9 : Int) (z10 : Int) (z11 : Int) (z12 : Int) (z13 : Int) (z14 : Int) (z15 : Int) (z16 : Int) (z17 : Int) (z18 : Int) (z19 : Int) (z20 : Int) (z21 : Int) (z22 : Int) (z23 : Int) (z24 : List VV) => k (.exit 0) (fS T_fuse_eachv1_0_0 [.i z0, .i z1, .i z2, .i z3, .i z4, .i z5, .i z6, .i z7, .i z8, .i z9, .i z10, .i z11, .i z12, .i z13, .i z14, .i z15, .i z16, .i z17, .i z18, .i z19, .i z20, .i z21, .i z22, .i z23, .c z24])) x0 x1 x2 x3 x4 x5 x6 x7 x8 x9 x10 x11 x12 x13 x14 x15 x16 x17 x18 x19 x20 x21 x22 x23 x24 := by
      intros
      kernel_rfl
    have h : iterC (codeL PP (S_fuse_eachv1 F) c_fuse_eachv1 (I_fuse_eachv1 F) (J_fuse_eachv1 F) (loopAt PP 32 0) 0) (headOf c_fuse_eachv1 0) k (n + 1) (fS T_fuse_eachv1_0 [.i x0, .i x1, .i x2, .i x3, .i x4, .i x5, .i x6, .i x7, .i x8, .i x9, .i x10, .i x11, .i x12, .i x13, .i x14, .i x15, .i x16, .i x17, .i x18, .i x19, .i x20, .i x21, .i x22, .i x23, .c x24]) = B_fuse_eachv1_0 F (fun (y0 : Int) (y1 : Int) (y2 : Int) (y3 : Int) (y4 : Int) (y5 : Int) (y6 : Int) (y7 : Int) (y8 : Int) (y9 : Int) (y10 : Int) (y11 : Int) (y12 : Int) (y13 : Int) (y14 : Int) (y15 : Int) (y16 : Int) (y17 : Int) (y18 : Int) (y19 : Int) (y20 : Int) (y21 : Int) (y22 : Int) (y23 : Int) (y24 : List VV) => iterC (codeL PP (S_fuse_eachv1 F) c_fuse_eachv1 (I_fuse_eachv1 F) (J_fuse_eachv1 F) (loopAt PP 32 0) 0) (headOf c_fuse_eachv1 0) k n (fS T_fuse_eachv1_0 [.i y0, .i y1, .i y2, .i y3, .i y4, .i y5, .i y6, .i y7, .i y8, .i y9, .i y10, .i y11, .i y12, .i y13, .i y14, .i y15, .i y16, .i y17, .i y18, .i y19, .i y20, .i y21, .i y22, .i y23, .c y24])) (fun (z0 : Int) (z1 : Int) (z2 : Int) (z3 : Int) (z4 : Int) (z5 : Int) (z6 : Int) (z7 : Int) (z8 : Int) (z9 : Int) (z10 : Int) (z11 : Int) (z12 : Int) (z13 : Int) (z14 : Int) (z15 : Int) (z16 : Int) (z17 : Int) (z18 : Int) (z19 : Int) (z20 : Int) (z21 : Int) (z22 : Int) (z23 : Int) (z24 : List VV) => k (.exit 0) (fS T_fuse_eachv1_0_0 [.i z0, .i z1, .i z2, .i z3, .i z4, .i z5, .i z6, .i z7, .i z8, .i z9, .i z10, .i z11, .i z12, .i z13, .i z14, .i z15, .i z16, .i z17, .i z18, .i z19, .i z20, .i z21, .i z22, .i z23, .c z24])) x0 x1 x2 x3 x4 x5 x6 x7 x8 x9 x10 x11 x12 x13 x14 x15 x16 x17 x18 x19 x20 x21 x22 x23 x24 := (h0 ok_fuse_Rule_faded o_fuse_Rule_faded_0 L_fuse_eachv1_0).trans (by kernel_rfl)
    rw [h]
    simp only [lL_fuse_eachv1_0 F k n]
    rfl
def f_fuse_eachv1 (F : Nat) (a0 : Int) (a1 : Int) (a2 : Int) (a3 : Int) (a4 : Int) (a5 : Int) (a6 : Int) (a7 : Int) (a8 : Int) (a9 : Int) (a10 : Int) : R :=
  L_fuse_eachv1_0 F (fun (v3658 : Int) (v3659 : Int) (v3660 : Int) (v3661 : Int) (v3662 : Int) (v3663 : Int) (v3664 : Int) (v3665 : Int) (v3666 : Int) (v3667 : Int) (v3668 : Int) (v3669 : Int) (v3670 : Int) (v3671 : Int) (v3672 : Int) (v3673 : Int) (v3674 : Int) (v3675 : Int) (v3676 : Int) (v3677 : Int) (v3678 : Int) (v3679 : Int) (v3680 : Int) (v3681 : Int) (v3682 : List VV) =>
    bif ((isI .i64 v3682[0]?) && ((isI .i64 v3682[1]?) && ((isI .i64 v3682[2]?) && true))) then (
      some (.v (.agg #[.int .i64 ((iv v3682[0]?)), .int .i64 ((iv v3682[1]?)), .int .i64 ((iv v3682[2]?))])))
    else (
      none)) F a0 a1 a2 a3 a4 a5 a6 a7 a8 a9 a10 a4 a5 a6 0 a4 a5 a6 a7 a8 a9 0 0 0 ([.v (.int .i64 0), .v (.int .i64 0), .v (.int .i64 0)])
theorem e_fuse_eachv1 (F : Nat) (a0 : Int) (a1 : Int) (a2 : Int) (a3 : Int) (a4 : Int) (a5 : Int) (a6 : Int) (a7 : Int) (a8 : Int) (a9 : Int) (a10 : Int) : funL PP (S_fuse_eachv1 F) c_fuse_eachv1 (I_fuse_eachv1 F) (J_fuse_eachv1 F) 32 (fTs ti_fuse_eachv1 [.i a0, .i a1, .i a2, .i a3, .i a4, .i a5, .i a6, .i a7, .i a8, .i a9, .i a10]).1 = f_fuse_eachv1 F a0 a1 a2 a3 a4 a5 a6 a7 a8 a9 a10 := by
  have h : ∀ (ok_fuse_Rule_faded : Nat → Int → Int → Int → Int → Int → Int → Bool) (o_fuse_Rule_faded_0 : Nat → Int → Int → Int → Int → Int → Int → Int) (L_fuse_eachv1_0 : Nat → (Int → Int → Int → Int → Int → Int → Int → Int → Int → Int → Int → Int → Int → Int → Int → Int → Int → Int → Int → Int → Int → Int → Int → Int → List VV → R) → Nat → Int → Int → Int → Int → Int → Int → Int → Int → Int → Int → Int → Int → Int → Int → Int → Int → Int → Int → Int → Int → Int → Int → Int → Int → List VV → R), funL PP (words [(37, spec ti_fuse_Rule_faded to_fuse_Rule_faded (fun q => (ok_fuse_Rule_faded F (atI (nth q 0)) (atI (nth q 1)) (atI (nth q 2)) (atI (nth q 3)) (atI (nth q 4)) (atI (nth q 5)))) (fun q => [.i (o_fuse_Rule_faded_0 F (atI (nth q 0)) (atI (nth q 1)) (atI (nth q 2)) (atI (nth q 3)) (atI (nth q 4)) (atI (nth q 5)))]))]) c_fuse_eachv1 (tabI c_fuse_eachv1 [⟨0, T_fuse_eachv1_0, fun k q => L_fuse_eachv1_0 F (fun (z0 : Int) (z1 : Int) (z2 : Int) (z3 : Int) (z4 : Int) (z5 : Int) (z6 : Int) (z7 : Int) (z8 : Int) (z9 : Int) (z10 : Int) (z11 : Int) (z12 : Int) (z13 : Int) (z14 : Int) (z15 : Int) (z16 : Int) (z17 : Int) (z18 : Int) (z19 : Int) (z20 : Int) (z21 : Int) (z22 : Int) (z23 : Int) (z24 : List VV) => k (.exit 0) (fS T_fuse_eachv1_0_0 [.i z0, .i z1, .i z2, .i z3, .i z4, .i z5, .i z6, .i z7, .i z8, .i z9, .i z10, .i z11, .i z12, .i z13, .i z14, .i z15, .i z16, .i z17, .i z18, .i z19, .i z20, .i z21, .i z22, .i z23, .c z24])) F (atI (nth q 0)) (atI (nth q 1)) (atI (nth q 2)) (atI (nth q 3)) (atI (nth q 4)) (atI (nth q 5)) (atI (nth q 6)) (atI (nth q 7)) (atI (nth q 8)) (atI (nth q 9)) (atI (nth q 10)) (atI (nth q 11)) (atI (nth q 12)) (atI (nth q 13)) (atI (nth q 14)) (atI (nth q 15)) (atI (nth q 16)) (atI (nth q 17)) (atI (nth q 18)) (atI (nth q 19)) (atI (nth q 20)) (atI (nth q 21)) (atI (nth q 22)) (atI (nth q 23)) (atC (nth q 24))⟩]) (tabJ []) 32 (fTs ti_fuse_eachv1 [.i a0, .i a1, .i a2, .i a3, .i a4, .i a5, .i a6, .i a7, .i a8, .i a9, .i a10]).1 = (
  L_fuse_eachv1_0 F (fun (v3658 : Int) (v3659 : Int) (v3660 : Int) (v3661 : Int) (v3662 : Int) (v3663 : Int) (v3664 : Int) (v3665 : Int) (v3666 : Int) (v3667 : Int) (v3668 : Int) (v3669 : Int) (v3670 : Int) (v3671 : Int) (v3672 : Int) (v3673 : Int) (v3674 : Int) (v3675 : Int) (v3676 : Int) (v3677 : Int) (v3678 : Int) (v3679 : Int) (v3680 : Int) (v3681 : Int) (v3682 : List VV) =>
    bif ((isI .i64 v3682[0]?) && ((isI .i64 v3682[1]?) && ((isI .i64 v3682[2]?) && true))) then (
      some (.v (.agg #[.int .i64 ((iv v3682[0]?)), .int .i64 ((iv v3682[1]?)), .int .i64 ((iv v3682[2]?))])))
    else (
      none)) F a0 a1 a2 a3 a4 a5 a6 a7 a8 a9 a10 a4 a5 a6 0 a4 a5 a6 a7 a8 a9 0 0 0 ([.v (.int .i64 0), .v (.int .i64 0), .v (.int .i64 0)]) : R) := by
    intros
    kernel_rfl
  exact (h ok_fuse_Rule_faded o_fuse_Rule_faded_0 L_fuse_eachv1_0).trans (by kernel_rfl)
def ok_fuse_eachv1 (F : Nat) (a0 : Int) (a1 : Int) (a2 : Int) (a3 : Int) (a4 : Int) (a5 : Int) (a6 : Int) (a7 : Int) (a8 : Int) (a9 : Int) (a10 : Int) : Bool := okT to_fuse_eachv1 (f_fuse_eachv1 F a0 a1 a2 a3 a4 a5 a6 a7 a8 a9 a10)
def o_fuse_eachv1_0 (F : Nat) (a0 : Int) (a1 : Int) (a2 : Int) (a3 : Int) (a4 : Int) (a5 : Int) (a6 : Int) (a7 : Int) (a8 : Int) (a9 : Int) (a10 : Int) : Int := atI (nth (outT to_fuse_eachv1 (f_fuse_eachv1 F a0 a1 a2 a3 a4 a5 a6 a7 a8 a9 a10)) 0)
def o_fuse_eachv1_1 (F : Nat) (a0 : Int) (a1 : Int) (a2 : Int) (a3 : Int) (a4 : Int) (a5 : Int) (a6 : Int) (a7 : Int) (a8 : Int) (a9 : Int) (a10 : Int) : Int := atI (nth (outT to_fuse_eachv1 (f_fuse_eachv1 F a0 a1 a2 a3 a4 a5 a6 a7 a8 a9 a10)) 1)
def o_fuse_eachv1_2 (F : Nat) (a0 : Int) (a1 : Int) (a2 : Int) (a3 : Int) (a4 : Int) (a5 : Int) (a6 : Int) (a7 : Int) (a8 : Int) (a9 : Int) (a10 : Int) : Int := atI (nth (outT to_fuse_eachv1 (f_fuse_eachv1 F a0 a1 a2 a3 a4 a5 a6 a7 a8 a9 a10)) 2)
theorem k_fuse_eachv1 (F : Nat) (a0 : Int) (a1 : Int) (a2 : Int) (a3 : Int) (a4 : Int) (a5 : Int) (a6 : Int) (a7 : Int) (a8 : Int) (a9 : Int) (a10 : Int) {z0 : Int} {z1 : Int} {z2 : Int} (h : f_fuse_eachv1 F a0 a1 a2 a3 a4 a5 a6 a7 a8 a9 a10 = some (.v (.agg #[.int .i64 z0, .int .i64 z1, .int .i64 z2]))) : ok_fuse_eachv1 F a0 a1 a2 a3 a4 a5 a6 a7 a8 a9 a10 = true ∧ o_fuse_eachv1_0 F a0 a1 a2 a3 a4 a5 a6 a7 a8 a9 a10 = z0 ∧ o_fuse_eachv1_1 F a0 a1 a2 a3 a4 a5 a6 a7 a8 a9 a10 = z1 ∧ o_fuse_eachv1_2 F a0 a1 a2 a3 a4 a5 a6 a7 a8 a9 a10 = z2 := by
  refine ⟨?_, ?_, ?_, ?_⟩
  · unfold ok_fuse_eachv1; rw [h]; kernel_rfl
  · unfold o_fuse_eachv1_0; rw [h]; kernel_rfl
  · unfold o_fuse_eachv1_1; rw [h]; kernel_rfl
  · unfold o_fuse_eachv1_2; rw [h]; kernel_rfl
def s_fuse_eachv1 (F : Nat) : List VV → Option (Bool × VV) := spec ti_fuse_eachv1 to_fuse_eachv1 (fun q => (ok_fuse_eachv1 F (atI (nth q 0)) (atI (nth q 1)) (atI (nth q 2)) (atI (nth q 3)) (atI (nth q 4)) (atI (nth q 5)) (atI (nth q 6)) (atI (nth q 7)) (atI (nth q 8)) (atI (nth q 9)) (atI (nth q 10)))) (fun q => [.i (o_fuse_eachv1_0 F (atI (nth q 0)) (atI (nth q 1)) (atI (nth q 2)) (atI (nth q 3)) (atI (nth q 4)) (atI (nth q 5)) (atI (nth q 6)) (atI (nth q 7)) (atI (nth q 8)) (atI (nth q 9)) (atI (nth q 10))), .i (o_fuse_eachv1_1 F (atI (nth q 0)) (atI (nth q 1)) (atI (nth q 2)) (atI (nth q 3)) (atI (nth q 4)) (atI (nth q 5)) (atI (nth q 6)) (atI (nth q 7)) (atI (nth q 8)) (atI (nth q 9)) (atI (nth q 10))), .i (o_fuse_eachv1_2 F (atI (nth q 0)) (atI (nth q 1)) (atI (nth q 2)) (atI (nth q 3)) (atI (nth q 4)) (atI (nth q 5)) (atI (nth q 6)) (atI (nth q 7)) (atI (nth q 8)) (atI (nth q 9)) (atI (nth q 10)))])
theorem hS_fuse_eachv1 (F : Nat) : ∀ f, Good PP f (unS (S_fuse_eachv1 F f)) := words_good fun p hp => by
  simp only [List.mem_cons, List.not_mem_nil, or_false] at hp
  rcases hp with rfl
  · exact g_fuse_Rule_faded F
theorem hl_fuse_eachv1 (F : Nat) : ∀ p ∈ loopsIn PP 32, LoopOK PP (S_fuse_eachv1 F) c_fuse_eachv1 F (I_fuse_eachv1 F) (J_fuse_eachv1 F) p :=
  loops_of [(0, loopAt PP 32 0)] (by kernel_rfl) (all_cons
    (loop_ok (W_fuse_eachv1 F) rfl (tab_cons (fun _ k q => Le.ofEq ((lL_fuse_eachv1_0 F k F (atI (nth q 0)) (atI (nth q 1)) (atI (nth q 2)) (atI (nth q 3)) (atI (nth q 4)) (atI (nth q 5)) (atI (nth q 6)) (atI (nth q 7)) (atI (nth q 8)) (atI (nth q 9)) (atI (nth q 10)) (atI (nth q 11)) (atI (nth q 12)) (atI (nth q 13)) (atI (nth q 14)) (atI (nth q 15)) (atI (nth q 16)) (atI (nth q 17)) (atI (nth q 18)) (atI (nth q 19)) (atI (nth q 20)) (atI (nth q 21)) (atI (nth q 22)) (atI (nth q 23)) (atC (nth q 24))).symm.trans (congrArg (iterC (codeL PP (S_fuse_eachv1 F) c_fuse_eachv1 (I_fuse_eachv1 F) (J_fuse_eachv1 F) (loopAt PP 32 0) 0) (headOf c_fuse_eachv1 0) k F) (show fS T_fuse_eachv1_0 [.i (atI (nth q 0)), .i (atI (nth q 1)), .i (atI (nth q 2)), .i (atI (nth q 3)), .i (atI (nth q 4)), .i (atI (nth q 5)), .i (atI (nth q 6)), .i (atI (nth q 7)), .i (atI (nth q 8)), .i (atI (nth q 9)), .i (atI (nth q 10)), .i (atI (nth q 11)), .i (atI (nth q 12)), .i (atI (nth q 13)), .i (atI (nth q 14)), .i (atI (nth q 15)), .i (atI (nth q 16)), .i (atI (nth q 17)), .i (atI (nth q 18)), .i (atI (nth q 19)), .i (atI (nth q 20)), .i (atI (nth q 21)), .i (atI (nth q 22)), .i (atI (nth q 23)), .c (atC (nth q 24))] = fS T_fuse_eachv1_0 q by kernel_rfl)))) tab_nil)) all_nil)
theorem hj_fuse_eachv1 (F : Nat) : ∀ p ∈ joinsIn PP c_fuse_eachv1 32, JoinOK PP (S_fuse_eachv1 F) c_fuse_eachv1 (I_fuse_eachv1 F) (J_fuse_eachv1 F) p :=
  joins_of [] (by kernel_rfl) all_nil
theorem g_fuse_eachv1 (F : Nat) : Good PP 32 (unS (s_fuse_eachv1 F)) :=
  fun_spec (hS_fuse_eachv1 F) (by kernel_rfl) (by kernel_rfl) (C := c_fuse_eachv1) (F := fun q => (f_fuse_eachv1 F (atI (nth q 0)) (atI (nth q 1)) (atI (nth q 2)) (atI (nth q 3)) (atI (nth q 4)) (atI (nth q 5)) (atI (nth q 6)) (atI (nth q 7)) (atI (nth q 8)) (atI (nth q 9)) (atI (nth q 10)))) (fun _ => F) (fun _ => I_fuse_eachv1 F) (fun _ => J_fuse_eachv1 F) (fun _ => hl_fuse_eachv1 F) (fun _ => hj_fuse_eachv1 F)
    (fun q => (congrArg (funL PP (S_fuse_eachv1 F) c_fuse_eachv1 (I_fuse_eachv1 F) (J_fuse_eachv1 F) 32) (show (fTs ti_fuse_eachv1 q).1 = (fTs ti_fuse_eachv1 [.i (atI (nth q 0)), .i (atI (nth q 1)), .i (atI (nth q 2)), .i (atI (nth q 3)), .i (atI (nth q 4)), .i (atI (nth q 5)), .i (atI (nth q 6)), .i (atI (nth q 7)), .i (atI (nth q 8)), .i (atI (nth q 9)), .i (atI (nth q 10))]).1 by kernel_rfl)).trans (e_fuse_eachv1 F (atI (nth q 0)) (atI (nth q 1)) (atI (nth q 2)) (atI (nth q 3)) (atI (nth q 4)) (atI (nth q 5)) (atI (nth q 6)) (atI (nth q 7)) (atI (nth q 8)) (atI (nth q 9)) (atI (nth q 10))))
    (fun _ h => (okT_fill h).trans (congrArg some (by kernel_rfl)))

end Go.Xv
set_option linter.unusedVariables false
namespace Go.Xv
/- 15 _fuse_Fade -/
def c_fuse_Fade : Cfg := ⟨[0, 1, 2, 3, 4, 6, 7, 8, 15], [], [], []⟩
def ti_fuse_Fade : List TV := [.v (.agg [.int .i64, .int .i64, .int .i64, .int .i64]), .v (.agg [.int .i64, .int .i64, .int .i64, .int .i64]), .v (.int .i64)]
def to_fuse_Fade : TV := .v (.tup [.agg [.int .i64, .int .i64, .int .i64, .int .i64], .int .i64])
def S_fuse_Fade (F : Nat) : FuncId → List VV → Option (Bool × VV) := words [(31, s_fuse_may F), (32, s_fuse_eachv1 F)]
def W_fuse_Fade (F : Nat) : List LW := []
def I_fuse_Fade (F : Nat) : Nat → VS → (Exit → VS → R) → R := tabI c_fuse_Fade (W_fuse_Fade F)
def WJ_fuse_Fade (F : Nat) : List LJ := []
def J_fuse_Fade (F : Nat) : Nat → Nat → VS → (Exit → VS → R) → R := tabJ (WJ_fuse_Fade F)
def f_fuse_Fade (F : Nat) (a0 : Int) (a1 : Int) (a2 : Int) (a3 : Int) (a4 : Int) (a5 : Int) (a6 : Int) (a7 : Int) (a8 : Int) : R :=
  bif (ok_fuse_may F a0 a1 a2 a3 a4 a5 a6 a7 a8) then (
    bif ((!((o_fuse_may_0 F a0 a1 a2 a3 a4 a5 a6 a7 a8)))) then (
      some (.v (.tuple #[.agg #[.int .i64 0, .int .i64 0, .int .i64 0, .int .i64 0], .int .i64 2])))
    else (
      bif ((decide (((IntKind.wrap .i64 (a8 - a7))) ≤ a3))) then (
        some (.v (.tuple #[.agg #[.int .i64 a4, .int .i64 a5, .int .i64 a6, .int .i64 a7], .int .i64 0])))
      else (
        bif (ok_fuse_eachv1 F a0 a1 a2 a3 a4 a5 a6 0 0 0 3) then (
          some (.v (.tuple #[.agg #[.int .i64 ((o_fuse_eachv1_0 F a0 a1 a2 a3 a4 a5 a6 0 0 0 3)), .int .i64 ((o_fuse_eachv1_1 F a0 a1 a2 a3 a4 a5 a6 0 0 0 3)), .int .i64 ((o_fuse_eachv1_2 F a0 a1 a2 a3 a4 a5 a6 0 0 0 3)), .int .i64 a7], .int .i64 0])))
        else (
          none))))
  else (
    none)
theorem e_fuse_Fade (F : Nat) (a0 : Int) (a1 : Int) (a2 : Int) (a3 : Int) (a4 : Int) (a5 : Int) (a6 : Int) (a7 : Int) (a8 : Int) : funL PP (S_fuse_Fade F) c_fuse_Fade (I_fuse_Fade F) (J_fuse_Fade F) 15 (fTs ti_fuse_Fade [.i a0, .i a1, .i a2, .i a3, .i a4, .i a5, .i a6, .i a7, .i a8]).1 = f_fuse_Fade F a0 a1 a2 a3 a4 a5 a6 a7 a8 := by
  have h : ∀ (ok_fuse_may : Nat → Int → Int → Int → Int → Int → Int → Int → Int → Int → Bool) (o_fuse_may_0 : Nat → Int → Int → Int → Int → Int → Int → Int → Int → Int → Bool) (ok_fuse_eachv1 : Nat → Int → Int → Int → Int → Int → Int → Int → Int → Int → Int → Int → Bool) (o_fuse_eachv1_0 : Nat → Int → Int → Int → Int → Int → Int → Int → Int → Int → Int → Int → Int) (o_fuse_eachv1_1 : Nat → Int → Int → Int → Int → Int → Int → Int → Int → Int → Int → Int → Int) (o_fuse_eachv1_2 : Nat → Int → Int → Int → Int → Int → Int → Int → Int → Int → Int → Int → Int), funL PP (words [(31, spec ti_fuse_may to_fuse_may (fun q => (ok_fuse_may F (atI (nth q 0)) (atI (nth q 1)) (atI (nth q 2)) (atI (nth q 3)) (atI (nth q 4)) (atI (nth q 5)) (atI (nth q 6)) (atI (nth q 7)) (atI (nth q 8)))) (fun q => [.b (o_fuse_may_0 F (atI (nth q 0)) (atI (nth q 1)) (atI (nth q 2)) (atI (nth q 3)) (atI (nth q 4)) (atI (nth q 5)) (atI (nth q 6)) (atI (nth q 7)) (atI (nth q 8)))])), (32, spec ti_fuse_eachv1 to_fuse_eachv1 (fun q => (ok_fuse_eachv1 F (atI (nth q 0)) (atI (nth q 1)) (atI (nth q 2)) (atI (nth q 3)) (atI (nth q 4)) (atI (nth q 5)) (atI (nth q 6)) (atI (nth q 7)) (atI (nth q 8)) (atI (nth q 9)) (atI (nth q 10)))) (fun q => [.i (o_fuse_eachv1_0 F (atI (nth q 0)) (atI (nth q 1)) (atI (nth q 2)) (atI (nth q 3)) (atI (nth q 4)) (atI (nth q 5)) (atI (nth q 6)) (atI (nth q 7)) (atI (nth q 8)) (atI (nth q 9)) (atI (nth q 10))), .i (o_fuse_eachv1_1 F (atI (nth q 0)) (atI (nth q 1)) (atI (nth q 2)) (atI (nth q 3)) (atI (nth q 4)) (atI (nth q 5)) (atI (nth q 6)) (atI (nth q 7)) (atI (nth q 8)) (atI (nth q 9)) (atI (nth q 10))), .i (o_fuse_eachv1_2 F (atI (nth q 0)) (atI (nth q 1)) (atI (nth q 2)) (atI (nth q 3)) (atI (nth q 4)) (atI (nth q 5)) (atI (nth q 6)) (atI (nth q 7)) (atI (nth q 8)) (atI (nth q 9)) (atI (nth q 10)))]))]) c_fuse_Fade (tabI c_fuse_Fade []) (tabJ []) 15 (fTs ti_fuse_Fade [.i a0, .i a1, .i a2, .i a3, .i a4, .i a5, .i a6, .i a7, .i a8]).1 = (
  bif (ok_fuse_may F a0 a1 a2 a3 a4 a5 a6 a7 a8) then (
    bif ((!((o_fuse_may_0 F a0 a1 a2 a3 a4 a5 a6 a7 a8)))) then (
      some (.v (.tuple #[.agg #[.int .i64 0, .int .i64 0, .int .i64 0, .int .i64 0], .int .i64 2])))
    else (
      bif ((decide (((IntKind.wrap .i64 (a8 - a7))) ≤ a3))) then (
        some (.v (.tuple #[.agg #[.int .i64 a4, .int .i64 a5, .int .i64 a6, .int .i64 a7], .int .i64 0])))
      else (
        bif (ok_fuse_eachv1 F a0 a1 a2 a3 a4 a5 a6 0 0 0 3) then (
          some (.v (.tuple #[.agg #[.int .i64 ((o_fuse_eachv1_0 F a0 a1 a2 a3 a4 a5 a6 0 0 0 3)), .int .i64 ((o_fuse_eachv1_1 F a0 a1 a2 a3 a4 a5 a6 0 0 0 3)), .int .i64 ((o_fuse_eachv1_2 F a0 a1 a2 a3 a4 a5 a6 0 0 0 3)), .int .i64 a7], .int .i64 0])))
        else (
          none))))
  else (
    none) : R) := by
    intros
    kernel_rfl
  exact (h ok_fuse_may o_fuse_may_0 ok_fuse_eachv1 o_fuse_eachv1_0 o_fuse_eachv1_1 o_fuse_eachv1_2).trans (by kernel_rfl)
def ok_fuse_Fade (F : Nat) (a0 : Int) (a1 : Int) (a2 : Int) (a3 : Int) (a4 : Int) (a5 : Int) (a6 : Int) (a7 : Int) (a8 : Int) : Bool := okT to_fuse_Fade (f_fuse_Fade F a0 a1 a2 a3 a4 a5 a6 a7 a8)
def o_fuse_Fade_0 (F : Nat) (a0 : Int) (a1 : Int) (a2 : Int) (a3 : Int) (a4 : Int) (a5 : Int) (a6 : Int) (a7 : Int) (a8 : Int) : Int := atI (nth (outT to_fuse_Fade (f_fuse_Fade F a0 a1 a2 a3 a4 a5 a6 a7 a8)) 0)
def o_fuse_Fade_1 (F : Nat) (a0 : Int) (a1 : Int) (a2 : Int) (a3 : Int) (a4 : Int) (a5 : Int) (a6 : Int) (a7 : Int) (a8 : Int) : Int := atI (nth (outT to_fuse_Fade (f_fuse_Fade F a0 a1 a2 a3 a4 a5 a6 a7 a8)) 1)
def o_fuse_Fade_2 (F : Nat) (a0 : Int) (a1 : Int) (a2 : Int) (a3 : Int) (a4 : Int) (a5 : Int) (a6 : Int) (a7 : Int) (a8 : Int) : Int := atI (nth (outT to_fuse_Fade (f_fuse_Fade F a0 a1 a2 a3 a4 a5 a6 a7 a8)) 2)
def o_fuse_Fade_3 (F : Nat) (a0 : Int) (a1 : Int) (a2 : Int) (a3 : Int) (a4 : Int) (a5 : Int) (a6 : Int) (a7 : Int) (a8 : Int) : Int := atI (nth (outT to_fuse_Fade (f_fuse_Fade F a0 a1 a2 a3 a4 a5 a6 a7 a8)) 3)
def o_fuse_Fade_4 (F : Nat) (a0 : Int) (a1 : Int) (a2 : Int) (a3 : Int) (a4 : Int) (a5 : Int) (a6 : Int) (a7 : Int) (a8 : Int) : Int := atI (nth (outT to_fuse_Fade (f_fuse_Fade F a0 a1 a2 a3 a4 a5 a6 a7 a8)) 4)
theorem k_fuse_Fade (F : Nat) (a0 : Int) (a1 : Int) (a2 : Int) (a3 : Int) (a4 : Int) (a5 : Int) (a6 : Int) (a7 : Int) (a8 : Int) {z0 : Int} {z1 : Int} {z2 : Int} {z3 : Int} {z4 : Int} (h : f_fuse_Fade F a0 a1 a2 a3 a4 a5 a6 a7 a8 = some (.v (.tuple #[.agg #[.int .i64 z0, .int .i64 z1, .int .i64 z2, .int .i64 z3], .int .i64 z4]))) : ok_fuse_Fade F a0 a1 a2 a3 a4 a5 a6 a7 a8 = true ∧ o_fuse_Fade_0 F a0 a1 a2 a3 a4 a5 a6 a7 a8 = z0 ∧ o_fuse_Fade_1 F a0 a1 a2 a3 a4 a5 a6 a7 a8 = z1 ∧ o_fuse_Fade_2 F a0 a1 a2 a3 a4 a5 a6 a7 a8 = z2 ∧ o_fuse_Fade_3 F a0 a1 a2 a3 a4 a5 a6 a7 a8 = z3 ∧ o_fuse_Fade_4 F a0 a1 a2 a3 a4 a5 a6 a7 a8 = z4 := by
  refine ⟨?_, ?_, ?_, ?_, ?_, ?_⟩
  · unfold ok_fuse_Fade; rw [h]; kernel_rfl
  · unfold o_fuse_Fade_0; rw [h]; kernel_rfl
  · unfold o_fuse_Fade_1; rw [h]; kernel_rfl
  · unfold o_fuse_Fade_2; rw [h]; kernel_rfl
  · unfold o_fuse_Fade_3; rw [h]; kernel_rfl
  · unfold o_fuse_Fade_4; rw [h]; kernel_rfl
def s_fuse_Fade (F : Nat) : List VV → Option (Bool × VV) := spec ti_fuse_Fade to_fuse_Fade (fun q => (ok_fuse_Fade F (atI (nth q 0)) (atI (nth q 1)) (atI (nth q 2)) (atI (nth q 3)) (atI (nth q 4)) (atI (nth q 5)) (atI (nth q 6)) (atI (nth q 7)) (atI (nth q 8)))) (fun q => [.i (o_fuse_Fade_0 F (atI (nth q 0)) (atI (nth q 1)) (atI (nth q 2)) (atI (nth q 3)) (atI (nth q 4)) (atI (nth q 5)) (atI (nth q 6)) (atI (nth q 7)) (atI (nth q 8))), .i (o_fuse_Fade_1 F (atI (nth q 0)) (atI (nth q 1)) (atI (nth q 2)) (atI (nth q 3)) (atI (nth q 4)) (atI (nth q 5)) (atI (nth q 6)) (atI (nth q 7)) (atI (nth q 8))), .i (o_fuse_Fade_2 F (atI (nth q 0)) (atI (nth q 1)) (atI (nth q 2)) (atI (nth q 3)) (atI (nth q 4)) (atI (nth q 5)) (atI (nth q 6)) (atI (nth q 7)) (atI (nth q 8))), .i (o_fuse_Fade_3 F (atI (nth q 0)) (atI (nth q 1)) (atI (nth q 2)) (atI (nth q 3)) (atI (nth q 4)) (atI (nth q 5)) (atI (nth q 6)) (atI (nth q 7)) (atI (nth q 8))), .i (o_fuse_Fade_4 F (atI (nth q 0)) (atI (nth q 1)) (atI (nth q 2)) (atI (nth q 3)) (atI (nth q 4)) (atI (nth q 5)) (atI (nth q 6)) (atI (nth q 7)) (atI (nth q 8)))])
theorem hS_fuse_Fade (F : Nat) : ∀ f, Good PP f (unS (S_fuse_Fade F f)) := words_good fun p hp => by
  simp only [List.mem_cons, List.not_mem_nil, or_false] at hp
  rcases hp with rfl | rfl
  · exact g_fuse_may F
  · exact g_fuse_eachv1 F
theorem hl_fuse_Fade (F : Nat) : ∀ p ∈ loopsIn PP 15, LoopOK PP (S_fuse_Fade F) c_fuse_Fade F (I_fuse_Fade F) (J_fuse_Fade F) p :=
  loops_of [] (by kernel_rfl) all_nil
theorem hj_fuse_Fade (F : Nat) : ∀ p ∈ joinsIn PP c_fuse_Fade 15, JoinOK PP (S_fuse_Fade F) c_fuse_Fade (I_fuse_Fade F) (J_fuse_Fade F) p :=
  joins_of [] (by kernel_rfl) all_nil
theorem g_fuse_Fade (F : Nat) : Good PP 15 (unS (s_fuse_Fade F)) :=
  fun_spec (hS_fuse_Fade F) (by kernel_rfl) (by kernel_rfl) (C := c_fuse_Fade) (F := fun q => (f_fuse_Fade F (atI (nth q 0)) (atI (nth q 1)) (atI (nth q 2)) (atI (nth q 3)) (atI (nth q 4)) (atI (nth q 5)) (atI (nth q 6)) (atI (nth q 7)) (atI (nth q 8)))) (fun _ => F) (fun _ => I_fuse_Fade F) (fun _ => J_fuse_Fade F) (fun _ => hl_fuse_Fade F) (fun _ => hj_fuse_Fade F)
    (fun q => (congrArg (funL PP (S_fuse_Fade F) c_fuse_Fade (I_fuse_Fade F) (J_fuse_Fade F) 15) (show (fTs ti_fuse_Fade q).1 = (fTs ti_fuse_Fade [.i (atI (nth q 0)), .i (atI (nth q 1)), .i (atI (nth q 2)), .i (atI (nth q 3)), .i (atI (nth q 4)), .i (atI (nth q 5)), .i (atI (nth q 6)), .i (atI (nth q 7)), .i (atI (nth q 8))]).1 by kernel_rfl)).trans (e_fuse_Fade F (atI (nth q 0)) (atI (nth q 1)) (atI (nth q 2)) (atI (nth q 3)) (atI (nth q 4)) (atI (nth q 5)) (atI (nth q 6)) (atI (nth q 7)) (atI (nth q 8))))
    (fun _ h => (okT_fill h).trans (congrArg some (by kernel_rfl)))

end Go.Xv
set_option linter.unusedVariables false
namespace Go.Xv
/- 16 _ref28_Fade -/
def c_ref28_Fade : Cfg := ⟨[0, 1, 2, 3, 4, 6, 7, 8, 9, 23, 31, 35, 42, 58], [(0, [0, 1, 2, 3, 4, 6, 7, 8, 9, 10, 11, 12, 13, 14, 15, 16, 17, 18, 19, 20, 21, 22, 23, 24, 25, 26, 27, 28, 29, 30, 31, 32, 33, 70])], [], []⟩
def ti_ref28_Fade : List TV := [.v (.agg [.int .i64, .int .i64, .int .i64, .int .i64]), .v (.agg [.int .i64, .int .i64, .int .i64, .int .i64]), .v (.int .i64)]
def to_ref28_Fade : TV := .v (.tup [.agg [.int .i64, .int .i64, .int .i64, .int .i64], .int .i64])
def S_ref28_Fade (F : Nat) : FuncId → List VV → Option (Bool × VV) := words [(19, s_ref28_Right F)]
def T_ref28_Fade_0 : TS := ⟨[(0, .v (.agg [.int .i64, .int .i64, .int .i64, .int .i64])), (1, .v (.agg [.int .i64, .int .i64, .int .i64, .int .i64])), (2, .v (.int .i64)), (3, .lp 0 (.lit 0)), (4, .lp 1 (.lit 0)), (6, .lp 2 (.lit 0)), (7, .v (.int .i64)), (8, .lp 3 (.lit 0)), (9, .v (.int .i64))], [(0, ⟨(.ex [.v (.int .i64), .v (.int .i64), .v (.int .i64), .v (.int .i64)]), true⟩), (1, ⟨(.ex [.v (.int .i64), .v (.int .i64), .v (.int .i64), .v (.int .i64)]), true⟩), (2, ⟨(.ex [.v (.int .i64), .v (.int .i64), .v (.int .i64), .v (.int .i64)]), true⟩), (3, ⟨.hole, true⟩)], 4⟩
def T_ref28_Fade_0_0 : TS := ⟨[(0, .v (.agg [.int .i64, .int .i64, .int .i64, .int .i64])), (1, .v (.agg [.int .i64, .int .i64, .int .i64, .int .i64])), (2, .v (.int .i64)), (3, .lp 0 (.lit 0)), (4, .lp 1 (.lit 0)), (6, .lp 2 (.lit 0)), (7, .v (.int .i64)), (8, .lp 3 (.lit 0)), (9, .v (.int .i64))], [(0, ⟨(.ex [.v (.int .i64), .v (.int .i64), .v (.int .i64), .v (.int .i64)]), true⟩), (1, ⟨(.ex [.v (.int .i64), .v (.int .i64), .v (.int .i64), .v (.int .i64)]), true⟩), (2, ⟨(.ex [.v (.int .i64), .v (.int .i64), .v (.int .i64), .v (.int .i64)]), true⟩), (3, ⟨.hole, true⟩)], 4⟩
def B_ref28_Fade_0 (F : Nat) (rc : Int → Int → Int → Int → Int → Int → Int → Int → Int → Int → Int → Int → Int → Int → Int → Int → Int → Int → Int → Int → Int → Int → Int → List VV → R) (ex0 : Int → Int → Int → Int → Int → Int → Int → Int → Int → Int → Int → Int → Int → Int → Int → Int → Int → Int → Int → Int → Int → Int → Int → List VV → R) (x0 : Int) (x1 : Int) (x2 : Int) (x3 : Int) (x4 : Int) (x5 : Int) (x6 : Int) (x7 : Int) (x8 : Int) (x9 : Int) (x10 : Int) (x11 : Int) (x12 : Int) (x13 : Int) (x14 : Int) (x15 : Int) (x16 : Int) (x17 : Int) (x18 : Int) (x19 : Int) (x20 : Int) (x21 : Int) (x22 : Int) (x23 : List VV) : R :=
  bif ((decide (x10 < 3))) then (
    bif ((decide (0 ≤ x10)) && (decide (x10 < 3))) then (
      let v3733 : Nat := (0 + ((Int.toNat x10) * 1))
      bif ((isI .i64 [.v (.int .i64 x15), .v (.int .i64 x16), .v (.int .i64 x17), .v (.int .i64 x18)][v3733]?) && true) then (
        bif ((decide (((iv [.v (.int .i64 x15), .v (.int .i64 x16), .v (.int .i64 x17), .v (.int .i64 x18)][v3733]?)) > 0))) then (
          bif ((decide (0 ≤ x10)) && (decide (x10 < 3))) then (
            let v3736 : Nat := (0 + ((Int.toNat x10) * 1))
            bif ((isI .i64 [.v (.int .i64 x15), .v (.int .i64 x16), .v (.int .i64 x17), .v (.int .i64 x18)][v3736]?) && true) then (
              let v3738 : Int := (IntKind.wrap .i64 (((iv [.v (.int .i64 x15), .v (.int .i64 x16), .v (.int .i64 x17), .v (.int .i64 x18)][v3736]?)) - x12))
              bif ((decide (0 ≤ x10)) && (decide (x10 < 3))) then (
                let v3740 : Nat := (0 + ((Int.toNat x10) * 1))
                bif (decide ((v3740 + 1) ≤ x23.length)) then (
                  let v3741 : List VV := (x23.take v3740 ++ [.v (.int .i64 ((if 0 > v3738 then 0 else v3738)))] ++ x23.drop (v3740 + 1))
                  bif ((decide (0 ≤ x10)) && (decide (x10 < 3))) then (
                    let v3742 : Nat := (0 + ((Int.toNat x10) * 1))
                    bif ((isI .i64 [.v (.int .i64 x15), .v (.int .i64 x16), .v (.int .i64 x17), .v (.int .i64 x18)][v3742]?) && true) then (
                      bif ((decide (((iv [.v (.int .i64 x15), .v (.int .i64 x16), .v (.int .i64 x17), .v (.int .i64 x18)][v3742]?)) < 0))) then (
                        bif ((decide (0 ≤ x10)) && (decide (x10 < 3))) then (
                          let v3745 : Nat := (0 + ((Int.toNat x10) * 1))
                          bif ((isI .i64 [.v (.int .i64 x15), .v (.int .i64 x16), .v (.int .i64 x17), .v (.int .i64 x18)][v3745]?) && true) then (
                            let v3747 : Int := (IntKind.wrap .i64 (((iv [.v (.int .i64 x15), .v (.int .i64 x16), .v (.int .i64 x17), .v (.int .i64 x18)][v3745]?)) + x12))
                            bif ((decide (0 ≤ x10)) && (decide (x10 < 3))) then (
                              let v3749 : Nat := (0 + ((Int.toNat x10) * 1))
                              bif (decide ((v3749 + 1) ≤ v3741.length)) then (
                                rc x0 x1 x2 x3 x4 x5 x6 x7 x8 x9 ((IntKind.wrap .i64 (x10 + 1))) x11 x12 x13 x14 x15 x16 x17 x18 x19 x20 x21 x22 ((v3741.take v3749 ++ [.v (.int .i64 ((if 0 < v3747 then 0 else v3747)))] ++ v3741.drop (v3749 + 1))))
                              else (
                                none))
                            else (
                              none))
                          else (
                            none))
                        else (
                          none))
                      else (
                        rc x0 x1 x2 x3 x4 x5 x6 x7 x8 x9 ((IntKind.wrap .i64 (x10 + 1))) x11 x12 x13 x14 x15 x16 x17 x18 x19 x20 x21 x22 v3741))
                    else (
                      none))
                  else (
                    none))
                else (
                  none))
              else (
                none))
            else (
              none))
          else (
            none))
        else (
          bif ((decide (0 ≤ x10)) && (decide (x10 < 3))) then (
            let v3753 : Nat := (0 + ((Int.toNat x10) * 1))
            bif ((isI .i64 [.v (.int .i64 x15), .v (.int .i64 x16), .v (.int .i64 x17), .v (.int .i64 x18)][v3753]?) && true) then (
              bif ((decide (((iv [.v (.int .i64 x15), .v (.int .i64 x16), .v (.int .i64 x17), .v (.int .i64 x18)][v3753]?)) < 0))) then (
                bif ((decide (0 ≤ x10)) && (decide (x10 < 3))) then (
                  let v3756 : Nat := (0 + ((Int.toNat x10) * 1))
                  bif ((isI .i64 [.v (.int .i64 x15), .v (.int .i64 x16), .v (.int .i64 x17), .v (.int .i64 x18)][v3756]?) && true) then (
                    let v3758 : Int := (IntKind.wrap .i64 (((iv [.v (.int .i64 x15), .v (.int .i64 x16), .v (.int .i64 x17), .v (.int .i64 x18)][v3756]?)) + x12))
                    bif ((decide (0 ≤ x10)) && (decide (x10 < 3))) then (
                      let v3760 : Nat := (0 + ((Int.toNat x10) * 1))
                      bif (decide ((v3760 + 1) ≤ x23.length)) then (
                        rc x0 x1 x2 x3 x4 x5 x6 x7 x8 x9 ((IntKind.wrap .i64 (x10 + 1))) x11 x12 x13 x14 x15 x16 x17 x18 x19 x20 x21 x22 ((x23.take v3760 ++ [.v (.int .i64 ((if 0 < v3758 then 0 else v3758)))] ++ x23.drop (v3760 + 1))))
                      else (
                        none))
                    else (
                      none))
                  else (
                    none))
                else (
                  none))
              else (
                rc x0 x1 x2 x3 x4 x5 x6 x7 x8 x9 ((IntKind.wrap .i64 (x10 + 1))) x11 x12 x13 x14 x15 x16 x17 x18 x19 x20 x21 x22 x23))
            else (
              none))
          else (
            none)))
      else (
        none))
    else (
      none))
  else (
    ex0 x0 x1 x2 x3 x4 x5 x6 x7 x8 x9 x10 x11 x12 x13 x14 x15 x16 x17 x18 x19 x20 x21 x22 x23)
def L_ref28_Fade_0 (F : Nat) (ex0 : Int → Int → Int → Int → Int → Int → Int → Int → Int → Int → Int → Int → Int → Int → Int → Int → Int → Int → Int → Int → Int → Int → Int → List VV → R) : Nat → Int → Int → Int → Int → Int → Int → Int → Int → Int → Int → Int → Int → Int → Int → Int → Int → Int → Int → Int → Int → Int → Int → Int → List VV → R
  | 0, _, _, _, _, _, _, _, _, _, _, _, _, _, _, _, _, _, _, _, _, _, _, _, _ => none
  | n + 1, x0, x1, x2, x3, x4, x5, x6, x7, x8, x9, x10, x11, x12, x13, x14, x15, x16, x17, x18, x19, x20, x21, x22, x23 => B_ref28_Fade_0 F (L_ref28_Fade_0 F ex0 n) ex0 x0 x1 x2 x3 x4 x5 x6 x7 x8 x9 x10 x11 x12 x13 x14 x15 x16 x17 x18 x19 x20 x21 x22 x23
def W_ref28_Fade (F : Nat) : List LW := [⟨0, T_ref28_Fade_0, fun k q => L_ref28_Fade_0 F (fun (z0 : Int) (z1 : Int) (z2 : Int) (z3 : Int) (z4 : Int) (z5 : Int) (z6 : Int) (z7 : Int) (z8 : Int) (z9 : Int) (z10 : Int) (z11 : Int) (z12 : Int) (z13 : Int) (z14 : Int) (z15 : Int) (z16 : Int) (z17 : Int) (z18 : Int) (z19 : Int) (z20 : Int) (z21 : Int) (z22 : Int) (z23 : List VV) => k (.exit 0) (fS T_ref28_Fade_0_0 [.i z0, .i z1, .i z2, .i z3, .i z4, .i z5, .i z6, .i z7, .i z8, .i z9, .i z10, .i z11, .i z12, .i z13, .i z14, .i z15, .i z16, .i z17, .i z18, .i z19, .i z20, .i z21, .i z22, .c z23])) F (atI (nth q 0)) (atI (nth q 1)) (atI (nth q 2)) (atI (nth q 3)) (atI (nth q 4)) (atI (nth q 5)) (atI (nth q 6)) (atI (nth q 7)) (atI (nth q 8)) (atI (nth q 9)) (atI (nth q 10)) (atI (nth q 11)) (atI (nth q 12)) (atI (nth q 13)) (atI (nth q 14)) (atI (nth q 15)) (atI (nth q 16)) (atI (nth q 17)) (atI (nth q 18)) (atI (nth q 19)) (atI (nth q 20)) (atI (nth q 21)) (atI (nth q 22)) (atC (nth q 23))⟩]
def I_ref28_Fade (F : Nat) : Nat → VS → (Exit → VS → R) → R := tabI c_ref28_Fade (W_ref28_Fade F)
def WJ_ref28_Fade (F : Nat) : List LJ := []
def J_ref28_Fade (F : Nat) : Nat → Nat → VS → (Exit → VS → R) → R := tabJ (WJ_ref28_Fade F)
theorem lL_ref28_Fade_0 (F : Nat) (k : Exit → VS → R) : ∀ (n : Nat) (x0 : Int) (x1 : Int) (x2 : Int) (x3 : Int) (x4 : Int) (x5 : Int) (x6 : Int) (x7 : Int) (x8 : Int) (x9 : Int) (x10 : Int) (x11 : Int) (x12 : Int) (x13 : Int) (x14 : Int) (x15 : Int) (x16 : Int) (x17 : Int) (x18 : Int) (x19 : Int) (x20 : Int) (x21 : Int) (x22 : Int) (x23 : List VV), iterC (codeL PP (S_ref28_Fade F) c_ref28_Fade (I_ref28_Fade F) (J_ref28_Fade F) (loopAt PP 16 0) 0) (headOf c_ref28_Fade 0) k n (fS T_ref28_Fade_0 [.i x0, .i x1, .i x2, .i x3, .i x4, .i x5, .i x6, .i x7, .i x8, .i x9, .i x10, .i x11, .i x12, .i x13, .i x14, .i x15, .i x16, .i x17, .i x18, .i x19, .i x20, .i x21, .i x22, .c x23]) = L_ref28_Fade_0 F (fun (z0 : Int) (z1 : Int) (z2 : Int) (z3 : Int) (z4 : Int) (z5 : Int) (z6 : Int) (z7 : Int) (z8 : Int) (z9 : Int) (z10 : Int) (z11 : Int) (z12 : Int) (z13 : Int) (z14 : Int) (z15 : Int) (z16 : Int) (z17 : Int) (z18 : Int) (z19 : Int) (z20 : Int) (z21 : Int) (z22 : Int) (z23 : List VV) => k (.exit 0) (fS T_ref28_Fade_0_0 [.i z0, .i z1, .i z2, .i z3, .i z4, .i z5, .i z6, .i z7, .i z8, .i z9, .i z10, .i z11, .i z12, .i z13, .i z14, .i z15, .i z16, .i z17, .i z18, .i z19, .i z20, .i z21, .i z22, .c z23])) n x0 x1 x2 x3 x4 x5 x6 x7 x8 x9 x10 x11 x12 x13 x14 x15 x16 x17 x18 x19 x20 x21 x22 x23
  | 0, _, _, _, _, _, _, _, _, _, _, _, _, _, _, _, _, _, _, _, _, _, _, _, _ => rfl
  | n + 1, x0, x1, x2, x3, x4, x5, x6, x7, x8, x9, x10, x11, x12, x13, x14, x15, x16, x17, x18, x19, x20, x21, x22, x23 => by
    have h0 : ∀ (ok_ref28_Right : Nat → Int → Int → Int → Int → Int → Int → Int → Int → Bool) (o_ref28_Right_0 : Nat → Int → Int → Int → Int → Int → Int → Int → Int → Int) (L_ref28_Fade_0 : Nat → (Int → Int → Int → Int → Int → Int → Int → Int → Int → Int → Int → Int → Int → Int → Int → Int → Int → Int → Int → Int → Int → Int → Int → List VV → R) → Nat → Int → Int → Int → Int → Int → Int → Int → Int → Int → Int → Int → Int → Int → Int → Int → Int → Int → Int → Int → Int → Int → Int → Int → List VV → R), iterC (codeL PP (words [(19, spec ti_ref28_Right to_ref28_Right (fun q => (ok_ref28_Right F (atI (nth q 0)) (atI (nth q 1)) (atI (nth q 2)) (atI (nth q 3)) (atI (nth q 4)) (atI (nth q 5)) (atI (nth q 6)) (atI (nth q 7)))) (fun q => [.i (o_ref28_Right_0 F (atI (nth q 0)) (atI (nth q 1)) (atI (nth q 2)) (atI (nth q 3)) (atI (nth q 4)) (atI (nth q 5)) (atI (nth q 6)) (atI (nth q 7)))]))]) c_ref28_Fade (tabI c_ref28_Fade [⟨0, T_ref28_Fade_0, fun k q => L_ref28_Fade_0 F (fun (z0 : Int) (z1 : Int) (z2 : Int) (z3 : Int) (z4 : Int) (z5 : Int) (z6 : Int) (z7 : Int) (z8 : Int) (z9 : Int) (z10 : Int) (z11 : Int) (z12 : Int) (z13 : Int) (z14 : Int) (z15 : Int) (z16 : Int) (z17 : Int) (z18 : Int) (z19 : Int) (z20 : Int) (z21 : Int) (z22 : Int) (z23 : List VV) => k (.exit 0) (fS T_ref28_Fade_0_0 [.i z0, .i z1, .i z2, .i z3, .i z4, .i z5, .i z6, .i z7, .i z8, .i z9, .i z10, .i z11, .i z12, .i z13, .i z14, .i z15, .i z16, .i z17, .i z18, .i z19, .i z20, .i z21, .i z22, .c z23])) F (atI (nth q 0)) (atI (nth q 1)) (atI (nth q 2)) (atI (nth q 3)) (atI (nth q 4)) (atI (nth q 5)) (atI (nth q 6)) (atI (nth q 7)) (atI (nth q 8)) (atI (nth q 9)) (atI (nth q 10)) (atI (nth q 11)) (atI (nth q 12)) (atI (nth q 13)) (atI (nth q 14)) (atI (nth q 15)) (atI (nth q 16)) (atI (nth q 17)) (atI (nth q 18)) (atI (nth q 19)) (atI (nth q 20)) (atI (nth q 21)) (atI (nth q 22)) (atC (nth q 23))⟩]) (tabJ []) (loopAt PP 16 0) 0) (headOf c_ref28_Fade 0) k (n + 1) (fS T_ref28_Fade_0 [.i x0, .i x1, .i x2, .i x3, .i x4, .i x5, .i x6, .i x7, .i x8, .i x9, .i x10, .i x11, .i x12, .i x13, .i x14, .i x15, .i x16, .i x17, .i x18, .i x19, .i x20, .i x21, .i x22, .c x23]) = (fun (rc : Int → Int → Int → Int → Int → Int → Int → Int → Int → Int → Int → Int → Int → Int → Int → Int → Int → Int → Int → Int → Int → Int → Int → List VV → R) (ex0 : Int → Int → Int → Int → Int → Int → Int → Int → Int → Int → Int → Int → Int → Int → Int → Int → Int → Int → Int → Int → Int → Int → Int → List VV → R) (x0 : Int) (x1 : Int) (x2 : Int) (x3 : Int) (x4 : Int) (x5 : Int) (x6 : Int) (x7 : Int) (x8 : Int) (x9 : Int) (x10 : Int) (x11 : Int) (x12 : Int) (x13 : Int) (x14 : Int) (x15 : Int) (x16 : Int) (x17 : Int) (x18 : Int) (x19 : Int) (x20 : Int) (x21 : Int) (x22 : Int) (x23 : List VV) => (
  bif ((decide (x10 < 3))) then (
    bif ((decide (0 ≤ x10)) && (decide (x10 < 3))) then (
      let v3733 : Nat := (0 + ((Int.toNat x10) * 1))
      bif ((isI .i64 [.v (.int .i64 x15), .v (.int .i64 x16), .v (.int .i64 x17), .v (.int .i64 x18)][v3733]?) && true) then (
        bif ((decide (((iv [.v (.int .i64 x15), .v (.int .i64 x16), .v (.int .i64 x17), .v (.int .i64 x18)][v3733]?)) > 0))) then (
          bif ((decide (0 ≤ x10)) && (decide (x10 < 3))) then (
            let v3736 : Nat := (0 + ((Int.toNat x10) * 1))
            bif ((isI .i64 [.v (.int .i64 x15), .v (.int .i64 x16), .v (.int .i64 x17), .v (.int .i64 x18)][v3736]?) && true) then (
              let v3738 : Int := (IntKind.wrap .i64 (((iv [.v (.int .i64 x15), .v (.int .i64 x16), .v (.int .i64 x17), .v (.int .i64 x18)][v3736]?)) - x12))
              bif ((decide (0 ≤ x10)) && (decide (x10 < 3))) then (
                let v3740 : Nat := (0 + ((Int.toNat x10) * 1))
                bif (decide ((v3740 + 1) ≤ x23.length)) then (
                  let v3741 : List VV := (x23.take v3740 ++ [.v (.int .i64 ((if 0 > v3738 then 0 else v3738)))] ++ x23.drop (v3740 + 1))
                  bif ((decide (0 ≤ x10)) && (decide (x10 < 3))) then (
                    let v3742 : Nat := (0 + ((Int.toNat x10) * 1))
                    bif ((isI .i64 [.v (.int .i64 x15), .v (.int .i64 x16), .v (.int .i64 x17), .v (.int .i64 x18)][v3742]?) && true) then (
                      bif ((decide (((iv [.v (.int .i64 x15), .v (.int .i64 x16), .v (.int .i64 x17), .v (.int .i64 x18)][v3742]?)) < 0))) then (
                        bif ((decide (0 ≤ x10)) && (decide (x10 < 3))) then (
                          let v3745 : Nat := (0 + ((Int.toNat x10) * 1))
                          bif ((isI .i64 [.v (.int .i64 x15), .v (.int .i64 x16), .v (.int .i64 x17), .v (.int .i64 x18)][v3745]?) && true) then (
                            let v3747 : Int := (IntKind.wrap .i64 (((iv [.v (.int .i64 x15), .v (.int .i64 x16), .v (.int .i64 x17), .v (.int .i64 x18)][v3745]?)) + x12))
                            bif ((decide (0 ≤ x10)) && (decide (x10 < 3))) then (
                              let v3749 : Nat := (0 + ((Int.toNat x10) * 1))
                              bif (decide ((v3749 + 1) ≤ v3741.length)) then (
                                rc x0 x1 x2 x3 x4 x5 x6 x7 x8 x9 ((IntKind.wrap .i64 (x10 + 1))) x11 x12 x13 x14 x15 x16 x17 x18 x19 x20 x21 x22 ((v3741.take v3749 ++ [.v (.int .i64 ((if 0 < v3747 then 0 else v3747)))] ++ v3741.drop (v3749 + 1))))
                              else (
                                none))
                            else (
                              none))
                          else (
                            none))
                        else (
                          none))
                      else (
                        rc x0 x1 x2 x3 x4 x5 x6 x7 x8 x9 ((IntKind.wrap .i64 (x10 + 1))) x11 x12 x13 x14 x15 x16 x17 x18 x19 x20 x21 x22 v3741))
                    else (
                      none))
                  else (
                    none))
                else (
                  none))
              else (
                none))
            else (
              none))
          else (
            none))
        else (
          bif ((decide (0 ≤ x10)) && (decide (x10 < 3))) then (
            let v3753 : Nat := (0 + ((Int.toNat x10) * 1))
            bif ((isI .i64 [.v (.int .i64 x15), .v (.int .i64 x16), .v (.int .i64 x17), .v (.int .i64 x18)][v3753]?) && true) then (
              bif ((decide (((iv [.v (.int .i64 x15), .v (.int .i64 x16), .v (.int .i64 x17), .v (.int .i64 x18)][v3753]?)) < 0))) then (
                bif ((decide (0 ≤ x10)) && (decide (x10 < 3))) then (
                  let v3756 : Nat := (0 + ((Int.toNat x10) * 1))
                  bif ((isI .i64 [.v (.int .i64 x15), .v (.int .i64 x16), .v (.int .i64 x17), .v (.int .i64 x18)][v3756]?) && true) then (
                    let v3758 : Int := (IntKind.wrap .i64 (((iv [.v (.int .i64 x15), .v (.int .i64 x16), .v (.int .i64 x17), .v (.int .i64 x18)][v3756]?)) + x12))
                    bif ((decide (0 ≤ x10)) && (decide (x10 < 3))) then (
                      let v3760 : Nat := (0 + ((Int.toNat x10) * 1))
                      bif (decide ((v3760 + 1) ≤ x23.length)) then (
                        rc x0 x1 x2 x3 x4 x5 x6 x7 x8 x9 ((IntKind.wrap .i64 (x10 + 1))) x11 x12 x13 x14 x15 x16 x17 x18 x19 x20 x21 x22 ((x23.take v3760 ++ [.v (.int .i64 ((if 0 < v3758 then 0 else v3758)))] ++ x23.drop (v3760 + 1))))
                      else (
                        none))
                    else (
                      none))
                  else (
                    none))
                else (
                  none))
              else (
                rc x0 x1 x2 x3 x4 x5 x6 x7 x8 x9 ((IntKind.wrap .i64 (x10 + 1))) x11 x12 x13 x14 x15 x16 x17 x18 x19 x20 x21 x22 x23))
            else (
              none))
          else (
            none)))
      else (
        none))
    else (
      none))
  else (
    ex0 x0 x1 x2 x3 x4 x5 x6 x7 x8 x9 x10 x11 x12 x13 x14 x15 x16 x17 x18 x19 x20 x21 x22 x23) : R)) (fun (y0 : Int) (y1 : Int) (y2 : Int) (y3 : Int) (y4 : Int) (y5 : Int) (y6 : Int) (y7 : Int) (y8 : Int) (y9 : Int) (y10 : Int) (y11 : Int) (y12 : Int) (y13 : Int) (y14 : Int) (y15 : Int) (y16 : Int) (y17 : Int) (y18 : Int) (y19 : Int) (y20 : Int) (y21 : Int) (y22 : Int) (y23 : List VV) => iterC (codeL PP (words [(19, spec ti_ref28_Right to_ref28_Right (fun q => (ok_ref28_Right F (atI (nth q 0)) (atI (nth q 1)) (atI (nth q 2)) (atI (nth q 3)) (atI (nth q 4)) (atI (nth q 5)) (atI (nth q 6)) (atI (nth q 7)))) (fun q => [.i (o_ref28_Right_0 F (atI (nth q 0)) (atI (nth q 1)) (atI (nth q 2)) (atI (nth q 3)) (atI (nth q 4)) (atI (nth q 5)) (atI (nth q 6)) (atI (nth q 7)))]))]) c_ref28_Fade (tabI c_ref28_Fade [⟨0, T_ref28_Fade_0, fun k q => L_ref28_Fade_0 F (fun (z0 : Int) (z1 : Int) (z2 : Int) (z3 : Int) (z4 : Int) (z5 : Int) (z6 : Int) (z7 : Int) (z8 : Int) (z9 : Int) (z10 : Int) (z11 : Int) (z12 : Int) (z13 : Int) (z14 : Int) (z15 : Int) (z16 : Int) (z17 : Int) (z18 : Int) (z19 : Int) (z20 : Int) (z21 : Int) (z22 : Int) (z23 : List VV) => k (.exit 0) (fS T_ref28_Fade_0_0 [.i z0, .i z1, .i z2, .i z3, .i z4, .i z5, .i z6, .i z7, .i z8, .i z9, .i z10, .i z11, .i z12, .i z13, .i z14, .i z15, .i z16, .i z17, .i z18, .i z19, .i z20, .i z21, .i z22, .c z23])) F (atI (nth q 0)) (atI (nth q 1)) (atI (nth q 2)) (atI (nth q 3)) (atI (nth q 4)) (atI (nth q 5)) (atI (nth q 6)) (atI (nth q 7)) (atI (nth q 8)) (atI (nth q 9)) (atI (nth q 10)) (atI (nth q 11)) (atI (nth q 12)) (atI (nth q 13)) (atI (nth q 14)) (atI (nth q 15)) (atI (nth q 16)) (atI (nth q 17)) (atI (nth q 18)) (atI (nth q 19)) (atI (nth q 20)) (atI (nth q 21)) (atI (nth q 22)) (atC (nth q 23))⟩]) (tabJ []) (loopAt PP 16 0) 0) (headOf c_ref28_Fade 0) k n (fS T_ref28_Fade_0 [.i y0, .i y1, .i y2, .i y3, .i y4, .i y5, .i y6, .i y7, .i y8, .i y9, .i y10, .i y11, .i y12, .i y13, .i y14, .i y15, .i y16, .i y17, .i y18, .i y19, .i y20, .i y21, .i y22, .c y23])) (fun (z0 : Int) (z1 : Int) (z2 : Int) (z3 : Int) (z4 : Int) (z5 : Int) (z6 : Int) (z7 : Int) (z8 : Int) (z9 : Int) (z10 : Int) (z11 : Int) (z12 : Int) (z13 : Int) (z14 : Int) (z15 : Int) (z16 : Int) (z17 : Int) (z18 : Int) (z19 : Int) (z20 : Int) (z21 : Int) (z22 : Int) (z23 : List VV) => k (.exit 0) (fS T_ref28_Fade_0_0 [.i z0, .i z1, .i z2, .i z3, .i z4, .i z5, .i z6, .i z7, .i z8, .i z9, .i z10, .i z11, .i z12, .i z13, .i z14, .i z15, .i z16, .i z17, .i z18, .i z19, .i z20, .i z21, .i z22, .c z23])) x0 x1 x2 x3 x4 x5 x6 x7 x8 x9 x10 x11 x12 x13 x14 x15 x16 x17 x18 x19 x20 x21 x22 x23 := by
      intros
      kernel_rfl
    have h : iterC (codeL PP (S_ref28_Fade F) c_ref28_Fade (I_ref28_Fade F) (J_ref28_Fade F) (loopAt PP 16 0) 0) (headOf c_ref28_Fade 0) k (n + 1) (fS T_ref28_Fade_0 [.i x0, .i x1, .i x2, .i x3, .i x4, .i x5, .i x6, .i x7, .i x8, .i x9, .i x10, .i x11, .i x12, .i x13, .i x14, .i x15, .i x16, .i x17, .i x18, .i x19, .i x20, .i x21, .i x22, .c x23]) = B_ref28_Fade_0 F (fun (y0 : Int) (y1 : Int) (y2 : Int) (y3 : Int) (y4 : Int) (y5 : Int) (y6 : Int) (y7 : Int) (y8 : Int) (y9 : Int) (y10 : Int) (y11 : Int) (y12 : Int) (y13 : Int) (y14 : Int) (y15 : Int) (y16 : Int) (y17 : Int) (y18 : Int) (y19 : Int) (y20 : Int) (y21 : Int) (y22 : Int) (y23 : List VV) => iterC (codeL PP (S_ref28_Fade F) c_ref28_Fade (I_ref28_Fade F) (J_ref28_Fade F) (loopAt PP 16 0) 0) (headOf c_ref28_Fade 0) k n (fS T_ref28_Fade_0 [.i y0, .i y1, .i y2, .i y3, .i y4, .i y5, .i y6, .i y7, .i y8, .i y9, .i y10, .i y11, .i y12, .i y13, .i y14, .i y15, .i y16, .i y17, .i y18, .i y19, .i y20, .i y21, .i y22, .c y23])) (fun (z0 : Int) (z1 : Int) (z2 : Int) (z3 : Int) (z4 : Int) (z5 : Int) (z6 : Int) (z7 : Int) (z8 : Int) (z9 : Int) (z10 : Int) (z11 : Int) (z12 : Int) (z13 : Int) (z14 : Int) (z15 : Int) (z16 : Int) (z17 : Int) (z18 : Int) (z19 : Int) (z20 : Int) (z21 : Int) (z22 : Int) (z23 : List VV) => k (.exit 0) (fS T_ref28_Fade_0_0 [.i z0, .i z1, .i z2, .i z3, .i z4, .i z5, .i z6, .i z7, .i z8, .i z9, .i z10, .i z11, .i z12, .i z13, .i z14, .i z15, .i z16, .i z17, .i z18, .i z19, .i z20, .i z21, .i z22, .c z23])) x0 x1 x2 x3 x4 x5 x6 x7 x8 x9 x10 x11 x12 x13 x14 x15 x16 x17 x18 x19 x20 x21 x22 x23 := (h0 ok_ref28_Right o_ref28_Right_0 L_ref28_Fade_0).trans (by kernel_rfl)
    rw [h]
    simp only [lL_ref28_Fade_0 F k n]
    rfl
def f_ref28_Fade (F : Nat) (a0 : Int) (a1 : Int) (a2 : Int) (a3 : Int) (a4 : Int) (a5 : Int) (a6 : Int) (a7 : Int) (a8 : Int) : R :=
  bif (ok_ref28_Right F a0 a1 a2 a3 a4 a5 a6 a7) then (
    bif ((((o_ref28_Right_0 F a0 a1 a2 a3 a4 a5 a6 a7)) != 0)) then (
      some (.v (.tuple #[.agg #[.int .i64 0, .int .i64 0, .int .i64 0, .int .i64 0], .int .i64 2])))
    else (
      bif ((decide (a8 < a7))) then (
        some (.v (.tuple #[.agg #[.int .i64 0, .int .i64 0, .int .i64 0, .int .i64 0], .int .i64 2])))
      else (
        bif ((decide (a8 > 1099511627776))) then (
          some (.v (.tuple #[.agg #[.int .i64 0, .int .i64 0, .int .i64 0, .int .i64 0], .int .i64 2])))
        else (
          bif ((decide (((IntKind.wrap .i64 (a8 - a7))) ≤ a3))) then (
            some (.v (.tuple #[.agg #[.int .i64 a4, .int .i64 a5, .int .i64 a6, .int .i64 a7], .int .i64 0])))
          else (
            L_ref28_Fade_0 F (fun (v3764 : Int) (v3765 : Int) (v3766 : Int) (v3767 : Int) (v3768 : Int) (v3769 : Int) (v3770 : Int) (v3771 : Int) (v3772 : Int) (v3773 : Int) (v3774 : Int) (v3775 : Int) (v3776 : Int) (v3777 : Int) (v3778 : Int) (v3779 : Int) (v3780 : Int) (v3781 : Int) (v3782 : Int) (v3783 : Int) (v3784 : Int) (v3785 : Int) (v3786 : Int) (v3787 : List VV) =>
              bif ((isI .i64 v3787[0]?) && ((isI .i64 v3787[1]?) && ((isI .i64 v3787[2]?) && ((isI .i64 v3787[3]?) && true)))) then (
                some (.v (.tuple #[.agg #[.int .i64 ((iv v3787[0]?)), .int .i64 ((iv v3787[1]?)), .int .i64 ((iv v3787[2]?)), .int .i64 ((iv v3787[3]?))], .int .i64 0])))
              else (
                none)) F a0 a1 a2 a3 a4 a5 a6 a7 a8 0 0 a0 a1 a2 a3 a4 a5 a6 a7 0 0 0 0 ([.v (.int .i64 a4), .v (.int .i64 a5), .v (.int .i64 a6), .v (.int .i64 a7)]))))))
  else (
    none)
theorem e_ref28_Fade (F : Nat) (a0 : Int) (a1 : Int) (a2 : Int) (a3 : Int) (a4 : Int) (a5 : Int) (a6 : Int) (a7 : Int) (a8 : Int) : funL PP (S_ref28_Fade F) c_ref28_Fade (I_ref28_Fade F) (J_ref28_Fade F) 16 (fTs ti_ref28_Fade [.i a0, .i a1, .i a2, .i a3, .i a4, .i a5, .i a6, .i a7, .i a8]).1 = f_ref28_Fade F a0 a1 a2 a3 a4 a5 a6 a7 a8 := by
  have h : ∀ (ok_ref28_Right : Nat → Int → Int → Int → Int → Int → Int → Int → Int → Bool) (o_ref28_Right_0 : Nat → Int → Int → Int → Int → Int → Int → Int → Int → Int) (L_ref28_Fade_0 : Nat → (Int → Int → Int → Int → Int → Int → Int → Int → Int → Int → Int → Int → Int → Int → Int → Int → Int → Int → Int → Int → Int → Int → Int → List VV → R) → Nat → Int → Int → Int → Int → Int → Int → Int → Int → Int → Int → Int → Int → Int → Int → Int → Int → Int → Int → Int → Int → Int → Int → Int → List VV → R), funL PP (words [(19, spec ti_ref28_Right to_ref28_Right (fun q => (ok_ref28_Right F (atI (nth q 0)) (atI (nth q 1)) (atI (nth q 2)) (atI (nth q 3)) (atI (nth q 4)) (atI (nth q 5)) (atI (nth q 6)) (atI (nth q 7)))) (fun q => [.i (o_ref28_Right_0 F (atI (nth q 0)) (atI (nth q 1)) (atI (nth q 2)) (atI (nth q 3)) (atI (nth q 4)) (atI (nth q 5)) (atI (nth q 6)) (atI (nth q 7)))]))]) c_ref28_Fade (tabI c_ref28_Fade [⟨0, T_ref28_Fade_0, fun k q => L_ref28_Fade_0 F (fun (z0 : Int) (z1 : Int) (z2 : Int) (z3 : Int) (z4 : Int) (z5 : Int) (z6 : Int) (z7 : Int) (z8 : Int) (z9 : Int) (z10 : Int) (z11 : Int) (z12 : Int) (z13 : Int) (z14 : Int) (z15 : Int) (z16 : Int) (z17 : Int) (z18 : Int) (z19 : Int) (z20 : Int) (z21 : Int) (z22 : Int) (z23 : List VV) => k (.exit 0) (fS T_ref28_Fade_0_0 [.i z0, .i z1, .i z2, .i z3, .i z4, .i z5, .i z6, .i z7, .i z8, .i z9, .i z10, .i z11, .i z12, .i z13, .i z14, .i z15, .i z16, .i z17, .i z18, .i z19, .i z20, .i z21, .i z22, .c z23])) F (atI (nth q 0)) (atI (nth q 1)) (atI (nth q 2)) (atI (nth q 3)) (atI (nth q 4)) (atI (nth q 5)) (atI (nth q 6)) (atI (nth q 7)) (atI (nth q 8)) (atI (nth q 9)) (atI (nth q 10)) (atI (nth q 11)) (atI (nth q 12)) (atI (nth q 13)) (atI (nth q 14)) (atI (nth q 15)) (atI (nth q 16)) (atI (nth q 17)) (atI (nth q 18)) (atI (nth q 19)) (atI (nth q 20)) (atI (nth q 21)) (atI (nth q 22)) (atC (nth q 23))⟩]) (tabJ []) 16 (fTs ti_ref28_Fade [.i a0, .i a1, .i a2, .i a3, .i a4, .i a5, .i a6, .i a7, .i a8]).1 = (
  bif (ok_ref28_Right F a0 a1 a2 a3 a4 a5 a6 a7) then (
    bif ((((o_ref28_Right_0 F a0 a1 a2 a3 a4 a5 a6 a7)) != 0)) then (
      some (.v (.tuple #[.agg #[.int .i64 0, .int .i64 0, .int .i64 0, .int .i64 0], .int .i64 2])))
    else (
      bif ((decide (a8 < a7))) then (
        some (.v (.tuple #[.agg #[.int .i64 0, .int .i64 0, .int .i64 0, .int .i64 0], .int .i64 2])))
      else (
        bif ((decide (a8 > 1099511627776))) then (
          some (.v (.tuple #[.agg #[.int .i64 0, .int .i64 0, .int .i64 0, .int .i64 0], .int .i64 2])))
        else (
          bif ((decide (((IntKind.wrap .i64 (a8 - a7))) ≤ a3))) then (
            some (.v (.tuple #[.agg #[.int .i64 a4, .int .i64 a5, .int .i64 a6, .int .i64 a7], .int .i64 0])))
          else (
            L_ref28_Fade_0 F (fun (v3764 : Int) (v3765 : Int) (v3766 : Int) (v3767 : Int) (v3768 : Int) (v3769 : Int) (v3770 : Int) (v3771 : Int) (v3772 : Int) (v3773 : Int) (v3774 : Int) (v3775 : Int) (v3776 : Int) (v3777 : Int) (v3778 : Int) (v3779 : Int) (v3780 : Int) (v3781 : Int) (v3782 : Int) (v3783 : Int) (v3784 : Int) (v3785 : Int) (v3786 : Int) (v3787 : List VV) =>
              bif ((isI .i64 v3787[0]?) && ((isI .i64 v3787[1]?) && ((isI .i64 v3787[2]?) && ((isI .i64 v3787[3]?) && true)))) then (
                some (.v (.tuple #[.agg #[.int .i64 ((iv v3787[0]?)), .int .i64 ((iv v3787[1]?)), .int .i64 ((iv v3787[2]?)), .int .i64 ((iv v3787[3]?))], .int .i64 0])))
              else (
                none)) F a0 a1 a2 a3 a4 a5 a6 a7 a8 0 0 a0 a1 a2 a3 a4 a5 a6 a7 0 0 0 0 ([.v (.int .i64 a4), .v (.int .i64 a5), .v (.int .i64 a6), .v (.int .i64 a7)]))))))
  else (
    none) : R) := by
    intros
    kernel_rfl
  exact (h ok_ref28_Right o_ref28_Right_0 L_ref28_Fade_0).trans (by kernel_rfl)
def ok_ref28_Fade (F : Nat) (a0 : Int) (a1 : Int) (a2 : Int) (a3 : Int) (a4 : Int) (a5 : Int) (a6 : Int) (a7 : Int) (a8 : Int) : Bool := okT to_ref28_Fade (f_ref28_Fade F a0 a1 a2 a3 a4 a5 a6 a7 a8)
def o_ref28_Fade_0 (F : Nat) (a0 : Int) (a1 : Int) (a2 : Int) (a3 : Int) (a4 : Int) (a5 : Int) (a6 : Int) (a7 : Int) (a8 : Int) : Int := atI (nth (outT to_ref28_Fade (f_ref28_Fade F a0 a1 a2 a3 a4 a5 a6 a7 a8)) 0)
def o_ref28_Fade_1 (F : Nat) (a0 : Int) (a1 : Int) (a2 : Int) (a3 : Int) (a4 : Int) (a5 : Int) (a6 : Int) (a7 : Int) (a8 : Int) : Int := atI (nth (outT to_ref28_Fade (f_ref28_Fade F a0 a1 a2 a3 a4 a5 a6 a7 a8)) 1)
def o_ref28_Fade_2 (F : Nat) (a0 : Int) (a1 : Int) (a2 : Int) (a3 : Int) (a4 : Int) (a5 : Int) (a6 : Int) (a7 : Int) (a8 : Int) : Int := atI (nth (outT to_ref28_Fade (f_ref28_Fade F a0 a1 a2 a3 a4 a5 a6 a7 a8)) 2)
def o_ref28_Fade_3 (F : Nat) (a0 : Int) (a1 : Int) (a2 : Int) (a3 : Int) (a4 : Int) (a5 : Int) (a6 : Int) (a7 : Int) (a8 : Int) : Int := atI (nth (outT to_ref28_Fade (f_ref28_Fade F a0 a1 a2 a3 a4 a5 a6 a7 a8)) 3)
def o_ref28_Fade_4 (F : Nat) (a0 : Int) (a1 : Int) (a2 : Int) (a3 : Int) (a4 : Int) (a5 : Int) (a6 : Int) (a7 : Int) (a8 : Int) : Int := atI (nth (outT to_ref28_Fade (f_ref28_Fade F a0 a1 a2 a3 a4 a5 a6 a7 a8)) 4)
theorem k_ref28_Fade (F : Nat) (a0 : Int) (a1 : Int) (a2 : Int) (a3 : Int) (a4 : Int) (a5 : Int) (a6 : Int) (a7 : Int) (a8 : Int) {z0 : Int} {z1 : Int} {z2 : Int} {z3 : Int} {z4 : Int} (h : f_ref28_Fade F a0 a1 a2 a3 a4 a5 a6 a7 a8 = some (.v (.tuple #[.agg #[.int .i64 z0, .int .i64 z1, .int .i64 z2, .int .i64 z3], .int .i64 z4]))) : ok_ref28_Fade F a0 a1 a2 a3 a4 a5 a6 a7 a8 = true ∧ o_ref28_Fade_0 F a0 a1 a2 a3 a4 a5 a6 a7 a8 = z0 ∧ o_ref28_Fade_1 F a0 a1 a2 a3 a4 a5 a6 a7 a8 = z1 ∧ o_ref28_Fade_2 F a0 a1 a2 a3 a4 a5 a6 a7 a8 = z2 ∧ o_ref28_Fade_3 F a0 a1 a2 a3 a4 a5 a6 a7 a8 = z3 ∧ o_ref28_Fade_4 F a0 a1 a2 a3 a4 a5 a6 a7 a8 = z4 := by
  refine ⟨?_, ?_, ?_, ?_, ?_, ?_⟩
  · unfold ok_ref28_Fade; rw [h]; kernel_rfl
  · unfold o_ref28_Fade_0; rw [h]; kernel_rfl
  · unfold o_ref28_Fade_1; rw [h]; kernel_rfl
  · unfold o_ref28_Fade_2; rw [h]; kernel_rfl
  · unfold o_ref28_Fade_3; rw [h]; kernel_rfl
  · unfold o_ref28_Fade_4; rw [h]; kernel_rfl
def s_ref28_Fade (F : Nat) : List VV → Option (Bool × VV) := spec ti_ref28_Fade to_ref28_Fade (fun q => (ok_ref28_Fade F (atI (nth q 0)) (atI (nth q 1)) (atI (nth q 2)) (atI (nth q 3)) (atI (nth q 4)) (atI (nth q 5)) (atI (nth q 6)) (atI (nth q 7)) (atI (nth q 8)))) (fun q => [.i (o_ref28_Fade_0 F (atI (nth q 0)) (atI (nth q 1)) (atI (nth q 2)) (atI (nth q 3)) (atI (nth q 4)) (atI (nth q 5)) (atI (nth q 6)) (atI (nth q 7)) (atI (nth q 8))), .i (o_ref28_Fade_1 F (atI (nth q 0)) (atI (nth q 1)) (atI (nth q 2)) (atI (nth q 3)) (atI (nth q 4)) (atI (nth q 5)) (atI (nth q 6)) (atI (nth q 7)) (atI (nth q 8))), .i (o_ref28_Fade_2 F (atI (nth q 0)) (atI (nth q 1)) (atI (nth q 2)) (atI (nth q 3)) (atI (nth q 4)) (atI (nth q 5)) (atI (nth q 6)) (atI (nth q 7)) (atI (nth q 8))), .i (o_ref28_Fade_3 F (atI (nth q 0)) (atI (nth q 1)) (atI (nth q 2)) (atI (nth q 3)) (atI (nth q 4)) (atI (nth q 5)) (atI (nth q 6)) (atI (nth q 7)) (atI (nth q 8))), .i (o_ref28_Fade_4 F (atI (nth q 0)) (atI (nth q 1)) (atI (nth q 2)) (atI (nth q 3)) (atI (nth q 4)) (atI (nth q 5)) (atI (nth q 6)) (atI (nth q 7)) (atI (nth q 8)))])
theorem hS_ref28_Fade (F : Nat) : ∀ f, Good PP f (unS (S_ref28_Fade F f)) := words_good fun p hp => by
  simp only [List.mem_cons, List.not_mem_nil, or_false] at hp
  rcases hp with rfl
  · exact g_ref28_Right F
theorem hl_ref28_Fade (F : Nat) : ∀ p ∈ loopsIn PP 16, LoopOK PP (S_ref28_Fade F) c_ref28_Fade F (I_ref28_Fade F) (J_ref28_Fade F) p :=
  loops_of [(0, loopAt PP 16 0)] (by kernel_rfl) (all_cons
    (loop_ok (W_ref28_Fade F) rfl (tab_cons (fun _ k q => Le.ofEq ((lL_ref28_Fade_0 F k F (atI (nth q 0)) (atI (nth q 1)) (atI (nth q 2)) (atI (nth q 3)) (atI (nth q 4)) (atI (nth q 5)) (atI (nth q 6)) (atI (nth q 7)) (atI (nth q 8)) (atI (nth q 9)) (atI (nth q 10)) (atI (nth q 11)) (atI (nth q 12)) (atI (nth q 13)) (atI (nth q 14)) (atI (nth q 15)) (atI (nth q 16)) (atI (nth q 17)) (atI (nth q 18)) (atI (nth q 19)) (atI (nth q 20)) (atI (nth q 21)) (atI (nth q 22)) (atC (nth q 23))).symm.trans (congrArg (iterC (codeL PP (S_ref28_Fade F) c_ref28_Fade (I_ref28_Fade F) (J_ref28_Fade F) (loopAt PP 16 0) 0) (headOf c_ref28_Fade 0) k F) (show fS T_ref28_Fade_0 [.i (atI (nth q 0)), .i (atI (nth q 1)), .i (atI (nth q 2)), .i (atI (nth q 3)), .i (atI (nth q 4)), .i (atI (nth q 5)), .i (atI (nth q 6)), .i (atI (nth q 7)), .i (atI (nth q 8)), .i (atI (nth q 9)), .i (atI (nth q 10)), .i (atI (nth q 11)), .i (atI (nth q 12)), .i (atI (nth q 13)), .i (atI (nth q 14)), .i (atI (nth q 15)), .i (atI (nth q 16)), .i (atI (nth q 17)), .i (atI (nth q 18)), .i (atI (nth q 19)), .i (atI (nth q 20)), .i (atI (nth q 21)), .i (atI (nth q 22)), .c (atC (nth q 23))] = fS T_ref28_Fade_0 q by kernel_rfl)))) tab_nil)) all_nil)
theorem hj_ref28_Fade (F : Nat) : ∀ p ∈ joinsIn PP c_ref28_Fade 16, JoinOK PP (S_ref28_Fade F) c_ref28_Fade (I_ref28_Fade F) (J_ref28_Fade F) p :=
  joins_of [] (by kernel_rfl) all_nil
theorem g_ref28_Fade (F : Nat) : Good PP 16 (unS (s_ref28_Fade F)) :=
  fun_spec (hS_ref28_Fade F) (by kernel_rfl) (by kernel_rfl) (C := c_ref28_Fade) (F := fun q => (f_ref28_Fade F (atI (nth q 0)) (atI (nth q 1)) (atI (nth q 2)) (atI (nth q 3)) (atI (nth q 4)) (atI (nth q 5)) (atI (nth q 6)) (atI (nth q 7)) (atI (nth q 8)))) (fun _ => F) (fun _ => I_ref28_Fade F) (fun _ => J_ref28_Fade F) (fun _ => hl_ref28_Fade F) (fun _ => hj_ref28_Fade F)
    (fun q => (congrArg (funL PP (S_ref28_Fade F) c_ref28_Fade (I_ref28_Fade F) (J_ref28_Fade F) 16) (show (fTs ti_ref28_Fade q).1 = (fTs ti_ref28_Fade [.i (atI (nth q 0)), .i (atI (nth q 1)), .i (atI (nth q 2)), .i (atI (nth q 3)), .i (atI (nth q 4)), .i (atI (nth q 5)), .i (atI (nth q 6)), .i (atI (nth q 7)), .i (atI (nth q 8))]).1 by kernel_rfl)).trans (e_ref28_Fade F (atI (nth q 0)) (atI (nth q 1)) (atI (nth q 2)) (atI (nth q 3)) (atI (nth q 4)) (atI (nth q 5)) (atI (nth q 6)) (atI (nth q 7)) (atI (nth q 8))))
    (fun _ h => (okT_fill h).trans (congrArg some (by kernel_rfl)))

end Go.Xv
set_option linter.unusedVariables false
namespace Go.Xv
/- 40 _fix_Sum -/
def c_fix_Sum : Cfg := ⟨[0, 2, 3, 4, 6, 7, 8, 9, 10], [(0, [0, 2, 3, 4, 7, 8, 9, 18, 19, 20, 21])], [15], []⟩
def ti_fix_Sum : List TV := [.fs (.lit 0) .hole 1]
def to_fix_Sum : TV := .v (.tup [.int .i64, .bool])
def S_fix_Sum (F : Nat) : FuncId → List VV → Option (Bool × VV) := words [(67, s_fix_of F), (66, s_wide_Add F), (68, s_fix_clip F)]
def T_fix_Sum_0 : TS := ⟨[(0, .fs (.lit 0) .hole 1), (2, .v (.int .i64)), (3, .v (.bool)), (4, .lp 0 (.lit 0)), (7, .fs (.lit 0) .hole 1), (8, .v (.int .i64)), (9, .v (.int .i64))], [(0, ⟨(.ex [.v (.int .i64), .v (.int .u64)]), true⟩)], 1⟩
def T_fix_Sum_0_0 : TS := ⟨[(0, .fs (.lit 0) .hole 1), (2, .v (.int .i64)), (3, .v (.bool)), (4, .lp 0 (.lit 0)), (7, .fs (.lit 0) .hole 1), (8, .v (.int .i64)), (9, .v (.int .i64))], [(0, ⟨(.ex [.v (.int .i64), .v (.int .u64)]), true⟩)], 1⟩
def B_fix_Sum_0 (F : Nat) (rc : List VV → Nat → Int → Bool → List VV → Nat → Int → Int → Int → Int → R) (ex0 : List VV → Nat → Int → Bool → List VV → Nat → Int → Int → Int → Int → R) (x0 : List VV) (x1 : Nat) (x2 : Int) (x3 : Bool) (x4 : List VV) (x5 : Nat) (x6 : Int) (x7 : Int) (x8 : Int) (x9 : Int) : R :=
  bif ((decide (x7 < x6))) then (
    bif ((decide (0 ≤ x7)) && (decide (x7 < ((x5 : Nat) : Int)))) then (
      let v3281 : Nat := (0 + ((Int.toNat x7) * 1))
      bif ((isI .i64 x4[v3281]?) && true) then (
        let v3282 : Int := (iv x4[v3281]?)
        bif (ok_fix_of F v3282) then (
          let v3283 : Int := (o_fix_of_0 F v3282)
          let v3284 : Int := (o_fix_of_1 F v3282)
          bif (ok_wide_Add F x8 x9 v3283 v3284) then (
            rc x0 x1 x2 x3 x4 x5 x6 ((IntKind.wrap .i64 (x7 + 1))) ((o_wide_Add_0 F x8 x9 v3283 v3284)) ((o_wide_Add_1 F x8 x9 v3283 v3284)))
          else (
            none))
        else (
          none))
      else (
        none))
    else (
      none))
  else (
    ex0 x0 x1 x2 x3 x4 x5 x6 x7 x8 x9)
def L_fix_Sum_0 (F : Nat) (ex0 : List VV → Nat → Int → Bool → List VV → Nat → Int → Int → Int → Int → R) : Nat → List VV → Nat → Int → Bool → List VV → Nat → Int → Int → Int → Int → R
  | 0, _, _, _, _, _, _, _, _, _, _ => none
  | n + 1, x0, x1, x2, x3, x4, x5, x6, x7, x8, x9 => B_fix_Sum_0 F (L_fix_Sum_0 F ex0 n) ex0 x0 x1 x2 x3 x4 x5 x6 x7 x8 x9
def W_fix_Sum (F : Nat) : List LW := [⟨0, T_fix_Sum_0, fun k q => L_fix_Sum_0 F (fun (z0 : List VV) (z1 : Nat) (z2 : Int) (z3 : Bool) (z4 : List VV) (z5 : Nat) (z6 : Int) (z7 : Int) (z8 : Int) (z9 : Int) => k (.exit 0) (fS T_fix_Sum_0_0 [.c z0, .n z1, .i z2, .b z3, .c z4, .n z5, .i z6, .i z7, .i z8, .i z9])) F (atC (nth q 0)) (atN (nth q 1)) (atI (nth q 2)) (atB (nth q 3)) (atC (nth q 4)) (atN (nth q 5)) (atI (nth q 6)) (atI (nth q 7)) (atI (nth q 8)) (atI (nth q 9))⟩]
def I_fix_Sum (F : Nat) : Nat → VS → (Exit → VS → R) → R := tabI c_fix_Sum (W_fix_Sum F)
def WJ_fix_Sum (F : Nat) : List LJ := []
def J_fix_Sum (F : Nat) : Nat → Nat → VS → (Exit → VS → R) → R := tabJ (WJ_fix_Sum F)
theorem lL_fix_Sum_0 (F : Nat) (k : Exit → VS → R) : ∀ (n : Nat) (x0 : List VV) (x1 : Nat) (x2 : Int) (x3 : Bool) (x4 : List VV) (x5 : Nat) (x6 : Int) (x7 : Int) (x8 : Int) (x9 : Int), iterC (codeL PP (S_fix_Sum F) c_fix_Sum (I_fix_Sum F) (J_fix_Sum F) (loopAt PP 40 0) 0) (headOf c_fix_Sum 0) k n (fS T_fix_Sum_0 [.c x0, .n x1, .i x2, .b x3, .c x4, .n x5, .i x6, .i x7, .i x8, .i x9]) = L_fix_Sum_0 F (fun (z0 : List VV) (z1 : Nat) (z2 : Int) (z3 : Bool) (z4 : List VV) (z5 : Nat) (z6 : Int) (z7 : Int) (z8 : Int) (z9 : Int) => k (.exit 0) (fS T_fix_Sum_0_0 [.c z0, .n z1, .i z2, .b z3, .c z4, .n z5, .i z6, .i z7, .i z8, .i z9])) n x0 x1 x2 x3 x4 x5 x6 x7 x8 x9
  | 0, _, _, _, _, _, _, _, _, _, _ => rfl
  | n + 1, x0, x1, x2, x3, x4, x5, x6, x7, x8, x9 => by
    have h0 : ∀ (ok_fix_of : Nat → Int → Bool) (o_fix_of_0 : Nat → Int → Int) (o_fix_of_1 : Nat → Int → Int) (ok_wide_Add : Nat → Int → Int → Int → Int → Bool) (o_wide_Add_0 : Nat → Int → Int → Int → Int → Int) (o_wide_Add_1 : Nat → Int → Int → Int → Int → Int) (ok_fix_clip : Nat → Int → Int → Bool) (o_fix_clip_0 : Nat → Int → Int → Int) (o_fix_clip_1 : Nat → Int → Int → Bool) (L_fix_Sum_0 : Nat → (List VV → Nat → Int → Bool → List VV → Nat → Int → Int → Int → Int → R) → Nat → List VV → Nat → Int → Bool → List VV → Nat → Int → Int → Int → Int → R), iterC (codeL PP (words [(67, spec ti_fix_of to_fix_of (fun q => (ok_fix_of F (atI (nth q 0)))) (fun q => [.i (o_fix_of_0 F (atI (nth q 0))), .i (o_fix_of_1 F (atI (nth q 0)))])), (66, spec ti_wide_Add to_wide_Add (fun q => (ok_wide_Add F (atI (nth q 0)) (atI (nth q 1)) (atI (nth q 2)) (atI (nth q 3)))) (fun q => [.i (o_wide_Add_0 F (atI (nth q 0)) (atI (nth q 1)) (atI (nth q 2)) (atI (nth q 3))), .i (o_wide_Add_1 F (atI (nth q 0)) (atI (nth q 1)) (atI (nth q 2)) (atI (nth q 3)))])), (68, spec ti_fix_clip to_fix_clip (fun q => (ok_fix_clip F (atI (nth q 0)) (atI (nth q 1)))) (fun q => [.i (o_fix_clip_0 F (atI (nth q 0)) (atI (nth q 1))), .b (o_fix_clip_1 F (atI (nth q 0)) (atI (nth q 1)))]))]) c_fix_Sum (tabI c_fix_Sum [⟨0, T_fix_Sum_0, fun k q => L_fix_Sum_0 F (fun (z0 : List VV) (z1 : Nat) (z2 : Int) (z3 : Bool) (z4 : List VV) (z5 : Nat) (z6 : Int) (z7 : Int) (z8 : Int) (z9 : Int) => k (.exit 0) (fS T_fix_Sum_0_0 [.c z0, .n z1, .i z2, .b z3, .c z4, .n z5, .i z6, .i z7, .i z8, .i z9])) F (atC (nth q 0)) (atN (nth q 1)) (atI (nth q 2)) (atB (nth q 3)) (atC (nth q 4)) (atN (nth q 5)) (atI (nth q 6)) (atI (nth q 7)) (atI (nth q 8)) (atI (nth q 9))⟩]) (tabJ []) (loopAt PP 40 0) 0) (headOf c_fix_Sum 0) k (n + 1) (fS T_fix_Sum_0 [.c x0, .n x1, .i x2, .b x3, .c x4, .n x5, .i x6, .i x7, .i x8, .i x9]) = (fun (rc : List VV → Nat → Int → Bool → List VV → Nat → Int → Int → Int → Int → R) (ex0 : List VV → Nat → Int → Bool → List VV → Nat → Int → Int → Int → Int → R) (x0 : List VV) (x1 : Nat) (x2 : Int) (x3 : Bool) (x4 : List VV) (x5 : Nat) (x6 : Int) (x7 : Int) (x8 : Int) (x9 : Int) => (
  bif ((decide (x7 < x6))) then (
    bif ((decide (0 ≤ x7)) && (decide (x7 < ((x5 : Nat) : Int)))) then (
      let v3281 : Nat := (0 + ((Int.toNat x7) * 1))
      bif ((isI .i64 x4[v3281]?) && true) then (
        let v3282 : Int := (iv x4[v3281]?)
        bif (ok_fix_of F v3282) then (
          let v3283 : Int := (o_fix_of_0 F v3282)
          let v3284 : Int := (o_fix_of_1 F v3282)
          bif (ok_wide_Add F x8 x9 v3283 v3284) then (
            rc x0 x1 x2 x3 x4 x5 x6 ((IntKind.wrap .i64 (x7 + 1))) ((o_wide_Add_0 F x8 x9 v3283 v3284)) ((o_wide_Add_1 F x8 x9 v3283 v3284)))
          else (
            none))
        else (
          none))
      else (
        none))
    else (
      none))
  else (
    ex0 x0 x1 x2 x3 x4 x5 x6 x7 x8 x9) : R)) (fun (y0 : List VV) (y1 : Nat) (y2 : Int) (y3 : Bool) (y4 : List VV) (y5 : Nat) (y6 : Int) (y7 : Int) (y8 : Int) (y9 : Int) => iterC (codeL PP (words [(67, spec ti_fix_of to_fix_of (fun q => (ok_fix_of F (atI (nth q 0)))) (fun q => [.i (o_fix_of_0 F (atI (nth q 0))), .i (o_fix_of_1 F (atI (nth q 0)))])), (66, spec ti_wide_Add to_wide_Add (fun q => (ok_wide_Add F (atI (nth q 0)) (atI (nth q 1)) (atI (nth q 2)) (atI (nth q 3)))) (fun q => [.i (o_wide_Add_0 F (atI (nth q 0)) (atI (nth q 1)) (atI (nth q 2)) (atI (nth q 3))), .i (o_wide_Add_1 F (atI (nth q 0)) (atI (nth q 1)) (atI (nth q 2)) (atI (nth q 3)))])), (68, spec ti_fix_clip to_fix_clip (fun q => (ok_fix_clip F (atI (nth q 0)) (atI (nth q 1)))) (fun q => [.i (o_fix_clip_0 F (atI (nth q 0)) (atI (nth q 1))), .b (o_fix_clip_1 F (atI (nth q 0)) (atI (nth q 1)))]))]) c_fix_Sum (tabI c_fix_Sum [⟨0, T_fix_Sum_0, fun k q => L_fix_Sum_0 F (fun (z0 : List VV) (z1 : Nat) (z2 : Int) (z3 : Bool) (z4 : List VV) (z5 : Nat) (z6 : Int) (z7 : Int) (z8 : Int) (z9 : Int) => k (.exit 0) (fS T_fix_Sum_0_0 [.c z0, .n z1, .i z2, .b z3, .c z4, .n z5, .i z6, .i z7, .i z8, .i z9])) F (atC (nth q 0)) (atN (nth q 1)) (atI (nth q 2)) (atB (nth q 3)) (atC (nth q 4)) (atN (nth q 5)) (atI (nth q 6)) (atI (nth q 7)) (atI (nth q 8)) (atI (nth q 9))⟩]) (tabJ []) (loopAt PP 40 0) 0) (headOf c_fix_Sum 0) k n (fS T_fix_Sum_0 [.c y0, .n y1, .i y2, .b y3, .c y4, .n y5, .i y6, .i y7, .i y8, .i y9])) (fun (z0 : List VV) (z1 : Nat) (z2 : Int) (z3 : Bool) (z4 : List VV) (z5 : Nat) (z6 : Int) (z7 : Int) (z8 : Int) (z9 : Int) => k (.exit 0) (fS T_fix_Sum_0_0 [.c z0, .n z1, .i z2, .b z3, .c z4, .n z5, .i z6, .i z7, .i z8, .i z9])) x0 x1 x2 x3 x4 x5 x6 x7 x8 x9 := by
      intros
      kernel_rfl
    have h : iterC (codeL PP (S_fix_Sum F) c_fix_Sum (I_fix_Sum F) (J_fix_Sum F) (loopAt PP 40 0) 0) (headOf c_fix_Sum 0) k (n + 1) (fS T_fix_Sum_0 [.c x0, .n x1, .i x2, .b x3, .c x4, .n x5, .i x6, .i x7, .i x8, .i x9]) = B_fix_Sum_0 F (fun (y0 : List VV) (y1 : Nat) (y2 : Int) (y3 : Bool) (y4 : List VV) (y5 : Nat) (y6 : Int) (y7 : Int) (y8 : Int) (y9 : Int) => iterC (codeL PP (S_fix_Sum F) c_fix_Sum (I_fix_Sum F) (J_fix_Sum F) (loopAt PP 40 0) 0) (headOf c_fix_Sum 0) k n (fS T_fix_Sum_0 [.c y0, .n y1, .i y2, .b y3, .c y4, .n y5, .i y6, .i y7, .i y8, .i y9])) (fun (z0 : List VV) (z1 : Nat) (z2 : Int) (z3 : Bool) (z4 : List VV) (z5 : Nat) (z6 : Int) (z7 : Int) (z8 : Int) (z9 : Int) => k (.exit 0) (fS T_fix_Sum_0_0 [.c z0, .n z1, .i z2, .b z3, .c z4, .n z5, .i z6, .i z7, .i z8, .i z9])) x0 x1 x2 x3 x4 x5 x6 x7 x8 x9 := (h0 ok_fix_of o_fix_of_0 o_fix_of_1 ok_wide_Add o_wide_Add_0 o_wide_Add_1 ok_fix_clip o_fix_clip_0 o_fix_clip_1 L_fix_Sum_0).trans (by kernel_rfl)
    rw [h]
    simp only [lL_fix_Sum_0 F k n]
    rfl
def f_fix_Sum (F : Nat) (a0 : List VV) (a1 : Nat) : R :=
  L_fix_Sum_0 F (fun (v3288 : List VV) (v3289 : Nat) (v3290 : Int) (v3291 : Bool) (v3292 : List VV) (v3293 : Nat) (v3294 : Int) (v3295 : Int) (v3296 : Int) (v3297 : Int) =>
    bif (ok_fix_clip F v3296 v3297) then (
      some (.v (.tuple #[.int .i64 ((o_fix_clip_0 F v3296 v3297)), .bool ((o_fix_clip_1 F v3296 v3297))])))
    else (
      none)) F a0 a1 0 false a0 a1 (((a1 : Nat) : Int)) 0 0 0
theorem e_fix_Sum (F : Nat) (a0 : List VV) (a1 : Nat) : funL PP (S_fix_Sum F) c_fix_Sum (I_fix_Sum F) (J_fix_Sum F) 40 (fTs ti_fix_Sum [.c a0, .n a1]).1 = f_fix_Sum F a0 a1 := by
  have h : ∀ (ok_fix_of : Nat → Int → Bool) (o_fix_of_0 : Nat → Int → Int) (o_fix_of_1 : Nat → Int → Int) (ok_wide_Add : Nat → Int → Int → Int → Int → Bool) (o_wide_Add_0 : Nat → Int → Int → Int → Int → Int) (o_wide_Add_1 : Nat → Int → Int → Int → Int → Int) (ok_fix_clip : Nat → Int → Int → Bool) (o_fix_clip_0 : Nat → Int → Int → Int) (o_fix_clip_1 : Nat → Int → Int → Bool) (L_fix_Sum_0 : Nat → (List VV → Nat → Int → Bool → List VV → Nat → Int → Int → Int → Int → R) → Nat → List VV → Nat → Int → Bool → List VV → Nat → Int → Int → Int → Int → R), funL PP (words [(67, spec ti_fix_of to_fix_of (fun q => (ok_fix_of F (atI (nth q 0)))) (fun q => [.i (o_fix_of_0 F (atI (nth q 0))), .i (o_fix_of_1 F (atI (nth q 0)))])), (66, spec ti_wide_Add to_wide_Add (fun q => (ok_wide_Add F (atI (nth q 0)) (atI (nth q 1)) (atI (nth q 2)) (atI (nth q 3)))) (fun q => [.i (o_wide_Add_0 F (atI (nth q 0)) (atI (nth q 1)) (atI (nth q 2)) (atI (nth q 3))), .i (o_wide_Add_1 F (atI (nth q 0)) (atI (nth q 1)) (atI (nth q 2)) (atI (nth q 3)))])), (68, spec ti_fix_clip to_fix_clip (fun q => (ok_fix_clip F (atI (nth q 0)) (atI (nth q 1)))) (fun q => [.i (o_fix_clip_0 F (atI (nth q 0)) (atI (nth q 1))), .b (o_fix_clip_1 F (atI (nth q 0)) (atI (nth q 1)))]))]) c_fix_Sum (tabI c_fix_Sum [⟨0, T_fix_Sum_0, fun k q => L_fix_Sum_0 F (fun (z0 : List VV) (z1 : Nat) (z2 : Int) (z3 : Bool) (z4 : List VV) (z5 : Nat) (z6 : Int) (z7 : Int) (z8 : Int) (z9 : Int) => k (.exit 0) (fS T_fix_Sum_0_0 [.c z0, .n z1, .i z2, .b z3, .c z4, .n z5, .i z6, .i z7, .i z8, .i z9])) F (atC (nth q 0)) (atN (nth q 1)) (atI (nth q 2)) (atB (nth q 3)) (atC (nth q 4)) (atN (nth q 5)) (atI (nth q 6)) (atI (nth q 7)) (atI (nth q 8)) (atI (nth q 9))⟩]) (tabJ []) 40 (fTs ti_fix_Sum [.c a0, .n a1]).1 = (
  L_fix_Sum_0 F (fun (v3288 : List VV) (v3289 : Nat) (v3290 : Int) (v3291 : Bool) (v3292 : List VV) (v3293 : Nat) (v3294 : Int) (v3295 : Int) (v3296 : Int) (v3297 : Int) =>
    bif (ok_fix_clip F v3296 v3297) then (
      some (.v (.tuple #[.int .i64 ((o_fix_clip_0 F v3296 v3297)), .bool ((o_fix_clip_1 F v3296 v3297))])))
    else (
      none)) F a0 a1 0 false a0 a1 (((a1 : Nat) : Int)) 0 0 0 : R) := by
    intros
    kernel_rfl
  exact (h ok_fix_of o_fix_of_0 o_fix_of_1 ok_wide_Add o_wide_Add_0 o_wide_Add_1 ok_fix_clip o_fix_clip_0 o_fix_clip_1 L_fix_Sum_0).trans (by kernel_rfl)
def ok_fix_Sum (F : Nat) (a0 : List VV) (a1 : Nat) : Bool := okT to_fix_Sum (f_fix_Sum F a0 a1)
def o_fix_Sum_0 (F : Nat) (a0 : List VV) (a1 : Nat) : Int := atI (nth (outT to_fix_Sum (f_fix_Sum F a0 a1)) 0)
def o_fix_Sum_1 (F : Nat) (a0 : List VV) (a1 : Nat) : Bool := atB (nth (outT to_fix_Sum (f_fix_Sum F a0 a1)) 1)
theorem k_fix_Sum (F : Nat) (a0 : List VV) (a1 : Nat) {z0 : Int} {z1 : Bool} (h : f_fix_Sum F a0 a1 = some (.v (.tuple #[.int .i64 z0, .bool z1]))) : ok_fix_Sum F a0 a1 = true ∧ o_fix_Sum_0 F a0 a1 = z0 ∧ o_fix_Sum_1 F a0 a1 = z1 := by
  refine ⟨?_, ?_, ?_⟩
  · unfold ok_fix_Sum; rw [h]; kernel_rfl
  · unfold o_fix_Sum_0; rw [h]; kernel_rfl
  · unfold o_fix_Sum_1; rw [h]; kernel_rfl
def s_fix_Sum (F : Nat) : List VV → Option (Bool × VV) := spec ti_fix_Sum to_fix_Sum (fun q => (ok_fix_Sum F (atC (nth q 0)) (atN (nth q 1)))) (fun q => [.i (o_fix_Sum_0 F (atC (nth q 0)) (atN (nth q 1))), .b (o_fix_Sum_1 F (atC (nth q 0)) (atN (nth q 1)))])
theorem hS_fix_Sum (F : Nat) : ∀ f, Good PP f (unS (S_fix_Sum F f)) := words_good fun p hp => by
  simp only [List.mem_cons, List.not_mem_nil, or_false] at hp
  rcases hp with rfl | rfl | rfl
  · exact g_fix_of F
  · exact g_wide_Add F
  · exact g_fix_clip F
theorem hl_fix_Sum (F : Nat) : ∀ p ∈ loopsIn PP 40, LoopOK PP (S_fix_Sum F) c_fix_Sum F (I_fix_Sum F) (J_fix_Sum F) p :=
  loops_of [(0, loopAt PP 40 0)] (by kernel_rfl) (all_cons
    (loop_ok (W_fix_Sum F) rfl (tab_cons (fun _ k q => Le.ofEq ((lL_fix_Sum_0 F k F (atC (nth q 0)) (atN (nth q 1)) (atI (nth q 2)) (atB (nth q 3)) (atC (nth q 4)) (atN (nth q 5)) (atI (nth q 6)) (atI (nth q 7)) (atI (nth q 8)) (atI (nth q 9))).symm.trans (congrArg (iterC (codeL PP (S_fix_Sum F) c_fix_Sum (I_fix_Sum F) (J_fix_Sum F) (loopAt PP 40 0) 0) (headOf c_fix_Sum 0) k F) (show fS T_fix_Sum_0 [.c (atC (nth q 0)), .n (atN (nth q 1)), .i (atI (nth q 2)), .b (atB (nth q 3)), .c (atC (nth q 4)), .n (atN (nth q 5)), .i (atI (nth q 6)), .i (atI (nth q 7)), .i (atI (nth q 8)), .i (atI (nth q 9))] = fS T_fix_Sum_0 q by kernel_rfl)))) tab_nil)) all_nil)
theorem hj_fix_Sum (F : Nat) : ∀ p ∈ joinsIn PP c_fix_Sum 40, JoinOK PP (S_fix_Sum F) c_fix_Sum (I_fix_Sum F) (J_fix_Sum F) p :=
  joins_of [] (by kernel_rfl) all_nil
theorem g_fix_Sum (F : Nat) : Good PP 40 (unS (s_fix_Sum F)) :=
  fun_spec (hS_fix_Sum F) (by kernel_rfl) (by kernel_rfl) (C := c_fix_Sum) (F := fun q => (f_fix_Sum F (atC (nth q 0)) (atN (nth q 1)))) (fun _ => F) (fun _ => I_fix_Sum F) (fun _ => J_fix_Sum F) (fun _ => hl_fix_Sum F) (fun _ => hj_fix_Sum F)
    (fun q => (congrArg (funL PP (S_fix_Sum F) c_fix_Sum (I_fix_Sum F) (J_fix_Sum F) 40) (show (fTs ti_fix_Sum q).1 = (fTs ti_fix_Sum [.c (atC (nth q 0)), .n (atN (nth q 1))]).1 by kernel_rfl)).trans (e_fix_Sum F (atC (nth q 0)) (atN (nth q 1))))
    (fun _ h => (okT_fill h).trans (congrArg some (by kernel_rfl)))

end Go.Xv
set_option linter.unusedVariables false
namespace Go.Xv
/- 20 _fuse_Bound -/
def c_fuse_Bound : Cfg := ⟨[0, 1, 2, 3, 8, 9, 10, 11, 25], [], [35], []⟩
def ti_fuse_Bound : List TV := [.v (.int .i64), .v (.int .i64), .v (.int .i64), .v (.int .i64)]
def to_fuse_Bound : TV := .v (.int .i64)
def S_fuse_Bound (F : Nat) : FuncId → List VV → Option (Bool × VV) := words [(40, s_fix_Sum F)]
def W_fuse_Bound (F : Nat) : List LW := []
def I_fuse_Bound (F : Nat) : Nat → VS → (Exit → VS → R) → R := tabI c_fuse_Bound (W_fuse_Bound F)
def WJ_fuse_Bound (F : Nat) : List LJ := []
def J_fuse_Bound (F : Nat) : Nat → Nat → VS → (Exit → VS → R) → R := tabJ (WJ_fuse_Bound F)
def f_fuse_Bound (F : Nat) (a0 : Int) (a1 : Int) (a2 : Int) (a3 : Int) : R :=
  let v3261 : Int := (if 0 > a3 then 0 else a3)
  let v3262 : Int := (if 65535 < v3261 then 65535 else v3261)
  let v3263 : Int := (if 0 > a1 then 0 else a1)
  bif ((decide (v3262 > 0))) then (
    bif (!(decide (v3262 = 0))) then (
      bif ((decide (v3263 > ((IntKind.wrap .i64 (Int.tdiv 9223372036854775807 v3262)))))) then (
        let v3267 : Int := (if 0 > a0 then 0 else a0)
        let v3268 : Int := (if 0 > a2 then 0 else a2)
        bif (ok_fix_Sum F ([.v (.int .i64 v3267), .v (.int .i64 v3268), .v (.int .i64 9223372036854775807)]) 3) then (
          some (.v (.int .i64 ((o_fix_Sum_0 F ([.v (.int .i64 v3267), .v (.int .i64 v3268), .v (.int .i64 9223372036854775807)]) 3)))))
        else (
          none))
      else (
        let v3302 : Int := (IntKind.wrap .i64 (v3263 * v3262))
        let v3303 : Int := (if 0 > a0 then 0 else a0)
        let v3304 : Int := (if 0 > a2 then 0 else a2)
        bif (ok_fix_Sum F ([.v (.int .i64 v3303), .v (.int .i64 v3304), .v (.int .i64 v3302)]) 3) then (
          some (.v (.int .i64 ((o_fix_Sum_0 F ([.v (.int .i64 v3303), .v (.int .i64 v3304), .v (.int .i64 v3302)]) 3)))))
        else (
          none)))
    else (
      none))
  else (
    let v3307 : Int := (IntKind.wrap .i64 (v3263 * v3262))
    let v3308 : Int := (if 0 > a0 then 0 else a0)
    let v3309 : Int := (if 0 > a2 then 0 else a2)
    bif (ok_fix_Sum F ([.v (.int .i64 v3308), .v (.int .i64 v3309), .v (.int .i64 v3307)]) 3) then (
      some (.v (.int .i64 ((o_fix_Sum_0 F ([.v (.int .i64 v3308), .v (.int .i64 v3309), .v (.int .i64 v3307)]) 3)))))
    else (
      none))
theorem e_fuse_Bound (F : Nat) (a0 : Int) (a1 : Int) (a2 : Int) (a3 : Int) : funL PP (S_fuse_Bound F) c_fuse_Bound (I_fuse_Bound F) (J_fuse_Bound F) 20 (fTs ti_fuse_Bound [.i a0, .i a1, .i a2, .i a3]).1 = f_fuse_Bound F a0 a1 a2 a3 := by
  have h : ∀ (ok_fix_Sum : Nat → List VV → Nat → Bool) (o_fix_Sum_0 : Nat → List VV → Nat → Int) (o_fix_Sum_1 : Nat → List VV → Nat → Bool), funL PP (words [(40, spec ti_fix_Sum to_fix_Sum (fun q => (ok_fix_Sum F (atC (nth q 0)) (atN (nth q 1)))) (fun q => [.i (o_fix_Sum_0 F (atC (nth q 0)) (atN (nth q 1))), .b (o_fix_Sum_1 F (atC (nth q 0)) (atN (nth q 1)))]))]) c_fuse_Bound (tabI c_fuse_Bound []) (tabJ []) 20 (fTs ti_fuse_Bound [.i a0, .i a1, .i a2, .i a3]).1 = (
  let v3261 : Int := (if 0 > a3 then 0 else a3)
  let v3262 : Int := (if 65535 < v3261 then 65535 else v3261)
  let v3263 : Int := (if 0 > a1 then 0 else a1)
  bif ((decide (v3262 > 0))) then (
    bif (!(decide (v3262 = 0))) then (
      bif ((decide (v3263 > ((IntKind.wrap .i64 (Int.tdiv 9223372036854775807 v3262)))))) then (
        let v3267 : Int := (if 0 > a0 then 0 else a0)
        let v3268 : Int := (if 0 > a2 then 0 else a2)
        bif (ok_fix_Sum F ([.v (.int .i64 v3267), .v (.int .i64 v3268), .v (.int .i64 9223372036854775807)]) 3) then (
          some (.v (.int .i64 ((o_fix_Sum_0 F ([.v (.int .i64 v3267), .v (.int .i64 v3268), .v (.int .i64 9223372036854775807)]) 3)))))
        else (
          none))
      else (
        let v3302 : Int := (IntKind.wrap .i64 (v3263 * v3262))
        let v3303 : Int := (if 0 > a0 then 0 else a0)
        let v3304 : Int := (if 0 > a2 then 0 else a2)
        bif (ok_fix_Sum F ([.v (.int .i64 v3303), .v (.int .i64 v3304), .v (.int .i64 v3302)]) 3) then (
          some (.v (.int .i64 ((o_fix_Sum_0 F ([.v (.int .i64 v3303), .v (.int .i64 v3304), .v (.int .i64 v3302)]) 3)))))
        else (
          none)))
    else (
      none))
  else (
    let v3307 : Int := (IntKind.wrap .i64 (v3263 * v3262))
    let v3308 : Int := (if 0 > a0 then 0 else a0)
    let v3309 : Int := (if 0 > a2 then 0 else a2)
    bif (ok_fix_Sum F ([.v (.int .i64 v3308), .v (.int .i64 v3309), .v (.int .i64 v3307)]) 3) then (
      some (.v (.int .i64 ((o_fix_Sum_0 F ([.v (.int .i64 v3308), .v (.int .i64 v3309), .v (.int .i64 v3307)]) 3)))))
    else (
      none)) : R) := by
    intros
    kernel_rfl
  exact (h ok_fix_Sum o_fix_Sum_0 o_fix_Sum_1).trans (by kernel_rfl)
def ok_fuse_Bound (F : Nat) (a0 : Int) (a1 : Int) (a2 : Int) (a3 : Int) : Bool := okT to_fuse_Bound (f_fuse_Bound F a0 a1 a2 a3)
def o_fuse_Bound_0 (F : Nat) (a0 : Int) (a1 : Int) (a2 : Int) (a3 : Int) : Int := atI (nth (outT to_fuse_Bound (f_fuse_Bound F a0 a1 a2 a3)) 0)
theorem k_fuse_Bound (F : Nat) (a0 : Int) (a1 : Int) (a2 : Int) (a3 : Int) {z0 : Int} (h : f_fuse_Bound F a0 a1 a2 a3 = some (.v (.int .i64 z0))) : ok_fuse_Bound F a0 a1 a2 a3 = true ∧ o_fuse_Bound_0 F a0 a1 a2 a3 = z0 := by
  refine ⟨?_, ?_⟩
  · unfold ok_fuse_Bound; rw [h]; kernel_rfl
  · unfold o_fuse_Bound_0; rw [h]; kernel_rfl
def s_fuse_Bound (F : Nat) : List VV → Option (Bool × VV) := spec ti_fuse_Bound to_fuse_Bound (fun q => (ok_fuse_Bound F (atI (nth q 0)) (atI (nth q 1)) (atI (nth q 2)) (atI (nth q 3)))) (fun q => [.i (o_fuse_Bound_0 F (atI (nth q 0)) (atI (nth q 1)) (atI (nth q 2)) (atI (nth q 3)))])
theorem hS_fuse_Bound (F : Nat) : ∀ f, Good PP f (unS (S_fuse_Bound F f)) := words_good fun p hp => by
  simp only [List.mem_cons, List.not_mem_nil, or_false] at hp
  rcases hp with rfl
  · exact g_fix_Sum F
theorem hl_fuse_Bound (F : Nat) : ∀ p ∈ loopsIn PP 20, LoopOK PP (S_fuse_Bound F) c_fuse_Bound F (I_fuse_Bound F) (J_fuse_Bound F) p :=
  loops_of [] (by kernel_rfl) all_nil
theorem hj_fuse_Bound (F : Nat) : ∀ p ∈ joinsIn PP c_fuse_Bound 20, JoinOK PP (S_fuse_Bound F) c_fuse_Bound (I_fuse_Bound F) (J_fuse_Bound F) p :=
  joins_of [] (by kernel_rfl) all_nil
theorem g_fuse_Bound (F : Nat) : Good PP 20 (unS (s_fuse_Bound F)) :=
  fun_spec (hS_fuse_Bound F) (by kernel_rfl) (by kernel_rfl) (C := c_fuse_Bound) (F := fun q => (f_fuse_Bound F (atI (nth q 0)) (atI (nth q 1)) (atI (nth q 2)) (atI (nth q 3)))) (fun _ => F) (fun _ => I_fuse_Bound F) (fun _ => J_fuse_Bound F) (fun _ => hl_fuse_Bound F) (fun _ => hj_fuse_Bound F)
    (fun q => (congrArg (funL PP (S_fuse_Bound F) c_fuse_Bound (I_fuse_Bound F) (J_fuse_Bound F) 20) (show (fTs ti_fuse_Bound q).1 = (fTs ti_fuse_Bound [.i (atI (nth q 0)), .i (atI (nth q 1)), .i (atI (nth q 2)), .i (atI (nth q 3))]).1 by kernel_rfl)).trans (e_fuse_Bound F (atI (nth q 0)) (atI (nth q 1)) (atI (nth q 2)) (atI (nth q 3))))
    (fun _ h => (okT_fill h).trans (congrArg some (by kernel_rfl)))

end Go.Xv
set_option linter.unusedVariables false
namespace Go.Xv
/- 43 _ref02_Sum -/
def c_ref02_Sum : Cfg := ⟨[0, 2, 3, 4, 5, 10], [(0, [0, 2, 3, 4, 5, 6, 20, 21, 22, 23])], [18], []⟩
def ti_ref02_Sum : List TV := [.fs (.lit 0) .hole 1]
def to_ref02_Sum : TV := .v (.tup [.int .i64, .bool])
def S_ref02_Sum (F : Nat) : FuncId → List VV → Option (Bool × VV) := words [(61, s_ref01_Of F), (63, s_ref01_Add F), (60, s_ref02_clip F)]
def T_ref02_Sum_0 : TS := ⟨[(0, .fs (.lit 0) .hole 1), (2, .v (.int .i64)), (3, .v (.bool)), (4, .lp 0 (.lit 0)), (5, .v (.int .i64))], [(0, ⟨(.ex [.v (.int .i64), .v (.int .u64)]), true⟩)], 1⟩
def T_ref02_Sum_0_0 : TS := ⟨[(0, .fs (.lit 0) .hole 1), (2, .v (.int .i64)), (3, .v (.bool)), (4, .lp 0 (.lit 0)), (5, .v (.int .i64))], [(0, ⟨(.ex [.v (.int .i64), .v (.int .u64)]), true⟩)], 1⟩
def B_ref02_Sum_0 (F : Nat) (rc : List VV → Nat → Int → Bool → Int → Int → Int → R) (ex0 : List VV → Nat → Int → Bool → Int → Int → Int → R) (x0 : List VV) (x1 : Nat) (x2 : Int) (x3 : Bool) (x4 : Int) (x5 : Int) (x6 : Int) : R :=
  bif ((decide (x4 < (((x1 : Nat) : Int))))) then (
    bif ((decide (0 ≤ x4)) && (decide (x4 < ((x1 : Nat) : Int)))) then (
      let v3846 : Nat := (0 + ((Int.toNat x4) * 1))
      bif ((isI .i64 x0[v3846]?) && true) then (
        let v3847 : Int := (iv x0[v3846]?)
        bif (ok_ref01_Of F v3847) then (
          let v3848 : Int := (o_ref01_Of_0 F v3847)
          let v3849 : Int := (o_ref01_Of_1 F v3847)
          bif (ok_ref01_Add F x5 x6 v3848 v3849) then (
            rc x0 x1 x2 x3 ((IntKind.wrap .i64 (x4 + 1))) ((o_ref01_Add_0 F x5 x6 v3848 v3849)) ((o_ref01_Add_1 F x5 x6 v3848 v3849)))
          else (
            none))
        else (
          none))
      else (
        none))
    else (
      none))
  else (
    ex0 x0 x1 x2 x3 x4 x5 x6)
def L_ref02_Sum_0 (F : Nat) (ex0 : List VV → Nat → Int → Bool → Int → Int → Int → R) : Nat → List VV → Nat → Int → Bool → Int → Int → Int → R
  | 0, _, _, _, _, _, _, _ => none
  | n + 1, x0, x1, x2, x3, x4, x5, x6 => B_ref02_Sum_0 F (L_ref02_Sum_0 F ex0 n) ex0 x0 x1 x2 x3 x4 x5 x6
def W_ref02_Sum (F : Nat) : List LW := [⟨0, T_ref02_Sum_0, fun k q => L_ref02_Sum_0 F (fun (z0 : List VV) (z1 : Nat) (z2 : Int) (z3 : Bool) (z4 : Int) (z5 : Int) (z6 : Int) => k (.exit 0) (fS T_ref02_Sum_0_0 [.c z0, .n z1, .i z2, .b z3, .i z4, .i z5, .i z6])) F (atC (nth q 0)) (atN (nth q 1)) (atI (nth q 2)) (atB (nth q 3)) (atI (nth q 4)) (atI (nth q 5)) (atI (nth q 6))⟩]
def I_ref02_Sum (F : Nat) : Nat → VS → (Exit → VS → R) → R := tabI c_ref02_Sum (W_ref02_Sum F)
def WJ_ref02_Sum (F : Nat) : List LJ := []
def J_ref02_Sum (F : Nat) : Nat → Nat → VS → (Exit → VS → R) → R := tabJ (WJ_ref02_Sum F)
theorem lL_ref02_Sum_0 (F : Nat) (k : Exit → VS → R) : ∀ (n : Nat) (x0 : List VV) (x1 : Nat) (x2 : Int) (x3 : Bool) (x4 : Int) (x5 : Int) (x6 : Int), iterC (codeL PP (S_ref02_Sum F) c_ref02_Sum (I_ref02_Sum F) (J_ref02_Sum F) (loopAt PP 43 0) 0) (headOf c_ref02_Sum 0) k n (fS T_ref02_Sum_0 [.c x0, .n x1, .i x2, .b x3, .i x4, .i x5, .i x6]) = L_ref02_Sum_0 F (fun (z0 : List VV) (z1 : Nat) (z2 : Int) (z3 : Bool) (z4 : Int) (z5 : Int) (z6 : Int) => k (.exit 0) (fS T_ref02_Sum_0_0 [.c z0, .n z1, .i z2, .b z3, .i z4, .i z5, .i z6])) n x0 x1 x2 x3 x4 x5 x6
  | 0, _, _, _, _, _, _, _ => rfl
  | n + 1, x0, x1, x2, x3, x4, x5, x6 => by
    have h0 : ∀ (ok_ref01_Of : Nat → Int → Bool) (o_ref01_Of_0 : Nat → Int → Int) (o_ref01_Of_1 : Nat → Int → Int) (ok_ref01_Add : Nat → Int → Int → Int → Int → Bool) (o_ref01_Add_0 : Nat → Int → Int → Int → Int → Int) (o_ref01_Add_1 : Nat → Int → Int → Int → Int → Int) (ok_ref02_clip : Nat → Int → Int → Bool) (o_ref02_clip_0 : Nat → Int → Int → Int) (o_ref02_clip_1 : Nat → Int → Int → Bool) (L_ref02_Sum_0 : Nat → (List VV → Nat → Int → Bool → Int → Int → Int → R) → Nat → List VV → Nat → Int → Bool → Int → Int → Int → R), iterC (codeL PP (words [(61, spec ti_ref01_Of to_ref01_Of (fun q => (ok_ref01_Of F (atI (nth q 0)))) (fun q => [.i (o_ref01_Of_0 F (atI (nth q 0))), .i (o_ref01_Of_1 F (atI (nth q 0)))])), (63, spec ti_ref01_Add to_ref01_Add (fun q => (ok_ref01_Add F (atI (nth q 0)) (atI (nth q 1)) (atI (nth q 2)) (atI (nth q 3)))) (fun q => [.i (o_ref01_Add_0 F (atI (nth q 0)) (atI (nth q 1)) (atI (nth q 2)) (atI (nth q 3))), .i (o_ref01_Add_1 F (atI (nth q 0)) (atI (nth q 1)) (atI (nth q 2)) (atI (nth q 3)))])), (60, spec ti_ref02_clip to_ref02_clip (fun q => (ok_ref02_clip F (atI (nth q 0)) (atI (nth q 1)))) (fun q => [.i (o_ref02_clip_0 F (atI (nth q 0)) (atI (nth q 1))), .b (o_ref02_clip_1 F (atI (nth q 0)) (atI (nth q 1)))]))]) c_ref02_Sum (tabI c_ref02_Sum [⟨0, T_ref02_Sum_0, fun k q => L_ref02_Sum_0 F (fun (z0 : List VV) (z1 : Nat) (z2 : Int) (z3 : Bool) (z4 : Int) (z5 : Int) (z6 : Int) => k (.exit 0) (fS T_ref02_Sum_0_0 [.c z0, .n z1, .i z2, .b z3, .i z4, .i z5, .i z6])) F (atC (nth q 0)) (atN (nth q 1)) (atI (nth q 2)) (atB (nth q 3)) (atI (nth q 4)) (atI (nth q 5)) (atI (nth q 6))⟩]) (tabJ []) (loopAt PP 43 0) 0) (headOf c_ref02_Sum 0) k (n + 1) (fS T_ref02_Sum_0 [.c x0, .n x1, .i x2, .b x3, .i x4, .i x5, .i x6]) = (fun (rc : List VV → Nat → Int → Bool → Int → Int → Int → R) (ex0 : List VV → Nat → Int → Bool → Int → Int → Int → R) (x0 : List VV) (x1 : Nat) (x2 : Int) (x3 : Bool) (x4 : Int) (x5 : Int) (x6 : Int) => (
  bif ((decide (x4 < (((x1 : Nat) : Int))))) then (
    bif ((decide (0 ≤ x4)) && (decide (x4 < ((x1 : Nat) : Int)))) then (
      let v3846 : Nat := (0 + ((Int.toNat x4) * 1))
      bif ((isI .i64 x0[v3846]?) && true) then (
        let v3847 : Int := (iv x0[v3846]?)
        bif (ok_ref01_Of F v3847) then (
          let v3848 : Int := (o_ref01_Of_0 F v3847)
          let v3849 : Int := (o_ref01_Of_1 F v3847)
          bif (ok_ref01_Add F x5 x6 v3848 v3849) then (
            rc x0 x1 x2 x3 ((IntKind.wrap .i64 (x4 + 1))) ((o_ref01_Add_0 F x5 x6 v3848 v3849)) ((o_ref01_Add_1 F x5 x6 v3848 v3849)))
          else (
            none))
        else (
          none))
      else (
        none))
    else (
      none))
  else (
    ex0 x0 x1 x2 x3 x4 x5 x6) : R)) (fun (y0 : List VV) (y1 : Nat) (y2 : Int) (y3 : Bool) (y4 : Int) (y5 : Int) (y6 : Int) => iterC (codeL PP (words [(61, spec ti_ref01_Of to_ref01_Of (fun q => (ok_ref01_Of F (atI (nth q 0)))) (fun q => [.i (o_ref01_Of_0 F (atI (nth q 0))), .i (o_ref01_Of_1 F (atI (nth q 0)))])), (63, spec ti_ref01_Add to_ref01_Add (fun q => (ok_ref01_Add F (atI (nth q 0)) (atI (nth q 1)) (atI (nth q 2)) (atI (nth q 3)))) (fun q => [.i (o_ref01_Add_0 F (atI (nth q 0)) (atI (nth q 1)) (atI (nth q 2)) (atI (nth q 3))), .i (o_ref01_Add_1 F (atI (nth q 0)) (atI (nth q 1)) (atI (nth q 2)) (atI (nth q 3)))])), (60, spec ti_ref02_clip to_ref02_clip (fun q => (ok_ref02_clip F (atI (nth q 0)) (atI (nth q 1)))) (fun q => [.i (o_ref02_clip_0 F (atI (nth q 0)) (atI (nth q 1))), .b (o_ref02_clip_1 F (atI (nth q 0)) (atI (nth q 1)))]))]) c_ref02_Sum (tabI c_ref02_Sum [⟨0, T_ref02_Sum_0, fun k q => L_ref02_Sum_0 F (fun (z0 : List VV) (z1 : Nat) (z2 : Int) (z3 : Bool) (z4 : Int) (z5 : Int) (z6 : Int) => k (.exit 0) (fS T_ref02_Sum_0_0 [.c z0, .n z1, .i z2, .b z3, .i z4, .i z5, .i z6])) F (atC (nth q 0)) (atN (nth q 1)) (atI (nth q 2)) (atB (nth q 3)) (atI (nth q 4)) (atI (nth q 5)) (atI (nth q 6))⟩]) (tabJ []) (loopAt PP 43 0) 0) (headOf c_ref02_Sum 0) k n (fS T_ref02_Sum_0 [.c y0, .n y1, .i y2, .b y3, .i y4, .i y5, .i y6])) (fun (z0 : List VV) (z1 : Nat) (z2 : Int) (z3 : Bool) (z4 : Int) (z5 : Int) (z6 : Int) => k (.exit 0) (fS T_ref02_Sum_0_0 [.c z0, .n z1, .i z2, .b z3, .i z4, .i z5, .i z6])) x0 x1 x2 x3 x4 x5 x6 := by
      intros
      kernel_rfl
    have h : iterC (codeL PP (S_ref02_Sum F) c_ref02_Sum (I_ref02_Sum F) (J_ref02_Sum F) (loopAt PP 43 0) 0) (headOf c_ref02_Sum 0) k (n + 1) (fS T_ref02_Sum_0 [.c x0, .n x1, .i x2, .b x3, .i x4, .i x5, .i x6]) = B_ref02_Sum_0 F (fun (y0 : List VV) (y1 : Nat) (y2 : Int) (y3 : Bool) (y4 : Int) (y5 : Int) (y6 : Int) => iterC (codeL PP (S_ref02_Sum F) c_ref02_Sum (I_ref02_Sum F) (J_ref02_Sum F) (loopAt PP 43 0) 0) (headOf c_ref02_Sum 0) k n (fS T_ref02_Sum_0 [.c y0, .n y1, .i y2, .b y3, .i y4, .i y5, .i y6])) (fun (z0 : List VV) (z1 : Nat) (z2 : Int) (z3 : Bool) (z4 : Int) (z5 : Int) (z6 : Int) => k (.exit 0) (fS T_ref02_Sum_0_0 [.c z0, .n z1, .i z2, .b z3, .i z4, .i z5, .i z6])) x0 x1 x2 x3 x4 x5 x6 := (h0 ok_ref01_Of o_ref01_Of_0 o_ref01_Of_1 ok_ref01_Add o_ref01_Add_0 o_ref01_Add_1 ok_ref02_clip o_ref02_clip_0 o_ref02_clip_1 L_ref02_Sum_0).trans (by kernel_rfl)
    rw [h]
    simp only [lL_ref02_Sum_0 F k n]
    rfl
def f_ref02_Sum (F : Nat) (a0 : List VV) (a1 : Nat) : R :=
  L_ref02_Sum_0 F (fun (v3853 : List VV) (v3854 : Nat) (v3855 : Int) (v3856 : Bool) (v3857 : Int) (v3858 : Int) (v3859 : Int) =>
    bif (ok_ref02_clip F v3858 v3859) then (
      some (.v (.tuple #[.int .i64 ((o_ref02_clip_0 F v3858 v3859)), .bool ((o_ref02_clip_1 F v3858 v3859))])))
    else (
      none)) F a0 a1 0 false 0 0 0
theorem e_ref02_Sum (F : Nat) (a0 : List VV) (a1 : Nat) : funL PP (S_ref02_Sum F) c_ref02_Sum (I_ref02_Sum F) (J_ref02_Sum F) 43 (fTs ti_ref02_Sum [.c a0, .n a1]).1 = f_ref02_Sum F a0 a1 := by
  have h : ∀ (ok_ref01_Of : Nat → Int → Bool) (o_ref01_Of_0 : Nat → Int → Int) (o_ref01_Of_1 : Nat → Int → Int) (ok_ref01_Add : Nat → Int → Int → Int → Int → Bool) (o_ref01_Add_0 : Nat → Int → Int → Int → Int → Int) (o_ref01_Add_1 : Nat → Int → Int → Int → Int → Int) (ok_ref02_clip : Nat → Int → Int → Bool) (o_ref02_clip_0 : Nat → Int → Int → Int) (o_ref02_clip_1 : Nat → Int → Int → Bool) (L_ref02_Sum_0 : Nat → (List VV → Nat → Int → Bool → Int → Int → Int → R) → Nat → List VV → Nat → Int → Bool → Int → Int → Int → R), funL PP (words [(61, spec ti_ref01_Of to_ref01_Of (fun q => (ok_ref01_Of F (atI (nth q 0)))) (fun q => [.i (o_ref01_Of_0 F (atI (nth q 0))), .i (o_ref01_Of_1 F (atI (nth q 0)))])), (63, spec ti_ref01_Add to_ref01_Add (fun q => (ok_ref01_Add F (atI (nth q 0)) (atI (nth q 1)) (atI (nth q 2)) (atI (nth q 3)))) (fun q => [.i (o_ref01_Add_0 F (atI (nth q 0)) (atI (nth q 1)) (atI (nth q 2)) (atI (nth q 3))), .i (o_ref01_Add_1 F (atI (nth q 0)) (atI (nth q 1)) (atI (nth q 2)) (atI (nth q 3)))])), (60, spec ti_ref02_clip to_ref02_clip (fun q => (ok_ref02_clip F (atI (nth q 0)) (atI (nth q 1)))) (fun q => [.i (o_ref02_clip_0 F (atI (nth q 0)) (atI (nth q 1))), .b (o_ref02_clip_1 F (atI (nth q 0)) (atI (nth q 1)))]))]) c_ref02_Sum (tabI c_ref02_Sum [⟨0, T_ref02_Sum_0, fun k q => L_ref02_Sum_0 F (fun (z0 : List VV) (z1 : Nat) (z2 : Int) (z3 : Bool) (z4 : Int) (z5 : Int) (z6 : Int) => k (.exit 0) (fS T_ref02_Sum_0_0 [.c z0, .n z1, .i z2, .b z3, .i z4, .i z5, .i z6])) F (atC (nth q 0)) (atN (nth q 1)) (atI (nth q 2)) (atB (nth q 3)) (atI (nth q 4)) (atI (nth q 5)) (atI (nth q 6))⟩]) (tabJ []) 43 (fTs ti_ref02_Sum [.c a0, .n a1]).1 = (
  L_ref02_Sum_0 F (fun (v3853 : List VV) (v3854 : Nat) (v3855 : Int) (v3856 : Bool) (v3857 : Int) (v3858 : Int) (v3859 : Int) =>
    bif (ok_ref02_clip F v3858 v3859) then (
      some (.v (.tuple #[.int .i64 ((o_ref02_clip_0 F v3858 v3859)), .bool ((o_ref02_clip_1 F v3858 v3859))])))
    else (
      none)) F a0 a1 0 false 0 0 0 : R) := by
    intros
    kernel_rfl
  exact (h ok_ref01_Of o_ref01_Of_0 o_ref01_Of_1 ok_ref01_Add o_ref01_Add_0 o_ref01_Add_1 ok_ref02_clip o_ref02_clip_0 o_ref02_clip_1 L_ref02_Sum_0).trans (by kernel_rfl)
def ok_ref02_Sum (F : Nat) (a0 : List VV) (a1 : Nat) : Bool := okT to_ref02_Sum (f_ref02_Sum F a0 a1)
def o_ref02_Sum_0 (F : Nat) (a0 : List VV) (a1 : Nat) : Int := atI (nth (outT to_ref02_Sum (f_ref02_Sum F a0 a1)) 0)
def o_ref02_Sum_1 (F : Nat) (a0 : List VV) (a1 : Nat) : Bool := atB (nth (outT to_ref02_Sum (f_ref02_Sum F a0 a1)) 1)
theorem k_ref02_Sum (F : Nat) (a0 : List VV) (a1 : Nat) {z0 : Int} {z1 : Bool} (h : f_ref02_Sum F a0 a1 = some (.v (.tuple #[.int .i64 z0, .bool z1]))) : ok_ref02_Sum F a0 a1 = true ∧ o_ref02_Sum_0 F a0 a1 = z0 ∧ o_ref02_Sum_1 F a0 a1 = z1 := by
  refine ⟨?_, ?_, ?_⟩
  · unfold ok_ref02_Sum; rw [h]; kernel_rfl
  · unfold o_ref02_Sum_0; rw [h]; kernel_rfl
  · unfold o_ref02_Sum_1; rw [h]; kernel_rfl
def s_ref02_Sum (F : Nat) : List VV → Option (Bool × VV) := spec ti_ref02_Sum to_ref02_Sum (fun q => (ok_ref02_Sum F (atC (nth q 0)) (atN (nth q 1)))) (fun q => [.i (o_ref02_Sum_0 F (atC (nth q 0)) (atN (nth q 1))), .b (o_ref02_Sum_1 F (atC (nth q 0)) (atN (nth q 1)))])
theorem hS_ref02_Sum (F : Nat) : ∀ f, Good PP f (unS (S_ref02_Sum F f)) := words_good fun p hp => by
  simp only [List.mem_cons, List.not_mem_nil, or_false] at hp
  rcases hp with rfl | rfl | rfl
  · exact g_ref01_Of F
  · exact g_ref01_Add F
  · exact g_ref02_clip F
theorem hl_ref02_Sum (F : Nat) : ∀ p ∈ loopsIn PP 43, LoopOK PP (S_ref02_Sum F) c_ref02_Sum F (I_ref02_Sum F) (J_ref02_Sum F) p :=
  loops_of [(0, loopAt PP 43 0)] (by kernel_rfl) (all_cons
    (loop_ok (W_ref02_Sum F) rfl (tab_cons (fun _ k q => Le.ofEq ((lL_ref02_Sum_0 F k F (atC (nth q 0)) (atN (nth q 1)) (atI (nth q 2)) (atB (nth q 3)) (atI (nth q 4)) (atI (nth q 5)) (atI (nth q 6))).symm.trans (congrArg (iterC (codeL PP (S_ref02_Sum F) c_ref02_Sum (I_ref02_Sum F) (J_ref02_Sum F) (loopAt PP 43 0) 0) (headOf c_ref02_Sum 0) k F) (show fS T_ref02_Sum_0 [.c (atC (nth q 0)), .n (atN (nth q 1)), .i (atI (nth q 2)), .b (atB (nth q 3)), .i (atI (nth q 4)), .i (atI (nth q 5)), .i (atI (nth q 6))] = fS T_ref02_Sum_0 q by kernel_rfl)))) tab_nil)) all_nil)
theorem hj_ref02_Sum (F : Nat) : ∀ p ∈ joinsIn PP c_ref02_Sum 43, JoinOK PP (S_ref02_Sum F) c_ref02_Sum (I_ref02_Sum F) (J_ref02_Sum F) p :=
  joins_of [] (by kernel_rfl) all_nil
theorem g_ref02_Sum (F : Nat) : Good PP 43 (unS (s_ref02_Sum F)) :=
  fun_spec (hS_ref02_Sum F) (by kernel_rfl) (by kernel_rfl) (C := c_ref02_Sum) (F := fun q => (f_ref02_Sum F (atC (nth q 0)) (atN (nth q 1)))) (fun _ => F) (fun _ => I_ref02_Sum F) (fun _ => J_ref02_Sum F) (fun _ => hl_ref02_Sum F) (fun _ => hj_ref02_Sum F)
    (fun q => (congrArg (funL PP (S_ref02_Sum F) c_ref02_Sum (I_ref02_Sum F) (J_ref02_Sum F) 43) (show (fTs ti_ref02_Sum q).1 = (fTs ti_ref02_Sum [.c (atC (nth q 0)), .n (atN (nth q 1))]).1 by kernel_rfl)).trans (e_ref02_Sum F (atC (nth q 0)) (atN (nth q 1))))
    (fun _ h => (okT_fill h).trans (congrArg some (by kernel_rfl)))

end Go.Xv
set_option linter.unusedVariables false
namespace Go.Xv
/- 21 _ref28_Bound -/
def c_ref28_Bound : Cfg := ⟨[0, 1, 2, 3, 8, 9, 11], [], [19, 29], []⟩
def ti_ref28_Bound : List TV := [.v (.int .i64), .v (.int .i64), .v (.int .i64), .v (.int .i64)]
def to_ref28_Bound : TV := .v (.int .i64)
def S_ref28_Bound (F : Nat) : FuncId → List VV → Option (Bool × VV) := words [(42, s_ref01_Mul F), (41, s_ref01_Clip F), (43, s_ref02_Sum F)]
def W_ref28_Bound (F : Nat) : List LW := []
def I_ref28_Bound (F : Nat) : Nat → VS → (Exit → VS → R) → R := tabI c_ref28_Bound (W_ref28_Bound F)
def WJ_ref28_Bound (F : Nat) : List LJ := []
def J_ref28_Bound (F : Nat) : Nat → Nat → VS → (Exit → VS → R) → R := tabJ (WJ_ref28_Bound F)
def f_ref28_Bound (F : Nat) (a0 : Int) (a1 : Int) (a2 : Int) (a3 : Int) : R :=
  let v3828 : Int := (if 0 > a1 then 0 else a1)
  let v3829 : Int := (if 0 > a3 then 0 else a3)
  let v3830 : Int := (if 65535 < v3829 then 65535 else v3829)
  bif (ok_ref01_Mul F v3828 v3830) then (
    let v3831 : Int := (o_ref01_Mul_0 F v3828 v3830)
    let v3832 : Int := (o_ref01_Mul_1 F v3828 v3830)
    bif (ok_ref01_Clip F v3831 v3832) then (
      let v3833 : Int := (o_ref01_Clip_0 F v3831 v3832)
      let v3835 : Int := (if 0 > a0 then 0 else a0)
      let v3836 : Int := (if 0 > a2 then 0 else a2)
      bif (ok_ref02_Sum F ([.v (.int .i64 v3835), .v (.int .i64 v3836), .v (.int .i64 v3833)]) 3) then (
        some (.v (.int .i64 ((o_ref02_Sum_0 F ([.v (.int .i64 v3835), .v (.int .i64 v3836), .v (.int .i64 v3833)]) 3)))))
      else (
        none))
    else (
      none))
  else (
    none)
theorem e_ref28_Bound (F : Nat) (a0 : Int) (a1 : Int) (a2 : Int) (a3 : Int) : funL PP (S_ref28_Bound F) c_ref28_Bound (I_ref28_Bound F) (J_ref28_Bound F) 21 (fTs ti_ref28_Bound [.i a0, .i a1, .i a2, .i a3]).1 = f_ref28_Bound F a0 a1 a2 a3 := by
  have h : ∀ (ok_ref01_Mul : Nat → Int → Int → Bool) (o_ref01_Mul_0 : Nat → Int → Int → Int) (o_ref01_Mul_1 : Nat → Int → Int → Int) (ok_ref01_Clip : Nat → Int → Int → Bool) (o_ref01_Clip_0 : Nat → Int → Int → Int) (o_ref01_Clip_1 : Nat → Int → Int → Bool) (ok_ref02_Sum : Nat → List VV → Nat → Bool) (o_ref02_Sum_0 : Nat → List VV → Nat → Int) (o_ref02_Sum_1 : Nat → List VV → Nat → Bool), funL PP (words [(42, spec ti_ref01_Mul to_ref01_Mul (fun q => (ok_ref01_Mul F (atI (nth q 0)) (atI (nth q 1)))) (fun q => [.i (o_ref01_Mul_0 F (atI (nth q 0)) (atI (nth q 1))), .i (o_ref01_Mul_1 F (atI (nth q 0)) (atI (nth q 1)))])), (41, spec ti_ref01_Clip to_ref01_Clip (fun q => (ok_ref01_Clip F (atI (nth q 0)) (atI (nth q 1)))) (fun q => [.i (o_ref01_Clip_0 F (atI (nth q 0)) (atI (nth q 1))), .b (o_ref01_Clip_1 F (atI (nth q 0)) (atI (nth q 1)))])), (43, spec ti_ref02_Sum to_ref02_Sum (fun q => (ok_ref02_Sum F (atC (nth q 0)) (atN (nth q 1)))) (fun q => [.i (o_ref02_Sum_0 F (atC (nth q 0)) (atN (nth q 1))), .b (o_ref02_Sum_1 F (atC (nth q 0)) (atN (nth q 1)))]))]) c_ref28_Bound (tabI c_ref28_Bound []) (tabJ []) 21 (fTs ti_ref28_Bound [.i a0, .i a1, .i a2, .i a3]).1 = (
  let v3828 : Int := (if 0 > a1 then 0 else a1)
  let v3829 : Int := (if 0 > a3 then 0 else a3)
  let v3830 : Int := (if 65535 < v3829 then 65535 else v3829)
  bif (ok_ref01_Mul F v3828 v3830) then (
    let v3831 : Int := (o_ref01_Mul_0 F v3828 v3830)
    let v3832 : Int := (o_ref01_Mul_1 F v3828 v3830)
    bif (ok_ref01_Clip F v3831 v3832) then (
      let v3833 : Int := (o_ref01_Clip_0 F v3831 v3832)
      let v3835 : Int := (if 0 > a0 then 0 else a0)
      let v3836 : Int := (if 0 > a2 then 0 else a2)
      bif (ok_ref02_Sum F ([.v (.int .i64 v3835), .v (.int .i64 v3836), .v (.int .i64 v3833)]) 3) then (
        some (.v (.int .i64 ((o_ref02_Sum_0 F ([.v (.int .i64 v3835), .v (.int .i64 v3836), .v (.int .i64 v3833)]) 3)))))
      else (
        none))
    else (
      none))
  else (
    none) : R) := by
    intros
    kernel_rfl
  exact (h ok_ref01_Mul o_ref01_Mul_0 o_ref01_Mul_1 ok_ref01_Clip o_ref01_Clip_0 o_ref01_Clip_1 ok_ref02_Sum o_ref02_Sum_0 o_ref02_Sum_1).trans (by kernel_rfl)
def ok_ref28_Bound (F : Nat) (a0 : Int) (a1 : Int) (a2 : Int) (a3 : Int) : Bool := okT to_ref28_Bound (f_ref28_Bound F a0 a1 a2 a3)
def o_ref28_Bound_0 (F : Nat) (a0 : Int) (a1 : Int) (a2 : Int) (a3 : Int) : Int := atI (nth (outT to_ref28_Bound (f_ref28_Bound F a0 a1 a2 a3)) 0)
theorem k_ref28_Bound (F : Nat) (a0 : Int) (a1 : Int) (a2 : Int) (a3 : Int) {z0 : Int} (h : f_ref28_Bound F a0 a1 a2 a3 = some (.v (.int .i64 z0))) : ok_ref28_Bound F a0 a1 a2 a3 = true ∧ o_ref28_Bound_0 F a0 a1 a2 a3 = z0 := by
  refine ⟨?_, ?_⟩
  · unfold ok_ref28_Bound; rw [h]; kernel_rfl
  · unfold o_ref28_Bound_0; rw [h]; kernel_rfl
def s_ref28_Bound (F : Nat) : List VV → Option (Bool × VV) := spec ti_ref28_Bound to_ref28_Bound (fun q => (ok_ref28_Bound F (atI (nth q 0)) (atI (nth q 1)) (atI (nth q 2)) (atI (nth q 3)))) (fun q => [.i (o_ref28_Bound_0 F (atI (nth q 0)) (atI (nth q 1)) (atI (nth q 2)) (atI (nth q 3)))])
theorem hS_ref28_Bound (F : Nat) : ∀ f, Good PP f (unS (S_ref28_Bound F f)) := words_good fun p hp => by
  simp only [List.mem_cons, List.not_mem_nil, or_false] at hp
  rcases hp with rfl | rfl | rfl
  · exact g_ref01_Mul F
  · exact g_ref01_Clip F
  · exact g_ref02_Sum F
theorem hl_ref28_Bound (F : Nat) : ∀ p ∈ loopsIn PP 21, LoopOK PP (S_ref28_Bound F) c_ref28_Bound F (I_ref28_Bound F) (J_ref28_Bound F) p :=
  loops_of [] (by kernel_rfl) all_nil
theorem hj_ref28_Bound (F : Nat) : ∀ p ∈ joinsIn PP c_ref28_Bound 21, JoinOK PP (S_ref28_Bound F) c_ref28_Bound (I_ref28_Bound F) (J_ref28_Bound F) p :=
  joins_of [] (by kernel_rfl) all_nil
theorem g_ref28_Bound (F : Nat) : Good PP 21 (unS (s_ref28_Bound F)) :=
  fun_spec (hS_ref28_Bound F) (by kernel_rfl) (by kernel_rfl) (C := c_ref28_Bound) (F := fun q => (f_ref28_Bound F (atI (nth q 0)) (atI (nth q 1)) (atI (nth q 2)) (atI (nth q 3)))) (fun _ => F) (fun _ => I_ref28_Bound F) (fun _ => J_ref28_Bound F) (fun _ => hl_ref28_Bound F) (fun _ => hj_ref28_Bound F)
    (fun q => (congrArg (funL PP (S_ref28_Bound F) c_ref28_Bound (I_ref28_Bound F) (J_ref28_Bound F) 21) (show (fTs ti_ref28_Bound q).1 = (fTs ti_ref28_Bound [.i (atI (nth q 0)), .i (atI (nth q 1)), .i (atI (nth q 2)), .i (atI (nth q 3))]).1 by kernel_rfl)).trans (e_ref28_Bound F (atI (nth q 0)) (atI (nth q 1)) (atI (nth q 2)) (atI (nth q 3))))
    (fun _ h => (okT_fill h).trans (congrArg some (by kernel_rfl)))

end Go.Xv
set_option linter.unusedVariables false
namespace Go.Xv
/- 9 _law28_works -/
def c_law28_works : Cfg := ⟨[0, 1, 2, 3, 4, 5], [], [], []⟩
def ti_law28_works : List TV := []
def to_law28_works : TV := .v (.bool)
def S_law28_works (F : Nat) : FuncId → List VV → Option (Bool × VV) := words [(11, s_fuse_Pull F), (20, s_fuse_Bound F)]
def W_law28_works (F : Nat) : List LW := []
def I_law28_works (F : Nat) : Nat → VS → (Exit → VS → R) → R := tabI c_law28_works (W_law28_works F)
def WJ_law28_works (F : Nat) : List LJ := []
def J_law28_works (F : Nat) : Nat → Nat → VS → (Exit → VS → R) → R := tabJ (WJ_law28_works F)
def f_law28_works (F : Nat) : R :=
  bif (ok_fuse_Pull F 1 10 100 5 0 0 0 0 6 0 0 3 1) then (
    let v3246 : Int := (o_fuse_Pull_0 F 1 10 100 5 0 0 0 0 6 0 0 3 1)
    let v3247 : Int := (o_fuse_Pull_1 F 1 10 100 5 0 0 0 0 6 0 0 3 1)
    let v3248 : Int := (o_fuse_Pull_2 F 1 10 100 5 0 0 0 0 6 0 0 3 1)
    let v3249 : Int := (o_fuse_Pull_3 F 1 10 100 5 0 0 0 0 6 0 0 3 1)
    bif (ok_fuse_Pull F 1 10 100 5 v3246 v3247 v3248 v3249 60 0 0 3 2) then (
      bif (((v3246 == 3) && ((v3247 == 0) && (v3248 == 0)))) then (
        bif (((((o_fuse_Pull_0 F 1 10 100 5 v3246 v3247 v3248 v3249 60 0 0 3 2)) == 13) && ((((o_fuse_Pull_1 F 1 10 100 5 v3246 v3247 v3248 v3249 60 0 0 3 2)) == 0) && (((o_fuse_Pull_2 F 1 10 100 5 v3246 v3247 v3248 v3249 60 0 0 3 2)) == 0)))) then (
          bif ((((o_fuse_Pull_4 F 1 10 100 5 0 0 0 0 6 0 0 3 1)) == 0)) then (
            bif ((((o_fuse_Pull_4 F 1 10 100 5 v3246 v3247 v3248 v3249 60 0 0 3 2)) == 0)) then (
              bif ((((o_fuse_Pull_3 F 1 10 100 5 v3246 v3247 v3248 v3249 60 0 0 3 2)) == 2)) then (
                bif (ok_fuse_Bound F 1 2 3 4) then (
                  some (.v (.bool ((((o_fuse_Bound_0 F 1 2 3 4)) == 12)))))
                else (
                  none))
              else (
                some (.v (.bool false))))
            else (
              some (.v (.bool false))))
          else (
            some (.v (.bool false))))
        else (
          some (.v (.bool false))))
      else (
        some (.v (.bool false))))
    else (
      none))
  else (
    none)
theorem e_law28_works (F : Nat) : funL PP (S_law28_works F) c_law28_works (I_law28_works F) (J_law28_works F) 9 (fTs ti_law28_works []).1 = f_law28_works F := by
  have h : ∀ (ok_fuse_Pull : Nat → Int → Int → Int → Int → Int → Int → Int → Int → Int → Int → Int → Int → Int → Bool) (o_fuse_Pull_0 : Nat → Int → Int → Int → Int → Int → Int → Int → Int → Int → Int → Int → Int → Int → Int) (o_fuse_Pull_1 : Nat → Int → Int → Int → Int → Int → Int → Int → Int → Int → Int → Int → Int → Int → Int) (o_fuse_Pull_2 : Nat → Int → Int → Int → Int → Int → Int → Int → Int → Int → Int → Int → Int → Int → Int) (o_fuse_Pull_3 : Nat → Int → Int → Int → Int → Int → Int → Int → Int → Int → Int → Int → Int → Int → Int) (o_fuse_Pull_4 : Nat → Int → Int → Int → Int → Int → Int → Int → Int → Int → Int → Int → Int → Int → Int) (ok_fuse_Bound : Nat → Int → Int → Int → Int → Bool) (o_fuse_Bound_0 : Nat → Int → Int → Int → Int → Int), funL PP (words [(11, spec ti_fuse_Pull to_fuse_Pull (fun q => (ok_fuse_Pull F (atI (nth q 0)) (atI (nth q 1)) (atI (nth q 2)) (atI (nth q 3)) (atI (nth q 4)) (atI (nth q 5)) (atI (nth q 6)) (atI (nth q 7)) (atI (nth q 8)) (atI (nth q 9)) (atI (nth q 10)) (atI (nth q 11)) (atI (nth q 12)))) (fun q => [.i (o_fuse_Pull_0 F (atI (nth q 0)) (atI (nth q 1)) (atI (nth q 2)) (atI (nth q 3)) (atI (nth q 4)) (atI (nth q 5)) (atI (nth q 6)) (atI (nth q 7)) (atI (nth q 8)) (atI (nth q 9)) (atI (nth q 10)) (atI (nth q 11)) (atI (nth q 12))), .i (o_fuse_Pull_1 F (atI (nth q 0)) (atI (nth q 1)) (atI (nth q 2)) (atI (nth q 3)) (atI (nth q 4)) (atI (nth q 5)) (atI (nth q 6)) (atI (nth q 7)) (atI (nth q 8)) (atI (nth q 9)) (atI (nth q 10)) (atI (nth q 11)) (atI (nth q 12))), .i (o_fuse_Pull_2 F (atI (nth q 0)) (atI (nth q 1)) (atI (nth q 2)) (atI (nth q 3)) (atI (nth q 4)) (atI (nth q 5)) (atI (nth q 6)) (atI (nth q 7)) (atI (nth q 8)) (atI (nth q 9)) (atI (nth q 10)) (atI (nth q 11)) (atI (nth q 12))), .i (o_fuse_Pull_3 F (atI (nth q 0)) (atI (nth q 1)) (atI (nth q 2)) (atI (nth q 3)) (atI (nth q 4)) (atI (nth q 5)) (atI (nth q 6)) (atI (nth q 7)) (atI (nth q 8)) (atI (nth q 9)) (atI (nth q 10)) (atI (nth q 11)) (atI (nth q 12))), .i (o_fuse_Pull_4 F (atI (nth q 0)) (atI (nth q 1)) (atI (nth q 2)) (atI (nth q 3)) (atI (nth q 4)) (atI (nth q 5)) (atI (nth q 6)) (atI (nth q 7)) (atI (nth q 8)) (atI (nth q 9)) (atI (nth q 10)) (atI (nth q 11)) (atI (nth q 12)))])), (20, spec ti_fuse_Bound to_fuse_Bound (fun q => (ok_fuse_Bound F (atI (nth q 0)) (atI (nth q 1)) (atI (nth q 2)) (atI (nth q 3)))) (fun q => [.i (o_fuse_Bound_0 F (atI (nth q 0)) (atI (nth q 1)) (atI (nth q 2)) (atI (nth q 3)))]))]) c_law28_works (tabI c_law28_works []) (tabJ []) 9 (fTs ti_law28_works []).1 = (
  bif (ok_fuse_Pull F 1 10 100 5 0 0 0 0 6 0 0 3 1) then (
    let v3246 : Int := (o_fuse_Pull_0 F 1 10 100 5 0 0 0 0 6 0 0 3 1)
    let v3247 : Int := (o_fuse_Pull_1 F 1 10 100 5 0 0 0 0 6 0 0 3 1)
    let v3248 : Int := (o_fuse_Pull_2 F 1 10 100 5 0 0 0 0 6 0 0 3 1)
    let v3249 : Int := (o_fuse_Pull_3 F 1 10 100 5 0 0 0 0 6 0 0 3 1)
    bif (ok_fuse_Pull F 1 10 100 5 v3246 v3247 v3248 v3249 60 0 0 3 2) then (
      bif (((v3246 == 3) && ((v3247 == 0) && (v3248 == 0)))) then (
        bif (((((o_fuse_Pull_0 F 1 10 100 5 v3246 v3247 v3248 v3249 60 0 0 3 2)) == 13) && ((((o_fuse_Pull_1 F 1 10 100 5 v3246 v3247 v3248 v3249 60 0 0 3 2)) == 0) && (((o_fuse_Pull_2 F 1 10 100 5 v3246 v3247 v3248 v3249 60 0 0 3 2)) == 0)))) then (
          bif ((((o_fuse_Pull_4 F 1 10 100 5 0 0 0 0 6 0 0 3 1)) == 0)) then (
            bif ((((o_fuse_Pull_4 F 1 10 100 5 v3246 v3247 v3248 v3249 60 0 0 3 2)) == 0)) then (
              bif ((((o_fuse_Pull_3 F 1 10 100 5 v3246 v3247 v3248 v3249 60 0 0 3 2)) == 2)) then (
                bif (ok_fuse_Bound F 1 2 3 4) then (
                  some (.v (.bool ((((o_fuse_Bound_0 F 1 2 3 4)) == 12)))))
                else (
                  none))
              else (
                some (.v (.bool false))))
            else (
              some (.v (.bool false))))
          else (
            some (.v (.bool false))))
        else (
          some (.v (.bool false))))
      else (
        some (.v (.bool false))))
    else (
      none))
  else (
    none) : R) := by
    intros
    kernel_rfl
  exact (h ok_fuse_Pull o_fuse_Pull_0 o_fuse_Pull_1 o_fuse_Pull_2 o_fuse_Pull_3 o_fuse_Pull_4 ok_fuse_Bound o_fuse_Bound_0).trans (by kernel_rfl)
def ok_law28_works (F : Nat) : Bool := okT to_law28_works (f_law28_works F)
def o_law28_works_0 (F : Nat) : Bool := atB (nth (outT to_law28_works (f_law28_works F)) 0)
theorem k_law28_works (F : Nat) {z0 : Bool} (h : f_law28_works F = some (.v (.bool z0))) : ok_law28_works F = true ∧ o_law28_works_0 F = z0 := by
  refine ⟨?_, ?_⟩
  · unfold ok_law28_works; rw [h]; kernel_rfl
  · unfold o_law28_works_0; rw [h]; kernel_rfl
def s_law28_works (F : Nat) : List VV → Option (Bool × VV) := spec ti_law28_works to_law28_works (fun q => (ok_law28_works F )) (fun q => [.b (o_law28_works_0 F )])
theorem hS_law28_works (F : Nat) : ∀ f, Good PP f (unS (S_law28_works F f)) := words_good fun p hp => by
  simp only [List.mem_cons, List.not_mem_nil, or_false] at hp
  rcases hp with rfl | rfl
  · exact g_fuse_Pull F
  · exact g_fuse_Bound F
theorem hl_law28_works (F : Nat) : ∀ p ∈ loopsIn PP 9, LoopOK PP (S_law28_works F) c_law28_works F (I_law28_works F) (J_law28_works F) p :=
  loops_of [] (by kernel_rfl) all_nil
theorem hj_law28_works (F : Nat) : ∀ p ∈ joinsIn PP c_law28_works 9, JoinOK PP (S_law28_works F) c_law28_works (I_law28_works F) (J_law28_works F) p :=
  joins_of [] (by kernel_rfl) all_nil
theorem g_law28_works (F : Nat) : Good PP 9 (unS (s_law28_works F)) :=
  fun_spec (hS_law28_works F) (by kernel_rfl) (by kernel_rfl) (C := c_law28_works) (F := fun q => (f_law28_works F )) (fun _ => F) (fun _ => I_law28_works F) (fun _ => J_law28_works F) (fun _ => hl_law28_works F) (fun _ => hj_law28_works F)
    (fun q => (congrArg (funL PP (S_law28_works F) c_law28_works (I_law28_works F) (J_law28_works F) 9) (show (fTs ti_law28_works q).1 = (fTs ti_law28_works []).1 by kernel_rfl)).trans (e_law28_works F ))
    (fun _ h => (okT_fill h).trans (congrArg some (by kernel_rfl)))

end Go.Xv
set_option linter.unusedVariables false
namespace Go.Xv
/- 4 _law28_FuseTells -/
def c_law28_FuseTells : Cfg := ⟨[0, 1, 2, 3, 4, 5, 6, 7, 8, 12, 13, 14, 15, 16, 17, 18, 19, 20], [], [32, 34, 50, 52, 81, 90, 92], []⟩
def ti_law28_FuseTells : List TV := [.v (.agg [.int .i64, .int .i64, .int .i64, .int .i64]), .v (.agg [.int .i64, .int .i64, .int .i64, .int .i64]), .v (.agg [.int .i64, .int .i64, .int .i64]), .v (.int .i64), .v (.int .i64), .v (.int .i64)]
def to_law28_FuseTells : TV := .v (.bool)
def S_law28_FuseTells (F : Nat) : FuncId → List VV → Option (Bool × VV) := words [(11, s_fuse_Pull F), (13, s_law28_rule F), (14, s_law28_corr F), (12, s_ref28_Pull F), (15, s_fuse_Fade F), (16, s_ref28_Fade F), (10, s_fuse_Check F), (17, s_ref28_Check F), (18, s_fuse_Right F), (19, s_ref28_Right F), (20, s_fuse_Bound F), (21, s_ref28_Bound F), (9, s_law28_works F)]
def W_law28_FuseTells (F : Nat) : List LW := []
def I_law28_FuseTells (F : Nat) : Nat → VS → (Exit → VS → R) → R := tabI c_law28_FuseTells (W_law28_FuseTells F)
def WJ_law28_FuseTells (F : Nat) : List LJ := []
def J_law28_FuseTells (F : Nat) : Nat → Nat → VS → (Exit → VS → R) → R := tabJ (WJ_law28_FuseTells F)
def f_law28_FuseTells (F : Nat) (a0 : Int) (a1 : Int) (a2 : Int) (a3 : Int) (a4 : Int) (a5 : Int) (a6 : Int) (a7 : Int) (a8 : Int) (a9 : Int) (a10 : Int) (a11 : Int) (a12 : Int) (a13 : Int) : R :=
  bif (ok_fuse_Pull F a0 a1 a2 a3 a4 a5 a6 a7 a8 a9 a10 a11 a12) then (
    let v3397 : Int := (o_fuse_Pull_0 F a0 a1 a2 a3 a4 a5 a6 a7 a8 a9 a10 a11 a12)
    let v3398 : Int := (o_fuse_Pull_1 F a0 a1 a2 a3 a4 a5 a6 a7 a8 a9 a10 a11 a12)
    let v3399 : Int := (o_fuse_Pull_2 F a0 a1 a2 a3 a4 a5 a6 a7 a8 a9 a10 a11 a12)
    let v3400 : Int := (o_fuse_Pull_3 F a0 a1 a2 a3 a4 a5 a6 a7 a8 a9 a10 a11 a12)
    bif (ok_law28_rule F a0 a1 a2 a3) then (
      let v3402 : Int := (o_law28_rule_0 F a0 a1 a2 a3)
      let v3403 : Int := (o_law28_rule_1 F a0 a1 a2 a3)
      let v3404 : Int := (o_law28_rule_2 F a0 a1 a2 a3)
      let v3405 : Int := (o_law28_rule_3 F a0 a1 a2 a3)
      bif (ok_law28_corr F a4 a5 a6 a7) then (
        let v3406 : Int := (o_law28_corr_0 F a4 a5 a6 a7)
        let v3407 : Int := (o_law28_corr_1 F a4 a5 a6 a7)
        let v3408 : Int := (o_law28_corr_2 F a4 a5 a6 a7)
        let v3409 : Int := (o_law28_corr_3 F a4 a5 a6 a7)
        bif (ok_ref28_Pull F v3402 v3403 v3404 v3405 v3406 v3407 v3408 v3409 a8 a9 a10 a11 a12) then (
          bif (ok_fuse_Fade F a0 a1 a2 a3 a4 a5 a6 a7 a12) then (
            let v3689 : Int := (o_fuse_Fade_0 F a0 a1 a2 a3 a4 a5 a6 a7 a12)
            let v3690 : Int := (o_fuse_Fade_1 F a0 a1 a2 a3 a4 a5 a6 a7 a12)
            let v3691 : Int := (o_fuse_Fade_2 F a0 a1 a2 a3 a4 a5 a6 a7 a12)
            let v3692 : Int := (o_fuse_Fade_3 F a0 a1 a2 a3 a4 a5 a6 a7 a12)
            bif (ok_law28_rule F a0 a1 a2 a3) then (
              let v3694 : Int := (o_law28_rule_0 F a0 a1 a2 a3)
              let v3695 : Int := (o_law28_rule_1 F a0 a1 a2 a3)
              let v3696 : Int := (o_law28_rule_2 F a0 a1 a2 a3)
              let v3697 : Int := (o_law28_rule_3 F a0 a1 a2 a3)
              bif (ok_law28_corr F a4 a5 a6 a7) then (
                let v3698 : Int := (o_law28_corr_0 F a4 a5 a6 a7)
                let v3699 : Int := (o_law28_corr_1 F a4 a5 a6 a7)
                let v3700 : Int := (o_law28_corr_2 F a4 a5 a6 a7)
                let v3701 : Int := (o_law28_corr_3 F a4 a5 a6 a7)
                bif (ok_ref28_Fade F v3694 v3695 v3696 v3697 v3698 v3699 v3700 v3701 a12) then (
                  bif (ok_law28_corr F v3397 v3398 v3399 v3400) then (
                    bif (((((o_law28_corr_0 F v3397 v3398 v3399 v3400)) == ((o_ref28_Pull_0 F v3402 v3403 v3404 v3405 v3406 v3407 v3408 v3409 a8 a9 a10 a11 a12))) && ((((o_law28_corr_1 F v3397 v3398 v3399 v3400)) == ((o_ref28_Pull_1 F v3402 v3403 v3404 v3405 v3406 v3407 v3408 v3409 a8 a9 a10 a11 a12))) && ((((o_law28_corr_2 F v3397 v3398 v3399 v3400)) == ((o_ref28_Pull_2 F v3402 v3403 v3404 v3405 v3406 v3407 v3408 v3409 a8 a9 a10 a11 a12))) && (((o_law28_corr_3 F v3397 v3398 v3399 v3400)) == ((o_ref28_Pull_3 F v3402 v3403 v3404 v3405 v3406 v3407 v3408 v3409 a8 a9 a10 a11 a12))))))) then (
                      bif ((((o_fuse_Pull_4 F a0 a1 a2 a3 a4 a5 a6 a7 a8 a9 a10 a11 a12)) == ((o_ref28_Pull_4 F v3402 v3403 v3404 v3405 v3406 v3407 v3408 v3409 a8 a9 a10 a11 a12)))) then (
                        bif (ok_law28_corr F v3689 v3690 v3691 v3692) then (
                          bif (((((o_law28_corr_0 F v3689 v3690 v3691 v3692)) == ((o_ref28_Fade_0 F v3694 v3695 v3696 v3697 v3698 v3699 v3700 v3701 a12))) && ((((o_law28_corr_1 F v3689 v3690 v3691 v3692)) == ((o_ref28_Fade_1 F v3694 v3695 v3696 v3697 v3698 v3699 v3700 v3701 a12))) && ((((o_law28_corr_2 F v3689 v3690 v3691 v3692)) == ((o_ref28_Fade_2 F v3694 v3695 v3696 v3697 v3698 v3699 v3700 v3701 a12))) && (((o_law28_corr_3 F v3689 v3690 v3691 v3692)) == ((o_ref28_Fade_3 F v3694 v3695 v3696 v3697 v3698 v3699 v3700 v3701 a12))))))) then (
                            bif ((((o_fuse_Fade_4 F a0 a1 a2 a3 a4 a5 a6 a7 a12)) == ((o_ref28_Fade_4 F v3694 v3695 v3696 v3697 v3698 v3699 v3700 v3701 a12)))) then (
                              bif (ok_fuse_Check F a0 a1 a2 a3) then (
                                bif (ok_law28_rule F a0 a1 a2 a3) then (
                                  let v3810 : Int := (o_law28_rule_0 F a0 a1 a2 a3)
                                  let v3811 : Int := (o_law28_rule_1 F a0 a1 a2 a3)
                                  let v3812 : Int := (o_law28_rule_2 F a0 a1 a2 a3)
                                  let v3813 : Int := (o_law28_rule_3 F a0 a1 a2 a3)
                                  bif (ok_ref28_Check F v3810 v3811 v3812 v3813) then (
                                    bif ((((o_fuse_Check_0 F a0 a1 a2 a3)) == ((o_ref28_Check_0 F v3810 v3811 v3812 v3813)))) then (
                                      bif (ok_fuse_Right F a0 a1 a2 a3 a4 a5 a6 a7) then (
                                        bif (ok_law28_rule F a0 a1 a2 a3) then (
                                          let v3817 : Int := (o_law28_rule_0 F a0 a1 a2 a3)
                                          let v3818 : Int := (o_law28_rule_1 F a0 a1 a2 a3)
                                          let v3819 : Int := (o_law28_rule_2 F a0 a1 a2 a3)
                                          let v3820 : Int := (o_law28_rule_3 F a0 a1 a2 a3)
                                          bif (ok_law28_corr F a4 a5 a6 a7) then (
                                            let v3821 : Int := (o_law28_corr_0 F a4 a5 a6 a7)
                                            let v3822 : Int := (o_law28_corr_1 F a4 a5 a6 a7)
                                            let v3823 : Int := (o_law28_corr_2 F a4 a5 a6 a7)
                                            let v3824 : Int := (o_law28_corr_3 F a4 a5 a6 a7)
                                            bif (ok_ref28_Right F v3817 v3818 v3819 v3820 v3821 v3822 v3823 v3824) then (
                                              bif ((((o_fuse_Right_0 F a0 a1 a2 a3 a4 a5 a6 a7)) == ((o_ref28_Right_0 F v3817 v3818 v3819 v3820 v3821 v3822 v3823 v3824)))) then (
                                                bif (ok_fuse_Bound F a8 a13 a9 a12) then (
                                                  bif (ok_ref28_Bound F a8 a13 a9 a12) then (
                                                    bif ((((o_fuse_Bound_0 F a8 a13 a9 a12)) == ((o_ref28_Bound_0 F a8 a13 a9 a12)))) then (
                                                      bif (ok_law28_works F) then (
                                                        some (.v (.bool ((o_law28_works_0 F)))))
                                                      else (
                                                        none))
                                                    else (
                                                      some (.v (.bool false))))
                                                  else (
                                                    none))
                                                else (
                                                  none))
                                              else (
                                                some (.v (.bool false))))
                                            else (
                                              none))
                                          else (
                                            none))
                                        else (
                                          none))
                                      else (
                                        none))
                                    else (
                                      some (.v (.bool false))))
                                  else (
                                    none))
                                else (
                                  none))
                              else (
                                none))
                            else (
                              some (.v (.bool false))))
                          else (
                            some (.v (.bool false))))
                        else (
                          none))
                      else (
                        some (.v (.bool false))))
                    else (
                      some (.v (.bool false))))
                  else (
                    none))
                else (
                  none))
              else (
                none))
            else (
              none))
          else (
            none))
        else (
          none))
      else (
        none))
    else (
      none))
  else (
    none)
theorem e_law28_FuseTells (F : Nat) (a0 : Int) (a1 : Int) (a2 : Int) (a3 : Int) (a4 : Int) (a5 : Int) (a6 : Int) (a7 : Int) (a8 : Int) (a9 : Int) (a10 : Int) (a11 : Int) (a12 : Int) (a13 : Int) : funL PP (S_law28_FuseTells F) c_law28_FuseTells (I_law28_FuseTells F) (J_law28_FuseTells F) 4 (fTs ti_law28_FuseTells [.i a0, .i a1, .i a2, .i a3, .i a4, .i a5, .i a6, .i a7, .i a8, .i a9, .i a10, .i a11, .i a12, .i a13]).1 = f_law28_FuseTells F a0 a1 a2 a3 a4 a5 a6 a7 a8 a9 a10 a11 a12 a13 := by
  have h : ∀ (ok_fuse_Pull : Nat → Int → Int → Int → Int → Int → Int → Int → Int → Int → Int → Int → Int → Int → Bool) (o_fuse_Pull_0 : Nat → Int → Int → Int → Int → Int → Int → Int → Int → Int → Int → Int → Int → Int → Int) (o_fuse_Pull_1 : Nat → Int → Int → Int → Int → Int → Int → Int → Int → Int → Int → Int → Int → Int → Int) (o_fuse_Pull_2 : Nat → Int → Int → Int → Int → Int → Int → Int → Int → Int → Int → Int → Int → Int → Int) (o_fuse_Pull_3 : Nat → Int → Int → Int → Int → Int → Int → Int → Int → Int → Int → Int → Int → Int → Int) (o_fuse_Pull_4 : Nat → Int → Int → Int → Int → Int → Int → Int → Int → Int → Int → Int → Int → Int → Int) (ok_law28_rule : Nat → Int → Int → Int → Int → Bool) (o_law28_rule_0 : Nat → Int → Int → Int → Int → Int) (o_law28_rule_1 : Nat → Int → Int → Int → Int → Int) (o_law28_rule_2 : Nat → Int → Int → Int → Int → Int) (o_law28_rule_3 : Nat → Int → Int → Int → Int → Int) (ok_law28_corr : Nat → Int → Int → Int → Int → Bool) (o_law28_corr_0 : Nat → Int → Int → Int → Int → Int) (o_law28_corr_1 : Nat → Int → Int → Int → Int → Int) (o_law28_corr_2 : Nat → Int → Int → Int → Int → Int) (o_law28_corr_3 : Nat → Int → Int → Int → Int → Int) (ok_ref28_Pull : Nat → Int → Int → Int → Int → Int → Int → Int → Int → Int → Int → Int → Int → Int → Bool) (o_ref28_Pull_0 : Nat → Int → Int → Int → Int → Int → Int → Int → Int → Int → Int → Int → Int → Int → Int) (o_ref28_Pull_1 : Nat → Int → Int → Int → Int → Int → Int → Int → Int → Int → Int → Int → Int → Int → Int) (o_ref28_Pull_2 : Nat → Int → Int → Int → Int → Int → Int → Int → Int → Int → Int → Int → Int → Int → Int) (o_ref28_Pull_3 : Nat → Int → Int → Int → Int → Int → Int → Int → Int → Int → Int → Int → Int → Int → Int) (o_ref28_Pull_4 : Nat → Int → Int → Int → Int → Int → Int → Int → Int → Int → Int → Int → Int → Int → Int) (ok_fuse_Fade : Nat → Int → Int → Int → Int → Int → Int → Int → Int → Int → Bool) (o_fuse_Fade_0 : Nat → Int → Int → Int → Int → Int → Int → Int → Int → Int → Int) (o_fuse_Fade_1 : Nat → Int → Int → Int → Int → Int → Int → Int → Int → Int → Int) (o_fuse_Fade_2 : Nat → Int → Int → Int → Int → Int → Int → Int → Int → Int → Int) (o_fuse_Fade_3 : Nat → Int → Int → Int → Int → Int → Int → Int → Int → Int → Int) (o_fuse_Fade_4 : Nat → Int → Int → Int → Int → Int → Int → Int → Int → Int → Int) (ok_ref28_Fade : Nat → Int → Int → Int → Int → Int → Int → Int → Int → Int → Bool) (o_ref28_Fade_0 : Nat → Int → Int → Int → Int → Int → Int → Int → Int → Int → Int) (o_ref28_Fade_1 : Nat → Int → Int → Int → Int → Int → Int → Int → Int → Int → Int) (o_ref28_Fade_2 : Nat → Int → Int → Int → Int → Int → Int → Int → Int → Int → Int) (o_ref28_Fade_3 : Nat → Int → Int → Int → Int → Int → Int → Int → Int → Int → Int) (o_ref28_Fade_4 : Nat → Int → Int → Int → Int → Int → Int → Int → Int → Int → Int) (ok_fuse_Check : Nat → Int → Int → Int → Int → Bool) (o_fuse_Check_0 : Nat → Int → Int → Int → Int → Int) (ok_ref28_Check : Nat → Int → Int → Int → Int → Bool) (o_ref28_Check_0 : Nat → Int → Int → Int → Int → Int) (ok_fuse_Right : Nat → Int → Int → Int → Int → Int → Int → Int → Int → Bool) (o_fuse_Right_0 : Nat → Int → Int → Int → Int → Int → Int → Int → Int → Int) (ok_ref28_Right : Nat → Int → Int → Int → Int → Int → Int → Int → Int → Bool) (o_ref28_Right_0 : Nat → Int → Int → Int → Int → Int → Int → Int → Int → Int) (ok_fuse_Bound : Nat → Int → Int → Int → Int → Bool) (o_fuse_Bound_0 : Nat → Int → Int → Int → Int → Int) (ok_ref28_Bound : Nat → Int → Int → Int → Int → Bool) (o_ref28_Bound_0 : Nat → Int → Int → Int → Int → Int) (ok_law28_works : Nat → Bool) (o_law28_works_0 : Nat → Bool), funL PP (words [(11, spec ti_fuse_Pull to_fuse_Pull (fun q => (ok_fuse_Pull F (atI (nth q 0)) (atI (nth q 1)) (atI (nth q 2)) (atI (nth q 3)) (atI (nth q 4)) (atI (nth q 5)) (atI (nth q 6)) (atI (nth q 7)) (atI (nth q 8)) (atI (nth q 9)) (atI (nth q 10)) (atI (nth q 11)) (atI (nth q 12)))) (fun q => [.i (o_fuse_Pull_0 F (atI (nth q 0)) (atI (nth q 1)) (atI (nth q 2)) (atI (nth q 3)) (atI (nth q 4)) (atI (nth q 5)) (atI (nth q 6)) (atI (nth q 7)) (atI (nth q 8)) (atI (nth q 9)) (atI (nth q 10)) (atI (nth q 11)) (atI (nth q 12))), .i (o_fuse_Pull_1 F (atI (nth q 0)) (atI (nth q 1)) (atI (nth q 2)) (atI (nth q 3)) (atI (nth q 4)) (atI (nth q 5)) (atI (nth q 6)) (atI (nth q 7)) (atI (nth q 8)) (atI (nth q 9)) (atI (nth q 10)) (atI (nth q 11)) (atI (nth q 12))), .i (o_fuse_Pull_2 F (atI (nth q 0)) (atI (nth q 1)) (atI (nth q 2)) (atI (nth q 3)) (atI (nth q 4)) (atI (nth q 5)) (atI (nth q 6)) (atI (nth q 7)) (atI (nth q 8)) (atI (nth q 9)) (atI (nth q 10)) (atI (nth q 11)) (atI (nth q 12))), .i (o_fuse_Pull_3 F (atI (nth q 0)) (atI (nth q 1)) (atI (nth q 2)) (atI (nth q 3)) (atI (nth q 4)) (atI (nth q 5)) (atI (nth q 6)) (atI (nth q 7)) (atI (nth q 8)) (atI (nth q 9)) (atI (nth q 10)) (atI (nth q 11)) (atI (nth q 12))), .i (o_fuse_Pull_4 F (atI (nth q 0)) (atI (nth q 1)) (atI (nth q 2)) (atI (nth q 3)) (atI (nth q 4)) (atI (nth q 5)) (atI (nth q 6)) (atI (nth q 7)) (atI (nth q 8)) (atI (nth q 9)) (atI (nth q 10)) (atI (nth q 11)) (atI (nth q 12)))])), (13, spec ti_law28_rule to_law28_rule (fun q => (ok_law28_rule F (atI (nth q 0)) (atI (nth q 1)) (atI (nth q 2)) (atI (nth q 3)))) (fun q => [.i (o_law28_rule_0 F (atI (nth q 0)) (atI (nth q 1)) (atI (nth q 2)) (atI (nth q 3))), .i (o_law28_rule_1 F (atI (nth q 0)) (atI (nth q 1)) (atI (nth q 2)) (atI (nth q 3))), .i (o_law28_rule_2 F (atI (nth q 0)) (atI (nth q 1)) (atI (nth q 2)) (atI (nth q 3))), .i (o_law28_rule_3 F (atI (nth q 0)) (atI (nth q 1)) (atI (nth q 2)) (atI (nth q 3)))])), (14, spec ti_law28_corr to_law28_corr (fun q => (ok_law28_corr F (atI (nth q 0)) (atI (nth q 1)) (atI (nth q 2)) (atI (nth q 3)))) (fun q => [.i (o_law28_corr_0 F (atI (nth q 0)) (atI (nth q 1)) (atI (nth q 2)) (atI (nth q 3))), .i (o_law28_corr_1 F (atI (nth q 0)) (atI (nth q 1)) (atI (nth q 2)) (atI (nth q 3))), .i (o_law28_corr_2 F (atI (nth q 0)) (atI (nth q 1)) (atI (nth q 2)) (atI (nth q 3))), .i (o_law28_corr_3 F (atI (nth q 0)) (atI (nth q 1)) (atI (nth q 2)) (atI (nth q 3)))])), (12, spec ti_ref28_Pull to_ref28_Pull (fun q => (ok_ref28_Pull F (atI (nth q 0)) (atI (nth q 1)) (atI (nth q 2)) (atI (nth q 3)) (atI (nth q 4)) (atI (nth q 5)) (atI (nth q 6)) (atI (nth q 7)) (atI (nth q 8)) (atI (nth q 9)) (atI (nth q 10)) (atI (nth q 11)) (atI (nth q 12)))) (fun q => [.i (o_ref28_Pull_0 F (atI (nth q 0)) (atI (nth q 1)) (atI (nth q 2)) (atI (nth q 3)) (atI (nth q 4)) (atI (nth q 5)) (atI (nth q 6)) (atI (nth q 7)) (atI (nth q 8)) (atI (nth q 9)) (atI (nth q 10)) (atI (nth q 11)) (atI (nth q 12))), .i (o_ref28_Pull_1 F (atI (nth q 0)) (atI (nth q 1)) (atI (nth q 2)) (atI (nth q 3)) (atI (nth q 4)) (atI (nth q 5)) (atI (nth q 6)) (atI (nth q 7)) (atI (nth q 8)) (atI (nth q 9)) (atI (nth q 10)) (atI (nth q 11)) (atI (nth q 12))), .i (o_ref28_Pull_2 F (atI (nth q 0)) (atI (nth q 1)) (atI (nth q 2)) (atI (nth q 3)) (atI (nth q 4)) (atI (nth q 5)) (atI (nth q 6)) (atI (nth q 7)) (atI (nth q 8)) (atI (nth q 9)) (atI (nth q 10)) (atI (nth q 11)) (atI (nth q 12))), .i (o_ref28_Pull_3 F (atI (nth q 0)) (atI (nth q 1)) (atI (nth q 2)) (atI (nth q 3)) (atI (nth q 4)) (atI (nth q 5)) (atI (nth q 6)) (atI (nth q 7)) (atI (nth q 8)) (atI (nth q 9)) (atI (nth q 10)) (atI (nth q 11)) (atI (nth q 12))), .i (o_ref28_Pull_4 F (atI (nth q 0)) (atI (nth q 1)) (atI (nth q 2)) (atI (nth q 3)) (atI (nth q 4)) (atI (nth q 5)) (atI (nth q 6)) (atI (nth q 7)) (atI (nth q 8)) (atI (nth q 9)) (atI (nth q 10)) (atI (nth q 11)) (atI (nth q 12)))])), (15, spec ti_fuse_Fade to_fuse_Fade (fun q => (ok_fuse_Fade F (atI (nth q 0)) (atI (nth q 1)) (atI (nth q 2)) (atI (nth q 3)) (atI (nth q 4)) (atI (nth q 5)) (atI (nth q 6)) (atI (nth q 7)) (atI (nth q 8)))) (fun q => [.i (o_fuse_Fade_0 F (atI (nth q 0)) (atI (nth q 1)) (atI (nth q 2)) (atI (nth q 3)) (atI (nth q 4)) (atI (nth q 5)) (atI (nth q 6)) (atI (nth q 7)) (atI (nth q 8))), .i (o_fuse_Fade_1 F (atI (nth q 0)) (atI (nth q 1)) (atI (nth q 2)) (atI (nth q 3)) (atI (nth q 4)) (atI (nth q 5)) (atI (nth q 6)) (atI (nth q 7)) (atI (nth q 8))), .i (o_fuse_Fade_2 F (atI (nth q 0)) (atI (nth q 1)) (atI (nth q 2)) (atI (nth q 3)) (atI (nth q 4)) (atI (nth q 5)) (atI (nth q 6)) (atI (nth q 7)) (atI (nth q 8))), .i (o_fuse_Fade_3 F (atI (nth q 0)) (atI (nth q 1)) (atI (nth q 2)) (atI (nth q 3)) (atI (nth q 4)) (atI (nth q 5)) (atI (nth q 6)) (atI (nth q 7)) (atI (nth q 8))), .i (o_fuse_Fade_4 F (atI (nth q 0)) (atI (nth q 1)) (atI (nth q 2)) (atI (nth q 3)) (atI (nth q 4)) (atI (nth q 5)) (atI (nth q 6)) (atI (nth q 7)) (atI (nth q 8)))])), (16, spec ti_ref28_Fade to_ref28_Fade (fun q => (ok_ref28_Fade F (atI (nth q 0)) (atI (nth q 1)) (atI (nth q 2)) (atI (nth q 3)) (atI (nth q 4)) (atI (nth q 5)) (atI (nth q 6)) (atI (nth q 7)) (atI (nth q 8)))) (fun q => [.i (o_ref28_Fade_0 F (atI (nth q 0)) (atI (nth q 1)) (atI (nth q 2)) (atI (nth q 3)) (atI (nth q 4)) (atI (nth q 5)) (atI (nth q 6)) (atI (nth q 7)) (atI (nth q 8))), .i (o_ref28_Fade_1 F (atI (nth q 0)) (atI (nth q 1)) (atI (nth q 2)) (atI (nth q 3)) (atI (nth q 4)) (atI (nth q 5)) (atI (nth q 6)) (atI (nth q 7)) (atI (nth q 8))), .i (o_ref28_Fade_2 F (atI (nth q 0)) (atI (nth q 1)) (atI (nth q 2)) (atI (nth q 3)) (atI (nth q 4)) (atI (nth q 5)) (atI (nth q 6)) (atI (nth q 7)) (atI (nth q 8))), .i (o_ref28_Fade_3 F (atI (nth q 0)) (atI (nth q 1)) (atI (nth q 2)) (atI (nth q 3)) (atI (nth q 4)) (atI (nth q 5)) (atI (nth q 6)) (atI (nth q 7)) (atI (nth q 8))), .i (o_ref28_Fade_4 F (atI (nth q 0)) (atI (nth q 1)) (atI (nth q 2)) (atI (nth q 3)) (atI (nth q 4)) (atI (nth q 5)) (atI (nth q 6)) (atI (nth q 7)) (atI (nth q 8)))])), (10, spec ti_fuse_Check to_fuse_Check (fun q => (ok_fuse_Check F (atI (nth q 0)) (atI (nth q 1)) (atI (nth q 2)) (atI (nth q 3)))) (fun q => [.i (o_fuse_Check_0 F (atI (nth q 0)) (atI (nth q 1)) (atI (nth q 2)) (atI (nth q 3)))])), (17, spec ti_ref28_Check to_ref28_Check (fun q => (ok_ref28_Check F (atI (nth q 0)) (atI (nth q 1)) (atI (nth q 2)) (atI (nth q 3)))) (fun q => [.i (o_ref28_Check_0 F (atI (nth q 0)) (atI (nth q 1)) (atI (nth q 2)) (atI (nth q 3)))])), (18, spec ti_fuse_Right to_fuse_Right (fun q => (ok_fuse_Right F (atI (nth q 0)) (atI (nth q 1)) (atI (nth q 2)) (atI (nth q 3)) (atI (nth q 4)) (atI (nth q 5)) (atI (nth q 6)) (atI (nth q 7)))) (fun q => [.i (o_fuse_Right_0 F (atI (nth q 0)) (atI (nth q 1)) (atI (nth q 2)) (atI (nth q 3)) (atI (nth q 4)) (atI (nth q 5)) (atI (nth q 6)) (atI (nth q 7)))])), (19, spec ti_ref28_Right to_ref28_Right (fun q => (ok_ref28_Right F (atI (nth q 0)) (atI (nth q 1)) (atI (nth q 2)) (atI (nth q 3)) (atI (nth q 4)) (atI (nth q 5)) (atI (nth q 6)) (atI (nth q 7)))) (fun q => [.i (o_ref28_Right_0 F (atI (nth q 0)) (atI (nth q 1)) (atI (nth q 2)) (atI (nth q 3)) (atI (nth q 4)) (atI (nth q 5)) (atI (nth q 6)) (atI (nth q 7)))])), (20, spec ti_fuse_Bound to_fuse_Bound (fun q => (ok_fuse_Bound F (atI (nth q 0)) (atI (nth q 1)) (atI (nth q 2)) (atI (nth q 3)))) (fun q => [.i (o_fuse_Bound_0 F (atI (nth q 0)) (atI (nth q 1)) (atI (nth q 2)) (atI (nth q 3)))])), (21, spec ti_ref28_Bound to_ref28_Bound (fun q => (ok_ref28_Bound F (atI (nth q 0)) (atI (nth q 1)) (atI (nth q 2)) (atI (nth q 3)))) (fun q => [.i (o_ref28_Bound_0 F (atI (nth q 0)) (atI (nth q 1)) (atI (nth q 2)) (atI (nth q 3)))])), (9, spec ti_law28_works to_law28_works (fun q => (ok_law28_works F )) (fun q => [.b (o_law28_works_0 F )]))]) c_law28_FuseTells (tabI c_law28_FuseTells []) (tabJ []) 4 (fTs ti_law28_FuseTells [.i a0, .i a1, .i a2, .i a3, .i a4, .i a5, .i a6, .i a7, .i a8, .i a9, .i a10, .i a11, .i a12, .i a13]).1 = (
  bif (ok_fuse_Pull F a0 a1 a2 a3 a4 a5 a6 a7 a8 a9 a10 a11 a12) then (
    let v3397 : Int := (o_fuse_Pull_0 F a0 a1 a2 a3 a4 a5 a6 a7 a8 a9 a10 a11 a12)
    let v3398 : Int := (o_fuse_Pull_1 F a0 a1 a2 a3 a4 a5 a6 a7 a8 a9 a10 a11 a12)
    let v3399 : Int := (o_fuse_Pull_2 F a0 a1 a2 a3 a4 a5 a6 a7 a8 a9 a10 a11 a12)
    let v3400 : Int := (o_fuse_Pull_3 F a0 a1 a2 a3 a4 a5 a6 a7 a8 a9 a10 a11 a12)
    bif (ok_law28_rule F a0 a1 a2 a3) then (
      let v3402 : Int := (o_law28_rule_0 F a0 a1 a2 a3)
      let v3403 : Int := (o_law28_rule_1 F a0 a1 a2 a3)
      let v3404 : Int := (o_law28_rule_2 F a0 a1 a2 a3)
      let v3405 : Int := (o_law28_rule_3 F a0 a1 a2 a3)
      bif (ok_law28_corr F a4 a5 a6 a7) then (
        let v3406 : Int := (o_law28_corr_0 F a4 a5 a6 a7)
        let v3407 : Int := (o_law28_corr_1 F a4 a5 a6 a7)
        let v3408 : Int := (o_law28_corr_2 F a4 a5 a6 a7)
        let v3409 : Int := (o_law28_corr_3 F a4 a5 a6 a7)
        bif (ok_ref28_Pull F v3402 v3403 v3404 v3405 v3406 v3407 v3408 v3409 a8 a9 a10 a11 a12) then (
          bif (ok_fuse_Fade F a0 a1 a2 a3 a4 a5 a6 a7 a12) then (
            let v3689 : Int := (o_fuse_Fade_0 F a0 a1 a2 a3 a4 a5 a6 a7 a12)
            let v3690 : Int := (o_fuse_Fade_1 F a0 a1 a2 a3 a4 a5 a6 a7 a12)
            let v3691 : Int := (o_fuse_Fade_2 F a0 a1 a2 a3 a4 a5 a6 a7 a12)
            let v3692 : Int := (o_fuse_Fade_3 F a0 a1 a2 a3 a4 a5 a6 a7 a12)
            bif (ok_law28_rule F a0 a1 a2 a3) then (
              let v3694 : Int := (o_law28_rule_0 F a0 a1 a2 a3)
              let v3695 : Int := (o_law28_rule_1 F a0 a1 a2 a3)
              let v3696 : Int := (o_law28_rule_2 F a0 a1 a2 a3)
              let v3697 : Int := (o_law28_rule_3 F a0 a1 a2 a3)
              bif (ok_law28_corr F a4 a5 a6 a7) then (
                let v3698 : Int := (o_law28_corr_0 F a4 a5 a6 a7)
                let v3699 : Int := (o_law28_corr_1 F a4 a5 a6 a7)
                let v3700 : Int := (o_law28_corr_2 F a4 a5 a6 a7)
                let v3701 : Int := (o_law28_corr_3 F a4 a5 a6 a7)
                bif (ok_ref28_Fade F v3694 v3695 v3696 v3697 v3698 v3699 v3700 v3701 a12) then (
                  bif (ok_law28_corr F v3397 v3398 v3399 v3400) then (
                    bif (((((o_law28_corr_0 F v3397 v3398 v3399 v3400)) == ((o_ref28_Pull_0 F v3402 v3403 v3404 v3405 v3406 v3407 v3408 v3409 a8 a9 a10 a11 a12))) && ((((o_law28_corr_1 F v3397 v3398 v3399 v3400)) == ((o_ref28_Pull_1 F v3402 v3403 v3404 v3405 v3406 v3407 v3408 v3409 a8 a9 a10 a11 a12))) && ((((o_law28_corr_2 F v3397 v3398 v3399 v3400)) == ((o_ref28_Pull_2 F v3402 v3403 v3404 v3405 v3406 v3407 v3408 v3409 a8 a9 a10 a11 a12))) && (((o_law28_corr_3 F v3397 v3398 v3399 v3400)) == ((o_ref28_Pull_3 F v3402 v3403 v3404 v3405 v3406 v3407 v3408 v3409 a8 a9 a10 a11 a12))))))) then (
                      bif ((((o_fuse_Pull_4 F a0 a1 a2 a3 a4 a5 a6 a7 a8 a9 a10 a11 a12)) == ((o_ref28_Pull_4 F v3402 v3403 v3404 v3405 v3406 v3407 v3408 v3409 a8 a9 a10 a11 a12)))) then (
                        bif (ok_law28_corr F v3689 v3690 v3691 v3692) then (
                          bif (((((o_law28_corr_0 F v3689 v3690 v3691 v3692)) == ((o_ref28_Fade_0 F v3694 v3695 v3696 v3697 v3698 v3699 v3700 v3701 a12))) && ((((o_law28_corr_1 F v3689 v3690 v3691 v3692)) == ((o_ref28_Fade_1 F v3694 v3695 v3696 v3697 v3698 v3699 v3700 v3701 a12))) && ((((o_law28_corr_2 F v3689 v3690 v3691 v3692)) == ((o_ref28_Fade_2 F v3694 v3695 v3696 v3697 v3698 v3699 v3700 v3701 a12))) && (((o_law28_corr_3 F v3689 v3690 v3691 v3692)) == ((o_ref28_Fade_3 F v3694 v3695 v3696 v3697 v3698 v3699 v3700 v3701 a12))))))) then (
                            bif ((((o_fuse_Fade_4 F a0 a1 a2 a3 a4 a5 a6 a7 a12)) == ((o_ref28_Fade_4 F v3694 v3695 v3696 v3697 v3698 v3699 v3700 v3701 a12)))) then (
                              bif (ok_fuse_Check F a0 a1 a2 a3) then (
                                bif (ok_law28_rule F a0 a1 a2 a3) then (
                                  let v3810 : Int := (o_law28_rule_0 F a0 a1 a2 a3)
                                  let v3811 : Int := (o_law28_rule_1 F a0 a1 a2 a3)
                                  let v3812 : Int := (o_law28_rule_2 F a0 a1 a2 a3)
                                  let v3813 : Int := (o_law28_rule_3 F a0 a1 a2 a3)
                                  bif (ok_ref28_Check F v3810 v3811 v3812 v3813) then (
                                    bif ((((o_fuse_Check_0 F a0 a1 a2 a3)) == ((o_ref28_Check_0 F v3810 v3811 v3812 v3813)))) then (
                                      bif (ok_fuse_Right F a0 a1 a2 a3 a4 a5 a6 a7) then (
                                        bif (ok_law28_rule F a0 a1 a2 a3) then (
                                          let v3817 : Int := (o_law28_rule_0 F a0 a1 a2 a3)
                                          let v3818 : Int := (o_law28_rule_1 F a0 a1 a2 a3)
                                          let v3819 : Int := (o_law28_rule_2 F a0 a1 a2 a3)
                                          let v3820 : Int := (o_law28_rule_3 F a0 a1 a2 a3)
                                          bif (ok_law28_corr F a4 a5 a6 a7) then (
                                            let v3821 : Int := (o_law28_corr_0 F a4 a5 a6 a7)
                                            let v3822 : Int := (o_law28_corr_1 F a4 a5 a6 a7)
                                            let v3823 : Int := (o_law28_corr_2 F a4 a5 a6 a7)
                                            let v3824 : Int := (o_law28_corr_3 F a4 a5 a6 a7)
                                            bif (ok_ref28_Right F v3817 v3818 v3819 v3820 v3821 v3822 v3823 v3824) then (
                                              bif ((((o_fuse_Right_0 F a0 a1 a2 a3 a4 a5 a6 a7)) == ((o_ref28_Right_0 F v3817 v3818 v3819 v3820 v3821 v3822 v3823 v3824)))) then (
                                                bif (ok_fuse_Bound F a8 a13 a9 a12) then (
                                                  bif (ok_ref28_Bound F a8 a13 a9 a12) then (
                                                    bif ((((o_fuse_Bound_0 F a8 a13 a9 a12)) == ((o_ref28_Bound_0 F a8 a13 a9 a12)))) then (
                                                      bif (ok_law28_works F) then (
                                                        some (.v (.bool ((o_law28_works_0 F)))))
                                                      else (
                                                        none))
                                                    else (
                                                      some (.v (.bool false))))
                                                  else (
                                                    none))
                                                else (
                                                  none))
                                              else (
                                                some (.v (.bool false))))
                                            else (
                                              none))
                                          else (
                                            none))
                                        else (
                                          none))
                                      else (
                                        none))
                                    else (
                                      some (.v (.bool false))))
                                  else (
                                    none))
                                else (
                                  none))
                              else (
                                none))
                            else (
                              some (.v (.bool false))))
                          else (
                            some (.v (.bool false))))
                        else (
                          none))
                      else (
                        some (.v (.bool false))))
                    else (
                      some (.v (.bool false))))
                  else (
                    none))
                else (
                  none))
              else (
                none))
            else (
              none))
          else (
            none))
        else (
          none))
      else (
        none))
    else (
      none))
  else (
    none) : R) := by
    intros
    kernel_rfl
  exact (h ok_fuse_Pull o_fuse_Pull_0 o_fuse_Pull_1 o_fuse_Pull_2 o_fuse_Pull_3 o_fuse_Pull_4 ok_law28_rule o_law28_rule_0 o_law28_rule_1 o_law28_rule_2 o_law28_rule_3 ok_law28_corr o_law28_corr_0 o_law28_corr_1 o_law28_corr_2 o_law28_corr_3 ok_ref28_Pull o_ref28_Pull_0 o_ref28_Pull_1 o_ref28_Pull_2 o_ref28_Pull_3 o_ref28_Pull_4 ok_fuse_Fade o_fuse_Fade_0 o_fuse_Fade_1 o_fuse_Fade_2 o_fuse_Fade_3 o_fuse_Fade_4 ok_ref28_Fade o_ref28_Fade_0 o_ref28_Fade_1 o_ref28_Fade_2 o_ref28_Fade_3 o_ref28_Fade_4 ok_fuse_Check o_fuse_Check_0 ok_ref28_Check o_ref28_Check_0 ok_fuse_Right o_fuse_Right_0 ok_ref28_Right o_ref28_Right_0 ok_fuse_Bound o_fuse_Bound_0 ok_ref28_Bound o_ref28_Bound_0 ok_law28_works o_law28_works_0).trans (by kernel_rfl)
def ok_law28_FuseTells (F : Nat) (a0 : Int) (a1 : Int) (a2 : Int) (a3 : Int) (a4 : Int) (a5 : Int) (a6 : Int) (a7 : Int) (a8 : Int) (a9 : Int) (a10 : Int) (a11 : Int) (a12 : Int) (a13 : Int) : Bool := okT to_law28_FuseTells (f_law28_FuseTells F a0 a1 a2 a3 a4 a5 a6 a7 a8 a9 a10 a11 a12 a13)
def o_law28_FuseTells_0 (F : Nat) (a0 : Int) (a1 : Int) (a2 : Int) (a3 : Int) (a4 : Int) (a5 : Int) (a6 : Int) (a7 : Int) (a8 : Int) (a9 : Int) (a10 : Int) (a11 : Int) (a12 : Int) (a13 : Int) : Bool := atB (nth (outT to_law28_FuseTells (f_law28_FuseTells F a0 a1 a2 a3 a4 a5 a6 a7 a8 a9 a10 a11 a12 a13)) 0)
theorem k_law28_FuseTells (F : Nat) (a0 : Int) (a1 : Int) (a2 : Int) (a3 : Int) (a4 : Int) (a5 : Int) (a6 : Int) (a7 : Int) (a8 : Int) (a9 : Int) (a10 : Int) (a11 : Int) (a12 : Int) (a13 : Int) {z0 : Bool} (h : f_law28_FuseTells F a0 a1 a2 a3 a4 a5 a6 a7 a8 a9 a10 a11 a12 a13 = some (.v (.bool z0))) : ok_law28_FuseTells F a0 a1 a2 a3 a4 a5 a6 a7 a8 a9 a10 a11 a12 a13 = true ∧ o_law28_FuseTells_0 F a0 a1 a2 a3 a4 a5 a6 a7 a8 a9 a10 a11 a12 a13 = z0 := by
  refine ⟨?_, ?_⟩
  · unfold ok_law28_FuseTells; rw [h]; kernel_rfl
  · unfold o_law28_FuseTells_0; rw [h]; kernel_rfl
def s_law28_FuseTells (F : Nat) : List VV → Option (Bool × VV) := spec ti_law28_FuseTells to_law28_FuseTells (fun q => (ok_law28_FuseTells F (atI (nth q 0)) (atI (nth q 1)) (atI (nth q 2)) (atI (nth q 3)) (atI (nth q 4)) (atI (nth q 5)) (atI (nth q 6)) (atI (nth q 7)) (atI (nth q 8)) (atI (nth q 9)) (atI (nth q 10)) (atI (nth q 11)) (atI (nth q 12)) (atI (nth q 13)))) (fun q => [.b (o_law28_FuseTells_0 F (atI (nth q 0)) (atI (nth q 1)) (atI (nth q 2)) (atI (nth q 3)) (atI (nth q 4)) (atI (nth q 5)) (atI (nth q 6)) (atI (nth q 7)) (atI (nth q 8)) (atI (nth q 9)) (atI (nth q 10)) (atI (nth q 11)) (atI (nth q 12)) (atI (nth q 13)))])
theorem hS_law28_FuseTells (F : Nat) : ∀ f, Good PP f (unS (S_law28_FuseTells F f)) := words_good fun p hp => by
  simp only [List.mem_cons, List.not_mem_nil, or_false] at hp
  rcases hp with rfl | rfl | rfl | rfl | rfl | rfl | rfl | rfl | rfl | rfl | rfl | rfl | rfl
  · exact g_fuse_Pull F
  · exact g_law28_rule F
  · exact g_law28_corr F
  · exact g_ref28_Pull F
  · exact g_fuse_Fade F
  · exact g_ref28_Fade F
  · exact g_fuse_Check F
  · exact g_ref28_Check F
  · exact g_fuse_Right F
  · exact g_ref28_Right F
  · exact g_fuse_Bound F
  · exact g_ref28_Bound F
  · exact g_law28_works F
theorem hl_law28_FuseTells (F : Nat) : ∀ p ∈ loopsIn PP 4, LoopOK PP (S_law28_FuseTells F) c_law28_FuseTells F (I_law28_FuseTells F) (J_law28_FuseTells F) p :=
  loops_of [] (by kernel_rfl) all_nil
theorem hj_law28_FuseTells (F : Nat) : ∀ p ∈ joinsIn PP c_law28_FuseTells 4, JoinOK PP (S_law28_FuseTells F) c_law28_FuseTells (I_law28_FuseTells F) (J_law28_FuseTells F) p :=
  joins_of [] (by kernel_rfl) all_nil
theorem g_law28_FuseTells (F : Nat) : Good PP 4 (unS (s_law28_FuseTells F)) :=
  fun_spec (hS_law28_FuseTells F) (by kernel_rfl) (by kernel_rfl) (C := c_law28_FuseTells) (F := fun q => (f_law28_FuseTells F (atI (nth q 0)) (atI (nth q 1)) (atI (nth q 2)) (atI (nth q 3)) (atI (nth q 4)) (atI (nth q 5)) (atI (nth q 6)) (atI (nth q 7)) (atI (nth q 8)) (atI (nth q 9)) (atI (nth q 10)) (atI (nth q 11)) (atI (nth q 12)) (atI (nth q 13)))) (fun _ => F) (fun _ => I_law28_FuseTells F) (fun _ => J_law28_FuseTells F) (fun _ => hl_law28_FuseTells F) (fun _ => hj_law28_FuseTells F)
    (fun q => (congrArg (funL PP (S_law28_FuseTells F) c_law28_FuseTells (I_law28_FuseTells F) (J_law28_FuseTells F) 4) (show (fTs ti_law28_FuseTells q).1 = (fTs ti_law28_FuseTells [.i (atI (nth q 0)), .i (atI (nth q 1)), .i (atI (nth q 2)), .i (atI (nth q 3)), .i (atI (nth q 4)), .i (atI (nth q 5)), .i (atI (nth q 6)), .i (atI (nth q 7)), .i (atI (nth q 8)), .i (atI (nth q 9)), .i (atI (nth q 10)), .i (atI (nth q 11)), .i (atI (nth q 12)), .i (atI (nth q 13))]).1 by kernel_rfl)).trans (e_law28_FuseTells F (atI (nth q 0)) (atI (nth q 1)) (atI (nth q 2)) (atI (nth q 3)) (atI (nth q 4)) (atI (nth q 5)) (atI (nth q 6)) (atI (nth q 7)) (atI (nth q 8)) (atI (nth q 9)) (atI (nth q 10)) (atI (nth q 11)) (atI (nth q 12)) (atI (nth q 13))))
    (fun _ h => (okT_fill h).trans (congrArg some (by kernel_rfl)))

end Go.Xv
namespace Go.Xv
theorem p2pos (n : Nat) : (0 : Int) < 2 ^ n := Int.pow_pos (by decide)
theorem p2add (a b : Nat) : (2 : Int) ^ a * 2 ^ b = 2 ^ (a + b) := (Int.pow_add 2 a b).symm
theorem p2_64 {m : Nat} (h : m ≤ 64) : (2 : Int) ^ m * 2 ^ (64 - m) = 18446744073709551616 := by
  rw [p2add, show m + (64 - m) = 64 by omega]; decide
theorem p2cast (k : Nat) : ((2 ^ k : Nat) : Int) = 2 ^ k := by push_cast; rfl
theorem emod_mul {a P Q : Int} (hP : 0 < P) : (a * P) % (P * Q) = (a % Q) * P := by
  rw [Int.mul_comm a P, Int.mul_emod_mul_of_pos _ _ hP, Int.mul_comm]

theorem shl_small {h l : Int} {m : Nat} (hl : U64 l) (hm : m < 64) :
    IntKind.wrap .i64 (orI .u64 (((h % 18446744073709551616) * 2 ^ m) % 18446744073709551616) (l / 2 ^ (64 - m))) = hi (val h l * 2 ^ m) ∧ (l * 2 ^ m) % 18446744073709551616 = lo (val h l * 2 ^ m) := by
  have hP := p2pos m
  have hQ := p2pos (64 - m)
  have hPQ := p2_64 (m := m) (by omega)
  have eP : ((2 ^ m : Nat) : Int) = 2 ^ m := p2cast _
  have orq := fun a b => or_add_u64 m (a := a) (b := b)
  rw [eP] at orq
  generalize (2 : Int) ^ m = P at *
  generalize (2 : Int) ^ (64 - m) = Q at *
  have hv : val h l * P = h * P * 18446744073709551616 + l * P := by
    unfold val
    rw [Int.add_mul]
    have : h * 18446744073709551616 * P = h * P * 18446744073709551616 := by simp only [Int.mul_comm, Int.mul_assoc, Int.mul_left_comm]
    omega
  have hlP : 0 ≤ l / Q ∧ l / Q < P := by
    unfold U64 at hl
    exact ⟨Int.ediv_nonneg hl.1 (by omega), Int.ediv_lt_of_lt_mul hQ (by omega)⟩
  rw [hv]
  have e3 : (l * P) / 18446744073709551616 = l / Q := by
    rw [← hPQ, ← Int.ediv_ediv_of_nonneg (by omega), Int.mul_ediv_cancel _ (by omega)]
  constructor
  · have e1 : ((h % 18446744073709551616) * P) % 18446744073709551616 = (h % Q) * P := by
      rw [← hPQ, emod_mul hP, Int.emod_emod_of_dvd h (show Q ∣ P * Q from ⟨P, Int.mul_comm P Q⟩)]
    have b1 := Int.emod_nonneg h (show Q ≠ 0 by omega)
    have b2 := Int.emod_lt_of_pos h hQ
    have b3 : (h % Q) * P + l / Q < 18446744073709551616 := by
      have : (h % Q) * P ≤ (Q - 1) * P := Int.mul_le_mul_of_nonneg_right (by omega) (by omega)
      rw [Int.sub_mul, Int.mul_comm Q P] at this
      omega
    have b4 := Int.mul_nonneg b1 (show 0 ≤ P by omega)
    rw [e1, orq _ _ b1 hlP.1 hlP.2 b3, wi64]
    unfold hi
    have e2 : (h * P) % 18446744073709551616 = (h % Q) * P := by rw [← hPQ, emod_mul hP]
    rw [show (h * P * 18446744073709551616 + l * P) / 18446744073709551616 = h * P + (l * P) / 18446744073709551616 by omega, e3]
    omega
  · unfold lo
    omega

theorem shl_great {h l : Int} {m : Nat} (hm : 64 ≤ m) :
    IntKind.wrap .i64 ((l * 2 ^ (m - 64)) % 18446744073709551616) = hi (val h l * 2 ^ m) ∧ 0 = lo (val h l * 2 ^ m) := by
  have e : (2 : Int) ^ m = 2 ^ (m - 64) * 18446744073709551616 := by
    rw [show (18446744073709551616 : Int) = 2 ^ 64 by decide, p2add, show (m - 64) + 64 = m by omega]
  rw [e]
  generalize (2 : Int) ^ (m - 64) = P at *
  have hv : val h l * (P * 18446744073709551616) = (h * P * 18446744073709551616 + l * P) * 18446744073709551616 := by
    unfold val
    simp only [Int.add_mul]
    have : h * 18446744073709551616 * (P * 18446744073709551616) = h * P * 18446744073709551616 * 18446744073709551616 := by simp only [Int.mul_comm, Int.mul_assoc, Int.mul_left_comm]
    have : l * (P * 18446744073709551616) = l * P * 18446744073709551616 := by simp only [Int.mul_assoc]
    omega
  rw [hv]
  generalize h * P = a
  generalize l * P = b
  constructor
  · rw [wi64]; unfold hi; omega
  · unfold lo; omega
theorem shl_all {h l : Int} {m : Nat} (hm : 128 ≤ m) : 0 = hi (val h l * 2 ^ m) ∧ 0 = lo (val h l * 2 ^ m) := by
  have e : (2 : Int) ^ m = 2 ^ (m - 128) * 340282366920938463463374607431768211456 := by
    rw [show (340282366920938463463374607431768211456 : Int) = 2 ^ 128 by decide, p2add, show (m - 128) + 128 = m by omega]
  rw [e, ← Int.mul_assoc]
  generalize val h l * 2 ^ (m - 128) = b
  constructor
  · unfold hi; omega
  · unfold lo; omega
end Go.Xv
namespace Go.Xv
/-- one bit of a number -/
def dg (z : Int) (i : Nat) : Int := z / 2 ^ i % 2
def ds (z : Int) (n : Nat) : List VV := (List.range n).map fun i => .v (.int .i64 (dg z i))
theorem dg_01 (z : Int) (i : Nat) : 0 ≤ dg z i ∧ dg z i ≤ 1 := by unfold dg; omega
theorem ds_len (z : Int) (n : Nat) : (ds z n).length = n := by simp [ds]
theorem ds_zero (z : Int) : ds z 0 = [] := rfl
theorem ds_succ (z : Int) (n : Nat) : ds z (n + 1) = ds z n ++ [.v (.int .i64 (dg z n))] := by simp [ds, List.range_succ]
theorem ds_get (z : Int) {n i : Nat} (h : i < n) : (ds z n)[i]? = some (.v (.int .i64 (dg z i))) := by simp [ds, h]
theorem ds_take (z : Int) (n : Nat) : ((ds z n).drop 0).take (n * 1) = ds z n := by
  rw [List.drop_zero, List.take_of_length_le]
  rw [ds_len]; omega
theorem ediv2 (x : Int) (i : Nat) : x / 2 ^ i / 2 = x / 2 ^ (i + 1) := by
  rw [Int.ediv_ediv_of_nonneg (Int.le_of_lt (p2pos i))]; rfl
theorem bitlo (x : Int) {n i : Nat} (h : i < n) : (x % 2 ^ n) / 2 ^ i % 2 = x / 2 ^ i % 2 := by
  have e : (2 : Int) ^ n = 2 ^ i * (2 * 2 ^ (n - i - 1)) := by
    rw [show (2 : Int) * 2 ^ (n - i - 1) = 2 ^ (n - i) by
      rw [show n - i = (n - i - 1) + 1 by omega, Int.pow_succ]; simp [Int.mul_comm]]
    rw [p2add, show i + (n - i) = n by omega]
  have hd := Int.mul_ediv_add_emod x (2 ^ n)
  generalize hq : x / 2 ^ n = q at hd
  generalize hr : x % 2 ^ n = r at hd ⊢
  rw [← hd, e]
  have hP := p2pos i
  generalize (2 : Int) ^ i = P at *
  generalize (2 : Int) ^ (n - i - 1) = T at *
  rw [show P * (2 * T) * q + r = r + 2 * T * q * P by
    have : P * (2 * T) * q = 2 * T * q * P := by simp only [Int.mul_comm, Int.mul_left_comm]
    omega, Int.add_mul_ediv_right _ _ (by omega)]
  have : 2 * T * q = 2 * (T * q) := Int.mul_assoc ..
  omega
theorem dg_lo (z : Int) {i : Nat} (h : i < 64) : lo z / 2 ^ i % 2 = dg z i := bitlo z (n := 64) h
theorem dg_hi (z : Int) {i : Nat} (h : i < 64) : (z / 18446744073709551616 % 18446744073709551616) / 2 ^ i % 2 = dg z (64 + i) := by
  have := bitlo (z / 18446744073709551616) (n := 64) h
  rw [show (18446744073709551616 : Int) = 2 ^ 64 by decide] at *
  rw [this, Int.ediv_ediv_of_nonneg (by decide), p2add]
  rfl
/-- the number of the first bits -/
def num (z : Int) (n : Nat) : Int := z % 2 ^ n
theorem num_zero (z : Int) : num z 0 = 0 := by unfold num; omega
theorem num_succ (z : Int) (n : Nat) : num z (n + 1) = num z n + dg z n * 2 ^ n := by
  unfold num dg
  have h1 := Int.mul_ediv_add_emod z (2 ^ n)
  have h2 := Int.mul_ediv_add_emod (z / 2 ^ n) 2
  have h3 := Int.mul_ediv_add_emod z (2 ^ (n + 1))
  rw [← ediv2] at h3
  have hP := p2pos n
  have e : (2 : Int) ^ (n + 1) = 2 * 2 ^ n := by rw [Int.pow_succ, Int.mul_comm]
  rw [e] at h3 ⊢
  generalize (2 : Int) ^ n = P at *
  generalize z / P = q at *
  have : 2 * P * (q / 2) = P * (2 * (q / 2)) := by simp only [Int.mul_comm, Int.mul_left_comm]
  have : P * q = P * (2 * (q / 2) + q % 2) := by rw [h2]
  rw [Int.mul_add] at this
  rw [Int.mul_comm (q % 2) P]
  omega
theorem num_bd (z : Int) (n : Nat) : 0 ≤ num z n ∧ num z n < 2 ^ n := by
  have := p2pos n
  exact ⟨Int.emod_nonneg _ (by omega), Int.emod_lt_of_pos _ this⟩
theorem p2mono {a b : Nat} (h : a ≤ b) : (2 : Int) ^ a ≤ 2 ^ b := by
  rw [show b = a + (b - a) by omega, ← p2add]
  have h1 := p2pos a
  have h2 := p2pos (b - a)
  have : (2 : Int) ^ a * 1 ≤ 2 ^ a * 2 ^ (b - a) := Int.mul_le_mul_of_nonneg_left (by omega) (by omega)
  omega
theorem p2_lt64 {i : Nat} (h : i < 64) : (2 : Int) ^ i * 2 ≤ 18446744073709551616 := by
  have := p2mono (a := i + 1) (b := 64) (by omega)
  rw [Int.pow_succ] at this
  simpa using this
/-- the bits of a sum -/
def cy (x y : Int) (i : Nat) : Int := (num x i + num y i) / 2 ^ i
theorem cy_zero (x y : Int) : cy x y 0 = 0 := by unfold cy; rw [num_zero, num_zero]; decide
theorem cy_01 (x y : Int) (i : Nat) : 0 ≤ cy x y i ∧ cy x y i ≤ 1 := by
  unfold cy
  have h1 := num_bd x i
  have h2 := num_bd y i
  have hP := p2pos i
  generalize (2 : Int) ^ i = P at *
  refine ⟨Int.ediv_nonneg (by omega) (by omega), ?_⟩
  have : (num x i + num y i) / P < 2 := Int.ediv_lt_of_lt_mul hP (by omega)
  omega
theorem cy_succ (x y : Int) (i : Nat) : cy x y (i + 1) = (dg x i + dg y i + cy x y i) / 2 ∧ dg (x + y) i = (dg x i + dg y i + cy x y i) % 2 := by
  have hP := p2pos i
  have e1 := num_succ x i
  have e2 := num_succ y i
  constructor
  · unfold cy
    rw [e1, e2, ← ediv2]
    generalize (2 : Int) ^ i = P at *
    rw [show num x i + dg x i * P + (num y i + dg y i * P) = num x i + num y i + (dg x i + dg y i) * P by rw [Int.add_mul]; omega, Int.add_mul_ediv_right _ _ (by omega)]
    congr 1
    omega
  · unfold cy
    have h1 := Int.mul_ediv_add_emod x (2 ^ i)
    have h2 := Int.mul_ediv_add_emod y (2 ^ i)
    have h3 : (x + y) / 2 ^ i = x / 2 ^ i + y / 2 ^ i + (num x i + num y i) / 2 ^ i := by
      unfold num
      generalize (2 : Int) ^ i = P at *
      have : x + y = (x % P + y % P) + (x / P + y / P) * P := by
        rw [Int.add_mul, Int.mul_comm _ P, Int.mul_comm _ P]; omega
      rw [this, Int.add_mul_ediv_right _ _ (by omega)]
      omega
    unfold dg
    rw [h3]
    omega
theorem dg_not (z : Int) (i : Nat) : dg (-1 - z) i = 1 - dg z i := by
  have h : (-1 - z) / 2 ^ i = -1 - z / 2 ^ i := by
    have hP := p2pos i
    have h1 := Int.mul_ediv_add_emod z (2 ^ i)
    have h2 := Int.emod_nonneg z (show (2 : Int) ^ i ≠ 0 by omega)
    have h3 := Int.emod_lt_of_pos z hP
    generalize (2 : Int) ^ i = P at *
    generalize z / P = q at *
    generalize z % P = r at *
    rw [← h1, show -1 - (P * q + r) = (P - 1 - r) + (-1 - q) * P by rw [Int.sub_mul, Int.mul_comm P q]; omega, Int.add_mul_ediv_right _ _ (by omega), Int.ediv_eq_zero_of_lt (by omega) (by omega)]
    omega
  unfold dg
  rw [h]
  omega
end Go.Xv
namespace Go.Xv
def angs : List Int := [536870912, 316933406, 167458907, 85004756, 42667331, 21354465, 10679838, 5340245, 2670163, 1335087, 667544, 333772, 166886, 83443, 41722, 20861, 10430, 5215, 2608, 1304, 652, 326, 163, 81, 41, 20, 10, 5, 3, 1]
def tA (i : Nat) : Int := angs.getD i 0
end Go.Xv
namespace Go.Xv
theorem bp {α : Type} {c : Bool} {a b x : α} (h : c = true) (h2 : a = x) : (bif c then a else b) = x := by rw [h]; exact h2
theorem bn {α : Type} {c : Bool} {a b x : α} (h : c = false) (h2 : b = x) : (bif c then a else b) = x := by rw [h]; exact h2
theorem dt {p : Prop} [Decidable p] (h : p) : decide p = true := decide_eq_true h
theorem df {p : Prop} [Decidable p] (h : ¬ p) : decide p = false := decide_eq_false h
theorem fdiv_pos (a : Int) {b : Int} (h : 0 ≤ b) : Int.fdiv a b = a / b := Int.fdiv_eq_ediv_of_nonneg a h
theorem some_int {k : IntKind} {a b : Int} (h : a = b) : (some (VV.v (.int k a)) : R) = some (.v (.int k b)) := by rw [h]
theorem some_wd {a b : Int} {z : Int} (h : a = hi z) (k : b = lo z) : (some (VV.v (.agg #[.int .i64 a, .int .u64 b])) : R) = some (wd z) := by rw [h, k]; rfl

theorem f_Add (F : Nat) {a b c d : Int} (hb : U64 b) (hd : U64 d) : f_wide_Add F a b c d = some (wd (val a b + val c d)) := by
  unfold f_wide_Add
  unfold U64 at hb hd
  simp only [wu64, wi64]
  by_cases h : (b + d) % 18446744073709551616 < b
  · refine bp (dt h) (some_wd ?_ ?_)
    · unfold hi val; omega
    · unfold lo val; omega
  · refine bn (df h) (some_wd ?_ ?_)
    · unfold hi val; omega
    · unfold lo val; omega

end Go.Xv
namespace Go.Xv
theorem some_bool {a b : Bool} (h : a = b) : (some (VV.v (.bool a)) : R) = some (.v (.bool b)) := by rw [h]
theorem nn (k : Nat) : (!decide ((k : Int) < 0)) = true := by rw [df (by omega)]; rfl
theorem p2min {m : Nat} (h : m ≤ 64) : min (Int.toNat (m : Int)) 64 = m := by omega

theorem f_Of (F : Nat) {n : Int} (h : I64 n) : f_wide_Of F n = some (wd n) := by
  unfold f_wide_Of
  unfold I64 at h
  refine some_wd ?_ ?_
  · rw [fdiv_pos _ (by decide)]; unfold hi; omega
  · rw [wu64]; rfl
theorem f_rOf (F : Nat) {n : Int} (h : I64 n) : f_ref01_Of F n = some (wd n) := by
  unfold f_ref01_Of
  unfold I64 at h
  by_cases h0 : n < 0
  · refine bp (dt h0) (some_wd ?_ ?_)
    · unfold hi; omega
    · rw [wu64]; rfl
  · refine bn (df h0) (some_wd ?_ ?_)
    · unfold hi; omega
    · rw [wu64]; rfl

/-- how far a number is shifted to the right at most -/
def cl (n : Int) : Nat := (if 127 < (if 0 > n then 0 else n) then 127 else (if 0 > n then 0 else n)).toNat
theorem f_Left (F : Nat) {a b n : Int} (hb : U64 b) : f_wide_Left F a b n = some (wd (val a b * 2 ^ n.toNat)) := by
  unfold f_wide_Left
  have hv : (if 0 > n then 0 else n) = ((n.toNat : Nat) : Int) := by split <;> omega
  rw [hv]
  generalize n.toNat = m
  simp only [Int.toNat_natCast]
  by_cases h : 128 ≤ m
  · refine bp (dt (by omega)) ?_
    obtain ⟨h1, h2⟩ := shl_all (h := a) (l := b) h
    exact some_wd h1 h2
  · refine bn (df (by omega)) ?_
    by_cases h : 64 ≤ m
    · refine bp (dt (by omega)) ?_
      rw [wi64_in (x := (m : Int) - 64) (by unfold I64; omega), show (m : Int) - 64 = ((m - 64 : Nat) : Int) by omega]
      refine bp (nn _) ?_
      rw [p2min (by omega), wu64]
      obtain ⟨h1, h2⟩ := shl_great (h := a) (l := b) h
      exact some_wd h1 h2
    · refine bn (df (by omega)) ?_
      refine bp (nn _) ?_
      rw [wi64_in (x := 64 - (m : Int)) (by unfold I64; omega), show 64 - (m : Int) = ((64 - m : Nat) : Int) by omega]
      refine bp (nn _) (bp (nn _) ?_)
      rw [fdiv_pos _ (Int.le_of_lt (p2pos _)), show min m 64 = m by omega, p2min (by omega), wu64, wu64, wu64]
      obtain ⟨h1, h2⟩ := shl_small (h := a) hb (show m < 64 by omega)
      exact some_wd h1 h2

end Go.Xv
