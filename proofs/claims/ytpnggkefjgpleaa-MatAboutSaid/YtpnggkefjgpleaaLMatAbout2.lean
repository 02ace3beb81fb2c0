/- What turns about any axis by any angle is as the document says, or refused: the law returns true for every input, and leaves its arguments as they were. -/
import Derived.Test.YtpnggkefjgpleaaLMatAbout
import Derived.KernelRfl
set_option linter.unusedVariables false
namespace Go.Xv
/- 46 _law07_works -/
def c_law07_works : Cfg := ⟨[0, 1, 2, 3, 4, 5, 6], [], [], []⟩
def ti_law07_works : List TV := []
def to_law07_works : TV := .v (.bool)
def S_law07_works (F : Nat) : FuncId → List VV → Option (Bool × VV) := words [(44, s_mat_About F), (53, s_mat_Apply F), (57, s_mat_Same F)]
def W_law07_works (F : Nat) : List LW := []
def I_law07_works (F : Nat) : Nat → VS → (Exit → VS → R) → R := tabI c_law07_works (W_law07_works F)
def WJ_law07_works (F : Nat) : List LJ := []
def J_law07_works (F : Nat) : Nat → Nat → VS → (Exit → VS → R) → R := tabJ (WJ_law07_works F)
def f_law07_works (F : Nat) : R :=
  bif (ok_mat_About F 2 1073741824) then (
    let v2521 : Int := (o_mat_About_0 F 2 1073741824)
    let v2522 : Int := (o_mat_About_1 F 2 1073741824)
    let v2523 : Int := (o_mat_About_2 F 2 1073741824)
    let v2524 : Int := (o_mat_About_3 F 2 1073741824)
    let v2525 : Int := (o_mat_About_4 F 2 1073741824)
    let v2526 : Int := (o_mat_About_5 F 2 1073741824)
    let v2527 : Int := (o_mat_About_6 F 2 1073741824)
    let v2528 : Int := (o_mat_About_7 F 2 1073741824)
    let v2529 : Int := (o_mat_About_8 F 2 1073741824)
    bif (ok_mat_Apply F v2521 v2522 v2523 v2524 v2525 v2526 v2527 v2528 v2529 4294967296 0 0) then (
      bif (ok_mat_Apply F v2521 v2522 v2523 v2524 v2525 v2526 v2527 v2528 v2529 0 0 4294967296) then (
        bif ((((o_mat_About_9 F 2 1073741824)) == 0)) then (
          bif ((decide (((o_mat_Apply_1 F v2521 v2522 v2523 v2524 v2525 v2526 v2527 v2528 v2529 4294967296 0 0)) > 4294966272))) then (
            bif ((!((o_mat_Apply_3 F v2521 v2522 v2523 v2524 v2525 v2526 v2527 v2528 v2529 4294967296 0 0)))) then (
              bif (((((o_mat_Apply_0 F v2521 v2522 v2523 v2524 v2525 v2526 v2527 v2528 v2529 0 0 4294967296)) == 0) && ((((o_mat_Apply_1 F v2521 v2522 v2523 v2524 v2525 v2526 v2527 v2528 v2529 0 0 4294967296)) == 0) && (((o_mat_Apply_2 F v2521 v2522 v2523 v2524 v2525 v2526 v2527 v2528 v2529 0 0 4294967296)) == 4294967296)))) then (
                bif ((!((o_mat_Apply_3 F v2521 v2522 v2523 v2524 v2525 v2526 v2527 v2528 v2529 0 0 4294967296)))) then (
                  bif (ok_mat_Same F) then (
                    some (.v (.bool ((((o_mat_Same_4 F)) == 4294967296)))))
                  else (
                    none))
                else (
                  some (.v (.bool false))))
              else (
                some (.v (.bool false))))
            else (
              some (.v (.bool false))))
          else (
            some (.v (.bool false))))
        else (
          some (.v (.bool false))))
      else (
        none))
    else (
      none))
  else (
    none)
theorem e_law07_works (F : Nat) : funL PP (S_law07_works F) c_law07_works (I_law07_works F) (J_law07_works F) 46 (fTs ti_law07_works []).1 = f_law07_works F := by
  have h : ∀ (ok_mat_About : Nat → Int → Int → Bool) (o_mat_About_0 : Nat → Int → Int → Int) (o_mat_About_1 : Nat → Int → Int → Int) (o_mat_About_2 : Nat → Int → Int → Int) (o_mat_About_3 : Nat → Int → Int → Int) (o_mat_About_4 : Nat → Int → Int → Int) (o_mat_About_5 : Nat → Int → Int → Int) (o_mat_About_6 : Nat → Int → Int → Int) (o_mat_About_7 : Nat → Int → Int → Int) (o_mat_About_8 : Nat → Int → Int → Int) (o_mat_About_9 : Nat → Int → Int → Int) (ok_mat_Apply : Nat → Int → Int → Int → Int → Int → Int → Int → Int → Int → Int → Int → Int → Bool) (o_mat_Apply_0 : Nat → Int → Int → Int → Int → Int → Int → Int → Int → Int → Int → Int → Int → Int) (o_mat_Apply_1 : Nat → Int → Int → Int → Int → Int → Int → Int → Int → Int → Int → Int → Int → Int) (o_mat_Apply_2 : Nat → Int → Int → Int → Int → Int → Int → Int → Int → Int → Int → Int → Int → Int) (o_mat_Apply_3 : Nat → Int → Int → Int → Int → Int → Int → Int → Int → Int → Int → Int → Int → Bool) (ok_mat_Same : Nat → Bool) (o_mat_Same_0 : Nat → Int) (o_mat_Same_1 : Nat → Int) (o_mat_Same_2 : Nat → Int) (o_mat_Same_3 : Nat → Int) (o_mat_Same_4 : Nat → Int) (o_mat_Same_5 : Nat → Int) (o_mat_Same_6 : Nat → Int) (o_mat_Same_7 : Nat → Int) (o_mat_Same_8 : Nat → Int), funL PP (words [(44, spec ti_mat_About to_mat_About (fun q => (ok_mat_About F (atI (nth q 0)) (atI (nth q 1)))) (fun q => [.i (o_mat_About_0 F (atI (nth q 0)) (atI (nth q 1))), .i (o_mat_About_1 F (atI (nth q 0)) (atI (nth q 1))), .i (o_mat_About_2 F (atI (nth q 0)) (atI (nth q 1))), .i (o_mat_About_3 F (atI (nth q 0)) (atI (nth q 1))), .i (o_mat_About_4 F (atI (nth q 0)) (atI (nth q 1))), .i (o_mat_About_5 F (atI (nth q 0)) (atI (nth q 1))), .i (o_mat_About_6 F (atI (nth q 0)) (atI (nth q 1))), .i (o_mat_About_7 F (atI (nth q 0)) (atI (nth q 1))), .i (o_mat_About_8 F (atI (nth q 0)) (atI (nth q 1))), .i (o_mat_About_9 F (atI (nth q 0)) (atI (nth q 1)))])), (53, spec ti_mat_Apply to_mat_Apply (fun q => (ok_mat_Apply F (atI (nth q 0)) (atI (nth q 1)) (atI (nth q 2)) (atI (nth q 3)) (atI (nth q 4)) (atI (nth q 5)) (atI (nth q 6)) (atI (nth q 7)) (atI (nth q 8)) (atI (nth q 9)) (atI (nth q 10)) (atI (nth q 11)))) (fun q => [.i (o_mat_Apply_0 F (atI (nth q 0)) (atI (nth q 1)) (atI (nth q 2)) (atI (nth q 3)) (atI (nth q 4)) (atI (nth q 5)) (atI (nth q 6)) (atI (nth q 7)) (atI (nth q 8)) (atI (nth q 9)) (atI (nth q 10)) (atI (nth q 11))), .i (o_mat_Apply_1 F (atI (nth q 0)) (atI (nth q 1)) (atI (nth q 2)) (atI (nth q 3)) (atI (nth q 4)) (atI (nth q 5)) (atI (nth q 6)) (atI (nth q 7)) (atI (nth q 8)) (atI (nth q 9)) (atI (nth q 10)) (atI (nth q 11))), .i (o_mat_Apply_2 F (atI (nth q 0)) (atI (nth q 1)) (atI (nth q 2)) (atI (nth q 3)) (atI (nth q 4)) (atI (nth q 5)) (atI (nth q 6)) (atI (nth q 7)) (atI (nth q 8)) (atI (nth q 9)) (atI (nth q 10)) (atI (nth q 11))), .b (o_mat_Apply_3 F (atI (nth q 0)) (atI (nth q 1)) (atI (nth q 2)) (atI (nth q 3)) (atI (nth q 4)) (atI (nth q 5)) (atI (nth q 6)) (atI (nth q 7)) (atI (nth q 8)) (atI (nth q 9)) (atI (nth q 10)) (atI (nth q 11)))])), (57, spec ti_mat_Same to_mat_Same (fun q => (ok_mat_Same F )) (fun q => [.i (o_mat_Same_0 F ), .i (o_mat_Same_1 F ), .i (o_mat_Same_2 F ), .i (o_mat_Same_3 F ), .i (o_mat_Same_4 F ), .i (o_mat_Same_5 F ), .i (o_mat_Same_6 F ), .i (o_mat_Same_7 F ), .i (o_mat_Same_8 F )]))]) c_law07_works (tabI c_law07_works []) (tabJ []) 46 (fTs ti_law07_works []).1 = (
  bif (ok_mat_About F 2 1073741824) then (
    let v2521 : Int := (o_mat_About_0 F 2 1073741824)
    let v2522 : Int := (o_mat_About_1 F 2 1073741824)
    let v2523 : Int := (o_mat_About_2 F 2 1073741824)
    let v2524 : Int := (o_mat_About_3 F 2 1073741824)
    let v2525 : Int := (o_mat_About_4 F 2 1073741824)
    let v2526 : Int := (o_mat_About_5 F 2 1073741824)
    let v2527 : Int := (o_mat_About_6 F 2 1073741824)
    let v2528 : Int := (o_mat_About_7 F 2 1073741824)
    let v2529 : Int := (o_mat_About_8 F 2 1073741824)
    bif (ok_mat_Apply F v2521 v2522 v2523 v2524 v2525 v2526 v2527 v2528 v2529 4294967296 0 0) then (
      bif (ok_mat_Apply F v2521 v2522 v2523 v2524 v2525 v2526 v2527 v2528 v2529 0 0 4294967296) then (
        bif ((((o_mat_About_9 F 2 1073741824)) == 0)) then (
          bif ((decide (((o_mat_Apply_1 F v2521 v2522 v2523 v2524 v2525 v2526 v2527 v2528 v2529 4294967296 0 0)) > 4294966272))) then (
            bif ((!((o_mat_Apply_3 F v2521 v2522 v2523 v2524 v2525 v2526 v2527 v2528 v2529 4294967296 0 0)))) then (
              bif (((((o_mat_Apply_0 F v2521 v2522 v2523 v2524 v2525 v2526 v2527 v2528 v2529 0 0 4294967296)) == 0) && ((((o_mat_Apply_1 F v2521 v2522 v2523 v2524 v2525 v2526 v2527 v2528 v2529 0 0 4294967296)) == 0) && (((o_mat_Apply_2 F v2521 v2522 v2523 v2524 v2525 v2526 v2527 v2528 v2529 0 0 4294967296)) == 4294967296)))) then (
                bif ((!((o_mat_Apply_3 F v2521 v2522 v2523 v2524 v2525 v2526 v2527 v2528 v2529 0 0 4294967296)))) then (
                  bif (ok_mat_Same F) then (
                    some (.v (.bool ((((o_mat_Same_4 F)) == 4294967296)))))
                  else (
                    none))
                else (
                  some (.v (.bool false))))
              else (
                some (.v (.bool false))))
            else (
              some (.v (.bool false))))
          else (
            some (.v (.bool false))))
        else (
          some (.v (.bool false))))
      else (
        none))
    else (
      none))
  else (
    none) : R) := by
    intros
    kernel_rfl
  exact (h ok_mat_About o_mat_About_0 o_mat_About_1 o_mat_About_2 o_mat_About_3 o_mat_About_4 o_mat_About_5 o_mat_About_6 o_mat_About_7 o_mat_About_8 o_mat_About_9 ok_mat_Apply o_mat_Apply_0 o_mat_Apply_1 o_mat_Apply_2 o_mat_Apply_3 ok_mat_Same o_mat_Same_0 o_mat_Same_1 o_mat_Same_2 o_mat_Same_3 o_mat_Same_4 o_mat_Same_5 o_mat_Same_6 o_mat_Same_7 o_mat_Same_8).trans (by kernel_rfl)
def ok_law07_works (F : Nat) : Bool := okT to_law07_works (f_law07_works F)
def o_law07_works_0 (F : Nat) : Bool := atB (nth (outT to_law07_works (f_law07_works F)) 0)
theorem k_law07_works (F : Nat) {z0 : Bool} (h : f_law07_works F = some (.v (.bool z0))) : ok_law07_works F = true ∧ o_law07_works_0 F = z0 := by
  refine ⟨?_, ?_⟩
  · unfold ok_law07_works; rw [h]; kernel_rfl
  · unfold o_law07_works_0; rw [h]; kernel_rfl
def s_law07_works (F : Nat) : List VV → Option (Bool × VV) := spec ti_law07_works to_law07_works (fun q => (ok_law07_works F )) (fun q => [.b (o_law07_works_0 F )])
theorem hS_law07_works (F : Nat) : ∀ f, Good PP f (unS (S_law07_works F f)) := words_good fun p hp => by
  simp only [List.mem_cons, List.not_mem_nil, or_false] at hp
  rcases hp with rfl | rfl | rfl
  · exact g_mat_About F
  · exact g_mat_Apply F
  · exact g_mat_Same F
theorem hl_law07_works (F : Nat) : ∀ p ∈ loopsIn PP 46, LoopOK PP (S_law07_works F) c_law07_works F (I_law07_works F) (J_law07_works F) p :=
  loops_of [] (by kernel_rfl) all_nil
theorem hj_law07_works (F : Nat) : ∀ p ∈ joinsIn PP c_law07_works 46, JoinOK PP (S_law07_works F) c_law07_works (I_law07_works F) (J_law07_works F) p :=
  joins_of [] (by kernel_rfl) all_nil
theorem g_law07_works (F : Nat) : Good PP 46 (unS (s_law07_works F)) :=
  fun_spec (hS_law07_works F) (by kernel_rfl) (by kernel_rfl) (C := c_law07_works) (F := fun q => (f_law07_works F )) (fun _ => F) (fun _ => I_law07_works F) (fun _ => J_law07_works F) (fun _ => hl_law07_works F) (fun _ => hj_law07_works F)
    (fun q => (congrArg (funL PP (S_law07_works F) c_law07_works (I_law07_works F) (J_law07_works F) 46) (show (fTs ti_law07_works q).1 = (fTs ti_law07_works []).1 by kernel_rfl)).trans (e_law07_works F ))
    (fun _ h => (okT_fill h).trans (congrArg some (by kernel_rfl)))

end Go.Xv
set_option linter.unusedVariables false
namespace Go.Xv
/- 45 _ref07_About -/
def c_ref07_About : Cfg := ⟨[0, 1, 4, 5, 6, 7, 8, 14, 16, 28, 40], [], [], []⟩
def ti_ref07_About : List TV := [.v (.int .i64), .v (.int .u32)]
def to_ref07_About : TV := .v (.tup [.agg [.int .i64, .int .i64, .int .i64, .int .i64, .int .i64, .int .i64, .int .i64, .int .i64, .int .i64], .int .i64])
def S_ref07_About (F : Nat) : FuncId → List VV → Option (Bool × VV) := words [(26, s_ref05_Both F)]
def W_ref07_About (F : Nat) : List LW := []
def I_ref07_About (F : Nat) : Nat → VS → (Exit → VS → R) → R := tabI c_ref07_About (W_ref07_About F)
def WJ_ref07_About (F : Nat) : List LJ := []
def J_ref07_About (F : Nat) : Nat → Nat → VS → (Exit → VS → R) → R := tabJ (WJ_ref07_About F)
def f_ref07_About (F : Nat) (a0 : Int) (a1 : Int) : R :=
  bif (ok_ref05_Both F a1) then (
    let v2501 : Int := (o_ref05_Both_0 F a1)
    let v2502 : Int := (o_ref05_Both_1 F a1)
    bif ((a0 == 0)) then (
      some (.v (.tuple #[.agg #[.int .i64 4294967296, .int .i64 0, .int .i64 0, .int .i64 0, .int .i64 v2501, .int .i64 ((IntKind.wrap .i64 (0 - v2502))), .int .i64 0, .int .i64 v2502, .int .i64 v2501], .int .i64 0])))
    else (
      bif ((a0 == 1)) then (
        some (.v (.tuple #[.agg #[.int .i64 v2501, .int .i64 0, .int .i64 v2502, .int .i64 0, .int .i64 4294967296, .int .i64 0, .int .i64 ((IntKind.wrap .i64 (0 - v2502))), .int .i64 0, .int .i64 v2501], .int .i64 0])))
      else (
        bif ((a0 == 2)) then (
          some (.v (.tuple #[.agg #[.int .i64 v2501, .int .i64 ((IntKind.wrap .i64 (0 - v2502))), .int .i64 0, .int .i64 v2502, .int .i64 v2501, .int .i64 0, .int .i64 0, .int .i64 0, .int .i64 4294967296], .int .i64 0])))
        else (
          some (.v (.tuple #[.agg #[.int .i64 0, .int .i64 0, .int .i64 0, .int .i64 0, .int .i64 0, .int .i64 0, .int .i64 0, .int .i64 0, .int .i64 0], .int .i64 2]))))))
  else (
    none)
theorem e_ref07_About (F : Nat) (a0 : Int) (a1 : Int) : funL PP (S_ref07_About F) c_ref07_About (I_ref07_About F) (J_ref07_About F) 45 (fTs ti_ref07_About [.i a0, .i a1]).1 = f_ref07_About F a0 a1 := by
  have h : ∀ (ok_ref05_Both : Nat → Int → Bool) (o_ref05_Both_0 : Nat → Int → Int) (o_ref05_Both_1 : Nat → Int → Int), funL PP (words [(26, spec ti_ref05_Both to_ref05_Both (fun q => (ok_ref05_Both F (atI (nth q 0)))) (fun q => [.i (o_ref05_Both_0 F (atI (nth q 0))), .i (o_ref05_Both_1 F (atI (nth q 0)))]))]) c_ref07_About (tabI c_ref07_About []) (tabJ []) 45 (fTs ti_ref07_About [.i a0, .i a1]).1 = (
  bif (ok_ref05_Both F a1) then (
    let v2501 : Int := (o_ref05_Both_0 F a1)
    let v2502 : Int := (o_ref05_Both_1 F a1)
    bif ((a0 == 0)) then (
      some (.v (.tuple #[.agg #[.int .i64 4294967296, .int .i64 0, .int .i64 0, .int .i64 0, .int .i64 v2501, .int .i64 ((IntKind.wrap .i64 (0 - v2502))), .int .i64 0, .int .i64 v2502, .int .i64 v2501], .int .i64 0])))
    else (
      bif ((a0 == 1)) then (
        some (.v (.tuple #[.agg #[.int .i64 v2501, .int .i64 0, .int .i64 v2502, .int .i64 0, .int .i64 4294967296, .int .i64 0, .int .i64 ((IntKind.wrap .i64 (0 - v2502))), .int .i64 0, .int .i64 v2501], .int .i64 0])))
      else (
        bif ((a0 == 2)) then (
          some (.v (.tuple #[.agg #[.int .i64 v2501, .int .i64 ((IntKind.wrap .i64 (0 - v2502))), .int .i64 0, .int .i64 v2502, .int .i64 v2501, .int .i64 0, .int .i64 0, .int .i64 0, .int .i64 4294967296], .int .i64 0])))
        else (
          some (.v (.tuple #[.agg #[.int .i64 0, .int .i64 0, .int .i64 0, .int .i64 0, .int .i64 0, .int .i64 0, .int .i64 0, .int .i64 0, .int .i64 0], .int .i64 2]))))))
  else (
    none) : R) := by
    intros
    kernel_rfl
  exact (h ok_ref05_Both o_ref05_Both_0 o_ref05_Both_1).trans (by kernel_rfl)
def ok_ref07_About (F : Nat) (a0 : Int) (a1 : Int) : Bool := okT to_ref07_About (f_ref07_About F a0 a1)
def o_ref07_About_0 (F : Nat) (a0 : Int) (a1 : Int) : Int := atI (nth (outT to_ref07_About (f_ref07_About F a0 a1)) 0)
def o_ref07_About_1 (F : Nat) (a0 : Int) (a1 : Int) : Int := atI (nth (outT to_ref07_About (f_ref07_About F a0 a1)) 1)
def o_ref07_About_2 (F : Nat) (a0 : Int) (a1 : Int) : Int := atI (nth (outT to_ref07_About (f_ref07_About F a0 a1)) 2)
def o_ref07_About_3 (F : Nat) (a0 : Int) (a1 : Int) : Int := atI (nth (outT to_ref07_About (f_ref07_About F a0 a1)) 3)
def o_ref07_About_4 (F : Nat) (a0 : Int) (a1 : Int) : Int := atI (nth (outT to_ref07_About (f_ref07_About F a0 a1)) 4)
def o_ref07_About_5 (F : Nat) (a0 : Int) (a1 : Int) : Int := atI (nth (outT to_ref07_About (f_ref07_About F a0 a1)) 5)
def o_ref07_About_6 (F : Nat) (a0 : Int) (a1 : Int) : Int := atI (nth (outT to_ref07_About (f_ref07_About F a0 a1)) 6)
def o_ref07_About_7 (F : Nat) (a0 : Int) (a1 : Int) : Int := atI (nth (outT to_ref07_About (f_ref07_About F a0 a1)) 7)
def o_ref07_About_8 (F : Nat) (a0 : Int) (a1 : Int) : Int := atI (nth (outT to_ref07_About (f_ref07_About F a0 a1)) 8)
def o_ref07_About_9 (F : Nat) (a0 : Int) (a1 : Int) : Int := atI (nth (outT to_ref07_About (f_ref07_About F a0 a1)) 9)
theorem k_ref07_About (F : Nat) (a0 : Int) (a1 : Int) {z0 : Int} {z1 : Int} {z2 : Int} {z3 : Int} {z4 : Int} {z5 : Int} {z6 : Int} {z7 : Int} {z8 : Int} {z9 : Int} (h : f_ref07_About F a0 a1 = some (.v (.tuple #[.agg #[.int .i64 z0, .int .i64 z1, .int .i64 z2, .int .i64 z3, .int .i64 z4, .int .i64 z5, .int .i64 z6, .int .i64 z7, .int .i64 z8], .int .i64 z9]))) : ok_ref07_About F a0 a1 = true ∧ o_ref07_About_0 F a0 a1 = z0 ∧ o_ref07_About_1 F a0 a1 = z1 ∧ o_ref07_About_2 F a0 a1 = z2 ∧ o_ref07_About_3 F a0 a1 = z3 ∧ o_ref07_About_4 F a0 a1 = z4 ∧ o_ref07_About_5 F a0 a1 = z5 ∧ o_ref07_About_6 F a0 a1 = z6 ∧ o_ref07_About_7 F a0 a1 = z7 ∧ o_ref07_About_8 F a0 a1 = z8 ∧ o_ref07_About_9 F a0 a1 = z9 := by
  refine ⟨?_, ?_, ?_, ?_, ?_, ?_, ?_, ?_, ?_, ?_, ?_⟩
  · unfold ok_ref07_About; rw [h]; kernel_rfl
  · unfold o_ref07_About_0; rw [h]; kernel_rfl
  · unfold o_ref07_About_1; rw [h]; kernel_rfl
  · unfold o_ref07_About_2; rw [h]; kernel_rfl
  · unfold o_ref07_About_3; rw [h]; kernel_rfl
  · unfold o_ref07_About_4; rw [h]; kernel_rfl
  · unfold o_ref07_About_5; rw [h]; kernel_rfl
  · unfold o_ref07_About_6; rw [h]; kernel_rfl
  · unfold o_ref07_About_7; rw [h]; kernel_rfl
  · unfold o_ref07_About_8; rw [h]; kernel_rfl
  · unfold o_ref07_About_9; rw [h]; kernel_rfl
def s_ref07_About (F : Nat) : List VV → Option (Bool × VV) := spec ti_ref07_About to_ref07_About (fun q => (ok_ref07_About F (atI (nth q 0)) (atI (nth q 1)))) (fun q => [.i (o_ref07_About_0 F (atI (nth q 0)) (atI (nth q 1))), .i (o_ref07_About_1 F (atI (nth q 0)) (atI (nth q 1))), .i (o_ref07_About_2 F (atI (nth q 0)) (atI (nth q 1))), .i (o_ref07_About_3 F (atI (nth q 0)) (atI (nth q 1))), .i (o_ref07_About_4 F (atI (nth q 0)) (atI (nth q 1))), .i (o_ref07_About_5 F (atI (nth q 0)) (atI (nth q 1))), .i (o_ref07_About_6 F (atI (nth q 0)) (atI (nth q 1))), .i (o_ref07_About_7 F (atI (nth q 0)) (atI (nth q 1))), .i (o_ref07_About_8 F (atI (nth q 0)) (atI (nth q 1))), .i (o_ref07_About_9 F (atI (nth q 0)) (atI (nth q 1)))])
theorem hS_ref07_About (F : Nat) : ∀ f, Good PP f (unS (S_ref07_About F f)) := words_good fun p hp => by
  simp only [List.mem_cons, List.not_mem_nil, or_false] at hp
  rcases hp with rfl
  · exact g_ref05_Both F
theorem hl_ref07_About (F : Nat) : ∀ p ∈ loopsIn PP 45, LoopOK PP (S_ref07_About F) c_ref07_About F (I_ref07_About F) (J_ref07_About F) p :=
  loops_of [] (by kernel_rfl) all_nil
theorem hj_ref07_About (F : Nat) : ∀ p ∈ joinsIn PP c_ref07_About 45, JoinOK PP (S_ref07_About F) c_ref07_About (I_ref07_About F) (J_ref07_About F) p :=
  joins_of [] (by kernel_rfl) all_nil
theorem g_ref07_About (F : Nat) : Good PP 45 (unS (s_ref07_About F)) :=
  fun_spec (hS_ref07_About F) (by kernel_rfl) (by kernel_rfl) (C := c_ref07_About) (F := fun q => (f_ref07_About F (atI (nth q 0)) (atI (nth q 1)))) (fun _ => F) (fun _ => I_ref07_About F) (fun _ => J_ref07_About F) (fun _ => hl_ref07_About F) (fun _ => hj_ref07_About F)
    (fun q => (congrArg (funL PP (S_ref07_About F) c_ref07_About (I_ref07_About F) (J_ref07_About F) 45) (show (fTs ti_ref07_About q).1 = (fTs ti_ref07_About [.i (atI (nth q 0)), .i (atI (nth q 1))]).1 by kernel_rfl)).trans (e_ref07_About F (atI (nth q 0)) (atI (nth q 1))))
    (fun _ h => (okT_fill h).trans (congrArg some (by kernel_rfl)))

end Go.Xv
set_option linter.unusedVariables false
namespace Go.Xv
/- 12 _law07_MatAbout -/
def c_law07_MatAbout : Cfg := ⟨[0, 1, 4, 5, 6, 7, 8], [], [], []⟩
def ti_law07_MatAbout : List TV := [.v (.int .i64), .v (.int .u32)]
def to_law07_MatAbout : TV := .v (.bool)
def S_law07_MatAbout (F : Nat) : FuncId → List VV → Option (Bool × VV) := words [(44, s_mat_About F), (45, s_ref07_About F), (46, s_law07_works F)]
def W_law07_MatAbout (F : Nat) : List LW := []
def I_law07_MatAbout (F : Nat) : Nat → VS → (Exit → VS → R) → R := tabI c_law07_MatAbout (W_law07_MatAbout F)
def WJ_law07_MatAbout (F : Nat) : List LJ := []
def J_law07_MatAbout (F : Nat) : Nat → Nat → VS → (Exit → VS → R) → R := tabJ (WJ_law07_MatAbout F)
def f_law07_MatAbout (F : Nat) (a0 : Int) (a1 : Int) : R :=
  bif (ok_mat_About F a0 a1) then (
    bif (ok_ref07_About F a0 a1) then (
      bif (((((o_mat_About_0 F a0 a1)) == ((o_ref07_About_0 F a0 a1))) && ((((o_mat_About_1 F a0 a1)) == ((o_ref07_About_1 F a0 a1))) && ((((o_mat_About_2 F a0 a1)) == ((o_ref07_About_2 F a0 a1))) && ((((o_mat_About_3 F a0 a1)) == ((o_ref07_About_3 F a0 a1))) && ((((o_mat_About_4 F a0 a1)) == ((o_ref07_About_4 F a0 a1))) && ((((o_mat_About_5 F a0 a1)) == ((o_ref07_About_5 F a0 a1))) && ((((o_mat_About_6 F a0 a1)) == ((o_ref07_About_6 F a0 a1))) && ((((o_mat_About_7 F a0 a1)) == ((o_ref07_About_7 F a0 a1))) && (((o_mat_About_8 F a0 a1)) == ((o_ref07_About_8 F a0 a1)))))))))))) then (
        bif ((((o_mat_About_9 F a0 a1)) == ((o_ref07_About_9 F a0 a1)))) then (
          bif (ok_law07_works F) then (
            some (.v (.bool ((o_law07_works_0 F)))))
          else (
            none))
        else (
          some (.v (.bool false))))
      else (
        some (.v (.bool false))))
    else (
      none))
  else (
    none)
theorem e_law07_MatAbout (F : Nat) (a0 : Int) (a1 : Int) : funL PP (S_law07_MatAbout F) c_law07_MatAbout (I_law07_MatAbout F) (J_law07_MatAbout F) 12 (fTs ti_law07_MatAbout [.i a0, .i a1]).1 = f_law07_MatAbout F a0 a1 := by
  have h : ∀ (ok_mat_About : Nat → Int → Int → Bool) (o_mat_About_0 : Nat → Int → Int → Int) (o_mat_About_1 : Nat → Int → Int → Int) (o_mat_About_2 : Nat → Int → Int → Int) (o_mat_About_3 : Nat → Int → Int → Int) (o_mat_About_4 : Nat → Int → Int → Int) (o_mat_About_5 : Nat → Int → Int → Int) (o_mat_About_6 : Nat → Int → Int → Int) (o_mat_About_7 : Nat → Int → Int → Int) (o_mat_About_8 : Nat → Int → Int → Int) (o_mat_About_9 : Nat → Int → Int → Int) (ok_ref07_About : Nat → Int → Int → Bool) (o_ref07_About_0 : Nat → Int → Int → Int) (o_ref07_About_1 : Nat → Int → Int → Int) (o_ref07_About_2 : Nat → Int → Int → Int) (o_ref07_About_3 : Nat → Int → Int → Int) (o_ref07_About_4 : Nat → Int → Int → Int) (o_ref07_About_5 : Nat → Int → Int → Int) (o_ref07_About_6 : Nat → Int → Int → Int) (o_ref07_About_7 : Nat → Int → Int → Int) (o_ref07_About_8 : Nat → Int → Int → Int) (o_ref07_About_9 : Nat → Int → Int → Int) (ok_law07_works : Nat → Bool) (o_law07_works_0 : Nat → Bool), funL PP (words [(44, spec ti_mat_About to_mat_About (fun q => (ok_mat_About F (atI (nth q 0)) (atI (nth q 1)))) (fun q => [.i (o_mat_About_0 F (atI (nth q 0)) (atI (nth q 1))), .i (o_mat_About_1 F (atI (nth q 0)) (atI (nth q 1))), .i (o_mat_About_2 F (atI (nth q 0)) (atI (nth q 1))), .i (o_mat_About_3 F (atI (nth q 0)) (atI (nth q 1))), .i (o_mat_About_4 F (atI (nth q 0)) (atI (nth q 1))), .i (o_mat_About_5 F (atI (nth q 0)) (atI (nth q 1))), .i (o_mat_About_6 F (atI (nth q 0)) (atI (nth q 1))), .i (o_mat_About_7 F (atI (nth q 0)) (atI (nth q 1))), .i (o_mat_About_8 F (atI (nth q 0)) (atI (nth q 1))), .i (o_mat_About_9 F (atI (nth q 0)) (atI (nth q 1)))])), (45, spec ti_ref07_About to_ref07_About (fun q => (ok_ref07_About F (atI (nth q 0)) (atI (nth q 1)))) (fun q => [.i (o_ref07_About_0 F (atI (nth q 0)) (atI (nth q 1))), .i (o_ref07_About_1 F (atI (nth q 0)) (atI (nth q 1))), .i (o_ref07_About_2 F (atI (nth q 0)) (atI (nth q 1))), .i (o_ref07_About_3 F (atI (nth q 0)) (atI (nth q 1))), .i (o_ref07_About_4 F (atI (nth q 0)) (atI (nth q 1))), .i (o_ref07_About_5 F (atI (nth q 0)) (atI (nth q 1))), .i (o_ref07_About_6 F (atI (nth q 0)) (atI (nth q 1))), .i (o_ref07_About_7 F (atI (nth q 0)) (atI (nth q 1))), .i (o_ref07_About_8 F (atI (nth q 0)) (atI (nth q 1))), .i (o_ref07_About_9 F (atI (nth q 0)) (atI (nth q 1)))])), (46, spec ti_law07_works to_law07_works (fun q => (ok_law07_works F )) (fun q => [.b (o_law07_works_0 F )]))]) c_law07_MatAbout (tabI c_law07_MatAbout []) (tabJ []) 12 (fTs ti_law07_MatAbout [.i a0, .i a1]).1 = (
  bif (ok_mat_About F a0 a1) then (
    bif (ok_ref07_About F a0 a1) then (
      bif (((((o_mat_About_0 F a0 a1)) == ((o_ref07_About_0 F a0 a1))) && ((((o_mat_About_1 F a0 a1)) == ((o_ref07_About_1 F a0 a1))) && ((((o_mat_About_2 F a0 a1)) == ((o_ref07_About_2 F a0 a1))) && ((((o_mat_About_3 F a0 a1)) == ((o_ref07_About_3 F a0 a1))) && ((((o_mat_About_4 F a0 a1)) == ((o_ref07_About_4 F a0 a1))) && ((((o_mat_About_5 F a0 a1)) == ((o_ref07_About_5 F a0 a1))) && ((((o_mat_About_6 F a0 a1)) == ((o_ref07_About_6 F a0 a1))) && ((((o_mat_About_7 F a0 a1)) == ((o_ref07_About_7 F a0 a1))) && (((o_mat_About_8 F a0 a1)) == ((o_ref07_About_8 F a0 a1)))))))))))) then (
        bif ((((o_mat_About_9 F a0 a1)) == ((o_ref07_About_9 F a0 a1)))) then (
          bif (ok_law07_works F) then (
            some (.v (.bool ((o_law07_works_0 F)))))
          else (
            none))
        else (
          some (.v (.bool false))))
      else (
        some (.v (.bool false))))
    else (
      none))
  else (
    none) : R) := by
    intros
    kernel_rfl
  exact (h ok_mat_About o_mat_About_0 o_mat_About_1 o_mat_About_2 o_mat_About_3 o_mat_About_4 o_mat_About_5 o_mat_About_6 o_mat_About_7 o_mat_About_8 o_mat_About_9 ok_ref07_About o_ref07_About_0 o_ref07_About_1 o_ref07_About_2 o_ref07_About_3 o_ref07_About_4 o_ref07_About_5 o_ref07_About_6 o_ref07_About_7 o_ref07_About_8 o_ref07_About_9 ok_law07_works o_law07_works_0).trans (by kernel_rfl)
def ok_law07_MatAbout (F : Nat) (a0 : Int) (a1 : Int) : Bool := okT to_law07_MatAbout (f_law07_MatAbout F a0 a1)
def o_law07_MatAbout_0 (F : Nat) (a0 : Int) (a1 : Int) : Bool := atB (nth (outT to_law07_MatAbout (f_law07_MatAbout F a0 a1)) 0)
theorem k_law07_MatAbout (F : Nat) (a0 : Int) (a1 : Int) {z0 : Bool} (h : f_law07_MatAbout F a0 a1 = some (.v (.bool z0))) : ok_law07_MatAbout F a0 a1 = true ∧ o_law07_MatAbout_0 F a0 a1 = z0 := by
  refine ⟨?_, ?_⟩
  · unfold ok_law07_MatAbout; rw [h]; kernel_rfl
  · unfold o_law07_MatAbout_0; rw [h]; kernel_rfl
def s_law07_MatAbout (F : Nat) : List VV → Option (Bool × VV) := spec ti_law07_MatAbout to_law07_MatAbout (fun q => (ok_law07_MatAbout F (atI (nth q 0)) (atI (nth q 1)))) (fun q => [.b (o_law07_MatAbout_0 F (atI (nth q 0)) (atI (nth q 1)))])
theorem hS_law07_MatAbout (F : Nat) : ∀ f, Good PP f (unS (S_law07_MatAbout F f)) := words_good fun p hp => by
  simp only [List.mem_cons, List.not_mem_nil, or_false] at hp
  rcases hp with rfl | rfl | rfl
  · exact g_mat_About F
  · exact g_ref07_About F
  · exact g_law07_works F
theorem hl_law07_MatAbout (F : Nat) : ∀ p ∈ loopsIn PP 12, LoopOK PP (S_law07_MatAbout F) c_law07_MatAbout F (I_law07_MatAbout F) (J_law07_MatAbout F) p :=
  loops_of [] (by kernel_rfl) all_nil
theorem hj_law07_MatAbout (F : Nat) : ∀ p ∈ joinsIn PP c_law07_MatAbout 12, JoinOK PP (S_law07_MatAbout F) c_law07_MatAbout (I_law07_MatAbout F) (J_law07_MatAbout F) p :=
  joins_of [] (by kernel_rfl) all_nil
theorem g_law07_MatAbout (F : Nat) : Good PP 12 (unS (s_law07_MatAbout F)) :=
  fun_spec (hS_law07_MatAbout F) (by kernel_rfl) (by kernel_rfl) (C := c_law07_MatAbout) (F := fun q => (f_law07_MatAbout F (atI (nth q 0)) (atI (nth q 1)))) (fun _ => F) (fun _ => I_law07_MatAbout F) (fun _ => J_law07_MatAbout F) (fun _ => hl_law07_MatAbout F) (fun _ => hj_law07_MatAbout F)
    (fun q => (congrArg (funL PP (S_law07_MatAbout F) c_law07_MatAbout (I_law07_MatAbout F) (J_law07_MatAbout F) 12) (show (fTs ti_law07_MatAbout q).1 = (fTs ti_law07_MatAbout [.i (atI (nth q 0)), .i (atI (nth q 1))]).1 by kernel_rfl)).trans (e_law07_MatAbout F (atI (nth q 0)) (atI (nth q 1))))
    (fun _ h => (okT_fill h).trans (congrArg some (by kernel_rfl)))

end Go.Xv
namespace Go.Xv
theorem p2pos (n : Nat) : (0 : Int) < 2 ^ n := Int.pow_pos (by decide)
theorem p2add (a b : Nat) : (2 : Int) ^ a * 2 ^ b = 2 ^ (a + b) := (Int.pow_add 2 a b).symm
theorem p2_64 {m : Nat} (h : m ≤ 64) : (2 : Int) ^ m * 2 ^ (64 - m) = 18446744073709551616 := by
  rw [p2add, show m + (64 - m) = 64 by omega]; decide
theorem p2cast (k : Nat) : ((2 ^ k : Nat) : Int) = 2 ^ k := by push_cast; rfl
theorem or_comm_u64 (a b : Int) : orI .u64 a b = orI .u64 b a := by rw [or_u64_bv, or_u64_bv, BitVec.or_comm]
theorem div_I64 {h P : Int} (hh : I64 h) (hP : 0 < P) : I64 (h / P) := by
  unfold I64 at *
  rcases Int.lt_or_le h 0 with hn | hn
  · constructor
    · rw [Int.le_ediv_iff_mul_le hP]
      have : -9223372036854775808 * P ≤ -9223372036854775808 * 1 := Int.mul_le_mul_of_nonpos_left (by omega) (by omega)
      omega
    · have := Int.ediv_neg_of_neg_of_pos hn hP
      omega
  · have h1 := Int.ediv_nonneg hn (Int.le_of_lt hP)
    have h2 := Int.ediv_le_self P hn
    omega
theorem emod_mul {a P Q : Int} (hP : 0 < P) : (a * P) % (P * Q) = (a % Q) * P := by
  rw [Int.mul_comm a P, Int.mul_emod_mul_of_pos _ _ hP, Int.mul_comm]

/-- a shift to the right by less than a half, put together of both halves. -/
theorem shr_small {h l : Int} {m : Nat} (hh : I64 h) (hl : U64 l) (hm : m < 64) :
    h / 2 ^ m = hi (val h l / 2 ^ m) ∧ orI .u64 (l / 2 ^ m) (((h % 18446744073709551616) * 2 ^ (64 - m)) % 18446744073709551616) = lo (val h l / 2 ^ m) := by
  have hP := p2pos m
  have hQ := p2pos (64 - m)
  have hPQ := p2_64 (m := m) (by omega)
  have hI := div_I64 hh hP
  have eP : ((2 ^ (64 - m) : Nat) : Int) = 2 ^ (64 - m) := p2cast _
  have orq := fun a b => or_add_u64 (64 - m) (a := a) (b := b)
  rw [eP] at orq
  generalize (2 : Int) ^ m = P at *
  generalize (2 : Int) ^ (64 - m) = Q at *
  have hv : val h l / P = h * Q + l / P := by
    unfold val
    rw [← hPQ, show h * (P * Q) + l = l + h * Q * P by rw [Int.mul_comm P Q, ← Int.mul_assoc]; omega, Int.add_mul_ediv_right _ _ (by omega)]
    omega
  have hlP : 0 ≤ l / P ∧ l / P < Q := by
    unfold U64 at hl
    refine ⟨Int.ediv_nonneg hl.1 (by omega), Int.ediv_lt_of_lt_mul hP ?_⟩
    rw [Int.mul_comm]; omega
  have h64 : (0 : Int) < 18446744073709551616 := by decide
  have hdd : (h * Q + l / P) / 18446744073709551616 = h / P := by
    rw [← hPQ, Int.mul_comm P Q, ← Int.ediv_ediv_of_nonneg (by omega), show h * Q + l / P = l / P + h * Q by omega, Int.add_mul_ediv_right _ _ (by omega), Int.ediv_eq_zero_of_lt hlP.1 hlP.2]
    simp
  rw [hv]
  constructor
  · unfold hi
    rw [hdd]
    unfold I64 at hI
    omega
  · have e1 : ((h % 18446744073709551616) * Q) % 18446744073709551616 = (h % P) * Q := by
      rw [← hPQ, Int.mul_comm P Q, emod_mul hQ, Int.mul_comm Q P, Int.emod_emod_of_dvd h (Int.dvd_mul_right P Q)]
    have b1 := Int.emod_nonneg h (show P ≠ 0 by omega)
    have b2 := Int.emod_lt_of_pos h hP
    have b3 : (h % P) * Q + l / P < 18446744073709551616 := by
      have : (h % P) * Q ≤ (P - 1) * Q := Int.mul_le_mul_of_nonneg_right (by omega) (by omega)
      rw [Int.sub_mul] at this
      omega
    have b4 := Int.mul_nonneg b1 (show 0 ≤ Q by omega)
    rw [e1, or_comm_u64, orq _ _ b1 hlP.1 hlP.2 b3]
    unfold lo
    have e2 : (h * Q) % 18446744073709551616 = (h % P) * Q := by rw [← hPQ, Int.mul_comm P Q, emod_mul hQ]
    omega

theorem shr_great {h l : Int} {m : Nat} (hl : U64 l) (hm : 64 ≤ m) : h / 2 ^ (m - 64) = val h l / 2 ^ m := by
  have e : (2 : Int) ^ m = 18446744073709551616 * 2 ^ (m - 64) := by
    rw [show (18446744073709551616 : Int) = 2 ^ 64 by decide, p2add, show 64 + (m - 64) = m by omega]
  rw [e, ← Int.ediv_ediv_of_nonneg (by decide)]
  congr 1
  unfold val
  unfold U64 at hl
  omega

end Go.Xv
namespace Go.Xv
/-- one bit of a number -/
def dg (z : Int) (i : Nat) : Int := z / 2 ^ i % 2
def ds (z : Int) (n : Nat) : List VV := (List.range n).map fun i => .v (.int .i64 (dg z i))
theorem ediv2 (x : Int) (i : Nat) : x / 2 ^ i / 2 = x / 2 ^ (i + 1) := by
  rw [Int.ediv_ediv_of_nonneg (Int.le_of_lt (p2pos i))]; rfl
theorem p2mono {a b : Nat} (h : a ≤ b) : (2 : Int) ^ a ≤ 2 ^ b := by
  rw [show b = a + (b - a) by omega, ← p2add]
  have h1 := p2pos a
  have h2 := p2pos (b - a)
  have : (2 : Int) ^ a * 1 ≤ 2 ^ a * 2 ^ (b - a) := Int.mul_le_mul_of_nonneg_left (by omega) (by omega)
  omega
end Go.Xv
namespace Go.Xv
def angs : List Int := [536870912, 316933406, 167458907, 85004756, 42667331, 21354465, 10679838, 5340245, 2670163, 1335087, 667544, 333772, 166886, 83443, 41722, 20861, 10430, 5215, 2608, 1304, 652, 326, 163, 81, 41, 20, 10, 5, 3, 1]
def tA (i : Nat) : Int := angs.getD i 0
theorem tA_bd : ∀ i, i < 30 → 1 ≤ tA i ∧ tA i ≤ 536870912 := by decide
theorem ediv_bd {y B : Int} (h : -B ≤ y ∧ y ≤ B) (i : Nat) : -B ≤ y / 2 ^ i ∧ y / 2 ^ i ≤ B := by
  have hP := p2pos i
  generalize (2 : Int) ^ i = P at *
  rcases Int.lt_or_le y 0 with hn | hn
  · constructor
    · rw [Int.le_ediv_iff_mul_le hP]
      have : -B * P ≤ -B * 1 := Int.mul_le_mul_of_nonpos_left (by omega) (by omega)
      omega
    · have := Int.ediv_neg_of_neg_of_pos hn hP
      omega
  · have h1 := Int.ediv_nonneg hn (Int.le_of_lt hP)
    have h2 := Int.ediv_le_self P hn
    omega
def rotX (i : Nat) (o : Bool) (x y : Int) : Int := if o then x - y / 2 ^ i else x + y / 2 ^ i
def rotY (i : Nat) (o : Bool) (x y : Int) : Int := if o then y + x / 2 ^ i else y - x / 2 ^ i
theorem rot_bd {x y B : Int} (hx : -B ≤ x ∧ x ≤ B) (hy : -B ≤ y ∧ y ≤ B) (i : Nat) (o : Bool) : (-(2 * B) ≤ rotX i o x y ∧ rotX i o x y ≤ 2 * B) ∧ (-(2 * B) ≤ rotY i o x y ∧ rotY i o x y ≤ 2 * B) := by
  have h1 := ediv_bd hx i
  have h2 := ediv_bd hy i
  unfold rotX rotY
  cases o
  · simp only [Bool.false_eq_true, if_false]; omega
  · simp only [if_true]; omega
/-- sine and cosine, step by step: both parts, and what is left -/
def bS (z : Int) : Nat → Int × Int × Int
  | 0 => (2608131496, 0, z)
  | i + 1 => (rotX i (decide (0 ≤ (bS z i).2.2)) (bS z i).1 (bS z i).2.1, rotY i (decide (0 ≤ (bS z i).2.2)) (bS z i).1 (bS z i).2.1, if 0 ≤ (bS z i).2.2 then (bS z i).2.2 - tA i else (bS z i).2.2 + tA i)
theorem bS_bd (z : Int) : ∀ i, (-(2608131496 * 2 ^ i) ≤ (bS z i).1 ∧ (bS z i).1 ≤ 2608131496 * 2 ^ i) ∧ (-(2608131496 * 2 ^ i) ≤ (bS z i).2.1 ∧ (bS z i).2.1 ≤ 2608131496 * 2 ^ i)
  | 0 => by simp [bS]
  | i + 1 => by
    obtain ⟨h1, h2⟩ := bS_bd z i
    have := rot_bd h1 h2 i (decide (0 ≤ (bS z i).2.2))
    have e : (2608131496 : Int) * 2 ^ (i + 1) = 2 * (2608131496 * 2 ^ i) := by rw [Int.pow_succ]; omega
    rw [e]
    exact this
theorem bS_I (z : Int) {i : Nat} (h : i ≤ 30) : (-4611686018427387904 ≤ (bS z i).1 ∧ (bS z i).1 ≤ 4611686018427387904) ∧ (-4611686018427387904 ≤ (bS z i).2.1 ∧ (bS z i).2.1 ≤ 4611686018427387904) := by
  have h1 := bS_bd z i
  have h2 : (2608131496 : Int) * 2 ^ i ≤ 2608131496 * 2 ^ 30 := Int.mul_le_mul_of_nonneg_left (p2mono h) (by decide)
  have h3 : (2608131496 : Int) * 2 ^ 30 ≤ 4611686018427387904 := by decide
  omega
theorem bS_z {z : Int} (hz : 0 ≤ z ∧ z < 1073741824) : ∀ {i : Nat}, i ≤ 30 → -(1073741824 + 536870912 * (i : Int)) ≤ (bS z i).2.2 ∧ (bS z i).2.2 ≤ 1073741824 + 536870912 * (i : Int)
  | 0, _ => by simp only [bS]; omega
  | i + 1, h => by
    have ih := bS_z hz (i := i) (by omega)
    have := tA_bd i (by omega)
    simp only [bS]
    push_cast
    split <;> omega
def cl01 (x : Int) : Int := min (max x 0) 4294967296
theorem cl01_bd (x : Int) : 0 ≤ cl01 x ∧ cl01 x ≤ 4294967296 := by unfold cl01; omega
def bC (a : Int) : Int := cl01 (bS (a % 1073741824) 30).1
def bN (a : Int) : Int := cl01 (bS (a % 1073741824) 30).2.1
/-- cosine and sine -/
def bothC (a : Int) : Int := if a / 1073741824 = 0 then bC a else if a / 1073741824 = 1 then -bN a else if a / 1073741824 = 2 then -bC a else bN a
def bothS (a : Int) : Int := if a / 1073741824 = 0 then bN a else if a / 1073741824 = 1 then bC a else if a / 1073741824 = 2 then -bN a else -bC a
theorem both_bd (a : Int) : (-4294967296 ≤ bothC a ∧ bothC a ≤ 4294967296) ∧ (-4294967296 ≤ bothS a ∧ bothS a ≤ 4294967296) := by
  have h1 := cl01_bd (bS (a % 1073741824) 30).1
  have h2 := cl01_bd (bS (a % 1073741824) 30).2.1
  unfold bothC bothS bC bN
  constructor <;> (repeat' split) <;> omega
end Go.Xv
namespace Go.Xv
theorem bp {α : Type} {c : Bool} {a b x : α} (h : c = true) (h2 : a = x) : (bif c then a else b) = x := by rw [h]; exact h2
theorem bn {α : Type} {c : Bool} {a b x : α} (h : c = false) (h2 : b = x) : (bif c then a else b) = x := by rw [h]; exact h2
theorem dt {p : Prop} [Decidable p] (h : p) : decide p = true := decide_eq_true h
theorem df {p : Prop} [Decidable p] (h : ¬ p) : decide p = false := decide_eq_false h
theorem fdiv_pos (a : Int) {b : Int} (h : 0 ≤ b) : Int.fdiv a b = a / b := Int.fdiv_eq_ediv_of_nonneg a h
theorem some_int {k : IntKind} {a b : Int} (h : a = b) : (some (VV.v (.int k a)) : R) = some (.v (.int k b)) := by rw [h]
theorem some_wd {a b : Int} {z : Int} (h : a = hi z) (k : b = lo z) : (some (VV.v (.agg #[.int .i64 a, .int .u64 b])) : R) = some (wd z) := by rw [h, k]; rfl

theorem f_bare (F : Nat) {a : Int} (h : I64 a) : f_wide_bare F a = some (.v (.int .u64 (if a < 0 then -a else a))) := by
  unfold f_wide_bare
  unfold I64 at h
  by_cases h0 : a < 0
  · refine bp (dt h0) (some_int ?_)
    rw [if_pos h0, wu64, wu64]; omega
  · refine bn (df h0) (some_int ?_)
    rw [if_neg h0, wu64]; omega

theorem f_product (F : Nat) {a b : Int} (ha : U64 a) (hb : U64 b) : f_wide_product F a b = some (wd (a * b)) := by
  unfold f_wide_product
  unfold U64 at ha hb
  have ea : a = a / 4294967296 * 4294967296 + a % 4294967296 := by omega
  have eb : b = b / 4294967296 * 4294967296 + b % 4294967296 := by omega
  have hp : 0 ≤ a / 4294967296 ∧ a / 4294967296 ≤ 4294967295 := by omega
  have hq : 0 ≤ a % 4294967296 ∧ a % 4294967296 ≤ 4294967295 := by omega
  have hr : 0 ≤ b / 4294967296 ∧ b / 4294967296 ≤ 4294967295 := by omega
  have hs : 0 ≤ b % 4294967296 ∧ b % 4294967296 ≤ 4294967295 := by omega
  have hab : a * b = (a / 4294967296) * (b / 4294967296) * 18446744073709551616 + ((a / 4294967296) * (b % 4294967296) + (a % 4294967296) * (b / 4294967296)) * 4294967296 + (a % 4294967296) * (b % 4294967296) := by
    generalize a / 4294967296 = p at *
    generalize a % 4294967296 = q at *
    generalize b / 4294967296 = r at *
    generalize b % 4294967296 = s at *
    subst ea eb
    simp only [Int.add_mul, Int.mul_add]
    have : p * 4294967296 * (r * 4294967296) = p * r * 18446744073709551616 := by
      rw [show (18446744073709551616 : Int) = 4294967296 * 4294967296 by decide]
      simp only [Int.mul_comm, Int.mul_assoc, Int.mul_left_comm]
    have : p * 4294967296 * s = p * s * 4294967296 := by simp only [Int.mul_comm, Int.mul_assoc, Int.mul_left_comm]
    have : q * (r * 4294967296) = q * r * 4294967296 := by simp only [Int.mul_assoc]
    omega
  have bd : ∀ x y : Int, (0 ≤ x ∧ x ≤ 4294967295) → (0 ≤ y ∧ y ≤ 4294967295) → 0 ≤ x * y ∧ x * y ≤ 18446744065119617025 := by
    intro x y hx hy
    have h1 := Int.mul_nonneg hx.1 hy.1
    have h2 : x * y ≤ 4294967295 * 4294967295 := Int.mul_le_mul hx.2 hy.2 hy.1 (by decide)
    exact ⟨h1, by simpa using h2⟩
  have b1 := bd _ _ hp hr
  have b2 := bd _ _ hp hs
  have b3 := bd _ _ hq hr
  have b4 := bd _ _ hq hs
  have m1 : ∀ x, U64 x → andI .u64 x 4294967295 = x % 4294967296 := fun x hx => mask32_u64 hx
  simp only [fdiv_pos _ (show (0 : Int) ≤ 4294967296 by decide)]
  rw [m1 a ha, m1 b hb]
  rw [hab]
  clear hab ea eb
  generalize a / 4294967296 * (b / 4294967296) = pr at *
  generalize a / 4294967296 * (b % 4294967296) = ps at *
  generalize a % 4294967296 * (b / 4294967296) = qr at *
  generalize a % 4294967296 * (b % 4294967296) = qs at *
  rw [wu64_in (x := qs) (by unfold U64; omega), wu64_in (x := ps) (by unfold U64; omega), wu64_in (x := qr) (by unfold U64; omega), wu64_in (x := pr) (by unfold U64; omega)]
  rw [wu64_in (x := ps + qs / 4294967296) (by unfold U64; omega)]
  rw [m1 _ (show U64 (ps + qs / 4294967296) by unfold U64; omega), m1 qs (by unfold U64; omega)]
  rw [wu64_in (x := (ps + qs / 4294967296) % 4294967296 + qr) (by unfold U64; omega)]
  have e : IntKind.wrap .u64 (((ps + qs / 4294967296) % 4294967296 + qr) * 4294967296) = (((ps + qs / 4294967296) % 4294967296 + qr) % 4294967296) * (2 ^ 32 : Nat) := by
    rw [wu64]; omega
  rw [e, or_add_u64 32 (by omega) (by omega) (by omega) (by omega)]
  refine some_wd ?_ ?_
  · simp only [wu64, wi64]; unfold hi; omega
  · unfold lo; omega

theorem f_Add (F : Nat) {a b c d : Int} (hb : U64 b) (hd : U64 d) : f_wide_Add F a b c d = some (wd (val a b + val c d)) := by
  unfold f_wide_Add
  unfold U64 at hb hd
  simp only [wu64, wi64]
  by_cases h : (b + d) % 18446744073709551616 < b
  · refine bp (dt h) (some_wd ?_ ?_)
    · unfold hi val; omega
    · unfold lo val; omega
  · refine bn (df h) (some_wd ?_ ?_)
    · unfold hi val; omega
    · unfold lo val; omega

theorem f_Neg (F : Nat) {a b : Int} (ha : I64 a) (hb : U64 b) : f_wide_Neg F a b = some (wd (-val a b)) := by
  unfold f_wide_Neg
  rw [not_i64 ha, not_u64 hb]
  unfold U64 at hb
  obtain ⟨h1, h2, h3⟩ := k_wide_Add F _ _ _ _ (f_Add F (a := -1 - a) (b := 18446744073709551615 - b) (c := 0) (d := 1) (by unfold U64; omega) (by unfold U64; omega))
  refine bp h1 ?_
  rw [h2, h3]
  refine some_wd (hi_eqv ?_) (lo_eqv ?_)
  all_goals unfold Eqv val; omega

theorem f_Mul (F : Nat) {a b : Int} (ha : I64 a) (hb : I64 b) : f_wide_Mul F a b = some (wd (a * b)) := by
  unfold f_wide_Mul
  obtain ⟨h1, h2⟩ := k_wide_bare F a (f_bare F ha)
  obtain ⟨h3, h4⟩ := k_wide_bare F b (f_bare F hb)
  unfold I64 at ha hb
  refine bp h1 (bp h3 ?_)
  simp only [h2, h4]
  obtain ⟨p1, p2, p3⟩ := k_wide_product F _ _ (f_product F (a := if a < 0 then -a else a) (b := if b < 0 then -b else b) (by unfold U64; split <;> omega) (by unfold U64; split <;> omega))
  refine bp p1 ?_
  simp only [p2, p3]
  have neg : ∀ z : Int, (bif ok_wide_Neg F (hi z) (lo z) then (some (.v (.agg #[.int .i64 (o_wide_Neg_0 F (hi z) (lo z)), .int .u64 (o_wide_Neg_1 F (hi z) (lo z))])) : R) else none) = some (wd (-z)) := by
    intro z
    obtain ⟨n1, n2, n3⟩ := k_wide_Neg F _ _ (f_Neg F (hi_I z) (lo_U z))
    refine bp n1 ?_
    rw [n2, n3, val_hl]
    exact some_wd (hi_eqv (W_eqv z).neg) (lo_eqv (W_eqv z).neg)
  by_cases h0 : a < 0 <;> by_cases k0 : b < 0
  · simp only [h0, k0, decide_true, if_true, BEq.rfl, Bool.not_true, cond_false, Int.neg_mul_neg]; rfl
  · simp only [h0, k0, decide_true, decide_false, if_true, if_false]
    refine bp (by decide) ?_
    rw [neg, Int.neg_mul, Int.neg_neg]
  · simp only [h0, k0, decide_true, decide_false, if_true, if_false]
    refine bp (by decide) ?_
    rw [neg, Int.mul_neg, Int.neg_neg]
  · simp only [h0, k0, decide_false, if_false, BEq.rfl, Bool.not_true, cond_false]; rfl
end Go.Xv
namespace Go.Xv
theorem some_bool {a b : Bool} (h : a = b) : (some (VV.v (.bool a)) : R) = some (.v (.bool b)) := by rw [h]
theorem nn (k : Nat) : (!decide ((k : Int) < 0)) = true := by rw [df (by omega)]; rfl
theorem p2min {m : Nat} (h : m ≤ 64) : min (Int.toNat (m : Int)) 64 = m := by omega

theorem f_Of (F : Nat) {n : Int} (h : I64 n) : f_wide_Of F n = some (wd n) := by
  unfold f_wide_Of
  unfold I64 at h
  refine some_wd ?_ ?_
  · rw [fdiv_pos _ (by decide)]; unfold hi; omega
  · rw [wu64]; rfl
/-- how far a number is shifted to the right at most -/
def cl (n : Int) : Nat := (if 127 < (if 0 > n then 0 else n) then 127 else (if 0 > n then 0 else n)).toNat
theorem f_Right (F : Nat) {a b n : Int} (ha : I64 a) (hb : U64 b) : f_wide_Right F a b n = some (wd (val a b / 2 ^ cl n)) := by
  unfold f_wide_Right cl
  dsimp only
  generalize hv : (if 127 < (if 0 > n then 0 else n) then (127 : Int) else (if 0 > n then 0 else n)) = v
  have hv2 : 0 ≤ v ∧ v ≤ 127 := by
    subst hv
    split <;> split <;> omega
  obtain ⟨m, rfl⟩ := Int.eq_ofNat_of_zero_le hv2.1
  simp only [Int.toNat_natCast]
  by_cases h : 64 ≤ m
  · refine bp (dt (by omega)) ?_
    rw [wi64_in (x := (m : Int) - 64) (by unfold I64; omega), show (m : Int) - 64 = ((m - 64 : Nat) : Int) by omega]
    refine bp (nn _) ?_
    rw [p2min (by omega), fdiv_pos _ (Int.le_of_lt (p2pos _))]
    obtain ⟨h1, h2, h3⟩ := k_wide_Of F _ (f_Of F (div_I64 ha (p2pos (m - 64))))
    refine bp h1 ?_
    rw [h2, h3, ← shr_great hb h]; rfl
  · refine bn (df (by omega)) ?_
    refine bp (nn _) (bp (nn _) ?_)
    rw [wi64_in (x := 64 - (m : Int)) (by unfold I64; omega), show 64 - (m : Int) = ((64 - m : Nat) : Int) by omega]
    refine bp (nn _) ?_
    rw [fdiv_pos _ (Int.le_of_lt (p2pos _)), fdiv_pos _ (Int.le_of_lt (p2pos _)), show min m 64 = m by omega, p2min (by omega), wu64, wu64]
    obtain ⟨h1, h2⟩ := shr_small ha hb (show m < 64 by omega)
    exact some_wd h1 h2

/-- over a power of two, to the nearest one -/
def near (z : Int) (m : Nat) : Int := if m = 0 then z else z / 2 ^ m + z / 2 ^ (m - 1) % 2
theorem cl_pred {n : Int} (h : 0 < n) (h2 : n ≤ 127) : cl (n - 1) = cl n - 1 := by
  unfold cl
  rw [if_neg (show ¬ 0 > n by omega), if_neg (show ¬ 0 > n - 1 by omega), if_neg (by omega), if_neg (by omega)]
  omega
theorem lo_mod2 (z : Int) : lo z % 2 = z % 2 := by unfold lo; omega
theorem f_Near (F : Nat) {a b n : Int} (ha : I64 a) (hb : U64 b) : f_wide_Near F a b n = some (wd (near (val a b) (cl n))) := by
  unfold f_wide_Near
  by_cases h : n ≤ 0
  · rw [if_neg (show ¬ 127 < n by omega)]
    refine bp (dt h) ?_
    have : cl n = 0 := by
      unfold cl
      rw [if_neg]
      · split <;> omega
      · split <;> omega
    rw [this]
    exact some_wd (hi_val ha hb).symm (lo_val hb).symm
  · generalize hv : (if 127 < n then 127 else n) = v
    have hc : cl n = cl v := by
      subst hv
      unfold cl
      by_cases hn : 127 < n
      · rw [if_pos hn, if_neg (show ¬ 0 > n by omega), if_pos hn]; decide
      · rw [if_neg hn]
    have hv1 : 0 < v ∧ v ≤ 127 := by subst hv; split <;> omega
    refine bn (df (by omega)) ?_
    obtain ⟨h1, h2, h3⟩ := k_wide_Right F _ _ _ (f_Right F (n := v) ha hb)
    refine bp h1 ?_
    rw [wi64_in (x := v - 1) (by unfold I64; omega)]
    obtain ⟨g1, g2, g3⟩ := k_wide_Right F _ _ _ (f_Right F (n := v - 1) ha hb)
    refine bp g1 ?_
    rw [h2, h3, g3, mask1_u64 (lo_U _), lo_mod2, cl_pred hv1.1 hv1.2, ← hc]
    have hm : cl n ≠ 0 := by
      rw [hc]
      unfold cl
      rw [if_neg (show ¬ 0 > v by omega), if_neg (by omega)]
      omega
    obtain ⟨k1, k2, k3⟩ := k_wide_Add F _ _ _ _ (f_Add F (a := hi (val a b / 2 ^ cl n)) (c := 0) (d := val a b / 2 ^ (cl n - 1) % 2) (lo_U (val a b / 2 ^ cl n)) (by unfold U64; omega))
    refine bp k1 ?_
    rw [k2, k3, val_hl]
    unfold near
    rw [if_neg hm]
    refine some_wd (hi_eqv ?_) (lo_eqv ?_)
    all_goals exact (W_eqv _).add (show Eqv (val 0 _) _ by unfold val; rw [Int.zero_mul, Int.zero_add]; exact rfl)

end Go.Xv
namespace Go.Xv
theorem zmul (i : Nat) : (0 + ((Int.toNat (i : Int)) * 1)) = i := by simp
end Go.Xv
namespace Go.Xv
theorem wi64_s (i : Nat) (h : i < 1000) : IntKind.wrap .i64 ((i : Int) + 1) = ((i + 1 : Nat) : Int) := by
  rw [wi64_in (by unfold I64; omega)]; push_cast; rfl
theorem ix_ok (i n : Nat) (h : i < n) : ((decide (0 ≤ (i : Int))) && (decide ((i : Int) < ((n : Nat) : Int)))) = true := by
  rw [dt (by omega), dt (by omega)]; rfl
end Go.Xv
namespace Go.Xv
theorem a_Add (F : Nat) (x y : Int) : ok_wide_Add F (hi x) (lo x) (hi y) (lo y) = true ∧ o_wide_Add_0 F (hi x) (lo x) (hi y) (lo y) = hi (x + y) ∧ o_wide_Add_1 F (hi x) (lo x) (hi y) (lo y) = lo (x + y) := by
  obtain ⟨h1, h2, h3⟩ := k_wide_Add F _ _ _ _ (f_Add F (a := hi x) (c := hi y) (lo_U x) (lo_U y))
  rw [h2, h3, val_hl, val_hl]
  have e := (W_eqv x).add (W_eqv y)
  exact ⟨h1, hi_eqv e, lo_eqv e⟩
theorem a_Of (F : Nat) {n : Int} (h : I64 n) : ok_wide_Of F n = true ∧ o_wide_Of_0 F n = hi n ∧ o_wide_Of_1 F n = lo n := k_wide_Of F _ (f_Of F h)
theorem a_Mul (F : Nat) {a b : Int} (ha : I64 a) (hb : I64 b) : ok_wide_Mul F a b = true ∧ o_wide_Mul_0 F a b = hi (a * b) ∧ o_wide_Mul_1 F a b = lo (a * b) := k_wide_Mul F _ _ (f_Mul F ha hb)
theorem a_Near (F : Nat) {x : Int} (n : Int) (h : W128 x) : ok_wide_Near F (hi x) (lo x) n = true ∧ o_wide_Near_0 F (hi x) (lo x) n = hi (near x (cl n)) ∧ o_wide_Near_1 F (hi x) (lo x) n = lo (near x (cl n)) := by
  have := k_wide_Near F _ _ n (f_Near F (n := n) (hi_I x) (lo_U x))
  rw [val_hl, W_in h] at this
  exact this
end Go.Xv
namespace Go.Xv
def clipV (z : Int) : Int := if z < -9223372036854775808 then -9223372036854775808 else if 9223372036854775807 < z then 9223372036854775807 else z
def clipC (z : Int) : Bool := decide (z < -9223372036854775808 ∨ 9223372036854775807 < z)
theorem some_clip {n : Int} {c : Bool} {z : Int} (h : n = clipV z) (k : c = clipC z) : (some (VV.v (.tuple #[.int .i64 n, .bool c])) : R) = some (.v (.tuple #[.int .i64 (clipV z), .bool (clipC z)])) := by rw [h, k]
theorem f_Clip (F : Nat) {a b : Int} (ha : I64 a) (hb : U64 b) : f_wide_Clip F a b = some (.v (.tuple #[.int .i64 (clipV (val a b)), .bool (clipC (val a b))])) := by
  unfold f_wide_Clip
  dsimp only
  obtain ⟨o1, o2, o3⟩ := a_Of F (wi64_I b)
  refine bp o1 ?_
  rw [o2, o3, wi64]
  have hv : ∀ z, z = val a b → True := fun _ _ => trivial
  unfold I64 at ha
  unfold U64 at hb
  by_cases h : -9223372036854775808 ≤ val a b ∧ val a b ≤ 9223372036854775807
  · refine bp ?_ (some_clip ?_ ?_)
    · unfold val at h
      rw [Bool.and_eq_true, beq_iff_eq, beq_iff_eq]
      unfold hi lo; omega
    · unfold clipV
      rw [if_neg (by omega), if_neg (by omega)]
      unfold val at *; omega
    · unfold clipC
      exact (df (by omega)).symm
  · refine bn ?_ ?_
    · unfold val at h
      rw [Bool.and_eq_false_iff, beq_eq_false_iff_ne, beq_eq_false_iff_ne]
      unfold hi lo; omega
    · by_cases h2 : a < 0
      · refine bp (dt h2) (some_clip ?_ ?_)
        · unfold clipV
          rw [if_pos]
          unfold val at *; omega
        · unfold clipC
          refine (dt ?_).symm
          unfold val at *; omega
      · refine bn (df h2) (some_clip ?_ ?_)
        · unfold clipV
          rw [if_neg, if_pos]
          · unfold val at *; omega
          · unfold val at *; omega
        · unfold clipC
          refine (dt ?_).symm
          unfold val at *; omega
theorem a_Clip (F : Nat) {x : Int} (h : W128 x) : ok_wide_Clip F (hi x) (lo x) = true ∧ o_wide_Clip_0 F (hi x) (lo x) = clipV x ∧ o_wide_Clip_1 F (hi x) (lo x) = clipC x := by
  have := k_wide_Clip F _ _ (f_Clip F (hi_I x) (lo_U x))
  rw [val_hl, W_in h] at this
  exact this
end Go.Xv
namespace Go.Xv
theorem mul_bd {a b : Int} (ha : I64 a) (hb : I64 b) : -85070591730234615865843651857942052864 ≤ a * b ∧ a * b ≤ 85070591730234615865843651857942052864 := by
  unfold I64 at ha hb
  have h : (a * b).natAbs ≤ 9223372036854775808 * 9223372036854775808 := by
    rw [Int.natAbs_mul]
    exact Nat.mul_le_mul (by omega) (by omega)
  omega
theorem mul_W {a b : Int} (ha : I64 a) (hb : I64 b) : W128 (a * b) := by
  have := mul_bd ha hb
  unfold W128; omega
theorem cl32 : cl 32 = 32 := by decide
theorem f_fClamp (F : Nat) {a l h : Int} : f_fix_Clamp F a l h = some (.v (.tuple #[.int .i64 (if h < l then l else min (max a l) h), .bool (if h < l then true else decide (min (max a l) h ≠ a))])) := by
  unfold f_fix_Clamp
  dsimp only
  by_cases hl : h < l
  · refine bp (dt hl) ?_
    rw [if_pos hl, if_pos hl]
  · refine bn (df hl) ?_
    rw [if_neg hl, if_neg hl]
    have e : (if h < (if l > a then l else a) then h else (if l > a then l else a)) = min (max a l) h := by split <;> (try split) <;> omega
    have e2 : (min (max a l) h != a) = decide (min (max a l) h ≠ a) := by rw [Bool.eq_iff_iff]; simp
    rw [e, e2]
end Go.Xv
namespace Go.Xv
theorem angL_get : ∀ i : Nat, i < 30 → isI .i64 [.v (.int .i64 536870912), .v (.int .i64 316933406), .v (.int .i64 167458907), .v (.int .i64 85004756), .v (.int .i64 42667331), .v (.int .i64 21354465), .v (.int .i64 10679838), .v (.int .i64 5340245), .v (.int .i64 2670163), .v (.int .i64 1335087), .v (.int .i64 667544), .v (.int .i64 333772), .v (.int .i64 166886), .v (.int .i64 83443), .v (.int .i64 41722), .v (.int .i64 20861), .v (.int .i64 10430), .v (.int .i64 5215), .v (.int .i64 2608), .v (.int .i64 1304), .v (.int .i64 652), .v (.int .i64 326), .v (.int .i64 163), .v (.int .i64 81), .v (.int .i64 41), .v (.int .i64 20), .v (.int .i64 10), .v (.int .i64 5), .v (.int .i64 3), .v (.int .i64 1)][i]? = true ∧ iv [.v (.int .i64 536870912), .v (.int .i64 316933406), .v (.int .i64 167458907), .v (.int .i64 85004756), .v (.int .i64 42667331), .v (.int .i64 21354465), .v (.int .i64 10679838), .v (.int .i64 5340245), .v (.int .i64 2670163), .v (.int .i64 1335087), .v (.int .i64 667544), .v (.int .i64 333772), .v (.int .i64 166886), .v (.int .i64 83443), .v (.int .i64 41722), .v (.int .i64 20861), .v (.int .i64 10430), .v (.int .i64 5215), .v (.int .i64 2608), .v (.int .i64 1304), .v (.int .i64 652), .v (.int .i64 326), .v (.int .i64 163), .v (.int .i64 81), .v (.int .i64 41), .v (.int .i64 20), .v (.int .i64 10), .v (.int .i64 5), .v (.int .i64 3), .v (.int .i64 1)][i]? = tA i := by decide
theorem zmul1 (i : Nat) : (Int.toNat (i : Int)) * 1 = i := by simp
theorem turnedF (F : Nat) {x y : Int} {i : Nat} (hi : i < 64) (o : Bool) (h1 : I64 (rotX i o x y)) (h2 : I64 (rotY i o x y)) : ok_turn_pair_turned F x y i o = true ∧ o_turn_pair_turned_0 F x y i o = rotX i o x y ∧ o_turn_pair_turned_1 F x y i o = rotY i o x y := by
  refine k_turn_pair_turned F _ _ _ _ ?_
  unfold f_turn_pair_turned
  have hd : (!decide ((i : Int) < 0)) = true := nn i
  have hP := p2pos i
  rw [hd, p2min (by omega), fdiv_pos _ (by omega), fdiv_pos _ (by omega)]
  simp only [cond_true]
  unfold rotX rotY at *
  cases o
  · simp only [Bool.false_eq_true, if_false, cond_false] at *
    rw [wi64_in h1, wi64_in h2]
  · simp only [if_true, cond_true] at *
    rw [wi64_in h1, wi64_in h2]
theorem unitF (F : Nat) (x : Int) : ok_turn_unit F x = true ∧ o_turn_unit_0 F x = cl01 x := by
  refine k_turn_unit F _ ?_
  unfold f_turn_unit
  obtain ⟨h1, h2, h3⟩ := k_fix_Clamp F _ _ _ (f_fClamp F (a := x) (l := 0) (h := 4294967296))
  rw [h1, h2]
  rfl
theorem lp_turn_Both_0 (F : Nat) (ex) {z : Int} (hz : 0 ≤ z ∧ z < 1073741824) (x0 x1 x2 : Int) : ∀ (k n i : Nat) (x3 x34 x35 x36 : Int), i + k = 30 → k < n → x34 = i → x35 = (bS z i).1 → x36 = (bS z i).2.1 → x3 = (bS z i).2.2 →
    L_turn_Both_0 F ex n x0 x1 x2 x3 536870912 316933406 167458907 85004756 42667331 21354465 10679838 5340245 2670163 1335087 667544 333772 166886 83443 41722 20861 10430 5215 2608 1304 652 326 163 81 41 20 10 5 3 1 x34 x35 x36 = ex x0 x1 x2 (bS z 30).2.2 536870912 316933406 167458907 85004756 42667331 21354465 10679838 5340245 2670163 1335087 667544 333772 166886 83443 41722 20861 10430 5215 2608 1304 652 326 163 81 41 20 10 5 3 1 30 (bS z 30).1 (bS z 30).2.1
  | _, 0, _, _, _, _, _, _, h, _, _, _, _ => absurd h (by omega)
  | 0, n + 1, i, _, _, _, _, h, _, rfl, rfl, rfl, rfl => by
    obtain rfl : i = 30 := by omega
    rw [L_turn_Both_0]
    unfold B_turn_Both_0
    exact bn (df (by omega)) rfl
  | k + 1, n + 1, i, _, _, _, _, h, hn, rfl, rfl, rfl, rfl => by
    have hi' : i < 30 := by omega
    obtain ⟨g1, g2⟩ := angL_get i hi'
    have b1 := bS_I z (i := i + 1) (by omega)
    have b2 := bS_z hz (i := i) (by omega)
    have b3 := tA_bd i hi'
    obtain ⟨t1, t2, t3⟩ := turnedF F (x := (bS z i).1) (y := (bS z i).2.1) (i := i) (by omega) (decide (0 ≤ (bS z i).2.2)) (by simp only [bS] at b1; unfold I64; omega) (by simp only [bS] at b1; unfold I64; omega)
    rw [L_turn_Both_0]
    unfold B_turn_Both_0
    refine bp (dt (by omega)) (bp (by rw [zmul1, g1, show ((decide (0 ≤ (i : Int))) && (decide ((i : Int) < 30))) = true from ix_ok i 30 hi']; rfl) ?_)
    rw [zmul1, g2]
    have eg : decide ((bS z i).2.2 ≥ 0) = decide (0 ≤ (bS z i).2.2) := rfl
    rw [eg]
    refine bp t1 ?_
    rw [t2, t3]
    have w1 : IntKind.wrap .i64 ((i : Int) + 1) = ((i + 1 : Nat) : Int) := wi64_s i (by omega)
    rw [w1]
    by_cases hs : 0 ≤ (bS z i).2.2
    · refine bp (dt hs) ?_
      refine lp_turn_Both_0 F ex hz x0 x1 x2 k n (i + 1) _ _ _ _ (by omega) (by omega) rfl rfl rfl ?_
      simp only [bS]
      rw [if_pos hs, wi64_in (x := 0 - tA i) (by unfold I64; omega), wi64_in (by unfold I64; omega)]
      omega
    · refine bn (df hs) ?_
      refine lp_turn_Both_0 F ex hz x0 x1 x2 k n (i + 1) _ _ _ _ (by omega) (by omega) rfl rfl rfl ?_
      simp only [bS]
      rw [if_neg hs, wi64_in (by unfold I64; omega)]
theorem mask30_u32 {a : Int} (ha : U32 a) : andI .u32 a 1073741823 = a % 1073741824 := by
  have e : andI .u32 a 1073741823 = IntKind.wrap .u32 ((BitVec.ofInt 32 a &&& BitVec.ofInt 32 1073741823).toNat : Int) := rfl
  unfold U32 at ha
  have h1 : (BitVec.ofInt 32 a).toNat = a.toNat := by simp only [BitVec.toNat_ofInt]; omega
  have h2 : (BitVec.ofInt 32 1073741823).toNat = 2 ^ 30 - 1 := by decide
  rw [e, BitVec.toNat_and, h1, h2, Nat.and_two_pow_sub_one_eq_mod, wu32]
  omega
theorem angF (F : Nat) : ok_turn_angles F = true ∧ o_turn_angles_0 F = 536870912 ∧ o_turn_angles_1 F = 316933406 ∧ o_turn_angles_2 F = 167458907 ∧ o_turn_angles_3 F = 85004756 ∧ o_turn_angles_4 F = 42667331 ∧ o_turn_angles_5 F = 21354465 ∧ o_turn_angles_6 F = 10679838 ∧ o_turn_angles_7 F = 5340245 ∧ o_turn_angles_8 F = 2670163 ∧ o_turn_angles_9 F = 1335087 ∧ o_turn_angles_10 F = 667544 ∧ o_turn_angles_11 F = 333772 ∧ o_turn_angles_12 F = 166886 ∧ o_turn_angles_13 F = 83443 ∧ o_turn_angles_14 F = 41722 ∧ o_turn_angles_15 F = 20861 ∧ o_turn_angles_16 F = 10430 ∧ o_turn_angles_17 F = 5215 ∧ o_turn_angles_18 F = 2608 ∧ o_turn_angles_19 F = 1304 ∧ o_turn_angles_20 F = 652 ∧ o_turn_angles_21 F = 326 ∧ o_turn_angles_22 F = 163 ∧ o_turn_angles_23 F = 81 ∧ o_turn_angles_24 F = 41 ∧ o_turn_angles_25 F = 20 ∧ o_turn_angles_26 F = 10 ∧ o_turn_angles_27 F = 5 ∧ o_turn_angles_28 F = 3 ∧ o_turn_angles_29 F = 1 := k_turn_angles F rfl
theorem some_two {a b c d : Int} (h : a = c) (k : b = d) : (some (VV.v (.tuple #[.int .i64 a, .int .i64 b])) : R) = some (.v (.tuple #[.int .i64 c, .int .i64 d])) := by rw [h, k]
theorem f_tBoth (F : Nat) (hF : 200 ≤ F) {a : Int} (ha : U32 a) : f_turn_Both F a = some (.v (.tuple #[.int .i64 (bothC a), .int .i64 (bothS a)])) := by
  unfold f_turn_Both
  obtain ⟨h0, e0, e1, e2, e3, e4, e5, e6, e7, e8, e9, e10, e11, e12, e13, e14, e15, e16, e17, e18, e19, e20, e21, e22, e23, e24, e25, e26, e27, e28, e29⟩ := angF F
  refine bp h0 ?_
  rw [e0, e1, e2, e3, e4, e5, e6, e7, e8, e9, e10, e11, e12, e13, e14, e15, e16, e17, e18, e19, e20, e21, e22, e23, e24, e25, e26, e27, e28, e29, mask30_u32 ha]
  have hz : 0 ≤ a % 1073741824 ∧ a % 1073741824 < 1073741824 := by omega
  rw [wi64_in (x := a % 1073741824) (by unfold I64; omega), lp_turn_Both_0 F _ hz a 0 0 30 F 0 (a % 1073741824) 0 2608131496 0 (by omega) (by omega) rfl rfl rfl rfl]
  obtain ⟨u1, u2⟩ := unitF F (bS (a % 1073741824) 30).1
  obtain ⟨v1, v2⟩ := unitF F (bS (a % 1073741824) 30).2.1
  refine bp u1 (bp v1 ?_)
  rw [u2, v2]
  obtain ⟨F, rfl⟩ : ∃ G, F = G + 4 := ⟨F - 4, by omega⟩
  have c1 := cl01_bd (bS (a % 1073741824) 30).1
  have c2 := cl01_bd (bS (a % 1073741824) 30).2.1
  unfold U32 at ha
  have w0 : IntKind.wrap .u32 (0 + 1) = 1 := by rw [wu32]; omega
  have w1 : IntKind.wrap .u32 (1 + 1) = 2 := by rw [wu32]; omega
  have w2 : IntKind.wrap .u32 (2 + 1) = 3 := by rw [wu32]; omega
  have eC : cl01 (bS (a % 1073741824) 30).1 = bC a := rfl
  have eN : cl01 (bS (a % 1073741824) 30).2.1 = bN a := rfl
  rw [eC] at c1 ⊢
  rw [eN] at c2 ⊢
  rw [fdiv_pos _ (by decide)]
  have n1 : IntKind.wrap .i64 (0 - bN a) = -bN a := by rw [wi64_in (by unfold I64; omega)]; omega
  have n2 : IntKind.wrap .i64 (0 - bC a) = -bC a := by rw [wi64_in (by unfold I64; omega)]; omega
  have n3 : IntKind.wrap .i64 (0 - -bN a) = bN a := by rw [wi64_in (by unfold I64; omega)]; omega
  unfold bothC bothS
  rw [L_turn_Both_1]
  unfold B_turn_Both_1
  by_cases q0 : a / 1073741824 = 0
  · refine bn (df (by omega)) (some_two ?_ ?_) <;> rw [if_pos q0]
  · refine bp (dt (by omega)) ?_
    rw [w0, n1, L_turn_Both_1]
    unfold B_turn_Both_1
    by_cases q1 : a / 1073741824 = 1
    · refine bn (df (by omega)) (some_two ?_ ?_) <;> rw [if_neg q0, if_pos q1]
    · refine bp (dt (by omega)) ?_
      rw [w1, n2, L_turn_Both_1]
      unfold B_turn_Both_1
      by_cases q2 : a / 1073741824 = 2
      · refine bn (df (by omega)) (some_two ?_ ?_) <;> rw [if_neg q0, if_neg q1, if_pos q2]
      · refine bp (dt (by omega)) ?_
        rw [w2, n3, L_turn_Both_1]
        unfold B_turn_Both_1
        refine bn (df (by omega)) (some_two ?_ ?_) <;> rw [if_neg q0, if_neg q1, if_neg q2]
theorem a_tBoth (F : Nat) (hF : 200 ≤ F) {a : Int} (ha : U32 a) : ok_turn_Both F a = true ∧ o_turn_Both_0 F a = bothC a ∧ o_turn_Both_1 F a = bothS a := k_turn_Both F _ (f_tBoth F hF ha)
theorem tq2_neg {x : Int} (h : x < 0) (d : Int) : Int.tdiv x d = -Int.tdiv (-x) d ∧ Int.tmod x d = -Int.tmod (-x) d := by
  constructor
  · rw [Int.neg_tdiv]; omega
  · rw [Int.neg_tmod]; omega
theorem tq2 (x : Int) : (0 ≤ x → Int.tdiv x 2 = x / 2 ∧ Int.tmod x 2 = x % 2) ∧ (x < 0 → Int.tdiv x 2 = -(-x / 2) ∧ Int.tmod x 2 = -(-x % 2)) := by
  refine ⟨fun h => ⟨Int.tdiv_eq_ediv_of_nonneg h, Int.tmod_eq_emod_of_nonneg h⟩, fun h => ?_⟩
  obtain ⟨h1, h2⟩ := tq2_neg h 2
  rw [h1, h2, Int.tdiv_eq_ediv_of_nonneg (by omega), Int.tmod_eq_emod_of_nonneg (by omega)]
  exact ⟨rfl, rfl⟩
theorem half_up (x : Int) (h : I64 x) : (Int.tmod x 2 < 0 → IntKind.wrap .i64 (IntKind.wrap .i64 (Int.tdiv x 2) - 1) = x / 2) ∧ (¬ Int.tmod x 2 < 0 → IntKind.wrap .i64 (Int.tdiv x 2) = x / 2) := by
  unfold I64 at h
  obtain ⟨q1, q2⟩ := tq2 x
  have e1 : IntKind.wrap .i64 (Int.tdiv x 2) = Int.tdiv x 2 := wi64_in (by unfold I64; omega)
  rw [e1]
  constructor
  · intro hm
    rw [wi64_in (by unfold I64; omega)]
    omega
  · intro hm
    omega
theorem I64_half {x : Int} (h : I64 x) (i : Nat) : I64 (x / 2 ^ i) := by
  unfold I64 at *
  have := ediv_bd (y := x) (B := 9223372036854775808) (by omega) i
  refine ⟨by omega, ?_⟩
  have hP := p2pos i
  rcases Int.lt_or_le x 0 with hn | hn
  · have := Int.ediv_neg_of_neg_of_pos hn hP; omega
  · have := Int.ediv_le_self (2 ^ i) hn; omega
theorem lp_over_0 (F : Nat) (ex) {x : Int} (hx : I64 x) (m : Nat) (hm : m < 1000) (x2 : Int) : ∀ (k n i : Nat) (x0 x3 : Int), i + k = m → k < n → x0 = x / 2 ^ i → x3 = i →
    L_ref05_over_0 F ex n x0 m x2 x3 = ex (x / 2 ^ m) m x2 m
  | _, 0, _, _, _, _, h, _, _ => absurd h (by omega)
  | 0, n + 1, i, _, _, h, _, rfl, rfl => by
    obtain rfl : i = m := by omega
    rw [L_ref05_over_0]
    unfold B_ref05_over_0
    exact bn (df (by omega)) rfl
  | k + 1, n + 1, i, _, _, h, hn, rfl, rfl => by
    rw [L_ref05_over_0]
    unfold B_ref05_over_0
    refine bp (dt (by omega)) ?_
    obtain ⟨h1, h2⟩ := half_up _ (I64_half hx i)
    have w1 : IntKind.wrap .i64 ((i : Int) + 1) = ((i + 1 : Nat) : Int) := wi64_s i (by omega)
    dsimp only
    by_cases hc : Int.tmod (x / 2 ^ i) 2 < 0
    · refine bp (dt hc) ?_
      exact lp_over_0 F ex hx m hm x2 k n (i + 1) _ _ (by omega) (by omega) (by rw [h1 hc, ediv2]) w1
    · refine bn (df hc) ?_
      exact lp_over_0 F ex hx m hm x2 k n (i + 1) _ _ (by omega) (by omega) (by rw [h2 hc, ediv2]) w1
theorem a_over (F : Nat) (hF : 200 ≤ F) {x : Int} (hx : I64 x) {m : Nat} (hm : m < 100) : ok_ref05_over F x m = true ∧ o_ref05_over_0 F x m = x / 2 ^ m := by
  refine k_ref05_over F _ _ ?_
  unfold f_ref05_over
  rw [lp_over_0 F _ hx m (by omega) 0 m F 0 x 0 (by omega) (by omega) (by simp) rfl]
theorem a_step (F : Nat) {i : Nat} (hi : i < 30) : ok_ref05_step F i = true ∧ o_ref05_step_0 F i = tA i := by
  refine k_ref05_step F _ ?_
  unfold f_ref05_step
  obtain ⟨g1, g2⟩ := angL_get i hi
  refine bp (ix_ok i 30 hi) ?_
  dsimp only
  rw [zmul]
  refine bp (by rw [g1]; rfl) ?_
  rw [g2]
theorem a_r5clamp (F : Nat) (x : Int) : ok_ref05_clamp F x = true ∧ o_ref05_clamp_0 F x = cl01 x := by
  refine k_ref05_clamp F _ ?_
  unfold f_ref05_clamp cl01
  exact some_int (by split <;> split <;> omega)
theorem lp_rBoth_0 (F : Nat) (hF : 200 ≤ F) (ex) {z : Int} (hz : 0 ≤ z ∧ z < 1073741824) (x0 x1 x2 x3 : Int) : ∀ (k n i : Nat) (x4 x5 x6 x7 : Int), i + k = 30 → k < n → x7 = i → x5 = (bS z i).1 → x6 = (bS z i).2.1 → x4 = (bS z i).2.2 →
    L_ref05_Both_0 F ex n x0 x1 x2 x3 x4 x5 x6 x7 = ex x0 x1 x2 x3 (bS z 30).2.2 (bS z 30).1 (bS z 30).2.1 30
  | _, 0, _, _, _, _, _, _, h, _, _, _, _ => absurd h (by omega)
  | 0, n + 1, i, _, _, _, _, h, _, rfl, rfl, rfl, rfl => by
    obtain rfl : i = 30 := by omega
    rw [L_ref05_Both_0]
    unfold B_ref05_Both_0
    exact bn (df (by omega)) rfl
  | k + 1, n + 1, i, _, _, _, _, h, hn, rfl, rfl, rfl, rfl => by
    have hi' : i < 30 := by omega
    have b0 := bS_I z (i := i) (by omega)
    have b1 := bS_I z (i := i + 1) (by omega)
    have b2 := bS_z hz (i := i) (by omega)
    have b3 := tA_bd i hi'
    obtain ⟨g1, g2⟩ := a_over F hF (x := (bS z i).1) (by unfold I64; omega) (m := i) (by omega)
    obtain ⟨j1, j2⟩ := a_over F hF (x := (bS z i).2.1) (by unfold I64; omega) (m := i) (by omega)
    obtain ⟨s1, s2⟩ := a_step F hi'
    rw [L_ref05_Both_0]
    unfold B_ref05_Both_0
    refine bp (dt (by omega)) (bp g1 (bp j1 ?_))
    rw [g2, j2]
    have w1 : IntKind.wrap .i64 ((i : Int) + 1) = ((i + 1 : Nat) : Int) := wi64_s i (by omega)
    rw [w1]
    by_cases hs : 0 ≤ (bS z i).2.2
    · refine bp (dt hs) (bp s1 ?_)
      rw [s2]
      simp only [bS, rotX, rotY, hs, decide_true, if_true] at b1
      refine lp_rBoth_0 F hF ex hz x0 x1 x2 x3 k n (i + 1) _ _ _ _ (by omega) (by omega) rfl ?_ ?_ ?_
      · simp only [bS, rotX, hs, decide_true, if_true]; rw [wi64_in (by unfold I64; omega)]
      · simp only [bS, rotY, hs, decide_true, if_true]; rw [wi64_in (by unfold I64; omega)]
      · simp only [bS, hs, if_true]; rw [wi64_in (by unfold I64; omega)]
    · refine bn (df hs) (bp s1 ?_)
      rw [s2]
      simp only [bS, rotX, rotY, hs, decide_false, Bool.false_eq_true, if_false] at b1
      refine lp_rBoth_0 F hF ex hz x0 x1 x2 x3 k n (i + 1) _ _ _ _ (by omega) (by omega) rfl ?_ ?_ ?_
      · simp only [bS, rotX, hs, decide_false, Bool.false_eq_true, if_false]; rw [wi64_in (by unfold I64; omega)]
      · simp only [bS, rotY, hs, decide_false, Bool.false_eq_true, if_false]; rw [wi64_in (by unfold I64; omega)]
      · simp only [bS, hs, if_false]; rw [wi64_in (by unfold I64; omega)]
theorem f_rBoth (F : Nat) (hF : 200 ≤ F) {a : Int} (ha : U32 a) : f_ref05_Both F a = some (.v (.tuple #[.int .i64 (bothC a), .int .i64 (bothS a)])) := by
  unfold f_ref05_Both
  unfold U32 at ha
  have e1 : Int.tmod a 1073741824 = a % 1073741824 := Int.tmod_eq_emod_of_nonneg ha.1
  have e2 : Int.tdiv a 1073741824 = a / 1073741824 := Int.tdiv_eq_ediv_of_nonneg ha.1
  have hz : 0 ≤ a % 1073741824 ∧ a % 1073741824 < 1073741824 := by omega
  rw [e1, e2, wi64_in (x := a % 1073741824) (by unfold I64; omega), wu32_in (by unfold U32; omega), lp_rBoth_0 F hF _ hz a 0 0 _ 30 F 0 (a % 1073741824) 2608131496 0 0 (by omega) (by omega) rfl rfl rfl rfl]
  obtain ⟨u1, u2⟩ := a_r5clamp F (bS (a % 1073741824) 30).1
  obtain ⟨v1, v2⟩ := a_r5clamp F (bS (a % 1073741824) 30).2.1
  refine bp u1 (bp v1 ?_)
  rw [u2, v2]
  have c1 := cl01_bd (bS (a % 1073741824) 30).1
  have c2 := cl01_bd (bS (a % 1073741824) 30).2.1
  have eC : cl01 (bS (a % 1073741824) 30).1 = bC a := rfl
  have eN : cl01 (bS (a % 1073741824) 30).2.1 = bN a := rfl
  rw [eC] at c1 ⊢
  rw [eN] at c2 ⊢
  have n1 : IntKind.wrap .i64 (0 - bN a) = -bN a := by rw [wi64_in (by unfold I64; omega)]; omega
  have n2 : IntKind.wrap .i64 (0 - bC a) = -bC a := by rw [wi64_in (by unfold I64; omega)]; omega
  dsimp only
  rw [n1, n2]
  unfold bothC bothS
  by_cases q0 : a / 1073741824 = 0
  · refine bp (by simp [q0]) (some_two ?_ ?_) <;> rw [if_pos q0]
  · refine bn (by simp [q0]) ?_
    by_cases q1 : a / 1073741824 = 1
    · refine bp (by simp [q1]) (some_two ?_ ?_) <;> rw [if_neg q0, if_pos q1]
    · refine bn (by simp [q1]) ?_
      by_cases q2 : a / 1073741824 = 2
      · refine bp (by simp [q2]) (some_two ?_ ?_) <;> rw [if_neg q0, if_neg q1, if_pos q2]
      · refine bn (by simp [q2]) (some_two ?_ ?_) <;> rw [if_neg q0, if_neg q1, if_neg q2]
theorem a_rBoth (F : Nat) (hF : 200 ≤ F) {a : Int} (ha : U32 a) : ok_ref05_Both F a = true ∧ o_ref05_Both_0 F a = bothC a ∧ o_ref05_Both_1 F a = bothS a := k_ref05_Both F _ (f_rBoth F hF ha)
end Go.Xv
namespace Go.Xv
def pr (a b : Int) : Int := a * b / 4294967296 + a * b / 2147483648 % 2
theorem pr_near (a b : Int) : near (a * b) 32 = pr a b := by
  unfold near pr
  rw [if_neg (by decide), show (2 : Int) ^ 32 = 4294967296 by decide, show (2 : Int) ^ (32 - 1) = 2147483648 by decide]
theorem pr_bd {a b : Int} (ha : I64 a) (hb : I64 b) : -19807040628566084398385987585 ≤ pr a b ∧ pr a b ≤ 19807040628566084398385987585 := by
  have := mul_bd ha hb
  unfold pr; omega
theorem a_product (F : Nat) {a b : Int} (ha : I64 a) (hb : I64 b) : ok_vec_product F a b = true ∧ o_vec_product_0 F a b = hi (pr a b) ∧ o_vec_product_1 F a b = lo (pr a b) := by
  refine k_vec_product F _ _ ?_
  unfold f_vec_product
  obtain ⟨h1, h2, h3⟩ := a_Mul F ha hb
  obtain ⟨n1, n2, n3⟩ := a_Near F 32 (mul_W ha hb)
  rw [cl32, pr_near] at n2 n3
  refine bp h1 ?_
  rw [h2, h3]
  refine bp n1 ?_
  rw [n2, n3]
theorem a_vclip (F : Nat) {z : Int} (h : W128 z) : ok_vec_clip F (hi z) (lo z) = true ∧ o_vec_clip_0 F (hi z) (lo z) = clipV z ∧ o_vec_clip_1 F (hi z) (lo z) = clipC z := by
  refine k_vec_clip F _ _ ?_
  unfold f_vec_clip
  obtain ⟨h1, h2, h3⟩ := a_Clip F h
  refine bp h1 ?_
  rw [h2, h3]
def dotZ (a0 a1 a2 a3 a4 a5 : Int) : Int := pr a0 a3 + pr a1 a4 + pr a2 a5
theorem dot_W {a0 a1 a2 a3 a4 a5 : Int} (h0 : I64 a0) (h1 : I64 a1) (h2 : I64 a2) (h3 : I64 a3) (h4 : I64 a4) (h5 : I64 a5) : W128 (dotZ a0 a1 a2 a3 a4 a5) := by
  have := pr_bd h0 h3
  have := pr_bd h1 h4
  have := pr_bd h2 h5
  unfold dotZ W128; omega
theorem f_Dot (F : Nat) (hF : 200 ≤ F) {a0 a1 a2 a3 a4 a5 : Int} (h0 : I64 a0) (h1 : I64 a1) (h2 : I64 a2) (h3 : I64 a3) (h4 : I64 a4) (h5 : I64 a5) : f_vec_Dot F a0 a1 a2 a3 a4 a5 = some (.v (.tuple #[.int .i64 (clipV (dotZ a0 a1 a2 a3 a4 a5)), .bool (clipC (dotZ a0 a1 a2 a3 a4 a5))])) := by
  obtain ⟨p1, p2, p3⟩ := a_product F h0 h3
  obtain ⟨q1, q2, q3⟩ := a_product F h1 h4
  obtain ⟨r1, r2, r3⟩ := a_product F h2 h5
  obtain ⟨s1, s2, s3⟩ := a_Add F 0 (pr a0 a3)
  obtain ⟨t1, t2, t3⟩ := a_Add F (pr a0 a3) (pr a1 a4)
  obtain ⟨u1, u2, u3⟩ := a_Add F (pr a0 a3 + pr a1 a4) (pr a2 a5)
  obtain ⟨c1, c2, c3⟩ := a_vclip F (dot_W h0 h1 h2 h3 h4 h5)
  rw [Int.zero_add] at s2 s3
  obtain ⟨G, hG⟩ : ∃ G, F = G + 4 := ⟨F - 4, by omega⟩
  have w1 : IntKind.wrap .i64 (0 + 1) = 1 := by decide
  have w2 : IntKind.wrap .i64 (1 + 1) = 2 := by decide
  have w3 : IntKind.wrap .i64 (2 + 1) = 3 := by decide
  unfold f_vec_Dot
  rw [show L_vec_Dot_0 F _ F = L_vec_Dot_0 F _ (G + 4) from congrArg (L_vec_Dot_0 F _) hG, L_vec_Dot_0]
  unfold B_vec_Dot_0
  refine bp rfl (bp rfl (bp rfl (bp rfl (bp rfl (bp p1 ?_)))))
  have e0 : (iv [.v (.int .i64 a0), .v (.int .i64 a1), .v (.int .i64 a2)][0 + Int.toNat 0 * 1]?) = a0 := rfl
  have e3 : (iv [.v (.int .i64 a3), .v (.int .i64 a4), .v (.int .i64 a5)][0 + Int.toNat 0 * 1]?) = a3 := rfl
  rw [e0, e3, p2, p3]
  have s1' : ok_wide_Add F 0 0 (hi (pr a0 a3)) (lo (pr a0 a3)) = true := s1
  have s2' : o_wide_Add_0 F 0 0 (hi (pr a0 a3)) (lo (pr a0 a3)) = hi (pr a0 a3) := s2
  have s3' : o_wide_Add_1 F 0 0 (hi (pr a0 a3)) (lo (pr a0 a3)) = lo (pr a0 a3) := s3
  refine bp s1' ?_
  rw [s2', s3', w1, L_vec_Dot_0]
  unfold B_vec_Dot_0
  refine bp rfl (bp rfl (bp rfl (bp rfl (bp rfl (bp q1 ?_)))))
  have e1 : (iv [.v (.int .i64 a0), .v (.int .i64 a1), .v (.int .i64 a2)][0 + Int.toNat 1 * 1]?) = a1 := rfl
  have e4 : (iv [.v (.int .i64 a3), .v (.int .i64 a4), .v (.int .i64 a5)][0 + Int.toNat 1 * 1]?) = a4 := rfl
  rw [e1, e4, q2, q3]
  refine bp t1 ?_
  rw [t2, t3, w2, L_vec_Dot_0]
  unfold B_vec_Dot_0
  refine bp rfl (bp rfl (bp rfl (bp rfl (bp rfl (bp r1 ?_)))))
  have e2 : (iv [.v (.int .i64 a0), .v (.int .i64 a1), .v (.int .i64 a2)][0 + Int.toNat 2 * 1]?) = a2 := rfl
  have e5 : (iv [.v (.int .i64 a3), .v (.int .i64 a4), .v (.int .i64 a5)][0 + Int.toNat 2 * 1]?) = a5 := rfl
  rw [e2, e5, r2, r3]
  refine bp u1 ?_
  rw [u2, u3, w3, L_vec_Dot_0]
  unfold B_vec_Dot_0
  refine bn rfl ?_
  have e : pr a0 a3 + pr a1 a4 + pr a2 a5 = dotZ a0 a1 a2 a3 a4 a5 := rfl
  rw [e]
  refine bp c1 ?_
  rw [c2, c3]
theorem a_Dot (F : Nat) (hF : 200 ≤ F) {a0 a1 a2 a3 a4 a5 : Int} (h0 : I64 a0) (h1 : I64 a1) (h2 : I64 a2) (h3 : I64 a3) (h4 : I64 a4) (h5 : I64 a5) : ok_vec_Dot F a0 a1 a2 a3 a4 a5 = true ∧ o_vec_Dot_0 F a0 a1 a2 a3 a4 a5 = clipV (dotZ a0 a1 a2 a3 a4 a5) ∧ o_vec_Dot_1 F a0 a1 a2 a3 a4 a5 = clipC (dotZ a0 a1 a2 a3 a4 a5) := k_vec_Dot F _ _ _ _ _ _ (f_Dot F hF h0 h1 h2 h3 h4 h5)
end Go.Xv
namespace Go.Xv
theorem a_mSame (F : Nat) (hF : 200 ≤ F) : ok_mat_Same F = true ∧ o_mat_Same_0 F = 4294967296 ∧ o_mat_Same_1 F = 0 ∧ o_mat_Same_2 F = 0 ∧ o_mat_Same_3 F = 0 ∧ o_mat_Same_4 F = 4294967296 ∧ o_mat_Same_5 F = 0 ∧ o_mat_Same_6 F = 0 ∧ o_mat_Same_7 F = 0 ∧ o_mat_Same_8 F = 4294967296 := by
  refine k_mat_Same F ?_
  obtain ⟨G, rfl⟩ : ∃ G, F = G + 4 := ⟨F - 4, by omega⟩
  kernel_rfl
theorem f_Apply' (F : Nat) (hF : 200 ≤ F) {a0 a1 a2 a3 a4 a5 a6 a7 a8 u0 u1 u2 : Int} {p0 p1 p2 : Int} {c0 c1 c2 : Bool} (d0 : ok_vec_Dot F a0 a1 a2 u0 u1 u2 = true ∧ o_vec_Dot_0 F a0 a1 a2 u0 u1 u2 = p0 ∧ o_vec_Dot_1 F a0 a1 a2 u0 u1 u2 = c0) (d1 : ok_vec_Dot F a3 a4 a5 u0 u1 u2 = true ∧ o_vec_Dot_0 F a3 a4 a5 u0 u1 u2 = p1 ∧ o_vec_Dot_1 F a3 a4 a5 u0 u1 u2 = c1) (d2 : ok_vec_Dot F a6 a7 a8 u0 u1 u2 = true ∧ o_vec_Dot_0 F a6 a7 a8 u0 u1 u2 = p2 ∧ o_vec_Dot_1 F a6 a7 a8 u0 u1 u2 = c2) :
    f_mat_Apply F a0 a1 a2 a3 a4 a5 a6 a7 a8 u0 u1 u2 = some (.v (.tuple #[.agg #[.int .i64 p0, .int .i64 p1, .int .i64 p2], .bool (c0 || c1 || c2)])) := by
  obtain ⟨d01, d02, d03⟩ := d0
  obtain ⟨d11, d12, d13⟩ := d1
  obtain ⟨d21, d22, d23⟩ := d2
  have w1 : IntKind.wrap .i64 (0 + 1) = 1 := by decide
  have w2 : IntKind.wrap .i64 (1 + 1) = 2 := by decide
  have w3 : IntKind.wrap .i64 (2 + 1) = 3 := by decide
  unfold f_mat_Apply
  obtain ⟨G, hG⟩ : ∃ G, F = G + 4 := ⟨F - 4, by omega⟩
  rw [show L_mat_Apply_0 F _ F = L_mat_Apply_0 F _ (G + 4) from congrArg (L_mat_Apply_0 F _) hG]
  have e00 : (iv [.v (.int .i64 a0), .v (.int .i64 a1), .v (.int .i64 a2), .v (.int .i64 a3), .v (.int .i64 a4), .v (.int .i64 a5), .v (.int .i64 a6), .v (.int .i64 a7), .v (.int .i64 a8)][Int.toNat 0 * 3]?) = a0 := rfl
  have e01 : (iv [.v (.int .i64 a0), .v (.int .i64 a1), .v (.int .i64 a2), .v (.int .i64 a3), .v (.int .i64 a4), .v (.int .i64 a5), .v (.int .i64 a6), .v (.int .i64 a7), .v (.int .i64 a8)][Int.toNat 0 * 3 + 1]?) = a1 := rfl
  have e02 : (iv [.v (.int .i64 a0), .v (.int .i64 a1), .v (.int .i64 a2), .v (.int .i64 a3), .v (.int .i64 a4), .v (.int .i64 a5), .v (.int .i64 a6), .v (.int .i64 a7), .v (.int .i64 a8)][Int.toNat 0 * 3 + 1 + 1]?) = a2 := rfl
  have e10 : (iv [.v (.int .i64 a0), .v (.int .i64 a1), .v (.int .i64 a2), .v (.int .i64 a3), .v (.int .i64 a4), .v (.int .i64 a5), .v (.int .i64 a6), .v (.int .i64 a7), .v (.int .i64 a8)][Int.toNat 1 * 3]?) = a3 := rfl
  have e11 : (iv [.v (.int .i64 a0), .v (.int .i64 a1), .v (.int .i64 a2), .v (.int .i64 a3), .v (.int .i64 a4), .v (.int .i64 a5), .v (.int .i64 a6), .v (.int .i64 a7), .v (.int .i64 a8)][Int.toNat 1 * 3 + 1]?) = a4 := rfl
  have e12 : (iv [.v (.int .i64 a0), .v (.int .i64 a1), .v (.int .i64 a2), .v (.int .i64 a3), .v (.int .i64 a4), .v (.int .i64 a5), .v (.int .i64 a6), .v (.int .i64 a7), .v (.int .i64 a8)][Int.toNat 1 * 3 + 1 + 1]?) = a5 := rfl
  have e20 : (iv [.v (.int .i64 a0), .v (.int .i64 a1), .v (.int .i64 a2), .v (.int .i64 a3), .v (.int .i64 a4), .v (.int .i64 a5), .v (.int .i64 a6), .v (.int .i64 a7), .v (.int .i64 a8)][Int.toNat 2 * 3]?) = a6 := rfl
  have e21 : (iv [.v (.int .i64 a0), .v (.int .i64 a1), .v (.int .i64 a2), .v (.int .i64 a3), .v (.int .i64 a4), .v (.int .i64 a5), .v (.int .i64 a6), .v (.int .i64 a7), .v (.int .i64 a8)][Int.toNat 2 * 3 + 1]?) = a7 := rfl
  have e22 : (iv [.v (.int .i64 a0), .v (.int .i64 a1), .v (.int .i64 a2), .v (.int .i64 a3), .v (.int .i64 a4), .v (.int .i64 a5), .v (.int .i64 a6), .v (.int .i64 a7), .v (.int .i64 a8)][Int.toNat 2 * 3 + 1 + 1]?) = a8 := rfl
  rw [L_mat_Apply_0]
  unfold B_mat_Apply_0
  refine bp rfl (bp rfl ?_)
  rw [e00, e01, e02]
  refine bp d01 ?_
  rw [d02, d03]
  refine bn rfl (bp rfl (bp rfl ?_))
  rw [w1]
  cases c0
  · rw [L_mat_Apply_0]
    unfold B_mat_Apply_0
    refine bp rfl (bp rfl ?_)
    rw [e10, e11, e12]
    refine bp d11 ?_
    rw [d12, d13]
    refine bn rfl (bp rfl (bp rfl ?_))
    rw [w2]
    cases c1
    · rw [L_mat_Apply_0]
      unfold B_mat_Apply_0
      refine bp rfl (bp rfl ?_)
      rw [e20, e21, e22]
      refine bp d21 ?_
      rw [d22, d23]
      refine bn rfl (bp rfl (bp rfl ?_))
      rw [w3]
      rw [L_mat_Apply_0]
      unfold B_mat_Apply_0
      exact bn rfl (bp rfl rfl)
    · rw [L_mat_Apply_0]
      unfold B_mat_Apply_0
      refine bp rfl (bp rfl ?_)
      rw [e20, e21, e22]
      refine bp d21 ?_
      rw [d22]
      refine bp rfl (bp rfl (bp rfl ?_))
      rw [w3]
      rw [L_mat_Apply_0]
      unfold B_mat_Apply_0
      exact bn rfl (bp rfl rfl)
  · rw [L_mat_Apply_0]
    unfold B_mat_Apply_0
    refine bp rfl (bp rfl ?_)
    rw [e10, e11, e12]
    refine bp d11 ?_
    rw [d12]
    refine bp rfl (bp rfl (bp rfl ?_))
    rw [w2]
    rw [L_mat_Apply_0]
    unfold B_mat_Apply_0
    refine bp rfl (bp rfl ?_)
    rw [e20, e21, e22]
    refine bp d21 ?_
    rw [d22]
    refine bp rfl (bp rfl (bp rfl ?_))
    rw [w3]
    rw [L_mat_Apply_0]
    unfold B_mat_Apply_0
    exact bn rfl (bp rfl rfl)
theorem a_mApply (F : Nat) (hF : 200 ≤ F) {a0 a1 a2 a3 a4 a5 a6 a7 a8 u0 u1 u2 : Int} (ha0 : I64 a0) (ha1 : I64 a1) (ha2 : I64 a2) (ha3 : I64 a3) (ha4 : I64 a4) (ha5 : I64 a5) (ha6 : I64 a6) (ha7 : I64 a7) (ha8 : I64 a8) (hu0 : I64 u0) (hu1 : I64 u1) (hu2 : I64 u2) : ok_mat_Apply F a0 a1 a2 a3 a4 a5 a6 a7 a8 u0 u1 u2 = true ∧ o_mat_Apply_0 F a0 a1 a2 a3 a4 a5 a6 a7 a8 u0 u1 u2 = clipV (dotZ a0 a1 a2 u0 u1 u2) ∧ o_mat_Apply_1 F a0 a1 a2 a3 a4 a5 a6 a7 a8 u0 u1 u2 = clipV (dotZ a3 a4 a5 u0 u1 u2) ∧ o_mat_Apply_2 F a0 a1 a2 a3 a4 a5 a6 a7 a8 u0 u1 u2 = clipV (dotZ a6 a7 a8 u0 u1 u2) ∧ o_mat_Apply_3 F a0 a1 a2 a3 a4 a5 a6 a7 a8 u0 u1 u2 = (clipC (dotZ a0 a1 a2 u0 u1 u2) || clipC (dotZ a3 a4 a5 u0 u1 u2) || clipC (dotZ a6 a7 a8 u0 u1 u2)) :=
  k_mat_Apply F _ _ _ _ _ _ _ _ _ _ _ _ (f_Apply' F hF (a_Dot F hF ha0 ha1 ha2 hu0 hu1 hu2) (a_Dot F hF ha3 ha4 ha5 hu0 hu1 hu2) (a_Dot F hF ha6 ha7 ha8 hu0 hu1 hu2))
theorem neg_both (x : Int) : IntKind.wrap .i64 (0 - bothS x) = -bothS x := by
  have := (both_bd x).2
  rw [wi64_in (by unfold I64; omega), Int.zero_sub]
theorem a_mAbout0 (F : Nat) (hF : 200 ≤ F) {x : Int} (hx : U32 x) : ok_mat_About F 0 x = true ∧ o_mat_About_0 F 0 x = 4294967296 ∧ o_mat_About_1 F 0 x = 0 ∧ o_mat_About_2 F 0 x = 0 ∧ o_mat_About_3 F 0 x = 0 ∧ o_mat_About_4 F 0 x = (bothC x) ∧ o_mat_About_5 F 0 x = (-bothS x) ∧ o_mat_About_6 F 0 x = 0 ∧ o_mat_About_7 F 0 x = (bothS x) ∧ o_mat_About_8 F 0 x = (bothC x) ∧ o_mat_About_9 F 0 x = 0 := by
  refine k_mat_About F _ _ ?_
  unfold f_mat_About
  obtain ⟨h1, h2, h3⟩ := a_tBoth F hF hx
  obtain ⟨m0, mm0, mm1, mm2, mm3, mm4, mm5, mm6, mm7, mm8⟩ := a_mSame F hF
  have w1 : Int.tmod (IntKind.wrap .i64 (0 + 1)) 3 = 1 := by decide
  have w2 : Int.tmod (IntKind.wrap .i64 (0 + 2)) 3 = 2 := by decide
  refine bn rfl (bn rfl (bp h1 ?_))
  rw [h2, h3, w1, w2]
  refine bp m0 ?_
  rw [mm0, mm1, mm2, mm3, mm4, mm5, mm6, mm7, mm8]
  dsimp only
  rw [neg_both]
  refine bp rfl (bp rfl (bp rfl (bp rfl (bp rfl (bp rfl (bp rfl (bp rfl (bp rfl (bp rfl (bp rfl (bp rfl (bp rfl ?_))))))))))))
  rfl
theorem a_rAbout0 (F : Nat) (hF : 200 ≤ F) {x : Int} (hx : U32 x) : ok_ref07_About F 0 x = true ∧ o_ref07_About_0 F 0 x = 4294967296 ∧ o_ref07_About_1 F 0 x = 0 ∧ o_ref07_About_2 F 0 x = 0 ∧ o_ref07_About_3 F 0 x = 0 ∧ o_ref07_About_4 F 0 x = (bothC x) ∧ o_ref07_About_5 F 0 x = (-bothS x) ∧ o_ref07_About_6 F 0 x = 0 ∧ o_ref07_About_7 F 0 x = (bothS x) ∧ o_ref07_About_8 F 0 x = (bothC x) ∧ o_ref07_About_9 F 0 x = 0 := by
  refine k_ref07_About F _ _ ?_
  unfold f_ref07_About
  obtain ⟨h1, h2, h3⟩ := a_rBoth F hF hx
  refine bp h1 ?_
  rw [h2, h3]
  dsimp only
  rw [neg_both]
  exact bp rfl rfl
theorem a_mAbout1 (F : Nat) (hF : 200 ≤ F) {x : Int} (hx : U32 x) : ok_mat_About F 1 x = true ∧ o_mat_About_0 F 1 x = (bothC x) ∧ o_mat_About_1 F 1 x = 0 ∧ o_mat_About_2 F 1 x = (bothS x) ∧ o_mat_About_3 F 1 x = 0 ∧ o_mat_About_4 F 1 x = 4294967296 ∧ o_mat_About_5 F 1 x = 0 ∧ o_mat_About_6 F 1 x = (-bothS x) ∧ o_mat_About_7 F 1 x = 0 ∧ o_mat_About_8 F 1 x = (bothC x) ∧ o_mat_About_9 F 1 x = 0 := by
  refine k_mat_About F _ _ ?_
  unfold f_mat_About
  obtain ⟨h1, h2, h3⟩ := a_tBoth F hF hx
  obtain ⟨m0, mm0, mm1, mm2, mm3, mm4, mm5, mm6, mm7, mm8⟩ := a_mSame F hF
  have w1 : Int.tmod (IntKind.wrap .i64 (1 + 1)) 3 = 2 := by decide
  have w2 : Int.tmod (IntKind.wrap .i64 (1 + 2)) 3 = 0 := by decide
  refine bn rfl (bn rfl (bp h1 ?_))
  rw [h2, h3, w1, w2]
  refine bp m0 ?_
  rw [mm0, mm1, mm2, mm3, mm4, mm5, mm6, mm7, mm8]
  dsimp only
  rw [neg_both]
  refine bp rfl (bp rfl (bp rfl (bp rfl (bp rfl (bp rfl (bp rfl (bp rfl (bp rfl (bp rfl (bp rfl (bp rfl (bp rfl ?_))))))))))))
  rfl
theorem a_rAbout1 (F : Nat) (hF : 200 ≤ F) {x : Int} (hx : U32 x) : ok_ref07_About F 1 x = true ∧ o_ref07_About_0 F 1 x = (bothC x) ∧ o_ref07_About_1 F 1 x = 0 ∧ o_ref07_About_2 F 1 x = (bothS x) ∧ o_ref07_About_3 F 1 x = 0 ∧ o_ref07_About_4 F 1 x = 4294967296 ∧ o_ref07_About_5 F 1 x = 0 ∧ o_ref07_About_6 F 1 x = (-bothS x) ∧ o_ref07_About_7 F 1 x = 0 ∧ o_ref07_About_8 F 1 x = (bothC x) ∧ o_ref07_About_9 F 1 x = 0 := by
  refine k_ref07_About F _ _ ?_
  unfold f_ref07_About
  obtain ⟨h1, h2, h3⟩ := a_rBoth F hF hx
  refine bp h1 ?_
  rw [h2, h3]
  dsimp only
  rw [neg_both]
  exact bn rfl (bp rfl rfl)
theorem a_mAbout2 (F : Nat) (hF : 200 ≤ F) {x : Int} (hx : U32 x) : ok_mat_About F 2 x = true ∧ o_mat_About_0 F 2 x = (bothC x) ∧ o_mat_About_1 F 2 x = (-bothS x) ∧ o_mat_About_2 F 2 x = 0 ∧ o_mat_About_3 F 2 x = (bothS x) ∧ o_mat_About_4 F 2 x = (bothC x) ∧ o_mat_About_5 F 2 x = 0 ∧ o_mat_About_6 F 2 x = 0 ∧ o_mat_About_7 F 2 x = 0 ∧ o_mat_About_8 F 2 x = 4294967296 ∧ o_mat_About_9 F 2 x = 0 := by
  refine k_mat_About F _ _ ?_
  unfold f_mat_About
  obtain ⟨h1, h2, h3⟩ := a_tBoth F hF hx
  obtain ⟨m0, mm0, mm1, mm2, mm3, mm4, mm5, mm6, mm7, mm8⟩ := a_mSame F hF
  have w1 : Int.tmod (IntKind.wrap .i64 (2 + 1)) 3 = 0 := by decide
  have w2 : Int.tmod (IntKind.wrap .i64 (2 + 2)) 3 = 1 := by decide
  refine bn rfl (bn rfl (bp h1 ?_))
  rw [h2, h3, w1, w2]
  refine bp m0 ?_
  rw [mm0, mm1, mm2, mm3, mm4, mm5, mm6, mm7, mm8]
  dsimp only
  rw [neg_both]
  refine bp rfl (bp rfl (bp rfl (bp rfl (bp rfl (bp rfl (bp rfl (bp rfl (bp rfl (bp rfl (bp rfl (bp rfl (bp rfl ?_))))))))))))
  rfl
theorem a_rAbout2 (F : Nat) (hF : 200 ≤ F) {x : Int} (hx : U32 x) : ok_ref07_About F 2 x = true ∧ o_ref07_About_0 F 2 x = (bothC x) ∧ o_ref07_About_1 F 2 x = (-bothS x) ∧ o_ref07_About_2 F 2 x = 0 ∧ o_ref07_About_3 F 2 x = (bothS x) ∧ o_ref07_About_4 F 2 x = (bothC x) ∧ o_ref07_About_5 F 2 x = 0 ∧ o_ref07_About_6 F 2 x = 0 ∧ o_ref07_About_7 F 2 x = 0 ∧ o_ref07_About_8 F 2 x = 4294967296 ∧ o_ref07_About_9 F 2 x = 0 := by
  refine k_ref07_About F _ _ ?_
  unfold f_ref07_About
  obtain ⟨h1, h2, h3⟩ := a_rBoth F hF hx
  refine bp h1 ?_
  rw [h2, h3]
  dsimp only
  rw [neg_both]
  exact bn rfl (bn rfl (bp rfl rfl))
theorem a_mAboutX (F : Nat) {k x : Int} (hk : k < 0 ∨ 3 ≤ k) : ok_mat_About F k x = true ∧ o_mat_About_0 F k x = 0 ∧ o_mat_About_1 F k x = 0 ∧ o_mat_About_2 F k x = 0 ∧ o_mat_About_3 F k x = 0 ∧ o_mat_About_4 F k x = 0 ∧ o_mat_About_5 F k x = 0 ∧ o_mat_About_6 F k x = 0 ∧ o_mat_About_7 F k x = 0 ∧ o_mat_About_8 F k x = 0 ∧ o_mat_About_9 F k x = 2 := by
  refine k_mat_About F _ _ ?_
  unfold f_mat_About
  by_cases h : k < 0
  · exact bp (dt h) rfl
  · exact bn (df h) (bp (dt (by omega)) rfl)
theorem a_rAboutX (F : Nat) (hF : 200 ≤ F) {k x : Int} (hx : U32 x) (hk : k < 0 ∨ 3 ≤ k) : ok_ref07_About F k x = true ∧ o_ref07_About_0 F k x = 0 ∧ o_ref07_About_1 F k x = 0 ∧ o_ref07_About_2 F k x = 0 ∧ o_ref07_About_3 F k x = 0 ∧ o_ref07_About_4 F k x = 0 ∧ o_ref07_About_5 F k x = 0 ∧ o_ref07_About_6 F k x = 0 ∧ o_ref07_About_7 F k x = 0 ∧ o_ref07_About_8 F k x = 0 ∧ o_ref07_About_9 F k x = 2 := by
  refine k_ref07_About F _ _ ?_
  unfold f_ref07_About
  obtain ⟨h1, h2, h3⟩ := a_rBoth F hF hx
  refine bp h1 (bn (by simp; omega) (bn (by simp; omega) (bn (by simp; omega) rfl)))
theorem f_works07 (F : Nat) (hF : 200 ≤ F) : f_law07_works F = some (.v (.bool true)) := by
  unfold f_law07_works
  have hI : ∀ y : Int, -4294967296 ≤ y ∧ y ≤ 4294967296 → I64 y := fun y h => by unfold I64; omega
  obtain ⟨⟨b1, b2⟩, b3, b4⟩ := both_bd 1073741824
  obtain ⟨a0_, aa0, aa1, aa2, aa3, aa4, aa5, aa6, aa7, aa8, a9_⟩ := a_mAbout2 F hF (x := 1073741824) (by unfold U32; omega)
  have eC : bothC 1073741824 = (-23) := by decide +kernel
  have eS : bothS 1073741824 = 4294967296 := by decide +kernel
  rw [eC] at aa0 aa4
  rw [eS] at aa1 aa3
  refine bp a0_ ?_
  rw [aa0, aa1, aa2, aa3, aa4, aa5, aa6, aa7, aa8]
  obtain ⟨p0_, p1, p2, p3, p4⟩ := a_mApply F hF (a0 := (-23)) (a1 := -4294967296) (a2 := 0) (a3 := 4294967296) (a4 := (-23)) (a5 := 0) (a6 := 0) (a7 := 0) (a8 := 4294967296) (u0 := 4294967296) (u1 := 0) (u2 := 0) (by unfold I64; omega) (by unfold I64; omega) (by unfold I64; omega) (by unfold I64; omega) (by unfold I64; omega) (by unfold I64; omega) (by unfold I64; omega) (by unfold I64; omega) (by unfold I64; omega) (by unfold I64; omega) (by unfold I64; omega) (by unfold I64; omega)
  obtain ⟨q0_, q1, q2, q3, q4⟩ := a_mApply F hF (a0 := (-23)) (a1 := -4294967296) (a2 := 0) (a3 := 4294967296) (a4 := (-23)) (a5 := 0) (a6 := 0) (a7 := 0) (a8 := 4294967296) (u0 := 0) (u1 := 0) (u2 := 4294967296) (by unfold I64; omega) (by unfold I64; omega) (by unfold I64; omega) (by unfold I64; omega) (by unfold I64; omega) (by unfold I64; omega) (by unfold I64; omega) (by unfold I64; omega) (by unfold I64; omega) (by unfold I64; omega) (by unfold I64; omega) (by unfold I64; omega)
  obtain ⟨m0, mm0, mm1, mm2, mm3, mm4, mm5, mm6, mm7, mm8⟩ := a_mSame F hF
  refine bp p0_ ?_
  refine bp q0_ ?_
  refine bp (by rw [a9_]; rfl) ?_
  refine bp ?_ ?_
  · rw [p2]; decide
  refine bp ?_ ?_
  · rw [p4]; decide
  refine bp ?_ ?_
  · rw [q1, q2, q3]; decide
  refine bp ?_ ?_
  · rw [q4]; decide
  refine bp m0 (some_bool ?_)
  rw [mm4]; rfl
theorem a_works07 (F : Nat) (hF : 200 ≤ F) : ok_law07_works F = true ∧ o_law07_works_0 F = true := k_law07_works F (f_works07 F hF)
end Go.Xv
namespace Go.Xv
theorem f_MatAbout (F : Nat) (hF : 200 ≤ F) {k x : Int} (_hk : I64 k) (hx : U32 x) : f_law07_MatAbout F k x = some (.v (.bool true)) := by
  unfold f_law07_MatAbout
  obtain ⟨w1, w2⟩ := a_works07 F hF
  have hc : k = 0 ∨ k = 1 ∨ k = 2 ∨ (k < 0 ∨ 3 ≤ k) := by omega
  rcases hc with h | h | h | h
  · subst h
    obtain ⟨p0, p1, p2, p3, p4, p5, p6, p7, p8, p9, p10⟩ := a_mAbout0 F hF hx
    obtain ⟨q0, q1, q2, q3, q4, q5, q6, q7, q8, q9, q10⟩ := a_rAbout0 F hF hx
    simp only [p0, p1, p2, p3, p4, p5, p6, p7, p8, p9, p10, q0, q1, q2, q3, q4, q5, q6, q7, q8, q9, q10, w1, w2, BEq.rfl, cond_true, Bool.and_self]
  · subst h
    obtain ⟨p0, p1, p2, p3, p4, p5, p6, p7, p8, p9, p10⟩ := a_mAbout1 F hF hx
    obtain ⟨q0, q1, q2, q3, q4, q5, q6, q7, q8, q9, q10⟩ := a_rAbout1 F hF hx
    simp only [p0, p1, p2, p3, p4, p5, p6, p7, p8, p9, p10, q0, q1, q2, q3, q4, q5, q6, q7, q8, q9, q10, w1, w2, BEq.rfl, cond_true, Bool.and_self]
  · subst h
    obtain ⟨p0, p1, p2, p3, p4, p5, p6, p7, p8, p9, p10⟩ := a_mAbout2 F hF hx
    obtain ⟨q0, q1, q2, q3, q4, q5, q6, q7, q8, q9, q10⟩ := a_rAbout2 F hF hx
    simp only [p0, p1, p2, p3, p4, p5, p6, p7, p8, p9, p10, q0, q1, q2, q3, q4, q5, q6, q7, q8, q9, q10, w1, w2, BEq.rfl, cond_true, Bool.and_self]
  · obtain ⟨p0, p1, p2, p3, p4, p5, p6, p7, p8, p9, p10⟩ := a_mAboutX F (x := x) h
    obtain ⟨q0, q1, q2, q3, q4, q5, q6, q7, q8, q9, q10⟩ := a_rAboutX F hF hx h
    simp only [p0, p1, p2, p3, p4, p5, p6, p7, p8, p9, p10, q0, q1, q2, q3, q4, q5, q6, q7, q8, q9, q10, w1, w2, BEq.rfl, cond_true, Bool.and_self]
end Go.Xv
namespace Go.Proofs.Ytpnggkefjgpleaa.matAbout
open Go.ChangeShapes Go.WideShapes Go.ChangeAt Go.RowKit Go.Xv Go.Proofs.Ytpnggkefjgpleaa.base
set_option linter.unusedVariables false
set_option maxRecDepth 100000 in
theorem lifted (os : Os) (started : os.Started) (H : Type) (enc : TypeId × Value → H) :
    ReturnsInHanded {} Try.checked os 12 .any (Rows.matAboutSpec.pre6 enc Try.prog Try.f12 Rows.matAboutRow.domain false) (Rows.matAboutSpec.post enc Try.prog Try.f12 false true false false) := by
  refine returnsInHanded_of_change (C := Try.checked) own started (by kernel_rfl) Try.func12
    (ChangeSpec.witness6 (enc := enc) (C := Try.checked) false ⟨#[], #[.int .i64 0, .int .u32 0], []⟩ 8 (by kernel_rfl) (by kernel_rfl) (by kernel_rfl) (by kernel_rfl)) ?_
  intro W base args ds gs before hval0 hW hcnd _
  have hval : ∀ (j : Nat) t v, Try.f12.params[j]? = some t → args[j]? = some v → Value.okWide Try.prog W .any base t v := hval0
  have hW' := hW
  obtain ⟨p, q, hA0, hV, rfl, hfz, hnd⟩ := hW
  have hA : DataW.TrodAll enc Try.prog W 0 (fun _ => true) true Try.f12.params.toList args.toList ds p := hA0
  rw [Try.params12] at hA hval
  obtain ⟨v0, vs0, d0, ds0, p0, q0, hargs, rfl, rfl, h0, r0⟩ := trodAll_cons hA
  obtain ⟨v1, vs1, d1, ds1, p1, q1, rfl, rfl, rfl, h1, r1⟩ := trodAll_cons r0
  obtain ⟨rfl, rfl, rfl⟩ := trodAll_nil r1
  obtain rfl : args = #[v0, v1] := by cases args; simp_all
  obtain ⟨a0, rfl, wa0⟩ := open_num (k := .i64) (by kernel_rfl) (hval 0 3 v0 rfl rfl) h0
  obtain ⟨a1, rfl, wa1⟩ := open_num (k := .u32) (by kernel_rfl) (hval 1 30 v1 rfl rfl) h1
  refine law_contract laidOut (g_law07_MatAbout fuel0) (bt := 4) (by kernel_rfl) (by kernel_rfl) (by kernel_rfl) (by kernel_rfl) rfl hW' ?_
  refine ⟨[.v (.int .i64 a0), .v (.int .u32 a1)], rfl, fun i x hx => ?_, unS_of ?_⟩
  · match i, hx with
    | 0, hx => exact ⟨_, rfl, by cases hx; exact Rel.v _ _⟩
    | 1, hx => exact ⟨_, rfl, by cases hx; exact Rel.v _ _⟩
    | _ + 2, hx => cases hx
  · obtain ⟨y1, y2⟩ := k_law07_MatAbout fuel0 a0 a1 (f_MatAbout fuel0 (by unfold fuel0; omega) (wf_i64 wa0) (wf_u32 wa1))
    have e : s_law07_MatAbout fuel0 [.v (.int .i64 a0), .v (.int .u32 a1)] = some (ok_law07_MatAbout fuel0 a0 a1, .v (.bool (o_law07_MatAbout_0 fuel0 a0 a1))) := by kernel_rfl
    rw [e, y1, y2]
theorem over : Rows.matAboutRow.holds Try.pinned (OpenSpec.ofChange Rows.matAboutSpec) :=
  OpenClaim.holds_of_wide 12 Try.f12 rfl rfl rfl rfl rfl rfl rfl ⟨rfl, rfl, rfl, rfl, rfl⟩ rfl rfl rfl rfl rfl (by kernel_rfl) Try.func12 (joined_of (P := Try.prog) behind enter_ rfl rfl ⟨rfl, rfl⟩ (by kernel_rfl))
    (of_decide_eq_true (by kernel_rfl)) (by unfold Func.isWrapper; first | (rw [if_pos (by decide +kernel)]; kernel_rfl) | (rw [if_neg (by decide +kernel)]; exact ⟨rfl, rfl⟩))
    (fun os started H enc _ => lifted os started H enc)
/-- The statement. -/
theorem proved : Rows.MatAboutSaid := over
#print axioms proved
end Go.Proofs.Ytpnggkefjgpleaa.matAbout
