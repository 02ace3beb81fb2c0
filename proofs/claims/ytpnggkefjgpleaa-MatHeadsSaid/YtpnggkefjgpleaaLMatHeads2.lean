/- The heading of what turns about axis 2 is no further from the angle than 1024 parts: the law returns true for every input, and leaves its arguments as they were. -/
import Derived.Test.YtpnggkefjgpleaaLMatHeads
import Derived.KernelRfl
set_option linter.unusedVariables false
namespace Go.Xv
/- 44 _mat_About -/
def c_mat_About : Cfg := ⟨[0, 1, 4, 5, 6, 7, 8, 9, 10, 16], [], [], []⟩
def ti_mat_About : List TV := [.v (.int .i64), .v (.int .u32)]
def to_mat_About : TV := .v (.tup [.agg [.int .i64, .int .i64, .int .i64, .int .i64, .int .i64, .int .i64, .int .i64, .int .i64, .int .i64], .int .i64])
def S_mat_About (F : Nat) : FuncId → List VV → Option (Bool × VV) := words [(25, s_turn_Both F), (57, s_mat_Same F)]
def W_mat_About (F : Nat) : List LW := []
def I_mat_About (F : Nat) : Nat → VS → (Exit → VS → R) → R := tabI c_mat_About (W_mat_About F)
def WJ_mat_About (F : Nat) : List LJ := []
def J_mat_About (F : Nat) : Nat → Nat → VS → (Exit → VS → R) → R := tabJ (WJ_mat_About F)
def f_mat_About (F : Nat) (a0 : Int) (a1 : Int) : R :=
  bif ((decide (a0 < 0))) then (
    some (.v (.tuple #[.agg #[.int .i64 0, .int .i64 0, .int .i64 0, .int .i64 0, .int .i64 0, .int .i64 0, .int .i64 0, .int .i64 0, .int .i64 0], .int .i64 2])))
  else (
    bif ((decide (a0 ≥ 3))) then (
      some (.v (.tuple #[.agg #[.int .i64 0, .int .i64 0, .int .i64 0, .int .i64 0, .int .i64 0, .int .i64 0, .int .i64 0, .int .i64 0, .int .i64 0], .int .i64 2])))
    else (
      bif (ok_turn_Both F a1) then (
        let v2418 : Int := (o_turn_Both_0 F a1)
        let v2419 : Int := (o_turn_Both_1 F a1)
        let v2421 : Int := (Int.tmod ((IntKind.wrap .i64 (a0 + 1))) 3)
        let v2423 : Int := (Int.tmod ((IntKind.wrap .i64 (a0 + 2))) 3)
        bif (ok_mat_Same F) then (
          let v2460 : Int := (o_mat_Same_0 F)
          let v2461 : Int := (o_mat_Same_1 F)
          let v2462 : Int := (o_mat_Same_2 F)
          let v2463 : Int := (o_mat_Same_3 F)
          let v2464 : Int := (o_mat_Same_4 F)
          let v2465 : Int := (o_mat_Same_5 F)
          let v2466 : Int := (o_mat_Same_6 F)
          let v2467 : Int := (o_mat_Same_7 F)
          let v2468 : Int := (o_mat_Same_8 F)
          bif ((decide (0 ≤ v2421)) && (decide (v2421 < 3))) then (
            bif ((decide (0 ≤ v2421)) && (decide (v2421 < 3))) then (
              let v2471 : Nat := (((0 + ((Int.toNat v2421) * 3))) + ((Int.toNat v2421) * 1))
              bif (decide ((v2471 + 1) ≤ 9)) then (
                let v2472 : List VV := ([.v (.int .i64 v2460), .v (.int .i64 v2461), .v (.int .i64 v2462), .v (.int .i64 v2463), .v (.int .i64 v2464), .v (.int .i64 v2465), .v (.int .i64 v2466), .v (.int .i64 v2467), .v (.int .i64 v2468)].take v2471 ++ [.v (.int .i64 v2418)] ++ [.v (.int .i64 v2460), .v (.int .i64 v2461), .v (.int .i64 v2462), .v (.int .i64 v2463), .v (.int .i64 v2464), .v (.int .i64 v2465), .v (.int .i64 v2466), .v (.int .i64 v2467), .v (.int .i64 v2468)].drop (v2471 + 1))
                bif ((decide (0 ≤ v2423)) && (decide (v2423 < 3))) then (
                  bif ((decide (0 ≤ v2423)) && (decide (v2423 < 3))) then (
                    let v2474 : Nat := (((0 + ((Int.toNat v2423) * 3))) + ((Int.toNat v2423) * 1))
                    bif (decide ((v2474 + 1) ≤ v2472.length)) then (
                      let v2475 : List VV := (v2472.take v2474 ++ [.v (.int .i64 v2418)] ++ v2472.drop (v2474 + 1))
                      bif ((decide (0 ≤ v2421)) && (decide (v2421 < 3))) then (
                        bif ((decide (0 ≤ v2423)) && (decide (v2423 < 3))) then (
                          let v2477 : Nat := (((0 + ((Int.toNat v2421) * 3))) + ((Int.toNat v2423) * 1))
                          bif (decide ((v2477 + 1) ≤ v2475.length)) then (
                            let v2478 : List VV := (v2475.take v2477 ++ [.v (.int .i64 ((IntKind.wrap .i64 (0 - v2419))))] ++ v2475.drop (v2477 + 1))
                            bif ((decide (0 ≤ v2423)) && (decide (v2423 < 3))) then (
                              bif ((decide (0 ≤ v2421)) && (decide (v2421 < 3))) then (
                                let v2480 : Nat := (((0 + ((Int.toNat v2423) * 3))) + ((Int.toNat v2421) * 1))
                                bif (decide ((v2480 + 1) ≤ v2478.length)) then (
                                  let v2481 : List VV := (v2478.take v2480 ++ [.v (.int .i64 v2419)] ++ v2478.drop (v2480 + 1))
                                  bif ((isI .i64 v2481[0]?) && ((isI .i64 v2481[1]?) && ((isI .i64 v2481[2]?) && ((isI .i64 v2481[3]?) && ((isI .i64 v2481[4]?) && ((isI .i64 v2481[5]?) && ((isI .i64 v2481[6]?) && ((isI .i64 v2481[7]?) && ((isI .i64 v2481[8]?) && true))))))))) then (
                                    some (.v (.tuple #[.agg #[.int .i64 ((iv v2481[0]?)), .int .i64 ((iv v2481[1]?)), .int .i64 ((iv v2481[2]?)), .int .i64 ((iv v2481[3]?)), .int .i64 ((iv v2481[4]?)), .int .i64 ((iv v2481[5]?)), .int .i64 ((iv v2481[6]?)), .int .i64 ((iv v2481[7]?)), .int .i64 ((iv v2481[8]?))], .int .i64 0])))
                                  else (
                                    none))
                                else (
                                  none))
                              else (
                                none))
                            else (
                              none))
                          else (
                            none))
                        else (
                          none))
                      else (
                        none))
                    else (
                      none))
                  else (
                    none))
                else (
                  none))
              else (
                none))
            else (
              none))
          else (
            none))
        else (
          none))
      else (
        none)))
theorem e_mat_About (F : Nat) (a0 : Int) (a1 : Int) : funL PP (S_mat_About F) c_mat_About (I_mat_About F) (J_mat_About F) 44 (fTs ti_mat_About [.i a0, .i a1]).1 = f_mat_About F a0 a1 := by
  have h : ∀ (ok_turn_Both : Nat → Int → Bool) (o_turn_Both_0 : Nat → Int → Int) (o_turn_Both_1 : Nat → Int → Int) (ok_mat_Same : Nat → Bool) (o_mat_Same_0 : Nat → Int) (o_mat_Same_1 : Nat → Int) (o_mat_Same_2 : Nat → Int) (o_mat_Same_3 : Nat → Int) (o_mat_Same_4 : Nat → Int) (o_mat_Same_5 : Nat → Int) (o_mat_Same_6 : Nat → Int) (o_mat_Same_7 : Nat → Int) (o_mat_Same_8 : Nat → Int), funL PP (words [(25, spec ti_turn_Both to_turn_Both (fun q => (ok_turn_Both F (atI (nth q 0)))) (fun q => [.i (o_turn_Both_0 F (atI (nth q 0))), .i (o_turn_Both_1 F (atI (nth q 0)))])), (57, spec ti_mat_Same to_mat_Same (fun q => (ok_mat_Same F )) (fun q => [.i (o_mat_Same_0 F ), .i (o_mat_Same_1 F ), .i (o_mat_Same_2 F ), .i (o_mat_Same_3 F ), .i (o_mat_Same_4 F ), .i (o_mat_Same_5 F ), .i (o_mat_Same_6 F ), .i (o_mat_Same_7 F ), .i (o_mat_Same_8 F )]))]) c_mat_About (tabI c_mat_About []) (tabJ []) 44 (fTs ti_mat_About [.i a0, .i a1]).1 = (
  bif ((decide (a0 < 0))) then (
    some (.v (.tuple #[.agg #[.int .i64 0, .int .i64 0, .int .i64 0, .int .i64 0, .int .i64 0, .int .i64 0, .int .i64 0, .int .i64 0, .int .i64 0], .int .i64 2])))
  else (
    bif ((decide (a0 ≥ 3))) then (
      some (.v (.tuple #[.agg #[.int .i64 0, .int .i64 0, .int .i64 0, .int .i64 0, .int .i64 0, .int .i64 0, .int .i64 0, .int .i64 0, .int .i64 0], .int .i64 2])))
    else (
      bif (ok_turn_Both F a1) then (
        let v2418 : Int := (o_turn_Both_0 F a1)
        let v2419 : Int := (o_turn_Both_1 F a1)
        let v2421 : Int := (Int.tmod ((IntKind.wrap .i64 (a0 + 1))) 3)
        let v2423 : Int := (Int.tmod ((IntKind.wrap .i64 (a0 + 2))) 3)
        bif (ok_mat_Same F) then (
          let v2460 : Int := (o_mat_Same_0 F)
          let v2461 : Int := (o_mat_Same_1 F)
          let v2462 : Int := (o_mat_Same_2 F)
          let v2463 : Int := (o_mat_Same_3 F)
          let v2464 : Int := (o_mat_Same_4 F)
          let v2465 : Int := (o_mat_Same_5 F)
          let v2466 : Int := (o_mat_Same_6 F)
          let v2467 : Int := (o_mat_Same_7 F)
          let v2468 : Int := (o_mat_Same_8 F)
          bif ((decide (0 ≤ v2421)) && (decide (v2421 < 3))) then (
            bif ((decide (0 ≤ v2421)) && (decide (v2421 < 3))) then (
              let v2471 : Nat := (((0 + ((Int.toNat v2421) * 3))) + ((Int.toNat v2421) * 1))
              bif (decide ((v2471 + 1) ≤ 9)) then (
                let v2472 : List VV := ([.v (.int .i64 v2460), .v (.int .i64 v2461), .v (.int .i64 v2462), .v (.int .i64 v2463), .v (.int .i64 v2464), .v (.int .i64 v2465), .v (.int .i64 v2466), .v (.int .i64 v2467), .v (.int .i64 v2468)].take v2471 ++ [.v (.int .i64 v2418)] ++ [.v (.int .i64 v2460), .v (.int .i64 v2461), .v (.int .i64 v2462), .v (.int .i64 v2463), .v (.int .i64 v2464), .v (.int .i64 v2465), .v (.int .i64 v2466), .v (.int .i64 v2467), .v (.int .i64 v2468)].drop (v2471 + 1))
                bif ((decide (0 ≤ v2423)) && (decide (v2423 < 3))) then (
                  bif ((decide (0 ≤ v2423)) && (decide (v2423 < 3))) then (
                    let v2474 : Nat := (((0 + ((Int.toNat v2423) * 3))) + ((Int.toNat v2423) * 1))
                    bif (decide ((v2474 + 1) ≤ v2472.length)) then (
                      let v2475 : List VV := (v2472.take v2474 ++ [.v (.int .i64 v2418)] ++ v2472.drop (v2474 + 1))
                      bif ((decide (0 ≤ v2421)) && (decide (v2421 < 3))) then (
                        bif ((decide (0 ≤ v2423)) && (decide (v2423 < 3))) then (
                          let v2477 : Nat := (((0 + ((Int.toNat v2421) * 3))) + ((Int.toNat v2423) * 1))
                          bif (decide ((v2477 + 1) ≤ v2475.length)) then (
                            let v2478 : List VV := (v2475.take v2477 ++ [.v (.int .i64 ((IntKind.wrap .i64 (0 - v2419))))] ++ v2475.drop (v2477 + 1))
                            bif ((decide (0 ≤ v2423)) && (decide (v2423 < 3))) then (
                              bif ((decide (0 ≤ v2421)) && (decide (v2421 < 3))) then (
                                let v2480 : Nat := (((0 + ((Int.toNat v2423) * 3))) + ((Int.toNat v2421) * 1))
                                bif (decide ((v2480 + 1) ≤ v2478.length)) then (
                                  let v2481 : List VV := (v2478.take v2480 ++ [.v (.int .i64 v2419)] ++ v2478.drop (v2480 + 1))
                                  bif ((isI .i64 v2481[0]?) && ((isI .i64 v2481[1]?) && ((isI .i64 v2481[2]?) && ((isI .i64 v2481[3]?) && ((isI .i64 v2481[4]?) && ((isI .i64 v2481[5]?) && ((isI .i64 v2481[6]?) && ((isI .i64 v2481[7]?) && ((isI .i64 v2481[8]?) && true))))))))) then (
                                    some (.v (.tuple #[.agg #[.int .i64 ((iv v2481[0]?)), .int .i64 ((iv v2481[1]?)), .int .i64 ((iv v2481[2]?)), .int .i64 ((iv v2481[3]?)), .int .i64 ((iv v2481[4]?)), .int .i64 ((iv v2481[5]?)), .int .i64 ((iv v2481[6]?)), .int .i64 ((iv v2481[7]?)), .int .i64 ((iv v2481[8]?))], .int .i64 0])))
                                  else (
                                    none))
                                else (
                                  none))
                              else (
                                none))
                            else (
                              none))
                          else (
                            none))
                        else (
                          none))
                      else (
                        none))
                    else (
                      none))
                  else (
                    none))
                else (
                  none))
              else (
                none))
            else (
              none))
          else (
            none))
        else (
          none))
      else (
        none))) : R) := by
    intros
    kernel_rfl
  exact (h ok_turn_Both o_turn_Both_0 o_turn_Both_1 ok_mat_Same o_mat_Same_0 o_mat_Same_1 o_mat_Same_2 o_mat_Same_3 o_mat_Same_4 o_mat_Same_5 o_mat_Same_6 o_mat_Same_7 o_mat_Same_8).trans (by kernel_rfl)
def ok_mat_About (F : Nat) (a0 : Int) (a1 : Int) : Bool := okT to_mat_About (f_mat_About F a0 a1)
def o_mat_About_0 (F : Nat) (a0 : Int) (a1 : Int) : Int := atI (nth (outT to_mat_About (f_mat_About F a0 a1)) 0)
def o_mat_About_1 (F : Nat) (a0 : Int) (a1 : Int) : Int := atI (nth (outT to_mat_About (f_mat_About F a0 a1)) 1)
def o_mat_About_2 (F : Nat) (a0 : Int) (a1 : Int) : Int := atI (nth (outT to_mat_About (f_mat_About F a0 a1)) 2)
def o_mat_About_3 (F : Nat) (a0 : Int) (a1 : Int) : Int := atI (nth (outT to_mat_About (f_mat_About F a0 a1)) 3)
def o_mat_About_4 (F : Nat) (a0 : Int) (a1 : Int) : Int := atI (nth (outT to_mat_About (f_mat_About F a0 a1)) 4)
def o_mat_About_5 (F : Nat) (a0 : Int) (a1 : Int) : Int := atI (nth (outT to_mat_About (f_mat_About F a0 a1)) 5)
def o_mat_About_6 (F : Nat) (a0 : Int) (a1 : Int) : Int := atI (nth (outT to_mat_About (f_mat_About F a0 a1)) 6)
def o_mat_About_7 (F : Nat) (a0 : Int) (a1 : Int) : Int := atI (nth (outT to_mat_About (f_mat_About F a0 a1)) 7)
def o_mat_About_8 (F : Nat) (a0 : Int) (a1 : Int) : Int := atI (nth (outT to_mat_About (f_mat_About F a0 a1)) 8)
def o_mat_About_9 (F : Nat) (a0 : Int) (a1 : Int) : Int := atI (nth (outT to_mat_About (f_mat_About F a0 a1)) 9)
theorem k_mat_About (F : Nat) (a0 : Int) (a1 : Int) {z0 : Int} {z1 : Int} {z2 : Int} {z3 : Int} {z4 : Int} {z5 : Int} {z6 : Int} {z7 : Int} {z8 : Int} {z9 : Int} (h : f_mat_About F a0 a1 = some (.v (.tuple #[.agg #[.int .i64 z0, .int .i64 z1, .int .i64 z2, .int .i64 z3, .int .i64 z4, .int .i64 z5, .int .i64 z6, .int .i64 z7, .int .i64 z8], .int .i64 z9]))) : ok_mat_About F a0 a1 = true ∧ o_mat_About_0 F a0 a1 = z0 ∧ o_mat_About_1 F a0 a1 = z1 ∧ o_mat_About_2 F a0 a1 = z2 ∧ o_mat_About_3 F a0 a1 = z3 ∧ o_mat_About_4 F a0 a1 = z4 ∧ o_mat_About_5 F a0 a1 = z5 ∧ o_mat_About_6 F a0 a1 = z6 ∧ o_mat_About_7 F a0 a1 = z7 ∧ o_mat_About_8 F a0 a1 = z8 ∧ o_mat_About_9 F a0 a1 = z9 := by
  refine ⟨?_, ?_, ?_, ?_, ?_, ?_, ?_, ?_, ?_, ?_, ?_⟩
  · unfold ok_mat_About; rw [h]; kernel_rfl
  · unfold o_mat_About_0; rw [h]; kernel_rfl
  · unfold o_mat_About_1; rw [h]; kernel_rfl
  · unfold o_mat_About_2; rw [h]; kernel_rfl
  · unfold o_mat_About_3; rw [h]; kernel_rfl
  · unfold o_mat_About_4; rw [h]; kernel_rfl
  · unfold o_mat_About_5; rw [h]; kernel_rfl
  · unfold o_mat_About_6; rw [h]; kernel_rfl
  · unfold o_mat_About_7; rw [h]; kernel_rfl
  · unfold o_mat_About_8; rw [h]; kernel_rfl
  · unfold o_mat_About_9; rw [h]; kernel_rfl
def s_mat_About (F : Nat) : List VV → Option (Bool × VV) := spec ti_mat_About to_mat_About (fun q => (ok_mat_About F (atI (nth q 0)) (atI (nth q 1)))) (fun q => [.i (o_mat_About_0 F (atI (nth q 0)) (atI (nth q 1))), .i (o_mat_About_1 F (atI (nth q 0)) (atI (nth q 1))), .i (o_mat_About_2 F (atI (nth q 0)) (atI (nth q 1))), .i (o_mat_About_3 F (atI (nth q 0)) (atI (nth q 1))), .i (o_mat_About_4 F (atI (nth q 0)) (atI (nth q 1))), .i (o_mat_About_5 F (atI (nth q 0)) (atI (nth q 1))), .i (o_mat_About_6 F (atI (nth q 0)) (atI (nth q 1))), .i (o_mat_About_7 F (atI (nth q 0)) (atI (nth q 1))), .i (o_mat_About_8 F (atI (nth q 0)) (atI (nth q 1))), .i (o_mat_About_9 F (atI (nth q 0)) (atI (nth q 1)))])
theorem hS_mat_About (F : Nat) : ∀ f, Good PP f (unS (S_mat_About F f)) := words_good fun p hp => by
  simp only [List.mem_cons, List.not_mem_nil, or_false] at hp
  rcases hp with rfl | rfl
  · exact g_turn_Both F
  · exact g_mat_Same F
theorem hl_mat_About (F : Nat) : ∀ p ∈ loopsIn PP 44, LoopOK PP (S_mat_About F) c_mat_About F (I_mat_About F) (J_mat_About F) p :=
  loops_of [] (by kernel_rfl) all_nil
theorem hj_mat_About (F : Nat) : ∀ p ∈ joinsIn PP c_mat_About 44, JoinOK PP (S_mat_About F) c_mat_About (I_mat_About F) (J_mat_About F) p :=
  joins_of [] (by kernel_rfl) all_nil
theorem g_mat_About (F : Nat) : Good PP 44 (unS (s_mat_About F)) :=
  fun_spec (hS_mat_About F) (by kernel_rfl) (by kernel_rfl) (C := c_mat_About) (F := fun q => (f_mat_About F (atI (nth q 0)) (atI (nth q 1)))) (fun _ => F) (fun _ => I_mat_About F) (fun _ => J_mat_About F) (fun _ => hl_mat_About F) (fun _ => hj_mat_About F)
    (fun q => (congrArg (funL PP (S_mat_About F) c_mat_About (I_mat_About F) (J_mat_About F) 44) (show (fTs ti_mat_About q).1 = (fTs ti_mat_About [.i (atI (nth q 0)), .i (atI (nth q 1))]).1 by kernel_rfl)).trans (e_mat_About F (atI (nth q 0)) (atI (nth q 1))))
    (fun _ h => (okT_fill h).trans (congrArg some (by kernel_rfl)))

end Go.Xv
set_option linter.unusedVariables false
namespace Go.Xv
/- 53 _mat_Apply -/
def c_mat_Apply : Cfg := ⟨[0, 1, 2, 3, 4, 5, 6, 7, 8, 9, 10, 11, 12, 13, 14], [(0, [0, 1, 2, 3, 4, 5, 6, 7, 12, 13, 31, 32])], [], []⟩
def ti_mat_Apply : List TV := [.v (.agg [.int .i64, .int .i64, .int .i64, .int .i64, .int .i64, .int .i64, .int .i64, .int .i64, .int .i64]), .v (.agg [.int .i64, .int .i64, .int .i64])]
def to_mat_Apply : TV := .v (.tup [.agg [.int .i64, .int .i64, .int .i64], .bool])
def S_mat_Apply (F : Nat) : FuncId → List VV → Option (Bool × VV) := words [(47, s_vec_Dot F)]
def T_mat_Apply_0 : TS := ⟨[(0, .v (.agg [.int .i64, .int .i64, .int .i64, .int .i64, .int .i64, .int .i64, .int .i64, .int .i64, .int .i64])), (1, .v (.agg [.int .i64, .int .i64, .int .i64])), (2, .lp 0 (.lit 0)), (3, .lp 1 (.lit 0)), (4, .lp 2 (.lit 0)), (5, .v (.bool)), (6, .lp 3 (.lit 0)), (7, .v (.bool)), (12, .v (.agg [.int .i64, .int .i64, .int .i64, .int .i64, .int .i64, .int .i64, .int .i64, .int .i64, .int .i64])), (13, .v (.int .i64))], [(0, ⟨(.ex [.v (.int .i64), .v (.int .i64), .v (.int .i64), .v (.int .i64), .v (.int .i64), .v (.int .i64), .v (.int .i64), .v (.int .i64), .v (.int .i64)]), true⟩), (1, ⟨(.ex [.v (.int .i64), .v (.int .i64), .v (.int .i64)]), true⟩), (2, ⟨(.ex [.v (.int .i64), .v (.int .i64), .v (.int .i64)]), true⟩), (3, ⟨.hole, true⟩)], 4⟩
def T_mat_Apply_0_0 : TS := ⟨[(0, .v (.agg [.int .i64, .int .i64, .int .i64, .int .i64, .int .i64, .int .i64, .int .i64, .int .i64, .int .i64])), (1, .v (.agg [.int .i64, .int .i64, .int .i64])), (2, .lp 0 (.lit 0)), (3, .lp 1 (.lit 0)), (4, .lp 2 (.lit 0)), (5, .v (.bool)), (6, .lp 3 (.lit 0)), (7, .v (.bool)), (12, .v (.agg [.int .i64, .int .i64, .int .i64, .int .i64, .int .i64, .int .i64, .int .i64, .int .i64, .int .i64])), (13, .v (.int .i64))], [(0, ⟨(.ex [.v (.int .i64), .v (.int .i64), .v (.int .i64), .v (.int .i64), .v (.int .i64), .v (.int .i64), .v (.int .i64), .v (.int .i64), .v (.int .i64)]), true⟩), (1, ⟨(.ex [.v (.int .i64), .v (.int .i64), .v (.int .i64)]), true⟩), (2, ⟨(.ex [.v (.int .i64), .v (.int .i64), .v (.int .i64)]), true⟩), (3, ⟨.hole, true⟩)], 4⟩
def B_mat_Apply_0 (F : Nat) (rc : Int → Int → Int → Int → Int → Int → Int → Int → Int → Int → Int → Int → Bool → Bool → Int → Int → Int → Int → Int → Int → Int → Int → Int → Int → Int → Int → Int → Int → Int → Int → Int → Int → Int → Int → Int → Int → Int → Int → Int → List VV → R) (ex0 : Int → Int → Int → Int → Int → Int → Int → Int → Int → Int → Int → Int → Bool → Bool → Int → Int → Int → Int → Int → Int → Int → Int → Int → Int → Int → Int → Int → Int → Int → Int → Int → Int → Int → Int → Int → Int → Int → Int → Int → List VV → R) (x0 : Int) (x1 : Int) (x2 : Int) (x3 : Int) (x4 : Int) (x5 : Int) (x6 : Int) (x7 : Int) (x8 : Int) (x9 : Int) (x10 : Int) (x11 : Int) (x12 : Bool) (x13 : Bool) (x14 : Int) (x15 : Int) (x16 : Int) (x17 : Int) (x18 : Int) (x19 : Int) (x20 : Int) (x21 : Int) (x22 : Int) (x23 : Int) (x24 : Int) (x25 : Int) (x26 : Int) (x27 : Int) (x28 : Int) (x29 : Int) (x30 : Int) (x31 : Int) (x32 : Int) (x33 : Int) (x34 : Int) (x35 : Int) (x36 : Int) (x37 : Int) (x38 : Int) (x39 : List VV) : R :=
  bif ((decide (x23 < 3))) then (
    bif (((decide (0 ≤ x23)) && (decide (x23 < 3))) && ((isI .i64 [.v (.int .i64 x14), .v (.int .i64 x15), .v (.int .i64 x16), .v (.int .i64 x17), .v (.int .i64 x18), .v (.int .i64 x19), .v (.int .i64 x20), .v (.int .i64 x21), .v (.int .i64 x22)][((Int.toNat x23) * 3)]?) && ((isI .i64 [.v (.int .i64 x14), .v (.int .i64 x15), .v (.int .i64 x16), .v (.int .i64 x17), .v (.int .i64 x18), .v (.int .i64 x19), .v (.int .i64 x20), .v (.int .i64 x21), .v (.int .i64 x22)][(((Int.toNat x23) * 3) + 1)]?) && ((isI .i64 [.v (.int .i64 x14), .v (.int .i64 x15), .v (.int .i64 x16), .v (.int .i64 x17), .v (.int .i64 x18), .v (.int .i64 x19), .v (.int .i64 x20), .v (.int .i64 x21), .v (.int .i64 x22)][((((Int.toNat x23) * 3) + 1) + 1)]?) && true)))) then (
      let v2572 : Int := (iv [.v (.int .i64 x14), .v (.int .i64 x15), .v (.int .i64 x16), .v (.int .i64 x17), .v (.int .i64 x18), .v (.int .i64 x19), .v (.int .i64 x20), .v (.int .i64 x21), .v (.int .i64 x22)][((Int.toNat x23) * 3)]?)
      let v2573 : Int := (iv [.v (.int .i64 x14), .v (.int .i64 x15), .v (.int .i64 x16), .v (.int .i64 x17), .v (.int .i64 x18), .v (.int .i64 x19), .v (.int .i64 x20), .v (.int .i64 x21), .v (.int .i64 x22)][(((Int.toNat x23) * 3) + 1)]?)
      let v2574 : Int := (iv [.v (.int .i64 x14), .v (.int .i64 x15), .v (.int .i64 x16), .v (.int .i64 x17), .v (.int .i64 x18), .v (.int .i64 x19), .v (.int .i64 x20), .v (.int .i64 x21), .v (.int .i64 x22)][((((Int.toNat x23) * 3) + 1) + 1)]?)
      bif (ok_vec_Dot F v2572 v2573 v2574 x33 x34 x35) then (
        let v2575 : Int := (o_vec_Dot_0 F v2572 v2573 v2574 x33 x34 x35)
        bif x13 then (
          bif ((decide (0 ≤ x23)) && (decide (x23 < 3))) then (
            let v2577 : Nat := (0 + ((Int.toNat x23) * 1))
            bif (decide ((v2577 + 1) ≤ x39.length)) then (
              rc x0 x1 x2 x3 x4 x5 x6 x7 x8 x9 x10 x11 x12 true x14 x15 x16 x17 x18 x19 x20 x21 x22 ((IntKind.wrap .i64 (x23 + 1))) x24 x25 x26 x27 x28 x29 x30 x31 x32 x33 x34 x35 x36 x37 x38 ((x39.take v2577 ++ [.v (.int .i64 v2575)] ++ x39.drop (v2577 + 1))))
            else (
              none))
          else (
            none))
        else (
          bif ((decide (0 ≤ x23)) && (decide (x23 < 3))) then (
            let v2580 : Nat := (0 + ((Int.toNat x23) * 1))
            bif (decide ((v2580 + 1) ≤ x39.length)) then (
              rc x0 x1 x2 x3 x4 x5 x6 x7 x8 x9 x10 x11 x12 ((o_vec_Dot_1 F v2572 v2573 v2574 x33 x34 x35)) x14 x15 x16 x17 x18 x19 x20 x21 x22 ((IntKind.wrap .i64 (x23 + 1))) x24 x25 x26 x27 x28 x29 x30 x31 x32 x33 x34 x35 x36 x37 x38 ((x39.take v2580 ++ [.v (.int .i64 v2575)] ++ x39.drop (v2580 + 1))))
            else (
              none))
          else (
            none)))
      else (
        none))
    else (
      none))
  else (
    ex0 x0 x1 x2 x3 x4 x5 x6 x7 x8 x9 x10 x11 x12 x13 x14 x15 x16 x17 x18 x19 x20 x21 x22 x23 x24 x25 x26 x27 x28 x29 x30 x31 x32 x33 x34 x35 x36 x37 x38 x39)
def L_mat_Apply_0 (F : Nat) (ex0 : Int → Int → Int → Int → Int → Int → Int → Int → Int → Int → Int → Int → Bool → Bool → Int → Int → Int → Int → Int → Int → Int → Int → Int → Int → Int → Int → Int → Int → Int → Int → Int → Int → Int → Int → Int → Int → Int → Int → Int → List VV → R) : Nat → Int → Int → Int → Int → Int → Int → Int → Int → Int → Int → Int → Int → Bool → Bool → Int → Int → Int → Int → Int → Int → Int → Int → Int → Int → Int → Int → Int → Int → Int → Int → Int → Int → Int → Int → Int → Int → Int → Int → Int → List VV → R
  | 0, _, _, _, _, _, _, _, _, _, _, _, _, _, _, _, _, _, _, _, _, _, _, _, _, _, _, _, _, _, _, _, _, _, _, _, _, _, _, _, _ => none
  | n + 1, x0, x1, x2, x3, x4, x5, x6, x7, x8, x9, x10, x11, x12, x13, x14, x15, x16, x17, x18, x19, x20, x21, x22, x23, x24, x25, x26, x27, x28, x29, x30, x31, x32, x33, x34, x35, x36, x37, x38, x39 => B_mat_Apply_0 F (L_mat_Apply_0 F ex0 n) ex0 x0 x1 x2 x3 x4 x5 x6 x7 x8 x9 x10 x11 x12 x13 x14 x15 x16 x17 x18 x19 x20 x21 x22 x23 x24 x25 x26 x27 x28 x29 x30 x31 x32 x33 x34 x35 x36 x37 x38 x39
def W_mat_Apply (F : Nat) : List LW := [⟨0, T_mat_Apply_0, fun k q => L_mat_Apply_0 F (fun (z0 : Int) (z1 : Int) (z2 : Int) (z3 : Int) (z4 : Int) (z5 : Int) (z6 : Int) (z7 : Int) (z8 : Int) (z9 : Int) (z10 : Int) (z11 : Int) (z12 : Bool) (z13 : Bool) (z14 : Int) (z15 : Int) (z16 : Int) (z17 : Int) (z18 : Int) (z19 : Int) (z20 : Int) (z21 : Int) (z22 : Int) (z23 : Int) (z24 : Int) (z25 : Int) (z26 : Int) (z27 : Int) (z28 : Int) (z29 : Int) (z30 : Int) (z31 : Int) (z32 : Int) (z33 : Int) (z34 : Int) (z35 : Int) (z36 : Int) (z37 : Int) (z38 : Int) (z39 : List VV) => k (.exit 0) (fS T_mat_Apply_0_0 [.i z0, .i z1, .i z2, .i z3, .i z4, .i z5, .i z6, .i z7, .i z8, .i z9, .i z10, .i z11, .b z12, .b z13, .i z14, .i z15, .i z16, .i z17, .i z18, .i z19, .i z20, .i z21, .i z22, .i z23, .i z24, .i z25, .i z26, .i z27, .i z28, .i z29, .i z30, .i z31, .i z32, .i z33, .i z34, .i z35, .i z36, .i z37, .i z38, .c z39])) F (atI (nth q 0)) (atI (nth q 1)) (atI (nth q 2)) (atI (nth q 3)) (atI (nth q 4)) (atI (nth q 5)) (atI (nth q 6)) (atI (nth q 7)) (atI (nth q 8)) (atI (nth q 9)) (atI (nth q 10)) (atI (nth q 11)) (atB (nth q 12)) (atB (nth q 13)) (atI (nth q 14)) (atI (nth q 15)) (atI (nth q 16)) (atI (nth q 17)) (atI (nth q 18)) (atI (nth q 19)) (atI (nth q 20)) (atI (nth q 21)) (atI (nth q 22)) (atI (nth q 23)) (atI (nth q 24)) (atI (nth q 25)) (atI (nth q 26)) (atI (nth q 27)) (atI (nth q 28)) (atI (nth q 29)) (atI (nth q 30)) (atI (nth q 31)) (atI (nth q 32)) (atI (nth q 33)) (atI (nth q 34)) (atI (nth q 35)) (atI (nth q 36)) (atI (nth q 37)) (atI (nth q 38)) (atC (nth q 39))⟩]
def I_mat_Apply (F : Nat) : Nat → VS → (Exit → VS → R) → R := tabI c_mat_Apply (W_mat_Apply F)
def WJ_mat_Apply (F : Nat) : List LJ := []
def J_mat_Apply (F : Nat) : Nat → Nat → VS → (Exit → VS → R) → R := tabJ (WJ_mat_Apply F)
theorem lL_mat_Apply_0 (F : Nat) (k : Exit → VS → R) : ∀ (n : Nat) (x0 : Int) (x1 : Int) (x2 : Int) (x3 : Int) (x4 : Int) (x5 : Int) (x6 : Int) (x7 : Int) (x8 : Int) (x9 : Int) (x10 : Int) (x11 : Int) (x12 : Bool) (x13 : Bool) (x14 : Int) (x15 : Int) (x16 : Int) (x17 : Int) (x18 : Int) (x19 : Int) (x20 : Int) (x21 : Int) (x22 : Int) (x23 : Int) (x24 : Int) (x25 : Int) (x26 : Int) (x27 : Int) (x28 : Int) (x29 : Int) (x30 : Int) (x31 : Int) (x32 : Int) (x33 : Int) (x34 : Int) (x35 : Int) (x36 : Int) (x37 : Int) (x38 : Int) (x39 : List VV), iterC (codeL PP (S_mat_Apply F) c_mat_Apply (I_mat_Apply F) (J_mat_Apply F) (loopAt PP 53 0) 0) (headOf c_mat_Apply 0) k n (fS T_mat_Apply_0 [.i x0, .i x1, .i x2, .i x3, .i x4, .i x5, .i x6, .i x7, .i x8, .i x9, .i x10, .i x11, .b x12, .b x13, .i x14, .i x15, .i x16, .i x17, .i x18, .i x19, .i x20, .i x21, .i x22, .i x23, .i x24, .i x25, .i x26, .i x27, .i x28, .i x29, .i x30, .i x31, .i x32, .i x33, .i x34, .i x35, .i x36, .i x37, .i x38, .c x39]) = L_mat_Apply_0 F (fun (z0 : Int) (z1 : Int) (z2 : Int) (z3 : Int) (z4 : Int) (z5 : Int) (z6 : Int) (z7 : Int) (z8 : Int) (z9 : Int) (z10 : Int) (z11 : Int) (z12 : Bool) (z13 : Bool) (z14 : Int) (z15 : Int) (z16 : Int) (z17 : Int) (z18 : Int) (z19 : Int) (z20 : Int) (z21 : Int) (z22 : Int) (z23 : Int) (z24 : Int) (z25 : Int) (z26 : Int) (z27 : Int) (z28 : Int) (z29 : Int) (z30 : Int) (z31 : Int) (z32 : Int) (z33 : Int) (z34 : Int) (z35 : Int) (z36 : Int) (z37 : Int) (z38 : Int) (z39 : List VV) => k (.exit 0) (fS T_mat_Apply_0_0 [.i z0, .i z1, .i z2, .i z3, .i z4, .i z5, .i z6, .i z7, .i z8, .i z9, .i z10, .i z11, .b z12, .b z13, .i z14, .i z15, .i z16, .i z17, .i z18, .i z19, .i z20, .i z21, .i z22, .i z23, .i z24, .i z25, .i z26, .i z27, .i z28, .i z29, .i z30, .i z31, .i z32, .i z33, .i z34, .i z35, .i z36, .i z37, .i z38, .c z39])) n x0 x1 x2 x3 x4 x5 x6 x7 x8 x9 x10 x11 x12 x13 x14 x15 x16 x17 x18 x19 x20 x21 x22 x23 x24 x25 x26 x27 x28 x29 x30 x31 x32 x33 x34 x35 x36 x37 x38 x39
  | 0, _, _, _, _, _, _, _, _, _, _, _, _, _, _, _, _, _, _, _, _, _, _, _, _, _, _, _, _, _, _, _, _, _, _, _, _, _, _, _, _ => rfl
  | n + 1, x0, x1, x2, x3, x4, x5, x6, x7, x8, x9, x10, x11, x12, x13, x14, x15, x16, x17, x18, x19, x20, x21, x22, x23, x24, x25, x26, x27, x28, x29, x30, x31, x32, x33, x34, x35, x36, x37, x38, x39 => by
    have h0 : ∀ (ok_vec_Dot : Nat → Int → Int → Int → Int → Int → Int → Bool) (o_vec_Dot_0 : Nat → Int → Int → Int → Int → Int → Int → Int) (o_vec_Dot_1 : Nat → Int → Int → Int → Int → Int → Int → Bool) (L_mat_Apply_0 : Nat → (Int → Int → Int → Int → Int → Int → Int → Int → Int → Int → Int → Int → Bool → Bool → Int → Int → Int → Int → Int → Int → Int → Int → Int → Int → Int → Int → Int → Int → Int → Int → Int → Int → Int → Int → Int → Int → Int → Int → Int → List VV → R) → Nat → Int → Int → Int → Int → Int → Int → Int → Int → Int → Int → Int → Int → Bool → Bool → Int → Int → Int → Int → Int → Int → Int → Int → Int → Int → Int → Int → Int → Int → Int → Int → Int → Int → Int → Int → Int → Int → Int → Int → Int → List VV → R), iterC (codeL PP (words [(47, spec ti_vec_Dot to_vec_Dot (fun q => (ok_vec_Dot F (atI (nth q 0)) (atI (nth q 1)) (atI (nth q 2)) (atI (nth q 3)) (atI (nth q 4)) (atI (nth q 5)))) (fun q => [.i (o_vec_Dot_0 F (atI (nth q 0)) (atI (nth q 1)) (atI (nth q 2)) (atI (nth q 3)) (atI (nth q 4)) (atI (nth q 5))), .b (o_vec_Dot_1 F (atI (nth q 0)) (atI (nth q 1)) (atI (nth q 2)) (atI (nth q 3)) (atI (nth q 4)) (atI (nth q 5)))]))]) c_mat_Apply (tabI c_mat_Apply [⟨0, T_mat_Apply_0, fun k q => L_mat_Apply_0 F (fun (z0 : Int) (z1 : Int) (z2 : Int) (z3 : Int) (z4 : Int) (z5 : Int) (z6 : Int) (z7 : Int) (z8 : Int) (z9 : Int) (z10 : Int) (z11 : Int) (z12 : Bool) (z13 : Bool) (z14 : Int) (z15 : Int) (z16 : Int) (z17 : Int) (z18 : Int) (z19 : Int) (z20 : Int) (z21 : Int) (z22 : Int) (z23 : Int) (z24 : Int) (z25 : Int) (z26 : Int) (z27 : Int) (z28 : Int) (z29 : Int) (z30 : Int) (z31 : Int) (z32 : Int) (z33 : Int) (z34 : Int) (z35 : Int) (z36 : Int) (z37 : Int) (z38 : Int) (z39 : List VV) => k (.exit 0) (fS T_mat_Apply_0_0 [.i z0, .i z1, .i z2, .i z3, .i z4, .i z5, .i z6, .i z7, .i z8, .i z9, .i z10, .i z11, .b z12, .b z13, .i z14, .i z15, .i z16, .i z17, .i z18, .i z19, .i z20, .i z21, .i z22, .i z23, .i z24, .i z25, .i z26, .i z27, .i z28, .i z29, .i z30, .i z31, .i z32, .i z33, .i z34, .i z35, .i z36, .i z37, .i z38, .c z39])) F (atI (nth q 0)) (atI (nth q 1)) (atI (nth q 2)) (atI (nth q 3)) (atI (nth q 4)) (atI (nth q 5)) (atI (nth q 6)) (atI (nth q 7)) (atI (nth q 8)) (atI (nth q 9)) (atI (nth q 10)) (atI (nth q 11)) (atB (nth q 12)) (atB (nth q 13)) (atI (nth q 14)) (atI (nth q 15)) (atI (nth q 16)) (atI (nth q 17)) (atI (nth q 18)) (atI (nth q 19)) (atI (nth q 20)) (atI (nth q 21)) (atI (nth q 22)) (atI (nth q 23)) (atI (nth q 24)) (atI (nth q 25)) (atI (nth q 26)) (atI (nth q 27)) (atI (nth q 28)) (atI (nth q 29)) (atI (nth q 30)) (atI (nth q 31)) (atI (nth q 32)) (atI (nth q 33)) (atI (nth q 34)) (atI (nth q 35)) (atI (nth q 36)) (atI (nth q 37)) (atI (nth q 38)) (atC (nth q 39))⟩]) (tabJ []) (loopAt PP 53 0) 0) (headOf c_mat_Apply 0) k (n + 1) (fS T_mat_Apply_0 [.i x0, .i x1, .i x2, .i x3, .i x4, .i x5, .i x6, .i x7, .i x8, .i x9, .i x10, .i x11, .b x12, .b x13, .i x14, .i x15, .i x16, .i x17, .i x18, .i x19, .i x20, .i x21, .i x22, .i x23, .i x24, .i x25, .i x26, .i x27, .i x28, .i x29, .i x30, .i x31, .i x32, .i x33, .i x34, .i x35, .i x36, .i x37, .i x38, .c x39]) = (fun (rc : Int → Int → Int → Int → Int → Int → Int → Int → Int → Int → Int → Int → Bool → Bool → Int → Int → Int → Int → Int → Int → Int → Int → Int → Int → Int → Int → Int → Int → Int → Int → Int → Int → Int → Int → Int → Int → Int → Int → Int → List VV → R) (ex0 : Int → Int → Int → Int → Int → Int → Int → Int → Int → Int → Int → Int → Bool → Bool → Int → Int → Int → Int → Int → Int → Int → Int → Int → Int → Int → Int → Int → Int → Int → Int → Int → Int → Int → Int → Int → Int → Int → Int → Int → List VV → R) (x0 : Int) (x1 : Int) (x2 : Int) (x3 : Int) (x4 : Int) (x5 : Int) (x6 : Int) (x7 : Int) (x8 : Int) (x9 : Int) (x10 : Int) (x11 : Int) (x12 : Bool) (x13 : Bool) (x14 : Int) (x15 : Int) (x16 : Int) (x17 : Int) (x18 : Int) (x19 : Int) (x20 : Int) (x21 : Int) (x22 : Int) (x23 : Int) (x24 : Int) (x25 : Int) (x26 : Int) (x27 : Int) (x28 : Int) (x29 : Int) (x30 : Int) (x31 : Int) (x32 : Int) (x33 : Int) (x34 : Int) (x35 : Int) (x36 : Int) (x37 : Int) (x38 : Int) (x39 : List VV) => (
  bif ((decide (x23 < 3))) then (
    bif (((decide (0 ≤ x23)) && (decide (x23 < 3))) && ((isI .i64 [.v (.int .i64 x14), .v (.int .i64 x15), .v (.int .i64 x16), .v (.int .i64 x17), .v (.int .i64 x18), .v (.int .i64 x19), .v (.int .i64 x20), .v (.int .i64 x21), .v (.int .i64 x22)][((Int.toNat x23) * 3)]?) && ((isI .i64 [.v (.int .i64 x14), .v (.int .i64 x15), .v (.int .i64 x16), .v (.int .i64 x17), .v (.int .i64 x18), .v (.int .i64 x19), .v (.int .i64 x20), .v (.int .i64 x21), .v (.int .i64 x22)][(((Int.toNat x23) * 3) + 1)]?) && ((isI .i64 [.v (.int .i64 x14), .v (.int .i64 x15), .v (.int .i64 x16), .v (.int .i64 x17), .v (.int .i64 x18), .v (.int .i64 x19), .v (.int .i64 x20), .v (.int .i64 x21), .v (.int .i64 x22)][((((Int.toNat x23) * 3) + 1) + 1)]?) && true)))) then (
      let v2572 : Int := (iv [.v (.int .i64 x14), .v (.int .i64 x15), .v (.int .i64 x16), .v (.int .i64 x17), .v (.int .i64 x18), .v (.int .i64 x19), .v (.int .i64 x20), .v (.int .i64 x21), .v (.int .i64 x22)][((Int.toNat x23) * 3)]?)
      let v2573 : Int := (iv [.v (.int .i64 x14), .v (.int .i64 x15), .v (.int .i64 x16), .v (.int .i64 x17), .v (.int .i64 x18), .v (.int .i64 x19), .v (.int .i64 x20), .v (.int .i64 x21), .v (.int .i64 x22)][(((Int.toNat x23) * 3) + 1)]?)
      let v2574 : Int := (iv [.v (.int .i64 x14), .v (.int .i64 x15), .v (.int .i64 x16), .v (.int .i64 x17), .v (.int .i64 x18), .v (.int .i64 x19), .v (.int .i64 x20), .v (.int .i64 x21), .v (.int .i64 x22)][((((Int.toNat x23) * 3) + 1) + 1)]?)
      bif (ok_vec_Dot F v2572 v2573 v2574 x33 x34 x35) then (
        let v2575 : Int := (o_vec_Dot_0 F v2572 v2573 v2574 x33 x34 x35)
        bif x13 then (
          bif ((decide (0 ≤ x23)) && (decide (x23 < 3))) then (
            let v2577 : Nat := (0 + ((Int.toNat x23) * 1))
            bif (decide ((v2577 + 1) ≤ x39.length)) then (
              rc x0 x1 x2 x3 x4 x5 x6 x7 x8 x9 x10 x11 x12 true x14 x15 x16 x17 x18 x19 x20 x21 x22 ((IntKind.wrap .i64 (x23 + 1))) x24 x25 x26 x27 x28 x29 x30 x31 x32 x33 x34 x35 x36 x37 x38 ((x39.take v2577 ++ [.v (.int .i64 v2575)] ++ x39.drop (v2577 + 1))))
            else (
              none))
          else (
            none))
        else (
          bif ((decide (0 ≤ x23)) && (decide (x23 < 3))) then (
            let v2580 : Nat := (0 + ((Int.toNat x23) * 1))
            bif (decide ((v2580 + 1) ≤ x39.length)) then (
              rc x0 x1 x2 x3 x4 x5 x6 x7 x8 x9 x10 x11 x12 ((o_vec_Dot_1 F v2572 v2573 v2574 x33 x34 x35)) x14 x15 x16 x17 x18 x19 x20 x21 x22 ((IntKind.wrap .i64 (x23 + 1))) x24 x25 x26 x27 x28 x29 x30 x31 x32 x33 x34 x35 x36 x37 x38 ((x39.take v2580 ++ [.v (.int .i64 v2575)] ++ x39.drop (v2580 + 1))))
            else (
              none))
          else (
            none)))
      else (
        none))
    else (
      none))
  else (
    ex0 x0 x1 x2 x3 x4 x5 x6 x7 x8 x9 x10 x11 x12 x13 x14 x15 x16 x17 x18 x19 x20 x21 x22 x23 x24 x25 x26 x27 x28 x29 x30 x31 x32 x33 x34 x35 x36 x37 x38 x39) : R)) (fun (y0 : Int) (y1 : Int) (y2 : Int) (y3 : Int) (y4 : Int) (y5 : Int) (y6 : Int) (y7 : Int) (y8 : Int) (y9 : Int) (y10 : Int) (y11 : Int) (y12 : Bool) (y13 : Bool) (y14 : Int) (y15 : Int) (y16 : Int) (y17 : Int) (y18 : Int) (y19 : Int) (y20 : Int) (y21 : Int) (y22 : Int) (y23 : Int) (y24 : Int) (y25 : Int) (y26 : Int) (y27 : Int) (y28 : Int) (y29 : Int) (y30 : Int) (y31 : Int) (y32 : Int) (y33 : Int) (y34 : Int) (y35 : Int) (y36 : Int) (y37 : Int) (y38 : Int) (y39 : List VV) => iterC (codeL PP (words [(47, spec ti_vec_Dot to_vec_Dot (fun q => (ok_vec_Dot F (atI (nth q 0)) (atI (nth q 1)) (atI (nth q 2)) (atI (nth q 3)) (atI (nth q 4)) (atI (nth q 5)))) (fun q => [.i (o_vec_Dot_0 F (atI (nth q 0)) (atI (nth q 1)) (atI (nth q 2)) (atI (nth q 3)) (atI (nth q 4)) (atI (nth q 5))), .b (o_vec_Dot_1 F (atI (nth q 0)) (atI (nth q 1)) (atI (nth q 2)) (atI (nth q 3)) (atI (nth q 4)) (atI (nth q 5)))]))]) c_mat_Apply (tabI c_mat_Apply [⟨0, T_mat_Apply_0, fun k q => L_mat_Apply_0 F (fun (z0 : Int) (z1 : Int) (z2 : Int) (z3 : Int) (z4 : Int) (z5 : Int) (z6 : Int) (z7 : Int) (z8 : Int) (z9 : Int) (z10 : Int) (z11 : Int) (z12 : Bool) (z13 : Bool) (z14 : Int) (z15 : Int) (z16 : Int) (z17 : Int) (z18 : Int) (z19 : Int) (z20 : Int) (z21 : Int) (z22 : Int) (z23 : Int) (z24 : Int) (z25 : Int) (z26 : Int) (z27 : Int) (z28 : Int) (z29 : Int) (z30 : Int) (z31 : Int) (z32 : Int) (z33 : Int) (z34 : Int) (z35 : Int) (z36 : Int) (z37 : Int) (z38 : Int) (z39 : List VV) => k (.exit 0) (fS T_mat_Apply_0_0 [.i z0, .i z1, .i z2, .i z3, .i z4, .i z5, .i z6, .i z7, .i z8, .i z9, .i z10, .i z11, .b z12, .b z13, .i z14, .i z15, .i z16, .i z17, .i z18, .i z19, .i z20, .i z21, .i z22, .i z23, .i z24, .i z25, .i z26, .i z27, .i z28, .i z29, .i z30, .i z31, .i z32, .i z33, .i z34, .i z35, .i z36, .i z37, .i z38, .c z39])) F (atI (nth q 0)) (atI (nth q 1)) (atI (nth q 2)) (atI (nth q 3)) (atI (nth q 4)) (atI (nth q 5)) (atI (nth q 6)) (atI (nth q 7)) (atI (nth q 8)) (atI (nth q 9)) (atI (nth q 10)) (atI (nth q 11)) (atB (nth q 12)) (atB (nth q 13)) (atI (nth q 14)) (atI (nth q 15)) (atI (nth q 16)) (atI (nth q 17)) (atI (nth q 18)) (atI (nth q 19)) (atI (nth q 20)) (atI (nth q 21)) (atI (nth q 22)) (atI (nth q 23)) (atI (nth q 24)) (atI (nth q 25)) (atI (nth q 26)) (atI (nth q 27)) (atI (nth q 28)) (atI (nth q 29)) (atI (nth q 30)) (atI (nth q 31)) (atI (nth q 32)) (atI (nth q 33)) (atI (nth q 34)) (atI (nth q 35)) (atI (nth q 36)) (atI (nth q 37)) (atI (nth q 38)) (atC (nth q 39))⟩]) (tabJ []) (loopAt PP 53 0) 0) (headOf c_mat_Apply 0) k n (fS T_mat_Apply_0 [.i y0, .i y1, .i y2, .i y3, .i y4, .i y5, .i y6, .i y7, .i y8, .i y9, .i y10, .i y11, .b y12, .b y13, .i y14, .i y15, .i y16, .i y17, .i y18, .i y19, .i y20, .i y21, .i y22, .i y23, .i y24, .i y25, .i y26, .i y27, .i y28, .i y29, .i y30, .i y31, .i y32, .i y33, .i y34, .i y35, .i y36, .i y37, .i y38, .c y39])) (fun (z0 : Int) (z1 : Int) (z2 : Int) (z3 : Int) (z4 : Int) (z5 : Int) (z6 : Int) (z7 : Int) (z8 : Int) (z9 : Int) (z10 : Int) (z11 : Int) (z12 : Bool) (z13 : Bool) (z14 : Int) (z15 : Int) (z16 : Int) (z17 : Int) (z18 : Int) (z19 : Int) (z20 : Int) (z21 : Int) (z22 : Int) (z23 : Int) (z24 : Int) (z25 : Int) (z26 : Int) (z27 : Int) (z28 : Int) (z29 : Int) (z30 : Int) (z31 : Int) (z32 : Int) (z33 : Int) (z34 : Int) (z35 : Int) (z36 : Int) (z37 : Int) (z38 : Int) (z39 : List VV) => k (.exit 0) (fS T_mat_Apply_0_0 [.i z0, .i z1, .i z2, .i z3, .i z4, .i z5, .i z6, .i z7, .i z8, .i z9, .i z10, .i z11, .b z12, .b z13, .i z14, .i z15, .i z16, .i z17, .i z18, .i z19, .i z20, .i z21, .i z22, .i z23, .i z24, .i z25, .i z26, .i z27, .i z28, .i z29, .i z30, .i z31, .i z32, .i z33, .i z34, .i z35, .i z36, .i z37, .i z38, .c z39])) x0 x1 x2 x3 x4 x5 x6 x7 x8 x9 x10 x11 x12 x13 x14 x15 x16 x17 x18 x19 x20 x21 x22 x23 x24 x25 x26 x27 x28 x29 x30 x31 x32 x33 x34 x35 x36 x37 x38 x39 := by
      intros
      kernel_rfl
    have h : iterC (codeL PP (S_mat_Apply F) c_mat_Apply (I_mat_Apply F) (J_mat_Apply F) (loopAt PP 53 0) 0) (headOf c_mat_Apply 0) k (n + 1) (fS T_mat_Apply_0 [.i x0, .i x1, .i x2, .i x3, .i x4, .i x5, .i x6, .i x7, .i x8, .i x9, .i x10, .i x11, .b x12, .b x13, .i x14, .i x15, .i x16, .i x17, .i x18, .i x19, .i x20, .i x21, .i x22, .i x23, .i x24, .i x25, .i x26, .i x27, .i x28, .i x29, .i x30, .i x31, .i x32, .i x33, .i x34, .i x35, .i x36, .i x37, .i x38, .c x39]) = B_mat_Apply_0 F (fun (y0 : Int) (y1 : Int) (y2 : Int) (y3 : Int) (y4 : Int) (y5 : Int) (y6 : Int) (y7 : Int) (y8 : Int) (y9 : Int) (y10 : Int) (y11 : Int) (y12 : Bool) (y13 : Bool) (y14 : Int) (y15 : Int) (y16 : Int) (y17 : Int) (y18 : Int) (y19 : Int) (y20 : Int) (y21 : Int) (y22 : Int) (y23 : Int) (y24 : Int) (y25 : Int) (y26 : Int) (y27 : Int) (y28 : Int) (y29 : Int) (y30 : Int) (y31 : Int) (y32 : Int) (y33 : Int) (y34 : Int) (y35 : Int) (y36 : Int) (y37 : Int) (y38 : Int) (y39 : List VV) => iterC (codeL PP (S_mat_Apply F) c_mat_Apply (I_mat_Apply F) (J_mat_Apply F) (loopAt PP 53 0) 0) (headOf c_mat_Apply 0) k n (fS T_mat_Apply_0 [.i y0, .i y1, .i y2, .i y3, .i y4, .i y5, .i y6, .i y7, .i y8, .i y9, .i y10, .i y11, .b y12, .b y13, .i y14, .i y15, .i y16, .i y17, .i y18, .i y19, .i y20, .i y21, .i y22, .i y23, .i y24, .i y25, .i y26, .i y27, .i y28, .i y29, .i y30, .i y31, .i y32, .i y33, .i y34, .i y35, .i y36, .i y37, .i y38, .c y39])) (fun (z0 : Int) (z1 : Int) (z2 : Int) (z3 : Int) (z4 : Int) (z5 : Int) (z6 : Int) (z7 : Int) (z8 : Int) (z9 : Int) (z10 : Int) (z11 : Int) (z12 : Bool) (z13 : Bool) (z14 : Int) (z15 : Int) (z16 : Int) (z17 : Int) (z18 : Int) (z19 : Int) (z20 : Int) (z21 : Int) (z22 : Int) (z23 : Int) (z24 : Int) (z25 : Int) (z26 : Int) (z27 : Int) (z28 : Int) (z29 : Int) (z30 : Int) (z31 : Int) (z32 : Int) (z33 : Int) (z34 : Int) (z35 : Int) (z36 : Int) (z37 : Int) (z38 : Int) (z39 : List VV) => k (.exit 0) (fS T_mat_Apply_0_0 [.i z0, .i z1, .i z2, .i z3, .i z4, .i z5, .i z6, .i z7, .i z8, .i z9, .i z10, .i z11, .b z12, .b z13, .i z14, .i z15, .i z16, .i z17, .i z18, .i z19, .i z20, .i z21, .i z22, .i z23, .i z24, .i z25, .i z26, .i z27, .i z28, .i z29, .i z30, .i z31, .i z32, .i z33, .i z34, .i z35, .i z36, .i z37, .i z38, .c z39])) x0 x1 x2 x3 x4 x5 x6 x7 x8 x9 x10 x11 x12 x13 x14 x15 x16 x17 x18 x19 x20 x21 x22 x23 x24 x25 x26 x27 x28 x29 x30 x31 x32 x33 x34 x35 x36 x37 x38 x39 := (h0 ok_vec_Dot o_vec_Dot_0 o_vec_Dot_1 L_mat_Apply_0).trans (by kernel_rfl)
    rw [h]
    simp only [lL_mat_Apply_0 F k n]
    rfl
def f_mat_Apply (F : Nat) (a0 : Int) (a1 : Int) (a2 : Int) (a3 : Int) (a4 : Int) (a5 : Int) (a6 : Int) (a7 : Int) (a8 : Int) (a9 : Int) (a10 : Int) (a11 : Int) : R :=
  L_mat_Apply_0 F (fun (v2583 : Int) (v2584 : Int) (v2585 : Int) (v2586 : Int) (v2587 : Int) (v2588 : Int) (v2589 : Int) (v2590 : Int) (v2591 : Int) (v2592 : Int) (v2593 : Int) (v2594 : Int) (v2595 : Bool) (v2596 : Bool) (v2597 : Int) (v2598 : Int) (v2599 : Int) (v2600 : Int) (v2601 : Int) (v2602 : Int) (v2603 : Int) (v2604 : Int) (v2605 : Int) (v2606 : Int) (v2607 : Int) (v2608 : Int) (v2609 : Int) (v2610 : Int) (v2611 : Int) (v2612 : Int) (v2613 : Int) (v2614 : Int) (v2615 : Int) (v2616 : Int) (v2617 : Int) (v2618 : Int) (v2619 : Int) (v2620 : Int) (v2621 : Int) (v2622 : List VV) =>
    bif ((isI .i64 v2622[0]?) && ((isI .i64 v2622[1]?) && ((isI .i64 v2622[2]?) && true))) then (
      some (.v (.tuple #[.agg #[.int .i64 ((iv v2622[0]?)), .int .i64 ((iv v2622[1]?)), .int .i64 ((iv v2622[2]?))], .bool v2596])))
    else (
      none)) F a0 a1 a2 a3 a4 a5 a6 a7 a8 a9 a10 a11 false false a0 a1 a2 a3 a4 a5 a6 a7 a8 0 a0 a1 a2 a3 a4 a5 a6 a7 a8 a9 a10 a11 0 0 0 ([.v (.int .i64 0), .v (.int .i64 0), .v (.int .i64 0)])
theorem e_mat_Apply (F : Nat) (a0 : Int) (a1 : Int) (a2 : Int) (a3 : Int) (a4 : Int) (a5 : Int) (a6 : Int) (a7 : Int) (a8 : Int) (a9 : Int) (a10 : Int) (a11 : Int) : funL PP (S_mat_Apply F) c_mat_Apply (I_mat_Apply F) (J_mat_Apply F) 53 (fTs ti_mat_Apply [.i a0, .i a1, .i a2, .i a3, .i a4, .i a5, .i a6, .i a7, .i a8, .i a9, .i a10, .i a11]).1 = f_mat_Apply F a0 a1 a2 a3 a4 a5 a6 a7 a8 a9 a10 a11 := by
  have h : ∀ (ok_vec_Dot : Nat → Int → Int → Int → Int → Int → Int → Bool) (o_vec_Dot_0 : Nat → Int → Int → Int → Int → Int → Int → Int) (o_vec_Dot_1 : Nat → Int → Int → Int → Int → Int → Int → Bool) (L_mat_Apply_0 : Nat → (Int → Int → Int → Int → Int → Int → Int → Int → Int → Int → Int → Int → Bool → Bool → Int → Int → Int → Int → Int → Int → Int → Int → Int → Int → Int → Int → Int → Int → Int → Int → Int → Int → Int → Int → Int → Int → Int → Int → Int → List VV → R) → Nat → Int → Int → Int → Int → Int → Int → Int → Int → Int → Int → Int → Int → Bool → Bool → Int → Int → Int → Int → Int → Int → Int → Int → Int → Int → Int → Int → Int → Int → Int → Int → Int → Int → Int → Int → Int → Int → Int → Int → Int → List VV → R), funL PP (words [(47, spec ti_vec_Dot to_vec_Dot (fun q => (ok_vec_Dot F (atI (nth q 0)) (atI (nth q 1)) (atI (nth q 2)) (atI (nth q 3)) (atI (nth q 4)) (atI (nth q 5)))) (fun q => [.i (o_vec_Dot_0 F (atI (nth q 0)) (atI (nth q 1)) (atI (nth q 2)) (atI (nth q 3)) (atI (nth q 4)) (atI (nth q 5))), .b (o_vec_Dot_1 F (atI (nth q 0)) (atI (nth q 1)) (atI (nth q 2)) (atI (nth q 3)) (atI (nth q 4)) (atI (nth q 5)))]))]) c_mat_Apply (tabI c_mat_Apply [⟨0, T_mat_Apply_0, fun k q => L_mat_Apply_0 F (fun (z0 : Int) (z1 : Int) (z2 : Int) (z3 : Int) (z4 : Int) (z5 : Int) (z6 : Int) (z7 : Int) (z8 : Int) (z9 : Int) (z10 : Int) (z11 : Int) (z12 : Bool) (z13 : Bool) (z14 : Int) (z15 : Int) (z16 : Int) (z17 : Int) (z18 : Int) (z19 : Int) (z20 : Int) (z21 : Int) (z22 : Int) (z23 : Int) (z24 : Int) (z25 : Int) (z26 : Int) (z27 : Int) (z28 : Int) (z29 : Int) (z30 : Int) (z31 : Int) (z32 : Int) (z33 : Int) (z34 : Int) (z35 : Int) (z36 : Int) (z37 : Int) (z38 : Int) (z39 : List VV) => k (.exit 0) (fS T_mat_Apply_0_0 [.i z0, .i z1, .i z2, .i z3, .i z4, .i z5, .i z6, .i z7, .i z8, .i z9, .i z10, .i z11, .b z12, .b z13, .i z14, .i z15, .i z16, .i z17, .i z18, .i z19, .i z20, .i z21, .i z22, .i z23, .i z24, .i z25, .i z26, .i z27, .i z28, .i z29, .i z30, .i z31, .i z32, .i z33, .i z34, .i z35, .i z36, .i z37, .i z38, .c z39])) F (atI (nth q 0)) (atI (nth q 1)) (atI (nth q 2)) (atI (nth q 3)) (atI (nth q 4)) (atI (nth q 5)) (atI (nth q 6)) (atI (nth q 7)) (atI (nth q 8)) (atI (nth q 9)) (atI (nth q 10)) (atI (nth q 11)) (atB (nth q 12)) (atB (nth q 13)) (atI (nth q 14)) (atI (nth q 15)) (atI (nth q 16)) (atI (nth q 17)) (atI (nth q 18)) (atI (nth q 19)) (atI (nth q 20)) (atI (nth q 21)) (atI (nth q 22)) (atI (nth q 23)) (atI (nth q 24)) (atI (nth q 25)) (atI (nth q 26)) (atI (nth q 27)) (atI (nth q 28)) (atI (nth q 29)) (atI (nth q 30)) (atI (nth q 31)) (atI (nth q 32)) (atI (nth q 33)) (atI (nth q 34)) (atI (nth q 35)) (atI (nth q 36)) (atI (nth q 37)) (atI (nth q 38)) (atC (nth q 39))⟩]) (tabJ []) 53 (fTs ti_mat_Apply [.i a0, .i a1, .i a2, .i a3, .i a4, .i a5, .i a6, .i a7, .i a8, .i a9, .i a10, .i a11]).1 = (
  L_mat_Apply_0 F (fun (v2583 : Int) (v2584 : Int) (v2585 : Int) (v2586 : Int) (v2587 : Int) (v2588 : Int) (v2589 : Int) (v2590 : Int) (v2591 : Int) (v2592 : Int) (v2593 : Int) (v2594 : Int) (v2595 : Bool) (v2596 : Bool) (v2597 : Int) (v2598 : Int) (v2599 : Int) (v2600 : Int) (v2601 : Int) (v2602 : Int) (v2603 : Int) (v2604 : Int) (v2605 : Int) (v2606 : Int) (v2607 : Int) (v2608 : Int) (v2609 : Int) (v2610 : Int) (v2611 : Int) (v2612 : Int) (v2613 : Int) (v2614 : Int) (v2615 : Int) (v2616 : Int) (v2617 : Int) (v2618 : Int) (v2619 : Int) (v2620 : Int) (v2621 : Int) (v2622 : List VV) =>
    bif ((isI .i64 v2622[0]?) && ((isI .i64 v2622[1]?) && ((isI .i64 v2622[2]?) && true))) then (
      some (.v (.tuple #[.agg #[.int .i64 ((iv v2622[0]?)), .int .i64 ((iv v2622[1]?)), .int .i64 ((iv v2622[2]?))], .bool v2596])))
    else (
      none)) F a0 a1 a2 a3 a4 a5 a6 a7 a8 a9 a10 a11 false false a0 a1 a2 a3 a4 a5 a6 a7 a8 0 a0 a1 a2 a3 a4 a5 a6 a7 a8 a9 a10 a11 0 0 0 ([.v (.int .i64 0), .v (.int .i64 0), .v (.int .i64 0)]) : R) := by
    intros
    kernel_rfl
  exact (h ok_vec_Dot o_vec_Dot_0 o_vec_Dot_1 L_mat_Apply_0).trans (by kernel_rfl)
def ok_mat_Apply (F : Nat) (a0 : Int) (a1 : Int) (a2 : Int) (a3 : Int) (a4 : Int) (a5 : Int) (a6 : Int) (a7 : Int) (a8 : Int) (a9 : Int) (a10 : Int) (a11 : Int) : Bool := okT to_mat_Apply (f_mat_Apply F a0 a1 a2 a3 a4 a5 a6 a7 a8 a9 a10 a11)
def o_mat_Apply_0 (F : Nat) (a0 : Int) (a1 : Int) (a2 : Int) (a3 : Int) (a4 : Int) (a5 : Int) (a6 : Int) (a7 : Int) (a8 : Int) (a9 : Int) (a10 : Int) (a11 : Int) : Int := atI (nth (outT to_mat_Apply (f_mat_Apply F a0 a1 a2 a3 a4 a5 a6 a7 a8 a9 a10 a11)) 0)
def o_mat_Apply_1 (F : Nat) (a0 : Int) (a1 : Int) (a2 : Int) (a3 : Int) (a4 : Int) (a5 : Int) (a6 : Int) (a7 : Int) (a8 : Int) (a9 : Int) (a10 : Int) (a11 : Int) : Int := atI (nth (outT to_mat_Apply (f_mat_Apply F a0 a1 a2 a3 a4 a5 a6 a7 a8 a9 a10 a11)) 1)
def o_mat_Apply_2 (F : Nat) (a0 : Int) (a1 : Int) (a2 : Int) (a3 : Int) (a4 : Int) (a5 : Int) (a6 : Int) (a7 : Int) (a8 : Int) (a9 : Int) (a10 : Int) (a11 : Int) : Int := atI (nth (outT to_mat_Apply (f_mat_Apply F a0 a1 a2 a3 a4 a5 a6 a7 a8 a9 a10 a11)) 2)
def o_mat_Apply_3 (F : Nat) (a0 : Int) (a1 : Int) (a2 : Int) (a3 : Int) (a4 : Int) (a5 : Int) (a6 : Int) (a7 : Int) (a8 : Int) (a9 : Int) (a10 : Int) (a11 : Int) : Bool := atB (nth (outT to_mat_Apply (f_mat_Apply F a0 a1 a2 a3 a4 a5 a6 a7 a8 a9 a10 a11)) 3)
theorem k_mat_Apply (F : Nat) (a0 : Int) (a1 : Int) (a2 : Int) (a3 : Int) (a4 : Int) (a5 : Int) (a6 : Int) (a7 : Int) (a8 : Int) (a9 : Int) (a10 : Int) (a11 : Int) {z0 : Int} {z1 : Int} {z2 : Int} {z3 : Bool} (h : f_mat_Apply F a0 a1 a2 a3 a4 a5 a6 a7 a8 a9 a10 a11 = some (.v (.tuple #[.agg #[.int .i64 z0, .int .i64 z1, .int .i64 z2], .bool z3]))) : ok_mat_Apply F a0 a1 a2 a3 a4 a5 a6 a7 a8 a9 a10 a11 = true ∧ o_mat_Apply_0 F a0 a1 a2 a3 a4 a5 a6 a7 a8 a9 a10 a11 = z0 ∧ o_mat_Apply_1 F a0 a1 a2 a3 a4 a5 a6 a7 a8 a9 a10 a11 = z1 ∧ o_mat_Apply_2 F a0 a1 a2 a3 a4 a5 a6 a7 a8 a9 a10 a11 = z2 ∧ o_mat_Apply_3 F a0 a1 a2 a3 a4 a5 a6 a7 a8 a9 a10 a11 = z3 := by
  refine ⟨?_, ?_, ?_, ?_, ?_⟩
  · unfold ok_mat_Apply; rw [h]; kernel_rfl
  · unfold o_mat_Apply_0; rw [h]; kernel_rfl
  · unfold o_mat_Apply_1; rw [h]; kernel_rfl
  · unfold o_mat_Apply_2; rw [h]; kernel_rfl
  · unfold o_mat_Apply_3; rw [h]; kernel_rfl
def s_mat_Apply (F : Nat) : List VV → Option (Bool × VV) := spec ti_mat_Apply to_mat_Apply (fun q => (ok_mat_Apply F (atI (nth q 0)) (atI (nth q 1)) (atI (nth q 2)) (atI (nth q 3)) (atI (nth q 4)) (atI (nth q 5)) (atI (nth q 6)) (atI (nth q 7)) (atI (nth q 8)) (atI (nth q 9)) (atI (nth q 10)) (atI (nth q 11)))) (fun q => [.i (o_mat_Apply_0 F (atI (nth q 0)) (atI (nth q 1)) (atI (nth q 2)) (atI (nth q 3)) (atI (nth q 4)) (atI (nth q 5)) (atI (nth q 6)) (atI (nth q 7)) (atI (nth q 8)) (atI (nth q 9)) (atI (nth q 10)) (atI (nth q 11))), .i (o_mat_Apply_1 F (atI (nth q 0)) (atI (nth q 1)) (atI (nth q 2)) (atI (nth q 3)) (atI (nth q 4)) (atI (nth q 5)) (atI (nth q 6)) (atI (nth q 7)) (atI (nth q 8)) (atI (nth q 9)) (atI (nth q 10)) (atI (nth q 11))), .i (o_mat_Apply_2 F (atI (nth q 0)) (atI (nth q 1)) (atI (nth q 2)) (atI (nth q 3)) (atI (nth q 4)) (atI (nth q 5)) (atI (nth q 6)) (atI (nth q 7)) (atI (nth q 8)) (atI (nth q 9)) (atI (nth q 10)) (atI (nth q 11))), .b (o_mat_Apply_3 F (atI (nth q 0)) (atI (nth q 1)) (atI (nth q 2)) (atI (nth q 3)) (atI (nth q 4)) (atI (nth q 5)) (atI (nth q 6)) (atI (nth q 7)) (atI (nth q 8)) (atI (nth q 9)) (atI (nth q 10)) (atI (nth q 11)))])
theorem hS_mat_Apply (F : Nat) : ∀ f, Good PP f (unS (S_mat_Apply F f)) := words_good fun p hp => by
  simp only [List.mem_cons, List.not_mem_nil, or_false] at hp
  rcases hp with rfl
  · exact g_vec_Dot F
theorem hl_mat_Apply (F : Nat) : ∀ p ∈ loopsIn PP 53, LoopOK PP (S_mat_Apply F) c_mat_Apply F (I_mat_Apply F) (J_mat_Apply F) p :=
  loops_of [(0, loopAt PP 53 0)] (by kernel_rfl) (all_cons
    (loop_ok (W_mat_Apply F) rfl (tab_cons (fun _ k q => Le.ofEq ((lL_mat_Apply_0 F k F (atI (nth q 0)) (atI (nth q 1)) (atI (nth q 2)) (atI (nth q 3)) (atI (nth q 4)) (atI (nth q 5)) (atI (nth q 6)) (atI (nth q 7)) (atI (nth q 8)) (atI (nth q 9)) (atI (nth q 10)) (atI (nth q 11)) (atB (nth q 12)) (atB (nth q 13)) (atI (nth q 14)) (atI (nth q 15)) (atI (nth q 16)) (atI (nth q 17)) (atI (nth q 18)) (atI (nth q 19)) (atI (nth q 20)) (atI (nth q 21)) (atI (nth q 22)) (atI (nth q 23)) (atI (nth q 24)) (atI (nth q 25)) (atI (nth q 26)) (atI (nth q 27)) (atI (nth q 28)) (atI (nth q 29)) (atI (nth q 30)) (atI (nth q 31)) (atI (nth q 32)) (atI (nth q 33)) (atI (nth q 34)) (atI (nth q 35)) (atI (nth q 36)) (atI (nth q 37)) (atI (nth q 38)) (atC (nth q 39))).symm.trans (congrArg (iterC (codeL PP (S_mat_Apply F) c_mat_Apply (I_mat_Apply F) (J_mat_Apply F) (loopAt PP 53 0) 0) (headOf c_mat_Apply 0) k F) (show fS T_mat_Apply_0 [.i (atI (nth q 0)), .i (atI (nth q 1)), .i (atI (nth q 2)), .i (atI (nth q 3)), .i (atI (nth q 4)), .i (atI (nth q 5)), .i (atI (nth q 6)), .i (atI (nth q 7)), .i (atI (nth q 8)), .i (atI (nth q 9)), .i (atI (nth q 10)), .i (atI (nth q 11)), .b (atB (nth q 12)), .b (atB (nth q 13)), .i (atI (nth q 14)), .i (atI (nth q 15)), .i (atI (nth q 16)), .i (atI (nth q 17)), .i (atI (nth q 18)), .i (atI (nth q 19)), .i (atI (nth q 20)), .i (atI (nth q 21)), .i (atI (nth q 22)), .i (atI (nth q 23)), .i (atI (nth q 24)), .i (atI (nth q 25)), .i (atI (nth q 26)), .i (atI (nth q 27)), .i (atI (nth q 28)), .i (atI (nth q 29)), .i (atI (nth q 30)), .i (atI (nth q 31)), .i (atI (nth q 32)), .i (atI (nth q 33)), .i (atI (nth q 34)), .i (atI (nth q 35)), .i (atI (nth q 36)), .i (atI (nth q 37)), .i (atI (nth q 38)), .c (atC (nth q 39))] = fS T_mat_Apply_0 q by kernel_rfl)))) tab_nil)) all_nil)
theorem hj_mat_Apply (F : Nat) : ∀ p ∈ joinsIn PP c_mat_Apply 53, JoinOK PP (S_mat_Apply F) c_mat_Apply (I_mat_Apply F) (J_mat_Apply F) p :=
  joins_of [] (by kernel_rfl) all_nil
theorem g_mat_Apply (F : Nat) : Good PP 53 (unS (s_mat_Apply F)) :=
  fun_spec (hS_mat_Apply F) (by kernel_rfl) (by kernel_rfl) (C := c_mat_Apply) (F := fun q => (f_mat_Apply F (atI (nth q 0)) (atI (nth q 1)) (atI (nth q 2)) (atI (nth q 3)) (atI (nth q 4)) (atI (nth q 5)) (atI (nth q 6)) (atI (nth q 7)) (atI (nth q 8)) (atI (nth q 9)) (atI (nth q 10)) (atI (nth q 11)))) (fun _ => F) (fun _ => I_mat_Apply F) (fun _ => J_mat_Apply F) (fun _ => hl_mat_Apply F) (fun _ => hj_mat_Apply F)
    (fun q => (congrArg (funL PP (S_mat_Apply F) c_mat_Apply (I_mat_Apply F) (J_mat_Apply F) 53) (show (fTs ti_mat_Apply q).1 = (fTs ti_mat_Apply [.i (atI (nth q 0)), .i (atI (nth q 1)), .i (atI (nth q 2)), .i (atI (nth q 3)), .i (atI (nth q 4)), .i (atI (nth q 5)), .i (atI (nth q 6)), .i (atI (nth q 7)), .i (atI (nth q 8)), .i (atI (nth q 9)), .i (atI (nth q 10)), .i (atI (nth q 11))]).1 by kernel_rfl)).trans (e_mat_Apply F (atI (nth q 0)) (atI (nth q 1)) (atI (nth q 2)) (atI (nth q 3)) (atI (nth q 4)) (atI (nth q 5)) (atI (nth q 6)) (atI (nth q 7)) (atI (nth q 8)) (atI (nth q 9)) (atI (nth q 10)) (atI (nth q 11))))
    (fun _ h => (okT_fill h).trans (congrArg some (by kernel_rfl)))

end Go.Xv
set_option linter.unusedVariables false
namespace Go.Xv
/- 46 _law07_works -/
def c_law07_works : Cfg := ⟨[0, 1, 2, 3, 4, 5, 6], [], [], []⟩
def ti_law07_works : List TV := []
def to_law07_works : TV := .v (.bool)
def S_law07_works (F : Nat) : FuncId → List VV → Option (Bool × VV) := words [(44, s_mat_About F), (53, s_mat_Apply F), (57, s_mat_Same F)]
def W_law07_works (F : Nat) : List LW := []
def I_law07_works (F : Nat) : Nat → VS → (Exit → VS → R) → R := tabI c_law07_works (W_law07_works F)
def WJ_law07_works (F : Nat) : List LJ := []
def J_law07_works (F : Nat) : Nat → Nat → VS → (Exit → VS → R) → R := tabJ (WJ_law07_works F)
def f_law07_works (F : Nat) : R :=
  bif (ok_mat_About F 2 1073741824) then (
    let v2521 : Int := (o_mat_About_0 F 2 1073741824)
    let v2522 : Int := (o_mat_About_1 F 2 1073741824)
    let v2523 : Int := (o_mat_About_2 F 2 1073741824)
    let v2524 : Int := (o_mat_About_3 F 2 1073741824)
    let v2525 : Int := (o_mat_About_4 F 2 1073741824)
    let v2526 : Int := (o_mat_About_5 F 2 1073741824)
    let v2527 : Int := (o_mat_About_6 F 2 1073741824)
    let v2528 : Int := (o_mat_About_7 F 2 1073741824)
    let v2529 : Int := (o_mat_About_8 F 2 1073741824)
    bif (ok_mat_Apply F v2521 v2522 v2523 v2524 v2525 v2526 v2527 v2528 v2529 4294967296 0 0) then (
      bif (ok_mat_Apply F v2521 v2522 v2523 v2524 v2525 v2526 v2527 v2528 v2529 0 0 4294967296) then (
        bif ((((o_mat_About_9 F 2 1073741824)) == 0)) then (
          bif ((decide (((o_mat_Apply_1 F v2521 v2522 v2523 v2524 v2525 v2526 v2527 v2528 v2529 4294967296 0 0)) > 4294966272))) then (
            bif ((!((o_mat_Apply_3 F v2521 v2522 v2523 v2524 v2525 v2526 v2527 v2528 v2529 4294967296 0 0)))) then (
              bif (((((o_mat_Apply_0 F v2521 v2522 v2523 v2524 v2525 v2526 v2527 v2528 v2529 0 0 4294967296)) == 0) && ((((o_mat_Apply_1 F v2521 v2522 v2523 v2524 v2525 v2526 v2527 v2528 v2529 0 0 4294967296)) == 0) && (((o_mat_Apply_2 F v2521 v2522 v2523 v2524 v2525 v2526 v2527 v2528 v2529 0 0 4294967296)) == 4294967296)))) then (
                bif ((!((o_mat_Apply_3 F v2521 v2522 v2523 v2524 v2525 v2526 v2527 v2528 v2529 0 0 4294967296)))) then (
                  bif (ok_mat_Same F) then (
                    some (.v (.bool ((((o_mat_Same_4 F)) == 4294967296)))))
                  else (
                    none))
                else (
                  some (.v (.bool false))))
              else (
                some (.v (.bool false))))
            else (
              some (.v (.bool false))))
          else (
            some (.v (.bool false))))
        else (
          some (.v (.bool false))))
      else (
        none))
    else (
      none))
  else (
    none)
theorem e_law07_works (F : Nat) : funL PP (S_law07_works F) c_law07_works (I_law07_works F) (J_law07_works F) 46 (fTs ti_law07_works []).1 = f_law07_works F := by
  have h : ∀ (ok_mat_About : Nat → Int → Int → Bool) (o_mat_About_0 : Nat → Int → Int → Int) (o_mat_About_1 : Nat → Int → Int → Int) (o_mat_About_2 : Nat → Int → Int → Int) (o_mat_About_3 : Nat → Int → Int → Int) (o_mat_About_4 : Nat → Int → Int → Int) (o_mat_About_5 : Nat → Int → Int → Int) (o_mat_About_6 : Nat → Int → Int → Int) (o_mat_About_7 : Nat → Int → Int → Int) (o_mat_About_8 : Nat → Int → Int → Int) (o_mat_About_9 : Nat → Int → Int → Int) (ok_mat_Apply : Nat → Int → Int → Int → Int → Int → Int → Int → Int → Int → Int → Int → Int → Bool) (o_mat_Apply_0 : Nat → Int → Int → Int → Int → Int → Int → Int → Int → Int → Int → Int → Int → Int) (o_mat_Apply_1 : Nat → Int → Int → Int → Int → Int → Int → Int → Int → Int → Int → Int → Int → Int) (o_mat_Apply_2 : Nat → Int → Int → Int → Int → Int → Int → Int → Int → Int → Int → Int → Int → Int) (o_mat_Apply_3 : Nat → Int → Int → Int → Int → Int → Int → Int → Int → Int → Int → Int → Int → Bool) (ok_mat_Same : Nat → Bool) (o_mat_Same_0 : Nat → Int) (o_mat_Same_1 : Nat → Int) (o_mat_Same_2 : Nat → Int) (o_mat_Same_3 : Nat → Int) (o_mat_Same_4 : Nat → Int) (o_mat_Same_5 : Nat → Int) (o_mat_Same_6 : Nat → Int) (o_mat_Same_7 : Nat → Int) (o_mat_Same_8 : Nat → Int), funL PP (words [(44, spec ti_mat_About to_mat_About (fun q => (ok_mat_About F (atI (nth q 0)) (atI (nth q 1)))) (fun q => [.i (o_mat_About_0 F (atI (nth q 0)) (atI (nth q 1))), .i (o_mat_About_1 F (atI (nth q 0)) (atI (nth q 1))), .i (o_mat_About_2 F (atI (nth q 0)) (atI (nth q 1))), .i (o_mat_About_3 F (atI (nth q 0)) (atI (nth q 1))), .i (o_mat_About_4 F (atI (nth q 0)) (atI (nth q 1))), .i (o_mat_About_5 F (atI (nth q 0)) (atI (nth q 1))), .i (o_mat_About_6 F (atI (nth q 0)) (atI (nth q 1))), .i (o_mat_About_7 F (atI (nth q 0)) (atI (nth q 1))), .i (o_mat_About_8 F (atI (nth q 0)) (atI (nth q 1))), .i (o_mat_About_9 F (atI (nth q 0)) (atI (nth q 1)))])), (53, spec ti_mat_Apply to_mat_Apply (fun q => (ok_mat_Apply F (atI (nth q 0)) (atI (nth q 1)) (atI (nth q 2)) (atI (nth q 3)) (atI (nth q 4)) (atI (nth q 5)) (atI (nth q 6)) (atI (nth q 7)) (atI (nth q 8)) (atI (nth q 9)) (atI (nth q 10)) (atI (nth q 11)))) (fun q => [.i (o_mat_Apply_0 F (atI (nth q 0)) (atI (nth q 1)) (atI (nth q 2)) (atI (nth q 3)) (atI (nth q 4)) (atI (nth q 5)) (atI (nth q 6)) (atI (nth q 7)) (atI (nth q 8)) (atI (nth q 9)) (atI (nth q 10)) (atI (nth q 11))), .i (o_mat_Apply_1 F (atI (nth q 0)) (atI (nth q 1)) (atI (nth q 2)) (atI (nth q 3)) (atI (nth q 4)) (atI (nth q 5)) (atI (nth q 6)) (atI (nth q 7)) (atI (nth q 8)) (atI (nth q 9)) (atI (nth q 10)) (atI (nth q 11))), .i (o_mat_Apply_2 F (atI (nth q 0)) (atI (nth q 1)) (atI (nth q 2)) (atI (nth q 3)) (atI (nth q 4)) (atI (nth q 5)) (atI (nth q 6)) (atI (nth q 7)) (atI (nth q 8)) (atI (nth q 9)) (atI (nth q 10)) (atI (nth q 11))), .b (o_mat_Apply_3 F (atI (nth q 0)) (atI (nth q 1)) (atI (nth q 2)) (atI (nth q 3)) (atI (nth q 4)) (atI (nth q 5)) (atI (nth q 6)) (atI (nth q 7)) (atI (nth q 8)) (atI (nth q 9)) (atI (nth q 10)) (atI (nth q 11)))])), (57, spec ti_mat_Same to_mat_Same (fun q => (ok_mat_Same F )) (fun q => [.i (o_mat_Same_0 F ), .i (o_mat_Same_1 F ), .i (o_mat_Same_2 F ), .i (o_mat_Same_3 F ), .i (o_mat_Same_4 F ), .i (o_mat_Same_5 F ), .i (o_mat_Same_6 F ), .i (o_mat_Same_7 F ), .i (o_mat_Same_8 F )]))]) c_law07_works (tabI c_law07_works []) (tabJ []) 46 (fTs ti_law07_works []).1 = (
  bif (ok_mat_About F 2 1073741824) then (
    let v2521 : Int := (o_mat_About_0 F 2 1073741824)
    let v2522 : Int := (o_mat_About_1 F 2 1073741824)
    let v2523 : Int := (o_mat_About_2 F 2 1073741824)
    let v2524 : Int := (o_mat_About_3 F 2 1073741824)
    let v2525 : Int := (o_mat_About_4 F 2 1073741824)
    let v2526 : Int := (o_mat_About_5 F 2 1073741824)
    let v2527 : Int := (o_mat_About_6 F 2 1073741824)
    let v2528 : Int := (o_mat_About_7 F 2 1073741824)
    let v2529 : Int := (o_mat_About_8 F 2 1073741824)
    bif (ok_mat_Apply F v2521 v2522 v2523 v2524 v2525 v2526 v2527 v2528 v2529 4294967296 0 0) then (
      bif (ok_mat_Apply F v2521 v2522 v2523 v2524 v2525 v2526 v2527 v2528 v2529 0 0 4294967296) then (
        bif ((((o_mat_About_9 F 2 1073741824)) == 0)) then (
          bif ((decide (((o_mat_Apply_1 F v2521 v2522 v2523 v2524 v2525 v2526 v2527 v2528 v2529 4294967296 0 0)) > 4294966272))) then (
            bif ((!((o_mat_Apply_3 F v2521 v2522 v2523 v2524 v2525 v2526 v2527 v2528 v2529 4294967296 0 0)))) then (
              bif (((((o_mat_Apply_0 F v2521 v2522 v2523 v2524 v2525 v2526 v2527 v2528 v2529 0 0 4294967296)) == 0) && ((((o_mat_Apply_1 F v2521 v2522 v2523 v2524 v2525 v2526 v2527 v2528 v2529 0 0 4294967296)) == 0) && (((o_mat_Apply_2 F v2521 v2522 v2523 v2524 v2525 v2526 v2527 v2528 v2529 0 0 4294967296)) == 4294967296)))) then (
                bif ((!((o_mat_Apply_3 F v2521 v2522 v2523 v2524 v2525 v2526 v2527 v2528 v2529 0 0 4294967296)))) then (
                  bif (ok_mat_Same F) then (
                    some (.v (.bool ((((o_mat_Same_4 F)) == 4294967296)))))
                  else (
                    none))
                else (
                  some (.v (.bool false))))
              else (
                some (.v (.bool false))))
            else (
              some (.v (.bool false))))
          else (
            some (.v (.bool false))))
        else (
          some (.v (.bool false))))
      else (
        none))
    else (
      none))
  else (
    none) : R) := by
    intros
    kernel_rfl
  exact (h ok_mat_About o_mat_About_0 o_mat_About_1 o_mat_About_2 o_mat_About_3 o_mat_About_4 o_mat_About_5 o_mat_About_6 o_mat_About_7 o_mat_About_8 o_mat_About_9 ok_mat_Apply o_mat_Apply_0 o_mat_Apply_1 o_mat_Apply_2 o_mat_Apply_3 ok_mat_Same o_mat_Same_0 o_mat_Same_1 o_mat_Same_2 o_mat_Same_3 o_mat_Same_4 o_mat_Same_5 o_mat_Same_6 o_mat_Same_7 o_mat_Same_8).trans (by kernel_rfl)
def ok_law07_works (F : Nat) : Bool := okT to_law07_works (f_law07_works F)
def o_law07_works_0 (F : Nat) : Bool := atB (nth (outT to_law07_works (f_law07_works F)) 0)
theorem k_law07_works (F : Nat) {z0 : Bool} (h : f_law07_works F = some (.v (.bool z0))) : ok_law07_works F = true ∧ o_law07_works_0 F = z0 := by
  refine ⟨?_, ?_⟩
  · unfold ok_law07_works; rw [h]; kernel_rfl
  · unfold o_law07_works_0; rw [h]; kernel_rfl
def s_law07_works (F : Nat) : List VV → Option (Bool × VV) := spec ti_law07_works to_law07_works (fun q => (ok_law07_works F )) (fun q => [.b (o_law07_works_0 F )])
theorem hS_law07_works (F : Nat) : ∀ f, Good PP f (unS (S_law07_works F f)) := words_good fun p hp => by
  simp only [List.mem_cons, List.not_mem_nil, or_false] at hp
  rcases hp with rfl | rfl | rfl
  · exact g_mat_About F
  · exact g_mat_Apply F
  · exact g_mat_Same F
theorem hl_law07_works (F : Nat) : ∀ p ∈ loopsIn PP 46, LoopOK PP (S_law07_works F) c_law07_works F (I_law07_works F) (J_law07_works F) p :=
  loops_of [] (by kernel_rfl) all_nil
theorem hj_law07_works (F : Nat) : ∀ p ∈ joinsIn PP c_law07_works 46, JoinOK PP (S_law07_works F) c_law07_works (I_law07_works F) (J_law07_works F) p :=
  joins_of [] (by kernel_rfl) all_nil
theorem g_law07_works (F : Nat) : Good PP 46 (unS (s_law07_works F)) :=
  fun_spec (hS_law07_works F) (by kernel_rfl) (by kernel_rfl) (C := c_law07_works) (F := fun q => (f_law07_works F )) (fun _ => F) (fun _ => I_law07_works F) (fun _ => J_law07_works F) (fun _ => hl_law07_works F) (fun _ => hj_law07_works F)
    (fun q => (congrArg (funL PP (S_law07_works F) c_law07_works (I_law07_works F) (J_law07_works F) 46) (show (fTs ti_law07_works q).1 = (fTs ti_law07_works []).1 by kernel_rfl)).trans (e_law07_works F ))
    (fun _ h => (okT_fill h).trans (congrArg some (by kernel_rfl)))

end Go.Xv
set_option linter.unusedVariables false
namespace Go.Xv
/- 64 _mat_Heading -/
def c_mat_Heading : Cfg := ⟨[0, 1, 2], [], [], []⟩
def ti_mat_Heading : List TV := [.v (.agg [.int .i64, .int .i64, .int .i64, .int .i64, .int .i64, .int .i64, .int .i64, .int .i64, .int .i64])]
def to_mat_Heading : TV := .v (.int .u32)
def S_mat_Heading (F : Nat) : FuncId → List VV → Option (Bool × VV) := words [(28, s_turn_Angle F)]
def W_mat_Heading (F : Nat) : List LW := []
def I_mat_Heading (F : Nat) : Nat → VS → (Exit → VS → R) → R := tabI c_mat_Heading (W_mat_Heading F)
def WJ_mat_Heading (F : Nat) : List LJ := []
def J_mat_Heading (F : Nat) : Nat → Nat → VS → (Exit → VS → R) → R := tabJ (WJ_mat_Heading F)
def f_mat_Heading (F : Nat) (a0 : Int) (a1 : Int) (a2 : Int) (a3 : Int) (a4 : Int) (a5 : Int) (a6 : Int) (a7 : Int) (a8 : Int) : R :=
  bif (ok_turn_Angle F a3 a0) then (
    some (.v (.int .u32 ((o_turn_Angle_0 F a3 a0)))))
  else (
    none)
theorem e_mat_Heading (F : Nat) (a0 : Int) (a1 : Int) (a2 : Int) (a3 : Int) (a4 : Int) (a5 : Int) (a6 : Int) (a7 : Int) (a8 : Int) : funL PP (S_mat_Heading F) c_mat_Heading (I_mat_Heading F) (J_mat_Heading F) 64 (fTs ti_mat_Heading [.i a0, .i a1, .i a2, .i a3, .i a4, .i a5, .i a6, .i a7, .i a8]).1 = f_mat_Heading F a0 a1 a2 a3 a4 a5 a6 a7 a8 := by
  have h : ∀ (ok_turn_Angle : Nat → Int → Int → Bool) (o_turn_Angle_0 : Nat → Int → Int → Int), funL PP (words [(28, spec ti_turn_Angle to_turn_Angle (fun q => (ok_turn_Angle F (atI (nth q 0)) (atI (nth q 1)))) (fun q => [.i (o_turn_Angle_0 F (atI (nth q 0)) (atI (nth q 1)))]))]) c_mat_Heading (tabI c_mat_Heading []) (tabJ []) 64 (fTs ti_mat_Heading [.i a0, .i a1, .i a2, .i a3, .i a4, .i a5, .i a6, .i a7, .i a8]).1 = (
  bif (ok_turn_Angle F a3 a0) then (
    some (.v (.int .u32 ((o_turn_Angle_0 F a3 a0)))))
  else (
    none) : R) := by
    intros
    kernel_rfl
  exact (h ok_turn_Angle o_turn_Angle_0).trans (by kernel_rfl)
def ok_mat_Heading (F : Nat) (a0 : Int) (a1 : Int) (a2 : Int) (a3 : Int) (a4 : Int) (a5 : Int) (a6 : Int) (a7 : Int) (a8 : Int) : Bool := okT to_mat_Heading (f_mat_Heading F a0 a1 a2 a3 a4 a5 a6 a7 a8)
def o_mat_Heading_0 (F : Nat) (a0 : Int) (a1 : Int) (a2 : Int) (a3 : Int) (a4 : Int) (a5 : Int) (a6 : Int) (a7 : Int) (a8 : Int) : Int := atI (nth (outT to_mat_Heading (f_mat_Heading F a0 a1 a2 a3 a4 a5 a6 a7 a8)) 0)
theorem k_mat_Heading (F : Nat) (a0 : Int) (a1 : Int) (a2 : Int) (a3 : Int) (a4 : Int) (a5 : Int) (a6 : Int) (a7 : Int) (a8 : Int) {z0 : Int} (h : f_mat_Heading F a0 a1 a2 a3 a4 a5 a6 a7 a8 = some (.v (.int .u32 z0))) : ok_mat_Heading F a0 a1 a2 a3 a4 a5 a6 a7 a8 = true ∧ o_mat_Heading_0 F a0 a1 a2 a3 a4 a5 a6 a7 a8 = z0 := by
  refine ⟨?_, ?_⟩
  · unfold ok_mat_Heading; rw [h]; kernel_rfl
  · unfold o_mat_Heading_0; rw [h]; kernel_rfl
def s_mat_Heading (F : Nat) : List VV → Option (Bool × VV) := spec ti_mat_Heading to_mat_Heading (fun q => (ok_mat_Heading F (atI (nth q 0)) (atI (nth q 1)) (atI (nth q 2)) (atI (nth q 3)) (atI (nth q 4)) (atI (nth q 5)) (atI (nth q 6)) (atI (nth q 7)) (atI (nth q 8)))) (fun q => [.i (o_mat_Heading_0 F (atI (nth q 0)) (atI (nth q 1)) (atI (nth q 2)) (atI (nth q 3)) (atI (nth q 4)) (atI (nth q 5)) (atI (nth q 6)) (atI (nth q 7)) (atI (nth q 8)))])
theorem hS_mat_Heading (F : Nat) : ∀ f, Good PP f (unS (S_mat_Heading F f)) := words_good fun p hp => by
  simp only [List.mem_cons, List.not_mem_nil, or_false] at hp
  rcases hp with rfl
  · exact g_turn_Angle F
theorem hl_mat_Heading (F : Nat) : ∀ p ∈ loopsIn PP 64, LoopOK PP (S_mat_Heading F) c_mat_Heading F (I_mat_Heading F) (J_mat_Heading F) p :=
  loops_of [] (by kernel_rfl) all_nil
theorem hj_mat_Heading (F : Nat) : ∀ p ∈ joinsIn PP c_mat_Heading 64, JoinOK PP (S_mat_Heading F) c_mat_Heading (I_mat_Heading F) (J_mat_Heading F) p :=
  joins_of [] (by kernel_rfl) all_nil
theorem g_mat_Heading (F : Nat) : Good PP 64 (unS (s_mat_Heading F)) :=
  fun_spec (hS_mat_Heading F) (by kernel_rfl) (by kernel_rfl) (C := c_mat_Heading) (F := fun q => (f_mat_Heading F (atI (nth q 0)) (atI (nth q 1)) (atI (nth q 2)) (atI (nth q 3)) (atI (nth q 4)) (atI (nth q 5)) (atI (nth q 6)) (atI (nth q 7)) (atI (nth q 8)))) (fun _ => F) (fun _ => I_mat_Heading F) (fun _ => J_mat_Heading F) (fun _ => hl_mat_Heading F) (fun _ => hj_mat_Heading F)
    (fun q => (congrArg (funL PP (S_mat_Heading F) c_mat_Heading (I_mat_Heading F) (J_mat_Heading F) 64) (show (fTs ti_mat_Heading q).1 = (fTs ti_mat_Heading [.i (atI (nth q 0)), .i (atI (nth q 1)), .i (atI (nth q 2)), .i (atI (nth q 3)), .i (atI (nth q 4)), .i (atI (nth q 5)), .i (atI (nth q 6)), .i (atI (nth q 7)), .i (atI (nth q 8))]).1 by kernel_rfl)).trans (e_mat_Heading F (atI (nth q 0)) (atI (nth q 1)) (atI (nth q 2)) (atI (nth q 3)) (atI (nth q 4)) (atI (nth q 5)) (atI (nth q 6)) (atI (nth q 7)) (atI (nth q 8))))
    (fun _ h => (okT_fill h).trans (congrArg some (by kernel_rfl)))

end Go.Xv
set_option linter.unusedVariables false
namespace Go.Xv
/- 18 _law07_MatHeads -/
def c_law07_MatHeads : Cfg := ⟨[0, 2, 3, 5, 7], [], [], []⟩
def ti_law07_MatHeads : List TV := [.v (.int .u32)]
def to_law07_MatHeads : TV := .v (.bool)
def S_law07_MatHeads (F : Nat) : FuncId → List VV → Option (Bool × VV) := words [(46, s_law07_works F), (44, s_mat_About F), (64, s_mat_Heading F)]
def W_law07_MatHeads (F : Nat) : List LW := []
def I_law07_MatHeads (F : Nat) : Nat → VS → (Exit → VS → R) → R := tabI c_law07_MatHeads (W_law07_MatHeads F)
def WJ_law07_MatHeads (F : Nat) : List LJ := []
def J_law07_MatHeads (F : Nat) : Nat → Nat → VS → (Exit → VS → R) → R := tabJ (WJ_law07_MatHeads F)
def f_law07_MatHeads (F : Nat) (a0 : Int) : R :=
  bif (ok_law07_works F) then (
    bif ((!((o_law07_works_0 F)))) then (
      some (.v (.bool false)))
    else (
      bif (ok_mat_About F 2 a0) then (
        let v3191 : Int := (o_mat_About_0 F 2 a0)
        let v3192 : Int := (o_mat_About_1 F 2 a0)
        let v3193 : Int := (o_mat_About_2 F 2 a0)
        let v3194 : Int := (o_mat_About_3 F 2 a0)
        let v3195 : Int := (o_mat_About_4 F 2 a0)
        let v3196 : Int := (o_mat_About_5 F 2 a0)
        let v3197 : Int := (o_mat_About_6 F 2 a0)
        let v3198 : Int := (o_mat_About_7 F 2 a0)
        let v3199 : Int := (o_mat_About_8 F 2 a0)
        bif (ok_mat_Heading F v3191 v3192 v3193 v3194 v3195 v3196 v3197 v3198 v3199) then (
          let v3204 : Int := (IntKind.wrap .i32 ((IntKind.wrap .u32 (((o_mat_Heading_0 F v3191 v3192 v3193 v3194 v3195 v3196 v3197 v3198 v3199)) - a0))))
          bif ((decide (v3204 ≤ 1024))) then (
            some (.v (.bool ((decide (v3204 ≥ (-1024)))))))
          else (
            some (.v (.bool false))))
        else (
          none))
      else (
        none)))
  else (
    none)
theorem e_law07_MatHeads (F : Nat) (a0 : Int) : funL PP (S_law07_MatHeads F) c_law07_MatHeads (I_law07_MatHeads F) (J_law07_MatHeads F) 18 (fTs ti_law07_MatHeads [.i a0]).1 = f_law07_MatHeads F a0 := by
  have h : ∀ (ok_law07_works : Nat → Bool) (o_law07_works_0 : Nat → Bool) (ok_mat_About : Nat → Int → Int → Bool) (o_mat_About_0 : Nat → Int → Int → Int) (o_mat_About_1 : Nat → Int → Int → Int) (o_mat_About_2 : Nat → Int → Int → Int) (o_mat_About_3 : Nat → Int → Int → Int) (o_mat_About_4 : Nat → Int → Int → Int) (o_mat_About_5 : Nat → Int → Int → Int) (o_mat_About_6 : Nat → Int → Int → Int) (o_mat_About_7 : Nat → Int → Int → Int) (o_mat_About_8 : Nat → Int → Int → Int) (o_mat_About_9 : Nat → Int → Int → Int) (ok_mat_Heading : Nat → Int → Int → Int → Int → Int → Int → Int → Int → Int → Bool) (o_mat_Heading_0 : Nat → Int → Int → Int → Int → Int → Int → Int → Int → Int → Int), funL PP (words [(46, spec ti_law07_works to_law07_works (fun q => (ok_law07_works F )) (fun q => [.b (o_law07_works_0 F )])), (44, spec ti_mat_About to_mat_About (fun q => (ok_mat_About F (atI (nth q 0)) (atI (nth q 1)))) (fun q => [.i (o_mat_About_0 F (atI (nth q 0)) (atI (nth q 1))), .i (o_mat_About_1 F (atI (nth q 0)) (atI (nth q 1))), .i (o_mat_About_2 F (atI (nth q 0)) (atI (nth q 1))), .i (o_mat_About_3 F (atI (nth q 0)) (atI (nth q 1))), .i (o_mat_About_4 F (atI (nth q 0)) (atI (nth q 1))), .i (o_mat_About_5 F (atI (nth q 0)) (atI (nth q 1))), .i (o_mat_About_6 F (atI (nth q 0)) (atI (nth q 1))), .i (o_mat_About_7 F (atI (nth q 0)) (atI (nth q 1))), .i (o_mat_About_8 F (atI (nth q 0)) (atI (nth q 1))), .i (o_mat_About_9 F (atI (nth q 0)) (atI (nth q 1)))])), (64, spec ti_mat_Heading to_mat_Heading (fun q => (ok_mat_Heading F (atI (nth q 0)) (atI (nth q 1)) (atI (nth q 2)) (atI (nth q 3)) (atI (nth q 4)) (atI (nth q 5)) (atI (nth q 6)) (atI (nth q 7)) (atI (nth q 8)))) (fun q => [.i (o_mat_Heading_0 F (atI (nth q 0)) (atI (nth q 1)) (atI (nth q 2)) (atI (nth q 3)) (atI (nth q 4)) (atI (nth q 5)) (atI (nth q 6)) (atI (nth q 7)) (atI (nth q 8)))]))]) c_law07_MatHeads (tabI c_law07_MatHeads []) (tabJ []) 18 (fTs ti_law07_MatHeads [.i a0]).1 = (
  bif (ok_law07_works F) then (
    bif ((!((o_law07_works_0 F)))) then (
      some (.v (.bool false)))
    else (
      bif (ok_mat_About F 2 a0) then (
        let v3191 : Int := (o_mat_About_0 F 2 a0)
        let v3192 : Int := (o_mat_About_1 F 2 a0)
        let v3193 : Int := (o_mat_About_2 F 2 a0)
        let v3194 : Int := (o_mat_About_3 F 2 a0)
        let v3195 : Int := (o_mat_About_4 F 2 a0)
        let v3196 : Int := (o_mat_About_5 F 2 a0)
        let v3197 : Int := (o_mat_About_6 F 2 a0)
        let v3198 : Int := (o_mat_About_7 F 2 a0)
        let v3199 : Int := (o_mat_About_8 F 2 a0)
        bif (ok_mat_Heading F v3191 v3192 v3193 v3194 v3195 v3196 v3197 v3198 v3199) then (
          let v3204 : Int := (IntKind.wrap .i32 ((IntKind.wrap .u32 (((o_mat_Heading_0 F v3191 v3192 v3193 v3194 v3195 v3196 v3197 v3198 v3199)) - a0))))
          bif ((decide (v3204 ≤ 1024))) then (
            some (.v (.bool ((decide (v3204 ≥ (-1024)))))))
          else (
            some (.v (.bool false))))
        else (
          none))
      else (
        none)))
  else (
    none) : R) := by
    intros
    kernel_rfl
  exact (h ok_law07_works o_law07_works_0 ok_mat_About o_mat_About_0 o_mat_About_1 o_mat_About_2 o_mat_About_3 o_mat_About_4 o_mat_About_5 o_mat_About_6 o_mat_About_7 o_mat_About_8 o_mat_About_9 ok_mat_Heading o_mat_Heading_0).trans (by kernel_rfl)
def ok_law07_MatHeads (F : Nat) (a0 : Int) : Bool := okT to_law07_MatHeads (f_law07_MatHeads F a0)
def o_law07_MatHeads_0 (F : Nat) (a0 : Int) : Bool := atB (nth (outT to_law07_MatHeads (f_law07_MatHeads F a0)) 0)
theorem k_law07_MatHeads (F : Nat) (a0 : Int) {z0 : Bool} (h : f_law07_MatHeads F a0 = some (.v (.bool z0))) : ok_law07_MatHeads F a0 = true ∧ o_law07_MatHeads_0 F a0 = z0 := by
  refine ⟨?_, ?_⟩
  · unfold ok_law07_MatHeads; rw [h]; kernel_rfl
  · unfold o_law07_MatHeads_0; rw [h]; kernel_rfl
def s_law07_MatHeads (F : Nat) : List VV → Option (Bool × VV) := spec ti_law07_MatHeads to_law07_MatHeads (fun q => (ok_law07_MatHeads F (atI (nth q 0)))) (fun q => [.b (o_law07_MatHeads_0 F (atI (nth q 0)))])
theorem hS_law07_MatHeads (F : Nat) : ∀ f, Good PP f (unS (S_law07_MatHeads F f)) := words_good fun p hp => by
  simp only [List.mem_cons, List.not_mem_nil, or_false] at hp
  rcases hp with rfl | rfl | rfl
  · exact g_law07_works F
  · exact g_mat_About F
  · exact g_mat_Heading F
theorem hl_law07_MatHeads (F : Nat) : ∀ p ∈ loopsIn PP 18, LoopOK PP (S_law07_MatHeads F) c_law07_MatHeads F (I_law07_MatHeads F) (J_law07_MatHeads F) p :=
  loops_of [] (by kernel_rfl) all_nil
theorem hj_law07_MatHeads (F : Nat) : ∀ p ∈ joinsIn PP c_law07_MatHeads 18, JoinOK PP (S_law07_MatHeads F) c_law07_MatHeads (I_law07_MatHeads F) (J_law07_MatHeads F) p :=
  joins_of [] (by kernel_rfl) all_nil
theorem g_law07_MatHeads (F : Nat) : Good PP 18 (unS (s_law07_MatHeads F)) :=
  fun_spec (hS_law07_MatHeads F) (by kernel_rfl) (by kernel_rfl) (C := c_law07_MatHeads) (F := fun q => (f_law07_MatHeads F (atI (nth q 0)))) (fun _ => F) (fun _ => I_law07_MatHeads F) (fun _ => J_law07_MatHeads F) (fun _ => hl_law07_MatHeads F) (fun _ => hj_law07_MatHeads F)
    (fun q => (congrArg (funL PP (S_law07_MatHeads F) c_law07_MatHeads (I_law07_MatHeads F) (J_law07_MatHeads F) 18) (show (fTs ti_law07_MatHeads q).1 = (fTs ti_law07_MatHeads [.i (atI (nth q 0))]).1 by kernel_rfl)).trans (e_law07_MatHeads F (atI (nth q 0))))
    (fun _ h => (okT_fill h).trans (congrArg some (by kernel_rfl)))

end Go.Xv
namespace Go.Xv
theorem p2pos (n : Nat) : (0 : Int) < 2 ^ n := Int.pow_pos (by decide)
theorem p2add (a b : Nat) : (2 : Int) ^ a * 2 ^ b = 2 ^ (a + b) := (Int.pow_add 2 a b).symm
theorem p2_64 {m : Nat} (h : m ≤ 64) : (2 : Int) ^ m * 2 ^ (64 - m) = 18446744073709551616 := by
  rw [p2add, show m + (64 - m) = 64 by omega]; decide
theorem p2cast (k : Nat) : ((2 ^ k : Nat) : Int) = 2 ^ k := by push_cast; rfl
theorem or_comm_u64 (a b : Int) : orI .u64 a b = orI .u64 b a := by rw [or_u64_bv, or_u64_bv, BitVec.or_comm]
theorem div_I64 {h P : Int} (hh : I64 h) (hP : 0 < P) : I64 (h / P) := by
  unfold I64 at *
  rcases Int.lt_or_le h 0 with hn | hn
  · constructor
    · rw [Int.le_ediv_iff_mul_le hP]
      have : -9223372036854775808 * P ≤ -9223372036854775808 * 1 := Int.mul_le_mul_of_nonpos_left (by omega) (by omega)
      omega
    · have := Int.ediv_neg_of_neg_of_pos hn hP
      omega
  · have h1 := Int.ediv_nonneg hn (Int.le_of_lt hP)
    have h2 := Int.ediv_le_self P hn
    omega
theorem emod_mul {a P Q : Int} (hP : 0 < P) : (a * P) % (P * Q) = (a % Q) * P := by
  rw [Int.mul_comm a P, Int.mul_emod_mul_of_pos _ _ hP, Int.mul_comm]

/-- a shift to the right by less than a half, put together of both halves. -/
theorem shr_small {h l : Int} {m : Nat} (hh : I64 h) (hl : U64 l) (hm : m < 64) :
    h / 2 ^ m = hi (val h l / 2 ^ m) ∧ orI .u64 (l / 2 ^ m) (((h % 18446744073709551616) * 2 ^ (64 - m)) % 18446744073709551616) = lo (val h l / 2 ^ m) := by
  have hP := p2pos m
  have hQ := p2pos (64 - m)
  have hPQ := p2_64 (m := m) (by omega)
  have hI := div_I64 hh hP
  have eP : ((2 ^ (64 - m) : Nat) : Int) = 2 ^ (64 - m) := p2cast _
  have orq := fun a b => or_add_u64 (64 - m) (a := a) (b := b)
  rw [eP] at orq
  generalize (2 : Int) ^ m = P at *
  generalize (2 : Int) ^ (64 - m) = Q at *
  have hv : val h l / P = h * Q + l / P := by
    unfold val
    rw [← hPQ, show h * (P * Q) + l = l + h * Q * P by rw [Int.mul_comm P Q, ← Int.mul_assoc]; omega, Int.add_mul_ediv_right _ _ (by omega)]
    omega
  have hlP : 0 ≤ l / P ∧ l / P < Q := by
    unfold U64 at hl
    refine ⟨Int.ediv_nonneg hl.1 (by omega), Int.ediv_lt_of_lt_mul hP ?_⟩
    rw [Int.mul_comm]; omega
  have h64 : (0 : Int) < 18446744073709551616 := by decide
  have hdd : (h * Q + l / P) / 18446744073709551616 = h / P := by
    rw [← hPQ, Int.mul_comm P Q, ← Int.ediv_ediv_of_nonneg (by omega), show h * Q + l / P = l / P + h * Q by omega, Int.add_mul_ediv_right _ _ (by omega), Int.ediv_eq_zero_of_lt hlP.1 hlP.2]
    simp
  rw [hv]
  constructor
  · unfold hi
    rw [hdd]
    unfold I64 at hI
    omega
  · have e1 : ((h % 18446744073709551616) * Q) % 18446744073709551616 = (h % P) * Q := by
      rw [← hPQ, Int.mul_comm P Q, emod_mul hQ, Int.mul_comm Q P, Int.emod_emod_of_dvd h (Int.dvd_mul_right P Q)]
    have b1 := Int.emod_nonneg h (show P ≠ 0 by omega)
    have b2 := Int.emod_lt_of_pos h hP
    have b3 : (h % P) * Q + l / P < 18446744073709551616 := by
      have : (h % P) * Q ≤ (P - 1) * Q := Int.mul_le_mul_of_nonneg_right (by omega) (by omega)
      rw [Int.sub_mul] at this
      omega
    have b4 := Int.mul_nonneg b1 (show 0 ≤ Q by omega)
    rw [e1, or_comm_u64, orq _ _ b1 hlP.1 hlP.2 b3]
    unfold lo
    have e2 : (h * Q) % 18446744073709551616 = (h % P) * Q := by rw [← hPQ, Int.mul_comm P Q, emod_mul hQ]
    omega

theorem shr_great {h l : Int} {m : Nat} (hl : U64 l) (hm : 64 ≤ m) : h / 2 ^ (m - 64) = val h l / 2 ^ m := by
  have e : (2 : Int) ^ m = 18446744073709551616 * 2 ^ (m - 64) := by
    rw [show (18446744073709551616 : Int) = 2 ^ 64 by decide, p2add, show 64 + (m - 64) = m by omega]
  rw [e, ← Int.ediv_ediv_of_nonneg (by decide)]
  congr 1
  unfold val
  unfold U64 at hl
  omega

end Go.Xv
namespace Go.Xv
/-- one bit of a number -/
def dg (z : Int) (i : Nat) : Int := z / 2 ^ i % 2
def ds (z : Int) (n : Nat) : List VV := (List.range n).map fun i => .v (.int .i64 (dg z i))
theorem p2mono {a b : Nat} (h : a ≤ b) : (2 : Int) ^ a ≤ 2 ^ b := by
  rw [show b = a + (b - a) by omega, ← p2add]
  have h1 := p2pos a
  have h2 := p2pos (b - a)
  have : (2 : Int) ^ a * 1 ≤ 2 ^ a * 2 ^ (b - a) := Int.mul_le_mul_of_nonneg_left (by omega) (by omega)
  omega
end Go.Xv
namespace Go.Xv
def angs : List Int := [536870912, 316933406, 167458907, 85004756, 42667331, 21354465, 10679838, 5340245, 2670163, 1335087, 667544, 333772, 166886, 83443, 41722, 20861, 10430, 5215, 2608, 1304, 652, 326, 163, 81, 41, 20, 10, 5, 3, 1]
def tA (i : Nat) : Int := angs.getD i 0
theorem tA_bd : ∀ i, i < 30 → 1 ≤ tA i ∧ tA i ≤ 536870912 := by decide
theorem ediv_bd {y B : Int} (h : -B ≤ y ∧ y ≤ B) (i : Nat) : -B ≤ y / 2 ^ i ∧ y / 2 ^ i ≤ B := by
  have hP := p2pos i
  generalize (2 : Int) ^ i = P at *
  rcases Int.lt_or_le y 0 with hn | hn
  · constructor
    · rw [Int.le_ediv_iff_mul_le hP]
      have : -B * P ≤ -B * 1 := Int.mul_le_mul_of_nonpos_left (by omega) (by omega)
      omega
    · have := Int.ediv_neg_of_neg_of_pos hn hP
      omega
  · have h1 := Int.ediv_nonneg hn (Int.le_of_lt hP)
    have h2 := Int.ediv_le_self P hn
    omega
def rotX (i : Nat) (o : Bool) (x y : Int) : Int := if o then x - y / 2 ^ i else x + y / 2 ^ i
def rotY (i : Nat) (o : Bool) (x y : Int) : Int := if o then y + x / 2 ^ i else y - x / 2 ^ i
theorem rot_bd {x y B : Int} (hx : -B ≤ x ∧ x ≤ B) (hy : -B ≤ y ∧ y ≤ B) (i : Nat) (o : Bool) : (-(2 * B) ≤ rotX i o x y ∧ rotX i o x y ≤ 2 * B) ∧ (-(2 * B) ≤ rotY i o x y ∧ rotY i o x y ≤ 2 * B) := by
  have h1 := ediv_bd hx i
  have h2 := ediv_bd hy i
  unfold rotX rotY
  cases o
  · simp only [Bool.false_eq_true, if_false]; omega
  · simp only [if_true]; omega
/-- sine and cosine, step by step: both parts, and what is left -/
def bS (z : Int) : Nat → Int × Int × Int
  | 0 => (2608131496, 0, z)
  | i + 1 => (rotX i (decide (0 ≤ (bS z i).2.2)) (bS z i).1 (bS z i).2.1, rotY i (decide (0 ≤ (bS z i).2.2)) (bS z i).1 (bS z i).2.1, if 0 ≤ (bS z i).2.2 then (bS z i).2.2 - tA i else (bS z i).2.2 + tA i)
theorem bS_bd (z : Int) : ∀ i, (-(2608131496 * 2 ^ i) ≤ (bS z i).1 ∧ (bS z i).1 ≤ 2608131496 * 2 ^ i) ∧ (-(2608131496 * 2 ^ i) ≤ (bS z i).2.1 ∧ (bS z i).2.1 ≤ 2608131496 * 2 ^ i)
  | 0 => by simp [bS]
  | i + 1 => by
    obtain ⟨h1, h2⟩ := bS_bd z i
    have := rot_bd h1 h2 i (decide (0 ≤ (bS z i).2.2))
    have e : (2608131496 : Int) * 2 ^ (i + 1) = 2 * (2608131496 * 2 ^ i) := by rw [Int.pow_succ]; omega
    rw [e]
    exact this
theorem bS_I (z : Int) {i : Nat} (h : i ≤ 30) : (-4611686018427387904 ≤ (bS z i).1 ∧ (bS z i).1 ≤ 4611686018427387904) ∧ (-4611686018427387904 ≤ (bS z i).2.1 ∧ (bS z i).2.1 ≤ 4611686018427387904) := by
  have h1 := bS_bd z i
  have h2 : (2608131496 : Int) * 2 ^ i ≤ 2608131496 * 2 ^ 30 := Int.mul_le_mul_of_nonneg_left (p2mono h) (by decide)
  have h3 : (2608131496 : Int) * 2 ^ 30 ≤ 4611686018427387904 := by decide
  omega
theorem bS_z {z : Int} (hz : 0 ≤ z ∧ z < 1073741824) : ∀ {i : Nat}, i ≤ 30 → -(1073741824 + 536870912 * (i : Int)) ≤ (bS z i).2.2 ∧ (bS z i).2.2 ≤ 1073741824 + 536870912 * (i : Int)
  | 0, _ => by simp only [bS]; omega
  | i + 1, h => by
    have ih := bS_z hz (i := i) (by omega)
    have := tA_bd i (by omega)
    simp only [bS]
    push_cast
    split <;> omega
def cl01 (x : Int) : Int := min (max x 0) 4294967296
theorem cl01_bd (x : Int) : 0 ≤ cl01 x ∧ cl01 x ≤ 4294967296 := by unfold cl01; omega
def bC (a : Int) : Int := cl01 (bS (a % 1073741824) 30).1
def bN (a : Int) : Int := cl01 (bS (a % 1073741824) 30).2.1
/-- cosine and sine -/
def bothC (a : Int) : Int := if a / 1073741824 = 0 then bC a else if a / 1073741824 = 1 then -bN a else if a / 1073741824 = 2 then -bC a else bN a
def bothS (a : Int) : Int := if a / 1073741824 = 0 then bN a else if a / 1073741824 = 1 then bC a else if a / 1073741824 = 2 then -bN a else -bC a
theorem both_bd (a : Int) : (-4294967296 ≤ bothC a ∧ bothC a ≤ 4294967296) ∧ (-4294967296 ≤ bothS a ∧ bothS a ≤ 4294967296) := by
  have h1 := cl01_bd (bS (a % 1073741824) 30).1
  have h2 := cl01_bd (bS (a % 1073741824) 30).2.1
  unfold bothC bothS bC bN
  constructor <;> (repeat' split) <;> omega
/-- the angle, step by step -/
def aS (x y : Int) : Nat → Int × Int × Int
  | 0 => (x, y, 0)
  | i + 1 => (rotX i (decide ((aS x y i).2.1 < 0)) (aS x y i).1 (aS x y i).2.1, rotY i (decide ((aS x y i).2.1 < 0)) (aS x y i).1 (aS x y i).2.1, if (aS x y i).2.1 < 0 then (aS x y i).2.2 - tA i else (aS x y i).2.2 + tA i)
def sz (a : Int) : Int := if a < 0 then -a else a
/-- how often it is halved, and doubled -/
def big (x y : Int) : Int := max (sz x) (sz y)
def down : Nat → Int → Int → Int × Int
  | 0, x, y => (x, y)
  | n + 1, x, y => if 2305843009213693952 ≤ big x y then down n (x / 2) (y / 2) else (x, y)
def dbl : Nat → Int → Int → Int × Int
  | 0, x, y => (x, y)
  | n + 1, x, y => if big x y < 1152921504606846976 then dbl n (x * 2) (y * 2) else (x, y)
def scd (x y : Int) : Int × Int := dbl 64 (down 64 x y).1 (down 64 x y).2
def opp (a : Int) : Int := if a = -9223372036854775808 then 9223372036854775807 else -a
def angle (y x : Int) : Int := if x = 0 ∧ y = 0 then 0 else if x < 0 then ((aS (scd (opp x) (opp y)).1 (scd (opp x) (opp y)).2 30).2.2 + 2147483648) % 4294967296 else (aS (scd x y).1 (scd x y).2 30).2.2 % 4294967296
end Go.Xv
namespace Go.Xv
theorem bp {α : Type} {c : Bool} {a b x : α} (h : c = true) (h2 : a = x) : (bif c then a else b) = x := by rw [h]; exact h2
theorem bn {α : Type} {c : Bool} {a b x : α} (h : c = false) (h2 : b = x) : (bif c then a else b) = x := by rw [h]; exact h2
theorem dt {p : Prop} [Decidable p] (h : p) : decide p = true := decide_eq_true h
theorem df {p : Prop} [Decidable p] (h : ¬ p) : decide p = false := decide_eq_false h
theorem fdiv_pos (a : Int) {b : Int} (h : 0 ≤ b) : Int.fdiv a b = a / b := Int.fdiv_eq_ediv_of_nonneg a h
theorem some_int {k : IntKind} {a b : Int} (h : a = b) : (some (VV.v (.int k a)) : R) = some (.v (.int k b)) := by rw [h]
theorem some_wd {a b : Int} {z : Int} (h : a = hi z) (k : b = lo z) : (some (VV.v (.agg #[.int .i64 a, .int .u64 b])) : R) = some (wd z) := by rw [h, k]; rfl

theorem f_bare (F : Nat) {a : Int} (h : I64 a) : f_wide_bare F a = some (.v (.int .u64 (if a < 0 then -a else a))) := by
  unfold f_wide_bare
  unfold I64 at h
  by_cases h0 : a < 0
  · refine bp (dt h0) (some_int ?_)
    rw [if_pos h0, wu64, wu64]; omega
  · refine bn (df h0) (some_int ?_)
    rw [if_neg h0, wu64]; omega

theorem f_product (F : Nat) {a b : Int} (ha : U64 a) (hb : U64 b) : f_wide_product F a b = some (wd (a * b)) := by
  unfold f_wide_product
  unfold U64 at ha hb
  have ea : a = a / 4294967296 * 4294967296 + a % 4294967296 := by omega
  have eb : b = b / 4294967296 * 4294967296 + b % 4294967296 := by omega
  have hp : 0 ≤ a / 4294967296 ∧ a / 4294967296 ≤ 4294967295 := by omega
  have hq : 0 ≤ a % 4294967296 ∧ a % 4294967296 ≤ 4294967295 := by omega
  have hr : 0 ≤ b / 4294967296 ∧ b / 4294967296 ≤ 4294967295 := by omega
  have hs : 0 ≤ b % 4294967296 ∧ b % 4294967296 ≤ 4294967295 := by omega
  have hab : a * b = (a / 4294967296) * (b / 4294967296) * 18446744073709551616 + ((a / 4294967296) * (b % 4294967296) + (a % 4294967296) * (b / 4294967296)) * 4294967296 + (a % 4294967296) * (b % 4294967296) := by
    generalize a / 4294967296 = p at *
    generalize a % 4294967296 = q at *
    generalize b / 4294967296 = r at *
    generalize b % 4294967296 = s at *
    subst ea eb
    simp only [Int.add_mul, Int.mul_add]
    have : p * 4294967296 * (r * 4294967296) = p * r * 18446744073709551616 := by
      rw [show (18446744073709551616 : Int) = 4294967296 * 4294967296 by decide]
      simp only [Int.mul_comm, Int.mul_assoc, Int.mul_left_comm]
    have : p * 4294967296 * s = p * s * 4294967296 := by simp only [Int.mul_comm, Int.mul_assoc, Int.mul_left_comm]
    have : q * (r * 4294967296) = q * r * 4294967296 := by simp only [Int.mul_assoc]
    omega
  have bd : ∀ x y : Int, (0 ≤ x ∧ x ≤ 4294967295) → (0 ≤ y ∧ y ≤ 4294967295) → 0 ≤ x * y ∧ x * y ≤ 18446744065119617025 := by
    intro x y hx hy
    have h1 := Int.mul_nonneg hx.1 hy.1
    have h2 : x * y ≤ 4294967295 * 4294967295 := Int.mul_le_mul hx.2 hy.2 hy.1 (by decide)
    exact ⟨h1, by simpa using h2⟩
  have b1 := bd _ _ hp hr
  have b2 := bd _ _ hp hs
  have b3 := bd _ _ hq hr
  have b4 := bd _ _ hq hs
  have m1 : ∀ x, U64 x → andI .u64 x 4294967295 = x % 4294967296 := fun x hx => mask32_u64 hx
  simp only [fdiv_pos _ (show (0 : Int) ≤ 4294967296 by decide)]
  rw [m1 a ha, m1 b hb]
  rw [hab]
  clear hab ea eb
  generalize a / 4294967296 * (b / 4294967296) = pr at *
  generalize a / 4294967296 * (b % 4294967296) = ps at *
  generalize a % 4294967296 * (b / 4294967296) = qr at *
  generalize a % 4294967296 * (b % 4294967296) = qs at *
  rw [wu64_in (x := qs) (by unfold U64; omega), wu64_in (x := ps) (by unfold U64; omega), wu64_in (x := qr) (by unfold U64; omega), wu64_in (x := pr) (by unfold U64; omega)]
  rw [wu64_in (x := ps + qs / 4294967296) (by unfold U64; omega)]
  rw [m1 _ (show U64 (ps + qs / 4294967296) by unfold U64; omega), m1 qs (by unfold U64; omega)]
  rw [wu64_in (x := (ps + qs / 4294967296) % 4294967296 + qr) (by unfold U64; omega)]
  have e : IntKind.wrap .u64 (((ps + qs / 4294967296) % 4294967296 + qr) * 4294967296) = (((ps + qs / 4294967296) % 4294967296 + qr) % 4294967296) * (2 ^ 32 : Nat) := by
    rw [wu64]; omega
  rw [e, or_add_u64 32 (by omega) (by omega) (by omega) (by omega)]
  refine some_wd ?_ ?_
  · simp only [wu64, wi64]; unfold hi; omega
  · unfold lo; omega

theorem f_Add (F : Nat) {a b c d : Int} (hb : U64 b) (hd : U64 d) : f_wide_Add F a b c d = some (wd (val a b + val c d)) := by
  unfold f_wide_Add
  unfold U64 at hb hd
  simp only [wu64, wi64]
  by_cases h : (b + d) % 18446744073709551616 < b
  · refine bp (dt h) (some_wd ?_ ?_)
    · unfold hi val; omega
    · unfold lo val; omega
  · refine bn (df h) (some_wd ?_ ?_)
    · unfold hi val; omega
    · unfold lo val; omega

theorem f_Neg (F : Nat) {a b : Int} (ha : I64 a) (hb : U64 b) : f_wide_Neg F a b = some (wd (-val a b)) := by
  unfold f_wide_Neg
  rw [not_i64 ha, not_u64 hb]
  unfold U64 at hb
  obtain ⟨h1, h2, h3⟩ := k_wide_Add F _ _ _ _ (f_Add F (a := -1 - a) (b := 18446744073709551615 - b) (c := 0) (d := 1) (by unfold U64; omega) (by unfold U64; omega))
  refine bp h1 ?_
  rw [h2, h3]
  refine some_wd (hi_eqv ?_) (lo_eqv ?_)
  all_goals unfold Eqv val; omega

theorem f_Mul (F : Nat) {a b : Int} (ha : I64 a) (hb : I64 b) : f_wide_Mul F a b = some (wd (a * b)) := by
  unfold f_wide_Mul
  obtain ⟨h1, h2⟩ := k_wide_bare F a (f_bare F ha)
  obtain ⟨h3, h4⟩ := k_wide_bare F b (f_bare F hb)
  unfold I64 at ha hb
  refine bp h1 (bp h3 ?_)
  simp only [h2, h4]
  obtain ⟨p1, p2, p3⟩ := k_wide_product F _ _ (f_product F (a := if a < 0 then -a else a) (b := if b < 0 then -b else b) (by unfold U64; split <;> omega) (by unfold U64; split <;> omega))
  refine bp p1 ?_
  simp only [p2, p3]
  have neg : ∀ z : Int, (bif ok_wide_Neg F (hi z) (lo z) then (some (.v (.agg #[.int .i64 (o_wide_Neg_0 F (hi z) (lo z)), .int .u64 (o_wide_Neg_1 F (hi z) (lo z))])) : R) else none) = some (wd (-z)) := by
    intro z
    obtain ⟨n1, n2, n3⟩ := k_wide_Neg F _ _ (f_Neg F (hi_I z) (lo_U z))
    refine bp n1 ?_
    rw [n2, n3, val_hl]
    exact some_wd (hi_eqv (W_eqv z).neg) (lo_eqv (W_eqv z).neg)
  by_cases h0 : a < 0 <;> by_cases k0 : b < 0
  · simp only [h0, k0, decide_true, if_true, BEq.rfl, Bool.not_true, cond_false, Int.neg_mul_neg]; rfl
  · simp only [h0, k0, decide_true, decide_false, if_true, if_false]
    refine bp (by decide) ?_
    rw [neg, Int.neg_mul, Int.neg_neg]
  · simp only [h0, k0, decide_true, decide_false, if_true, if_false]
    refine bp (by decide) ?_
    rw [neg, Int.mul_neg, Int.neg_neg]
  · simp only [h0, k0, decide_false, if_false, BEq.rfl, Bool.not_true, cond_false]; rfl
end Go.Xv
namespace Go.Xv
theorem some_bool {a b : Bool} (h : a = b) : (some (VV.v (.bool a)) : R) = some (.v (.bool b)) := by rw [h]
theorem nn (k : Nat) : (!decide ((k : Int) < 0)) = true := by rw [df (by omega)]; rfl
theorem p2min {m : Nat} (h : m ≤ 64) : min (Int.toNat (m : Int)) 64 = m := by omega

theorem f_Of (F : Nat) {n : Int} (h : I64 n) : f_wide_Of F n = some (wd n) := by
  unfold f_wide_Of
  unfold I64 at h
  refine some_wd ?_ ?_
  · rw [fdiv_pos _ (by decide)]; unfold hi; omega
  · rw [wu64]; rfl
/-- how far a number is shifted to the right at most -/
def cl (n : Int) : Nat := (if 127 < (if 0 > n then 0 else n) then 127 else (if 0 > n then 0 else n)).toNat
theorem f_Right (F : Nat) {a b n : Int} (ha : I64 a) (hb : U64 b) : f_wide_Right F a b n = some (wd (val a b / 2 ^ cl n)) := by
  unfold f_wide_Right cl
  dsimp only
  generalize hv : (if 127 < (if 0 > n then 0 else n) then (127 : Int) else (if 0 > n then 0 else n)) = v
  have hv2 : 0 ≤ v ∧ v ≤ 127 := by
    subst hv
    split <;> split <;> omega
  obtain ⟨m, rfl⟩ := Int.eq_ofNat_of_zero_le hv2.1
  simp only [Int.toNat_natCast]
  by_cases h : 64 ≤ m
  · refine bp (dt (by omega)) ?_
    rw [wi64_in (x := (m : Int) - 64) (by unfold I64; omega), show (m : Int) - 64 = ((m - 64 : Nat) : Int) by omega]
    refine bp (nn _) ?_
    rw [p2min (by omega), fdiv_pos _ (Int.le_of_lt (p2pos _))]
    obtain ⟨h1, h2, h3⟩ := k_wide_Of F _ (f_Of F (div_I64 ha (p2pos (m - 64))))
    refine bp h1 ?_
    rw [h2, h3, ← shr_great hb h]; rfl
  · refine bn (df (by omega)) ?_
    refine bp (nn _) (bp (nn _) ?_)
    rw [wi64_in (x := 64 - (m : Int)) (by unfold I64; omega), show 64 - (m : Int) = ((64 - m : Nat) : Int) by omega]
    refine bp (nn _) ?_
    rw [fdiv_pos _ (Int.le_of_lt (p2pos _)), fdiv_pos _ (Int.le_of_lt (p2pos _)), show min m 64 = m by omega, p2min (by omega), wu64, wu64]
    obtain ⟨h1, h2⟩ := shr_small ha hb (show m < 64 by omega)
    exact some_wd h1 h2

/-- over a power of two, to the nearest one -/
def near (z : Int) (m : Nat) : Int := if m = 0 then z else z / 2 ^ m + z / 2 ^ (m - 1) % 2
theorem cl_pred {n : Int} (h : 0 < n) (h2 : n ≤ 127) : cl (n - 1) = cl n - 1 := by
  unfold cl
  rw [if_neg (show ¬ 0 > n by omega), if_neg (show ¬ 0 > n - 1 by omega), if_neg (by omega), if_neg (by omega)]
  omega
theorem lo_mod2 (z : Int) : lo z % 2 = z % 2 := by unfold lo; omega
theorem f_Near (F : Nat) {a b n : Int} (ha : I64 a) (hb : U64 b) : f_wide_Near F a b n = some (wd (near (val a b) (cl n))) := by
  unfold f_wide_Near
  by_cases h : n ≤ 0
  · rw [if_neg (show ¬ 127 < n by omega)]
    refine bp (dt h) ?_
    have : cl n = 0 := by
      unfold cl
      rw [if_neg]
      · split <;> omega
      · split <;> omega
    rw [this]
    exact some_wd (hi_val ha hb).symm (lo_val hb).symm
  · generalize hv : (if 127 < n then 127 else n) = v
    have hc : cl n = cl v := by
      subst hv
      unfold cl
      by_cases hn : 127 < n
      · rw [if_pos hn, if_neg (show ¬ 0 > n by omega), if_pos hn]; decide
      · rw [if_neg hn]
    have hv1 : 0 < v ∧ v ≤ 127 := by subst hv; split <;> omega
    refine bn (df (by omega)) ?_
    obtain ⟨h1, h2, h3⟩ := k_wide_Right F _ _ _ (f_Right F (n := v) ha hb)
    refine bp h1 ?_
    rw [wi64_in (x := v - 1) (by unfold I64; omega)]
    obtain ⟨g1, g2, g3⟩ := k_wide_Right F _ _ _ (f_Right F (n := v - 1) ha hb)
    refine bp g1 ?_
    rw [h2, h3, g3, mask1_u64 (lo_U _), lo_mod2, cl_pred hv1.1 hv1.2, ← hc]
    have hm : cl n ≠ 0 := by
      rw [hc]
      unfold cl
      rw [if_neg (show ¬ 0 > v by omega), if_neg (by omega)]
      omega
    obtain ⟨k1, k2, k3⟩ := k_wide_Add F _ _ _ _ (f_Add F (a := hi (val a b / 2 ^ cl n)) (c := 0) (d := val a b / 2 ^ (cl n - 1) % 2) (lo_U (val a b / 2 ^ cl n)) (by unfold U64; omega))
    refine bp k1 ?_
    rw [k2, k3, val_hl]
    unfold near
    rw [if_neg hm]
    refine some_wd (hi_eqv ?_) (lo_eqv ?_)
    all_goals exact (W_eqv _).add (show Eqv (val 0 _) _ by unfold val; rw [Int.zero_mul, Int.zero_add]; exact rfl)

end Go.Xv
namespace Go.Xv
theorem wi64_s (i : Nat) (h : i < 1000) : IntKind.wrap .i64 ((i : Int) + 1) = ((i + 1 : Nat) : Int) := by
  rw [wi64_in (by unfold I64; omega)]; push_cast; rfl
theorem ix_ok (i n : Nat) (h : i < n) : ((decide (0 ≤ (i : Int))) && (decide ((i : Int) < ((n : Nat) : Int)))) = true := by
  rw [dt (by omega), dt (by omega)]; rfl
end Go.Xv
namespace Go.Xv
theorem a_Add (F : Nat) (x y : Int) : ok_wide_Add F (hi x) (lo x) (hi y) (lo y) = true ∧ o_wide_Add_0 F (hi x) (lo x) (hi y) (lo y) = hi (x + y) ∧ o_wide_Add_1 F (hi x) (lo x) (hi y) (lo y) = lo (x + y) := by
  obtain ⟨h1, h2, h3⟩ := k_wide_Add F _ _ _ _ (f_Add F (a := hi x) (c := hi y) (lo_U x) (lo_U y))
  rw [h2, h3, val_hl, val_hl]
  have e := (W_eqv x).add (W_eqv y)
  exact ⟨h1, hi_eqv e, lo_eqv e⟩
theorem a_Of (F : Nat) {n : Int} (h : I64 n) : ok_wide_Of F n = true ∧ o_wide_Of_0 F n = hi n ∧ o_wide_Of_1 F n = lo n := k_wide_Of F _ (f_Of F h)
theorem a_Mul (F : Nat) {a b : Int} (ha : I64 a) (hb : I64 b) : ok_wide_Mul F a b = true ∧ o_wide_Mul_0 F a b = hi (a * b) ∧ o_wide_Mul_1 F a b = lo (a * b) := k_wide_Mul F _ _ (f_Mul F ha hb)
theorem a_Near (F : Nat) {x : Int} (n : Int) (h : W128 x) : ok_wide_Near F (hi x) (lo x) n = true ∧ o_wide_Near_0 F (hi x) (lo x) n = hi (near x (cl n)) ∧ o_wide_Near_1 F (hi x) (lo x) n = lo (near x (cl n)) := by
  have := k_wide_Near F _ _ n (f_Near F (n := n) (hi_I x) (lo_U x))
  rw [val_hl, W_in h] at this
  exact this
end Go.Xv
namespace Go.Xv
def clipV (z : Int) : Int := if z < -9223372036854775808 then -9223372036854775808 else if 9223372036854775807 < z then 9223372036854775807 else z
def clipC (z : Int) : Bool := decide (z < -9223372036854775808 ∨ 9223372036854775807 < z)
theorem some_clip {n : Int} {c : Bool} {z : Int} (h : n = clipV z) (k : c = clipC z) : (some (VV.v (.tuple #[.int .i64 n, .bool c])) : R) = some (.v (.tuple #[.int .i64 (clipV z), .bool (clipC z)])) := by rw [h, k]
theorem f_Clip (F : Nat) {a b : Int} (ha : I64 a) (hb : U64 b) : f_wide_Clip F a b = some (.v (.tuple #[.int .i64 (clipV (val a b)), .bool (clipC (val a b))])) := by
  unfold f_wide_Clip
  dsimp only
  obtain ⟨o1, o2, o3⟩ := a_Of F (wi64_I b)
  refine bp o1 ?_
  rw [o2, o3, wi64]
  have hv : ∀ z, z = val a b → True := fun _ _ => trivial
  unfold I64 at ha
  unfold U64 at hb
  by_cases h : -9223372036854775808 ≤ val a b ∧ val a b ≤ 9223372036854775807
  · refine bp ?_ (some_clip ?_ ?_)
    · unfold val at h
      rw [Bool.and_eq_true, beq_iff_eq, beq_iff_eq]
      unfold hi lo; omega
    · unfold clipV
      rw [if_neg (by omega), if_neg (by omega)]
      unfold val at *; omega
    · unfold clipC
      exact (df (by omega)).symm
  · refine bn ?_ ?_
    · unfold val at h
      rw [Bool.and_eq_false_iff, beq_eq_false_iff_ne, beq_eq_false_iff_ne]
      unfold hi lo; omega
    · by_cases h2 : a < 0
      · refine bp (dt h2) (some_clip ?_ ?_)
        · unfold clipV
          rw [if_pos]
          unfold val at *; omega
        · unfold clipC
          refine (dt ?_).symm
          unfold val at *; omega
      · refine bn (df h2) (some_clip ?_ ?_)
        · unfold clipV
          rw [if_neg, if_pos]
          · unfold val at *; omega
          · unfold val at *; omega
        · unfold clipC
          refine (dt ?_).symm
          unfold val at *; omega
theorem a_Clip (F : Nat) {x : Int} (h : W128 x) : ok_wide_Clip F (hi x) (lo x) = true ∧ o_wide_Clip_0 F (hi x) (lo x) = clipV x ∧ o_wide_Clip_1 F (hi x) (lo x) = clipC x := by
  have := k_wide_Clip F _ _ (f_Clip F (hi_I x) (lo_U x))
  rw [val_hl, W_in h] at this
  exact this
end Go.Xv
namespace Go.Xv
theorem mul_bd {a b : Int} (ha : I64 a) (hb : I64 b) : -85070591730234615865843651857942052864 ≤ a * b ∧ a * b ≤ 85070591730234615865843651857942052864 := by
  unfold I64 at ha hb
  have h : (a * b).natAbs ≤ 9223372036854775808 * 9223372036854775808 := by
    rw [Int.natAbs_mul]
    exact Nat.mul_le_mul (by omega) (by omega)
  omega
theorem mul_W {a b : Int} (ha : I64 a) (hb : I64 b) : W128 (a * b) := by
  have := mul_bd ha hb
  unfold W128; omega
theorem cl32 : cl 32 = 32 := by decide
abbrev cp (z : Int) : VV := .v (.tuple #[.int .i64 (clipV z), .bool (clipC z)])
theorem clip_in {z : Int} (h : I64 z) : clipV z = z ∧ clipC z = false := by
  unfold I64 at h
  unfold clipV clipC
  exact ⟨by rw [if_neg (by omega), if_neg (by omega)], df (by omega)⟩

theorem f_fSub (F : Nat) {a b : Int} (ha : I64 a) (hb : I64 b) : f_fix_Sub F a b = some (cp (a - b)) := by
  unfold f_fix_Sub
  dsimp only
  have hs := wi64_I (a - b)
  have e := wi64 (a - b)
  generalize IntKind.wrap .i64 (a - b) = s at *
  have h1 := and_neg (xorI_I a b) (xorI_I a s)
  have h2 := xor_neg ha hb
  have h3 := xor_neg ha hs
  unfold I64 at ha hb hs
  by_cases h : -9223372036854775808 ≤ a - b ∧ a - b < 9223372036854775808
  · refine bp (dt ?_) (some_clip ?_ ?_)
    · have : ¬ andI .i64 (xorI .i64 a b) (xorI .i64 a s) < 0 := by
        rw [h1, h2, h3]; omega
      omega
    · rw [(clip_in h).1]; omega
    · rw [(clip_in h).2]
  · refine bn (df ?_) ?_
    · have : andI .i64 (xorI .i64 a b) (xorI .i64 a s) < 0 := by
        rw [h1, h2, h3]; omega
      omega
    · by_cases ha0 : a < 0
      · refine bp (dt ha0) (some_clip ?_ ?_)
        · unfold clipV; rw [if_pos (by omega)]
        · unfold clipC; exact (dt (by omega)).symm
      · refine bn (df ha0) (some_clip ?_ ?_)
        · unfold clipV; rw [if_neg (by omega), if_pos (by omega)]
        · unfold clipC; exact (dt (by omega)).symm
theorem a_fSub (F : Nat) {a b : Int} (ha : I64 a) (hb : I64 b) : ok_fix_Sub F a b = true ∧ o_fix_Sub_0 F a b = clipV (a - b) ∧ o_fix_Sub_1 F a b = clipC (a - b) := k_fix_Sub F _ _ (f_fSub F ha hb)
theorem I0 : I64 0 := by unfold I64; omega
theorem f_fNeg (F : Nat) {a : Int} (ha : I64 a) : f_fix_Neg F a = some (cp (-a)) := by
  unfold f_fix_Neg
  obtain ⟨h1, h2, h3⟩ := a_fSub F I0 ha
  refine bp h1 ?_
  rw [h2, h3, Int.zero_sub]
theorem a_fNeg (F : Nat) {a : Int} (ha : I64 a) : ok_fix_Neg F a = true ∧ o_fix_Neg_0 F a = clipV (-a) ∧ o_fix_Neg_1 F a = clipC (-a) := k_fix_Neg F _ (f_fNeg F ha)
theorem f_fClamp (F : Nat) {a l h : Int} : f_fix_Clamp F a l h = some (.v (.tuple #[.int .i64 (if h < l then l else min (max a l) h), .bool (if h < l then true else decide (min (max a l) h ≠ a))])) := by
  unfold f_fix_Clamp
  dsimp only
  by_cases hl : h < l
  · refine bp (dt hl) ?_
    rw [if_pos hl, if_pos hl]
  · refine bn (df hl) ?_
    rw [if_neg hl, if_neg hl]
    have e : (if h < (if l > a then l else a) then h else (if l > a then l else a)) = min (max a l) h := by split <;> (try split) <;> omega
    have e2 : (min (max a l) h != a) = decide (min (max a l) h ≠ a) := by rw [Bool.eq_iff_iff]; simp
    rw [e, e2]
end Go.Xv
namespace Go.Xv
theorem angL_get : ∀ i : Nat, i < 30 → isI .i64 [.v (.int .i64 536870912), .v (.int .i64 316933406), .v (.int .i64 167458907), .v (.int .i64 85004756), .v (.int .i64 42667331), .v (.int .i64 21354465), .v (.int .i64 10679838), .v (.int .i64 5340245), .v (.int .i64 2670163), .v (.int .i64 1335087), .v (.int .i64 667544), .v (.int .i64 333772), .v (.int .i64 166886), .v (.int .i64 83443), .v (.int .i64 41722), .v (.int .i64 20861), .v (.int .i64 10430), .v (.int .i64 5215), .v (.int .i64 2608), .v (.int .i64 1304), .v (.int .i64 652), .v (.int .i64 326), .v (.int .i64 163), .v (.int .i64 81), .v (.int .i64 41), .v (.int .i64 20), .v (.int .i64 10), .v (.int .i64 5), .v (.int .i64 3), .v (.int .i64 1)][i]? = true ∧ iv [.v (.int .i64 536870912), .v (.int .i64 316933406), .v (.int .i64 167458907), .v (.int .i64 85004756), .v (.int .i64 42667331), .v (.int .i64 21354465), .v (.int .i64 10679838), .v (.int .i64 5340245), .v (.int .i64 2670163), .v (.int .i64 1335087), .v (.int .i64 667544), .v (.int .i64 333772), .v (.int .i64 166886), .v (.int .i64 83443), .v (.int .i64 41722), .v (.int .i64 20861), .v (.int .i64 10430), .v (.int .i64 5215), .v (.int .i64 2608), .v (.int .i64 1304), .v (.int .i64 652), .v (.int .i64 326), .v (.int .i64 163), .v (.int .i64 81), .v (.int .i64 41), .v (.int .i64 20), .v (.int .i64 10), .v (.int .i64 5), .v (.int .i64 3), .v (.int .i64 1)][i]? = tA i := by decide
theorem zmul1 (i : Nat) : (Int.toNat (i : Int)) * 1 = i := by simp
theorem turnedF (F : Nat) {x y : Int} {i : Nat} (hi : i < 64) (o : Bool) (h1 : I64 (rotX i o x y)) (h2 : I64 (rotY i o x y)) : ok_turn_pair_turned F x y i o = true ∧ o_turn_pair_turned_0 F x y i o = rotX i o x y ∧ o_turn_pair_turned_1 F x y i o = rotY i o x y := by
  refine k_turn_pair_turned F _ _ _ _ ?_
  unfold f_turn_pair_turned
  have hd : (!decide ((i : Int) < 0)) = true := nn i
  have hP := p2pos i
  rw [hd, p2min (by omega), fdiv_pos _ (by omega), fdiv_pos _ (by omega)]
  simp only [cond_true]
  unfold rotX rotY at *
  cases o
  · simp only [Bool.false_eq_true, if_false, cond_false] at *
    rw [wi64_in h1, wi64_in h2]
  · simp only [if_true, cond_true] at *
    rw [wi64_in h1, wi64_in h2]
theorem unitF (F : Nat) (x : Int) : ok_turn_unit F x = true ∧ o_turn_unit_0 F x = cl01 x := by
  refine k_turn_unit F _ ?_
  unfold f_turn_unit
  obtain ⟨h1, h2, h3⟩ := k_fix_Clamp F _ _ _ (f_fClamp F (a := x) (l := 0) (h := 4294967296))
  rw [h1, h2]
  rfl
theorem lp_turn_Both_0 (F : Nat) (ex) {z : Int} (hz : 0 ≤ z ∧ z < 1073741824) (x0 x1 x2 : Int) : ∀ (k n i : Nat) (x3 x34 x35 x36 : Int), i + k = 30 → k < n → x34 = i → x35 = (bS z i).1 → x36 = (bS z i).2.1 → x3 = (bS z i).2.2 →
    L_turn_Both_0 F ex n x0 x1 x2 x3 536870912 316933406 167458907 85004756 42667331 21354465 10679838 5340245 2670163 1335087 667544 333772 166886 83443 41722 20861 10430 5215 2608 1304 652 326 163 81 41 20 10 5 3 1 x34 x35 x36 = ex x0 x1 x2 (bS z 30).2.2 536870912 316933406 167458907 85004756 42667331 21354465 10679838 5340245 2670163 1335087 667544 333772 166886 83443 41722 20861 10430 5215 2608 1304 652 326 163 81 41 20 10 5 3 1 30 (bS z 30).1 (bS z 30).2.1
  | _, 0, _, _, _, _, _, _, h, _, _, _, _ => absurd h (by omega)
  | 0, n + 1, i, _, _, _, _, h, _, rfl, rfl, rfl, rfl => by
    obtain rfl : i = 30 := by omega
    rw [L_turn_Both_0]
    unfold B_turn_Both_0
    exact bn (df (by omega)) rfl
  | k + 1, n + 1, i, _, _, _, _, h, hn, rfl, rfl, rfl, rfl => by
    have hi' : i < 30 := by omega
    obtain ⟨g1, g2⟩ := angL_get i hi'
    have b1 := bS_I z (i := i + 1) (by omega)
    have b2 := bS_z hz (i := i) (by omega)
    have b3 := tA_bd i hi'
    obtain ⟨t1, t2, t3⟩ := turnedF F (x := (bS z i).1) (y := (bS z i).2.1) (i := i) (by omega) (decide (0 ≤ (bS z i).2.2)) (by simp only [bS] at b1; unfold I64; omega) (by simp only [bS] at b1; unfold I64; omega)
    rw [L_turn_Both_0]
    unfold B_turn_Both_0
    refine bp (dt (by omega)) (bp (by rw [zmul1, g1, show ((decide (0 ≤ (i : Int))) && (decide ((i : Int) < 30))) = true from ix_ok i 30 hi']; rfl) ?_)
    rw [zmul1, g2]
    have eg : decide ((bS z i).2.2 ≥ 0) = decide (0 ≤ (bS z i).2.2) := rfl
    rw [eg]
    refine bp t1 ?_
    rw [t2, t3]
    have w1 : IntKind.wrap .i64 ((i : Int) + 1) = ((i + 1 : Nat) : Int) := wi64_s i (by omega)
    rw [w1]
    by_cases hs : 0 ≤ (bS z i).2.2
    · refine bp (dt hs) ?_
      refine lp_turn_Both_0 F ex hz x0 x1 x2 k n (i + 1) _ _ _ _ (by omega) (by omega) rfl rfl rfl ?_
      simp only [bS]
      rw [if_pos hs, wi64_in (x := 0 - tA i) (by unfold I64; omega), wi64_in (by unfold I64; omega)]
      omega
    · refine bn (df hs) ?_
      refine lp_turn_Both_0 F ex hz x0 x1 x2 k n (i + 1) _ _ _ _ (by omega) (by omega) rfl rfl rfl ?_
      simp only [bS]
      rw [if_neg hs, wi64_in (by unfold I64; omega)]
theorem mask30_u32 {a : Int} (ha : U32 a) : andI .u32 a 1073741823 = a % 1073741824 := by
  have e : andI .u32 a 1073741823 = IntKind.wrap .u32 ((BitVec.ofInt 32 a &&& BitVec.ofInt 32 1073741823).toNat : Int) := rfl
  unfold U32 at ha
  have h1 : (BitVec.ofInt 32 a).toNat = a.toNat := by simp only [BitVec.toNat_ofInt]; omega
  have h2 : (BitVec.ofInt 32 1073741823).toNat = 2 ^ 30 - 1 := by decide
  rw [e, BitVec.toNat_and, h1, h2, Nat.and_two_pow_sub_one_eq_mod, wu32]
  omega
theorem angF (F : Nat) : ok_turn_angles F = true ∧ o_turn_angles_0 F = 536870912 ∧ o_turn_angles_1 F = 316933406 ∧ o_turn_angles_2 F = 167458907 ∧ o_turn_angles_3 F = 85004756 ∧ o_turn_angles_4 F = 42667331 ∧ o_turn_angles_5 F = 21354465 ∧ o_turn_angles_6 F = 10679838 ∧ o_turn_angles_7 F = 5340245 ∧ o_turn_angles_8 F = 2670163 ∧ o_turn_angles_9 F = 1335087 ∧ o_turn_angles_10 F = 667544 ∧ o_turn_angles_11 F = 333772 ∧ o_turn_angles_12 F = 166886 ∧ o_turn_angles_13 F = 83443 ∧ o_turn_angles_14 F = 41722 ∧ o_turn_angles_15 F = 20861 ∧ o_turn_angles_16 F = 10430 ∧ o_turn_angles_17 F = 5215 ∧ o_turn_angles_18 F = 2608 ∧ o_turn_angles_19 F = 1304 ∧ o_turn_angles_20 F = 652 ∧ o_turn_angles_21 F = 326 ∧ o_turn_angles_22 F = 163 ∧ o_turn_angles_23 F = 81 ∧ o_turn_angles_24 F = 41 ∧ o_turn_angles_25 F = 20 ∧ o_turn_angles_26 F = 10 ∧ o_turn_angles_27 F = 5 ∧ o_turn_angles_28 F = 3 ∧ o_turn_angles_29 F = 1 := k_turn_angles F rfl
theorem some_two {a b c d : Int} (h : a = c) (k : b = d) : (some (VV.v (.tuple #[.int .i64 a, .int .i64 b])) : R) = some (.v (.tuple #[.int .i64 c, .int .i64 d])) := by rw [h, k]
theorem f_tBoth (F : Nat) (hF : 200 ≤ F) {a : Int} (ha : U32 a) : f_turn_Both F a = some (.v (.tuple #[.int .i64 (bothC a), .int .i64 (bothS a)])) := by
  unfold f_turn_Both
  obtain ⟨h0, e0, e1, e2, e3, e4, e5, e6, e7, e8, e9, e10, e11, e12, e13, e14, e15, e16, e17, e18, e19, e20, e21, e22, e23, e24, e25, e26, e27, e28, e29⟩ := angF F
  refine bp h0 ?_
  rw [e0, e1, e2, e3, e4, e5, e6, e7, e8, e9, e10, e11, e12, e13, e14, e15, e16, e17, e18, e19, e20, e21, e22, e23, e24, e25, e26, e27, e28, e29, mask30_u32 ha]
  have hz : 0 ≤ a % 1073741824 ∧ a % 1073741824 < 1073741824 := by omega
  rw [wi64_in (x := a % 1073741824) (by unfold I64; omega), lp_turn_Both_0 F _ hz a 0 0 30 F 0 (a % 1073741824) 0 2608131496 0 (by omega) (by omega) rfl rfl rfl rfl]
  obtain ⟨u1, u2⟩ := unitF F (bS (a % 1073741824) 30).1
  obtain ⟨v1, v2⟩ := unitF F (bS (a % 1073741824) 30).2.1
  refine bp u1 (bp v1 ?_)
  rw [u2, v2]
  obtain ⟨F, rfl⟩ : ∃ G, F = G + 4 := ⟨F - 4, by omega⟩
  have c1 := cl01_bd (bS (a % 1073741824) 30).1
  have c2 := cl01_bd (bS (a % 1073741824) 30).2.1
  unfold U32 at ha
  have w0 : IntKind.wrap .u32 (0 + 1) = 1 := by rw [wu32]; omega
  have w1 : IntKind.wrap .u32 (1 + 1) = 2 := by rw [wu32]; omega
  have w2 : IntKind.wrap .u32 (2 + 1) = 3 := by rw [wu32]; omega
  have eC : cl01 (bS (a % 1073741824) 30).1 = bC a := rfl
  have eN : cl01 (bS (a % 1073741824) 30).2.1 = bN a := rfl
  rw [eC] at c1 ⊢
  rw [eN] at c2 ⊢
  rw [fdiv_pos _ (by decide)]
  have n1 : IntKind.wrap .i64 (0 - bN a) = -bN a := by rw [wi64_in (by unfold I64; omega)]; omega
  have n2 : IntKind.wrap .i64 (0 - bC a) = -bC a := by rw [wi64_in (by unfold I64; omega)]; omega
  have n3 : IntKind.wrap .i64 (0 - -bN a) = bN a := by rw [wi64_in (by unfold I64; omega)]; omega
  unfold bothC bothS
  rw [L_turn_Both_1]
  unfold B_turn_Both_1
  by_cases q0 : a / 1073741824 = 0
  · refine bn (df (by omega)) (some_two ?_ ?_) <;> rw [if_pos q0]
  · refine bp (dt (by omega)) ?_
    rw [w0, n1, L_turn_Both_1]
    unfold B_turn_Both_1
    by_cases q1 : a / 1073741824 = 1
    · refine bn (df (by omega)) (some_two ?_ ?_) <;> rw [if_neg q0, if_pos q1]
    · refine bp (dt (by omega)) ?_
      rw [w1, n2, L_turn_Both_1]
      unfold B_turn_Both_1
      by_cases q2 : a / 1073741824 = 2
      · refine bn (df (by omega)) (some_two ?_ ?_) <;> rw [if_neg q0, if_neg q1, if_pos q2]
      · refine bp (dt (by omega)) ?_
        rw [w2, n3, L_turn_Both_1]
        unfold B_turn_Both_1
        refine bn (df (by omega)) (some_two ?_ ?_) <;> rw [if_neg q0, if_neg q1, if_neg q2]
theorem a_tBoth (F : Nat) (hF : 200 ≤ F) {a : Int} (ha : U32 a) : ok_turn_Both F a = true ∧ o_turn_Both_0 F a = bothC a ∧ o_turn_Both_1 F a = bothS a := k_turn_Both F _ (f_tBoth F hF ha)
theorem I64_half {x : Int} (h : I64 x) (i : Nat) : I64 (x / 2 ^ i) := by
  unfold I64 at *
  have := ediv_bd (y := x) (B := 9223372036854775808) (by omega) i
  refine ⟨by omega, ?_⟩
  have hP := p2pos i
  rcases Int.lt_or_le x 0 with hn | hn
  · have := Int.ediv_neg_of_neg_of_pos hn hP; omega
  · have := Int.ediv_le_self (2 ^ i) hn; omega
end Go.Xv
namespace Go.Xv
theorem some_u32 {a b : Int} (h : a = b) : (some (VV.v (.int .u32 a)) : R) = some (.v (.int .u32 b)) := by rw [h]
end Go.Xv
namespace Go.Xv
theorem sz_half (x : Int) : 2 * sz (x / 2) ≤ sz x + 1 := by unfold sz; split <;> split <;> omega
theorem sz_dbl (x : Int) : sz (x * 2) = 2 * sz x := by unfold sz; split <;> split <;> omega
theorem big_half (x y : Int) : 2 * big (x / 2) (y / 2) ≤ big x y + 1 := by
  have := sz_half x
  have := sz_half y
  unfold big; omega
theorem big_dbl (x y : Int) : big (x * 2) (y * 2) = 2 * big x y := by unfold big; rw [sz_dbl, sz_dbl]; omega
theorem down_small {x y : Int} (h : big x y < 2305843009213693952) : ∀ m, down m x y = (x, y)
  | 0 => rfl
  | m + 1 => by rw [down, if_neg (by omega)]
theorem down_end : ∀ (m k : Nat) (x y : Int), big x y ≤ 2305843009213693952 * 2 ^ k → k < m → big (down m x y).1 (down m x y).2 < 2305843009213693952
  | 0, _, _, _, _, h => absurd h (by omega)
  | m + 1, k, x, y, h, hk => by
    rw [down]
    split
    · have h2 := big_half x y
      cases k with
      | zero =>
        have hs : big (x / 2) (y / 2) < 2305843009213693952 := by simp at h; omega
        rw [down_small hs]
        exact hs
      | succ k =>
        refine down_end m k _ _ ?_ (by omega)
        have e : (2 : Int) ^ (k + 1) = 2 * 2 ^ k := by rw [Int.pow_succ]; omega
        rw [e] at h
        omega
    · dsimp only; omega
theorem dbl_end : ∀ (m : Nat) (x y : Int), 1152921504606846976 ≤ big x y * 2 ^ m → 1152921504606846976 ≤ big (dbl m x y).1 (dbl m x y).2
  | 0, x, y, h => by simp [dbl] at h ⊢; omega
  | m + 1, x, y, h => by
    rw [dbl]
    split
    · refine dbl_end m _ _ ?_
      rw [big_dbl, show 2 * big x y * 2 ^ m = big x y * (2 ^ m * 2) by rw [Int.mul_comm 2 (big x y), Int.mul_assoc, Int.mul_comm 2], ← Int.pow_succ]
      exact h
    · dsimp only; omega
theorem dbl_lt : ∀ (m : Nat) (x y : Int), big x y < 2305843009213693952 → big (dbl m x y).1 (dbl m x y).2 < 2305843009213693952
  | 0, x, y, h => h
  | m + 1, x, y, h => by
    rw [dbl]
    split
    · exact dbl_lt m _ _ (by rw [big_dbl]; omega)
    · exact h
theorem down_pos : ∀ (m : Nat) (x y : Int), 1 ≤ big x y → 1 ≤ big (down m x y).1 (down m x y).2
  | 0, x, y, h => h
  | m + 1, x, y, h => by
    rw [down]
    split
    · refine down_pos m _ _ ?_
      have : ∀ z : Int, 2305843009213693952 ≤ sz z → 1 ≤ sz (z / 2) := by intro z; unfold sz; split <;> split <;> omega
      have h1 := this x
      have h2 := this y
      unfold big at *
      omega
    · exact h
theorem big_I {x y : Int} (hx : I64 x) (hy : I64 y) : big x y ≤ 2305843009213693952 * 2 ^ 2 := by
  unfold I64 at *
  unfold big sz
  split <;> split <;> omega
theorem scd_bd {x y : Int} (hx : I64 x) (hy : I64 y) (h : 1 ≤ big x y) : 1152921504606846976 ≤ big (scd x y).1 (scd x y).2 ∧ big (scd x y).1 (scd x y).2 < 2305843009213693952 := by
  have h1 := down_end 64 2 x y (big_I hx hy) (by omega)
  have h2 := down_pos 64 x y h
  unfold scd
  refine ⟨dbl_end 64 _ _ ?_, dbl_lt 64 _ _ h1⟩
  omega
theorem sz_I {x y : Int} (h : big x y < 9223372036854775808) : I64 x ∧ I64 y := by
  unfold big sz at h
  unfold I64
  split at h <;> split at h <;> omega
theorem down_sgn : ∀ (m : Nat) (x y : Int), 0 ≤ x → 0 ≤ (down m x y).1
  | 0, _, _, h => h
  | m + 1, x, y, h => by
    rw [down]
    split
    · exact down_sgn m _ _ (by omega)
    · exact h
theorem dbl_sgn : ∀ (m : Nat) (x y : Int), 0 ≤ x → 0 ≤ (dbl m x y).1
  | 0, _, _, h => h
  | m + 1, x, y, h => by
    rw [dbl]
    split
    · exact dbl_sgn m _ _ (by omega)
    · exact h
theorem scd_sgn {x y : Int} (h : 0 ≤ x) : 0 ≤ (scd x y).1 := dbl_sgn 64 _ _ (down_sgn 64 _ _ h)
theorem opp_I {a : Int} (h : I64 a) : I64 (opp a) := by unfold opp; unfold I64 at *; split <;> omega
theorem a_size (F : Nat) {a : Int} (h : I64 a) : ok_turn_size F a = true ∧ o_turn_size_0 F a = sz a := by
  refine k_turn_size F _ ?_
  unfold f_turn_size sz
  unfold I64 at h
  by_cases hs : a < 0
  · refine bp (dt hs) ?_
    rw [if_pos hs, wu64, wu64]
    congr 3
    omega
  · refine bn (df hs) ?_
    rw [if_neg hs, wu64]
    congr 3
    omega
theorem mx {a b : Int} : (if b > a then b else a) = max a b := by split <;> omega
theorem lp_scaled_0 (F : Nat) (ex) (x0 x1 x4 x5 : Int) : ∀ (m n : Nat) (x y : Int), I64 x → I64 y → m < n → big (down m x y).1 (down m x y).2 < 2305843009213693952 →
    L_turn_pair_scaled_0 F ex n x0 x1 x y x4 x5 = ex x0 x1 (down m x y).1 (down m x y).2 x4 x5
  | _, 0, _, _, _, _, h, _ => absurd h (by omega)
  | 0, n + 1, x, y, hx, hy, _, h => by
    rw [L_turn_pair_scaled_0]
    unfold B_turn_pair_scaled_0
    obtain ⟨a1, a2⟩ := a_size F hx
    obtain ⟨b1, b2⟩ := a_size F hy
    refine bp a1 (bp b1 ?_)
    rw [a2, b2]
    dsimp only
    rw [mx]
    exact bn (df (by unfold big down at h; dsimp only at h; omega)) rfl
  | m + 1, n + 1, x, y, hx, hy, hm, h => by
    rw [L_turn_pair_scaled_0]
    unfold B_turn_pair_scaled_0
    obtain ⟨a1, a2⟩ := a_size F hx
    obtain ⟨b1, b2⟩ := a_size F hy
    refine bp a1 (bp b1 ?_)
    rw [a2, b2]
    dsimp only
    rw [mx]
    rw [down] at h ⊢
    by_cases hc : 2305843009213693952 ≤ big x y
    · rw [if_pos hc] at h ⊢
      refine bp (dt hc) ?_
      rw [fdiv_pos _ (by decide), fdiv_pos _ (by decide)]
      exact lp_scaled_0 F ex x0 x1 x4 x5 m n _ _ (I64_half hx 1) (I64_half hy 1) (by omega) h
    · rw [if_neg hc]
      exact bn (df hc) rfl
theorem lp_scaled_1 (F : Nat) (ex) (x0 x1 x4 x5 : Int) : ∀ (m n : Nat) (x y : Int), I64 x → I64 y → m < n → 1152921504606846976 ≤ big (dbl m x y).1 (dbl m x y).2 →
    L_turn_pair_scaled_1 F ex n x0 x1 x y x4 x5 = ex x0 x1 (dbl m x y).1 (dbl m x y).2 x4 x5
  | _, 0, _, _, _, _, h, _ => absurd h (by omega)
  | 0, n + 1, x, y, hx, hy, _, h => by
    rw [L_turn_pair_scaled_1]
    unfold B_turn_pair_scaled_1
    obtain ⟨a1, a2⟩ := a_size F hx
    obtain ⟨b1, b2⟩ := a_size F hy
    refine bp a1 (bp b1 ?_)
    rw [a2, b2]
    dsimp only
    rw [mx]
    exact bn (df (by unfold big dbl at h; dsimp only at h; omega)) rfl
  | m + 1, n + 1, x, y, hx, hy, hm, h => by
    rw [L_turn_pair_scaled_1]
    unfold B_turn_pair_scaled_1
    obtain ⟨a1, a2⟩ := a_size F hx
    obtain ⟨b1, b2⟩ := a_size F hy
    refine bp a1 (bp b1 ?_)
    rw [a2, b2]
    dsimp only
    rw [mx]
    rw [dbl] at h ⊢
    by_cases hc : big x y < 1152921504606846976
    · rw [if_pos hc] at h ⊢
      refine bp (dt hc) ?_
      obtain ⟨i1, i2⟩ := sz_I (x := x * 2) (y := y * 2) (by rw [big_dbl]; omega)
      rw [wi64_in i1, wi64_in i2]
      exact lp_scaled_1 F ex x0 x1 x4 x5 m n _ _ i1 i2 (by omega) h
    · rw [if_neg hc]
      exact bn (df hc) rfl
theorem a_scaled (F : Nat) (hF : 200 ≤ F) {x y : Int} (hx : I64 x) (hy : I64 y) (h : 1 ≤ big x y) : ok_turn_pair_scaled F x y = true ∧ o_turn_pair_scaled_0 F x y = (scd x y).1 ∧ o_turn_pair_scaled_1 F x y = (scd x y).2 := by
  refine k_turn_pair_scaled F _ _ ?_
  unfold f_turn_pair_scaled
  have h1 := down_end 64 2 x y (big_I hx hy) (by omega)
  have h2 := down_pos 64 x y h
  obtain ⟨i1, i2⟩ := sz_I (x := (down 64 x y).1) (y := (down 64 x y).2) (by omega)
  rw [lp_scaled_0 F _ x y 0 0 64 F x y hx hy (by omega) h1]
  rw [lp_scaled_1 F _ x y 0 0 64 F _ _ i1 i2 (by omega) (dbl_end 64 _ _ (by omega))]
  rfl
/-- bounds of the steps -/
theorem aS_bd {x y : Int} (hx : 0 ≤ x ∧ x ≤ 2305843009213693952) (hy : -2305843009213693952 ≤ y ∧ y ≤ 2305843009213693952) : ∀ {i : Nat}, i ≤ 30 →
    (0 ≤ (aS x y i).1 ∧ (aS x y i).1 ≤ 6917529027641081856 - 2 * 2 ^ (61 - i)) ∧ (-2305843009213693952 ≤ (aS x y i).2.1 ∧ (aS x y i).2.1 ≤ 2305843009213693952) ∧ (-(536870912 * (i : Int)) ≤ (aS x y i).2.2 ∧ (aS x y i).2.2 ≤ 536870912 * (i : Int))
  | 0, _ => by simp only [aS]; omega
  | i + 1, h => by
    obtain ⟨h1, h2, h3⟩ := aS_bd hx hy (i := i) (by omega)
    have ht := tA_bd i (by omega)
    have hPQ : (2 : Int) ^ (61 - i) * 2 ^ i = 2305843009213693952 := by rw [p2add, show 61 - i + i = 61 by omega]; decide
    have e : (2 : Int) * 2 ^ (61 - (i + 1)) = 2 ^ (61 - i) := by
      rw [show 61 - i = (61 - (i + 1)) + 1 by omega, Int.pow_succ]; omega
    rw [e]
    have hQ := p2pos i
    have hP := p2pos (61 - i)
    have hx2 : (aS x y i).1 ≤ 2305843009213693952 * 2 ^ i := by
      match i, h1, hPQ with
      | 0, h1, _ => simp at h1 ⊢; omega
      | 1, h1, _ => simp at h1 ⊢; omega
      | i + 2, h1, _ =>
        have : (2 : Int) ^ (i + 2) = 4 * 2 ^ i := by rw [Int.pow_succ, Int.pow_succ]; omega
        have := p2pos i
        omega
    have hq0 : 0 ≤ (aS x y i).1 / 2 ^ i := Int.ediv_nonneg h1.1 (by omega)
    have hq1 : (aS x y i).1 / 2 ^ i ≤ 2305843009213693952 := Int.ediv_le_of_le_mul hQ hx2
    simp only [aS]
    have hy0 : (aS x y i).2.1 / 2 ^ i ≤ 2 ^ (61 - i) := Int.ediv_le_of_le_mul hQ (by rw [hPQ]; omega)
    have hy1 : -(2 ^ (61 - i)) ≤ (aS x y i).2.1 / 2 ^ i := (Int.le_ediv_iff_mul_le hQ).2 (by rw [Int.neg_mul, hPQ]; omega)
    by_cases hs : (aS x y i).2.1 < 0
    · have hn : (aS x y i).2.1 / 2 ^ i < 0 := Int.ediv_neg_of_neg_of_pos hs hQ
      simp only [hs, decide_true, if_true, rotX, rotY]
      push_cast
      omega
    · have hn : 0 ≤ (aS x y i).2.1 / 2 ^ i := Int.ediv_nonneg (by omega) (by omega)
      simp only [hs, decide_false, if_false, rotX, rotY, Bool.false_eq_true]
      push_cast
      omega
theorem aS_I {x y : Int} (hx : 0 ≤ x ∧ x ≤ 2305843009213693952) (hy : -2305843009213693952 ≤ y ∧ y ≤ 2305843009213693952) {i : Nat} (h : i ≤ 30) : I64 (aS x y i).1 ∧ I64 (aS x y i).2.1 := by
  obtain ⟨h1, h2, _⟩ := aS_bd hx hy h
  have := p2pos (61 - i)
  unfold I64
  omega
theorem lp_turn_Angle_0 (F : Nat) (ex) {x y z : Int} (hx : 0 ≤ x ∧ x ≤ 2305843009213693952) (hy : -2305843009213693952 ≤ y ∧ y ≤ 2305843009213693952) (x0 x1 x2 : Int) : ∀ (k n i : Nat) (x3 x34 x35 x36 : Int), i + k = 30 → k < n → x34 = i → x35 = (aS x y i).1 → x36 = (aS x y i).2.1 → x3 = ((aS x y i).2.2 + z) % 4294967296 →
    L_turn_Angle_0 F ex n x0 x1 x2 x3 536870912 316933406 167458907 85004756 42667331 21354465 10679838 5340245 2670163 1335087 667544 333772 166886 83443 41722 20861 10430 5215 2608 1304 652 326 163 81 41 20 10 5 3 1 x34 x35 x36 = ex x0 x1 x2 (((aS x y 30).2.2 + z) % 4294967296) 536870912 316933406 167458907 85004756 42667331 21354465 10679838 5340245 2670163 1335087 667544 333772 166886 83443 41722 20861 10430 5215 2608 1304 652 326 163 81 41 20 10 5 3 1 30 (aS x y 30).1 (aS x y 30).2.1
  | _, 0, _, _, _, _, _, _, h, _, _, _, _ => absurd h (by omega)
  | 0, n + 1, i, _, _, _, _, h, _, rfl, rfl, rfl, rfl => by
    obtain rfl : i = 30 := by omega
    rw [L_turn_Angle_0]
    unfold B_turn_Angle_0
    exact bn (df (by omega)) rfl
  | k + 1, n + 1, i, _, _, _, _, h, hn, rfl, rfl, rfl, rfl => by
    have hi' : i < 30 := by omega
    obtain ⟨g1, g2⟩ := angL_get i hi'
    obtain ⟨b1, b2⟩ := aS_I hx hy (i := i + 1) (by omega)
    have b3 := tA_bd i hi'
    obtain ⟨t1, t2, t3⟩ := turnedF F (x := (aS x y i).1) (y := (aS x y i).2.1) (i := i) (by omega) (decide ((aS x y i).2.1 < 0)) b1 b2
    rw [L_turn_Angle_0]
    unfold B_turn_Angle_0
    refine bp (dt (by omega)) (bp (by rw [zmul1, g1, show ((decide (0 ≤ (i : Int))) && (decide ((i : Int) < 30))) = true from ix_ok i 30 hi']; rfl) ?_)
    rw [zmul1, g2]
    refine bp t1 ?_
    rw [t2, t3]
    have w1 : IntKind.wrap .i64 ((i : Int) + 1) = ((i + 1 : Nat) : Int) := wi64_s i (by omega)
    rw [w1]
    by_cases hs : (aS x y i).2.1 < 0
    · refine bp (dt hs) ?_
      refine lp_turn_Angle_0 F ex hx hy x0 x1 x2 k n (i + 1) _ _ _ _ (by omega) (by omega) rfl rfl rfl ?_
      simp only [aS]
      rw [if_pos hs, wi64_in (x := 0 - tA i) (by unfold I64; omega), wu32, wu32]
      omega
    · refine bn (df hs) ?_
      refine lp_turn_Angle_0 F ex hx hy x0 x1 x2 k n (i + 1) _ _ _ _ (by omega) (by omega) rfl rfl rfl ?_
      simp only [aS]
      rw [if_neg hs, wu32, wu32]
      omega
end Go.Xv
namespace Go.Xv
def pr (a b : Int) : Int := a * b / 4294967296 + a * b / 2147483648 % 2
theorem pr_near (a b : Int) : near (a * b) 32 = pr a b := by
  unfold near pr
  rw [if_neg (by decide), show (2 : Int) ^ 32 = 4294967296 by decide, show (2 : Int) ^ (32 - 1) = 2147483648 by decide]
theorem pr_bd {a b : Int} (ha : I64 a) (hb : I64 b) : -19807040628566084398385987585 ≤ pr a b ∧ pr a b ≤ 19807040628566084398385987585 := by
  have := mul_bd ha hb
  unfold pr; omega
theorem a_product (F : Nat) {a b : Int} (ha : I64 a) (hb : I64 b) : ok_vec_product F a b = true ∧ o_vec_product_0 F a b = hi (pr a b) ∧ o_vec_product_1 F a b = lo (pr a b) := by
  refine k_vec_product F _ _ ?_
  unfold f_vec_product
  obtain ⟨h1, h2, h3⟩ := a_Mul F ha hb
  obtain ⟨n1, n2, n3⟩ := a_Near F 32 (mul_W ha hb)
  rw [cl32, pr_near] at n2 n3
  refine bp h1 ?_
  rw [h2, h3]
  refine bp n1 ?_
  rw [n2, n3]
theorem a_vclip (F : Nat) {z : Int} (h : W128 z) : ok_vec_clip F (hi z) (lo z) = true ∧ o_vec_clip_0 F (hi z) (lo z) = clipV z ∧ o_vec_clip_1 F (hi z) (lo z) = clipC z := by
  refine k_vec_clip F _ _ ?_
  unfold f_vec_clip
  obtain ⟨h1, h2, h3⟩ := a_Clip F h
  refine bp h1 ?_
  rw [h2, h3]
def dotZ (a0 a1 a2 a3 a4 a5 : Int) : Int := pr a0 a3 + pr a1 a4 + pr a2 a5
theorem dot_W {a0 a1 a2 a3 a4 a5 : Int} (h0 : I64 a0) (h1 : I64 a1) (h2 : I64 a2) (h3 : I64 a3) (h4 : I64 a4) (h5 : I64 a5) : W128 (dotZ a0 a1 a2 a3 a4 a5) := by
  have := pr_bd h0 h3
  have := pr_bd h1 h4
  have := pr_bd h2 h5
  unfold dotZ W128; omega
theorem f_Dot (F : Nat) (hF : 200 ≤ F) {a0 a1 a2 a3 a4 a5 : Int} (h0 : I64 a0) (h1 : I64 a1) (h2 : I64 a2) (h3 : I64 a3) (h4 : I64 a4) (h5 : I64 a5) : f_vec_Dot F a0 a1 a2 a3 a4 a5 = some (.v (.tuple #[.int .i64 (clipV (dotZ a0 a1 a2 a3 a4 a5)), .bool (clipC (dotZ a0 a1 a2 a3 a4 a5))])) := by
  obtain ⟨p1, p2, p3⟩ := a_product F h0 h3
  obtain ⟨q1, q2, q3⟩ := a_product F h1 h4
  obtain ⟨r1, r2, r3⟩ := a_product F h2 h5
  obtain ⟨s1, s2, s3⟩ := a_Add F 0 (pr a0 a3)
  obtain ⟨t1, t2, t3⟩ := a_Add F (pr a0 a3) (pr a1 a4)
  obtain ⟨u1, u2, u3⟩ := a_Add F (pr a0 a3 + pr a1 a4) (pr a2 a5)
  obtain ⟨c1, c2, c3⟩ := a_vclip F (dot_W h0 h1 h2 h3 h4 h5)
  rw [Int.zero_add] at s2 s3
  obtain ⟨G, hG⟩ : ∃ G, F = G + 4 := ⟨F - 4, by omega⟩
  have w1 : IntKind.wrap .i64 (0 + 1) = 1 := by decide
  have w2 : IntKind.wrap .i64 (1 + 1) = 2 := by decide
  have w3 : IntKind.wrap .i64 (2 + 1) = 3 := by decide
  unfold f_vec_Dot
  rw [show L_vec_Dot_0 F _ F = L_vec_Dot_0 F _ (G + 4) from congrArg (L_vec_Dot_0 F _) hG, L_vec_Dot_0]
  unfold B_vec_Dot_0
  refine bp rfl (bp rfl (bp rfl (bp rfl (bp rfl (bp p1 ?_)))))
  have e0 : (iv [.v (.int .i64 a0), .v (.int .i64 a1), .v (.int .i64 a2)][0 + Int.toNat 0 * 1]?) = a0 := rfl
  have e3 : (iv [.v (.int .i64 a3), .v (.int .i64 a4), .v (.int .i64 a5)][0 + Int.toNat 0 * 1]?) = a3 := rfl
  rw [e0, e3, p2, p3]
  have s1' : ok_wide_Add F 0 0 (hi (pr a0 a3)) (lo (pr a0 a3)) = true := s1
  have s2' : o_wide_Add_0 F 0 0 (hi (pr a0 a3)) (lo (pr a0 a3)) = hi (pr a0 a3) := s2
  have s3' : o_wide_Add_1 F 0 0 (hi (pr a0 a3)) (lo (pr a0 a3)) = lo (pr a0 a3) := s3
  refine bp s1' ?_
  rw [s2', s3', w1, L_vec_Dot_0]
  unfold B_vec_Dot_0
  refine bp rfl (bp rfl (bp rfl (bp rfl (bp rfl (bp q1 ?_)))))
  have e1 : (iv [.v (.int .i64 a0), .v (.int .i64 a1), .v (.int .i64 a2)][0 + Int.toNat 1 * 1]?) = a1 := rfl
  have e4 : (iv [.v (.int .i64 a3), .v (.int .i64 a4), .v (.int .i64 a5)][0 + Int.toNat 1 * 1]?) = a4 := rfl
  rw [e1, e4, q2, q3]
  refine bp t1 ?_
  rw [t2, t3, w2, L_vec_Dot_0]
  unfold B_vec_Dot_0
  refine bp rfl (bp rfl (bp rfl (bp rfl (bp rfl (bp r1 ?_)))))
  have e2 : (iv [.v (.int .i64 a0), .v (.int .i64 a1), .v (.int .i64 a2)][0 + Int.toNat 2 * 1]?) = a2 := rfl
  have e5 : (iv [.v (.int .i64 a3), .v (.int .i64 a4), .v (.int .i64 a5)][0 + Int.toNat 2 * 1]?) = a5 := rfl
  rw [e2, e5, r2, r3]
  refine bp u1 ?_
  rw [u2, u3, w3, L_vec_Dot_0]
  unfold B_vec_Dot_0
  refine bn rfl ?_
  have e : pr a0 a3 + pr a1 a4 + pr a2 a5 = dotZ a0 a1 a2 a3 a4 a5 := rfl
  rw [e]
  refine bp c1 ?_
  rw [c2, c3]
theorem a_Dot (F : Nat) (hF : 200 ≤ F) {a0 a1 a2 a3 a4 a5 : Int} (h0 : I64 a0) (h1 : I64 a1) (h2 : I64 a2) (h3 : I64 a3) (h4 : I64 a4) (h5 : I64 a5) : ok_vec_Dot F a0 a1 a2 a3 a4 a5 = true ∧ o_vec_Dot_0 F a0 a1 a2 a3 a4 a5 = clipV (dotZ a0 a1 a2 a3 a4 a5) ∧ o_vec_Dot_1 F a0 a1 a2 a3 a4 a5 = clipC (dotZ a0 a1 a2 a3 a4 a5) := k_vec_Dot F _ _ _ _ _ _ (f_Dot F hF h0 h1 h2 h3 h4 h5)
def sq3 (a b c : Int) : Int := a * a + b * b + c * c
end Go.Xv
namespace Go.Xv
theorem clip_opp {a : Int} (h : I64 a) : clipV (-a) = opp a := by
  unfold clipV opp; unfold I64 at h
  split <;> (try split) <;> (try split) <;> omega
theorem a_opp (F : Nat) {x y : Int} (hx : I64 x) (hy : I64 y) : ok_turn_opposite F x y = true ∧ o_turn_opposite_0 F x y = opp x ∧ o_turn_opposite_1 F x y = opp y := by
  refine k_turn_opposite F _ _ ?_
  unfold f_turn_opposite
  obtain ⟨h1, h2, _⟩ := a_fNeg F hx
  obtain ⟨g1, g2, _⟩ := a_fNeg F hy
  refine bp h1 (bp g1 ?_)
  rw [h2, g2, clip_opp hx, clip_opp hy]
theorem big_one {x y : Int} (h : ¬ (x = 0 ∧ y = 0)) : 1 ≤ big x y := by
  unfold big sz
  split <;> split <;> omega
theorem opp_pos {x : Int} (hx : I64 x) (h : x < 0) : 1 ≤ opp x := by unfold opp; split <;> omega
theorem big_to {x y : Int} (h : big x y < 2305843009213693952) (h0 : 0 ≤ x) : (0 ≤ x ∧ x ≤ 2305843009213693952) ∧ -2305843009213693952 ≤ y ∧ y ≤ 2305843009213693952 := by
  unfold big sz at h
  split at h <;> split at h <;> omega
theorem f_tAngle (F : Nat) (hF : 200 ≤ F) {y x : Int} (hy : I64 y) (hx : I64 x) : f_turn_Angle F y x = some (.v (.int .u32 (angle y x))) := by
  unfold f_turn_Angle
  obtain ⟨h0, e0, e1, e2, e3, e4, e5, e6, e7, e8, e9, e10, e11, e12, e13, e14, e15, e16, e17, e18, e19, e20, e21, e22, e23, e24, e25, e26, e27, e28, e29⟩ := angF F
  rw [e0, e1, e2, e3, e4, e5, e6, e7, e8, e9, e10, e11, e12, e13, e14, e15, e16, e17, e18, e19, e20, e21, e22, e23, e24, e25, e26, e27, e28, e29]
  have neg : x < 0 → angle y x = ((aS (scd (opp x) (opp y)).1 (scd (opp x) (opp y)).2 30).2.2 + 2147483648) % 4294967296 := by
    intro h; unfold angle; rw [if_neg (by omega), if_pos h]
  have pos : ¬ x < 0 → ¬ (x = 0 ∧ y = 0) → angle y x = ((aS (scd x y).1 (scd x y).2 30).2.2 + 0) % 4294967296 := by
    intro h h2; unfold angle; rw [if_neg h2, if_neg h, Int.add_zero]
  by_cases x0 : x = 0
  · refine bp (by simp [x0]) ?_
    by_cases y0 : y = 0
    · refine bp (by simp [y0]) (some_u32 ?_)
      unfold angle
      rw [if_pos ⟨x0, y0⟩]
    · have hb := big_one (x := x) (y := y) (by omega)
      obtain ⟨s1, s2, s3⟩ := a_scaled F hF hx hy hb
      obtain ⟨b1, b2⟩ := big_to (scd_bd hx hy hb).2 (scd_sgn (by omega))
      refine bn (by simp [y0]) (bn (df (by omega)) (bp s1 (bp h0 ?_)))
      rw [s2, s3, lp_turn_Angle_0 F _ (z := 0) b1 b2 _ _ _ 30 F 0 0 0 (scd x y).1 (scd x y).2 (by omega) (by omega) rfl rfl rfl rfl]
      exact some_u32 (pos (by omega) (by omega)).symm
  · refine bn (by simp [x0]) ?_
    by_cases hn : x < 0
    · have hb := big_one (x := opp x) (y := opp y) (by have := opp_pos hx hn; omega)
      obtain ⟨o1, o2, o3⟩ := a_opp F hx hy
      obtain ⟨s1, s2, s3⟩ := a_scaled F hF (opp_I hx) (opp_I hy) hb
      obtain ⟨b1, b2⟩ := big_to (scd_bd (opp_I hx) (opp_I hy) hb).2 (scd_sgn (by have := opp_pos hx hn; omega))
      refine bp (dt hn) (bp o1 ?_)
      rw [o2, o3]
      refine bp s1 (bp h0 ?_)
      rw [s2, s3, lp_turn_Angle_0 F _ (z := 2147483648) b1 b2 _ _ _ 30 F 0 2147483648 0 (scd (opp x) (opp y)).1 (scd (opp x) (opp y)).2 (by omega) (by omega) rfl rfl rfl rfl]
      exact some_u32 (neg hn).symm
    · have hb := big_one (x := x) (y := y) (by omega)
      obtain ⟨s1, s2, s3⟩ := a_scaled F hF hx hy hb
      obtain ⟨b1, b2⟩ := big_to (scd_bd hx hy hb).2 (scd_sgn (by omega))
      refine bn (df hn) (bp s1 (bp h0 ?_))
      rw [s2, s3, lp_turn_Angle_0 F _ (z := 0) b1 b2 _ _ _ 30 F 0 0 0 (scd x y).1 (scd x y).2 (by omega) (by omega) rfl rfl rfl rfl]
      exact some_u32 (pos hn (by omega)).symm
theorem a_tAngle (F : Nat) (hF : 200 ≤ F) {y x : Int} (hy : I64 y) (hx : I64 x) : ok_turn_Angle F y x = true ∧ o_turn_Angle_0 F y x = angle y x := k_turn_Angle F _ _ (f_tAngle F hF hy hx)
theorem angle_U (y x : Int) : U32 (angle y x) := by unfold angle U32; split <;> (try split) <;> omega
end Go.Xv
namespace Go.Xv
theorem a_mSame (F : Nat) (hF : 200 ≤ F) : ok_mat_Same F = true ∧ o_mat_Same_0 F = 4294967296 ∧ o_mat_Same_1 F = 0 ∧ o_mat_Same_2 F = 0 ∧ o_mat_Same_3 F = 0 ∧ o_mat_Same_4 F = 4294967296 ∧ o_mat_Same_5 F = 0 ∧ o_mat_Same_6 F = 0 ∧ o_mat_Same_7 F = 0 ∧ o_mat_Same_8 F = 4294967296 := by
  refine k_mat_Same F ?_
  obtain ⟨G, rfl⟩ : ∃ G, F = G + 4 := ⟨F - 4, by omega⟩
  kernel_rfl
theorem f_Apply' (F : Nat) (hF : 200 ≤ F) {a0 a1 a2 a3 a4 a5 a6 a7 a8 u0 u1 u2 : Int} {p0 p1 p2 : Int} {c0 c1 c2 : Bool} (d0 : ok_vec_Dot F a0 a1 a2 u0 u1 u2 = true ∧ o_vec_Dot_0 F a0 a1 a2 u0 u1 u2 = p0 ∧ o_vec_Dot_1 F a0 a1 a2 u0 u1 u2 = c0) (d1 : ok_vec_Dot F a3 a4 a5 u0 u1 u2 = true ∧ o_vec_Dot_0 F a3 a4 a5 u0 u1 u2 = p1 ∧ o_vec_Dot_1 F a3 a4 a5 u0 u1 u2 = c1) (d2 : ok_vec_Dot F a6 a7 a8 u0 u1 u2 = true ∧ o_vec_Dot_0 F a6 a7 a8 u0 u1 u2 = p2 ∧ o_vec_Dot_1 F a6 a7 a8 u0 u1 u2 = c2) :
    f_mat_Apply F a0 a1 a2 a3 a4 a5 a6 a7 a8 u0 u1 u2 = some (.v (.tuple #[.agg #[.int .i64 p0, .int .i64 p1, .int .i64 p2], .bool (c0 || c1 || c2)])) := by
  obtain ⟨d01, d02, d03⟩ := d0
  obtain ⟨d11, d12, d13⟩ := d1
  obtain ⟨d21, d22, d23⟩ := d2
  have w1 : IntKind.wrap .i64 (0 + 1) = 1 := by decide
  have w2 : IntKind.wrap .i64 (1 + 1) = 2 := by decide
  have w3 : IntKind.wrap .i64 (2 + 1) = 3 := by decide
  unfold f_mat_Apply
  obtain ⟨G, hG⟩ : ∃ G, F = G + 4 := ⟨F - 4, by omega⟩
  rw [show L_mat_Apply_0 F _ F = L_mat_Apply_0 F _ (G + 4) from congrArg (L_mat_Apply_0 F _) hG]
  have e00 : (iv [.v (.int .i64 a0), .v (.int .i64 a1), .v (.int .i64 a2), .v (.int .i64 a3), .v (.int .i64 a4), .v (.int .i64 a5), .v (.int .i64 a6), .v (.int .i64 a7), .v (.int .i64 a8)][Int.toNat 0 * 3]?) = a0 := rfl
  have e01 : (iv [.v (.int .i64 a0), .v (.int .i64 a1), .v (.int .i64 a2), .v (.int .i64 a3), .v (.int .i64 a4), .v (.int .i64 a5), .v (.int .i64 a6), .v (.int .i64 a7), .v (.int .i64 a8)][Int.toNat 0 * 3 + 1]?) = a1 := rfl
  have e02 : (iv [.v (.int .i64 a0), .v (.int .i64 a1), .v (.int .i64 a2), .v (.int .i64 a3), .v (.int .i64 a4), .v (.int .i64 a5), .v (.int .i64 a6), .v (.int .i64 a7), .v (.int .i64 a8)][Int.toNat 0 * 3 + 1 + 1]?) = a2 := rfl
  have e10 : (iv [.v (.int .i64 a0), .v (.int .i64 a1), .v (.int .i64 a2), .v (.int .i64 a3), .v (.int .i64 a4), .v (.int .i64 a5), .v (.int .i64 a6), .v (.int .i64 a7), .v (.int .i64 a8)][Int.toNat 1 * 3]?) = a3 := rfl
  have e11 : (iv [.v (.int .i64 a0), .v (.int .i64 a1), .v (.int .i64 a2), .v (.int .i64 a3), .v (.int .i64 a4), .v (.int .i64 a5), .v (.int .i64 a6), .v (.int .i64 a7), .v (.int .i64 a8)][Int.toNat 1 * 3 + 1]?) = a4 := rfl
  have e12 : (iv [.v (.int .i64 a0), .v (.int .i64 a1), .v (.int .i64 a2), .v (.int .i64 a3), .v (.int .i64 a4), .v (.int .i64 a5), .v (.int .i64 a6), .v (.int .i64 a7), .v (.int .i64 a8)][Int.toNat 1 * 3 + 1 + 1]?) = a5 := rfl
  have e20 : (iv [.v (.int .i64 a0), .v (.int .i64 a1), .v (.int .i64 a2), .v (.int .i64 a3), .v (.int .i64 a4), .v (.int .i64 a5), .v (.int .i64 a6), .v (.int .i64 a7), .v (.int .i64 a8)][Int.toNat 2 * 3]?) = a6 := rfl
  have e21 : (iv [.v (.int .i64 a0), .v (.int .i64 a1), .v (.int .i64 a2), .v (.int .i64 a3), .v (.int .i64 a4), .v (.int .i64 a5), .v (.int .i64 a6), .v (.int .i64 a7), .v (.int .i64 a8)][Int.toNat 2 * 3 + 1]?) = a7 := rfl
  have e22 : (iv [.v (.int .i64 a0), .v (.int .i64 a1), .v (.int .i64 a2), .v (.int .i64 a3), .v (.int .i64 a4), .v (.int .i64 a5), .v (.int .i64 a6), .v (.int .i64 a7), .v (.int .i64 a8)][Int.toNat 2 * 3 + 1 + 1]?) = a8 := rfl
  rw [L_mat_Apply_0]
  unfold B_mat_Apply_0
  refine bp rfl (bp rfl ?_)
  rw [e00, e01, e02]
  refine bp d01 ?_
  rw [d02, d03]
  refine bn rfl (bp rfl (bp rfl ?_))
  rw [w1]
  cases c0
  · rw [L_mat_Apply_0]
    unfold B_mat_Apply_0
    refine bp rfl (bp rfl ?_)
    rw [e10, e11, e12]
    refine bp d11 ?_
    rw [d12, d13]
    refine bn rfl (bp rfl (bp rfl ?_))
    rw [w2]
    cases c1
    · rw [L_mat_Apply_0]
      unfold B_mat_Apply_0
      refine bp rfl (bp rfl ?_)
      rw [e20, e21, e22]
      refine bp d21 ?_
      rw [d22, d23]
      refine bn rfl (bp rfl (bp rfl ?_))
      rw [w3]
      rw [L_mat_Apply_0]
      unfold B_mat_Apply_0
      exact bn rfl (bp rfl rfl)
    · rw [L_mat_Apply_0]
      unfold B_mat_Apply_0
      refine bp rfl (bp rfl ?_)
      rw [e20, e21, e22]
      refine bp d21 ?_
      rw [d22]
      refine bp rfl (bp rfl (bp rfl ?_))
      rw [w3]
      rw [L_mat_Apply_0]
      unfold B_mat_Apply_0
      exact bn rfl (bp rfl rfl)
  · rw [L_mat_Apply_0]
    unfold B_mat_Apply_0
    refine bp rfl (bp rfl ?_)
    rw [e10, e11, e12]
    refine bp d11 ?_
    rw [d12]
    refine bp rfl (bp rfl (bp rfl ?_))
    rw [w2]
    rw [L_mat_Apply_0]
    unfold B_mat_Apply_0
    refine bp rfl (bp rfl ?_)
    rw [e20, e21, e22]
    refine bp d21 ?_
    rw [d22]
    refine bp rfl (bp rfl (bp rfl ?_))
    rw [w3]
    rw [L_mat_Apply_0]
    unfold B_mat_Apply_0
    exact bn rfl (bp rfl rfl)
theorem a_mApply (F : Nat) (hF : 200 ≤ F) {a0 a1 a2 a3 a4 a5 a6 a7 a8 u0 u1 u2 : Int} (ha0 : I64 a0) (ha1 : I64 a1) (ha2 : I64 a2) (ha3 : I64 a3) (ha4 : I64 a4) (ha5 : I64 a5) (ha6 : I64 a6) (ha7 : I64 a7) (ha8 : I64 a8) (hu0 : I64 u0) (hu1 : I64 u1) (hu2 : I64 u2) : ok_mat_Apply F a0 a1 a2 a3 a4 a5 a6 a7 a8 u0 u1 u2 = true ∧ o_mat_Apply_0 F a0 a1 a2 a3 a4 a5 a6 a7 a8 u0 u1 u2 = clipV (dotZ a0 a1 a2 u0 u1 u2) ∧ o_mat_Apply_1 F a0 a1 a2 a3 a4 a5 a6 a7 a8 u0 u1 u2 = clipV (dotZ a3 a4 a5 u0 u1 u2) ∧ o_mat_Apply_2 F a0 a1 a2 a3 a4 a5 a6 a7 a8 u0 u1 u2 = clipV (dotZ a6 a7 a8 u0 u1 u2) ∧ o_mat_Apply_3 F a0 a1 a2 a3 a4 a5 a6 a7 a8 u0 u1 u2 = (clipC (dotZ a0 a1 a2 u0 u1 u2) || clipC (dotZ a3 a4 a5 u0 u1 u2) || clipC (dotZ a6 a7 a8 u0 u1 u2)) :=
  k_mat_Apply F _ _ _ _ _ _ _ _ _ _ _ _ (f_Apply' F hF (a_Dot F hF ha0 ha1 ha2 hu0 hu1 hu2) (a_Dot F hF ha3 ha4 ha5 hu0 hu1 hu2) (a_Dot F hF ha6 ha7 ha8 hu0 hu1 hu2))
theorem neg_both (x : Int) : IntKind.wrap .i64 (0 - bothS x) = -bothS x := by
  have := (both_bd x).2
  rw [wi64_in (by unfold I64; omega), Int.zero_sub]
theorem a_mAbout2 (F : Nat) (hF : 200 ≤ F) {x : Int} (hx : U32 x) : ok_mat_About F 2 x = true ∧ o_mat_About_0 F 2 x = (bothC x) ∧ o_mat_About_1 F 2 x = (-bothS x) ∧ o_mat_About_2 F 2 x = 0 ∧ o_mat_About_3 F 2 x = (bothS x) ∧ o_mat_About_4 F 2 x = (bothC x) ∧ o_mat_About_5 F 2 x = 0 ∧ o_mat_About_6 F 2 x = 0 ∧ o_mat_About_7 F 2 x = 0 ∧ o_mat_About_8 F 2 x = 4294967296 ∧ o_mat_About_9 F 2 x = 0 := by
  refine k_mat_About F _ _ ?_
  unfold f_mat_About
  obtain ⟨h1, h2, h3⟩ := a_tBoth F hF hx
  obtain ⟨m0, mm0, mm1, mm2, mm3, mm4, mm5, mm6, mm7, mm8⟩ := a_mSame F hF
  have w1 : Int.tmod (IntKind.wrap .i64 (2 + 1)) 3 = 0 := by decide
  have w2 : Int.tmod (IntKind.wrap .i64 (2 + 2)) 3 = 1 := by decide
  refine bn rfl (bn rfl (bp h1 ?_))
  rw [h2, h3, w1, w2]
  refine bp m0 ?_
  rw [mm0, mm1, mm2, mm3, mm4, mm5, mm6, mm7, mm8]
  dsimp only
  rw [neg_both]
  refine bp rfl (bp rfl (bp rfl (bp rfl (bp rfl (bp rfl (bp rfl (bp rfl (bp rfl (bp rfl (bp rfl (bp rfl (bp rfl ?_))))))))))))
  rfl
theorem f_works07 (F : Nat) (hF : 200 ≤ F) : f_law07_works F = some (.v (.bool true)) := by
  unfold f_law07_works
  have hI : ∀ y : Int, -4294967296 ≤ y ∧ y ≤ 4294967296 → I64 y := fun y h => by unfold I64; omega
  obtain ⟨⟨b1, b2⟩, b3, b4⟩ := both_bd 1073741824
  obtain ⟨a0_, aa0, aa1, aa2, aa3, aa4, aa5, aa6, aa7, aa8, a9_⟩ := a_mAbout2 F hF (x := 1073741824) (by unfold U32; omega)
  have eC : bothC 1073741824 = (-23) := by decide +kernel
  have eS : bothS 1073741824 = 4294967296 := by decide +kernel
  rw [eC] at aa0 aa4
  rw [eS] at aa1 aa3
  refine bp a0_ ?_
  rw [aa0, aa1, aa2, aa3, aa4, aa5, aa6, aa7, aa8]
  obtain ⟨p0_, p1, p2, p3, p4⟩ := a_mApply F hF (a0 := (-23)) (a1 := -4294967296) (a2 := 0) (a3 := 4294967296) (a4 := (-23)) (a5 := 0) (a6 := 0) (a7 := 0) (a8 := 4294967296) (u0 := 4294967296) (u1 := 0) (u2 := 0) (by unfold I64; omega) (by unfold I64; omega) (by unfold I64; omega) (by unfold I64; omega) (by unfold I64; omega) (by unfold I64; omega) (by unfold I64; omega) (by unfold I64; omega) (by unfold I64; omega) (by unfold I64; omega) (by unfold I64; omega) (by unfold I64; omega)
  obtain ⟨q0_, q1, q2, q3, q4⟩ := a_mApply F hF (a0 := (-23)) (a1 := -4294967296) (a2 := 0) (a3 := 4294967296) (a4 := (-23)) (a5 := 0) (a6 := 0) (a7 := 0) (a8 := 4294967296) (u0 := 0) (u1 := 0) (u2 := 4294967296) (by unfold I64; omega) (by unfold I64; omega) (by unfold I64; omega) (by unfold I64; omega) (by unfold I64; omega) (by unfold I64; omega) (by unfold I64; omega) (by unfold I64; omega) (by unfold I64; omega) (by unfold I64; omega) (by unfold I64; omega) (by unfold I64; omega)
  obtain ⟨m0, mm0, mm1, mm2, mm3, mm4, mm5, mm6, mm7, mm8⟩ := a_mSame F hF
  refine bp p0_ ?_
  refine bp q0_ ?_
  refine bp (by rw [a9_]; rfl) ?_
  refine bp ?_ ?_
  · rw [p2]; decide
  refine bp ?_ ?_
  · rw [p4]; decide
  refine bp ?_ ?_
  · rw [q1, q2, q3]; decide
  refine bp ?_ ?_
  · rw [q4]; decide
  refine bp m0 (some_bool ?_)
  rw [mm4]; rfl
theorem a_works07 (F : Nat) (hF : 200 ≤ F) : ok_law07_works F = true ∧ o_law07_works_0 F = true := k_law07_works F (f_works07 F hF)
theorem a_Heading (F : Nat) (hF : 200 ≤ F) {a0 a1 a2 a3 a4 a5 a6 a7 a8 : Int} (ha0 : I64 a0) (ha3 : I64 a3) : ok_mat_Heading F a0 a1 a2 a3 a4 a5 a6 a7 a8 = true ∧ o_mat_Heading_0 F a0 a1 a2 a3 a4 a5 a6 a7 a8 = angle a3 a0 := by
  refine k_mat_Heading F _ _ _ _ _ _ _ _ _ ?_
  unfold f_mat_Heading
  obtain ⟨h1, h2⟩ := a_tAngle F hF ha3 ha0
  refine bp h1 ?_
  rw [h2]
end Go.Xv
namespace Go.Xv
structure Cx where
  re : Rat
  im : Rat
namespace Cx
def mul (a b : Cx) : Cx := ⟨a.re * b.re - a.im * b.im, a.re * b.im + a.im * b.re⟩
def add (a b : Cx) : Cx := ⟨a.re + b.re, a.im + b.im⟩
def sub (a b : Cx) : Cx := ⟨a.re - b.re, a.im - b.im⟩
def cj (a : Cx) : Cx := ⟨a.re, -a.im⟩
def sc (r : Rat) (a : Cx) : Cx := ⟨r * a.re, r * a.im⟩
def one : Cx := ⟨1, 0⟩
def n2 (a : Cx) : Rat := a.re * a.re + a.im * a.im
theorem eqC {a b : Cx} (h1 : a.re = b.re) (h2 : a.im = b.im) : a = b := by cases a; cases b; simp_all
theorem mul_comm (a b : Cx) : mul a b = mul b a := by apply eqC <;> simp only [mul] <;> grind
theorem mul_assoc (a b c : Cx) : mul (mul a b) c = mul a (mul b c) := by apply eqC <;> simp only [mul] <;> grind
theorem mul_one (a : Cx) : mul a one = a := by apply eqC <;> simp only [mul, one] <;> grind
theorem one_mul (a : Cx) : mul one a = a := by apply eqC <;> simp only [mul, one] <;> grind
theorem n2_mul (a b : Cx) : n2 (mul a b) = n2 a * n2 b := by simp only [mul, n2]; grind
theorem n2_cj (a : Cx) : n2 (cj a) = n2 a := by simp only [cj, n2]; grind
theorem cj_mul (a b : Cx) : cj (mul a b) = mul (cj a) (cj b) := by apply eqC <;> simp only [mul, cj] <;> grind
theorem cj_cj (a : Cx) : cj (cj a) = a := by apply eqC <;> simp only [cj] <;> grind
theorem mul_cj (a : Cx) : mul a (cj a) = ⟨n2 a, 0⟩ := by apply eqC <;> simp only [mul, cj, n2] <;> grind
theorem sq_nn (a : Rat) : 0 ≤ a * a := by
  rcases Rat.le_total (a := 0) (b := a) with h | h
  · exact Rat.mul_nonneg h h
  · have := Rat.mul_nonneg (a := -a) (b := -a) (by grind) (by grind)
    grind
theorem n2_nn (a : Cx) : 0 ≤ n2 a := by
  have := sq_nn a.re
  have := sq_nn a.im
  simp only [n2]; grind
theorem le_of_sq {x y : Rat} (hy : 0 ≤ y) (h : x * x ≤ y * y) : x ≤ y := by
  rcases Rat.le_total (a := x) (b := y) with hx | hx
  · exact hx
  · by_cases he : x = y
    · grind
    · have hlt : 0 < x - y := by grind
      have h0 : 0 < x := by grind
      have h1 := Rat.mul_pos hlt h0
      have h2 := Rat.mul_nonneg (Rat.le_of_lt hlt) hy
      grind
theorem sq_le_sq {x y : Rat} (hx : 0 ≤ x) (h : x ≤ y) : x * x ≤ y * y := by
  have h1 := Rat.mul_nonneg hx (show 0 ≤ y - x by grind)
  have h2 := Rat.mul_nonneg (show 0 ≤ y by grind) (show 0 ≤ y - x by grind)
  grind
/-- not longer than -/
def Nm (a : Cx) (e : Rat) : Prop := 0 ≤ e ∧ n2 a ≤ e * e
theorem Nm.mono {a : Cx} {e f : Rat} (h : Nm a e) (k : e ≤ f) : Nm a f := by
  refine ⟨by have := h.1; grind, ?_⟩
  have := sq_le_sq h.1 k
  have := h.2
  grind
theorem Nm.add {a b : Cx} {e f : Rat} (h : Nm a e) (k : Nm b f) : Nm (add a b) (e + f) := by
  obtain ⟨h1, h2⟩ := h
  obtain ⟨k1, k2⟩ := k
  refine ⟨by grind, ?_⟩
  have hd : a.re * b.re + a.im * b.im ≤ e * f := by
    refine le_of_sq (Rat.mul_nonneg h1 k1) ?_
    have e1 := sq_nn (a.re * b.im - a.im * b.re)
    have e2 : (a.re * b.re + a.im * b.im) * (a.re * b.re + a.im * b.im) + (a.re * b.im - a.im * b.re) * (a.re * b.im - a.im * b.re) = n2 a * n2 b := by simp only [n2]; grind
    have e3 : n2 a * n2 b ≤ (e * e) * n2 b := Rat.mul_le_mul_of_nonneg_right h2 (n2_nn b)
    have e4 : (e * e) * n2 b ≤ (e * e) * (f * f) := Rat.mul_le_mul_of_nonneg_left k2 (sq_nn e)
    grind
  simp only [Cx.add, n2] at *
  grind
theorem Nm.mul {a b : Cx} {e f : Rat} (h : Nm a e) (k : Nm b f) : Nm (mul a b) (e * f) := by
  refine ⟨Rat.mul_nonneg h.1 k.1, ?_⟩
  rw [n2_mul]
  have e3 : n2 a * n2 b ≤ (e * e) * n2 b := Rat.mul_le_mul_of_nonneg_right h.2 (n2_nn b)
  have e4 : (e * e) * n2 b ≤ (e * e) * (f * f) := Rat.mul_le_mul_of_nonneg_left k.2 (sq_nn e)
  grind
theorem Nm.cj {a : Cx} {e : Rat} (h : Nm a e) : Nm (cj a) e := ⟨h.1, by rw [n2_cj]; exact h.2⟩
theorem Nm.neg {a b : Cx} {e : Rat} (h : Nm (sub a b) e) : Nm (sub b a) e := by
  refine ⟨h.1, ?_⟩
  have := h.2
  simp only [sub, n2] at *
  grind
theorem Nm.sc {a : Cx} {e r : Rat} (hr : 0 ≤ r) (h : Nm a e) : Nm (sc r a) (r * e) := by
  refine ⟨Rat.mul_nonneg hr h.1, ?_⟩
  have e1 := Rat.mul_le_mul_of_nonneg_left h.2 (sq_nn r)
  simp only [Cx.sc, n2] at *
  grind
theorem Nm.trans {a b c : Cx} {e f : Rat} (h : Nm (sub a b) e) (k : Nm (sub b c) f) : Nm (sub a c) (e + f) := by
  have := h.add k
  have e : Cx.add (sub a b) (sub b c) = sub a c := by apply eqC <;> simp only [Cx.add, sub] <;> grind
  rwa [e] at this
theorem Nm.re {a : Cx} {e : Rat} (h : Nm a e) : a.re ≤ e ∧ -e ≤ a.re := by
  have h1 := sq_nn a.im
  have h2 := h.2
  simp only [n2] at h2
  constructor
  · exact le_of_sq h.1 (by grind)
  · have := le_of_sq (x := -a.re) h.1 (by grind)
    grind
theorem Nm.im {a : Cx} {e : Rat} (h : Nm a e) : a.im ≤ e ∧ -e ≤ a.im := by
  have h1 := sq_nn a.re
  have h2 := h.2
  simp only [n2] at h2
  constructor
  · exact le_of_sq h.1 (by grind)
  · have := le_of_sq (x := -a.im) h.1 (by grind)
    grind
theorem Nm.of {a : Cx} {x y : Rat} (hx : a.re ≤ x) (hx' : -x ≤ a.re) (hy : a.im ≤ y) (hy' : -y ≤ a.im) : Nm a (x + y) := by
  have h0 : 0 ≤ x := by grind
  have k0 : 0 ≤ y := by grind
  refine ⟨by grind, ?_⟩
  have h1 : a.re * a.re ≤ x * x := by
    have := Rat.mul_nonneg (show 0 ≤ x - a.re by grind) (show 0 ≤ x + a.re by grind)
    grind
  have k1 : a.im * a.im ≤ y * y := by
    have := Rat.mul_nonneg (show 0 ≤ y - a.im by grind) (show 0 ≤ y + a.im by grind)
    grind
  have := Rat.mul_nonneg h0 k0
  simp only [n2]
  grind
/-- 1.5 is enough for two parts of at most one each -/
theorem Nm.unit {a : Cx} (hx : a.re ≤ 1) (hx' : -1 ≤ a.re) (hy : a.im ≤ 1) (hy' : -1 ≤ a.im) : Nm a (3 / 2) := by
  refine ⟨by grind, ?_⟩
  have h1 : a.re * a.re ≤ 1 := by
    have := Rat.mul_nonneg (show 0 ≤ 1 - a.re by grind) (show 0 ≤ 1 + a.re by grind)
    grind
  have k1 : a.im * a.im ≤ 1 := by
    have := Rat.mul_nonneg (show 0 ≤ 1 - a.im by grind) (show 0 ≤ 1 + a.im by grind)
    grind
  simp only [n2]
  grind
/-- what has the length 1 -/
def U (a : Cx) : Prop := n2 a = 1
theorem U.nm {a : Cx} (h : U a) : Nm a 1 := ⟨by grind, by unfold U at h; grind⟩
theorem U.mul {a b : Cx} (h : U a) (k : U b) : U (mul a b) := by unfold U at *; rw [n2_mul, h, k]; grind
theorem U.cj {a : Cx} (h : U a) : U (cj a) := by unfold U at *; rw [n2_cj, h]
theorem U.mul_cj {a : Cx} (h : U a) : Cx.mul a (Cx.cj a) = one := by rw [Cx.mul_cj]; unfold U at h; rw [h]; rfl
theorem U_one : U one := by simp only [U, n2, one]; grind
/-- to turn changes no length -/
theorem Nm.turn {a u : Cx} {e : Rat} (h : Nm a e) (k : U u) : Nm (Cx.mul a u) e := by
  have := h.mul k.nm
  rwa [Rat.mul_one] at this
theorem sub_mul (a b c : Cx) : mul (sub a b) c = sub (mul a c) (mul b c) := by apply eqC <;> simp only [mul, sub] <;> grind
end Cx
end Go.Xv
namespace Go.Xv
namespace Cx
def wA : Rat := 1329227995784915872903807060280344576
def wB : Rat := 972275833250902676855126013
def w : Cx := ⟨(wA * wA - wB * wB) / (wA * wA + wB * wB), 2 * wA * wB / (wA * wA + wB * wB)⟩
theorem w_U : U w := by unfold U; decide +kernel
def V : Nat → Cx
  | 0 => one
  | n + 1 => mul (V n) w
theorem V_U : ∀ n, U (V n)
  | 0 => U_one
  | n + 1 => (V_U n).mul w_U
theorem V_add (n : Nat) : ∀ m, V (n + m) = mul (V n) (V m)
  | 0 => (mul_one _).symm
  | m + 1 => by
    show mul (V (n + m)) w = mul (V n) (mul (V m) w)
    rw [V_add n m, mul_assoc]
def VI (n : Int) : Cx := mul (V n.toNat) (cj (V (-n).toNat))
theorem cj_one : cj one = one := by apply eqC <;> simp only [cj, one] <;> grind
theorem VI_nat (n : Nat) : VI n = V n := by
  unfold VI
  rw [Int.toNat_natCast, show (-(n : Int)).toNat = 0 by omega]
  show mul (V n) (cj one) = V n
  rw [cj_one, mul_one]
theorem VI_sub (a b : Nat) : VI ((a : Int) - b) = mul (V a) (cj (V b)) := by
  unfold VI
  rcases Nat.le_total b a with h | h
  · obtain ⟨d, rfl⟩ : ∃ d, a = d + b := ⟨a - b, by omega⟩
    rw [show (((d + b : Nat) : Int) - b).toNat = d by omega, show (-(((d + b : Nat) : Int) - b)).toNat = 0 by omega, V_add, mul_assoc, (V_U b).mul_cj]
    show mul (V d) (cj one) = _
    rw [cj_one]
  · obtain ⟨d, rfl⟩ : ∃ d, b = a + d := ⟨b - a, by omega⟩
    rw [show ((a : Int) - ((a + d : Nat) : Int)).toNat = 0 by omega, show (-((a : Int) - ((a + d : Nat) : Int))).toNat = d by omega, V_add, cj_mul, ← mul_assoc, (V_U a).mul_cj]
    rfl
theorem int_sub (n : Int) : ∃ a b : Nat, n = (a : Int) - b := ⟨n.toNat, (-n).toNat, by omega⟩
theorem VI_add (n m : Int) : VI (n + m) = mul (VI n) (VI m) := by
  obtain ⟨a, b, rfl⟩ := int_sub n
  obtain ⟨c, d, rfl⟩ := int_sub m
  rw [show (a : Int) - b + (c - d) = ((a + c : Nat) : Int) - ((b + d : Nat) : Int) by omega, VI_sub, VI_sub, VI_sub, V_add, V_add, cj_mul]
  rw [mul_assoc, mul_assoc, ← mul_assoc (V c), mul_comm (V c) (cj (V b)), mul_assoc (cj (V b))]
theorem VI_neg (n : Int) : VI (-n) = cj (VI n) := by
  obtain ⟨a, b, rfl⟩ := int_sub n
  rw [show -((a : Int) - b) = (b : Int) - a by omega, VI_sub, VI_sub, cj_mul, cj_cj, mul_comm]
theorem VI_U (n : Int) : U (VI n) := (V_U _).mul (V_U _).cj
theorem VI_zero : VI 0 = one := by rw [show (0 : Int) = ((0 : Nat) : Int) by rfl, VI_nat]; rfl
def Q : Int := 340282366920938463463374607431768211456
def q : Rat := 340282366920938463463374607431768211456
theorem Qq : ((Q : Int) : Rat) = q := by decide +kernel
theorem q0 : (0 : Rat) < q := by decide +kernel
def r : Rat := 1 / q
theorem qr : q * r = 1 := by decide +kernel
theorem r0 : (0 : Rat) < r := by decide +kernel
def toC (a b : Int) : Cx := ⟨(a : Rat) * r, (b : Rat) * r⟩
def Ap (z : Cx) (a b e : Int) : Prop := 0 ≤ e ∧ Nm (sub z (toC a b)) ((e : Rat) * r)
theorem cast_le {a b : Int} (h : a ≤ b) : (a : Rat) ≤ (b : Rat) := Rat.intCast_le_intCast.2 h
theorem floor_q (x : Int) : ((x / Q : Int) : Rat) * q ≤ x ∧ (x : Rat) ≤ ((x / Q : Int) : Rat) * q + q := by
  have h1 := Int.mul_ediv_add_emod x Q
  have h2 := Int.emod_nonneg x (show Q ≠ 0 by decide)
  have h3 := Int.emod_lt_of_pos x (show 0 < Q by decide)
  rw [← Qq, ← Rat.intCast_mul, ← Rat.intCast_add]
  refine ⟨cast_le ?_, cast_le ?_⟩
  · rw [Int.mul_comm]; omega
  · rw [Int.mul_comm]; omega
theorem floor_r (x : Int) : ((x / Q : Int) : Rat) ≤ x * r ∧ (x : Rat) * r ≤ ((x / Q : Int) : Rat) + 1 := by
  obtain ⟨h1, h2⟩ := floor_q x
  have m1 := Rat.mul_le_mul_of_nonneg_right (c := r) h1 (Rat.le_of_lt r0)
  have m2 := Rat.mul_le_mul_of_nonneg_right (c := r) h2 (Rat.le_of_lt r0)
  rw [Rat.mul_assoc, qr, Rat.mul_one] at m1
  rw [Rat.add_mul, Rat.mul_assoc, qr, Rat.mul_one] at m2
  exact ⟨m1, m2⟩
theorem Ap.mul {z y : Cx} {a b e c d f : Int} (hz : U z) (hy : U y) (h : Ap z a b e) (k : Ap y c d f) :
    Ap (mul z y) ((a * c - b * d) / Q) ((a * d + b * c) / Q) (e + f + e * f / Q + 3) := by
  obtain ⟨h0, h1⟩ := h
  obtain ⟨k0, k1⟩ := k
  have hef : 0 ≤ e * f / Q := Int.ediv_nonneg (Int.mul_nonneg h0 k0) (by decide)
  refine ⟨by omega, ?_⟩
  have e1 : Nm (toC a b) (1 + (e : Rat) * r) := by
    have := (hz.nm).add h1.neg
    have e : Cx.add z (sub (toC a b) z) = toC a b := by apply eqC <;> simp only [Cx.add, sub] <;> grind
    rwa [e] at this
  have e2 := (h1.turn hy).add (e1.mul k1)
  have f1 := floor_r (a * c - b * d)
  have f2 := floor_r (a * d + b * c)
  have f3 := floor_r (e * f)
  simp only [Rat.intCast_sub, Rat.intCast_add, Rat.intCast_mul] at f1 f2 f3
  have e3 : Nm (sub (Cx.mul (toC a b) (toC c d)) (toC ((a * c - b * d) / Q) ((a * d + b * c) / Q))) (r * (3 / 2)) := by
    have g : Nm ⟨((a : Rat) * c - b * d) * r - ((a * c - b * d) / Q : Int), ((a : Rat) * d + b * c) * r - ((a * d + b * c) / Q : Int)⟩ (3 / 2) := by
      apply Nm.unit <;> simp only <;> grind
    have g2 := g.sc (r := r) (Rat.le_of_lt r0)
    have ee : Cx.sc r ⟨((a : Rat) * c - b * d) * r - ((a * c - b * d) / Q : Int), ((a : Rat) * d + b * c) * r - ((a * d + b * c) / Q : Int)⟩ = sub (Cx.mul (toC a b) (toC c d)) (toC ((a * c - b * d) / Q) ((a * d + b * c) / Q)) := by
      apply eqC <;> simp only [Cx.sc, Cx.mul, sub, toC] <;> grind
    rwa [ee] at g2
  have e4 := e2.add e3
  have ee : Cx.add (Cx.add (Cx.mul (sub z (toC a b)) y) (Cx.mul (toC a b) (sub y (toC c d)))) (sub (Cx.mul (toC a b) (toC c d)) (toC ((a * c - b * d) / Q) ((a * d + b * c) / Q))) = sub (Cx.mul z y) (toC ((a * c - b * d) / Q) ((a * d + b * c) / Q)) := by
    apply eqC <;> simp only [Cx.add, Cx.mul, sub] <;> grind
  rw [ee] at e4
  refine e4.mono ?_
  have m5 := Rat.mul_le_mul_of_nonneg_right (c := r) f3.2 (Rat.le_of_lt r0)
  have hr := r0
  simp only [Rat.intCast_add]
  generalize ((e * f / Q : Int) : Rat) = g at *
  have t3 : ((3 : Int) : Rat) = 3 := by decide +kernel
  rw [t3]
  grind
def sq3 (p : Int × Int × Int) : Int × Int × Int := ((p.1 * p.1 - p.2.1 * p.2.1) / Q, (p.1 * p.2.1 + p.2.1 * p.1) / Q, p.2.2 + p.2.2 + p.2.2 * p.2.2 / Q + 3)
def w0 : Int := 340282366920938463099250474440462542326
def w1 : Int := 497805226624462170283482630030
def mw (p : Int × Int × Int) : Int × Int × Int := ((p.1 * w0 - p.2.1 * w1) / Q, (p.1 * w1 + p.2.1 * w0) / Q, p.2.2 + 2 + p.2.2 * 2 / Q + 3)
theorem w_Ap : Ap w w0 w1 2 := by
  refine ⟨by decide, ?_, ?_⟩
  · decide +kernel
  · decide +kernel
def pw : Nat → Nat → Int × Int × Int
  | 0, _ => (Q, 0, 0)
  | f + 1, n => if n = 0 then (Q, 0, 0) else if n % 2 = 1 then mw (sq3 (pw f (n / 2))) else sq3 (pw f (n / 2))
theorem one_Ap : Ap one Q 0 0 := by
  refine ⟨by decide, ?_, ?_⟩
  · decide +kernel
  · decide +kernel
theorem pw_ok : ∀ (f n : Nat), n < 2 ^ f → Ap (V n) (pw f n).1 (pw f n).2.1 (pw f n).2.2
  | 0, n, h => by
    obtain rfl : n = 0 := by simp at h; omega
    exact one_Ap
  | f + 1, n, h => by
    rw [pw]
    by_cases h0 : n = 0
    · rw [if_pos h0]; subst h0; exact one_Ap
    · rw [if_neg h0]
      have ih := pw_ok f (n / 2) (by rw [Nat.pow_succ] at h; omega)
      have hs := Ap.mul (V_U _) (V_U _) ih ih
      rw [← V_add] at hs
      by_cases h1 : n % 2 = 1
      · rw [if_pos h1]
        have hm := Ap.mul (V_U _) w_U hs w_Ap
        rw [show n = (n / 2 + n / 2) + 1 by omega]
        rw [show ((n / 2 + n / 2) + 1) / 2 = n / 2 by omega]
        exact hm
      · rw [if_neg h1]
        rw [show n / 2 + n / 2 = n by omega] at hs
        exact hs
end Cx
end Go.Xv
namespace Go.Xv
namespace Cx
theorem Ap.bd {z : Cx} {a b e : Int} (h : Ap z a b e) : (z.re ≤ ((a + e : Int) : Rat) * r ∧ ((a - e : Int) : Rat) * r ≤ z.re) ∧ (z.im ≤ ((b + e : Int) : Rat) * r ∧ ((b - e : Int) : Rat) * r ≤ z.im) := by
  obtain ⟨_, h⟩ := h
  have h1 := h.re
  have h2 := h.im
  simp only [sub, toC] at h1 h2
  simp only [Rat.intCast_sub, Rat.intCast_add]
  grind
theorem pw_bd (f n : Nat) (h : n < 2 ^ f) : ((V n).re ≤ (((pw f n).1 + (pw f n).2.2 : Int) : Rat) * r ∧ (((pw f n).1 - (pw f n).2.2 : Int) : Rat) * r ≤ (V n).re) ∧ ((V n).im ≤ (((pw f n).2.1 + (pw f n).2.2 : Int) : Rat) * r ∧ (((pw f n).2.1 - (pw f n).2.2 : Int) : Rat) * r ≤ (V n).im) := (pw_ok f n h).bd
def Lw : Rat := 147 / 100000000000
theorem lip1 : Nm (sub w one) Lw := ⟨by decide +kernel, by decide +kernel⟩
theorem lip (m : Nat) : ∀ d : Nat, Nm (sub (V (m + d)) (V m)) ((d : Rat) * Lw)
  | 0 => by
    refine ⟨by simp, ?_⟩
    simp only [Nat.add_zero, sub, n2]; grind
  | d + 1 => by
    have h := lip1.turn (V_U (m + d))
    have k := (lip m d).add h
    have e : Cx.add (sub (V (m + d)) (V m)) (mul (sub w one) (V (m + d))) = sub (V (m + (d + 1))) (V m) := by
      rw [← Nat.add_assoc, show V (m + d + 1) = mul (V (m + d)) w from rfl]
      apply eqC <;> simp only [Cx.add, sub, mul, one] <;> grind
    rw [e] at k
    refine k.mono ?_
    rw [Rat.natCast_add]
    show _ ≤ ((d : Rat) + ((1 : Nat) : Rat)) * Lw
    have : ((1 : Nat) : Rat) = 1 := by decide +kernel
    rw [this]
    grind
theorem cast_leN {a b : Nat} (h : a ≤ b) : (a : Rat) ≤ (b : Rat) := Rat.natCast_le_natCast.2 h
theorem lipB (m d : Nat) (h : d ≤ 268435456) : Nm (sub (V (m + d)) (V m)) (2 / 5) := by
  refine (lip m d).mono ?_
  have h1 := Rat.mul_le_mul_of_nonneg_right (c := Lw) (cast_leN h) (by decide +kernel)
  have h2 : ((268435456 : Nat) : Rat) * Lw ≤ 2 / 5 := by decide +kernel
  grind
theorem half_re {m : Nat} (h : m ≤ 536870912) : 1 / 2 ≤ (V m).re := by
  rcases Nat.le_total m 268435456 with h1 | h1
  · have k := (lipB 0 m h1).re
    rw [Nat.zero_add] at k
    simp only [sub, V, one] at k
    grind
  · obtain ⟨d, rfl⟩ : ∃ d, m = 268435456 + d := ⟨m - 268435456, by omega⟩
    have k := (lipB 268435456 d (by omega)).re
    have g := (pw_bd 30 268435456 (by decide)).1.2
    have g2 : 9 / 10 ≤ (((pw 30 268435456).1 - (pw 30 268435456).2.2 : Int) : Rat) * r := by decide +kernel
    have g3 := Rat.le_trans g2 g
    clear g g2
    simp only [sub] at k
    generalize (V (268435456 + d)).re = x at *
    generalize (V 268435456).re = y at *
    grind
theorem far_re {m : Nat} (h : 1073741824 ≤ m) (h2 : m ≤ 2684354560) : (V m).re ≤ 1 / 2 := by
  have key : ∀ g d : Nat, m = g + d → d ≤ 268435456 → (V g).re ≤ 1 / 10 → (V m).re ≤ 1 / 2 := by
    intro g d hm hd hg
    subst hm
    have k := (lipB g d hd).re
    simp only [sub] at k
    grind
  have pt : ∀ g : Nat, g < 2 ^ 33 → (((pw 33 g).1 + (pw 33 g).2.2 : Int) : Rat) * r ≤ 1 / 10 → (V g).re ≤ 1 / 10 := by
    intro g h1 h2
    have := (pw_bd 33 g h1).1.1
    grind
  have p0 := pt 1073741824 (by decide) (by decide +kernel)
  have p1 := pt 1342177280 (by decide) (by decide +kernel)
  have p2 := pt 1610612736 (by decide) (by decide +kernel)
  have p3 := pt 1879048192 (by decide) (by decide +kernel)
  have p4 := pt 2147483648 (by decide) (by decide +kernel)
  have p5 := pt 2415919104 (by decide) (by decide +kernel)
  by_cases c1 : m < 1342177280
  · exact key 1073741824 (m - 1073741824) (by omega) (by omega) p0
  by_cases c2 : m < 1610612736
  · exact key 1342177280 (m - 1342177280) (by omega) (by omega) p1
  by_cases c3 : m < 1879048192
  · exact key 1610612736 (m - 1610612736) (by omega) (by omega) p2
  by_cases c4 : m < 2147483648
  · exact key 1879048192 (m - 1879048192) (by omega) (by omega) p3
  by_cases c5 : m < 2415919104
  · exact key 2147483648 (m - 2147483648) (by omega) (by omega) p4
  · exact key 2415919104 (m - 2415919104) (by omega) (by omega) p5
/-- near 1 is only what is small -/
theorem near_one : ∀ (k m : Nat) (d : Rat), 1073741824 ≤ m * 2 ^ k → m ≤ 2684354560 → Nm (sub (V m) one) d → (m : Rat) ≤ 2684354560 * d
  | k, m, d, hk, hm, h => by
    rcases Nat.lt_or_ge m 1073741824 with hs | hs
    · match k, hk with
      | 0, hk => simp at hk; omega
      | k + 1, hk =>
        have e : Cx.add (mul (sub (V m) one) (V m)) (sub (V m) one) = sub (V (m + m)) one := by
          rw [V_add]
          apply eqC <;> simp only [Cx.add, sub, mul, one] <;> grind
        have h2 := (h.turn (V_U m)).add h
        rw [e] at h2
        have := near_one k (m + m) (d + d) (by rw [Nat.pow_succ, ← Nat.mul_assoc] at hk; rw [Nat.add_mul]; omega) (by omega) h2
        rw [Rat.natCast_add] at this
        grind
    · have h1 := far_re hs hm
      have h2 : n2 (sub (V m) one) = 2 - 2 * (V m).re := by
        have := V_U m
        simp only [U, n2, sub, one] at *
        grind
      obtain ⟨d0, hd⟩ := h
      have h3 : 1 ≤ d := le_of_sq (x := 1) d0 (by grind)
      have h4 := cast_leN hm
      have h5 : ((2684354560 : Nat) : Rat) = 2684354560 := by decide +kernel
      rw [h5] at h4
      grind
theorem near_V {m : Nat} {d : Rat} (hm : m ≤ 2684354560) (h : Nm (sub (V m) one) d) : (m : Rat) ≤ 2684354560 * d := by
  rcases Nat.eq_zero_or_pos m with h0 | h0
  · subst h0
    have := h.1
    have e : ((0 : Nat) : Rat) = 0 := by decide +kernel
    rw [e]
    grind
  · exact near_one 30 m d (by omega) hm h
theorem near_VI {n : Int} {d : Rat} (hn : -2684354560 ≤ n ∧ n ≤ 2684354560) (h : Nm (sub (VI n) one) d) : (n : Rat) ≤ 2684354560 * d ∧ -(2684354560 * d) ≤ (n : Rat) := by
  have h0 := h.1
  rcases Int.le_total 0 n with hp | hp
  · obtain ⟨m, rfl⟩ := Int.eq_ofNat_of_zero_le hp
    rw [VI_nat] at h
    have := near_V (by omega) h
    have e : ((m : Int) : Rat) = (m : Rat) := Rat.intCast_natCast m
    rw [e]
    have : (0 : Rat) ≤ (m : Rat) := Rat.natCast_nonneg
    grind
  · obtain ⟨m, hm⟩ := Int.eq_ofNat_of_zero_le (show 0 ≤ -n by omega)
    have e0 : n = -(m : Int) := by omega
    subst e0
    have hc := h.cj
    have e1 : Cx.cj (sub (VI (-(m : Int))) one) = sub (V m) one := by
      rw [VI_neg, VI_nat]
      apply eqC <;> simp only [Cx.cj, sub, one] <;> grind
    rw [e1] at hc
    have := near_V (by omega) hc
    have e : ((-(m : Int) : Int) : Rat) = -(m : Rat) := by rw [Rat.intCast_neg, Rat.intCast_natCast]
    rw [e]
    have : (0 : Rat) ≤ (m : Rat) := Rat.natCast_nonneg
    grind
/-- a hair -/
def hair : Rat := 1 / 1152921504606846976
def Ci : Cx := ⟨0, 1⟩
theorem Ci_U : U Ci := by simp only [U, n2, Ci]; grind
theorem of_pw (f n : Nat) (hn : n < 2 ^ f) (c : Cx) (x y : Rat) (h1 : (((pw f n).1 + (pw f n).2.2 : Int) : Rat) * r - c.re ≤ x) (h2 : -x ≤ (((pw f n).1 - (pw f n).2.2 : Int) : Rat) * r - c.re)
    (h3 : (((pw f n).2.1 + (pw f n).2.2 : Int) : Rat) * r - c.im ≤ y) (h4 : -y ≤ (((pw f n).2.1 - (pw f n).2.2 : Int) : Rat) * r - c.im) : Nm (sub (V n) c) (x + y) := by
  obtain ⟨⟨a1, a2⟩, a3, a4⟩ := pw_bd f n hn
  apply Nm.of <;> simp only [sub] <;> grind
theorem quarter : Nm (sub (V 1073741824) Ci) hair := by
  have := of_pw 33 1073741824 (by decide) Ci (hair / 2) (hair / 2) (by decide +kernel) (by decide +kernel) (by decide +kernel) (by decide +kernel)
  exact this.mono (by decide +kernel)
theorem whole : Nm (sub (V 4294967296) one) hair := by
  have := of_pw 34 4294967296 (by decide) one (hair / 2) (hair / 2) (by decide +kernel) (by decide +kernel) (by decide +kernel) (by decide +kernel)
  exact this.mono (by decide +kernel)
theorem half : Nm (sub (V 2147483648) ⟨-1, 0⟩) hair := by
  have := of_pw 33 2147483648 (by decide) ⟨-1, 0⟩ (hair / 2) (hair / 2) (by decide +kernel) (by decide +kernel) (by decide +kernel) (by decide +kernel)
  exact this.mono (by decide +kernel)
theorem im_nn : ∀ {m : Nat}, m ≤ 536870912 → 0 ≤ (V m).im
  | 0, _ => by simp only [V, one]; grind
  | m + 1, h => by
    have ih := im_nn (m := m) (by omega)
    have hr := half_re (m := m) (by omega)
    have w1 : 0 ≤ w.im := by decide +kernel
    have w2 : 0 ≤ w.re := by decide +kernel
    have m1 := Rat.mul_nonneg ih w2
    have m2 := Rat.mul_nonneg (show 0 ≤ (V m).re by grind) w1
    simp only [V, mul]
    grind
/-- the first quarter -/
theorem first_q {n : Nat} (h : n ≤ 1073741824) : -hair ≤ (V n).re ∧ -hair ≤ (V n).im := by
  have h0 : 0 ≤ hair := by decide +kernel
  have h5 : hair ≤ 1 / 2 := by decide +kernel
  rcases Nat.le_total n 536870912 with h1 | h1
  · have := half_re h1
    have := im_nn h1
    grind
  · obtain ⟨m, hm⟩ : ∃ m, 1073741824 = n + m := ⟨1073741824 - n, by omega⟩
    have e : V n = mul (V 1073741824) (cj (V m)) := by
      rw [hm, V_add, mul_assoc, (V_U m).mul_cj, mul_one]
    have hq := quarter.turn (V_U m).cj
    rw [sub_mul, ← e] at hq
    have k1 := hq.re
    have k2 := hq.im
    have a1 := half_re (m := m) (by omega)
    have a2 := im_nn (m := m) (by omega)
    simp only [sub, mul, Ci, cj] at k1 k2
    grind
end Cx
end Go.Xv
namespace Go.Xv
namespace Cx
/-- how much longer the steps make it, over 2^64 -/
def gL : List Int := [18446744073709551616, 26087635650665564425, 29166863343567579424, 30064514583371253785, 30298483206077454146, 30357602253914638508, 30372421684747952847, 30376129029489835462, 30377056021236072306, 30377287778897074256, 30377345718920132028, 30377360203963884889, 30377363825227197387, 30377364730543173905, 30377364956872177309, 30377365013454428739, 30377365027599991633, 30377365031136382359, 30377365032020480041, 30377365032241504461, 30377365032296760566, 30377365032310574592, 30377365032314028099, 30377365032314891476, 30377365032315107320, 30377365032315161281, 30377365032315174771, 30377365032315178144, 30377365032315178987, 30377365032315179197, 30377365032315179250]
def uu (i : Nat) : Rat := ((gL.getD i 0 : Int) : Rat) * (1 / 18446744073709551616)
def hp (i : Nat) : Rat := 1 / 2 ^ i
def eta : Rat := 1 / 1073741824
def stepC (i : Nat) (o : Bool) : Cx := ⟨1, if o then hp i else -hp i⟩
def kp (i : Nat) : Rat := if i = 0 then 3 / 2 else 1 + hp i * hp i / 2
def chk (i : Nat) : Bool := decide (n2 (sub (sc (uu i) ⟨1, hp i⟩) (sc (uu (i + 1)) (toC (pw 30 (tA i).toNat).1 (pw 30 (tA i).toNat).2.1))) ≤ (uu (i + 1) * (9 / 10 * eta)) * (uu (i + 1) * (9 / 10 * eta))) && decide (((pw 30 (tA i).toNat).2.2 : Rat) * r ≤ 1 / 10 * eta) && decide (0 ≤ uu (i + 1)) && decide (0 ≤ uu i)
theorem chk_all : ∀ i, i < 30 → chk i = true := by decide +kernel
theorem kp_all : ∀ i, i < 30 → decide (1 + hp i * hp i ≤ kp i * kp i ∧ 0 ≤ kp i) = true := by decide +kernel
theorem tab0 {i : Nat} (h : i < 30) : Nm (sub (sc (uu i) ⟨1, hp i⟩) (sc (uu (i + 1)) (VI (tA i)))) (uu (i + 1) * eta) := by
  have hc := chk_all i h
  unfold chk at hc
  simp only [Bool.and_eq_true, decide_eq_true_eq] at hc
  obtain ⟨⟨⟨c1, c2⟩, c3⟩, c4⟩ := hc
  have ht := tA_bd i h
  have e : VI (tA i) = V (tA i).toNat := by
    have : tA i = (((tA i).toNat : Nat) : Int) := by omega
    rw [this, VI_nat]
    rfl
  rw [e]
  have h1 := (pw_ok 30 (tA i).toNat (by omega)).2.neg
  have hr : (0 : Rat) ≤ 9 / 10 * eta := by decide +kernel
  have h2 : Nm (sub (sc (uu i) ⟨1, hp i⟩) (sc (uu (i + 1)) (toC (pw 30 (tA i).toNat).1 (pw 30 (tA i).toNat).2.1))) (uu (i + 1) * (9 / 10 * eta)) := ⟨Rat.mul_nonneg c3 hr, c1⟩
  have h3 := h2.add ((h1.mono c2).sc c3)
  generalize pw 30 (tA i).toNat = p at *
  generalize V (tA i).toNat = v at *
  have ee : Cx.add (sub (sc (uu i) ⟨1, hp i⟩) (sc (uu (i + 1)) (toC p.1 p.2.1))) (sc (uu (i + 1)) (sub (toC p.1 p.2.1) v)) = sub (sc (uu i) ⟨1, hp i⟩) (sc (uu (i + 1)) v) := by
    apply eqC <;> simp only [Cx.add, sub, sc] <;> grind
  rw [ee] at h3
  have e2 : uu (i + 1) * (9 / 10 * eta) + uu (i + 1) * (1 / 10 * eta) = uu (i + 1) * eta := by grind
  rwa [e2] at h3
def dt (i : Nat) (o : Bool) : Int := if o then tA i else -tA i
theorem tab {i : Nat} (h : i < 30) (o : Bool) : Nm (sub (sc (uu i) (stepC i o)) (sc (uu (i + 1)) (VI (dt i o)))) (uu (i + 1) * eta) := by
  have h1 := tab0 h
  cases o with
  | true => exact h1
  | false =>
    have h2 := h1.cj
    have e : Cx.cj (sub (sc (uu i) ⟨1, hp i⟩) (sc (uu (i + 1)) (VI (tA i)))) = sub (sc (uu i) (stepC i false)) (sc (uu (i + 1)) (VI (dt i false))) := by
      unfold dt stepC
      simp only [Bool.false_eq_true, if_false]
      rw [VI_neg]
      apply eqC <;> simp only [Cx.cj, sub, sc] <;> grind
    rwa [e] at h2
theorem step_nm {i : Nat} (h : i < 30) (o : Bool) : Nm (stepC i o) (kp i) := by
  have hc := kp_all i h
  simp only [decide_eq_true_eq] at hc
  refine ⟨hc.2, ?_⟩
  have : n2 (stepC i o) = 1 + hp i * hp i := by
    unfold stepC
    cases o <;> simp only [n2, Bool.false_eq_true, if_false, if_true] <;> grind
  rw [this]
  exact hc.1
def cx (x y : Int) : Cx := ⟨(x : Rat), (y : Rat)⟩
theorem hp_pos (i : Nat) : 0 < hp i ∧ ((2 ^ i : Int) : Rat) * hp i = 1 := by
  unfold hp
  have h : ((2 ^ i : Int) : Rat) = 2 ^ i := by rw [Rat.intCast_pow]; rfl
  have h0 : (0 : Rat) < 2 ^ i := Rat.pow_pos (by decide +kernel)
  rw [h]
  generalize (2 : Rat) ^ i = P at *
  constructor
  · rw [Rat.div_def, Rat.one_mul]
    exact Rat.inv_pos.2 h0
  · grind
theorem floor_p (y : Int) (i : Nat) : ((y / 2 ^ i : Int) : Rat) ≤ y * hp i ∧ (y : Rat) * hp i ≤ ((y / 2 ^ i : Int) : Rat) + 1 := by
  obtain ⟨h0, h1⟩ := hp_pos i
  have hP := p2pos i
  have d1 := Int.mul_ediv_add_emod y (2 ^ i)
  have d2 := Int.emod_nonneg y (show (2 : Int) ^ i ≠ 0 by omega)
  have d3 := Int.emod_lt_of_pos y hP
  generalize (2 : Int) ^ i = P at *
  have e1 : (((y / P) * P : Int) : Rat) ≤ (y : Rat) := cast_le (by rw [Int.mul_comm]; omega)
  have e2 : (y : Rat) ≤ (((y / P) * P + P : Int) : Rat) := cast_le (by rw [Int.mul_comm]; omega)
  rw [Rat.intCast_mul] at e1
  rw [Rat.intCast_add, Rat.intCast_mul] at e2
  have m1 := Rat.mul_le_mul_of_nonneg_right (c := hp i) e1 (Rat.le_of_lt h0)
  have m2 := Rat.mul_le_mul_of_nonneg_right (c := hp i) e2 (Rat.le_of_lt h0)
  rw [Rat.mul_assoc, h1, Rat.mul_one] at m1
  rw [Rat.add_mul, Rat.mul_assoc, h1, Rat.mul_one] at m2
  exact ⟨m1, m2⟩
theorem rot_nm (i : Nat) (o : Bool) (x y : Int) : Nm (sub (cx (rotX i o x y) (rotY i o x y)) (mul (cx x y) (stepC i o))) (3 / 2) := by
  have h1 := floor_p x i
  have h2 := floor_p y i
  unfold rotX rotY stepC
  cases o
  · simp only [Bool.false_eq_true, if_false, cx, Rat.intCast_add, Rat.intCast_sub]
    apply Nm.unit <;> simp only [sub, mul] <;> grind
  · simp only [if_true, cx, Rat.intCast_add, Rat.intCast_sub]
    apply Nm.unit <;> simp only [sub, mul] <;> grind
/-- one step of what lies near -/
theorem near_step {p v : Cx} {i : Nat} {o : Bool} {x y : Int} {c e : Rat} (hi : i < 30) (hp : p = cx x y) (hv : U v) (hc : 0 ≤ c) (h : Nm (sub p (sc (c * uu i) v)) e) :
    Nm (sub (cx (rotX i o x y) (rotY i o x y)) (sc (c * uu (i + 1)) (mul v (VI (dt i o))))) (e * kp i + 3 / 2 + c * (uu (i + 1) * eta)) := by
  subst hp
  have h1 := h.mul (step_nm hi o)
  have h2 := rot_nm i o x y
  have h3 := ((tab hi o).sc hc).turn hv
  have h4 := (h1.add h2).add h3
  have ee : Cx.add (Cx.add (mul (sub (cx x y) (sc (c * uu i) v)) (stepC i o)) (sub (cx (rotX i o x y) (rotY i o x y)) (mul (cx x y) (stepC i o)))) (mul (sc c (sub (sc (uu i) (stepC i o)) (sc (uu (i + 1)) (VI (dt i o))))) v) = sub (cx (rotX i o x y) (rotY i o x y)) (sc (c * uu (i + 1)) (mul v (VI (dt i o)))) := by
    apply eqC <;> simp only [Cx.add, sub, sc, mul] <;> grind
  rwa [ee] at h4
def KK : Rat := 2608131496
theorem stepB : ∀ i : Nat, i < 30 → decide (8 * (i : Rat) * kp i + 3 / 2 + KK * (uu (i + 1) * eta) ≤ 8 * ((i : Rat) + 1)) = true := by decide +kernel
theorem bS_near (z : Int) : ∀ i, i ≤ 30 → Nm (sub (cx (bS z i).1 (bS z i).2.1) (sc (KK * uu i) (VI (z - (bS z i).2.2)))) (8 * (i : Rat))
  | 0, _ => by
    refine ⟨by decide +kernel, ?_⟩
    simp only [bS]
    rw [Int.sub_self, VI_zero]
    decide +kernel
  | i + 1, h => by
    have ih := bS_near z i (by omega)
    have hs := near_step (o := decide (0 ≤ (bS z i).2.2)) (by omega) rfl (VI_U _) (by decide +kernel) ih
    have e : z - (bS z (i + 1)).2.2 = (z - (bS z i).2.2) + dt i (decide (0 ≤ (bS z i).2.2)) := by
      simp only [bS, dt]
      by_cases hz : 0 ≤ (bS z i).2.2
      · simp only [hz, decide_true, if_true]; omega
      · simp only [hz, decide_false, Bool.false_eq_true, if_false]; omega
    rw [e, VI_add]
    have hb := stepB i (by omega)
    simp only [decide_eq_true_eq] at hb
    refine Nm.mono hs ?_
    rw [Rat.natCast_add]
    exact hb
def TZ : Nat → Int
  | 0 => 1073741824
  | i + 1 => max (tA i) (TZ i - tA i)
theorem bS_left {z : Int} (hz : 0 ≤ z ∧ z < 1073741824) : ∀ i, -TZ i ≤ (bS z i).2.2 ∧ (bS z i).2.2 ≤ TZ i
  | 0 => by simp only [bS, TZ]; omega
  | i + 1 => by
    have ih := bS_left hz i
    simp only [bS, TZ]
    split <;> omega
theorem TZ30 : TZ 30 ≤ 3 := by decide +kernel
/-- of a few parts -/
theorem few {n : Int} (h : -3 ≤ n ∧ n ≤ 3) : Nm (sub (VI n) one) (1 / 200000000) := by
  have key : ∀ m : Nat, m ≤ 3 → Nm (sub (V m) one) (1 / 200000000) := by
    intro m hm
    have h1 := lip 0 m
    rw [Nat.zero_add] at h1
    refine h1.mono ?_
    have h2 := Rat.mul_le_mul_of_nonneg_right (c := Lw) (cast_leN hm) (by decide +kernel)
    have h3 : ((3 : Nat) : Rat) * Lw ≤ 1 / 200000000 := by decide +kernel
    grind
  rcases Int.le_total 0 n with hp | hp
  · obtain ⟨m, rfl⟩ := Int.eq_ofNat_of_zero_le hp
    rw [VI_nat]
    exact key m (by omega)
  · obtain ⟨m, hm⟩ := Int.eq_ofNat_of_zero_le (show 0 ≤ -n by omega)
    have e0 : n = -(m : Int) := by omega
    subst e0
    have hc := (key m (by omega)).cj
    have e1 : Cx.cj (sub (V m) one) = sub (VI (-(m : Int))) one := by
      rw [VI_neg, VI_nat]
      apply eqC <;> simp only [Cx.cj, sub, one] <;> grind
    rwa [e1] at hc
def One : Rat := 4294967296
theorem both0 {z : Int} (hz : 0 ≤ z ∧ z < 1073741824) : Nm (sub (cx (bS z 30).1 (bS z 30).2.1) (sc One (VI z))) 263 := by
  have h1 := bS_near z 30 (by omega)
  have hl := bS_left hz 30
  have hT := TZ30
  have h2 := (few (n := (bS z 30).2.2) (by omega)).neg
  have h3 := (h2.turn (VI_U (z - (bS z 30).2.2))).sc (r := KK * uu 30) (by decide +kernel)
  have e : VI z = mul (VI (z - (bS z 30).2.2)) (VI (bS z 30).2.2) := by rw [← VI_add]; congr 1; omega
  generalize (bS z 30).2.2 = l at *
  have h4 : Nm (sub (sc (KK * uu 30) (VI z)) (sc One (VI z))) 1 := by
    have := ((VI_U z).nm).sc (r := One - KK * uu 30) (by decide +kernel)
    have e : Cx.sc (One - KK * uu 30) (VI z) = sub (sc One (VI z)) (sc (KK * uu 30) (VI z)) := by apply eqC <;> simp only [sub, sc] <;> grind
    rw [e] at this
    exact (this.neg).mono (by decide +kernel)
  have e3 : Cx.sc (KK * uu 30) (mul (sub one (VI l)) (VI (z - l))) = sub (sc (KK * uu 30) (VI (z - l))) (sc (KK * uu 30) (VI z)) := by
    rw [e]; apply eqC <;> simp only [sub, sc, mul, one] <;> grind
  rw [e3] at h3
  have h5 := (h1.trans h3).trans h4
  exact h5.mono (by decide +kernel)
theorem Nm.coord {a b : Cx} {e : Rat} (h : Nm a e) (h1 : b.re * b.re ≤ a.re * a.re) (h2 : b.im * b.im ≤ a.im * a.im) : Nm b e := by
  refine ⟨h.1, ?_⟩
  have := h.2
  simp only [n2] at *
  grind
/-- clamping goes nearer to what lies between. -/
theorem clamp_near {x : Int} {t : Rat} (h0 : 0 ≤ t) (h1 : t ≤ One) : ((cl01 x : Int) : Rat) - t = 0 ∨ (((cl01 x : Int) : Rat) - t) * (((cl01 x : Int) : Rat) - t) ≤ ((x : Rat) - t) * ((x : Rat) - t) := by
  right
  have key : ∀ c d : Rat, 0 ≤ c * d → (c * c ≤ (c + d) * (c + d)) := by
    intro c d h
    have := sq_nn d
    grind
  have hcase : ((cl01 x : Int) : Rat) = x ∨ (((cl01 x : Int) : Rat) = 0 ∧ (x : Rat) ≤ 0) ∨ (((cl01 x : Int) : Rat) = One ∧ One ≤ (x : Rat)) := by
    unfold cl01
    by_cases c1 : x < 0
    · right; left
      rw [show min (max x 0) 4294967296 = 0 by omega]
      exact ⟨rfl, cast_le (b := 0) (by omega)⟩
    · by_cases c2 : 4294967296 ≤ x
      · right; right
        rw [show min (max x 0) 4294967296 = 4294967296 by omega]
        exact ⟨rfl, cast_le (a := 4294967296) c2⟩
      · left
        rw [show min (max x 0) 4294967296 = x by omega]
  rcases hcase with h | ⟨h, k⟩ | ⟨h, k⟩
  · rw [h]; exact Rat.le_refl
  · rw [h]
    have := key (0 - t) x (by have := Rat.mul_nonneg h0 (show 0 ≤ -(x : Rat) by grind); grind)
    grind
  · rw [h]
    have := key (One - t) (x - One) (Rat.mul_nonneg (by grind) (by grind))
    grind
theorem both1 {z : Int} (hz : 0 ≤ z ∧ z < 1073741824) : Nm (sub (cx (cl01 (bS z 30).1) (cl01 (bS z 30).2.1)) (sc One (VI z))) 264 := by
  have h1 := both0 hz
  obtain ⟨m, hm⟩ := Int.eq_ofNat_of_zero_le hz.1
  have hv : VI z = V m := by rw [hm, VI_nat]
  rw [hv] at h1 ⊢
  obtain ⟨q1, q2⟩ := first_q (n := m) (by omega)
  have b1 := (V_U m).nm.re
  have b2 := (V_U m).nm.im
  generalize V m = v at *
  let f : Rat → Rat := fun t => if t < 0 then 0 else t
  have hh : (0 : Rat) ≤ hair := by decide +kernel
  have hO : (0 : Rat) ≤ One := by decide +kernel
  have hOh : One * hair ≤ 1 / 8 := by decide +kernel
  have fd : ∀ t : Rat, -hair ≤ t → t ≤ 1 → (0 ≤ One * f t ∧ One * f t ≤ One) ∧ (One * f t - One * t ≤ 1 / 8 ∧ 0 ≤ One * f t - One * t) := by
    intro t h1 h2
    by_cases hn : t < 0
    · have : f t = 0 := if_pos hn
      rw [this]
      have := Rat.mul_le_mul_of_nonneg_left h1 hO
      have := Rat.mul_le_mul_of_nonneg_left (Rat.le_of_lt hn) hO
      grind
    · have : f t = t := if_neg hn
      rw [this]
      have h3 := Rat.mul_le_mul_of_nonneg_left h2 hO
      have h4 := Rat.mul_le_mul_of_nonneg_left (show 0 ≤ t by grind) hO
      grind
  obtain ⟨⟨f1, f2⟩, f3, f4⟩ := fd v.re q1 b1.1
  obtain ⟨⟨g1, g2⟩, g3, g4⟩ := fd v.im q2 b2.1
  have hT : Nm (sub (sc One v) ⟨One * f v.re, One * f v.im⟩) (1 / 8 + 1 / 8) := by
    apply Nm.of <;> simp only [sub, sc] <;> grind
  have h2 := h1.trans hT
  have c1 := clamp_near (x := (bS z 30).1) f1 f2
  have c2 := clamp_near (x := (bS z 30).2.1) g1 g2
  have h3 : Nm (sub (cx (cl01 (bS z 30).1) (cl01 (bS z 30).2.1)) ⟨One * f v.re, One * f v.im⟩) (263 + (1 / 8 + 1 / 8)) := by
    refine h2.coord ?_ ?_
    · simp only [sub, cx]
      rcases c1 with c | c
      · rw [c, Rat.zero_mul]; exact sq_nn _
      · exact c
    · simp only [sub, cx]
      rcases c2 with c | c
      · rw [c, Rat.zero_mul]; exact sq_nn _
      · exact c
  exact (h3.trans hT.neg).mono (by decide +kernel)
theorem VI_quarter : Nm (sub (VI 1073741824) Ci) hair := by
  rw [show (1073741824 : Int) = ((1073741824 : Nat) : Int) by rfl, VI_nat]
  exact quarter
/-- a quarter on -/
theorem on_quarter {c s n : Int} {e : Rat} (h : Nm (sub (cx c s) (sc One (VI n))) e) : Nm (sub (cx (-s) c) (sc One (VI (n + 1073741824)))) (e + 1 / 8) := by
  have h1 := h.turn Ci_U
  have h2 := ((VI_quarter.neg).turn (VI_U n)).sc (r := One) (by decide +kernel)
  have h3 := h1.add h2
  rw [VI_add]
  have ee : Cx.add (mul (sub (cx c s) (sc One (VI n))) Ci) (sc One (mul (sub Ci (VI 1073741824)) (VI n))) = sub (cx (-s) c) (sc One (mul (VI n) (VI 1073741824))) := by
    apply eqC <;> simp only [Cx.add, sub, sc, mul, cx, Ci, Rat.intCast_neg] <;> grind
  rw [ee] at h3
  exact h3.mono (by have : One * hair ≤ 1 / 8 := by decide +kernel
                    grind)
theorem both_near {a : Int} (ha : 0 ≤ a ∧ a < 4294967296) : Nm (sub (cx (bothC a) (bothS a)) (sc One (VI a))) 265 := by
  have h0 : Nm (sub (cx (bC a) (bN a)) (sc One (VI (a % 1073741824)))) 264 := both1 (z := a % 1073741824) (by omega)
  have h1 := on_quarter h0
  have h2 := on_quarter h1
  have h3 := on_quarter h2
  have hq : a / 1073741824 = 0 ∨ a / 1073741824 = 1 ∨ a / 1073741824 = 2 ∨ a / 1073741824 = 3 := by omega
  unfold bothC bothS
  rcases hq with h | h | h | h
  · rw [show a % 1073741824 = a by omega] at h0
    rw [if_pos h, if_pos h]
    exact h0.mono (by decide +kernel)
  · rw [show a % 1073741824 + 1073741824 = a by omega] at h1
    rw [if_neg (by omega), if_pos h, if_neg (by omega), if_pos h]
    exact h1.mono (by decide +kernel)
  · rw [show a % 1073741824 + 1073741824 + 1073741824 = a by omega] at h2
    rw [if_neg (by omega), if_neg (by omega), if_pos h, if_neg (by omega), if_neg (by omega), if_pos h]
    exact h2.mono (by decide +kernel)
  · rw [show a % 1073741824 + 1073741824 + 1073741824 + 1073741824 = a by omega, Int.neg_neg] at h3
    rw [if_neg (by omega), if_neg (by omega), if_neg (by omega), if_neg (by omega), if_neg (by omega), if_neg (by omega)]
    exact h3.mono (by decide +kernel)
/-- how long it is -/
theorem both_len {a : Int} (ha : 0 ≤ a ∧ a < 4294967296) : bothC a * bothC a + bothS a * bothS a ≤ 18446746350042288721 ∧ 18446741788787020900 ≤ bothC a * bothC a + bothS a * bothS a := by
  have h := both_near ha
  have hu := ((VI_U a).nm).sc (r := One) (by decide +kernel)
  have e0 : n2 (cx (bothC a) (bothS a)) = ((bothC a * bothC a + bothS a * bothS a : Int) : Rat) := by
    simp only [n2, cx, Rat.intCast_add, Rat.intCast_mul]
  constructor
  · have h1 := h.add hu
    have e : Cx.add (sub (cx (bothC a) (bothS a)) (sc One (VI a))) (sc One (VI a)) = cx (bothC a) (bothS a) := by apply eqC <;> simp only [Cx.add, sub] <;> grind
    rw [e] at h1
    have h2 := h1.2
    rw [e0] at h2
    have h3 : (265 + One * 1) * (265 + One * 1) = ((18446746350042288721 : Int) : Rat) := by decide +kernel
    rw [h3] at h2
    have := Rat.intCast_le_intCast.1 h2
    omega
  · rcases Int.lt_or_le (bothC a * bothC a + bothS a * bothS a) 18446741788787020900 with hl | hl
    · exfalso
      have k : Nm (cx (bothC a) (bothS a)) (One - 266) := by
        refine ⟨by decide +kernel, ?_⟩
        rw [e0]
        have h3 : (One - 266) * (One - 266) = ((18446741788787020900 : Int) : Rat) := by decide +kernel
        rw [h3]
        exact cast_le (by omega)
      have h1 := k.add h.neg
      have e : Cx.add (cx (bothC a) (bothS a)) (sub (sc One (VI a)) (cx (bothC a) (bothS a))) = sc One (VI a) := by apply eqC <;> simp only [Cx.add, sub] <;> grind
      rw [e] at h1
      have h2 := h1.2
      have e3 : n2 (sc One (VI a)) = One * One := by
        have := VI_U a
        simp only [U, n2, sc] at *
        grind
      rw [e3] at h2
      have : ¬ One * One ≤ (One - 266 + 265) * (One - 266 + 265) := by decide +kernel
      exact this h2
    · exact hl
end Cx
end Go.Xv
namespace Go.Xv
namespace Cx
theorem near_stepA {p v : Cx} {p0 : Cx} {i : Nat} {o : Bool} {x y : Int} {m e : Rat} (hi : i < 30) (hp : p = cx x y) (hv : U v) (h0 : Nm p0 m) (h : Nm (sub (mul p v) (sc (uu i) p0)) e) :
    Nm (sub (mul (cx (rotX i o x y) (rotY i o x y)) (mul v (cj (VI (dt i o))))) (sc (uu (i + 1)) p0)) (e * kp i + 3 / 2 + m * (uu (i + 1) * eta)) := by
  subst hp
  have hU := (VI_U (dt i o)).cj
  have h1 := (h.mul (step_nm hi o)).turn hU
  have h2 := (rot_nm i o x y).turn (hv.mul hU)
  have h3 := (h0.mul (tab hi o)).turn hU
  have h4 := (h1.add h2).add h3
  have hu : mul (VI (dt i o)) (cj (VI (dt i o))) = one := (VI_U (dt i o)).mul_cj
  have ee : Cx.add (Cx.add (mul (mul (sub (mul (cx x y) v) (sc (uu i) p0)) (stepC i o)) (cj (VI (dt i o)))) (mul (sub (cx (rotX i o x y) (rotY i o x y)) (mul (cx x y) (stepC i o))) (mul v (cj (VI (dt i o)))))) (mul (mul p0 (sub (sc (uu i) (stepC i o)) (sc (uu (i + 1)) (VI (dt i o))))) (cj (VI (dt i o)))) =
      sub (mul (cx (rotX i o x y) (rotY i o x y)) (mul v (cj (VI (dt i o))))) (sc (uu (i + 1)) (mul p0 (mul (VI (dt i o)) (cj (VI (dt i o)))))) := by
    apply eqC <;> simp only [Cx.add, sub, sc, mul] <;> grind
  rw [ee, hu, mul_one] at h4
  exact h4
theorem stepA : ∀ i : Nat, i < 30 → decide (3 * (i : Rat) * kp i + 1 / 1000 + 3 / 2 * uu (i + 1) ≤ 3 * ((i : Rat) + 1)) = true := by decide +kernel
theorem aS_near {x y : Int} {m : Rat} (hm : 1152921504606846976 ≤ m) (h0 : Nm (cx x y) (3 / 2 * m)) : ∀ i, i ≤ 30 → Nm (sub (mul (cx (aS x y i).1 (aS x y i).2.1) (VI (aS x y i).2.2)) (sc (uu i) (cx x y))) (3 * (i : Rat) * (m * eta))
  | 0, _ => by
    simp only [aS]
    rw [VI_zero, mul_one]
    have e : uu 0 = 1 := by decide +kernel
    rw [e]
    refine ⟨?_, ?_⟩
    · have : ((0 : Nat) : Rat) = 0 := by decide +kernel
      rw [this]; grind
    · simp only [n2, sub, sc, cx]
      have : ((0 : Nat) : Rat) = 0 := by decide +kernel
      rw [this]; grind
  | i + 1, h => by
    have ih := aS_near hm h0 i (by omega)
    have hs := near_stepA (o := decide ((aS x y i).2.1 < 0)) (by omega) rfl (VI_U _) h0 ih
    have e : (aS x y (i + 1)).2.2 = (aS x y i).2.2 + -dt i (decide ((aS x y i).2.1 < 0)) := by
      simp only [aS, dt]
      by_cases hz : (aS x y i).2.1 < 0
      · simp only [hz, decide_true, if_true]; omega
      · simp only [hz, decide_false, Bool.false_eq_true, if_false]; omega
    rw [e, VI_add, VI_neg]
    have hb := stepA i (by omega)
    simp only [decide_eq_true_eq] at hb
    refine Nm.mono hs ?_
    have hc : ((i + 1 : Nat) : Rat) = (i : Rat) + 1 := by rw [Rat.natCast_add]; rfl
    rw [hc]
    have hme : 1500 ≤ m * eta := by
      have := Rat.mul_le_mul_of_nonneg_right (c := eta) hm (by decide +kernel)
      have h2 : (1500 : Rat) ≤ 1152921504606846976 * eta := by decide +kernel
      grind
    have hb2 := Rat.mul_le_mul_of_nonneg_right (c := m * eta) hb (by grind)
    generalize kp i = K at *
    generalize uu (i + 1) = u at *
    generalize (i : Rat) = j at *
    generalize eta = t at *
    generalize hM : m * t = M at *
    have e1 : (3 * j * K + 1 / 1000 + 3 / 2 * u) * M = 3 * j * M * K + 1 / 1000 * M + 3 / 2 * m * (u * t) := by rw [← hM]; grind
    rw [e1] at hb2
    grind
/-- what is left across is little -/
theorem aS_thin {x y : Int} (hx : 0 ≤ x ∧ x ≤ 2305843009213693952) (hy : -2305843009213693952 ≤ y ∧ y ≤ 2305843009213693952) : ∀ i : Nat, 1 ≤ i → i ≤ 30 →
    (aS x y i).2.1 * 2 ^ i ≤ 2 * (aS x y i).1 + i * 2 ^ i ∧ -(2 * (aS x y i).1 + i * 2 ^ i) ≤ (aS x y i).2.1 * 2 ^ i
  | 0, h, _ => absurd h (by omega)
  | 1, _, _ => by
    simp only [aS, rotX, rotY]
    by_cases h : y < 0
    · simp [h]; omega
    · simp [h]; omega
  | i + 2, _, h2 => by
    obtain ⟨h3, h4⟩ := aS_thin hx hy (i + 1) (by omega) (by omega)
    obtain ⟨⟨b1, b2⟩, _, _⟩ := aS_bd hx hy (i := i + 1) (by omega)
    have hP := p2pos (i + 1)
    have e : (2 : Int) ^ (i + 2) = 2 * 2 ^ (i + 1) := by rw [Int.pow_succ]; omega
    have d1 := Int.mul_ediv_add_emod (aS x y (i + 1)).1 (2 ^ (i + 1))
    have d2 := Int.emod_nonneg (aS x y (i + 1)).1 (show (2 : Int) ^ (i + 1) ≠ 0 by omega)
    have d3 := Int.emod_lt_of_pos (aS x y (i + 1)).1 hP
    have f1 := Int.mul_ediv_add_emod (aS x y (i + 1)).2.1 (2 ^ (i + 1))
    have f2 := Int.emod_nonneg (aS x y (i + 1)).2.1 (show (2 : Int) ^ (i + 1) ≠ 0 by omega)
    have f3 := Int.emod_lt_of_pos (aS x y (i + 1)).2.1 hP
    have es : aS x y (i + 2) = (rotX (i + 1) (decide ((aS x y (i + 1)).2.1 < 0)) (aS x y (i + 1)).1 (aS x y (i + 1)).2.1, rotY (i + 1) (decide ((aS x y (i + 1)).2.1 < 0)) (aS x y (i + 1)).1 (aS x y (i + 1)).2.1, if (aS x y (i + 1)).2.1 < 0 then (aS x y (i + 1)).2.2 - tA (i + 1) else (aS x y (i + 1)).2.2 + tA (i + 1)) := rfl
    rw [es, e]
    have ec : ((i + 2 : Nat) : Int) = ((i + 1 : Nat) : Int) + 1 := by omega
    rw [ec]
    have hj : 0 ≤ ((i + 1 : Nat) : Int) * 2 ^ (i + 1) := Int.mul_nonneg (by omega) (by omega)
    generalize ((i + 1 : Nat) : Int) = j at *
    generalize (aS x y (i + 1)).1 = X at *
    generalize (aS x y (i + 1)).2.1 = Y at *
    simp only
    unfold rotX rotY
    generalize (2 : Int) ^ (i + 1) = P at *
    have m0 : (X / P) * (2 * P) = 2 * (P * (X / P)) := by rw [Int.mul_comm (X / P), Int.mul_assoc]
    have m1 : (j + 1) * (2 * P) = 2 * (j * P) + 2 * P := by rw [Int.add_mul, Int.one_mul, ← Int.mul_assoc, Int.mul_comm j 2, Int.mul_assoc]
    have m2 : Y * (2 * P) = 2 * (Y * P) := by rw [← Int.mul_assoc, Int.mul_comm Y 2, Int.mul_assoc]
    by_cases h : Y < 0
    · have hn : Y / P < 0 := Int.ediv_neg_of_neg_of_pos h hP
      have hY : Y * P ≤ 0 := Int.mul_nonpos_of_nonpos_of_nonneg (by omega) (by omega)
      simp only [h, decide_true, if_true]
      rw [Int.add_mul, m0, m1, m2]
      omega
    · have hn : 0 ≤ Y / P := Int.ediv_nonneg (by omega) (by omega)
      have hY : 0 ≤ Y * P := Int.mul_nonneg (by omega) (by omega)
      simp only [h, decide_false, Bool.false_eq_true, if_false]
      rw [Int.sub_mul, m0, m1, m2]
      omega
theorem gap {u v : Cx} {s t d : Rat} (hu : U u) (hv : U v) (hs : 0 ≤ s) (ht : 0 ≤ t) (h : Nm (sub (sc s u) (sc t v)) d) : s - t ≤ d ∧ t - s ≤ d := by
  have h2 := h.2
  have hr : u.re * v.re + u.im * v.im ≤ 1 := by
    refine le_of_sq (by decide +kernel) ?_
    have e1 := sq_nn (u.re * v.im - u.im * v.re)
    have e2 : (u.re * v.re + u.im * v.im) * (u.re * v.re + u.im * v.im) + (u.re * v.im - u.im * v.re) * (u.re * v.im - u.im * v.re) = n2 u * n2 v := by simp only [n2]; grind
    unfold U at hu hv
    rw [hu, hv] at e2
    grind
  have h3 := Rat.mul_le_mul_of_nonneg_left hr (Rat.mul_nonneg hs ht)
  have e : n2 (sub (sc s u) (sc t v)) = s * s * n2 u + t * t * n2 v - 2 * (s * t * (u.re * v.re + u.im * v.im)) := by simp only [n2, sub, sc]; grind
  unfold U at hu hv
  rw [e, hu, hv] at h2
  have k : (s - t) * (s - t) ≤ d * d := by grind
  constructor
  · exact le_of_sq h.1 k
  · exact le_of_sq h.1 (by grind)
theorem n2_sc (s : Rat) (u : Cx) : n2 (sc s u) = s * s * n2 u := by simp only [n2, sc]; grind
/-- What the steps end with, of numbers that are scaled. -/
theorem aS_end {x y : Int} (hx : 0 ≤ x ∧ x ≤ 2305843009213693952) (hy : -2305843009213693952 ≤ y ∧ y ≤ 2305843009213693952) {m : Int} (hm : 1152921504606846976 ≤ m) (h1 : x ≤ m) (h2 : -m ≤ y ∧ y ≤ m) (h3 : x = m ∨ y = m ∨ y = -m) :
    ∃ s : Rat, 0 < s ∧ Nm (sub (cx x y) (sc s (VI (aS x y 30).2.2))) (s * (59 / 1073741824)) := by
  have hM : (1152921504606846976 : Rat) ≤ (m : Rat) := cast_le (a := 1152921504606846976) hm
  have c1 : (x : Rat) ≤ (m : Rat) := cast_le h1
  have c0 : (0 : Rat) ≤ (x : Rat) := cast_le (a := 0) hx.1
  have c2 : (y : Rat) ≤ (m : Rat) := cast_le h2.2
  have c3 : -(m : Rat) ≤ (y : Rat) := by
    have := cast_le h2.1
    rw [Rat.intCast_neg] at this
    exact this
  have hlow : (m : Rat) * (m : Rat) ≤ n2 (cx x y) := by
    simp only [n2, cx]
    have s1 := sq_nn (x : Rat)
    have s2 := sq_nn (y : Rat)
    rcases h3 with h | h | h
    · rw [h]; grind
    · rw [h]; grind
    · rw [h, Rat.intCast_neg]; grind
  have h0 : Nm (cx x y) (3 / 2 * (m : Rat)) := by
    have q1 := Rat.mul_nonneg (show 0 ≤ (m : Rat) - x by grind) (show 0 ≤ (m : Rat) + x by grind)
    have q2 := Rat.mul_nonneg (show 0 ≤ (m : Rat) - y by grind) (show 0 ≤ (m : Rat) + y by grind)
    have q3 := sq_nn (m : Rat)
    refine ⟨by grind, ?_⟩
    simp only [n2, cx]
    grind
  have hn := aS_near hM h0 30 (by omega)
  obtain ⟨t1, t2⟩ := aS_thin hx hy 30 (by omega) (by omega)
  obtain ⟨⟨b1, _⟩, _, _⟩ := aS_bd hx hy (i := 30) (by omega)
  generalize (aS x y 30).1 = X at *
  generalize (aS x y 30).2.1 = Y at *
  have hv := VI_U (aS x y 30).2.2
  generalize VI (aS x y 30).2.2 = v at *
  have hX : (0 : Rat) ≤ (X : Rat) := cast_le (a := 0) b1
  have hY1 : (Y : Rat) * 1073741824 ≤ 2 * (X : Rat) + 32212254720 := by
    have := cast_le (a := Y * 1073741824) (b := 2 * X + 32212254720) (by omega)
    simp only [Rat.intCast_add, Rat.intCast_mul] at this
    exact this
  have hY2 : -(2 * (X : Rat) + 32212254720) ≤ (Y : Rat) * 1073741824 := by
    have := cast_le (a := -(2 * X + 32212254720)) (b := Y * 1073741824) (by omega)
    simp only [Rat.intCast_add, Rat.intCast_mul, Rat.intCast_neg] at this
    exact this
  have hc : Nm (sub (sc (X : Rat) v) (mul (cx X Y) v)) ((X : Rat) * (2 / 1073741824) + 30) := by
    have k : Nm (sub ⟨(X : Rat), 0⟩ (cx X Y)) (0 + ((X : Rat) * (2 / 1073741824) + 30)) := by
      apply Nm.of <;> simp only [sub, cx] <;> grind
    have k2 := k.turn hv
    have e : mul (sub ⟨(X : Rat), 0⟩ (cx X Y)) v = sub (sc (X : Rat) v) (mul (cx X Y) v) := by
      apply eqC <;> simp only [sub, sc, mul] <;> grind
    rw [e, Rat.zero_add] at k2
    exact k2
  have hd := hc.trans hn
  have ec : ((30 : Nat) : Rat) = 30 := by decide +kernel
  rw [ec] at hd
  have u1 : 8 / 5 + 4 / 100 ≤ uu 30 := by decide +kernel
  have u2 : uu 30 ≤ 1647 / 1000 := by decide +kernel
  -- X is large
  have hbig : 8 / 5 * (m : Rat) ≤ (X : Rat) := by
    rcases Rat.le_total (a := 8 / 5 * (m : Rat)) (b := (X : Rat)) with h | h
    · exact h
    · exfalso
      have k1 := ((hv.nm).sc hX).add hd.neg
      have e : Cx.add (sc (X : Rat) v) (sub (sc (uu 30) (cx x y)) (sc (X : Rat) v)) = sc (uu 30) (cx x y) := by apply eqC <;> simp only [Cx.add, sub] <;> grind
      rw [e] at k1
      have k2 := k1.mono (f := 161 / 100 * (m : Rat)) (by unfold eta; grind)
      have k3 := k2.2
      rw [n2_sc] at k3
      have k4 := Rat.mul_le_mul_of_nonneg_left hlow (sq_nn (uu 30))
      have k5 := sq_le_sq (x := 163 / 100) (y := uu 30) (by decide +kernel) (by grind)
      have k6 := Rat.mul_le_mul_of_nonneg_right k5 (sq_nn (m : Rat))
      have k7 := Rat.mul_pos (show 0 < (m : Rat) by grind) (show 0 < (m : Rat) by grind)
      generalize uu 30 * uu 30 = z at *
      generalize n2 (cx x y) = a at *
      grind
  have hu0 : 0 < uu 30 := by decide +kernel
  have hui : uu 30 * (uu 30)⁻¹ = 1 := Rat.mul_inv_cancel _ (by grind)
  have hip : 0 < (uu 30)⁻¹ := Rat.inv_pos.2 hu0
  generalize (uu 30)⁻¹ = g at *
  refine ⟨g * X, Rat.mul_pos hip (by grind), ?_⟩
  have hf := (hd.neg).sc (Rat.le_of_lt hip)
  have e : Cx.sc g (sub (sc (uu 30) (cx x y)) (sc (X : Rat) v)) = sub (cx x y) (sc (g * X) v) := by
    apply eqC <;> simp only [sub, sc] <;> grind
  rw [e] at hf
  refine hf.mono ?_
  have k : (X : Rat) * (2 / 1073741824) + 30 + 3 * 30 * ((m : Rat) * eta) ≤ X * (59 / 1073741824) := by unfold eta; grind
  have := Rat.mul_le_mul_of_nonneg_left k (Rat.le_of_lt hip)
  grind
end Cx
end Go.Xv
namespace Go.Xv
namespace Cx
theorem whole_nat : ∀ j : Nat, Nm (sub (V (4294967296 * j)) one) ((j : Rat) * hair)
  | 0 => by
    rw [Nat.mul_zero]
    have : ((0 : Nat) : Rat) = 0 := by decide +kernel
    rw [this]
    refine ⟨by grind, ?_⟩
    simp only [V, n2, sub, one]; grind
  | j + 1 => by
    have ih := (whole_nat j).add (whole.turn (V_U (4294967296 * j)))
    rw [Nat.mul_add, Nat.mul_one, V_add]
    have hc : ((j + 1 : Nat) : Rat) = (j : Rat) + 1 := by rw [Rat.natCast_add]; rfl
    generalize V (4294967296 * j) = u at *
    generalize V 4294967296 = v at *
    have e : Cx.add (sub u one) (mul (sub v one) u) = sub (mul u v) one := by
      apply eqC <;> simp only [Cx.add, sub, mul, one] <;> grind
    rw [e] at ih
    rw [hc]
    exact ih.mono (by grind)
theorem whole_int {j : Int} (h : -8 ≤ j ∧ j ≤ 8) : Nm (sub (VI (4294967296 * j)) one) (8 * hair) := by
  have hh : (0 : Rat) ≤ hair := by decide +kernel
  have key : ∀ m : Nat, m ≤ 8 → Nm (sub (V (4294967296 * m)) one) (8 * hair) := by
    intro m hm
    refine (whole_nat m).mono ?_
    exact Rat.mul_le_mul_of_nonneg_right (cast_leN hm) hh
  rcases Int.le_total 0 j with hp | hp
  · obtain ⟨m, rfl⟩ := Int.eq_ofNat_of_zero_le hp
    rw [show (4294967296 : Int) * (m : Int) = ((4294967296 * m : Nat) : Int) by omega, VI_nat]
    exact key m (by omega)
  · obtain ⟨m, hm⟩ := Int.eq_ofNat_of_zero_le (show 0 ≤ -j by omega)
    have e0 : 4294967296 * j = -((4294967296 * m : Nat) : Int) := by omega
    have hc := (key m (by omega)).cj
    rw [e0, VI_neg, VI_nat]
    generalize V (4294967296 * m) = u at *
    have e1 : Cx.cj (sub u one) = sub (cj u) one := by apply eqC <;> simp only [Cx.cj, sub, one] <;> grind
    rwa [e1] at hc
/-- whole turns change nothing -/
theorem VI_mod {z t : Int} (h : z % 4294967296 = t % 4294967296) (h1 : -17179869184 ≤ z - t ∧ z - t ≤ 17179869184) : Nm (sub (VI z) (VI t)) (8 * hair) := by
  have hj : z - t = 4294967296 * ((z - t) / 4294967296) := by omega
  have k := (whole_int (j := (z - t) / 4294967296) (by omega)).turn (VI_U t)
  have e : VI z = mul (VI (4294967296 * ((z - t) / 4294967296))) (VI t) := by rw [← VI_add, ← hj]; congr 1; omega
  rw [e]
  generalize VI (4294967296 * ((z - t) / 4294967296)) = u at *
  have e1 : mul (sub u one) (VI t) = sub (mul u (VI t)) (VI t) := by apply eqC <;> simp only [mul, sub, one] <;> grind
  rwa [e1] at k
theorem VI_half (n : Int) : Nm (sub (VI (n + 2147483648)) (sc (-1) (VI n))) hair := by
  have k := half.turn (VI_U n)
  rw [VI_add, show VI 2147483648 = V 2147483648 from VI_nat 2147483648]
  generalize V 2147483648 = u at *
  have e1 : mul (sub u ⟨-1, 0⟩) (VI n) = sub (mul (VI n) u) (sc (-1) (VI n)) := by apply eqC <;> simp only [mul, sub, sc] <;> grind
  rwa [e1] at k
/-- an angle near 0 -/
theorem near_mod {n : Int} {d : Rat} (hn : -17179869184 ≤ n ∧ n ≤ 17179869184) (h : Nm (sub (VI n) one) d) : (((n + 2147483648) % 4294967296 - 2147483648 : Int) : Rat) ≤ 2684354560 * (d + 8 * hair) ∧ -(2684354560 * (d + 8 * hair)) ≤ (((n + 2147483648) % 4294967296 - 2147483648 : Int) : Rat) := by
  have k := VI_mod (z := (n + 2147483648) % 4294967296 - 2147483648) (t := n) (by omega) (by omega)
  have k2 := k.trans h
  refine near_VI (by omega) (k2.mono (by grind))
theorem dbl_pow : ∀ (n : Nat) (x y : Int), ∃ k : Nat, dbl n x y = (x * 2 ^ k, y * 2 ^ k)
  | 0, x, y => ⟨0, by simp [dbl]⟩
  | n + 1, x, y => by
    rw [dbl]
    split
    · obtain ⟨k, hk⟩ := dbl_pow n (x * 2) (y * 2)
      refine ⟨k + 1, ?_⟩
      rw [hk, Int.pow_succ, Int.mul_comm (2 ^ k) 2, ← Int.mul_assoc, ← Int.mul_assoc]
    · exact ⟨0, by simp⟩
theorem scd_pow {x y : Int} (hb : big x y < 2305843009213693952) : ∃ k : Nat, scd x y = (x * 2 ^ k, y * 2 ^ k) := by
  unfold scd
  rw [down_small hb]
  exact dbl_pow 64 x y
/-- of a pair to the right of 0 -/
theorem right_near {x y : Int} (h0 : 0 ≤ x) (h1 : 1 ≤ big x y) (hb : big x y < 2305843009213693952) :
    ∃ s : Rat, 0 < s ∧ Nm (sub (cx x y) (sc s (VI (aS (scd x y).1 (scd x y).2 30).2.2))) (s * (59 / 1073741824)) := by
  obtain ⟨i1, i2⟩ := sz_I (x := x) (y := y) (by omega)
  have hs := scd_bd i1 i2 h1
  have hg := scd_sgn (y := y) h0
  obtain ⟨b1, b2⟩ := big_to hs.2 hg
  obtain ⟨k, hk⟩ := scd_pow hb
  obtain ⟨s, s0, hn⟩ := aS_end b1 b2 (m := big (scd x y).1 (scd x y).2) hs.1 (by unfold big sz; omega) (by unfold big sz; omega) (by unfold big sz; omega)
  generalize (aS (scd x y).1 (scd x y).2 30).2.2 = z at *
  rw [hk] at hn
  obtain ⟨p0, p1⟩ := hp_pos k
  refine ⟨hp k * s, Rat.mul_pos p0 s0, ?_⟩
  have h2 := hn.sc (Rat.le_of_lt p0)
  have e : Cx.sc (hp k) (sub (cx (x * 2 ^ k) (y * 2 ^ k)) (sc s (VI z))) = sub (cx x y) (sc (hp k * s) (VI z)) := by
    simp only [cx, Rat.intCast_mul]
    generalize ((2 ^ k : Int) : Rat) = P at *
    apply eqC <;> simp only [sub, sc] <;> grind
  dsimp only at h2
  rw [e] at h2
  exact h2.mono (by grind)
theorem aS_far (x y : Int) : ∀ i : Nat, i ≤ 30 → -(536870912 * (i : Int)) ≤ (aS x y i).2.2 ∧ (aS x y i).2.2 ≤ 536870912 * (i : Int)
  | 0, _ => by simp only [aS]; omega
  | i + 1, h => by
    have ih := aS_far x y i (by omega)
    have := tA_bd i (by omega)
    simp only [aS]
    split <;> omega
/-- The angle of two numbers is where they lie. -/
theorem angle_near {x y : Int} (h : ¬ (x = 0 ∧ y = 0)) (hb : big x y < 2305843009213693952) : ∃ s : Rat, 0 < s ∧ Nm (sub (cx x y) (sc s (VI (angle y x)))) (s * (60 / 1073741824)) := by
  have h1 := big_one h
  have fin : ∀ (s : Rat) (u v : Cx), 0 < s → Nm (sub (cx x y) (sc s u)) (s * (59 / 1073741824)) → Nm (sub u v) (9 * hair) → Nm (sub (cx x y) (sc s v)) (s * (60 / 1073741824)) := by
    intro s u v s0 k1 k2
    have k3 := k1.add (k2.sc (Rat.le_of_lt s0))
    have e : Cx.add (sub (cx x y) (sc s u)) (sc s (sub u v)) = sub (cx x y) (sc s v) := by apply eqC <;> simp only [Cx.add, sub, sc] <;> grind
    rw [e] at k3
    have hh : (59 / 1073741824 : Rat) + 9 * hair ≤ 60 / 1073741824 := by decide +kernel
    have := Rat.mul_le_mul_of_nonneg_left hh (Rat.le_of_lt s0)
    exact k3.mono (by grind)
  have hh : (0 : Rat) ≤ hair := by decide +kernel
  unfold angle
  rw [if_neg h]
  by_cases hn : x < 0
  · rw [if_pos hn]
    have ox : opp x = -x := by unfold opp; rw [if_neg (by unfold big sz at hb; omega)]
    have oy : opp y = -y := by unfold opp; rw [if_neg (by unfold big sz at hb; omega)]
    rw [ox, oy]
    have hbn : big (-x) (-y) = big x y := by unfold big sz; omega
    obtain ⟨s, s0, k⟩ := right_near (x := -x) (y := -y) (by omega) (by omega) (by omega)
    have hz := aS_far (scd (-x) (-y)).1 (scd (-x) (-y)).2 30 (by omega)
    generalize (aS (scd (-x) (-y)).1 (scd (-x) (-y)).2 30).2.2 = z at *
    refine ⟨s, s0, fin s (sc (-1) (VI z)) _ s0 ?_ ?_⟩
    · have k2 := k.neg
      have e : sub (sc s (VI z)) (cx (-x) (-y)) = sub (cx x y) (sc s (sc (-1) (VI z))) := by
        apply eqC <;> simp only [sub, sc, cx, Rat.intCast_neg] <;> grind
      rwa [e] at k2
    · have k3 := (VI_half z).neg.trans (VI_mod (z := z + 2147483648) (t := (z + 2147483648) % 4294967296) (by omega) (by omega))
      exact k3.mono (by grind)
  · rw [if_neg hn]
    obtain ⟨s, s0, k⟩ := right_near (x := x) (y := y) (by omega) h1 hb
    have hz := aS_far (scd x y).1 (scd x y).2 30 (by omega)
    generalize (aS (scd x y).1 (scd x y).2 30).2.2 = z at *
    refine ⟨s, s0, fin s (VI z) _ s0 k ?_⟩
    exact (VI_mod (z := z) (t := z % 4294967296) (by omega) (by omega)).mono (by grind)
/-- two directions that are near -/
theorem dir_near {s t e : Rat} {a b : Int} (hs : 0 < s) (ht : 0 ≤ t) (h : Nm (sub (sc s (VI a)) (sc t (VI b))) e) : Nm (sub (VI (a - b)) one) (s⁻¹ * (2 * e)) := by
  have hg := gap (VI_U a) (VI_U b) (Rat.le_of_lt hs) ht h
  have k : Nm (sub (sc t (VI b)) (sc s (VI b))) e := by
    have e1 : sub (sc t (VI b)) (sc s (VI b)) = sc (t - s) (VI b) := by apply eqC <;> simp only [sub, sc] <;> grind
    rw [e1]
    refine ⟨h.1, ?_⟩
    rw [n2_sc]
    have := VI_U b
    unfold U at this
    rw [this]
    have m1 := Rat.mul_nonneg (show 0 ≤ e - (t - s) by grind) (show 0 ≤ e + (t - s) by grind)
    grind
  have k2 := ((h.trans k).turn (VI_U b).cj).sc (Rat.le_of_lt (Rat.inv_pos.2 hs))
  have hi : s * s⁻¹ = 1 := Rat.mul_inv_cancel _ (by grind)
  generalize s⁻¹ = g at *
  rw [Int.sub_eq_add_neg, VI_add, VI_neg]
  have hu := (VI_U b).mul_cj
  generalize VI b = v at *
  generalize VI a = u at *
  have ee : Cx.sc g (mul (sub (sc s u) (sc s v)) (cj v)) = sub (mul u (cj v)) (mul v (cj v)) := by
    apply eqC <;> simp only [sub, sc, mul, cj] <;> grind
  rw [ee, hu] at k2
  exact k2.mono (by grind)
/-- the angle of sine and cosine -/
theorem turn_back {a : Int} (ha : 0 ≤ a ∧ a < 4294967296) : -1024 ≤ (angle (bothS a) (bothC a) - a + 2147483648) % 4294967296 - 2147483648 ∧ (angle (bothS a) (bothC a) - a + 2147483648) % 4294967296 - 2147483648 ≤ 1024 := by
  have hl := both_len ha
  obtain ⟨⟨c1, c2⟩, s1, s2⟩ := both_bd a
  have hn := both_near ha
  have hU := angle_U (bothS a) (bothC a)
  obtain ⟨s, s0, k⟩ := angle_near (x := bothC a) (y := bothS a) (fun h => by rw [h.1, h.2] at hl; omega) (by unfold big sz; omega)
  generalize bothC a = c at *
  generalize bothS a = d at *
  generalize angle d c = t at *
  have h1 := hn.neg.trans k
  have hO : (0 : Rat) < One := by decide +kernel
  have hg := gap (VI_U a) (VI_U t) (Rat.le_of_lt hO) (Rat.le_of_lt s0) h1
  have hs : s ≤ 4294969600 := by unfold One at *; grind
  have h2 := dir_near hO (Rat.le_of_lt s0) (h1.mono (f := 506) (by grind))
  have h3 := h2.neg
  have h4 : Nm (sub (VI (t - a)) one) (One⁻¹ * (2 * 506)) := by
    have e : t - a = -(a - t) := by omega
    rw [e, VI_neg]
    have := h2.cj
    generalize VI (a - t) = u at *
    have e1 : Cx.cj (sub u one) = sub (cj u) one := by apply eqC <;> simp only [Cx.cj, sub, one] <;> grind
    rwa [e1] at this
  unfold U32 at hU
  obtain ⟨n1, n2⟩ := near_mod (by omega) h4
  have hf : 2684354560 * (One⁻¹ * (2 * 506) + 8 * hair) ≤ ((1024 : Int) : Rat) := by decide +kernel
  constructor
  · refine Rat.intCast_le_intCast.1 ?_
    rw [show ((-1024 : Int) : Rat) = -((1024 : Int) : Rat) by decide +kernel]
    grind
  · exact Rat.intCast_le_intCast.1 (by grind)
end Cx
end Go.Xv
namespace Go.Xv
theorem f_MatHeads (F : Nat) (hF : 200 ≤ F) {x : Int} (hx : U32 x) : f_law07_MatHeads F x = some (.v (.bool true)) := by
  unfold f_law07_MatHeads
  obtain ⟨w1, w2⟩ := a_works07 F hF
  obtain ⟨p0, p1, p2, p3, p4, p5, p6, p7, p8, p9, p10⟩ := a_mAbout2 F hF hx
  obtain ⟨⟨b1, b2⟩, b3, b4⟩ := both_bd x
  obtain ⟨h1, h2⟩ := a_Heading F hF (a0 := bothC x) (a1 := -bothS x) (a2 := 0) (a3 := bothS x) (a4 := bothC x) (a5 := 0) (a6 := 0) (a7 := 0) (a8 := 4294967296) (by unfold I64; omega) (by unfold I64; omega)
  have hb := Cx.turn_back (a := x) (by unfold U32 at hx; omega)
  refine bp w1 (bn (by rw [w2]; rfl) (bp p0 ?_))
  rw [p1, p2, p3, p4, p5, p6, p7, p8, p9]
  refine bp h1 ?_
  rw [h2]
  have e : IntKind.wrap .i32 (IntKind.wrap .u32 (angle (bothS x) (bothC x) - x)) = (angle (bothS x) (bothC x) - x + 2147483648) % 4294967296 - 2147483648 := by rw [wi32, wu32]; omega
  rw [e]
  exact bp (dt (by omega)) (some_bool (dt (by omega)))
end Go.Xv
namespace Go.Proofs.Ytpnggkefjgpleaa.matHeads
open Go.ChangeShapes Go.WideShapes Go.ChangeAt Go.RowKit Go.Xv Go.Proofs.Ytpnggkefjgpleaa.base
set_option linter.unusedVariables false
set_option maxRecDepth 100000 in
theorem lifted (os : Os) (started : os.Started) (H : Type) (enc : TypeId × Value → H) :
    ReturnsInHanded {} Try.checked os 18 .any (Rows.matHeadsSpec.pre6 enc Try.prog Try.f18 Rows.matHeadsRow.domain false) (Rows.matHeadsSpec.post enc Try.prog Try.f18 false true false false) := by
  refine returnsInHanded_of_change (C := Try.checked) own started (by kernel_rfl) Try.func18
    (ChangeSpec.witness6 (enc := enc) (C := Try.checked) false ⟨#[], #[.int .u32 0], []⟩ 8 (by kernel_rfl) (by kernel_rfl) (by kernel_rfl) (by kernel_rfl)) ?_
  intro W base args ds gs before hval0 hW hcnd _
  have hval : ∀ (j : Nat) t v, Try.f18.params[j]? = some t → args[j]? = some v → Value.okWide Try.prog W .any base t v := hval0
  have hW' := hW
  obtain ⟨p, q, hA0, hV, rfl, hfz, hnd⟩ := hW
  have hA : DataW.TrodAll enc Try.prog W 0 (fun _ => true) true Try.f18.params.toList args.toList ds p := hA0
  rw [Try.params18] at hA hval
  obtain ⟨v0, vs0, d0, ds0, p0, q0, hargs, rfl, rfl, h0, r0⟩ := trodAll_cons hA
  obtain ⟨rfl, rfl, rfl⟩ := trodAll_nil r0
  obtain rfl : args = #[v0] := by cases args; simp_all
  obtain ⟨a0, rfl, wa0⟩ := open_num (k := .u32) (by kernel_rfl) (hval 0 30 v0 rfl rfl) h0
  refine law_contract laidOut (g_law07_MatHeads fuel0) (bt := 4) (by kernel_rfl) (by kernel_rfl) (by kernel_rfl) (by kernel_rfl) rfl hW' ?_
  refine ⟨[.v (.int .u32 a0)], rfl, fun i x hx => ?_, unS_of ?_⟩
  · match i, hx with
    | 0, hx => exact ⟨_, rfl, by cases hx; exact Rel.v _ _⟩
    | _ + 1, hx => cases hx
  · obtain ⟨y1, y2⟩ := k_law07_MatHeads fuel0 a0 (f_MatHeads fuel0 (by unfold fuel0; omega) (wf_u32 wa0))
    have e : s_law07_MatHeads fuel0 [.v (.int .u32 a0)] = some (ok_law07_MatHeads fuel0 a0, .v (.bool (o_law07_MatHeads_0 fuel0 a0))) := by kernel_rfl
    rw [e, y1, y2]
theorem over : Rows.matHeadsRow.holds Try.pinned (OpenSpec.ofChange Rows.matHeadsSpec) :=
  OpenClaim.holds_of_wide 18 Try.f18 rfl rfl rfl rfl rfl rfl rfl ⟨rfl, rfl, rfl, rfl, rfl⟩ rfl rfl rfl rfl rfl (by kernel_rfl) Try.func18 (joined_of (P := Try.prog) behind enter_ rfl rfl ⟨rfl, rfl⟩ (by kernel_rfl))
    (of_decide_eq_true (by kernel_rfl)) (by unfold Func.isWrapper; first | (rw [if_pos (by decide +kernel)]; kernel_rfl) | (rw [if_neg (by decide +kernel)]; exact ⟨rfl, rfl⟩))
    (fun os started H enc _ => lifted os started H enc)
/-- The statement. -/
theorem proved : Rows.MatHeadsSaid := over
#print axioms proved
end Go.Proofs.Ytpnggkefjgpleaa.matHeads
