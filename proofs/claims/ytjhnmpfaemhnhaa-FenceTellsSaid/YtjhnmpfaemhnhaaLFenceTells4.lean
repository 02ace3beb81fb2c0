/- Whether any zone may be, any point is within, any square touches, and any state, are as the document says, or refused: the law returns true for every input, and leaves its arguments as they were. -/
import Derived.Test.YtjhnmpfaemhnhaaLFenceTells3
import Derived.KernelRfl
set_option linter.unusedVariables false
namespace Go.Xv
/- 3 _law37_FenceTells -/
def c_law37_FenceTells : Cfg := ⟨[0, 1, 2, 3, 4, 6, 7, 8, 9, 10, 11, 12, 13, 14, 15, 16, 17, 18, 19, 20], [], [30, 43, 58, 72], []⟩
def ti_law37_FenceTells : List TV := [.agg [.v (.bool), .fs .hole .hole 2, .v (.int .i64), .v (.int .i64)], .v (.agg [.int .i64, .int .i64, .int .i64]), .v (.int .i64)]
def to_law37_FenceTells : TV := .v (.bool)
def S_law37_FenceTells (F : Nat) : FuncId → List VV → Option (Bool × VV) := words [(7, s_law37_plain F), (9, s_law37_few F), (8, s_fence_Within F), (10, s_ref37_Within F), (11, s_fence_Touches F), (12, s_ref37_Touches F), (13, s_fence_State F), (14, s_ref37_State F), (15, s_fence_Check F), (16, s_ref37_Check F), (17, s_law37_works F)]
def W_law37_FenceTells (F : Nat) : List LW := []
def I_law37_FenceTells (F : Nat) : Nat → VS → (Exit → VS → R) → R := tabI c_law37_FenceTells (W_law37_FenceTells F)
def WJ_law37_FenceTells (F : Nat) : List LJ := []
def J_law37_FenceTells (F : Nat) : Nat → Nat → VS → (Exit → VS → R) → R := tabJ (WJ_law37_FenceTells F)
def f_law37_FenceTells (F : Nat) (a0 : Bool) (a1 : List VV) (a2 : Nat) (a3 : Nat) (a4 : Int) (a5 : Int) (a6 : Int) (a7 : Int) (a8 : Int) (a9 : Int) : R :=
  bif (ok_law37_plain F a0 a1 a2 a3 a4 a5) then (
    let v331 : Bool := (o_law37_plain_0 F a0 a1 a2 a3 a4 a5)
    let v332 : List VV := (o_law37_plain_1 F a0 a1 a2 a3 a4 a5)
    let v333 : Nat := (o_law37_plain_2 F a0 a1 a2 a3 a4 a5)
    let v334 : Int := (o_law37_plain_3 F a0 a1 a2 a3 a4 a5)
    let v335 : Int := (o_law37_plain_4 F a0 a1 a2 a3 a4 a5)
    bif (ok_law37_few F a0 a1 a2 a3 a4 a5) then (
      let v341 : Bool := (o_law37_few_0 F a0 a1 a2 a3 a4 a5)
      let v342 : List VV := (o_law37_few_1 F a0 a1 a2 a3 a4 a5)
      let v343 : Nat := (o_law37_few_2 F a0 a1 a2 a3 a4 a5)
      let v344 : Int := (o_law37_few_3 F a0 a1 a2 a3 a4 a5)
      let v345 : Int := (o_law37_few_4 F a0 a1 a2 a3 a4 a5)
      bif (ok_fence_Within F v341 v342 0 v343 v344 v345 a6 a7) then (
        bif (ok_ref37_Within F v331 v332 v333 v334 v335 a6 a7) then (
          bif (ok_law37_few F a0 a1 a2 a3 a4 a5) then (
            let v921 : Bool := (o_law37_few_0 F a0 a1 a2 a3 a4 a5)
            let v922 : List VV := (o_law37_few_1 F a0 a1 a2 a3 a4 a5)
            let v923 : Nat := (o_law37_few_2 F a0 a1 a2 a3 a4 a5)
            let v924 : Int := (o_law37_few_3 F a0 a1 a2 a3 a4 a5)
            let v925 : Int := (o_law37_few_4 F a0 a1 a2 a3 a4 a5)
            bif (ok_fence_Touches F v921 v922 0 v923 v924 v925 a6 a7 a9) then (
              bif (ok_ref37_Touches F v331 v332 v333 v334 v335 a6 a7 a9) then (
                bif (ok_law37_few F a0 a1 a2 a3 a4 a5) then (
                  let v930 : Bool := (o_law37_few_0 F a0 a1 a2 a3 a4 a5)
                  let v931 : List VV := (o_law37_few_1 F a0 a1 a2 a3 a4 a5)
                  let v932 : Nat := (o_law37_few_2 F a0 a1 a2 a3 a4 a5)
                  let v933 : Int := (o_law37_few_3 F a0 a1 a2 a3 a4 a5)
                  let v934 : Int := (o_law37_few_4 F a0 a1 a2 a3 a4 a5)
                  bif (ok_fence_State F v930 v931 v932 v933 v934 a6 a7 a8 a9) then (
                    bif (ok_ref37_State F v331 v332 v333 v334 v335 a6 a7 a8 a9) then (
                      bif (ok_law37_few F a0 a1 a2 a3 a4 a5) then (
                        let v1945 : Bool := (o_law37_few_0 F a0 a1 a2 a3 a4 a5)
                        let v1946 : List VV := (o_law37_few_1 F a0 a1 a2 a3 a4 a5)
                        let v1947 : Nat := (o_law37_few_2 F a0 a1 a2 a3 a4 a5)
                        let v1948 : Int := (o_law37_few_3 F a0 a1 a2 a3 a4 a5)
                        let v1949 : Int := (o_law37_few_4 F a0 a1 a2 a3 a4 a5)
                        bif (ok_fence_Check F v1945 v1946 0 v1947 v1948 v1949) then (
                          bif (ok_ref37_Check F v331 v332 v333 v334 v335) then (
                            bif ((((o_fence_Check_0 F v1945 v1946 0 v1947 v1948 v1949)) == ((o_ref37_Check_0 F v331 v332 v333 v334 v335)))) then (
                              bif ((((o_fence_Within_0 F v341 v342 0 v343 v344 v345 a6 a7)) == ((o_ref37_Within_0 F v331 v332 v333 v334 v335 a6 a7)))) then (
                                bif ((((o_fence_Within_1 F v341 v342 0 v343 v344 v345 a6 a7)) == ((o_ref37_Within_1 F v331 v332 v333 v334 v335 a6 a7)))) then (
                                  bif ((((o_fence_Touches_0 F v921 v922 0 v923 v924 v925 a6 a7 a9)) == ((o_ref37_Touches_0 F v331 v332 v333 v334 v335 a6 a7 a9)))) then (
                                    bif ((((o_fence_Touches_1 F v921 v922 0 v923 v924 v925 a6 a7 a9)) == ((o_ref37_Touches_1 F v331 v332 v333 v334 v335 a6 a7 a9)))) then (
                                      bif ((((o_fence_State_0 F v930 v931 v932 v933 v934 a6 a7 a8 a9)) == ((o_ref37_State_0 F v331 v332 v333 v334 v335 a6 a7 a8 a9)))) then (
                                        bif ((((o_fence_State_1 F v930 v931 v932 v933 v934 a6 a7 a8 a9)) == ((o_ref37_State_1 F v331 v332 v333 v334 v335 a6 a7 a8 a9)))) then (
                                          bif (ok_law37_works F) then (
                                            some (.v (.bool ((o_law37_works_0 F)))))
                                          else (
                                            none))
                                        else (
                                          some (.v (.bool false))))
                                      else (
                                        some (.v (.bool false))))
                                    else (
                                      some (.v (.bool false))))
                                  else (
                                    some (.v (.bool false))))
                                else (
                                  some (.v (.bool false))))
                              else (
                                some (.v (.bool false))))
                            else (
                              some (.v (.bool false))))
                          else (
                            none))
                        else (
                          none))
                      else (
                        none))
                    else (
                      none))
                  else (
                    none))
                else (
                  none))
              else (
                none))
            else (
              none))
          else (
            none))
        else (
          none))
      else (
        none))
    else (
      none))
  else (
    none)
theorem e_law37_FenceTells (F : Nat) (a0 : Bool) (a1 : List VV) (a2 : Nat) (a3 : Nat) (a4 : Int) (a5 : Int) (a6 : Int) (a7 : Int) (a8 : Int) (a9 : Int) : funL PP (S_law37_FenceTells F) c_law37_FenceTells (I_law37_FenceTells F) (J_law37_FenceTells F) 3 (fTs ti_law37_FenceTells [.b a0, .c a1, .n a2, .n a3, .i a4, .i a5, .i a6, .i a7, .i a8, .i a9]).1 = f_law37_FenceTells F a0 a1 a2 a3 a4 a5 a6 a7 a8 a9 := by
  have h : ∀ (ok_law37_plain : Nat → Bool → List VV → Nat → Nat → Int → Int → Bool) (o_law37_plain_0 : Nat → Bool → List VV → Nat → Nat → Int → Int → Bool) (o_law37_plain_1 : Nat → Bool → List VV → Nat → Nat → Int → Int → List VV) (o_law37_plain_2 : Nat → Bool → List VV → Nat → Nat → Int → Int → Nat) (o_law37_plain_3 : Nat → Bool → List VV → Nat → Nat → Int → Int → Int) (o_law37_plain_4 : Nat → Bool → List VV → Nat → Nat → Int → Int → Int) (ok_law37_few : Nat → Bool → List VV → Nat → Nat → Int → Int → Bool) (o_law37_few_0 : Nat → Bool → List VV → Nat → Nat → Int → Int → Bool) (o_law37_few_1 : Nat → Bool → List VV → Nat → Nat → Int → Int → List VV) (o_law37_few_2 : Nat → Bool → List VV → Nat → Nat → Int → Int → Nat) (o_law37_few_3 : Nat → Bool → List VV → Nat → Nat → Int → Int → Int) (o_law37_few_4 : Nat → Bool → List VV → Nat → Nat → Int → Int → Int) (ok_fence_Within : Nat → Bool → List VV → Nat → Nat → Int → Int → Int → Int → Bool) (o_fence_Within_0 : Nat → Bool → List VV → Nat → Nat → Int → Int → Int → Int → Bool) (o_fence_Within_1 : Nat → Bool → List VV → Nat → Nat → Int → Int → Int → Int → Int) (ok_ref37_Within : Nat → Bool → List VV → Nat → Int → Int → Int → Int → Bool) (o_ref37_Within_0 : Nat → Bool → List VV → Nat → Int → Int → Int → Int → Bool) (o_ref37_Within_1 : Nat → Bool → List VV → Nat → Int → Int → Int → Int → Int) (ok_fence_Touches : Nat → Bool → List VV → Nat → Nat → Int → Int → Int → Int → Int → Bool) (o_fence_Touches_0 : Nat → Bool → List VV → Nat → Nat → Int → Int → Int → Int → Int → Bool) (o_fence_Touches_1 : Nat → Bool → List VV → Nat → Nat → Int → Int → Int → Int → Int → Int) (ok_ref37_Touches : Nat → Bool → List VV → Nat → Int → Int → Int → Int → Int → Bool) (o_ref37_Touches_0 : Nat → Bool → List VV → Nat → Int → Int → Int → Int → Int → Bool) (o_ref37_Touches_1 : Nat → Bool → List VV → Nat → Int → Int → Int → Int → Int → Int) (ok_fence_State : Nat → Bool → List VV → Nat → Int → Int → Int → Int → Int → Int → Bool) (o_fence_State_0 : Nat → Bool → List VV → Nat → Int → Int → Int → Int → Int → Int → Int) (o_fence_State_1 : Nat → Bool → List VV → Nat → Int → Int → Int → Int → Int → Int → Int) (ok_ref37_State : Nat → Bool → List VV → Nat → Int → Int → Int → Int → Int → Int → Bool) (o_ref37_State_0 : Nat → Bool → List VV → Nat → Int → Int → Int → Int → Int → Int → Int) (o_ref37_State_1 : Nat → Bool → List VV → Nat → Int → Int → Int → Int → Int → Int → Int) (ok_fence_Check : Nat → Bool → List VV → Nat → Nat → Int → Int → Bool) (o_fence_Check_0 : Nat → Bool → List VV → Nat → Nat → Int → Int → Int) (ok_ref37_Check : Nat → Bool → List VV → Nat → Int → Int → Bool) (o_ref37_Check_0 : Nat → Bool → List VV → Nat → Int → Int → Int) (ok_law37_works : Nat → Bool) (o_law37_works_0 : Nat → Bool), funL PP (words [(7, spec ti_law37_plain to_law37_plain (fun q => (ok_law37_plain F (atB (nth q 0)) (atC (nth q 1)) (atN (nth q 2)) (atN (nth q 3)) (atI (nth q 4)) (atI (nth q 5)))) (fun q => [.b (o_law37_plain_0 F (atB (nth q 0)) (atC (nth q 1)) (atN (nth q 2)) (atN (nth q 3)) (atI (nth q 4)) (atI (nth q 5))), .c (o_law37_plain_1 F (atB (nth q 0)) (atC (nth q 1)) (atN (nth q 2)) (atN (nth q 3)) (atI (nth q 4)) (atI (nth q 5))), .n (o_law37_plain_2 F (atB (nth q 0)) (atC (nth q 1)) (atN (nth q 2)) (atN (nth q 3)) (atI (nth q 4)) (atI (nth q 5))), .i (o_law37_plain_3 F (atB (nth q 0)) (atC (nth q 1)) (atN (nth q 2)) (atN (nth q 3)) (atI (nth q 4)) (atI (nth q 5))), .i (o_law37_plain_4 F (atB (nth q 0)) (atC (nth q 1)) (atN (nth q 2)) (atN (nth q 3)) (atI (nth q 4)) (atI (nth q 5)))])), (9, spec ti_law37_few to_law37_few (fun q => (ok_law37_few F (atB (nth q 0)) (atC (nth q 1)) (atN (nth q 2)) (atN (nth q 3)) (atI (nth q 4)) (atI (nth q 5)))) (fun q => [.b (o_law37_few_0 F (atB (nth q 0)) (atC (nth q 1)) (atN (nth q 2)) (atN (nth q 3)) (atI (nth q 4)) (atI (nth q 5))), .c (o_law37_few_1 F (atB (nth q 0)) (atC (nth q 1)) (atN (nth q 2)) (atN (nth q 3)) (atI (nth q 4)) (atI (nth q 5))), .n (o_law37_few_2 F (atB (nth q 0)) (atC (nth q 1)) (atN (nth q 2)) (atN (nth q 3)) (atI (nth q 4)) (atI (nth q 5))), .i (o_law37_few_3 F (atB (nth q 0)) (atC (nth q 1)) (atN (nth q 2)) (atN (nth q 3)) (atI (nth q 4)) (atI (nth q 5))), .i (o_law37_few_4 F (atB (nth q 0)) (atC (nth q 1)) (atN (nth q 2)) (atN (nth q 3)) (atI (nth q 4)) (atI (nth q 5)))])), (8, spec ti_fence_Within to_fence_Within (fun q => (ok_fence_Within F (atB (nth q 0)) (atC (nth q 1)) (atN (nth q 2)) (atN (nth q 3)) (atI (nth q 4)) (atI (nth q 5)) (atI (nth q 6)) (atI (nth q 7)))) (fun q => [.b (o_fence_Within_0 F (atB (nth q 0)) (atC (nth q 1)) (atN (nth q 2)) (atN (nth q 3)) (atI (nth q 4)) (atI (nth q 5)) (atI (nth q 6)) (atI (nth q 7))), .i (o_fence_Within_1 F (atB (nth q 0)) (atC (nth q 1)) (atN (nth q 2)) (atN (nth q 3)) (atI (nth q 4)) (atI (nth q 5)) (atI (nth q 6)) (atI (nth q 7)))])), (10, spec ti_ref37_Within to_ref37_Within (fun q => (ok_ref37_Within F (atB (nth q 0)) (atC (nth q 1)) (atN (nth q 2)) (atI (nth q 3)) (atI (nth q 4)) (atI (nth q 5)) (atI (nth q 6)))) (fun q => [.b (o_ref37_Within_0 F (atB (nth q 0)) (atC (nth q 1)) (atN (nth q 2)) (atI (nth q 3)) (atI (nth q 4)) (atI (nth q 5)) (atI (nth q 6))), .i (o_ref37_Within_1 F (atB (nth q 0)) (atC (nth q 1)) (atN (nth q 2)) (atI (nth q 3)) (atI (nth q 4)) (atI (nth q 5)) (atI (nth q 6)))])), (11, spec ti_fence_Touches to_fence_Touches (fun q => (ok_fence_Touches F (atB (nth q 0)) (atC (nth q 1)) (atN (nth q 2)) (atN (nth q 3)) (atI (nth q 4)) (atI (nth q 5)) (atI (nth q 6)) (atI (nth q 7)) (atI (nth q 8)))) (fun q => [.b (o_fence_Touches_0 F (atB (nth q 0)) (atC (nth q 1)) (atN (nth q 2)) (atN (nth q 3)) (atI (nth q 4)) (atI (nth q 5)) (atI (nth q 6)) (atI (nth q 7)) (atI (nth q 8))), .i (o_fence_Touches_1 F (atB (nth q 0)) (atC (nth q 1)) (atN (nth q 2)) (atN (nth q 3)) (atI (nth q 4)) (atI (nth q 5)) (atI (nth q 6)) (atI (nth q 7)) (atI (nth q 8)))])), (12, spec ti_ref37_Touches to_ref37_Touches (fun q => (ok_ref37_Touches F (atB (nth q 0)) (atC (nth q 1)) (atN (nth q 2)) (atI (nth q 3)) (atI (nth q 4)) (atI (nth q 5)) (atI (nth q 6)) (atI (nth q 7)))) (fun q => [.b (o_ref37_Touches_0 F (atB (nth q 0)) (atC (nth q 1)) (atN (nth q 2)) (atI (nth q 3)) (atI (nth q 4)) (atI (nth q 5)) (atI (nth q 6)) (atI (nth q 7))), .i (o_ref37_Touches_1 F (atB (nth q 0)) (atC (nth q 1)) (atN (nth q 2)) (atI (nth q 3)) (atI (nth q 4)) (atI (nth q 5)) (atI (nth q 6)) (atI (nth q 7)))])), (13, spec ti_fence_State to_fence_State (fun q => (ok_fence_State F (atB (nth q 0)) (atC (nth q 1)) (atN (nth q 2)) (atI (nth q 3)) (atI (nth q 4)) (atI (nth q 5)) (atI (nth q 6)) (atI (nth q 7)) (atI (nth q 8)))) (fun q => [.i (o_fence_State_0 F (atB (nth q 0)) (atC (nth q 1)) (atN (nth q 2)) (atI (nth q 3)) (atI (nth q 4)) (atI (nth q 5)) (atI (nth q 6)) (atI (nth q 7)) (atI (nth q 8))), .i (o_fence_State_1 F (atB (nth q 0)) (atC (nth q 1)) (atN (nth q 2)) (atI (nth q 3)) (atI (nth q 4)) (atI (nth q 5)) (atI (nth q 6)) (atI (nth q 7)) (atI (nth q 8)))])), (14, spec ti_ref37_State to_ref37_State (fun q => (ok_ref37_State F (atB (nth q 0)) (atC (nth q 1)) (atN (nth q 2)) (atI (nth q 3)) (atI (nth q 4)) (atI (nth q 5)) (atI (nth q 6)) (atI (nth q 7)) (atI (nth q 8)))) (fun q => [.i (o_ref37_State_0 F (atB (nth q 0)) (atC (nth q 1)) (atN (nth q 2)) (atI (nth q 3)) (atI (nth q 4)) (atI (nth q 5)) (atI (nth q 6)) (atI (nth q 7)) (atI (nth q 8))), .i (o_ref37_State_1 F (atB (nth q 0)) (atC (nth q 1)) (atN (nth q 2)) (atI (nth q 3)) (atI (nth q 4)) (atI (nth q 5)) (atI (nth q 6)) (atI (nth q 7)) (atI (nth q 8)))])), (15, spec ti_fence_Check to_fence_Check (fun q => (ok_fence_Check F (atB (nth q 0)) (atC (nth q 1)) (atN (nth q 2)) (atN (nth q 3)) (atI (nth q 4)) (atI (nth q 5)))) (fun q => [.i (o_fence_Check_0 F (atB (nth q 0)) (atC (nth q 1)) (atN (nth q 2)) (atN (nth q 3)) (atI (nth q 4)) (atI (nth q 5)))])), (16, spec ti_ref37_Check to_ref37_Check (fun q => (ok_ref37_Check F (atB (nth q 0)) (atC (nth q 1)) (atN (nth q 2)) (atI (nth q 3)) (atI (nth q 4)))) (fun q => [.i (o_ref37_Check_0 F (atB (nth q 0)) (atC (nth q 1)) (atN (nth q 2)) (atI (nth q 3)) (atI (nth q 4)))])), (17, spec ti_law37_works to_law37_works (fun q => (ok_law37_works F )) (fun q => [.b (o_law37_works_0 F )]))]) c_law37_FenceTells (tabI c_law37_FenceTells []) (tabJ []) 3 (fTs ti_law37_FenceTells [.b a0, .c a1, .n a2, .n a3, .i a4, .i a5, .i a6, .i a7, .i a8, .i a9]).1 = (
  bif (ok_law37_plain F a0 a1 a2 a3 a4 a5) then (
    let v331 : Bool := (o_law37_plain_0 F a0 a1 a2 a3 a4 a5)
    let v332 : List VV := (o_law37_plain_1 F a0 a1 a2 a3 a4 a5)
    let v333 : Nat := (o_law37_plain_2 F a0 a1 a2 a3 a4 a5)
    let v334 : Int := (o_law37_plain_3 F a0 a1 a2 a3 a4 a5)
    let v335 : Int := (o_law37_plain_4 F a0 a1 a2 a3 a4 a5)
    bif (ok_law37_few F a0 a1 a2 a3 a4 a5) then (
      let v341 : Bool := (o_law37_few_0 F a0 a1 a2 a3 a4 a5)
      let v342 : List VV := (o_law37_few_1 F a0 a1 a2 a3 a4 a5)
      let v343 : Nat := (o_law37_few_2 F a0 a1 a2 a3 a4 a5)
      let v344 : Int := (o_law37_few_3 F a0 a1 a2 a3 a4 a5)
      let v345 : Int := (o_law37_few_4 F a0 a1 a2 a3 a4 a5)
      bif (ok_fence_Within F v341 v342 0 v343 v344 v345 a6 a7) then (
        bif (ok_ref37_Within F v331 v332 v333 v334 v335 a6 a7) then (
          bif (ok_law37_few F a0 a1 a2 a3 a4 a5) then (
            let v921 : Bool := (o_law37_few_0 F a0 a1 a2 a3 a4 a5)
            let v922 : List VV := (o_law37_few_1 F a0 a1 a2 a3 a4 a5)
            let v923 : Nat := (o_law37_few_2 F a0 a1 a2 a3 a4 a5)
            let v924 : Int := (o_law37_few_3 F a0 a1 a2 a3 a4 a5)
            let v925 : Int := (o_law37_few_4 F a0 a1 a2 a3 a4 a5)
            bif (ok_fence_Touches F v921 v922 0 v923 v924 v925 a6 a7 a9) then (
              bif (ok_ref37_Touches F v331 v332 v333 v334 v335 a6 a7 a9) then (
                bif (ok_law37_few F a0 a1 a2 a3 a4 a5) then (
                  let v930 : Bool := (o_law37_few_0 F a0 a1 a2 a3 a4 a5)
                  let v931 : List VV := (o_law37_few_1 F a0 a1 a2 a3 a4 a5)
                  let v932 : Nat := (o_law37_few_2 F a0 a1 a2 a3 a4 a5)
                  let v933 : Int := (o_law37_few_3 F a0 a1 a2 a3 a4 a5)
                  let v934 : Int := (o_law37_few_4 F a0 a1 a2 a3 a4 a5)
                  bif (ok_fence_State F v930 v931 v932 v933 v934 a6 a7 a8 a9) then (
                    bif (ok_ref37_State F v331 v332 v333 v334 v335 a6 a7 a8 a9) then (
                      bif (ok_law37_few F a0 a1 a2 a3 a4 a5) then (
                        let v1945 : Bool := (o_law37_few_0 F a0 a1 a2 a3 a4 a5)
                        let v1946 : List VV := (o_law37_few_1 F a0 a1 a2 a3 a4 a5)
                        let v1947 : Nat := (o_law37_few_2 F a0 a1 a2 a3 a4 a5)
                        let v1948 : Int := (o_law37_few_3 F a0 a1 a2 a3 a4 a5)
                        let v1949 : Int := (o_law37_few_4 F a0 a1 a2 a3 a4 a5)
                        bif (ok_fence_Check F v1945 v1946 0 v1947 v1948 v1949) then (
                          bif (ok_ref37_Check F v331 v332 v333 v334 v335) then (
                            bif ((((o_fence_Check_0 F v1945 v1946 0 v1947 v1948 v1949)) == ((o_ref37_Check_0 F v331 v332 v333 v334 v335)))) then (
                              bif ((((o_fence_Within_0 F v341 v342 0 v343 v344 v345 a6 a7)) == ((o_ref37_Within_0 F v331 v332 v333 v334 v335 a6 a7)))) then (
                                bif ((((o_fence_Within_1 F v341 v342 0 v343 v344 v345 a6 a7)) == ((o_ref37_Within_1 F v331 v332 v333 v334 v335 a6 a7)))) then (
                                  bif ((((o_fence_Touches_0 F v921 v922 0 v923 v924 v925 a6 a7 a9)) == ((o_ref37_Touches_0 F v331 v332 v333 v334 v335 a6 a7 a9)))) then (
                                    bif ((((o_fence_Touches_1 F v921 v922 0 v923 v924 v925 a6 a7 a9)) == ((o_ref37_Touches_1 F v331 v332 v333 v334 v335 a6 a7 a9)))) then (
                                      bif ((((o_fence_State_0 F v930 v931 v932 v933 v934 a6 a7 a8 a9)) == ((o_ref37_State_0 F v331 v332 v333 v334 v335 a6 a7 a8 a9)))) then (
                                        bif ((((o_fence_State_1 F v930 v931 v932 v933 v934 a6 a7 a8 a9)) == ((o_ref37_State_1 F v331 v332 v333 v334 v335 a6 a7 a8 a9)))) then (
                                          bif (ok_law37_works F) then (
                                            some (.v (.bool ((o_law37_works_0 F)))))
                                          else (
                                            none))
                                        else (
                                          some (.v (.bool false))))
                                      else (
                                        some (.v (.bool false))))
                                    else (
                                      some (.v (.bool false))))
                                  else (
                                    some (.v (.bool false))))
                                else (
                                  some (.v (.bool false))))
                              else (
                                some (.v (.bool false))))
                            else (
                              some (.v (.bool false))))
                          else (
                            none))
                        else (
                          none))
                      else (
                        none))
                    else (
                      none))
                  else (
                    none))
                else (
                  none))
              else (
                none))
            else (
              none))
          else (
            none))
        else (
          none))
      else (
        none))
    else (
      none))
  else (
    none) : R) := by
    intros
    kernel_rfl
  exact (h ok_law37_plain o_law37_plain_0 o_law37_plain_1 o_law37_plain_2 o_law37_plain_3 o_law37_plain_4 ok_law37_few o_law37_few_0 o_law37_few_1 o_law37_few_2 o_law37_few_3 o_law37_few_4 ok_fence_Within o_fence_Within_0 o_fence_Within_1 ok_ref37_Within o_ref37_Within_0 o_ref37_Within_1 ok_fence_Touches o_fence_Touches_0 o_fence_Touches_1 ok_ref37_Touches o_ref37_Touches_0 o_ref37_Touches_1 ok_fence_State o_fence_State_0 o_fence_State_1 ok_ref37_State o_ref37_State_0 o_ref37_State_1 ok_fence_Check o_fence_Check_0 ok_ref37_Check o_ref37_Check_0 ok_law37_works o_law37_works_0).trans (by kernel_rfl)
def ok_law37_FenceTells (F : Nat) (a0 : Bool) (a1 : List VV) (a2 : Nat) (a3 : Nat) (a4 : Int) (a5 : Int) (a6 : Int) (a7 : Int) (a8 : Int) (a9 : Int) : Bool := okT to_law37_FenceTells (f_law37_FenceTells F a0 a1 a2 a3 a4 a5 a6 a7 a8 a9)
def o_law37_FenceTells_0 (F : Nat) (a0 : Bool) (a1 : List VV) (a2 : Nat) (a3 : Nat) (a4 : Int) (a5 : Int) (a6 : Int) (a7 : Int) (a8 : Int) (a9 : Int) : Bool := atB (nth (outT to_law37_FenceTells (f_law37_FenceTells F a0 a1 a2 a3 a4 a5 a6 a7 a8 a9)) 0)
theorem k_law37_FenceTells (F : Nat) (a0 : Bool) (a1 : List VV) (a2 : Nat) (a3 : Nat) (a4 : Int) (a5 : Int) (a6 : Int) (a7 : Int) (a8 : Int) (a9 : Int) {z0 : Bool} (h : f_law37_FenceTells F a0 a1 a2 a3 a4 a5 a6 a7 a8 a9 = some (.v (.bool z0))) : ok_law37_FenceTells F a0 a1 a2 a3 a4 a5 a6 a7 a8 a9 = true ∧ o_law37_FenceTells_0 F a0 a1 a2 a3 a4 a5 a6 a7 a8 a9 = z0 := by
  refine ⟨?_, ?_⟩
  · unfold ok_law37_FenceTells; rw [h]; kernel_rfl
  · unfold o_law37_FenceTells_0; rw [h]; kernel_rfl
def s_law37_FenceTells (F : Nat) : List VV → Option (Bool × VV) := spec ti_law37_FenceTells to_law37_FenceTells (fun q => (ok_law37_FenceTells F (atB (nth q 0)) (atC (nth q 1)) (atN (nth q 2)) (atN (nth q 3)) (atI (nth q 4)) (atI (nth q 5)) (atI (nth q 6)) (atI (nth q 7)) (atI (nth q 8)) (atI (nth q 9)))) (fun q => [.b (o_law37_FenceTells_0 F (atB (nth q 0)) (atC (nth q 1)) (atN (nth q 2)) (atN (nth q 3)) (atI (nth q 4)) (atI (nth q 5)) (atI (nth q 6)) (atI (nth q 7)) (atI (nth q 8)) (atI (nth q 9)))])
theorem hS_law37_FenceTells (F : Nat) : ∀ f, Good PP f (unS (S_law37_FenceTells F f)) := words_good fun p hp => by
  simp only [List.mem_cons, List.not_mem_nil, or_false] at hp
  rcases hp with rfl | rfl | rfl | rfl | rfl | rfl | rfl | rfl | rfl | rfl | rfl
  · exact g_law37_plain F
  · exact g_law37_few F
  · exact g_fence_Within F
  · exact g_ref37_Within F
  · exact g_fence_Touches F
  · exact g_ref37_Touches F
  · exact g_fence_State F
  · exact g_ref37_State F
  · exact g_fence_Check F
  · exact g_ref37_Check F
  · exact g_law37_works F
theorem hl_law37_FenceTells (F : Nat) : ∀ p ∈ loopsIn PP 3, LoopOK PP (S_law37_FenceTells F) c_law37_FenceTells F (I_law37_FenceTells F) (J_law37_FenceTells F) p :=
  loops_of [] (by kernel_rfl) all_nil
theorem hj_law37_FenceTells (F : Nat) : ∀ p ∈ joinsIn PP c_law37_FenceTells 3, JoinOK PP (S_law37_FenceTells F) c_law37_FenceTells (I_law37_FenceTells F) (J_law37_FenceTells F) p :=
  joins_of [] (by kernel_rfl) all_nil
theorem g_law37_FenceTells (F : Nat) : Good PP 3 (unS (s_law37_FenceTells F)) :=
  fun_spec (hS_law37_FenceTells F) (by kernel_rfl) (by kernel_rfl) (C := c_law37_FenceTells) (F := fun q => (f_law37_FenceTells F (atB (nth q 0)) (atC (nth q 1)) (atN (nth q 2)) (atN (nth q 3)) (atI (nth q 4)) (atI (nth q 5)) (atI (nth q 6)) (atI (nth q 7)) (atI (nth q 8)) (atI (nth q 9)))) (fun _ => F) (fun _ => I_law37_FenceTells F) (fun _ => J_law37_FenceTells F) (fun _ => hl_law37_FenceTells F) (fun _ => hj_law37_FenceTells F)
    (fun q => (congrArg (funL PP (S_law37_FenceTells F) c_law37_FenceTells (I_law37_FenceTells F) (J_law37_FenceTells F) 3) (show (fTs ti_law37_FenceTells q).1 = (fTs ti_law37_FenceTells [.b (atB (nth q 0)), .c (atC (nth q 1)), .n (atN (nth q 2)), .n (atN (nth q 3)), .i (atI (nth q 4)), .i (atI (nth q 5)), .i (atI (nth q 6)), .i (atI (nth q 7)), .i (atI (nth q 8)), .i (atI (nth q 9))]).1 by kernel_rfl)).trans (e_law37_FenceTells F (atB (nth q 0)) (atC (nth q 1)) (atN (nth q 2)) (atN (nth q 3)) (atI (nth q 4)) (atI (nth q 5)) (atI (nth q 6)) (atI (nth q 7)) (atI (nth q 8)) (atI (nth q 9))))
    (fun _ h => okT_fill' h (by kernel_rfl))

end Go.Xv
namespace Go.Xv
theorem f_FenceTells (F : Nat) (hF : 200 ≤ F) {kp : Bool} {z : List Int} {len : Nat} {fl rf x y h r : Int} (hw : ∀ n ∈ z, I64 n) (hl : z.length = len * 2) (hfl : I64 fl) (hrf : I64 rf) (hx : I64 x) (hy : I64 y) (hh : I64 h) (hr : I64 r) :
    f_law37_FenceTells F kp (z.map fun n => .v (.int .i64 n)) 0 len fl rf x y h r = some (.v (.bool true)) := by
  obtain ⟨e1, e2⟩ := pairs_cells len z hl
  rw [← e1, ← e2]
  generalize pairsOf z = zs
  have hb : (zs.take 20).length ≤ 20 := by rw [List.length_take]; omega
  obtain ⟨p1, p2, p3, p4, p5, p6⟩ := a_plain F hF kp zs fl rf
  obtain ⟨q1, q2, q3, q4, q5, q6⟩ := a_few F kp zs fl rf
  obtain ⟨w1, w2, w3⟩ := a_Within F kp (zs := zs.take 20) (by omega) fl rf (x, y)
  obtain ⟨v1, v2, v3⟩ := a_rWithin F hF kp (zs.take 20) hb fl rf (x, y)
  obtain ⟨t1, t2, t3⟩ := a_Touches F kp (zs := zs.take 20) (by omega) fl rf (x, y) r
  obtain ⟨u1, u2, u3⟩ := a_rTouches F hF kp (zs.take 20) hb fl rf (x, y) r
  obtain ⟨s1, s2, s3⟩ := a_State F kp (zs.take 20) (by omega) hfl hrf (x, y) (r := r) hh
  obtain ⟨o1, o2, o3⟩ := a_rState F hF kp (zs.take 20) hb hfl hrf (x, y) (r := r) hh
  obtain ⟨c1, c2⟩ := a_Check F kp (zs := zs.take 20) (by omega) fl rf
  obtain ⟨d1, d2⟩ := a_rCheck F hF kp (zs.take 20) hb fl rf
  obtain ⟨k1, k2⟩ := a_works37 F
  unfold f_law37_FenceTells
  simp only [p1, p2, p3, p4, p5, p6, q1, q2, q3, q4, q5, q6, w1, w2, w3, v1, v2, v3, t1, t2, t3, u1, u2, u3, s1, s2, s3, o1, o2, o3, c1, c2, d1, d2, k1, k2, cond_true, beq_self_eq_true]
end Go.Xv
namespace Go.Proofs.Ytjhnmpfaemhnhaa.fenceTells
open Go.ChangeShapes Go.WideShapes Go.ChangeAt Go.RowKit Go.Xv Go.Proofs.Ytjhnmpfaemhnhaa.base
set_option linter.unusedVariables false
set_option maxRecDepth 100000 in
theorem lifted (os : Os) (started : os.Started) (H : Type) (enc : TypeId × Value → H) :
    ReturnsInHanded {} Try.checked os 3 .any (Rows.fenceTellsSpec.pre6 enc Try.prog Try.f3 Rows.fenceTellsRow.domain false) (Rows.fenceTellsSpec.post enc Try.prog Try.f3 false true false false) := by
  refine returnsInHanded_of_change (C := Try.checked) own started (by kernel_rfl) Try.func3
    (ChangeSpec.witness6 (enc := enc) (C := Try.checked) false ⟨#[], #[.agg #[.bool false, .slice none 0 0, .int .i64 0, .int .i64 0], .agg #[.int .i64 0, .int .i64 0, .int .i64 0], .int .i64 0], []⟩ 8 (by kernel_rfl) (by kernel_rfl) (by kernel_rfl) (by kernel_rfl)) ?_
  intro W base args ds gs before hval0 hW hcnd _
  have hval : ∀ (j : Nat) t v, Try.f3.params[j]? = some t → args[j]? = some v → Value.okWide Try.prog W .any base t v := hval0
  have hW' := hW
  obtain ⟨p, q, hA0, hV, rfl, hfz, hnd⟩ := hW
  have hA : DataW.TrodAll enc Try.prog W 0 (fun _ => true) true Try.f3.params.toList args.toList ds p := hA0
  rw [Try.params3] at hA hval
  obtain ⟨v0, vs0, d0, ds0, p0, q0, hargs, rfl, rfl, h0, r0⟩ := trodAll_cons hA
  obtain ⟨v1, vs1, d1, ds1, p1, q1, rfl, rfl, rfl, h1, r1⟩ := trodAll_cons r0
  obtain ⟨v2, vs2, d2, ds2, p2, q2, rfl, rfl, rfl, h2, r2⟩ := trodAll_cons r1
  obtain ⟨rfl, rfl, rfl⟩ := trodAll_nil r2
  obtain rfl : args = #[v0, v1, v2] := by cases args; simp_all
  obtain ⟨a0, z0, len0, cap0, p0, a1, a2, rfl, hl0, _, hw0, wa1, wa2, hr0⟩ := open_zone (by kernel_rfl) (hval 0 25 v0 rfl rfl) h0
  obtain ⟨l1, rfl, f1⟩ := open_flat (ks := [some .i64, some .i64, some .i64]) (by kernel_rfl) (by kernel_rfl) (hval 1 27 v1 rfl rfl) h1
  obtain ⟨a3, l1, rfl, wa3, f1⟩ := fitW_some f1
  obtain ⟨a4, l1, rfl, wa4, f1⟩ := fitW_some f1
  obtain ⟨a5, l1, rfl, wa5, f1⟩ := fitW_some f1
  obtain rfl := fitW_nil f1
  obtain ⟨a6, rfl, wa6⟩ := open_num (k := .i64) (by kernel_rfl) (hval 2 23 v2 rfl rfl) h2
  refine law_contract laidOut (g_law37_FenceTells fuel0) (bt := 4) (by kernel_rfl) (by kernel_rfl) (by kernel_rfl) (by kernel_rfl) rfl hW' ?_
  refine ⟨[.agg [.v (.bool a0), .fs (z0.map fun n => .v (.int .i64 n)) 0 len0 2, .v (.int .i64 a1), .v (.int .i64 a2)], .v (.agg #[.int .i64 a3, .int .i64 a4, .int .i64 a5]), .v (.int .i64 a6)], rfl, fun i x hx => ?_, unS_of ?_⟩
  · match i, hx with
    | 0, hx => exact ⟨_, rfl, by cases hx; exact hr0 _⟩
    | 1, hx => exact ⟨_, rfl, by cases hx; exact Rel.v _ _⟩
    | 2, hx => exact ⟨_, rfl, by cases hx; exact Rel.v _ _⟩
    | _ + 3, hx => cases hx
  · obtain ⟨y1, y2⟩ := k_law37_FenceTells fuel0 a0 (z0.map fun n => .v (.int .i64 n)) 0 len0 a1 a2 a3 a4 a5 a6 (f_FenceTells fuel0 (by unfold fuel0; omega) (fun n hn => wf_i64 (hw0 n hn)) hl0 (wf_i64 wa1) (wf_i64 wa2) (wf_i64 wa3) (wf_i64 wa4) (wf_i64 wa5) (wf_i64 wa6))
    have e : s_law37_FenceTells fuel0 [.agg [.v (.bool a0), .fs (z0.map fun n => .v (.int .i64 n)) 0 len0 2, .v (.int .i64 a1), .v (.int .i64 a2)], .v (.agg #[.int .i64 a3, .int .i64 a4, .int .i64 a5]), .v (.int .i64 a6)] = some (ok_law37_FenceTells fuel0 a0 (z0.map fun n => .v (.int .i64 n)) 0 len0 a1 a2 a3 a4 a5 a6, .v (.bool (o_law37_FenceTells_0 fuel0 a0 (z0.map fun n => .v (.int .i64 n)) 0 len0 a1 a2 a3 a4 a5 a6))) := by kernel_rfl
    rw [e, y1, y2]
theorem over : Rows.fenceTellsRow.holds Try.pinned (OpenSpec.ofChange Rows.fenceTellsSpec) :=
  OpenClaim.holds_of_wide 3 Try.f3 rfl rfl rfl rfl rfl rfl rfl ⟨rfl, rfl, rfl, rfl, rfl⟩ rfl rfl rfl rfl rfl (by kernel_rfl) Try.func3 (joined_of (P := Try.prog) behind enter_ rfl rfl ⟨rfl, rfl⟩ (by kernel_rfl))
    (of_decide_eq_true (by kernel_rfl)) (by unfold Func.isWrapper; first | (rw [if_pos (by decide +kernel)]; kernel_rfl) | (rw [if_neg (by decide +kernel)]; exact ⟨rfl, rfl⟩))
    (fun os started H enc _ => lifted os started H enc)
/-- The statement. -/
theorem proved : Rows.FenceTellsSaid := over
#print axioms proved
end Go.Proofs.Ytjhnmpfaemhnhaa.fenceTells
