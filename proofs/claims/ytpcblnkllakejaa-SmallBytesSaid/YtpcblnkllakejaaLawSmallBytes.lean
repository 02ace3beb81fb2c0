/- Numbers are put as bytes, and any bytes read as numbers, as the document says, or refused: the law returns true for every input, and leaves its arguments as they were. -/
import Derived.Test.YtpcblnkllakejaaS
import Derived.Test.YtpcblnkllakejaaX
import Derived.Test.YtpcblnkllakejaaProg
import Derived.KernelRfl
set_option linter.unusedVariables false
namespace Go.Xv
/- 5 _law03_SmallBytes -/
def c_law03_SmallBytes : Cfg := ⟨[0, 1, 2, 6, 7, 8, 9, 10, 11, 12, 13, 14, 15, 16], [], [28, 39, 50, 55]⟩
def ti_law03_SmallBytes : List TV := [.v (.int .i32), .v (.int .i64), .fs .hole .hole 1]
def to_law03_SmallBytes : TV := .v (.bool)
def S_law03_SmallBytes (F : Nat) : FuncId → List VV → Option (Bool × VV) := words [(28, s_small_Put F), (29, s_small_PutFix F), (31, s_base_Bytes F), (30, s_small_Get F), (32, s_ref03_Get F), (33, s_small_GetFix F), (34, s_ref03_GetFix F), (36, s_ref03_Put F), (35, s_base_SameBytes F), (37, s_ref03_PutFix F), (27, s_law03_works F)]
def W_law03_SmallBytes (F : Nat) : List LW := []
def I_law03_SmallBytes (F : Nat) : Nat → VS → (Exit → VS → R) → R := tabI c_law03_SmallBytes (W_law03_SmallBytes F)
def f_law03_SmallBytes (F : Nat) (a0 : Int) (a1 : Int) (a2 : List VV) (a3 : Nat) (a4 : Nat) : R :=
  bif (ok_small_Put F a0) then (
    let v2055 : Int := (o_small_Put_0 F a0)
    let v2056 : Int := (o_small_Put_1 F a0)
    let v2057 : Int := (o_small_Put_2 F a0)
    let v2058 : Int := (o_small_Put_3 F a0)
    bif (ok_small_PutFix F a1) then (
      let v2070 : Int := (o_small_PutFix_0 F a1)
      let v2071 : Int := (o_small_PutFix_1 F a1)
      let v2072 : Int := (o_small_PutFix_2 F a1)
      let v2073 : Int := (o_small_PutFix_3 F a1)
      let v2074 : Int := (o_small_PutFix_4 F a1)
      let v2075 : Int := (o_small_PutFix_5 F a1)
      let v2076 : Int := (o_small_PutFix_6 F a1)
      let v2077 : Int := (o_small_PutFix_7 F a1)
      let v2078 : Int := ((a4 : Nat) : Int)
      let v2079 : Int := (if 100 < v2078 then 100 else v2078)
      bif (((decide (0 ≤ v2079)) && (decide (0 ≤ (Int.toNat v2079)))) && (decide ((Int.toNat v2079) ≤ a4))) then (
        let v2080 : Nat := (Int.toNat v2079)
        bif (ok_base_Bytes F a2 a3 v2080) then (
          let v2083 : List VV := (o_base_Bytes_0 F a2 a3 v2080)
          let v2084 : Nat := (o_base_Bytes_1 F a2 a3 v2080)
          bif (ok_small_Get F v2083 v2084) then (
            bif (ok_ref03_Get F a2 a3 v2080) then (
              bif (ok_base_Bytes F a2 a3 v2080) then (
                let v2132 : List VV := (o_base_Bytes_0 F a2 a3 v2080)
                let v2133 : Nat := (o_base_Bytes_1 F a2 a3 v2080)
                bif (ok_small_GetFix F v2132 v2133) then (
                  bif (ok_ref03_GetFix F a2 a3 v2080) then (
                    bif (ok_ref03_Put F a0) then (
                      let v2192 : List VV := (o_ref03_Put_0 F a0)
                      let v2193 : Nat := (o_ref03_Put_1 F a0)
                      bif (ok_base_SameBytes F ([.v (.int .u8 v2055), .v (.int .u8 v2056), .v (.int .u8 v2057), .v (.int .u8 v2058)]) 4 v2192 v2193) then (
                        bif ((o_base_SameBytes_0 F ([.v (.int .u8 v2055), .v (.int .u8 v2056), .v (.int .u8 v2057), .v (.int .u8 v2058)]) 4 v2192 v2193)) then (
                          bif (ok_ref03_PutFix F a1) then (
                            let v2198 : List VV := (o_ref03_PutFix_0 F a1)
                            let v2199 : Nat := (o_ref03_PutFix_1 F a1)
                            bif (ok_base_SameBytes F ([.v (.int .u8 v2070), .v (.int .u8 v2071), .v (.int .u8 v2072), .v (.int .u8 v2073), .v (.int .u8 v2074), .v (.int .u8 v2075), .v (.int .u8 v2076), .v (.int .u8 v2077)]) 8 v2198 v2199) then (
                              bif ((o_base_SameBytes_0 F ([.v (.int .u8 v2070), .v (.int .u8 v2071), .v (.int .u8 v2072), .v (.int .u8 v2073), .v (.int .u8 v2074), .v (.int .u8 v2075), .v (.int .u8 v2076), .v (.int .u8 v2077)]) 8 v2198 v2199)) then (
                                bif ((((o_small_Get_0 F v2083 v2084)) == ((o_ref03_Get_0 F a2 a3 v2080)))) then (
                                  bif ((((o_small_Get_1 F v2083 v2084)) == ((o_ref03_Get_1 F a2 a3 v2080)))) then (
                                    bif ((((o_small_GetFix_0 F v2132 v2133)) == ((o_ref03_GetFix_0 F a2 a3 v2080)))) then (
                                      bif ((((o_small_GetFix_1 F v2132 v2133)) == ((o_ref03_GetFix_1 F a2 a3 v2080)))) then (
                                        bif (ok_law03_works F) then (
                                          some (.v (.bool ((o_law03_works_0 F)))))
                                        else (
                                          none))
                                      else (
                                        some (.v (.bool false))))
                                    else (
                                      some (.v (.bool false))))
                                  else (
                                    some (.v (.bool false))))
                                else (
                                  some (.v (.bool false))))
                              else (
                                some (.v (.bool false))))
                            else (
                              none))
                          else (
                            none))
                        else (
                          some (.v (.bool false))))
                      else (
                        none))
                    else (
                      none))
                  else (
                    none))
                else (
                  none))
              else (
                none))
            else (
              none))
          else (
            none))
        else (
          none))
      else (
        none))
    else (
      none))
  else (
    none)
theorem e_law03_SmallBytes (F : Nat) (a0 : Int) (a1 : Int) (a2 : List VV) (a3 : Nat) (a4 : Nat) : funL PP (S_law03_SmallBytes F) c_law03_SmallBytes (I_law03_SmallBytes F) 5 (fTs ti_law03_SmallBytes [.i a0, .i a1, .c a2, .n a3, .n a4]).1 = f_law03_SmallBytes F a0 a1 a2 a3 a4 := by
  have h : ∀ (ok_small_Put : Nat → Int → Bool) (o_small_Put_0 : Nat → Int → Int) (o_small_Put_1 : Nat → Int → Int) (o_small_Put_2 : Nat → Int → Int) (o_small_Put_3 : Nat → Int → Int) (ok_small_PutFix : Nat → Int → Bool) (o_small_PutFix_0 : Nat → Int → Int) (o_small_PutFix_1 : Nat → Int → Int) (o_small_PutFix_2 : Nat → Int → Int) (o_small_PutFix_3 : Nat → Int → Int) (o_small_PutFix_4 : Nat → Int → Int) (o_small_PutFix_5 : Nat → Int → Int) (o_small_PutFix_6 : Nat → Int → Int) (o_small_PutFix_7 : Nat → Int → Int) (ok_base_Bytes : Nat → List VV → Nat → Nat → Bool) (o_base_Bytes_0 : Nat → List VV → Nat → Nat → List VV) (o_base_Bytes_1 : Nat → List VV → Nat → Nat → Nat) (ok_small_Get : Nat → List VV → Nat → Bool) (o_small_Get_0 : Nat → List VV → Nat → Int) (o_small_Get_1 : Nat → List VV → Nat → Int) (ok_ref03_Get : Nat → List VV → Nat → Nat → Bool) (o_ref03_Get_0 : Nat → List VV → Nat → Nat → Int) (o_ref03_Get_1 : Nat → List VV → Nat → Nat → Int) (ok_small_GetFix : Nat → List VV → Nat → Bool) (o_small_GetFix_0 : Nat → List VV → Nat → Int) (o_small_GetFix_1 : Nat → List VV → Nat → Int) (ok_ref03_GetFix : Nat → List VV → Nat → Nat → Bool) (o_ref03_GetFix_0 : Nat → List VV → Nat → Nat → Int) (o_ref03_GetFix_1 : Nat → List VV → Nat → Nat → Int) (ok_ref03_Put : Nat → Int → Bool) (o_ref03_Put_0 : Nat → Int → List VV) (o_ref03_Put_1 : Nat → Int → Nat) (ok_base_SameBytes : Nat → List VV → Nat → List VV → Nat → Bool) (o_base_SameBytes_0 : Nat → List VV → Nat → List VV → Nat → Bool) (ok_ref03_PutFix : Nat → Int → Bool) (o_ref03_PutFix_0 : Nat → Int → List VV) (o_ref03_PutFix_1 : Nat → Int → Nat) (ok_law03_works : Nat → Bool) (o_law03_works_0 : Nat → Bool), funL PP (words [(28, spec ti_small_Put to_small_Put (fun q => (ok_small_Put F (atI (nth q 0)))) (fun q => [.i (o_small_Put_0 F (atI (nth q 0))), .i (o_small_Put_1 F (atI (nth q 0))), .i (o_small_Put_2 F (atI (nth q 0))), .i (o_small_Put_3 F (atI (nth q 0)))])), (29, spec ti_small_PutFix to_small_PutFix (fun q => (ok_small_PutFix F (atI (nth q 0)))) (fun q => [.i (o_small_PutFix_0 F (atI (nth q 0))), .i (o_small_PutFix_1 F (atI (nth q 0))), .i (o_small_PutFix_2 F (atI (nth q 0))), .i (o_small_PutFix_3 F (atI (nth q 0))), .i (o_small_PutFix_4 F (atI (nth q 0))), .i (o_small_PutFix_5 F (atI (nth q 0))), .i (o_small_PutFix_6 F (atI (nth q 0))), .i (o_small_PutFix_7 F (atI (nth q 0)))])), (31, spec ti_base_Bytes to_base_Bytes (fun q => (ok_base_Bytes F (atC (nth q 0)) (atN (nth q 1)) (atN (nth q 2)))) (fun q => [.c (o_base_Bytes_0 F (atC (nth q 0)) (atN (nth q 1)) (atN (nth q 2))), .n (o_base_Bytes_1 F (atC (nth q 0)) (atN (nth q 1)) (atN (nth q 2)))])), (30, spec ti_small_Get to_small_Get (fun q => (ok_small_Get F (atC (nth q 0)) (atN (nth q 1)))) (fun q => [.i (o_small_Get_0 F (atC (nth q 0)) (atN (nth q 1))), .i (o_small_Get_1 F (atC (nth q 0)) (atN (nth q 1)))])), (32, spec ti_ref03_Get to_ref03_Get (fun q => (ok_ref03_Get F (atC (nth q 0)) (atN (nth q 1)) (atN (nth q 2)))) (fun q => [.i (o_ref03_Get_0 F (atC (nth q 0)) (atN (nth q 1)) (atN (nth q 2))), .i (o_ref03_Get_1 F (atC (nth q 0)) (atN (nth q 1)) (atN (nth q 2)))])), (33, spec ti_small_GetFix to_small_GetFix (fun q => (ok_small_GetFix F (atC (nth q 0)) (atN (nth q 1)))) (fun q => [.i (o_small_GetFix_0 F (atC (nth q 0)) (atN (nth q 1))), .i (o_small_GetFix_1 F (atC (nth q 0)) (atN (nth q 1)))])), (34, spec ti_ref03_GetFix to_ref03_GetFix (fun q => (ok_ref03_GetFix F (atC (nth q 0)) (atN (nth q 1)) (atN (nth q 2)))) (fun q => [.i (o_ref03_GetFix_0 F (atC (nth q 0)) (atN (nth q 1)) (atN (nth q 2))), .i (o_ref03_GetFix_1 F (atC (nth q 0)) (atN (nth q 1)) (atN (nth q 2)))])), (36, spec ti_ref03_Put to_ref03_Put (fun q => (ok_ref03_Put F (atI (nth q 0)))) (fun q => [.c (o_ref03_Put_0 F (atI (nth q 0))), .n (o_ref03_Put_1 F (atI (nth q 0)))])), (35, spec ti_base_SameBytes to_base_SameBytes (fun q => (ok_base_SameBytes F (atC (nth q 0)) (atN (nth q 1)) (atC (nth q 2)) (atN (nth q 3)))) (fun q => [.b (o_base_SameBytes_0 F (atC (nth q 0)) (atN (nth q 1)) (atC (nth q 2)) (atN (nth q 3)))])), (37, spec ti_ref03_PutFix to_ref03_PutFix (fun q => (ok_ref03_PutFix F (atI (nth q 0)))) (fun q => [.c (o_ref03_PutFix_0 F (atI (nth q 0))), .n (o_ref03_PutFix_1 F (atI (nth q 0)))])), (27, spec ti_law03_works to_law03_works (fun q => (ok_law03_works F )) (fun q => [.b (o_law03_works_0 F )]))]) c_law03_SmallBytes (tabI c_law03_SmallBytes []) 5 (fTs ti_law03_SmallBytes [.i a0, .i a1, .c a2, .n a3, .n a4]).1 = (
  bif (ok_small_Put F a0) then (
    let v2055 : Int := (o_small_Put_0 F a0)
    let v2056 : Int := (o_small_Put_1 F a0)
    let v2057 : Int := (o_small_Put_2 F a0)
    let v2058 : Int := (o_small_Put_3 F a0)
    bif (ok_small_PutFix F a1) then (
      let v2070 : Int := (o_small_PutFix_0 F a1)
      let v2071 : Int := (o_small_PutFix_1 F a1)
      let v2072 : Int := (o_small_PutFix_2 F a1)
      let v2073 : Int := (o_small_PutFix_3 F a1)
      let v2074 : Int := (o_small_PutFix_4 F a1)
      let v2075 : Int := (o_small_PutFix_5 F a1)
      let v2076 : Int := (o_small_PutFix_6 F a1)
      let v2077 : Int := (o_small_PutFix_7 F a1)
      let v2078 : Int := ((a4 : Nat) : Int)
      let v2079 : Int := (if 100 < v2078 then 100 else v2078)
      bif (((decide (0 ≤ v2079)) && (decide (0 ≤ (Int.toNat v2079)))) && (decide ((Int.toNat v2079) ≤ a4))) then (
        let v2080 : Nat := (Int.toNat v2079)
        bif (ok_base_Bytes F a2 a3 v2080) then (
          let v2083 : List VV := (o_base_Bytes_0 F a2 a3 v2080)
          let v2084 : Nat := (o_base_Bytes_1 F a2 a3 v2080)
          bif (ok_small_Get F v2083 v2084) then (
            bif (ok_ref03_Get F a2 a3 v2080) then (
              bif (ok_base_Bytes F a2 a3 v2080) then (
                let v2132 : List VV := (o_base_Bytes_0 F a2 a3 v2080)
                let v2133 : Nat := (o_base_Bytes_1 F a2 a3 v2080)
                bif (ok_small_GetFix F v2132 v2133) then (
                  bif (ok_ref03_GetFix F a2 a3 v2080) then (
                    bif (ok_ref03_Put F a0) then (
                      let v2192 : List VV := (o_ref03_Put_0 F a0)
                      let v2193 : Nat := (o_ref03_Put_1 F a0)
                      bif (ok_base_SameBytes F ([.v (.int .u8 v2055), .v (.int .u8 v2056), .v (.int .u8 v2057), .v (.int .u8 v2058)]) 4 v2192 v2193) then (
                        bif ((o_base_SameBytes_0 F ([.v (.int .u8 v2055), .v (.int .u8 v2056), .v (.int .u8 v2057), .v (.int .u8 v2058)]) 4 v2192 v2193)) then (
                          bif (ok_ref03_PutFix F a1) then (
                            let v2198 : List VV := (o_ref03_PutFix_0 F a1)
                            let v2199 : Nat := (o_ref03_PutFix_1 F a1)
                            bif (ok_base_SameBytes F ([.v (.int .u8 v2070), .v (.int .u8 v2071), .v (.int .u8 v2072), .v (.int .u8 v2073), .v (.int .u8 v2074), .v (.int .u8 v2075), .v (.int .u8 v2076), .v (.int .u8 v2077)]) 8 v2198 v2199) then (
                              bif ((o_base_SameBytes_0 F ([.v (.int .u8 v2070), .v (.int .u8 v2071), .v (.int .u8 v2072), .v (.int .u8 v2073), .v (.int .u8 v2074), .v (.int .u8 v2075), .v (.int .u8 v2076), .v (.int .u8 v2077)]) 8 v2198 v2199)) then (
                                bif ((((o_small_Get_0 F v2083 v2084)) == ((o_ref03_Get_0 F a2 a3 v2080)))) then (
                                  bif ((((o_small_Get_1 F v2083 v2084)) == ((o_ref03_Get_1 F a2 a3 v2080)))) then (
                                    bif ((((o_small_GetFix_0 F v2132 v2133)) == ((o_ref03_GetFix_0 F a2 a3 v2080)))) then (
                                      bif ((((o_small_GetFix_1 F v2132 v2133)) == ((o_ref03_GetFix_1 F a2 a3 v2080)))) then (
                                        bif (ok_law03_works F) then (
                                          some (.v (.bool ((o_law03_works_0 F)))))
                                        else (
                                          none))
                                      else (
                                        some (.v (.bool false))))
                                    else (
                                      some (.v (.bool false))))
                                  else (
                                    some (.v (.bool false))))
                                else (
                                  some (.v (.bool false))))
                              else (
                                some (.v (.bool false))))
                            else (
                              none))
                          else (
                            none))
                        else (
                          some (.v (.bool false))))
                      else (
                        none))
                    else (
                      none))
                  else (
                    none))
                else (
                  none))
              else (
                none))
            else (
              none))
          else (
            none))
        else (
          none))
      else (
        none))
    else (
      none))
  else (
    none) : R) := by
    intros
    kernel_rfl
  exact (h ok_small_Put o_small_Put_0 o_small_Put_1 o_small_Put_2 o_small_Put_3 ok_small_PutFix o_small_PutFix_0 o_small_PutFix_1 o_small_PutFix_2 o_small_PutFix_3 o_small_PutFix_4 o_small_PutFix_5 o_small_PutFix_6 o_small_PutFix_7 ok_base_Bytes o_base_Bytes_0 o_base_Bytes_1 ok_small_Get o_small_Get_0 o_small_Get_1 ok_ref03_Get o_ref03_Get_0 o_ref03_Get_1 ok_small_GetFix o_small_GetFix_0 o_small_GetFix_1 ok_ref03_GetFix o_ref03_GetFix_0 o_ref03_GetFix_1 ok_ref03_Put o_ref03_Put_0 o_ref03_Put_1 ok_base_SameBytes o_base_SameBytes_0 ok_ref03_PutFix o_ref03_PutFix_0 o_ref03_PutFix_1 ok_law03_works o_law03_works_0).trans (by kernel_rfl)
def ok_law03_SmallBytes (F : Nat) (a0 : Int) (a1 : Int) (a2 : List VV) (a3 : Nat) (a4 : Nat) : Bool := okT to_law03_SmallBytes (f_law03_SmallBytes F a0 a1 a2 a3 a4)
def o_law03_SmallBytes_0 (F : Nat) (a0 : Int) (a1 : Int) (a2 : List VV) (a3 : Nat) (a4 : Nat) : Bool := atB (nth (outT to_law03_SmallBytes (f_law03_SmallBytes F a0 a1 a2 a3 a4)) 0)
theorem k_law03_SmallBytes (F : Nat) (a0 : Int) (a1 : Int) (a2 : List VV) (a3 : Nat) (a4 : Nat) {z0 : Bool} (h : f_law03_SmallBytes F a0 a1 a2 a3 a4 = some (.v (.bool z0))) : ok_law03_SmallBytes F a0 a1 a2 a3 a4 = true ∧ o_law03_SmallBytes_0 F a0 a1 a2 a3 a4 = z0 := by
  refine ⟨?_, ?_⟩
  · unfold ok_law03_SmallBytes; rw [h]; kernel_rfl
  · unfold o_law03_SmallBytes_0; rw [h]; kernel_rfl
def s_law03_SmallBytes (F : Nat) : List VV → Option (Bool × VV) := spec ti_law03_SmallBytes to_law03_SmallBytes (fun q => (ok_law03_SmallBytes F (atI (nth q 0)) (atI (nth q 1)) (atC (nth q 2)) (atN (nth q 3)) (atN (nth q 4)))) (fun q => [.b (o_law03_SmallBytes_0 F (atI (nth q 0)) (atI (nth q 1)) (atC (nth q 2)) (atN (nth q 3)) (atN (nth q 4)))])
theorem hS_law03_SmallBytes (F : Nat) : ∀ f, Good PP f (unS (S_law03_SmallBytes F f)) := words_good fun p hp => by
  simp only [List.mem_cons, List.not_mem_nil, or_false] at hp
  rcases hp with rfl | rfl | rfl | rfl | rfl | rfl | rfl | rfl | rfl | rfl | rfl
  · exact g_small_Put F
  · exact g_small_PutFix F
  · exact g_base_Bytes F
  · exact g_small_Get F
  · exact g_ref03_Get F
  · exact g_small_GetFix F
  · exact g_ref03_GetFix F
  · exact g_ref03_Put F
  · exact g_base_SameBytes F
  · exact g_ref03_PutFix F
  · exact g_law03_works F
theorem hl_law03_SmallBytes (F : Nat) : ∀ p ∈ loopsIn PP 5, LoopOK PP (S_law03_SmallBytes F) c_law03_SmallBytes F (I_law03_SmallBytes F) p :=
  loops_of [] (by kernel_rfl) all_nil
theorem g_law03_SmallBytes (F : Nat) : Good PP 5 (unS (s_law03_SmallBytes F)) :=
  fun_spec (hS_law03_SmallBytes F) (by kernel_rfl) (by kernel_rfl) (C := c_law03_SmallBytes) (F := fun q => (f_law03_SmallBytes F (atI (nth q 0)) (atI (nth q 1)) (atC (nth q 2)) (atN (nth q 3)) (atN (nth q 4)))) (fun _ => F) (fun _ => I_law03_SmallBytes F) (fun _ => hl_law03_SmallBytes F)
    (fun q => (congrArg (funL PP (S_law03_SmallBytes F) c_law03_SmallBytes (I_law03_SmallBytes F) 5) (show (fTs ti_law03_SmallBytes q).1 = (fTs ti_law03_SmallBytes [.i (atI (nth q 0)), .i (atI (nth q 1)), .c (atC (nth q 2)), .n (atN (nth q 3)), .n (atN (nth q 4))]).1 by kernel_rfl)).trans (e_law03_SmallBytes F (atI (nth q 0)) (atI (nth q 1)) (atC (nth q 2)) (atN (nth q 3)) (atN (nth q 4))))
    (fun _ h => (okT_fill h).trans (congrArg some (by kernel_rfl)))

end Go.Xv
namespace Go.Xv
theorem f_SmallBytes (F : Nat) (hF : 200 ≤ F) {a c : Int} {zs : List Int} {len : Nat} (_ha : I32 a) (_hc : I64 c) (hz : ∀ n ∈ zs, U8 n) (hl : len ≤ zs.length) : f_law03_SmallBytes F a c (zs.map fun n => .v (.int .u8 n)) 0 len = some (.v (.bool true)) := by
  unfold f_law03_SmallBytes
  dsimp only
  obtain ⟨m, hm, hm1, hm2⟩ : ∃ m : Nat, (if 100 < ((len : Nat) : Int) then 100 else ((len : Nat) : Int)) = (m : Int) ∧ m ≤ len ∧ m ≤ 100 := by
    by_cases h : 100 < ((len : Nat) : Int)
    · exact ⟨100, by rw [if_pos h]; rfl, by omega, by omega⟩
    · exact ⟨len, by rw [if_neg h], by omega, by omega⟩
  rw [hm, Int.toNat_natCast]
  rw [show (zs.map fun n => VV.v (.int .u8 n)) = rowB zs from rfl]
  obtain ⟨b1, b2, b3⟩ := k_base_Bytes F _ _ _ (f_Bytes F zs (m := m) (by omega) (by omega))
  obtain ⟨x, y, e1, e2⟩ := f_GetR F hF (zs := zs) (m := m) (by omega) hz
  obtain ⟨u, v, e3, e4⟩ := f_GetFixR F hF (zs := zs) (m := m) (by omega) hz
  obtain ⟨g1, g2, g3⟩ := k_small_Get F _ _ e1
  obtain ⟨h1, h2, h3⟩ := k_ref03_Get F _ _ _ e2
  obtain ⟨i1, i2, i3⟩ := k_small_GetFix F _ _ e3
  obtain ⟨j1, j2, j3⟩ := k_ref03_GetFix F _ _ _ e4
  obtain ⟨p1, p2, p3, p4, p5⟩ := a_Put F a
  obtain ⟨q1, q2, q3, q4, q5, q6, q7, q8, q9⟩ := k_small_PutFix F c (f_PutFix F)
  obtain ⟨r1, r2, r3⟩ := k_ref03_Put F _ (f_rPut F hF a)
  obtain ⟨s1, s2, s3⟩ := k_ref03_PutFix F _ (f_rPutFix F hF c)
  obtain ⟨w1, w2⟩ := a_works03 F
  have hc0 : (((decide (0 ≤ (m : Int))) && (decide (0 ≤ m))) && (decide (m ≤ len))) = true := by
    rw [dt (by omega), dt (by omega), dt hm1]; rfl
  rw [p2, p3, p4, p5, q2, q3, q4, q5, q6, q7, q8, q9, r2, r3, s2, s3, b2, b3]
  obtain ⟨t1, t2⟩ := a_same F [bV (by8 a 16777216), bV (by8 a 65536), bV (by8 a 256), bV (by8 a 1)] 4 rfl (by simp)
  obtain ⟨z1, z2⟩ := a_same F [bV (by8 (c / 4294967296) 16777216), bV (by8 (c / 4294967296) 65536), bV (by8 (c / 4294967296) 256), bV (by8 (c / 4294967296) 1), bV (by8 c 16777216), bV (by8 c 65536), bV (by8 c 256), bV (by8 c 1)] 8 rfl (by simp)
  refine bp p1 (bp q1 (bp hc0 (bp b1 (bp g1 (bp h1 (bp b1 (bp i1 (bp j1 (bp r1 (bp t1 (bp t2 (bp s1 (bp z1 (bp z2 (bp ?_ (bp ?_ (bp ?_ (bp ?_ (bp w1 ?_)))))))))))))))))))
  · rw [g2, h2]; simp
  · rw [g3, h3]; simp
  · rw [i2, j2]; simp
  · rw [i3, j3]; simp
  · rw [w2]
end Go.Xv
namespace Go.Proofs.Ytpcblnkllakejaa.smallBytes
open Go.ChangeShapes Go.WideShapes Go.ChangeAt Go.RowKit Go.Xv Go.Proofs.Ytpcblnkllakejaa.base
set_option linter.unusedVariables false
set_option maxRecDepth 100000 in
theorem lifted (os : Os) (started : os.Started) (H : Type) (enc : TypeId × Value → H) :
    ReturnsInHanded {} Try.checked os 5 .any (Rows.smallBytesSpec.pre6 enc Try.prog Try.f5 Rows.smallBytesRow.domain false) (Rows.smallBytesSpec.post enc Try.prog Try.f5 false true false false) := by
  refine returnsInHanded_of_change (C := Try.checked) own started (by kernel_rfl) Try.func5
    (ChangeSpec.witness6 (enc := enc) (C := Try.checked) false ⟨#[], #[.int .i32 0, .int .i64 0, .slice none 0 0], []⟩ 8 (by kernel_rfl) (by kernel_rfl) (by kernel_rfl) (by kernel_rfl)) ?_
  intro W base args ds gs before hval0 hW hcnd _
  have hval : ∀ (j : Nat) t v, Try.f5.params[j]? = some t → args[j]? = some v → Value.okWide Try.prog W .any base t v := hval0
  have hW' := hW
  obtain ⟨p, q, hA0, hV, rfl, hfz, hnd⟩ := hW
  have hA : DataW.TrodAll enc Try.prog W 0 (fun _ => true) true Try.f5.params.toList args.toList ds p := hA0
  rw [Try.params5] at hA hval
  obtain ⟨v0, vs0, d0, ds0, p0, q0, hargs, rfl, rfl, h0, r0⟩ := trodAll_cons hA
  obtain ⟨v1, vs1, d1, ds1, p1, q1, rfl, rfl, rfl, h1, r1⟩ := trodAll_cons r0
  obtain ⟨v2, vs2, d2, ds2, p2, q2, rfl, rfl, rfl, h2, r2⟩ := trodAll_cons r1
  obtain ⟨rfl, rfl, rfl⟩ := trodAll_nil r2
  obtain rfl : args = #[v0, v1, v2] := by cases args; simp_all
  obtain ⟨a0, rfl, wa0⟩ := open_num (k := .i32) (by kernel_rfl) (hval 0 22 v0 rfl rfl) h0
  obtain ⟨a1, rfl, wa1⟩ := open_num (k := .i64) (by kernel_rfl) (hval 1 27 v1 rfl rfl) h1
  obtain ⟨z2, len2, cap2, p2, rfl, hl2, hz2, hw2, hr2⟩ := open_row (e := 5) (k := .u8) (by kernel_rfl) (by kernel_rfl) (by kernel_rfl) (hval 2 28 v2 rfl rfl) h2
  refine law_contract laidOut (g_law03_SmallBytes fuel0) (bt := 4) (by kernel_rfl) (by kernel_rfl) (by kernel_rfl) (by kernel_rfl) rfl hW' ?_
  refine ⟨[.v (.int .i32 a0), .v (.int .i64 a1), .fs (z2.map fun n => .v (.int .u8 n)) 0 len2 1], rfl, fun i x hx => ?_, unS_of ?_⟩
  · match i, hx with
    | 0, hx => exact ⟨_, rfl, by cases hx; exact Rel.v _ _⟩
    | 1, hx => exact ⟨_, rfl, by cases hx; exact Rel.v _ _⟩
    | 2, hx => exact ⟨_, rfl, by cases hx; exact hr2 _⟩
    | _ + 3, hx => cases hx
  · obtain ⟨y1, y2⟩ := k_law03_SmallBytes fuel0 a0 a1 (z2.map fun n => .v (.int .u8 n)) 0 len2 (f_SmallBytes fuel0 (by unfold fuel0; omega) (wf_i32 wa0) (wf_i64 wa1) (fun n hn => wf_u8 (hw2 n hn)) hl2)
    have e : s_law03_SmallBytes fuel0 [.v (.int .i32 a0), .v (.int .i64 a1), .fs (z2.map fun n => .v (.int .u8 n)) 0 len2 1] = some (ok_law03_SmallBytes fuel0 a0 a1 (z2.map fun n => .v (.int .u8 n)) 0 len2, .v (.bool (o_law03_SmallBytes_0 fuel0 a0 a1 (z2.map fun n => .v (.int .u8 n)) 0 len2))) := by kernel_rfl
    rw [e, y1, y2]
theorem over : Rows.smallBytesRow.holds Try.pinned (OpenSpec.ofChange Rows.smallBytesSpec) :=
  OpenClaim.holds_of_wide 5 Try.f5 rfl rfl rfl rfl rfl rfl rfl ⟨rfl, rfl, rfl, rfl, rfl⟩ rfl rfl rfl rfl rfl (by kernel_rfl) Try.func5 (joined_of (P := Try.prog) behind enter_ rfl rfl ⟨rfl, rfl⟩ (by kernel_rfl))
    (of_decide_eq_true (by kernel_rfl)) (by unfold Func.isWrapper; first | (rw [if_pos (by decide +kernel)]; kernel_rfl) | (rw [if_neg (by decide +kernel)]; exact ⟨rfl, rfl⟩))
    (fun os started H enc _ => lifted os started H enc)
/-- The statement. -/
theorem proved : Rows.SmallBytesSaid := over
#print axioms proved
end Go.Proofs.Ytpcblnkllakejaa.smallBytes
