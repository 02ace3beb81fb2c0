/- What is widened is narrowed to itself, bytes come back, and what is narrowed, and not saturated, is no further than half a part: the law returns true for every input, and leaves its arguments as they were. -/
import Derived.Test.YtpcblnkllakejaaS
import Derived.Test.YtpcblnkllakejaaProg
import Derived.KernelRfl
set_option linter.unusedVariables false
namespace Go.Xv
/- 6 _law03_SmallBack -/
def c_law03_SmallBack : Cfg := ⟨[0, 1, 4, 5, 6, 7, 8, 9, 10, 11, 12, 13, 14, 15, 17, 61, 67], [], []⟩
def ti_law03_SmallBack : List TV := [.v (.int .i32), .v (.int .i64)]
def to_law03_SmallBack : TV := .v (.bool)
def S_law03_SmallBack (F : Nat) : FuncId → List VV → Option (Bool × VV) := words [(27, s_law03_works F), (39, s_small_Widen F), (38, s_small_Narrow F), (28, s_small_Put F), (29, s_small_PutFix F), (30, s_small_Get F), (33, s_small_GetFix F)]
def W_law03_SmallBack (F : Nat) : List LW := []
def I_law03_SmallBack (F : Nat) : Nat → VS → (Exit → VS → R) → R := tabI c_law03_SmallBack (W_law03_SmallBack F)
def f_law03_SmallBack (F : Nat) (a0 : Int) (a1 : Int) : R :=
  bif (ok_law03_works F) then (
    bif ((!((o_law03_works_0 F)))) then (
      some (.v (.bool false)))
    else (
      bif (ok_small_Widen F a0) then (
        let v2210 : Int := (o_small_Widen_0 F a0)
        bif (ok_small_Narrow F v2210) then (
          bif (ok_small_Put F a0) then (
            let v2213 : Int := (o_small_Put_0 F a0)
            let v2214 : Int := (o_small_Put_1 F a0)
            let v2215 : Int := (o_small_Put_2 F a0)
            let v2216 : Int := (o_small_Put_3 F a0)
            bif (ok_small_PutFix F a1) then (
              let v2217 : Int := (o_small_PutFix_0 F a1)
              let v2218 : Int := (o_small_PutFix_1 F a1)
              let v2219 : Int := (o_small_PutFix_2 F a1)
              let v2220 : Int := (o_small_PutFix_3 F a1)
              let v2221 : Int := (o_small_PutFix_4 F a1)
              let v2222 : Int := (o_small_PutFix_5 F a1)
              let v2223 : Int := (o_small_PutFix_6 F a1)
              let v2224 : Int := (o_small_PutFix_7 F a1)
              bif (ok_small_Get F ([.v (.int .u8 v2213), .v (.int .u8 v2214), .v (.int .u8 v2215), .v (.int .u8 v2216)]) 4) then (
                bif (ok_small_GetFix F ([.v (.int .u8 v2217), .v (.int .u8 v2218), .v (.int .u8 v2219), .v (.int .u8 v2220), .v (.int .u8 v2221), .v (.int .u8 v2222), .v (.int .u8 v2223), .v (.int .u8 v2224)]) 8) then (
                  bif ((((o_small_Narrow_0 F v2210)) != a0)) then (
                    some (.v (.bool false)))
                  else (
                    bif ((o_small_Narrow_1 F v2210)) then (
                      some (.v (.bool false)))
                    else (
                      bif ((((o_small_Get_0 F ([.v (.int .u8 v2213), .v (.int .u8 v2214), .v (.int .u8 v2215), .v (.int .u8 v2216)]) 4)) != a0)) then (
                        some (.v (.bool false)))
                      else (
                        bif ((((o_small_Get_1 F ([.v (.int .u8 v2213), .v (.int .u8 v2214), .v (.int .u8 v2215), .v (.int .u8 v2216)]) 4)) != 0)) then (
                          some (.v (.bool false)))
                        else (
                          bif ((((o_small_GetFix_0 F ([.v (.int .u8 v2217), .v (.int .u8 v2218), .v (.int .u8 v2219), .v (.int .u8 v2220), .v (.int .u8 v2221), .v (.int .u8 v2222), .v (.int .u8 v2223), .v (.int .u8 v2224)]) 8)) != a1)) then (
                            some (.v (.bool false)))
                          else (
                            bif ((((o_small_GetFix_1 F ([.v (.int .u8 v2217), .v (.int .u8 v2218), .v (.int .u8 v2219), .v (.int .u8 v2220), .v (.int .u8 v2221), .v (.int .u8 v2222), .v (.int .u8 v2223), .v (.int .u8 v2224)]) 8)) != 0)) then (
                              some (.v (.bool false)))
                            else (
                              bif (ok_small_Narrow F a1) then (
                                let v2234 : Int := (o_small_Narrow_0 F a1)
                                bif ((o_small_Narrow_1 F a1)) then (
                                  bif ((v2234 == 2147483647)) then (
                                    some (.v (.bool true)))
                                  else (
                                    some (.v (.bool ((v2234 == (-2147483648)))))))
                                else (
                                  bif (ok_small_Widen F v2234) then (
                                    let v2239 : Int := (IntKind.wrap .i64 (((o_small_Widen_0 F v2234)) - a1))
                                    bif ((decide (v2239 ≤ 32768))) then (
                                      some (.v (.bool ((decide (v2239 > (-32768)))))))
                                    else (
                                      some (.v (.bool false))))
                                  else (
                                    none)))
                              else (
                                none))))))))
                else (
                  none))
              else (
                none))
            else (
              none))
          else (
            none))
        else (
          none))
      else (
        none)))
  else (
    none)
theorem e_law03_SmallBack (F : Nat) (a0 : Int) (a1 : Int) : funL PP (S_law03_SmallBack F) c_law03_SmallBack (I_law03_SmallBack F) 6 (fTs ti_law03_SmallBack [.i a0, .i a1]).1 = f_law03_SmallBack F a0 a1 := by
  have h : ∀ (ok_law03_works : Nat → Bool) (o_law03_works_0 : Nat → Bool) (ok_small_Widen : Nat → Int → Bool) (o_small_Widen_0 : Nat → Int → Int) (ok_small_Narrow : Nat → Int → Bool) (o_small_Narrow_0 : Nat → Int → Int) (o_small_Narrow_1 : Nat → Int → Bool) (ok_small_Put : Nat → Int → Bool) (o_small_Put_0 : Nat → Int → Int) (o_small_Put_1 : Nat → Int → Int) (o_small_Put_2 : Nat → Int → Int) (o_small_Put_3 : Nat → Int → Int) (ok_small_PutFix : Nat → Int → Bool) (o_small_PutFix_0 : Nat → Int → Int) (o_small_PutFix_1 : Nat → Int → Int) (o_small_PutFix_2 : Nat → Int → Int) (o_small_PutFix_3 : Nat → Int → Int) (o_small_PutFix_4 : Nat → Int → Int) (o_small_PutFix_5 : Nat → Int → Int) (o_small_PutFix_6 : Nat → Int → Int) (o_small_PutFix_7 : Nat → Int → Int) (ok_small_Get : Nat → List VV → Nat → Bool) (o_small_Get_0 : Nat → List VV → Nat → Int) (o_small_Get_1 : Nat → List VV → Nat → Int) (ok_small_GetFix : Nat → List VV → Nat → Bool) (o_small_GetFix_0 : Nat → List VV → Nat → Int) (o_small_GetFix_1 : Nat → List VV → Nat → Int), funL PP (words [(27, spec ti_law03_works to_law03_works (fun q => (ok_law03_works F )) (fun q => [.b (o_law03_works_0 F )])), (39, spec ti_small_Widen to_small_Widen (fun q => (ok_small_Widen F (atI (nth q 0)))) (fun q => [.i (o_small_Widen_0 F (atI (nth q 0)))])), (38, spec ti_small_Narrow to_small_Narrow (fun q => (ok_small_Narrow F (atI (nth q 0)))) (fun q => [.i (o_small_Narrow_0 F (atI (nth q 0))), .b (o_small_Narrow_1 F (atI (nth q 0)))])), (28, spec ti_small_Put to_small_Put (fun q => (ok_small_Put F (atI (nth q 0)))) (fun q => [.i (o_small_Put_0 F (atI (nth q 0))), .i (o_small_Put_1 F (atI (nth q 0))), .i (o_small_Put_2 F (atI (nth q 0))), .i (o_small_Put_3 F (atI (nth q 0)))])), (29, spec ti_small_PutFix to_small_PutFix (fun q => (ok_small_PutFix F (atI (nth q 0)))) (fun q => [.i (o_small_PutFix_0 F (atI (nth q 0))), .i (o_small_PutFix_1 F (atI (nth q 0))), .i (o_small_PutFix_2 F (atI (nth q 0))), .i (o_small_PutFix_3 F (atI (nth q 0))), .i (o_small_PutFix_4 F (atI (nth q 0))), .i (o_small_PutFix_5 F (atI (nth q 0))), .i (o_small_PutFix_6 F (atI (nth q 0))), .i (o_small_PutFix_7 F (atI (nth q 0)))])), (30, spec ti_small_Get to_small_Get (fun q => (ok_small_Get F (atC (nth q 0)) (atN (nth q 1)))) (fun q => [.i (o_small_Get_0 F (atC (nth q 0)) (atN (nth q 1))), .i (o_small_Get_1 F (atC (nth q 0)) (atN (nth q 1)))])), (33, spec ti_small_GetFix to_small_GetFix (fun q => (ok_small_GetFix F (atC (nth q 0)) (atN (nth q 1)))) (fun q => [.i (o_small_GetFix_0 F (atC (nth q 0)) (atN (nth q 1))), .i (o_small_GetFix_1 F (atC (nth q 0)) (atN (nth q 1)))]))]) c_law03_SmallBack (tabI c_law03_SmallBack []) 6 (fTs ti_law03_SmallBack [.i a0, .i a1]).1 = (
  bif (ok_law03_works F) then (
    bif ((!((o_law03_works_0 F)))) then (
      some (.v (.bool false)))
    else (
      bif (ok_small_Widen F a0) then (
        let v2210 : Int := (o_small_Widen_0 F a0)
        bif (ok_small_Narrow F v2210) then (
          bif (ok_small_Put F a0) then (
            let v2213 : Int := (o_small_Put_0 F a0)
            let v2214 : Int := (o_small_Put_1 F a0)
            let v2215 : Int := (o_small_Put_2 F a0)
            let v2216 : Int := (o_small_Put_3 F a0)
            bif (ok_small_PutFix F a1) then (
              let v2217 : Int := (o_small_PutFix_0 F a1)
              let v2218 : Int := (o_small_PutFix_1 F a1)
              let v2219 : Int := (o_small_PutFix_2 F a1)
              let v2220 : Int := (o_small_PutFix_3 F a1)
              let v2221 : Int := (o_small_PutFix_4 F a1)
              let v2222 : Int := (o_small_PutFix_5 F a1)
              let v2223 : Int := (o_small_PutFix_6 F a1)
              let v2224 : Int := (o_small_PutFix_7 F a1)
              bif (ok_small_Get F ([.v (.int .u8 v2213), .v (.int .u8 v2214), .v (.int .u8 v2215), .v (.int .u8 v2216)]) 4) then (
                bif (ok_small_GetFix F ([.v (.int .u8 v2217), .v (.int .u8 v2218), .v (.int .u8 v2219), .v (.int .u8 v2220), .v (.int .u8 v2221), .v (.int .u8 v2222), .v (.int .u8 v2223), .v (.int .u8 v2224)]) 8) then (
                  bif ((((o_small_Narrow_0 F v2210)) != a0)) then (
                    some (.v (.bool false)))
                  else (
                    bif ((o_small_Narrow_1 F v2210)) then (
                      some (.v (.bool false)))
                    else (
                      bif ((((o_small_Get_0 F ([.v (.int .u8 v2213), .v (.int .u8 v2214), .v (.int .u8 v2215), .v (.int .u8 v2216)]) 4)) != a0)) then (
                        some (.v (.bool false)))
                      else (
                        bif ((((o_small_Get_1 F ([.v (.int .u8 v2213), .v (.int .u8 v2214), .v (.int .u8 v2215), .v (.int .u8 v2216)]) 4)) != 0)) then (
                          some (.v (.bool false)))
                        else (
                          bif ((((o_small_GetFix_0 F ([.v (.int .u8 v2217), .v (.int .u8 v2218), .v (.int .u8 v2219), .v (.int .u8 v2220), .v (.int .u8 v2221), .v (.int .u8 v2222), .v (.int .u8 v2223), .v (.int .u8 v2224)]) 8)) != a1)) then (
                            some (.v (.bool false)))
                          else (
                            bif ((((o_small_GetFix_1 F ([.v (.int .u8 v2217), .v (.int .u8 v2218), .v (.int .u8 v2219), .v (.int .u8 v2220), .v (.int .u8 v2221), .v (.int .u8 v2222), .v (.int .u8 v2223), .v (.int .u8 v2224)]) 8)) != 0)) then (
                              some (.v (.bool false)))
                            else (
                              bif (ok_small_Narrow F a1) then (
                                let v2234 : Int := (o_small_Narrow_0 F a1)
                                bif ((o_small_Narrow_1 F a1)) then (
                                  bif ((v2234 == 2147483647)) then (
                                    some (.v (.bool true)))
                                  else (
                                    some (.v (.bool ((v2234 == (-2147483648)))))))
                                else (
                                  bif (ok_small_Widen F v2234) then (
                                    let v2239 : Int := (IntKind.wrap .i64 (((o_small_Widen_0 F v2234)) - a1))
                                    bif ((decide (v2239 ≤ 32768))) then (
                                      some (.v (.bool ((decide (v2239 > (-32768)))))))
                                    else (
                                      some (.v (.bool false))))
                                  else (
                                    none)))
                              else (
                                none))))))))
                else (
                  none))
              else (
                none))
            else (
              none))
          else (
            none))
        else (
          none))
      else (
        none)))
  else (
    none) : R) := by
    intros
    kernel_rfl
  exact (h ok_law03_works o_law03_works_0 ok_small_Widen o_small_Widen_0 ok_small_Narrow o_small_Narrow_0 o_small_Narrow_1 ok_small_Put o_small_Put_0 o_small_Put_1 o_small_Put_2 o_small_Put_3 ok_small_PutFix o_small_PutFix_0 o_small_PutFix_1 o_small_PutFix_2 o_small_PutFix_3 o_small_PutFix_4 o_small_PutFix_5 o_small_PutFix_6 o_small_PutFix_7 ok_small_Get o_small_Get_0 o_small_Get_1 ok_small_GetFix o_small_GetFix_0 o_small_GetFix_1).trans (by kernel_rfl)
def ok_law03_SmallBack (F : Nat) (a0 : Int) (a1 : Int) : Bool := okT to_law03_SmallBack (f_law03_SmallBack F a0 a1)
def o_law03_SmallBack_0 (F : Nat) (a0 : Int) (a1 : Int) : Bool := atB (nth (outT to_law03_SmallBack (f_law03_SmallBack F a0 a1)) 0)
theorem k_law03_SmallBack (F : Nat) (a0 : Int) (a1 : Int) {z0 : Bool} (h : f_law03_SmallBack F a0 a1 = some (.v (.bool z0))) : ok_law03_SmallBack F a0 a1 = true ∧ o_law03_SmallBack_0 F a0 a1 = z0 := by
  refine ⟨?_, ?_⟩
  · unfold ok_law03_SmallBack; rw [h]; kernel_rfl
  · unfold o_law03_SmallBack_0; rw [h]; kernel_rfl
def s_law03_SmallBack (F : Nat) : List VV → Option (Bool × VV) := spec ti_law03_SmallBack to_law03_SmallBack (fun q => (ok_law03_SmallBack F (atI (nth q 0)) (atI (nth q 1)))) (fun q => [.b (o_law03_SmallBack_0 F (atI (nth q 0)) (atI (nth q 1)))])
theorem hS_law03_SmallBack (F : Nat) : ∀ f, Good PP f (unS (S_law03_SmallBack F f)) := words_good fun p hp => by
  simp only [List.mem_cons, List.not_mem_nil, or_false] at hp
  rcases hp with rfl | rfl | rfl | rfl | rfl | rfl | rfl
  · exact g_law03_works F
  · exact g_small_Widen F
  · exact g_small_Narrow F
  · exact g_small_Put F
  · exact g_small_PutFix F
  · exact g_small_Get F
  · exact g_small_GetFix F
theorem hl_law03_SmallBack (F : Nat) : ∀ p ∈ loopsIn PP 6, LoopOK PP (S_law03_SmallBack F) c_law03_SmallBack F (I_law03_SmallBack F) p :=
  loops_of [] (by kernel_rfl) all_nil
theorem g_law03_SmallBack (F : Nat) : Good PP 6 (unS (s_law03_SmallBack F)) :=
  fun_spec (hS_law03_SmallBack F) (by kernel_rfl) (by kernel_rfl) (C := c_law03_SmallBack) (F := fun q => (f_law03_SmallBack F (atI (nth q 0)) (atI (nth q 1)))) (fun _ => F) (fun _ => I_law03_SmallBack F) (fun _ => hl_law03_SmallBack F)
    (fun q => (congrArg (funL PP (S_law03_SmallBack F) c_law03_SmallBack (I_law03_SmallBack F) 6) (show (fTs ti_law03_SmallBack q).1 = (fTs ti_law03_SmallBack [.i (atI (nth q 0)), .i (atI (nth q 1))]).1 by kernel_rfl)).trans (e_law03_SmallBack F (atI (nth q 0)) (atI (nth q 1))))
    (fun _ h => (okT_fill h).trans (congrArg some (by kernel_rfl)))

end Go.Xv
namespace Go.Xv
theorem f_SmallBack (F : Nat) (_hF : 200 ≤ F) {a c : Int} (ha : I32 a) (hc : I64 c) : f_law03_SmallBack F a c = some (.v (.bool true)) := by
  unfold f_law03_SmallBack
  dsimp only
  obtain ⟨w1, w2⟩ := a_works03 F
  obtain ⟨d1, d2⟩ := a_Widen F ha
  obtain ⟨n1, n2, n3⟩ := a_Narrow F (w16 ha)
  have e0 : near16 (a * 65536) = a := by unfold near16; omega
  have e1 : sclV a = a := by unfold I32 at ha; unfold sclV; rw [if_neg (by omega), if_neg (by omega)]
  have e2 : sclC a = false := by unfold I32 at ha; unfold sclC; exact df (by omega)
  rw [e0, e1] at n2
  rw [e0, e2] at n3
  obtain ⟨p1, p2, p3, p4, p5⟩ := a_Put F a
  obtain ⟨q1, q2, q3, q4, q5, q6, q7, q8, q9⟩ := k_small_PutFix F c (f_PutFix F)
  obtain ⟨g1, g2, g3⟩ := k_small_Get F _ _ (f_Get4 F (by8_U a 16777216) (by8_U a 65536) (by8_U a 256) (by8_U a 1) [] 4 (by omega))
  obtain ⟨x1, x2, x3⟩ := k_small_GetFix F _ _ (f_GetFix8 F (by8_U (c / 4294967296) 16777216) (by8_U (c / 4294967296) 65536) (by8_U (c / 4294967296) 256) (by8_U (c / 4294967296) 1) (by8_U c 16777216) (by8_U c 65536) (by8_U c 256) (by8_U c 1) [] 8 (by omega))
  rw [by8_4] at g2
  rw [by8_4, by8_4] at x2
  have eg : IntKind.wrap .i32 (a % 4294967296) = a := by unfold I32 at ha; rw [wi32]; omega
  have ex : IntKind.wrap .i32 (c / 4294967296 % 4294967296) * 4294967296 + c % 4294967296 = c := by unfold I64 at hc; rw [wi32]; omega
  rw [eg] at g2
  rw [ex] at x2
  have ne : ∀ x : Int, (x != x) = false := by intro x; simp
  refine bp w1 (bn (by rw [w2]; rfl) (bp d1 ?_))
  rw [d2, p2, p3, p4, p5, q2, q3, q4, q5, q6, q7, q8, q9]
  refine bp n1 (bp p1 (bp q1 (bp g1 (bp x1 (bn (by rw [n2]; exact ne _) (bn n3 (bn (by rw [g2]; exact ne _) (bn (by rw [g3]; rfl) (bn (by rw [x2]; exact ne _) (bn (by rw [x3]; rfl) ?_))))))))))
  obtain ⟨m1, m2, m3⟩ := a_Narrow F hc
  refine bp m1 ?_
  rw [m2, m3]
  by_cases hcut : near16 c < -2147483648 ∨ 2147483647 < near16 c
  · refine bp (by unfold sclC; exact dt hcut) ?_
    by_cases h2 : 2147483647 < near16 c
    · refine bp ?_ rfl
      unfold sclV; rw [if_neg (by omega), if_pos h2]; rfl
    · refine bn ?_ ?_
      · unfold sclV; rw [if_pos (by omega)]; rfl
      · unfold sclV; rw [if_pos (by omega)]; rfl
  · refine bn (by unfold sclC; exact df hcut) ?_
    have hs : sclV (near16 c) = near16 c := by unfold sclV; rw [if_neg (by omega), if_neg (by omega)]
    rw [hs]
    obtain ⟨v1, v2⟩ := a_Widen F (a := near16 c) (by unfold I32; omega)
    refine bp v1 ?_
    rw [v2]
    have hd : near16 c * 65536 - c ≤ 32768 ∧ -32768 < near16 c * 65536 - c := by unfold near16; omega
    rw [wi64_in (by unfold I64; omega)]
    exact bp (dt hd.1) (some_bool (dt hd.2))
end Go.Xv
namespace Go.Proofs.Ytpcblnkllakejaa.smallBack
open Go.ChangeShapes Go.WideShapes Go.ChangeAt Go.RowKit Go.Xv Go.Proofs.Ytpcblnkllakejaa.base
set_option linter.unusedVariables false
set_option maxRecDepth 100000 in
theorem lifted (os : Os) (started : os.Started) (H : Type) (enc : TypeId × Value → H) :
    ReturnsInHanded {} Try.checked os 6 .any (Rows.smallBackSpec.pre6 enc Try.prog Try.f6 Rows.smallBackRow.domain false) (Rows.smallBackSpec.post enc Try.prog Try.f6 false true false false) := by
  refine returnsInHanded_of_change (C := Try.checked) own started (by kernel_rfl) Try.func6
    (ChangeSpec.witness6 (enc := enc) (C := Try.checked) false ⟨#[], #[.int .i32 0, .int .i64 0], []⟩ 8 (by kernel_rfl) (by kernel_rfl) (by kernel_rfl) (by kernel_rfl)) ?_
  intro W base args ds gs before hval0 hW hcnd _
  have hval : ∀ (j : Nat) t v, Try.f6.params[j]? = some t → args[j]? = some v → Value.okWide Try.prog W .any base t v := hval0
  have hW' := hW
  obtain ⟨p, q, hA0, hV, rfl, hfz, hnd⟩ := hW
  have hA : DataW.TrodAll enc Try.prog W 0 (fun _ => true) true Try.f6.params.toList args.toList ds p := hA0
  rw [Try.params6] at hA hval
  obtain ⟨v0, vs0, d0, ds0, p0, q0, hargs, rfl, rfl, h0, r0⟩ := trodAll_cons hA
  obtain ⟨v1, vs1, d1, ds1, p1, q1, rfl, rfl, rfl, h1, r1⟩ := trodAll_cons r0
  obtain ⟨rfl, rfl, rfl⟩ := trodAll_nil r1
  obtain rfl : args = #[v0, v1] := by cases args; simp_all
  obtain ⟨a0, rfl, wa0⟩ := open_num (k := .i32) (by kernel_rfl) (hval 0 22 v0 rfl rfl) h0
  obtain ⟨a1, rfl, wa1⟩ := open_num (k := .i64) (by kernel_rfl) (hval 1 27 v1 rfl rfl) h1
  refine law_contract laidOut (g_law03_SmallBack fuel0) (bt := 4) (by kernel_rfl) (by kernel_rfl) (by kernel_rfl) (by kernel_rfl) rfl hW' ?_
  refine ⟨[.v (.int .i32 a0), .v (.int .i64 a1)], rfl, fun i x hx => ?_, unS_of ?_⟩
  · match i, hx with
    | 0, hx => exact ⟨_, rfl, by cases hx; exact Rel.v _ _⟩
    | 1, hx => exact ⟨_, rfl, by cases hx; exact Rel.v _ _⟩
    | _ + 2, hx => cases hx
  · obtain ⟨y1, y2⟩ := k_law03_SmallBack fuel0 a0 a1 (f_SmallBack fuel0 (by unfold fuel0; omega) (wf_i32 wa0) (wf_i64 wa1))
    have e : s_law03_SmallBack fuel0 [.v (.int .i32 a0), .v (.int .i64 a1)] = some (ok_law03_SmallBack fuel0 a0 a1, .v (.bool (o_law03_SmallBack_0 fuel0 a0 a1))) := by kernel_rfl
    rw [e, y1, y2]
theorem over : Rows.smallBackRow.holds Try.pinned (OpenSpec.ofChange Rows.smallBackSpec) :=
  OpenClaim.holds_of_wide 6 Try.f6 rfl rfl rfl rfl rfl rfl rfl ⟨rfl, rfl, rfl, rfl, rfl⟩ rfl rfl rfl rfl rfl (by kernel_rfl) Try.func6 (joined_of (P := Try.prog) behind enter_ rfl rfl ⟨rfl, rfl⟩ (by kernel_rfl))
    (of_decide_eq_true (by kernel_rfl)) (by unfold Func.isWrapper; first | (rw [if_pos (by decide +kernel)]; kernel_rfl) | (rw [if_neg (by decide +kernel)]; exact ⟨rfl, rfl⟩))
    (fun os started H enc _ => lifted os started H enc)
/-- The statement. -/
theorem proved : Rows.SmallBackSaid := over
#print axioms proved
end Go.Proofs.Ytpcblnkllakejaa.smallBack
