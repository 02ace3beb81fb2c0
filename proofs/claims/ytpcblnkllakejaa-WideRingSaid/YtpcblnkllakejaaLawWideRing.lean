/- Sums of wide numbers hang on no order, a number and its opposite come to 0, and a product is shared out over a sum that does not go round: the law returns true for every input, and leaves its arguments as they were. -/
import Derived.Test.YtpcblnkllakejaaW2
import Derived.Test.YtpcblnkllakejaaProg
import Derived.KernelRfl
set_option linter.unusedVariables false
namespace Go.Xv
/- 8 _law01_WideRing -/
def c_law01_WideRing : Cfg := ⟨[0, 1, 2, 3, 4, 5, 6, 7, 8, 12, 44], [], []⟩
def ti_law01_WideRing : List TV := [.v (.agg [.int .i64, .int .u64]), .v (.agg [.int .i64, .int .u64]), .v (.agg [.int .i64, .int .u64]), .v (.int .i64), .v (.int .i64), .v (.int .i64)]
def to_law01_WideRing : TV := .v (.bool)
def S_law01_WideRing (F : Nat) : FuncId → List VV → Option (Bool × VV) := words [(42, s_law01_works F), (43, s_wide_Add F), (44, s_wide_Neg F), (40, s_wide_Mul F)]
def W_law01_WideRing (F : Nat) : List LW := []
def I_law01_WideRing (F : Nat) : Nat → VS → (Exit → VS → R) → R := tabI c_law01_WideRing (W_law01_WideRing F)
def f_law01_WideRing (F : Nat) (a0 : Int) (a1 : Int) (a2 : Int) (a3 : Int) (a4 : Int) (a5 : Int) (a6 : Int) (a7 : Int) (a8 : Int) : R :=
  bif (ok_law01_works F) then (
    bif ((!((o_law01_works_0 F)))) then (
      some (.v (.bool false)))
    else (
      bif (ok_wide_Add F a0 a1 a2 a3) then (
        bif (ok_wide_Add F a2 a3 a0 a1) then (
          bif ((!((((o_wide_Add_0 F a0 a1 a2 a3)) == ((o_wide_Add_0 F a2 a3 a0 a1))) && (((o_wide_Add_1 F a0 a1 a2 a3)) == ((o_wide_Add_1 F a2 a3 a0 a1)))))) then (
            some (.v (.bool false)))
          else (
            bif (ok_wide_Add F a0 a1 a2 a3) then (
              let v346 : Int := (o_wide_Add_0 F a0 a1 a2 a3)
              let v347 : Int := (o_wide_Add_1 F a0 a1 a2 a3)
              bif (ok_wide_Add F v346 v347 a4 a5) then (
                bif (ok_wide_Add F a2 a3 a4 a5) then (
                  let v350 : Int := (o_wide_Add_0 F a2 a3 a4 a5)
                  let v351 : Int := (o_wide_Add_1 F a2 a3 a4 a5)
                  bif (ok_wide_Add F a0 a1 v350 v351) then (
                    bif ((!((((o_wide_Add_0 F v346 v347 a4 a5)) == ((o_wide_Add_0 F a0 a1 v350 v351))) && (((o_wide_Add_1 F v346 v347 a4 a5)) == ((o_wide_Add_1 F a0 a1 v350 v351)))))) then (
                      some (.v (.bool false)))
                    else (
                      bif (ok_wide_Neg F a0 a1) then (
                        let v355 : Int := (o_wide_Neg_0 F a0 a1)
                        let v356 : Int := (o_wide_Neg_1 F a0 a1)
                        bif (ok_wide_Add F a0 a1 v355 v356) then (
                          bif ((!((((o_wide_Add_0 F a0 a1 v355 v356)) == 0) && (((o_wide_Add_1 F a0 a1 v355 v356)) == 0)))) then (
                            some (.v (.bool false)))
                          else (
                            let v360 : Int := (IntKind.wrap .i64 (Int.tdiv a7 2))
                            let v361 : Int := (IntKind.wrap .i64 (Int.tdiv a8 2))
                            let v362 : Int := (IntKind.wrap .i64 (v360 + v361))
                            bif (ok_wide_Mul F a6 v362) then (
                              bif (ok_wide_Mul F a6 v360) then (
                                let v365 : Int := (o_wide_Mul_0 F a6 v360)
                                let v366 : Int := (o_wide_Mul_1 F a6 v360)
                                bif (ok_wide_Mul F a6 v361) then (
                                  let v367 : Int := (o_wide_Mul_0 F a6 v361)
                                  let v368 : Int := (o_wide_Mul_1 F a6 v361)
                                  bif (ok_wide_Add F v365 v366 v367 v368) then (
                                    bif (((((o_wide_Mul_0 F a6 v362)) == ((o_wide_Add_0 F v365 v366 v367 v368))) && (((o_wide_Mul_1 F a6 v362)) == ((o_wide_Add_1 F v365 v366 v367 v368))))) then (
                                      bif (ok_wide_Mul F a6 v360) then (
                                        bif (ok_wide_Mul F v360 a6) then (
                                          some (.v (.bool (((((o_wide_Mul_0 F a6 v360)) == ((o_wide_Mul_0 F v360 a6))) && (((o_wide_Mul_1 F a6 v360)) == ((o_wide_Mul_1 F v360 a6))))))))
                                        else (
                                          none))
                                      else (
                                        none))
                                    else (
                                      some (.v (.bool false))))
                                  else (
                                    none))
                                else (
                                  none))
                              else (
                                none))
                            else (
                              none)))
                        else (
                          none))
                      else (
                        none)))
                  else (
                    none))
                else (
                  none))
              else (
                none))
            else (
              none)))
        else (
          none))
      else (
        none)))
  else (
    none)
theorem e_law01_WideRing (F : Nat) (a0 : Int) (a1 : Int) (a2 : Int) (a3 : Int) (a4 : Int) (a5 : Int) (a6 : Int) (a7 : Int) (a8 : Int) : funL PP (S_law01_WideRing F) c_law01_WideRing (I_law01_WideRing F) 8 (fTs ti_law01_WideRing [.i a0, .i a1, .i a2, .i a3, .i a4, .i a5, .i a6, .i a7, .i a8]).1 = f_law01_WideRing F a0 a1 a2 a3 a4 a5 a6 a7 a8 := by
  have h : ∀ (ok_law01_works : Nat → Bool) (o_law01_works_0 : Nat → Bool) (ok_wide_Add : Nat → Int → Int → Int → Int → Bool) (o_wide_Add_0 : Nat → Int → Int → Int → Int → Int) (o_wide_Add_1 : Nat → Int → Int → Int → Int → Int) (ok_wide_Neg : Nat → Int → Int → Bool) (o_wide_Neg_0 : Nat → Int → Int → Int) (o_wide_Neg_1 : Nat → Int → Int → Int) (ok_wide_Mul : Nat → Int → Int → Bool) (o_wide_Mul_0 : Nat → Int → Int → Int) (o_wide_Mul_1 : Nat → Int → Int → Int), funL PP (words [(42, spec ti_law01_works to_law01_works (fun q => (ok_law01_works F )) (fun q => [.b (o_law01_works_0 F )])), (43, spec ti_wide_Add to_wide_Add (fun q => (ok_wide_Add F (atI (nth q 0)) (atI (nth q 1)) (atI (nth q 2)) (atI (nth q 3)))) (fun q => [.i (o_wide_Add_0 F (atI (nth q 0)) (atI (nth q 1)) (atI (nth q 2)) (atI (nth q 3))), .i (o_wide_Add_1 F (atI (nth q 0)) (atI (nth q 1)) (atI (nth q 2)) (atI (nth q 3)))])), (44, spec ti_wide_Neg to_wide_Neg (fun q => (ok_wide_Neg F (atI (nth q 0)) (atI (nth q 1)))) (fun q => [.i (o_wide_Neg_0 F (atI (nth q 0)) (atI (nth q 1))), .i (o_wide_Neg_1 F (atI (nth q 0)) (atI (nth q 1)))])), (40, spec ti_wide_Mul to_wide_Mul (fun q => (ok_wide_Mul F (atI (nth q 0)) (atI (nth q 1)))) (fun q => [.i (o_wide_Mul_0 F (atI (nth q 0)) (atI (nth q 1))), .i (o_wide_Mul_1 F (atI (nth q 0)) (atI (nth q 1)))]))]) c_law01_WideRing (tabI c_law01_WideRing []) 8 (fTs ti_law01_WideRing [.i a0, .i a1, .i a2, .i a3, .i a4, .i a5, .i a6, .i a7, .i a8]).1 = (
  bif (ok_law01_works F) then (
    bif ((!((o_law01_works_0 F)))) then (
      some (.v (.bool false)))
    else (
      bif (ok_wide_Add F a0 a1 a2 a3) then (
        bif (ok_wide_Add F a2 a3 a0 a1) then (
          bif ((!((((o_wide_Add_0 F a0 a1 a2 a3)) == ((o_wide_Add_0 F a2 a3 a0 a1))) && (((o_wide_Add_1 F a0 a1 a2 a3)) == ((o_wide_Add_1 F a2 a3 a0 a1)))))) then (
            some (.v (.bool false)))
          else (
            bif (ok_wide_Add F a0 a1 a2 a3) then (
              let v346 : Int := (o_wide_Add_0 F a0 a1 a2 a3)
              let v347 : Int := (o_wide_Add_1 F a0 a1 a2 a3)
              bif (ok_wide_Add F v346 v347 a4 a5) then (
                bif (ok_wide_Add F a2 a3 a4 a5) then (
                  let v350 : Int := (o_wide_Add_0 F a2 a3 a4 a5)
                  let v351 : Int := (o_wide_Add_1 F a2 a3 a4 a5)
                  bif (ok_wide_Add F a0 a1 v350 v351) then (
                    bif ((!((((o_wide_Add_0 F v346 v347 a4 a5)) == ((o_wide_Add_0 F a0 a1 v350 v351))) && (((o_wide_Add_1 F v346 v347 a4 a5)) == ((o_wide_Add_1 F a0 a1 v350 v351)))))) then (
                      some (.v (.bool false)))
                    else (
                      bif (ok_wide_Neg F a0 a1) then (
                        let v355 : Int := (o_wide_Neg_0 F a0 a1)
                        let v356 : Int := (o_wide_Neg_1 F a0 a1)
                        bif (ok_wide_Add F a0 a1 v355 v356) then (
                          bif ((!((((o_wide_Add_0 F a0 a1 v355 v356)) == 0) && (((o_wide_Add_1 F a0 a1 v355 v356)) == 0)))) then (
                            some (.v (.bool false)))
                          else (
                            let v360 : Int := (IntKind.wrap .i64 (Int.tdiv a7 2))
                            let v361 : Int := (IntKind.wrap .i64 (Int.tdiv a8 2))
                            let v362 : Int := (IntKind.wrap .i64 (v360 + v361))
                            bif (ok_wide_Mul F a6 v362) then (
                              bif (ok_wide_Mul F a6 v360) then (
                                let v365 : Int := (o_wide_Mul_0 F a6 v360)
                                let v366 : Int := (o_wide_Mul_1 F a6 v360)
                                bif (ok_wide_Mul F a6 v361) then (
                                  let v367 : Int := (o_wide_Mul_0 F a6 v361)
                                  let v368 : Int := (o_wide_Mul_1 F a6 v361)
                                  bif (ok_wide_Add F v365 v366 v367 v368) then (
                                    bif (((((o_wide_Mul_0 F a6 v362)) == ((o_wide_Add_0 F v365 v366 v367 v368))) && (((o_wide_Mul_1 F a6 v362)) == ((o_wide_Add_1 F v365 v366 v367 v368))))) then (
                                      bif (ok_wide_Mul F a6 v360) then (
                                        bif (ok_wide_Mul F v360 a6) then (
                                          some (.v (.bool (((((o_wide_Mul_0 F a6 v360)) == ((o_wide_Mul_0 F v360 a6))) && (((o_wide_Mul_1 F a6 v360)) == ((o_wide_Mul_1 F v360 a6))))))))
                                        else (
                                          none))
                                      else (
                                        none))
                                    else (
                                      some (.v (.bool false))))
                                  else (
                                    none))
                                else (
                                  none))
                              else (
                                none))
                            else (
                              none)))
                        else (
                          none))
                      else (
                        none)))
                  else (
                    none))
                else (
                  none))
              else (
                none))
            else (
              none)))
        else (
          none))
      else (
        none)))
  else (
    none) : R) := by
    intros
    kernel_rfl
  exact (h ok_law01_works o_law01_works_0 ok_wide_Add o_wide_Add_0 o_wide_Add_1 ok_wide_Neg o_wide_Neg_0 o_wide_Neg_1 ok_wide_Mul o_wide_Mul_0 o_wide_Mul_1).trans (by kernel_rfl)
def ok_law01_WideRing (F : Nat) (a0 : Int) (a1 : Int) (a2 : Int) (a3 : Int) (a4 : Int) (a5 : Int) (a6 : Int) (a7 : Int) (a8 : Int) : Bool := okT to_law01_WideRing (f_law01_WideRing F a0 a1 a2 a3 a4 a5 a6 a7 a8)
def o_law01_WideRing_0 (F : Nat) (a0 : Int) (a1 : Int) (a2 : Int) (a3 : Int) (a4 : Int) (a5 : Int) (a6 : Int) (a7 : Int) (a8 : Int) : Bool := atB (nth (outT to_law01_WideRing (f_law01_WideRing F a0 a1 a2 a3 a4 a5 a6 a7 a8)) 0)
theorem k_law01_WideRing (F : Nat) (a0 : Int) (a1 : Int) (a2 : Int) (a3 : Int) (a4 : Int) (a5 : Int) (a6 : Int) (a7 : Int) (a8 : Int) {z0 : Bool} (h : f_law01_WideRing F a0 a1 a2 a3 a4 a5 a6 a7 a8 = some (.v (.bool z0))) : ok_law01_WideRing F a0 a1 a2 a3 a4 a5 a6 a7 a8 = true ∧ o_law01_WideRing_0 F a0 a1 a2 a3 a4 a5 a6 a7 a8 = z0 := by
  refine ⟨?_, ?_⟩
  · unfold ok_law01_WideRing; rw [h]; kernel_rfl
  · unfold o_law01_WideRing_0; rw [h]; kernel_rfl
def s_law01_WideRing (F : Nat) : List VV → Option (Bool × VV) := spec ti_law01_WideRing to_law01_WideRing (fun q => (ok_law01_WideRing F (atI (nth q 0)) (atI (nth q 1)) (atI (nth q 2)) (atI (nth q 3)) (atI (nth q 4)) (atI (nth q 5)) (atI (nth q 6)) (atI (nth q 7)) (atI (nth q 8)))) (fun q => [.b (o_law01_WideRing_0 F (atI (nth q 0)) (atI (nth q 1)) (atI (nth q 2)) (atI (nth q 3)) (atI (nth q 4)) (atI (nth q 5)) (atI (nth q 6)) (atI (nth q 7)) (atI (nth q 8)))])
theorem hS_law01_WideRing (F : Nat) : ∀ f, Good PP f (unS (S_law01_WideRing F f)) := words_good fun p hp => by
  simp only [List.mem_cons, List.not_mem_nil, or_false] at hp
  rcases hp with rfl | rfl | rfl | rfl
  · exact g_law01_works F
  · exact g_wide_Add F
  · exact g_wide_Neg F
  · exact g_wide_Mul F
theorem hl_law01_WideRing (F : Nat) : ∀ p ∈ loopsIn PP 8, LoopOK PP (S_law01_WideRing F) c_law01_WideRing F (I_law01_WideRing F) p :=
  loops_of [] (by kernel_rfl) all_nil
theorem g_law01_WideRing (F : Nat) : Good PP 8 (unS (s_law01_WideRing F)) :=
  fun_spec (hS_law01_WideRing F) (by kernel_rfl) (by kernel_rfl) (C := c_law01_WideRing) (F := fun q => (f_law01_WideRing F (atI (nth q 0)) (atI (nth q 1)) (atI (nth q 2)) (atI (nth q 3)) (atI (nth q 4)) (atI (nth q 5)) (atI (nth q 6)) (atI (nth q 7)) (atI (nth q 8)))) (fun _ => F) (fun _ => I_law01_WideRing F) (fun _ => hl_law01_WideRing F)
    (fun q => (congrArg (funL PP (S_law01_WideRing F) c_law01_WideRing (I_law01_WideRing F) 8) (show (fTs ti_law01_WideRing q).1 = (fTs ti_law01_WideRing [.i (atI (nth q 0)), .i (atI (nth q 1)), .i (atI (nth q 2)), .i (atI (nth q 3)), .i (atI (nth q 4)), .i (atI (nth q 5)), .i (atI (nth q 6)), .i (atI (nth q 7)), .i (atI (nth q 8))]).1 by kernel_rfl)).trans (e_law01_WideRing F (atI (nth q 0)) (atI (nth q 1)) (atI (nth q 2)) (atI (nth q 3)) (atI (nth q 4)) (atI (nth q 5)) (atI (nth q 6)) (atI (nth q 7)) (atI (nth q 8))))
    (fun _ h => (okT_fill h).trans (congrArg some (by kernel_rfl)))

end Go.Xv
namespace Go.Xv
theorem f_WideRing (F : Nat) (_hF : 200 ≤ F) {a b c d e f x y z : Int} (ha : I64 a) (hb : U64 b) (_hc : I64 c) (hd : U64 d) (_he : I64 e) (hf : U64 f) (hx : I64 x) (hy : I64 y) (hz : I64 z) : f_law01_WideRing F a b c d e f x y z = some (.v (.bool true)) := by
  unfold f_law01_WideRing
  dsimp only
  obtain ⟨w1, w2⟩ := a_works01 F
  have A := fun {p q r s : Int} (hq : U64 q) (hs : U64 s) => k_wide_Add F p q r s (f_Add F (a := p) (c := r) hq hs)
  obtain ⟨h1, h2, h3⟩ := A (p := a) (r := c) hb hd
  obtain ⟨g1, g2, g3⟩ := A (p := c) (r := a) hd hb
  obtain ⟨i1, i2, i3⟩ := A (p := c) (r := e) hd hf
  obtain ⟨j1, j2, j3⟩ := A (p := hi (val a b + val c d)) (r := e) (lo_U (val a b + val c d)) hf
  obtain ⟨k1, k2, k3⟩ := A (p := a) (r := hi (val c d + val e f)) hb (lo_U (val c d + val e f))
  obtain ⟨n1, n2, n3⟩ := k_wide_Neg F _ _ (f_Neg F ha hb)
  obtain ⟨o1, o2, o3⟩ := A (p := a) (r := hi (-val a b)) hb (lo_U (-val a b))
  have hy2 : I64 (Int.tdiv y 2) := by
    unfold I64 at *
    rcases Int.lt_or_le y 0 with h | h
    · have : Int.tdiv y 2 = -((-y) / 2) := by rw [← Int.tdiv_eq_ediv_of_nonneg (by omega), Int.neg_tdiv]; omega
      omega
    · rw [Int.tdiv_eq_ediv_of_nonneg h]; omega
  have hz2 : I64 (Int.tdiv z 2) := by
    unfold I64 at *
    rcases Int.lt_or_le z 0 with h | h
    · have : Int.tdiv z 2 = -((-z) / 2) := by rw [← Int.tdiv_eq_ediv_of_nonneg (by omega), Int.neg_tdiv]; omega
      omega
    · rw [Int.tdiv_eq_ediv_of_nonneg h]; omega
  have hs : I64 (Int.tdiv y 2 + Int.tdiv z 2) := by
    unfold I64 at *
    have h1 : ∀ v : Int, -9223372036854775808 ≤ v → v < 9223372036854775808 → -4611686018427387904 ≤ Int.tdiv v 2 ∧ Int.tdiv v 2 < 4611686018427387904 := by
      intro v h1 h2
      rcases Int.lt_or_le v 0 with h | h
      · have : Int.tdiv v 2 = -((-v) / 2) := by rw [← Int.tdiv_eq_ediv_of_nonneg (by omega), Int.neg_tdiv]; omega
        omega
      · rw [Int.tdiv_eq_ediv_of_nonneg h]; omega
    have := h1 y hy.1 hy.2
    have := h1 z hz.1 hz.2
    omega
  rw [wi64_in hy2, wi64_in hz2, wi64_in hs]
  generalize Int.tdiv y 2 = y at *
  generalize Int.tdiv z 2 = z at *
  obtain ⟨p1, p2, p3⟩ := a_Mul F hx hs
  obtain ⟨q1, q2, q3⟩ := a_Mul F hx hy2
  obtain ⟨r1, r2, r3⟩ := a_Mul F hx hz2
  obtain ⟨s1, s2, s3⟩ := a_Mul F hy2 hx
  obtain ⟨t1, t2, t3⟩ := a_Add F (x * y) (x * z)
  refine bp w1 (bn (by rw [w2]; rfl) (bp h1 (bp g1 (bn ?_ (bp h1 ?_)))))
  · rw [h2, h3, g2, g3, Int.add_comm (val c d)]; simp
  · rw [h2, h3]
    refine bp j1 (bp i1 ?_)
    rw [i2, i3]
    refine bp k1 (bn ?_ (bp n1 ?_))
    · rw [j2, j3, k2, k3, val_hl, val_hl]
      have e : Eqv (W (val a b + val c d) + val e f) (val a b + W (val c d + val e f)) := by
        have h := ((W_eqv (val a b + val c d)).add (Eqv.rfl (x := val e f)))
        have h' := ((Eqv.rfl (x := val a b)).add (W_eqv (val c d + val e f)))
        rw [Int.add_assoc] at h
        exact h.trans h'.symm
      rw [hi_eqv e, lo_eqv e]; simp
    · rw [n2, n3]
      refine bp o1 (bn ?_ (bp p1 (bp q1 (bp r1 ?_))))
      · rw [o2, o3, val_hl]
        have e : Eqv (val a b + W (-val a b)) 0 := by
          have h := (Eqv.rfl (x := val a b)).add (W_eqv (-val a b))
          rw [show val a b + -val a b = 0 by omega] at h
          exact h
        rw [hi_eqv e, lo_eqv e]; rfl
      · rw [q2, q3, r2, r3]
        refine bp t1 (bp ?_ (bp q1 (bp s1 ?_)))
        · rw [p2, p3, t2, t3, Int.mul_add]; simp
        · rw [s2, s3, Int.mul_comm y x]; simp
end Go.Xv
namespace Go.Proofs.Ytpcblnkllakejaa.wideRing
open Go.ChangeShapes Go.WideShapes Go.ChangeAt Go.RowKit Go.Xv Go.Proofs.Ytpcblnkllakejaa.base
set_option linter.unusedVariables false
set_option maxRecDepth 100000 in
theorem lifted (os : Os) (started : os.Started) (H : Type) (enc : TypeId × Value → H) :
    ReturnsInHanded {} Try.checked os 8 .any (Rows.wideRingSpec.pre6 enc Try.prog Try.f8 Rows.wideRingRow.domain false) (Rows.wideRingSpec.post enc Try.prog Try.f8 false true false false) := by
  refine returnsInHanded_of_change (C := Try.checked) own started (by kernel_rfl) Try.func8
    (ChangeSpec.witness6 (enc := enc) (C := Try.checked) false ⟨#[], #[.agg #[.int .i64 0, .int .u64 0], .agg #[.int .i64 0, .int .u64 0], .agg #[.int .i64 0, .int .u64 0], .int .i64 0, .int .i64 0, .int .i64 0], []⟩ 8 (by kernel_rfl) (by kernel_rfl) (by kernel_rfl) (by kernel_rfl)) ?_
  intro W base args ds gs before hval0 hW hcnd _
  have hval : ∀ (j : Nat) t v, Try.f8.params[j]? = some t → args[j]? = some v → Value.okWide Try.prog W .any base t v := hval0
  have hW' := hW
  obtain ⟨p, q, hA0, hV, rfl, hfz, hnd⟩ := hW
  have hA : DataW.TrodAll enc Try.prog W 0 (fun _ => true) true Try.f8.params.toList args.toList ds p := hA0
  rw [Try.params8] at hA hval
  obtain ⟨v0, vs0, d0, ds0, p0, q0, hargs, rfl, rfl, h0, r0⟩ := trodAll_cons hA
  obtain ⟨v1, vs1, d1, ds1, p1, q1, rfl, rfl, rfl, h1, r1⟩ := trodAll_cons r0
  obtain ⟨v2, vs2, d2, ds2, p2, q2, rfl, rfl, rfl, h2, r2⟩ := trodAll_cons r1
  obtain ⟨v3, vs3, d3, ds3, p3, q3, rfl, rfl, rfl, h3, r3⟩ := trodAll_cons r2
  obtain ⟨v4, vs4, d4, ds4, p4, q4, rfl, rfl, rfl, h4, r4⟩ := trodAll_cons r3
  obtain ⟨v5, vs5, d5, ds5, p5, q5, rfl, rfl, rfl, h5, r5⟩ := trodAll_cons r4
  obtain ⟨rfl, rfl, rfl⟩ := trodAll_nil r5
  obtain rfl : args = #[v0, v1, v2, v3, v4, v5] := by cases args; simp_all
  obtain ⟨l0, rfl, f0⟩ := open_flat (ks := [some .i64, some .u64]) (by kernel_rfl) (by kernel_rfl) (hval 0 49 v0 rfl rfl) h0
  obtain ⟨a0, l0, rfl, wa0, f0⟩ := fitW_some f0
  obtain ⟨a1, l0, rfl, wa1, f0⟩ := fitW_some f0
  obtain rfl := fitW_nil f0
  obtain ⟨l1, rfl, f1⟩ := open_flat (ks := [some .i64, some .u64]) (by kernel_rfl) (by kernel_rfl) (hval 1 49 v1 rfl rfl) h1
  obtain ⟨a2, l1, rfl, wa2, f1⟩ := fitW_some f1
  obtain ⟨a3, l1, rfl, wa3, f1⟩ := fitW_some f1
  obtain rfl := fitW_nil f1
  obtain ⟨l2, rfl, f2⟩ := open_flat (ks := [some .i64, some .u64]) (by kernel_rfl) (by kernel_rfl) (hval 2 49 v2 rfl rfl) h2
  obtain ⟨a4, l2, rfl, wa4, f2⟩ := fitW_some f2
  obtain ⟨a5, l2, rfl, wa5, f2⟩ := fitW_some f2
  obtain rfl := fitW_nil f2
  obtain ⟨a6, rfl, wa6⟩ := open_num (k := .i64) (by kernel_rfl) (hval 3 2 v3 rfl rfl) h3
  obtain ⟨a7, rfl, wa7⟩ := open_num (k := .i64) (by kernel_rfl) (hval 4 2 v4 rfl rfl) h4
  obtain ⟨a8, rfl, wa8⟩ := open_num (k := .i64) (by kernel_rfl) (hval 5 2 v5 rfl rfl) h5
  refine law_contract laidOut (g_law01_WideRing fuel0) (bt := 4) (by kernel_rfl) (by kernel_rfl) (by kernel_rfl) (by kernel_rfl) rfl hW' ?_
  refine ⟨[.v (.agg #[.int .i64 a0, .int .u64 a1]), .v (.agg #[.int .i64 a2, .int .u64 a3]), .v (.agg #[.int .i64 a4, .int .u64 a5]), .v (.int .i64 a6), .v (.int .i64 a7), .v (.int .i64 a8)], rfl, fun i x hx => ?_, unS_of ?_⟩
  · match i, hx with
    | 0, hx => exact ⟨_, rfl, by cases hx; exact Rel.v _ _⟩
    | 1, hx => exact ⟨_, rfl, by cases hx; exact Rel.v _ _⟩
    | 2, hx => exact ⟨_, rfl, by cases hx; exact Rel.v _ _⟩
    | 3, hx => exact ⟨_, rfl, by cases hx; exact Rel.v _ _⟩
    | 4, hx => exact ⟨_, rfl, by cases hx; exact Rel.v _ _⟩
    | 5, hx => exact ⟨_, rfl, by cases hx; exact Rel.v _ _⟩
    | _ + 6, hx => cases hx
  · obtain ⟨y1, y2⟩ := k_law01_WideRing fuel0 a0 a1 a2 a3 a4 a5 a6 a7 a8 (f_WideRing fuel0 (by unfold fuel0; omega) (wf_i64 wa0) (wf_u64 wa1) (wf_i64 wa2) (wf_u64 wa3) (wf_i64 wa4) (wf_u64 wa5) (wf_i64 wa6) (wf_i64 wa7) (wf_i64 wa8))
    have e : s_law01_WideRing fuel0 [.v (.agg #[.int .i64 a0, .int .u64 a1]), .v (.agg #[.int .i64 a2, .int .u64 a3]), .v (.agg #[.int .i64 a4, .int .u64 a5]), .v (.int .i64 a6), .v (.int .i64 a7), .v (.int .i64 a8)] = some (ok_law01_WideRing fuel0 a0 a1 a2 a3 a4 a5 a6 a7 a8, .v (.bool (o_law01_WideRing_0 fuel0 a0 a1 a2 a3 a4 a5 a6 a7 a8))) := by kernel_rfl
    rw [e, y1, y2]
theorem over : Rows.wideRingRow.holds Try.pinned (OpenSpec.ofChange Rows.wideRingSpec) :=
  OpenClaim.holds_of_wide 8 Try.f8 rfl rfl rfl rfl rfl rfl rfl ⟨rfl, rfl, rfl, rfl, rfl⟩ rfl rfl rfl rfl rfl (by kernel_rfl) Try.func8 (joined_of (P := Try.prog) behind enter_ rfl rfl ⟨rfl, rfl⟩ (by kernel_rfl))
    (of_decide_eq_true (by kernel_rfl)) (by unfold Func.isWrapper; first | (rw [if_pos (by decide +kernel)]; kernel_rfl) | (rw [if_neg (by decide +kernel)]; exact ⟨rfl, rfl⟩))
    (fun os started H enc _ => lifted os started H enc)
/-- The statement. -/
theorem proved : Rows.WideRingSaid := over
#print axioms proved
end Go.Proofs.Ytpcblnkllakejaa.wideRing
