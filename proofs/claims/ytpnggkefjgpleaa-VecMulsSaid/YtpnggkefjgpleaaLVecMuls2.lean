/- Dot and cross products of any vectors are as the document says: the law returns true for every input, and leaves its arguments as they were. -/
import Derived.Test.YtpnggkefjgpleaaLVecMuls
import Derived.KernelRfl
set_option linter.unusedVariables false
namespace Go.Xv
/- 95 _ref06_clip -/
def c_ref06_clip : Cfg := ⟨[0, 1, 2, 3, 4, 5], [], [], []⟩
def ti_ref06_clip : List TV := [.v (.agg [.int .i64, .int .u64])]
def to_ref06_clip : TV := .v (.tup [.int .i64, .bool])
def S_ref06_clip (F : Nat) : FuncId → List VV → Option (Bool × VV) := words [(32, s_ref01_Clip F)]
def W_ref06_clip (F : Nat) : List LW := []
def I_ref06_clip (F : Nat) : Nat → VS → (Exit → VS → R) → R := tabI c_ref06_clip (W_ref06_clip F)
def WJ_ref06_clip (F : Nat) : List LJ := []
def J_ref06_clip (F : Nat) : Nat → Nat → VS → (Exit → VS → R) → R := tabJ (WJ_ref06_clip F)
def f_ref06_clip (F : Nat) (a0 : Int) (a1 : Int) : R :=
  bif (ok_ref01_Clip F a0 a1) then (
    some (.v (.tuple #[.int .i64 ((o_ref01_Clip_0 F a0 a1)), .bool ((o_ref01_Clip_1 F a0 a1))])))
  else (
    none)
theorem e_ref06_clip (F : Nat) (a0 : Int) (a1 : Int) : funL PP (S_ref06_clip F) c_ref06_clip (I_ref06_clip F) (J_ref06_clip F) 95 (fTs ti_ref06_clip [.i a0, .i a1]).1 = f_ref06_clip F a0 a1 := by
  have h : ∀ (ok_ref01_Clip : Nat → Int → Int → Bool) (o_ref01_Clip_0 : Nat → Int → Int → Int) (o_ref01_Clip_1 : Nat → Int → Int → Bool), funL PP (words [(32, spec ti_ref01_Clip to_ref01_Clip (fun q => (ok_ref01_Clip F (atI (nth q 0)) (atI (nth q 1)))) (fun q => [.i (o_ref01_Clip_0 F (atI (nth q 0)) (atI (nth q 1))), .b (o_ref01_Clip_1 F (atI (nth q 0)) (atI (nth q 1)))]))]) c_ref06_clip (tabI c_ref06_clip []) (tabJ []) 95 (fTs ti_ref06_clip [.i a0, .i a1]).1 = (
  bif (ok_ref01_Clip F a0 a1) then (
    some (.v (.tuple #[.int .i64 ((o_ref01_Clip_0 F a0 a1)), .bool ((o_ref01_Clip_1 F a0 a1))])))
  else (
    none) : R) := by
    intros
    kernel_rfl
  exact (h ok_ref01_Clip o_ref01_Clip_0 o_ref01_Clip_1).trans (by kernel_rfl)
def ok_ref06_clip (F : Nat) (a0 : Int) (a1 : Int) : Bool := okT to_ref06_clip (f_ref06_clip F a0 a1)
def o_ref06_clip_0 (F : Nat) (a0 : Int) (a1 : Int) : Int := atI (nth (outT to_ref06_clip (f_ref06_clip F a0 a1)) 0)
def o_ref06_clip_1 (F : Nat) (a0 : Int) (a1 : Int) : Bool := atB (nth (outT to_ref06_clip (f_ref06_clip F a0 a1)) 1)
theorem k_ref06_clip (F : Nat) (a0 : Int) (a1 : Int) {z0 : Int} {z1 : Bool} (h : f_ref06_clip F a0 a1 = some (.v (.tuple #[.int .i64 z0, .bool z1]))) : ok_ref06_clip F a0 a1 = true ∧ o_ref06_clip_0 F a0 a1 = z0 ∧ o_ref06_clip_1 F a0 a1 = z1 := by
  refine ⟨?_, ?_, ?_⟩
  · unfold ok_ref06_clip; rw [h]; kernel_rfl
  · unfold o_ref06_clip_0; rw [h]; kernel_rfl
  · unfold o_ref06_clip_1; rw [h]; kernel_rfl
def s_ref06_clip (F : Nat) : List VV → Option (Bool × VV) := spec ti_ref06_clip to_ref06_clip (fun q => (ok_ref06_clip F (atI (nth q 0)) (atI (nth q 1)))) (fun q => [.i (o_ref06_clip_0 F (atI (nth q 0)) (atI (nth q 1))), .b (o_ref06_clip_1 F (atI (nth q 0)) (atI (nth q 1)))])
theorem hS_ref06_clip (F : Nat) : ∀ f, Good PP f (unS (S_ref06_clip F f)) := words_good fun p hp => by
  simp only [List.mem_cons, List.not_mem_nil, or_false] at hp
  rcases hp with rfl
  · exact g_ref01_Clip F
theorem hl_ref06_clip (F : Nat) : ∀ p ∈ loopsIn PP 95, LoopOK PP (S_ref06_clip F) c_ref06_clip F (I_ref06_clip F) (J_ref06_clip F) p :=
  loops_of [] (by kernel_rfl) all_nil
theorem hj_ref06_clip (F : Nat) : ∀ p ∈ joinsIn PP c_ref06_clip 95, JoinOK PP (S_ref06_clip F) c_ref06_clip (I_ref06_clip F) (J_ref06_clip F) p :=
  joins_of [] (by kernel_rfl) all_nil
theorem g_ref06_clip (F : Nat) : Good PP 95 (unS (s_ref06_clip F)) :=
  fun_spec (hS_ref06_clip F) (by kernel_rfl) (by kernel_rfl) (C := c_ref06_clip) (F := fun q => (f_ref06_clip F (atI (nth q 0)) (atI (nth q 1)))) (fun _ => F) (fun _ => I_ref06_clip F) (fun _ => J_ref06_clip F) (fun _ => hl_ref06_clip F) (fun _ => hj_ref06_clip F)
    (fun q => (congrArg (funL PP (S_ref06_clip F) c_ref06_clip (I_ref06_clip F) (J_ref06_clip F) 95) (show (fTs ti_ref06_clip q).1 = (fTs ti_ref06_clip [.i (atI (nth q 0)), .i (atI (nth q 1))]).1 by kernel_rfl)).trans (e_ref06_clip F (atI (nth q 0)) (atI (nth q 1))))
    (fun _ h => (okT_fill h).trans (congrArg some (by kernel_rfl)))

end Go.Xv
set_option linter.unusedVariables false
namespace Go.Xv
/- 48 _ref06_Dot -/
def c_ref06_Dot : Cfg := ⟨[0, 1, 2, 3, 4, 5], [], [10, 15, 16, 21, 22], []⟩
def ti_ref06_Dot : List TV := [.v (.agg [.int .i64, .int .i64, .int .i64]), .v (.agg [.int .i64, .int .i64, .int .i64])]
def to_ref06_Dot : TV := .v (.tup [.int .i64, .bool])
def S_ref06_Dot (F : Nat) : FuncId → List VV → Option (Bool × VV) := words [(96, s_ref06_product F), (30, s_ref01_Add F), (95, s_ref06_clip F)]
def W_ref06_Dot (F : Nat) : List LW := []
def I_ref06_Dot (F : Nat) : Nat → VS → (Exit → VS → R) → R := tabI c_ref06_Dot (W_ref06_Dot F)
def WJ_ref06_Dot (F : Nat) : List LJ := []
def J_ref06_Dot (F : Nat) : Nat → Nat → VS → (Exit → VS → R) → R := tabJ (WJ_ref06_Dot F)
def f_ref06_Dot (F : Nat) (a0 : Int) (a1 : Int) (a2 : Int) (a3 : Int) (a4 : Int) (a5 : Int) : R :=
  bif (ok_ref06_product F a0 a3) then (
    let v1733 : Int := (o_ref06_product_0 F a0 a3)
    let v1734 : Int := (o_ref06_product_1 F a0 a3)
    bif (ok_ref06_product F a1 a4) then (
      let v1735 : Int := (o_ref06_product_0 F a1 a4)
      let v1736 : Int := (o_ref06_product_1 F a1 a4)
      bif (ok_ref01_Add F v1733 v1734 v1735 v1736) then (
        let v1737 : Int := (o_ref01_Add_0 F v1733 v1734 v1735 v1736)
        let v1738 : Int := (o_ref01_Add_1 F v1733 v1734 v1735 v1736)
        bif (ok_ref06_product F a2 a5) then (
          let v1739 : Int := (o_ref06_product_0 F a2 a5)
          let v1740 : Int := (o_ref06_product_1 F a2 a5)
          bif (ok_ref01_Add F v1737 v1738 v1739 v1740) then (
            let v1741 : Int := (o_ref01_Add_0 F v1737 v1738 v1739 v1740)
            let v1742 : Int := (o_ref01_Add_1 F v1737 v1738 v1739 v1740)
            bif (ok_ref06_clip F v1741 v1742) then (
              some (.v (.tuple #[.int .i64 ((o_ref06_clip_0 F v1741 v1742)), .bool ((o_ref06_clip_1 F v1741 v1742))])))
            else (
              none))
          else (
            none))
        else (
          none))
      else (
        none))
    else (
      none))
  else (
    none)
theorem e_ref06_Dot (F : Nat) (a0 : Int) (a1 : Int) (a2 : Int) (a3 : Int) (a4 : Int) (a5 : Int) : funL PP (S_ref06_Dot F) c_ref06_Dot (I_ref06_Dot F) (J_ref06_Dot F) 48 (fTs ti_ref06_Dot [.i a0, .i a1, .i a2, .i a3, .i a4, .i a5]).1 = f_ref06_Dot F a0 a1 a2 a3 a4 a5 := by
  have h : ∀ (ok_ref06_product : Nat → Int → Int → Bool) (o_ref06_product_0 : Nat → Int → Int → Int) (o_ref06_product_1 : Nat → Int → Int → Int) (ok_ref01_Add : Nat → Int → Int → Int → Int → Bool) (o_ref01_Add_0 : Nat → Int → Int → Int → Int → Int) (o_ref01_Add_1 : Nat → Int → Int → Int → Int → Int) (ok_ref06_clip : Nat → Int → Int → Bool) (o_ref06_clip_0 : Nat → Int → Int → Int) (o_ref06_clip_1 : Nat → Int → Int → Bool), funL PP (words [(96, spec ti_ref06_product to_ref06_product (fun q => (ok_ref06_product F (atI (nth q 0)) (atI (nth q 1)))) (fun q => [.i (o_ref06_product_0 F (atI (nth q 0)) (atI (nth q 1))), .i (o_ref06_product_1 F (atI (nth q 0)) (atI (nth q 1)))])), (30, spec ti_ref01_Add to_ref01_Add (fun q => (ok_ref01_Add F (atI (nth q 0)) (atI (nth q 1)) (atI (nth q 2)) (atI (nth q 3)))) (fun q => [.i (o_ref01_Add_0 F (atI (nth q 0)) (atI (nth q 1)) (atI (nth q 2)) (atI (nth q 3))), .i (o_ref01_Add_1 F (atI (nth q 0)) (atI (nth q 1)) (atI (nth q 2)) (atI (nth q 3)))])), (95, spec ti_ref06_clip to_ref06_clip (fun q => (ok_ref06_clip F (atI (nth q 0)) (atI (nth q 1)))) (fun q => [.i (o_ref06_clip_0 F (atI (nth q 0)) (atI (nth q 1))), .b (o_ref06_clip_1 F (atI (nth q 0)) (atI (nth q 1)))]))]) c_ref06_Dot (tabI c_ref06_Dot []) (tabJ []) 48 (fTs ti_ref06_Dot [.i a0, .i a1, .i a2, .i a3, .i a4, .i a5]).1 = (
  bif (ok_ref06_product F a0 a3) then (
    let v1733 : Int := (o_ref06_product_0 F a0 a3)
    let v1734 : Int := (o_ref06_product_1 F a0 a3)
    bif (ok_ref06_product F a1 a4) then (
      let v1735 : Int := (o_ref06_product_0 F a1 a4)
      let v1736 : Int := (o_ref06_product_1 F a1 a4)
      bif (ok_ref01_Add F v1733 v1734 v1735 v1736) then (
        let v1737 : Int := (o_ref01_Add_0 F v1733 v1734 v1735 v1736)
        let v1738 : Int := (o_ref01_Add_1 F v1733 v1734 v1735 v1736)
        bif (ok_ref06_product F a2 a5) then (
          let v1739 : Int := (o_ref06_product_0 F a2 a5)
          let v1740 : Int := (o_ref06_product_1 F a2 a5)
          bif (ok_ref01_Add F v1737 v1738 v1739 v1740) then (
            let v1741 : Int := (o_ref01_Add_0 F v1737 v1738 v1739 v1740)
            let v1742 : Int := (o_ref01_Add_1 F v1737 v1738 v1739 v1740)
            bif (ok_ref06_clip F v1741 v1742) then (
              some (.v (.tuple #[.int .i64 ((o_ref06_clip_0 F v1741 v1742)), .bool ((o_ref06_clip_1 F v1741 v1742))])))
            else (
              none))
          else (
            none))
        else (
          none))
      else (
        none))
    else (
      none))
  else (
    none) : R) := by
    intros
    kernel_rfl
  exact (h ok_ref06_product o_ref06_product_0 o_ref06_product_1 ok_ref01_Add o_ref01_Add_0 o_ref01_Add_1 ok_ref06_clip o_ref06_clip_0 o_ref06_clip_1).trans (by kernel_rfl)
def ok_ref06_Dot (F : Nat) (a0 : Int) (a1 : Int) (a2 : Int) (a3 : Int) (a4 : Int) (a5 : Int) : Bool := okT to_ref06_Dot (f_ref06_Dot F a0 a1 a2 a3 a4 a5)
def o_ref06_Dot_0 (F : Nat) (a0 : Int) (a1 : Int) (a2 : Int) (a3 : Int) (a4 : Int) (a5 : Int) : Int := atI (nth (outT to_ref06_Dot (f_ref06_Dot F a0 a1 a2 a3 a4 a5)) 0)
def o_ref06_Dot_1 (F : Nat) (a0 : Int) (a1 : Int) (a2 : Int) (a3 : Int) (a4 : Int) (a5 : Int) : Bool := atB (nth (outT to_ref06_Dot (f_ref06_Dot F a0 a1 a2 a3 a4 a5)) 1)
theorem k_ref06_Dot (F : Nat) (a0 : Int) (a1 : Int) (a2 : Int) (a3 : Int) (a4 : Int) (a5 : Int) {z0 : Int} {z1 : Bool} (h : f_ref06_Dot F a0 a1 a2 a3 a4 a5 = some (.v (.tuple #[.int .i64 z0, .bool z1]))) : ok_ref06_Dot F a0 a1 a2 a3 a4 a5 = true ∧ o_ref06_Dot_0 F a0 a1 a2 a3 a4 a5 = z0 ∧ o_ref06_Dot_1 F a0 a1 a2 a3 a4 a5 = z1 := by
  refine ⟨?_, ?_, ?_⟩
  · unfold ok_ref06_Dot; rw [h]; kernel_rfl
  · unfold o_ref06_Dot_0; rw [h]; kernel_rfl
  · unfold o_ref06_Dot_1; rw [h]; kernel_rfl
def s_ref06_Dot (F : Nat) : List VV → Option (Bool × VV) := spec ti_ref06_Dot to_ref06_Dot (fun q => (ok_ref06_Dot F (atI (nth q 0)) (atI (nth q 1)) (atI (nth q 2)) (atI (nth q 3)) (atI (nth q 4)) (atI (nth q 5)))) (fun q => [.i (o_ref06_Dot_0 F (atI (nth q 0)) (atI (nth q 1)) (atI (nth q 2)) (atI (nth q 3)) (atI (nth q 4)) (atI (nth q 5))), .b (o_ref06_Dot_1 F (atI (nth q 0)) (atI (nth q 1)) (atI (nth q 2)) (atI (nth q 3)) (atI (nth q 4)) (atI (nth q 5)))])
theorem hS_ref06_Dot (F : Nat) : ∀ f, Good PP f (unS (S_ref06_Dot F f)) := words_good fun p hp => by
  simp only [List.mem_cons, List.not_mem_nil, or_false] at hp
  rcases hp with rfl | rfl | rfl
  · exact g_ref06_product F
  · exact g_ref01_Add F
  · exact g_ref06_clip F
theorem hl_ref06_Dot (F : Nat) : ∀ p ∈ loopsIn PP 48, LoopOK PP (S_ref06_Dot F) c_ref06_Dot F (I_ref06_Dot F) (J_ref06_Dot F) p :=
  loops_of [] (by kernel_rfl) all_nil
theorem hj_ref06_Dot (F : Nat) : ∀ p ∈ joinsIn PP c_ref06_Dot 48, JoinOK PP (S_ref06_Dot F) c_ref06_Dot (I_ref06_Dot F) (J_ref06_Dot F) p :=
  joins_of [] (by kernel_rfl) all_nil
theorem g_ref06_Dot (F : Nat) : Good PP 48 (unS (s_ref06_Dot F)) :=
  fun_spec (hS_ref06_Dot F) (by kernel_rfl) (by kernel_rfl) (C := c_ref06_Dot) (F := fun q => (f_ref06_Dot F (atI (nth q 0)) (atI (nth q 1)) (atI (nth q 2)) (atI (nth q 3)) (atI (nth q 4)) (atI (nth q 5)))) (fun _ => F) (fun _ => I_ref06_Dot F) (fun _ => J_ref06_Dot F) (fun _ => hl_ref06_Dot F) (fun _ => hj_ref06_Dot F)
    (fun q => (congrArg (funL PP (S_ref06_Dot F) c_ref06_Dot (I_ref06_Dot F) (J_ref06_Dot F) 48) (show (fTs ti_ref06_Dot q).1 = (fTs ti_ref06_Dot [.i (atI (nth q 0)), .i (atI (nth q 1)), .i (atI (nth q 2)), .i (atI (nth q 3)), .i (atI (nth q 4)), .i (atI (nth q 5))]).1 by kernel_rfl)).trans (e_ref06_Dot F (atI (nth q 0)) (atI (nth q 1)) (atI (nth q 2)) (atI (nth q 3)) (atI (nth q 4)) (atI (nth q 5))))
    (fun _ h => (okT_fill h).trans (congrArg some (by kernel_rfl)))

end Go.Xv
set_option linter.unusedVariables false
namespace Go.Xv
/- 97 _vec_Cross_1 -/
def c_vec_Cross_1 : Cfg := ⟨[0, 1, 2, 4, 5, 6, 7], [], [20, 27, 28, 29], []⟩
def ti_vec_Cross_1 : List TV := [.v (.int .i64), .fpx [.v (.int .i64), .v (.int .i64), .v (.int .i64)] (.lit 0), .fpx [.v (.int .i64), .v (.int .i64), .v (.int .i64)] (.lit 0)]
def to_vec_Cross_1 : TV := .v (.tup [.int .i64, .bool])
def S_vec_Cross_1 (F : Nat) : FuncId → List VV → Option (Bool × VV) := words [(93, s_vec_product F), (98, s_wide_Neg F), (71, s_wide_Add F), (94, s_vec_clip F)]
def W_vec_Cross_1 (F : Nat) : List LW := []
def I_vec_Cross_1 (F : Nat) : Nat → VS → (Exit → VS → R) → R := tabI c_vec_Cross_1 (W_vec_Cross_1 F)
def WJ_vec_Cross_1 (F : Nat) : List LJ := []
def J_vec_Cross_1 (F : Nat) : Nat → Nat → VS → (Exit → VS → R) → R := tabJ (WJ_vec_Cross_1 F)
def f_vec_Cross_1 (F : Nat) (a0 : Int) (a1 : Int) (a2 : Int) (a3 : Int) (a4 : Int) (a5 : Int) (a6 : Int) : R :=
  let v1764 : Int := (Int.tmod ((IntKind.wrap .i64 (a0 + 1))) 3)
  let v1766 : Int := (Int.tmod ((IntKind.wrap .i64 (a0 + 2))) 3)
  bif ((decide (0 ≤ v1764)) && (decide (v1764 < 3))) then (
    let v1767 : Nat := (0 + ((Int.toNat v1764) * 1))
    bif ((isI .i64 [.v (.int .i64 a1), .v (.int .i64 a2), .v (.int .i64 a3)][v1767]?) && true) then (
      let v1768 : Int := (iv [.v (.int .i64 a1), .v (.int .i64 a2), .v (.int .i64 a3)][v1767]?)
      bif ((decide (0 ≤ v1766)) && (decide (v1766 < 3))) then (
        let v1769 : Nat := (0 + ((Int.toNat v1766) * 1))
        bif ((isI .i64 [.v (.int .i64 a4), .v (.int .i64 a5), .v (.int .i64 a6)][v1769]?) && true) then (
          let v1770 : Int := (iv [.v (.int .i64 a4), .v (.int .i64 a5), .v (.int .i64 a6)][v1769]?)
          bif (ok_vec_product F v1768 v1770) then (
            let v1771 : Int := (o_vec_product_0 F v1768 v1770)
            let v1772 : Int := (o_vec_product_1 F v1768 v1770)
            bif ((decide (0 ≤ v1766)) && (decide (v1766 < 3))) then (
              let v1773 : Nat := (0 + ((Int.toNat v1766) * 1))
              bif ((isI .i64 [.v (.int .i64 a1), .v (.int .i64 a2), .v (.int .i64 a3)][v1773]?) && true) then (
                let v1774 : Int := (iv [.v (.int .i64 a1), .v (.int .i64 a2), .v (.int .i64 a3)][v1773]?)
                bif ((decide (0 ≤ v1764)) && (decide (v1764 < 3))) then (
                  let v1775 : Nat := (0 + ((Int.toNat v1764) * 1))
                  bif ((isI .i64 [.v (.int .i64 a4), .v (.int .i64 a5), .v (.int .i64 a6)][v1775]?) && true) then (
                    let v1776 : Int := (iv [.v (.int .i64 a4), .v (.int .i64 a5), .v (.int .i64 a6)][v1775]?)
                    bif (ok_vec_product F v1774 v1776) then (
                      let v1777 : Int := (o_vec_product_0 F v1774 v1776)
                      let v1778 : Int := (o_vec_product_1 F v1774 v1776)
                      bif (ok_wide_Neg F v1777 v1778) then (
                        let v1779 : Int := (o_wide_Neg_0 F v1777 v1778)
                        let v1780 : Int := (o_wide_Neg_1 F v1777 v1778)
                        bif (ok_wide_Add F v1771 v1772 v1779 v1780) then (
                          let v1781 : Int := (o_wide_Add_0 F v1771 v1772 v1779 v1780)
                          let v1782 : Int := (o_wide_Add_1 F v1771 v1772 v1779 v1780)
                          bif (ok_vec_clip F v1781 v1782) then (
                            some (.v (.tuple #[.int .i64 ((o_vec_clip_0 F v1781 v1782)), .bool ((o_vec_clip_1 F v1781 v1782))])))
                          else (
                            none))
                        else (
                          none))
                      else (
                        none))
                    else (
                      none))
                  else (
                    none))
                else (
                  none))
              else (
                none))
            else (
              none))
          else (
            none))
        else (
          none))
      else (
        none))
    else (
      none))
  else (
    none)
theorem e_vec_Cross_1 (F : Nat) (a0 : Int) (a1 : Int) (a2 : Int) (a3 : Int) (a4 : Int) (a5 : Int) (a6 : Int) : funL PP (S_vec_Cross_1 F) c_vec_Cross_1 (I_vec_Cross_1 F) (J_vec_Cross_1 F) 97 (fTs ti_vec_Cross_1 [.i a0, .i a1, .i a2, .i a3, .i a4, .i a5, .i a6]).1 = f_vec_Cross_1 F a0 a1 a2 a3 a4 a5 a6 := by
  have h : ∀ (ok_vec_product : Nat → Int → Int → Bool) (o_vec_product_0 : Nat → Int → Int → Int) (o_vec_product_1 : Nat → Int → Int → Int) (ok_wide_Neg : Nat → Int → Int → Bool) (o_wide_Neg_0 : Nat → Int → Int → Int) (o_wide_Neg_1 : Nat → Int → Int → Int) (ok_wide_Add : Nat → Int → Int → Int → Int → Bool) (o_wide_Add_0 : Nat → Int → Int → Int → Int → Int) (o_wide_Add_1 : Nat → Int → Int → Int → Int → Int) (ok_vec_clip : Nat → Int → Int → Bool) (o_vec_clip_0 : Nat → Int → Int → Int) (o_vec_clip_1 : Nat → Int → Int → Bool), funL PP (words [(93, spec ti_vec_product to_vec_product (fun q => (ok_vec_product F (atI (nth q 0)) (atI (nth q 1)))) (fun q => [.i (o_vec_product_0 F (atI (nth q 0)) (atI (nth q 1))), .i (o_vec_product_1 F (atI (nth q 0)) (atI (nth q 1)))])), (98, spec ti_wide_Neg to_wide_Neg (fun q => (ok_wide_Neg F (atI (nth q 0)) (atI (nth q 1)))) (fun q => [.i (o_wide_Neg_0 F (atI (nth q 0)) (atI (nth q 1))), .i (o_wide_Neg_1 F (atI (nth q 0)) (atI (nth q 1)))])), (71, spec ti_wide_Add to_wide_Add (fun q => (ok_wide_Add F (atI (nth q 0)) (atI (nth q 1)) (atI (nth q 2)) (atI (nth q 3)))) (fun q => [.i (o_wide_Add_0 F (atI (nth q 0)) (atI (nth q 1)) (atI (nth q 2)) (atI (nth q 3))), .i (o_wide_Add_1 F (atI (nth q 0)) (atI (nth q 1)) (atI (nth q 2)) (atI (nth q 3)))])), (94, spec ti_vec_clip to_vec_clip (fun q => (ok_vec_clip F (atI (nth q 0)) (atI (nth q 1)))) (fun q => [.i (o_vec_clip_0 F (atI (nth q 0)) (atI (nth q 1))), .b (o_vec_clip_1 F (atI (nth q 0)) (atI (nth q 1)))]))]) c_vec_Cross_1 (tabI c_vec_Cross_1 []) (tabJ []) 97 (fTs ti_vec_Cross_1 [.i a0, .i a1, .i a2, .i a3, .i a4, .i a5, .i a6]).1 = (
  let v1764 : Int := (Int.tmod ((IntKind.wrap .i64 (a0 + 1))) 3)
  let v1766 : Int := (Int.tmod ((IntKind.wrap .i64 (a0 + 2))) 3)
  bif ((decide (0 ≤ v1764)) && (decide (v1764 < 3))) then (
    let v1767 : Nat := (0 + ((Int.toNat v1764) * 1))
    bif ((isI .i64 [.v (.int .i64 a1), .v (.int .i64 a2), .v (.int .i64 a3)][v1767]?) && true) then (
      let v1768 : Int := (iv [.v (.int .i64 a1), .v (.int .i64 a2), .v (.int .i64 a3)][v1767]?)
      bif ((decide (0 ≤ v1766)) && (decide (v1766 < 3))) then (
        let v1769 : Nat := (0 + ((Int.toNat v1766) * 1))
        bif ((isI .i64 [.v (.int .i64 a4), .v (.int .i64 a5), .v (.int .i64 a6)][v1769]?) && true) then (
          let v1770 : Int := (iv [.v (.int .i64 a4), .v (.int .i64 a5), .v (.int .i64 a6)][v1769]?)
          bif (ok_vec_product F v1768 v1770) then (
            let v1771 : Int := (o_vec_product_0 F v1768 v1770)
            let v1772 : Int := (o_vec_product_1 F v1768 v1770)
            bif ((decide (0 ≤ v1766)) && (decide (v1766 < 3))) then (
              let v1773 : Nat := (0 + ((Int.toNat v1766) * 1))
              bif ((isI .i64 [.v (.int .i64 a1), .v (.int .i64 a2), .v (.int .i64 a3)][v1773]?) && true) then (
                let v1774 : Int := (iv [.v (.int .i64 a1), .v (.int .i64 a2), .v (.int .i64 a3)][v1773]?)
                bif ((decide (0 ≤ v1764)) && (decide (v1764 < 3))) then (
                  let v1775 : Nat := (0 + ((Int.toNat v1764) * 1))
                  bif ((isI .i64 [.v (.int .i64 a4), .v (.int .i64 a5), .v (.int .i64 a6)][v1775]?) && true) then (
                    let v1776 : Int := (iv [.v (.int .i64 a4), .v (.int .i64 a5), .v (.int .i64 a6)][v1775]?)
                    bif (ok_vec_product F v1774 v1776) then (
                      let v1777 : Int := (o_vec_product_0 F v1774 v1776)
                      let v1778 : Int := (o_vec_product_1 F v1774 v1776)
                      bif (ok_wide_Neg F v1777 v1778) then (
                        let v1779 : Int := (o_wide_Neg_0 F v1777 v1778)
                        let v1780 : Int := (o_wide_Neg_1 F v1777 v1778)
                        bif (ok_wide_Add F v1771 v1772 v1779 v1780) then (
                          let v1781 : Int := (o_wide_Add_0 F v1771 v1772 v1779 v1780)
                          let v1782 : Int := (o_wide_Add_1 F v1771 v1772 v1779 v1780)
                          bif (ok_vec_clip F v1781 v1782) then (
                            some (.v (.tuple #[.int .i64 ((o_vec_clip_0 F v1781 v1782)), .bool ((o_vec_clip_1 F v1781 v1782))])))
                          else (
                            none))
                        else (
                          none))
                      else (
                        none))
                    else (
                      none))
                  else (
                    none))
                else (
                  none))
              else (
                none))
            else (
              none))
          else (
            none))
        else (
          none))
      else (
        none))
    else (
      none))
  else (
    none) : R) := by
    intros
    kernel_rfl
  exact (h ok_vec_product o_vec_product_0 o_vec_product_1 ok_wide_Neg o_wide_Neg_0 o_wide_Neg_1 ok_wide_Add o_wide_Add_0 o_wide_Add_1 ok_vec_clip o_vec_clip_0 o_vec_clip_1).trans (by kernel_rfl)
def ok_vec_Cross_1 (F : Nat) (a0 : Int) (a1 : Int) (a2 : Int) (a3 : Int) (a4 : Int) (a5 : Int) (a6 : Int) : Bool := okT to_vec_Cross_1 (f_vec_Cross_1 F a0 a1 a2 a3 a4 a5 a6)
def o_vec_Cross_1_0 (F : Nat) (a0 : Int) (a1 : Int) (a2 : Int) (a3 : Int) (a4 : Int) (a5 : Int) (a6 : Int) : Int := atI (nth (outT to_vec_Cross_1 (f_vec_Cross_1 F a0 a1 a2 a3 a4 a5 a6)) 0)
def o_vec_Cross_1_1 (F : Nat) (a0 : Int) (a1 : Int) (a2 : Int) (a3 : Int) (a4 : Int) (a5 : Int) (a6 : Int) : Bool := atB (nth (outT to_vec_Cross_1 (f_vec_Cross_1 F a0 a1 a2 a3 a4 a5 a6)) 1)
theorem k_vec_Cross_1 (F : Nat) (a0 : Int) (a1 : Int) (a2 : Int) (a3 : Int) (a4 : Int) (a5 : Int) (a6 : Int) {z0 : Int} {z1 : Bool} (h : f_vec_Cross_1 F a0 a1 a2 a3 a4 a5 a6 = some (.v (.tuple #[.int .i64 z0, .bool z1]))) : ok_vec_Cross_1 F a0 a1 a2 a3 a4 a5 a6 = true ∧ o_vec_Cross_1_0 F a0 a1 a2 a3 a4 a5 a6 = z0 ∧ o_vec_Cross_1_1 F a0 a1 a2 a3 a4 a5 a6 = z1 := by
  refine ⟨?_, ?_, ?_⟩
  · unfold ok_vec_Cross_1; rw [h]; kernel_rfl
  · unfold o_vec_Cross_1_0; rw [h]; kernel_rfl
  · unfold o_vec_Cross_1_1; rw [h]; kernel_rfl
def s_vec_Cross_1 (F : Nat) : List VV → Option (Bool × VV) := spec ti_vec_Cross_1 to_vec_Cross_1 (fun q => (ok_vec_Cross_1 F (atI (nth q 0)) (atI (nth q 1)) (atI (nth q 2)) (atI (nth q 3)) (atI (nth q 4)) (atI (nth q 5)) (atI (nth q 6)))) (fun q => [.i (o_vec_Cross_1_0 F (atI (nth q 0)) (atI (nth q 1)) (atI (nth q 2)) (atI (nth q 3)) (atI (nth q 4)) (atI (nth q 5)) (atI (nth q 6))), .b (o_vec_Cross_1_1 F (atI (nth q 0)) (atI (nth q 1)) (atI (nth q 2)) (atI (nth q 3)) (atI (nth q 4)) (atI (nth q 5)) (atI (nth q 6)))])
theorem hS_vec_Cross_1 (F : Nat) : ∀ f, Good PP f (unS (S_vec_Cross_1 F f)) := words_good fun p hp => by
  simp only [List.mem_cons, List.not_mem_nil, or_false] at hp
  rcases hp with rfl | rfl | rfl | rfl
  · exact g_vec_product F
  · exact g_wide_Neg F
  · exact g_wide_Add F
  · exact g_vec_clip F
theorem hl_vec_Cross_1 (F : Nat) : ∀ p ∈ loopsIn PP 97, LoopOK PP (S_vec_Cross_1 F) c_vec_Cross_1 F (I_vec_Cross_1 F) (J_vec_Cross_1 F) p :=
  loops_of [] (by kernel_rfl) all_nil
theorem hj_vec_Cross_1 (F : Nat) : ∀ p ∈ joinsIn PP c_vec_Cross_1 97, JoinOK PP (S_vec_Cross_1 F) c_vec_Cross_1 (I_vec_Cross_1 F) (J_vec_Cross_1 F) p :=
  joins_of [] (by kernel_rfl) all_nil
theorem g_vec_Cross_1 (F : Nat) : Good PP 97 (unS (s_vec_Cross_1 F)) :=
  fun_spec (hS_vec_Cross_1 F) (by kernel_rfl) (by kernel_rfl) (C := c_vec_Cross_1) (F := fun q => (f_vec_Cross_1 F (atI (nth q 0)) (atI (nth q 1)) (atI (nth q 2)) (atI (nth q 3)) (atI (nth q 4)) (atI (nth q 5)) (atI (nth q 6)))) (fun _ => F) (fun _ => I_vec_Cross_1 F) (fun _ => J_vec_Cross_1 F) (fun _ => hl_vec_Cross_1 F) (fun _ => hj_vec_Cross_1 F)
    (fun q => (congrArg (funL PP (S_vec_Cross_1 F) c_vec_Cross_1 (I_vec_Cross_1 F) (J_vec_Cross_1 F) 97) (show (fTs ti_vec_Cross_1 q).1 = (fTs ti_vec_Cross_1 [.i (atI (nth q 0)), .i (atI (nth q 1)), .i (atI (nth q 2)), .i (atI (nth q 3)), .i (atI (nth q 4)), .i (atI (nth q 5)), .i (atI (nth q 6))]).1 by kernel_rfl)).trans (e_vec_Cross_1 F (atI (nth q 0)) (atI (nth q 1)) (atI (nth q 2)) (atI (nth q 3)) (atI (nth q 4)) (atI (nth q 5)) (atI (nth q 6))))
    (fun _ h => (okT_fill h).trans (congrArg some (by kernel_rfl)))

end Go.Xv
set_option linter.unusedVariables false
namespace Go.Xv
/- 90 _vec_eachv1 -/
def c_vec_eachv1 : Cfg := ⟨[0, 2, 3, 4, 5, 6, 7, 8, 9, 10], [(0, [0, 2, 3, 4, 5, 9, 26, 27])], [], []⟩
def ti_vec_eachv1 : List TV := [.fn 97 [.fpx [.v (.int .i64), .v (.int .i64), .v (.int .i64)] (.lit 0), .fpx [.v (.int .i64), .v (.int .i64), .v (.int .i64)] (.lit 0)]]
def to_vec_eachv1 : TV := .v (.tup [.agg [.int .i64, .int .i64, .int .i64], .bool])
def S_vec_eachv1 (F : Nat) : FuncId → List VV → Option (Bool × VV) := words [(97, s_vec_Cross_1 F)]
def T_vec_eachv1_0 : TS := ⟨[(0, .fn 97 [.fpx [.v (.int .i64), .v (.int .i64), .v (.int .i64)] (.lit 0), .fpx [.v (.int .i64), .v (.int .i64), .v (.int .i64)] (.lit 0)]), (2, .lp 0 (.lit 0)), (3, .v (.bool)), (4, .lp 1 (.lit 0)), (5, .v (.bool)), (9, .v (.int .i64))], [(0, ⟨(.ex [.v (.int .i64), .v (.int .i64), .v (.int .i64)]), true⟩), (1, ⟨.hole, true⟩)], 2⟩
def T_vec_eachv1_0_0 : TS := ⟨[(0, .fn 97 [.fpx [.v (.int .i64), .v (.int .i64), .v (.int .i64)] (.lit 0), .fpx [.v (.int .i64), .v (.int .i64), .v (.int .i64)] (.lit 0)]), (2, .lp 0 (.lit 0)), (3, .v (.bool)), (4, .lp 1 (.lit 0)), (5, .v (.bool)), (9, .v (.int .i64))], [(0, ⟨(.ex [.v (.int .i64), .v (.int .i64), .v (.int .i64)]), true⟩), (1, ⟨.hole, true⟩)], 2⟩
def B_vec_eachv1_0 (F : Nat) (rc : Int → Int → Int → Int → Int → Int → Bool → Bool → Int → Int → Int → Int → List VV → R) (ex0 : Int → Int → Int → Int → Int → Int → Bool → Bool → Int → Int → Int → Int → List VV → R) (x0 : Int) (x1 : Int) (x2 : Int) (x3 : Int) (x4 : Int) (x5 : Int) (x6 : Bool) (x7 : Bool) (x8 : Int) (x9 : Int) (x10 : Int) (x11 : Int) (x12 : List VV) : R :=
  bif ((decide (x8 < 3))) then (
    bif (ok_vec_Cross_1 F x8 x0 x1 x2 x3 x4 x5) then (
      let v1785 : Int := (o_vec_Cross_1_0 F x8 x0 x1 x2 x3 x4 x5)
      bif x7 then (
        bif ((decide (0 ≤ x8)) && (decide (x8 < 3))) then (
          let v1787 : Nat := (0 + ((Int.toNat x8) * 1))
          bif (decide ((v1787 + 1) ≤ x12.length)) then (
            rc x0 x1 x2 x3 x4 x5 x6 true ((IntKind.wrap .i64 (x8 + 1))) x9 x10 x11 ((x12.take v1787 ++ [.v (.int .i64 v1785)] ++ x12.drop (v1787 + 1))))
          else (
            none))
        else (
          none))
      else (
        bif ((decide (0 ≤ x8)) && (decide (x8 < 3))) then (
          let v1790 : Nat := (0 + ((Int.toNat x8) * 1))
          bif (decide ((v1790 + 1) ≤ x12.length)) then (
            rc x0 x1 x2 x3 x4 x5 x6 ((o_vec_Cross_1_1 F x8 x0 x1 x2 x3 x4 x5)) ((IntKind.wrap .i64 (x8 + 1))) x9 x10 x11 ((x12.take v1790 ++ [.v (.int .i64 v1785)] ++ x12.drop (v1790 + 1))))
          else (
            none))
        else (
          none)))
    else (
      none))
  else (
    ex0 x0 x1 x2 x3 x4 x5 x6 x7 x8 x9 x10 x11 x12)
def L_vec_eachv1_0 (F : Nat) (ex0 : Int → Int → Int → Int → Int → Int → Bool → Bool → Int → Int → Int → Int → List VV → R) : Nat → Int → Int → Int → Int → Int → Int → Bool → Bool → Int → Int → Int → Int → List VV → R
  | 0, _, _, _, _, _, _, _, _, _, _, _, _, _ => none
  | n + 1, x0, x1, x2, x3, x4, x5, x6, x7, x8, x9, x10, x11, x12 => B_vec_eachv1_0 F (L_vec_eachv1_0 F ex0 n) ex0 x0 x1 x2 x3 x4 x5 x6 x7 x8 x9 x10 x11 x12
def W_vec_eachv1 (F : Nat) : List LW := [⟨0, T_vec_eachv1_0, fun k q => L_vec_eachv1_0 F (fun (z0 : Int) (z1 : Int) (z2 : Int) (z3 : Int) (z4 : Int) (z5 : Int) (z6 : Bool) (z7 : Bool) (z8 : Int) (z9 : Int) (z10 : Int) (z11 : Int) (z12 : List VV) => k (.exit 0) (fS T_vec_eachv1_0_0 [.i z0, .i z1, .i z2, .i z3, .i z4, .i z5, .b z6, .b z7, .i z8, .i z9, .i z10, .i z11, .c z12])) F (atI (nth q 0)) (atI (nth q 1)) (atI (nth q 2)) (atI (nth q 3)) (atI (nth q 4)) (atI (nth q 5)) (atB (nth q 6)) (atB (nth q 7)) (atI (nth q 8)) (atI (nth q 9)) (atI (nth q 10)) (atI (nth q 11)) (atC (nth q 12))⟩]
def I_vec_eachv1 (F : Nat) : Nat → VS → (Exit → VS → R) → R := tabI c_vec_eachv1 (W_vec_eachv1 F)
def WJ_vec_eachv1 (F : Nat) : List LJ := []
def J_vec_eachv1 (F : Nat) : Nat → Nat → VS → (Exit → VS → R) → R := tabJ (WJ_vec_eachv1 F)
theorem lL_vec_eachv1_0 (F : Nat) (k : Exit → VS → R) : ∀ (n : Nat) (x0 : Int) (x1 : Int) (x2 : Int) (x3 : Int) (x4 : Int) (x5 : Int) (x6 : Bool) (x7 : Bool) (x8 : Int) (x9 : Int) (x10 : Int) (x11 : Int) (x12 : List VV), iterC (codeL PP (S_vec_eachv1 F) c_vec_eachv1 (I_vec_eachv1 F) (J_vec_eachv1 F) (loopAt PP 90 0) 0) (headOf c_vec_eachv1 0) k n (fS T_vec_eachv1_0 [.i x0, .i x1, .i x2, .i x3, .i x4, .i x5, .b x6, .b x7, .i x8, .i x9, .i x10, .i x11, .c x12]) = L_vec_eachv1_0 F (fun (z0 : Int) (z1 : Int) (z2 : Int) (z3 : Int) (z4 : Int) (z5 : Int) (z6 : Bool) (z7 : Bool) (z8 : Int) (z9 : Int) (z10 : Int) (z11 : Int) (z12 : List VV) => k (.exit 0) (fS T_vec_eachv1_0_0 [.i z0, .i z1, .i z2, .i z3, .i z4, .i z5, .b z6, .b z7, .i z8, .i z9, .i z10, .i z11, .c z12])) n x0 x1 x2 x3 x4 x5 x6 x7 x8 x9 x10 x11 x12
  | 0, _, _, _, _, _, _, _, _, _, _, _, _, _ => rfl
  | n + 1, x0, x1, x2, x3, x4, x5, x6, x7, x8, x9, x10, x11, x12 => by
    have h0 : ∀ (ok_vec_Cross_1 : Nat → Int → Int → Int → Int → Int → Int → Int → Bool) (o_vec_Cross_1_0 : Nat → Int → Int → Int → Int → Int → Int → Int → Int) (o_vec_Cross_1_1 : Nat → Int → Int → Int → Int → Int → Int → Int → Bool) (L_vec_eachv1_0 : Nat → (Int → Int → Int → Int → Int → Int → Bool → Bool → Int → Int → Int → Int → List VV → R) → Nat → Int → Int → Int → Int → Int → Int → Bool → Bool → Int → Int → Int → Int → List VV → R), iterC (codeL PP (words [(97, spec ti_vec_Cross_1 to_vec_Cross_1 (fun q => (ok_vec_Cross_1 F (atI (nth q 0)) (atI (nth q 1)) (atI (nth q 2)) (atI (nth q 3)) (atI (nth q 4)) (atI (nth q 5)) (atI (nth q 6)))) (fun q => [.i (o_vec_Cross_1_0 F (atI (nth q 0)) (atI (nth q 1)) (atI (nth q 2)) (atI (nth q 3)) (atI (nth q 4)) (atI (nth q 5)) (atI (nth q 6))), .b (o_vec_Cross_1_1 F (atI (nth q 0)) (atI (nth q 1)) (atI (nth q 2)) (atI (nth q 3)) (atI (nth q 4)) (atI (nth q 5)) (atI (nth q 6)))]))]) c_vec_eachv1 (tabI c_vec_eachv1 [⟨0, T_vec_eachv1_0, fun k q => L_vec_eachv1_0 F (fun (z0 : Int) (z1 : Int) (z2 : Int) (z3 : Int) (z4 : Int) (z5 : Int) (z6 : Bool) (z7 : Bool) (z8 : Int) (z9 : Int) (z10 : Int) (z11 : Int) (z12 : List VV) => k (.exit 0) (fS T_vec_eachv1_0_0 [.i z0, .i z1, .i z2, .i z3, .i z4, .i z5, .b z6, .b z7, .i z8, .i z9, .i z10, .i z11, .c z12])) F (atI (nth q 0)) (atI (nth q 1)) (atI (nth q 2)) (atI (nth q 3)) (atI (nth q 4)) (atI (nth q 5)) (atB (nth q 6)) (atB (nth q 7)) (atI (nth q 8)) (atI (nth q 9)) (atI (nth q 10)) (atI (nth q 11)) (atC (nth q 12))⟩]) (tabJ []) (loopAt PP 90 0) 0) (headOf c_vec_eachv1 0) k (n + 1) (fS T_vec_eachv1_0 [.i x0, .i x1, .i x2, .i x3, .i x4, .i x5, .b x6, .b x7, .i x8, .i x9, .i x10, .i x11, .c x12]) = (fun (rc : Int → Int → Int → Int → Int → Int → Bool → Bool → Int → Int → Int → Int → List VV → R) (ex0 : Int → Int → Int → Int → Int → Int → Bool → Bool → Int → Int → Int → Int → List VV → R) (x0 : Int) (x1 : Int) (x2 : Int) (x3 : Int) (x4 : Int) (x5 : Int) (x6 : Bool) (x7 : Bool) (x8 : Int) (x9 : Int) (x10 : Int) (x11 : Int) (x12 : List VV) => (
  bif ((decide (x8 < 3))) then (
    bif (ok_vec_Cross_1 F x8 x0 x1 x2 x3 x4 x5) then (
      let v1785 : Int := (o_vec_Cross_1_0 F x8 x0 x1 x2 x3 x4 x5)
      bif x7 then (
        bif ((decide (0 ≤ x8)) && (decide (x8 < 3))) then (
          let v1787 : Nat := (0 + ((Int.toNat x8) * 1))
          bif (decide ((v1787 + 1) ≤ x12.length)) then (
            rc x0 x1 x2 x3 x4 x5 x6 true ((IntKind.wrap .i64 (x8 + 1))) x9 x10 x11 ((x12.take v1787 ++ [.v (.int .i64 v1785)] ++ x12.drop (v1787 + 1))))
          else (
            none))
        else (
          none))
      else (
        bif ((decide (0 ≤ x8)) && (decide (x8 < 3))) then (
          let v1790 : Nat := (0 + ((Int.toNat x8) * 1))
          bif (decide ((v1790 + 1) ≤ x12.length)) then (
            rc x0 x1 x2 x3 x4 x5 x6 ((o_vec_Cross_1_1 F x8 x0 x1 x2 x3 x4 x5)) ((IntKind.wrap .i64 (x8 + 1))) x9 x10 x11 ((x12.take v1790 ++ [.v (.int .i64 v1785)] ++ x12.drop (v1790 + 1))))
          else (
            none))
        else (
          none)))
    else (
      none))
  else (
    ex0 x0 x1 x2 x3 x4 x5 x6 x7 x8 x9 x10 x11 x12) : R)) (fun (y0 : Int) (y1 : Int) (y2 : Int) (y3 : Int) (y4 : Int) (y5 : Int) (y6 : Bool) (y7 : Bool) (y8 : Int) (y9 : Int) (y10 : Int) (y11 : Int) (y12 : List VV) => iterC (codeL PP (words [(97, spec ti_vec_Cross_1 to_vec_Cross_1 (fun q => (ok_vec_Cross_1 F (atI (nth q 0)) (atI (nth q 1)) (atI (nth q 2)) (atI (nth q 3)) (atI (nth q 4)) (atI (nth q 5)) (atI (nth q 6)))) (fun q => [.i (o_vec_Cross_1_0 F (atI (nth q 0)) (atI (nth q 1)) (atI (nth q 2)) (atI (nth q 3)) (atI (nth q 4)) (atI (nth q 5)) (atI (nth q 6))), .b (o_vec_Cross_1_1 F (atI (nth q 0)) (atI (nth q 1)) (atI (nth q 2)) (atI (nth q 3)) (atI (nth q 4)) (atI (nth q 5)) (atI (nth q 6)))]))]) c_vec_eachv1 (tabI c_vec_eachv1 [⟨0, T_vec_eachv1_0, fun k q => L_vec_eachv1_0 F (fun (z0 : Int) (z1 : Int) (z2 : Int) (z3 : Int) (z4 : Int) (z5 : Int) (z6 : Bool) (z7 : Bool) (z8 : Int) (z9 : Int) (z10 : Int) (z11 : Int) (z12 : List VV) => k (.exit 0) (fS T_vec_eachv1_0_0 [.i z0, .i z1, .i z2, .i z3, .i z4, .i z5, .b z6, .b z7, .i z8, .i z9, .i z10, .i z11, .c z12])) F (atI (nth q 0)) (atI (nth q 1)) (atI (nth q 2)) (atI (nth q 3)) (atI (nth q 4)) (atI (nth q 5)) (atB (nth q 6)) (atB (nth q 7)) (atI (nth q 8)) (atI (nth q 9)) (atI (nth q 10)) (atI (nth q 11)) (atC (nth q 12))⟩]) (tabJ []) (loopAt PP 90 0) 0) (headOf c_vec_eachv1 0) k n (fS T_vec_eachv1_0 [.i y0, .i y1, .i y2, .i y3, .i y4, .i y5, .b y6, .b y7, .i y8, .i y9, .i y10, .i y11, .c y12])) (fun (z0 : Int) (z1 : Int) (z2 : Int) (z3 : Int) (z4 : Int) (z5 : Int) (z6 : Bool) (z7 : Bool) (z8 : Int) (z9 : Int) (z10 : Int) (z11 : Int) (z12 : List VV) => k (.exit 0) (fS T_vec_eachv1_0_0 [.i z0, .i z1, .i z2, .i z3, .i z4, .i z5, .b z6, .b z7, .i z8, .i z9, .i z10, .i z11, .c z12])) x0 x1 x2 x3 x4 x5 x6 x7 x8 x9 x10 x11 x12 := by
      intros
      kernel_rfl
    have h : iterC (codeL PP (S_vec_eachv1 F) c_vec_eachv1 (I_vec_eachv1 F) (J_vec_eachv1 F) (loopAt PP 90 0) 0) (headOf c_vec_eachv1 0) k (n + 1) (fS T_vec_eachv1_0 [.i x0, .i x1, .i x2, .i x3, .i x4, .i x5, .b x6, .b x7, .i x8, .i x9, .i x10, .i x11, .c x12]) = B_vec_eachv1_0 F (fun (y0 : Int) (y1 : Int) (y2 : Int) (y3 : Int) (y4 : Int) (y5 : Int) (y6 : Bool) (y7 : Bool) (y8 : Int) (y9 : Int) (y10 : Int) (y11 : Int) (y12 : List VV) => iterC (codeL PP (S_vec_eachv1 F) c_vec_eachv1 (I_vec_eachv1 F) (J_vec_eachv1 F) (loopAt PP 90 0) 0) (headOf c_vec_eachv1 0) k n (fS T_vec_eachv1_0 [.i y0, .i y1, .i y2, .i y3, .i y4, .i y5, .b y6, .b y7, .i y8, .i y9, .i y10, .i y11, .c y12])) (fun (z0 : Int) (z1 : Int) (z2 : Int) (z3 : Int) (z4 : Int) (z5 : Int) (z6 : Bool) (z7 : Bool) (z8 : Int) (z9 : Int) (z10 : Int) (z11 : Int) (z12 : List VV) => k (.exit 0) (fS T_vec_eachv1_0_0 [.i z0, .i z1, .i z2, .i z3, .i z4, .i z5, .b z6, .b z7, .i z8, .i z9, .i z10, .i z11, .c z12])) x0 x1 x2 x3 x4 x5 x6 x7 x8 x9 x10 x11 x12 := (h0 ok_vec_Cross_1 o_vec_Cross_1_0 o_vec_Cross_1_1 L_vec_eachv1_0).trans (by kernel_rfl)
    rw [h]
    simp only [lL_vec_eachv1_0 F k n]
    rfl
def f_vec_eachv1 (F : Nat) (a0 : Int) (a1 : Int) (a2 : Int) (a3 : Int) (a4 : Int) (a5 : Int) : R :=
  L_vec_eachv1_0 F (fun (v1793 : Int) (v1794 : Int) (v1795 : Int) (v1796 : Int) (v1797 : Int) (v1798 : Int) (v1799 : Bool) (v1800 : Bool) (v1801 : Int) (v1802 : Int) (v1803 : Int) (v1804 : Int) (v1805 : List VV) =>
    bif ((isI .i64 v1805[0]?) && ((isI .i64 v1805[1]?) && ((isI .i64 v1805[2]?) && true))) then (
      some (.v (.tuple #[.agg #[.int .i64 ((iv v1805[0]?)), .int .i64 ((iv v1805[1]?)), .int .i64 ((iv v1805[2]?))], .bool v1800])))
    else (
      none)) F a0 a1 a2 a3 a4 a5 false false 0 0 0 0 ([.v (.int .i64 0), .v (.int .i64 0), .v (.int .i64 0)])
theorem e_vec_eachv1 (F : Nat) (a0 : Int) (a1 : Int) (a2 : Int) (a3 : Int) (a4 : Int) (a5 : Int) : funL PP (S_vec_eachv1 F) c_vec_eachv1 (I_vec_eachv1 F) (J_vec_eachv1 F) 90 (fTs ti_vec_eachv1 [.i a0, .i a1, .i a2, .i a3, .i a4, .i a5]).1 = f_vec_eachv1 F a0 a1 a2 a3 a4 a5 := by
  have h : ∀ (ok_vec_Cross_1 : Nat → Int → Int → Int → Int → Int → Int → Int → Bool) (o_vec_Cross_1_0 : Nat → Int → Int → Int → Int → Int → Int → Int → Int) (o_vec_Cross_1_1 : Nat → Int → Int → Int → Int → Int → Int → Int → Bool) (L_vec_eachv1_0 : Nat → (Int → Int → Int → Int → Int → Int → Bool → Bool → Int → Int → Int → Int → List VV → R) → Nat → Int → Int → Int → Int → Int → Int → Bool → Bool → Int → Int → Int → Int → List VV → R), funL PP (words [(97, spec ti_vec_Cross_1 to_vec_Cross_1 (fun q => (ok_vec_Cross_1 F (atI (nth q 0)) (atI (nth q 1)) (atI (nth q 2)) (atI (nth q 3)) (atI (nth q 4)) (atI (nth q 5)) (atI (nth q 6)))) (fun q => [.i (o_vec_Cross_1_0 F (atI (nth q 0)) (atI (nth q 1)) (atI (nth q 2)) (atI (nth q 3)) (atI (nth q 4)) (atI (nth q 5)) (atI (nth q 6))), .b (o_vec_Cross_1_1 F (atI (nth q 0)) (atI (nth q 1)) (atI (nth q 2)) (atI (nth q 3)) (atI (nth q 4)) (atI (nth q 5)) (atI (nth q 6)))]))]) c_vec_eachv1 (tabI c_vec_eachv1 [⟨0, T_vec_eachv1_0, fun k q => L_vec_eachv1_0 F (fun (z0 : Int) (z1 : Int) (z2 : Int) (z3 : Int) (z4 : Int) (z5 : Int) (z6 : Bool) (z7 : Bool) (z8 : Int) (z9 : Int) (z10 : Int) (z11 : Int) (z12 : List VV) => k (.exit 0) (fS T_vec_eachv1_0_0 [.i z0, .i z1, .i z2, .i z3, .i z4, .i z5, .b z6, .b z7, .i z8, .i z9, .i z10, .i z11, .c z12])) F (atI (nth q 0)) (atI (nth q 1)) (atI (nth q 2)) (atI (nth q 3)) (atI (nth q 4)) (atI (nth q 5)) (atB (nth q 6)) (atB (nth q 7)) (atI (nth q 8)) (atI (nth q 9)) (atI (nth q 10)) (atI (nth q 11)) (atC (nth q 12))⟩]) (tabJ []) 90 (fTs ti_vec_eachv1 [.i a0, .i a1, .i a2, .i a3, .i a4, .i a5]).1 = (
  L_vec_eachv1_0 F (fun (v1793 : Int) (v1794 : Int) (v1795 : Int) (v1796 : Int) (v1797 : Int) (v1798 : Int) (v1799 : Bool) (v1800 : Bool) (v1801 : Int) (v1802 : Int) (v1803 : Int) (v1804 : Int) (v1805 : List VV) =>
    bif ((isI .i64 v1805[0]?) && ((isI .i64 v1805[1]?) && ((isI .i64 v1805[2]?) && true))) then (
      some (.v (.tuple #[.agg #[.int .i64 ((iv v1805[0]?)), .int .i64 ((iv v1805[1]?)), .int .i64 ((iv v1805[2]?))], .bool v1800])))
    else (
      none)) F a0 a1 a2 a3 a4 a5 false false 0 0 0 0 ([.v (.int .i64 0), .v (.int .i64 0), .v (.int .i64 0)]) : R) := by
    intros
    kernel_rfl
  exact (h ok_vec_Cross_1 o_vec_Cross_1_0 o_vec_Cross_1_1 L_vec_eachv1_0).trans (by kernel_rfl)
def ok_vec_eachv1 (F : Nat) (a0 : Int) (a1 : Int) (a2 : Int) (a3 : Int) (a4 : Int) (a5 : Int) : Bool := okT to_vec_eachv1 (f_vec_eachv1 F a0 a1 a2 a3 a4 a5)
def o_vec_eachv1_0 (F : Nat) (a0 : Int) (a1 : Int) (a2 : Int) (a3 : Int) (a4 : Int) (a5 : Int) : Int := atI (nth (outT to_vec_eachv1 (f_vec_eachv1 F a0 a1 a2 a3 a4 a5)) 0)
def o_vec_eachv1_1 (F : Nat) (a0 : Int) (a1 : Int) (a2 : Int) (a3 : Int) (a4 : Int) (a5 : Int) : Int := atI (nth (outT to_vec_eachv1 (f_vec_eachv1 F a0 a1 a2 a3 a4 a5)) 1)
def o_vec_eachv1_2 (F : Nat) (a0 : Int) (a1 : Int) (a2 : Int) (a3 : Int) (a4 : Int) (a5 : Int) : Int := atI (nth (outT to_vec_eachv1 (f_vec_eachv1 F a0 a1 a2 a3 a4 a5)) 2)
def o_vec_eachv1_3 (F : Nat) (a0 : Int) (a1 : Int) (a2 : Int) (a3 : Int) (a4 : Int) (a5 : Int) : Bool := atB (nth (outT to_vec_eachv1 (f_vec_eachv1 F a0 a1 a2 a3 a4 a5)) 3)
theorem k_vec_eachv1 (F : Nat) (a0 : Int) (a1 : Int) (a2 : Int) (a3 : Int) (a4 : Int) (a5 : Int) {z0 : Int} {z1 : Int} {z2 : Int} {z3 : Bool} (h : f_vec_eachv1 F a0 a1 a2 a3 a4 a5 = some (.v (.tuple #[.agg #[.int .i64 z0, .int .i64 z1, .int .i64 z2], .bool z3]))) : ok_vec_eachv1 F a0 a1 a2 a3 a4 a5 = true ∧ o_vec_eachv1_0 F a0 a1 a2 a3 a4 a5 = z0 ∧ o_vec_eachv1_1 F a0 a1 a2 a3 a4 a5 = z1 ∧ o_vec_eachv1_2 F a0 a1 a2 a3 a4 a5 = z2 ∧ o_vec_eachv1_3 F a0 a1 a2 a3 a4 a5 = z3 := by
  refine ⟨?_, ?_, ?_, ?_, ?_⟩
  · unfold ok_vec_eachv1; rw [h]; kernel_rfl
  · unfold o_vec_eachv1_0; rw [h]; kernel_rfl
  · unfold o_vec_eachv1_1; rw [h]; kernel_rfl
  · unfold o_vec_eachv1_2; rw [h]; kernel_rfl
  · unfold o_vec_eachv1_3; rw [h]; kernel_rfl
def s_vec_eachv1 (F : Nat) : List VV → Option (Bool × VV) := spec ti_vec_eachv1 to_vec_eachv1 (fun q => (ok_vec_eachv1 F (atI (nth q 0)) (atI (nth q 1)) (atI (nth q 2)) (atI (nth q 3)) (atI (nth q 4)) (atI (nth q 5)))) (fun q => [.i (o_vec_eachv1_0 F (atI (nth q 0)) (atI (nth q 1)) (atI (nth q 2)) (atI (nth q 3)) (atI (nth q 4)) (atI (nth q 5))), .i (o_vec_eachv1_1 F (atI (nth q 0)) (atI (nth q 1)) (atI (nth q 2)) (atI (nth q 3)) (atI (nth q 4)) (atI (nth q 5))), .i (o_vec_eachv1_2 F (atI (nth q 0)) (atI (nth q 1)) (atI (nth q 2)) (atI (nth q 3)) (atI (nth q 4)) (atI (nth q 5))), .b (o_vec_eachv1_3 F (atI (nth q 0)) (atI (nth q 1)) (atI (nth q 2)) (atI (nth q 3)) (atI (nth q 4)) (atI (nth q 5)))])
theorem hS_vec_eachv1 (F : Nat) : ∀ f, Good PP f (unS (S_vec_eachv1 F f)) := words_good fun p hp => by
  simp only [List.mem_cons, List.not_mem_nil, or_false] at hp
  rcases hp with rfl
  · exact g_vec_Cross_1 F
theorem hl_vec_eachv1 (F : Nat) : ∀ p ∈ loopsIn PP 90, LoopOK PP (S_vec_eachv1 F) c_vec_eachv1 F (I_vec_eachv1 F) (J_vec_eachv1 F) p :=
  loops_of [(0, loopAt PP 90 0)] (by kernel_rfl) (all_cons
    (loop_ok (W_vec_eachv1 F) rfl (tab_cons (fun _ k q => Le.ofEq ((lL_vec_eachv1_0 F k F (atI (nth q 0)) (atI (nth q 1)) (atI (nth q 2)) (atI (nth q 3)) (atI (nth q 4)) (atI (nth q 5)) (atB (nth q 6)) (atB (nth q 7)) (atI (nth q 8)) (atI (nth q 9)) (atI (nth q 10)) (atI (nth q 11)) (atC (nth q 12))).symm.trans (congrArg (iterC (codeL PP (S_vec_eachv1 F) c_vec_eachv1 (I_vec_eachv1 F) (J_vec_eachv1 F) (loopAt PP 90 0) 0) (headOf c_vec_eachv1 0) k F) (show fS T_vec_eachv1_0 [.i (atI (nth q 0)), .i (atI (nth q 1)), .i (atI (nth q 2)), .i (atI (nth q 3)), .i (atI (nth q 4)), .i (atI (nth q 5)), .b (atB (nth q 6)), .b (atB (nth q 7)), .i (atI (nth q 8)), .i (atI (nth q 9)), .i (atI (nth q 10)), .i (atI (nth q 11)), .c (atC (nth q 12))] = fS T_vec_eachv1_0 q by kernel_rfl)))) tab_nil)) all_nil)
theorem hj_vec_eachv1 (F : Nat) : ∀ p ∈ joinsIn PP c_vec_eachv1 90, JoinOK PP (S_vec_eachv1 F) c_vec_eachv1 (I_vec_eachv1 F) (J_vec_eachv1 F) p :=
  joins_of [] (by kernel_rfl) all_nil
theorem g_vec_eachv1 (F : Nat) : Good PP 90 (unS (s_vec_eachv1 F)) :=
  fun_spec (hS_vec_eachv1 F) (by kernel_rfl) (by kernel_rfl) (C := c_vec_eachv1) (F := fun q => (f_vec_eachv1 F (atI (nth q 0)) (atI (nth q 1)) (atI (nth q 2)) (atI (nth q 3)) (atI (nth q 4)) (atI (nth q 5)))) (fun _ => F) (fun _ => I_vec_eachv1 F) (fun _ => J_vec_eachv1 F) (fun _ => hl_vec_eachv1 F) (fun _ => hj_vec_eachv1 F)
    (fun q => (congrArg (funL PP (S_vec_eachv1 F) c_vec_eachv1 (I_vec_eachv1 F) (J_vec_eachv1 F) 90) (show (fTs ti_vec_eachv1 q).1 = (fTs ti_vec_eachv1 [.i (atI (nth q 0)), .i (atI (nth q 1)), .i (atI (nth q 2)), .i (atI (nth q 3)), .i (atI (nth q 4)), .i (atI (nth q 5))]).1 by kernel_rfl)).trans (e_vec_eachv1 F (atI (nth q 0)) (atI (nth q 1)) (atI (nth q 2)) (atI (nth q 3)) (atI (nth q 4)) (atI (nth q 5))))
    (fun _ h => (okT_fill h).trans (congrArg some (by kernel_rfl)))

end Go.Xv
set_option linter.unusedVariables false
namespace Go.Xv
/- 49 _vec_Cross -/
def c_vec_Cross : Cfg := ⟨[0, 1, 2, 3, 4, 5], [], [], []⟩
def ti_vec_Cross : List TV := [.v (.agg [.int .i64, .int .i64, .int .i64]), .v (.agg [.int .i64, .int .i64, .int .i64])]
def to_vec_Cross : TV := .v (.tup [.agg [.int .i64, .int .i64, .int .i64], .bool])
def S_vec_Cross (F : Nat) : FuncId → List VV → Option (Bool × VV) := words [(90, s_vec_eachv1 F)]
def W_vec_Cross (F : Nat) : List LW := []
def I_vec_Cross (F : Nat) : Nat → VS → (Exit → VS → R) → R := tabI c_vec_Cross (W_vec_Cross F)
def WJ_vec_Cross (F : Nat) : List LJ := []
def J_vec_Cross (F : Nat) : Nat → Nat → VS → (Exit → VS → R) → R := tabJ (WJ_vec_Cross F)
def f_vec_Cross (F : Nat) (a0 : Int) (a1 : Int) (a2 : Int) (a3 : Int) (a4 : Int) (a5 : Int) : R :=
  bif (ok_vec_eachv1 F a0 a1 a2 a3 a4 a5) then (
    some (.v (.tuple #[.agg #[.int .i64 ((o_vec_eachv1_0 F a0 a1 a2 a3 a4 a5)), .int .i64 ((o_vec_eachv1_1 F a0 a1 a2 a3 a4 a5)), .int .i64 ((o_vec_eachv1_2 F a0 a1 a2 a3 a4 a5))], .bool ((o_vec_eachv1_3 F a0 a1 a2 a3 a4 a5))])))
  else (
    none)
theorem e_vec_Cross (F : Nat) (a0 : Int) (a1 : Int) (a2 : Int) (a3 : Int) (a4 : Int) (a5 : Int) : funL PP (S_vec_Cross F) c_vec_Cross (I_vec_Cross F) (J_vec_Cross F) 49 (fTs ti_vec_Cross [.i a0, .i a1, .i a2, .i a3, .i a4, .i a5]).1 = f_vec_Cross F a0 a1 a2 a3 a4 a5 := by
  have h : ∀ (ok_vec_eachv1 : Nat → Int → Int → Int → Int → Int → Int → Bool) (o_vec_eachv1_0 : Nat → Int → Int → Int → Int → Int → Int → Int) (o_vec_eachv1_1 : Nat → Int → Int → Int → Int → Int → Int → Int) (o_vec_eachv1_2 : Nat → Int → Int → Int → Int → Int → Int → Int) (o_vec_eachv1_3 : Nat → Int → Int → Int → Int → Int → Int → Bool), funL PP (words [(90, spec ti_vec_eachv1 to_vec_eachv1 (fun q => (ok_vec_eachv1 F (atI (nth q 0)) (atI (nth q 1)) (atI (nth q 2)) (atI (nth q 3)) (atI (nth q 4)) (atI (nth q 5)))) (fun q => [.i (o_vec_eachv1_0 F (atI (nth q 0)) (atI (nth q 1)) (atI (nth q 2)) (atI (nth q 3)) (atI (nth q 4)) (atI (nth q 5))), .i (o_vec_eachv1_1 F (atI (nth q 0)) (atI (nth q 1)) (atI (nth q 2)) (atI (nth q 3)) (atI (nth q 4)) (atI (nth q 5))), .i (o_vec_eachv1_2 F (atI (nth q 0)) (atI (nth q 1)) (atI (nth q 2)) (atI (nth q 3)) (atI (nth q 4)) (atI (nth q 5))), .b (o_vec_eachv1_3 F (atI (nth q 0)) (atI (nth q 1)) (atI (nth q 2)) (atI (nth q 3)) (atI (nth q 4)) (atI (nth q 5)))]))]) c_vec_Cross (tabI c_vec_Cross []) (tabJ []) 49 (fTs ti_vec_Cross [.i a0, .i a1, .i a2, .i a3, .i a4, .i a5]).1 = (
  bif (ok_vec_eachv1 F a0 a1 a2 a3 a4 a5) then (
    some (.v (.tuple #[.agg #[.int .i64 ((o_vec_eachv1_0 F a0 a1 a2 a3 a4 a5)), .int .i64 ((o_vec_eachv1_1 F a0 a1 a2 a3 a4 a5)), .int .i64 ((o_vec_eachv1_2 F a0 a1 a2 a3 a4 a5))], .bool ((o_vec_eachv1_3 F a0 a1 a2 a3 a4 a5))])))
  else (
    none) : R) := by
    intros
    kernel_rfl
  exact (h ok_vec_eachv1 o_vec_eachv1_0 o_vec_eachv1_1 o_vec_eachv1_2 o_vec_eachv1_3).trans (by kernel_rfl)
def ok_vec_Cross (F : Nat) (a0 : Int) (a1 : Int) (a2 : Int) (a3 : Int) (a4 : Int) (a5 : Int) : Bool := okT to_vec_Cross (f_vec_Cross F a0 a1 a2 a3 a4 a5)
def o_vec_Cross_0 (F : Nat) (a0 : Int) (a1 : Int) (a2 : Int) (a3 : Int) (a4 : Int) (a5 : Int) : Int := atI (nth (outT to_vec_Cross (f_vec_Cross F a0 a1 a2 a3 a4 a5)) 0)
def o_vec_Cross_1 (F : Nat) (a0 : Int) (a1 : Int) (a2 : Int) (a3 : Int) (a4 : Int) (a5 : Int) : Int := atI (nth (outT to_vec_Cross (f_vec_Cross F a0 a1 a2 a3 a4 a5)) 1)
def o_vec_Cross_2 (F : Nat) (a0 : Int) (a1 : Int) (a2 : Int) (a3 : Int) (a4 : Int) (a5 : Int) : Int := atI (nth (outT to_vec_Cross (f_vec_Cross F a0 a1 a2 a3 a4 a5)) 2)
def o_vec_Cross_3 (F : Nat) (a0 : Int) (a1 : Int) (a2 : Int) (a3 : Int) (a4 : Int) (a5 : Int) : Bool := atB (nth (outT to_vec_Cross (f_vec_Cross F a0 a1 a2 a3 a4 a5)) 3)
theorem k_vec_Cross (F : Nat) (a0 : Int) (a1 : Int) (a2 : Int) (a3 : Int) (a4 : Int) (a5 : Int) {z0 : Int} {z1 : Int} {z2 : Int} {z3 : Bool} (h : f_vec_Cross F a0 a1 a2 a3 a4 a5 = some (.v (.tuple #[.agg #[.int .i64 z0, .int .i64 z1, .int .i64 z2], .bool z3]))) : ok_vec_Cross F a0 a1 a2 a3 a4 a5 = true ∧ o_vec_Cross_0 F a0 a1 a2 a3 a4 a5 = z0 ∧ o_vec_Cross_1 F a0 a1 a2 a3 a4 a5 = z1 ∧ o_vec_Cross_2 F a0 a1 a2 a3 a4 a5 = z2 ∧ o_vec_Cross_3 F a0 a1 a2 a3 a4 a5 = z3 := by
  refine ⟨?_, ?_, ?_, ?_, ?_⟩
  · unfold ok_vec_Cross; rw [h]; kernel_rfl
  · unfold o_vec_Cross_0; rw [h]; kernel_rfl
  · unfold o_vec_Cross_1; rw [h]; kernel_rfl
  · unfold o_vec_Cross_2; rw [h]; kernel_rfl
  · unfold o_vec_Cross_3; rw [h]; kernel_rfl
def s_vec_Cross (F : Nat) : List VV → Option (Bool × VV) := spec ti_vec_Cross to_vec_Cross (fun q => (ok_vec_Cross F (atI (nth q 0)) (atI (nth q 1)) (atI (nth q 2)) (atI (nth q 3)) (atI (nth q 4)) (atI (nth q 5)))) (fun q => [.i (o_vec_Cross_0 F (atI (nth q 0)) (atI (nth q 1)) (atI (nth q 2)) (atI (nth q 3)) (atI (nth q 4)) (atI (nth q 5))), .i (o_vec_Cross_1 F (atI (nth q 0)) (atI (nth q 1)) (atI (nth q 2)) (atI (nth q 3)) (atI (nth q 4)) (atI (nth q 5))), .i (o_vec_Cross_2 F (atI (nth q 0)) (atI (nth q 1)) (atI (nth q 2)) (atI (nth q 3)) (atI (nth q 4)) (atI (nth q 5))), .b (o_vec_Cross_3 F (atI (nth q 0)) (atI (nth q 1)) (atI (nth q 2)) (atI (nth q 3)) (atI (nth q 4)) (atI (nth q 5)))])
theorem hS_vec_Cross (F : Nat) : ∀ f, Good PP f (unS (S_vec_Cross F f)) := words_good fun p hp => by
  simp only [List.mem_cons, List.not_mem_nil, or_false] at hp
  rcases hp with rfl
  · exact g_vec_eachv1 F
theorem hl_vec_Cross (F : Nat) : ∀ p ∈ loopsIn PP 49, LoopOK PP (S_vec_Cross F) c_vec_Cross F (I_vec_Cross F) (J_vec_Cross F) p :=
  loops_of [] (by kernel_rfl) all_nil
theorem hj_vec_Cross (F : Nat) : ∀ p ∈ joinsIn PP c_vec_Cross 49, JoinOK PP (S_vec_Cross F) c_vec_Cross (I_vec_Cross F) (J_vec_Cross F) p :=
  joins_of [] (by kernel_rfl) all_nil
theorem g_vec_Cross (F : Nat) : Good PP 49 (unS (s_vec_Cross F)) :=
  fun_spec (hS_vec_Cross F) (by kernel_rfl) (by kernel_rfl) (C := c_vec_Cross) (F := fun q => (f_vec_Cross F (atI (nth q 0)) (atI (nth q 1)) (atI (nth q 2)) (atI (nth q 3)) (atI (nth q 4)) (atI (nth q 5)))) (fun _ => F) (fun _ => I_vec_Cross F) (fun _ => J_vec_Cross F) (fun _ => hl_vec_Cross F) (fun _ => hj_vec_Cross F)
    (fun q => (congrArg (funL PP (S_vec_Cross F) c_vec_Cross (I_vec_Cross F) (J_vec_Cross F) 49) (show (fTs ti_vec_Cross q).1 = (fTs ti_vec_Cross [.i (atI (nth q 0)), .i (atI (nth q 1)), .i (atI (nth q 2)), .i (atI (nth q 3)), .i (atI (nth q 4)), .i (atI (nth q 5))]).1 by kernel_rfl)).trans (e_vec_Cross F (atI (nth q 0)) (atI (nth q 1)) (atI (nth q 2)) (atI (nth q 3)) (atI (nth q 4)) (atI (nth q 5))))
    (fun _ h => (okT_fill h).trans (congrArg some (by kernel_rfl)))

end Go.Xv
set_option linter.unusedVariables false
namespace Go.Xv
/- 99 _ref06_area -/
def c_ref06_area : Cfg := ⟨[0, 1, 2, 3, 8, 9], [], [12, 15, 16, 17], []⟩
def ti_ref06_area : List TV := [.v (.int .i64), .v (.int .i64), .v (.int .i64), .v (.int .i64)]
def to_ref06_area : TV := .v (.tup [.int .i64, .bool])
def S_ref06_area (F : Nat) : FuncId → List VV → Option (Bool × VV) := words [(96, s_ref06_product F), (34, s_ref01_Neg F), (30, s_ref01_Add F), (95, s_ref06_clip F)]
def W_ref06_area (F : Nat) : List LW := []
def I_ref06_area (F : Nat) : Nat → VS → (Exit → VS → R) → R := tabI c_ref06_area (W_ref06_area F)
def WJ_ref06_area (F : Nat) : List LJ := []
def J_ref06_area (F : Nat) : Nat → Nat → VS → (Exit → VS → R) → R := tabJ (WJ_ref06_area F)
def f_ref06_area (F : Nat) (a0 : Int) (a1 : Int) (a2 : Int) (a3 : Int) : R :=
  bif (ok_ref06_product F a0 a1) then (
    let v1817 : Int := (o_ref06_product_0 F a0 a1)
    let v1818 : Int := (o_ref06_product_1 F a0 a1)
    bif (ok_ref06_product F a2 a3) then (
      let v1819 : Int := (o_ref06_product_0 F a2 a3)
      let v1820 : Int := (o_ref06_product_1 F a2 a3)
      bif (ok_ref01_Neg F v1819 v1820) then (
        let v1821 : Int := (o_ref01_Neg_0 F v1819 v1820)
        let v1822 : Int := (o_ref01_Neg_1 F v1819 v1820)
        bif (ok_ref01_Add F v1817 v1818 v1821 v1822) then (
          let v1823 : Int := (o_ref01_Add_0 F v1817 v1818 v1821 v1822)
          let v1824 : Int := (o_ref01_Add_1 F v1817 v1818 v1821 v1822)
          bif (ok_ref06_clip F v1823 v1824) then (
            some (.v (.tuple #[.int .i64 ((o_ref06_clip_0 F v1823 v1824)), .bool ((o_ref06_clip_1 F v1823 v1824))])))
          else (
            none))
        else (
          none))
      else (
        none))
    else (
      none))
  else (
    none)
theorem e_ref06_area (F : Nat) (a0 : Int) (a1 : Int) (a2 : Int) (a3 : Int) : funL PP (S_ref06_area F) c_ref06_area (I_ref06_area F) (J_ref06_area F) 99 (fTs ti_ref06_area [.i a0, .i a1, .i a2, .i a3]).1 = f_ref06_area F a0 a1 a2 a3 := by
  have h : ∀ (ok_ref06_product : Nat → Int → Int → Bool) (o_ref06_product_0 : Nat → Int → Int → Int) (o_ref06_product_1 : Nat → Int → Int → Int) (ok_ref01_Neg : Nat → Int → Int → Bool) (o_ref01_Neg_0 : Nat → Int → Int → Int) (o_ref01_Neg_1 : Nat → Int → Int → Int) (ok_ref01_Add : Nat → Int → Int → Int → Int → Bool) (o_ref01_Add_0 : Nat → Int → Int → Int → Int → Int) (o_ref01_Add_1 : Nat → Int → Int → Int → Int → Int) (ok_ref06_clip : Nat → Int → Int → Bool) (o_ref06_clip_0 : Nat → Int → Int → Int) (o_ref06_clip_1 : Nat → Int → Int → Bool), funL PP (words [(96, spec ti_ref06_product to_ref06_product (fun q => (ok_ref06_product F (atI (nth q 0)) (atI (nth q 1)))) (fun q => [.i (o_ref06_product_0 F (atI (nth q 0)) (atI (nth q 1))), .i (o_ref06_product_1 F (atI (nth q 0)) (atI (nth q 1)))])), (34, spec ti_ref01_Neg to_ref01_Neg (fun q => (ok_ref01_Neg F (atI (nth q 0)) (atI (nth q 1)))) (fun q => [.i (o_ref01_Neg_0 F (atI (nth q 0)) (atI (nth q 1))), .i (o_ref01_Neg_1 F (atI (nth q 0)) (atI (nth q 1)))])), (30, spec ti_ref01_Add to_ref01_Add (fun q => (ok_ref01_Add F (atI (nth q 0)) (atI (nth q 1)) (atI (nth q 2)) (atI (nth q 3)))) (fun q => [.i (o_ref01_Add_0 F (atI (nth q 0)) (atI (nth q 1)) (atI (nth q 2)) (atI (nth q 3))), .i (o_ref01_Add_1 F (atI (nth q 0)) (atI (nth q 1)) (atI (nth q 2)) (atI (nth q 3)))])), (95, spec ti_ref06_clip to_ref06_clip (fun q => (ok_ref06_clip F (atI (nth q 0)) (atI (nth q 1)))) (fun q => [.i (o_ref06_clip_0 F (atI (nth q 0)) (atI (nth q 1))), .b (o_ref06_clip_1 F (atI (nth q 0)) (atI (nth q 1)))]))]) c_ref06_area (tabI c_ref06_area []) (tabJ []) 99 (fTs ti_ref06_area [.i a0, .i a1, .i a2, .i a3]).1 = (
  bif (ok_ref06_product F a0 a1) then (
    let v1817 : Int := (o_ref06_product_0 F a0 a1)
    let v1818 : Int := (o_ref06_product_1 F a0 a1)
    bif (ok_ref06_product F a2 a3) then (
      let v1819 : Int := (o_ref06_product_0 F a2 a3)
      let v1820 : Int := (o_ref06_product_1 F a2 a3)
      bif (ok_ref01_Neg F v1819 v1820) then (
        let v1821 : Int := (o_ref01_Neg_0 F v1819 v1820)
        let v1822 : Int := (o_ref01_Neg_1 F v1819 v1820)
        bif (ok_ref01_Add F v1817 v1818 v1821 v1822) then (
          let v1823 : Int := (o_ref01_Add_0 F v1817 v1818 v1821 v1822)
          let v1824 : Int := (o_ref01_Add_1 F v1817 v1818 v1821 v1822)
          bif (ok_ref06_clip F v1823 v1824) then (
            some (.v (.tuple #[.int .i64 ((o_ref06_clip_0 F v1823 v1824)), .bool ((o_ref06_clip_1 F v1823 v1824))])))
          else (
            none))
        else (
          none))
      else (
        none))
    else (
      none))
  else (
    none) : R) := by
    intros
    kernel_rfl
  exact (h ok_ref06_product o_ref06_product_0 o_ref06_product_1 ok_ref01_Neg o_ref01_Neg_0 o_ref01_Neg_1 ok_ref01_Add o_ref01_Add_0 o_ref01_Add_1 ok_ref06_clip o_ref06_clip_0 o_ref06_clip_1).trans (by kernel_rfl)
def ok_ref06_area (F : Nat) (a0 : Int) (a1 : Int) (a2 : Int) (a3 : Int) : Bool := okT to_ref06_area (f_ref06_area F a0 a1 a2 a3)
def o_ref06_area_0 (F : Nat) (a0 : Int) (a1 : Int) (a2 : Int) (a3 : Int) : Int := atI (nth (outT to_ref06_area (f_ref06_area F a0 a1 a2 a3)) 0)
def o_ref06_area_1 (F : Nat) (a0 : Int) (a1 : Int) (a2 : Int) (a3 : Int) : Bool := atB (nth (outT to_ref06_area (f_ref06_area F a0 a1 a2 a3)) 1)
theorem k_ref06_area (F : Nat) (a0 : Int) (a1 : Int) (a2 : Int) (a3 : Int) {z0 : Int} {z1 : Bool} (h : f_ref06_area F a0 a1 a2 a3 = some (.v (.tuple #[.int .i64 z0, .bool z1]))) : ok_ref06_area F a0 a1 a2 a3 = true ∧ o_ref06_area_0 F a0 a1 a2 a3 = z0 ∧ o_ref06_area_1 F a0 a1 a2 a3 = z1 := by
  refine ⟨?_, ?_, ?_⟩
  · unfold ok_ref06_area; rw [h]; kernel_rfl
  · unfold o_ref06_area_0; rw [h]; kernel_rfl
  · unfold o_ref06_area_1; rw [h]; kernel_rfl
def s_ref06_area (F : Nat) : List VV → Option (Bool × VV) := spec ti_ref06_area to_ref06_area (fun q => (ok_ref06_area F (atI (nth q 0)) (atI (nth q 1)) (atI (nth q 2)) (atI (nth q 3)))) (fun q => [.i (o_ref06_area_0 F (atI (nth q 0)) (atI (nth q 1)) (atI (nth q 2)) (atI (nth q 3))), .b (o_ref06_area_1 F (atI (nth q 0)) (atI (nth q 1)) (atI (nth q 2)) (atI (nth q 3)))])
theorem hS_ref06_area (F : Nat) : ∀ f, Good PP f (unS (S_ref06_area F f)) := words_good fun p hp => by
  simp only [List.mem_cons, List.not_mem_nil, or_false] at hp
  rcases hp with rfl | rfl | rfl | rfl
  · exact g_ref06_product F
  · exact g_ref01_Neg F
  · exact g_ref01_Add F
  · exact g_ref06_clip F
theorem hl_ref06_area (F : Nat) : ∀ p ∈ loopsIn PP 99, LoopOK PP (S_ref06_area F) c_ref06_area F (I_ref06_area F) (J_ref06_area F) p :=
  loops_of [] (by kernel_rfl) all_nil
theorem hj_ref06_area (F : Nat) : ∀ p ∈ joinsIn PP c_ref06_area 99, JoinOK PP (S_ref06_area F) c_ref06_area (I_ref06_area F) (J_ref06_area F) p :=
  joins_of [] (by kernel_rfl) all_nil
theorem g_ref06_area (F : Nat) : Good PP 99 (unS (s_ref06_area F)) :=
  fun_spec (hS_ref06_area F) (by kernel_rfl) (by kernel_rfl) (C := c_ref06_area) (F := fun q => (f_ref06_area F (atI (nth q 0)) (atI (nth q 1)) (atI (nth q 2)) (atI (nth q 3)))) (fun _ => F) (fun _ => I_ref06_area F) (fun _ => J_ref06_area F) (fun _ => hl_ref06_area F) (fun _ => hj_ref06_area F)
    (fun q => (congrArg (funL PP (S_ref06_area F) c_ref06_area (I_ref06_area F) (J_ref06_area F) 99) (show (fTs ti_ref06_area q).1 = (fTs ti_ref06_area [.i (atI (nth q 0)), .i (atI (nth q 1)), .i (atI (nth q 2)), .i (atI (nth q 3))]).1 by kernel_rfl)).trans (e_ref06_area F (atI (nth q 0)) (atI (nth q 1)) (atI (nth q 2)) (atI (nth q 3))))
    (fun _ h => (okT_fill h).trans (congrArg some (by kernel_rfl)))

end Go.Xv
set_option linter.unusedVariables false
namespace Go.Xv
/- 50 _ref06_Cross -/
def c_ref06_Cross : Cfg := ⟨[0, 1, 2, 3, 4, 5, 6, 7, 8, 9, 10, 11], [], [], []⟩
def ti_ref06_Cross : List TV := [.v (.agg [.int .i64, .int .i64, .int .i64]), .v (.agg [.int .i64, .int .i64, .int .i64])]
def to_ref06_Cross : TV := .v (.tup [.agg [.int .i64, .int .i64, .int .i64], .bool])
def S_ref06_Cross (F : Nat) : FuncId → List VV → Option (Bool × VV) := words [(99, s_ref06_area F)]
def W_ref06_Cross (F : Nat) : List LW := []
def I_ref06_Cross (F : Nat) : Nat → VS → (Exit → VS → R) → R := tabI c_ref06_Cross (W_ref06_Cross F)
def WJ_ref06_Cross (F : Nat) : List LJ := []
def J_ref06_Cross (F : Nat) : Nat → Nat → VS → (Exit → VS → R) → R := tabJ (WJ_ref06_Cross F)
def f_ref06_Cross (F : Nat) (a0 : Int) (a1 : Int) (a2 : Int) (a3 : Int) (a4 : Int) (a5 : Int) : R :=
  bif (ok_ref06_area F a1 a5 a2 a4) then (
    let v1827 : Int := (o_ref06_area_0 F a1 a5 a2 a4)
    bif (ok_ref06_area F a2 a3 a0 a5) then (
      let v1829 : Int := (o_ref06_area_0 F a2 a3 a0 a5)
      bif (ok_ref06_area F a0 a4 a1 a3) then (
        let v1831 : Int := (o_ref06_area_0 F a0 a4 a1 a3)
        bif ((o_ref06_area_1 F a1 a5 a2 a4)) then (
          some (.v (.tuple #[.agg #[.int .i64 v1827, .int .i64 v1829, .int .i64 v1831], .bool true])))
        else (
          bif ((o_ref06_area_1 F a2 a3 a0 a5)) then (
            some (.v (.tuple #[.agg #[.int .i64 v1827, .int .i64 v1829, .int .i64 v1831], .bool true])))
          else (
            some (.v (.tuple #[.agg #[.int .i64 v1827, .int .i64 v1829, .int .i64 v1831], .bool ((o_ref06_area_1 F a0 a4 a1 a3))])))))
      else (
        none))
    else (
      none))
  else (
    none)
theorem e_ref06_Cross (F : Nat) (a0 : Int) (a1 : Int) (a2 : Int) (a3 : Int) (a4 : Int) (a5 : Int) : funL PP (S_ref06_Cross F) c_ref06_Cross (I_ref06_Cross F) (J_ref06_Cross F) 50 (fTs ti_ref06_Cross [.i a0, .i a1, .i a2, .i a3, .i a4, .i a5]).1 = f_ref06_Cross F a0 a1 a2 a3 a4 a5 := by
  have h : ∀ (ok_ref06_area : Nat → Int → Int → Int → Int → Bool) (o_ref06_area_0 : Nat → Int → Int → Int → Int → Int) (o_ref06_area_1 : Nat → Int → Int → Int → Int → Bool), funL PP (words [(99, spec ti_ref06_area to_ref06_area (fun q => (ok_ref06_area F (atI (nth q 0)) (atI (nth q 1)) (atI (nth q 2)) (atI (nth q 3)))) (fun q => [.i (o_ref06_area_0 F (atI (nth q 0)) (atI (nth q 1)) (atI (nth q 2)) (atI (nth q 3))), .b (o_ref06_area_1 F (atI (nth q 0)) (atI (nth q 1)) (atI (nth q 2)) (atI (nth q 3)))]))]) c_ref06_Cross (tabI c_ref06_Cross []) (tabJ []) 50 (fTs ti_ref06_Cross [.i a0, .i a1, .i a2, .i a3, .i a4, .i a5]).1 = (
  bif (ok_ref06_area F a1 a5 a2 a4) then (
    let v1827 : Int := (o_ref06_area_0 F a1 a5 a2 a4)
    bif (ok_ref06_area F a2 a3 a0 a5) then (
      let v1829 : Int := (o_ref06_area_0 F a2 a3 a0 a5)
      bif (ok_ref06_area F a0 a4 a1 a3) then (
        let v1831 : Int := (o_ref06_area_0 F a0 a4 a1 a3)
        bif ((o_ref06_area_1 F a1 a5 a2 a4)) then (
          some (.v (.tuple #[.agg #[.int .i64 v1827, .int .i64 v1829, .int .i64 v1831], .bool true])))
        else (
          bif ((o_ref06_area_1 F a2 a3 a0 a5)) then (
            some (.v (.tuple #[.agg #[.int .i64 v1827, .int .i64 v1829, .int .i64 v1831], .bool true])))
          else (
            some (.v (.tuple #[.agg #[.int .i64 v1827, .int .i64 v1829, .int .i64 v1831], .bool ((o_ref06_area_1 F a0 a4 a1 a3))])))))
      else (
        none))
    else (
      none))
  else (
    none) : R) := by
    intros
    kernel_rfl
  exact (h ok_ref06_area o_ref06_area_0 o_ref06_area_1).trans (by kernel_rfl)
def ok_ref06_Cross (F : Nat) (a0 : Int) (a1 : Int) (a2 : Int) (a3 : Int) (a4 : Int) (a5 : Int) : Bool := okT to_ref06_Cross (f_ref06_Cross F a0 a1 a2 a3 a4 a5)
def o_ref06_Cross_0 (F : Nat) (a0 : Int) (a1 : Int) (a2 : Int) (a3 : Int) (a4 : Int) (a5 : Int) : Int := atI (nth (outT to_ref06_Cross (f_ref06_Cross F a0 a1 a2 a3 a4 a5)) 0)
def o_ref06_Cross_1 (F : Nat) (a0 : Int) (a1 : Int) (a2 : Int) (a3 : Int) (a4 : Int) (a5 : Int) : Int := atI (nth (outT to_ref06_Cross (f_ref06_Cross F a0 a1 a2 a3 a4 a5)) 1)
def o_ref06_Cross_2 (F : Nat) (a0 : Int) (a1 : Int) (a2 : Int) (a3 : Int) (a4 : Int) (a5 : Int) : Int := atI (nth (outT to_ref06_Cross (f_ref06_Cross F a0 a1 a2 a3 a4 a5)) 2)
def o_ref06_Cross_3 (F : Nat) (a0 : Int) (a1 : Int) (a2 : Int) (a3 : Int) (a4 : Int) (a5 : Int) : Bool := atB (nth (outT to_ref06_Cross (f_ref06_Cross F a0 a1 a2 a3 a4 a5)) 3)
theorem k_ref06_Cross (F : Nat) (a0 : Int) (a1 : Int) (a2 : Int) (a3 : Int) (a4 : Int) (a5 : Int) {z0 : Int} {z1 : Int} {z2 : Int} {z3 : Bool} (h : f_ref06_Cross F a0 a1 a2 a3 a4 a5 = some (.v (.tuple #[.agg #[.int .i64 z0, .int .i64 z1, .int .i64 z2], .bool z3]))) : ok_ref06_Cross F a0 a1 a2 a3 a4 a5 = true ∧ o_ref06_Cross_0 F a0 a1 a2 a3 a4 a5 = z0 ∧ o_ref06_Cross_1 F a0 a1 a2 a3 a4 a5 = z1 ∧ o_ref06_Cross_2 F a0 a1 a2 a3 a4 a5 = z2 ∧ o_ref06_Cross_3 F a0 a1 a2 a3 a4 a5 = z3 := by
  refine ⟨?_, ?_, ?_, ?_, ?_⟩
  · unfold ok_ref06_Cross; rw [h]; kernel_rfl
  · unfold o_ref06_Cross_0; rw [h]; kernel_rfl
  · unfold o_ref06_Cross_1; rw [h]; kernel_rfl
  · unfold o_ref06_Cross_2; rw [h]; kernel_rfl
  · unfold o_ref06_Cross_3; rw [h]; kernel_rfl
def s_ref06_Cross (F : Nat) : List VV → Option (Bool × VV) := spec ti_ref06_Cross to_ref06_Cross (fun q => (ok_ref06_Cross F (atI (nth q 0)) (atI (nth q 1)) (atI (nth q 2)) (atI (nth q 3)) (atI (nth q 4)) (atI (nth q 5)))) (fun q => [.i (o_ref06_Cross_0 F (atI (nth q 0)) (atI (nth q 1)) (atI (nth q 2)) (atI (nth q 3)) (atI (nth q 4)) (atI (nth q 5))), .i (o_ref06_Cross_1 F (atI (nth q 0)) (atI (nth q 1)) (atI (nth q 2)) (atI (nth q 3)) (atI (nth q 4)) (atI (nth q 5))), .i (o_ref06_Cross_2 F (atI (nth q 0)) (atI (nth q 1)) (atI (nth q 2)) (atI (nth q 3)) (atI (nth q 4)) (atI (nth q 5))), .b (o_ref06_Cross_3 F (atI (nth q 0)) (atI (nth q 1)) (atI (nth q 2)) (atI (nth q 3)) (atI (nth q 4)) (atI (nth q 5)))])
theorem hS_ref06_Cross (F : Nat) : ∀ f, Good PP f (unS (S_ref06_Cross F f)) := words_good fun p hp => by
  simp only [List.mem_cons, List.not_mem_nil, or_false] at hp
  rcases hp with rfl
  · exact g_ref06_area F
theorem hl_ref06_Cross (F : Nat) : ∀ p ∈ loopsIn PP 50, LoopOK PP (S_ref06_Cross F) c_ref06_Cross F (I_ref06_Cross F) (J_ref06_Cross F) p :=
  loops_of [] (by kernel_rfl) all_nil
theorem hj_ref06_Cross (F : Nat) : ∀ p ∈ joinsIn PP c_ref06_Cross 50, JoinOK PP (S_ref06_Cross F) c_ref06_Cross (I_ref06_Cross F) (J_ref06_Cross F) p :=
  joins_of [] (by kernel_rfl) all_nil
theorem g_ref06_Cross (F : Nat) : Good PP 50 (unS (s_ref06_Cross F)) :=
  fun_spec (hS_ref06_Cross F) (by kernel_rfl) (by kernel_rfl) (C := c_ref06_Cross) (F := fun q => (f_ref06_Cross F (atI (nth q 0)) (atI (nth q 1)) (atI (nth q 2)) (atI (nth q 3)) (atI (nth q 4)) (atI (nth q 5)))) (fun _ => F) (fun _ => I_ref06_Cross F) (fun _ => J_ref06_Cross F) (fun _ => hl_ref06_Cross F) (fun _ => hj_ref06_Cross F)
    (fun q => (congrArg (funL PP (S_ref06_Cross F) c_ref06_Cross (I_ref06_Cross F) (J_ref06_Cross F) 50) (show (fTs ti_ref06_Cross q).1 = (fTs ti_ref06_Cross [.i (atI (nth q 0)), .i (atI (nth q 1)), .i (atI (nth q 2)), .i (atI (nth q 3)), .i (atI (nth q 4)), .i (atI (nth q 5))]).1 by kernel_rfl)).trans (e_ref06_Cross F (atI (nth q 0)) (atI (nth q 1)) (atI (nth q 2)) (atI (nth q 3)) (atI (nth q 4)) (atI (nth q 5))))
    (fun _ h => (okT_fill h).trans (congrArg some (by kernel_rfl)))

end Go.Xv
set_option linter.unusedVariables false
namespace Go.Xv
/- 13 _law06_VecMuls -/
def c_law06_VecMuls : Cfg := ⟨[0, 1, 2, 3, 4, 5, 6, 7, 8, 9, 10, 11, 12], [], [], []⟩
def ti_law06_VecMuls : List TV := [.v (.agg [.int .i64, .int .i64, .int .i64]), .v (.agg [.int .i64, .int .i64, .int .i64])]
def to_law06_VecMuls : TV := .v (.bool)
def S_law06_VecMuls (F : Nat) : FuncId → List VV → Option (Bool × VV) := words [(47, s_vec_Dot F), (48, s_ref06_Dot F), (49, s_vec_Cross F), (50, s_ref06_Cross F), (22, s_law06_works F)]
def W_law06_VecMuls (F : Nat) : List LW := []
def I_law06_VecMuls (F : Nat) : Nat → VS → (Exit → VS → R) → R := tabI c_law06_VecMuls (W_law06_VecMuls F)
def WJ_law06_VecMuls (F : Nat) : List LJ := []
def J_law06_VecMuls (F : Nat) : Nat → Nat → VS → (Exit → VS → R) → R := tabJ (WJ_law06_VecMuls F)
def f_law06_VecMuls (F : Nat) (a0 : Int) (a1 : Int) (a2 : Int) (a3 : Int) (a4 : Int) (a5 : Int) : R :=
  bif (ok_vec_Dot F a0 a1 a2 a3 a4 a5) then (
    bif (ok_ref06_Dot F a0 a1 a2 a3 a4 a5) then (
      bif (ok_vec_Cross F a0 a1 a2 a3 a4 a5) then (
        bif (ok_ref06_Cross F a0 a1 a2 a3 a4 a5) then (
          bif ((((o_vec_Dot_0 F a0 a1 a2 a3 a4 a5)) == ((o_ref06_Dot_0 F a0 a1 a2 a3 a4 a5)))) then (
            bif ((((o_vec_Dot_1 F a0 a1 a2 a3 a4 a5)) == ((o_ref06_Dot_1 F a0 a1 a2 a3 a4 a5)))) then (
              bif (((((o_vec_Cross_0 F a0 a1 a2 a3 a4 a5)) == ((o_ref06_Cross_0 F a0 a1 a2 a3 a4 a5))) && ((((o_vec_Cross_1 F a0 a1 a2 a3 a4 a5)) == ((o_ref06_Cross_1 F a0 a1 a2 a3 a4 a5))) && (((o_vec_Cross_2 F a0 a1 a2 a3 a4 a5)) == ((o_ref06_Cross_2 F a0 a1 a2 a3 a4 a5)))))) then (
                bif ((((o_vec_Cross_3 F a0 a1 a2 a3 a4 a5)) == ((o_ref06_Cross_3 F a0 a1 a2 a3 a4 a5)))) then (
                  bif (ok_law06_works F) then (
                    some (.v (.bool ((o_law06_works_0 F)))))
                  else (
                    none))
                else (
                  some (.v (.bool false))))
              else (
                some (.v (.bool false))))
            else (
              some (.v (.bool false))))
          else (
            some (.v (.bool false))))
        else (
          none))
      else (
        none))
    else (
      none))
  else (
    none)
theorem e_law06_VecMuls (F : Nat) (a0 : Int) (a1 : Int) (a2 : Int) (a3 : Int) (a4 : Int) (a5 : Int) : funL PP (S_law06_VecMuls F) c_law06_VecMuls (I_law06_VecMuls F) (J_law06_VecMuls F) 13 (fTs ti_law06_VecMuls [.i a0, .i a1, .i a2, .i a3, .i a4, .i a5]).1 = f_law06_VecMuls F a0 a1 a2 a3 a4 a5 := by
  have h : ∀ (ok_vec_Dot : Nat → Int → Int → Int → Int → Int → Int → Bool) (o_vec_Dot_0 : Nat → Int → Int → Int → Int → Int → Int → Int) (o_vec_Dot_1 : Nat → Int → Int → Int → Int → Int → Int → Bool) (ok_ref06_Dot : Nat → Int → Int → Int → Int → Int → Int → Bool) (o_ref06_Dot_0 : Nat → Int → Int → Int → Int → Int → Int → Int) (o_ref06_Dot_1 : Nat → Int → Int → Int → Int → Int → Int → Bool) (ok_vec_Cross : Nat → Int → Int → Int → Int → Int → Int → Bool) (o_vec_Cross_0 : Nat → Int → Int → Int → Int → Int → Int → Int) (o_vec_Cross_1 : Nat → Int → Int → Int → Int → Int → Int → Int) (o_vec_Cross_2 : Nat → Int → Int → Int → Int → Int → Int → Int) (o_vec_Cross_3 : Nat → Int → Int → Int → Int → Int → Int → Bool) (ok_ref06_Cross : Nat → Int → Int → Int → Int → Int → Int → Bool) (o_ref06_Cross_0 : Nat → Int → Int → Int → Int → Int → Int → Int) (o_ref06_Cross_1 : Nat → Int → Int → Int → Int → Int → Int → Int) (o_ref06_Cross_2 : Nat → Int → Int → Int → Int → Int → Int → Int) (o_ref06_Cross_3 : Nat → Int → Int → Int → Int → Int → Int → Bool) (ok_law06_works : Nat → Bool) (o_law06_works_0 : Nat → Bool), funL PP (words [(47, spec ti_vec_Dot to_vec_Dot (fun q => (ok_vec_Dot F (atI (nth q 0)) (atI (nth q 1)) (atI (nth q 2)) (atI (nth q 3)) (atI (nth q 4)) (atI (nth q 5)))) (fun q => [.i (o_vec_Dot_0 F (atI (nth q 0)) (atI (nth q 1)) (atI (nth q 2)) (atI (nth q 3)) (atI (nth q 4)) (atI (nth q 5))), .b (o_vec_Dot_1 F (atI (nth q 0)) (atI (nth q 1)) (atI (nth q 2)) (atI (nth q 3)) (atI (nth q 4)) (atI (nth q 5)))])), (48, spec ti_ref06_Dot to_ref06_Dot (fun q => (ok_ref06_Dot F (atI (nth q 0)) (atI (nth q 1)) (atI (nth q 2)) (atI (nth q 3)) (atI (nth q 4)) (atI (nth q 5)))) (fun q => [.i (o_ref06_Dot_0 F (atI (nth q 0)) (atI (nth q 1)) (atI (nth q 2)) (atI (nth q 3)) (atI (nth q 4)) (atI (nth q 5))), .b (o_ref06_Dot_1 F (atI (nth q 0)) (atI (nth q 1)) (atI (nth q 2)) (atI (nth q 3)) (atI (nth q 4)) (atI (nth q 5)))])), (49, spec ti_vec_Cross to_vec_Cross (fun q => (ok_vec_Cross F (atI (nth q 0)) (atI (nth q 1)) (atI (nth q 2)) (atI (nth q 3)) (atI (nth q 4)) (atI (nth q 5)))) (fun q => [.i (o_vec_Cross_0 F (atI (nth q 0)) (atI (nth q 1)) (atI (nth q 2)) (atI (nth q 3)) (atI (nth q 4)) (atI (nth q 5))), .i (o_vec_Cross_1 F (atI (nth q 0)) (atI (nth q 1)) (atI (nth q 2)) (atI (nth q 3)) (atI (nth q 4)) (atI (nth q 5))), .i (o_vec_Cross_2 F (atI (nth q 0)) (atI (nth q 1)) (atI (nth q 2)) (atI (nth q 3)) (atI (nth q 4)) (atI (nth q 5))), .b (o_vec_Cross_3 F (atI (nth q 0)) (atI (nth q 1)) (atI (nth q 2)) (atI (nth q 3)) (atI (nth q 4)) (atI (nth q 5)))])), (50, spec ti_ref06_Cross to_ref06_Cross (fun q => (ok_ref06_Cross F (atI (nth q 0)) (atI (nth q 1)) (atI (nth q 2)) (atI (nth q 3)) (atI (nth q 4)) (atI (nth q 5)))) (fun q => [.i (o_ref06_Cross_0 F (atI (nth q 0)) (atI (nth q 1)) (atI (nth q 2)) (atI (nth q 3)) (atI (nth q 4)) (atI (nth q 5))), .i (o_ref06_Cross_1 F (atI (nth q 0)) (atI (nth q 1)) (atI (nth q 2)) (atI (nth q 3)) (atI (nth q 4)) (atI (nth q 5))), .i (o_ref06_Cross_2 F (atI (nth q 0)) (atI (nth q 1)) (atI (nth q 2)) (atI (nth q 3)) (atI (nth q 4)) (atI (nth q 5))), .b (o_ref06_Cross_3 F (atI (nth q 0)) (atI (nth q 1)) (atI (nth q 2)) (atI (nth q 3)) (atI (nth q 4)) (atI (nth q 5)))])), (22, spec ti_law06_works to_law06_works (fun q => (ok_law06_works F )) (fun q => [.b (o_law06_works_0 F )]))]) c_law06_VecMuls (tabI c_law06_VecMuls []) (tabJ []) 13 (fTs ti_law06_VecMuls [.i a0, .i a1, .i a2, .i a3, .i a4, .i a5]).1 = (
  bif (ok_vec_Dot F a0 a1 a2 a3 a4 a5) then (
    bif (ok_ref06_Dot F a0 a1 a2 a3 a4 a5) then (
      bif (ok_vec_Cross F a0 a1 a2 a3 a4 a5) then (
        bif (ok_ref06_Cross F a0 a1 a2 a3 a4 a5) then (
          bif ((((o_vec_Dot_0 F a0 a1 a2 a3 a4 a5)) == ((o_ref06_Dot_0 F a0 a1 a2 a3 a4 a5)))) then (
            bif ((((o_vec_Dot_1 F a0 a1 a2 a3 a4 a5)) == ((o_ref06_Dot_1 F a0 a1 a2 a3 a4 a5)))) then (
              bif (((((o_vec_Cross_0 F a0 a1 a2 a3 a4 a5)) == ((o_ref06_Cross_0 F a0 a1 a2 a3 a4 a5))) && ((((o_vec_Cross_1 F a0 a1 a2 a3 a4 a5)) == ((o_ref06_Cross_1 F a0 a1 a2 a3 a4 a5))) && (((o_vec_Cross_2 F a0 a1 a2 a3 a4 a5)) == ((o_ref06_Cross_2 F a0 a1 a2 a3 a4 a5)))))) then (
                bif ((((o_vec_Cross_3 F a0 a1 a2 a3 a4 a5)) == ((o_ref06_Cross_3 F a0 a1 a2 a3 a4 a5)))) then (
                  bif (ok_law06_works F) then (
                    some (.v (.bool ((o_law06_works_0 F)))))
                  else (
                    none))
                else (
                  some (.v (.bool false))))
              else (
                some (.v (.bool false))))
            else (
              some (.v (.bool false))))
          else (
            some (.v (.bool false))))
        else (
          none))
      else (
        none))
    else (
      none))
  else (
    none) : R) := by
    intros
    kernel_rfl
  exact (h ok_vec_Dot o_vec_Dot_0 o_vec_Dot_1 ok_ref06_Dot o_ref06_Dot_0 o_ref06_Dot_1 ok_vec_Cross o_vec_Cross_0 o_vec_Cross_1 o_vec_Cross_2 o_vec_Cross_3 ok_ref06_Cross o_ref06_Cross_0 o_ref06_Cross_1 o_ref06_Cross_2 o_ref06_Cross_3 ok_law06_works o_law06_works_0).trans (by kernel_rfl)
def ok_law06_VecMuls (F : Nat) (a0 : Int) (a1 : Int) (a2 : Int) (a3 : Int) (a4 : Int) (a5 : Int) : Bool := okT to_law06_VecMuls (f_law06_VecMuls F a0 a1 a2 a3 a4 a5)
def o_law06_VecMuls_0 (F : Nat) (a0 : Int) (a1 : Int) (a2 : Int) (a3 : Int) (a4 : Int) (a5 : Int) : Bool := atB (nth (outT to_law06_VecMuls (f_law06_VecMuls F a0 a1 a2 a3 a4 a5)) 0)
theorem k_law06_VecMuls (F : Nat) (a0 : Int) (a1 : Int) (a2 : Int) (a3 : Int) (a4 : Int) (a5 : Int) {z0 : Bool} (h : f_law06_VecMuls F a0 a1 a2 a3 a4 a5 = some (.v (.bool z0))) : ok_law06_VecMuls F a0 a1 a2 a3 a4 a5 = true ∧ o_law06_VecMuls_0 F a0 a1 a2 a3 a4 a5 = z0 := by
  refine ⟨?_, ?_⟩
  · unfold ok_law06_VecMuls; rw [h]; kernel_rfl
  · unfold o_law06_VecMuls_0; rw [h]; kernel_rfl
def s_law06_VecMuls (F : Nat) : List VV → Option (Bool × VV) := spec ti_law06_VecMuls to_law06_VecMuls (fun q => (ok_law06_VecMuls F (atI (nth q 0)) (atI (nth q 1)) (atI (nth q 2)) (atI (nth q 3)) (atI (nth q 4)) (atI (nth q 5)))) (fun q => [.b (o_law06_VecMuls_0 F (atI (nth q 0)) (atI (nth q 1)) (atI (nth q 2)) (atI (nth q 3)) (atI (nth q 4)) (atI (nth q 5)))])
theorem hS_law06_VecMuls (F : Nat) : ∀ f, Good PP f (unS (S_law06_VecMuls F f)) := words_good fun p hp => by
  simp only [List.mem_cons, List.not_mem_nil, or_false] at hp
  rcases hp with rfl | rfl | rfl | rfl | rfl
  · exact g_vec_Dot F
  · exact g_ref06_Dot F
  · exact g_vec_Cross F
  · exact g_ref06_Cross F
  · exact g_law06_works F
theorem hl_law06_VecMuls (F : Nat) : ∀ p ∈ loopsIn PP 13, LoopOK PP (S_law06_VecMuls F) c_law06_VecMuls F (I_law06_VecMuls F) (J_law06_VecMuls F) p :=
  loops_of [] (by kernel_rfl) all_nil
theorem hj_law06_VecMuls (F : Nat) : ∀ p ∈ joinsIn PP c_law06_VecMuls 13, JoinOK PP (S_law06_VecMuls F) c_law06_VecMuls (I_law06_VecMuls F) (J_law06_VecMuls F) p :=
  joins_of [] (by kernel_rfl) all_nil
theorem g_law06_VecMuls (F : Nat) : Good PP 13 (unS (s_law06_VecMuls F)) :=
  fun_spec (hS_law06_VecMuls F) (by kernel_rfl) (by kernel_rfl) (C := c_law06_VecMuls) (F := fun q => (f_law06_VecMuls F (atI (nth q 0)) (atI (nth q 1)) (atI (nth q 2)) (atI (nth q 3)) (atI (nth q 4)) (atI (nth q 5)))) (fun _ => F) (fun _ => I_law06_VecMuls F) (fun _ => J_law06_VecMuls F) (fun _ => hl_law06_VecMuls F) (fun _ => hj_law06_VecMuls F)
    (fun q => (congrArg (funL PP (S_law06_VecMuls F) c_law06_VecMuls (I_law06_VecMuls F) (J_law06_VecMuls F) 13) (show (fTs ti_law06_VecMuls q).1 = (fTs ti_law06_VecMuls [.i (atI (nth q 0)), .i (atI (nth q 1)), .i (atI (nth q 2)), .i (atI (nth q 3)), .i (atI (nth q 4)), .i (atI (nth q 5))]).1 by kernel_rfl)).trans (e_law06_VecMuls F (atI (nth q 0)) (atI (nth q 1)) (atI (nth q 2)) (atI (nth q 3)) (atI (nth q 4)) (atI (nth q 5))))
    (fun _ h => (okT_fill h).trans (congrArg some (by kernel_rfl)))

end Go.Xv
namespace Go.Xv
theorem p2pos (n : Nat) : (0 : Int) < 2 ^ n := Int.pow_pos (by decide)
theorem p2add (a b : Nat) : (2 : Int) ^ a * 2 ^ b = 2 ^ (a + b) := (Int.pow_add 2 a b).symm
theorem p2_64 {m : Nat} (h : m ≤ 64) : (2 : Int) ^ m * 2 ^ (64 - m) = 18446744073709551616 := by
  rw [p2add, show m + (64 - m) = 64 by omega]; decide
theorem p2cast (k : Nat) : ((2 ^ k : Nat) : Int) = 2 ^ k := by push_cast; rfl
theorem or_comm_u64 (a b : Int) : orI .u64 a b = orI .u64 b a := by rw [or_u64_bv, or_u64_bv, BitVec.or_comm]
theorem div_I64 {h P : Int} (hh : I64 h) (hP : 0 < P) : I64 (h / P) := by
  unfold I64 at *
  rcases Int.lt_or_le h 0 with hn | hn
  · constructor
    · rw [Int.le_ediv_iff_mul_le hP]
      have : -9223372036854775808 * P ≤ -9223372036854775808 * 1 := Int.mul_le_mul_of_nonpos_left (by omega) (by omega)
      omega
    · have := Int.ediv_neg_of_neg_of_pos hn hP
      omega
  · have h1 := Int.ediv_nonneg hn (Int.le_of_lt hP)
    have h2 := Int.ediv_le_self P hn
    omega
theorem emod_mul {a P Q : Int} (hP : 0 < P) : (a * P) % (P * Q) = (a % Q) * P := by
  rw [Int.mul_comm a P, Int.mul_emod_mul_of_pos _ _ hP, Int.mul_comm]

/-- a shift to the right by less than a half, put together of both halves. -/
theorem shr_small {h l : Int} {m : Nat} (hh : I64 h) (hl : U64 l) (hm : m < 64) :
    h / 2 ^ m = hi (val h l / 2 ^ m) ∧ orI .u64 (l / 2 ^ m) (((h % 18446744073709551616) * 2 ^ (64 - m)) % 18446744073709551616) = lo (val h l / 2 ^ m) := by
  have hP := p2pos m
  have hQ := p2pos (64 - m)
  have hPQ := p2_64 (m := m) (by omega)
  have hI := div_I64 hh hP
  have eP : ((2 ^ (64 - m) : Nat) : Int) = 2 ^ (64 - m) := p2cast _
  have orq := fun a b => or_add_u64 (64 - m) (a := a) (b := b)
  rw [eP] at orq
  generalize (2 : Int) ^ m = P at *
  generalize (2 : Int) ^ (64 - m) = Q at *
  have hv : val h l / P = h * Q + l / P := by
    unfold val
    rw [← hPQ, show h * (P * Q) + l = l + h * Q * P by rw [Int.mul_comm P Q, ← Int.mul_assoc]; omega, Int.add_mul_ediv_right _ _ (by omega)]
    omega
  have hlP : 0 ≤ l / P ∧ l / P < Q := by
    unfold U64 at hl
    refine ⟨Int.ediv_nonneg hl.1 (by omega), Int.ediv_lt_of_lt_mul hP ?_⟩
    rw [Int.mul_comm]; omega
  have h64 : (0 : Int) < 18446744073709551616 := by decide
  have hdd : (h * Q + l / P) / 18446744073709551616 = h / P := by
    rw [← hPQ, Int.mul_comm P Q, ← Int.ediv_ediv_of_nonneg (by omega), show h * Q + l / P = l / P + h * Q by omega, Int.add_mul_ediv_right _ _ (by omega), Int.ediv_eq_zero_of_lt hlP.1 hlP.2]
    simp
  rw [hv]
  constructor
  · unfold hi
    rw [hdd]
    unfold I64 at hI
    omega
  · have e1 : ((h % 18446744073709551616) * Q) % 18446744073709551616 = (h % P) * Q := by
      rw [← hPQ, Int.mul_comm P Q, emod_mul hQ, Int.mul_comm Q P, Int.emod_emod_of_dvd h (Int.dvd_mul_right P Q)]
    have b1 := Int.emod_nonneg h (show P ≠ 0 by omega)
    have b2 := Int.emod_lt_of_pos h hP
    have b3 : (h % P) * Q + l / P < 18446744073709551616 := by
      have : (h % P) * Q ≤ (P - 1) * Q := Int.mul_le_mul_of_nonneg_right (by omega) (by omega)
      rw [Int.sub_mul] at this
      omega
    have b4 := Int.mul_nonneg b1 (show 0 ≤ Q by omega)
    rw [e1, or_comm_u64, orq _ _ b1 hlP.1 hlP.2 b3]
    unfold lo
    have e2 : (h * Q) % 18446744073709551616 = (h % P) * Q := by rw [← hPQ, Int.mul_comm P Q, emod_mul hQ]
    omega

theorem shr_great {h l : Int} {m : Nat} (hl : U64 l) (hm : 64 ≤ m) : h / 2 ^ (m - 64) = val h l / 2 ^ m := by
  have e : (2 : Int) ^ m = 18446744073709551616 * 2 ^ (m - 64) := by
    rw [show (18446744073709551616 : Int) = 2 ^ 64 by decide, p2add, show 64 + (m - 64) = m by omega]
  rw [e, ← Int.ediv_ediv_of_nonneg (by decide)]
  congr 1
  unfold val
  unfold U64 at hl
  omega

theorem shl_small {h l : Int} {m : Nat} (hl : U64 l) (hm : m < 64) :
    IntKind.wrap .i64 (orI .u64 (((h % 18446744073709551616) * 2 ^ m) % 18446744073709551616) (l / 2 ^ (64 - m))) = hi (val h l * 2 ^ m) ∧ (l * 2 ^ m) % 18446744073709551616 = lo (val h l * 2 ^ m) := by
  have hP := p2pos m
  have hQ := p2pos (64 - m)
  have hPQ := p2_64 (m := m) (by omega)
  have eP : ((2 ^ m : Nat) : Int) = 2 ^ m := p2cast _
  have orq := fun a b => or_add_u64 m (a := a) (b := b)
  rw [eP] at orq
  generalize (2 : Int) ^ m = P at *
  generalize (2 : Int) ^ (64 - m) = Q at *
  have hv : val h l * P = h * P * 18446744073709551616 + l * P := by
    unfold val
    rw [Int.add_mul]
    have : h * 18446744073709551616 * P = h * P * 18446744073709551616 := by simp only [Int.mul_comm, Int.mul_assoc, Int.mul_left_comm]
    omega
  have hlP : 0 ≤ l / Q ∧ l / Q < P := by
    unfold U64 at hl
    exact ⟨Int.ediv_nonneg hl.1 (by omega), Int.ediv_lt_of_lt_mul hQ (by omega)⟩
  rw [hv]
  have e3 : (l * P) / 18446744073709551616 = l / Q := by
    rw [← hPQ, ← Int.ediv_ediv_of_nonneg (by omega), Int.mul_ediv_cancel _ (by omega)]
  constructor
  · have e1 : ((h % 18446744073709551616) * P) % 18446744073709551616 = (h % Q) * P := by
      rw [← hPQ, emod_mul hP, Int.emod_emod_of_dvd h (show Q ∣ P * Q from ⟨P, Int.mul_comm P Q⟩)]
    have b1 := Int.emod_nonneg h (show Q ≠ 0 by omega)
    have b2 := Int.emod_lt_of_pos h hQ
    have b3 : (h % Q) * P + l / Q < 18446744073709551616 := by
      have : (h % Q) * P ≤ (Q - 1) * P := Int.mul_le_mul_of_nonneg_right (by omega) (by omega)
      rw [Int.sub_mul, Int.mul_comm Q P] at this
      omega
    have b4 := Int.mul_nonneg b1 (show 0 ≤ P by omega)
    rw [e1, orq _ _ b1 hlP.1 hlP.2 b3, wi64]
    unfold hi
    have e2 : (h * P) % 18446744073709551616 = (h % Q) * P := by rw [← hPQ, emod_mul hP]
    rw [show (h * P * 18446744073709551616 + l * P) / 18446744073709551616 = h * P + (l * P) / 18446744073709551616 by omega, e3]
    omega
  · unfold lo
    omega

theorem shl_great {h l : Int} {m : Nat} (hm : 64 ≤ m) :
    IntKind.wrap .i64 ((l * 2 ^ (m - 64)) % 18446744073709551616) = hi (val h l * 2 ^ m) ∧ 0 = lo (val h l * 2 ^ m) := by
  have e : (2 : Int) ^ m = 2 ^ (m - 64) * 18446744073709551616 := by
    rw [show (18446744073709551616 : Int) = 2 ^ 64 by decide, p2add, show (m - 64) + 64 = m by omega]
  rw [e]
  generalize (2 : Int) ^ (m - 64) = P at *
  have hv : val h l * (P * 18446744073709551616) = (h * P * 18446744073709551616 + l * P) * 18446744073709551616 := by
    unfold val
    simp only [Int.add_mul]
    have : h * 18446744073709551616 * (P * 18446744073709551616) = h * P * 18446744073709551616 * 18446744073709551616 := by simp only [Int.mul_comm, Int.mul_assoc, Int.mul_left_comm]
    have : l * (P * 18446744073709551616) = l * P * 18446744073709551616 := by simp only [Int.mul_assoc]
    omega
  rw [hv]
  generalize h * P = a
  generalize l * P = b
  constructor
  · rw [wi64]; unfold hi; omega
  · unfold lo; omega
theorem shl_all {h l : Int} {m : Nat} (hm : 128 ≤ m) : 0 = hi (val h l * 2 ^ m) ∧ 0 = lo (val h l * 2 ^ m) := by
  have e : (2 : Int) ^ m = 2 ^ (m - 128) * 340282366920938463463374607431768211456 := by
    rw [show (340282366920938463463374607431768211456 : Int) = 2 ^ 128 by decide, p2add, show (m - 128) + 128 = m by omega]
  rw [e, ← Int.mul_assoc]
  generalize val h l * 2 ^ (m - 128) = b
  constructor
  · unfold hi; omega
  · unfold lo; omega
end Go.Xv
namespace Go.Xv
/-- one bit of a number -/
def dg (z : Int) (i : Nat) : Int := z / 2 ^ i % 2
def ds (z : Int) (n : Nat) : List VV := (List.range n).map fun i => .v (.int .i64 (dg z i))
theorem dg_01 (z : Int) (i : Nat) : 0 ≤ dg z i ∧ dg z i ≤ 1 := by unfold dg; omega
theorem ds_len (z : Int) (n : Nat) : (ds z n).length = n := by simp [ds]
theorem ds_zero (z : Int) : ds z 0 = [] := rfl
theorem ds_succ (z : Int) (n : Nat) : ds z (n + 1) = ds z n ++ [.v (.int .i64 (dg z n))] := by simp [ds, List.range_succ]
theorem ds_get (z : Int) {n i : Nat} (h : i < n) : (ds z n)[i]? = some (.v (.int .i64 (dg z i))) := by simp [ds, h]
theorem ds_take (z : Int) (n : Nat) : ((ds z n).drop 0).take (n * 1) = ds z n := by
  rw [List.drop_zero, List.take_of_length_le]
  rw [ds_len]; omega
theorem ediv2 (x : Int) (i : Nat) : x / 2 ^ i / 2 = x / 2 ^ (i + 1) := by
  rw [Int.ediv_ediv_of_nonneg (Int.le_of_lt (p2pos i))]; rfl
theorem bitlo (x : Int) {n i : Nat} (h : i < n) : (x % 2 ^ n) / 2 ^ i % 2 = x / 2 ^ i % 2 := by
  have e : (2 : Int) ^ n = 2 ^ i * (2 * 2 ^ (n - i - 1)) := by
    rw [show (2 : Int) * 2 ^ (n - i - 1) = 2 ^ (n - i) by
      rw [show n - i = (n - i - 1) + 1 by omega, Int.pow_succ]; simp [Int.mul_comm]]
    rw [p2add, show i + (n - i) = n by omega]
  have hd := Int.mul_ediv_add_emod x (2 ^ n)
  generalize hq : x / 2 ^ n = q at hd
  generalize hr : x % 2 ^ n = r at hd ⊢
  rw [← hd, e]
  have hP := p2pos i
  generalize (2 : Int) ^ i = P at *
  generalize (2 : Int) ^ (n - i - 1) = T at *
  rw [show P * (2 * T) * q + r = r + 2 * T * q * P by
    have : P * (2 * T) * q = 2 * T * q * P := by simp only [Int.mul_comm, Int.mul_left_comm]
    omega, Int.add_mul_ediv_right _ _ (by omega)]
  have : 2 * T * q = 2 * (T * q) := Int.mul_assoc ..
  omega
theorem dg_lo (z : Int) {i : Nat} (h : i < 64) : lo z / 2 ^ i % 2 = dg z i := bitlo z (n := 64) h
theorem dg_hi (z : Int) {i : Nat} (h : i < 64) : (z / 18446744073709551616 % 18446744073709551616) / 2 ^ i % 2 = dg z (64 + i) := by
  have := bitlo (z / 18446744073709551616) (n := 64) h
  rw [show (18446744073709551616 : Int) = 2 ^ 64 by decide] at *
  rw [this, Int.ediv_ediv_of_nonneg (by decide), p2add]
  rfl
/-- the number of the first bits -/
def num (z : Int) (n : Nat) : Int := z % 2 ^ n
theorem num_zero (z : Int) : num z 0 = 0 := by unfold num; omega
theorem num_succ (z : Int) (n : Nat) : num z (n + 1) = num z n + dg z n * 2 ^ n := by
  unfold num dg
  have h1 := Int.mul_ediv_add_emod z (2 ^ n)
  have h2 := Int.mul_ediv_add_emod (z / 2 ^ n) 2
  have h3 := Int.mul_ediv_add_emod z (2 ^ (n + 1))
  rw [← ediv2] at h3
  have hP := p2pos n
  have e : (2 : Int) ^ (n + 1) = 2 * 2 ^ n := by rw [Int.pow_succ, Int.mul_comm]
  rw [e] at h3 ⊢
  generalize (2 : Int) ^ n = P at *
  generalize z / P = q at *
  have : 2 * P * (q / 2) = P * (2 * (q / 2)) := by simp only [Int.mul_comm, Int.mul_left_comm]
  have : P * q = P * (2 * (q / 2) + q % 2) := by rw [h2]
  rw [Int.mul_add] at this
  rw [Int.mul_comm (q % 2) P]
  omega
theorem num_bd (z : Int) (n : Nat) : 0 ≤ num z n ∧ num z n < 2 ^ n := by
  have := p2pos n
  exact ⟨Int.emod_nonneg _ (by omega), Int.emod_lt_of_pos _ this⟩
theorem p2mono {a b : Nat} (h : a ≤ b) : (2 : Int) ^ a ≤ 2 ^ b := by
  rw [show b = a + (b - a) by omega, ← p2add]
  have h1 := p2pos a
  have h2 := p2pos (b - a)
  have : (2 : Int) ^ a * 1 ≤ 2 ^ a * 2 ^ (b - a) := Int.mul_le_mul_of_nonneg_left (by omega) (by omega)
  omega
theorem p2_lt64 {i : Nat} (h : i < 64) : (2 : Int) ^ i * 2 ≤ 18446744073709551616 := by
  have := p2mono (a := i + 1) (b := 64) (by omega)
  rw [Int.pow_succ] at this
  simpa using this
/-- the bits of a sum -/
def cy (x y : Int) (i : Nat) : Int := (num x i + num y i) / 2 ^ i
theorem cy_zero (x y : Int) : cy x y 0 = 0 := by unfold cy; rw [num_zero, num_zero]; decide
theorem cy_01 (x y : Int) (i : Nat) : 0 ≤ cy x y i ∧ cy x y i ≤ 1 := by
  unfold cy
  have h1 := num_bd x i
  have h2 := num_bd y i
  have hP := p2pos i
  generalize (2 : Int) ^ i = P at *
  refine ⟨Int.ediv_nonneg (by omega) (by omega), ?_⟩
  have : (num x i + num y i) / P < 2 := Int.ediv_lt_of_lt_mul hP (by omega)
  omega
theorem cy_succ (x y : Int) (i : Nat) : cy x y (i + 1) = (dg x i + dg y i + cy x y i) / 2 ∧ dg (x + y) i = (dg x i + dg y i + cy x y i) % 2 := by
  have hP := p2pos i
  have e1 := num_succ x i
  have e2 := num_succ y i
  constructor
  · unfold cy
    rw [e1, e2, ← ediv2]
    generalize (2 : Int) ^ i = P at *
    rw [show num x i + dg x i * P + (num y i + dg y i * P) = num x i + num y i + (dg x i + dg y i) * P by rw [Int.add_mul]; omega, Int.add_mul_ediv_right _ _ (by omega)]
    congr 1
    omega
  · unfold cy
    have h1 := Int.mul_ediv_add_emod x (2 ^ i)
    have h2 := Int.mul_ediv_add_emod y (2 ^ i)
    have h3 : (x + y) / 2 ^ i = x / 2 ^ i + y / 2 ^ i + (num x i + num y i) / 2 ^ i := by
      unfold num
      generalize (2 : Int) ^ i = P at *
      have : x + y = (x % P + y % P) + (x / P + y / P) * P := by
        rw [Int.add_mul, Int.mul_comm _ P, Int.mul_comm _ P]; omega
      rw [this, Int.add_mul_ediv_right _ _ (by omega)]
      omega
    unfold dg
    rw [h3]
    omega
theorem dg_not (z : Int) (i : Nat) : dg (-1 - z) i = 1 - dg z i := by
  have h : (-1 - z) / 2 ^ i = -1 - z / 2 ^ i := by
    have hP := p2pos i
    have h1 := Int.mul_ediv_add_emod z (2 ^ i)
    have h2 := Int.emod_nonneg z (show (2 : Int) ^ i ≠ 0 by omega)
    have h3 := Int.emod_lt_of_pos z hP
    generalize (2 : Int) ^ i = P at *
    generalize z / P = q at *
    generalize z % P = r at *
    rw [← h1, show -1 - (P * q + r) = (P - 1 - r) + (-1 - q) * P by rw [Int.sub_mul, Int.mul_comm P q]; omega, Int.add_mul_ediv_right _ _ (by omega), Int.ediv_eq_zero_of_lt (by omega) (by omega)]
    omega
  unfold dg
  rw [h]
  omega
end Go.Xv
namespace Go.Xv
def sz (a : Int) : Int := if a < 0 then -a else a
end Go.Xv
namespace Go.Xv
theorem bp {α : Type} {c : Bool} {a b x : α} (h : c = true) (h2 : a = x) : (bif c then a else b) = x := by rw [h]; exact h2
theorem bn {α : Type} {c : Bool} {a b x : α} (h : c = false) (h2 : b = x) : (bif c then a else b) = x := by rw [h]; exact h2
theorem dt {p : Prop} [Decidable p] (h : p) : decide p = true := decide_eq_true h
theorem df {p : Prop} [Decidable p] (h : ¬ p) : decide p = false := decide_eq_false h
theorem fdiv_pos (a : Int) {b : Int} (h : 0 ≤ b) : Int.fdiv a b = a / b := Int.fdiv_eq_ediv_of_nonneg a h
theorem some_int {k : IntKind} {a b : Int} (h : a = b) : (some (VV.v (.int k a)) : R) = some (.v (.int k b)) := by rw [h]
theorem some_wd {a b : Int} {z : Int} (h : a = hi z) (k : b = lo z) : (some (VV.v (.agg #[.int .i64 a, .int .u64 b])) : R) = some (wd z) := by rw [h, k]; rfl

theorem f_bare (F : Nat) {a : Int} (h : I64 a) : f_wide_bare F a = some (.v (.int .u64 (if a < 0 then -a else a))) := by
  unfold f_wide_bare
  unfold I64 at h
  by_cases h0 : a < 0
  · refine bp (dt h0) (some_int ?_)
    rw [if_pos h0, wu64, wu64]; omega
  · refine bn (df h0) (some_int ?_)
    rw [if_neg h0, wu64]; omega

theorem f_product (F : Nat) {a b : Int} (ha : U64 a) (hb : U64 b) : f_wide_product F a b = some (wd (a * b)) := by
  unfold f_wide_product
  unfold U64 at ha hb
  have ea : a = a / 4294967296 * 4294967296 + a % 4294967296 := by omega
  have eb : b = b / 4294967296 * 4294967296 + b % 4294967296 := by omega
  have hp : 0 ≤ a / 4294967296 ∧ a / 4294967296 ≤ 4294967295 := by omega
  have hq : 0 ≤ a % 4294967296 ∧ a % 4294967296 ≤ 4294967295 := by omega
  have hr : 0 ≤ b / 4294967296 ∧ b / 4294967296 ≤ 4294967295 := by omega
  have hs : 0 ≤ b % 4294967296 ∧ b % 4294967296 ≤ 4294967295 := by omega
  have hab : a * b = (a / 4294967296) * (b / 4294967296) * 18446744073709551616 + ((a / 4294967296) * (b % 4294967296) + (a % 4294967296) * (b / 4294967296)) * 4294967296 + (a % 4294967296) * (b % 4294967296) := by
    generalize a / 4294967296 = p at *
    generalize a % 4294967296 = q at *
    generalize b / 4294967296 = r at *
    generalize b % 4294967296 = s at *
    subst ea eb
    simp only [Int.add_mul, Int.mul_add]
    have : p * 4294967296 * (r * 4294967296) = p * r * 18446744073709551616 := by
      rw [show (18446744073709551616 : Int) = 4294967296 * 4294967296 by decide]
      simp only [Int.mul_comm, Int.mul_assoc, Int.mul_left_comm]
    have : p * 4294967296 * s = p * s * 4294967296 := by simp only [Int.mul_comm, Int.mul_assoc, Int.mul_left_comm]
    have : q * (r * 4294967296) = q * r * 4294967296 := by simp only [Int.mul_assoc]
    omega
  have bd : ∀ x y : Int, (0 ≤ x ∧ x ≤ 4294967295) → (0 ≤ y ∧ y ≤ 4294967295) → 0 ≤ x * y ∧ x * y ≤ 18446744065119617025 := by
    intro x y hx hy
    have h1 := Int.mul_nonneg hx.1 hy.1
    have h2 : x * y ≤ 4294967295 * 4294967295 := Int.mul_le_mul hx.2 hy.2 hy.1 (by decide)
    exact ⟨h1, by simpa using h2⟩
  have b1 := bd _ _ hp hr
  have b2 := bd _ _ hp hs
  have b3 := bd _ _ hq hr
  have b4 := bd _ _ hq hs
  have m1 : ∀ x, U64 x → andI .u64 x 4294967295 = x % 4294967296 := fun x hx => mask32_u64 hx
  simp only [fdiv_pos _ (show (0 : Int) ≤ 4294967296 by decide)]
  rw [m1 a ha, m1 b hb]
  rw [hab]
  clear hab ea eb
  generalize a / 4294967296 * (b / 4294967296) = pr at *
  generalize a / 4294967296 * (b % 4294967296) = ps at *
  generalize a % 4294967296 * (b / 4294967296) = qr at *
  generalize a % 4294967296 * (b % 4294967296) = qs at *
  rw [wu64_in (x := qs) (by unfold U64; omega), wu64_in (x := ps) (by unfold U64; omega), wu64_in (x := qr) (by unfold U64; omega), wu64_in (x := pr) (by unfold U64; omega)]
  rw [wu64_in (x := ps + qs / 4294967296) (by unfold U64; omega)]
  rw [m1 _ (show U64 (ps + qs / 4294967296) by unfold U64; omega), m1 qs (by unfold U64; omega)]
  rw [wu64_in (x := (ps + qs / 4294967296) % 4294967296 + qr) (by unfold U64; omega)]
  have e : IntKind.wrap .u64 (((ps + qs / 4294967296) % 4294967296 + qr) * 4294967296) = (((ps + qs / 4294967296) % 4294967296 + qr) % 4294967296) * (2 ^ 32 : Nat) := by
    rw [wu64]; omega
  rw [e, or_add_u64 32 (by omega) (by omega) (by omega) (by omega)]
  refine some_wd ?_ ?_
  · simp only [wu64, wi64]; unfold hi; omega
  · unfold lo; omega

theorem f_Add (F : Nat) {a b c d : Int} (hb : U64 b) (hd : U64 d) : f_wide_Add F a b c d = some (wd (val a b + val c d)) := by
  unfold f_wide_Add
  unfold U64 at hb hd
  simp only [wu64, wi64]
  by_cases h : (b + d) % 18446744073709551616 < b
  · refine bp (dt h) (some_wd ?_ ?_)
    · unfold hi val; omega
    · unfold lo val; omega
  · refine bn (df h) (some_wd ?_ ?_)
    · unfold hi val; omega
    · unfold lo val; omega

theorem f_Neg (F : Nat) {a b : Int} (ha : I64 a) (hb : U64 b) : f_wide_Neg F a b = some (wd (-val a b)) := by
  unfold f_wide_Neg
  rw [not_i64 ha, not_u64 hb]
  unfold U64 at hb
  obtain ⟨h1, h2, h3⟩ := k_wide_Add F _ _ _ _ (f_Add F (a := -1 - a) (b := 18446744073709551615 - b) (c := 0) (d := 1) (by unfold U64; omega) (by unfold U64; omega))
  refine bp h1 ?_
  rw [h2, h3]
  refine some_wd (hi_eqv ?_) (lo_eqv ?_)
  all_goals unfold Eqv val; omega

theorem f_Mul (F : Nat) {a b : Int} (ha : I64 a) (hb : I64 b) : f_wide_Mul F a b = some (wd (a * b)) := by
  unfold f_wide_Mul
  obtain ⟨h1, h2⟩ := k_wide_bare F a (f_bare F ha)
  obtain ⟨h3, h4⟩ := k_wide_bare F b (f_bare F hb)
  unfold I64 at ha hb
  refine bp h1 (bp h3 ?_)
  simp only [h2, h4]
  obtain ⟨p1, p2, p3⟩ := k_wide_product F _ _ (f_product F (a := if a < 0 then -a else a) (b := if b < 0 then -b else b) (by unfold U64; split <;> omega) (by unfold U64; split <;> omega))
  refine bp p1 ?_
  simp only [p2, p3]
  have neg : ∀ z : Int, (bif ok_wide_Neg F (hi z) (lo z) then (some (.v (.agg #[.int .i64 (o_wide_Neg_0 F (hi z) (lo z)), .int .u64 (o_wide_Neg_1 F (hi z) (lo z))])) : R) else none) = some (wd (-z)) := by
    intro z
    obtain ⟨n1, n2, n3⟩ := k_wide_Neg F _ _ (f_Neg F (hi_I z) (lo_U z))
    refine bp n1 ?_
    rw [n2, n3, val_hl]
    exact some_wd (hi_eqv (W_eqv z).neg) (lo_eqv (W_eqv z).neg)
  by_cases h0 : a < 0 <;> by_cases k0 : b < 0
  · simp only [h0, k0, decide_true, if_true, BEq.rfl, Bool.not_true, cond_false, Int.neg_mul_neg]; rfl
  · simp only [h0, k0, decide_true, decide_false, if_true, if_false]
    refine bp (by decide) ?_
    rw [neg, Int.neg_mul, Int.neg_neg]
  · simp only [h0, k0, decide_true, decide_false, if_true, if_false]
    refine bp (by decide) ?_
    rw [neg, Int.mul_neg, Int.neg_neg]
  · simp only [h0, k0, decide_false, if_false, BEq.rfl, Bool.not_true, cond_false]; rfl
end Go.Xv
namespace Go.Xv
theorem some_bool {a b : Bool} (h : a = b) : (some (VV.v (.bool a)) : R) = some (.v (.bool b)) := by rw [h]
theorem nn (k : Nat) : (!decide ((k : Int) < 0)) = true := by rw [df (by omega)]; rfl
theorem p2min {m : Nat} (h : m ≤ 64) : min (Int.toNat (m : Int)) 64 = m := by omega

theorem f_Of (F : Nat) {n : Int} (h : I64 n) : f_wide_Of F n = some (wd n) := by
  unfold f_wide_Of
  unfold I64 at h
  refine some_wd ?_ ?_
  · rw [fdiv_pos _ (by decide)]; unfold hi; omega
  · rw [wu64]; rfl
theorem f_rOf (F : Nat) {n : Int} (h : I64 n) : f_ref01_Of F n = some (wd n) := by
  unfold f_ref01_Of
  unfold I64 at h
  by_cases h0 : n < 0
  · refine bp (dt h0) (some_wd ?_ ?_)
    · unfold hi; omega
    · rw [wu64]; rfl
  · refine bn (df h0) (some_wd ?_ ?_)
    · unfold hi; omega
    · rw [wu64]; rfl

/-- how far a number is shifted to the right at most -/
def cl (n : Int) : Nat := (if 127 < (if 0 > n then 0 else n) then 127 else (if 0 > n then 0 else n)).toNat
theorem f_Right (F : Nat) {a b n : Int} (ha : I64 a) (hb : U64 b) : f_wide_Right F a b n = some (wd (val a b / 2 ^ cl n)) := by
  unfold f_wide_Right cl
  dsimp only
  generalize hv : (if 127 < (if 0 > n then 0 else n) then (127 : Int) else (if 0 > n then 0 else n)) = v
  have hv2 : 0 ≤ v ∧ v ≤ 127 := by
    subst hv
    split <;> split <;> omega
  obtain ⟨m, rfl⟩ := Int.eq_ofNat_of_zero_le hv2.1
  simp only [Int.toNat_natCast]
  by_cases h : 64 ≤ m
  · refine bp (dt (by omega)) ?_
    rw [wi64_in (x := (m : Int) - 64) (by unfold I64; omega), show (m : Int) - 64 = ((m - 64 : Nat) : Int) by omega]
    refine bp (nn _) ?_
    rw [p2min (by omega), fdiv_pos _ (Int.le_of_lt (p2pos _))]
    obtain ⟨h1, h2, h3⟩ := k_wide_Of F _ (f_Of F (div_I64 ha (p2pos (m - 64))))
    refine bp h1 ?_
    rw [h2, h3, ← shr_great hb h]; rfl
  · refine bn (df (by omega)) ?_
    refine bp (nn _) (bp (nn _) ?_)
    rw [wi64_in (x := 64 - (m : Int)) (by unfold I64; omega), show 64 - (m : Int) = ((64 - m : Nat) : Int) by omega]
    refine bp (nn _) ?_
    rw [fdiv_pos _ (Int.le_of_lt (p2pos _)), fdiv_pos _ (Int.le_of_lt (p2pos _)), show min m 64 = m by omega, p2min (by omega), wu64, wu64]
    obtain ⟨h1, h2⟩ := shr_small ha hb (show m < 64 by omega)
    exact some_wd h1 h2

theorem f_Left (F : Nat) {a b n : Int} (hb : U64 b) : f_wide_Left F a b n = some (wd (val a b * 2 ^ n.toNat)) := by
  unfold f_wide_Left
  have hv : (if 0 > n then 0 else n) = ((n.toNat : Nat) : Int) := by split <;> omega
  rw [hv]
  generalize n.toNat = m
  simp only [Int.toNat_natCast]
  by_cases h : 128 ≤ m
  · refine bp (dt (by omega)) ?_
    obtain ⟨h1, h2⟩ := shl_all (h := a) (l := b) h
    exact some_wd h1 h2
  · refine bn (df (by omega)) ?_
    by_cases h : 64 ≤ m
    · refine bp (dt (by omega)) ?_
      rw [wi64_in (x := (m : Int) - 64) (by unfold I64; omega), show (m : Int) - 64 = ((m - 64 : Nat) : Int) by omega]
      refine bp (nn _) ?_
      rw [p2min (by omega), wu64]
      obtain ⟨h1, h2⟩ := shl_great (h := a) (l := b) h
      exact some_wd h1 h2
    · refine bn (df (by omega)) ?_
      refine bp (nn _) ?_
      rw [wi64_in (x := 64 - (m : Int)) (by unfold I64; omega), show 64 - (m : Int) = ((64 - m : Nat) : Int) by omega]
      refine bp (nn _) (bp (nn _) ?_)
      rw [fdiv_pos _ (Int.le_of_lt (p2pos _)), show min m 64 = m by omega, p2min (by omega), wu64, wu64, wu64]
      obtain ⟨h1, h2⟩ := shl_small (h := a) hb (show m < 64 by omega)
      exact some_wd h1 h2

/-- over a power of two, to the nearest one -/
def near (z : Int) (m : Nat) : Int := if m = 0 then z else z / 2 ^ m + z / 2 ^ (m - 1) % 2
theorem cl_pred {n : Int} (h : 0 < n) (h2 : n ≤ 127) : cl (n - 1) = cl n - 1 := by
  unfold cl
  rw [if_neg (show ¬ 0 > n by omega), if_neg (show ¬ 0 > n - 1 by omega), if_neg (by omega), if_neg (by omega)]
  omega
theorem lo_mod2 (z : Int) : lo z % 2 = z % 2 := by unfold lo; omega
theorem f_Near (F : Nat) {a b n : Int} (ha : I64 a) (hb : U64 b) : f_wide_Near F a b n = some (wd (near (val a b) (cl n))) := by
  unfold f_wide_Near
  by_cases h : n ≤ 0
  · rw [if_neg (show ¬ 127 < n by omega)]
    refine bp (dt h) ?_
    have : cl n = 0 := by
      unfold cl
      rw [if_neg]
      · split <;> omega
      · split <;> omega
    rw [this]
    exact some_wd (hi_val ha hb).symm (lo_val hb).symm
  · generalize hv : (if 127 < n then 127 else n) = v
    have hc : cl n = cl v := by
      subst hv
      unfold cl
      by_cases hn : 127 < n
      · rw [if_pos hn, if_neg (show ¬ 0 > n by omega), if_pos hn]; decide
      · rw [if_neg hn]
    have hv1 : 0 < v ∧ v ≤ 127 := by subst hv; split <;> omega
    refine bn (df (by omega)) ?_
    obtain ⟨h1, h2, h3⟩ := k_wide_Right F _ _ _ (f_Right F (n := v) ha hb)
    refine bp h1 ?_
    rw [wi64_in (x := v - 1) (by unfold I64; omega)]
    obtain ⟨g1, g2, g3⟩ := k_wide_Right F _ _ _ (f_Right F (n := v - 1) ha hb)
    refine bp g1 ?_
    rw [h2, h3, g3, mask1_u64 (lo_U _), lo_mod2, cl_pred hv1.1 hv1.2, ← hc]
    have hm : cl n ≠ 0 := by
      rw [hc]
      unfold cl
      rw [if_neg (show ¬ 0 > v by omega), if_neg (by omega)]
      omega
    obtain ⟨k1, k2, k3⟩ := k_wide_Add F _ _ _ _ (f_Add F (a := hi (val a b / 2 ^ cl n)) (c := 0) (d := val a b / 2 ^ (cl n - 1) % 2) (lo_U (val a b / 2 ^ cl n)) (by unfold U64; omega))
    refine bp k1 ?_
    rw [k2, k3, val_hl]
    unfold near
    rw [if_neg hm]
    refine some_wd (hi_eqv ?_) (lo_eqv ?_)
    all_goals exact (W_eqv _).add (show Eqv (val 0 _) _ by unfold val; rw [Int.zero_mul, Int.zero_add]; exact rfl)

theorem f_Sign (F : Nat) {a b : Int} (hb : U64 b) : f_wide_Sign F a b = some (.v (.int .i64 (if val a b < 0 then -1 else if val a b = 0 then 0 else 1))) := by
  unfold f_wide_Sign val
  unfold U64 at hb
  by_cases h : a < 0
  · refine bp (dt h) (some_int ?_)
    rw [if_pos (by omega)]
  · refine bn (df h) ?_
    by_cases h2 : a = 0 ∧ b = 0
    · refine bp (by simp [h2]) (some_int ?_)
      rw [if_neg (by omega), if_pos (by omega)]
    · refine bn (by simp; omega) (some_int ?_)
      rw [if_neg (by omega), if_neg (by omega)]
theorem f_Less (F : Nat) {a b c d : Int} (hb : U64 b) (hd : U64 d) : f_wide_Less F a b c d = some (.v (.bool (decide (val a b < val c d)))) := by
  unfold f_wide_Less val
  unfold U64 at hb hd
  by_cases h : a = c
  · refine bn (by simp [h]) (some_bool ?_)
    rw [decide_eq_decide]; omega
  · refine bp (by simp [h]) (some_bool ?_)
    rw [decide_eq_decide]; omega
end Go.Xv
namespace Go.Xv
theorem lo_step (z : Int) (i : Nat) : IntKind.wrap .u64 (Int.tdiv (lo z / 2 ^ i) 2) = lo z / 2 ^ (i + 1) := by
  have h := lo_U z
  unfold U64 at h
  have h1 := Int.ediv_nonneg h.1 (Int.le_of_lt (p2pos i))
  have h2 := Int.ediv_le_self (2 ^ i) h.1
  rw [Int.tdiv_eq_ediv_of_nonneg h1, ediv2, wu64_in]
  have h3 := Int.ediv_nonneg h.1 (Int.le_of_lt (p2pos (i + 1)))
  have h4 := Int.ediv_le_self (2 ^ (i + 1)) h.1
  unfold U64; omega
theorem lo_bit (z : Int) {i : Nat} (h : i < 64) : IntKind.wrap .i64 (Int.tmod (lo z / 2 ^ i) 2) = dg z i := by
  have h0 := lo_U z
  unfold U64 at h0
  have h1 := Int.ediv_nonneg h0.1 (Int.le_of_lt (p2pos i))
  rw [Int.tmod_eq_emod_of_nonneg h1, dg_lo z h, wi64_in]
  have := dg_01 z i
  unfold I64; omega
theorem cap_ok (z : Int) (i : Nat) (h : i < 1000) : (((decide ((0 + (i * 1)) ≤ (ds z i).length)) && true) && (decide ((i + 1) * 9 ≤ bigger))) = true := by
  rw [ds_len, dt (by omega), dt (show (i + 1) * 9 ≤ bigger by unfold bigger; omega)]; rfl
theorem lp_Digits_0 (F : Nat) (ex) (z x0 x1 x5 x6 : Int) : ∀ (k n i : Nat) (x3 x4 : Int) (x7 : List VV), i + k = 64 → k < n → x3 = lo z / 2 ^ i → x4 = i → x7 = ds z i →
    L_ref01_Digits_0 F ex n x0 x1 i x3 x4 x5 x6 x7 = ex x0 x1 64 (lo z / 2 ^ 64) 64 x5 x6 (ds z 64)
  | _, 0, _, _, _, _, _, h, _, _, _ => absurd h (by omega)
  | 0, n + 1, i, _, _, _, h, _, rfl, rfl, rfl => by
    obtain rfl : i = 64 := by omega
    rw [L_ref01_Digits_0]
    unfold B_ref01_Digits_0
    exact bn (df (by omega)) rfl
  | k + 1, n + 1, i, _, _, _, h, hn, rfl, rfl, rfl => by
    rw [L_ref01_Digits_0]
    unfold B_ref01_Digits_0
    refine bp (dt (by omega)) (bp (cap_ok z _ (by omega)) ?_)
    refine lp_Digits_0 F ex z x0 x1 x5 x6 k n (i + 1) _ _ _ (by omega) (by omega) (lo_step z i) ?_ ?_
    · rw [wi64_in (by unfold I64; omega)]; push_cast; rfl
    · rw [ds_take, lo_bit z (by omega), ← ds_succ]
def up (z : Int) : Int := z / 18446744073709551616 % 18446744073709551616
theorem lp_Digits_1 (F : Nat) (ex) (z x0 x1 x3 x4 x7 x8 : Int) : ∀ (k n i j : Nat) (x5 x6 : Int) (x9 : List VV), i + k = 64 → j = 64 + i → k < n → x5 = up z / 2 ^ i → x6 = i → x9 = ds z j →
    L_ref01_Digits_1 F ex n x0 x1 j x3 x4 x5 x6 x7 x8 x9 = ex x0 x1 128 x3 x4 (up z / 2 ^ 64) 64 x7 x8 (ds z 128)
  | _, 0, _, _, _, _, _, _, _, h, _, _, _ => absurd h (by omega)
  | 0, n + 1, i, j, _, _, _, h, hj, _, rfl, rfl, rfl => by
    obtain rfl : i = 64 := by omega
    obtain rfl : j = 128 := by omega
    rw [L_ref01_Digits_1]
    unfold B_ref01_Digits_1
    exact bn (df (by omega)) rfl
  | k + 1, n + 1, i, j, _, _, _, h, hj, hn, rfl, rfl, rfl => by
    rw [L_ref01_Digits_1]
    unfold B_ref01_Digits_1
    refine bp (dt (by omega)) (bp (cap_ok z _ (by omega)) ?_)
    have e : up z = lo (z / 18446744073709551616) := rfl
    refine lp_Digits_1 F ex z x0 x1 x3 x4 x7 x8 k n (i + 1) (j + 1) _ _ _ (by omega) (by omega) (by omega) ?_ ?_ ?_
    · rw [e, lo_step]
    · rw [wi64_in (by unfold I64; omega)]; push_cast; rfl
    · rw [ds_take, e, lo_bit _ (by omega), ← dg_lo _ (by omega), ← e]
      unfold up
      rw [dg_hi z (by omega), ← hj, ← ds_succ]
theorem f_Digits (F : Nat) (hF : 200 ≤ F) {a b : Int} (hb : U64 b) : f_ref01_Digits F a b = some (.fs (ds (val a b) 128) 0 128 1) := by
  unfold f_ref01_Digits
  have hl := lo_val (h := a) hb
  rw [lp_Digits_0 F _ (val a b) a b a b 64 F 0 b 0 [] (by omega) (by omega) (by rw [hl]; simp) rfl rfl]
  rw [lp_Digits_1 F _ (val a b) a b _ _ _ _ 64 F 0 64 _ 0 _ (by omega) (by omega) (by omega) ?_ rfl rfl]
  rw [wu64]
  unfold up val
  unfold U64 at hb
  simp only [Int.pow_zero]
  omega

theorem num_iv (l : List VV) (i : Nat) (b : Int) (h : l[i]? = some (.v (.int .i64 b))) : isI .i64 l[i]? = true ∧ iv l[i]? = b := by
  rw [h]
  exact ⟨rfl, rfl⟩
theorem zmul (i : Nat) : (0 + ((Int.toNat (i : Int)) * 1)) = i := by simp
theorem lp_Number_0 (F : Nat) (ex) (z : Int) (l : List VV) (x1 : Nat) (x3 x6 x7 : Int) (h1 : 64 ≤ x1) (hl : ∀ i : Nat, i < 64 → l[i]? = some (.v (.int .i64 (dg z i)))) : ∀ (k n i : Nat) (x2 x4 x5 : Int), i + k = 64 → k < n → x2 = num z i → x4 = (2 ^ i) % 18446744073709551616 → x5 = i →
    L_ref01_Number_0 F ex n l x1 x2 x3 x4 x5 x6 x7 = ex l x1 (num z 64) x3 0 64 x6 x7
  | _, 0, _, _, _, _, _, h, _, _, _ => absurd h (by omega)
  | 0, n + 1, i, _, _, _, h, _, rfl, rfl, rfl => by
    obtain rfl : i = 64 := by omega
    rw [L_ref01_Number_0]
    unfold B_ref01_Number_0
    exact bn (df (by omega)) rfl
  | k + 1, n + 1, i, _, _, _, h, hn, rfl, rfl, rfl => by
    have hi : i < 64 := by omega
    obtain ⟨g1, g2⟩ := num_iv l i _ (hl i hi)
    have hd := dg_01 z i
    have hp := p2pos i
    have hp2 := p2_lt64 hi
    have hb := num_bd z i
    rw [L_ref01_Number_0]
    unfold B_ref01_Number_0
    refine bp (dt (by omega)) (bp (dt (by omega)) (bp (by simp; omega) (bp (by rw [zmul, g1]; rfl) ?_)))
    rw [zmul, g2, wu64_in (x := dg z i) (by unfold U64; omega)]
    refine lp_Number_0 F ex z l x1 x3 x6 x7 h1 hl k n (i + 1) _ _ _ (by omega) (by omega) ?_ ?_ ?_
    · rw [num_succ]
      generalize (2 : Int) ^ i = P at *
      rw [Int.emod_eq_of_lt (a := P) (by omega) (by omega)]
      have : 0 ≤ dg z i * P ∧ dg z i * P ≤ P := by
        rcases (show dg z i = 0 ∨ dg z i = 1 by omega) with h | h <;> rw [h] <;> omega
      rw [wu64_in (x := dg z i * P) (by unfold U64; omega), wu64_in (by unfold U64; omega)]
    · rw [wu64, Int.pow_succ]
      omega
    · rw [wi64_in (by unfold I64; omega)]; push_cast; rfl
theorem lp_Number_1 (F : Nat) (ex) (z : Int) (l : List VV) (x1 : Nat) (x2 x5 x7 x8 : Int) (h1 : 128 ≤ x1) (hl : ∀ i : Nat, i < 64 → l[64 + i]? = some (.v (.int .i64 (dg z i)))) : ∀ (k n i : Nat) (x3 x4 x6 : Int), i + k = 64 → k < n → x3 = num z i → x4 = (2 ^ i) % 18446744073709551616 → x6 = 64 + i →
    L_ref01_Number_1 F ex n l x1 x2 x3 x4 x5 x6 x7 x8 = ex l x1 x2 (num z 64) 0 x5 128 x7 x8
  | _, 0, _, _, _, _, _, h, _, _, _ => absurd h (by omega)
  | 0, n + 1, i, _, _, _, h, _, rfl, rfl, rfl => by
    obtain rfl : i = 64 := by omega
    rw [L_ref01_Number_1]
    unfold B_ref01_Number_1
    exact bn (df (by omega)) rfl
  | k + 1, n + 1, i, _, _, _, h, hn, rfl, rfl, rfl => by
    have hi : i < 64 := by omega
    obtain ⟨g1, g2⟩ := num_iv l (64 + i) _ (hl i hi)
    have hd := dg_01 z i
    have hp := p2pos i
    have hp2 := p2_lt64 hi
    have hb := num_bd z i
    have zm : (0 + ((Int.toNat (64 + (i : Int))) * 1)) = 64 + i := by omega
    rw [L_ref01_Number_1]
    unfold B_ref01_Number_1
    refine bp (dt (by omega)) (bp (dt (by omega)) (bp (by simp; omega) (bp (by rw [zm, g1]; rfl) ?_)))
    rw [zm, g2, wu64_in (x := dg z i) (by unfold U64; omega)]
    refine lp_Number_1 F ex z l x1 x2 x5 x7 x8 h1 hl k n (i + 1) _ _ _ (by omega) (by omega) ?_ ?_ ?_
    · rw [num_succ]
      generalize (2 : Int) ^ i = P at *
      rw [Int.emod_eq_of_lt (a := P) (by omega) (by omega)]
      have : 0 ≤ dg z i * P ∧ dg z i * P ≤ P := by
        rcases (show dg z i = 0 ∨ dg z i = 1 by omega) with h | h <;> rw [h] <;> omega
      rw [wu64_in (x := dg z i * P) (by unfold U64; omega), wu64_in (by unfold U64; omega)]
    · rw [wu64, Int.pow_succ]
      omega
    · rw [wi64_in (by unfold I64; omega)]; push_cast; omega
theorem dg_up (z : Int) (i : Nat) : dg z (64 + i) = dg (z / 18446744073709551616) i := by
  unfold dg
  rw [show (18446744073709551616 : Int) = 2 ^ 64 by decide, Int.ediv_ediv_of_nonneg (by decide), p2add]
theorem f_Number (F : Nat) (hF : 200 ≤ F) (z : Int) : f_ref01_Number F (ds z 128) 128 = some (wd z) := by
  unfold f_ref01_Number
  rw [lp_Number_0 F _ z (ds z 128) 128 0 0 0 (by omega) (fun i hi => ds_get z (by omega)) 64 F 0 0 1 0 (by omega) (by omega) (num_zero z).symm (by decide) rfl]
  rw [lp_Number_1 F _ (z / 18446744073709551616) (ds z 128) 128 _ _ _ _ (by omega) (fun i hi => by rw [ds_get z (by omega), dg_up]) 64 F 0 0 1 64 (by omega) (by omega) (num_zero _).symm (by decide) rfl]
  refine some_wd ?_ ?_
  · rw [wi64]; unfold num hi
    rw [show (2 : Int) ^ 64 = 18446744073709551616 by decide]
    omega
  · unfold num lo
    rw [show (2 : Int) ^ 64 = 18446744073709551616 by decide]
end Go.Xv
namespace Go.Xv
theorem wi64_s (i : Nat) (h : i < 1000) : IntKind.wrap .i64 ((i : Int) + 1) = ((i + 1 : Nat) : Int) := by
  rw [wi64_in (by unfold I64; omega)]; push_cast; rfl
theorem ix_ok (i n : Nat) (h : i < n) : ((decide (0 ≤ (i : Int))) && (decide ((i : Int) < ((n : Nat) : Int)))) = true := by
  rw [dt (by omega), dt (by omega)]; rfl
theorem isI_ds (z : Int) {i n : Nat} (h : i < n) : ((isI .i64 (ds z n)[0 + ((Int.toNat (i : Int)) * 1)]?) && true) = true := by
  rw [zmul, ds_get z h]; rfl
theorem iv_ds (z : Int) {i n : Nat} (h : i < n) : iv (ds z n)[0 + ((Int.toNat (i : Int)) * 1)]? = dg z i := by
  rw [zmul, ds_get z h]; rfl
theorem lp_Add_0 (F : Nat) (ex) (x y a b c d x9 x10 x11 x12 x13 x14 : Int) : ∀ (k n i : Nat) (x7 x8 : Int) (l : List VV), i + k = 128 → k < n → x7 = cy x y i → x8 = i → l = ds (x + y) i →
    L_ref01_Add_0 F ex n a b c d 128 128 i x7 x8 x9 x10 x11 x12 x13 x14 (ds x 128) (ds y 128) l = ex a b c d 128 128 128 (cy x y 128) 128 x9 x10 x11 x12 x13 x14 (ds x 128) (ds y 128) (ds (x + y) 128)
  | _, 0, _, _, _, _, _, h, _, _, _ => absurd h (by omega)
  | 0, n + 1, i, _, _, _, h, _, rfl, rfl, rfl => by
    obtain rfl : i = 128 := by omega
    rw [L_ref01_Add_0]
    unfold B_ref01_Add_0
    exact bn (df (by omega)) rfl
  | k + 1, n + 1, i, _, _, _, h, hn, rfl, rfl, rfl => by
    have hi : i < 128 := by omega
    rw [L_ref01_Add_0]
    unfold B_ref01_Add_0
    have h1 := dg_01 x i
    have h2 := dg_01 y i
    have h3 := cy_01 x y i
    obtain ⟨e1, e2⟩ := cy_succ x y i
    refine bp (dt (by omega)) (bp (ix_ok i 128 hi) (bp (isI_ds x hi) (bp (ix_ok i 128 hi) (bp (isI_ds y hi) ?_))))
    dsimp only
    rw [iv_ds x hi, iv_ds y hi, wi64_in (x := dg x i + dg y i) (by unfold I64; omega), wi64_in (x := dg x i + dg y i + cy x y i) (by unfold I64; omega)]
    refine bp (cap_ok _ _ (by omega)) ?_
    refine lp_Add_0 F ex x y a b c d x9 x10 x11 x12 x13 x14 k n (i + 1) _ _ _ (by omega) (by omega) ?_ (wi64_s i (by omega)) ?_
    · rw [Int.tdiv_eq_ediv_of_nonneg (by omega), ← e1, wi64_in]
      have := cy_01 x y (i + 1)
      unfold I64; omega
    · rw [ds_take, Int.tmod_eq_emod_of_nonneg (by omega), ← e2, ← ds_succ]
theorem f_rAdd (F : Nat) (hF : 200 ≤ F) {a b c d : Int} (hb : U64 b) (hd : U64 d) : f_ref01_Add F a b c d = some (wd (val a b + val c d)) := by
  unfold f_ref01_Add
  obtain ⟨h1, h2, h3⟩ := k_ref01_Digits F _ _ (f_Digits F hF (a := a) hb)
  obtain ⟨g1, g2, g3⟩ := k_ref01_Digits F _ _ (f_Digits F hF (a := c) hd)
  refine bp h1 (bp g1 ?_)
  rw [h2, h3, g2, g3]
  rw [lp_Add_0 F _ (val a b) (val c d) a b c d a b c d 0 0 128 F 0 0 0 [] (by omega) (by omega) (cy_zero _ _).symm rfl rfl]
  obtain ⟨n1, n2, n3⟩ := k_ref01_Number F _ _ (f_Number F hF (val a b + val c d))
  refine bp n1 ?_
  rw [n2, n3]; rfl
theorem lp_Neg_0 (F : Nat) (ex) (z x0 x1 x4 x5 x6 x7 : Int) : ∀ (k n i : Nat) (x3 : Int) (l : List VV), i + k = 128 → k < n → x3 = i → l = ds (-1 - z) i ++ (ds z 128).drop i →
    L_ref01_Neg_0 F ex n x0 x1 128 x3 x4 x5 x6 x7 l = ex x0 x1 128 128 x4 x5 x6 x7 (ds (-1 - z) 128)
  | _, 0, _, _, _, _, h, _, _ => absurd h (by omega)
  | 0, n + 1, i, _, _, h, _, rfl, rfl => by
    obtain rfl : i = 128 := by omega
    rw [L_ref01_Neg_0]
    unfold B_ref01_Neg_0
    refine bn (df (by omega)) ?_
    rw [List.drop_eq_nil_of_le (by rw [ds_len]; omega), List.append_nil]; rfl
  | k + 1, n + 1, i, _, _, h, hn, rfl, rfl => by
    have hi : i < 128 := by omega
    have hg : (ds (-1 - z) i ++ (ds z 128).drop i)[0 + ((Int.toNat (i : Int)) * 1)]? = some (.v (.int .i64 (dg z i))) := by
      rw [zmul, List.getElem?_append_right (by rw [ds_len]; omega), ds_len, Nat.sub_self, List.getElem?_drop, Nat.add_zero, ds_get z hi]
    rw [L_ref01_Neg_0]
    unfold B_ref01_Neg_0
    have h1 := dg_01 z i
    refine bp (dt (by omega)) (bp (ix_ok i 128 hi) (bp (by rw [hg]; rfl) (bp (ix_ok i 128 hi) (bp ?_ ?_))))
    · rw [zmul, dt]
      rw [List.length_append, List.length_drop, ds_len, ds_len]; omega
    · rw [hg]
      refine lp_Neg_0 F ex z x0 x1 x4 x5 x6 x7 k n (i + 1) _ _ (by omega) (by omega) (wi64_s i (by omega)) ?_
      rw [zmul, show iv (some (VV.v (.int .i64 (dg z i)))) = dg z i from rfl, wi64_in (by unfold I64; omega), ← dg_not, ds_succ (-1 - z) i]
      rw [List.take_append_of_le_length (by rw [ds_len]; omega), List.take_of_length_le (by rw [ds_len]; omega), List.drop_append, ds_len, List.drop_drop, List.drop_eq_nil_of_le (by rw [ds_len]; omega)]
      rw [show i + (i + 1 - i) = i + 1 by omega]
      simp
theorem f_rNeg (F : Nat) (hF : 200 ≤ F) {a b : Int} (hb : U64 b) : f_ref01_Neg F a b = some (wd (-val a b)) := by
  unfold f_ref01_Neg
  obtain ⟨h1, h2, h3⟩ := k_ref01_Digits F _ _ (f_Digits F hF (a := a) hb)
  refine bp h1 ?_
  rw [h2, h3]
  rw [lp_Neg_0 F _ (val a b) a b a b 0 0 128 F 0 0 _ (by omega) (by omega) rfl (by simp [ds_zero])]
  obtain ⟨n1, n2, n3⟩ := k_ref01_Number F _ _ (f_Number F hF (-1 - val a b))
  refine bp n1 ?_
  dsimp only
  obtain ⟨o1, o2, o3⟩ := k_ref01_Of F _ (f_rOf F (n := 1) (by unfold I64; omega))
  refine bp o1 ?_
  rw [n2, n3, o2, o3]
  obtain ⟨p1, p2, p3⟩ := k_ref01_Add F _ _ _ _ (f_rAdd F hF (a := hi (-1 - val a b)) (c := hi 1) (lo_U (-1 - val a b)) (lo_U 1))
  refine bp p1 ?_
  rw [p2, p3]
  have e : Eqv (val (hi (-1 - val a b)) (lo (-1 - val a b)) + val (hi 1) (lo 1)) (-val a b) := by
    rw [val_hl, val_hl]
    have := (W_eqv (-1 - val a b)).add (W_eqv 1)
    rw [show -1 - val a b + 1 = -val a b by omega] at this
    exact this
  exact some_wd (hi_eqv e) (lo_eqv e)
end Go.Xv
namespace Go.Xv
theorem a_Add (F : Nat) (x y : Int) : ok_wide_Add F (hi x) (lo x) (hi y) (lo y) = true ∧ o_wide_Add_0 F (hi x) (lo x) (hi y) (lo y) = hi (x + y) ∧ o_wide_Add_1 F (hi x) (lo x) (hi y) (lo y) = lo (x + y) := by
  obtain ⟨h1, h2, h3⟩ := k_wide_Add F _ _ _ _ (f_Add F (a := hi x) (c := hi y) (lo_U x) (lo_U y))
  rw [h2, h3, val_hl, val_hl]
  have e := (W_eqv x).add (W_eqv y)
  exact ⟨h1, hi_eqv e, lo_eqv e⟩
theorem a_rAdd (F : Nat) (hF : 200 ≤ F) (x y : Int) : ok_ref01_Add F (hi x) (lo x) (hi y) (lo y) = true ∧ o_ref01_Add_0 F (hi x) (lo x) (hi y) (lo y) = hi (x + y) ∧ o_ref01_Add_1 F (hi x) (lo x) (hi y) (lo y) = lo (x + y) := by
  obtain ⟨h1, h2, h3⟩ := k_ref01_Add F _ _ _ _ (f_rAdd F hF (a := hi x) (c := hi y) (lo_U x) (lo_U y))
  rw [h2, h3, val_hl, val_hl]
  have e := (W_eqv x).add (W_eqv y)
  exact ⟨h1, hi_eqv e, lo_eqv e⟩
theorem a_Neg (F : Nat) (x : Int) : ok_wide_Neg F (hi x) (lo x) = true ∧ o_wide_Neg_0 F (hi x) (lo x) = hi (-x) ∧ o_wide_Neg_1 F (hi x) (lo x) = lo (-x) := by
  obtain ⟨h1, h2, h3⟩ := k_wide_Neg F _ _ (f_Neg F (hi_I x) (lo_U x))
  rw [h2, h3, val_hl]
  exact ⟨h1, hi_eqv (W_eqv x).neg, lo_eqv (W_eqv x).neg⟩
theorem a_rNeg (F : Nat) (hF : 200 ≤ F) (x : Int) : ok_ref01_Neg F (hi x) (lo x) = true ∧ o_ref01_Neg_0 F (hi x) (lo x) = hi (-x) ∧ o_ref01_Neg_1 F (hi x) (lo x) = lo (-x) := by
  obtain ⟨h1, h2, h3⟩ := k_ref01_Neg F _ _ (f_rNeg F hF (a := hi x) (lo_U x))
  rw [h2, h3, val_hl]
  exact ⟨h1, hi_eqv (W_eqv x).neg, lo_eqv (W_eqv x).neg⟩
theorem a_Of (F : Nat) {n : Int} (h : I64 n) : ok_wide_Of F n = true ∧ o_wide_Of_0 F n = hi n ∧ o_wide_Of_1 F n = lo n := k_wide_Of F _ (f_Of F h)
theorem a_rOf (F : Nat) {n : Int} (h : I64 n) : ok_ref01_Of F n = true ∧ o_ref01_Of_0 F n = hi n ∧ o_ref01_Of_1 F n = lo n := k_ref01_Of F _ (f_rOf F h)
theorem a_Mul (F : Nat) {a b : Int} (ha : I64 a) (hb : I64 b) : ok_wide_Mul F a b = true ∧ o_wide_Mul_0 F a b = hi (a * b) ∧ o_wide_Mul_1 F a b = lo (a * b) := k_wide_Mul F _ _ (f_Mul F ha hb)
theorem a_Near (F : Nat) {x : Int} (n : Int) (h : W128 x) : ok_wide_Near F (hi x) (lo x) n = true ∧ o_wide_Near_0 F (hi x) (lo x) n = hi (near x (cl n)) ∧ o_wide_Near_1 F (hi x) (lo x) n = lo (near x (cl n)) := by
  have := k_wide_Near F _ _ n (f_Near F (n := n) (hi_I x) (lo_U x))
  rw [val_hl, W_in h] at this
  exact this
theorem lp_Mul_0 (F : Nat) (hF : 200 ≤ F) (ex) (a b x0 x1 x4 x5 : Int) : ∀ (k n i : Nat) (x3 x6 x7 x8 x9 : Int), i + k = 127 → k < n → x3 = i → x6 = hi (a * num b i) → x7 = lo (a * num b i) → x8 = hi (a * 2 ^ i) → x9 = lo (a * 2 ^ i) →
    L_ref01_Mul_0 F ex n x0 x1 128 x3 x4 x5 x6 x7 x8 x9 (ds b 128) = ex x0 x1 128 127 x4 x5 (hi (a * num b 127)) (lo (a * num b 127)) (hi (a * 2 ^ 127)) (lo (a * 2 ^ 127)) (ds b 128)
  | _, 0, _, _, _, _, _, _, _, h, _, _, _, _, _ => absurd h (by omega)
  | 0, n + 1, i, _, _, _, _, _, h, _, rfl, rfl, rfl, rfl, rfl => by
    obtain rfl : i = 127 := by omega
    rw [L_ref01_Mul_0]
    unfold B_ref01_Mul_0
    exact bn (df (by omega)) rfl
  | k + 1, n + 1, i, _, _, _, _, _, h, hn, rfl, rfl, rfl, rfl, rfl => by
    have hi' : i < 128 := by omega
    rw [L_ref01_Mul_0]
    unfold B_ref01_Mul_0
    refine bp (dt (by omega)) (bp (ix_ok i 128 hi') (bp (isI_ds b hi') ?_))
    rw [iv_ds b hi']
    obtain ⟨d1, d2, d3⟩ := a_rAdd F hF (a * 2 ^ i) (a * 2 ^ i)
    have e2 : a * 2 ^ i + a * 2 ^ i = a * 2 ^ (i + 1) := by rw [Int.pow_succ, ← Int.mul_assoc]; omega
    rw [e2] at d2 d3
    rcases (show dg b i = 0 ∨ dg b i = 1 by have := dg_01 b i; omega) with hd | hd
    · refine bn (by rw [hd]; rfl) (bp d1 ?_)
      have e : num b (i + 1) = num b i := by rw [num_succ, hd]; omega
      exact lp_Mul_0 F hF ex a b x0 x1 x4 x5 k n (i + 1) _ _ _ _ _ (by omega) (by omega) (wi64_s i (by omega)) (by rw [e]) (by rw [e]) d2 d3
    · obtain ⟨c1, c2, c3⟩ := a_rAdd F hF (a * num b i) (a * 2 ^ i)
      have e : a * num b i + a * 2 ^ i = a * num b (i + 1) := by rw [num_succ, hd, Int.mul_add, Int.one_mul]
      rw [e] at c2 c3
      refine bp (by rw [hd]; rfl) (bp c1 (bp d1 ?_))
      exact lp_Mul_0 F hF ex a b x0 x1 x4 x5 k n (i + 1) _ _ _ _ _ (by omega) (by omega) (wi64_s i (by omega)) c2 c3 d2 d3
theorem num_127 {b : Int} (h : W128 b) : b = num b 127 - dg b 127 * 2 ^ 127 := by
  unfold num dg
  unfold W128 at h
  rw [show (2 : Int) ^ 127 = 170141183460469231731687303715884105728 by decide]
  omega
theorem I64_W {b : Int} (h : I64 b) : W128 b := by unfold I64 at h; unfold W128; omega
theorem f_rMul (F : Nat) (hF : 200 ≤ F) {a b : Int} (ha : I64 a) (hb : I64 b) : f_ref01_Mul F a b = some (wd (a * b)) := by
  unfold f_ref01_Mul
  obtain ⟨h1, h2, h3⟩ := a_rOf F ha
  obtain ⟨g1, g2, g3⟩ := a_rOf F hb
  obtain ⟨d1, d2, d3⟩ := k_ref01_Digits F _ _ (f_Digits F hF (a := hi b) (lo_U b))
  rw [val_hl, W_in (I64_W hb)] at d2
  refine bp h1 (bp g1 ?_)
  rw [g2, g3, h2, h3]
  refine bp d1 ?_
  rw [d2, d3]
  rw [lp_Mul_0 F hF _ a b a b 0 0 127 F 0 0 0 0 _ _ (by omega) (by omega) rfl (by rw [num_zero, Int.mul_zero]; rfl) (by rw [num_zero, Int.mul_zero]; rfl) (by rw [Int.pow_zero, Int.mul_one]) (by rw [Int.pow_zero, Int.mul_one])]
  have hn := num_127 (I64_W hb)
  refine bp (dt (by decide)) (bp (isI_ds b (i := 127) (by omega)) ?_)
  have hg : iv (ds b 128)[127]? = dg b 127 := by rw [ds_get b (by omega)]; rfl
  rw [hg]
  rcases (show dg b 127 = 0 ∨ dg b 127 = 1 by have := dg_01 b 127; omega) with hd | hd
  · refine bn (by rw [hd]; rfl) ?_
    rw [hd] at hn
    rw [show num b 127 = b by omega]; rfl
  · obtain ⟨n1, n2, n3⟩ := a_rNeg F hF (a * 2 ^ 127)
    refine bp (by rw [hd]; rfl) (bp n1 ?_)
    rw [n2, n3]
    obtain ⟨c1, c2, c3⟩ := a_rAdd F hF (a * num b 127) (-(a * 2 ^ 127))
    refine bp c1 ?_
    rw [c2, c3]
    rw [hd] at hn
    have e : a * num b 127 + -(a * 2 ^ 127) = a * b := by
      rw [show num b 127 = b + 2 ^ 127 by omega, Int.mul_add]; omega
    rw [e]; rfl
theorem a_rMul (F : Nat) (hF : 200 ≤ F) {a b : Int} (ha : I64 a) (hb : I64 b) : ok_ref01_Mul F a b = true ∧ o_ref01_Mul_0 F a b = hi (a * b) ∧ o_ref01_Mul_1 F a b = lo (a * b) := k_ref01_Mul F _ _ (f_rMul F hF ha hb)
end Go.Xv
namespace Go.Xv
theorem f_rLess (F : Nat) {a b c d : Int} (hb : U64 b) (hd : U64 d) : f_ref01_Less F a b c d = some (.v (.bool (decide (val a b < val c d)))) := by
  unfold f_ref01_Less val
  unfold U64 at hb hd
  by_cases h : a < c
  · refine bp (dt h) (some_bool ?_)
    exact (dt (by omega)).symm
  · refine bn (df h) ?_
    by_cases h2 : a = c
    · refine bp (by simp [h2]) (some_bool ?_)
      rw [decide_eq_decide]; omega
    · refine bn (by simp [h2]) (some_bool ?_)
      exact (df (by omega)).symm
theorem W_div {y : Int} (h : W128 y) (i : Nat) : W128 (y / 2 ^ i) := by
  have hP := p2pos i
  unfold W128 at *
  generalize (2 : Int) ^ i = P at *
  rcases Int.lt_or_le y 0 with hn | hn
  · constructor
    · rw [Int.le_ediv_iff_mul_le hP]
      have : -170141183460469231731687303715884105728 * P ≤ -170141183460469231731687303715884105728 * 1 := Int.mul_le_mul_of_nonpos_left (by omega) (by omega)
      omega
    · have := Int.ediv_neg_of_neg_of_pos hn hP
      omega
  · have h1 := Int.ediv_nonneg hn (Int.le_of_lt hP)
    have h2 := Int.ediv_le_self P hn
    omega
theorem dg_half (y : Int) (j : Nat) : dg (y / 2) j = dg y (j + 1) := by
  unfold dg
  rw [Int.ediv_ediv_of_nonneg (by decide), show (2 : Int) * 2 ^ j = 2 ^ (j + 1) by rw [Int.pow_succ, Int.mul_comm]]
theorem dg_sign {y : Int} (h : W128 y) : dg (y / 2) 127 = dg y 127 := by
  unfold dg
  unfold W128 at h
  rw [show (2 : Int) ^ 127 = 170141183460469231731687303715884105728 by decide]
  omega
theorem ds_shift {y : Int} (h : W128 y) : ((ds y 128).drop 1).take (127 * 1) ++ [.v (.int .i64 (dg y 127))] = ds (y / 2) 128 := by
  apply List.ext_getElem?
  intro i
  rcases Nat.lt_or_ge i 127 with hi | hi
  · rw [List.getElem?_append_left (by simp [ds_len]; omega), List.getElem?_take, if_pos (by omega), List.getElem?_drop, ds_get _ (by omega), ds_get _ (by omega), dg_half, Nat.add_comm]
  · rcases Nat.lt_or_ge i 128 with hi2 | hi2
    · obtain rfl : i = 127 := by omega
      rw [List.getElem?_append_right (by simp [ds_len]), ds_get _ (by omega), dg_sign h]
      simp [ds_len]
    · rw [List.getElem?_eq_none (by simp [ds_len]; omega), List.getElem?_eq_none (by rw [ds_len]; omega)]
theorem lp_Right_0 (F : Nat) (ex) {z : Int} (hz : W128 z) (x0 x1 x2 x6 x7 x8 x9 : Int) (m : Nat) (hm : (if 127 < x2 then 127 else x2) ≤ (m : Int)) (hm2 : (m : Int) ≤ 0 ∨ (m : Int) = (if 127 < x2 then 127 else x2)) (h128 : m ≤ 127) : ∀ (k n i : Nat) (x4 x5 : Int) (l : List VV), i + k = m → k < n → x4 = dg z 127 → x5 = i → l = ds (z / 2 ^ i) 128 →
    L_ref01_Right_0 F ex n x0 x1 x2 128 x4 x5 x6 x7 x8 x9 l = ex x0 x1 x2 128 (dg z 127) m x6 x7 x8 x9 (ds (z / 2 ^ m) 128)
  | _, 0, _, _, _, _, _, h, _, _, _ => absurd h (by omega)
  | 0, n + 1, i, _, _, _, h, _, rfl, rfl, rfl => by
    obtain rfl : i = m := by omega
    rw [L_ref01_Right_0]
    unfold B_ref01_Right_0
    exact bn (df (by omega)) rfl
  | k + 1, n + 1, i, _, _, _, h, hn, rfl, rfl, rfl => by
    rw [L_ref01_Right_0]
    unfold B_ref01_Right_0
    have hy := W_div hz i
    have hs : dg z 127 = dg (z / 2 ^ i) 127 := by
      have : ∀ j, dg (z / 2 ^ j) 127 = dg z 127 := by
        intro j
        induction j with
        | zero => simp
        | succ j ih => rw [← ediv2, dg_sign (W_div hz j), ih]
      exact (this i).symm
    refine bp (dt (by omega)) (bp rfl (bp ?_ ?_))
    · rw [ds_len, dt (by omega), dt (by unfold bigger; omega)]; rfl
    · refine lp_Right_0 F ex hz x0 x1 x2 x6 x7 x8 x9 m hm hm2 h128 k n (i + 1) _ _ _ (by omega) (by omega) rfl (wi64_s i (by omega)) ?_
      rw [hs, ds_shift hy, ediv2]
theorem f_rRight (F : Nat) (hF : 200 ≤ F) {a b n : Int} (ha : I64 a) (hb : U64 b) : f_ref01_Right F a b n = some (wd (val a b / 2 ^ cl n)) := by
  unfold f_ref01_Right
  obtain ⟨d1, d2, d3⟩ := k_ref01_Digits F _ _ (f_Digits F hF (a := a) hb)
  refine bp d1 ?_
  rw [d2, d3]
  refine bp (dt (by decide)) (bp (isI_ds (val a b) (i := 127) (by omega)) ?_)
  have hg : iv (ds (val a b) 128)[127]? = dg (val a b) 127 := by rw [ds_get _ (by omega)]; rfl
  have hm : ∃ m : Nat, (if 127 < n then 127 else n) ≤ (m : Int) ∧ ((m : Int) ≤ 0 ∨ (m : Int) = (if 127 < n then 127 else n)) ∧ m ≤ 127 ∧ cl n = m := by
    refine ⟨cl n, ?_⟩
    unfold cl
    by_cases h : 127 < n
    · rw [if_pos h, if_neg (show ¬ 0 > n by omega), if_pos h]; omega
    · rw [if_neg h]
      by_cases h2 : 0 > n
      · rw [if_pos h2, if_neg (by omega)]; omega
      · rw [if_neg h2, if_neg h]; omega
  obtain ⟨m, h1, h2, h3, h4⟩ := hm
  rw [lp_Right_0 F _ (val_W ha hb) a b n a b 0 0 m h1 h2 h3 m F 0 _ 0 _ (by omega) (by omega) hg rfl (by rw [Int.pow_zero, Int.ediv_one])]
  obtain ⟨n1, n2, n3⟩ := k_ref01_Number F _ _ (f_Number F hF (val a b / 2 ^ m))
  refine bp n1 ?_
  rw [n2, n3, h4]; rfl
theorem f_rNear (F : Nat) (hF : 200 ≤ F) {a b n : Int} (ha : I64 a) (hb : U64 b) : f_ref01_Near F a b n = some (wd (near (val a b) (cl n))) := by
  unfold f_ref01_Near
  by_cases h : n ≤ 0
  · rw [if_neg (show ¬ 127 < n by omega)]
    refine bp (dt h) ?_
    have : cl n = 0 := by
      unfold cl
      rw [if_neg]
      · split <;> omega
      · split <;> omega
    rw [this]
    exact some_wd (hi_val ha hb).symm (lo_val hb).symm
  · generalize hv : (if 127 < n then 127 else n) = v
    have hc : cl n = cl v := by
      subst hv
      unfold cl
      by_cases hn : 127 < n
      · rw [if_pos hn, if_neg (show ¬ 0 > n by omega), if_pos hn]; decide
      · rw [if_neg hn]
    have hv1 : 0 < v ∧ v ≤ 127 := by subst hv; split <;> omega
    obtain ⟨m, rfl⟩ : ∃ m : Nat, v = ((m + 1 : Nat) : Int) := ⟨(v - 1).toNat, by omega⟩
    have hcv : cl ((m + 1 : Nat) : Int) = m + 1 := by
      unfold cl
      rw [if_neg (show ¬ 0 > ((m + 1 : Nat) : Int) by omega), if_neg (by omega)]
      omega
    refine bn (df (by omega)) ?_
    obtain ⟨d1, d2, d3⟩ := k_ref01_Digits F _ _ (f_Digits F hF (a := a) hb)
    refine bp d1 ?_
    rw [d2, d3, wi64_in (x := ((m + 1 : Nat) : Int) - 1) (by unfold I64; omega), show ((m + 1 : Nat) : Int) - 1 = (m : Int) by omega]
    refine bp (ix_ok m 128 (by omega)) (bp (isI_ds _ (by omega)) ?_)
    rw [iv_ds _ (by omega)]
    obtain ⟨h1, h2, h3⟩ := k_ref01_Right F _ _ _ (f_rRight F hF (n := ((m + 1 : Nat) : Int)) ha hb)
    refine bp h1 ?_
    have hd := dg_01 (val a b) m
    obtain ⟨o1, o2, o3⟩ := a_rOf F (n := dg (val a b) m) (by unfold I64; omega)
    refine bp o1 ?_
    rw [h2, h3, o2, o3]
    obtain ⟨k1, k2, k3⟩ := a_rAdd F hF (val a b / 2 ^ cl ((m + 1 : Nat) : Int)) (dg (val a b) m)
    refine bp k1 ?_
    rw [k2, k3, hc, hcv]
    unfold near
    rw [if_neg (by omega), show m + 1 - 1 = m by omega]
    rfl
theorem a_rNear (F : Nat) (hF : 200 ≤ F) {x : Int} (n : Int) (h : W128 x) : ok_ref01_Near F (hi x) (lo x) n = true ∧ o_ref01_Near_0 F (hi x) (lo x) n = hi (near x (cl n)) ∧ o_ref01_Near_1 F (hi x) (lo x) n = lo (near x (cl n)) := by
  have := k_ref01_Near F _ _ n (f_rNear F hF (n := n) (hi_I x) (lo_U x))
  rw [val_hl, W_in h] at this
  exact this
end Go.Xv
namespace Go.Xv
def clipV (z : Int) : Int := if z < -9223372036854775808 then -9223372036854775808 else if 9223372036854775807 < z then 9223372036854775807 else z
def clipC (z : Int) : Bool := decide (z < -9223372036854775808 ∨ 9223372036854775807 < z)
theorem some_clip {n : Int} {c : Bool} {z : Int} (h : n = clipV z) (k : c = clipC z) : (some (VV.v (.tuple #[.int .i64 n, .bool c])) : R) = some (.v (.tuple #[.int .i64 (clipV z), .bool (clipC z)])) := by rw [h, k]
theorem f_Clip (F : Nat) {a b : Int} (ha : I64 a) (hb : U64 b) : f_wide_Clip F a b = some (.v (.tuple #[.int .i64 (clipV (val a b)), .bool (clipC (val a b))])) := by
  unfold f_wide_Clip
  dsimp only
  obtain ⟨o1, o2, o3⟩ := a_Of F (wi64_I b)
  refine bp o1 ?_
  rw [o2, o3, wi64]
  have hv : ∀ z, z = val a b → True := fun _ _ => trivial
  unfold I64 at ha
  unfold U64 at hb
  by_cases h : -9223372036854775808 ≤ val a b ∧ val a b ≤ 9223372036854775807
  · refine bp ?_ (some_clip ?_ ?_)
    · unfold val at h
      rw [Bool.and_eq_true, beq_iff_eq, beq_iff_eq]
      unfold hi lo; omega
    · unfold clipV
      rw [if_neg (by omega), if_neg (by omega)]
      unfold val at *; omega
    · unfold clipC
      exact (df (by omega)).symm
  · refine bn ?_ ?_
    · unfold val at h
      rw [Bool.and_eq_false_iff, beq_eq_false_iff_ne, beq_eq_false_iff_ne]
      unfold hi lo; omega
    · by_cases h2 : a < 0
      · refine bp (dt h2) (some_clip ?_ ?_)
        · unfold clipV
          rw [if_pos]
          unfold val at *; omega
        · unfold clipC
          refine (dt ?_).symm
          unfold val at *; omega
      · refine bn (df h2) (some_clip ?_ ?_)
        · unfold clipV
          rw [if_neg, if_pos]
          · unfold val at *; omega
          · unfold val at *; omega
        · unfold clipC
          refine (dt ?_).symm
          unfold val at *; omega
theorem f_rClip (F : Nat) {a b : Int} (ha : I64 a) (hb : U64 b) : f_ref01_Clip F a b = some (.v (.tuple #[.int .i64 (clipV (val a b)), .bool (clipC (val a b))])) := by
  unfold f_ref01_Clip
  dsimp only
  obtain ⟨o1, o2, o3⟩ := a_rOf F (n := -9223372036854775808) (by unfold I64; omega)
  obtain ⟨p1, p2, p3⟩ := a_rOf F (n := 9223372036854775807) (by unfold I64; omega)
  obtain ⟨l1, l2⟩ := k_ref01_Less F _ _ _ _ (f_rLess F (a := a) (c := hi (-9223372036854775808)) hb (lo_U (-9223372036854775808)))
  obtain ⟨m1, m2⟩ := k_ref01_Less F _ _ _ _ (f_rLess F (a := hi 9223372036854775807) (c := a) (lo_U 9223372036854775807) hb)
  rw [val_hl, W_in (by unfold W128; omega)] at l2 m2
  refine bp o1 ?_
  rw [o2, o3]
  refine bp l1 ?_
  rw [l2]
  by_cases h : val a b < -9223372036854775808
  · refine bp (dt h) (some_clip ?_ ?_)
    · unfold clipV; rw [if_pos h]
    · unfold clipC; exact (dt (.inl h)).symm
  · refine bn (df h) (bp p1 ?_)
    rw [p2, p3]
    refine bp m1 ?_
    rw [m2]
    by_cases h2 : 9223372036854775807 < val a b
    · refine bp (dt h2) (some_clip ?_ ?_)
      · unfold clipV; rw [if_neg h, if_pos h2]
      · unfold clipC; exact (dt (.inr h2)).symm
    · refine bn (df h2) (some_clip ?_ ?_)
      · unfold clipV
        rw [if_neg h, if_neg h2, wi64]
        unfold I64 at ha
        unfold U64 at hb
        unfold val at *; omega
      · unfold clipC; exact (df (by omega)).symm
theorem a_Clip (F : Nat) {x : Int} (h : W128 x) : ok_wide_Clip F (hi x) (lo x) = true ∧ o_wide_Clip_0 F (hi x) (lo x) = clipV x ∧ o_wide_Clip_1 F (hi x) (lo x) = clipC x := by
  have := k_wide_Clip F _ _ (f_Clip F (hi_I x) (lo_U x))
  rw [val_hl, W_in h] at this
  exact this
theorem a_rClip (F : Nat) {x : Int} (h : W128 x) : ok_ref01_Clip F (hi x) (lo x) = true ∧ o_ref01_Clip_0 F (hi x) (lo x) = clipV x ∧ o_ref01_Clip_1 F (hi x) (lo x) = clipC x := by
  have := k_ref01_Clip F _ _ (f_rClip F (hi_I x) (lo_U x))
  rw [val_hl, W_in h] at this
  exact this

end Go.Xv
namespace Go.Xv
theorem val_neg {a b : Int} (hb : U64 b) : (val a b < 0) ↔ a < 0 := by unfold val; unfold U64 at hb; omega
end Go.Xv
namespace Go.Xv
theorem mul_bd {a b : Int} (ha : I64 a) (hb : I64 b) : -85070591730234615865843651857942052864 ≤ a * b ∧ a * b ≤ 85070591730234615865843651857942052864 := by
  unfold I64 at ha hb
  have h : (a * b).natAbs ≤ 9223372036854775808 * 9223372036854775808 := by
    rw [Int.natAbs_mul]
    exact Nat.mul_le_mul (by omega) (by omega)
  omega
theorem mul_W {a b : Int} (ha : I64 a) (hb : I64 b) : W128 (a * b) := by
  have := mul_bd ha hb
  unfold W128; omega
theorem cl32 : cl 32 = 32 := by decide
end Go.Xv
namespace Go.Xv
theorem sq_lt {x y : Int} (hx : 0 ≤ x) (h : x < y) : x * x < y * y := by
  have h1 : x * x ≤ x * y := Int.mul_le_mul_of_nonneg_left (by omega) hx
  have h2 : x * y < y * y := Int.mul_lt_mul_of_pos_right h (by omega)
  omega
theorem sq_le {x y : Int} (hx : 0 ≤ x) (h : x ≤ y) : x * x ≤ y * y := by
  rcases Int.lt_or_eq_of_le h with h | rfl
  · exact Int.le_of_lt (sq_lt hx h)
  · exact Int.le_refl _
/-- a root is one only -/
theorem root_one {z x y : Int} (hx : 0 ≤ x) (hy : 0 ≤ y) (h1 : x * x ≤ z) (h2 : z < (x + 1) * (x + 1)) (h3 : y * y ≤ z) (h4 : z < (y + 1) * (y + 1)) : x = y := by
  rcases Int.lt_trichotomy x y with h | h | h
  · have := sq_le (x := x + 1) (y := y) (by omega) (by omega); omega
  · exact h
  · have := sq_le (x := y + 1) (y := x) (by omega) (by omega); omega
/-- There is a root. -/
theorem root_ex (z : Int) (hz : 0 ≤ z) : ∃ x : Int, 0 ≤ x ∧ x * x ≤ z ∧ z < (x + 1) * (x + 1) := by
  obtain ⟨n, rfl⟩ := Int.eq_ofNat_of_zero_le hz
  induction n with
  | zero => exact ⟨0, by omega, by omega, by omega⟩
  | succ n ih =>
    obtain ⟨x, h1, h2, h3⟩ := ih (by omega)
    by_cases h : (x + 1) * (x + 1) ≤ ((n + 1 : Nat) : Int)
    · refine ⟨x + 1, by omega, h, ?_⟩
      have := sq_lt (x := x + 1) (y := x + 1 + 1) (by omega) (by omega)
      push_cast
      omega
    · refine ⟨x, h1, ?_, by omega⟩
      push_cast
      omega
noncomputable def rt (z : Int) : Int := if h : 0 ≤ z then Classical.choose (root_ex z h) else 0
theorem rt_spec {z : Int} (h : 0 ≤ z) : 0 ≤ rt z ∧ rt z * rt z ≤ z ∧ z < (rt z + 1) * (rt z + 1) := by
  unfold rt
  rw [dif_pos h]
  exact Classical.choose_spec (root_ex z h)
theorem rt_eq {z x : Int} (hx : 0 ≤ x) (h1 : x * x ≤ z) (h2 : z < (x + 1) * (x + 1)) : rt z = x := by
  have h0 : 0 ≤ x * x := Int.mul_nonneg hx hx
  obtain ⟨h3, h4, h5⟩ := rt_spec (z := z) (by omega)
  exact root_one h3 hx h4 h5 h1 h2
/-- a number is not beyond the root just if its square is not above -/
theorem rt_le {z y : Int} (hz : 0 ≤ z) (hy : 0 ≤ y) : y ≤ rt z ↔ y * y ≤ z := by
  obtain ⟨h3, h4, h5⟩ := rt_spec hz
  constructor
  · intro h
    have := sq_le hy h
    omega
  · intro h
    rcases Int.lt_or_le (rt z) y with hlt | hle
    · have := sq_le (x := rt z + 1) (y := y) (by omega) (by omega); omega
    · exact hle
/-- the root's upper bits -/
theorem top_step {r P : Int} (hr : 0 ≤ r) (hP : 0 < P) : (r / (2 * P) * (2 * P) + P ≤ r → r / P * P = r / (2 * P) * (2 * P) + P) ∧ (¬ r / (2 * P) * (2 * P) + P ≤ r → r / P * P = r / (2 * P) * (2 * P)) := by
  have e : r / (2 * P) = r / P / 2 := by rw [Int.mul_comm, Int.ediv_ediv_of_nonneg (by omega)]
  have hd := Int.mul_ediv_add_emod r P
  have h2 := Int.emod_nonneg r (show P ≠ 0 by omega)
  have h3 := Int.emod_lt_of_pos r hP
  rw [e]
  generalize r / P = q at *
  have hq : 0 ≤ q ∨ q < 0 := by omega
  have e1 : q / 2 * (2 * P) = 2 * (q / 2) * P := by simp only [Int.mul_comm, Int.mul_left_comm]
  rw [e1]
  rcases (show q = 2 * (q / 2) ∨ q = 2 * (q / 2) + 1 by omega) with h | h
  · rw [← h]
    constructor
    · intro hx
      rw [Int.mul_comm q P] at hx; omega
    · intro _; rfl
  · have e2 : q * P = 2 * (q / 2) * P + P := by
      have : q * P = (2 * (q / 2) + 1) * P := by rw [← h]
      rw [this, Int.add_mul, Int.one_mul]
    rw [← e2]
    constructor
    · intro _; rfl
    · intro hx
      rw [Int.mul_comm q P] at hx; omega
end Go.Xv
namespace Go.Xv
theorem f_Square (F : Nat) {n : Int} (hn : U64 n) : f_root_Square F n = some (wd (n * n)) := by
  unfold f_root_Square
  dsimp only
  unfold U64 at hn
  rw [fdiv_pos _ (by decide), mask32_u64 hn]
  have en : n = n / 4294967296 * 4294967296 + n % 4294967296 := by omega
  have hp : 0 ≤ n / 4294967296 ∧ n / 4294967296 ≤ 4294967295 := by omega
  have hq : 0 ≤ n % 4294967296 ∧ n % 4294967296 ≤ 4294967295 := by omega
  have bd : ∀ x y : Int, (0 ≤ x ∧ x ≤ 4294967295) → (0 ≤ y ∧ y ≤ 4294967295) → 0 ≤ x * y ∧ x * y ≤ 18446744065119617025 := by
    intro x y hx hy
    have h1 := Int.mul_nonneg hx.1 hy.1
    have h2 : x * y ≤ 4294967295 * 4294967295 := Int.mul_le_mul hx.2 hy.2 hy.1 (by decide)
    exact ⟨h1, by simpa using h2⟩
  have b1 := bd _ _ hp hp
  have b2 := bd _ _ hq hq
  have b3 := bd _ _ hp hq
  have hnn : n * n = (n / 4294967296) * (n / 4294967296) * 18446744073709551616 + (n / 4294967296) * (n % 4294967296) * 8589934592 + (n % 4294967296) * (n % 4294967296) := by
    generalize n / 4294967296 = p at *
    generalize n % 4294967296 = q at *
    subst en
    simp only [Int.add_mul, Int.mul_add]
    have : p * 4294967296 * (p * 4294967296) = p * p * 18446744073709551616 := by
      rw [show (18446744073709551616 : Int) = 4294967296 * 4294967296 by decide]
      simp only [Int.mul_comm, Int.mul_assoc, Int.mul_left_comm]
    have : p * 4294967296 * q = p * q * 4294967296 := by simp only [Int.mul_comm, Int.mul_assoc, Int.mul_left_comm]
    have : q * (p * 4294967296) = p * q * 4294967296 := by simp only [Int.mul_comm, Int.mul_assoc, Int.mul_left_comm]
    omega
  rw [hnn]
  generalize n / 4294967296 * (n / 4294967296) = pp at *
  generalize n / 4294967296 * (n % 4294967296) = pq at *
  generalize n % 4294967296 * (n % 4294967296) = qq at *
  rw [wu64_in (x := pp) (by unfold U64; omega), wu64_in (x := qq) (by unfold U64; omega), wu64_in (x := pq) (by unfold U64; omega)]
  obtain ⟨l1, l2, l3⟩ := k_wide_Left F _ _ 33 (f_Left F (a := 0) (b := pq) (n := 33) (by unfold U64; omega))
  rw [show ((33 : Int).toNat) = 33 from rfl, show (2 : Int) ^ 33 = 8589934592 by decide] at l2 l3
  refine bp l1 ?_
  rw [l2, l3]
  obtain ⟨s1, s2, s3⟩ := k_wide_Add F _ _ _ _ (f_Add F (a := IntKind.wrap .i64 pp) (b := qq) (c := hi (val 0 pq * 8589934592)) (by unfold U64; omega) (lo_U (val 0 pq * 8589934592)))
  refine bp s1 ?_
  rw [s2, s3]
  have e : Eqv (val (IntKind.wrap .i64 pp) qq + val (hi (val 0 pq * 8589934592)) (lo (val 0 pq * 8589934592))) (pp * 18446744073709551616 + pq * 8589934592 + qq) := by
    rw [val_hl]
    refine ((Eqv.rfl (x := val (IntKind.wrap .i64 pp) qq)).add (W_eqv _)).trans ?_
    rw [wi64]
    unfold Eqv val; omega
  exact some_wd (hi_eqv e) (lo_eqv e)
theorem a_Square (F : Nat) {n : Int} (hn : U64 n) : ok_root_Square F n = true ∧ o_root_Square_0 F n = hi (n * n) ∧ o_root_Square_1 F n = lo (n * n) := k_root_Square F _ (f_Square F hn)
theorem rt_bd {z : Int} (h : 0 ≤ z) (h2 : z < 170141183460469231731687303715884105728) : 0 ≤ rt z ∧ rt z ≤ 13043817825332782212 := by
  obtain ⟨h3, h4, h5⟩ := rt_spec h
  refine ⟨h3, ?_⟩
  rcases Int.lt_or_le 13043817825332782212 (rt z) with hlt | hle
  · have := sq_le (x := 13043817825332782213) (y := rt z) (by omega) (by omega)
    have e : (13043817825332782213 : Int) * 13043817825332782213 = 170141183460469231748655437451289177369 := by decide
    omega
  · exact hle
theorem sq_bd {y : Int} (h : 0 ≤ y) (h2 : y < 18446744073709551616) : 0 ≤ y * y ∧ y * y < 340282366920938463463374607431768211456 := by
  have h1 := Int.mul_nonneg h h
  have := sq_le h (show y ≤ 18446744073709551615 by omega)
  have e : (18446744073709551615 : Int) * 18446744073709551615 = 340282366920938463426481119284349108225 := by decide
  omega
theorem lp_rootWide_0 (F : Nat) (ex) {a b : Int} (ha : I64 a) (hb : U64 b) (hz : 0 ≤ val a b) (x0 x1 x2 : Int) (x3 : Bool) : ∀ (k n i : Nat) (x4 x5 : Int), i + k = 64 → k < n → x4 = rt (val a b) / 2 ^ k * 2 ^ k → x5 = i →
    L_root_Wide_0 F ex n x0 x1 x2 x3 x4 x5 a b = ex x0 x1 x2 x3 (rt (val a b)) 64 a b
  | _, 0, _, _, _, _, h, _, _ => absurd h (by omega)
  | 0, n + 1, i, _, _, h, _, rfl, rfl => by
    obtain rfl : i = 64 := by omega
    rw [L_root_Wide_0]
    unfold B_root_Wide_0
    refine bn (df (by omega)) ?_
    rw [Int.pow_zero, Int.ediv_one, Int.mul_one]; rfl
  | k + 1, n + 1, i, _, _, h, hn, rfl, rfl => by
    have hW := val_W ha hb
    unfold W128 at hW
    obtain ⟨r1, r2⟩ := rt_bd hz hW.2
    have ih := lp_rootWide_0 F ex ha hb hz x0 x1 x2 x3 k n (i + 1)
    rw [L_root_Wide_0]
    unfold B_root_Wide_0
    dsimp only
    have hi63 : IntKind.wrap .i64 (63 - (i : Int)) = ((k : Nat) : Int) := by rw [wi64_in (by unfold I64; omega)]; omega
    have hP := p2pos k
    have hPb : (2 : Int) ^ k ≤ 9223372036854775808 := by
      have := p2mono (a := k) (b := 63) (by omega)
      simpa using this
    rw [hi63, p2min (by omega), Int.one_mul, wu64_in (x := 2 ^ k) (by unfold U64; omega)]
    obtain ⟨t1, t2⟩ := top_step (r := rt (val a b)) (P := 2 ^ k) r1 hP
    rw [show (2 : Int) * 2 ^ k = 2 ^ (k + 1) by rw [Int.pow_succ, Int.mul_comm]] at t1 t2
    have hq := Int.ediv_nonneg r1 (Int.le_of_lt (p2pos (k + 1)))
    have hqr : rt (val a b) / 2 ^ (k + 1) * 2 ^ (k + 1) ≤ rt (val a b) := Int.ediv_mul_le _ (by have := p2pos (k + 1); omega)
    have hq0 := Int.mul_nonneg hq (Int.le_of_lt (p2pos (k + 1)))
    have eor : orI .u64 (rt (val a b) / 2 ^ (k + 1) * 2 ^ (k + 1)) (2 ^ k) = rt (val a b) / 2 ^ (k + 1) * 2 ^ (k + 1) + 2 ^ k := by
      have h1 := or_add_u64 (k + 1) (a := rt (val a b) / 2 ^ (k + 1)) (b := 2 ^ k) hq (by omega)
      rw [p2cast (k + 1)] at h1
      refine h1 ?_ ?_
      · rw [Int.pow_succ]; omega
      · by_cases hk : k = 63
        · subst hk
          have : rt (val a b) / 2 ^ (63 + 1) = 0 := Int.ediv_eq_zero_of_lt r1 (by rw [show (2 : Int) ^ (63 + 1) = 18446744073709551616 by decide]; omega)
          rw [this]
          decide
        · have := p2mono (a := k) (b := 62) (by omega)
          rw [show (2 : Int) ^ 62 = 4611686018427387904 by decide] at this
          omega
    rw [eor]
    have hyU : U64 (rt (val a b) / 2 ^ (k + 1) * 2 ^ (k + 1) + 2 ^ k) := by
      have hw := orI .u64 (rt (val a b) / 2 ^ (k + 1) * 2 ^ (k + 1)) (2 ^ k)
      rw [← eor, or_u64_bv]
      exact wu64_U _
    generalize hx : rt (val a b) / 2 ^ (k + 1) * 2 ^ (k + 1) = x at *
    obtain ⟨s1, s2, s3⟩ := a_Square F hyU
    have hle := rt_le (z := val a b) (y := x + 2 ^ k) hz (by omega)
    unfold U64 at hyU
    obtain ⟨b1, b2⟩ := sq_bd hyU.1 hyU.2
    have w5 : IntKind.wrap .i64 ((i : Int) + 1) = ((i + 1 : Nat) : Int) := wi64_s i (by omega)
    refine bp (dt (by omega)) (bp (nn k) (bp s1 ?_))
    rw [s2, s3]
    generalize hs : (x + 2 ^ k) * (x + 2 ^ k) = s at *
    by_cases hhi : hi s ≥ 0
    · have hs127 : s < 170141183460469231731687303715884105728 := by unfold hi at hhi; omega
      obtain ⟨l1, l2⟩ := k_wide_Less F _ _ _ _ (f_Less F (a := a) (c := hi s) hb (lo_U s))
      rw [val_hl, W_in (by unfold W128; omega)] at l2
      refine bp (dt hhi) (bp l1 ?_)
      rw [l2]
      by_cases hc : val a b < s
      · refine bn (by rw [dt hc]; rfl) ?_
        exact ih _ _ (by omega) (by omega) (t2 (fun h => by have := hle.1 h; omega)).symm w5
      · refine bp (by rw [df hc]; rfl) ?_
        exact ih _ _ (by omega) (by omega) (t1 (hle.2 (by omega))).symm w5
    · have hs127 : 170141183460469231731687303715884105728 ≤ s := by unfold hi at hhi; omega
      refine bn (df hhi) ?_
      exact ih _ _ (by omega) (by omega) (t2 (fun h => by have := hle.1 h; omega)).symm w5
/-- what the root of a wide number answers -/
noncomputable def rootR (z : Int) : Value := if z < 0 then .tuple #[.int .u64 0, .bool false] else .tuple #[.int .u64 (rt z), .bool true]
theorem f_rootWide (F : Nat) (hF : 200 ≤ F) {a b : Int} (ha : I64 a) (hb : U64 b) : f_root_Wide F a b = some (.v (rootR (val a b))) := by
  unfold f_root_Wide rootR
  have hn := val_neg (a := a) hb
  by_cases h : a < 0
  · refine bp (dt h) ?_
    rw [if_pos (hn.2 h)]
  · have hz : 0 ≤ val a b := by
      rcases Int.lt_or_le (val a b) 0 with h2 | h2
      · exact absurd (hn.1 h2) h
      · exact h2
    refine bn (df h) ?_
    rw [if_neg (by omega)]
    have hW := val_W ha hb
    unfold W128 at hW
    obtain ⟨r1, r2⟩ := rt_bd hz hW.2
    rw [lp_rootWide_0 F _ ha hb hz a b 0 false 64 F 0 0 0 (by omega) (by omega) ?_ rfl]
    rw [Int.ediv_eq_zero_of_lt r1 (by rw [show (2 : Int) ^ 64 = 18446744073709551616 by decide]; omega)]; simp
end Go.Xv
namespace Go.Xv
theorem f_vec_eachv1' (F : Nat) (hF : 200 ≤ F) {a0 a1 a2 a3 a4 a5 : Int} {v0 v1 v2 : Int} {c0 c1 c2 : Bool} (h0 : ok_vec_Cross_1 F 0 a0 a1 a2 a3 a4 a5 = true ∧ o_vec_Cross_1_0 F 0 a0 a1 a2 a3 a4 a5 = v0 ∧ o_vec_Cross_1_1 F 0 a0 a1 a2 a3 a4 a5 = c0) (h1 : ok_vec_Cross_1 F 1 a0 a1 a2 a3 a4 a5 = true ∧ o_vec_Cross_1_0 F 1 a0 a1 a2 a3 a4 a5 = v1 ∧ o_vec_Cross_1_1 F 1 a0 a1 a2 a3 a4 a5 = c1) (h2 : ok_vec_Cross_1 F 2 a0 a1 a2 a3 a4 a5 = true ∧ o_vec_Cross_1_0 F 2 a0 a1 a2 a3 a4 a5 = v2 ∧ o_vec_Cross_1_1 F 2 a0 a1 a2 a3 a4 a5 = c2) :
    f_vec_eachv1 F a0 a1 a2 a3 a4 a5 = some (.v (.tuple #[.agg #[.int .i64 v0, .int .i64 v1, .int .i64 v2], .bool (c0 || c1 || c2)])) := by
  obtain ⟨a1, a2, a3⟩ := h0
  obtain ⟨b1, b2, b3⟩ := h1
  obtain ⟨d1, d2, d3⟩ := h2
  obtain ⟨G, hG⟩ : ∃ G, F = G + 4 := ⟨F - 4, by omega⟩
  have w1 : IntKind.wrap .i64 (0 + 1) = 1 := by decide
  have w2 : IntKind.wrap .i64 (1 + 1) = 2 := by decide
  have w3 : IntKind.wrap .i64 (2 + 1) = 3 := by decide
  unfold f_vec_eachv1
  rw [show L_vec_eachv1_0 F _ F = L_vec_eachv1_0 F _ (G + 4) from congrArg (L_vec_eachv1_0 F _) hG, L_vec_eachv1_0]
  unfold B_vec_eachv1_0
  refine bp rfl (bp a1 (bn rfl (bp rfl (bp rfl ?_))))
  rw [a2, a3, w1, L_vec_eachv1_0]
  unfold B_vec_eachv1_0
  refine bp rfl (bp b1 ?_)
  rw [b2, b3, w2]
  cases c0
  · refine bn rfl (bp rfl (bp rfl ?_))
    rw [L_vec_eachv1_0]
    unfold B_vec_eachv1_0
    refine bp rfl (bp d1 ?_)
    rw [d2, d3, w3]
    cases c1
    · refine bn rfl (bp rfl (bp rfl ?_))
      rw [L_vec_eachv1_0]
      unfold B_vec_eachv1_0
      exact bn rfl (bp rfl rfl)
    · refine bp rfl (bp rfl (bp rfl ?_))
      rw [L_vec_eachv1_0]
      unfold B_vec_eachv1_0
      exact bn rfl (bp rfl rfl)
  · refine bp rfl (bp rfl (bp rfl ?_))
    rw [L_vec_eachv1_0]
    unfold B_vec_eachv1_0
    refine bp rfl (bp d1 ?_)
    rw [d2, w3]
    refine bp rfl (bp rfl (bp rfl ?_))
    rw [L_vec_eachv1_0]
    unfold B_vec_eachv1_0
    exact bn rfl (bp rfl (by rw [Bool.true_or, Bool.true_or]; rfl))
end Go.Xv
namespace Go.Xv
def pr (a b : Int) : Int := a * b / 4294967296 + a * b / 2147483648 % 2
theorem pr_near (a b : Int) : near (a * b) 32 = pr a b := by
  unfold near pr
  rw [if_neg (by decide), show (2 : Int) ^ 32 = 4294967296 by decide, show (2 : Int) ^ (32 - 1) = 2147483648 by decide]
theorem pr_bd {a b : Int} (ha : I64 a) (hb : I64 b) : -19807040628566084398385987585 ≤ pr a b ∧ pr a b ≤ 19807040628566084398385987585 := by
  have := mul_bd ha hb
  unfold pr; omega
theorem a_product (F : Nat) {a b : Int} (ha : I64 a) (hb : I64 b) : ok_vec_product F a b = true ∧ o_vec_product_0 F a b = hi (pr a b) ∧ o_vec_product_1 F a b = lo (pr a b) := by
  refine k_vec_product F _ _ ?_
  unfold f_vec_product
  obtain ⟨h1, h2, h3⟩ := a_Mul F ha hb
  obtain ⟨n1, n2, n3⟩ := a_Near F 32 (mul_W ha hb)
  rw [cl32, pr_near] at n2 n3
  refine bp h1 ?_
  rw [h2, h3]
  refine bp n1 ?_
  rw [n2, n3]
theorem a_rproduct (F : Nat) (hF : 200 ≤ F) {a b : Int} (ha : I64 a) (hb : I64 b) : ok_ref06_product F a b = true ∧ o_ref06_product_0 F a b = hi (pr a b) ∧ o_ref06_product_1 F a b = lo (pr a b) := by
  refine k_ref06_product F _ _ ?_
  unfold f_ref06_product
  obtain ⟨h1, h2, h3⟩ := a_rMul F hF ha hb
  obtain ⟨n1, n2, n3⟩ := a_rNear F hF 32 (mul_W ha hb)
  rw [cl32, pr_near] at n2 n3
  refine bp h1 ?_
  rw [h2, h3]
  refine bp n1 ?_
  rw [n2, n3]
theorem a_vclip (F : Nat) {z : Int} (h : W128 z) : ok_vec_clip F (hi z) (lo z) = true ∧ o_vec_clip_0 F (hi z) (lo z) = clipV z ∧ o_vec_clip_1 F (hi z) (lo z) = clipC z := by
  refine k_vec_clip F _ _ ?_
  unfold f_vec_clip
  obtain ⟨h1, h2, h3⟩ := a_Clip F h
  refine bp h1 ?_
  rw [h2, h3]
theorem a_rvclip (F : Nat) {z : Int} (h : W128 z) : ok_ref06_clip F (hi z) (lo z) = true ∧ o_ref06_clip_0 F (hi z) (lo z) = clipV z ∧ o_ref06_clip_1 F (hi z) (lo z) = clipC z := by
  refine k_ref06_clip F _ _ ?_
  unfold f_ref06_clip
  obtain ⟨h1, h2, h3⟩ := a_rClip F h
  refine bp h1 ?_
  rw [h2, h3]
def dotZ (a0 a1 a2 a3 a4 a5 : Int) : Int := pr a0 a3 + pr a1 a4 + pr a2 a5
theorem dot_W {a0 a1 a2 a3 a4 a5 : Int} (h0 : I64 a0) (h1 : I64 a1) (h2 : I64 a2) (h3 : I64 a3) (h4 : I64 a4) (h5 : I64 a5) : W128 (dotZ a0 a1 a2 a3 a4 a5) := by
  have := pr_bd h0 h3
  have := pr_bd h1 h4
  have := pr_bd h2 h5
  unfold dotZ W128; omega
theorem f_Dot (F : Nat) (hF : 200 ≤ F) {a0 a1 a2 a3 a4 a5 : Int} (h0 : I64 a0) (h1 : I64 a1) (h2 : I64 a2) (h3 : I64 a3) (h4 : I64 a4) (h5 : I64 a5) : f_vec_Dot F a0 a1 a2 a3 a4 a5 = some (.v (.tuple #[.int .i64 (clipV (dotZ a0 a1 a2 a3 a4 a5)), .bool (clipC (dotZ a0 a1 a2 a3 a4 a5))])) := by
  obtain ⟨p1, p2, p3⟩ := a_product F h0 h3
  obtain ⟨q1, q2, q3⟩ := a_product F h1 h4
  obtain ⟨r1, r2, r3⟩ := a_product F h2 h5
  obtain ⟨s1, s2, s3⟩ := a_Add F 0 (pr a0 a3)
  obtain ⟨t1, t2, t3⟩ := a_Add F (pr a0 a3) (pr a1 a4)
  obtain ⟨u1, u2, u3⟩ := a_Add F (pr a0 a3 + pr a1 a4) (pr a2 a5)
  obtain ⟨c1, c2, c3⟩ := a_vclip F (dot_W h0 h1 h2 h3 h4 h5)
  rw [Int.zero_add] at s2 s3
  obtain ⟨G, hG⟩ : ∃ G, F = G + 4 := ⟨F - 4, by omega⟩
  have w1 : IntKind.wrap .i64 (0 + 1) = 1 := by decide
  have w2 : IntKind.wrap .i64 (1 + 1) = 2 := by decide
  have w3 : IntKind.wrap .i64 (2 + 1) = 3 := by decide
  unfold f_vec_Dot
  rw [show L_vec_Dot_0 F _ F = L_vec_Dot_0 F _ (G + 4) from congrArg (L_vec_Dot_0 F _) hG, L_vec_Dot_0]
  unfold B_vec_Dot_0
  refine bp rfl (bp rfl (bp rfl (bp rfl (bp rfl (bp p1 ?_)))))
  have e0 : (iv [.v (.int .i64 a0), .v (.int .i64 a1), .v (.int .i64 a2)][0 + Int.toNat 0 * 1]?) = a0 := rfl
  have e3 : (iv [.v (.int .i64 a3), .v (.int .i64 a4), .v (.int .i64 a5)][0 + Int.toNat 0 * 1]?) = a3 := rfl
  rw [e0, e3, p2, p3]
  have s1' : ok_wide_Add F 0 0 (hi (pr a0 a3)) (lo (pr a0 a3)) = true := s1
  have s2' : o_wide_Add_0 F 0 0 (hi (pr a0 a3)) (lo (pr a0 a3)) = hi (pr a0 a3) := s2
  have s3' : o_wide_Add_1 F 0 0 (hi (pr a0 a3)) (lo (pr a0 a3)) = lo (pr a0 a3) := s3
  refine bp s1' ?_
  rw [s2', s3', w1, L_vec_Dot_0]
  unfold B_vec_Dot_0
  refine bp rfl (bp rfl (bp rfl (bp rfl (bp rfl (bp q1 ?_)))))
  have e1 : (iv [.v (.int .i64 a0), .v (.int .i64 a1), .v (.int .i64 a2)][0 + Int.toNat 1 * 1]?) = a1 := rfl
  have e4 : (iv [.v (.int .i64 a3), .v (.int .i64 a4), .v (.int .i64 a5)][0 + Int.toNat 1 * 1]?) = a4 := rfl
  rw [e1, e4, q2, q3]
  refine bp t1 ?_
  rw [t2, t3, w2, L_vec_Dot_0]
  unfold B_vec_Dot_0
  refine bp rfl (bp rfl (bp rfl (bp rfl (bp rfl (bp r1 ?_)))))
  have e2 : (iv [.v (.int .i64 a0), .v (.int .i64 a1), .v (.int .i64 a2)][0 + Int.toNat 2 * 1]?) = a2 := rfl
  have e5 : (iv [.v (.int .i64 a3), .v (.int .i64 a4), .v (.int .i64 a5)][0 + Int.toNat 2 * 1]?) = a5 := rfl
  rw [e2, e5, r2, r3]
  refine bp u1 ?_
  rw [u2, u3, w3, L_vec_Dot_0]
  unfold B_vec_Dot_0
  refine bn rfl ?_
  have e : pr a0 a3 + pr a1 a4 + pr a2 a5 = dotZ a0 a1 a2 a3 a4 a5 := rfl
  rw [e]
  refine bp c1 ?_
  rw [c2, c3]
theorem a_Dot (F : Nat) (hF : 200 ≤ F) {a0 a1 a2 a3 a4 a5 : Int} (h0 : I64 a0) (h1 : I64 a1) (h2 : I64 a2) (h3 : I64 a3) (h4 : I64 a4) (h5 : I64 a5) : ok_vec_Dot F a0 a1 a2 a3 a4 a5 = true ∧ o_vec_Dot_0 F a0 a1 a2 a3 a4 a5 = clipV (dotZ a0 a1 a2 a3 a4 a5) ∧ o_vec_Dot_1 F a0 a1 a2 a3 a4 a5 = clipC (dotZ a0 a1 a2 a3 a4 a5) := k_vec_Dot F _ _ _ _ _ _ (f_Dot F hF h0 h1 h2 h3 h4 h5)
theorem a_rDot (F : Nat) (hF : 200 ≤ F) {a0 a1 a2 a3 a4 a5 : Int} (h0 : I64 a0) (h1 : I64 a1) (h2 : I64 a2) (h3 : I64 a3) (h4 : I64 a4) (h5 : I64 a5) : ok_ref06_Dot F a0 a1 a2 a3 a4 a5 = true ∧ o_ref06_Dot_0 F a0 a1 a2 a3 a4 a5 = clipV (dotZ a0 a1 a2 a3 a4 a5) ∧ o_ref06_Dot_1 F a0 a1 a2 a3 a4 a5 = clipC (dotZ a0 a1 a2 a3 a4 a5) := by
  refine k_ref06_Dot F _ _ _ _ _ _ ?_
  unfold f_ref06_Dot
  obtain ⟨p1, p2, p3⟩ := a_rproduct F hF h0 h3
  obtain ⟨q1, q2, q3⟩ := a_rproduct F hF h1 h4
  obtain ⟨r1, r2, r3⟩ := a_rproduct F hF h2 h5
  obtain ⟨t1, t2, t3⟩ := a_rAdd F hF (pr a0 a3) (pr a1 a4)
  obtain ⟨u1, u2, u3⟩ := a_rAdd F hF (pr a0 a3 + pr a1 a4) (pr a2 a5)
  obtain ⟨c1, c2, c3⟩ := a_rvclip F (dot_W h0 h1 h2 h3 h4 h5)
  unfold dotZ at c1 c2 c3 ⊢
  refine bp p1 (bp q1 ?_)
  rw [p2, p3, q2, q3]
  refine bp t1 (bp r1 ?_)
  rw [t2, t3, r2, r3]
  refine bp u1 ?_
  rw [u2, u3]
  refine bp c1 ?_
  rw [c2, c3]
def arZ (a b c d : Int) : Int := pr a b - pr c d
theorem ar_W {a b c d : Int} (h0 : I64 a) (h1 : I64 b) (h2 : I64 c) (h3 : I64 d) : W128 (arZ a b c d) := by
  have := pr_bd h0 h1
  have := pr_bd h2 h3
  unfold arZ W128; omega
theorem a_Cross_0 (F : Nat) {a0 a1 a2 a3 a4 a5 : Int} (h0 : I64 a0) (h1 : I64 a1) (h2 : I64 a2) (h3 : I64 a3) (h4 : I64 a4) (h5 : I64 a5) : ok_vec_Cross_1 F 0 a0 a1 a2 a3 a4 a5 = true ∧ o_vec_Cross_1_0 F 0 a0 a1 a2 a3 a4 a5 = clipV (arZ a1 a5 a2 a4) ∧ o_vec_Cross_1_1 F 0 a0 a1 a2 a3 a4 a5 = clipC (arZ a1 a5 a2 a4) := by
  refine k_vec_Cross_1 F _ _ _ _ _ _ _ ?_
  unfold f_vec_Cross_1
  obtain ⟨p1, p2, p3⟩ := a_product F h1 h5
  obtain ⟨q1, q2, q3⟩ := a_product F h2 h4
  obtain ⟨n1, n2, n3⟩ := a_Neg F (pr a2 a4)
  obtain ⟨s1, s2, s3⟩ := a_Add F (pr a1 a5) (-pr a2 a4)
  obtain ⟨c1, c2, c3⟩ := a_vclip F (ar_W h1 h5 h2 h4)
  unfold arZ at c1 c2 c3 ⊢
  rw [Int.sub_eq_add_neg] at c1 c2 c3 ⊢
  have w1 : Int.tmod (IntKind.wrap .i64 (0 + 1)) 3 = 1 := by decide
  have w2 : Int.tmod (IntKind.wrap .i64 (0 + 2)) 3 = 2 := by decide
  rw [w1, w2]
  refine bp rfl (bp rfl (bp rfl (bp rfl (bp p1 (bp rfl (bp rfl (bp rfl (bp rfl (bp q1 ?_)))))))))
  have e1 : (iv [.v (.int .i64 a0), .v (.int .i64 a1), .v (.int .i64 a2)][0 + Int.toNat 1 * 1]?) = a1 := rfl
  have e2 : (iv [.v (.int .i64 a0), .v (.int .i64 a1), .v (.int .i64 a2)][0 + Int.toNat 2 * 1]?) = a2 := rfl
  have e3 : (iv [.v (.int .i64 a3), .v (.int .i64 a4), .v (.int .i64 a5)][0 + Int.toNat 1 * 1]?) = a4 := rfl
  have e4 : (iv [.v (.int .i64 a3), .v (.int .i64 a4), .v (.int .i64 a5)][0 + Int.toNat 2 * 1]?) = a5 := rfl
  rw [e1, e2, e3, e4, p2, p3, q2, q3]
  refine bp n1 ?_
  rw [n2, n3]
  refine bp s1 ?_
  rw [s2, s3]
  refine bp c1 ?_
  rw [c2, c3]
theorem a_Cross_1 (F : Nat) {a0 a1 a2 a3 a4 a5 : Int} (h0 : I64 a0) (h1 : I64 a1) (h2 : I64 a2) (h3 : I64 a3) (h4 : I64 a4) (h5 : I64 a5) : ok_vec_Cross_1 F 1 a0 a1 a2 a3 a4 a5 = true ∧ o_vec_Cross_1_0 F 1 a0 a1 a2 a3 a4 a5 = clipV (arZ a2 a3 a0 a5) ∧ o_vec_Cross_1_1 F 1 a0 a1 a2 a3 a4 a5 = clipC (arZ a2 a3 a0 a5) := by
  refine k_vec_Cross_1 F _ _ _ _ _ _ _ ?_
  unfold f_vec_Cross_1
  obtain ⟨p1, p2, p3⟩ := a_product F h2 h3
  obtain ⟨q1, q2, q3⟩ := a_product F h0 h5
  obtain ⟨n1, n2, n3⟩ := a_Neg F (pr a0 a5)
  obtain ⟨s1, s2, s3⟩ := a_Add F (pr a2 a3) (-pr a0 a5)
  obtain ⟨c1, c2, c3⟩ := a_vclip F (ar_W h2 h3 h0 h5)
  unfold arZ at c1 c2 c3 ⊢
  rw [Int.sub_eq_add_neg] at c1 c2 c3 ⊢
  have w1 : Int.tmod (IntKind.wrap .i64 (1 + 1)) 3 = 2 := by decide
  have w2 : Int.tmod (IntKind.wrap .i64 (1 + 2)) 3 = 0 := by decide
  rw [w1, w2]
  refine bp rfl (bp rfl (bp rfl (bp rfl (bp p1 (bp rfl (bp rfl (bp rfl (bp rfl (bp q1 ?_)))))))))
  have e1 : (iv [.v (.int .i64 a0), .v (.int .i64 a1), .v (.int .i64 a2)][0 + Int.toNat 2 * 1]?) = a2 := rfl
  have e2 : (iv [.v (.int .i64 a0), .v (.int .i64 a1), .v (.int .i64 a2)][0 + Int.toNat 0 * 1]?) = a0 := rfl
  have e3 : (iv [.v (.int .i64 a3), .v (.int .i64 a4), .v (.int .i64 a5)][0 + Int.toNat 2 * 1]?) = a5 := rfl
  have e4 : (iv [.v (.int .i64 a3), .v (.int .i64 a4), .v (.int .i64 a5)][0 + Int.toNat 0 * 1]?) = a3 := rfl
  rw [e1, e2, e3, e4, p2, p3, q2, q3]
  refine bp n1 ?_
  rw [n2, n3]
  refine bp s1 ?_
  rw [s2, s3]
  refine bp c1 ?_
  rw [c2, c3]
theorem a_Cross_2 (F : Nat) {a0 a1 a2 a3 a4 a5 : Int} (h0 : I64 a0) (h1 : I64 a1) (h2 : I64 a2) (h3 : I64 a3) (h4 : I64 a4) (h5 : I64 a5) : ok_vec_Cross_1 F 2 a0 a1 a2 a3 a4 a5 = true ∧ o_vec_Cross_1_0 F 2 a0 a1 a2 a3 a4 a5 = clipV (arZ a0 a4 a1 a3) ∧ o_vec_Cross_1_1 F 2 a0 a1 a2 a3 a4 a5 = clipC (arZ a0 a4 a1 a3) := by
  refine k_vec_Cross_1 F _ _ _ _ _ _ _ ?_
  unfold f_vec_Cross_1
  obtain ⟨p1, p2, p3⟩ := a_product F h0 h4
  obtain ⟨q1, q2, q3⟩ := a_product F h1 h3
  obtain ⟨n1, n2, n3⟩ := a_Neg F (pr a1 a3)
  obtain ⟨s1, s2, s3⟩ := a_Add F (pr a0 a4) (-pr a1 a3)
  obtain ⟨c1, c2, c3⟩ := a_vclip F (ar_W h0 h4 h1 h3)
  unfold arZ at c1 c2 c3 ⊢
  rw [Int.sub_eq_add_neg] at c1 c2 c3 ⊢
  have w1 : Int.tmod (IntKind.wrap .i64 (2 + 1)) 3 = 0 := by decide
  have w2 : Int.tmod (IntKind.wrap .i64 (2 + 2)) 3 = 1 := by decide
  rw [w1, w2]
  refine bp rfl (bp rfl (bp rfl (bp rfl (bp p1 (bp rfl (bp rfl (bp rfl (bp rfl (bp q1 ?_)))))))))
  have e1 : (iv [.v (.int .i64 a0), .v (.int .i64 a1), .v (.int .i64 a2)][0 + Int.toNat 0 * 1]?) = a0 := rfl
  have e2 : (iv [.v (.int .i64 a0), .v (.int .i64 a1), .v (.int .i64 a2)][0 + Int.toNat 1 * 1]?) = a1 := rfl
  have e3 : (iv [.v (.int .i64 a3), .v (.int .i64 a4), .v (.int .i64 a5)][0 + Int.toNat 0 * 1]?) = a3 := rfl
  have e4 : (iv [.v (.int .i64 a3), .v (.int .i64 a4), .v (.int .i64 a5)][0 + Int.toNat 1 * 1]?) = a4 := rfl
  rw [e1, e2, e3, e4, p2, p3, q2, q3]
  refine bp n1 ?_
  rw [n2, n3]
  refine bp s1 ?_
  rw [s2, s3]
  refine bp c1 ?_
  rw [c2, c3]
theorem a_Cross (F : Nat) (hF : 200 ≤ F) {a0 a1 a2 a3 a4 a5 : Int} (h0 : I64 a0) (h1 : I64 a1) (h2 : I64 a2) (h3 : I64 a3) (h4 : I64 a4) (h5 : I64 a5) : ok_vec_Cross F a0 a1 a2 a3 a4 a5 = true ∧ o_vec_Cross_0 F a0 a1 a2 a3 a4 a5 = clipV (arZ a1 a5 a2 a4) ∧ o_vec_Cross_1 F a0 a1 a2 a3 a4 a5 = clipV (arZ a2 a3 a0 a5) ∧ o_vec_Cross_2 F a0 a1 a2 a3 a4 a5 = clipV (arZ a0 a4 a1 a3) ∧ o_vec_Cross_3 F a0 a1 a2 a3 a4 a5 = (clipC (arZ a1 a5 a2 a4) || clipC (arZ a2 a3 a0 a5) || clipC (arZ a0 a4 a1 a3)) := by
  refine k_vec_Cross F _ _ _ _ _ _ ?_
  unfold f_vec_Cross
  obtain ⟨e1, e2, e3, e4, e5⟩ := k_vec_eachv1 F _ _ _ _ _ _ (f_vec_eachv1' F hF (a_Cross_0 F h0 h1 h2 h3 h4 h5) (a_Cross_1 F h0 h1 h2 h3 h4 h5) (a_Cross_2 F h0 h1 h2 h3 h4 h5))
  refine bp e1 ?_
  rw [e2, e3, e4, e5]
theorem a_area (F : Nat) (hF : 200 ≤ F) {a b c d : Int} (h0 : I64 a) (h1 : I64 b) (h2 : I64 c) (h3 : I64 d) : ok_ref06_area F a b c d = true ∧ o_ref06_area_0 F a b c d = clipV (arZ a b c d) ∧ o_ref06_area_1 F a b c d = clipC (arZ a b c d) := by
  refine k_ref06_area F _ _ _ _ ?_
  unfold f_ref06_area
  obtain ⟨p1, p2, p3⟩ := a_rproduct F hF h0 h1
  obtain ⟨q1, q2, q3⟩ := a_rproduct F hF h2 h3
  obtain ⟨n1, n2, n3⟩ := a_rNeg F hF (pr c d)
  obtain ⟨s1, s2, s3⟩ := a_rAdd F hF (pr a b) (-pr c d)
  obtain ⟨c1, c2, c3⟩ := a_rvclip F (ar_W h0 h1 h2 h3)
  unfold arZ at c1 c2 c3 ⊢
  rw [Int.sub_eq_add_neg] at c1 c2 c3 ⊢
  refine bp p1 (bp q1 ?_)
  rw [p2, p3, q2, q3]
  refine bp n1 ?_
  rw [n2, n3]
  refine bp s1 ?_
  rw [s2, s3]
  refine bp c1 ?_
  rw [c2, c3]
theorem or3 {x y z : Int} {a b c : Bool} : (bif a then (some (VV.v (.tuple #[.agg #[.int .i64 x, .int .i64 y, .int .i64 z], .bool true])) : R) else (bif b then (some (.v (.tuple #[.agg #[.int .i64 x, .int .i64 y, .int .i64 z], .bool true]))) else (some (.v (.tuple #[.agg #[.int .i64 x, .int .i64 y, .int .i64 z], .bool c]))))) = some (.v (.tuple #[.agg #[.int .i64 x, .int .i64 y, .int .i64 z], .bool (a || b || c)])) := by
  cases a <;> cases b <;> rfl
theorem a_rCross (F : Nat) (hF : 200 ≤ F) {a0 a1 a2 a3 a4 a5 : Int} (h0 : I64 a0) (h1 : I64 a1) (h2 : I64 a2) (h3 : I64 a3) (h4 : I64 a4) (h5 : I64 a5) : ok_ref06_Cross F a0 a1 a2 a3 a4 a5 = true ∧ o_ref06_Cross_0 F a0 a1 a2 a3 a4 a5 = clipV (arZ a1 a5 a2 a4) ∧ o_ref06_Cross_1 F a0 a1 a2 a3 a4 a5 = clipV (arZ a2 a3 a0 a5) ∧ o_ref06_Cross_2 F a0 a1 a2 a3 a4 a5 = clipV (arZ a0 a4 a1 a3) ∧ o_ref06_Cross_3 F a0 a1 a2 a3 a4 a5 = (clipC (arZ a1 a5 a2 a4) || clipC (arZ a2 a3 a0 a5) || clipC (arZ a0 a4 a1 a3)) := by
  refine k_ref06_Cross F _ _ _ _ _ _ ?_
  unfold f_ref06_Cross
  obtain ⟨p1, p2, p3⟩ := a_area F hF h1 h5 h2 h4
  obtain ⟨q1, q2, q3⟩ := a_area F hF h2 h3 h0 h5
  obtain ⟨r1, r2, r3⟩ := a_area F hF h0 h4 h1 h3
  refine bp p1 (bp q1 (bp r1 ?_))
  rw [p2, p3, q2, q3, r2, r3]
  exact or3
theorem sz_U {a : Int} (h : I64 a) : U64 (sz a) := by unfold sz; unfold I64 at h; unfold U64; split <;> omega
theorem sz_sq (a : Int) : sz a * sz a = a * a := by
  unfold sz
  split
  · rw [Int.neg_mul_neg]
  · rfl
theorem a_vbare (F : Nat) {a : Int} (h : I64 a) : ok_vec_bare F a = true ∧ o_vec_bare_0 F a = sz a := by
  refine k_vec_bare F _ ?_
  unfold f_vec_bare sz
  unfold I64 at h
  by_cases hs : a < 0
  · refine bp (dt hs) ?_
    rw [if_pos hs, wu64, wu64]
    congr 3
    omega
  · refine bn (df hs) ?_
    rw [if_neg hs, wu64]
    congr 3
    omega
def sq3 (a b c : Int) : Int := a * a + b * b + c * c
noncomputable def lenV (z : Int) : Int := if z < 85070591730234615865843651857942052864 then rt z else 9223372036854775807
def lenC (z : Int) : Bool := decide (85070591730234615865843651857942052864 ≤ z)
theorem sq_bd64 {a : Int} (h : I64 a) : 0 ≤ a * a ∧ a * a ≤ 85070591730234615865843651857942052864 := by
  have h1 := sz_sq a
  have h2 : 0 ≤ sz a ∧ sz a ≤ 9223372036854775808 := by unfold sz; unfold I64 at h; split <;> omega
  have h3 := sq_le h2.1 h2.2
  have h4 := Int.mul_nonneg h2.1 h2.1
  omega
theorem rt_small {z : Int} (h0 : 0 ≤ z) : (rt z ≤ 9223372036854775807) ↔ z < 85070591730234615865843651857942052864 := by
  obtain ⟨h1, h2, h3⟩ := rt_spec h0
  constructor
  · intro h
    have := sq_le (x := rt z + 1) (y := 9223372036854775808) (by omega) (by omega)
    omega
  · intro h
    rcases Int.lt_or_le 9223372036854775807 (rt z) with hl | hl
    · have := sq_le (x := 9223372036854775808) (y := rt z) (by omega) (by omega)
      omega
    · exact hl
theorem len_some {n : Int} {c : Bool} {z : Int} (h : n = lenV z) (k : c = lenC z) : (some (VV.v (.tuple #[.int .i64 n, .bool c])) : R) = some (.v (.tuple #[.int .i64 (lenV z), .bool (lenC z)])) := by rw [h, k]
theorem len_big {z : Int} (h : 170141183460469231731687303715884105728 ≤ z) : (some (VV.v (.tuple #[.int .i64 9223372036854775807, .bool true])) : R) = some (.v (.tuple #[.int .i64 (lenV z), .bool (lenC z)])) := by
  refine len_some ?_ ?_
  · unfold lenV; rw [if_neg (by omega)]
  · unfold lenC; rw [dt (by omega)]
theorem hi_neg {z : Int} (h0 : 0 ≤ z) (h1 : z < 340282366920938463463374607431768211456) : (170141183460469231731687303715884105728 ≤ z ↔ W z < 0) := by unfold W; omega
end Go.Xv
namespace Go.Xv
theorem a_Sgn (F : Nat) {z : Int} (h0 : 0 ≤ z) (h1 : z < 340282366920938463463374607431768211456) : ok_wide_Sign F (hi z) (lo z) = true ∧ decide (o_wide_Sign_0 F (hi z) (lo z) < 0) = decide (170141183460469231731687303715884105728 ≤ z) := by
  obtain ⟨e1, e2⟩ := k_wide_Sign F _ _ (f_Sign F (a := hi z) (lo_U z))
  refine ⟨e1, ?_⟩
  rw [e2, val_hl]
  have := hi_neg h0 h1
  rw [Bool.eq_iff_iff]
  simp only [decide_eq_true_eq]
  split
  · omega
  · split <;> omega
theorem a_rootW (F : Nat) (hF : 200 ≤ F) {z : Int} (h0 : 0 ≤ z) (h1 : z < 170141183460469231731687303715884105728) : ok_root_Wide F (hi z) (lo z) = true ∧ o_root_Wide_0 F (hi z) (lo z) = rt z := by
  have h := f_rootWide F hF (hi_I z) (lo_U z)
  rw [val_hl, W_in (by unfold W128; omega)] at h
  unfold rootR at h
  rw [if_neg (by omega)] at h
  obtain ⟨e1, e2, _⟩ := k_root_Wide F _ _ h
  exact ⟨e1, e2⟩
theorem len_end {z : Int} (h0 : 0 ≤ z) : (bif decide (rt z > 9223372036854775807) then (some (.v (.tuple #[.int .i64 9223372036854775807, .bool true])) : R) else some (.v (.tuple #[.int .i64 (IntKind.wrap .i64 (rt z)), .bool false]))) = some (.v (.tuple #[.int .i64 (lenV z), .bool (lenC z)])) := by
  have hs := rt_small h0
  have hr := (rt_spec h0).1
  by_cases h : z < 85070591730234615865843651857942052864
  · refine bn (df (by have := hs.2 h; omega)) (len_some ?_ ?_)
    · unfold lenV; rw [if_pos h, wi64_in (by have := hs.2 h; unfold I64; omega)]
    · unfold lenC; rw [df (by omega)]
  · refine bp (dt ?_) (len_some ?_ ?_)
    · rcases Int.lt_or_le 9223372036854775807 (rt z) with hl | hl
      · exact hl
      · exact absurd (hs.1 hl) h
    · unfold lenV; rw [if_neg h]
    · unfold lenC; rw [dt (by omega)]
theorem f_Length (F : Nat) (hF : 200 ≤ F) {a b c : Int} (ha : I64 a) (hb : I64 b) (hc : I64 c) : f_vec_Length F a b c = some (.v (.tuple #[.int .i64 (lenV (sq3 a b c)), .bool (lenC (sq3 a b c))])) := by
  obtain ⟨p1, p2⟩ := a_vbare F ha
  obtain ⟨q1, q2⟩ := a_vbare F hb
  obtain ⟨r1, r2⟩ := a_vbare F hc
  obtain ⟨s1, s2, s3⟩ := a_Square F (sz_U ha)
  obtain ⟨t1, t2, t3⟩ := a_Square F (sz_U hb)
  obtain ⟨u1, u2, u3⟩ := a_Square F (sz_U hc)
  rw [sz_sq] at s2 s3 t2 t3 u2 u3
  have ba := sq_bd64 ha
  have bb := sq_bd64 hb
  have bc := sq_bd64 hc
  obtain ⟨v1, v2, v3⟩ := a_Add F 0 (a * a)
  obtain ⟨w1, w2, w3⟩ := a_Add F (a * a) (b * b)
  obtain ⟨x1, x2, x3⟩ := a_Add F (a * a + b * b) (c * c)
  rw [Int.zero_add] at v2 v3
  have v1' : ok_wide_Add F 0 0 (hi (a * a)) (lo (a * a)) = true := v1
  have v2' : o_wide_Add_0 F 0 0 (hi (a * a)) (lo (a * a)) = hi (a * a) := v2
  have v3' : o_wide_Add_1 F 0 0 (hi (a * a)) (lo (a * a)) = lo (a * a) := v3
  obtain ⟨g1, g2⟩ := a_Sgn F (z := a * a) (by omega) (by omega)
  obtain ⟨i1, i2⟩ := a_Sgn F (z := a * a + b * b) (by omega) (by omega)
  obtain ⟨j1, j2⟩ := a_Sgn F (z := a * a + b * b + c * c) (by omega) (by omega)
  obtain ⟨G, hG⟩ : ∃ G, F = G + 4 := ⟨F - 4, by omega⟩
  have y1 : IntKind.wrap .i64 (0 + 1) = 1 := by decide
  have y2 : IntKind.wrap .i64 (1 + 1) = 2 := by decide
  have y3 : IntKind.wrap .i64 (2 + 1) = 3 := by decide
  unfold f_vec_Length
  rw [show L_vec_Length_0 F _ _ F = L_vec_Length_0 F _ _ (G + 4) from congrArg (L_vec_Length_0 F _ _) hG, L_vec_Length_0]
  unfold B_vec_Length_0
  have e0 : (iv [.v (.int .i64 a), .v (.int .i64 b), .v (.int .i64 c)][Int.toNat 0 * 1]?) = a := rfl
  have e1 : (iv [.v (.int .i64 a), .v (.int .i64 b), .v (.int .i64 c)][Int.toNat 1 * 1]?) = b := rfl
  have e2 : (iv [.v (.int .i64 a), .v (.int .i64 b), .v (.int .i64 c)][Int.toNat 2 * 1]?) = c := rfl
  refine bp rfl (bp rfl ?_)
  rw [e0]
  refine bp p1 ?_
  rw [p2]
  refine bp s1 ?_
  rw [s2, s3]
  refine bp v1' ?_
  rw [v2', v3']
  refine bp g1 ?_
  rw [g2]
  refine bn (df (by omega)) ?_
  rw [y1, L_vec_Length_0]
  unfold B_vec_Length_0
  refine bp rfl (bp rfl ?_)
  rw [e1]
  refine bp q1 ?_
  rw [q2]
  refine bp t1 ?_
  rw [t2, t3]
  refine bp w1 ?_
  rw [w2, w3]
  refine bp i1 ?_
  rw [i2]
  by_cases hz : 170141183460469231731687303715884105728 ≤ a * a + b * b
  · exact bp (dt hz) (len_big (by unfold sq3; omega))
  · refine bn (df hz) ?_
    rw [y2, L_vec_Length_0]
    unfold B_vec_Length_0
    refine bp rfl (bp rfl ?_)
    rw [e2]
    refine bp r1 ?_
    rw [r2]
    refine bp u1 ?_
    rw [u2, u3]
    refine bp x1 ?_
    rw [x2, x3]
    refine bp j1 ?_
    rw [j2]
    by_cases hz2 : 170141183460469231731687303715884105728 ≤ a * a + b * b + c * c
    · exact bp (dt hz2) (len_big (by unfold sq3; omega))
    · refine bn (df hz2) ?_
      rw [y3, L_vec_Length_0]
      unfold B_vec_Length_0
      refine bn rfl ?_
      obtain ⟨k1, k2⟩ := a_rootW F hF (z := a * a + b * b + c * c) (by omega) (by omega)
      refine bp k1 ?_
      rw [k2]
      exact len_end (z := a * a + b * b + c * c) (by omega)
theorem a_Length (F : Nat) (hF : 200 ≤ F) {a b c : Int} (ha : I64 a) (hb : I64 b) (hc : I64 c) : ok_vec_Length F a b c = true ∧ o_vec_Length_0 F a b c = lenV (sq3 a b c) ∧ o_vec_Length_1 F a b c = lenC (sq3 a b c) := k_vec_Length F _ _ _ (f_Length F hF ha hb hc)
theorem f_works06 (F : Nat) (hF : 200 ≤ F) : f_law06_works F = some (.v (.bool true)) := by
  unfold f_law06_works
  obtain ⟨l1, l2, l3⟩ := a_Length F hF (a := 12884901888) (b := 17179869184) (c := 0) (by unfold I64; omega) (by unfold I64; omega) (by unfold I64; omega)
  have hz : sq3 12884901888 17179869184 0 = 461168601842738790400 := by decide
  have hr : rt 461168601842738790400 = 21474836480 := rt_eq (by omega) (by decide) (by decide)
  rw [hz] at l2 l3
  refine bp l1 (bp ?_ (some_bool ?_))
  · rw [l2]; unfold lenV; rw [if_pos (by decide), hr]; rfl
  · rw [l3]; decide
theorem a_works06 (F : Nat) (hF : 200 ≤ F) : ok_law06_works F = true ∧ o_law06_works_0 F = true := k_law06_works F (f_works06 F hF)
end Go.Xv
namespace Go.Xv
theorem f_VecMuls (F : Nat) (hF : 200 ≤ F) {a0 a1 a2 a3 a4 a5 : Int} (h0 : I64 a0) (h1 : I64 a1) (h2 : I64 a2) (h3 : I64 a3) (h4 : I64 a4) (h5 : I64 a5) : f_law06_VecMuls F a0 a1 a2 a3 a4 a5 = some (.v (.bool true)) := by
  unfold f_law06_VecMuls
  obtain ⟨w1, w2⟩ := a_works06 F hF
  obtain ⟨p1, p2, p3⟩ := a_Dot F hF h0 h1 h2 h3 h4 h5
  obtain ⟨q1, q2, q3⟩ := a_rDot F hF h0 h1 h2 h3 h4 h5
  obtain ⟨r1, r2, r3, r4, r5⟩ := a_Cross F hF h0 h1 h2 h3 h4 h5
  obtain ⟨s1, s2, s3, s4, s5⟩ := a_rCross F hF h0 h1 h2 h3 h4 h5
  simp only [p1, p2, p3, q1, q2, q3, r1, r2, r3, r4, r5, s1, s2, s3, s4, s5, w1, w2, BEq.rfl, cond_true, Bool.and_self]
end Go.Xv
namespace Go.Proofs.Ytpnggkefjgpleaa.vecMuls
open Go.ChangeShapes Go.WideShapes Go.ChangeAt Go.RowKit Go.Xv Go.Proofs.Ytpnggkefjgpleaa.base
set_option linter.unusedVariables false
set_option maxRecDepth 100000 in
theorem lifted (os : Os) (started : os.Started) (H : Type) (enc : TypeId × Value → H) :
    ReturnsInHanded {} Try.checked os 13 .any (Rows.vecMulsSpec.pre6 enc Try.prog Try.f13 Rows.vecMulsRow.domain false) (Rows.vecMulsSpec.post enc Try.prog Try.f13 false true false false) := by
  refine returnsInHanded_of_change (C := Try.checked) own started (by kernel_rfl) Try.func13
    (ChangeSpec.witness6 (enc := enc) (C := Try.checked) false ⟨#[], #[.agg #[.int .i64 0, .int .i64 0, .int .i64 0], .agg #[.int .i64 0, .int .i64 0, .int .i64 0]], []⟩ 8 (by kernel_rfl) (by kernel_rfl) (by kernel_rfl) (by kernel_rfl)) ?_
  intro W base args ds gs before hval0 hW hcnd _
  have hval : ∀ (j : Nat) t v, Try.f13.params[j]? = some t → args[j]? = some v → Value.okWide Try.prog W .any base t v := hval0
  have hW' := hW
  obtain ⟨p, q, hA0, hV, rfl, hfz, hnd⟩ := hW
  have hA : DataW.TrodAll enc Try.prog W 0 (fun _ => true) true Try.f13.params.toList args.toList ds p := hA0
  rw [Try.params13] at hA hval
  obtain ⟨v0, vs0, d0, ds0, p0, q0, hargs, rfl, rfl, h0, r0⟩ := trodAll_cons hA
  obtain ⟨v1, vs1, d1, ds1, p1, q1, rfl, rfl, rfl, h1, r1⟩ := trodAll_cons r0
  obtain ⟨rfl, rfl, rfl⟩ := trodAll_nil r1
  obtain rfl : args = #[v0, v1] := by cases args; simp_all
  obtain ⟨l0, rfl, f0⟩ := open_flat (ks := [some .i64, some .i64, some .i64]) (by kernel_rfl) (by kernel_rfl) (hval 0 24 v0 rfl rfl) h0
  obtain ⟨a0, l0, rfl, wa0, f0⟩ := fitW_some f0
  obtain ⟨a1, l0, rfl, wa1, f0⟩ := fitW_some f0
  obtain ⟨a2, l0, rfl, wa2, f0⟩ := fitW_some f0
  obtain rfl := fitW_nil f0
  obtain ⟨l1, rfl, f1⟩ := open_flat (ks := [some .i64, some .i64, some .i64]) (by kernel_rfl) (by kernel_rfl) (hval 1 24 v1 rfl rfl) h1
  obtain ⟨a3, l1, rfl, wa3, f1⟩ := fitW_some f1
  obtain ⟨a4, l1, rfl, wa4, f1⟩ := fitW_some f1
  obtain ⟨a5, l1, rfl, wa5, f1⟩ := fitW_some f1
  obtain rfl := fitW_nil f1
  refine law_contract laidOut (g_law06_VecMuls fuel0) (bt := 4) (by kernel_rfl) (by kernel_rfl) (by kernel_rfl) (by kernel_rfl) rfl hW' ?_
  refine ⟨[.v (.agg #[.int .i64 a0, .int .i64 a1, .int .i64 a2]), .v (.agg #[.int .i64 a3, .int .i64 a4, .int .i64 a5])], rfl, fun i x hx => ?_, unS_of ?_⟩
  · match i, hx with
    | 0, hx => exact ⟨_, rfl, by cases hx; exact Rel.v _ _⟩
    | 1, hx => exact ⟨_, rfl, by cases hx; exact Rel.v _ _⟩
    | _ + 2, hx => cases hx
  · obtain ⟨y1, y2⟩ := k_law06_VecMuls fuel0 a0 a1 a2 a3 a4 a5 (f_VecMuls fuel0 (by unfold fuel0; omega) (wf_i64 wa0) (wf_i64 wa1) (wf_i64 wa2) (wf_i64 wa3) (wf_i64 wa4) (wf_i64 wa5))
    have e : s_law06_VecMuls fuel0 [.v (.agg #[.int .i64 a0, .int .i64 a1, .int .i64 a2]), .v (.agg #[.int .i64 a3, .int .i64 a4, .int .i64 a5])] = some (ok_law06_VecMuls fuel0 a0 a1 a2 a3 a4 a5, .v (.bool (o_law06_VecMuls_0 fuel0 a0 a1 a2 a3 a4 a5))) := by kernel_rfl
    rw [e, y1, y2]
theorem over : Rows.vecMulsRow.holds Try.pinned (OpenSpec.ofChange Rows.vecMulsSpec) :=
  OpenClaim.holds_of_wide 13 Try.f13 rfl rfl rfl rfl rfl rfl rfl ⟨rfl, rfl, rfl, rfl, rfl⟩ rfl rfl rfl rfl rfl (by kernel_rfl) Try.func13 (joined_of (P := Try.prog) behind enter_ rfl rfl ⟨rfl, rfl⟩ (by kernel_rfl))
    (of_decide_eq_true (by kernel_rfl)) (by unfold Func.isWrapper; first | (rw [if_pos (by decide +kernel)]; kernel_rfl) | (rw [if_neg (by decide +kernel)]; exact ⟨rfl, rfl⟩))
    (fun os started H enc _ => lifted os started H enc)
/-- The statement. -/
theorem proved : Rows.VecMulsSaid := over
#print axioms proved
end Go.Proofs.Ytpnggkefjgpleaa.vecMuls
