/- The worst state of any zones is as the document says, or refused: the law returns true for every input, and leaves its arguments as they were. -/
import Derived.Test.YtjhnmpfaemhnhaaLFenceWorst3
import Derived.LoopTactic
import Derived.WalkKit
import Derived.Deep.RegionHeld3
import Derived.Deep.RegionHeldLaw
import Derived.Deep.AppendLies
import Derived.Laws.OwnMore
namespace Go.Xv
open Go.RowKit Go.Shelf

/-- the worst of zones, as both programs find it. -/
def wst (p : Pt) (h r : Int) : List ZD → Int → Int → Int → Int × Int × Int
  | [], _, v, k => (v, k, 0)
  | z :: t, i, v, k => if stE z p r = 0 then (if k < 0 ∨ v < stS z p h r then wst p h r t (i + 1) (stS z p h r) i else wst p h r t (i + 1) v k) else (0, 0, stE z p r)
def worstOf (p : Pt) (h r : Int) (L : List ZD) : Int × Int × Int := if rightB p = true ∧ 0 ≤ r ∧ r ≤ 1152921504606846976 then wst p h r L 0 0 (-1) else (0, 0, 2)
def ZRow (S : Nat → Prop) (w : World) (b q : Nat) (L : List ZD) : Prop := ∀ j z, L[j]? = some z → ∃ a cap, w.cell? ⟨b, q + j * 4, none⟩ = some (.bool z.kp) ∧ w.cell? ⟨b, q + j * 4 + 1, none⟩ = some (.slice a z.zs.length cap) ∧
  w.cell? ⟨b, q + j * 4 + 2, none⟩ = some (.int .i64 z.fl) ∧ w.cell? ⟨b, q + j * 4 + 3, none⟩ = some (.int .i64 z.rf) ∧ ZSl S w z.zs a cap
theorem ZRow.below {S : Nat → Prop} {w w' : World} {b q : Nat} {L : List ZD} (h : ZRow S w b q L) (hb : b < w.heap.size) (hB : Below w.heap.size w w') : ZRow S w' b q L := by
  intro j z hj
  obtain ⟨a, cap, h1, h2, h3, h4, h5⟩ := h j z hj
  exact ⟨a, cap, (hB.cell (p := ⟨b, _, none⟩) hb).trans h1, (hB.cell (p := ⟨b, _, none⟩) hb).trans h2, (hB.cell (p := ⟨b, _, none⟩) hb).trans h3, (hB.cell (p := ⟨b, _, none⟩) hb).trans h4, h5.below hB⟩


def W2 (w : World) (p : Pt) (h : Int) : World := (w.alloc (.cells #[.int .i64 p.1, .int .i64 p.2, .int .i64 h] 27)).alloc (.cells #[.int .i64 p.1, .int .i64 p.2] 33)
theorem W2_below (w : World) (p : Pt) (h : Int) : Below w.heap.size w (W2 w p h) := ((Below.refl _ w).alloc (Nat.le_refl _) _).alloc (by simp) _
theorem W2_size (w : World) (p : Pt) (h : Int) : (W2 w p h).heap.size = w.heap.size + 2 := by simp [W2]
theorem W2_blk (w : World) (p : Pt) (h : Int) : (W2 w p h).heap[w.heap.size]? = some (.cells #[.int .i64 p.1, .int .i64 p.2, .int .i64 h] 27 (0, 0)) :=
  (Below.heap_alloc _ _ _ (by simp)).trans (World.alloc_heap_new w _)
def W1 (w : World) (p : Pt) (h : Int) : World := w.alloc (.cells #[.int .i64 p.1, .int .i64 p.2, .int .i64 h] 27)
theorem W1_below (w : World) (p : Pt) (h : Int) : Below w.heap.size w (W1 w p h) := (Below.refl _ w).alloc (Nat.le_refl _) _
theorem W1_size (w : World) (p : Pt) (h : Int) : (W1 w p h).heap.size = w.heap.size + 1 := by simp [W1]
theorem W1_blk (w : World) (p : Pt) (h : Int) : (W1 w p h).heap[w.heap.size]? = some (.cells #[.int .i64 p.1, .int .i64 p.2, .int .i64 h] 27 (0, 0)) := World.alloc_heap_new w _
theorem wst_step {p : Pt} {h r : Int} {L : List ZD} {j : Nat} {z : ZD} (hj : L[j]? = some z) (i v k : Int) : wst p h r (L.drop j) i v k =
    if stE z p r = 0 then (if k < 0 ∨ v < stS z p h r then wst p h r (L.drop (j + 1)) (i + 1) (stS z p h r) i else wst p h r (L.drop (j + 1)) (i + 1) v k) else (0, 0, stE z p r) := by
  obtain ⟨hlt, hz⟩ := List.getElem?_eq_some_iff.1 hj
  rw [List.drop_eq_getElem_cons hlt, hz]
  rfl

set_option maxRecDepth 100000 in
set_option maxHeartbeats 4000000 in
theorem Worst_calls (L : List ZD) (hL : ∀ z ∈ L, z.ok) (hn : L.length ≤ 1000) (a : Option Addr) (cap : Nat) (b q : Nat) (w : World) (ha : 0 < L.length → a = some ⟨b, q, none⟩ ∧ b < w.heap.size ∧ ZRow (fun _ => True) w b q L)
    (p : Pt) (h r : Int) (hh : I64 h) :
    Calls PP 19 #[.slice a L.length cap, .agg #[.int .i64 p.1, .int .i64 p.2, .int .i64 h], .int .i64 r] w fun e w' =>
      e = .returned (.tuple #[.int .i64 (worstOf p h r L).1, .int .i64 (worstOf p h r L).2.1, .int .i64 (worstOf p h r L).2.2]) ∧ Below w.heap.size w w' := by
  go_enter Proofs.Try.func19, Proofs.Try.ntmps19
  have hr0 := pright_calls p.1 p.2
  by_cases hg : rightB p = true ∧ 0 ≤ r ∧ r ≤ 1152921504606846976
  case neg =>
    have hw : worstOf p h r L = (0, 0, 2) := by unfold worstOf; rw [if_neg hg]
    rw [hw]
    cases hb : rightB p with
    | false =>
      rw [show (p.1, p.2) = p from rfl, hb] at hr0
      go_wp2_with (go_at_call 33; refine (hr0 _).mono ?_; clear hr0; rintro e w1 ⟨rfl, hB1⟩)
      refine bodyPost_ret (v := .tuple #[.int .i64 0, .int .i64 0, .int .i64 2]) (by simp [results, Proofs.Try.f19, go_sem]) rfl ⟨rfl, ?_⟩
      exact (W2_below w p h).trans ((show Below (W2 w p h).heap.size (W2 w p h) w1 from hB1).mono (W2_below w p h).size)
    | true =>
      rw [show (p.1, p.2) = p from rfl, hb] at hr0
      by_cases h0 : r < 0
      · go_wp2_with (go_at_call 33; refine (hr0 _).mono ?_; clear hr0; rintro e w1 ⟨rfl, hB1⟩)
        refine bodyPost_ret (v := .tuple #[.int .i64 0, .int .i64 0, .int .i64 2]) (by simp [results, Proofs.Try.f19, go_sem]) rfl ⟨rfl, ?_⟩
        exact (W2_below w p h).trans ((show Below (W2 w p h).heap.size (W2 w p h) w1 from hB1).mono (W2_below w p h).size)
      · have h1 : 1152921504606846976 < r := by simp [hb] at hg; omega
        go_wp2_with (go_at_call 33; refine (hr0 _).mono ?_; clear hr0; rintro e w1 ⟨rfl, hB1⟩)
        refine bodyPost_ret (v := .tuple #[.int .i64 0, .int .i64 0, .int .i64 2]) (by simp [results, Proofs.Try.f19, go_sem]) rfl ⟨rfl, ?_⟩
        exact (W2_below w p h).trans ((show Below (W2 w p h).heap.size (W2 w p h) w1 from hB1).mono (W2_below w p h).size)
  case pos =>
    have hw : worstOf p h r L = wst p h r L 0 0 (-1) := by unfold worstOf; rw [if_pos hg]
    rw [hw]
    obtain ⟨hb, h0, h1⟩ := hg
    have h0' : ¬ r < 0 := by omega
    have h1' : ¬ 1152921504606846976 < r := by omega
    rw [show (p.1, p.2) = p from rfl, hb] at hr0
    go_wp2_with (go_at_call 33; refine (hr0 _).mono ?_; clear hr0; rintro e w1 ⟨rfl, hB1⟩)
    replace hB1 : Below (W2 w p h).heap.size (W2 w p h) w1 := hB1
    have hw1 : Below w.heap.size w w1 := (W2_below w p h).trans (hB1.mono (W2_below w p h).size)
    have hb1 : w1.heap[w.heap.size]? = some (.cells #[.int .i64 p.1, .int .i64 p.2, .int .i64 h] 27 (0, 0)) := (hB1.block _ (by rw [W2_size]; omega)).trans (W2_blk w p h)
    clear hB1
    go_loopw [10, 11, 34] (fun v kk i wr => ∃ (j : Nat) (x k : Int), j ≤ L.length ∧ i = .int .i64 j ∧ v = .int .i64 x ∧ kk = .int .i64 k ∧ wst p h r (L.drop j) j x k = wst p h r L 0 0 (-1) ∧ Below w.heap.size w wr ∧
        wr.heap[w.heap.size]? = some (.cells #[.int .i64 p.1, .int .i64 p.2, .int .i64 h] 27 (0, 0))) (fun v kk i _ => L.length - (intOf i).toNat)
    case atStart => exact ⟨0, 0, -1, Nat.zero_le _, rfl, rfl, rfl, rfl, hw1, hb1⟩
    case round =>
      obtain ⟨j, x, k, hj, rfl, rfl, rfl, hst, hbl, hbk⟩ := hrel
      have c0 : wr.cell? ⟨w.heap.size, 0, none⟩ = some (.int .i64 p.1) := cell_blk hbk
      have c1 : wr.cell? ⟨w.heap.size, 1, none⟩ = some (.int .i64 p.2) := cell_blk hbk
      have c2 : wr.cell? ⟨w.heap.size, 2, none⟩ = some (.int .i64 h) := cell_blk hbk
      by_cases hlt : j < L.length
      · obtain ⟨z, hz⟩ : ∃ z, L[j]? = some z := ⟨_, List.getElem?_eq_getElem hlt⟩
        have hzo := hL z (List.mem_of_getElem? hz)
        obtain ⟨rfl, hbw, hrow⟩ := ha (by omega)
        obtain ⟨za, zcap, d0, d1, d2, d3, hzs⟩ := hrow j z hz
        replace d0 := (hbl.cell (p := ⟨b, _, none⟩) hbw).trans d0
        replace d1 := (hbl.cell (p := ⟨b, _, none⟩) hbw).trans d1
        replace d2 := (hbl.cell (p := ⟨b, _, none⟩) hbw).trans d2
        replace d3 := (hbl.cell (p := ⟨b, _, none⟩) hbw).trans d3
        have hcall := fun W (hW : Below w.heap.size w W) => State_calls z hzo za zcap p h r hh W (hzs.below hW)
        rw [wst_step hz] at hst
        have hwr : w.heap.size < wr.heap.size := (Array.getElem?_eq_some_iff.1 hbk).1
        clear hw1 hb1
        by_cases hE : stE z p r = 0
        · rw [if_pos hE] at hst
          rw [hE] at hcall
          by_cases hk : k < 0
          · rw [if_pos (.inl hk)] at hst
            go_wp2_with (go_at_call 13; refine (hcall _ (hbl.alloc (by omega) _)).mono ?_; clear hcall; rintro e w2 ⟨rfl, hB2⟩)
            have hB2' : Below wr.heap.size wr w2 := ((Below.refl wr.heap.size wr).alloc (Nat.le_refl _) _).trans (hB2.mono (by simp))
            exact ⟨⟨j + 1, _, _, by omega, by simp, rfl, rfl, by push_cast; exact hst, hbl.trans (hB2'.mono (by omega)), (hB2'.block _ hwr).trans hbk⟩, by simp [intOf]; omega⟩
          · by_cases hv : x < stS z p h r
            · rw [if_pos (.inr hv)] at hst
              go_wp2_with (go_at_call 13; refine (hcall _ (hbl.alloc (by omega) _)).mono ?_; clear hcall; rintro e w2 ⟨rfl, hB2⟩)
              have hB2' : Below wr.heap.size wr w2 := ((Below.refl wr.heap.size wr).alloc (Nat.le_refl _) _).trans (hB2.mono (by simp))
              exact ⟨⟨j + 1, _, _, by omega, by simp, rfl, rfl, by push_cast; exact hst, hbl.trans (hB2'.mono (by omega)), (hB2'.block _ hwr).trans hbk⟩, by simp [intOf]; omega⟩
            · rw [if_neg (by omega)] at hst
              go_wp2_with (go_at_call 13; refine (hcall _ (hbl.alloc (by omega) _)).mono ?_; clear hcall; rintro e w2 ⟨rfl, hB2⟩)
              have hB2' : Below wr.heap.size wr w2 := ((Below.refl wr.heap.size wr).alloc (Nat.le_refl _) _).trans (hB2.mono (by simp))
              exact ⟨⟨j + 1, _, _, by omega, by simp, rfl, rfl, by push_cast; exact hst, hbl.trans (hB2'.mono (by omega)), (hB2'.block _ hwr).trans hbk⟩, by simp [intOf]; omega⟩
        · rw [if_neg hE] at hst
          go_wp2_with (go_at_call 13; refine (hcall _ (hbl.alloc (by omega) _)).mono ?_; clear hcall; rintro e w2 ⟨rfl, hB2⟩)
          have hB2' : Below wr.heap.size wr w2 := ((Below.refl wr.heap.size wr).alloc (Nat.le_refl _) _).trans (hB2.mono (by simp))
          refine bodyPost_ret (v := .tuple #[.int .i64 0, .int .i64 0, .int .i64 (stE z p r)]) (by simp [results, Proofs.Try.f19, go_sem]) rfl ⟨by rw [← hst], hbl.trans (hB2'.mono (by omega))⟩
      · obtain rfl : j = L.length := by omega
        rw [List.drop_length] at hst
        go_wp2
        refine bodyPost_ret (v := .tuple #[.int .i64 x, .int .i64 k, .int .i64 0]) (by simp [results, Proofs.Try.f19, go_sem]) rfl ⟨by rw [← hst]; rfl, hbl⟩
end Go.Xv
namespace Go.Xv
open Go.RowKit Go.Shelf
set_option maxRecDepth 100000 in
set_option maxHeartbeats 4000000 in
theorem rWorst_calls (L : List ZD) (hL : ∀ z ∈ L, z.ok) (hn : L.length ≤ 1000) (a : Option Addr) (cap : Nat) (b q : Nat) (w : World) (ha : 0 < L.length → a = some ⟨b, q, none⟩ ∧ b < w.heap.size ∧ ZRow (fun _ => True) w b q L)
    (p : Pt) (h r : Int) (hh : I64 h) :
    Calls PP 20 #[.slice a L.length cap, .agg #[.int .i64 p.1, .int .i64 p.2, .int .i64 h], .int .i64 r] w fun e w' =>
      e = .returned (.tuple #[.int .i64 (worstOf p h r L).1, .int .i64 (worstOf p h r L).2.1, .int .i64 (worstOf p h r L).2.2]) ∧ Below w.heap.size w w' := by
  go_enter Proofs.Try.func20, Proofs.Try.ntmps20
  have hr0 := rpoint_calls p.1 p.2
  by_cases hg : rightB p = true ∧ 0 ≤ r ∧ r ≤ 1152921504606846976
  case neg =>
    have hw : worstOf p h r L = (0, 0, 2) := by unfold worstOf; rw [if_neg hg]
    rw [hw]
    cases hb : rightB p with
    | false =>
      rw [show (p.1, p.2) = p from rfl, hb] at hr0
      go_wp2_with (go_at_call 26; refine (hr0 _).mono ?_; clear hr0; rintro e w1 ⟨rfl, hB1⟩)
      refine bodyPost_ret (v := .tuple #[.int .i64 0, .int .i64 0, .int .i64 2]) (by simp [results, Proofs.Try.f20, go_sem]) rfl ⟨rfl, ?_⟩
      exact (W1_below w p h).trans ((show Below (W1 w p h).heap.size (W1 w p h) w1 from hB1).mono (W1_below w p h).size)
    | true =>
      rw [show (p.1, p.2) = p from rfl, hb] at hr0
      by_cases h0 : r < 0
      · go_wp2_with (go_at_call 26; refine (hr0 _).mono ?_; clear hr0; rintro e w1 ⟨rfl, hB1⟩)
        refine bodyPost_ret (v := .tuple #[.int .i64 0, .int .i64 0, .int .i64 2]) (by simp [results, Proofs.Try.f20, go_sem]) rfl ⟨rfl, ?_⟩
        exact (W1_below w p h).trans ((show Below (W1 w p h).heap.size (W1 w p h) w1 from hB1).mono (W1_below w p h).size)
      · have h1 : 1152921504606846976 < r := by simp [hb] at hg; omega
        go_wp2_with (go_at_call 26; refine (hr0 _).mono ?_; clear hr0; rintro e w1 ⟨rfl, hB1⟩)
        refine bodyPost_ret (v := .tuple #[.int .i64 0, .int .i64 0, .int .i64 2]) (by simp [results, Proofs.Try.f20, go_sem]) rfl ⟨rfl, ?_⟩
        exact (W1_below w p h).trans ((show Below (W1 w p h).heap.size (W1 w p h) w1 from hB1).mono (W1_below w p h).size)
  case pos =>
    have hw : worstOf p h r L = wst p h r L 0 0 (-1) := by unfold worstOf; rw [if_pos hg]
    rw [hw]
    obtain ⟨hb, h0, h1⟩ := hg
    have h0' : ¬ r < 0 := by omega
    have h1' : ¬ 1152921504606846976 < r := by omega
    rw [show (p.1, p.2) = p from rfl, hb] at hr0
    go_wp2_with (go_at_call 26; refine (hr0 _).mono ?_; clear hr0; rintro e w1 ⟨rfl, hB1⟩)
    replace hB1 : Below (W1 w p h).heap.size (W1 w p h) w1 := hB1
    have hw1 : Below w.heap.size w w1 := (W1_below w p h).trans (hB1.mono (W1_below w p h).size)
    have hb1 : w1.heap[w.heap.size]? = some (.cells #[.int .i64 p.1, .int .i64 p.2, .int .i64 h] 27 (0, 0)) := (hB1.block _ (by rw [W1_size]; omega)).trans (W1_blk w p h)
    clear hB1
    go_loopw [9, 10, 11] (fun v kk i wr => ∃ (j : Nat) (x k : Int), j ≤ L.length ∧ i = .int .i64 j ∧ v = .int .i64 x ∧ kk = .int .i64 k ∧ wst p h r (L.drop j) j x k = wst p h r L 0 0 (-1) ∧ Below w.heap.size w wr ∧
        wr.heap[w.heap.size]? = some (.cells #[.int .i64 p.1, .int .i64 p.2, .int .i64 h] 27 (0, 0))) (fun v kk i _ => L.length - (intOf i).toNat)
    case atStart => exact ⟨0, 0, -1, Nat.zero_le _, rfl, rfl, rfl, rfl, hw1, hb1⟩
    case round =>
      obtain ⟨j, x, k, hj, rfl, rfl, rfl, hst, hbl, hbk⟩ := hrel
      have c0 : wr.cell? ⟨w.heap.size, 0, none⟩ = some (.int .i64 p.1) := cell_blk hbk
      have c1 : wr.cell? ⟨w.heap.size, 1, none⟩ = some (.int .i64 p.2) := cell_blk hbk
      have c2 : wr.cell? ⟨w.heap.size, 2, none⟩ = some (.int .i64 h) := cell_blk hbk
      by_cases hlt : j < L.length
      · obtain ⟨z, hz⟩ : ∃ z, L[j]? = some z := ⟨_, List.getElem?_eq_getElem hlt⟩
        have hzo := hL z (List.mem_of_getElem? hz)
        obtain ⟨rfl, hbw, hrow⟩ := ha (by omega)
        obtain ⟨za, zcap, d0, d1, d2, d3, hzs⟩ := hrow j z hz
        replace d0 := (hbl.cell (p := ⟨b, _, none⟩) hbw).trans d0
        replace d1 := (hbl.cell (p := ⟨b, _, none⟩) hbw).trans d1
        replace d2 := (hbl.cell (p := ⟨b, _, none⟩) hbw).trans d2
        replace d3 := (hbl.cell (p := ⟨b, _, none⟩) hbw).trans d3
        have hcall := fun W (hW : Below w.heap.size w W) => rState_calls z hzo za zcap p h r hh W (hzs.below hW)
        rw [wst_step hz] at hst
        have hwr : w.heap.size < wr.heap.size := (Array.getElem?_eq_some_iff.1 hbk).1
        have hS : ∀ w', Below wr.heap.size wr w' → w'.cell? ⟨b, q + j * 4, none⟩ = some (.bool z.kp) ∧ w'.cell? ⟨b, q + j * 4 + 1, none⟩ = some (.slice za z.zs.length zcap) ∧ w'.cell? ⟨b, q + j * 4 + 2, none⟩ = some (.int .i64 z.fl) ∧ w'.cell? ⟨b, q + j * 4 + 3, none⟩ = some (.int .i64 z.rf) ∧
            w'.cell? ⟨w.heap.size, 0, none⟩ = some (.int .i64 p.1) ∧ w'.cell? ⟨w.heap.size, 1, none⟩ = some (.int .i64 p.2) ∧ w'.cell? ⟨w.heap.size, 2, none⟩ = some (.int .i64 h) ∧ Below wr.heap.size wr w' := fun w' hB =>
          have hbr : b < wr.heap.size := Nat.lt_of_lt_of_le hbw hbl.size
          ⟨(hB.cell (p := ⟨b, _, none⟩) hbr).trans d0, (hB.cell (p := ⟨b, _, none⟩) hbr).trans d1, (hB.cell (p := ⟨b, _, none⟩) hbr).trans d2, (hB.cell (p := ⟨b, _, none⟩) hbr).trans d3,
            (hB.cell (p := ⟨w.heap.size, _, none⟩) hwr).trans c0, (hB.cell (p := ⟨w.heap.size, _, none⟩) hwr).trans c1, (hB.cell (p := ⟨w.heap.size, _, none⟩) hwr).trans c2, hB⟩
        have hd : Below wr.heap.size wr wr.drew := ⟨rfl, rfl, rfl, Nat.le_refl _, fun _ _ => rfl⟩
        have hnw : IntKind.wrap .i64 ((j : Int) + 1) = (j : Int) + 1 := by simp [IntKind.wrap, IntKind.signed, IntKind.bits]; omega
        clear hw1 hb1
        by_cases hE : stE z p r = 0
        · rw [if_pos hE] at hst
          rw [hE] at hcall
          by_cases hk : k < 0
          · rw [if_pos (.inl hk)] at hst
            go_wp2
            go_region_held3 (fun w' => w'.cell? ⟨b, q + j * 4, none⟩ = some (.bool z.kp) ∧ w'.cell? ⟨b, q + j * 4 + 1, none⟩ = some (.slice za z.zs.length zcap) ∧ w'.cell? ⟨b, q + j * 4 + 2, none⟩ = some (.int .i64 z.fl) ∧ w'.cell? ⟨b, q + j * 4 + 3, none⟩ = some (.int .i64 z.rf) ∧
              w'.cell? ⟨w.heap.size, 0, none⟩ = some (.int .i64 p.1) ∧ w'.cell? ⟨w.heap.size, 1, none⟩ = some (.int .i64 p.2) ∧ w'.cell? ⟨w.heap.size, 2, none⟩ = some (.int .i64 h) ∧ Below wr.heap.size wr w') (first | exact hS _ hd | exact hS _ hB2) (first | (go_at_call 14; refine (hcall _ (hbl.trans (hd.mono (by omega)))).mono ?_; rintro e w2 ⟨rfl, hB2⟩; replace hB2 : Below wr.heap.size wr w2 := hd.trans hB2))
            go_wp2
            have hB2' : Below wr.heap.size wr w2 := hB2
            exact ⟨⟨j + 1, _, _, by omega, by simp, rfl, rfl, by push_cast; exact hst, hbl.trans (hB2'.mono (by omega)), (hB2'.block _ hwr).trans hbk⟩, by simp [intOf]; omega⟩
          · by_cases hv : x < stS z p h r
            · rw [if_pos (.inr hv)] at hst
              go_wp2
              go_region_held3 (fun w' => w'.cell? ⟨b, q + j * 4, none⟩ = some (.bool z.kp) ∧ w'.cell? ⟨b, q + j * 4 + 1, none⟩ = some (.slice za z.zs.length zcap) ∧ w'.cell? ⟨b, q + j * 4 + 2, none⟩ = some (.int .i64 z.fl) ∧ w'.cell? ⟨b, q + j * 4 + 3, none⟩ = some (.int .i64 z.rf) ∧
                w'.cell? ⟨w.heap.size, 0, none⟩ = some (.int .i64 p.1) ∧ w'.cell? ⟨w.heap.size, 1, none⟩ = some (.int .i64 p.2) ∧ w'.cell? ⟨w.heap.size, 2, none⟩ = some (.int .i64 h) ∧ Below wr.heap.size wr w') (first | exact hS _ hd | exact hS _ hB2) (first | (go_at_call 14; refine (hcall _ (hbl.trans (hd.mono (by omega)))).mono ?_; rintro e w2 ⟨rfl, hB2⟩; replace hB2 : Below wr.heap.size wr w2 := hd.trans hB2))
              go_wp2
              have hB2' : Below wr.heap.size wr w2 := hB2
              exact ⟨⟨j + 1, _, _, by omega, by simp, rfl, rfl, by push_cast; exact hst, hbl.trans (hB2'.mono (by omega)), (hB2'.block _ hwr).trans hbk⟩, by simp [intOf]; omega⟩
            · rw [if_neg (by omega)] at hst
              go_wp2
              go_region_held3 (fun w' => w'.cell? ⟨b, q + j * 4, none⟩ = some (.bool z.kp) ∧ w'.cell? ⟨b, q + j * 4 + 1, none⟩ = some (.slice za z.zs.length zcap) ∧ w'.cell? ⟨b, q + j * 4 + 2, none⟩ = some (.int .i64 z.fl) ∧ w'.cell? ⟨b, q + j * 4 + 3, none⟩ = some (.int .i64 z.rf) ∧
                w'.cell? ⟨w.heap.size, 0, none⟩ = some (.int .i64 p.1) ∧ w'.cell? ⟨w.heap.size, 1, none⟩ = some (.int .i64 p.2) ∧ w'.cell? ⟨w.heap.size, 2, none⟩ = some (.int .i64 h) ∧ Below wr.heap.size wr w') (first | exact hS _ hd | exact hS _ hB2) (first | (go_at_call 14; refine (hcall _ (hbl.trans (hd.mono (by omega)))).mono ?_; rintro e w2 ⟨rfl, hB2⟩; replace hB2 : Below wr.heap.size wr w2 := hd.trans hB2))
              go_wp2
              have hB2' : Below wr.heap.size wr w2 := hB2
              exact ⟨⟨j + 1, _, _, by omega, by simp, rfl, rfl, by push_cast; exact hst, hbl.trans (hB2'.mono (by omega)), (hB2'.block _ hwr).trans hbk⟩, by simp [intOf]; omega⟩
        · rw [if_neg hE] at hst
          go_wp2
          go_region_held3 (fun w' => w'.cell? ⟨b, q + j * 4, none⟩ = some (.bool z.kp) ∧ w'.cell? ⟨b, q + j * 4 + 1, none⟩ = some (.slice za z.zs.length zcap) ∧ w'.cell? ⟨b, q + j * 4 + 2, none⟩ = some (.int .i64 z.fl) ∧ w'.cell? ⟨b, q + j * 4 + 3, none⟩ = some (.int .i64 z.rf) ∧
            w'.cell? ⟨w.heap.size, 0, none⟩ = some (.int .i64 p.1) ∧ w'.cell? ⟨w.heap.size, 1, none⟩ = some (.int .i64 p.2) ∧ w'.cell? ⟨w.heap.size, 2, none⟩ = some (.int .i64 h) ∧ Below wr.heap.size wr w') (first | exact hS _ hd | exact hS _ hB2) (first | (go_at_call 14; refine (hcall _ (hbl.trans (hd.mono (by omega)))).mono ?_; rintro e w2 ⟨rfl, hB2⟩; replace hB2 : Below wr.heap.size wr w2 := hd.trans hB2))
          go_wp2
          have hB2' : Below wr.heap.size wr w2 := hB2
          refine bodyPost_ret (v := .tuple #[.int .i64 0, .int .i64 0, .int .i64 (stE z p r)]) (by simp [results, Proofs.Try.f20, go_sem]) rfl ⟨by rw [← hst], hbl.trans (hB2'.mono (by omega))⟩
      · obtain rfl : j = L.length := by omega
        rw [List.drop_length] at hst
        go_wp2
        refine bodyPost_ret (v := .tuple #[.int .i64 x, .int .i64 k, .int .i64 0]) (by simp [results, Proofs.Try.f20, go_sem]) rfl ⟨by rw [← hst]; rfl, hbl⟩
end Go.Xv
namespace Go.Xv
open Go.RowKit Go.Shelf

def zCells (t : ZD × Option Addr × Nat) : List Value := [.bool t.1.kp, .slice t.2.1 t.1.zs.length t.2.2, .int .i64 t.1.fl, .int .i64 t.1.rf]
def rowCells : List (ZD × Option Addr × Nat) → List Value
  | [] => []
  | t :: r => zCells t ++ rowCells r
theorem rowCells_app : ∀ (a b : List (ZD × Option Addr × Nat)), rowCells (a ++ b) = rowCells a ++ rowCells b
  | [], _ => rfl
  | t :: a, b => by simp [rowCells, rowCells_app a b]
theorem rowCells_get : ∀ (M : List (ZD × Option Addr × Nat)) (j c : Nat) (t), M[j]? = some t → c < 4 → (rowCells M)[j * 4 + c]? = (zCells t)[c]?
  | [], j, c, t, h, _ => by cases h
  | x :: r, 0, c, t, h, hc => by
    simp only [List.getElem?_cons_zero, Option.some.injEq] at h
    subst h
    rw [rowCells, List.getElem?_append_left (by simp [zCells]; omega)]
    simp
  | x :: r, j + 1, c, t, h, hc => by
    rw [rowCells, List.getElem?_append_right (by simp [zCells]; omega)]
    rw [show (j + 1) * 4 + c - (zCells x).length = j * 4 + c by simp [zCells]; omega]
    exact rowCells_get r j c t (by simpa using h) hc

/-- the row of zones that one of the law's slices is. -/
structure RowZ (base : Nat) (ty : TypeId) (S : Nat → Prop) (w : World) (g cap : Nat) (M : List (ZD × Option Addr × Nat)) : Prop where
  own : w.ownsRow base ty 4 (.slice (some ⟨g, 0, none⟩) M.length cap) M.length (rowCells M)
  zone : ∀ t ∈ M, ZSl S w t.1.zs t.2.1 t.2.2
theorem ownsRow_same {w w' : World} {base e size g n cap : Nat} {xs : List Value} (h : w.ownsRow base e size (.slice (some ⟨g, 0, none⟩) n cap) n xs) (he : w'.heap[g]? = w.heap[g]?) : w'.ownsRow base e size (.slice (some ⟨g, 0, none⟩) n cap) n xs := by
  refine ⟨h.1, ?_⟩
  rcases h.2 with ⟨hn, _⟩ | ⟨g', cap', cur, hv, hb, hg, rest⟩
  · cases hn
  · cases hv
    exact .inr ⟨g, cap, cur, rfl, hb, he.trans hg, rest⟩
theorem ownsRow_g {w : World} {base e size g n cap : Nat} {xs : List Value} (h : w.ownsRow base e size (.slice (some ⟨g, 0, none⟩) n cap) n xs) : base ≤ g ∧ g < w.heap.size := h.lt g rfl
theorem RowZ.same {base : Nat} {ty : TypeId} {S S' : Nat → Prop} {w w' : World} {g cap : Nat} {M : List (ZD × Option Addr × Nat)} (h : RowZ base ty S w g cap M) (hg : w'.heap[g]? = w.heap[g]?)
    (hS : ∀ b, S b → b < w.heap.size → S' b ∧ w'.heap[b]? = w.heap[b]?) (hz : w.heap.size ≤ w'.heap.size) : RowZ base ty S' w' g cap M :=
  ⟨ownsRow_same h.own hg, fun t ht => (h.zone t ht).same hS hz⟩
theorem RowZ.row {base : Nat} {ty : TypeId} {S : Nat → Prop} {w : World} {g cap : Nat} {M : List (ZD × Option Addr × Nat)} (h : RowZ base ty S w g cap M) : ZRow (fun _ => True) w g 0 (M.map (·.1)) := by
  intro j z hj
  rw [List.getElem?_map, Option.map_eq_some_iff] at hj
  obtain ⟨t, ht, rfl⟩ := hj
  have hlt : j < M.length := (List.getElem?_eq_some_iff.1 ht).1
  have hc : ∀ c, c < 4 → w.cell? ⟨g, 0 + j * 4 + c, none⟩ = (zCells t)[c]? := fun c hc => by
    rw [Nat.zero_add, h.own.cellAt (j * 4 + c) (by omega)]
    exact rowCells_get M j c t ht hc
  exact ⟨t.2.1, t.2.2, hc 0 (by omega), hc 1 (by omega), hc 2 (by omega), hc 3 (by omega), (h.zone t (List.mem_of_getElem? ht)).same (fun _ _ _ => ⟨trivial, rfl⟩) (Nat.le_refl _)⟩
theorem below_grown {B : Nat} {w w' w'' : World} {g : Nat} (h : Below B w w') (hg : w'.grownBy w'' (some g)) (hB : B ≤ w'.heap.size) (hgB : B ≤ g) : Below B w w'' :=
  ⟨hg.os.trans h.os, hg.tape.trans h.tape, hg.output.trans h.output, Nat.le_trans h.size hg.size, fun k hk => (hg.block k (by omega) (fun e => by simp only [Option.some.injEq] at e; omega)).trans (h.block k hk)⟩


theorem info25 : ∃ i z, PP.info? 25 = some i ∧ i.zero = some z ∧ i.size = 4 ∧ i.bytes = 48 ∧ z.cells.size = 4 := by
  obtain ⟨i, hi⟩ : ∃ i, PP.info? 25 = some i := Option.isSome_iff_exists.1 (by kernel_rfl)
  have h1 : (PP.info? 25).map (·.size) = some 4 := by kernel_rfl
  have h2 : (PP.info? 25).map (·.bytes) = some 48 := by kernel_rfl
  have h3 : (PP.info? 25).bind (·.zero) = some (.agg #[.bool false, .slice none 0 0, .int .i64 0, .int .i64 0]) := by kernel_rfl
  rw [hi] at h1 h2 h3
  exact ⟨i, _, hi, h3, by simpa using h1, by simpa using h2, rfl⟩
theorem info30 : ∃ i z, PP.info? 30 = some i ∧ i.zero = some z ∧ i.size = 4 ∧ i.bytes = 48 ∧ z.cells.size = 4 := by
  obtain ⟨i, hi⟩ : ∃ i, PP.info? 30 = some i := Option.isSome_iff_exists.1 (by kernel_rfl)
  have h1 : (PP.info? 30).map (·.size) = some 4 := by kernel_rfl
  have h2 : (PP.info? 30).map (·.bytes) = some 48 := by kernel_rfl
  have h3 : (PP.info? 30).bind (·.zero) = some (.agg #[.bool false, .slice none 0 0, .int .i64 0, .int .i64 0]) := by kernel_rfl
  rw [hi] at h1 h2 h3
  exact ⟨i, _, hi, h3, by simpa using h1, by simpa using h2, rfl⟩
/-- what stands at the head of each round. -/
structure InvW (L : List ZD) (W : World) (p : Pt) (h : Int) (gx cx gy cy : Nat) (M N : List (ZD × Option Addr × Nat)) (wr : World) : Prop where
  six : M.length ≤ 6
  len : M.length ≤ L.length
  mz : M.map (·.1) = (L.take M.length).map ZD.cut
  nz : N.map (·.1) = M.map (·.1)
  ne : gx ≠ gy
  rx : RowZ (W.heap.size + 1) 25 (fun b => b ≠ gx ∧ b ≠ gy) wr gx cx M
  ry : RowZ (W.heap.size + 1) 30 (fun b => b ≠ gx ∧ b ≠ gy) wr gy cy N
  below : Below W.heap.size W wr
  box : wr.heap[W.heap.size]? = some (.cells #[.int .i64 p.1, .int .i64 p.2, .int .i64 h] 27 (0, 0))
def W3 (W : World) (p : Pt) (h : Int) : World := ((W.alloc (.cells #[.int .i64 p.1, .int .i64 p.2, .int .i64 h] 27)).alloc (.cells #[] 25)).alloc (.cells #[] 30)
theorem W3_inv (L : List ZD) (W : World) (p : Pt) (h : Int) : InvW L W p h (W.heap.size + 1) 0 (W.heap.size + 1 + 1) 0 [] [] (W3 W p h) where
  six := by simp
  len := by simp
  mz := rfl
  nz := rfl
  ne := by omega
  rx := ⟨by
    have := World.ownsRow_lit (base := W.heap.size + 1) (e := 25) (size := 4) (W.alloc (.cells #[.int .i64 p.1, .int .i64 p.2, .int .i64 h] 27)) #[] 0 (by simp) (by simp [maxLen]) rfl
    rw [World.size_alloc] at this
    exact this.alloc _, fun t ht => by cases ht⟩
  ry := ⟨by
    have := World.ownsRow_lit (base := W.heap.size + 1) (e := 30) (size := 4) ((W.alloc (.cells #[.int .i64 p.1, .int .i64 p.2, .int .i64 h] 27)).alloc (.cells #[] 25)) #[] 0 (by simp) (by simp [maxLen]) rfl
    rw [World.size_alloc, World.size_alloc] at this
    exact this, fun t ht => by cases ht⟩
  below := (((Below.refl _ W).alloc (Nat.le_refl _) _).alloc (by simp) _).alloc (by simp; omega) _
  box := (Below.heap_alloc _ _ _ (by simp; omega)).trans ((Below.heap_alloc _ _ _ (by simp)).trans (World.alloc_heap_new W _))

theorem inv_next {L : List ZD} {W : World} {p : Pt} {h : Int} {gx cx gy cy gx2 cx2 gy2 cy2 : Nat} {M N : List (ZD × Option Addr × Nat)} {wr w1 w2 w3 w4 : World} (hI : InvW L W p h gx cx gy cy M N wr) {z : ZD} (hz : L[M.length]? = some z) (h6 : M.length < 6)
    {a1 a3 : Option Addr} {c1 c3 : Nat} {o1 o3 : Obj} (hz1 : ZSl (fun b => wr.heap.size ≤ b) w1 z.cut.zs a1 c1) (hB1 : Below wr.heap.size wr w1)
    (hownx : w2.ownsRow (W.heap.size + 1) 25 4 (.slice (some ⟨gx2, 0, none⟩) (M.length + 1) cx2) (M.length + 1) (rowCells M ++ zCells (z.cut, a1, c1))) (hgrx : (w1.alloc o1).grownBy w2 (some gx)) (hatx : some gx = some gx2 ∨ gx2 = (w1.alloc o1).heap.size)
    (hz3 : ZSl (fun b => w2.heap.size ≤ b) w3 z.cut.zs a3 c3) (hB3 : Below w2.heap.size w2 w3)
    (howny : w4.ownsRow (W.heap.size + 1) 30 4 (.slice (some ⟨gy2, 0, none⟩) (M.length + 1) cy2) (M.length + 1) (rowCells N ++ zCells (z.cut, a3, c3))) (hgry : (w3.alloc o3).grownBy w4 (some gy)) (haty : some gy = some gy2 ∨ gy2 = (w3.alloc o3).heap.size)
    (hb4 : Below W.heap.size W w4) : InvW L W p h gx2 cx2 gy2 cy2 (M ++ [(z.cut, a1, c1)]) (N ++ [(z.cut, a3, c3)]) w4 := by
  obtain ⟨i1, i2, i3, i4, i5, ⟨ox, zx1⟩, ⟨oy, zy1⟩, hbl, hbk⟩ := hI
  have hNM : N.length = M.length := by have := congrArg List.length i4; simpa using this
  have gxl := ownsRow_g ox
  have gyl := ownsRow_g oy
  have gx2l := ownsRow_g hownx
  have gy2l := ownsRow_g howny
  have s1 := hB1.size
  have s2 := hgrx.size
  have s3 := hB3.size
  have s4 := hgry.size
  rw [World.size_alloc] at s2 s4 hatx haty
  have hx : gx2 = gx ∨ gx2 = w1.heap.size + 1 := by
    rcases hatx with e | e
    · simp only [Option.some.injEq] at e; exact .inl e.symm
    · exact .inr e
  have hy : gy2 = gy ∨ gy2 = w3.heap.size + 1 := by
    rcases haty with e | e
    · simp only [Option.some.injEq] at e; exact .inl e.symm
    · exact .inr e
  have k1 : ∀ k, k < w1.heap.size → k ≠ gx → w2.heap[k]? = w1.heap[k]? := fun k hk hne =>
    (hgrx.block k (by simp; omega) (by simpa using hne)).trans (Below.heap_alloc _ _ _ hk)
  have k2 : ∀ k, k < w3.heap.size → k ≠ gy → w4.heap[k]? = w3.heap[k]? := fun k hk hne =>
    (hgry.block k (by simp; omega) (by simpa using hne)).trans (Below.heap_alloc _ _ _ hk)
  have old : ∀ b, (b ≠ gx ∧ b ≠ gy) → b < wr.heap.size → (b ≠ gx2 ∧ b ≠ gy2) ∧ w4.heap[b]? = wr.heap[b]? := fun b hb hl =>
    ⟨⟨by omega, by omega⟩, (k2 b (by omega) hb.2).trans ((hB3.block b (by omega)).trans ((k1 b (by omega) hb.1).trans (hB1.block b hl)))⟩
  have hwsz : wr.heap.size ≤ w4.heap.size := by omega
  obtain ⟨hlt, hzz⟩ := List.getElem?_eq_some_iff.1 hz
  refine ⟨by simp; omega, by simp; omega, ?_, by simp [i4], by omega, ⟨?_, ?_⟩, ⟨?_, ?_⟩, hb4, ?_⟩
  · rw [List.map_append, i3, List.length_append, List.length_singleton, List.take_succ_eq_append_getElem hlt, hzz, List.map_append]
    rfl
  · rw [rowCells_app, List.length_append, List.length_singleton]
    refine ownsRow_same (by simpa [rowCells] using hownx) ?_
    exact (k2 gx2 (by omega) (by omega)).trans (hB3.block gx2 (by omega))
  · intro t ht
    rcases List.mem_append.1 ht with ht | ht
    · exact (zx1 t ht).same old hwsz
    · simp only [List.mem_singleton] at ht
      subst ht
      refine hz1.same (fun b hb hl => ⟨⟨by omega, by omega⟩, ?_⟩) (by omega)
      exact (k2 b (by omega) (by omega)).trans ((hB3.block b (by omega)).trans (k1 b (by omega) (by omega)))
  · rw [rowCells_app, List.length_append, List.length_singleton, hNM]
    simpa [rowCells] using howny
  · intro t ht
    rcases List.mem_append.1 ht with ht | ht
    · exact (zy1 t ht).same old hwsz
    · simp only [List.mem_singleton] at ht
      subst ht
      refine hz3.same (fun b hb hl => ⟨⟨by omega, by omega⟩, ?_⟩) (by omega)
      exact k2 b (by omega) (by omega)
  · exact (old _ ⟨by omega, by omega⟩ (by omega)).2.trans hbk

theorem worst_end {L : List ZD} (hL : ∀ z ∈ L, I64 z.fl ∧ I64 z.rf) {W : World} {p : Pt} {h : Int} {gx cx gy cy : Nat} {M N : List (ZD × Option Addr × Nat)} {wr : World} (hI : InvW L W p h gx cx gy cy M N wr) (r : Int) (hh : I64 h) :
    (∀ w', Below wr.heap.size wr w' → Calls PP 19 #[.slice (some ⟨gx, 0, none⟩) M.length cx, .agg #[.int .i64 p.1, .int .i64 p.2, .int .i64 h], .int .i64 r] w' fun e w'' =>
      e = .returned (.tuple #[.int .i64 (worstOf p h r (M.map (·.1))).1, .int .i64 (worstOf p h r (M.map (·.1))).2.1, .int .i64 (worstOf p h r (M.map (·.1))).2.2]) ∧ Below w'.heap.size w' w'') ∧
    (∀ w', Below wr.heap.size wr w' → Calls PP 20 #[.slice (some ⟨gy, 0, none⟩) M.length cy, .agg #[.int .i64 p.1, .int .i64 p.2, .int .i64 h], .int .i64 r] w' fun e w'' =>
      e = .returned (.tuple #[.int .i64 (worstOf p h r (M.map (·.1))).1, .int .i64 (worstOf p h r (M.map (·.1))).2.1, .int .i64 (worstOf p h r (M.map (·.1))).2.2]) ∧ Below w'.heap.size w' w'') := by
  have hok : ∀ z ∈ M.map (·.1), z.ok := by
    rw [hI.mz]
    intro z hz
    obtain ⟨y, hy, rfl⟩ := List.mem_map.1 hz
    obtain ⟨h1, h2⟩ := hL y (List.mem_of_mem_take hy)
    exact ⟨h1, h2, by simp only [ZD.cut, List.length_take]; omega⟩
  have hsix := hI.six
  have hNM : N.length = M.length := by have := congrArg List.length hI.nz; simpa using this
  constructor
  · intro w' hB
    have := Worst_calls (M.map (·.1)) hok (by simp; omega) (some ⟨gx, 0, none⟩) cx gx 0 w' (fun _ => ⟨rfl, Nat.lt_of_lt_of_le (ownsRow_g hI.rx.own).2 hB.size, hI.rx.row.below (ownsRow_g hI.rx.own).2 hB⟩) p h r hh
    rwa [List.length_map] at this
  · intro w' hB
    have hr := hI.ry.row
    rw [hI.nz] at hr
    have := rWorst_calls (M.map (·.1)) hok (by simp; omega) (some ⟨gy, 0, none⟩) cy gy 0 w' (fun _ => ⟨rfl, Nat.lt_of_lt_of_le (ownsRow_g hI.ry.own).2 hB.size, hr.below (ownsRow_g hI.ry.own).2 hB⟩) p h r hh
    rwa [List.length_map] at this
set_option maxRecDepth 100000 in
set_option maxHeartbeats 8000000 in
theorem FenceWorst_calls (L : List ZD) (hL : ∀ z ∈ L, I64 z.fl ∧ I64 z.rf) (a : Option Addr) (cap : Nat) (b q : Nat) (W : World) (ha : 0 < L.length → a = some ⟨b, q, none⟩ ∧ b < W.heap.size ∧ ZRow (fun _ => True) W b q L)
    (p : Pt) (h r : Int) (hh : I64 h) :
    Calls PP 6 #[.slice a L.length cap, .agg #[.int .i64 p.1, .int .i64 p.2, .int .i64 h], .int .i64 r] W fun e w' => e = .returned (.bool true) ∧ Below W.heap.size W w' := by
  obtain ⟨ix, zx, hix, hzx, hsx, hyx, hcx⟩ := info25
  obtain ⟨iy, zy, hiy, hzy, hsy, hyy, hcy⟩ := info30
  go_enter Proofs.Try.func6, Proofs.Try.ntmps6
  go_wp2
  have hI := W3_inv L W p h
  unfold W3 at hI
  go_loopw [7, 8, 9] (fun vx vy i wr => ∃ (gx cx gy cy : Nat) (M N : List (ZD × Option Addr × Nat)), vx = .slice (some ⟨gx, 0, none⟩) M.length cx ∧ vy = .slice (some ⟨gy, 0, none⟩) N.length cy ∧ i = .int .i64 M.length ∧ InvW L W p h gx cx gy cy M N wr) (fun _ _ i _ => 6 - (intOf i).toNat)
  case atStart => exact ⟨_, _, _, _, [], [], rfl, rfl, rfl, hI⟩
  case round =>
    obtain ⟨gx, cx, gy, cy, M, N, rfl, rfl, rfl, hI⟩ := hrel
    have hI0 := hI
    obtain ⟨i1, i2, i3, i4, i5, ⟨ox, zx1⟩, ⟨oy, zy1⟩, hbl, hbk⟩ := hI
    have hNM : N.length = M.length := by have := congrArg List.length i4; simpa using this
    rw [hNM] at oy
    have gxl := ownsRow_g ox
    have gyl := ownsRow_g oy
    by_cases hlt : M.length < L.length
    · by_cases h6 : M.length < 6
      · obtain ⟨z, hz⟩ : ∃ z, L[M.length]? = some z := ⟨_, List.getElem?_eq_getElem hlt⟩
        obtain ⟨rfl, hbw, hrow⟩ := ha (by omega)
        obtain ⟨za, zcap, d0, d1, d2, d3, hzs⟩ := hrow _ z hz
        have hS : ∀ w', Below W.heap.size W w' → w'.cell? ⟨b, q + M.length * 4, none⟩ = some (.bool z.kp) ∧ w'.cell? ⟨b, q + M.length * 4 + 1, none⟩ = some (.slice za z.zs.length zcap) ∧ w'.cell? ⟨b, q + M.length * 4 + 2, none⟩ = some (.int .i64 z.fl) ∧ w'.cell? ⟨b, q + M.length * 4 + 3, none⟩ = some (.int .i64 z.rf) := fun w' hB =>
          ⟨(hB.cell (p := ⟨b, _, none⟩) hbw).trans d0, (hB.cell (p := ⟨b, _, none⟩) hbw).trans d1, (hB.cell (p := ⟨b, _, none⟩) hbw).trans d2, (hB.cell (p := ⟨b, _, none⟩) hbw).trans d3⟩
        have hzW : ∀ w', Below W.heap.size W w' → ZSl (fun _ => True) w' z.zs za zcap := fun w' hB => hzs.below hB
        have hbd : Below W.heap.size W wr.drew := ⟨hbl.os, hbl.tape, hbl.output, hbl.size, hbl.block⟩
        have hx0 : ∀ w' : World, Below wr.heap.size wr w' → W.heap.size + 1 ≤ w'.heap.size := fun w' hB => by have := hB.size; omega
        clear ha hrow
        go_wp2
        go_region_held_law (fun w' => w'.cell? ⟨b, q + M.length * 4, none⟩ = some (.bool z.kp) ∧ w'.cell? ⟨b, q + M.length * 4 + 1, none⟩ = some (.slice za z.zs.length zcap) ∧ w'.cell? ⟨b, q + M.length * 4 + 2, none⟩ = some (.int .i64 z.fl) ∧ w'.cell? ⟨b, q + M.length * 4 + 3, none⟩ = some (.int .i64 z.rf))
          (first | exact hS _ hbd | exact hS _ hb1 | exact hS _ hb1' | exact hS _ hb2 | exact hS _ hb3 | exact hS _ hb3' | exact hS _ hb4)
          (first
            | (go_at_call 9
               refine (few_calls z za zcap _ (hzW _ hbd)).mono ?_
               rintro e w1 ⟨a1, c1, rfl, hz1, hB1⟩
               have hb1 : Below W.heap.size W w1 := hbd.trans (hB1.mono hbd.size)
               replace hB1 : Below wr.heap.size wr w1 := ⟨hB1.os, hB1.tape, hB1.output, hB1.size, hB1.block⟩
               have hB1' := hB1.alloc hB1.size (.cells #[.bool z.cut.kp, .slice a1 z.cut.zs.length c1, .int .i64 z.cut.fl, .int .i64 z.cut.rf] 25)
               have hb1' := hb1.alloc hb1.size (.cells #[.bool z.cut.kp, .slice a1 z.cut.zs.length c1, .int .i64 z.cut.fl, .int .i64 z.cut.rf] 25))
            | (refine step_append_lies _ (by rfl) (.tmp 28) (.tmp 34) 53 (by rfl) (W.heap.size + 1) 25 ix zx 4 48 (by kernel_rfl) hix hzx hsx hyx hcx (by decide) (.slice (some ⟨gx, 0, none⟩) M.length cx) M.length (rowCells M) (by rfl)
                 (ownsRow_same ox (hB1'.block gx gxl.2)) ⟨w1.heap.size, 0, none⟩ 1 1 (zCells (z.cut, a1, c1)) (by rfl) (by rfl) (World.news_of_block (World.alloc_heap_new w1 _)) (by simp [zCells, Value.oneCell']) (by decide) (by simp only [maxLen]; omega) (by omega) (hx0 _ hB1') _ (by rfl) ?_
               intro gx2 cx2 w2 hownx hgrx hatx hltx
               replace hgrx : World.grownBy _ w2 (some gx) := hgrx
               have hb2 : Below W.heap.size W w2 := below_grown hb1' hgrx hb1'.size (by omega)
               have hg2 : w2.heap[gy]? = wr.heap[gy]? := (hgrx.block gy (by have := hB1'.size; omega) (by simpa using i5.symm)).trans (hB1'.block gy gyl.2)
               have hs2 : wr.heap.size ≤ w2.heap.size := Nat.le_trans hB1'.size hgrx.size)
            | (go_at_call 7
               refine (plain_calls z za zcap _ (hzW _ hb2)).mono ?_
               rintro e w3 ⟨a3, c3, rfl, hz3, hB3⟩
               have hb3 : Below W.heap.size W w3 := hb2.trans (hB3.mono hb2.size)
               have hB3' := hB3.alloc hB3.size (.cells #[.bool z.cut.kp, .slice a3 z.cut.zs.length c3, .int .i64 z.cut.fl, .int .i64 z.cut.rf] 30)
               have hb3' := hb3.alloc hb3.size (.cells #[.bool z.cut.kp, .slice a3 z.cut.zs.length c3, .int .i64 z.cut.fl, .int .i64 z.cut.rf] 30))
            | (refine step_append_lies _ (by rfl) (.tmp 36) (.tmp 42) 54 (by rfl) (W.heap.size + 1) 30 iy zy 4 48 (by kernel_rfl) hiy hzy hsy hyy hcy (by decide) (.slice (some ⟨gy, 0, none⟩) M.length cy) M.length (rowCells N) (by rfl)
                 (ownsRow_same oy ((hB3'.block gy (by omega)).trans hg2)) ⟨w3.heap.size, 0, none⟩ 1 1 (zCells (z.cut, a3, c3)) (by rfl) (by rfl) (World.news_of_block (World.alloc_heap_new w3 _)) (by simp [zCells, Value.oneCell']) (by decide) (by simp only [maxLen]; omega) (by omega) (by have := hB3'.size; omega) _ (by rfl) ?_
               intro gy2 cy2 w4 howny hgry haty hlty
               replace hgry : World.grownBy _ w4 (some gy) := hgry
               have hb4 : Below W.heap.size W w4 := below_grown hb3' hgry hb3'.size (by omega)))
        go_wp2
        exact ⟨⟨gx2, cx2, gy2, cy2, M ++ [(z.cut, a1, c1)], N ++ [(z.cut, a3, c3)], by simp, by simp [hNM], by simp, inv_next hI0 hz h6 hz1 hB1 hownx hgrx hatx hz3 hB3 howny hgry haty hb4⟩, by simp [intOf]; omega⟩
      · have hend := worst_end hL hI0 r hh
        obtain ⟨hwx, hwy⟩ := hend
        have c0 : wr.cell? ⟨W.heap.size, 0, none⟩ = some (.int .i64 p.1) := cell_blk hbk
        have c1 : wr.cell? ⟨W.heap.size, 1, none⟩ = some (.int .i64 p.2) := cell_blk hbk
        have c2 : wr.cell? ⟨W.heap.size, 2, none⟩ = some (.int .i64 h) := cell_blk hbk
        go_wp2_with (first
          | (go_at_call 19; refine (hwx _ (Below.refl _ _)).mono ?_; clear hwx c0 c1 c2; rintro e w5 ⟨rfl, hB5⟩; have hbk5 := (hB5.block _ (Array.getElem?_eq_some_iff.1 hbk).1).trans hbk
             have e0 : w5.cell? ⟨W.heap.size, 0, none⟩ = some (.int .i64 p.1) := cell_blk hbk5; have e1 : w5.cell? ⟨W.heap.size, 1, none⟩ = some (.int .i64 p.2) := cell_blk hbk5; have e2 : w5.cell? ⟨W.heap.size, 2, none⟩ = some (.int .i64 h) := cell_blk hbk5)
          | (go_at_call 20; refine (hwy _ hB5).mono ?_; clear hwy; rintro e w6 ⟨rfl, hB6⟩)
          | (go_at_call 17; refine (works_calls _).mono ?_; rintro e w7 ⟨rfl, hB7⟩))
        go_ret
        have := hB5.size
        have := hB6.size
        have := hbl.size
        exact ⟨rfl, hbl.trans ((hB5.mono (by omega)).trans ((hB6.mono (by omega)).trans (hB7.mono (by omega))))⟩
    · have hend := worst_end hL hI0 r hh
      obtain ⟨hwx, hwy⟩ := hend
      have c0 : wr.cell? ⟨W.heap.size, 0, none⟩ = some (.int .i64 p.1) := cell_blk hbk
      have c1 : wr.cell? ⟨W.heap.size, 1, none⟩ = some (.int .i64 p.2) := cell_blk hbk
      have c2 : wr.cell? ⟨W.heap.size, 2, none⟩ = some (.int .i64 h) := cell_blk hbk
      go_wp2_with (first
        | (go_at_call 19; refine (hwx _ (Below.refl _ _)).mono ?_; clear hwx c0 c1 c2; rintro e w5 ⟨rfl, hB5⟩; have hbk5 := (hB5.block _ (Array.getElem?_eq_some_iff.1 hbk).1).trans hbk
           have e0 : w5.cell? ⟨W.heap.size, 0, none⟩ = some (.int .i64 p.1) := cell_blk hbk5; have e1 : w5.cell? ⟨W.heap.size, 1, none⟩ = some (.int .i64 p.2) := cell_blk hbk5; have e2 : w5.cell? ⟨W.heap.size, 2, none⟩ = some (.int .i64 h) := cell_blk hbk5)
        | (go_at_call 20; refine (hwy _ hB5).mono ?_; clear hwy; rintro e w6 ⟨rfl, hB6⟩)
        | (go_at_call 17; refine (works_calls _).mono ?_; rintro e w7 ⟨rfl, hB7⟩))
      go_ret
      have := hB5.size
      have := hB6.size
      have := hbl.size
      exact ⟨rfl, hbl.trans ((hB5.mono (by omega)).trans ((hB6.mono (by omega)).trans (hB7.mono (by omega))))⟩
end Go.Xv
namespace Go.Xv
open Go.RowKit Go.WideShapes Go.ChangeShapes
theorem pick_list {α : Type} {R : Nat → α → Prop} : ∀ n : Nat, (∀ i, i < n → ∃ z, R i z) → ∃ L : List α, L.length = n ∧ ∀ i z, L[i]? = some z → R i z
  | 0, _ => ⟨[], rfl, fun i z h => by simp at h⟩
  | n + 1, h => by
    obtain ⟨L, h1, h2⟩ := pick_list n fun i hi => h i (by omega)
    obtain ⟨z, hz⟩ := h n (by omega)
    refine ⟨L ++ [z], by simp [h1], fun i y hy => ?_⟩
    by_cases hi : i < n
    · rw [List.getElem?_append_left (by omega)] at hy
      exact h2 i y hy
    · rw [List.getElem?_append_right (by omega)] at hy
      by_cases he : i = n
      · subst he
        rw [h1, Nat.sub_self] at hy
        simp only [List.getElem?_cons_zero, Option.some.injEq] at hy
        subst hy
        exact hz
      · rw [List.getElem?_eq_none (by simp; omega)] at hy
        cases hy
section
variable {H : Type} {enc : TypeId × Value → H} {P : Program} {W : World} {base : Nat} {held : Bool}
/-- a slice of zones, as it comes in. -/
theorem open_zones {t e : TypeId} {v : Value} {d : DataW H} {ps : List MemPlace} (ht : P.underlying t = some (.slice e)) (hz : zoneShape P e = true) (hc : P.cellsOf e = 4) {r : Reach} {b0 : Nat} (hval : Value.okWide P W r b0 t v) (hd : DataW.Trod enc P W base (fun _ => true) held t v d ps) :
    ∃ (L : List ZD) (a : Option Addr) (cap b q : Nat), v = .slice a L.length cap ∧ (∀ z ∈ L, I64 z.fl ∧ I64 z.rf) ∧ (0 < L.length → a = some ⟨b, q, none⟩ ∧ b < W.heap.size ∧ ZRow (fun _ => True) W b q L) := by
  obtain ⟨va, vl, vc, rfl⟩ := okWide_slice ht hval
  obtain ⟨fuel, hf⟩ := hd
  have hf : DataW.trod enc P W base (fun _ => true) held fuel t [.slice va vl vc] = some (d, ps) := hf
  rcases DataW.trod_slice ht hf with ⟨hcs, _⟩ | ⟨x, len, cap, elems, rest, n, _, hcs, _, hb, hl, hm, hlen, hel, _⟩
  · simp only [List.cons.injEq, Value.slice.injEq, and_true] at hcs
    obtain ⟨rfl, rfl, rfl⟩ := hcs
    exact ⟨[], none, 0, 0, 0, rfl, by simp, by simp⟩
  · simp only [List.cons.injEq, Value.slice.injEq, and_true] at hcs
    obtain ⟨rfl, rfl, rfl⟩ := hcs
    obtain ⟨xb, xo, xs⟩ := x
    have cs4 : ∀ i, i < vl → ∃ cs y, W.cells? base (Addr.add ⟨xb, xo, xs⟩ (i * 4)) 4 = some cs ∧ DataW.trod enc P W base (fun _ => true) held n e cs = some y := by
      intro i hi
      have h1 := hel i hi
      rw [List.getElem?_eq_getElem (by omega), Option.bind_eq_some_iff, hc] at h1
      obtain ⟨cs, h2, h3⟩ := h1
      exact ⟨cs, _, h2, h3⟩
    have hs : 0 < vl → xs = none := fun hp => by
      obtain ⟨cs, y, h2, h3⟩ := cs4 0 hp
      obtain ⟨_, hl4, g⟩ := World.cells?_some h2
      have g0 := g 0 (by omega)
      rw [List.getElem?_eq_getElem (by omega)] at g0
      have := World.cell?_spot g0
      simpa [Addr.add] using this
    have each : ∀ i, i < vl → ∃ z : ZD, (I64 z.fl ∧ I64 z.rf) ∧ xs = none ∧ xb < W.heap.size ∧ ∃ a cap, W.cell? ⟨xb, xo + i * 4, none⟩ = some (.bool z.kp) ∧ W.cell? ⟨xb, xo + i * 4 + 1, none⟩ = some (.slice a z.zs.length cap) ∧
        W.cell? ⟨xb, xo + i * 4 + 2, none⟩ = some (.int .i64 z.fl) ∧ W.cell? ⟨xb, xo + i * 4 + 3, none⟩ = some (.int .i64 z.rf) ∧ ZSl (fun _ => True) W z.zs a cap := by
      intro i hi
      obtain ⟨cs, y, h2, h3⟩ := cs4 i hi
      have hs := hs (by omega)
      subst hs
      obtain ⟨kp, zs, ln, cp, p, fl, rf, rfl, k2, k3, k4, k5, k6, k7⟩ := zone_at hz h3
      obtain ⟨e1, e2⟩ := pairs_cells ln zs k2
      have h7 := k7 rho0
      rw [← e1] at h7
      have hln : ln = (pairsOf zs).length := e2.symm
      rw [hln] at h7
      obtain ⟨a', cap', ev, hzs⟩ := zsl_of_rel (fun _ h => h) h7
      simp only [Value.agg.injEq, Array.mk.injEq, List.cons.injEq, Value.slice.injEq, true_and, and_true] at ev
      obtain ⟨rfl, rfl⟩ := ev
      have g := (World.cells?_some h2).2.2
      have g0 := g 0 (by omega)
      have g1 := g 1 (by omega)
      have g2 := g 2 (by omega)
      have g3 := g 3 (by omega)
      rw [addr_add] at g0 g1 g2 g3
      simp only [List.getElem?_cons_zero, List.getElem?_cons_succ] at g0 g1 g2 g3
      have ha : ∀ k, Addr.add ⟨xb, xo, none⟩ k = ⟨xb, xo + k, none⟩ := fun k => by
        unfold Addr.add
        split
        · rename_i hk; subst hk; rfl
        · rfl
      rw [ha] at g0 g1 g2 g3
      refine ⟨⟨kp, pairsOf zs, fl, rf⟩, ⟨wf_i64 k5, wf_i64 k6⟩, rfl, World.block_lt_of_cell? W _ g0, p, cp, g0, ?_, g2, g3, hzs.same (fun _ _ _ => ⟨trivial, rfl⟩) (Nat.le_refl _)⟩
      rw [← hln]
      exact g1
    obtain ⟨L, hL, hR⟩ := pick_list vl each
    refine ⟨L, _, vc, xb, xo, by rw [hL], fun z hz => ?_, fun hp => ?_⟩
    · obtain ⟨i, hi⟩ := List.mem_iff_getElem?.1 hz
      exact (hR i z hi).1
    · obtain ⟨_, h1, h2, _⟩ := hR 0 L[0] (List.getElem?_eq_getElem hp)
      subst h1
      exact ⟨rfl, h2, fun j z hj => (hR j z hj).2.2.2⟩
/-- what a law's statement asks, of a walk by hand. -/
theorem law_contract_walked (hl : laidOutB P = true) {n : FuncId} {fn : Func} {s : ChangeSpec} {apart fresh handsOn again : Bool}
    {bt : TypeId} (hbt : P.underlying bt = some .bool) (hres : fn.resultTypes = #[bt]) (hro : rowed P fn.params.toList = true) (hsv : s.vars = [])
    {W : World} {args : Array Value} {ds gs : List (DataW H)} {before : List MemPlace}
    (hfn : s.fn H ds = { results := [.lit (.bool true)], args := ds })
    (hW : DataW.Whole enc P fn.params.toList s.vars apart W args.toList ds gs before)
    (hc : Calls P n args W fun e W' => e = .returned (.bool true) ∧ Below W.heap.size W W') :
    Calls P n args W fun e W' => ∃ v, e = .returned v ∧ s.post enc P fn apart fresh handsOn again W args v W' := by
  refine hc.mono fun e W' ⟨he, hb⟩ => ⟨.bool true, he, ?_⟩
  have hlt := hW.lt
  have hW0 := hW
  obtain ⟨p, q, hA, hV, rfl, hz, hn⟩ := hW
  rw [hsv] at hV
  obtain ⟨rfl, rfl⟩ : gs = [] ∧ q = [] := by
    cases gs with
    | nil => exact ⟨rfl, hV⟩
    | cons => exact hV.elim
  have hps : ∀ x ∈ p, x.block < W.heap.size := fun x hx => hlt x (by simp [hx])
  have hargs : ∀ sp : Nat → Bool, (∀ x ∈ p, sp x.block = true) → DataW.TrodAll enc P W' 0 sp true fn.params.toList args.toList ds p := fun sp hsp =>
    trodAll_below hl hb hro hA hps hsp
  have hresT : ∀ (b : Nat) (sp : Nat → Bool) (hd : Bool), DataW.TrodAll enc P W' b sp hd fn.resultTypes.toList ((Value.bool true).resultList fn.resultTypes.size) [.lit (.bool true)] [] := by
    intro b sp hd
    rw [hres]
    exact ⟨[], [], shut_bool hbt true, rfl, rfl⟩
  have hfn' : s.fn H (ds ++ []) = { results := [.lit (.bool true)], args := ds } := by rw [List.append_nil]; exact hfn
  have hvars : ∀ sp : Nat → Bool, DataW.TrodVars enc P W' sp s.vars [] [] := fun sp => by rw [hsv]; rfl
  refine ⟨ds, [], p ++ [], [], p, [], hW0, ?_, ?_, ?_, hb.frame _, fun _ => ⟨ok_one hres rfl (okWide_bool_mk hbt _), ?_⟩⟩
  · rw [hfn']; exact hresT _ _ _
  · rw [hfn']; exact hargs _ (fun x hx => by simpa using hps x hx)
  · rw [hfn']; exact hvars _
  · refine ⟨_, _, ([] ++ p) ++ [], ⟨[] ++ p, [], trodAll_append (hargs _ (fun _ _ => rfl)) (hresT _ _ _), hvars _, rfl, ?_, ?_⟩, ?_⟩
    · intro b off hp
      rw [hb.frozen (hlt _ (by simpa using hp))]
      exact hz b off (by simpa using hp)
    · intro ha
      simpa using hn ha
    · intro x hx _
      simpa using hx
end
end Go.Xv
namespace Go.Proofs.Ytjhnmpfaemhnhaa.fenceWorst
open Go.ChangeShapes Go.WideShapes Go.ChangeAt Go.RowKit Go.Xv Go.Proofs.Ytjhnmpfaemhnhaa.base
set_option linter.unusedVariables false
set_option maxRecDepth 100000 in
theorem lifted (os : Os) (started : os.Started) (H : Type) (enc : TypeId × Value → H) :
    ReturnsInHanded {} Try.checked os 6 .any (Rows.fenceWorstSpec.pre6 enc Try.prog Try.f6 Rows.fenceWorstRow.domain false) (Rows.fenceWorstSpec.post enc Try.prog Try.f6 false true false false) := by
  refine returnsInHanded_of_change (C := Try.checked) own started (by kernel_rfl) Try.func6
    (ChangeSpec.witness6 (enc := enc) (C := Try.checked) false ⟨#[], #[.slice none 0 0, .agg #[.int .i64 0, .int .i64 0, .int .i64 0], .int .i64 0], []⟩ 8 (by kernel_rfl) (by kernel_rfl) (by kernel_rfl) (by kernel_rfl)) ?_
  intro W base args ds gs before hval0 hW hcnd _
  have hval : ∀ (j : Nat) t v, Try.f6.params[j]? = some t → args[j]? = some v → Value.okWide Try.prog W .any base t v := hval0
  have hW' := hW
  obtain ⟨p, q, hA0, hV, rfl, hfz, hnd⟩ := hW
  have hA : DataW.TrodAll enc Try.prog W 0 (fun _ => true) true Try.f6.params.toList args.toList ds p := hA0
  rw [Try.params6] at hA hval
  obtain ⟨v0, vs0, d0, ds0, p0, q0, hargs, rfl, rfl, h0, r0⟩ := trodAll_cons hA
  obtain ⟨v1, vs1, d1, ds1, p1, q1, rfl, rfl, rfl, h1, r1⟩ := trodAll_cons r0
  obtain ⟨v2, vs2, d2, ds2, p2, q2, rfl, rfl, rfl, h2, r2⟩ := trodAll_cons r1
  obtain ⟨rfl, rfl, rfl⟩ := trodAll_nil r2
  obtain rfl : args = #[v0, v1, v2] := by cases args; simp_all
  obtain ⟨L, za, zc, zb, zq, rfl, hL, hz⟩ := open_zones (e := 25) (by kernel_rfl) (by kernel_rfl) (by kernel_rfl) (hval 0 53 v0 rfl rfl) h0
  obtain ⟨l1, rfl, f1⟩ := open_flat (ks := [some .i64, some .i64, some .i64]) (by kernel_rfl) (by kernel_rfl) (hval 1 27 v1 rfl rfl) h1
  obtain ⟨a3, l1, rfl, wa3, f1⟩ := fitW_some f1
  obtain ⟨a4, l1, rfl, wa4, f1⟩ := fitW_some f1
  obtain ⟨a5, l1, rfl, wa5, f1⟩ := fitW_some f1
  obtain rfl := fitW_nil f1
  obtain ⟨a6, rfl, wa6⟩ := open_num (k := .i64) (by kernel_rfl) (hval 2 23 v2 rfl rfl) h2
  exact law_contract_walked laidOut (bt := 4) (by kernel_rfl) (by kernel_rfl) (by kernel_rfl) (by kernel_rfl) rfl hW' (FenceWorst_calls L hL za zc zb zq W hz (a3, a4) a5 a6 (wf_i64 wa5))
theorem over : Rows.fenceWorstRow.holds Try.pinned (OpenSpec.ofChange Rows.fenceWorstSpec) :=
  OpenClaim.holds_of_wide 6 Try.f6 rfl rfl rfl rfl rfl rfl rfl ⟨rfl, rfl, rfl, rfl, rfl⟩ rfl rfl rfl rfl rfl (by kernel_rfl) Try.func6 (joined_of (P := Try.prog) behind enter_ rfl rfl ⟨rfl, rfl⟩ (by kernel_rfl))
    (of_decide_eq_true (by kernel_rfl)) (by unfold Func.isWrapper; first | (rw [if_pos (by decide +kernel)]; kernel_rfl) | (rw [if_neg (by decide +kernel)]; exact ⟨rfl, rfl⟩))
    (fun os started H enc _ => lifted os started H enc)
/-- The statement. -/
theorem proved : Rows.FenceWorstSaid := over
#print axioms proved
end Go.Proofs.Ytjhnmpfaemhnhaa.fenceWorst
