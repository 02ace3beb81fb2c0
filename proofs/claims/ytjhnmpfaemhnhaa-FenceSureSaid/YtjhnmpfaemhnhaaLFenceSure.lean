/- Where the state is not 1, each place that is no further off, axis by axis, than r, is in the same state with r 0: the law returns true for every input, and leaves its arguments as they were. -/
import Derived.Test.YtjhnmpfaemhnhaaBH2
import Derived.Test.YtjhnmpfaemhnhaaProg
import Derived.KernelRfl
import Derived.RangeFuncNested
import Derived.RangeFuncBound
import Derived.RangeFuncCalls
import Derived.RangeFuncLeaves
import Derived.StillTailTactics
import Derived.TacticsIn
import Derived.OrdersIn
import Derived.RangeFuncBox
import Derived.Shelf.Abstract
import Derived.Shelf.RegionOpen
import Derived.WalkKit
import Derived.OwnWalkIn
import Derived.TacticsInMore
import Derived.LoopNIn
import Derived.LoopIn
namespace Go.Xv
noncomputable abbrev PP := Proofs.Try.prog
end Go.Xv
namespace Go.Xv
open Go.RowKit (Below)
variable {P : Program}

/-- What a round keeps: all but the blocks of V. -/
structure Keep (V : Nat → Prop) (W W' : World) : Prop where
  os : W'.os = W.os
  tape : W'.tape = W.tape
  output : W'.output = W.output
  size : W.heap.size ≤ W'.heap.size
  block : ∀ k, k < W.heap.size → ¬ V k → W'.heap[k]? = W.heap[k]?
theorem Keep.refl (V : Nat → Prop) (W : World) : Keep V W W := ⟨rfl, rfl, rfl, Nat.le_refl _, fun _ _ _ => rfl⟩
theorem Keep.trans {V : Nat → Prop} {A B C : World} (h : Keep V A B) (k : Keep V B C) : Keep V A C :=
  ⟨k.os.trans h.os, k.tape.trans h.tape, k.output.trans h.output, Nat.le_trans h.size k.size, fun i hi hv => (k.block i (Nat.lt_of_lt_of_le hi h.size) hv).trans (h.block i hi hv)⟩
theorem Keep.mono {V V' : Nat → Prop} {A B : World} (h : Keep V A B) (hv : ∀ k, V k → V' k) : Keep V' A B :=
  ⟨h.os, h.tape, h.output, h.size, fun i hi hn => h.block i hi fun e => hn (hv i e)⟩
theorem Keep.putObj {V : Nat → Prop} {W : World} {l : Nat} {o : Obj} (hv : V l) : Keep V W (W.putObj l o) :=
  ⟨rfl, rfl, rfl, by simp, fun i _ hn => World.putObj_heap_other fun e => hn (e ▸ hv)⟩
theorem Keep.below {V : Nat → Prop} {A B : World} (h : Keep V A B) {n : Nat} (hn : ∀ k, k < n → k < A.heap.size ∧ ¬ V k) : Below n A B :=
  ⟨h.os, h.tape, h.output, h.size, fun i hi => h.block i (hn i hi).1 (hn i hi).2⟩
theorem Keep.of {V : Nat → Prop} {A B : World} (h : Below A.heap.size A B) : Keep V A B :=
  ⟨h.os, h.tape, h.output, h.size, fun i hi _ => h.block i hi⟩
theorem Keep.setCell {V : Nat → Prop} {W : World} {b o : Nat} {v : Value} (hv : V b) : Keep V W (W.setCell ⟨b, o, none⟩ v) :=
  ⟨rfl, rfl, rfl, by show W.heap.size ≤ (W.heap.modify _ _).size; rw [Array.size_modify]; exact Nat.le_refl _, fun i _ hn => Below.heap_setCell W ⟨b, o, none⟩ v i fun e => hn (e ▸ hv)⟩

/-- What a function that one ranges over hands to its rounds: the list xs, or a part of it. It has its receiver, z, ahead of yield. -/
def Gives {α : Type} (P : Program) (gf : FuncId) (z : Value) (encs : α → Array Value) (xs : List α) (B : Nat) (w : World) : Prop :=
  ∀ (l : Nat) (V : Nat → Prop) (J Jx : List α → World → Prop) (W : World), Below B w W → (∀ k, V k → B ≤ k ∧ k < W.heap.size) →
    (∀ pre X Y, J pre X → Below X.heap.size X Y → J pre Y) → (∀ pre X Y, Jx pre X → Below X.heap.size X Y → Jx pre Y) →
    (∀ pre x X, J pre X → pre ++ [x] <+: xs → YieldAt Fence.wide 0 P l (encs x) X fun e X' =>
      (e = .returned (.bool true) ∧ J (pre ++ [x]) X' ∧ Keep V X X') ∨ (e = .returned (.bool false) ∧ Jx (pre ++ [x]) X')) →
    J [] W → CallsIn Fence.wide 0 P gf #[z, .func (.yield l) #[] #[]] W fun e W' => (∃ v, e = .returned v) ∧ (J xs W' ∨ ∃ pre x, pre ++ [x] <+: xs ∧ Jx (pre ++ [x]) W')

/-- How a round's body is left. -/
def roundQ {α : Type} (V : Nat → Prop) (I Ix : List α → World → Prop) (xs : List α) (W : World) : Exit → Act → World → Prop
  | .normal, _, W' => Keep V W W' ∧ I xs W'
  | .ret, _, W' => Keep V W W' ∧ Ix xs W'
  | _, _, _ => False

theorem range_recv {α : Type} {g : Operand} {ps : Array Tmp} {assign body : Code} {Q : Exit → Act → World → Prop} {a : Act} {w : World} {gf : FuncId} {z : Value}
    (hg : a.eval g = .func (.func gf) #[z] #[]) (eg : ∀ args w, (callFunc gf args).run P w = .ok (.enter gf args) w)
    {encs : α → Array Value} {xs : List α} (hps : ∀ x, (encs x).size = ps.size) {B : Nat} {w0 : World} (hseq : Gives P gf z encs xs B w0) (hB : B ≤ w0.heap.size) (hw : Below B w0 w)
    (V : Nat → Prop) (hV : ∀ k, V k → B ≤ k ∧ k < w.heap.size)
    (I Ix : List α → World → Prop) (hI : ∀ pre X Y, I pre X → Below w.heap.size X Y → I pre Y) (hIx : ∀ pre X Y, Ix pre X → Below w.heap.size X Y → Ix pre Y) (h0 : I [] w)
    (Ax : α → Nat → Act → World → Prop) (hAx : ∀ x m a' X l o, l < m → Ax x m a' X → Ax x m a' (X.putObj l o))
    (hassign : ∀ (l : Nat) (x : α) (X : World) (K : Act → World → Prop), w.heap.size ≤ X.heap.size → (∀ a' X', Below X.heap.size X X' → Ax x X.heap.size a' X' → K a' X') →
      assign.wpIn (Fence.wide.inRound l) 0 P (Exit.then K (fun _ _ _ => False)) { tmps := (ps.zip (encs x)).foldl (fun t (p, v) => t.setIfInBounds p v) a.tmps, defers := [] } X)
    (hbody : ∀ (l : Nat) (pre : List α) (x : α) (m : Nat) (a' : Act) (X : World), w.heap.size + 2 ≤ m → m ≤ X.heap.size → I pre X → Ax x m a' X → pre ++ [x] <+: xs → body.wpIn (Fence.wide.inRound l) 0 P (roundQ V I Ix (pre ++ [x]) X) a' X)
    (hdone : ∀ (D : Nat) (W : World), w.heap.size ≤ D → I xs W → W.heap[D]? = some (.deferred (some [])) → Q .normal { a with defers := { target := .collected D, args := #[] } :: a.defers } W)
    (hstop : ∀ (D : Nat) (pre : List α) (x : α) (W : World), w.heap.size ≤ D → pre ++ [x] <+: xs → Ix (pre ++ [x]) W → W.heap[D]? = some (.deferred (some [])) → Q .ret { a with defers := { target := .collected D, args := #[] } :: a.defers } W) :
    (Code.rangeFunc g ps assign body).wpIn Fence.wide 0 P Q a w := by
  refine wpIn_rangeFunc fun fn _ => ?_
  obtain ⟨rec, hrec⟩ : ∃ rec : LoopState → Option Code → Loop, rec = fun st pe => { state := st, pending := pe, fn, tmps := a.tmps, params := ps, assign, body, defers := w.heap.size } := ⟨_, rfl⟩
  have hent := run_enterLoop_outer (P := P) (w := w) fn a.tmps ps assign body
  generalize hW1 : (w.alloc (.deferred (some []))).alloc (.loop { state := .ready, pending := none, fn, tmps := a.tmps, params := ps, assign, body, defers := w.heap.size }) = W1 at hent
  have hs1 : W1.heap.size = w.heap.size + 2 := by rw [← hW1]; simp
  have hL1 : W1.heap[w.heap.size + 1]? = some (.loop (rec .ready none)) := by
    rw [← hW1, hrec]; have := World.alloc_heap_new (w.alloc (.deferred (some []))) (.loop (rec .ready none)); rw [World.size_alloc, hrec] at this; exact this
  have hK1 : W1.heap[w.heap.size]? = some (.deferred (some [])) := by
    rw [← hW1]; exact (Below.heap_alloc _ _ _ (by simp)).trans (World.alloc_heap_new w _)
  have hb1 : Below w.heap.size w W1 := by
    rw [← hW1]; exact ((Below.refl _ w).alloc (Nat.le_refl _) _).alloc (by simp) _
  have hBw : B ≤ w.heap.size := Nat.le_trans hB hw.size
  refine ⟨w.heap.size + 1, _, W1, { target := .fn (.func gf) #[], args := #[z, .func (.yield (w.heap.size + 1)) #[] #[]] }, W1, gf, #[z, .func (.yield (w.heap.size + 1)) #[] #[]], W1, hent, ?_, fun _ _ => trivial, ?_, (fun h => by cases h), ?_⟩
  · simp only [resolve, hg]
    simp [go_sem]
  · simp [invoke, go_sem, eg]
  · refine (hseq (w.heap.size + 1) (fun k => V k ∨ k = w.heap.size + 1)
      (fun pre W => I pre W ∧ W.heap[w.heap.size + 1]? = some (.loop (rec .ready none)) ∧ W.heap[w.heap.size]? = some (.deferred (some [])))
      (fun pre W => Ix pre W ∧ W.heap[w.heap.size + 1]? = some (.loop (rec .done (some .ret))) ∧ W.heap[w.heap.size]? = some (.deferred (some [])))
      W1 (hw.trans (hb1.mono hBw)) (fun k hk => by rcases hk with hk | rfl; · have := hV k hk; omega
                                                   · omega) ?_ ?_ ?_ ⟨hI _ _ _ h0 hb1, hL1, hK1⟩).mono ?_
    · rintro pre X Y ⟨h1, h2, h3⟩ hb
      have hlt := (Array.getElem?_eq_some_iff.1 h2).1
      exact ⟨hI _ _ _ h1 (hb.mono (by omega)), by rw [hb.block _ hlt]; exact h2, by rw [hb.block _ (by omega)]; exact h3⟩
    · rintro pre X Y ⟨h1, h2, h3⟩ hb
      have hlt := (Array.getElem?_eq_some_iff.1 h2).1
      exact ⟨hIx _ _ _ h1 (hb.mono (by omega)), by rw [hb.block _ hlt]; exact h2, by rw [hb.block _ (by omega)]; exact h3⟩
    · -- one round
      rintro pre x X ⟨hi, hl, hk⟩ hpre
      have hlt : w.heap.size + 1 < X.heap.size := (Array.getElem?_eq_some_iff.1 hl).1
      have hy := run_yield (P := P) (args := encs x) hl (by rw [hrec]; exact hps x)
      rw [hrec] at hy
      refine ⟨fn, _, assign, body, hy, roundIn_of_wpIn trivial (hassign _ x X _ (by omega) fun a' X' hbx hax => ?_)⟩
      clear hy
      have hl' : X'.heap[w.heap.size + 1]? = some (.loop (rec .ready none)) := by rw [hbx.block _ hlt]; exact hl
      have hk' : X'.heap[w.heap.size]? = some (.deferred (some [])) := by rw [hbx.block _ (by omega)]; exact hk
      have hlt' := (Array.getElem?_eq_some_iff.1 hl').1
      refine ⟨_, run_beginRound hl' (by rw [hrec]), ?_⟩
      generalize hX2 : X'.putObj (w.heap.size + 1) (.loop { rec .ready none with state := .busy }) = X2
      have hl2 : X2.heap[w.heap.size + 1]? = some (.loop { rec .ready none with state := .busy }) := by rw [← hX2]; exact World.putObj_heap_same hlt'
      have hk2 : X2.heap[w.heap.size]? = some (.deferred (some [])) := by rw [← hX2]; exact (World.putObj_heap_other (by omega)).trans hk'
      have hsz2 : X2.heap.size = X'.heap.size := by rw [← hX2]; simp
      have hp2 : Keep (fun k => k = w.heap.size + 1) X X2 := by rw [← hX2]; exact (Keep.of hbx).trans (Keep.putObj rfl)
      have hi2 : I pre X2 := hI _ _ _ hi (hp2.below fun k hk => ⟨by omega, by omega⟩)
      have hax2 : Ax x X.heap.size a' X2 := by rw [← hX2]; exact hAx _ _ _ _ _ _ (by omega) hax
      refine wpIn_mono (hbody _ pre x X.heap.size a' X2 (by omega) (by rw [hsz2]; exact hbx.size) hi2 hax2 hpre) ?_
      rintro e a3 W3 hp
      have fin : ∀ (jump : Option Code), Keep V X2 W3 →
          (Instr.endRound (w.heap.size + 1) jump).run P W3 = .ok (.bool jump.isNone) (W3.putObj (w.heap.size + 1) (.loop (rec (if jump.isNone then .ready else .done) jump))) ∧
          Below w.heap.size W3 (W3.putObj (w.heap.size + 1) (.loop (rec (if jump.isNone then .ready else .done) jump))) ∧
          (W3.putObj (w.heap.size + 1) (.loop (rec (if jump.isNone then .ready else .done) jump))).heap[w.heap.size + 1]? = some (.loop (rec (if jump.isNone then .ready else .done) jump)) ∧
          (W3.putObj (w.heap.size + 1) (.loop (rec (if jump.isNone then .ready else .done) jump))).heap[w.heap.size]? = some (.deferred (some [])) ∧
          Keep (fun k => V k ∨ k = w.heap.size + 1) X (W3.putObj (w.heap.size + 1) (.loop (rec (if jump.isNone then .ready else .done) jump))) := fun jump hk3 => by
        have hl3 : W3.heap[w.heap.size + 1]? = some (.loop { rec .ready none with state := .busy }) := by
          rw [hk3.block _ (by omega) (fun e => by have := hV _ e; omega)]; exact hl2
        have hlt3 := (Array.getElem?_eq_some_iff.1 hl3).1
        have := run_endRound (P := P) jump hl3
        refine ⟨by rw [hrec] at this ⊢; exact this, ?_, World.putObj_heap_same hlt3, (World.putObj_heap_other (by omega)).trans ?_, ?_⟩
        · exact (Keep.putObj (V := fun k => k = w.heap.size + 1) rfl).below fun k hk => ⟨by omega, by omega⟩
        · rw [hk3.block _ (by omega) (fun e => by have := hV _ e; omega)]; exact hk2
        · exact ((hp2.mono fun k e => .inr e).trans (hk3.mono fun k e => .inl e)).trans (Keep.putObj (.inr rfl))
      cases e with
      | normal =>
        obtain ⟨hk3, hi3⟩ := hp
        obtain ⟨hr, hb4, hl4, hk4, hkp⟩ := fin none hk3
        exact ⟨_, _, hr, .inl ⟨rfl, ⟨hI _ _ _ hi3 hb4, hl4, hk4⟩, hkp⟩⟩
      | ret =>
        obtain ⟨hk3, hi3⟩ := hp
        obtain ⟨hr, hb4, hl4, hk4, hkp⟩ := fin (some .ret) hk3
        exact ⟨_, _, hr, .inr ⟨rfl, hIx _ _ _ hi3 hb4, hl4, hk4⟩⟩
      | exit id => exact hp.elim
      | goto t => exact hp.elim
      | panic ch => exact hp.elim
      | outgrown => exact hp.elim
    · rintro e W2 ⟨⟨v, rfl⟩, (⟨hi, hl, hk⟩ | ⟨pre, x, hSp, hi, hl, hk⟩)⟩
      · have hlt := (Array.getElem?_eq_some_iff.1 hl).1
        refine ⟨none, _, by have := run_endLoop (P := P) hl (by rw [hrec]; simp); rw [hrec] at this; exact this, hdone w.heap.size _ (Nat.le_refl _) (hI _ _ _ hi ?_) ((World.putObj_heap_other (by omega)).trans hk)⟩
        exact (Keep.putObj (V := fun k => k = w.heap.size + 1) rfl).below fun k hk => ⟨by omega, by omega⟩
      · have hlt := (Array.getElem?_eq_some_iff.1 hl).1
        refine ⟨some .ret, _, by have := run_endLoop (P := P) hl (by rw [hrec]; simp); rw [hrec] at this; exact this, wpIn_ret (hstop w.heap.size pre x _ (Nat.le_refl _) hSp (hIx _ _ _ hi ?_) ((World.putObj_heap_other (by omega)).trans hk))⟩
        exact (Keep.putObj (V := fun k => k = w.heap.size + 1) rfl).below fun k hk => ⟨by omega, by omega⟩
end Go.Xv
namespace Go.Xv
open Go.RowKit (Below)
variable {P : Program}

theorem wpOpIn_of_stOp {ops : Array Oper} {w : World} {i : Nat} {a : Act} {K : Act → Prop} {K' : Act → World → Prop} {Q' : Exit → Act → World → Prop} (h : ∀ a, K a → K' a w) (hh : stOp P ops w i K a) : wpOpIn Fence.wide 0 P ops Q' i K' a w := by
  unfold stOp at hh
  unfold wpOpIn
  split
  · rename_i ho; simp only [ho] at hh; exact h _ hh
  · rename_i o ho
    simp only [ho] at hh
    split
    · rename_i hw
      simp only [hw, if_true] at hh
      refine ⟨fun _ _ => trivial, ?_⟩
      show o.uponIn Fence.wide 0 P a K' Q' ((execOp a.eval o).run P w)
      unfold Oper.still at hh
      generalize (execOp a.eval o).run P w = r at hh ⊢
      cases r with
      | ok n w' =>
        cases n <;> simp only [Oper.stillUpon] at hh <;> simp only [Oper.uponIn]
        case enter f args =>
          obtain ⟨rfl, v, hc, hn⟩ := hh
          exact ⟨(fun e => by cases e), callsIn_wide.2 (hc.mono fun e w'' ⟨he, hw⟩ => by subst he; subst hw; exact h _ hn)⟩
        all_goals (obtain ⟨rfl, h2⟩ := hh; exact h _ h2)
      | halt x w' => simp only [Oper.stillUpon] at hh
    · rename_i hw; simp only [hw] at hh; exact ⟨fun _ _ => trivial, h _ hh⟩

theorem wpAnyIn_of_head {md : Region.Mode} {ops : Array Oper} {w : World} {n g : Nat} {L : Array Bool → Act → Prop} {Q' : Exit → Act → World → Prop} (hL : ∀ listed a, L listed a → wpAnyIn Fence.wide 0 P md ops Q' g listed a w) :
    ∀ (f : Nat) (listed : Array Bool) (a : Act), wpAnyL P md ops w n L f listed a → wpAnyIn Fence.wide 0 P md ops Q' (f + g) listed a w
  | 0, listed, a, h => by rw [Nat.zero_add]; exact hL _ _ h
  | f + 1, listed, a, h => by
    rw [show f + 1 + g = (f + g) + 1 by omega]
    exact ⟨fun h0 => absurd h0 h.1, fun i hi => wpOpIn_of_stOp (fun a' h' => wpAnyIn_of_head hL f _ a' h') (h.2 i hi).2⟩

theorem wpAnyIn_of_seq {md : Region.Mode} {ops : Array Oper} {Q' : Exit → Act → World → Prop} : ∀ (l : List Oper) (k : Nat) (listed : Array Bool) (a : Act) (w : World), (∀ j, l[j]? = ops[k + j]?) →
    Region.seqB md ops l.length k listed = true → wpListIn Fence.wide 0 P ops Q' l a w → wpAnyIn Fence.wide 0 P md ops Q' l.length listed a w
  | [], _, _, _, _, _, hB, h => ⟨by simpa [Region.seqB] using hB, h⟩
  | o :: l, k, listed, a, w, hl, hB, h => by
    have h0 : ops[k]? = some o := by simpa using (hl 0).symm
    simp only [List.length_cons, Region.seqB, Bool.and_eq_true, decide_eq_true_eq] at hB
    refine ⟨fun h1 => (by rw [hB.1] at h1; cases h1), fun i hi => ?_⟩
    rw [hB.1] at hi
    have hik : i = k := by simpa using hi
    subst hik
    have hw : wpOpIn Fence.wide 0 P ops Q' i (wpListIn Fence.wide 0 P ops Q' l) a w := by unfold wpOpIn; simp only [h0]; exact h
    exact wpOpIn_mono (fun a' w' h' => wpAnyIn_of_seq l (i + 1) _ a' w' (fun j => by have := hl (j + 1); simpa [Nat.add_assoc, Nat.add_comm 1 j] using this) hB.2 h') hw

/-- A region whose first operations change nothing, and whose last ones come in one order. -/
theorem wpIn_still_tail {id : Nat} {Q : Exit → Act → World → Prop} {a : Act} {w : World} {l : List Oper} (n : Nat) (hm : P.follows .mixedOrders = true) (hB : Region.lexTailB .any l.toArray n = true)
    (h : wpStill P l.toArray { w with drawn := w.drawn + 1 } (fun a' => wpListIn Fence.wide 0 P l.toArray Q (l.drop n) a' { w with drawn := w.drawn + 1 }) (l.take n) a) : (Code.region id l.toArray true).wpIn Fence.wide 0 P Q a w := by
  simp only [Region.lexTailB, Bool.and_eq_true, decide_eq_true_eq] at hB
  obtain ⟨⟨⟨⟨hsel, hn⟩, hs⟩, hc⟩, hlex⟩ := hB
  have hn' : n < l.length := by simpa using hn
  have htl : (l.take n).length = n := by simp; omega
  have hdl : (l.drop n).length = l.toArray.size - n := by simp
  have inv0 : HeadInv .any l.toArray n (Array.replicate l.toArray.size false) :=
    ⟨by simp, fun j oj _ hl => (by rw [getD_replicate_false] at hl; cases hl), fun t _ ht => getD_in (by simpa using ht) (getD_replicate_false _ _)⟩
  have H := wpAnyL_lex (md := .any) (g := l.toArray.size - n) hsel hs hc hn (l.take n) 0 _ a (fun j hj => by
    have hj' : j < n := by rw [htl] at hj; exact hj
    simp [hj']) (by simpa using htl) inv0 (by rw [htl]; exact hlex) h
  refine wpIn_region_any hm ?_
  have := wpAnyIn_of_head (Q' := Q) (g := l.toArray.size - n) (fun listed a' hL => by
    have := wpAnyIn_of_seq (md := .any) (Q' := Q) (l.drop n) n listed a' { w with drawn := w.drawn + 1 } (fun j => by simp [List.getElem?_drop]) (by rw [hdl]; exact hL.1) hL.2
    rwa [hdl] at this) _ _ _ H
  rw [htl, show n + (l.toArray.size - n) = l.toArray.size by omega] at this
  exact this
end Go.Xv
namespace Go.Xv
abbrev Pt := Int × Int
def at0 (zs : List Pt) (k : Nat) : Pt := zs[k]?.getD (0, 0)
def edge (zs : List Pt) (k : Nat) : Pt × Pt := (at0 zs k, at0 zs ((k + 1) % zs.length))
def edgesOf (zs : List Pt) (k : Nat) : List (Pt × Pt) := (List.range k).map (edge zs)
theorem edgesOf_succ (zs : List Pt) (k : Nat) : edgesOf zs (k + 1) = edgesOf zs k ++ [edge zs k] := by simp [edgesOf, List.range_succ]

theorem edgesOf_prefix (zs : List Pt) {k n : Nat} (h : k ≤ n) : edgesOf zs k <+: edgesOf zs n := by
  obtain ⟨d, rfl⟩ := Nat.le.dest h
  rw [edgesOf, edgesOf, List.range_add, List.map_append]
  exact List.prefix_append _ _
/-- all of k numbers from i on; some of them. -/
def allN (f : Nat → Bool) : Nat → Nat → Bool
  | _, 0 => true
  | i, k + 1 => f i && allN f (i + 1) k
def anyN (f : Nat → Bool) : Nat → Nat → Bool
  | _, 0 => false
  | i, k + 1 => f i || anyN f (i + 1) k
/-- how many of k numbers from i on. -/
def cntN (f : Nat → Bool) : Nat → Nat → Nat
  | _, 0 => 0
  | i, k + 1 => (if f i then 1 else 0) + cntN f (i + 1) k
theorem allN_iff {f : Nat → Bool} : ∀ {k i : Nat}, allN f i k = true ↔ ∀ j, i ≤ j → j < i + k → f j = true
  | 0, i => by
    constructor
    · intro _ j h1 h2; omega
    · intro _; rfl
  | k + 1, i => by
    rw [allN, Bool.and_eq_true, allN_iff (k := k)]
    constructor
    · rintro ⟨h, h'⟩ j h1 h2
      by_cases e : j = i
      · exact e ▸ h
      · exact h' j (by omega) (by omega)
    · intro h
      exact ⟨h i (by omega) (by omega), fun j h1 h2 => h j (by omega) (by omega)⟩
theorem anyN_iff {f : Nat → Bool} : ∀ {k i : Nat}, anyN f i k = true ↔ ∃ j, i ≤ j ∧ j < i + k ∧ f j = true
  | 0, i => by
    constructor
    · intro h; cases h
    · rintro ⟨j, h1, h2, _⟩; omega
  | k + 1, i => by
    rw [anyN, Bool.or_eq_true, anyN_iff (k := k)]
    constructor
    · rintro (h | ⟨j, h1, h2, h3⟩)
      · exact ⟨i, by omega, by omega, h⟩
      · exact ⟨j, by omega, by omega, h3⟩
    · rintro ⟨j, h1, h2, h3⟩
      by_cases e : j = i
      · exact .inl (e ▸ h3)
      · exact .inr ⟨j, by omega, by omega, h3⟩
theorem cntN_congr {f g : Nat → Bool} : ∀ {k i : Nat}, (∀ j, i ≤ j → j < i + k → f j = g j) → cntN f i k = cntN g i k
  | 0, _, _ => rfl
  | k + 1, i, h => by simp only [cntN]; rw [h i (by omega) (by omega), cntN_congr (k := k) fun j h1 h2 => h j (by omega) (by omega)]
theorem cntN_snoc {f : Nat → Bool} : ∀ {k i : Nat}, cntN f i (k + 1) = cntN f i k + (if f (i + k) then 1 else 0)
  | 0, i => by simp [cntN]
  | k + 1, i => by
    have := cntN_snoc (f := f) (k := k) (i := i + 1)
    rw [show i + 1 + k = i + (k + 1) by omega] at this
    rw [cntN, this, cntN]
    omega
end Go.Xv
namespace Go.Xv
open Go.RowKit Go.Shelf
attribute [local go_sem] Oper.semAt_some

abbrev ptV (p : Pt) : Value := .agg #[.int .i64 p.1, .int .i64 p.2]
abbrev edgeV (e : Pt × Pt) : Array Value := #[ptV e.1, ptV e.2]
/-- The points lie in block b from q on. -/
def Lies (W : World) (b q : Nat) (zs : List Pt) : Prop := ∀ j, j < zs.length → W.cell? ⟨b, q + j * 2, none⟩ = some (.int .i64 (at0 zs j).1) ∧ W.cell? ⟨b, q + j * 2 + 1, none⟩ = some (.int .i64 (at0 zs j).2)

set_option maxRecDepth 100000 in
set_option maxHeartbeats 4000000 in
theorem edges_gives (zs : List Pt) (kp : Bool) (fl rf : Int) (b q cap : Nat) (h1 : 1 ≤ zs.length) (h16 : zs.length ≤ 1000) (B : Nat) (w : World) (hb : b < B) (hBw : B ≤ w.heap.size) (hl : Lies w b q zs) :
    Gives PP 21 (.agg #[.bool kp, .slice (some ⟨b, q, none⟩) zs.length cap, .int .i64 fl, .int .i64 rf]) edgeV (edgesOf zs zs.length) B w := by
  intro l V J Jx W hW hV hJ hJx hY h0
  refine callsIn_of_wp Proofs.Try.func21 rfl trivial ?_ rfl
  simp only [Proofs.Try.ntmps21, List.size_toArray, List.length_cons, List.length_nil, Nat.reduceAdd, Nat.reduceSub, Array.replicate_succ, Array.replicate_zero, List.push_toArray, List.append_toArray, List.nil_append, List.cons_append]
  gi_wp2
  gi_loopw [9] (fun i wr => ∃ k : Nat, k ≤ zs.length ∧ i = .int .i64 k ∧ J (edgesOf zs k) wr ∧ Lies wr b q zs ∧ Below B w wr ∧ W.heap.size < wr.heap.size ∧
      wr.cell? ⟨W.heap.size, 0, none⟩ = some (.bool kp) ∧ wr.cell? ⟨W.heap.size, 1, none⟩ = some (.slice (some ⟨b, q, none⟩) zs.length cap) ∧ wr.cell? ⟨W.heap.size, 2, none⟩ = some (.int .i64 fl) ∧ wr.cell? ⟨W.heap.size, 3, none⟩ = some (.int .i64 rf))
    (fun i _ => zs.length - (intOf i).toNat)
  case atStart =>
    have hsz0 : ∀ (c : Obj), Below W.heap.size W (W.alloc c) := fun c => (Below.refl _ W).alloc (Nat.le_refl _) c
    have hBW : B ≤ W.heap.size := by have := hW.size; omega
    exact ⟨0, Nat.zero_le _, rfl, hJ _ _ _ h0 (hsz0 _), fun j hj => by
      obtain ⟨p1, p2⟩ := hl j hj
      exact ⟨((hsz0 _).cell (p := ⟨b, _, none⟩) (by show b < _; omega)).trans ((hW.cell (p := ⟨b, _, none⟩) hb).trans p1), ((hsz0 _).cell (p := ⟨b, _, none⟩) (by show b < _; omega)).trans ((hW.cell (p := ⟨b, _, none⟩) hb).trans p2)⟩,
      hW.trans ((hsz0 _).mono hBW), by simp, by simp, by simp, by simp, by simp⟩
  case round =>
    obtain ⟨k, hk, rfl, hJs, hls, hbl, hsz, c0, c1, c2, c3⟩ := hrel
    by_cases hlt : k < zs.length
    · obtain ⟨hp1, hp2⟩ := hls k hlt
      obtain ⟨hq1, hq2⟩ := hls ((k + 1) % zs.length) (Nat.mod_lt _ (by omega))
      have hbX : Below wr.heap.size wr { (wr.alloc (.cells #[.int .i64 (at0 zs k).1, .int .i64 (at0 zs k).2] 33)) with drawn := (wr.alloc (.cells #[.int .i64 (at0 zs k).1, .int .i64 (at0 zs k).2] 33)).drawn + 1 } :=
        let h := (Below.refl wr.heap.size wr).alloc (Nat.le_refl _) (.cells #[.int .i64 (at0 zs k).1, .int .i64 (at0 zs k).2] 33)
        ⟨h.os, h.tape, h.output, h.size, h.block⟩
      have d0 : (wr.alloc (.cells #[.int .i64 (at0 zs k).1, .int .i64 (at0 zs k).2] 33)).cell? ⟨wr.heap.size, 0, none⟩ = some (.int .i64 (at0 zs k).1) := by simp
      have d1 : (wr.alloc (.cells #[.int .i64 (at0 zs k).1, .int .i64 (at0 zs k).2] 33)).cell? ⟨wr.heap.size, 1, none⟩ = some (.int .i64 (at0 zs k).2) := by simp
      gi_wp2
      have hmx : PP.follows .mixedOrders = true := by kernel_rfl
      refine wpIn_still_tail 12 hmx (by kernel_rfl) ?_
      have hbB : b < wr.heap.size := by have := hbl.size; have := hW.size; omega
      have kc : ∀ {p : Addr} {v : Value}, wr.cell? p = some v → p.block < wr.heap.size → World.cell? { (wr.alloc (.cells #[.int .i64 (at0 zs k).1, .int .i64 (at0 zs k).2] 33)) with drawn := (wr.alloc (.cells #[.int .i64 (at0 zs k).1, .int .i64 (at0 zs k).2] 33)).drawn + 1 } p = some v :=
        fun {p v} h hp => (hbX.cell (p := p) hp).trans h
      have c1' := kc c1 hsz
      have hq1' := kc hq1 hbB
      have hq2' := kc hq2 hbB
      replace d0 : World.cell? { (wr.alloc (.cells #[.int .i64 (at0 zs k).1, .int .i64 (at0 zs k).2] 33)) with drawn := (wr.alloc (.cells #[.int .i64 (at0 zs k).1, .int .i64 (at0 zs k).2] 33)).drawn + 1 } ⟨wr.heap.size, 0, none⟩ = _ := d0
      replace d1 : World.cell? { (wr.alloc (.cells #[.int .i64 (at0 zs k).1, .int .i64 (at0 zs k).2] 33)) with drawn := (wr.alloc (.cells #[.int .i64 (at0 zs k).1, .int .i64 (at0 zs k).2] 33)).drawn + 1 } ⟨wr.heap.size, 1, none⟩ = _ := d1
      clear kc
      generalize ({ (wr.alloc (.cells #[.int .i64 (at0 zs k).1, .int .i64 (at0 zs k).2] 33)) with drawn := (wr.alloc (.cells #[.int .i64 (at0 zs k).1, .int .i64 (at0 zs k).2] 33)).drawn + 1 } : World) = Y at *
      have hXJ := hJ _ _ _ hJs hbX
      obtain ⟨fn, tmps, assign, body, hy, hR⟩ := hY _ (edge zs k) Y hXJ (by rw [← edgesOf_succ]; exact edgesOf_prefix zs (by omega))
      dsimp only [edgeV, edge, ptV] at hy
      simp only [List.take_succ_cons, List.take_zero, List.drop_succ_cons, List.drop_zero]
      repeat still_step
      have hwr : IntKind.wrap .i64 ((k : Int) + 1) = ((k + 1 : Nat) : Int) := by simp [IntKind.wrap, IntKind.signed, IntKind.bits]; omega
      rw [hwr]
      have hne : ((zs.length : Nat) : Int) ≠ 0 := by omega
      have hne' : zs.length ≠ 0 := by omega
      refine wpStill_step (fun K hK => ?_)
      go_simp
      refine hK _ ?_
      clear hK K
      have htm : ((k : Int) + 1).tmod (zs.length : Int) = (((k + 1) % zs.length : Nat) : Int) := by
        rw [Int.tmod_eq_emod_of_nonneg (by omega)]; simp
      rw [htm]
      have hlt2 : (k + 1) % zs.length < zs.length := Nat.mod_lt _ (by omega)
      generalize hk2d : (k + 1) % zs.length = k2 at *
      repeat still_step
      refine wpStill_nil ?_
      have hV' : ∀ k', V k' → B ≤ k' ∧ k' < W.heap.size := hV
      gi_wp2
      refine ⟨rfl, hR.mono ?_⟩
      rintro e W3 (⟨rfl, hJ3, hk3⟩ | ⟨rfl, hJx3⟩)
      · have hk3' : ∀ {p : Addr} {v : Value}, Y.cell? p = some v → p.block < Y.heap.size → ¬ V p.block → W3.cell? p = some v := fun {p v} h hp hv => by
          rw [World.cell?_of_block (w := Y) (hk3.block _ hp hv)]; exact h
        have hYs := hbX.size
        gi_wp2
        go_roundw
        case rel =>
          have hnV : ¬ V W.heap.size := fun e => by have := hV _ e; omega
          have hnb : ¬ V b := fun e => by have := hV _ e; omega
          have hBW : B ≤ W.heap.size := by have := hW.size; omega
          exact ⟨k + 1, by omega, by simp, by rw [edgesOf_succ]; exact hJ3, fun j hj => by
              obtain ⟨p1, p2⟩ := hls j hj
              exact ⟨hk3' ((hbX.cell (p := ⟨b, _, none⟩) hbB).trans p1) (by show b < _; omega) hnb, hk3' ((hbX.cell (p := ⟨b, _, none⟩) hbB).trans p2) (by show b < _; omega) hnb⟩,
            hbl.trans ((hbX.mono (by omega)).trans (hk3.below fun k' hk' => ⟨by omega, fun e => by have := hV _ e; omega⟩)), by have := hk3.size; omega,
            hk3' ((hbX.cell (p := ⟨W.heap.size, 0, none⟩) hsz).trans c0) (by show W.heap.size < _; omega) hnV,
            hk3' ((hbX.cell (p := ⟨W.heap.size, 1, none⟩) hsz).trans c1) (by show W.heap.size < _; omega) hnV,
            hk3' ((hbX.cell (p := ⟨W.heap.size, 2, none⟩) hsz).trans c2) (by show W.heap.size < _; omega) hnV,
            hk3' ((hbX.cell (p := ⟨W.heap.size, 3, none⟩) hsz).trans c3) (by show W.heap.size < _; omega) hnV⟩
        case measure => simp [intOf]; omega
      · gi_wp2
        refine bodyPost_ret (results_none rfl _ _ _) rfl ?_
        refine ⟨⟨_, rfl⟩, .inr ⟨edgesOf zs k, edge zs k, by rw [← edgesOf_succ]; exact edgesOf_prefix zs (by omega), hJx3⟩⟩
    · obtain rfl : k = zs.length := by omega
      gi_wp2
      go_end0
      exact ⟨⟨_, rfl⟩, .inl hJs⟩
end Go.Xv
set_option linter.unusedVariables false
namespace Go.Xv
/- 41 _wide_Add -/
def c_wide_Add : Cfg := ⟨[0, 1, 2, 3, 4, 5, 6, 22], [], [], []⟩
def ti_wide_Add : List TV := [.v (.agg [.int .i64, .int .u64]), .v (.agg [.int .i64, .int .u64])]
def to_wide_Add : TV := .v (.agg [.int .i64, .int .u64])
def S_wide_Add (F : Nat) : FuncId → List VV → Option (Bool × VV) := words []
def W_wide_Add (F : Nat) : List LW := []
def I_wide_Add (F : Nat) : Nat → VS → (Exit → VS → R) → R := tabI c_wide_Add (W_wide_Add F)
def WJ_wide_Add (F : Nat) : List LJ := []
def J_wide_Add (F : Nat) : Nat → Nat → VS → (Exit → VS → R) → R := tabJ (WJ_wide_Add F)
def f_wide_Add (F : Nat) (a0 : Int) (a1 : Int) (a2 : Int) (a3 : Int) : R :=
  let v66 : Int := (IntKind.wrap .u64 (a1 + a3))
  let v69 : Int := (IntKind.wrap .u64 (((IntKind.wrap .u64 a0)) + ((IntKind.wrap .u64 a2))))
  bif ((decide (v66 < a1))) then (
    some (.v (.agg #[.int .i64 ((IntKind.wrap .i64 ((IntKind.wrap .u64 (v69 + 1))))), .int .u64 v66])))
  else (
    some (.v (.agg #[.int .i64 ((IntKind.wrap .i64 v69)), .int .u64 v66])))
theorem e_wide_Add (F : Nat) (a0 : Int) (a1 : Int) (a2 : Int) (a3 : Int) : funL PP (S_wide_Add F) c_wide_Add (I_wide_Add F) (J_wide_Add F) 41 (fTs ti_wide_Add [.i a0, .i a1, .i a2, .i a3]).1 = f_wide_Add F a0 a1 a2 a3 := by
  have h : ∀ (_ : Unit), funL PP (words []) c_wide_Add (tabI c_wide_Add []) (tabJ []) 41 (fTs ti_wide_Add [.i a0, .i a1, .i a2, .i a3]).1 = (
  let v66 : Int := (IntKind.wrap .u64 (a1 + a3))
  let v69 : Int := (IntKind.wrap .u64 (((IntKind.wrap .u64 a0)) + ((IntKind.wrap .u64 a2))))
  bif ((decide (v66 < a1))) then (
    some (.v (.agg #[.int .i64 ((IntKind.wrap .i64 ((IntKind.wrap .u64 (v69 + 1))))), .int .u64 v66])))
  else (
    some (.v (.agg #[.int .i64 ((IntKind.wrap .i64 v69)), .int .u64 v66]))) : R) := by
    intros
    kernel_rfl
  exact (h ()).trans (by kernel_rfl)
def ok_wide_Add (F : Nat) (a0 : Int) (a1 : Int) (a2 : Int) (a3 : Int) : Bool := okT to_wide_Add (f_wide_Add F a0 a1 a2 a3)
def o_wide_Add_0 (F : Nat) (a0 : Int) (a1 : Int) (a2 : Int) (a3 : Int) : Int := atI (nth (outT to_wide_Add (f_wide_Add F a0 a1 a2 a3)) 0)
def o_wide_Add_1 (F : Nat) (a0 : Int) (a1 : Int) (a2 : Int) (a3 : Int) : Int := atI (nth (outT to_wide_Add (f_wide_Add F a0 a1 a2 a3)) 1)
theorem k_wide_Add (F : Nat) (a0 : Int) (a1 : Int) (a2 : Int) (a3 : Int) {z0 : Int} {z1 : Int} (h : f_wide_Add F a0 a1 a2 a3 = some (.v (.agg #[.int .i64 z0, .int .u64 z1]))) : ok_wide_Add F a0 a1 a2 a3 = true ∧ o_wide_Add_0 F a0 a1 a2 a3 = z0 ∧ o_wide_Add_1 F a0 a1 a2 a3 = z1 := by
  refine ⟨?_, ?_, ?_⟩
  · unfold ok_wide_Add; rw [h]; kernel_rfl
  · unfold o_wide_Add_0; rw [h]; kernel_rfl
  · unfold o_wide_Add_1; rw [h]; kernel_rfl
def s_wide_Add (F : Nat) : List VV → Option (Bool × VV) := spec ti_wide_Add to_wide_Add (fun q => (ok_wide_Add F (atI (nth q 0)) (atI (nth q 1)) (atI (nth q 2)) (atI (nth q 3)))) (fun q => [.i (o_wide_Add_0 F (atI (nth q 0)) (atI (nth q 1)) (atI (nth q 2)) (atI (nth q 3))), .i (o_wide_Add_1 F (atI (nth q 0)) (atI (nth q 1)) (atI (nth q 2)) (atI (nth q 3)))])
theorem hS_wide_Add (F : Nat) : ∀ f, Good PP f (unS (S_wide_Add F f)) := words_good fun p hp => by
  cases hp
theorem hl_wide_Add (F : Nat) : ∀ p ∈ loopsIn PP 41, LoopOK PP (S_wide_Add F) c_wide_Add F (I_wide_Add F) (J_wide_Add F) p :=
  loops_of [] (by kernel_rfl) all_nil
theorem hj_wide_Add (F : Nat) : ∀ p ∈ joinsIn PP c_wide_Add 41, JoinOK PP (S_wide_Add F) c_wide_Add (I_wide_Add F) (J_wide_Add F) p :=
  joins_of [] (by kernel_rfl) all_nil
theorem g_wide_Add (F : Nat) : Good PP 41 (unS (s_wide_Add F)) :=
  fun_spec (hS_wide_Add F) (by kernel_rfl) (by kernel_rfl) (C := c_wide_Add) (F := fun q => (f_wide_Add F (atI (nth q 0)) (atI (nth q 1)) (atI (nth q 2)) (atI (nth q 3)))) (fun _ => F) (fun _ => I_wide_Add F) (fun _ => J_wide_Add F) (fun _ => hl_wide_Add F) (fun _ => hj_wide_Add F)
    (fun q => (congrArg (funL PP (S_wide_Add F) c_wide_Add (I_wide_Add F) (J_wide_Add F) 41) (show (fTs ti_wide_Add q).1 = (fTs ti_wide_Add [.i (atI (nth q 0)), .i (atI (nth q 1)), .i (atI (nth q 2)), .i (atI (nth q 3))]).1 by kernel_rfl)).trans (e_wide_Add F (atI (nth q 0)) (atI (nth q 1)) (atI (nth q 2)) (atI (nth q 3))))
    (fun _ h => okT_fill' h (by kernel_rfl))

end Go.Xv
set_option linter.unusedVariables false
namespace Go.Xv
/- 46 _wide_bare -/
def c_wide_bare : Cfg := ⟨[0, 2, 4], [], [], []⟩
def ti_wide_bare : List TV := [.v (.int .i64)]
def to_wide_bare : TV := .v (.int .u64)
def S_wide_bare (F : Nat) : FuncId → List VV → Option (Bool × VV) := words []
def W_wide_bare (F : Nat) : List LW := []
def I_wide_bare (F : Nat) : Nat → VS → (Exit → VS → R) → R := tabI c_wide_bare (W_wide_bare F)
def WJ_wide_bare (F : Nat) : List LJ := []
def J_wide_bare (F : Nat) : Nat → Nat → VS → (Exit → VS → R) → R := tabJ (WJ_wide_bare F)
def f_wide_bare (F : Nat) (a0 : Int) : R :=
  bif ((decide (a0 < 0))) then (
    some (.v (.int .u64 ((IntKind.wrap .u64 (0 - ((IntKind.wrap .u64 a0))))))))
  else (
    some (.v (.int .u64 ((IntKind.wrap .u64 a0)))))
theorem e_wide_bare (F : Nat) (a0 : Int) : funL PP (S_wide_bare F) c_wide_bare (I_wide_bare F) (J_wide_bare F) 46 (fTs ti_wide_bare [.i a0]).1 = f_wide_bare F a0 := by
  have h : ∀ (_ : Unit), funL PP (words []) c_wide_bare (tabI c_wide_bare []) (tabJ []) 46 (fTs ti_wide_bare [.i a0]).1 = (
  bif ((decide (a0 < 0))) then (
    some (.v (.int .u64 ((IntKind.wrap .u64 (0 - ((IntKind.wrap .u64 a0))))))))
  else (
    some (.v (.int .u64 ((IntKind.wrap .u64 a0))))) : R) := by
    intros
    kernel_rfl
  exact (h ()).trans (by kernel_rfl)
def ok_wide_bare (F : Nat) (a0 : Int) : Bool := okT to_wide_bare (f_wide_bare F a0)
def o_wide_bare_0 (F : Nat) (a0 : Int) : Int := atI (nth (outT to_wide_bare (f_wide_bare F a0)) 0)
theorem k_wide_bare (F : Nat) (a0 : Int) {z0 : Int} (h : f_wide_bare F a0 = some (.v (.int .u64 z0))) : ok_wide_bare F a0 = true ∧ o_wide_bare_0 F a0 = z0 := by
  refine ⟨?_, ?_⟩
  · unfold ok_wide_bare; rw [h]; kernel_rfl
  · unfold o_wide_bare_0; rw [h]; kernel_rfl
def s_wide_bare (F : Nat) : List VV → Option (Bool × VV) := spec ti_wide_bare to_wide_bare (fun q => (ok_wide_bare F (atI (nth q 0)))) (fun q => [.i (o_wide_bare_0 F (atI (nth q 0)))])
theorem hS_wide_bare (F : Nat) : ∀ f, Good PP f (unS (S_wide_bare F f)) := words_good fun p hp => by
  cases hp
theorem hl_wide_bare (F : Nat) : ∀ p ∈ loopsIn PP 46, LoopOK PP (S_wide_bare F) c_wide_bare F (I_wide_bare F) (J_wide_bare F) p :=
  loops_of [] (by kernel_rfl) all_nil
theorem hj_wide_bare (F : Nat) : ∀ p ∈ joinsIn PP c_wide_bare 46, JoinOK PP (S_wide_bare F) c_wide_bare (I_wide_bare F) (J_wide_bare F) p :=
  joins_of [] (by kernel_rfl) all_nil
theorem g_wide_bare (F : Nat) : Good PP 46 (unS (s_wide_bare F)) :=
  fun_spec (hS_wide_bare F) (by kernel_rfl) (by kernel_rfl) (C := c_wide_bare) (F := fun q => (f_wide_bare F (atI (nth q 0)))) (fun _ => F) (fun _ => I_wide_bare F) (fun _ => J_wide_bare F) (fun _ => hl_wide_bare F) (fun _ => hj_wide_bare F)
    (fun q => (congrArg (funL PP (S_wide_bare F) c_wide_bare (I_wide_bare F) (J_wide_bare F) 46) (show (fTs ti_wide_bare q).1 = (fTs ti_wide_bare [.i (atI (nth q 0))]).1 by kernel_rfl)).trans (e_wide_bare F (atI (nth q 0))))
    (fun _ h => okT_fill' h (by kernel_rfl))

end Go.Xv
set_option linter.unusedVariables false
namespace Go.Xv
/- 45 _wide_product -/
def c_wide_product : Cfg := ⟨[0, 1, 4, 5, 6, 7, 8, 9, 10], [], [], []⟩
def ti_wide_product : List TV := [.v (.int .u64), .v (.int .u64)]
def to_wide_product : TV := .v (.agg [.int .i64, .int .u64])
def S_wide_product (F : Nat) : FuncId → List VV → Option (Bool × VV) := words []
def W_wide_product (F : Nat) : List LW := []
def I_wide_product (F : Nat) : Nat → VS → (Exit → VS → R) → R := tabI c_wide_product (W_wide_product F)
def WJ_wide_product (F : Nat) : List LJ := []
def J_wide_product (F : Nat) : Nat → Nat → VS → (Exit → VS → R) → R := tabJ (WJ_wide_product F)
def f_wide_product (F : Nat) (a0 : Int) (a1 : Int) : R :=
  let v38 : Int := (Int.fdiv a0 (4294967296))
  let v39 : Int := (andI .u64 a0 4294967295)
  let v40 : Int := (Int.fdiv a1 (4294967296))
  let v41 : Int := (andI .u64 a1 4294967295)
  let v45 : Int := (IntKind.wrap .u64 (((IntKind.wrap .u64 (v38 * v41))) + ((Int.fdiv ((IntKind.wrap .u64 (v39 * v41))) (4294967296)))))
  let v48 : Int := (IntKind.wrap .u64 (((andI .u64 v45 4294967295)) + ((IntKind.wrap .u64 (v39 * v40)))))
  some (.v (.agg #[.int .i64 ((IntKind.wrap .i64 ((IntKind.wrap .u64 (((IntKind.wrap .u64 (((IntKind.wrap .u64 (v38 * v40))) + ((Int.fdiv v45 (4294967296)))))) + ((Int.fdiv v48 (4294967296)))))))), .int .u64 ((orI .u64 ((IntKind.wrap .u64 (v48 * 4294967296))) ((andI .u64 ((IntKind.wrap .u64 (v39 * v41))) 4294967295))))]))
theorem e_wide_product (F : Nat) (a0 : Int) (a1 : Int) : funL PP (S_wide_product F) c_wide_product (I_wide_product F) (J_wide_product F) 45 (fTs ti_wide_product [.i a0, .i a1]).1 = f_wide_product F a0 a1 := by
  have h : ∀ (_ : Unit), funL PP (words []) c_wide_product (tabI c_wide_product []) (tabJ []) 45 (fTs ti_wide_product [.i a0, .i a1]).1 = (
  let v38 : Int := (Int.fdiv a0 (4294967296))
  let v39 : Int := (andI .u64 a0 4294967295)
  let v40 : Int := (Int.fdiv a1 (4294967296))
  let v41 : Int := (andI .u64 a1 4294967295)
  let v45 : Int := (IntKind.wrap .u64 (((IntKind.wrap .u64 (v38 * v41))) + ((Int.fdiv ((IntKind.wrap .u64 (v39 * v41))) (4294967296)))))
  let v48 : Int := (IntKind.wrap .u64 (((andI .u64 v45 4294967295)) + ((IntKind.wrap .u64 (v39 * v40)))))
  some (.v (.agg #[.int .i64 ((IntKind.wrap .i64 ((IntKind.wrap .u64 (((IntKind.wrap .u64 (((IntKind.wrap .u64 (v38 * v40))) + ((Int.fdiv v45 (4294967296)))))) + ((Int.fdiv v48 (4294967296)))))))), .int .u64 ((orI .u64 ((IntKind.wrap .u64 (v48 * 4294967296))) ((andI .u64 ((IntKind.wrap .u64 (v39 * v41))) 4294967295))))])) : R) := by
    intros
    kernel_rfl
  exact (h ()).trans (by kernel_rfl)
def ok_wide_product (F : Nat) (a0 : Int) (a1 : Int) : Bool := okT to_wide_product (f_wide_product F a0 a1)
def o_wide_product_0 (F : Nat) (a0 : Int) (a1 : Int) : Int := atI (nth (outT to_wide_product (f_wide_product F a0 a1)) 0)
def o_wide_product_1 (F : Nat) (a0 : Int) (a1 : Int) : Int := atI (nth (outT to_wide_product (f_wide_product F a0 a1)) 1)
theorem k_wide_product (F : Nat) (a0 : Int) (a1 : Int) {z0 : Int} {z1 : Int} (h : f_wide_product F a0 a1 = some (.v (.agg #[.int .i64 z0, .int .u64 z1]))) : ok_wide_product F a0 a1 = true ∧ o_wide_product_0 F a0 a1 = z0 ∧ o_wide_product_1 F a0 a1 = z1 := by
  refine ⟨?_, ?_, ?_⟩
  · unfold ok_wide_product; rw [h]; kernel_rfl
  · unfold o_wide_product_0; rw [h]; kernel_rfl
  · unfold o_wide_product_1; rw [h]; kernel_rfl
def s_wide_product (F : Nat) : List VV → Option (Bool × VV) := spec ti_wide_product to_wide_product (fun q => (ok_wide_product F (atI (nth q 0)) (atI (nth q 1)))) (fun q => [.i (o_wide_product_0 F (atI (nth q 0)) (atI (nth q 1))), .i (o_wide_product_1 F (atI (nth q 0)) (atI (nth q 1)))])
theorem hS_wide_product (F : Nat) : ∀ f, Good PP f (unS (S_wide_product F f)) := words_good fun p hp => by
  cases hp
theorem hl_wide_product (F : Nat) : ∀ p ∈ loopsIn PP 45, LoopOK PP (S_wide_product F) c_wide_product F (I_wide_product F) (J_wide_product F) p :=
  loops_of [] (by kernel_rfl) all_nil
theorem hj_wide_product (F : Nat) : ∀ p ∈ joinsIn PP c_wide_product 45, JoinOK PP (S_wide_product F) c_wide_product (I_wide_product F) (J_wide_product F) p :=
  joins_of [] (by kernel_rfl) all_nil
theorem g_wide_product (F : Nat) : Good PP 45 (unS (s_wide_product F)) :=
  fun_spec (hS_wide_product F) (by kernel_rfl) (by kernel_rfl) (C := c_wide_product) (F := fun q => (f_wide_product F (atI (nth q 0)) (atI (nth q 1)))) (fun _ => F) (fun _ => I_wide_product F) (fun _ => J_wide_product F) (fun _ => hl_wide_product F) (fun _ => hj_wide_product F)
    (fun q => (congrArg (funL PP (S_wide_product F) c_wide_product (I_wide_product F) (J_wide_product F) 45) (show (fTs ti_wide_product q).1 = (fTs ti_wide_product [.i (atI (nth q 0)), .i (atI (nth q 1))]).1 by kernel_rfl)).trans (e_wide_product F (atI (nth q 0)) (atI (nth q 1))))
    (fun _ h => okT_fill' h (by kernel_rfl))

end Go.Xv
set_option linter.unusedVariables false
namespace Go.Xv
/- 42 _wide_Neg -/
def c_wide_Neg : Cfg := ⟨[0, 1, 2], [], [], []⟩
def ti_wide_Neg : List TV := [.v (.agg [.int .i64, .int .u64])]
def to_wide_Neg : TV := .v (.agg [.int .i64, .int .u64])
def S_wide_Neg (F : Nat) : FuncId → List VV → Option (Bool × VV) := words [(41, s_wide_Add F)]
def W_wide_Neg (F : Nat) : List LW := []
def I_wide_Neg (F : Nat) : Nat → VS → (Exit → VS → R) → R := tabI c_wide_Neg (W_wide_Neg F)
def WJ_wide_Neg (F : Nat) : List LJ := []
def J_wide_Neg (F : Nat) : Nat → Nat → VS → (Exit → VS → R) → R := tabJ (WJ_wide_Neg F)
def f_wide_Neg (F : Nat) (a0 : Int) (a1 : Int) : R :=
  let v64 : Int := (xorI .i64 (-1) a0)
  let v65 : Int := (xorI .u64 18446744073709551615 a1)
  bif (ok_wide_Add F v64 v65 0 1) then (
    some (.v (.agg #[.int .i64 ((o_wide_Add_0 F v64 v65 0 1)), .int .u64 ((o_wide_Add_1 F v64 v65 0 1))])))
  else (
    none)
theorem e_wide_Neg (F : Nat) (a0 : Int) (a1 : Int) : funL PP (S_wide_Neg F) c_wide_Neg (I_wide_Neg F) (J_wide_Neg F) 42 (fTs ti_wide_Neg [.i a0, .i a1]).1 = f_wide_Neg F a0 a1 := by
  have h : ∀ (ok_wide_Add : Nat → Int → Int → Int → Int → Bool) (o_wide_Add_0 : Nat → Int → Int → Int → Int → Int) (o_wide_Add_1 : Nat → Int → Int → Int → Int → Int), funL PP (words [(41, spec ti_wide_Add to_wide_Add (fun q => (ok_wide_Add F (atI (nth q 0)) (atI (nth q 1)) (atI (nth q 2)) (atI (nth q 3)))) (fun q => [.i (o_wide_Add_0 F (atI (nth q 0)) (atI (nth q 1)) (atI (nth q 2)) (atI (nth q 3))), .i (o_wide_Add_1 F (atI (nth q 0)) (atI (nth q 1)) (atI (nth q 2)) (atI (nth q 3)))]))]) c_wide_Neg (tabI c_wide_Neg []) (tabJ []) 42 (fTs ti_wide_Neg [.i a0, .i a1]).1 = (
  let v64 : Int := (xorI .i64 (-1) a0)
  let v65 : Int := (xorI .u64 18446744073709551615 a1)
  bif (ok_wide_Add F v64 v65 0 1) then (
    some (.v (.agg #[.int .i64 ((o_wide_Add_0 F v64 v65 0 1)), .int .u64 ((o_wide_Add_1 F v64 v65 0 1))])))
  else (
    none) : R) := by
    intros
    kernel_rfl
  exact (h ok_wide_Add o_wide_Add_0 o_wide_Add_1).trans (by kernel_rfl)
def ok_wide_Neg (F : Nat) (a0 : Int) (a1 : Int) : Bool := okT to_wide_Neg (f_wide_Neg F a0 a1)
def o_wide_Neg_0 (F : Nat) (a0 : Int) (a1 : Int) : Int := atI (nth (outT to_wide_Neg (f_wide_Neg F a0 a1)) 0)
def o_wide_Neg_1 (F : Nat) (a0 : Int) (a1 : Int) : Int := atI (nth (outT to_wide_Neg (f_wide_Neg F a0 a1)) 1)
theorem k_wide_Neg (F : Nat) (a0 : Int) (a1 : Int) {z0 : Int} {z1 : Int} (h : f_wide_Neg F a0 a1 = some (.v (.agg #[.int .i64 z0, .int .u64 z1]))) : ok_wide_Neg F a0 a1 = true ∧ o_wide_Neg_0 F a0 a1 = z0 ∧ o_wide_Neg_1 F a0 a1 = z1 := by
  refine ⟨?_, ?_, ?_⟩
  · unfold ok_wide_Neg; rw [h]; kernel_rfl
  · unfold o_wide_Neg_0; rw [h]; kernel_rfl
  · unfold o_wide_Neg_1; rw [h]; kernel_rfl
def s_wide_Neg (F : Nat) : List VV → Option (Bool × VV) := spec ti_wide_Neg to_wide_Neg (fun q => (ok_wide_Neg F (atI (nth q 0)) (atI (nth q 1)))) (fun q => [.i (o_wide_Neg_0 F (atI (nth q 0)) (atI (nth q 1))), .i (o_wide_Neg_1 F (atI (nth q 0)) (atI (nth q 1)))])
theorem hS_wide_Neg (F : Nat) : ∀ f, Good PP f (unS (S_wide_Neg F f)) := words_good fun p hp => by
  simp only [List.mem_cons, List.not_mem_nil, or_false] at hp
  rcases hp with rfl
  · exact g_wide_Add F
theorem hl_wide_Neg (F : Nat) : ∀ p ∈ loopsIn PP 42, LoopOK PP (S_wide_Neg F) c_wide_Neg F (I_wide_Neg F) (J_wide_Neg F) p :=
  loops_of [] (by kernel_rfl) all_nil
theorem hj_wide_Neg (F : Nat) : ∀ p ∈ joinsIn PP c_wide_Neg 42, JoinOK PP (S_wide_Neg F) c_wide_Neg (I_wide_Neg F) (J_wide_Neg F) p :=
  joins_of [] (by kernel_rfl) all_nil
theorem g_wide_Neg (F : Nat) : Good PP 42 (unS (s_wide_Neg F)) :=
  fun_spec (hS_wide_Neg F) (by kernel_rfl) (by kernel_rfl) (C := c_wide_Neg) (F := fun q => (f_wide_Neg F (atI (nth q 0)) (atI (nth q 1)))) (fun _ => F) (fun _ => I_wide_Neg F) (fun _ => J_wide_Neg F) (fun _ => hl_wide_Neg F) (fun _ => hj_wide_Neg F)
    (fun q => (congrArg (funL PP (S_wide_Neg F) c_wide_Neg (I_wide_Neg F) (J_wide_Neg F) 42) (show (fTs ti_wide_Neg q).1 = (fTs ti_wide_Neg [.i (atI (nth q 0)), .i (atI (nth q 1))]).1 by kernel_rfl)).trans (e_wide_Neg F (atI (nth q 0)) (atI (nth q 1))))
    (fun _ h => okT_fill' h (by kernel_rfl))

end Go.Xv
set_option linter.unusedVariables false
namespace Go.Xv
/- 34 _wide_Mul -/
def c_wide_Mul : Cfg := ⟨[0, 1, 4, 5, 15], [], [7, 9], []⟩
def ti_wide_Mul : List TV := [.v (.int .i64), .v (.int .i64)]
def to_wide_Mul : TV := .v (.agg [.int .i64, .int .u64])
def S_wide_Mul (F : Nat) : FuncId → List VV → Option (Bool × VV) := words [(46, s_wide_bare F), (45, s_wide_product F), (42, s_wide_Neg F)]
def W_wide_Mul (F : Nat) : List LW := []
def I_wide_Mul (F : Nat) : Nat → VS → (Exit → VS → R) → R := tabI c_wide_Mul (W_wide_Mul F)
def WJ_wide_Mul (F : Nat) : List LJ := []
def J_wide_Mul (F : Nat) : Nat → Nat → VS → (Exit → VS → R) → R := tabJ (WJ_wide_Mul F)
def f_wide_Mul (F : Nat) (a0 : Int) (a1 : Int) : R :=
  bif (ok_wide_bare F a0) then (
    let v36 : Int := (o_wide_bare_0 F a0)
    bif (ok_wide_bare F a1) then (
      let v37 : Int := (o_wide_bare_0 F a1)
      bif (ok_wide_product F v36 v37) then (
        let v59 : Int := (o_wide_product_0 F v36 v37)
        let v60 : Int := (o_wide_product_1 F v36 v37)
        bif ((!(((decide (a0 < 0))) == ((decide (a1 < 0)))))) then (
          bif (ok_wide_Neg F v59 v60) then (
            some (.v (.agg #[.int .i64 ((o_wide_Neg_0 F v59 v60)), .int .u64 ((o_wide_Neg_1 F v59 v60))])))
          else (
            none))
        else (
          some (.v (.agg #[.int .i64 v59, .int .u64 v60]))))
      else (
        none))
    else (
      none))
  else (
    none)
theorem e_wide_Mul (F : Nat) (a0 : Int) (a1 : Int) : funL PP (S_wide_Mul F) c_wide_Mul (I_wide_Mul F) (J_wide_Mul F) 34 (fTs ti_wide_Mul [.i a0, .i a1]).1 = f_wide_Mul F a0 a1 := by
  have h : ∀ (ok_wide_bare : Nat → Int → Bool) (o_wide_bare_0 : Nat → Int → Int) (ok_wide_product : Nat → Int → Int → Bool) (o_wide_product_0 : Nat → Int → Int → Int) (o_wide_product_1 : Nat → Int → Int → Int) (ok_wide_Neg : Nat → Int → Int → Bool) (o_wide_Neg_0 : Nat → Int → Int → Int) (o_wide_Neg_1 : Nat → Int → Int → Int), funL PP (words [(46, spec ti_wide_bare to_wide_bare (fun q => (ok_wide_bare F (atI (nth q 0)))) (fun q => [.i (o_wide_bare_0 F (atI (nth q 0)))])), (45, spec ti_wide_product to_wide_product (fun q => (ok_wide_product F (atI (nth q 0)) (atI (nth q 1)))) (fun q => [.i (o_wide_product_0 F (atI (nth q 0)) (atI (nth q 1))), .i (o_wide_product_1 F (atI (nth q 0)) (atI (nth q 1)))])), (42, spec ti_wide_Neg to_wide_Neg (fun q => (ok_wide_Neg F (atI (nth q 0)) (atI (nth q 1)))) (fun q => [.i (o_wide_Neg_0 F (atI (nth q 0)) (atI (nth q 1))), .i (o_wide_Neg_1 F (atI (nth q 0)) (atI (nth q 1)))]))]) c_wide_Mul (tabI c_wide_Mul []) (tabJ []) 34 (fTs ti_wide_Mul [.i a0, .i a1]).1 = (
  bif (ok_wide_bare F a0) then (
    let v36 : Int := (o_wide_bare_0 F a0)
    bif (ok_wide_bare F a1) then (
      let v37 : Int := (o_wide_bare_0 F a1)
      bif (ok_wide_product F v36 v37) then (
        let v59 : Int := (o_wide_product_0 F v36 v37)
        let v60 : Int := (o_wide_product_1 F v36 v37)
        bif ((!(((decide (a0 < 0))) == ((decide (a1 < 0)))))) then (
          bif (ok_wide_Neg F v59 v60) then (
            some (.v (.agg #[.int .i64 ((o_wide_Neg_0 F v59 v60)), .int .u64 ((o_wide_Neg_1 F v59 v60))])))
          else (
            none))
        else (
          some (.v (.agg #[.int .i64 v59, .int .u64 v60]))))
      else (
        none))
    else (
      none))
  else (
    none) : R) := by
    intros
    kernel_rfl
  exact (h ok_wide_bare o_wide_bare_0 ok_wide_product o_wide_product_0 o_wide_product_1 ok_wide_Neg o_wide_Neg_0 o_wide_Neg_1).trans (by kernel_rfl)
def ok_wide_Mul (F : Nat) (a0 : Int) (a1 : Int) : Bool := okT to_wide_Mul (f_wide_Mul F a0 a1)
def o_wide_Mul_0 (F : Nat) (a0 : Int) (a1 : Int) : Int := atI (nth (outT to_wide_Mul (f_wide_Mul F a0 a1)) 0)
def o_wide_Mul_1 (F : Nat) (a0 : Int) (a1 : Int) : Int := atI (nth (outT to_wide_Mul (f_wide_Mul F a0 a1)) 1)
theorem k_wide_Mul (F : Nat) (a0 : Int) (a1 : Int) {z0 : Int} {z1 : Int} (h : f_wide_Mul F a0 a1 = some (.v (.agg #[.int .i64 z0, .int .u64 z1]))) : ok_wide_Mul F a0 a1 = true ∧ o_wide_Mul_0 F a0 a1 = z0 ∧ o_wide_Mul_1 F a0 a1 = z1 := by
  refine ⟨?_, ?_, ?_⟩
  · unfold ok_wide_Mul; rw [h]; kernel_rfl
  · unfold o_wide_Mul_0; rw [h]; kernel_rfl
  · unfold o_wide_Mul_1; rw [h]; kernel_rfl
def s_wide_Mul (F : Nat) : List VV → Option (Bool × VV) := spec ti_wide_Mul to_wide_Mul (fun q => (ok_wide_Mul F (atI (nth q 0)) (atI (nth q 1)))) (fun q => [.i (o_wide_Mul_0 F (atI (nth q 0)) (atI (nth q 1))), .i (o_wide_Mul_1 F (atI (nth q 0)) (atI (nth q 1)))])
theorem hS_wide_Mul (F : Nat) : ∀ f, Good PP f (unS (S_wide_Mul F f)) := words_good fun p hp => by
  simp only [List.mem_cons, List.not_mem_nil, or_false] at hp
  rcases hp with rfl | rfl | rfl
  · exact g_wide_bare F
  · exact g_wide_product F
  · exact g_wide_Neg F
theorem hl_wide_Mul (F : Nat) : ∀ p ∈ loopsIn PP 34, LoopOK PP (S_wide_Mul F) c_wide_Mul F (I_wide_Mul F) (J_wide_Mul F) p :=
  loops_of [] (by kernel_rfl) all_nil
theorem hj_wide_Mul (F : Nat) : ∀ p ∈ joinsIn PP c_wide_Mul 34, JoinOK PP (S_wide_Mul F) c_wide_Mul (I_wide_Mul F) (J_wide_Mul F) p :=
  joins_of [] (by kernel_rfl) all_nil
theorem g_wide_Mul (F : Nat) : Good PP 34 (unS (s_wide_Mul F)) :=
  fun_spec (hS_wide_Mul F) (by kernel_rfl) (by kernel_rfl) (C := c_wide_Mul) (F := fun q => (f_wide_Mul F (atI (nth q 0)) (atI (nth q 1)))) (fun _ => F) (fun _ => I_wide_Mul F) (fun _ => J_wide_Mul F) (fun _ => hl_wide_Mul F) (fun _ => hj_wide_Mul F)
    (fun q => (congrArg (funL PP (S_wide_Mul F) c_wide_Mul (I_wide_Mul F) (J_wide_Mul F) 34) (show (fTs ti_wide_Mul q).1 = (fTs ti_wide_Mul [.i (atI (nth q 0)), .i (atI (nth q 1))]).1 by kernel_rfl)).trans (e_wide_Mul F (atI (nth q 0)) (atI (nth q 1))))
    (fun _ h => okT_fill' h (by kernel_rfl))

end Go.Xv
namespace Go.Xv
theorem bp {α : Type} {c : Bool} {a b x : α} (h : c = true) (h2 : a = x) : (bif c then a else b) = x := by rw [h]; exact h2
theorem bn {α : Type} {c : Bool} {a b x : α} (h : c = false) (h2 : b = x) : (bif c then a else b) = x := by rw [h]; exact h2
theorem dt {p : Prop} [Decidable p] (h : p) : decide p = true := decide_eq_true h
theorem df {p : Prop} [Decidable p] (h : ¬ p) : decide p = false := decide_eq_false h
theorem fdiv_pos (a : Int) {b : Int} (h : 0 ≤ b) : Int.fdiv a b = a / b := Int.fdiv_eq_ediv_of_nonneg a h
theorem some_int {k : IntKind} {a b : Int} (h : a = b) : (some (VV.v (.int k a)) : R) = some (.v (.int k b)) := by rw [h]
theorem some_wd {a b : Int} {z : Int} (h : a = hi z) (k : b = lo z) : (some (VV.v (.agg #[.int .i64 a, .int .u64 b])) : R) = some (wd z) := by rw [h, k]; rfl

theorem f_bare (F : Nat) {a : Int} (h : I64 a) : f_wide_bare F a = some (.v (.int .u64 (if a < 0 then -a else a))) := by
  unfold f_wide_bare
  unfold I64 at h
  by_cases h0 : a < 0
  · refine bp (dt h0) (some_int ?_)
    rw [if_pos h0, wu64, wu64]; omega
  · refine bn (df h0) (some_int ?_)
    rw [if_neg h0, wu64]; omega

theorem f_product (F : Nat) {a b : Int} (ha : U64 a) (hb : U64 b) : f_wide_product F a b = some (wd (a * b)) := by
  unfold f_wide_product
  unfold U64 at ha hb
  have ea : a = a / 4294967296 * 4294967296 + a % 4294967296 := by omega
  have eb : b = b / 4294967296 * 4294967296 + b % 4294967296 := by omega
  have hp : 0 ≤ a / 4294967296 ∧ a / 4294967296 ≤ 4294967295 := by omega
  have hq : 0 ≤ a % 4294967296 ∧ a % 4294967296 ≤ 4294967295 := by omega
  have hr : 0 ≤ b / 4294967296 ∧ b / 4294967296 ≤ 4294967295 := by omega
  have hs : 0 ≤ b % 4294967296 ∧ b % 4294967296 ≤ 4294967295 := by omega
  have hab : a * b = (a / 4294967296) * (b / 4294967296) * 18446744073709551616 + ((a / 4294967296) * (b % 4294967296) + (a % 4294967296) * (b / 4294967296)) * 4294967296 + (a % 4294967296) * (b % 4294967296) := by
    generalize a / 4294967296 = p at *
    generalize a % 4294967296 = q at *
    generalize b / 4294967296 = r at *
    generalize b % 4294967296 = s at *
    subst ea eb
    simp only [Int.add_mul, Int.mul_add]
    have : p * 4294967296 * (r * 4294967296) = p * r * 18446744073709551616 := by
      rw [show (18446744073709551616 : Int) = 4294967296 * 4294967296 by decide]
      simp only [Int.mul_comm, Int.mul_assoc, Int.mul_left_comm]
    have : p * 4294967296 * s = p * s * 4294967296 := by simp only [Int.mul_comm, Int.mul_assoc, Int.mul_left_comm]
    have : q * (r * 4294967296) = q * r * 4294967296 := by simp only [Int.mul_assoc]
    omega
  have bd : ∀ x y : Int, (0 ≤ x ∧ x ≤ 4294967295) → (0 ≤ y ∧ y ≤ 4294967295) → 0 ≤ x * y ∧ x * y ≤ 18446744065119617025 := by
    intro x y hx hy
    have h1 := Int.mul_nonneg hx.1 hy.1
    have h2 : x * y ≤ 4294967295 * 4294967295 := Int.mul_le_mul hx.2 hy.2 hy.1 (by decide)
    exact ⟨h1, by simpa using h2⟩
  have b1 := bd _ _ hp hr
  have b2 := bd _ _ hp hs
  have b3 := bd _ _ hq hr
  have b4 := bd _ _ hq hs
  have m1 : ∀ x, U64 x → andI .u64 x 4294967295 = x % 4294967296 := fun x hx => mask32_u64 hx
  simp only [fdiv_pos _ (show (0 : Int) ≤ 4294967296 by decide)]
  rw [m1 a ha, m1 b hb]
  rw [hab]
  clear hab ea eb
  generalize a / 4294967296 * (b / 4294967296) = pr at *
  generalize a / 4294967296 * (b % 4294967296) = ps at *
  generalize a % 4294967296 * (b / 4294967296) = qr at *
  generalize a % 4294967296 * (b % 4294967296) = qs at *
  rw [wu64_in (x := qs) (by unfold U64; omega), wu64_in (x := ps) (by unfold U64; omega), wu64_in (x := qr) (by unfold U64; omega), wu64_in (x := pr) (by unfold U64; omega)]
  rw [wu64_in (x := ps + qs / 4294967296) (by unfold U64; omega)]
  rw [m1 _ (show U64 (ps + qs / 4294967296) by unfold U64; omega), m1 qs (by unfold U64; omega)]
  rw [wu64_in (x := (ps + qs / 4294967296) % 4294967296 + qr) (by unfold U64; omega)]
  have e : IntKind.wrap .u64 (((ps + qs / 4294967296) % 4294967296 + qr) * 4294967296) = (((ps + qs / 4294967296) % 4294967296 + qr) % 4294967296) * (2 ^ 32 : Nat) := by
    rw [wu64]; omega
  rw [e, or_add_u64 32 (by omega) (by omega) (by omega) (by omega)]
  refine some_wd ?_ ?_
  · simp only [wu64, wi64]; unfold hi; omega
  · unfold lo; omega

theorem f_Add (F : Nat) {a b c d : Int} (hb : U64 b) (hd : U64 d) : f_wide_Add F a b c d = some (wd (val a b + val c d)) := by
  unfold f_wide_Add
  unfold U64 at hb hd
  simp only [wu64, wi64]
  by_cases h : (b + d) % 18446744073709551616 < b
  · refine bp (dt h) (some_wd ?_ ?_)
    · unfold hi val; omega
    · unfold lo val; omega
  · refine bn (df h) (some_wd ?_ ?_)
    · unfold hi val; omega
    · unfold lo val; omega

theorem f_Neg (F : Nat) {a b : Int} (ha : I64 a) (hb : U64 b) : f_wide_Neg F a b = some (wd (-val a b)) := by
  unfold f_wide_Neg
  rw [not_i64 ha, not_u64 hb]
  unfold U64 at hb
  obtain ⟨h1, h2, h3⟩ := k_wide_Add F _ _ _ _ (f_Add F (a := -1 - a) (b := 18446744073709551615 - b) (c := 0) (d := 1) (by unfold U64; omega) (by unfold U64; omega))
  refine bp h1 ?_
  rw [h2, h3]
  refine some_wd (hi_eqv ?_) (lo_eqv ?_)
  all_goals unfold Eqv val; omega

theorem f_Mul (F : Nat) {a b : Int} (ha : I64 a) (hb : I64 b) : f_wide_Mul F a b = some (wd (a * b)) := by
  unfold f_wide_Mul
  obtain ⟨h1, h2⟩ := k_wide_bare F a (f_bare F ha)
  obtain ⟨h3, h4⟩ := k_wide_bare F b (f_bare F hb)
  unfold I64 at ha hb
  refine bp h1 (bp h3 ?_)
  simp only [h2, h4]
  obtain ⟨p1, p2, p3⟩ := k_wide_product F _ _ (f_product F (a := if a < 0 then -a else a) (b := if b < 0 then -b else b) (by unfold U64; split <;> omega) (by unfold U64; split <;> omega))
  refine bp p1 ?_
  simp only [p2, p3]
  have neg : ∀ z : Int, (bif ok_wide_Neg F (hi z) (lo z) then (some (.v (.agg #[.int .i64 (o_wide_Neg_0 F (hi z) (lo z)), .int .u64 (o_wide_Neg_1 F (hi z) (lo z))])) : R) else none) = some (wd (-z)) := by
    intro z
    obtain ⟨n1, n2, n3⟩ := k_wide_Neg F _ _ (f_Neg F (hi_I z) (lo_U z))
    refine bp n1 ?_
    rw [n2, n3, val_hl]
    exact some_wd (hi_eqv (W_eqv z).neg) (lo_eqv (W_eqv z).neg)
  by_cases h0 : a < 0 <;> by_cases k0 : b < 0
  · simp only [h0, k0, decide_true, if_true, BEq.rfl, Bool.not_true, cond_false, Int.neg_mul_neg]; rfl
  · simp only [h0, k0, decide_true, decide_false, if_true, if_false]
    refine bp (by decide) ?_
    rw [neg, Int.neg_mul, Int.neg_neg]
  · simp only [h0, k0, decide_true, decide_false, if_true, if_false]
    refine bp (by decide) ?_
    rw [neg, Int.mul_neg, Int.neg_neg]
  · simp only [h0, k0, decide_false, if_false, BEq.rfl, Bool.not_true, cond_false]; rfl
end Go.Xv
set_option linter.unusedVariables false
namespace Go.Xv
/- 35 _wide_Less -/
def c_wide_Less : Cfg := ⟨[0, 1, 2, 3, 4, 9], [], [], []⟩
def ti_wide_Less : List TV := [.v (.agg [.int .i64, .int .u64]), .v (.agg [.int .i64, .int .u64])]
def to_wide_Less : TV := .v (.bool)
def S_wide_Less (F : Nat) : FuncId → List VV → Option (Bool × VV) := words []
def W_wide_Less (F : Nat) : List LW := []
def I_wide_Less (F : Nat) : Nat → VS → (Exit → VS → R) → R := tabI c_wide_Less (W_wide_Less F)
def WJ_wide_Less (F : Nat) : List LJ := []
def J_wide_Less (F : Nat) : Nat → Nat → VS → (Exit → VS → R) → R := tabJ (WJ_wide_Less F)
def f_wide_Less (F : Nat) (a0 : Int) (a1 : Int) (a2 : Int) (a3 : Int) : R :=
  bif ((a0 != a2)) then (
    some (.v (.bool ((decide (a0 < a2))))))
  else (
    some (.v (.bool ((decide (a1 < a3))))))
theorem e_wide_Less (F : Nat) (a0 : Int) (a1 : Int) (a2 : Int) (a3 : Int) : funL PP (S_wide_Less F) c_wide_Less (I_wide_Less F) (J_wide_Less F) 35 (fTs ti_wide_Less [.i a0, .i a1, .i a2, .i a3]).1 = f_wide_Less F a0 a1 a2 a3 := by
  have h : ∀ (_ : Unit), funL PP (words []) c_wide_Less (tabI c_wide_Less []) (tabJ []) 35 (fTs ti_wide_Less [.i a0, .i a1, .i a2, .i a3]).1 = (
  bif ((a0 != a2)) then (
    some (.v (.bool ((decide (a0 < a2))))))
  else (
    some (.v (.bool ((decide (a1 < a3)))))) : R) := by
    intros
    kernel_rfl
  exact (h ()).trans (by kernel_rfl)
def ok_wide_Less (F : Nat) (a0 : Int) (a1 : Int) (a2 : Int) (a3 : Int) : Bool := okT to_wide_Less (f_wide_Less F a0 a1 a2 a3)
def o_wide_Less_0 (F : Nat) (a0 : Int) (a1 : Int) (a2 : Int) (a3 : Int) : Bool := atB (nth (outT to_wide_Less (f_wide_Less F a0 a1 a2 a3)) 0)
theorem k_wide_Less (F : Nat) (a0 : Int) (a1 : Int) (a2 : Int) (a3 : Int) {z0 : Bool} (h : f_wide_Less F a0 a1 a2 a3 = some (.v (.bool z0))) : ok_wide_Less F a0 a1 a2 a3 = true ∧ o_wide_Less_0 F a0 a1 a2 a3 = z0 := by
  refine ⟨?_, ?_⟩
  · unfold ok_wide_Less; rw [h]; kernel_rfl
  · unfold o_wide_Less_0; rw [h]; kernel_rfl
def s_wide_Less (F : Nat) : List VV → Option (Bool × VV) := spec ti_wide_Less to_wide_Less (fun q => (ok_wide_Less F (atI (nth q 0)) (atI (nth q 1)) (atI (nth q 2)) (atI (nth q 3)))) (fun q => [.b (o_wide_Less_0 F (atI (nth q 0)) (atI (nth q 1)) (atI (nth q 2)) (atI (nth q 3)))])
theorem hS_wide_Less (F : Nat) : ∀ f, Good PP f (unS (S_wide_Less F f)) := words_good fun p hp => by
  cases hp
theorem hl_wide_Less (F : Nat) : ∀ p ∈ loopsIn PP 35, LoopOK PP (S_wide_Less F) c_wide_Less F (I_wide_Less F) (J_wide_Less F) p :=
  loops_of [] (by kernel_rfl) all_nil
theorem hj_wide_Less (F : Nat) : ∀ p ∈ joinsIn PP c_wide_Less 35, JoinOK PP (S_wide_Less F) c_wide_Less (I_wide_Less F) (J_wide_Less F) p :=
  joins_of [] (by kernel_rfl) all_nil
theorem g_wide_Less (F : Nat) : Good PP 35 (unS (s_wide_Less F)) :=
  fun_spec (hS_wide_Less F) (by kernel_rfl) (by kernel_rfl) (C := c_wide_Less) (F := fun q => (f_wide_Less F (atI (nth q 0)) (atI (nth q 1)) (atI (nth q 2)) (atI (nth q 3)))) (fun _ => F) (fun _ => I_wide_Less F) (fun _ => J_wide_Less F) (fun _ => hl_wide_Less F) (fun _ => hj_wide_Less F)
    (fun q => (congrArg (funL PP (S_wide_Less F) c_wide_Less (I_wide_Less F) (J_wide_Less F) 35) (show (fTs ti_wide_Less q).1 = (fTs ti_wide_Less [.i (atI (nth q 0)), .i (atI (nth q 1)), .i (atI (nth q 2)), .i (atI (nth q 3))]).1 by kernel_rfl)).trans (e_wide_Less F (atI (nth q 0)) (atI (nth q 1)) (atI (nth q 2)) (atI (nth q 3))))
    (fun _ h => okT_fill' h (by kernel_rfl))

end Go.Xv
set_option linter.unusedVariables false
namespace Go.Xv
/- 40 _wide_Of -/
def c_wide_Of : Cfg := ⟨[0, 2], [], [], []⟩
def ti_wide_Of : List TV := [.v (.int .i64)]
def to_wide_Of : TV := .v (.agg [.int .i64, .int .u64])
def S_wide_Of (F : Nat) : FuncId → List VV → Option (Bool × VV) := words []
def W_wide_Of (F : Nat) : List LW := []
def I_wide_Of (F : Nat) : Nat → VS → (Exit → VS → R) → R := tabI c_wide_Of (W_wide_Of F)
def WJ_wide_Of (F : Nat) : List LJ := []
def J_wide_Of (F : Nat) : Nat → Nat → VS → (Exit → VS → R) → R := tabJ (WJ_wide_Of F)
def f_wide_Of (F : Nat) (a0 : Int) : R :=
  some (.v (.agg #[.int .i64 ((Int.fdiv a0 (9223372036854775808))), .int .u64 ((IntKind.wrap .u64 a0))]))
theorem e_wide_Of (F : Nat) (a0 : Int) : funL PP (S_wide_Of F) c_wide_Of (I_wide_Of F) (J_wide_Of F) 40 (fTs ti_wide_Of [.i a0]).1 = f_wide_Of F a0 := by
  have h : ∀ (_ : Unit), funL PP (words []) c_wide_Of (tabI c_wide_Of []) (tabJ []) 40 (fTs ti_wide_Of [.i a0]).1 = (
  some (.v (.agg #[.int .i64 ((Int.fdiv a0 (9223372036854775808))), .int .u64 ((IntKind.wrap .u64 a0))])) : R) := by
    intros
    kernel_rfl
  exact (h ()).trans (by kernel_rfl)
def ok_wide_Of (F : Nat) (a0 : Int) : Bool := okT to_wide_Of (f_wide_Of F a0)
def o_wide_Of_0 (F : Nat) (a0 : Int) : Int := atI (nth (outT to_wide_Of (f_wide_Of F a0)) 0)
def o_wide_Of_1 (F : Nat) (a0 : Int) : Int := atI (nth (outT to_wide_Of (f_wide_Of F a0)) 1)
theorem k_wide_Of (F : Nat) (a0 : Int) {z0 : Int} {z1 : Int} (h : f_wide_Of F a0 = some (.v (.agg #[.int .i64 z0, .int .u64 z1]))) : ok_wide_Of F a0 = true ∧ o_wide_Of_0 F a0 = z0 ∧ o_wide_Of_1 F a0 = z1 := by
  refine ⟨?_, ?_, ?_⟩
  · unfold ok_wide_Of; rw [h]; kernel_rfl
  · unfold o_wide_Of_0; rw [h]; kernel_rfl
  · unfold o_wide_Of_1; rw [h]; kernel_rfl
def s_wide_Of (F : Nat) : List VV → Option (Bool × VV) := spec ti_wide_Of to_wide_Of (fun q => (ok_wide_Of F (atI (nth q 0)))) (fun q => [.i (o_wide_Of_0 F (atI (nth q 0))), .i (o_wide_Of_1 F (atI (nth q 0)))])
theorem hS_wide_Of (F : Nat) : ∀ f, Good PP f (unS (S_wide_Of F f)) := words_good fun p hp => by
  cases hp
theorem hl_wide_Of (F : Nat) : ∀ p ∈ loopsIn PP 40, LoopOK PP (S_wide_Of F) c_wide_Of F (I_wide_Of F) (J_wide_Of F) p :=
  loops_of [] (by kernel_rfl) all_nil
theorem hj_wide_Of (F : Nat) : ∀ p ∈ joinsIn PP c_wide_Of 40, JoinOK PP (S_wide_Of F) c_wide_Of (I_wide_Of F) (J_wide_Of F) p :=
  joins_of [] (by kernel_rfl) all_nil
theorem g_wide_Of (F : Nat) : Good PP 40 (unS (s_wide_Of F)) :=
  fun_spec (hS_wide_Of F) (by kernel_rfl) (by kernel_rfl) (C := c_wide_Of) (F := fun q => (f_wide_Of F (atI (nth q 0)))) (fun _ => F) (fun _ => I_wide_Of F) (fun _ => J_wide_Of F) (fun _ => hl_wide_Of F) (fun _ => hj_wide_Of F)
    (fun q => (congrArg (funL PP (S_wide_Of F) c_wide_Of (I_wide_Of F) (J_wide_Of F) 40) (show (fTs ti_wide_Of q).1 = (fTs ti_wide_Of [.i (atI (nth q 0))]).1 by kernel_rfl)).trans (e_wide_Of F (atI (nth q 0))))
    (fun _ h => okT_fill' h (by kernel_rfl))

end Go.Xv
namespace Go.Xv
theorem some_bool {a b : Bool} (h : a = b) : (some (VV.v (.bool a)) : R) = some (.v (.bool b)) := by rw [h]
theorem f_Of (F : Nat) {n : Int} (h : I64 n) : f_wide_Of F n = some (wd n) := by
  unfold f_wide_Of
  unfold I64 at h
  refine some_wd ?_ ?_
  · rw [fdiv_pos _ (by decide)]; unfold hi; omega
  · rw [wu64]; rfl
/-- over a power of two, to the nearest one -/
def near (z : Int) (m : Nat) : Int := if m = 0 then z else z / 2 ^ m + z / 2 ^ (m - 1) % 2
theorem f_Less (F : Nat) {a b c d : Int} (hb : U64 b) (hd : U64 d) : f_wide_Less F a b c d = some (.v (.bool (decide (val a b < val c d)))) := by
  unfold f_wide_Less val
  unfold U64 at hb hd
  by_cases h : a = c
  · refine bn (by simp [h]) (some_bool ?_)
    rw [decide_eq_decide]; omega
  · refine bp (by simp [h]) (some_bool ?_)
    rw [decide_eq_decide]; omega
end Go.Xv
namespace Go.Xv
/-- one bit of a number -/
def dg (z : Int) (i : Nat) : Int := z / 2 ^ i % 2
def ds (z : Int) (n : Nat) : List VV := (List.range n).map fun i => .v (.int .i64 (dg z i))
end Go.Xv
namespace Go.Xv
theorem a_Add (F : Nat) (x y : Int) : ok_wide_Add F (hi x) (lo x) (hi y) (lo y) = true ∧ o_wide_Add_0 F (hi x) (lo x) (hi y) (lo y) = hi (x + y) ∧ o_wide_Add_1 F (hi x) (lo x) (hi y) (lo y) = lo (x + y) := by
  obtain ⟨h1, h2, h3⟩ := k_wide_Add F _ _ _ _ (f_Add F (a := hi x) (c := hi y) (lo_U x) (lo_U y))
  rw [h2, h3, val_hl, val_hl]
  have e := (W_eqv x).add (W_eqv y)
  exact ⟨h1, hi_eqv e, lo_eqv e⟩
theorem a_Neg (F : Nat) (x : Int) : ok_wide_Neg F (hi x) (lo x) = true ∧ o_wide_Neg_0 F (hi x) (lo x) = hi (-x) ∧ o_wide_Neg_1 F (hi x) (lo x) = lo (-x) := by
  obtain ⟨h1, h2, h3⟩ := k_wide_Neg F _ _ (f_Neg F (hi_I x) (lo_U x))
  rw [h2, h3, val_hl]
  exact ⟨h1, hi_eqv (W_eqv x).neg, lo_eqv (W_eqv x).neg⟩
theorem a_Of (F : Nat) {n : Int} (h : I64 n) : ok_wide_Of F n = true ∧ o_wide_Of_0 F n = hi n ∧ o_wide_Of_1 F n = lo n := k_wide_Of F _ (f_Of F h)
theorem a_Mul (F : Nat) {a b : Int} (ha : I64 a) (hb : I64 b) : ok_wide_Mul F a b = true ∧ o_wide_Mul_0 F a b = hi (a * b) ∧ o_wide_Mul_1 F a b = lo (a * b) := k_wide_Mul F _ _ (f_Mul F ha hb)
theorem I64_W {b : Int} (h : I64 b) : W128 b := by unfold I64 at h; unfold W128; omega
end Go.Xv
namespace Go.Xv
theorem a_Less (F : Nat) {x y : Int} (hx : W128 x) (hy : W128 y) : ok_wide_Less F (hi x) (lo x) (hi y) (lo y) = true ∧ o_wide_Less_0 F (hi x) (lo x) (hi y) (lo y) = decide (x < y) := by
  have := k_wide_Less F _ _ _ _ (f_Less F (a := hi x) (c := hi y) (lo_U x) (lo_U y))
  rw [val_hl, val_hl, W_in hx, W_in hy] at this
  exact this
end Go.Xv
set_option linter.unusedVariables false
namespace Go.Xv
/- 22 _fence_side -/
def c_fence_side : Cfg := ⟨[0, 1, 2, 3, 4, 5, 6, 7, 8, 31, 35], [], [], []⟩
def ti_fence_side : List TV := [.v (.agg [.int .i64, .int .i64]), .v (.agg [.int .i64, .int .i64]), .v (.agg [.int .i64, .int .i64])]
def to_fence_side : TV := .v (.int .i64)
def S_fence_side (F : Nat) : FuncId → List VV → Option (Bool × VV) := words [(34, s_wide_Mul F), (35, s_wide_Less F)]
def W_fence_side (F : Nat) : List LW := []
def I_fence_side (F : Nat) : Nat → VS → (Exit → VS → R) → R := tabI c_fence_side (W_fence_side F)
def WJ_fence_side (F : Nat) : List LJ := []
def J_fence_side (F : Nat) : Nat → Nat → VS → (Exit → VS → R) → R := tabJ (WJ_fence_side F)
def f_fence_side (F : Nat) (a0 : Int) (a1 : Int) (a2 : Int) (a3 : Int) (a4 : Int) (a5 : Int) : R :=
  let v30 : Int := (IntKind.wrap .i64 (a2 - a0))
  let v31 : Int := (IntKind.wrap .i64 (a5 - a1))
  bif (ok_wide_Mul F v30 v31) then (
    let v78 : Int := (o_wide_Mul_0 F v30 v31)
    let v79 : Int := (o_wide_Mul_1 F v30 v31)
    let v80 : Int := (IntKind.wrap .i64 (a3 - a1))
    let v81 : Int := (IntKind.wrap .i64 (a4 - a0))
    bif (ok_wide_Mul F v80 v81) then (
      let v82 : Int := (o_wide_Mul_0 F v80 v81)
      let v83 : Int := (o_wide_Mul_1 F v80 v81)
      bif (((v78 == v82) && (v79 == v83))) then (
        some (.v (.int .i64 0)))
      else (
        bif (ok_wide_Less F v78 v79 v82 v83) then (
          bif ((o_wide_Less_0 F v78 v79 v82 v83)) then (
            some (.v (.int .i64 (-1))))
          else (
            some (.v (.int .i64 1))))
        else (
          none)))
    else (
      none))
  else (
    none)
theorem e_fence_side (F : Nat) (a0 : Int) (a1 : Int) (a2 : Int) (a3 : Int) (a4 : Int) (a5 : Int) : funL PP (S_fence_side F) c_fence_side (I_fence_side F) (J_fence_side F) 22 (fTs ti_fence_side [.i a0, .i a1, .i a2, .i a3, .i a4, .i a5]).1 = f_fence_side F a0 a1 a2 a3 a4 a5 := by
  have h : ∀ (ok_wide_Mul : Nat → Int → Int → Bool) (o_wide_Mul_0 : Nat → Int → Int → Int) (o_wide_Mul_1 : Nat → Int → Int → Int) (ok_wide_Less : Nat → Int → Int → Int → Int → Bool) (o_wide_Less_0 : Nat → Int → Int → Int → Int → Bool), funL PP (words [(34, spec ti_wide_Mul to_wide_Mul (fun q => (ok_wide_Mul F (atI (nth q 0)) (atI (nth q 1)))) (fun q => [.i (o_wide_Mul_0 F (atI (nth q 0)) (atI (nth q 1))), .i (o_wide_Mul_1 F (atI (nth q 0)) (atI (nth q 1)))])), (35, spec ti_wide_Less to_wide_Less (fun q => (ok_wide_Less F (atI (nth q 0)) (atI (nth q 1)) (atI (nth q 2)) (atI (nth q 3)))) (fun q => [.b (o_wide_Less_0 F (atI (nth q 0)) (atI (nth q 1)) (atI (nth q 2)) (atI (nth q 3)))]))]) c_fence_side (tabI c_fence_side []) (tabJ []) 22 (fTs ti_fence_side [.i a0, .i a1, .i a2, .i a3, .i a4, .i a5]).1 = (
  let v30 : Int := (IntKind.wrap .i64 (a2 - a0))
  let v31 : Int := (IntKind.wrap .i64 (a5 - a1))
  bif (ok_wide_Mul F v30 v31) then (
    let v78 : Int := (o_wide_Mul_0 F v30 v31)
    let v79 : Int := (o_wide_Mul_1 F v30 v31)
    let v80 : Int := (IntKind.wrap .i64 (a3 - a1))
    let v81 : Int := (IntKind.wrap .i64 (a4 - a0))
    bif (ok_wide_Mul F v80 v81) then (
      let v82 : Int := (o_wide_Mul_0 F v80 v81)
      let v83 : Int := (o_wide_Mul_1 F v80 v81)
      bif (((v78 == v82) && (v79 == v83))) then (
        some (.v (.int .i64 0)))
      else (
        bif (ok_wide_Less F v78 v79 v82 v83) then (
          bif ((o_wide_Less_0 F v78 v79 v82 v83)) then (
            some (.v (.int .i64 (-1))))
          else (
            some (.v (.int .i64 1))))
        else (
          none)))
    else (
      none))
  else (
    none) : R) := by
    intros
    kernel_rfl
  exact (h ok_wide_Mul o_wide_Mul_0 o_wide_Mul_1 ok_wide_Less o_wide_Less_0).trans (by kernel_rfl)
def ok_fence_side (F : Nat) (a0 : Int) (a1 : Int) (a2 : Int) (a3 : Int) (a4 : Int) (a5 : Int) : Bool := okT to_fence_side (f_fence_side F a0 a1 a2 a3 a4 a5)
def o_fence_side_0 (F : Nat) (a0 : Int) (a1 : Int) (a2 : Int) (a3 : Int) (a4 : Int) (a5 : Int) : Int := atI (nth (outT to_fence_side (f_fence_side F a0 a1 a2 a3 a4 a5)) 0)
theorem k_fence_side (F : Nat) (a0 : Int) (a1 : Int) (a2 : Int) (a3 : Int) (a4 : Int) (a5 : Int) {z0 : Int} (h : f_fence_side F a0 a1 a2 a3 a4 a5 = some (.v (.int .i64 z0))) : ok_fence_side F a0 a1 a2 a3 a4 a5 = true ∧ o_fence_side_0 F a0 a1 a2 a3 a4 a5 = z0 := by
  refine ⟨?_, ?_⟩
  · unfold ok_fence_side; rw [h]; kernel_rfl
  · unfold o_fence_side_0; rw [h]; kernel_rfl
def s_fence_side (F : Nat) : List VV → Option (Bool × VV) := spec ti_fence_side to_fence_side (fun q => (ok_fence_side F (atI (nth q 0)) (atI (nth q 1)) (atI (nth q 2)) (atI (nth q 3)) (atI (nth q 4)) (atI (nth q 5)))) (fun q => [.i (o_fence_side_0 F (atI (nth q 0)) (atI (nth q 1)) (atI (nth q 2)) (atI (nth q 3)) (atI (nth q 4)) (atI (nth q 5)))])
theorem hS_fence_side (F : Nat) : ∀ f, Good PP f (unS (S_fence_side F f)) := words_good fun p hp => by
  simp only [List.mem_cons, List.not_mem_nil, or_false] at hp
  rcases hp with rfl | rfl
  · exact g_wide_Mul F
  · exact g_wide_Less F
theorem hl_fence_side (F : Nat) : ∀ p ∈ loopsIn PP 22, LoopOK PP (S_fence_side F) c_fence_side F (I_fence_side F) (J_fence_side F) p :=
  loops_of [] (by kernel_rfl) all_nil
theorem hj_fence_side (F : Nat) : ∀ p ∈ joinsIn PP c_fence_side 22, JoinOK PP (S_fence_side F) c_fence_side (I_fence_side F) (J_fence_side F) p :=
  joins_of [] (by kernel_rfl) all_nil
theorem g_fence_side (F : Nat) : Good PP 22 (unS (s_fence_side F)) :=
  fun_spec (hS_fence_side F) (by kernel_rfl) (by kernel_rfl) (C := c_fence_side) (F := fun q => (f_fence_side F (atI (nth q 0)) (atI (nth q 1)) (atI (nth q 2)) (atI (nth q 3)) (atI (nth q 4)) (atI (nth q 5)))) (fun _ => F) (fun _ => I_fence_side F) (fun _ => J_fence_side F) (fun _ => hl_fence_side F) (fun _ => hj_fence_side F)
    (fun q => (congrArg (funL PP (S_fence_side F) c_fence_side (I_fence_side F) (J_fence_side F) 22) (show (fTs ti_fence_side q).1 = (fTs ti_fence_side [.i (atI (nth q 0)), .i (atI (nth q 1)), .i (atI (nth q 2)), .i (atI (nth q 3)), .i (atI (nth q 4)), .i (atI (nth q 5))]).1 by kernel_rfl)).trans (e_fence_side F (atI (nth q 0)) (atI (nth q 1)) (atI (nth q 2)) (atI (nth q 3)) (atI (nth q 4)) (atI (nth q 5))))
    (fun _ h => okT_fill' h (by kernel_rfl))

end Go.Xv
set_option linter.unusedVariables false
namespace Go.Xv
/- 33 _fence_Point_right -/
def c_fence_Point_right : Cfg := ⟨[0, 1, 2, 4, 5, 6, 7, 14], [(0, [0, 1, 2, 5, 6])], [], []⟩
def ti_fence_Point_right : List TV := [.v (.agg [.int .i64, .int .i64])]
def to_fence_Point_right : TV := .v (.bool)
def S_fence_Point_right (F : Nat) : FuncId → List VV → Option (Bool × VV) := words []
def T_fence_Point_right_0 : TS := ⟨[(0, .v (.agg [.int .i64, .int .i64])), (1, .lp 0 (.lit 0)), (2, .v (.bool)), (5, .v (.agg [.int .i64, .int .i64])), (6, .v (.int .i64))], [(0, ⟨(.ex [.v (.int .i64), .v (.int .i64)]), true⟩)], 1⟩
def T_fence_Point_right_0_0 : TS := ⟨[(0, .v (.agg [.int .i64, .int .i64])), (1, .lp 0 (.lit 0)), (2, .v (.bool)), (4, .v (.int .i64)), (5, .v (.agg [.int .i64, .int .i64])), (6, .v (.int .i64))], [(0, ⟨(.ex [.v (.int .i64), .v (.int .i64)]), true⟩)], 1⟩
def T_fence_Point_right_0_1 : TS := ⟨[(0, .v (.agg [.int .i64, .int .i64])), (1, .lp 0 (.lit 0)), (2, .v (.bool)), (5, .v (.agg [.int .i64, .int .i64])), (6, .v (.int .i64))], [(0, ⟨(.ex [.v (.int .i64), .v (.int .i64)]), true⟩)], 1⟩
def B_fence_Point_right_0 (F : Nat) (rc : Int → Int → Bool → Int → Int → Int → Int → Int → R) (ex0 : Int → Int → Bool → Int → Int → Int → Int → Int → Int → R) (ex1 : Int → Int → Bool → Int → Int → Int → Int → Int → R) (x0 : Int) (x1 : Int) (x2 : Bool) (x3 : Int) (x4 : Int) (x5 : Int) (x6 : Int) (x7 : Int) : R :=
  bif ((decide (x5 < 2))) then (
    bif (((decide (0 ≤ x5)) && (decide (x5 < 2))) && ((isI .i64 [.v (.int .i64 x3), .v (.int .i64 x4)][((Int.toNat x5) * 1)]?) && true)) then (
      let v9 : Int := (iv [.v (.int .i64 x3), .v (.int .i64 x4)][((Int.toNat x5) * 1)]?)
      bif ((decide (v9 < (-2305843009213693952)))) then (
        ex0 x0 x1 false v9 x3 x4 x5 x6 x7)
      else (
        bif ((decide (v9 > 2305843009213693952))) then (
          ex0 x0 x1 false v9 x3 x4 x5 x6 x7)
        else (
          rc x0 x1 x2 x3 x4 ((IntKind.wrap .i64 (x5 + 1))) x6 x7)))
    else (
      none))
  else (
    ex1 x0 x1 x2 x3 x4 x5 x6 x7)
def L_fence_Point_right_0 (F : Nat) (ex0 : Int → Int → Bool → Int → Int → Int → Int → Int → Int → R) (ex1 : Int → Int → Bool → Int → Int → Int → Int → Int → R) : Nat → Int → Int → Bool → Int → Int → Int → Int → Int → R
  | 0, _, _, _, _, _, _, _, _ => none
  | n + 1, x0, x1, x2, x3, x4, x5, x6, x7 => B_fence_Point_right_0 F (L_fence_Point_right_0 F ex0 ex1 n) ex0 ex1 x0 x1 x2 x3 x4 x5 x6 x7
def W_fence_Point_right (F : Nat) : List LW := [⟨0, T_fence_Point_right_0, fun k q => L_fence_Point_right_0 F (fun (z0 : Int) (z1 : Int) (z2 : Bool) (z3 : Int) (z4 : Int) (z5 : Int) (z6 : Int) (z7 : Int) (z8 : Int) => k .ret (fS T_fence_Point_right_0_0 [.i z0, .i z1, .b z2, .i z3, .i z4, .i z5, .i z6, .i z7, .i z8])) (fun (z0 : Int) (z1 : Int) (z2 : Bool) (z3 : Int) (z4 : Int) (z5 : Int) (z6 : Int) (z7 : Int) => k (.exit 0) (fS T_fence_Point_right_0_1 [.i z0, .i z1, .b z2, .i z3, .i z4, .i z5, .i z6, .i z7])) F (atI (nth q 0)) (atI (nth q 1)) (atB (nth q 2)) (atI (nth q 3)) (atI (nth q 4)) (atI (nth q 5)) (atI (nth q 6)) (atI (nth q 7))⟩]
def I_fence_Point_right (F : Nat) : Nat → VS → (Exit → VS → R) → R := tabI c_fence_Point_right (W_fence_Point_right F)
def WJ_fence_Point_right (F : Nat) : List LJ := []
def J_fence_Point_right (F : Nat) : Nat → Nat → VS → (Exit → VS → R) → R := tabJ (WJ_fence_Point_right F)
theorem lL_fence_Point_right_0 (F : Nat) (k : Exit → VS → R) : ∀ (n : Nat) (x0 : Int) (x1 : Int) (x2 : Bool) (x3 : Int) (x4 : Int) (x5 : Int) (x6 : Int) (x7 : Int), iterC (codeL PP (S_fence_Point_right F) c_fence_Point_right (I_fence_Point_right F) (J_fence_Point_right F) (loopAt PP 33 0) 0) (headOf c_fence_Point_right 0) k n (fS T_fence_Point_right_0 [.i x0, .i x1, .b x2, .i x3, .i x4, .i x5, .i x6, .i x7]) = L_fence_Point_right_0 F (fun (z0 : Int) (z1 : Int) (z2 : Bool) (z3 : Int) (z4 : Int) (z5 : Int) (z6 : Int) (z7 : Int) (z8 : Int) => k .ret (fS T_fence_Point_right_0_0 [.i z0, .i z1, .b z2, .i z3, .i z4, .i z5, .i z6, .i z7, .i z8])) (fun (z0 : Int) (z1 : Int) (z2 : Bool) (z3 : Int) (z4 : Int) (z5 : Int) (z6 : Int) (z7 : Int) => k (.exit 0) (fS T_fence_Point_right_0_1 [.i z0, .i z1, .b z2, .i z3, .i z4, .i z5, .i z6, .i z7])) n x0 x1 x2 x3 x4 x5 x6 x7
  | 0, _, _, _, _, _, _, _, _ => rfl
  | n + 1, x0, x1, x2, x3, x4, x5, x6, x7 => by
    have h0 : ∀ (L_fence_Point_right_0 : Nat → (Int → Int → Bool → Int → Int → Int → Int → Int → Int → R) → (Int → Int → Bool → Int → Int → Int → Int → Int → R) → Nat → Int → Int → Bool → Int → Int → Int → Int → Int → R), iterC (codeL PP (words []) c_fence_Point_right (tabI c_fence_Point_right [⟨0, T_fence_Point_right_0, fun k q => L_fence_Point_right_0 F (fun (z0 : Int) (z1 : Int) (z2 : Bool) (z3 : Int) (z4 : Int) (z5 : Int) (z6 : Int) (z7 : Int) (z8 : Int) => k .ret (fS T_fence_Point_right_0_0 [.i z0, .i z1, .b z2, .i z3, .i z4, .i z5, .i z6, .i z7, .i z8])) (fun (z0 : Int) (z1 : Int) (z2 : Bool) (z3 : Int) (z4 : Int) (z5 : Int) (z6 : Int) (z7 : Int) => k (.exit 0) (fS T_fence_Point_right_0_1 [.i z0, .i z1, .b z2, .i z3, .i z4, .i z5, .i z6, .i z7])) F (atI (nth q 0)) (atI (nth q 1)) (atB (nth q 2)) (atI (nth q 3)) (atI (nth q 4)) (atI (nth q 5)) (atI (nth q 6)) (atI (nth q 7))⟩]) (tabJ []) (loopAt PP 33 0) 0) (headOf c_fence_Point_right 0) k (n + 1) (fS T_fence_Point_right_0 [.i x0, .i x1, .b x2, .i x3, .i x4, .i x5, .i x6, .i x7]) = (fun (rc : Int → Int → Bool → Int → Int → Int → Int → Int → R) (ex0 : Int → Int → Bool → Int → Int → Int → Int → Int → Int → R) (ex1 : Int → Int → Bool → Int → Int → Int → Int → Int → R) (x0 : Int) (x1 : Int) (x2 : Bool) (x3 : Int) (x4 : Int) (x5 : Int) (x6 : Int) (x7 : Int) => (
  bif ((decide (x5 < 2))) then (
    bif (((decide (0 ≤ x5)) && (decide (x5 < 2))) && ((isI .i64 [.v (.int .i64 x3), .v (.int .i64 x4)][((Int.toNat x5) * 1)]?) && true)) then (
      let v9 : Int := (iv [.v (.int .i64 x3), .v (.int .i64 x4)][((Int.toNat x5) * 1)]?)
      bif ((decide (v9 < (-2305843009213693952)))) then (
        ex0 x0 x1 false v9 x3 x4 x5 x6 x7)
      else (
        bif ((decide (v9 > 2305843009213693952))) then (
          ex0 x0 x1 false v9 x3 x4 x5 x6 x7)
        else (
          rc x0 x1 x2 x3 x4 ((IntKind.wrap .i64 (x5 + 1))) x6 x7)))
    else (
      none))
  else (
    ex1 x0 x1 x2 x3 x4 x5 x6 x7) : R)) (fun (y0 : Int) (y1 : Int) (y2 : Bool) (y3 : Int) (y4 : Int) (y5 : Int) (y6 : Int) (y7 : Int) => iterC (codeL PP (words []) c_fence_Point_right (tabI c_fence_Point_right [⟨0, T_fence_Point_right_0, fun k q => L_fence_Point_right_0 F (fun (z0 : Int) (z1 : Int) (z2 : Bool) (z3 : Int) (z4 : Int) (z5 : Int) (z6 : Int) (z7 : Int) (z8 : Int) => k .ret (fS T_fence_Point_right_0_0 [.i z0, .i z1, .b z2, .i z3, .i z4, .i z5, .i z6, .i z7, .i z8])) (fun (z0 : Int) (z1 : Int) (z2 : Bool) (z3 : Int) (z4 : Int) (z5 : Int) (z6 : Int) (z7 : Int) => k (.exit 0) (fS T_fence_Point_right_0_1 [.i z0, .i z1, .b z2, .i z3, .i z4, .i z5, .i z6, .i z7])) F (atI (nth q 0)) (atI (nth q 1)) (atB (nth q 2)) (atI (nth q 3)) (atI (nth q 4)) (atI (nth q 5)) (atI (nth q 6)) (atI (nth q 7))⟩]) (tabJ []) (loopAt PP 33 0) 0) (headOf c_fence_Point_right 0) k n (fS T_fence_Point_right_0 [.i y0, .i y1, .b y2, .i y3, .i y4, .i y5, .i y6, .i y7])) (fun (z0 : Int) (z1 : Int) (z2 : Bool) (z3 : Int) (z4 : Int) (z5 : Int) (z6 : Int) (z7 : Int) (z8 : Int) => k .ret (fS T_fence_Point_right_0_0 [.i z0, .i z1, .b z2, .i z3, .i z4, .i z5, .i z6, .i z7, .i z8])) (fun (z0 : Int) (z1 : Int) (z2 : Bool) (z3 : Int) (z4 : Int) (z5 : Int) (z6 : Int) (z7 : Int) => k (.exit 0) (fS T_fence_Point_right_0_1 [.i z0, .i z1, .b z2, .i z3, .i z4, .i z5, .i z6, .i z7])) x0 x1 x2 x3 x4 x5 x6 x7 := by
      intros
      kernel_rfl
    have h : iterC (codeL PP (S_fence_Point_right F) c_fence_Point_right (I_fence_Point_right F) (J_fence_Point_right F) (loopAt PP 33 0) 0) (headOf c_fence_Point_right 0) k (n + 1) (fS T_fence_Point_right_0 [.i x0, .i x1, .b x2, .i x3, .i x4, .i x5, .i x6, .i x7]) = B_fence_Point_right_0 F (fun (y0 : Int) (y1 : Int) (y2 : Bool) (y3 : Int) (y4 : Int) (y5 : Int) (y6 : Int) (y7 : Int) => iterC (codeL PP (S_fence_Point_right F) c_fence_Point_right (I_fence_Point_right F) (J_fence_Point_right F) (loopAt PP 33 0) 0) (headOf c_fence_Point_right 0) k n (fS T_fence_Point_right_0 [.i y0, .i y1, .b y2, .i y3, .i y4, .i y5, .i y6, .i y7])) (fun (z0 : Int) (z1 : Int) (z2 : Bool) (z3 : Int) (z4 : Int) (z5 : Int) (z6 : Int) (z7 : Int) (z8 : Int) => k .ret (fS T_fence_Point_right_0_0 [.i z0, .i z1, .b z2, .i z3, .i z4, .i z5, .i z6, .i z7, .i z8])) (fun (z0 : Int) (z1 : Int) (z2 : Bool) (z3 : Int) (z4 : Int) (z5 : Int) (z6 : Int) (z7 : Int) => k (.exit 0) (fS T_fence_Point_right_0_1 [.i z0, .i z1, .b z2, .i z3, .i z4, .i z5, .i z6, .i z7])) x0 x1 x2 x3 x4 x5 x6 x7 := (h0 L_fence_Point_right_0).trans (by kernel_rfl)
    rw [h]
    simp only [lL_fence_Point_right_0 F k n]
    rfl
def f_fence_Point_right (F : Nat) (a0 : Int) (a1 : Int) : R :=
  L_fence_Point_right_0 F (fun (v13 : Int) (v14 : Int) (v15 : Bool) (v16 : Int) (v17 : Int) (v18 : Int) (v19 : Int) (v20 : Int) (v21 : Int) =>
    some (.v (.bool v15))) (fun (v22 : Int) (v23 : Int) (v24 : Bool) (v25 : Int) (v26 : Int) (v27 : Int) (v28 : Int) (v29 : Int) =>
    some (.v (.bool true))) F a0 a1 false a0 a1 0 a0 a1
theorem e_fence_Point_right (F : Nat) (a0 : Int) (a1 : Int) : funL PP (S_fence_Point_right F) c_fence_Point_right (I_fence_Point_right F) (J_fence_Point_right F) 33 (fTs ti_fence_Point_right [.i a0, .i a1]).1 = f_fence_Point_right F a0 a1 := by
  have h : ∀ (L_fence_Point_right_0 : Nat → (Int → Int → Bool → Int → Int → Int → Int → Int → Int → R) → (Int → Int → Bool → Int → Int → Int → Int → Int → R) → Nat → Int → Int → Bool → Int → Int → Int → Int → Int → R), funL PP (words []) c_fence_Point_right (tabI c_fence_Point_right [⟨0, T_fence_Point_right_0, fun k q => L_fence_Point_right_0 F (fun (z0 : Int) (z1 : Int) (z2 : Bool) (z3 : Int) (z4 : Int) (z5 : Int) (z6 : Int) (z7 : Int) (z8 : Int) => k .ret (fS T_fence_Point_right_0_0 [.i z0, .i z1, .b z2, .i z3, .i z4, .i z5, .i z6, .i z7, .i z8])) (fun (z0 : Int) (z1 : Int) (z2 : Bool) (z3 : Int) (z4 : Int) (z5 : Int) (z6 : Int) (z7 : Int) => k (.exit 0) (fS T_fence_Point_right_0_1 [.i z0, .i z1, .b z2, .i z3, .i z4, .i z5, .i z6, .i z7])) F (atI (nth q 0)) (atI (nth q 1)) (atB (nth q 2)) (atI (nth q 3)) (atI (nth q 4)) (atI (nth q 5)) (atI (nth q 6)) (atI (nth q 7))⟩]) (tabJ []) 33 (fTs ti_fence_Point_right [.i a0, .i a1]).1 = (
  L_fence_Point_right_0 F (fun (v13 : Int) (v14 : Int) (v15 : Bool) (v16 : Int) (v17 : Int) (v18 : Int) (v19 : Int) (v20 : Int) (v21 : Int) =>
    some (.v (.bool v15))) (fun (v22 : Int) (v23 : Int) (v24 : Bool) (v25 : Int) (v26 : Int) (v27 : Int) (v28 : Int) (v29 : Int) =>
    some (.v (.bool true))) F a0 a1 false a0 a1 0 a0 a1 : R) := by
    intros
    kernel_rfl
  exact (h L_fence_Point_right_0).trans (by kernel_rfl)
def ok_fence_Point_right (F : Nat) (a0 : Int) (a1 : Int) : Bool := okT to_fence_Point_right (f_fence_Point_right F a0 a1)
def o_fence_Point_right_0 (F : Nat) (a0 : Int) (a1 : Int) : Bool := atB (nth (outT to_fence_Point_right (f_fence_Point_right F a0 a1)) 0)
theorem k_fence_Point_right (F : Nat) (a0 : Int) (a1 : Int) {z0 : Bool} (h : f_fence_Point_right F a0 a1 = some (.v (.bool z0))) : ok_fence_Point_right F a0 a1 = true ∧ o_fence_Point_right_0 F a0 a1 = z0 := by
  refine ⟨?_, ?_⟩
  · unfold ok_fence_Point_right; rw [h]; kernel_rfl
  · unfold o_fence_Point_right_0; rw [h]; kernel_rfl
def s_fence_Point_right (F : Nat) : List VV → Option (Bool × VV) := spec ti_fence_Point_right to_fence_Point_right (fun q => (ok_fence_Point_right F (atI (nth q 0)) (atI (nth q 1)))) (fun q => [.b (o_fence_Point_right_0 F (atI (nth q 0)) (atI (nth q 1)))])
theorem hS_fence_Point_right (F : Nat) : ∀ f, Good PP f (unS (S_fence_Point_right F f)) := words_good fun p hp => by
  cases hp
theorem hl_fence_Point_right (F : Nat) : ∀ p ∈ loopsIn PP 33, LoopOK PP (S_fence_Point_right F) c_fence_Point_right F (I_fence_Point_right F) (J_fence_Point_right F) p :=
  loops_of [(0, loopAt PP 33 0)] (by kernel_rfl) (all_cons
    (loop_ok (W_fence_Point_right F) rfl (tab_cons (fun _ k q => Le.ofEq ((lL_fence_Point_right_0 F k F (atI (nth q 0)) (atI (nth q 1)) (atB (nth q 2)) (atI (nth q 3)) (atI (nth q 4)) (atI (nth q 5)) (atI (nth q 6)) (atI (nth q 7))).symm.trans (congrArg (iterC (codeL PP (S_fence_Point_right F) c_fence_Point_right (I_fence_Point_right F) (J_fence_Point_right F) (loopAt PP 33 0) 0) (headOf c_fence_Point_right 0) k F) (show fS T_fence_Point_right_0 [.i (atI (nth q 0)), .i (atI (nth q 1)), .b (atB (nth q 2)), .i (atI (nth q 3)), .i (atI (nth q 4)), .i (atI (nth q 5)), .i (atI (nth q 6)), .i (atI (nth q 7))] = fS T_fence_Point_right_0 q by kernel_rfl)))) tab_nil)) all_nil)
theorem hj_fence_Point_right (F : Nat) : ∀ p ∈ joinsIn PP c_fence_Point_right 33, JoinOK PP (S_fence_Point_right F) c_fence_Point_right (I_fence_Point_right F) (J_fence_Point_right F) p :=
  joins_of [] (by kernel_rfl) all_nil
theorem g_fence_Point_right (F : Nat) : Good PP 33 (unS (s_fence_Point_right F)) :=
  fun_spec (hS_fence_Point_right F) (by kernel_rfl) (by kernel_rfl) (C := c_fence_Point_right) (F := fun q => (f_fence_Point_right F (atI (nth q 0)) (atI (nth q 1)))) (fun _ => F) (fun _ => I_fence_Point_right F) (fun _ => J_fence_Point_right F) (fun _ => hl_fence_Point_right F) (fun _ => hj_fence_Point_right F)
    (fun q => (congrArg (funL PP (S_fence_Point_right F) c_fence_Point_right (I_fence_Point_right F) (J_fence_Point_right F) 33) (show (fTs ti_fence_Point_right q).1 = (fTs ti_fence_Point_right [.i (atI (nth q 0)), .i (atI (nth q 1))]).1 by kernel_rfl)).trans (e_fence_Point_right F (atI (nth q 0)) (atI (nth q 1))))
    (fun _ h => okT_fill' h (by kernel_rfl))

end Go.Xv
namespace Go.Xv

/-- a point that may be. -/
def rightB (p : Pt) : Bool := decide (-2305843009213693952 ≤ p.1) && decide (p.1 ≤ 2305843009213693952) && (decide (-2305843009213693952 ≤ p.2) && decide (p.2 ≤ 2305843009213693952))
structure OkP (p : Pt) : Prop where
  a : -2305843009213693952 ≤ p.1
  b : p.1 ≤ 2305843009213693952
  c : -2305843009213693952 ≤ p.2
  d : p.2 ≤ 2305843009213693952
theorem rightB_iff {p : Pt} : rightB p = true ↔ OkP p := by
  unfold rightB
  simp only [Bool.and_eq_true, decide_eq_true_eq]
  exact ⟨fun ⟨⟨a, b⟩, c, d⟩ => ⟨a, b, c, d⟩, fun ⟨a, b, c, d⟩ => ⟨⟨a, b⟩, c, d⟩⟩
/-- a corner of a square. -/
structure NearP (p : Pt) : Prop where
  a : -3458764513820540928 ≤ p.1
  b : p.1 ≤ 3458764513820540928
  c : -3458764513820540928 ≤ p.2
  d : p.2 ≤ 3458764513820540928
theorem OkP.near {p : Pt} (h : OkP p) : NearP p := ⟨by have := h.a; omega, by have := h.b; omega, by have := h.c; omega, by have := h.d; omega⟩
def cross (a b p : Pt) : Int := (b.1 - a.1) * (p.2 - a.2) - (b.2 - a.2) * (p.1 - a.1)
def sgn (x : Int) : Int := if x < 0 then -1 else if x = 0 then 0 else 1

theorem mul_le {x y A B : Int} (hx : -A ≤ x ∧ x ≤ A) (hy : -B ≤ y ∧ y ≤ B) : -(A * B) ≤ x * y ∧ x * y ≤ A * B := by
  have h1 : x.natAbs ≤ A.natAbs := by omega
  have h2 : y.natAbs ≤ B.natAbs := by omega
  have h3 : (x * y).natAbs ≤ A.natAbs * B.natAbs := by rw [Int.natAbs_mul]; exact Nat.mul_le_mul h1 h2
  have h4 : ((A.natAbs * B.natAbs : Nat) : Int) = A * B := by rw [Int.natCast_mul, Int.natAbs_of_nonneg (by omega), Int.natAbs_of_nonneg (by omega)]
  omega

theorem side_parts {a b p : Pt} (ha : OkP a) (hb : OkP b) (hp : NearP p) :
    (I64 (b.1 - a.1) ∧ I64 (p.2 - a.2) ∧ I64 (b.2 - a.2) ∧ I64 (p.1 - a.1)) ∧
    W128 ((b.1 - a.1) * (p.2 - a.2)) ∧ W128 ((b.2 - a.2) * (p.1 - a.1)) ∧ W128 (-((b.2 - a.2) * (p.1 - a.1))) ∧ W128 (cross a b p) := by
  obtain ⟨a1, a2, a3, a4⟩ := ha
  obtain ⟨b1, b2, b3, b4⟩ := hb
  obtain ⟨p1, p2, p3, p4⟩ := hp
  have m1 := mul_le (x := b.1 - a.1) (y := p.2 - a.2) (A := 4611686018427387904) (B := 5764607523034234880) (by omega) (by omega)
  have m2 := mul_le (x := b.2 - a.2) (y := p.1 - a.1) (A := 4611686018427387904) (B := 5764607523034234880) (by omega) (by omega)
  have e : (4611686018427387904 : Int) * 5764607523034234880 = 26584559915698317458076141205606891520 := by decide
  rw [e] at m1 m2
  unfold I64 W128 cross
  generalize (b.1 - a.1) * (p.2 - a.2) = x at *
  generalize (b.2 - a.2) * (p.1 - a.1) = y at *
  omega

theorem eq_hl {x y : Int} (hx : W128 x) (hy : W128 y) : ((hi x == hi y) && (lo x == lo y)) = decide (x = y) := by
  by_cases h : x = y
  · subst h; simp
  · rw [df h]
    cases h1 : (hi x == hi y) with
    | false => rfl
    | true =>
      cases h2 : (lo x == lo y) with
      | false => rfl
      | true => exact absurd (hl_inj hx hy (by simpa using h1) (by simpa using h2)) h

theorem f_side (F : Nat) {a b p : Pt} (ha : OkP a) (hb : OkP b) (hp : NearP p) : f_fence_side F a.1 a.2 b.1 b.2 p.1 p.2 = some (.v (.int .i64 (sgn (cross a b p)))) := by
  obtain ⟨⟨i1, i2, i3, i4⟩, w1, w2, w3, w4⟩ := side_parts ha hb hp
  unfold f_fence_side
  simp only [wi64_in i1, wi64_in i2, wi64_in i3, wi64_in i4]
  obtain ⟨k1, k2, k3⟩ := a_Mul F i1 i2
  obtain ⟨j1, j2, j3⟩ := a_Mul F i3 i4
  simp only [k2, k3, j2, j3]
  refine bp k1 (bp j1 ?_)
  rw [eq_hl w1 w2]
  unfold sgn cross
  unfold cross at w4
  by_cases h : (b.1 - a.1) * (p.2 - a.2) = (b.2 - a.2) * (p.1 - a.1)
  · refine bp (dt h) ?_
    rw [if_neg (by omega), if_pos (by omega)]
  · refine bn (df h) ?_
    obtain ⟨l1, l2⟩ := a_Less F w1 w2
    rw [l2]
    refine bp l1 ?_
    by_cases h2 : (b.1 - a.1) * (p.2 - a.2) < (b.2 - a.2) * (p.1 - a.1)
    · refine bp (dt h2) ?_
      rw [if_pos (by omega)]
    · refine bn (df h2) ?_
      rw [if_neg (by omega), if_neg (by omega)]
theorem a_side (F : Nat) {a b p : Pt} (ha : OkP a) (hb : OkP b) (hp : NearP p) : ok_fence_side F a.1 a.2 b.1 b.2 p.1 p.2 = true ∧ o_fence_side_0 F a.1 a.2 b.1 b.2 p.1 p.2 = sgn (cross a b p) := k_fence_side F _ _ _ _ _ _ (f_side F ha hb hp)

theorem f_right (F : Nat) (hF : 200 ≤ F) (x y : Int) : f_fence_Point_right F x y = some (.v (.bool (rightB (x, y)))) := by
  obtain ⟨n, rfl⟩ : ∃ n, F = n + 3 := ⟨F - 3, by omega⟩
  unfold f_fence_Point_right rightB
  simp only [L_fence_Point_right_0, B_fence_Point_right_0]
  have w1 : IntKind.wrap .i64 ((0 : Int) + 1) = 1 := by decide
  have w2 : IntKind.wrap .i64 ((1 : Int) + 1) = 2 := by decide
  simp only [w1, w2]
  by_cases h1 : x < -2305843009213693952
  · simp [isI, iv, h1, show ¬ (-2305843009213693952 ≤ x) by omega]
  · by_cases h2 : x > 2305843009213693952
    · simp [isI, iv, h1, h2, show ¬ (x ≤ 2305843009213693952) by omega]
    · by_cases h3 : y < -2305843009213693952
      · simp [isI, iv, h1, h2, h3, show ¬ (-2305843009213693952 ≤ y) by omega]
      · by_cases h4 : y > 2305843009213693952
        · simp [isI, iv, h1, h2, h3, h4, show ¬ (y ≤ 2305843009213693952) by omega]
        · simp [isI, iv, h1, h2, h3, h4, show (-2305843009213693952 ≤ y) by omega, show (y ≤ 2305843009213693952) by omega, show (-2305843009213693952 ≤ x) by omega, show (x ≤ 2305843009213693952) by omega]
theorem a_right (F : Nat) (hF : 200 ≤ F) (x y : Int) : ok_fence_Point_right F x y = true ∧ o_fence_Point_right_0 F x y = rightB (x, y) := k_fence_Point_right F _ _ (f_right F hF x y)

end Go.Xv
set_option linter.unusedVariables false
namespace Go.Xv
/- 25 _fence_square_touches -/
def c_fence_square_touches : Cfg := ⟨[0, 1, 2, 3, 4, 5, 6, 7, 8, 9, 11, 12, 14, 15, 16, 44, 50, 51, 52], [(0, [0, 1, 2, 3, 4, 5, 6, 9, 11, 12, 13, 14, 15, 46, 47, 48, 49, 50, 51, 52, 53, 54, 55, 56, 57, 58, 59, 60, 61, 62, 63, 64, 65, 66, 67, 68, 69, 70, 71, 72, 73, 74, 75, 76, 77, 78, 79, 80, 81, 82, 83, 84, 85]), (2, [0, 1, 2, 3, 4, 5, 6, 7, 8, 9, 13, 14, 15, 16, 17, 18, 19, 20, 21, 22, 23, 24, 25, 26, 27, 28, 29, 30, 31, 32, 33, 34, 35, 36, 37, 38, 39, 40, 41, 42, 43, 44, 45, 46, 47, 48, 49, 50, 51, 80, 81, 82, 83, 84, 85])], [], []⟩
def ti_fence_square_touches : List TV := [.v (.agg [.int .i64, .int .i64, .int .i64]), .v (.agg [.int .i64, .int .i64]), .v (.agg [.int .i64, .int .i64])]
def to_fence_square_touches : TV := .v (.bool)
def S_fence_square_touches (F : Nat) : FuncId → List VV → Option (Bool × VV) := words [(22, s_fence_side F)]
def T_fence_square_touches_0 : TS := ⟨[(0, .v (.agg [.int .i64, .int .i64, .int .i64])), (1, .v (.agg [.int .i64, .int .i64])), (2, .v (.agg [.int .i64, .int .i64])), (3, .lp 0 (.lit 0)), (4, .lp 1 (.lit 0)), (5, .lp 2 (.lit 0)), (6, .v (.bool)), (14, .v (.agg [.int .i64, .int .i64])), (15, .v (.int .i64))], [(0, ⟨(.ex [.v (.int .i64), .v (.int .i64), .v (.int .i64)]), true⟩), (1, ⟨(.ex [.v (.int .i64), .v (.int .i64)]), true⟩), (2, ⟨(.ex [.v (.int .i64), .v (.int .i64)]), true⟩)], 3⟩
def T_fence_square_touches_0_0 : TS := ⟨[(0, .v (.agg [.int .i64, .int .i64, .int .i64])), (1, .v (.agg [.int .i64, .int .i64])), (2, .v (.agg [.int .i64, .int .i64])), (3, .lp 0 (.lit 0)), (4, .lp 1 (.lit 0)), (5, .lp 2 (.lit 0)), (6, .v (.bool)), (7, .v (.int .i64)), (8, .v (.int .i64)), (14, .v (.agg [.int .i64, .int .i64])), (15, .v (.int .i64))], [(0, ⟨(.ex [.v (.int .i64), .v (.int .i64), .v (.int .i64)]), true⟩), (1, ⟨(.ex [.v (.int .i64), .v (.int .i64)]), true⟩), (2, ⟨(.ex [.v (.int .i64), .v (.int .i64)]), true⟩)], 3⟩
def T_fence_square_touches_0_1 : TS := ⟨[(0, .v (.agg [.int .i64, .int .i64, .int .i64])), (1, .v (.agg [.int .i64, .int .i64])), (2, .v (.agg [.int .i64, .int .i64])), (3, .lp 0 (.lit 0)), (4, .lp 1 (.lit 0)), (5, .lp 2 (.lit 0)), (6, .v (.bool)), (14, .v (.agg [.int .i64, .int .i64])), (15, .v (.int .i64))], [(0, ⟨(.ex [.v (.int .i64), .v (.int .i64), .v (.int .i64)]), true⟩), (1, ⟨(.ex [.v (.int .i64), .v (.int .i64)]), true⟩), (2, ⟨(.ex [.v (.int .i64), .v (.int .i64)]), true⟩)], 3⟩
def B_fence_square_touches_0 (F : Nat) (rc : Int → Int → Int → Int → Int → Int → Int → Bool → Int → Int → Int → Int → Int → Int → Int → Int → Int → Int → R) (ex0 : Int → Int → Int → Int → Int → Int → Int → Bool → Int → Int → Int → Int → Int → Int → Int → Int → Int → Int → Int → Int → R) (ex1 : Int → Int → Int → Int → Int → Int → Int → Bool → Int → Int → Int → Int → Int → Int → Int → Int → Int → Int → R) (x0 : Int) (x1 : Int) (x2 : Int) (x3 : Int) (x4 : Int) (x5 : Int) (x6 : Int) (x7 : Bool) (x8 : Int) (x9 : Int) (x10 : Int) (x11 : Int) (x12 : Int) (x13 : Int) (x14 : Int) (x15 : Int) (x16 : Int) (x17 : Int) : R :=
  bif ((decide (x10 < 2))) then (
    bif (((decide (0 ≤ x10)) && (decide (x10 < 2))) && ((isI .i64 [.v (.int .i64 x8), .v (.int .i64 x9)][((Int.toNat x10) * 1)]?) && true)) then (
      let v113 : Int := (iv [.v (.int .i64 x8), .v (.int .i64 x9)][((Int.toNat x10) * 1)]?)
      bif ((decide (0 ≤ x10)) && (decide (x10 < 2))) then (
        let v114 : Nat := (0 + ((Int.toNat x10) * 1))
        bif ((isI .i64 [.v (.int .i64 x14), .v (.int .i64 x15)][v114]?) && true) then (
          let v115 : Int := (iv [.v (.int .i64 x14), .v (.int .i64 x15)][v114]?)
          bif ((decide (0 ≤ x10)) && (decide (x10 < 2))) then (
            let v116 : Nat := (0 + ((Int.toNat x10) * 1))
            bif ((isI .i64 [.v (.int .i64 x16), .v (.int .i64 x17)][v116]?) && true) then (
              let v117 : Int := (iv [.v (.int .i64 x16), .v (.int .i64 x17)][v116]?)
              bif ((decide (((if v117 > v115 then v117 else v115)) < ((IntKind.wrap .i64 (v113 - x13)))))) then (
                ex0 x0 x1 x2 x3 x4 x5 x6 false x10 v113 x8 x9 x10 x11 x12 x13 x14 x15 x16 x17)
              else (
                bif ((decide (0 ≤ x10)) && (decide (x10 < 2))) then (
                  let v121 : Nat := (0 + ((Int.toNat x10) * 1))
                  bif ((isI .i64 [.v (.int .i64 x14), .v (.int .i64 x15)][v121]?) && true) then (
                    let v122 : Int := (iv [.v (.int .i64 x14), .v (.int .i64 x15)][v121]?)
                    bif ((decide (0 ≤ x10)) && (decide (x10 < 2))) then (
                      let v123 : Nat := (0 + ((Int.toNat x10) * 1))
                      bif ((isI .i64 [.v (.int .i64 x16), .v (.int .i64 x17)][v123]?) && true) then (
                        let v124 : Int := (iv [.v (.int .i64 x16), .v (.int .i64 x17)][v123]?)
                        bif ((decide (((if v124 < v122 then v124 else v122)) > ((IntKind.wrap .i64 (v113 + x13)))))) then (
                          ex0 x0 x1 x2 x3 x4 x5 x6 false x10 v113 x8 x9 x10 x11 x12 x13 x14 x15 x16 x17)
                        else (
                          rc x0 x1 x2 x3 x4 x5 x6 x7 x8 x9 ((IntKind.wrap .i64 (x10 + 1))) x11 x12 x13 x14 x15 x16 x17))
                      else (
                        none))
                    else (
                      none))
                  else (
                    none))
                else (
                  none)))
            else (
              none))
          else (
            none))
        else (
          none))
      else (
        none))
    else (
      none))
  else (
    ex1 x0 x1 x2 x3 x4 x5 x6 x7 x8 x9 x10 x11 x12 x13 x14 x15 x16 x17)
def L_fence_square_touches_0 (F : Nat) (ex0 : Int → Int → Int → Int → Int → Int → Int → Bool → Int → Int → Int → Int → Int → Int → Int → Int → Int → Int → Int → Int → R) (ex1 : Int → Int → Int → Int → Int → Int → Int → Bool → Int → Int → Int → Int → Int → Int → Int → Int → Int → Int → R) : Nat → Int → Int → Int → Int → Int → Int → Int → Bool → Int → Int → Int → Int → Int → Int → Int → Int → Int → Int → R
  | 0, _, _, _, _, _, _, _, _, _, _, _, _, _, _, _, _, _, _ => none
  | n + 1, x0, x1, x2, x3, x4, x5, x6, x7, x8, x9, x10, x11, x12, x13, x14, x15, x16, x17 => B_fence_square_touches_0 F (L_fence_square_touches_0 F ex0 ex1 n) ex0 ex1 x0 x1 x2 x3 x4 x5 x6 x7 x8 x9 x10 x11 x12 x13 x14 x15 x16 x17
def T_fence_square_touches_1 : TS := ⟨[(0, .v (.agg [.int .i64, .int .i64, .int .i64])), (1, .v (.agg [.int .i64, .int .i64])), (2, .v (.agg [.int .i64, .int .i64])), (3, .lp 0 (.lit 0)), (4, .lp 1 (.lit 0)), (5, .lp 2 (.lit 0)), (6, .v (.bool)), (9, .v (.int .i64)), (14, .v (.agg [.int .i64, .int .i64])), (15, .v (.int .i64)), (50, .v (.agg [.int .i64, .int .i64, .int .i64, .int .i64, .int .i64, .int .i64, .int .i64, .int .i64])), (51, .v (.int .i64))], [(0, ⟨(.ex [.v (.int .i64), .v (.int .i64), .v (.int .i64)]), true⟩), (1, ⟨(.ex [.v (.int .i64), .v (.int .i64)]), true⟩), (2, ⟨(.ex [.v (.int .i64), .v (.int .i64)]), true⟩)], 3⟩
def T_fence_square_touches_1_0 : TS := ⟨[(0, .v (.agg [.int .i64, .int .i64, .int .i64])), (1, .v (.agg [.int .i64, .int .i64])), (2, .v (.agg [.int .i64, .int .i64])), (3, .lp 0 (.lit 0)), (4, .lp 1 (.lit 0)), (5, .lp 2 (.lit 0)), (6, .v (.bool)), (9, .v (.int .i64)), (14, .v (.agg [.int .i64, .int .i64])), (15, .v (.int .i64)), (50, .v (.agg [.int .i64, .int .i64, .int .i64, .int .i64, .int .i64, .int .i64, .int .i64, .int .i64])), (51, .v (.int .i64))], [(0, ⟨(.ex [.v (.int .i64), .v (.int .i64), .v (.int .i64)]), true⟩), (1, ⟨(.ex [.v (.int .i64), .v (.int .i64)]), true⟩), (2, ⟨(.ex [.v (.int .i64), .v (.int .i64)]), true⟩)], 3⟩
def B_fence_square_touches_1 (F : Nat) (rc : Int → Int → Int → Int → Int → Int → Int → Bool → Int → Int → Int → Int → Int → Int → Int → Int → Int → Int → Int → Int → Int → Int → Int → Int → Int → Int → Int → Int → R) (ex0 : Int → Int → Int → Int → Int → Int → Int → Bool → Int → Int → Int → Int → Int → Int → Int → Int → Int → Int → Int → Int → Int → Int → Int → Int → Int → Int → Int → Int → R) (x0 : Int) (x1 : Int) (x2 : Int) (x3 : Int) (x4 : Int) (x5 : Int) (x6 : Int) (x7 : Bool) (x8 : Int) (x9 : Int) (x10 : Int) (x11 : Int) (x12 : Int) (x13 : Int) (x14 : Int) (x15 : Int) (x16 : Int) (x17 : Int) (x18 : Int) (x19 : Int) (x20 : Int) (x21 : Int) (x22 : Int) (x23 : Int) (x24 : Int) (x25 : Int) (x26 : Int) (x27 : Int) : R :=
  bif ((decide (x20 < 4))) then (
    bif (((decide (0 ≤ x20)) && (decide (x20 < 4))) && ((isI .i64 [.v (.int .i64 x12), .v (.int .i64 x13), .v (.int .i64 x14), .v (.int .i64 x15), .v (.int .i64 x16), .v (.int .i64 x17), .v (.int .i64 x18), .v (.int .i64 x19)][((Int.toNat x20) * 2)]?) && ((isI .i64 [.v (.int .i64 x12), .v (.int .i64 x13), .v (.int .i64 x14), .v (.int .i64 x15), .v (.int .i64 x16), .v (.int .i64 x17), .v (.int .i64 x18), .v (.int .i64 x19)][(((Int.toNat x20) * 2) + 1)]?) && true))) then (
      let v199 : Int := (IntKind.wrap .i64 (x21 + ((IntKind.wrap .i64 (((iv [.v (.int .i64 x12), .v (.int .i64 x13), .v (.int .i64 x14), .v (.int .i64 x15), .v (.int .i64 x16), .v (.int .i64 x17), .v (.int .i64 x18), .v (.int .i64 x19)][((Int.toNat x20) * 2)]?)) * x23)))))
      let v201 : Int := (IntKind.wrap .i64 (x22 + ((IntKind.wrap .i64 (((iv [.v (.int .i64 x12), .v (.int .i64 x13), .v (.int .i64 x14), .v (.int .i64 x15), .v (.int .i64 x16), .v (.int .i64 x17), .v (.int .i64 x18), .v (.int .i64 x19)][(((Int.toNat x20) * 2) + 1)]?)) * x23)))))
      bif (ok_fence_side F x24 x25 x26 x27 v199 v201) then (
        rc x0 x1 x2 x3 x4 x5 x6 x7 ((IntKind.wrap .i64 (x8 + ((o_fence_side_0 F x24 x25 x26 x27 v199 v201))))) x9 x10 x11 x12 x13 x14 x15 x16 x17 x18 x19 ((IntKind.wrap .i64 (x20 + 1))) x21 x22 x23 x24 x25 x26 x27)
      else (
        none))
    else (
      none))
  else (
    ex0 x0 x1 x2 x3 x4 x5 x6 x7 x8 x9 x10 x11 x12 x13 x14 x15 x16 x17 x18 x19 x20 x21 x22 x23 x24 x25 x26 x27)
def L_fence_square_touches_1 (F : Nat) (ex0 : Int → Int → Int → Int → Int → Int → Int → Bool → Int → Int → Int → Int → Int → Int → Int → Int → Int → Int → Int → Int → Int → Int → Int → Int → Int → Int → Int → Int → R) : Nat → Int → Int → Int → Int → Int → Int → Int → Bool → Int → Int → Int → Int → Int → Int → Int → Int → Int → Int → Int → Int → Int → Int → Int → Int → Int → Int → Int → Int → R
  | 0, _, _, _, _, _, _, _, _, _, _, _, _, _, _, _, _, _, _, _, _, _, _, _, _, _, _, _, _ => none
  | n + 1, x0, x1, x2, x3, x4, x5, x6, x7, x8, x9, x10, x11, x12, x13, x14, x15, x16, x17, x18, x19, x20, x21, x22, x23, x24, x25, x26, x27 => B_fence_square_touches_1 F (L_fence_square_touches_1 F ex0 n) ex0 x0 x1 x2 x3 x4 x5 x6 x7 x8 x9 x10 x11 x12 x13 x14 x15 x16 x17 x18 x19 x20 x21 x22 x23 x24 x25 x26 x27
def W_fence_square_touches (F : Nat) : List LW := [⟨0, T_fence_square_touches_0, fun k q => L_fence_square_touches_0 F (fun (z0 : Int) (z1 : Int) (z2 : Int) (z3 : Int) (z4 : Int) (z5 : Int) (z6 : Int) (z7 : Bool) (z8 : Int) (z9 : Int) (z10 : Int) (z11 : Int) (z12 : Int) (z13 : Int) (z14 : Int) (z15 : Int) (z16 : Int) (z17 : Int) (z18 : Int) (z19 : Int) => k .ret (fS T_fence_square_touches_0_0 [.i z0, .i z1, .i z2, .i z3, .i z4, .i z5, .i z6, .b z7, .i z8, .i z9, .i z10, .i z11, .i z12, .i z13, .i z14, .i z15, .i z16, .i z17, .i z18, .i z19])) (fun (z0 : Int) (z1 : Int) (z2 : Int) (z3 : Int) (z4 : Int) (z5 : Int) (z6 : Int) (z7 : Bool) (z8 : Int) (z9 : Int) (z10 : Int) (z11 : Int) (z12 : Int) (z13 : Int) (z14 : Int) (z15 : Int) (z16 : Int) (z17 : Int) => k (.exit 0) (fS T_fence_square_touches_0_1 [.i z0, .i z1, .i z2, .i z3, .i z4, .i z5, .i z6, .b z7, .i z8, .i z9, .i z10, .i z11, .i z12, .i z13, .i z14, .i z15, .i z16, .i z17])) F (atI (nth q 0)) (atI (nth q 1)) (atI (nth q 2)) (atI (nth q 3)) (atI (nth q 4)) (atI (nth q 5)) (atI (nth q 6)) (atB (nth q 7)) (atI (nth q 8)) (atI (nth q 9)) (atI (nth q 10)) (atI (nth q 11)) (atI (nth q 12)) (atI (nth q 13)) (atI (nth q 14)) (atI (nth q 15)) (atI (nth q 16)) (atI (nth q 17))⟩, ⟨2, T_fence_square_touches_1, fun k q => L_fence_square_touches_1 F (fun (z0 : Int) (z1 : Int) (z2 : Int) (z3 : Int) (z4 : Int) (z5 : Int) (z6 : Int) (z7 : Bool) (z8 : Int) (z9 : Int) (z10 : Int) (z11 : Int) (z12 : Int) (z13 : Int) (z14 : Int) (z15 : Int) (z16 : Int) (z17 : Int) (z18 : Int) (z19 : Int) (z20 : Int) (z21 : Int) (z22 : Int) (z23 : Int) (z24 : Int) (z25 : Int) (z26 : Int) (z27 : Int) => k (.exit 2) (fS T_fence_square_touches_1_0 [.i z0, .i z1, .i z2, .i z3, .i z4, .i z5, .i z6, .b z7, .i z8, .i z9, .i z10, .i z11, .i z12, .i z13, .i z14, .i z15, .i z16, .i z17, .i z18, .i z19, .i z20, .i z21, .i z22, .i z23, .i z24, .i z25, .i z26, .i z27])) F (atI (nth q 0)) (atI (nth q 1)) (atI (nth q 2)) (atI (nth q 3)) (atI (nth q 4)) (atI (nth q 5)) (atI (nth q 6)) (atB (nth q 7)) (atI (nth q 8)) (atI (nth q 9)) (atI (nth q 10)) (atI (nth q 11)) (atI (nth q 12)) (atI (nth q 13)) (atI (nth q 14)) (atI (nth q 15)) (atI (nth q 16)) (atI (nth q 17)) (atI (nth q 18)) (atI (nth q 19)) (atI (nth q 20)) (atI (nth q 21)) (atI (nth q 22)) (atI (nth q 23)) (atI (nth q 24)) (atI (nth q 25)) (atI (nth q 26)) (atI (nth q 27))⟩]
def I_fence_square_touches (F : Nat) : Nat → VS → (Exit → VS → R) → R := tabI c_fence_square_touches (W_fence_square_touches F)
def WJ_fence_square_touches (F : Nat) : List LJ := []
def J_fence_square_touches (F : Nat) : Nat → Nat → VS → (Exit → VS → R) → R := tabJ (WJ_fence_square_touches F)
theorem lL_fence_square_touches_0 (F : Nat) (k : Exit → VS → R) : ∀ (n : Nat) (x0 : Int) (x1 : Int) (x2 : Int) (x3 : Int) (x4 : Int) (x5 : Int) (x6 : Int) (x7 : Bool) (x8 : Int) (x9 : Int) (x10 : Int) (x11 : Int) (x12 : Int) (x13 : Int) (x14 : Int) (x15 : Int) (x16 : Int) (x17 : Int), iterC (codeL PP (S_fence_square_touches F) c_fence_square_touches (I_fence_square_touches F) (J_fence_square_touches F) (loopAt PP 25 0) 0) (headOf c_fence_square_touches 0) k n (fS T_fence_square_touches_0 [.i x0, .i x1, .i x2, .i x3, .i x4, .i x5, .i x6, .b x7, .i x8, .i x9, .i x10, .i x11, .i x12, .i x13, .i x14, .i x15, .i x16, .i x17]) = L_fence_square_touches_0 F (fun (z0 : Int) (z1 : Int) (z2 : Int) (z3 : Int) (z4 : Int) (z5 : Int) (z6 : Int) (z7 : Bool) (z8 : Int) (z9 : Int) (z10 : Int) (z11 : Int) (z12 : Int) (z13 : Int) (z14 : Int) (z15 : Int) (z16 : Int) (z17 : Int) (z18 : Int) (z19 : Int) => k .ret (fS T_fence_square_touches_0_0 [.i z0, .i z1, .i z2, .i z3, .i z4, .i z5, .i z6, .b z7, .i z8, .i z9, .i z10, .i z11, .i z12, .i z13, .i z14, .i z15, .i z16, .i z17, .i z18, .i z19])) (fun (z0 : Int) (z1 : Int) (z2 : Int) (z3 : Int) (z4 : Int) (z5 : Int) (z6 : Int) (z7 : Bool) (z8 : Int) (z9 : Int) (z10 : Int) (z11 : Int) (z12 : Int) (z13 : Int) (z14 : Int) (z15 : Int) (z16 : Int) (z17 : Int) => k (.exit 0) (fS T_fence_square_touches_0_1 [.i z0, .i z1, .i z2, .i z3, .i z4, .i z5, .i z6, .b z7, .i z8, .i z9, .i z10, .i z11, .i z12, .i z13, .i z14, .i z15, .i z16, .i z17])) n x0 x1 x2 x3 x4 x5 x6 x7 x8 x9 x10 x11 x12 x13 x14 x15 x16 x17
  | 0, _, _, _, _, _, _, _, _, _, _, _, _, _, _, _, _, _, _ => rfl
  | n + 1, x0, x1, x2, x3, x4, x5, x6, x7, x8, x9, x10, x11, x12, x13, x14, x15, x16, x17 => by
    have h0 : ∀ (ok_fence_side : Nat → Int → Int → Int → Int → Int → Int → Bool) (o_fence_side_0 : Nat → Int → Int → Int → Int → Int → Int → Int) (L_fence_square_touches_0 : Nat → (Int → Int → Int → Int → Int → Int → Int → Bool → Int → Int → Int → Int → Int → Int → Int → Int → Int → Int → Int → Int → R) → (Int → Int → Int → Int → Int → Int → Int → Bool → Int → Int → Int → Int → Int → Int → Int → Int → Int → Int → R) → Nat → Int → Int → Int → Int → Int → Int → Int → Bool → Int → Int → Int → Int → Int → Int → Int → Int → Int → Int → R) (L_fence_square_touches_1 : Nat → (Int → Int → Int → Int → Int → Int → Int → Bool → Int → Int → Int → Int → Int → Int → Int → Int → Int → Int → Int → Int → Int → Int → Int → Int → Int → Int → Int → Int → R) → Nat → Int → Int → Int → Int → Int → Int → Int → Bool → Int → Int → Int → Int → Int → Int → Int → Int → Int → Int → Int → Int → Int → Int → Int → Int → Int → Int → Int → Int → R), iterC (codeL PP (words [(22, spec ti_fence_side to_fence_side (fun q => (ok_fence_side F (atI (nth q 0)) (atI (nth q 1)) (atI (nth q 2)) (atI (nth q 3)) (atI (nth q 4)) (atI (nth q 5)))) (fun q => [.i (o_fence_side_0 F (atI (nth q 0)) (atI (nth q 1)) (atI (nth q 2)) (atI (nth q 3)) (atI (nth q 4)) (atI (nth q 5)))]))]) c_fence_square_touches (tabI c_fence_square_touches [⟨0, T_fence_square_touches_0, fun k q => L_fence_square_touches_0 F (fun (z0 : Int) (z1 : Int) (z2 : Int) (z3 : Int) (z4 : Int) (z5 : Int) (z6 : Int) (z7 : Bool) (z8 : Int) (z9 : Int) (z10 : Int) (z11 : Int) (z12 : Int) (z13 : Int) (z14 : Int) (z15 : Int) (z16 : Int) (z17 : Int) (z18 : Int) (z19 : Int) => k .ret (fS T_fence_square_touches_0_0 [.i z0, .i z1, .i z2, .i z3, .i z4, .i z5, .i z6, .b z7, .i z8, .i z9, .i z10, .i z11, .i z12, .i z13, .i z14, .i z15, .i z16, .i z17, .i z18, .i z19])) (fun (z0 : Int) (z1 : Int) (z2 : Int) (z3 : Int) (z4 : Int) (z5 : Int) (z6 : Int) (z7 : Bool) (z8 : Int) (z9 : Int) (z10 : Int) (z11 : Int) (z12 : Int) (z13 : Int) (z14 : Int) (z15 : Int) (z16 : Int) (z17 : Int) => k (.exit 0) (fS T_fence_square_touches_0_1 [.i z0, .i z1, .i z2, .i z3, .i z4, .i z5, .i z6, .b z7, .i z8, .i z9, .i z10, .i z11, .i z12, .i z13, .i z14, .i z15, .i z16, .i z17])) F (atI (nth q 0)) (atI (nth q 1)) (atI (nth q 2)) (atI (nth q 3)) (atI (nth q 4)) (atI (nth q 5)) (atI (nth q 6)) (atB (nth q 7)) (atI (nth q 8)) (atI (nth q 9)) (atI (nth q 10)) (atI (nth q 11)) (atI (nth q 12)) (atI (nth q 13)) (atI (nth q 14)) (atI (nth q 15)) (atI (nth q 16)) (atI (nth q 17))⟩, ⟨2, T_fence_square_touches_1, fun k q => L_fence_square_touches_1 F (fun (z0 : Int) (z1 : Int) (z2 : Int) (z3 : Int) (z4 : Int) (z5 : Int) (z6 : Int) (z7 : Bool) (z8 : Int) (z9 : Int) (z10 : Int) (z11 : Int) (z12 : Int) (z13 : Int) (z14 : Int) (z15 : Int) (z16 : Int) (z17 : Int) (z18 : Int) (z19 : Int) (z20 : Int) (z21 : Int) (z22 : Int) (z23 : Int) (z24 : Int) (z25 : Int) (z26 : Int) (z27 : Int) => k (.exit 2) (fS T_fence_square_touches_1_0 [.i z0, .i z1, .i z2, .i z3, .i z4, .i z5, .i z6, .b z7, .i z8, .i z9, .i z10, .i z11, .i z12, .i z13, .i z14, .i z15, .i z16, .i z17, .i z18, .i z19, .i z20, .i z21, .i z22, .i z23, .i z24, .i z25, .i z26, .i z27])) F (atI (nth q 0)) (atI (nth q 1)) (atI (nth q 2)) (atI (nth q 3)) (atI (nth q 4)) (atI (nth q 5)) (atI (nth q 6)) (atB (nth q 7)) (atI (nth q 8)) (atI (nth q 9)) (atI (nth q 10)) (atI (nth q 11)) (atI (nth q 12)) (atI (nth q 13)) (atI (nth q 14)) (atI (nth q 15)) (atI (nth q 16)) (atI (nth q 17)) (atI (nth q 18)) (atI (nth q 19)) (atI (nth q 20)) (atI (nth q 21)) (atI (nth q 22)) (atI (nth q 23)) (atI (nth q 24)) (atI (nth q 25)) (atI (nth q 26)) (atI (nth q 27))⟩]) (tabJ []) (loopAt PP 25 0) 0) (headOf c_fence_square_touches 0) k (n + 1) (fS T_fence_square_touches_0 [.i x0, .i x1, .i x2, .i x3, .i x4, .i x5, .i x6, .b x7, .i x8, .i x9, .i x10, .i x11, .i x12, .i x13, .i x14, .i x15, .i x16, .i x17]) = (fun (rc : Int → Int → Int → Int → Int → Int → Int → Bool → Int → Int → Int → Int → Int → Int → Int → Int → Int → Int → R) (ex0 : Int → Int → Int → Int → Int → Int → Int → Bool → Int → Int → Int → Int → Int → Int → Int → Int → Int → Int → Int → Int → R) (ex1 : Int → Int → Int → Int → Int → Int → Int → Bool → Int → Int → Int → Int → Int → Int → Int → Int → Int → Int → R) (x0 : Int) (x1 : Int) (x2 : Int) (x3 : Int) (x4 : Int) (x5 : Int) (x6 : Int) (x7 : Bool) (x8 : Int) (x9 : Int) (x10 : Int) (x11 : Int) (x12 : Int) (x13 : Int) (x14 : Int) (x15 : Int) (x16 : Int) (x17 : Int) => (
  bif ((decide (x10 < 2))) then (
    bif (((decide (0 ≤ x10)) && (decide (x10 < 2))) && ((isI .i64 [.v (.int .i64 x8), .v (.int .i64 x9)][((Int.toNat x10) * 1)]?) && true)) then (
      let v113 : Int := (iv [.v (.int .i64 x8), .v (.int .i64 x9)][((Int.toNat x10) * 1)]?)
      bif ((decide (0 ≤ x10)) && (decide (x10 < 2))) then (
        let v114 : Nat := (0 + ((Int.toNat x10) * 1))
        bif ((isI .i64 [.v (.int .i64 x14), .v (.int .i64 x15)][v114]?) && true) then (
          let v115 : Int := (iv [.v (.int .i64 x14), .v (.int .i64 x15)][v114]?)
          bif ((decide (0 ≤ x10)) && (decide (x10 < 2))) then (
            let v116 : Nat := (0 + ((Int.toNat x10) * 1))
            bif ((isI .i64 [.v (.int .i64 x16), .v (.int .i64 x17)][v116]?) && true) then (
              let v117 : Int := (iv [.v (.int .i64 x16), .v (.int .i64 x17)][v116]?)
              bif ((decide (((if v117 > v115 then v117 else v115)) < ((IntKind.wrap .i64 (v113 - x13)))))) then (
                ex0 x0 x1 x2 x3 x4 x5 x6 false x10 v113 x8 x9 x10 x11 x12 x13 x14 x15 x16 x17)
              else (
                bif ((decide (0 ≤ x10)) && (decide (x10 < 2))) then (
                  let v121 : Nat := (0 + ((Int.toNat x10) * 1))
                  bif ((isI .i64 [.v (.int .i64 x14), .v (.int .i64 x15)][v121]?) && true) then (
                    let v122 : Int := (iv [.v (.int .i64 x14), .v (.int .i64 x15)][v121]?)
                    bif ((decide (0 ≤ x10)) && (decide (x10 < 2))) then (
                      let v123 : Nat := (0 + ((Int.toNat x10) * 1))
                      bif ((isI .i64 [.v (.int .i64 x16), .v (.int .i64 x17)][v123]?) && true) then (
                        let v124 : Int := (iv [.v (.int .i64 x16), .v (.int .i64 x17)][v123]?)
                        bif ((decide (((if v124 < v122 then v124 else v122)) > ((IntKind.wrap .i64 (v113 + x13)))))) then (
                          ex0 x0 x1 x2 x3 x4 x5 x6 false x10 v113 x8 x9 x10 x11 x12 x13 x14 x15 x16 x17)
                        else (
                          rc x0 x1 x2 x3 x4 x5 x6 x7 x8 x9 ((IntKind.wrap .i64 (x10 + 1))) x11 x12 x13 x14 x15 x16 x17))
                      else (
                        none))
                    else (
                      none))
                  else (
                    none))
                else (
                  none)))
            else (
              none))
          else (
            none))
        else (
          none))
      else (
        none))
    else (
      none))
  else (
    ex1 x0 x1 x2 x3 x4 x5 x6 x7 x8 x9 x10 x11 x12 x13 x14 x15 x16 x17) : R)) (fun (y0 : Int) (y1 : Int) (y2 : Int) (y3 : Int) (y4 : Int) (y5 : Int) (y6 : Int) (y7 : Bool) (y8 : Int) (y9 : Int) (y10 : Int) (y11 : Int) (y12 : Int) (y13 : Int) (y14 : Int) (y15 : Int) (y16 : Int) (y17 : Int) => iterC (codeL PP (words [(22, spec ti_fence_side to_fence_side (fun q => (ok_fence_side F (atI (nth q 0)) (atI (nth q 1)) (atI (nth q 2)) (atI (nth q 3)) (atI (nth q 4)) (atI (nth q 5)))) (fun q => [.i (o_fence_side_0 F (atI (nth q 0)) (atI (nth q 1)) (atI (nth q 2)) (atI (nth q 3)) (atI (nth q 4)) (atI (nth q 5)))]))]) c_fence_square_touches (tabI c_fence_square_touches [⟨0, T_fence_square_touches_0, fun k q => L_fence_square_touches_0 F (fun (z0 : Int) (z1 : Int) (z2 : Int) (z3 : Int) (z4 : Int) (z5 : Int) (z6 : Int) (z7 : Bool) (z8 : Int) (z9 : Int) (z10 : Int) (z11 : Int) (z12 : Int) (z13 : Int) (z14 : Int) (z15 : Int) (z16 : Int) (z17 : Int) (z18 : Int) (z19 : Int) => k .ret (fS T_fence_square_touches_0_0 [.i z0, .i z1, .i z2, .i z3, .i z4, .i z5, .i z6, .b z7, .i z8, .i z9, .i z10, .i z11, .i z12, .i z13, .i z14, .i z15, .i z16, .i z17, .i z18, .i z19])) (fun (z0 : Int) (z1 : Int) (z2 : Int) (z3 : Int) (z4 : Int) (z5 : Int) (z6 : Int) (z7 : Bool) (z8 : Int) (z9 : Int) (z10 : Int) (z11 : Int) (z12 : Int) (z13 : Int) (z14 : Int) (z15 : Int) (z16 : Int) (z17 : Int) => k (.exit 0) (fS T_fence_square_touches_0_1 [.i z0, .i z1, .i z2, .i z3, .i z4, .i z5, .i z6, .b z7, .i z8, .i z9, .i z10, .i z11, .i z12, .i z13, .i z14, .i z15, .i z16, .i z17])) F (atI (nth q 0)) (atI (nth q 1)) (atI (nth q 2)) (atI (nth q 3)) (atI (nth q 4)) (atI (nth q 5)) (atI (nth q 6)) (atB (nth q 7)) (atI (nth q 8)) (atI (nth q 9)) (atI (nth q 10)) (atI (nth q 11)) (atI (nth q 12)) (atI (nth q 13)) (atI (nth q 14)) (atI (nth q 15)) (atI (nth q 16)) (atI (nth q 17))⟩, ⟨2, T_fence_square_touches_1, fun k q => L_fence_square_touches_1 F (fun (z0 : Int) (z1 : Int) (z2 : Int) (z3 : Int) (z4 : Int) (z5 : Int) (z6 : Int) (z7 : Bool) (z8 : Int) (z9 : Int) (z10 : Int) (z11 : Int) (z12 : Int) (z13 : Int) (z14 : Int) (z15 : Int) (z16 : Int) (z17 : Int) (z18 : Int) (z19 : Int) (z20 : Int) (z21 : Int) (z22 : Int) (z23 : Int) (z24 : Int) (z25 : Int) (z26 : Int) (z27 : Int) => k (.exit 2) (fS T_fence_square_touches_1_0 [.i z0, .i z1, .i z2, .i z3, .i z4, .i z5, .i z6, .b z7, .i z8, .i z9, .i z10, .i z11, .i z12, .i z13, .i z14, .i z15, .i z16, .i z17, .i z18, .i z19, .i z20, .i z21, .i z22, .i z23, .i z24, .i z25, .i z26, .i z27])) F (atI (nth q 0)) (atI (nth q 1)) (atI (nth q 2)) (atI (nth q 3)) (atI (nth q 4)) (atI (nth q 5)) (atI (nth q 6)) (atB (nth q 7)) (atI (nth q 8)) (atI (nth q 9)) (atI (nth q 10)) (atI (nth q 11)) (atI (nth q 12)) (atI (nth q 13)) (atI (nth q 14)) (atI (nth q 15)) (atI (nth q 16)) (atI (nth q 17)) (atI (nth q 18)) (atI (nth q 19)) (atI (nth q 20)) (atI (nth q 21)) (atI (nth q 22)) (atI (nth q 23)) (atI (nth q 24)) (atI (nth q 25)) (atI (nth q 26)) (atI (nth q 27))⟩]) (tabJ []) (loopAt PP 25 0) 0) (headOf c_fence_square_touches 0) k n (fS T_fence_square_touches_0 [.i y0, .i y1, .i y2, .i y3, .i y4, .i y5, .i y6, .b y7, .i y8, .i y9, .i y10, .i y11, .i y12, .i y13, .i y14, .i y15, .i y16, .i y17])) (fun (z0 : Int) (z1 : Int) (z2 : Int) (z3 : Int) (z4 : Int) (z5 : Int) (z6 : Int) (z7 : Bool) (z8 : Int) (z9 : Int) (z10 : Int) (z11 : Int) (z12 : Int) (z13 : Int) (z14 : Int) (z15 : Int) (z16 : Int) (z17 : Int) (z18 : Int) (z19 : Int) => k .ret (fS T_fence_square_touches_0_0 [.i z0, .i z1, .i z2, .i z3, .i z4, .i z5, .i z6, .b z7, .i z8, .i z9, .i z10, .i z11, .i z12, .i z13, .i z14, .i z15, .i z16, .i z17, .i z18, .i z19])) (fun (z0 : Int) (z1 : Int) (z2 : Int) (z3 : Int) (z4 : Int) (z5 : Int) (z6 : Int) (z7 : Bool) (z8 : Int) (z9 : Int) (z10 : Int) (z11 : Int) (z12 : Int) (z13 : Int) (z14 : Int) (z15 : Int) (z16 : Int) (z17 : Int) => k (.exit 0) (fS T_fence_square_touches_0_1 [.i z0, .i z1, .i z2, .i z3, .i z4, .i z5, .i z6, .b z7, .i z8, .i z9, .i z10, .i z11, .i z12, .i z13, .i z14, .i z15, .i z16, .i z17])) x0 x1 x2 x3 x4 x5 x6 x7 x8 x9 x10 x11 x12 x13 x14 x15 x16 x17 := by
      intros
      kernel_rfl
    have h : iterC (codeL PP (S_fence_square_touches F) c_fence_square_touches (I_fence_square_touches F) (J_fence_square_touches F) (loopAt PP 25 0) 0) (headOf c_fence_square_touches 0) k (n + 1) (fS T_fence_square_touches_0 [.i x0, .i x1, .i x2, .i x3, .i x4, .i x5, .i x6, .b x7, .i x8, .i x9, .i x10, .i x11, .i x12, .i x13, .i x14, .i x15, .i x16, .i x17]) = B_fence_square_touches_0 F (fun (y0 : Int) (y1 : Int) (y2 : Int) (y3 : Int) (y4 : Int) (y5 : Int) (y6 : Int) (y7 : Bool) (y8 : Int) (y9 : Int) (y10 : Int) (y11 : Int) (y12 : Int) (y13 : Int) (y14 : Int) (y15 : Int) (y16 : Int) (y17 : Int) => iterC (codeL PP (S_fence_square_touches F) c_fence_square_touches (I_fence_square_touches F) (J_fence_square_touches F) (loopAt PP 25 0) 0) (headOf c_fence_square_touches 0) k n (fS T_fence_square_touches_0 [.i y0, .i y1, .i y2, .i y3, .i y4, .i y5, .i y6, .b y7, .i y8, .i y9, .i y10, .i y11, .i y12, .i y13, .i y14, .i y15, .i y16, .i y17])) (fun (z0 : Int) (z1 : Int) (z2 : Int) (z3 : Int) (z4 : Int) (z5 : Int) (z6 : Int) (z7 : Bool) (z8 : Int) (z9 : Int) (z10 : Int) (z11 : Int) (z12 : Int) (z13 : Int) (z14 : Int) (z15 : Int) (z16 : Int) (z17 : Int) (z18 : Int) (z19 : Int) => k .ret (fS T_fence_square_touches_0_0 [.i z0, .i z1, .i z2, .i z3, .i z4, .i z5, .i z6, .b z7, .i z8, .i z9, .i z10, .i z11, .i z12, .i z13, .i z14, .i z15, .i z16, .i z17, .i z18, .i z19])) (fun (z0 : Int) (z1 : Int) (z2 : Int) (z3 : Int) (z4 : Int) (z5 : Int) (z6 : Int) (z7 : Bool) (z8 : Int) (z9 : Int) (z10 : Int) (z11 : Int) (z12 : Int) (z13 : Int) (z14 : Int) (z15 : Int) (z16 : Int) (z17 : Int) => k (.exit 0) (fS T_fence_square_touches_0_1 [.i z0, .i z1, .i z2, .i z3, .i z4, .i z5, .i z6, .b z7, .i z8, .i z9, .i z10, .i z11, .i z12, .i z13, .i z14, .i z15, .i z16, .i z17])) x0 x1 x2 x3 x4 x5 x6 x7 x8 x9 x10 x11 x12 x13 x14 x15 x16 x17 := (h0 ok_fence_side o_fence_side_0 L_fence_square_touches_0 L_fence_square_touches_1).trans (by kernel_rfl)
    rw [h]
    simp only [lL_fence_square_touches_0 F k n]
    rfl
theorem lL_fence_square_touches_1 (F : Nat) (k : Exit → VS → R) : ∀ (n : Nat) (x0 : Int) (x1 : Int) (x2 : Int) (x3 : Int) (x4 : Int) (x5 : Int) (x6 : Int) (x7 : Bool) (x8 : Int) (x9 : Int) (x10 : Int) (x11 : Int) (x12 : Int) (x13 : Int) (x14 : Int) (x15 : Int) (x16 : Int) (x17 : Int) (x18 : Int) (x19 : Int) (x20 : Int) (x21 : Int) (x22 : Int) (x23 : Int) (x24 : Int) (x25 : Int) (x26 : Int) (x27 : Int), iterC (codeL PP (S_fence_square_touches F) c_fence_square_touches (I_fence_square_touches F) (J_fence_square_touches F) (loopAt PP 25 1) 2) (headOf c_fence_square_touches 2) k n (fS T_fence_square_touches_1 [.i x0, .i x1, .i x2, .i x3, .i x4, .i x5, .i x6, .b x7, .i x8, .i x9, .i x10, .i x11, .i x12, .i x13, .i x14, .i x15, .i x16, .i x17, .i x18, .i x19, .i x20, .i x21, .i x22, .i x23, .i x24, .i x25, .i x26, .i x27]) = L_fence_square_touches_1 F (fun (z0 : Int) (z1 : Int) (z2 : Int) (z3 : Int) (z4 : Int) (z5 : Int) (z6 : Int) (z7 : Bool) (z8 : Int) (z9 : Int) (z10 : Int) (z11 : Int) (z12 : Int) (z13 : Int) (z14 : Int) (z15 : Int) (z16 : Int) (z17 : Int) (z18 : Int) (z19 : Int) (z20 : Int) (z21 : Int) (z22 : Int) (z23 : Int) (z24 : Int) (z25 : Int) (z26 : Int) (z27 : Int) => k (.exit 2) (fS T_fence_square_touches_1_0 [.i z0, .i z1, .i z2, .i z3, .i z4, .i z5, .i z6, .b z7, .i z8, .i z9, .i z10, .i z11, .i z12, .i z13, .i z14, .i z15, .i z16, .i z17, .i z18, .i z19, .i z20, .i z21, .i z22, .i z23, .i z24, .i z25, .i z26, .i z27])) n x0 x1 x2 x3 x4 x5 x6 x7 x8 x9 x10 x11 x12 x13 x14 x15 x16 x17 x18 x19 x20 x21 x22 x23 x24 x25 x26 x27
  | 0, _, _, _, _, _, _, _, _, _, _, _, _, _, _, _, _, _, _, _, _, _, _, _, _, _, _, _, _ => rfl
  | n + 1, x0, x1, x2, x3, x4, x5, x6, x7, x8, x9, x10, x11, x12, x13, x14, x15, x16, x17, x18, x19, x20, x21, x22, x23, x24, x25, x26, x27 => by
    have h0 : ∀ (ok_fence_side : Nat → Int → Int → Int → Int → Int → Int → Bool) (o_fence_side_0 : Nat → Int → Int → Int → Int → Int → Int → Int) (L_fence_square_touches_0 : Nat → (Int → Int → Int → Int → Int → Int → Int → Bool → Int → Int → Int → Int → Int → Int → Int → Int → Int → Int → Int → Int → R) → (Int → Int → Int → Int → Int → Int → Int → Bool → Int → Int → Int → Int → Int → Int → Int → Int → Int → Int → R) → Nat → Int → Int → Int → Int → Int → Int → Int → Bool → Int → Int → Int → Int → Int → Int → Int → Int → Int → Int → R) (L_fence_square_touches_1 : Nat → (Int → Int → Int → Int → Int → Int → Int → Bool → Int → Int → Int → Int → Int → Int → Int → Int → Int → Int → Int → Int → Int → Int → Int → Int → Int → Int → Int → Int → R) → Nat → Int → Int → Int → Int → Int → Int → Int → Bool → Int → Int → Int → Int → Int → Int → Int → Int → Int → Int → Int → Int → Int → Int → Int → Int → Int → Int → Int → Int → R), iterC (codeL PP (words [(22, spec ti_fence_side to_fence_side (fun q => (ok_fence_side F (atI (nth q 0)) (atI (nth q 1)) (atI (nth q 2)) (atI (nth q 3)) (atI (nth q 4)) (atI (nth q 5)))) (fun q => [.i (o_fence_side_0 F (atI (nth q 0)) (atI (nth q 1)) (atI (nth q 2)) (atI (nth q 3)) (atI (nth q 4)) (atI (nth q 5)))]))]) c_fence_square_touches (tabI c_fence_square_touches [⟨0, T_fence_square_touches_0, fun k q => L_fence_square_touches_0 F (fun (z0 : Int) (z1 : Int) (z2 : Int) (z3 : Int) (z4 : Int) (z5 : Int) (z6 : Int) (z7 : Bool) (z8 : Int) (z9 : Int) (z10 : Int) (z11 : Int) (z12 : Int) (z13 : Int) (z14 : Int) (z15 : Int) (z16 : Int) (z17 : Int) (z18 : Int) (z19 : Int) => k .ret (fS T_fence_square_touches_0_0 [.i z0, .i z1, .i z2, .i z3, .i z4, .i z5, .i z6, .b z7, .i z8, .i z9, .i z10, .i z11, .i z12, .i z13, .i z14, .i z15, .i z16, .i z17, .i z18, .i z19])) (fun (z0 : Int) (z1 : Int) (z2 : Int) (z3 : Int) (z4 : Int) (z5 : Int) (z6 : Int) (z7 : Bool) (z8 : Int) (z9 : Int) (z10 : Int) (z11 : Int) (z12 : Int) (z13 : Int) (z14 : Int) (z15 : Int) (z16 : Int) (z17 : Int) => k (.exit 0) (fS T_fence_square_touches_0_1 [.i z0, .i z1, .i z2, .i z3, .i z4, .i z5, .i z6, .b z7, .i z8, .i z9, .i z10, .i z11, .i z12, .i z13, .i z14, .i z15, .i z16, .i z17])) F (atI (nth q 0)) (atI (nth q 1)) (atI (nth q 2)) (atI (nth q 3)) (atI (nth q 4)) (atI (nth q 5)) (atI (nth q 6)) (atB (nth q 7)) (atI (nth q 8)) (atI (nth q 9)) (atI (nth q 10)) (atI (nth q 11)) (atI (nth q 12)) (atI (nth q 13)) (atI (nth q 14)) (atI (nth q 15)) (atI (nth q 16)) (atI (nth q 17))⟩, ⟨2, T_fence_square_touches_1, fun k q => L_fence_square_touches_1 F (fun (z0 : Int) (z1 : Int) (z2 : Int) (z3 : Int) (z4 : Int) (z5 : Int) (z6 : Int) (z7 : Bool) (z8 : Int) (z9 : Int) (z10 : Int) (z11 : Int) (z12 : Int) (z13 : Int) (z14 : Int) (z15 : Int) (z16 : Int) (z17 : Int) (z18 : Int) (z19 : Int) (z20 : Int) (z21 : Int) (z22 : Int) (z23 : Int) (z24 : Int) (z25 : Int) (z26 : Int) (z27 : Int) => k (.exit 2) (fS T_fence_square_touches_1_0 [.i z0, .i z1, .i z2, .i z3, .i z4, .i z5, .i z6, .b z7, .i z8, .i z9, .i z10, .i z11, .i z12, .i z13, .i z14, .i z15, .i z16, .i z17, .i z18, .i z19, .i z20, .i z21, .i z22, .i z23, .i z24, .i z25, .i z26, .i z27])) F (atI (nth q 0)) (atI (nth q 1)) (atI (nth q 2)) (atI (nth q 3)) (atI (nth q 4)) (atI (nth q 5)) (atI (nth q 6)) (atB (nth q 7)) (atI (nth q 8)) (atI (nth q 9)) (atI (nth q 10)) (atI (nth q 11)) (atI (nth q 12)) (atI (nth q 13)) (atI (nth q 14)) (atI (nth q 15)) (atI (nth q 16)) (atI (nth q 17)) (atI (nth q 18)) (atI (nth q 19)) (atI (nth q 20)) (atI (nth q 21)) (atI (nth q 22)) (atI (nth q 23)) (atI (nth q 24)) (atI (nth q 25)) (atI (nth q 26)) (atI (nth q 27))⟩]) (tabJ []) (loopAt PP 25 1) 2) (headOf c_fence_square_touches 2) k (n + 1) (fS T_fence_square_touches_1 [.i x0, .i x1, .i x2, .i x3, .i x4, .i x5, .i x6, .b x7, .i x8, .i x9, .i x10, .i x11, .i x12, .i x13, .i x14, .i x15, .i x16, .i x17, .i x18, .i x19, .i x20, .i x21, .i x22, .i x23, .i x24, .i x25, .i x26, .i x27]) = (fun (rc : Int → Int → Int → Int → Int → Int → Int → Bool → Int → Int → Int → Int → Int → Int → Int → Int → Int → Int → Int → Int → Int → Int → Int → Int → Int → Int → Int → Int → R) (ex0 : Int → Int → Int → Int → Int → Int → Int → Bool → Int → Int → Int → Int → Int → Int → Int → Int → Int → Int → Int → Int → Int → Int → Int → Int → Int → Int → Int → Int → R) (x0 : Int) (x1 : Int) (x2 : Int) (x3 : Int) (x4 : Int) (x5 : Int) (x6 : Int) (x7 : Bool) (x8 : Int) (x9 : Int) (x10 : Int) (x11 : Int) (x12 : Int) (x13 : Int) (x14 : Int) (x15 : Int) (x16 : Int) (x17 : Int) (x18 : Int) (x19 : Int) (x20 : Int) (x21 : Int) (x22 : Int) (x23 : Int) (x24 : Int) (x25 : Int) (x26 : Int) (x27 : Int) => (
  bif ((decide (x20 < 4))) then (
    bif (((decide (0 ≤ x20)) && (decide (x20 < 4))) && ((isI .i64 [.v (.int .i64 x12), .v (.int .i64 x13), .v (.int .i64 x14), .v (.int .i64 x15), .v (.int .i64 x16), .v (.int .i64 x17), .v (.int .i64 x18), .v (.int .i64 x19)][((Int.toNat x20) * 2)]?) && ((isI .i64 [.v (.int .i64 x12), .v (.int .i64 x13), .v (.int .i64 x14), .v (.int .i64 x15), .v (.int .i64 x16), .v (.int .i64 x17), .v (.int .i64 x18), .v (.int .i64 x19)][(((Int.toNat x20) * 2) + 1)]?) && true))) then (
      let v199 : Int := (IntKind.wrap .i64 (x21 + ((IntKind.wrap .i64 (((iv [.v (.int .i64 x12), .v (.int .i64 x13), .v (.int .i64 x14), .v (.int .i64 x15), .v (.int .i64 x16), .v (.int .i64 x17), .v (.int .i64 x18), .v (.int .i64 x19)][((Int.toNat x20) * 2)]?)) * x23)))))
      let v201 : Int := (IntKind.wrap .i64 (x22 + ((IntKind.wrap .i64 (((iv [.v (.int .i64 x12), .v (.int .i64 x13), .v (.int .i64 x14), .v (.int .i64 x15), .v (.int .i64 x16), .v (.int .i64 x17), .v (.int .i64 x18), .v (.int .i64 x19)][(((Int.toNat x20) * 2) + 1)]?)) * x23)))))
      bif (ok_fence_side F x24 x25 x26 x27 v199 v201) then (
        rc x0 x1 x2 x3 x4 x5 x6 x7 ((IntKind.wrap .i64 (x8 + ((o_fence_side_0 F x24 x25 x26 x27 v199 v201))))) x9 x10 x11 x12 x13 x14 x15 x16 x17 x18 x19 ((IntKind.wrap .i64 (x20 + 1))) x21 x22 x23 x24 x25 x26 x27)
      else (
        none))
    else (
      none))
  else (
    ex0 x0 x1 x2 x3 x4 x5 x6 x7 x8 x9 x10 x11 x12 x13 x14 x15 x16 x17 x18 x19 x20 x21 x22 x23 x24 x25 x26 x27) : R)) (fun (y0 : Int) (y1 : Int) (y2 : Int) (y3 : Int) (y4 : Int) (y5 : Int) (y6 : Int) (y7 : Bool) (y8 : Int) (y9 : Int) (y10 : Int) (y11 : Int) (y12 : Int) (y13 : Int) (y14 : Int) (y15 : Int) (y16 : Int) (y17 : Int) (y18 : Int) (y19 : Int) (y20 : Int) (y21 : Int) (y22 : Int) (y23 : Int) (y24 : Int) (y25 : Int) (y26 : Int) (y27 : Int) => iterC (codeL PP (words [(22, spec ti_fence_side to_fence_side (fun q => (ok_fence_side F (atI (nth q 0)) (atI (nth q 1)) (atI (nth q 2)) (atI (nth q 3)) (atI (nth q 4)) (atI (nth q 5)))) (fun q => [.i (o_fence_side_0 F (atI (nth q 0)) (atI (nth q 1)) (atI (nth q 2)) (atI (nth q 3)) (atI (nth q 4)) (atI (nth q 5)))]))]) c_fence_square_touches (tabI c_fence_square_touches [⟨0, T_fence_square_touches_0, fun k q => L_fence_square_touches_0 F (fun (z0 : Int) (z1 : Int) (z2 : Int) (z3 : Int) (z4 : Int) (z5 : Int) (z6 : Int) (z7 : Bool) (z8 : Int) (z9 : Int) (z10 : Int) (z11 : Int) (z12 : Int) (z13 : Int) (z14 : Int) (z15 : Int) (z16 : Int) (z17 : Int) (z18 : Int) (z19 : Int) => k .ret (fS T_fence_square_touches_0_0 [.i z0, .i z1, .i z2, .i z3, .i z4, .i z5, .i z6, .b z7, .i z8, .i z9, .i z10, .i z11, .i z12, .i z13, .i z14, .i z15, .i z16, .i z17, .i z18, .i z19])) (fun (z0 : Int) (z1 : Int) (z2 : Int) (z3 : Int) (z4 : Int) (z5 : Int) (z6 : Int) (z7 : Bool) (z8 : Int) (z9 : Int) (z10 : Int) (z11 : Int) (z12 : Int) (z13 : Int) (z14 : Int) (z15 : Int) (z16 : Int) (z17 : Int) => k (.exit 0) (fS T_fence_square_touches_0_1 [.i z0, .i z1, .i z2, .i z3, .i z4, .i z5, .i z6, .b z7, .i z8, .i z9, .i z10, .i z11, .i z12, .i z13, .i z14, .i z15, .i z16, .i z17])) F (atI (nth q 0)) (atI (nth q 1)) (atI (nth q 2)) (atI (nth q 3)) (atI (nth q 4)) (atI (nth q 5)) (atI (nth q 6)) (atB (nth q 7)) (atI (nth q 8)) (atI (nth q 9)) (atI (nth q 10)) (atI (nth q 11)) (atI (nth q 12)) (atI (nth q 13)) (atI (nth q 14)) (atI (nth q 15)) (atI (nth q 16)) (atI (nth q 17))⟩, ⟨2, T_fence_square_touches_1, fun k q => L_fence_square_touches_1 F (fun (z0 : Int) (z1 : Int) (z2 : Int) (z3 : Int) (z4 : Int) (z5 : Int) (z6 : Int) (z7 : Bool) (z8 : Int) (z9 : Int) (z10 : Int) (z11 : Int) (z12 : Int) (z13 : Int) (z14 : Int) (z15 : Int) (z16 : Int) (z17 : Int) (z18 : Int) (z19 : Int) (z20 : Int) (z21 : Int) (z22 : Int) (z23 : Int) (z24 : Int) (z25 : Int) (z26 : Int) (z27 : Int) => k (.exit 2) (fS T_fence_square_touches_1_0 [.i z0, .i z1, .i z2, .i z3, .i z4, .i z5, .i z6, .b z7, .i z8, .i z9, .i z10, .i z11, .i z12, .i z13, .i z14, .i z15, .i z16, .i z17, .i z18, .i z19, .i z20, .i z21, .i z22, .i z23, .i z24, .i z25, .i z26, .i z27])) F (atI (nth q 0)) (atI (nth q 1)) (atI (nth q 2)) (atI (nth q 3)) (atI (nth q 4)) (atI (nth q 5)) (atI (nth q 6)) (atB (nth q 7)) (atI (nth q 8)) (atI (nth q 9)) (atI (nth q 10)) (atI (nth q 11)) (atI (nth q 12)) (atI (nth q 13)) (atI (nth q 14)) (atI (nth q 15)) (atI (nth q 16)) (atI (nth q 17)) (atI (nth q 18)) (atI (nth q 19)) (atI (nth q 20)) (atI (nth q 21)) (atI (nth q 22)) (atI (nth q 23)) (atI (nth q 24)) (atI (nth q 25)) (atI (nth q 26)) (atI (nth q 27))⟩]) (tabJ []) (loopAt PP 25 1) 2) (headOf c_fence_square_touches 2) k n (fS T_fence_square_touches_1 [.i y0, .i y1, .i y2, .i y3, .i y4, .i y5, .i y6, .b y7, .i y8, .i y9, .i y10, .i y11, .i y12, .i y13, .i y14, .i y15, .i y16, .i y17, .i y18, .i y19, .i y20, .i y21, .i y22, .i y23, .i y24, .i y25, .i y26, .i y27])) (fun (z0 : Int) (z1 : Int) (z2 : Int) (z3 : Int) (z4 : Int) (z5 : Int) (z6 : Int) (z7 : Bool) (z8 : Int) (z9 : Int) (z10 : Int) (z11 : Int) (z12 : Int) (z13 : Int) (z14 : Int) (z15 : Int) (z16 : Int) (z17 : Int) (z18 : Int) (z19 : Int) (z20 : Int) (z21 : Int) (z22 : Int) (z23 : Int) (z24 : Int) (z25 : Int) (z26 : Int) (z27 : Int) => k (.exit 2) (fS T_fence_square_touches_1_0 [.i z0, .i z1, .i z2, .i z3, .i z4, .i z5, .i z6, .b z7, .i z8, .i z9, .i z10, .i z11, .i z12, .i z13, .i z14, .i z15, .i z16, .i z17, .i z18, .i z19, .i z20, .i z21, .i z22, .i z23, .i z24, .i z25, .i z26, .i z27])) x0 x1 x2 x3 x4 x5 x6 x7 x8 x9 x10 x11 x12 x13 x14 x15 x16 x17 x18 x19 x20 x21 x22 x23 x24 x25 x26 x27 := by
      intros
      kernel_rfl
    have h : iterC (codeL PP (S_fence_square_touches F) c_fence_square_touches (I_fence_square_touches F) (J_fence_square_touches F) (loopAt PP 25 1) 2) (headOf c_fence_square_touches 2) k (n + 1) (fS T_fence_square_touches_1 [.i x0, .i x1, .i x2, .i x3, .i x4, .i x5, .i x6, .b x7, .i x8, .i x9, .i x10, .i x11, .i x12, .i x13, .i x14, .i x15, .i x16, .i x17, .i x18, .i x19, .i x20, .i x21, .i x22, .i x23, .i x24, .i x25, .i x26, .i x27]) = B_fence_square_touches_1 F (fun (y0 : Int) (y1 : Int) (y2 : Int) (y3 : Int) (y4 : Int) (y5 : Int) (y6 : Int) (y7 : Bool) (y8 : Int) (y9 : Int) (y10 : Int) (y11 : Int) (y12 : Int) (y13 : Int) (y14 : Int) (y15 : Int) (y16 : Int) (y17 : Int) (y18 : Int) (y19 : Int) (y20 : Int) (y21 : Int) (y22 : Int) (y23 : Int) (y24 : Int) (y25 : Int) (y26 : Int) (y27 : Int) => iterC (codeL PP (S_fence_square_touches F) c_fence_square_touches (I_fence_square_touches F) (J_fence_square_touches F) (loopAt PP 25 1) 2) (headOf c_fence_square_touches 2) k n (fS T_fence_square_touches_1 [.i y0, .i y1, .i y2, .i y3, .i y4, .i y5, .i y6, .b y7, .i y8, .i y9, .i y10, .i y11, .i y12, .i y13, .i y14, .i y15, .i y16, .i y17, .i y18, .i y19, .i y20, .i y21, .i y22, .i y23, .i y24, .i y25, .i y26, .i y27])) (fun (z0 : Int) (z1 : Int) (z2 : Int) (z3 : Int) (z4 : Int) (z5 : Int) (z6 : Int) (z7 : Bool) (z8 : Int) (z9 : Int) (z10 : Int) (z11 : Int) (z12 : Int) (z13 : Int) (z14 : Int) (z15 : Int) (z16 : Int) (z17 : Int) (z18 : Int) (z19 : Int) (z20 : Int) (z21 : Int) (z22 : Int) (z23 : Int) (z24 : Int) (z25 : Int) (z26 : Int) (z27 : Int) => k (.exit 2) (fS T_fence_square_touches_1_0 [.i z0, .i z1, .i z2, .i z3, .i z4, .i z5, .i z6, .b z7, .i z8, .i z9, .i z10, .i z11, .i z12, .i z13, .i z14, .i z15, .i z16, .i z17, .i z18, .i z19, .i z20, .i z21, .i z22, .i z23, .i z24, .i z25, .i z26, .i z27])) x0 x1 x2 x3 x4 x5 x6 x7 x8 x9 x10 x11 x12 x13 x14 x15 x16 x17 x18 x19 x20 x21 x22 x23 x24 x25 x26 x27 := (h0 ok_fence_side o_fence_side_0 L_fence_square_touches_0 L_fence_square_touches_1).trans (by kernel_rfl)
    rw [h]
    simp only [lL_fence_square_touches_1 F k n]
    rfl
def f_fence_square_touches (F : Nat) (a0 : Int) (a1 : Int) (a2 : Int) (a3 : Int) (a4 : Int) (a5 : Int) (a6 : Int) : R :=
  L_fence_square_touches_0 F (fun (v129 : Int) (v130 : Int) (v131 : Int) (v132 : Int) (v133 : Int) (v134 : Int) (v135 : Int) (v136 : Bool) (v137 : Int) (v138 : Int) (v139 : Int) (v140 : Int) (v141 : Int) (v142 : Int) (v143 : Int) (v144 : Int) (v145 : Int) (v146 : Int) (v147 : Int) (v148 : Int) =>
    some (.v (.bool v136))) (fun (v149 : Int) (v150 : Int) (v151 : Int) (v152 : Int) (v153 : Int) (v154 : Int) (v155 : Int) (v156 : Bool) (v157 : Int) (v158 : Int) (v159 : Int) (v160 : Int) (v161 : Int) (v162 : Int) (v163 : Int) (v164 : Int) (v165 : Int) (v166 : Int) =>
    L_fence_square_touches_1 F (fun (v205 : Int) (v206 : Int) (v207 : Int) (v208 : Int) (v209 : Int) (v210 : Int) (v211 : Int) (v212 : Bool) (v213 : Int) (v214 : Int) (v215 : Int) (v216 : Int) (v217 : Int) (v218 : Int) (v219 : Int) (v220 : Int) (v221 : Int) (v222 : Int) (v223 : Int) (v224 : Int) (v225 : Int) (v226 : Int) (v227 : Int) (v228 : Int) (v229 : Int) (v230 : Int) (v231 : Int) (v232 : Int) =>
      bif ((decide (v213 > (-4)))) then (
        some (.v (.bool ((decide (v213 < 4))))))
      else (
        some (.v (.bool false)))) F v149 v150 v151 v152 v153 v154 v155 v156 0 v157 v158 v159 ((-1)) ((-1)) ((-1)) 1 1 ((-1)) 1 1 0 v160 v161 v162 v163 v164 v165 v166) F a0 a1 a2 a3 a4 a5 a6 false a0 a1 0 a0 a1 a2 a3 a4 a5 a6
theorem e_fence_square_touches (F : Nat) (a0 : Int) (a1 : Int) (a2 : Int) (a3 : Int) (a4 : Int) (a5 : Int) (a6 : Int) : funL PP (S_fence_square_touches F) c_fence_square_touches (I_fence_square_touches F) (J_fence_square_touches F) 25 (fTs ti_fence_square_touches [.i a0, .i a1, .i a2, .i a3, .i a4, .i a5, .i a6]).1 = f_fence_square_touches F a0 a1 a2 a3 a4 a5 a6 := by
  have h : ∀ (ok_fence_side : Nat → Int → Int → Int → Int → Int → Int → Bool) (o_fence_side_0 : Nat → Int → Int → Int → Int → Int → Int → Int) (L_fence_square_touches_0 : Nat → (Int → Int → Int → Int → Int → Int → Int → Bool → Int → Int → Int → Int → Int → Int → Int → Int → Int → Int → Int → Int → R) → (Int → Int → Int → Int → Int → Int → Int → Bool → Int → Int → Int → Int → Int → Int → Int → Int → Int → Int → R) → Nat → Int → Int → Int → Int → Int → Int → Int → Bool → Int → Int → Int → Int → Int → Int → Int → Int → Int → Int → R) (L_fence_square_touches_1 : Nat → (Int → Int → Int → Int → Int → Int → Int → Bool → Int → Int → Int → Int → Int → Int → Int → Int → Int → Int → Int → Int → Int → Int → Int → Int → Int → Int → Int → Int → R) → Nat → Int → Int → Int → Int → Int → Int → Int → Bool → Int → Int → Int → Int → Int → Int → Int → Int → Int → Int → Int → Int → Int → Int → Int → Int → Int → Int → Int → Int → R), funL PP (words [(22, spec ti_fence_side to_fence_side (fun q => (ok_fence_side F (atI (nth q 0)) (atI (nth q 1)) (atI (nth q 2)) (atI (nth q 3)) (atI (nth q 4)) (atI (nth q 5)))) (fun q => [.i (o_fence_side_0 F (atI (nth q 0)) (atI (nth q 1)) (atI (nth q 2)) (atI (nth q 3)) (atI (nth q 4)) (atI (nth q 5)))]))]) c_fence_square_touches (tabI c_fence_square_touches [⟨0, T_fence_square_touches_0, fun k q => L_fence_square_touches_0 F (fun (z0 : Int) (z1 : Int) (z2 : Int) (z3 : Int) (z4 : Int) (z5 : Int) (z6 : Int) (z7 : Bool) (z8 : Int) (z9 : Int) (z10 : Int) (z11 : Int) (z12 : Int) (z13 : Int) (z14 : Int) (z15 : Int) (z16 : Int) (z17 : Int) (z18 : Int) (z19 : Int) => k .ret (fS T_fence_square_touches_0_0 [.i z0, .i z1, .i z2, .i z3, .i z4, .i z5, .i z6, .b z7, .i z8, .i z9, .i z10, .i z11, .i z12, .i z13, .i z14, .i z15, .i z16, .i z17, .i z18, .i z19])) (fun (z0 : Int) (z1 : Int) (z2 : Int) (z3 : Int) (z4 : Int) (z5 : Int) (z6 : Int) (z7 : Bool) (z8 : Int) (z9 : Int) (z10 : Int) (z11 : Int) (z12 : Int) (z13 : Int) (z14 : Int) (z15 : Int) (z16 : Int) (z17 : Int) => k (.exit 0) (fS T_fence_square_touches_0_1 [.i z0, .i z1, .i z2, .i z3, .i z4, .i z5, .i z6, .b z7, .i z8, .i z9, .i z10, .i z11, .i z12, .i z13, .i z14, .i z15, .i z16, .i z17])) F (atI (nth q 0)) (atI (nth q 1)) (atI (nth q 2)) (atI (nth q 3)) (atI (nth q 4)) (atI (nth q 5)) (atI (nth q 6)) (atB (nth q 7)) (atI (nth q 8)) (atI (nth q 9)) (atI (nth q 10)) (atI (nth q 11)) (atI (nth q 12)) (atI (nth q 13)) (atI (nth q 14)) (atI (nth q 15)) (atI (nth q 16)) (atI (nth q 17))⟩, ⟨2, T_fence_square_touches_1, fun k q => L_fence_square_touches_1 F (fun (z0 : Int) (z1 : Int) (z2 : Int) (z3 : Int) (z4 : Int) (z5 : Int) (z6 : Int) (z7 : Bool) (z8 : Int) (z9 : Int) (z10 : Int) (z11 : Int) (z12 : Int) (z13 : Int) (z14 : Int) (z15 : Int) (z16 : Int) (z17 : Int) (z18 : Int) (z19 : Int) (z20 : Int) (z21 : Int) (z22 : Int) (z23 : Int) (z24 : Int) (z25 : Int) (z26 : Int) (z27 : Int) => k (.exit 2) (fS T_fence_square_touches_1_0 [.i z0, .i z1, .i z2, .i z3, .i z4, .i z5, .i z6, .b z7, .i z8, .i z9, .i z10, .i z11, .i z12, .i z13, .i z14, .i z15, .i z16, .i z17, .i z18, .i z19, .i z20, .i z21, .i z22, .i z23, .i z24, .i z25, .i z26, .i z27])) F (atI (nth q 0)) (atI (nth q 1)) (atI (nth q 2)) (atI (nth q 3)) (atI (nth q 4)) (atI (nth q 5)) (atI (nth q 6)) (atB (nth q 7)) (atI (nth q 8)) (atI (nth q 9)) (atI (nth q 10)) (atI (nth q 11)) (atI (nth q 12)) (atI (nth q 13)) (atI (nth q 14)) (atI (nth q 15)) (atI (nth q 16)) (atI (nth q 17)) (atI (nth q 18)) (atI (nth q 19)) (atI (nth q 20)) (atI (nth q 21)) (atI (nth q 22)) (atI (nth q 23)) (atI (nth q 24)) (atI (nth q 25)) (atI (nth q 26)) (atI (nth q 27))⟩]) (tabJ []) 25 (fTs ti_fence_square_touches [.i a0, .i a1, .i a2, .i a3, .i a4, .i a5, .i a6]).1 = (
  L_fence_square_touches_0 F (fun (v129 : Int) (v130 : Int) (v131 : Int) (v132 : Int) (v133 : Int) (v134 : Int) (v135 : Int) (v136 : Bool) (v137 : Int) (v138 : Int) (v139 : Int) (v140 : Int) (v141 : Int) (v142 : Int) (v143 : Int) (v144 : Int) (v145 : Int) (v146 : Int) (v147 : Int) (v148 : Int) =>
    some (.v (.bool v136))) (fun (v149 : Int) (v150 : Int) (v151 : Int) (v152 : Int) (v153 : Int) (v154 : Int) (v155 : Int) (v156 : Bool) (v157 : Int) (v158 : Int) (v159 : Int) (v160 : Int) (v161 : Int) (v162 : Int) (v163 : Int) (v164 : Int) (v165 : Int) (v166 : Int) =>
    L_fence_square_touches_1 F (fun (v205 : Int) (v206 : Int) (v207 : Int) (v208 : Int) (v209 : Int) (v210 : Int) (v211 : Int) (v212 : Bool) (v213 : Int) (v214 : Int) (v215 : Int) (v216 : Int) (v217 : Int) (v218 : Int) (v219 : Int) (v220 : Int) (v221 : Int) (v222 : Int) (v223 : Int) (v224 : Int) (v225 : Int) (v226 : Int) (v227 : Int) (v228 : Int) (v229 : Int) (v230 : Int) (v231 : Int) (v232 : Int) =>
      bif ((decide (v213 > (-4)))) then (
        some (.v (.bool ((decide (v213 < 4))))))
      else (
        some (.v (.bool false)))) F v149 v150 v151 v152 v153 v154 v155 v156 0 v157 v158 v159 ((-1)) ((-1)) ((-1)) 1 1 ((-1)) 1 1 0 v160 v161 v162 v163 v164 v165 v166) F a0 a1 a2 a3 a4 a5 a6 false a0 a1 0 a0 a1 a2 a3 a4 a5 a6 : R) := by
    intros
    kernel_rfl
  exact (h ok_fence_side o_fence_side_0 L_fence_square_touches_0 L_fence_square_touches_1).trans (by kernel_rfl)
def ok_fence_square_touches (F : Nat) (a0 : Int) (a1 : Int) (a2 : Int) (a3 : Int) (a4 : Int) (a5 : Int) (a6 : Int) : Bool := okT to_fence_square_touches (f_fence_square_touches F a0 a1 a2 a3 a4 a5 a6)
def o_fence_square_touches_0 (F : Nat) (a0 : Int) (a1 : Int) (a2 : Int) (a3 : Int) (a4 : Int) (a5 : Int) (a6 : Int) : Bool := atB (nth (outT to_fence_square_touches (f_fence_square_touches F a0 a1 a2 a3 a4 a5 a6)) 0)
theorem k_fence_square_touches (F : Nat) (a0 : Int) (a1 : Int) (a2 : Int) (a3 : Int) (a4 : Int) (a5 : Int) (a6 : Int) {z0 : Bool} (h : f_fence_square_touches F a0 a1 a2 a3 a4 a5 a6 = some (.v (.bool z0))) : ok_fence_square_touches F a0 a1 a2 a3 a4 a5 a6 = true ∧ o_fence_square_touches_0 F a0 a1 a2 a3 a4 a5 a6 = z0 := by
  refine ⟨?_, ?_⟩
  · unfold ok_fence_square_touches; rw [h]; kernel_rfl
  · unfold o_fence_square_touches_0; rw [h]; kernel_rfl
def s_fence_square_touches (F : Nat) : List VV → Option (Bool × VV) := spec ti_fence_square_touches to_fence_square_touches (fun q => (ok_fence_square_touches F (atI (nth q 0)) (atI (nth q 1)) (atI (nth q 2)) (atI (nth q 3)) (atI (nth q 4)) (atI (nth q 5)) (atI (nth q 6)))) (fun q => [.b (o_fence_square_touches_0 F (atI (nth q 0)) (atI (nth q 1)) (atI (nth q 2)) (atI (nth q 3)) (atI (nth q 4)) (atI (nth q 5)) (atI (nth q 6)))])
theorem hS_fence_square_touches (F : Nat) : ∀ f, Good PP f (unS (S_fence_square_touches F f)) := words_good fun p hp => by
  simp only [List.mem_cons, List.not_mem_nil, or_false] at hp
  rcases hp with rfl
  · exact g_fence_side F
theorem hl_fence_square_touches (F : Nat) : ∀ p ∈ loopsIn PP 25, LoopOK PP (S_fence_square_touches F) c_fence_square_touches F (I_fence_square_touches F) (J_fence_square_touches F) p :=
  loops_of [(0, loopAt PP 25 0), (2, loopAt PP 25 1)] (by kernel_rfl) (all_cons
    (loop_ok (W_fence_square_touches F) rfl (tab_cons (fun _ k q => Le.ofEq ((lL_fence_square_touches_0 F k F (atI (nth q 0)) (atI (nth q 1)) (atI (nth q 2)) (atI (nth q 3)) (atI (nth q 4)) (atI (nth q 5)) (atI (nth q 6)) (atB (nth q 7)) (atI (nth q 8)) (atI (nth q 9)) (atI (nth q 10)) (atI (nth q 11)) (atI (nth q 12)) (atI (nth q 13)) (atI (nth q 14)) (atI (nth q 15)) (atI (nth q 16)) (atI (nth q 17))).symm.trans (congrArg (iterC (codeL PP (S_fence_square_touches F) c_fence_square_touches (I_fence_square_touches F) (J_fence_square_touches F) (loopAt PP 25 0) 0) (headOf c_fence_square_touches 0) k F) (show fS T_fence_square_touches_0 [.i (atI (nth q 0)), .i (atI (nth q 1)), .i (atI (nth q 2)), .i (atI (nth q 3)), .i (atI (nth q 4)), .i (atI (nth q 5)), .i (atI (nth q 6)), .b (atB (nth q 7)), .i (atI (nth q 8)), .i (atI (nth q 9)), .i (atI (nth q 10)), .i (atI (nth q 11)), .i (atI (nth q 12)), .i (atI (nth q 13)), .i (atI (nth q 14)), .i (atI (nth q 15)), .i (atI (nth q 16)), .i (atI (nth q 17))] = fS T_fence_square_touches_0 q by kernel_rfl)))) (tab_cons (fun h => absurd h (by decide)) tab_nil))) (all_cons
    (loop_ok (W_fence_square_touches F) rfl (tab_cons (fun h => absurd h (by decide)) (tab_cons (fun _ k q => Le.ofEq ((lL_fence_square_touches_1 F k F (atI (nth q 0)) (atI (nth q 1)) (atI (nth q 2)) (atI (nth q 3)) (atI (nth q 4)) (atI (nth q 5)) (atI (nth q 6)) (atB (nth q 7)) (atI (nth q 8)) (atI (nth q 9)) (atI (nth q 10)) (atI (nth q 11)) (atI (nth q 12)) (atI (nth q 13)) (atI (nth q 14)) (atI (nth q 15)) (atI (nth q 16)) (atI (nth q 17)) (atI (nth q 18)) (atI (nth q 19)) (atI (nth q 20)) (atI (nth q 21)) (atI (nth q 22)) (atI (nth q 23)) (atI (nth q 24)) (atI (nth q 25)) (atI (nth q 26)) (atI (nth q 27))).symm.trans (congrArg (iterC (codeL PP (S_fence_square_touches F) c_fence_square_touches (I_fence_square_touches F) (J_fence_square_touches F) (loopAt PP 25 1) 2) (headOf c_fence_square_touches 2) k F) (show fS T_fence_square_touches_1 [.i (atI (nth q 0)), .i (atI (nth q 1)), .i (atI (nth q 2)), .i (atI (nth q 3)), .i (atI (nth q 4)), .i (atI (nth q 5)), .i (atI (nth q 6)), .b (atB (nth q 7)), .i (atI (nth q 8)), .i (atI (nth q 9)), .i (atI (nth q 10)), .i (atI (nth q 11)), .i (atI (nth q 12)), .i (atI (nth q 13)), .i (atI (nth q 14)), .i (atI (nth q 15)), .i (atI (nth q 16)), .i (atI (nth q 17)), .i (atI (nth q 18)), .i (atI (nth q 19)), .i (atI (nth q 20)), .i (atI (nth q 21)), .i (atI (nth q 22)), .i (atI (nth q 23)), .i (atI (nth q 24)), .i (atI (nth q 25)), .i (atI (nth q 26)), .i (atI (nth q 27))] = fS T_fence_square_touches_1 q by kernel_rfl)))) tab_nil))) all_nil))
theorem hj_fence_square_touches (F : Nat) : ∀ p ∈ joinsIn PP c_fence_square_touches 25, JoinOK PP (S_fence_square_touches F) c_fence_square_touches (I_fence_square_touches F) (J_fence_square_touches F) p :=
  joins_of [] (by kernel_rfl) all_nil
theorem g_fence_square_touches (F : Nat) : Good PP 25 (unS (s_fence_square_touches F)) :=
  fun_spec (hS_fence_square_touches F) (by kernel_rfl) (by kernel_rfl) (C := c_fence_square_touches) (F := fun q => (f_fence_square_touches F (atI (nth q 0)) (atI (nth q 1)) (atI (nth q 2)) (atI (nth q 3)) (atI (nth q 4)) (atI (nth q 5)) (atI (nth q 6)))) (fun _ => F) (fun _ => I_fence_square_touches F) (fun _ => J_fence_square_touches F) (fun _ => hl_fence_square_touches F) (fun _ => hj_fence_square_touches F)
    (fun q => (congrArg (funL PP (S_fence_square_touches F) c_fence_square_touches (I_fence_square_touches F) (J_fence_square_touches F) 25) (show (fTs ti_fence_square_touches q).1 = (fTs ti_fence_square_touches [.i (atI (nth q 0)), .i (atI (nth q 1)), .i (atI (nth q 2)), .i (atI (nth q 3)), .i (atI (nth q 4)), .i (atI (nth q 5)), .i (atI (nth q 6))]).1 by kernel_rfl)).trans (e_fence_square_touches F (atI (nth q 0)) (atI (nth q 1)) (atI (nth q 2)) (atI (nth q 3)) (atI (nth q 4)) (atI (nth q 5)) (atI (nth q 6))))
    (fun _ h => okT_fill' h (by kernel_rfl))

end Go.Xv
namespace Go.Xv

def apB (x y l h : Int) : Bool := (decide (x < l) && decide (y < l)) || (decide (h < x) && decide (h < y))
def cnr (p : Pt) (r : Int) : Nat → Pt
  | 0 => (p.1 - r, p.2 - r)
  | 1 => (p.1 - r, p.2 + r)
  | 2 => (p.1 + r, p.2 - r)
  | _ => (p.1 + r, p.2 + r)
def posB (a b p : Pt) (r : Int) : Bool := decide (0 < cross a b (cnr p r 0)) && decide (0 < cross a b (cnr p r 1)) && decide (0 < cross a b (cnr p r 2)) && decide (0 < cross a b (cnr p r 3))
def negB (a b p : Pt) (r : Int) : Bool := decide (cross a b (cnr p r 0) < 0) && decide (cross a b (cnr p r 1) < 0) && decide (cross a b (cnr p r 2) < 0) && decide (cross a b (cnr p r 3) < 0)
/-- a square touches an edge. -/
def touchB (a b p : Pt) (r : Int) : Bool := !apB a.1 b.1 (p.1 - r) (p.1 + r) && !apB a.2 b.2 (p.2 - r) (p.2 + r) && !posB a b p r && !negB a b p r

structure OkR (r : Int) : Prop where
  a : 0 ≤ r
  b : r ≤ 1152921504606846976
theorem cnr_near {p : Pt} {r : Int} (hp : OkP p) (hr : OkR r) (i : Nat) : NearP (cnr p r i) := by
  obtain ⟨p1, p2, p3, p4⟩ := hp
  obtain ⟨r1, r2⟩ := hr
  unfold cnr
  split <;> exact ⟨by simp only; omega, by simp only; omega, by simp only; omega, by simp only; omega⟩
theorem mx_lt {x y l : Int} : ((if y > x then y else x) < l) ↔ (x < l ∧ y < l) := by split <;> omega
theorem mn_gt {x y h : Int} : ((if y < x then y else x) > h) ↔ (h < x ∧ h < y) := by split <;> omega
theorem sgn_bd (x : Int) : -1 ≤ sgn x ∧ sgn x ≤ 1 := by unfold sgn; split <;> (try split) <;> omega
theorem sgn_pos {x : Int} : sgn x = 1 ↔ 0 < x := by unfold sgn; split <;> (try split) <;> omega
theorem sgn_neg {x : Int} : sgn x = -1 ↔ x < 0 := by unfold sgn; split <;> (try split) <;> omega

theorem apB_bif {α : Type} {x y l h : Int} (s u : α) : (bif decide ((if y > x then y else x) < l) then s else bif decide ((if y < x then y else x) > h) then s else u) = bif apB x y l h then s else u := by
  unfold apB
  by_cases h1 : x < l ∧ y < l
  · rw [dt (mx_lt.2 h1), dt h1.1, dt h1.2]; rfl
  · rw [df (fun e => h1 (mx_lt.1 e))]
    have e1 : (decide (x < l) && decide (y < l)) = false := by
      rw [Bool.and_eq_false_iff]
      by_cases q : x < l
      · exact .inr (df fun e => h1 ⟨q, e⟩)
      · exact .inl (df q)
    rw [e1, Bool.false_or]
    by_cases h2 : h < x ∧ h < y
    · rw [dt (mn_gt.2 h2), dt h2.1, dt h2.2]; rfl
    · rw [df (fun e => h2 (mn_gt.1 e))]
      have e2 : (decide (h < x) && decide (h < y)) = false := by
        rw [Bool.and_eq_false_iff]
        by_cases q : h < x
        · exact .inr (df fun e => h2 ⟨q, e⟩)
        · exact .inl (df q)
      rw [e2]; rfl

theorem ts0 (F : Nat) (ex0) (ex1) (n : Nat) (p1 p2 r a1 a2 b1 b2 : Int) : L_fence_square_touches_0 F ex0 ex1 (n + 1) p1 p2 r a1 a2 b1 b2 false p1 p2 0 p1 p2 r a1 a2 b1 b2 =
    bif decide ((if b1 > a1 then b1 else a1) < IntKind.wrap .i64 (p1 - r)) then ex0 p1 p2 r a1 a2 b1 b2 false 0 p1 p1 p2 0 p1 p2 r a1 a2 b1 b2
    else bif decide ((if b1 < a1 then b1 else a1) > IntKind.wrap .i64 (p1 + r)) then ex0 p1 p2 r a1 a2 b1 b2 false 0 p1 p1 p2 0 p1 p2 r a1 a2 b1 b2
    else L_fence_square_touches_0 F ex0 ex1 n p1 p2 r a1 a2 b1 b2 false p1 p2 1 p1 p2 r a1 a2 b1 b2 := by kernel_rfl
theorem ts1 (F : Nat) (ex0) (ex1) (n : Nat) (p1 p2 r a1 a2 b1 b2 : Int) : L_fence_square_touches_0 F ex0 ex1 (n + 2) p1 p2 r a1 a2 b1 b2 false p1 p2 1 p1 p2 r a1 a2 b1 b2 =
    bif decide ((if b2 > a2 then b2 else a2) < IntKind.wrap .i64 (p2 - r)) then ex0 p1 p2 r a1 a2 b1 b2 false 1 p2 p1 p2 1 p1 p2 r a1 a2 b1 b2
    else bif decide ((if b2 < a2 then b2 else a2) > IntKind.wrap .i64 (p2 + r)) then ex0 p1 p2 r a1 a2 b1 b2 false 1 p2 p1 p2 1 p1 p2 r a1 a2 b1 b2
    else ex1 p1 p2 r a1 a2 b1 b2 false p1 p2 2 p1 p2 r a1 a2 b1 b2 := by kernel_rfl
theorem tsq (F : Nat) (ex) (n : Nat) (x0 x1 x2 x3 x4 x5 x6 x9 x10 x11 p1 p2 r a1 a2 b1 b2 : Int) (s0 s1 s2 s3 : Int) (hs0 : -1 ≤ s0 ∧ s0 ≤ 1) (hs1 : -1 ≤ s1 ∧ s1 ≤ 1) (hs2 : -1 ≤ s2 ∧ s2 ≤ 1) (hs3 : -1 ≤ s3 ∧ s3 ≤ 1)
    (m1 : IntKind.wrap .i64 (p1 + IntKind.wrap .i64 ((-1) * r)) = p1 - r) (m2 : IntKind.wrap .i64 (p1 + IntKind.wrap .i64 (1 * r)) = p1 + r)
    (m3 : IntKind.wrap .i64 (p2 + IntKind.wrap .i64 ((-1) * r)) = p2 - r) (m4 : IntKind.wrap .i64 (p2 + IntKind.wrap .i64 (1 * r)) = p2 + r)
    (k0 : ok_fence_side F a1 a2 b1 b2 (p1 - r) (p2 - r) = true ∧ o_fence_side_0 F a1 a2 b1 b2 (p1 - r) (p2 - r) = s0)
    (k1 : ok_fence_side F a1 a2 b1 b2 (p1 - r) (p2 + r) = true ∧ o_fence_side_0 F a1 a2 b1 b2 (p1 - r) (p2 + r) = s1)
    (k2 : ok_fence_side F a1 a2 b1 b2 (p1 + r) (p2 - r) = true ∧ o_fence_side_0 F a1 a2 b1 b2 (p1 + r) (p2 - r) = s2)
    (k3 : ok_fence_side F a1 a2 b1 b2 (p1 + r) (p2 + r) = true ∧ o_fence_side_0 F a1 a2 b1 b2 (p1 + r) (p2 + r) = s3) :
    L_fence_square_touches_1 F ex (n + 5) x0 x1 x2 x3 x4 x5 x6 false 0 x9 x10 x11 (-1) (-1) (-1) 1 1 (-1) 1 1 0 p1 p2 r a1 a2 b1 b2 =
      ex x0 x1 x2 x3 x4 x5 x6 false (s0 + s1 + s2 + s3) x9 x10 x11 (-1) (-1) (-1) 1 1 (-1) 1 1 4 p1 p2 r a1 a2 b1 b2 := by
  have st : ∀ (n i : Nat) (s c d p q : Int) (x y : Int), i < 4 → [VV.v (.int .i64 (-1)), VV.v (.int .i64 (-1)), VV.v (.int .i64 (-1)), VV.v (.int .i64 1), VV.v (.int .i64 1), VV.v (.int .i64 (-1)), VV.v (.int .i64 1), VV.v (.int .i64 1)][i * 2]? = some (.v (.int .i64 c)) →
      [VV.v (.int .i64 (-1)), VV.v (.int .i64 (-1)), VV.v (.int .i64 (-1)), VV.v (.int .i64 1), VV.v (.int .i64 1), VV.v (.int .i64 (-1)), VV.v (.int .i64 1), VV.v (.int .i64 1)][i * 2 + 1]? = some (.v (.int .i64 d)) →
      IntKind.wrap .i64 (p1 + IntKind.wrap .i64 (c * r)) = x → IntKind.wrap .i64 (p2 + IntKind.wrap .i64 (d * r)) = y → ok_fence_side F a1 a2 b1 b2 x y = true → o_fence_side_0 F a1 a2 b1 b2 x y = q → I64 (s + q) →
      L_fence_square_touches_1 F ex (n + 1) x0 x1 x2 x3 x4 x5 x6 false s x9 x10 x11 (-1) (-1) (-1) 1 1 (-1) 1 1 (i : Int) p1 p2 r a1 a2 b1 b2 = L_fence_square_touches_1 F ex n x0 x1 x2 x3 x4 x5 x6 false (s + q) x9 x10 x11 (-1) (-1) (-1) 1 1 (-1) 1 1 ((i + 1 : Nat) : Int) p1 p2 r a1 a2 b1 b2 := by
    intro n i s c d p q x y hi hc hd hx hy hk ho hI
    rw [L_fence_square_touches_1, B_fence_square_touches_1]
    simp only [Int.toNat_natCast, hc, hd, isI, iv, hx, hy, ho, wi64_in hI]
    refine (bp (dt (by omega)) (bp ?_ (bp hk ?_)))
    · simp only [decide_true, Bool.and_true, Bool.and_eq_true, decide_eq_true_eq]; omega
    · rw [show IntKind.wrap .i64 ((i : Int) + 1) = ((i + 1 : Nat) : Int) by rw [wi64_in (by unfold I64; omega)]; simp]
  rw [show (0 : Int) = ((0 : Nat) : Int) by rfl]
  rw [show n + 5 = (n + 4) + 1 by rfl, st (n + 4) 0 _ (-1) (-1) 0 s0 _ _ (by omega) rfl rfl m1 m3 k0.1 k0.2 (by unfold I64; omega)]
  rw [show n + 4 = (n + 3) + 1 by rfl, st (n + 3) 1 _ (-1) 1 0 s1 _ _ (by omega) rfl rfl m1 m4 k1.1 k1.2 (by unfold I64; omega)]
  rw [show n + 3 = (n + 2) + 1 by rfl, st (n + 2) 2 _ 1 (-1) 0 s2 _ _ (by omega) rfl rfl m2 m3 k2.1 k2.2 (by unfold I64; omega)]
  rw [show n + 2 = (n + 1) + 1 by rfl, st (n + 1) 3 _ 1 1 0 s3 _ _ (by omega) rfl rfl m2 m4 k3.1 k3.2 (by unfold I64; omega)]
  rw [L_fence_square_touches_1, B_fence_square_touches_1]
  refine (bn (df (by omega)) ?_)
  simp

theorem sum4 {x0 x1 x2 x3 : Int} : (decide (sgn x0 + sgn x1 + sgn x2 + sgn x3 > -4) && decide (sgn x0 + sgn x1 + sgn x2 + sgn x3 < 4)) =
    (!(decide (0 < x0) && decide (0 < x1) && decide (0 < x2) && decide (0 < x3)) && !(decide (x0 < 0) && decide (x1 < 0) && decide (x2 < 0) && decide (x3 < 0))) := by
  have p : ∀ x : Int, decide (0 < x) = decide (sgn x = 1) := fun x => by simp only [sgn_pos]
  have q : ∀ x : Int, decide (x < 0) = decide (sgn x = -1) := fun x => by simp only [sgn_neg]
  simp only [p, q]
  have := sgn_bd x0
  have := sgn_bd x1
  have := sgn_bd x2
  have := sgn_bd x3
  rw [Bool.eq_iff_iff]
  simp only [Bool.and_eq_true, Bool.not_eq_true', Bool.and_eq_false_iff, decide_eq_true_eq, decide_eq_false_iff_not]
  omega

theorem f_touches (F : Nat) (hF : 200 ≤ F) {p a b : Pt} {r : Int} (hp : OkP p) (hr : OkR r) (ha : OkP a) (hb : OkP b) :
    f_fence_square_touches F p.1 p.2 r a.1 a.2 b.1 b.2 = some (.v (.bool (touchB a b p r))) := by
  have s0 := a_side F ha hb (cnr_near hp hr 0)
  have s1 := a_side F ha hb (cnr_near hp hr 1)
  have s2 := a_side F ha hb (cnr_near hp hr 2)
  have s3 := a_side F ha hb (cnr_near hp hr 3)
  simp only [cnr] at s0 s1 s2 s3
  obtain ⟨p1, p2, p3, p4⟩ := hp
  obtain ⟨r1, r2⟩ := hr
  obtain ⟨n, hn⟩ : ∃ n, F = n + 6 := ⟨F - 6, by omega⟩
  unfold f_fence_square_touches touchB
  have e1 : IntKind.wrap .i64 (p.1 - r) = p.1 - r := wi64_in (by unfold I64; omega)
  have e2 : IntKind.wrap .i64 (p.1 + r) = p.1 + r := wi64_in (by unfold I64; omega)
  have e3 : IntKind.wrap .i64 (p.2 - r) = p.2 - r := wi64_in (by unfold I64; omega)
  have e4 : IntKind.wrap .i64 (p.2 + r) = p.2 + r := wi64_in (by unfold I64; omega)
  have n1 : IntKind.wrap .i64 ((-1) * r) = -r := by rw [wi64_in (by unfold I64; omega)]; omega
  have n2 : IntKind.wrap .i64 (1 * r) = r := by rw [wi64_in (by unfold I64; omega)]; omega
  have hL : ∀ ex0 ex1, L_fence_square_touches_0 F ex0 ex1 F p.1 p.2 r a.1 a.2 b.1 b.2 false p.1 p.2 0 p.1 p.2 r a.1 a.2 b.1 b.2 =
      bif apB a.1 b.1 (p.1 - r) (p.1 + r) then ex0 p.1 p.2 r a.1 a.2 b.1 b.2 false 0 p.1 p.1 p.2 0 p.1 p.2 r a.1 a.2 b.1 b.2
      else bif apB a.2 b.2 (p.2 - r) (p.2 + r) then ex0 p.1 p.2 r a.1 a.2 b.1 b.2 false 1 p.2 p.1 p.2 1 p.1 p.2 r a.1 a.2 b.1 b.2 else ex1 p.1 p.2 r a.1 a.2 b.1 b.2 false p.1 p.2 2 p.1 p.2 r a.1 a.2 b.1 b.2 := by
    intro ex0 ex1
    rw [show L_fence_square_touches_0 F ex0 ex1 F = L_fence_square_touches_0 F ex0 ex1 ((n + 3) + 2 + 1) by rw [hn]]
    rw [ts0, e1, e2, apB_bif, ts1, e3, e4, apB_bif]
  rw [hL]
  clear hL
  cases apB a.1 b.1 (p.1 - r) (p.1 + r) with
  | true => rfl
  | false =>
    cases apB a.2 b.2 (p.2 - r) (p.2 + r) with
    | true => rfl
    | false =>
      simp only [cond_false, Bool.not_false, Bool.true_and]
      have hq := fun ex => tsq F ex (n + 1) p.1 p.2 r a.1 a.2 b.1 b.2 p.1 p.2 2 p.1 p.2 r a.1 a.2 b.1 b.2 _ _ _ _ (sgn_bd _) (sgn_bd _) (sgn_bd _) (sgn_bd _)
        (by rw [n1, ← Int.sub_eq_add_neg, e1]) (by rw [n2, e2]) (by rw [n1, ← Int.sub_eq_add_neg, e3]) (by rw [n2, e4]) s0 s1 s2 s3
      rw [show n + 1 + 5 = F by omega] at hq
      rw [hq]
      unfold posB negB
      simp only [cnr]
      rw [← sum4]
      cases decide (sgn (cross a b (p.1 - r, p.2 - r)) + sgn (cross a b (p.1 - r, p.2 + r)) + sgn (cross a b (p.1 + r, p.2 - r)) + sgn (cross a b (p.1 + r, p.2 + r)) > -4) <;> rfl
theorem a_touches (F : Nat) (hF : 200 ≤ F) {p a b : Pt} {r : Int} (hp : OkP p) (hr : OkR r) (ha : OkP a) (hb : OkP b) :
    ok_fence_square_touches F p.1 p.2 r a.1 a.2 b.1 b.2 = true ∧ o_fence_square_touches_0 F p.1 p.2 r a.1 a.2 b.1 b.2 = touchB a b p r := k_fence_square_touches F _ _ _ _ _ _ _ (f_touches F hF hp hr ha hb)
end Go.Xv
namespace Go.Xv

def cellsP : List Pt → List VV
  | [] => []
  | p :: r => .v (.int .i64 p.1) :: .v (.int .i64 p.2) :: cellsP r
theorem cellsP_get : ∀ (zs : List Pt) (k : Nat), k < zs.length → (cellsP zs)[k * 2]? = some (.v (.int .i64 (at0 zs k).1)) ∧ (cellsP zs)[k * 2 + 1]? = some (.v (.int .i64 (at0 zs k).2))
  | [], k, h => by simp at h
  | p :: r, 0, _ => by simp [cellsP, at0]
  | p :: r, k + 1, h => by
    have := cellsP_get r k (by simpa using h)
    rw [show (k + 1) * 2 = k * 2 + 2 by omega, show k * 2 + 2 + 1 = k * 2 + 1 + 2 by omega]
    simpa [cellsP, at0] using this
theorem cellsP_len : ∀ (zs : List Pt), (cellsP zs).length = zs.length * 2
  | [] => rfl
  | _ :: r => by have := cellsP_len r; simp [cellsP, this]; omega
/-- whether a zone's corner may be: a point, and not the next one. -/
def cornB (zs : List Pt) (k : Nat) : Bool := rightB (at0 zs k) && !decide (at0 zs k = at0 zs ((k + 1) % zs.length))
def checkB (zs : List Pt) (fl rf : Int) : Bool := decide (3 ≤ zs.length) && decide (zs.length ≤ 16) && decide (fl ≤ rf) && allN (cornB zs) 0 zs.length
structure Sound (zs : List Pt) : Prop where
  lo : 3 ≤ zs.length
  hi : zs.length ≤ 16
  ok : ∀ k, OkP (at0 zs k)
  ne : ∀ k, k < zs.length → at0 zs k ≠ at0 zs ((k + 1) % zs.length)
theorem checkB_sound {zs : List Pt} {fl rf : Int} (h : checkB zs fl rf = true) : Sound zs ∧ fl ≤ rf := by
  unfold checkB at h
  simp only [Bool.and_eq_true, decide_eq_true_eq, allN_iff] at h
  obtain ⟨⟨⟨h1, h2⟩, h3⟩, h4⟩ := h
  refine ⟨⟨h1, h2, fun k => ?_, fun k hk => ?_⟩, h3⟩
  · by_cases hk : k < zs.length
    · have := h4 k (by omega) (by omega)
      simp only [cornB, Bool.and_eq_true] at this
      exact rightB_iff.1 this.1
    · have : at0 zs k = (0, 0) := by simp [at0, List.getElem?_eq_none (Nat.le_of_not_lt hk)]
      rw [this]
      exact ⟨by decide, by decide, by decide, by decide⟩
  · have := h4 k (by omega) (by omega)
    simp only [cornB, Bool.and_eq_true, Bool.not_eq_true', decide_eq_false_iff_not] at this
    exact this.2
theorem checkB_of {zs : List Pt} {fl rf : Int} (h : Sound zs) (hf : fl ≤ rf) : checkB zs fl rf = true := by
  unfold checkB
  simp only [Bool.and_eq_true, decide_eq_true_eq, allN_iff]
  exact ⟨⟨⟨h.lo, h.hi⟩, hf⟩, fun k _ hk => by simp only [cornB, Bool.and_eq_true, Bool.not_eq_true', decide_eq_false_iff_not]; exact ⟨rightB_iff.2 (h.ok k), h.ne k (by omega)⟩⟩

theorem ptEq (p q : Pt) : ((p.1 == q.1) && (p.2 == q.2)) = decide (p = q) := by
  by_cases h : p = q
  · subst h; simp
  · rw [df h]
    cases h1 : p.1 == q.1 with
    | false => rfl
    | true =>
      cases h2 : p.2 == q.2 with
      | false => rfl
      | true => exact absurd (Prod.ext (by simpa using h1) (by simpa using h2)) h

end Go.Xv
namespace Go.Xv

def touchesB (zs : List Pt) (p : Pt) (r : Int) : Bool := anyN (fun k => touchB (edge zs k).1 (edge zs k).2 p r) 0 zs.length
def mayB (zs : List Pt) (fl rf : Int) (p : Pt) (r : Int) : Bool := checkB zs fl rf && rightB p && (decide (0 ≤ r) && decide (r ≤ 1152921504606846976))
theorem mayB_sound {zs : List Pt} {fl rf : Int} {p : Pt} {r : Int} (h : mayB zs fl rf p r = true) : Sound zs ∧ fl ≤ rf ∧ OkP p ∧ OkR r := by
  unfold mayB at h
  simp only [Bool.and_eq_true, decide_eq_true_eq] at h
  obtain ⟨⟨h1, h2⟩, h3, h4⟩ := h
  obtain ⟨k1, k2⟩ := checkB_sound h1
  exact ⟨k1, k2, rightB_iff.1 h2, ⟨h3, h4⟩⟩
theorem mayB_of {zs : List Pt} {fl rf : Int} {p : Pt} {r : Int} (h : Sound zs) (hf : fl ≤ rf) (hp : OkP p) (hr : OkR r) : mayB zs fl rf p r = true := by
  unfold mayB
  rw [checkB_of h hf, rightB_iff.2 hp, dt hr.a, dt hr.b]
  rfl
/-- an edge crosses the ray. -/
def crossB (a b p : Pt) : Bool := (decide (a.2 > p.2) != decide (b.2 > p.2)) && (decide (0 < cross a b p) == decide (b.2 > p.2))
def withinB (zs : List Pt) (p : Pt) : Bool := touchesB zs p 0 || decide (cntN (fun k => crossB (edge zs k).1 (edge zs k).2 p) 0 zs.length % 2 = 1)

theorem cross_swap (a b p : Pt) : cross b a p = -cross a b p := by unfold cross; grind
theorem touch0 (a b p : Pt) : touchB a b p 0 = (!apB a.1 b.1 p.1 p.1 && !apB a.2 b.2 p.2 p.2 && decide (cross a b p = 0)) := by
  unfold touchB posB negB
  simp only [cnr, Int.sub_zero, Int.add_zero]
  have : (!decide (0 < cross a b (p.1, p.2)) && !decide (cross a b (p.1, p.2) < 0)) = decide (cross a b p = 0) := by
    show (!decide (0 < cross a b p) && !decide (cross a b p < 0)) = decide (cross a b p = 0)
    rw [Bool.eq_iff_iff]
    simp only [Bool.and_eq_true, Bool.not_eq_true', decide_eq_false_iff_not, decide_eq_true_eq]
    omega
  rw [← this]
  simp only [Bool.and_self, Bool.and_assoc]
end Go.Xv
namespace Go.Xv
open Go.RowKit Go.Shelf

theorem Good.plain {P : Program} {f : FuncId} {g : List VV → Option VV} (hg : Good P f g) (xs : List Value) (y : Value) (h : g (xs.map .v) = some (.v y)) (w : World) :
    Calls P f xs.toArray w fun e w' => e = .returned y ∧ Below w.heap.size w w' := by
  obtain ⟨_, hk⟩ := hg _ _ h
  refine (hk w xs.toArray (fun _ => False) (fun _ h => h.elim) (by simp) (fun i x hx => ?_)).mono ?_
  · simp only [List.getElem?_map, Option.map_eq_some_iff] at hx
    obtain ⟨v, hv, rfl⟩ := hx
    exact ⟨v, by simpa using hv, .v _ _⟩
  · rintro e w' ⟨v, rfl, hb, hr⟩
    obtain rfl := hr.1.v_inv
    exact ⟨rfl, hb⟩

theorem right_calls (x y : Int) (w : World) : CallsIn Fence.wide 0 PP 33 #[.agg #[.int .i64 x, .int .i64 y]] w fun e w' => e = .returned (.bool (rightB (x, y))) ∧ Below w.heap.size w w' := by
  refine callsIn_wide.2 (Good.plain (g_fence_Point_right 200) [.agg #[.int .i64 x, .int .i64 y]] _ ?_ w)
  obtain ⟨h1, h2⟩ := a_right 200 (Nat.le_refl _) x y
  have e : s_fence_Point_right 200 [.v (.agg #[.int .i64 x, .int .i64 y])] = some (ok_fence_Point_right 200 x y, .v (.bool (o_fence_Point_right_0 200 x y))) := by kernel_rfl
  rw [h1, h2] at e
  show unS (s_fence_Point_right 200) [.v (.agg #[.int .i64 x, .int .i64 y])] = _
  unfold unS
  rw [e]
theorem touches_calls {a b p : Pt} {r : Int} (hp : OkP p) (hr : OkR r) (ha : OkP a) (hb : OkP b) (w : World) : CallsIn Fence.wide 0 PP 25 #[.agg #[.int .i64 p.1, .int .i64 p.2, .int .i64 r], .agg #[.int .i64 a.1, .int .i64 a.2], .agg #[.int .i64 b.1, .int .i64 b.2]] w
    fun e w' => e = .returned (.bool (touchB a b p r)) ∧ Below w.heap.size w w' := by
  refine callsIn_wide.2 (Good.plain (g_fence_square_touches 200) [.agg #[.int .i64 p.1, .int .i64 p.2, .int .i64 r], .agg #[.int .i64 a.1, .int .i64 a.2], .agg #[.int .i64 b.1, .int .i64 b.2]] _ ?_ w)
  obtain ⟨h1, h2⟩ := a_touches 200 (Nat.le_refl _) hp hr ha hb
  have e : s_fence_square_touches 200 [.v (.agg #[.int .i64 p.1, .int .i64 p.2, .int .i64 r]), .v (.agg #[.int .i64 a.1, .int .i64 a.2]), .v (.agg #[.int .i64 b.1, .int .i64 b.2])] = some (ok_fence_square_touches 200 p.1 p.2 r a.1 a.2 b.1 b.2, .v (.bool (o_fence_square_touches_0 200 p.1 p.2 r a.1 a.2 b.1 b.2))) := by kernel_rfl
  rw [h1, h2] at e
  show unS (s_fence_square_touches 200) [.v (.agg #[.int .i64 p.1, .int .i64 p.2, .int .i64 r]), .v (.agg #[.int .i64 a.1, .int .i64 a.2]), .v (.agg #[.int .i64 b.1, .int .i64 b.2])] = _
  unfold unS
  rw [e]
theorem side_calls {a b p : Pt} (hp : OkP p) (ha : OkP a) (hb : OkP b) (w : World) : CallsIn Fence.wide 0 PP 22 #[.agg #[.int .i64 a.1, .int .i64 a.2], .agg #[.int .i64 b.1, .int .i64 b.2], .agg #[.int .i64 p.1, .int .i64 p.2]] w
    fun e w' => e = .returned (.int .i64 (sgn (cross a b p))) ∧ Below w.heap.size w w' := by
  refine callsIn_wide.2 (Good.plain (g_fence_side 200) [.agg #[.int .i64 a.1, .int .i64 a.2], .agg #[.int .i64 b.1, .int .i64 b.2], .agg #[.int .i64 p.1, .int .i64 p.2]] _ ?_ w)
  obtain ⟨h1, h2⟩ := a_side 200 ha hb hp.near
  have e : s_fence_side 200 [.v (.agg #[.int .i64 a.1, .int .i64 a.2]), .v (.agg #[.int .i64 b.1, .int .i64 b.2]), .v (.agg #[.int .i64 p.1, .int .i64 p.2])] = some (ok_fence_side 200 a.1 a.2 b.1 b.2 p.1 p.2, .v (.int .i64 (o_fence_side_0 200 a.1 a.2 b.1 b.2 p.1 p.2))) := by kernel_rfl
  rw [h1, h2] at e
  show unS (s_fence_side 200) [.v (.agg #[.int .i64 a.1, .int .i64 a.2]), .v (.agg #[.int .i64 b.1, .int .i64 b.2]), .v (.agg #[.int .i64 p.1, .int .i64 p.2])] = _
  unfold unS
  rw [e]

/-- a zone's value, whose corners lie in w. -/
structure ZIn (w : World) (zs : List Pt) (a : Option Addr) (cap : Nat) : Prop where
  hl : zs.length ≤ 1000
  hc : zs.length ≤ cap
  h : ∃ b q, (0 < cap → a = some ⟨b, q, none⟩) ∧ (0 < zs.length → b < w.heap.size ∧ Lies w b q zs)
theorem ZIn.pos {w : World} {zs : List Pt} {a : Option Addr} {cap : Nat} (h : ZIn w zs a cap) (hp : 0 < zs.length) : ∃ b q, a = some ⟨b, q, none⟩ ∧ b < w.heap.size ∧ Lies w b q zs := by
  obtain ⟨b, q, h1, h2⟩ := h.h
  exact ⟨b, q, h1 (by have := h.hc; omega), h2 hp⟩
theorem ZIn.below {w w' : World} {zs : List Pt} {a : Option Addr} {cap : Nat} (h : ZIn w zs a cap) (hb : Below w.heap.size w w') : ZIn w' zs a cap := by
  obtain ⟨b, q, h1, h2⟩ := h.h
  refine ⟨h.hl, h.hc, b, q, h1, fun hp => ?_⟩
  obtain ⟨h3, h4⟩ := h2 hp
  refine ⟨Nat.lt_of_lt_of_le h3 hb.size, fun j hj => ?_⟩
  obtain ⟨p1, p2⟩ := h4 j hj
  exact ⟨(hb.cell (p := ⟨b, _, none⟩) h3).trans p1, (hb.cell (p := ⟨b, _, none⟩) h3).trans p2⟩
theorem cellsP_cases (zs : List Pt) {i : Nat} {x : VV} (h : (cellsP zs)[i]? = some x) : ∃ j, j < zs.length ∧ ((i = j * 2 ∧ x = .v (.int .i64 (at0 zs j).1)) ∨ (i = j * 2 + 1 ∧ x = .v (.int .i64 (at0 zs j).2))) := by
  have hi := (List.getElem?_eq_some_iff.1 h).1
  rw [cellsP_len] at hi
  refine ⟨i / 2, by omega, ?_⟩
  obtain ⟨p1, p2⟩ := cellsP_get zs (i / 2) (by omega)
  by_cases he : i = i / 2 * 2
  · left; refine ⟨he, ?_⟩; rw [he, p1] at h; simpa using h.symm
  · right
    have he : i = i / 2 * 2 + 1 := by omega
    refine ⟨he, ?_⟩; rw [he, p2] at h; simpa using h.symm
theorem ZIn.rel {w : World} {zs : List Pt} {a : Option Addr} {cap : Nat} (h : ZIn w zs a cap) (kp : Bool) (fl rf : Int) :
    Rel (fun b => b < w.heap.size) w rho0 (.agg [.v (.bool kp), .fs (cellsP zs) 0 zs.length 2, .v (.int .i64 fl), .v (.int .i64 rf)]) (.agg #[.bool kp, .slice a zs.length cap, .int .i64 fl, .int .i64 rf]) := by
  obtain ⟨b, q, h1, h2⟩ := h.h
  let ys : Nat → Value := fun i => match (cellsP zs)[i]? with | some (.v y) => y | _ => undef
  have hy : ∀ (i : Nat) (x : VV), (cellsP zs)[i]? = some x → x = .v (ys i) := fun i x hx => by
    obtain ⟨j, _, ⟨rfl, rfl⟩ | ⟨rfl, rfl⟩⟩ := cellsP_cases zs hx <;> simp only [ys, hx]
  have hs : Rel (fun b => b < w.heap.size) w rho0 (.fs (cellsP zs) 0 zs.length 2) (.slice a zs.length cap) := by
    refine .fs _ _ 0 _ _ b q cap a ys h.hc h1 (fun i x hx => ?_) (fun i x hx => ?_) hy
    · obtain ⟨j, hj, _⟩ := cellsP_cases zs hx
      exact (h2 (by omega)).1
    · obtain ⟨j, hj, ⟨rfl, rfl⟩ | ⟨rfl, rfl⟩⟩ := cellsP_cases zs hx
      · have := hy _ _ hx
        simp only [VV.v.injEq] at this
        rw [← this]
        exact ⟨((h2 (by omega)).2 j hj).1, rfl⟩
      · have := hy _ _ hx
        simp only [VV.v.injEq] at this
        rw [← this]
        exact ⟨by have := ((h2 (by omega)).2 j hj).2; rwa [Nat.add_assoc] at this, rfl⟩
  refine .agg _ _ _ (fun i => (#[Value.bool kp, .slice a zs.length cap, .int .i64 fl, .int .i64 rf])[i]?.getD undef) rfl (fun i x hx => ?_) (fun i x hx => ?_)
  · match i, hx with
    | 0, _ => rfl
    | 1, _ => rfl
    | 2, _ => rfl
    | 3, _ => rfl
  · match i, hx with
    | 0, hx => cases hx; exact .v _ _
    | 1, hx => cases hx; exact hs
    | 2, hx => cases hx; exact .v _ _
    | 3, hx => cases hx; exact .v _ _

theorem cell_blk {W : World} {b o : Nat} {cs : Array Value} {ty : TypeId} (h : W.heap[b]? = some (.cells cs ty (0, 0))) : W.cell? ⟨b, o, none⟩ = cs[o]? := cell_of_row W b o cs ty (0, 0) h
theorem frozen_blk {W : World} {b o : Nat} {cs : Array Value} {ty : TypeId} (h : W.heap[b]? = some (.cells cs ty (0, 0))) (ho : o < cs.size) : W.frozen? ⟨b, o, none⟩ = false := by
  simp [World.frozen?, h]
theorem edge_mem {zs : List Pt} {n : Nat} {e : Pt × Pt} (h : e ∈ edgesOf zs n) : ∃ k, k < n ∧ e = edge zs k := by
  simp only [edgesOf, List.mem_map, List.mem_range] at h
  obtain ⟨k, hk, rfl⟩ := h
  exact ⟨k, hk, rfl⟩
theorem prefix_mem {α : Type} {l m : List α} (h : l <+: m) {x : α} (hx : x ∈ l) : x ∈ m := h.subset hx
end Go.Xv
namespace Go.Xv
theorem run_eq_pt (p q : Pt) (w : World) : (Op.equalIn 10000 33 (.agg #[.int .i64 p.1, .int .i64 p.2]) (.agg #[.int .i64 q.1, .int .i64 q.2])).run PP w = .ok (decide (p = q)) w := by
  have := eq_agg_run (P := PP) (t := 33) (ks := [some .i64, some .i64]) (xs := #[.int .i64 p.1, .int .i64 p.2]) (ys := #[.int .i64 q.1, .int .i64 q.2]) (by kernel_rfl) (by simp [fitK]) (by simp [fitK]) (by kernel_rfl) w
  rw [← ptEq p q]
  simpa [eqL, eqV] using this
end Go.Xv
namespace Go.Xv
open Go.RowKit
theorem setCell_blk {W : World} {b o : Nat} {cs : Array Value} {ty : TypeId} {v : Value} (h : W.heap[b]? = some (.cells cs ty (0, 0))) :
    (W.setCell ⟨b, o, none⟩ v).heap[b]? = some (.cells (cs.setIfInBounds o v) ty (0, 0)) := by
  simp only [World.setCell]
  rw [Array.getElem?_modify]
  simp [h]
/-- a way out behind the loop's block for deferred calls. -/
theorem leave_mark {fn : Func} {R : Ending → World → Prop} {a : Act} {w : World} {D : Nat} {v : Value} (hd : a.defers = [{ target := .collected D, args := #[] }]) (hK : w.heap[D]? = some (.deferred (some [])))
    (hr : (results fn a.tmps).run PP (w.putObj D (.deferred none)) = .ok v (w.putObj D (.deferred none))) (hR : R (.returned v) (w.putObj D (.deferred none))) : bodyPostM Fence.wide 0 PP fn R .ret a w := by
  show LeavesInM Fence.wide 0 PP fn a.tmps R a.defers .returning w
  rw [hd]
  exact ⟨by simp, .inl ⟨_, _, rfl, run_takeDeferred hK, v, hr, hR⟩⟩
theorem leave_plain {fn : Func} {R : Ending → World → Prop} {a : Act} {w : World} {v : Value} (hd : a.defers = [])
    (hr : (results fn a.tmps).run PP w = .ok v w) (hR : R (.returned v) w) : bodyPostM Fence.wide 0 PP fn R .ret a w := by
  show LeavesInM Fence.wide 0 PP fn a.tmps R a.defers .returning w
  rw [hd]
  exact ⟨v, hr, hR⟩
theorem putObj_below {B : Nat} {w w' : World} {D : Nat} {o : Obj} (h : Below B w w') (hD : B ≤ D) : Below B w (w'.putObj D o) :=
  h.trans ⟨rfl, rfl, rfl, by simp, fun k hk => World.putObj_heap_other (by omega)⟩
end Go.Xv
namespace Go.Xv
open Go.RowKit Go.Shelf
attribute [local go_sem] Oper.semAt_some

def edgeOK (e : Pt × Pt) : Bool := rightB e.1 && !decide (e.1 = e.2)
theorem corn_edge (zs : List Pt) (k : Nat) : cornB zs k = edgeOK (edge zs k) := rfl

set_option maxRecDepth 100000 in
set_option maxHeartbeats 4000000 in
theorem Check_calls (kp : Bool) (fl rf : Int) (zs : List Pt) (a : Option Addr) (cap : Nat) (w : World) (hz : ZIn w zs a cap) :
    CallsIn Fence.wide 0 PP 15 #[.agg #[.bool kp, .slice a zs.length cap, .int .i64 fl, .int .i64 rf]] w fun e w' => e = .returned (.int .i64 (bif checkB zs fl rf then 0 else 2)) ∧ Below w.heap.size w w' := by
  have hno : ¬ (3 ≤ zs.length ∧ zs.length ≤ 16 ∧ fl ≤ rf) → checkB zs fl rf = false := fun h => by
    cases hc : checkB zs fl rf with
    | false => rfl
    | true => obtain ⟨h1, h2⟩ := checkB_sound hc; exact absurd ⟨h1.lo, h1.hi, h2⟩ h
  refine callsIn_of_wp_marks Proofs.Try.func15 rfl trivial ?_ rfl
  simp only [Proofs.Try.ntmps15, List.size_toArray, List.length_cons, List.length_nil, Nat.reduceAdd, Nat.reduceSub, Array.replicate_succ, Array.replicate_zero, List.push_toArray, List.append_toArray, List.nil_append, List.cons_append]
  gi_wp2
  · rename_i h1 h2 h3
    rw [hno (by omega)]
    exact leave_plain rfl (by simp [results, Proofs.Try.f15, go_sem]) ⟨rfl, ((Below.refl _ w).alloc (Nat.le_refl _) _).alloc (by simp) _⟩
  · rename_i h1 _ _
    obtain ⟨b, q, rfl, hb, hL⟩ := hz.pos (by omega)
    obtain ⟨W0, hW0⟩ : ∃ W0, (w.alloc (.cells #[.bool kp, .slice (some ⟨b, q, none⟩) zs.length cap, .int .i64 fl, .int .i64 rf] 25)).alloc (.cells #[.int .i64 0] 34) = W0 := ⟨_, rfl⟩
    have hw0 : Below w.heap.size w W0 := by rw [← hW0]; exact ((Below.refl _ w).alloc (Nat.le_refl _) _).alloc (by simp) _
    have hs0 : W0.heap.size = w.heap.size + 2 := by rw [← hW0]; simp
    have hr0 : W0.heap[w.heap.size + 1]? = some (.cells #[.int .i64 0] 34 (0, 0)) := by
      rw [← hW0]; have := World.alloc_heap_new (w.alloc (.cells #[.bool kp, .slice (some ⟨b, q, none⟩) zs.length cap, .int .i64 fl, .int .i64 rf] 25)) (.cells #[.int .i64 0] 34); rw [World.size_alloc] at this; exact this
    rw [hW0]
    clear hW0
    refine range_recv (gf := 21) (z := .agg #[.bool kp, .slice (some ⟨b, q, none⟩) zs.length cap, .int .i64 fl, .int .i64 rf]) rfl (Proofs.enters_of Proofs.Try.func21 (by kernel_rfl) rfl) (encs := edgeV) (xs := edgesOf zs zs.length) (fun _ => rfl)
      (edges_gives zs kp fl rf b q cap (by omega) (by omega) w.heap.size w hb (Nat.le_refl _) hL) (Nat.le_refl _) hw0
      (fun k => k = w.heap.size + 1) (fun k hk => by omega)
      (fun pre W => (∀ e ∈ pre, edgeOK e = true) ∧ W.heap[w.heap.size + 1]? = some (.cells #[.int .i64 0] 34 (0, 0)) ∧ Below w.heap.size w W)
      (fun pre W => (∃ e ∈ pre, edgeOK e = false) ∧ W.heap[w.heap.size + 1]? = some (.cells #[.int .i64 2] 34 (0, 0)) ∧ Below w.heap.size w W)
      (fun pre X Y h hb => ⟨h.1, by rw [hb.block _ (by omega)]; exact h.2.1, h.2.2.trans (hb.mono (by omega))⟩)
      (fun pre X Y h hb => ⟨h.1, by rw [hb.block _ (by omega)]; exact h.2.1, h.2.2.trans (hb.mono (by omega))⟩)
      ⟨by simp, hr0, hw0⟩
      (fun x m a' X => X.heap[m]? = some (.cells #[.int .i64 x.1.1, .int .i64 x.1.2] 33 (0, 0)) ∧ X.heap[m + 1]? = some (.cells #[.int .i64 x.2.1, .int .i64 x.2.2] 33 (0, 0)) ∧
        a' = { tmps := #[Value.agg #[Value.bool kp, Value.slice (some { block := b, off := q }) zs.length cap, Value.int IntKind.i64 fl, Value.int IntKind.i64 rf], Value.pointer (some { block := w.heap.size, off := 0 }), Value.pointer (some { block := w.heap.size + 1, off := 0 }), Value.pointer (some { block := m, off := 0 }), Value.pointer (some { block := m + 1, off := 0 }), Value.pointer (some { block := w.heap.size, off := 1 }), Value.slice (some { block := b, off := q }) zs.length cap, Value.int IntKind.i64 (zs.length : Int), Value.bool (decide ((zs.length : Int) < 3)), Value.bool (decide ((zs.length : Int) < 3)), Value.pointer (some { block := w.heap.size, off := 1 }), Value.slice (some { block := b, off := q }) zs.length cap, Value.int IntKind.i64 (zs.length : Int), Value.bool (decide (16 < (zs.length : Int))), Value.bool (decide ((zs.length : Int) < 3) || decide (16 < (zs.length : Int))), Value.bool (decide ((zs.length : Int) < 3) || decide (16 < (zs.length : Int))), Value.pointer (some { block := w.heap.size, off := 3 }), Value.int IntKind.i64 rf, Value.pointer (some { block := w.heap.size, off := 2 }), Value.int IntKind.i64 fl, Value.bool (decide (rf < fl)), Value.bool (decide ((zs.length : Int) < 3) || decide (16 < (zs.length : Int)) || decide (rf < fl)), Value.agg #[Value.bool kp, Value.slice (some { block := b, off := q }) zs.length cap, Value.int IntKind.i64 fl, Value.int IntKind.i64 rf], Value.func (Fn.func 21) #[Value.agg #[Value.bool kp, Value.slice (some { block := b, off := q }) zs.length cap, Value.int IntKind.i64 fl, Value.int IntKind.i64 rf]] #[], ptV x.1, ptV x.2, undef, undef, undef, undef, undef, undef, undef, undef], defers := [] })
      (fun x m a' X l o hl h => ⟨by rw [World.putObj_heap_other (by omega)]; exact h.1, by rw [World.putObj_heap_other (by omega)]; exact h.2.1, h.2.2⟩)
      ?assign ?body ?done ?stop
    case assign =>
      intro l x X K hX hK
      gi_wp2
      refine hK _ _ (((Below.refl _ X).alloc (Nat.le_refl _) _).alloc (by simp) _) ⟨?_, ?_, rfl⟩
      · exact (Below.heap_alloc _ _ _ (by simp)).trans (World.alloc_heap_new X _)
      · have := World.alloc_heap_new (X.alloc (.cells #[.int .i64 x.1.1, .int .i64 x.1.2] 33)) (.cells #[.int .i64 x.2.1, .int .i64 x.2.2] 33); rw [World.size_alloc] at this; exact this
    case body =>
      rintro l pre x m a' X hm hmX ⟨hI1, hI2, hI3⟩ ⟨hb1, hb2, rfl⟩ hpre
      have c0 : X.cell? ⟨m, 0, none⟩ = some (.int .i64 x.1.1) := cell_blk hb1
      have c1 : X.cell? ⟨m, 1, none⟩ = some (.int .i64 x.1.2) := cell_blk hb1
      have d0 : X.cell? ⟨m + 1, 0, none⟩ = some (.int .i64 x.2.1) := cell_blk hb2
      have d1 : X.cell? ⟨m + 1, 1, none⟩ = some (.int .i64 x.2.2) := cell_blk hb2
      have hlt1 := (Array.getElem?_eq_some_iff.1 hb1).1
      have hlt2 := (Array.getElem?_eq_some_iff.1 hb2).1
      have hlt3 := (Array.getElem?_eq_some_iff.1 hI2).1
      have hq := fun w => run_eq_pt x.1 x.2 w
      gi_wp2_with (refine ⟨trivial, rfl, ?_⟩; refine (CallsIn.inRound l (right_calls _ _ _)).mono ?_; rintro e w' ⟨rfl, hB'⟩; have c0' := (hB'.cell (p := ⟨m, 0, none⟩) hlt1).trans c0; have c1' := (hB'.cell (p := ⟨m, 1, none⟩) hlt1).trans c1; have d0' := (hB'.cell (p := ⟨m + 1, 0, none⟩) hlt2).trans d0; have d1' := (hB'.cell (p := ⟨m + 1, 1, none⟩) hlt2).trans d1; have hr' := (hB'.block _ hlt3).trans hI2; have f0' := frozen_blk (o := 0) hr' (by decide); have r0' := cell_blk (o := 0) hr')
      · rename_i e1 e2
        refine ⟨(Keep.of hB').trans (Keep.setCell rfl), ⟨x, by simp, by unfold edgeOK; rw [e2]; simp⟩, setCell_blk hr', (hI3.trans (hB'.mono hI3.size)).setCell (p := ⟨w.heap.size + 1, 0, none⟩) (by simp) _⟩
      · rename_i e1 e2
        refine ⟨Keep.of hB', ⟨fun e he => ?_, hr', hI3.trans (hB'.mono hI3.size)⟩⟩
        rcases List.mem_append.1 he with he | he
        · exact hI1 e he
        · simp only [List.mem_singleton] at he
          subst he
          unfold edgeOK
          rw [df e2, show rightB e.1 = true from e1]
          rfl
      · rename_i e1
        refine ⟨(Keep.of hB').trans (Keep.setCell rfl), ⟨x, by simp, by unfold edgeOK; rw [show rightB x.1 = false from by simpa using e1]; rfl⟩, setCell_blk hr', (hI3.trans (hB'.mono hI3.size)).setCell (p := ⟨w.heap.size + 1, 0, none⟩) (by simp) _⟩
    case done =>
      rintro D W hD ⟨hI1, hI2, hI3⟩ hK
      have f0 := frozen_blk (o := 0) hI2 (by decide)
      have r0 := cell_blk (o := 0) hI2
      gi_wp2
      have hlt := (Array.getElem?_eq_some_iff.1 hI2).1
      have hW2 := setCell_blk (o := 0) (v := .int .i64 0) hI2
      have hc : checkB zs fl rf = true := by
        unfold checkB
        simp only [Bool.and_eq_true, decide_eq_true_eq, allN_iff]
        refine ⟨⟨⟨by omega, by omega⟩, by omega⟩, fun j _ hj => ?_⟩
        rw [corn_edge]
        exact hI1 _ (by simp only [edgesOf, List.mem_map, List.mem_range]; exact ⟨j, by omega, rfl⟩)
      rw [hc]
      refine leave_mark (D := D) (v := .int .i64 0) rfl ((KeepsOthers.setCell W ⟨w.heap.size + 1, 0, none⟩ (.int .i64 0)).same D _ hK rfl) ?_ ⟨rfl, putObj_below (hI3.setCell (p := ⟨w.heap.size + 1, 0, none⟩) (by simp) _) (by omega)⟩
      have := cell_blk (o := 0) ((World.putObj_heap_other (r := D) (o := .deferred none) (by omega)).trans hW2)
      simp [results, Proofs.Try.f15, go_sem, this]
    case stop =>
      rintro D pre x W hD hpre ⟨⟨e, he1, he2⟩, hI2, hI3⟩ hK
      have hlt := (Array.getElem?_eq_some_iff.1 hI2).1
      have hc : checkB zs fl rf = false := by
        cases hc : checkB zs fl rf with
        | false => rfl
        | true =>
          exfalso
          unfold checkB at hc
          simp only [Bool.and_eq_true, decide_eq_true_eq, allN_iff] at hc
          obtain ⟨j, hj, rfl⟩ := edge_mem (prefix_mem hpre he1)
          have := hc.2 j (by omega) (by omega)
          rw [corn_edge, he2] at this
          cases this
      refine leave_mark (D := D) (v := .int .i64 2) rfl hK ?_ ⟨by rw [hc]; rfl, putObj_below hI3 (by omega)⟩
      have := cell_blk (o := 0) ((World.putObj_heap_other (r := D) (o := .deferred none) (by omega)).trans hI2)
      simp [results, Proofs.Try.f15, go_sem, this]
  · rw [hno (by omega)]
    exact leave_plain rfl (by simp [results, Proofs.Try.f15, go_sem]) ⟨rfl, ((Below.refl _ w).alloc (Nat.le_refl _) _).alloc (by simp) _⟩
  · rw [hno (by omega)]
    exact leave_plain rfl (by simp [results, Proofs.Try.f15, go_sem]) ⟨rfl, ((Below.refl _ w).alloc (Nat.le_refl _) _).alloc (by simp) _⟩
end Go.Xv
namespace Go.Xv
open Go.RowKit

def ptsOf : List VV → Option (List Pt)
  | [] => some []
  | .v (.int .i64 x) :: .v (.int .i64 y) :: r => match ptsOf r with
    | some l => some ((x, y) :: l)
    | none => none
  | _ => none
theorem ptsOf_cells : ∀ zs : List Pt, ptsOf (cellsP zs) = some zs
  | [] => rfl
  | p :: r => by simp only [cellsP, ptsOf, ptsOf_cells r]
theorem ptsOf_spec : ∀ (c : List VV) (zs : List Pt), ptsOf c = some zs → c = cellsP zs
  | [], zs, h => by simp only [ptsOf, Option.some.injEq] at h; subst h; rfl
  | [x], zs, h => by simp [ptsOf] at h
  | x :: y :: r, zs, h => by
    unfold ptsOf at h
    split at h
    · rename_i heq; cases heq
    · rename_i heq
      cases heq
      cases hr : ptsOf r with
      | none => rw [hr] at h; cases h
      | some l =>
        rw [hr] at h
        simp only [Option.some.injEq] at h
        subst h
        rw [ptsOf_spec r l hr]
        rfl
    · cases h
/-- the corners of a zone that is handed over. -/
def zoneOf (c : List VV) (o l : Nat) : Option (List Pt) := match ptsOf c with
  | some zs => bif Nat.beq o 0 && Nat.beq zs.length l && Nat.ble l 1000 then some zs else none
  | none => none
theorem zoneOf_cells {zs : List Pt} (h : zs.length ≤ 1000) : zoneOf (cellsP zs) 0 zs.length = some zs := by
  unfold zoneOf
  rw [ptsOf_cells]
  simp only [Nat.beq_refl, Bool.true_and]
  rw [Nat.ble_eq_true_of_le h]
  rfl
theorem zoneOf_spec {c : List VV} {o l : Nat} {zs : List Pt} (h : zoneOf c o l = some zs) : c = cellsP zs ∧ o = 0 ∧ zs.length = l ∧ l ≤ 1000 := by
  unfold zoneOf at h
  cases hp : ptsOf c with
  | none => rw [hp] at h; cases h
  | some q =>
    rw [hp] at h
    simp only at h
    cases hb : (Nat.beq o 0 && Nat.beq q.length l && Nat.ble l 1000) with
    | false => rw [hb] at h; cases h
    | true =>
      rw [hb] at h
      simp only [cond_true, Option.some.injEq] at h
      subst h
      simp only [Bool.and_eq_true] at hb
      exact ⟨ptsOf_spec c q hp, Nat.eq_of_beq_eq_true hb.1.1, Nat.eq_of_beq_eq_true hb.1.2, Nat.le_of_ble_eq_true hb.2⟩

theorem rel_zone {St : Nat → Prop} {w : World} (hSt : ∀ b, St b → b < w.heap.size) {kp : Bool} {c : List VV} {o l : Nat} {fl rf : Int} {v : Value} {zs : List Pt}
    (h : Rel St w rho0 (.agg [.v (.bool kp), .fs c o l 2, .v (.int .i64 fl), .v (.int .i64 rf)]) v) (hz : zoneOf c o l = some zs) :
    ∃ a cap, v = .agg #[.bool kp, .slice a zs.length cap, .int .i64 fl, .int .i64 rf] ∧ ZIn w zs a cap := by
  obtain ⟨rfl, rfl, rfl, hl⟩ := zoneOf_spec hz
  obtain ⟨vs, xs, h1, h2, h3, rfl⟩ := h.agg_inv
  have g0 := h3 0 _ rfl
  have g1 := h3 1 _ rfl
  have g2 := h3 2 _ rfl
  have g3 := h3 3 _ rfl
  have e0 := h2 0 _ rfl
  have e1 := h2 1 _ rfl
  have e2 := h2 2 _ rfl
  have e3 := h2 3 _ rfl
  rw [g0.v_inv] at e0
  rw [g2.v_inv] at e2
  rw [g3.v_inv] at e3
  obtain ⟨b, q, cp, a, ys, k1, k2, k3, k4, k5, k6⟩ := g1.fs_inv
  rw [k6] at e1
  refine ⟨a, cp, ?_, hl, k1, b, q, (fun hc => by have := k2 hc; simpa using this), fun hpos => ⟨?_, fun j hj => ?_⟩⟩
  · congr 1
    apply Array.ext
    · simpa using h1
    · intro i hi _
      simp only [List.length_cons, List.length_nil] at h1
      have : i = 0 ∨ i = 1 ∨ i = 2 ∨ i = 3 := by omega
      rcases this with rfl | rfl | rfl | rfl
      · simpa [Array.getElem?_eq_getElem hi] using e0
      · simpa [Array.getElem?_eq_getElem hi] using e1
      · simpa [Array.getElem?_eq_getElem hi] using e2
      · simpa [Array.getElem?_eq_getElem hi] using e3
  · exact hSt _ (k3 0 _ (by have := (cellsP_get zs 0 hpos).1; simpa using this))
  · obtain ⟨p1, p2⟩ := cellsP_get zs j hj
    have q1 := k4 _ _ p1
    have q2 := k4 _ _ p2
    have r1 := k5 _ _ p1
    have r2 := k5 _ _ p2
    simp only [VV.v.injEq] at r1 r2
    rw [r1, r2]
    exact ⟨q1.1, by rw [Nat.add_assoc]; exact q2.1⟩
end Go.Xv
set_option linter.unusedVariables false
namespace Go.Xv
open Go.RowKit
def ti_fence_Check : List TV := [.agg [.v (.bool), .fs .hole .hole 2, .v (.int .i64), .v (.int .i64)]]
def to_fence_Check : TV := .v (.int .i64)
def f_fence_Check (F : Nat) (a0 : Bool) (a1 : List VV) (a2 : Nat) (a3 : Nat) (a4 : Int) (a5 : Int) : R :=
  match zoneOf a1 a2 a3 with
  | some zs => some (.v (.int .i64 (bif checkB zs a4 a5 then 0 else 2)))
  | none => none
def ok_fence_Check (F : Nat) (a0 : Bool) (a1 : List VV) (a2 : Nat) (a3 : Nat) (a4 : Int) (a5 : Int) : Bool := okT to_fence_Check (f_fence_Check F a0 a1 a2 a3 a4 a5)
def o_fence_Check_0 (F : Nat) (a0 : Bool) (a1 : List VV) (a2 : Nat) (a3 : Nat) (a4 : Int) (a5 : Int) : Int := atI (nth (outT to_fence_Check (f_fence_Check F a0 a1 a2 a3 a4 a5)) 0)
theorem k_fence_Check (F : Nat) (a0 : Bool) (a1 : List VV) (a2 : Nat) (a3 : Nat) (a4 : Int) (a5 : Int) {z0 : Int} (h : f_fence_Check F a0 a1 a2 a3 a4 a5 = some (.v (.int .i64 z0))) : ok_fence_Check F a0 a1 a2 a3 a4 a5 = true ∧ o_fence_Check_0 F a0 a1 a2 a3 a4 a5 = z0 := by
  refine ⟨?_, ?_⟩
  · unfold ok_fence_Check; rw [h]; kernel_rfl
  · unfold o_fence_Check_0; rw [h]; kernel_rfl
def s_fence_Check (F : Nat) : List VV → Option (Bool × VV) := spec ti_fence_Check to_fence_Check (fun q => (ok_fence_Check F (atB (nth q 0)) (atC (nth q 1)) (atN (nth q 2)) (atN (nth q 3)) (atI (nth q 4)) (atI (nth q 5)))) (fun q => [.i (o_fence_Check_0 F (atB (nth q 0)) (atC (nth q 1)) (atN (nth q 2)) (atN (nth q 3)) (atI (nth q 4)) (atI (nth q 5)))])
def gz_fence_Check (F : Nat) : List VV → R
  | [.agg [.v (.bool a0), .fs a1 a2 a3 2, .v (.int .i64 a4), .v (.int .i64 a5)]] => f_fence_Check F a0 a1 a2 a3 a4 a5
  | _ => none
theorem gg_fence_Check (F : Nat) : Good PP 15 (gz_fence_Check F) := by
  intro args r h
  unfold gz_fence_Check at h
  split at h
  · rename_i kp c o l fl rf
    unfold f_fence_Check at h
    cases hz : zoneOf c o l with
    | none => rw [hz] at h; cases h
    | some zs =>
      rw [hz] at h
      simp only [Option.some.injEq] at h
      subst h
      refine ⟨⟨_, Proofs.Try.func15, by kernel_rfl, by kernel_rfl⟩, fun w vs St hS hs hv => ?_⟩
      obtain ⟨v, h1, h2⟩ := hv 0 _ rfl
      obtain ⟨a, cap, rfl, hz⟩ := rel_zone hS h2 hz
      obtain rfl : vs = #[.agg #[.bool kp, .slice a zs.length cap, .int .i64 fl, .int .i64 rf]] := by
        apply Array.ext
        · simpa using hs
        · intro i hi _
          have : i = 0 := by simp at hs; omega
          subst this
          simpa [Array.getElem?_eq_getElem hi] using h1
      refine (callsIn_wide.1 (Check_calls kp fl rf zs a cap w hz)).mono ?_
      rintro e w' ⟨rfl, hb⟩
      exact ⟨_, rfl, hb, ⟨.v _ _, fun _ _ _ e => by cases e⟩⟩
  · cases h
theorem g_fence_Check (F : Nat) : Good PP 15 (unS (s_fence_Check F)) :=
  spec_good fun q h => by
    obtain ⟨x, h1, h2⟩ := okT_fill' h (y := (fT to_fence_Check [.i (o_fence_Check_0 F (atB (nth q 0)) (atC (nth q 1)) (atN (nth q 2)) (atN (nth q 3)) (atI (nth q 4)) (atI (nth q 5)))]).1) (by kernel_rfl)
    exact ⟨gz_fence_Check F, x, gg_fence_Check F, (show gz_fence_Check F (fTs ti_fence_Check q).1 = _ by kernel_rfl).trans h1, h2⟩
end Go.Xv
set_option linter.unusedVariables false
namespace Go.Xv
/- 24 _fence_may -/
def c_fence_may : Cfg := ⟨[0, 1, 2, 3, 4, 6], [], [], []⟩
def ti_fence_may : List TV := [.agg [.v (.bool), .fs .hole .hole 2, .v (.int .i64), .v (.int .i64)], .v (.agg [.int .i64, .int .i64]), .v (.int .i64)]
def to_fence_may : TV := .v (.bool)
def S_fence_may (F : Nat) : FuncId → List VV → Option (Bool × VV) := words [(15, s_fence_Check F), (33, s_fence_Point_right F)]
def W_fence_may (F : Nat) : List LW := []
def I_fence_may (F : Nat) : Nat → VS → (Exit → VS → R) → R := tabI c_fence_may (W_fence_may F)
def WJ_fence_may (F : Nat) : List LJ := []
def J_fence_may (F : Nat) : Nat → Nat → VS → (Exit → VS → R) → R := tabJ (WJ_fence_may F)
def f_fence_may (F : Nat) (a0 : Bool) (a1 : List VV) (a2 : Nat) (a3 : Nat) (a4 : Int) (a5 : Int) (a6 : Int) (a7 : Int) (a8 : Int) : R :=
  bif (ok_fence_Check F a0 a1 a2 a3 a4 a5) then (
    bif ((((o_fence_Check_0 F a0 a1 a2 a3 a4 a5)) == 0)) then (
      bif (ok_fence_Point_right F a6 a7) then (
        bif ((o_fence_Point_right_0 F a6 a7)) then (
          bif ((decide (a8 ≥ 0))) then (
            some (.v (.bool ((decide (a8 ≤ 1152921504606846976))))))
          else (
            some (.v (.bool false))))
        else (
          some (.v (.bool false))))
      else (
        none))
    else (
      some (.v (.bool false))))
  else (
    none)
theorem e_fence_may (F : Nat) (a0 : Bool) (a1 : List VV) (a2 : Nat) (a3 : Nat) (a4 : Int) (a5 : Int) (a6 : Int) (a7 : Int) (a8 : Int) : funL PP (S_fence_may F) c_fence_may (I_fence_may F) (J_fence_may F) 24 (fTs ti_fence_may [.b a0, .c a1, .n a2, .n a3, .i a4, .i a5, .i a6, .i a7, .i a8]).1 = f_fence_may F a0 a1 a2 a3 a4 a5 a6 a7 a8 := by
  have h : ∀ (ok_fence_Check : Nat → Bool → List VV → Nat → Nat → Int → Int → Bool) (o_fence_Check_0 : Nat → Bool → List VV → Nat → Nat → Int → Int → Int) (ok_fence_Point_right : Nat → Int → Int → Bool) (o_fence_Point_right_0 : Nat → Int → Int → Bool), funL PP (words [(15, spec ti_fence_Check to_fence_Check (fun q => (ok_fence_Check F (atB (nth q 0)) (atC (nth q 1)) (atN (nth q 2)) (atN (nth q 3)) (atI (nth q 4)) (atI (nth q 5)))) (fun q => [.i (o_fence_Check_0 F (atB (nth q 0)) (atC (nth q 1)) (atN (nth q 2)) (atN (nth q 3)) (atI (nth q 4)) (atI (nth q 5)))])), (33, spec ti_fence_Point_right to_fence_Point_right (fun q => (ok_fence_Point_right F (atI (nth q 0)) (atI (nth q 1)))) (fun q => [.b (o_fence_Point_right_0 F (atI (nth q 0)) (atI (nth q 1)))]))]) c_fence_may (tabI c_fence_may []) (tabJ []) 24 (fTs ti_fence_may [.b a0, .c a1, .n a2, .n a3, .i a4, .i a5, .i a6, .i a7, .i a8]).1 = (
  bif (ok_fence_Check F a0 a1 a2 a3 a4 a5) then (
    bif ((((o_fence_Check_0 F a0 a1 a2 a3 a4 a5)) == 0)) then (
      bif (ok_fence_Point_right F a6 a7) then (
        bif ((o_fence_Point_right_0 F a6 a7)) then (
          bif ((decide (a8 ≥ 0))) then (
            some (.v (.bool ((decide (a8 ≤ 1152921504606846976))))))
          else (
            some (.v (.bool false))))
        else (
          some (.v (.bool false))))
      else (
        none))
    else (
      some (.v (.bool false))))
  else (
    none) : R) := by
    intros
    kernel_rfl
  exact (h ok_fence_Check o_fence_Check_0 ok_fence_Point_right o_fence_Point_right_0).trans (by kernel_rfl)
def ok_fence_may (F : Nat) (a0 : Bool) (a1 : List VV) (a2 : Nat) (a3 : Nat) (a4 : Int) (a5 : Int) (a6 : Int) (a7 : Int) (a8 : Int) : Bool := okT to_fence_may (f_fence_may F a0 a1 a2 a3 a4 a5 a6 a7 a8)
def o_fence_may_0 (F : Nat) (a0 : Bool) (a1 : List VV) (a2 : Nat) (a3 : Nat) (a4 : Int) (a5 : Int) (a6 : Int) (a7 : Int) (a8 : Int) : Bool := atB (nth (outT to_fence_may (f_fence_may F a0 a1 a2 a3 a4 a5 a6 a7 a8)) 0)
theorem k_fence_may (F : Nat) (a0 : Bool) (a1 : List VV) (a2 : Nat) (a3 : Nat) (a4 : Int) (a5 : Int) (a6 : Int) (a7 : Int) (a8 : Int) {z0 : Bool} (h : f_fence_may F a0 a1 a2 a3 a4 a5 a6 a7 a8 = some (.v (.bool z0))) : ok_fence_may F a0 a1 a2 a3 a4 a5 a6 a7 a8 = true ∧ o_fence_may_0 F a0 a1 a2 a3 a4 a5 a6 a7 a8 = z0 := by
  refine ⟨?_, ?_⟩
  · unfold ok_fence_may; rw [h]; kernel_rfl
  · unfold o_fence_may_0; rw [h]; kernel_rfl
def s_fence_may (F : Nat) : List VV → Option (Bool × VV) := spec ti_fence_may to_fence_may (fun q => (ok_fence_may F (atB (nth q 0)) (atC (nth q 1)) (atN (nth q 2)) (atN (nth q 3)) (atI (nth q 4)) (atI (nth q 5)) (atI (nth q 6)) (atI (nth q 7)) (atI (nth q 8)))) (fun q => [.b (o_fence_may_0 F (atB (nth q 0)) (atC (nth q 1)) (atN (nth q 2)) (atN (nth q 3)) (atI (nth q 4)) (atI (nth q 5)) (atI (nth q 6)) (atI (nth q 7)) (atI (nth q 8)))])
theorem hS_fence_may (F : Nat) : ∀ f, Good PP f (unS (S_fence_may F f)) := words_good fun p hp => by
  simp only [List.mem_cons, List.not_mem_nil, or_false] at hp
  rcases hp with rfl | rfl
  · exact g_fence_Check F
  · exact g_fence_Point_right F
theorem hl_fence_may (F : Nat) : ∀ p ∈ loopsIn PP 24, LoopOK PP (S_fence_may F) c_fence_may F (I_fence_may F) (J_fence_may F) p :=
  loops_of [] (by kernel_rfl) all_nil
theorem hj_fence_may (F : Nat) : ∀ p ∈ joinsIn PP c_fence_may 24, JoinOK PP (S_fence_may F) c_fence_may (I_fence_may F) (J_fence_may F) p :=
  joins_of [] (by kernel_rfl) all_nil
theorem g_fence_may (F : Nat) : Good PP 24 (unS (s_fence_may F)) :=
  fun_spec (hS_fence_may F) (by kernel_rfl) (by kernel_rfl) (C := c_fence_may) (F := fun q => (f_fence_may F (atB (nth q 0)) (atC (nth q 1)) (atN (nth q 2)) (atN (nth q 3)) (atI (nth q 4)) (atI (nth q 5)) (atI (nth q 6)) (atI (nth q 7)) (atI (nth q 8)))) (fun _ => F) (fun _ => I_fence_may F) (fun _ => J_fence_may F) (fun _ => hl_fence_may F) (fun _ => hj_fence_may F)
    (fun q => (congrArg (funL PP (S_fence_may F) c_fence_may (I_fence_may F) (J_fence_may F) 24) (show (fTs ti_fence_may q).1 = (fTs ti_fence_may [.b (atB (nth q 0)), .c (atC (nth q 1)), .n (atN (nth q 2)), .n (atN (nth q 3)), .i (atI (nth q 4)), .i (atI (nth q 5)), .i (atI (nth q 6)), .i (atI (nth q 7)), .i (atI (nth q 8))]).1 by kernel_rfl)).trans (e_fence_may F (atB (nth q 0)) (atC (nth q 1)) (atN (nth q 2)) (atN (nth q 3)) (atI (nth q 4)) (atI (nth q 5)) (atI (nth q 6)) (atI (nth q 7)) (atI (nth q 8))))
    (fun _ h => okT_fill' h (by kernel_rfl))

end Go.Xv
namespace Go.Xv
open Go.RowKit Go.Shelf
attribute [local go_sem] Oper.semAt_some

theorem a_Check (F : Nat) (kp : Bool) {zs : List Pt} (hl : zs.length ≤ 1000) (fl rf : Int) : ok_fence_Check F kp (cellsP zs) 0 zs.length fl rf = true ∧ o_fence_Check_0 F kp (cellsP zs) 0 zs.length fl rf = bif checkB zs fl rf then 0 else 2 :=
  k_fence_Check F _ _ _ _ _ _ (by unfold f_fence_Check; rw [zoneOf_cells hl])
theorem f_may (F : Nat) (hF : 200 ≤ F) (kp : Bool) {zs : List Pt} (hl : zs.length ≤ 1000) (fl rf : Int) (p : Pt) (r : Int) : f_fence_may F kp (cellsP zs) 0 zs.length fl rf p.1 p.2 r = some (.v (.bool (mayB zs fl rf p r))) := by
  obtain ⟨k1, k2⟩ := a_Check F kp hl fl rf
  obtain ⟨r1, r2⟩ := a_right F hF p.1 p.2
  unfold f_fence_may mayB
  refine bp k1 ?_
  rw [k2, r2]
  cases checkB zs fl rf with
  | false => rfl
  | true =>
    refine bp (by rfl) (bp r1 ?_)
    show (bif rightB p then _ else _) = _
    cases rightB p with
    | false => rfl
    | true =>
      by_cases h : 0 ≤ r
      · show (bif true then (bif decide (0 ≤ r) then some (VV.v (.bool (decide (r ≤ 1152921504606846976)))) else _) else _) = _
        rw [dt h]; rfl
      · show (bif true then (bif decide (0 ≤ r) then some (VV.v (.bool (decide (r ≤ 1152921504606846976)))) else _) else _) = _
        rw [df h]; rfl
theorem a_may (F : Nat) (hF : 200 ≤ F) (kp : Bool) {zs : List Pt} (hl : zs.length ≤ 1000) (fl rf : Int) (p : Pt) (r : Int) : ok_fence_may F kp (cellsP zs) 0 zs.length fl rf p.1 p.2 r = true ∧ o_fence_may_0 F kp (cellsP zs) 0 zs.length fl rf p.1 p.2 r = mayB zs fl rf p r :=
  k_fence_may F _ _ _ _ _ _ _ _ _ (f_may F hF kp hl fl rf p r)
theorem may_calls (kp : Bool) (fl rf : Int) (zs : List Pt) (a : Option Addr) (cap : Nat) (w : World) (hz : ZIn w zs a cap) (p : Pt) (r : Int) :
    CallsIn Fence.wide 0 PP 24 #[.agg #[.bool kp, .slice a zs.length cap, .int .i64 fl, .int .i64 rf], .agg #[.int .i64 p.1, .int .i64 p.2], .int .i64 r] w fun e w' => e = .returned (.bool (mayB zs fl rf p r)) ∧ Below w.heap.size w w' := by
  obtain ⟨h1, h2⟩ := a_may 200 (Nat.le_refl _) kp hz.hl fl rf p r
  have e : s_fence_may 200 [.agg [.v (.bool kp), .fs (cellsP zs) 0 zs.length 2, .v (.int .i64 fl), .v (.int .i64 rf)], .v (.agg #[.int .i64 p.1, .int .i64 p.2]), .v (.int .i64 r)] =
      some (ok_fence_may 200 kp (cellsP zs) 0 zs.length fl rf p.1 p.2 r, .v (.bool (o_fence_may_0 200 kp (cellsP zs) 0 zs.length fl rf p.1 p.2 r))) := by kernel_rfl
  rw [h1, h2] at e
  obtain ⟨_, hk⟩ := g_fence_may 200 [.agg [.v (.bool kp), .fs (cellsP zs) 0 zs.length 2, .v (.int .i64 fl), .v (.int .i64 rf)], .v (.agg #[.int .i64 p.1, .int .i64 p.2]), .v (.int .i64 r)] (.v (.bool (mayB zs fl rf p r))) (by unfold unS; rw [e])
  refine callsIn_wide.2 ((hk w _ (fun b => b < w.heap.size) (fun _ h => h) rfl (fun i x hx => ?_)).mono ?_)
  · match i, hx with
    | 0, hx => cases hx; exact ⟨_, rfl, hz.rel kp fl rf⟩
    | 1, hx => cases hx; exact ⟨_, rfl, .v _ _⟩
    | 2, hx => cases hx; exact ⟨_, rfl, .v _ _⟩
  · rintro e w' ⟨v, rfl, hb, hr⟩
    obtain rfl := hr.1.v_inv
    exact ⟨rfl, hb⟩

/-- the world once Touches has laid its own blocks. -/
def W11 (w : World) (kp : Bool) (a : Option Addr) (n cap : Nat) (fl rf : Int) (p : Pt) : World :=
  (((w.alloc (.cells #[.bool kp, .slice a n cap, .int .i64 fl, .int .i64 rf] 25)).alloc (.cells #[.int .i64 p.1, .int .i64 p.2] 33)).alloc (.cells #[.bool false] 4)).alloc (.cells #[.int .i64 0] 34)
theorem W11_facts (w : World) (kp : Bool) (a : Option Addr) (n cap : Nat) (fl rf : Int) (p : Pt) : Below w.heap.size w (W11 w kp a n cap fl rf p) ∧ (W11 w kp a n cap fl rf p).heap.size = w.heap.size + 4 ∧
    (W11 w kp a n cap fl rf p).heap[w.heap.size]? = some (.cells #[.bool kp, .slice a n cap, .int .i64 fl, .int .i64 rf] 25 (0, 0)) ∧
    (W11 w kp a n cap fl rf p).heap[w.heap.size + 1]? = some (.cells #[.int .i64 p.1, .int .i64 p.2] 33 (0, 0)) ∧
    (W11 w kp a n cap fl rf p).heap[w.heap.size + 2]? = some (.cells #[.bool false] 4 (0, 0)) ∧
    (W11 w kp a n cap fl rf p).heap[w.heap.size + 3]? = some (.cells #[.int .i64 0] 34 (0, 0)) := by
  unfold W11
  refine ⟨((((Below.refl _ w).alloc (Nat.le_refl _) _).alloc (by simp) _).alloc (by simp; omega) _).alloc (by simp; omega) _, by simp, ?_, ?_, ?_, ?_⟩
  · exact (Below.heap_alloc _ _ _ (by simp; omega)).trans ((Below.heap_alloc _ _ _ (by simp; omega)).trans ((Below.heap_alloc _ _ _ (by simp)).trans (World.alloc_heap_new w _)))
  · refine (Below.heap_alloc _ _ _ (by simp)).trans ((Below.heap_alloc _ _ _ (by simp)).trans ?_)
    have := World.alloc_heap_new (w.alloc (.cells #[.bool kp, .slice a n cap, .int .i64 fl, .int .i64 rf] 25)) (.cells #[.int .i64 p.1, .int .i64 p.2] 33)
    rwa [World.size_alloc] at this
  · refine (Below.heap_alloc _ _ _ (by simp)).trans ?_
    have := World.alloc_heap_new ((w.alloc (.cells #[.bool kp, .slice a n cap, .int .i64 fl, .int .i64 rf] 25)).alloc (.cells #[.int .i64 p.1, .int .i64 p.2] 33)) (.cells #[.bool false] 4)
    rwa [World.size_alloc, World.size_alloc] at this
  · have := World.alloc_heap_new (((w.alloc (.cells #[.bool kp, .slice a n cap, .int .i64 fl, .int .i64 rf] 25)).alloc (.cells #[.int .i64 p.1, .int .i64 p.2] 33)).alloc (.cells #[.bool false] 4)) (.cells #[.int .i64 0] 34)
    rwa [World.size_alloc, World.size_alloc, World.size_alloc] at this

set_option maxRecDepth 100000 in
set_option maxHeartbeats 4000000 in
theorem Touches_calls (kp : Bool) (fl rf : Int) (zs : List Pt) (a : Option Addr) (cap : Nat) (w : World) (hz : ZIn w zs a cap) (p : Pt) (r : Int) :
    CallsIn Fence.wide 0 PP 11 #[.agg #[.bool kp, .slice a zs.length cap, .int .i64 fl, .int .i64 rf], .agg #[.int .i64 p.1, .int .i64 p.2], .int .i64 r] w
      fun e w' => e = .returned (.tuple #[.bool (mayB zs fl rf p r && touchesB zs p r), .int .i64 (bif mayB zs fl rf p r then 0 else 2)]) ∧ Below w.heap.size w w' := by
  refine callsIn_of_wp_marks Proofs.Try.func11 rfl trivial ?_ rfl
  simp only [Proofs.Try.ntmps11, List.size_toArray, List.length_cons, List.length_nil, Nat.reduceAdd, Nat.reduceSub, Array.replicate_succ, Array.replicate_zero, List.push_toArray, List.append_toArray, List.nil_append, List.cons_append]
  obtain ⟨hw0, hs0, b0, b1, b2, b3⟩ := W11_facts w kp a zs.length cap fl rf p
  have hm := may_calls kp fl rf zs a cap _ (hz.below hw0) p r
  gi_wp2_with (refine ⟨trivial, rfl, ?_⟩; refine hm.mono ?_; clear hm; rintro e w1 ⟨rfl, hB1⟩; have u0 := (hB1.block _ (by omega)).trans b0; have u1 := (hB1.block _ (by omega)).trans b1; have u2 := (hB1.block _ (by omega)).trans b2; have u3 := (hB1.block _ (by omega)).trans b3; have c0 := cell_blk (o := 0) u0; have c1 := cell_blk (o := 1) u0; have c2 := cell_blk (o := 2) u0; have c3 := cell_blk (o := 3) u0; have d0 := cell_blk (o := 0) u1; have d1 := cell_blk (o := 1) u1; have r0 := cell_blk (o := 0) u2; have r1 := cell_blk (o := 0) u3; have f0 := frozen_blk (o := 0) u2 (by decide); have f1 := frozen_blk (o := 0) u3 (by decide); have hw1 := hw0.trans (hB1.mono (by omega)); have hs1 := hB1.size; rw [hs0] at hs1; clear hw0 hB1 hs0; have bq := fun (b : Nat) (o : Obj) (h : w1.heap[b]? = some o) => (Below.heap_alloc w1 (.cells #[.int .i64 p.1, .int .i64 p.2, .int .i64 r] 64) b (Array.getElem?_eq_some_iff.1 h).1).trans h; have c0q := cell_blk (o := 0) (bq _ _ u0); have c1q := cell_blk (o := 1) (bq _ _ u0); have c2q := cell_blk (o := 2) (bq _ _ u0); have c3q := cell_blk (o := 3) (bq _ _ u0))
  · have hm' : mayB zs fl rf p r = false := by
      have h1 : (!mayB zs fl rf p r) = true := by assumption
      simpa using h1
    have s1 := setCell_blk (o := 0) (v := .bool false) u2
    have s2 : (w1.setCell { block := w.heap.size + 1 + 1, off := 0 } (Value.bool false)).heap[w.heap.size + 3]? = some (.cells #[.int .i64 0] 34 (0, 0)) := (Below.heap_setCell w1 ⟨w.heap.size + 1 + 1, 0, none⟩ _ _ (by show w.heap.size + 3 ≠ w.heap.size + 1 + 1; omega)).trans u3
    have s3 := setCell_blk (o := 0) (v := .int .i64 2) s2
    have s4 := (Below.heap_setCell (w1.setCell { block := w.heap.size + 1 + 1, off := 0 } (Value.bool false)) ⟨w.heap.size + 1 + 1 + 1, 0, none⟩ (Value.int .i64 2) (w.heap.size + 2) (by show w.heap.size + 2 ≠ w.heap.size + 1 + 1 + 1; omega)).trans s1
    have t1 := cell_blk (o := 0) s3
    have t2 := cell_blk (o := 0) s4
    have hbl : Below w.heap.size w ((w1.setCell { block := w.heap.size + 1 + 1, off := 0 } (Value.bool false)).setCell { block := w.heap.size + 1 + 1 + 1, off := 0 } (Value.int .i64 2)) :=
      (hw1.setCell (p := ⟨w.heap.size + 1 + 1, 0, none⟩) (by show _ ≤ w.heap.size + 1 + 1; omega) _).setCell (p := ⟨w.heap.size + 1 + 1 + 1, 0, none⟩) (by show _ ≤ w.heap.size + 1 + 1 + 1; omega) _
    refine leave_plain (v := .tuple #[.bool false, .int .i64 2]) rfl ?_ ⟨by rw [hm']; rfl, hbl⟩
    generalize ((w1.setCell { block := w.heap.size + 1 + 1, off := 0 } (Value.bool false)).setCell { block := w.heap.size + 1 + 1 + 1, off := 0 } (Value.int .i64 2)) = wz at *
    simp [results, Proofs.Try.f11, go_sem, t1, t2]
  · have hm' : mayB zs fl rf p r = true := by
      first
        | assumption
        | (have h1 : (!mayB zs fl rf p r) = false := by assumption
           simpa using h1)
    obtain ⟨hS, hfl, hp, hr⟩ := mayB_sound hm'
    obtain ⟨b, q, rfl, hb, hL⟩ := hz.pos (by have := hS.lo; omega)
    have hi := hS.hi
    have hlo := hS.lo
    have b2q := bq _ _ u2
    have b3q := bq _ _ u3
    have bsq := World.alloc_heap_new w1 (.cells #[.int .i64 p.1, .int .i64 p.2, .int .i64 r] 64)
    have hwq := hw1.alloc (by have := hw1.size; omega) (.cells #[.int .i64 p.1, .int .i64 p.2, .int .i64 r] 64)
    have hsq : (w1.alloc (.cells #[.int .i64 p.1, .int .i64 p.2, .int .i64 r] 64)).heap.size = w1.heap.size + 1 := by simp
    clear c0 c1 c2 c3 c0q c1q c2q c3q d0 d1 r0 r1 f0 f1 bq b0 b1 b2 b3 u0 u1 u2 u3
    generalize w1.alloc (.cells #[.int .i64 p.1, .int .i64 p.2, .int .i64 r] 64) = W0 at *
    generalize hq : w1.heap.size = sq at *
    rw [hm', Bool.not_true]
    refine range_recv (gf := 21) (z := .agg #[.bool kp, .slice (some ⟨b, q, none⟩) zs.length cap, .int .i64 fl, .int .i64 rf]) rfl (Proofs.enters_of Proofs.Try.func21 (by kernel_rfl) rfl) (encs := edgeV) (xs := edgesOf zs zs.length) (fun _ => rfl)
      (edges_gives zs kp fl rf b q cap (by omega) (by omega) w.heap.size w hb (Nat.le_refl _) hL) (Nat.le_refl _) hwq
      (fun k => k = w.heap.size + 2 ∨ k = w.heap.size + 3) (fun k hk => by omega)
      (fun pre W => (∀ e ∈ pre, touchB e.1 e.2 p r = false) ∧ (W.heap[sq]? = some (.cells #[.int .i64 p.1, .int .i64 p.2, .int .i64 r] 64 (0, 0)) ∧ W.heap[w.heap.size + 2]? = some (.cells #[.bool false] 4 (0, 0)) ∧ W.heap[w.heap.size + 3]? = some (.cells #[.int .i64 0] 34 (0, 0))) ∧ Below w.heap.size w W)
      (fun pre W => (∃ e ∈ pre, touchB e.1 e.2 p r = true) ∧ (W.heap[w.heap.size + 2]? = some (.cells #[.bool true] 4 (0, 0)) ∧ W.heap[w.heap.size + 3]? = some (.cells #[.int .i64 0] 34 (0, 0))) ∧ Below w.heap.size w W)
      (fun pre X Y h hb => ⟨h.1, ⟨by rw [hb.block _ (by omega)]; exact h.2.1.1, by rw [hb.block _ (by omega)]; exact h.2.1.2.1, by rw [hb.block _ (by omega)]; exact h.2.1.2.2⟩, h.2.2.trans (hb.mono (by omega))⟩)
      (fun pre X Y h hb => ⟨h.1, ⟨by rw [hb.block _ (by omega)]; exact h.2.1.1, by rw [hb.block _ (by omega)]; exact h.2.1.2⟩, h.2.2.trans (hb.mono (by omega))⟩)
      ⟨by simp, ⟨bsq, b2q, b3q⟩, hwq⟩
      (fun x m a' X => X.heap[m]? = some (.cells #[.int .i64 x.1.1, .int .i64 x.1.2] 33 (0, 0)) ∧ X.heap[m + 1]? = some (.cells #[.int .i64 x.2.1, .int .i64 x.2.2] 33 (0, 0)) ∧
        a' = { tmps := #[Value.agg #[Value.bool kp, Value.slice (some ⟨b, q, none⟩) zs.length cap, Value.int IntKind.i64 fl, Value.int IntKind.i64 rf], Value.agg #[Value.int IntKind.i64 p.fst, Value.int IntKind.i64 p.snd], Value.int IntKind.i64 r, Value.pointer (some { block := w.heap.size, off := 0 }), Value.pointer (some { block := w.heap.size + 1, off := 0 }), undef, Value.pointer (some { block := w.heap.size + 1 + 1, off := 0 }), Value.pointer (some { block := w.heap.size + 1 + 1 + 1, off := 0 }), Value.pointer (some { block := sq, off := 0 }), Value.pointer (some { block := m, off := 0 }), Value.pointer (some { block := m + 1, off := 0 }), Value.agg #[Value.bool kp, Value.slice (some ⟨b, q, none⟩) zs.length cap, Value.int IntKind.i64 fl, Value.int IntKind.i64 rf], Value.agg #[Value.int IntKind.i64 p.fst, Value.int IntKind.i64 p.snd], Value.int IntKind.i64 r, Value.bool true, Value.bool false, Value.agg #[Value.int IntKind.i64 p.fst, Value.int IntKind.i64 p.snd], Value.int IntKind.i64 r, Value.agg #[Value.int IntKind.i64 p.fst, Value.int IntKind.i64 p.snd, Value.int IntKind.i64 r], Value.agg #[Value.bool kp, Value.slice (some ⟨b, q, none⟩) zs.length cap, Value.int IntKind.i64 fl, Value.int IntKind.i64 rf], Value.func (Fn.func 21) #[Value.agg #[Value.bool kp, Value.slice (some ⟨b, q, none⟩) zs.length cap, Value.int IntKind.i64 fl, Value.int IntKind.i64 rf]] #[], ptV x.1, ptV x.2, undef, undef, undef, undef], defers := [] })
      (fun x m a' X l o hl h => ⟨by rw [World.putObj_heap_other (by omega)]; exact h.1, by rw [World.putObj_heap_other (by omega)]; exact h.2.1, h.2.2⟩)
      ?assign ?body ?done ?stop
    case assign =>
      intro l x X K hX hK
      gi_wp2
      refine hK _ _ (((Below.refl _ X).alloc (Nat.le_refl _) _).alloc (by simp) _) ⟨?_, ?_, rfl⟩
      · exact (Below.heap_alloc _ _ _ (by simp)).trans (World.alloc_heap_new X _)
      · have := World.alloc_heap_new (X.alloc (.cells #[.int .i64 x.1.1, .int .i64 x.1.2] 33)) (.cells #[.int .i64 x.2.1, .int .i64 x.2.2] 33); rw [World.size_alloc] at this; exact this
    case body =>
      rintro l pre x m a' X hm hmX ⟨hI1, ⟨hI2, hI3, hI4⟩, hI5⟩ ⟨hb1, hb2, rfl⟩ hpre
      obtain ⟨jx, hjx, rfl⟩ := edge_mem (prefix_mem hpre (x := x) (by simp))
      have c0 : X.cell? ⟨m, 0, none⟩ = some (.int .i64 (edge zs jx).1.1) := cell_blk hb1
      have c1 : X.cell? ⟨m, 1, none⟩ = some (.int .i64 (edge zs jx).1.2) := cell_blk hb1
      have d0 : X.cell? ⟨m + 1, 0, none⟩ = some (.int .i64 (edge zs jx).2.1) := cell_blk hb2
      have d1 : X.cell? ⟨m + 1, 1, none⟩ = some (.int .i64 (edge zs jx).2.2) := cell_blk hb2
      have q0 : X.cell? ⟨sq, 0, none⟩ = some (.int .i64 p.1) := cell_blk hI2
      have q1 : X.cell? ⟨sq, 1, none⟩ = some (.int .i64 p.2) := cell_blk hI2
      have q2 : X.cell? ⟨sq, 2, none⟩ = some (.int .i64 r) := cell_blk hI2
      have hlt2 := (Array.getElem?_eq_some_iff.1 hI3).1
      have hlt3 := (Array.getElem?_eq_some_iff.1 hI4).1
      have hcall := fun w => touches_calls hp hr (hS.ok jx) (hS.ok ((jx + 1) % zs.length)) w
      gi_wp2_with (refine ⟨trivial, rfl, ?_⟩; refine (CallsIn.inRound l (hcall _)).mono ?_; clear hcall; rintro e w' ⟨rfl, hB'⟩; have i3 := (hB'.block _ hlt2).trans hI3; have i4 := (hB'.block _ hlt3).trans hI4; have f0' := frozen_blk (o := 0) i3 (by decide); have r0' := cell_blk (o := 0) i3; have f1' := frozen_blk (o := 0) i4 (by decide); have r1' := cell_blk (o := 0) i4)
      · have e1 : touchB (edge zs jx).1 (edge zs jx).2 p r = true := by assumption
        have s1 := setCell_blk (o := 0) (v := .bool true) i3
        have s2 : (w'.setCell { block := w.heap.size + 1 + 1, off := 0 } (Value.bool true)).heap[w.heap.size + 3]? = some (.cells #[.int .i64 0] 34 (0, 0)) := (Below.heap_setCell w' ⟨w.heap.size + 1 + 1, 0, none⟩ _ _ (by show w.heap.size + 3 ≠ w.heap.size + 1 + 1; omega)).trans i4
        have s3 := setCell_blk (o := 0) (v := .int .i64 0) s2
        have s4 := (Below.heap_setCell (w'.setCell { block := w.heap.size + 1 + 1, off := 0 } (Value.bool true)) ⟨w.heap.size + 1 + 1 + 1, 0, none⟩ (Value.int .i64 0) (w.heap.size + 2) (by show w.heap.size + 2 ≠ w.heap.size + 1 + 1 + 1; omega)).trans s1
        exact ⟨((Keep.of hB').trans (Keep.setCell (.inl rfl))).trans (Keep.setCell (.inr rfl)), ⟨edge zs jx, by simp, e1⟩, ⟨s4, s3⟩,
          ((hI5.trans (hB'.mono (by have := hI5.size; omega))).setCell (p := ⟨w.heap.size + 1 + 1, 0, none⟩) (by show _ ≤ w.heap.size + 1 + 1; omega) _).setCell (p := ⟨w.heap.size + 1 + 1 + 1, 0, none⟩) (by show _ ≤ w.heap.size + 1 + 1 + 1; omega) _⟩
      · have e1 : touchB (edge zs jx).1 (edge zs jx).2 p r = false := by
          first
            | assumption
            | (have h1 : ¬ touchB (edge zs jx).1 (edge zs jx).2 p r = true := by assumption
               simpa using h1)
        refine ⟨Keep.of hB', ⟨fun e he => ?_, ⟨(hB'.block _ (by omega)).trans hI2, i3, i4⟩, hI5.trans (hB'.mono (by have := hI5.size; omega))⟩⟩
        rcases List.mem_append.1 he with he | he
        · exact hI1 e he
        · simp only [List.mem_singleton] at he
          subst he
          exact e1
    case done =>
      rintro D W hD ⟨hI1, ⟨hI2, hI3, hI4⟩, hI5⟩ hK
      have f0 := frozen_blk (o := 0) hI3 (by decide)
      have r0 := cell_blk (o := 0) hI3
      have f1 := frozen_blk (o := 0) hI4 (by decide)
      have r1 := cell_blk (o := 0) hI4
      gi_wp2
      have hlt2 := (Array.getElem?_eq_some_iff.1 hI3).1
      have s1 := setCell_blk (o := 0) (v := .bool false) hI3
      have s2 : (W.setCell { block := w.heap.size + 1 + 1, off := 0 } (Value.bool false)).heap[w.heap.size + 3]? = some (.cells #[.int .i64 0] 34 (0, 0)) := (Below.heap_setCell W ⟨w.heap.size + 1 + 1, 0, none⟩ _ _ (by show w.heap.size + 3 ≠ w.heap.size + 1 + 1; omega)).trans hI4
      have s3 := setCell_blk (o := 0) (v := .int .i64 0) s2
      have s4 := (Below.heap_setCell (W.setCell { block := w.heap.size + 1 + 1, off := 0 } (Value.bool false)) ⟨w.heap.size + 1 + 1 + 1, 0, none⟩ (Value.int .i64 0) (w.heap.size + 2) (by show w.heap.size + 2 ≠ w.heap.size + 1 + 1 + 1; omega)).trans s1
      have ht : touchesB zs p r = false := by
        cases ht : touchesB zs p r with
        | false => rfl
        | true =>
          obtain ⟨j, h1, h2, h3⟩ := anyN_iff.1 ht
          have := hI1 (edge zs j) (by simp only [edgesOf, List.mem_map, List.mem_range]; exact ⟨j, by omega, rfl⟩)
          rw [h3] at this; cases this
      have hK2 := ((KeepsOthers.setCell W ⟨w.heap.size + 1 + 1, 0, none⟩ (.bool false)).trans (KeepsOthers.setCell _ ⟨w.heap.size + 1 + 1 + 1, 0, none⟩ (.int .i64 0))).same D _ hK rfl
      have hbl := (hI5.setCell (p := ⟨w.heap.size + 1 + 1, 0, none⟩) (by show _ ≤ w.heap.size + 1 + 1; omega) (.bool false)).setCell (p := ⟨w.heap.size + 1 + 1 + 1, 0, none⟩) (by show _ ≤ w.heap.size + 1 + 1 + 1; omega) (.int .i64 0)
      refine leave_mark (D := D) (v := .tuple #[.bool false, .int .i64 0]) rfl hK2 ?_ ⟨by rw [hm', ht]; rfl, putObj_below hbl (by omega)⟩
      have t1 := cell_blk (o := 0) ((World.putObj_heap_other (r := D) (o := .deferred none) (by omega)).trans s4)
      have t2 := cell_blk (o := 0) ((World.putObj_heap_other (r := D) (o := .deferred none) (by omega)).trans s3)
      generalize World.putObj _ D (.deferred none) = wz at *
      simp [results, Proofs.Try.f11, go_sem, t1, t2]
    case stop =>
      rintro D pre x W hD hpre ⟨⟨e, he1, he2⟩, ⟨hI3, hI4⟩, hI5⟩ hK
      have hlt2 := (Array.getElem?_eq_some_iff.1 hI3).1
      have ht : touchesB zs p r = true := by
        obtain ⟨j, hj, rfl⟩ := edge_mem (prefix_mem hpre he1)
        exact anyN_iff.2 ⟨j, by omega, by omega, he2⟩
      refine leave_mark (D := D) (v := .tuple #[.bool true, .int .i64 0]) rfl hK ?_ ⟨by rw [hm', ht]; rfl, putObj_below hI5 (by omega)⟩
      have t1 := cell_blk (o := 0) ((World.putObj_heap_other (r := D) (o := .deferred none) (by omega)).trans hI3)
      have t2 := cell_blk (o := 0) ((World.putObj_heap_other (r := D) (o := .deferred none) (by omega)).trans hI4)
      generalize World.putObj _ D (.deferred none) = wz at *
      simp [results, Proofs.Try.f11, go_sem, t1, t2]
end Go.Xv
namespace Go.Xv
open Go.RowKit Go.Shelf
attribute [local go_sem] Oper.semAt_some

/-- the world once Within has laid its own blocks. -/
def W8 (w : World) (kp : Bool) (a : Option Addr) (n cap : Nat) (fl rf : Int) (p : Pt) : World :=
  (w.alloc (.cells #[.bool kp, .slice a n cap, .int .i64 fl, .int .i64 rf] 25)).alloc (.cells #[.int .i64 p.1, .int .i64 p.2] 33)
theorem W8_facts (w : World) (kp : Bool) (a : Option Addr) (n cap : Nat) (fl rf : Int) (p : Pt) : Below w.heap.size w (W8 w kp a n cap fl rf p) ∧ (W8 w kp a n cap fl rf p).heap.size = w.heap.size + 2 ∧
    (W8 w kp a n cap fl rf p).heap[w.heap.size]? = some (.cells #[.bool kp, .slice a n cap, .int .i64 fl, .int .i64 rf] 25 (0, 0)) ∧
    (W8 w kp a n cap fl rf p).heap[w.heap.size + 1]? = some (.cells #[.int .i64 p.1, .int .i64 p.2] 33 (0, 0)) := by
  unfold W8
  refine ⟨((Below.refl _ w).alloc (Nat.le_refl _) _).alloc (by simp) _, by simp, ?_, ?_⟩
  · exact (Below.heap_alloc _ _ _ (by simp)).trans (World.alloc_heap_new w _)
  · have := World.alloc_heap_new (w.alloc (.cells #[.bool kp, .slice a n cap, .int .i64 fl, .int .i64 rf] 25)) (.cells #[.int .i64 p.1, .int .i64 p.2] 33)
    rwa [World.size_alloc] at this

theorem sgn_gt {x : Int} : 0 < sgn x ↔ 0 < x := by
  have := sgn_bd x
  have := sgn_pos (x := x)
  omega
def parE (p : Pt) (l : List (Pt × Pt)) : Bool := l.foldl (fun b e => if crossB e.1 e.2 p then !b else b) false
theorem parE_snoc (p : Pt) (l : List (Pt × Pt)) (e : Pt × Pt) : parE p (l ++ [e]) = if crossB e.1 e.2 p then !(parE p l) else parE p l := by simp [parE]
theorem parE_edges (p : Pt) (zs : List Pt) : ∀ n, parE p (edgesOf zs n) = decide (cntN (fun k => crossB (edge zs k).1 (edge zs k).2 p) 0 n % 2 = 1)
  | 0 => rfl
  | n + 1 => by
    rw [edgesOf_succ, parE_snoc, parE_edges p zs n, cntN_snoc, Nat.zero_add]
    cases hc : crossB (edge zs n).1 (edge zs n).2 p with
    | false => simp
    | true =>
      simp only [if_true]
      by_cases h : cntN (fun k => crossB (edge zs k).1 (edge zs k).2 p) 0 n % 2 = 1
      · rw [dt h, df (by omega)]; rfl
      · rw [df h, dt (by omega)]; rfl

set_option maxRecDepth 100000 in
set_option maxHeartbeats 4000000 in
theorem Within_calls (kp : Bool) (fl rf : Int) (zs : List Pt) (a : Option Addr) (cap : Nat) (w : World) (hz : ZIn w zs a cap) (p : Pt) :
    CallsIn Fence.wide 0 PP 8 #[.agg #[.bool kp, .slice a zs.length cap, .int .i64 fl, .int .i64 rf], .agg #[.int .i64 p.1, .int .i64 p.2]] w
      fun e w' => e = .returned (.tuple #[.bool (mayB zs fl rf p 0 && withinB zs p), .int .i64 (bif mayB zs fl rf p 0 then 0 else 2)]) ∧ Below w.heap.size w w' := by
  refine callsIn_of_wp_marks Proofs.Try.func8 rfl trivial ?_ rfl
  simp only [Proofs.Try.ntmps8, List.size_toArray, List.length_cons, List.length_nil, Nat.reduceAdd, Nat.reduceSub, Array.replicate_succ, Array.replicate_zero, List.push_toArray, List.append_toArray, List.nil_append, List.cons_append]
  obtain ⟨hw0, hs0, b0, b1⟩ := W8_facts w kp a zs.length cap fl rf p
  have hm := Touches_calls kp fl rf zs a cap _ (hz.below hw0) p 0
  cases hmay : mayB zs fl rf p 0 with
  | false =>
    rw [hmay] at hm
    simp only [Bool.false_and, cond_false] at hm ⊢
    gi_wp2_with (refine ⟨trivial, rfl, ?_⟩; refine hm.mono ?_; clear hm; rintro e w1 ⟨rfl, hB1⟩)
    refine leave_plain (v := .tuple #[.bool false, .int .i64 2]) rfl (by simp [results, Proofs.Try.f8, go_sem]) ⟨rfl, hw0.trans (hB1.mono (by omega))⟩
  | true =>
    rw [hmay] at hm
    simp only [Bool.true_and, cond_true] at hm ⊢
    unfold withinB
    cases ht : touchesB zs p 0 with
    | true =>
      rw [ht] at hm
      simp only [Bool.true_or]
      gi_wp2_with (refine ⟨trivial, rfl, ?_⟩; refine hm.mono ?_; clear hm; rintro e w1 ⟨rfl, hB1⟩)
      refine leave_plain (v := .tuple #[.bool true, .int .i64 0]) rfl (by simp [results, Proofs.Try.f8, go_sem]) ⟨rfl, hw0.trans (hB1.mono (by omega))⟩
    | false =>
      rw [ht] at hm
      simp only [Bool.false_or]
      gi_wp2_with (refine ⟨trivial, rfl, ?_⟩; refine hm.mono ?_; clear hm; rintro e w1 ⟨rfl, hB1⟩; have u0 := (hB1.block _ (by omega)).trans b0; have u1 := (hB1.block _ (by omega)).trans b1; have hw1 := hw0.trans (hB1.mono (by omega)); have hs1 := hB1.size; rw [hs0] at hs1; clear hw0 hB1 hs0; have bq := fun (b : Nat) (o : Obj) (h : w1.heap[b]? = some o) => (Below.heap_alloc w1 (.cells #[.bool false] 4) b (Array.getElem?_eq_some_iff.1 h).1).trans h; have c0q := cell_blk (o := 0) (bq _ _ u0); have c1q := cell_blk (o := 1) (bq _ _ u0); have c2q := cell_blk (o := 2) (bq _ _ u0); have c3q := cell_blk (o := 3) (bq _ _ u0))
      obtain ⟨hS, hfl, hp, hr⟩ := mayB_sound hmay
      obtain ⟨b, q, rfl, hb, hL⟩ := hz.pos (by have := hS.lo; omega)
      have hi := hS.hi
      have hlo := hS.lo
      have u1q := bq _ _ u1
      have bsq := World.alloc_heap_new w1 (.cells #[.bool false] 4)
      have hwq := hw1.alloc (by have := hw1.size; omega) (.cells #[.bool false] 4)
      have hsq : (w1.alloc (.cells #[.bool false] 4)).heap.size = w1.heap.size + 1 := by simp
      clear c0q c1q c2q c3q bq b0 b1 u0 u1
      generalize w1.alloc (.cells #[.bool false] 4) = W0 at *
      generalize hq : w1.heap.size = sq at *
      refine range_recv (gf := 21) (z := .agg #[.bool kp, .slice (some ⟨b, q, none⟩) zs.length cap, .int .i64 fl, .int .i64 rf]) rfl (Proofs.enters_of Proofs.Try.func21 (by kernel_rfl) rfl) (encs := edgeV) (xs := edgesOf zs zs.length) (fun _ => rfl)
        (edges_gives zs kp fl rf b q cap (by omega) (by omega) w.heap.size w hb (Nat.le_refl _) hL) (Nat.le_refl _) hwq
        (fun k => k = sq) (fun k hk => by omega)
        (fun pre W => (W.heap[sq]? = some (.cells #[.bool (parE p pre)] 4 (0, 0)) ∧ W.heap[w.heap.size + 1]? = some (.cells #[.int .i64 p.1, .int .i64 p.2] 33 (0, 0))) ∧ Below w.heap.size w W)
        (fun _ _ => False)
        (fun pre X Y h hb => ⟨⟨by rw [hb.block _ (by omega)]; exact h.1.1, by rw [hb.block _ (by omega)]; exact h.1.2⟩, h.2.trans (hb.mono (by omega))⟩)
        (fun pre X Y h hb => h)
        ⟨⟨bsq, u1q⟩, hwq⟩
        (fun x m a' X => X.heap[m]? = some (.cells #[.int .i64 x.1.1, .int .i64 x.1.2] 33 (0, 0)) ∧ X.heap[m + 1]? = some (.cells #[.int .i64 x.2.1, .int .i64 x.2.2] 33 (0, 0)) ∧
          a' = { tmps := #[Value.agg #[Value.bool kp, Value.slice (some ⟨b, q, none⟩) zs.length cap, Value.int IntKind.i64 fl, Value.int IntKind.i64 rf], Value.agg #[Value.int IntKind.i64 p.fst, Value.int IntKind.i64 p.snd], Value.pointer (some { block := w.heap.size, off := 0 }), Value.pointer (some { block := w.heap.size + 1, off := 0 }), Value.bool false, Value.int IntKind.i64 0, Value.bool false, Value.int IntKind.i64 0, Value.pointer (some { block := sq, off := 0 }), Value.pointer (some { block := m, off := 0 }), Value.pointer (some { block := m + 1, off := 0 }), undef, Value.tuple #[Value.bool false, Value.int IntKind.i64 0], Value.agg #[Value.bool kp, Value.slice (some ⟨b, q, none⟩) zs.length cap, Value.int IntKind.i64 fl, Value.int IntKind.i64 rf], Value.agg #[Value.int IntKind.i64 p.fst, Value.int IntKind.i64 p.snd], Value.tuple #[Value.bool false, Value.int IntKind.i64 0], Value.bool false, Value.int IntKind.i64 0, Value.int IntKind.i64 0, Value.bool false, Value.bool false, Value.bool false, Value.bool false, undef, undef, Value.agg #[Value.bool kp, Value.slice (some ⟨b, q, none⟩) zs.length cap, Value.int IntKind.i64 fl, Value.int IntKind.i64 rf], Value.func (Fn.func 21) #[Value.agg #[Value.bool kp, Value.slice (some ⟨b, q, none⟩) zs.length cap, Value.int IntKind.i64 fl, Value.int IntKind.i64 rf]] #[], ptV x.1, ptV x.2, undef, undef, undef, undef, undef, undef, undef, undef, undef, undef, undef, undef, undef, undef, undef, undef, undef, undef, undef, undef, undef, undef, undef, undef, undef], defers := [] })
        (fun x m a' X l o hl h => ⟨by rw [World.putObj_heap_other (by omega)]; exact h.1, by rw [World.putObj_heap_other (by omega)]; exact h.2.1, h.2.2⟩)
        ?assign ?body ?done ?stop
      case assign =>
        intro l x X K hX hK
        gi_wp2
        refine hK _ _ (((Below.refl _ X).alloc (Nat.le_refl _) _).alloc (by simp) _) ⟨?_, ?_, rfl⟩
        · exact (Below.heap_alloc _ _ _ (by simp)).trans (World.alloc_heap_new X _)
        · have := World.alloc_heap_new (X.alloc (.cells #[.int .i64 x.1.1, .int .i64 x.1.2] 33)) (.cells #[.int .i64 x.2.1, .int .i64 x.2.2] 33); rw [World.size_alloc] at this; exact this
      case body =>
        rintro l pre x m a' X hm hmX ⟨⟨hI1, hI2⟩, hI3⟩ ⟨hb1, hb2, rfl⟩ hpre
        obtain ⟨jx, hjx, rfl⟩ := edge_mem (prefix_mem hpre (x := x) (by simp))
        have oa := hS.ok jx
        have ob := hS.ok ((jx + 1) % zs.length)
        have hcall := fun w => side_calls hp oa ob w
        have ea : (edge zs jx).1 = at0 zs jx := rfl
        have eb : (edge zs jx).2 = at0 zs ((jx + 1) % zs.length) := rfl
        rw [ea] at hb1
        rw [eb] at hb2
        have c0 : X.cell? ⟨m, 0, none⟩ = some (.int .i64 (at0 zs jx).1) := cell_blk hb1
        have c1 : X.cell? ⟨m, 1, none⟩ = some (.int .i64 (at0 zs jx).2) := cell_blk hb1
        have d0 : X.cell? ⟨m + 1, 0, none⟩ = some (.int .i64 (at0 zs ((jx + 1) % zs.length)).1) := cell_blk hb2
        have d1 : X.cell? ⟨m + 1, 1, none⟩ = some (.int .i64 (at0 zs ((jx + 1) % zs.length)).2) := cell_blk hb2
        have q0 : X.cell? ⟨w.heap.size + 1, 0, none⟩ = some (.int .i64 p.1) := cell_blk hI2
        have q1 : X.cell? ⟨w.heap.size + 1, 1, none⟩ = some (.int .i64 p.2) := cell_blk hI2
        have f0 := frozen_blk (o := 0) hI1 (by simp)
        have r0 := cell_blk (o := 0) hI1
        have hlt1 := (Array.getElem?_eq_some_iff.1 hI1).1
        have hlt2 := (Array.getElem?_eq_some_iff.1 hI2).1
        have snoc : ∀ c, crossB (at0 zs jx) (at0 zs ((jx + 1) % zs.length)) p = c → parE p (pre ++ [edge zs jx]) = if c then !(parE p pre) else parE p pre := fun c hc => by rw [parE_snoc, ea, eb, hc]
        unfold crossB at snoc
        rw [ea, eb]
        generalize at0 zs jx = a0 at *
        generalize at0 zs ((jx + 1) % zs.length) = b0 at *
        have stay : ∀ w', Below X.heap.size X w' → parE p (pre ++ [edge zs jx]) = parE p pre → roundQ (fun k => k = sq)
            (fun pre W => (W.heap[sq]? = some (.cells #[.bool (parE p pre)] 4 (0, 0)) ∧ W.heap[w.heap.size + 1]? = some (.cells #[.int .i64 p.1, .int .i64 p.2] 33 (0, 0))) ∧ Below w.heap.size w W) (fun _ _ => False) (pre ++ [edge zs jx]) X .normal { tmps := #[], defers := [] } w' :=
          fun w' hB' hs => ⟨Keep.of hB', ⟨by rw [hs]; exact (hB'.block _ hlt1).trans hI1, (hB'.block _ hlt2).trans hI2⟩, hI3.trans (hB'.mono hI3.size)⟩
        have turn : ∀ w', Below X.heap.size X w' → parE p (pre ++ [edge zs jx]) = (!parE p pre) → roundQ (fun k => k = sq)
            (fun pre W => (W.heap[sq]? = some (.cells #[.bool (parE p pre)] 4 (0, 0)) ∧ W.heap[w.heap.size + 1]? = some (.cells #[.int .i64 p.1, .int .i64 p.2] 33 (0, 0))) ∧ Below w.heap.size w W) (fun _ _ => False) (pre ++ [edge zs jx]) X .normal { tmps := #[], defers := [] } (w'.setCell ⟨sq, 0, none⟩ (.bool (!parE p pre))) :=
          fun w' hB' hs => ⟨(Keep.of hB').trans (Keep.setCell rfl), ⟨by rw [hs]; have := setCell_blk (o := 0) (v := .bool (!parE p pre)) ((hB'.block _ hlt1).trans hI1); simpa using this,
            (Below.heap_setCell w' ⟨sq, 0, none⟩ _ _ (by show w.heap.size + 1 ≠ sq; omega)).trans ((hB'.block _ hlt2).trans hI2)⟩, (hI3.trans (hB'.mono hI3.size)).setCell (p := ⟨sq, 0, none⟩) (by show _ ≤ sq; omega) _⟩
        by_cases h1 : a0.2 > p.2 <;> by_cases h2 : b0.2 > p.2
        all_goals gi_wp2_with (refine ⟨trivial, rfl, ?_⟩; refine (CallsIn.inRound l (hcall _)).mono ?_; clear hcall; rintro e w' ⟨rfl, hB'⟩; have i1 := (hB'.block _ hlt1).trans hI1; have f0' := frozen_blk (o := 0) i1 (by simp); have r0' := cell_blk (o := 0) i1)
        · refine ⟨trivial, ?_⟩
          gi_wp2
          exact stay X (Below.refl _ _) (snoc false (by rw [dt h1, dt h2]; rfl))
        · have e1 : ¬ 0 < cross a0 b0 p := by
            have h3 : (!decide (0 < sgn (cross a0 b0 p))) = true := by assumption
            rw [Bool.not_eq_true', decide_eq_false_iff_not, sgn_gt] at h3; exact h3
          exact turn w' hB' (snoc true (by rw [dt h1, df (by omega), df e1]; rfl))
        · have e1 : 0 < cross a0 b0 p := by
            have h3 : (!decide (0 < sgn (cross a0 b0 p))) = false := by assumption
            rw [Bool.not_eq_false', decide_eq_true_eq, sgn_gt] at h3; exact h3
          exact stay w' hB' (snoc false (by rw [dt h1, df (by omega), dt e1]; rfl))
        · have e1 : 0 < cross a0 b0 p := by rw [← sgn_gt]; assumption
          exact turn w' hB' (snoc true (by rw [df (by omega), dt h2, dt e1]; rfl))
        · have e1 : ¬ 0 < cross a0 b0 p := by rw [← sgn_gt]; have h3 : sgn (cross a0 b0 p) ≤ 0 := by assumption
                                              omega
          exact stay w' hB' (snoc false (by rw [df (by omega), dt h2, df e1]; rfl))
        · refine ⟨trivial, ?_⟩
          gi_wp2
          exact stay X (Below.refl _ _) (snoc false (by rw [df (by omega), df (by omega)]; rfl))
      case done =>
        rintro D W hD ⟨⟨hI1, hI2⟩, hI3⟩ hK
        have r0 := cell_blk (o := 0) hI1
        gi_wp2
        refine leave_mark (D := D) (v := .tuple #[.bool (parE p (edgesOf zs zs.length)), .int .i64 0]) rfl hK ?_ ⟨by rw [parE_edges], putObj_below hI3 (by omega)⟩
        simp [results, Proofs.Try.f8, go_sem]
      case stop =>
        rintro D pre x W hD hpre h hK
        exact h.elim
end Go.Xv
set_option linter.unusedVariables false
namespace Go.Xv
open Go.RowKit
def ti_fence_Touches : List TV := [.agg [.v (.bool), .fs .hole .hole 2, .v (.int .i64), .v (.int .i64)], .v (.agg [.int .i64, .int .i64]), .v (.int .i64)]
def to_fence_Touches : TV := .v (.tup [.bool, .int .i64])
def f_fence_Touches (F : Nat) (a0 : Bool) (a1 : List VV) (a2 : Nat) (a3 : Nat) (a4 : Int) (a5 : Int) (a6 : Int) (a7 : Int) (a8 : Int) : R :=
  match zoneOf a1 a2 a3 with
  | some zs => some (.v (.tuple #[.bool (mayB zs a4 a5 (a6, a7) a8 && touchesB zs (a6, a7) a8), .int .i64 (bif mayB zs a4 a5 (a6, a7) a8 then 0 else 2)]))
  | none => none
def ok_fence_Touches (F : Nat) (a0 : Bool) (a1 : List VV) (a2 : Nat) (a3 : Nat) (a4 : Int) (a5 : Int) (a6 : Int) (a7 : Int) (a8 : Int) : Bool := okT to_fence_Touches (f_fence_Touches F a0 a1 a2 a3 a4 a5 a6 a7 a8)
def o_fence_Touches_0 (F : Nat) (a0 : Bool) (a1 : List VV) (a2 : Nat) (a3 : Nat) (a4 : Int) (a5 : Int) (a6 : Int) (a7 : Int) (a8 : Int) : Bool := atB (nth (outT to_fence_Touches (f_fence_Touches F a0 a1 a2 a3 a4 a5 a6 a7 a8)) 0)
def o_fence_Touches_1 (F : Nat) (a0 : Bool) (a1 : List VV) (a2 : Nat) (a3 : Nat) (a4 : Int) (a5 : Int) (a6 : Int) (a7 : Int) (a8 : Int) : Int := atI (nth (outT to_fence_Touches (f_fence_Touches F a0 a1 a2 a3 a4 a5 a6 a7 a8)) 1)
theorem k_fence_Touches (F : Nat) (a0 : Bool) (a1 : List VV) (a2 : Nat) (a3 : Nat) (a4 : Int) (a5 : Int) (a6 : Int) (a7 : Int) (a8 : Int) {z0 : Bool} {z1 : Int} (h : f_fence_Touches F a0 a1 a2 a3 a4 a5 a6 a7 a8 = some (.v (.tuple #[.bool z0, .int .i64 z1]))) : ok_fence_Touches F a0 a1 a2 a3 a4 a5 a6 a7 a8 = true ∧ o_fence_Touches_0 F a0 a1 a2 a3 a4 a5 a6 a7 a8 = z0 ∧ o_fence_Touches_1 F a0 a1 a2 a3 a4 a5 a6 a7 a8 = z1 := by
  refine ⟨?_, ?_, ?_⟩
  · unfold ok_fence_Touches; rw [h]; kernel_rfl
  · unfold o_fence_Touches_0; rw [h]; kernel_rfl
  · unfold o_fence_Touches_1; rw [h]; kernel_rfl
def s_fence_Touches (F : Nat) : List VV → Option (Bool × VV) := spec ti_fence_Touches to_fence_Touches (fun q => (ok_fence_Touches F (atB (nth q 0)) (atC (nth q 1)) (atN (nth q 2)) (atN (nth q 3)) (atI (nth q 4)) (atI (nth q 5)) (atI (nth q 6)) (atI (nth q 7)) (atI (nth q 8)))) (fun q => [.b (o_fence_Touches_0 F (atB (nth q 0)) (atC (nth q 1)) (atN (nth q 2)) (atN (nth q 3)) (atI (nth q 4)) (atI (nth q 5)) (atI (nth q 6)) (atI (nth q 7)) (atI (nth q 8))), .i (o_fence_Touches_1 F (atB (nth q 0)) (atC (nth q 1)) (atN (nth q 2)) (atN (nth q 3)) (atI (nth q 4)) (atI (nth q 5)) (atI (nth q 6)) (atI (nth q 7)) (atI (nth q 8)))])
def gz_fence_Touches (F : Nat) : List VV → R
  | [.agg [.v (.bool a0), .fs a1 a2 a3 2, .v (.int .i64 a4), .v (.int .i64 a5)], .v (.agg ⟨[.int .i64 a6, .int .i64 a7]⟩), .v (.int .i64 a8)] => f_fence_Touches F a0 a1 a2 a3 a4 a5 a6 a7 a8
  | _ => none
theorem gg_fence_Touches (F : Nat) : Good PP 11 (gz_fence_Touches F) := by
  intro args r h
  unfold gz_fence_Touches at h
  split at h
  · rename_i kp c o l fl rf x y r
    unfold f_fence_Touches at h
    cases hz : zoneOf c o l with
    | none => rw [hz] at h; cases h
    | some zs =>
      rw [hz] at h
      simp only [Option.some.injEq] at h
      subst h
      refine ⟨⟨_, Proofs.Try.func11, by kernel_rfl, by kernel_rfl⟩, fun w vs St hS hs hv => ?_⟩
      obtain ⟨v, h1, h2⟩ := hv 0 _ rfl
      obtain ⟨a, cap, rfl, hz⟩ := rel_zone hS h2 hz
      obtain ⟨v1, g1, gr1⟩ := hv 1 _ rfl
      rw [gr1.v_inv] at g1
      obtain ⟨v2, g2, gr2⟩ := hv 2 _ rfl
      rw [gr2.v_inv] at g2
      obtain rfl : vs = #[.agg #[.bool kp, .slice a zs.length cap, .int .i64 fl, .int .i64 rf], .agg #[.int .i64 x, .int .i64 y], .int .i64 r] := by
        apply Array.ext
        · simpa using hs
        · intro i hi _
          have : i = 0 ∨ i = 1 ∨ i = 2 := by simp at hs; omega
          rcases this with rfl | rfl | rfl
          · simpa [Array.getElem?_eq_getElem hi] using h1
          · simpa [Array.getElem?_eq_getElem hi] using g1
          · simpa [Array.getElem?_eq_getElem hi] using g2
      refine (callsIn_wide.1 (Touches_calls kp fl rf zs a cap w hz (x, y) r)).mono ?_
      rintro e w' ⟨rfl, hb⟩
      exact ⟨_, rfl, hb, ⟨.v _ _, fun _ _ _ e => by cases e⟩⟩
  · cases h
theorem g_fence_Touches (F : Nat) : Good PP 11 (unS (s_fence_Touches F)) :=
  spec_good fun q h => by
    obtain ⟨x, h1, h2⟩ := okT_fill' h (y := (fT to_fence_Touches [.b (o_fence_Touches_0 F (atB (nth q 0)) (atC (nth q 1)) (atN (nth q 2)) (atN (nth q 3)) (atI (nth q 4)) (atI (nth q 5)) (atI (nth q 6)) (atI (nth q 7)) (atI (nth q 8))), .i (o_fence_Touches_1 F (atB (nth q 0)) (atC (nth q 1)) (atN (nth q 2)) (atN (nth q 3)) (atI (nth q 4)) (atI (nth q 5)) (atI (nth q 6)) (atI (nth q 7)) (atI (nth q 8)))]).1) (by kernel_rfl)
    exact ⟨gz_fence_Touches F, x, gg_fence_Touches F, (show gz_fence_Touches F (fTs ti_fence_Touches q).1 = _ by kernel_rfl).trans h1, h2⟩
end Go.Xv
set_option linter.unusedVariables false
namespace Go.Xv
open Go.RowKit
def ti_fence_Within : List TV := [.agg [.v (.bool), .fs .hole .hole 2, .v (.int .i64), .v (.int .i64)], .v (.agg [.int .i64, .int .i64])]
def to_fence_Within : TV := .v (.tup [.bool, .int .i64])
def f_fence_Within (F : Nat) (a0 : Bool) (a1 : List VV) (a2 : Nat) (a3 : Nat) (a4 : Int) (a5 : Int) (a6 : Int) (a7 : Int) : R :=
  match zoneOf a1 a2 a3 with
  | some zs => some (.v (.tuple #[.bool (mayB zs a4 a5 (a6, a7) 0 && withinB zs (a6, a7)), .int .i64 (bif mayB zs a4 a5 (a6, a7) 0 then 0 else 2)]))
  | none => none
def ok_fence_Within (F : Nat) (a0 : Bool) (a1 : List VV) (a2 : Nat) (a3 : Nat) (a4 : Int) (a5 : Int) (a6 : Int) (a7 : Int) : Bool := okT to_fence_Within (f_fence_Within F a0 a1 a2 a3 a4 a5 a6 a7)
def o_fence_Within_0 (F : Nat) (a0 : Bool) (a1 : List VV) (a2 : Nat) (a3 : Nat) (a4 : Int) (a5 : Int) (a6 : Int) (a7 : Int) : Bool := atB (nth (outT to_fence_Within (f_fence_Within F a0 a1 a2 a3 a4 a5 a6 a7)) 0)
def o_fence_Within_1 (F : Nat) (a0 : Bool) (a1 : List VV) (a2 : Nat) (a3 : Nat) (a4 : Int) (a5 : Int) (a6 : Int) (a7 : Int) : Int := atI (nth (outT to_fence_Within (f_fence_Within F a0 a1 a2 a3 a4 a5 a6 a7)) 1)
theorem k_fence_Within (F : Nat) (a0 : Bool) (a1 : List VV) (a2 : Nat) (a3 : Nat) (a4 : Int) (a5 : Int) (a6 : Int) (a7 : Int) {z0 : Bool} {z1 : Int} (h : f_fence_Within F a0 a1 a2 a3 a4 a5 a6 a7 = some (.v (.tuple #[.bool z0, .int .i64 z1]))) : ok_fence_Within F a0 a1 a2 a3 a4 a5 a6 a7 = true ∧ o_fence_Within_0 F a0 a1 a2 a3 a4 a5 a6 a7 = z0 ∧ o_fence_Within_1 F a0 a1 a2 a3 a4 a5 a6 a7 = z1 := by
  refine ⟨?_, ?_, ?_⟩
  · unfold ok_fence_Within; rw [h]; kernel_rfl
  · unfold o_fence_Within_0; rw [h]; kernel_rfl
  · unfold o_fence_Within_1; rw [h]; kernel_rfl
def s_fence_Within (F : Nat) : List VV → Option (Bool × VV) := spec ti_fence_Within to_fence_Within (fun q => (ok_fence_Within F (atB (nth q 0)) (atC (nth q 1)) (atN (nth q 2)) (atN (nth q 3)) (atI (nth q 4)) (atI (nth q 5)) (atI (nth q 6)) (atI (nth q 7)))) (fun q => [.b (o_fence_Within_0 F (atB (nth q 0)) (atC (nth q 1)) (atN (nth q 2)) (atN (nth q 3)) (atI (nth q 4)) (atI (nth q 5)) (atI (nth q 6)) (atI (nth q 7))), .i (o_fence_Within_1 F (atB (nth q 0)) (atC (nth q 1)) (atN (nth q 2)) (atN (nth q 3)) (atI (nth q 4)) (atI (nth q 5)) (atI (nth q 6)) (atI (nth q 7)))])
def gz_fence_Within (F : Nat) : List VV → R
  | [.agg [.v (.bool a0), .fs a1 a2 a3 2, .v (.int .i64 a4), .v (.int .i64 a5)], .v (.agg ⟨[.int .i64 a6, .int .i64 a7]⟩)] => f_fence_Within F a0 a1 a2 a3 a4 a5 a6 a7
  | _ => none
theorem gg_fence_Within (F : Nat) : Good PP 8 (gz_fence_Within F) := by
  intro args r h
  unfold gz_fence_Within at h
  split at h
  · rename_i kp c o l fl rf x y
    unfold f_fence_Within at h
    cases hz : zoneOf c o l with
    | none => rw [hz] at h; cases h
    | some zs =>
      rw [hz] at h
      simp only [Option.some.injEq] at h
      subst h
      refine ⟨⟨_, Proofs.Try.func8, by kernel_rfl, by kernel_rfl⟩, fun w vs St hS hs hv => ?_⟩
      obtain ⟨v, h1, h2⟩ := hv 0 _ rfl
      obtain ⟨a, cap, rfl, hz⟩ := rel_zone hS h2 hz
      obtain ⟨v1, g1, gr1⟩ := hv 1 _ rfl
      rw [gr1.v_inv] at g1
      obtain rfl : vs = #[.agg #[.bool kp, .slice a zs.length cap, .int .i64 fl, .int .i64 rf], .agg #[.int .i64 x, .int .i64 y]] := by
        apply Array.ext
        · simpa using hs
        · intro i hi _
          have : i = 0 ∨ i = 1 := by simp at hs; omega
          rcases this with rfl | rfl
          · simpa [Array.getElem?_eq_getElem hi] using h1
          · simpa [Array.getElem?_eq_getElem hi] using g1
      refine (callsIn_wide.1 (Within_calls kp fl rf zs a cap w hz (x, y))).mono ?_
      rintro e w' ⟨rfl, hb⟩
      exact ⟨_, rfl, hb, ⟨.v _ _, fun _ _ _ e => by cases e⟩⟩
  · cases h
theorem g_fence_Within (F : Nat) : Good PP 8 (unS (s_fence_Within F)) :=
  spec_good fun q h => by
    obtain ⟨x, h1, h2⟩ := okT_fill' h (y := (fT to_fence_Within [.b (o_fence_Within_0 F (atB (nth q 0)) (atC (nth q 1)) (atN (nth q 2)) (atN (nth q 3)) (atI (nth q 4)) (atI (nth q 5)) (atI (nth q 6)) (atI (nth q 7))), .i (o_fence_Within_1 F (atB (nth q 0)) (atC (nth q 1)) (atN (nth q 2)) (atN (nth q 3)) (atI (nth q 4)) (atI (nth q 5)) (atI (nth q 6)) (atI (nth q 7)))]).1) (by kernel_rfl)
    exact ⟨gz_fence_Within F, x, gg_fence_Within F, (show gz_fence_Within F (fTs ti_fence_Within q).1 = _ by kernel_rfl).trans h1, h2⟩
end Go.Xv
set_option linter.unusedVariables false
namespace Go.Xv
/- 39 _fence_Zone_height_1 -/
def c_fence_Zone_height_1 : Cfg := ⟨[0, 2], [], [], []⟩
def ti_fence_Zone_height_1 : List TV := [.v (.int .i64)]
def to_fence_Zone_height_1 : TV := .v (.agg [.int .i64, .int .u64])
def S_fence_Zone_height_1 (F : Nat) : FuncId → List VV → Option (Bool × VV) := words [(40, s_wide_Of F)]
def W_fence_Zone_height_1 (F : Nat) : List LW := []
def I_fence_Zone_height_1 (F : Nat) : Nat → VS → (Exit → VS → R) → R := tabI c_fence_Zone_height_1 (W_fence_Zone_height_1 F)
def WJ_fence_Zone_height_1 (F : Nat) : List LJ := []
def J_fence_Zone_height_1 (F : Nat) : Nat → Nat → VS → (Exit → VS → R) → R := tabJ (WJ_fence_Zone_height_1 F)
def f_fence_Zone_height_1 (F : Nat) (a0 : Int) : R :=
  bif (ok_wide_Of F a0) then (
    some (.v (.agg #[.int .i64 ((o_wide_Of_0 F a0)), .int .u64 ((o_wide_Of_1 F a0))])))
  else (
    none)
theorem e_fence_Zone_height_1 (F : Nat) (a0 : Int) : funL PP (S_fence_Zone_height_1 F) c_fence_Zone_height_1 (I_fence_Zone_height_1 F) (J_fence_Zone_height_1 F) 39 (fTs ti_fence_Zone_height_1 [.i a0]).1 = f_fence_Zone_height_1 F a0 := by
  have h : ∀ (ok_wide_Of : Nat → Int → Bool) (o_wide_Of_0 : Nat → Int → Int) (o_wide_Of_1 : Nat → Int → Int), funL PP (words [(40, spec ti_wide_Of to_wide_Of (fun q => (ok_wide_Of F (atI (nth q 0)))) (fun q => [.i (o_wide_Of_0 F (atI (nth q 0))), .i (o_wide_Of_1 F (atI (nth q 0)))]))]) c_fence_Zone_height_1 (tabI c_fence_Zone_height_1 []) (tabJ []) 39 (fTs ti_fence_Zone_height_1 [.i a0]).1 = (
  bif (ok_wide_Of F a0) then (
    some (.v (.agg #[.int .i64 ((o_wide_Of_0 F a0)), .int .u64 ((o_wide_Of_1 F a0))])))
  else (
    none) : R) := by
    intros
    kernel_rfl
  exact (h ok_wide_Of o_wide_Of_0 o_wide_Of_1).trans (by kernel_rfl)
def ok_fence_Zone_height_1 (F : Nat) (a0 : Int) : Bool := okT to_fence_Zone_height_1 (f_fence_Zone_height_1 F a0)
def o_fence_Zone_height_1_0 (F : Nat) (a0 : Int) : Int := atI (nth (outT to_fence_Zone_height_1 (f_fence_Zone_height_1 F a0)) 0)
def o_fence_Zone_height_1_1 (F : Nat) (a0 : Int) : Int := atI (nth (outT to_fence_Zone_height_1 (f_fence_Zone_height_1 F a0)) 1)
theorem k_fence_Zone_height_1 (F : Nat) (a0 : Int) {z0 : Int} {z1 : Int} (h : f_fence_Zone_height_1 F a0 = some (.v (.agg #[.int .i64 z0, .int .u64 z1]))) : ok_fence_Zone_height_1 F a0 = true ∧ o_fence_Zone_height_1_0 F a0 = z0 ∧ o_fence_Zone_height_1_1 F a0 = z1 := by
  refine ⟨?_, ?_, ?_⟩
  · unfold ok_fence_Zone_height_1; rw [h]; kernel_rfl
  · unfold o_fence_Zone_height_1_0; rw [h]; kernel_rfl
  · unfold o_fence_Zone_height_1_1; rw [h]; kernel_rfl
def s_fence_Zone_height_1 (F : Nat) : List VV → Option (Bool × VV) := spec ti_fence_Zone_height_1 to_fence_Zone_height_1 (fun q => (ok_fence_Zone_height_1 F (atI (nth q 0)))) (fun q => [.i (o_fence_Zone_height_1_0 F (atI (nth q 0))), .i (o_fence_Zone_height_1_1 F (atI (nth q 0)))])
theorem hS_fence_Zone_height_1 (F : Nat) : ∀ f, Good PP f (unS (S_fence_Zone_height_1 F f)) := words_good fun p hp => by
  simp only [List.mem_cons, List.not_mem_nil, or_false] at hp
  rcases hp with rfl
  · exact g_wide_Of F
theorem hl_fence_Zone_height_1 (F : Nat) : ∀ p ∈ loopsIn PP 39, LoopOK PP (S_fence_Zone_height_1 F) c_fence_Zone_height_1 F (I_fence_Zone_height_1 F) (J_fence_Zone_height_1 F) p :=
  loops_of [] (by kernel_rfl) all_nil
theorem hj_fence_Zone_height_1 (F : Nat) : ∀ p ∈ joinsIn PP c_fence_Zone_height_1 39, JoinOK PP (S_fence_Zone_height_1 F) c_fence_Zone_height_1 (I_fence_Zone_height_1 F) (J_fence_Zone_height_1 F) p :=
  joins_of [] (by kernel_rfl) all_nil
theorem g_fence_Zone_height_1 (F : Nat) : Good PP 39 (unS (s_fence_Zone_height_1 F)) :=
  fun_spec (hS_fence_Zone_height_1 F) (by kernel_rfl) (by kernel_rfl) (C := c_fence_Zone_height_1) (F := fun q => (f_fence_Zone_height_1 F (atI (nth q 0)))) (fun _ => F) (fun _ => I_fence_Zone_height_1 F) (fun _ => J_fence_Zone_height_1 F) (fun _ => hl_fence_Zone_height_1 F) (fun _ => hj_fence_Zone_height_1 F)
    (fun q => (congrArg (funL PP (S_fence_Zone_height_1 F) c_fence_Zone_height_1 (I_fence_Zone_height_1 F) (J_fence_Zone_height_1 F) 39) (show (fTs ti_fence_Zone_height_1 q).1 = (fTs ti_fence_Zone_height_1 [.i (atI (nth q 0))]).1 by kernel_rfl)).trans (e_fence_Zone_height_1 F (atI (nth q 0))))
    (fun _ h => okT_fill' h (by kernel_rfl))

end Go.Xv
set_option linter.unusedVariables false
namespace Go.Xv
/- 28 _fence_Zone_height -/
def c_fence_Zone_height : Cfg := ⟨[0, 1, 2, 3, 6, 7, 8, 9, 10, 11, 12, 13, 14], [], [17, 20, 21, 25, 28], []⟩
def ti_fence_Zone_height : List TV := [.agg [.v (.bool), .fs (.lit 0) .hole 2, .v (.int .i64), .v (.int .i64)], .v (.int .i64), .v (.int .i64)]
def to_fence_Zone_height : TV := .v (.tup [.bool, .bool])
def S_fence_Zone_height (F : Nat) : FuncId → List VV → Option (Bool × VV) := words [(39, s_fence_Zone_height_1 F), (42, s_wide_Neg F), (41, s_wide_Add F), (35, s_wide_Less F)]
def W_fence_Zone_height (F : Nat) : List LW := []
def I_fence_Zone_height (F : Nat) : Nat → VS → (Exit → VS → R) → R := tabI c_fence_Zone_height (W_fence_Zone_height F)
def WJ_fence_Zone_height (F : Nat) : List LJ := []
def J_fence_Zone_height (F : Nat) : Nat → Nat → VS → (Exit → VS → R) → R := tabJ (WJ_fence_Zone_height F)
def f_fence_Zone_height (F : Nat) (a0 : Bool) (a1 : List VV) (a2 : Nat) (a3 : Int) (a4 : Int) (a5 : Int) (a6 : Int) : R :=
  bif (ok_fence_Zone_height_1 F a5) then (
    let v944 : Int := (o_fence_Zone_height_1_0 F a5)
    let v945 : Int := (o_fence_Zone_height_1_1 F a5)
    bif (ok_fence_Zone_height_1 F a6) then (
      let v946 : Int := (o_fence_Zone_height_1_0 F a6)
      let v947 : Int := (o_fence_Zone_height_1_1 F a6)
      bif (ok_wide_Neg F v946 v947) then (
        let v948 : Int := (o_wide_Neg_0 F v946 v947)
        let v949 : Int := (o_wide_Neg_1 F v946 v947)
        bif (ok_wide_Add F v944 v945 v948 v949) then (
          let v950 : Int := (o_wide_Add_0 F v944 v945 v948 v949)
          let v951 : Int := (o_wide_Add_1 F v944 v945 v948 v949)
          bif (ok_fence_Zone_height_1 F a5) then (
            let v952 : Int := (o_fence_Zone_height_1_0 F a5)
            let v953 : Int := (o_fence_Zone_height_1_1 F a5)
            bif (ok_fence_Zone_height_1 F a6) then (
              let v954 : Int := (o_fence_Zone_height_1_0 F a6)
              let v955 : Int := (o_fence_Zone_height_1_1 F a6)
              bif (ok_wide_Add F v952 v953 v954 v955) then (
                let v956 : Int := (o_wide_Add_0 F v952 v953 v954 v955)
                let v957 : Int := (o_wide_Add_1 F v952 v953 v954 v955)
                bif (ok_fence_Zone_height_1 F a3) then (
                  let v958 : Int := (o_fence_Zone_height_1_0 F a3)
                  let v959 : Int := (o_fence_Zone_height_1_1 F a3)
                  bif (ok_fence_Zone_height_1 F a4) then (
                    let v960 : Int := (o_fence_Zone_height_1_0 F a4)
                    let v961 : Int := (o_fence_Zone_height_1_1 F a4)
                    bif (ok_wide_Less F v950 v951 v958 v959) then (
                      bif ((!((o_wide_Less_0 F v950 v951 v958 v959)))) then (
                        bif (ok_wide_Less F v960 v961 v956 v957) then (
                          let v965 : Bool := (!((o_wide_Less_0 F v960 v961 v956 v957)))
                          bif (ok_wide_Less F v956 v957 v958 v959) then (
                            bif ((o_wide_Less_0 F v956 v957 v958 v959)) then (
                              some (.v (.tuple #[.bool v965, .bool true])))
                            else (
                              bif (ok_wide_Less F v960 v961 v950 v951) then (
                                some (.v (.tuple #[.bool v965, .bool ((o_wide_Less_0 F v960 v961 v950 v951))])))
                              else (
                                none)))
                          else (
                            none))
                        else (
                          none))
                      else (
                        bif (ok_wide_Less F v956 v957 v958 v959) then (
                          bif ((o_wide_Less_0 F v956 v957 v958 v959)) then (
                            some (.v (.tuple #[.bool false, .bool true])))
                          else (
                            bif (ok_wide_Less F v960 v961 v950 v951) then (
                              some (.v (.tuple #[.bool false, .bool ((o_wide_Less_0 F v960 v961 v950 v951))])))
                            else (
                              none)))
                        else (
                          none)))
                    else (
                      none))
                  else (
                    none))
                else (
                  none))
              else (
                none))
            else (
              none))
          else (
            none))
        else (
          none))
      else (
        none))
    else (
      none))
  else (
    none)
theorem e_fence_Zone_height (F : Nat) (a0 : Bool) (a1 : List VV) (a2 : Nat) (a3 : Int) (a4 : Int) (a5 : Int) (a6 : Int) : funL PP (S_fence_Zone_height F) c_fence_Zone_height (I_fence_Zone_height F) (J_fence_Zone_height F) 28 (fTs ti_fence_Zone_height [.b a0, .c a1, .n a2, .i a3, .i a4, .i a5, .i a6]).1 = f_fence_Zone_height F a0 a1 a2 a3 a4 a5 a6 := by
  have h : ∀ (ok_fence_Zone_height_1 : Nat → Int → Bool) (o_fence_Zone_height_1_0 : Nat → Int → Int) (o_fence_Zone_height_1_1 : Nat → Int → Int) (ok_wide_Neg : Nat → Int → Int → Bool) (o_wide_Neg_0 : Nat → Int → Int → Int) (o_wide_Neg_1 : Nat → Int → Int → Int) (ok_wide_Add : Nat → Int → Int → Int → Int → Bool) (o_wide_Add_0 : Nat → Int → Int → Int → Int → Int) (o_wide_Add_1 : Nat → Int → Int → Int → Int → Int) (ok_wide_Less : Nat → Int → Int → Int → Int → Bool) (o_wide_Less_0 : Nat → Int → Int → Int → Int → Bool), funL PP (words [(39, spec ti_fence_Zone_height_1 to_fence_Zone_height_1 (fun q => (ok_fence_Zone_height_1 F (atI (nth q 0)))) (fun q => [.i (o_fence_Zone_height_1_0 F (atI (nth q 0))), .i (o_fence_Zone_height_1_1 F (atI (nth q 0)))])), (42, spec ti_wide_Neg to_wide_Neg (fun q => (ok_wide_Neg F (atI (nth q 0)) (atI (nth q 1)))) (fun q => [.i (o_wide_Neg_0 F (atI (nth q 0)) (atI (nth q 1))), .i (o_wide_Neg_1 F (atI (nth q 0)) (atI (nth q 1)))])), (41, spec ti_wide_Add to_wide_Add (fun q => (ok_wide_Add F (atI (nth q 0)) (atI (nth q 1)) (atI (nth q 2)) (atI (nth q 3)))) (fun q => [.i (o_wide_Add_0 F (atI (nth q 0)) (atI (nth q 1)) (atI (nth q 2)) (atI (nth q 3))), .i (o_wide_Add_1 F (atI (nth q 0)) (atI (nth q 1)) (atI (nth q 2)) (atI (nth q 3)))])), (35, spec ti_wide_Less to_wide_Less (fun q => (ok_wide_Less F (atI (nth q 0)) (atI (nth q 1)) (atI (nth q 2)) (atI (nth q 3)))) (fun q => [.b (o_wide_Less_0 F (atI (nth q 0)) (atI (nth q 1)) (atI (nth q 2)) (atI (nth q 3)))]))]) c_fence_Zone_height (tabI c_fence_Zone_height []) (tabJ []) 28 (fTs ti_fence_Zone_height [.b a0, .c a1, .n a2, .i a3, .i a4, .i a5, .i a6]).1 = (
  bif (ok_fence_Zone_height_1 F a5) then (
    let v944 : Int := (o_fence_Zone_height_1_0 F a5)
    let v945 : Int := (o_fence_Zone_height_1_1 F a5)
    bif (ok_fence_Zone_height_1 F a6) then (
      let v946 : Int := (o_fence_Zone_height_1_0 F a6)
      let v947 : Int := (o_fence_Zone_height_1_1 F a6)
      bif (ok_wide_Neg F v946 v947) then (
        let v948 : Int := (o_wide_Neg_0 F v946 v947)
        let v949 : Int := (o_wide_Neg_1 F v946 v947)
        bif (ok_wide_Add F v944 v945 v948 v949) then (
          let v950 : Int := (o_wide_Add_0 F v944 v945 v948 v949)
          let v951 : Int := (o_wide_Add_1 F v944 v945 v948 v949)
          bif (ok_fence_Zone_height_1 F a5) then (
            let v952 : Int := (o_fence_Zone_height_1_0 F a5)
            let v953 : Int := (o_fence_Zone_height_1_1 F a5)
            bif (ok_fence_Zone_height_1 F a6) then (
              let v954 : Int := (o_fence_Zone_height_1_0 F a6)
              let v955 : Int := (o_fence_Zone_height_1_1 F a6)
              bif (ok_wide_Add F v952 v953 v954 v955) then (
                let v956 : Int := (o_wide_Add_0 F v952 v953 v954 v955)
                let v957 : Int := (o_wide_Add_1 F v952 v953 v954 v955)
                bif (ok_fence_Zone_height_1 F a3) then (
                  let v958 : Int := (o_fence_Zone_height_1_0 F a3)
                  let v959 : Int := (o_fence_Zone_height_1_1 F a3)
                  bif (ok_fence_Zone_height_1 F a4) then (
                    let v960 : Int := (o_fence_Zone_height_1_0 F a4)
                    let v961 : Int := (o_fence_Zone_height_1_1 F a4)
                    bif (ok_wide_Less F v950 v951 v958 v959) then (
                      bif ((!((o_wide_Less_0 F v950 v951 v958 v959)))) then (
                        bif (ok_wide_Less F v960 v961 v956 v957) then (
                          let v965 : Bool := (!((o_wide_Less_0 F v960 v961 v956 v957)))
                          bif (ok_wide_Less F v956 v957 v958 v959) then (
                            bif ((o_wide_Less_0 F v956 v957 v958 v959)) then (
                              some (.v (.tuple #[.bool v965, .bool true])))
                            else (
                              bif (ok_wide_Less F v960 v961 v950 v951) then (
                                some (.v (.tuple #[.bool v965, .bool ((o_wide_Less_0 F v960 v961 v950 v951))])))
                              else (
                                none)))
                          else (
                            none))
                        else (
                          none))
                      else (
                        bif (ok_wide_Less F v956 v957 v958 v959) then (
                          bif ((o_wide_Less_0 F v956 v957 v958 v959)) then (
                            some (.v (.tuple #[.bool false, .bool true])))
                          else (
                            bif (ok_wide_Less F v960 v961 v950 v951) then (
                              some (.v (.tuple #[.bool false, .bool ((o_wide_Less_0 F v960 v961 v950 v951))])))
                            else (
                              none)))
                        else (
                          none)))
                    else (
                      none))
                  else (
                    none))
                else (
                  none))
              else (
                none))
            else (
              none))
          else (
            none))
        else (
          none))
      else (
        none))
    else (
      none))
  else (
    none) : R) := by
    intros
    kernel_rfl
  exact (h ok_fence_Zone_height_1 o_fence_Zone_height_1_0 o_fence_Zone_height_1_1 ok_wide_Neg o_wide_Neg_0 o_wide_Neg_1 ok_wide_Add o_wide_Add_0 o_wide_Add_1 ok_wide_Less o_wide_Less_0).trans (by kernel_rfl)
def ok_fence_Zone_height (F : Nat) (a0 : Bool) (a1 : List VV) (a2 : Nat) (a3 : Int) (a4 : Int) (a5 : Int) (a6 : Int) : Bool := okT to_fence_Zone_height (f_fence_Zone_height F a0 a1 a2 a3 a4 a5 a6)
def o_fence_Zone_height_0 (F : Nat) (a0 : Bool) (a1 : List VV) (a2 : Nat) (a3 : Int) (a4 : Int) (a5 : Int) (a6 : Int) : Bool := atB (nth (outT to_fence_Zone_height (f_fence_Zone_height F a0 a1 a2 a3 a4 a5 a6)) 0)
def o_fence_Zone_height_1 (F : Nat) (a0 : Bool) (a1 : List VV) (a2 : Nat) (a3 : Int) (a4 : Int) (a5 : Int) (a6 : Int) : Bool := atB (nth (outT to_fence_Zone_height (f_fence_Zone_height F a0 a1 a2 a3 a4 a5 a6)) 1)
theorem k_fence_Zone_height (F : Nat) (a0 : Bool) (a1 : List VV) (a2 : Nat) (a3 : Int) (a4 : Int) (a5 : Int) (a6 : Int) {z0 : Bool} {z1 : Bool} (h : f_fence_Zone_height F a0 a1 a2 a3 a4 a5 a6 = some (.v (.tuple #[.bool z0, .bool z1]))) : ok_fence_Zone_height F a0 a1 a2 a3 a4 a5 a6 = true ∧ o_fence_Zone_height_0 F a0 a1 a2 a3 a4 a5 a6 = z0 ∧ o_fence_Zone_height_1 F a0 a1 a2 a3 a4 a5 a6 = z1 := by
  refine ⟨?_, ?_, ?_⟩
  · unfold ok_fence_Zone_height; rw [h]; kernel_rfl
  · unfold o_fence_Zone_height_0; rw [h]; kernel_rfl
  · unfold o_fence_Zone_height_1; rw [h]; kernel_rfl
def s_fence_Zone_height (F : Nat) : List VV → Option (Bool × VV) := spec ti_fence_Zone_height to_fence_Zone_height (fun q => (ok_fence_Zone_height F (atB (nth q 0)) (atC (nth q 1)) (atN (nth q 2)) (atI (nth q 3)) (atI (nth q 4)) (atI (nth q 5)) (atI (nth q 6)))) (fun q => [.b (o_fence_Zone_height_0 F (atB (nth q 0)) (atC (nth q 1)) (atN (nth q 2)) (atI (nth q 3)) (atI (nth q 4)) (atI (nth q 5)) (atI (nth q 6))), .b (o_fence_Zone_height_1 F (atB (nth q 0)) (atC (nth q 1)) (atN (nth q 2)) (atI (nth q 3)) (atI (nth q 4)) (atI (nth q 5)) (atI (nth q 6)))])
theorem hS_fence_Zone_height (F : Nat) : ∀ f, Good PP f (unS (S_fence_Zone_height F f)) := words_good fun p hp => by
  simp only [List.mem_cons, List.not_mem_nil, or_false] at hp
  rcases hp with rfl | rfl | rfl | rfl
  · exact g_fence_Zone_height_1 F
  · exact g_wide_Neg F
  · exact g_wide_Add F
  · exact g_wide_Less F
theorem hl_fence_Zone_height (F : Nat) : ∀ p ∈ loopsIn PP 28, LoopOK PP (S_fence_Zone_height F) c_fence_Zone_height F (I_fence_Zone_height F) (J_fence_Zone_height F) p :=
  loops_of [] (by kernel_rfl) all_nil
theorem hj_fence_Zone_height (F : Nat) : ∀ p ∈ joinsIn PP c_fence_Zone_height 28, JoinOK PP (S_fence_Zone_height F) c_fence_Zone_height (I_fence_Zone_height F) (J_fence_Zone_height F) p :=
  joins_of [] (by kernel_rfl) all_nil
theorem g_fence_Zone_height (F : Nat) : Good PP 28 (unS (s_fence_Zone_height F)) :=
  fun_spec (hS_fence_Zone_height F) (by kernel_rfl) (by kernel_rfl) (C := c_fence_Zone_height) (F := fun q => (f_fence_Zone_height F (atB (nth q 0)) (atC (nth q 1)) (atN (nth q 2)) (atI (nth q 3)) (atI (nth q 4)) (atI (nth q 5)) (atI (nth q 6)))) (fun _ => F) (fun _ => I_fence_Zone_height F) (fun _ => J_fence_Zone_height F) (fun _ => hl_fence_Zone_height F) (fun _ => hj_fence_Zone_height F)
    (fun q => (congrArg (funL PP (S_fence_Zone_height F) c_fence_Zone_height (I_fence_Zone_height F) (J_fence_Zone_height F) 28) (show (fTs ti_fence_Zone_height q).1 = (fTs ti_fence_Zone_height [.b (atB (nth q 0)), .c (atC (nth q 1)), .n (atN (nth q 2)), .i (atI (nth q 3)), .i (atI (nth q 4)), .i (atI (nth q 5)), .i (atI (nth q 6))]).1 by kernel_rfl)).trans (e_fence_Zone_height F (atB (nth q 0)) (atC (nth q 1)) (atN (nth q 2)) (atI (nth q 3)) (atI (nth q 4)) (atI (nth q 5)) (atI (nth q 6))))
    (fun _ h => okT_fill' h (by kernel_rfl))

end Go.Xv
