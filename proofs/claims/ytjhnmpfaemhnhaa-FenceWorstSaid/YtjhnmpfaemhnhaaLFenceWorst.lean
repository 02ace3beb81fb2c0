/- The worst state of any zones is as the document says, or refused: the law returns true for every input, and leaves its arguments as they were. -/
import Derived.Test.YtjhnmpfaemhnhaaBH2
import Derived.Test.YtjhnmpfaemhnhaaProg
import Derived.KernelRfl
import Derived.RangeFuncNested
import Derived.RangeFuncBound
import Derived.RangeFuncCalls
import Derived.RangeFuncLeaves
import Derived.StillTailTactics
import Derived.TacticsIn
import Derived.OrdersIn
import Derived.RangeFuncBox
import Derived.Shelf.Abstract
import Derived.Shelf.RegionOpen
import Derived.WalkKit
import Derived.OwnWalkIn
import Derived.TacticsInMore
import Derived.LoopNIn
import Derived.LoopIn
namespace Go.Xv
noncomputable abbrev PP := Proofs.Try.prog
end Go.Xv
namespace Go.Xv
open Go.RowKit (Below)
variable {P : Program}

/-- What a round keeps: all but the blocks of V. -/
structure Keep (V : Nat → Prop) (W W' : World) : Prop where
  os : W'.os = W.os
  tape : W'.tape = W.tape
  output : W'.output = W.output
  size : W.heap.size ≤ W'.heap.size
  block : ∀ k, k < W.heap.size → ¬ V k → W'.heap[k]? = W.heap[k]?
theorem Keep.refl (V : Nat → Prop) (W : World) : Keep V W W := ⟨rfl, rfl, rfl, Nat.le_refl _, fun _ _ _ => rfl⟩
theorem Keep.trans {V : Nat → Prop} {A B C : World} (h : Keep V A B) (k : Keep V B C) : Keep V A C :=
  ⟨k.os.trans h.os, k.tape.trans h.tape, k.output.trans h.output, Nat.le_trans h.size k.size, fun i hi hv => (k.block i (Nat.lt_of_lt_of_le hi h.size) hv).trans (h.block i hi hv)⟩
theorem Keep.mono {V V' : Nat → Prop} {A B : World} (h : Keep V A B) (hv : ∀ k, V k → V' k) : Keep V' A B :=
  ⟨h.os, h.tape, h.output, h.size, fun i hi hn => h.block i hi fun e => hn (hv i e)⟩
theorem Keep.putObj {V : Nat → Prop} {W : World} {l : Nat} {o : Obj} (hv : V l) : Keep V W (W.putObj l o) :=
  ⟨rfl, rfl, rfl, by simp, fun i _ hn => World.putObj_heap_other fun e => hn (e ▸ hv)⟩
theorem Keep.below {V : Nat → Prop} {A B : World} (h : Keep V A B) {n : Nat} (hn : ∀ k, k < n → k < A.heap.size ∧ ¬ V k) : Below n A B :=
  ⟨h.os, h.tape, h.output, h.size, fun i hi => h.block i (hn i hi).1 (hn i hi).2⟩
theorem Keep.of {V : Nat → Prop} {A B : World} (h : Below A.heap.size A B) : Keep V A B :=
  ⟨h.os, h.tape, h.output, h.size, fun i hi _ => h.block i hi⟩
theorem Keep.setCell {V : Nat → Prop} {W : World} {b o : Nat} {v : Value} (hv : V b) : Keep V W (W.setCell ⟨b, o, none⟩ v) :=
  ⟨rfl, rfl, rfl, by show W.heap.size ≤ (W.heap.modify _ _).size; rw [Array.size_modify]; exact Nat.le_refl _, fun i _ hn => Below.heap_setCell W ⟨b, o, none⟩ v i fun e => hn (e ▸ hv)⟩

/-- What a function that one ranges over hands to its rounds: the list xs, or a part of it. It has its receiver, z, ahead of yield. -/
def Gives {α : Type} (P : Program) (gf : FuncId) (z : Value) (encs : α → Array Value) (xs : List α) (B : Nat) (w : World) : Prop :=
  ∀ (l : Nat) (V : Nat → Prop) (J Jx : List α → World → Prop) (W : World), Below B w W → (∀ k, V k → B ≤ k ∧ k < W.heap.size) →
    (∀ pre X Y, J pre X → Below X.heap.size X Y → J pre Y) → (∀ pre X Y, Jx pre X → Below X.heap.size X Y → Jx pre Y) →
    (∀ pre x X, J pre X → pre ++ [x] <+: xs → YieldAt Fence.wide 0 P l (encs x) X fun e X' =>
      (e = .returned (.bool true) ∧ J (pre ++ [x]) X' ∧ Keep V X X') ∨ (e = .returned (.bool false) ∧ Jx (pre ++ [x]) X')) →
    J [] W → CallsIn Fence.wide 0 P gf #[z, .func (.yield l) #[] #[]] W fun e W' => (∃ v, e = .returned v) ∧ (J xs W' ∨ ∃ pre x, pre ++ [x] <+: xs ∧ Jx (pre ++ [x]) W')

/-- How a round's body is left. -/
def roundQ {α : Type} (V : Nat → Prop) (I Ix : List α → World → Prop) (xs : List α) (W : World) : Exit → Act → World → Prop
  | .normal, _, W' => Keep V W W' ∧ I xs W'
  | .ret, _, W' => Keep V W W' ∧ Ix xs W'
  | _, _, _ => False

theorem range_recv {α : Type} {g : Operand} {ps : Array Tmp} {assign body : Code} {Q : Exit → Act → World → Prop} {a : Act} {w : World} {gf : FuncId} {z : Value}
    (hg : a.eval g = .func (.func gf) #[z] #[]) (eg : ∀ args w, (callFunc gf args).run P w = .ok (.enter gf args) w)
    {encs : α → Array Value} {xs : List α} (hps : ∀ x, (encs x).size = ps.size) {B : Nat} {w0 : World} (hseq : Gives P gf z encs xs B w0) (hB : B ≤ w0.heap.size) (hw : Below B w0 w)
    (V : Nat → Prop) (hV : ∀ k, V k → B ≤ k ∧ k < w.heap.size)
    (I Ix : List α → World → Prop) (hI : ∀ pre X Y, I pre X → Below w.heap.size X Y → I pre Y) (hIx : ∀ pre X Y, Ix pre X → Below w.heap.size X Y → Ix pre Y) (h0 : I [] w)
    (Ax : α → Nat → Act → World → Prop) (hAx : ∀ x m a' X l o, l < m → Ax x m a' X → Ax x m a' (X.putObj l o))
    (hassign : ∀ (l : Nat) (x : α) (X : World) (K : Act → World → Prop), w.heap.size ≤ X.heap.size → (∀ a' X', Below X.heap.size X X' → Ax x X.heap.size a' X' → K a' X') →
      assign.wpIn (Fence.wide.inRound l) 0 P (Exit.then K (fun _ _ _ => False)) { tmps := (ps.zip (encs x)).foldl (fun t (p, v) => t.setIfInBounds p v) a.tmps, defers := [] } X)
    (hbody : ∀ (l : Nat) (pre : List α) (x : α) (m : Nat) (a' : Act) (X : World), w.heap.size + 2 ≤ m → m ≤ X.heap.size → I pre X → Ax x m a' X → pre ++ [x] <+: xs → body.wpIn (Fence.wide.inRound l) 0 P (roundQ V I Ix (pre ++ [x]) X) a' X)
    (hdone : ∀ (D : Nat) (W : World), w.heap.size ≤ D → I xs W → W.heap[D]? = some (.deferred (some [])) → Q .normal { a with defers := { target := .collected D, args := #[] } :: a.defers } W)
    (hstop : ∀ (D : Nat) (pre : List α) (x : α) (W : World), w.heap.size ≤ D → pre ++ [x] <+: xs → Ix (pre ++ [x]) W → W.heap[D]? = some (.deferred (some [])) → Q .ret { a with defers := { target := .collected D, args := #[] } :: a.defers } W) :
    (Code.rangeFunc g ps assign body).wpIn Fence.wide 0 P Q a w := by
  refine wpIn_rangeFunc fun fn _ => ?_
  obtain ⟨rec, hrec⟩ : ∃ rec : LoopState → Option Code → Loop, rec = fun st pe => { state := st, pending := pe, fn, tmps := a.tmps, params := ps, assign, body, defers := w.heap.size } := ⟨_, rfl⟩
  have hent := run_enterLoop_outer (P := P) (w := w) fn a.tmps ps assign body
  generalize hW1 : (w.alloc (.deferred (some []))).alloc (.loop { state := .ready, pending := none, fn, tmps := a.tmps, params := ps, assign, body, defers := w.heap.size }) = W1 at hent
  have hs1 : W1.heap.size = w.heap.size + 2 := by rw [← hW1]; simp
  have hL1 : W1.heap[w.heap.size + 1]? = some (.loop (rec .ready none)) := by
    rw [← hW1, hrec]; have := World.alloc_heap_new (w.alloc (.deferred (some []))) (.loop (rec .ready none)); rw [World.size_alloc, hrec] at this; exact this
  have hK1 : W1.heap[w.heap.size]? = some (.deferred (some [])) := by
    rw [← hW1]; exact (Below.heap_alloc _ _ _ (by simp)).trans (World.alloc_heap_new w _)
  have hb1 : Below w.heap.size w W1 := by
    rw [← hW1]; exact ((Below.refl _ w).alloc (Nat.le_refl _) _).alloc (by simp) _
  have hBw : B ≤ w.heap.size := Nat.le_trans hB hw.size
  refine ⟨w.heap.size + 1, _, W1, { target := .fn (.func gf) #[], args := #[z, .func (.yield (w.heap.size + 1)) #[] #[]] }, W1, gf, #[z, .func (.yield (w.heap.size + 1)) #[] #[]], W1, hent, ?_, fun _ _ => trivial, ?_, (fun h => by cases h), ?_⟩
  · simp only [resolve, hg]
    simp [go_sem]
  · simp [invoke, go_sem, eg]
  · refine (hseq (w.heap.size + 1) (fun k => V k ∨ k = w.heap.size + 1)
      (fun pre W => I pre W ∧ W.heap[w.heap.size + 1]? = some (.loop (rec .ready none)) ∧ W.heap[w.heap.size]? = some (.deferred (some [])))
      (fun pre W => Ix pre W ∧ W.heap[w.heap.size + 1]? = some (.loop (rec .done (some .ret))) ∧ W.heap[w.heap.size]? = some (.deferred (some [])))
      W1 (hw.trans (hb1.mono hBw)) (fun k hk => by rcases hk with hk | rfl; · have := hV k hk; omega
                                                   · omega) ?_ ?_ ?_ ⟨hI _ _ _ h0 hb1, hL1, hK1⟩).mono ?_
    · rintro pre X Y ⟨h1, h2, h3⟩ hb
      have hlt := (Array.getElem?_eq_some_iff.1 h2).1
      exact ⟨hI _ _ _ h1 (hb.mono (by omega)), by rw [hb.block _ hlt]; exact h2, by rw [hb.block _ (by omega)]; exact h3⟩
    · rintro pre X Y ⟨h1, h2, h3⟩ hb
      have hlt := (Array.getElem?_eq_some_iff.1 h2).1
      exact ⟨hIx _ _ _ h1 (hb.mono (by omega)), by rw [hb.block _ hlt]; exact h2, by rw [hb.block _ (by omega)]; exact h3⟩
    · -- one round
      rintro pre x X ⟨hi, hl, hk⟩ hpre
      have hlt : w.heap.size + 1 < X.heap.size := (Array.getElem?_eq_some_iff.1 hl).1
      have hy := run_yield (P := P) (args := encs x) hl (by rw [hrec]; exact hps x)
      rw [hrec] at hy
      refine ⟨fn, _, assign, body, hy, roundIn_of_wpIn trivial (hassign _ x X _ (by omega) fun a' X' hbx hax => ?_)⟩
      clear hy
      have hl' : X'.heap[w.heap.size + 1]? = some (.loop (rec .ready none)) := by rw [hbx.block _ hlt]; exact hl
      have hk' : X'.heap[w.heap.size]? = some (.deferred (some [])) := by rw [hbx.block _ (by omega)]; exact hk
      have hlt' := (Array.getElem?_eq_some_iff.1 hl').1
      refine ⟨_, run_beginRound hl' (by rw [hrec]), ?_⟩
      generalize hX2 : X'.putObj (w.heap.size + 1) (.loop { rec .ready none with state := .busy }) = X2
      have hl2 : X2.heap[w.heap.size + 1]? = some (.loop { rec .ready none with state := .busy }) := by rw [← hX2]; exact World.putObj_heap_same hlt'
      have hk2 : X2.heap[w.heap.size]? = some (.deferred (some [])) := by rw [← hX2]; exact (World.putObj_heap_other (by omega)).trans hk'
      have hsz2 : X2.heap.size = X'.heap.size := by rw [← hX2]; simp
      have hp2 : Keep (fun k => k = w.heap.size + 1) X X2 := by rw [← hX2]; exact (Keep.of hbx).trans (Keep.putObj rfl)
      have hi2 : I pre X2 := hI _ _ _ hi (hp2.below fun k hk => ⟨by omega, by omega⟩)
      have hax2 : Ax x X.heap.size a' X2 := by rw [← hX2]; exact hAx _ _ _ _ _ _ (by omega) hax
      refine wpIn_mono (hbody _ pre x X.heap.size a' X2 (by omega) (by rw [hsz2]; exact hbx.size) hi2 hax2 hpre) ?_
      rintro e a3 W3 hp
      have fin : ∀ (jump : Option Code), Keep V X2 W3 →
          (Instr.endRound (w.heap.size + 1) jump).run P W3 = .ok (.bool jump.isNone) (W3.putObj (w.heap.size + 1) (.loop (rec (if jump.isNone then .ready else .done) jump))) ∧
          Below w.heap.size W3 (W3.putObj (w.heap.size + 1) (.loop (rec (if jump.isNone then .ready else .done) jump))) ∧
          (W3.putObj (w.heap.size + 1) (.loop (rec (if jump.isNone then .ready else .done) jump))).heap[w.heap.size + 1]? = some (.loop (rec (if jump.isNone then .ready else .done) jump)) ∧
          (W3.putObj (w.heap.size + 1) (.loop (rec (if jump.isNone then .ready else .done) jump))).heap[w.heap.size]? = some (.deferred (some [])) ∧
          Keep (fun k => V k ∨ k = w.heap.size + 1) X (W3.putObj (w.heap.size + 1) (.loop (rec (if jump.isNone then .ready else .done) jump))) := fun jump hk3 => by
        have hl3 : W3.heap[w.heap.size + 1]? = some (.loop { rec .ready none with state := .busy }) := by
          rw [hk3.block _ (by omega) (fun e => by have := hV _ e; omega)]; exact hl2
        have hlt3 := (Array.getElem?_eq_some_iff.1 hl3).1
        have := run_endRound (P := P) jump hl3
        refine ⟨by rw [hrec] at this ⊢; exact this, ?_, World.putObj_heap_same hlt3, (World.putObj_heap_other (by omega)).trans ?_, ?_⟩
        · exact (Keep.putObj (V := fun k => k = w.heap.size + 1) rfl).below fun k hk => ⟨by omega, by omega⟩
        · rw [hk3.block _ (by omega) (fun e => by have := hV _ e; omega)]; exact hk2
        · exact ((hp2.mono fun k e => .inr e).trans (hk3.mono fun k e => .inl e)).trans (Keep.putObj (.inr rfl))
      cases e with
      | normal =>
        obtain ⟨hk3, hi3⟩ := hp
        obtain ⟨hr, hb4, hl4, hk4, hkp⟩ := fin none hk3
        exact ⟨_, _, hr, .inl ⟨rfl, ⟨hI _ _ _ hi3 hb4, hl4, hk4⟩, hkp⟩⟩
      | ret =>
        obtain ⟨hk3, hi3⟩ := hp
        obtain ⟨hr, hb4, hl4, hk4, hkp⟩ := fin (some .ret) hk3
        exact ⟨_, _, hr, .inr ⟨rfl, hIx _ _ _ hi3 hb4, hl4, hk4⟩⟩
      | exit id => exact hp.elim
      | goto t => exact hp.elim
      | panic ch => exact hp.elim
      | outgrown => exact hp.elim
    · rintro e W2 ⟨⟨v, rfl⟩, (⟨hi, hl, hk⟩ | ⟨pre, x, hSp, hi, hl, hk⟩)⟩
      · have hlt := (Array.getElem?_eq_some_iff.1 hl).1
        refine ⟨none, _, by have := run_endLoop (P := P) hl (by rw [hrec]; simp); rw [hrec] at this; exact this, hdone w.heap.size _ (Nat.le_refl _) (hI _ _ _ hi ?_) ((World.putObj_heap_other (by omega)).trans hk)⟩
        exact (Keep.putObj (V := fun k => k = w.heap.size + 1) rfl).below fun k hk => ⟨by omega, by omega⟩
      · have hlt := (Array.getElem?_eq_some_iff.1 hl).1
        refine ⟨some .ret, _, by have := run_endLoop (P := P) hl (by rw [hrec]; simp); rw [hrec] at this; exact this, wpIn_ret (hstop w.heap.size pre x _ (Nat.le_refl _) hSp (hIx _ _ _ hi ?_) ((World.putObj_heap_other (by omega)).trans hk))⟩
        exact (Keep.putObj (V := fun k => k = w.heap.size + 1) rfl).below fun k hk => ⟨by omega, by omega⟩
end Go.Xv
namespace Go.Xv
open Go.RowKit (Below)
variable {P : Program}

theorem wpOpIn_of_stOp {ops : Array Oper} {w : World} {i : Nat} {a : Act} {K : Act → Prop} {K' : Act → World → Prop} {Q' : Exit → Act → World → Prop} (h : ∀ a, K a → K' a w) (hh : stOp P ops w i K a) : wpOpIn Fence.wide 0 P ops Q' i K' a w := by
  unfold stOp at hh
  unfold wpOpIn
  split
  · rename_i ho; simp only [ho] at hh; exact h _ hh
  · rename_i o ho
    simp only [ho] at hh
    split
    · rename_i hw
      simp only [hw, if_true] at hh
      refine ⟨fun _ _ => trivial, ?_⟩
      show o.uponIn Fence.wide 0 P a K' Q' ((execOp a.eval o).run P w)
      unfold Oper.still at hh
      generalize (execOp a.eval o).run P w = r at hh ⊢
      cases r with
      | ok n w' =>
        cases n <;> simp only [Oper.stillUpon] at hh <;> simp only [Oper.uponIn]
        case enter f args =>
          obtain ⟨rfl, v, hc, hn⟩ := hh
          exact ⟨(fun e => by cases e), callsIn_wide.2 (hc.mono fun e w'' ⟨he, hw⟩ => by subst he; subst hw; exact h _ hn)⟩
        all_goals (obtain ⟨rfl, h2⟩ := hh; exact h _ h2)
      | halt x w' => simp only [Oper.stillUpon] at hh
    · rename_i hw; simp only [hw] at hh; exact ⟨fun _ _ => trivial, h _ hh⟩

theorem wpAnyIn_of_head {md : Region.Mode} {ops : Array Oper} {w : World} {n g : Nat} {L : Array Bool → Act → Prop} {Q' : Exit → Act → World → Prop} (hL : ∀ listed a, L listed a → wpAnyIn Fence.wide 0 P md ops Q' g listed a w) :
    ∀ (f : Nat) (listed : Array Bool) (a : Act), wpAnyL P md ops w n L f listed a → wpAnyIn Fence.wide 0 P md ops Q' (f + g) listed a w
  | 0, listed, a, h => by rw [Nat.zero_add]; exact hL _ _ h
  | f + 1, listed, a, h => by
    rw [show f + 1 + g = (f + g) + 1 by omega]
    exact ⟨fun h0 => absurd h0 h.1, fun i hi => wpOpIn_of_stOp (fun a' h' => wpAnyIn_of_head hL f _ a' h') (h.2 i hi).2⟩

theorem wpAnyIn_of_seq {md : Region.Mode} {ops : Array Oper} {Q' : Exit → Act → World → Prop} : ∀ (l : List Oper) (k : Nat) (listed : Array Bool) (a : Act) (w : World), (∀ j, l[j]? = ops[k + j]?) →
    Region.seqB md ops l.length k listed = true → wpListIn Fence.wide 0 P ops Q' l a w → wpAnyIn Fence.wide 0 P md ops Q' l.length listed a w
  | [], _, _, _, _, _, hB, h => ⟨by simpa [Region.seqB] using hB, h⟩
  | o :: l, k, listed, a, w, hl, hB, h => by
    have h0 : ops[k]? = some o := by simpa using (hl 0).symm
    simp only [List.length_cons, Region.seqB, Bool.and_eq_true, decide_eq_true_eq] at hB
    refine ⟨fun h1 => (by rw [hB.1] at h1; cases h1), fun i hi => ?_⟩
    rw [hB.1] at hi
    have hik : i = k := by simpa using hi
    subst hik
    have hw : wpOpIn Fence.wide 0 P ops Q' i (wpListIn Fence.wide 0 P ops Q' l) a w := by unfold wpOpIn; simp only [h0]; exact h
    exact wpOpIn_mono (fun a' w' h' => wpAnyIn_of_seq l (i + 1) _ a' w' (fun j => by have := hl (j + 1); simpa [Nat.add_assoc, Nat.add_comm 1 j] using this) hB.2 h') hw

/-- A region whose first operations change nothing, and whose last ones come in one order. -/
theorem wpIn_still_tail {id : Nat} {Q : Exit → Act → World → Prop} {a : Act} {w : World} {l : List Oper} (n : Nat) (hm : P.follows .mixedOrders = true) (hB : Region.lexTailB .any l.toArray n = true)
    (h : wpStill P l.toArray { w with drawn := w.drawn + 1 } (fun a' => wpListIn Fence.wide 0 P l.toArray Q (l.drop n) a' { w with drawn := w.drawn + 1 }) (l.take n) a) : (Code.region id l.toArray true).wpIn Fence.wide 0 P Q a w := by
  simp only [Region.lexTailB, Bool.and_eq_true, decide_eq_true_eq] at hB
  obtain ⟨⟨⟨⟨hsel, hn⟩, hs⟩, hc⟩, hlex⟩ := hB
  have hn' : n < l.length := by simpa using hn
  have htl : (l.take n).length = n := by simp; omega
  have hdl : (l.drop n).length = l.toArray.size - n := by simp
  have inv0 : HeadInv .any l.toArray n (Array.replicate l.toArray.size false) :=
    ⟨by simp, fun j oj _ hl => (by rw [getD_replicate_false] at hl; cases hl), fun t _ ht => getD_in (by simpa using ht) (getD_replicate_false _ _)⟩
  have H := wpAnyL_lex (md := .any) (g := l.toArray.size - n) hsel hs hc hn (l.take n) 0 _ a (fun j hj => by
    have hj' : j < n := by rw [htl] at hj; exact hj
    simp [hj']) (by simpa using htl) inv0 (by rw [htl]; exact hlex) h
  refine wpIn_region_any hm ?_
  have := wpAnyIn_of_head (Q' := Q) (g := l.toArray.size - n) (fun listed a' hL => by
    have := wpAnyIn_of_seq (md := .any) (Q' := Q) (l.drop n) n listed a' { w with drawn := w.drawn + 1 } (fun j => by simp [List.getElem?_drop]) (by rw [hdl]; exact hL.1) hL.2
    rwa [hdl] at this) _ _ _ H
  rw [htl, show n + (l.toArray.size - n) = l.toArray.size by omega] at this
  exact this
end Go.Xv
namespace Go.Xv
abbrev Pt := Int × Int
def at0 (zs : List Pt) (k : Nat) : Pt := zs[k]?.getD (0, 0)
def edge (zs : List Pt) (k : Nat) : Pt × Pt := (at0 zs k, at0 zs ((k + 1) % zs.length))
def edgesOf (zs : List Pt) (k : Nat) : List (Pt × Pt) := (List.range k).map (edge zs)
theorem edgesOf_succ (zs : List Pt) (k : Nat) : edgesOf zs (k + 1) = edgesOf zs k ++ [edge zs k] := by simp [edgesOf, List.range_succ]

theorem edgesOf_prefix (zs : List Pt) {k n : Nat} (h : k ≤ n) : edgesOf zs k <+: edgesOf zs n := by
  obtain ⟨d, rfl⟩ := Nat.le.dest h
  rw [edgesOf, edgesOf, List.range_add, List.map_append]
  exact List.prefix_append _ _
/-- all of k numbers from i on; some of them. -/
def allN (f : Nat → Bool) : Nat → Nat → Bool
  | _, 0 => true
  | i, k + 1 => f i && allN f (i + 1) k
def anyN (f : Nat → Bool) : Nat → Nat → Bool
  | _, 0 => false
  | i, k + 1 => f i || anyN f (i + 1) k
/-- how many of k numbers from i on. -/
def cntN (f : Nat → Bool) : Nat → Nat → Nat
  | _, 0 => 0
  | i, k + 1 => (if f i then 1 else 0) + cntN f (i + 1) k
theorem allN_iff {f : Nat → Bool} : ∀ {k i : Nat}, allN f i k = true ↔ ∀ j, i ≤ j → j < i + k → f j = true
  | 0, i => by
    constructor
    · intro _ j h1 h2; omega
    · intro _; rfl
  | k + 1, i => by
    rw [allN, Bool.and_eq_true, allN_iff (k := k)]
    constructor
    · rintro ⟨h, h'⟩ j h1 h2
      by_cases e : j = i
      · exact e ▸ h
      · exact h' j (by omega) (by omega)
    · intro h
      exact ⟨h i (by omega) (by omega), fun j h1 h2 => h j (by omega) (by omega)⟩
theorem anyN_iff {f : Nat → Bool} : ∀ {k i : Nat}, anyN f i k = true ↔ ∃ j, i ≤ j ∧ j < i + k ∧ f j = true
  | 0, i => by
    constructor
    · intro h; cases h
    · rintro ⟨j, h1, h2, _⟩; omega
  | k + 1, i => by
    rw [anyN, Bool.or_eq_true, anyN_iff (k := k)]
    constructor
    · rintro (h | ⟨j, h1, h2, h3⟩)
      · exact ⟨i, by omega, by omega, h⟩
      · exact ⟨j, by omega, by omega, h3⟩
    · rintro ⟨j, h1, h2, h3⟩
      by_cases e : j = i
      · exact .inl (e ▸ h3)
      · exact .inr ⟨j, by omega, by omega, h3⟩
theorem cntN_congr {f g : Nat → Bool} : ∀ {k i : Nat}, (∀ j, i ≤ j → j < i + k → f j = g j) → cntN f i k = cntN g i k
  | 0, _, _ => rfl
  | k + 1, i, h => by simp only [cntN]; rw [h i (by omega) (by omega), cntN_congr (k := k) fun j h1 h2 => h j (by omega) (by omega)]
theorem cntN_snoc {f : Nat → Bool} : ∀ {k i : Nat}, cntN f i (k + 1) = cntN f i k + (if f (i + k) then 1 else 0)
  | 0, i => by simp [cntN]
  | k + 1, i => by
    have := cntN_snoc (f := f) (k := k) (i := i + 1)
    rw [show i + 1 + k = i + (k + 1) by omega] at this
    rw [cntN, this, cntN]
    omega
end Go.Xv
namespace Go.Xv
open Go.RowKit Go.Shelf
attribute [local go_sem] Oper.semAt_some

abbrev ptV (p : Pt) : Value := .agg #[.int .i64 p.1, .int .i64 p.2]
abbrev edgeV (e : Pt × Pt) : Array Value := #[ptV e.1, ptV e.2]
/-- The points lie in block b from q on. -/
def Lies (W : World) (b q : Nat) (zs : List Pt) : Prop := ∀ j, j < zs.length → W.cell? ⟨b, q + j * 2, none⟩ = some (.int .i64 (at0 zs j).1) ∧ W.cell? ⟨b, q + j * 2 + 1, none⟩ = some (.int .i64 (at0 zs j).2)

set_option maxRecDepth 100000 in
set_option maxHeartbeats 4000000 in
theorem edges_gives (zs : List Pt) (kp : Bool) (fl rf : Int) (b q cap : Nat) (h1 : 1 ≤ zs.length) (h16 : zs.length ≤ 1000) (B : Nat) (w : World) (hb : b < B) (hBw : B ≤ w.heap.size) (hl : Lies w b q zs) :
    Gives PP 21 (.agg #[.bool kp, .slice (some ⟨b, q, none⟩) zs.length cap, .int .i64 fl, .int .i64 rf]) edgeV (edgesOf zs zs.length) B w := by
  intro l V J Jx W hW hV hJ hJx hY h0
  refine callsIn_of_wp Proofs.Try.func21 rfl trivial ?_ rfl
  simp only [Proofs.Try.ntmps21, List.size_toArray, List.length_cons, List.length_nil, Nat.reduceAdd, Nat.reduceSub, Array.replicate_succ, Array.replicate_zero, List.push_toArray, List.append_toArray, List.nil_append, List.cons_append]
  gi_wp2
  gi_loopw [9] (fun i wr => ∃ k : Nat, k ≤ zs.length ∧ i = .int .i64 k ∧ J (edgesOf zs k) wr ∧ Lies wr b q zs ∧ Below B w wr ∧ W.heap.size < wr.heap.size ∧
      wr.cell? ⟨W.heap.size, 0, none⟩ = some (.bool kp) ∧ wr.cell? ⟨W.heap.size, 1, none⟩ = some (.slice (some ⟨b, q, none⟩) zs.length cap) ∧ wr.cell? ⟨W.heap.size, 2, none⟩ = some (.int .i64 fl) ∧ wr.cell? ⟨W.heap.size, 3, none⟩ = some (.int .i64 rf))
    (fun i _ => zs.length - (intOf i).toNat)
  case atStart =>
    have hsz0 : ∀ (c : Obj), Below W.heap.size W (W.alloc c) := fun c => (Below.refl _ W).alloc (Nat.le_refl _) c
    have hBW : B ≤ W.heap.size := by have := hW.size; omega
    exact ⟨0, Nat.zero_le _, rfl, hJ _ _ _ h0 (hsz0 _), fun j hj => by
      obtain ⟨p1, p2⟩ := hl j hj
      exact ⟨((hsz0 _).cell (p := ⟨b, _, none⟩) (by show b < _; omega)).trans ((hW.cell (p := ⟨b, _, none⟩) hb).trans p1), ((hsz0 _).cell (p := ⟨b, _, none⟩) (by show b < _; omega)).trans ((hW.cell (p := ⟨b, _, none⟩) hb).trans p2)⟩,
      hW.trans ((hsz0 _).mono hBW), by simp, by simp, by simp, by simp, by simp⟩
  case round =>
    obtain ⟨k, hk, rfl, hJs, hls, hbl, hsz, c0, c1, c2, c3⟩ := hrel
    by_cases hlt : k < zs.length
    · obtain ⟨hp1, hp2⟩ := hls k hlt
      obtain ⟨hq1, hq2⟩ := hls ((k + 1) % zs.length) (Nat.mod_lt _ (by omega))
      have hbX : Below wr.heap.size wr { (wr.alloc (.cells #[.int .i64 (at0 zs k).1, .int .i64 (at0 zs k).2] 33)) with drawn := (wr.alloc (.cells #[.int .i64 (at0 zs k).1, .int .i64 (at0 zs k).2] 33)).drawn + 1 } :=
        let h := (Below.refl wr.heap.size wr).alloc (Nat.le_refl _) (.cells #[.int .i64 (at0 zs k).1, .int .i64 (at0 zs k).2] 33)
        ⟨h.os, h.tape, h.output, h.size, h.block⟩
      have d0 : (wr.alloc (.cells #[.int .i64 (at0 zs k).1, .int .i64 (at0 zs k).2] 33)).cell? ⟨wr.heap.size, 0, none⟩ = some (.int .i64 (at0 zs k).1) := by simp
      have d1 : (wr.alloc (.cells #[.int .i64 (at0 zs k).1, .int .i64 (at0 zs k).2] 33)).cell? ⟨wr.heap.size, 1, none⟩ = some (.int .i64 (at0 zs k).2) := by simp
      gi_wp2
      have hmx : PP.follows .mixedOrders = true := by kernel_rfl
      refine wpIn_still_tail 12 hmx (by kernel_rfl) ?_
      have hbB : b < wr.heap.size := by have := hbl.size; have := hW.size; omega
      have kc : ∀ {p : Addr} {v : Value}, wr.cell? p = some v → p.block < wr.heap.size → World.cell? { (wr.alloc (.cells #[.int .i64 (at0 zs k).1, .int .i64 (at0 zs k).2] 33)) with drawn := (wr.alloc (.cells #[.int .i64 (at0 zs k).1, .int .i64 (at0 zs k).2] 33)).drawn + 1 } p = some v :=
        fun {p v} h hp => (hbX.cell (p := p) hp).trans h
      have c1' := kc c1 hsz
      have hq1' := kc hq1 hbB
      have hq2' := kc hq2 hbB
      replace d0 : World.cell? { (wr.alloc (.cells #[.int .i64 (at0 zs k).1, .int .i64 (at0 zs k).2] 33)) with drawn := (wr.alloc (.cells #[.int .i64 (at0 zs k).1, .int .i64 (at0 zs k).2] 33)).drawn + 1 } ⟨wr.heap.size, 0, none⟩ = _ := d0
      replace d1 : World.cell? { (wr.alloc (.cells #[.int .i64 (at0 zs k).1, .int .i64 (at0 zs k).2] 33)) with drawn := (wr.alloc (.cells #[.int .i64 (at0 zs k).1, .int .i64 (at0 zs k).2] 33)).drawn + 1 } ⟨wr.heap.size, 1, none⟩ = _ := d1
      clear kc
      generalize ({ (wr.alloc (.cells #[.int .i64 (at0 zs k).1, .int .i64 (at0 zs k).2] 33)) with drawn := (wr.alloc (.cells #[.int .i64 (at0 zs k).1, .int .i64 (at0 zs k).2] 33)).drawn + 1 } : World) = Y at *
      have hXJ := hJ _ _ _ hJs hbX
      obtain ⟨fn, tmps, assign, body, hy, hR⟩ := hY _ (edge zs k) Y hXJ (by rw [← edgesOf_succ]; exact edgesOf_prefix zs (by omega))
      dsimp only [edgeV, edge, ptV] at hy
      simp only [List.take_succ_cons, List.take_zero, List.drop_succ_cons, List.drop_zero]
      repeat still_step
      have hwr : IntKind.wrap .i64 ((k : Int) + 1) = ((k + 1 : Nat) : Int) := by simp [IntKind.wrap, IntKind.signed, IntKind.bits]; omega
      rw [hwr]
      have hne : ((zs.length : Nat) : Int) ≠ 0 := by omega
      have hne' : zs.length ≠ 0 := by omega
      refine wpStill_step (fun K hK => ?_)
      go_simp
      refine hK _ ?_
      clear hK K
      have htm : ((k : Int) + 1).tmod (zs.length : Int) = (((k + 1) % zs.length : Nat) : Int) := by
        rw [Int.tmod_eq_emod_of_nonneg (by omega)]; simp
      rw [htm]
      have hlt2 : (k + 1) % zs.length < zs.length := Nat.mod_lt _ (by omega)
      generalize hk2d : (k + 1) % zs.length = k2 at *
      repeat still_step
      refine wpStill_nil ?_
      have hV' : ∀ k', V k' → B ≤ k' ∧ k' < W.heap.size := hV
      gi_wp2
      refine ⟨rfl, hR.mono ?_⟩
      rintro e W3 (⟨rfl, hJ3, hk3⟩ | ⟨rfl, hJx3⟩)
      · have hk3' : ∀ {p : Addr} {v : Value}, Y.cell? p = some v → p.block < Y.heap.size → ¬ V p.block → W3.cell? p = some v := fun {p v} h hp hv => by
          rw [World.cell?_of_block (w := Y) (hk3.block _ hp hv)]; exact h
        have hYs := hbX.size
        gi_wp2
        go_roundw
        case rel =>
          have hnV : ¬ V W.heap.size := fun e => by have := hV _ e; omega
          have hnb : ¬ V b := fun e => by have := hV _ e; omega
          have hBW : B ≤ W.heap.size := by have := hW.size; omega
          exact ⟨k + 1, by omega, by simp, by rw [edgesOf_succ]; exact hJ3, fun j hj => by
              obtain ⟨p1, p2⟩ := hls j hj
              exact ⟨hk3' ((hbX.cell (p := ⟨b, _, none⟩) hbB).trans p1) (by show b < _; omega) hnb, hk3' ((hbX.cell (p := ⟨b, _, none⟩) hbB).trans p2) (by show b < _; omega) hnb⟩,
            hbl.trans ((hbX.mono (by omega)).trans (hk3.below fun k' hk' => ⟨by omega, fun e => by have := hV _ e; omega⟩)), by have := hk3.size; omega,
            hk3' ((hbX.cell (p := ⟨W.heap.size, 0, none⟩) hsz).trans c0) (by show W.heap.size < _; omega) hnV,
            hk3' ((hbX.cell (p := ⟨W.heap.size, 1, none⟩) hsz).trans c1) (by show W.heap.size < _; omega) hnV,
            hk3' ((hbX.cell (p := ⟨W.heap.size, 2, none⟩) hsz).trans c2) (by show W.heap.size < _; omega) hnV,
            hk3' ((hbX.cell (p := ⟨W.heap.size, 3, none⟩) hsz).trans c3) (by show W.heap.size < _; omega) hnV⟩
        case measure => simp [intOf]; omega
      · gi_wp2
        refine bodyPost_ret (results_none rfl _ _ _) rfl ?_
        refine ⟨⟨_, rfl⟩, .inr ⟨edgesOf zs k, edge zs k, by rw [← edgesOf_succ]; exact edgesOf_prefix zs (by omega), hJx3⟩⟩
    · obtain rfl : k = zs.length := by omega
      gi_wp2
      go_end0
      exact ⟨⟨_, rfl⟩, .inl hJs⟩
end Go.Xv
set_option linter.unusedVariables false
namespace Go.Xv
/- 41 _wide_Add -/
def c_wide_Add : Cfg := ⟨[0, 1, 2, 3, 4, 5, 6, 22], [], [], []⟩
def ti_wide_Add : List TV := [.v (.agg [.int .i64, .int .u64]), .v (.agg [.int .i64, .int .u64])]
def to_wide_Add : TV := .v (.agg [.int .i64, .int .u64])
def S_wide_Add (F : Nat) : FuncId → List VV → Option (Bool × VV) := words []
def W_wide_Add (F : Nat) : List LW := []
def I_wide_Add (F : Nat) : Nat → VS → (Exit → VS → R) → R := tabI c_wide_Add (W_wide_Add F)
def WJ_wide_Add (F : Nat) : List LJ := []
def J_wide_Add (F : Nat) : Nat → Nat → VS → (Exit → VS → R) → R := tabJ (WJ_wide_Add F)
def f_wide_Add (F : Nat) (a0 : Int) (a1 : Int) (a2 : Int) (a3 : Int) : R :=
  let v66 : Int := (IntKind.wrap .u64 (a1 + a3))
  let v69 : Int := (IntKind.wrap .u64 (((IntKind.wrap .u64 a0)) + ((IntKind.wrap .u64 a2))))
  bif ((decide (v66 < a1))) then (
    some (.v (.agg #[.int .i64 ((IntKind.wrap .i64 ((IntKind.wrap .u64 (v69 + 1))))), .int .u64 v66])))
  else (
    some (.v (.agg #[.int .i64 ((IntKind.wrap .i64 v69)), .int .u64 v66])))
theorem e_wide_Add (F : Nat) (a0 : Int) (a1 : Int) (a2 : Int) (a3 : Int) : funL PP (S_wide_Add F) c_wide_Add (I_wide_Add F) (J_wide_Add F) 41 (fTs ti_wide_Add [.i a0, .i a1, .i a2, .i a3]).1 = f_wide_Add F a0 a1 a2 a3 := by
  have h : ∀ (_ : Unit), funL PP (words []) c_wide_Add (tabI c_wide_Add []) (tabJ []) 41 (fTs ti_wide_Add [.i a0, .i a1, .i a2, .i a3]).1 = (
  let v66 : Int := (IntKind.wrap .u64 (a1 + a3))
  let v69 : Int := (IntKind.wrap .u64 (((IntKind.wrap .u64 a0)) + ((IntKind.wrap .u64 a2))))
  bif ((decide (v66 < a1))) then (
    some (.v (.agg #[.int .i64 ((IntKind.wrap .i64 ((IntKind.wrap .u64 (v69 + 1))))), .int .u64 v66])))
  else (
    some (.v (.agg #[.int .i64 ((IntKind.wrap .i64 v69)), .int .u64 v66]))) : R) := by
    intros
    kernel_rfl
  exact (h ()).trans (by kernel_rfl)
def ok_wide_Add (F : Nat) (a0 : Int) (a1 : Int) (a2 : Int) (a3 : Int) : Bool := okT to_wide_Add (f_wide_Add F a0 a1 a2 a3)
def o_wide_Add_0 (F : Nat) (a0 : Int) (a1 : Int) (a2 : Int) (a3 : Int) : Int := atI (nth (outT to_wide_Add (f_wide_Add F a0 a1 a2 a3)) 0)
def o_wide_Add_1 (F : Nat) (a0 : Int) (a1 : Int) (a2 : Int) (a3 : Int) : Int := atI (nth (outT to_wide_Add (f_wide_Add F a0 a1 a2 a3)) 1)
theorem k_wide_Add (F : Nat) (a0 : Int) (a1 : Int) (a2 : Int) (a3 : Int) {z0 : Int} {z1 : Int} (h : f_wide_Add F a0 a1 a2 a3 = some (.v (.agg #[.int .i64 z0, .int .u64 z1]))) : ok_wide_Add F a0 a1 a2 a3 = true ∧ o_wide_Add_0 F a0 a1 a2 a3 = z0 ∧ o_wide_Add_1 F a0 a1 a2 a3 = z1 := by
  refine ⟨?_, ?_, ?_⟩
  · unfold ok_wide_Add; rw [h]; kernel_rfl
  · unfold o_wide_Add_0; rw [h]; kernel_rfl
  · unfold o_wide_Add_1; rw [h]; kernel_rfl
def s_wide_Add (F : Nat) : List VV → Option (Bool × VV) := spec ti_wide_Add to_wide_Add (fun q => (ok_wide_Add F (atI (nth q 0)) (atI (nth q 1)) (atI (nth q 2)) (atI (nth q 3)))) (fun q => [.i (o_wide_Add_0 F (atI (nth q 0)) (atI (nth q 1)) (atI (nth q 2)) (atI (nth q 3))), .i (o_wide_Add_1 F (atI (nth q 0)) (atI (nth q 1)) (atI (nth q 2)) (atI (nth q 3)))])
theorem hS_wide_Add (F : Nat) : ∀ f, Good PP f (unS (S_wide_Add F f)) := words_good fun p hp => by
  cases hp
theorem hl_wide_Add (F : Nat) : ∀ p ∈ loopsIn PP 41, LoopOK PP (S_wide_Add F) c_wide_Add F (I_wide_Add F) (J_wide_Add F) p :=
  loops_of [] (by kernel_rfl) all_nil
theorem hj_wide_Add (F : Nat) : ∀ p ∈ joinsIn PP c_wide_Add 41, JoinOK PP (S_wide_Add F) c_wide_Add (I_wide_Add F) (J_wide_Add F) p :=
  joins_of [] (by kernel_rfl) all_nil
theorem g_wide_Add (F : Nat) : Good PP 41 (unS (s_wide_Add F)) :=
  fun_spec (hS_wide_Add F) (by kernel_rfl) (by kernel_rfl) (C := c_wide_Add) (F := fun q => (f_wide_Add F (atI (nth q 0)) (atI (nth q 1)) (atI (nth q 2)) (atI (nth q 3)))) (fun _ => F) (fun _ => I_wide_Add F) (fun _ => J_wide_Add F) (fun _ => hl_wide_Add F) (fun _ => hj_wide_Add F)
    (fun q => (congrArg (funL PP (S_wide_Add F) c_wide_Add (I_wide_Add F) (J_wide_Add F) 41) (show (fTs ti_wide_Add q).1 = (fTs ti_wide_Add [.i (atI (nth q 0)), .i (atI (nth q 1)), .i (atI (nth q 2)), .i (atI (nth q 3))]).1 by kernel_rfl)).trans (e_wide_Add F (atI (nth q 0)) (atI (nth q 1)) (atI (nth q 2)) (atI (nth q 3))))
    (fun _ h => okT_fill' h (by kernel_rfl))

end Go.Xv
set_option linter.unusedVariables false
namespace Go.Xv
/- 46 _wide_bare -/
def c_wide_bare : Cfg := ⟨[0, 2, 4], [], [], []⟩
def ti_wide_bare : List TV := [.v (.int .i64)]
def to_wide_bare : TV := .v (.int .u64)
def S_wide_bare (F : Nat) : FuncId → List VV → Option (Bool × VV) := words []
def W_wide_bare (F : Nat) : List LW := []
def I_wide_bare (F : Nat) : Nat → VS → (Exit → VS → R) → R := tabI c_wide_bare (W_wide_bare F)
def WJ_wide_bare (F : Nat) : List LJ := []
def J_wide_bare (F : Nat) : Nat → Nat → VS → (Exit → VS → R) → R := tabJ (WJ_wide_bare F)
def f_wide_bare (F : Nat) (a0 : Int) : R :=
  bif ((decide (a0 < 0))) then (
    some (.v (.int .u64 ((IntKind.wrap .u64 (0 - ((IntKind.wrap .u64 a0))))))))
  else (
    some (.v (.int .u64 ((IntKind.wrap .u64 a0)))))
theorem e_wide_bare (F : Nat) (a0 : Int) : funL PP (S_wide_bare F) c_wide_bare (I_wide_bare F) (J_wide_bare F) 46 (fTs ti_wide_bare [.i a0]).1 = f_wide_bare F a0 := by
  have h : ∀ (_ : Unit), funL PP (words []) c_wide_bare (tabI c_wide_bare []) (tabJ []) 46 (fTs ti_wide_bare [.i a0]).1 = (
  bif ((decide (a0 < 0))) then (
    some (.v (.int .u64 ((IntKind.wrap .u64 (0 - ((IntKind.wrap .u64 a0))))))))
  else (
    some (.v (.int .u64 ((IntKind.wrap .u64 a0))))) : R) := by
    intros
    kernel_rfl
  exact (h ()).trans (by kernel_rfl)
def ok_wide_bare (F : Nat) (a0 : Int) : Bool := okT to_wide_bare (f_wide_bare F a0)
def o_wide_bare_0 (F : Nat) (a0 : Int) : Int := atI (nth (outT to_wide_bare (f_wide_bare F a0)) 0)
theorem k_wide_bare (F : Nat) (a0 : Int) {z0 : Int} (h : f_wide_bare F a0 = some (.v (.int .u64 z0))) : ok_wide_bare F a0 = true ∧ o_wide_bare_0 F a0 = z0 := by
  refine ⟨?_, ?_⟩
  · unfold ok_wide_bare; rw [h]; kernel_rfl
  · unfold o_wide_bare_0; rw [h]; kernel_rfl
def s_wide_bare (F : Nat) : List VV → Option (Bool × VV) := spec ti_wide_bare to_wide_bare (fun q => (ok_wide_bare F (atI (nth q 0)))) (fun q => [.i (o_wide_bare_0 F (atI (nth q 0)))])
theorem hS_wide_bare (F : Nat) : ∀ f, Good PP f (unS (S_wide_bare F f)) := words_good fun p hp => by
  cases hp
theorem hl_wide_bare (F : Nat) : ∀ p ∈ loopsIn PP 46, LoopOK PP (S_wide_bare F) c_wide_bare F (I_wide_bare F) (J_wide_bare F) p :=
  loops_of [] (by kernel_rfl) all_nil
theorem hj_wide_bare (F : Nat) : ∀ p ∈ joinsIn PP c_wide_bare 46, JoinOK PP (S_wide_bare F) c_wide_bare (I_wide_bare F) (J_wide_bare F) p :=
  joins_of [] (by kernel_rfl) all_nil
theorem g_wide_bare (F : Nat) : Good PP 46 (unS (s_wide_bare F)) :=
  fun_spec (hS_wide_bare F) (by kernel_rfl) (by kernel_rfl) (C := c_wide_bare) (F := fun q => (f_wide_bare F (atI (nth q 0)))) (fun _ => F) (fun _ => I_wide_bare F) (fun _ => J_wide_bare F) (fun _ => hl_wide_bare F) (fun _ => hj_wide_bare F)
    (fun q => (congrArg (funL PP (S_wide_bare F) c_wide_bare (I_wide_bare F) (J_wide_bare F) 46) (show (fTs ti_wide_bare q).1 = (fTs ti_wide_bare [.i (atI (nth q 0))]).1 by kernel_rfl)).trans (e_wide_bare F (atI (nth q 0))))
    (fun _ h => okT_fill' h (by kernel_rfl))

end Go.Xv
set_option linter.unusedVariables false
namespace Go.Xv
/- 45 _wide_product -/
def c_wide_product : Cfg := ⟨[0, 1, 4, 5, 6, 7, 8, 9, 10], [], [], []⟩
def ti_wide_product : List TV := [.v (.int .u64), .v (.int .u64)]
def to_wide_product : TV := .v (.agg [.int .i64, .int .u64])
def S_wide_product (F : Nat) : FuncId → List VV → Option (Bool × VV) := words []
def W_wide_product (F : Nat) : List LW := []
def I_wide_product (F : Nat) : Nat → VS → (Exit → VS → R) → R := tabI c_wide_product (W_wide_product F)
def WJ_wide_product (F : Nat) : List LJ := []
def J_wide_product (F : Nat) : Nat → Nat → VS → (Exit → VS → R) → R := tabJ (WJ_wide_product F)
def f_wide_product (F : Nat) (a0 : Int) (a1 : Int) : R :=
  let v38 : Int := (Int.fdiv a0 (4294967296))
  let v39 : Int := (andI .u64 a0 4294967295)
  let v40 : Int := (Int.fdiv a1 (4294967296))
  let v41 : Int := (andI .u64 a1 4294967295)
  let v45 : Int := (IntKind.wrap .u64 (((IntKind.wrap .u64 (v38 * v41))) + ((Int.fdiv ((IntKind.wrap .u64 (v39 * v41))) (4294967296)))))
  let v48 : Int := (IntKind.wrap .u64 (((andI .u64 v45 4294967295)) + ((IntKind.wrap .u64 (v39 * v40)))))
  some (.v (.agg #[.int .i64 ((IntKind.wrap .i64 ((IntKind.wrap .u64 (((IntKind.wrap .u64 (((IntKind.wrap .u64 (v38 * v40))) + ((Int.fdiv v45 (4294967296)))))) + ((Int.fdiv v48 (4294967296)))))))), .int .u64 ((orI .u64 ((IntKind.wrap .u64 (v48 * 4294967296))) ((andI .u64 ((IntKind.wrap .u64 (v39 * v41))) 4294967295))))]))
theorem e_wide_product (F : Nat) (a0 : Int) (a1 : Int) : funL PP (S_wide_product F) c_wide_product (I_wide_product F) (J_wide_product F) 45 (fTs ti_wide_product [.i a0, .i a1]).1 = f_wide_product F a0 a1 := by
  have h : ∀ (_ : Unit), funL PP (words []) c_wide_product (tabI c_wide_product []) (tabJ []) 45 (fTs ti_wide_product [.i a0, .i a1]).1 = (
  let v38 : Int := (Int.fdiv a0 (4294967296))
  let v39 : Int := (andI .u64 a0 4294967295)
  let v40 : Int := (Int.fdiv a1 (4294967296))
  let v41 : Int := (andI .u64 a1 4294967295)
  let v45 : Int := (IntKind.wrap .u64 (((IntKind.wrap .u64 (v38 * v41))) + ((Int.fdiv ((IntKind.wrap .u64 (v39 * v41))) (4294967296)))))
  let v48 : Int := (IntKind.wrap .u64 (((andI .u64 v45 4294967295)) + ((IntKind.wrap .u64 (v39 * v40)))))
  some (.v (.agg #[.int .i64 ((IntKind.wrap .i64 ((IntKind.wrap .u64 (((IntKind.wrap .u64 (((IntKind.wrap .u64 (v38 * v40))) + ((Int.fdiv v45 (4294967296)))))) + ((Int.fdiv v48 (4294967296)))))))), .int .u64 ((orI .u64 ((IntKind.wrap .u64 (v48 * 4294967296))) ((andI .u64 ((IntKind.wrap .u64 (v39 * v41))) 4294967295))))])) : R) := by
    intros
    kernel_rfl
  exact (h ()).trans (by kernel_rfl)
def ok_wide_product (F : Nat) (a0 : Int) (a1 : Int) : Bool := okT to_wide_product (f_wide_product F a0 a1)
def o_wide_product_0 (F : Nat) (a0 : Int) (a1 : Int) : Int := atI (nth (outT to_wide_product (f_wide_product F a0 a1)) 0)
def o_wide_product_1 (F : Nat) (a0 : Int) (a1 : Int) : Int := atI (nth (outT to_wide_product (f_wide_product F a0 a1)) 1)
theorem k_wide_product (F : Nat) (a0 : Int) (a1 : Int) {z0 : Int} {z1 : Int} (h : f_wide_product F a0 a1 = some (.v (.agg #[.int .i64 z0, .int .u64 z1]))) : ok_wide_product F a0 a1 = true ∧ o_wide_product_0 F a0 a1 = z0 ∧ o_wide_product_1 F a0 a1 = z1 := by
  refine ⟨?_, ?_, ?_⟩
  · unfold ok_wide_product; rw [h]; kernel_rfl
  · unfold o_wide_product_0; rw [h]; kernel_rfl
  · unfold o_wide_product_1; rw [h]; kernel_rfl
def s_wide_product (F : Nat) : List VV → Option (Bool × VV) := spec ti_wide_product to_wide_product (fun q => (ok_wide_product F (atI (nth q 0)) (atI (nth q 1)))) (fun q => [.i (o_wide_product_0 F (atI (nth q 0)) (atI (nth q 1))), .i (o_wide_product_1 F (atI (nth q 0)) (atI (nth q 1)))])
theorem hS_wide_product (F : Nat) : ∀ f, Good PP f (unS (S_wide_product F f)) := words_good fun p hp => by
  cases hp
theorem hl_wide_product (F : Nat) : ∀ p ∈ loopsIn PP 45, LoopOK PP (S_wide_product F) c_wide_product F (I_wide_product F) (J_wide_product F) p :=
  loops_of [] (by kernel_rfl) all_nil
theorem hj_wide_product (F : Nat) : ∀ p ∈ joinsIn PP c_wide_product 45, JoinOK PP (S_wide_product F) c_wide_product (I_wide_product F) (J_wide_product F) p :=
  joins_of [] (by kernel_rfl) all_nil
theorem g_wide_product (F : Nat) : Good PP 45 (unS (s_wide_product F)) :=
  fun_spec (hS_wide_product F) (by kernel_rfl) (by kernel_rfl) (C := c_wide_product) (F := fun q => (f_wide_product F (atI (nth q 0)) (atI (nth q 1)))) (fun _ => F) (fun _ => I_wide_product F) (fun _ => J_wide_product F) (fun _ => hl_wide_product F) (fun _ => hj_wide_product F)
    (fun q => (congrArg (funL PP (S_wide_product F) c_wide_product (I_wide_product F) (J_wide_product F) 45) (show (fTs ti_wide_product q).1 = (fTs ti_wide_product [.i (atI (nth q 0)), .i (atI (nth q 1))]).1 by kernel_rfl)).trans (e_wide_product F (atI (nth q 0)) (atI (nth q 1))))
    (fun _ h => okT_fill' h (by kernel_rfl))

end Go.Xv
set_option linter.unusedVariables false
namespace Go.Xv
/- 42 _wide_Neg -/
def c_wide_Neg : Cfg := ⟨[0, 1, 2], [], [], []⟩
def ti_wide_Neg : List TV := [.v (.agg [.int .i64, .int .u64])]
def to_wide_Neg : TV := .v (.agg [.int .i64, .int .u64])
def S_wide_Neg (F : Nat) : FuncId → List VV → Option (Bool × VV) := words [(41, s_wide_Add F)]
def W_wide_Neg (F : Nat) : List LW := []
def I_wide_Neg (F : Nat) : Nat → VS → (Exit → VS → R) → R := tabI c_wide_Neg (W_wide_Neg F)
def WJ_wide_Neg (F : Nat) : List LJ := []
def J_wide_Neg (F : Nat) : Nat → Nat → VS → (Exit → VS → R) → R := tabJ (WJ_wide_Neg F)
def f_wide_Neg (F : Nat) (a0 : Int) (a1 : Int) : R :=
  let v64 : Int := (xorI .i64 (-1) a0)
  let v65 : Int := (xorI .u64 18446744073709551615 a1)
  bif (ok_wide_Add F v64 v65 0 1) then (
    some (.v (.agg #[.int .i64 ((o_wide_Add_0 F v64 v65 0 1)), .int .u64 ((o_wide_Add_1 F v64 v65 0 1))])))
  else (
    none)
theorem e_wide_Neg (F : Nat) (a0 : Int) (a1 : Int) : funL PP (S_wide_Neg F) c_wide_Neg (I_wide_Neg F) (J_wide_Neg F) 42 (fTs ti_wide_Neg [.i a0, .i a1]).1 = f_wide_Neg F a0 a1 := by
  have h : ∀ (ok_wide_Add : Nat → Int → Int → Int → Int → Bool) (o_wide_Add_0 : Nat → Int → Int → Int → Int → Int) (o_wide_Add_1 : Nat → Int → Int → Int → Int → Int), funL PP (words [(41, spec ti_wide_Add to_wide_Add (fun q => (ok_wide_Add F (atI (nth q 0)) (atI (nth q 1)) (atI (nth q 2)) (atI (nth q 3)))) (fun q => [.i (o_wide_Add_0 F (atI (nth q 0)) (atI (nth q 1)) (atI (nth q 2)) (atI (nth q 3))), .i (o_wide_Add_1 F (atI (nth q 0)) (atI (nth q 1)) (atI (nth q 2)) (atI (nth q 3)))]))]) c_wide_Neg (tabI c_wide_Neg []) (tabJ []) 42 (fTs ti_wide_Neg [.i a0, .i a1]).1 = (
  let v64 : Int := (xorI .i64 (-1) a0)
  let v65 : Int := (xorI .u64 18446744073709551615 a1)
  bif (ok_wide_Add F v64 v65 0 1) then (
    some (.v (.agg #[.int .i64 ((o_wide_Add_0 F v64 v65 0 1)), .int .u64 ((o_wide_Add_1 F v64 v65 0 1))])))
  else (
    none) : R) := by
    intros
    kernel_rfl
  exact (h ok_wide_Add o_wide_Add_0 o_wide_Add_1).trans (by kernel_rfl)
def ok_wide_Neg (F : Nat) (a0 : Int) (a1 : Int) : Bool := okT to_wide_Neg (f_wide_Neg F a0 a1)
def o_wide_Neg_0 (F : Nat) (a0 : Int) (a1 : Int) : Int := atI (nth (outT to_wide_Neg (f_wide_Neg F a0 a1)) 0)
def o_wide_Neg_1 (F : Nat) (a0 : Int) (a1 : Int) : Int := atI (nth (outT to_wide_Neg (f_wide_Neg F a0 a1)) 1)
theorem k_wide_Neg (F : Nat) (a0 : Int) (a1 : Int) {z0 : Int} {z1 : Int} (h : f_wide_Neg F a0 a1 = some (.v (.agg #[.int .i64 z0, .int .u64 z1]))) : ok_wide_Neg F a0 a1 = true ∧ o_wide_Neg_0 F a0 a1 = z0 ∧ o_wide_Neg_1 F a0 a1 = z1 := by
  refine ⟨?_, ?_, ?_⟩
  · unfold ok_wide_Neg; rw [h]; kernel_rfl
  · unfold o_wide_Neg_0; rw [h]; kernel_rfl
  · unfold o_wide_Neg_1; rw [h]; kernel_rfl
def s_wide_Neg (F : Nat) : List VV → Option (Bool × VV) := spec ti_wide_Neg to_wide_Neg (fun q => (ok_wide_Neg F (atI (nth q 0)) (atI (nth q 1)))) (fun q => [.i (o_wide_Neg_0 F (atI (nth q 0)) (atI (nth q 1))), .i (o_wide_Neg_1 F (atI (nth q 0)) (atI (nth q 1)))])
theorem hS_wide_Neg (F : Nat) : ∀ f, Good PP f (unS (S_wide_Neg F f)) := words_good fun p hp => by
  simp only [List.mem_cons, List.not_mem_nil, or_false] at hp
  rcases hp with rfl
  · exact g_wide_Add F
theorem hl_wide_Neg (F : Nat) : ∀ p ∈ loopsIn PP 42, LoopOK PP (S_wide_Neg F) c_wide_Neg F (I_wide_Neg F) (J_wide_Neg F) p :=
  loops_of [] (by kernel_rfl) all_nil
theorem hj_wide_Neg (F : Nat) : ∀ p ∈ joinsIn PP c_wide_Neg 42, JoinOK PP (S_wide_Neg F) c_wide_Neg (I_wide_Neg F) (J_wide_Neg F) p :=
  joins_of [] (by kernel_rfl) all_nil
theorem g_wide_Neg (F : Nat) : Good PP 42 (unS (s_wide_Neg F)) :=
  fun_spec (hS_wide_Neg F) (by kernel_rfl) (by kernel_rfl) (C := c_wide_Neg) (F := fun q => (f_wide_Neg F (atI (nth q 0)) (atI (nth q 1)))) (fun _ => F) (fun _ => I_wide_Neg F) (fun _ => J_wide_Neg F) (fun _ => hl_wide_Neg F) (fun _ => hj_wide_Neg F)
    (fun q => (congrArg (funL PP (S_wide_Neg F) c_wide_Neg (I_wide_Neg F) (J_wide_Neg F) 42) (show (fTs ti_wide_Neg q).1 = (fTs ti_wide_Neg [.i (atI (nth q 0)), .i (atI (nth q 1))]).1 by kernel_rfl)).trans (e_wide_Neg F (atI (nth q 0)) (atI (nth q 1))))
    (fun _ h => okT_fill' h (by kernel_rfl))

end Go.Xv
set_option linter.unusedVariables false
namespace Go.Xv
/- 34 _wide_Mul -/
def c_wide_Mul : Cfg := ⟨[0, 1, 4, 5, 15], [], [7, 9], []⟩
def ti_wide_Mul : List TV := [.v (.int .i64), .v (.int .i64)]
def to_wide_Mul : TV := .v (.agg [.int .i64, .int .u64])
def S_wide_Mul (F : Nat) : FuncId → List VV → Option (Bool × VV) := words [(46, s_wide_bare F), (45, s_wide_product F), (42, s_wide_Neg F)]
def W_wide_Mul (F : Nat) : List LW := []
def I_wide_Mul (F : Nat) : Nat → VS → (Exit → VS → R) → R := tabI c_wide_Mul (W_wide_Mul F)
def WJ_wide_Mul (F : Nat) : List LJ := []
def J_wide_Mul (F : Nat) : Nat → Nat → VS → (Exit → VS → R) → R := tabJ (WJ_wide_Mul F)
def f_wide_Mul (F : Nat) (a0 : Int) (a1 : Int) : R :=
  bif (ok_wide_bare F a0) then (
    let v36 : Int := (o_wide_bare_0 F a0)
    bif (ok_wide_bare F a1) then (
      let v37 : Int := (o_wide_bare_0 F a1)
      bif (ok_wide_product F v36 v37) then (
        let v59 : Int := (o_wide_product_0 F v36 v37)
        let v60 : Int := (o_wide_product_1 F v36 v37)
        bif ((!(((decide (a0 < 0))) == ((decide (a1 < 0)))))) then (
          bif (ok_wide_Neg F v59 v60) then (
            some (.v (.agg #[.int .i64 ((o_wide_Neg_0 F v59 v60)), .int .u64 ((o_wide_Neg_1 F v59 v60))])))
          else (
            none))
        else (
          some (.v (.agg #[.int .i64 v59, .int .u64 v60]))))
      else (
        none))
    else (
      none))
  else (
    none)
theorem e_wide_Mul (F : Nat) (a0 : Int) (a1 : Int) : funL PP (S_wide_Mul F) c_wide_Mul (I_wide_Mul F) (J_wide_Mul F) 34 (fTs ti_wide_Mul [.i a0, .i a1]).1 = f_wide_Mul F a0 a1 := by
  have h : ∀ (ok_wide_bare : Nat → Int → Bool) (o_wide_bare_0 : Nat → Int → Int) (ok_wide_product : Nat → Int → Int → Bool) (o_wide_product_0 : Nat → Int → Int → Int) (o_wide_product_1 : Nat → Int → Int → Int) (ok_wide_Neg : Nat → Int → Int → Bool) (o_wide_Neg_0 : Nat → Int → Int → Int) (o_wide_Neg_1 : Nat → Int → Int → Int), funL PP (words [(46, spec ti_wide_bare to_wide_bare (fun q => (ok_wide_bare F (atI (nth q 0)))) (fun q => [.i (o_wide_bare_0 F (atI (nth q 0)))])), (45, spec ti_wide_product to_wide_product (fun q => (ok_wide_product F (atI (nth q 0)) (atI (nth q 1)))) (fun q => [.i (o_wide_product_0 F (atI (nth q 0)) (atI (nth q 1))), .i (o_wide_product_1 F (atI (nth q 0)) (atI (nth q 1)))])), (42, spec ti_wide_Neg to_wide_Neg (fun q => (ok_wide_Neg F (atI (nth q 0)) (atI (nth q 1)))) (fun q => [.i (o_wide_Neg_0 F (atI (nth q 0)) (atI (nth q 1))), .i (o_wide_Neg_1 F (atI (nth q 0)) (atI (nth q 1)))]))]) c_wide_Mul (tabI c_wide_Mul []) (tabJ []) 34 (fTs ti_wide_Mul [.i a0, .i a1]).1 = (
  bif (ok_wide_bare F a0) then (
    let v36 : Int := (o_wide_bare_0 F a0)
    bif (ok_wide_bare F a1) then (
      let v37 : Int := (o_wide_bare_0 F a1)
      bif (ok_wide_product F v36 v37) then (
        let v59 : Int := (o_wide_product_0 F v36 v37)
        let v60 : Int := (o_wide_product_1 F v36 v37)
        bif ((!(((decide (a0 < 0))) == ((decide (a1 < 0)))))) then (
          bif (ok_wide_Neg F v59 v60) then (
            some (.v (.agg #[.int .i64 ((o_wide_Neg_0 F v59 v60)), .int .u64 ((o_wide_Neg_1 F v59 v60))])))
          else (
            none))
        else (
          some (.v (.agg #[.int .i64 v59, .int .u64 v60]))))
      else (
        none))
    else (
      none))
  else (
    none) : R) := by
    intros
    kernel_rfl
  exact (h ok_wide_bare o_wide_bare_0 ok_wide_product o_wide_product_0 o_wide_product_1 ok_wide_Neg o_wide_Neg_0 o_wide_Neg_1).trans (by kernel_rfl)
def ok_wide_Mul (F : Nat) (a0 : Int) (a1 : Int) : Bool := okT to_wide_Mul (f_wide_Mul F a0 a1)
def o_wide_Mul_0 (F : Nat) (a0 : Int) (a1 : Int) : Int := atI (nth (outT to_wide_Mul (f_wide_Mul F a0 a1)) 0)
def o_wide_Mul_1 (F : Nat) (a0 : Int) (a1 : Int) : Int := atI (nth (outT to_wide_Mul (f_wide_Mul F a0 a1)) 1)
theorem k_wide_Mul (F : Nat) (a0 : Int) (a1 : Int) {z0 : Int} {z1 : Int} (h : f_wide_Mul F a0 a1 = some (.v (.agg #[.int .i64 z0, .int .u64 z1]))) : ok_wide_Mul F a0 a1 = true ∧ o_wide_Mul_0 F a0 a1 = z0 ∧ o_wide_Mul_1 F a0 a1 = z1 := by
  refine ⟨?_, ?_, ?_⟩
  · unfold ok_wide_Mul; rw [h]; kernel_rfl
  · unfold o_wide_Mul_0; rw [h]; kernel_rfl
  · unfold o_wide_Mul_1; rw [h]; kernel_rfl
def s_wide_Mul (F : Nat) : List VV → Option (Bool × VV) := spec ti_wide_Mul to_wide_Mul (fun q => (ok_wide_Mul F (atI (nth q 0)) (atI (nth q 1)))) (fun q => [.i (o_wide_Mul_0 F (atI (nth q 0)) (atI (nth q 1))), .i (o_wide_Mul_1 F (atI (nth q 0)) (atI (nth q 1)))])
theorem hS_wide_Mul (F : Nat) : ∀ f, Good PP f (unS (S_wide_Mul F f)) := words_good fun p hp => by
  simp only [List.mem_cons, List.not_mem_nil, or_false] at hp
  rcases hp with rfl | rfl | rfl
  · exact g_wide_bare F
  · exact g_wide_product F
  · exact g_wide_Neg F
theorem hl_wide_Mul (F : Nat) : ∀ p ∈ loopsIn PP 34, LoopOK PP (S_wide_Mul F) c_wide_Mul F (I_wide_Mul F) (J_wide_Mul F) p :=
  loops_of [] (by kernel_rfl) all_nil
theorem hj_wide_Mul (F : Nat) : ∀ p ∈ joinsIn PP c_wide_Mul 34, JoinOK PP (S_wide_Mul F) c_wide_Mul (I_wide_Mul F) (J_wide_Mul F) p :=
  joins_of [] (by kernel_rfl) all_nil
theorem g_wide_Mul (F : Nat) : Good PP 34 (unS (s_wide_Mul F)) :=
  fun_spec (hS_wide_Mul F) (by kernel_rfl) (by kernel_rfl) (C := c_wide_Mul) (F := fun q => (f_wide_Mul F (atI (nth q 0)) (atI (nth q 1)))) (fun _ => F) (fun _ => I_wide_Mul F) (fun _ => J_wide_Mul F) (fun _ => hl_wide_Mul F) (fun _ => hj_wide_Mul F)
    (fun q => (congrArg (funL PP (S_wide_Mul F) c_wide_Mul (I_wide_Mul F) (J_wide_Mul F) 34) (show (fTs ti_wide_Mul q).1 = (fTs ti_wide_Mul [.i (atI (nth q 0)), .i (atI (nth q 1))]).1 by kernel_rfl)).trans (e_wide_Mul F (atI (nth q 0)) (atI (nth q 1))))
    (fun _ h => okT_fill' h (by kernel_rfl))

end Go.Xv
namespace Go.Xv
theorem bp {α : Type} {c : Bool} {a b x : α} (h : c = true) (h2 : a = x) : (bif c then a else b) = x := by rw [h]; exact h2
theorem bn {α : Type} {c : Bool} {a b x : α} (h : c = false) (h2 : b = x) : (bif c then a else b) = x := by rw [h]; exact h2
theorem dt {p : Prop} [Decidable p] (h : p) : decide p = true := decide_eq_true h
theorem df {p : Prop} [Decidable p] (h : ¬ p) : decide p = false := decide_eq_false h
theorem fdiv_pos (a : Int) {b : Int} (h : 0 ≤ b) : Int.fdiv a b = a / b := Int.fdiv_eq_ediv_of_nonneg a h
theorem some_int {k : IntKind} {a b : Int} (h : a = b) : (some (VV.v (.int k a)) : R) = some (.v (.int k b)) := by rw [h]
theorem some_wd {a b : Int} {z : Int} (h : a = hi z) (k : b = lo z) : (some (VV.v (.agg #[.int .i64 a, .int .u64 b])) : R) = some (wd z) := by rw [h, k]; rfl

theorem f_bare (F : Nat) {a : Int} (h : I64 a) : f_wide_bare F a = some (.v (.int .u64 (if a < 0 then -a else a))) := by
  unfold f_wide_bare
  unfold I64 at h
  by_cases h0 : a < 0
  · refine bp (dt h0) (some_int ?_)
    rw [if_pos h0, wu64, wu64]; omega
  · refine bn (df h0) (some_int ?_)
    rw [if_neg h0, wu64]; omega

theorem f_product (F : Nat) {a b : Int} (ha : U64 a) (hb : U64 b) : f_wide_product F a b = some (wd (a * b)) := by
  unfold f_wide_product
  unfold U64 at ha hb
  have ea : a = a / 4294967296 * 4294967296 + a % 4294967296 := by omega
  have eb : b = b / 4294967296 * 4294967296 + b % 4294967296 := by omega
  have hp : 0 ≤ a / 4294967296 ∧ a / 4294967296 ≤ 4294967295 := by omega
  have hq : 0 ≤ a % 4294967296 ∧ a % 4294967296 ≤ 4294967295 := by omega
  have hr : 0 ≤ b / 4294967296 ∧ b / 4294967296 ≤ 4294967295 := by omega
  have hs : 0 ≤ b % 4294967296 ∧ b % 4294967296 ≤ 4294967295 := by omega
  have hab : a * b = (a / 4294967296) * (b / 4294967296) * 18446744073709551616 + ((a / 4294967296) * (b % 4294967296) + (a % 4294967296) * (b / 4294967296)) * 4294967296 + (a % 4294967296) * (b % 4294967296) := by
    generalize a / 4294967296 = p at *
    generalize a % 4294967296 = q at *
    generalize b / 4294967296 = r at *
    generalize b % 4294967296 = s at *
    subst ea eb
    simp only [Int.add_mul, Int.mul_add]
    have : p * 4294967296 * (r * 4294967296) = p * r * 18446744073709551616 := by
      rw [show (18446744073709551616 : Int) = 4294967296 * 4294967296 by decide]
      simp only [Int.mul_comm, Int.mul_assoc, Int.mul_left_comm]
    have : p * 4294967296 * s = p * s * 4294967296 := by simp only [Int.mul_comm, Int.mul_assoc, Int.mul_left_comm]
    have : q * (r * 4294967296) = q * r * 4294967296 := by simp only [Int.mul_assoc]
    omega
  have bd : ∀ x y : Int, (0 ≤ x ∧ x ≤ 4294967295) → (0 ≤ y ∧ y ≤ 4294967295) → 0 ≤ x * y ∧ x * y ≤ 18446744065119617025 := by
    intro x y hx hy
    have h1 := Int.mul_nonneg hx.1 hy.1
    have h2 : x * y ≤ 4294967295 * 4294967295 := Int.mul_le_mul hx.2 hy.2 hy.1 (by decide)
    exact ⟨h1, by simpa using h2⟩
  have b1 := bd _ _ hp hr
  have b2 := bd _ _ hp hs
  have b3 := bd _ _ hq hr
  have b4 := bd _ _ hq hs
  have m1 : ∀ x, U64 x → andI .u64 x 4294967295 = x % 4294967296 := fun x hx => mask32_u64 hx
  simp only [fdiv_pos _ (show (0 : Int) ≤ 4294967296 by decide)]
  rw [m1 a ha, m1 b hb]
  rw [hab]
  clear hab ea eb
  generalize a / 4294967296 * (b / 4294967296) = pr at *
  generalize a / 4294967296 * (b % 4294967296) = ps at *
  generalize a % 4294967296 * (b / 4294967296) = qr at *
  generalize a % 4294967296 * (b % 4294967296) = qs at *
  rw [wu64_in (x := qs) (by unfold U64; omega), wu64_in (x := ps) (by unfold U64; omega), wu64_in (x := qr) (by unfold U64; omega), wu64_in (x := pr) (by unfold U64; omega)]
  rw [wu64_in (x := ps + qs / 4294967296) (by unfold U64; omega)]
  rw [m1 _ (show U64 (ps + qs / 4294967296) by unfold U64; omega), m1 qs (by unfold U64; omega)]
  rw [wu64_in (x := (ps + qs / 4294967296) % 4294967296 + qr) (by unfold U64; omega)]
  have e : IntKind.wrap .u64 (((ps + qs / 4294967296) % 4294967296 + qr) * 4294967296) = (((ps + qs / 4294967296) % 4294967296 + qr) % 4294967296) * (2 ^ 32 : Nat) := by
    rw [wu64]; omega
  rw [e, or_add_u64 32 (by omega) (by omega) (by omega) (by omega)]
  refine some_wd ?_ ?_
  · simp only [wu64, wi64]; unfold hi; omega
  · unfold lo; omega

theorem f_Add (F : Nat) {a b c d : Int} (hb : U64 b) (hd : U64 d) : f_wide_Add F a b c d = some (wd (val a b + val c d)) := by
  unfold f_wide_Add
  unfold U64 at hb hd
  simp only [wu64, wi64]
  by_cases h : (b + d) % 18446744073709551616 < b
  · refine bp (dt h) (some_wd ?_ ?_)
    · unfold hi val; omega
    · unfold lo val; omega
  · refine bn (df h) (some_wd ?_ ?_)
    · unfold hi val; omega
    · unfold lo val; omega

theorem f_Neg (F : Nat) {a b : Int} (ha : I64 a) (hb : U64 b) : f_wide_Neg F a b = some (wd (-val a b)) := by
  unfold f_wide_Neg
  rw [not_i64 ha, not_u64 hb]
  unfold U64 at hb
  obtain ⟨h1, h2, h3⟩ := k_wide_Add F _ _ _ _ (f_Add F (a := -1 - a) (b := 18446744073709551615 - b) (c := 0) (d := 1) (by unfold U64; omega) (by unfold U64; omega))
  refine bp h1 ?_
  rw [h2, h3]
  refine some_wd (hi_eqv ?_) (lo_eqv ?_)
  all_goals unfold Eqv val; omega

theorem f_Mul (F : Nat) {a b : Int} (ha : I64 a) (hb : I64 b) : f_wide_Mul F a b = some (wd (a * b)) := by
  unfold f_wide_Mul
  obtain ⟨h1, h2⟩ := k_wide_bare F a (f_bare F ha)
  obtain ⟨h3, h4⟩ := k_wide_bare F b (f_bare F hb)
  unfold I64 at ha hb
  refine bp h1 (bp h3 ?_)
  simp only [h2, h4]
  obtain ⟨p1, p2, p3⟩ := k_wide_product F _ _ (f_product F (a := if a < 0 then -a else a) (b := if b < 0 then -b else b) (by unfold U64; split <;> omega) (by unfold U64; split <;> omega))
  refine bp p1 ?_
  simp only [p2, p3]
  have neg : ∀ z : Int, (bif ok_wide_Neg F (hi z) (lo z) then (some (.v (.agg #[.int .i64 (o_wide_Neg_0 F (hi z) (lo z)), .int .u64 (o_wide_Neg_1 F (hi z) (lo z))])) : R) else none) = some (wd (-z)) := by
    intro z
    obtain ⟨n1, n2, n3⟩ := k_wide_Neg F _ _ (f_Neg F (hi_I z) (lo_U z))
    refine bp n1 ?_
    rw [n2, n3, val_hl]
    exact some_wd (hi_eqv (W_eqv z).neg) (lo_eqv (W_eqv z).neg)
  by_cases h0 : a < 0 <;> by_cases k0 : b < 0
  · simp only [h0, k0, decide_true, if_true, BEq.rfl, Bool.not_true, cond_false, Int.neg_mul_neg]; rfl
  · simp only [h0, k0, decide_true, decide_false, if_true, if_false]
    refine bp (by decide) ?_
    rw [neg, Int.neg_mul, Int.neg_neg]
  · simp only [h0, k0, decide_true, decide_false, if_true, if_false]
    refine bp (by decide) ?_
    rw [neg, Int.mul_neg, Int.neg_neg]
  · simp only [h0, k0, decide_false, if_false, BEq.rfl, Bool.not_true, cond_false]; rfl
end Go.Xv
namespace Go.Xv
theorem p2pos (n : Nat) : (0 : Int) < 2 ^ n := Int.pow_pos (by decide)
theorem p2add (a b : Nat) : (2 : Int) ^ a * 2 ^ b = 2 ^ (a + b) := (Int.pow_add 2 a b).symm
end Go.Xv
set_option linter.unusedVariables false
namespace Go.Xv
/- 30 _ref01_Of -/
def c_ref01_Of : Cfg := ⟨[0, 2, 4], [], [], []⟩
def ti_ref01_Of : List TV := [.v (.int .i64)]
def to_ref01_Of : TV := .v (.agg [.int .i64, .int .u64])
def S_ref01_Of (F : Nat) : FuncId → List VV → Option (Bool × VV) := words []
def W_ref01_Of (F : Nat) : List LW := []
def I_ref01_Of (F : Nat) : Nat → VS → (Exit → VS → R) → R := tabI c_ref01_Of (W_ref01_Of F)
def WJ_ref01_Of (F : Nat) : List LJ := []
def J_ref01_Of (F : Nat) : Nat → Nat → VS → (Exit → VS → R) → R := tabJ (WJ_ref01_Of F)
def f_ref01_Of (F : Nat) (a0 : Int) : R :=
  bif ((decide (a0 < 0))) then (
    some (.v (.agg #[.int .i64 (-1), .int .u64 ((IntKind.wrap .u64 a0))])))
  else (
    some (.v (.agg #[.int .i64 0, .int .u64 ((IntKind.wrap .u64 a0))])))
theorem e_ref01_Of (F : Nat) (a0 : Int) : funL PP (S_ref01_Of F) c_ref01_Of (I_ref01_Of F) (J_ref01_Of F) 30 (fTs ti_ref01_Of [.i a0]).1 = f_ref01_Of F a0 := by
  have h : ∀ (_ : Unit), funL PP (words []) c_ref01_Of (tabI c_ref01_Of []) (tabJ []) 30 (fTs ti_ref01_Of [.i a0]).1 = (
  bif ((decide (a0 < 0))) then (
    some (.v (.agg #[.int .i64 (-1), .int .u64 ((IntKind.wrap .u64 a0))])))
  else (
    some (.v (.agg #[.int .i64 0, .int .u64 ((IntKind.wrap .u64 a0))]))) : R) := by
    intros
    kernel_rfl
  exact (h ()).trans (by kernel_rfl)
def ok_ref01_Of (F : Nat) (a0 : Int) : Bool := okT to_ref01_Of (f_ref01_Of F a0)
def o_ref01_Of_0 (F : Nat) (a0 : Int) : Int := atI (nth (outT to_ref01_Of (f_ref01_Of F a0)) 0)
def o_ref01_Of_1 (F : Nat) (a0 : Int) : Int := atI (nth (outT to_ref01_Of (f_ref01_Of F a0)) 1)
theorem k_ref01_Of (F : Nat) (a0 : Int) {z0 : Int} {z1 : Int} (h : f_ref01_Of F a0 = some (.v (.agg #[.int .i64 z0, .int .u64 z1]))) : ok_ref01_Of F a0 = true ∧ o_ref01_Of_0 F a0 = z0 ∧ o_ref01_Of_1 F a0 = z1 := by
  refine ⟨?_, ?_, ?_⟩
  · unfold ok_ref01_Of; rw [h]; kernel_rfl
  · unfold o_ref01_Of_0; rw [h]; kernel_rfl
  · unfold o_ref01_Of_1; rw [h]; kernel_rfl
def s_ref01_Of (F : Nat) : List VV → Option (Bool × VV) := spec ti_ref01_Of to_ref01_Of (fun q => (ok_ref01_Of F (atI (nth q 0)))) (fun q => [.i (o_ref01_Of_0 F (atI (nth q 0))), .i (o_ref01_Of_1 F (atI (nth q 0)))])
theorem hS_ref01_Of (F : Nat) : ∀ f, Good PP f (unS (S_ref01_Of F f)) := words_good fun p hp => by
  cases hp
theorem hl_ref01_Of (F : Nat) : ∀ p ∈ loopsIn PP 30, LoopOK PP (S_ref01_Of F) c_ref01_Of F (I_ref01_Of F) (J_ref01_Of F) p :=
  loops_of [] (by kernel_rfl) all_nil
theorem hj_ref01_Of (F : Nat) : ∀ p ∈ joinsIn PP c_ref01_Of 30, JoinOK PP (S_ref01_Of F) c_ref01_Of (I_ref01_Of F) (J_ref01_Of F) p :=
  joins_of [] (by kernel_rfl) all_nil
theorem g_ref01_Of (F : Nat) : Good PP 30 (unS (s_ref01_Of F)) :=
  fun_spec (hS_ref01_Of F) (by kernel_rfl) (by kernel_rfl) (C := c_ref01_Of) (F := fun q => (f_ref01_Of F (atI (nth q 0)))) (fun _ => F) (fun _ => I_ref01_Of F) (fun _ => J_ref01_Of F) (fun _ => hl_ref01_Of F) (fun _ => hj_ref01_Of F)
    (fun q => (congrArg (funL PP (S_ref01_Of F) c_ref01_Of (I_ref01_Of F) (J_ref01_Of F) 30) (show (fTs ti_ref01_Of q).1 = (fTs ti_ref01_Of [.i (atI (nth q 0))]).1 by kernel_rfl)).trans (e_ref01_Of F (atI (nth q 0))))
    (fun _ h => okT_fill' h (by kernel_rfl))

end Go.Xv
set_option linter.unusedVariables false
namespace Go.Xv
/- 37 _ref01_Sign -/
def c_ref01_Sign : Cfg := ⟨[0, 1, 2, 5, 13], [], [], []⟩
def ti_ref01_Sign : List TV := [.v (.agg [.int .i64, .int .u64])]
def to_ref01_Sign : TV := .v (.int .i64)
def S_ref01_Sign (F : Nat) : FuncId → List VV → Option (Bool × VV) := words []
def W_ref01_Sign (F : Nat) : List LW := []
def I_ref01_Sign (F : Nat) : Nat → VS → (Exit → VS → R) → R := tabI c_ref01_Sign (W_ref01_Sign F)
def WJ_ref01_Sign (F : Nat) : List LJ := []
def J_ref01_Sign (F : Nat) : Nat → Nat → VS → (Exit → VS → R) → R := tabJ (WJ_ref01_Sign F)
def f_ref01_Sign (F : Nat) (a0 : Int) (a1 : Int) : R :=
  bif ((decide (a0 < 0))) then (
    some (.v (.int .i64 (-1))))
  else (
    bif ((a0 == 0)) then (
      bif ((a1 == 0)) then (
        some (.v (.int .i64 0)))
      else (
        some (.v (.int .i64 1))))
    else (
      some (.v (.int .i64 1))))
theorem e_ref01_Sign (F : Nat) (a0 : Int) (a1 : Int) : funL PP (S_ref01_Sign F) c_ref01_Sign (I_ref01_Sign F) (J_ref01_Sign F) 37 (fTs ti_ref01_Sign [.i a0, .i a1]).1 = f_ref01_Sign F a0 a1 := by
  have h : ∀ (_ : Unit), funL PP (words []) c_ref01_Sign (tabI c_ref01_Sign []) (tabJ []) 37 (fTs ti_ref01_Sign [.i a0, .i a1]).1 = (
  bif ((decide (a0 < 0))) then (
    some (.v (.int .i64 (-1))))
  else (
    bif ((a0 == 0)) then (
      bif ((a1 == 0)) then (
        some (.v (.int .i64 0)))
      else (
        some (.v (.int .i64 1))))
    else (
      some (.v (.int .i64 1)))) : R) := by
    intros
    kernel_rfl
  exact (h ()).trans (by kernel_rfl)
def ok_ref01_Sign (F : Nat) (a0 : Int) (a1 : Int) : Bool := okT to_ref01_Sign (f_ref01_Sign F a0 a1)
def o_ref01_Sign_0 (F : Nat) (a0 : Int) (a1 : Int) : Int := atI (nth (outT to_ref01_Sign (f_ref01_Sign F a0 a1)) 0)
theorem k_ref01_Sign (F : Nat) (a0 : Int) (a1 : Int) {z0 : Int} (h : f_ref01_Sign F a0 a1 = some (.v (.int .i64 z0))) : ok_ref01_Sign F a0 a1 = true ∧ o_ref01_Sign_0 F a0 a1 = z0 := by
  refine ⟨?_, ?_⟩
  · unfold ok_ref01_Sign; rw [h]; kernel_rfl
  · unfold o_ref01_Sign_0; rw [h]; kernel_rfl
def s_ref01_Sign (F : Nat) : List VV → Option (Bool × VV) := spec ti_ref01_Sign to_ref01_Sign (fun q => (ok_ref01_Sign F (atI (nth q 0)) (atI (nth q 1)))) (fun q => [.i (o_ref01_Sign_0 F (atI (nth q 0)) (atI (nth q 1)))])
theorem hS_ref01_Sign (F : Nat) : ∀ f, Good PP f (unS (S_ref01_Sign F f)) := words_good fun p hp => by
  cases hp
theorem hl_ref01_Sign (F : Nat) : ∀ p ∈ loopsIn PP 37, LoopOK PP (S_ref01_Sign F) c_ref01_Sign F (I_ref01_Sign F) (J_ref01_Sign F) p :=
  loops_of [] (by kernel_rfl) all_nil
theorem hj_ref01_Sign (F : Nat) : ∀ p ∈ joinsIn PP c_ref01_Sign 37, JoinOK PP (S_ref01_Sign F) c_ref01_Sign (I_ref01_Sign F) (J_ref01_Sign F) p :=
  joins_of [] (by kernel_rfl) all_nil
theorem g_ref01_Sign (F : Nat) : Good PP 37 (unS (s_ref01_Sign F)) :=
  fun_spec (hS_ref01_Sign F) (by kernel_rfl) (by kernel_rfl) (C := c_ref01_Sign) (F := fun q => (f_ref01_Sign F (atI (nth q 0)) (atI (nth q 1)))) (fun _ => F) (fun _ => I_ref01_Sign F) (fun _ => J_ref01_Sign F) (fun _ => hl_ref01_Sign F) (fun _ => hj_ref01_Sign F)
    (fun q => (congrArg (funL PP (S_ref01_Sign F) c_ref01_Sign (I_ref01_Sign F) (J_ref01_Sign F) 37) (show (fTs ti_ref01_Sign q).1 = (fTs ti_ref01_Sign [.i (atI (nth q 0)), .i (atI (nth q 1))]).1 by kernel_rfl)).trans (e_ref01_Sign F (atI (nth q 0)) (atI (nth q 1))))
    (fun _ h => okT_fill' h (by kernel_rfl))

end Go.Xv
set_option linter.unusedVariables false
namespace Go.Xv
/- 35 _wide_Less -/
def c_wide_Less : Cfg := ⟨[0, 1, 2, 3, 4, 9], [], [], []⟩
def ti_wide_Less : List TV := [.v (.agg [.int .i64, .int .u64]), .v (.agg [.int .i64, .int .u64])]
def to_wide_Less : TV := .v (.bool)
def S_wide_Less (F : Nat) : FuncId → List VV → Option (Bool × VV) := words []
def W_wide_Less (F : Nat) : List LW := []
def I_wide_Less (F : Nat) : Nat → VS → (Exit → VS → R) → R := tabI c_wide_Less (W_wide_Less F)
def WJ_wide_Less (F : Nat) : List LJ := []
def J_wide_Less (F : Nat) : Nat → Nat → VS → (Exit → VS → R) → R := tabJ (WJ_wide_Less F)
def f_wide_Less (F : Nat) (a0 : Int) (a1 : Int) (a2 : Int) (a3 : Int) : R :=
  bif ((a0 != a2)) then (
    some (.v (.bool ((decide (a0 < a2))))))
  else (
    some (.v (.bool ((decide (a1 < a3))))))
theorem e_wide_Less (F : Nat) (a0 : Int) (a1 : Int) (a2 : Int) (a3 : Int) : funL PP (S_wide_Less F) c_wide_Less (I_wide_Less F) (J_wide_Less F) 35 (fTs ti_wide_Less [.i a0, .i a1, .i a2, .i a3]).1 = f_wide_Less F a0 a1 a2 a3 := by
  have h : ∀ (_ : Unit), funL PP (words []) c_wide_Less (tabI c_wide_Less []) (tabJ []) 35 (fTs ti_wide_Less [.i a0, .i a1, .i a2, .i a3]).1 = (
  bif ((a0 != a2)) then (
    some (.v (.bool ((decide (a0 < a2))))))
  else (
    some (.v (.bool ((decide (a1 < a3)))))) : R) := by
    intros
    kernel_rfl
  exact (h ()).trans (by kernel_rfl)
def ok_wide_Less (F : Nat) (a0 : Int) (a1 : Int) (a2 : Int) (a3 : Int) : Bool := okT to_wide_Less (f_wide_Less F a0 a1 a2 a3)
def o_wide_Less_0 (F : Nat) (a0 : Int) (a1 : Int) (a2 : Int) (a3 : Int) : Bool := atB (nth (outT to_wide_Less (f_wide_Less F a0 a1 a2 a3)) 0)
theorem k_wide_Less (F : Nat) (a0 : Int) (a1 : Int) (a2 : Int) (a3 : Int) {z0 : Bool} (h : f_wide_Less F a0 a1 a2 a3 = some (.v (.bool z0))) : ok_wide_Less F a0 a1 a2 a3 = true ∧ o_wide_Less_0 F a0 a1 a2 a3 = z0 := by
  refine ⟨?_, ?_⟩
  · unfold ok_wide_Less; rw [h]; kernel_rfl
  · unfold o_wide_Less_0; rw [h]; kernel_rfl
def s_wide_Less (F : Nat) : List VV → Option (Bool × VV) := spec ti_wide_Less to_wide_Less (fun q => (ok_wide_Less F (atI (nth q 0)) (atI (nth q 1)) (atI (nth q 2)) (atI (nth q 3)))) (fun q => [.b (o_wide_Less_0 F (atI (nth q 0)) (atI (nth q 1)) (atI (nth q 2)) (atI (nth q 3)))])
theorem hS_wide_Less (F : Nat) : ∀ f, Good PP f (unS (S_wide_Less F f)) := words_good fun p hp => by
  cases hp
theorem hl_wide_Less (F : Nat) : ∀ p ∈ loopsIn PP 35, LoopOK PP (S_wide_Less F) c_wide_Less F (I_wide_Less F) (J_wide_Less F) p :=
  loops_of [] (by kernel_rfl) all_nil
theorem hj_wide_Less (F : Nat) : ∀ p ∈ joinsIn PP c_wide_Less 35, JoinOK PP (S_wide_Less F) c_wide_Less (I_wide_Less F) (J_wide_Less F) p :=
  joins_of [] (by kernel_rfl) all_nil
theorem g_wide_Less (F : Nat) : Good PP 35 (unS (s_wide_Less F)) :=
  fun_spec (hS_wide_Less F) (by kernel_rfl) (by kernel_rfl) (C := c_wide_Less) (F := fun q => (f_wide_Less F (atI (nth q 0)) (atI (nth q 1)) (atI (nth q 2)) (atI (nth q 3)))) (fun _ => F) (fun _ => I_wide_Less F) (fun _ => J_wide_Less F) (fun _ => hl_wide_Less F) (fun _ => hj_wide_Less F)
    (fun q => (congrArg (funL PP (S_wide_Less F) c_wide_Less (I_wide_Less F) (J_wide_Less F) 35) (show (fTs ti_wide_Less q).1 = (fTs ti_wide_Less [.i (atI (nth q 0)), .i (atI (nth q 1)), .i (atI (nth q 2)), .i (atI (nth q 3))]).1 by kernel_rfl)).trans (e_wide_Less F (atI (nth q 0)) (atI (nth q 1)) (atI (nth q 2)) (atI (nth q 3))))
    (fun _ h => okT_fill' h (by kernel_rfl))

end Go.Xv
set_option linter.unusedVariables false
namespace Go.Xv
/- 40 _wide_Of -/
def c_wide_Of : Cfg := ⟨[0, 2], [], [], []⟩
def ti_wide_Of : List TV := [.v (.int .i64)]
def to_wide_Of : TV := .v (.agg [.int .i64, .int .u64])
def S_wide_Of (F : Nat) : FuncId → List VV → Option (Bool × VV) := words []
def W_wide_Of (F : Nat) : List LW := []
def I_wide_Of (F : Nat) : Nat → VS → (Exit → VS → R) → R := tabI c_wide_Of (W_wide_Of F)
def WJ_wide_Of (F : Nat) : List LJ := []
def J_wide_Of (F : Nat) : Nat → Nat → VS → (Exit → VS → R) → R := tabJ (WJ_wide_Of F)
def f_wide_Of (F : Nat) (a0 : Int) : R :=
  some (.v (.agg #[.int .i64 ((Int.fdiv a0 (9223372036854775808))), .int .u64 ((IntKind.wrap .u64 a0))]))
theorem e_wide_Of (F : Nat) (a0 : Int) : funL PP (S_wide_Of F) c_wide_Of (I_wide_Of F) (J_wide_Of F) 40 (fTs ti_wide_Of [.i a0]).1 = f_wide_Of F a0 := by
  have h : ∀ (_ : Unit), funL PP (words []) c_wide_Of (tabI c_wide_Of []) (tabJ []) 40 (fTs ti_wide_Of [.i a0]).1 = (
  some (.v (.agg #[.int .i64 ((Int.fdiv a0 (9223372036854775808))), .int .u64 ((IntKind.wrap .u64 a0))])) : R) := by
    intros
    kernel_rfl
  exact (h ()).trans (by kernel_rfl)
def ok_wide_Of (F : Nat) (a0 : Int) : Bool := okT to_wide_Of (f_wide_Of F a0)
def o_wide_Of_0 (F : Nat) (a0 : Int) : Int := atI (nth (outT to_wide_Of (f_wide_Of F a0)) 0)
def o_wide_Of_1 (F : Nat) (a0 : Int) : Int := atI (nth (outT to_wide_Of (f_wide_Of F a0)) 1)
theorem k_wide_Of (F : Nat) (a0 : Int) {z0 : Int} {z1 : Int} (h : f_wide_Of F a0 = some (.v (.agg #[.int .i64 z0, .int .u64 z1]))) : ok_wide_Of F a0 = true ∧ o_wide_Of_0 F a0 = z0 ∧ o_wide_Of_1 F a0 = z1 := by
  refine ⟨?_, ?_, ?_⟩
  · unfold ok_wide_Of; rw [h]; kernel_rfl
  · unfold o_wide_Of_0; rw [h]; kernel_rfl
  · unfold o_wide_Of_1; rw [h]; kernel_rfl
def s_wide_Of (F : Nat) : List VV → Option (Bool × VV) := spec ti_wide_Of to_wide_Of (fun q => (ok_wide_Of F (atI (nth q 0)))) (fun q => [.i (o_wide_Of_0 F (atI (nth q 0))), .i (o_wide_Of_1 F (atI (nth q 0)))])
theorem hS_wide_Of (F : Nat) : ∀ f, Good PP f (unS (S_wide_Of F f)) := words_good fun p hp => by
  cases hp
theorem hl_wide_Of (F : Nat) : ∀ p ∈ loopsIn PP 40, LoopOK PP (S_wide_Of F) c_wide_Of F (I_wide_Of F) (J_wide_Of F) p :=
  loops_of [] (by kernel_rfl) all_nil
theorem hj_wide_Of (F : Nat) : ∀ p ∈ joinsIn PP c_wide_Of 40, JoinOK PP (S_wide_Of F) c_wide_Of (I_wide_Of F) (J_wide_Of F) p :=
  joins_of [] (by kernel_rfl) all_nil
theorem g_wide_Of (F : Nat) : Good PP 40 (unS (s_wide_Of F)) :=
  fun_spec (hS_wide_Of F) (by kernel_rfl) (by kernel_rfl) (C := c_wide_Of) (F := fun q => (f_wide_Of F (atI (nth q 0)))) (fun _ => F) (fun _ => I_wide_Of F) (fun _ => J_wide_Of F) (fun _ => hl_wide_Of F) (fun _ => hj_wide_Of F)
    (fun q => (congrArg (funL PP (S_wide_Of F) c_wide_Of (I_wide_Of F) (J_wide_Of F) 40) (show (fTs ti_wide_Of q).1 = (fTs ti_wide_Of [.i (atI (nth q 0))]).1 by kernel_rfl)).trans (e_wide_Of F (atI (nth q 0))))
    (fun _ h => okT_fill' h (by kernel_rfl))

end Go.Xv
namespace Go.Xv
theorem some_bool {a b : Bool} (h : a = b) : (some (VV.v (.bool a)) : R) = some (.v (.bool b)) := by rw [h]
theorem f_Of (F : Nat) {n : Int} (h : I64 n) : f_wide_Of F n = some (wd n) := by
  unfold f_wide_Of
  unfold I64 at h
  refine some_wd ?_ ?_
  · rw [fdiv_pos _ (by decide)]; unfold hi; omega
  · rw [wu64]; rfl
theorem f_rOf (F : Nat) {n : Int} (h : I64 n) : f_ref01_Of F n = some (wd n) := by
  unfold f_ref01_Of
  unfold I64 at h
  by_cases h0 : n < 0
  · refine bp (dt h0) (some_wd ?_ ?_)
    · unfold hi; omega
    · rw [wu64]; rfl
  · refine bn (df h0) (some_wd ?_ ?_)
    · unfold hi; omega
    · rw [wu64]; rfl

/-- over a power of two, to the nearest one -/
def near (z : Int) (m : Nat) : Int := if m = 0 then z else z / 2 ^ m + z / 2 ^ (m - 1) % 2
theorem f_rSign (F : Nat) {a b : Int} (hb : U64 b) : f_ref01_Sign F a b = some (.v (.int .i64 (if val a b < 0 then -1 else if val a b = 0 then 0 else 1))) := by
  unfold f_ref01_Sign val
  unfold U64 at hb
  by_cases h : a < 0
  · refine bp (dt h) (some_int ?_)
    rw [if_pos (by omega)]
  · refine bn (df h) ?_
    by_cases h2 : a = 0
    · refine bp (by simp [h2]) ?_
      by_cases h3 : b = 0
      · refine bp (by simp [h3]) (some_int ?_)
        rw [if_neg (by omega), if_pos (by omega)]
      · refine bn (by simp [h3]) (some_int ?_)
        rw [if_neg (by omega), if_neg (by omega)]
    · refine bn (by simp [h2]) (some_int ?_)
      rw [if_neg (by omega), if_neg (by omega)]
theorem f_Less (F : Nat) {a b c d : Int} (hb : U64 b) (hd : U64 d) : f_wide_Less F a b c d = some (.v (.bool (decide (val a b < val c d)))) := by
  unfold f_wide_Less val
  unfold U64 at hb hd
  by_cases h : a = c
  · refine bn (by simp [h]) (some_bool ?_)
    rw [decide_eq_decide]; omega
  · refine bp (by simp [h]) (some_bool ?_)
    rw [decide_eq_decide]; omega
end Go.Xv
namespace Go.Xv
/-- one bit of a number -/
def dg (z : Int) (i : Nat) : Int := z / 2 ^ i % 2
def ds (z : Int) (n : Nat) : List VV := (List.range n).map fun i => .v (.int .i64 (dg z i))
theorem dg_01 (z : Int) (i : Nat) : 0 ≤ dg z i ∧ dg z i ≤ 1 := by unfold dg; omega
theorem ds_len (z : Int) (n : Nat) : (ds z n).length = n := by simp [ds]
theorem ds_zero (z : Int) : ds z 0 = [] := rfl
theorem ds_succ (z : Int) (n : Nat) : ds z (n + 1) = ds z n ++ [.v (.int .i64 (dg z n))] := by simp [ds, List.range_succ]
theorem ds_get (z : Int) {n i : Nat} (h : i < n) : (ds z n)[i]? = some (.v (.int .i64 (dg z i))) := by simp [ds, h]
theorem ds_take (z : Int) (n : Nat) : ((ds z n).drop 0).take (n * 1) = ds z n := by
  rw [List.drop_zero, List.take_of_length_le]
  rw [ds_len]; omega
theorem ediv2 (x : Int) (i : Nat) : x / 2 ^ i / 2 = x / 2 ^ (i + 1) := by
  rw [Int.ediv_ediv_of_nonneg (Int.le_of_lt (p2pos i))]; rfl
theorem bitlo (x : Int) {n i : Nat} (h : i < n) : (x % 2 ^ n) / 2 ^ i % 2 = x / 2 ^ i % 2 := by
  have e : (2 : Int) ^ n = 2 ^ i * (2 * 2 ^ (n - i - 1)) := by
    rw [show (2 : Int) * 2 ^ (n - i - 1) = 2 ^ (n - i) by
      rw [show n - i = (n - i - 1) + 1 by omega, Int.pow_succ]; simp [Int.mul_comm]]
    rw [p2add, show i + (n - i) = n by omega]
  have hd := Int.mul_ediv_add_emod x (2 ^ n)
  generalize hq : x / 2 ^ n = q at hd
  generalize hr : x % 2 ^ n = r at hd ⊢
  rw [← hd, e]
  have hP := p2pos i
  generalize (2 : Int) ^ i = P at *
  generalize (2 : Int) ^ (n - i - 1) = T at *
  rw [show P * (2 * T) * q + r = r + 2 * T * q * P by
    have : P * (2 * T) * q = 2 * T * q * P := by simp only [Int.mul_comm, Int.mul_left_comm]
    omega, Int.add_mul_ediv_right _ _ (by omega)]
  have : 2 * T * q = 2 * (T * q) := Int.mul_assoc ..
  omega
theorem dg_lo (z : Int) {i : Nat} (h : i < 64) : lo z / 2 ^ i % 2 = dg z i := bitlo z (n := 64) h
theorem dg_hi (z : Int) {i : Nat} (h : i < 64) : (z / 18446744073709551616 % 18446744073709551616) / 2 ^ i % 2 = dg z (64 + i) := by
  have := bitlo (z / 18446744073709551616) (n := 64) h
  rw [show (18446744073709551616 : Int) = 2 ^ 64 by decide] at *
  rw [this, Int.ediv_ediv_of_nonneg (by decide), p2add]
  rfl
/-- the number of the first bits -/
def num (z : Int) (n : Nat) : Int := z % 2 ^ n
theorem num_zero (z : Int) : num z 0 = 0 := by unfold num; omega
theorem num_succ (z : Int) (n : Nat) : num z (n + 1) = num z n + dg z n * 2 ^ n := by
  unfold num dg
  have h1 := Int.mul_ediv_add_emod z (2 ^ n)
  have h2 := Int.mul_ediv_add_emod (z / 2 ^ n) 2
  have h3 := Int.mul_ediv_add_emod z (2 ^ (n + 1))
  rw [← ediv2] at h3
  have hP := p2pos n
  have e : (2 : Int) ^ (n + 1) = 2 * 2 ^ n := by rw [Int.pow_succ, Int.mul_comm]
  rw [e] at h3 ⊢
  generalize (2 : Int) ^ n = P at *
  generalize z / P = q at *
  have : 2 * P * (q / 2) = P * (2 * (q / 2)) := by simp only [Int.mul_comm, Int.mul_left_comm]
  have : P * q = P * (2 * (q / 2) + q % 2) := by rw [h2]
  rw [Int.mul_add] at this
  rw [Int.mul_comm (q % 2) P]
  omega
theorem num_bd (z : Int) (n : Nat) : 0 ≤ num z n ∧ num z n < 2 ^ n := by
  have := p2pos n
  exact ⟨Int.emod_nonneg _ (by omega), Int.emod_lt_of_pos _ this⟩
theorem p2mono {a b : Nat} (h : a ≤ b) : (2 : Int) ^ a ≤ 2 ^ b := by
  rw [show b = a + (b - a) by omega, ← p2add]
  have h1 := p2pos a
  have h2 := p2pos (b - a)
  have : (2 : Int) ^ a * 1 ≤ 2 ^ a * 2 ^ (b - a) := Int.mul_le_mul_of_nonneg_left (by omega) (by omega)
  omega
theorem p2_lt64 {i : Nat} (h : i < 64) : (2 : Int) ^ i * 2 ≤ 18446744073709551616 := by
  have := p2mono (a := i + 1) (b := 64) (by omega)
  rw [Int.pow_succ] at this
  simpa using this
/-- the bits of a sum -/
def cy (x y : Int) (i : Nat) : Int := (num x i + num y i) / 2 ^ i
theorem cy_zero (x y : Int) : cy x y 0 = 0 := by unfold cy; rw [num_zero, num_zero]; decide
theorem cy_01 (x y : Int) (i : Nat) : 0 ≤ cy x y i ∧ cy x y i ≤ 1 := by
  unfold cy
  have h1 := num_bd x i
  have h2 := num_bd y i
  have hP := p2pos i
  generalize (2 : Int) ^ i = P at *
  refine ⟨Int.ediv_nonneg (by omega) (by omega), ?_⟩
  have : (num x i + num y i) / P < 2 := Int.ediv_lt_of_lt_mul hP (by omega)
  omega
theorem cy_succ (x y : Int) (i : Nat) : cy x y (i + 1) = (dg x i + dg y i + cy x y i) / 2 ∧ dg (x + y) i = (dg x i + dg y i + cy x y i) % 2 := by
  have hP := p2pos i
  have e1 := num_succ x i
  have e2 := num_succ y i
  constructor
  · unfold cy
    rw [e1, e2, ← ediv2]
    generalize (2 : Int) ^ i = P at *
    rw [show num x i + dg x i * P + (num y i + dg y i * P) = num x i + num y i + (dg x i + dg y i) * P by rw [Int.add_mul]; omega, Int.add_mul_ediv_right _ _ (by omega)]
    congr 1
    omega
  · unfold cy
    have h1 := Int.mul_ediv_add_emod x (2 ^ i)
    have h2 := Int.mul_ediv_add_emod y (2 ^ i)
    have h3 : (x + y) / 2 ^ i = x / 2 ^ i + y / 2 ^ i + (num x i + num y i) / 2 ^ i := by
      unfold num
      generalize (2 : Int) ^ i = P at *
      have : x + y = (x % P + y % P) + (x / P + y / P) * P := by
        rw [Int.add_mul, Int.mul_comm _ P, Int.mul_comm _ P]; omega
      rw [this, Int.add_mul_ediv_right _ _ (by omega)]
      omega
    unfold dg
    rw [h3]
    omega
theorem dg_not (z : Int) (i : Nat) : dg (-1 - z) i = 1 - dg z i := by
  have h : (-1 - z) / 2 ^ i = -1 - z / 2 ^ i := by
    have hP := p2pos i
    have h1 := Int.mul_ediv_add_emod z (2 ^ i)
    have h2 := Int.emod_nonneg z (show (2 : Int) ^ i ≠ 0 by omega)
    have h3 := Int.emod_lt_of_pos z hP
    generalize (2 : Int) ^ i = P at *
    generalize z / P = q at *
    generalize z % P = r at *
    rw [← h1, show -1 - (P * q + r) = (P - 1 - r) + (-1 - q) * P by rw [Int.sub_mul, Int.mul_comm P q]; omega, Int.add_mul_ediv_right _ _ (by omega), Int.ediv_eq_zero_of_lt (by omega) (by omega)]
    omega
  unfold dg
  rw [h]
  omega
end Go.Xv
set_option linter.unusedVariables false
namespace Go.Xv
/- 43 _ref01_Digits -/
def c_ref01_Digits : Cfg := ⟨[0, 1, 2, 3, 4, 5, 6, 7, 12, 27], [(0, [0, 1, 2, 3, 4, 5, 6, 7, 8, 9, 10, 23, 24, 25, 26, 27, 28, 29, 30, 31, 32, 33, 34, 35, 36, 37, 38]), (2, [0, 1, 2, 3, 4, 5, 6, 7, 8, 9, 10, 11, 12, 13, 14, 15, 16, 17, 18, 19, 20, 21, 22, 23, 24, 25, 38])], [19, 34], []⟩
def ti_ref01_Digits : List TV := [.v (.agg [.int .i64, .int .u64])]
def to_ref01_Digits : TV := .fs (.lit 0) .hole 1
def S_ref01_Digits (F : Nat) : FuncId → List VV → Option (Bool × VV) := words []
def T_ref01_Digits_0 : TS := ⟨[(0, .v (.agg [.int .i64, .int .u64])), (1, .lp 0 (.lit 0)), (2, .v (.nils)), (3, .ls 1 (.lit 0) .hole 1), (4, .v (.int .u64)), (5, .v (.int .i64))], [(0, ⟨(.ex [.v (.int .i64), .v (.int .u64)]), true⟩), (1, ⟨.hole, true⟩)], 2⟩
def T_ref01_Digits_0_0 : TS := ⟨[(0, .v (.agg [.int .i64, .int .u64])), (1, .lp 0 (.lit 0)), (2, .v (.nils)), (3, .ls 1 (.lit 0) .hole 1), (4, .v (.int .u64)), (5, .v (.int .i64))], [(0, ⟨(.ex [.v (.int .i64), .v (.int .u64)]), true⟩), (1, ⟨.hole, true⟩)], 2⟩
def B_ref01_Digits_0 (F : Nat) (rc : Int → Int → Nat → Int → Int → Int → Int → List VV → R) (ex0 : Int → Int → Nat → Int → Int → Int → Int → List VV → R) (x0 : Int) (x1 : Int) (x2 : Nat) (x3 : Int) (x4 : Int) (x5 : Int) (x6 : Int) (x7 : List VV) : R :=
  bif ((decide (x4 < 64))) then (
    bif (((decide ((0 + (x2 * 1)) ≤ x7.length)) && true) && (decide ((x2 + 1) * 9 ≤ bigger))) then (
      rc x0 x1 ((x2 + 1)) ((IntKind.wrap .u64 (Int.tdiv x3 2))) ((IntKind.wrap .i64 (x4 + 1))) x5 x6 ((((x7.drop 0).take (x2 * 1)) ++ [.v (.int .i64 ((IntKind.wrap .i64 ((Int.tmod x3 2)))))])))
    else (
      none))
  else (
    ex0 x0 x1 x2 x3 x4 x5 x6 x7)
def L_ref01_Digits_0 (F : Nat) (ex0 : Int → Int → Nat → Int → Int → Int → Int → List VV → R) : Nat → Int → Int → Nat → Int → Int → Int → Int → List VV → R
  | 0, _, _, _, _, _, _, _, _ => none
  | n + 1, x0, x1, x2, x3, x4, x5, x6, x7 => B_ref01_Digits_0 F (L_ref01_Digits_0 F ex0 n) ex0 x0 x1 x2 x3 x4 x5 x6 x7
def T_ref01_Digits_1 : TS := ⟨[(0, .v (.agg [.int .i64, .int .u64])), (1, .lp 0 (.lit 0)), (2, .v (.nils)), (3, .ls 1 (.lit 0) .hole 1), (4, .v (.int .u64)), (5, .v (.int .i64)), (6, .v (.int .u64)), (7, .v (.int .i64))], [(0, ⟨(.ex [.v (.int .i64), .v (.int .u64)]), true⟩), (1, ⟨.hole, true⟩)], 2⟩
def T_ref01_Digits_1_0 : TS := ⟨[(0, .v (.agg [.int .i64, .int .u64])), (1, .lp 0 (.lit 0)), (2, .v (.nils)), (3, .ls 1 (.lit 0) .hole 1), (4, .v (.int .u64)), (5, .v (.int .i64)), (6, .v (.int .u64)), (7, .v (.int .i64))], [(0, ⟨(.ex [.v (.int .i64), .v (.int .u64)]), true⟩), (1, ⟨.hole, true⟩)], 2⟩
def B_ref01_Digits_1 (F : Nat) (rc : Int → Int → Nat → Int → Int → Int → Int → Int → Int → List VV → R) (ex0 : Int → Int → Nat → Int → Int → Int → Int → Int → Int → List VV → R) (x0 : Int) (x1 : Int) (x2 : Nat) (x3 : Int) (x4 : Int) (x5 : Int) (x6 : Int) (x7 : Int) (x8 : Int) (x9 : List VV) : R :=
  bif ((decide (x6 < 64))) then (
    bif (((decide ((0 + (x2 * 1)) ≤ x9.length)) && true) && (decide ((x2 + 1) * 9 ≤ bigger))) then (
      rc x0 x1 ((x2 + 1)) x3 x4 ((IntKind.wrap .u64 (Int.tdiv x5 2))) ((IntKind.wrap .i64 (x6 + 1))) x7 x8 ((((x9.drop 0).take (x2 * 1)) ++ [.v (.int .i64 ((IntKind.wrap .i64 ((Int.tmod x5 2)))))])))
    else (
      none))
  else (
    ex0 x0 x1 x2 x3 x4 x5 x6 x7 x8 x9)
def L_ref01_Digits_1 (F : Nat) (ex0 : Int → Int → Nat → Int → Int → Int → Int → Int → Int → List VV → R) : Nat → Int → Int → Nat → Int → Int → Int → Int → Int → Int → List VV → R
  | 0, _, _, _, _, _, _, _, _, _, _ => none
  | n + 1, x0, x1, x2, x3, x4, x5, x6, x7, x8, x9 => B_ref01_Digits_1 F (L_ref01_Digits_1 F ex0 n) ex0 x0 x1 x2 x3 x4 x5 x6 x7 x8 x9
def W_ref01_Digits (F : Nat) : List LW := [⟨0, T_ref01_Digits_0, fun k q => L_ref01_Digits_0 F (fun (z0 : Int) (z1 : Int) (z2 : Nat) (z3 : Int) (z4 : Int) (z5 : Int) (z6 : Int) (z7 : List VV) => k (.exit 0) (fS T_ref01_Digits_0_0 [.i z0, .i z1, .n z2, .i z3, .i z4, .i z5, .i z6, .c z7])) F (atI (nth q 0)) (atI (nth q 1)) (atN (nth q 2)) (atI (nth q 3)) (atI (nth q 4)) (atI (nth q 5)) (atI (nth q 6)) (atC (nth q 7))⟩, ⟨2, T_ref01_Digits_1, fun k q => L_ref01_Digits_1 F (fun (z0 : Int) (z1 : Int) (z2 : Nat) (z3 : Int) (z4 : Int) (z5 : Int) (z6 : Int) (z7 : Int) (z8 : Int) (z9 : List VV) => k (.exit 2) (fS T_ref01_Digits_1_0 [.i z0, .i z1, .n z2, .i z3, .i z4, .i z5, .i z6, .i z7, .i z8, .c z9])) F (atI (nth q 0)) (atI (nth q 1)) (atN (nth q 2)) (atI (nth q 3)) (atI (nth q 4)) (atI (nth q 5)) (atI (nth q 6)) (atI (nth q 7)) (atI (nth q 8)) (atC (nth q 9))⟩]
def I_ref01_Digits (F : Nat) : Nat → VS → (Exit → VS → R) → R := tabI c_ref01_Digits (W_ref01_Digits F)
def WJ_ref01_Digits (F : Nat) : List LJ := []
def J_ref01_Digits (F : Nat) : Nat → Nat → VS → (Exit → VS → R) → R := tabJ (WJ_ref01_Digits F)
theorem lL_ref01_Digits_0 (F : Nat) (k : Exit → VS → R) : ∀ (n : Nat) (x0 : Int) (x1 : Int) (x2 : Nat) (x3 : Int) (x4 : Int) (x5 : Int) (x6 : Int) (x7 : List VV), iterC (codeL PP (S_ref01_Digits F) c_ref01_Digits (I_ref01_Digits F) (J_ref01_Digits F) (loopAt PP 43 0) 0) (headOf c_ref01_Digits 0) k n (fS T_ref01_Digits_0 [.i x0, .i x1, .n x2, .i x3, .i x4, .i x5, .i x6, .c x7]) = L_ref01_Digits_0 F (fun (z0 : Int) (z1 : Int) (z2 : Nat) (z3 : Int) (z4 : Int) (z5 : Int) (z6 : Int) (z7 : List VV) => k (.exit 0) (fS T_ref01_Digits_0_0 [.i z0, .i z1, .n z2, .i z3, .i z4, .i z5, .i z6, .c z7])) n x0 x1 x2 x3 x4 x5 x6 x7
  | 0, _, _, _, _, _, _, _, _ => rfl
  | n + 1, x0, x1, x2, x3, x4, x5, x6, x7 => by
    have h0 : ∀ (L_ref01_Digits_0 : Nat → (Int → Int → Nat → Int → Int → Int → Int → List VV → R) → Nat → Int → Int → Nat → Int → Int → Int → Int → List VV → R) (L_ref01_Digits_1 : Nat → (Int → Int → Nat → Int → Int → Int → Int → Int → Int → List VV → R) → Nat → Int → Int → Nat → Int → Int → Int → Int → Int → Int → List VV → R), iterC (codeL PP (words []) c_ref01_Digits (tabI c_ref01_Digits [⟨0, T_ref01_Digits_0, fun k q => L_ref01_Digits_0 F (fun (z0 : Int) (z1 : Int) (z2 : Nat) (z3 : Int) (z4 : Int) (z5 : Int) (z6 : Int) (z7 : List VV) => k (.exit 0) (fS T_ref01_Digits_0_0 [.i z0, .i z1, .n z2, .i z3, .i z4, .i z5, .i z6, .c z7])) F (atI (nth q 0)) (atI (nth q 1)) (atN (nth q 2)) (atI (nth q 3)) (atI (nth q 4)) (atI (nth q 5)) (atI (nth q 6)) (atC (nth q 7))⟩, ⟨2, T_ref01_Digits_1, fun k q => L_ref01_Digits_1 F (fun (z0 : Int) (z1 : Int) (z2 : Nat) (z3 : Int) (z4 : Int) (z5 : Int) (z6 : Int) (z7 : Int) (z8 : Int) (z9 : List VV) => k (.exit 2) (fS T_ref01_Digits_1_0 [.i z0, .i z1, .n z2, .i z3, .i z4, .i z5, .i z6, .i z7, .i z8, .c z9])) F (atI (nth q 0)) (atI (nth q 1)) (atN (nth q 2)) (atI (nth q 3)) (atI (nth q 4)) (atI (nth q 5)) (atI (nth q 6)) (atI (nth q 7)) (atI (nth q 8)) (atC (nth q 9))⟩]) (tabJ []) (loopAt PP 43 0) 0) (headOf c_ref01_Digits 0) k (n + 1) (fS T_ref01_Digits_0 [.i x0, .i x1, .n x2, .i x3, .i x4, .i x5, .i x6, .c x7]) = (fun (rc : Int → Int → Nat → Int → Int → Int → Int → List VV → R) (ex0 : Int → Int → Nat → Int → Int → Int → Int → List VV → R) (x0 : Int) (x1 : Int) (x2 : Nat) (x3 : Int) (x4 : Int) (x5 : Int) (x6 : Int) (x7 : List VV) => (
  bif ((decide (x4 < 64))) then (
    bif (((decide ((0 + (x2 * 1)) ≤ x7.length)) && true) && (decide ((x2 + 1) * 9 ≤ bigger))) then (
      rc x0 x1 ((x2 + 1)) ((IntKind.wrap .u64 (Int.tdiv x3 2))) ((IntKind.wrap .i64 (x4 + 1))) x5 x6 ((((x7.drop 0).take (x2 * 1)) ++ [.v (.int .i64 ((IntKind.wrap .i64 ((Int.tmod x3 2)))))])))
    else (
      none))
  else (
    ex0 x0 x1 x2 x3 x4 x5 x6 x7) : R)) (fun (y0 : Int) (y1 : Int) (y2 : Nat) (y3 : Int) (y4 : Int) (y5 : Int) (y6 : Int) (y7 : List VV) => iterC (codeL PP (words []) c_ref01_Digits (tabI c_ref01_Digits [⟨0, T_ref01_Digits_0, fun k q => L_ref01_Digits_0 F (fun (z0 : Int) (z1 : Int) (z2 : Nat) (z3 : Int) (z4 : Int) (z5 : Int) (z6 : Int) (z7 : List VV) => k (.exit 0) (fS T_ref01_Digits_0_0 [.i z0, .i z1, .n z2, .i z3, .i z4, .i z5, .i z6, .c z7])) F (atI (nth q 0)) (atI (nth q 1)) (atN (nth q 2)) (atI (nth q 3)) (atI (nth q 4)) (atI (nth q 5)) (atI (nth q 6)) (atC (nth q 7))⟩, ⟨2, T_ref01_Digits_1, fun k q => L_ref01_Digits_1 F (fun (z0 : Int) (z1 : Int) (z2 : Nat) (z3 : Int) (z4 : Int) (z5 : Int) (z6 : Int) (z7 : Int) (z8 : Int) (z9 : List VV) => k (.exit 2) (fS T_ref01_Digits_1_0 [.i z0, .i z1, .n z2, .i z3, .i z4, .i z5, .i z6, .i z7, .i z8, .c z9])) F (atI (nth q 0)) (atI (nth q 1)) (atN (nth q 2)) (atI (nth q 3)) (atI (nth q 4)) (atI (nth q 5)) (atI (nth q 6)) (atI (nth q 7)) (atI (nth q 8)) (atC (nth q 9))⟩]) (tabJ []) (loopAt PP 43 0) 0) (headOf c_ref01_Digits 0) k n (fS T_ref01_Digits_0 [.i y0, .i y1, .n y2, .i y3, .i y4, .i y5, .i y6, .c y7])) (fun (z0 : Int) (z1 : Int) (z2 : Nat) (z3 : Int) (z4 : Int) (z5 : Int) (z6 : Int) (z7 : List VV) => k (.exit 0) (fS T_ref01_Digits_0_0 [.i z0, .i z1, .n z2, .i z3, .i z4, .i z5, .i z6, .c z7])) x0 x1 x2 x3 x4 x5 x6 x7 := by
      intros
      kernel_rfl
    have h : iterC (codeL PP (S_ref01_Digits F) c_ref01_Digits (I_ref01_Digits F) (J_ref01_Digits F) (loopAt PP 43 0) 0) (headOf c_ref01_Digits 0) k (n + 1) (fS T_ref01_Digits_0 [.i x0, .i x1, .n x2, .i x3, .i x4, .i x5, .i x6, .c x7]) = B_ref01_Digits_0 F (fun (y0 : Int) (y1 : Int) (y2 : Nat) (y3 : Int) (y4 : Int) (y5 : Int) (y6 : Int) (y7 : List VV) => iterC (codeL PP (S_ref01_Digits F) c_ref01_Digits (I_ref01_Digits F) (J_ref01_Digits F) (loopAt PP 43 0) 0) (headOf c_ref01_Digits 0) k n (fS T_ref01_Digits_0 [.i y0, .i y1, .n y2, .i y3, .i y4, .i y5, .i y6, .c y7])) (fun (z0 : Int) (z1 : Int) (z2 : Nat) (z3 : Int) (z4 : Int) (z5 : Int) (z6 : Int) (z7 : List VV) => k (.exit 0) (fS T_ref01_Digits_0_0 [.i z0, .i z1, .n z2, .i z3, .i z4, .i z5, .i z6, .c z7])) x0 x1 x2 x3 x4 x5 x6 x7 := (h0 L_ref01_Digits_0 L_ref01_Digits_1).trans (by kernel_rfl)
    rw [h]
    simp only [lL_ref01_Digits_0 F k n]
    rfl
theorem lL_ref01_Digits_1 (F : Nat) (k : Exit → VS → R) : ∀ (n : Nat) (x0 : Int) (x1 : Int) (x2 : Nat) (x3 : Int) (x4 : Int) (x5 : Int) (x6 : Int) (x7 : Int) (x8 : Int) (x9 : List VV), iterC (codeL PP (S_ref01_Digits F) c_ref01_Digits (I_ref01_Digits F) (J_ref01_Digits F) (loopAt PP 43 1) 2) (headOf c_ref01_Digits 2) k n (fS T_ref01_Digits_1 [.i x0, .i x1, .n x2, .i x3, .i x4, .i x5, .i x6, .i x7, .i x8, .c x9]) = L_ref01_Digits_1 F (fun (z0 : Int) (z1 : Int) (z2 : Nat) (z3 : Int) (z4 : Int) (z5 : Int) (z6 : Int) (z7 : Int) (z8 : Int) (z9 : List VV) => k (.exit 2) (fS T_ref01_Digits_1_0 [.i z0, .i z1, .n z2, .i z3, .i z4, .i z5, .i z6, .i z7, .i z8, .c z9])) n x0 x1 x2 x3 x4 x5 x6 x7 x8 x9
  | 0, _, _, _, _, _, _, _, _, _, _ => rfl
  | n + 1, x0, x1, x2, x3, x4, x5, x6, x7, x8, x9 => by
    have h0 : ∀ (L_ref01_Digits_0 : Nat → (Int → Int → Nat → Int → Int → Int → Int → List VV → R) → Nat → Int → Int → Nat → Int → Int → Int → Int → List VV → R) (L_ref01_Digits_1 : Nat → (Int → Int → Nat → Int → Int → Int → Int → Int → Int → List VV → R) → Nat → Int → Int → Nat → Int → Int → Int → Int → Int → Int → List VV → R), iterC (codeL PP (words []) c_ref01_Digits (tabI c_ref01_Digits [⟨0, T_ref01_Digits_0, fun k q => L_ref01_Digits_0 F (fun (z0 : Int) (z1 : Int) (z2 : Nat) (z3 : Int) (z4 : Int) (z5 : Int) (z6 : Int) (z7 : List VV) => k (.exit 0) (fS T_ref01_Digits_0_0 [.i z0, .i z1, .n z2, .i z3, .i z4, .i z5, .i z6, .c z7])) F (atI (nth q 0)) (atI (nth q 1)) (atN (nth q 2)) (atI (nth q 3)) (atI (nth q 4)) (atI (nth q 5)) (atI (nth q 6)) (atC (nth q 7))⟩, ⟨2, T_ref01_Digits_1, fun k q => L_ref01_Digits_1 F (fun (z0 : Int) (z1 : Int) (z2 : Nat) (z3 : Int) (z4 : Int) (z5 : Int) (z6 : Int) (z7 : Int) (z8 : Int) (z9 : List VV) => k (.exit 2) (fS T_ref01_Digits_1_0 [.i z0, .i z1, .n z2, .i z3, .i z4, .i z5, .i z6, .i z7, .i z8, .c z9])) F (atI (nth q 0)) (atI (nth q 1)) (atN (nth q 2)) (atI (nth q 3)) (atI (nth q 4)) (atI (nth q 5)) (atI (nth q 6)) (atI (nth q 7)) (atI (nth q 8)) (atC (nth q 9))⟩]) (tabJ []) (loopAt PP 43 1) 2) (headOf c_ref01_Digits 2) k (n + 1) (fS T_ref01_Digits_1 [.i x0, .i x1, .n x2, .i x3, .i x4, .i x5, .i x6, .i x7, .i x8, .c x9]) = (fun (rc : Int → Int → Nat → Int → Int → Int → Int → Int → Int → List VV → R) (ex0 : Int → Int → Nat → Int → Int → Int → Int → Int → Int → List VV → R) (x0 : Int) (x1 : Int) (x2 : Nat) (x3 : Int) (x4 : Int) (x5 : Int) (x6 : Int) (x7 : Int) (x8 : Int) (x9 : List VV) => (
  bif ((decide (x6 < 64))) then (
    bif (((decide ((0 + (x2 * 1)) ≤ x9.length)) && true) && (decide ((x2 + 1) * 9 ≤ bigger))) then (
      rc x0 x1 ((x2 + 1)) x3 x4 ((IntKind.wrap .u64 (Int.tdiv x5 2))) ((IntKind.wrap .i64 (x6 + 1))) x7 x8 ((((x9.drop 0).take (x2 * 1)) ++ [.v (.int .i64 ((IntKind.wrap .i64 ((Int.tmod x5 2)))))])))
    else (
      none))
  else (
    ex0 x0 x1 x2 x3 x4 x5 x6 x7 x8 x9) : R)) (fun (y0 : Int) (y1 : Int) (y2 : Nat) (y3 : Int) (y4 : Int) (y5 : Int) (y6 : Int) (y7 : Int) (y8 : Int) (y9 : List VV) => iterC (codeL PP (words []) c_ref01_Digits (tabI c_ref01_Digits [⟨0, T_ref01_Digits_0, fun k q => L_ref01_Digits_0 F (fun (z0 : Int) (z1 : Int) (z2 : Nat) (z3 : Int) (z4 : Int) (z5 : Int) (z6 : Int) (z7 : List VV) => k (.exit 0) (fS T_ref01_Digits_0_0 [.i z0, .i z1, .n z2, .i z3, .i z4, .i z5, .i z6, .c z7])) F (atI (nth q 0)) (atI (nth q 1)) (atN (nth q 2)) (atI (nth q 3)) (atI (nth q 4)) (atI (nth q 5)) (atI (nth q 6)) (atC (nth q 7))⟩, ⟨2, T_ref01_Digits_1, fun k q => L_ref01_Digits_1 F (fun (z0 : Int) (z1 : Int) (z2 : Nat) (z3 : Int) (z4 : Int) (z5 : Int) (z6 : Int) (z7 : Int) (z8 : Int) (z9 : List VV) => k (.exit 2) (fS T_ref01_Digits_1_0 [.i z0, .i z1, .n z2, .i z3, .i z4, .i z5, .i z6, .i z7, .i z8, .c z9])) F (atI (nth q 0)) (atI (nth q 1)) (atN (nth q 2)) (atI (nth q 3)) (atI (nth q 4)) (atI (nth q 5)) (atI (nth q 6)) (atI (nth q 7)) (atI (nth q 8)) (atC (nth q 9))⟩]) (tabJ []) (loopAt PP 43 1) 2) (headOf c_ref01_Digits 2) k n (fS T_ref01_Digits_1 [.i y0, .i y1, .n y2, .i y3, .i y4, .i y5, .i y6, .i y7, .i y8, .c y9])) (fun (z0 : Int) (z1 : Int) (z2 : Nat) (z3 : Int) (z4 : Int) (z5 : Int) (z6 : Int) (z7 : Int) (z8 : Int) (z9 : List VV) => k (.exit 2) (fS T_ref01_Digits_1_0 [.i z0, .i z1, .n z2, .i z3, .i z4, .i z5, .i z6, .i z7, .i z8, .c z9])) x0 x1 x2 x3 x4 x5 x6 x7 x8 x9 := by
      intros
      kernel_rfl
    have h : iterC (codeL PP (S_ref01_Digits F) c_ref01_Digits (I_ref01_Digits F) (J_ref01_Digits F) (loopAt PP 43 1) 2) (headOf c_ref01_Digits 2) k (n + 1) (fS T_ref01_Digits_1 [.i x0, .i x1, .n x2, .i x3, .i x4, .i x5, .i x6, .i x7, .i x8, .c x9]) = B_ref01_Digits_1 F (fun (y0 : Int) (y1 : Int) (y2 : Nat) (y3 : Int) (y4 : Int) (y5 : Int) (y6 : Int) (y7 : Int) (y8 : Int) (y9 : List VV) => iterC (codeL PP (S_ref01_Digits F) c_ref01_Digits (I_ref01_Digits F) (J_ref01_Digits F) (loopAt PP 43 1) 2) (headOf c_ref01_Digits 2) k n (fS T_ref01_Digits_1 [.i y0, .i y1, .n y2, .i y3, .i y4, .i y5, .i y6, .i y7, .i y8, .c y9])) (fun (z0 : Int) (z1 : Int) (z2 : Nat) (z3 : Int) (z4 : Int) (z5 : Int) (z6 : Int) (z7 : Int) (z8 : Int) (z9 : List VV) => k (.exit 2) (fS T_ref01_Digits_1_0 [.i z0, .i z1, .n z2, .i z3, .i z4, .i z5, .i z6, .i z7, .i z8, .c z9])) x0 x1 x2 x3 x4 x5 x6 x7 x8 x9 := (h0 L_ref01_Digits_0 L_ref01_Digits_1).trans (by kernel_rfl)
    rw [h]
    simp only [lL_ref01_Digits_1 F k n]
    rfl
def f_ref01_Digits (F : Nat) (a0 : Int) (a1 : Int) : R :=
  L_ref01_Digits_0 F (fun (v506 : Int) (v507 : Int) (v508 : Nat) (v509 : Int) (v510 : Int) (v511 : Int) (v512 : Int) (v513 : List VV) =>
    L_ref01_Digits_1 F (fun (v532 : Int) (v533 : Int) (v534 : Nat) (v535 : Int) (v536 : Int) (v537 : Int) (v538 : Int) (v539 : Int) (v540 : Int) (v541 : List VV) =>
      some (.fs v541 0 v534 1)) F v506 v507 v508 v509 v510 ((IntKind.wrap .u64 v511)) 0 v511 v512 v513) F a0 a1 0 a1 0 a0 a1 []
theorem e_ref01_Digits (F : Nat) (a0 : Int) (a1 : Int) : funL PP (S_ref01_Digits F) c_ref01_Digits (I_ref01_Digits F) (J_ref01_Digits F) 43 (fTs ti_ref01_Digits [.i a0, .i a1]).1 = f_ref01_Digits F a0 a1 := by
  have h : ∀ (L_ref01_Digits_0 : Nat → (Int → Int → Nat → Int → Int → Int → Int → List VV → R) → Nat → Int → Int → Nat → Int → Int → Int → Int → List VV → R) (L_ref01_Digits_1 : Nat → (Int → Int → Nat → Int → Int → Int → Int → Int → Int → List VV → R) → Nat → Int → Int → Nat → Int → Int → Int → Int → Int → Int → List VV → R), funL PP (words []) c_ref01_Digits (tabI c_ref01_Digits [⟨0, T_ref01_Digits_0, fun k q => L_ref01_Digits_0 F (fun (z0 : Int) (z1 : Int) (z2 : Nat) (z3 : Int) (z4 : Int) (z5 : Int) (z6 : Int) (z7 : List VV) => k (.exit 0) (fS T_ref01_Digits_0_0 [.i z0, .i z1, .n z2, .i z3, .i z4, .i z5, .i z6, .c z7])) F (atI (nth q 0)) (atI (nth q 1)) (atN (nth q 2)) (atI (nth q 3)) (atI (nth q 4)) (atI (nth q 5)) (atI (nth q 6)) (atC (nth q 7))⟩, ⟨2, T_ref01_Digits_1, fun k q => L_ref01_Digits_1 F (fun (z0 : Int) (z1 : Int) (z2 : Nat) (z3 : Int) (z4 : Int) (z5 : Int) (z6 : Int) (z7 : Int) (z8 : Int) (z9 : List VV) => k (.exit 2) (fS T_ref01_Digits_1_0 [.i z0, .i z1, .n z2, .i z3, .i z4, .i z5, .i z6, .i z7, .i z8, .c z9])) F (atI (nth q 0)) (atI (nth q 1)) (atN (nth q 2)) (atI (nth q 3)) (atI (nth q 4)) (atI (nth q 5)) (atI (nth q 6)) (atI (nth q 7)) (atI (nth q 8)) (atC (nth q 9))⟩]) (tabJ []) 43 (fTs ti_ref01_Digits [.i a0, .i a1]).1 = (
  L_ref01_Digits_0 F (fun (v506 : Int) (v507 : Int) (v508 : Nat) (v509 : Int) (v510 : Int) (v511 : Int) (v512 : Int) (v513 : List VV) =>
    L_ref01_Digits_1 F (fun (v532 : Int) (v533 : Int) (v534 : Nat) (v535 : Int) (v536 : Int) (v537 : Int) (v538 : Int) (v539 : Int) (v540 : Int) (v541 : List VV) =>
      some (.fs v541 0 v534 1)) F v506 v507 v508 v509 v510 ((IntKind.wrap .u64 v511)) 0 v511 v512 v513) F a0 a1 0 a1 0 a0 a1 [] : R) := by
    intros
    kernel_rfl
  exact (h L_ref01_Digits_0 L_ref01_Digits_1).trans (by kernel_rfl)
def ok_ref01_Digits (F : Nat) (a0 : Int) (a1 : Int) : Bool := okT to_ref01_Digits (f_ref01_Digits F a0 a1)
def o_ref01_Digits_0 (F : Nat) (a0 : Int) (a1 : Int) : List VV := atC (nth (outT to_ref01_Digits (f_ref01_Digits F a0 a1)) 0)
def o_ref01_Digits_1 (F : Nat) (a0 : Int) (a1 : Int) : Nat := atN (nth (outT to_ref01_Digits (f_ref01_Digits F a0 a1)) 1)
theorem k_ref01_Digits (F : Nat) (a0 : Int) (a1 : Int) {z0 : List VV} {z1 : Nat} (h : f_ref01_Digits F a0 a1 = some (.fs z0 0 z1 1)) : ok_ref01_Digits F a0 a1 = true ∧ o_ref01_Digits_0 F a0 a1 = z0 ∧ o_ref01_Digits_1 F a0 a1 = z1 := by
  refine ⟨?_, ?_, ?_⟩
  · unfold ok_ref01_Digits; rw [h]; kernel_rfl
  · unfold o_ref01_Digits_0; rw [h]; kernel_rfl
  · unfold o_ref01_Digits_1; rw [h]; kernel_rfl
def s_ref01_Digits (F : Nat) : List VV → Option (Bool × VV) := spec ti_ref01_Digits to_ref01_Digits (fun q => (ok_ref01_Digits F (atI (nth q 0)) (atI (nth q 1)))) (fun q => [.c (o_ref01_Digits_0 F (atI (nth q 0)) (atI (nth q 1))), .n (o_ref01_Digits_1 F (atI (nth q 0)) (atI (nth q 1)))])
theorem hS_ref01_Digits (F : Nat) : ∀ f, Good PP f (unS (S_ref01_Digits F f)) := words_good fun p hp => by
  cases hp
theorem hl_ref01_Digits (F : Nat) : ∀ p ∈ loopsIn PP 43, LoopOK PP (S_ref01_Digits F) c_ref01_Digits F (I_ref01_Digits F) (J_ref01_Digits F) p :=
  loops_of [(0, loopAt PP 43 0), (2, loopAt PP 43 1)] (by kernel_rfl) (all_cons
    (loop_ok (W_ref01_Digits F) rfl (tab_cons (fun _ k q => Le.ofEq ((lL_ref01_Digits_0 F k F (atI (nth q 0)) (atI (nth q 1)) (atN (nth q 2)) (atI (nth q 3)) (atI (nth q 4)) (atI (nth q 5)) (atI (nth q 6)) (atC (nth q 7))).symm.trans (congrArg (iterC (codeL PP (S_ref01_Digits F) c_ref01_Digits (I_ref01_Digits F) (J_ref01_Digits F) (loopAt PP 43 0) 0) (headOf c_ref01_Digits 0) k F) (show fS T_ref01_Digits_0 [.i (atI (nth q 0)), .i (atI (nth q 1)), .n (atN (nth q 2)), .i (atI (nth q 3)), .i (atI (nth q 4)), .i (atI (nth q 5)), .i (atI (nth q 6)), .c (atC (nth q 7))] = fS T_ref01_Digits_0 q by kernel_rfl)))) (tab_cons (fun h => absurd h (by decide)) tab_nil))) (all_cons
    (loop_ok (W_ref01_Digits F) rfl (tab_cons (fun h => absurd h (by decide)) (tab_cons (fun _ k q => Le.ofEq ((lL_ref01_Digits_1 F k F (atI (nth q 0)) (atI (nth q 1)) (atN (nth q 2)) (atI (nth q 3)) (atI (nth q 4)) (atI (nth q 5)) (atI (nth q 6)) (atI (nth q 7)) (atI (nth q 8)) (atC (nth q 9))).symm.trans (congrArg (iterC (codeL PP (S_ref01_Digits F) c_ref01_Digits (I_ref01_Digits F) (J_ref01_Digits F) (loopAt PP 43 1) 2) (headOf c_ref01_Digits 2) k F) (show fS T_ref01_Digits_1 [.i (atI (nth q 0)), .i (atI (nth q 1)), .n (atN (nth q 2)), .i (atI (nth q 3)), .i (atI (nth q 4)), .i (atI (nth q 5)), .i (atI (nth q 6)), .i (atI (nth q 7)), .i (atI (nth q 8)), .c (atC (nth q 9))] = fS T_ref01_Digits_1 q by kernel_rfl)))) tab_nil))) all_nil))
theorem hj_ref01_Digits (F : Nat) : ∀ p ∈ joinsIn PP c_ref01_Digits 43, JoinOK PP (S_ref01_Digits F) c_ref01_Digits (I_ref01_Digits F) (J_ref01_Digits F) p :=
  joins_of [] (by kernel_rfl) all_nil
theorem g_ref01_Digits (F : Nat) : Good PP 43 (unS (s_ref01_Digits F)) :=
  fun_spec (hS_ref01_Digits F) (by kernel_rfl) (by kernel_rfl) (C := c_ref01_Digits) (F := fun q => (f_ref01_Digits F (atI (nth q 0)) (atI (nth q 1)))) (fun _ => F) (fun _ => I_ref01_Digits F) (fun _ => J_ref01_Digits F) (fun _ => hl_ref01_Digits F) (fun _ => hj_ref01_Digits F)
    (fun q => (congrArg (funL PP (S_ref01_Digits F) c_ref01_Digits (I_ref01_Digits F) (J_ref01_Digits F) 43) (show (fTs ti_ref01_Digits q).1 = (fTs ti_ref01_Digits [.i (atI (nth q 0)), .i (atI (nth q 1))]).1 by kernel_rfl)).trans (e_ref01_Digits F (atI (nth q 0)) (atI (nth q 1))))
    (fun _ h => okT_fill' h (by kernel_rfl))

end Go.Xv
set_option linter.unusedVariables false
namespace Go.Xv
/- 44 _ref01_Number -/
def c_ref01_Number : Cfg := ⟨[0, 2, 3, 4, 5, 6, 7, 15, 36], [(0, [0, 2, 3, 4, 5, 6, 7, 29, 30, 31, 32, 33, 34, 35, 36, 37, 38, 39, 40, 41, 42, 43, 44, 45, 46, 47, 48, 49, 50, 51, 52, 53]), (2, [0, 2, 3, 4, 5, 6, 7, 8, 9, 10, 11, 12, 13, 14, 15, 16, 17, 18, 19, 20, 21, 22, 23, 24, 25, 26, 27, 28, 50, 51, 52, 53])], [], []⟩
def ti_ref01_Number : List TV := [.fs (.lit 0) .hole 1]
def to_ref01_Number : TV := .v (.agg [.int .i64, .int .u64])
def S_ref01_Number (F : Nat) : FuncId → List VV → Option (Bool × VV) := words []
def T_ref01_Number_0 : TS := ⟨[(0, .fs (.lit 0) .hole 1), (2, .lp 0 (.lit 0)), (3, .v (.int .u64)), (4, .v (.int .u64)), (5, .v (.int .u64)), (6, .v (.int .i64))], [(0, ⟨(.ex [.v (.int .i64), .v (.int .u64)]), true⟩)], 1⟩
def T_ref01_Number_0_0 : TS := ⟨[(0, .fs (.lit 0) .hole 1), (2, .lp 0 (.lit 0)), (3, .v (.int .u64)), (4, .v (.int .u64)), (5, .v (.int .u64)), (6, .v (.int .i64))], [(0, ⟨(.ex [.v (.int .i64), .v (.int .u64)]), true⟩)], 1⟩
def B_ref01_Number_0 (F : Nat) (rc : List VV → Nat → Int → Int → Int → Int → Int → Int → R) (ex0 : List VV → Nat → Int → Int → Int → Int → Int → Int → R) (x0 : List VV) (x1 : Nat) (x2 : Int) (x3 : Int) (x4 : Int) (x5 : Int) (x6 : Int) (x7 : Int) : R :=
  bif ((decide (x5 < 64))) then (
    bif ((decide (x5 < (((x1 : Nat) : Int))))) then (
      bif ((decide (0 ≤ x5)) && (decide (x5 < ((x1 : Nat) : Int)))) then (
        let v622 : Nat := (0 + ((Int.toNat x5) * 1))
        bif ((isI .i64 x0[v622]?) && true) then (
          rc x0 x1 ((IntKind.wrap .u64 (x2 + ((IntKind.wrap .u64 (((IntKind.wrap .u64 ((iv x0[v622]?)))) * x4)))))) x3 ((IntKind.wrap .u64 (2 * x4))) ((IntKind.wrap .i64 (x5 + 1))) x6 x7)
        else (
          none))
      else (
        none))
    else (
      ex0 x0 x1 x2 x3 x4 x5 x6 x7))
  else (
    ex0 x0 x1 x2 x3 x4 x5 x6 x7)
def L_ref01_Number_0 (F : Nat) (ex0 : List VV → Nat → Int → Int → Int → Int → Int → Int → R) : Nat → List VV → Nat → Int → Int → Int → Int → Int → Int → R
  | 0, _, _, _, _, _, _, _, _ => none
  | n + 1, x0, x1, x2, x3, x4, x5, x6, x7 => B_ref01_Number_0 F (L_ref01_Number_0 F ex0 n) ex0 x0 x1 x2 x3 x4 x5 x6 x7
def T_ref01_Number_1 : TS := ⟨[(0, .fs (.lit 0) .hole 1), (2, .lp 0 (.lit 0)), (3, .v (.int .u64)), (4, .v (.int .u64)), (5, .v (.int .u64)), (6, .v (.int .i64)), (7, .v (.int .i64))], [(0, ⟨(.ex [.v (.int .i64), .v (.int .u64)]), true⟩)], 1⟩
def T_ref01_Number_1_0 : TS := ⟨[(0, .fs (.lit 0) .hole 1), (2, .lp 0 (.lit 0)), (3, .v (.int .u64)), (4, .v (.int .u64)), (5, .v (.int .u64)), (6, .v (.int .i64)), (7, .v (.int .i64))], [(0, ⟨(.ex [.v (.int .i64), .v (.int .u64)]), true⟩)], 1⟩
def B_ref01_Number_1 (F : Nat) (rc : List VV → Nat → Int → Int → Int → Int → Int → Int → Int → R) (ex0 : List VV → Nat → Int → Int → Int → Int → Int → Int → Int → R) (x0 : List VV) (x1 : Nat) (x2 : Int) (x3 : Int) (x4 : Int) (x5 : Int) (x6 : Int) (x7 : Int) (x8 : Int) : R :=
  bif ((decide (x6 < 128))) then (
    bif ((decide (x6 < (((x1 : Nat) : Int))))) then (
      bif ((decide (0 ≤ x6)) && (decide (x6 < ((x1 : Nat) : Int)))) then (
        let v649 : Nat := (0 + ((Int.toNat x6) * 1))
        bif ((isI .i64 x0[v649]?) && true) then (
          rc x0 x1 x2 ((IntKind.wrap .u64 (x3 + ((IntKind.wrap .u64 (((IntKind.wrap .u64 ((iv x0[v649]?)))) * x4)))))) ((IntKind.wrap .u64 (2 * x4))) x5 ((IntKind.wrap .i64 (x6 + 1))) x7 x8)
        else (
          none))
      else (
        none))
    else (
      ex0 x0 x1 x2 x3 x4 x5 x6 x7 x8))
  else (
    ex0 x0 x1 x2 x3 x4 x5 x6 x7 x8)
def L_ref01_Number_1 (F : Nat) (ex0 : List VV → Nat → Int → Int → Int → Int → Int → Int → Int → R) : Nat → List VV → Nat → Int → Int → Int → Int → Int → Int → Int → R
  | 0, _, _, _, _, _, _, _, _, _ => none
  | n + 1, x0, x1, x2, x3, x4, x5, x6, x7, x8 => B_ref01_Number_1 F (L_ref01_Number_1 F ex0 n) ex0 x0 x1 x2 x3 x4 x5 x6 x7 x8
def W_ref01_Number (F : Nat) : List LW := [⟨0, T_ref01_Number_0, fun k q => L_ref01_Number_0 F (fun (z0 : List VV) (z1 : Nat) (z2 : Int) (z3 : Int) (z4 : Int) (z5 : Int) (z6 : Int) (z7 : Int) => k (.exit 0) (fS T_ref01_Number_0_0 [.c z0, .n z1, .i z2, .i z3, .i z4, .i z5, .i z6, .i z7])) F (atC (nth q 0)) (atN (nth q 1)) (atI (nth q 2)) (atI (nth q 3)) (atI (nth q 4)) (atI (nth q 5)) (atI (nth q 6)) (atI (nth q 7))⟩, ⟨2, T_ref01_Number_1, fun k q => L_ref01_Number_1 F (fun (z0 : List VV) (z1 : Nat) (z2 : Int) (z3 : Int) (z4 : Int) (z5 : Int) (z6 : Int) (z7 : Int) (z8 : Int) => k (.exit 2) (fS T_ref01_Number_1_0 [.c z0, .n z1, .i z2, .i z3, .i z4, .i z5, .i z6, .i z7, .i z8])) F (atC (nth q 0)) (atN (nth q 1)) (atI (nth q 2)) (atI (nth q 3)) (atI (nth q 4)) (atI (nth q 5)) (atI (nth q 6)) (atI (nth q 7)) (atI (nth q 8))⟩]
def I_ref01_Number (F : Nat) : Nat → VS → (Exit → VS → R) → R := tabI c_ref01_Number (W_ref01_Number F)
def WJ_ref01_Number (F : Nat) : List LJ := []
def J_ref01_Number (F : Nat) : Nat → Nat → VS → (Exit → VS → R) → R := tabJ (WJ_ref01_Number F)
theorem lL_ref01_Number_0 (F : Nat) (k : Exit → VS → R) : ∀ (n : Nat) (x0 : List VV) (x1 : Nat) (x2 : Int) (x3 : Int) (x4 : Int) (x5 : Int) (x6 : Int) (x7 : Int), iterC (codeL PP (S_ref01_Number F) c_ref01_Number (I_ref01_Number F) (J_ref01_Number F) (loopAt PP 44 0) 0) (headOf c_ref01_Number 0) k n (fS T_ref01_Number_0 [.c x0, .n x1, .i x2, .i x3, .i x4, .i x5, .i x6, .i x7]) = L_ref01_Number_0 F (fun (z0 : List VV) (z1 : Nat) (z2 : Int) (z3 : Int) (z4 : Int) (z5 : Int) (z6 : Int) (z7 : Int) => k (.exit 0) (fS T_ref01_Number_0_0 [.c z0, .n z1, .i z2, .i z3, .i z4, .i z5, .i z6, .i z7])) n x0 x1 x2 x3 x4 x5 x6 x7
  | 0, _, _, _, _, _, _, _, _ => rfl
  | n + 1, x0, x1, x2, x3, x4, x5, x6, x7 => by
    have h0 : ∀ (L_ref01_Number_0 : Nat → (List VV → Nat → Int → Int → Int → Int → Int → Int → R) → Nat → List VV → Nat → Int → Int → Int → Int → Int → Int → R) (L_ref01_Number_1 : Nat → (List VV → Nat → Int → Int → Int → Int → Int → Int → Int → R) → Nat → List VV → Nat → Int → Int → Int → Int → Int → Int → Int → R), iterC (codeL PP (words []) c_ref01_Number (tabI c_ref01_Number [⟨0, T_ref01_Number_0, fun k q => L_ref01_Number_0 F (fun (z0 : List VV) (z1 : Nat) (z2 : Int) (z3 : Int) (z4 : Int) (z5 : Int) (z6 : Int) (z7 : Int) => k (.exit 0) (fS T_ref01_Number_0_0 [.c z0, .n z1, .i z2, .i z3, .i z4, .i z5, .i z6, .i z7])) F (atC (nth q 0)) (atN (nth q 1)) (atI (nth q 2)) (atI (nth q 3)) (atI (nth q 4)) (atI (nth q 5)) (atI (nth q 6)) (atI (nth q 7))⟩, ⟨2, T_ref01_Number_1, fun k q => L_ref01_Number_1 F (fun (z0 : List VV) (z1 : Nat) (z2 : Int) (z3 : Int) (z4 : Int) (z5 : Int) (z6 : Int) (z7 : Int) (z8 : Int) => k (.exit 2) (fS T_ref01_Number_1_0 [.c z0, .n z1, .i z2, .i z3, .i z4, .i z5, .i z6, .i z7, .i z8])) F (atC (nth q 0)) (atN (nth q 1)) (atI (nth q 2)) (atI (nth q 3)) (atI (nth q 4)) (atI (nth q 5)) (atI (nth q 6)) (atI (nth q 7)) (atI (nth q 8))⟩]) (tabJ []) (loopAt PP 44 0) 0) (headOf c_ref01_Number 0) k (n + 1) (fS T_ref01_Number_0 [.c x0, .n x1, .i x2, .i x3, .i x4, .i x5, .i x6, .i x7]) = (fun (rc : List VV → Nat → Int → Int → Int → Int → Int → Int → R) (ex0 : List VV → Nat → Int → Int → Int → Int → Int → Int → R) (x0 : List VV) (x1 : Nat) (x2 : Int) (x3 : Int) (x4 : Int) (x5 : Int) (x6 : Int) (x7 : Int) => (
  bif ((decide (x5 < 64))) then (
    bif ((decide (x5 < (((x1 : Nat) : Int))))) then (
      bif ((decide (0 ≤ x5)) && (decide (x5 < ((x1 : Nat) : Int)))) then (
        let v622 : Nat := (0 + ((Int.toNat x5) * 1))
        bif ((isI .i64 x0[v622]?) && true) then (
          rc x0 x1 ((IntKind.wrap .u64 (x2 + ((IntKind.wrap .u64 (((IntKind.wrap .u64 ((iv x0[v622]?)))) * x4)))))) x3 ((IntKind.wrap .u64 (2 * x4))) ((IntKind.wrap .i64 (x5 + 1))) x6 x7)
        else (
          none))
      else (
        none))
    else (
      ex0 x0 x1 x2 x3 x4 x5 x6 x7))
  else (
    ex0 x0 x1 x2 x3 x4 x5 x6 x7) : R)) (fun (y0 : List VV) (y1 : Nat) (y2 : Int) (y3 : Int) (y4 : Int) (y5 : Int) (y6 : Int) (y7 : Int) => iterC (codeL PP (words []) c_ref01_Number (tabI c_ref01_Number [⟨0, T_ref01_Number_0, fun k q => L_ref01_Number_0 F (fun (z0 : List VV) (z1 : Nat) (z2 : Int) (z3 : Int) (z4 : Int) (z5 : Int) (z6 : Int) (z7 : Int) => k (.exit 0) (fS T_ref01_Number_0_0 [.c z0, .n z1, .i z2, .i z3, .i z4, .i z5, .i z6, .i z7])) F (atC (nth q 0)) (atN (nth q 1)) (atI (nth q 2)) (atI (nth q 3)) (atI (nth q 4)) (atI (nth q 5)) (atI (nth q 6)) (atI (nth q 7))⟩, ⟨2, T_ref01_Number_1, fun k q => L_ref01_Number_1 F (fun (z0 : List VV) (z1 : Nat) (z2 : Int) (z3 : Int) (z4 : Int) (z5 : Int) (z6 : Int) (z7 : Int) (z8 : Int) => k (.exit 2) (fS T_ref01_Number_1_0 [.c z0, .n z1, .i z2, .i z3, .i z4, .i z5, .i z6, .i z7, .i z8])) F (atC (nth q 0)) (atN (nth q 1)) (atI (nth q 2)) (atI (nth q 3)) (atI (nth q 4)) (atI (nth q 5)) (atI (nth q 6)) (atI (nth q 7)) (atI (nth q 8))⟩]) (tabJ []) (loopAt PP 44 0) 0) (headOf c_ref01_Number 0) k n (fS T_ref01_Number_0 [.c y0, .n y1, .i y2, .i y3, .i y4, .i y5, .i y6, .i y7])) (fun (z0 : List VV) (z1 : Nat) (z2 : Int) (z3 : Int) (z4 : Int) (z5 : Int) (z6 : Int) (z7 : Int) => k (.exit 0) (fS T_ref01_Number_0_0 [.c z0, .n z1, .i z2, .i z3, .i z4, .i z5, .i z6, .i z7])) x0 x1 x2 x3 x4 x5 x6 x7 := by
      intros
      kernel_rfl
    have h : iterC (codeL PP (S_ref01_Number F) c_ref01_Number (I_ref01_Number F) (J_ref01_Number F) (loopAt PP 44 0) 0) (headOf c_ref01_Number 0) k (n + 1) (fS T_ref01_Number_0 [.c x0, .n x1, .i x2, .i x3, .i x4, .i x5, .i x6, .i x7]) = B_ref01_Number_0 F (fun (y0 : List VV) (y1 : Nat) (y2 : Int) (y3 : Int) (y4 : Int) (y5 : Int) (y6 : Int) (y7 : Int) => iterC (codeL PP (S_ref01_Number F) c_ref01_Number (I_ref01_Number F) (J_ref01_Number F) (loopAt PP 44 0) 0) (headOf c_ref01_Number 0) k n (fS T_ref01_Number_0 [.c y0, .n y1, .i y2, .i y3, .i y4, .i y5, .i y6, .i y7])) (fun (z0 : List VV) (z1 : Nat) (z2 : Int) (z3 : Int) (z4 : Int) (z5 : Int) (z6 : Int) (z7 : Int) => k (.exit 0) (fS T_ref01_Number_0_0 [.c z0, .n z1, .i z2, .i z3, .i z4, .i z5, .i z6, .i z7])) x0 x1 x2 x3 x4 x5 x6 x7 := (h0 L_ref01_Number_0 L_ref01_Number_1).trans (by kernel_rfl)
    rw [h]
    simp only [lL_ref01_Number_0 F k n]
    rfl
theorem lL_ref01_Number_1 (F : Nat) (k : Exit → VS → R) : ∀ (n : Nat) (x0 : List VV) (x1 : Nat) (x2 : Int) (x3 : Int) (x4 : Int) (x5 : Int) (x6 : Int) (x7 : Int) (x8 : Int), iterC (codeL PP (S_ref01_Number F) c_ref01_Number (I_ref01_Number F) (J_ref01_Number F) (loopAt PP 44 1) 2) (headOf c_ref01_Number 2) k n (fS T_ref01_Number_1 [.c x0, .n x1, .i x2, .i x3, .i x4, .i x5, .i x6, .i x7, .i x8]) = L_ref01_Number_1 F (fun (z0 : List VV) (z1 : Nat) (z2 : Int) (z3 : Int) (z4 : Int) (z5 : Int) (z6 : Int) (z7 : Int) (z8 : Int) => k (.exit 2) (fS T_ref01_Number_1_0 [.c z0, .n z1, .i z2, .i z3, .i z4, .i z5, .i z6, .i z7, .i z8])) n x0 x1 x2 x3 x4 x5 x6 x7 x8
  | 0, _, _, _, _, _, _, _, _, _ => rfl
  | n + 1, x0, x1, x2, x3, x4, x5, x6, x7, x8 => by
    have h0 : ∀ (L_ref01_Number_0 : Nat → (List VV → Nat → Int → Int → Int → Int → Int → Int → R) → Nat → List VV → Nat → Int → Int → Int → Int → Int → Int → R) (L_ref01_Number_1 : Nat → (List VV → Nat → Int → Int → Int → Int → Int → Int → Int → R) → Nat → List VV → Nat → Int → Int → Int → Int → Int → Int → Int → R), iterC (codeL PP (words []) c_ref01_Number (tabI c_ref01_Number [⟨0, T_ref01_Number_0, fun k q => L_ref01_Number_0 F (fun (z0 : List VV) (z1 : Nat) (z2 : Int) (z3 : Int) (z4 : Int) (z5 : Int) (z6 : Int) (z7 : Int) => k (.exit 0) (fS T_ref01_Number_0_0 [.c z0, .n z1, .i z2, .i z3, .i z4, .i z5, .i z6, .i z7])) F (atC (nth q 0)) (atN (nth q 1)) (atI (nth q 2)) (atI (nth q 3)) (atI (nth q 4)) (atI (nth q 5)) (atI (nth q 6)) (atI (nth q 7))⟩, ⟨2, T_ref01_Number_1, fun k q => L_ref01_Number_1 F (fun (z0 : List VV) (z1 : Nat) (z2 : Int) (z3 : Int) (z4 : Int) (z5 : Int) (z6 : Int) (z7 : Int) (z8 : Int) => k (.exit 2) (fS T_ref01_Number_1_0 [.c z0, .n z1, .i z2, .i z3, .i z4, .i z5, .i z6, .i z7, .i z8])) F (atC (nth q 0)) (atN (nth q 1)) (atI (nth q 2)) (atI (nth q 3)) (atI (nth q 4)) (atI (nth q 5)) (atI (nth q 6)) (atI (nth q 7)) (atI (nth q 8))⟩]) (tabJ []) (loopAt PP 44 1) 2) (headOf c_ref01_Number 2) k (n + 1) (fS T_ref01_Number_1 [.c x0, .n x1, .i x2, .i x3, .i x4, .i x5, .i x6, .i x7, .i x8]) = (fun (rc : List VV → Nat → Int → Int → Int → Int → Int → Int → Int → R) (ex0 : List VV → Nat → Int → Int → Int → Int → Int → Int → Int → R) (x0 : List VV) (x1 : Nat) (x2 : Int) (x3 : Int) (x4 : Int) (x5 : Int) (x6 : Int) (x7 : Int) (x8 : Int) => (
  bif ((decide (x6 < 128))) then (
    bif ((decide (x6 < (((x1 : Nat) : Int))))) then (
      bif ((decide (0 ≤ x6)) && (decide (x6 < ((x1 : Nat) : Int)))) then (
        let v649 : Nat := (0 + ((Int.toNat x6) * 1))
        bif ((isI .i64 x0[v649]?) && true) then (
          rc x0 x1 x2 ((IntKind.wrap .u64 (x3 + ((IntKind.wrap .u64 (((IntKind.wrap .u64 ((iv x0[v649]?)))) * x4)))))) ((IntKind.wrap .u64 (2 * x4))) x5 ((IntKind.wrap .i64 (x6 + 1))) x7 x8)
        else (
          none))
      else (
        none))
    else (
      ex0 x0 x1 x2 x3 x4 x5 x6 x7 x8))
  else (
    ex0 x0 x1 x2 x3 x4 x5 x6 x7 x8) : R)) (fun (y0 : List VV) (y1 : Nat) (y2 : Int) (y3 : Int) (y4 : Int) (y5 : Int) (y6 : Int) (y7 : Int) (y8 : Int) => iterC (codeL PP (words []) c_ref01_Number (tabI c_ref01_Number [⟨0, T_ref01_Number_0, fun k q => L_ref01_Number_0 F (fun (z0 : List VV) (z1 : Nat) (z2 : Int) (z3 : Int) (z4 : Int) (z5 : Int) (z6 : Int) (z7 : Int) => k (.exit 0) (fS T_ref01_Number_0_0 [.c z0, .n z1, .i z2, .i z3, .i z4, .i z5, .i z6, .i z7])) F (atC (nth q 0)) (atN (nth q 1)) (atI (nth q 2)) (atI (nth q 3)) (atI (nth q 4)) (atI (nth q 5)) (atI (nth q 6)) (atI (nth q 7))⟩, ⟨2, T_ref01_Number_1, fun k q => L_ref01_Number_1 F (fun (z0 : List VV) (z1 : Nat) (z2 : Int) (z3 : Int) (z4 : Int) (z5 : Int) (z6 : Int) (z7 : Int) (z8 : Int) => k (.exit 2) (fS T_ref01_Number_1_0 [.c z0, .n z1, .i z2, .i z3, .i z4, .i z5, .i z6, .i z7, .i z8])) F (atC (nth q 0)) (atN (nth q 1)) (atI (nth q 2)) (atI (nth q 3)) (atI (nth q 4)) (atI (nth q 5)) (atI (nth q 6)) (atI (nth q 7)) (atI (nth q 8))⟩]) (tabJ []) (loopAt PP 44 1) 2) (headOf c_ref01_Number 2) k n (fS T_ref01_Number_1 [.c y0, .n y1, .i y2, .i y3, .i y4, .i y5, .i y6, .i y7, .i y8])) (fun (z0 : List VV) (z1 : Nat) (z2 : Int) (z3 : Int) (z4 : Int) (z5 : Int) (z6 : Int) (z7 : Int) (z8 : Int) => k (.exit 2) (fS T_ref01_Number_1_0 [.c z0, .n z1, .i z2, .i z3, .i z4, .i z5, .i z6, .i z7, .i z8])) x0 x1 x2 x3 x4 x5 x6 x7 x8 := by
      intros
      kernel_rfl
    have h : iterC (codeL PP (S_ref01_Number F) c_ref01_Number (I_ref01_Number F) (J_ref01_Number F) (loopAt PP 44 1) 2) (headOf c_ref01_Number 2) k (n + 1) (fS T_ref01_Number_1 [.c x0, .n x1, .i x2, .i x3, .i x4, .i x5, .i x6, .i x7, .i x8]) = B_ref01_Number_1 F (fun (y0 : List VV) (y1 : Nat) (y2 : Int) (y3 : Int) (y4 : Int) (y5 : Int) (y6 : Int) (y7 : Int) (y8 : Int) => iterC (codeL PP (S_ref01_Number F) c_ref01_Number (I_ref01_Number F) (J_ref01_Number F) (loopAt PP 44 1) 2) (headOf c_ref01_Number 2) k n (fS T_ref01_Number_1 [.c y0, .n y1, .i y2, .i y3, .i y4, .i y5, .i y6, .i y7, .i y8])) (fun (z0 : List VV) (z1 : Nat) (z2 : Int) (z3 : Int) (z4 : Int) (z5 : Int) (z6 : Int) (z7 : Int) (z8 : Int) => k (.exit 2) (fS T_ref01_Number_1_0 [.c z0, .n z1, .i z2, .i z3, .i z4, .i z5, .i z6, .i z7, .i z8])) x0 x1 x2 x3 x4 x5 x6 x7 x8 := (h0 L_ref01_Number_0 L_ref01_Number_1).trans (by kernel_rfl)
    rw [h]
    simp only [lL_ref01_Number_1 F k n]
    rfl
def f_ref01_Number (F : Nat) (a0 : List VV) (a1 : Nat) : R :=
  L_ref01_Number_0 F (fun (v629 : List VV) (v630 : Nat) (v631 : Int) (v632 : Int) (v633 : Int) (v634 : Int) (v635 : Int) (v636 : Int) =>
    L_ref01_Number_1 F (fun (v656 : List VV) (v657 : Nat) (v658 : Int) (v659 : Int) (v660 : Int) (v661 : Int) (v662 : Int) (v663 : Int) (v664 : Int) =>
      some (.v (.agg #[.int .i64 ((IntKind.wrap .i64 v659)), .int .u64 v658]))) F v629 v630 v631 v632 1 v634 64 v635 v636) F a0 a1 0 0 1 0 0 0
theorem e_ref01_Number (F : Nat) (a0 : List VV) (a1 : Nat) : funL PP (S_ref01_Number F) c_ref01_Number (I_ref01_Number F) (J_ref01_Number F) 44 (fTs ti_ref01_Number [.c a0, .n a1]).1 = f_ref01_Number F a0 a1 := by
  have h : ∀ (L_ref01_Number_0 : Nat → (List VV → Nat → Int → Int → Int → Int → Int → Int → R) → Nat → List VV → Nat → Int → Int → Int → Int → Int → Int → R) (L_ref01_Number_1 : Nat → (List VV → Nat → Int → Int → Int → Int → Int → Int → Int → R) → Nat → List VV → Nat → Int → Int → Int → Int → Int → Int → Int → R), funL PP (words []) c_ref01_Number (tabI c_ref01_Number [⟨0, T_ref01_Number_0, fun k q => L_ref01_Number_0 F (fun (z0 : List VV) (z1 : Nat) (z2 : Int) (z3 : Int) (z4 : Int) (z5 : Int) (z6 : Int) (z7 : Int) => k (.exit 0) (fS T_ref01_Number_0_0 [.c z0, .n z1, .i z2, .i z3, .i z4, .i z5, .i z6, .i z7])) F (atC (nth q 0)) (atN (nth q 1)) (atI (nth q 2)) (atI (nth q 3)) (atI (nth q 4)) (atI (nth q 5)) (atI (nth q 6)) (atI (nth q 7))⟩, ⟨2, T_ref01_Number_1, fun k q => L_ref01_Number_1 F (fun (z0 : List VV) (z1 : Nat) (z2 : Int) (z3 : Int) (z4 : Int) (z5 : Int) (z6 : Int) (z7 : Int) (z8 : Int) => k (.exit 2) (fS T_ref01_Number_1_0 [.c z0, .n z1, .i z2, .i z3, .i z4, .i z5, .i z6, .i z7, .i z8])) F (atC (nth q 0)) (atN (nth q 1)) (atI (nth q 2)) (atI (nth q 3)) (atI (nth q 4)) (atI (nth q 5)) (atI (nth q 6)) (atI (nth q 7)) (atI (nth q 8))⟩]) (tabJ []) 44 (fTs ti_ref01_Number [.c a0, .n a1]).1 = (
  L_ref01_Number_0 F (fun (v629 : List VV) (v630 : Nat) (v631 : Int) (v632 : Int) (v633 : Int) (v634 : Int) (v635 : Int) (v636 : Int) =>
    L_ref01_Number_1 F (fun (v656 : List VV) (v657 : Nat) (v658 : Int) (v659 : Int) (v660 : Int) (v661 : Int) (v662 : Int) (v663 : Int) (v664 : Int) =>
      some (.v (.agg #[.int .i64 ((IntKind.wrap .i64 v659)), .int .u64 v658]))) F v629 v630 v631 v632 1 v634 64 v635 v636) F a0 a1 0 0 1 0 0 0 : R) := by
    intros
    kernel_rfl
  exact (h L_ref01_Number_0 L_ref01_Number_1).trans (by kernel_rfl)
def ok_ref01_Number (F : Nat) (a0 : List VV) (a1 : Nat) : Bool := okT to_ref01_Number (f_ref01_Number F a0 a1)
def o_ref01_Number_0 (F : Nat) (a0 : List VV) (a1 : Nat) : Int := atI (nth (outT to_ref01_Number (f_ref01_Number F a0 a1)) 0)
def o_ref01_Number_1 (F : Nat) (a0 : List VV) (a1 : Nat) : Int := atI (nth (outT to_ref01_Number (f_ref01_Number F a0 a1)) 1)
theorem k_ref01_Number (F : Nat) (a0 : List VV) (a1 : Nat) {z0 : Int} {z1 : Int} (h : f_ref01_Number F a0 a1 = some (.v (.agg #[.int .i64 z0, .int .u64 z1]))) : ok_ref01_Number F a0 a1 = true ∧ o_ref01_Number_0 F a0 a1 = z0 ∧ o_ref01_Number_1 F a0 a1 = z1 := by
  refine ⟨?_, ?_, ?_⟩
  · unfold ok_ref01_Number; rw [h]; kernel_rfl
  · unfold o_ref01_Number_0; rw [h]; kernel_rfl
  · unfold o_ref01_Number_1; rw [h]; kernel_rfl
def s_ref01_Number (F : Nat) : List VV → Option (Bool × VV) := spec ti_ref01_Number to_ref01_Number (fun q => (ok_ref01_Number F (atC (nth q 0)) (atN (nth q 1)))) (fun q => [.i (o_ref01_Number_0 F (atC (nth q 0)) (atN (nth q 1))), .i (o_ref01_Number_1 F (atC (nth q 0)) (atN (nth q 1)))])
theorem hS_ref01_Number (F : Nat) : ∀ f, Good PP f (unS (S_ref01_Number F f)) := words_good fun p hp => by
  cases hp
theorem hl_ref01_Number (F : Nat) : ∀ p ∈ loopsIn PP 44, LoopOK PP (S_ref01_Number F) c_ref01_Number F (I_ref01_Number F) (J_ref01_Number F) p :=
  loops_of [(0, loopAt PP 44 0), (2, loopAt PP 44 1)] (by kernel_rfl) (all_cons
    (loop_ok (W_ref01_Number F) rfl (tab_cons (fun _ k q => Le.ofEq ((lL_ref01_Number_0 F k F (atC (nth q 0)) (atN (nth q 1)) (atI (nth q 2)) (atI (nth q 3)) (atI (nth q 4)) (atI (nth q 5)) (atI (nth q 6)) (atI (nth q 7))).symm.trans (congrArg (iterC (codeL PP (S_ref01_Number F) c_ref01_Number (I_ref01_Number F) (J_ref01_Number F) (loopAt PP 44 0) 0) (headOf c_ref01_Number 0) k F) (show fS T_ref01_Number_0 [.c (atC (nth q 0)), .n (atN (nth q 1)), .i (atI (nth q 2)), .i (atI (nth q 3)), .i (atI (nth q 4)), .i (atI (nth q 5)), .i (atI (nth q 6)), .i (atI (nth q 7))] = fS T_ref01_Number_0 q by kernel_rfl)))) (tab_cons (fun h => absurd h (by decide)) tab_nil))) (all_cons
    (loop_ok (W_ref01_Number F) rfl (tab_cons (fun h => absurd h (by decide)) (tab_cons (fun _ k q => Le.ofEq ((lL_ref01_Number_1 F k F (atC (nth q 0)) (atN (nth q 1)) (atI (nth q 2)) (atI (nth q 3)) (atI (nth q 4)) (atI (nth q 5)) (atI (nth q 6)) (atI (nth q 7)) (atI (nth q 8))).symm.trans (congrArg (iterC (codeL PP (S_ref01_Number F) c_ref01_Number (I_ref01_Number F) (J_ref01_Number F) (loopAt PP 44 1) 2) (headOf c_ref01_Number 2) k F) (show fS T_ref01_Number_1 [.c (atC (nth q 0)), .n (atN (nth q 1)), .i (atI (nth q 2)), .i (atI (nth q 3)), .i (atI (nth q 4)), .i (atI (nth q 5)), .i (atI (nth q 6)), .i (atI (nth q 7)), .i (atI (nth q 8))] = fS T_ref01_Number_1 q by kernel_rfl)))) tab_nil))) all_nil))
theorem hj_ref01_Number (F : Nat) : ∀ p ∈ joinsIn PP c_ref01_Number 44, JoinOK PP (S_ref01_Number F) c_ref01_Number (I_ref01_Number F) (J_ref01_Number F) p :=
  joins_of [] (by kernel_rfl) all_nil
theorem g_ref01_Number (F : Nat) : Good PP 44 (unS (s_ref01_Number F)) :=
  fun_spec (hS_ref01_Number F) (by kernel_rfl) (by kernel_rfl) (C := c_ref01_Number) (F := fun q => (f_ref01_Number F (atC (nth q 0)) (atN (nth q 1)))) (fun _ => F) (fun _ => I_ref01_Number F) (fun _ => J_ref01_Number F) (fun _ => hl_ref01_Number F) (fun _ => hj_ref01_Number F)
    (fun q => (congrArg (funL PP (S_ref01_Number F) c_ref01_Number (I_ref01_Number F) (J_ref01_Number F) 44) (show (fTs ti_ref01_Number q).1 = (fTs ti_ref01_Number [.c (atC (nth q 0)), .n (atN (nth q 1))]).1 by kernel_rfl)).trans (e_ref01_Number F (atC (nth q 0)) (atN (nth q 1))))
    (fun _ h => okT_fill' h (by kernel_rfl))

end Go.Xv
namespace Go.Xv
theorem lo_step (z : Int) (i : Nat) : IntKind.wrap .u64 (Int.tdiv (lo z / 2 ^ i) 2) = lo z / 2 ^ (i + 1) := by
  have h := lo_U z
  unfold U64 at h
  have h1 := Int.ediv_nonneg h.1 (Int.le_of_lt (p2pos i))
  have h2 := Int.ediv_le_self (2 ^ i) h.1
  rw [Int.tdiv_eq_ediv_of_nonneg h1, ediv2, wu64_in]
  have h3 := Int.ediv_nonneg h.1 (Int.le_of_lt (p2pos (i + 1)))
  have h4 := Int.ediv_le_self (2 ^ (i + 1)) h.1
  unfold U64; omega
theorem lo_bit (z : Int) {i : Nat} (h : i < 64) : IntKind.wrap .i64 (Int.tmod (lo z / 2 ^ i) 2) = dg z i := by
  have h0 := lo_U z
  unfold U64 at h0
  have h1 := Int.ediv_nonneg h0.1 (Int.le_of_lt (p2pos i))
  rw [Int.tmod_eq_emod_of_nonneg h1, dg_lo z h, wi64_in]
  have := dg_01 z i
  unfold I64; omega
theorem cap_ok (z : Int) (i : Nat) (h : i < 1000) : (((decide ((0 + (i * 1)) ≤ (ds z i).length)) && true) && (decide ((i + 1) * 9 ≤ bigger))) = true := by
  rw [ds_len, dt (by omega), dt (show (i + 1) * 9 ≤ bigger by unfold bigger; omega)]; rfl
theorem lp_Digits_0 (F : Nat) (ex) (z x0 x1 x5 x6 : Int) : ∀ (k n i : Nat) (x3 x4 : Int) (x7 : List VV), i + k = 64 → k < n → x3 = lo z / 2 ^ i → x4 = i → x7 = ds z i →
    L_ref01_Digits_0 F ex n x0 x1 i x3 x4 x5 x6 x7 = ex x0 x1 64 (lo z / 2 ^ 64) 64 x5 x6 (ds z 64)
  | _, 0, _, _, _, _, _, h, _, _, _ => absurd h (by omega)
  | 0, n + 1, i, _, _, _, h, _, rfl, rfl, rfl => by
    obtain rfl : i = 64 := by omega
    rw [L_ref01_Digits_0]
    unfold B_ref01_Digits_0
    exact bn (df (by omega)) rfl
  | k + 1, n + 1, i, _, _, _, h, hn, rfl, rfl, rfl => by
    rw [L_ref01_Digits_0]
    unfold B_ref01_Digits_0
    refine bp (dt (by omega)) (bp (cap_ok z _ (by omega)) ?_)
    refine lp_Digits_0 F ex z x0 x1 x5 x6 k n (i + 1) _ _ _ (by omega) (by omega) (lo_step z i) ?_ ?_
    · rw [wi64_in (by unfold I64; omega)]; push_cast; rfl
    · rw [ds_take, lo_bit z (by omega), ← ds_succ]
def up (z : Int) : Int := z / 18446744073709551616 % 18446744073709551616
theorem lp_Digits_1 (F : Nat) (ex) (z x0 x1 x3 x4 x7 x8 : Int) : ∀ (k n i j : Nat) (x5 x6 : Int) (x9 : List VV), i + k = 64 → j = 64 + i → k < n → x5 = up z / 2 ^ i → x6 = i → x9 = ds z j →
    L_ref01_Digits_1 F ex n x0 x1 j x3 x4 x5 x6 x7 x8 x9 = ex x0 x1 128 x3 x4 (up z / 2 ^ 64) 64 x7 x8 (ds z 128)
  | _, 0, _, _, _, _, _, _, _, h, _, _, _ => absurd h (by omega)
  | 0, n + 1, i, j, _, _, _, h, hj, _, rfl, rfl, rfl => by
    obtain rfl : i = 64 := by omega
    obtain rfl : j = 128 := by omega
    rw [L_ref01_Digits_1]
    unfold B_ref01_Digits_1
    exact bn (df (by omega)) rfl
  | k + 1, n + 1, i, j, _, _, _, h, hj, hn, rfl, rfl, rfl => by
    rw [L_ref01_Digits_1]
    unfold B_ref01_Digits_1
    refine bp (dt (by omega)) (bp (cap_ok z _ (by omega)) ?_)
    have e : up z = lo (z / 18446744073709551616) := rfl
    refine lp_Digits_1 F ex z x0 x1 x3 x4 x7 x8 k n (i + 1) (j + 1) _ _ _ (by omega) (by omega) (by omega) ?_ ?_ ?_
    · rw [e, lo_step]
    · rw [wi64_in (by unfold I64; omega)]; push_cast; rfl
    · rw [ds_take, e, lo_bit _ (by omega), ← dg_lo _ (by omega), ← e]
      unfold up
      rw [dg_hi z (by omega), ← hj, ← ds_succ]
theorem f_Digits (F : Nat) (hF : 200 ≤ F) {a b : Int} (hb : U64 b) : f_ref01_Digits F a b = some (.fs (ds (val a b) 128) 0 128 1) := by
  unfold f_ref01_Digits
  have hl := lo_val (h := a) hb
  rw [lp_Digits_0 F _ (val a b) a b a b 64 F 0 b 0 [] (by omega) (by omega) (by rw [hl]; simp) rfl rfl]
  rw [lp_Digits_1 F _ (val a b) a b _ _ _ _ 64 F 0 64 _ 0 _ (by omega) (by omega) (by omega) ?_ rfl rfl]
  rw [wu64]
  unfold up val
  unfold U64 at hb
  simp only [Int.pow_zero]
  omega

theorem num_iv (l : List VV) (i : Nat) (b : Int) (h : l[i]? = some (.v (.int .i64 b))) : isI .i64 l[i]? = true ∧ iv l[i]? = b := by
  rw [h]
  exact ⟨rfl, rfl⟩
theorem zmul (i : Nat) : (0 + ((Int.toNat (i : Int)) * 1)) = i := by simp
theorem lp_Number_0 (F : Nat) (ex) (z : Int) (l : List VV) (x1 : Nat) (x3 x6 x7 : Int) (h1 : 64 ≤ x1) (hl : ∀ i : Nat, i < 64 → l[i]? = some (.v (.int .i64 (dg z i)))) : ∀ (k n i : Nat) (x2 x4 x5 : Int), i + k = 64 → k < n → x2 = num z i → x4 = (2 ^ i) % 18446744073709551616 → x5 = i →
    L_ref01_Number_0 F ex n l x1 x2 x3 x4 x5 x6 x7 = ex l x1 (num z 64) x3 0 64 x6 x7
  | _, 0, _, _, _, _, _, h, _, _, _ => absurd h (by omega)
  | 0, n + 1, i, _, _, _, h, _, rfl, rfl, rfl => by
    obtain rfl : i = 64 := by omega
    rw [L_ref01_Number_0]
    unfold B_ref01_Number_0
    exact bn (df (by omega)) rfl
  | k + 1, n + 1, i, _, _, _, h, hn, rfl, rfl, rfl => by
    have hi : i < 64 := by omega
    obtain ⟨g1, g2⟩ := num_iv l i _ (hl i hi)
    have hd := dg_01 z i
    have hp := p2pos i
    have hp2 := p2_lt64 hi
    have hb := num_bd z i
    rw [L_ref01_Number_0]
    unfold B_ref01_Number_0
    refine bp (dt (by omega)) (bp (dt (by omega)) (bp (by simp; omega) (bp (by rw [zmul, g1]; rfl) ?_)))
    rw [zmul, g2, wu64_in (x := dg z i) (by unfold U64; omega)]
    refine lp_Number_0 F ex z l x1 x3 x6 x7 h1 hl k n (i + 1) _ _ _ (by omega) (by omega) ?_ ?_ ?_
    · rw [num_succ]
      generalize (2 : Int) ^ i = P at *
      rw [Int.emod_eq_of_lt (a := P) (by omega) (by omega)]
      have : 0 ≤ dg z i * P ∧ dg z i * P ≤ P := by
        rcases (show dg z i = 0 ∨ dg z i = 1 by omega) with h | h <;> rw [h] <;> omega
      rw [wu64_in (x := dg z i * P) (by unfold U64; omega), wu64_in (by unfold U64; omega)]
    · rw [wu64, Int.pow_succ]
      omega
    · rw [wi64_in (by unfold I64; omega)]; push_cast; rfl
theorem lp_Number_1 (F : Nat) (ex) (z : Int) (l : List VV) (x1 : Nat) (x2 x5 x7 x8 : Int) (h1 : 128 ≤ x1) (hl : ∀ i : Nat, i < 64 → l[64 + i]? = some (.v (.int .i64 (dg z i)))) : ∀ (k n i : Nat) (x3 x4 x6 : Int), i + k = 64 → k < n → x3 = num z i → x4 = (2 ^ i) % 18446744073709551616 → x6 = 64 + i →
    L_ref01_Number_1 F ex n l x1 x2 x3 x4 x5 x6 x7 x8 = ex l x1 x2 (num z 64) 0 x5 128 x7 x8
  | _, 0, _, _, _, _, _, h, _, _, _ => absurd h (by omega)
  | 0, n + 1, i, _, _, _, h, _, rfl, rfl, rfl => by
    obtain rfl : i = 64 := by omega
    rw [L_ref01_Number_1]
    unfold B_ref01_Number_1
    exact bn (df (by omega)) rfl
  | k + 1, n + 1, i, _, _, _, h, hn, rfl, rfl, rfl => by
    have hi : i < 64 := by omega
    obtain ⟨g1, g2⟩ := num_iv l (64 + i) _ (hl i hi)
    have hd := dg_01 z i
    have hp := p2pos i
    have hp2 := p2_lt64 hi
    have hb := num_bd z i
    have zm : (0 + ((Int.toNat (64 + (i : Int))) * 1)) = 64 + i := by omega
    rw [L_ref01_Number_1]
    unfold B_ref01_Number_1
    refine bp (dt (by omega)) (bp (dt (by omega)) (bp (by simp; omega) (bp (by rw [zm, g1]; rfl) ?_)))
    rw [zm, g2, wu64_in (x := dg z i) (by unfold U64; omega)]
    refine lp_Number_1 F ex z l x1 x2 x5 x7 x8 h1 hl k n (i + 1) _ _ _ (by omega) (by omega) ?_ ?_ ?_
    · rw [num_succ]
      generalize (2 : Int) ^ i = P at *
      rw [Int.emod_eq_of_lt (a := P) (by omega) (by omega)]
      have : 0 ≤ dg z i * P ∧ dg z i * P ≤ P := by
        rcases (show dg z i = 0 ∨ dg z i = 1 by omega) with h | h <;> rw [h] <;> omega
      rw [wu64_in (x := dg z i * P) (by unfold U64; omega), wu64_in (by unfold U64; omega)]
    · rw [wu64, Int.pow_succ]
      omega
    · rw [wi64_in (by unfold I64; omega)]; push_cast; omega
theorem dg_up (z : Int) (i : Nat) : dg z (64 + i) = dg (z / 18446744073709551616) i := by
  unfold dg
  rw [show (18446744073709551616 : Int) = 2 ^ 64 by decide, Int.ediv_ediv_of_nonneg (by decide), p2add]
theorem f_Number (F : Nat) (hF : 200 ≤ F) (z : Int) : f_ref01_Number F (ds z 128) 128 = some (wd z) := by
  unfold f_ref01_Number
  rw [lp_Number_0 F _ z (ds z 128) 128 0 0 0 (by omega) (fun i hi => ds_get z (by omega)) 64 F 0 0 1 0 (by omega) (by omega) (num_zero z).symm (by decide) rfl]
  rw [lp_Number_1 F _ (z / 18446744073709551616) (ds z 128) 128 _ _ _ _ (by omega) (fun i hi => by rw [ds_get z (by omega), dg_up]) 64 F 0 0 1 64 (by omega) (by omega) (num_zero _).symm (by decide) rfl]
  refine some_wd ?_ ?_
  · rw [wi64]; unfold num hi
    rw [show (2 : Int) ^ 64 = 18446744073709551616 by decide]
    omega
  · unfold num lo
    rw [show (2 : Int) ^ 64 = 18446744073709551616 by decide]
end Go.Xv
set_option linter.unusedVariables false
namespace Go.Xv
/- 29 _ref01_Add -/
def c_ref01_Add : Cfg := ⟨[0, 1, 2, 3, 4, 5, 6, 7, 8, 9, 10, 17], [(0, [0, 1, 2, 3, 4, 5, 6, 7, 8, 9, 11, 12, 13, 14, 15, 38, 39])], [34], []⟩
def ti_ref01_Add : List TV := [.v (.agg [.int .i64, .int .u64]), .v (.agg [.int .i64, .int .u64])]
def to_ref01_Add : TV := .v (.agg [.int .i64, .int .u64])
def S_ref01_Add (F : Nat) : FuncId → List VV → Option (Bool × VV) := words [(43, s_ref01_Digits F), (44, s_ref01_Number F)]
def T_ref01_Add_0 : TS := ⟨[(0, .v (.agg [.int .i64, .int .u64])), (1, .v (.agg [.int .i64, .int .u64])), (2, .lp 0 (.lit 0)), (3, .lp 1 (.lit 0)), (4, .lp 2 (.lit 0)), (5, .ls 3 (.lit 0) .hole 1), (6, .ls 4 (.lit 0) .hole 1), (7, .ls 5 (.lit 0) .hole 1), (8, .v (.int .i64)), (9, .v (.int .i64))], [(0, ⟨(.ex [.v (.int .i64), .v (.int .u64)]), true⟩), (1, ⟨(.ex [.v (.int .i64), .v (.int .u64)]), true⟩), (2, ⟨(.ex [.v (.int .i64), .v (.int .u64)]), true⟩), (3, ⟨.hole, true⟩), (4, ⟨.hole, true⟩), (5, ⟨.hole, true⟩)], 6⟩
def T_ref01_Add_0_0 : TS := ⟨[(0, .v (.agg [.int .i64, .int .u64])), (1, .v (.agg [.int .i64, .int .u64])), (2, .lp 0 (.lit 0)), (3, .lp 1 (.lit 0)), (4, .lp 2 (.lit 0)), (5, .ls 3 (.lit 0) .hole 1), (6, .ls 4 (.lit 0) .hole 1), (7, .ls 5 (.lit 0) .hole 1), (8, .v (.int .i64)), (9, .v (.int .i64))], [(0, ⟨(.ex [.v (.int .i64), .v (.int .u64)]), true⟩), (1, ⟨(.ex [.v (.int .i64), .v (.int .u64)]), true⟩), (2, ⟨(.ex [.v (.int .i64), .v (.int .u64)]), true⟩), (3, ⟨.hole, true⟩), (4, ⟨.hole, true⟩), (5, ⟨.hole, true⟩)], 6⟩
def B_ref01_Add_0 (F : Nat) (rc : Int → Int → Int → Int → Nat → Nat → Nat → Int → Int → Int → Int → Int → Int → Int → Int → List VV → List VV → List VV → R) (ex0 : Int → Int → Int → Int → Nat → Nat → Nat → Int → Int → Int → Int → Int → Int → Int → Int → List VV → List VV → List VV → R) (x0 : Int) (x1 : Int) (x2 : Int) (x3 : Int) (x4 : Nat) (x5 : Nat) (x6 : Nat) (x7 : Int) (x8 : Int) (x9 : Int) (x10 : Int) (x11 : Int) (x12 : Int) (x13 : Int) (x14 : Int) (x15 : List VV) (x16 : List VV) (x17 : List VV) : R :=
  bif ((decide (x8 < 128))) then (
    bif ((decide (0 ≤ x8)) && (decide (x8 < ((x4 : Nat) : Int)))) then (
      let v582 : Nat := (0 + ((Int.toNat x8) * 1))
      bif ((isI .i64 x15[v582]?) && true) then (
        bif ((decide (0 ≤ x8)) && (decide (x8 < ((x5 : Nat) : Int)))) then (
          let v584 : Nat := (0 + ((Int.toNat x8) * 1))
          bif ((isI .i64 x16[v584]?) && true) then (
            let v587 : Int := (IntKind.wrap .i64 (((IntKind.wrap .i64 (((iv x15[v582]?)) + ((iv x16[v584]?))))) + x7))
            bif (((decide ((0 + (x6 * 1)) ≤ x17.length)) && true) && (decide ((x6 + 1) * 9 ≤ bigger))) then (
              rc x0 x1 x2 x3 x4 x5 ((x6 + 1)) ((IntKind.wrap .i64 (Int.tdiv v587 2))) ((IntKind.wrap .i64 (x8 + 1))) x9 x10 x11 x12 x13 x14 x15 x16 ((((x17.drop 0).take (x6 * 1)) ++ [.v (.int .i64 ((Int.tmod v587 2)))])))
            else (
              none))
          else (
            none))
        else (
          none))
      else (
        none))
    else (
      none))
  else (
    ex0 x0 x1 x2 x3 x4 x5 x6 x7 x8 x9 x10 x11 x12 x13 x14 x15 x16 x17)
def L_ref01_Add_0 (F : Nat) (ex0 : Int → Int → Int → Int → Nat → Nat → Nat → Int → Int → Int → Int → Int → Int → Int → Int → List VV → List VV → List VV → R) : Nat → Int → Int → Int → Int → Nat → Nat → Nat → Int → Int → Int → Int → Int → Int → Int → Int → List VV → List VV → List VV → R
  | 0, _, _, _, _, _, _, _, _, _, _, _, _, _, _, _, _, _, _ => none
  | n + 1, x0, x1, x2, x3, x4, x5, x6, x7, x8, x9, x10, x11, x12, x13, x14, x15, x16, x17 => B_ref01_Add_0 F (L_ref01_Add_0 F ex0 n) ex0 x0 x1 x2 x3 x4 x5 x6 x7 x8 x9 x10 x11 x12 x13 x14 x15 x16 x17
def W_ref01_Add (F : Nat) : List LW := [⟨0, T_ref01_Add_0, fun k q => L_ref01_Add_0 F (fun (z0 : Int) (z1 : Int) (z2 : Int) (z3 : Int) (z4 : Nat) (z5 : Nat) (z6 : Nat) (z7 : Int) (z8 : Int) (z9 : Int) (z10 : Int) (z11 : Int) (z12 : Int) (z13 : Int) (z14 : Int) (z15 : List VV) (z16 : List VV) (z17 : List VV) => k (.exit 0) (fS T_ref01_Add_0_0 [.i z0, .i z1, .i z2, .i z3, .n z4, .n z5, .n z6, .i z7, .i z8, .i z9, .i z10, .i z11, .i z12, .i z13, .i z14, .c z15, .c z16, .c z17])) F (atI (nth q 0)) (atI (nth q 1)) (atI (nth q 2)) (atI (nth q 3)) (atN (nth q 4)) (atN (nth q 5)) (atN (nth q 6)) (atI (nth q 7)) (atI (nth q 8)) (atI (nth q 9)) (atI (nth q 10)) (atI (nth q 11)) (atI (nth q 12)) (atI (nth q 13)) (atI (nth q 14)) (atC (nth q 15)) (atC (nth q 16)) (atC (nth q 17))⟩]
def I_ref01_Add (F : Nat) : Nat → VS → (Exit → VS → R) → R := tabI c_ref01_Add (W_ref01_Add F)
def WJ_ref01_Add (F : Nat) : List LJ := []
def J_ref01_Add (F : Nat) : Nat → Nat → VS → (Exit → VS → R) → R := tabJ (WJ_ref01_Add F)
theorem lL_ref01_Add_0 (F : Nat) (k : Exit → VS → R) : ∀ (n : Nat) (x0 : Int) (x1 : Int) (x2 : Int) (x3 : Int) (x4 : Nat) (x5 : Nat) (x6 : Nat) (x7 : Int) (x8 : Int) (x9 : Int) (x10 : Int) (x11 : Int) (x12 : Int) (x13 : Int) (x14 : Int) (x15 : List VV) (x16 : List VV) (x17 : List VV), iterC (codeL PP (S_ref01_Add F) c_ref01_Add (I_ref01_Add F) (J_ref01_Add F) (loopAt PP 29 0) 0) (headOf c_ref01_Add 0) k n (fS T_ref01_Add_0 [.i x0, .i x1, .i x2, .i x3, .n x4, .n x5, .n x6, .i x7, .i x8, .i x9, .i x10, .i x11, .i x12, .i x13, .i x14, .c x15, .c x16, .c x17]) = L_ref01_Add_0 F (fun (z0 : Int) (z1 : Int) (z2 : Int) (z3 : Int) (z4 : Nat) (z5 : Nat) (z6 : Nat) (z7 : Int) (z8 : Int) (z9 : Int) (z10 : Int) (z11 : Int) (z12 : Int) (z13 : Int) (z14 : Int) (z15 : List VV) (z16 : List VV) (z17 : List VV) => k (.exit 0) (fS T_ref01_Add_0_0 [.i z0, .i z1, .i z2, .i z3, .n z4, .n z5, .n z6, .i z7, .i z8, .i z9, .i z10, .i z11, .i z12, .i z13, .i z14, .c z15, .c z16, .c z17])) n x0 x1 x2 x3 x4 x5 x6 x7 x8 x9 x10 x11 x12 x13 x14 x15 x16 x17
  | 0, _, _, _, _, _, _, _, _, _, _, _, _, _, _, _, _, _, _ => rfl
  | n + 1, x0, x1, x2, x3, x4, x5, x6, x7, x8, x9, x10, x11, x12, x13, x14, x15, x16, x17 => by
    have h0 : ∀ (ok_ref01_Digits : Nat → Int → Int → Bool) (o_ref01_Digits_0 : Nat → Int → Int → List VV) (o_ref01_Digits_1 : Nat → Int → Int → Nat) (ok_ref01_Number : Nat → List VV → Nat → Bool) (o_ref01_Number_0 : Nat → List VV → Nat → Int) (o_ref01_Number_1 : Nat → List VV → Nat → Int) (L_ref01_Add_0 : Nat → (Int → Int → Int → Int → Nat → Nat → Nat → Int → Int → Int → Int → Int → Int → Int → Int → List VV → List VV → List VV → R) → Nat → Int → Int → Int → Int → Nat → Nat → Nat → Int → Int → Int → Int → Int → Int → Int → Int → List VV → List VV → List VV → R), iterC (codeL PP (words [(43, spec ti_ref01_Digits to_ref01_Digits (fun q => (ok_ref01_Digits F (atI (nth q 0)) (atI (nth q 1)))) (fun q => [.c (o_ref01_Digits_0 F (atI (nth q 0)) (atI (nth q 1))), .n (o_ref01_Digits_1 F (atI (nth q 0)) (atI (nth q 1)))])), (44, spec ti_ref01_Number to_ref01_Number (fun q => (ok_ref01_Number F (atC (nth q 0)) (atN (nth q 1)))) (fun q => [.i (o_ref01_Number_0 F (atC (nth q 0)) (atN (nth q 1))), .i (o_ref01_Number_1 F (atC (nth q 0)) (atN (nth q 1)))]))]) c_ref01_Add (tabI c_ref01_Add [⟨0, T_ref01_Add_0, fun k q => L_ref01_Add_0 F (fun (z0 : Int) (z1 : Int) (z2 : Int) (z3 : Int) (z4 : Nat) (z5 : Nat) (z6 : Nat) (z7 : Int) (z8 : Int) (z9 : Int) (z10 : Int) (z11 : Int) (z12 : Int) (z13 : Int) (z14 : Int) (z15 : List VV) (z16 : List VV) (z17 : List VV) => k (.exit 0) (fS T_ref01_Add_0_0 [.i z0, .i z1, .i z2, .i z3, .n z4, .n z5, .n z6, .i z7, .i z8, .i z9, .i z10, .i z11, .i z12, .i z13, .i z14, .c z15, .c z16, .c z17])) F (atI (nth q 0)) (atI (nth q 1)) (atI (nth q 2)) (atI (nth q 3)) (atN (nth q 4)) (atN (nth q 5)) (atN (nth q 6)) (atI (nth q 7)) (atI (nth q 8)) (atI (nth q 9)) (atI (nth q 10)) (atI (nth q 11)) (atI (nth q 12)) (atI (nth q 13)) (atI (nth q 14)) (atC (nth q 15)) (atC (nth q 16)) (atC (nth q 17))⟩]) (tabJ []) (loopAt PP 29 0) 0) (headOf c_ref01_Add 0) k (n + 1) (fS T_ref01_Add_0 [.i x0, .i x1, .i x2, .i x3, .n x4, .n x5, .n x6, .i x7, .i x8, .i x9, .i x10, .i x11, .i x12, .i x13, .i x14, .c x15, .c x16, .c x17]) = (fun (rc : Int → Int → Int → Int → Nat → Nat → Nat → Int → Int → Int → Int → Int → Int → Int → Int → List VV → List VV → List VV → R) (ex0 : Int → Int → Int → Int → Nat → Nat → Nat → Int → Int → Int → Int → Int → Int → Int → Int → List VV → List VV → List VV → R) (x0 : Int) (x1 : Int) (x2 : Int) (x3 : Int) (x4 : Nat) (x5 : Nat) (x6 : Nat) (x7 : Int) (x8 : Int) (x9 : Int) (x10 : Int) (x11 : Int) (x12 : Int) (x13 : Int) (x14 : Int) (x15 : List VV) (x16 : List VV) (x17 : List VV) => (
  bif ((decide (x8 < 128))) then (
    bif ((decide (0 ≤ x8)) && (decide (x8 < ((x4 : Nat) : Int)))) then (
      let v582 : Nat := (0 + ((Int.toNat x8) * 1))
      bif ((isI .i64 x15[v582]?) && true) then (
        bif ((decide (0 ≤ x8)) && (decide (x8 < ((x5 : Nat) : Int)))) then (
          let v584 : Nat := (0 + ((Int.toNat x8) * 1))
          bif ((isI .i64 x16[v584]?) && true) then (
            let v587 : Int := (IntKind.wrap .i64 (((IntKind.wrap .i64 (((iv x15[v582]?)) + ((iv x16[v584]?))))) + x7))
            bif (((decide ((0 + (x6 * 1)) ≤ x17.length)) && true) && (decide ((x6 + 1) * 9 ≤ bigger))) then (
              rc x0 x1 x2 x3 x4 x5 ((x6 + 1)) ((IntKind.wrap .i64 (Int.tdiv v587 2))) ((IntKind.wrap .i64 (x8 + 1))) x9 x10 x11 x12 x13 x14 x15 x16 ((((x17.drop 0).take (x6 * 1)) ++ [.v (.int .i64 ((Int.tmod v587 2)))])))
            else (
              none))
          else (
            none))
        else (
          none))
      else (
        none))
    else (
      none))
  else (
    ex0 x0 x1 x2 x3 x4 x5 x6 x7 x8 x9 x10 x11 x12 x13 x14 x15 x16 x17) : R)) (fun (y0 : Int) (y1 : Int) (y2 : Int) (y3 : Int) (y4 : Nat) (y5 : Nat) (y6 : Nat) (y7 : Int) (y8 : Int) (y9 : Int) (y10 : Int) (y11 : Int) (y12 : Int) (y13 : Int) (y14 : Int) (y15 : List VV) (y16 : List VV) (y17 : List VV) => iterC (codeL PP (words [(43, spec ti_ref01_Digits to_ref01_Digits (fun q => (ok_ref01_Digits F (atI (nth q 0)) (atI (nth q 1)))) (fun q => [.c (o_ref01_Digits_0 F (atI (nth q 0)) (atI (nth q 1))), .n (o_ref01_Digits_1 F (atI (nth q 0)) (atI (nth q 1)))])), (44, spec ti_ref01_Number to_ref01_Number (fun q => (ok_ref01_Number F (atC (nth q 0)) (atN (nth q 1)))) (fun q => [.i (o_ref01_Number_0 F (atC (nth q 0)) (atN (nth q 1))), .i (o_ref01_Number_1 F (atC (nth q 0)) (atN (nth q 1)))]))]) c_ref01_Add (tabI c_ref01_Add [⟨0, T_ref01_Add_0, fun k q => L_ref01_Add_0 F (fun (z0 : Int) (z1 : Int) (z2 : Int) (z3 : Int) (z4 : Nat) (z5 : Nat) (z6 : Nat) (z7 : Int) (z8 : Int) (z9 : Int) (z10 : Int) (z11 : Int) (z12 : Int) (z13 : Int) (z14 : Int) (z15 : List VV) (z16 : List VV) (z17 : List VV) => k (.exit 0) (fS T_ref01_Add_0_0 [.i z0, .i z1, .i z2, .i z3, .n z4, .n z5, .n z6, .i z7, .i z8, .i z9, .i z10, .i z11, .i z12, .i z13, .i z14, .c z15, .c z16, .c z17])) F (atI (nth q 0)) (atI (nth q 1)) (atI (nth q 2)) (atI (nth q 3)) (atN (nth q 4)) (atN (nth q 5)) (atN (nth q 6)) (atI (nth q 7)) (atI (nth q 8)) (atI (nth q 9)) (atI (nth q 10)) (atI (nth q 11)) (atI (nth q 12)) (atI (nth q 13)) (atI (nth q 14)) (atC (nth q 15)) (atC (nth q 16)) (atC (nth q 17))⟩]) (tabJ []) (loopAt PP 29 0) 0) (headOf c_ref01_Add 0) k n (fS T_ref01_Add_0 [.i y0, .i y1, .i y2, .i y3, .n y4, .n y5, .n y6, .i y7, .i y8, .i y9, .i y10, .i y11, .i y12, .i y13, .i y14, .c y15, .c y16, .c y17])) (fun (z0 : Int) (z1 : Int) (z2 : Int) (z3 : Int) (z4 : Nat) (z5 : Nat) (z6 : Nat) (z7 : Int) (z8 : Int) (z9 : Int) (z10 : Int) (z11 : Int) (z12 : Int) (z13 : Int) (z14 : Int) (z15 : List VV) (z16 : List VV) (z17 : List VV) => k (.exit 0) (fS T_ref01_Add_0_0 [.i z0, .i z1, .i z2, .i z3, .n z4, .n z5, .n z6, .i z7, .i z8, .i z9, .i z10, .i z11, .i z12, .i z13, .i z14, .c z15, .c z16, .c z17])) x0 x1 x2 x3 x4 x5 x6 x7 x8 x9 x10 x11 x12 x13 x14 x15 x16 x17 := by
      intros
      kernel_rfl
    have h : iterC (codeL PP (S_ref01_Add F) c_ref01_Add (I_ref01_Add F) (J_ref01_Add F) (loopAt PP 29 0) 0) (headOf c_ref01_Add 0) k (n + 1) (fS T_ref01_Add_0 [.i x0, .i x1, .i x2, .i x3, .n x4, .n x5, .n x6, .i x7, .i x8, .i x9, .i x10, .i x11, .i x12, .i x13, .i x14, .c x15, .c x16, .c x17]) = B_ref01_Add_0 F (fun (y0 : Int) (y1 : Int) (y2 : Int) (y3 : Int) (y4 : Nat) (y5 : Nat) (y6 : Nat) (y7 : Int) (y8 : Int) (y9 : Int) (y10 : Int) (y11 : Int) (y12 : Int) (y13 : Int) (y14 : Int) (y15 : List VV) (y16 : List VV) (y17 : List VV) => iterC (codeL PP (S_ref01_Add F) c_ref01_Add (I_ref01_Add F) (J_ref01_Add F) (loopAt PP 29 0) 0) (headOf c_ref01_Add 0) k n (fS T_ref01_Add_0 [.i y0, .i y1, .i y2, .i y3, .n y4, .n y5, .n y6, .i y7, .i y8, .i y9, .i y10, .i y11, .i y12, .i y13, .i y14, .c y15, .c y16, .c y17])) (fun (z0 : Int) (z1 : Int) (z2 : Int) (z3 : Int) (z4 : Nat) (z5 : Nat) (z6 : Nat) (z7 : Int) (z8 : Int) (z9 : Int) (z10 : Int) (z11 : Int) (z12 : Int) (z13 : Int) (z14 : Int) (z15 : List VV) (z16 : List VV) (z17 : List VV) => k (.exit 0) (fS T_ref01_Add_0_0 [.i z0, .i z1, .i z2, .i z3, .n z4, .n z5, .n z6, .i z7, .i z8, .i z9, .i z10, .i z11, .i z12, .i z13, .i z14, .c z15, .c z16, .c z17])) x0 x1 x2 x3 x4 x5 x6 x7 x8 x9 x10 x11 x12 x13 x14 x15 x16 x17 := (h0 ok_ref01_Digits o_ref01_Digits_0 o_ref01_Digits_1 ok_ref01_Number o_ref01_Number_0 o_ref01_Number_1 L_ref01_Add_0).trans (by kernel_rfl)
    rw [h]
    simp only [lL_ref01_Add_0 F k n]
    rfl
def f_ref01_Add (F : Nat) (a0 : Int) (a1 : Int) (a2 : Int) (a3 : Int) : R :=
  bif (ok_ref01_Digits F a0 a1) then (
    bif (ok_ref01_Digits F a2 a3) then (
      L_ref01_Add_0 F (fun (v593 : Int) (v594 : Int) (v595 : Int) (v596 : Int) (v597 : Nat) (v598 : Nat) (v599 : Nat) (v600 : Int) (v601 : Int) (v602 : Int) (v603 : Int) (v604 : Int) (v605 : Int) (v606 : Int) (v607 : Int) (v608 : List VV) (v609 : List VV) (v610 : List VV) =>
        bif (ok_ref01_Number F v610 v599) then (
          some (.v (.agg #[.int .i64 ((o_ref01_Number_0 F v610 v599)), .int .u64 ((o_ref01_Number_1 F v610 v599))])))
        else (
          none)) F a0 a1 a2 a3 ((o_ref01_Digits_1 F a0 a1)) ((o_ref01_Digits_1 F a2 a3)) 0 0 0 a0 a1 a2 a3 0 0 ((o_ref01_Digits_0 F a0 a1)) ((o_ref01_Digits_0 F a2 a3)) [])
    else (
      none))
  else (
    none)
theorem e_ref01_Add (F : Nat) (a0 : Int) (a1 : Int) (a2 : Int) (a3 : Int) : funL PP (S_ref01_Add F) c_ref01_Add (I_ref01_Add F) (J_ref01_Add F) 29 (fTs ti_ref01_Add [.i a0, .i a1, .i a2, .i a3]).1 = f_ref01_Add F a0 a1 a2 a3 := by
  have h : ∀ (ok_ref01_Digits : Nat → Int → Int → Bool) (o_ref01_Digits_0 : Nat → Int → Int → List VV) (o_ref01_Digits_1 : Nat → Int → Int → Nat) (ok_ref01_Number : Nat → List VV → Nat → Bool) (o_ref01_Number_0 : Nat → List VV → Nat → Int) (o_ref01_Number_1 : Nat → List VV → Nat → Int) (L_ref01_Add_0 : Nat → (Int → Int → Int → Int → Nat → Nat → Nat → Int → Int → Int → Int → Int → Int → Int → Int → List VV → List VV → List VV → R) → Nat → Int → Int → Int → Int → Nat → Nat → Nat → Int → Int → Int → Int → Int → Int → Int → Int → List VV → List VV → List VV → R), funL PP (words [(43, spec ti_ref01_Digits to_ref01_Digits (fun q => (ok_ref01_Digits F (atI (nth q 0)) (atI (nth q 1)))) (fun q => [.c (o_ref01_Digits_0 F (atI (nth q 0)) (atI (nth q 1))), .n (o_ref01_Digits_1 F (atI (nth q 0)) (atI (nth q 1)))])), (44, spec ti_ref01_Number to_ref01_Number (fun q => (ok_ref01_Number F (atC (nth q 0)) (atN (nth q 1)))) (fun q => [.i (o_ref01_Number_0 F (atC (nth q 0)) (atN (nth q 1))), .i (o_ref01_Number_1 F (atC (nth q 0)) (atN (nth q 1)))]))]) c_ref01_Add (tabI c_ref01_Add [⟨0, T_ref01_Add_0, fun k q => L_ref01_Add_0 F (fun (z0 : Int) (z1 : Int) (z2 : Int) (z3 : Int) (z4 : Nat) (z5 : Nat) (z6 : Nat) (z7 : Int) (z8 : Int) (z9 : Int) (z10 : Int) (z11 : Int) (z12 : Int) (z13 : Int) (z14 : Int) (z15 : List VV) (z16 : List VV) (z17 : List VV) => k (.exit 0) (fS T_ref01_Add_0_0 [.i z0, .i z1, .i z2, .i z3, .n z4, .n z5, .n z6, .i z7, .i z8, .i z9, .i z10, .i z11, .i z12, .i z13, .i z14, .c z15, .c z16, .c z17])) F (atI (nth q 0)) (atI (nth q 1)) (atI (nth q 2)) (atI (nth q 3)) (atN (nth q 4)) (atN (nth q 5)) (atN (nth q 6)) (atI (nth q 7)) (atI (nth q 8)) (atI (nth q 9)) (atI (nth q 10)) (atI (nth q 11)) (atI (nth q 12)) (atI (nth q 13)) (atI (nth q 14)) (atC (nth q 15)) (atC (nth q 16)) (atC (nth q 17))⟩]) (tabJ []) 29 (fTs ti_ref01_Add [.i a0, .i a1, .i a2, .i a3]).1 = (
  bif (ok_ref01_Digits F a0 a1) then (
    bif (ok_ref01_Digits F a2 a3) then (
      L_ref01_Add_0 F (fun (v593 : Int) (v594 : Int) (v595 : Int) (v596 : Int) (v597 : Nat) (v598 : Nat) (v599 : Nat) (v600 : Int) (v601 : Int) (v602 : Int) (v603 : Int) (v604 : Int) (v605 : Int) (v606 : Int) (v607 : Int) (v608 : List VV) (v609 : List VV) (v610 : List VV) =>
        bif (ok_ref01_Number F v610 v599) then (
          some (.v (.agg #[.int .i64 ((o_ref01_Number_0 F v610 v599)), .int .u64 ((o_ref01_Number_1 F v610 v599))])))
        else (
          none)) F a0 a1 a2 a3 ((o_ref01_Digits_1 F a0 a1)) ((o_ref01_Digits_1 F a2 a3)) 0 0 0 a0 a1 a2 a3 0 0 ((o_ref01_Digits_0 F a0 a1)) ((o_ref01_Digits_0 F a2 a3)) [])
    else (
      none))
  else (
    none) : R) := by
    intros
    kernel_rfl
  exact (h ok_ref01_Digits o_ref01_Digits_0 o_ref01_Digits_1 ok_ref01_Number o_ref01_Number_0 o_ref01_Number_1 L_ref01_Add_0).trans (by kernel_rfl)
def ok_ref01_Add (F : Nat) (a0 : Int) (a1 : Int) (a2 : Int) (a3 : Int) : Bool := okT to_ref01_Add (f_ref01_Add F a0 a1 a2 a3)
def o_ref01_Add_0 (F : Nat) (a0 : Int) (a1 : Int) (a2 : Int) (a3 : Int) : Int := atI (nth (outT to_ref01_Add (f_ref01_Add F a0 a1 a2 a3)) 0)
def o_ref01_Add_1 (F : Nat) (a0 : Int) (a1 : Int) (a2 : Int) (a3 : Int) : Int := atI (nth (outT to_ref01_Add (f_ref01_Add F a0 a1 a2 a3)) 1)
theorem k_ref01_Add (F : Nat) (a0 : Int) (a1 : Int) (a2 : Int) (a3 : Int) {z0 : Int} {z1 : Int} (h : f_ref01_Add F a0 a1 a2 a3 = some (.v (.agg #[.int .i64 z0, .int .u64 z1]))) : ok_ref01_Add F a0 a1 a2 a3 = true ∧ o_ref01_Add_0 F a0 a1 a2 a3 = z0 ∧ o_ref01_Add_1 F a0 a1 a2 a3 = z1 := by
  refine ⟨?_, ?_, ?_⟩
  · unfold ok_ref01_Add; rw [h]; kernel_rfl
  · unfold o_ref01_Add_0; rw [h]; kernel_rfl
  · unfold o_ref01_Add_1; rw [h]; kernel_rfl
def s_ref01_Add (F : Nat) : List VV → Option (Bool × VV) := spec ti_ref01_Add to_ref01_Add (fun q => (ok_ref01_Add F (atI (nth q 0)) (atI (nth q 1)) (atI (nth q 2)) (atI (nth q 3)))) (fun q => [.i (o_ref01_Add_0 F (atI (nth q 0)) (atI (nth q 1)) (atI (nth q 2)) (atI (nth q 3))), .i (o_ref01_Add_1 F (atI (nth q 0)) (atI (nth q 1)) (atI (nth q 2)) (atI (nth q 3)))])
theorem hS_ref01_Add (F : Nat) : ∀ f, Good PP f (unS (S_ref01_Add F f)) := words_good fun p hp => by
  simp only [List.mem_cons, List.not_mem_nil, or_false] at hp
  rcases hp with rfl | rfl
  · exact g_ref01_Digits F
  · exact g_ref01_Number F
theorem hl_ref01_Add (F : Nat) : ∀ p ∈ loopsIn PP 29, LoopOK PP (S_ref01_Add F) c_ref01_Add F (I_ref01_Add F) (J_ref01_Add F) p :=
  loops_of [(0, loopAt PP 29 0)] (by kernel_rfl) (all_cons
    (loop_ok (W_ref01_Add F) rfl (tab_cons (fun _ k q => Le.ofEq ((lL_ref01_Add_0 F k F (atI (nth q 0)) (atI (nth q 1)) (atI (nth q 2)) (atI (nth q 3)) (atN (nth q 4)) (atN (nth q 5)) (atN (nth q 6)) (atI (nth q 7)) (atI (nth q 8)) (atI (nth q 9)) (atI (nth q 10)) (atI (nth q 11)) (atI (nth q 12)) (atI (nth q 13)) (atI (nth q 14)) (atC (nth q 15)) (atC (nth q 16)) (atC (nth q 17))).symm.trans (congrArg (iterC (codeL PP (S_ref01_Add F) c_ref01_Add (I_ref01_Add F) (J_ref01_Add F) (loopAt PP 29 0) 0) (headOf c_ref01_Add 0) k F) (show fS T_ref01_Add_0 [.i (atI (nth q 0)), .i (atI (nth q 1)), .i (atI (nth q 2)), .i (atI (nth q 3)), .n (atN (nth q 4)), .n (atN (nth q 5)), .n (atN (nth q 6)), .i (atI (nth q 7)), .i (atI (nth q 8)), .i (atI (nth q 9)), .i (atI (nth q 10)), .i (atI (nth q 11)), .i (atI (nth q 12)), .i (atI (nth q 13)), .i (atI (nth q 14)), .c (atC (nth q 15)), .c (atC (nth q 16)), .c (atC (nth q 17))] = fS T_ref01_Add_0 q by kernel_rfl)))) tab_nil)) all_nil)
theorem hj_ref01_Add (F : Nat) : ∀ p ∈ joinsIn PP c_ref01_Add 29, JoinOK PP (S_ref01_Add F) c_ref01_Add (I_ref01_Add F) (J_ref01_Add F) p :=
  joins_of [] (by kernel_rfl) all_nil
theorem g_ref01_Add (F : Nat) : Good PP 29 (unS (s_ref01_Add F)) :=
  fun_spec (hS_ref01_Add F) (by kernel_rfl) (by kernel_rfl) (C := c_ref01_Add) (F := fun q => (f_ref01_Add F (atI (nth q 0)) (atI (nth q 1)) (atI (nth q 2)) (atI (nth q 3)))) (fun _ => F) (fun _ => I_ref01_Add F) (fun _ => J_ref01_Add F) (fun _ => hl_ref01_Add F) (fun _ => hj_ref01_Add F)
    (fun q => (congrArg (funL PP (S_ref01_Add F) c_ref01_Add (I_ref01_Add F) (J_ref01_Add F) 29) (show (fTs ti_ref01_Add q).1 = (fTs ti_ref01_Add [.i (atI (nth q 0)), .i (atI (nth q 1)), .i (atI (nth q 2)), .i (atI (nth q 3))]).1 by kernel_rfl)).trans (e_ref01_Add F (atI (nth q 0)) (atI (nth q 1)) (atI (nth q 2)) (atI (nth q 3))))
    (fun _ h => okT_fill' h (by kernel_rfl))

end Go.Xv
set_option linter.unusedVariables false
namespace Go.Xv
/- 31 _ref01_Neg -/
def c_ref01_Neg : Cfg := ⟨[0, 1, 2, 3, 4, 8], [(0, [0, 1, 2, 3, 4, 5, 6, 19, 20, 21, 22])], [20, 21], []⟩
def ti_ref01_Neg : List TV := [.v (.agg [.int .i64, .int .u64])]
def to_ref01_Neg : TV := .v (.agg [.int .i64, .int .u64])
def S_ref01_Neg (F : Nat) : FuncId → List VV → Option (Bool × VV) := words [(43, s_ref01_Digits F), (44, s_ref01_Number F), (30, s_ref01_Of F), (29, s_ref01_Add F)]
def T_ref01_Neg_0 : TS := ⟨[(0, .v (.agg [.int .i64, .int .u64])), (1, .lp 0 (.lit 0)), (2, .lp 1 (.lit 0)), (3, .ls 2 (.lit 0) .hole 1), (4, .v (.int .i64))], [(0, ⟨(.ex [.v (.int .i64), .v (.int .u64)]), true⟩), (1, ⟨(.ex [.v (.int .i64), .v (.int .u64)]), true⟩), (2, ⟨.hole, true⟩)], 3⟩
def T_ref01_Neg_0_0 : TS := ⟨[(0, .v (.agg [.int .i64, .int .u64])), (1, .lp 0 (.lit 0)), (2, .lp 1 (.lit 0)), (3, .ls 2 (.lit 0) .hole 1), (4, .v (.int .i64))], [(0, ⟨(.ex [.v (.int .i64), .v (.int .u64)]), true⟩), (1, ⟨(.ex [.v (.int .i64), .v (.int .u64)]), true⟩), (2, ⟨.hole, true⟩)], 3⟩
def B_ref01_Neg_0 (F : Nat) (rc : Int → Int → Nat → Int → Int → Int → Int → Int → List VV → R) (ex0 : Int → Int → Nat → Int → Int → Int → Int → Int → List VV → R) (x0 : Int) (x1 : Int) (x2 : Nat) (x3 : Int) (x4 : Int) (x5 : Int) (x6 : Int) (x7 : Int) (x8 : List VV) : R :=
  bif ((decide (x3 < 128))) then (
    bif ((decide (0 ≤ x3)) && (decide (x3 < ((x2 : Nat) : Int)))) then (
      let v701 : Nat := (0 + ((Int.toNat x3) * 1))
      bif ((isI .i64 x8[v701]?) && true) then (
        bif ((decide (0 ≤ x3)) && (decide (x3 < ((x2 : Nat) : Int)))) then (
          let v704 : Nat := (0 + ((Int.toNat x3) * 1))
          bif (decide ((v704 + 1) ≤ x8.length)) then (
            rc x0 x1 x2 ((IntKind.wrap .i64 (x3 + 1))) x4 x5 x6 x7 ((x8.take v704 ++ [.v (.int .i64 ((IntKind.wrap .i64 (1 - ((iv x8[v701]?))))))] ++ x8.drop (v704 + 1))))
          else (
            none))
        else (
          none))
      else (
        none))
    else (
      none))
  else (
    ex0 x0 x1 x2 x3 x4 x5 x6 x7 x8)
def L_ref01_Neg_0 (F : Nat) (ex0 : Int → Int → Nat → Int → Int → Int → Int → Int → List VV → R) : Nat → Int → Int → Nat → Int → Int → Int → Int → Int → List VV → R
  | 0, _, _, _, _, _, _, _, _, _ => none
  | n + 1, x0, x1, x2, x3, x4, x5, x6, x7, x8 => B_ref01_Neg_0 F (L_ref01_Neg_0 F ex0 n) ex0 x0 x1 x2 x3 x4 x5 x6 x7 x8
def W_ref01_Neg (F : Nat) : List LW := [⟨0, T_ref01_Neg_0, fun k q => L_ref01_Neg_0 F (fun (z0 : Int) (z1 : Int) (z2 : Nat) (z3 : Int) (z4 : Int) (z5 : Int) (z6 : Int) (z7 : Int) (z8 : List VV) => k (.exit 0) (fS T_ref01_Neg_0_0 [.i z0, .i z1, .n z2, .i z3, .i z4, .i z5, .i z6, .i z7, .c z8])) F (atI (nth q 0)) (atI (nth q 1)) (atN (nth q 2)) (atI (nth q 3)) (atI (nth q 4)) (atI (nth q 5)) (atI (nth q 6)) (atI (nth q 7)) (atC (nth q 8))⟩]
def I_ref01_Neg (F : Nat) : Nat → VS → (Exit → VS → R) → R := tabI c_ref01_Neg (W_ref01_Neg F)
def WJ_ref01_Neg (F : Nat) : List LJ := []
def J_ref01_Neg (F : Nat) : Nat → Nat → VS → (Exit → VS → R) → R := tabJ (WJ_ref01_Neg F)
theorem lL_ref01_Neg_0 (F : Nat) (k : Exit → VS → R) : ∀ (n : Nat) (x0 : Int) (x1 : Int) (x2 : Nat) (x3 : Int) (x4 : Int) (x5 : Int) (x6 : Int) (x7 : Int) (x8 : List VV), iterC (codeL PP (S_ref01_Neg F) c_ref01_Neg (I_ref01_Neg F) (J_ref01_Neg F) (loopAt PP 31 0) 0) (headOf c_ref01_Neg 0) k n (fS T_ref01_Neg_0 [.i x0, .i x1, .n x2, .i x3, .i x4, .i x5, .i x6, .i x7, .c x8]) = L_ref01_Neg_0 F (fun (z0 : Int) (z1 : Int) (z2 : Nat) (z3 : Int) (z4 : Int) (z5 : Int) (z6 : Int) (z7 : Int) (z8 : List VV) => k (.exit 0) (fS T_ref01_Neg_0_0 [.i z0, .i z1, .n z2, .i z3, .i z4, .i z5, .i z6, .i z7, .c z8])) n x0 x1 x2 x3 x4 x5 x6 x7 x8
  | 0, _, _, _, _, _, _, _, _, _ => rfl
  | n + 1, x0, x1, x2, x3, x4, x5, x6, x7, x8 => by
    have h0 : ∀ (ok_ref01_Digits : Nat → Int → Int → Bool) (o_ref01_Digits_0 : Nat → Int → Int → List VV) (o_ref01_Digits_1 : Nat → Int → Int → Nat) (ok_ref01_Number : Nat → List VV → Nat → Bool) (o_ref01_Number_0 : Nat → List VV → Nat → Int) (o_ref01_Number_1 : Nat → List VV → Nat → Int) (ok_ref01_Of : Nat → Int → Bool) (o_ref01_Of_0 : Nat → Int → Int) (o_ref01_Of_1 : Nat → Int → Int) (ok_ref01_Add : Nat → Int → Int → Int → Int → Bool) (o_ref01_Add_0 : Nat → Int → Int → Int → Int → Int) (o_ref01_Add_1 : Nat → Int → Int → Int → Int → Int) (L_ref01_Neg_0 : Nat → (Int → Int → Nat → Int → Int → Int → Int → Int → List VV → R) → Nat → Int → Int → Nat → Int → Int → Int → Int → Int → List VV → R), iterC (codeL PP (words [(43, spec ti_ref01_Digits to_ref01_Digits (fun q => (ok_ref01_Digits F (atI (nth q 0)) (atI (nth q 1)))) (fun q => [.c (o_ref01_Digits_0 F (atI (nth q 0)) (atI (nth q 1))), .n (o_ref01_Digits_1 F (atI (nth q 0)) (atI (nth q 1)))])), (44, spec ti_ref01_Number to_ref01_Number (fun q => (ok_ref01_Number F (atC (nth q 0)) (atN (nth q 1)))) (fun q => [.i (o_ref01_Number_0 F (atC (nth q 0)) (atN (nth q 1))), .i (o_ref01_Number_1 F (atC (nth q 0)) (atN (nth q 1)))])), (30, spec ti_ref01_Of to_ref01_Of (fun q => (ok_ref01_Of F (atI (nth q 0)))) (fun q => [.i (o_ref01_Of_0 F (atI (nth q 0))), .i (o_ref01_Of_1 F (atI (nth q 0)))])), (29, spec ti_ref01_Add to_ref01_Add (fun q => (ok_ref01_Add F (atI (nth q 0)) (atI (nth q 1)) (atI (nth q 2)) (atI (nth q 3)))) (fun q => [.i (o_ref01_Add_0 F (atI (nth q 0)) (atI (nth q 1)) (atI (nth q 2)) (atI (nth q 3))), .i (o_ref01_Add_1 F (atI (nth q 0)) (atI (nth q 1)) (atI (nth q 2)) (atI (nth q 3)))]))]) c_ref01_Neg (tabI c_ref01_Neg [⟨0, T_ref01_Neg_0, fun k q => L_ref01_Neg_0 F (fun (z0 : Int) (z1 : Int) (z2 : Nat) (z3 : Int) (z4 : Int) (z5 : Int) (z6 : Int) (z7 : Int) (z8 : List VV) => k (.exit 0) (fS T_ref01_Neg_0_0 [.i z0, .i z1, .n z2, .i z3, .i z4, .i z5, .i z6, .i z7, .c z8])) F (atI (nth q 0)) (atI (nth q 1)) (atN (nth q 2)) (atI (nth q 3)) (atI (nth q 4)) (atI (nth q 5)) (atI (nth q 6)) (atI (nth q 7)) (atC (nth q 8))⟩]) (tabJ []) (loopAt PP 31 0) 0) (headOf c_ref01_Neg 0) k (n + 1) (fS T_ref01_Neg_0 [.i x0, .i x1, .n x2, .i x3, .i x4, .i x5, .i x6, .i x7, .c x8]) = (fun (rc : Int → Int → Nat → Int → Int → Int → Int → Int → List VV → R) (ex0 : Int → Int → Nat → Int → Int → Int → Int → Int → List VV → R) (x0 : Int) (x1 : Int) (x2 : Nat) (x3 : Int) (x4 : Int) (x5 : Int) (x6 : Int) (x7 : Int) (x8 : List VV) => (
  bif ((decide (x3 < 128))) then (
    bif ((decide (0 ≤ x3)) && (decide (x3 < ((x2 : Nat) : Int)))) then (
      let v701 : Nat := (0 + ((Int.toNat x3) * 1))
      bif ((isI .i64 x8[v701]?) && true) then (
        bif ((decide (0 ≤ x3)) && (decide (x3 < ((x2 : Nat) : Int)))) then (
          let v704 : Nat := (0 + ((Int.toNat x3) * 1))
          bif (decide ((v704 + 1) ≤ x8.length)) then (
            rc x0 x1 x2 ((IntKind.wrap .i64 (x3 + 1))) x4 x5 x6 x7 ((x8.take v704 ++ [.v (.int .i64 ((IntKind.wrap .i64 (1 - ((iv x8[v701]?))))))] ++ x8.drop (v704 + 1))))
          else (
            none))
        else (
          none))
      else (
        none))
    else (
      none))
  else (
    ex0 x0 x1 x2 x3 x4 x5 x6 x7 x8) : R)) (fun (y0 : Int) (y1 : Int) (y2 : Nat) (y3 : Int) (y4 : Int) (y5 : Int) (y6 : Int) (y7 : Int) (y8 : List VV) => iterC (codeL PP (words [(43, spec ti_ref01_Digits to_ref01_Digits (fun q => (ok_ref01_Digits F (atI (nth q 0)) (atI (nth q 1)))) (fun q => [.c (o_ref01_Digits_0 F (atI (nth q 0)) (atI (nth q 1))), .n (o_ref01_Digits_1 F (atI (nth q 0)) (atI (nth q 1)))])), (44, spec ti_ref01_Number to_ref01_Number (fun q => (ok_ref01_Number F (atC (nth q 0)) (atN (nth q 1)))) (fun q => [.i (o_ref01_Number_0 F (atC (nth q 0)) (atN (nth q 1))), .i (o_ref01_Number_1 F (atC (nth q 0)) (atN (nth q 1)))])), (30, spec ti_ref01_Of to_ref01_Of (fun q => (ok_ref01_Of F (atI (nth q 0)))) (fun q => [.i (o_ref01_Of_0 F (atI (nth q 0))), .i (o_ref01_Of_1 F (atI (nth q 0)))])), (29, spec ti_ref01_Add to_ref01_Add (fun q => (ok_ref01_Add F (atI (nth q 0)) (atI (nth q 1)) (atI (nth q 2)) (atI (nth q 3)))) (fun q => [.i (o_ref01_Add_0 F (atI (nth q 0)) (atI (nth q 1)) (atI (nth q 2)) (atI (nth q 3))), .i (o_ref01_Add_1 F (atI (nth q 0)) (atI (nth q 1)) (atI (nth q 2)) (atI (nth q 3)))]))]) c_ref01_Neg (tabI c_ref01_Neg [⟨0, T_ref01_Neg_0, fun k q => L_ref01_Neg_0 F (fun (z0 : Int) (z1 : Int) (z2 : Nat) (z3 : Int) (z4 : Int) (z5 : Int) (z6 : Int) (z7 : Int) (z8 : List VV) => k (.exit 0) (fS T_ref01_Neg_0_0 [.i z0, .i z1, .n z2, .i z3, .i z4, .i z5, .i z6, .i z7, .c z8])) F (atI (nth q 0)) (atI (nth q 1)) (atN (nth q 2)) (atI (nth q 3)) (atI (nth q 4)) (atI (nth q 5)) (atI (nth q 6)) (atI (nth q 7)) (atC (nth q 8))⟩]) (tabJ []) (loopAt PP 31 0) 0) (headOf c_ref01_Neg 0) k n (fS T_ref01_Neg_0 [.i y0, .i y1, .n y2, .i y3, .i y4, .i y5, .i y6, .i y7, .c y8])) (fun (z0 : Int) (z1 : Int) (z2 : Nat) (z3 : Int) (z4 : Int) (z5 : Int) (z6 : Int) (z7 : Int) (z8 : List VV) => k (.exit 0) (fS T_ref01_Neg_0_0 [.i z0, .i z1, .n z2, .i z3, .i z4, .i z5, .i z6, .i z7, .c z8])) x0 x1 x2 x3 x4 x5 x6 x7 x8 := by
      intros
      kernel_rfl
    have h : iterC (codeL PP (S_ref01_Neg F) c_ref01_Neg (I_ref01_Neg F) (J_ref01_Neg F) (loopAt PP 31 0) 0) (headOf c_ref01_Neg 0) k (n + 1) (fS T_ref01_Neg_0 [.i x0, .i x1, .n x2, .i x3, .i x4, .i x5, .i x6, .i x7, .c x8]) = B_ref01_Neg_0 F (fun (y0 : Int) (y1 : Int) (y2 : Nat) (y3 : Int) (y4 : Int) (y5 : Int) (y6 : Int) (y7 : Int) (y8 : List VV) => iterC (codeL PP (S_ref01_Neg F) c_ref01_Neg (I_ref01_Neg F) (J_ref01_Neg F) (loopAt PP 31 0) 0) (headOf c_ref01_Neg 0) k n (fS T_ref01_Neg_0 [.i y0, .i y1, .n y2, .i y3, .i y4, .i y5, .i y6, .i y7, .c y8])) (fun (z0 : Int) (z1 : Int) (z2 : Nat) (z3 : Int) (z4 : Int) (z5 : Int) (z6 : Int) (z7 : Int) (z8 : List VV) => k (.exit 0) (fS T_ref01_Neg_0_0 [.i z0, .i z1, .n z2, .i z3, .i z4, .i z5, .i z6, .i z7, .c z8])) x0 x1 x2 x3 x4 x5 x6 x7 x8 := (h0 ok_ref01_Digits o_ref01_Digits_0 o_ref01_Digits_1 ok_ref01_Number o_ref01_Number_0 o_ref01_Number_1 ok_ref01_Of o_ref01_Of_0 o_ref01_Of_1 ok_ref01_Add o_ref01_Add_0 o_ref01_Add_1 L_ref01_Neg_0).trans (by kernel_rfl)
    rw [h]
    simp only [lL_ref01_Neg_0 F k n]
    rfl
def f_ref01_Neg (F : Nat) (a0 : Int) (a1 : Int) : R :=
  bif (ok_ref01_Digits F a0 a1) then (
    L_ref01_Neg_0 F (fun (v707 : Int) (v708 : Int) (v709 : Nat) (v710 : Int) (v711 : Int) (v712 : Int) (v713 : Int) (v714 : Int) (v715 : List VV) =>
      bif (ok_ref01_Number F v715 v709) then (
        let v716 : Int := (o_ref01_Number_0 F v715 v709)
        let v717 : Int := (o_ref01_Number_1 F v715 v709)
        bif (ok_ref01_Of F 1) then (
          let v718 : Int := (o_ref01_Of_0 F 1)
          let v719 : Int := (o_ref01_Of_1 F 1)
          bif (ok_ref01_Add F v716 v717 v718 v719) then (
            some (.v (.agg #[.int .i64 ((o_ref01_Add_0 F v716 v717 v718 v719)), .int .u64 ((o_ref01_Add_1 F v716 v717 v718 v719))])))
          else (
            none))
        else (
          none))
      else (
        none)) F a0 a1 ((o_ref01_Digits_1 F a0 a1)) 0 a0 a1 0 0 ((o_ref01_Digits_0 F a0 a1)))
  else (
    none)
theorem e_ref01_Neg (F : Nat) (a0 : Int) (a1 : Int) : funL PP (S_ref01_Neg F) c_ref01_Neg (I_ref01_Neg F) (J_ref01_Neg F) 31 (fTs ti_ref01_Neg [.i a0, .i a1]).1 = f_ref01_Neg F a0 a1 := by
  have h : ∀ (ok_ref01_Digits : Nat → Int → Int → Bool) (o_ref01_Digits_0 : Nat → Int → Int → List VV) (o_ref01_Digits_1 : Nat → Int → Int → Nat) (ok_ref01_Number : Nat → List VV → Nat → Bool) (o_ref01_Number_0 : Nat → List VV → Nat → Int) (o_ref01_Number_1 : Nat → List VV → Nat → Int) (ok_ref01_Of : Nat → Int → Bool) (o_ref01_Of_0 : Nat → Int → Int) (o_ref01_Of_1 : Nat → Int → Int) (ok_ref01_Add : Nat → Int → Int → Int → Int → Bool) (o_ref01_Add_0 : Nat → Int → Int → Int → Int → Int) (o_ref01_Add_1 : Nat → Int → Int → Int → Int → Int) (L_ref01_Neg_0 : Nat → (Int → Int → Nat → Int → Int → Int → Int → Int → List VV → R) → Nat → Int → Int → Nat → Int → Int → Int → Int → Int → List VV → R), funL PP (words [(43, spec ti_ref01_Digits to_ref01_Digits (fun q => (ok_ref01_Digits F (atI (nth q 0)) (atI (nth q 1)))) (fun q => [.c (o_ref01_Digits_0 F (atI (nth q 0)) (atI (nth q 1))), .n (o_ref01_Digits_1 F (atI (nth q 0)) (atI (nth q 1)))])), (44, spec ti_ref01_Number to_ref01_Number (fun q => (ok_ref01_Number F (atC (nth q 0)) (atN (nth q 1)))) (fun q => [.i (o_ref01_Number_0 F (atC (nth q 0)) (atN (nth q 1))), .i (o_ref01_Number_1 F (atC (nth q 0)) (atN (nth q 1)))])), (30, spec ti_ref01_Of to_ref01_Of (fun q => (ok_ref01_Of F (atI (nth q 0)))) (fun q => [.i (o_ref01_Of_0 F (atI (nth q 0))), .i (o_ref01_Of_1 F (atI (nth q 0)))])), (29, spec ti_ref01_Add to_ref01_Add (fun q => (ok_ref01_Add F (atI (nth q 0)) (atI (nth q 1)) (atI (nth q 2)) (atI (nth q 3)))) (fun q => [.i (o_ref01_Add_0 F (atI (nth q 0)) (atI (nth q 1)) (atI (nth q 2)) (atI (nth q 3))), .i (o_ref01_Add_1 F (atI (nth q 0)) (atI (nth q 1)) (atI (nth q 2)) (atI (nth q 3)))]))]) c_ref01_Neg (tabI c_ref01_Neg [⟨0, T_ref01_Neg_0, fun k q => L_ref01_Neg_0 F (fun (z0 : Int) (z1 : Int) (z2 : Nat) (z3 : Int) (z4 : Int) (z5 : Int) (z6 : Int) (z7 : Int) (z8 : List VV) => k (.exit 0) (fS T_ref01_Neg_0_0 [.i z0, .i z1, .n z2, .i z3, .i z4, .i z5, .i z6, .i z7, .c z8])) F (atI (nth q 0)) (atI (nth q 1)) (atN (nth q 2)) (atI (nth q 3)) (atI (nth q 4)) (atI (nth q 5)) (atI (nth q 6)) (atI (nth q 7)) (atC (nth q 8))⟩]) (tabJ []) 31 (fTs ti_ref01_Neg [.i a0, .i a1]).1 = (
  bif (ok_ref01_Digits F a0 a1) then (
    L_ref01_Neg_0 F (fun (v707 : Int) (v708 : Int) (v709 : Nat) (v710 : Int) (v711 : Int) (v712 : Int) (v713 : Int) (v714 : Int) (v715 : List VV) =>
      bif (ok_ref01_Number F v715 v709) then (
        let v716 : Int := (o_ref01_Number_0 F v715 v709)
        let v717 : Int := (o_ref01_Number_1 F v715 v709)
        bif (ok_ref01_Of F 1) then (
          let v718 : Int := (o_ref01_Of_0 F 1)
          let v719 : Int := (o_ref01_Of_1 F 1)
          bif (ok_ref01_Add F v716 v717 v718 v719) then (
            some (.v (.agg #[.int .i64 ((o_ref01_Add_0 F v716 v717 v718 v719)), .int .u64 ((o_ref01_Add_1 F v716 v717 v718 v719))])))
          else (
            none))
        else (
          none))
      else (
        none)) F a0 a1 ((o_ref01_Digits_1 F a0 a1)) 0 a0 a1 0 0 ((o_ref01_Digits_0 F a0 a1)))
  else (
    none) : R) := by
    intros
    kernel_rfl
  exact (h ok_ref01_Digits o_ref01_Digits_0 o_ref01_Digits_1 ok_ref01_Number o_ref01_Number_0 o_ref01_Number_1 ok_ref01_Of o_ref01_Of_0 o_ref01_Of_1 ok_ref01_Add o_ref01_Add_0 o_ref01_Add_1 L_ref01_Neg_0).trans (by kernel_rfl)
def ok_ref01_Neg (F : Nat) (a0 : Int) (a1 : Int) : Bool := okT to_ref01_Neg (f_ref01_Neg F a0 a1)
def o_ref01_Neg_0 (F : Nat) (a0 : Int) (a1 : Int) : Int := atI (nth (outT to_ref01_Neg (f_ref01_Neg F a0 a1)) 0)
def o_ref01_Neg_1 (F : Nat) (a0 : Int) (a1 : Int) : Int := atI (nth (outT to_ref01_Neg (f_ref01_Neg F a0 a1)) 1)
theorem k_ref01_Neg (F : Nat) (a0 : Int) (a1 : Int) {z0 : Int} {z1 : Int} (h : f_ref01_Neg F a0 a1 = some (.v (.agg #[.int .i64 z0, .int .u64 z1]))) : ok_ref01_Neg F a0 a1 = true ∧ o_ref01_Neg_0 F a0 a1 = z0 ∧ o_ref01_Neg_1 F a0 a1 = z1 := by
  refine ⟨?_, ?_, ?_⟩
  · unfold ok_ref01_Neg; rw [h]; kernel_rfl
  · unfold o_ref01_Neg_0; rw [h]; kernel_rfl
  · unfold o_ref01_Neg_1; rw [h]; kernel_rfl
def s_ref01_Neg (F : Nat) : List VV → Option (Bool × VV) := spec ti_ref01_Neg to_ref01_Neg (fun q => (ok_ref01_Neg F (atI (nth q 0)) (atI (nth q 1)))) (fun q => [.i (o_ref01_Neg_0 F (atI (nth q 0)) (atI (nth q 1))), .i (o_ref01_Neg_1 F (atI (nth q 0)) (atI (nth q 1)))])
theorem hS_ref01_Neg (F : Nat) : ∀ f, Good PP f (unS (S_ref01_Neg F f)) := words_good fun p hp => by
  simp only [List.mem_cons, List.not_mem_nil, or_false] at hp
  rcases hp with rfl | rfl | rfl | rfl
  · exact g_ref01_Digits F
  · exact g_ref01_Number F
  · exact g_ref01_Of F
  · exact g_ref01_Add F
theorem hl_ref01_Neg (F : Nat) : ∀ p ∈ loopsIn PP 31, LoopOK PP (S_ref01_Neg F) c_ref01_Neg F (I_ref01_Neg F) (J_ref01_Neg F) p :=
  loops_of [(0, loopAt PP 31 0)] (by kernel_rfl) (all_cons
    (loop_ok (W_ref01_Neg F) rfl (tab_cons (fun _ k q => Le.ofEq ((lL_ref01_Neg_0 F k F (atI (nth q 0)) (atI (nth q 1)) (atN (nth q 2)) (atI (nth q 3)) (atI (nth q 4)) (atI (nth q 5)) (atI (nth q 6)) (atI (nth q 7)) (atC (nth q 8))).symm.trans (congrArg (iterC (codeL PP (S_ref01_Neg F) c_ref01_Neg (I_ref01_Neg F) (J_ref01_Neg F) (loopAt PP 31 0) 0) (headOf c_ref01_Neg 0) k F) (show fS T_ref01_Neg_0 [.i (atI (nth q 0)), .i (atI (nth q 1)), .n (atN (nth q 2)), .i (atI (nth q 3)), .i (atI (nth q 4)), .i (atI (nth q 5)), .i (atI (nth q 6)), .i (atI (nth q 7)), .c (atC (nth q 8))] = fS T_ref01_Neg_0 q by kernel_rfl)))) tab_nil)) all_nil)
theorem hj_ref01_Neg (F : Nat) : ∀ p ∈ joinsIn PP c_ref01_Neg 31, JoinOK PP (S_ref01_Neg F) c_ref01_Neg (I_ref01_Neg F) (J_ref01_Neg F) p :=
  joins_of [] (by kernel_rfl) all_nil
theorem g_ref01_Neg (F : Nat) : Good PP 31 (unS (s_ref01_Neg F)) :=
  fun_spec (hS_ref01_Neg F) (by kernel_rfl) (by kernel_rfl) (C := c_ref01_Neg) (F := fun q => (f_ref01_Neg F (atI (nth q 0)) (atI (nth q 1)))) (fun _ => F) (fun _ => I_ref01_Neg F) (fun _ => J_ref01_Neg F) (fun _ => hl_ref01_Neg F) (fun _ => hj_ref01_Neg F)
    (fun q => (congrArg (funL PP (S_ref01_Neg F) c_ref01_Neg (I_ref01_Neg F) (J_ref01_Neg F) 31) (show (fTs ti_ref01_Neg q).1 = (fTs ti_ref01_Neg [.i (atI (nth q 0)), .i (atI (nth q 1))]).1 by kernel_rfl)).trans (e_ref01_Neg F (atI (nth q 0)) (atI (nth q 1))))
    (fun _ h => okT_fill' h (by kernel_rfl))

end Go.Xv
namespace Go.Xv
theorem wi64_s (i : Nat) (h : i < 1000) : IntKind.wrap .i64 ((i : Int) + 1) = ((i + 1 : Nat) : Int) := by
  rw [wi64_in (by unfold I64; omega)]; push_cast; rfl
theorem ix_ok (i n : Nat) (h : i < n) : ((decide (0 ≤ (i : Int))) && (decide ((i : Int) < ((n : Nat) : Int)))) = true := by
  rw [dt (by omega), dt (by omega)]; rfl
theorem isI_ds (z : Int) {i n : Nat} (h : i < n) : ((isI .i64 (ds z n)[0 + ((Int.toNat (i : Int)) * 1)]?) && true) = true := by
  rw [zmul, ds_get z h]; rfl
theorem iv_ds (z : Int) {i n : Nat} (h : i < n) : iv (ds z n)[0 + ((Int.toNat (i : Int)) * 1)]? = dg z i := by
  rw [zmul, ds_get z h]; rfl
theorem lp_Add_0 (F : Nat) (ex) (x y a b c d x9 x10 x11 x12 x13 x14 : Int) : ∀ (k n i : Nat) (x7 x8 : Int) (l : List VV), i + k = 128 → k < n → x7 = cy x y i → x8 = i → l = ds (x + y) i →
    L_ref01_Add_0 F ex n a b c d 128 128 i x7 x8 x9 x10 x11 x12 x13 x14 (ds x 128) (ds y 128) l = ex a b c d 128 128 128 (cy x y 128) 128 x9 x10 x11 x12 x13 x14 (ds x 128) (ds y 128) (ds (x + y) 128)
  | _, 0, _, _, _, _, _, h, _, _, _ => absurd h (by omega)
  | 0, n + 1, i, _, _, _, h, _, rfl, rfl, rfl => by
    obtain rfl : i = 128 := by omega
    rw [L_ref01_Add_0]
    unfold B_ref01_Add_0
    exact bn (df (by omega)) rfl
  | k + 1, n + 1, i, _, _, _, h, hn, rfl, rfl, rfl => by
    have hi : i < 128 := by omega
    rw [L_ref01_Add_0]
    unfold B_ref01_Add_0
    have h1 := dg_01 x i
    have h2 := dg_01 y i
    have h3 := cy_01 x y i
    obtain ⟨e1, e2⟩ := cy_succ x y i
    refine bp (dt (by omega)) (bp (ix_ok i 128 hi) (bp (isI_ds x hi) (bp (ix_ok i 128 hi) (bp (isI_ds y hi) ?_))))
    dsimp only
    rw [iv_ds x hi, iv_ds y hi, wi64_in (x := dg x i + dg y i) (by unfold I64; omega), wi64_in (x := dg x i + dg y i + cy x y i) (by unfold I64; omega)]
    refine bp (cap_ok _ _ (by omega)) ?_
    refine lp_Add_0 F ex x y a b c d x9 x10 x11 x12 x13 x14 k n (i + 1) _ _ _ (by omega) (by omega) ?_ (wi64_s i (by omega)) ?_
    · rw [Int.tdiv_eq_ediv_of_nonneg (by omega), ← e1, wi64_in]
      have := cy_01 x y (i + 1)
      unfold I64; omega
    · rw [ds_take, Int.tmod_eq_emod_of_nonneg (by omega), ← e2, ← ds_succ]
theorem f_rAdd (F : Nat) (hF : 200 ≤ F) {a b c d : Int} (hb : U64 b) (hd : U64 d) : f_ref01_Add F a b c d = some (wd (val a b + val c d)) := by
  unfold f_ref01_Add
  obtain ⟨h1, h2, h3⟩ := k_ref01_Digits F _ _ (f_Digits F hF (a := a) hb)
  obtain ⟨g1, g2, g3⟩ := k_ref01_Digits F _ _ (f_Digits F hF (a := c) hd)
  refine bp h1 (bp g1 ?_)
  rw [h2, h3, g2, g3]
  rw [lp_Add_0 F _ (val a b) (val c d) a b c d a b c d 0 0 128 F 0 0 0 [] (by omega) (by omega) (cy_zero _ _).symm rfl rfl]
  obtain ⟨n1, n2, n3⟩ := k_ref01_Number F _ _ (f_Number F hF (val a b + val c d))
  refine bp n1 ?_
  rw [n2, n3]; rfl
theorem lp_Neg_0 (F : Nat) (ex) (z x0 x1 x4 x5 x6 x7 : Int) : ∀ (k n i : Nat) (x3 : Int) (l : List VV), i + k = 128 → k < n → x3 = i → l = ds (-1 - z) i ++ (ds z 128).drop i →
    L_ref01_Neg_0 F ex n x0 x1 128 x3 x4 x5 x6 x7 l = ex x0 x1 128 128 x4 x5 x6 x7 (ds (-1 - z) 128)
  | _, 0, _, _, _, _, h, _, _ => absurd h (by omega)
  | 0, n + 1, i, _, _, h, _, rfl, rfl => by
    obtain rfl : i = 128 := by omega
    rw [L_ref01_Neg_0]
    unfold B_ref01_Neg_0
    refine bn (df (by omega)) ?_
    rw [List.drop_eq_nil_of_le (by rw [ds_len]; omega), List.append_nil]; rfl
  | k + 1, n + 1, i, _, _, h, hn, rfl, rfl => by
    have hi : i < 128 := by omega
    have hg : (ds (-1 - z) i ++ (ds z 128).drop i)[0 + ((Int.toNat (i : Int)) * 1)]? = some (.v (.int .i64 (dg z i))) := by
      rw [zmul, List.getElem?_append_right (by rw [ds_len]; omega), ds_len, Nat.sub_self, List.getElem?_drop, Nat.add_zero, ds_get z hi]
    rw [L_ref01_Neg_0]
    unfold B_ref01_Neg_0
    have h1 := dg_01 z i
    refine bp (dt (by omega)) (bp (ix_ok i 128 hi) (bp (by rw [hg]; rfl) (bp (ix_ok i 128 hi) (bp ?_ ?_))))
    · rw [zmul, dt]
      rw [List.length_append, List.length_drop, ds_len, ds_len]; omega
    · rw [hg]
      refine lp_Neg_0 F ex z x0 x1 x4 x5 x6 x7 k n (i + 1) _ _ (by omega) (by omega) (wi64_s i (by omega)) ?_
      rw [zmul, show iv (some (VV.v (.int .i64 (dg z i)))) = dg z i from rfl, wi64_in (by unfold I64; omega), ← dg_not, ds_succ (-1 - z) i]
      rw [List.take_append_of_le_length (by rw [ds_len]; omega), List.take_of_length_le (by rw [ds_len]; omega), List.drop_append, ds_len, List.drop_drop, List.drop_eq_nil_of_le (by rw [ds_len]; omega)]
      rw [show i + (i + 1 - i) = i + 1 by omega]
      simp
theorem f_rNeg (F : Nat) (hF : 200 ≤ F) {a b : Int} (hb : U64 b) : f_ref01_Neg F a b = some (wd (-val a b)) := by
  unfold f_ref01_Neg
  obtain ⟨h1, h2, h3⟩ := k_ref01_Digits F _ _ (f_Digits F hF (a := a) hb)
  refine bp h1 ?_
  rw [h2, h3]
  rw [lp_Neg_0 F _ (val a b) a b a b 0 0 128 F 0 0 _ (by omega) (by omega) rfl (by simp [ds_zero])]
  obtain ⟨n1, n2, n3⟩ := k_ref01_Number F _ _ (f_Number F hF (-1 - val a b))
  refine bp n1 ?_
  dsimp only
  obtain ⟨o1, o2, o3⟩ := k_ref01_Of F _ (f_rOf F (n := 1) (by unfold I64; omega))
  refine bp o1 ?_
  rw [n2, n3, o2, o3]
  obtain ⟨p1, p2, p3⟩ := k_ref01_Add F _ _ _ _ (f_rAdd F hF (a := hi (-1 - val a b)) (c := hi 1) (lo_U (-1 - val a b)) (lo_U 1))
  refine bp p1 ?_
  rw [p2, p3]
  have e : Eqv (val (hi (-1 - val a b)) (lo (-1 - val a b)) + val (hi 1) (lo 1)) (-val a b) := by
    rw [val_hl, val_hl]
    have := (W_eqv (-1 - val a b)).add (W_eqv 1)
    rw [show -1 - val a b + 1 = -val a b by omega] at this
    exact this
  exact some_wd (hi_eqv e) (lo_eqv e)
end Go.Xv
set_option linter.unusedVariables false
namespace Go.Xv
/- 36 _ref01_Mul -/
def c_ref01_Mul : Cfg := ⟨[0, 1, 4, 5, 6, 7, 8, 16, 23, 33], [(0, [0, 1, 4, 5, 6, 7, 8, 9, 10, 11, 12, 13, 14, 30, 31, 32, 33, 34, 35, 36, 37, 38])], [13, 36], []⟩
def ti_ref01_Mul : List TV := [.v (.int .i64), .v (.int .i64)]
def to_ref01_Mul : TV := .v (.agg [.int .i64, .int .u64])
def S_ref01_Mul (F : Nat) : FuncId → List VV → Option (Bool × VV) := words [(30, s_ref01_Of F), (43, s_ref01_Digits F), (29, s_ref01_Add F), (31, s_ref01_Neg F)]
def T_ref01_Mul_0 : TS := ⟨[(0, .v (.int .i64)), (1, .v (.int .i64)), (4, .lp 0 (.lit 0)), (5, .lp 1 (.lit 0)), (6, .lp 2 (.lit 0)), (7, .ls 3 (.lit 0) .hole 1), (8, .v (.int .i64))], [(0, ⟨(.ex [.v (.int .i64), .v (.int .u64)]), true⟩), (1, ⟨(.ex [.v (.int .i64), .v (.int .u64)]), true⟩), (2, ⟨(.ex [.v (.int .i64), .v (.int .u64)]), true⟩), (3, ⟨.hole, true⟩)], 4⟩
def T_ref01_Mul_0_0 : TS := ⟨[(0, .v (.int .i64)), (1, .v (.int .i64)), (4, .lp 0 (.lit 0)), (5, .lp 1 (.lit 0)), (6, .lp 2 (.lit 0)), (7, .ls 3 (.lit 0) .hole 1), (8, .v (.int .i64))], [(0, ⟨(.ex [.v (.int .i64), .v (.int .u64)]), true⟩), (1, ⟨(.ex [.v (.int .i64), .v (.int .u64)]), true⟩), (2, ⟨(.ex [.v (.int .i64), .v (.int .u64)]), true⟩), (3, ⟨.hole, true⟩)], 4⟩
def B_ref01_Mul_0 (F : Nat) (rc : Int → Int → Nat → Int → Int → Int → Int → Int → Int → Int → List VV → R) (ex0 : Int → Int → Nat → Int → Int → Int → Int → Int → Int → Int → List VV → R) (x0 : Int) (x1 : Int) (x2 : Nat) (x3 : Int) (x4 : Int) (x5 : Int) (x6 : Int) (x7 : Int) (x8 : Int) (x9 : Int) (x10 : List VV) : R :=
  bif ((decide (x3 < 127))) then (
    bif ((decide (0 ≤ x3)) && (decide (x3 < ((x2 : Nat) : Int)))) then (
      let v556 : Nat := (0 + ((Int.toNat x3) * 1))
      bif ((isI .i64 x10[v556]?) && true) then (
        bif ((((iv x10[v556]?)) == 1)) then (
          bif (ok_ref01_Add F x6 x7 x8 x9) then (
            bif (ok_ref01_Add F x8 x9 x8 x9) then (
              rc x0 x1 x2 ((IntKind.wrap .i64 (x3 + 1))) x4 x5 ((o_ref01_Add_0 F x6 x7 x8 x9)) ((o_ref01_Add_1 F x6 x7 x8 x9)) ((o_ref01_Add_0 F x8 x9 x8 x9)) ((o_ref01_Add_1 F x8 x9 x8 x9)) x10)
            else (
              none))
          else (
            none))
        else (
          bif (ok_ref01_Add F x8 x9 x8 x9) then (
            rc x0 x1 x2 ((IntKind.wrap .i64 (x3 + 1))) x4 x5 x6 x7 ((o_ref01_Add_0 F x8 x9 x8 x9)) ((o_ref01_Add_1 F x8 x9 x8 x9)) x10)
          else (
            none)))
      else (
        none))
    else (
      none))
  else (
    ex0 x0 x1 x2 x3 x4 x5 x6 x7 x8 x9 x10)
def L_ref01_Mul_0 (F : Nat) (ex0 : Int → Int → Nat → Int → Int → Int → Int → Int → Int → Int → List VV → R) : Nat → Int → Int → Nat → Int → Int → Int → Int → Int → Int → Int → List VV → R
  | 0, _, _, _, _, _, _, _, _, _, _, _ => none
  | n + 1, x0, x1, x2, x3, x4, x5, x6, x7, x8, x9, x10 => B_ref01_Mul_0 F (L_ref01_Mul_0 F ex0 n) ex0 x0 x1 x2 x3 x4 x5 x6 x7 x8 x9 x10
def W_ref01_Mul (F : Nat) : List LW := [⟨0, T_ref01_Mul_0, fun k q => L_ref01_Mul_0 F (fun (z0 : Int) (z1 : Int) (z2 : Nat) (z3 : Int) (z4 : Int) (z5 : Int) (z6 : Int) (z7 : Int) (z8 : Int) (z9 : Int) (z10 : List VV) => k (.exit 0) (fS T_ref01_Mul_0_0 [.i z0, .i z1, .n z2, .i z3, .i z4, .i z5, .i z6, .i z7, .i z8, .i z9, .c z10])) F (atI (nth q 0)) (atI (nth q 1)) (atN (nth q 2)) (atI (nth q 3)) (atI (nth q 4)) (atI (nth q 5)) (atI (nth q 6)) (atI (nth q 7)) (atI (nth q 8)) (atI (nth q 9)) (atC (nth q 10))⟩]
def I_ref01_Mul (F : Nat) : Nat → VS → (Exit → VS → R) → R := tabI c_ref01_Mul (W_ref01_Mul F)
def WJ_ref01_Mul (F : Nat) : List LJ := []
def J_ref01_Mul (F : Nat) : Nat → Nat → VS → (Exit → VS → R) → R := tabJ (WJ_ref01_Mul F)
theorem lL_ref01_Mul_0 (F : Nat) (k : Exit → VS → R) : ∀ (n : Nat) (x0 : Int) (x1 : Int) (x2 : Nat) (x3 : Int) (x4 : Int) (x5 : Int) (x6 : Int) (x7 : Int) (x8 : Int) (x9 : Int) (x10 : List VV), iterC (codeL PP (S_ref01_Mul F) c_ref01_Mul (I_ref01_Mul F) (J_ref01_Mul F) (loopAt PP 36 0) 0) (headOf c_ref01_Mul 0) k n (fS T_ref01_Mul_0 [.i x0, .i x1, .n x2, .i x3, .i x4, .i x5, .i x6, .i x7, .i x8, .i x9, .c x10]) = L_ref01_Mul_0 F (fun (z0 : Int) (z1 : Int) (z2 : Nat) (z3 : Int) (z4 : Int) (z5 : Int) (z6 : Int) (z7 : Int) (z8 : Int) (z9 : Int) (z10 : List VV) => k (.exit 0) (fS T_ref01_Mul_0_0 [.i z0, .i z1, .n z2, .i z3, .i z4, .i z5, .i z6, .i z7, .i z8, .i z9, .c z10])) n x0 x1 x2 x3 x4 x5 x6 x7 x8 x9 x10
  | 0, _, _, _, _, _, _, _, _, _, _, _ => rfl
  | n + 1, x0, x1, x2, x3, x4, x5, x6, x7, x8, x9, x10 => by
    have h0 : ∀ (ok_ref01_Of : Nat → Int → Bool) (o_ref01_Of_0 : Nat → Int → Int) (o_ref01_Of_1 : Nat → Int → Int) (ok_ref01_Digits : Nat → Int → Int → Bool) (o_ref01_Digits_0 : Nat → Int → Int → List VV) (o_ref01_Digits_1 : Nat → Int → Int → Nat) (ok_ref01_Add : Nat → Int → Int → Int → Int → Bool) (o_ref01_Add_0 : Nat → Int → Int → Int → Int → Int) (o_ref01_Add_1 : Nat → Int → Int → Int → Int → Int) (ok_ref01_Neg : Nat → Int → Int → Bool) (o_ref01_Neg_0 : Nat → Int → Int → Int) (o_ref01_Neg_1 : Nat → Int → Int → Int) (L_ref01_Mul_0 : Nat → (Int → Int → Nat → Int → Int → Int → Int → Int → Int → Int → List VV → R) → Nat → Int → Int → Nat → Int → Int → Int → Int → Int → Int → Int → List VV → R), iterC (codeL PP (words [(30, spec ti_ref01_Of to_ref01_Of (fun q => (ok_ref01_Of F (atI (nth q 0)))) (fun q => [.i (o_ref01_Of_0 F (atI (nth q 0))), .i (o_ref01_Of_1 F (atI (nth q 0)))])), (43, spec ti_ref01_Digits to_ref01_Digits (fun q => (ok_ref01_Digits F (atI (nth q 0)) (atI (nth q 1)))) (fun q => [.c (o_ref01_Digits_0 F (atI (nth q 0)) (atI (nth q 1))), .n (o_ref01_Digits_1 F (atI (nth q 0)) (atI (nth q 1)))])), (29, spec ti_ref01_Add to_ref01_Add (fun q => (ok_ref01_Add F (atI (nth q 0)) (atI (nth q 1)) (atI (nth q 2)) (atI (nth q 3)))) (fun q => [.i (o_ref01_Add_0 F (atI (nth q 0)) (atI (nth q 1)) (atI (nth q 2)) (atI (nth q 3))), .i (o_ref01_Add_1 F (atI (nth q 0)) (atI (nth q 1)) (atI (nth q 2)) (atI (nth q 3)))])), (31, spec ti_ref01_Neg to_ref01_Neg (fun q => (ok_ref01_Neg F (atI (nth q 0)) (atI (nth q 1)))) (fun q => [.i (o_ref01_Neg_0 F (atI (nth q 0)) (atI (nth q 1))), .i (o_ref01_Neg_1 F (atI (nth q 0)) (atI (nth q 1)))]))]) c_ref01_Mul (tabI c_ref01_Mul [⟨0, T_ref01_Mul_0, fun k q => L_ref01_Mul_0 F (fun (z0 : Int) (z1 : Int) (z2 : Nat) (z3 : Int) (z4 : Int) (z5 : Int) (z6 : Int) (z7 : Int) (z8 : Int) (z9 : Int) (z10 : List VV) => k (.exit 0) (fS T_ref01_Mul_0_0 [.i z0, .i z1, .n z2, .i z3, .i z4, .i z5, .i z6, .i z7, .i z8, .i z9, .c z10])) F (atI (nth q 0)) (atI (nth q 1)) (atN (nth q 2)) (atI (nth q 3)) (atI (nth q 4)) (atI (nth q 5)) (atI (nth q 6)) (atI (nth q 7)) (atI (nth q 8)) (atI (nth q 9)) (atC (nth q 10))⟩]) (tabJ []) (loopAt PP 36 0) 0) (headOf c_ref01_Mul 0) k (n + 1) (fS T_ref01_Mul_0 [.i x0, .i x1, .n x2, .i x3, .i x4, .i x5, .i x6, .i x7, .i x8, .i x9, .c x10]) = (fun (rc : Int → Int → Nat → Int → Int → Int → Int → Int → Int → Int → List VV → R) (ex0 : Int → Int → Nat → Int → Int → Int → Int → Int → Int → Int → List VV → R) (x0 : Int) (x1 : Int) (x2 : Nat) (x3 : Int) (x4 : Int) (x5 : Int) (x6 : Int) (x7 : Int) (x8 : Int) (x9 : Int) (x10 : List VV) => (
  bif ((decide (x3 < 127))) then (
    bif ((decide (0 ≤ x3)) && (decide (x3 < ((x2 : Nat) : Int)))) then (
      let v556 : Nat := (0 + ((Int.toNat x3) * 1))
      bif ((isI .i64 x10[v556]?) && true) then (
        bif ((((iv x10[v556]?)) == 1)) then (
          bif (ok_ref01_Add F x6 x7 x8 x9) then (
            bif (ok_ref01_Add F x8 x9 x8 x9) then (
              rc x0 x1 x2 ((IntKind.wrap .i64 (x3 + 1))) x4 x5 ((o_ref01_Add_0 F x6 x7 x8 x9)) ((o_ref01_Add_1 F x6 x7 x8 x9)) ((o_ref01_Add_0 F x8 x9 x8 x9)) ((o_ref01_Add_1 F x8 x9 x8 x9)) x10)
            else (
              none))
          else (
            none))
        else (
          bif (ok_ref01_Add F x8 x9 x8 x9) then (
            rc x0 x1 x2 ((IntKind.wrap .i64 (x3 + 1))) x4 x5 x6 x7 ((o_ref01_Add_0 F x8 x9 x8 x9)) ((o_ref01_Add_1 F x8 x9 x8 x9)) x10)
          else (
            none)))
      else (
        none))
    else (
      none))
  else (
    ex0 x0 x1 x2 x3 x4 x5 x6 x7 x8 x9 x10) : R)) (fun (y0 : Int) (y1 : Int) (y2 : Nat) (y3 : Int) (y4 : Int) (y5 : Int) (y6 : Int) (y7 : Int) (y8 : Int) (y9 : Int) (y10 : List VV) => iterC (codeL PP (words [(30, spec ti_ref01_Of to_ref01_Of (fun q => (ok_ref01_Of F (atI (nth q 0)))) (fun q => [.i (o_ref01_Of_0 F (atI (nth q 0))), .i (o_ref01_Of_1 F (atI (nth q 0)))])), (43, spec ti_ref01_Digits to_ref01_Digits (fun q => (ok_ref01_Digits F (atI (nth q 0)) (atI (nth q 1)))) (fun q => [.c (o_ref01_Digits_0 F (atI (nth q 0)) (atI (nth q 1))), .n (o_ref01_Digits_1 F (atI (nth q 0)) (atI (nth q 1)))])), (29, spec ti_ref01_Add to_ref01_Add (fun q => (ok_ref01_Add F (atI (nth q 0)) (atI (nth q 1)) (atI (nth q 2)) (atI (nth q 3)))) (fun q => [.i (o_ref01_Add_0 F (atI (nth q 0)) (atI (nth q 1)) (atI (nth q 2)) (atI (nth q 3))), .i (o_ref01_Add_1 F (atI (nth q 0)) (atI (nth q 1)) (atI (nth q 2)) (atI (nth q 3)))])), (31, spec ti_ref01_Neg to_ref01_Neg (fun q => (ok_ref01_Neg F (atI (nth q 0)) (atI (nth q 1)))) (fun q => [.i (o_ref01_Neg_0 F (atI (nth q 0)) (atI (nth q 1))), .i (o_ref01_Neg_1 F (atI (nth q 0)) (atI (nth q 1)))]))]) c_ref01_Mul (tabI c_ref01_Mul [⟨0, T_ref01_Mul_0, fun k q => L_ref01_Mul_0 F (fun (z0 : Int) (z1 : Int) (z2 : Nat) (z3 : Int) (z4 : Int) (z5 : Int) (z6 : Int) (z7 : Int) (z8 : Int) (z9 : Int) (z10 : List VV) => k (.exit 0) (fS T_ref01_Mul_0_0 [.i z0, .i z1, .n z2, .i z3, .i z4, .i z5, .i z6, .i z7, .i z8, .i z9, .c z10])) F (atI (nth q 0)) (atI (nth q 1)) (atN (nth q 2)) (atI (nth q 3)) (atI (nth q 4)) (atI (nth q 5)) (atI (nth q 6)) (atI (nth q 7)) (atI (nth q 8)) (atI (nth q 9)) (atC (nth q 10))⟩]) (tabJ []) (loopAt PP 36 0) 0) (headOf c_ref01_Mul 0) k n (fS T_ref01_Mul_0 [.i y0, .i y1, .n y2, .i y3, .i y4, .i y5, .i y6, .i y7, .i y8, .i y9, .c y10])) (fun (z0 : Int) (z1 : Int) (z2 : Nat) (z3 : Int) (z4 : Int) (z5 : Int) (z6 : Int) (z7 : Int) (z8 : Int) (z9 : Int) (z10 : List VV) => k (.exit 0) (fS T_ref01_Mul_0_0 [.i z0, .i z1, .n z2, .i z3, .i z4, .i z5, .i z6, .i z7, .i z8, .i z9, .c z10])) x0 x1 x2 x3 x4 x5 x6 x7 x8 x9 x10 := by
      intros
      kernel_rfl
    have h : iterC (codeL PP (S_ref01_Mul F) c_ref01_Mul (I_ref01_Mul F) (J_ref01_Mul F) (loopAt PP 36 0) 0) (headOf c_ref01_Mul 0) k (n + 1) (fS T_ref01_Mul_0 [.i x0, .i x1, .n x2, .i x3, .i x4, .i x5, .i x6, .i x7, .i x8, .i x9, .c x10]) = B_ref01_Mul_0 F (fun (y0 : Int) (y1 : Int) (y2 : Nat) (y3 : Int) (y4 : Int) (y5 : Int) (y6 : Int) (y7 : Int) (y8 : Int) (y9 : Int) (y10 : List VV) => iterC (codeL PP (S_ref01_Mul F) c_ref01_Mul (I_ref01_Mul F) (J_ref01_Mul F) (loopAt PP 36 0) 0) (headOf c_ref01_Mul 0) k n (fS T_ref01_Mul_0 [.i y0, .i y1, .n y2, .i y3, .i y4, .i y5, .i y6, .i y7, .i y8, .i y9, .c y10])) (fun (z0 : Int) (z1 : Int) (z2 : Nat) (z3 : Int) (z4 : Int) (z5 : Int) (z6 : Int) (z7 : Int) (z8 : Int) (z9 : Int) (z10 : List VV) => k (.exit 0) (fS T_ref01_Mul_0_0 [.i z0, .i z1, .n z2, .i z3, .i z4, .i z5, .i z6, .i z7, .i z8, .i z9, .c z10])) x0 x1 x2 x3 x4 x5 x6 x7 x8 x9 x10 := (h0 ok_ref01_Of o_ref01_Of_0 o_ref01_Of_1 ok_ref01_Digits o_ref01_Digits_0 o_ref01_Digits_1 ok_ref01_Add o_ref01_Add_0 o_ref01_Add_1 ok_ref01_Neg o_ref01_Neg_0 o_ref01_Neg_1 L_ref01_Mul_0).trans (by kernel_rfl)
    rw [h]
    simp only [lL_ref01_Mul_0 F k n]
    rfl
def f_ref01_Mul (F : Nat) (a0 : Int) (a1 : Int) : R :=
  bif (ok_ref01_Of F a0) then (
    bif (ok_ref01_Of F a1) then (
      let v489 : Int := (o_ref01_Of_0 F a1)
      let v490 : Int := (o_ref01_Of_1 F a1)
      bif (ok_ref01_Digits F v489 v490) then (
        L_ref01_Mul_0 F (fun (v676 : Int) (v677 : Int) (v678 : Nat) (v679 : Int) (v680 : Int) (v681 : Int) (v682 : Int) (v683 : Int) (v684 : Int) (v685 : Int) (v686 : List VV) =>
          bif (decide (127 < ((v678 : Nat) : Int))) then (
            bif ((isI .i64 v686[127]?) && true) then (
              bif ((((iv v686[127]?)) == 1)) then (
                bif (ok_ref01_Neg F v684 v685) then (
                  let v722 : Int := (o_ref01_Neg_0 F v684 v685)
                  let v723 : Int := (o_ref01_Neg_1 F v684 v685)
                  bif (ok_ref01_Add F v682 v683 v722 v723) then (
                    some (.v (.agg #[.int .i64 ((o_ref01_Add_0 F v682 v683 v722 v723)), .int .u64 ((o_ref01_Add_1 F v682 v683 v722 v723))])))
                  else (
                    none))
                else (
                  none))
              else (
                some (.v (.agg #[.int .i64 v682, .int .u64 v683]))))
            else (
              none))
          else (
            none)) F a0 a1 ((o_ref01_Digits_1 F v489 v490)) 0 0 0 0 0 ((o_ref01_Of_0 F a0)) ((o_ref01_Of_1 F a0)) ((o_ref01_Digits_0 F v489 v490)))
      else (
        none))
    else (
      none))
  else (
    none)
theorem e_ref01_Mul (F : Nat) (a0 : Int) (a1 : Int) : funL PP (S_ref01_Mul F) c_ref01_Mul (I_ref01_Mul F) (J_ref01_Mul F) 36 (fTs ti_ref01_Mul [.i a0, .i a1]).1 = f_ref01_Mul F a0 a1 := by
  have h : ∀ (ok_ref01_Of : Nat → Int → Bool) (o_ref01_Of_0 : Nat → Int → Int) (o_ref01_Of_1 : Nat → Int → Int) (ok_ref01_Digits : Nat → Int → Int → Bool) (o_ref01_Digits_0 : Nat → Int → Int → List VV) (o_ref01_Digits_1 : Nat → Int → Int → Nat) (ok_ref01_Add : Nat → Int → Int → Int → Int → Bool) (o_ref01_Add_0 : Nat → Int → Int → Int → Int → Int) (o_ref01_Add_1 : Nat → Int → Int → Int → Int → Int) (ok_ref01_Neg : Nat → Int → Int → Bool) (o_ref01_Neg_0 : Nat → Int → Int → Int) (o_ref01_Neg_1 : Nat → Int → Int → Int) (L_ref01_Mul_0 : Nat → (Int → Int → Nat → Int → Int → Int → Int → Int → Int → Int → List VV → R) → Nat → Int → Int → Nat → Int → Int → Int → Int → Int → Int → Int → List VV → R), funL PP (words [(30, spec ti_ref01_Of to_ref01_Of (fun q => (ok_ref01_Of F (atI (nth q 0)))) (fun q => [.i (o_ref01_Of_0 F (atI (nth q 0))), .i (o_ref01_Of_1 F (atI (nth q 0)))])), (43, spec ti_ref01_Digits to_ref01_Digits (fun q => (ok_ref01_Digits F (atI (nth q 0)) (atI (nth q 1)))) (fun q => [.c (o_ref01_Digits_0 F (atI (nth q 0)) (atI (nth q 1))), .n (o_ref01_Digits_1 F (atI (nth q 0)) (atI (nth q 1)))])), (29, spec ti_ref01_Add to_ref01_Add (fun q => (ok_ref01_Add F (atI (nth q 0)) (atI (nth q 1)) (atI (nth q 2)) (atI (nth q 3)))) (fun q => [.i (o_ref01_Add_0 F (atI (nth q 0)) (atI (nth q 1)) (atI (nth q 2)) (atI (nth q 3))), .i (o_ref01_Add_1 F (atI (nth q 0)) (atI (nth q 1)) (atI (nth q 2)) (atI (nth q 3)))])), (31, spec ti_ref01_Neg to_ref01_Neg (fun q => (ok_ref01_Neg F (atI (nth q 0)) (atI (nth q 1)))) (fun q => [.i (o_ref01_Neg_0 F (atI (nth q 0)) (atI (nth q 1))), .i (o_ref01_Neg_1 F (atI (nth q 0)) (atI (nth q 1)))]))]) c_ref01_Mul (tabI c_ref01_Mul [⟨0, T_ref01_Mul_0, fun k q => L_ref01_Mul_0 F (fun (z0 : Int) (z1 : Int) (z2 : Nat) (z3 : Int) (z4 : Int) (z5 : Int) (z6 : Int) (z7 : Int) (z8 : Int) (z9 : Int) (z10 : List VV) => k (.exit 0) (fS T_ref01_Mul_0_0 [.i z0, .i z1, .n z2, .i z3, .i z4, .i z5, .i z6, .i z7, .i z8, .i z9, .c z10])) F (atI (nth q 0)) (atI (nth q 1)) (atN (nth q 2)) (atI (nth q 3)) (atI (nth q 4)) (atI (nth q 5)) (atI (nth q 6)) (atI (nth q 7)) (atI (nth q 8)) (atI (nth q 9)) (atC (nth q 10))⟩]) (tabJ []) 36 (fTs ti_ref01_Mul [.i a0, .i a1]).1 = (
  bif (ok_ref01_Of F a0) then (
    bif (ok_ref01_Of F a1) then (
      let v489 : Int := (o_ref01_Of_0 F a1)
      let v490 : Int := (o_ref01_Of_1 F a1)
      bif (ok_ref01_Digits F v489 v490) then (
        L_ref01_Mul_0 F (fun (v676 : Int) (v677 : Int) (v678 : Nat) (v679 : Int) (v680 : Int) (v681 : Int) (v682 : Int) (v683 : Int) (v684 : Int) (v685 : Int) (v686 : List VV) =>
          bif (decide (127 < ((v678 : Nat) : Int))) then (
            bif ((isI .i64 v686[127]?) && true) then (
              bif ((((iv v686[127]?)) == 1)) then (
                bif (ok_ref01_Neg F v684 v685) then (
                  let v722 : Int := (o_ref01_Neg_0 F v684 v685)
                  let v723 : Int := (o_ref01_Neg_1 F v684 v685)
                  bif (ok_ref01_Add F v682 v683 v722 v723) then (
                    some (.v (.agg #[.int .i64 ((o_ref01_Add_0 F v682 v683 v722 v723)), .int .u64 ((o_ref01_Add_1 F v682 v683 v722 v723))])))
                  else (
                    none))
                else (
                  none))
              else (
                some (.v (.agg #[.int .i64 v682, .int .u64 v683]))))
            else (
              none))
          else (
            none)) F a0 a1 ((o_ref01_Digits_1 F v489 v490)) 0 0 0 0 0 ((o_ref01_Of_0 F a0)) ((o_ref01_Of_1 F a0)) ((o_ref01_Digits_0 F v489 v490)))
      else (
        none))
    else (
      none))
  else (
    none) : R) := by
    intros
    kernel_rfl
  exact (h ok_ref01_Of o_ref01_Of_0 o_ref01_Of_1 ok_ref01_Digits o_ref01_Digits_0 o_ref01_Digits_1 ok_ref01_Add o_ref01_Add_0 o_ref01_Add_1 ok_ref01_Neg o_ref01_Neg_0 o_ref01_Neg_1 L_ref01_Mul_0).trans (by kernel_rfl)
def ok_ref01_Mul (F : Nat) (a0 : Int) (a1 : Int) : Bool := okT to_ref01_Mul (f_ref01_Mul F a0 a1)
def o_ref01_Mul_0 (F : Nat) (a0 : Int) (a1 : Int) : Int := atI (nth (outT to_ref01_Mul (f_ref01_Mul F a0 a1)) 0)
def o_ref01_Mul_1 (F : Nat) (a0 : Int) (a1 : Int) : Int := atI (nth (outT to_ref01_Mul (f_ref01_Mul F a0 a1)) 1)
theorem k_ref01_Mul (F : Nat) (a0 : Int) (a1 : Int) {z0 : Int} {z1 : Int} (h : f_ref01_Mul F a0 a1 = some (.v (.agg #[.int .i64 z0, .int .u64 z1]))) : ok_ref01_Mul F a0 a1 = true ∧ o_ref01_Mul_0 F a0 a1 = z0 ∧ o_ref01_Mul_1 F a0 a1 = z1 := by
  refine ⟨?_, ?_, ?_⟩
  · unfold ok_ref01_Mul; rw [h]; kernel_rfl
  · unfold o_ref01_Mul_0; rw [h]; kernel_rfl
  · unfold o_ref01_Mul_1; rw [h]; kernel_rfl
def s_ref01_Mul (F : Nat) : List VV → Option (Bool × VV) := spec ti_ref01_Mul to_ref01_Mul (fun q => (ok_ref01_Mul F (atI (nth q 0)) (atI (nth q 1)))) (fun q => [.i (o_ref01_Mul_0 F (atI (nth q 0)) (atI (nth q 1))), .i (o_ref01_Mul_1 F (atI (nth q 0)) (atI (nth q 1)))])
theorem hS_ref01_Mul (F : Nat) : ∀ f, Good PP f (unS (S_ref01_Mul F f)) := words_good fun p hp => by
  simp only [List.mem_cons, List.not_mem_nil, or_false] at hp
  rcases hp with rfl | rfl | rfl | rfl
  · exact g_ref01_Of F
  · exact g_ref01_Digits F
  · exact g_ref01_Add F
  · exact g_ref01_Neg F
theorem hl_ref01_Mul (F : Nat) : ∀ p ∈ loopsIn PP 36, LoopOK PP (S_ref01_Mul F) c_ref01_Mul F (I_ref01_Mul F) (J_ref01_Mul F) p :=
  loops_of [(0, loopAt PP 36 0)] (by kernel_rfl) (all_cons
    (loop_ok (W_ref01_Mul F) rfl (tab_cons (fun _ k q => Le.ofEq ((lL_ref01_Mul_0 F k F (atI (nth q 0)) (atI (nth q 1)) (atN (nth q 2)) (atI (nth q 3)) (atI (nth q 4)) (atI (nth q 5)) (atI (nth q 6)) (atI (nth q 7)) (atI (nth q 8)) (atI (nth q 9)) (atC (nth q 10))).symm.trans (congrArg (iterC (codeL PP (S_ref01_Mul F) c_ref01_Mul (I_ref01_Mul F) (J_ref01_Mul F) (loopAt PP 36 0) 0) (headOf c_ref01_Mul 0) k F) (show fS T_ref01_Mul_0 [.i (atI (nth q 0)), .i (atI (nth q 1)), .n (atN (nth q 2)), .i (atI (nth q 3)), .i (atI (nth q 4)), .i (atI (nth q 5)), .i (atI (nth q 6)), .i (atI (nth q 7)), .i (atI (nth q 8)), .i (atI (nth q 9)), .c (atC (nth q 10))] = fS T_ref01_Mul_0 q by kernel_rfl)))) tab_nil)) all_nil)
theorem hj_ref01_Mul (F : Nat) : ∀ p ∈ joinsIn PP c_ref01_Mul 36, JoinOK PP (S_ref01_Mul F) c_ref01_Mul (I_ref01_Mul F) (J_ref01_Mul F) p :=
  joins_of [] (by kernel_rfl) all_nil
theorem g_ref01_Mul (F : Nat) : Good PP 36 (unS (s_ref01_Mul F)) :=
  fun_spec (hS_ref01_Mul F) (by kernel_rfl) (by kernel_rfl) (C := c_ref01_Mul) (F := fun q => (f_ref01_Mul F (atI (nth q 0)) (atI (nth q 1)))) (fun _ => F) (fun _ => I_ref01_Mul F) (fun _ => J_ref01_Mul F) (fun _ => hl_ref01_Mul F) (fun _ => hj_ref01_Mul F)
    (fun q => (congrArg (funL PP (S_ref01_Mul F) c_ref01_Mul (I_ref01_Mul F) (J_ref01_Mul F) 36) (show (fTs ti_ref01_Mul q).1 = (fTs ti_ref01_Mul [.i (atI (nth q 0)), .i (atI (nth q 1))]).1 by kernel_rfl)).trans (e_ref01_Mul F (atI (nth q 0)) (atI (nth q 1))))
    (fun _ h => okT_fill' h (by kernel_rfl))

end Go.Xv
namespace Go.Xv
theorem a_Add (F : Nat) (x y : Int) : ok_wide_Add F (hi x) (lo x) (hi y) (lo y) = true ∧ o_wide_Add_0 F (hi x) (lo x) (hi y) (lo y) = hi (x + y) ∧ o_wide_Add_1 F (hi x) (lo x) (hi y) (lo y) = lo (x + y) := by
  obtain ⟨h1, h2, h3⟩ := k_wide_Add F _ _ _ _ (f_Add F (a := hi x) (c := hi y) (lo_U x) (lo_U y))
  rw [h2, h3, val_hl, val_hl]
  have e := (W_eqv x).add (W_eqv y)
  exact ⟨h1, hi_eqv e, lo_eqv e⟩
theorem a_rAdd (F : Nat) (hF : 200 ≤ F) (x y : Int) : ok_ref01_Add F (hi x) (lo x) (hi y) (lo y) = true ∧ o_ref01_Add_0 F (hi x) (lo x) (hi y) (lo y) = hi (x + y) ∧ o_ref01_Add_1 F (hi x) (lo x) (hi y) (lo y) = lo (x + y) := by
  obtain ⟨h1, h2, h3⟩ := k_ref01_Add F _ _ _ _ (f_rAdd F hF (a := hi x) (c := hi y) (lo_U x) (lo_U y))
  rw [h2, h3, val_hl, val_hl]
  have e := (W_eqv x).add (W_eqv y)
  exact ⟨h1, hi_eqv e, lo_eqv e⟩
theorem a_Neg (F : Nat) (x : Int) : ok_wide_Neg F (hi x) (lo x) = true ∧ o_wide_Neg_0 F (hi x) (lo x) = hi (-x) ∧ o_wide_Neg_1 F (hi x) (lo x) = lo (-x) := by
  obtain ⟨h1, h2, h3⟩ := k_wide_Neg F _ _ (f_Neg F (hi_I x) (lo_U x))
  rw [h2, h3, val_hl]
  exact ⟨h1, hi_eqv (W_eqv x).neg, lo_eqv (W_eqv x).neg⟩
theorem a_rNeg (F : Nat) (hF : 200 ≤ F) (x : Int) : ok_ref01_Neg F (hi x) (lo x) = true ∧ o_ref01_Neg_0 F (hi x) (lo x) = hi (-x) ∧ o_ref01_Neg_1 F (hi x) (lo x) = lo (-x) := by
  obtain ⟨h1, h2, h3⟩ := k_ref01_Neg F _ _ (f_rNeg F hF (a := hi x) (lo_U x))
  rw [h2, h3, val_hl]
  exact ⟨h1, hi_eqv (W_eqv x).neg, lo_eqv (W_eqv x).neg⟩
theorem a_Of (F : Nat) {n : Int} (h : I64 n) : ok_wide_Of F n = true ∧ o_wide_Of_0 F n = hi n ∧ o_wide_Of_1 F n = lo n := k_wide_Of F _ (f_Of F h)
theorem a_rOf (F : Nat) {n : Int} (h : I64 n) : ok_ref01_Of F n = true ∧ o_ref01_Of_0 F n = hi n ∧ o_ref01_Of_1 F n = lo n := k_ref01_Of F _ (f_rOf F h)
theorem a_Mul (F : Nat) {a b : Int} (ha : I64 a) (hb : I64 b) : ok_wide_Mul F a b = true ∧ o_wide_Mul_0 F a b = hi (a * b) ∧ o_wide_Mul_1 F a b = lo (a * b) := k_wide_Mul F _ _ (f_Mul F ha hb)
theorem lp_Mul_0 (F : Nat) (hF : 200 ≤ F) (ex) (a b x0 x1 x4 x5 : Int) : ∀ (k n i : Nat) (x3 x6 x7 x8 x9 : Int), i + k = 127 → k < n → x3 = i → x6 = hi (a * num b i) → x7 = lo (a * num b i) → x8 = hi (a * 2 ^ i) → x9 = lo (a * 2 ^ i) →
    L_ref01_Mul_0 F ex n x0 x1 128 x3 x4 x5 x6 x7 x8 x9 (ds b 128) = ex x0 x1 128 127 x4 x5 (hi (a * num b 127)) (lo (a * num b 127)) (hi (a * 2 ^ 127)) (lo (a * 2 ^ 127)) (ds b 128)
  | _, 0, _, _, _, _, _, _, _, h, _, _, _, _, _ => absurd h (by omega)
  | 0, n + 1, i, _, _, _, _, _, h, _, rfl, rfl, rfl, rfl, rfl => by
    obtain rfl : i = 127 := by omega
    rw [L_ref01_Mul_0]
    unfold B_ref01_Mul_0
    exact bn (df (by omega)) rfl
  | k + 1, n + 1, i, _, _, _, _, _, h, hn, rfl, rfl, rfl, rfl, rfl => by
    have hi' : i < 128 := by omega
    rw [L_ref01_Mul_0]
    unfold B_ref01_Mul_0
    refine bp (dt (by omega)) (bp (ix_ok i 128 hi') (bp (isI_ds b hi') ?_))
    rw [iv_ds b hi']
    obtain ⟨d1, d2, d3⟩ := a_rAdd F hF (a * 2 ^ i) (a * 2 ^ i)
    have e2 : a * 2 ^ i + a * 2 ^ i = a * 2 ^ (i + 1) := by rw [Int.pow_succ, ← Int.mul_assoc]; omega
    rw [e2] at d2 d3
    rcases (show dg b i = 0 ∨ dg b i = 1 by have := dg_01 b i; omega) with hd | hd
    · refine bn (by rw [hd]; rfl) (bp d1 ?_)
      have e : num b (i + 1) = num b i := by rw [num_succ, hd]; omega
      exact lp_Mul_0 F hF ex a b x0 x1 x4 x5 k n (i + 1) _ _ _ _ _ (by omega) (by omega) (wi64_s i (by omega)) (by rw [e]) (by rw [e]) d2 d3
    · obtain ⟨c1, c2, c3⟩ := a_rAdd F hF (a * num b i) (a * 2 ^ i)
      have e : a * num b i + a * 2 ^ i = a * num b (i + 1) := by rw [num_succ, hd, Int.mul_add, Int.one_mul]
      rw [e] at c2 c3
      refine bp (by rw [hd]; rfl) (bp c1 (bp d1 ?_))
      exact lp_Mul_0 F hF ex a b x0 x1 x4 x5 k n (i + 1) _ _ _ _ _ (by omega) (by omega) (wi64_s i (by omega)) c2 c3 d2 d3
theorem num_127 {b : Int} (h : W128 b) : b = num b 127 - dg b 127 * 2 ^ 127 := by
  unfold num dg
  unfold W128 at h
  rw [show (2 : Int) ^ 127 = 170141183460469231731687303715884105728 by decide]
  omega
theorem I64_W {b : Int} (h : I64 b) : W128 b := by unfold I64 at h; unfold W128; omega
theorem f_rMul (F : Nat) (hF : 200 ≤ F) {a b : Int} (ha : I64 a) (hb : I64 b) : f_ref01_Mul F a b = some (wd (a * b)) := by
  unfold f_ref01_Mul
  obtain ⟨h1, h2, h3⟩ := a_rOf F ha
  obtain ⟨g1, g2, g3⟩ := a_rOf F hb
  obtain ⟨d1, d2, d3⟩ := k_ref01_Digits F _ _ (f_Digits F hF (a := hi b) (lo_U b))
  rw [val_hl, W_in (I64_W hb)] at d2
  refine bp h1 (bp g1 ?_)
  rw [g2, g3, h2, h3]
  refine bp d1 ?_
  rw [d2, d3]
  rw [lp_Mul_0 F hF _ a b a b 0 0 127 F 0 0 0 0 _ _ (by omega) (by omega) rfl (by rw [num_zero, Int.mul_zero]; rfl) (by rw [num_zero, Int.mul_zero]; rfl) (by rw [Int.pow_zero, Int.mul_one]) (by rw [Int.pow_zero, Int.mul_one])]
  have hn := num_127 (I64_W hb)
  refine bp (dt (by decide)) (bp (isI_ds b (i := 127) (by omega)) ?_)
  have hg : iv (ds b 128)[127]? = dg b 127 := by rw [ds_get b (by omega)]; rfl
  rw [hg]
  rcases (show dg b 127 = 0 ∨ dg b 127 = 1 by have := dg_01 b 127; omega) with hd | hd
  · refine bn (by rw [hd]; rfl) ?_
    rw [hd] at hn
    rw [show num b 127 = b by omega]; rfl
  · obtain ⟨n1, n2, n3⟩ := a_rNeg F hF (a * 2 ^ 127)
    refine bp (by rw [hd]; rfl) (bp n1 ?_)
    rw [n2, n3]
    obtain ⟨c1, c2, c3⟩ := a_rAdd F hF (a * num b 127) (-(a * 2 ^ 127))
    refine bp c1 ?_
    rw [c2, c3]
    rw [hd] at hn
    have e : a * num b 127 + -(a * 2 ^ 127) = a * b := by
      rw [show num b 127 = b + 2 ^ 127 by omega, Int.mul_add]; omega
    rw [e]; rfl
theorem a_rMul (F : Nat) (hF : 200 ≤ F) {a b : Int} (ha : I64 a) (hb : I64 b) : ok_ref01_Mul F a b = true ∧ o_ref01_Mul_0 F a b = hi (a * b) ∧ o_ref01_Mul_1 F a b = lo (a * b) := k_ref01_Mul F _ _ (f_rMul F hF ha hb)
end Go.Xv
set_option linter.unusedVariables false
namespace Go.Xv
/- 32 _ref01_Less -/
def c_ref01_Less : Cfg := ⟨[0, 1, 2, 3, 4], [], [], []⟩
def ti_ref01_Less : List TV := [.v (.agg [.int .i64, .int .u64]), .v (.agg [.int .i64, .int .u64])]
def to_ref01_Less : TV := .v (.bool)
def S_ref01_Less (F : Nat) : FuncId → List VV → Option (Bool × VV) := words []
def W_ref01_Less (F : Nat) : List LW := []
def I_ref01_Less (F : Nat) : Nat → VS → (Exit → VS → R) → R := tabI c_ref01_Less (W_ref01_Less F)
def WJ_ref01_Less (F : Nat) : List LJ := []
def J_ref01_Less (F : Nat) : Nat → Nat → VS → (Exit → VS → R) → R := tabJ (WJ_ref01_Less F)
def f_ref01_Less (F : Nat) (a0 : Int) (a1 : Int) (a2 : Int) (a3 : Int) : R :=
  bif ((decide (a0 < a2))) then (
    some (.v (.bool true)))
  else (
    bif ((a0 == a2)) then (
      some (.v (.bool ((decide (a1 < a3))))))
    else (
      some (.v (.bool false))))
theorem e_ref01_Less (F : Nat) (a0 : Int) (a1 : Int) (a2 : Int) (a3 : Int) : funL PP (S_ref01_Less F) c_ref01_Less (I_ref01_Less F) (J_ref01_Less F) 32 (fTs ti_ref01_Less [.i a0, .i a1, .i a2, .i a3]).1 = f_ref01_Less F a0 a1 a2 a3 := by
  have h : ∀ (_ : Unit), funL PP (words []) c_ref01_Less (tabI c_ref01_Less []) (tabJ []) 32 (fTs ti_ref01_Less [.i a0, .i a1, .i a2, .i a3]).1 = (
  bif ((decide (a0 < a2))) then (
    some (.v (.bool true)))
  else (
    bif ((a0 == a2)) then (
      some (.v (.bool ((decide (a1 < a3))))))
    else (
      some (.v (.bool false)))) : R) := by
    intros
    kernel_rfl
  exact (h ()).trans (by kernel_rfl)
def ok_ref01_Less (F : Nat) (a0 : Int) (a1 : Int) (a2 : Int) (a3 : Int) : Bool := okT to_ref01_Less (f_ref01_Less F a0 a1 a2 a3)
def o_ref01_Less_0 (F : Nat) (a0 : Int) (a1 : Int) (a2 : Int) (a3 : Int) : Bool := atB (nth (outT to_ref01_Less (f_ref01_Less F a0 a1 a2 a3)) 0)
theorem k_ref01_Less (F : Nat) (a0 : Int) (a1 : Int) (a2 : Int) (a3 : Int) {z0 : Bool} (h : f_ref01_Less F a0 a1 a2 a3 = some (.v (.bool z0))) : ok_ref01_Less F a0 a1 a2 a3 = true ∧ o_ref01_Less_0 F a0 a1 a2 a3 = z0 := by
  refine ⟨?_, ?_⟩
  · unfold ok_ref01_Less; rw [h]; kernel_rfl
  · unfold o_ref01_Less_0; rw [h]; kernel_rfl
def s_ref01_Less (F : Nat) : List VV → Option (Bool × VV) := spec ti_ref01_Less to_ref01_Less (fun q => (ok_ref01_Less F (atI (nth q 0)) (atI (nth q 1)) (atI (nth q 2)) (atI (nth q 3)))) (fun q => [.b (o_ref01_Less_0 F (atI (nth q 0)) (atI (nth q 1)) (atI (nth q 2)) (atI (nth q 3)))])
theorem hS_ref01_Less (F : Nat) : ∀ f, Good PP f (unS (S_ref01_Less F f)) := words_good fun p hp => by
  cases hp
theorem hl_ref01_Less (F : Nat) : ∀ p ∈ loopsIn PP 32, LoopOK PP (S_ref01_Less F) c_ref01_Less F (I_ref01_Less F) (J_ref01_Less F) p :=
  loops_of [] (by kernel_rfl) all_nil
theorem hj_ref01_Less (F : Nat) : ∀ p ∈ joinsIn PP c_ref01_Less 32, JoinOK PP (S_ref01_Less F) c_ref01_Less (I_ref01_Less F) (J_ref01_Less F) p :=
  joins_of [] (by kernel_rfl) all_nil
theorem g_ref01_Less (F : Nat) : Good PP 32 (unS (s_ref01_Less F)) :=
  fun_spec (hS_ref01_Less F) (by kernel_rfl) (by kernel_rfl) (C := c_ref01_Less) (F := fun q => (f_ref01_Less F (atI (nth q 0)) (atI (nth q 1)) (atI (nth q 2)) (atI (nth q 3)))) (fun _ => F) (fun _ => I_ref01_Less F) (fun _ => J_ref01_Less F) (fun _ => hl_ref01_Less F) (fun _ => hj_ref01_Less F)
    (fun q => (congrArg (funL PP (S_ref01_Less F) c_ref01_Less (I_ref01_Less F) (J_ref01_Less F) 32) (show (fTs ti_ref01_Less q).1 = (fTs ti_ref01_Less [.i (atI (nth q 0)), .i (atI (nth q 1)), .i (atI (nth q 2)), .i (atI (nth q 3))]).1 by kernel_rfl)).trans (e_ref01_Less F (atI (nth q 0)) (atI (nth q 1)) (atI (nth q 2)) (atI (nth q 3))))
    (fun _ h => okT_fill' h (by kernel_rfl))

end Go.Xv
namespace Go.Xv
theorem f_rLess (F : Nat) {a b c d : Int} (hb : U64 b) (hd : U64 d) : f_ref01_Less F a b c d = some (.v (.bool (decide (val a b < val c d)))) := by
  unfold f_ref01_Less val
  unfold U64 at hb hd
  by_cases h : a < c
  · refine bp (dt h) (some_bool ?_)
    exact (dt (by omega)).symm
  · refine bn (df h) ?_
    by_cases h2 : a = c
    · refine bp (by simp [h2]) (some_bool ?_)
      rw [decide_eq_decide]; omega
    · refine bn (by simp [h2]) (some_bool ?_)
      exact (df (by omega)).symm
theorem a_Less (F : Nat) {x y : Int} (hx : W128 x) (hy : W128 y) : ok_wide_Less F (hi x) (lo x) (hi y) (lo y) = true ∧ o_wide_Less_0 F (hi x) (lo x) (hi y) (lo y) = decide (x < y) := by
  have := k_wide_Less F _ _ _ _ (f_Less F (a := hi x) (c := hi y) (lo_U x) (lo_U y))
  rw [val_hl, val_hl, W_in hx, W_in hy] at this
  exact this
theorem a_rLess (F : Nat) {x y : Int} (hx : W128 x) (hy : W128 y) : ok_ref01_Less F (hi x) (lo x) (hi y) (lo y) = true ∧ o_ref01_Less_0 F (hi x) (lo x) (hi y) (lo y) = decide (x < y) := by
  have := k_ref01_Less F _ _ _ _ (f_rLess F (a := hi x) (c := hi y) (lo_U x) (lo_U y))
  rw [val_hl, val_hl, W_in hx, W_in hy] at this
  exact this

end Go.Xv
set_option linter.unusedVariables false
namespace Go.Xv
/- 22 _fence_side -/
def c_fence_side : Cfg := ⟨[0, 1, 2, 3, 4, 5, 6, 7, 8, 31, 35], [], [], []⟩
def ti_fence_side : List TV := [.v (.agg [.int .i64, .int .i64]), .v (.agg [.int .i64, .int .i64]), .v (.agg [.int .i64, .int .i64])]
def to_fence_side : TV := .v (.int .i64)
def S_fence_side (F : Nat) : FuncId → List VV → Option (Bool × VV) := words [(34, s_wide_Mul F), (35, s_wide_Less F)]
def W_fence_side (F : Nat) : List LW := []
def I_fence_side (F : Nat) : Nat → VS → (Exit → VS → R) → R := tabI c_fence_side (W_fence_side F)
def WJ_fence_side (F : Nat) : List LJ := []
def J_fence_side (F : Nat) : Nat → Nat → VS → (Exit → VS → R) → R := tabJ (WJ_fence_side F)
def f_fence_side (F : Nat) (a0 : Int) (a1 : Int) (a2 : Int) (a3 : Int) (a4 : Int) (a5 : Int) : R :=
  let v30 : Int := (IntKind.wrap .i64 (a2 - a0))
  let v31 : Int := (IntKind.wrap .i64 (a5 - a1))
  bif (ok_wide_Mul F v30 v31) then (
    let v78 : Int := (o_wide_Mul_0 F v30 v31)
    let v79 : Int := (o_wide_Mul_1 F v30 v31)
    let v80 : Int := (IntKind.wrap .i64 (a3 - a1))
    let v81 : Int := (IntKind.wrap .i64 (a4 - a0))
    bif (ok_wide_Mul F v80 v81) then (
      let v82 : Int := (o_wide_Mul_0 F v80 v81)
      let v83 : Int := (o_wide_Mul_1 F v80 v81)
      bif (((v78 == v82) && (v79 == v83))) then (
        some (.v (.int .i64 0)))
      else (
        bif (ok_wide_Less F v78 v79 v82 v83) then (
          bif ((o_wide_Less_0 F v78 v79 v82 v83)) then (
            some (.v (.int .i64 (-1))))
          else (
            some (.v (.int .i64 1))))
        else (
          none)))
    else (
      none))
  else (
    none)
theorem e_fence_side (F : Nat) (a0 : Int) (a1 : Int) (a2 : Int) (a3 : Int) (a4 : Int) (a5 : Int) : funL PP (S_fence_side F) c_fence_side (I_fence_side F) (J_fence_side F) 22 (fTs ti_fence_side [.i a0, .i a1, .i a2, .i a3, .i a4, .i a5]).1 = f_fence_side F a0 a1 a2 a3 a4 a5 := by
  have h : ∀ (ok_wide_Mul : Nat → Int → Int → Bool) (o_wide_Mul_0 : Nat → Int → Int → Int) (o_wide_Mul_1 : Nat → Int → Int → Int) (ok_wide_Less : Nat → Int → Int → Int → Int → Bool) (o_wide_Less_0 : Nat → Int → Int → Int → Int → Bool), funL PP (words [(34, spec ti_wide_Mul to_wide_Mul (fun q => (ok_wide_Mul F (atI (nth q 0)) (atI (nth q 1)))) (fun q => [.i (o_wide_Mul_0 F (atI (nth q 0)) (atI (nth q 1))), .i (o_wide_Mul_1 F (atI (nth q 0)) (atI (nth q 1)))])), (35, spec ti_wide_Less to_wide_Less (fun q => (ok_wide_Less F (atI (nth q 0)) (atI (nth q 1)) (atI (nth q 2)) (atI (nth q 3)))) (fun q => [.b (o_wide_Less_0 F (atI (nth q 0)) (atI (nth q 1)) (atI (nth q 2)) (atI (nth q 3)))]))]) c_fence_side (tabI c_fence_side []) (tabJ []) 22 (fTs ti_fence_side [.i a0, .i a1, .i a2, .i a3, .i a4, .i a5]).1 = (
  let v30 : Int := (IntKind.wrap .i64 (a2 - a0))
  let v31 : Int := (IntKind.wrap .i64 (a5 - a1))
  bif (ok_wide_Mul F v30 v31) then (
    let v78 : Int := (o_wide_Mul_0 F v30 v31)
    let v79 : Int := (o_wide_Mul_1 F v30 v31)
    let v80 : Int := (IntKind.wrap .i64 (a3 - a1))
    let v81 : Int := (IntKind.wrap .i64 (a4 - a0))
    bif (ok_wide_Mul F v80 v81) then (
      let v82 : Int := (o_wide_Mul_0 F v80 v81)
      let v83 : Int := (o_wide_Mul_1 F v80 v81)
      bif (((v78 == v82) && (v79 == v83))) then (
        some (.v (.int .i64 0)))
      else (
        bif (ok_wide_Less F v78 v79 v82 v83) then (
          bif ((o_wide_Less_0 F v78 v79 v82 v83)) then (
            some (.v (.int .i64 (-1))))
          else (
            some (.v (.int .i64 1))))
        else (
          none)))
    else (
      none))
  else (
    none) : R) := by
    intros
    kernel_rfl
  exact (h ok_wide_Mul o_wide_Mul_0 o_wide_Mul_1 ok_wide_Less o_wide_Less_0).trans (by kernel_rfl)
def ok_fence_side (F : Nat) (a0 : Int) (a1 : Int) (a2 : Int) (a3 : Int) (a4 : Int) (a5 : Int) : Bool := okT to_fence_side (f_fence_side F a0 a1 a2 a3 a4 a5)
def o_fence_side_0 (F : Nat) (a0 : Int) (a1 : Int) (a2 : Int) (a3 : Int) (a4 : Int) (a5 : Int) : Int := atI (nth (outT to_fence_side (f_fence_side F a0 a1 a2 a3 a4 a5)) 0)
theorem k_fence_side (F : Nat) (a0 : Int) (a1 : Int) (a2 : Int) (a3 : Int) (a4 : Int) (a5 : Int) {z0 : Int} (h : f_fence_side F a0 a1 a2 a3 a4 a5 = some (.v (.int .i64 z0))) : ok_fence_side F a0 a1 a2 a3 a4 a5 = true ∧ o_fence_side_0 F a0 a1 a2 a3 a4 a5 = z0 := by
  refine ⟨?_, ?_⟩
  · unfold ok_fence_side; rw [h]; kernel_rfl
  · unfold o_fence_side_0; rw [h]; kernel_rfl
def s_fence_side (F : Nat) : List VV → Option (Bool × VV) := spec ti_fence_side to_fence_side (fun q => (ok_fence_side F (atI (nth q 0)) (atI (nth q 1)) (atI (nth q 2)) (atI (nth q 3)) (atI (nth q 4)) (atI (nth q 5)))) (fun q => [.i (o_fence_side_0 F (atI (nth q 0)) (atI (nth q 1)) (atI (nth q 2)) (atI (nth q 3)) (atI (nth q 4)) (atI (nth q 5)))])
theorem hS_fence_side (F : Nat) : ∀ f, Good PP f (unS (S_fence_side F f)) := words_good fun p hp => by
  simp only [List.mem_cons, List.not_mem_nil, or_false] at hp
  rcases hp with rfl | rfl
  · exact g_wide_Mul F
  · exact g_wide_Less F
theorem hl_fence_side (F : Nat) : ∀ p ∈ loopsIn PP 22, LoopOK PP (S_fence_side F) c_fence_side F (I_fence_side F) (J_fence_side F) p :=
  loops_of [] (by kernel_rfl) all_nil
theorem hj_fence_side (F : Nat) : ∀ p ∈ joinsIn PP c_fence_side 22, JoinOK PP (S_fence_side F) c_fence_side (I_fence_side F) (J_fence_side F) p :=
  joins_of [] (by kernel_rfl) all_nil
theorem g_fence_side (F : Nat) : Good PP 22 (unS (s_fence_side F)) :=
  fun_spec (hS_fence_side F) (by kernel_rfl) (by kernel_rfl) (C := c_fence_side) (F := fun q => (f_fence_side F (atI (nth q 0)) (atI (nth q 1)) (atI (nth q 2)) (atI (nth q 3)) (atI (nth q 4)) (atI (nth q 5)))) (fun _ => F) (fun _ => I_fence_side F) (fun _ => J_fence_side F) (fun _ => hl_fence_side F) (fun _ => hj_fence_side F)
    (fun q => (congrArg (funL PP (S_fence_side F) c_fence_side (I_fence_side F) (J_fence_side F) 22) (show (fTs ti_fence_side q).1 = (fTs ti_fence_side [.i (atI (nth q 0)), .i (atI (nth q 1)), .i (atI (nth q 2)), .i (atI (nth q 3)), .i (atI (nth q 4)), .i (atI (nth q 5))]).1 by kernel_rfl)).trans (e_fence_side F (atI (nth q 0)) (atI (nth q 1)) (atI (nth q 2)) (atI (nth q 3)) (atI (nth q 4)) (atI (nth q 5))))
    (fun _ h => okT_fill' h (by kernel_rfl))

end Go.Xv
set_option linter.unusedVariables false
namespace Go.Xv
/- 23 _ref37_side -/
def c_ref37_side : Cfg := ⟨[0, 1, 2, 3, 4, 5, 6, 7, 8], [], [33, 34], []⟩
def ti_ref37_side : List TV := [.v (.agg [.int .i64, .int .i64]), .v (.agg [.int .i64, .int .i64]), .v (.agg [.int .i64, .int .i64])]
def to_ref37_side : TV := .v (.int .i64)
def S_ref37_side (F : Nat) : FuncId → List VV → Option (Bool × VV) := words [(36, s_ref01_Mul F), (31, s_ref01_Neg F), (29, s_ref01_Add F), (37, s_ref01_Sign F)]
def W_ref37_side (F : Nat) : List LW := []
def I_ref37_side (F : Nat) : Nat → VS → (Exit → VS → R) → R := tabI c_ref37_side (W_ref37_side F)
def WJ_ref37_side (F : Nat) : List LJ := []
def J_ref37_side (F : Nat) : Nat → Nat → VS → (Exit → VS → R) → R := tabJ (WJ_ref37_side F)
def f_ref37_side (F : Nat) (a0 : Int) (a1 : Int) (a2 : Int) (a3 : Int) (a4 : Int) (a5 : Int) : R :=
  let v482 : Int := (IntKind.wrap .i64 (a2 - a0))
  let v483 : Int := (IntKind.wrap .i64 (a5 - a1))
  bif (ok_ref01_Mul F v482 v483) then (
    let v726 : Int := (o_ref01_Mul_0 F v482 v483)
    let v727 : Int := (o_ref01_Mul_1 F v482 v483)
    let v728 : Int := (IntKind.wrap .i64 (a3 - a1))
    let v729 : Int := (IntKind.wrap .i64 (a4 - a0))
    bif (ok_ref01_Mul F v728 v729) then (
      let v730 : Int := (o_ref01_Mul_0 F v728 v729)
      let v731 : Int := (o_ref01_Mul_1 F v728 v729)
      bif (ok_ref01_Neg F v730 v731) then (
        let v732 : Int := (o_ref01_Neg_0 F v730 v731)
        let v733 : Int := (o_ref01_Neg_1 F v730 v731)
        bif (ok_ref01_Add F v726 v727 v732 v733) then (
          let v734 : Int := (o_ref01_Add_0 F v726 v727 v732 v733)
          let v735 : Int := (o_ref01_Add_1 F v726 v727 v732 v733)
          bif (ok_ref01_Sign F v734 v735) then (
            some (.v (.int .i64 ((o_ref01_Sign_0 F v734 v735)))))
          else (
            none))
        else (
          none))
      else (
        none))
    else (
      none))
  else (
    none)
theorem e_ref37_side (F : Nat) (a0 : Int) (a1 : Int) (a2 : Int) (a3 : Int) (a4 : Int) (a5 : Int) : funL PP (S_ref37_side F) c_ref37_side (I_ref37_side F) (J_ref37_side F) 23 (fTs ti_ref37_side [.i a0, .i a1, .i a2, .i a3, .i a4, .i a5]).1 = f_ref37_side F a0 a1 a2 a3 a4 a5 := by
  have h : ∀ (ok_ref01_Mul : Nat → Int → Int → Bool) (o_ref01_Mul_0 : Nat → Int → Int → Int) (o_ref01_Mul_1 : Nat → Int → Int → Int) (ok_ref01_Neg : Nat → Int → Int → Bool) (o_ref01_Neg_0 : Nat → Int → Int → Int) (o_ref01_Neg_1 : Nat → Int → Int → Int) (ok_ref01_Add : Nat → Int → Int → Int → Int → Bool) (o_ref01_Add_0 : Nat → Int → Int → Int → Int → Int) (o_ref01_Add_1 : Nat → Int → Int → Int → Int → Int) (ok_ref01_Sign : Nat → Int → Int → Bool) (o_ref01_Sign_0 : Nat → Int → Int → Int), funL PP (words [(36, spec ti_ref01_Mul to_ref01_Mul (fun q => (ok_ref01_Mul F (atI (nth q 0)) (atI (nth q 1)))) (fun q => [.i (o_ref01_Mul_0 F (atI (nth q 0)) (atI (nth q 1))), .i (o_ref01_Mul_1 F (atI (nth q 0)) (atI (nth q 1)))])), (31, spec ti_ref01_Neg to_ref01_Neg (fun q => (ok_ref01_Neg F (atI (nth q 0)) (atI (nth q 1)))) (fun q => [.i (o_ref01_Neg_0 F (atI (nth q 0)) (atI (nth q 1))), .i (o_ref01_Neg_1 F (atI (nth q 0)) (atI (nth q 1)))])), (29, spec ti_ref01_Add to_ref01_Add (fun q => (ok_ref01_Add F (atI (nth q 0)) (atI (nth q 1)) (atI (nth q 2)) (atI (nth q 3)))) (fun q => [.i (o_ref01_Add_0 F (atI (nth q 0)) (atI (nth q 1)) (atI (nth q 2)) (atI (nth q 3))), .i (o_ref01_Add_1 F (atI (nth q 0)) (atI (nth q 1)) (atI (nth q 2)) (atI (nth q 3)))])), (37, spec ti_ref01_Sign to_ref01_Sign (fun q => (ok_ref01_Sign F (atI (nth q 0)) (atI (nth q 1)))) (fun q => [.i (o_ref01_Sign_0 F (atI (nth q 0)) (atI (nth q 1)))]))]) c_ref37_side (tabI c_ref37_side []) (tabJ []) 23 (fTs ti_ref37_side [.i a0, .i a1, .i a2, .i a3, .i a4, .i a5]).1 = (
  let v482 : Int := (IntKind.wrap .i64 (a2 - a0))
  let v483 : Int := (IntKind.wrap .i64 (a5 - a1))
  bif (ok_ref01_Mul F v482 v483) then (
    let v726 : Int := (o_ref01_Mul_0 F v482 v483)
    let v727 : Int := (o_ref01_Mul_1 F v482 v483)
    let v728 : Int := (IntKind.wrap .i64 (a3 - a1))
    let v729 : Int := (IntKind.wrap .i64 (a4 - a0))
    bif (ok_ref01_Mul F v728 v729) then (
      let v730 : Int := (o_ref01_Mul_0 F v728 v729)
      let v731 : Int := (o_ref01_Mul_1 F v728 v729)
      bif (ok_ref01_Neg F v730 v731) then (
        let v732 : Int := (o_ref01_Neg_0 F v730 v731)
        let v733 : Int := (o_ref01_Neg_1 F v730 v731)
        bif (ok_ref01_Add F v726 v727 v732 v733) then (
          let v734 : Int := (o_ref01_Add_0 F v726 v727 v732 v733)
          let v735 : Int := (o_ref01_Add_1 F v726 v727 v732 v733)
          bif (ok_ref01_Sign F v734 v735) then (
            some (.v (.int .i64 ((o_ref01_Sign_0 F v734 v735)))))
          else (
            none))
        else (
          none))
      else (
        none))
    else (
      none))
  else (
    none) : R) := by
    intros
    kernel_rfl
  exact (h ok_ref01_Mul o_ref01_Mul_0 o_ref01_Mul_1 ok_ref01_Neg o_ref01_Neg_0 o_ref01_Neg_1 ok_ref01_Add o_ref01_Add_0 o_ref01_Add_1 ok_ref01_Sign o_ref01_Sign_0).trans (by kernel_rfl)
def ok_ref37_side (F : Nat) (a0 : Int) (a1 : Int) (a2 : Int) (a3 : Int) (a4 : Int) (a5 : Int) : Bool := okT to_ref37_side (f_ref37_side F a0 a1 a2 a3 a4 a5)
def o_ref37_side_0 (F : Nat) (a0 : Int) (a1 : Int) (a2 : Int) (a3 : Int) (a4 : Int) (a5 : Int) : Int := atI (nth (outT to_ref37_side (f_ref37_side F a0 a1 a2 a3 a4 a5)) 0)
theorem k_ref37_side (F : Nat) (a0 : Int) (a1 : Int) (a2 : Int) (a3 : Int) (a4 : Int) (a5 : Int) {z0 : Int} (h : f_ref37_side F a0 a1 a2 a3 a4 a5 = some (.v (.int .i64 z0))) : ok_ref37_side F a0 a1 a2 a3 a4 a5 = true ∧ o_ref37_side_0 F a0 a1 a2 a3 a4 a5 = z0 := by
  refine ⟨?_, ?_⟩
  · unfold ok_ref37_side; rw [h]; kernel_rfl
  · unfold o_ref37_side_0; rw [h]; kernel_rfl
def s_ref37_side (F : Nat) : List VV → Option (Bool × VV) := spec ti_ref37_side to_ref37_side (fun q => (ok_ref37_side F (atI (nth q 0)) (atI (nth q 1)) (atI (nth q 2)) (atI (nth q 3)) (atI (nth q 4)) (atI (nth q 5)))) (fun q => [.i (o_ref37_side_0 F (atI (nth q 0)) (atI (nth q 1)) (atI (nth q 2)) (atI (nth q 3)) (atI (nth q 4)) (atI (nth q 5)))])
theorem hS_ref37_side (F : Nat) : ∀ f, Good PP f (unS (S_ref37_side F f)) := words_good fun p hp => by
  simp only [List.mem_cons, List.not_mem_nil, or_false] at hp
  rcases hp with rfl | rfl | rfl | rfl
  · exact g_ref01_Mul F
  · exact g_ref01_Neg F
  · exact g_ref01_Add F
  · exact g_ref01_Sign F
theorem hl_ref37_side (F : Nat) : ∀ p ∈ loopsIn PP 23, LoopOK PP (S_ref37_side F) c_ref37_side F (I_ref37_side F) (J_ref37_side F) p :=
  loops_of [] (by kernel_rfl) all_nil
theorem hj_ref37_side (F : Nat) : ∀ p ∈ joinsIn PP c_ref37_side 23, JoinOK PP (S_ref37_side F) c_ref37_side (I_ref37_side F) (J_ref37_side F) p :=
  joins_of [] (by kernel_rfl) all_nil
theorem g_ref37_side (F : Nat) : Good PP 23 (unS (s_ref37_side F)) :=
  fun_spec (hS_ref37_side F) (by kernel_rfl) (by kernel_rfl) (C := c_ref37_side) (F := fun q => (f_ref37_side F (atI (nth q 0)) (atI (nth q 1)) (atI (nth q 2)) (atI (nth q 3)) (atI (nth q 4)) (atI (nth q 5)))) (fun _ => F) (fun _ => I_ref37_side F) (fun _ => J_ref37_side F) (fun _ => hl_ref37_side F) (fun _ => hj_ref37_side F)
    (fun q => (congrArg (funL PP (S_ref37_side F) c_ref37_side (I_ref37_side F) (J_ref37_side F) 23) (show (fTs ti_ref37_side q).1 = (fTs ti_ref37_side [.i (atI (nth q 0)), .i (atI (nth q 1)), .i (atI (nth q 2)), .i (atI (nth q 3)), .i (atI (nth q 4)), .i (atI (nth q 5))]).1 by kernel_rfl)).trans (e_ref37_side F (atI (nth q 0)) (atI (nth q 1)) (atI (nth q 2)) (atI (nth q 3)) (atI (nth q 4)) (atI (nth q 5))))
    (fun _ h => okT_fill' h (by kernel_rfl))

end Go.Xv
set_option linter.unusedVariables false
namespace Go.Xv
/- 33 _fence_Point_right -/
def c_fence_Point_right : Cfg := ⟨[0, 1, 2, 4, 5, 6, 7, 14], [(0, [0, 1, 2, 5, 6])], [], []⟩
def ti_fence_Point_right : List TV := [.v (.agg [.int .i64, .int .i64])]
def to_fence_Point_right : TV := .v (.bool)
def S_fence_Point_right (F : Nat) : FuncId → List VV → Option (Bool × VV) := words []
def T_fence_Point_right_0 : TS := ⟨[(0, .v (.agg [.int .i64, .int .i64])), (1, .lp 0 (.lit 0)), (2, .v (.bool)), (5, .v (.agg [.int .i64, .int .i64])), (6, .v (.int .i64))], [(0, ⟨(.ex [.v (.int .i64), .v (.int .i64)]), true⟩)], 1⟩
def T_fence_Point_right_0_0 : TS := ⟨[(0, .v (.agg [.int .i64, .int .i64])), (1, .lp 0 (.lit 0)), (2, .v (.bool)), (4, .v (.int .i64)), (5, .v (.agg [.int .i64, .int .i64])), (6, .v (.int .i64))], [(0, ⟨(.ex [.v (.int .i64), .v (.int .i64)]), true⟩)], 1⟩
def T_fence_Point_right_0_1 : TS := ⟨[(0, .v (.agg [.int .i64, .int .i64])), (1, .lp 0 (.lit 0)), (2, .v (.bool)), (5, .v (.agg [.int .i64, .int .i64])), (6, .v (.int .i64))], [(0, ⟨(.ex [.v (.int .i64), .v (.int .i64)]), true⟩)], 1⟩
def B_fence_Point_right_0 (F : Nat) (rc : Int → Int → Bool → Int → Int → Int → Int → Int → R) (ex0 : Int → Int → Bool → Int → Int → Int → Int → Int → Int → R) (ex1 : Int → Int → Bool → Int → Int → Int → Int → Int → R) (x0 : Int) (x1 : Int) (x2 : Bool) (x3 : Int) (x4 : Int) (x5 : Int) (x6 : Int) (x7 : Int) : R :=
  bif ((decide (x5 < 2))) then (
    bif (((decide (0 ≤ x5)) && (decide (x5 < 2))) && ((isI .i64 [.v (.int .i64 x3), .v (.int .i64 x4)][((Int.toNat x5) * 1)]?) && true)) then (
      let v9 : Int := (iv [.v (.int .i64 x3), .v (.int .i64 x4)][((Int.toNat x5) * 1)]?)
      bif ((decide (v9 < (-2305843009213693952)))) then (
        ex0 x0 x1 false v9 x3 x4 x5 x6 x7)
      else (
        bif ((decide (v9 > 2305843009213693952))) then (
          ex0 x0 x1 false v9 x3 x4 x5 x6 x7)
        else (
          rc x0 x1 x2 x3 x4 ((IntKind.wrap .i64 (x5 + 1))) x6 x7)))
    else (
      none))
  else (
    ex1 x0 x1 x2 x3 x4 x5 x6 x7)
def L_fence_Point_right_0 (F : Nat) (ex0 : Int → Int → Bool → Int → Int → Int → Int → Int → Int → R) (ex1 : Int → Int → Bool → Int → Int → Int → Int → Int → R) : Nat → Int → Int → Bool → Int → Int → Int → Int → Int → R
  | 0, _, _, _, _, _, _, _, _ => none
  | n + 1, x0, x1, x2, x3, x4, x5, x6, x7 => B_fence_Point_right_0 F (L_fence_Point_right_0 F ex0 ex1 n) ex0 ex1 x0 x1 x2 x3 x4 x5 x6 x7
def W_fence_Point_right (F : Nat) : List LW := [⟨0, T_fence_Point_right_0, fun k q => L_fence_Point_right_0 F (fun (z0 : Int) (z1 : Int) (z2 : Bool) (z3 : Int) (z4 : Int) (z5 : Int) (z6 : Int) (z7 : Int) (z8 : Int) => k .ret (fS T_fence_Point_right_0_0 [.i z0, .i z1, .b z2, .i z3, .i z4, .i z5, .i z6, .i z7, .i z8])) (fun (z0 : Int) (z1 : Int) (z2 : Bool) (z3 : Int) (z4 : Int) (z5 : Int) (z6 : Int) (z7 : Int) => k (.exit 0) (fS T_fence_Point_right_0_1 [.i z0, .i z1, .b z2, .i z3, .i z4, .i z5, .i z6, .i z7])) F (atI (nth q 0)) (atI (nth q 1)) (atB (nth q 2)) (atI (nth q 3)) (atI (nth q 4)) (atI (nth q 5)) (atI (nth q 6)) (atI (nth q 7))⟩]
def I_fence_Point_right (F : Nat) : Nat → VS → (Exit → VS → R) → R := tabI c_fence_Point_right (W_fence_Point_right F)
def WJ_fence_Point_right (F : Nat) : List LJ := []
def J_fence_Point_right (F : Nat) : Nat → Nat → VS → (Exit → VS → R) → R := tabJ (WJ_fence_Point_right F)
theorem lL_fence_Point_right_0 (F : Nat) (k : Exit → VS → R) : ∀ (n : Nat) (x0 : Int) (x1 : Int) (x2 : Bool) (x3 : Int) (x4 : Int) (x5 : Int) (x6 : Int) (x7 : Int), iterC (codeL PP (S_fence_Point_right F) c_fence_Point_right (I_fence_Point_right F) (J_fence_Point_right F) (loopAt PP 33 0) 0) (headOf c_fence_Point_right 0) k n (fS T_fence_Point_right_0 [.i x0, .i x1, .b x2, .i x3, .i x4, .i x5, .i x6, .i x7]) = L_fence_Point_right_0 F (fun (z0 : Int) (z1 : Int) (z2 : Bool) (z3 : Int) (z4 : Int) (z5 : Int) (z6 : Int) (z7 : Int) (z8 : Int) => k .ret (fS T_fence_Point_right_0_0 [.i z0, .i z1, .b z2, .i z3, .i z4, .i z5, .i z6, .i z7, .i z8])) (fun (z0 : Int) (z1 : Int) (z2 : Bool) (z3 : Int) (z4 : Int) (z5 : Int) (z6 : Int) (z7 : Int) => k (.exit 0) (fS T_fence_Point_right_0_1 [.i z0, .i z1, .b z2, .i z3, .i z4, .i z5, .i z6, .i z7])) n x0 x1 x2 x3 x4 x5 x6 x7
  | 0, _, _, _, _, _, _, _, _ => rfl
  | n + 1, x0, x1, x2, x3, x4, x5, x6, x7 => by
    have h0 : ∀ (L_fence_Point_right_0 : Nat → (Int → Int → Bool → Int → Int → Int → Int → Int → Int → R) → (Int → Int → Bool → Int → Int → Int → Int → Int → R) → Nat → Int → Int → Bool → Int → Int → Int → Int → Int → R), iterC (codeL PP (words []) c_fence_Point_right (tabI c_fence_Point_right [⟨0, T_fence_Point_right_0, fun k q => L_fence_Point_right_0 F (fun (z0 : Int) (z1 : Int) (z2 : Bool) (z3 : Int) (z4 : Int) (z5 : Int) (z6 : Int) (z7 : Int) (z8 : Int) => k .ret (fS T_fence_Point_right_0_0 [.i z0, .i z1, .b z2, .i z3, .i z4, .i z5, .i z6, .i z7, .i z8])) (fun (z0 : Int) (z1 : Int) (z2 : Bool) (z3 : Int) (z4 : Int) (z5 : Int) (z6 : Int) (z7 : Int) => k (.exit 0) (fS T_fence_Point_right_0_1 [.i z0, .i z1, .b z2, .i z3, .i z4, .i z5, .i z6, .i z7])) F (atI (nth q 0)) (atI (nth q 1)) (atB (nth q 2)) (atI (nth q 3)) (atI (nth q 4)) (atI (nth q 5)) (atI (nth q 6)) (atI (nth q 7))⟩]) (tabJ []) (loopAt PP 33 0) 0) (headOf c_fence_Point_right 0) k (n + 1) (fS T_fence_Point_right_0 [.i x0, .i x1, .b x2, .i x3, .i x4, .i x5, .i x6, .i x7]) = (fun (rc : Int → Int → Bool → Int → Int → Int → Int → Int → R) (ex0 : Int → Int → Bool → Int → Int → Int → Int → Int → Int → R) (ex1 : Int → Int → Bool → Int → Int → Int → Int → Int → R) (x0 : Int) (x1 : Int) (x2 : Bool) (x3 : Int) (x4 : Int) (x5 : Int) (x6 : Int) (x7 : Int) => (
  bif ((decide (x5 < 2))) then (
    bif (((decide (0 ≤ x5)) && (decide (x5 < 2))) && ((isI .i64 [.v (.int .i64 x3), .v (.int .i64 x4)][((Int.toNat x5) * 1)]?) && true)) then (
      let v9 : Int := (iv [.v (.int .i64 x3), .v (.int .i64 x4)][((Int.toNat x5) * 1)]?)
      bif ((decide (v9 < (-2305843009213693952)))) then (
        ex0 x0 x1 false v9 x3 x4 x5 x6 x7)
      else (
        bif ((decide (v9 > 2305843009213693952))) then (
          ex0 x0 x1 false v9 x3 x4 x5 x6 x7)
        else (
          rc x0 x1 x2 x3 x4 ((IntKind.wrap .i64 (x5 + 1))) x6 x7)))
    else (
      none))
  else (
    ex1 x0 x1 x2 x3 x4 x5 x6 x7) : R)) (fun (y0 : Int) (y1 : Int) (y2 : Bool) (y3 : Int) (y4 : Int) (y5 : Int) (y6 : Int) (y7 : Int) => iterC (codeL PP (words []) c_fence_Point_right (tabI c_fence_Point_right [⟨0, T_fence_Point_right_0, fun k q => L_fence_Point_right_0 F (fun (z0 : Int) (z1 : Int) (z2 : Bool) (z3 : Int) (z4 : Int) (z5 : Int) (z6 : Int) (z7 : Int) (z8 : Int) => k .ret (fS T_fence_Point_right_0_0 [.i z0, .i z1, .b z2, .i z3, .i z4, .i z5, .i z6, .i z7, .i z8])) (fun (z0 : Int) (z1 : Int) (z2 : Bool) (z3 : Int) (z4 : Int) (z5 : Int) (z6 : Int) (z7 : Int) => k (.exit 0) (fS T_fence_Point_right_0_1 [.i z0, .i z1, .b z2, .i z3, .i z4, .i z5, .i z6, .i z7])) F (atI (nth q 0)) (atI (nth q 1)) (atB (nth q 2)) (atI (nth q 3)) (atI (nth q 4)) (atI (nth q 5)) (atI (nth q 6)) (atI (nth q 7))⟩]) (tabJ []) (loopAt PP 33 0) 0) (headOf c_fence_Point_right 0) k n (fS T_fence_Point_right_0 [.i y0, .i y1, .b y2, .i y3, .i y4, .i y5, .i y6, .i y7])) (fun (z0 : Int) (z1 : Int) (z2 : Bool) (z3 : Int) (z4 : Int) (z5 : Int) (z6 : Int) (z7 : Int) (z8 : Int) => k .ret (fS T_fence_Point_right_0_0 [.i z0, .i z1, .b z2, .i z3, .i z4, .i z5, .i z6, .i z7, .i z8])) (fun (z0 : Int) (z1 : Int) (z2 : Bool) (z3 : Int) (z4 : Int) (z5 : Int) (z6 : Int) (z7 : Int) => k (.exit 0) (fS T_fence_Point_right_0_1 [.i z0, .i z1, .b z2, .i z3, .i z4, .i z5, .i z6, .i z7])) x0 x1 x2 x3 x4 x5 x6 x7 := by
      intros
      kernel_rfl
    have h : iterC (codeL PP (S_fence_Point_right F) c_fence_Point_right (I_fence_Point_right F) (J_fence_Point_right F) (loopAt PP 33 0) 0) (headOf c_fence_Point_right 0) k (n + 1) (fS T_fence_Point_right_0 [.i x0, .i x1, .b x2, .i x3, .i x4, .i x5, .i x6, .i x7]) = B_fence_Point_right_0 F (fun (y0 : Int) (y1 : Int) (y2 : Bool) (y3 : Int) (y4 : Int) (y5 : Int) (y6 : Int) (y7 : Int) => iterC (codeL PP (S_fence_Point_right F) c_fence_Point_right (I_fence_Point_right F) (J_fence_Point_right F) (loopAt PP 33 0) 0) (headOf c_fence_Point_right 0) k n (fS T_fence_Point_right_0 [.i y0, .i y1, .b y2, .i y3, .i y4, .i y5, .i y6, .i y7])) (fun (z0 : Int) (z1 : Int) (z2 : Bool) (z3 : Int) (z4 : Int) (z5 : Int) (z6 : Int) (z7 : Int) (z8 : Int) => k .ret (fS T_fence_Point_right_0_0 [.i z0, .i z1, .b z2, .i z3, .i z4, .i z5, .i z6, .i z7, .i z8])) (fun (z0 : Int) (z1 : Int) (z2 : Bool) (z3 : Int) (z4 : Int) (z5 : Int) (z6 : Int) (z7 : Int) => k (.exit 0) (fS T_fence_Point_right_0_1 [.i z0, .i z1, .b z2, .i z3, .i z4, .i z5, .i z6, .i z7])) x0 x1 x2 x3 x4 x5 x6 x7 := (h0 L_fence_Point_right_0).trans (by kernel_rfl)
    rw [h]
    simp only [lL_fence_Point_right_0 F k n]
    rfl
def f_fence_Point_right (F : Nat) (a0 : Int) (a1 : Int) : R :=
  L_fence_Point_right_0 F (fun (v13 : Int) (v14 : Int) (v15 : Bool) (v16 : Int) (v17 : Int) (v18 : Int) (v19 : Int) (v20 : Int) (v21 : Int) =>
    some (.v (.bool v15))) (fun (v22 : Int) (v23 : Int) (v24 : Bool) (v25 : Int) (v26 : Int) (v27 : Int) (v28 : Int) (v29 : Int) =>
    some (.v (.bool true))) F a0 a1 false a0 a1 0 a0 a1
theorem e_fence_Point_right (F : Nat) (a0 : Int) (a1 : Int) : funL PP (S_fence_Point_right F) c_fence_Point_right (I_fence_Point_right F) (J_fence_Point_right F) 33 (fTs ti_fence_Point_right [.i a0, .i a1]).1 = f_fence_Point_right F a0 a1 := by
  have h : ∀ (L_fence_Point_right_0 : Nat → (Int → Int → Bool → Int → Int → Int → Int → Int → Int → R) → (Int → Int → Bool → Int → Int → Int → Int → Int → R) → Nat → Int → Int → Bool → Int → Int → Int → Int → Int → R), funL PP (words []) c_fence_Point_right (tabI c_fence_Point_right [⟨0, T_fence_Point_right_0, fun k q => L_fence_Point_right_0 F (fun (z0 : Int) (z1 : Int) (z2 : Bool) (z3 : Int) (z4 : Int) (z5 : Int) (z6 : Int) (z7 : Int) (z8 : Int) => k .ret (fS T_fence_Point_right_0_0 [.i z0, .i z1, .b z2, .i z3, .i z4, .i z5, .i z6, .i z7, .i z8])) (fun (z0 : Int) (z1 : Int) (z2 : Bool) (z3 : Int) (z4 : Int) (z5 : Int) (z6 : Int) (z7 : Int) => k (.exit 0) (fS T_fence_Point_right_0_1 [.i z0, .i z1, .b z2, .i z3, .i z4, .i z5, .i z6, .i z7])) F (atI (nth q 0)) (atI (nth q 1)) (atB (nth q 2)) (atI (nth q 3)) (atI (nth q 4)) (atI (nth q 5)) (atI (nth q 6)) (atI (nth q 7))⟩]) (tabJ []) 33 (fTs ti_fence_Point_right [.i a0, .i a1]).1 = (
  L_fence_Point_right_0 F (fun (v13 : Int) (v14 : Int) (v15 : Bool) (v16 : Int) (v17 : Int) (v18 : Int) (v19 : Int) (v20 : Int) (v21 : Int) =>
    some (.v (.bool v15))) (fun (v22 : Int) (v23 : Int) (v24 : Bool) (v25 : Int) (v26 : Int) (v27 : Int) (v28 : Int) (v29 : Int) =>
    some (.v (.bool true))) F a0 a1 false a0 a1 0 a0 a1 : R) := by
    intros
    kernel_rfl
  exact (h L_fence_Point_right_0).trans (by kernel_rfl)
def ok_fence_Point_right (F : Nat) (a0 : Int) (a1 : Int) : Bool := okT to_fence_Point_right (f_fence_Point_right F a0 a1)
def o_fence_Point_right_0 (F : Nat) (a0 : Int) (a1 : Int) : Bool := atB (nth (outT to_fence_Point_right (f_fence_Point_right F a0 a1)) 0)
theorem k_fence_Point_right (F : Nat) (a0 : Int) (a1 : Int) {z0 : Bool} (h : f_fence_Point_right F a0 a1 = some (.v (.bool z0))) : ok_fence_Point_right F a0 a1 = true ∧ o_fence_Point_right_0 F a0 a1 = z0 := by
  refine ⟨?_, ?_⟩
  · unfold ok_fence_Point_right; rw [h]; kernel_rfl
  · unfold o_fence_Point_right_0; rw [h]; kernel_rfl
def s_fence_Point_right (F : Nat) : List VV → Option (Bool × VV) := spec ti_fence_Point_right to_fence_Point_right (fun q => (ok_fence_Point_right F (atI (nth q 0)) (atI (nth q 1)))) (fun q => [.b (o_fence_Point_right_0 F (atI (nth q 0)) (atI (nth q 1)))])
theorem hS_fence_Point_right (F : Nat) : ∀ f, Good PP f (unS (S_fence_Point_right F f)) := words_good fun p hp => by
  cases hp
theorem hl_fence_Point_right (F : Nat) : ∀ p ∈ loopsIn PP 33, LoopOK PP (S_fence_Point_right F) c_fence_Point_right F (I_fence_Point_right F) (J_fence_Point_right F) p :=
  loops_of [(0, loopAt PP 33 0)] (by kernel_rfl) (all_cons
    (loop_ok (W_fence_Point_right F) rfl (tab_cons (fun _ k q => Le.ofEq ((lL_fence_Point_right_0 F k F (atI (nth q 0)) (atI (nth q 1)) (atB (nth q 2)) (atI (nth q 3)) (atI (nth q 4)) (atI (nth q 5)) (atI (nth q 6)) (atI (nth q 7))).symm.trans (congrArg (iterC (codeL PP (S_fence_Point_right F) c_fence_Point_right (I_fence_Point_right F) (J_fence_Point_right F) (loopAt PP 33 0) 0) (headOf c_fence_Point_right 0) k F) (show fS T_fence_Point_right_0 [.i (atI (nth q 0)), .i (atI (nth q 1)), .b (atB (nth q 2)), .i (atI (nth q 3)), .i (atI (nth q 4)), .i (atI (nth q 5)), .i (atI (nth q 6)), .i (atI (nth q 7))] = fS T_fence_Point_right_0 q by kernel_rfl)))) tab_nil)) all_nil)
theorem hj_fence_Point_right (F : Nat) : ∀ p ∈ joinsIn PP c_fence_Point_right 33, JoinOK PP (S_fence_Point_right F) c_fence_Point_right (I_fence_Point_right F) (J_fence_Point_right F) p :=
  joins_of [] (by kernel_rfl) all_nil
theorem g_fence_Point_right (F : Nat) : Good PP 33 (unS (s_fence_Point_right F)) :=
  fun_spec (hS_fence_Point_right F) (by kernel_rfl) (by kernel_rfl) (C := c_fence_Point_right) (F := fun q => (f_fence_Point_right F (atI (nth q 0)) (atI (nth q 1)))) (fun _ => F) (fun _ => I_fence_Point_right F) (fun _ => J_fence_Point_right F) (fun _ => hl_fence_Point_right F) (fun _ => hj_fence_Point_right F)
    (fun q => (congrArg (funL PP (S_fence_Point_right F) c_fence_Point_right (I_fence_Point_right F) (J_fence_Point_right F) 33) (show (fTs ti_fence_Point_right q).1 = (fTs ti_fence_Point_right [.i (atI (nth q 0)), .i (atI (nth q 1))]).1 by kernel_rfl)).trans (e_fence_Point_right F (atI (nth q 0)) (atI (nth q 1))))
    (fun _ h => okT_fill' h (by kernel_rfl))

end Go.Xv
set_option linter.unusedVariables false
namespace Go.Xv
/- 26 _ref37_point -/
def c_ref37_point : Cfg := ⟨[0, 1, 2], [], [], []⟩
def ti_ref37_point : List TV := [.v (.agg [.int .i64, .int .i64])]
def to_ref37_point : TV := .v (.bool)
def S_ref37_point (F : Nat) : FuncId → List VV → Option (Bool × VV) := words []
def W_ref37_point (F : Nat) : List LW := []
def I_ref37_point (F : Nat) : Nat → VS → (Exit → VS → R) → R := tabI c_ref37_point (W_ref37_point F)
def WJ_ref37_point (F : Nat) : List LJ := []
def J_ref37_point (F : Nat) : Nat → Nat → VS → (Exit → VS → R) → R := tabJ (WJ_ref37_point F)
def f_ref37_point (F : Nat) (a0 : Int) (a1 : Int) : R :=
  bif ((decide (a0 ≥ (-2305843009213693952)))) then (
    bif ((decide (a0 ≤ 2305843009213693952))) then (
      bif ((decide (a1 ≥ (-2305843009213693952)))) then (
        some (.v (.bool ((decide (a1 ≤ 2305843009213693952))))))
      else (
        some (.v (.bool false))))
    else (
      some (.v (.bool false))))
  else (
    some (.v (.bool false)))
theorem e_ref37_point (F : Nat) (a0 : Int) (a1 : Int) : funL PP (S_ref37_point F) c_ref37_point (I_ref37_point F) (J_ref37_point F) 26 (fTs ti_ref37_point [.i a0, .i a1]).1 = f_ref37_point F a0 a1 := by
  have h : ∀ (_ : Unit), funL PP (words []) c_ref37_point (tabI c_ref37_point []) (tabJ []) 26 (fTs ti_ref37_point [.i a0, .i a1]).1 = (
  bif ((decide (a0 ≥ (-2305843009213693952)))) then (
    bif ((decide (a0 ≤ 2305843009213693952))) then (
      bif ((decide (a1 ≥ (-2305843009213693952)))) then (
        some (.v (.bool ((decide (a1 ≤ 2305843009213693952))))))
      else (
        some (.v (.bool false))))
    else (
      some (.v (.bool false))))
  else (
    some (.v (.bool false))) : R) := by
    intros
    kernel_rfl
  exact (h ()).trans (by kernel_rfl)
def ok_ref37_point (F : Nat) (a0 : Int) (a1 : Int) : Bool := okT to_ref37_point (f_ref37_point F a0 a1)
def o_ref37_point_0 (F : Nat) (a0 : Int) (a1 : Int) : Bool := atB (nth (outT to_ref37_point (f_ref37_point F a0 a1)) 0)
theorem k_ref37_point (F : Nat) (a0 : Int) (a1 : Int) {z0 : Bool} (h : f_ref37_point F a0 a1 = some (.v (.bool z0))) : ok_ref37_point F a0 a1 = true ∧ o_ref37_point_0 F a0 a1 = z0 := by
  refine ⟨?_, ?_⟩
  · unfold ok_ref37_point; rw [h]; kernel_rfl
  · unfold o_ref37_point_0; rw [h]; kernel_rfl
def s_ref37_point (F : Nat) : List VV → Option (Bool × VV) := spec ti_ref37_point to_ref37_point (fun q => (ok_ref37_point F (atI (nth q 0)) (atI (nth q 1)))) (fun q => [.b (o_ref37_point_0 F (atI (nth q 0)) (atI (nth q 1)))])
theorem hS_ref37_point (F : Nat) : ∀ f, Good PP f (unS (S_ref37_point F f)) := words_good fun p hp => by
  cases hp
theorem hl_ref37_point (F : Nat) : ∀ p ∈ loopsIn PP 26, LoopOK PP (S_ref37_point F) c_ref37_point F (I_ref37_point F) (J_ref37_point F) p :=
  loops_of [] (by kernel_rfl) all_nil
theorem hj_ref37_point (F : Nat) : ∀ p ∈ joinsIn PP c_ref37_point 26, JoinOK PP (S_ref37_point F) c_ref37_point (I_ref37_point F) (J_ref37_point F) p :=
  joins_of [] (by kernel_rfl) all_nil
theorem g_ref37_point (F : Nat) : Good PP 26 (unS (s_ref37_point F)) :=
  fun_spec (hS_ref37_point F) (by kernel_rfl) (by kernel_rfl) (C := c_ref37_point) (F := fun q => (f_ref37_point F (atI (nth q 0)) (atI (nth q 1)))) (fun _ => F) (fun _ => I_ref37_point F) (fun _ => J_ref37_point F) (fun _ => hl_ref37_point F) (fun _ => hj_ref37_point F)
    (fun q => (congrArg (funL PP (S_ref37_point F) c_ref37_point (I_ref37_point F) (J_ref37_point F) 26) (show (fTs ti_ref37_point q).1 = (fTs ti_ref37_point [.i (atI (nth q 0)), .i (atI (nth q 1))]).1 by kernel_rfl)).trans (e_ref37_point F (atI (nth q 0)) (atI (nth q 1))))
    (fun _ h => okT_fill' h (by kernel_rfl))

end Go.Xv
set_option linter.unusedVariables false
namespace Go.Xv
/- 38 _ref37_apart -/
def c_ref37_apart : Cfg := ⟨[0, 1, 2, 3, 8], [], [], []⟩
def ti_ref37_apart : List TV := [.v (.int .i64), .v (.int .i64), .v (.int .i64), .v (.int .i64)]
def to_ref37_apart : TV := .v (.bool)
def S_ref37_apart (F : Nat) : FuncId → List VV → Option (Bool × VV) := words []
def W_ref37_apart (F : Nat) : List LW := []
def I_ref37_apart (F : Nat) : Nat → VS → (Exit → VS → R) → R := tabI c_ref37_apart (W_ref37_apart F)
def WJ_ref37_apart (F : Nat) : List LJ := []
def J_ref37_apart (F : Nat) : Nat → Nat → VS → (Exit → VS → R) → R := tabJ (WJ_ref37_apart F)
def f_ref37_apart (F : Nat) (a0 : Int) (a1 : Int) (a2 : Int) (a3 : Int) : R :=
  bif ((decide (((if a1 > a0 then a1 else a0)) < a2))) then (
    some (.v (.bool true)))
  else (
    some (.v (.bool ((decide (((if a1 < a0 then a1 else a0)) > a3))))))
theorem e_ref37_apart (F : Nat) (a0 : Int) (a1 : Int) (a2 : Int) (a3 : Int) : funL PP (S_ref37_apart F) c_ref37_apart (I_ref37_apart F) (J_ref37_apart F) 38 (fTs ti_ref37_apart [.i a0, .i a1, .i a2, .i a3]).1 = f_ref37_apart F a0 a1 a2 a3 := by
  have h : ∀ (_ : Unit), funL PP (words []) c_ref37_apart (tabI c_ref37_apart []) (tabJ []) 38 (fTs ti_ref37_apart [.i a0, .i a1, .i a2, .i a3]).1 = (
  bif ((decide (((if a1 > a0 then a1 else a0)) < a2))) then (
    some (.v (.bool true)))
  else (
    some (.v (.bool ((decide (((if a1 < a0 then a1 else a0)) > a3)))))) : R) := by
    intros
    kernel_rfl
  exact (h ()).trans (by kernel_rfl)
def ok_ref37_apart (F : Nat) (a0 : Int) (a1 : Int) (a2 : Int) (a3 : Int) : Bool := okT to_ref37_apart (f_ref37_apart F a0 a1 a2 a3)
def o_ref37_apart_0 (F : Nat) (a0 : Int) (a1 : Int) (a2 : Int) (a3 : Int) : Bool := atB (nth (outT to_ref37_apart (f_ref37_apart F a0 a1 a2 a3)) 0)
theorem k_ref37_apart (F : Nat) (a0 : Int) (a1 : Int) (a2 : Int) (a3 : Int) {z0 : Bool} (h : f_ref37_apart F a0 a1 a2 a3 = some (.v (.bool z0))) : ok_ref37_apart F a0 a1 a2 a3 = true ∧ o_ref37_apart_0 F a0 a1 a2 a3 = z0 := by
  refine ⟨?_, ?_⟩
  · unfold ok_ref37_apart; rw [h]; kernel_rfl
  · unfold o_ref37_apart_0; rw [h]; kernel_rfl
def s_ref37_apart (F : Nat) : List VV → Option (Bool × VV) := spec ti_ref37_apart to_ref37_apart (fun q => (ok_ref37_apart F (atI (nth q 0)) (atI (nth q 1)) (atI (nth q 2)) (atI (nth q 3)))) (fun q => [.b (o_ref37_apart_0 F (atI (nth q 0)) (atI (nth q 1)) (atI (nth q 2)) (atI (nth q 3)))])
theorem hS_ref37_apart (F : Nat) : ∀ f, Good PP f (unS (S_ref37_apart F f)) := words_good fun p hp => by
  cases hp
theorem hl_ref37_apart (F : Nat) : ∀ p ∈ loopsIn PP 38, LoopOK PP (S_ref37_apart F) c_ref37_apart F (I_ref37_apart F) (J_ref37_apart F) p :=
  loops_of [] (by kernel_rfl) all_nil
theorem hj_ref37_apart (F : Nat) : ∀ p ∈ joinsIn PP c_ref37_apart 38, JoinOK PP (S_ref37_apart F) c_ref37_apart (I_ref37_apart F) (J_ref37_apart F) p :=
  joins_of [] (by kernel_rfl) all_nil
theorem g_ref37_apart (F : Nat) : Good PP 38 (unS (s_ref37_apart F)) :=
  fun_spec (hS_ref37_apart F) (by kernel_rfl) (by kernel_rfl) (C := c_ref37_apart) (F := fun q => (f_ref37_apart F (atI (nth q 0)) (atI (nth q 1)) (atI (nth q 2)) (atI (nth q 3)))) (fun _ => F) (fun _ => I_ref37_apart F) (fun _ => J_ref37_apart F) (fun _ => hl_ref37_apart F) (fun _ => hj_ref37_apart F)
    (fun q => (congrArg (funL PP (S_ref37_apart F) c_ref37_apart (I_ref37_apart F) (J_ref37_apart F) 38) (show (fTs ti_ref37_apart q).1 = (fTs ti_ref37_apart [.i (atI (nth q 0)), .i (atI (nth q 1)), .i (atI (nth q 2)), .i (atI (nth q 3))]).1 by kernel_rfl)).trans (e_ref37_apart F (atI (nth q 0)) (atI (nth q 1)) (atI (nth q 2)) (atI (nth q 3))))
    (fun _ h => okT_fill' h (by kernel_rfl))

end Go.Xv
namespace Go.Xv

/-- a point that may be. -/
def rightB (p : Pt) : Bool := decide (-2305843009213693952 ≤ p.1) && decide (p.1 ≤ 2305843009213693952) && (decide (-2305843009213693952 ≤ p.2) && decide (p.2 ≤ 2305843009213693952))
structure OkP (p : Pt) : Prop where
  a : -2305843009213693952 ≤ p.1
  b : p.1 ≤ 2305843009213693952
  c : -2305843009213693952 ≤ p.2
  d : p.2 ≤ 2305843009213693952
theorem rightB_iff {p : Pt} : rightB p = true ↔ OkP p := by
  unfold rightB
  simp only [Bool.and_eq_true, decide_eq_true_eq]
  exact ⟨fun ⟨⟨a, b⟩, c, d⟩ => ⟨a, b, c, d⟩, fun ⟨a, b, c, d⟩ => ⟨⟨a, b⟩, c, d⟩⟩
/-- a corner of a square. -/
structure NearP (p : Pt) : Prop where
  a : -3458764513820540928 ≤ p.1
  b : p.1 ≤ 3458764513820540928
  c : -3458764513820540928 ≤ p.2
  d : p.2 ≤ 3458764513820540928
theorem OkP.near {p : Pt} (h : OkP p) : NearP p := ⟨by have := h.a; omega, by have := h.b; omega, by have := h.c; omega, by have := h.d; omega⟩
def cross (a b p : Pt) : Int := (b.1 - a.1) * (p.2 - a.2) - (b.2 - a.2) * (p.1 - a.1)
def sgn (x : Int) : Int := if x < 0 then -1 else if x = 0 then 0 else 1

theorem mul_le {x y A B : Int} (hx : -A ≤ x ∧ x ≤ A) (hy : -B ≤ y ∧ y ≤ B) : -(A * B) ≤ x * y ∧ x * y ≤ A * B := by
  have h1 : x.natAbs ≤ A.natAbs := by omega
  have h2 : y.natAbs ≤ B.natAbs := by omega
  have h3 : (x * y).natAbs ≤ A.natAbs * B.natAbs := by rw [Int.natAbs_mul]; exact Nat.mul_le_mul h1 h2
  have h4 : ((A.natAbs * B.natAbs : Nat) : Int) = A * B := by rw [Int.natCast_mul, Int.natAbs_of_nonneg (by omega), Int.natAbs_of_nonneg (by omega)]
  omega

theorem side_parts {a b p : Pt} (ha : OkP a) (hb : OkP b) (hp : NearP p) :
    (I64 (b.1 - a.1) ∧ I64 (p.2 - a.2) ∧ I64 (b.2 - a.2) ∧ I64 (p.1 - a.1)) ∧
    W128 ((b.1 - a.1) * (p.2 - a.2)) ∧ W128 ((b.2 - a.2) * (p.1 - a.1)) ∧ W128 (-((b.2 - a.2) * (p.1 - a.1))) ∧ W128 (cross a b p) := by
  obtain ⟨a1, a2, a3, a4⟩ := ha
  obtain ⟨b1, b2, b3, b4⟩ := hb
  obtain ⟨p1, p2, p3, p4⟩ := hp
  have m1 := mul_le (x := b.1 - a.1) (y := p.2 - a.2) (A := 4611686018427387904) (B := 5764607523034234880) (by omega) (by omega)
  have m2 := mul_le (x := b.2 - a.2) (y := p.1 - a.1) (A := 4611686018427387904) (B := 5764607523034234880) (by omega) (by omega)
  have e : (4611686018427387904 : Int) * 5764607523034234880 = 26584559915698317458076141205606891520 := by decide
  rw [e] at m1 m2
  unfold I64 W128 cross
  generalize (b.1 - a.1) * (p.2 - a.2) = x at *
  generalize (b.2 - a.2) * (p.1 - a.1) = y at *
  omega

theorem eq_hl {x y : Int} (hx : W128 x) (hy : W128 y) : ((hi x == hi y) && (lo x == lo y)) = decide (x = y) := by
  by_cases h : x = y
  · subst h; simp
  · rw [df h]
    cases h1 : (hi x == hi y) with
    | false => rfl
    | true =>
      cases h2 : (lo x == lo y) with
      | false => rfl
      | true => exact absurd (hl_inj hx hy (by simpa using h1) (by simpa using h2)) h

theorem f_side (F : Nat) {a b p : Pt} (ha : OkP a) (hb : OkP b) (hp : NearP p) : f_fence_side F a.1 a.2 b.1 b.2 p.1 p.2 = some (.v (.int .i64 (sgn (cross a b p)))) := by
  obtain ⟨⟨i1, i2, i3, i4⟩, w1, w2, w3, w4⟩ := side_parts ha hb hp
  unfold f_fence_side
  simp only [wi64_in i1, wi64_in i2, wi64_in i3, wi64_in i4]
  obtain ⟨k1, k2, k3⟩ := a_Mul F i1 i2
  obtain ⟨j1, j2, j3⟩ := a_Mul F i3 i4
  simp only [k2, k3, j2, j3]
  refine bp k1 (bp j1 ?_)
  rw [eq_hl w1 w2]
  unfold sgn cross
  unfold cross at w4
  by_cases h : (b.1 - a.1) * (p.2 - a.2) = (b.2 - a.2) * (p.1 - a.1)
  · refine bp (dt h) ?_
    rw [if_neg (by omega), if_pos (by omega)]
  · refine bn (df h) ?_
    obtain ⟨l1, l2⟩ := a_Less F w1 w2
    rw [l2]
    refine bp l1 ?_
    by_cases h2 : (b.1 - a.1) * (p.2 - a.2) < (b.2 - a.2) * (p.1 - a.1)
    · refine bp (dt h2) ?_
      rw [if_pos (by omega)]
    · refine bn (df h2) ?_
      rw [if_neg (by omega), if_neg (by omega)]
theorem a_side (F : Nat) {a b p : Pt} (ha : OkP a) (hb : OkP b) (hp : NearP p) : ok_fence_side F a.1 a.2 b.1 b.2 p.1 p.2 = true ∧ o_fence_side_0 F a.1 a.2 b.1 b.2 p.1 p.2 = sgn (cross a b p) := k_fence_side F _ _ _ _ _ _ (f_side F ha hb hp)

theorem f_rside (F : Nat) (hF : 200 ≤ F) {a b p : Pt} (ha : OkP a) (hb : OkP b) (hp : NearP p) : f_ref37_side F a.1 a.2 b.1 b.2 p.1 p.2 = some (.v (.int .i64 (sgn (cross a b p)))) := by
  obtain ⟨⟨i1, i2, i3, i4⟩, w1, w2, w3, w4⟩ := side_parts ha hb hp
  unfold f_ref37_side
  simp only [wi64_in i1, wi64_in i2, wi64_in i3, wi64_in i4]
  obtain ⟨k1, k2, k3⟩ := a_rMul F hF i1 i2
  obtain ⟨j1, j2, j3⟩ := a_rMul F hF i3 i4
  simp only [k2, k3, j2, j3]
  refine bp k1 (bp j1 ?_)
  obtain ⟨n1, n2, n3⟩ := a_rNeg F hF ((b.2 - a.2) * (p.1 - a.1))
  simp only [n2, n3]
  refine bp n1 ?_
  obtain ⟨s1, s2, s3⟩ := a_rAdd F hF ((b.1 - a.1) * (p.2 - a.2)) (-((b.2 - a.2) * (p.1 - a.1)))
  simp only [s2, s3]
  refine bp s1 ?_
  have := f_rSign F (a := hi ((b.1 - a.1) * (p.2 - a.2) + -((b.2 - a.2) * (p.1 - a.1)))) (b := lo ((b.1 - a.1) * (p.2 - a.2) + -((b.2 - a.2) * (p.1 - a.1)))) (lo_U _)
  rw [val_hl, ← Int.sub_eq_add_neg] at this
  change f_ref01_Sign F _ _ = some (.v (.int .i64 (if W (cross a b p) < 0 then -1 else if W (cross a b p) = 0 then 0 else 1))) at this
  rw [W_in w4] at this
  obtain ⟨q1, q2⟩ := k_ref01_Sign F _ _ this
  rw [← Int.sub_eq_add_neg]
  refine bp q1 (some_int ?_)
  rw [q2]
  rfl
theorem a_rside (F : Nat) (hF : 200 ≤ F) {a b p : Pt} (ha : OkP a) (hb : OkP b) (hp : NearP p) : ok_ref37_side F a.1 a.2 b.1 b.2 p.1 p.2 = true ∧ o_ref37_side_0 F a.1 a.2 b.1 b.2 p.1 p.2 = sgn (cross a b p) := k_ref37_side F _ _ _ _ _ _ (f_rside F hF ha hb hp)

theorem f_right (F : Nat) (hF : 200 ≤ F) (x y : Int) : f_fence_Point_right F x y = some (.v (.bool (rightB (x, y)))) := by
  obtain ⟨n, rfl⟩ : ∃ n, F = n + 3 := ⟨F - 3, by omega⟩
  unfold f_fence_Point_right rightB
  simp only [L_fence_Point_right_0, B_fence_Point_right_0]
  have w1 : IntKind.wrap .i64 ((0 : Int) + 1) = 1 := by decide
  have w2 : IntKind.wrap .i64 ((1 : Int) + 1) = 2 := by decide
  simp only [w1, w2]
  by_cases h1 : x < -2305843009213693952
  · simp [isI, iv, h1, show ¬ (-2305843009213693952 ≤ x) by omega]
  · by_cases h2 : x > 2305843009213693952
    · simp [isI, iv, h1, h2, show ¬ (x ≤ 2305843009213693952) by omega]
    · by_cases h3 : y < -2305843009213693952
      · simp [isI, iv, h1, h2, h3, show ¬ (-2305843009213693952 ≤ y) by omega]
      · by_cases h4 : y > 2305843009213693952
        · simp [isI, iv, h1, h2, h3, h4, show ¬ (y ≤ 2305843009213693952) by omega]
        · simp [isI, iv, h1, h2, h3, h4, show (-2305843009213693952 ≤ y) by omega, show (y ≤ 2305843009213693952) by omega, show (-2305843009213693952 ≤ x) by omega, show (x ≤ 2305843009213693952) by omega]
theorem a_right (F : Nat) (hF : 200 ≤ F) (x y : Int) : ok_fence_Point_right F x y = true ∧ o_fence_Point_right_0 F x y = rightB (x, y) := k_fence_Point_right F _ _ (f_right F hF x y)

theorem f_rpoint (F : Nat) (x y : Int) : f_ref37_point F x y = some (.v (.bool (rightB (x, y)))) := by
  unfold f_ref37_point rightB
  by_cases h1 : x ≥ -2305843009213693952 <;> by_cases h2 : x ≤ 2305843009213693952 <;> by_cases h3 : y ≥ -2305843009213693952 <;> by_cases h4 : y ≤ 2305843009213693952 <;>
    simp [isI, iv, h1, h2, h3, h4, show (-2305843009213693952 ≤ x) ↔ x ≥ -2305843009213693952 from Iff.rfl, show (-2305843009213693952 ≤ y) ↔ y ≥ -2305843009213693952 from Iff.rfl]
theorem a_rpoint (F : Nat) (x y : Int) : ok_ref37_point F x y = true ∧ o_ref37_point_0 F x y = rightB (x, y) := k_ref37_point F _ _ (f_rpoint F x y)
end Go.Xv
