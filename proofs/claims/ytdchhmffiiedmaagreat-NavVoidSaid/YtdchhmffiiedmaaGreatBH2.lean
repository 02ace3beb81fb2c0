/- A function of the program, run on values of which the numbers are not known: an interpreter, and that what it answers is what the program does. -/
import Derived.Test.YtdchhmffiiedmaaGreatBH
import Derived.Carry
import Derived.RowKit
import Derived.ChangeSame
import Derived.ChangeArms
import Derived.OpenShut
import Derived.WalkKit
import Derived.ProofKit
import Derived.JoinedOf
import Derived.ChangeSlices
import Derived.ChangeOld
import Derived.Test.YtdchhmffiiedmaaGreatRows
namespace Go.Xv
open Go.RowKit (Below)

theorem memN_iff {a : Nat} {l : List Nat} : memN a l = true ↔ a ∈ l := by
  unfold memN
  rw [List.any_eq_true]
  constructor
  · rintro ⟨x, hx, hb⟩; rw [Nat.eq_of_beq_eq_true hb]; exact hx
  · intro h; exact ⟨a, h, Nat.beq_refl a⟩
theorem memN_false {a : Nat} {l : List Nat} : memN a l = false ↔ a ∉ l := by
  rw [← Bool.not_eq_true, memN_iff]

/-- what two operations, of which neither must be before the other, have apart. -/
structure Apart (n0 : Nat) (x y : Rec) : Prop where
  xy : ∀ t, x.dst = some t → t ∉ y.reads
  yx : ∀ t, y.dst = some t → t ∉ x.reads
  w : ∀ s ∈ x.w, s ∉ y.w
  rd : ∀ s ∈ y.w, rdHas x.rd s = true → n0 ≤ s

theorem okPair_spec {n0 : Nat} {pre : Nat} {x y : Rec} (h : okPair n0 pre x.log y.log = true) : memB pre x.i = true ∨ Apart n0 x y := by
  unfold okPair at h
  simp only [Bool.or_eq_true, Bool.and_eq_true, Rec.log] at h
  rcases h with h | ⟨⟨⟨⟨_, h2⟩, h3⟩, h4⟩, h5⟩
  · exact .inl h
  · refine .inr ⟨fun t ht => ?_, fun t ht => ?_, fun s hs hs' => ?_, fun s hs hr => ?_⟩
    · simp only [ht, Bool.not_eq_true', memN_false] at h2; exact h2
    · simp only [ht, Bool.not_eq_true', memN_false] at h3; exact h3
    · simp only [Bool.not_eq_true', List.any_eq_false, Bool.not_eq_true, memN_false] at h4
      exact h4 s hs hs'
    · simp only [Bool.not_eq_true', List.any_eq_false, Bool.not_eq_true] at h5
      have := h5 s hs
      rcases Nat.lt_or_ge s n0 with hlt | hge
      · have : Nat.blt s n0 = true := Nat.ble_eq_true_of_le hlt
        simp_all
      · exact hge

theorem okLog_spec {n0 : Nat} {pre : Nat} {l : List Rec} {y : Rec} (h : okLog n0 pre (l.map Rec.log) y.log = true) :
    (∀ t, y.dst = some t → t ∉ y.reads) ∧ ∀ x ∈ l, (memB pre x.i = true ∨ Apart n0 x y) ∧ (∀ t, x.dst = some t → y.dst ≠ some t) ∧ (∀ s ∈ x.w, rdHas y.rd s = true → n0 ≤ s) := by
  unfold okLog at h
  simp only [Bool.and_eq_true, List.all_eq_true] at h
  refine ⟨fun t ht => ?_, fun x hx => ?_⟩
  · have h1 := h.1
    simp only [Rec.log, ht, Bool.not_eq_true', memN_false] at h1
    exact h1
  · have h2 := h.2 x.log (List.mem_map.2 ⟨x, hx, rfl⟩)
    refine ⟨okPair_spec h2.1.1, fun t ht ht' => ?_, fun s hs hr => ?_⟩
    · have h3 := h2.1.2
      simp only [Rec.log, ht, ht', Nat.beq_refl, Bool.not_true] at h3
      cases h3
    · have h3 := h2.2
      simp only [Rec.log, Bool.not_eq_true', List.any_eq_false, Bool.not_eq_true] at h3
      have := h3 s hs
      rcases Nat.lt_or_ge s n0 with hlt | hge
      · have : Nat.blt s n0 = true := Nat.ble_eq_true_of_le hlt
        simp_all
      · exact hge

section
variable {P : Program} {S : FuncId → List VV → Option (Bool × VV)}

theorem tmpsOf_mem : ∀ (l : List Operand) (t : Nat), Operand.tmp t ∈ l → t ∈ tmpsOf l
  | [], _, h => by simp at h
  | x :: r, t, h => by
    rcases List.mem_cons.1 h with rfl | h
    · simp [tmpsOf]
    · have := tmpsOf_mem r t h
      cases x <;> simp [tmpsOf, this]

theorem appE_cr {T : Nat → Option VV} {m : Nat → Option Blk} {n : Nat} {c : Call} {b : Bool} {e : Eff} (h : appE P T m n c = some (b, e)) : cr e = true := by
  unfold appE at h
  simp only [Bool.cond_eq_ite] at h
  repeat' split at h
  all_goals first
    | (cases h; done)
    | (simp only [Option.some.injEq, Prod.mk.injEq] at h; rw [← h.2]; rfl)

theorem effE_n {ro : List Nat} {T : Nat → Option VV} {m mf : Nat → Option Blk} {n n' : Nat} {o : Oper} {e : Eff} (hc : cr e = false) (he : effE P S ro T m mf n o = some (true, e)) : effE P S ro T m mf n' o = some (true, e) := by
  unfold effE at he ⊢
  cases hop : o.op <;> simp only [hop] at he ⊢ <;> try exact he
  case makeFunc fn q cs => cases fn <;> exact he
  case slice t x lo hi mx => cases mx <;> exact he
  case alloc t =>
    split at he
    · rename_i z _
      cases hz : z.cells.toList.all Value.oneCell' with
      | false => rw [hz] at he; cases he
      | true => rw [hz] at he; simp only [cond_true] at he; obtain ⟨_, rfl⟩ := inz he; cases hc
    · cases he
  case box t x =>
    split at he
    · rename_i c b _
      cases hz : c.all oneV with
      | false => rw [hz] at he; cases he
      | true => rw [hz] at he; simp only [cond_true] at he; obtain ⟨_, rfl⟩ := inz he; cases hc
    · cases he
  case buildSlice t l ps =>
    split at he
    · rename_i el _
      split at he
      · rename_i c b _
        generalize hq : (Nat.beq ps.size l && Nat.ble (l * P.cellsOf el) 1000 && c.all oneV && hasT P el && (P.info? el).any (·.zero.isSome)) = q at he ⊢
        cases q with
        | false => cases he
        | true =>
          simp only [cond_true] at he ⊢
          cases hr : (o.dst.any (fun d => ro.any (Nat.beq d)) && b) with
          | false => rw [hr] at he; simp only [cond_false] at he; obtain ⟨_, rfl⟩ := inz he; cases hc
          | true => rw [hr] at he; exact he
      · cases he
    · cases he
  case makeSlice t x y =>
    split at he
    · rename_i el _
      split at he
      · rename_i l c z _ _ _
        generalize hq : (z.cells.toList.all Value.oneCell' && Nat.beq z.cells.size (P.cellsOf el) && Nat.blt 0 (P.cellsOf el) && hasT P el) = q at he
        cases q with
        | false => cases he
        | true => simp only [cond_true] at he; obtain ⟨_, rfl⟩ := inz he; cases hc
      · cases he
    · cases he
  case call c =>
    obtain ⟨callee, args, argTypes⟩ := c
    cases callee with
    | invoke r s => simp only [callE] at he; cases he
    | builtin b =>
      cases b <;> simp only [callE] at he ⊢ <;> try exact he
      rw [appE_cr he] at hc
      cases hc
    | value f =>
      simp only [callE] at he ⊢
      split at he
      · rename_i F L _ _
        split at he
        · rename_i f' L' _
          split at he
          · rename_i L'' _
            cases hr : S f' L'' with
            | none => simp [hr] at he
            | some r =>
              simp only [hr] at he ⊢
              split at he
              · cases hro : o.dst.any (fun d => ro.any (Nat.beq d)) with
                | true => rw [hro] at he; simp only [cond_true] at he ⊢; exact he
                | false => rw [hro] at he; simp only [cond_false] at he; obtain ⟨_, rfl⟩ := inz he; cases hc
              · rename_i x hx hne
                cases hne
                exact he
              · cases he
          · cases he
        · cases he
      · cases he

theorem countP_lt {p q : Nat → Bool} : ∀ (l : List Nat), (∀ x ∈ l, q x = true → p x = true) → (∃ x ∈ l, p x = true ∧ q x = false) → l.countP q + 1 ≤ l.countP p
  | [], _, ⟨x, hx, _⟩ => by simp at hx
  | y :: r, h, hex => by
    simp only [List.countP_cons]
    have hle : r.countP q ≤ r.countP p := List.countP_mono_left fun x hx hq => h x (by simp [hx]) hq
    by_cases hy : p y = true ∧ q y = false
    · simp [hy.1, hy.2]; omega
    · obtain ⟨x, hx, hp, hq⟩ := hex
      rcases List.mem_cons.1 hx with rfl | hx
      · exact absurd ⟨hp, hq⟩ hy
      · have := countP_lt r (fun x hx => h x (by simp [hx])) ⟨x, hx, hp, hq⟩
        have : q y = true → p y = true := h y (by simp)
        cases hpy : p y <;> cases hqy : q y <;> simp_all <;> omega

theorem draw_sound (hS : ∀ f, Good P f (unS (S f))) : DrawOK P S := by
  intro B N w0 ro ops Q r st k a w hd hedge hk hs hQ
  obtain ⟨recs, st', hk', hlen, hnle, hpos, hnum, hfin, hrec⟩ := drawK_spec ops.toList 0 [] st k hk
  simp only [List.nil_append] at hrec
  have hpre : PreOK ops.toList (preOf ops.toList ops.size []) := preOf_ok ops.toList ops.size [] (fun i j hj => by simp [memB_zero] at hj)
  generalize preOf ops.toList ops.size [] = pre at hk hrec hpre
  have hidx : ∀ (p : Nat) (rc : Rec), recs[p]? = some rc → rc.i = p := fun p rc h => by have := (hpos p rc h).1; omega
  -- what is known of two operations in the text's order
  have pair : ∀ (p q : Nat) (x y : Rec), p < q → recs[p]? = some x → recs[q]? = some y → (memB (pre.getD q 0) p = true ∨ Apart st.n x y) ∧ (∀ t, x.dst = some t → y.dst ≠ some t) ∧ (∀ s ∈ x.w, rdHas y.rd s = true → st.n ≤ s) := by
    intro p q x y hpq hx hy
    have hq : q < ops.toList.length := by rw [← hlen]; exact (List.getElem?_eq_some_iff.1 hy).1
    have hl := (hrec q ops.toList[q] y (by simp) hy).log
    have hmem : x ∈ recs.take q := by
      refine List.mem_of_getElem? (i := p) ?_
      rw [List.getElem?_take, if_pos hpq]; exact hx
    have := (okLog_spec hl).2 x hmem
    rw [hidx p x hx, hidx q y hy] at this
    exact this
  have self : ∀ (q : Nat) (y : Rec), recs[q]? = some y → ∀ t, y.dst = some t → t ∉ y.reads := by
    intro q y hy
    have hq : q < ops.toList.length := by rw [← hlen]; exact (List.getElem?_eq_some_iff.1 hy).1
    exact (okLog_spec (hrec q ops.toList[q] y (by simp) hy).log).1
  -- the state behind those that are listed
  let X (L : Nat → Bool) : XS := foldX L recs (get? st.t, get? st.m)
  let I (L : Nat → Bool) (a : Act) (w : World) : Prop := ∃ (ρ : Rho) (St : Nat → Prop), SR B N w0 (X L).1 (X L).2 ρ St a w ∧ (∀ rc ∈ recs, rc.cr = true → L rc.i = false → ρ rc.n = none) ∧ (∀ s, st'.n ≤ s → ρ s = none)
  have fin : ∀ a w, I all1 a w → Q .normal a w := by
    rintro a w ⟨ρ, St, h1, _, h3⟩
    refine hQ st' a w hk' ⟨ρ, St, h3, ?_⟩
    have e1 : get? st'.t = (X all1).1 := congrArg Prod.fst hfin
    have e2 : get? st'.m = (X all1).2 := congrArg Prod.snd hfin
    rw [e1, e2]
    exact h1
  -- one more
  have step : ∀ (L : Nat → Bool) (i : Nat) (o : Oper) (a : Act) (w : World), Down ops.toList L → L i = false → ops.toList[i]? = some o → (∀ e ∈ o.after.toList, Region.binds .any e = true → L e.on = true) → I L a w →
      ∀ (K : Act → World → Prop), (∀ a' w', I (fun j => decide (j = i) || L j) a' w' → K a' w') → (if Region.wanted o (yielded ops a.tmps) = true then o.wp P a w K Q ∨ (o.asks P a w ∧ LetsOut Q) else K (a.put o.dst undef) w) := by
    intro L i o a w hdown hL ho hafter hI K hK
    obtain ⟨ρ, St, hsr, hρ, hρ'⟩ := hI
    have hi : i < recs.length := by rw [hlen]; exact (List.getElem?_eq_some_iff.1 ho).1
    obtain ⟨rc, hrc⟩ : ∃ rc, recs[i]? = some rc := ⟨recs[i], by simp [hi]⟩
    have hok := hrec i o rc ho hrc
    have hrci := hidx i rc hrc
    have hprei : ∀ j, memB (pre.getD i 0) j = true → L j = true := fun j hj => down_pre hpre hdown hedge i j (fun o' ho' => by rw [ho] at ho'; cases ho'; exact hafter) hj
    have hprej : ∀ j, L j = true → ∀ q, memB (pre.getD j 0) q = true → L q = true := fun j hj q hq => down_pre hpre hdown hedge j q (fun o' ho' => hdown j o' hj ho') hq
    -- the split
    have hsplit : recs = recs.take i ++ rc :: recs.drop (i + 1) := by
      have : recs[i] :: recs.drop (i + 1) = recs.drop i := List.getElem_cons_drop hi
      rw [show recs[i] = rc by rw [List.getElem?_eq_getElem hi] at hrc; cases hrc; rfl] at this
      rw [this, List.take_append_drop]
    have htake : ∀ x ∈ recs.take i, ∃ p, p < i ∧ recs[p]? = some x := by
      intro x hx
      obtain ⟨p, hp, hpx⟩ := List.getElem_of_mem hx
      simp only [List.length_take] at hp
      exact ⟨p, by omega, by rw [List.getElem_take] at hpx; rw [List.getElem?_eq_getElem (by omega), hpx]⟩
    have hdrop : ∀ x ∈ recs.drop (i + 1), ∃ p, i < p ∧ recs[p]? = some x := by
      intro x hx
      obtain ⟨p, hp, hpx⟩ := List.getElem_of_mem hx
      simp only [List.length_drop] at hp
      exact ⟨i + 1 + p, by omega, by rw [List.getElem_drop] at hpx; rw [List.getElem?_eq_getElem (by omega), hpx]⟩
    have hall : ∀ x ∈ recs, ∃ p, recs[p]? = some x := fun x hx => by obtain ⟨p, hp, hpx⟩ := List.getElem_of_mem hx; exact ⟨p, by rw [List.getElem?_eq_getElem hp, hpx]⟩
    -- the text's state
    let Xt : XS := foldX all1 (recs.take i) (get? st.t, get? st.m)
    have hXt : Xt = foldX (fun j => decide (j < i)) recs (get? st.t, get? st.m) := by
      show foldX all1 (recs.take i) _ = _
      conv => rhs; rw [hsplit]
      rw [foldX_append]
      have e1 : foldX (fun j => decide (j < i)) (recs.take i) (get? st.t, get? st.m) = foldX all1 (recs.take i) (get? st.t, get? st.m) := foldX_congr _ _ fun x hx => by
        obtain ⟨p, hp, hpx⟩ := htake x hx
        rw [hidx p x hpx]; simp [all1, hp]
      have e2 : ∀ Y, foldX (fun j => decide (j < i)) (rc :: recs.drop (i + 1)) Y = Y := by
        have : ∀ (l : List Rec) (Y : XS), (∀ x ∈ l, ¬ x.i < i) → foldX (fun j => decide (j < i)) l Y = Y := by
          intro l
          induction l with
          | nil => intro Y _; rfl
          | cons x l ih => intro Y hx; simp only [foldX, hx x (by simp), decide_false, Bool.false_eq_true, if_false]; exact ih Y (fun y hy => hx y (by simp [hy]))
        intro Y
        refine this _ Y fun x hx => ?_
        rcases List.mem_cons.1 hx with rfl | hx
        · rw [hrci]; omega
        · obtain ⟨p, hp, hpx⟩ := hdrop x hx; rw [hidx p x hpx]; omega
      rw [e1, e2]
    -- slots that i reads
    have hT : ∀ t ∈ rc.reads, (X L).1 t = Xt.1 t := by
      intro t ht
      rw [hXt]
      refine foldX_T t recs _ _ rfl (fun x hx hxd => ?_) (fun x _ Y Y' h => stepX_pt.1 t h)
      obtain ⟨p, hpx⟩ := hall x hx
      rw [hidx p x hpx]
      rcases Nat.lt_trichotomy p i with hlt | heq | hgt
      · have hpr : memB (pre.getD i 0) p = true := by
          rcases (pair p i x rc hlt hpx hrc).1 with h | h
          · exact h
          · exact absurd ht (h.xy t hxd)
        simp [hprei p hpr, hlt]
      · subst heq
        rw [hrc] at hpx
        cases hpx
        exact absurd ht (self p rc hrc t hxd)
      · have : L p = false := by
          cases hLp : L p with
          | false => rfl
          | true =>
            rcases (pair i p rc x hgt hrc hpx).1 with h | h
            · rw [hprej p hLp i h] at hL; cases hL
            · exact absurd ht (h.yx t hxd)
        simp [this]; omega
    -- blocks that i writes
    have hM : ∀ s ∈ rc.w, (X L).2 s = Xt.2 s := by
      intro s hsw
      rw [hXt]
      refine foldX_M s recs _ _ rfl (fun x hx hxw => ?_)
      obtain ⟨p, hpx⟩ := hall x hx
      rw [hidx p x hpx]
      rcases Nat.lt_trichotomy p i with hlt | heq | hgt
      · have hpr : memB (pre.getD i 0) p = true := by
          rcases (pair p i x rc hlt hpx hrc).1 with h | h
          · exact h
          · exact absurd hsw (h.w s hxw)
        simp [hprei p hpr, hlt]
      · subst heq; simp [hL]
      · have : L p = false := by
          cases hLp : L p with
          | false => rfl
          | true =>
            rcases (pair i p rc x hgt hrc hpx).1 with h | h
            · rw [hprej p hLp i h] at hL; cases hL
            · exact absurd hxw (h.w s hsw)
        simp [this]; omega
    -- old blocks, if i reads memory
    have hO : ∀ s, rdHas rc.rd s = true → s < st.n → (X L).2 s = get? st.m s := by
      intro s hrd hs
      have e0 : foldX (fun _ => false) recs (get? st.t, get? st.m) = (get? st.t, get? st.m) := by
        have : ∀ (l : List Rec) (Y : XS), foldX (fun _ => false) l Y = Y := by
          intro l
          induction l with
          | nil => intro Y; rfl
          | cons x l ih => intro Y; simp only [foldX, Bool.false_eq_true, if_false]; exact ih Y
        exact this _ _
      have : (X L).2 s = (foldX (fun _ => false) recs (get? st.t, get? st.m)).2 s := by
        refine foldX_M s recs _ _ rfl (fun x hx hxw => ?_)
        obtain ⟨p, hpx⟩ := hall x hx
        rw [hidx p x hpx]
        rcases Nat.lt_trichotomy p i with hlt | heq | hgt
        · have := (pair p i x rc hlt hpx hrc).2.2 s hxw hrd
          omega
        · subst heq
          exact hL
        · cases hLp : L p with
          | false => rfl
          | true =>
            rcases (pair i p rc x hgt hrc hpx).1 with h | h
            · rw [hprej p hLp i h] at hL; cases hL
            · have := h.rd s hxw hrd
              omega
      rw [this, e0]
    -- behind the step
    have hnext : X (fun j => decide (j = i) || L j) = stepX (X L) rc := by
      show foldX _ recs _ = stepX (foldX L recs _) rc
      rw [hsplit, foldX_append, foldX_append]
      have e1 : foldX (fun j => decide (j = i) || L j) (recs.take i) (get? st.t, get? st.m) = foldX L (recs.take i) (get? st.t, get? st.m) := foldX_congr _ _ fun x hx => by
        obtain ⟨p, hp, hpx⟩ := htake x hx
        rw [hidx p x hpx]
        simp [show p ≠ i by omega]
      have e2 : ∀ Y, foldX (fun j => decide (j = i) || L j) (recs.drop (i + 1)) Y = foldX L (recs.drop (i + 1)) Y := fun Y => foldX_congr _ _ fun x hx => by
        obtain ⟨p, hp, hpx⟩ := hdrop x hx
        rw [hidx p x hpx]
        simp [show p ≠ i by omega]
      simp only [foldX, hrci, decide_true, Bool.true_or, if_true, hL, Bool.false_eq_true, if_false]
      rw [e1, e2]
      refine foldX_comm _ _ fun x hx hLx => ?_
      obtain ⟨p, hp, hpx⟩ := hdrop x hx
      rw [hidx p x hpx] at hLx
      obtain ⟨h1, h2, _⟩ := pair i p rc x hp hrc hpx
      refine ⟨h2, ?_⟩
      rcases h1 with h | h
      · rw [hprej p hLx i h] at hL; cases hL
      · exact h.w
    have hvals : ∀ t ∈ readsOf ops o, ∀ x, Xt.1 t = some (.v x) → a.tmps[t]? = some x := by
      intro t ht x hx
      rw [← hok.reads] at ht
      exact hsr.vals t x (by rw [hT t ht]; exact hx)
    have hdo : ∀ t, o.dst = some t → t < N := hd o (List.mem_of_getElem? ho)
    cases hre : rc.e with
    | none =>
      rw [if_neg (by rw [hok.skip hre a hvals]; simp)]
      refine hK _ _ ⟨ρ, St, ?_, fun x hx hcr hLx => hρ x hx hcr (by simp at hLx; exact hLx.2), hρ'⟩
      have e : stepX (X L) rc = (updT (X L).1 rc.dst (.v undef), (X L).2) := by simp [stepX, hre]
      rw [hnext, e, hok.dst]
      exact hsr.skip hdo
    | some e =>
      obtain ⟨r1, r2, r3⟩ := hok.run e hre
      rw [if_pos (r3 a hvals)]
      left
      have e' : stepX (X L) rc = (effT (X L).1 rc.dst e, effM (X L).2 rc.n e) := by simp [stepX, hre]
      let n' : Nat := if rc.cr then rc.n else st'.n
      have hn : ρ n' = none := by
        by_cases hcr : rc.cr = true
        · simp only [n', hcr, if_true]; exact hρ rc (List.mem_of_getElem? hrc) hcr (by rw [hrci]; exact hL)
        · simp only [n', hcr]; exact hρ' _ (Nat.le_refl _)
      have hcre : rc.cr = cr e := by simp [Rec.cr, hre]
      have hev : ∀ x ∈ o.op.operands.toList, ev Xt.1 x = ev (X L).1 x := by
        intro x hx
        cases x with
        | tmp t =>
          refine (hT t ?_).symm
          rw [hok.reads]
          exact List.mem_append_right _ (tmpsOf_mem _ _ hx)
        | _ => rfl
      -- the memory that it sees
      let m' : Nat → Option Blk := fun s => if rdHas rc.rd s then get? st.m s else none
      let mf' : Nat → Option Blk := fun s => if s ∈ rc.w then Xt.2 s else none
      have hw : rc.w = wOf rc.n e := by unfold Rec.w; rw [hre]
      have heff0 : effE P S ro (X L).1 m' mf' rc.n o = some (true, e) := by
        refine effE_congr hev (fun s hrd => by simp only [m', r1]; rw [if_pos hrd]) (fun s b hsb => ?_) r2
        have : s ∈ rc.w := by rw [hw, hsb]; simp [wOf]
        simp [mf', this]
        rfl
      have heff : effE P S ro (X L).1 m' mf' n' o = some (true, e) := by
        by_cases hcr : rc.cr = true
        · simp only [n', hcr, if_true]; exact heff0
        · simp only [n', hcr]; exact effE_n (by rw [← hcre]; simpa using hcr) heff0
      have hMn : effM (X L).2 n' e = effM (X L).2 rc.n e := by
        by_cases hcr : rc.cr = true
        · simp only [n', hcr, if_true]
        · cases e <;> first | rfl | (exfalso; rw [hcre] at hcr; exact hcr rfl)
      refine eff_sound hsr (fun s k hk => ?_) (fun s k hk => ?_) hS hdo hn heff ?_
      · simp only [m'] at hk
        split at hk
        · rename_i hrd
          obtain ⟨ρ0, St0, z1, z2⟩ := hs
          have hslt : s < st.n := by
            obtain ⟨b, g, cs, ty, q1, _⟩ := z2.mem s k hk
            rcases Nat.lt_or_ge s st.n with h | h
            · exact h
            · rw [z1 s h] at q1; cases q1
          rw [hO s hrd hslt]
          exact hk
        · cases hk
      · simp only [mf'] at hk
        split at hk
        · rename_i hsw
          rw [hM s hsw]; exact hk
        · cases hk
      · intro ρ2 St2 a2 w2 hρ2 _ hsr2
        have cases2 : (rc.cr = true ∧ n' = rc.n) ∨ cr e = false := by
          by_cases hcr : rc.cr = true
          · exact .inl ⟨hcr, by simp only [n', hcr, if_true]⟩
          · right; rw [← hcre]; simpa using hcr
        refine hK _ _ ⟨ρ2, St2, ?_, fun x hx hcr hLx => ?_, fun s hs => ?_⟩
        · rw [hnext, e', hok.dst, ← hMn]; exact hsr2
        · obtain ⟨p, hpx⟩ := hall x hx
          rw [hidx p x hpx] at hLx
          simp only [Bool.or_eq_false_iff, decide_eq_false_iff_not] at hLx
          have hold := hρ x hx hcr (by rw [hidx p x hpx]; exact hLx.2)
          rcases cases2 with ⟨hcr', hn'⟩ | hce
          · rw [hρ2 _ (.inl ?_)]
            · exact hold
            · rw [hn']
              rcases Nat.lt_or_gt_of_ne hLx.1 with h | h
              · have := hnum p i x rc h hpx hrc hcr; omega
              · have := hnum i p rc x h hrc hpx hcr'; omega
          · rw [hρ2 _ (.inr hce)]; exact hold
        · have hold := hρ' s hs
          rcases cases2 with ⟨hcr', hn'⟩ | hce
          · rw [hρ2 _ (.inl ?_)]
            · exact hold
            · rw [hn']
              have := (hpos i rc hrc).2.2 hcr'
              omega
          · rw [hρ2 _ (.inr hce)]; exact hold
  -- all orders
  have allL : ∀ (listed : Array Bool), (∀ i, i < ops.size → listed.getD i false = true) → ∀ a w, I (fun i => listed.getD i false) a w → Q .normal a w := by
    intro listed hl a w hI
    refine fin a w ?_
    have e : X (fun i => listed.getD i false) = X all1 := foldX_congr _ _ fun x hx => by
      obtain ⟨p, hp, hpx⟩ := List.getElem_of_mem hx
      rw [hidx p x (by rw [List.getElem?_eq_getElem hp, hpx])]
      rw [hl p (by rw [hlen] at hp; simpa using hp)]
      rfl
    obtain ⟨ρ, St, h1, _, h3⟩ := hI
    exact ⟨ρ, St, by rw [← e]; exact h1, (fun _ _ _ h => by cases h), h3⟩
  have main : ∀ (fuel : Nat) (listed : Array Bool) (a : Act) (w : World), listed.size = ops.size → Down ops.toList (fun i => listed.getD i false) → (List.range ops.size).countP (fun i => !listed.getD i false) ≤ fuel →
      I (fun i => listed.getD i false) a w → wpAny P .any ops Q fuel listed a w := by
    intro fuel
    induction fuel with
    | zero =>
      intro listed a w hsz hdown hcnt hI
      have hl : ∀ i, i < ops.size → listed.getD i false = true := by
        intro i hi
        have := List.countP_eq_zero.1 (Nat.le_zero.1 hcnt) i (List.mem_range.2 hi)
        simpa using this
      refine ⟨?_, allL listed hl a w hI⟩
      cases hr : Region.ready .any ops listed with
      | nil => rfl
      | cons j js =>
        have hj : j ∈ Region.ready .any ops listed := by rw [hr]; simp
        obtain ⟨h1, o, ho, _⟩ := mem_ready.1 hj
        have hjlt : j < ops.size := (Array.getElem?_eq_some_iff.1 ho).1
        have := hl j hjlt
        simp [hsz, hjlt] at h1 this
        rw [h1] at this; cases this
    | succ fuel ih =>
      intro listed a w hsz hdown hcnt hI
      have gd : ∀ i, i < ops.size → listed.getD i true = listed.getD i false := fun i hi => by simp [hsz, hi]
      refine ⟨fun hr => ?_, fun i hi => ?_⟩
      · refine allL listed ?_ a w hI
        intro i
        induction i using Nat.strongRecOn with
        | _ i ihi =>
          intro hi
          cases hli : listed.getD i false with
          | true => rfl
          | false =>
            have ho : ops[i]? = some ops[i] := by simp [hi]
            have : i ∈ Region.ready .any ops listed := mem_ready.2 ⟨by rw [gd i hi]; exact hli, ops[i], ho, fun e he hb => by
              have hlt := edgesOK_spec ops.toList 0 i ops[i] hedge (by simp [hi]) e (Array.mem_toList_iff.2 he) hb
              exact ihi e.on (by omega) (by omega)⟩
            rw [hr] at this
            cases this
      · obtain ⟨h1, o, ho, hall'⟩ := mem_ready.1 hi
        have hilt : i < ops.size := (Array.getElem?_eq_some_iff.1 ho).1
        have hoL : ops.toList[i]? = some o := by simpa using ho
        have hLi : listed.getD i false = false := by rw [← gd i hilt]; exact h1
        have hafter : ∀ e ∈ o.after.toList, Region.binds .any e = true → listed.getD e.on false = true := fun e he hb => hall' e (Array.mem_toList_iff.1 he) hb
        have hnew : (fun j => (listed.setIfInBounds i true).getD j false) = (fun j => decide (j = i) || listed.getD j false) := by
          funext j
          by_cases hj : j = i
          · subst hj; simp [hsz, hilt]
          · rw [getD_set_ne false (Ne.symm hj)]; simp [hj]
        unfold wpOp
        rw [ho]
        refine step (fun i => listed.getD i false) i o a w hdown hLi hoL hafter hI _ (fun a' w' hI' => ?_)
        refine ih (listed.setIfInBounds i true) a' w' (by simpa using hsz) ?_ ?_ (by rw [hnew]; exact hI')
        · rw [hnew]
          intro j o' hj ho' e he hb
          simp only [Bool.or_eq_true, decide_eq_true_eq] at hj ⊢
          rcases hj with rfl | hj
          · rw [hoL] at ho'; cases ho'; exact .inr (hafter e he hb)
          · exact .inr (hdown j o' hj ho' e he hb)
        · have hnp : ∀ x, (listed.setIfInBounds i true).getD x false = (decide (x = i) || listed.getD x false) := fun x => congrFun hnew x
          have hlt := countP_lt (p := fun i => !listed.getD i false) (q := fun j => !(listed.setIfInBounds i true).getD j false) (List.range ops.size) (fun x _ hx => by
            have hx' : (!(listed.setIfInBounds i true).getD x false) = true := hx
            rw [hnp x] at hx'
            simp only [Bool.not_or, Bool.and_eq_true] at hx'
            exact hx'.2) ⟨i, List.mem_range.2 hilt, by simp only [hLi]; rfl, by
              show (!(listed.setIfInBounds i true).getD i false) = false
              rw [hnp i]
              simp⟩
          omega
  have hrep : ∀ i, (Array.replicate ops.size false).getD i false = false := by
    intro i
    by_cases hi : i < ops.size <;> simp [hi]
  refine main ops.size _ a w (by simp) ?_ ?_ ?_
  · intro i o hi
    have hi' : (Array.replicate ops.size false).getD i false = true := hi
    rw [hrep i] at hi'
    cases hi'
  · exact Nat.le_trans List.countP_le_length (by simp)
  · have e0 : X (fun i => (Array.replicate ops.size false).getD i false) = (get? st.t, get? st.m) := by
      show foldX _ recs _ = _
      have : ∀ (l : List Rec) (Y : XS), foldX (fun i => (Array.replicate ops.size false).getD i false) l Y = Y := by
        intro l
        induction l with
        | nil => intro Y; rfl
        | cons x l ih =>
          intro Y
          simp only [foldX]
          rw [if_neg (by rw [hrep]; simp)]
          exact ih Y
      exact this _ _
    obtain ⟨ρ, St, h1, h2⟩ := hs
    refine ⟨ρ, St, by rw [e0]; exact h2, fun rc hrc _ _ => ?_, fun s hs => h1 s (by omega)⟩
    obtain ⟨p, hp, hpx⟩ := List.getElem_of_mem hrc
    exact h1 _ (hpos p rc (by rw [List.getElem?_eq_getElem hp, hpx])).2.1
end
end Go.Xv
namespace Go.Xv

/-- What a says, b says too. -/
def Le (a b : R) : Prop := ∀ r, a = some r → b = some r
theorem Le.refl (a : R) : Le a a := fun _ h => h
theorem Le.none (a : R) : Le none a := fun _ h => by cases h
theorem Le.trans {a b c : R} (h : Le a b) (k : Le b c) : Le a c := fun r hr => k r (h r hr)
theorem Le.bif {c : Bool} {a b a' b' : R} (h : Le a a') (k : Le b b') : Le (bif c then a else b) (bif c then a' else b') := by
  cases c
  · exact k
  · exact h

section
variable {P : Program} {S : FuncId → List VV → Option (Bool × VV)} {ro : List Nat}

theorem stepK_mono {m : List (Nat × Blk)} {ok : Eff → Bool} {o : Oper} {st : VS} {k k' : VS → Eff → R} (h : ∀ s e, Le (k s e) (k' s e)) : Le (stepK P S ro m ok o st k) (stepK P S ro m ok o st k') := by
  unfold stepK
  cases effE P S ro (get? st.t) (get? m) (get? st.m) st.n o with
  | none => exact Le.refl _
  | some x => exact Le.bif (Le.bif (h _ _) (Le.refl _)) (Le.refl _)

theorem guardK_mono {ops : Array Oper} {o : Oper} {st : VS} {run run' skip skip' : VS → R} (h : ∀ s, Le (run s) (run' s)) (h' : ∀ s, Le (skip s) (skip' s)) : Le (guardK ops o st run skip) (guardK ops o st run' skip') := by
  unfold guardK
  split
  · exact h _
  · split
    · exact Le.refl _
    · split
      · exact Le.bif (Le.bif (h _) (h' _)) (Le.bif (h' _) (h _))
      · exact Le.bif (h' _) (Le.refl _)
      · exact Le.refl _

theorem opsK_mono {ops : Array Oper} : ∀ (l : List Oper) (st : VS) {k k' : VS → R}, (∀ s, Le (k s) (k' s)) → Le (opsK P S ro ops l st k) (opsK P S ro ops l st k')
  | [], _, _, _, h => h _
  | o :: r, st, k, k', h => by
    unfold opsK
    exact guardK_mono (fun s => stepK_mono fun _ _ => opsK_mono r _ h) (fun s => opsK_mono r _ h)

theorem drawK_mono {ops : Array Oper} {m : List (Nat × Blk)} {n0 : Nat} {pre : List Nat} : ∀ (l : List Oper) (i : Nat) (lg : List Log) (st : VS) {k k' : VS → R}, (∀ s, Le (k s) (k' s)) →
    Le (drawK P S ro ops m n0 pre l i lg st k) (drawK P S ro ops m n0 pre l i lg st k')
  | [], _, _, _, _, _, h => h _
  | o :: r, i, lg, st, k, k', h => by
    unfold drawK
    exact guardK_mono (fun s => stepK_mono fun _ _ => drawK_mono r _ _ _ h) (fun s => Le.bif (drawK_mono r _ _ _ h) (Le.refl _))

theorem region_mono {C : Cfg} {ops : Array Oper} {draw : Bool} {st : VS} {k k' : VS → R} (h : ∀ s, Le (k s) (k' s)) : Le (region P S C ops draw st k) (region P S C ops draw st k') := by
  unfold region
  exact Le.bif (Le.bif (Le.refl _) (drawK_mono _ _ _ _ fun _ => h _)) (opsK_mono _ _ fun _ => h _)
end

/-- a loop whose states are laid in order at its head already. -/
def iterC (step : VS → (Exit → VS → R) → R) (h : VS → VS) (k : Exit → VS → R) : Nat → VS → R
  | 0, _ => none
  | n + 1, st => step st fun e st' => match e with
    | .normal => iterC step h k n (h st')
    | e => k e st'
theorem iter_eq (step : VS → (Exit → VS → R) → R) (h : VS → VS) (k : Exit → VS → R) : ∀ (n : Nat) (st : VS), iter step h k n st = iterC step h k n (h st)
  | 0, _ => rfl
  | n + 1, st => by
    unfold iter iterC
    congr 1
    funext e st'
    cases e <;> try rfl
    exact iter_eq step h k n st'

section
variable (P : Program) (S : FuncId → List VV → Option (Bool × VV))

/-- 'codeK', its loops, and what follows where ways meet, answered by tables. -/
def codeL (C : Cfg) (I : Nat → VS → (Exit → VS → R) → R) (J : Nat → Nat → VS → (Exit → VS → R) → R) : Code → Nat → VS → (Exit → VS → R) → R
  | .skip, _, st, k => k .normal st
  | .region _ ops draw, _, st, k => region P S C ops draw st (k .normal)
  | .seq a b, j, st, k => codeL C I J a j st fun e st => match e with
    | .normal => (match joinK C b with
      | some K => J ((fstR b).getD 0) j (canon K st) k
      | none => codeL C I J b j st k)
    | e => k e st
  | .cond c a b, j, st, k => match ev (get? st.t) c with
    | some (.v (.bool g)) => match c with
      | .tmp d => bif g then codeL C I J a j { st with t := condT C.ro d true st.t } k else codeL C I J b j { st with t := condT C.ro d false st.t } k
      | _ => bif g then codeL C I J a j st k else codeL C I J b j st k
    | _ => none
  | .block id b, _, st, k => codeL C I J b id st fun e st => match e with
    | .exit i => bif Nat.beq i id then k .normal st else k (.exit i) st
    | e => k e st
  | .loop _, j, st, k => I j st k
  | .exit id, _, st, k => k (.exit id) st
  | .ret, _, st, k => k .ret st
  | _, _, _, _ => none

def loopsOf : Code → Nat → List (Nat × Code)
  | .seq a b, j => loopsOf a j ++ loopsOf b j
  | .cond _ a b, j => loopsOf a j ++ loopsOf b j
  | .block id b, _ => loopsOf b id
  | .loop b, j => (j, b) :: loopsOf b j
  | _, _ => []
/-- the places where ways meet: the first region behind, the block round it, the code behind. -/
def joinsOf (C : Cfg) : Code → Nat → List (Nat × Nat × Code)
  | .seq a b, j => (match joinK C b with
      | some _ => [((fstR b).getD 0, j, b)]
      | none => []) ++ (joinsOf C a j ++ joinsOf C b j)
  | .cond _ a b, j => joinsOf C a j ++ joinsOf C b j
  | .block id b, _ => joinsOf C b id
  | .loop b, j => joinsOf C b j
  | _, _ => []

def headOf (C : Cfg) (j : Nat) : VS → VS := canon ((get? C.L j).getD [])

/-- The table's word for a loop is what the loop does. -/
def LoopOK (C : Cfg) (fuel : Nat) (I : Nat → VS → (Exit → VS → R) → R) (J : Nat → Nat → VS → (Exit → VS → R) → R) (p : Nat × Code) : Prop :=
  ∀ st k, Le (I p.1 st k) (iterC (codeL P S C I J p.2 p.1) (headOf C p.1) k fuel (headOf C p.1 st))
/-- The table's word for what follows is what it does. -/
def JoinOK (C : Cfg) (I : Nat → VS → (Exit → VS → R) → R) (J : Nat → Nat → VS → (Exit → VS → R) → R) (p : Nat × Nat × Code) : Prop :=
  ∀ st k, Le (J p.1 p.2.1 st k) (codeL P S C I J p.2.2 p.2.1 st k)

variable {P S}
theorem codeL_le {C : Cfg} {fuel : Nat} {I : Nat → VS → (Exit → VS → R) → R} {J : Nat → Nat → VS → (Exit → VS → R) → R} : ∀ (c : Code) (j : Nat) (st : VS) (k k' : Exit → VS → R), (∀ p ∈ loopsOf c j, LoopOK P S C fuel I J p) → (∀ p ∈ joinsOf C c j, JoinOK P S C I J p) → (∀ e s, Le (k e s) (k' e s)) →
    Le (codeL P S C I J c j st k) (codeK P S C fuel c j st k') := by
  intro c
  induction c with
  | skip => intro j st k k' _ _ h; exact h _ _
  | region id ops draw => intro j st k k' _ _ h; unfold codeL codeK; exact region_mono fun _ => h _ _
  | seq a b iha ihb =>
    intro j st k k' hl hj h
    unfold codeL codeK
    refine iha j st _ _ (fun p hp => hl p (List.mem_append_left _ hp)) (fun p hp => hj p (List.mem_append_right _ (List.mem_append_left _ hp))) fun e s => ?_
    cases e <;> try exact h _ _
    have hb := fun s => ihb j s k k' (fun p hp => hl p (List.mem_append_right _ hp)) (fun p hp => hj p (List.mem_append_right _ (List.mem_append_right _ hp))) h
    show Le (match joinK C b with | some K => J ((fstR b).getD 0) j (canon K s) k | none => codeL P S C I J b j s k) (codeK P S C fuel b j (joinS C b s) k')
    unfold joinS
    cases hk : joinK C b with
    | none => exact hb s
    | some K =>
      refine Le.trans (hj ((fstR b).getD 0, j, b) ?_ (canon K s) k) (hb _)
      unfold joinsOf
      rw [hk]
      exact List.mem_append_left _ (List.mem_cons_self ..)
  | cond x a b iha ihb =>
    intro j st k k' hl hj h
    have ha := fun s => iha j s k k' (fun p hp => hl p (List.mem_append_left _ hp)) (fun p hp => hj p (List.mem_append_left _ hp)) h
    have hb := fun s => ihb j s k k' (fun p hp => hl p (List.mem_append_right _ hp)) (fun p hp => hj p (List.mem_append_right _ hp)) h
    unfold codeL codeK
    cases ev (get? st.t) x with
    | none => exact Le.refl _
    | some v =>
      cases v with
      | v y =>
        cases y with
        | bool g =>
          cases x with
          | tmp d => exact Le.bif (ha _) (hb _)
          | _ => exact Le.bif (ha _) (hb _)
        | _ => exact Le.refl _
      | _ => exact Le.refl _
  | block id b ih =>
    intro j st k k' hl hj h
    unfold codeL codeK
    refine ih id st _ _ hl hj fun e s => ?_
    cases e <;> try exact h _ _
    exact Le.bif (h _ _) (h _ _)
  | loop b ih =>
    intro j st k k' hl hj h
    unfold codeL codeK
    refine Le.trans (hl (j, b) (List.mem_cons_self ..) st k) ?_
    rw [iter_eq]
    show Le (iterC _ _ k fuel (headOf C j st)) (iterC _ (headOf C j) k' fuel (headOf C j st))
    generalize headOf C j st = s0
    have : ∀ (n : Nat) (s : VS), Le (iterC (codeL P S C I J b j) (headOf C j) k n s) (iterC (codeK P S C fuel b j) (headOf C j) k' n s) := by
      intro n
      induction n with
      | zero => intro s; exact Le.refl _
      | succ n ihn =>
        intro s
        unfold iterC
        refine ih j s _ _ (fun p hp => hl p (List.mem_cons_of_mem _ hp)) hj fun e s' => ?_
        cases e <;> try exact h _ _
        exact ihn _
    exact this fuel s0
  | exit id => intro j st k k' _ _ h; exact h _ _
  | ret => intro j st k k' _ _ h; exact h _ _
  | _ => intro j st k k' _ _ _; exact Le.refl _

variable (P S)
/-- 'funK', its loops and meetings answered by tables. -/
def funL (C : Cfg) (I : Nat → VS → (Exit → VS → R) → R) (J : Nat → Nat → VS → (Exit → VS → R) → R) (f : FuncId) (args : List VV) : R :=
  match P.funcs[f]? with
  | some fn => match fn.body with
    | some c => bif dstsOK fn.ntmps c then (codeL P S C I J c 0 { t := number 0 args, m := [], n := 0 } fun e st => match e with
      | .ret | .normal => resK P fn st
      | _ => none) else none
    | none => none
  | none => none

def loopsIn (f : FuncId) : List (Nat × Code) :=
  match P.funcs[f]? with
  | some fn => match fn.body with
    | some c => loopsOf c 0
    | none => []
  | none => []
def loopAt (f : FuncId) (i : Nat) : Code := match (loopsIn P f)[i]? with
  | some p => p.2
  | none => .skip
def joinsIn (C : Cfg) (f : FuncId) : List (Nat × Nat × Code) :=
  match P.funcs[f]? with
  | some fn => match fn.body with
    | some c => joinsOf C c 0
    | none => []
  | none => []
def joinAt (C : Cfg) (f : FuncId) (i : Nat) : Code := match (joinsIn P C f)[i]? with
  | some p => p.2.2
  | none => .skip

variable {P S}
theorem funL_le {C : Cfg} {fuel : Nat} {I : Nat → VS → (Exit → VS → R) → R} {J : Nat → Nat → VS → (Exit → VS → R) → R} {f : FuncId} (hl : ∀ p ∈ loopsIn P f, LoopOK P S C fuel I J p) (hj : ∀ p ∈ joinsIn P C f, JoinOK P S C I J p) (args : List VV) : Le (funL P S C I J f args) (funK P S C fuel f args) := by
  unfold funL funK
  cases hf : P.funcs[f]? with
  | none => exact Le.refl _
  | some fn =>
    cases hb : fn.body with
    | none => simp only [hb]; exact Le.refl _
    | some c =>
      simp only [hb]
      refine Le.bif (codeL_le c 0 _ _ _ (fun p hp => hl p ?_) (fun p hp => hj p ?_) fun e s => Le.refl _) (Le.refl _)
      · simp only [loopsIn, hf, hb]
        exact hp
      · simp only [joinsIn, hf, hb]
        exact hp

/-- THE WORD FOR A FUNCTION: what 'funL' says at arguments of which the table's answers are known. -/
theorem funL_good (hS : ∀ f, Good P f (unS (S f))) (hf : P.follows .mixedOrders = true) {C : Cfg} {f : FuncId} (hname : (P.funcs[f]?).all (fun fn => !(fn.name == "runtime.NumGoroutine")) = true)
    {g : List VV → R} (h : ∀ args r, g args = some r → ∃ fuel I J, (∀ p ∈ loopsIn P f, LoopOK P S C fuel I J p) ∧ (∀ p ∈ joinsIn P C f, JoinOK P S C I J p) ∧ funL P S C I J f args = some r) : Good P f g := by
  intro args r hr
  obtain ⟨fuel, I, J, hl, hj, hg⟩ := h args r hr
  exact fun_good hS (draw_sound hS) hf C fuel f hname args r (funL_le hl hj args r hg)
end
end Go.Xv
namespace Go.Xv

/-- The places in a value that are not fixed. -/
inductive At where
  | i (n : Int)
  | b (x : Bool)
  | n (x : Nat)
  | c (l : List VV)

def atI : Option At → Int
  | some (.i n) => n
  | _ => 0
def atB : Option At → Bool
  | some (.b n) => n
  | _ => false
def atN : Option At → Nat
  | some (.n n) => n
  | _ => 0
def atC : Option At → List VV
  | some (.c n) => n
  | _ => []

/-- A plain value's form. -/
inductive WV where
  | int (k : IntKind)
  | bool
  | nils
  | agg (l : List WV)
  | tup (l : List WV)
/-- A number's form: fixed, or not. -/
inductive TN where
  | lit (n : Nat)
  | hole
/-- The form of a value. -/
inductive TV where
  | v (x : WV)
  | lp (s : Nat) (o : TN)
  | ls (s : Nat) (o l : TN) (z : Nat)
  | fpx (c : List TV) (o : TN)
  | fsx (c : List TV) (o l : TN) (z : Nat)
  | fp (o : TN)
  | fs (o l : TN) (z : Nat)
  | fn (f : FuncId) (c : List TV)
  | agg (c : List TV)
  | tup (c : List TV)

mutual
def mW : WV → Value → Option (List At)
  | .int k, .int k' n => bif decide (k' = k) then some [.i n] else none
  | .bool, .bool b => some [.b b]
  | .nils, .slice none 0 0 => some []
  | .agg l, .agg cs => mWs l cs.toList
  | .tup l, .tuple cs => mWs l cs.toList
  | _, _ => none
def mWs : List WV → List Value → Option (List At)
  | [], [] => some []
  | t :: ts, v :: vs => match mW t v with
    | none => none
    | some a => match mWs ts vs with
      | none => none
      | some b => some (a ++ b)
  | _, _ => none
end

mutual
def fW : WV → List At → Value × List At
  | .int k, az => (.int k (atI az[0]?), az.drop 1)
  | .bool, az => (.bool (atB az[0]?), az.drop 1)
  | .nils, az => (.slice none 0 0, az)
  | .agg l, az => (.agg (fWs l az).1.toArray, (fWs l az).2)
  | .tup l, az => (.tuple (fWs l az).1.toArray, (fWs l az).2)
def fWs : List WV → List At → List Value × List At
  | [], az => ([], az)
  | t :: ts, az => ((fW t az).1 :: (fWs ts (fW t az).2).1, (fWs ts (fW t az).2).2)
end

def mN : TN → Nat → Option (List At)
  | .lit n, m => bif Nat.beq n m then some [] else none
  | .hole, m => some [.n m]
def fN : TN → List At → Nat × List At
  | .lit n, az => (n, az)
  | .hole, az => (atN az[0]?, az.drop 1)

def app2 : Option (List At) → Option (List At) → Option (List At)
  | some a, some b => some (a ++ b)
  | _, _ => none

mutual
def mT : TV → VV → Option (List At)
  | .v x, .v y => mW x y
  | .lp s o, .lp s' o' => bif Nat.beq s s' then mN o o' else none
  | .ls s o l z, .ls s' o' l' z' => bif Nat.beq s s' && Nat.beq z z' then app2 (mN o o') (mN l l') else none
  | .fpx c o, .fp c' o' => app2 (mTs c c') (mN o o')
  | .fsx c o l z, .fs c' o' l' z' => bif Nat.beq z z' then app2 (mTs c c') (app2 (mN o o') (mN l l')) else none
  | .fp o, .fp c' o' => app2 (some [.c c']) (mN o o')
  | .fs o l z, .fs c' o' l' z' => bif Nat.beq z z' then app2 (some [.c c']) (app2 (mN o o') (mN l l')) else none
  | .fn f c, .fn f' c' => bif Nat.beq f f' then mTs c c' else none
  | .agg c, .agg c' => mTs c c'
  | .tup c, .tup c' => mTs c c'
  | _, _ => none
def mTs : List TV → List VV → Option (List At)
  | [], [] => some []
  | t :: ts, v :: vs => app2 (mT t v) (mTs ts vs)
  | _, _ => none
end

mutual
def fT : TV → List At → VV × List At
  | .v x, az => (.v (fW x az).1, (fW x az).2)
  | .lp s o, az => (.lp s (fN o az).1, (fN o az).2)
  | .ls s o l z, az => (.ls s (fN o az).1 (fN l (fN o az).2).1 z, (fN l (fN o az).2).2)
  | .fpx c o, az => (.fp (fTs c az).1 (fN o (fTs c az).2).1, (fN o (fTs c az).2).2)
  | .fsx c o l z, az => (.fs (fTs c az).1 (fN o (fTs c az).2).1 (fN l (fN o (fTs c az).2).2).1 z, (fN l (fN o (fTs c az).2).2).2)
  | .fp o, az => (.fp (atC az[0]?) (fN o (az.drop 1)).1, (fN o (az.drop 1)).2)
  | .fs o l z, az => (.fs (atC az[0]?) (fN o (az.drop 1)).1 (fN l (fN o (az.drop 1)).2).1 z, (fN l (fN o (az.drop 1)).2).2)
  | .fn f c, az => (.fn f (fTs c az).1, (fTs c az).2)
  | .agg c, az => (.agg (fTs c az).1, (fTs c az).2)
  | .tup c, az => (.tup (fTs c az).1, (fTs c az).2)
def fTs : List TV → List At → List VV × List At
  | [], az => ([], az)
  | t :: ts, az => ((fT t az).1 :: (fTs ts (fT t az).2).1, (fTs ts (fT t az).2).2)
end

theorem beqT {a b : Nat} (h : Nat.beq a b = true) : a = b := Nat.eq_of_beq_eq_true h

theorem bifT {c : Bool} {x : Option (List At)} {l : List At} (h : (bif c then x else none) = some l) : c = true ∧ x = some l := by
  cases c with
  | false => cases h
  | true => exact ⟨rfl, h⟩

mutual
theorem mW_fill : ∀ (t : WV) (v : Value) (az r : List At), mW t v = some az → fW t (az ++ r) = (v, r)
  | .int k, v, az, r, h => by
    cases v with
    | int k' n =>
      simp only [mW] at h
      obtain ⟨h1, h2⟩ := bifT h
      cases h2
      have := of_decide_eq_true h1
      subst this
      simp [fW, atI]
    | _ => simp only [mW] at h; cases h
  | .bool, v, az, r, h => by
    cases v with
    | bool b => simp only [mW] at h; cases h; simp [fW, atB]
    | _ => simp only [mW] at h; cases h
  | .nils, v, az, r, h => by
    cases v with
    | slice a l c =>
      cases a with
      | some a => simp only [mW] at h; cases h
      | none =>
        cases l with
        | succ l => simp only [mW] at h; cases h
        | zero =>
          cases c with
          | succ c => simp only [mW] at h; cases h
          | zero => simp only [mW] at h; cases h; simp [fW]
    | _ => simp only [mW] at h; cases h
  | .agg l, v, az, r, h => by
    cases v with
    | agg cs =>
      simp only [mW] at h
      have := mWs_fill l cs.toList az r h
      simp [fW, this]
    | _ => simp only [mW] at h; cases h
  | .tup l, v, az, r, h => by
    cases v with
    | tuple cs =>
      simp only [mW] at h
      have := mWs_fill l cs.toList az r h
      simp [fW, this]
    | _ => simp only [mW] at h; cases h
theorem mWs_fill : ∀ (t : List WV) (v : List Value) (az r : List At), mWs t v = some az → fWs t (az ++ r) = (v, r)
  | [], v, az, r, h => by
    cases v <;> simp only [mWs] at h <;> (try cases h)
    simp [fWs]
  | t :: ts, v, az, r, h => by
    cases v <;> simp only [mWs] at h <;> (try cases h)
    rename_i v vs
    cases ha : mW t v with
    | none => simp [ha] at h
    | some a =>
      cases hb : mWs ts vs with
      | none => simp [ha, hb] at h
      | some b =>
        simp only [ha, hb, Option.some.injEq] at h
        subst h
        have h1 := mW_fill t v a (b ++ r) ha
        have h2 := mWs_fill ts vs b r hb
        simp [fWs, List.append_assoc, h1, h2]
end

theorem mN_fill (t : TN) (m : Nat) (az r : List At) (h : mN t m = some az) : fN t (az ++ r) = (m, r) := by
  cases t with
  | lit n =>
    simp only [mN] at h
    cases hb : Nat.beq n m with
    | false => rw [hb] at h; cases h
    | true => rw [hb] at h; cases h; simp [fN, beqT hb]
  | hole => simp only [mN] at h; cases h; simp [fN, atN]

theorem app2_some {a b : Option (List At)} {l : List At} (h : app2 a b = some l) : ∃ x y, a = some x ∧ b = some y ∧ l = x ++ y := by
  cases a with
  | none => cases h
  | some x =>
    cases b with
    | none => cases h
    | some y => cases h; exact ⟨x, y, rfl, rfl, rfl⟩

mutual
theorem mT_fill : ∀ (t : TV) (v : VV) (az r : List At), mT t v = some az → fT t (az ++ r) = (v, r)
  | .v x, v, az, r, h => by
    cases v <;> simp only [mT] at h <;> (try cases h)
    have := mW_fill x _ az r h
    simp [fT, this]
  | .lp s o, v, az, r, h => by
    cases v <;> simp only [mT] at h <;> (try cases h)
    obtain ⟨h1, h2⟩ := bifT h
    have := mN_fill o _ az r h2
    simp [fT, this, beqT h1]
  | .ls s o l z, v, az, r, h => by
    cases v <;> simp only [mT] at h <;> (try cases h)
    obtain ⟨h1, h2⟩ := bifT h
    simp only [Bool.and_eq_true] at h1
    obtain ⟨x, y, e1, e2, rfl⟩ := app2_some h2
    have k1 := mN_fill o _ x (y ++ r) e1
    have k2 := mN_fill l _ y r e2
    simp [fT, List.append_assoc, k1, k2, beqT h1.1, beqT h1.2]
  | .fpx c o, v, az, r, h => by
    cases v <;> simp only [mT] at h <;> (try cases h)
    obtain ⟨x, y, e1, e2, rfl⟩ := app2_some h
    have k1 := mTs_fill c _ x (y ++ r) e1
    have k2 := mN_fill o _ y r e2
    simp [fT, List.append_assoc, k1, k2]
  | .fsx c o l z, v, az, r, h => by
    cases v <;> simp only [mT] at h <;> (try cases h)
    obtain ⟨h1, h2⟩ := bifT h
    obtain ⟨x, y', e1, e2, rfl⟩ := app2_some h2
    obtain ⟨y, q, e4, e3, rfl⟩ := app2_some e2
    have k1 := mTs_fill c _ x (y ++ (q ++ r)) e1
    have k2 := mN_fill o _ y (q ++ r) e4
    have k3 := mN_fill l _ q r e3
    simp [fT, List.append_assoc, k1, k2, k3, beqT h1]
  | .fp o, v, az, r, h => by
    cases v <;> simp only [mT] at h <;> (try cases h)
    obtain ⟨x, y, e1, e2, rfl⟩ := app2_some h
    cases e1
    have k2 := mN_fill o _ y r e2
    simp [fT, atC, k2]
  | .fs o l z, v, az, r, h => by
    cases v <;> simp only [mT] at h <;> (try cases h)
    obtain ⟨h1, h2⟩ := bifT h
    obtain ⟨x, y', e1, e2, rfl⟩ := app2_some h2
    obtain ⟨y, q, e4, e3, rfl⟩ := app2_some e2
    cases e1
    have k2 := mN_fill o _ y (q ++ r) e4
    have k3 := mN_fill l _ q r e3
    simp [fT, atC, List.append_assoc, k2, k3, beqT h1]
  | .fn f c, v, az, r, h => by
    cases v <;> simp only [mT] at h <;> (try cases h)
    obtain ⟨h1, h2⟩ := bifT h
    have := mTs_fill c _ az r h2
    simp [fT, this, beqT h1]
  | .agg c, v, az, r, h => by
    cases v <;> simp only [mT] at h <;> (try cases h)
    have := mTs_fill c _ az r h
    simp [fT, this]
  | .tup c, v, az, r, h => by
    cases v <;> simp only [mT] at h <;> (try cases h)
    have := mTs_fill c _ az r h
    simp [fT, this]
theorem mTs_fill : ∀ (t : List TV) (v : List VV) (az r : List At), mTs t v = some az → fTs t (az ++ r) = (v, r)
  | [], v, az, r, h => by
    cases v <;> simp only [mTs] at h <;> (try cases h)
    simp [fTs]
  | t :: ts, v, az, r, h => by
    cases v <;> simp only [mTs] at h <;> (try cases h)
    obtain ⟨x, y, e1, e2, rfl⟩ := app2_some h
    have k1 := mT_fill t _ x (y ++ r) e1
    have k2 := mTs_fill ts _ y r e2
    simp [fTs, List.append_assoc, k1, k2]
end

/-! ### states -/
/-- The form of a block: its cells one by one, or not. -/
inductive TC where
  | ex (l : List TV)
  | hole
structure TB where
  c : TC
  closed : Bool
structure TS where
  t : List (Nat × TV)
  m : List (Nat × TB)
  n : Nat

def mC : TC → List VV → Option (List At)
  | .ex l, c => mTs l c
  | .hole, c => some [.c c]
def fC : TC → List At → List VV × List At
  | .ex l, az => fTs l az
  | .hole, az => (atC az[0]?, az.drop 1)
def mSt : List (Nat × TV) → List (Nat × VV) → Option (List At)
  | [], [] => some []
  | (k, t) :: ts, (k', v) :: vs => bif Nat.beq k k' then app2 (mT t v) (mSt ts vs) else none
  | _, _ => none
def fSt : List (Nat × TV) → List At → List (Nat × VV) × List At
  | [], az => ([], az)
  | (k, t) :: ts, az => ((k, (fT t az).1) :: (fSt ts (fT t az).2).1, (fSt ts (fT t az).2).2)
def mSm : List (Nat × TB) → List (Nat × Blk) → Option (List At)
  | [], [] => some []
  | (k, t) :: ts, (k', v) :: vs => bif Nat.beq k k' && (t.closed == v.closed) then app2 (mC t.c v.c) (mSm ts vs) else none
  | _, _ => none
def fSm : List (Nat × TB) → List At → List (Nat × Blk) × List At
  | [], az => ([], az)
  | (k, t) :: ts, az => ((k, ⟨(fC t.c az).1, t.closed⟩) :: (fSm ts (fC t.c az).2).1, (fSm ts (fC t.c az).2).2)
def mS (t : TS) (s : VS) : Option (List At) := bif Nat.beq t.n s.n then app2 (mSt t.t s.t) (mSm t.m s.m) else none
def fS (t : TS) (az : List At) : VS := ⟨(fSt t.t az).1, (fSm t.m (fSt t.t az).2).1, t.n⟩

theorem mC_fill (t : TC) (m : List VV) (az r : List At) (h : mC t m = some az) : fC t (az ++ r) = (m, r) := by
  cases t with
  | ex l => exact mTs_fill l m az r h
  | hole => simp only [mC] at h; cases h; simp [fC, atC]
theorem mSt_fill : ∀ (t : List (Nat × TV)) (v : List (Nat × VV)) (az r : List At), mSt t v = some az → fSt t (az ++ r) = (v, r)
  | [], v, az, r, h => by
    cases v <;> simp only [mSt] at h <;> (try cases h)
    simp [fSt]
  | (k, t) :: ts, v, az, r, h => by
    cases v <;> simp only [mSt] at h <;> (try cases h)
    rename_i p q
    obtain ⟨h1, h2⟩ := bifT h
    obtain ⟨x, y, e1, e2, rfl⟩ := app2_some h2
    have k1 := mT_fill t _ x (y ++ r) e1
    have k2 := mSt_fill ts _ y r e2
    simp [fSt, List.append_assoc, k1, k2, beqT h1]
theorem mSm_fill : ∀ (t : List (Nat × TB)) (v : List (Nat × Blk)) (az r : List At), mSm t v = some az → fSm t (az ++ r) = (v, r)
  | [], v, az, r, h => by
    cases v <;> simp only [mSm] at h <;> (try cases h)
    simp [fSm]
  | (k, t) :: ts, v, az, r, h => by
    cases v <;> simp only [mSm] at h <;> (try cases h)
    rename_i p q
    obtain ⟨h1, h2⟩ := bifT h
    simp only [Bool.and_eq_true, beq_iff_eq] at h1
    obtain ⟨x, y, e1, e2, rfl⟩ := app2_some h2
    have k1 := mC_fill t.c _ x (y ++ r) e1
    have k2 := mSm_fill ts _ y r e2
    simp [fSm, List.append_assoc, k1, k2, beqT h1.1, h1.2]
theorem mS_fill {t : TS} {s : VS} {az : List At} (h : mS t s = some az) : fS t az = s := by
  obtain ⟨h1, h2⟩ := bifT h
  obtain ⟨x, y, e1, e2, rfl⟩ := app2_some h2
  have k1 := mSt_fill t.t _ x y e1
  have k2 := mSm_fill t.m _ y [] e2
  rw [List.append_nil] at k2
  obtain ⟨a, b, c⟩ := s
  simp only at h1
  simp [fS, k1, k2, beqT h1]
end Go.Xv
namespace Go.Xv

def andI (k : IntKind) (a b : Int) : Int := k.wrap ((BitVec.ofInt k.bits a &&& BitVec.ofInt k.bits b).toNat : Int)
def orI (k : IntKind) (a b : Int) : Int := k.wrap ((BitVec.ofInt k.bits a ||| BitVec.ofInt k.bits b).toNat : Int)
def xorI (k : IntKind) (a b : Int) : Int := k.wrap ((BitVec.ofInt k.bits a ^^^ BitVec.ofInt k.bits b).toNat : Int)
def fuel0 : Nat := 4611686018427387904
theorem Le.ofEq {a b : R} (h : a = b) : Le a b := by
  subst h
  exact Le.refl _

def dn : Nat → List At → List At
  | 0, l => l
  | i + 1, l => (dn i l).drop 1
def nth (l : List At) (i : Nat) : Option At := (dn i l)[0]?
/-- Of a value, another one may be said. -/
def Wk (x y : VV) : Prop := ∀ (St : Nat → Prop) (w : World) (ρ : Rho) (v : Value), Rel St w ρ x v → Rel St w ρ y v
theorem Wk.refl (x : VV) : Wk x x := fun _ _ _ _ h => h

mutual
/-- As mT; a nil slice is a slice of nothing, and cells that are all known are cells. -/
def mTn : TV → VV → Option (List At)
  | .agg c, .agg c' => mTsn c c'
  | .agg c, .v (.agg l) => mTsn c (l.toList.map .v)
  | .fs o l _, .v (.slice none 0 0) => app2 (some [.c []]) (app2 (mN o 0) (mN l 0))
  | t, v => mT t v
def mTsn : List TV → List VV → Option (List At)
  | [], [] => some []
  | t :: ts, v :: vs => app2 (mTn t v) (mTsn ts vs)
  | _, _ => none
end

theorem Wk.agg {c c' : List VV} (hl : c.length = c'.length) (h : ∀ (i : Nat) (x y : VV), c[i]? = some x → c'[i]? = some y → Wk x y) : Wk (.agg c) (.agg c') := by
  intro St w ρ v hv
  obtain ⟨vs, xs, h1, h2, h3, rfl⟩ := hv.agg_inv
  refine .agg _ c' vs xs (by omega) (fun i x hx => ?_) (fun i x hx => ?_)
  · have hi := (List.getElem?_eq_some_iff.1 hx).1
    exact h2 i _ (List.getElem?_eq_getElem (by omega))
  · have hi := (List.getElem?_eq_some_iff.1 hx).1
    have hy := List.getElem?_eq_getElem (l := c) (i := i) (by omega)
    exact h i _ _ hy hx _ _ _ _ (h3 i _ hy)
theorem Wk.ofV (l : Array Value) : Wk (.v (.agg l)) (.agg (l.toList.map .v)) := by
  intro St w ρ v hv
  obtain rfl := hv.v_inv
  refine .agg _ _ l (fun i => l.getD i undef) (by simp) (fun i x hx => ?_) (fun i x hx => ?_)
  · simp only [List.getElem?_map, Option.map_eq_some_iff, Array.getElem?_toList] at hx
    obtain ⟨u, hu, rfl⟩ := hx
    simp [Array.getD_eq_getD_getElem?, hu]
  · simp only [List.getElem?_map, Option.map_eq_some_iff, Array.getElem?_toList] at hx
    obtain ⟨u, hu, rfl⟩ := hx
    simp only [Array.getD_eq_getD_getElem?, hu, Option.getD_some]
    exact .v _ _
theorem Wk.nil (o z : Nat) : Wk (.v (.slice none 0 0)) (.fs [] o 0 z) := by
  intro St w ρ v hv
  obtain rfl := hv.v_inv
  exact .fs _ [] o 0 z 0 0 0 none (fun _ => undef) (Nat.le_refl _) (fun h => absurd h (by omega)) (fun i x hx => by simp at hx) (fun i x hx => by simp at hx) (fun i x hx => by simp at hx)
theorem Wk.trans {x y z : VV} (h : Wk x y) (k : Wk y z) : Wk x z := fun St w ρ v hv => k St w ρ v (h St w ρ v hv)

mutual
theorem mTn_wk : ∀ (t : TV) (v : VV) (az r : List At), mTn t v = some az → (fT t (az ++ r)).2 = r ∧ Wk v (fT t (az ++ r)).1
  | .agg c, v, az, r, h => by
    unfold mTn at h
    split at h
    · rename_i c1 cc heq
      cases heq
      obtain ⟨h1, h2, h3⟩ := mTsn_wk _ cc az r h
      simp only [fT]
      exact ⟨h1, Wk.agg h2.symm h3⟩
    · rename_i c1 l heq
      cases heq
      obtain ⟨h1, h2, h3⟩ := mTsn_wk _ _ az r h
      simp only [fT]
      exact ⟨h1, (Wk.ofV l).trans (Wk.agg h2.symm h3)⟩
    · rename_i heq; cases heq
    · have := mT_fill _ _ az r h
      rw [this]; exact ⟨rfl, .refl _⟩
  | .fs o l z, v, az, r, h => by
    unfold mTn at h
    split at h
    · rename_i heq; cases heq
    · rename_i heq; cases heq
    · rename_i _ _ _ heq
      cases heq
      obtain ⟨x, y', e1, e2, rfl⟩ := app2_some h
      cases e1
      obtain ⟨y, q, e4, e3, rfl⟩ := app2_some e2
      have k2 := mN_fill o _ y (q ++ r) e4
      have k3 := mN_fill l _ q r e3
      simp only [fT, List.cons_append, List.nil_append, List.append_assoc, List.drop_succ_cons, List.drop_zero, k2, k3, true_and, List.getElem?_cons_zero, atC]
      exact Wk.nil _ _
    · have := mT_fill _ _ az r h
      rw [this]; exact ⟨rfl, .refl _⟩
  | .v x, v, az, r, h => by have := mT_fill (.v x) v az r (by simpa [mTn] using h); rw [this]; exact ⟨rfl, .refl _⟩
  | .lp s o, v, az, r, h => by have := mT_fill (.lp s o) v az r (by simpa [mTn] using h); rw [this]; exact ⟨rfl, .refl _⟩
  | .ls s o l z, v, az, r, h => by have := mT_fill (.ls s o l z) v az r (by simpa [mTn] using h); rw [this]; exact ⟨rfl, .refl _⟩
  | .fpx c o, v, az, r, h => by have := mT_fill (.fpx c o) v az r (by simpa [mTn] using h); rw [this]; exact ⟨rfl, .refl _⟩
  | .fsx c o l z, v, az, r, h => by have := mT_fill (.fsx c o l z) v az r (by simpa [mTn] using h); rw [this]; exact ⟨rfl, .refl _⟩
  | .fp o, v, az, r, h => by have := mT_fill (.fp o) v az r (by simpa [mTn] using h); rw [this]; exact ⟨rfl, .refl _⟩
  | .fn f c, v, az, r, h => by have := mT_fill (.fn f c) v az r (by simpa [mTn] using h); rw [this]; exact ⟨rfl, .refl _⟩
  | .tup c, v, az, r, h => by have := mT_fill (.tup c) v az r (by simpa [mTn] using h); rw [this]; exact ⟨rfl, .refl _⟩
theorem mTsn_wk : ∀ (ts : List TV) (vs : List VV) (az r : List At), mTsn ts vs = some az → (fTs ts (az ++ r)).2 = r ∧ (fTs ts (az ++ r)).1.length = vs.length ∧
    ∀ (i : Nat) (x y : VV), vs[i]? = some x → (fTs ts (az ++ r)).1[i]? = some y → Wk x y
  | [], vs, az, r, h => by
    cases vs with
    | nil => simp only [mTsn, Option.some.injEq] at h; subst h; simp [fTs]
    | cons v vs => simp [mTsn] at h
  | t :: ts, vs, az, r, h => by
    cases vs with
    | nil => simp [mTsn] at h
    | cons v vs =>
      simp only [mTsn] at h
      obtain ⟨x, y, e1, e2, rfl⟩ := app2_some h
      obtain ⟨h1, h2⟩ := mTn_wk t v x (y ++ r) e1
      obtain ⟨g1, g2, g3⟩ := mTsn_wk ts vs y r e2
      simp only [fTs, List.append_assoc, h1, g1, List.length_cons, g2, true_and]
      intro i p q hp hq
      cases i with
      | zero => simp at hp hq; subst hp; subst hq; exact h2
      | succ i => exact g3 i p q (by simpa using hp) (by simpa using hq)
end

theorem Good.wk {P : Program} {f : FuncId} {g : List VV → Option VV} (hg : Good P f g) {args args' : List VV} {r : VV} (hl : args'.length = args.length) (ha : ∀ (i : Nat) (x y : VV), args[i]? = some x → args'[i]? = some y → Wk x y)
    (hr : g args' = some r) : Callable P f ∧ ∀ (w : World) (vs : Array Value) (St : Nat → Prop), (∀ b, St b → b < w.heap.size) → vs.size = args.length →
    (∀ (i : Nat) (x : VV), args[i]? = some x → ∃ y, vs[i]? = some y ∧ Rel St w rho0 x y) → Calls P f vs w fun e w' => ∃ v, e = .returned v ∧ RowKit.Below w.heap.size w w' ∧ ResR w w' r v := by
  obtain ⟨hc, h⟩ := hg args' r hr
  refine ⟨hc, fun w vs St hS hs hv => h w vs St hS (by omega) fun i y hy => ?_⟩
  have hi := (List.getElem?_eq_some_iff.1 hy).1
  have hx := List.getElem?_eq_getElem (l := args) (i := i) (by omega)
  obtain ⟨v, h1, h2⟩ := hv i _ hx
  exact ⟨v, h1, ha i _ _ hx hy _ _ _ _ h2⟩

def topS : TV → Bool
  | .fs _ _ _ => true
  | .fsx _ _ _ _ => true
  | _ => false
def mTr (t : TV) (v : VV) : Option (List At) := bif topS t then mT t v else mTn t v
def okT (t : TV) (r : R) : Bool := (r.bind (mTr t)).isSome
def outT (t : TV) (r : R) : List At := (r.bind (mTr t)).getD []

/-- A function's word: the form of its arguments, the form of its answer. -/
def spec (tin : List TV) (tout : TV) (ok : List At → Bool) (out : List At → List At) (args : List VV) : Option (Bool × VV) :=
  match mTsn tin args with
  | some az => some (ok az, (fT tout (out az)).1)
  | none => none

/-- The words of several functions. -/
def words : List (FuncId × (List VV → Option (Bool × VV))) → FuncId → List VV → Option (Bool × VV)
  | [], _, _ => none
  | (f, s) :: r, g, l => bif Nat.beq f g then (match s l with
    | some x => some x
    | none => words r g l) else words r g l

theorem words_good {P : Program} : ∀ {l : List (FuncId × (List VV → Option (Bool × VV)))}, (∀ p ∈ l, Good P p.1 (unS p.2)) → ∀ f, Good P f (unS (words l f))
  | [], _, f => fun args r h => by simp [unS, words] at h
  | (g, s) :: l, hl, f => fun args r h => by
    have ih := words_good (l := l) (fun p hp => hl p (List.mem_cons_of_mem _ hp)) f args r
    unfold unS at h ih
    unfold words at h
    cases hb : Nat.beq g f with
    | false => rw [hb] at h; exact ih h
    | true =>
      rw [hb] at h
      simp only [cond_true] at h
      cases hs : s args with
      | none => rw [hs] at h; exact ih h
      | some x =>
        rw [hs] at h
        simp only at h
        have := hl (g, s) (List.mem_cons_self ..)
        rw [← beqT hb]
        refine this args r ?_
        simp only [unS, hs]
        exact h

/-- A loop's word, at one form of its states. -/
structure LW where
  j : Nat
  t : TS
  L : (Exit → VS → R) → List At → R
def tabI (C : Cfg) : List LW → Nat → VS → (Exit → VS → R) → R
  | [], _, _, _ => none
  | e :: r, j, st, k => bif Nat.beq e.j j then (match mS e.t (headOf C j st) with
    | some az => e.L k az
    | none => tabI C r j st k) else tabI C r j st k

/-- A word for what follows where ways meet, at one form of its states. -/
structure LJ where
  r : Nat
  j : Nat
  t : TS
  L : (Exit → VS → R) → List At → R
def tabJ : List LJ → Nat → Nat → VS → (Exit → VS → R) → R
  | [], _, _, _, _ => none
  | e :: q, r, j, st, k => bif Nat.beq e.r r && Nat.beq e.j j then (match mS e.t st with
    | some az => e.L k az
    | none => tabJ q r j st k) else tabJ q r j st k

section
variable {P : Program} {S : FuncId → List VV → Option (Bool × VV)}

theorem tab_ok {C : Cfg} {fuel : Nat} {I : Nat → VS → (Exit → VS → R) → R} {J : Nat → Nat → VS → (Exit → VS → R) → R} {p : Nat × Code} : ∀ (tb : List LW),
    (∀ e ∈ tb, e.j = p.1 → ∀ k az, Le (e.L k az) (iterC (codeL P S C I J p.2 p.1) (headOf C p.1) k fuel (fS e.t az))) →
    ∀ st k, Le (tabI C tb p.1 st k) (iterC (codeL P S C I J p.2 p.1) (headOf C p.1) k fuel (headOf C p.1 st))
  | [], _, _, _ => Le.none _
  | e :: tb, h, st, k => by
    have ih := tab_ok tb (fun x hx => h x (List.mem_cons_of_mem _ hx)) st k
    unfold tabI
    cases hb : Nat.beq e.j p.1 with
    | false => exact ih
    | true =>
      simp only [cond_true]
      cases hm : mS e.t (headOf C p.1 st) with
      | none => exact ih
      | some az =>
        have := h e (List.mem_cons_self ..) (beqT hb) k az
        rw [mS_fill hm] at this
        exact this

/-- The table's rows are what the loop does. -/
def TabOK (P : Program) (S : FuncId → List VV → Option (Bool × VV)) (C : Cfg) (I : Nat → VS → (Exit → VS → R) → R) (J : Nat → Nat → VS → (Exit → VS → R) → R) (fuel j : Nat) (b : Code) (tb : List LW) : Prop :=
  ∀ e ∈ tb, e.j = j → ∀ k az, Le (e.L k az) (iterC (codeL P S C I J b j) (headOf C j) k fuel (fS e.t az))
theorem tab_nil {C : Cfg} {I : Nat → VS → (Exit → VS → R) → R} {J : Nat → Nat → VS → (Exit → VS → R) → R} {fuel j : Nat} {b : Code} : TabOK P S C I J fuel j b [] := fun _ h => by cases h
theorem tab_cons {C : Cfg} {I : Nat → VS → (Exit → VS → R) → R} {J : Nat → Nat → VS → (Exit → VS → R) → R} {fuel j : Nat} {b : Code} {tb : List LW} {j' : Nat} {t : TS} {L : (Exit → VS → R) → List At → R}
    (h : j' = j → ∀ k az, Le (L k az) (iterC (codeL P S C I J b j) (headOf C j) k fuel (fS t az))) (ht : TabOK P S C I J fuel j b tb) : TabOK P S C I J fuel j b (⟨j', t, L⟩ :: tb) := by
  intro e he
  rcases List.mem_cons.1 he with rfl | he
  · exact h
  · exact ht e he
theorem loop_ok {C : Cfg} {I : Nat → VS → (Exit → VS → R) → R} {J : Nat → Nat → VS → (Exit → VS → R) → R} {fuel j : Nat} {b : Code} (tb : List LW) (hI : I = tabI C tb) (h : TabOK P S C I J fuel j b tb) : LoopOK P S C fuel I J (j, b) := by
  intro st k
  have := tab_ok (P := P) (S := S) (C := C) (fuel := fuel) (I := I) (J := J) (p := (j, b)) tb h st k
  show Le (I j st k) _
  have e : I j st k = tabI C tb j st k := by rw [hI]
  rw [e]
  exact this
theorem loops_of {C : Cfg} {I : Nat → VS → (Exit → VS → R) → R} {J : Nat → Nat → VS → (Exit → VS → R) → R} {fuel : Nat} {f : FuncId} (l : List (Nat × Code)) (hl : loopsIn P f = l) (h : ∀ p ∈ l, LoopOK P S C fuel I J p) : ∀ p ∈ loopsIn P f, LoopOK P S C fuel I J p := by
  rw [hl]
  exact h
theorem all_nil {α : Type} {q : α → Prop} : ∀ p ∈ ([] : List α), q p := fun _ h => by cases h
theorem all_cons {α : Type} {q : α → Prop} {a : α} {l : List α} (h : q a) (hl : ∀ p ∈ l, q p) : ∀ p ∈ a :: l, q p := by
  intro p hp
  rcases List.mem_cons.1 hp with rfl | hp
  · exact h
  · exact hl p hp

/-- The rows for one place where ways meet are what follows there. -/
def JTabOK (P : Program) (S : FuncId → List VV → Option (Bool × VV)) (C : Cfg) (I : Nat → VS → (Exit → VS → R) → R) (J : Nat → Nat → VS → (Exit → VS → R) → R) (r j : Nat) (b : Code) (tb : List LJ) : Prop :=
  ∀ e ∈ tb, e.r = r → e.j = j → ∀ k az, Le (e.L k az) (codeL P S C I J b j (fS e.t az) k)
theorem jtab_nil {C : Cfg} {I : Nat → VS → (Exit → VS → R) → R} {J : Nat → Nat → VS → (Exit → VS → R) → R} {r j : Nat} {b : Code} : JTabOK P S C I J r j b [] := fun _ h => by cases h
theorem jtab_cons {C : Cfg} {I : Nat → VS → (Exit → VS → R) → R} {J : Nat → Nat → VS → (Exit → VS → R) → R} {r j : Nat} {b : Code} {tb : List LJ} {r' j' : Nat} {t : TS} {L : (Exit → VS → R) → List At → R}
    (h : r' = r → j' = j → ∀ k az, Le (L k az) (codeL P S C I J b j (fS t az) k)) (ht : JTabOK P S C I J r j b tb) : JTabOK P S C I J r j b (⟨r', j', t, L⟩ :: tb) := by
  intro e he
  rcases List.mem_cons.1 he with rfl | he
  · exact h
  · exact ht e he
theorem jtab_ok {C : Cfg} {I : Nat → VS → (Exit → VS → R) → R} {J : Nat → Nat → VS → (Exit → VS → R) → R} {r j : Nat} {b : Code} : ∀ (tb : List LJ), JTabOK P S C I J r j b tb → ∀ st k, Le (tabJ tb r j st k) (codeL P S C I J b j st k)
  | [], _, _, _ => Le.none _
  | e :: tb, h, st, k => by
    have ih := jtab_ok tb (fun x hx => h x (List.mem_cons_of_mem _ hx)) st k
    unfold tabJ
    cases hb : (Nat.beq e.r r && Nat.beq e.j j) with
    | false => exact ih
    | true =>
      simp only [cond_true]
      rw [Bool.and_eq_true] at hb
      cases hm : mS e.t st with
      | none => exact ih
      | some az =>
        have := h e (List.mem_cons_self ..) (beqT hb.1) (beqT hb.2) k az
        rw [mS_fill hm] at this
        exact this
theorem join_ok {C : Cfg} {I : Nat → VS → (Exit → VS → R) → R} {J : Nat → Nat → VS → (Exit → VS → R) → R} {r j : Nat} {b : Code} (tb : List LJ) (hJ : J = tabJ tb) (h : JTabOK P S C I J r j b tb) : JoinOK P S C I J (r, j, b) := by
  intro st k
  have := jtab_ok (P := P) (S := S) (C := C) (I := I) (J := J) tb h st k
  show Le (J r j st k) _
  have e : J r j st k = tabJ tb r j st k := by rw [hJ]
  rw [e]
  exact this
theorem joins_of {C : Cfg} {I : Nat → VS → (Exit → VS → R) → R} {J : Nat → Nat → VS → (Exit → VS → R) → R} {f : FuncId} (l : List (Nat × Nat × Code)) (hl : joinsIn P C f = l) (h : ∀ p ∈ l, JoinOK P S C I J p) : ∀ p ∈ joinsIn P C f, JoinOK P S C I J p := by
  rw [hl]
  exact h

/-- a result of which another may be said. -/
def WkR (x y : VV) : Prop := Wk x y ∧ ∀ c l z, y = .fs c 0 l z → x = y
theorem WkR.refl (x : VV) : WkR x x := ⟨.refl x, fun _ _ _ _ => rfl⟩
theorem WkR.res {w w' : World} {x y : VV} {v : Value} (h : WkR x y) (hr : ResR w w' x v) : ResR w w' y v :=
  ⟨h.1 _ _ _ _ hr.1, fun c l z e => hr.2 c l z ((h.2 c l z e).trans e)⟩

theorem spec_good {f : FuncId} {tin : List TV} {tout : TV} {ok : List At → Bool} {out : List At → List At}
    (hok : ∀ az, ok az = true → ∃ g x, Good P f g ∧ g (fTs tin az).1 = some x ∧ WkR x (fT tout (out az)).1) : Good P f (unS (spec tin tout ok out)) := by
  intro args r h
  unfold unS spec at h
  cases hm : mTsn tin args with
  | none => rw [hm] at h; cases h
  | some az =>
    rw [hm] at h
    simp only at h
    cases ho : ok az with
    | false => rw [ho] at h; simp at h
    | true =>
      rw [ho] at h
      simp only [Option.some.injEq] at h
      subst h
      obtain ⟨g, x, hg, hx, hw⟩ := hok az ho
      obtain ⟨_, h2, h3⟩ := mTsn_wk tin args az [] hm
      rw [List.append_nil] at h2 h3
      obtain ⟨hc, hk⟩ := hg.wk h2 h3 hx
      refine ⟨hc, fun w vs St hS hs hv => (hk w vs St hS hs hv).mono ?_⟩
      rintro e w' ⟨v, he, hb, hr⟩
      exact ⟨v, he, hb, hw.res hr⟩

theorem fun_spec (hS : ∀ f, Good P f (unS (S f))) (hf : P.follows .mixedOrders = true) {f : FuncId} (hname : (P.funcs[f]?).all (fun fn => !(fn.name == "runtime.NumGoroutine")) = true)
    {C : Cfg} {tin : List TV} {tout : TV} {ok : List At → Bool} {out : List At → List At} {F : List At → R} (fuel : List At → Nat) (I : List At → Nat → VS → (Exit → VS → R) → R) (J : List At → Nat → Nat → VS → (Exit → VS → R) → R)
    (hl : ∀ az, ∀ p ∈ loopsIn P f, LoopOK P S C (fuel az) (I az) (J az) p) (hj : ∀ az, ∀ p ∈ joinsIn P C f, JoinOK P S C (I az) (J az) p) (hF : ∀ az, funL P S C (I az) (J az) f (fTs tin az).1 = F az)
    (hok : ∀ az, ok az = true → ∃ x, F az = some x ∧ WkR x (fT tout (out az)).1) : Good P f (unS (spec tin tout ok out)) := by
  refine spec_good fun az ho => ?_
  obtain ⟨x, hx, hw⟩ := hok az ho
  refine ⟨fun args => @ite _ (args = (fTs tin az).1) (Classical.propDecidable _) (some x) none, x, ?_, by simp, hw⟩
  refine funL_good hS hf (C := C) hname fun args r h => ?_
  split at h
  · rename_i e
    simp only [Option.some.injEq] at h
    subst h
    subst e
    exact ⟨fuel az, I az, J az, hl az, hj az, (hF az).trans hx⟩
  · cases h

theorem okT_fill {t : TV} {r : R} (h : okT t r = true) : ∃ x, r = some x ∧ WkR x (fT t (outT t r)).1 := by
  unfold okT at h
  cases r with
  | none => simp at h
  | some v =>
    refine ⟨v, rfl, ?_⟩
    cases hm : mTr t v with
    | none => simp [hm] at h
    | some az =>
      simp only [outT, Option.bind_some, hm, Option.getD_some]
      unfold mTr at hm
      cases ht : topS t with
      | true =>
        rw [ht] at hm
        have := mT_fill t v az [] hm
        rw [List.append_nil] at this
        rw [this]
        exact .refl v
      | false =>
        rw [ht] at hm
        have := (mTn_wk t v az [] hm).2
        rw [List.append_nil] at this
        refine ⟨this, fun c l z e => ?_⟩
        cases t <;> simp [topS, fT] at ht e
theorem okT_fill' {t : TV} {r : R} {y : VV} (h : okT t r = true) (e : (fT t (outT t r)).1 = y) : ∃ x, r = some x ∧ WkR x y := e ▸ okT_fill h
end
end Go.Xv
/- Plain arithmetic: wrapping, bits. -/
namespace Go.Xv

theorem wu8 (x : Int) : IntKind.wrap .u8 x = x % 256 := by simp [IntKind.wrap, IntKind.bits, IntKind.signed]
theorem wu16 (x : Int) : IntKind.wrap .u16 x = x % 65536 := by simp [IntKind.wrap, IntKind.bits, IntKind.signed]
theorem wu32 (x : Int) : IntKind.wrap .u32 x = x % 4294967296 := by simp [IntKind.wrap, IntKind.bits, IntKind.signed]
theorem wu64 (x : Int) : IntKind.wrap .u64 x = x % 18446744073709551616 := by simp [IntKind.wrap, IntKind.bits, IntKind.signed]
theorem wi32 (x : Int) : IntKind.wrap .i32 x = (x + 2147483648) % 4294967296 - 2147483648 := by
  simp [IntKind.wrap, IntKind.bits, IntKind.signed]
  split <;> omega
theorem wi64 (x : Int) : IntKind.wrap .i64 x = (x + 9223372036854775808) % 18446744073709551616 - 9223372036854775808 := by
  simp [IntKind.wrap, IntKind.bits, IntKind.signed]
  split <;> omega

def I64 (x : Int) : Prop := -9223372036854775808 ≤ x ∧ x < 9223372036854775808
def U64 (x : Int) : Prop := 0 ≤ x ∧ x < 18446744073709551616
def I32 (x : Int) : Prop := -2147483648 ≤ x ∧ x < 2147483648
def U32 (x : Int) : Prop := 0 ≤ x ∧ x < 4294967296
def U8 (x : Int) : Prop := 0 ≤ x ∧ x < 256

theorem wi64_in {x : Int} (h : I64 x) : IntKind.wrap .i64 x = x := by rw [wi64]; unfold I64 at h; omega
theorem wi32_in {x : Int} (h : I32 x) : IntKind.wrap .i32 x = x := by rw [wi32]; unfold I32 at h; omega
theorem wu64_in {x : Int} (h : U64 x) : IntKind.wrap .u64 x = x := by rw [wu64]; unfold U64 at h; omega
theorem wu32_in {x : Int} (h : U32 x) : IntKind.wrap .u32 x = x := by rw [wu32]; unfold U32 at h; omega
theorem wi64_I (x : Int) : I64 (IntKind.wrap .i64 x) := by rw [wi64]; unfold I64; omega
theorem wu64_U (x : Int) : U64 (IntKind.wrap .u64 x) := by rw [wu64]; unfold U64; omega
theorem wi32_I (x : Int) : I32 (IntKind.wrap .i32 x) := by rw [wi32]; unfold I32; omega
theorem wu32_U (x : Int) : U32 (IntKind.wrap .u32 x) := by rw [wu32]; unfold U32; omega

/-! ### bits -/
theorem bvU64 {a : Int} (h : U64 a) : (BitVec.ofInt 64 a).toNat = a.toNat := by
  unfold U64 at h
  simp only [BitVec.toNat_ofInt]
  omega
theorem bvI64 {a : Int} (_h : I64 a) : (BitVec.ofInt 64 a).toNat = (a % 18446744073709551616).toNat := by
  simp only [BitVec.toNat_ofInt]
  omega
theorem and_u64_bv (a b : Int) : andI .u64 a b = IntKind.wrap .u64 ((BitVec.ofInt 64 a &&& BitVec.ofInt 64 b).toNat : Int) := rfl
theorem or_u64_bv (a b : Int) : orI .u64 a b = IntKind.wrap .u64 ((BitVec.ofInt 64 a ||| BitVec.ofInt 64 b).toNat : Int) := rfl
theorem xor_u64_bv (a b : Int) : xorI .u64 a b = IntKind.wrap .u64 ((BitVec.ofInt 64 a ^^^ BitVec.ofInt 64 b).toNat : Int) := rfl
theorem and_i64_bv (a b : Int) : andI .i64 a b = IntKind.wrap .i64 ((BitVec.ofInt 64 a &&& BitVec.ofInt 64 b).toNat : Int) := rfl
theorem xor_i64_bv (a b : Int) : xorI .i64 a b = IntKind.wrap .i64 ((BitVec.ofInt 64 a ^^^ BitVec.ofInt 64 b).toNat : Int) := rfl
theorem and_u64 {a b : Int} (ha : U64 a) (hb : U64 b) : andI .u64 a b = ((a.toNat &&& b.toNat : Nat) : Int) := by
  rw [and_u64_bv, BitVec.toNat_and, bvU64 ha, bvU64 hb, wu64]
  have h : a.toNat &&& b.toNat ≤ a.toNat := Nat.and_le_left
  unfold U64 at ha
  generalize a.toNat &&& b.toNat = q at *
  omega
theorem or_u64 {a b : Int} (ha : U64 a) (hb : U64 b) : orI .u64 a b = ((a.toNat ||| b.toNat : Nat) : Int) := by
  rw [or_u64_bv, BitVec.toNat_or, bvU64 ha, bvU64 hb, wu64]
  unfold U64 at ha hb
  have h : a.toNat ||| b.toNat < 2 ^ 64 := Nat.or_lt_two_pow (by omega) (by omega)
  generalize a.toNat ||| b.toNat = q at *
  omega
theorem xor_u64 {a b : Int} (ha : U64 a) (hb : U64 b) : xorI .u64 a b = ((a.toNat ^^^ b.toNat : Nat) : Int) := by
  rw [xor_u64_bv, BitVec.toNat_xor, bvU64 ha, bvU64 hb, wu64]
  unfold U64 at ha hb
  have h : a.toNat ^^^ b.toNat < 2 ^ 64 := Nat.xor_lt_two_pow (by omega) (by omega)
  generalize a.toNat ^^^ b.toNat = q at *
  omega
/-- a mask of the low bits -/
theorem mask_u64 (k : Nat) (hk : k ≤ 64) {a : Int} (ha : U64 a) : andI .u64 a ((2 ^ k - 1 : Nat) : Int) = a % (2 ^ k : Nat) := by
  have hp : 2 ^ k ≤ 2 ^ 64 := Nat.pow_le_pow_right (by decide) hk
  have h1 : 1 ≤ 2 ^ k := Nat.one_le_two_pow
  rw [and_u64 ha (by unfold U64; omega), Int.toNat_natCast, Nat.and_two_pow_sub_one_eq_mod]
  unfold U64 at ha
  generalize 2 ^ k = P at *
  have e : a = (a.toNat : Int) := by omega
  rw [e, Int.toNat_natCast]
  rfl
theorem mask1_u64 {a : Int} (ha : U64 a) : andI .u64 a 1 = a % 2 := mask_u64 1 (by omega) ha
theorem mask32_u64 {a : Int} (ha : U64 a) : andI .u64 a 4294967295 = a % 4294967296 := mask_u64 32 (by omega) ha
/-- what has its low bits free, and what has only them -/
theorem or_add_nat (k n m : Nat) (h : m < 2 ^ k) : n * 2 ^ k ||| m = n * 2 ^ k + m := by
  rw [← Nat.shiftLeft_eq, Nat.shiftLeft_add_eq_or_of_lt h]
theorem or_add_u64 (k : Nat) {a b : Int} (ha0 : 0 ≤ a) (hb : 0 ≤ b) (hb' : b < (2 ^ k : Nat)) (hs : a * (2 ^ k : Nat) + b < 18446744073709551616) : orI .u64 (a * (2 ^ k : Nat)) b = a * (2 ^ k : Nat) + b := by
  obtain ⟨n, rfl⟩ := Int.eq_ofNat_of_zero_le ha0
  obtain ⟨m, rfl⟩ := Int.eq_ofNat_of_zero_le hb
  have e : (n : Int) * (2 ^ k : Nat) = ((n * 2 ^ k : Nat) : Int) := by push_cast; rfl
  rw [e] at hs ⊢
  rw [or_u64 (by unfold U64; omega) (by unfold U64; omega), Int.toNat_natCast, Int.toNat_natCast, or_add_nat k n m (by omega)]
  push_cast
  rfl
/-- all bits turned -/
theorem not_u64 {a : Int} (ha : U64 a) : xorI .u64 18446744073709551615 a = 18446744073709551615 - a := by
  have e : BitVec.ofInt 64 18446744073709551615 = BitVec.allOnes 64 := by decide
  rw [xor_u64_bv, e, BitVec.allOnes_xor, BitVec.toNat_not, bvU64 ha, wu64]
  unfold U64 at ha
  omega
theorem not_i64 {a : Int} (ha : I64 a) : xorI .i64 (-1) a = -1 - a := by
  have e : BitVec.ofInt 64 (-1) = BitVec.allOnes 64 := by decide
  rw [xor_i64_bv, e, BitVec.allOnes_xor, BitVec.toNat_not, bvI64 ha, wi64]
  unfold I64 at ha
  omega
/-- signs of bits -/
theorem msb_i64 {a : Int} (ha : I64 a) : (BitVec.ofInt 64 a).msb = decide (a < 0) := by
  rw [BitVec.msb_eq_decide, bvI64 ha]
  unfold I64 at ha
  rw [Bool.eq_iff_iff]
  simp only [decide_eq_true_eq]
  omega
theorem wrap_neg (x : BitVec 64) : (IntKind.wrap .i64 (x.toNat : Int) < 0) ↔ x.msb = true := by
  rw [BitVec.msb_eq_decide, wi64, decide_eq_true_eq]
  have := x.isLt
  omega
theorem and_neg {a b : Int} (ha : I64 a) (hb : I64 b) : (andI .i64 a b < 0) ↔ (a < 0 ∧ b < 0) := by
  rw [and_i64_bv, wrap_neg, BitVec.msb_and, msb_i64 ha, msb_i64 hb]
  simp
theorem xor_neg {a b : Int} (ha : I64 a) (hb : I64 b) : (xorI .i64 a b < 0) ↔ ¬ (a < 0 ↔ b < 0) := by
  rw [xor_i64_bv, wrap_neg, BitVec.msb_xor, msb_i64 ha, msb_i64 hb]
  by_cases h : a < 0 <;> by_cases k : b < 0 <;> simp [h, k]
theorem andI_I (a b : Int) : I64 (andI .i64 a b) := wi64_I _
theorem xorI_I (a b : Int) : I64 (xorI .i64 a b) := wi64_I _
theorem Nat.add_xor (a : Nat) : ∀ b, a + b = 2 * (a &&& b) + (a ^^^ b) := by
  induction a using Nat.strongRecOn with
  | _ a ih =>
    intro b
    by_cases h : a = 0
    · subst h; simp
    · have := ih (a / 2) (by omega) (b / 2)
      have h1 : (a &&& b) = 2 * (a / 2 &&& b / 2) + (a &&& b) % 2 := by
        have := Nat.and_div_two (a := a) (b := b)
        omega
      have h2 : (a ^^^ b) = 2 * (a / 2 ^^^ b / 2) + (a ^^^ b) % 2 := by
        have := Nat.xor_div_two (a := a) (b := b)
        omega
      have h3 : (a &&& b) % 2 = (a % 2) * (b % 2) := by
        rw [Nat.and_mod_two_pow (n := 1)]
        rcases Nat.mod_two_eq_zero_or_one a with h | h <;> rcases Nat.mod_two_eq_zero_or_one b with k | k <;> simp [h, k]
      have h4 : (a ^^^ b) % 2 = (a % 2 + b % 2) % 2 := by
        rw [Nat.xor_mod_two_pow (n := 1)]
        rcases Nat.mod_two_eq_zero_or_one a with h | h <;> rcases Nat.mod_two_eq_zero_or_one b with k | k <;> simp [h, k]
      rcases Nat.mod_two_eq_zero_or_one a with ha | ha <;> rcases Nat.mod_two_eq_zero_or_one b with hb | hb <;> rw [ha, hb] at h3 h4 <;> omega
/-- the middle of two numbers, by bits -/
theorem mid_i64 {a b : Int} (ha : I64 a) (hb : I64 b) : IntKind.wrap .i64 (andI .i64 a b + Int.fdiv (xorI .i64 a b) 2) = (a + b).fdiv 2 := by
  have h := Nat.add_xor (BitVec.ofInt 64 a).toNat (BitVec.ofInt 64 b).toNat
  have hs := xor_neg ha hb
  have hs2 := and_neg ha hb
  revert hs hs2
  rw [and_i64_bv, xor_i64_bv, BitVec.toNat_and, BitVec.toNat_xor]
  rw [bvI64 ha, bvI64 hb] at h ⊢
  have l1 := Nat.xor_lt_two_pow (n := 64) (x := (a % 18446744073709551616).toNat) (y := (b % 18446744073709551616).toNat) (by omega) (by omega)
  have l2 : (a % 18446744073709551616).toNat &&& (b % 18446744073709551616).toNat ≤ _ := Nat.and_le_left
  generalize (a % 18446744073709551616).toNat &&& (b % 18446744073709551616).toNat = p at *
  generalize (a % 18446744073709551616).toNat ^^^ (b % 18446744073709551616).toNat = q at *
  simp only [wi64, Int.fdiv_eq_ediv_of_nonneg _ (show (0 : Int) ≤ 2 by decide)]
  unfold I64 at ha hb
  intro hs hs2
  omega

/-! ### numbers of 128 bits -/
def lo (z : Int) : Int := z % 18446744073709551616
def hi (z : Int) : Int := (z / 18446744073709551616 + 9223372036854775808) % 18446744073709551616 - 9223372036854775808
def val (h l : Int) : Int := h * 18446744073709551616 + l
def W (z : Int) : Int := (z + 170141183460469231731687303715884105728) % 340282366920938463463374607431768211456 - 170141183460469231731687303715884105728
def wd (z : Int) : VV := .v (.agg #[.int .i64 (hi z), .int .u64 (lo z)])
def W128 (z : Int) : Prop := -170141183460469231731687303715884105728 ≤ z ∧ z < 170141183460469231731687303715884105728

theorem lo_U (z : Int) : U64 (lo z) := by unfold U64 lo; omega
theorem hi_I (z : Int) : I64 (hi z) := by unfold I64 hi; omega
theorem val_W {h l : Int} (hh : I64 h) (hl : U64 l) : W128 (val h l) := by unfold W128 val; unfold I64 at hh; unfold U64 at hl; omega
theorem W_W (z : Int) : W128 (W z) := by unfold W128 W; omega
theorem W_in {z : Int} (h : W128 z) : W z = z := by unfold W; unfold W128 at h; omega
theorem val_hl (z : Int) : val (hi z) (lo z) = W z := by unfold val hi lo W; omega
theorem hi_val {h l : Int} (hh : I64 h) (hl : U64 l) : hi (val h l) = h := by unfold hi val; unfold I64 at hh; unfold U64 at hl; omega
theorem lo_val {h l : Int} (hl : U64 l) : lo (val h l) = l := by unfold lo val; unfold U64 at hl; omega
/-- the same but for what goes round -/
def Eqv (x y : Int) : Prop := x % 340282366920938463463374607431768211456 = y % 340282366920938463463374607431768211456
theorem lo_eqv {x y : Int} (h : Eqv x y) : lo x = lo y := by unfold Eqv at h; unfold lo; omega
theorem hi_eqv {x y : Int} (h : Eqv x y) : hi x = hi y := by unfold Eqv at h; unfold hi; omega
theorem wd_eqv {x y : Int} (h : Eqv x y) : wd x = wd y := by unfold wd; rw [lo_eqv h, hi_eqv h]
theorem W_eqv (x : Int) : Eqv (W x) x := by unfold Eqv W; omega
theorem Eqv.rfl {x : Int} : Eqv x x := Eq.refl _
theorem Eqv.symm {x y : Int} (h : Eqv x y) : Eqv y x := Eq.symm h
theorem Eqv.trans {x y z : Int} (h : Eqv x y) (k : Eqv y z) : Eqv x z := Eq.trans h k
theorem Eqv.add {x y z w : Int} (h : Eqv x y) (k : Eqv z w) : Eqv (x + z) (y + w) := by unfold Eqv at *; omega
theorem Eqv.neg {x y : Int} (h : Eqv x y) : Eqv (-x) (-y) := by unfold Eqv at *; omega
theorem Eqv.sub {x y z w : Int} (h : Eqv x y) (k : Eqv z w) : Eqv (x - z) (y - w) := by unfold Eqv at *; omega
theorem Eqv.mul {x y : Int} (c : Int) (h : Eqv x y) : Eqv (x * c) (y * c) := by
  unfold Eqv at *
  rw [Int.mul_emod, h, ← Int.mul_emod]
theorem hl_inj {x y : Int} (hx : W128 x) (hy : W128 y) (h : hi x = hi y) (l : lo x = lo y) : x = y := by
  have := val_hl x
  have := val_hl y
  rw [W_in hx] at *
  rw [W_in hy] at *
  rw [h, l] at *
  omega
theorem hl_W (x : Int) : hi (W x) = hi x ∧ lo (W x) = lo x := ⟨hi_eqv (W_eqv x), lo_eqv (W_eqv x)⟩
end Go.Xv
namespace Go.Xv
open Go.RowKit Go.WideShapes Go.ChangeShapes
section
variable {H : Type} {enc : TypeId × Value → H} {P : Program}

def rowed (P : Program) (ts : List TypeId) : Bool := ts.all fun t => P.readableRec t && decide (t < P.types.size)

theorem trodAll_below (hl : laidOutB P = true) {W W' : World} (hb : Below W.heap.size W W') {sp : Nat → Bool} :
    ∀ {ts : List TypeId} {vs : List Value} {ds : List (DataW H)} {ps : List MemPlace}, rowed P ts = true → DataW.TrodAll enc P W 0 (fun _ => true) true ts vs ds ps → (∀ x ∈ ps, x.block < W.heap.size) →
      (∀ x ∈ ps, sp x.block = true) → DataW.TrodAll enc P W' 0 sp true ts vs ds ps
  | [], _, _, _, _, h, _, _ => by
    obtain ⟨rfl, rfl, rfl⟩ := trodAll_nil h
    rfl
  | t :: ts, _, _, _, hr, h, hlt, hsp => by
    obtain ⟨v, vs, d, ds, p, q, rfl, rfl, rfl, h1, h2⟩ := trodAll_cons h
    simp only [rowed, List.all_cons, Bool.and_eq_true, decide_eq_true_eq] at hr
    exact ⟨p, q, WideElems.Trod_stays hl hr.1.1 hr.1.2 h1 (fun x hx => hb.same (hlt x (by simp [hx]))) (fun x hx => hsp x (by simp [hx])),
      trodAll_below hl hb hr.2 h2 (fun x hx => hlt x (by simp [hx])) (fun x hx => hsp x (by simp [hx])), rfl⟩

theorem law_contract (hl : laidOutB P = true) {n : FuncId} {g : List VV → Option VV} (hg : Good P n g) {fn : Func} {s : ChangeSpec} {apart fresh handsOn again : Bool}
    {bt : TypeId} (hbt : P.underlying bt = some .bool) (hres : fn.resultTypes = #[bt]) (hro : rowed P fn.params.toList = true) (hsv : s.vars = [])
    {W : World} {args : Array Value} {ds gs : List (DataW H)} {before : List MemPlace}
    (hfn : s.fn H ds = { results := [.lit (.bool true)], args := ds })
    (hW : DataW.Whole enc P fn.params.toList s.vars apart W args.toList ds gs before)
    (hrd : ∃ vv : List VV, args.size = vv.length ∧ (∀ (i : Nat) (x : VV), vv[i]? = some x → ∃ y, args[i]? = some y ∧ Rel (fun b => b < W.heap.size) W rho0 x y) ∧ g vv = some (.v (.bool true))) :
    Calls P n args W fun e W' => ∃ v, e = .returned v ∧ s.post enc P fn apart fresh handsOn again W args v W' := by
  obtain ⟨vv, hsz, hrel, hgv⟩ := hrd
  refine ((hg vv _ hgv).2 W args _ (fun _ h => h) hsz hrel).mono fun e W' ⟨v, he, hb, hr⟩ => ⟨v, he, ?_⟩
  obtain rfl : v = .bool true := by
    have := hr.1
    cases this
    rfl
  have hlt := hW.lt
  have hW0 := hW
  obtain ⟨p, q, hA, hV, rfl, hz, hn⟩ := hW
  rw [hsv] at hV
  obtain ⟨rfl, rfl⟩ : gs = [] ∧ q = [] := by
    cases gs with
    | nil => exact ⟨rfl, hV⟩
    | cons => exact hV.elim
  have hps : ∀ x ∈ p, x.block < W.heap.size := fun x hx => hlt x (by simp [hx])
  have hargs : ∀ sp : Nat → Bool, (∀ x ∈ p, sp x.block = true) → DataW.TrodAll enc P W' 0 sp true fn.params.toList args.toList ds p := fun sp hsp =>
    trodAll_below hl hb hro hA hps hsp
  have hresT : ∀ (b : Nat) (sp : Nat → Bool) (hd : Bool), DataW.TrodAll enc P W' b sp hd fn.resultTypes.toList ((Value.bool true).resultList fn.resultTypes.size) [.lit (.bool true)] [] := by
    intro b sp hd
    rw [hres]
    exact ⟨[], [], shut_bool hbt true, rfl, rfl⟩
  have hfn' : s.fn H (ds ++ []) = { results := [.lit (.bool true)], args := ds } := by rw [List.append_nil]; exact hfn
  have hvars : ∀ sp : Nat → Bool, DataW.TrodVars enc P W' sp s.vars [] [] := fun sp => by rw [hsv]; rfl
  refine ⟨ds, [], p ++ [], [], p, [], hW0, ?_, ?_, ?_, hb.frame _, fun _ => ⟨ok_one hres rfl (okWide_bool_mk hbt _), ?_⟩⟩
  · rw [hfn']; exact hresT _ _ _
  · rw [hfn']; exact hargs _ (fun x hx => by simpa using hps x hx)
  · rw [hfn']; exact hvars _
  · refine ⟨_, _, ([] ++ p) ++ [], ⟨[] ++ p, [], trodAll_append (hargs _ (fun _ _ => rfl)) (hresT _ _ _), hvars _, rfl, ?_, ?_⟩, ?_⟩
    · intro b off hp
      rw [hb.frozen (hlt _ (by simpa using hp))]
      exact hz b off (by simpa using hp)
    · intro ha
      simpa using hn ha
    · intro x hx _
      simpa using hx
end
end Go.Xv
namespace Go.Xv
open Go.RowKit Go.WideShapes Go.ChangeShapes

/-- The kinds of a type's cells (none: a bool), if they are integers and bools alone, its fields without a gap. -/
def shFs (P : Program) (g : TypeId → Option (List (Option IntKind))) : Nat → List Field → Option (List (Option IntKind))
  | _, [] => some []
  | off, f :: r => bif Nat.beq f.offset off then (match g f.type with
    | some l => bif Nat.beq l.length (P.cellsOf f.type) then (match shFs P g (off + l.length) r with
      | some q => some (l ++ q)
      | none => none) else none
    | none => none) else none
def shK (P : Program) : Nat → TypeId → Option (List (Option IntKind))
  | 0, _ => none
  | d + 1, t => match P.underlying t with
    | some (.int k) => some [some k]
    | some .bool => some [none]
    | some (.array n e) => match shK P d e with
      | some l => bif Nat.beq l.length (P.cellsOf e) && Nat.beq (n * l.length) (P.cellsOf t) then some (List.replicate n l).flatten else none
      | none => none
    | some (.struct fs) => match shFs P (shK P d) 0 fs.toList with
      | some l => bif Nat.beq l.length (P.cellsOf t) then some l else none
      | none => none
    | _ => none

def fitW : List (Option IntKind) → List Value → Prop
  | [], [] => True
  | some k :: r, .int k' n :: q => k' = k ∧ (Lit.int k n).wf = true ∧ fitW r q
  | none :: r, .bool _ :: q => fitW r q
  | _, _ => False

theorem fitW_append : ∀ {a b : List (Option IntKind)} {x y : List Value}, fitW a x → fitW b y → fitW (a ++ b) (x ++ y)
  | [], _, [], _, _, h => h
  | [], _, _ :: _, _, h, _ => by cases h
  | none :: a, b, x, y, h, h2 => by
    cases x with
    | nil => cases h
    | cons v x => cases v <;> first | exact fitW_append (a := a) h h2 | cases h
  | some k :: a, b, x, y, h, h2 => by
    cases x with
    | nil => cases h
    | cons v x => cases v <;> first | exact ⟨h.1, h.2.1, fitW_append h.2.2 h2⟩ | cases h
theorem fitW_len : ∀ {a : List (Option IntKind)} {x : List Value}, fitW a x → x.length = a.length
  | [], [], _ => rfl
  | [], _ :: _, h => by cases h
  | none :: a, x, h => by
    cases x with
    | nil => cases h
    | cons v x => cases v <;> first | exact congrArg (· + 1) (fitW_len (a := a) h) | cases h
  | some k :: a, x, h => by
    cases x with
    | nil => cases h
    | cons v x => cases v <;> first | exact congrArg (· + 1) (fitW_len h.2.2) | cases h
theorem fitW_some {k : IntKind} {r : List (Option IntKind)} {l : List Value} (h : fitW (some k :: r) l) : ∃ n q, l = .int k n :: q ∧ (Lit.int k n).wf = true ∧ fitW r q := by
  cases l with
  | nil => cases h
  | cons v q =>
    cases v with
    | int k' n => obtain ⟨rfl, h2, h3⟩ := h; exact ⟨n, q, rfl, h2, h3⟩
    | _ => cases h
theorem fitW_none {r : List (Option IntKind)} {l : List Value} (h : fitW (none :: r) l) : ∃ b q, l = .bool b :: q ∧ fitW r q := by
  cases l with
  | nil => cases h
  | cons v q =>
    cases v with
    | bool b => exact ⟨b, q, rfl, h⟩
    | _ => cases h
theorem fitW_nil {l : List Value} (h : fitW [] l) : l = [] := by
  cases l with
  | nil => rfl
  | cons _ _ => cases h

section
variable {H : Type} {enc : TypeId × Value → H} {P : Program} {w : World} {base : Nat} {spare : Nat → Bool} {held : Bool}

theorem trod_arr {t e : TypeId} {n fuel : Nat} {cs : List Value} {x : DataW H × List MemPlace} (ht : P.underlying t = some (.array n e)) (h : DataW.trod enc P w base spare held fuel t cs = some x) :
    ∃ m, fuel = m + 1 ∧ cs.length = P.cellsOf t ∧ ∀ i, i < n → ∃ y, DataW.trod enc P w base spare held m e ((cs.drop (i * P.cellsOf e)).take (P.cellsOf e)) = some y := by
  obtain ⟨xs, m, h1, _, h2, h3, h4⟩ := DataW.trod_array ht h
  refine ⟨m, h1, h2, fun i hi => ?_⟩
  rw [h4 i hi]
  exact ⟨xs[i], List.getElem?_eq_getElem (by omega)⟩

theorem arr_fit {l : List (Option IntKind)} {z : Nat} (hz : l.length = z) : ∀ (n : Nat) (cs : List Value), cs.length = n * z → (∀ i, i < n → fitW l ((cs.drop (i * z)).take z)) → fitW (List.replicate n l).flatten cs
  | 0, cs, h, _ => by
    obtain rfl : cs = [] := by cases cs with
      | nil => rfl
      | cons _ _ => simp at h
    exact trivial
  | n + 1, cs, h, hf => by
    have h0 := hf 0 (by omega)
    rw [Nat.zero_mul, List.drop_zero] at h0
    rw [List.replicate_succ, List.flatten_cons, ← List.take_append_drop z cs]
    refine fitW_append h0 (arr_fit hz n _ (by rw [List.length_drop, h, Nat.succ_mul]; omega) fun i hi => ?_)
    have := hf (i + 1) (by omega)
    rw [List.drop_drop, show z + i * z = (i + 1) * z by rw [Nat.succ_mul]; omega]
    exact this

theorem str_fit {g : TypeId → Option (List (Option IntKind))} {cs : List Value} (N : Nat) (hN : cs.length = N) : ∀ (fs : List Field) (off : Nat) (l : List (Option IntKind)), shFs P g off fs = some l → off + l.length = N →
    (∀ f ∈ fs, ∀ q, g f.type = some q → fitW q ((cs.drop f.offset).take (P.cellsOf f.type))) → fitW l (cs.drop off)
  | [], off, l, h, he, _ => by
    simp only [shFs, Option.some.injEq] at h
    subst h
    rw [List.drop_eq_nil_of_le (by simp at he; omega)]
    exact trivial
  | f :: r, off, l, h, he, hf => by
    unfold shFs at h
    cases h1 : Nat.beq f.offset off with
    | false => rw [h1] at h; cases h
    | true =>
      rw [h1] at h
      simp only [cond_true] at h
      cases h2 : g f.type with
      | none => rw [h2] at h; cases h
      | some a =>
        rw [h2] at h
        simp only at h
        cases h3 : Nat.beq a.length (P.cellsOf f.type) with
        | false => rw [h3] at h; cases h
        | true =>
          rw [h3] at h
          simp only [cond_true] at h
          cases h4 : shFs P g (off + a.length) r with
          | none => rw [h4] at h; cases h
          | some b =>
            rw [h4] at h
            simp only [Option.some.injEq] at h
            subst h
            have e1 := Nat.eq_of_beq_eq_true h1
            have e3 := Nat.eq_of_beq_eq_true h3
            have k1 := hf f (by simp) a h2
            rw [e1, ← e3] at k1
            rw [List.length_append] at he
            have k2 := str_fit N hN r (off + a.length) b h4 (by omega) fun f' hf' => hf f' (by simp [hf'])
            rw [← List.take_append_drop a.length (cs.drop off), List.drop_drop]
            exact fitW_append k1 k2

theorem trod_flat : ∀ (d : Nat) (t : TypeId) (ks : List (Option IntKind)) (fuel : Nat) (cs : List Value) (x : DataW H × List MemPlace), shK P d t = some ks → DataW.trod enc P w base spare held fuel t cs = some x → fitW ks cs
  | 0, _, _, _, _, _, h, _ => by cases h
  | d + 1, t, ks, fuel, cs, x, h, hx => by
    unfold shK at h
    cases ht : P.underlying t with
    | none => rw [ht] at h; cases h
    | some u =>
      rw [ht] at h
      cases u with
      | int k =>
        simp only [Option.some.injEq] at h
        subst h
        obtain ⟨n', h1, _, hw⟩ := DataW.trod_int ht hx
        subst h1
        exact ⟨rfl, hw, trivial⟩
      | bool =>
        simp only [Option.some.injEq] at h
        subst h
        cases fuel with
        | zero => simp [DataW.trod] at hx
        | succ n =>
          unfold DataW.trod at hx
          rw [ht] at hx
          split at hx <;> simp_all
          trivial
      | array n e =>
        simp only at h
        cases he : shK P d e with
        | none => rw [he] at h; cases h
        | some l =>
          rw [he] at h
          simp only at h
          cases hb : (Nat.beq l.length (P.cellsOf e) && Nat.beq (n * l.length) (P.cellsOf t)) with
          | false => rw [hb] at h; cases h
          | true =>
            rw [hb] at h
            simp only [cond_true, Option.some.injEq] at h
            subst h
            rw [Bool.and_eq_true] at hb
            have e1 := Nat.eq_of_beq_eq_true hb.1
            have e2 := Nat.eq_of_beq_eq_true hb.2
            obtain ⟨m, _, hl, hel⟩ := trod_arr ht hx
            refine arr_fit e1 n cs (by rw [hl, ← e2, e1]) fun i hi => ?_
            obtain ⟨y, hy⟩ := hel i hi
            exact trod_flat d e l m _ y he hy
      | struct fs =>
        simp only at h
        cases he : shFs P (shK P d) 0 fs.toList with
        | none => rw [he] at h; cases h
        | some l =>
          rw [he] at h
          simp only at h
          cases hb : Nat.beq l.length (P.cellsOf t) with
          | false => rw [hb] at h; cases h
          | true =>
            rw [hb] at h
            simp only [cond_true, Option.some.injEq] at h
            subst h
            have e1 := Nat.eq_of_beq_eq_true hb
            obtain ⟨xs, m, _, _, hl, hn, hel⟩ := DataW.trod_struct ht hx
            have := str_fit (P := P) (cs := cs) (P.cellsOf t) hl fs.toList 0 l he (by omega) ?_
            · simpa using this
            · intro f hf q hq
              obtain ⟨i, hi⟩ := List.mem_iff_getElem?.1 hf
              have hi' : fs[i]? = some f := by simpa using hi
              have hlt : i < fs.size := by
                rcases Nat.lt_or_ge i fs.size with h | h
                · exact h
                · rw [Array.getElem?_eq_none h] at hi'; cases hi'
              have h1 := hel i f hi'
              have h2 : xs[i]? = some xs[i] := List.getElem?_eq_getElem (by omega)
              rw [h2] at h1
              exact trod_flat d f.type q m _ _ hq h1
      | _ => simp only at h; cases h

theorem open_flat {r : Reach} {b0 : Nat} {t : TypeId} {v : Value} {d : DataW H} {ps : List MemPlace} {ks : List (Option IntKind)} (hs : shK P 20 t = some ks) (ha : isAggT P t = true)
    (hval : Value.okWide P w r b0 t v) (hd : DataW.Trod enc P w base spare held t v d ps) : ∃ l, v = .agg ⟨l⟩ ∧ fitW ks l := by
  have hv : ∃ cs, v = .agg cs := by
    unfold isAggT at ha
    unfold Value.okWide at hval
    cases ht : P.underlying t with
    | none => rw [ht] at ha; cases ha
    | some u =>
      rw [ht] at ha hval
      cases u <;> first | (cases ha; done) | (obtain ⟨cs, h, _⟩ := hval; exact ⟨cs, h⟩)
  obtain ⟨⟨l⟩, rfl⟩ := hv
  obtain ⟨fuel, hf⟩ := hd
  exact ⟨l, rfl, trod_flat 20 t ks fuel _ _ hs hf⟩
theorem open_num {r : Reach} {b0 : Nat} {t : TypeId} {k : IntKind} {v : Value} {d : DataW H} {ps : List MemPlace} (ht : P.underlying t = some (.int k)) (hval : Value.okWide P w r b0 t v) (hd : DataW.Trod enc P w base spare held t v d ps) :
    ∃ n, v = .int k n ∧ (Lit.int k n).wf = true := by
  obtain ⟨n, h1, _, _, h2⟩ := open_int ht hval hd
  exact ⟨n, h1, h2⟩
end

theorem wf_i64 {n : Int} (h : (Lit.int .i64 n).wf = true) : I64 n := by
  simp [Lit.wf, IntKind.min, IntKind.max, IntKind.signed, IntKind.bits] at h
  unfold I64; omega
theorem wf_u64 {n : Int} (h : (Lit.int .u64 n).wf = true) : U64 n := by
  simp [Lit.wf, IntKind.min, IntKind.max, IntKind.signed, IntKind.bits] at h
  unfold U64; omega
theorem wf_i32 {n : Int} (h : (Lit.int .i32 n).wf = true) : I32 n := by
  simp [Lit.wf, IntKind.min, IntKind.max, IntKind.signed, IntKind.bits] at h
  unfold I32; omega
theorem wf_u32 {n : Int} (h : (Lit.int .u32 n).wf = true) : U32 n := by
  simp [Lit.wf, IntKind.min, IntKind.max, IntKind.signed, IntKind.bits] at h
  unfold U32; omega
theorem wf_u8 {n : Int} (h : (Lit.int .u8 n).wf = true) : U8 n := by
  simp [Lit.wf, IntKind.min, IntKind.max, IntKind.signed, IntKind.bits] at h
  unfold U8; omega

/-- plain values as they are -/
theorem rel_plain {St : Nat → Prop} {W : World} {ρ : Rho} (args : Array Value) : ∃ vv : List VV, vv = args.toList.map .v ∧ args.size = vv.length ∧ ∀ (i : Nat) (x : VV), vv[i]? = some x → ∃ y, args[i]? = some y ∧ Rel St W ρ x y := by
  refine ⟨_, rfl, by simp, fun i x h => ?_⟩
  rw [List.getElem?_map] at h
  cases hy : args.toList[i]? with
  | none => rw [hy] at h; cases h
  | some y =>
    rw [hy] at h
    cases h
    exact ⟨y, by simpa using hy, Rel.v ρ y⟩
theorem unS_of {g : List VV → Option (Bool × VV)} {l : List VV} {r : VV} (h : g l = some (true, r)) : unS g l = some r := by
  unfold unS; rw [h]
end Go.Xv
/- What a program's head says, of any program: so that the kernel never reads a long text letter by letter. -/
namespace Go.Xv
open Go.ChangeShapes Go.WideShapes Go.ChangeAt Go.RowKit
def cutW : List Char := [Char.ofNat 99, Char.ofNat 117, Char.ofNat 116]
theorem t_harness : "harness".toList = [Char.ofNat 104, Char.ofNat 97, Char.ofNat 114, Char.ofNat 110, Char.ofNat 101, Char.ofNat 115, Char.ofNat 115] := String.toList_ofList
theorem t_ownmain : "ownmain".toList = [Char.ofNat 111, Char.ofNat 119, Char.ofNat 110, Char.ofNat 109, Char.ofNat 97, Char.ofNat 105, Char.ofNat 110] := String.toList_ofList
theorem t_gc : "gc".toList = [Char.ofNat 103, Char.ofNat 99] := String.toList_ofList
theorem t_spec : "spec".toList = [Char.ofNat 115, Char.ofNat 112, Char.ofNat 101, Char.ofNat 99] := String.toList_ofList
theorem t_carried : "carried".toList = [Char.ofNat 99, Char.ofNat 97, Char.ofNat 114, Char.ofNat 114, Char.ofNat 105, Char.ofNat 101, Char.ofNat 100] := String.toList_ofList
theorem t_cut : "cut".toList = [Char.ofNat 99, Char.ofNat 117, Char.ofNat 116] := String.toList_ofList
theorem t_stop : "stop".toList = [Char.ofNat 115, Char.ofNat 116, Char.ofNat 111, Char.ofNat 112] := String.toList_ofList
theorem t_finals : "finals".toList = [Char.ofNat 102, Char.ofNat 105, Char.ofNat 110, Char.ofNat 97, Char.ofNat 108, Char.ofNat 115] := String.toList_ofList
theorem t_reflectrows : "reflectrows".toList = [Char.ofNat 114, Char.ofNat 101, Char.ofNat 102, Char.ofNat 108, Char.ofNat 101, Char.ofNat 99, Char.ofNat 116, Char.ofNat 114, Char.ofNat 111, Char.ofNat 119, Char.ofNat 115] := String.toList_ofList
theorem t_leanrows : "leanrows".toList = [Char.ofNat 108, Char.ofNat 101, Char.ofNat 97, Char.ofNat 110, Char.ofNat 114, Char.ofNat 111, Char.ofNat 119, Char.ofNat 115] := String.toList_ofList
theorem t_onebuild : "onebuild".toList = [Char.ofNat 111, Char.ofNat 110, Char.ofNat 101, Char.ofNat 98, Char.ofNat 117, Char.ofNat 105, Char.ofNat 108, Char.ofNat 100] := String.toList_ofList
theorem t_publicsums : "publicsums".toList = [Char.ofNat 112, Char.ofNat 117, Char.ofNat 98, Char.ofNat 108, Char.ofNat 105, Char.ofNat 99, Char.ofNat 115, Char.ofNat 117, Char.ofNat 109, Char.ofNat 115] := String.toList_ofList
theorem t_eqguard : "eqguard".toList = [Char.ofNat 101, Char.ofNat 113, Char.ofNat 103, Char.ofNat 117, Char.ofNat 97, Char.ofNat 114, Char.ofNat 100] := String.toList_ofList
theorem t_ownunsafe : "ownunsafe".toList = [Char.ofNat 111, Char.ofNat 119, Char.ofNat 110, Char.ofNat 117, Char.ofNat 110, Char.ofNat 115, Char.ofNat 97, Char.ofNat 102, Char.ofNat 101] := String.toList_ofList
theorem t_libbeside : "libbeside".toList = [Char.ofNat 108, Char.ofNat 105, Char.ofNat 98, Char.ofNat 98, Char.ofNat 101, Char.ofNat 115, Char.ofNat 105, Char.ofNat 100, Char.ofNat 101] := String.toList_ofList
theorem t_ownbeside : "ownbeside".toList = [Char.ofNat 111, Char.ofNat 119, Char.ofNat 110, Char.ofNat 98, Char.ofNat 101, Char.ofNat 115, Char.ofNat 105, Char.ofNat 100, Char.ofNat 101] := String.toList_ofList
theorem t_reflbeside : "reflbeside".toList = [Char.ofNat 114, Char.ofNat 101, Char.ofNat 102, Char.ofNat 108, Char.ofNat 98, Char.ofNat 101, Char.ofNat 115, Char.ofNat 105, Char.ofNat 100, Char.ofNat 101] := String.toList_ofList
theorem t_aliases : "aliases".toList = [Char.ofNat 97, Char.ofNat 108, Char.ofNat 105, Char.ofNat 97, Char.ofNat 115, Char.ofNat 101, Char.ofNat 115] := String.toList_ofList
theorem t_afterinit : "afterinit".toList = [Char.ofNat 97, Char.ofNat 102, Char.ofNat 116, Char.ofNat 101, Char.ofNat 114, Char.ofNat 105, Char.ofNat 110, Char.ofNat 105, Char.ofNat 116] := String.toList_ofList
theorem t_crcplain : "crcplain".toList = [Char.ofNat 99, Char.ofNat 114, Char.ofNat 99, Char.ofNat 112, Char.ofNat 108, Char.ofNat 97, Char.ofNat 105, Char.ofNat 110] := String.toList_ofList
theorem t_roadunsafe : "roadunsafe".toList = [Char.ofNat 114, Char.ofNat 111, Char.ofNat 97, Char.ofNat 100, Char.ofNat 117, Char.ofNat 110, Char.ofNat 115, Char.ofNat 97, Char.ofNat 102, Char.ofNat 101] := String.toList_ofList
theorem t_fmthandon : "fmthandon".toList = [Char.ofNat 102, Char.ofNat 109, Char.ofNat 116, Char.ofNat 104, Char.ofNat 97, Char.ofNat 110, Char.ofNat 100, Char.ofNat 111, Char.ofNat 110] := String.toList_ofList
section
variable {P : Program} {R : List (List Char)}
theorem behind_of {S : List Char} {L : List Char} (io : P.initOrder.toList = L) (h : wordsSigns L = [Char.ofNat 104, Char.ofNat 97, Char.ofNat 114, Char.ofNat 110, Char.ofNat 101, Char.ofNat 115, Char.ofNat 115] :: S :: cutW :: R) (hs : isSumSigns S = true) : behindMainWord (wordsSigns P.initOrder.toList) = cutW :: R := by
  rw [io, h]
  unfold behindMainWord
  dsimp only
  rw [hs, t_harness, t_ownmain]
  rfl
theorem strip_of : stripLifts liftWords (cutW :: R) = ([], cutW :: R) := by
  simp only [liftWords, stripLifts, t_finals, t_reflectrows, t_leanrows, t_onebuild, t_publicsums, t_eqguard, t_ownunsafe, t_libbeside, t_ownbeside, t_reflbeside, t_aliases, t_afterinit, t_crcplain, t_roadunsafe, t_fmthandon]
  rfl
theorem make_of (h : behindMainWord (wordsSigns P.initOrder.toList) = cutW :: R) : P.make = some .cut := by
  unfold Program.make
  rw [h]
  dsimp only
  rw [t_gc, t_spec, t_cut]
  rfl
theorem heads_of (h : behindMainWord (wordsSigns P.initOrder.toList) = cutW :: R) : P.headLifts = [] := by
  unfold Program.headLifts
  rw [h, strip_of]
  dsimp only
  rw [t_cut]
  rfl
theorem lifts_of (h : behindMainWord (wordsSigns P.initOrder.toList) = cutW :: R) : P.liftsFinal = false := by
  unfold Program.liftsFinal
  rw [h, heads_of h]
  dsimp only
  rw [t_carried, t_gc, t_cut]
  rfl
theorem enter_of (h : behindMainWord (wordsSigns P.initOrder.toList) = cutW :: R) (h1 : P.laysLater = false) (h2 : P.bearsReflect = false) (h3 : P.doorFits [] = true) : P.mayEnter = true := by
  unfold Program.mayEnter
  rw [h]
  dsimp only
  rw [strip_of]
  dsimp only
  rw [t_gc, t_spec, t_carried, t_cut, h1, h2, h3]
  rfl
/-- The row's closed facts, with the head's ones given. -/
theorem joined_of {f : FuncId} {fn : Func} {s : ChangeSpec} {c : OpenClaim} (h : behindMainWord (wordsSigns P.initOrder.toList) = cutW :: R) (he : P.mayEnter = true) (hc : c.lifted = false) (hm : c.make = .cut)
    (hk : c.domain.isEmpty = true ∧ c.kinds = [])
    (hx : (c.wf (OpenSpec.ofChange s) && laidOutB P && mapsRowed P && fn.params.all (P.readableRec ·) && namedTie P c.named s.vars && (c.stops == []) && (P.stops == []) && (c.knobs == []) && (P.stopKnobs == []) && (c.inPlace == P.inPlace f) && (c.unfollowed == P.unfollowed f) && (c.recurses == P.recurses f) && (c.named == P.varsNamed f) && (c.maps == (fn.params.toList ++ s.plain.varTypes P).any (P.mapsRec ·)) && (c.ifaces == (fn.params.toList ++ s.plain.varTypes P).any (P.ifacesRec ·)) && (c.mapsOut == P.mapsAmong fn.resultTypes.toList) && (c.loops == (fn.params.toList ++ s.plain.varTypes P).any (P.loopsFrom ·)) && (c.wideKeys == (fn.params.toList ++ s.plain.varTypes P ++ fn.resultTypes.toList).any (P.wideKeysFrom ·)) && s.vars.all (P.varReadable ·) && fn.resultTypes.all (fun t => P.readableRec t && decide (t < P.types.size)) && (c.ifacesOut == fn.resultTypes.toList.any (P.ifacesRec ·)) && (c.loopsOut == fn.resultTypes.toList.any (P.loopsFrom ·)) && (c.plainKeys == P.plainKeys) && c.shortTexts.isNone && P.stopsHeard && (c.pinned == c.pinnedBy) &&
  (c.veiled == (fn.params.toList ++ s.plain.varTypes P ++ fn.resultTypes.toList).any (P.veiledRec ·)) && c.veiledFits P fn.params.toList (fn.params.toList ++ s.plain.varTypes P ++ fn.resultTypes.toList)) = true) : joinedFacts P f fn s c = true := by
  simp only [Bool.and_eq_true] at hx
  unfold joinedFacts
  simp only [Bool.and_eq_true]
  rw [he, lifts_of h, make_of h, hc, hm]
  simp only [and_assoc] at hx ⊢
  simp only [hx, hk, if_true, and_self, BEq.rfl]
end
end Go.Xv
/- A slice of integers that comes in: what it holds. -/
namespace Go.Xv
open Go.RowKit Go.WideShapes Go.ChangeShapes
section
variable {H : Type} {enc : TypeId × Value → H} {P : Program} {W : World} {base : Nat} {held : Bool}
theorem open_row {r : Reach} {b0 : Nat} {t e : TypeId} {k : IntKind} {v : Value} {d : DataW H} {ps : List MemPlace} (ht : P.underlying t = some (.slice e)) (he : P.underlying e = some (.int k)) (hc : P.cellsOf e = 1)
    (hval : Value.okWide P W r b0 t v) (hd : DataW.Trod enc P W base (fun _ => true) held t v d ps) :
    ∃ (zs : List Int) (len cap : Nat) (p : Option Addr), v = .slice p len cap ∧ len ≤ zs.length ∧ zs.length ≤ maxLen ∧ (∀ n ∈ zs, (Lit.int k n).wf = true) ∧
      ∀ ρ : Rho, Rel (fun b => b < W.heap.size) W ρ (.fs (zs.map fun n => .v (.int k n)) 0 len 1) (.slice p len cap) := by
  obtain ⟨a, len, cap, rfl⟩ := okWide_slice ht hval
  obtain ⟨fuel, hf⟩ := hd
  rcases open_ints ht he hc hf with ⟨hcs, _⟩ | ⟨x, l, c, zs, hcs, _, hl, hm, hz, _, hcell, hwz⟩
  · simp [Value.cells] at hcs
    obtain ⟨rfl, rfl, rfl⟩ := hcs
    refine ⟨[], 0, 0, none, rfl, by simp, by simp [maxLen], by simp, fun ρ => ?_⟩
    exact Rel.fs ρ [] 0 0 1 0 0 0 none (fun _ => undef) (by omega) (by omega) (by simp) (by simp) (by simp)
  · simp [Value.cells] at hcs
    obtain ⟨rfl, rfl, rfl⟩ := hcs
    have hzc : zs.length = cap := by simpa using hz
    refine ⟨zs, len, cap, some x, rfl, by omega, by omega, hwz, fun ρ => ?_⟩
    obtain ⟨b, off, spot⟩ := x
    have hspot : 0 < cap → spot = none := by
      intro h
      have h0 := hcell 0 (by omega)
      simpa [Addr.add] using World.cell?_spot h0
    have hget : ∀ (i : Nat) (y : VV), (zs.map fun n => VV.v (.int k n))[i]? = some y → i < zs.length ∧ y = .v (.int k (zs.getD i 0)) := by
      intro i y hy
      rw [List.getElem?_map] at hy
      cases hi : zs[i]? with
      | none => rw [hi] at hy; cases hy
      | some n =>
        rw [hi] at hy
        cases hy
        have hlt := (List.getElem?_eq_some_iff.1 hi).1
        exact ⟨hlt, by rw [List.getD_eq_getElem?_getD, hi]; rfl⟩
    have hc' : ∀ i, i < zs.length → W.cell? ⟨b, off + i, none⟩ = some (.int k (zs.getD i 0)) := by
      intro i hi
      have hs := hspot (by omega)
      have := hcell i hi
      subst hs
      have e : (⟨b, off, none⟩ : Addr).add i = ⟨b, off + i, none⟩ := by
        by_cases h0 : i = 0
        · subst h0; simp [Addr.add]
        · simp [Addr.add, h0]
      rw [e] at this
      exact this
    refine Rel.fs ρ _ 0 len 1 b off cap (some ⟨b, off, spot⟩) (fun i => .int k (zs.getD i 0)) hl (fun h => by rw [hspot h]; rfl) ?_ ?_ ?_
    · intro i y hy
      exact World.block_lt_of_cell? W _ (hc' i (hget i y hy).1)
    · intro i y hy
      exact ⟨hc' i (hget i y hy).1, rfl⟩
    · intro i y hy
      exact (hget i y hy).2
end
end Go.Xv
/- A slice of arrays, or of structs, of numbers that comes in: what it holds. -/
namespace Go.Xv
open Go.RowKit Go.WideShapes Go.ChangeShapes
theorem addr_add (a : Addr) (n m : Nat) : (a.add n).add m = a.add (n + m) := by
  unfold Addr.add
  by_cases hn : n = 0
  · subst hn; simp
  · by_cases hm : m = 0
    · subst hm; simp
    · simp [hn, hm, Nat.add_assoc]
theorem fitW_one : ∀ {ks : List (Option IntKind)} {l : List Value}, fitW ks l → ∀ v ∈ l, v.oneCell' = true
  | [], [], _, v, h => by cases h
  | [], _ :: _, h, _, _ => by cases h
  | none :: a, l, h, v, hv => by
    obtain ⟨b, q, rfl, h2⟩ := fitW_none h
    rcases List.mem_cons.1 hv with rfl | hv
    · rfl
    · exact fitW_one h2 v hv
  | some k :: a, l, h, v, hv => by
    obtain ⟨n, q, rfl, _, h2⟩ := fitW_some h
    rcases List.mem_cons.1 hv with rfl | hv
    · rfl
    · exact fitW_one h2 v hv
section
variable {H : Type} {enc : TypeId × Value → H} {P : Program} {W : World} {base : Nat} {held : Bool}
theorem open_rows {r : Reach} {b0 : Nat} {t e : TypeId} {ks : List (Option IntKind)} {v : Value} {d : DataW H} {ps : List MemPlace} (ht : P.underlying t = some (.slice e)) (he : shK P 20 e = some ks) (hc : Nat.beq (P.cellsOf e) ks.length = true) (h0 : 0 < ks.length)
    (hval : Value.okWide P W r b0 t v) (hd : DataW.Trod enc P W base (fun _ => true) held t v d ps) :
    ∃ (vs : List Value) (m len cap : Nat) (p : Option Addr), v = .slice p len cap ∧ len ≤ m ∧ m ≤ maxLen ∧ vs.length = m * ks.length ∧ fitW (List.replicate m ks).flatten vs ∧
      ∀ ρ : Rho, Rel (fun b => b < W.heap.size) W ρ (.fs (vs.map .v) 0 len ks.length) (.slice p len cap) := by
  have hc := Nat.eq_of_beq_eq_true hc
  obtain ⟨a, len, cap, rfl⟩ := okWide_slice ht hval
  obtain ⟨fuel, hf⟩ := hd
  rcases DataW.trod_slice ht hf with ⟨hcs, _⟩ | ⟨x, l, c, elems, rest, n, _, hcs, _, hb, hl, hm, hlen, hel, hsp, _⟩
  · simp [Value.cells] at hcs
    obtain ⟨rfl, rfl, rfl⟩ := hcs
    refine ⟨[], 0, 0, 0, none, rfl, by simp, by simp [maxLen], by simp, trivial, fun ρ => ?_⟩
    exact Rel.fs ρ [] 0 0 _ 0 0 0 none (fun _ => undef) (by omega) (by omega) (by simp) (by simp) (by simp)
  · simp [Value.cells] at hcs
    obtain ⟨rfl, rfl, rfl⟩ := hcs
    have each : ∀ i, i < cap → ∃ cs, W.cells? base (x.add (i * ks.length)) ks.length = some cs ∧ fitW ks cs := by
      intro i hi
      have hex : ∃ y, (W.cells? base (x.add (i * P.cellsOf e)) (P.cellsOf e)).bind (DataW.trod enc P W base (fun _ => true) held n e) = some y := by
        by_cases h : i < len
        · rw [hel i h]
          exact ⟨_, List.getElem?_eq_getElem (by omega)⟩
        · obtain ⟨h1, h2⟩ := hsp rfl
          have := h2 (i - len) (by omega)
          rw [show len + (i - len) = i by omega] at this
          rw [this]
          exact ⟨_, List.getElem?_eq_getElem (by omega)⟩
      obtain ⟨y, hy⟩ := hex
      rw [Option.bind_eq_some_iff, hc] at hy
      obtain ⟨cs, h1, h2⟩ := hy
      exact ⟨cs, h1, trod_flat 20 e ks n cs y he h2⟩
    have hcell : ∀ j, j < cap * ks.length → ∃ v, W.cell? (x.add j) = some v := by
      intro j hj
      have hi : j / ks.length < cap := Nat.div_lt_of_lt_mul (by rw [Nat.mul_comm]; exact hj)
      obtain ⟨cs, h1, h2⟩ := each _ hi
      have h3 := (World.cells?_some h1).2.2 (j % ks.length) (Nat.mod_lt _ h0)
      rw [List.getElem?_eq_getElem (by rw [(World.cells?_some h1).2.1]; exact Nat.mod_lt _ h0)] at h3
      rw [addr_add, show j / ks.length * ks.length + j % ks.length = j by rw [Nat.mul_comm]; exact Nat.div_add_mod ..] at h3
      exact ⟨_, h3⟩
    refine ⟨(List.range (cap * ks.length)).map fun j => (W.cell? (x.add j)).getD undef, cap, len, cap, some x, rfl, hl, hm, by simp, ?_, fun ρ => ?_⟩
    · refine arr_fit rfl cap _ (by simp) fun i hi => ?_
      obtain ⟨cs, h1, h2⟩ := each i hi
      have e1 : (((List.range (cap * ks.length)).map fun j => (W.cell? (x.add j)).getD undef).drop (i * ks.length)).take ks.length = cs := by
        have hl1 := (World.cells?_some h1).2.1
        have hle : i * ks.length + ks.length ≤ cap * ks.length := by rw [← Nat.succ_mul]; exact Nat.mul_le_mul_right _ hi
        apply List.ext_getElem
        · simp [hl1]; omega
        · intro q hq1 hq2
          have h3 := (World.cells?_some h1).2.2 q (by omega)
          rw [addr_add, List.getElem?_eq_getElem hq2] at h3
          simp [List.getElem_take, List.getElem_drop, h3]
      rw [e1]
      exact h2
    · obtain ⟨b, off, spot⟩ := x
      have hspot : 0 < cap → spot = none := by
        intro h
        obtain ⟨v, hv⟩ := hcell 0 (Nat.mul_pos h h0)
        simpa [Addr.add] using World.cell?_spot hv
      have hget : ∀ (i : Nat) (y : VV), (((List.range (cap * ks.length)).map fun j => (W.cell? (Addr.add ⟨b, off, spot⟩ j)).getD undef).map VV.v)[i]? = some y → i < cap * ks.length ∧ y = .v ((W.cell? (Addr.add ⟨b, off, spot⟩ i)).getD undef) := by
        intro i y hy
        rw [List.getElem?_map, List.getElem?_map] at hy
        by_cases hi : i < cap * ks.length
        · rw [List.getElem?_range hi] at hy
          cases hy
          exact ⟨hi, rfl⟩
        · rw [List.getElem?_eq_none (by simp; omega)] at hy
          cases hy
      have hadd : ∀ i, i < cap * ks.length → Addr.add ⟨b, off, spot⟩ i = ⟨b, off + i, none⟩ := by
        intro i hi
        have hs := hspot (Nat.pos_of_ne_zero (by intro h; subst h; simp at hi))
        subst hs
        by_cases h : i = 0
        · subst h; simp [Addr.add]
        · simp [Addr.add, h]
      have hone : ∀ i, i < cap * ks.length → ((W.cell? (Addr.add ⟨b, off, spot⟩ i)).getD undef).oneCell' = true := by
        intro i hi
        have hi' : i / ks.length < cap := Nat.div_lt_of_lt_mul (by rw [Nat.mul_comm]; exact hi)
        obtain ⟨cs, h1, h2⟩ := each _ hi'
        have hlt : i % ks.length < cs.length := by rw [(World.cells?_some h1).2.1]; exact Nat.mod_lt _ h0
        have h3 := (World.cells?_some h1).2.2 (i % ks.length) (Nat.mod_lt _ h0)
        rw [List.getElem?_eq_getElem hlt] at h3
        rw [addr_add, show i / ks.length * ks.length + i % ks.length = i by rw [Nat.mul_comm]; exact Nat.div_add_mod ..] at h3
        rw [h3]
        exact fitW_one h2 _ (List.getElem_mem hlt)
      refine Rel.fs ρ _ 0 len ks.length b off cap (some ⟨b, off, spot⟩) (fun i => (W.cell? (Addr.add ⟨b, off, spot⟩ i)).getD undef) hl (fun h => by rw [hspot h]; rfl) ?_ ?_ ?_
      · intro i y hy
        obtain ⟨hi, _⟩ := hget i y hy
        obtain ⟨v, hv⟩ := hcell i hi
        rw [hadd i hi] at hv
        exact World.block_lt_of_cell? W _ hv
      · intro i y hy
        obtain ⟨hi, _⟩ := hget i y hy
        refine ⟨?_, hone i hi⟩
        obtain ⟨v, hv⟩ := hcell i hi
        rw [← hadd i hi, hv]
        rfl
      · intro i y hy
        exact (hget i y hy).2
theorem fitW_ints {k : IntKind} : ∀ (n : Nat) (vs : List Value), fitW (List.replicate n (some k)) vs → ∃ zs : List Int, vs = zs.map (fun z => .int k z) ∧ zs.length = n ∧ ∀ z ∈ zs, (Lit.int k z).wf = true
  | 0, vs, h => by
    have : vs = [] := by cases vs with
      | nil => rfl
      | cons a r => cases h
    exact ⟨[], this, rfl, by simp⟩
  | n + 1, vs, h => by
    rw [List.replicate_succ] at h
    obtain ⟨z, q, rfl, hz, h2⟩ := fitW_some h
    obtain ⟨zs, rfl, hl, hw⟩ := fitW_ints n q h2
    exact ⟨z :: zs, rfl, by simp [hl], fun y hy => by
      rcases List.mem_cons.1 hy with rfl | hy
      · exact hz
      · exact hw y hy⟩
/-- rows of integers alone. -/
theorem open_rows_int (c : Nat) {k : IntKind} {r : Reach} {b0 : Nat} {t e : TypeId} {v : Value} {d : DataW H} {ps : List MemPlace} (ht : P.underlying t = some (.slice e)) (he : shK P 20 e = some (List.replicate c (some k))) (hc : Nat.beq (P.cellsOf e) c = true) (h0 : Nat.blt 0 c = true)
    (hval : Value.okWide P W r b0 t v) (hd : DataW.Trod enc P W base (fun _ => true) held t v d ps) :
    ∃ (zs : List Int) (len cap : Nat) (p : Option Addr), v = .slice p len cap ∧ len * c ≤ zs.length ∧ (∀ n ∈ zs, (Lit.int k n).wf = true) ∧
      ∀ ρ : Rho, Rel (fun b => b < W.heap.size) W ρ (.fs (zs.map fun n => .v (.int k n)) 0 len c) (.slice p len cap) := by
  obtain ⟨vs, m, len, cap, p, rfl, h1, _, h3, h4, h5⟩ := open_rows ht he (by rw [List.length_replicate]; exact hc) (by rw [List.length_replicate]; exact Nat.lt_of_succ_le (Nat.le_of_ble_eq_true h0)) hval hd
  rw [List.flatten_replicate_replicate] at h4
  rw [List.length_replicate] at h3 h5
  obtain ⟨zs, rfl, hl, hw⟩ := fitW_ints _ vs h4
  refine ⟨zs, len, cap, p, rfl, ?_, hw, fun ρ => ?_⟩
  · rw [hl]; exact Nat.mul_le_mul_right _ h1
  · have := h5 ρ
    rw [List.map_map] at this
    exact this
end
end Go.Xv
/- The closed facts of the seat's program that its rows ask: its head as a row of letters, and what is read off it. -/
namespace Go.Proofs.YtdchhmffiiedmaaGreat.base
open Go.ChangeShapes Go.WideShapes Go.ChangeAt Go.RowKit Go.Xv
set_option maxRecDepth 100000
def rest : List Char := [Char.ofNat 97, Char.ofNat 116, Char.ofNat 32, Char.ofNat 112, Char.ofNat 101, Char.ofNat 108, Char.ofNat 111, Char.ofNat 114, Char.ofNat 117, Char.ofNat 115, Char.ofNat 47, Char.ofNat 112, Char.ofNat 101, Char.ofNat 108, Char.ofNat 111, Char.ofNat 114, Char.ofNat 117, Char.ofNat 115, Char.ofNat 108, Char.ofNat 97, Char.ofNat 119, Char.ofNat 50, Char.ofNat 57, Char.ofNat 46, Char.ofNat 78, Char.ofNat 97, Char.ofNat 118, Char.ofNat 80, Char.ofNat 108, Char.ofNat 97, Char.ofNat 121, Char.ofNat 115, Char.ofNat 32, Char.ofNat 112, Char.ofNat 101, Char.ofNat 108, Char.ofNat 111, Char.ofNat 114, Char.ofNat 117, Char.ofNat 115, Char.ofNat 47, Char.ofNat 112, Char.ofNat 101, Char.ofNat 108, Char.ofNat 111, Char.ofNat 114, Char.ofNat 117, Char.ofNat 115, Char.ofNat 108, Char.ofNat 97, Char.ofNat 119, Char.ofNat 50, Char.ofNat 57, Char.ofNat 46, Char.ofNat 78, Char.ofNat 97, Char.ofNat 118, Char.ofNat 86, Char.ofNat 111, Char.ofNat 105, Char.ofNat 100]
def sum : List Char := [Char.ofNat 100, Char.ofNat 100, Char.ofNat 51, Char.ofNat 57, Char.ofNat 98, Char.ofNat 100, Char.ofNat 48, Char.ofNat 56, Char.ofNat 53, Char.ofNat 97, Char.ofNat 100, Char.ofNat 51, Char.ofNat 57, Char.ofNat 53, Char.ofNat 49, Char.ofNat 50, Char.ofNat 57, Char.ofNat 57, Char.ofNat 51, Char.ofNat 56, Char.ofNat 55, Char.ofNat 49, Char.ofNat 49, Char.ofNat 50, Char.ofNat 99, Char.ofNat 101, Char.ofNat 50, Char.ofNat 50, Char.ofNat 102, Char.ofNat 50, Char.ofNat 57, Char.ofNat 50, Char.ofNat 53, Char.ofNat 100, Char.ofNat 53, Char.ofNat 55, Char.ofNat 56, Char.ofNat 98, Char.ofNat 50, Char.ofNat 101, Char.ofNat 55, Char.ofNat 99, Char.ofNat 55, Char.ofNat 50, Char.ofNat 51, Char.ofNat 102, Char.ofNat 56, Char.ofNat 55, Char.ofNat 98, Char.ofNat 51, Char.ofNat 52, Char.ofNat 57, Char.ofNat 52, Char.ofNat 53, Char.ofNat 54, Char.ofNat 52, Char.ofNat 56, Char.ofNat 57, Char.ofNat 56, Char.ofNat 56, Char.ofNat 51, Char.ofNat 101, Char.ofNat 99, Char.ofNat 55]
def signs : List Char := [Char.ofNat 104, Char.ofNat 97, Char.ofNat 114, Char.ofNat 110, Char.ofNat 101, Char.ofNat 115, Char.ofNat 115] ++ (Char.ofNat 32 :: (sum ++ (Char.ofNat 32 :: ([Char.ofNat 99, Char.ofNat 117, Char.ofNat 116] ++ (Char.ofNat 32 :: rest)))))
theorem io : Tryz.prog.initOrder.toList = signs :=
  (congrArg String.toList (show Tryz.prog.initOrder = String.ofList signs by kernel_rfl)).trans String.toList_ofList
theorem first : wordsSigns signs = [Char.ofNat 104, Char.ofNat 97, Char.ofNat 114, Char.ofNat 110, Char.ofNat 101, Char.ofNat 115, Char.ofNat 115] :: sum :: cutW :: wordsSigns rest := by kernel_rfl
theorem sumOK : isSumSigns sum = true := by kernel_rfl
theorem behind : behindMainWord (wordsSigns Tryz.prog.initOrder.toList) = cutW :: wordsSigns rest := behind_of io first sumOK
theorem enter_ : Tryz.prog.mayEnter = true := enter_of behind (by kernel_rfl) (by kernel_rfl) (by kernel_rfl)
theorem own : ownKnob Tryz.prog.godebug = none := by kernel_rfl
theorem laidOut : laidOutB Tryz.prog = true := by kernel_rfl
end Go.Proofs.YtdchhmffiiedmaaGreat.base
