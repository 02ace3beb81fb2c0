/- A slice of integers that comes in as an argument: what it holds. -/
import Derived.Test.YtpcblnkllakejaaA2
import Derived.ChangeSlices
import Derived.ChangeOld
/- A slice of integers that comes in: what it holds. -/
namespace Go.Xv
open Go.RowKit Go.WideShapes Go.ChangeShapes
section
variable {H : Type} {enc : TypeId × Value → H} {P : Program} {W : World} {base : Nat} {held : Bool}
theorem open_row {r : Reach} {b0 : Nat} {t e : TypeId} {k : IntKind} {v : Value} {d : DataW H} {ps : List MemPlace} (ht : P.underlying t = some (.slice e)) (he : P.underlying e = some (.int k)) (hc : P.cellsOf e = 1)
    (hval : Value.okWide P W r b0 t v) (hd : DataW.Trod enc P W base (fun _ => true) held t v d ps) :
    ∃ (zs : List Int) (len cap : Nat) (p : Option Addr), v = .slice p len cap ∧ len ≤ zs.length ∧ zs.length ≤ maxLen ∧ (∀ n ∈ zs, (Lit.int k n).wf = true) ∧
      ∀ ρ : Rho, Rel (fun b => b < W.heap.size) W ρ (.fs (zs.map fun n => .v (.int k n)) 0 len 1) (.slice p len cap) := by
  obtain ⟨a, len, cap, rfl⟩ := okWide_slice ht hval
  obtain ⟨fuel, hf⟩ := hd
  rcases open_ints ht he hc hf with ⟨hcs, _⟩ | ⟨x, l, c, zs, hcs, _, hl, hm, hz, _, hcell, hwz⟩
  · simp [Value.cells] at hcs
    obtain ⟨rfl, rfl, rfl⟩ := hcs
    refine ⟨[], 0, 0, none, rfl, by simp, by simp [maxLen], by simp, fun ρ => ?_⟩
    exact Rel.fs ρ [] 0 0 1 0 0 0 none (fun _ => undef) (by omega) (by omega) (by simp) (by simp) (by simp)
  · simp [Value.cells] at hcs
    obtain ⟨rfl, rfl, rfl⟩ := hcs
    have hzc : zs.length = cap := by simpa using hz
    refine ⟨zs, len, cap, some x, rfl, by omega, by omega, hwz, fun ρ => ?_⟩
    obtain ⟨b, off, spot⟩ := x
    have hspot : 0 < cap → spot = none := by
      intro h
      have h0 := hcell 0 (by omega)
      simpa [Addr.add] using World.cell?_spot h0
    have hget : ∀ (i : Nat) (y : VV), (zs.map fun n => VV.v (.int k n))[i]? = some y → i < zs.length ∧ y = .v (.int k (zs.getD i 0)) := by
      intro i y hy
      rw [List.getElem?_map] at hy
      cases hi : zs[i]? with
      | none => rw [hi] at hy; cases hy
      | some n =>
        rw [hi] at hy
        cases hy
        have hlt := (List.getElem?_eq_some_iff.1 hi).1
        exact ⟨hlt, by rw [List.getD_eq_getElem?_getD, hi]; rfl⟩
    have hc' : ∀ i, i < zs.length → W.cell? ⟨b, off + i, none⟩ = some (.int k (zs.getD i 0)) := by
      intro i hi
      have hs := hspot (by omega)
      have := hcell i hi
      subst hs
      have e : (⟨b, off, none⟩ : Addr).add i = ⟨b, off + i, none⟩ := by
        by_cases h0 : i = 0
        · subst h0; simp [Addr.add]
        · simp [Addr.add, h0]
      rw [e] at this
      exact this
    refine Rel.fs ρ _ 0 len 1 b off cap (some ⟨b, off, spot⟩) (fun i => .int k (zs.getD i 0)) hl (fun h => by rw [hspot h]; rfl) ?_ ?_ ?_
    · intro i y hy
      exact World.block_lt_of_cell? W _ (hc' i (hget i y hy).1)
    · intro i y hy
      exact ⟨hc' i (hget i y hy).1, rfl⟩
    · intro i y hy
      exact (hget i y hy).2
end
end Go.Xv
