/-
  No cell of these rows narrows 'for every input' (looked for: loops, veiled, ifaces, maps, wideKeys, modest, calm, conditions, laid).
  DERIVED. THE GIVEN ROWS OF THIS SEAT. 4 by the template 'for every input the law returns true; each argument reads behind the call as it read before'; 0 by the template 'total and deterministic' (their statements: YtjhnmpfaemhnhaaTotals.lean).
  GIVEN WITH THE SEED: the statements are not yours to turn. If you find one false, say at which input.
  Laid BY PROGRAM, IN A SANDBOX (cutbox-rows.mjs): the forced cells as the released guide's own fill.sh prints them over the translation e9c181c4a798c8ba… (all of the seat's roots in one cut). By AI agents, Wed Nov 11 2026. No macro, syntax, notation, axiom, sorry.
-/
import Derived.Test.YtjhnmpfaemhnhaaChecked
import GoSem.Claim
import GoSem.ClaimJoined
import GoSem.ClaimMapViews
import Derived.JoinedTies
import Derived.KernelRfl
namespace Go.Proofs.Ytjhnmpfaemhnhaa
/- THE CELL 'sum', in the pinned program and in every row, IS THE sha256 OF THE DUMP (.gsa) THAT YtjhnmpfaemhnhaaProg.lean LOADS. Nothing in Lean hashes anything: it is a label: what it is worth is what the hold of that sum in a sandbox is worth. -/
noncomputable def Try.pinned : Pinned := { name := "ytjhnmpfaemhnhaa", sum := "e9c181c4a798c8baea03cc03b930464017b63ae6a0b57460428d442831ede504", checked := Try.checked }
namespace Rows
def none {H : Type} : Left H := { results := [], args := [] }

/-- 'peloruslaw37.FenceTells': WHATEVER THE INPUT: true; the input reads as it did. -/
def fenceTellsSpec : ChangeSpec := { name := "fenceTells", fn := fun _ => fun
  | [d1, d2, d3] => { results := [.lit (.bool true)], args := [d1, d2, d3] }
  | _ => none }
def fenceTellsRow : OpenClaim := { program := "ytjhnmpfaemhnhaa", sum := "e9c181c4a798c8baea03cc03b930464017b63ae6a0b57460428d442831ede504", func := "pelorus/peloruslaw37.FenceTells", spec := "fenceTells", unfollowed := true, recurses := true, apart := false }
def FenceTellsSaid : Prop := fenceTellsRow.holds Try.pinned (OpenSpec.ofChange fenceTellsSpec)

/-- ITS FALSE NEIGHBOUR: 'it returns false'. Refute it at one input. -/
def fenceTellsWrong : ChangeSpec := { name := "fenceTells", fn := fun _ => fun
  | [d1, d2, d3] => { results := [.lit (.bool false)], args := [d1, d2, d3] }
  | _ => none }
def FenceTellsWrongFalsely : Prop := fenceTellsRow.holds Try.pinned (OpenSpec.ofChange fenceTellsWrong)

/-- 'peloruslaw37.FenceSure': WHATEVER THE INPUT: true; the input reads as it did. -/
def fenceSureSpec : ChangeSpec := { name := "fenceSure", fn := fun _ => fun
  | [d1, d2, d3, d4] => { results := [.lit (.bool true)], args := [d1, d2, d3, d4] }
  | _ => none }
def fenceSureRow : OpenClaim := { program := "ytjhnmpfaemhnhaa", sum := "e9c181c4a798c8baea03cc03b930464017b63ae6a0b57460428d442831ede504", func := "pelorus/peloruslaw37.FenceSure", spec := "fenceSure", unfollowed := true, recurses := true, apart := false }
def FenceSureSaid : Prop := fenceSureRow.holds Try.pinned (OpenSpec.ofChange fenceSureSpec)

/-- ITS FALSE NEIGHBOUR: 'it returns false'. Refute it at one input. -/
def fenceSureWrong : ChangeSpec := { name := "fenceSure", fn := fun _ => fun
  | [d1, d2, d3, d4] => { results := [.lit (.bool false)], args := [d1, d2, d3, d4] }
  | _ => none }
def FenceSureWrongFalsely : Prop := fenceSureRow.holds Try.pinned (OpenSpec.ofChange fenceSureWrong)

/-- 'peloruslaw37.FenceMoved': WHATEVER THE INPUT: true; the input reads as it did. -/
def fenceMovedSpec : ChangeSpec := { name := "fenceMoved", fn := fun _ => fun
  | [d1, d2, d3, d4, d5] => { results := [.lit (.bool true)], args := [d1, d2, d3, d4, d5] }
  | _ => none }
def fenceMovedRow : OpenClaim := { program := "ytjhnmpfaemhnhaa", sum := "e9c181c4a798c8baea03cc03b930464017b63ae6a0b57460428d442831ede504", func := "pelorus/peloruslaw37.FenceMoved", spec := "fenceMoved", unfollowed := true, recurses := true, apart := false }
def FenceMovedSaid : Prop := fenceMovedRow.holds Try.pinned (OpenSpec.ofChange fenceMovedSpec)

/-- ITS FALSE NEIGHBOUR: 'it returns false'. Refute it at one input. -/
def fenceMovedWrong : ChangeSpec := { name := "fenceMoved", fn := fun _ => fun
  | [d1, d2, d3, d4, d5] => { results := [.lit (.bool false)], args := [d1, d2, d3, d4, d5] }
  | _ => none }
def FenceMovedWrongFalsely : Prop := fenceMovedRow.holds Try.pinned (OpenSpec.ofChange fenceMovedWrong)

/-- 'peloruslaw37.FenceWorst': WHATEVER THE INPUT: true; the input reads as it did. -/
def fenceWorstSpec : ChangeSpec := { name := "fenceWorst", fn := fun _ => fun
  | [d1, d2, d3] => { results := [.lit (.bool true)], args := [d1, d2, d3] }
  | _ => none }
def fenceWorstRow : OpenClaim := { program := "ytjhnmpfaemhnhaa", sum := "e9c181c4a798c8baea03cc03b930464017b63ae6a0b57460428d442831ede504", func := "pelorus/peloruslaw37.FenceWorst", spec := "fenceWorst", unfollowed := true, recurses := true, apart := false }
def FenceWorstSaid : Prop := fenceWorstRow.holds Try.pinned (OpenSpec.ofChange fenceWorstSpec)

/-- ITS FALSE NEIGHBOUR: 'it returns false'. Refute it at one input. -/
def fenceWorstWrong : ChangeSpec := { name := "fenceWorst", fn := fun _ => fun
  | [d1, d2, d3] => { results := [.lit (.bool false)], args := [d1, d2, d3] }
  | _ => none }
def FenceWorstWrongFalsely : Prop := fenceWorstRow.holds Try.pinned (OpenSpec.ofChange fenceWorstWrong)

/- THE SECOND FORM. 'bulk': how many values and letters a reading holds, each counted each time it is reached (what is shared counts as often as it is met; a slice's spare places count too). A statement '..UptoSaid' is the law's where the arguments, and the package variables that the reading takes, are together of bulk at most 1048576: NARROWER than '..Said'. Prove '..Said' where nothing that the law and all that it calls make is longer than what came in: it says more and counts as full. Else prove '..UptoSaid'. A law counts once. -/
mutual
def uptoBulk {H : Type} : DataW H → Nat
  | .lit (.string bytes) => bytes.length + 1
  | .lit _ => 1
  | .nil => 1
  | .ptr d => uptoBulk d + 1
  | .slice elems spare => uptoBulkAll elems + uptoBulkAll spare + 1
  | .agg parts => uptoBulkAll parts + 1
  | .iface _ d => uptoBulk d + 1
  | .map entries => uptoBulkEntries entries + 1
  | .held _ => 1
def uptoBulkAll {H : Type} : List (DataW H) → Nat
  | [] => 0
  | d :: r => uptoBulk d + uptoBulkAll r
def uptoBulkEntries {H : Type} : List (Lit × DataW H) → Nat
  | [] => 0
  | x :: r => uptoBulkEntry x + uptoBulkEntries r
def uptoBulkEntry {H : Type} : Lit × DataW H → Nat
  | (.string bytes, d) => bytes.length + uptoBulk d + 1
  | (_, d) => uptoBulk d + 1
 end
def uptoSmall : (H : Type) → List (DataW H) → Bool := fun _ ds => decide (uptoBulkAll ds ≤ 1048576)
def OpenSpec.upto (s : _root_.Go.ChangeSpec) : _root_.Go.OpenSpec := { _root_.Go.OpenSpec.ofChange s with cond := some uptoSmall }

/-- 'peloruslaw37.FenceTells', WHERE WHAT IT READS IS OF BULK AT MOST 1048576: true; the input reads as it did. -/
def fenceTellsUptoRow : OpenClaim := { program := "ytjhnmpfaemhnhaa", sum := "e9c181c4a798c8baea03cc03b930464017b63ae6a0b57460428d442831ede504", func := "pelorus/peloruslaw37.FenceTells", spec := "fenceTells", unfollowed := true, recurses := true, apart := false, narrowed := true }
def FenceTellsUptoSaid : Prop := fenceTellsUptoRow.holds Try.pinned (OpenSpec.upto fenceTellsSpec)

/-- 'peloruslaw37.FenceSure', WHERE WHAT IT READS IS OF BULK AT MOST 1048576: true; the input reads as it did. -/
def fenceSureUptoRow : OpenClaim := { program := "ytjhnmpfaemhnhaa", sum := "e9c181c4a798c8baea03cc03b930464017b63ae6a0b57460428d442831ede504", func := "pelorus/peloruslaw37.FenceSure", spec := "fenceSure", unfollowed := true, recurses := true, apart := false, narrowed := true }
def FenceSureUptoSaid : Prop := fenceSureUptoRow.holds Try.pinned (OpenSpec.upto fenceSureSpec)

/-- 'peloruslaw37.FenceMoved', WHERE WHAT IT READS IS OF BULK AT MOST 1048576: true; the input reads as it did. -/
def fenceMovedUptoRow : OpenClaim := { program := "ytjhnmpfaemhnhaa", sum := "e9c181c4a798c8baea03cc03b930464017b63ae6a0b57460428d442831ede504", func := "pelorus/peloruslaw37.FenceMoved", spec := "fenceMoved", unfollowed := true, recurses := true, apart := false, narrowed := true }
def FenceMovedUptoSaid : Prop := fenceMovedUptoRow.holds Try.pinned (OpenSpec.upto fenceMovedSpec)

/-- 'peloruslaw37.FenceWorst', WHERE WHAT IT READS IS OF BULK AT MOST 1048576: true; the input reads as it did. -/
def fenceWorstUptoRow : OpenClaim := { program := "ytjhnmpfaemhnhaa", sum := "e9c181c4a798c8baea03cc03b930464017b63ae6a0b57460428d442831ede504", func := "pelorus/peloruslaw37.FenceWorst", spec := "fenceWorst", unfollowed := true, recurses := true, apart := false, narrowed := true }
def FenceWorstUptoSaid : Prop := fenceWorstUptoRow.holds Try.pinned (OpenSpec.upto fenceWorstSpec)

end Rows
end Go.Proofs.Ytjhnmpfaemhnhaa
