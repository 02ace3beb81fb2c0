/-
  No cell of these rows narrows 'for every input' (looked for: loops, veiled, ifaces, maps, wideKeys, modest, calm, conditions, laid).
  DERIVED. THE GIVEN ROWS OF THIS SEAT. 6 by the template 'for every input the law returns true; each argument reads behind the call as it read before'; 0 by the template 'total and deterministic' (their statements: YtiahhalhbacgaaaTotals.lean).
  GIVEN WITH THE SEED: the statements are not yours to turn. If you find one false, say at which input.
  Laid BY PROGRAM, IN A SANDBOX (cutbox-rows.mjs): the forced cells as the released guide's own fill.sh prints them over the translation 6c9f825aa7427a37… (all of the seat's roots in one cut). By AI agents, Wed Nov 11 2026. No macro, syntax, notation, axiom, sorry.
-/
import Derived.Test.YtiahhalhbacgaaaChecked
import GoSem.Claim
import GoSem.ClaimJoined
import GoSem.ClaimMapViews
import Derived.JoinedTies
import Derived.KernelRfl
namespace Go.Proofs.Ytiahhalhbacgaaa
/- THE CELL 'sum', in the pinned program and in every row, IS THE sha256 OF THE DUMP (.gsa) THAT YtiahhalhbacgaaaProg.lean LOADS. Nothing in Lean hashes anything: it is a label: what it is worth is what the hold of that sum in a sandbox is worth. -/
noncomputable def Try.pinned : Pinned := { name := "ytiahhalhbacgaaa", sum := "6c9f825aa7427a37ea96f69ad2ee4943744b4d998cc02fe877641564340b98b6", checked := Try.checked }
namespace Rows
def none {H : Type} : Left H := { results := [], args := [] }

/-- 'peloruslaw28.FuseComes': WHATEVER THE INPUT: true; the input reads as it did. -/
def fuseComesSpec : ChangeSpec := { name := "fuseComes", fn := fun _ => fun
  | [d1, d2, d3] => { results := [.lit (.bool true)], args := [d1, d2, d3] }
  | _ => none }
def fuseComesRow : OpenClaim := { program := "ytiahhalhbacgaaa", sum := "6c9f825aa7427a37ea96f69ad2ee4943744b4d998cc02fe877641564340b98b6", func := "pelorus/peloruslaw28.FuseComes", spec := "fuseComes", unfollowed := true, recurses := true, apart := false }
def FuseComesSaid : Prop := fuseComesRow.holds Try.pinned (OpenSpec.ofChange fuseComesSpec)

/-- ITS FALSE NEIGHBOUR: 'it returns false'. Refute it at one input. -/
def fuseComesWrong : ChangeSpec := { name := "fuseComes", fn := fun _ => fun
  | [d1, d2, d3] => { results := [.lit (.bool false)], args := [d1, d2, d3] }
  | _ => none }
def FuseComesWrongFalsely : Prop := fuseComesRow.holds Try.pinned (OpenSpec.ofChange fuseComesWrong)

/-- 'peloruslaw28.FuseTells': WHATEVER THE INPUT: true; the input reads as it did. -/
def fuseTellsSpec : ChangeSpec := { name := "fuseTells", fn := fun _ => fun
  | [d1, d2, d3, d4, d5, d6] => { results := [.lit (.bool true)], args := [d1, d2, d3, d4, d5, d6] }
  | _ => none }
def fuseTellsRow : OpenClaim := { program := "ytiahhalhbacgaaa", sum := "6c9f825aa7427a37ea96f69ad2ee4943744b4d998cc02fe877641564340b98b6", func := "pelorus/peloruslaw28.FuseTells", spec := "fuseTells", unfollowed := true, recurses := true, apart := false }
def FuseTellsSaid : Prop := fuseTellsRow.holds Try.pinned (OpenSpec.ofChange fuseTellsSpec)

/-- ITS FALSE NEIGHBOUR: 'it returns false'. Refute it at one input. -/
def fuseTellsWrong : ChangeSpec := { name := "fuseTells", fn := fun _ => fun
  | [d1, d2, d3, d4, d5, d6] => { results := [.lit (.bool false)], args := [d1, d2, d3, d4, d5, d6] }
  | _ => none }
def FuseTellsWrongFalsely : Prop := fuseTellsRow.holds Try.pinned (OpenSpec.ofChange fuseTellsWrong)

/-- 'peloruslaw28.FuseBounded': WHATEVER THE INPUT: true; the input reads as it did. -/
def fuseBoundedSpec : ChangeSpec := { name := "fuseBounded", fn := fun _ => fun
  | [d1, d2, d3] => { results := [.lit (.bool true)], args := [d1, d2, d3] }
  | _ => none }
def fuseBoundedRow : OpenClaim := { program := "ytiahhalhbacgaaa", sum := "6c9f825aa7427a37ea96f69ad2ee4943744b4d998cc02fe877641564340b98b6", func := "pelorus/peloruslaw28.FuseBounded", spec := "fuseBounded", unfollowed := true, recurses := true, apart := false }
def FuseBoundedSaid : Prop := fuseBoundedRow.holds Try.pinned (OpenSpec.ofChange fuseBoundedSpec)

/-- ITS FALSE NEIGHBOUR: 'it returns false'. Refute it at one input. -/
def fuseBoundedWrong : ChangeSpec := { name := "fuseBounded", fn := fun _ => fun
  | [d1, d2, d3] => { results := [.lit (.bool false)], args := [d1, d2, d3] }
  | _ => none }
def FuseBoundedWrongFalsely : Prop := fuseBoundedRow.holds Try.pinned (OpenSpec.ofChange fuseBoundedWrong)

/-- 'peloruslaw28.FuseFades': WHATEVER THE INPUT: true; the input reads as it did. -/
def fuseFadesSpec : ChangeSpec := { name := "fuseFades", fn := fun _ => fun
  | [d1, d2, d3, d4] => { results := [.lit (.bool true)], args := [d1, d2, d3, d4] }
  | _ => none }
def fuseFadesRow : OpenClaim := { program := "ytiahhalhbacgaaa", sum := "6c9f825aa7427a37ea96f69ad2ee4943744b4d998cc02fe877641564340b98b6", func := "pelorus/peloruslaw28.FuseFades", spec := "fuseFades", unfollowed := true, recurses := true, apart := false }
def FuseFadesSaid : Prop := fuseFadesRow.holds Try.pinned (OpenSpec.ofChange fuseFadesSpec)

/-- ITS FALSE NEIGHBOUR: 'it returns false'. Refute it at one input. -/
def fuseFadesWrong : ChangeSpec := { name := "fuseFades", fn := fun _ => fun
  | [d1, d2, d3, d4] => { results := [.lit (.bool false)], args := [d1, d2, d3, d4] }
  | _ => none }
def FuseFadesWrongFalsely : Prop := fuseFadesRow.holds Try.pinned (OpenSpec.ofChange fuseFadesWrong)

/-- 'peloruslaw27.AttTurns': WHATEVER THE INPUT: true; the input reads as it did. -/
def attTurnsSpec : ChangeSpec := { name := "attTurns", fn := fun _ => fun
  | [d1, d2] => { results := [.lit (.bool true)], args := [d1, d2] }
  | _ => none }
def attTurnsRow : OpenClaim := { program := "ytiahhalhbacgaaa", sum := "6c9f825aa7427a37ea96f69ad2ee4943744b4d998cc02fe877641564340b98b6", func := "pelorus/peloruslaw27.AttTurns", spec := "attTurns", unfollowed := true, recurses := true, apart := false }
def AttTurnsSaid : Prop := attTurnsRow.holds Try.pinned (OpenSpec.ofChange attTurnsSpec)

/-- ITS FALSE NEIGHBOUR: 'it returns false'. Refute it at one input. -/
def attTurnsWrong : ChangeSpec := { name := "attTurns", fn := fun _ => fun
  | [d1, d2] => { results := [.lit (.bool false)], args := [d1, d2] }
  | _ => none }
def AttTurnsWrongFalsely : Prop := attTurnsRow.holds Try.pinned (OpenSpec.ofChange attTurnsWrong)

/-- 'peloruslaw27.AttUpright': WHATEVER THE INPUT: true; the input reads as it did. -/
def attUprightSpec : ChangeSpec := { name := "attUpright", fn := fun _ => fun
  | [d1, d2] => { results := [.lit (.bool true)], args := [d1, d2] }
  | _ => none }
def attUprightRow : OpenClaim := { program := "ytiahhalhbacgaaa", sum := "6c9f825aa7427a37ea96f69ad2ee4943744b4d998cc02fe877641564340b98b6", func := "pelorus/peloruslaw27.AttUpright", spec := "attUpright", unfollowed := true, recurses := true, apart := false }
def AttUprightSaid : Prop := attUprightRow.holds Try.pinned (OpenSpec.ofChange attUprightSpec)

/-- ITS FALSE NEIGHBOUR: 'it returns false'. Refute it at one input. -/
def attUprightWrong : ChangeSpec := { name := "attUpright", fn := fun _ => fun
  | [d1, d2] => { results := [.lit (.bool false)], args := [d1, d2] }
  | _ => none }
def AttUprightWrongFalsely : Prop := attUprightRow.holds Try.pinned (OpenSpec.ofChange attUprightWrong)

/- THE SECOND FORM. 'bulk': how many values and letters a reading holds, each counted each time it is reached (what is shared counts as often as it is met; a slice's spare places count too). A statement '..UptoSaid' is the law's where the arguments, and the package variables that the reading takes, are together of bulk at most 1048576: NARROWER than '..Said'. Prove '..Said' where nothing that the law and all that it calls make is longer than what came in: it says more and counts as full. Else prove '..UptoSaid'. A law counts once. -/
mutual
def uptoBulk {H : Type} : DataW H → Nat
  | .lit (.string bytes) => bytes.length + 1
  | .lit _ => 1
  | .nil => 1
  | .ptr d => uptoBulk d + 1
  | .slice elems spare => uptoBulkAll elems + uptoBulkAll spare + 1
  | .agg parts => uptoBulkAll parts + 1
  | .iface _ d => uptoBulk d + 1
  | .map entries => uptoBulkEntries entries + 1
  | .held _ => 1
def uptoBulkAll {H : Type} : List (DataW H) → Nat
  | [] => 0
  | d :: r => uptoBulk d + uptoBulkAll r
def uptoBulkEntries {H : Type} : List (Lit × DataW H) → Nat
  | [] => 0
  | x :: r => uptoBulkEntry x + uptoBulkEntries r
def uptoBulkEntry {H : Type} : Lit × DataW H → Nat
  | (.string bytes, d) => bytes.length + uptoBulk d + 1
  | (_, d) => uptoBulk d + 1
 end
def uptoSmall : (H : Type) → List (DataW H) → Bool := fun _ ds => decide (uptoBulkAll ds ≤ 1048576)
def OpenSpec.upto (s : _root_.Go.ChangeSpec) : _root_.Go.OpenSpec := { _root_.Go.OpenSpec.ofChange s with cond := some uptoSmall }

/-- 'peloruslaw28.FuseComes', WHERE WHAT IT READS IS OF BULK AT MOST 1048576: true; the input reads as it did. -/
def fuseComesUptoRow : OpenClaim := { program := "ytiahhalhbacgaaa", sum := "6c9f825aa7427a37ea96f69ad2ee4943744b4d998cc02fe877641564340b98b6", func := "pelorus/peloruslaw28.FuseComes", spec := "fuseComes", unfollowed := true, recurses := true, apart := false, narrowed := true }
def FuseComesUptoSaid : Prop := fuseComesUptoRow.holds Try.pinned (OpenSpec.upto fuseComesSpec)

/-- 'peloruslaw28.FuseTells', WHERE WHAT IT READS IS OF BULK AT MOST 1048576: true; the input reads as it did. -/
def fuseTellsUptoRow : OpenClaim := { program := "ytiahhalhbacgaaa", sum := "6c9f825aa7427a37ea96f69ad2ee4943744b4d998cc02fe877641564340b98b6", func := "pelorus/peloruslaw28.FuseTells", spec := "fuseTells", unfollowed := true, recurses := true, apart := false, narrowed := true }
def FuseTellsUptoSaid : Prop := fuseTellsUptoRow.holds Try.pinned (OpenSpec.upto fuseTellsSpec)

/-- 'peloruslaw28.FuseBounded', WHERE WHAT IT READS IS OF BULK AT MOST 1048576: true; the input reads as it did. -/
def fuseBoundedUptoRow : OpenClaim := { program := "ytiahhalhbacgaaa", sum := "6c9f825aa7427a37ea96f69ad2ee4943744b4d998cc02fe877641564340b98b6", func := "pelorus/peloruslaw28.FuseBounded", spec := "fuseBounded", unfollowed := true, recurses := true, apart := false, narrowed := true }
def FuseBoundedUptoSaid : Prop := fuseBoundedUptoRow.holds Try.pinned (OpenSpec.upto fuseBoundedSpec)

/-- 'peloruslaw28.FuseFades', WHERE WHAT IT READS IS OF BULK AT MOST 1048576: true; the input reads as it did. -/
def fuseFadesUptoRow : OpenClaim := { program := "ytiahhalhbacgaaa", sum := "6c9f825aa7427a37ea96f69ad2ee4943744b4d998cc02fe877641564340b98b6", func := "pelorus/peloruslaw28.FuseFades", spec := "fuseFades", unfollowed := true, recurses := true, apart := false, narrowed := true }
def FuseFadesUptoSaid : Prop := fuseFadesUptoRow.holds Try.pinned (OpenSpec.upto fuseFadesSpec)

/-- 'peloruslaw27.AttTurns', WHERE WHAT IT READS IS OF BULK AT MOST 1048576: true; the input reads as it did. -/
def attTurnsUptoRow : OpenClaim := { program := "ytiahhalhbacgaaa", sum := "6c9f825aa7427a37ea96f69ad2ee4943744b4d998cc02fe877641564340b98b6", func := "pelorus/peloruslaw27.AttTurns", spec := "attTurns", unfollowed := true, recurses := true, apart := false, narrowed := true }
def AttTurnsUptoSaid : Prop := attTurnsUptoRow.holds Try.pinned (OpenSpec.upto attTurnsSpec)

/-- 'peloruslaw27.AttUpright', WHERE WHAT IT READS IS OF BULK AT MOST 1048576: true; the input reads as it did. -/
def attUprightUptoRow : OpenClaim := { program := "ytiahhalhbacgaaa", sum := "6c9f825aa7427a37ea96f69ad2ee4943744b4d998cc02fe877641564340b98b6", func := "pelorus/peloruslaw27.AttUpright", spec := "attUpright", unfollowed := true, recurses := true, apart := false, narrowed := true }
def AttUprightUptoSaid : Prop := attUprightUptoRow.holds Try.pinned (OpenSpec.upto attUprightSpec)

end Rows
end Go.Proofs.Ytiahhalhbacgaaa
