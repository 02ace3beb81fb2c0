/-
  No cell of these rows narrows 'for every input' (looked for: loops, veiled, ifaces, maps, wideKeys, modest, calm, conditions, laid).
  DERIVED. THE GIVEN ROWS OF THIS SEAT. 19 by the template 'for every input the law returns true; each argument reads behind the call as it read before'; 0 by the template 'total and deterministic' (their statements: YtpnggkefjgpleaaTotals.lean).
  GIVEN WITH THE SEED: the statements are not yours to turn. If you find one false, say at which input.
  Laid BY PROGRAM, IN A SANDBOX (cutbox-rows.mjs): the forced cells as the released guide's own fill.sh prints them over the translation c367d15482cebdfb… (all of the seat's roots in one cut). By AI agents, Wed Nov 11 2026. No macro, syntax, notation, axiom, sorry.
-/
import Derived.Test.YtpnggkefjgpleaaChecked
import GoSem.Claim
import GoSem.ClaimJoined
import GoSem.ClaimMapViews
import Derived.JoinedTies
import Derived.KernelRfl
namespace Go.Proofs.Ytpnggkefjgpleaa
/- THE CELL 'sum', in the pinned program and in every row, IS THE sha256 OF THE DUMP (.gsa) THAT YtpnggkefjgpleaaProg.lean LOADS. Nothing in Lean hashes anything: it is a label: what it is worth is what the hold of that sum in a sandbox is worth. -/
noncomputable def Try.pinned : Pinned := { name := "ytpnggkefjgpleaa", sum := "c367d15482cebdfb7fbef020ee37252f9568e09ac583170ebe24b75e949294fd", checked := Try.checked }
namespace Rows
def none {H : Type} : Left H := { results := [], args := [] }

/-- 'peloruslaw06.VecLength': WHATEVER THE INPUT: true; the input reads as it did. -/
def vecLengthSpec : ChangeSpec := { name := "vecLength", fn := fun _ => fun
  | [d] => { results := [.lit (.bool true)], args := [d] }
  | _ => none }
def vecLengthRow : OpenClaim := { program := "ytpnggkefjgpleaa", sum := "c367d15482cebdfb7fbef020ee37252f9568e09ac583170ebe24b75e949294fd", func := "pelorus/peloruslaw06.VecLength", spec := "vecLength", apart := false }
def VecLengthSaid : Prop := vecLengthRow.holds Try.pinned (OpenSpec.ofChange vecLengthSpec)

/-- ITS FALSE NEIGHBOUR: 'it returns false'. Refute it at one input. -/
def vecLengthWrong : ChangeSpec := { name := "vecLength", fn := fun _ => fun
  | [d] => { results := [.lit (.bool false)], args := [d] }
  | _ => none }
def VecLengthWrongFalsely : Prop := vecLengthRow.holds Try.pinned (OpenSpec.ofChange vecLengthWrong)

/-- 'peloruslaw05.TurnBoth': WHATEVER THE INPUT: true; the input reads as it did. -/
def turnBothSpec : ChangeSpec := { name := "turnBoth", fn := fun _ => fun
  | [d] => { results := [.lit (.bool true)], args := [d] }
  | _ => none }
def turnBothRow : OpenClaim := { program := "ytpnggkefjgpleaa", sum := "c367d15482cebdfb7fbef020ee37252f9568e09ac583170ebe24b75e949294fd", func := "pelorus/peloruslaw05.TurnBoth", spec := "turnBoth", apart := false }
def TurnBothSaid : Prop := turnBothRow.holds Try.pinned (OpenSpec.ofChange turnBothSpec)

/-- ITS FALSE NEIGHBOUR: 'it returns false'. Refute it at one input. -/
def turnBothWrong : ChangeSpec := { name := "turnBoth", fn := fun _ => fun
  | [d] => { results := [.lit (.bool false)], args := [d] }
  | _ => none }
def TurnBothWrongFalsely : Prop := turnBothRow.holds Try.pinned (OpenSpec.ofChange turnBothWrong)

/-- 'peloruslaw05.TurnAngle': WHATEVER THE INPUT: true; the input reads as it did. -/
def turnAngleSpec : ChangeSpec := { name := "turnAngle", fn := fun _ => fun
  | [d1, d2] => { results := [.lit (.bool true)], args := [d1, d2] }
  | _ => none }
def turnAngleRow : OpenClaim := { program := "ytpnggkefjgpleaa", sum := "c367d15482cebdfb7fbef020ee37252f9568e09ac583170ebe24b75e949294fd", func := "pelorus/peloruslaw05.TurnAngle", spec := "turnAngle", apart := false }
def TurnAngleSaid : Prop := turnAngleRow.holds Try.pinned (OpenSpec.ofChange turnAngleSpec)

/-- ITS FALSE NEIGHBOUR: 'it returns false'. Refute it at one input. -/
def turnAngleWrong : ChangeSpec := { name := "turnAngle", fn := fun _ => fun
  | [d1, d2] => { results := [.lit (.bool false)], args := [d1, d2] }
  | _ => none }
def TurnAngleWrongFalsely : Prop := turnAngleRow.holds Try.pinned (OpenSpec.ofChange turnAngleWrong)

/-- 'peloruslaw05.TurnAround': WHATEVER THE INPUT: true; the input reads as it did. -/
def turnAroundSpec : ChangeSpec := { name := "turnAround", fn := fun _ => fun
  | [d] => { results := [.lit (.bool true)], args := [d] }
  | _ => none }
def turnAroundRow : OpenClaim := { program := "ytpnggkefjgpleaa", sum := "c367d15482cebdfb7fbef020ee37252f9568e09ac583170ebe24b75e949294fd", func := "pelorus/peloruslaw05.TurnAround", spec := "turnAround", apart := false }
def TurnAroundSaid : Prop := turnAroundRow.holds Try.pinned (OpenSpec.ofChange turnAroundSpec)

/-- ITS FALSE NEIGHBOUR: 'it returns false'. Refute it at one input. -/
def turnAroundWrong : ChangeSpec := { name := "turnAround", fn := fun _ => fun
  | [d] => { results := [.lit (.bool false)], args := [d] }
  | _ => none }
def TurnAroundWrongFalsely : Prop := turnAroundRow.holds Try.pinned (OpenSpec.ofChange turnAroundWrong)

/-- 'peloruslaw05.TurnUnit': WHATEVER THE INPUT: true; the input reads as it did. -/
def turnUnitSpec : ChangeSpec := { name := "turnUnit", fn := fun _ => fun
  | [d] => { results := [.lit (.bool true)], args := [d] }
  | _ => none }
def turnUnitRow : OpenClaim := { program := "ytpnggkefjgpleaa", sum := "c367d15482cebdfb7fbef020ee37252f9568e09ac583170ebe24b75e949294fd", func := "pelorus/peloruslaw05.TurnUnit", spec := "turnUnit", apart := false }
def TurnUnitSaid : Prop := turnUnitRow.holds Try.pinned (OpenSpec.ofChange turnUnitSpec)

/-- ITS FALSE NEIGHBOUR: 'it returns false'. Refute it at one input. -/
def turnUnitWrong : ChangeSpec := { name := "turnUnit", fn := fun _ => fun
  | [d] => { results := [.lit (.bool false)], args := [d] }
  | _ => none }
def TurnUnitWrongFalsely : Prop := turnUnitRow.holds Try.pinned (OpenSpec.ofChange turnUnitWrong)

/-- 'peloruslaw05.TurnBack': WHATEVER THE INPUT: true; the input reads as it did. -/
def turnBackSpec : ChangeSpec := { name := "turnBack", fn := fun _ => fun
  | [d] => { results := [.lit (.bool true)], args := [d] }
  | _ => none }
def turnBackRow : OpenClaim := { program := "ytpnggkefjgpleaa", sum := "c367d15482cebdfb7fbef020ee37252f9568e09ac583170ebe24b75e949294fd", func := "pelorus/peloruslaw05.TurnBack", spec := "turnBack", apart := false }
def TurnBackSaid : Prop := turnBackRow.holds Try.pinned (OpenSpec.ofChange turnBackSpec)

/-- ITS FALSE NEIGHBOUR: 'it returns false'. Refute it at one input. -/
def turnBackWrong : ChangeSpec := { name := "turnBack", fn := fun _ => fun
  | [d] => { results := [.lit (.bool false)], args := [d] }
  | _ => none }
def TurnBackWrongFalsely : Prop := turnBackRow.holds Try.pinned (OpenSpec.ofChange turnBackWrong)

/-- 'peloruslaw05.TurnLength': WHATEVER THE INPUT: true; the input reads as it did. -/
def turnLengthSpec : ChangeSpec := { name := "turnLength", fn := fun _ => fun
  | [d1, d2] => { results := [.lit (.bool true)], args := [d1, d2] }
  | _ => none }
def turnLengthRow : OpenClaim := { program := "ytpnggkefjgpleaa", sum := "c367d15482cebdfb7fbef020ee37252f9568e09ac583170ebe24b75e949294fd", func := "pelorus/peloruslaw05.TurnLength", spec := "turnLength", apart := false }
def TurnLengthSaid : Prop := turnLengthRow.holds Try.pinned (OpenSpec.ofChange turnLengthSpec)

/-- ITS FALSE NEIGHBOUR: 'it returns false'. Refute it at one input. -/
def turnLengthWrong : ChangeSpec := { name := "turnLength", fn := fun _ => fun
  | [d1, d2] => { results := [.lit (.bool false)], args := [d1, d2] }
  | _ => none }
def TurnLengthWrongFalsely : Prop := turnLengthRow.holds Try.pinned (OpenSpec.ofChange turnLengthWrong)

/-- 'peloruslaw06.VecWithin': WHATEVER THE INPUT: true; the input reads as it did. -/
def vecWithinSpec : ChangeSpec := { name := "vecWithin", fn := fun _ => fun
  | [d1, d2] => { results := [.lit (.bool true)], args := [d1, d2] }
  | _ => none }
def vecWithinRow : OpenClaim := { program := "ytpnggkefjgpleaa", sum := "c367d15482cebdfb7fbef020ee37252f9568e09ac583170ebe24b75e949294fd", func := "pelorus/peloruslaw06.VecWithin", spec := "vecWithin", unfollowed := true, recurses := true, apart := false }
def VecWithinSaid : Prop := vecWithinRow.holds Try.pinned (OpenSpec.ofChange vecWithinSpec)

/-- ITS FALSE NEIGHBOUR: 'it returns false'. Refute it at one input. -/
def vecWithinWrong : ChangeSpec := { name := "vecWithin", fn := fun _ => fun
  | [d1, d2] => { results := [.lit (.bool false)], args := [d1, d2] }
  | _ => none }
def VecWithinWrongFalsely : Prop := vecWithinRow.holds Try.pinned (OpenSpec.ofChange vecWithinWrong)

/-- 'peloruslaw05.TurnTells': WHATEVER THE INPUT: true; the input reads as it did. -/
def turnTellsSpec : ChangeSpec := { name := "turnTells", fn := fun _ => fun
  | [d1, d2] => { results := [.lit (.bool true)], args := [d1, d2] }
  | _ => none }
def turnTellsRow : OpenClaim := { program := "ytpnggkefjgpleaa", sum := "c367d15482cebdfb7fbef020ee37252f9568e09ac583170ebe24b75e949294fd", func := "pelorus/peloruslaw05.TurnTells", spec := "turnTells", apart := false }
def TurnTellsSaid : Prop := turnTellsRow.holds Try.pinned (OpenSpec.ofChange turnTellsSpec)

/-- ITS FALSE NEIGHBOUR: 'it returns false'. Refute it at one input. -/
def turnTellsWrong : ChangeSpec := { name := "turnTells", fn := fun _ => fun
  | [d1, d2] => { results := [.lit (.bool false)], args := [d1, d2] }
  | _ => none }
def TurnTellsWrongFalsely : Prop := turnTellsRow.holds Try.pinned (OpenSpec.ofChange turnTellsWrong)

/-- 'peloruslaw07.MatAbout': WHATEVER THE INPUT: true; the input reads as it did. -/
def matAboutSpec : ChangeSpec := { name := "matAbout", fn := fun _ => fun
  | [d1, d2] => { results := [.lit (.bool true)], args := [d1, d2] }
  | _ => none }
def matAboutRow : OpenClaim := { program := "ytpnggkefjgpleaa", sum := "c367d15482cebdfb7fbef020ee37252f9568e09ac583170ebe24b75e949294fd", func := "pelorus/peloruslaw07.MatAbout", spec := "matAbout", apart := false }
def MatAboutSaid : Prop := matAboutRow.holds Try.pinned (OpenSpec.ofChange matAboutSpec)

/-- ITS FALSE NEIGHBOUR: 'it returns false'. Refute it at one input. -/
def matAboutWrong : ChangeSpec := { name := "matAbout", fn := fun _ => fun
  | [d1, d2] => { results := [.lit (.bool false)], args := [d1, d2] }
  | _ => none }
def MatAboutWrongFalsely : Prop := matAboutRow.holds Try.pinned (OpenSpec.ofChange matAboutWrong)

/-- 'peloruslaw06.VecMuls': WHATEVER THE INPUT: true; the input reads as it did. -/
def vecMulsSpec : ChangeSpec := { name := "vecMuls", fn := fun _ => fun
  | [d1, d2] => { results := [.lit (.bool true)], args := [d1, d2] }
  | _ => none }
def vecMulsRow : OpenClaim := { program := "ytpnggkefjgpleaa", sum := "c367d15482cebdfb7fbef020ee37252f9568e09ac583170ebe24b75e949294fd", func := "pelorus/peloruslaw06.VecMuls", spec := "vecMuls", unfollowed := true, recurses := true, apart := false }
def VecMulsSaid : Prop := vecMulsRow.holds Try.pinned (OpenSpec.ofChange vecMulsSpec)

/-- ITS FALSE NEIGHBOUR: 'it returns false'. Refute it at one input. -/
def vecMulsWrong : ChangeSpec := { name := "vecMuls", fn := fun _ => fun
  | [d1, d2] => { results := [.lit (.bool false)], args := [d1, d2] }
  | _ => none }
def VecMulsWrongFalsely : Prop := vecMulsRow.holds Try.pinned (OpenSpec.ofChange vecMulsWrong)

/-- 'peloruslaw06.VecApart': WHATEVER THE INPUT: true; the input reads as it did. -/
def vecApartSpec : ChangeSpec := { name := "vecApart", fn := fun _ => fun
  | [d1, d2] => { results := [.lit (.bool true)], args := [d1, d2] }
  | _ => none }
def vecApartRow : OpenClaim := { program := "ytpnggkefjgpleaa", sum := "c367d15482cebdfb7fbef020ee37252f9568e09ac583170ebe24b75e949294fd", func := "pelorus/peloruslaw06.VecApart", spec := "vecApart", unfollowed := true, recurses := true, apart := false }
def VecApartSaid : Prop := vecApartRow.holds Try.pinned (OpenSpec.ofChange vecApartSpec)

/-- ITS FALSE NEIGHBOUR: 'it returns false'. Refute it at one input. -/
def vecApartWrong : ChangeSpec := { name := "vecApart", fn := fun _ => fun
  | [d1, d2] => { results := [.lit (.bool false)], args := [d1, d2] }
  | _ => none }
def VecApartWrongFalsely : Prop := vecApartRow.holds Try.pinned (OpenSpec.ofChange vecApartWrong)

/-- 'peloruslaw07.MatMuls': WHATEVER THE INPUT: true; the input reads as it did. -/
def matMulsSpec : ChangeSpec := { name := "matMuls", fn := fun _ => fun
  | [d1, d2, d3] => { results := [.lit (.bool true)], args := [d1, d2, d3] }
  | _ => none }
def matMulsRow : OpenClaim := { program := "ytpnggkefjgpleaa", sum := "c367d15482cebdfb7fbef020ee37252f9568e09ac583170ebe24b75e949294fd", func := "pelorus/peloruslaw07.MatMuls", spec := "matMuls", apart := false }
def MatMulsSaid : Prop := matMulsRow.holds Try.pinned (OpenSpec.ofChange matMulsSpec)

/-- ITS FALSE NEIGHBOUR: 'it returns false'. Refute it at one input. -/
def matMulsWrong : ChangeSpec := { name := "matMuls", fn := fun _ => fun
  | [d1, d2, d3] => { results := [.lit (.bool false)], args := [d1, d2, d3] }
  | _ => none }
def MatMulsWrongFalsely : Prop := matMulsRow.holds Try.pinned (OpenSpec.ofChange matMulsWrong)

/-- 'peloruslaw07.MatSame': WHATEVER THE INPUT: true; the input reads as it did. -/
def matSameSpec : ChangeSpec := { name := "matSame", fn := fun _ => fun
  | [d1, d2] => { results := [.lit (.bool true)], args := [d1, d2] }
  | _ => none }
def matSameRow : OpenClaim := { program := "ytpnggkefjgpleaa", sum := "c367d15482cebdfb7fbef020ee37252f9568e09ac583170ebe24b75e949294fd", func := "pelorus/peloruslaw07.MatSame", spec := "matSame", apart := false }
def MatSameSaid : Prop := matSameRow.holds Try.pinned (OpenSpec.ofChange matSameSpec)

/-- ITS FALSE NEIGHBOUR: 'it returns false'. Refute it at one input. -/
def matSameWrong : ChangeSpec := { name := "matSame", fn := fun _ => fun
  | [d1, d2] => { results := [.lit (.bool false)], args := [d1, d2] }
  | _ => none }
def MatSameWrongFalsely : Prop := matSameRow.holds Try.pinned (OpenSpec.ofChange matSameWrong)

/-- 'peloruslaw06.VecSizes': WHATEVER THE INPUT: true; the input reads as it did. -/
def vecSizesSpec : ChangeSpec := { name := "vecSizes", fn := fun _ => fun
  | [d1, d2] => { results := [.lit (.bool true)], args := [d1, d2] }
  | _ => none }
def vecSizesRow : OpenClaim := { program := "ytpnggkefjgpleaa", sum := "c367d15482cebdfb7fbef020ee37252f9568e09ac583170ebe24b75e949294fd", func := "pelorus/peloruslaw06.VecSizes", spec := "vecSizes", unfollowed := true, recurses := true, apart := false }
def VecSizesSaid : Prop := vecSizesRow.holds Try.pinned (OpenSpec.ofChange vecSizesSpec)

/-- ITS FALSE NEIGHBOUR: 'it returns false'. Refute it at one input. -/
def vecSizesWrong : ChangeSpec := { name := "vecSizes", fn := fun _ => fun
  | [d1, d2] => { results := [.lit (.bool false)], args := [d1, d2] }
  | _ => none }
def VecSizesWrongFalsely : Prop := vecSizesRow.holds Try.pinned (OpenSpec.ofChange vecSizesWrong)

/-- 'peloruslaw07.MatHeads': WHATEVER THE INPUT: true; the input reads as it did. -/
def matHeadsSpec : ChangeSpec := { name := "matHeads", fn := fun _ => fun
  | [d] => { results := [.lit (.bool true)], args := [d] }
  | _ => none }
def matHeadsRow : OpenClaim := { program := "ytpnggkefjgpleaa", sum := "c367d15482cebdfb7fbef020ee37252f9568e09ac583170ebe24b75e949294fd", func := "pelorus/peloruslaw07.MatHeads", spec := "matHeads", apart := false }
def MatHeadsSaid : Prop := matHeadsRow.holds Try.pinned (OpenSpec.ofChange matHeadsSpec)

/-- ITS FALSE NEIGHBOUR: 'it returns false'. Refute it at one input. -/
def matHeadsWrong : ChangeSpec := { name := "matHeads", fn := fun _ => fun
  | [d] => { results := [.lit (.bool false)], args := [d] }
  | _ => none }
def MatHeadsWrongFalsely : Prop := matHeadsRow.holds Try.pinned (OpenSpec.ofChange matHeadsWrong)

/-- 'peloruslaw07.MatTurned': WHATEVER THE INPUT: true; the input reads as it did. -/
def matTurnedSpec : ChangeSpec := { name := "matTurned", fn := fun _ => fun
  | [d1, d2] => { results := [.lit (.bool true)], args := [d1, d2] }
  | _ => none }
def matTurnedRow : OpenClaim := { program := "ytpnggkefjgpleaa", sum := "c367d15482cebdfb7fbef020ee37252f9568e09ac583170ebe24b75e949294fd", func := "pelorus/peloruslaw07.MatTurned", spec := "matTurned", unfollowed := true, recurses := true, apart := false }
def MatTurnedSaid : Prop := matTurnedRow.holds Try.pinned (OpenSpec.ofChange matTurnedSpec)

/-- ITS FALSE NEIGHBOUR: 'it returns false'. Refute it at one input. -/
def matTurnedWrong : ChangeSpec := { name := "matTurned", fn := fun _ => fun
  | [d1, d2] => { results := [.lit (.bool false)], args := [d1, d2] }
  | _ => none }
def MatTurnedWrongFalsely : Prop := matTurnedRow.holds Try.pinned (OpenSpec.ofChange matTurnedWrong)

/-- 'peloruslaw07.MatUpright': WHATEVER THE INPUT: true; the input reads as it did. -/
def matUprightSpec : ChangeSpec := { name := "matUpright", fn := fun _ => fun
  | [d1, d2, d3, d4, d5] => { results := [.lit (.bool true)], args := [d1, d2, d3, d4, d5] }
  | _ => none }
def matUprightRow : OpenClaim := { program := "ytpnggkefjgpleaa", sum := "c367d15482cebdfb7fbef020ee37252f9568e09ac583170ebe24b75e949294fd", func := "pelorus/peloruslaw07.MatUpright", spec := "matUpright", unfollowed := true, recurses := true, apart := false }
def MatUprightSaid : Prop := matUprightRow.holds Try.pinned (OpenSpec.ofChange matUprightSpec)

/-- ITS FALSE NEIGHBOUR: 'it returns false'. Refute it at one input. -/
def matUprightWrong : ChangeSpec := { name := "matUpright", fn := fun _ => fun
  | [d1, d2, d3, d4, d5] => { results := [.lit (.bool false)], args := [d1, d2, d3, d4, d5] }
  | _ => none }
def MatUprightWrongFalsely : Prop := matUprightRow.holds Try.pinned (OpenSpec.ofChange matUprightWrong)

/-- 'peloruslaw07.MatTells': WHATEVER THE INPUT: true; the input reads as it did. -/
def matTellsSpec : ChangeSpec := { name := "matTells", fn := fun _ => fun
  | [d] => { results := [.lit (.bool true)], args := [d] }
  | _ => none }
def matTellsRow : OpenClaim := { program := "ytpnggkefjgpleaa", sum := "c367d15482cebdfb7fbef020ee37252f9568e09ac583170ebe24b75e949294fd", func := "pelorus/peloruslaw07.MatTells", spec := "matTells", unfollowed := true, recurses := true, apart := false }
def MatTellsSaid : Prop := matTellsRow.holds Try.pinned (OpenSpec.ofChange matTellsSpec)

/-- ITS FALSE NEIGHBOUR: 'it returns false'. Refute it at one input. -/
def matTellsWrong : ChangeSpec := { name := "matTells", fn := fun _ => fun
  | [d] => { results := [.lit (.bool false)], args := [d] }
  | _ => none }
def MatTellsWrongFalsely : Prop := matTellsRow.holds Try.pinned (OpenSpec.ofChange matTellsWrong)

/- THE SECOND FORM. 'bulk': how many values and letters a reading holds, each counted each time it is reached (what is shared counts as often as it is met; a slice's spare places count too). A statement '..UptoSaid' is the law's where the arguments, and the package variables that the reading takes, are together of bulk at most 1048576: NARROWER than '..Said'. Prove '..Said' where nothing that the law and all that it calls make is longer than what came in: it says more and counts as full. Else prove '..UptoSaid'. A law counts once. -/
mutual
def uptoBulk {H : Type} : DataW H → Nat
  | .lit (.string bytes) => bytes.length + 1
  | .lit _ => 1
  | .nil => 1
  | .ptr d => uptoBulk d + 1
  | .slice elems spare => uptoBulkAll elems + uptoBulkAll spare + 1
  | .agg parts => uptoBulkAll parts + 1
  | .iface _ d => uptoBulk d + 1
  | .map entries => uptoBulkEntries entries + 1
  | .held _ => 1
def uptoBulkAll {H : Type} : List (DataW H) → Nat
  | [] => 0
  | d :: r => uptoBulk d + uptoBulkAll r
def uptoBulkEntries {H : Type} : List (Lit × DataW H) → Nat
  | [] => 0
  | x :: r => uptoBulkEntry x + uptoBulkEntries r
def uptoBulkEntry {H : Type} : Lit × DataW H → Nat
  | (.string bytes, d) => bytes.length + uptoBulk d + 1
  | (_, d) => uptoBulk d + 1
 end
def uptoSmall : (H : Type) → List (DataW H) → Bool := fun _ ds => decide (uptoBulkAll ds ≤ 1048576)
def OpenSpec.upto (s : _root_.Go.ChangeSpec) : _root_.Go.OpenSpec := { _root_.Go.OpenSpec.ofChange s with cond := some uptoSmall }

/-- 'peloruslaw06.VecLength', WHERE WHAT IT READS IS OF BULK AT MOST 1048576: true; the input reads as it did. -/
def vecLengthUptoRow : OpenClaim := { program := "ytpnggkefjgpleaa", sum := "c367d15482cebdfb7fbef020ee37252f9568e09ac583170ebe24b75e949294fd", func := "pelorus/peloruslaw06.VecLength", spec := "vecLength", apart := false, narrowed := true }
def VecLengthUptoSaid : Prop := vecLengthUptoRow.holds Try.pinned (OpenSpec.upto vecLengthSpec)

/-- 'peloruslaw05.TurnBoth', WHERE WHAT IT READS IS OF BULK AT MOST 1048576: true; the input reads as it did. -/
def turnBothUptoRow : OpenClaim := { program := "ytpnggkefjgpleaa", sum := "c367d15482cebdfb7fbef020ee37252f9568e09ac583170ebe24b75e949294fd", func := "pelorus/peloruslaw05.TurnBoth", spec := "turnBoth", apart := false, narrowed := true }
def TurnBothUptoSaid : Prop := turnBothUptoRow.holds Try.pinned (OpenSpec.upto turnBothSpec)

/-- 'peloruslaw05.TurnAngle', WHERE WHAT IT READS IS OF BULK AT MOST 1048576: true; the input reads as it did. -/
def turnAngleUptoRow : OpenClaim := { program := "ytpnggkefjgpleaa", sum := "c367d15482cebdfb7fbef020ee37252f9568e09ac583170ebe24b75e949294fd", func := "pelorus/peloruslaw05.TurnAngle", spec := "turnAngle", apart := false, narrowed := true }
def TurnAngleUptoSaid : Prop := turnAngleUptoRow.holds Try.pinned (OpenSpec.upto turnAngleSpec)

/-- 'peloruslaw05.TurnAround', WHERE WHAT IT READS IS OF BULK AT MOST 1048576: true; the input reads as it did. -/
def turnAroundUptoRow : OpenClaim := { program := "ytpnggkefjgpleaa", sum := "c367d15482cebdfb7fbef020ee37252f9568e09ac583170ebe24b75e949294fd", func := "pelorus/peloruslaw05.TurnAround", spec := "turnAround", apart := false, narrowed := true }
def TurnAroundUptoSaid : Prop := turnAroundUptoRow.holds Try.pinned (OpenSpec.upto turnAroundSpec)

/-- 'peloruslaw05.TurnUnit', WHERE WHAT IT READS IS OF BULK AT MOST 1048576: true; the input reads as it did. -/
def turnUnitUptoRow : OpenClaim := { program := "ytpnggkefjgpleaa", sum := "c367d15482cebdfb7fbef020ee37252f9568e09ac583170ebe24b75e949294fd", func := "pelorus/peloruslaw05.TurnUnit", spec := "turnUnit", apart := false, narrowed := true }
def TurnUnitUptoSaid : Prop := turnUnitUptoRow.holds Try.pinned (OpenSpec.upto turnUnitSpec)

/-- 'peloruslaw05.TurnBack', WHERE WHAT IT READS IS OF BULK AT MOST 1048576: true; the input reads as it did. -/
def turnBackUptoRow : OpenClaim := { program := "ytpnggkefjgpleaa", sum := "c367d15482cebdfb7fbef020ee37252f9568e09ac583170ebe24b75e949294fd", func := "pelorus/peloruslaw05.TurnBack", spec := "turnBack", apart := false, narrowed := true }
def TurnBackUptoSaid : Prop := turnBackUptoRow.holds Try.pinned (OpenSpec.upto turnBackSpec)

/-- 'peloruslaw05.TurnLength', WHERE WHAT IT READS IS OF BULK AT MOST 1048576: true; the input reads as it did. -/
def turnLengthUptoRow : OpenClaim := { program := "ytpnggkefjgpleaa", sum := "c367d15482cebdfb7fbef020ee37252f9568e09ac583170ebe24b75e949294fd", func := "pelorus/peloruslaw05.TurnLength", spec := "turnLength", apart := false, narrowed := true }
def TurnLengthUptoSaid : Prop := turnLengthUptoRow.holds Try.pinned (OpenSpec.upto turnLengthSpec)

/-- 'peloruslaw06.VecWithin', WHERE WHAT IT READS IS OF BULK AT MOST 1048576: true; the input reads as it did. -/
def vecWithinUptoRow : OpenClaim := { program := "ytpnggkefjgpleaa", sum := "c367d15482cebdfb7fbef020ee37252f9568e09ac583170ebe24b75e949294fd", func := "pelorus/peloruslaw06.VecWithin", spec := "vecWithin", unfollowed := true, recurses := true, apart := false, narrowed := true }
def VecWithinUptoSaid : Prop := vecWithinUptoRow.holds Try.pinned (OpenSpec.upto vecWithinSpec)

/-- 'peloruslaw05.TurnTells', WHERE WHAT IT READS IS OF BULK AT MOST 1048576: true; the input reads as it did. -/
def turnTellsUptoRow : OpenClaim := { program := "ytpnggkefjgpleaa", sum := "c367d15482cebdfb7fbef020ee37252f9568e09ac583170ebe24b75e949294fd", func := "pelorus/peloruslaw05.TurnTells", spec := "turnTells", apart := false, narrowed := true }
def TurnTellsUptoSaid : Prop := turnTellsUptoRow.holds Try.pinned (OpenSpec.upto turnTellsSpec)

/-- 'peloruslaw07.MatAbout', WHERE WHAT IT READS IS OF BULK AT MOST 1048576: true; the input reads as it did. -/
def matAboutUptoRow : OpenClaim := { program := "ytpnggkefjgpleaa", sum := "c367d15482cebdfb7fbef020ee37252f9568e09ac583170ebe24b75e949294fd", func := "pelorus/peloruslaw07.MatAbout", spec := "matAbout", apart := false, narrowed := true }
def MatAboutUptoSaid : Prop := matAboutUptoRow.holds Try.pinned (OpenSpec.upto matAboutSpec)

/-- 'peloruslaw06.VecMuls', WHERE WHAT IT READS IS OF BULK AT MOST 1048576: true; the input reads as it did. -/
def vecMulsUptoRow : OpenClaim := { program := "ytpnggkefjgpleaa", sum := "c367d15482cebdfb7fbef020ee37252f9568e09ac583170ebe24b75e949294fd", func := "pelorus/peloruslaw06.VecMuls", spec := "vecMuls", unfollowed := true, recurses := true, apart := false, narrowed := true }
def VecMulsUptoSaid : Prop := vecMulsUptoRow.holds Try.pinned (OpenSpec.upto vecMulsSpec)

/-- 'peloruslaw06.VecApart', WHERE WHAT IT READS IS OF BULK AT MOST 1048576: true; the input reads as it did. -/
def vecApartUptoRow : OpenClaim := { program := "ytpnggkefjgpleaa", sum := "c367d15482cebdfb7fbef020ee37252f9568e09ac583170ebe24b75e949294fd", func := "pelorus/peloruslaw06.VecApart", spec := "vecApart", unfollowed := true, recurses := true, apart := false, narrowed := true }
def VecApartUptoSaid : Prop := vecApartUptoRow.holds Try.pinned (OpenSpec.upto vecApartSpec)

/-- 'peloruslaw07.MatMuls', WHERE WHAT IT READS IS OF BULK AT MOST 1048576: true; the input reads as it did. -/
def matMulsUptoRow : OpenClaim := { program := "ytpnggkefjgpleaa", sum := "c367d15482cebdfb7fbef020ee37252f9568e09ac583170ebe24b75e949294fd", func := "pelorus/peloruslaw07.MatMuls", spec := "matMuls", apart := false, narrowed := true }
def MatMulsUptoSaid : Prop := matMulsUptoRow.holds Try.pinned (OpenSpec.upto matMulsSpec)

/-- 'peloruslaw07.MatSame', WHERE WHAT IT READS IS OF BULK AT MOST 1048576: true; the input reads as it did. -/
def matSameUptoRow : OpenClaim := { program := "ytpnggkefjgpleaa", sum := "c367d15482cebdfb7fbef020ee37252f9568e09ac583170ebe24b75e949294fd", func := "pelorus/peloruslaw07.MatSame", spec := "matSame", apart := false, narrowed := true }
def MatSameUptoSaid : Prop := matSameUptoRow.holds Try.pinned (OpenSpec.upto matSameSpec)

/-- 'peloruslaw06.VecSizes', WHERE WHAT IT READS IS OF BULK AT MOST 1048576: true; the input reads as it did. -/
def vecSizesUptoRow : OpenClaim := { program := "ytpnggkefjgpleaa", sum := "c367d15482cebdfb7fbef020ee37252f9568e09ac583170ebe24b75e949294fd", func := "pelorus/peloruslaw06.VecSizes", spec := "vecSizes", unfollowed := true, recurses := true, apart := false, narrowed := true }
def VecSizesUptoSaid : Prop := vecSizesUptoRow.holds Try.pinned (OpenSpec.upto vecSizesSpec)

/-- 'peloruslaw07.MatHeads', WHERE WHAT IT READS IS OF BULK AT MOST 1048576: true; the input reads as it did. -/
def matHeadsUptoRow : OpenClaim := { program := "ytpnggkefjgpleaa", sum := "c367d15482cebdfb7fbef020ee37252f9568e09ac583170ebe24b75e949294fd", func := "pelorus/peloruslaw07.MatHeads", spec := "matHeads", apart := false, narrowed := true }
def MatHeadsUptoSaid : Prop := matHeadsUptoRow.holds Try.pinned (OpenSpec.upto matHeadsSpec)

/-- 'peloruslaw07.MatTurned', WHERE WHAT IT READS IS OF BULK AT MOST 1048576: true; the input reads as it did. -/
def matTurnedUptoRow : OpenClaim := { program := "ytpnggkefjgpleaa", sum := "c367d15482cebdfb7fbef020ee37252f9568e09ac583170ebe24b75e949294fd", func := "pelorus/peloruslaw07.MatTurned", spec := "matTurned", unfollowed := true, recurses := true, apart := false, narrowed := true }
def MatTurnedUptoSaid : Prop := matTurnedUptoRow.holds Try.pinned (OpenSpec.upto matTurnedSpec)

/-- 'peloruslaw07.MatUpright', WHERE WHAT IT READS IS OF BULK AT MOST 1048576: true; the input reads as it did. -/
def matUprightUptoRow : OpenClaim := { program := "ytpnggkefjgpleaa", sum := "c367d15482cebdfb7fbef020ee37252f9568e09ac583170ebe24b75e949294fd", func := "pelorus/peloruslaw07.MatUpright", spec := "matUpright", unfollowed := true, recurses := true, apart := false, narrowed := true }
def MatUprightUptoSaid : Prop := matUprightUptoRow.holds Try.pinned (OpenSpec.upto matUprightSpec)

/-- 'peloruslaw07.MatTells', WHERE WHAT IT READS IS OF BULK AT MOST 1048576: true; the input reads as it did. -/
def matTellsUptoRow : OpenClaim := { program := "ytpnggkefjgpleaa", sum := "c367d15482cebdfb7fbef020ee37252f9568e09ac583170ebe24b75e949294fd", func := "pelorus/peloruslaw07.MatTells", spec := "matTells", unfollowed := true, recurses := true, apart := false, narrowed := true }
def MatTellsUptoSaid : Prop := matTellsUptoRow.holds Try.pinned (OpenSpec.upto matTellsSpec)

end Rows
end Go.Proofs.Ytpnggkefjgpleaa
