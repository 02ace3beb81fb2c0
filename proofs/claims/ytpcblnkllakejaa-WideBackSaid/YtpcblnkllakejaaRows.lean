/-
  No cell of these rows narrows 'for every input' (looked for: loops, veiled, ifaces, maps, wideKeys, modest, calm, conditions, laid).
  DERIVED. THE GIVEN ROWS OF THIS SEAT. 22 by the template 'for every input the law returns true; each argument reads behind the call as it read before'; 0 by the template 'total and deterministic' (their statements: YtpcblnkllakejaaTotals.lean).
  GIVEN WITH THE SEED: the statements are not yours to turn. If you find one false, say at which input.
  Laid BY PROGRAM, IN A SANDBOX (cutbox-rows.mjs): the forced cells as the released guide's own fill.sh prints them over the translation f2228e241520c30c… (all of the seat's roots in one cut). By AI agents, Wed Nov 11 2026. No macro, syntax, notation, axiom, sorry.
-/
import Derived.Test.YtpcblnkllakejaaChecked
import GoSem.Claim
import GoSem.ClaimJoined
import GoSem.ClaimMapViews
import Derived.JoinedTies
import Derived.KernelRfl
namespace Go.Proofs.Ytpcblnkllakejaa
/- THE CELL 'sum', in the pinned program and in every row, IS THE sha256 OF THE DUMP (.gsa) THAT YtpcblnkllakejaaProg.lean LOADS. Nothing in Lean hashes anything: it is a label: what it is worth is what the hold of that sum in a sandbox is worth. -/
noncomputable def Try.pinned : Pinned := { name := "ytpcblnkllakejaa", sum := "f2228e241520c30caf94ac571f5ae10f1edaf937269be902ed4cc5f1e5f2c87d", checked := Try.checked }
namespace Rows
def none {H : Type} : Left H := { results := [], args := [] }

/-- 'peloruslaw03.SmallTurns': WHATEVER THE INPUT: true; the input reads as it did. -/
def smallTurnsSpec : ChangeSpec := { name := "smallTurns", fn := fun _ => fun
  | [d1, d2] => { results := [.lit (.bool true)], args := [d1, d2] }
  | _ => none }
def smallTurnsRow : OpenClaim := { program := "ytpcblnkllakejaa", sum := "f2228e241520c30caf94ac571f5ae10f1edaf937269be902ed4cc5f1e5f2c87d", func := "pelorus/peloruslaw03.SmallTurns", spec := "smallTurns", apart := false }
def SmallTurnsSaid : Prop := smallTurnsRow.holds Try.pinned (OpenSpec.ofChange smallTurnsSpec)

/-- ITS FALSE NEIGHBOUR: 'it returns false'. Refute it at one input. -/
def smallTurnsWrong : ChangeSpec := { name := "smallTurns", fn := fun _ => fun
  | [d1, d2] => { results := [.lit (.bool false)], args := [d1, d2] }
  | _ => none }
def SmallTurnsWrongFalsely : Prop := smallTurnsRow.holds Try.pinned (OpenSpec.ofChange smallTurnsWrong)

/-- 'peloruslaw03.SmallAround': WHATEVER THE INPUT: true; the input reads as it did. -/
def smallAroundSpec : ChangeSpec := { name := "smallAround", fn := fun _ => fun
  | [d1, d2] => { results := [.lit (.bool true)], args := [d1, d2] }
  | _ => none }
def smallAroundRow : OpenClaim := { program := "ytpcblnkllakejaa", sum := "f2228e241520c30caf94ac571f5ae10f1edaf937269be902ed4cc5f1e5f2c87d", func := "pelorus/peloruslaw03.SmallAround", spec := "smallAround", apart := false }
def SmallAroundSaid : Prop := smallAroundRow.holds Try.pinned (OpenSpec.ofChange smallAroundSpec)

/-- ITS FALSE NEIGHBOUR: 'it returns false'. Refute it at one input. -/
def smallAroundWrong : ChangeSpec := { name := "smallAround", fn := fun _ => fun
  | [d1, d2] => { results := [.lit (.bool false)], args := [d1, d2] }
  | _ => none }
def SmallAroundWrongFalsely : Prop := smallAroundRow.holds Try.pinned (OpenSpec.ofChange smallAroundWrong)

/-- 'peloruslaw03.SmallBytes': WHATEVER THE INPUT: true; the input reads as it did. -/
def smallBytesSpec : ChangeSpec := { name := "smallBytes", fn := fun _ => fun
  | [d1, d2, d3] => { results := [.lit (.bool true)], args := [d1, d2, d3] }
  | _ => none }
def smallBytesRow : OpenClaim := { program := "ytpcblnkllakejaa", sum := "f2228e241520c30caf94ac571f5ae10f1edaf937269be902ed4cc5f1e5f2c87d", func := "pelorus/peloruslaw03.SmallBytes", spec := "smallBytes", apart := false }
def SmallBytesSaid : Prop := smallBytesRow.holds Try.pinned (OpenSpec.ofChange smallBytesSpec)

/-- ITS FALSE NEIGHBOUR: 'it returns false'. Refute it at one input. -/
def smallBytesWrong : ChangeSpec := { name := "smallBytes", fn := fun _ => fun
  | [d1, d2, d3] => { results := [.lit (.bool false)], args := [d1, d2, d3] }
  | _ => none }
def SmallBytesWrongFalsely : Prop := smallBytesRow.holds Try.pinned (OpenSpec.ofChange smallBytesWrong)

/-- 'peloruslaw03.SmallBack': WHATEVER THE INPUT: true; the input reads as it did. -/
def smallBackSpec : ChangeSpec := { name := "smallBack", fn := fun _ => fun
  | [d1, d2] => { results := [.lit (.bool true)], args := [d1, d2] }
  | _ => none }
def smallBackRow : OpenClaim := { program := "ytpcblnkllakejaa", sum := "f2228e241520c30caf94ac571f5ae10f1edaf937269be902ed4cc5f1e5f2c87d", func := "pelorus/peloruslaw03.SmallBack", spec := "smallBack", apart := false }
def SmallBackSaid : Prop := smallBackRow.holds Try.pinned (OpenSpec.ofChange smallBackSpec)

/-- ITS FALSE NEIGHBOUR: 'it returns false'. Refute it at one input. -/
def smallBackWrong : ChangeSpec := { name := "smallBack", fn := fun _ => fun
  | [d1, d2] => { results := [.lit (.bool false)], args := [d1, d2] }
  | _ => none }
def SmallBackWrongFalsely : Prop := smallBackRow.holds Try.pinned (OpenSpec.ofChange smallBackWrong)

/-- 'peloruslaw01.WideMuls': WHATEVER THE INPUT: true; the input reads as it did. -/
def wideMulsSpec : ChangeSpec := { name := "wideMuls", fn := fun _ => fun
  | [d1, d2] => { results := [.lit (.bool true)], args := [d1, d2] }
  | _ => none }
def wideMulsRow : OpenClaim := { program := "ytpcblnkllakejaa", sum := "f2228e241520c30caf94ac571f5ae10f1edaf937269be902ed4cc5f1e5f2c87d", func := "pelorus/peloruslaw01.WideMuls", spec := "wideMuls", apart := false }
def WideMulsSaid : Prop := wideMulsRow.holds Try.pinned (OpenSpec.ofChange wideMulsSpec)

/-- ITS FALSE NEIGHBOUR: 'it returns false'. Refute it at one input. -/
def wideMulsWrong : ChangeSpec := { name := "wideMuls", fn := fun _ => fun
  | [d1, d2] => { results := [.lit (.bool false)], args := [d1, d2] }
  | _ => none }
def WideMulsWrongFalsely : Prop := wideMulsRow.holds Try.pinned (OpenSpec.ofChange wideMulsWrong)

/-- 'peloruslaw01.WideRing': WHATEVER THE INPUT: true; the input reads as it did. -/
def wideRingSpec : ChangeSpec := { name := "wideRing", fn := fun _ => fun
  | [d1, d2, d3, d4, d5, d6] => { results := [.lit (.bool true)], args := [d1, d2, d3, d4, d5, d6] }
  | _ => none }
def wideRingRow : OpenClaim := { program := "ytpcblnkllakejaa", sum := "f2228e241520c30caf94ac571f5ae10f1edaf937269be902ed4cc5f1e5f2c87d", func := "pelorus/peloruslaw01.WideRing", spec := "wideRing", apart := false }
def WideRingSaid : Prop := wideRingRow.holds Try.pinned (OpenSpec.ofChange wideRingSpec)

/-- ITS FALSE NEIGHBOUR: 'it returns false'. Refute it at one input. -/
def wideRingWrong : ChangeSpec := { name := "wideRing", fn := fun _ => fun
  | [d1, d2, d3, d4, d5, d6] => { results := [.lit (.bool false)], args := [d1, d2, d3, d4, d5, d6] }
  | _ => none }
def WideRingWrongFalsely : Prop := wideRingRow.holds Try.pinned (OpenSpec.ofChange wideRingWrong)

/-- 'peloruslaw01.WideShifts': WHATEVER THE INPUT: true; the input reads as it did. -/
def wideShiftsSpec : ChangeSpec := { name := "wideShifts", fn := fun _ => fun
  | [d1, d2] => { results := [.lit (.bool true)], args := [d1, d2] }
  | _ => none }
def wideShiftsRow : OpenClaim := { program := "ytpcblnkllakejaa", sum := "f2228e241520c30caf94ac571f5ae10f1edaf937269be902ed4cc5f1e5f2c87d", func := "pelorus/peloruslaw01.WideShifts", spec := "wideShifts", apart := false }
def WideShiftsSaid : Prop := wideShiftsRow.holds Try.pinned (OpenSpec.ofChange wideShiftsSpec)

/-- ITS FALSE NEIGHBOUR: 'it returns false'. Refute it at one input. -/
def wideShiftsWrong : ChangeSpec := { name := "wideShifts", fn := fun _ => fun
  | [d1, d2] => { results := [.lit (.bool false)], args := [d1, d2] }
  | _ => none }
def WideShiftsWrongFalsely : Prop := wideShiftsRow.holds Try.pinned (OpenSpec.ofChange wideShiftsWrong)

/-- 'peloruslaw01.WideAdds': WHATEVER THE INPUT: true; the input reads as it did. -/
def wideAddsSpec : ChangeSpec := { name := "wideAdds", fn := fun _ => fun
  | [d1, d2, d3] => { results := [.lit (.bool true)], args := [d1, d2, d3] }
  | _ => none }
def wideAddsRow : OpenClaim := { program := "ytpcblnkllakejaa", sum := "f2228e241520c30caf94ac571f5ae10f1edaf937269be902ed4cc5f1e5f2c87d", func := "pelorus/peloruslaw01.WideAdds", spec := "wideAdds", apart := false }
def WideAddsSaid : Prop := wideAddsRow.holds Try.pinned (OpenSpec.ofChange wideAddsSpec)

/-- ITS FALSE NEIGHBOUR: 'it returns false'. Refute it at one input. -/
def wideAddsWrong : ChangeSpec := { name := "wideAdds", fn := fun _ => fun
  | [d1, d2, d3] => { results := [.lit (.bool false)], args := [d1, d2, d3] }
  | _ => none }
def WideAddsWrongFalsely : Prop := wideAddsRow.holds Try.pinned (OpenSpec.ofChange wideAddsWrong)

/-- 'peloruslaw01.WideTurned': WHATEVER THE INPUT: true; the input reads as it did. -/
def wideTurnedSpec : ChangeSpec := { name := "wideTurned", fn := fun _ => fun
  | [d1, d2] => { results := [.lit (.bool true)], args := [d1, d2] }
  | _ => none }
def wideTurnedRow : OpenClaim := { program := "ytpcblnkllakejaa", sum := "f2228e241520c30caf94ac571f5ae10f1edaf937269be902ed4cc5f1e5f2c87d", func := "pelorus/peloruslaw01.WideTurned", spec := "wideTurned", apart := false }
def WideTurnedSaid : Prop := wideTurnedRow.holds Try.pinned (OpenSpec.ofChange wideTurnedSpec)

/-- ITS FALSE NEIGHBOUR: 'it returns false'. Refute it at one input. -/
def wideTurnedWrong : ChangeSpec := { name := "wideTurned", fn := fun _ => fun
  | [d1, d2] => { results := [.lit (.bool false)], args := [d1, d2] }
  | _ => none }
def WideTurnedWrongFalsely : Prop := wideTurnedRow.holds Try.pinned (OpenSpec.ofChange wideTurnedWrong)

/-- 'peloruslaw04.RootTells': WHATEVER THE INPUT: true; the input reads as it did. -/
def rootTellsSpec : ChangeSpec := { name := "rootTells", fn := fun _ => fun
  | [d1, d2, d3] => { results := [.lit (.bool true)], args := [d1, d2, d3] }
  | _ => none }
def rootTellsRow : OpenClaim := { program := "ytpcblnkllakejaa", sum := "f2228e241520c30caf94ac571f5ae10f1edaf937269be902ed4cc5f1e5f2c87d", func := "pelorus/peloruslaw04.RootTells", spec := "rootTells", apart := false }
def RootTellsSaid : Prop := rootTellsRow.holds Try.pinned (OpenSpec.ofChange rootTellsSpec)

/-- ITS FALSE NEIGHBOUR: 'it returns false'. Refute it at one input. -/
def rootTellsWrong : ChangeSpec := { name := "rootTells", fn := fun _ => fun
  | [d1, d2, d3] => { results := [.lit (.bool false)], args := [d1, d2, d3] }
  | _ => none }
def RootTellsWrongFalsely : Prop := rootTellsRow.holds Try.pinned (OpenSpec.ofChange rootTellsWrong)

/-- 'peloruslaw04.RootGreatest': WHATEVER THE INPUT: true; the input reads as it did. -/
def rootGreatestSpec : ChangeSpec := { name := "rootGreatest", fn := fun _ => fun
  | [d] => { results := [.lit (.bool true)], args := [d] }
  | _ => none }
def rootGreatestRow : OpenClaim := { program := "ytpcblnkllakejaa", sum := "f2228e241520c30caf94ac571f5ae10f1edaf937269be902ed4cc5f1e5f2c87d", func := "pelorus/peloruslaw04.RootGreatest", spec := "rootGreatest", apart := false }
def RootGreatestSaid : Prop := rootGreatestRow.holds Try.pinned (OpenSpec.ofChange rootGreatestSpec)

/-- ITS FALSE NEIGHBOUR: 'it returns false'. Refute it at one input. -/
def rootGreatestWrong : ChangeSpec := { name := "rootGreatest", fn := fun _ => fun
  | [d] => { results := [.lit (.bool false)], args := [d] }
  | _ => none }
def RootGreatestWrongFalsely : Prop := rootGreatestRow.holds Try.pinned (OpenSpec.ofChange rootGreatestWrong)

/-- 'peloruslaw04.RootBack': WHATEVER THE INPUT: true; the input reads as it did. -/
def rootBackSpec : ChangeSpec := { name := "rootBack", fn := fun _ => fun
  | [d1, d2, d3] => { results := [.lit (.bool true)], args := [d1, d2, d3] }
  | _ => none }
def rootBackRow : OpenClaim := { program := "ytpcblnkllakejaa", sum := "f2228e241520c30caf94ac571f5ae10f1edaf937269be902ed4cc5f1e5f2c87d", func := "pelorus/peloruslaw04.RootBack", spec := "rootBack", apart := false }
def RootBackSaid : Prop := rootBackRow.holds Try.pinned (OpenSpec.ofChange rootBackSpec)

/-- ITS FALSE NEIGHBOUR: 'it returns false'. Refute it at one input. -/
def rootBackWrong : ChangeSpec := { name := "rootBack", fn := fun _ => fun
  | [d1, d2, d3] => { results := [.lit (.bool false)], args := [d1, d2, d3] }
  | _ => none }
def RootBackWrongFalsely : Prop := rootBackRow.holds Try.pinned (OpenSpec.ofChange rootBackWrong)

/-- 'peloruslaw04.RootFix': WHATEVER THE INPUT: true; the input reads as it did. -/
def rootFixSpec : ChangeSpec := { name := "rootFix", fn := fun _ => fun
  | [d] => { results := [.lit (.bool true)], args := [d] }
  | _ => none }
def rootFixRow : OpenClaim := { program := "ytpcblnkllakejaa", sum := "f2228e241520c30caf94ac571f5ae10f1edaf937269be902ed4cc5f1e5f2c87d", func := "pelorus/peloruslaw04.RootFix", spec := "rootFix", apart := false }
def RootFixSaid : Prop := rootFixRow.holds Try.pinned (OpenSpec.ofChange rootFixSpec)

/-- ITS FALSE NEIGHBOUR: 'it returns false'. Refute it at one input. -/
def rootFixWrong : ChangeSpec := { name := "rootFix", fn := fun _ => fun
  | [d] => { results := [.lit (.bool false)], args := [d] }
  | _ => none }
def RootFixWrongFalsely : Prop := rootFixRow.holds Try.pinned (OpenSpec.ofChange rootFixWrong)

/-- 'peloruslaw02.FixSteady': WHATEVER THE INPUT: true; the input reads as it did. -/
def fixSteadySpec : ChangeSpec := { name := "fixSteady", fn := fun _ => fun
  | [d1, d2, d3] => { results := [.lit (.bool true)], args := [d1, d2, d3] }
  | _ => none }
def fixSteadyRow : OpenClaim := { program := "ytpcblnkllakejaa", sum := "f2228e241520c30caf94ac571f5ae10f1edaf937269be902ed4cc5f1e5f2c87d", func := "pelorus/peloruslaw02.FixSteady", spec := "fixSteady", apart := false }
def FixSteadySaid : Prop := fixSteadyRow.holds Try.pinned (OpenSpec.ofChange fixSteadySpec)

/-- ITS FALSE NEIGHBOUR: 'it returns false'. Refute it at one input. -/
def fixSteadyWrong : ChangeSpec := { name := "fixSteady", fn := fun _ => fun
  | [d1, d2, d3] => { results := [.lit (.bool false)], args := [d1, d2, d3] }
  | _ => none }
def FixSteadyWrongFalsely : Prop := fixSteadyRow.holds Try.pinned (OpenSpec.ofChange fixSteadyWrong)

/-- 'peloruslaw03.SmallTells': WHATEVER THE INPUT: true; the input reads as it did. -/
def smallTellsSpec : ChangeSpec := { name := "smallTells", fn := fun _ => fun
  | [d1, d2, d3] => { results := [.lit (.bool true)], args := [d1, d2, d3] }
  | _ => none }
def smallTellsRow : OpenClaim := { program := "ytpcblnkllakejaa", sum := "f2228e241520c30caf94ac571f5ae10f1edaf937269be902ed4cc5f1e5f2c87d", func := "pelorus/peloruslaw03.SmallTells", spec := "smallTells", apart := false }
def SmallTellsSaid : Prop := smallTellsRow.holds Try.pinned (OpenSpec.ofChange smallTellsSpec)

/-- ITS FALSE NEIGHBOUR: 'it returns false'. Refute it at one input. -/
def smallTellsWrong : ChangeSpec := { name := "smallTells", fn := fun _ => fun
  | [d1, d2, d3] => { results := [.lit (.bool false)], args := [d1, d2, d3] }
  | _ => none }
def SmallTellsWrongFalsely : Prop := smallTellsRow.holds Try.pinned (OpenSpec.ofChange smallTellsWrong)

/-- 'peloruslaw02.FixSums': WHATEVER THE INPUT: true; the input reads as it did. -/
def fixSumsSpec : ChangeSpec := { name := "fixSums", fn := fun _ => fun
  | [d] => { results := [.lit (.bool true)], args := [d] }
  | _ => none }
def fixSumsRow : OpenClaim := { program := "ytpcblnkllakejaa", sum := "f2228e241520c30caf94ac571f5ae10f1edaf937269be902ed4cc5f1e5f2c87d", func := "pelorus/peloruslaw02.FixSums", spec := "fixSums", apart := false }
def FixSumsSaid : Prop := fixSumsRow.holds Try.pinned (OpenSpec.ofChange fixSumsSpec)

/-- ITS FALSE NEIGHBOUR: 'it returns false'. Refute it at one input. -/
def fixSumsWrong : ChangeSpec := { name := "fixSums", fn := fun _ => fun
  | [d] => { results := [.lit (.bool false)], args := [d] }
  | _ => none }
def FixSumsWrongFalsely : Prop := fixSumsRow.holds Try.pinned (OpenSpec.ofChange fixSumsWrong)

/-- 'peloruslaw02.FixBetween': WHATEVER THE INPUT: true; the input reads as it did. -/
def fixBetweenSpec : ChangeSpec := { name := "fixBetween", fn := fun _ => fun
  | [d1, d2, d3] => { results := [.lit (.bool true)], args := [d1, d2, d3] }
  | _ => none }
def fixBetweenRow : OpenClaim := { program := "ytpcblnkllakejaa", sum := "f2228e241520c30caf94ac571f5ae10f1edaf937269be902ed4cc5f1e5f2c87d", func := "pelorus/peloruslaw02.FixBetween", spec := "fixBetween", apart := false }
def FixBetweenSaid : Prop := fixBetweenRow.holds Try.pinned (OpenSpec.ofChange fixBetweenSpec)

/-- ITS FALSE NEIGHBOUR: 'it returns false'. Refute it at one input. -/
def fixBetweenWrong : ChangeSpec := { name := "fixBetween", fn := fun _ => fun
  | [d1, d2, d3] => { results := [.lit (.bool false)], args := [d1, d2, d3] }
  | _ => none }
def FixBetweenWrongFalsely : Prop := fixBetweenRow.holds Try.pinned (OpenSpec.ofChange fixBetweenWrong)

/-- 'peloruslaw01.WideDivs': WHATEVER THE INPUT: true; the input reads as it did. -/
def wideDivsSpec : ChangeSpec := { name := "wideDivs", fn := fun _ => fun
  | [d1, d2] => { results := [.lit (.bool true)], args := [d1, d2] }
  | _ => none }
def wideDivsRow : OpenClaim := { program := "ytpcblnkllakejaa", sum := "f2228e241520c30caf94ac571f5ae10f1edaf937269be902ed4cc5f1e5f2c87d", func := "pelorus/peloruslaw01.WideDivs", spec := "wideDivs", apart := false }
def WideDivsSaid : Prop := wideDivsRow.holds Try.pinned (OpenSpec.ofChange wideDivsSpec)

/-- ITS FALSE NEIGHBOUR: 'it returns false'. Refute it at one input. -/
def wideDivsWrong : ChangeSpec := { name := "wideDivs", fn := fun _ => fun
  | [d1, d2] => { results := [.lit (.bool false)], args := [d1, d2] }
  | _ => none }
def WideDivsWrongFalsely : Prop := wideDivsRow.holds Try.pinned (OpenSpec.ofChange wideDivsWrong)

/-- 'peloruslaw02.FixAdds': WHATEVER THE INPUT: true; the input reads as it did. -/
def fixAddsSpec : ChangeSpec := { name := "fixAdds", fn := fun _ => fun
  | [d1, d2, d3] => { results := [.lit (.bool true)], args := [d1, d2, d3] }
  | _ => none }
def fixAddsRow : OpenClaim := { program := "ytpcblnkllakejaa", sum := "f2228e241520c30caf94ac571f5ae10f1edaf937269be902ed4cc5f1e5f2c87d", func := "pelorus/peloruslaw02.FixAdds", spec := "fixAdds", apart := false }
def FixAddsSaid : Prop := fixAddsRow.holds Try.pinned (OpenSpec.ofChange fixAddsSpec)

/-- ITS FALSE NEIGHBOUR: 'it returns false'. Refute it at one input. -/
def fixAddsWrong : ChangeSpec := { name := "fixAdds", fn := fun _ => fun
  | [d1, d2, d3] => { results := [.lit (.bool false)], args := [d1, d2, d3] }
  | _ => none }
def FixAddsWrongFalsely : Prop := fixAddsRow.holds Try.pinned (OpenSpec.ofChange fixAddsWrong)

/-- 'peloruslaw01.WideBack': WHATEVER THE INPUT: true; the input reads as it did. -/
def wideBackSpec : ChangeSpec := { name := "wideBack", fn := fun _ => fun
  | [d1, d2, d3] => { results := [.lit (.bool true)], args := [d1, d2, d3] }
  | _ => none }
def wideBackRow : OpenClaim := { program := "ytpcblnkllakejaa", sum := "f2228e241520c30caf94ac571f5ae10f1edaf937269be902ed4cc5f1e5f2c87d", func := "pelorus/peloruslaw01.WideBack", spec := "wideBack", apart := false }
def WideBackSaid : Prop := wideBackRow.holds Try.pinned (OpenSpec.ofChange wideBackSpec)

/-- ITS FALSE NEIGHBOUR: 'it returns false'. Refute it at one input. -/
def wideBackWrong : ChangeSpec := { name := "wideBack", fn := fun _ => fun
  | [d1, d2, d3] => { results := [.lit (.bool false)], args := [d1, d2, d3] }
  | _ => none }
def WideBackWrongFalsely : Prop := wideBackRow.holds Try.pinned (OpenSpec.ofChange wideBackWrong)

/-- 'peloruslaw02.FixMuls': WHATEVER THE INPUT: true; the input reads as it did. -/
def fixMulsSpec : ChangeSpec := { name := "fixMuls", fn := fun _ => fun
  | [d1, d2] => { results := [.lit (.bool true)], args := [d1, d2] }
  | _ => none }
def fixMulsRow : OpenClaim := { program := "ytpcblnkllakejaa", sum := "f2228e241520c30caf94ac571f5ae10f1edaf937269be902ed4cc5f1e5f2c87d", func := "pelorus/peloruslaw02.FixMuls", spec := "fixMuls", apart := false }
def FixMulsSaid : Prop := fixMulsRow.holds Try.pinned (OpenSpec.ofChange fixMulsSpec)

/-- ITS FALSE NEIGHBOUR: 'it returns false'. Refute it at one input. -/
def fixMulsWrong : ChangeSpec := { name := "fixMuls", fn := fun _ => fun
  | [d1, d2] => { results := [.lit (.bool false)], args := [d1, d2] }
  | _ => none }
def FixMulsWrongFalsely : Prop := fixMulsRow.holds Try.pinned (OpenSpec.ofChange fixMulsWrong)

/-- 'peloruslaw02.FixExact': WHATEVER THE INPUT: true; the input reads as it did. -/
def fixExactSpec : ChangeSpec := { name := "fixExact", fn := fun _ => fun
  | [d1, d2] => { results := [.lit (.bool true)], args := [d1, d2] }
  | _ => none }
def fixExactRow : OpenClaim := { program := "ytpcblnkllakejaa", sum := "f2228e241520c30caf94ac571f5ae10f1edaf937269be902ed4cc5f1e5f2c87d", func := "pelorus/peloruslaw02.FixExact", spec := "fixExact", apart := false }
def FixExactSaid : Prop := fixExactRow.holds Try.pinned (OpenSpec.ofChange fixExactSpec)

/-- ITS FALSE NEIGHBOUR: 'it returns false'. Refute it at one input. -/
def fixExactWrong : ChangeSpec := { name := "fixExact", fn := fun _ => fun
  | [d1, d2] => { results := [.lit (.bool false)], args := [d1, d2] }
  | _ => none }
def FixExactWrongFalsely : Prop := fixExactRow.holds Try.pinned (OpenSpec.ofChange fixExactWrong)

/- THE SECOND FORM. 'bulk': how many values and letters a reading holds, each counted each time it is reached (what is shared counts as often as it is met; a slice's spare places count too). A statement '..UptoSaid' is the law's where the arguments, and the package variables that the reading takes, are together of bulk at most 1048576: NARROWER than '..Said'. Prove '..Said' where nothing that the law and all that it calls make is longer than what came in: it says more and counts as full. Else prove '..UptoSaid'. A law counts once. -/
mutual
def uptoBulk {H : Type} : DataW H → Nat
  | .lit (.string bytes) => bytes.length + 1
  | .lit _ => 1
  | .nil => 1
  | .ptr d => uptoBulk d + 1
  | .slice elems spare => uptoBulkAll elems + uptoBulkAll spare + 1
  | .agg parts => uptoBulkAll parts + 1
  | .iface _ d => uptoBulk d + 1
  | .map entries => uptoBulkEntries entries + 1
  | .held _ => 1
def uptoBulkAll {H : Type} : List (DataW H) → Nat
  | [] => 0
  | d :: r => uptoBulk d + uptoBulkAll r
def uptoBulkEntries {H : Type} : List (Lit × DataW H) → Nat
  | [] => 0
  | x :: r => uptoBulkEntry x + uptoBulkEntries r
def uptoBulkEntry {H : Type} : Lit × DataW H → Nat
  | (.string bytes, d) => bytes.length + uptoBulk d + 1
  | (_, d) => uptoBulk d + 1
 end
def uptoSmall : (H : Type) → List (DataW H) → Bool := fun _ ds => decide (uptoBulkAll ds ≤ 1048576)
def OpenSpec.upto (s : _root_.Go.ChangeSpec) : _root_.Go.OpenSpec := { _root_.Go.OpenSpec.ofChange s with cond := some uptoSmall }

/-- 'peloruslaw03.SmallTurns', WHERE WHAT IT READS IS OF BULK AT MOST 1048576: true; the input reads as it did. -/
def smallTurnsUptoRow : OpenClaim := { program := "ytpcblnkllakejaa", sum := "f2228e241520c30caf94ac571f5ae10f1edaf937269be902ed4cc5f1e5f2c87d", func := "pelorus/peloruslaw03.SmallTurns", spec := "smallTurns", apart := false, narrowed := true }
def SmallTurnsUptoSaid : Prop := smallTurnsUptoRow.holds Try.pinned (OpenSpec.upto smallTurnsSpec)

/-- 'peloruslaw03.SmallAround', WHERE WHAT IT READS IS OF BULK AT MOST 1048576: true; the input reads as it did. -/
def smallAroundUptoRow : OpenClaim := { program := "ytpcblnkllakejaa", sum := "f2228e241520c30caf94ac571f5ae10f1edaf937269be902ed4cc5f1e5f2c87d", func := "pelorus/peloruslaw03.SmallAround", spec := "smallAround", apart := false, narrowed := true }
def SmallAroundUptoSaid : Prop := smallAroundUptoRow.holds Try.pinned (OpenSpec.upto smallAroundSpec)

/-- 'peloruslaw03.SmallBytes', WHERE WHAT IT READS IS OF BULK AT MOST 1048576: true; the input reads as it did. -/
def smallBytesUptoRow : OpenClaim := { program := "ytpcblnkllakejaa", sum := "f2228e241520c30caf94ac571f5ae10f1edaf937269be902ed4cc5f1e5f2c87d", func := "pelorus/peloruslaw03.SmallBytes", spec := "smallBytes", apart := false, narrowed := true }
def SmallBytesUptoSaid : Prop := smallBytesUptoRow.holds Try.pinned (OpenSpec.upto smallBytesSpec)

/-- 'peloruslaw03.SmallBack', WHERE WHAT IT READS IS OF BULK AT MOST 1048576: true; the input reads as it did. -/
def smallBackUptoRow : OpenClaim := { program := "ytpcblnkllakejaa", sum := "f2228e241520c30caf94ac571f5ae10f1edaf937269be902ed4cc5f1e5f2c87d", func := "pelorus/peloruslaw03.SmallBack", spec := "smallBack", apart := false, narrowed := true }
def SmallBackUptoSaid : Prop := smallBackUptoRow.holds Try.pinned (OpenSpec.upto smallBackSpec)

/-- 'peloruslaw01.WideMuls', WHERE WHAT IT READS IS OF BULK AT MOST 1048576: true; the input reads as it did. -/
def wideMulsUptoRow : OpenClaim := { program := "ytpcblnkllakejaa", sum := "f2228e241520c30caf94ac571f5ae10f1edaf937269be902ed4cc5f1e5f2c87d", func := "pelorus/peloruslaw01.WideMuls", spec := "wideMuls", apart := false, narrowed := true }
def WideMulsUptoSaid : Prop := wideMulsUptoRow.holds Try.pinned (OpenSpec.upto wideMulsSpec)

/-- 'peloruslaw01.WideRing', WHERE WHAT IT READS IS OF BULK AT MOST 1048576: true; the input reads as it did. -/
def wideRingUptoRow : OpenClaim := { program := "ytpcblnkllakejaa", sum := "f2228e241520c30caf94ac571f5ae10f1edaf937269be902ed4cc5f1e5f2c87d", func := "pelorus/peloruslaw01.WideRing", spec := "wideRing", apart := false, narrowed := true }
def WideRingUptoSaid : Prop := wideRingUptoRow.holds Try.pinned (OpenSpec.upto wideRingSpec)

/-- 'peloruslaw01.WideShifts', WHERE WHAT IT READS IS OF BULK AT MOST 1048576: true; the input reads as it did. -/
def wideShiftsUptoRow : OpenClaim := { program := "ytpcblnkllakejaa", sum := "f2228e241520c30caf94ac571f5ae10f1edaf937269be902ed4cc5f1e5f2c87d", func := "pelorus/peloruslaw01.WideShifts", spec := "wideShifts", apart := false, narrowed := true }
def WideShiftsUptoSaid : Prop := wideShiftsUptoRow.holds Try.pinned (OpenSpec.upto wideShiftsSpec)

/-- 'peloruslaw01.WideAdds', WHERE WHAT IT READS IS OF BULK AT MOST 1048576: true; the input reads as it did. -/
def wideAddsUptoRow : OpenClaim := { program := "ytpcblnkllakejaa", sum := "f2228e241520c30caf94ac571f5ae10f1edaf937269be902ed4cc5f1e5f2c87d", func := "pelorus/peloruslaw01.WideAdds", spec := "wideAdds", apart := false, narrowed := true }
def WideAddsUptoSaid : Prop := wideAddsUptoRow.holds Try.pinned (OpenSpec.upto wideAddsSpec)

/-- 'peloruslaw01.WideTurned', WHERE WHAT IT READS IS OF BULK AT MOST 1048576: true; the input reads as it did. -/
def wideTurnedUptoRow : OpenClaim := { program := "ytpcblnkllakejaa", sum := "f2228e241520c30caf94ac571f5ae10f1edaf937269be902ed4cc5f1e5f2c87d", func := "pelorus/peloruslaw01.WideTurned", spec := "wideTurned", apart := false, narrowed := true }
def WideTurnedUptoSaid : Prop := wideTurnedUptoRow.holds Try.pinned (OpenSpec.upto wideTurnedSpec)

/-- 'peloruslaw04.RootTells', WHERE WHAT IT READS IS OF BULK AT MOST 1048576: true; the input reads as it did. -/
def rootTellsUptoRow : OpenClaim := { program := "ytpcblnkllakejaa", sum := "f2228e241520c30caf94ac571f5ae10f1edaf937269be902ed4cc5f1e5f2c87d", func := "pelorus/peloruslaw04.RootTells", spec := "rootTells", apart := false, narrowed := true }
def RootTellsUptoSaid : Prop := rootTellsUptoRow.holds Try.pinned (OpenSpec.upto rootTellsSpec)

/-- 'peloruslaw04.RootGreatest', WHERE WHAT IT READS IS OF BULK AT MOST 1048576: true; the input reads as it did. -/
def rootGreatestUptoRow : OpenClaim := { program := "ytpcblnkllakejaa", sum := "f2228e241520c30caf94ac571f5ae10f1edaf937269be902ed4cc5f1e5f2c87d", func := "pelorus/peloruslaw04.RootGreatest", spec := "rootGreatest", apart := false, narrowed := true }
def RootGreatestUptoSaid : Prop := rootGreatestUptoRow.holds Try.pinned (OpenSpec.upto rootGreatestSpec)

/-- 'peloruslaw04.RootBack', WHERE WHAT IT READS IS OF BULK AT MOST 1048576: true; the input reads as it did. -/
def rootBackUptoRow : OpenClaim := { program := "ytpcblnkllakejaa", sum := "f2228e241520c30caf94ac571f5ae10f1edaf937269be902ed4cc5f1e5f2c87d", func := "pelorus/peloruslaw04.RootBack", spec := "rootBack", apart := false, narrowed := true }
def RootBackUptoSaid : Prop := rootBackUptoRow.holds Try.pinned (OpenSpec.upto rootBackSpec)

/-- 'peloruslaw04.RootFix', WHERE WHAT IT READS IS OF BULK AT MOST 1048576: true; the input reads as it did. -/
def rootFixUptoRow : OpenClaim := { program := "ytpcblnkllakejaa", sum := "f2228e241520c30caf94ac571f5ae10f1edaf937269be902ed4cc5f1e5f2c87d", func := "pelorus/peloruslaw04.RootFix", spec := "rootFix", apart := false, narrowed := true }
def RootFixUptoSaid : Prop := rootFixUptoRow.holds Try.pinned (OpenSpec.upto rootFixSpec)

/-- 'peloruslaw02.FixSteady', WHERE WHAT IT READS IS OF BULK AT MOST 1048576: true; the input reads as it did. -/
def fixSteadyUptoRow : OpenClaim := { program := "ytpcblnkllakejaa", sum := "f2228e241520c30caf94ac571f5ae10f1edaf937269be902ed4cc5f1e5f2c87d", func := "pelorus/peloruslaw02.FixSteady", spec := "fixSteady", apart := false, narrowed := true }
def FixSteadyUptoSaid : Prop := fixSteadyUptoRow.holds Try.pinned (OpenSpec.upto fixSteadySpec)

/-- 'peloruslaw03.SmallTells', WHERE WHAT IT READS IS OF BULK AT MOST 1048576: true; the input reads as it did. -/
def smallTellsUptoRow : OpenClaim := { program := "ytpcblnkllakejaa", sum := "f2228e241520c30caf94ac571f5ae10f1edaf937269be902ed4cc5f1e5f2c87d", func := "pelorus/peloruslaw03.SmallTells", spec := "smallTells", apart := false, narrowed := true }
def SmallTellsUptoSaid : Prop := smallTellsUptoRow.holds Try.pinned (OpenSpec.upto smallTellsSpec)

/-- 'peloruslaw02.FixSums', WHERE WHAT IT READS IS OF BULK AT MOST 1048576: true; the input reads as it did. -/
def fixSumsUptoRow : OpenClaim := { program := "ytpcblnkllakejaa", sum := "f2228e241520c30caf94ac571f5ae10f1edaf937269be902ed4cc5f1e5f2c87d", func := "pelorus/peloruslaw02.FixSums", spec := "fixSums", apart := false, narrowed := true }
def FixSumsUptoSaid : Prop := fixSumsUptoRow.holds Try.pinned (OpenSpec.upto fixSumsSpec)

/-- 'peloruslaw02.FixBetween', WHERE WHAT IT READS IS OF BULK AT MOST 1048576: true; the input reads as it did. -/
def fixBetweenUptoRow : OpenClaim := { program := "ytpcblnkllakejaa", sum := "f2228e241520c30caf94ac571f5ae10f1edaf937269be902ed4cc5f1e5f2c87d", func := "pelorus/peloruslaw02.FixBetween", spec := "fixBetween", apart := false, narrowed := true }
def FixBetweenUptoSaid : Prop := fixBetweenUptoRow.holds Try.pinned (OpenSpec.upto fixBetweenSpec)

/-- 'peloruslaw01.WideDivs', WHERE WHAT IT READS IS OF BULK AT MOST 1048576: true; the input reads as it did. -/
def wideDivsUptoRow : OpenClaim := { program := "ytpcblnkllakejaa", sum := "f2228e241520c30caf94ac571f5ae10f1edaf937269be902ed4cc5f1e5f2c87d", func := "pelorus/peloruslaw01.WideDivs", spec := "wideDivs", apart := false, narrowed := true }
def WideDivsUptoSaid : Prop := wideDivsUptoRow.holds Try.pinned (OpenSpec.upto wideDivsSpec)

/-- 'peloruslaw02.FixAdds', WHERE WHAT IT READS IS OF BULK AT MOST 1048576: true; the input reads as it did. -/
def fixAddsUptoRow : OpenClaim := { program := "ytpcblnkllakejaa", sum := "f2228e241520c30caf94ac571f5ae10f1edaf937269be902ed4cc5f1e5f2c87d", func := "pelorus/peloruslaw02.FixAdds", spec := "fixAdds", apart := false, narrowed := true }
def FixAddsUptoSaid : Prop := fixAddsUptoRow.holds Try.pinned (OpenSpec.upto fixAddsSpec)

/-- 'peloruslaw01.WideBack', WHERE WHAT IT READS IS OF BULK AT MOST 1048576: true; the input reads as it did. -/
def wideBackUptoRow : OpenClaim := { program := "ytpcblnkllakejaa", sum := "f2228e241520c30caf94ac571f5ae10f1edaf937269be902ed4cc5f1e5f2c87d", func := "pelorus/peloruslaw01.WideBack", spec := "wideBack", apart := false, narrowed := true }
def WideBackUptoSaid : Prop := wideBackUptoRow.holds Try.pinned (OpenSpec.upto wideBackSpec)

/-- 'peloruslaw02.FixMuls', WHERE WHAT IT READS IS OF BULK AT MOST 1048576: true; the input reads as it did. -/
def fixMulsUptoRow : OpenClaim := { program := "ytpcblnkllakejaa", sum := "f2228e241520c30caf94ac571f5ae10f1edaf937269be902ed4cc5f1e5f2c87d", func := "pelorus/peloruslaw02.FixMuls", spec := "fixMuls", apart := false, narrowed := true }
def FixMulsUptoSaid : Prop := fixMulsUptoRow.holds Try.pinned (OpenSpec.upto fixMulsSpec)

/-- 'peloruslaw02.FixExact', WHERE WHAT IT READS IS OF BULK AT MOST 1048576: true; the input reads as it did. -/
def fixExactUptoRow : OpenClaim := { program := "ytpcblnkllakejaa", sum := "f2228e241520c30caf94ac571f5ae10f1edaf937269be902ed4cc5f1e5f2c87d", func := "pelorus/peloruslaw02.FixExact", spec := "fixExact", apart := false, narrowed := true }
def FixExactUptoSaid : Prop := fixExactUptoRow.holds Try.pinned (OpenSpec.upto fixExactSpec)

end Rows
end Go.Proofs.Ytpcblnkllakejaa
