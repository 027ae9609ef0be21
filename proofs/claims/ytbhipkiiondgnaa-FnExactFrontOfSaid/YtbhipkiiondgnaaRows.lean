/-
  No cell of these rows narrows 'for every input' (looked for: loops, veiled, ifaces, maps, wideKeys, modest, calm, conditions, laid).
  DERIVED. THE GIVEN ROWS OF THIS SEAT. 18 by the template 'for every input the law returns true; each argument reads behind the call as it read before'; 0 by the template 'total and deterministic' (their statements: YtbhipkiiondgnaaTotals.lean).
  GIVEN WITH THE SEED: the statements are not yours to turn. If you find one false, say at which input.
  Laid BY PROGRAM, IN A SANDBOX (cutbox-rows.mjs): the forced cells as the released guide's own fill.sh prints them over the translation bd310b9974660dd3… (all of the seat's roots in one cut). By AI agents, Wed Nov 11 2026. No macro, syntax, notation, axiom, sorry.
-/
import Derived.Test.YtbhipkiiondgnaaChecked
import GoSem.Claim
import GoSem.ClaimJoined
import GoSem.ClaimMapViews
import Derived.JoinedTies
import Derived.KernelRfl
namespace Go.Proofs.Ytbhipkiiondgnaa
/- THE CELL 'sum', in the pinned program and in every row, IS THE sha256 OF THE DUMP (.gsa) THAT YtbhipkiiondgnaaProg.lean LOADS. Nothing in Lean hashes anything: it is a label: what it is worth is what the hold of that sum in a sandbox is worth. -/
noncomputable def Try.pinned : Pinned := { name := "ytbhipkiiondgnaa", sum := "bd310b9974660dd311efd82f65fd675e480f891f44dd5a5d7c367bd746c33e3b", checked := Try.checked }
namespace Rows
def none {H : Type} : Left H := { results := [], args := [] }

/-- 'laws.FnExactSameBrine': WHATEVER THE INPUT: true; the input reads as it did. -/
def fnExactSameBrineSpec : ChangeSpec := { name := "fnExactSameBrine", fn := fun _ => fun
  | [d1, d2] => { results := [.lit (.bool true)], args := [d1, d2] }
  | _ => none }
def fnExactSameBrineRow : OpenClaim := { program := "ytbhipkiiondgnaa", sum := "bd310b9974660dd311efd82f65fd675e480f891f44dd5a5d7c367bd746c33e3b", func := "loop.example/g01288/laws.FnExactSameBrine", spec := "fnExactSameBrine", inPlace := ["math.Float32bits"], apart := false }
def FnExactSameBrineSaid : Prop := fnExactSameBrineRow.holds Try.pinned (OpenSpec.ofChange fnExactSameBrineSpec)

/-- ITS FALSE NEIGHBOUR: 'it returns false'. Refute it at one input. -/
def fnExactSameBrineWrong : ChangeSpec := { name := "fnExactSameBrine", fn := fun _ => fun
  | [d1, d2] => { results := [.lit (.bool false)], args := [d1, d2] }
  | _ => none }
def FnExactSameBrineWrongFalsely : Prop := fnExactSameBrineRow.holds Try.pinned (OpenSpec.ofChange fnExactSameBrineWrong)

/-- 'laws.FnExactEvenGround': WHATEVER THE INPUT: true; the input reads as it did. -/
def fnExactEvenGroundSpec : ChangeSpec := { name := "fnExactEvenGround", fn := fun _ => fun
  | [d1, d2, d3, d4] => { results := [.lit (.bool true)], args := [d1, d2, d3, d4] }
  | _ => none }
def fnExactEvenGroundRow : OpenClaim := { program := "ytbhipkiiondgnaa", sum := "bd310b9974660dd311efd82f65fd675e480f891f44dd5a5d7c367bd746c33e3b", func := "loop.example/g01288/laws.FnExactEvenGround", spec := "fnExactEvenGround", apart := false }
def FnExactEvenGroundSaid : Prop := fnExactEvenGroundRow.holds Try.pinned (OpenSpec.ofChange fnExactEvenGroundSpec)

/-- ITS FALSE NEIGHBOUR: 'it returns false'. Refute it at one input. -/
def fnExactEvenGroundWrong : ChangeSpec := { name := "fnExactEvenGround", fn := fun _ => fun
  | [d1, d2, d3, d4] => { results := [.lit (.bool false)], args := [d1, d2, d3, d4] }
  | _ => none }
def FnExactEvenGroundWrongFalsely : Prop := fnExactEvenGroundRow.holds Try.pinned (OpenSpec.ofChange fnExactEvenGroundWrong)

/-- 'laws.FnExactHeadsBetween': WHATEVER THE INPUT: true; the input reads as it did. -/
def fnExactHeadsBetweenSpec : ChangeSpec := { name := "fnExactHeadsBetween", fn := fun _ => fun
  | [d] => { results := [.lit (.bool true)], args := [d] }
  | _ => none }
def fnExactHeadsBetweenRow : OpenClaim := { program := "ytbhipkiiondgnaa", sum := "bd310b9974660dd311efd82f65fd675e480f891f44dd5a5d7c367bd746c33e3b", func := "loop.example/g01288/laws.FnExactHeadsBetween", spec := "fnExactHeadsBetween", unfollowed := true, recurses := true, apart := false }
def FnExactHeadsBetweenSaid : Prop := fnExactHeadsBetweenRow.holds Try.pinned (OpenSpec.ofChange fnExactHeadsBetweenSpec)

/-- ITS FALSE NEIGHBOUR: 'it returns false'. Refute it at one input. -/
def fnExactHeadsBetweenWrong : ChangeSpec := { name := "fnExactHeadsBetween", fn := fun _ => fun
  | [d] => { results := [.lit (.bool false)], args := [d] }
  | _ => none }
def FnExactHeadsBetweenWrongFalsely : Prop := fnExactHeadsBetweenRow.holds Try.pinned (OpenSpec.ofChange fnExactHeadsBetweenWrong)

/-- 'laws.FnExactChangesBetween': WHATEVER THE INPUT: true; the input reads as it did. -/
def fnExactChangesBetweenSpec : ChangeSpec := { name := "fnExactChangesBetween", fn := fun _ => fun
  | [d1, d2] => { results := [.lit (.bool true)], args := [d1, d2] }
  | _ => none }
def fnExactChangesBetweenRow : OpenClaim := { program := "ytbhipkiiondgnaa", sum := "bd310b9974660dd311efd82f65fd675e480f891f44dd5a5d7c367bd746c33e3b", func := "loop.example/g01288/laws.FnExactChangesBetween", spec := "fnExactChangesBetween", unfollowed := true, recurses := true, apart := false }
def FnExactChangesBetweenSaid : Prop := fnExactChangesBetweenRow.holds Try.pinned (OpenSpec.ofChange fnExactChangesBetweenSpec)

/-- ITS FALSE NEIGHBOUR: 'it returns false'. Refute it at one input. -/
def fnExactChangesBetweenWrong : ChangeSpec := { name := "fnExactChangesBetween", fn := fun _ => fun
  | [d1, d2] => { results := [.lit (.bool false)], args := [d1, d2] }
  | _ => none }
def FnExactChangesBetweenWrongFalsely : Prop := fnExactChangesBetweenRow.holds Try.pinned (OpenSpec.ofChange fnExactChangesBetweenWrong)

/-- 'laws.FnExactSumOver': WHATEVER THE INPUT: true; the input reads as it did. -/
def fnExactSumOverSpec : ChangeSpec := { name := "fnExactSumOver", fn := fun _ => fun
  | [d1, d2] => { results := [.lit (.bool true)], args := [d1, d2] }
  | _ => none }
def fnExactSumOverRow : OpenClaim := { program := "ytbhipkiiondgnaa", sum := "bd310b9974660dd311efd82f65fd675e480f891f44dd5a5d7c367bd746c33e3b", func := "loop.example/g01288/laws.FnExactSumOver", spec := "fnExactSumOver", unfollowed := true, recurses := true, apart := false }
def FnExactSumOverSaid : Prop := fnExactSumOverRow.holds Try.pinned (OpenSpec.ofChange fnExactSumOverSpec)

/-- ITS FALSE NEIGHBOUR: 'it returns false'. Refute it at one input. -/
def fnExactSumOverWrong : ChangeSpec := { name := "fnExactSumOver", fn := fun _ => fun
  | [d1, d2] => { results := [.lit (.bool false)], args := [d1, d2] }
  | _ => none }
def FnExactSumOverWrongFalsely : Prop := fnExactSumOverRow.holds Try.pinned (OpenSpec.ofChange fnExactSumOverWrong)

/-- 'laws.FnExactWarmUp': WHATEVER THE INPUT: true; the input reads as it did. -/
def fnExactWarmUpSpec : ChangeSpec := { name := "fnExactWarmUp", fn := fun _ => fun
  | [d1, d2] => { results := [.lit (.bool true)], args := [d1, d2] }
  | _ => none }
def fnExactWarmUpRow : OpenClaim := { program := "ytbhipkiiondgnaa", sum := "bd310b9974660dd311efd82f65fd675e480f891f44dd5a5d7c367bd746c33e3b", func := "loop.example/g01288/laws.FnExactWarmUp", spec := "fnExactWarmUp", unfollowed := true, recurses := true, apart := false }
def FnExactWarmUpSaid : Prop := fnExactWarmUpRow.holds Try.pinned (OpenSpec.ofChange fnExactWarmUpSpec)

/-- ITS FALSE NEIGHBOUR: 'it returns false'. Refute it at one input. -/
def fnExactWarmUpWrong : ChangeSpec := { name := "fnExactWarmUp", fn := fun _ => fun
  | [d1, d2] => { results := [.lit (.bool false)], args := [d1, d2] }
  | _ => none }
def FnExactWarmUpWrongFalsely : Prop := fnExactWarmUpRow.holds Try.pinned (OpenSpec.ofChange fnExactWarmUpWrong)

/-- 'laws.FnExactMirrorGround': WHATEVER THE INPUT: true; the input reads as it did. -/
def fnExactMirrorGroundSpec : ChangeSpec := { name := "fnExactMirrorGround", fn := fun _ => fun
  | [d] => { results := [.lit (.bool true)], args := [d] }
  | _ => none }
def fnExactMirrorGroundRow : OpenClaim := { program := "ytbhipkiiondgnaa", sum := "bd310b9974660dd311efd82f65fd675e480f891f44dd5a5d7c367bd746c33e3b", func := "loop.example/g01288/laws.FnExactMirrorGround", spec := "fnExactMirrorGround", unfollowed := true, recurses := true, apart := false }
def FnExactMirrorGroundSaid : Prop := fnExactMirrorGroundRow.holds Try.pinned (OpenSpec.ofChange fnExactMirrorGroundSpec)

/-- ITS FALSE NEIGHBOUR: 'it returns false'. Refute it at one input. -/
def fnExactMirrorGroundWrong : ChangeSpec := { name := "fnExactMirrorGround", fn := fun _ => fun
  | [d] => { results := [.lit (.bool false)], args := [d] }
  | _ => none }
def FnExactMirrorGroundWrongFalsely : Prop := fnExactMirrorGroundRow.holds Try.pinned (OpenSpec.ofChange fnExactMirrorGroundWrong)

/-- 'laws.FnExactWithConduct': WHATEVER THE INPUT: true; the input reads as it did. -/
def fnExactWithConductSpec : ChangeSpec := { name := "fnExactWithConduct", fn := fun _ => fun
  | [d1, d2, d3] => { results := [.lit (.bool true)], args := [d1, d2, d3] }
  | _ => none }
def fnExactWithConductRow : OpenClaim := { program := "ytbhipkiiondgnaa", sum := "bd310b9974660dd311efd82f65fd675e480f891f44dd5a5d7c367bd746c33e3b", func := "loop.example/g01288/laws.FnExactWithConduct", spec := "fnExactWithConduct", unfollowed := true, recurses := true, apart := false }
def FnExactWithConductSaid : Prop := fnExactWithConductRow.holds Try.pinned (OpenSpec.ofChange fnExactWithConductSpec)

/-- ITS FALSE NEIGHBOUR: 'it returns false'. Refute it at one input. -/
def fnExactWithConductWrong : ChangeSpec := { name := "fnExactWithConduct", fn := fun _ => fun
  | [d1, d2, d3] => { results := [.lit (.bool false)], args := [d1, d2, d3] }
  | _ => none }
def FnExactWithConductWrongFalsely : Prop := fnExactWithConductRow.holds Try.pinned (OpenSpec.ofChange fnExactWithConductWrong)

/-- 'laws.FnExactWithGain': WHATEVER THE INPUT: true; the input reads as it did. -/
def fnExactWithGainSpec : ChangeSpec := { name := "fnExactWithGain", fn := fun _ => fun
  | [d1, d2, d3] => { results := [.lit (.bool true)], args := [d1, d2, d3] }
  | _ => none }
def fnExactWithGainRow : OpenClaim := { program := "ytbhipkiiondgnaa", sum := "bd310b9974660dd311efd82f65fd675e480f891f44dd5a5d7c367bd746c33e3b", func := "loop.example/g01288/laws.FnExactWithGain", spec := "fnExactWithGain", unfollowed := true, recurses := true, apart := false }
def FnExactWithGainSaid : Prop := fnExactWithGainRow.holds Try.pinned (OpenSpec.ofChange fnExactWithGainSpec)

/-- ITS FALSE NEIGHBOUR: 'it returns false'. Refute it at one input. -/
def fnExactWithGainWrong : ChangeSpec := { name := "fnExactWithGain", fn := fun _ => fun
  | [d1, d2, d3] => { results := [.lit (.bool false)], args := [d1, d2, d3] }
  | _ => none }
def FnExactWithGainWrongFalsely : Prop := fnExactWithGainRow.holds Try.pinned (OpenSpec.ofChange fnExactWithGainWrong)

/-- 'laws.FnExactWithHead': WHATEVER THE INPUT: true; the input reads as it did. -/
def fnExactWithHeadSpec : ChangeSpec := { name := "fnExactWithHead", fn := fun _ => fun
  | [d1, d2, d3] => { results := [.lit (.bool true)], args := [d1, d2, d3] }
  | _ => none }
def fnExactWithHeadRow : OpenClaim := { program := "ytbhipkiiondgnaa", sum := "bd310b9974660dd311efd82f65fd675e480f891f44dd5a5d7c367bd746c33e3b", func := "loop.example/g01288/laws.FnExactWithHead", spec := "fnExactWithHead", unfollowed := true, recurses := true, apart := false }
def FnExactWithHeadSaid : Prop := fnExactWithHeadRow.holds Try.pinned (OpenSpec.ofChange fnExactWithHeadSpec)

/-- ITS FALSE NEIGHBOUR: 'it returns false'. Refute it at one input. -/
def fnExactWithHeadWrong : ChangeSpec := { name := "fnExactWithHead", fn := fun _ => fun
  | [d1, d2, d3] => { results := [.lit (.bool false)], args := [d1, d2, d3] }
  | _ => none }
def FnExactWithHeadWrongFalsely : Prop := fnExactWithHeadRow.holds Try.pinned (OpenSpec.ofChange fnExactWithHeadWrong)

/-- 'laws.FnExactGreatestChange': WHATEVER THE INPUT: true; the input reads as it did. -/
def fnExactGreatestChangeSpec : ChangeSpec := { name := "fnExactGreatestChange", fn := fun _ => fun
  | [d1, d2] => { results := [.lit (.bool true)], args := [d1, d2] }
  | _ => none }
def fnExactGreatestChangeRow : OpenClaim := { program := "ytbhipkiiondgnaa", sum := "bd310b9974660dd311efd82f65fd675e480f891f44dd5a5d7c367bd746c33e3b", func := "loop.example/g01288/laws.FnExactGreatestChange", spec := "fnExactGreatestChange", inPlace := ["math.Float64bits", "math.Float64frombits"], unfollowed := true, recurses := true, apart := false }
def FnExactGreatestChangeSaid : Prop := fnExactGreatestChangeRow.holds Try.pinned (OpenSpec.ofChange fnExactGreatestChangeSpec)

/-- ITS FALSE NEIGHBOUR: 'it returns false'. Refute it at one input. -/
def fnExactGreatestChangeWrong : ChangeSpec := { name := "fnExactGreatestChange", fn := fun _ => fun
  | [d1, d2] => { results := [.lit (.bool false)], args := [d1, d2] }
  | _ => none }
def FnExactGreatestChangeWrongFalsely : Prop := fnExactGreatestChangeRow.holds Try.pinned (OpenSpec.ofChange fnExactGreatestChangeWrong)

/-- 'laws.FnExactWithFixed': WHATEVER THE INPUT: true; the input reads as it did. -/
def fnExactWithFixedSpec : ChangeSpec := { name := "fnExactWithFixed", fn := fun _ => fun
  | [d1, d2, d3] => { results := [.lit (.bool true)], args := [d1, d2, d3] }
  | _ => none }
def fnExactWithFixedRow : OpenClaim := { program := "ytbhipkiiondgnaa", sum := "bd310b9974660dd311efd82f65fd675e480f891f44dd5a5d7c367bd746c33e3b", func := "loop.example/g01288/laws.FnExactWithFixed", spec := "fnExactWithFixed", unfollowed := true, recurses := true, apart := false }
def FnExactWithFixedSaid : Prop := fnExactWithFixedRow.holds Try.pinned (OpenSpec.ofChange fnExactWithFixedSpec)

/-- ITS FALSE NEIGHBOUR: 'it returns false'. Refute it at one input. -/
def fnExactWithFixedWrong : ChangeSpec := { name := "fnExactWithFixed", fn := fun _ => fun
  | [d1, d2, d3] => { results := [.lit (.bool false)], args := [d1, d2, d3] }
  | _ => none }
def FnExactWithFixedWrongFalsely : Prop := fnExactWithFixedRow.holds Try.pinned (OpenSpec.ofChange fnExactWithFixedWrong)

/-- 'laws.FnExactFedCells': WHATEVER THE INPUT: true; the input reads as it did. -/
def fnExactFedCellsSpec : ChangeSpec := { name := "fnExactFedCells", fn := fun _ => fun
  | [d] => { results := [.lit (.bool true)], args := [d] }
  | _ => none }
def fnExactFedCellsRow : OpenClaim := { program := "ytbhipkiiondgnaa", sum := "bd310b9974660dd311efd82f65fd675e480f891f44dd5a5d7c367bd746c33e3b", func := "loop.example/g01288/laws.FnExactFedCells", spec := "fnExactFedCells", unfollowed := true, recurses := true, apart := false }
def FnExactFedCellsSaid : Prop := fnExactFedCellsRow.holds Try.pinned (OpenSpec.ofChange fnExactFedCellsSpec)

/-- ITS FALSE NEIGHBOUR: 'it returns false'. Refute it at one input. -/
def fnExactFedCellsWrong : ChangeSpec := { name := "fnExactFedCells", fn := fun _ => fun
  | [d] => { results := [.lit (.bool false)], args := [d] }
  | _ => none }
def FnExactFedCellsWrongFalsely : Prop := fnExactFedCellsRow.holds Try.pinned (OpenSpec.ofChange fnExactFedCellsWrong)

/-- 'laws.FnExactValidBrine': WHATEVER THE INPUT: true; the input reads as it did. -/
def fnExactValidBrineSpec : ChangeSpec := { name := "fnExactValidBrine", fn := fun _ => fun
  | [d] => { results := [.lit (.bool true)], args := [d] }
  | _ => none }
def fnExactValidBrineRow : OpenClaim := { program := "ytbhipkiiondgnaa", sum := "bd310b9974660dd311efd82f65fd675e480f891f44dd5a5d7c367bd746c33e3b", func := "loop.example/g01288/laws.FnExactValidBrine", spec := "fnExactValidBrine", unfollowed := true, recurses := true, apart := false }
def FnExactValidBrineSaid : Prop := fnExactValidBrineRow.holds Try.pinned (OpenSpec.ofChange fnExactValidBrineSpec)

/-- ITS FALSE NEIGHBOUR: 'it returns false'. Refute it at one input. -/
def fnExactValidBrineWrong : ChangeSpec := { name := "fnExactValidBrine", fn := fun _ => fun
  | [d] => { results := [.lit (.bool false)], args := [d] }
  | _ => none }
def FnExactValidBrineWrongFalsely : Prop := fnExactValidBrineRow.holds Try.pinned (OpenSpec.ofChange fnExactValidBrineWrong)

/-- 'laws.FnExactFlowFrom': WHATEVER THE INPUT: true; the input reads as it did. -/
def fnExactFlowFromSpec : ChangeSpec := { name := "fnExactFlowFrom", fn := fun _ => fun
  | [d1, d2, d3] => { results := [.lit (.bool true)], args := [d1, d2, d3] }
  | _ => none }
def fnExactFlowFromRow : OpenClaim := { program := "ytbhipkiiondgnaa", sum := "bd310b9974660dd311efd82f65fd675e480f891f44dd5a5d7c367bd746c33e3b", func := "loop.example/g01288/laws.FnExactFlowFrom", spec := "fnExactFlowFrom", unfollowed := true, recurses := true, apart := false }
def FnExactFlowFromSaid : Prop := fnExactFlowFromRow.holds Try.pinned (OpenSpec.ofChange fnExactFlowFromSpec)

/-- ITS FALSE NEIGHBOUR: 'it returns false'. Refute it at one input. -/
def fnExactFlowFromWrong : ChangeSpec := { name := "fnExactFlowFrom", fn := fun _ => fun
  | [d1, d2, d3] => { results := [.lit (.bool false)], args := [d1, d2, d3] }
  | _ => none }
def FnExactFlowFromWrongFalsely : Prop := fnExactFlowFromRow.holds Try.pinned (OpenSpec.ofChange fnExactFlowFromWrong)

/-- 'laws.FnExactBalanceAt': WHATEVER THE INPUT: true; the input reads as it did. -/
def fnExactBalanceAtSpec : ChangeSpec := { name := "fnExactBalanceAt", fn := fun _ => fun
  | [d1, d2] => { results := [.lit (.bool true)], args := [d1, d2] }
  | _ => none }
def fnExactBalanceAtRow : OpenClaim := { program := "ytbhipkiiondgnaa", sum := "bd310b9974660dd311efd82f65fd675e480f891f44dd5a5d7c367bd746c33e3b", func := "loop.example/g01288/laws.FnExactBalanceAt", spec := "fnExactBalanceAt", unfollowed := true, recurses := true, apart := false }
def FnExactBalanceAtSaid : Prop := fnExactBalanceAtRow.holds Try.pinned (OpenSpec.ofChange fnExactBalanceAtSpec)

/-- ITS FALSE NEIGHBOUR: 'it returns false'. Refute it at one input. -/
def fnExactBalanceAtWrong : ChangeSpec := { name := "fnExactBalanceAt", fn := fun _ => fun
  | [d1, d2] => { results := [.lit (.bool false)], args := [d1, d2] }
  | _ => none }
def FnExactBalanceAtWrongFalsely : Prop := fnExactBalanceAtRow.holds Try.pinned (OpenSpec.ofChange fnExactBalanceAtWrong)

/-- 'laws.FnExactFrontOf': WHATEVER THE INPUT: true; the input reads as it did. -/
def fnExactFrontOfSpec : ChangeSpec := { name := "fnExactFrontOf", fn := fun _ => fun
  | [d1, d2] => { results := [.lit (.bool true)], args := [d1, d2] }
  | _ => none }
def fnExactFrontOfRow : OpenClaim := { program := "ytbhipkiiondgnaa", sum := "bd310b9974660dd311efd82f65fd675e480f891f44dd5a5d7c367bd746c33e3b", func := "loop.example/g01288/laws.FnExactFrontOf", spec := "fnExactFrontOf", unfollowed := true, recurses := true, apart := false }
def FnExactFrontOfSaid : Prop := fnExactFrontOfRow.holds Try.pinned (OpenSpec.ofChange fnExactFrontOfSpec)

/-- ITS FALSE NEIGHBOUR: 'it returns false'. Refute it at one input. -/
def fnExactFrontOfWrong : ChangeSpec := { name := "fnExactFrontOf", fn := fun _ => fun
  | [d1, d2] => { results := [.lit (.bool false)], args := [d1, d2] }
  | _ => none }
def FnExactFrontOfWrongFalsely : Prop := fnExactFrontOfRow.holds Try.pinned (OpenSpec.ofChange fnExactFrontOfWrong)

/-- 'laws.FnExactSettledHead': WHATEVER THE INPUT: true; the input reads as it did. -/
def fnExactSettledHeadSpec : ChangeSpec := { name := "fnExactSettledHead", fn := fun _ => fun
  | [d1, d2] => { results := [.lit (.bool true)], args := [d1, d2] }
  | _ => none }
def fnExactSettledHeadRow : OpenClaim := { program := "ytbhipkiiondgnaa", sum := "bd310b9974660dd311efd82f65fd675e480f891f44dd5a5d7c367bd746c33e3b", func := "loop.example/g01288/laws.FnExactSettledHead", spec := "fnExactSettledHead", unfollowed := true, recurses := true, apart := false }
def FnExactSettledHeadSaid : Prop := fnExactSettledHeadRow.holds Try.pinned (OpenSpec.ofChange fnExactSettledHeadSpec)

/-- ITS FALSE NEIGHBOUR: 'it returns false'. Refute it at one input. -/
def fnExactSettledHeadWrong : ChangeSpec := { name := "fnExactSettledHead", fn := fun _ => fun
  | [d1, d2] => { results := [.lit (.bool false)], args := [d1, d2] }
  | _ => none }
def FnExactSettledHeadWrongFalsely : Prop := fnExactSettledHeadRow.holds Try.pinned (OpenSpec.ofChange fnExactSettledHeadWrong)

/- THE SECOND FORM. 'bulk': how many values and letters a reading holds, each counted each time it is reached (what is shared counts as often as it is met; a slice's spare places count too). A statement '..UptoSaid' is the law's where the arguments, and the package variables that the reading takes, are together of bulk at most 1048576: NARROWER than '..Said'. Prove '..Said' where nothing that the law and all that it calls make is longer than what came in: it says more and counts as full. Else prove '..UptoSaid'. A law counts once. -/
mutual
def uptoBulk {H : Type} : DataW H → Nat
  | .lit (.string bytes) => bytes.length + 1
  | .lit _ => 1
  | .nil => 1
  | .ptr d => uptoBulk d + 1
  | .slice elems spare => uptoBulkAll elems + uptoBulkAll spare + 1
  | .agg parts => uptoBulkAll parts + 1
  | .iface _ d => uptoBulk d + 1
  | .map entries => uptoBulkEntries entries + 1
  | .held _ => 1
def uptoBulkAll {H : Type} : List (DataW H) → Nat
  | [] => 0
  | d :: r => uptoBulk d + uptoBulkAll r
def uptoBulkEntries {H : Type} : List (Lit × DataW H) → Nat
  | [] => 0
  | x :: r => uptoBulkEntry x + uptoBulkEntries r
def uptoBulkEntry {H : Type} : Lit × DataW H → Nat
  | (.string bytes, d) => bytes.length + uptoBulk d + 1
  | (_, d) => uptoBulk d + 1
 end
def uptoSmall : (H : Type) → List (DataW H) → Bool := fun _ ds => decide (uptoBulkAll ds ≤ 1048576)
def OpenSpec.upto (s : _root_.Go.ChangeSpec) : _root_.Go.OpenSpec := { _root_.Go.OpenSpec.ofChange s with cond := some uptoSmall }

/-- 'laws.FnExactSameBrine', WHERE WHAT IT READS IS OF BULK AT MOST 1048576: true; the input reads as it did. -/
def fnExactSameBrineUptoRow : OpenClaim := { program := "ytbhipkiiondgnaa", sum := "bd310b9974660dd311efd82f65fd675e480f891f44dd5a5d7c367bd746c33e3b", func := "loop.example/g01288/laws.FnExactSameBrine", spec := "fnExactSameBrine", inPlace := ["math.Float32bits"], apart := false, narrowed := true }
def FnExactSameBrineUptoSaid : Prop := fnExactSameBrineUptoRow.holds Try.pinned (OpenSpec.upto fnExactSameBrineSpec)

/-- 'laws.FnExactEvenGround', WHERE WHAT IT READS IS OF BULK AT MOST 1048576: true; the input reads as it did. -/
def fnExactEvenGroundUptoRow : OpenClaim := { program := "ytbhipkiiondgnaa", sum := "bd310b9974660dd311efd82f65fd675e480f891f44dd5a5d7c367bd746c33e3b", func := "loop.example/g01288/laws.FnExactEvenGround", spec := "fnExactEvenGround", apart := false, narrowed := true }
def FnExactEvenGroundUptoSaid : Prop := fnExactEvenGroundUptoRow.holds Try.pinned (OpenSpec.upto fnExactEvenGroundSpec)

/-- 'laws.FnExactHeadsBetween', WHERE WHAT IT READS IS OF BULK AT MOST 1048576: true; the input reads as it did. -/
def fnExactHeadsBetweenUptoRow : OpenClaim := { program := "ytbhipkiiondgnaa", sum := "bd310b9974660dd311efd82f65fd675e480f891f44dd5a5d7c367bd746c33e3b", func := "loop.example/g01288/laws.FnExactHeadsBetween", spec := "fnExactHeadsBetween", unfollowed := true, recurses := true, apart := false, narrowed := true }
def FnExactHeadsBetweenUptoSaid : Prop := fnExactHeadsBetweenUptoRow.holds Try.pinned (OpenSpec.upto fnExactHeadsBetweenSpec)

/-- 'laws.FnExactChangesBetween', WHERE WHAT IT READS IS OF BULK AT MOST 1048576: true; the input reads as it did. -/
def fnExactChangesBetweenUptoRow : OpenClaim := { program := "ytbhipkiiondgnaa", sum := "bd310b9974660dd311efd82f65fd675e480f891f44dd5a5d7c367bd746c33e3b", func := "loop.example/g01288/laws.FnExactChangesBetween", spec := "fnExactChangesBetween", unfollowed := true, recurses := true, apart := false, narrowed := true }
def FnExactChangesBetweenUptoSaid : Prop := fnExactChangesBetweenUptoRow.holds Try.pinned (OpenSpec.upto fnExactChangesBetweenSpec)

/-- 'laws.FnExactSumOver', WHERE WHAT IT READS IS OF BULK AT MOST 1048576: true; the input reads as it did. -/
def fnExactSumOverUptoRow : OpenClaim := { program := "ytbhipkiiondgnaa", sum := "bd310b9974660dd311efd82f65fd675e480f891f44dd5a5d7c367bd746c33e3b", func := "loop.example/g01288/laws.FnExactSumOver", spec := "fnExactSumOver", unfollowed := true, recurses := true, apart := false, narrowed := true }
def FnExactSumOverUptoSaid : Prop := fnExactSumOverUptoRow.holds Try.pinned (OpenSpec.upto fnExactSumOverSpec)

/-- 'laws.FnExactWarmUp', WHERE WHAT IT READS IS OF BULK AT MOST 1048576: true; the input reads as it did. -/
def fnExactWarmUpUptoRow : OpenClaim := { program := "ytbhipkiiondgnaa", sum := "bd310b9974660dd311efd82f65fd675e480f891f44dd5a5d7c367bd746c33e3b", func := "loop.example/g01288/laws.FnExactWarmUp", spec := "fnExactWarmUp", unfollowed := true, recurses := true, apart := false, narrowed := true }
def FnExactWarmUpUptoSaid : Prop := fnExactWarmUpUptoRow.holds Try.pinned (OpenSpec.upto fnExactWarmUpSpec)

/-- 'laws.FnExactMirrorGround', WHERE WHAT IT READS IS OF BULK AT MOST 1048576: true; the input reads as it did. -/
def fnExactMirrorGroundUptoRow : OpenClaim := { program := "ytbhipkiiondgnaa", sum := "bd310b9974660dd311efd82f65fd675e480f891f44dd5a5d7c367bd746c33e3b", func := "loop.example/g01288/laws.FnExactMirrorGround", spec := "fnExactMirrorGround", unfollowed := true, recurses := true, apart := false, narrowed := true }
def FnExactMirrorGroundUptoSaid : Prop := fnExactMirrorGroundUptoRow.holds Try.pinned (OpenSpec.upto fnExactMirrorGroundSpec)

/-- 'laws.FnExactWithConduct', WHERE WHAT IT READS IS OF BULK AT MOST 1048576: true; the input reads as it did. -/
def fnExactWithConductUptoRow : OpenClaim := { program := "ytbhipkiiondgnaa", sum := "bd310b9974660dd311efd82f65fd675e480f891f44dd5a5d7c367bd746c33e3b", func := "loop.example/g01288/laws.FnExactWithConduct", spec := "fnExactWithConduct", unfollowed := true, recurses := true, apart := false, narrowed := true }
def FnExactWithConductUptoSaid : Prop := fnExactWithConductUptoRow.holds Try.pinned (OpenSpec.upto fnExactWithConductSpec)

/-- 'laws.FnExactWithGain', WHERE WHAT IT READS IS OF BULK AT MOST 1048576: true; the input reads as it did. -/
def fnExactWithGainUptoRow : OpenClaim := { program := "ytbhipkiiondgnaa", sum := "bd310b9974660dd311efd82f65fd675e480f891f44dd5a5d7c367bd746c33e3b", func := "loop.example/g01288/laws.FnExactWithGain", spec := "fnExactWithGain", unfollowed := true, recurses := true, apart := false, narrowed := true }
def FnExactWithGainUptoSaid : Prop := fnExactWithGainUptoRow.holds Try.pinned (OpenSpec.upto fnExactWithGainSpec)

/-- 'laws.FnExactWithHead', WHERE WHAT IT READS IS OF BULK AT MOST 1048576: true; the input reads as it did. -/
def fnExactWithHeadUptoRow : OpenClaim := { program := "ytbhipkiiondgnaa", sum := "bd310b9974660dd311efd82f65fd675e480f891f44dd5a5d7c367bd746c33e3b", func := "loop.example/g01288/laws.FnExactWithHead", spec := "fnExactWithHead", unfollowed := true, recurses := true, apart := false, narrowed := true }
def FnExactWithHeadUptoSaid : Prop := fnExactWithHeadUptoRow.holds Try.pinned (OpenSpec.upto fnExactWithHeadSpec)

/-- 'laws.FnExactGreatestChange', WHERE WHAT IT READS IS OF BULK AT MOST 1048576: true; the input reads as it did. -/
def fnExactGreatestChangeUptoRow : OpenClaim := { program := "ytbhipkiiondgnaa", sum := "bd310b9974660dd311efd82f65fd675e480f891f44dd5a5d7c367bd746c33e3b", func := "loop.example/g01288/laws.FnExactGreatestChange", spec := "fnExactGreatestChange", inPlace := ["math.Float64bits", "math.Float64frombits"], unfollowed := true, recurses := true, apart := false, narrowed := true }
def FnExactGreatestChangeUptoSaid : Prop := fnExactGreatestChangeUptoRow.holds Try.pinned (OpenSpec.upto fnExactGreatestChangeSpec)

/-- 'laws.FnExactWithFixed', WHERE WHAT IT READS IS OF BULK AT MOST 1048576: true; the input reads as it did. -/
def fnExactWithFixedUptoRow : OpenClaim := { program := "ytbhipkiiondgnaa", sum := "bd310b9974660dd311efd82f65fd675e480f891f44dd5a5d7c367bd746c33e3b", func := "loop.example/g01288/laws.FnExactWithFixed", spec := "fnExactWithFixed", unfollowed := true, recurses := true, apart := false, narrowed := true }
def FnExactWithFixedUptoSaid : Prop := fnExactWithFixedUptoRow.holds Try.pinned (OpenSpec.upto fnExactWithFixedSpec)

/-- 'laws.FnExactFedCells', WHERE WHAT IT READS IS OF BULK AT MOST 1048576: true; the input reads as it did. -/
def fnExactFedCellsUptoRow : OpenClaim := { program := "ytbhipkiiondgnaa", sum := "bd310b9974660dd311efd82f65fd675e480f891f44dd5a5d7c367bd746c33e3b", func := "loop.example/g01288/laws.FnExactFedCells", spec := "fnExactFedCells", unfollowed := true, recurses := true, apart := false, narrowed := true }
def FnExactFedCellsUptoSaid : Prop := fnExactFedCellsUptoRow.holds Try.pinned (OpenSpec.upto fnExactFedCellsSpec)

/-- 'laws.FnExactValidBrine', WHERE WHAT IT READS IS OF BULK AT MOST 1048576: true; the input reads as it did. -/
def fnExactValidBrineUptoRow : OpenClaim := { program := "ytbhipkiiondgnaa", sum := "bd310b9974660dd311efd82f65fd675e480f891f44dd5a5d7c367bd746c33e3b", func := "loop.example/g01288/laws.FnExactValidBrine", spec := "fnExactValidBrine", unfollowed := true, recurses := true, apart := false, narrowed := true }
def FnExactValidBrineUptoSaid : Prop := fnExactValidBrineUptoRow.holds Try.pinned (OpenSpec.upto fnExactValidBrineSpec)

/-- 'laws.FnExactFlowFrom', WHERE WHAT IT READS IS OF BULK AT MOST 1048576: true; the input reads as it did. -/
def fnExactFlowFromUptoRow : OpenClaim := { program := "ytbhipkiiondgnaa", sum := "bd310b9974660dd311efd82f65fd675e480f891f44dd5a5d7c367bd746c33e3b", func := "loop.example/g01288/laws.FnExactFlowFrom", spec := "fnExactFlowFrom", unfollowed := true, recurses := true, apart := false, narrowed := true }
def FnExactFlowFromUptoSaid : Prop := fnExactFlowFromUptoRow.holds Try.pinned (OpenSpec.upto fnExactFlowFromSpec)

/-- 'laws.FnExactBalanceAt', WHERE WHAT IT READS IS OF BULK AT MOST 1048576: true; the input reads as it did. -/
def fnExactBalanceAtUptoRow : OpenClaim := { program := "ytbhipkiiondgnaa", sum := "bd310b9974660dd311efd82f65fd675e480f891f44dd5a5d7c367bd746c33e3b", func := "loop.example/g01288/laws.FnExactBalanceAt", spec := "fnExactBalanceAt", unfollowed := true, recurses := true, apart := false, narrowed := true }
def FnExactBalanceAtUptoSaid : Prop := fnExactBalanceAtUptoRow.holds Try.pinned (OpenSpec.upto fnExactBalanceAtSpec)

/-- 'laws.FnExactFrontOf', WHERE WHAT IT READS IS OF BULK AT MOST 1048576: true; the input reads as it did. -/
def fnExactFrontOfUptoRow : OpenClaim := { program := "ytbhipkiiondgnaa", sum := "bd310b9974660dd311efd82f65fd675e480f891f44dd5a5d7c367bd746c33e3b", func := "loop.example/g01288/laws.FnExactFrontOf", spec := "fnExactFrontOf", unfollowed := true, recurses := true, apart := false, narrowed := true }
def FnExactFrontOfUptoSaid : Prop := fnExactFrontOfUptoRow.holds Try.pinned (OpenSpec.upto fnExactFrontOfSpec)

/-- 'laws.FnExactSettledHead', WHERE WHAT IT READS IS OF BULK AT MOST 1048576: true; the input reads as it did. -/
def fnExactSettledHeadUptoRow : OpenClaim := { program := "ytbhipkiiondgnaa", sum := "bd310b9974660dd311efd82f65fd675e480f891f44dd5a5d7c367bd746c33e3b", func := "loop.example/g01288/laws.FnExactSettledHead", spec := "fnExactSettledHead", unfollowed := true, recurses := true, apart := false, narrowed := true }
def FnExactSettledHeadUptoSaid : Prop := fnExactSettledHeadUptoRow.holds Try.pinned (OpenSpec.upto fnExactSettledHeadSpec)

end Rows
end Go.Proofs.Ytbhipkiiondgnaa
