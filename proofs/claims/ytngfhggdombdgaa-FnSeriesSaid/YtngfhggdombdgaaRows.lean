/-
  No cell of these rows narrows 'for every input' (looked for: loops, veiled, ifaces, maps, wideKeys, modest, calm, conditions, laid).
  DERIVED. THE GIVEN ROWS OF THIS SEAT. 14 by the template 'for every input the law returns true; each argument reads behind the call as it read before'; 0 by the template 'total and deterministic' (their statements: YtngfhggdombdgaaTotals.lean).
  GIVEN WITH THE SEED: the statements are not yours to turn. If you find one false, say at which input.
  Laid BY PROGRAM, IN A SANDBOX (cutbox-rows.mjs): the forced cells as the released guide's own fill.sh prints them over the translation 86ca1d0626dc962d… (all of the seat's roots in one cut). By AI agents, Wed Nov 11 2026. No macro, syntax, notation, axiom, sorry.
-/
import Derived.Test.YtngfhggdombdgaaChecked
import GoSem.Claim
import GoSem.ClaimJoined
import GoSem.ClaimMapViews
import Derived.JoinedTies
import Derived.KernelRfl
namespace Go.Proofs.Ytngfhggdombdgaa
/- THE CELL 'sum', in the pinned program and in every row, IS THE sha256 OF THE DUMP (.gsa) THAT YtngfhggdombdgaaProg.lean LOADS. Nothing in Lean hashes anything: it is a label: what it is worth is what the hold of that sum in a sandbox is worth. -/
noncomputable def Try.pinned : Pinned := { name := "ytngfhggdombdgaa", sum := "86ca1d0626dc962de8bf53b26a7873ad4bacdbd962497084f2187ba3b07cf235", checked := Try.checked }
namespace Rows
def none {H : Type} : Left H := { results := [], args := [] }

/-- 'laws.FnSeries': WHATEVER THE INPUT: true; the input reads as it did. -/
def fnSeriesSpec : ChangeSpec := { name := "fnSeries", fn := fun _ => fun
  | [d1, d2] => { results := [.lit (.bool true)], args := [d1, d2] }
  | _ => none }
def fnSeriesRow : OpenClaim := { program := "ytngfhggdombdgaa", sum := "86ca1d0626dc962de8bf53b26a7873ad4bacdbd962497084f2187ba3b07cf235", func := "loop.example/g01288/laws.FnSeries", spec := "fnSeries", inPlace := ["math.Float32bits"], apart := false }
def FnSeriesSaid : Prop := fnSeriesRow.holds Try.pinned (OpenSpec.ofChange fnSeriesSpec)

/-- ITS FALSE NEIGHBOUR: 'it returns false'. Refute it at one input. -/
def fnSeriesWrong : ChangeSpec := { name := "fnSeries", fn := fun _ => fun
  | [d1, d2] => { results := [.lit (.bool false)], args := [d1, d2] }
  | _ => none }
def FnSeriesWrongFalsely : Prop := fnSeriesRow.holds Try.pinned (OpenSpec.ofChange fnSeriesWrong)

/-- 'laws.FnExactLnOf': WHATEVER THE INPUT: true; the input reads as it did. -/
def fnExactLnOfSpec : ChangeSpec := { name := "fnExactLnOf", fn := fun _ => fun
  | [d] => { results := [.lit (.bool true)], args := [d] }
  | _ => none }
def fnExactLnOfRow : OpenClaim := { program := "ytngfhggdombdgaa", sum := "86ca1d0626dc962de8bf53b26a7873ad4bacdbd962497084f2187ba3b07cf235", func := "loop.example/g01288/laws.FnExactLnOf", spec := "fnExactLnOf", apart := false }
def FnExactLnOfSaid : Prop := fnExactLnOfRow.holds Try.pinned (OpenSpec.ofChange fnExactLnOfSpec)

/-- ITS FALSE NEIGHBOUR: 'it returns false'. Refute it at one input. -/
def fnExactLnOfWrong : ChangeSpec := { name := "fnExactLnOf", fn := fun _ => fun
  | [d] => { results := [.lit (.bool false)], args := [d] }
  | _ => none }
def FnExactLnOfWrongFalsely : Prop := fnExactLnOfRow.holds Try.pinned (OpenSpec.ofChange fnExactLnOfWrong)

/-- 'laws.FnExactTransmitOf': WHATEVER THE INPUT: true; the input reads as it did. -/
def fnExactTransmitOfSpec : ChangeSpec := { name := "fnExactTransmitOf", fn := fun _ => fun
  | [d1, d2] => { results := [.lit (.bool true)], args := [d1, d2] }
  | _ => none }
def fnExactTransmitOfRow : OpenClaim := { program := "ytngfhggdombdgaa", sum := "86ca1d0626dc962de8bf53b26a7873ad4bacdbd962497084f2187ba3b07cf235", func := "loop.example/g01288/laws.FnExactTransmitOf", spec := "fnExactTransmitOf", apart := false }
def FnExactTransmitOfSaid : Prop := fnExactTransmitOfRow.holds Try.pinned (OpenSpec.ofChange fnExactTransmitOfSpec)

/-- ITS FALSE NEIGHBOUR: 'it returns false'. Refute it at one input. -/
def fnExactTransmitOfWrong : ChangeSpec := { name := "fnExactTransmitOf", fn := fun _ => fun
  | [d1, d2] => { results := [.lit (.bool false)], args := [d1, d2] }
  | _ => none }
def FnExactTransmitOfWrongFalsely : Prop := fnExactTransmitOfRow.holds Try.pinned (OpenSpec.ofChange fnExactTransmitOfWrong)

/-- 'laws.FnExactSameReadings': WHATEVER THE INPUT: true; the input reads as it did. -/
def fnExactSameReadingsSpec : ChangeSpec := { name := "fnExactSameReadings", fn := fun _ => fun
  | [d1, d2] => { results := [.lit (.bool true)], args := [d1, d2] }
  | _ => none }
def fnExactSameReadingsRow : OpenClaim := { program := "ytngfhggdombdgaa", sum := "86ca1d0626dc962de8bf53b26a7873ad4bacdbd962497084f2187ba3b07cf235", func := "loop.example/g01288/laws.FnExactSameReadings", spec := "fnExactSameReadings", apart := false }
def FnExactSameReadingsSaid : Prop := fnExactSameReadingsRow.holds Try.pinned (OpenSpec.ofChange fnExactSameReadingsSpec)

/-- ITS FALSE NEIGHBOUR: 'it returns false'. Refute it at one input. -/
def fnExactSameReadingsWrong : ChangeSpec := { name := "fnExactSameReadings", fn := fun _ => fun
  | [d1, d2] => { results := [.lit (.bool false)], args := [d1, d2] }
  | _ => none }
def FnExactSameReadingsWrongFalsely : Prop := fnExactSameReadingsRow.holds Try.pinned (OpenSpec.ofChange fnExactSameReadingsWrong)

/-- 'laws.FnExactImageOf': WHATEVER THE INPUT: true; the input reads as it did. -/
def fnExactImageOfSpec : ChangeSpec := { name := "fnExactImageOf", fn := fun _ => fun
  | [d1, d2, d3] => { results := [.lit (.bool true)], args := [d1, d2, d3] }
  | _ => none }
def fnExactImageOfRow : OpenClaim := { program := "ytngfhggdombdgaa", sum := "86ca1d0626dc962de8bf53b26a7873ad4bacdbd962497084f2187ba3b07cf235", func := "loop.example/g01288/laws.FnExactImageOf", spec := "fnExactImageOf", apart := false }
def FnExactImageOfSaid : Prop := fnExactImageOfRow.holds Try.pinned (OpenSpec.ofChange fnExactImageOfSpec)

/-- ITS FALSE NEIGHBOUR: 'it returns false'. Refute it at one input. -/
def fnExactImageOfWrong : ChangeSpec := { name := "fnExactImageOf", fn := fun _ => fun
  | [d1, d2, d3] => { results := [.lit (.bool false)], args := [d1, d2, d3] }
  | _ => none }
def FnExactImageOfWrongFalsely : Prop := fnExactImageOfRow.holds Try.pinned (OpenSpec.ofChange fnExactImageOfWrong)

/-- 'laws.FnExactValidReadings': WHATEVER THE INPUT: true; the input reads as it did. -/
def fnExactValidReadingsSpec : ChangeSpec := { name := "fnExactValidReadings", fn := fun _ => fun
  | [d] => { results := [.lit (.bool true)], args := [d] }
  | _ => none }
def fnExactValidReadingsRow : OpenClaim := { program := "ytngfhggdombdgaa", sum := "86ca1d0626dc962de8bf53b26a7873ad4bacdbd962497084f2187ba3b07cf235", func := "loop.example/g01288/laws.FnExactValidReadings", spec := "fnExactValidReadings", apart := false }
def FnExactValidReadingsSaid : Prop := fnExactValidReadingsRow.holds Try.pinned (OpenSpec.ofChange fnExactValidReadingsSpec)

/-- ITS FALSE NEIGHBOUR: 'it returns false'. Refute it at one input. -/
def fnExactValidReadingsWrong : ChangeSpec := { name := "fnExactValidReadings", fn := fun _ => fun
  | [d] => { results := [.lit (.bool false)], args := [d] }
  | _ => none }
def FnExactValidReadingsWrongFalsely : Prop := fnExactValidReadingsRow.holds Try.pinned (OpenSpec.ofChange fnExactValidReadingsWrong)

/-- 'laws.FnExactSameWells': WHATEVER THE INPUT: true; the input reads as it did. -/
def fnExactSameWellsSpec : ChangeSpec := { name := "fnExactSameWells", fn := fun _ => fun
  | [d1, d2] => { results := [.lit (.bool true)], args := [d1, d2] }
  | _ => none }
def fnExactSameWellsRow : OpenClaim := { program := "ytngfhggdombdgaa", sum := "86ca1d0626dc962de8bf53b26a7873ad4bacdbd962497084f2187ba3b07cf235", func := "loop.example/g01288/laws.FnExactSameWells", spec := "fnExactSameWells", inPlace := ["math.Float32bits"], unfollowed := true, recurses := true, apart := false }
def FnExactSameWellsSaid : Prop := fnExactSameWellsRow.holds Try.pinned (OpenSpec.ofChange fnExactSameWellsSpec)

/-- ITS FALSE NEIGHBOUR: 'it returns false'. Refute it at one input. -/
def fnExactSameWellsWrong : ChangeSpec := { name := "fnExactSameWells", fn := fun _ => fun
  | [d1, d2] => { results := [.lit (.bool false)], args := [d1, d2] }
  | _ => none }
def FnExactSameWellsWrongFalsely : Prop := fnExactSameWellsRow.holds Try.pinned (OpenSpec.ofChange fnExactSameWellsWrong)

/-- 'laws.FnExactTiesIn': WHATEVER THE INPUT: true; the input reads as it did. -/
def fnExactTiesInSpec : ChangeSpec := { name := "fnExactTiesIn", fn := fun _ => fun
  | [d] => { results := [.lit (.bool true)], args := [d] }
  | _ => none }
def fnExactTiesInRow : OpenClaim := { program := "ytngfhggdombdgaa", sum := "86ca1d0626dc962de8bf53b26a7873ad4bacdbd962497084f2187ba3b07cf235", func := "loop.example/g01288/laws.FnExactTiesIn", spec := "fnExactTiesIn", apart := false }
def FnExactTiesInSaid : Prop := fnExactTiesInRow.holds Try.pinned (OpenSpec.ofChange fnExactTiesInSpec)

/-- ITS FALSE NEIGHBOUR: 'it returns false'. Refute it at one input. -/
def fnExactTiesInWrong : ChangeSpec := { name := "fnExactTiesIn", fn := fun _ => fun
  | [d] => { results := [.lit (.bool false)], args := [d] }
  | _ => none }
def FnExactTiesInWrongFalsely : Prop := fnExactTiesInRow.holds Try.pinned (OpenSpec.ofChange fnExactTiesInWrong)

/-- 'laws.FnExactWellFunction': WHATEVER THE INPUT: true; the input reads as it did. -/
def fnExactWellFunctionSpec : ChangeSpec := { name := "fnExactWellFunction", fn := fun _ => fun
  | [d] => { results := [.lit (.bool true)], args := [d] }
  | _ => none }
def fnExactWellFunctionRow : OpenClaim := { program := "ytngfhggdombdgaa", sum := "86ca1d0626dc962de8bf53b26a7873ad4bacdbd962497084f2187ba3b07cf235", func := "loop.example/g01288/laws.FnExactWellFunction", spec := "fnExactWellFunction", apart := false }
def FnExactWellFunctionSaid : Prop := fnExactWellFunctionRow.holds Try.pinned (OpenSpec.ofChange fnExactWellFunctionSpec)

/-- ITS FALSE NEIGHBOUR: 'it returns false'. Refute it at one input. -/
def fnExactWellFunctionWrong : ChangeSpec := { name := "fnExactWellFunction", fn := fun _ => fun
  | [d] => { results := [.lit (.bool false)], args := [d] }
  | _ => none }
def FnExactWellFunctionWrongFalsely : Prop := fnExactWellFunctionRow.holds Try.pinned (OpenSpec.ofChange fnExactWellFunctionWrong)

/-- 'laws.FnExactLoggerOf': WHATEVER THE INPUT: true; the input reads as it did. -/
def fnExactLoggerOfSpec : ChangeSpec := { name := "fnExactLoggerOf", fn := fun _ => fun
  | [d] => { results := [.lit (.bool true)], args := [d] }
  | _ => none }
def fnExactLoggerOfRow : OpenClaim := { program := "ytngfhggdombdgaa", sum := "86ca1d0626dc962de8bf53b26a7873ad4bacdbd962497084f2187ba3b07cf235", func := "loop.example/g01288/laws.FnExactLoggerOf", spec := "fnExactLoggerOf", inPlace := ["math.archFloor", "math.Float64bits", "math.Float64frombits", "math.archTrunc", "math.archCeil"], apart := false }
def FnExactLoggerOfSaid : Prop := fnExactLoggerOfRow.holds Try.pinned (OpenSpec.ofChange fnExactLoggerOfSpec)

/-- ITS FALSE NEIGHBOUR: 'it returns false'. Refute it at one input. -/
def fnExactLoggerOfWrong : ChangeSpec := { name := "fnExactLoggerOf", fn := fun _ => fun
  | [d] => { results := [.lit (.bool false)], args := [d] }
  | _ => none }
def FnExactLoggerOfWrongFalsely : Prop := fnExactLoggerOfRow.holds Try.pinned (OpenSpec.ofChange fnExactLoggerOfWrong)

/-- 'laws.FnExactArgumentAt': WHATEVER THE INPUT: true; the input reads as it did. -/
def fnExactArgumentAtSpec : ChangeSpec := { name := "fnExactArgumentAt", fn := fun _ => fun
  | [d1, d2, d3, d4, d5] => { results := [.lit (.bool true)], args := [d1, d2, d3, d4, d5] }
  | _ => none }
def fnExactArgumentAtRow : OpenClaim := { program := "ytngfhggdombdgaa", sum := "86ca1d0626dc962de8bf53b26a7873ad4bacdbd962497084f2187ba3b07cf235", func := "loop.example/g01288/laws.FnExactArgumentAt", spec := "fnExactArgumentAt", unfollowed := true, recurses := true, apart := false }
def FnExactArgumentAtSaid : Prop := fnExactArgumentAtRow.holds Try.pinned (OpenSpec.ofChange fnExactArgumentAtSpec)

/-- ITS FALSE NEIGHBOUR: 'it returns false'. Refute it at one input. -/
def fnExactArgumentAtWrong : ChangeSpec := { name := "fnExactArgumentAt", fn := fun _ => fun
  | [d1, d2, d3, d4, d5] => { results := [.lit (.bool false)], args := [d1, d2, d3, d4, d5] }
  | _ => none }
def FnExactArgumentAtWrongFalsely : Prop := fnExactArgumentAtRow.holds Try.pinned (OpenSpec.ofChange fnExactArgumentAtWrong)

/-- 'laws.FnExactWithImages': WHATEVER THE INPUT: true; the input reads as it did. -/
def fnExactWithImagesSpec : ChangeSpec := { name := "fnExactWithImages", fn := fun _ => fun
  | [d1, d2, d3] => { results := [.lit (.bool true)], args := [d1, d2, d3] }
  | _ => none }
def fnExactWithImagesRow : OpenClaim := { program := "ytngfhggdombdgaa", sum := "86ca1d0626dc962de8bf53b26a7873ad4bacdbd962497084f2187ba3b07cf235", func := "loop.example/g01288/laws.FnExactWithImages", spec := "fnExactWithImages", unfollowed := true, recurses := true, apart := false }
def FnExactWithImagesSaid : Prop := fnExactWithImagesRow.holds Try.pinned (OpenSpec.ofChange fnExactWithImagesSpec)

/-- ITS FALSE NEIGHBOUR: 'it returns false'. Refute it at one input. -/
def fnExactWithImagesWrong : ChangeSpec := { name := "fnExactWithImages", fn := fun _ => fun
  | [d1, d2, d3] => { results := [.lit (.bool false)], args := [d1, d2, d3] }
  | _ => none }
def FnExactWithImagesWrongFalsely : Prop := fnExactWithImagesRow.holds Try.pinned (OpenSpec.ofChange fnExactWithImagesWrong)

/-- 'laws.FnExactLineThrough': WHATEVER THE INPUT: true; the input reads as it did. -/
def fnExactLineThroughSpec : ChangeSpec := { name := "fnExactLineThrough", fn := fun _ => fun
  | [d] => { results := [.lit (.bool true)], args := [d] }
  | _ => none }
def fnExactLineThroughRow : OpenClaim := { program := "ytngfhggdombdgaa", sum := "86ca1d0626dc962de8bf53b26a7873ad4bacdbd962497084f2187ba3b07cf235", func := "loop.example/g01288/laws.FnExactLineThrough", spec := "fnExactLineThrough", apart := false }
def FnExactLineThroughSaid : Prop := fnExactLineThroughRow.holds Try.pinned (OpenSpec.ofChange fnExactLineThroughSpec)

/-- ITS FALSE NEIGHBOUR: 'it returns false'. Refute it at one input. -/
def fnExactLineThroughWrong : ChangeSpec := { name := "fnExactLineThrough", fn := fun _ => fun
  | [d] => { results := [.lit (.bool false)], args := [d] }
  | _ => none }
def FnExactLineThroughWrongFalsely : Prop := fnExactLineThroughRow.holds Try.pinned (OpenSpec.ofChange fnExactLineThroughWrong)

/-- 'laws.FnExactDrawdownAt': WHATEVER THE INPUT: true; the input reads as it did. -/
def fnExactDrawdownAtSpec : ChangeSpec := { name := "fnExactDrawdownAt", fn := fun _ => fun
  | [d1, d2, d3, d4, d5] => { results := [.lit (.bool true)], args := [d1, d2, d3, d4, d5] }
  | _ => none }
def fnExactDrawdownAtRow : OpenClaim := { program := "ytngfhggdombdgaa", sum := "86ca1d0626dc962de8bf53b26a7873ad4bacdbd962497084f2187ba3b07cf235", func := "loop.example/g01288/laws.FnExactDrawdownAt", spec := "fnExactDrawdownAt", unfollowed := true, recurses := true, apart := false }
def FnExactDrawdownAtSaid : Prop := fnExactDrawdownAtRow.holds Try.pinned (OpenSpec.ofChange fnExactDrawdownAtSpec)

/-- ITS FALSE NEIGHBOUR: 'it returns false'. Refute it at one input. -/
def fnExactDrawdownAtWrong : ChangeSpec := { name := "fnExactDrawdownAt", fn := fun _ => fun
  | [d1, d2, d3, d4, d5] => { results := [.lit (.bool false)], args := [d1, d2, d3, d4, d5] }
  | _ => none }
def FnExactDrawdownAtWrongFalsely : Prop := fnExactDrawdownAtRow.holds Try.pinned (OpenSpec.ofChange fnExactDrawdownAtWrong)

/- THE SECOND FORM. 'bulk': how many values and letters a reading holds, each counted each time it is reached (what is shared counts as often as it is met; a slice's spare places count too). A statement '..UptoSaid' is the law's where the arguments, and the package variables that the reading takes, are together of bulk at most 1048576: NARROWER than '..Said'. Prove '..Said' where nothing that the law and all that it calls make is longer than what came in: it says more and counts as full. Else prove '..UptoSaid'. A law counts once. -/
mutual
def uptoBulk {H : Type} : DataW H → Nat
  | .lit (.string bytes) => bytes.length + 1
  | .lit _ => 1
  | .nil => 1
  | .ptr d => uptoBulk d + 1
  | .slice elems spare => uptoBulkAll elems + uptoBulkAll spare + 1
  | .agg parts => uptoBulkAll parts + 1
  | .iface _ d => uptoBulk d + 1
  | .map entries => uptoBulkEntries entries + 1
  | .held _ => 1
def uptoBulkAll {H : Type} : List (DataW H) → Nat
  | [] => 0
  | d :: r => uptoBulk d + uptoBulkAll r
def uptoBulkEntries {H : Type} : List (Lit × DataW H) → Nat
  | [] => 0
  | x :: r => uptoBulkEntry x + uptoBulkEntries r
def uptoBulkEntry {H : Type} : Lit × DataW H → Nat
  | (.string bytes, d) => bytes.length + uptoBulk d + 1
  | (_, d) => uptoBulk d + 1
 end
def uptoSmall : (H : Type) → List (DataW H) → Bool := fun _ ds => decide (uptoBulkAll ds ≤ 1048576)
def OpenSpec.upto (s : _root_.Go.ChangeSpec) : _root_.Go.OpenSpec := { _root_.Go.OpenSpec.ofChange s with cond := some uptoSmall }

/-- 'laws.FnSeries', WHERE WHAT IT READS IS OF BULK AT MOST 1048576: true; the input reads as it did. -/
def fnSeriesUptoRow : OpenClaim := { program := "ytngfhggdombdgaa", sum := "86ca1d0626dc962de8bf53b26a7873ad4bacdbd962497084f2187ba3b07cf235", func := "loop.example/g01288/laws.FnSeries", spec := "fnSeries", inPlace := ["math.Float32bits"], apart := false, narrowed := true }
def FnSeriesUptoSaid : Prop := fnSeriesUptoRow.holds Try.pinned (OpenSpec.upto fnSeriesSpec)

/-- 'laws.FnExactLnOf', WHERE WHAT IT READS IS OF BULK AT MOST 1048576: true; the input reads as it did. -/
def fnExactLnOfUptoRow : OpenClaim := { program := "ytngfhggdombdgaa", sum := "86ca1d0626dc962de8bf53b26a7873ad4bacdbd962497084f2187ba3b07cf235", func := "loop.example/g01288/laws.FnExactLnOf", spec := "fnExactLnOf", apart := false, narrowed := true }
def FnExactLnOfUptoSaid : Prop := fnExactLnOfUptoRow.holds Try.pinned (OpenSpec.upto fnExactLnOfSpec)

/-- 'laws.FnExactTransmitOf', WHERE WHAT IT READS IS OF BULK AT MOST 1048576: true; the input reads as it did. -/
def fnExactTransmitOfUptoRow : OpenClaim := { program := "ytngfhggdombdgaa", sum := "86ca1d0626dc962de8bf53b26a7873ad4bacdbd962497084f2187ba3b07cf235", func := "loop.example/g01288/laws.FnExactTransmitOf", spec := "fnExactTransmitOf", apart := false, narrowed := true }
def FnExactTransmitOfUptoSaid : Prop := fnExactTransmitOfUptoRow.holds Try.pinned (OpenSpec.upto fnExactTransmitOfSpec)

/-- 'laws.FnExactSameReadings', WHERE WHAT IT READS IS OF BULK AT MOST 1048576: true; the input reads as it did. -/
def fnExactSameReadingsUptoRow : OpenClaim := { program := "ytngfhggdombdgaa", sum := "86ca1d0626dc962de8bf53b26a7873ad4bacdbd962497084f2187ba3b07cf235", func := "loop.example/g01288/laws.FnExactSameReadings", spec := "fnExactSameReadings", apart := false, narrowed := true }
def FnExactSameReadingsUptoSaid : Prop := fnExactSameReadingsUptoRow.holds Try.pinned (OpenSpec.upto fnExactSameReadingsSpec)

/-- 'laws.FnExactImageOf', WHERE WHAT IT READS IS OF BULK AT MOST 1048576: true; the input reads as it did. -/
def fnExactImageOfUptoRow : OpenClaim := { program := "ytngfhggdombdgaa", sum := "86ca1d0626dc962de8bf53b26a7873ad4bacdbd962497084f2187ba3b07cf235", func := "loop.example/g01288/laws.FnExactImageOf", spec := "fnExactImageOf", apart := false, narrowed := true }
def FnExactImageOfUptoSaid : Prop := fnExactImageOfUptoRow.holds Try.pinned (OpenSpec.upto fnExactImageOfSpec)

/-- 'laws.FnExactValidReadings', WHERE WHAT IT READS IS OF BULK AT MOST 1048576: true; the input reads as it did. -/
def fnExactValidReadingsUptoRow : OpenClaim := { program := "ytngfhggdombdgaa", sum := "86ca1d0626dc962de8bf53b26a7873ad4bacdbd962497084f2187ba3b07cf235", func := "loop.example/g01288/laws.FnExactValidReadings", spec := "fnExactValidReadings", apart := false, narrowed := true }
def FnExactValidReadingsUptoSaid : Prop := fnExactValidReadingsUptoRow.holds Try.pinned (OpenSpec.upto fnExactValidReadingsSpec)

/-- 'laws.FnExactSameWells', WHERE WHAT IT READS IS OF BULK AT MOST 1048576: true; the input reads as it did. -/
def fnExactSameWellsUptoRow : OpenClaim := { program := "ytngfhggdombdgaa", sum := "86ca1d0626dc962de8bf53b26a7873ad4bacdbd962497084f2187ba3b07cf235", func := "loop.example/g01288/laws.FnExactSameWells", spec := "fnExactSameWells", inPlace := ["math.Float32bits"], unfollowed := true, recurses := true, apart := false, narrowed := true }
def FnExactSameWellsUptoSaid : Prop := fnExactSameWellsUptoRow.holds Try.pinned (OpenSpec.upto fnExactSameWellsSpec)

/-- 'laws.FnExactTiesIn', WHERE WHAT IT READS IS OF BULK AT MOST 1048576: true; the input reads as it did. -/
def fnExactTiesInUptoRow : OpenClaim := { program := "ytngfhggdombdgaa", sum := "86ca1d0626dc962de8bf53b26a7873ad4bacdbd962497084f2187ba3b07cf235", func := "loop.example/g01288/laws.FnExactTiesIn", spec := "fnExactTiesIn", apart := false, narrowed := true }
def FnExactTiesInUptoSaid : Prop := fnExactTiesInUptoRow.holds Try.pinned (OpenSpec.upto fnExactTiesInSpec)

/-- 'laws.FnExactWellFunction', WHERE WHAT IT READS IS OF BULK AT MOST 1048576: true; the input reads as it did. -/
def fnExactWellFunctionUptoRow : OpenClaim := { program := "ytngfhggdombdgaa", sum := "86ca1d0626dc962de8bf53b26a7873ad4bacdbd962497084f2187ba3b07cf235", func := "loop.example/g01288/laws.FnExactWellFunction", spec := "fnExactWellFunction", apart := false, narrowed := true }
def FnExactWellFunctionUptoSaid : Prop := fnExactWellFunctionUptoRow.holds Try.pinned (OpenSpec.upto fnExactWellFunctionSpec)

/-- 'laws.FnExactLoggerOf', WHERE WHAT IT READS IS OF BULK AT MOST 1048576: true; the input reads as it did. -/
def fnExactLoggerOfUptoRow : OpenClaim := { program := "ytngfhggdombdgaa", sum := "86ca1d0626dc962de8bf53b26a7873ad4bacdbd962497084f2187ba3b07cf235", func := "loop.example/g01288/laws.FnExactLoggerOf", spec := "fnExactLoggerOf", inPlace := ["math.archFloor", "math.Float64bits", "math.Float64frombits", "math.archTrunc", "math.archCeil"], apart := false, narrowed := true }
def FnExactLoggerOfUptoSaid : Prop := fnExactLoggerOfUptoRow.holds Try.pinned (OpenSpec.upto fnExactLoggerOfSpec)

/-- 'laws.FnExactArgumentAt', WHERE WHAT IT READS IS OF BULK AT MOST 1048576: true; the input reads as it did. -/
def fnExactArgumentAtUptoRow : OpenClaim := { program := "ytngfhggdombdgaa", sum := "86ca1d0626dc962de8bf53b26a7873ad4bacdbd962497084f2187ba3b07cf235", func := "loop.example/g01288/laws.FnExactArgumentAt", spec := "fnExactArgumentAt", unfollowed := true, recurses := true, apart := false, narrowed := true }
def FnExactArgumentAtUptoSaid : Prop := fnExactArgumentAtUptoRow.holds Try.pinned (OpenSpec.upto fnExactArgumentAtSpec)

/-- 'laws.FnExactWithImages', WHERE WHAT IT READS IS OF BULK AT MOST 1048576: true; the input reads as it did. -/
def fnExactWithImagesUptoRow : OpenClaim := { program := "ytngfhggdombdgaa", sum := "86ca1d0626dc962de8bf53b26a7873ad4bacdbd962497084f2187ba3b07cf235", func := "loop.example/g01288/laws.FnExactWithImages", spec := "fnExactWithImages", unfollowed := true, recurses := true, apart := false, narrowed := true }
def FnExactWithImagesUptoSaid : Prop := fnExactWithImagesUptoRow.holds Try.pinned (OpenSpec.upto fnExactWithImagesSpec)

/-- 'laws.FnExactLineThrough', WHERE WHAT IT READS IS OF BULK AT MOST 1048576: true; the input reads as it did. -/
def fnExactLineThroughUptoRow : OpenClaim := { program := "ytngfhggdombdgaa", sum := "86ca1d0626dc962de8bf53b26a7873ad4bacdbd962497084f2187ba3b07cf235", func := "loop.example/g01288/laws.FnExactLineThrough", spec := "fnExactLineThrough", apart := false, narrowed := true }
def FnExactLineThroughUptoSaid : Prop := fnExactLineThroughUptoRow.holds Try.pinned (OpenSpec.upto fnExactLineThroughSpec)

/-- 'laws.FnExactDrawdownAt', WHERE WHAT IT READS IS OF BULK AT MOST 1048576: true; the input reads as it did. -/
def fnExactDrawdownAtUptoRow : OpenClaim := { program := "ytngfhggdombdgaa", sum := "86ca1d0626dc962de8bf53b26a7873ad4bacdbd962497084f2187ba3b07cf235", func := "loop.example/g01288/laws.FnExactDrawdownAt", spec := "fnExactDrawdownAt", unfollowed := true, recurses := true, apart := false, narrowed := true }
def FnExactDrawdownAtUptoSaid : Prop := fnExactDrawdownAtUptoRow.holds Try.pinned (OpenSpec.upto fnExactDrawdownAtSpec)

end Rows
end Go.Proofs.Ytngfhggdombdgaa
