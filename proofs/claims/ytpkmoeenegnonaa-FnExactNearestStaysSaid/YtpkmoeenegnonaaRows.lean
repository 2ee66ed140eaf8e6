/-
  No cell of these rows narrows 'for every input' (looked for: loops, veiled, ifaces, maps, wideKeys, modest, calm, conditions, laid).
  DERIVED. THE GIVEN ROWS OF THIS SEAT. 12 by the template 'for every input the law returns true; each argument reads behind the call as it read before'; 0 by the template 'total and deterministic' (their statements: YtpkmoeenegnonaaTotals.lean).
  GIVEN WITH THE SEED: the statements are not yours to turn. If you find one false, say at which input.
  Laid BY PROGRAM, IN A SANDBOX (cutbox-rows.mjs): the forced cells as the released guide's own fill.sh prints them over the translation 48581004aaef0604… (all of the seat's roots in one cut). By AI agents, Wed Nov 11 2026. No macro, syntax, notation, axiom, sorry.
-/
import Derived.Test.YtpkmoeenegnonaaChecked
import GoSem.Claim
import GoSem.ClaimJoined
import GoSem.ClaimMapViews
import Derived.JoinedTies
import Derived.KernelRfl
namespace Go.Proofs.Ytpkmoeenegnonaa
/- THE CELL 'sum', in the pinned program and in every row, IS THE sha256 OF THE DUMP (.gsa) THAT YtpkmoeenegnonaaProg.lean LOADS. Nothing in Lean hashes anything: it is a label: what it is worth is what the hold of that sum in a sandbox is worth. -/
noncomputable def Try.pinned : Pinned := { name := "ytpkmoeenegnonaa", sum := "48581004aaef060472a2812db52b3772a8eee735a59f056f149d44baf1cc0dea", checked := Try.checked }
namespace Rows
def none {H : Type} : Left H := { results := [], args := [] }

/-- 'laws.FnExactAreStays': WHATEVER THE INPUT: true; the input reads as it did. -/
def fnExactAreStaysSpec : ChangeSpec := { name := "fnExactAreStays", fn := fun _ => fun
  | [d] => { results := [.lit (.bool true)], args := [d] }
  | _ => none }
def fnExactAreStaysRow : OpenClaim := { program := "ytpkmoeenegnonaa", sum := "48581004aaef060472a2812db52b3772a8eee735a59f056f149d44baf1cc0dea", func := "loop.example/g01006/laws.FnExactAreStays", spec := "fnExactAreStays", apart := false }
def FnExactAreStaysSaid : Prop := fnExactAreStaysRow.holds Try.pinned (OpenSpec.ofChange fnExactAreStaysSpec)

/-- ITS FALSE NEIGHBOUR: 'it returns false'. Refute it at one input. -/
def fnExactAreStaysWrong : ChangeSpec := { name := "fnExactAreStays", fn := fun _ => fun
  | [d] => { results := [.lit (.bool false)], args := [d] }
  | _ => none }
def FnExactAreStaysWrongFalsely : Prop := fnExactAreStaysRow.holds Try.pinned (OpenSpec.ofChange fnExactAreStaysWrong)

/-- 'laws.FnExactAreRoads': WHATEVER THE INPUT: true; the input reads as it did. -/
def fnExactAreRoadsSpec : ChangeSpec := { name := "fnExactAreRoads", fn := fun _ => fun
  | [d] => { results := [.lit (.bool true)], args := [d] }
  | _ => none }
def fnExactAreRoadsRow : OpenClaim := { program := "ytpkmoeenegnonaa", sum := "48581004aaef060472a2812db52b3772a8eee735a59f056f149d44baf1cc0dea", func := "loop.example/g01006/laws.FnExactAreRoads", spec := "fnExactAreRoads", apart := false }
def FnExactAreRoadsSaid : Prop := fnExactAreRoadsRow.holds Try.pinned (OpenSpec.ofChange fnExactAreRoadsSpec)

/-- ITS FALSE NEIGHBOUR: 'it returns false'. Refute it at one input. -/
def fnExactAreRoadsWrong : ChangeSpec := { name := "fnExactAreRoads", fn := fun _ => fun
  | [d] => { results := [.lit (.bool false)], args := [d] }
  | _ => none }
def FnExactAreRoadsWrongFalsely : Prop := fnExactAreRoadsRow.holds Try.pinned (OpenSpec.ofChange fnExactAreRoadsWrong)

/-- 'laws.FnExactRoadsText': WHATEVER THE INPUT: true; the input reads as it did. -/
def fnExactRoadsTextSpec : ChangeSpec := { name := "fnExactRoadsText", fn := fun _ => fun
  | [d] => { results := [.lit (.bool true)], args := [d] }
  | _ => none }
def fnExactRoadsTextRow : OpenClaim := { program := "ytpkmoeenegnonaa", sum := "48581004aaef060472a2812db52b3772a8eee735a59f056f149d44baf1cc0dea", func := "loop.example/g01006/laws.FnExactRoadsText", spec := "fnExactRoadsText", recurses := true, apart := false }
def FnExactRoadsTextSaid : Prop := fnExactRoadsTextRow.holds Try.pinned (OpenSpec.ofChange fnExactRoadsTextSpec)

/-- ITS FALSE NEIGHBOUR: 'it returns false'. Refute it at one input. -/
def fnExactRoadsTextWrong : ChangeSpec := { name := "fnExactRoadsText", fn := fun _ => fun
  | [d] => { results := [.lit (.bool false)], args := [d] }
  | _ => none }
def FnExactRoadsTextWrongFalsely : Prop := fnExactRoadsTextRow.holds Try.pinned (OpenSpec.ofChange fnExactRoadsTextWrong)

/-- 'laws.FnExactShortestWay': WHATEVER THE INPUT: true; the input reads as it did. -/
def fnExactShortestWaySpec : ChangeSpec := { name := "fnExactShortestWay", fn := fun _ => fun
  | [d1, d2, d3] => { results := [.lit (.bool true)], args := [d1, d2, d3] }
  | _ => none }
def fnExactShortestWayRow : OpenClaim := { program := "ytpkmoeenegnonaa", sum := "48581004aaef060472a2812db52b3772a8eee735a59f056f149d44baf1cc0dea", func := "loop.example/g01006/laws.FnExactShortestWay", spec := "fnExactShortestWay", apart := false }
def FnExactShortestWaySaid : Prop := fnExactShortestWayRow.holds Try.pinned (OpenSpec.ofChange fnExactShortestWaySpec)

/-- ITS FALSE NEIGHBOUR: 'it returns false'. Refute it at one input. -/
def fnExactShortestWayWrong : ChangeSpec := { name := "fnExactShortestWay", fn := fun _ => fun
  | [d1, d2, d3] => { results := [.lit (.bool false)], args := [d1, d2, d3] }
  | _ => none }
def FnExactShortestWayWrongFalsely : Prop := fnExactShortestWayRow.holds Try.pinned (OpenSpec.ofChange fnExactShortestWayWrong)

/-- 'laws.FnExactTownsWithin': WHATEVER THE INPUT: true; the input reads as it did. -/
def fnExactTownsWithinSpec : ChangeSpec := { name := "fnExactTownsWithin", fn := fun _ => fun
  | [d1, d2, d3] => { results := [.lit (.bool true)], args := [d1, d2, d3] }
  | _ => none }
def fnExactTownsWithinRow : OpenClaim := { program := "ytpkmoeenegnonaa", sum := "48581004aaef060472a2812db52b3772a8eee735a59f056f149d44baf1cc0dea", func := "loop.example/g01006/laws.FnExactTownsWithin", spec := "fnExactTownsWithin", apart := false }
def FnExactTownsWithinSaid : Prop := fnExactTownsWithinRow.holds Try.pinned (OpenSpec.ofChange fnExactTownsWithinSpec)

/-- ITS FALSE NEIGHBOUR: 'it returns false'. Refute it at one input. -/
def fnExactTownsWithinWrong : ChangeSpec := { name := "fnExactTownsWithin", fn := fun _ => fun
  | [d1, d2, d3] => { results := [.lit (.bool false)], args := [d1, d2, d3] }
  | _ => none }
def FnExactTownsWithinWrongFalsely : Prop := fnExactTownsWithinRow.holds Try.pinned (OpenSpec.ofChange fnExactTownsWithinWrong)

/-- 'laws.FnTours': WHATEVER THE INPUT: true; the input reads as it did. -/
def fnToursSpec : ChangeSpec := { name := "fnTours", fn := fun _ => fun
  | [d] => { results := [.lit (.bool true)], args := [d] }
  | _ => none }
def fnToursRow : OpenClaim := { program := "ytpkmoeenegnonaa", sum := "48581004aaef060472a2812db52b3772a8eee735a59f056f149d44baf1cc0dea", func := "loop.example/g01006/laws.FnTours", spec := "fnTours", unfollowed := true, recurses := true, apart := false }
def FnToursSaid : Prop := fnToursRow.holds Try.pinned (OpenSpec.ofChange fnToursSpec)

/-- ITS FALSE NEIGHBOUR: 'it returns false'. Refute it at one input. -/
def fnToursWrong : ChangeSpec := { name := "fnTours", fn := fun _ => fun
  | [d] => { results := [.lit (.bool false)], args := [d] }
  | _ => none }
def FnToursWrongFalsely : Prop := fnToursRow.holds Try.pinned (OpenSpec.ofChange fnToursWrong)

/-- 'laws.FnExactCutTowns': WHATEVER THE INPUT: true; the input reads as it did. -/
def fnExactCutTownsSpec : ChangeSpec := { name := "fnExactCutTowns", fn := fun _ => fun
  | [d] => { results := [.lit (.bool true)], args := [d] }
  | _ => none }
def fnExactCutTownsRow : OpenClaim := { program := "ytpkmoeenegnonaa", sum := "48581004aaef060472a2812db52b3772a8eee735a59f056f149d44baf1cc0dea", func := "loop.example/g01006/laws.FnExactCutTowns", spec := "fnExactCutTowns", apart := false }
def FnExactCutTownsSaid : Prop := fnExactCutTownsRow.holds Try.pinned (OpenSpec.ofChange fnExactCutTownsSpec)

/-- ITS FALSE NEIGHBOUR: 'it returns false'. Refute it at one input. -/
def fnExactCutTownsWrong : ChangeSpec := { name := "fnExactCutTowns", fn := fun _ => fun
  | [d] => { results := [.lit (.bool false)], args := [d] }
  | _ => none }
def FnExactCutTownsWrongFalsely : Prop := fnExactCutTownsRow.holds Try.pinned (OpenSpec.ofChange fnExactCutTownsWrong)

/-- 'laws.FnExactDaysOf': WHATEVER THE INPUT: true; the input reads as it did. -/
def fnExactDaysOfSpec : ChangeSpec := { name := "fnExactDaysOf", fn := fun _ => fun
  | [d1, d2, d3] => { results := [.lit (.bool true)], args := [d1, d2, d3] }
  | _ => none }
def fnExactDaysOfRow : OpenClaim := { program := "ytpkmoeenegnonaa", sum := "48581004aaef060472a2812db52b3772a8eee735a59f056f149d44baf1cc0dea", func := "loop.example/g01006/laws.FnExactDaysOf", spec := "fnExactDaysOf", apart := false }
def FnExactDaysOfSaid : Prop := fnExactDaysOfRow.holds Try.pinned (OpenSpec.ofChange fnExactDaysOfSpec)

/-- ITS FALSE NEIGHBOUR: 'it returns false'. Refute it at one input. -/
def fnExactDaysOfWrong : ChangeSpec := { name := "fnExactDaysOf", fn := fun _ => fun
  | [d1, d2, d3] => { results := [.lit (.bool false)], args := [d1, d2, d3] }
  | _ => none }
def FnExactDaysOfWrongFalsely : Prop := fnExactDaysOfRow.holds Try.pinned (OpenSpec.ofChange fnExactDaysOfWrong)

/-- 'laws.FnExactFewestDays': WHATEVER THE INPUT: true; the input reads as it did. -/
def fnExactFewestDaysSpec : ChangeSpec := { name := "fnExactFewestDays", fn := fun _ => fun
  | [d1, d2] => { results := [.lit (.bool true)], args := [d1, d2] }
  | _ => none }
def fnExactFewestDaysRow : OpenClaim := { program := "ytpkmoeenegnonaa", sum := "48581004aaef060472a2812db52b3772a8eee735a59f056f149d44baf1cc0dea", func := "loop.example/g01006/laws.FnExactFewestDays", spec := "fnExactFewestDays", unfollowed := true, recurses := true, apart := false }
def FnExactFewestDaysSaid : Prop := fnExactFewestDaysRow.holds Try.pinned (OpenSpec.ofChange fnExactFewestDaysSpec)

/-- ITS FALSE NEIGHBOUR: 'it returns false'. Refute it at one input. -/
def fnExactFewestDaysWrong : ChangeSpec := { name := "fnExactFewestDays", fn := fun _ => fun
  | [d1, d2] => { results := [.lit (.bool false)], args := [d1, d2] }
  | _ => none }
def FnExactFewestDaysWrongFalsely : Prop := fnExactFewestDaysRow.holds Try.pinned (OpenSpec.ofChange fnExactFewestDaysWrong)

/-- 'laws.FnExactBestTour': WHATEVER THE INPUT: true; the input reads as it did. -/
def fnExactBestTourSpec : ChangeSpec := { name := "fnExactBestTour", fn := fun _ => fun
  | [d1, d2, d3] => { results := [.lit (.bool true)], args := [d1, d2, d3] }
  | _ => none }
def fnExactBestTourRow : OpenClaim := { program := "ytpkmoeenegnonaa", sum := "48581004aaef060472a2812db52b3772a8eee735a59f056f149d44baf1cc0dea", func := "loop.example/g01006/laws.FnExactBestTour", spec := "fnExactBestTour", unfollowed := true, recurses := true, apart := false }
def FnExactBestTourSaid : Prop := fnExactBestTourRow.holds Try.pinned (OpenSpec.ofChange fnExactBestTourSpec)

/-- ITS FALSE NEIGHBOUR: 'it returns false'. Refute it at one input. -/
def fnExactBestTourWrong : ChangeSpec := { name := "fnExactBestTour", fn := fun _ => fun
  | [d1, d2, d3] => { results := [.lit (.bool false)], args := [d1, d2, d3] }
  | _ => none }
def FnExactBestTourWrongFalsely : Prop := fnExactBestTourRow.holds Try.pinned (OpenSpec.ofChange fnExactBestTourWrong)

/-- 'laws.FnWays': WHATEVER THE INPUT: true; the input reads as it did. -/
def fnWaysSpec : ChangeSpec := { name := "fnWays", fn := fun _ => fun
  | [d] => { results := [.lit (.bool true)], args := [d] }
  | _ => none }
def fnWaysRow : OpenClaim := { program := "ytpkmoeenegnonaa", sum := "48581004aaef060472a2812db52b3772a8eee735a59f056f149d44baf1cc0dea", func := "loop.example/g01006/laws.FnWays", spec := "fnWays", recurses := true, apart := false }
def FnWaysSaid : Prop := fnWaysRow.holds Try.pinned (OpenSpec.ofChange fnWaysSpec)

/-- ITS FALSE NEIGHBOUR: 'it returns false'. Refute it at one input. -/
def fnWaysWrong : ChangeSpec := { name := "fnWays", fn := fun _ => fun
  | [d] => { results := [.lit (.bool false)], args := [d] }
  | _ => none }
def FnWaysWrongFalsely : Prop := fnWaysRow.holds Try.pinned (OpenSpec.ofChange fnWaysWrong)

/-- 'laws.FnExactNearestStays': WHATEVER THE INPUT: true; the input reads as it did. -/
def fnExactNearestStaysSpec : ChangeSpec := { name := "fnExactNearestStays", fn := fun _ => fun
  | [d1, d2] => { results := [.lit (.bool true)], args := [d1, d2] }
  | _ => none }
def fnExactNearestStaysRow : OpenClaim := { program := "ytpkmoeenegnonaa", sum := "48581004aaef060472a2812db52b3772a8eee735a59f056f149d44baf1cc0dea", func := "loop.example/g01006/laws.FnExactNearestStays", spec := "fnExactNearestStays", apart := false }
def FnExactNearestStaysSaid : Prop := fnExactNearestStaysRow.holds Try.pinned (OpenSpec.ofChange fnExactNearestStaysSpec)

/-- ITS FALSE NEIGHBOUR: 'it returns false'. Refute it at one input. -/
def fnExactNearestStaysWrong : ChangeSpec := { name := "fnExactNearestStays", fn := fun _ => fun
  | [d1, d2] => { results := [.lit (.bool false)], args := [d1, d2] }
  | _ => none }
def FnExactNearestStaysWrongFalsely : Prop := fnExactNearestStaysRow.holds Try.pinned (OpenSpec.ofChange fnExactNearestStaysWrong)

/- THE SECOND FORM. 'bulk': how many values and letters a reading holds, each counted each time it is reached (what is shared counts as often as it is met; a slice's spare places count too). A statement '..UptoSaid' is the law's where the arguments, and the package variables that the reading takes, are together of bulk at most 1048576: NARROWER than '..Said'. Prove '..Said' where nothing that the law and all that it calls make is longer than what came in: it says more and counts as full. Else prove '..UptoSaid'. A law counts once. -/
mutual
def uptoBulk {H : Type} : DataW H → Nat
  | .lit (.string bytes) => bytes.length + 1
  | .lit _ => 1
  | .nil => 1
  | .ptr d => uptoBulk d + 1
  | .slice elems spare => uptoBulkAll elems + uptoBulkAll spare + 1
  | .agg parts => uptoBulkAll parts + 1
  | .iface _ d => uptoBulk d + 1
  | .map entries => uptoBulkEntries entries + 1
  | .held _ => 1
def uptoBulkAll {H : Type} : List (DataW H) → Nat
  | [] => 0
  | d :: r => uptoBulk d + uptoBulkAll r
def uptoBulkEntries {H : Type} : List (Lit × DataW H) → Nat
  | [] => 0
  | x :: r => uptoBulkEntry x + uptoBulkEntries r
def uptoBulkEntry {H : Type} : Lit × DataW H → Nat
  | (.string bytes, d) => bytes.length + uptoBulk d + 1
  | (_, d) => uptoBulk d + 1
 end
def uptoSmall : (H : Type) → List (DataW H) → Bool := fun _ ds => decide (uptoBulkAll ds ≤ 1048576)
def OpenSpec.upto (s : _root_.Go.ChangeSpec) : _root_.Go.OpenSpec := { _root_.Go.OpenSpec.ofChange s with cond := some uptoSmall }

/-- 'laws.FnExactAreStays', WHERE WHAT IT READS IS OF BULK AT MOST 1048576: true; the input reads as it did. -/
def fnExactAreStaysUptoRow : OpenClaim := { program := "ytpkmoeenegnonaa", sum := "48581004aaef060472a2812db52b3772a8eee735a59f056f149d44baf1cc0dea", func := "loop.example/g01006/laws.FnExactAreStays", spec := "fnExactAreStays", apart := false, narrowed := true }
def FnExactAreStaysUptoSaid : Prop := fnExactAreStaysUptoRow.holds Try.pinned (OpenSpec.upto fnExactAreStaysSpec)

/-- 'laws.FnExactAreRoads', WHERE WHAT IT READS IS OF BULK AT MOST 1048576: true; the input reads as it did. -/
def fnExactAreRoadsUptoRow : OpenClaim := { program := "ytpkmoeenegnonaa", sum := "48581004aaef060472a2812db52b3772a8eee735a59f056f149d44baf1cc0dea", func := "loop.example/g01006/laws.FnExactAreRoads", spec := "fnExactAreRoads", apart := false, narrowed := true }
def FnExactAreRoadsUptoSaid : Prop := fnExactAreRoadsUptoRow.holds Try.pinned (OpenSpec.upto fnExactAreRoadsSpec)

/-- 'laws.FnExactRoadsText', WHERE WHAT IT READS IS OF BULK AT MOST 1048576: true; the input reads as it did. -/
def fnExactRoadsTextUptoRow : OpenClaim := { program := "ytpkmoeenegnonaa", sum := "48581004aaef060472a2812db52b3772a8eee735a59f056f149d44baf1cc0dea", func := "loop.example/g01006/laws.FnExactRoadsText", spec := "fnExactRoadsText", recurses := true, apart := false, narrowed := true }
def FnExactRoadsTextUptoSaid : Prop := fnExactRoadsTextUptoRow.holds Try.pinned (OpenSpec.upto fnExactRoadsTextSpec)

/-- 'laws.FnExactShortestWay', WHERE WHAT IT READS IS OF BULK AT MOST 1048576: true; the input reads as it did. -/
def fnExactShortestWayUptoRow : OpenClaim := { program := "ytpkmoeenegnonaa", sum := "48581004aaef060472a2812db52b3772a8eee735a59f056f149d44baf1cc0dea", func := "loop.example/g01006/laws.FnExactShortestWay", spec := "fnExactShortestWay", apart := false, narrowed := true }
def FnExactShortestWayUptoSaid : Prop := fnExactShortestWayUptoRow.holds Try.pinned (OpenSpec.upto fnExactShortestWaySpec)

/-- 'laws.FnExactTownsWithin', WHERE WHAT IT READS IS OF BULK AT MOST 1048576: true; the input reads as it did. -/
def fnExactTownsWithinUptoRow : OpenClaim := { program := "ytpkmoeenegnonaa", sum := "48581004aaef060472a2812db52b3772a8eee735a59f056f149d44baf1cc0dea", func := "loop.example/g01006/laws.FnExactTownsWithin", spec := "fnExactTownsWithin", apart := false, narrowed := true }
def FnExactTownsWithinUptoSaid : Prop := fnExactTownsWithinUptoRow.holds Try.pinned (OpenSpec.upto fnExactTownsWithinSpec)

/-- 'laws.FnTours', WHERE WHAT IT READS IS OF BULK AT MOST 1048576: true; the input reads as it did. -/
def fnToursUptoRow : OpenClaim := { program := "ytpkmoeenegnonaa", sum := "48581004aaef060472a2812db52b3772a8eee735a59f056f149d44baf1cc0dea", func := "loop.example/g01006/laws.FnTours", spec := "fnTours", unfollowed := true, recurses := true, apart := false, narrowed := true }
def FnToursUptoSaid : Prop := fnToursUptoRow.holds Try.pinned (OpenSpec.upto fnToursSpec)

/-- 'laws.FnExactCutTowns', WHERE WHAT IT READS IS OF BULK AT MOST 1048576: true; the input reads as it did. -/
def fnExactCutTownsUptoRow : OpenClaim := { program := "ytpkmoeenegnonaa", sum := "48581004aaef060472a2812db52b3772a8eee735a59f056f149d44baf1cc0dea", func := "loop.example/g01006/laws.FnExactCutTowns", spec := "fnExactCutTowns", apart := false, narrowed := true }
def FnExactCutTownsUptoSaid : Prop := fnExactCutTownsUptoRow.holds Try.pinned (OpenSpec.upto fnExactCutTownsSpec)

/-- 'laws.FnExactDaysOf', WHERE WHAT IT READS IS OF BULK AT MOST 1048576: true; the input reads as it did. -/
def fnExactDaysOfUptoRow : OpenClaim := { program := "ytpkmoeenegnonaa", sum := "48581004aaef060472a2812db52b3772a8eee735a59f056f149d44baf1cc0dea", func := "loop.example/g01006/laws.FnExactDaysOf", spec := "fnExactDaysOf", apart := false, narrowed := true }
def FnExactDaysOfUptoSaid : Prop := fnExactDaysOfUptoRow.holds Try.pinned (OpenSpec.upto fnExactDaysOfSpec)

/-- 'laws.FnExactFewestDays', WHERE WHAT IT READS IS OF BULK AT MOST 1048576: true; the input reads as it did. -/
def fnExactFewestDaysUptoRow : OpenClaim := { program := "ytpkmoeenegnonaa", sum := "48581004aaef060472a2812db52b3772a8eee735a59f056f149d44baf1cc0dea", func := "loop.example/g01006/laws.FnExactFewestDays", spec := "fnExactFewestDays", unfollowed := true, recurses := true, apart := false, narrowed := true }
def FnExactFewestDaysUptoSaid : Prop := fnExactFewestDaysUptoRow.holds Try.pinned (OpenSpec.upto fnExactFewestDaysSpec)

/-- 'laws.FnExactBestTour', WHERE WHAT IT READS IS OF BULK AT MOST 1048576: true; the input reads as it did. -/
def fnExactBestTourUptoRow : OpenClaim := { program := "ytpkmoeenegnonaa", sum := "48581004aaef060472a2812db52b3772a8eee735a59f056f149d44baf1cc0dea", func := "loop.example/g01006/laws.FnExactBestTour", spec := "fnExactBestTour", unfollowed := true, recurses := true, apart := false, narrowed := true }
def FnExactBestTourUptoSaid : Prop := fnExactBestTourUptoRow.holds Try.pinned (OpenSpec.upto fnExactBestTourSpec)

/-- 'laws.FnWays', WHERE WHAT IT READS IS OF BULK AT MOST 1048576: true; the input reads as it did. -/
def fnWaysUptoRow : OpenClaim := { program := "ytpkmoeenegnonaa", sum := "48581004aaef060472a2812db52b3772a8eee735a59f056f149d44baf1cc0dea", func := "loop.example/g01006/laws.FnWays", spec := "fnWays", recurses := true, apart := false, narrowed := true }
def FnWaysUptoSaid : Prop := fnWaysUptoRow.holds Try.pinned (OpenSpec.upto fnWaysSpec)

/-- 'laws.FnExactNearestStays', WHERE WHAT IT READS IS OF BULK AT MOST 1048576: true; the input reads as it did. -/
def fnExactNearestStaysUptoRow : OpenClaim := { program := "ytpkmoeenegnonaa", sum := "48581004aaef060472a2812db52b3772a8eee735a59f056f149d44baf1cc0dea", func := "loop.example/g01006/laws.FnExactNearestStays", spec := "fnExactNearestStays", apart := false, narrowed := true }
def FnExactNearestStaysUptoSaid : Prop := fnExactNearestStaysUptoRow.holds Try.pinned (OpenSpec.upto fnExactNearestStaysSpec)

end Rows
end Go.Proofs.Ytpkmoeenegnonaa
