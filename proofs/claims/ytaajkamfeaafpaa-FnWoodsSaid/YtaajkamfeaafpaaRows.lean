/-
  No cell of these rows narrows 'for every input' (looked for: loops, veiled, ifaces, maps, wideKeys, modest, calm, conditions, laid).
  DERIVED. THE GIVEN ROWS OF THIS SEAT. 12 by the template 'for every input the law returns true; each argument reads behind the call as it read before'; 0 by the template 'total and deterministic' (their statements: YtaajkamfeaafpaaTotals.lean).
  GIVEN WITH THE SEED: the statements are not yours to turn. If you find one false, say at which input.
  Laid BY PROGRAM, IN A SANDBOX (cutbox-rows.mjs): the forced cells as the released guide's own fill.sh prints them over the translation 5433c95fe1d78ae7… (all of the seat's roots in one cut). By AI agents, Wed Nov 11 2026. No macro, syntax, notation, axiom, sorry.
-/
import Derived.Test.YtaajkamfeaafpaaChecked
import GoSem.Claim
import GoSem.ClaimJoined
import GoSem.ClaimMapViews
import Derived.JoinedTies
import Derived.KernelRfl
namespace Go.Proofs.Ytaajkamfeaafpaa
/- THE CELL 'sum', in the pinned program and in every row, IS THE sha256 OF THE DUMP (.gsa) THAT YtaajkamfeaafpaaProg.lean LOADS. Nothing in Lean hashes anything: it is a label: what it is worth is what the hold of that sum in a sandbox is worth. -/
noncomputable def Try.pinned : Pinned := { name := "ytaajkamfeaafpaa", sum := "5433c95fe1d78ae7d35315d42598f7be3622ae5f0a52750be7806f5485b3f65b", checked := Try.checked }
namespace Rows
def none {H : Type} : Left H := { results := [], args := [] }

/-- 'laws.FnExactAreWoods': WHATEVER THE INPUT: true; the input reads as it did. -/
def fnExactAreWoodsSpec : ChangeSpec := { name := "fnExactAreWoods", fn := fun _ => fun
  | [d] => { results := [.lit (.bool true)], args := [d] }
  | _ => none }
def fnExactAreWoodsRow : OpenClaim := { program := "ytaajkamfeaafpaa", sum := "5433c95fe1d78ae7d35315d42598f7be3622ae5f0a52750be7806f5485b3f65b", func := "loop.example/g01006/laws.FnExactAreWoods", spec := "fnExactAreWoods", apart := false }
def FnExactAreWoodsSaid : Prop := fnExactAreWoodsRow.holds Try.pinned (OpenSpec.ofChange fnExactAreWoodsSpec)

/-- ITS FALSE NEIGHBOUR: 'it returns false'. Refute it at one input. -/
def fnExactAreWoodsWrong : ChangeSpec := { name := "fnExactAreWoods", fn := fun _ => fun
  | [d] => { results := [.lit (.bool false)], args := [d] }
  | _ => none }
def FnExactAreWoodsWrongFalsely : Prop := fnExactAreWoodsRow.holds Try.pinned (OpenSpec.ofChange fnExactAreWoodsWrong)

/-- 'laws.FnExactCheapestWood': WHATEVER THE INPUT: true; the input reads as it did. -/
def fnExactCheapestWoodSpec : ChangeSpec := { name := "fnExactCheapestWood", fn := fun _ => fun
  | [d1, d2] => { results := [.lit (.bool true)], args := [d1, d2] }
  | _ => none }
def fnExactCheapestWoodRow : OpenClaim := { program := "ytaajkamfeaafpaa", sum := "5433c95fe1d78ae7d35315d42598f7be3622ae5f0a52750be7806f5485b3f65b", func := "loop.example/g01006/laws.FnExactCheapestWood", spec := "fnExactCheapestWood", apart := false }
def FnExactCheapestWoodSaid : Prop := fnExactCheapestWoodRow.holds Try.pinned (OpenSpec.ofChange fnExactCheapestWoodSpec)

/-- ITS FALSE NEIGHBOUR: 'it returns false'. Refute it at one input. -/
def fnExactCheapestWoodWrong : ChangeSpec := { name := "fnExactCheapestWood", fn := fun _ => fun
  | [d1, d2] => { results := [.lit (.bool false)], args := [d1, d2] }
  | _ => none }
def FnExactCheapestWoodWrongFalsely : Prop := fnExactCheapestWoodRow.holds Try.pinned (OpenSpec.ofChange fnExactCheapestWoodWrong)

/-- 'laws.FnExactLateFrames': WHATEVER THE INPUT: true; the input reads as it did. -/
def fnExactLateFramesSpec : ChangeSpec := { name := "fnExactLateFrames", fn := fun _ => fun
  | [d1, d2, d3] => { results := [.lit (.bool true)], args := [d1, d2, d3] }
  | _ => none }
def fnExactLateFramesRow : OpenClaim := { program := "ytaajkamfeaafpaa", sum := "5433c95fe1d78ae7d35315d42598f7be3622ae5f0a52750be7806f5485b3f65b", func := "loop.example/g01006/laws.FnExactLateFrames", spec := "fnExactLateFrames", apart := false }
def FnExactLateFramesSaid : Prop := fnExactLateFramesRow.holds Try.pinned (OpenSpec.ofChange fnExactLateFramesSpec)

/-- ITS FALSE NEIGHBOUR: 'it returns false'. Refute it at one input. -/
def fnExactLateFramesWrong : ChangeSpec := { name := "fnExactLateFrames", fn := fun _ => fun
  | [d1, d2, d3] => { results := [.lit (.bool false)], args := [d1, d2, d3] }
  | _ => none }
def FnExactLateFramesWrongFalsely : Prop := fnExactLateFramesRow.holds Try.pinned (OpenSpec.ofChange fnExactLateFramesWrong)

/-- 'laws.FnRepairs': WHATEVER THE INPUT: true; the input reads as it did. -/
def fnRepairsSpec : ChangeSpec := { name := "fnRepairs", fn := fun _ => fun
  | [d] => { results := [.lit (.bool true)], args := [d] }
  | _ => none }
def fnRepairsRow : OpenClaim := { program := "ytaajkamfeaafpaa", sum := "5433c95fe1d78ae7d35315d42598f7be3622ae5f0a52750be7806f5485b3f65b", func := "loop.example/g01006/laws.FnRepairs", spec := "fnRepairs", apart := false }
def FnRepairsSaid : Prop := fnRepairsRow.holds Try.pinned (OpenSpec.ofChange fnRepairsSpec)

/-- ITS FALSE NEIGHBOUR: 'it returns false'. Refute it at one input. -/
def fnRepairsWrong : ChangeSpec := { name := "fnRepairs", fn := fun _ => fun
  | [d] => { results := [.lit (.bool false)], args := [d] }
  | _ => none }
def FnRepairsWrongFalsely : Prop := fnRepairsRow.holds Try.pinned (OpenSpec.ofChange fnRepairsWrong)

/-- 'laws.FnExactAreRepairs': WHATEVER THE INPUT: true; the input reads as it did. -/
def fnExactAreRepairsSpec : ChangeSpec := { name := "fnExactAreRepairs", fn := fun _ => fun
  | [d1, d2] => { results := [.lit (.bool true)], args := [d1, d2] }
  | _ => none }
def fnExactAreRepairsRow : OpenClaim := { program := "ytaajkamfeaafpaa", sum := "5433c95fe1d78ae7d35315d42598f7be3622ae5f0a52750be7806f5485b3f65b", func := "loop.example/g01006/laws.FnExactAreRepairs", spec := "fnExactAreRepairs", apart := false }
def FnExactAreRepairsSaid : Prop := fnExactAreRepairsRow.holds Try.pinned (OpenSpec.ofChange fnExactAreRepairsSpec)

/-- ITS FALSE NEIGHBOUR: 'it returns false'. Refute it at one input. -/
def fnExactAreRepairsWrong : ChangeSpec := { name := "fnExactAreRepairs", fn := fun _ => fun
  | [d1, d2] => { results := [.lit (.bool false)], args := [d1, d2] }
  | _ => none }
def FnExactAreRepairsWrongFalsely : Prop := fnExactAreRepairsRow.holds Try.pinned (OpenSpec.ofChange fnExactAreRepairsWrong)

/-- 'laws.FnExactCostOf': WHATEVER THE INPUT: true; the input reads as it did. -/
def fnExactCostOfSpec : ChangeSpec := { name := "fnExactCostOf", fn := fun _ => fun
  | [d1, d2, d3] => { results := [.lit (.bool true)], args := [d1, d2, d3] }
  | _ => none }
def fnExactCostOfRow : OpenClaim := { program := "ytaajkamfeaafpaa", sum := "5433c95fe1d78ae7d35315d42598f7be3622ae5f0a52750be7806f5485b3f65b", func := "loop.example/g01006/laws.FnExactCostOf", spec := "fnExactCostOf", apart := false }
def FnExactCostOfSaid : Prop := fnExactCostOfRow.holds Try.pinned (OpenSpec.ofChange fnExactCostOfSpec)

/-- ITS FALSE NEIGHBOUR: 'it returns false'. Refute it at one input. -/
def fnExactCostOfWrong : ChangeSpec := { name := "fnExactCostOf", fn := fun _ => fun
  | [d1, d2, d3] => { results := [.lit (.bool false)], args := [d1, d2, d3] }
  | _ => none }
def FnExactCostOfWrongFalsely : Prop := fnExactCostOfRow.holds Try.pinned (OpenSpec.ofChange fnExactCostOfWrong)

/-- 'laws.FnExactMinutesFor': WHATEVER THE INPUT: true; the input reads as it did. -/
def fnExactMinutesForSpec : ChangeSpec := { name := "fnExactMinutesFor", fn := fun _ => fun
  | [d1, d2, d3] => { results := [.lit (.bool true)], args := [d1, d2, d3] }
  | _ => none }
def fnExactMinutesForRow : OpenClaim := { program := "ytaajkamfeaafpaa", sum := "5433c95fe1d78ae7d35315d42598f7be3622ae5f0a52750be7806f5485b3f65b", func := "loop.example/g01006/laws.FnExactMinutesFor", spec := "fnExactMinutesFor", apart := false }
def FnExactMinutesForSaid : Prop := fnExactMinutesForRow.holds Try.pinned (OpenSpec.ofChange fnExactMinutesForSpec)

/-- ITS FALSE NEIGHBOUR: 'it returns false'. Refute it at one input. -/
def fnExactMinutesForWrong : ChangeSpec := { name := "fnExactMinutesFor", fn := fun _ => fun
  | [d1, d2, d3] => { results := [.lit (.bool false)], args := [d1, d2, d3] }
  | _ => none }
def FnExactMinutesForWrongFalsely : Prop := fnExactMinutesForRow.holds Try.pinned (OpenSpec.ofChange fnExactMinutesForWrong)

/-- 'laws.FnExactBeadsOfWood': WHATEVER THE INPUT: true; the input reads as it did. -/
def fnExactBeadsOfWoodSpec : ChangeSpec := { name := "fnExactBeadsOfWood", fn := fun _ => fun
  | [d1, d2] => { results := [.lit (.bool true)], args := [d1, d2] }
  | _ => none }
def fnExactBeadsOfWoodRow : OpenClaim := { program := "ytaajkamfeaafpaa", sum := "5433c95fe1d78ae7d35315d42598f7be3622ae5f0a52750be7806f5485b3f65b", func := "loop.example/g01006/laws.FnExactBeadsOfWood", spec := "fnExactBeadsOfWood", apart := false }
def FnExactBeadsOfWoodSaid : Prop := fnExactBeadsOfWoodRow.holds Try.pinned (OpenSpec.ofChange fnExactBeadsOfWoodSpec)

/-- ITS FALSE NEIGHBOUR: 'it returns false'. Refute it at one input. -/
def fnExactBeadsOfWoodWrong : ChangeSpec := { name := "fnExactBeadsOfWood", fn := fun _ => fun
  | [d1, d2] => { results := [.lit (.bool false)], args := [d1, d2] }
  | _ => none }
def FnExactBeadsOfWoodWrongFalsely : Prop := fnExactBeadsOfWoodRow.holds Try.pinned (OpenSpec.ofChange fnExactBeadsOfWoodWrong)

/-- 'laws.FnExactReplaceWood': WHATEVER THE INPUT: true; the input reads as it did. -/
def fnExactReplaceWoodSpec : ChangeSpec := { name := "fnExactReplaceWood", fn := fun _ => fun
  | [d1, d2, d3, d4] => { results := [.lit (.bool true)], args := [d1, d2, d3, d4] }
  | _ => none }
def fnExactReplaceWoodRow : OpenClaim := { program := "ytaajkamfeaafpaa", sum := "5433c95fe1d78ae7d35315d42598f7be3622ae5f0a52750be7806f5485b3f65b", func := "loop.example/g01006/laws.FnExactReplaceWood", spec := "fnExactReplaceWood", apart := false }
def FnExactReplaceWoodSaid : Prop := fnExactReplaceWoodRow.holds Try.pinned (OpenSpec.ofChange fnExactReplaceWoodSpec)

/-- ITS FALSE NEIGHBOUR: 'it returns false'. Refute it at one input. -/
def fnExactReplaceWoodWrong : ChangeSpec := { name := "fnExactReplaceWood", fn := fun _ => fun
  | [d1, d2, d3, d4] => { results := [.lit (.bool false)], args := [d1, d2, d3, d4] }
  | _ => none }
def FnExactReplaceWoodWrongFalsely : Prop := fnExactReplaceWoodRow.holds Try.pinned (OpenSpec.ofChange fnExactReplaceWoodWrong)

/-- 'laws.FnExactWorkOrder': WHATEVER THE INPUT: true; the input reads as it did. -/
def fnExactWorkOrderSpec : ChangeSpec := { name := "fnExactWorkOrder", fn := fun _ => fun
  | [d1, d2] => { results := [.lit (.bool true)], args := [d1, d2] }
  | _ => none }
def fnExactWorkOrderRow : OpenClaim := { program := "ytaajkamfeaafpaa", sum := "5433c95fe1d78ae7d35315d42598f7be3622ae5f0a52750be7806f5485b3f65b", func := "loop.example/g01006/laws.FnExactWorkOrder", spec := "fnExactWorkOrder", apart := false }
def FnExactWorkOrderSaid : Prop := fnExactWorkOrderRow.holds Try.pinned (OpenSpec.ofChange fnExactWorkOrderSpec)

/-- ITS FALSE NEIGHBOUR: 'it returns false'. Refute it at one input. -/
def fnExactWorkOrderWrong : ChangeSpec := { name := "fnExactWorkOrder", fn := fun _ => fun
  | [d1, d2] => { results := [.lit (.bool false)], args := [d1, d2] }
  | _ => none }
def FnExactWorkOrderWrongFalsely : Prop := fnExactWorkOrderRow.holds Try.pinned (OpenSpec.ofChange fnExactWorkOrderWrong)

/-- 'laws.FnExactDaysNeeded': WHATEVER THE INPUT: true; the input reads as it did. -/
def fnExactDaysNeededSpec : ChangeSpec := { name := "fnExactDaysNeeded", fn := fun _ => fun
  | [d1, d2, d3] => { results := [.lit (.bool true)], args := [d1, d2, d3] }
  | _ => none }
def fnExactDaysNeededRow : OpenClaim := { program := "ytaajkamfeaafpaa", sum := "5433c95fe1d78ae7d35315d42598f7be3622ae5f0a52750be7806f5485b3f65b", func := "loop.example/g01006/laws.FnExactDaysNeeded", spec := "fnExactDaysNeeded", apart := false }
def FnExactDaysNeededSaid : Prop := fnExactDaysNeededRow.holds Try.pinned (OpenSpec.ofChange fnExactDaysNeededSpec)

/-- ITS FALSE NEIGHBOUR: 'it returns false'. Refute it at one input. -/
def fnExactDaysNeededWrong : ChangeSpec := { name := "fnExactDaysNeeded", fn := fun _ => fun
  | [d1, d2, d3] => { results := [.lit (.bool false)], args := [d1, d2, d3] }
  | _ => none }
def FnExactDaysNeededWrongFalsely : Prop := fnExactDaysNeededRow.holds Try.pinned (OpenSpec.ofChange fnExactDaysNeededWrong)

/-- 'laws.FnWoods': WHATEVER THE INPUT: true; the input reads as it did. -/
def fnWoodsSpec : ChangeSpec := { name := "fnWoods", fn := fun _ => fun
  | [d] => { results := [.lit (.bool true)], args := [d] }
  | _ => none }
def fnWoodsRow : OpenClaim := { program := "ytaajkamfeaafpaa", sum := "5433c95fe1d78ae7d35315d42598f7be3622ae5f0a52750be7806f5485b3f65b", func := "loop.example/g01006/laws.FnWoods", spec := "fnWoods", apart := false }
def FnWoodsSaid : Prop := fnWoodsRow.holds Try.pinned (OpenSpec.ofChange fnWoodsSpec)

/-- ITS FALSE NEIGHBOUR: 'it returns false'. Refute it at one input. -/
def fnWoodsWrong : ChangeSpec := { name := "fnWoods", fn := fun _ => fun
  | [d] => { results := [.lit (.bool false)], args := [d] }
  | _ => none }
def FnWoodsWrongFalsely : Prop := fnWoodsRow.holds Try.pinned (OpenSpec.ofChange fnWoodsWrong)

/- THE SECOND FORM. 'bulk': how many values and letters a reading holds, each counted each time it is reached (what is shared counts as often as it is met; a slice's spare places count too). A statement '..UptoSaid' is the law's where the arguments, and the package variables that the reading takes, are together of bulk at most 1048576: NARROWER than '..Said'. Prove '..Said' where nothing that the law and all that it calls make is longer than what came in: it says more and counts as full. Else prove '..UptoSaid'. A law counts once. -/
mutual
def uptoBulk {H : Type} : DataW H → Nat
  | .lit (.string bytes) => bytes.length + 1
  | .lit _ => 1
  | .nil => 1
  | .ptr d => uptoBulk d + 1
  | .slice elems spare => uptoBulkAll elems + uptoBulkAll spare + 1
  | .agg parts => uptoBulkAll parts + 1
  | .iface _ d => uptoBulk d + 1
  | .map entries => uptoBulkEntries entries + 1
  | .held _ => 1
def uptoBulkAll {H : Type} : List (DataW H) → Nat
  | [] => 0
  | d :: r => uptoBulk d + uptoBulkAll r
def uptoBulkEntries {H : Type} : List (Lit × DataW H) → Nat
  | [] => 0
  | x :: r => uptoBulkEntry x + uptoBulkEntries r
def uptoBulkEntry {H : Type} : Lit × DataW H → Nat
  | (.string bytes, d) => bytes.length + uptoBulk d + 1
  | (_, d) => uptoBulk d + 1
 end
def uptoSmall : (H : Type) → List (DataW H) → Bool := fun _ ds => decide (uptoBulkAll ds ≤ 1048576)
def OpenSpec.upto (s : _root_.Go.ChangeSpec) : _root_.Go.OpenSpec := { _root_.Go.OpenSpec.ofChange s with cond := some uptoSmall }

/-- 'laws.FnExactAreWoods', WHERE WHAT IT READS IS OF BULK AT MOST 1048576: true; the input reads as it did. -/
def fnExactAreWoodsUptoRow : OpenClaim := { program := "ytaajkamfeaafpaa", sum := "5433c95fe1d78ae7d35315d42598f7be3622ae5f0a52750be7806f5485b3f65b", func := "loop.example/g01006/laws.FnExactAreWoods", spec := "fnExactAreWoods", apart := false, narrowed := true }
def FnExactAreWoodsUptoSaid : Prop := fnExactAreWoodsUptoRow.holds Try.pinned (OpenSpec.upto fnExactAreWoodsSpec)

/-- 'laws.FnExactCheapestWood', WHERE WHAT IT READS IS OF BULK AT MOST 1048576: true; the input reads as it did. -/
def fnExactCheapestWoodUptoRow : OpenClaim := { program := "ytaajkamfeaafpaa", sum := "5433c95fe1d78ae7d35315d42598f7be3622ae5f0a52750be7806f5485b3f65b", func := "loop.example/g01006/laws.FnExactCheapestWood", spec := "fnExactCheapestWood", apart := false, narrowed := true }
def FnExactCheapestWoodUptoSaid : Prop := fnExactCheapestWoodUptoRow.holds Try.pinned (OpenSpec.upto fnExactCheapestWoodSpec)

/-- 'laws.FnExactLateFrames', WHERE WHAT IT READS IS OF BULK AT MOST 1048576: true; the input reads as it did. -/
def fnExactLateFramesUptoRow : OpenClaim := { program := "ytaajkamfeaafpaa", sum := "5433c95fe1d78ae7d35315d42598f7be3622ae5f0a52750be7806f5485b3f65b", func := "loop.example/g01006/laws.FnExactLateFrames", spec := "fnExactLateFrames", apart := false, narrowed := true }
def FnExactLateFramesUptoSaid : Prop := fnExactLateFramesUptoRow.holds Try.pinned (OpenSpec.upto fnExactLateFramesSpec)

/-- 'laws.FnRepairs', WHERE WHAT IT READS IS OF BULK AT MOST 1048576: true; the input reads as it did. -/
def fnRepairsUptoRow : OpenClaim := { program := "ytaajkamfeaafpaa", sum := "5433c95fe1d78ae7d35315d42598f7be3622ae5f0a52750be7806f5485b3f65b", func := "loop.example/g01006/laws.FnRepairs", spec := "fnRepairs", apart := false, narrowed := true }
def FnRepairsUptoSaid : Prop := fnRepairsUptoRow.holds Try.pinned (OpenSpec.upto fnRepairsSpec)

/-- 'laws.FnExactAreRepairs', WHERE WHAT IT READS IS OF BULK AT MOST 1048576: true; the input reads as it did. -/
def fnExactAreRepairsUptoRow : OpenClaim := { program := "ytaajkamfeaafpaa", sum := "5433c95fe1d78ae7d35315d42598f7be3622ae5f0a52750be7806f5485b3f65b", func := "loop.example/g01006/laws.FnExactAreRepairs", spec := "fnExactAreRepairs", apart := false, narrowed := true }
def FnExactAreRepairsUptoSaid : Prop := fnExactAreRepairsUptoRow.holds Try.pinned (OpenSpec.upto fnExactAreRepairsSpec)

/-- 'laws.FnExactCostOf', WHERE WHAT IT READS IS OF BULK AT MOST 1048576: true; the input reads as it did. -/
def fnExactCostOfUptoRow : OpenClaim := { program := "ytaajkamfeaafpaa", sum := "5433c95fe1d78ae7d35315d42598f7be3622ae5f0a52750be7806f5485b3f65b", func := "loop.example/g01006/laws.FnExactCostOf", spec := "fnExactCostOf", apart := false, narrowed := true }
def FnExactCostOfUptoSaid : Prop := fnExactCostOfUptoRow.holds Try.pinned (OpenSpec.upto fnExactCostOfSpec)

/-- 'laws.FnExactMinutesFor', WHERE WHAT IT READS IS OF BULK AT MOST 1048576: true; the input reads as it did. -/
def fnExactMinutesForUptoRow : OpenClaim := { program := "ytaajkamfeaafpaa", sum := "5433c95fe1d78ae7d35315d42598f7be3622ae5f0a52750be7806f5485b3f65b", func := "loop.example/g01006/laws.FnExactMinutesFor", spec := "fnExactMinutesFor", apart := false, narrowed := true }
def FnExactMinutesForUptoSaid : Prop := fnExactMinutesForUptoRow.holds Try.pinned (OpenSpec.upto fnExactMinutesForSpec)

/-- 'laws.FnExactBeadsOfWood', WHERE WHAT IT READS IS OF BULK AT MOST 1048576: true; the input reads as it did. -/
def fnExactBeadsOfWoodUptoRow : OpenClaim := { program := "ytaajkamfeaafpaa", sum := "5433c95fe1d78ae7d35315d42598f7be3622ae5f0a52750be7806f5485b3f65b", func := "loop.example/g01006/laws.FnExactBeadsOfWood", spec := "fnExactBeadsOfWood", apart := false, narrowed := true }
def FnExactBeadsOfWoodUptoSaid : Prop := fnExactBeadsOfWoodUptoRow.holds Try.pinned (OpenSpec.upto fnExactBeadsOfWoodSpec)

/-- 'laws.FnExactReplaceWood', WHERE WHAT IT READS IS OF BULK AT MOST 1048576: true; the input reads as it did. -/
def fnExactReplaceWoodUptoRow : OpenClaim := { program := "ytaajkamfeaafpaa", sum := "5433c95fe1d78ae7d35315d42598f7be3622ae5f0a52750be7806f5485b3f65b", func := "loop.example/g01006/laws.FnExactReplaceWood", spec := "fnExactReplaceWood", apart := false, narrowed := true }
def FnExactReplaceWoodUptoSaid : Prop := fnExactReplaceWoodUptoRow.holds Try.pinned (OpenSpec.upto fnExactReplaceWoodSpec)

/-- 'laws.FnExactWorkOrder', WHERE WHAT IT READS IS OF BULK AT MOST 1048576: true; the input reads as it did. -/
def fnExactWorkOrderUptoRow : OpenClaim := { program := "ytaajkamfeaafpaa", sum := "5433c95fe1d78ae7d35315d42598f7be3622ae5f0a52750be7806f5485b3f65b", func := "loop.example/g01006/laws.FnExactWorkOrder", spec := "fnExactWorkOrder", apart := false, narrowed := true }
def FnExactWorkOrderUptoSaid : Prop := fnExactWorkOrderUptoRow.holds Try.pinned (OpenSpec.upto fnExactWorkOrderSpec)

/-- 'laws.FnExactDaysNeeded', WHERE WHAT IT READS IS OF BULK AT MOST 1048576: true; the input reads as it did. -/
def fnExactDaysNeededUptoRow : OpenClaim := { program := "ytaajkamfeaafpaa", sum := "5433c95fe1d78ae7d35315d42598f7be3622ae5f0a52750be7806f5485b3f65b", func := "loop.example/g01006/laws.FnExactDaysNeeded", spec := "fnExactDaysNeeded", apart := false, narrowed := true }
def FnExactDaysNeededUptoSaid : Prop := fnExactDaysNeededUptoRow.holds Try.pinned (OpenSpec.upto fnExactDaysNeededSpec)

/-- 'laws.FnWoods', WHERE WHAT IT READS IS OF BULK AT MOST 1048576: true; the input reads as it did. -/
def fnWoodsUptoRow : OpenClaim := { program := "ytaajkamfeaafpaa", sum := "5433c95fe1d78ae7d35315d42598f7be3622ae5f0a52750be7806f5485b3f65b", func := "loop.example/g01006/laws.FnWoods", spec := "fnWoods", apart := false, narrowed := true }
def FnWoodsUptoSaid : Prop := fnWoodsUptoRow.holds Try.pinned (OpenSpec.upto fnWoodsSpec)

end Rows
end Go.Proofs.Ytaajkamfeaafpaa
