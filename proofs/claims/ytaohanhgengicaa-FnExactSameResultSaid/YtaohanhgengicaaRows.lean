/-
  No cell of these rows narrows 'for every input' (looked for: loops, veiled, ifaces, maps, wideKeys, modest, calm, conditions, laid).
  DERIVED. THE GIVEN ROWS OF THIS SEAT. 12 by the template 'for every input the law returns true; each argument reads behind the call as it read before'; 0 by the template 'total and deterministic' (their statements: YtaohanhgengicaaTotals.lean).
  GIVEN WITH THE SEED: the statements are not yours to turn. If you find one false, say at which input.
  Laid BY PROGRAM, IN A SANDBOX (cutbox-rows.mjs): the forced cells as the released guide's own fill.sh prints them over the translation 5c78e254668d4273… (all of the seat's roots in one cut). By AI agents, Wed Nov 11 2026. No macro, syntax, notation, axiom, sorry.
-/
import Derived.Test.YtaohanhgengicaaChecked
import GoSem.Claim
import GoSem.ClaimJoined
import GoSem.ClaimMapViews
import Derived.JoinedTies
import Derived.KernelRfl
namespace Go.Proofs.Ytaohanhgengicaa
/- THE CELL 'sum', in the pinned program and in every row, IS THE sha256 OF THE DUMP (.gsa) THAT YtaohanhgengicaaProg.lean LOADS. Nothing in Lean hashes anything: it is a label: what it is worth is what the hold of that sum in a sandbox is worth. -/
noncomputable def Try.pinned : Pinned := { name := "ytaohanhgengicaa", sum := "5c78e254668d427393fb7f7ec3aa72e7ebf7913ea6691feaf42547fefa52c5a9", checked := Try.checked }
namespace Rows
def none {H : Type} : Left H := { results := [], args := [] }

/-- 'laws.FnExactFrameFor': WHATEVER THE INPUT: true; the input reads as it did. -/
def fnExactFrameForSpec : ChangeSpec := { name := "fnExactFrameFor", fn := fun _ => fun
  | [d1, d2, d3, d4] => { results := [.lit (.bool true)], args := [d1, d2, d3, d4] }
  | _ => none }
def fnExactFrameForRow : OpenClaim := { program := "ytaohanhgengicaa", sum := "5c78e254668d427393fb7f7ec3aa72e7ebf7913ea6691feaf42547fefa52c5a9", func := "loop.example/g01006/laws.FnExactFrameFor", spec := "fnExactFrameFor", apart := false }
def FnExactFrameForSaid : Prop := fnExactFrameForRow.holds Try.pinned (OpenSpec.ofChange fnExactFrameForSpec)

/-- ITS FALSE NEIGHBOUR: 'it returns false'. Refute it at one input. -/
def fnExactFrameForWrong : ChangeSpec := { name := "fnExactFrameFor", fn := fun _ => fun
  | [d1, d2, d3, d4] => { results := [.lit (.bool false)], args := [d1, d2, d3, d4] }
  | _ => none }
def FnExactFrameForWrongFalsely : Prop := fnExactFrameForRow.holds Try.pinned (OpenSpec.ofChange fnExactFrameForWrong)

/-- 'laws.FnExactSetRod': WHATEVER THE INPUT: true; the input reads as it did. -/
def fnExactSetRodSpec : ChangeSpec := { name := "fnExactSetRod", fn := fun _ => fun
  | [d1, d2, d3] => { results := [.lit (.bool true)], args := [d1, d2, d3] }
  | _ => none }
def fnExactSetRodRow : OpenClaim := { program := "ytaohanhgengicaa", sum := "5c78e254668d427393fb7f7ec3aa72e7ebf7913ea6691feaf42547fefa52c5a9", func := "loop.example/g01006/laws.FnExactSetRod", spec := "fnExactSetRod", apart := false }
def FnExactSetRodSaid : Prop := fnExactSetRodRow.holds Try.pinned (OpenSpec.ofChange fnExactSetRodSpec)

/-- ITS FALSE NEIGHBOUR: 'it returns false'. Refute it at one input. -/
def fnExactSetRodWrong : ChangeSpec := { name := "fnExactSetRod", fn := fun _ => fun
  | [d1, d2, d3] => { results := [.lit (.bool false)], args := [d1, d2, d3] }
  | _ => none }
def FnExactSetRodWrongFalsely : Prop := fnExactSetRodRow.holds Try.pinned (OpenSpec.ofChange fnExactSetRodWrong)

/-- 'laws.FnExactCleared': WHATEVER THE INPUT: true; the input reads as it did. -/
def fnExactClearedSpec : ChangeSpec := { name := "fnExactCleared", fn := fun _ => fun
  | [d] => { results := [.lit (.bool true)], args := [d] }
  | _ => none }
def fnExactClearedRow : OpenClaim := { program := "ytaohanhgengicaa", sum := "5c78e254668d427393fb7f7ec3aa72e7ebf7913ea6691feaf42547fefa52c5a9", func := "loop.example/g01006/laws.FnExactCleared", spec := "fnExactCleared", apart := false }
def FnExactClearedSaid : Prop := fnExactClearedRow.holds Try.pinned (OpenSpec.ofChange fnExactClearedSpec)

/-- ITS FALSE NEIGHBOUR: 'it returns false'. Refute it at one input. -/
def fnExactClearedWrong : ChangeSpec := { name := "fnExactCleared", fn := fun _ => fun
  | [d] => { results := [.lit (.bool false)], args := [d] }
  | _ => none }
def FnExactClearedWrongFalsely : Prop := fnExactClearedRow.holds Try.pinned (OpenSpec.ofChange fnExactClearedWrong)

/-- 'laws.FnExactMadeStandard': WHATEVER THE INPUT: true; the input reads as it did. -/
def fnExactMadeStandardSpec : ChangeSpec := { name := "fnExactMadeStandard", fn := fun _ => fun
  | [d] => { results := [.lit (.bool true)], args := [d] }
  | _ => none }
def fnExactMadeStandardRow : OpenClaim := { program := "ytaohanhgengicaa", sum := "5c78e254668d427393fb7f7ec3aa72e7ebf7913ea6691feaf42547fefa52c5a9", func := "loop.example/g01006/laws.FnExactMadeStandard", spec := "fnExactMadeStandard", apart := false }
def FnExactMadeStandardSaid : Prop := fnExactMadeStandardRow.holds Try.pinned (OpenSpec.ofChange fnExactMadeStandardSpec)

/-- ITS FALSE NEIGHBOUR: 'it returns false'. Refute it at one input. -/
def fnExactMadeStandardWrong : ChangeSpec := { name := "fnExactMadeStandard", fn := fun _ => fun
  | [d] => { results := [.lit (.bool false)], args := [d] }
  | _ => none }
def FnExactMadeStandardWrongFalsely : Prop := fnExactMadeStandardRow.holds Try.pinned (OpenSpec.ofChange fnExactMadeStandardWrong)

/-- 'laws.FnExactMoveBeads': WHATEVER THE INPUT: true; the input reads as it did. -/
def fnExactMoveBeadsSpec : ChangeSpec := { name := "fnExactMoveBeads", fn := fun _ => fun
  | [d1, d2] => { results := [.lit (.bool true)], args := [d1, d2] }
  | _ => none }
def fnExactMoveBeadsRow : OpenClaim := { program := "ytaohanhgengicaa", sum := "5c78e254668d427393fb7f7ec3aa72e7ebf7913ea6691feaf42547fefa52c5a9", func := "loop.example/g01006/laws.FnExactMoveBeads", spec := "fnExactMoveBeads", apart := false }
def FnExactMoveBeadsSaid : Prop := fnExactMoveBeadsRow.holds Try.pinned (OpenSpec.ofChange fnExactMoveBeadsSpec)

/-- ITS FALSE NEIGHBOUR: 'it returns false'. Refute it at one input. -/
def fnExactMoveBeadsWrong : ChangeSpec := { name := "fnExactMoveBeads", fn := fun _ => fun
  | [d1, d2] => { results := [.lit (.bool false)], args := [d1, d2] }
  | _ => none }
def FnExactMoveBeadsWrongFalsely : Prop := fnExactMoveBeadsRow.holds Try.pinned (OpenSpec.ofChange fnExactMoveBeadsWrong)

/-- 'laws.FnExactPlayMoves': WHATEVER THE INPUT: true; the input reads as it did. -/
def fnExactPlayMovesSpec : ChangeSpec := { name := "fnExactPlayMoves", fn := fun _ => fun
  | [d1, d2] => { results := [.lit (.bool true)], args := [d1, d2] }
  | _ => none }
def fnExactPlayMovesRow : OpenClaim := { program := "ytaohanhgengicaa", sum := "5c78e254668d427393fb7f7ec3aa72e7ebf7913ea6691feaf42547fefa52c5a9", func := "loop.example/g01006/laws.FnExactPlayMoves", spec := "fnExactPlayMoves", apart := false }
def FnExactPlayMovesSaid : Prop := fnExactPlayMovesRow.holds Try.pinned (OpenSpec.ofChange fnExactPlayMovesSpec)

/-- ITS FALSE NEIGHBOUR: 'it returns false'. Refute it at one input. -/
def fnExactPlayMovesWrong : ChangeSpec := { name := "fnExactPlayMoves", fn := fun _ => fun
  | [d1, d2] => { results := [.lit (.bool false)], args := [d1, d2] }
  | _ => none }
def FnExactPlayMovesWrongFalsely : Prop := fnExactPlayMovesRow.holds Try.pinned (OpenSpec.ofChange fnExactPlayMovesWrong)

/-- 'laws.FnExactCountDown': WHATEVER THE INPUT: true; the input reads as it did. -/
def fnExactCountDownSpec : ChangeSpec := { name := "fnExactCountDown", fn := fun _ => fun
  | [d1, d2] => { results := [.lit (.bool true)], args := [d1, d2] }
  | _ => none }
def fnExactCountDownRow : OpenClaim := { program := "ytaohanhgengicaa", sum := "5c78e254668d427393fb7f7ec3aa72e7ebf7913ea6691feaf42547fefa52c5a9", func := "loop.example/g01006/laws.FnExactCountDown", spec := "fnExactCountDown", apart := false }
def FnExactCountDownSaid : Prop := fnExactCountDownRow.holds Try.pinned (OpenSpec.ofChange fnExactCountDownSpec)

/-- ITS FALSE NEIGHBOUR: 'it returns false'. Refute it at one input. -/
def fnExactCountDownWrong : ChangeSpec := { name := "fnExactCountDown", fn := fun _ => fun
  | [d1, d2] => { results := [.lit (.bool false)], args := [d1, d2] }
  | _ => none }
def FnExactCountDownWrongFalsely : Prop := fnExactCountDownRow.holds Try.pinned (OpenSpec.ofChange fnExactCountDownWrong)

/-- 'laws.FnExactNearestBelow': WHATEVER THE INPUT: true; the input reads as it did. -/
def fnExactNearestBelowSpec : ChangeSpec := { name := "fnExactNearestBelow", fn := fun _ => fun
  | [d1, d2] => { results := [.lit (.bool true)], args := [d1, d2] }
  | _ => none }
def fnExactNearestBelowRow : OpenClaim := { program := "ytaohanhgengicaa", sum := "5c78e254668d427393fb7f7ec3aa72e7ebf7913ea6691feaf42547fefa52c5a9", func := "loop.example/g01006/laws.FnExactNearestBelow", spec := "fnExactNearestBelow", apart := false }
def FnExactNearestBelowSaid : Prop := fnExactNearestBelowRow.holds Try.pinned (OpenSpec.ofChange fnExactNearestBelowSpec)

/-- ITS FALSE NEIGHBOUR: 'it returns false'. Refute it at one input. -/
def fnExactNearestBelowWrong : ChangeSpec := { name := "fnExactNearestBelow", fn := fun _ => fun
  | [d1, d2] => { results := [.lit (.bool false)], args := [d1, d2] }
  | _ => none }
def FnExactNearestBelowWrongFalsely : Prop := fnExactNearestBelowRow.holds Try.pinned (OpenSpec.ofChange fnExactNearestBelowWrong)

/-- 'laws.FnExactQuotientOn': WHATEVER THE INPUT: true; the input reads as it did. -/
def fnExactQuotientOnSpec : ChangeSpec := { name := "fnExactQuotientOn", fn := fun _ => fun
  | [d1, d2] => { results := [.lit (.bool true)], args := [d1, d2] }
  | _ => none }
def fnExactQuotientOnRow : OpenClaim := { program := "ytaohanhgengicaa", sum := "5c78e254668d427393fb7f7ec3aa72e7ebf7913ea6691feaf42547fefa52c5a9", func := "loop.example/g01006/laws.FnExactQuotientOn", spec := "fnExactQuotientOn", apart := false }
def FnExactQuotientOnSaid : Prop := fnExactQuotientOnRow.holds Try.pinned (OpenSpec.ofChange fnExactQuotientOnSpec)

/-- ITS FALSE NEIGHBOUR: 'it returns false'. Refute it at one input. -/
def fnExactQuotientOnWrong : ChangeSpec := { name := "fnExactQuotientOn", fn := fun _ => fun
  | [d1, d2] => { results := [.lit (.bool false)], args := [d1, d2] }
  | _ => none }
def FnExactQuotientOnWrongFalsely : Prop := fnExactQuotientOnRow.holds Try.pinned (OpenSpec.ofChange fnExactQuotientOnWrong)

/-- 'laws.FnExactLongestCarry': WHATEVER THE INPUT: true; the input reads as it did. -/
def fnExactLongestCarrySpec : ChangeSpec := { name := "fnExactLongestCarry", fn := fun _ => fun
  | [d1, d2] => { results := [.lit (.bool true)], args := [d1, d2] }
  | _ => none }
def fnExactLongestCarryRow : OpenClaim := { program := "ytaohanhgengicaa", sum := "5c78e254668d427393fb7f7ec3aa72e7ebf7913ea6691feaf42547fefa52c5a9", func := "loop.example/g01006/laws.FnExactLongestCarry", spec := "fnExactLongestCarry", apart := false }
def FnExactLongestCarrySaid : Prop := fnExactLongestCarryRow.holds Try.pinned (OpenSpec.ofChange fnExactLongestCarrySpec)

/-- ITS FALSE NEIGHBOUR: 'it returns false'. Refute it at one input. -/
def fnExactLongestCarryWrong : ChangeSpec := { name := "fnExactLongestCarry", fn := fun _ => fun
  | [d1, d2] => { results := [.lit (.bool false)], args := [d1, d2] }
  | _ => none }
def FnExactLongestCarryWrongFalsely : Prop := fnExactLongestCarryRow.holds Try.pinned (OpenSpec.ofChange fnExactLongestCarryWrong)

/-- 'laws.FnExactSameResult': WHATEVER THE INPUT: true; the input reads as it did. -/
def fnExactSameResultSpec : ChangeSpec := { name := "fnExactSameResult", fn := fun _ => fun
  | [d1, d2, d3] => { results := [.lit (.bool true)], args := [d1, d2, d3] }
  | _ => none }
def fnExactSameResultRow : OpenClaim := { program := "ytaohanhgengicaa", sum := "5c78e254668d427393fb7f7ec3aa72e7ebf7913ea6691feaf42547fefa52c5a9", func := "loop.example/g01006/laws.FnExactSameResult", spec := "fnExactSameResult", apart := false }
def FnExactSameResultSaid : Prop := fnExactSameResultRow.holds Try.pinned (OpenSpec.ofChange fnExactSameResultSpec)

/-- ITS FALSE NEIGHBOUR: 'it returns false'. Refute it at one input. -/
def fnExactSameResultWrong : ChangeSpec := { name := "fnExactSameResult", fn := fun _ => fun
  | [d1, d2, d3] => { results := [.lit (.bool false)], args := [d1, d2, d3] }
  | _ => none }
def FnExactSameResultWrongFalsely : Prop := fnExactSameResultRow.holds Try.pinned (OpenSpec.ofChange fnExactSameResultWrong)

/-- 'laws.FnExactHowOften': WHATEVER THE INPUT: true; the input reads as it did. -/
def fnExactHowOftenSpec : ChangeSpec := { name := "fnExactHowOften", fn := fun _ => fun
  | [d1, d2] => { results := [.lit (.bool true)], args := [d1, d2] }
  | _ => none }
def fnExactHowOftenRow : OpenClaim := { program := "ytaohanhgengicaa", sum := "5c78e254668d427393fb7f7ec3aa72e7ebf7913ea6691feaf42547fefa52c5a9", func := "loop.example/g01006/laws.FnExactHowOften", spec := "fnExactHowOften", apart := false }
def FnExactHowOftenSaid : Prop := fnExactHowOftenRow.holds Try.pinned (OpenSpec.ofChange fnExactHowOftenSpec)

/-- ITS FALSE NEIGHBOUR: 'it returns false'. Refute it at one input. -/
def fnExactHowOftenWrong : ChangeSpec := { name := "fnExactHowOften", fn := fun _ => fun
  | [d1, d2] => { results := [.lit (.bool false)], args := [d1, d2] }
  | _ => none }
def FnExactHowOftenWrongFalsely : Prop := fnExactHowOftenRow.holds Try.pinned (OpenSpec.ofChange fnExactHowOftenWrong)

/- THE SECOND FORM. 'bulk': how many values and letters a reading holds, each counted each time it is reached (what is shared counts as often as it is met; a slice's spare places count too). A statement '..UptoSaid' is the law's where the arguments, and the package variables that the reading takes, are together of bulk at most 1048576: NARROWER than '..Said'. Prove '..Said' where nothing that the law and all that it calls make is longer than what came in: it says more and counts as full. Else prove '..UptoSaid'. A law counts once. -/
mutual
def uptoBulk {H : Type} : DataW H → Nat
  | .lit (.string bytes) => bytes.length + 1
  | .lit _ => 1
  | .nil => 1
  | .ptr d => uptoBulk d + 1
  | .slice elems spare => uptoBulkAll elems + uptoBulkAll spare + 1
  | .agg parts => uptoBulkAll parts + 1
  | .iface _ d => uptoBulk d + 1
  | .map entries => uptoBulkEntries entries + 1
  | .held _ => 1
def uptoBulkAll {H : Type} : List (DataW H) → Nat
  | [] => 0
  | d :: r => uptoBulk d + uptoBulkAll r
def uptoBulkEntries {H : Type} : List (Lit × DataW H) → Nat
  | [] => 0
  | x :: r => uptoBulkEntry x + uptoBulkEntries r
def uptoBulkEntry {H : Type} : Lit × DataW H → Nat
  | (.string bytes, d) => bytes.length + uptoBulk d + 1
  | (_, d) => uptoBulk d + 1
 end
def uptoSmall : (H : Type) → List (DataW H) → Bool := fun _ ds => decide (uptoBulkAll ds ≤ 1048576)
def OpenSpec.upto (s : _root_.Go.ChangeSpec) : _root_.Go.OpenSpec := { _root_.Go.OpenSpec.ofChange s with cond := some uptoSmall }

/-- 'laws.FnExactFrameFor', WHERE WHAT IT READS IS OF BULK AT MOST 1048576: true; the input reads as it did. -/
def fnExactFrameForUptoRow : OpenClaim := { program := "ytaohanhgengicaa", sum := "5c78e254668d427393fb7f7ec3aa72e7ebf7913ea6691feaf42547fefa52c5a9", func := "loop.example/g01006/laws.FnExactFrameFor", spec := "fnExactFrameFor", apart := false, narrowed := true }
def FnExactFrameForUptoSaid : Prop := fnExactFrameForUptoRow.holds Try.pinned (OpenSpec.upto fnExactFrameForSpec)

/-- 'laws.FnExactSetRod', WHERE WHAT IT READS IS OF BULK AT MOST 1048576: true; the input reads as it did. -/
def fnExactSetRodUptoRow : OpenClaim := { program := "ytaohanhgengicaa", sum := "5c78e254668d427393fb7f7ec3aa72e7ebf7913ea6691feaf42547fefa52c5a9", func := "loop.example/g01006/laws.FnExactSetRod", spec := "fnExactSetRod", apart := false, narrowed := true }
def FnExactSetRodUptoSaid : Prop := fnExactSetRodUptoRow.holds Try.pinned (OpenSpec.upto fnExactSetRodSpec)

/-- 'laws.FnExactCleared', WHERE WHAT IT READS IS OF BULK AT MOST 1048576: true; the input reads as it did. -/
def fnExactClearedUptoRow : OpenClaim := { program := "ytaohanhgengicaa", sum := "5c78e254668d427393fb7f7ec3aa72e7ebf7913ea6691feaf42547fefa52c5a9", func := "loop.example/g01006/laws.FnExactCleared", spec := "fnExactCleared", apart := false, narrowed := true }
def FnExactClearedUptoSaid : Prop := fnExactClearedUptoRow.holds Try.pinned (OpenSpec.upto fnExactClearedSpec)

/-- 'laws.FnExactMadeStandard', WHERE WHAT IT READS IS OF BULK AT MOST 1048576: true; the input reads as it did. -/
def fnExactMadeStandardUptoRow : OpenClaim := { program := "ytaohanhgengicaa", sum := "5c78e254668d427393fb7f7ec3aa72e7ebf7913ea6691feaf42547fefa52c5a9", func := "loop.example/g01006/laws.FnExactMadeStandard", spec := "fnExactMadeStandard", apart := false, narrowed := true }
def FnExactMadeStandardUptoSaid : Prop := fnExactMadeStandardUptoRow.holds Try.pinned (OpenSpec.upto fnExactMadeStandardSpec)

/-- 'laws.FnExactMoveBeads', WHERE WHAT IT READS IS OF BULK AT MOST 1048576: true; the input reads as it did. -/
def fnExactMoveBeadsUptoRow : OpenClaim := { program := "ytaohanhgengicaa", sum := "5c78e254668d427393fb7f7ec3aa72e7ebf7913ea6691feaf42547fefa52c5a9", func := "loop.example/g01006/laws.FnExactMoveBeads", spec := "fnExactMoveBeads", apart := false, narrowed := true }
def FnExactMoveBeadsUptoSaid : Prop := fnExactMoveBeadsUptoRow.holds Try.pinned (OpenSpec.upto fnExactMoveBeadsSpec)

/-- 'laws.FnExactPlayMoves', WHERE WHAT IT READS IS OF BULK AT MOST 1048576: true; the input reads as it did. -/
def fnExactPlayMovesUptoRow : OpenClaim := { program := "ytaohanhgengicaa", sum := "5c78e254668d427393fb7f7ec3aa72e7ebf7913ea6691feaf42547fefa52c5a9", func := "loop.example/g01006/laws.FnExactPlayMoves", spec := "fnExactPlayMoves", apart := false, narrowed := true }
def FnExactPlayMovesUptoSaid : Prop := fnExactPlayMovesUptoRow.holds Try.pinned (OpenSpec.upto fnExactPlayMovesSpec)

/-- 'laws.FnExactCountDown', WHERE WHAT IT READS IS OF BULK AT MOST 1048576: true; the input reads as it did. -/
def fnExactCountDownUptoRow : OpenClaim := { program := "ytaohanhgengicaa", sum := "5c78e254668d427393fb7f7ec3aa72e7ebf7913ea6691feaf42547fefa52c5a9", func := "loop.example/g01006/laws.FnExactCountDown", spec := "fnExactCountDown", apart := false, narrowed := true }
def FnExactCountDownUptoSaid : Prop := fnExactCountDownUptoRow.holds Try.pinned (OpenSpec.upto fnExactCountDownSpec)

/-- 'laws.FnExactNearestBelow', WHERE WHAT IT READS IS OF BULK AT MOST 1048576: true; the input reads as it did. -/
def fnExactNearestBelowUptoRow : OpenClaim := { program := "ytaohanhgengicaa", sum := "5c78e254668d427393fb7f7ec3aa72e7ebf7913ea6691feaf42547fefa52c5a9", func := "loop.example/g01006/laws.FnExactNearestBelow", spec := "fnExactNearestBelow", apart := false, narrowed := true }
def FnExactNearestBelowUptoSaid : Prop := fnExactNearestBelowUptoRow.holds Try.pinned (OpenSpec.upto fnExactNearestBelowSpec)

/-- 'laws.FnExactQuotientOn', WHERE WHAT IT READS IS OF BULK AT MOST 1048576: true; the input reads as it did. -/
def fnExactQuotientOnUptoRow : OpenClaim := { program := "ytaohanhgengicaa", sum := "5c78e254668d427393fb7f7ec3aa72e7ebf7913ea6691feaf42547fefa52c5a9", func := "loop.example/g01006/laws.FnExactQuotientOn", spec := "fnExactQuotientOn", apart := false, narrowed := true }
def FnExactQuotientOnUptoSaid : Prop := fnExactQuotientOnUptoRow.holds Try.pinned (OpenSpec.upto fnExactQuotientOnSpec)

/-- 'laws.FnExactLongestCarry', WHERE WHAT IT READS IS OF BULK AT MOST 1048576: true; the input reads as it did. -/
def fnExactLongestCarryUptoRow : OpenClaim := { program := "ytaohanhgengicaa", sum := "5c78e254668d427393fb7f7ec3aa72e7ebf7913ea6691feaf42547fefa52c5a9", func := "loop.example/g01006/laws.FnExactLongestCarry", spec := "fnExactLongestCarry", apart := false, narrowed := true }
def FnExactLongestCarryUptoSaid : Prop := fnExactLongestCarryUptoRow.holds Try.pinned (OpenSpec.upto fnExactLongestCarrySpec)

/-- 'laws.FnExactSameResult', WHERE WHAT IT READS IS OF BULK AT MOST 1048576: true; the input reads as it did. -/
def fnExactSameResultUptoRow : OpenClaim := { program := "ytaohanhgengicaa", sum := "5c78e254668d427393fb7f7ec3aa72e7ebf7913ea6691feaf42547fefa52c5a9", func := "loop.example/g01006/laws.FnExactSameResult", spec := "fnExactSameResult", apart := false, narrowed := true }
def FnExactSameResultUptoSaid : Prop := fnExactSameResultUptoRow.holds Try.pinned (OpenSpec.upto fnExactSameResultSpec)

/-- 'laws.FnExactHowOften', WHERE WHAT IT READS IS OF BULK AT MOST 1048576: true; the input reads as it did. -/
def fnExactHowOftenUptoRow : OpenClaim := { program := "ytaohanhgengicaa", sum := "5c78e254668d427393fb7f7ec3aa72e7ebf7913ea6691feaf42547fefa52c5a9", func := "loop.example/g01006/laws.FnExactHowOften", spec := "fnExactHowOften", apart := false, narrowed := true }
def FnExactHowOftenUptoSaid : Prop := fnExactHowOftenUptoRow.holds Try.pinned (OpenSpec.upto fnExactHowOftenSpec)

end Rows
end Go.Proofs.Ytaohanhgengicaa
