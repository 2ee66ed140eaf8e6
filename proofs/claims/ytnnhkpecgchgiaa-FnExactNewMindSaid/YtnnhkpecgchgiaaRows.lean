/-
  No cell of these rows narrows 'for every input' (looked for: loops, veiled, ifaces, maps, wideKeys, modest, calm, conditions, laid).
  DERIVED. THE GIVEN ROWS OF THIS SEAT. 12 by the template 'for every input the law returns true; each argument reads behind the call as it read before'; 0 by the template 'total and deterministic' (their statements: YtnnhkpecgchgiaaTotals.lean).
  GIVEN WITH THE SEED: the statements are not yours to turn. If you find one false, say at which input.
  Laid BY PROGRAM, IN A SANDBOX (cutbox-rows.mjs): the forced cells as the released guide's own fill.sh prints them over the translation 0f3aeb5a8ee177dc… (all of the seat's roots in one cut). By AI agents, Wed Nov 11 2026. No macro, syntax, notation, axiom, sorry.
-/
import Derived.Test.YtnnhkpecgchgiaaChecked
import GoSem.Claim
import GoSem.ClaimJoined
import GoSem.ClaimMapViews
import Derived.JoinedTies
import Derived.KernelRfl
namespace Go.Proofs.Ytnnhkpecgchgiaa
/- THE CELL 'sum', in the pinned program and in every row, IS THE sha256 OF THE DUMP (.gsa) THAT YtnnhkpecgchgiaaProg.lean LOADS. Nothing in Lean hashes anything: it is a label: what it is worth is what the hold of that sum in a sandbox is worth. -/
noncomputable def Try.pinned : Pinned := { name := "ytnnhkpecgchgiaa", sum := "0f3aeb5a8ee177dc5776dc71d0b98963d66904cde94e42acfc77ff8d75f3d7cd", checked := Try.checked }
namespace Rows
def none {H : Type} : Left H := { results := [], args := [] }

/-- 'laws.FnExactNewMind': WHATEVER THE INPUT: true; the input reads as it did. -/
def fnExactNewMindSpec : ChangeSpec := { name := "fnExactNewMind", fn := fun _ => fun
  | [d] => { results := [.lit (.bool true)], args := [d] }
  | _ => none }
def fnExactNewMindRow : OpenClaim := { program := "ytnnhkpecgchgiaa", sum := "0f3aeb5a8ee177dc5776dc71d0b98963d66904cde94e42acfc77ff8d75f3d7cd", func := "loop.example/g01006/laws.FnExactNewMind", spec := "fnExactNewMind", apart := false }
def FnExactNewMindSaid : Prop := fnExactNewMindRow.holds Try.pinned (OpenSpec.ofChange fnExactNewMindSpec)

/-- ITS FALSE NEIGHBOUR: 'it returns false'. Refute it at one input. -/
def fnExactNewMindWrong : ChangeSpec := { name := "fnExactNewMind", fn := fun _ => fun
  | [d] => { results := [.lit (.bool false)], args := [d] }
  | _ => none }
def FnExactNewMindWrongFalsely : Prop := fnExactNewMindRow.holds Try.pinned (OpenSpec.ofChange fnExactNewMindWrong)

/-- 'laws.FnExactWrongRods': WHATEVER THE INPUT: true; the input reads as it did. -/
def fnExactWrongRodsSpec : ChangeSpec := { name := "fnExactWrongRods", fn := fun _ => fun
  | [d] => { results := [.lit (.bool true)], args := [d] }
  | _ => none }
def fnExactWrongRodsRow : OpenClaim := { program := "ytnnhkpecgchgiaa", sum := "0f3aeb5a8ee177dc5776dc71d0b98963d66904cde94e42acfc77ff8d75f3d7cd", func := "loop.example/g01006/laws.FnExactWrongRods", spec := "fnExactWrongRods", apart := false }
def FnExactWrongRodsSaid : Prop := fnExactWrongRodsRow.holds Try.pinned (OpenSpec.ofChange fnExactWrongRodsSpec)

/-- ITS FALSE NEIGHBOUR: 'it returns false'. Refute it at one input. -/
def fnExactWrongRodsWrong : ChangeSpec := { name := "fnExactWrongRods", fn := fun _ => fun
  | [d] => { results := [.lit (.bool false)], args := [d] }
  | _ => none }
def FnExactWrongRodsWrongFalsely : Prop := fnExactWrongRodsRow.holds Try.pinned (OpenSpec.ofChange fnExactWrongRodsWrong)

/-- 'laws.FnExactBorrowsOf': WHATEVER THE INPUT: true; the input reads as it did. -/
def fnExactBorrowsOfSpec : ChangeSpec := { name := "fnExactBorrowsOf", fn := fun _ => fun
  | [d1, d2] => { results := [.lit (.bool true)], args := [d1, d2] }
  | _ => none }
def fnExactBorrowsOfRow : OpenClaim := { program := "ytnnhkpecgchgiaa", sum := "0f3aeb5a8ee177dc5776dc71d0b98963d66904cde94e42acfc77ff8d75f3d7cd", func := "loop.example/g01006/laws.FnExactBorrowsOf", spec := "fnExactBorrowsOf", apart := false }
def FnExactBorrowsOfSaid : Prop := fnExactBorrowsOfRow.holds Try.pinned (OpenSpec.ofChange fnExactBorrowsOfSpec)

/-- ITS FALSE NEIGHBOUR: 'it returns false'. Refute it at one input. -/
def fnExactBorrowsOfWrong : ChangeSpec := { name := "fnExactBorrowsOf", fn := fun _ => fun
  | [d1, d2] => { results := [.lit (.bool false)], args := [d1, d2] }
  | _ => none }
def FnExactBorrowsOfWrongFalsely : Prop := fnExactBorrowsOfRow.holds Try.pinned (OpenSpec.ofChange fnExactBorrowsOfWrong)

/-- 'laws.FnExactCarriesOf': WHATEVER THE INPUT: true; the input reads as it did. -/
def fnExactCarriesOfSpec : ChangeSpec := { name := "fnExactCarriesOf", fn := fun _ => fun
  | [d1, d2] => { results := [.lit (.bool true)], args := [d1, d2] }
  | _ => none }
def fnExactCarriesOfRow : OpenClaim := { program := "ytnnhkpecgchgiaa", sum := "0f3aeb5a8ee177dc5776dc71d0b98963d66904cde94e42acfc77ff8d75f3d7cd", func := "loop.example/g01006/laws.FnExactCarriesOf", spec := "fnExactCarriesOf", apart := false }
def FnExactCarriesOfSaid : Prop := fnExactCarriesOfRow.holds Try.pinned (OpenSpec.ofChange fnExactCarriesOfSpec)

/-- ITS FALSE NEIGHBOUR: 'it returns false'. Refute it at one input. -/
def fnExactCarriesOfWrong : ChangeSpec := { name := "fnExactCarriesOf", fn := fun _ => fun
  | [d1, d2] => { results := [.lit (.bool false)], args := [d1, d2] }
  | _ => none }
def FnExactCarriesOfWrongFalsely : Prop := fnExactCarriesOfRow.holds Try.pinned (OpenSpec.ofChange fnExactCarriesOfWrong)

/-- 'laws.FnExactAddDigit': WHATEVER THE INPUT: true; the input reads as it did. -/
def fnExactAddDigitSpec : ChangeSpec := { name := "fnExactAddDigit", fn := fun _ => fun
  | [d1, d2, d3] => { results := [.lit (.bool true)], args := [d1, d2, d3] }
  | _ => none }
def fnExactAddDigitRow : OpenClaim := { program := "ytnnhkpecgchgiaa", sum := "0f3aeb5a8ee177dc5776dc71d0b98963d66904cde94e42acfc77ff8d75f3d7cd", func := "loop.example/g01006/laws.FnExactAddDigit", spec := "fnExactAddDigit", apart := false }
def FnExactAddDigitSaid : Prop := fnExactAddDigitRow.holds Try.pinned (OpenSpec.ofChange fnExactAddDigitSpec)

/-- ITS FALSE NEIGHBOUR: 'it returns false'. Refute it at one input. -/
def fnExactAddDigitWrong : ChangeSpec := { name := "fnExactAddDigit", fn := fun _ => fun
  | [d1, d2, d3] => { results := [.lit (.bool false)], args := [d1, d2, d3] }
  | _ => none }
def FnExactAddDigitWrongFalsely : Prop := fnExactAddDigitRow.holds Try.pinned (OpenSpec.ofChange fnExactAddDigitWrong)

/-- 'laws.FnExactTakeDigit': WHATEVER THE INPUT: true; the input reads as it did. -/
def fnExactTakeDigitSpec : ChangeSpec := { name := "fnExactTakeDigit", fn := fun _ => fun
  | [d1, d2, d3] => { results := [.lit (.bool true)], args := [d1, d2, d3] }
  | _ => none }
def fnExactTakeDigitRow : OpenClaim := { program := "ytnnhkpecgchgiaa", sum := "0f3aeb5a8ee177dc5776dc71d0b98963d66904cde94e42acfc77ff8d75f3d7cd", func := "loop.example/g01006/laws.FnExactTakeDigit", spec := "fnExactTakeDigit", apart := false }
def FnExactTakeDigitSaid : Prop := fnExactTakeDigitRow.holds Try.pinned (OpenSpec.ofChange fnExactTakeDigitSpec)

/-- ITS FALSE NEIGHBOUR: 'it returns false'. Refute it at one input. -/
def fnExactTakeDigitWrong : ChangeSpec := { name := "fnExactTakeDigit", fn := fun _ => fun
  | [d1, d2, d3] => { results := [.lit (.bool false)], args := [d1, d2, d3] }
  | _ => none }
def FnExactTakeDigitWrongFalsely : Prop := fnExactTakeDigitRow.holds Try.pinned (OpenSpec.ofChange fnExactTakeDigitWrong)

/-- 'laws.FnExactTakeNumber': WHATEVER THE INPUT: true; the input reads as it did. -/
def fnExactTakeNumberSpec : ChangeSpec := { name := "fnExactTakeNumber", fn := fun _ => fun
  | [d1, d2] => { results := [.lit (.bool true)], args := [d1, d2] }
  | _ => none }
def fnExactTakeNumberRow : OpenClaim := { program := "ytnnhkpecgchgiaa", sum := "0f3aeb5a8ee177dc5776dc71d0b98963d66904cde94e42acfc77ff8d75f3d7cd", func := "loop.example/g01006/laws.FnExactTakeNumber", spec := "fnExactTakeNumber", apart := false }
def FnExactTakeNumberSaid : Prop := fnExactTakeNumberRow.holds Try.pinned (OpenSpec.ofChange fnExactTakeNumberSpec)

/-- ITS FALSE NEIGHBOUR: 'it returns false'. Refute it at one input. -/
def fnExactTakeNumberWrong : ChangeSpec := { name := "fnExactTakeNumber", fn := fun _ => fun
  | [d1, d2] => { results := [.lit (.bool false)], args := [d1, d2] }
  | _ => none }
def FnExactTakeNumberWrongFalsely : Prop := fnExactTakeNumberRow.holds Try.pinned (OpenSpec.ofChange fnExactTakeNumberWrong)

/-- 'laws.FnExactAddNumber': WHATEVER THE INPUT: true; the input reads as it did. -/
def fnExactAddNumberSpec : ChangeSpec := { name := "fnExactAddNumber", fn := fun _ => fun
  | [d1, d2] => { results := [.lit (.bool true)], args := [d1, d2] }
  | _ => none }
def fnExactAddNumberRow : OpenClaim := { program := "ytnnhkpecgchgiaa", sum := "0f3aeb5a8ee177dc5776dc71d0b98963d66904cde94e42acfc77ff8d75f3d7cd", func := "loop.example/g01006/laws.FnExactAddNumber", spec := "fnExactAddNumber", apart := false }
def FnExactAddNumberSaid : Prop := fnExactAddNumberRow.holds Try.pinned (OpenSpec.ofChange fnExactAddNumberSpec)

/-- ITS FALSE NEIGHBOUR: 'it returns false'. Refute it at one input. -/
def fnExactAddNumberWrong : ChangeSpec := { name := "fnExactAddNumber", fn := fun _ => fun
  | [d1, d2] => { results := [.lit (.bool false)], args := [d1, d2] }
  | _ => none }
def FnExactAddNumberWrongFalsely : Prop := fnExactAddNumberRow.holds Try.pinned (OpenSpec.ofChange fnExactAddNumberWrong)

/-- 'laws.FnExactTimesCarries': WHATEVER THE INPUT: true; the input reads as it did. -/
def fnExactTimesCarriesSpec : ChangeSpec := { name := "fnExactTimesCarries", fn := fun _ => fun
  | [d1, d2] => { results := [.lit (.bool true)], args := [d1, d2] }
  | _ => none }
def fnExactTimesCarriesRow : OpenClaim := { program := "ytnnhkpecgchgiaa", sum := "0f3aeb5a8ee177dc5776dc71d0b98963d66904cde94e42acfc77ff8d75f3d7cd", func := "loop.example/g01006/laws.FnExactTimesCarries", spec := "fnExactTimesCarries", apart := false }
def FnExactTimesCarriesSaid : Prop := fnExactTimesCarriesRow.holds Try.pinned (OpenSpec.ofChange fnExactTimesCarriesSpec)

/-- ITS FALSE NEIGHBOUR: 'it returns false'. Refute it at one input. -/
def fnExactTimesCarriesWrong : ChangeSpec := { name := "fnExactTimesCarries", fn := fun _ => fun
  | [d1, d2] => { results := [.lit (.bool false)], args := [d1, d2] }
  | _ => none }
def FnExactTimesCarriesWrongFalsely : Prop := fnExactTimesCarriesRow.holds Try.pinned (OpenSpec.ofChange fnExactTimesCarriesWrong)

/-- 'laws.FnNumbers': WHATEVER THE INPUT: true; the input reads as it did. -/
def fnNumbersSpec : ChangeSpec := { name := "fnNumbers", fn := fun _ => fun
  | [d] => { results := [.lit (.bool true)], args := [d] }
  | _ => none }
def fnNumbersRow : OpenClaim := { program := "ytnnhkpecgchgiaa", sum := "0f3aeb5a8ee177dc5776dc71d0b98963d66904cde94e42acfc77ff8d75f3d7cd", func := "loop.example/g01006/laws.FnNumbers", spec := "fnNumbers", apart := false }
def FnNumbersSaid : Prop := fnNumbersRow.holds Try.pinned (OpenSpec.ofChange fnNumbersSpec)

/-- ITS FALSE NEIGHBOUR: 'it returns false'. Refute it at one input. -/
def fnNumbersWrong : ChangeSpec := { name := "fnNumbers", fn := fun _ => fun
  | [d] => { results := [.lit (.bool false)], args := [d] }
  | _ => none }
def FnNumbersWrongFalsely : Prop := fnNumbersRow.holds Try.pinned (OpenSpec.ofChange fnNumbersWrong)

/-- 'laws.FnCountingDown': WHATEVER THE INPUT: true; the input reads as it did. -/
def fnCountingDownSpec : ChangeSpec := { name := "fnCountingDown", fn := fun _ => fun
  | [d] => { results := [.lit (.bool true)], args := [d] }
  | _ => none }
def fnCountingDownRow : OpenClaim := { program := "ytnnhkpecgchgiaa", sum := "0f3aeb5a8ee177dc5776dc71d0b98963d66904cde94e42acfc77ff8d75f3d7cd", func := "loop.example/g01006/laws.FnCountingDown", spec := "fnCountingDown", apart := false }
def FnCountingDownSaid : Prop := fnCountingDownRow.holds Try.pinned (OpenSpec.ofChange fnCountingDownSpec)

/-- ITS FALSE NEIGHBOUR: 'it returns false'. Refute it at one input. -/
def fnCountingDownWrong : ChangeSpec := { name := "fnCountingDown", fn := fun _ => fun
  | [d] => { results := [.lit (.bool false)], args := [d] }
  | _ => none }
def FnCountingDownWrongFalsely : Prop := fnCountingDownRow.holds Try.pinned (OpenSpec.ofChange fnCountingDownWrong)

/-- 'laws.FnExactReachedIn': WHATEVER THE INPUT: true; the input reads as it did. -/
def fnExactReachedInSpec : ChangeSpec := { name := "fnExactReachedIn", fn := fun _ => fun
  | [d1, d2] => { results := [.lit (.bool true)], args := [d1, d2] }
  | _ => none }
def fnExactReachedInRow : OpenClaim := { program := "ytnnhkpecgchgiaa", sum := "0f3aeb5a8ee177dc5776dc71d0b98963d66904cde94e42acfc77ff8d75f3d7cd", func := "loop.example/g01006/laws.FnExactReachedIn", spec := "fnExactReachedIn", recurses := true, apart := false }
def FnExactReachedInSaid : Prop := fnExactReachedInRow.holds Try.pinned (OpenSpec.ofChange fnExactReachedInSpec)

/-- ITS FALSE NEIGHBOUR: 'it returns false'. Refute it at one input. -/
def fnExactReachedInWrong : ChangeSpec := { name := "fnExactReachedIn", fn := fun _ => fun
  | [d1, d2] => { results := [.lit (.bool false)], args := [d1, d2] }
  | _ => none }
def FnExactReachedInWrongFalsely : Prop := fnExactReachedInRow.holds Try.pinned (OpenSpec.ofChange fnExactReachedInWrong)

/- THE SECOND FORM. 'bulk': how many values and letters a reading holds, each counted each time it is reached (what is shared counts as often as it is met; a slice's spare places count too). A statement '..UptoSaid' is the law's where the arguments, and the package variables that the reading takes, are together of bulk at most 1048576: NARROWER than '..Said'. Prove '..Said' where nothing that the law and all that it calls make is longer than what came in: it says more and counts as full. Else prove '..UptoSaid'. A law counts once. -/
mutual
def uptoBulk {H : Type} : DataW H → Nat
  | .lit (.string bytes) => bytes.length + 1
  | .lit _ => 1
  | .nil => 1
  | .ptr d => uptoBulk d + 1
  | .slice elems spare => uptoBulkAll elems + uptoBulkAll spare + 1
  | .agg parts => uptoBulkAll parts + 1
  | .iface _ d => uptoBulk d + 1
  | .map entries => uptoBulkEntries entries + 1
  | .held _ => 1
def uptoBulkAll {H : Type} : List (DataW H) → Nat
  | [] => 0
  | d :: r => uptoBulk d + uptoBulkAll r
def uptoBulkEntries {H : Type} : List (Lit × DataW H) → Nat
  | [] => 0
  | x :: r => uptoBulkEntry x + uptoBulkEntries r
def uptoBulkEntry {H : Type} : Lit × DataW H → Nat
  | (.string bytes, d) => bytes.length + uptoBulk d + 1
  | (_, d) => uptoBulk d + 1
 end
def uptoSmall : (H : Type) → List (DataW H) → Bool := fun _ ds => decide (uptoBulkAll ds ≤ 1048576)
def OpenSpec.upto (s : _root_.Go.ChangeSpec) : _root_.Go.OpenSpec := { _root_.Go.OpenSpec.ofChange s with cond := some uptoSmall }

/-- 'laws.FnExactNewMind', WHERE WHAT IT READS IS OF BULK AT MOST 1048576: true; the input reads as it did. -/
def fnExactNewMindUptoRow : OpenClaim := { program := "ytnnhkpecgchgiaa", sum := "0f3aeb5a8ee177dc5776dc71d0b98963d66904cde94e42acfc77ff8d75f3d7cd", func := "loop.example/g01006/laws.FnExactNewMind", spec := "fnExactNewMind", apart := false, narrowed := true }
def FnExactNewMindUptoSaid : Prop := fnExactNewMindUptoRow.holds Try.pinned (OpenSpec.upto fnExactNewMindSpec)

/-- 'laws.FnExactWrongRods', WHERE WHAT IT READS IS OF BULK AT MOST 1048576: true; the input reads as it did. -/
def fnExactWrongRodsUptoRow : OpenClaim := { program := "ytnnhkpecgchgiaa", sum := "0f3aeb5a8ee177dc5776dc71d0b98963d66904cde94e42acfc77ff8d75f3d7cd", func := "loop.example/g01006/laws.FnExactWrongRods", spec := "fnExactWrongRods", apart := false, narrowed := true }
def FnExactWrongRodsUptoSaid : Prop := fnExactWrongRodsUptoRow.holds Try.pinned (OpenSpec.upto fnExactWrongRodsSpec)

/-- 'laws.FnExactBorrowsOf', WHERE WHAT IT READS IS OF BULK AT MOST 1048576: true; the input reads as it did. -/
def fnExactBorrowsOfUptoRow : OpenClaim := { program := "ytnnhkpecgchgiaa", sum := "0f3aeb5a8ee177dc5776dc71d0b98963d66904cde94e42acfc77ff8d75f3d7cd", func := "loop.example/g01006/laws.FnExactBorrowsOf", spec := "fnExactBorrowsOf", apart := false, narrowed := true }
def FnExactBorrowsOfUptoSaid : Prop := fnExactBorrowsOfUptoRow.holds Try.pinned (OpenSpec.upto fnExactBorrowsOfSpec)

/-- 'laws.FnExactCarriesOf', WHERE WHAT IT READS IS OF BULK AT MOST 1048576: true; the input reads as it did. -/
def fnExactCarriesOfUptoRow : OpenClaim := { program := "ytnnhkpecgchgiaa", sum := "0f3aeb5a8ee177dc5776dc71d0b98963d66904cde94e42acfc77ff8d75f3d7cd", func := "loop.example/g01006/laws.FnExactCarriesOf", spec := "fnExactCarriesOf", apart := false, narrowed := true }
def FnExactCarriesOfUptoSaid : Prop := fnExactCarriesOfUptoRow.holds Try.pinned (OpenSpec.upto fnExactCarriesOfSpec)

/-- 'laws.FnExactAddDigit', WHERE WHAT IT READS IS OF BULK AT MOST 1048576: true; the input reads as it did. -/
def fnExactAddDigitUptoRow : OpenClaim := { program := "ytnnhkpecgchgiaa", sum := "0f3aeb5a8ee177dc5776dc71d0b98963d66904cde94e42acfc77ff8d75f3d7cd", func := "loop.example/g01006/laws.FnExactAddDigit", spec := "fnExactAddDigit", apart := false, narrowed := true }
def FnExactAddDigitUptoSaid : Prop := fnExactAddDigitUptoRow.holds Try.pinned (OpenSpec.upto fnExactAddDigitSpec)

/-- 'laws.FnExactTakeDigit', WHERE WHAT IT READS IS OF BULK AT MOST 1048576: true; the input reads as it did. -/
def fnExactTakeDigitUptoRow : OpenClaim := { program := "ytnnhkpecgchgiaa", sum := "0f3aeb5a8ee177dc5776dc71d0b98963d66904cde94e42acfc77ff8d75f3d7cd", func := "loop.example/g01006/laws.FnExactTakeDigit", spec := "fnExactTakeDigit", apart := false, narrowed := true }
def FnExactTakeDigitUptoSaid : Prop := fnExactTakeDigitUptoRow.holds Try.pinned (OpenSpec.upto fnExactTakeDigitSpec)

/-- 'laws.FnExactTakeNumber', WHERE WHAT IT READS IS OF BULK AT MOST 1048576: true; the input reads as it did. -/
def fnExactTakeNumberUptoRow : OpenClaim := { program := "ytnnhkpecgchgiaa", sum := "0f3aeb5a8ee177dc5776dc71d0b98963d66904cde94e42acfc77ff8d75f3d7cd", func := "loop.example/g01006/laws.FnExactTakeNumber", spec := "fnExactTakeNumber", apart := false, narrowed := true }
def FnExactTakeNumberUptoSaid : Prop := fnExactTakeNumberUptoRow.holds Try.pinned (OpenSpec.upto fnExactTakeNumberSpec)

/-- 'laws.FnExactAddNumber', WHERE WHAT IT READS IS OF BULK AT MOST 1048576: true; the input reads as it did. -/
def fnExactAddNumberUptoRow : OpenClaim := { program := "ytnnhkpecgchgiaa", sum := "0f3aeb5a8ee177dc5776dc71d0b98963d66904cde94e42acfc77ff8d75f3d7cd", func := "loop.example/g01006/laws.FnExactAddNumber", spec := "fnExactAddNumber", apart := false, narrowed := true }
def FnExactAddNumberUptoSaid : Prop := fnExactAddNumberUptoRow.holds Try.pinned (OpenSpec.upto fnExactAddNumberSpec)

/-- 'laws.FnExactTimesCarries', WHERE WHAT IT READS IS OF BULK AT MOST 1048576: true; the input reads as it did. -/
def fnExactTimesCarriesUptoRow : OpenClaim := { program := "ytnnhkpecgchgiaa", sum := "0f3aeb5a8ee177dc5776dc71d0b98963d66904cde94e42acfc77ff8d75f3d7cd", func := "loop.example/g01006/laws.FnExactTimesCarries", spec := "fnExactTimesCarries", apart := false, narrowed := true }
def FnExactTimesCarriesUptoSaid : Prop := fnExactTimesCarriesUptoRow.holds Try.pinned (OpenSpec.upto fnExactTimesCarriesSpec)

/-- 'laws.FnNumbers', WHERE WHAT IT READS IS OF BULK AT MOST 1048576: true; the input reads as it did. -/
def fnNumbersUptoRow : OpenClaim := { program := "ytnnhkpecgchgiaa", sum := "0f3aeb5a8ee177dc5776dc71d0b98963d66904cde94e42acfc77ff8d75f3d7cd", func := "loop.example/g01006/laws.FnNumbers", spec := "fnNumbers", apart := false, narrowed := true }
def FnNumbersUptoSaid : Prop := fnNumbersUptoRow.holds Try.pinned (OpenSpec.upto fnNumbersSpec)

/-- 'laws.FnCountingDown', WHERE WHAT IT READS IS OF BULK AT MOST 1048576: true; the input reads as it did. -/
def fnCountingDownUptoRow : OpenClaim := { program := "ytnnhkpecgchgiaa", sum := "0f3aeb5a8ee177dc5776dc71d0b98963d66904cde94e42acfc77ff8d75f3d7cd", func := "loop.example/g01006/laws.FnCountingDown", spec := "fnCountingDown", apart := false, narrowed := true }
def FnCountingDownUptoSaid : Prop := fnCountingDownUptoRow.holds Try.pinned (OpenSpec.upto fnCountingDownSpec)

/-- 'laws.FnExactReachedIn', WHERE WHAT IT READS IS OF BULK AT MOST 1048576: true; the input reads as it did. -/
def fnExactReachedInUptoRow : OpenClaim := { program := "ytnnhkpecgchgiaa", sum := "0f3aeb5a8ee177dc5776dc71d0b98963d66904cde94e42acfc77ff8d75f3d7cd", func := "loop.example/g01006/laws.FnExactReachedIn", spec := "fnExactReachedIn", recurses := true, apart := false, narrowed := true }
def FnExactReachedInUptoSaid : Prop := fnExactReachedInUptoRow.holds Try.pinned (OpenSpec.upto fnExactReachedInSpec)

end Rows
end Go.Proofs.Ytnnhkpecgchgiaa
