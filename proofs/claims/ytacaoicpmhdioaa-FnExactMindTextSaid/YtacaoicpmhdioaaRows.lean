/-
  No cell of these rows narrows 'for every input' (looked for: loops, veiled, ifaces, maps, wideKeys, modest, calm, conditions, laid).
  DERIVED. THE GIVEN ROWS OF THIS SEAT. 12 by the template 'for every input the law returns true; each argument reads behind the call as it read before'; 0 by the template 'total and deterministic' (their statements: YtacaoicpmhdioaaTotals.lean).
  GIVEN WITH THE SEED: the statements are not yours to turn. If you find one false, say at which input.
  Laid BY PROGRAM, IN A SANDBOX (cutbox-rows.mjs): the forced cells as the released guide's own fill.sh prints them over the translation b9f522e54925cf5c… (all of the seat's roots in one cut). By AI agents, Wed Nov 11 2026. No macro, syntax, notation, axiom, sorry.
-/
import Derived.Test.YtacaoicpmhdioaaChecked
import GoSem.Claim
import GoSem.ClaimJoined
import GoSem.ClaimMapViews
import Derived.JoinedTies
import Derived.KernelRfl
namespace Go.Proofs.Ytacaoicpmhdioaa
/- THE CELL 'sum', in the pinned program and in every row, IS THE sha256 OF THE DUMP (.gsa) THAT YtacaoicpmhdioaaProg.lean LOADS. Nothing in Lean hashes anything: it is a label: what it is worth is what the hold of that sum in a sandbox is worth. -/
noncomputable def Try.pinned : Pinned := { name := "ytacaoicpmhdioaa", sum := "b9f522e54925cf5cd37e7942396fe35e479169a80301d64cb1c6f69e9d410be1", checked := Try.checked }
namespace Rows
def none {H : Type} : Left H := { results := [], args := [] }

/-- 'laws.FnExactNewSchool': WHATEVER THE INPUT: true; the input reads as it did. -/
def fnExactNewSchoolSpec : ChangeSpec := { name := "fnExactNewSchool", fn := fun _ => fun
  | [d] => { results := [.lit (.bool true)], args := [d] }
  | _ => none }
def fnExactNewSchoolRow : OpenClaim := { program := "ytacaoicpmhdioaa", sum := "b9f522e54925cf5cd37e7942396fe35e479169a80301d64cb1c6f69e9d410be1", func := "loop.example/g01006/laws.FnExactNewSchool", spec := "fnExactNewSchool", apart := false }
def FnExactNewSchoolSaid : Prop := fnExactNewSchoolRow.holds Try.pinned (OpenSpec.ofChange fnExactNewSchoolSpec)

/-- ITS FALSE NEIGHBOUR: 'it returns false'. Refute it at one input. -/
def fnExactNewSchoolWrong : ChangeSpec := { name := "fnExactNewSchool", fn := fun _ => fun
  | [d] => { results := [.lit (.bool false)], args := [d] }
  | _ => none }
def FnExactNewSchoolWrongFalsely : Prop := fnExactNewSchoolRow.holds Try.pinned (OpenSpec.ofChange fnExactNewSchoolWrong)

/-- 'laws.FnExactIsSchool': WHATEVER THE INPUT: true; the input reads as it did. -/
def fnExactIsSchoolSpec : ChangeSpec := { name := "fnExactIsSchool", fn := fun _ => fun
  | [d] => { results := [.lit (.bool true)], args := [d] }
  | _ => none }
def fnExactIsSchoolRow : OpenClaim := { program := "ytacaoicpmhdioaa", sum := "b9f522e54925cf5cd37e7942396fe35e479169a80301d64cb1c6f69e9d410be1", func := "loop.example/g01006/laws.FnExactIsSchool", spec := "fnExactIsSchool", apart := false }
def FnExactIsSchoolSaid : Prop := fnExactIsSchoolRow.holds Try.pinned (OpenSpec.ofChange fnExactIsSchoolSpec)

/-- ITS FALSE NEIGHBOUR: 'it returns false'. Refute it at one input. -/
def fnExactIsSchoolWrong : ChangeSpec := { name := "fnExactIsSchool", fn := fun _ => fun
  | [d] => { results := [.lit (.bool false)], args := [d] }
  | _ => none }
def FnExactIsSchoolWrongFalsely : Prop := fnExactIsSchoolRow.holds Try.pinned (OpenSpec.ofChange fnExactIsSchoolWrong)

/-- 'laws.FnExactHoursMissing': WHATEVER THE INPUT: true; the input reads as it did. -/
def fnExactHoursMissingSpec : ChangeSpec := { name := "fnExactHoursMissing", fn := fun _ => fun
  | [d1, d2] => { results := [.lit (.bool true)], args := [d1, d2] }
  | _ => none }
def fnExactHoursMissingRow : OpenClaim := { program := "ytacaoicpmhdioaa", sum := "b9f522e54925cf5cd37e7942396fe35e479169a80301d64cb1c6f69e9d410be1", func := "loop.example/g01006/laws.FnExactHoursMissing", spec := "fnExactHoursMissing", apart := false }
def FnExactHoursMissingSaid : Prop := fnExactHoursMissingRow.holds Try.pinned (OpenSpec.ofChange fnExactHoursMissingSpec)

/-- ITS FALSE NEIGHBOUR: 'it returns false'. Refute it at one input. -/
def fnExactHoursMissingWrong : ChangeSpec := { name := "fnExactHoursMissing", fn := fun _ => fun
  | [d1, d2] => { results := [.lit (.bool false)], args := [d1, d2] }
  | _ => none }
def FnExactHoursMissingWrongFalsely : Prop := fnExactHoursMissingRow.holds Try.pinned (OpenSpec.ofChange fnExactHoursMissingWrong)

/-- 'laws.FnExactStudentText': WHATEVER THE INPUT: true; the input reads as it did. -/
def fnExactStudentTextSpec : ChangeSpec := { name := "fnExactStudentText", fn := fun _ => fun
  | [d1, d2] => { results := [.lit (.bool true)], args := [d1, d2] }
  | _ => none }
def fnExactStudentTextRow : OpenClaim := { program := "ytacaoicpmhdioaa", sum := "b9f522e54925cf5cd37e7942396fe35e479169a80301d64cb1c6f69e9d410be1", func := "loop.example/g01006/laws.FnExactStudentText", spec := "fnExactStudentText", recurses := true, apart := false }
def FnExactStudentTextSaid : Prop := fnExactStudentTextRow.holds Try.pinned (OpenSpec.ofChange fnExactStudentTextSpec)

/-- ITS FALSE NEIGHBOUR: 'it returns false'. Refute it at one input. -/
def fnExactStudentTextWrong : ChangeSpec := { name := "fnExactStudentText", fn := fun _ => fun
  | [d1, d2] => { results := [.lit (.bool false)], args := [d1, d2] }
  | _ => none }
def FnExactStudentTextWrongFalsely : Prop := fnExactStudentTextRow.holds Try.pinned (OpenSpec.ofChange fnExactStudentTextWrong)

/-- 'laws.FnExactGradeCounts': WHATEVER THE INPUT: true; the input reads as it did. -/
def fnExactGradeCountsSpec : ChangeSpec := { name := "fnExactGradeCounts", fn := fun _ => fun
  | [d] => { results := [.lit (.bool true)], args := [d] }
  | _ => none }
def fnExactGradeCountsRow : OpenClaim := { program := "ytacaoicpmhdioaa", sum := "b9f522e54925cf5cd37e7942396fe35e479169a80301d64cb1c6f69e9d410be1", func := "loop.example/g01006/laws.FnExactGradeCounts", spec := "fnExactGradeCounts", apart := false }
def FnExactGradeCountsSaid : Prop := fnExactGradeCountsRow.holds Try.pinned (OpenSpec.ofChange fnExactGradeCountsSpec)

/-- ITS FALSE NEIGHBOUR: 'it returns false'. Refute it at one input. -/
def fnExactGradeCountsWrong : ChangeSpec := { name := "fnExactGradeCounts", fn := fun _ => fun
  | [d] => { results := [.lit (.bool false)], args := [d] }
  | _ => none }
def FnExactGradeCountsWrongFalsely : Prop := fnExactGradeCountsRow.holds Try.pinned (OpenSpec.ofChange fnExactGradeCountsWrong)

/-- 'laws.FnExactNotPaid': WHATEVER THE INPUT: true; the input reads as it did. -/
def fnExactNotPaidSpec : ChangeSpec := { name := "fnExactNotPaid", fn := fun _ => fun
  | [d] => { results := [.lit (.bool true)], args := [d] }
  | _ => none }
def fnExactNotPaidRow : OpenClaim := { program := "ytacaoicpmhdioaa", sum := "b9f522e54925cf5cd37e7942396fe35e479169a80301d64cb1c6f69e9d410be1", func := "loop.example/g01006/laws.FnExactNotPaid", spec := "fnExactNotPaid", apart := false }
def FnExactNotPaidSaid : Prop := fnExactNotPaidRow.holds Try.pinned (OpenSpec.ofChange fnExactNotPaidSpec)

/-- ITS FALSE NEIGHBOUR: 'it returns false'. Refute it at one input. -/
def fnExactNotPaidWrong : ChangeSpec := { name := "fnExactNotPaid", fn := fun _ => fun
  | [d] => { results := [.lit (.bool false)], args := [d] }
  | _ => none }
def FnExactNotPaidWrongFalsely : Prop := fnExactNotPaidRow.holds Try.pinned (OpenSpec.ofChange fnExactNotPaidWrong)

/-- 'laws.FnExactReadyForExam': WHATEVER THE INPUT: true; the input reads as it did. -/
def fnExactReadyForExamSpec : ChangeSpec := { name := "fnExactReadyForExam", fn := fun _ => fun
  | [d] => { results := [.lit (.bool true)], args := [d] }
  | _ => none }
def fnExactReadyForExamRow : OpenClaim := { program := "ytacaoicpmhdioaa", sum := "b9f522e54925cf5cd37e7942396fe35e479169a80301d64cb1c6f69e9d410be1", func := "loop.example/g01006/laws.FnExactReadyForExam", spec := "fnExactReadyForExam", apart := false }
def FnExactReadyForExamSaid : Prop := fnExactReadyForExamRow.holds Try.pinned (OpenSpec.ofChange fnExactReadyForExamSpec)

/-- ITS FALSE NEIGHBOUR: 'it returns false'. Refute it at one input. -/
def fnExactReadyForExamWrong : ChangeSpec := { name := "fnExactReadyForExam", fn := fun _ => fun
  | [d] => { results := [.lit (.bool false)], args := [d] }
  | _ => none }
def FnExactReadyForExamWrongFalsely : Prop := fnExactReadyForExamRow.holds Try.pinned (OpenSpec.ofChange fnExactReadyForExamWrong)

/-- 'laws.FnExactIsMind': WHATEVER THE INPUT: true; the input reads as it did. -/
def fnExactIsMindSpec : ChangeSpec := { name := "fnExactIsMind", fn := fun _ => fun
  | [d] => { results := [.lit (.bool true)], args := [d] }
  | _ => none }
def fnExactIsMindRow : OpenClaim := { program := "ytacaoicpmhdioaa", sum := "b9f522e54925cf5cd37e7942396fe35e479169a80301d64cb1c6f69e9d410be1", func := "loop.example/g01006/laws.FnExactIsMind", spec := "fnExactIsMind", apart := false }
def FnExactIsMindSaid : Prop := fnExactIsMindRow.holds Try.pinned (OpenSpec.ofChange fnExactIsMindSpec)

/-- ITS FALSE NEIGHBOUR: 'it returns false'. Refute it at one input. -/
def fnExactIsMindWrong : ChangeSpec := { name := "fnExactIsMind", fn := fun _ => fun
  | [d] => { results := [.lit (.bool false)], args := [d] }
  | _ => none }
def FnExactIsMindWrongFalsely : Prop := fnExactIsMindRow.holds Try.pinned (OpenSpec.ofChange fnExactIsMindWrong)

/-- 'laws.FnExactBeatsLeft': WHATEVER THE INPUT: true; the input reads as it did. -/
def fnExactBeatsLeftSpec : ChangeSpec := { name := "fnExactBeatsLeft", fn := fun _ => fun
  | [d] => { results := [.lit (.bool true)], args := [d] }
  | _ => none }
def fnExactBeatsLeftRow : OpenClaim := { program := "ytacaoicpmhdioaa", sum := "b9f522e54925cf5cd37e7942396fe35e479169a80301d64cb1c6f69e9d410be1", func := "loop.example/g01006/laws.FnExactBeatsLeft", spec := "fnExactBeatsLeft", apart := false }
def FnExactBeatsLeftSaid : Prop := fnExactBeatsLeftRow.holds Try.pinned (OpenSpec.ofChange fnExactBeatsLeftSpec)

/-- ITS FALSE NEIGHBOUR: 'it returns false'. Refute it at one input. -/
def fnExactBeatsLeftWrong : ChangeSpec := { name := "fnExactBeatsLeft", fn := fun _ => fun
  | [d] => { results := [.lit (.bool false)], args := [d] }
  | _ => none }
def FnExactBeatsLeftWrongFalsely : Prop := fnExactBeatsLeftRow.holds Try.pinned (OpenSpec.ofChange fnExactBeatsLeftWrong)

/-- 'laws.FnExactNumberInMind': WHATEVER THE INPUT: true; the input reads as it did. -/
def fnExactNumberInMindSpec : ChangeSpec := { name := "fnExactNumberInMind", fn := fun _ => fun
  | [d] => { results := [.lit (.bool true)], args := [d] }
  | _ => none }
def fnExactNumberInMindRow : OpenClaim := { program := "ytacaoicpmhdioaa", sum := "b9f522e54925cf5cd37e7942396fe35e479169a80301d64cb1c6f69e9d410be1", func := "loop.example/g01006/laws.FnExactNumberInMind", spec := "fnExactNumberInMind", apart := false }
def FnExactNumberInMindSaid : Prop := fnExactNumberInMindRow.holds Try.pinned (OpenSpec.ofChange fnExactNumberInMindSpec)

/-- ITS FALSE NEIGHBOUR: 'it returns false'. Refute it at one input. -/
def fnExactNumberInMindWrong : ChangeSpec := { name := "fnExactNumberInMind", fn := fun _ => fun
  | [d] => { results := [.lit (.bool false)], args := [d] }
  | _ => none }
def FnExactNumberInMindWrongFalsely : Prop := fnExactNumberInMindRow.holds Try.pinned (OpenSpec.ofChange fnExactNumberInMindWrong)

/-- 'laws.FnExactMindText': WHATEVER THE INPUT: true; the input reads as it did. -/
def fnExactMindTextSpec : ChangeSpec := { name := "fnExactMindText", fn := fun _ => fun
  | [d] => { results := [.lit (.bool true)], args := [d] }
  | _ => none }
def fnExactMindTextRow : OpenClaim := { program := "ytacaoicpmhdioaa", sum := "b9f522e54925cf5cd37e7942396fe35e479169a80301d64cb1c6f69e9d410be1", func := "loop.example/g01006/laws.FnExactMindText", spec := "fnExactMindText", recurses := true, apart := false }
def FnExactMindTextSaid : Prop := fnExactMindTextRow.holds Try.pinned (OpenSpec.ofChange fnExactMindTextSpec)

/-- ITS FALSE NEIGHBOUR: 'it returns false'. Refute it at one input. -/
def fnExactMindTextWrong : ChangeSpec := { name := "fnExactMindText", fn := fun _ => fun
  | [d] => { results := [.lit (.bool false)], args := [d] }
  | _ => none }
def FnExactMindTextWrongFalsely : Prop := fnExactMindTextRow.holds Try.pinned (OpenSpec.ofChange fnExactMindTextWrong)

/-- 'laws.FnExactLostRods': WHATEVER THE INPUT: true; the input reads as it did. -/
def fnExactLostRodsSpec : ChangeSpec := { name := "fnExactLostRods", fn := fun _ => fun
  | [d] => { results := [.lit (.bool true)], args := [d] }
  | _ => none }
def fnExactLostRodsRow : OpenClaim := { program := "ytacaoicpmhdioaa", sum := "b9f522e54925cf5cd37e7942396fe35e479169a80301d64cb1c6f69e9d410be1", func := "loop.example/g01006/laws.FnExactLostRods", spec := "fnExactLostRods", apart := false }
def FnExactLostRodsSaid : Prop := fnExactLostRodsRow.holds Try.pinned (OpenSpec.ofChange fnExactLostRodsSpec)

/-- ITS FALSE NEIGHBOUR: 'it returns false'. Refute it at one input. -/
def fnExactLostRodsWrong : ChangeSpec := { name := "fnExactLostRods", fn := fun _ => fun
  | [d] => { results := [.lit (.bool false)], args := [d] }
  | _ => none }
def FnExactLostRodsWrongFalsely : Prop := fnExactLostRodsRow.holds Try.pinned (OpenSpec.ofChange fnExactLostRodsWrong)

/- THE SECOND FORM. 'bulk': how many values and letters a reading holds, each counted each time it is reached (what is shared counts as often as it is met; a slice's spare places count too). A statement '..UptoSaid' is the law's where the arguments, and the package variables that the reading takes, are together of bulk at most 1048576: NARROWER than '..Said'. Prove '..Said' where nothing that the law and all that it calls make is longer than what came in: it says more and counts as full. Else prove '..UptoSaid'. A law counts once. -/
mutual
def uptoBulk {H : Type} : DataW H → Nat
  | .lit (.string bytes) => bytes.length + 1
  | .lit _ => 1
  | .nil => 1
  | .ptr d => uptoBulk d + 1
  | .slice elems spare => uptoBulkAll elems + uptoBulkAll spare + 1
  | .agg parts => uptoBulkAll parts + 1
  | .iface _ d => uptoBulk d + 1
  | .map entries => uptoBulkEntries entries + 1
  | .held _ => 1
def uptoBulkAll {H : Type} : List (DataW H) → Nat
  | [] => 0
  | d :: r => uptoBulk d + uptoBulkAll r
def uptoBulkEntries {H : Type} : List (Lit × DataW H) → Nat
  | [] => 0
  | x :: r => uptoBulkEntry x + uptoBulkEntries r
def uptoBulkEntry {H : Type} : Lit × DataW H → Nat
  | (.string bytes, d) => bytes.length + uptoBulk d + 1
  | (_, d) => uptoBulk d + 1
 end
def uptoSmall : (H : Type) → List (DataW H) → Bool := fun _ ds => decide (uptoBulkAll ds ≤ 1048576)
def OpenSpec.upto (s : _root_.Go.ChangeSpec) : _root_.Go.OpenSpec := { _root_.Go.OpenSpec.ofChange s with cond := some uptoSmall }

/-- 'laws.FnExactNewSchool', WHERE WHAT IT READS IS OF BULK AT MOST 1048576: true; the input reads as it did. -/
def fnExactNewSchoolUptoRow : OpenClaim := { program := "ytacaoicpmhdioaa", sum := "b9f522e54925cf5cd37e7942396fe35e479169a80301d64cb1c6f69e9d410be1", func := "loop.example/g01006/laws.FnExactNewSchool", spec := "fnExactNewSchool", apart := false, narrowed := true }
def FnExactNewSchoolUptoSaid : Prop := fnExactNewSchoolUptoRow.holds Try.pinned (OpenSpec.upto fnExactNewSchoolSpec)

/-- 'laws.FnExactIsSchool', WHERE WHAT IT READS IS OF BULK AT MOST 1048576: true; the input reads as it did. -/
def fnExactIsSchoolUptoRow : OpenClaim := { program := "ytacaoicpmhdioaa", sum := "b9f522e54925cf5cd37e7942396fe35e479169a80301d64cb1c6f69e9d410be1", func := "loop.example/g01006/laws.FnExactIsSchool", spec := "fnExactIsSchool", apart := false, narrowed := true }
def FnExactIsSchoolUptoSaid : Prop := fnExactIsSchoolUptoRow.holds Try.pinned (OpenSpec.upto fnExactIsSchoolSpec)

/-- 'laws.FnExactHoursMissing', WHERE WHAT IT READS IS OF BULK AT MOST 1048576: true; the input reads as it did. -/
def fnExactHoursMissingUptoRow : OpenClaim := { program := "ytacaoicpmhdioaa", sum := "b9f522e54925cf5cd37e7942396fe35e479169a80301d64cb1c6f69e9d410be1", func := "loop.example/g01006/laws.FnExactHoursMissing", spec := "fnExactHoursMissing", apart := false, narrowed := true }
def FnExactHoursMissingUptoSaid : Prop := fnExactHoursMissingUptoRow.holds Try.pinned (OpenSpec.upto fnExactHoursMissingSpec)

/-- 'laws.FnExactStudentText', WHERE WHAT IT READS IS OF BULK AT MOST 1048576: true; the input reads as it did. -/
def fnExactStudentTextUptoRow : OpenClaim := { program := "ytacaoicpmhdioaa", sum := "b9f522e54925cf5cd37e7942396fe35e479169a80301d64cb1c6f69e9d410be1", func := "loop.example/g01006/laws.FnExactStudentText", spec := "fnExactStudentText", recurses := true, apart := false, narrowed := true }
def FnExactStudentTextUptoSaid : Prop := fnExactStudentTextUptoRow.holds Try.pinned (OpenSpec.upto fnExactStudentTextSpec)

/-- 'laws.FnExactGradeCounts', WHERE WHAT IT READS IS OF BULK AT MOST 1048576: true; the input reads as it did. -/
def fnExactGradeCountsUptoRow : OpenClaim := { program := "ytacaoicpmhdioaa", sum := "b9f522e54925cf5cd37e7942396fe35e479169a80301d64cb1c6f69e9d410be1", func := "loop.example/g01006/laws.FnExactGradeCounts", spec := "fnExactGradeCounts", apart := false, narrowed := true }
def FnExactGradeCountsUptoSaid : Prop := fnExactGradeCountsUptoRow.holds Try.pinned (OpenSpec.upto fnExactGradeCountsSpec)

/-- 'laws.FnExactNotPaid', WHERE WHAT IT READS IS OF BULK AT MOST 1048576: true; the input reads as it did. -/
def fnExactNotPaidUptoRow : OpenClaim := { program := "ytacaoicpmhdioaa", sum := "b9f522e54925cf5cd37e7942396fe35e479169a80301d64cb1c6f69e9d410be1", func := "loop.example/g01006/laws.FnExactNotPaid", spec := "fnExactNotPaid", apart := false, narrowed := true }
def FnExactNotPaidUptoSaid : Prop := fnExactNotPaidUptoRow.holds Try.pinned (OpenSpec.upto fnExactNotPaidSpec)

/-- 'laws.FnExactReadyForExam', WHERE WHAT IT READS IS OF BULK AT MOST 1048576: true; the input reads as it did. -/
def fnExactReadyForExamUptoRow : OpenClaim := { program := "ytacaoicpmhdioaa", sum := "b9f522e54925cf5cd37e7942396fe35e479169a80301d64cb1c6f69e9d410be1", func := "loop.example/g01006/laws.FnExactReadyForExam", spec := "fnExactReadyForExam", apart := false, narrowed := true }
def FnExactReadyForExamUptoSaid : Prop := fnExactReadyForExamUptoRow.holds Try.pinned (OpenSpec.upto fnExactReadyForExamSpec)

/-- 'laws.FnExactIsMind', WHERE WHAT IT READS IS OF BULK AT MOST 1048576: true; the input reads as it did. -/
def fnExactIsMindUptoRow : OpenClaim := { program := "ytacaoicpmhdioaa", sum := "b9f522e54925cf5cd37e7942396fe35e479169a80301d64cb1c6f69e9d410be1", func := "loop.example/g01006/laws.FnExactIsMind", spec := "fnExactIsMind", apart := false, narrowed := true }
def FnExactIsMindUptoSaid : Prop := fnExactIsMindUptoRow.holds Try.pinned (OpenSpec.upto fnExactIsMindSpec)

/-- 'laws.FnExactBeatsLeft', WHERE WHAT IT READS IS OF BULK AT MOST 1048576: true; the input reads as it did. -/
def fnExactBeatsLeftUptoRow : OpenClaim := { program := "ytacaoicpmhdioaa", sum := "b9f522e54925cf5cd37e7942396fe35e479169a80301d64cb1c6f69e9d410be1", func := "loop.example/g01006/laws.FnExactBeatsLeft", spec := "fnExactBeatsLeft", apart := false, narrowed := true }
def FnExactBeatsLeftUptoSaid : Prop := fnExactBeatsLeftUptoRow.holds Try.pinned (OpenSpec.upto fnExactBeatsLeftSpec)

/-- 'laws.FnExactNumberInMind', WHERE WHAT IT READS IS OF BULK AT MOST 1048576: true; the input reads as it did. -/
def fnExactNumberInMindUptoRow : OpenClaim := { program := "ytacaoicpmhdioaa", sum := "b9f522e54925cf5cd37e7942396fe35e479169a80301d64cb1c6f69e9d410be1", func := "loop.example/g01006/laws.FnExactNumberInMind", spec := "fnExactNumberInMind", apart := false, narrowed := true }
def FnExactNumberInMindUptoSaid : Prop := fnExactNumberInMindUptoRow.holds Try.pinned (OpenSpec.upto fnExactNumberInMindSpec)

/-- 'laws.FnExactMindText', WHERE WHAT IT READS IS OF BULK AT MOST 1048576: true; the input reads as it did. -/
def fnExactMindTextUptoRow : OpenClaim := { program := "ytacaoicpmhdioaa", sum := "b9f522e54925cf5cd37e7942396fe35e479169a80301d64cb1c6f69e9d410be1", func := "loop.example/g01006/laws.FnExactMindText", spec := "fnExactMindText", recurses := true, apart := false, narrowed := true }
def FnExactMindTextUptoSaid : Prop := fnExactMindTextUptoRow.holds Try.pinned (OpenSpec.upto fnExactMindTextSpec)

/-- 'laws.FnExactLostRods', WHERE WHAT IT READS IS OF BULK AT MOST 1048576: true; the input reads as it did. -/
def fnExactLostRodsUptoRow : OpenClaim := { program := "ytacaoicpmhdioaa", sum := "b9f522e54925cf5cd37e7942396fe35e479169a80301d64cb1c6f69e9d410be1", func := "loop.example/g01006/laws.FnExactLostRods", spec := "fnExactLostRods", apart := false, narrowed := true }
def FnExactLostRodsUptoSaid : Prop := fnExactLostRodsUptoRow.holds Try.pinned (OpenSpec.upto fnExactLostRodsSpec)

end Rows
end Go.Proofs.Ytacaoicpmhdioaa
