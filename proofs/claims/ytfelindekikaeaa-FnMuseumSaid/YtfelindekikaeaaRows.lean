/-
  No cell of these rows narrows 'for every input' (looked for: loops, veiled, ifaces, maps, wideKeys, modest, calm, conditions, laid).
  DERIVED. THE GIVEN ROWS OF THIS SEAT. 4 by the template 'for every input the law returns true; each argument reads behind the call as it read before'; 0 by the template 'total and deterministic' (their statements: YtfelindekikaeaaTotals.lean).
  GIVEN WITH THE SEED: the statements are not yours to turn. If you find one false, say at which input.
  Laid BY PROGRAM, IN A SANDBOX (cutbox-rows.mjs): the forced cells as the released guide's own fill.sh prints them over the translation 6c2fbdc5b98939be… (all of the seat's roots in one cut). By AI agents, Wed Nov 11 2026. No macro, syntax, notation, axiom, sorry.
-/
import Derived.Test.YtfelindekikaeaaChecked
import GoSem.Claim
import GoSem.ClaimJoined
import GoSem.ClaimMapViews
import Derived.JoinedTies
import Derived.KernelRfl
namespace Go.Proofs.Ytfelindekikaeaa
/- THE CELL 'sum', in the pinned program and in every row, IS THE sha256 OF THE DUMP (.gsa) THAT YtfelindekikaeaaProg.lean LOADS. Nothing in Lean hashes anything: it is a label: what it is worth is what the hold of that sum in a sandbox is worth. -/
noncomputable def Try.pinned : Pinned := { name := "ytfelindekikaeaa", sum := "6c2fbdc5b98939bef1e17498075eeb1e505b55d74b1ab8ff71a06c379f20c770", checked := Try.checked }
namespace Rows
def none {H : Type} : Left H := { results := [], args := [] }

/-- 'laws.FnExactKinsOf': WHATEVER THE INPUT: true; the input reads as it did. -/
def fnExactKinsOfSpec : ChangeSpec := { name := "fnExactKinsOf", fn := fun _ => fun
  | [d1, d2] => { results := [.lit (.bool true)], args := [d1, d2] }
  | _ => none }
def fnExactKinsOfRow : OpenClaim := { program := "ytfelindekikaeaa", sum := "6c2fbdc5b98939bef1e17498075eeb1e505b55d74b1ab8ff71a06c379f20c770", func := "loop.example/g01006/laws.FnExactKinsOf", spec := "fnExactKinsOf", apart := false }
def FnExactKinsOfSaid : Prop := fnExactKinsOfRow.holds Try.pinned (OpenSpec.ofChange fnExactKinsOfSpec)

/-- ITS FALSE NEIGHBOUR: 'it returns false'. Refute it at one input. -/
def fnExactKinsOfWrong : ChangeSpec := { name := "fnExactKinsOf", fn := fun _ => fun
  | [d1, d2] => { results := [.lit (.bool false)], args := [d1, d2] }
  | _ => none }
def FnExactKinsOfWrongFalsely : Prop := fnExactKinsOfRow.holds Try.pinned (OpenSpec.ofChange fnExactKinsOfWrong)

/-- 'laws.FnExactLandsByAge': WHATEVER THE INPUT: true; the input reads as it did. -/
def fnExactLandsByAgeSpec : ChangeSpec := { name := "fnExactLandsByAge", fn := fun _ => fun
  | [d] => { results := [.lit (.bool true)], args := [d] }
  | _ => none }
def fnExactLandsByAgeRow : OpenClaim := { program := "ytfelindekikaeaa", sum := "6c2fbdc5b98939bef1e17498075eeb1e505b55d74b1ab8ff71a06c379f20c770", func := "loop.example/g01006/laws.FnExactLandsByAge", spec := "fnExactLandsByAge", apart := false }
def FnExactLandsByAgeSaid : Prop := fnExactLandsByAgeRow.holds Try.pinned (OpenSpec.ofChange fnExactLandsByAgeSpec)

/-- ITS FALSE NEIGHBOUR: 'it returns false'. Refute it at one input. -/
def fnExactLandsByAgeWrong : ChangeSpec := { name := "fnExactLandsByAge", fn := fun _ => fun
  | [d] => { results := [.lit (.bool false)], args := [d] }
  | _ => none }
def FnExactLandsByAgeWrongFalsely : Prop := fnExactLandsByAgeRow.holds Try.pinned (OpenSpec.ofChange fnExactLandsByAgeWrong)

/-- 'laws.FnExhibits': WHATEVER THE INPUT: true; the input reads as it did. -/
def fnExhibitsSpec : ChangeSpec := { name := "fnExhibits", fn := fun _ => fun
  | [d] => { results := [.lit (.bool true)], args := [d] }
  | _ => none }
def fnExhibitsRow : OpenClaim := { program := "ytfelindekikaeaa", sum := "6c2fbdc5b98939bef1e17498075eeb1e505b55d74b1ab8ff71a06c379f20c770", func := "loop.example/g01006/laws.FnExhibits", spec := "fnExhibits", recurses := true, apart := false }
def FnExhibitsSaid : Prop := fnExhibitsRow.holds Try.pinned (OpenSpec.ofChange fnExhibitsSpec)

/-- ITS FALSE NEIGHBOUR: 'it returns false'. Refute it at one input. -/
def fnExhibitsWrong : ChangeSpec := { name := "fnExhibits", fn := fun _ => fun
  | [d] => { results := [.lit (.bool false)], args := [d] }
  | _ => none }
def FnExhibitsWrongFalsely : Prop := fnExhibitsRow.holds Try.pinned (OpenSpec.ofChange fnExhibitsWrong)

/-- 'laws.FnMuseum': WHATEVER THE INPUT: true; the input reads as it did. -/
def fnMuseumSpec : ChangeSpec := { name := "fnMuseum", fn := fun _ => fun
  | [d] => { results := [.lit (.bool true)], args := [d] }
  | _ => none }
def fnMuseumRow : OpenClaim := { program := "ytfelindekikaeaa", sum := "6c2fbdc5b98939bef1e17498075eeb1e505b55d74b1ab8ff71a06c379f20c770", func := "loop.example/g01006/laws.FnMuseum", spec := "fnMuseum", apart := false }
def FnMuseumSaid : Prop := fnMuseumRow.holds Try.pinned (OpenSpec.ofChange fnMuseumSpec)

/-- ITS FALSE NEIGHBOUR: 'it returns false'. Refute it at one input. -/
def fnMuseumWrong : ChangeSpec := { name := "fnMuseum", fn := fun _ => fun
  | [d] => { results := [.lit (.bool false)], args := [d] }
  | _ => none }
def FnMuseumWrongFalsely : Prop := fnMuseumRow.holds Try.pinned (OpenSpec.ofChange fnMuseumWrong)

/- THE SECOND FORM. 'bulk': how many values and letters a reading holds, each counted each time it is reached (what is shared counts as often as it is met; a slice's spare places count too). A statement '..UptoSaid' is the law's where the arguments, and the package variables that the reading takes, are together of bulk at most 1048576: NARROWER than '..Said'. Prove '..Said' where nothing that the law and all that it calls make is longer than what came in: it says more and counts as full. Else prove '..UptoSaid'. A law counts once. -/
mutual
def uptoBulk {H : Type} : DataW H → Nat
  | .lit (.string bytes) => bytes.length + 1
  | .lit _ => 1
  | .nil => 1
  | .ptr d => uptoBulk d + 1
  | .slice elems spare => uptoBulkAll elems + uptoBulkAll spare + 1
  | .agg parts => uptoBulkAll parts + 1
  | .iface _ d => uptoBulk d + 1
  | .map entries => uptoBulkEntries entries + 1
  | .held _ => 1
def uptoBulkAll {H : Type} : List (DataW H) → Nat
  | [] => 0
  | d :: r => uptoBulk d + uptoBulkAll r
def uptoBulkEntries {H : Type} : List (Lit × DataW H) → Nat
  | [] => 0
  | x :: r => uptoBulkEntry x + uptoBulkEntries r
def uptoBulkEntry {H : Type} : Lit × DataW H → Nat
  | (.string bytes, d) => bytes.length + uptoBulk d + 1
  | (_, d) => uptoBulk d + 1
 end
def uptoSmall : (H : Type) → List (DataW H) → Bool := fun _ ds => decide (uptoBulkAll ds ≤ 1048576)
def OpenSpec.upto (s : _root_.Go.ChangeSpec) : _root_.Go.OpenSpec := { _root_.Go.OpenSpec.ofChange s with cond := some uptoSmall }

/-- 'laws.FnExactKinsOf', WHERE WHAT IT READS IS OF BULK AT MOST 1048576: true; the input reads as it did. -/
def fnExactKinsOfUptoRow : OpenClaim := { program := "ytfelindekikaeaa", sum := "6c2fbdc5b98939bef1e17498075eeb1e505b55d74b1ab8ff71a06c379f20c770", func := "loop.example/g01006/laws.FnExactKinsOf", spec := "fnExactKinsOf", apart := false, narrowed := true }
def FnExactKinsOfUptoSaid : Prop := fnExactKinsOfUptoRow.holds Try.pinned (OpenSpec.upto fnExactKinsOfSpec)

/-- 'laws.FnExactLandsByAge', WHERE WHAT IT READS IS OF BULK AT MOST 1048576: true; the input reads as it did. -/
def fnExactLandsByAgeUptoRow : OpenClaim := { program := "ytfelindekikaeaa", sum := "6c2fbdc5b98939bef1e17498075eeb1e505b55d74b1ab8ff71a06c379f20c770", func := "loop.example/g01006/laws.FnExactLandsByAge", spec := "fnExactLandsByAge", apart := false, narrowed := true }
def FnExactLandsByAgeUptoSaid : Prop := fnExactLandsByAgeUptoRow.holds Try.pinned (OpenSpec.upto fnExactLandsByAgeSpec)

/-- 'laws.FnExhibits', WHERE WHAT IT READS IS OF BULK AT MOST 1048576: true; the input reads as it did. -/
def fnExhibitsUptoRow : OpenClaim := { program := "ytfelindekikaeaa", sum := "6c2fbdc5b98939bef1e17498075eeb1e505b55d74b1ab8ff71a06c379f20c770", func := "loop.example/g01006/laws.FnExhibits", spec := "fnExhibits", recurses := true, apart := false, narrowed := true }
def FnExhibitsUptoSaid : Prop := fnExhibitsUptoRow.holds Try.pinned (OpenSpec.upto fnExhibitsSpec)

/-- 'laws.FnMuseum', WHERE WHAT IT READS IS OF BULK AT MOST 1048576: true; the input reads as it did. -/
def fnMuseumUptoRow : OpenClaim := { program := "ytfelindekikaeaa", sum := "6c2fbdc5b98939bef1e17498075eeb1e505b55d74b1ab8ff71a06c379f20c770", func := "loop.example/g01006/laws.FnMuseum", spec := "fnMuseum", apart := false, narrowed := true }
def FnMuseumUptoSaid : Prop := fnMuseumUptoRow.holds Try.pinned (OpenSpec.upto fnMuseumSpec)

end Rows
end Go.Proofs.Ytfelindekikaeaa
