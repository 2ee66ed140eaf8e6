import Derived.Test.YtfelindekikaeaaKf
import Derived.Test.YtfelindekikaeaaIa
import Derived.Test.YtfelindekikaeaaChecked
import Derived.KernelRfl
set_option linter.unusedVariables false
set_option linter.unusedSimpArgs false
namespace Go.Proofs.Ytfelindekikaeaa
open Go Go.RowKit K
theorem opExhibit {H : Type} {enc : TypeId × Value → H} {w : World} {base : Nat} {spare : Nat → Bool} {held : Bool} (fuel : Nat) (cs : List Value) (x : DataW H × List MemPlace) (h : DataW.trod enc Try.prog w base spare held fuel 66 cs = some x) :
    ∃ y : Exhibit, GExhibit y ∧ cs = encExhibit y := by
  obtain ⟨hl, hf⟩ := opStruct Try.underlying66 h
  clear h
  have hz : Try.prog.cellsOf 66 = 7 := by kernel_rfl
  obtain ⟨c0, c1, c2, c3, c4, c5, c6, rfl⟩ := len7 (hl.trans hz)
  obtain ⟨_, _, g0⟩ := hf 0 _ rfl
  have hc0 : Try.prog.cellsOf 3 = 1 := by kernel_rfl
  have g0 : DataW.trod enc Try.prog w base spare held _ 3 (([c0, c1, c2, c3, c4, c5, c6].drop 0).take (Try.prog.cellsOf 3)) = some _ := g0
  rw [hc0] at g0
  obtain ⟨n0, r0, e0⟩ := opInt Try.underlying3 g0
  obtain rfl : c0 = .int .i64 n0 := by simpa using e0
  obtain ⟨_, _, g1⟩ := hf 1 _ rfl
  have hc1 : Try.prog.cellsOf 9 = 1 := by kernel_rfl
  have g1 : DataW.trod enc Try.prog w base spare held _ 9 (([_, c1, c2, c3, c4, c5, c6].drop 1).take (Try.prog.cellsOf 9)) = some _ := g1
  rw [hc1] at g1
  obtain ⟨n1, r1, e1⟩ := opStr Try.underlying9 g1
  obtain rfl : c1 = .string n1 := by simpa using e1
  obtain ⟨_, _, g2⟩ := hf 2 _ rfl
  have hc2 : Try.prog.cellsOf 3 = 1 := by kernel_rfl
  have g2 : DataW.trod enc Try.prog w base spare held _ 3 (([_, _, c2, c3, c4, c5, c6].drop 2).take (Try.prog.cellsOf 3)) = some _ := g2
  rw [hc2] at g2
  obtain ⟨n2, r2, e2⟩ := opInt Try.underlying3 g2
  obtain rfl : c2 = .int .i64 n2 := by simpa using e2
  obtain ⟨_, _, g3⟩ := hf 3 _ rfl
  have hc3 : Try.prog.cellsOf 3 = 1 := by kernel_rfl
  have g3 : DataW.trod enc Try.prog w base spare held _ 3 (([_, _, _, c3, c4, c5, c6].drop 3).take (Try.prog.cellsOf 3)) = some _ := g3
  rw [hc3] at g3
  obtain ⟨n3, r3, e3⟩ := opInt Try.underlying3 g3
  obtain rfl : c3 = .int .i64 n3 := by simpa using e3
  obtain ⟨_, _, g4⟩ := hf 4 _ rfl
  have hc4 : Try.prog.cellsOf 3 = 1 := by kernel_rfl
  have g4 : DataW.trod enc Try.prog w base spare held _ 3 (([_, _, _, _, c4, c5, c6].drop 4).take (Try.prog.cellsOf 3)) = some _ := g4
  rw [hc4] at g4
  obtain ⟨n4, r4, e4⟩ := opInt Try.underlying3 g4
  obtain rfl : c4 = .int .i64 n4 := by simpa using e4
  obtain ⟨_, _, g5⟩ := hf 5 _ rfl
  have hc5 : Try.prog.cellsOf 3 = 1 := by kernel_rfl
  have g5 : DataW.trod enc Try.prog w base spare held _ 3 (([_, _, _, _, _, c5, c6].drop 5).take (Try.prog.cellsOf 3)) = some _ := g5
  rw [hc5] at g5
  obtain ⟨n5, r5, e5⟩ := opInt Try.underlying3 g5
  obtain rfl : c5 = .int .i64 n5 := by simpa using e5
  obtain ⟨_, _, g6⟩ := hf 6 _ rfl
  have hc6 : Try.prog.cellsOf 3 = 1 := by kernel_rfl
  have g6 : DataW.trod enc Try.prog w base spare held _ 3 (([_, _, _, _, _, _, c6].drop 6).take (Try.prog.cellsOf 3)) = some _ := g6
  rw [hc6] at g6
  obtain ⟨n6, r6, e6⟩ := opInt Try.underlying3 g6
  obtain rfl : c6 = .int .i64 n6 := by simpa using e6
  exact ⟨⟨n0, n1, n2, n3, n4, n5, n6⟩, ⟨r0, r1, r2, r3, r4, r5, r6⟩, rfl⟩

end Go.Proofs.Ytfelindekikaeaa
