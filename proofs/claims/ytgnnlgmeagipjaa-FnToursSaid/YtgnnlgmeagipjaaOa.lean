import Derived.Test.YtgnnlgmeagipjaaKf
import Derived.Test.YtgnnlgmeagipjaaJa
import Derived.Test.YtgnnlgmeagipjaaChecked
import Derived.KernelRfl
set_option linter.unusedVariables false
set_option linter.unusedSimpArgs false
namespace Go.Proofs.Ytgnnlgmeagipjaa
open Go Go.RowKit K
theorem opStay {H : Type} {enc : TypeId × Value → H} {w : World} {base : Nat} {spare : Nat → Bool} {held : Bool} (fuel : Nat) (cs : List Value) (x : DataW H × List MemPlace) (h : DataW.trod enc Try.prog w base spare held fuel 69 cs = some x) :
    ∃ y : Stay, GStay y ∧ cs = encStay y := by
  obtain ⟨hl, hf⟩ := opStruct Try.underlying69 h
  clear h
  have hz : Try.prog.cellsOf 69 = 3 := by kernel_rfl
  obtain ⟨c0, c1, c2, rfl⟩ := len3 (hl.trans hz)
  obtain ⟨_, _, g0⟩ := hf 0 _ rfl
  have hc0 : Try.prog.cellsOf 3 = 1 := by kernel_rfl
  have g0 : DataW.trod enc Try.prog w base spare held _ 3 (([c0, c1, c2].drop 0).take (Try.prog.cellsOf 3)) = some _ := g0
  rw [hc0] at g0
  obtain ⟨n0, r0, e0⟩ := opInt Try.underlying3 g0
  obtain rfl : c0 = .int .i64 n0 := by simpa using e0
  obtain ⟨_, _, g1⟩ := hf 1 _ rfl
  have hc1 : Try.prog.cellsOf 3 = 1 := by kernel_rfl
  have g1 : DataW.trod enc Try.prog w base spare held _ 3 (([_, c1, c2].drop 1).take (Try.prog.cellsOf 3)) = some _ := g1
  rw [hc1] at g1
  obtain ⟨n1, r1, e1⟩ := opInt Try.underlying3 g1
  obtain rfl : c1 = .int .i64 n1 := by simpa using e1
  obtain ⟨_, _, g2⟩ := hf 2 _ rfl
  have hc2 : Try.prog.cellsOf 3 = 1 := by kernel_rfl
  have g2 : DataW.trod enc Try.prog w base spare held _ 3 (([_, _, c2].drop 2).take (Try.prog.cellsOf 3)) = some _ := g2
  rw [hc2] at g2
  obtain ⟨n2, r2, e2⟩ := opInt Try.underlying3 g2
  obtain rfl : c2 = .int .i64 n2 := by simpa using e2
  exact ⟨⟨n0, n1, n2⟩, ⟨r0, r1, r2⟩, rfl⟩


theorem opRoad {H : Type} {enc : TypeId × Value → H} {w : World} {base : Nat} {spare : Nat → Bool} {held : Bool} (fuel : Nat) (cs : List Value) (x : DataW H × List MemPlace) (h : DataW.trod enc Try.prog w base spare held fuel 67 cs = some x) :
    ∃ y : Road, GRoad y ∧ cs = encRoad y := by
  obtain ⟨hl, hf⟩ := opStruct Try.underlying67 h
  clear h
  have hz : Try.prog.cellsOf 67 = 3 := by kernel_rfl
  obtain ⟨c0, c1, c2, rfl⟩ := len3 (hl.trans hz)
  obtain ⟨_, _, g0⟩ := hf 0 _ rfl
  have hc0 : Try.prog.cellsOf 3 = 1 := by kernel_rfl
  have g0 : DataW.trod enc Try.prog w base spare held _ 3 (([c0, c1, c2].drop 0).take (Try.prog.cellsOf 3)) = some _ := g0
  rw [hc0] at g0
  obtain ⟨n0, r0, e0⟩ := opInt Try.underlying3 g0
  obtain rfl : c0 = .int .i64 n0 := by simpa using e0
  obtain ⟨_, _, g1⟩ := hf 1 _ rfl
  have hc1 : Try.prog.cellsOf 3 = 1 := by kernel_rfl
  have g1 : DataW.trod enc Try.prog w base spare held _ 3 (([_, c1, c2].drop 1).take (Try.prog.cellsOf 3)) = some _ := g1
  rw [hc1] at g1
  obtain ⟨n1, r1, e1⟩ := opInt Try.underlying3 g1
  obtain rfl : c1 = .int .i64 n1 := by simpa using e1
  obtain ⟨_, _, g2⟩ := hf 2 _ rfl
  have hc2 : Try.prog.cellsOf 3 = 1 := by kernel_rfl
  have g2 : DataW.trod enc Try.prog w base spare held _ 3 (([_, _, c2].drop 2).take (Try.prog.cellsOf 3)) = some _ := g2
  rw [hc2] at g2
  obtain ⟨n2, r2, e2⟩ := opInt Try.underlying3 g2
  obtain rfl : c2 = .int .i64 n2 := by simpa using e2
  exact ⟨⟨n0, n1, n2⟩, ⟨r0, r1, r2⟩, rfl⟩

end Go.Proofs.Ytgnnlgmeagipjaa
