import Derived.Test.YtjhlhkglpecdbaaKf
import Derived.Test.YtjhlhkglpecdbaaPa
import Derived.Test.YtjhlhkglpecdbaaChecked
import Derived.KernelRfl
set_option linter.unusedVariables false
set_option linter.unusedSimpArgs false
namespace Go.Proofs.Ytjhlhkglpecdbaa
open Go Go.RowKit K
theorem opIntA2 {H : Type} {enc : TypeId × Value → H} {w : World} {base : Nat} {spare : Nat → Bool} {held : Bool} (fuel : Nat) (cs : List Value) (x : DataW H × List MemPlace) (h : DataW.trod enc Try.prog w base spare held fuel 43 cs = some x) :
    ∃ y : IntA2, GIntA2 y ∧ cs = encIntA2 y := by
  have hz : Try.prog.cellsOf 43 = 2 := by kernel_rfl
  have he : Try.prog.cellsOf 3 = 1 := by kernel_rfl
  exact opArr2 Try.underlying43 Try.underlying3 hz he h

end Go.Proofs.Ytjhlhkglpecdbaa
