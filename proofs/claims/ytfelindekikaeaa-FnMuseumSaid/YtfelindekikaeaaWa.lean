/- Words: the plain functions. By an AI agent. -/
import Derived.Test.YtfelindekikaeaaKi
set_option linter.unusedVariables false
namespace Go.Proofs.Ytfelindekikaeaa
open Go Go.RowKit K

def lowB (c : UInt8) : Bool := decide (97 ≤ (c.toNat : Int)) && decide ((c.toNat : Int) ≤ 122)
def wordB (s : ByteArray) : Bool := inB s.size 1 10 && s.data.toList.all lowB
theorem getLtA {s : ByteArray} {i : Nat} (h : i < s.size) : s.data[i]? = some (s.data[i]'h) := Array.getElem?_eq_getElem h
theorem wordB_false {s : ByteArray} {k : Nat} {u : UInt8} (hu : s.data[k]? = some u) (h : lowB u = false) : wordB s = false := by
  unfold wordB
  rw [List.all_eq_false.2 ⟨u, List.mem_of_getElem? (i := k) (by simpa using hu), by rw [h]; exact Bool.false_ne_true⟩, Bool.and_false]
theorem wordB_size {s : ByteArray} (h : inB s.size 1 10 = false) : wordB s = false := by unfold wordB; rw [h, Bool.false_and]
theorem wordB_end {s : ByteArray} (h : ∀ (k : Nat) u, k < s.size → s.data[k]? = some u → lowB u = true) : wordB s = inB s.size 1 10 := by
  unfold wordB
  rw [List.all_eq_true.2 (fun u hu => by
    obtain ⟨i, hi⟩ := List.mem_iff_getElem?.1 hu
    have hi' : s.data[i]? = some u := by simpa using hi
    exact h i u (Array.getElem?_eq_some_iff.1 hi').1 hi'), Bool.and_true]
theorem sameB_rfl (s : ByteArray) : (s.toList == s.toList) = true := by simp
end Go.Proofs.Ytfelindekikaeaa
