/- The text of a number. By an AI agent. -/
import Derived.Test.YtgnnlgmeagipjaaKn
set_option linter.unusedVariables false
namespace Go.Proofs.Ytgnnlgmeagipjaa
open Go Go.RowKit K

def dig8 (n : Nat) : UInt8 := UInt8.ofNat (IntKind.u8.wrap (48 + (n : Int) % 10)).toNat
def numL (n : Nat) : List UInt8 := if n < 10 then [dig8 n] else numL (n / 10) ++ [dig8 n]
termination_by n
decreasing_by omega
theorem numL_small {n : Nat} (h : n < 10) : numL n = [dig8 n] := by rw [numL, if_pos h]
theorem numL_big {n : Nat} (h : 10 ≤ n) : numL n = numL (n / 10) ++ [dig8 n] := by rw [numL, if_neg (by omega)]
theorem numL_len1 : ∀ (k n : Nat), n < 10 ^ (k + 1) → (numL n).length ≤ k + 1
  | 0, n, h => by rw [numL_small (by omega)]; simp
  | k + 1, n, h => by
    by_cases hn : n < 10
    · rw [numL_small hn]; simp
    · rw [numL_big (by omega), List.length_append]
      have := numL_len1 k (n / 10) (by rw [Nat.pow_succ] at h; omega)
      simp; omega
theorem numL_len {n : Nat} (h : n ≤ 1000000000000) : (numL n).length ≤ 14 := numL_len1 13 n (by omega)
theorem digit_ex {d : Nat} (h : d < 10) : (⟨#[48, 49, 50, 51, 52, 53, 54, 55, 56, 57]⟩ : ByteArray).extract d (d + 1) = bs [UInt8.ofNat (IntKind.u8.wrap (48 + (d : Int))).toNat] := by
  rcases (show d = 0 ∨ d = 1 ∨ d = 2 ∨ d = 3 ∨ d = 4 ∨ d = 5 ∨ d = 6 ∨ d = 7 ∨ d = 8 ∨ d = 9 by omega) with rfl | rfl | rfl | rfl | rfl | rfl | rfl | rfl | rfl | rfl <;> rfl

section
variable {P : Program} {n : Nat} {Q : Exit → Act → World → Prop} {σ : List (Nat × Value)} {w0 : Base} {μ : List Ent} {ty : TypeId}
/-- A digit, cut out of all. -/
theorem ov_digit {t : TypeId} {lo hi : Operand} {k1 k2 : IntKind} {i j : Int} (q : Nat) (ht : P.underlying t = some .string) (hl : EV σ lo = some (.int k1 i)) (hh : EV σ hi = some (.int k2 j)) (hiq : i = (q : Int) % 10) (hj : j = (q : Int) % 10 + 1) :
    OV P n (.slice t (.const (.string ⟨#[48, 49, 50, 51, 52, 53, 54, 55, 56, 57]⟩)) (some lo) (some hi) none) ty (.string (bs [dig8 q])) σ w0 μ := by
  have h := ov_sslice (P := P) (n := n) (ty := ty) (w0 := w0) (μ := μ) (x := .const (.string ⟨#[48, 49, 50, 51, 52, 53, 54, 55, 56, 57]⟩)) ht rfl hl hh (q % 10) (q % 10 + 1) (by omega) (by omega) (by omega) (by show q % 10 + 1 ≤ 10; omega)
  rw [digit_ex (by omega)] at h
  unfold dig8
  rw [show (48 + (q : Int) % 10) = 48 + ((q % 10 : Nat) : Int) from by omega]
  exact h
end
end Go.Proofs.Ytgnnlgmeagipjaa
