/- Tours: the fewest days and the best tour, as the program finds them. By an AI agent. -/
import Derived.Test.YtgnnlgmeagipjaaGb
set_option linter.unusedVariables false
set_option linter.unusedSimpArgs false
namespace Go.Proofs.Ytgnnlgmeagipjaa
open Go Go.RowKit K

def tlF (n : Nat) (v d f c : Int) : Int := if c = n ∧ (v < 0 ∨ d < v) then d else v
def tlB (days v d f c : Int) : Int := if d ≤ days then (if v < f then f else v) else v
theorem tlF_yes {n : Nat} {v d f c : Int} (h : c = n) (h2 : v < 0 ∨ d < v) : tlF n v d f c = d := if_pos ⟨h, h2⟩
theorem tlF_no {n : Nat} {v d f c : Int} (h : c ≠ n ∨ (0 ≤ v ∧ v ≤ d)) : tlF n v d f c = v := if_neg (by omega)
theorem tlB_yes {days v d f c : Int} (h : d ≤ days) : tlB days v d f c = if v < f then f else v := if_pos h
theorem tlB_no {days v d f c : Int} (h : ¬ d ≤ days) : tlB days v d f c = v := if_neg h
def fdV (xs : List Road) (st : List Stay) : Int := trO (ways (-1) xs) st (tlF st.length) st.length [] (-1)
def fdB (xs : List Road) (st : List Stay) : Bool := roadsB xs && staysB st && decide (0 ≤ fdV xs st)
def fdR (xs : List Road) (st : List Stay) : Int := if fdB xs st then fdV xs st else 0
def btV (xs : List Road) (st : List Stay) (days : Int) : Int := trO (ways (-1) xs) st (tlB days) st.length [] 0
def btB (xs : List Road) (st : List Stay) (days : Int) : Bool := roadsB xs && staysB st && inB days 0 1000
def btR (xs : List Road) (st : List Stay) (days : Int) : Int := if btB xs st days then btV xs st days else 0
theorem fdR_yes {xs : List Road} {st : List Stay} (h : fdB xs st = true) : fdR xs st = fdV xs st := if_pos h
theorem fdR_no {xs : List Road} {st : List Stay} (h : fdB xs st = false) : fdR xs st = 0 := if_neg (by simp [h])
theorem btR_yes {xs : List Road} {st : List Stay} {days : Int} (h : btB xs st days = true) : btR xs st days = btV xs st days := if_pos h
theorem btR_no {xs : List Road} {st : List Stay} {days : Int} (h : btB xs st days = false) : btR xs st days = 0 := if_neg (by simp [h])
theorem fdB_no {xs : List Road} {st : List Stay} (h : roadsB xs = false ∨ staysB st = false ∨ fdV xs st < 0) : fdB xs st = false := by
  unfold fdB
  rcases h with h | h | h
  · rw [h]; rfl
  · rw [h]; simp
  · rw [decide_eq_false (by omega)]; simp
theorem fdB_yes {xs : List Road} {st : List Stay} (h1 : roadsB xs = true) (h2 : staysB st = true) (h3 : 0 ≤ fdV xs st) : fdB xs st = true := by
  unfold fdB; rw [h1, h2, decide_eq_true h3]; rfl
theorem btB_no {xs : List Road} {st : List Stay} {days : Int} (h : roadsB xs = false ∨ staysB st = false ∨ inB days 0 1000 = false) : btB xs st days = false := by
  unfold btB
  rcases h with h | h | h
  · rw [h]; rfl
  · rw [h]; simp
  · rw [h]; simp
theorem btB_yes {xs : List Road} {st : List Stay} {days : Int} (h1 : roadsB xs = true) (h2 : staysB st = true) (h3 : inB days 0 1000 = true) : btB xs st days = true := by
  unfold btB; rw [h1, h2, h3]; rfl
end Go.Proofs.Ytgnnlgmeagipjaa
