/- Journeys: the plain functions. By an AI agent. -/
import Derived.Test.YtpkmoeenegnonaaKf
set_option linter.unusedVariables false
namespace Go.Proofs.Ytpkmoeenegnonaa
open Go Go.RowKit K

structure Stay where
  town : Int
  days : Int
  fee : Int
def encStay (x : Stay) : List Value := [.int .i64 x.town, .int .i64 x.days, .int .i64 x.fee]
theorem encStay_len (x : Stay) : (encStay x).length = 3 := rfl

def GStay (x : Stay) : Prop := In64 x.town ∧ In64 x.days ∧ In64 x.fee

def inB (n lo hi : Int) : Bool := decide (lo ≤ n) && decide (n ≤ hi)
def stayB (x : Stay) : Bool := inB x.town 0 7 && inB x.days 1 30 && inB x.fee 0 1000
/-- The test of place k. -/
def stayStep (xs : List Stay) (k : Nat) : Bool :=
  match xs[k]?, xs[k - 1]? with
  | some x, some y => stayB x && (decide (k = 0) || decide (y.town < x.town))
  | _, _ => true
def staysB (xs : List Stay) : Bool := decide (xs.length ≤ 7) && (List.range xs.length).all (stayStep xs)

theorem stayStep_eq {xs : List Stay} {k : Nat} {x y : Stay} (hx : xs[k]? = some x) (hy : xs[k - 1]? = some y) : stayStep xs k = (stayB x && (decide (k = 0) || decide (y.town < x.town))) := by
  simp [stayStep, hx, hy]

theorem allRange_false {n : Nat} {p : Nat → Bool} {k : Nat} (hk : k < n) (h : p k = false) : (List.range n).all p = false := by
  rw [List.all_eq_false]
  exact ⟨k, List.mem_range.2 hk, by rw [h]; exact Bool.false_ne_true⟩
theorem allRange_true {n : Nat} {p : Nat → Bool} (h : ∀ k, k < n → p k = true) : (List.range n).all p = true :=
  List.all_eq_true.2 fun k hk => h k (List.mem_range.1 hk)
theorem staysB_false {xs : List Stay} {k : Nat} (hk : k < xs.length) (h : stayStep xs k = false) : staysB xs = false := by
  unfold staysB; rw [allRange_false hk h, Bool.and_false]
theorem staysB_long {xs : List Stay} (h : 7 < (xs.length : Int)) : staysB xs = false := by
  unfold staysB; rw [decide_eq_false (by omega), Bool.false_and]
theorem staysB_end {xs : List Stay} (h : ∀ k, k < xs.length → stayStep xs k = true) : staysB xs = decide (xs.length ≤ 7) := by
  unfold staysB; rw [allRange_true h, Bool.and_true]
end Go.Proofs.Ytpkmoeenegnonaa
