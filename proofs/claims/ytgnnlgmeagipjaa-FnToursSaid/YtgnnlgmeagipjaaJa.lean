/- Journeys: the plain functions. By an AI agent. -/
import Derived.Test.YtgnnlgmeagipjaaKf
set_option linter.unusedVariables false
namespace Go.Proofs.Ytgnnlgmeagipjaa
open Go Go.RowKit K

structure Stay where
  town : Int
  days : Int
  fee : Int
def encStay (x : Stay) : List Value := [.int .i64 x.town, .int .i64 x.days, .int .i64 x.fee]
theorem encStay_len (x : Stay) : (encStay x).length = 3 := rfl
def GStay (x : Stay) : Prop := In64 x.town ∧ In64 x.days ∧ In64 x.fee
def stayB (x : Stay) : Bool := inB x.town 0 7 && inB x.days 1 30 && inB x.fee 0 1000
/-- The test of place k. -/
def stayStep (xs : List Stay) (k : Nat) : Bool :=
  match xs[k]?, xs[k - 1]? with
  | some x, some y => stayB x && (decide (k = 0) || decide (y.town < x.town))
  | _, _ => true
def staysB (xs : List Stay) : Bool := listB 7 stayStep xs
theorem stayStep_eq {xs : List Stay} {k : Nat} {x y : Stay} (hx : xs[k]? = some x) (hy : xs[k - 1]? = some y) : stayStep xs k = (stayB x && (decide (k = 0) || decide (y.town < x.town))) := by
  simp [stayStep, hx, hy]

structure Road where
  a : Int
  b : Int
  days : Int
def encRoad (x : Road) : List Value := [.int .i64 x.a, .int .i64 x.b, .int .i64 x.days]
theorem encRoad_len (x : Road) : (encRoad x).length = 3 := rfl
def GRoad (x : Road) : Prop := In64 x.a ∧ In64 x.b ∧ In64 x.days
def roadB (x : Road) : Bool := inB x.b 0 7 && inB x.a 0 (x.b - 1) && inB x.days 1 30
def roadStep (xs : List Road) (k : Nat) : Bool :=
  match xs[k]?, xs[k - 1]? with
  | some x, some y => roadB x && (decide (k = 0) || decide (y.a < x.a) || (decide (y.a = x.a) && decide (y.b < x.b)))
  | _, _ => true
def roadsB (xs : List Road) : Bool := listB 20 roadStep xs
theorem roadStep_eq {xs : List Road} {k : Nat} {x y : Road} (hx : xs[k]? = some x) (hy : xs[k - 1]? = some y) :
    roadStep xs k = (roadB x && (decide (k = 0) || decide (y.a < x.a) || (decide (y.a = x.a) && decide (y.b < x.b)))) := by
  simp [roadStep, hx, hy]
end Go.Proofs.Ytgnnlgmeagipjaa
