/- The school: the plain functions. By an AI agent. -/
import Derived.Test.YtacaoicpmhdioaaKi
set_option linter.unusedVariables false
namespace Go.Proofs.Ytacaoicpmhdioaa
open Go Go.RowKit K

structure Student where
  id : Int
  grade : Int
  hours : Int
  paid : Int
  fails : Int
def encStudent (x : Student) : List Value := [.int .i64 x.id, .int .i64 x.grade, .int .i64 x.hours, .int .i64 x.paid, .int .i64 x.fails]
theorem encStudent_len (x : Student) : (encStudent x).length = 5 := rfl
def GStudent (x : Student) : Prop := In64 x.id ∧ In64 x.grade ∧ In64 x.hours ∧ In64 x.paid ∧ In64 x.fails
def newD (n : Int) : Int := if inB n 0 4000 = true then n else 0
def studentB (x : Student) : Bool := inB x.id 1 99 && inB x.grade 0 10 && inB x.hours 0 999 && inB x.paid 0 4365 && inB x.fails 0 9
def studentStep (xs : List Student) (k : Nat) : Bool :=
  match xs[k]?, xs[k - 1]? with
  | some x, some y => studentB x && (decide (k = 0) || decide (y.id < x.id))
  | _, _ => true
theorem studentStep_eq {xs : List Student} {k : Nat} {x y : Student} (hx : xs[k]? = some x) (hy : xs[k - 1]? = some y) : studentStep xs k = (studentB x && (decide (k = 0) || decide (y.id < x.id))) := by
  simp [studentStep, hx, hy]
def schoolB (d : Int) (xs : List Student) (p l : Int) : Bool := inB d 0 4000 && inB p 0 9999 && inB l 0 9999 && listB 8 studentStep xs
end Go.Proofs.Ytacaoicpmhdioaa
