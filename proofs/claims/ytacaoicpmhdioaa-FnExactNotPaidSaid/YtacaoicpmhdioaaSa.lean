/- The school: the plain functions. By an AI agent. -/
import Derived.Test.YtacaoicpmhdioaaKm
set_option linter.unusedVariables false
namespace Go.Proofs.Ytacaoicpmhdioaa
open Go Go.RowKit K

structure Student where
  id : Int
  grade : Int
  hours : Int
  paid : Int
  fails : Int
def encStudent (x : Student) : List Value := [.int .i64 x.id, .int .i64 x.grade, .int .i64 x.hours, .int .i64 x.paid, .int .i64 x.fails]
theorem encStudent_len (x : Student) : (encStudent x).length = 5 := rfl
def GStudent (x : Student) : Prop := In64 x.id ∧ In64 x.grade ∧ In64 x.hours ∧ In64 x.paid ∧ In64 x.fails
def newD (n : Int) : Int := if inB n 0 4000 = true then n else 0
def studentB (x : Student) : Bool := inB x.id 1 99 && inB x.grade 0 10 && inB x.hours 0 999 && inB x.paid 0 4365 && inB x.fails 0 9
def studentStep (xs : List Student) (k : Nat) : Bool :=
  match xs[k]?, xs[k - 1]? with
  | some x, some y => studentB x && (decide (k = 0) || decide (y.id < x.id))
  | _, _ => true
theorem studentStep_eq {xs : List Student} {k : Nat} {x y : Student} (hx : xs[k]? = some x) (hy : xs[k - 1]? = some y) : studentStep xs k = (studentB x && (decide (k = 0) || decide (y.id < x.id))) := by
  simp [studentStep, hx, hy]
def schoolB (d : Int) (xs : List Student) (p l : Int) : Bool := inB d 0 4000 && inB p 0 9999 && inB l 0 9999 && listB 8 studentStep xs
theorem schoolB_at {d pa le : Int} {xs : List Student} (h : schoolB d xs pa le = true) {k : Nat} {x : Student} (hx : xs[k]? = some x) : (1 ≤ x.id ∧ x.id ≤ 99) ∧ (0 ≤ x.grade ∧ x.grade ≤ 10) ∧ (0 ≤ x.hours ∧ x.hours ≤ 999) ∧ (0 ≤ x.paid ∧ x.paid ≤ 4365) ∧ (0 ≤ x.fails ∧ x.fails ≤ 9) := by
  unfold schoolB at h
  simp only [Bool.and_eq_true] at h
  have hk := (List.getElem?_eq_some_iff.1 hx).1
  have h2 := listB_step h.2 hk
  rw [studentStep_eq hx (getLt (show k - 1 < xs.length by omega))] at h2
  simp only [studentB, inB, Bool.and_eq_true, decide_eq_true_eq] at h2
  omega
theorem schoolB_len {d pa le : Int} {xs : List Student} (h : schoolB d xs pa le = true) : xs.length ≤ 8 := by
  unfold schoolB at h
  simp only [Bool.and_eq_true] at h
  exact listB_len h.2
end Go.Proofs.Ytacaoicpmhdioaa
