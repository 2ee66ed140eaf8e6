/- The school: the plain functions. By an AI agent. -/
import Derived.Test.YtacaoicpmhdioaaKm
set_option linter.unusedVariables false
namespace Go.Proofs.Ytacaoicpmhdioaa
open Go Go.RowKit K

structure Student where
  id : Int
  grade : Int
  hours : Int
  paid : Int
  fails : Int
def encStudent (x : Student) : List Value := [.int .i64 x.id, .int .i64 x.grade, .int .i64 x.hours, .int .i64 x.paid, .int .i64 x.fails]
theorem encStudent_len (x : Student) : (encStudent x).length = 5 := rfl
def GStudent (x : Student) : Prop := In64 x.id ∧ In64 x.grade ∧ In64 x.hours ∧ In64 x.paid ∧ In64 x.fails
def newD (n : Int) : Int := if inB n 0 4000 = true then n else 0
def studentB (x : Student) : Bool := inB x.id 1 99 && inB x.grade 0 10 && inB x.hours 0 999 && inB x.paid 0 4365 && inB x.fails 0 9
def studentStep (xs : List Student) (k : Nat) : Bool :=
  match xs[k]?, xs[k - 1]? with
  | some x, some y => studentB x && (decide (k = 0) || decide (y.id < x.id))
  | _, _ => true
theorem studentStep_eq {xs : List Student} {k : Nat} {x y : Student} (hx : xs[k]? = some x) (hy : xs[k - 1]? = some y) : studentStep xs k = (studentB x && (decide (k = 0) || decide (y.id < x.id))) := by
  simp [studentStep, hx, hy]
def schoolB (d : Int) (xs : List Student) (p l : Int) : Bool := inB d 0 4000 && inB p 0 9999 && inB l 0 9999 && listB 8 studentStep xs
theorem schoolB_at {d pa le : Int} {xs : List Student} (h : schoolB d xs pa le = true) {k : Nat} {x : Student} (hx : xs[k]? = some x) : (1 ≤ x.id ∧ x.id ≤ 99) ∧ (0 ≤ x.grade ∧ x.grade ≤ 10) ∧ (0 ≤ x.hours ∧ x.hours ≤ 999) ∧ (0 ≤ x.paid ∧ x.paid ≤ 4365) ∧ (0 ≤ x.fails ∧ x.fails ≤ 9) := by
  unfold schoolB at h
  simp only [Bool.and_eq_true] at h
  have hk := (List.getElem?_eq_some_iff.1 hx).1
  have h2 := listB_step h.2 hk
  rw [studentStep_eq hx (getLt (show k - 1 < xs.length by omega))] at h2
  simp only [studentB, inB, Bool.and_eq_true, decide_eq_true_eq] at h2
  omega
theorem schoolB_len {d pa le : Int} {xs : List Student} (h : schoolB d xs pa le = true) : xs.length ≤ 8 := by
  unfold schoolB at h
  simp only [Bool.and_eq_true] at h
  exact listB_len h.2

abbrev byId (sid : Int) : Student → Bool := fun x => x.id == sid
/-- The hours that are missing. -/
def hmR (ok : Bool) (xs : List Student) (sid : Int) : Int × Bool :=
  if ok = true ∧ 0 ≤ findP (byId sid) xs then (match xs[(findP (byId sid) xs).toNat]? with
    | some x => if x.grade = 10 then (0, false) else (if 0 < 10 + 5 * x.grade - x.hours then 10 + 5 * x.grade - x.hours else 0, true)
    | none => (0, false)) else (0, false)
theorem hmR_no {ok : Bool} {xs : List Student} {sid : Int} (h : ok = false) : hmR ok xs sid = (0, false) := by unfold hmR; rw [if_neg (by rw [h]; simp)]
theorem hmR_miss {ok : Bool} {xs : List Student} {sid : Int} (h : findP (byId sid) xs < 0) : hmR ok xs sid = (0, false) := by unfold hmR; rw [if_neg (by omega)]
theorem hmR_top {ok : Bool} {xs : List Student} {sid : Int} {x : Student} (h : ok = true) (h0 : ¬ findP (byId sid) xs < 0) (hx : xs[(findP (byId sid) xs).toNat]? = some x) (hg : x.grade = 10) : hmR ok xs sid = (0, false) := by
  unfold hmR; rw [if_pos ⟨h, by omega⟩, hx]; simp only; rw [if_pos hg]
theorem hmR_yes {ok : Bool} {xs : List Student} {sid : Int} {x : Student} (h : ok = true) (h0 : ¬ findP (byId sid) xs < 0) (hx : xs[(findP (byId sid) xs).toNat]? = some x) (hg : x.grade ≠ 10) :
    hmR ok xs sid = (if 0 < 10 + 5 * x.grade - x.hours then 10 + 5 * x.grade - x.hours else 0, true) := by
  unfold hmR; rw [if_pos ⟨h, by omega⟩, hx]; simp only; rw [if_neg hg]

def gradeStep (out : List Int) (x : Student) : List Int := out.set x.grade.toNat (out.getD x.grade.toNat 0 + 1)
def gradesL (xs : List Student) : List Int := xs.foldl gradeStep (List.replicate 11 0)
theorem gradesL_snoc {xs : List Student} {k : Nat} {x : Student} (h : xs[k]? = some x) : gradesL (xs.take (k + 1)) = gradeStep (gradesL (xs.take k)) x := by
  unfold gradesL; rw [take_snoc h, List.foldl_append]; rfl
def gradesR (ok : Bool) (xs : List Student) : List Int := if ok = true then gradesL xs else []
theorem gradesR_yes {ok : Bool} {xs : List Student} (h : ok = true) : gradesR ok xs = gradesL xs := by unfold gradesR; rw [if_pos h]
theorem gradesR_no {ok : Bool} {xs : List Student} (h : ok = false) : gradesR ok xs = [] := by unfold gradesR; rw [h]; rfl
theorem gradesL_len (xs : List Student) : (gradesL xs).length = 11 := by
  unfold gradesL
  have : ∀ (xs : List Student) (l : List Int), (xs.foldl gradeStep l).length = l.length := by
    intro xs
    induction xs with
    | nil => intro l; rfl
    | cons x xs ih => intro l; rw [List.foldl_cons, ih]; simp [gradeStep]
  rw [this]; simp
theorem gradesR_len (ok : Bool) (xs : List Student) : (gradesR ok xs).length ≤ 11 := by
  unfold gradesR
  split
  · rw [gradesL_len]; exact Nat.le_refl _
  · simp
structure GradeI (xs : List Student) (k : Nat) (out : List Int) : Prop where
  le : k ≤ xs.length
  eq : out = gradesL (xs.take k)
  len : out.length = 11
  bd : ∀ (j : Nat) v, out[j]? = some v → 0 ≤ v ∧ v ≤ (k : Int)
theorem GradeI.zero (xs : List Student) : GradeI xs 0 (List.replicate 11 0) := ⟨Nat.zero_le _, rfl, by simp, fun j v h => by
  rw [List.getElem?_replicate] at h
  split at h
  · obtain rfl := Option.some.inj h; exact ⟨Int.le_refl _, by omega⟩
  · cases h⟩
theorem GradeI.next {xs : List Student} {k : Nat} {out : List Int} {x : Student} {v : Int} (h : GradeI xs k out) (hx : xs[k]? = some x) (hv : out[x.grade.toNat]? = some v) : GradeI xs (k + 1) (out.set x.grade.toNat (v + 1)) := by
  have hst : out.set x.grade.toNat (v + 1) = gradeStep out x := by unfold gradeStep; rw [List.getD_eq_getElem?_getD, hv]; rfl
  refine ⟨(List.getElem?_eq_some_iff.1 hx).1, by rw [hst, gradesL_snoc hx, ← h.eq], by simp [h.len], fun j u hu => ?_⟩
  have hv' := h.bd _ _ hv
  rw [List.getElem?_set] at hu
  split at hu
  · split at hu
    · obtain rfl := Option.some.inj hu; omega
    · cases hu
  · have := h.bd j u hu; omega
end Go.Proofs.Ytacaoicpmhdioaa
