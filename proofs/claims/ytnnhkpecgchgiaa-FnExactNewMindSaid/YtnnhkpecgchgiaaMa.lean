/- Images in memory: the plain functions. By an AI agent. -/
import Derived.Test.YtnnhkpecgchgiaaPa
import Derived.Test.YtnnhkpecgchgiaaQa
set_option linter.unusedVariables false
set_option linter.unusedSimpArgs false
namespace Go.Proofs.Ytnnhkpecgchgiaa
open Go Go.RowKit K

def mindStep (cl im : List Int) (k : Nat) : Bool :=
  match im[k]?, cl[k]? with
  | some d, some c => inB d (-1) 9 && inB c 0 5 && (decide (d < 0) == decide (c = 0))
  | _, _ => true
theorem mindStep_eq {cl im : List Int} {k : Nat} {d c : Int} (hd : im[k]? = some d) (hc : cl[k]? = some c) : mindStep cl im k = (inB d (-1) 9 && inB c 0 5 && (decide (d < 0) == decide (c = 0))) := by simp only [mindStep, hd, hc]
def mindH (u l : Int) (xs : List IntA2) (cl im : List Int) (be gu : Int) : Bool := goodB u l xs && decide (cl.length = xs.length) && decide (im.length = xs.length) && inB be 0 9999 && inB gu 0 9999
def mindB (u l : Int) (xs : List IntA2) (cl im : List Int) (be gu : Int) : Bool := mindH u l xs cl im be gu && (List.range im.length).all (mindStep cl im)
theorem mindB_head {u l : Int} {xs : List IntA2} {cl im : List Int} {be gu : Int} (h : mindH u l xs cl im be gu = false) : mindB u l xs cl im be gu = false := by rw [mindB, h, Bool.false_and]
theorem mindB_step {u l : Int} {xs : List IntA2} {cl im : List Int} {be gu : Int} {k : Nat} (hk : k < im.length) (h : mindStep cl im k = false) : mindB u l xs cl im be gu = false := by
  rw [mindB, allRange_false hk h, Bool.and_false]
theorem mindB_end {u l : Int} {xs : List IntA2} {cl im : List Int} {be gu : Int} (h : ∀ k, k < im.length → mindStep cl im k = true) : mindB u l xs cl im be gu = mindH u l xs cl im be gu := by
  rw [mindB, allRange_true h, Bool.and_true]
theorem mindB_h {u l : Int} {xs : List IntA2} {cl im : List Int} {be gu : Int} (h : mindB u l xs cl im be gu = true) : goodB u l xs = true ∧ cl.length = xs.length ∧ im.length = xs.length ∧ (0 ≤ be ∧ be ≤ 9999) ∧ (0 ≤ gu ∧ gu ≤ 9999) ∧ (1 ≤ im.length ∧ im.length ≤ 8) := by
  rw [mindB, mindH] at h
  simp only [Bool.and_eq_true, decide_eq_true_eq, inB] at h
  have := (frameB_ul (goodB_f h.1.1.1.1.1)).2.2
  exact ⟨h.1.1.1.1.1, h.1.1.1.1.2, h.1.1.1.2, h.1.1.2, h.1.2, by omega⟩
theorem mindB_at {u l : Int} {xs : List IntA2} {cl im : List Int} {be gu : Int} (h : mindB u l xs cl im be gu = true) {k : Nat} {d c : Int} (hd : im[k]? = some d) (hc : cl[k]? = some c) : (-1 ≤ d ∧ d ≤ 9) ∧ (0 ≤ c ∧ c ≤ 5) ∧ (d < 0 ↔ c = 0) := by
  have hk := (List.getElem?_eq_some_iff.1 hd).1
  rw [mindB, Bool.and_eq_true] at h
  have h2 := List.all_eq_true.1 h.2 k (List.mem_range.2 hk)
  rw [mindStep_eq hd hc] at h2
  simp only [Bool.and_eq_true, decide_eq_true_eq, inB, beq_iff_eq] at h2
  refine ⟨h2.1.1, h2.1.2, ?_⟩
  have h3 := h2.2
  by_cases q1 : d < 0 <;> by_cases q2 : c = 0 <;> simp_all

/-- The rods that are lost. -/
def lostP (im : List Int) (k : Nat) : List Int := ((List.range k).filter fun (j : Nat) => match im[j]? with | some d => decide (d < 0) | none => false).map fun (j : Nat) => (j : Int)
theorem lostP_yes {im : List Int} {k : Nat} {d : Int} (h : im[k]? = some d) (hd : d < 0) : lostP im (k + 1) = lostP im k ++ [(k : Int)] := by
  simp [lostP, List.range_succ, List.filter_append, h, hd]
theorem lostP_no {im : List Int} {k : Nat} {d : Int} (h : im[k]? = some d) (hd : ¬ d < 0) : lostP im (k + 1) = lostP im k := by
  simp [lostP, List.range_succ, List.filter_append, h, hd]
theorem lostP_len (im : List Int) (k : Nat) : (lostP im k).length ≤ k := by
  unfold lostP
  rw [List.length_map]
  exact Nat.le_trans (List.length_filter_le _ _) (by simp)
def lostR (ok : Bool) (im : List Int) : List Int := if ok = true then lostP im im.length else []
theorem lostR_yes {ok : Bool} {im : List Int} (h : ok = true) : lostR ok im = lostP im im.length := by rw [lostR, if_pos h]
theorem lostR_no {ok : Bool} {im : List Int} (h : ok = false) : lostR ok im = [] := by rw [lostR, if_neg (by rw [h]; simp)]
theorem lostR_len (ok : Bool) (im : List Int) : (lostR ok im).length ≤ im.length := by
  unfold lostR
  split
  · exact lostP_len im _
  · simp

/-- The number that is remembered. -/
def digN (im : List Int) : Int := im.foldl (fun n d => 10 * n + d) 0
theorem digN_snoc {im : List Int} {k : Nat} {d : Int} (h : im[k]? = some d) : digN (im.take (k + 1)) = 10 * digN (im.take k) + d := by
  rw [take_snoc h]; simp [digN, List.foldl_append]
theorem digN_bd {im : List Int} (h : ∀ (k : Nat) d, im[k]? = some d → 0 ≤ d ∧ d ≤ 9) : ∀ k, k ≤ im.length → 0 ≤ digN (im.take k) ∧ digN (im.take k) ≤ p10 k - 1
  | 0, _ => by simp [digN, p10]
  | k + 1, hk => by
    have ih := digN_bd h k (by omega)
    have hx := getLt (show k < im.length by omega)
    have hb := h k _ hx
    rw [digN_snoc hx, p10_succ]
    omega
theorem lostP_nil {im : List Int} {k : Nat} (hk : k ≤ im.length) : lostP im k = [] ↔ ∀ (j : Nat) d, j < k → im[j]? = some d → 0 ≤ d := by
  induction k with
  | zero => simp [lostP]
  | succ k ih =>
    have hx := getLt (show k < im.length by omega)
    constructor
    · intro h j d hj hd
      by_cases hneg : im[k] < 0
      · rw [lostP_yes hx hneg] at h; simp at h
      · rw [lostP_no hx hneg] at h
        by_cases hjk : j = k
        · subst hjk; rw [hx] at hd; obtain rfl := Option.some.inj hd; omega
        · exact (ih (by omega)).1 h j d (by omega) hd
    · intro h
      have := h k _ (by omega) hx
      rw [lostP_no hx (by omega)]
      exact (ih (by omega)).2 (fun j d hj hd => h j d (by omega) hd)
def numMR (ok : Bool) (im : List Int) : Int × Bool := if ok = true ∧ lostP im im.length = [] then (digN im, true) else (0, false)
theorem numMR_no {ok : Bool} {im : List Int} (h : ok = false) : numMR ok im = (0, false) := by rw [numMR, if_neg (by rw [h]; simp)]
theorem numMR_lost {ok : Bool} {im : List Int} (h : lostP im im.length ≠ []) : numMR ok im = (0, false) := by rw [numMR, if_neg (fun hh => h hh.2)]
theorem numMR_neg {ok : Bool} {im : List Int} {k : Nat} {d : Int} (h : im[k]? = some d) (hd : d < 0) : numMR ok im = (0, false) :=
  numMR_lost (fun hn => by
    have := (lostP_nil (Nat.le_refl _)).1 hn k d (List.getElem?_eq_some_iff.1 h).1 h
    omega)
theorem numMR_yes {ok : Bool} {im : List Int} (h : ok = true) (hl : ∀ (j : Nat) d, j < im.length → im[j]? = some d → 0 ≤ d) : numMR ok im = (digN im, true) := by rw [numMR, if_pos ⟨h, (lostP_nil (Nat.le_refl _)).2 hl⟩]

/-- For how long all stays. -/
def leastN (cl : List Int) : Nat → Int
  | 0 => 0
  | k + 1 => match cl[k]? with
    | some c => if 0 < c ∧ (leastN cl k = 0 ∨ c < leastN cl k) then c else leastN cl k
    | none => leastN cl k
theorem leastN_yes {cl : List Int} {k : Nat} {c m : Int} (hm : m = leastN cl k) (h : cl[k]? = some c) (hc : 0 < c) (h2 : m = 0 ∨ c < m) : c = leastN cl (k + 1) := by
  subst hm; simp only [leastN, h, if_pos (And.intro hc h2)]
theorem leastN_no {cl : List Int} {k : Nat} {c m : Int} (hm : m = leastN cl k) (h : cl[k]? = some c) (h2 : ¬ (0 < c ∧ (m = 0 ∨ c < m))) : m = leastN cl (k + 1) := by
  subst hm; simp only [leastN, h, if_neg h2]
def beatR (ok : Bool) (cl : List Int) : Int × Bool := if ok = true then (leastN cl cl.length, decide (0 < leastN cl cl.length)) else (0, false)
theorem beatR_yes {ok : Bool} {cl : List Int} {m : Int} (h : ok = true) (hm : m = leastN cl cl.length) : beatR ok cl = (m, decide (0 < m)) := by subst hm; rw [beatR, if_pos h]
theorem beatR_no {ok : Bool} {cl : List Int} (h : ok = false) : beatR ok cl = (0, false) := by rw [beatR, if_neg (by rw [h]; simp)]

/-- The text of an image. -/
def imgT (im : List Int) : Nat → List UInt8
  | 0 => []
  | k + 1 => match im[k]? with
    | some d => imgT im k ++ (if d < 0 then [63] else numL d.toNat)
    | none => imgT im k
theorem imgT_neg {im : List Int} {k : Nat} {d : Int} (h : im[k]? = some d) (hd : d < 0) : imgT im (k + 1) = imgT im k ++ [63] := by simp only [imgT, h, if_pos hd]
theorem imgT_pos {im : List Int} {k : Nat} {d : Int} (h : im[k]? = some d) (hd : ¬ d < 0) : imgT im (k + 1) = imgT im k ++ numL d.toNat := by simp only [imgT, h, if_neg hd]
theorem imgT_len {im : List Int} (h : ∀ (k : Nat) d, im[k]? = some d → d ≤ 1000000000000) : ∀ k, (imgT im k).length ≤ 14 * k
  | 0 => by simp [imgT]
  | k + 1 => by
    have ih := imgT_len h k
    cases hx : im[k]? with
    | none => simp only [imgT, hx]; omega
    | some d =>
      by_cases hd : d < 0
      · rw [imgT_neg hx hd, List.length_append]; simp; omega
      · rw [imgT_pos hx hd, List.length_append]
        have := numL_len (n := d.toNat) (by have := h k d hx; omega)
        omega
def mindT (ok : Bool) (xs : List IntA2) (im : List Int) : List UInt8 × Bool := if ok = true then (imgT im im.length ++ [32] ++ numL (numF xs).toNat, true) else ([], false)
theorem mindT_yes {ok : Bool} {xs : List IntA2} {im : List Int} (h : ok = true) : mindT ok xs im = (imgT im im.length ++ [32] ++ numL (numF xs).toNat, true) := by rw [mindT, if_pos h]
theorem mindT_no {ok : Bool} {xs : List IntA2} {im : List Int} (h : ok = false) : mindT ok xs im = ([], false) := by rw [mindT, if_neg (by rw [h]; simp)]
end Go.Proofs.Ytnnhkpecgchgiaa
