/- Adding and taking away on a standard frame: the plain functions. By an AI agent. -/
import Derived.Test.YtjhlhkglpecdbaaPa
set_option linter.unusedVariables false
namespace Go.Proofs.Ytjhlhkglpecdbaa
open Go Go.RowKit K

/-- The value of rod k. -/
def rvAt (xs : List IntA2) (k : Nat) : Int := match xs[k]? with | some r => rv r | none => 0
theorem rvAt_eq {xs : List IntA2} {k : Nat} {r : IntA2} (h : xs[k]? = some r) : rvAt xs k = 5 * r.a + r.b := by simp [rvAt, h, rv]
theorem rvAt_set {xs : List IntA2} {k j : Nat} (r : IntA2) (h : j ≠ k) : rvAt (xs.set j r) k = rvAt xs k := by unfold rvAt; rw [List.getElem?_set_ne h]
theorem rv_rodFor (d : Int) : rv (rodFor d) = d := by unfold rv rodFor; dsimp only; omega
theorem numF_fold (xs : List IntA2) : ∀ n : Int, xs.foldl (fun n r => 10 * n + rv r) n = n * p10 xs.length + numF xs := by
  induction xs with
  | nil => intro n; simp [numF, p10]
  | cons r t ih =>
    intro n
    unfold numF
    rw [List.foldl_cons, List.foldl_cons, ih, ih, List.length_cons, p10_succ, Int.add_mul, Int.add_mul, Int.mul_zero, Int.zero_mul, Int.zero_add, ← Int.add_assoc]
    rw [show 10 * n * p10 t.length = n * (10 * p10 t.length) by rw [← Int.mul_assoc, Int.mul_comm n 10]]
theorem numF_cons (r : IntA2) (t : List IntA2) : numF (r :: t) = rv r * p10 t.length + numF t := by
  have := numF_fold t (10 * 0 + rv r)
  unfold numF at *
  rw [List.foldl_cons, this]; simp
theorem numF_set : ∀ {xs : List IntA2} {p : Nat} {r : IntA2} (r' : IntA2), xs[p]? = some r → numF (xs.set p r') = numF xs + (rv r' - rv r) * p10 (xs.length - 1 - p)
  | [], p, r, r', h => by simp at h
  | x :: t, 0, r, r', h => by
    simp at h; subst h
    rw [List.set_cons_zero, numF_cons, numF_cons, List.length_cons, Nat.add_sub_cancel, Nat.sub_zero, Int.sub_mul]; omega
  | x :: t, p + 1, r, r', h => by
    have ih := numF_set (xs := t) (p := p) r' (by simpa using h)
    rw [List.set_cons_succ, numF_cons, numF_cons, List.length_set, ih, List.length_cons, show t.length + 1 - 1 - (p + 1) = t.length - 1 - p from by omega]; omega
theorem goodB_set {u l : Int} {xs : List IntA2} (h : goodB u l xs = true) (p : Nat) {d : Int} (hd : 0 ≤ d ∧ d ≤ 9) : goodB u l (xs.set p (rodFor d)) = true := by
  have hf := goodB_f h
  have hs := goodB_s h
  have hul := frameB_ul hf
  unfold goodB
  rw [Bool.and_eq_true]
  refine ⟨stdB_end fun k r hk hr => ?_, ?_⟩
  · rw [List.getElem?_set] at hr
    split at hr
    · split at hr
      · obtain rfl := Option.some.inj hr; unfold rodFor; dsimp only; omega
      · cases hr
    · exact stdB_at hs hr
  · rw [frameB_end fun k r hk hr => ?_, List.length_set]
    · unfold inB; simp only [Bool.and_eq_true, decide_eq_true_eq]; omega
    · rw [List.getElem?_set] at hr
      unfold rodB inB
      simp only [Bool.and_eq_true, decide_eq_true_eq]
      split at hr
      · split at hr
        · obtain rfl := Option.some.inj hr; unfold rodFor; dsimp only; omega
        · cases hr
      · have h1 := stdB_at hs hr
        have h2 := frameB_at hf hr
        omega
theorem good_at {u l : Int} {xs : List IntA2} (h : goodB u l xs = true) {p : Nat} {r : IntA2} (hr : xs[p]? = some r) : (0 ≤ r.a ∧ r.a ≤ 1) ∧ (0 ≤ r.b ∧ r.b ≤ 4) := by
  have h1 := stdB_at (goodB_s h) hr
  have h2 := frameB_at (goodB_f h) hr
  omega
theorem good_rv {u l : Int} {xs : List IntA2} (h : goodB u l xs = true) (p : Nat) : 0 ≤ rvAt xs p ∧ rvAt xs p ≤ 9 := by
  unfold rvAt
  split
  · rename_i r hr; have := good_at h hr; unfold rv; omega
  · omega
theorem rodFor_rv {r : IntA2} (h : (0 ≤ r.a ∧ r.a ≤ 1) ∧ (0 ≤ r.b ∧ r.b ≤ 4)) : rodFor (5 * r.a + r.b) = r := by
  obtain ⟨a, b⟩ := r
  dsimp only at h
  unfold rodFor
  dsimp only
  have h1 : (5 * a + b) / 5 = a := by omega
  have h2 : (5 * a + b) % 5 = b := by omega
  rw [h1, h2]

/-! ### Adding -/
/-- A digit is added to rod p - 1, what goes over to those at the left; how often it goes over. -/
def addS : Nat → List IntA2 → Int → List IntA2 × Nat
  | 0, xs, _ => (xs, 0)
  | p + 1, xs, d => if d ≤ 0 then (xs, 0) else
      ((addS p (xs.set p (rodFor ((rvAt xs p + d) % 10))) ((rvAt xs p + d) / 10)).1, (addS p (xs.set p (rodFor ((rvAt xs p + d) % 10))) ((rvAt xs p + d) / 10)).2 + if 0 < (rvAt xs p + d) / 10 then 1 else 0)
theorem addS_no (p : Nat) (xs : List IntA2) {d : Int} (h : d ≤ 0) : addS p xs d = (xs, 0) := by
  cases p with
  | zero => rfl
  | succ p => rw [addS, if_pos h]
theorem addS_yes {p : Nat} {xs : List IntA2} {d : Int} (h : 0 < d) : (addS (p + 1) xs d).1 = (addS p (xs.set p (rodFor ((rvAt xs p + d) % 10))) ((rvAt xs p + d) / 10)).1 ∧ (addS (p + 1) xs d).2 = (addS p (xs.set p (rodFor ((rvAt xs p + d) % 10))) ((rvAt xs p + d) / 10)).2 + if 0 < (rvAt xs p + d) / 10 then 1 else 0 := by
  rw [addS, if_neg (by omega)]; exact ⟨rfl, rfl⟩
/-- What the loop keeps: the number stays below what the rods can hold. -/
def addC (xs : List IntA2) (p : Nat) (d : Int) : Prop := 0 ≤ d ∧ d ≤ 9 ∧ p ≤ xs.length ∧ numF xs + d * p10 (xs.length - p) < p10 xs.length
theorem addC_zero {u l : Int} {xs : List IntA2} {d : Int} (hg : goodB u l xs = true) (h : addC xs 0 d) : d ≤ 0 := by
  obtain ⟨h0, _, _, h1⟩ := h
  have hn := (goodB_num hg).1
  have hp := p10_pos xs.length
  rw [Nat.sub_zero] at h1
  by_cases hd : d ≤ 0
  · exact hd
  · have := Int.mul_le_mul_of_nonneg_right (show (1 : Int) ≤ d by omega) (show (0 : Int) ≤ p10 xs.length by omega)
    omega
theorem add_step {u l : Int} {xs : List IntA2} {p : Nat} {d : Int} (hg : goodB u l xs = true) (h : addC xs (p + 1) d) :
    (0 ≤ (rvAt xs p + d) % 10 ∧ (rvAt xs p + d) % 10 ≤ 9) ∧ goodB u l (xs.set p (rodFor ((rvAt xs p + d) % 10))) = true ∧ addC (xs.set p (rodFor ((rvAt xs p + d) % 10))) p ((rvAt xs p + d) / 10)
      ∧ numF (xs.set p (rodFor ((rvAt xs p + d) % 10))) + (rvAt xs p + d) / 10 * p10 (xs.length - p) = numF xs + d * p10 (xs.length - (p + 1)) := by
  obtain ⟨h0, h9, hp, hn⟩ := h
  have hr := good_rv hg p
  have hx := getLt (show p < xs.length by omega)
  have hrx : rvAt xs p = rv xs[p] := by unfold rvAt; rw [hx]
  have hs := numF_set (rodFor ((rvAt xs p + d) % 10)) hx
  rw [rv_rodFor, ← hrx] at hs
  have hP : p10 (xs.length - p) = 10 * p10 (xs.length - (p + 1)) := by rw [← p10_succ, show xs.length - (p + 1) + 1 = xs.length - p from by omega]
  have key : numF (xs.set p (rodFor ((rvAt xs p + d) % 10))) + (rvAt xs p + d) / 10 * p10 (xs.length - p) = numF xs + d * p10 (xs.length - (p + 1)) := by
    rw [hs, hP, show xs.length - 1 - p = xs.length - (p + 1) from by omega, ← Int.mul_assoc, Int.add_assoc, ← Int.add_mul]
    rw [show (rvAt xs p + d) % 10 - rvAt xs p + (rvAt xs p + d) / 10 * 10 = d from by omega]
  refine ⟨by omega, goodB_set hg p (by omega), ⟨by omega, by omega, by rw [List.length_set]; omega, ?_⟩, key⟩
  rw [List.length_set, key]; exact hn
theorem addS_good {u l : Int} : ∀ {p : Nat} {xs : List IntA2} {d : Int}, goodB u l xs = true → addC xs p d → goodB u l (addS p xs d).1 = true ∧ (addS p xs d).1.length = xs.length ∧ numF (addS p xs d).1 = numF xs + d * p10 (xs.length - p) ∧ (addS p xs d).2 ≤ p
  | 0, xs, d, hg, h => by
    have hd := addC_zero hg h
    have hd0 : d = 0 := by have := h.1; omega
    subst hd0
    exact ⟨hg, rfl, by rw [Int.zero_mul, Int.add_zero]; rfl, Nat.le_refl 0⟩
  | p + 1, xs, d, hg, h => by
    by_cases hd : d ≤ 0
    · rw [addS_no _ _ hd]
      have hd0 : d = 0 := by have := h.1; omega
      subst hd0
      exact ⟨hg, rfl, by rw [Int.zero_mul, Int.add_zero], Nat.zero_le _⟩
    · obtain ⟨_, h1, h2, h3⟩ := add_step hg h
      obtain ⟨e1, e2⟩ := addS_yes (p := p) (xs := xs) (show 0 < d by omega)
      have ih := addS_good h1 h2
      rw [e1, e2]
      refine ⟨ih.1, by rw [ih.2.1, List.length_set], by rw [ih.2.2.1, List.length_set, h3], ?_⟩
      have := ih.2.2.2
      split <;> omega

/-! ### Taking away -/
def takeS : Nat → List IntA2 → Int → List IntA2 × Nat
  | 0, xs, _ => (xs, 0)
  | p + 1, xs, d => if d ≤ 0 then (xs, 0) else if 0 ≤ rvAt xs p - d then (xs.set p (rodFor (rvAt xs p - d)), 0) else
      ((takeS p (xs.set p (rodFor (rvAt xs p - d + 10))) 1).1, (takeS p (xs.set p (rodFor (rvAt xs p - d + 10))) 1).2 + 1)
theorem takeS_no (p : Nat) (xs : List IntA2) {d : Int} (h : d ≤ 0) : takeS p xs d = (xs, 0) := by
  cases p with
  | zero => rfl
  | succ p => rw [takeS, if_pos h]
theorem takeS_fit {p : Nat} {xs : List IntA2} {d : Int} (h : 0 < d) (hv : 0 ≤ rvAt xs p - d) : takeS (p + 1) xs d = (xs.set p (rodFor (rvAt xs p - d)), 0) := by rw [takeS, if_neg (by omega), if_pos hv]
theorem takeS_bor {p : Nat} {xs : List IntA2} {d : Int} (h : 0 < d) (hv : rvAt xs p - d < 0) : (takeS (p + 1) xs d).1 = (takeS p (xs.set p (rodFor (rvAt xs p - d + 10))) 1).1 ∧ (takeS (p + 1) xs d).2 = (takeS p (xs.set p (rodFor (rvAt xs p - d + 10))) 1).2 + 1 := by
  rw [takeS, if_neg (by omega), if_neg (by omega)]; exact ⟨rfl, rfl⟩
def takeC (xs : List IntA2) (p : Nat) (d : Int) : Prop := 0 ≤ d ∧ d ≤ 9 ∧ p ≤ xs.length ∧ d * p10 (xs.length - p) ≤ numF xs
theorem takeC_zero {u l : Int} {xs : List IntA2} {d : Int} (hg : goodB u l xs = true) (h : takeC xs 0 d) : d ≤ 0 := by
  obtain ⟨h0, _, _, h1⟩ := h
  have hn := goodB_num hg
  have hp := p10_pos xs.length
  rw [Nat.sub_zero] at h1
  by_cases hd : d ≤ 0
  · exact hd
  · have := Int.mul_le_mul_of_nonneg_right (show (1 : Int) ≤ d by omega) (show (0 : Int) ≤ p10 xs.length by omega)
    omega
theorem take_fit {u l : Int} {xs : List IntA2} {p : Nat} {d : Int} (hg : goodB u l xs = true) (h : takeC xs (p + 1) d) (hd : 0 < d) (hv : 0 ≤ rvAt xs p - d) :
    goodB u l (xs.set p (rodFor (rvAt xs p - d))) = true ∧ numF (xs.set p (rodFor (rvAt xs p - d))) = numF xs - d * p10 (xs.length - (p + 1)) := by
  obtain ⟨h0, h9, hp, hn⟩ := h
  have hr := good_rv hg p
  have hx := getLt (show p < xs.length by omega)
  have hrx : rvAt xs p = rv xs[p] := by unfold rvAt; rw [hx]
  have hs := numF_set (rodFor (rvAt xs p - d)) hx
  rw [rv_rodFor, ← hrx] at hs
  refine ⟨goodB_set hg p (by omega), ?_⟩
  rw [hs, show xs.length - 1 - p = xs.length - (p + 1) from by omega, show rvAt xs p - d - rvAt xs p = -d from by omega, Int.neg_mul]; omega
theorem take_bor {u l : Int} {xs : List IntA2} {p : Nat} {d : Int} (hg : goodB u l xs = true) (h : takeC xs (p + 1) d) (hd : 0 < d) (hv : rvAt xs p - d < 0) :
    (0 ≤ rvAt xs p - d + 10 ∧ rvAt xs p - d + 10 ≤ 9) ∧ goodB u l (xs.set p (rodFor (rvAt xs p - d + 10))) = true ∧ takeC (xs.set p (rodFor (rvAt xs p - d + 10))) p 1
      ∧ numF (xs.set p (rodFor (rvAt xs p - d + 10))) - 1 * p10 (xs.length - p) = numF xs - d * p10 (xs.length - (p + 1)) := by
  obtain ⟨h0, h9, hp, hn⟩ := h
  have hr := good_rv hg p
  have hx := getLt (show p < xs.length by omega)
  have hrx : rvAt xs p = rv xs[p] := by unfold rvAt; rw [hx]
  have hs := numF_set (rodFor (rvAt xs p - d + 10)) hx
  rw [rv_rodFor, ← hrx] at hs
  have hP : p10 (xs.length - p) = 10 * p10 (xs.length - (p + 1)) := by rw [← p10_succ, show xs.length - (p + 1) + 1 = xs.length - p from by omega]
  have key : numF (xs.set p (rodFor (rvAt xs p - d + 10))) - 1 * p10 (xs.length - p) = numF xs - d * p10 (xs.length - (p + 1)) := by
    rw [hs, hP, show xs.length - 1 - p = xs.length - (p + 1) from by omega, show rvAt xs p - d + 10 - rvAt xs p = 10 - d from by omega, Int.sub_mul]; omega
  refine ⟨by omega, goodB_set hg p (by omega), ⟨by omega, by omega, by rw [List.length_set]; omega, ?_⟩, key⟩
  rw [List.length_set]; omega
theorem takeS_good {u l : Int} : ∀ {p : Nat} {xs : List IntA2} {d : Int}, goodB u l xs = true → takeC xs p d → goodB u l (takeS p xs d).1 = true ∧ (takeS p xs d).1.length = xs.length ∧ numF (takeS p xs d).1 = numF xs - d * p10 (xs.length - p) ∧ (takeS p xs d).2 ≤ p
  | 0, xs, d, hg, h => by
    have hd := takeC_zero hg h
    have hd0 : d = 0 := by have := h.1; omega
    subst hd0
    exact ⟨hg, rfl, by rw [Int.zero_mul, Int.sub_zero]; rfl, Nat.le_refl 0⟩
  | p + 1, xs, d, hg, h => by
    by_cases hd : d ≤ 0
    · rw [takeS_no _ _ hd]
      have hd0 : d = 0 := by have := h.1; omega
      subst hd0
      exact ⟨hg, rfl, by rw [Int.zero_mul, Int.sub_zero], Nat.zero_le _⟩
    · by_cases hv : 0 ≤ rvAt xs p - d
      · obtain ⟨h1, h2⟩ := take_fit hg h (by omega) hv
        rw [takeS_fit (by omega) hv]
        exact ⟨h1, List.length_set, h2, Nat.zero_le _⟩
      · obtain ⟨_, h1, h2, h3⟩ := take_bor hg h (by omega) (by omega)
        obtain ⟨e1, e2⟩ := takeS_bor (p := p) (xs := xs) (show 0 < d by omega) (by omega)
        have ih := takeS_good h1 h2
        rw [e1, e2]
        exact ⟨ih.1, by rw [ih.2.1, List.length_set], by rw [ih.2.2.1, List.length_set, h3], by have := ih.2.2.2; omega⟩

/-! ### A whole number -/
def dg (n : Int) (len k : Nat) : Int := n / p10 (len - 1 - k) % 10
theorem dg_bd (n : Int) (len k : Nat) : 0 ≤ dg n len k ∧ dg n len k ≤ 9 := by unfold dg; omega
def digL (n : Int) (len : Nat) : List Int := (List.range len).map (dg n len)
theorem digL_len (n : Int) (len : Nat) : (digL n len).length = len := by simp [digL]
theorem digL_get {n : Int} {len k : Nat} (h : k < len) : (digL n len)[k]? = some (dg n len k) := by simp [digL, h]
def addN (xs : List IntA2) (n : Int) : Nat → List IntA2 × Nat
  | 0 => (xs, 0)
  | k + 1 => ((addS (k + 1) (addN xs n k).1 (dg n xs.length k)).1, (addN xs n k).2 + (addS (k + 1) (addN xs n k).1 (dg n xs.length k)).2)
def takeN (xs : List IntA2) (n : Int) : Nat → List IntA2 × Nat
  | 0 => (xs, 0)
  | k + 1 => ((takeS (k + 1) (takeN xs n k).1 (dg n xs.length k)).1, (takeN xs n k).2 + (takeS (k + 1) (takeN xs n k).1 (dg n xs.length k)).2)
theorem dg_step (n : Int) {len k : Nat} (hk : k < len) : n / p10 (len - k) * p10 (len - k) + dg n len k * p10 (len - (k + 1)) = n / p10 (len - (k + 1)) * p10 (len - (k + 1)) := by
  have e : len - k = len - (k + 1) + 1 := by omega
  have h1 := div_p10 n (len - (k + 1))
  unfold dg
  rw [show len - 1 - k = len - (k + 1) from by omega, e, ← h1, p10_succ, ← Int.mul_assoc, ← Int.add_mul]
  rw [show n / p10 (len - (k + 1)) / 10 * 10 + n / p10 (len - (k + 1)) % 10 = n / p10 (len - (k + 1)) from by omega]
theorem part_le {n : Int} (hn : 0 ≤ n) (k : Nat) : n / p10 k * p10 k ≤ n := Int.ediv_mul_le _ (by have := p10_pos k; omega)
theorem addN_good {u l : Int} {xs : List IntA2} {n : Int} (hg : goodB u l xs = true) (hn : 0 ≤ n) (hlt : numF xs + n < p10 xs.length) : ∀ k, k ≤ xs.length →
    goodB u l (addN xs n k).1 = true ∧ (addN xs n k).1.length = xs.length ∧ numF (addN xs n k).1 = numF xs + n / p10 (xs.length - k) * p10 (xs.length - k) ∧ (addN xs n k).2 ≤ 8 * k
  | 0, _ => by
    have h0 := (goodB_num hg).1
    refine ⟨hg, rfl, ?_, Nat.zero_le _⟩
    rw [Nat.sub_zero, Int.ediv_eq_zero_of_lt hn (by omega), Int.zero_mul, Int.add_zero]; rfl
  | k + 1, hk => by
    obtain ⟨h1, h2, h3, h4⟩ := addN_good hg hn hlt k (by omega)
    have h8 := (frameB_ul (goodB_f hg)).2.2.2
    have hd := dg_step n (show k < xs.length by omega)
    have hb := dg_bd n xs.length k
    have hp := part_le hn (xs.length - (k + 1))
    have hc : addC (addN xs n k).1 (k + 1) (dg n xs.length k) := ⟨hb.1, hb.2, by omega, by rw [h2, h3]; omega⟩
    obtain ⟨q1, q2, q3, q4⟩ := addS_good h1 hc
    refine ⟨q1, by rw [addN, q2, h2], ?_, by rw [addN]; omega⟩
    rw [addN, q3, h2, h3]; omega
theorem addN_C {u l : Int} {xs : List IntA2} {n : Int} (hg : goodB u l xs = true) (hn : 0 ≤ n) (hlt : numF xs + n < p10 xs.length) {k : Nat} (hk : k < xs.length) : addC (addN xs n k).1 (k + 1) (dg n xs.length k) := by
  obtain ⟨h1, h2, h3, h4⟩ := addN_good hg hn hlt k (by omega)
  have hd := dg_step n hk
  have hb := dg_bd n xs.length k
  have hp := part_le hn (xs.length - (k + 1))
  exact ⟨hb.1, hb.2, by omega, by rw [h2, h3]; omega⟩
theorem takeN_good {u l : Int} {xs : List IntA2} {n : Int} (hg : goodB u l xs = true) (hn : 0 ≤ n) (hle : n ≤ numF xs) : ∀ k, k ≤ xs.length →
    goodB u l (takeN xs n k).1 = true ∧ (takeN xs n k).1.length = xs.length ∧ numF (takeN xs n k).1 = numF xs - n / p10 (xs.length - k) * p10 (xs.length - k) ∧ (takeN xs n k).2 ≤ 8 * k
  | 0, _ => by
    have h0 := goodB_num hg
    refine ⟨hg, rfl, ?_, Nat.zero_le _⟩
    rw [Nat.sub_zero, Int.ediv_eq_zero_of_lt hn (by omega), Int.zero_mul, Int.sub_zero]; rfl
  | k + 1, hk => by
    obtain ⟨h1, h2, h3, h4⟩ := takeN_good hg hn hle k (by omega)
    have h8 := (frameB_ul (goodB_f hg)).2.2.2
    have hd := dg_step n (show k < xs.length by omega)
    have hb := dg_bd n xs.length k
    have hp := part_le hn (xs.length - (k + 1))
    have hc : takeC (takeN xs n k).1 (k + 1) (dg n xs.length k) := ⟨hb.1, hb.2, by omega, by rw [h2, h3]; omega⟩
    obtain ⟨q1, q2, q3, q4⟩ := takeS_good h1 hc
    refine ⟨q1, by rw [takeN, q2, h2], ?_, by rw [takeN]; omega⟩
    rw [takeN, q3, h2, h3]; omega
theorem takeN_C {u l : Int} {xs : List IntA2} {n : Int} (hg : goodB u l xs = true) (hn : 0 ≤ n) (hle : n ≤ numF xs) {k : Nat} (hk : k < xs.length) : takeC (takeN xs n k).1 (k + 1) (dg n xs.length k) := by
  obtain ⟨h1, h2, h3, h4⟩ := takeN_good hg hn hle k (by omega)
  have hd := dg_step n hk
  have hb := dg_bd n xs.length k
  have hp := part_le hn (xs.length - (k + 1))
  exact ⟨hb.1, hb.2, by omega, by rw [h2, h3]; omega⟩

/-! ### How often it goes over, counted before it is done -/
def cntK (xs : List IntA2) : Nat → Int → Nat
  | 0, _ => 0
  | k + 1, d => if 9 < rvAt xs (k + 1) + d then cntK xs k 1 + 1 else 0
theorem cntK_yes {xs : List IntA2} {k : Nat} {d : Int} (h : 9 < rvAt xs (k + 1) + d) : cntK xs (k + 1) d = cntK xs k 1 + 1 := by rw [cntK, if_pos h]
theorem cntK_no {xs : List IntA2} {k : Nat} {d : Int} (h : ¬ 9 < rvAt xs (k + 1) + d) : cntK xs (k + 1) d = 0 := by rw [cntK, if_neg h]
theorem cntK_le (xs : List IntA2) : ∀ (k : Nat) (d : Int), cntK xs k d ≤ k
  | 0, _ => Nat.le_refl _
  | k + 1, d => by
    have := cntK_le xs k 1
    rw [cntK]; split <;> omega
theorem cntK_set {xs : List IntA2} {j : Nat} (r : IntA2) : ∀ (k : Nat) (d : Int), k < j → cntK (xs.set j r) k d = cntK xs k d
  | 0, _, _ => rfl
  | k + 1, d, h => by rw [cntK, cntK, rvAt_set r (by omega), cntK_set r k 1 (by omega)]
theorem cntK_add {u l : Int} : ∀ {k : Nat} {xs : List IntA2} {d : Int}, goodB u l xs = true → addC xs (k + 1) d → cntK xs k d = (addS (k + 1) xs d).2
  | k, xs, d, hg, h => by
    by_cases hd : d ≤ 0
    · rw [addS_no _ _ hd]
      cases k with
      | zero => rfl
      | succ k => exact cntK_no (by have := good_rv hg (k + 1); omega)
    · obtain ⟨_, h1, h2, _⟩ := add_step hg h
      obtain ⟨_, e2⟩ := addS_yes (p := k) (xs := xs) (show 0 < d by omega)
      have hr := good_rv hg k
      have h9 := h.2.1
      rw [e2]
      cases k with
      | zero =>
        have h3 := addC_zero h1 h2
        rw [addS_no _ _ h3, if_neg (by omega)]; rfl
      | succ k =>
        by_cases hv : 9 < rvAt xs (k + 1) + d
        · have hq : (rvAt xs (k + 1) + d) / 10 = 1 := by omega
          rw [hq] at h2 ⊢
          rw [cntK_yes hv, ← cntK_add h1 h2, cntK_set _ _ _ (by omega)]; simp
        · have hq : (rvAt xs (k + 1) + d) / 10 = 0 := by omega
          rw [cntK_no hv, hq, addS_no _ _ (Int.le_refl 0)]; simp
/-- A digit is stored, from the right. -/
theorem dig_step {n : Int} {len q : Nat} (hq : q < len) :
    (ints (downL (List.replicate len (0 : Int)) (digL n len) (q + 1))).take (0 + q * 1) ++ [Value.int .i64 (n / p10 (len - (q + 1)) % 10)] ++ (ints (downL (List.replicate len (0 : Int)) (digL n len) (q + 1))).drop (0 + q * 1 + 1) = ints (downL (List.replicate len (0 : Int)) (digL n len) q) := by
  have hl : (digL n len).length = (List.replicate len (0 : Int)).length := by rw [digL_len]; simp
  rw [intsSet _ (by rw [downL_len hl]; simpa using hq)]
  rw [downL_set hl (by simpa using hq) (by rw [digL_get hq, dg, show len - 1 - q = len - (q + 1) from by omega])]
theorem dig_all (n : Int) (len : Nat) : (List.replicate len [Value.int .i64 0]).flatten = ints (downL (List.replicate len (0 : Int)) (digL n len) len) := by
  have hl : (digL n len).length = (List.replicate len (0 : Int)).length := by rw [digL_len]; simp
  have := downL_all hl
  rw [List.length_replicate] at this
  rw [this, rep_ints]

/-! ### When it can be done -/
def addNB (u l : Int) (xs : List IntA2) (n : Int) : Bool := goodB u l xs && inB n 0 (p10 xs.length - 1) && decide (numF xs + n < p10 xs.length)
theorem addNB_ok {u l : Int} {xs : List IntA2} {n : Int} (h : addNB u l xs n = true) : goodB u l xs = true ∧ (0 ≤ n ∧ n ≤ p10 xs.length - 1) ∧ numF xs + n < p10 xs.length := by
  unfold addNB inB at h
  simp only [Bool.and_eq_true, decide_eq_true_eq] at h
  exact ⟨h.1.1, h.1.2, h.2⟩
theorem addNB_can {u l : Int} {xs : List IntA2} {n : Int} (hg : goodB u l xs = true) : addNB u l xs n = (inB n 0 (p10 xs.length - 1) && inB (numF xs + n) 0 (p10 xs.length - 1)) := by
  have h0 := goodB_num hg
  unfold addNB inB
  rw [hg, Bool.true_and]
  by_cases h1 : 0 ≤ n <;> by_cases h2 : n ≤ p10 xs.length - 1 <;> by_cases h3 : numF xs + n < p10 xs.length <;> simp [h1, h2, h3] <;> omega
theorem addNB_bad {u l : Int} {xs : List IntA2} {n : Int} (hg : goodB u l xs = false) : addNB u l xs n = false := by unfold addNB; rw [hg]; simp
/-- The place of a digit. -/
def plc (xs : List IntA2) (rod d : Int) : Int := d * p10 (xs.length - 1 - rod.toNat)
theorem plc_bd {xs : List IntA2} {rod d : Int} (h8 : xs.length ≤ 8) (hd : 0 ≤ d ∧ d ≤ 9) : 0 ≤ plc xs rod d ∧ plc xs rod d ≤ 900000000 := by
  have hp := p10_bd (k := xs.length - 1 - rod.toNat) (by omega)
  unfold plc
  refine ⟨Int.mul_nonneg hd.1 (by omega), ?_⟩
  have := Int.mul_le_mul hd.2 hp.2 (by omega) (by omega)
  omega
def addDB (u l : Int) (xs : List IntA2) (rod d : Int) : Bool := goodB u l xs && inB rod 0 ((xs.length : Int) - 1) && inB d 0 9 && decide (numF xs + plc xs rod d < p10 xs.length)
theorem addDB_ok {u l : Int} {xs : List IntA2} {rod d : Int} (h : addDB u l xs rod d = true) : goodB u l xs = true ∧ (0 ≤ rod ∧ rod < xs.length) ∧ (0 ≤ d ∧ d ≤ 9) ∧ addC xs (rod.toNat + 1) d := by
  unfold addDB inB at h
  simp only [Bool.and_eq_true, decide_eq_true_eq] at h
  obtain ⟨⟨⟨h1, h2⟩, h3⟩, h4⟩ := h
  refine ⟨h1, by omega, h3, h3.1, h3.2, by omega, ?_⟩
  unfold plc at h4
  rw [show xs.length - (rod.toNat + 1) = xs.length - 1 - rod.toNat from by omega]; exact h4
theorem addDB_can {u l : Int} {xs : List IntA2} {rod d : Int} (hg : goodB u l xs = true) (hr : inB rod 0 ((xs.length : Int) - 1) = true) (hd : inB d 0 9 = true) : addDB u l xs rod d = (inB (plc xs rod d) 0 (p10 xs.length - 1) && inB (numF xs + plc xs rod d) 0 (p10 xs.length - 1)) := by
  have h0 := goodB_num hg
  have h8 := (frameB_ul (goodB_f hg)).2.2.2
  have hd2 := hd
  unfold inB at hd2
  simp only [Bool.and_eq_true, decide_eq_true_eq] at hd2
  have hp := plc_bd (rod := rod) h8 hd2
  unfold addDB
  rw [hg, hr, hd, Bool.true_and, Bool.true_and, Bool.true_and]
  unfold inB
  by_cases h3 : numF xs + plc xs rod d < p10 xs.length
  · simp only [h3, decide_true]; symm; simp only [Bool.and_eq_true, decide_eq_true_eq]; omega
  · simp only [h3, decide_false]; symm
    rw [decide_eq_false (show ¬ numF xs + plc xs rod d ≤ p10 xs.length - 1 by omega)]; simp
theorem addDB_bad {u l : Int} {xs : List IntA2} {rod d : Int} (h : goodB u l xs = false ∨ inB rod 0 ((xs.length : Int) - 1) = false ∨ inB d 0 9 = false) : addDB u l xs rod d = false := by
  unfold addDB
  rcases h with h | h | h <;> rw [h] <;> simp
def takeNB (u l : Int) (xs : List IntA2) (n : Int) : Bool := goodB u l xs && inB n 0 (numF xs)
theorem takeNB_ok {u l : Int} {xs : List IntA2} {n : Int} (h : takeNB u l xs n = true) : goodB u l xs = true ∧ (0 ≤ n ∧ n ≤ numF xs) := by
  unfold takeNB inB at h
  simp only [Bool.and_eq_true, decide_eq_true_eq] at h
  exact h
theorem takeNB_can {u l : Int} {xs : List IntA2} {n : Int} (hg : goodB u l xs = true) : takeNB u l xs n = inB n 0 (numF xs) := by unfold takeNB; rw [hg, Bool.true_and]
theorem takeNB_bad {u l : Int} {xs : List IntA2} {n : Int} (hg : goodB u l xs = false) : takeNB u l xs n = false := by unfold takeNB; rw [hg]; simp
def takeDB (u l : Int) (xs : List IntA2) (rod d : Int) : Bool := goodB u l xs && inB rod 0 ((xs.length : Int) - 1) && inB d 0 9 && decide (plc xs rod d ≤ numF xs)
theorem takeDB_ok {u l : Int} {xs : List IntA2} {rod d : Int} (h : takeDB u l xs rod d = true) : goodB u l xs = true ∧ (0 ≤ rod ∧ rod < xs.length) ∧ (0 ≤ d ∧ d ≤ 9) ∧ takeC xs (rod.toNat + 1) d := by
  unfold takeDB inB at h
  simp only [Bool.and_eq_true, decide_eq_true_eq] at h
  obtain ⟨⟨⟨h1, h2⟩, h3⟩, h4⟩ := h
  refine ⟨h1, by omega, h3, h3.1, h3.2, by omega, ?_⟩
  unfold plc at h4
  rw [show xs.length - (rod.toNat + 1) = xs.length - 1 - rod.toNat from by omega]; exact h4
theorem takeDB_can {u l : Int} {xs : List IntA2} {rod d : Int} (hg : goodB u l xs = true) (hr : inB rod 0 ((xs.length : Int) - 1) = true) (hd : inB d 0 9 = true) : takeDB u l xs rod d = inB (plc xs rod d) 0 (numF xs) := by
  have h8 := (frameB_ul (goodB_f hg)).2.2.2
  have hd2 := hd
  unfold inB at hd2
  simp only [Bool.and_eq_true, decide_eq_true_eq] at hd2
  have hp := plc_bd (rod := rod) h8 hd2
  unfold takeDB
  rw [hg, hr, hd, Bool.true_and, Bool.true_and, Bool.true_and]
  unfold inB
  rw [decide_eq_true hp.1, Bool.true_and]
theorem takeDB_bad {u l : Int} {xs : List IntA2} {rod d : Int} (h : goodB u l xs = false ∨ inB rod 0 ((xs.length : Int) - 1) = false ∨ inB d 0 9 = false) : takeDB u l xs rod d = false := by
  unfold takeDB
  rcases h with h | h | h <;> rw [h] <;> simp
theorem addN_len {u l : Int} {xs : List IntA2} {n : Int} (h : addNB u l xs n = true) : (addN xs n xs.length).1.length = xs.length := by
  obtain ⟨hg, hn, hlt⟩ := addNB_ok h
  exact (addN_good hg hn.1 hlt _ (Nat.le_refl _)).2.1
theorem takeN_len {u l : Int} {xs : List IntA2} {n : Int} (h : takeNB u l xs n = true) : (takeN xs n xs.length).1.length = xs.length := by
  obtain ⟨hg, hn⟩ := takeNB_ok h
  exact (takeN_good hg hn.1 hn.2 _ (Nat.le_refl _)).2.1
theorem addD_len {u l : Int} {xs : List IntA2} {rod d : Int} (h : addDB u l xs rod d = true) : (addS (rod.toNat + 1) xs d).1.length = xs.length := by
  obtain ⟨hg, _, _, hc⟩ := addDB_ok h
  exact (addS_good hg hc).2.1
theorem takeD_len {u l : Int} {xs : List IntA2} {rod d : Int} (h : takeDB u l xs rod d = true) : (takeS (rod.toNat + 1) xs d).1.length = xs.length := by
  obtain ⟨hg, _, _, hc⟩ := takeDB_ok h
  exact (takeS_good hg hc).2.1

/-! ### The digits of the number that a standard frame shows -/
theorem numF_split (xs : List IntA2) (j : Nat) (hj : j ≤ xs.length) : numF xs = numF (xs.take j) * p10 (xs.length - j) + numF (xs.drop j) := by
  have h := numF_fold (xs.drop j) (numF (xs.take j))
  have h2 : (xs.drop j).foldl (fun n r => 10 * n + rv r) (numF (xs.take j)) = numF xs := by
    conv => rhs; rw [numF, ← List.take_append_drop j xs, List.foldl_append]
    rfl
  rw [h2, List.length_drop] at h; exact h
theorem numF_drop {u l : Int} {xs : List IntA2} (hg : goodB u l xs = true) : ∀ d j, d + j = xs.length → 0 ≤ numF (xs.drop j) ∧ numF (xs.drop j) < p10 d
  | 0, j, h => by rw [List.drop_eq_nil_of_le (by omega)]; simp [numF, p10]
  | d + 1, j, h => by
    have ih := numF_drop hg d (j + 1) (by omega)
    have hx := getLt (show j < xs.length by omega)
    have hb := good_at hg hx
    rw [List.drop_eq_getElem_cons (by omega), numF_cons, List.length_drop, show xs.length - (j + 1) = d from by omega, p10_succ]
    have hp := p10_pos d
    have h0 : 0 ≤ rv xs[j] ∧ rv xs[j] ≤ 9 := by unfold rv; omega
    have h1 := Int.mul_nonneg h0.1 (show 0 ≤ p10 d by omega)
    have h2 := Int.mul_le_mul_of_nonneg_right h0.2 (show 0 ≤ p10 d by omega)
    omega
theorem dg_num {u l : Int} {xs : List IntA2} (hg : goodB u l xs = true) {k : Nat} (hk : k < xs.length) : dg (numF xs) xs.length k = rvAt xs k := by
  have hx := getLt hk
  have hb := good_at hg hx
  have hd := numF_drop hg (xs.length - (k + 1)) (k + 1) (by omega)
  have hs := numF_split xs (k + 1) (by omega)
  have hn := numF_snoc hx
  have hp := p10_pos (xs.length - (k + 1))
  have hq : numF xs / p10 (xs.length - (k + 1)) = numF (xs.take (k + 1)) := by
    rw [hs, Int.add_comm, Int.add_mul_ediv_right _ _ (by omega), Int.ediv_eq_zero_of_lt hd.1 hd.2, Int.zero_add]
  unfold dg
  rw [show xs.length - 1 - k = xs.length - (k + 1) from by omega, hq, hn, rvAt_eq hx]
  omega
theorem digL_num {u l : Int} {xs : List IntA2} (hg : goodB u l xs = true) {k : Nat} (hk : k < xs.length) : (digL (numF xs) xs.length)[k]? = some (rvAt xs k) := by rw [digL_get hk, dg_num hg hk]
/-- Rods that are remembered wrongly. -/
def wrgP (im : List Int) (xs : List IntA2) : Nat → List Int
  | 0 => []
  | k + 1 => match im[k]? with
    | some d => if 0 ≤ d ∧ d ≠ rvAt xs k then wrgP im xs k ++ [(k : Int)] else wrgP im xs k
    | none => wrgP im xs k
theorem wrgP_yes {im : List Int} {xs : List IntA2} {k : Nat} {d : Int} (h : im[k]? = some d) (h1 : 0 ≤ d) (h2 : d ≠ rvAt xs k) : wrgP im xs (k + 1) = wrgP im xs k ++ [(k : Int)] := by simp only [wrgP, h, if_pos (And.intro h1 h2)]
theorem wrgP_no {im : List Int} {xs : List IntA2} {k : Nat} {d : Int} (h : im[k]? = some d) (h1 : d < 0 ∨ d = rvAt xs k) : wrgP im xs (k + 1) = wrgP im xs k := by
  have hn : ¬ (0 ≤ d ∧ d ≠ rvAt xs k) := by omega
  simp only [wrgP, h, if_neg hn]
theorem wrgP_len (im : List Int) (xs : List IntA2) : ∀ k, (wrgP im xs k).length ≤ k
  | 0 => Nat.le_refl _
  | k + 1 => by
    have ih := wrgP_len im xs k
    simp only [wrgP]
    split
    · split
      · simp; omega
      · omega
    · omega
def wrgR (b : Bool) (im : List Int) (xs : List IntA2) : List Int := if b = true then wrgP im xs im.length else []
theorem wrgR_yes {b : Bool} {im : List Int} {xs : List IntA2} (h : b = true) : wrgR b im xs = wrgP im xs im.length := by rw [wrgR, if_pos h]
theorem wrgR_no {b : Bool} {im : List Int} {xs : List IntA2} (h : b = false) : wrgR b im xs = [] := by rw [wrgR, if_neg (by rw [h]; simp)]
theorem wrgR_len (b : Bool) (im : List Int) (xs : List IntA2) : (wrgR b im xs).length ≤ im.length := by
  unfold wrgR
  split
  · exact wrgP_len im xs _
  · simp

/-! ### The number on a frame that shows a number -/
theorem numF_show {N : Int} {n : Nat} (h0 : 0 ≤ N) (h1 : N < p10 n) : numF (showL N n) = N := by
  have key : ∀ k, k ≤ n → numF ((showL N n).take k) = N / p10 (n - k) := by
    intro k
    induction k with
    | zero => intro _; rw [Nat.sub_zero, Int.ediv_eq_zero_of_lt h0 h1]; simp [numF]
    | succ k ih =>
      intro hk
      have hg := showL_get (n := N) (k := n) (i := k) (by omega)
      have hd := div_p10 N (n - (k + 1))
      rw [show n - (k + 1) + 1 = n - k from by omega] at hd
      rw [numF_snoc hg, ih (by omega), ← hd, show n - 1 - k = n - (k + 1) from by omega]
      have hr := rv_rodFor (N / p10 (n - (k + 1)) % 10)
      unfold rv at hr
      omega
  have := key n (Nat.le_refl _)
  rw [List.take_of_length_le (by rw [showL_len]; exact Nat.le_refl _), Nat.sub_self, show p10 0 = 1 from rfl, Int.ediv_one] at this
  exact this
theorem showL_frame {u l N : Int} {n : Nat} (hu : 1 ≤ u ∧ u ≤ 2) (hl : 4 ≤ l ∧ l ≤ 5) (hn : 1 ≤ n ∧ n ≤ 8) : frameB u l (showL N n) = true := by
  rw [frameB_end fun k r hk hr => ?_, showL_len]
  · unfold inB; simp only [Bool.and_eq_true, decide_eq_true_eq]; omega
  · rw [showL_len] at hk
    rw [showL_get hk] at hr
    obtain rfl := Option.some.inj hr
    unfold rodB inB rodFor
    simp only [Bool.and_eq_true, decide_eq_true_eq]
    omega
/-- What is told of the multiple below. -/
theorem below_facts {u l : Int} {xs : List IntA2} {n : Int} (hg : goodB u l xs = true) (hn : 1 ≤ n) : numF (showL (numF xs / n * n) xs.length) = numF xs / n * n ∧ frameB u l (showL (numF xs / n * n) xs.length) = true ∧ (0 ≤ numF xs / n * n ∧ numF xs / n * n ≤ numF xs) ∧ numF xs - numF xs / n * n < n ∧ numF xs / n * n % n = 0 := by
  have h0 := goodB_num hg
  have hul := frameB_ul (goodB_f hg)
  have hd : 0 ≤ numF xs / n := Int.ediv_nonneg h0.1 (by omega)
  have hm := Int.emod_add_mul_ediv (numF xs) n
  have hm0 := Int.emod_nonneg (numF xs) (show n ≠ 0 by omega)
  have hm1 := Int.emod_lt_of_pos (numF xs) (show 0 < n by omega)
  rw [Int.mul_comm] at hm
  have hp := Int.mul_nonneg hd (show 0 ≤ n by omega)
  refine ⟨numF_show hp (by omega), showL_frame hul.1 hul.2.1 hul.2.2, by omega, by omega, ?_⟩
  exact Int.mul_emod_left _ _
end Go.Proofs.Ytjhlhkglpecdbaa
