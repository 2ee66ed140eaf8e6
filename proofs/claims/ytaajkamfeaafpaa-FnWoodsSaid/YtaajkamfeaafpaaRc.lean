/- Repairs: what is told of the order of work: frames, days, late frames, a wood replaced. By an AI agent. -/
import Derived.Test.YtaajkamfeaafpaaRb
set_option linter.unusedVariables false
set_option linter.unusedSimpArgs false
namespace Go.Proofs.Ytaajkamfeaafpaa
open Go Go.RowKit K

theorem ordL_good {ws : List Wood} {xs : List Repair} (h : repairsB ws xs = true) {k : Nat} {y : Repair} (hy : (ordL ws xs)[k]? = some y) : repairB ws.length y = true := by
  obtain ⟨j, hj⟩ := List.mem_iff_getElem?.1 (ordL_mem (List.mem_iff_getElem?.2 ⟨k, hy⟩))
  exact repairB_at h hj
/-- The minutes of the first k. -/
def sumM (ws : List Wood) (ys : List Repair) : Nat → Int
  | 0 => 0
  | k + 1 => sumM ws ys k + (match ys[k]? with | some y => minR ws y | none => 0)
theorem sumM_succ {ws : List Wood} {ys : List Repair} {k : Nat} {y : Repair} (h : ys[k]? = some y) : sumM ws ys (k + 1) = sumM ws ys k + minR ws y := by rw [sumM, h]
theorem sumM_bd {ws : List Wood} {xs : List Repair} (h : repairsB ws xs = true) : ∀ k, 0 ≤ sumM ws (ordL ws xs) k ∧ sumM ws (ordL ws xs) k ≤ 1200 * (k : Int)
  | 0 => ⟨Int.le_refl _, Int.le_refl _⟩
  | k + 1 => by
    have ih := sumM_bd h k
    rw [sumM]
    split
    · rename_i y hy
      have := minR_bound (repairs_woods h).1 (ordL_good h hy); omega
    · omega
def max1 (n : Int) : Int := if 1 < n then n else 1
def dayV (ws : List Wood) (ys : List Repair) (M : Int) (k : Nat) : Int := max1 ((sumM ws ys (k + 1) + M - 1) / M)
def dayL (ws : List Wood) (ys : List Repair) (M : Int) (k : Nat) : List Int := (List.range k).map (dayV ws ys M)
theorem dayL_snoc (ws : List Wood) (ys : List Repair) (M : Int) (k : Nat) : dayL ws ys M (k + 1) = dayL ws ys M k ++ [dayV ws ys M k] := by simp [dayL, List.range_succ]
theorem dayL_len (ws : List Wood) (ys : List Repair) (M : Int) (k : Nat) : (dayL ws ys M k).length = k := by simp [dayL]
theorem dayL_get {ws : List Wood} {ys : List Repair} {M : Int} {k j : Nat} (h : j < k) : (dayL ws ys M k)[j]? = some (dayV ws ys M j) := by simp [dayL, h]
theorem day_bd {s M : Int} (hs : 0 ≤ s ∧ s ≤ 1000000) (hM : 30 ≤ M ∧ M ≤ 600) : 0 ≤ (s + M - 1) / M ∧ (s + M - 1) / M ≤ 1000600 :=
  ⟨Int.ediv_nonneg (by omega) (by omega), Int.le_trans (Int.ediv_le_self _ (by omega)) (by omega)⟩
def daysB (ws : List Wood) (xs : List Repair) (M : Int) : Bool := repairsB ws xs && inB M 30 600
theorem daysB_ok {ws : List Wood} {xs : List Repair} {M : Int} (h : daysB ws xs M = true) : repairsB ws xs = true ∧ (30 ≤ M ∧ M ≤ 600) := by
  unfold daysB inB at h
  simp only [Bool.and_eq_true, decide_eq_true_eq] at h
  exact ⟨h.1, h.2⟩
theorem daysB_yes {ws : List Wood} {xs : List Repair} {M : Int} (h : repairsB ws xs = true) (h2 : inB M 30 600 = true) : daysB ws xs M = true := by rw [daysB, h, h2]; rfl
theorem daysB_no {ws : List Wood} {xs : List Repair} {M : Int} (h : repairsB ws xs = false ∨ inB M 30 600 = false) : daysB ws xs M = false := by
  rcases h with h | h <;> rw [daysB, h] <;> simp
def daysR (ws : List Wood) (xs : List Repair) (M : Int) : List Int := if daysB ws xs M = true then dayL ws (ordL ws xs) M xs.length else []
theorem daysR_yes {ws : List Wood} {xs : List Repair} {M : Int} (h : daysB ws xs M = true) : daysR ws xs M = dayL ws (ordL ws xs) M xs.length := by rw [daysR, if_pos h]
theorem daysR_no {ws : List Wood} {xs : List Repair} {M : Int} (h : daysB ws xs M = false) : daysR ws xs M = [] := by rw [daysR, if_neg (by rw [h]; simp)]
theorem daysR_len (ws : List Wood) (xs : List Repair) (M : Int) : (daysR ws xs M).length ≤ 10 := by
  unfold daysR
  split
  · rename_i h; rw [dayL_len]; exact (repairs_woods (daysB_ok h).1).2
  · simp
/-- The frames in the order of work. -/
def woR (ws : List Wood) (xs : List Repair) : List Int := selR (repairsB ws xs) (fun _ => true) (fun y : Repair => y.frame) (ordL ws xs)
theorem woR_len (ws : List Wood) (xs : List Repair) : (woR ws xs).length ≤ 10 := by
  unfold woR
  cases h : repairsB ws xs with
  | false => rw [selR_no rfl]; simp
  | true =>
    have := selR_len (repairsB ws xs) (fun _ => true) (fun y : Repair => y.frame) (ordL ws xs)
    rw [h, ordL_len] at this
    exact Nat.le_trans this (repairs_woods h).2

/-! ### A number put to its place, once -/
def risL (l : List Int) : Prop := l.Pairwise (· < ·)
def putL (l : List Int) (n : Int) : List Int := if n ∈ l then l else l.filter (fun x => decide (x < n)) ++ [n] ++ l.filter (fun x => decide (n < x))
theorem putL_in {l : List Int} {n : Int} {k : Nat} (h : l[k]? = some n) : putL l n = l := by rw [putL, if_pos (List.mem_iff_getElem?.2 ⟨k, h⟩)]
theorem putL_new {l : List Int} {n : Int} {k : Nat} (hk : k ≤ l.length) (h1 : ∀ j x, j < k → l[j]? = some x → x < n) (h2 : ∀ j x, k ≤ j → l[j]? = some x → n < x) : putL l n = l.take k ++ [n] ++ l.drop k := by
  have m1 : ∀ x ∈ l.take k, x < n := fun x hx => by
    obtain ⟨j, hj⟩ := List.mem_iff_getElem?.1 hx
    have hjl := (List.getElem?_eq_some_iff.1 hj).1
    rw [List.length_take] at hjl
    rw [List.getElem?_take_of_lt (by omega)] at hj
    exact h1 j x (by omega) hj
  have m2 : ∀ x ∈ l.drop k, n < x := fun x hx => by
    obtain ⟨j, hj⟩ := List.mem_iff_getElem?.1 hx
    rw [List.getElem?_drop] at hj
    exact h2 _ x (by omega) hj
  have hn : n ∉ l := fun hm => by
    rw [← List.take_append_drop k l] at hm
    rcases List.mem_append.1 hm with hm | hm
    · have := m1 n hm; omega
    · have := m2 n hm; omega
  rw [putL, if_neg hn]
  have e1 : l.filter (fun x => decide (x < n)) = l.take k := by
    conv => lhs; rw [← List.take_append_drop k l]
    rw [List.filter_append, List.filter_eq_self.2 (fun x hx => by simpa using m1 x hx), List.filter_eq_nil_iff.2 (fun x hx => by have := m2 x hx; simp; omega), List.append_nil]
  have e2 : l.filter (fun x => decide (n < x)) = l.drop k := by
    conv => lhs; rw [← List.take_append_drop k l]
    rw [List.filter_append, List.filter_eq_nil_iff.2 (fun x hx => by have := m1 x hx; simp; omega), List.filter_eq_self.2 (fun x hx => by simpa using m2 x hx), List.nil_append]
  rw [e1, e2]
theorem risL_put {l : List Int} (n : Int) (h : risL l) : risL (putL l n) := by
  unfold putL
  split
  · exact h
  · unfold risL
    rw [List.pairwise_append]
    refine ⟨?_, List.Pairwise.filter _ h, fun a ha b hb => ?_⟩
    · rw [List.pairwise_append]
      refine ⟨List.Pairwise.filter _ h, List.pairwise_singleton _ _, fun a ha b hb => ?_⟩
      have h1 := (List.mem_filter.1 ha).2
      obtain rfl := List.mem_singleton.1 hb
      simpa using h1
    · have h2 : n < b := by simpa using (List.mem_filter.1 hb).2
      rcases List.mem_append.1 ha with ha | ha
      · have h1 : a < n := by simpa using (List.mem_filter.1 ha).2
        omega
      · obtain rfl := List.mem_singleton.1 ha; exact h2
theorem putL_len (l : List Int) (n : Int) : (putL l n).length ≤ l.length + 1 := by
  unfold putL
  split
  · omega
  · have h1 : ∀ l : List Int, (l.filter (fun x => decide (x < n))).length + (l.filter (fun x => decide (n < x))).length ≤ l.length := by
      intro l
      induction l with
      | nil => simp
      | cons a r ih =>
        simp only [List.filter_cons, List.length_cons]
        split <;> split <;> simp at * <;> omega
    have := h1 l
    simp only [List.length_append, List.length_cons, List.length_nil]; omega
theorem ris_lt {l : List Int} (h : risL l) {i j : Nat} {x y : Int} (hij : i < j) (hx : l[i]? = some x) (hy : l[j]? = some y) : x < y := by
  obtain ⟨hi, rfl⟩ := List.getElem?_eq_some_iff.1 hx
  obtain ⟨hj, rfl⟩ := List.getElem?_eq_some_iff.1 hy
  exact List.pairwise_iff_getElem.1 h i j hi hj hij
/-- From the right: all that is greater lies behind. -/
theorem put_right {l : List Int} {n : Int} {k : Nat} (h : risL l) (hk : k ≤ l.length) (hb : ∀ j x, k ≤ j → l[j]? = some x → n < x) (hf : k = 0 ∨ ∃ x, l[k - 1]? = some x ∧ x < n) : putL l n = l.take k ++ [n] ++ l.drop k :=
  putL_new hk (fun j x hj hx => by
    rcases hf with rfl | ⟨y, hy, hyn⟩
    · omega
    · by_cases hjk : j = k - 1
      · subst hjk; rw [hx] at hy; obtain rfl := Option.some.inj hy; exact hyn
      · have := ris_lt h (show j < k - 1 by omega) hx hy; omega) hb
theorem put_left {l : List Int} {n : Int} {k : Nat} (h : risL l) (hk : k ≤ l.length) (hf : ∀ j x, j < k → l[j]? = some x → x < n) (hb : k = l.length ∨ ∃ x, l[k]? = some x ∧ n < x) : putL l n = l.take k ++ [n] ++ l.drop k :=
  putL_new hk hf (fun j x hj hx => by
    rcases hb with rfl | ⟨y, hy, hyn⟩
    · have := (List.getElem?_eq_some_iff.1 hx).1; omega
    · by_cases hjk : j = k
      · subst hjk; rw [hx] at hy; obtain rfl := Option.some.inj hy; exact hyn
      · have := ris_lt h (show k < j by omega) hy hx; omega)

/-- Late frames. -/
def lateL (ws : List Wood) (ys : List Repair) (M : Int) : Nat → List Int
  | 0 => []
  | k + 1 => match ys[k]? with
    | some y => if y.due < dayV ws ys M k then putL (lateL ws ys M k) y.frame else lateL ws ys M k
    | none => lateL ws ys M k
theorem lateL_yes {ws : List Wood} {ys : List Repair} {M : Int} {k : Nat} {y : Repair} (h : ys[k]? = some y) (hd : y.due < dayV ws ys M k) : lateL ws ys M (k + 1) = putL (lateL ws ys M k) y.frame := by simp only [lateL, h, if_pos hd]
theorem lateL_no {ws : List Wood} {ys : List Repair} {M : Int} {k : Nat} {y : Repair} (h : ys[k]? = some y) (hd : ¬ y.due < dayV ws ys M k) : lateL ws ys M (k + 1) = lateL ws ys M k := by simp only [lateL, h, if_neg hd]
theorem lateL_ris (ws : List Wood) (ys : List Repair) (M : Int) : ∀ k, risL (lateL ws ys M k)
  | 0 => List.Pairwise.nil
  | k + 1 => by
    have ih := lateL_ris ws ys M k
    simp only [lateL]
    split
    · split
      · exact risL_put _ ih
      · exact ih
    · exact ih
theorem lateL_len (ws : List Wood) (ys : List Repair) (M : Int) : ∀ k, (lateL ws ys M k).length ≤ k
  | 0 => Nat.le_refl _
  | k + 1 => by
    have ih := lateL_len ws ys M k
    simp only [lateL]
    split
    · split
      · rename_i y hy hd; have := putL_len (lateL ws ys M k) y.frame; omega
      · omega
    · omega
def lateR (ws : List Wood) (xs : List Repair) (M : Int) : List Int := if daysB ws xs M = true then lateL ws (ordL ws xs) M xs.length else []
theorem lateR_yes {ws : List Wood} {xs : List Repair} {M : Int} (h : daysB ws xs M = true) : lateR ws xs M = lateL ws (ordL ws xs) M xs.length := by rw [lateR, if_pos h]
theorem lateR_no {ws : List Wood} {xs : List Repair} {M : Int} (h : daysB ws xs M = false) : lateR ws xs M = [] := by rw [lateR, if_neg (by rw [h]; simp)]
theorem lateR_len (ws : List Wood) (xs : List Repair) (M : Int) : (lateR ws xs M).length ≤ 10 := by
  unfold lateR
  split
  · rename_i h; exact Nat.le_trans (lateL_len _ _ _ _) (repairs_woods (daysB_ok h).1).2
  · simp

/-! ### A wood replaced -/
def repW (a b : Int) (r : Repair) : Repair := if r.wood = a then ⟨r.frame, b, r.beads, r.rods, r.due⟩ else r
def repL (a b : Int) (xs : List Repair) (k : Nat) : List Repair := (xs.take k).map (repW a b)
def savL (ws : List Wood) (a b : Int) (xs : List Repair) : Nat → Int
  | 0 => 0
  | k + 1 => savL ws a b xs k + (match xs[k]? with | some r => costR ws r - costR ws (repW a b r) | none => 0)
theorem savL_succ {ws : List Wood} {a b : Int} {xs : List Repair} {k : Nat} {r : Repair} (h : xs[k]? = some r) : savL ws a b xs (k + 1) = savL ws a b xs k + (costR ws r - costR ws (repW a b r)) := by rw [savL, h]
theorem repL_snoc {a b : Int} {xs : List Repair} {k : Nat} {r : Repair} (h : xs[k]? = some r) : repL a b xs (k + 1) = repL a b xs k ++ [repW a b r] := by unfold repL; rw [take_snoc h, List.map_append]; rfl
theorem repL_len {a b : Int} {xs : List Repair} {k : Nat} (h : k ≤ xs.length) : (repL a b xs k).length = k := by simp [repL]; omega
theorem repW_yes {a b : Int} {r : Repair} (h : r.wood = a) : repW a b r = ⟨r.frame, b, r.beads, r.rods, r.due⟩ := by rw [repW, if_pos h]
theorem repW_no {a b : Int} {r : Repair} (h : r.wood ≠ a) : repW a b r = r := by rw [repW, if_neg h]
theorem repW_good {n : Nat} {a b : Int} {r : Repair} (h : repairB n r = true) (hb : inB b 0 ((n : Int) - 1) = true) : repairB n (repW a b r) = true := by
  unfold repW
  split
  · unfold repairB at *
    simp only [Bool.and_eq_true] at *
    exact ⟨⟨⟨⟨h.1.1.1.1, hb⟩, h.1.1.2⟩, h.1.2⟩, h.2⟩
  · exact h
def rwB (ws : List Wood) (xs : List Repair) (a b : Int) : Bool := repairsB ws xs && inB a 0 ((ws.length : Int) - 1) && inB b 0 ((ws.length : Int) - 1)
def rwL (ws : List Wood) (xs : List Repair) (a b : Int) : List Repair := if rwB ws xs a b = true then repL a b xs xs.length else []
def rwS (ws : List Wood) (xs : List Repair) (a b : Int) : Int := if rwB ws xs a b = true then savL ws a b xs xs.length else 0
theorem rw_yes {ws : List Wood} {xs : List Repair} {a b : Int} (h : rwB ws xs a b = true) : rwL ws xs a b = repL a b xs xs.length ∧ rwS ws xs a b = savL ws a b xs xs.length := by rw [rwL, rwS, if_pos h, if_pos h]; exact ⟨rfl, rfl⟩
theorem rw_no {ws : List Wood} {xs : List Repair} {a b : Int} (h : rwB ws xs a b = false) : rwL ws xs a b = [] ∧ rwS ws xs a b = 0 := by rw [rwL, rwS, if_neg (by rw [h]; simp), if_neg (by rw [h]; simp)]; exact ⟨rfl, rfl⟩
theorem rwB_bad {ws : List Wood} {xs : List Repair} {a b : Int} (h : repairsB ws xs = false ∨ inB a 0 ((ws.length : Int) - 1) = false ∨ inB b 0 ((ws.length : Int) - 1) = false) : rwB ws xs a b = false := by
  unfold rwB
  rcases h with h | h | h <;> rw [h] <;> simp
theorem rwL_len (ws : List Wood) (xs : List Repair) (a b : Int) : (rwL ws xs a b).length ≤ 10 := by
  unfold rwL
  split
  · rename_i h
    unfold rwB at h
    simp only [Bool.and_eq_true] at h
    rw [repL_len (Nat.le_refl _)]; exact (repairs_woods h.1.1).2
  · simp
theorem costR_bd {ws : List Wood} {r : Repair} (hw : woodsB ws = true) (hr : repairB ws.length r = true) : 0 ≤ costR ws r ∧ costR ws r ≤ 10300 := by
  obtain ⟨x, hx, _, _, h1, h2, _, _, _, h3⟩ := repair_ok hw hr
  rw [costR_eq hx]; omega
theorem savL_bd {ws : List Wood} {xs : List Repair} {a b : Int} (h : repairsB ws xs = true) (hb : inB b 0 ((ws.length : Int) - 1) = true) : ∀ k : Nat, -10300 * (k : Int) ≤ savL ws a b xs k ∧ savL ws a b xs k ≤ 10300 * (k : Int)
  | 0 => ⟨Int.le_refl _, Int.le_refl _⟩
  | k + 1 => by
    have ih := savL_bd h hb k (a := a)
    cases hr : xs[k]? with
    | none => rw [savL, hr]; dsimp only; omega
    | some r =>
      have hrb := repairB_at h hr
      have h1 := costR_bd (repairs_woods h).1 hrb
      have h2 := costR_bd (repairs_woods h).1 (repW_good (a := a) hrb hb)
      have h3 := savL_succ (ws := ws) (a := a) (b := b) hr
      omega
/-- The first k replaced, the others as they were. -/
def mixL (a b : Int) (xs : List Repair) (k : Nat) : List Repair := repL a b xs k ++ xs.drop k
theorem mixL_len {a b : Int} {xs : List Repair} {k : Nat} (h : k ≤ xs.length) : (mixL a b xs k).length = xs.length := by
  rw [mixL, List.length_append, repL_len h, List.length_drop]; omega
theorem mixL_get {a b : Int} {xs : List Repair} {k : Nat} {r : Repair} (h : xs[k]? = some r) : (mixL a b xs k)[k]? = some r := by
  have hk := (List.getElem?_eq_some_iff.1 h).1
  have hl := repL_len (a := a) (b := b) (Nat.le_of_lt hk)
  rw [mixL, List.getElem?_append_right (by omega), hl, Nat.sub_self, List.getElem?_drop, Nat.add_zero, h]
theorem mixL_step {a b : Int} {xs : List Repair} {k : Nat} {r : Repair} (h : xs[k]? = some r) : (mixL a b xs k).set k (repW a b r) = mixL a b xs (k + 1) := by
  obtain ⟨hk, he⟩ := List.getElem?_eq_some_iff.1 h
  have hl := repL_len (a := a) (b := b) (Nat.le_of_lt hk)
  rw [mixL, mixL, repL_snoc h, List.drop_eq_getElem_cons hk, List.set_append, if_neg (by omega), hl, Nat.sub_self, List.set_cons_zero, List.append_assoc]; rfl
theorem mixL_same {a b : Int} {xs : List Repair} {k : Nat} {r : Repair} (h : xs[k]? = some r) (hw : r.wood ≠ a) : mixL a b xs (k + 1) = mixL a b xs k := by
  rw [← mixL_step h, repW_no hw]
  obtain ⟨h1, h2⟩ := List.getElem?_eq_some_iff.1 (mixL_get (a := a) (b := b) h)
  conv => lhs; rw [← h2]
  exact List.set_getElem_self h1
theorem mixL_0 (a b : Int) (xs : List Repair) : mixL a b xs 0 = xs := by simp [mixL, repL]
theorem mixL_end (a b : Int) (xs : List Repair) : mixL a b xs xs.length = repL a b xs xs.length := by simp [mixL]
theorem mixL_got {a b : Int} {xs : List Repair} {k : Nat} {r : Repair} (h : xs[k]? = some r) : (mixL a b xs (k + 1))[k]? = some (repW a b r) := by
  rw [← mixL_step h, List.getElem?_set_self (by rw [mixL_len (Nat.le_of_lt (List.getElem?_eq_some_iff.1 h).1)]; exact (List.getElem?_eq_some_iff.1 h).1)]
theorem savL_same {ws : List Wood} {a b : Int} {xs : List Repair} {k : Nat} {r : Repair} (h : xs[k]? = some r) (hw : r.wood ≠ a) : savL ws a b xs (k + 1) = savL ws a b xs k := by
  rw [savL_succ h, repW_no hw]; omega
end Go.Proofs.Ytaajkamfeaafpaa
