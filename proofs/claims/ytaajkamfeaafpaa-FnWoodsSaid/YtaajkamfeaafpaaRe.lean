/- Repairs: the laws of the woods: the cheapest wood, the beads of all woods, what a replacement saves. By an AI agent. -/
import Derived.Test.YtaajkamfeaafpaaRd
set_option linter.unusedVariables false
set_option linter.unusedSimpArgs false
namespace Go.Proofs.Ytaajkamfeaafpaa
open Go Go.RowKit K

/-! ### The cheapest wood -/
theorem cheap_inv {xs : List Wood} {h : Int} : ∀ n, n ≤ xs.length → (cheapL xs h n < 0 ∧ ∀ j x, j < n → xs[j]? = some x → x.hard < h) ∨
    (∃ (b : Nat) (y : Wood), cheapL xs h n = b ∧ xs[b]? = some y ∧ h ≤ y.hard ∧ ∀ j x, j < n → xs[j]? = some x → h ≤ x.hard → y.cost ≤ x.cost)
  | 0, _ => .inl ⟨by unfold cheapL; omega, fun j x hj => absurd hj (Nat.not_lt_zero j)⟩
  | n + 1, hn => by
    have hx := getLt (show n < xs.length by omega)
    generalize xs[n] = x at hx
    rcases cheap_inv (xs := xs) (h := h) n (by omega) with ⟨hA, hB⟩ | ⟨b, y, hA, hy, hh, hB⟩
    · by_cases c : h ≤ x.hard
      · have e := cheapL_yes (h := h) rfl hx c (.inl hA)
        refine .inr ⟨n, x, e.symm, hx, c, fun j z hj hz hzh => ?_⟩
        by_cases hjn : j = n
        · subst hjn; rw [hx] at hz; obtain rfl := Option.some.inj hz; exact Int.le_refl _
        · have := hB j z (by omega) hz; omega
      · have e := cheapL_no (h := h) rfl hx (fun q => c q.1)
        refine .inl ⟨by rw [← e]; exact hA, fun j z hj hz => ?_⟩
        by_cases hjn : j = n
        · subst hjn; rw [hx] at hz; obtain rfl := Option.some.inj hz; omega
        · exact hB j z (by omega) hz
    · have hca : costAt xs (cheapL xs h n) = y.cost := costAt_eq (by rw [hA]; exact hy)
      by_cases c : h ≤ x.hard ∧ (cheapL xs h n < 0 ∨ x.cost < costAt xs (cheapL xs h n))
      · have e := cheapL_yes (h := h) rfl hx c.1 c.2
        have hlt : x.cost < y.cost := by rcases c.2 with q | q; omega; omega
        refine .inr ⟨n, x, e.symm, hx, c.1, fun j z hj hz hzh => ?_⟩
        by_cases hjn : j = n
        · subst hjn; rw [hx] at hz; obtain rfl := Option.some.inj hz; exact Int.le_refl _
        · have := hB j z (by omega) hz hzh; omega
      · have e := cheapL_no (h := h) rfl hx c
        refine .inr ⟨b, y, by rw [← e]; exact hA, hy, hh, fun j z hj hz hzh => ?_⟩
        by_cases hjn : j = n
        · subst hjn; rw [hx] at hz; obtain rfl := Option.some.inj hz
          have hq : ¬ x.cost < costAt xs (cheapL xs h j) := fun q => c ⟨hzh, .inr q⟩
          omega
        · exact hB j z (by omega) hz hzh
theorem cheap_told {xs : List Wood} {h : Int} (hc : (cheapR xs h).2 = true) : ∃ (b : Nat) (y : Wood), (cheapR xs h).1 = b ∧ xs[b]? = some y ∧ h ≤ y.hard ∧ ∀ (j : Nat) (x : Wood), xs[j]? = some x → h ≤ x.hard → y.cost ≤ x.cost := by
  unfold cheapR at hc ⊢
  split at hc
  · rename_i hq
    rw [if_pos hq]
    rcases cheap_inv (xs := xs) (h := h) xs.length (Nat.le_refl _) with ⟨hA, _⟩ | ⟨b, y, hA, hy, hh, hB⟩
    · exact absurd hA hq.2.2
    · exact ⟨b, y, hA, hy, hh, fun j x hx => hB j x (List.getElem?_eq_some_iff.1 hx).1 hx⟩
  · cases hc

/-! ### The beads of all woods -/
theorem sum_set : ∀ (l : List Int) (i : Nat) (v x : Int), l[i]? = some x → (l.set i v).sum = l.sum + (v - x)
  | [], i, v, x, h => by simp at h
  | a :: t, 0, v, x, h => by
    have e : a = x := Option.some.inj h
    subst e
    rw [List.set_cons_zero, List.sum_cons, List.sum_cons]; omega
  | a :: t, i + 1, v, x, h => by
    have ih := sum_set t i v x h
    rw [List.set_cons_succ, List.sum_cons, List.sum_cons, ih]; omega
def allB (xs : List Repair) : Nat → Int
  | 0 => 0
  | k + 1 => allB xs k + (match xs[k]? with | some r => r.beads | none => 0)
theorem allB_succ {xs : List Repair} {k : Nat} {r : Repair} (h : xs[k]? = some r) : allB xs (k + 1) = allB xs k + r.beads := by rw [allB, h]
theorem beads_inv {ws : List Wood} {xs : List Repair} (h : repairsB ws xs = true) : ∀ k, k ≤ xs.length → BeadI ws.length xs k (beadsW ws.length (xs.take k)) ∧ (beadsW ws.length (xs.take k)).sum = allB xs k
  | 0, _ => by
    refine ⟨BeadI.zero _ _, ?_⟩
    have hz : ∀ n : Nat, (List.replicate n (0 : Int)).sum = 0 := fun n => by induction n with
      | zero => rfl
      | succ n ih => rw [List.replicate_succ, List.sum_cons, ih]; rfl
    exact hz _
  | k + 1, hk => by
    obtain ⟨ih, hs⟩ := beads_inv h k (by omega)
    have hr := getLt (show k < xs.length by omega)
    generalize xs[k] = r at hr
    have hrb := repairB_at h hr
    unfold repairB inB at hrb
    simp only [Bool.and_eq_true, decide_eq_true_eq] at hrb
    have hv := getLt (show r.wood.toNat < (beadsW ws.length (xs.take k)).length by rw [ih.len]; omega)
    generalize (beadsW ws.length (xs.take k))[r.wood.toNat]'_ = v at hv
    have hn := ih.next hr hv (by omega)
    rw [hn.eq] at hn
    refine ⟨hn, ?_⟩
    rw [← hn.eq, allB_succ hr, ← hs]
    have := (ih.next hr hv (by omega)).eq
    rw [← this, sum_set _ _ _ _ hv]; omega
theorem beads_all {ws : List Wood} {xs : List Repair} (h : repairsB ws xs = true) : (beadsRes ws xs).sum = allB xs xs.length ∧ ∀ x ∈ beadsRes ws xs, 0 ≤ x ∧ x ≤ 2000 := by
  obtain ⟨hi, hs⟩ := beads_inv h xs.length (Nat.le_refl _)
  rw [List.take_length] at hi hs
  rw [beadsRes_yes h]
  refine ⟨hs, fun x hx => ?_⟩
  obtain ⟨j, hj⟩ := List.mem_iff_getElem?.1 hx
  have := hi.bd j x hj
  have := (repairs_woods h).2
  omega
theorem allB_bd {ws : List Wood} {xs : List Repair} (h : repairsB ws xs = true) : ∀ k : Nat, 0 ≤ allB xs k ∧ allB xs k ≤ 200 * (k : Int)
  | 0 => ⟨Int.le_refl _, Int.le_refl _⟩
  | k + 1 => by
    have ih := allB_bd h k
    cases hr : xs[k]? with
    | none => rw [allB, hr]; dsimp only; omega
    | some r =>
      have hrb := repairB_at h hr
      unfold repairB inB at hrb
      simp only [Bool.and_eq_true, decide_eq_true_eq] at hrb
      rw [allB_succ hr]; omega
theorem beads_sumbd (ws : List Wood) (xs : List Repair) : ∀ x ∈ beadsRes ws xs, 0 ≤ x ∧ x ≤ 2000 := by
  rcases Bool.eq_false_or_eq_true (repairsB ws xs) with h | h
  · exact (beads_all h).2
  · rw [beadsRes_no h]; intro x hx; cases hx
theorem sum_take {l : List Int} {k : Nat} {x : Int} (h : l[k]? = some x) : (l.take (k + 1)).sum = (l.take k).sum + x := by
  rw [take_snoc h, List.sum_append]; simp
theorem sum_bd {l : List Int} (h : ∀ x ∈ l, 0 ≤ x ∧ x ≤ 2000) : ∀ k, k ≤ l.length → 0 ≤ (l.take k).sum ∧ (l.take k).sum ≤ 2000 * (k : Int)
  | 0, _ => by simp
  | k + 1, hk => by
    have ih := sum_bd h k (by omega)
    have hx := getLt (show k < l.length by omega)
    have := h _ (List.getElem_mem (show k < l.length by omega))
    rw [sum_take hx]; omega

/-! ### What a replacement saves -/
theorem repL_at {a b : Int} {xs : List Repair} {k : Nat} {r : Repair} (h : xs[k]? = some r) : (repL a b xs xs.length)[k]? = some (repW a b r) := by
  unfold repL; rw [List.take_length, List.getElem?_map, h]; rfl
theorem repW_frame (a b : Int) (r : Repair) : (repW a b r).frame = r.frame := by unfold repW; split <;> rfl
theorem rw_good {ws : List Wood} {xs : List Repair} {a b : Int} (h : rwB ws xs a b = true) : repairsB ws xs = true ∧ repairsB ws (repL a b xs xs.length) = true := by
  unfold rwB at h
  simp only [Bool.and_eq_true] at h
  have hok := h.1.1
  refine ⟨hok, ?_⟩
  have h2 := hok
  unfold repairsB at h2 ⊢
  simp only [Bool.and_eq_true] at h2 ⊢
  refine ⟨h2.1, (listB_end fun k hk => ?_).trans (decide_eq_true (by rw [repL_len (Nat.le_refl _)]; exact (repairs_woods hok).2))⟩
  rw [repL_len (Nat.le_refl _)] at hk
  have hx := getLt hk
  have hy := getLt (show k - 1 < xs.length by omega)
  have hs := listB_step h2.2 hk
  rw [repairStep_eq hx hy] at hs
  rw [repairStep_eq (repL_at hx) (repL_at hy), repW_frame, repW_frame]
  simp only [Bool.and_eq_true] at hs ⊢
  exact ⟨repW_good hs.1 h.2, hs.2⟩
theorem rw_self {ws : List Wood} {xs : List Repair} {a b : Int} (h : rwB ws xs a b = true) {k : Nat} {r : Repair} (hr : xs[k]? = some r) (f : Repair → Int) : resAt (repairsB ws (rwL ws xs a b)) (byFrame r.frame) (rwL ws xs a b) f 0 = (f (repW a b r), true) := by
  rw [(rw_yes h).1, ← repW_frame a b r]
  exact res_self (rw_good h).2 (repL_at hr) f
end Go.Proofs.Ytaajkamfeaafpaa
