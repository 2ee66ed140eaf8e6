/- Repairs: the laws: all frames by their due days, late frames, the last day; beads of all woods, the cheapest wood, what a replacement saves. By an AI agent. -/
import Derived.Test.YtaajkamfeaafpaaRc
set_option linter.unusedVariables false
set_option linter.unusedSimpArgs false
namespace Go.Proofs.Ytaajkamfeaafpaa
open Go Go.RowKit K

theorem insR_perm (ws : List Wood) (out : List Repair) (r : Repair) : (insR ws out r).Perm (r :: out) := by
  unfold insR
  have h : (out.take (insP ws out r out.length) ++ [r] ++ out.drop (insP ws out r out.length)).Perm (r :: (out.take (insP ws out r out.length) ++ out.drop (insP ws out r out.length))) := by
    rw [List.append_assoc]
    exact List.perm_middle
  rw [List.take_append_drop] at h; exact h
theorem ordF_perm (ws : List Wood) : ∀ (xs out : List Repair), (xs.foldl (insR ws) out).Perm (xs ++ out)
  | [], out => List.Perm.refl _
  | x :: xs, out => by
    rw [List.foldl_cons]
    refine (ordF_perm ws xs _).trans ?_
    refine (List.Perm.append_left xs (insR_perm ws out x)).trans ?_
    rw [List.cons_append]
    exact List.perm_middle
theorem ordL_perm (ws : List Wood) (xs : List Repair) : (ordL ws xs).Perm xs := by
  have := ordF_perm ws xs []
  rw [List.append_nil] at this; exact this
/-- The frames rise. -/
theorem frames_lt {ws : List Wood} {xs : List Repair} (h : repairsB ws xs = true) : ∀ (j i : Nat) (x y : Repair), i < j → xs[i]? = some x → xs[j]? = some y → x.frame < y.frame
  | 0, i, x, y, hij, _, _ => absurd hij (Nat.not_lt_zero i)
  | j + 1, i, x, y, hij, hx, hy => by
    have h2 := h
    unfold repairsB at h2
    simp only [Bool.and_eq_true] at h2
    have hj := (List.getElem?_eq_some_iff.1 hy).1
    have hz := getLt (show j < xs.length by omega)
    have hs := listB_step h2.2 hj
    rw [repairStep_eq hy (by rw [Nat.add_sub_cancel]; exact hz)] at hs
    simp only [Bool.and_eq_true, Bool.or_eq_true, decide_eq_true_eq] at hs
    have h3 : (xs[j]).frame < y.frame := by rcases hs.2 with h4 | h4; omega; exact h4
    by_cases hij2 : i = j
    · subst hij2; rw [hx] at hz; obtain rfl := Option.some.inj hz; exact h3
    · have := frames_lt h j i x _ (by omega) hx hz; omega
theorem frames_inj {ws : List Wood} {xs : List Repair} (h : repairsB ws xs = true) {i j : Nat} {x y : Repair} (hx : xs[i]? = some x) (hy : xs[j]? = some y) (he : x.frame = y.frame) : i = j := by
  rcases Nat.lt_trichotomy i j with hlt | heq | hgt
  · have := frames_lt h j i x y hlt hx hy; omega
  · exact heq
  · have := frames_lt h i j y x hgt hy hx; omega
theorem frame_eq {ws : List Wood} {xs : List Repair} (h : repairsB ws xs = true) {x y : Repair} (hx : x ∈ xs) (hy : y ∈ xs) (he : x.frame = y.frame) : x = y := by
  obtain ⟨i, hi⟩ := List.mem_iff_getElem?.1 hx
  obtain ⟨j, hj⟩ := List.mem_iff_getElem?.1 hy
  obtain rfl := frames_inj h hi hj he
  rw [hi] at hj; exact Option.some.inj hj
theorem find_self {ws : List Wood} {xs : List Repair} (h : repairsB ws xs = true) {i : Nat} {r : Repair} (hr : xs[i]? = some r) : findP (byFrame r.frame) xs = i :=
  findP_hit hr (by simp [byFrame]) (fun j hj y hy => by
    have := frames_lt h i j y r hj hy hr
    simp [byFrame]; omega)
theorem res_self {ws : List Wood} {xs : List Repair} (h : repairsB ws xs = true) {i : Nat} {r : Repair} (hr : xs[i]? = some r) (f : Repair → Int) : resAt (repairsB ws xs) (byFrame r.frame) xs f 0 = (f r, true) :=
  resAt_yes h (by rw [find_self h hr]; omega) (by rw [find_self h hr, Int.toNat_natCast]; exact hr)
theorem ord_nodup {ws : List Wood} {xs : List Repair} (h : repairsB ws xs = true) : ((ordL ws xs).map Repair.frame).Nodup := by
  rw [(List.Perm.map Repair.frame (ordL_perm ws xs)).nodup_iff, List.Nodup, List.pairwise_map, List.pairwise_iff_getElem]
  intro i j hi hj hij he
  have := frames_lt h j i _ _ hij (getLt hi) (getLt hj)
  omega
theorem ord_inj {ws : List Wood} {xs : List Repair} (h : repairsB ws xs = true) {i j : Nat} {x y : Repair} (hx : (ordL ws xs)[i]? = some x) (hy : (ordL ws xs)[j]? = some y) (he : x.frame = y.frame) : i = j := by
  have hn := ord_nodup h
  have hi := (List.getElem?_eq_some_iff.1 hx).1
  have h1 : ((ordL ws xs).map Repair.frame)[i]? = ((ordL ws xs).map Repair.frame)[j]? := by rw [List.getElem?_map, List.getElem?_map, hx, hy, Option.map_some, Option.map_some, he]
  have hj := (List.getElem?_eq_some_iff.1 hy).1
  have hp := List.pairwise_iff_getElem.1 hn
  rw [List.getElem?_eq_getElem (by rw [List.length_map]; exact hi), List.getElem?_eq_getElem (by rw [List.length_map]; exact hj)] at h1
  have h1 := Option.some.inj h1
  rcases Nat.lt_trichotomy i j with hlt | heq | hgt
  · exact absurd h1 (hp i j (by rw [List.length_map]; exact hi) (by rw [List.length_map]; exact hj) hlt)
  · exact heq
  · exact absurd h1.symm (hp j i (by rw [List.length_map]; exact hj) (by rw [List.length_map]; exact hi) hgt)
theorem mem_put {l : List Int} {n x : Int} : x ∈ putL l n ↔ x ∈ l ∨ x = n := by
  unfold putL
  split
  · rename_i h
    exact ⟨.inl, fun hx => hx.elim id (fun e => e ▸ h)⟩
  · simp only [List.mem_append, List.mem_filter, List.mem_singleton, decide_eq_true_eq]
    constructor
    · rintro ((⟨h1, _⟩ | h1) | ⟨h1, _⟩)
      · exact .inl h1
      · exact .inr h1
      · exact .inl h1
    · rintro (h1 | h1)
      · rcases Int.lt_trichotomy x n with hlt | heq | hgt
        · exact .inl (.inl ⟨h1, hlt⟩)
        · exact .inl (.inr heq)
        · exact .inr ⟨h1, hgt⟩
      · exact .inl (.inr h1)
theorem mem_late {ws : List Wood} {ys : List Repair} {M f : Int} : ∀ {n : Nat}, f ∈ lateL ws ys M n ↔ ∃ j y, j < n ∧ ys[j]? = some y ∧ y.frame = f ∧ y.due < dayV ws ys M j
  | 0 => by simp [lateL]
  | n + 1 => by
    cases hy : ys[n]? with
    | none =>
      simp only [lateL, hy]
      rw [mem_late]
      exact ⟨fun ⟨j, y, h1, h2⟩ => ⟨j, y, by omega, h2⟩, fun ⟨j, y, h1, h2, h3⟩ => ⟨j, y, by
        by_cases hj : j = n
        · subst hj; rw [hy] at h2; cases h2
        · omega, h2, h3⟩⟩
    | some z =>
      by_cases hd : z.due < dayV ws ys M n
      · rw [lateL_yes hy hd, mem_put, mem_late]
        constructor
        · rintro (⟨j, y, h1, h2⟩ | h1)
          · exact ⟨j, y, by omega, h2⟩
          · exact ⟨n, z, by omega, hy, h1.symm, hd⟩
        · rintro ⟨j, y, h1, h2, h3, h4⟩
          by_cases hj : j = n
          · subst hj; rw [hy] at h2; obtain rfl := Option.some.inj h2; exact .inr h3.symm
          · exact .inl ⟨j, y, by omega, h2, h3, h4⟩
      · rw [lateL_no hy hd, mem_late]
        constructor
        · rintro ⟨j, y, h1, h2⟩; exact ⟨j, y, by omega, h2⟩
        · rintro ⟨j, y, h1, h2, h3, h4⟩
          by_cases hj : j = n
          · subst hj; rw [hy] at h2; obtain rfl := Option.some.inj h2; exact absurd h4 hd
          · exact ⟨j, y, by omega, h2, h3, h4⟩
/-- A frame is told late if, and only if, it is done behind its day. -/
theorem late_iff {ws : List Wood} {xs : List Repair} {M : Int} (h : repairsB ws xs = true) {k : Nat} {y : Repair} (hy : (ordL ws xs)[k]? = some y) : y.frame ∈ lateL ws (ordL ws xs) M xs.length ↔ y.due < dayV ws (ordL ws xs) M k := by
  have hk := (List.getElem?_eq_some_iff.1 hy).1
  rw [ordL_len] at hk
  rw [mem_late]
  constructor
  · rintro ⟨j, z, h1, h2, h3, h4⟩
    obtain rfl := ord_inj h h2 hy h3
    rw [hy] at h2; obtain rfl := Option.some.inj h2; exact h4
  · intro hd
    exact ⟨k, y, hk, hy, rfl, hd⟩
theorem perm_sum {l m : List Int} (h : l.Perm m) : l.sum = m.sum := by
  induction h with
  | nil => rfl
  | cons _ _ ih => simp [ih]
  | swap => simp; omega
  | trans _ _ a b => exact a.trans b
theorem sumM_map (ws : List Wood) (ys : List Repair) : ∀ n, n ≤ ys.length → sumM ws ys n = ((ys.take n).map (minR ws)).sum
  | 0, _ => by simp [sumM]
  | n + 1, hn => by
    have hx := getLt (show n < ys.length by omega)
    rw [sumM_succ hx, sumM_map ws ys n (by omega), take_snoc hx, List.map_append, List.sum_append]; simp
theorem sumM_ord {ws : List Wood} {xs : List Repair} : sumM ws (ordL ws xs) xs.length = sumM ws xs xs.length := by
  have h1 := sumM_map ws (ordL ws xs) xs.length (by rw [ordL_len]; exact Nat.le_refl _)
  have h2 := sumM_map ws xs xs.length (Nat.le_refl _)
  rw [List.take_of_length_le (by rw [ordL_len]; exact Nat.le_refl _)] at h1
  rw [List.take_length] at h2
  rw [h1, h2]
  exact perm_sum (List.Perm.map (minR ws) (ordL_perm ws xs))
theorem sumM_bdX {ws : List Wood} {xs : List Repair} (h : repairsB ws xs = true) : ∀ k, 0 ≤ sumM ws xs k ∧ sumM ws xs k ≤ 1200 * (k : Int)
  | 0 => ⟨Int.le_refl _, Int.le_refl _⟩
  | k + 1 => by
    have ih := sumM_bdX h k
    rw [sumM]
    split
    · rename_i y hy
      have := minR_bound (repairs_woods h).1 (repairB_at h hy); omega
    · omega
/-- The last day holds all work, and the day before does not. -/
theorem day_holds {s M : Int} (hs : 0 ≤ s) (hM : 0 < M) : s ≤ max1 ((s + M - 1) / M) * M ∧ (1 < max1 ((s + M - 1) / M) → (max1 ((s + M - 1) / M) - 1) * M < s) := by
  have h1 := Int.emod_add_mul_ediv (s + M - 1) M
  have h2 := Int.emod_nonneg (s + M - 1) (show M ≠ 0 by omega)
  have h3 := Int.emod_lt_of_pos (s + M - 1) hM
  rw [Int.mul_comm] at h1
  generalize hq : (s + M - 1) / M = q at *
  have h4 : (q - 1) * M = q * M - M := by rw [Int.sub_mul, Int.one_mul]
  unfold max1
  split
  · exact ⟨by omega, fun _ => by omega⟩
  · rename_i hle
    refine ⟨?_, fun hh => absurd hh (by decide)⟩
    have h5 : q * M ≤ 1 * M := Int.mul_le_mul_of_nonneg_right (by omega) (by omega)
    omega
theorem woR_get {ws : List Wood} {xs : List Repair} (h : repairsB ws xs = true) {k : Nat} {y : Repair} (hy : (ordL ws xs)[k]? = some y) : (woR ws xs)[k]? = some y.frame := by
  unfold woR
  rw [selR_yes h]
  unfold selL
  rw [List.take_length, List.filter_eq_self.2 (fun _ _ => rfl), List.getElem?_map, hy]; rfl
theorem woR_length {ws : List Wood} {xs : List Repair} (h : repairsB ws xs = true) : (woR ws xs).length = xs.length := by
  unfold woR
  rw [selR_yes h]
  unfold selL
  rw [List.take_length, List.filter_eq_self.2 (fun _ _ => rfl), List.length_map, ordL_len]
end Go.Proofs.Ytaajkamfeaafpaa
