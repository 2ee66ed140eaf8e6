/- What is reached in a few moves: the program's numbers and the reference's are the same (plain). By an AI agent. -/
import Derived.Test.YtjhlhkglpecdbaaAa
set_option linter.unusedVariables false
set_option linter.unusedSimpArgs false
namespace Go.Proofs.Ytjhlhkglpecdbaa
open Go Go.RowKit K

/-! ### A number put to its place, once -/
def risL (l : List Int) : Prop := l.Pairwise (· < ·)
def putL (l : List Int) (n : Int) : List Int := if n ∈ l then l else l.filter (fun x => decide (x < n)) ++ [n] ++ l.filter (fun x => decide (n < x))
theorem putL_in {l : List Int} {n : Int} {k : Nat} (h : l[k]? = some n) : putL l n = l := by rw [putL, if_pos (List.mem_iff_getElem?.2 ⟨k, h⟩)]
theorem putL_new {l : List Int} {n : Int} {k : Nat} (hk : k ≤ l.length) (h1 : ∀ j x, j < k → l[j]? = some x → x < n) (h2 : ∀ j x, k ≤ j → l[j]? = some x → n < x) : putL l n = l.take k ++ [n] ++ l.drop k := by
  have m1 : ∀ x ∈ l.take k, x < n := fun x hx => by
    obtain ⟨j, hj⟩ := List.mem_iff_getElem?.1 hx
    have hjl := (List.getElem?_eq_some_iff.1 hj).1
    rw [List.length_take] at hjl
    rw [List.getElem?_take_of_lt (by omega)] at hj
    exact h1 j x (by omega) hj
  have m2 : ∀ x ∈ l.drop k, n < x := fun x hx => by
    obtain ⟨j, hj⟩ := List.mem_iff_getElem?.1 hx
    rw [List.getElem?_drop] at hj
    exact h2 _ x (by omega) hj
  have hn : n ∉ l := fun hm => by
    rw [← List.take_append_drop k l] at hm
    rcases List.mem_append.1 hm with hm | hm
    · have := m1 n hm; omega
    · have := m2 n hm; omega
  rw [putL, if_neg hn]
  have e1 : l.filter (fun x => decide (x < n)) = l.take k := by
    conv => lhs; rw [← List.take_append_drop k l]
    rw [List.filter_append, List.filter_eq_self.2 (fun x hx => by simpa using m1 x hx), List.filter_eq_nil_iff.2 (fun x hx => by have := m2 x hx; simp; omega), List.append_nil]
  have e2 : l.filter (fun x => decide (n < x)) = l.drop k := by
    conv => lhs; rw [← List.take_append_drop k l]
    rw [List.filter_append, List.filter_eq_nil_iff.2 (fun x hx => by have := m1 x hx; simp; omega), List.filter_eq_self.2 (fun x hx => by simpa using m2 x hx), List.nil_append]
  rw [e1, e2]
theorem risL_put {l : List Int} (n : Int) (h : risL l) : risL (putL l n) := by
  unfold putL
  split
  · exact h
  · unfold risL
    rw [List.pairwise_append]
    refine ⟨?_, List.Pairwise.filter _ h, fun a ha b hb => ?_⟩
    · rw [List.pairwise_append]
      refine ⟨List.Pairwise.filter _ h, List.pairwise_singleton _ _, fun a ha b hb => ?_⟩
      have h1 := (List.mem_filter.1 ha).2
      obtain rfl := List.mem_singleton.1 hb
      simpa using h1
    · have h2 : n < b := by simpa using (List.mem_filter.1 hb).2
      rcases List.mem_append.1 ha with ha | ha
      · have h1 : a < n := by simpa using (List.mem_filter.1 ha).2
        omega
      · obtain rfl := List.mem_singleton.1 ha; exact h2
theorem putL_len (l : List Int) (n : Int) : (putL l n).length ≤ l.length + 1 := by
  unfold putL
  split
  · omega
  · have h1 : ∀ l : List Int, (l.filter (fun x => decide (x < n))).length + (l.filter (fun x => decide (n < x))).length ≤ l.length := by
      intro l
      induction l with
      | nil => simp
      | cons a r ih =>
        simp only [List.filter_cons, List.length_cons]
        split <;> split <;> simp at * <;> omega
    have := h1 l
    simp only [List.length_append, List.length_cons, List.length_nil]; omega
theorem ris_lt {l : List Int} (h : risL l) {i j : Nat} {x y : Int} (hij : i < j) (hx : l[i]? = some x) (hy : l[j]? = some y) : x < y := by
  obtain ⟨hi, rfl⟩ := List.getElem?_eq_some_iff.1 hx
  obtain ⟨hj, rfl⟩ := List.getElem?_eq_some_iff.1 hy
  exact List.pairwise_iff_getElem.1 h i j hi hj hij
/-- From the right: all that is greater lies behind. -/
theorem put_right {l : List Int} {n : Int} {k : Nat} (h : risL l) (hk : k ≤ l.length) (hb : ∀ j x, k ≤ j → l[j]? = some x → n < x) (hf : k = 0 ∨ ∃ x, l[k - 1]? = some x ∧ x < n) : putL l n = l.take k ++ [n] ++ l.drop k :=
  putL_new hk (fun j x hj hx => by
    rcases hf with rfl | ⟨y, hy, hyn⟩
    · omega
    · by_cases hjk : j = k - 1
      · subst hjk; rw [hx] at hy; obtain rfl := Option.some.inj hy; exact hyn
      · have := ris_lt h (show j < k - 1 by omega) hx hy; omega) hb
theorem put_left {l : List Int} {n : Int} {k : Nat} (h : risL l) (hk : k ≤ l.length) (hf : ∀ j x, j < k → l[j]? = some x → x < n) (hb : k = l.length ∨ ∃ x, l[k]? = some x ∧ n < x) : putL l n = l.take k ++ [n] ++ l.drop k :=
  putL_new hk hf (fun j x hj hx => by
    rcases hb with rfl | ⟨y, hy, hyn⟩
    · have := (List.getElem?_eq_some_iff.1 hx).1; omega
    · by_cases hjk : j = k
      · subst hjk; rw [hx] at hy; obtain rfl := Option.some.inj hy; exact hyn
      · have := ris_lt h (show k < j by omega) hy hx; omega)
theorem mem_put {l : List Int} {n x : Int} : x ∈ putL l n ↔ x ∈ l ∨ x = n := by
  unfold putL
  split
  · rename_i h
    exact ⟨.inl, fun hx => hx.elim id (fun e => e ▸ h)⟩
  · simp only [List.mem_append, List.mem_filter, List.mem_singleton, decide_eq_true_eq]
    constructor
    · rintro ((⟨h1, _⟩ | h1) | ⟨h1, _⟩)
      · exact .inl h1
      · exact .inr h1
      · exact .inl h1
    · rintro (h1 | h1)
      · rcases Int.lt_trichotomy x n with hlt | heq | hgt
        · exact .inl (.inl ⟨h1, hlt⟩)
        · exact .inl (.inr heq)
        · exact .inr ⟨h1, hgt⟩
      · exact .inl (.inr h1)

theorem ris_ext : ∀ {l m : List Int}, risL l → risL m → (∀ x, x ∈ l ↔ x ∈ m) → l = m
  | [], [], _, _, _ => rfl
  | [], b :: m, _, _, h => absurd ((h b).2 (List.mem_cons_self)) (by simp)
  | a :: l, [], _, _, h => absurd ((h a).1 (List.mem_cons_self)) (by simp)
  | a :: l, b :: m, hl, hm, h => by
    unfold risL at hl hm
    rw [List.pairwise_cons] at hl hm
    have hab : a = b := by
      rcases List.mem_cons.1 ((h a).1 List.mem_cons_self) with h1 | h1
      · exact h1
      · rcases List.mem_cons.1 ((h b).2 List.mem_cons_self) with h2 | h2
        · exact h2.symm
        · have := hm.1 a h1; have := hl.1 b h2; omega
    subst hab
    rw [ris_ext hl.2 hm.2 fun x => ?_]
    have hx := h x
    simp only [List.mem_cons] at hx
    constructor
    · intro h1
      rcases hx.1 (.inr h1) with h2 | h2
      · subst h2; have := hl.1 _ h1; omega
      · exact h2
    · intro h1
      rcases hx.2 (.inr h1) with h2 | h2
      · subst h2; have := hm.1 _ h1; omega
      · exact h2
theorem mem_foldl {α : Type} {P : α → Int → Prop} {f : List Int → α → List Int} (hf : ∀ acc n x, x ∈ f acc n ↔ x ∈ acc ∨ P n x) : ∀ (L : List α) (acc : List Int) (x : Int), x ∈ L.foldl f acc ↔ x ∈ acc ∨ ∃ n ∈ L, P n x
  | [], acc, x => by simp
  | a :: L, acc, x => by
    rw [List.foldl_cons, mem_foldl hf L, hf]
    simp only [List.mem_cons]
    constructor
    · rintro ((h | h) | ⟨n, h1, h2⟩)
      · exact .inl h
      · exact .inr ⟨a, .inl rfl, h⟩
      · exact .inr ⟨n, .inr h1, h2⟩
    · rintro (h | ⟨n, rfl | h1, h2⟩)
      · exact .inl (.inl h)
      · exact .inl (.inr h2)
      · exact .inr ⟨n, h1, h2⟩
theorem ris_foldl {α : Type} {f : List Int → α → List Int} (hf : ∀ acc n, risL acc → risL (f acc n)) : ∀ (L : List α) (acc : List Int), risL acc → risL (L.foldl f acc)
  | [], acc, h => h
  | a :: L, acc, h => ris_foldl hf L _ (hf _ _ h)

/-! ### The program: part by part -/
def rodAt (xs : List IntA2) (k : Nat) : IntA2 := xs[k]?.getD ⟨0, 0⟩
theorem rodAt_eq {xs : List IntA2} {k : Nat} {r : IntA2} (h : xs[k]? = some r) : rodAt xs k = r := by rw [rodAt, h]; rfl
def ptA (r : IntA2) (p : Nat) : Int := if p = 1 then r.b else r.a
def ptS (r : IntA2) (p : Nat) (n : Int) : IntA2 := if p = 1 then ⟨r.a, n⟩ else ⟨n, r.b⟩
def lessM (old n m : Int) : Int := if n = old then m else m - 1
def mostP (u l : Int) (at_ : Nat) : Int := if at_ % 2 = 1 then l else u
def lftP (xs : List IntA2) (at_ : Nat) (n : Nat) (m : Int) : Int := lessM (ptA (rodAt xs (at_ / 2)) (at_ % 2)) n m
def setP (xs : List IntA2) (at_ : Nat) (n : Nat) : List IntA2 := xs.set (at_ / 2) (ptS (rodAt xs (at_ / 2)) (at_ % 2) n)
def reachI (u l : Int) : Nat → List IntA2 → Nat → Int → List Int → List Int
  | 0, xs, _, _, acc => putL acc (numF xs)
  | d + 1, xs, at_, m, acc => (List.range (mostP u l at_ + 1).toNat).foldl (fun acc n => if lftP xs at_ n m < 0 then acc else reachI u l d (setP xs at_ n) (at_ + 1) (lftP xs at_ n m) acc) acc
def RchI (u l : Int) : Nat → List IntA2 → Nat → Int → Int → Prop
  | 0, xs, _, _, x => x = numF xs
  | d + 1, xs, at_, m, x => ∃ n ∈ List.range (mostP u l at_ + 1).toNat, ¬ lftP xs at_ n m < 0 ∧ RchI u l d (setP xs at_ n) (at_ + 1) (lftP xs at_ n m) x
theorem mem_reachI {u l : Int} : ∀ (d : Nat) (xs : List IntA2) (at_ : Nat) (m : Int) (acc : List Int) (x : Int), x ∈ reachI u l d xs at_ m acc ↔ x ∈ acc ∨ RchI u l d xs at_ m x
  | 0, xs, at_, m, acc, x => by rw [reachI, RchI]; exact mem_put
  | d + 1, xs, at_, m, acc, x => by
    rw [reachI, RchI]
    refine mem_foldl (P := fun n x => ¬ lftP xs at_ n m < 0 ∧ RchI u l d (setP xs at_ n) (at_ + 1) (lftP xs at_ n m) x) (fun acc n x => ?_) _ _ _
    split
    · rename_i h; simp [h]
    · rename_i h; rw [mem_reachI d]; simp [h]
theorem ris_reachI {u l : Int} : ∀ (d : Nat) (xs : List IntA2) (at_ : Nat) (m : Int) (acc : List Int), risL acc → risL (reachI u l d xs at_ m acc)
  | 0, xs, at_, m, acc, h => by rw [reachI]; exact risL_put _ h
  | d + 1, xs, at_, m, acc, h => by
    rw [reachI]
    refine ris_foldl (fun acc n h => ?_) _ _ h
    split
    · exact h
    · exact ris_reachI d _ _ _ _ h

/-! ### The reference: rod by rod -/
def prt (r : IntA2) (a b : Nat) : Int := (if r.a = a then 0 else 1) + (if r.b = b then 0 else 1)
def reachS (u l : Int) : Nat → List IntA2 → Nat → Int → List Int
  | 0, _, _, _ => [0]
  | d + 1, xs, k, m => (List.range (u + 1).toNat).foldl (fun acc a => (List.range (l + 1).toNat).foldl (fun acc b => if m - prt (rodAt xs k) a b < 0 then acc else (reachS u l d xs (k + 1) (m - prt (rodAt xs k) a b)).foldl (fun acc r => putL acc ((5 * (a : Int) + b) * p10 d + r)) acc) acc) []
def RchS (u l : Int) : Nat → List IntA2 → Nat → Int → Int → Prop
  | 0, _, _, _, x => x = 0
  | d + 1, xs, k, m, x => ∃ a ∈ List.range (u + 1).toNat, ∃ b ∈ List.range (l + 1).toNat, ¬ m - prt (rodAt xs k) a b < 0 ∧ ∃ r, RchS u l d xs (k + 1) (m - prt (rodAt xs k) a b) r ∧ x = (5 * (a : Int) + b) * p10 d + r
theorem mem_reachS {u l : Int} : ∀ (d : Nat) (xs : List IntA2) (k : Nat) (m : Int) (x : Int), x ∈ reachS u l d xs k m ↔ RchS u l d xs k m x
  | 0, xs, k, m, x => by rw [reachS, RchS]; simp
  | d + 1, xs, k, m, x => by
    rw [reachS, RchS]
    rw [mem_foldl (P := fun a x => ∃ b ∈ List.range (l + 1).toNat, ¬ m - prt (rodAt xs k) a b < 0 ∧ ∃ r, RchS u l d xs (k + 1) (m - prt (rodAt xs k) a b) r ∧ x = (5 * (a : Int) + b) * p10 d + r) (fun acc a x => ?_)]
    · simp
    · rw [mem_foldl (P := fun b x => ¬ m - prt (rodAt xs k) a b < 0 ∧ ∃ r, RchS u l d xs (k + 1) (m - prt (rodAt xs k) a b) r ∧ x = (5 * (a : Int) + b) * p10 d + r) (fun acc b x => ?_)]
      split
      · rename_i h; simp [h]
      · rename_i h
        rw [mem_foldl (P := fun r x => x = (5 * (a : Int) + b) * p10 d + r) (fun acc r x => mem_put)]
        simp only [mem_reachS d, h, not_false_eq_true, true_and]
theorem ris_reachS {u l : Int} : ∀ (d : Nat) (xs : List IntA2) (k : Nat) (m : Int), risL (reachS u l d xs k m)
  | 0, xs, k, m => by rw [reachS]; unfold risL; simp
  | d + 1, xs, k, m => by
    rw [reachS]
    refine ris_foldl (fun acc a h => ris_foldl (fun acc b h => ?_) _ _ h) _ _ (by unfold risL; simp)
    split
    · exact h
    · exact ris_foldl (fun acc r h => risL_put _ h) _ _ h

/-! ### They reach the same -/
theorem RchS_congr {u l : Int} : ∀ (d : Nat) {xs ys : List IntA2} (k : Nat) (m x : Int), (∀ j, k ≤ j → xs[j]? = ys[j]?) → (RchS u l d xs k m x ↔ RchS u l d ys k m x)
  | 0, xs, ys, k, m, x, h => by rw [RchS, RchS]
  | d + 1, xs, ys, k, m, x, h => by
    have hr : rodAt xs k = rodAt ys k := by rw [rodAt, rodAt, h k (Nat.le_refl _)]
    rw [RchS, RchS, hr]
    have ih := fun m x => RchS_congr (u := u) (l := l) d (xs := xs) (ys := ys) (k + 1) m x (fun j hj => h j (by omega))
    simp only [ih]
theorem rch_step {r : IntA2} {m : Int} (a b : Nat) : lessM r.b b (lessM r.a a m) = m - prt r a b := by
  unfold lessM prt
  by_cases h1 : (a : Int) = r.a <;> by_cases h2 : (b : Int) = r.b <;> simp [h1, h2, eq_comm] <;> omega
theorem lessM_le (o n m : Int) : lessM o n m ≤ m := by unfold lessM; split <;> omega
theorem rch_eq {u l : Int} : ∀ (d : Nat) (xs : List IntA2) (k : Nat) (m x : Int), xs.length = k + d → (RchI u l (2 * d) xs (2 * k) m x ↔ ∃ r, RchS u l d xs k m r ∧ x = numF (xs.take k) * p10 d + r)
  | 0, xs, k, m, x, hk => by
    rw [Nat.mul_zero, RchI]
    simp only [RchS]
    rw [List.take_of_length_le (by omega)]
    constructor
    · intro h; exact ⟨0, rfl, by rw [h, show p10 0 = 1 from rfl]; omega⟩
    · rintro ⟨r, rfl, h⟩; rw [h, show p10 0 = 1 from rfl]; omega
  | d + 1, xs, k, m, x, hk => by
    have hkl : k < xs.length := by omega
    have hx := getLt hkl
    generalize xs[k] = r at hx
    have hro := rodAt_eq hx
    have e1 : 2 * k % 2 = 0 := by omega
    have e2 : 2 * k / 2 = k := by omega
    have e3 : (2 * k + 1) % 2 = 1 := by omega
    have e4 : (2 * k + 1) / 2 = k := by omega
    have key : ∀ a b : Nat, RchI u l (2 * d) (setP (setP xs (2 * k) a) (2 * k + 1) b) (2 * k + 1 + 1) (lftP (setP xs (2 * k) a) (2 * k + 1) b (lftP xs (2 * k) a m)) x ↔ ∃ q, RchS u l d xs (k + 1) (m - prt r a b) q ∧ x = numF (xs.take k) * p10 (d + 1) + ((5 * (a : Int) + b) * p10 d + q) := by
      intro a b
      have hs1 : setP xs (2 * k) a = xs.set k ⟨a, r.b⟩ := by unfold setP ptS; rw [e1, e2, hro]; rfl
      have hg1 : (xs.set k (⟨a, r.b⟩ : IntA2))[k]? = some ⟨a, r.b⟩ := by rw [List.getElem?_set, if_pos rfl, if_pos hkl]
      have hs2 : setP (setP xs (2 * k) a) (2 * k + 1) b = xs.set k ⟨a, b⟩ := by rw [hs1]; unfold setP ptS; rw [e3, e4, rodAt_eq hg1, List.set_set]; rfl
      have hl : lftP (setP xs (2 * k) a) (2 * k + 1) b (lftP xs (2 * k) a m) = m - prt r a b := by
        rw [← rch_step, hs1]; unfold lftP ptA; rw [e1, e2, e3, e4, rodAt_eq hg1, hro]; rfl
      have hg2 : (xs.set k (⟨a, b⟩ : IntA2))[k]? = some ⟨a, b⟩ := by rw [List.getElem?_set, if_pos rfl, if_pos hkl]
      have hn : numF ((xs.set k (⟨a, b⟩ : IntA2)).take (k + 1)) = 10 * numF (xs.take k) + (5 * (a : Int) + b) := by
        rw [numF_snoc hg2, List.take_set_of_le (Nat.le_refl _)]
      rw [hs2, hl, show 2 * k + 1 + 1 = 2 * (k + 1) by omega, rch_eq d _ (k + 1) _ x (by rw [List.length_set]; omega), hn, p10_succ]
      have hc := fun q => RchS_congr (u := u) (l := l) d (xs := xs.set k ⟨a, b⟩) (ys := xs) (k + 1) (m - prt r a b) q (fun j hj => by rw [List.getElem?_set, if_neg (by omega)])
      simp only [hc]
      have ha : ∀ N v p q : Int, (10 * N + v) * p + q = N * (10 * p) + (v * p + q) := fun N v p q => by rw [Int.add_mul, Int.mul_comm 10 N, Int.mul_assoc]; omega
      simp only [ha]
    rw [show 2 * (d + 1) = 2 * d + 1 + 1 by omega, RchI]
    simp only [RchI, RchS, hro, key]
    have hm1 : mostP u l (2 * k) = u := by unfold mostP; rw [e1]; rfl
    have hm2 : mostP u l (2 * k + 1) = l := by unfold mostP; rw [e3]; rfl
    rw [hm1, hm2]
    have hl2 : ∀ a b : Nat, lftP (setP xs (2 * k) a) (2 * k + 1) b (lftP xs (2 * k) a m) = m - prt r a b := by
      intro a b
      have hs1 : setP xs (2 * k) a = xs.set k ⟨a, r.b⟩ := by unfold setP ptS; rw [e1, e2, hro]; rfl
      have hg1 : (xs.set k (⟨a, r.b⟩ : IntA2))[k]? = some ⟨a, r.b⟩ := by rw [List.getElem?_set, if_pos rfl, if_pos hkl]
      rw [← rch_step, hs1]; unfold lftP ptA; rw [e1, e2, e3, e4, rodAt_eq hg1, hro]; rfl
    constructor
    · rintro ⟨a, ha, h1, b, hb, h2, q, hq, hxq⟩
      exact ⟨_, ⟨a, ha, b, hb, by rw [← hl2]; exact h2, q, hq, rfl⟩, hxq⟩
    · rintro ⟨_, ⟨a, ha, b, hb, h2, q, hq, rfl⟩, hxq⟩
      refine ⟨a, ha, ?_, b, hb, by rw [hl2]; exact h2, q, hq, hxq⟩
      have h3 := hl2 a b
      have h4 : lftP (setP xs (2 * k) a) (2 * k + 1) b (lftP xs (2 * k) a m) ≤ lftP xs (2 * k) a m := lessM_le _ _ _
      omega
theorem reach_same {u l : Int} {xs : List IntA2} (m : Int) : reachI u l (2 * xs.length) xs 0 m [] = reachS u l xs.length xs 0 m := by
  refine ris_ext (ris_reachI _ _ _ _ _ (by unfold risL; simp)) (ris_reachS _ _ _ _) fun x => ?_
  have h := rch_eq (u := u) (l := l) xs.length xs 0 m x (by omega)
  rw [mem_reachI, mem_reachS]
  rw [Nat.mul_zero] at h
  rw [h]
  simp [numF]
end Go.Proofs.Ytjhlhkglpecdbaa
