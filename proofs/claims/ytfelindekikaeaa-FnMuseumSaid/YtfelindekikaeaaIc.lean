/- The museum: an exhibit moved, loads, beads, what is shown; what the law of the museum says (plain). By an AI agent. -/
import Derived.Test.YtfelindekikaeaaIb
set_option linter.unusedVariables false
set_option linter.unusedSimpArgs false
namespace Go.Proofs.Ytfelindekikaeaa
open Go Go.RowKit K

/-! ### Moved -/
def inCase (x : Exhibit) (c : Int) : Exhibit := ⟨x.id, x.land, x.made, x.upper, x.lower, x.rods, c⟩
def mvL (xs : List Exhibit) (i c : Int) : List Exhibit := xs.set (findP (byXid i) xs).toNat (inCase (atE xs (findP (byXid i) xs)) c)
theorem mvL_len (xs : List Exhibit) (i c : Int) : (mvL xs i c).length = xs.length := by unfold mvL; rw [List.length_set]
def mvB (xs : List Exhibit) (i c : Int) : Bool := kinsB xs i && exhsB (mvL xs i c)
def mvR (xs : List Exhibit) (i c : Int) : List Exhibit := if mvB xs i c = true then mvL xs i c else []
theorem mvR_yes {xs : List Exhibit} {i c : Int} (h : mvB xs i c = true) : mvR xs i c = mvL xs i c := by rw [mvR, if_pos h]
theorem mvR_no {xs : List Exhibit} {i c : Int} (h : mvB xs i c = false) : mvR xs i c = [] := by rw [mvR, if_neg (by rw [h]; simp)]
theorem kinsB_ok {xs : List Exhibit} {i : Int} (h : kinsB xs i = true) : exhsB xs = true ∧ 0 ≤ findP (byXid i) xs := by
  unfold kinsB at h; simp only [Bool.and_eq_true, decide_eq_true_eq] at h; exact h
theorem mvL_at {xs : List Exhibit} {i c : Int} (h : kinsB xs i = true) : (mvL xs i c)[(findP (byXid i) xs).toNat]? = some (inCase (atE xs (findP (byXid i) xs)) c) := by
  obtain ⟨hlt, z, hz, _⟩ := findP_ge (kinsB_ok h).2
  unfold mvL
  rw [List.getElem?_set, if_pos rfl, if_pos hlt]
theorem mvB_case {xs : List Exhibit} {i c : Int} (h : inB c 0 9 = false) : mvB xs i c = false := by
  unfold mvB
  cases hk : kinsB xs i with
  | false => rfl
  | true =>
    cases hm : exhsB (mvL xs i c) with
    | false => rfl
    | true =>
      exfalso
      have := exhsB_at hm (mvL_at (c := c) hk)
      have hb := (exhB_bd this).2.2.2.2.2
      unfold inCase at hb
      dsimp only at hb
      have : inB c 0 9 = true := by simp only [inB, Bool.and_eq_true, decide_eq_true_eq]; exact hb
      rw [this] at h; cases h
theorem mvB_no {xs : List Exhibit} {i c : Int} (h : kinsB xs i = false ∨ exhsB (mvL xs i c) = false) : mvB xs i c = false := by
  unfold mvB
  rcases h with h | h
  · rw [h, Bool.false_and]
  · rw [h, Bool.and_false]
theorem mvB_yes {xs : List Exhibit} {i c : Int} (h : kinsB xs i = true) (h2 : exhsB (mvL xs i c) = true) : mvB xs i c = true := by unfold mvB; rw [h, h2]; rfl
theorem mvR_good {xs : List Exhibit} {i c : Int} (h : mvB xs i c = true) : exhsB (mvR xs i c) = true := by
  rw [mvR_yes h]
  unfold mvB at h; simp only [Bool.and_eq_true] at h; exact h.2
theorem mvR_len (xs : List Exhibit) (i c : Int) : (mvR xs i c).length ≤ 10 := by
  cases h : mvB xs i c with
  | false => rw [mvR_no h]; simp
  | true => exact exhsB_len (mvR_good h)

/-! ### Loads and beads -/
def clR (xs : List Exhibit) : List Int := if exhsB xs = true then loadsE xs else []
theorem clR_yes {xs : List Exhibit} (h : exhsB xs = true) : clR xs = loadsE xs := by rw [clR, if_pos h]
theorem clR_no {xs : List Exhibit} (h : exhsB xs = false) : clR xs = [] := by rw [clR, if_neg (by rw [h]; simp)]
theorem loadsE_take (xs : List Exhibit) (c : Nat) (h : c < 9) : (loadsE xs).take (c + 1) = (loadsE xs).take c ++ [loadE xs ((c : Int) + 1)] := take_snoc (loadsE_get xs h)
def bsF (xs : List Exhibit) : Int := xs.foldl (fun s x => if 0 < x.cs then s + (x.upper + x.lower) * x.rods else s) 0
theorem bsF_snoc {xs : List Exhibit} {k : Nat} {x : Exhibit} (h : xs[k]? = some x) : bsF (xs.take (k + 1)) = if 0 < x.cs then bsF (xs.take k) + (x.upper + x.lower) * x.rods else bsF (xs.take k) := by
  unfold bsF; rw [take_snoc h, List.foldl_append]; rfl
theorem beads_bd {x : Exhibit} (h : exhB x = true) : 0 ≤ (x.upper + x.lower) * x.rods ∧ (x.upper + x.lower) * x.rods ≤ 372 := by
  have hb := exhB_bd h
  refine ⟨Int.mul_nonneg (by omega) (by omega), ?_⟩
  have := Int.mul_le_mul (show x.upper + x.lower ≤ 12 by omega) (show x.rods ≤ 31 by omega) (by omega) (by omega)
  omega
theorem bsF_bd {xs : List Exhibit} (h : ∀ y ∈ xs, exhB y = true) : ∀ k, 0 ≤ bsF (xs.take k) ∧ bsF (xs.take k) ≤ 372 * (k : Int)
  | 0 => ⟨Int.le_refl _, Int.le_refl _⟩
  | k + 1 => by
    have ih := bsF_bd h k
    cases hx : xs[k]? with
    | none =>
      have hl : xs.length ≤ k := by simpa using hx
      rw [List.take_of_length_le (by omega)] at ih ⊢; omega
    | some x =>
      have hb := beads_bd (h x (List.mem_of_getElem? hx))
      rw [bsF_snoc hx]; split <;> omega
def bsR (xs : List Exhibit) : Int := if exhsB xs = true then bsF xs else 0
theorem bsR_yes {xs : List Exhibit} (h : exhsB xs = true) : bsR xs = bsF xs := by rw [bsR, if_pos h]
theorem bsR_no {xs : List Exhibit} (h : exhsB xs = false) : bsR xs = 0 := by rw [bsR, if_neg (by rw [h]; simp)]

/-! ### Shown -/
def sumR (l : List Exhibit) : Int := l.foldl (fun s x => s + x.rods) 0
theorem sumR_snoc (l : List Exhibit) (x : Exhibit) : sumR (l ++ [x]) = sumR l + x.rods := by unfold sumR; rw [List.foldl_append]; rfl
theorem sumR_take {l : List Exhibit} {k : Nat} {x : Exhibit} (h : l[k]? = some x) : sumR (l.take (k + 1)) = sumR (l.take k) + x.rods := by rw [take_snoc h, sumR_snoc]
theorem kinE_symm (a b : Exhibit) : kinE a b = kinE b a := by
  unfold kinE
  rw [Bool.eq_iff_iff]
  simp only [Bool.and_eq_true, beq_iff_eq]
  constructor <;> (rintro ⟨h1, h2⟩; exact ⟨h1.symm, h2.symm⟩)
def anyK (x : Exhibit) (l : List Exhibit) : Bool := l.any fun c => kinE x c
theorem anyK_zero (x : Exhibit) (l : List Exhibit) : anyK x (l.take 0) = false := rfl
theorem anyK_take {x c : Exhibit} {l : List Exhibit} {k : Nat} (h : l[k]? = some c) : anyK x (l.take (k + 1)) = (anyK x (l.take k) || kinE x c) := by
  unfold anyK; rw [take_snoc h, List.any_append]; simp
def showS (room : Int) (ch : List Exhibit) (x : Exhibit) : List Exhibit := if (!(anyK x ch) && decide (sumR ch + x.rods ≤ room)) = true then ch ++ [x] else ch
def chR (ys : List Exhibit) (room : Int) : List Exhibit := ys.foldl (showS room) []
theorem chR_snoc {ys : List Exhibit} {room : Int} {k : Nat} {x : Exhibit} (h : ys[k]? = some x) : chR (ys.take (k + 1)) room = showS room (chR (ys.take k) room) x := by
  unfold chR; rw [take_snoc h, List.foldl_append]; rfl
theorem chR_yes {ys : List Exhibit} {room : Int} {k : Nat} {x : Exhibit} (h : ys[k]? = some x) (h1 : anyK x (chR (ys.take k) room) = false) (h2 : sumR (chR (ys.take k) room) + x.rods ≤ room) : chR (ys.take (k + 1)) room = chR (ys.take k) room ++ [x] := by
  rw [chR_snoc h, showS, if_pos (by rw [h1, decide_eq_true h2]; rfl)]
theorem chR_no {ys : List Exhibit} {room : Int} {k : Nat} {x : Exhibit} (h : ys[k]? = some x) (h1 : anyK x (chR (ys.take k) room) = true ∨ ¬ sumR (chR (ys.take k) room) + x.rods ≤ room) : chR (ys.take (k + 1)) room = chR (ys.take k) room := by
  rw [chR_snoc h, showS, if_neg]
  rcases h1 with h1 | h1
  · rw [h1]; simp
  · rw [decide_eq_false h1]; simp
theorem chR_mem {ys : List Exhibit} {room : Int} : ∀ k, ∀ y ∈ chR (ys.take k) room, ∃ j, j < k ∧ ys[j]? = some y
  | 0, y, h => by cases h
  | k + 1, y, h => by
    cases hx : ys[k]? with
    | none =>
      have hl : ys.length ≤ k := by simpa using hx
      rw [List.take_of_length_le (by omega)] at h
      have ih := chR_mem (room := room) k y (by rw [List.take_of_length_le hl]; exact h)
      obtain ⟨j, hj, hy⟩ := ih
      exact ⟨j, by omega, hy⟩
    | some x =>
      rw [chR_snoc hx, showS] at h
      split at h
      · rcases List.mem_append.1 h with h | h
        · obtain ⟨j, hj, hy⟩ := chR_mem (room := room) k y h
          exact ⟨j, by omega, hy⟩
        · obtain rfl := List.mem_singleton.1 h
          exact ⟨k, by omega, hx⟩
      · obtain ⟨j, hj, hy⟩ := chR_mem (room := room) k y h
        exact ⟨j, by omega, hy⟩
theorem chR_len {ys : List Exhibit} {room : Int} : ∀ k, (chR (ys.take k) room).length ≤ k
  | 0 => Nat.le_refl _
  | k + 1 => by
    have ih := chR_len (ys := ys) (room := room) k
    cases hx : ys[k]? with
    | none =>
      have hl : ys.length ≤ k := by simpa using hx
      rw [List.take_of_length_le (by omega)]
      rw [List.take_of_length_le hl] at ih; omega
    | some x =>
      rw [chR_snoc hx, showS]; split
      · rw [List.length_append]; simp; omega
      · omega
theorem chR_sum {ys : List Exhibit} {room : Int} (h : ∀ y ∈ ys, 0 ≤ y.rods) (hr : 0 ≤ room) : ∀ k, 0 ≤ sumR (chR (ys.take k) room) ∧ sumR (chR (ys.take k) room) ≤ room
  | 0 => ⟨Int.le_refl _, hr⟩
  | k + 1 => by
    have ih := chR_sum (room := room) h hr k
    cases hx : ys[k]? with
    | none =>
      have hl : ys.length ≤ k := by simpa using hx
      rw [List.take_of_length_le (by omega)]
      rw [List.take_of_length_le hl] at ih; exact ih
    | some x =>
      have h0 := h x (List.mem_of_getElem? hx)
      rw [chR_snoc hx, showS]
      split
      · rename_i hc
        simp only [Bool.and_eq_true, decide_eq_true_eq] at hc
        rw [sumR_snoc]; omega
      · exact ih
theorem fit_yes {d a b : Bool} (h : (d && !a) = true) : (!b) = (d && !(a || b)) := by cases d <;> cases a <;> cases b <;> simp_all
theorem fit_no {d a b : Bool} (h : (d && !a) = false) : false = (d && !(a || b)) := by cases d <;> cases a <;> cases b <;> simp_all
theorem fit_and {d a : Bool} (h : (d && !a) = true) : d = true ∧ a = false := by cases d <;> cases a <;> simp_all
theorem fit_or {d a : Bool} (h : (d && !a) = false) : a = true ∨ d = false := by cases d <;> cases a <;> simp_all
theorem sumR_bd {l : List Exhibit} (h : ∀ y ∈ l, 0 ≤ y.rods ∧ y.rods ≤ 31) : ∀ k, 0 ≤ sumR (l.take k) ∧ sumR (l.take k) ≤ 31 * (k : Int)
  | 0 => ⟨Int.le_refl _, Int.le_refl _⟩
  | k + 1 => by
    have ih := sumR_bd h k
    cases hx : l[k]? with
    | none =>
      have hl : l.length ≤ k := by simpa using hx
      rw [List.take_of_length_le (by omega)]
      rw [List.take_of_length_le hl] at ih; omega
    | some x =>
      have := h x (List.mem_of_getElem? hx)
      rw [sumR_take hx]; omega
theorem chR_rods {xs : List Exhibit} (h : exhsB xs = true) (room : Int) (k : Nat) : ∀ y ∈ chR ((ageL xs).take k) room, 0 ≤ y.rods ∧ y.rods ≤ 31 := fun y hy => by
  obtain ⟨j, _, hj⟩ := chR_mem k y hy
  have := exhB_bd (exhsB_mem h y (ordG_mem.1 (List.mem_of_getElem? hj)))
  omega
def ids (l : List Exhibit) : List Int := l.map fun x => x.id
theorem ids_append (a b : List Exhibit) : ids (a ++ b) = ids a ++ ids b := List.map_append
theorem ids_len (l : List Exhibit) : (ids l).length = l.length := by simp [ids]
def shB (xs : List Exhibit) (room : Int) : Bool := exhsB xs && inB room 0 500
def shR (xs : List Exhibit) (room : Int) : List Int := if shB xs room = true then ids (chR (ageL xs) room) else []
theorem shB_ok {xs : List Exhibit} {room : Int} (h : shB xs room = true) : exhsB xs = true ∧ (0 ≤ room ∧ room ≤ 500) := by
  unfold shB inB at h; simp only [Bool.and_eq_true, decide_eq_true_eq] at h; exact h
theorem shB_no {xs : List Exhibit} {room : Int} (h : exhsB xs = false ∨ inB room 0 500 = false) : shB xs room = false := by
  rcases h with h | h <;> unfold shB <;> rw [h] <;> simp
theorem shR_yes {xs : List Exhibit} {room : Int} (h : shB xs room = true) : shR xs room = ids (chR (ageL xs) room) := by rw [shR, if_pos h]
theorem shR_no {xs : List Exhibit} {room : Int} (h : shB xs room = false) : shR xs room = [] := by rw [shR, if_neg (by rw [h]; simp)]
theorem chR_all_len {xs : List Exhibit} {room : Int} : (chR (ageL xs) room).length ≤ xs.length := by
  have := chR_len (ys := ageL xs) (room := room) (ageL xs).length
  rw [List.take_length, ordG_len] at this; exact this

/-! ### What is shown fits -/
def sumIn (l : List Int) (xs : List Exhibit) : Int := xs.foldl (fun s x => if x.id ∈ l then s + x.rods else s) 0
theorem sumIn_snoc {l : List Int} {xs : List Exhibit} {k : Nat} {x : Exhibit} (h : xs[k]? = some x) : sumIn l (xs.take (k + 1)) = if x.id ∈ l then sumIn l (xs.take k) + x.rods else sumIn l (xs.take k) := by
  unfold sumIn; rw [take_snoc h, List.foldl_append]; rfl
theorem sumIn_go (l : List Int) : ∀ (xs : List Exhibit) (s : Int), xs.foldl (fun s x => if x.id ∈ l then s + x.rods else s) s = s + sumIn l xs
  | [], s => by simp [sumIn]
  | x :: xs, s => by
    unfold sumIn
    rw [List.foldl_cons, List.foldl_cons, sumIn_go l xs, sumIn_go l xs]
    split <;> omega
theorem sumIn_cons (l : List Int) (x : Exhibit) (xs : List Exhibit) : sumIn l (x :: xs) = (if x.id ∈ l then x.rods else 0) + sumIn l xs := by
  rw [sumIn, List.foldl_cons, sumIn_go]; split <;> omega
theorem sumIn_perm {l : List Int} {xs ys : List Exhibit} (h : xs.Perm ys) : sumIn l xs = sumIn l ys := by
  induction h with
  | nil => rfl
  | cons x _ ih => rw [sumIn_cons, sumIn_cons, ih]
  | swap x y t => rw [sumIn_cons, sumIn_cons, sumIn_cons, sumIn_cons]; omega
  | trans _ _ h1 h2 => rw [h1, h2]
theorem sumIn_congr {l m : List Int} : ∀ {xs : List Exhibit}, (∀ x ∈ xs, x.id ∈ l ↔ x.id ∈ m) → sumIn l xs = sumIn m xs
  | [], _ => rfl
  | x :: xs, h => by
    rw [sumIn_cons, sumIn_cons, sumIn_congr (fun y hy => h y (by simp [hy]))]
    have := h x (by simp)
    by_cases hx : x.id ∈ l
    · rw [if_pos hx, if_pos (this.1 hx)]
    · rw [if_neg hx, if_neg (fun h2 => hx (this.2 h2))]
theorem sumIn_nil : ∀ xs : List Exhibit, sumIn [] xs = 0
  | [] => rfl
  | x :: xs => by rw [sumIn_cons, sumIn_nil xs]; simp
theorem show_sum {ys : List Exhibit} {room : Int} (hd : ∀ (i j : Nat) (x y : Exhibit), ys[i]? = some x → ys[j]? = some y → x.id = y.id → i = j) : ∀ k, k ≤ ys.length → sumIn (ids (chR (ys.take k) room)) (ys.take k) = sumR (chR (ys.take k) room)
  | 0, _ => rfl
  | k + 1, hk => by
    have ih := show_sum (room := room) hd k (by omega)
    have hx := getLt (show k < ys.length by omega)
    generalize ys[k] = x at hx
    have hnot : x.id ∉ ids (chR (ys.take k) room) := fun hm => by
      obtain ⟨y, hy, hyx⟩ := List.mem_map.1 hm
      obtain ⟨j, hj, hyj⟩ := chR_mem k y hy
      have := hd j k y x hyj hx hyx
      omega
    rw [sumIn_snoc hx]
    by_cases hc : (!(anyK x (chR (ys.take k) room)) && decide (sumR (chR (ys.take k) room) + x.rods ≤ room)) = true
    · have he : chR (ys.take (k + 1)) room = chR (ys.take k) room ++ [x] := by rw [chR_snoc hx, showS, if_pos hc]
      rw [he, sumR_snoc, ids_append, if_pos (by simp [ids]), ← ih]
      congr 1
      apply sumIn_congr
      intro y hy
      obtain ⟨j, hj⟩ := List.mem_iff_getElem?.1 hy
      have hjl := (List.getElem?_eq_some_iff.1 hj).1
      rw [List.length_take] at hjl
      rw [List.getElem?_take_of_lt (by omega)] at hj
      have hne : y.id ≠ x.id := fun e => by have := hd j k y x hj hx e; omega
      simp only [List.mem_append]
      constructor
      · rintro (h | h)
        · exact h
        · exact absurd (by simpa [ids] using h) hne
      · exact .inl
    · have he : chR (ys.take (k + 1)) room = chR (ys.take k) room := by rw [chR_snoc hx, showS, if_neg hc]
      rw [he, if_neg hnot, ih]
theorem age_ids {xs : List Exhibit} (h : exhsB xs = true) : ∀ (i j : Nat) (x y : Exhibit), (ageL xs)[i]? = some x → (ageL xs)[j]? = some y → x.id = y.id → i = j := by
  have hn : (ids xs).Nodup := by
    unfold ids
    rw [List.nodup_iff_pairwise_ne, List.pairwise_iff_getElem]
    intro i j hi hj hij he
    rw [List.length_map] at hi hj
    rw [List.getElem_map, List.getElem_map] at he
    have := id_at h (getLt hi) (getLt hj) he
    omega
  have hp : (ids (ageL xs)).Nodup := ((ordG_perm (gt := ageG) xs).map (fun x : Exhibit => x.id)).nodup_iff.2 hn
  intro i j x y hx hy he
  have h1 : (ids (ageL xs))[i]? = some x.id := by simp [ids, hx]
  have h2 : (ids (ageL xs))[j]? = some x.id := by rw [he]; simp [ids, hy]
  obtain ⟨hi, e1⟩ := List.getElem?_eq_some_iff.1 h1
  obtain ⟨hj, e2⟩ := List.getElem?_eq_some_iff.1 h2
  have hpw := List.pairwise_iff_getElem.1 (List.nodup_iff_pairwise_ne.1 hp)
  rcases Nat.lt_trichotomy i j with hl | hl | hl
  · exact absurd (e1.trans e2.symm) (hpw i j hi hj hl)
  · exact hl
  · exact absurd (e2.trans e1.symm) (hpw j i hj hi hl)
theorem shown_fits {xs : List Exhibit} {room : Int} (h : shB xs room = true) : sumIn (shR xs room) xs ≤ room := by
  obtain ⟨hok, hr⟩ := shB_ok h
  have h1 := show_sum (room := room) (age_ids hok) (ageL xs).length (Nat.le_refl _)
  rw [List.take_length] at h1
  rw [shR_yes h, ← sumIn_perm (ordG_perm (gt := ageG) xs), h1]
  have := (chR_sum (ys := ageL xs) (room := room) (fun y hy => by have := exhB_bd (exhsB_mem hok y (ordG_mem.1 hy)); omega) hr.1 (ageL xs).length).2
  rwa [List.take_length] at this

theorem exhB_G {x : Exhibit} (h : exhB x = true) : GExhibit x := by
  have hb := exhB_bd h
  have hw := exhB_word h
  unfold wordB inB at hw
  simp only [Bool.and_eq_true, decide_eq_true_eq] at hw
  unfold GExhibit In64 maxLen; omega
theorem mvR_G (xs : List Exhibit) (i c : Int) : ∀ y ∈ mvR xs i c, GExhibit y := fun y hy => by
  cases h : mvB xs i c with
  | false => rw [mvR_no h] at hy; cases hy
  | true => exact exhB_G (exhsB_mem (mvR_good h) y hy)
theorem loads_le {xs : List Exhibit} (h : exhsB xs = true) {n : Int} (hn : n ∈ clR xs) : n ≤ 60 := by
  rw [clR_yes h] at hn
  obtain ⟨c, hc, rfl⟩ := List.mem_map.1 hn
  exact (exhsB_load h (List.mem_range.1 hc)).2
theorem clR_len {xs : List Exhibit} (h : exhsB xs = true) : (clR xs).length = 9 := by rw [clR_yes h, loadsE_len]
theorem sumIn_bd {l : List Int} {xs : List Exhibit} (h : ∀ y ∈ xs, -1000000 ≤ y.rods ∧ y.rods ≤ 1000000) : ∀ k : Nat, -1000000 * (k : Int) ≤ sumIn l (xs.take k) ∧ sumIn l (xs.take k) ≤ 1000000 * (k : Int)
  | 0 => ⟨Int.le_refl _, Int.le_refl _⟩
  | k + 1 => by
    have ih := sumIn_bd (l := l) h k
    cases hx : xs[k]? with
    | none =>
      have hl : xs.length ≤ k := by simpa using hx
      rw [List.take_of_length_le (by omega)]
      rw [List.take_of_length_le hl] at ih; omega
    | some x =>
      have := h x (List.mem_of_getElem? hx)
      rw [sumIn_snoc hx]; split <;> omega

/-! ### Kin of one another -/
theorem find_id {xs : List Exhibit} (h : exhsB xs = true) {y : Exhibit} (hy : y ∈ xs) : kinsB xs y.id = true ∧ atE xs (findP (byXid y.id) xs) = y := by
  obtain ⟨j, hj⟩ := List.mem_iff_getElem?.1 hy
  have hf : findP (byXid y.id) xs = j := findP_hit hj (by simp) (fun i hi z hz => by
    cases hb : byXid y.id z with
    | false => rfl
    | true => exfalso; have := id_at h hz hj (by simpa using hb); omega)
  refine ⟨kinsB_yes h (by rw [hf]; omega), ?_⟩
  rw [hf]
  exact atE_eq (by rw [Int.toNat_natCast]; exact hj)
theorem kins_mem {xs : List Exhibit} {i k : Int} (h : kinsB xs i = true) : k ∈ kinsR xs i ↔ ∃ y ∈ xs, y.id = k ∧ kinP (atE xs (findP (byXid i) xs)) i y = true := by
  unfold kinsR
  rw [selR_yes h]
  unfold selL
  rw [List.take_length, List.mem_map]
  constructor
  · rintro ⟨y, hy, rfl⟩
    obtain ⟨h1, h2⟩ := List.mem_filter.1 hy
    exact ⟨y, ordG_mem.1 h1, rfl, h2⟩
  · rintro ⟨y, hy, rfl, h2⟩
    exact ⟨y, List.mem_filter.2 ⟨ordG_mem.2 hy, h2⟩, rfl⟩
theorem kins_back {xs : List Exhibit} {i k : Int} (hk : k ∈ kinsR xs i) : kinsB xs k = true ∧ i ∈ kinsR xs k := by
  have hB : kinsB xs i = true := by
    cases h : kinsB xs i with
    | true => rfl
    | false => unfold kinsR at hk; rw [selR_no h] at hk; cases hk
  obtain ⟨hok, h0⟩ := kinsB_ok hB
  obtain ⟨hlt, z, hz, hzi⟩ := findP_ge h0
  have hzi : z.id = i := by simpa using hzi
  rw [kins_mem hB, atE_eq hz] at hk
  obtain ⟨y, hy, rfl, hp⟩ := hk
  obtain ⟨hB2, hat⟩ := find_id hok hy
  refine ⟨hB2, ?_⟩
  rw [kins_mem hB2, hat]
  refine ⟨z, List.mem_of_getElem? hz, hzi, ?_⟩
  unfold kinP at hp ⊢
  simp only [Bool.and_eq_true, bne_iff_ne] at hp ⊢
  exact ⟨fun e => hp.1 (by rw [← e, hzi]), by rw [kinE_symm]; exact hp.2⟩
theorem kin_id {xs : List Exhibit} (hG : ∀ y ∈ xs, GExhibit y) {i k : Int} (hk : k ∈ kinsR xs i) : In64 k := by
  have hB : kinsB xs i = true := by
    cases h : kinsB xs i with
    | true => rfl
    | false => unfold kinsR at hk; rw [selR_no h] at hk; cases hk
  rw [kins_mem hB] at hk
  obtain ⟨y, hy, rfl, _⟩ := hk
  exact (hG y hy).1
end Go.Proofs.Ytfelindekikaeaa
