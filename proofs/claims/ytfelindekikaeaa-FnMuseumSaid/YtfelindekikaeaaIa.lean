/- The museum: the plain functions. By an AI agent. -/
import Derived.Test.YtfelindekikaeaaWa
import Derived.Test.YtfelindekikaeaaKo
set_option linter.unusedVariables false
set_option linter.unusedSimpArgs false
namespace Go.Proofs.Ytfelindekikaeaa
open Go Go.RowKit K

structure Exhibit where
  id : Int
  land : ByteArray
  made : Int
  upper : Int
  lower : Int
  rods : Int
  cs : Int
def encExhibit (x : Exhibit) : List Value := [.int .i64 x.id, .string x.land, .int .i64 x.made, .int .i64 x.upper, .int .i64 x.lower, .int .i64 x.rods, .int .i64 x.cs]
theorem encExhibit_len (x : Exhibit) : (encExhibit x).length = 7 := rfl
theorem encExhibit_one (x : Exhibit) : ∀ u ∈ encExhibit x, u.oneCell' = true := list_one rfl
def GExhibit (x : Exhibit) : Prop := In64 x.id ∧ x.land.size ≤ maxLen ∧ In64 x.made ∧ In64 x.upper ∧ In64 x.lower ∧ In64 x.rods ∧ In64 x.cs
def encS (s : ByteArray) : List Value := [.string s]
theorem encS_len (s : ByteArray) : (encS s).length = 1 := rfl
theorem encS_one (s : ByteArray) : ∀ u ∈ encS s, u.oneCell' = true := list_one rfl
def zeroEx : Exhibit := ⟨0, ⟨#[]⟩, 0, 0, 0, 0, 0⟩

def exhB (x : Exhibit) : Bool := inB x.id 1 999 && wordB x.land && inB x.made 1000 2100 && inB x.upper 0 2 && inB x.lower 4 10 && inB x.rods 3 31 && inB x.cs 0 9
theorem exhB_bd {x : Exhibit} (h : exhB x = true) : (1 ≤ x.id ∧ x.id ≤ 999) ∧ (1000 ≤ x.made ∧ x.made ≤ 2100) ∧ (0 ≤ x.upper ∧ x.upper ≤ 2) ∧ (4 ≤ x.lower ∧ x.lower ≤ 10) ∧ (3 ≤ x.rods ∧ x.rods ≤ 31) ∧ (0 ≤ x.cs ∧ x.cs ≤ 9) := by
  unfold exhB inB at h
  simp only [Bool.and_eq_true, decide_eq_true_eq] at h
  omega
theorem exhB_word {x : Exhibit} (h : exhB x = true) : wordB x.land = true := by
  unfold exhB at h
  simp only [Bool.and_eq_true] at h
  exact h.1.1.1.1.1.2
def exhStep (xs : List Exhibit) (k : Nat) : Bool :=
  match xs[k]?, xs[k - 1]? with
  | some x, some y => exhB x && (decide (k = 0) || decide (y.id < x.id))
  | _, _ => true
theorem exhStep_eq {xs : List Exhibit} {k : Nat} {x y : Exhibit} (hx : xs[k]? = some x) (hy : xs[k - 1]? = some y) : exhStep xs k = (exhB x && (decide (k = 0) || decide (y.id < x.id))) := by
  simp [exhStep, hx, hy]

/-! ### The rods of a case -/
def loadE (xs : List Exhibit) (c : Int) : Int := xs.foldl (fun s x => if x.cs = c then s + x.rods else s) 0
theorem loadE_snoc {xs : List Exhibit} {k : Nat} {x : Exhibit} (h : xs[k]? = some x) (c : Int) : loadE (xs.take (k + 1)) c = if x.cs = c then loadE (xs.take k) c + x.rods else loadE (xs.take k) c := by
  unfold loadE; rw [take_snoc h, List.foldl_append]; rfl
theorem loadE_bd {xs : List Exhibit} (h : ∀ y ∈ xs, exhB y = true) (c : Int) : ∀ k, 0 ≤ loadE (xs.take k) c ∧ loadE (xs.take k) c ≤ 31 * (k : Int)
  | 0 => ⟨Int.le_refl _, Int.le_refl _⟩
  | k + 1 => by
    have ih := loadE_bd h c k
    cases hx : xs[k]? with
    | none =>
      have hl : xs.length ≤ k := by simpa using hx
      rw [List.take_of_length_le (by omega)] at ih ⊢; omega
    | some x =>
      have hb := exhB_bd (h x (List.mem_of_getElem? hx))
      rw [loadE_snoc hx]; split <;> omega
theorem loadE_none {xs : List Exhibit} {c : Int} (h : ∀ y ∈ xs, y.cs ≠ c) : loadE xs c = 0 := by
  unfold loadE
  have : ∀ (l : List Exhibit) (s : Int), (∀ y ∈ l, y.cs ≠ c) → l.foldl (fun s x => if x.cs = c then s + x.rods else s) s = s := by
    intro l
    induction l with
    | nil => intro s _; rfl
    | cons a l ih =>
      intro s hl
      rw [List.foldl_cons, if_neg (hl a (by simp))]
      exact ih s (fun y hy => hl y (by simp [hy]))
  exact this xs 0 h
def loadsE (xs : List Exhibit) : List Int := (List.range 9).map fun (c : Nat) => loadE xs ((c : Int) + 1)
theorem loadsE_len (xs : List Exhibit) : (loadsE xs).length = 9 := by simp [loadsE]
theorem loadsE_get (xs : List Exhibit) {c : Nat} (h : c < 9) : (loadsE xs)[c]? = some (loadE xs ((c : Int) + 1)) := by simp [loadsE, h]
theorem loadsE_nil : loadsE [] = List.replicate 9 0 := by decide
theorem loadsE_yes {xs : List Exhibit} {k : Nat} {x : Exhibit} (h : xs[k]? = some x) {c : Nat} (hc : x.cs = (c : Int) + 1) (hc9 : c < 9) : (loadsE (xs.take k)).set c (loadE (xs.take k) x.cs + x.rods) = loadsE (xs.take (k + 1)) := by
  rw [hc]
  apply List.ext_getElem?
  intro i
  by_cases hi : i < 9
  · rw [loadsE_get _ hi, loadE_snoc h, List.getElem?_set, loadsE_len]
    by_cases hic : c = i
    · subst hic; rw [if_pos rfl, if_pos hc9, if_pos (by omega)]
    · rw [if_neg hic, loadsE_get _ hi, if_neg (by omega)]
  · rw [List.getElem?_eq_none (by simp [loadsE_len]; omega), List.getElem?_eq_none (by simp [loadsE_len]; omega)]
theorem loadsE_no {xs : List Exhibit} {k : Nat} {x : Exhibit} (h : xs[k]? = some x) (hc : x.cs ≤ 0) : loadsE (xs.take k) = loadsE (xs.take (k + 1)) := by
  unfold loadsE
  apply List.map_congr_left
  intro c _
  rw [loadE_snoc h, if_neg (by omega)]
def exhsB (xs : List Exhibit) : Bool := listB 10 exhStep xs && (loadsE xs).all fun n => inB n 0 60
theorem exhsB_len {xs : List Exhibit} (h : exhsB xs = true) : xs.length ≤ 10 := by
  unfold exhsB at h; simp only [Bool.and_eq_true] at h; exact listB_len h.1
theorem steps_at {xs : List Exhibit} (h : ∀ j, j < xs.length → exhStep xs j = true) {k : Nat} {x : Exhibit} (hx : xs[k]? = some x) : exhB x = true := by
  have hk := (List.getElem?_eq_some_iff.1 hx).1
  have := h k hk
  rw [exhStep_eq hx (getLt (show k - 1 < xs.length by omega))] at this
  simp only [Bool.and_eq_true] at this
  exact this.1
theorem steps_mem {xs : List Exhibit} (h : ∀ j, j < xs.length → exhStep xs j = true) : ∀ y ∈ xs, exhB y = true := fun y hy => by
  obtain ⟨j, hj⟩ := List.mem_iff_getElem?.1 hy
  exact steps_at h hj
theorem exhsB_steps {xs : List Exhibit} (h : exhsB xs = true) : ∀ j, j < xs.length → exhStep xs j = true := fun j hj => by
  unfold exhsB at h; simp only [Bool.and_eq_true] at h; exact listB_step h.1 hj
theorem exhsB_at {xs : List Exhibit} (h : exhsB xs = true) {k : Nat} {x : Exhibit} (hx : xs[k]? = some x) : exhB x = true := steps_at (exhsB_steps h) hx
theorem exhsB_mem {xs : List Exhibit} (h : exhsB xs = true) : ∀ y ∈ xs, exhB y = true := steps_mem (exhsB_steps h)
theorem exhsB_load {xs : List Exhibit} (h : exhsB xs = true) {c : Nat} (hc : c < 9) : 0 ≤ loadE xs ((c : Int) + 1) ∧ loadE xs ((c : Int) + 1) ≤ 60 := by
  unfold exhsB at h; simp only [Bool.and_eq_true] at h
  have := List.all_eq_true.1 h.2 _ (List.mem_of_getElem? (loadsE_get xs hc))
  simpa [inB] using this
theorem exhsB_long {xs : List Exhibit} (h : 10 < xs.length) : exhsB xs = false := by unfold exhsB; rw [listB_long h, Bool.false_and]
theorem exhsB_step {xs : List Exhibit} {k : Nat} (hk : k < xs.length) (h : exhStep xs k = false) : exhsB xs = false := by unfold exhsB; rw [listB_false hk h, Bool.false_and]
theorem exhsB_all {xs : List Exhibit} (h10 : xs.length ≤ 10) (h : ∀ j, j < xs.length → exhStep xs j = true) : exhsB xs = (loadsE xs).all fun n => inB n 0 60 := by unfold exhsB; rw [listB_end h, decide_eq_true h10, Bool.true_and]
/-- The reference's end: no case of an exhibit is too full. -/
theorem exhsB_end {xs : List Exhibit} (h : ∀ j, j < xs.length → exhStep xs j = true) (hc : xs.length ≤ 10 → (∀ y ∈ xs, exhB y = true) → ∀ y ∈ xs, 0 < y.cs → loadE xs y.cs ≤ 60) : exhsB xs = decide (xs.length ≤ 10) := by
  by_cases h10 : xs.length ≤ 10
  · rw [exhsB_all h10 h, decide_eq_true h10, List.all_eq_true]
    intro n hn
    obtain ⟨c, hc9, rfl⟩ := List.mem_map.1 hn
    rw [List.mem_range] at hc9
    have hm := steps_mem h
    have hb := loadE_bd hm ((c : Int) + 1) xs.length
    rw [List.take_length] at hb
    by_cases he : ∃ y ∈ xs, y.cs = (c : Int) + 1
    · obtain ⟨y, hy, hyc⟩ := he
      have := hc h10 hm y hy (by omega)
      rw [hyc] at this
      simp only [inB, Bool.and_eq_true, decide_eq_true_eq]; omega
    · rw [loadE_none (fun y hy hyc => he ⟨y, hy, hyc⟩)]; rfl
  · rw [exhsB_long (by omega), decide_eq_false h10]
/-- A case that is too full. -/
theorem exhsB_full {xs : List Exhibit} {y : Exhibit} {r : Int} (hy : y ∈ xs) (hyc : 0 < y.cs) (hr : xs.length ≤ 10 → (∀ z ∈ xs, exhB z = true) → r = loadE xs y.cs) (h : 60 < r) : exhsB xs = false := by
  cases hb : exhsB xs with
  | false => rfl
  | true =>
    exfalso
    have hm := exhsB_mem hb
    have h2 := hr (exhsB_len hb) hm
    have h3 := exhB_bd (hm y hy)
    have h4 := exhsB_load hb (c := y.cs.toNat - 1) (by omega)
    rw [show ((y.cs.toNat - 1 : Nat) : Int) + 1 = y.cs by omega] at h4
    omega

/-! ### Found by its number -/
abbrev byXid (i : Int) : Exhibit → Bool := fun x => x.id == i
def kinE (a b : Exhibit) : Bool := (a.upper == b.upper) && (a.lower == b.lower)

/-! ### Put in by an order -/
def insQ {α : Type} (gt : α → α → Bool) (out : List α) (r : α) : Nat → Nat
  | 0 => 0
  | k + 1 => match out[k]? with
    | some y => if gt y r = true then insQ gt out r k else k + 1
    | none => k + 1
section
variable {α : Type} {gt : α → α → Bool} {out xs : List α} {r y : α} {k : Nat}
theorem insQ_yes (h : out[k]? = some y) (hg : gt y r = true) : insQ gt out r (k + 1) = insQ gt out r k := by simp only [insQ, h, if_pos hg]
theorem insQ_no (h : out[k]? = some y) (hg : gt y r = false) : insQ gt out r (k + 1) = k + 1 := by simp only [insQ, h, hg]; simp
theorem insQ_le (gt : α → α → Bool) (out : List α) (r : α) : ∀ k, insQ gt out r k ≤ k
  | 0 => Nat.le_refl _
  | k + 1 => by
    have ih := insQ_le gt out r k
    rw [insQ]
    split
    · split <;> omega
    · omega
def insO (gt : α → α → Bool) (out : List α) (r : α) : List α := out.take (insQ gt out r out.length) ++ [r] ++ out.drop (insQ gt out r out.length)
theorem insO_len : (insO gt out r).length = out.length + 1 := by
  have := insQ_le gt out r out.length
  simp [insO]; omega
theorem insO_perm : (insO gt out r).Perm (r :: out) := by
  unfold insO
  generalize insQ gt out r out.length = q
  have h1 : (out.take q ++ [r] ++ out.drop q).Perm ([r] ++ out.take q ++ out.drop q) := List.Perm.append_right _ List.perm_append_comm
  have h2 : [r] ++ out.take q ++ out.drop q = r :: out := by rw [List.append_assoc, List.take_append_drop]; rfl
  rw [h2] at h1
  exact h1
def ordG (gt : α → α → Bool) (xs : List α) : List α := xs.foldl (insO gt) []
theorem ordG_snoc (h : xs[k]? = some r) : ordG gt (xs.take (k + 1)) = insO gt (ordG gt (xs.take k)) r := by
  unfold ordG; rw [take_snoc h, List.foldl_append]; rfl
theorem ordF_perm : ∀ (xs out : List α), (xs.foldl (insO gt) out).Perm (out ++ xs)
  | [], out => by simp
  | x :: xs, out => by
    rw [List.foldl_cons]
    refine (ordF_perm xs _).trans ?_
    refine (List.Perm.append_right xs (insO_perm (gt := gt) (out := out) (r := x))).trans ?_
    exact (List.perm_middle (a := x) (l₁ := out) (l₂ := xs)).symm
theorem ordG_perm (xs : List α) : (ordG gt xs).Perm xs := by have := ordF_perm (gt := gt) xs []; simpa [ordG] using this
theorem ordG_len (xs : List α) : (ordG gt xs).length = xs.length := (ordG_perm xs).length_eq
theorem ordG_mem {xs : List α} : y ∈ ordG gt xs ↔ y ∈ xs := (ordG_perm xs).mem_iff
theorem insO_mem : y ∈ insO gt out r ↔ y = r ∨ y ∈ out := by rw [insO_perm.mem_iff, List.mem_cons]
end
def ageG (y r : Exhibit) : Bool := decide (y.made > r.made)
abbrev ageL (xs : List Exhibit) : List Exhibit := ordG ageG xs

/-! ### The kins -/
def kinsB (xs : List Exhibit) (i : Int) : Bool := exhsB xs && decide (0 ≤ findP (byXid i) xs)
def atE (xs : List Exhibit) (i : Int) : Exhibit := xs[i.toNat]?.getD zeroEx
theorem atE_eq {xs : List Exhibit} {i : Int} {x : Exhibit} (h : xs[i.toNat]? = some x) : atE xs i = x := by rw [atE, h]; rfl
def kinP (z : Exhibit) (i : Int) (x : Exhibit) : Bool := (x.id != i) && kinE x z
def kinsR (xs : List Exhibit) (i : Int) : List Int := selR (kinsB xs i) (kinP (atE xs (findP (byXid i) xs)) i) (fun x => x.id) (ageL xs)
theorem kinsR_len (xs : List Exhibit) (i : Int) : (kinsR xs i).length ≤ 10 := by
  unfold kinsR
  cases h : kinsB xs i with
  | false => rw [selR_no rfl]; simp
  | true =>
    have := selR_len (kinsB xs i) (kinP (atE xs (findP (byXid i) xs)) i) (fun x => x.id) (ageL xs)
    rw [h, ordG_len] at this
    refine Nat.le_trans this (exhsB_len (xs := xs) ?_)
    unfold kinsB at h; simp only [Bool.and_eq_true] at h; exact h.1
theorem kinsB_yes {xs : List Exhibit} {i : Int} (h : exhsB xs = true) (h0 : ¬ findP (byXid i) xs < 0) : kinsB xs i = true := by
  unfold kinsB; rw [h, decide_eq_true (by omega)]; rfl
theorem kinsB_no {xs : List Exhibit} {i : Int} (h : exhsB xs = false ∨ findP (byXid i) xs < 0) : kinsB xs i = false := by
  unfold kinsB
  rcases h with h | h
  · rw [h, Bool.false_and]
  · rw [decide_eq_false (by omega), Bool.and_false]

theorem kinsB_noG {xs : List Exhibit} {i : Int} (h : findG (exhsB xs) (byXid i) xs < 0) : kinsB xs i = false := by
  cases ho : exhsB xs with
  | false => exact kinsB_no (.inl ho)
  | true => rw [findG_yes ho] at h; exact kinsB_no (.inr h)
theorem kinP_eq {xs : List Exhibit} {i : Int} {y z : Exhibit} (h : atE xs (findP (byXid i) xs) = z) : kinP (atE xs (findP (byXid i) xs)) i y = ((y.id != i) && kinE y z) := by rw [h]; rfl

/-! ### The lands -/
section
variable {P : Program} {n : Nat} {σ : List (Nat × Value)} {w0 : Base} {μ : List Ent} {ty : TypeId}
theorem ov_sgtr {t u : TypeId} {x y : Operand} {a b : ByteArray} (hx : EV σ x = some (.string a)) (hy : EV σ y = some (.string b)) : OV P n (.binOp .gtr t x y u) ty (.bool (!(Op.bytesLess a.toList b.toList || a.toList == b.toList))) σ w0 μ :=
  run_sbin hx hy (fun w => rfl) (fun w => rfl) (fun w => rfl)
end
theorem lkB {σ : List (Nat × Value)} {t : Nat} {a b : Bool} (h : σ.lookup t = some (.bool a)) (e : a = b) : σ.lookup t = some (.bool b) := e ▸ h
def memB (s : ByteArray) (l : List ByteArray) : Bool := l.any fun t => t.toList == s.toList
theorem memB_zero (s : ByteArray) (l : List ByteArray) : memB s (l.take 0) = false := rfl
theorem memB_succ {s t : ByteArray} {l : List ByteArray} {k : Nat} (h : l[k]? = some t) : memB s (l.take (k + 1)) = (memB s (l.take k) || (t.toList == s.toList)) := by
  unfold memB; rw [take_snoc h, List.any_append]; simp
def landQ (made : List Int) (out : List ByteArray) (x : Exhibit) : Nat → Nat
  | 0 => 0
  | k + 1 => match made[k]?, out[k]? with
    | some m, some s => if (m == x.made && !(Op.bytesLess s.toList x.land.toList || s.toList == x.land.toList)) = true then landQ made out x k else k + 1
    | _, _ => k + 1
theorem landQ_yes {made : List Int} {out : List ByteArray} {x : Exhibit} {k : Nat} {m : Int} {s : ByteArray} (h1 : made[k]? = some m) (h2 : out[k]? = some s) (h : (m == x.made && !(Op.bytesLess s.toList x.land.toList || s.toList == x.land.toList)) = true) : landQ made out x (k + 1) = landQ made out x k := by
  simp only [landQ, h1, h2, if_pos h]
theorem landQ_no {made : List Int} {out : List ByteArray} {x : Exhibit} {k : Nat} {m : Int} {s : ByteArray} (h1 : made[k]? = some m) (h2 : out[k]? = some s) (h : (m == x.made && !(Op.bytesLess s.toList x.land.toList || s.toList == x.land.toList)) = false) : landQ made out x (k + 1) = k + 1 := by
  simp only [landQ, h1, h2, h]; simp
theorem landQ_le (made : List Int) (out : List ByteArray) (x : Exhibit) : ∀ k, landQ made out x k ≤ k
  | 0 => Nat.le_refl _
  | k + 1 => by
    have ih := landQ_le made out x k
    rw [landQ]
    split
    · split <;> omega
    · omega
def landI (made : List Int) (out : List ByteArray) (x : Exhibit) : List ByteArray := out.take (landQ made out x out.length) ++ [x.land] ++ out.drop (landQ made out x out.length)
theorem landI_len (made : List Int) (out : List ByteArray) (x : Exhibit) : (landI made out x).length = out.length + 1 := by
  have := landQ_le made out x out.length
  simp [landI]; omega
def landS (p : List ByteArray × List Int) (x : Exhibit) : List ByteArray × List Int := if memB x.land p.1 = true then p else (landI p.2 p.1 x, p.2 ++ [x.made])
def landF (ys : List Exhibit) : List ByteArray × List Int := ys.foldl landS ([], [])
theorem landF_snoc {ys : List Exhibit} {k : Nat} {x : Exhibit} (h : ys[k]? = some x) : landF (ys.take (k + 1)) = landS (landF (ys.take k)) x := by
  unfold landF; rw [take_snoc h, List.foldl_append]; rfl
theorem landF_known {ys : List Exhibit} {k : Nat} {x : Exhibit} (h : ys[k]? = some x) (hm : memB x.land (landF (ys.take k)).1 = true) : landF (ys.take (k + 1)) = landF (ys.take k) := by
  rw [landF_snoc h, landS, if_pos hm]
theorem landF_new {ys : List Exhibit} {k : Nat} {x : Exhibit} (h : ys[k]? = some x) (hm : memB x.land (landF (ys.take k)).1 = false) : landF (ys.take (k + 1)) = (landI (landF (ys.take k)).2 (landF (ys.take k)).1 x, (landF (ys.take k)).2 ++ [x.made]) := by
  rw [landF_snoc h, landS, if_neg (by rw [hm]; simp)]
theorem landF_len (ys : List Exhibit) : ∀ k, (landF (ys.take k)).1.length = (landF (ys.take k)).2.length ∧ (landF (ys.take k)).1.length ≤ k
  | 0 => ⟨rfl, Nat.le_refl _⟩
  | k + 1 => by
    have ih := landF_len ys k
    cases hx : ys[k]? with
    | none =>
      have hl : ys.length ≤ k := by simpa using hx
      rw [List.take_of_length_le (by omega)] at ih ⊢; omega
    | some x =>
      rw [landF_snoc hx, landS]
      split
      · omega
      · dsimp only; rw [landI_len, List.length_append]; simp; omega
def landsR (xs : List Exhibit) : List ByteArray := if exhsB xs = true then (landF (ageL xs)).1 else []
theorem landsR_yes {xs : List Exhibit} (h : exhsB xs = true) : landsR xs = (landF (ageL xs)).1 := by rw [landsR, if_pos h]
theorem landsR_no {xs : List Exhibit} (h : exhsB xs = false) : landsR xs = [] := by rw [landsR, if_neg (by rw [h]; simp)]
theorem landsR_len (xs : List Exhibit) : (landsR xs).length ≤ 10 := by
  cases h : exhsB xs with
  | false => rw [landsR_no h]; simp
  | true =>
    rw [landsR_yes h]
    have h1 := (landF_len (ageL xs) (ageL xs).length).2
    rw [List.take_length, ordG_len] at h1
    have := exhsB_len h; omega

/-! ### What a mark writes -/
def mtL : Nat → Int → List UInt8 → List UInt8
  | 0, _, l => l
  | f + 1, q, l => if q ≤ 0 then l else mtL f (q / 10) (UInt8.ofNat (IntKind.u8.wrap (48 + q % 10)).toNat :: l)
theorem mtL_end (f : Nat) {q : Int} (l : List UInt8) (h : q ≤ 0) : mtL f q l = l := by
  cases f with
  | zero => rfl
  | succ f => rw [mtL, if_pos h]
theorem mtL_step (f : Nat) {q : Int} (l : List UInt8) (h : ¬ q ≤ 0) : mtL (f + 1) q l = mtL f (q / 10) (UInt8.ofNat (IntKind.u8.wrap (48 + q % 10)).toNat :: l) := by rw [mtL, if_neg h]
def mtx (n : Int) : ByteArray := if n ≤ 0 then ⟨#[109, 48]⟩ else bs ([109] ++ mtL 16 n [])
theorem mtx_no {n : Int} (h : n ≤ 0) : mtx n = ⟨#[109, 48]⟩ := by rw [mtx, if_pos h]
theorem mtx_yes {n : Int} (h : ¬ n ≤ 0) : mtx n = bs ([109] ++ mtL 16 n []) := by rw [mtx, if_neg h]
def smarks (k0 : Int) (len : Nat) : List ByteArray := (List.range len).map fun (i : Nat) => mtx (k0 + (i : Int))
theorem smarks_len (k0 : Int) (len : Nat) : (smarks k0 len).length = len := by simp [smarks]
theorem smarks_get {k0 : Int} {len k : Nat} (h : k < len) : (smarks k0 len)[k]? = some (mtx (k0 + (k : Int))) := by simp [smarks, h]
theorem smarks_at {k0 : Int} {len k : Nat} (h : k < len) : (flat encS (smarks k0 len))[k]? = some (.string (mtx (k0 + (k : Int)))) := by
  have := flat_get encS_len _ k 0 _ (smarks_get (k0 := k0) h) (by decide)
  rw [Nat.mul_one, Nat.add_zero] at this
  exact this
theorem smarks_flen (k0 : Int) (len : Nat) : (flat encS (smarks k0 len)).length = len := by rw [flat_length encS_len, smarks_len, Nat.mul_one]
theorem over_smarks (k0 : Int) (len : Nat) (L : List Value) : over (flat encS (smarks k0 len)) L len = flat encS (smarks k0 len) ++ L.drop len := by
  unfold over
  rw [List.take_of_length_le (by rw [smarks_flen]; exact Nat.le_refl _)]
theorem markedS {bo : Option Nat} {len cap : Nat} {xs pad : List Value} (h : Sl 1 bo len cap xs pad) (k0 : Int) : Sl 1 bo len cap (flat encS (smarks k0 len)) ((xs ++ pad).drop len) := by
  refine ⟨by rw [smarks_flen, Nat.mul_one], ?_, h.le, h.max, h.nil⟩
  rw [List.length_append, smarks_flen, List.length_drop, h.lp]
  have := h.le
  omega
end Go.Proofs.Ytfelindekikaeaa
