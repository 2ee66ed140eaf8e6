/- Repairs: the plain functions. By an AI agent. -/
import Derived.Test.YtaajkamfeaafpaaWa
set_option linter.unusedVariables false
namespace Go.Proofs.Ytaajkamfeaafpaa
open Go Go.RowKit K

structure Wood where
  name : ByteArray
  hard : Int
  cost : Int
def encWood (x : Wood) : List Value := [.string x.name, .int .i64 x.hard, .int .i64 x.cost]
theorem encWood_len (x : Wood) : (encWood x).length = 3 := rfl
def GWood (x : Wood) : Prop := x.name.size ≤ maxLen ∧ In64 x.hard ∧ In64 x.cost

structure Repair where
  frame : Int
  wood : Int
  beads : Int
  rods : Int
  due : Int
def encRepair (x : Repair) : List Value := [.int .i64 x.frame, .int .i64 x.wood, .int .i64 x.beads, .int .i64 x.rods, .int .i64 x.due]
theorem encRepair_len (x : Repair) : (encRepair x).length = 5 := rfl
def GRepair (x : Repair) : Prop := In64 x.frame ∧ In64 x.wood ∧ In64 x.beads ∧ In64 x.rods ∧ In64 x.due

def sameB (a b : ByteArray) : Bool := a.toList == b.toList
/-- The test of place k: a wood, and none of its name before it. -/
def woodStep (xs : List Wood) (k : Nat) : Bool :=
  match xs[k]? with
  | some x => wordB x.name && inB x.hard 1 100 && inB x.cost 1 50 && (List.range k).all fun j => match xs[j]? with | some y => !(sameB y.name x.name) | none => true
  | none => true
def woodsB (xs : List Wood) : Bool := inB xs.length 1 8 && (List.range xs.length).all (woodStep xs)

def repairB (n : Nat) (x : Repair) : Bool := inB x.frame 1 999 && inB x.wood 0 ((n : Int) - 1) && inB x.beads 0 200 && inB x.rods 0 20 && inB x.due 0 4000
def repairStep (n : Nat) (xs : List Repair) (k : Nat) : Bool :=
  match xs[k]?, xs[k - 1]? with
  | some x, some y => repairB n x && (decide (k = 0) || decide (y.frame < x.frame))
  | _, _ => true
def repairsB (ws : List Wood) (xs : List Repair) : Bool := woodsB ws && listB 10 (repairStep ws.length) xs
theorem repairStep_eq {n : Nat} {xs : List Repair} {k : Nat} {x y : Repair} (hx : xs[k]? = some x) (hy : xs[k - 1]? = some y) : repairStep n xs k = (repairB n x && (decide (k = 0) || decide (y.frame < x.frame))) := by
  simp [repairStep, hx, hy]
theorem woodsB_false {xs : List Wood} {k : Nat} (hk : k < xs.length) (h : woodStep xs k = false) : woodsB xs = false := by
  unfold woodsB; rw [allRange_false hk h, Bool.and_false]
theorem woodsB_end {xs : List Wood} (h : ∀ k, k < xs.length → woodStep xs k = true) : woodsB xs = inB xs.length 1 8 := by
  unfold woodsB; rw [allRange_true h, Bool.and_true]
theorem woodStep_eq {xs : List Wood} {k : Nat} {x : Wood} (hx : xs[k]? = some x) : woodStep xs k = (wordB x.name && inB x.hard 1 100 && inB x.cost 1 50 && (List.range k).all fun j => match xs[j]? with | some y => !(sameB y.name x.name) | none => true) := by
  simp [woodStep, hx]
theorem woodStep_dup {xs : List Wood} {k q : Nat} {x y : Wood} (hx : xs[k]? = some x) (hq : q < k) (hy : xs[q]? = some y) (h : sameB y.name x.name = true) : woodStep xs k = false := by
  rw [woodStep_eq hx, allRange_false hq (by rw [hy]; simp [h]), Bool.and_false]
theorem woodStep_ok {xs : List Wood} {k : Nat} {x : Wood} (hx : xs[k]? = some x) (h : ∀ j, j < k → ∀ y, xs[j]? = some y → sameB y.name x.name = false) : woodStep xs k = (wordB x.name && inB x.hard 1 100 && inB x.cost 1 50) := by
  rw [woodStep_eq hx, allRange_true (fun j hj => by
    cases hy : xs[j]? with
    | none => rfl
    | some y => simp [h j hj y hy]), Bool.and_true]
theorem woodStep_no {xs : List Wood} {k : Nat} {x : Wood} (hx : xs[k]? = some x) (h : (wordB x.name && inB x.hard 1 100 && inB x.cost 1 50) = false) : woodStep xs k = false := by
  rw [woodStep_eq hx, h, Bool.false_and]
theorem woodsB_size {xs : List Wood} (h : inB xs.length 1 8 = false) : woodsB xs = false := by unfold woodsB; rw [h, Bool.false_and]
theorem woodsB_big {xs : List Wood} (h : 8 < xs.length) : woodsB xs = inB xs.length 1 8 := by
  have : inB xs.length 1 8 = false := by simp [inB]; omega
  rw [this]; exact woodsB_size this
theorem woodsB_len {xs : List Wood} (h : woodsB xs = true) : 1 ≤ xs.length ∧ xs.length ≤ 8 := by
  unfold woodsB at h; simp only [Bool.and_eq_true, inB, decide_eq_true_eq] at h; omega
theorem woodsB_at {xs : List Wood} (h : woodsB xs = true) {k : Nat} {x : Wood} (hx : xs[k]? = some x) : wordB x.name = true ∧ (1 ≤ x.hard ∧ x.hard ≤ 100) ∧ (1 ≤ x.cost ∧ x.cost ≤ 50) := by
  unfold woodsB at h
  simp only [Bool.and_eq_true] at h
  have h2 := List.all_eq_true.1 h.2 k (List.mem_range.2 (List.getElem?_eq_some_iff.1 hx).1)
  rw [woodStep_eq hx] at h2
  simp only [Bool.and_eq_true, inB, decide_eq_true_eq] at h2
  exact ⟨h2.1.1.1, h2.1.1.2, h2.1.2⟩

abbrev byFrame (fr : Int) : Repair → Bool := fun r => r.frame == fr
theorem repairB_at {ws : List Wood} {xs : List Repair} (h : repairsB ws xs = true) {k : Nat} {r : Repair} (hr : xs[k]? = some r) : repairB ws.length r = true := by
  unfold repairsB at h
  simp only [Bool.and_eq_true] at h
  have hk := (List.getElem?_eq_some_iff.1 hr).1
  have := listB_step h.2 hk
  rw [repairStep_eq hr (getLt (show k - 1 < xs.length by omega))] at this
  simp only [Bool.and_eq_true] at this
  exact this.1
theorem repairs_woods {ws : List Wood} {xs : List Repair} (h : repairsB ws xs = true) : woodsB ws = true ∧ xs.length ≤ 10 := by
  unfold repairsB at h
  simp only [Bool.and_eq_true] at h
  exact ⟨h.1, listB_len h.2⟩
theorem repair_ok {ws : List Wood} {r : Repair} (hw : woodsB ws = true) (hr : repairB ws.length r = true) :
    ∃ x, ws[r.wood.toNat]? = some x ∧ 0 ≤ r.wood ∧ r.wood.toNat < ws.length ∧ (0 ≤ r.beads ∧ r.beads ≤ 200) ∧ (0 ≤ r.rods ∧ r.rods ≤ 20) ∧ (0 ≤ r.due ∧ r.due ≤ 4000) ∧ (1 ≤ x.hard ∧ x.hard ≤ 100) ∧ (1 ≤ x.cost ∧ x.cost ≤ 50) ∧ (0 ≤ r.beads * x.cost ∧ r.beads * x.cost ≤ 10000) := by
  simp only [repairB, inB, Bool.and_eq_true, decide_eq_true_eq] at hr
  have hlt : r.wood.toNat < ws.length := by omega
  obtain ⟨_, h2, h3⟩ := woodsB_at hw (getLt hlt)
  refine ⟨_, getLt hlt, by omega, hlt, by omega, by omega, by omega, h2, h3, Int.mul_nonneg (by omega) (by omega), ?_⟩
  have := Int.mul_le_mul (show r.beads ≤ 200 by omega) h3.2 (by omega) (by omega)
  omega
def costR (ws : List Wood) (r : Repair) : Int := match ws[r.wood.toNat]? with | some x => r.beads * x.cost + 15 * r.rods | none => 0
def minR (ws : List Wood) (r : Repair) : Int := match ws[r.wood.toNat]? with | some x => (if 60 ≤ x.hard then 3 * r.beads else 2 * r.beads) + 30 * r.rods | none => 0
theorem costR_eq {ws : List Wood} {r : Repair} {x : Wood} (h : ws[r.wood.toNat]? = some x) : costR ws r = r.beads * x.cost + 15 * r.rods := by unfold costR; rw [h]
theorem minR_eq {ws : List Wood} {r : Repair} {x : Wood} (h : ws[r.wood.toNat]? = some x) : minR ws r = (if 60 ≤ x.hard then 3 * r.beads else 2 * r.beads) + 30 * r.rods := by unfold minR; rw [h]
theorem minR_bound {ws : List Wood} {r : Repair} (hw : woodsB ws = true) (hr : repairB ws.length r = true) : 0 ≤ minR ws r ∧ minR ws r ≤ 1200 := by
  obtain ⟨x, hx, _, _, h1, h2, _⟩ := repair_ok hw hr
  rw [minR_eq hx]; split <;> omega

def beadStep (out : List Int) (r : Repair) : List Int := out.set r.wood.toNat (out.getD r.wood.toNat 0 + r.beads)
def beadsW (n : Nat) (rs : List Repair) : List Int := rs.foldl beadStep (List.replicate n 0)
theorem beadsW_snoc {n : Nat} {xs : List Repair} {k : Nat} {r : Repair} (h : xs[k]? = some r) : beadsW n (xs.take (k + 1)) = beadStep (beadsW n (xs.take k)) r := by
  unfold beadsW; rw [take_snoc h, List.foldl_append]; rfl
def beadsRes (ws : List Wood) (xs : List Repair) : List Int := if repairsB ws xs = true then beadsW ws.length xs else []
theorem beadsRes_yes {ws : List Wood} {xs : List Repair} (h : repairsB ws xs = true) : beadsRes ws xs = beadsW ws.length xs := by unfold beadsRes; rw [if_pos h]
theorem beadsRes_no {ws : List Wood} {xs : List Repair} (h : repairsB ws xs = false) : beadsRes ws xs = [] := by unfold beadsRes; rw [if_neg (by rw [h]; exact Bool.false_ne_true)]
/-- What the loop keeps. -/
structure BeadI (n : Nat) (xs : List Repair) (k : Nat) (out : List Int) : Prop where
  le : k ≤ xs.length
  eq : out = beadsW n (xs.take k)
  len : out.length = n
  bd : ∀ (j : Nat) v, out[j]? = some v → 0 ≤ v ∧ v ≤ 200 * (k : Int)
theorem BeadI.zero (n : Nat) (xs : List Repair) : BeadI n xs 0 (List.replicate n 0) := ⟨Nat.zero_le _, rfl, by simp, fun j v h => by
  rw [List.getElem?_replicate] at h
  split at h
  · obtain rfl := Option.some.inj h; exact ⟨Int.le_refl _, by omega⟩
  · cases h⟩
theorem BeadI.next {n : Nat} {xs : List Repair} {k : Nat} {out : List Int} {r : Repair} {v : Int} (h : BeadI n xs k out) (hr : xs[k]? = some r) (hv : out[r.wood.toNat]? = some v) (hb : 0 ≤ r.beads ∧ r.beads ≤ 200) : BeadI n xs (k + 1) (out.set r.wood.toNat (v + r.beads)) := by
  have hst : out.set r.wood.toNat (v + r.beads) = beadStep out r := by unfold beadStep; rw [List.getD_eq_getElem?_getD, hv]; rfl
  refine ⟨(List.getElem?_eq_some_iff.1 hr).1, by rw [hst, beadsW_snoc hr, ← h.eq], by simp [h.len], fun j u hu => ?_⟩
  have hv' := h.bd _ _ hv
  rw [List.getElem?_set] at hu
  split at hu
  · split at hu
    · obtain rfl := Option.some.inj hu; omega
    · cases hu
  · have := h.bd j u hu; omega
theorem beadsW_len (n : Nat) (rs : List Repair) : (beadsW n rs).length = n := by
  unfold beadsW
  have : ∀ (rs : List Repair) (l : List Int), (rs.foldl beadStep l).length = l.length := by
    intro rs
    induction rs with
    | nil => intro l; rfl
    | cons r rs ih => intro l; rw [List.foldl_cons, ih]; simp [beadStep]
  rw [this]; simp
theorem beadsRes_len (ws : List Wood) (xs : List Repair) : (beadsRes ws xs).length ≤ 8 := by
  unfold beadsRes
  split
  · rename_i h; rw [beadsW_len]; exact (woodsB_len (repairs_woods h).1).2
  · simp

/-! ### The cheapest wood -/
def costAt (xs : List Wood) (b : Int) : Int := match xs[b.toNat]? with | some y => y.cost | none => 0
theorem costAt_eq {xs : List Wood} {b : Int} {y : Wood} (h : xs[b.toNat]? = some y) : costAt xs b = y.cost := by unfold costAt; rw [h]
def cheapL (xs : List Wood) (h : Int) : Nat → Int
  | 0 => -1
  | k + 1 => match xs[k]? with
    | some x => if h ≤ x.hard ∧ (cheapL xs h k < 0 ∨ x.cost < costAt xs (cheapL xs h k)) then (k : Int) else cheapL xs h k
    | none => cheapL xs h k
theorem cheapL_yes {xs : List Wood} {h : Int} {k : Nat} {x : Wood} {b : Int} (hb : b = cheapL xs h k) (hx : xs[k]? = some x) (h1 : h ≤ x.hard) (h2 : b < 0 ∨ x.cost < costAt xs b) : (k : Int) = cheapL xs h (k + 1) := by
  subst hb; unfold cheapL; rw [hx]; simp only; rw [if_pos ⟨h1, h2⟩]
theorem cheapL_no {xs : List Wood} {h : Int} {k : Nat} {x : Wood} {b : Int} (hb : b = cheapL xs h k) (hx : xs[k]? = some x) (h1 : ¬ (h ≤ x.hard ∧ (b < 0 ∨ x.cost < costAt xs b))) : b = cheapL xs h (k + 1) := by
  subst hb; conv => rhs; unfold cheapL
  rw [hx]; simp only; rw [if_neg h1]
theorem cheapL_lt (xs : List Wood) (h : Int) : ∀ k, -1 ≤ cheapL xs h k ∧ cheapL xs h k < k ∨ k = 0 ∧ cheapL xs h k = -1
  | 0 => .inr ⟨rfl, rfl⟩
  | k + 1 => by
    refine .inl ?_
    have ih := cheapL_lt xs h k
    unfold cheapL
    split
    · split <;> omega
    · omega
def cheapR (xs : List Wood) (h : Int) : Int × Bool := if woodsB xs = true ∧ inB h 1 100 = true ∧ ¬ cheapL xs h xs.length < 0 then (cheapL xs h xs.length, true) else (0, false)
theorem cheapR_yes {xs : List Wood} {h : Int} {b : Int} (h1 : woodsB xs = true) (h2 : inB h 1 100 = true) (hb : b = cheapL xs h xs.length) (h3 : ¬ b < 0) : cheapR xs h = (b, true) := by
  subst hb; unfold cheapR; rw [if_pos ⟨h1, h2, h3⟩]
theorem cheapR_no {xs : List Wood} {h : Int} (hh : woodsB xs = false ∨ inB h 1 100 = false ∨ cheapL xs h xs.length < 0) : cheapR xs h = (0, false) := by
  unfold cheapR
  rw [if_neg]
  rintro ⟨h1, h2, h3⟩
  rcases hh with hh | hh | hh
  · rw [h1] at hh; cases hh
  · rw [h2] at hh; cases hh
  · exact h3 hh
end Go.Proofs.Ytaajkamfeaafpaa
