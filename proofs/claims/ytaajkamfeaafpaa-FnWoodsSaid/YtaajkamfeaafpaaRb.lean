/- Repairs: the order of work. By an AI agent. -/
import Derived.Test.YtaajkamfeaafpaaRa
set_option linter.unusedVariables false
set_option linter.unusedSimpArgs false
namespace Go.Proofs.Ytaajkamfeaafpaa
open Go Go.RowKit K

/-- A cell of an own slice of structs. -/
theorem flatGet {α : Type} {enc : α → List Value} {r : Nat} (he : ∀ x, (enc x).length = r) {xs : List α} {j : Nat} {x : α} (hx : xs[j]? = some x) {f : Nat} {v : Value} (hf : (enc x)[f]? = some v) (pad : List Value) : (flat enc xs ++ pad)[0 + j * r + f]? = some v := by
  have hj : j < xs.length := (List.getElem?_eq_some_iff.1 hx).1
  have hfr : f < r := by have := (List.getElem?_eq_some_iff.1 hf).1; rw [he] at this; exact this
  have hl := flat_length he xs
  have hlt : j * r + f < (flat enc xs).length := by
    rw [hl]
    have := Nat.mul_le_mul_right r (show j + 1 ≤ xs.length from hj)
    rw [Nat.add_mul, Nat.one_mul] at this
    omega
  rw [Nat.zero_add, List.getElem?_append_left hlt]
  have hsplit : xs = xs.take j ++ x :: xs.drop (j + 1) := by
    rw [← (List.getElem?_eq_some_iff.1 hx).2, ← List.drop_eq_getElem_cons hj, List.take_append_drop]
  rw [hsplit, flat_append, List.getElem?_append_right (by rw [flat_length he, List.length_take, Nat.min_eq_left (by omega)]; omega), flat_length he, List.length_take, Nat.min_eq_left (by omega), Nat.add_sub_cancel_left]
  show (enc x ++ flat enc (xs.drop (j + 1)))[f]? = some v
  rw [List.getElem?_append_left (by rw [he]; exact hfr), hf]

/-- y is done after r. -/
def gtB (ws : List Wood) (y r : Repair) : Bool := decide (y.due > r.due) || (y.due == r.due && decide (minR ws y > minR ws r))
/-- Where r comes to stand, looked for from place k to the left. -/
def insP (ws : List Wood) (out : List Repair) (r : Repair) : Nat → Nat
  | 0 => 0
  | k + 1 => match out[k]? with
    | some y => if gtB ws y r = true then insP ws out r k else k + 1
    | none => k + 1
theorem insP_yes {ws : List Wood} {out : List Repair} {r y : Repair} {k : Nat} (h : out[k]? = some y) (hg : gtB ws y r = true) : insP ws out r (k + 1) = insP ws out r k := by simp only [insP, h, if_pos hg]
theorem insP_no {ws : List Wood} {out : List Repair} {r y : Repair} {k : Nat} (h : out[k]? = some y) (hg : gtB ws y r = false) : insP ws out r (k + 1) = k + 1 := by simp only [insP, h, hg]; simp
theorem insP_le (ws : List Wood) (out : List Repair) (r : Repair) : ∀ k, insP ws out r k ≤ k
  | 0 => Nat.le_refl _
  | k + 1 => by
    have ih := insP_le ws out r k
    rw [insP]
    split
    · split <;> omega
    · omega
def insR (ws : List Wood) (out : List Repair) (r : Repair) : List Repair := out.take (insP ws out r out.length) ++ [r] ++ out.drop (insP ws out r out.length)
theorem insR_len (ws : List Wood) (out : List Repair) (r : Repair) : (insR ws out r).length = out.length + 1 := by
  have := insP_le ws out r out.length
  simp [insR]; omega
theorem insR_mem {ws : List Wood} {out : List Repair} {r y : Repair} (h : y ∈ insR ws out r) : y = r ∨ y ∈ out := by
  simp only [insR, List.mem_append, List.mem_singleton] at h
  rcases h with (h | h) | h
  · exact .inr (List.mem_of_mem_take h)
  · exact .inl h
  · exact .inr (List.mem_of_mem_drop h)
def ordL (ws : List Wood) (xs : List Repair) : List Repair := xs.foldl (insR ws) []
theorem ordL_snoc {ws : List Wood} {xs : List Repair} {k : Nat} {r : Repair} (h : xs[k]? = some r) : ordL ws (xs.take (k + 1)) = insR ws (ordL ws (xs.take k)) r := by
  unfold ordL; rw [take_snoc h, List.foldl_append]; rfl
theorem ordF_len (ws : List Wood) : ∀ (xs out : List Repair), (xs.foldl (insR ws) out).length = out.length + xs.length
  | [], out => rfl
  | x :: xs, out => by rw [List.foldl_cons, ordF_len, insR_len, List.length_cons]; omega
theorem ordL_len (ws : List Wood) (xs : List Repair) : (ordL ws xs).length = xs.length := by rw [ordL, ordF_len]; simp
theorem ordF_mem {ws : List Wood} : ∀ (xs out : List Repair) {y : Repair}, y ∈ xs.foldl (insR ws) out → y ∈ xs ∨ y ∈ out
  | [], _, _, h => .inr h
  | x :: xs, out, y, h => by
    rw [List.foldl_cons] at h
    rcases ordF_mem xs _ h with h | h
    · exact .inl (by simp [h])
    · rcases insR_mem h with rfl | h
      · exact .inl (by simp)
      · exact .inr h
theorem ordL_mem {ws : List Wood} {xs : List Repair} {y : Repair} (h : y ∈ ordL ws xs) : y ∈ xs := by
  rcases ordF_mem xs [] h with h | h
  · exact h
  · cases h
theorem encRepair_one (x : Repair) : ∀ u ∈ encRepair x, u.oneCell' = true := list_one rfl
def zeroRep : Repair := ⟨0, 0, 0, 0, 0⟩
/-- The program's way: a zero behind, the rest moved by one, r stored. -/
theorem ins_moved {α : Type} {out : List α} {r z : α} {q : Nat} (h : q ≤ out.length) : ((out ++ [z]).take (q + 1) ++ out.drop q).set q r = out.take q ++ [r] ++ out.drop q := by
  rcases Nat.lt_or_ge q out.length with h1 | h1
  · rw [List.take_append_of_le_length (by omega), List.take_succ_eq_append_getElem h1, List.append_assoc, List.set_append, if_neg (by simp; omega), List.length_take, Nat.min_eq_left h, Nat.sub_self]
    simp
  · obtain rfl : q = out.length := by omega
    rw [List.take_of_length_le (by simp), List.drop_length, List.append_nil, List.take_length, List.append_nil, List.set_append, if_neg (by simp), Nat.sub_self]
    rfl
theorem flatPut {α : Type} {enc : α → List Value} {r : Nat} (he : ∀ x, (enc x).length = r) {xs : List α} {j : Nat} (x : α) (pad : List Value) (hj : j < xs.length) :
    (flat enc xs ++ pad).take (0 + j * r) ++ enc x ++ (flat enc xs ++ pad).drop (0 + j * r + r) = flat enc (xs.set j x) ++ pad := by
  have hl : (flat enc (xs.take j)).length = j * r := by rw [flat_length he, List.length_take, Nat.min_eq_left (Nat.le_of_lt hj)]
  have e1 : flat enc xs = flat enc (xs.take j) ++ (enc xs[j] ++ flat enc (xs.drop (j + 1))) := by
    conv => lhs; rw [show xs = xs.take j ++ xs[j] :: xs.drop (j + 1) from by simp]
    rw [flat_append]; rfl
  have e2 : flat enc (xs.set j x) = flat enc (xs.take j) ++ (enc x ++ flat enc (xs.drop (j + 1))) := by
    rw [List.set_eq_take_append_cons_drop, if_pos hj, flat_append]; rfl
  rw [e1, e2, Nat.zero_add]
  have h1 : (flat enc (xs.take j) ++ (enc xs[j] ++ flat enc (xs.drop (j + 1))) ++ pad).take (j * r) = flat enc (xs.take j) := by
    rw [List.append_assoc]; exact List.take_left' hl
  have h2 : (flat enc (xs.take j) ++ (enc xs[j] ++ flat enc (xs.drop (j + 1))) ++ pad).drop (j * r + r) = flat enc (xs.drop (j + 1)) ++ pad := by
    rw [← List.append_assoc (flat enc (xs.take j)), List.append_assoc]
    exact List.drop_left' (by rw [List.length_append, hl, he])
  rw [h1, h2]; simp only [List.append_assoc]
theorem slSame {α : Type} {enc : α → List Value} {k : Nat} (he : ∀ x, (enc x).length = k) {bo : Option Nat} {cap : Nat} {xs ys : List α} {pad : List Value} (h : Sl k bo xs.length cap (flat enc xs) pad) (hl : ys.length = xs.length) : Sl k bo xs.length cap (flat enc ys) pad :=
  ⟨by rw [flat_length he, hl], by have := h.lp; rw [List.length_append, flat_length he] at this ⊢; rw [hl]; exact this, h.le, h.max, h.nil⟩
theorem copy_fold {out : List Repair} {z : Repair} {q : Nat} (h : q ≤ out.length) (pad : List Value) :
    (flat encRepair (out ++ [z]) ++ pad).take ((q + 1) * 5) ++ (flat encRepair ((out ++ [z]).drop q)).take ((out.length - q) * 5) ++ (flat encRepair (out ++ [z]) ++ pad).drop ((q + 1) * 5 + (out.length - q) * 5) = flat encRepair ((out ++ [z]).take (q + 1) ++ out.drop q) ++ pad := by
  have e2 : ((out ++ [z]).drop q).take (out.length - q) = out.drop q := by
    have hd : (out.drop q).length = out.length - q := List.length_drop
    rw [List.drop_append_of_le_length h, List.take_append_of_le_length (by omega), List.take_of_length_le (by omega)]
  have hl := flat_length encRepair_len (out ++ [z])
  rw [List.length_append] at hl
  simp only [List.length_cons, List.length_nil] at hl
  have e1 : (q + 1) * 5 + (out.length - q) * 5 = (flat encRepair (out ++ [z])).length := by omega
  rw [e1, List.drop_append_of_le_length (Nat.le_refl _), List.drop_length, List.nil_append, List.take_append_of_le_length (by omega), ← flat_take encRepair_len, ← flat_take encRepair_len, e2, ← flat_append]
theorem slSome {k : Nat} {bo : Option Nat} {len cap : Nat} {xs pad : List Value} (h : Sl k bo len cap xs pad) (hl : 0 < len) : ∃ b, bo = .some b := by
  cases bo with
  | none => have := (h.nil rfl).1; omega
  | some b => exact ⟨b, rfl⟩
theorem insPut {ws : List Wood} {out : List Repair} {r z : Repair} {q : Nat} (hq : q = insP ws out r out.length) (pad : List Value) :
    (flat encRepair ((out ++ [z]).take (q + 1) ++ out.drop q) ++ pad).take (0 + q * 5) ++ encRepair r ++ (flat encRepair ((out ++ [z]).take (q + 1) ++ out.drop q) ++ pad).drop (0 + q * 5 + 5) = flat encRepair (insR ws out r) ++ pad := by
  have hle : q ≤ out.length := by rw [hq]; exact insP_le ws out r _
  rw [flatPut encRepair_len r pad (by simp; omega), ins_moved hle, insR, hq]
theorem repCells {xs : List Repair} {j : Nat} {x : Repair} (hx : xs[j]? = some x) (pad : List Value) : CellsL (flat encRepair xs ++ pad) (0 + j * 5) (encRepair x) :=
  ⟨flatGet encRepair_len (f := 0) hx rfl pad, flatGet encRepair_len (f := 1) hx rfl pad, flatGet encRepair_len (f := 2) hx rfl pad, flatGet encRepair_len (f := 3) hx rfl pad, flatGet encRepair_len (f := 4) hx rfl pad, trivial⟩
end Go.Proofs.Ytaajkamfeaafpaa
