/- Own slices: cells of them, a store, a copy that moves the rest by one; numbers and structs. By an AI agent. -/
import Derived.Test.YtgnnlgmeagipjaaKn
set_option linter.unusedVariables false
set_option linter.unusedSimpArgs false
namespace Go.Proofs.Ytgnnlgmeagipjaa.K
open Go Go.RowKit

theorem flatGetG {α : Type} {enc : α → List Value} {r : Nat} (he : ∀ x, (enc x).length = r) {xs : List α} {j : Nat} {x : α} (hx : xs[j]? = some x) {f : Nat} {v : Value} (hf : (enc x)[f]? = some v) (pad : List Value) : (flat enc xs ++ pad)[0 + j * r + f]? = some v := by
  have hj : j < xs.length := (List.getElem?_eq_some_iff.1 hx).1
  have hfr : f < r := by have := (List.getElem?_eq_some_iff.1 hf).1; rw [he] at this; exact this
  have hl := flat_length he xs
  have hlt : j * r + f < (flat enc xs).length := by
    rw [hl]
    have := Nat.mul_le_mul_right r (show j + 1 ≤ xs.length from hj)
    rw [Nat.add_mul, Nat.one_mul] at this
    omega
  rw [Nat.zero_add, List.getElem?_append_left hlt, flat_get he xs j f x hx hfr]; exact hf
theorem flatCells {α : Type} {enc : α → List Value} {r : Nat} (he : ∀ x, (enc x).length = r) {xs : List α} {j : Nat} {x : α} (hx : xs[j]? = some x) (pad : List Value) : CellsL (flat enc xs ++ pad) (0 + j * r) (enc x) := by
  have key : ∀ (vs : List Value) (f0 : Nat), (∀ f v, vs[f]? = some v → (flat enc xs ++ pad)[0 + j * r + (f0 + f)]? = some v) → CellsL (flat enc xs ++ pad) (0 + j * r + f0) vs := by
    intro vs
    induction vs with
    | nil => intro _ _; trivial
    | cons v t ih =>
      intro f0 h
      refine ⟨by simpa using h 0 v rfl, ?_⟩
      have := ih (f0 + 1) (fun f u hu => by rw [show f0 + 1 + f = f0 + (f + 1) from by omega]; exact h (f + 1) u (by simpa using hu))
      rw [show 0 + j * r + f0 + 1 = 0 + j * r + (f0 + 1) from by omega]; exact this
  have := key (enc x) 0 (fun f v hv => by rw [Nat.zero_add f]; exact flatGetG he hx hv pad)
  exact this
theorem intsAtP {xs : List Int} {j : Nat} {v : Int} (h : xs[j]? = some v) (pad : List Value) : (ints xs ++ pad)[0 + j * 1]? = some (.int .i64 v) := by
  rw [Nat.mul_one, Nat.zero_add, List.getElem?_append_left (by rw [ints_length]; exact (List.getElem?_eq_some_iff.1 h).1)]; exact ints_get h
theorem flatPutG {α : Type} {enc : α → List Value} {r : Nat} (he : ∀ x, (enc x).length = r) {xs : List α} {j : Nat} (x : α) (pad : List Value) (hj : j < xs.length) :
    (flat enc xs ++ pad).take (0 + j * r) ++ enc x ++ (flat enc xs ++ pad).drop (0 + j * r + r) = flat enc (xs.set j x) ++ pad := by
  have hl : (flat enc (xs.take j)).length = j * r := by rw [flat_length he, List.length_take, Nat.min_eq_left (Nat.le_of_lt hj)]
  have e1 : flat enc xs = flat enc (xs.take j) ++ (enc xs[j] ++ flat enc (xs.drop (j + 1))) := by
    conv => lhs; rw [show xs = xs.take j ++ xs[j] :: xs.drop (j + 1) from by simp]
    rw [flat_append]; rfl
  have e2 : flat enc (xs.set j x) = flat enc (xs.take j) ++ (enc x ++ flat enc (xs.drop (j + 1))) := by
    rw [List.set_eq_take_append_cons_drop, if_pos hj, flat_append]; rfl
  rw [e1, e2, Nat.zero_add]
  have h1 : (flat enc (xs.take j) ++ (enc xs[j] ++ flat enc (xs.drop (j + 1))) ++ pad).take (j * r) = flat enc (xs.take j) := by
    rw [List.append_assoc]; exact List.take_left' hl
  have h2 : (flat enc (xs.take j) ++ (enc xs[j] ++ flat enc (xs.drop (j + 1))) ++ pad).drop (j * r + r) = flat enc (xs.drop (j + 1)) ++ pad := by
    rw [← List.append_assoc (flat enc (xs.take j)), List.append_assoc]
    exact List.drop_left' (by rw [List.length_append, hl, he])
  rw [h1, h2]; simp only [List.append_assoc]
theorem intsPutP {xs : List Int} {j : Nat} (x : Int) (pad : List Value) (hj : j < xs.length) :
    (ints xs ++ pad).take (0 + j * 1) ++ [Value.int .i64 x] ++ (ints xs ++ pad).drop (0 + j * 1 + 1) = ints (xs.set j x) ++ pad := by
  rw [ints_flat, ints_flat]; exact flatPutG (enc := fun i => [Value.int .i64 i]) (fun _ => rfl) x pad hj
/-- The same slice with other contents of the same length. -/
theorem slSameG {α : Type} {enc : α → List Value} {k : Nat} (he : ∀ x, (enc x).length = k) {bo : Option Nat} {cap : Nat} {xs ys : List α} {pad : List Value} (h : Sl k bo xs.length cap (flat enc xs) pad) (hl : ys.length = xs.length) : Sl k bo ys.length cap (flat enc ys) pad :=
  ⟨by rw [flat_length he], by have := h.lp; rw [List.length_append, flat_length he] at this ⊢; rw [hl]; exact this, hl ▸ h.le, h.max, hl ▸ h.nil⟩
theorem slSameI {bo : Option Nat} {cap : Nat} {xs ys : List Int} {pad : List Value} (h : Sl 1 bo xs.length cap (ints xs) pad) (hl : ys.length = xs.length) : Sl 1 bo ys.length cap (ints ys) pad := by
  rw [ints_flat] at h ⊢
  exact slSameG (enc := fun i => [Value.int .i64 i]) (fun _ => rfl) h hl
theorem slSomeG {k : Nat} {bo : Option Nat} {len cap : Nat} {xs pad : List Value} (h : Sl k bo len cap xs pad) (hl : 0 < len) : ∃ b, bo = .some b := by
  cases bo with
  | none => have := (h.nil rfl).1; omega
  | some b => exact ⟨b, rfl⟩
/-- The program's way to make room: a zero behind, the rest moved by one, x stored. -/
theorem ins_movedG {α : Type} {out : List α} {r z : α} {q : Nat} (h : q ≤ out.length) : ((out ++ [z]).take (q + 1) ++ out.drop q).set q r = out.take q ++ [r] ++ out.drop q := by
  rcases Nat.lt_or_ge q out.length with h1 | h1
  · rw [List.take_append_of_le_length (by omega), List.take_succ_eq_append_getElem h1, List.append_assoc, List.set_append, if_neg (by simp; omega), List.length_take, Nat.min_eq_left h, Nat.sub_self]
    simp
  · obtain rfl : q = out.length := by omega
    rw [List.take_of_length_le (by simp), List.drop_length, List.append_nil, List.take_length, List.append_nil, List.set_append, if_neg (by simp), Nat.sub_self]
    rfl
theorem copyFoldG {α : Type} {enc : α → List Value} {r : Nat} (he : ∀ x, (enc x).length = r) {out : List α} {z : α} {q : Nat} (h : q ≤ out.length) (pad : List Value) :
    (flat enc (out ++ [z]) ++ pad).take ((q + 1) * r) ++ (flat enc ((out ++ [z]).drop q)).take ((out.length - q) * r) ++ (flat enc (out ++ [z]) ++ pad).drop ((q + 1) * r + (out.length - q) * r) = flat enc ((out ++ [z]).take (q + 1) ++ out.drop q) ++ pad := by
  have e2 : ((out ++ [z]).drop q).take (out.length - q) = out.drop q := by
    have hd : (out.drop q).length = out.length - q := List.length_drop
    rw [List.drop_append_of_le_length h, List.take_append_of_le_length (by omega), List.take_of_length_le (by omega)]
  have hl := flat_length he (out ++ [z])
  rw [List.length_append] at hl
  simp only [List.length_cons, List.length_nil] at hl
  have hm : (q + 1) * r ≤ (out.length + (0 + 1)) * r := Nat.mul_le_mul_right r (by omega)
  have e1 : (q + 1) * r + (out.length - q) * r = (flat enc (out ++ [z])).length := by rw [hl, ← Nat.add_mul]; congr 1; omega
  rw [e1, List.drop_append_of_le_length (Nat.le_refl _), List.drop_length, List.nil_append, List.take_append_of_le_length (by omega), ← flat_take he, ← flat_take he, e2, ← flat_append]
theorem copyFoldI {out : List Int} {z : Int} {q : Nat} (h : q ≤ out.length) (pad : List Value) :
    (ints (out ++ [z]) ++ pad).take ((q + 1) * 1) ++ (ints ((out ++ [z]).drop q)).take ((out.length - q) * 1) ++ (ints (out ++ [z]) ++ pad).drop ((q + 1) * 1 + (out.length - q) * 1) = ints ((out ++ [z]).take (q + 1) ++ out.drop q) ++ pad := by
  rw [ints_flat, ints_flat, ints_flat]; exact copyFoldG (enc := fun i => [Value.int .i64 i]) (fun _ => rfl) h pad
theorem insPutI {out ys : List Int} {r z : Int} {q : Nat} (hq : q ≤ out.length) (he : ys = out.take q ++ [r] ++ out.drop q) (pad : List Value) :
    (ints ((out ++ [z]).take (q + 1) ++ out.drop q) ++ pad).take (0 + q * 1) ++ [Value.int .i64 r] ++ (ints ((out ++ [z]).take (q + 1) ++ out.drop q) ++ pad).drop (0 + q * 1 + 1) = ints ys ++ pad := by
  rw [intsPutP r pad (by simp; omega), ins_movedG hq, he]
theorem insPutG {α : Type} {enc : α → List Value} {k : Nat} (hen : ∀ x, (enc x).length = k) {out ys : List α} {r z : α} {q : Nat} (hq : q ≤ out.length) (he : ys = out.take q ++ [r] ++ out.drop q) (pad : List Value) :
    (flat enc ((out ++ [z]).take (q + 1) ++ out.drop q) ++ pad).take (0 + q * k) ++ enc r ++ (flat enc ((out ++ [z]).take (q + 1) ++ out.drop q) ++ pad).drop (0 + q * k + k) = flat enc ys ++ pad := by
  rw [flatPutG hen r pad (by simp; omega), ins_movedG hq, he]
/-- One field of an element is stored. -/
theorem flatPutF {α : Type} {enc : α → List Value} {r : Nat} (he : ∀ x, (enc x).length = r) {xs : List α} {j f : Nat} {x x' : α} {v : Value} (pad : List Value) (hx : xs[j]? = some x) (hf : f < r) (hv : enc x' = (enc x).set f v) :
    (flat enc xs ++ pad).take (0 + j * r + f) ++ [v] ++ (flat enc xs ++ pad).drop (0 + j * r + f + 1) = flat enc (xs.set j x') ++ pad := by
  obtain ⟨hj, hxj⟩ := List.getElem?_eq_some_iff.1 hx
  have hl : (flat enc (xs.take j)).length = j * r := by rw [flat_length he, List.length_take, Nat.min_eq_left (Nat.le_of_lt hj)]
  have e1 : flat enc xs = flat enc (xs.take j) ++ (enc x ++ flat enc (xs.drop (j + 1))) := by
    conv => lhs; rw [show xs = xs.take j ++ xs[j] :: xs.drop (j + 1) from by simp]
    rw [flat_append, hxj]; rfl
  have e2 : flat enc (xs.set j x') = flat enc (xs.take j) ++ (enc x' ++ flat enc (xs.drop (j + 1))) := by
    rw [List.set_eq_take_append_cons_drop, if_pos hj, flat_append]; rfl
  have hxl := he x
  rw [e1, e2, Nat.zero_add, hv, List.set_eq_take_append_cons_drop, if_pos (by omega)]
  have h1 : (flat enc (xs.take j) ++ (enc x ++ flat enc (xs.drop (j + 1))) ++ pad).take (j * r + f) = flat enc (xs.take j) ++ (enc x).take f := by
    rw [List.append_assoc, List.append_assoc, List.take_append, hl, Nat.add_sub_cancel_left, List.take_of_length_le (by omega), List.take_append_of_le_length (by omega)]
  have h2 : (flat enc (xs.take j) ++ (enc x ++ flat enc (xs.drop (j + 1))) ++ pad).drop (j * r + f + 1) = (enc x).drop (f + 1) ++ (flat enc (xs.drop (j + 1)) ++ pad) := by
    rw [List.append_assoc, List.append_assoc, List.drop_append, hl, List.drop_eq_nil_of_le (by omega), List.nil_append, show j * r + f + 1 - j * r = f + 1 from by omega, List.drop_append_of_le_length (by omega)]
  rw [h1, h2]; simp only [List.append_assoc, List.cons_append, List.nil_append]
/-- The cut, with what is kept said first. -/
theorem ct_cutS {P : Program} {n : Nat} {Q : Exit → Act → World → Prop} {σ : List (Nat × Value)} {w0 : Base} {μ : List Ent} {c d : Code} {ι : Type} (V : ι → List (Nat × Value)) (ρ : List (Nat × Value)) (ν : List Ent) (G : ι → Prop) (hr : Sub ρ σ) (hm : ∀ w, Hp w0 μ w → Hp w0 ν w)
    (h1 : CT P n c (Exit.then (fun a w => ∃ i, G i ∧ Kn (V i ++ ρ) n a ∧ Hp w0 ν w) Q) σ w0 μ) (h2 : ∀ i, G i → CT P n d Q (V i ++ ρ) w0 ν) : CT P n (.seq c d) Q σ w0 μ :=
  ct_cutR V ρ (fun _ => ν) G h1 h2
theorem ct_cutM {P : Program} {n : Nat} {Q : Exit → Act → World → Prop} {σ : List (Nat × Value)} {w0 : Base} {μ : List Ent} {c d : Code} {ι : Type} (V : ι → List (Nat × Value)) (ρ : List (Nat × Value)) (M : ι → List Ent) (G : ι → Prop) (hr : Sub ρ σ)
    (h1 : CT P n c (Exit.then (fun a w => ∃ i, G i ∧ Kn (V i ++ ρ) n a ∧ Hp w0 (M i) w) Q) σ w0 μ) (h2 : ∀ i, G i → CT P n d Q (V i ++ ρ) w0 (M i)) : CT P n (.seq c d) Q σ w0 μ :=
  ct_cutR V ρ M G h1 h2
/-- The cut behind the last code of a scope. -/
theorem ct_cutT {P : Program} {n : Nat} {Q Q2 : Exit → Act → World → Prop} {σ : List (Nat × Value)} {w0 : Base} {μ : List Ent} {c d : Code} {ι : Type} (V : ι → List (Nat × Value)) (ρ : List (Nat × Value)) (M : ι → List Ent) (G : ι → Prop) (hr : Sub ρ σ)
    (h1 : CT P n c (Exit.then (fun a w => ∃ i, G i ∧ Kn (V i ++ ρ) n a ∧ Hp w0 (M i) w) Q) σ w0 μ) (h2 : ∀ i, G i → CT P n d Q2 (V i ++ ρ) w0 (M i)) : CT P n c (Exit.then (d.wp P Q2) Q) σ w0 μ := fun a w hk hp =>
  Code.wp_mono (fun e a' w' hq => by
    cases e with
    | normal => obtain ⟨i, hG, hk', hp'⟩ := hq; exact h2 i hG _ _ hk' hp'
    | _ => exact hq) (h1 a w hk hp)
theorem ct_cutTS {P : Program} {n : Nat} {Q Q2 : Exit → Act → World → Prop} {σ : List (Nat × Value)} {w0 : Base} {μ : List Ent} {c d : Code} {ι : Type} (V : ι → List (Nat × Value)) (ρ : List (Nat × Value)) (ν : List Ent) (G : ι → Prop) (hr : Sub ρ σ) (hm : ∀ w, Hp w0 μ w → Hp w0 ν w)
    (h1 : CT P n c (Exit.then (fun a w => ∃ i, G i ∧ Kn (V i ++ ρ) n a ∧ Hp w0 ν w) Q) σ w0 μ) (h2 : ∀ i, G i → CT P n d Q2 (V i ++ ρ) w0 ν) : CT P n c (Exit.then (d.wp P Q2) Q) σ w0 μ :=
  ct_cutT V ρ (fun _ => ν) G hr h1 h2
/-- Nothing of it. -/
theorem slZero {k : Nat} {bo : Option Nat} {len cap : Nat} {xs pad : List Value} (h : Sl k bo len cap xs pad) : Sl k bo 0 cap [] (xs ++ pad) := ⟨by simp, by rw [List.nil_append]; exact h.lp, Nat.zero_le _, h.max, fun e => ⟨rfl, (h.nil e).2⟩⟩
end Go.Proofs.Ytgnnlgmeagipjaa.K
