/- Slices as lists: what a function that reads one is told; lists of structs laid flat. By an AI agent. -/
import Derived.Test.YtgnnlgmeagipjaaKd
set_option linter.unusedVariables false
namespace Go.Proofs.Ytgnnlgmeagipjaa.K
open Go Go.RowKit

/-- The slice v has len elements of k cells each, and these are the cells L. -/
def SR (w : World) (k : Nat) (v : Value) (len : Nat) (L : List Value) : Prop :=
  L.length = len * k ∧ ∃ a cap, v = .slice a len cap ∧ len ≤ cap ∧ cap ≤ maxLen ∧ ∀ j u, L[j]? = some u → ∃ b o, a = some ⟨b, o, none⟩ ∧ w.cell? ⟨b, o + j, none⟩ = some u

theorem SR.ext {w w' : World} {k : Nat} {v : Value} {len : Nat} {L : List Value} (h : SR w k v len L) (hx : Ext w w') : SR w' k v len L := by
  obtain ⟨h1, a, cap, h2, h3, h3', h4⟩ := h
  exact ⟨h1, a, cap, h2, h3, h3', fun j u hu => let ⟨b, o, h5, h6⟩ := h4 j u hu; ⟨b, o, h5, hx.cell h6⟩⟩

theorem SR.at {w : World} {k : Nat} {a : Option Addr} {len cap : Nat} {L : List Value} (h : SR w k (.slice a len cap) len L) {i : Nat} (hi : i < len) (hk : 0 < k) :
    ∃ b o, a = some ⟨b, o, none⟩ ∧ ∀ f u, f < k → L[i * k + f]? = some u → w.cell? ⟨b, o + i * k + f, none⟩ = some u := by
  obtain ⟨h1, a', cap', h2, _, _, h4⟩ := h
  obtain ⟨rfl, _, rfl⟩ : a = a' ∧ len = len ∧ cap = cap' := by injection h2 with e1 e2 e3; exact ⟨e1, rfl, e3⟩
  have h5 : i * k < L.length := by rw [h1]; exact Nat.mul_lt_mul_of_pos_right hi hk
  obtain ⟨b, o, rfl, _⟩ := h4 (i * k) _ (List.getElem?_eq_getElem h5)
  refine ⟨b, o, rfl, fun f u hf hu => ?_⟩
  obtain ⟨b', o', h6, h7⟩ := h4 _ _ hu
  obtain ⟨rfl, rfl⟩ : b = b' ∧ o = o' := by simpa using h6
  rw [Nat.add_assoc]; exact h7

theorem SR.slice {w : World} {k : Nat} {v : Value} {len : Nat} {L : List Value} (h : SR w k v len L) : ∃ a cap, v = .slice a len cap ∧ len ≤ cap ∧ cap ≤ maxLen := by
  obtain ⟨_, a, cap, h1, h2, h3, _⟩ := h
  exact ⟨a, cap, h1, h2, h3⟩

theorem SR.len_le {w : World} {k : Nat} {v : Value} {len : Nat} {L : List Value} (h : SR w k v len L) : len ≤ 9223372036854775807 := by
  obtain ⟨_, _, _, _, h1, h2, _⟩ := h
  have : maxLen = 9223372036854775807 := rfl
  omega

/-- An own block read as a slice. -/
theorem Hp.sr {w0 : Base} {w : World} {μ : List Ent} (h : Hp w0 μ w) (i : Nat) {bo : Option Nat} {T : TypeId} {L : List Value} (hm : μ[i]? = some (bo, T, L)) {k len cap : Nat} {xs : List Value} (hl : xs.length = len * k) (hcap : len ≤ cap) (hmax : cap ≤ maxLen) (hpre : ∀ (j : Nat) (u : Value), xs[j]? = some u → L[j]? = some u) :
    SR w k (.slice (bo.map fun b => ⟨b, 0, none⟩) len cap) len xs := by
  refine ⟨hl, _, cap, rfl, hcap, hmax, fun j u hu => ?_⟩
  have hok := h.ents _ (List.mem_of_getElem? hm)
  cases bo with
  | none =>
    have : L = [] := hok
    subst this
    have := hpre j u hu
    simp at this
  | some b => exact ⟨b, 0, rfl, by rw [Nat.zero_add]; exact h.own i hm (hpre j u hu)⟩

theorem Hp.sr1 {w0 : Base} {w : World} {μ : List Ent} (h : Hp w0 μ w) (i : Nat) {b : Nat} {T : TypeId} {L : List Value} (hm : μ[i]? = some (some b, T, L)) {k len : Nat} (hl : L.length = len * k) (hmax : len ≤ maxLen) :
    SR w k (.slice (some ⟨b, 0, none⟩) len len) len L :=
  h.sr (bo := some b) i hm hl (Nat.le_refl _) hmax (fun _ _ hu => hu)

/-- Elements laid flat. -/
def flat {α : Type} (enc : α → List Value) (xs : List α) : List Value := xs.flatMap enc

theorem flat_length {α : Type} {enc : α → List Value} {k : Nat} (hk : ∀ x, (enc x).length = k) : ∀ xs : List α, (flat enc xs).length = xs.length * k
  | [] => by simp [flat]
  | x :: r => by
    have := flat_length hk r
    simp only [flat, List.flatMap_cons, List.length_append, hk x, List.length_cons] at *
    rw [this, Nat.add_mul]; omega

theorem flat_get {α : Type} {enc : α → List Value} {k : Nat} (hk : ∀ x, (enc x).length = k) : ∀ (xs : List α) (i f : Nat) (x : α), xs[i]? = some x → f < k → (flat enc xs)[i * k + f]? = (enc x)[f]?
  | [], i, f, x, h, _ => by simp at h
  | y :: r, 0, f, x, h, hf => by
    simp at h; subst h
    simp only [flat, List.flatMap_cons, Nat.zero_mul, Nat.zero_add]
    rw [List.getElem?_append_left (by rw [hk]; exact hf)]
  | y :: r, i + 1, f, x, h, hf => by
    have := flat_get hk r i f x (by simpa using h) hf
    simp only [flat, List.flatMap_cons] at *
    rw [show (i + 1) * k + f = k + (i * k + f) from by rw [Nat.add_mul]; omega, List.getElem?_append_right (by rw [hk]; omega), hk, Nat.add_sub_cancel_left]
    exact this

theorem SR.elem {α : Type} {enc : α → List Value} {w : World} {k : Nat} {a : Option Addr} {cap : Nat} {xs : List α} (hk : ∀ x, (enc x).length = k) (h : SR w k (.slice a xs.length cap) xs.length (flat enc xs)) (hpos : 0 < k) {i : Nat} (hi : i < xs.length) :
    ∃ b o, a = some ⟨b, o, none⟩ ∧ ∀ j x, xs[j]? = some x → Cells w b (o + j * k) (enc x) := by
  obtain ⟨b, o, rfl, _⟩ := h.at hi hpos
  refine ⟨b, o, rfl, fun j x hx => ?_⟩
  have hj : j < xs.length := (List.getElem?_eq_some_iff.1 hx).1
  obtain ⟨b', o', hb, hc⟩ := h.at hj hpos
  obtain ⟨rfl, rfl⟩ : b = b' ∧ o = o' := by simpa using hb
  have key : ∀ (vs : List Value) (f0 : Nat), f0 + vs.length = k → (∀ f u, vs[f]? = some u → (flat enc xs)[j * k + (f0 + f)]? = some u) → Cells w b (o + j * k + f0) vs := by
    intro vs
    induction vs with
    | nil => intro _ _ _; exact True.intro
    | cons v r ih =>
      intro f0 hl hv
      refine ⟨hc f0 v (by simp at hl; omega) (by simpa using hv 0 v (by simp)), ?_⟩
      refine ih (f0 + 1) (by simp at hl; omega) (fun f u hu => ?_)
      have := hv (f + 1) u (by simpa using hu)
      rw [show f0 + 1 + f = f0 + (f + 1) from by omega]; exact this
  have := key (enc x) 0 (by rw [hk]; omega) (fun f u hu => by
    rw [Nat.zero_add, flat_get hk xs j f x hx (by have := (List.getElem?_eq_some_iff.1 hu).1; rw [hk] at this; exact this)]
    exact hu)
  simpa using this

def ints (xs : List Int) : List Value := xs.map (Value.int .i64)
theorem ints_get {xs : List Int} {i : Nat} {x : Int} (h : xs[i]? = some x) : (ints xs)[i]? = some (.int .i64 x) := by simp [ints, h]
theorem ints_length (xs : List Int) : (ints xs).length = xs.length := by simp [ints]
theorem SR.int {w : World} {a : Option Addr} {cap : Nat} {xs : List Int} (h : SR w 1 (.slice a xs.length cap) xs.length (ints xs)) {i : Nat} (hi : i < xs.length) :
    ∃ b o, a = some ⟨b, o, none⟩ ∧ ∀ j x, xs[j]? = some x → w.cell? ⟨b, o + j * 1, none⟩ = some (.int .i64 x) := by
  obtain ⟨b, o, rfl, _⟩ := h.at hi (by omega)
  refine ⟨b, o, rfl, fun j x hx => ?_⟩
  obtain ⟨b', o', hb, hc⟩ := h.at (List.getElem?_eq_some_iff.1 hx).1 (by omega)
  obtain ⟨rfl, rfl⟩ : b = b' ∧ o = o' := by simpa using hb
  exact hc 0 _ (by omega) (by simpa using ints_get hx)

/-- A number in a range. -/
def inB (n lo hi : Int) : Bool := decide (lo ≤ n) && decide (n ≤ hi)
theorem allRange_false {n : Nat} {p : Nat → Bool} {k : Nat} (hk : k < n) (h : p k = false) : (List.range n).all p = false := by
  rw [List.all_eq_false]
  exact ⟨k, List.mem_range.2 hk, by rw [h]; exact Bool.false_ne_true⟩
theorem allRange_true {n : Nat} {p : Nat → Bool} (h : ∀ k, k < n → p k = true) : (List.range n).all p = true :=
  List.all_eq_true.2 fun k hk => h k (List.mem_range.1 hk)
/-- A list whose places pass a test, of at most m places. -/
def listB {α : Type} (m : Nat) (step : List α → Nat → Bool) (xs : List α) : Bool := decide (xs.length ≤ m) && (List.range xs.length).all (step xs)
theorem listB_false {α : Type} {m : Nat} {step : List α → Nat → Bool} {xs : List α} {k : Nat} (hk : k < xs.length) (h : step xs k = false) : listB m step xs = false := by
  unfold listB; rw [allRange_false hk h, Bool.and_false]
theorem listB_long {α : Type} {m : Nat} {step : List α → Nat → Bool} {xs : List α} (h : m < xs.length) : listB m step xs = false := by
  unfold listB; rw [decide_eq_false (by omega), Bool.false_and]
theorem listB_end {α : Type} {m : Nat} {step : List α → Nat → Bool} {xs : List α} (h : ∀ k, k < xs.length → step xs k = true) : listB m step xs = decide (xs.length ≤ m) := by
  unfold listB; rw [allRange_true h, Bool.and_true]
theorem listB_len {α : Type} {m : Nat} {step : List α → Nat → Bool} {xs : List α} (h : listB m step xs = true) : xs.length ≤ m := by
  unfold listB at h; simp only [Bool.and_eq_true, decide_eq_true_eq] at h; exact h.1
theorem listB_step {α : Type} {m : Nat} {step : List α → Nat → Bool} {xs : List α} (h : listB m step xs = true) {k : Nat} (hk : k < xs.length) : step xs k = true := by
  unfold listB at h; simp only [Bool.and_eq_true, decide_eq_true_eq] at h
  exact List.all_eq_true.1 h.2 k (List.mem_range.2 hk)
theorem getLt {α : Type} {xs : List α} {i : Nat} (h : i < xs.length) : xs[i]? = some (xs[i]) := List.getElem?_eq_getElem h
end Go.Proofs.Ytgnnlgmeagipjaa.K
