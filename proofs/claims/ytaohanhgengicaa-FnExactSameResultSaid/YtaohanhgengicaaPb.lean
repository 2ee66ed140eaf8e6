/- Moves: two lists of moves that end alike. By an AI agent. -/
import Derived.Test.YtaohanhgengicaaPa
set_option linter.unusedVariables false
namespace Go.Proofs.Ytaohanhgengicaa
open Go Go.RowKit K

deriving instance DecidableEq for IntA2
def sameD (xs ys : List IntA2) : Bool := decide (xs = ys)
theorem take_yes {xs ys : List IntA2} {k : Nat} {r q : IntA2} (hx : xs[k]? = some r) (hy : ys[k]? = some q) (ht : xs.take k = ys.take k) (ha : r.a = q.a) (hb : r.b = q.b) : xs.take (k + 1) = ys.take (k + 1) := by
  obtain ⟨a, b⟩ := r; obtain ⟨c, d⟩ := q
  dsimp only at ha hb
  subst ha; subst hb
  rw [List.take_add_one, List.take_add_one, ht, hx, hy]
theorem take_ne {xs ys : List IntA2} {k : Nat} {r q : IntA2} (hx : xs[k]? = some r) (hy : ys[k]? = some q) (h : ¬ (r.a = q.a ∧ r.b = q.b)) : ¬ xs.take (k + 1) = ys.take (k + 1) := fun e => h (by
  have h2 := congrArg (fun l : List IntA2 => l[k]?) e
  simp only [List.getElem?_take_of_lt (Nat.lt_succ_self k)] at h2
  rw [hx, hy] at h2
  obtain rfl := Option.some.inj h2
  exact ⟨rfl, rfl⟩)
theorem same_no {xs ys : List IntA2} {k : Nat} {r q : IntA2} {n : Int} (hx : xs[k]? = some r) (hy : ys[k]? = some q) (h : ¬ (r.a = q.a ∧ r.b = q.b)) (hn : n ≠ 0) : n = 0 ↔ sameD xs ys = true :=
  ⟨fun e => absurd e hn, fun e => absurd (congrArg (List.take (k + 1)) (of_decide_eq_true e)) (take_ne hx hy h)⟩
theorem same_end {xs ys : List IntA2} (hl : xs.length = ys.length) (h : xs.take xs.length = ys.take xs.length) : sameD xs ys = true := by
  rw [List.take_length, hl, List.take_length] at h
  exact decide_eq_true h
theorem same_iff {xs ys : List IntA2} {n : Nat} (hl : xs.length = ys.length) (h : n = 0 ↔ xs.take xs.length = ys.take xs.length) : n = 0 ↔ sameD xs ys = true := by
  rw [h, List.take_length, hl, List.take_length]
  exact ⟨fun e => decide_eq_true e, fun e => of_decide_eq_true e⟩
theorem btw_eq {xs ys : List IntA2} {k n : Nat} {r q : IntA2} (hx : xs[k]? = some r) (hy : ys[k]? = some q) (h : n = 0 ↔ xs.take k = ys.take k) (ha : r.a = q.a) (hb : r.b = q.b) : n = 0 ↔ xs.take (k + 1) = ys.take (k + 1) :=
  ⟨fun e => take_yes hx hy (h.1 e) ha hb, fun e => h.2 (by
    have := congrArg (List.take k) e
    rwa [List.take_take, List.take_take, Nat.min_eq_left (Nat.le_succ k)] at this)⟩
theorem btw_ne {xs ys : List IntA2} {k n : Nat} {r q : IntA2} (hx : xs[k]? = some r) (hy : ys[k]? = some q) (hn : 0 < n) (h : ¬ (r.a = q.a ∧ r.b = q.b)) : n = 0 ↔ xs.take (k + 1) = ys.take (k + 1) :=
  ⟨fun e => by omega, fun e => absurd e (take_ne hx hy h)⟩
/-- What both hand back. -/
def same2B (u l : Int) (xs : List IntA2) (ms ns : List BeadMove) : Bool := frameB u l xs && (movesB 60 ms && decide (ms.length ≤ 12)) && (movesB 60 ns && decide (ns.length ≤ 12)) && (playF u l xs ms).ok && (playF u l xs ns).ok
def same2R (u l : Int) (xs : List IntA2) (ms ns : List BeadMove) : Bool := same2B u l xs ms ns && sameD (playF u l xs ms).xs (playF u l xs ns).xs
theorem same2_no {u l : Int} {xs : List IntA2} {ms ns : List BeadMove} (h : same2B u l xs ms ns = false) : same2R u l xs ms ns = false := by rw [same2R, h]; rfl
theorem same2_yes {u l : Int} {xs : List IntA2} {ms ns : List BeadMove} (h : same2B u l xs ms ns = true) : same2R u l xs ms ns = sameD (playF u l xs ms).xs (playF u l xs ns).xs := by rw [same2R, h]; rfl
theorem same2_bad {u l : Int} {xs : List IntA2} {ms ns : List BeadMove} (h : frameB u l xs = false ∨ (movesB 60 ms && decide (ms.length ≤ 12)) = false ∨ (movesB 60 ns && decide (ns.length ≤ 12)) = false ∨ (playF u l xs ms).ok = false ∨ (playF u l xs ns).ok = false) : same2B u l xs ms ns = false := by
  unfold same2B
  rcases h with h | h | h | h | h <;> rw [h] <;> simp
theorem same2_good {u l : Int} {xs : List IntA2} {ms ns : List BeadMove} (h0 : frameB u l xs = true) (h1 : (movesB 60 ms && decide (ms.length ≤ 12)) = true) (h2 : (movesB 60 ns && decide (ns.length ≤ 12)) = true) (h3 : (playF u l xs ms).ok = true) (h4 : (playF u l xs ns).ok = true) : same2B u l xs ms ns = true := by
  unfold same2B; rw [h0, h1, h2, h3, h4]; rfl
theorem playR_okE {u l : Int} {xs : List IntA2} {ms : List BeadMove} (h : (playR u l xs ms).ok = true) : frameB u l xs = true ∧ movesB 60 ms = true ∧ playR u l xs ms = playF u l xs ms := by
  unfold playR at *
  split at h
  · rename_i hc
    rw [Bool.and_eq_true] at hc
    exact ⟨hc.1, hc.2, by rw [hc.1, hc.2]; rfl⟩
  · cases h
theorem playR_bad {u l : Int} {xs : List IntA2} {ms : List BeadMove} (h : (playR u l xs ms).ok = false) : frameB u l xs = false ∨ movesB 60 ms = false ∨ (playF u l xs ms).ok = false := by
  unfold playR at h
  split at h
  · exact .inr (.inr h)
  · rename_i hc
    rw [Bool.and_eq_true] at hc
    cases h1 : frameB u l xs with
    | false => exact .inl rfl
    | true =>
      cases h2 : movesB 60 ms with
      | false => exact .inr (.inl rfl)
      | true => exact absurd ⟨h1, h2⟩ hc
theorem same2_badR {u l : Int} {xs : List IntA2} {ms ns : List BeadMove} (h : (playR u l xs ms).ok = false ∨ (playR u l xs ns).ok = false) : same2B u l xs ms ns = false := by
  rcases h with h | h <;> rcases playR_bad h with h | h | h
  · exact same2_bad (.inl h)
  · exact same2_bad (.inr (.inl (by rw [h]; rfl)))
  · exact same2_bad (.inr (.inr (.inr (.inl h))))
  · exact same2_bad (.inl h)
  · exact same2_bad (.inr (.inr (.inl (by rw [h]; rfl))))
  · exact same2_bad (.inr (.inr (.inr (.inr h))))
theorem playK_frame {u l : Int} {xs : List IntA2} {ms : List BeadMove} (hf : frameB u l xs = true) : ∀ {k : Nat} {ys : List IntA2}, playK u l xs ms k = some ys → frameB u l ys = true
  | 0, ys, h => by obtain rfl := Option.some.inj h; exact hf
  | k + 1, ys, h => by
    simp only [playK] at h
    split at h
    · split at h
      · rename_i hm; obtain rfl := Option.some.inj h; exact (makeB_len hm).2
      · cases h
    · cases h
theorem playF_frame {u l : Int} {xs : List IntA2} {ms : List BeadMove} (hf : frameB u l xs = true) (h : (playF u l xs ms).ok = true) : (playF u l xs ms).xs.length = xs.length ∧ frameB u l (playF u l xs ms).xs = true := by
  unfold playF at *
  split at h
  · rename_i ys hk; exact ⟨playK_len hk, playK_frame hf hk⟩
  · cases h
theorem dec_iff {n : Int} {b : Bool} (h : n = 0 ↔ b = true) : decide (n = 0) = b := by
  cases b with
  | true => exact decide_eq_true (h.2 rfl)
  | false => exact decide_eq_false (fun e => by have := h.1 e; cases this)
theorem beq_iff' {n : Int} {b : Bool} (h : n = 0 ↔ b = true) : (n == 0) = b := by
  rw [Bool.eq_iff_iff, beq_iff_eq, h]
end Go.Proofs.Ytaohanhgengicaa
