/- What is reached: the reference's loops step by step, and how long the list can be (plain). By an AI agent. -/
import Derived.Test.YtjhlhkglpecdbaaHa
set_option linter.unusedVariables false
set_option linter.unusedSimpArgs false
namespace Go.Proofs.Ytjhlhkglpecdbaa
open Go Go.RowKit K

theorem ris_len {hi : Int} : ∀ {l : List Int} {lo : Int}, risL l → (∀ x ∈ l, lo ≤ x ∧ x ≤ hi) → lo ≤ hi + 1 → (l.length : Int) ≤ hi + 1 - lo
  | [], lo, _, _, h => by simp; omega
  | a :: t, lo, hr, hb, h => by
    unfold risL at hr
    rw [List.pairwise_cons] at hr
    have h1 := hb a List.mem_cons_self
    have ih := ris_len (l := t) (lo := a + 1) hr.2 (fun x hx => ⟨by have := hr.1 x hx; omega, (hb x (List.mem_cons_of_mem _ hx)).2⟩) (by omega)
    rw [List.length_cons]; omega
def outB (out : List Int) : Prop := risL out ∧ ∀ x ∈ out, 0 ≤ x ∧ x ≤ 165
theorem outB.len {out : List Int} (h : outB out) : out.length ≤ 166 := by have := ris_len (lo := 0) h.1 h.2 (by omega); omega
theorem outB.put {out : List Int} (h : outB out) {n : Int} (hn : 0 ≤ n ∧ n ≤ 165) : outB (putL out n) := ⟨risL_put _ h.1, fun x hx => by rcases mem_put.1 hx with hx | rfl; exact h.2 x hx; exact hn⟩
theorem RchS_bd {u l : Int} (hu : u ≤ 2) (hl : l ≤ 5) : ∀ (d : Nat) (xs : List IntA2) (k : Nat) (m x : Int), RchS u l d xs k m x → 0 ≤ x ∧ 9 * x ≤ 15 * (p10 d - 1)
  | 0, xs, k, m, x, h => by rw [RchS] at h; subst h; rw [show p10 0 = 1 from rfl]; omega
  | d + 1, xs, k, m, x, h => by
    rw [RchS] at h
    obtain ⟨a, ha, b, hb, _, r, hr, rfl⟩ := h
    have ih := RchS_bd hu hl d xs _ _ r hr
    have hp := p10_pos d
    rw [List.mem_range] at ha hb
    have h0 : 0 ≤ (5 * (a : Int) + b) * p10 d := Int.mul_nonneg (by omega) (by omega)
    have h1 : (5 * (a : Int) + b) * p10 d ≤ 15 * p10 d := Int.mul_le_mul_of_nonneg_right (by omega) (by omega)
    rw [p10_succ]; omega
def stepB (u l : Int) (d : Nat) (xs : List IntA2) (k : Nat) (m : Int) (a : Nat) (acc : List Int) (b : Nat) : List Int := if m - prt (rodAt xs k) a b < 0 then acc else (reachS u l d xs (k + 1) (m - prt (rodAt xs k) a b)).foldl (fun acc r => putL acc ((5 * (a : Int) + b) * p10 d + r)) acc
def stA (u l : Int) (d : Nat) (xs : List IntA2) (k : Nat) (m : Int) (a : Nat) : List Int := (List.range a).foldl (fun acc a => (List.range (l + 1).toNat).foldl (stepB u l d xs k m a) acc) []
def stB (u l : Int) (d : Nat) (xs : List IntA2) (k : Nat) (m : Int) (a b : Nat) : List Int := (List.range b).foldl (stepB u l d xs k m a) (stA u l d xs k m a)
def stR (u l : Int) (d : Nat) (xs : List IntA2) (k : Nat) (m : Int) (a b j : Nat) : List Int := ((reachS u l d xs (k + 1) (m - prt (rodAt xs k) a b)).take j).foldl (fun acc r => putL acc ((5 * (a : Int) + b) * p10 d + r)) (stB u l d xs k m a b)
section
variable {u l : Int} {d : Nat} {xs : List IntA2} {k : Nat} {m : Int} {a b j : Nat}
theorem stA_end : stA u l d xs k m (u + 1).toNat = reachS u l (d + 1) xs k m := by rw [reachS]; rfl
theorem stA_zero : stA u l d xs k m 0 = [] := rfl
theorem stB_zero : stB u l d xs k m a 0 = stA u l d xs k m a := rfl
theorem stR_zero : stR u l d xs k m a b 0 = stB u l d xs k m a b := rfl
theorem stA_succ : stA u l d xs k m (a + 1) = stB u l d xs k m a (l + 1).toNat := by
  unfold stB; rw [stA, List.range_succ, List.foldl_append]; rfl
theorem stB_skip (h : m - prt (rodAt xs k) a b < 0) : stB u l d xs k m a (b + 1) = stB u l d xs k m a b := by
  rw [stB, List.range_succ, List.foldl_append, List.foldl_cons, List.foldl_nil, stepB, if_pos h]; rfl
theorem stB_go (h : ¬ m - prt (rodAt xs k) a b < 0) : stB u l d xs k m a (b + 1) = stR u l d xs k m a b (reachS u l d xs (k + 1) (m - prt (rodAt xs k) a b)).length := by
  rw [stB, List.range_succ, List.foldl_append, List.foldl_cons, List.foldl_nil, stepB, if_neg h, stR, List.take_length]; rfl
theorem stR_succ {r : Int} (h : (reachS u l d xs (k + 1) (m - prt (rodAt xs k) a b))[j]? = some r) : stR u l d xs k m a b (j + 1) = putL (stR u l d xs k m a b j) ((5 * (a : Int) + b) * p10 d + r) := by
  rw [stR, take_snoc h, List.foldl_append]; rfl
/-- What is put at a step. -/
theorem put_bd (hu : u ≤ 2) (hl : l ≤ 5) (hd : d ≤ 1) (ha : (a : Int) ≤ u) (hb : (b : Int) ≤ l) {r : Int} (h : r ∈ reachS u l d xs (k + 1) (m - prt (rodAt xs k) a b)) : 0 ≤ (5 * (a : Int) + b) * p10 d + r ∧ (5 * (a : Int) + b) * p10 d + r ≤ 165 := by
  have hr := RchS_bd hu hl d _ _ _ _ ((mem_reachS _ _ _ _ _).1 h)
  rcases Nat.le_one_iff_eq_zero_or_eq_one.1 hd with rfl | rfl
  · rw [show p10 0 = 1 from rfl] at *; omega
  · rw [show p10 1 = 10 from rfl] at *; omega
end
theorem reachS_bd {u l : Int} (hu : u ≤ 2) (hl : l ≤ 5) {d : Nat} (hd : d ≤ 2) (xs : List IntA2) (k : Nat) (m : Int) : outB (reachS u l d xs k m) := by
  refine ⟨ris_reachS _ _ _ _, fun x hx => ?_⟩
  have h := RchS_bd hu hl d _ _ _ _ ((mem_reachS _ _ _ _ _).1 hx)
  have : d = 0 ∨ d = 1 ∨ d = 2 := by omega
  rcases this with rfl | rfl | rfl
  · rw [show p10 0 = 1 from rfl] at h; omega
  · rw [show p10 1 = 10 from rfl] at h; omega
  · rw [show p10 2 = 100 from rfl] at h; omega
end Go.Proofs.Ytjhlhkglpecdbaa
