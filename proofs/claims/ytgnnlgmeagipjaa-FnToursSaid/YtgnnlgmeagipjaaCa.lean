/- The reference's cursor over bytes: what its reader needs. By an AI agent. -/
import Derived.Test.YtgnnlgmeagipjaaKo
set_option linter.unusedVariables false
namespace Go.Proofs.Ytgnnlgmeagipjaa.K
open Go Go.RowKit

/-- The bytes that a cursor reads: they lie in memory that may not be written. -/
def CodeOk (w : World) (D : List Nat) (a : Option Addr) (lc : Nat) : Prop :=
  lc ≤ 9223372036854775807 ∧ ∀ j, j < lc → ∃ b o x, a = some ⟨b, o, none⟩ ∧ w.cell? ⟨b, o + j * 1, none⟩ = some (.int .u8 x) ∧ (0 ≤ x ∧ x ≤ 255) ∧ b ∉ D
theorem Hp.oldD {D : List Nat} {w0 w : World} {μ : List Ent} (hp : Hp ⟨w0, D⟩ μ w) {b o : Nat} {v : Value} (hc : w0.cell? ⟨b, o, none⟩ = some v) (hd : b ∉ D) : w.cell? ⟨b, o, none⟩ = some v := by
  have hlt := cell_lt hc
  have hf := hp.frame b hlt hd
  unfold World.cell? at hc ⊢
  simp only at hc ⊢
  rw [hf]; exact hc
theorem Hp.key_or {w0 : Base} {w : World} {μ : List Ent} (h : Hp w0 μ w) {b : Nat} (hb : b ∈ keys μ) : w0.w.heap.size ≤ b ∨ b ∈ w0.dirty := by
  obtain ⟨e, he, hb'⟩ := List.mem_filterMap.1 hb
  have hok := h.ents _ he
  obtain ⟨o, T, L⟩ := e
  simp only at hb'
  subst hb'
  exact hok.1
/-- Told on to a callee that may write the blocks E. -/
theorem CodeOk.call {w w1 : World} {D : List Nat} {a : Option Addr} {lc : Nat} {μ E : List Ent} (h : CodeOk w D a lc) (hp : Hp ⟨w, D⟩ μ w1) (hs : ∀ e ∈ E, e ∈ μ) : CodeOk w1 (keys E) a lc := by
  refine ⟨h.1, fun j hj => ?_⟩
  obtain ⟨b, o, x, ha, hc, hx, hd⟩ := h.2 j hj
  refine ⟨b, o, x, ha, hp.oldD hc hd, hx, fun hm => ?_⟩
  obtain ⟨e, he, hb'⟩ := List.mem_filterMap.1 hm
  have hk : b ∈ keys μ := List.mem_filterMap.2 ⟨e, hs e he, hb'⟩
  rcases hp.key_or hk with h1 | h1
  · have := cell_lt hc
    simp only at this h1
    omega
  · exact hd h1
def bytesL (xs : List Int) : List Value := xs.map (Value.int .u8)
theorem CodeOk.of {w : World} {a : Option Addr} {cap : Nat} {xs : List Int} (h : SR w 1 (.slice a xs.length cap) xs.length (bytesL xs)) (hb : ∀ x ∈ xs, 0 ≤ x ∧ x ≤ 255) : CodeOk w [] a xs.length := by
  refine ⟨h.len_le, fun j hj => ?_⟩
  obtain ⟨b, o, ha, hc⟩ := h.at hj (by omega)
  have hx := getLt hj
  exact ⟨b, o, xs[j], ha, hc 0 _ (by omega) (by rw [Nat.mul_one, Nat.add_zero]; simp [bytesL, hx]), hb _ (List.getElem_mem hj), by simp⟩

theorem bytes_flat (xs : List Int) : flat (fun i => [Value.int .u8 i]) xs = bytesL xs := by
  induction xs with
  | nil => rfl
  | cons x t ih =>
    show Value.int .u8 x :: flat (fun i => [Value.int .u8 i]) t = _
    rw [ih]; rfl
theorem CodeOk.ofF {w : World} {a : Option Addr} {cap : Nat} {xs : List Int} (h : SR w 1 (.slice a xs.length cap) xs.length (flat (fun i => [Value.int .u8 i]) xs)) (hb : ∀ x ∈ xs, 0 ≤ x ∧ x ≤ 255) : CodeOk w [] a xs.length :=
  CodeOk.of (h.cast rfl (bytes_flat xs)) hb

section
variable {P : Program} {n : Nat} {σ : List (Nat × Value)} {w0 : Base} {μ : List Ent} {ty : TypeId} {x y : Operand} {t u : TypeId} {i : Int}
theorem ov_shr40 (hx : EV σ x = some (.int .u64 i)) : OV P n (.binOp .shr t x (.const (.int .u64 40)) u) ty (.int .u64 (i.fdiv (2 ^ 40))) σ w0 μ := run_bin _ _ _ _ _ .u64 i 40 _ hx rfl fun w => rfl
/-- The last eight bits. -/
def low8 (i : Int) : Int := IntKind.u64.wrap ((BitVec.ofInt 64 i &&& BitVec.ofInt 64 255).toNat : Nat)
theorem ov_and255 (hx : EV σ x = some (.int .u64 i)) : OV P n (.binOp .and t x (.const (.int .u64 255)) u) ty (.int .u64 (low8 i)) σ w0 μ := run_bin _ _ _ _ _ .u64 i 255 _ hx rfl fun w => rfl
theorem low8_bd (i : Int) : 0 ≤ low8 i ∧ low8 i ≤ 255 := by
  have h : (BitVec.ofInt 64 i &&& BitVec.ofInt 64 255).toNat ≤ 255 := by
    rw [BitVec.toNat_and]
    exact Nat.le_trans Nat.and_le_right (by decide)
  unfold low8
  generalize (BitVec.ofInt 64 i &&& BitVec.ofInt 64 255).toNat = m at h
  have : IntKind.u64.wrap (m : Int) = m := by
    simp only [IntKind.wrap, IntKind.signed, IntKind.bits]
    simp
    omega
  rw [this]; omega
end
theorem wrap8 {x : Int} (h : 0 ≤ x ∧ x ≤ 255) : IntKind.i64.wrap x = x := IntWalk.i64_in _ (by omega)

/-- A literal of small numbers. -/
def okInts (L : List Value) : Bool := L.all fun v => match v with | .int .i64 x => decide (-1000000 ≤ x) && decide (x ≤ 1000000) | _ => false
theorem okInts_at {L : List Value} (h : okInts L = true) {j : Nat} (hj : j < L.length) : ∃ x : Int, L[j]? = some (.int .i64 x) ∧ -1000000 ≤ x ∧ x ≤ 1000000 := by
  have h2 := List.all_eq_true.1 h L[j] (List.getElem_mem hj)
  split at h2
  · rename_i x hx
    simp only [Bool.and_eq_true, decide_eq_true_eq] at h2
    exact ⟨x, by rw [List.getElem?_eq_getElem hj, hx], h2⟩
  · cases h2
def okIntsL (L : List Value) : Bool := L.all fun v => match v with | .int .i64 x => decide (-10000000000 ≤ x) && decide (x ≤ 10000000000) | _ => false
theorem okIntsL_at {L : List Value} (h : okIntsL L = true) {j : Nat} (hj : j < L.length) : ∃ x : Int, L[j]? = some (.int .i64 x) ∧ -10000000000 ≤ x ∧ x ≤ 10000000000 := by
  have h2 := List.all_eq_true.1 h L[j] (List.getElem_mem hj)
  split at h2
  · rename_i x hx
    simp only [Bool.and_eq_true, decide_eq_true_eq] at h2
    exact ⟨x, by rw [List.getElem?_eq_getElem hj, hx], h2⟩
  · cases h2
/-- A literal of numbers within bounds. -/
def okIntsR (lo hi : Int) (L : List Value) : Bool := L.all fun v => match v with | .int .i64 x => decide (lo ≤ x) && decide (x ≤ hi) | _ => false
theorem okIntsR_at {lo hi : Int} {L : List Value} (h : okIntsR lo hi L = true) {j : Nat} (hj : j < L.length) : ∃ x : Int, L[j]? = some (.int .i64 x) ∧ lo ≤ x ∧ x ≤ hi := by
  have h2 := List.all_eq_true.1 h L[j] (List.getElem_mem hj)
  split at h2
  · rename_i x hx
    simp only [Bool.and_eq_true, decide_eq_true_eq] at h2
    exact ⟨x, by rw [List.getElem?_eq_getElem hj, hx], h2⟩
  · cases h2
def okStrs (L : List Value) : Bool := L.all fun v => match v with | .string s => decide (s.size ≤ 1000) | _ => false
theorem okStrs_at {L : List Value} (h : okStrs L = true) {j : Nat} (hj : j < L.length) : ∃ s : ByteArray, L[j]? = some (.string s) ∧ s.size ≤ 1000 := by
  have h2 := List.all_eq_true.1 h L[j] (List.getElem_mem hj)
  split at h2
  · rename_i x hx
    simp only [decide_eq_true_eq] at h2
    exact ⟨x, by rw [List.getElem?_eq_getElem hj, hx], h2⟩
  · cases h2
theorem atMul {L : List Value} {j : Nat} {v : Value} (h : L[j]? = some v) : L[0 + j * 1]? = some v := by rw [Nat.mul_one, Nat.zero_add]; exact h
end Go.Proofs.Ytgnnlgmeagipjaa.K
