/- Tours: the reference's table over sets of stays. By an AI agent. -/
import Derived.Test.YtgnnlgmeagipjaaGd
set_option linter.unusedVariables false
set_option linter.unusedSectionVars false
set_option linter.unusedSimpArgs false
namespace Go.Proofs.Ytgnnlgmeagipjaa
open Go Go.RowKit K

/-! ### Bits -/
theorem add_bit : ∀ b < 128, ∀ i < 7, b / 2 ^ i % 2 = 0 → b + 2 ^ i < 128 ∧ ∀ j < 7, (b + 2 ^ i) / 2 ^ j % 2 = if j = i then 1 else b / 2 ^ j % 2 := by decide +kernel
theorem sub_bit : ∀ b < 128, ∀ i < 7, b / 2 ^ i % 2 ≠ 0 → 2 ^ i ≤ b ∧ (b - 2 ^ i) / 2 ^ i % 2 = 0 := by decide +kernel
theorem bit_lt : ∀ n < 8, ∀ b < 128, (∀ j < 7, n ≤ j → b / 2 ^ j % 2 = 0) → b < 2 ^ n := by decide +kernel
theorem bit_hi : ∀ n < 8, ∀ b < 128, b < 2 ^ n → ∀ j < 7, n ≤ j → b / 2 ^ j % 2 = 0 := by decide +kernel
theorem bit_full : ∀ n < 8, ∀ b < 128, b < 2 ^ n → (∀ j < n, b / 2 ^ j % 2 = 1) → b = 2 ^ n - 1 := by decide +kernel
theorem full_bit : ∀ n < 8, ∀ j < n, (2 ^ n - 1) / 2 ^ j % 2 = 1 := by decide +kernel
theorem pow_le128 : ∀ n < 8, 2 ^ n ≤ 128 ∧ 1 ≤ 2 ^ n := by decide
def bitsO (l : List Int) : Nat := l.foldl (fun s i => s + 2 ^ i.toNat) 0
theorem bitsO_app (l : List Int) (i : Int) : bitsO (l ++ [i]) = bitsO l + 2 ^ i.toNat := by simp [bitsO, List.foldl_append]
/-- An order, whether there is a way or not. -/
structure Ord (n : Nat) (l : List Int) : Prop where
  nd : l.Nodup
  rng : ∀ i ∈ l, 0 ≤ i ∧ i < (n : Int)
theorem Ord.init {n : Nat} {l : List Int} {i : Int} (h : Ord n (l ++ [i])) : Ord n l ∧ i ∉ l ∧ 0 ≤ i ∧ i < n := by
  obtain ⟨h1, _, h3⟩ := List.nodup_append.1 h.nd
  exact ⟨⟨h1, fun j hj => h.rng j (by simp [hj])⟩, fun hm => h3 i hm i (by simp) rfl, h.rng i (by simp)⟩
theorem Ord.snoc {n : Nat} {l : List Int} {i : Int} (h : Ord n l) (hn : i ∉ l) (h0 : 0 ≤ i) (h1 : i < n) : Ord n (l ++ [i]) := by
  refine ⟨List.nodup_append.2 ⟨h.nd, by simp, fun a ha b hb => ?_⟩, fun j hj => ?_⟩
  · obtain rfl : b = i := by simpa using hb
    exact fun e => hn (e ▸ ha)
  · rcases List.mem_append.1 hj with hj | hj
    · exact h.rng j hj
    · obtain rfl : j = i := by simpa using hj
      exact ⟨h0, h1⟩
theorem bits_bit {n : Nat} (hn : n ≤ 7) : ∀ (m : Nat) (l : List Int), l.length = m → Ord n l → bitsO l < 128 ∧ ∀ j : Nat, j < 7 → bitsO l / 2 ^ j % 2 = if (j : Int) ∈ l then 1 else 0 := by
  intro m
  induction m with
  | zero =>
    intro l hl _
    obtain rfl := List.length_eq_zero_iff.1 hl
    exact ⟨by decide, by decide⟩
  | succ m ih =>
    intro l hl ho
    rcases List.eq_nil_or_concat l with rfl | ⟨l', i, rfl⟩
    · simp at hl
    · rw [List.concat_eq_append] at *
      obtain ⟨h1, h2, h3, h4⟩ := ho.init
      obtain ⟨hb, hj⟩ := ih l' (by simpa using hl) h1
      have hc : ((i.toNat : Nat) : Int) = i := by omega
      have hz := hj i.toNat (by omega)
      rw [hc, if_neg h2] at hz
      obtain ⟨a1, a2⟩ := add_bit _ hb i.toNat (by omega) hz
      rw [bitsO_app]
      refine ⟨a1, fun j hj7 => ?_⟩
      rw [a2 j hj7, hj j hj7]
      by_cases e : j = i.toNat
      · subst e; simp [hc]
      · have : (j : Int) ≠ i := by omega
        simp [e, this]
theorem Ord.bits {n : Nat} {l : List Int} (hn : n ≤ 7) (h : Ord n l) : bitsO l < 2 ^ n ∧ ∀ j : Nat, j < 7 → bitsO l / 2 ^ j % 2 = if (j : Int) ∈ l then 1 else 0 := by
  obtain ⟨h1, h2⟩ := bits_bit hn _ l rfl h
  refine ⟨bit_lt n (by omega) _ h1 fun j hj hnj => ?_, h2⟩
  rw [h2 j hj, if_neg]
  intro hm
  have := h.rng _ hm
  omega
theorem len_ge : ∀ (n : Nat) (l : List Int), (∀ j < n, (j : Int) ∈ l) → n ≤ l.length
  | 0, _, _ => Nat.zero_le _
  | n + 1, l, h => by
    have hm := h n (by omega)
    have := len_ge n (l.erase (n : Int)) (fun j hj => (List.mem_erase_of_ne (by omega)).2 (h j (by omega)))
    rw [List.length_erase_of_mem hm] at this
    have := List.length_pos_of_mem hm
    omega
theorem Ord.full {n : Nat} {l : List Int} (hn : n ≤ 7) (h : Ord n l) : l.length = n ↔ bitsO l = 2 ^ n - 1 := by
  obtain ⟨h1, h2⟩ := h.bits hn
  have hp := pow_le128 n (by omega)
  constructor
  · intro hl
    refine bit_full n (by omega) _ (by omega) h1 fun j hj => ?_
    rw [h2 j (by omega)]
    by_cases hm : (j : Int) ∈ l
    · rw [if_pos hm]
    · exfalso
      have ho := h.snoc hm (by omega) (by omega)
      have := pigeon n _ ho.nd ho.rng
      rw [List.length_append, List.length_singleton] at this
      omega
  · intro hb
    have h3 := pigeon n l h.nd h.rng
    have h4 := len_ge n l fun j hj => by
      have := full_bit n (by omega) j hj
      rw [← hb, h2 j (by omega)] at this
      by_cases hm : (j : Int) ∈ l
      · exact hm
      · rw [if_neg hm] at this; omega
    omega

/-! ### The table -/
section
variable (W : List Int) (st : List Stay)
def twN (st : List Stay) (i : Nat) : Nat := (tw st (i : Int)).toNat
def legH (out : List (List Int)) (rest i k : Nat) : Int := (out.getD rest []).getD k 0 + g8 W (twN st k) (twN st i) + dy st (i : Int)
def legP (out : List (List Int)) (rest i k : Nat) : Int := (List.range k).foldl (fun r q => imin r (legH W st out rest i q)) 1000000
def cellH (out : List (List Int)) (b i : Nat) : Int :=
  if b / 2 ^ i % 2 = 0 then 1000000
  else if b - 2 ^ i = 0 then imin 1000000 (g8 W 0 (twN st i) + dy st (i : Int))
  else legP W st out (b - 2 ^ i) i st.length
def rowH (out : List (List Int)) (b : Nat) : List Int := (List.range st.length).map (cellH W st out b)
def rowsH : Nat → List (List Int)
  | 0 => []
  | b + 1 => rowsH b ++ [rowH W st (rowsH b) b]
def tabH (b i : Nat) : Int := cellH W st (rowsH W st b) b i
end
section
variable {W : List Int} {st : List Stay}
theorem getD_of {α : Type} {l : List α} {i : Nat} {d v : α} (h : l[i]? = some v) : l.getD i d = v := by rw [List.getD_eq_getElem?_getD, h]; rfl
theorem rowsH_len : ∀ b, (rowsH W st b).length = b
  | 0 => rfl
  | b + 1 => by rw [rowsH, List.length_append, rowsH_len b]; rfl
theorem rowsH_get : ∀ (m b : Nat), b < m → (rowsH W st m)[b]? = some (rowH W st (rowsH W st b) b)
  | 0, b, h => by omega
  | m + 1, b, h => by
    rw [rowsH]
    by_cases hb : b < m
    · rw [List.getElem?_append_left (by rw [rowsH_len]; exact hb)]
      exact rowsH_get m b hb
    · obtain rfl : b = m := by omega
      rw [List.getElem?_append_right (by rw [rowsH_len]; exact Nat.le_refl _), rowsH_len, Nat.sub_self]; rfl
theorem rowH_get {out : List (List Int)} {b i : Nat} (hi : i < st.length) : (rowH W st out b)[i]? = some (cellH W st out b i) := by simp [rowH, hi]
theorem rowH_len {out : List (List Int)} {b : Nat} : (rowH W st out b).length = st.length := by simp [rowH]
theorem rows_cell {m b i : Nat} (hb : b < m) (hi : i < st.length) : ((rowsH W st m).getD b []).getD i 0 = tabH W st b i := by
  rw [getD_of (rowsH_get m b hb), getD_of (rowH_get hi)]; rfl
theorem legP_le (out : List (List Int)) (rest i : Nat) : ∀ (n k : Nat), k < n → legP W st out rest i n ≤ legH W st out rest i k
  | 0, k, h => by omega
  | n + 1, k, h => by
    unfold legP
    rw [List.range_succ, List.foldl_append]
    show imin (legP W st out rest i n) (legH W st out rest i n) ≤ _
    by_cases hk : k < n
    · have := legP_le out rest i n k hk
      unfold imin; split <;> omega
    · obtain rfl : k = n := by omega
      unfold imin; split <;> omega
theorem legP_some (out : List (List Int)) (rest i : Nat) : ∀ n, legP W st out rest i n = 1000000 ∨ ∃ k, k < n ∧ legP W st out rest i n = legH W st out rest i k
  | 0 => .inl rfl
  | n + 1 => by
    have ih := legP_some out rest i n
    unfold legP
    rw [List.range_succ, List.foldl_append]
    show imin (legP W st out rest i n) (legH W st out rest i n) = 1000000 ∨ ∃ k, k < n + 1 ∧ imin (legP W st out rest i n) (legH W st out rest i n) = _
    unfold imin
    split
    · first
      | (rcases ih with ih | ⟨k, hk, ih⟩
         · exact .inl ih
         · exact .inr ⟨k, by omega, ih⟩)
      | exact .inr ⟨n, by omega, rfl⟩
    · first
      | (rcases ih with ih | ⟨k, hk, ih⟩
         · exact .inl ih
         · exact .inr ⟨k, by omega, ih⟩)
      | exact .inr ⟨n, by omega, rfl⟩
theorem legP_cap (out : List (List Int)) (rest i : Nat) : ∀ n, legP W st out rest i n ≤ 1000000
  | 0 => Int.le_refl _
  | n + 1 => by
    have ih := legP_cap out rest i n
    unfold legP
    rw [List.range_succ, List.foldl_append]
    show imin (legP W st out rest i n) (legH W st out rest i n) ≤ _
    unfold imin; split <;> omega
theorem legP_congr {out out' : List (List Int)} {rest i : Nat} (n : Nat) (h : ∀ k, k < n → legH W st out rest i k = legH W st out' rest i k) : legP W st out rest i n = legP W st out' rest i n := by
  induction n with
  | zero => rfl
  | succ n ih =>
    unfold legP
    rw [List.range_succ, List.foldl_append, List.foldl_append]
    show imin (legP W st out rest i n) (legH W st out rest i n) = imin (legP W st out' rest i n) (legH W st out' rest i n)
    rw [ih fun k hk => h k (by omega), h n (by omega)]
theorem tabH_cap (b i : Nat) : tabH W st b i ≤ 1000000 := by
  unfold tabH cellH
  split
  · exact Int.le_refl _
  · split
    · unfold imin; split <;> omega
    · exact legP_cap _ _ _ _
theorem legH_tab {b i k : Nat} (hp : 0 < 2 ^ i) (hb : b - 2 ^ i ≠ 0) (hk : k < st.length) : legH W st (rowsH W st b) (b - 2 ^ i) i k = tabH W st (b - 2 ^ i) k + g8 W (twN st k) (twN st i) + dy st (i : Int) := by
  unfold legH
  rw [rows_cell (by omega) hk]
/-- What the table tells is the days of an order. -/
theorem tab_some (hW : ∀ a b, 0 ≤ g8 W a b) (hs : staysB st = true) (h7 : st.length ≤ 7) : ∀ (b : Nat), b < 2 ^ st.length → ∀ i, i < st.length → tabH W st b i < 1000000 → ∃ l, Ord st.length (l ++ [(i : Int)]) ∧ bitsO (l ++ [(i : Int)]) = b ∧ (daF W st (l ++ [(i : Int)])).1 = tabH W st b i := by
  intro b
  induction b using Nat.strongRecOn with
  | ind b ih =>
    intro hb i hi hlt
    have hp := pow_le128 st.length (by omega)
    have hdy := dy_bd hs (i : Int)
    have h2 : 0 < 2 ^ i := Nat.pow_pos (by decide)
    have hb0 : b / 2 ^ i % 2 ≠ 0 := by
      intro h
      unfold tabH cellH at hlt
      rw [if_pos h] at hlt
      omega
    obtain ⟨hle, hz⟩ := sub_bit b (by omega) i (by omega) hb0
    by_cases hr : b - 2 ^ i = 0
    · have e : tabH W st b i = imin 1000000 (g8 W 0 (twN st i) + dy st (i : Int)) := by unfold tabH cellH; rw [if_neg hb0, if_pos hr]
      refine ⟨[], ⟨by simp, fun j hj => ?_⟩, ?_, ?_⟩
      · obtain rfl : j = (i : Int) := by simpa using hj
        omega
      · rw [bitsO_app, Int.toNat_natCast]; show 0 + 2 ^ i = b; omega
      · rw [e] at hlt ⊢
        have h3 : (daF W st ([] ++ [(i : Int)])).1 = g8 W 0 (twN st i) + dy st (i : Int) := by
          rw [daF_step.1]
          show 0 + g8 W 0 (twN st i) + dy st (i : Int) = _
          omega
        rw [h3]
        unfold imin at hlt ⊢
        split at hlt <;> first | omega | (split <;> omega)
    · have e : tabH W st b i = legP W st (rowsH W st b) (b - 2 ^ i) i st.length := by unfold tabH cellH; rw [if_neg hb0, if_neg hr]
      rcases legP_some (W := W) (st := st) (rowsH W st b) (b - 2 ^ i) i st.length with h | ⟨k, hk, h⟩
      · rw [e, h] at hlt; omega
      · rw [legH_tab h2 hr hk] at h
        rw [e, h] at hlt ⊢
        have hg := hW (twN st k) (twN st i)
        obtain ⟨l, ho, hbits, hd⟩ := ih (b - 2 ^ i) (by omega) (by omega) k hk (by omega)
        have hn : (i : Int) ∉ l ++ [(k : Int)] := by
          intro hm
          have := (ho.bits h7).2 i (by omega)
          rw [if_pos hm, hbits] at this
          omega
        refine ⟨l ++ [(k : Int)], ho.snoc hn (by omega) (by omega), ?_, ?_⟩
        · rw [bitsO_app, hbits, Int.toNat_natCast]; omega
        · rw [daF_step.1, hd, daF_step.2]; rfl
/-- Every order counts in the table. -/
theorem tab_le (h7 : st.length ≤ 7) : ∀ (m : Nat) (l : List Int) (i : Nat), l.length = m → Ord st.length (l ++ [(i : Int)]) → tabH W st (bitsO (l ++ [(i : Int)])) i ≤ (daF W st (l ++ [(i : Int)])).1 := by
  intro m
  induction m with
  | zero =>
    intro l i hl ho
    obtain rfl := List.length_eq_zero_iff.1 hl
    have hi := ho.rng (i : Int) (by simp)
    have hb := (ho.bits h7).2 i (by omega)
    rw [if_pos (by simp)] at hb
    have e0 : bitsO ([] ++ [(i : Int)]) = 2 ^ i := by rw [bitsO_app, Int.toNat_natCast]; show 0 + 2 ^ i = _; omega
    rw [e0] at hb ⊢
    have e : tabH W st (2 ^ i) i = imin 1000000 (g8 W 0 (twN st i) + dy st (i : Int)) := by unfold tabH cellH; rw [if_neg (by omega), if_pos (by omega)]
    rw [e, daF_step.1]
    show _ ≤ 0 + g8 W 0 (twN st i) + dy st (i : Int)
    unfold imin; split <;> omega
  | succ m ih =>
    intro l i hl ho
    rcases List.eq_nil_or_concat l with rfl | ⟨l', q, rfl⟩
    · simp at hl
    · rw [List.concat_eq_append] at *
      have hi := ho.rng (i : Int) (by simp)
      obtain ⟨ho', hni, _, _⟩ := ho.init
      have hq := ho'.rng q (by simp)
      obtain ⟨k, rfl⟩ : ∃ k : Nat, q = (k : Int) := ⟨q.toNat, by omega⟩
      have hb := (ho.bits h7).2 i (by omega)
      rw [if_pos (by simp)] at hb
      have hih := ih l' k (by simpa using hl) ho'
      have h2 : 0 < 2 ^ i := Nat.pow_pos (by decide)
      have h2k : 0 < 2 ^ k := Nat.pow_pos (by decide)
      have e0 : bitsO ((l' ++ [(k : Int)]) ++ [(i : Int)]) = bitsO (l' ++ [(k : Int)]) + 2 ^ i := by rw [bitsO_app, Int.toNat_natCast]
      have e1 : bitsO (l' ++ [(k : Int)]) = bitsO l' + 2 ^ k := by rw [bitsO_app, Int.toNat_natCast]
      rw [e0] at hb ⊢
      have hr : bitsO (l' ++ [(k : Int)]) + 2 ^ i - 2 ^ i = bitsO (l' ++ [(k : Int)]) := by omega
      have hr0 : bitsO (l' ++ [(k : Int)]) + 2 ^ i - 2 ^ i ≠ 0 := by omega
      have e : tabH W st (bitsO (l' ++ [(k : Int)]) + 2 ^ i) i = legP W st (rowsH W st (bitsO (l' ++ [(k : Int)]) + 2 ^ i)) (bitsO (l' ++ [(k : Int)]) + 2 ^ i - 2 ^ i) i st.length := by unfold tabH cellH; rw [if_neg (by omega), if_neg hr0]
      rw [e]
      have hle := legP_le (W := W) (st := st) (rowsH W st (bitsO (l' ++ [(k : Int)]) + 2 ^ i)) (bitsO (l' ++ [(k : Int)]) + 2 ^ i - 2 ^ i) i st.length k (by omega)
      rw [legH_tab h2 hr0 (by omega), hr] at hle
      rw [hr]
      refine Int.le_trans hle ?_
      rw [(daF_step (l := l' ++ [(k : Int)])).1, (daF_step (l := l')).2]
      show _ ≤ (daF W st (l' ++ [(k : Int)])).1 + g8 W (twN st k) (twN st i) + dy st (i : Int)
      omega
end
end Go.Proofs.Ytgnnlgmeagipjaa
