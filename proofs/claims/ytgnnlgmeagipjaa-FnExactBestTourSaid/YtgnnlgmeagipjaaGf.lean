/- Tours: the table tells what the search finds. By an AI agent. -/
import Derived.Test.YtgnnlgmeagipjaaGe
set_option linter.unusedVariables false
set_option linter.unusedSectionVars false
set_option linter.unusedSimpArgs false
namespace Go.Proofs.Ytgnnlgmeagipjaa
open Go Go.RowKit K

def minP (F : Nat → Int) (k : Nat) : Int := (List.range k).foldl (fun r q => imin r (F q)) 1000000
theorem minP_succ {F : Nat → Int} {k : Nat} : minP F (k + 1) = imin (minP F k) (F k) := by unfold minP; rw [List.range_succ, List.foldl_append]; rfl
theorem imin_or (a b : Int) : (imin a b = a ∧ a ≤ b) ∨ (imin a b = b ∧ b ≤ a) := by unfold imin; split <;> omega
theorem minP_cap (F : Nat → Int) : ∀ k, minP F k ≤ 1000000
  | 0 => Int.le_refl _
  | k + 1 => by
    have ih := minP_cap F k
    have := imin_or (minP F k) (F k)
    rw [minP_succ]; omega
theorem minP_le (F : Nat → Int) : ∀ n k, k < n → minP F n ≤ F k
  | 0, k, h => by omega
  | n + 1, k, h => by
    have := imin_or (minP F n) (F n)
    rw [minP_succ]
    by_cases hk : k < n
    · have := minP_le F n k hk; omega
    · obtain rfl : k = n := by omega
      omega
theorem minP_some (F : Nat → Int) : ∀ n, minP F n = 1000000 ∨ ∃ k, k < n ∧ minP F n = F k
  | 0 => .inl rfl
  | n + 1 => by
    rw [minP_succ]
    rcases imin_or (minP F n) (F n) with ⟨h, _⟩ | ⟨h, _⟩
    · rw [h]
      rcases minP_some F n with ih | ⟨k, hk, ih⟩
      · exact .inl ih
      · exact .inr ⟨k, by omega, ih⟩
    · exact .inr ⟨n, by omega, h⟩
theorem legP_min {W : List Int} {st : List Stay} {out : List (List Int)} {rest i k : Nat} : legP W st out rest i k = minP (legH W st out rest i) k := rfl

section
variable {xs : List Road} {st : List Stay} (hR : OkR xs) (hs : staysB st = true) (h7 : st.length ≤ 7)
include hR
theorem ways_nn (a b : Nat) : 0 ≤ g8 (ways (-1) xs) a b := ((bd_ways (wo := -1) (rs := xs) hR.1).getD _).1
include hs h7
theorem tab_ord {b i : Nat} (hb : b < 2 ^ st.length) (hi : i < st.length) (hl : tabH (ways (-1) xs) st b i < 1000000) : ∃ l, OrdR xs st l ∧ bitsO l = b ∧ (daF (ways (-1) xs) st l).1 = tabH (ways (-1) xs) st b i := by
  obtain ⟨l, ho, hbits, hd⟩ := tab_some (W := ways (-1) xs) (ways_nn hR) hs h7 b hb i hi hl
  exact ⟨l ++ [(i : Int)], OrdR.of hR hs _ _ rfl ho.nd ho.rng (by rw [hd]; exact hl), hbits, hd⟩
theorem ord_tab {l : List Int} (h : OrdR xs st l) (hne : l ≠ []) : ∃ i, i < st.length ∧ bitsO l < 2 ^ st.length ∧ tabH (ways (-1) xs) st (bitsO l) i ≤ (daF (ways (-1) xs) st l).1 := by
  rcases List.eq_nil_or_concat l with rfl | ⟨l', q, rfl⟩
  · exact absurd rfl hne
  · rw [List.concat_eq_append] at *
    have ho : Ord st.length (l' ++ [q]) := ⟨h.nd, h.rng⟩
    have hq := ho.rng q (by simp)
    obtain ⟨k, rfl⟩ : ∃ k : Nat, q = (k : Int) := ⟨q.toNat, by omega⟩
    exact ⟨k, by omega, (ho.bits h7).1, tab_le h7 _ l' k rfl ho⟩
theorem fd_yes (h0 : 0 < st.length) (hl : minP (tabH (ways (-1) xs) st (2 ^ st.length - 1)) st.length < 1000000) : 0 ≤ fdV xs st ∧ minP (tabH (ways (-1) xs) st (2 ^ st.length - 1)) st.length = fdV xs st := by
  have hp := pow_le128 st.length (by omega)
  rcases minP_some (tabH (ways (-1) xs) st (2 ^ st.length - 1)) st.length with h | ⟨i, hi, h⟩
  · omega
  · obtain ⟨l, hlo, hb, hd⟩ := tab_ord hR hs h7 (b := 2 ^ st.length - 1) (by omega) hi (by omega)
    have hlen := (Ord.full h7 ⟨hlo.nd, hlo.rng⟩).2 hb
    have h1 := fdV_le hR hs h7 hlo hlen
    rcases fdV_some hR hs h7 with h2 | ⟨l2, hl2, hn2, hd2⟩
    · omega
    · obtain ⟨i2, hi2, _, ht2⟩ := ord_tab hR hs h7 hl2 (by intro e; subst e; simp at hn2; omega)
      rw [(Ord.full h7 ⟨hl2.nd, hl2.rng⟩).1 hn2] at ht2
      have := minP_le (tabH (ways (-1) xs) st (2 ^ st.length - 1)) st.length i2 hi2
      omega
theorem fd_none (h0 : 0 < st.length) (hl : 1000000 ≤ minP (tabH (ways (-1) xs) st (2 ^ st.length - 1)) st.length) : fdV xs st < 0 := by
  rcases fdV_some hR hs h7 with h2 | ⟨l2, hl2, hn2, hd2⟩
  · omega
  · obtain ⟨i2, hi2, _, ht2⟩ := ord_tab hR hs h7 hl2 (by intro e; subst e; simp at hn2; omega)
    rw [(Ord.full h7 ⟨hl2.nd, hl2.rng⟩).1 hn2] at ht2
    have := minP_le (tabH (ways (-1) xs) st (2 ^ st.length - 1)) st.length i2 hi2
    have := hl2.small h7
    omega
theorem fd_zero (h0 : st.length = 0) : fdV xs st = 0 := by
  have h1 := fdV_le hR hs h7 (OrdR.nil xs st) (by simp [h0])
  have : (daF (ways (-1) xs) st []).1 = 0 := rfl
  omega
end

/-! ### Fees -/
def feesP (st : List Stay) (b k : Nat) : Int := (List.range k).foldl (fun s (i : Nat) => if b / 2 ^ i % 2 = 1 then s + fe st (i : Int) else s) 0
theorem feesP_succ {st : List Stay} {b k : Nat} : feesP st b (k + 1) = if b / 2 ^ k % 2 = 1 then feesP st b k + fe st (k : Int) else feesP st b k := by unfold feesP; rw [List.range_succ, List.foldl_append]; rfl
theorem feesP_add (st : List Stay) {b i : Nat} (hb : b < 128) (hi : i < 7) (hz : b / 2 ^ i % 2 = 0) : ∀ k, k ≤ 7 → feesP st (b + 2 ^ i) k = feesP st b k + if i < k then fe st (i : Int) else 0
  | 0, _ => by rw [if_neg (by omega)]; rfl
  | k + 1, hk => by
    have ih := feesP_add st hb hi hz k (by omega)
    have ha := (add_bit b hb i hi hz).2 k (by omega)
    rw [feesP_succ, feesP_succ, ih, ha]
    by_cases e : k = i
    · subst e
      rw [if_pos rfl, if_pos rfl, if_neg (by omega), if_neg (by omega), if_pos (by omega)]; omega
    · rw [if_neg e] at ha
      clear ih
      have hik : (if i < k + 1 then fe st (i : Int) else 0) = if i < k then fe st (i : Int) else 0 := by
        by_cases h : i < k
        · rw [if_pos h, if_pos (by omega)]
        · rw [if_neg h, if_neg (by omega)]
      rw [if_neg e, hik]
      generalize (if i < k then fe st (i : Int) else 0) = z
      by_cases hbk : b / 2 ^ k % 2 = 1
      · rw [if_pos hbk, if_pos hbk]; omega
      · rw [if_neg hbk, if_neg hbk]
theorem feesP_zero (st : List Stay) : ∀ k, feesP st 0 k = 0
  | 0 => rfl
  | k + 1 => by rw [feesP_succ, feesP_zero st k, if_neg (by simp)]
theorem feeL_bits {st : List Stay} (h7 : st.length ≤ 7) : ∀ (m : Nat) (l : List Int), l.length = m → Ord st.length l → feeL st l = feesP st (bitsO l) st.length := by
  intro m
  induction m with
  | zero =>
    intro l hl _
    obtain rfl := List.length_eq_zero_iff.1 hl
    exact (feesP_zero st _).symm
  | succ m ih =>
    intro l hl ho
    rcases List.eq_nil_or_concat l with rfl | ⟨l', i, rfl⟩
    · simp at hl
    · rw [List.concat_eq_append] at *
      obtain ⟨h1, h2, h3, h4⟩ := ho.init
      obtain ⟨hb, hj⟩ := h1.bits h7
      have hp := pow_le128 st.length (by omega)
      have hc : ((i.toNat : Nat) : Int) = i := by omega
      have hz := hj i.toNat (by omega)
      rw [hc, if_neg h2] at hz
      rw [feeL_app, bitsO_app, feesP_add st (by omega) (by omega) hz st.length h7, if_pos (by omega), hc, ih l' (by simpa using hl) h1]
theorem feesP_bd {st : List Stay} (hs : staysB st = true) (b : Nat) : ∀ k, 0 ≤ feesP st b k ∧ feesP st b k ≤ 1000 * (k : Int)
  | 0 => ⟨Int.le_refl 0, Int.le_refl 0⟩
  | k + 1 => by
    have ih := feesP_bd hs b k
    have := fe_bd hs (k : Int)
    rw [feesP_succ]
    split <;> omega

def bestS (W : List Int) (st : List Stay) (days v : Int) (b : Nat) : Int := if minP (tabH W st b) st.length ≤ days then (if v < feesP st b st.length then feesP st b st.length else v) else v
def bestP (W : List Int) (st : List Stay) (days : Int) (k : Nat) : Int := (List.range k).foldl (bestS W st days) 0
theorem bestP_succ {W : List Int} {st : List Stay} {days : Int} {k : Nat} : bestP W st days (k + 1) = bestS W st days (bestP W st days k) k := by unfold bestP; rw [List.range_succ, List.foldl_append]; rfl
theorem bestP_yes {W : List Int} {st : List Stay} {days : Int} {k : Nat} (h : minP (tabH W st k) st.length ≤ days) : bestP W st days (k + 1) = if bestP W st days k < feesP st k st.length then feesP st k st.length else bestP W st days k := by rw [bestP_succ, bestS, if_pos h]
theorem bestP_no {W : List Int} {st : List Stay} {days : Int} {k : Nat} (h : ¬ minP (tabH W st k) st.length ≤ days) : bestP W st days (k + 1) = bestP W st days k := by rw [bestP_succ, bestS, if_neg h]
theorem bestP_ge (W : List Int) (st : List Stay) (days : Int) : ∀ n, 0 ≤ bestP W st days n ∧ ∀ b, b < n → minP (tabH W st b) st.length ≤ days → feesP st b st.length ≤ bestP W st days n
  | 0 => ⟨Int.le_refl 0, fun b hb => by omega⟩
  | n + 1 => by
    obtain ⟨h1, h2⟩ := bestP_ge W st days n
    rw [bestP_succ, bestS]
    refine ⟨by split <;> (try split) <;> omega, fun b hb hd => ?_⟩
    by_cases e : b < n
    · have := h2 b e hd
      split <;> (try split) <;> omega
    · obtain rfl : b = n := by omega
      rw [if_pos hd]; split <;> omega
theorem bestP_some (W : List Int) (st : List Stay) (days : Int) : ∀ n, bestP W st days n = 0 ∨ ∃ b, b < n ∧ minP (tabH W st b) st.length ≤ days ∧ bestP W st days n = feesP st b st.length
  | 0 => .inl rfl
  | n + 1 => by
    have ih : bestP W st days n = 0 ∨ ∃ b, b < n + 1 ∧ minP (tabH W st b) st.length ≤ days ∧ bestP W st days n = feesP st b st.length := by
      rcases bestP_some W st days n with ih | ⟨b, hb, h1, h2⟩
      · exact .inl ih
      · exact .inr ⟨b, by omega, h1, h2⟩
    by_cases hd : minP (tabH W st n) st.length ≤ days
    · rw [bestP_yes hd]
      split
      · exact .inr ⟨n, by omega, hd, rfl⟩
      · exact ih
    · rw [bestP_no hd]; exact ih
theorem bt_ref {xs : List Road} {st : List Stay} (hR : OkR xs) (hs : staysB st = true) (h7 : st.length ≤ 7) {days : Int} (h0 : 0 ≤ days) (h1 : days ≤ 1000) : bestP (ways (-1) xs) st days (2 ^ st.length) = btV xs st days := by
  have hnil := btV_ge hR hs h7 (days := days) (OrdR.nil xs st) (by show (0 : Int) ≤ days; exact h0)
  have hn0 : feeL st [] = 0 := rfl
  obtain ⟨hb0, hbg⟩ := bestP_ge (ways (-1) xs) st days (2 ^ st.length)
  have hle : bestP (ways (-1) xs) st days (2 ^ st.length) ≤ btV xs st days := by
    rcases bestP_some (ways (-1) xs) st days (2 ^ st.length) with h | ⟨b, hb, hd, h⟩
    · omega
    · rcases minP_some (tabH (ways (-1) xs) st b) st.length with hm | ⟨i, hi, hm⟩
      · omega
      · obtain ⟨l, hlo, hbits, hdl⟩ := tab_ord hR hs h7 hb hi (by omega)
        have := btV_ge hR hs h7 (days := days) hlo (by omega)
        rw [feeL_bits h7 _ l rfl ⟨hlo.nd, hlo.rng⟩, hbits] at this
        omega
  have hge : btV xs st days ≤ bestP (ways (-1) xs) st days (2 ^ st.length) := by
    rcases btV_some hR hs h7 (days := days) with h | ⟨l, hlo, hd, hf⟩
    · omega
    · by_cases hne : l = []
      · subst hne; omega
      · obtain ⟨i, hi, hb, ht⟩ := ord_tab hR hs h7 hlo hne
        have := minP_le (tabH (ways (-1) xs) st (bitsO l)) st.length i hi
        have := hbg (bitsO l) hb (by omega)
        rw [← feeL_bits h7 _ l rfl ⟨hlo.nd, hlo.rng⟩] at this
        omega
  omega
end Go.Proofs.Ytgnnlgmeagipjaa
