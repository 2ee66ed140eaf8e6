/- Tours: what the program's search finds. By an AI agent. -/
import Derived.Test.YtgnnlgmeagipjaaGc
set_option linter.unusedVariables false
set_option linter.unusedSectionVars false
set_option linter.unusedSimpArgs false
namespace Go.Proofs.Ytgnnlgmeagipjaa
open Go Go.RowKit K

theorem daF_step {m : List Int} {st : List Stay} {l : List Int} {i : Int} : (daF m st (l ++ [i])).1 = (daF m st l).1 + g8 m (daF m st l).2.toNat (tw st i).toNat + dy st i ∧ (daF m st (l ++ [i])).2 = tw st i := by rw [daF_app]; exact ⟨rfl, rfl⟩
theorem OrdR.of {xs : List Road} {st : List Stay} (hR : OkR xs) (hs : staysB st = true) : ∀ (n : Nat) (l : List Int), l.length = n → l.Nodup → (∀ i ∈ l, 0 ≤ i ∧ i < (st.length : Int)) → (daF (ways (-1) xs) st l).1 < 1000000 → OrdR xs st l := by
  intro n
  induction n with
  | zero =>
    intro l hn _ _ _
    obtain rfl := List.length_eq_zero_iff.1 hn
    exact OrdR.nil xs st
  | succ n ih =>
    intro l hn nd rng hd
    rcases List.eq_nil_or_concat l with rfl | ⟨l', i, rfl⟩
    · simp at hn
    · rw [List.concat_eq_append] at *
      rw [daF_step.1] at hd
      have hg : 0 ≤ g8 (ways (-1) xs) (daF (ways (-1) xs) st l').2.toNat (tw st i).toNat := ((bd_ways (wo := -1) (rs := xs) hR.1).getD _).1
      have hdy := dy_bd hs i
      obtain ⟨h1, _, h3⟩ := List.nodup_append.1 nd
      have hi := rng i (by simp)
      have hl' := ih l' (by simpa using hn) h1 (fun j hj => rng j (by simp [hj])) (by omega)
      have h0 := hl'.d0
      have hc : ((i.toNat : Nat) : Int) = i := by omega
      have := OrdR.snoc hR hs hl' (k := i.toNat) (by omega) (decide_eq_false (by rw [hc]; exact fun hm => h3 i hm i (by simp) rfl)) (by rw [hc]; omega)
      rwa [hc] at this
theorem OrdR.small {xs : List Road} {st : List Stay} {l : List Int} (h : OrdR xs st l) (h7 : st.length ≤ 7) : (daF (ways (-1) xs) st l).1 ≤ 1680 := by
  have := h.len
  have := h.d1
  omega
theorem daF_pre {xs : List Road} {st : List Stay} (hR : OkR xs) (hs : staysB st = true) (l s : List Int) : (daF (ways (-1) xs) st l).1 ≤ (daF (ways (-1) xs) st (l ++ s)).1 := by
  have := daF_ge (bd_ways (wo := -1) (rs := xs) hR.1) hs (l ++ s) l.length
  rwa [List.take_left] at this
theorem OrdR.pre {xs : List Road} {st : List Stay} {l s : List Int} (hR : OkR xs) (hs : staysB st = true) (h7 : st.length ≤ 7) (h : OrdR xs st (l ++ s)) : OrdR xs st l := by
  have := daF_pre hR hs l s
  have := h.small h7
  exact OrdR.of hR hs _ l rfl (List.nodup_append.1 h.nd).1 (fun i hi => h.rng i (by simp [hi])) (by omega)

section
variable {xs : List Road} {st : List Stay} {tl : Int → Int → Int → Int → Int} (hR : OkR xs) (hs : staysB st = true) (h7 : st.length ≤ 7)
include hR hs
theorem trP_inv {Inv : Int → Prop} {R : List Int → Int → Int} (hRI : ∀ l v, OrdR xs st l → Inv v → Inv (R l v)) {l : List Int} {v : Int} (hl : OrdR xs st l) {k : Nat} (h0 : Inv (trP (ways (-1) xs) st tl R l v k)) : ∀ j, k + j ≤ st.length → Inv (trP (ways (-1) xs) st tl R l v (k + j))
  | 0, _ => h0
  | j + 1, hj => by
    have ih := trP_inv hRI hl h0 j (by omega)
    by_cases h1 : hasL l ((k + j : Nat) : Int) = true
    · rw [show k + (j + 1) = k + j + 1 from rfl, trP_skip (.inl h1)]; exact ih
    · by_cases h2 : 1000000 ≤ g8 (ways (-1) xs) (daF (ways (-1) xs) st l).2.toNat (tw st ((k + j : Nat) : Int)).toNat
      · rw [show k + (j + 1) = k + j + 1 from rfl, trP_skip (.inr h2)]; exact ih
      · rw [show k + (j + 1) = k + j + 1 from rfl, trP_go (by simpa using h1) (by omega)]
        exact hRI _ _ (OrdR.snoc hR hs hl (by omega) (by simpa using h1) (by omega)) ih
theorem trF_inv {Inv : Int → Prop} (hstep : ∀ l v, OrdR xs st l → Inv v → Inv (tl v (daF (ways (-1) xs) st l).1 (feeL st l) (l.length : Int))) {R : List Int → Int → Int} (hRI : ∀ l v, OrdR xs st l → Inv v → Inv (R l v)) {l : List Int} {v : Int} (hl : OrdR xs st l) (hv : Inv v) : Inv (trF (ways (-1) xs) st tl R l v) := by
  have := trP_inv (tl := tl) (k := 0) hR hs hRI hl (v := v) (hstep l v hl hv) st.length (by omega)
  rwa [Nat.zero_add] at this
theorem trO_inv {Inv : Int → Prop} (hstep : ∀ l v, OrdR xs st l → Inv v → Inv (tl v (daF (ways (-1) xs) st l).1 (feeL st l) (l.length : Int))) : ∀ (m : Nat) (l : List Int) (v : Int), OrdR xs st l → Inv v → Inv (trO (ways (-1) xs) st tl m l v)
  | 0, l, v, hl, hv => trF_inv hR hs hstep (fun _ _ _ h => h) hl hv
  | m + 1, l, v, hl, hv => trF_inv hR hs hstep (fun l v hl hv => trO_inv hstep m l v hl hv) hl hv
include h7
theorem trO_hit {Pr : Int → Prop} (hstep : ∀ l v, OrdR xs st l → Pr v → Pr (tl v (daF (ways (-1) xs) st l).1 (feeL st l) (l.length : Int))) {l0 : List Int} (hit : ∀ v, Pr (tl v (daF (ways (-1) xs) st l0).1 (feeL st l0) (l0.length : Int))) (h0 : OrdR xs st l0) :
    ∀ (m : Nat) (l s : List Int) (v : Int), l ++ s = l0 → s.length ≤ m → Pr (trO (ways (-1) xs) st tl m l v) := by
  intro m
  induction m with
  | zero =>
    intro l s v hls hm
    obtain rfl := List.length_eq_zero_iff.1 (show s.length = 0 by omega)
    rw [List.append_nil] at hls
    subst hls
    have := trP_inv (tl := tl) (Inv := Pr) (R := fun _ v => v) (k := 0) hR hs (fun _ _ _ h => h) h0 (v := v) (hit v) st.length (by omega)
    rw [Nat.zero_add] at this
    exact this
  | succ m ih =>
    intro l s v hls hm
    have hl : OrdR xs st l := OrdR.pre (s := s) hR hs h7 (by rw [hls]; exact h0)
    have hRI : ∀ l v, OrdR xs st l → Pr v → Pr (trO (ways (-1) xs) st tl m l v) := fun l v hl hv => trO_inv hR hs hstep m l v hl hv
    cases s with
    | nil =>
      rw [List.append_nil] at hls
      subst hls
      have := trP_inv (tl := tl) (k := 0) hR hs hRI h0 (v := v) (hit v) st.length (by omega)
      rw [Nat.zero_add] at this
      exact this
    | cons i s =>
      have hls' : (l ++ [i]) ++ s = l0 := by simpa using hls
      have hl2 : OrdR xs st (l ++ [i]) := OrdR.pre (s := s) hR hs h7 (by rw [hls']; exact h0)
      have hi := hl2.rng i (by simp)
      have hc : ((i.toNat : Nat) : Int) = i := by omega
      obtain ⟨_, _, h3⟩ := List.nodup_append.1 hl2.nd
      have hno : hasL l ((i.toNat : Nat) : Int) = false := decide_eq_false (by rw [hc]; exact fun hm => h3 i hm i (by simp) rfl)
      have hsm := hl2.small h7
      rw [daF_step.1] at hsm
      have := hl.d0
      have := dy_bd hs i
      have hgo := trP_go (st := st) (tl := tl) (R := trO (ways (-1) xs) st tl m) (v := v) hno (W := ways (-1) xs) (by rw [hc]; omega)
      have hp := ih (l ++ [i]) s (trP (ways (-1) xs) st tl (trO (ways (-1) xs) st tl m) l v i.toNat) hls' (by simp at hm; omega)
      rw [hc] at hgo
      rw [← hgo] at hp
      have := trP_inv (tl := tl) hR hs hRI hl hp (st.length - (i.toNat + 1)) (by omega)
      rw [show i.toNat + 1 + (st.length - (i.toNat + 1)) = st.length by omega] at this
      exact this
theorem fdV_some : fdV xs st = -1 ∨ ∃ l, OrdR xs st l ∧ l.length = st.length ∧ (daF (ways (-1) xs) st l).1 = fdV xs st := by
  refine trO_inv (tl := tlF st.length) (Inv := fun v => v = -1 ∨ ∃ l, OrdR xs st l ∧ l.length = st.length ∧ (daF (ways (-1) xs) st l).1 = v) hR hs (fun l v hl hv => ?_) st.length [] (-1) (OrdR.nil xs st) (.inl rfl)
  by_cases hc : (l.length : Int) = st.length ∧ (v < 0 ∨ (daF (ways (-1) xs) st l).1 < v)
  · rw [tlF_yes hc.1 hc.2]
    exact .inr ⟨l, hl, by omega, rfl⟩
  · rw [tlF_no (by omega)]
    exact hv
theorem fdV_le {l : List Int} (hl : OrdR xs st l) (hn : l.length = st.length) : 0 ≤ fdV xs st ∧ fdV xs st ≤ (daF (ways (-1) xs) st l).1 := by
  refine trO_hit (tl := tlF st.length) (Pr := fun v => 0 ≤ v ∧ v ≤ (daF (ways (-1) xs) st l).1) hR hs h7 (fun l' v hl' hv => ?_) (l0 := l) (fun v => ?_) hl st.length [] l (-1) rfl (by omega)
  · have := hl'.d0
    unfold tlF
    split <;> omega
  · have := hl.d0
    unfold tlF
    split <;> omega
theorem btV_some {days : Int} : btV xs st days = 0 ∨ ∃ l, OrdR xs st l ∧ (daF (ways (-1) xs) st l).1 ≤ days ∧ feeL st l = btV xs st days := by
  refine trO_inv (tl := tlB days) (Inv := fun v => v = 0 ∨ ∃ l, OrdR xs st l ∧ (daF (ways (-1) xs) st l).1 ≤ days ∧ feeL st l = v) hR hs (fun l v hl hv => ?_) st.length [] 0 (OrdR.nil xs st) (.inl rfl)
  by_cases hc : (daF (ways (-1) xs) st l).1 ≤ days
  · rw [tlB_yes hc]
    split
    · exact .inr ⟨l, hl, hc, rfl⟩
    · exact hv
  · rw [tlB_no hc]; exact hv
theorem btV_ge {days : Int} {l : List Int} (hl : OrdR xs st l) (hd : (daF (ways (-1) xs) st l).1 ≤ days) : feeL st l ≤ btV xs st days := by
  refine trO_hit (tl := tlB days) (Pr := fun v => feeL st l ≤ v) hR hs h7 (fun l' v hl' hv => ?_) (l0 := l) (fun v => ?_) hl st.length [] l 0 rfl (by have := hl.len; omega)
  · unfold tlB
    split
    · split <;> omega
    · exact hv
  · rw [tlB_yes hd]
    split <;> omega
end
end Go.Proofs.Ytgnnlgmeagipjaa
