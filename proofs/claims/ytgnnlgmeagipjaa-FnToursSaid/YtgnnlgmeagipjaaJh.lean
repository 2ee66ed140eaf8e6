/- Journeys: what the law of the ways says (plain). By an AI agent. -/
import Derived.Test.YtgnnlgmeagipjaaJe
set_option linter.unusedVariables false
set_option linter.unusedSimpArgs false
namespace Go.Proofs.Ytgnnlgmeagipjaa
open Go Go.RowKit K

theorem swB_ok {rs : List Road} {f t : Int} (h : swB rs f t = true) : roadsB rs = true ∧ inB f 0 7 = true ∧ inB t 0 7 = true ∧ g8 (ways (-1) rs) f.toNat t.toNat < 1000000 := by
  unfold swB at h
  simp only [Bool.and_eq_true, decide_eq_true_eq] at h
  exact ⟨h.1.1.1, h.1.1.2, h.1.2, h.2⟩
theorem swB_symm0 {rs : List Road} {f t : Int} (h : swB rs f t = true) : swB rs t f = true := by
  obtain ⟨h1, h2, h3, h4⟩ := swB_ok h
  refine swB_yes h1 h3 h2 ?_
  rw [ways_symm (roads_ok h1) (town_lt h3).1.2 (town_lt h2).1.2]; exact h4
theorem sw_symm (rs : List Road) (f t : Int) : swB rs t f = swB rs f t ∧ swR rs t f = swR rs f t := by
  have hb : swB rs t f = swB rs f t := by
    cases h : swB rs f t with
    | true => exact swB_symm0 h
    | false =>
      cases h2 : swB rs t f with
      | false => rfl
      | true => rw [swB_symm0 h2] at h; cases h
  refine ⟨hb, ?_⟩
  cases h : swB rs f t with
  | false => rw [swR_no h, swR_no (hb.trans h)]
  | true =>
    obtain ⟨h1, h2, h3, h4⟩ := swB_ok h
    rw [swR_yes h, swR_yes (hb.trans h), ways_symm (roads_ok h1) (town_lt h3).1.2 (town_lt h2).1.2]
theorem sw_bd (rs : List Road) (f t : Int) : 0 ≤ swR rs f t ∧ swR rs f t ≤ 210 := by
  cases h : swB rs f t with
  | false => rw [swR_no h]; omega
  | true =>
    obtain ⟨h1, h2, h3, h4⟩ := swB_ok h
    rw [swR_yes h]
    exact ⟨(ways_bd (roads_ok h1) (town_lt h2).1.2 (town_lt h3).1.2).1, ways_small (roads_ok h1) (town_lt h2).1.2 (town_lt h3).1.2 h4⟩
theorem tw_mem {rs : List Road} {f d t : Int} (h : twB rs f d = true) (ht : inB t 0 7 = true) (hn : g8 (ways (-1) rs) f.toNat t.toNat ≤ d) : t ∈ twL rs f d := by
  rw [twL_yes h]
  unfold selL
  rw [List.mem_map]
  have hl := town_lt ht
  refine ⟨t, List.mem_filter.2 ⟨?_, decide_eq_true hn⟩, rfl⟩
  have h8 : t = 0 ∨ t = 1 ∨ t = 2 ∨ t = 3 ∨ t = 4 ∨ t = 5 ∨ t = 6 ∨ t = 7 := by omega
  rcases h8 with e | e | e | e | e | e | e | e <;> subst e <;> decide
theorem sw_tw {rs : List Road} {f t : Int} (h : swB rs f t = true) : twB rs f (swR rs f t) = true ∧ t ∈ twL rs f (swR rs f t) ∧ f ∈ twL rs f (swR rs f t) := by
  obtain ⟨h1, h2, h3, h4⟩ := swB_ok h
  have hb := sw_bd rs f t
  have hw : twB rs f (swR rs f t) = true := twB_yes h1 h2 (by simp only [inB, Bool.and_eq_true, decide_eq_true_eq]; omega)
  refine ⟨hw, tw_mem hw h3 (by rw [swR_yes h]; exact Int.le_refl _), tw_mem hw h2 ?_⟩
  rw [(ways_inv (roads_ok h1)).diag _ (town_lt h2).1.2]; exact hb.1
theorem sw_tri {rs : List Road} {f u t : Int} (h : swB rs f t = true) (h1 : swB rs f u = true) (h2 : swB rs u t = true) : swR rs f t ≤ swR rs f u + swR rs u t := by
  obtain ⟨k1, k2, k3, _⟩ := swB_ok h1
  obtain ⟨_, _, m3, _⟩ := swB_ok h2
  rw [swR_yes h, swR_yes h1, swR_yes h2]
  exact (ways_inv (roads_ok k1)).tri _ _ _ (town_lt k2).1.2 (town_lt m3).1.2 (town_lt k3).1.2
end Go.Proofs.Ytgnnlgmeagipjaa
