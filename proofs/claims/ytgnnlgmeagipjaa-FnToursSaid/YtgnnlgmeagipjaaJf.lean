/- Journeys: the text of the roads. By an AI agent. -/
import Derived.Test.YtgnnlgmeagipjaaJd
import Derived.Test.YtgnnlgmeagipjaaQa
set_option linter.unusedVariables false
set_option linter.unusedSimpArgs false
namespace Go.Proofs.Ytgnnlgmeagipjaa
open Go Go.RowKit K

def strs (l : List (List UInt8)) : List Value := l.map fun t => .string (bs t)
theorem strs_append (a b : List (List UInt8)) : strs (a ++ b) = strs a ++ strs b := by simp [strs]
theorem strs_one (l : List (List UInt8)) : ∀ u ∈ strs l, u.oneCell' = true := by
  intro u hu
  obtain ⟨i, _, rfl⟩ := List.mem_map.1 hu
  rfl
theorem strs_length (l : List (List UInt8)) : (strs l).length = l.length := by simp [strs]
theorem strs_get {l : List (List UInt8)} {k : Nat} {t : List UInt8} (h : l[k]? = some t) : (strs l)[k]? = some (.string (bs t)) := by simp [strs, h]
theorem SR.str {w : World} {a : Option Addr} {cap : Nat} {l : List (List UInt8)} (h : SR w 1 (.slice a l.length cap) l.length (strs l)) {i : Nat} (hi : i < l.length) :
    ∃ b o, a = some ⟨b, o, none⟩ ∧ ∀ j x, l[j]? = some x → w.cell? ⟨b, o + j * 1, none⟩ = some (.string (bs x)) := by
  obtain ⟨b, o, rfl, _⟩ := h.at hi (by omega)
  refine ⟨b, o, rfl, fun j x hx => ?_⟩
  obtain ⟨_, a2, c2, he, _, _, h4⟩ := h
  obtain ⟨b2, o2, e2, h6⟩ := h4 j _ (strs_get hx)
  rw [e2] at he
  simp only [Value.slice.injEq, Option.some.injEq, Addr.mk.injEq] at he
  obtain ⟨⟨rfl, rfl, _⟩, _⟩ := he
  rw [Nat.mul_one]; exact h6

/-- The parts joined. -/
def joinT (sep : List UInt8) (l : List (List UInt8)) : Nat → List UInt8
  | 0 => []
  | k + 1 => match l[k]? with
    | some t => (if 0 < k then joinT sep l k ++ sep else joinT sep l k) ++ t
    | none => joinT sep l k
theorem joinT_big {sep : List UInt8} {l : List (List UInt8)} {k : Nat} {t : List UInt8} (h : l[k]? = some t) (hk : 0 < k) : joinT sep l (k + 1) = joinT sep l k ++ sep ++ t := by simp only [joinT, h, if_pos hk]
theorem joinT_0 {sep : List UInt8} {l : List (List UInt8)} {k : Nat} {t : List UInt8} (h : l[k]? = some t) (hk : ¬ 0 < k) : joinT sep l (k + 1) = joinT sep l k ++ t := by simp only [joinT, h, if_neg hk]
theorem joinT_len {sep : List UInt8} {l : List (List UInt8)} {B : Nat} (hs : sep.length ≤ 16) (h : ∀ t ∈ l, t.length ≤ 64) : ∀ k, (joinT sep l k).length ≤ 80 * k
  | 0 => by simp [joinT]
  | k + 1 => by
    have ih := joinT_len (B := B) hs h k
    cases hx : l[k]? with
    | none => simp only [joinT, hx]; omega
    | some t =>
      have ht := h t (List.mem_of_getElem? hx)
      by_cases hk : 0 < k
      · rw [joinT_big hx hk, List.length_append, List.length_append]; omega
      · rw [joinT_0 hx hk, List.length_append]; omega

/-! ### The roads -/
def roadT (r : Road) : List UInt8 := ((((numL r.a.toNat ++ [45]) ++ numL r.b.toNat) ++ [58, 32]) ++ numL r.days.toNat) ++ [32, 100]
def roadTs (rs : List Road) : List (List UInt8) := rs.map roadT
theorem roadTs_at {rs : List Road} {k : Nat} {r : Road} (h : rs[k]? = some r) : (roadTs rs)[k]? = some (roadT r) := by simp [roadTs, h]
theorem roadT_len {r : Road} (h : roadB r = true) : (roadT r).length ≤ 64 := by
  have hr := road_lt h
  have h1 := numL_len (n := r.a.toNat) (by omega); have h2 := numL_len (n := r.b.toNat) (by omega); have h3 := numL_len (n := r.days.toNat) (by omega)
  simp only [roadT, List.length_append, List.length_cons, List.length_nil]
  omega
theorem roadTs_len {rs : List Road} (h : ∀ r ∈ rs, roadB r = true) : ∀ t ∈ roadTs rs, t.length ≤ 64 := fun t ht => by
  obtain ⟨r, hr, rfl⟩ := List.mem_map.1 ht
  exact roadT_len (h r hr)
def rtR (rs : List Road) : List UInt8 := if roadsB rs then joinT [59, 32] (roadTs rs) rs.length else []
theorem rtR_yes {rs : List Road} (h : roadsB rs = true) : rtR rs = joinT [59, 32] (roadTs rs) rs.length := if_pos h
theorem rtR_no {rs : List Road} (h : roadsB rs = false) : rtR rs = [] := if_neg (by simp [h])
theorem roadTs_take {rs : List Road} {k : Nat} {r : Road} (h : rs[k]? = some r) : (roadTs rs).take (k + 1) = (roadTs rs).take k ++ [roadT r] := by
  rw [List.take_add_one, roadTs_at h]; rfl
end Go.Proofs.Ytgnnlgmeagipjaa
