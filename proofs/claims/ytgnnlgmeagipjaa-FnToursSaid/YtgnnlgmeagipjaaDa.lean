/- A slice that is read while other blocks may be written. By an AI agent. -/
import Derived.Test.YtgnnlgmeagipjaaCa
set_option linter.unusedVariables false
namespace Go.Proofs.Ytgnnlgmeagipjaa.K
open Go Go.RowKit

/-- Read as SR, and its block is not among D. -/
def SRD (w : World) (D : List Nat) (k : Nat) (v : Value) (len : Nat) (L : List Value) : Prop :=
  L.length = len * k ∧ ∃ a cap, v = .slice a len cap ∧ len ≤ cap ∧ cap ≤ maxLen ∧ ∀ j u, L[j]? = some u → ∃ b o, a = some ⟨b, o, none⟩ ∧ w.cell? ⟨b, o + j, none⟩ = some u ∧ b ∉ D
theorem SRD.sr {w w1 : World} {D : List Nat} {k : Nat} {v : Value} {len : Nat} {L : List Value} {μ : List Ent} (h : SRD w D k v len L) (hp : Hp ⟨w, D⟩ μ w1) : SR w1 k v len L := by
  obtain ⟨h1, a, cap, h2, h3, h4, h5⟩ := h
  refine ⟨h1, a, cap, h2, h3, h4, fun j u hu => ?_⟩
  obtain ⟨b, o, ha, hc, hd⟩ := h5 j u hu
  exact ⟨b, o, ha, hp.oldD hc hd⟩
theorem SRD.of {w : World} {k : Nat} {v : Value} {len : Nat} {L : List Value} (h : SR w k v len L) : SRD w [] k v len L := by
  obtain ⟨h1, a, cap, h2, h3, h4, h5⟩ := h
  refine ⟨h1, a, cap, h2, h3, h4, fun j u hu => ?_⟩
  obtain ⟨b, o, ha, hc⟩ := h5 j u hu
  exact ⟨b, o, ha, hc, by simp⟩
/-- Told on to a callee that may write the blocks E. -/
theorem SRD.call {w w1 : World} {D : List Nat} {k : Nat} {v : Value} {len : Nat} {L : List Value} {μ E : List Ent} (h : SRD w D k v len L) (hp : Hp ⟨w, D⟩ μ w1) (hs : ∀ e ∈ E, e ∈ μ) : SRD w1 (keys E) k v len L := by
  obtain ⟨h1, a, cap, h2, h3, h4, h5⟩ := h
  refine ⟨h1, a, cap, h2, h3, h4, fun j u hu => ?_⟩
  obtain ⟨b, o, ha, hc, hd⟩ := h5 j u hu
  refine ⟨b, o, ha, hp.oldD hc hd, fun hm => ?_⟩
  obtain ⟨e, he, hb'⟩ := List.mem_filterMap.1 hm
  have hk : b ∈ keys μ := List.mem_filterMap.2 ⟨e, hs e he, hb'⟩
  rcases hp.key_or hk with h1 | h1
  · have := cell_lt hc
    simp only at this h1
    omega
  · exact hd h1
/-- An own slice, read by a callee that may write another own block. -/
theorem Hp.srd {w0 : Base} {w : World} {μ : List Ent} (h : Hp w0 μ w) (i j : Nat) {bo : Option Nat} {T : TypeId} {xs pad : List Value} {e : Ent} (hm : μ[i]? = some (bo, T, xs ++ pad)) (hj : (μ.eraseIdx i)[j]? = some e) {k len cap : Nat} (hsl : Sl k bo len cap xs pad) :
    SRD w (keys [e]) k (sv bo len cap) len xs := by
  obtain ⟨h1, a, cap', h2, h3, h4, h5⟩ := h.slsr i hm hsl
  refine ⟨h1, a, cap', h2, h3, h4, fun q u hu => ?_⟩
  obtain ⟨b, o, ha, hc⟩ := h5 q u hu
  refine ⟨b, o, ha, hc, fun hb => ?_⟩
  have hn := (h.pull i hm).nodup
  have hbo : bo = some b := by
    cases bo with
    | none => unfold sv at h2; simp at h2; rw [← h2.1] at ha; cases ha
    | some c =>
      unfold sv at h2; simp at h2; rw [← h2.1] at ha; simp at ha; rw [ha.1]
  subst hbo
  have hk : b ∈ keys (μ.eraseIdx i) := by
    obtain ⟨e', he', hb'⟩ := List.mem_filterMap.1 hb
    obtain rfl := List.mem_singleton.1 he'
    exact List.mem_filterMap.2 ⟨e', List.mem_of_getElem? hj, hb'⟩
  exact (List.nodup_cons.1 (show (b :: keys (μ.eraseIdx i)).Nodup from hn)).1 hk
theorem SRD.slice {w : World} {D : List Nat} {k : Nat} {v : Value} {len : Nat} {L : List Value} (h : SRD w D k v len L) : ∃ a cap, v = .slice a len cap ∧ len ≤ cap ∧ cap ≤ maxLen := by
  obtain ⟨_, a, cap, h1, h2, h3, _⟩ := h
  exact ⟨a, cap, h1, h2, h3⟩
/-- The elements, each where it lies. -/
theorem SRD.elem {α : Type} {enc : α → List Value} {w : World} {D : List Nat} {k : Nat} {a : Option Addr} {cap : Nat} {xs : List α} (hk : ∀ x, (enc x).length = k) (h : SRD w D k (.slice a xs.length cap) xs.length (flat enc xs)) (hpos : 0 < k) {i : Nat} (hi : i < xs.length) :
    ∃ b o, a = some ⟨b, o, none⟩ ∧ b ∉ D ∧ ∀ j x, xs[j]? = some x → Cells w b (o + j * k) (enc x) := by
  have hsr : SR w k (.slice a xs.length cap) xs.length (flat enc xs) := by
    obtain ⟨h1, a', cap', h2, h3, h4, h5⟩ := h
    exact ⟨h1, a', cap', h2, h3, h4, fun j u hu => let ⟨b, o, ha, hc, _⟩ := h5 j u hu; ⟨b, o, ha, hc⟩⟩
  obtain ⟨b, o, rfl, hc⟩ := hsr.elem hk hpos hi
  refine ⟨b, o, rfl, ?_, hc⟩
  obtain ⟨h1, a', cap', h2, h3, h4, h5⟩ := h
  have hl : 0 < (flat enc xs).length := by rw [h1]; exact Nat.mul_pos (by omega) hpos
  obtain ⟨b', o', ha, _, hd⟩ := h5 0 _ (List.getElem?_eq_getElem hl)
  obtain ⟨rfl, _⟩ : a' = some ⟨b, o, none⟩ ∧ True := by injection h2 with e1; exact ⟨e1.symm, trivial⟩
  simp at ha
  rw [ha.1]; exact hd
end Go.Proofs.Ytgnnlgmeagipjaa.K
