/- Journeys: the stays, each time the nearest. By an AI agent. -/
import Derived.Test.YtgnnlgmeagipjaaJe
set_option linter.unusedVariables false
set_option linter.unusedSimpArgs false
namespace Go.Proofs.Ytgnnlgmeagipjaa
open Go Go.RowKit K

/-- How far a stay is. -/
def nbF (m : List Int) (st : List Stay) (t : Int) (i : Nat) : Int := g8 m t.toNat (tw st (i : Int)).toNat
theorem nbF_eq {m : List Int} {st : List Stay} {t : Int} {i : Nat} {x : Stay} (h : st[i]? = some x) : nbF m st t i = g8 m t.toNat x.town.toNat := by
  unfold nbF; rw [tw_eq (i := (i : Int)) (by rw [Int.toNat_natCast]; exact h)]
/-- The nearest of the first k that are not yet in the list; -1: none. -/
def nbest (F : Nat → Int) (out : List Int) : Nat → Int
  | 0 => -1
  | k + 1 => if hasL out (k : Int) = false ∧ F k < 1000000 ∧ (nbest F out k < 0 ∨ F k < F (nbest F out k).toNat) then (k : Int) else nbest F out k
theorem nbest_yes {F : Nat → Int} {out : List Int} {k : Nat} {b : Int} (hb : b = nbest F out k) (h1 : hasL out (k : Int) = false) (h2 : F k < 1000000) (h3 : b < 0 ∨ F k < F b.toNat) : (k : Int) = nbest F out (k + 1) := by
  subst hb; rw [nbest, if_pos ⟨h1, h2, h3⟩]
theorem nbest_no {F : Nat → Int} {out : List Int} {k : Nat} {b : Int} (hb : b = nbest F out k) (h : hasL out (k : Int) = true ∨ 1000000 ≤ F k ∨ (0 ≤ b ∧ F b.toNat ≤ F k)) : b = nbest F out (k + 1) := by
  subst hb
  rw [nbest, if_neg]
  rintro ⟨h1, h2, h3⟩
  rcases h with h | h | h
  · rw [h1] at h; cases h
  · omega
  · omega
theorem nbest_bd (F : Nat → Int) (out : List Int) : ∀ k, -1 ≤ nbest F out k ∧ nbest F out k < k
  | 0 => by simp [nbest]
  | k + 1 => by
    have ih := nbest_bd F out k
    rw [nbest]
    split <;> omega
theorem nbest_ok (F : Nat → Int) (out : List Int) : ∀ k, 0 ≤ nbest F out k → hasL out (nbest F out k) = false ∧ F (nbest F out k).toNat < 1000000
  | 0, h => by simp [nbest] at h
  | k + 1, h => by
    rw [nbest] at h ⊢
    split
    · rename_i hc; rw [Int.toNat_natCast]; exact ⟨hc.1, hc.2.1⟩
    · rename_i hc
      rw [if_neg hc] at h
      exact nbest_ok F out k h
/-- The least way so far, as the reference keeps it. -/
def nbL (F : Nat → Int) (b : Int) : Int := if b < 0 then 1000000 else F b.toNat
theorem nbest_yesL {F : Nat → Int} {out : List Int} {k : Nat} {b : Int} (hb : b = nbest F out k) (h1 : hasL out (k : Int) = false) (h2 : F k < nbL F b) : (k : Int) = nbest F out (k + 1) := by
  unfold nbL at h2
  split at h2
  · exact nbest_yes hb h1 h2 (.inl (by assumption))
  · rename_i hc
    have := nbest_ok F out k (by rw [← hb]; omega)
    rw [← hb] at this
    exact nbest_yes hb h1 (by omega) (.inr h2)
theorem nbest_noL {F : Nat → Int} {out : List Int} {k : Nat} {b : Int} (hb : b = nbest F out k) (h : hasL out (k : Int) = true ∨ nbL F b ≤ F k) : b = nbest F out (k + 1) := by
  rcases h with h | h
  · exact nbest_no hb (.inl h)
  · unfold nbL at h
    split at h
    · exact nbest_no hb (.inr (.inl h))
    · exact nbest_no hb (.inr (.inr ⟨by omega, h⟩))
theorem nbL_k {F : Nat → Int} {k : Nat} : nbL F (k : Int) = F k := by unfold nbL; rw [if_neg (by omega), Int.toNat_natCast]

def nsB (m : List Int) (st : List Stay) (p : List Int × Int) : Int := nbest (nbF m st p.2) p.1 st.length
def nsRun (m : List Int) (st : List Stay) : Nat → List Int × Int
  | 0 => ([], 0)
  | k + 1 => if nsB m st (nsRun m st k) < 0 then nsRun m st k else ((nsRun m st k).1 ++ [nsB m st (nsRun m st k)], tw st (nsB m st (nsRun m st k)))
theorem nsRun_stop {m : List Int} {st : List Stay} {k : Nat} (h : nsB m st (nsRun m st k) < 0) : ∀ j, nsRun m st (k + j) = nsRun m st k
  | 0 => rfl
  | j + 1 => by
    have ih := nsRun_stop h j
    show nsRun m st (k + j + 1) = _
    rw [nsRun, ih, if_pos h]
structure NsI (m : List Int) (st : List Stay) (k : Nat) (out : List Int) (t : Int) : Prop where
  run : nsRun m st k = (out, t)
  len : out.length = k
  nd : out.Nodup
  rng : ∀ i ∈ out, 0 ≤ i ∧ i < st.length
theorem NsI.zero (m : List Int) (st : List Stay) : NsI m st 0 [] 0 := ⟨rfl, rfl, List.nodup_nil, fun i hi => by cases hi⟩
theorem NsI.next {m : List Int} {st : List Stay} {k : Nat} {out : List Int} {t b : Int} (h : NsI m st k out t) (hb : b = nbest (nbF m st t) out st.length) (h0 : 0 ≤ b) : NsI m st (k + 1) (out ++ [b]) (tw st b) := by
  have hbd := nbest_bd (nbF m st t) out st.length
  have hno : hasL out b = false := by rw [hb]; exact (nbest_ok (nbF m st t) out st.length (by omega)).1
  have hr : nsB m st (nsRun m st k) = b := by rw [h.run]; exact hb.symm
  refine ⟨by rw [nsRun, hr, if_neg (by omega), h.run], by simp [h.len], List.nodup_append.2 ⟨h.nd, by simp, fun a ha c hc => ?_⟩, fun i hi => ?_⟩
  · obtain rfl : c = b := by simpa using hc
    exact fun e => (of_decide_eq_false hno) (e ▸ ha)
  · rcases List.mem_append.1 hi with hi | hi
    · exact h.rng i hi
    · obtain rfl : i = b := by simpa using hi
      omega
theorem NsI.le {m : List Int} {st : List Stay} {k : Nat} {out : List Int} {t : Int} (h : NsI m st k out t) : k ≤ st.length := by
  have := pigeon st.length out h.nd h.rng
  rwa [h.len] at this
theorem NsI.done {m : List Int} {st : List Stay} {k : Nat} {out : List Int} {t b : Int} (h : NsI m st k out t) (hs : st.length ≤ 7) (hb : b = nbest (nbF m st t) out st.length) (h0 : b < 0) : out = (nsRun m st 8).1 := by
  have hk := h.le
  have hr : nsB m st (nsRun m st k) < 0 := by rw [h.run]; show nbest (nbF m st t) out st.length < 0; omega
  have := nsRun_stop hr (8 - k)
  rw [show k + (8 - k) = 8 by omega, h.run] at this
  rw [this]
def nsOk (rs : List Road) (st : List Stay) : Bool := roadsB rs && staysB st
def nsR (rs : List Road) (st : List Stay) : List Int := if nsOk rs st then (nsRun (ways (-1) rs) st 8).1 else []
theorem nsR_yes {rs : List Road} {st : List Stay} (h : nsOk rs st = true) : nsR rs st = (nsRun (ways (-1) rs) st 8).1 := if_pos h
theorem nsR_no {rs : List Road} {st : List Stay} (h : nsOk rs st = false) : nsR rs st = [] := if_neg (by simp [h])
theorem nsRun_len (m : List Int) (st : List Stay) : ∀ k, (nsRun m st k).1.length ≤ k
  | 0 => Nat.le_refl _
  | k + 1 => by
    have ih := nsRun_len m st k
    rw [nsRun]
    split
    · omega
    · simp; omega
theorem nsR_len (rs : List Road) (st : List Stay) : (nsR rs st).length ≤ 8 := by
  unfold nsR
  split
  · exact nsRun_len _ _ 8
  · exact Nat.zero_le _
end Go.Proofs.Ytgnnlgmeagipjaa
