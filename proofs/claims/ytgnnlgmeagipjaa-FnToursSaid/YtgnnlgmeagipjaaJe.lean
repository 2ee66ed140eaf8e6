/- Journeys: the days of an order of stays. By an AI agent. -/
import Derived.Test.YtgnnlgmeagipjaaJd
set_option linter.unusedVariables false
set_option linter.unusedSimpArgs false
namespace Go.Proofs.Ytgnnlgmeagipjaa
open Go Go.RowKit K

theorem ways_small0 {wo : Int} {rs : List Road} (h : OkR rs) {s : Nat} (hs : s < 8) : ∀ n t, t < 8 → rank (g8 (ways wo rs) s) t ≤ n → g8 (ways wo rs) s t < 1000000 → g8 (ways wo rs) s t ≤ 30 * (n : Int) := by
  have iv := ways_inv (wo := wo) h
  intro n
  induction n with
  | zero =>
    intro t ht hr hlt
    have h0 : ¬ g8 (ways wo rs) s s < g8 (ways wo rs) s t := fun hh => by have := rank_lt hs hh; omega
    rw [iv.diag s hs] at h0
    omega
  | succ n ih =>
    intro t ht hr hlt
    rcases iv.sound s t hs ht with e | e
    · omega
    · generalize hF : g8 (ways wo rs) s t = x at e
      cases e with
      | nil => omega
      | snoc hw he =>
        rename_i u m w
        obtain ⟨hu, hle⟩ := ways_le h hw hs
        have hw1 : 1 ≤ w ∧ w ≤ 30 := by
          obtain ⟨r, hr, _, hw', _⟩ := he
          have := road_lt (h.1 r hr)
          omega
        have hrk := rank_lt hu (show g8 (ways wo rs) s u < g8 (ways wo rs) s t by omega)
        have hd := ih u hu (by omega) (by omega)
        have h1 := iv.tri s t u hs ht hu
        have h2 := iv.edge u t w hu ht he
        omega
theorem ways_small {wo : Int} {rs : List Road} (h : OkR rs) {s t : Nat} (hs : s < 8) (ht : t < 8) (hl : g8 (ways wo rs) s t < 1000000) : g8 (ways wo rs) s t ≤ 210 :=
  ways_small0 h hs 7 t ht (rank_le ht) hl

theorem pigeon : ∀ (n : Nat) (l : List Int), l.Nodup → (∀ i ∈ l, 0 ≤ i ∧ i < n) → l.length ≤ n
  | 0, l, _, h => by
    cases l with
    | nil => exact Nat.le_refl _
    | cons x l => have := h x (by simp); omega
  | n + 1, l, hd, h => by
    by_cases hm : (n : Int) ∈ l
    · have h1 := pigeon n (l.erase (n : Int)) (hd.erase _) (fun i hi => by
        have hne := (List.Nodup.mem_erase_iff hd).1 hi
        have := h i hne.2
        have := hne.1
        omega)
      rw [List.length_erase_of_mem hm] at h1
      omega
    · have := pigeon n l hd (fun i hi => by
        have := h i hi
        have : i ≠ (n : Int) := fun e => hm (e ▸ hi)
        omega)
      omega

/-! ### The order of the stays -/
def hasL (l : List Int) (n : Int) : Bool := decide (n ∈ l)
theorem hasL_yes {l : List Int} {n x : Int} {k : Nat} (h : l[k]? = some x) (e : x = n) : hasL l n = true := decide_eq_true (e ▸ List.mem_of_getElem? h)
theorem hasL_no {l : List Int} {n : Int} (h : ∀ j x, j < l.length → l[j]? = some x → x ≠ n) : hasL l n = false := decide_eq_false (fun hm => by
  obtain ⟨j, hj, e⟩ := List.getElem_of_mem hm
  exact h j _ hj (getLt hj) e)
def okI (st : List Stay) (l : List Int) (k : Nat) : Bool := match l[k]? with | some i => inB i 0 ((st.length : Int) - 1) && !hasL (l.take k) i | none => true
theorem okI_eq {st : List Stay} {l : List Int} {k : Nat} {i : Int} (h : l[k]? = some i) : okI st l k = (inB i 0 ((st.length : Int) - 1) && !hasL (l.take k) i) := by simp only [okI, h]
theorem okI_nodup {st : List Stay} {l : List Int} : ∀ k, k ≤ l.length → (∀ j, j < k → okI st l j = true) → (l.take k).Nodup ∧ ∀ i ∈ l.take k, 0 ≤ i ∧ i < st.length
  | 0, _, _ => by simp
  | k + 1, hk, h => by
    obtain ⟨h1, h2⟩ := okI_nodup k (by omega) (fun j hj => h j (by omega))
    have hx := getLt (show k < l.length by omega)
    have ho := h k (by omega)
    rw [okI_eq hx, Bool.and_eq_true, Bool.not_eq_true'] at ho
    have hb : 0 ≤ l[k] ∧ l[k] ≤ (st.length : Int) - 1 := by simpa [inB] using ho.1
    have hn : l[k] ∉ l.take k := of_decide_eq_false ho.2
    rw [List.take_succ_eq_append_getElem (by omega)]
    refine ⟨List.nodup_append.2 ⟨h1, by simp, fun a ha b hb => ?_⟩, fun i hi => ?_⟩
    · obtain rfl : b = l[k] := by simpa using hb
      exact fun e => hn (e ▸ ha)
    · rcases List.mem_append.1 hi with hi | hi
      · exact h2 i hi
      · obtain rfl : i = l[k] := by simpa using hi
        omega
theorem okI_len {st : List Stay} {l : List Int} {k : Nat} (hk : k ≤ l.length) (h : ∀ j, j < k → okI st l j = true) : k ≤ st.length := by
  obtain ⟨h1, h2⟩ := okI_nodup k hk h
  have := pigeon st.length _ h1 h2
  rwa [List.length_take, Nat.min_eq_left hk] at this

def tw (st : List Stay) (i : Int) : Int := match st[i.toNat]? with | some x => x.town | none => 0
def dy (st : List Stay) (i : Int) : Int := match st[i.toNat]? with | some x => x.days | none => 0
theorem tw_eq {st : List Stay} {i : Int} {x : Stay} (h : st[i.toNat]? = some x) : tw st i = x.town := by simp only [tw, h]
theorem dy_eq {st : List Stay} {i : Int} {x : Stay} (h : st[i.toNat]? = some x) : dy st i = x.days := by simp only [dy, h]
def daS (m : List Int) (st : List Stay) (p : Int × Int) (i : Int) : Int × Int := (p.1 + g8 m p.2.toNat (tw st i).toNat + dy st i, tw st i)
def daF (m : List Int) (st : List Stay) (l : List Int) : Int × Int := l.foldl (daS m st) (0, 0)
theorem stay_at {st : List Stay} (h : staysB st = true) {k : Nat} {x : Stay} (hx : st[k]? = some x) : (0 ≤ x.town ∧ x.town ≤ 7) ∧ (1 ≤ x.days ∧ x.days ≤ 30) ∧ 0 ≤ x.fee ∧ x.fee ≤ 1000 := by
  have hk : k < st.length := (List.getElem?_eq_some_iff.1 hx).1
  have := listB_step h hk
  rw [stayStep_eq hx (getLt (show k - 1 < st.length by omega)), Bool.and_eq_true] at this
  have := this.1
  simp only [stayB, inB, Bool.and_eq_true, decide_eq_true_eq] at this
  omega
theorem tw_bd {st : List Stay} (h : staysB st = true) (i : Int) : 0 ≤ tw st i ∧ tw st i ≤ 7 := by
  unfold tw
  split
  · rename_i x hx; exact (stay_at h hx).1
  · omega
theorem dy_bd {st : List Stay} (h : staysB st = true) (i : Int) : 0 ≤ dy st i ∧ dy st i ≤ 30 := by
  unfold dy
  split
  · rename_i x hx; have := (stay_at h hx).2.1; omega
  · omega
theorem daF_snoc {m : List Int} {st : List Stay} {l : List Int} {k : Nat} {i : Int} (h : l[k]? = some i) : daF m st (l.take (k + 1)) = daS m st (daF m st (l.take k)) i := take_fold h
theorem daFold_ge {m : List Int} {st : List Stay} (hm : Bd m) (hs : staysB st = true) : ∀ (l : List Int) (p : Int × Int), p.1 ≤ (l.foldl (daS m st) p).1
  | [], p => Int.le_refl _
  | i :: l, p => by
    rw [List.foldl_cons]
    refine Int.le_trans ?_ (daFold_ge hm hs l _)
    have h1 : 0 ≤ g8 m p.2.toNat (tw st i).toNat := (hm.getD _).1
    have h2 := dy_bd hs i
    show p.1 ≤ p.1 + g8 m p.2.toNat (tw st i).toNat + dy st i
    omega
theorem daF_ge {m : List Int} {st : List Stay} (hm : Bd m) (hs : staysB st = true) (l : List Int) (k : Nat) : (daF m st (l.take k)).1 ≤ (daF m st l).1 := by
  have := daFold_ge hm hs (l.drop k) (daF m st (l.take k))
  rwa [daF, ← List.foldl_append, List.take_append_drop] at this
theorem daFold_town {m : List Int} {st : List Stay} (hs : staysB st = true) : ∀ (l : List Int) (p : Int × Int), (0 ≤ p.2 ∧ p.2 ≤ 7) → 0 ≤ (l.foldl (daS m st) p).2 ∧ (l.foldl (daS m st) p).2 ≤ 7
  | [], p, h => h
  | i :: l, p, h => daFold_town hs l _ (tw_bd hs i)
theorem daF_town {m : List Int} {st : List Stay} (hs : staysB st = true) (l : List Int) : 0 ≤ (daF m st l).2 ∧ (daF m st l).2 ≤ 7 := daFold_town hs l _ ⟨by decide, by decide⟩
theorem bd_ways {wo : Int} {rs : List Road} (h : ∀ r ∈ rs, roadB r = true) : Bd (ways wo rs) := by rw [← ways_def]; exact bd_fw (bd_roads h) 512

def daV (st : List Stay) (l : List Int) : Bool := (List.range l.length).all (okI st l)
def daB (rs : List Road) (st : List Stay) (l : List Int) : Bool := roadsB rs && staysB st && daV st l && decide ((daF (ways (-1) rs) st l).1 < 1000000)
def daR (rs : List Road) (st : List Stay) (l : List Int) : Int := if daB rs st l then (daF (ways (-1) rs) st l).1 else 0
theorem daR_yes {rs : List Road} {st : List Stay} {l : List Int} (h : daB rs st l = true) : daR rs st l = (daF (ways (-1) rs) st l).1 := if_pos h
theorem daR_no {rs : List Road} {st : List Stay} {l : List Int} (h : daB rs st l = false) : daR rs st l = 0 := if_neg (by simp [h])
theorem daV_no {st : List Stay} {l : List Int} {k : Nat} (hk : k < l.length) (h : okI st l k = false) : daV st l = false := by
  unfold daV
  rw [List.all_eq_false]
  exact ⟨k, List.mem_range.2 hk, by simp [h]⟩
theorem daB_no {rs : List Road} {st : List Stay} {l : List Int} (h : roadsB rs = false ∨ staysB st = false ∨ daV st l = false ∨ 1000000 ≤ (daF (ways (-1) rs) st l).1) : daB rs st l = false := by
  unfold daB
  rcases h with h | h | h | h
  · rw [h]; rfl
  · rw [h]; simp
  · rw [h]; simp
  · rw [decide_eq_false (by omega)]; simp
theorem daB_yes {rs : List Road} {st : List Stay} {l : List Int} (h1 : roadsB rs = true) (h2 : staysB st = true) (h3 : ∀ j, j < l.length → okI st l j = true) (h4 : (daF (ways (-1) rs) st l).1 < 1000000) : daB rs st l = true := by
  unfold daB
  rw [h1, h2, decide_eq_true h4, show daV st l = true from List.all_eq_true.2 (fun j hj => h3 j (List.mem_range.1 hj))]; rfl
/-- A step over a way that is none is the end. -/
theorem daF_far {rs : List Road} {st : List Stay} {l : List Int} {k : Nat} {i : Int} (hr : ∀ r ∈ rs, roadB r = true) (hs : staysB st = true) (h : l[k]? = some i) (h0 : 0 ≤ (daF (ways (-1) rs) st (l.take k)).1) (hw : 1000000 ≤ g8 (ways (-1) rs) (daF (ways (-1) rs) st (l.take k)).2.toNat (tw st i).toNat) : 1000000 ≤ (daF (ways (-1) rs) st l).1 := by
  refine Int.le_trans ?_ (daF_ge (bd_ways hr) hs l (k + 1))
  rw [daF_snoc h]
  have := dy_bd hs i
  show 1000000 ≤ (daF (ways (-1) rs) st (l.take k)).1 + g8 (ways (-1) rs) (daF (ways (-1) rs) st (l.take k)).2.toNat (tw st i).toNat + dy st i
  omega
end Go.Proofs.Ytgnnlgmeagipjaa
