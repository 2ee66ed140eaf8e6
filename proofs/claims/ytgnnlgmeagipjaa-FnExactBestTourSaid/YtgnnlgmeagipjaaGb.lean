/- Tours: the orders of the stays, as the program goes through them. By an AI agent. -/
import Derived.Test.YtgnnlgmeagipjaaJg
import Derived.Test.YtgnnlgmeagipjaaGa
set_option linter.unusedVariables false
set_option linter.unusedSimpArgs false
namespace Go.Proofs.Ytgnnlgmeagipjaa.K
open Go Go.RowKit
theorem ov_loadawd {P : Program} {n : Nat} {σ : List (Nat × Value)} {μ : List Ent} {ty : TypeId} {D : List Nat} {w0 : World} {x : Operand} {t : TypeId} {k b o : Nat} {vs : List Value} (ht : Agg P t k) (hx : EV σ x = some (.pointer (some ⟨b, o, none⟩))) (hk : vs.length = k) (hc : Cells w0 b o vs) (hd : b ∉ D) :
    OV P n (.load t x) ty (.agg vs.toArray) σ ⟨w0, D⟩ μ := fun _ _ _ _ c w hkn hp => run_load_op hkn hx (run_loadVar_a ht hk (Cells.ext (fun _ _ h => hp.oldD h hd) hc)) _ _
theorem list_put {α : Type} (L : List α) (v : α) {o : Nat} (h : o < L.length) : L.take o ++ [v] ++ L.drop (o + 1) = L.set o v := by
  rw [List.set_eq_take_append_cons_drop, if_pos h]; simp
end Go.Proofs.Ytgnnlgmeagipjaa.K
namespace Go.Proofs.Ytgnnlgmeagipjaa
open Go Go.RowKit K

def fe (st : List Stay) (i : Int) : Int := match st[i.toNat]? with | some x => x.fee | none => 0
theorem fe_eq {st : List Stay} {i : Int} {x : Stay} (h : st[i.toNat]? = some x) : fe st i = x.fee := by simp only [fe, h]
theorem fe_bd {st : List Stay} (h : staysB st = true) (i : Int) : 0 ≤ fe st i ∧ fe st i ≤ 1000 := by
  unfold fe
  split
  · rename_i x hx; exact (stay_at h hx).2.2
  · omega
def feeL (st : List Stay) (l : List Int) : Int := l.foldl (fun s i => s + fe st i) 0
theorem feeL_app (st : List Stay) (l : List Int) (i : Int) : feeL st (l ++ [i]) = feeL st l + fe st i := by simp [feeL, List.foldl_append]
theorem daF_app (m : List Int) (st : List Stay) (l : List Int) (i : Int) : daF m st (l ++ [i]) = daS m st (daF m st l) i := by simp [daF, List.foldl_append]

/-- An order that has a way throughout. -/
structure OrdR (xs : List Road) (st : List Stay) (l : List Int) : Prop where
  nd : l.Nodup
  rng : ∀ i ∈ l, 0 ≤ i ∧ i < (st.length : Int)
  d0 : 0 ≤ (daF (ways (-1) xs) st l).1
  d1 : (daF (ways (-1) xs) st l).1 ≤ 240 * (l.length : Int)
  f0 : 0 ≤ feeL st l
  f1 : feeL st l ≤ 1000 * (l.length : Int)
theorem OrdR.nil (xs : List Road) (st : List Stay) : OrdR xs st [] := ⟨List.nodup_nil, (fun i hi => by cases hi), Int.le_refl 0, Int.le_refl 0, Int.le_refl 0, Int.le_refl 0⟩
theorem OrdR.snoc {xs : List Road} {st : List Stay} {l : List Int} (hR : OkR xs) (hs : staysB st = true) (h : OrdR xs st l) {k : Nat} (hk : k < st.length) (hn : hasL l (k : Int) = false) (hf : g8 (ways (-1) xs) (daF (ways (-1) xs) st l).2.toNat (tw st (k : Int)).toNat < 1000000) : OrdR xs st (l ++ [(k : Int)]) := by
  have ht := daF_town (m := ways (-1) xs) hs l
  have ht2 := tw_bd hs (k : Int)
  have hd := dy_bd hs (k : Int)
  have hfe := fe_bd hs (k : Int)
  have h1 : (daF (ways (-1) xs) st l).2.toNat < 8 := by omega
  have h2 : (tw st (k : Int)).toNat < 8 := by omega
  have hw := ways_small (wo := -1) hR h1 h2 hf
  have hb := ways_bd (wo := -1) hR h1 h2
  have hda : (daF (ways (-1) xs) st (l ++ [(k : Int)])).1 = (daF (ways (-1) xs) st l).1 + g8 (ways (-1) xs) (daF (ways (-1) xs) st l).2.toNat (tw st (k : Int)).toNat + dy st (k : Int) := by rw [daF_app]; rfl
  have hfa := feeL_app st l (k : Int)
  have hlen : ((l ++ [(k : Int)]).length : Int) = (l.length : Int) + 1 := by simp
  have := h.d0
  have := h.d1
  have := h.f0
  have := h.f1
  refine ⟨List.nodup_append.2 ⟨h.nd, by simp, fun a ha b hb => ?_⟩, fun i hi => ?_, by omega, by omega, by omega, by omega⟩
  · obtain rfl : b = (k : Int) := by simpa using hb
    exact fun e => (of_decide_eq_false hn) (e ▸ ha)
  · rcases List.mem_append.1 hi with hi | hi
    · exact h.rng i hi
    · obtain rfl : i = (k : Int) := by simpa using hi
      omega
theorem OrdR.len {xs : List Road} {st : List Stay} {l : List Int} (h : OrdR xs st l) : l.length ≤ st.length := pigeon st.length l h.nd h.rng

/-! ### What is held -/
def flg (n : Nat) (l : List Int) : List Bool := (List.range n).map fun (i : Nat) => hasL l (i : Int)
def bls (l : List Bool) : List Value := l.map Value.bool
theorem bls_flg_len (n : Nat) (l : List Int) : (bls (flg n l)).length = n := by simp [bls, flg]
theorem flg_get {n k : Nat} {l : List Int} (h : k < n) {o : Nat} (ho : o = k) : (bls (flg n l))[o]? = some (.bool (hasL l (k : Int))) := by
  subst ho; simp [bls, flg, h]
theorem flg_set {n k : Nat} {l l' : List Int} (h : k < n) (hs : ∀ j : Nat, j ≠ k → hasL l' (j : Int) = hasL l (j : Int)) : (bls (flg n l)).set k (.bool (hasL l' (k : Int))) = bls (flg n l') := by
  apply List.ext_getElem?
  intro j
  rw [List.getElem?_set]
  by_cases hj : k = j
  · subst hj
    rw [if_pos rfl, if_pos (by rw [bls_flg_len]; exact h), flg_get h rfl]
  · rw [if_neg hj]
    by_cases hn : j < n
    · rw [flg_get hn rfl, flg_get hn rfl, hs j (fun e => hj e.symm)]
    · rw [List.getElem?_eq_none (by rw [bls_flg_len]; omega), List.getElem?_eq_none (by rw [bls_flg_len]; omega)]
theorem hasL_app (l : List Int) (k j : Nat) : hasL (l ++ [(k : Int)]) (j : Int) = (hasL l (j : Int) || decide (j = k)) := by
  unfold hasL
  by_cases h1 : (j : Int) ∈ l <;> by_cases h2 : j = k <;> simp [h1, h2] <;> omega
theorem flg_put {n k o : Nat} {l : List Int} (h : k < n) (ho : o = k) : (bls (flg n l)).take o ++ [Value.bool true] ++ (bls (flg n l)).drop (o + 1) = bls (flg n (l ++ [(k : Int)])) := by
  subst ho
  rw [list_put _ _ (by rw [bls_flg_len]; exact h)]
  have := flg_set (l := l) (l' := l ++ [(o : Int)]) h (fun j hj => by rw [hasL_app, decide_eq_false hj, Bool.or_false])
  rw [hasL_app, decide_eq_true rfl, Bool.or_true] at this
  exact this
theorem flg_clr {n k o : Nat} {l : List Int} (h : k < n) (ho : o = k) (hn : hasL l (k : Int) = false) : (bls (flg n (l ++ [(k : Int)]))).take o ++ [Value.bool false] ++ (bls (flg n (l ++ [(k : Int)]))).drop (o + 1) = bls (flg n l) := by
  subst ho
  rw [list_put _ _ (by rw [bls_flg_len]; exact h)]
  have := flg_set (l := l ++ [(o : Int)]) (l' := l) h (fun j hj => by rw [hasL_app, decide_eq_false hj, Bool.or_false])
  rw [hn] at this
  exact this
theorem bls_none (n : Nat) : (List.replicate n [Value.bool false]).flatten = bls (flg n []) := by
  apply List.ext_getElem?
  intro j
  have h1 : (List.replicate n [Value.bool false]).flatten = List.replicate n (Value.bool false) := by
    induction n with
    | zero => rfl
    | succ n ih => rw [List.replicate_succ, List.flatten_cons, ih]; rfl
  rw [h1]
  by_cases hn : j < n
  · rw [flg_get hn rfl, List.getElem?_replicate, if_pos hn]; rfl
  · rw [List.getElem?_eq_none (by simp; omega), List.getElem?_eq_none (by rw [bls_flg_len]; omega)]

/-! ### What the program goes through -/
def trS (W : List Int) (st : List Stay) (R : List Int → Int → Int) (l : List Int) (v : Int) (i : Nat) : Int :=
  if hasL l (i : Int) || decide (1000000 ≤ g8 W (daF W st l).2.toNat (tw st (i : Int)).toNat) then v else R (l ++ [(i : Int)]) v
def trP (W : List Int) (st : List Stay) (tl : Int → Int → Int → Int → Int) (R : List Int → Int → Int) (l : List Int) (v : Int) (k : Nat) : Int :=
  (List.range k).foldl (trS W st R l) (tl v (daF W st l).1 (feeL st l) (l.length : Int))
theorem trP_skip {W : List Int} {st : List Stay} {tl : Int → Int → Int → Int → Int} {R : List Int → Int → Int} {l : List Int} {v : Int} {k : Nat} (h : hasL l (k : Int) = true ∨ 1000000 ≤ g8 W (daF W st l).2.toNat (tw st (k : Int)).toNat) : trP W st tl R l v (k + 1) = trP W st tl R l v k := by
  unfold trP
  rw [List.range_succ, List.foldl_append]
  show trS W st R l _ k = _
  unfold trS
  rw [if_pos (by rcases h with h | h <;> simp [h])]
theorem trP_go {W : List Int} {st : List Stay} {tl : Int → Int → Int → Int → Int} {R : List Int → Int → Int} {l : List Int} {v : Int} {k : Nat} (h : hasL l (k : Int) = false) (h2 : g8 W (daF W st l).2.toNat (tw st (k : Int)).toNat < 1000000) : trP W st tl R l v (k + 1) = R (l ++ [(k : Int)]) (trP W st tl R l v k) := by
  unfold trP
  rw [List.range_succ, List.foldl_append]
  show trS W st R l _ k = _
  unfold trS
  rw [if_neg (by rw [h, decide_eq_false (by omega)]; simp)]
def trF (W : List Int) (st : List Stay) (tl : Int → Int → Int → Int → Int) (R : List Int → Int → Int) (l : List Int) (v : Int) : Int := trP W st tl R l v st.length
def trO (W : List Int) (st : List Stay) (tl : Int → Int → Int → Int → Int) : Nat → List Int → Int → Int
  | 0 => trF W st tl (fun _ v => v)
  | m + 1 => trF W st tl (trO W st tl m)
end Go.Proofs.Ytgnnlgmeagipjaa
