/- Tours: rows of rows, where they lie. By an AI agent. -/
import Derived.Test.YtgnnlgmeagipjaaGf
import Derived.Test.YtgnnlgmeagipjaaJd
set_option linter.unusedVariables false
set_option linter.unusedSectionVars false
set_option linter.unusedSimpArgs false
namespace Go.Proofs.Ytgnnlgmeagipjaa
open Go Go.RowKit K

abbrev vls (l : List Value) : List Value := l
theorem vls_append (a b : List Value) : vls (a ++ b) = vls a ++ vls b := rfl
theorem vls_get {l pad : List Value} {j o : Nat} {v : Value} (h : l[j]? = some v) (e : o = j) : (vls l ++ pad)[o]? = some v := by
  subst e
  rw [List.getElem?_append_left (List.getElem?_eq_some_iff.1 h).1]; exact h
theorem set_get {xs : List Int} {p o : Nat} {v : Int} (h : p < xs.length) (e : o = p) : (ints (xs.set p v))[o]? = some (.int .i64 v) := by
  subst e
  rw [intsGet (p := o) (by rw [List.length_set]; exact h) rfl, List.getD_eq_getElem?_getD, List.getElem?_set_self h]; rfl
theorem flat_zero (n : Nat) : (List.replicate n [Value.int .i64 0]).flatten = ints (List.replicate n 0) := by
  induction n with
  | zero => rfl
  | succ n ih => rw [List.replicate_succ, List.replicate_succ, List.flatten_cons, ih]; rfl

/-! ### The ways from each stay; the newest first -/
def wVals (r : List (Nat × Nat × List Value)) : List Value := (r.map fun p => Value.slice (some ⟨p.1, 0, none⟩) 8 p.2.1).reverse
theorem wVals_cons (p : Nat × Nat × List Value) (r : List (Nat × Nat × List Value)) : wVals (p :: r) = wVals r ++ [Value.slice (some ⟨p.1, 0, none⟩) 8 p.2.1] := by simp [wVals]
theorem wVals_len (r : List (Nat × Nat × List Value)) : (wVals r).length = r.length := by simp [wVals]
def wEnts (T : TypeId) (xs : List Road) (st : List Stay) : List (Nat × Nat × List Value) → List Ent
  | [] => []
  | p :: r => (some p.1, T, ints (bfE (-1) xs (twN st r.length)) ++ p.2.2) :: wEnts T xs st r
theorem wEnts_get {T : TypeId} {xs : List Road} {st : List Stay} : ∀ (r : List (Nat × Nat × List Value)) (i : Nat) (p : Nat × Nat × List Value), r[i]? = some p → (wEnts T xs st r)[i]? = some (some p.1, T, ints (bfE (-1) xs (twN st (r.length - 1 - i))) ++ p.2.2)
  | [], i, p, h => by simp at h
  | q :: r, 0, p, h => by
    obtain rfl : q = p := by simpa using h
    show some _ = _
    rw [show (q :: r).length - 1 - 0 = r.length by simp]
  | q :: r, i + 1, p, h => by
    have hr : r[i]? = some p := by simpa using h
    have hi := (List.getElem?_eq_some_iff.1 hr).1
    show (wEnts T xs st r)[i]? = _
    rw [wEnts_get r i p hr, show (q :: r).length - 1 - (i + 1) = r.length - 1 - i by simp; omega]
theorem wGet {T : TypeId} {xs : List Road} {st : List Stay} {r : List (Nat × Nat × List Value)} {j : Nat} (h : j < r.length) : ∃ p : Nat × Nat × List Value, (wVals r)[j]? = some (.slice (some ⟨p.1, 0, none⟩) 8 p.2.1) ∧ (wEnts T xs st r)[r.length - 1 - j]? = some (some p.1, T, ints (bfE (-1) xs (twN st j)) ++ p.2.2) := by
  have hx := getLt (show r.length - 1 - j < r.length by omega)
  refine ⟨r[r.length - 1 - j], ?_, ?_⟩
  · unfold wVals
    rw [List.getElem?_reverse (by simpa using h), List.length_map, List.getElem?_map, hx]; rfl
  · rw [wEnts_get r _ _ hx, show r.length - 1 - (r.length - 1 - j) = j by omega]

/-! ### The table's rows; the newest first -/
def oVals (n : Nat) (r : List Nat) : List Value := (r.map fun b => Value.slice (some ⟨b, 0, none⟩) n n).reverse
theorem oVals_cons (n b : Nat) (r : List Nat) : oVals n (b :: r) = oVals n r ++ [Value.slice (some ⟨b, 0, none⟩) n n] := by simp [oVals]
theorem oVals_len (n : Nat) (r : List Nat) : (oVals n r).length = r.length := by simp [oVals]
def oEnts (T : TypeId) (W : List Int) (st : List Stay) : List Nat → List Ent
  | [] => []
  | b :: r => (some b, T, ints (rowH W st (rowsH W st r.length) r.length)) :: oEnts T W st r
theorem oEnts_len {T : TypeId} {W : List Int} {st : List Stay} : ∀ r, (oEnts T W st r).length = r.length
  | [] => rfl
  | b :: r => by rw [oEnts, List.length_cons, oEnts_len r]; rfl
theorem oEnts_get {T : TypeId} {W : List Int} {st : List Stay} : ∀ (r : List Nat) (i b : Nat), r[i]? = some b → (oEnts T W st r)[i]? = some (some b, T, ints (rowH W st (rowsH W st (r.length - 1 - i)) (r.length - 1 - i)))
  | [], i, p, h => by simp at h
  | q :: r, 0, p, h => by
    obtain rfl : q = p := by simpa using h
    show some _ = _
    rw [show (q :: r).length - 1 - 0 = r.length by simp]
  | q :: r, i + 1, p, h => by
    have hr : r[i]? = some p := by simpa using h
    have hi := (List.getElem?_eq_some_iff.1 hr).1
    show (oEnts T W st r)[i]? = _
    rw [oEnts_get r i p hr, show (q :: r).length - 1 - (i + 1) = r.length - 1 - i by simp; omega]
theorem oGet {T : TypeId} {W : List Int} {st : List Stay} {r : List Nat} {j : Nat} (n : Nat) (h : j < r.length) : ∃ b : Nat, (oVals n r)[j]? = some (.slice (some ⟨b, 0, none⟩) n n) ∧ (oEnts T W st r)[r.length - 1 - j]? = some (some b, T, ints (rowH W st (rowsH W st j) j)) := by
  have hx := getLt (show r.length - 1 - j < r.length by omega)
  refine ⟨r[r.length - 1 - j], ?_, ?_⟩
  · unfold oVals
    rw [List.getElem?_reverse (by simpa using h), List.length_map, List.getElem?_map, hx]; rfl
  · rw [oEnts_get r _ _ hx, show r.length - 1 - (r.length - 1 - j) = j by omega]
theorem tailO {A B : List Ent} {q : Nat} {e : Ent} (h : A[q]? = some e) : (A ++ B)[q]? = some e := by
  rw [List.getElem?_append_left (List.getElem?_eq_some_iff.1 h).1]; exact h
theorem tailW {A B : List Ent} {q m : Nat} {e : Ent} (h : B[q]? = some e) (hm : A.length = m) : (A ++ B)[q + m]? = some e := by
  rw [List.getElem?_append_right (by omega), show q + m - A.length = q by omega]; exact h

/-! ### A row that is being filled -/
def rI (W : List Int) (st : List Stay) (b i : Nat) : List Int := (List.range i).map (cellH W st (rowsH W st b) b) ++ List.replicate (st.length - i) 0
section
variable {W : List Int} {st : List Stay} {b : Nat}
theorem rI_len {i : Nat} (h : i ≤ st.length) : (rI W st b i).length = st.length := by simp [rI]; omega
theorem rI_zero : rI W st b 0 = List.replicate st.length 0 := by simp [rI]
theorem rI_end : rI W st b st.length = rowH W st (rowsH W st b) b := by simp [rI, rowH]
theorem rI_set {i : Nat} (h : i < st.length) : (rI W st b i).set i (cellH W st (rowsH W st b) b i) = rI W st b (i + 1) := by
  unfold rI
  rw [List.set_append_right _ _ (by simp), List.length_map, List.length_range, Nat.sub_self, List.range_succ, List.map_append, List.append_assoc]
  congr 1
  rw [show st.length - i = (st.length - (i + 1)) + 1 by omega, List.replicate_succ]; rfl
theorem rI_no {i : Nat} {v : Int} (h : i < st.length) (hb : b / 2 ^ i % 2 = 0) (hv : v = 1000000) : (rI W st b i).set i v = rI W st b (i + 1) := by
  rw [← rI_set h, show cellH W st (rowsH W st b) b i = 1000000 from by unfold cellH; rw [if_pos hb], hv]
theorem rI_one {i : Nat} {u v : Int} (h : i < st.length) (hb : b / 2 ^ i % 2 ≠ 0) (hr : b - 2 ^ i = 0) (hv : v = imin 1000000 (g8 W 0 (twN st i) + dy st (i : Int))) : ((rI W st b i).set i u).set i v = rI W st b (i + 1) := by
  rw [List.set_set, ← rI_set h, show cellH W st (rowsH W st b) b i = _ from by unfold cellH; rw [if_neg hb, if_pos hr], hv]
theorem rI_leg {i : Nat} (h : i < st.length) (hb : b / 2 ^ i % 2 ≠ 0) (hr : b - 2 ^ i ≠ 0) : (rI W st b i).set i (legP W st (rowsH W st b) (b - 2 ^ i) i st.length) = rI W st b (i + 1) := by
  rw [← rI_set h, show cellH W st (rowsH W st b) b i = _ from by unfold cellH; rw [if_neg hb, if_neg hr]]
theorem leg_next {i k : Nat} (hr : b - 2 ^ i ≠ 0) (hk : k < st.length) : legP W st (rowsH W st b) (b - 2 ^ i) i (k + 1) = imin (legP W st (rowsH W st b) (b - 2 ^ i) i k) (tabH W st (b - 2 ^ i) k + g8 W (twN st k) (twN st i) + dy st (i : Int)) := by
  rw [← legH_tab (Nat.pow_pos (by decide)) hr hk]
  unfold legP
  rw [List.range_succ, List.foldl_append]; rfl
theorem row_cell {j k o : Nat} (hk : k < st.length) (ho : o = k) : (ints (rowH W st (rowsH W st j) j))[o]? = some (.int .i64 (tabH W st j k)) := by
  subst ho
  rw [ints_get (rowH_get hk)]; rfl
theorem minP_nn {F : Nat → Int} (h : ∀ k, 0 ≤ F k) : ∀ n, 0 ≤ minP F n
  | 0 => (by show (0 : Int) ≤ 1000000; decide)
  | n + 1 => by
    have := minP_nn h n
    have := h n
    have := imin_or (minP F n) (F n)
    rw [minP_succ]; omega
theorem leg_nn (hW : ∀ a b, 0 ≤ g8 W a b) (hs : staysB st = true) {out : List (List Int)} (ho : ∀ a k, 0 ≤ (out.getD a []).getD k 0) (rest i k : Nat) : 0 ≤ legP W st out rest i k := by
  rw [legP_min]
  refine minP_nn (fun q => ?_) k
  unfold legH
  have := ho rest q
  have := hW (twN st q) (twN st i)
  have := dy_bd hs (i : Int)
  omega
theorem cell_nn (hW : ∀ a b, 0 ≤ g8 W a b) (hs : staysB st = true) {out : List (List Int)} (ho : ∀ a k, 0 ≤ (out.getD a []).getD k 0) (b i : Nat) : 0 ≤ cellH W st out b i := by
  unfold cellH
  split
  · decide
  · split
    · have := hW 0 (twN st i)
      have := dy_bd hs (i : Int)
      have := imin_or 1000000 (g8 W 0 (twN st i) + dy st (i : Int))
      omega
    · exact leg_nn hW hs ho _ _ _
theorem rows_nn (hW : ∀ a b, 0 ≤ g8 W a b) (hs : staysB st = true) : ∀ (m a k : Nat), 0 ≤ ((rowsH W st m).getD a []).getD k 0
  | 0, a, k => by simp [rowsH]
  | m + 1, a, k => by
    rw [rowsH, List.getD_eq_getElem?_getD (l := rowsH W st m ++ _)]
    by_cases ha : a < m
    · rw [List.getElem?_append_left (by rw [rowsH_len]; exact ha), ← List.getD_eq_getElem?_getD]
      exact rows_nn hW hs m a k
    · by_cases hm : a = m
      · subst hm
        rw [List.getElem?_append_right (by rw [rowsH_len]; exact Nat.le_refl _), rowsH_len, Nat.sub_self]
        show 0 ≤ (rowH W st (rowsH W st a) a).getD k 0
        by_cases hk : k < st.length
        · rw [getD_of (rowH_get hk)]
          exact cell_nn hW hs (rows_nn hW hs a) _ _
        · rw [List.getD_eq_getElem?_getD, List.getElem?_eq_none (by rw [rowH_len]; omega)]; decide
      · rw [List.getElem?_eq_none (by rw [List.length_append, rowsH_len, List.length_singleton]; omega)]; simp
theorem tab_nn (hW : ∀ a b, 0 ≤ g8 W a b) (hs : staysB st = true) (b i : Nat) : 0 ≤ tabH W st b i := cell_nn hW hs (rows_nn hW hs b) _ _
end
end Go.Proofs.Ytgnnlgmeagipjaa
