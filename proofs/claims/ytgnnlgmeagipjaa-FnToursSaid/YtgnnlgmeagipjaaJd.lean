/- Journeys: the plain results that the ways serve. By an AI agent. -/
import Derived.Test.YtgnnlgmeagipjaaJc
set_option linter.unusedVariables false
set_option linter.unusedSimpArgs false
namespace Go.Proofs.Ytgnnlgmeagipjaa
open Go Go.RowKit K

theorem bfAt {wo : Int} {rs : List Road} (h : OkR rs) {s t : Nat} (hs : s < 8) (ht : t < 8) (pad : List Value) : (ints (bfE wo rs s) ++ pad)[0 + t * 1]? = some (.int .i64 (g8 (ways wo rs) s t)) := by
  rw [Nat.mul_one, Nat.zero_add, List.getElem?_append_left (by rw [ints_length, bfE_len]; exact ht), ← bfE_eq h hs ht]
  exact intsGet (by rw [bfE_len]; exact ht) rfl
theorem ways_bd {wo : Int} {rs : List Road} (h : OkR rs) {s t : Nat} (hs : s < 8) (ht : t < 8) : 0 ≤ g8 (ways wo rs) s t ∧ g8 (ways wo rs) s t ≤ 1000000 := ⟨(ways_inv h).nn s t hs ht, (ways_inv h).cap s t hs ht⟩
theorem town_lt {t : Int} (h : inB t 0 7 = true) : (t = t.toNat ∧ t.toNat < 8) ∧ 0 ≤ t ∧ t ≤ 7 := by
  simp only [inB, Bool.and_eq_true, decide_eq_true_eq] at h
  omega

theorem putRow (m : List Int) (a : Nat) : [Value.int .i64 0, Value.int .i64 0, Value.int .i64 0, Value.int .i64 0, Value.int .i64 0, Value.int .i64 0, Value.int .i64 0, Value.int .i64 0].take 0 ++ (Value.agg (((ints m).drop (a * 8)).take 8).toArray).cells.toList ++ [Value.int .i64 0, Value.int .i64 0, Value.int .i64 0, Value.int .i64 0, Value.int .i64 0, Value.int .i64 0, Value.int .i64 0, Value.int .i64 0].drop (0 + 8) = ints (row m a) := by
  rw [row_ints, List.take_zero, List.drop_eq_nil_of_le (by simp), List.nil_append, List.append_nil]; rfl
theorem rowSize {m : List Int} {a : Nat} (hl : m.length = 64) (ha : a < 8) : (Value.agg (((ints m).drop (a * 8)).take 8).toArray).cells.size = 8 := by
  rw [row_ints, aggSize, row_len hl ha]
theorem rowCell (m : List Int) (a : Nat) : (Value.agg (((ints m).drop (a * 8)).take 8).toArray).cells.toList.all (·.oneCell') = true := by
  rw [row_ints]; exact ints_cell _
theorem rowAt2 {m : List Int} {a b : Nat} (hl : m.length = 64) (ha : a < 8) (hb : b < 8) : (ints (row m a))[b]? = some (.int .i64 (g8 m a b)) := by
  rw [intsGet (by rw [row_len hl ha]; exact hb) rfl, row_get hb]
theorem rowAt3 {m : List Int} {a b : Nat} (hl : m.length = 64) (ha : a < 8) (hb : b < 8) : (ints (row m a))[0 + b * 1]? = some (.int .i64 (g8 m a b)) := by
  rw [Nat.mul_one, Nat.zero_add]; exact rowAt2 hl ha hb
theorem lkB {σ : List (Nat × Value)} {t : Nat} {a b : Bool} (h : σ.lookup t = some (.bool a)) (e : a = b) : σ.lookup t = some (.bool b) := e ▸ h

/-! ### The shortest way -/
def swB (rs : List Road) (f t : Int) : Bool := roadsB rs && inB f 0 7 && inB t 0 7 && decide (g8 (ways (-1) rs) f.toNat t.toNat < 1000000)
def swR (rs : List Road) (f t : Int) : Int := if swB rs f t then g8 (ways (-1) rs) f.toNat t.toNat else 0

theorem swB_no {rs : List Road} {f t : Int} (h : roadsB rs = false ∨ inB f 0 7 = false ∨ inB t 0 7 = false ∨ 1000000 ≤ g8 (ways (-1) rs) f.toNat t.toNat) : swB rs f t = false := by
  unfold swB
  rcases h with h | h | h | h
  · rw [h]; rfl
  · rw [h]; simp
  · rw [h]; simp
  · rw [decide_eq_false (by omega)]; simp
theorem swB_yes {rs : List Road} {f t : Int} (h1 : roadsB rs = true) (h2 : inB f 0 7 = true) (h3 : inB t 0 7 = true) (h4 : g8 (ways (-1) rs) f.toNat t.toNat < 1000000) : swB rs f t = true := by
  unfold swB
  rw [h1, h2, h3, decide_eq_true h4]; rfl
theorem swR_no {rs : List Road} {f t : Int} (h : swB rs f t = false) : swR rs f t = 0 := if_neg (by simp [h])
theorem swR_yes {rs : List Road} {f t : Int} (h : swB rs f t = true) : swR rs f t = g8 (ways (-1) rs) f.toNat t.toNat := if_pos h

/-! ### Towns within -/
def twB (rs : List Road) (f d : Int) : Bool := roadsB rs && inB f 0 7 && inB d 0 1000
def towns : List Int := [0, 1, 2, 3, 4, 5, 6, 7]
theorem towns_at {k : Nat} (h : k < towns.length) : towns[k]? = some (k : Int) := by
  revert h; revert k; decide
def nearP (m : List Int) (f d : Int) (t : Int) : Bool := decide (g8 m f.toNat t.toNat ≤ d)
def twL (rs : List Road) (f d : Int) : List Int := if twB rs f d then selL (nearP (ways (-1) rs) f d) (fun x => x) towns 8 else []
theorem twB_no {rs : List Road} {f d : Int} (h : roadsB rs = false ∨ inB f 0 7 = false ∨ inB d 0 1000 = false) : twB rs f d = false := by
  unfold twB
  rcases h with h | h | h
  · rw [h]; rfl
  · rw [h]; simp
  · rw [h]; simp
theorem twB_yes {rs : List Road} {f d : Int} (h1 : roadsB rs = true) (h2 : inB f 0 7 = true) (h3 : inB d 0 1000 = true) : twB rs f d = true := by
  unfold twB
  rw [h1, h2, h3]; rfl
theorem twL_yes {rs : List Road} {f d : Int} (h : twB rs f d = true) : twL rs f d = selL (nearP (ways (-1) rs) f d) (fun x => x) towns 8 := if_pos h
theorem twL_no {rs : List Road} {f d : Int} (h : twB rs f d = false) : twL rs f d = [] := if_neg (by simp [h])
theorem twL_len (rs : List Road) (f d : Int) : (twL rs f d).length ≤ 8 := by
  unfold twL
  split
  · exact selL_len rfl
  · exact Nat.zero_le _

/-! ### Towns that cut -/
def cutQ (m m2 : List Int) (t : Int) (k : Nat) : Bool := ((k : Int) != t) && decide (g8 m 0 k < 1000000) && decide (g8 m2 0 k ≥ 1000000)
def cutK (m m2 : List Int) (t : Int) (k : Nat) : Bool := (List.range k).any (cutQ m m2 t)
theorem cutK_succ (m m2 : List Int) (t : Int) (k : Nat) : cutK m m2 t (k + 1) = (cutK m m2 t k || cutQ m m2 t k) := by simp [cutK, List.range_succ]
def cutP (rs : List Road) (t : Int) : Bool := cutK (ways (-1) rs) (ways t rs) t 8
def cutT : List Int := [1, 2, 3, 4, 5, 6, 7]
theorem cutT_at {k : Nat} (h : k < cutT.length) : cutT[k]? = some ((k : Int) + 1) := by
  revert h; revert k; decide
def ctL (rs : List Road) : List Int := if roadsB rs then selL (cutP rs) (fun x => x) cutT 7 else []
theorem ctL_yes {rs : List Road} (h : roadsB rs = true) : ctL rs = selL (cutP rs) (fun x => x) cutT 7 := if_pos h
theorem ctL_no {rs : List Road} (h : roadsB rs = false) : ctL rs = [] := if_neg (by simp [h])
theorem ctL_len (rs : List Road) : (ctL rs).length ≤ 7 := by
  unfold ctL
  split
  · exact selL_len rfl
  · exact Nat.zero_le _
end Go.Proofs.Ytgnnlgmeagipjaa
