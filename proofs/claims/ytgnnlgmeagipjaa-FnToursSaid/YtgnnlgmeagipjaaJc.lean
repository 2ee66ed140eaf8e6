/- Journeys: what the walks of the two ways of reckoning need. By an AI agent. -/
import Derived.Test.YtgnnlgmeagipjaaJb
import Derived.Test.YtgnnlgmeagipjaaKn
set_option linter.unusedVariables false
set_option linter.unusedSimpArgs false
namespace Go.Proofs.Ytgnnlgmeagipjaa
open Go Go.RowKit K

/-- A store of a number at place p, said at o. -/
theorem intsPut {xs : List Int} {o p : Nat} (v : Int) (h : p < xs.length) (e : o = p) : (ints xs).take o ++ [Value.int .i64 v] ++ (ints xs).drop (o + 1) = ints (xs.set p v) := by
  subst e
  unfold ints
  rw [List.map_set, List.set_eq_take_append_cons_drop, if_pos (by simpa using h)]
  simp
theorem intsGet {xs : List Int} {o p : Nat} (h : p < xs.length) (e : o = p) : (ints xs)[o]? = some (.int .i64 (xs.getD p 0)) := by
  subst e
  rw [ints_get (getLt h), List.getD_eq_getElem?_getD, getLt h]; rfl

theorem slSome {k : Nat} {bo : Option Nat} {len cap : Nat} {xs pad : List Value} (h : Sl k bo len cap xs pad) (hl : 0 < len) : ∃ b, bo = .some b := by
  cases bo with
  | none => have := (h.nil rfl).1; omega
  | some b => exact ⟨b, rfl⟩

/-! ### The program's rows -/
def mi (t : Nat) : List Int := (List.range 64).map fun j => if j < t then (if j / 8 = j % 8 then 0 else 1000000) else 0
theorem mi_0 : ints (mi 0) = List.replicate 64 (.int .i64 0) := by rw [show mi 0 = List.replicate 64 0 from by decide +kernel]; simp [ints]
theorem mi_64 : mi 64 = m0 := by decide +kernel
theorem mi_len (t : Nat) : (mi t).length = 64 := by simp [mi]
theorem mi_set0 : ∀ t, t < 64 → t / 8 ≠ t % 8 → (mi t).set t 1000000 = mi (t + 1) := by decide +kernel
theorem mi_same0 : ∀ t, t < 64 → t / 8 = t % 8 → mi t = mi (t + 1) := by decide +kernel
theorem mi_set {a b : Nat} (ha : a < 8) (hb : b < 8) (h : a ≠ b) : (mi (8 * a + b)).set (8 * a + b) 1000000 = mi (8 * a + b + 1) := mi_set0 _ (by omega) (by omega)
theorem mi_same {a b : Nat} (ha : a < 8) (hb : b < 8) (h : a = b) : mi (8 * a + b) = mi (8 * a + b + 1) := mi_same0 _ (by omega) (by omega)

theorem take_fold {α β : Type} {f : β → α → β} {z : β} {xs : List α} {k : Nat} {x : α} (h : xs[k]? = some x) : (xs.take (k + 1)).foldl f z = f ((xs.take k).foldl f z) x := by
  have hk : k < xs.length := (List.getElem?_eq_some_iff.1 h).1
  have hx : xs[k] = x := (List.getElem?_eq_some_iff.1 h).2
  rw [List.take_succ_eq_append_getElem hk, List.foldl_append, hx]; rfl
theorem setRoad_yes {wo : Int} {m : List Int} {r : Road} (h : allow wo r = true) : setRoad wo m r = (m.set (8 * r.a.toNat + r.b.toNat) r.days).set (8 * r.b.toNat + r.a.toNat) r.days := if_pos h
theorem setRoad_no {wo : Int} {m : List Int} {r : Road} (h : allow wo r = false) : setRoad wo m r = m := if_neg (by simp [h])
theorem setRoad_len (wo : Int) (m : List Int) (r : Road) : (setRoad wo m r).length = m.length := by unfold setRoad; split <;> simp
theorem sets_len (wo : Int) : ∀ (rs : List Road) (m : List Int), (rs.foldl (setRoad wo) m).length = m.length
  | [], _ => rfl
  | r :: rs, m => by rw [List.foldl_cons, sets_len, setRoad_len]
def Bd (m : List Int) : Prop := ∀ x ∈ m, 0 ≤ x ∧ x ≤ 1000000
theorem Bd.set {m : List Int} (h : Bd m) {i : Nat} {v : Int} (hv : 0 ≤ v ∧ v ≤ 1000000) : Bd (m.set i v) := fun x hx => by
  rcases List.mem_or_eq_of_mem_set hx with hx | rfl
  · exact h x hx
  · exact hv
theorem Bd.getD {m : List Int} (h : Bd m) (i : Nat) : 0 ≤ m.getD i 0 ∧ m.getD i 0 ≤ 1000000 := by
  rw [List.getD_eq_getElem?_getD]
  cases hx : m[i]? with
  | none => simp
  | some x => exact h x (List.mem_of_getElem? hx)
theorem bd_sets (wo : Int) : ∀ (rs : List Road), (∀ r ∈ rs, roadB r = true) → ∀ m, Bd m → Bd (rs.foldl (setRoad wo) m)
  | [], _, _, h => h
  | r :: rs, hok, m, h => by
    rw [List.foldl_cons]
    refine bd_sets wo rs (fun x hx => hok x (by simp [hx])) _ ?_
    have hr := road_lt (hok r (by simp))
    unfold setRoad
    split
    · exact (h.set (by omega)).set (by omega)
    · exact h
theorem bd_m0 : Bd m0 := by
  intro x hx
  obtain ⟨t, _, rfl⟩ := List.mem_map.1 hx
  split <;> omega
theorem bd_roads {wo : Int} {rs : List Road} (h : ∀ r ∈ rs, roadB r = true) : Bd (roadsM wo rs) := bd_sets wo rs h _ bd_m0
theorem imin_bd {x y : Int} (hx : 0 ≤ x ∧ x ≤ 1000000) (hy : 0 ≤ y ∧ y ≤ 2000000) : 0 ≤ imin x y ∧ imin x y ≤ 1000000 := by unfold imin; split <;> omega
theorem bd_fw {m : List Int} (h : Bd m) : ∀ t, Bd (fwT m t)
  | 0 => h
  | t + 1 => by
    have ih := bd_fw h t
    have a := ih.getD (8 * (t / 8 % 8) + t % 8)
    have b : 0 ≤ g8 (fwT m t) (t / 8 % 8) (t / 64) ∧ g8 (fwT m t) (t / 8 % 8) (t / 64) ≤ 1000000 := ih.getD (8 * (t / 8 % 8) + t / 64)
    have c : 0 ≤ g8 (fwT m t) (t / 64) (t % 8) ∧ g8 (fwT m t) (t / 64) (t % 8) ≤ 1000000 := ih.getD (8 * (t / 64) + t % 8)
    exact ih.set (imin_bd a ⟨by omega, by omega⟩)
theorem roadsM_len (wo : Int) (rs : List Road) : (roadsM wo rs).length = 64 := by rw [roadsM, sets_len]; simp [m0]
theorem fwl (wo : Int) (rs : List Road) (t : Nat) : (fwT (roadsM wo rs) t).length = 64 := fwT_len (roadsM_len wo rs) t
theorem ways_len (wo : Int) (rs : List Road) : (ways wo rs).length = 64 := by rw [← ways_def]; exact fwl wo rs 512
theorem fw_step {m : List Int} {k a b : Nat} (hk : k < 8) (ha : a < 8) (hb : b < 8) : fwT m (64 * k + 8 * a + b + 1) = (fwT m (64 * k + 8 * a + b)).set (8 * a + b) (imin (g8 (fwT m (64 * k + 8 * a + b)) a b) (g8 (fwT m (64 * k + 8 * a + b)) a k + g8 (fwT m (64 * k + 8 * a + b)) k b)) := by
  rw [fwT_succ, show (64 * k + 8 * a + b) / 64 = k by omega, show (64 * k + 8 * a + b) / 8 % 8 = a by omega, show (64 * k + 8 * a + b) % 8 = b by omega]; rfl
theorem g8At {m : List Int} {a b : Nat} (hl : m.length = 64) (ha : a < 8) (hb : b < 8) : (ints m)[0 + a * 8 + b * 1]? = some (.int .i64 (g8 m a b)) := intsGet (by omega) (by omega)
theorem ints_cell (xs : List Int) : (ints xs).toArray.toList.all (·.oneCell') = true := List.all_eq_true.2 (ints_one xs)

theorem putAll (xs : List Int) : (List.replicate 64 (Value.int .i64 0)).take 0 ++ (Value.agg (ints xs).toArray).cells.toList ++ (List.replicate 64 (Value.int .i64 0)).drop (0 + 64) = ints xs := by
  rw [List.take_zero, List.drop_eq_nil_of_le (by simp), List.nil_append, List.append_nil]; rfl

theorem aggSize (xs : List Int) : (Value.agg (ints xs).toArray).cells.size = xs.length := by
  show (ints xs).toArray.size = _
  rw [List.size_toArray, ints_length]

/-- A row of the program's rows. -/
def row (m : List Int) (a : Nat) : List Int := (m.drop (8 * a)).take 8
theorem row_get {m : List Int} {a b : Nat} (hb : b < 8) : (row m a).getD b 0 = g8 m a b := by
  unfold row g8
  rw [List.getD_eq_getElem?_getD, List.getD_eq_getElem?_getD, List.getElem?_take_of_lt hb, List.getElem?_drop]
theorem row_len {m : List Int} {a : Nat} (hl : m.length = 64) (ha : a < 8) : (row m a).length = 8 := by simp [row]; omega
theorem row_ints (m : List Int) (a : Nat) : ((ints m).drop (a * 8)).take 8 = ints (row m a) := by
  rw [row, ints_take, ints_drop, Nat.mul_comm]
theorem rowAt {m : List Int} {a b : Nat} (hl : m.length = 64) (ha : a < 8) (hb : b < 8) : (((ints m).drop (a * 8)).take 8)[b]? = some (.int .i64 (g8 m a b)) := by
  rw [row_ints, intsGet (by rw [row_len hl ha]; exact hb) rfl, row_get hb]

/-! ### The reference's way -/
def bi (k : Nat) : List Int := List.replicate k 1000000 ++ List.replicate (8 - k) 0
theorem bi_len {k : Nat} (h : k ≤ 8) : (bi k).length = 8 := by simp [bi]; omega
theorem bi_set : ∀ k, k < 8 → (bi k).set k 1000000 = bi (k + 1) := by decide
theorem bi_8 (s : Nat) : (bi 8).set s 0 = b0 s := rfl
theorem bi_0 : ints (bi 0) = (List.replicate 8 [Value.int .i64 0]).flatten := by rfl
def relaxD (d : List Int) (r : Road) : List Int := d.set r.b.toNat (imin (d.getD r.b.toNat 0) (d.getD r.a.toNat 0 + r.days))
theorem relaxB_yes {wo : Int} {d : List Int} {r : Road} (h : allow wo r = true) : relaxB wo d r = (relaxD d r).set r.a.toNat (imin ((relaxD d r).getD r.a.toNat 0) ((relaxD d r).getD r.b.toNat 0 + r.days)) := if_pos h
theorem relaxB_no {wo : Int} {d : List Int} {r : Road} (h : allow wo r = false) : relaxB wo d r = d := if_neg (by simp [h])
theorem relaxD_len (d : List Int) (r : Road) : (relaxD d r).length = d.length := by simp [relaxD]
theorem relaxD_bd {d : List Int} {r : Road} (h : Bd d) (hr : roadB r = true) : Bd (relaxD d r) := by
  have := road_lt hr; have a := h.getD r.b.toNat; have b := h.getD r.a.toNat
  exact h.set (imin_bd a ⟨by omega, by omega⟩)
theorem relaxB_bd {wo : Int} {d : List Int} {r : Road} (h : Bd d) (hr : roadB r = true) : Bd (relaxB wo d r) := by
  by_cases ha : allow wo r = true
  · rw [relaxB_yes ha]
    have h2 := relaxD_bd h hr
    have := road_lt hr; have a := h2.getD r.b.toNat; have b := h2.getD r.a.toNat
    exact h2.set (imin_bd b ⟨by omega, by omega⟩)
  · rw [relaxB_no (by simpa using ha)]; exact h
theorem relax_folds {wo : Int} : ∀ (rs : List Road), (∀ r ∈ rs, roadB r = true) → ∀ d, Bd d → Bd (rs.foldl (relaxB wo) d)
  | [], _, _, h => h
  | r :: rs, hok, d, h => relax_folds rs (fun x hx => hok x (by simp [hx])) _ (relaxB_bd h (hok r (by simp)))
theorem bd_b0 (s : Nat) : Bd (b0 s) := by
  refine Bd.set (fun x hx => ?_) (by omega)
  obtain ⟨_, rfl⟩ := List.mem_replicate.1 hx
  omega
theorem bf_bd {wo : Int} {rs : List Road} (hok : ∀ r ∈ rs, roadB r = true) (s : Nat) : ∀ n, Bd (bfN wo rs s n)
  | 0 => bd_b0 s
  | n + 1 => relax_folds rs hok _ (bf_bd hok s n)
theorem bf_len (wo : Int) (rs : List Road) (s : Nat) : ∀ n, (bfN wo rs s n).length = 8
  | 0 => by simp [bfN, b0]
  | n + 1 => by rw [bfN, fold_len, bf_len]
theorem bft_len {wo : Int} {rs : List Road} {s n j : Nat} : ((rs.take j).foldl (relaxB wo) (bfN wo rs s n)).length = 8 := by rw [fold_len, bf_len]
theorem bft_bd {wo : Int} {rs : List Road} (hok : ∀ r ∈ rs, roadB r = true) {s n j : Nat} : Bd ((rs.take j).foldl (relaxB wo) (bfN wo rs s n)) := relax_folds _ (fun r hr => hok r (List.mem_of_mem_take hr)) _ (bf_bd hok s n)

def bfE (wo : Int) (rs : List Road) (s : Nat) : List Int := bfN wo rs s 8
theorem bfE_len (wo : Int) (rs : List Road) (s : Nat) : (bfE wo rs s).length = 8 := bf_len wo rs s 8
theorem bfE_eq {wo : Int} {rs : List Road} (h : OkR rs) {s t : Nat} (hs : s < 8) (ht : t < 8) : (bfE wo rs s).getD t 0 = g8 (ways wo rs) s t := bf_eq h hs ht
theorem bfE_def (wo : Int) (rs : List Road) (s : Nat) : bfE wo rs s = bfN wo rs s 8 := rfl
theorem ways_def64 (wo : Int) (rs : List Road) : fwT (roadsM wo rs) (64 * 8) = ways wo rs := ways_def wo rs

/-- Good roads stand in a strict order. -/
theorem roads_ok {rs : List Road} (h : roadsB rs = true) : OkR rs := by
  have hget : ∀ k (hk : k < rs.length), roadB rs[k] = true ∧ (k = 0 ∨ (rs[k - 1]'(by omega)).a < rs[k].a ∨ ((rs[k - 1]'(by omega)).a = rs[k].a ∧ (rs[k - 1]'(by omega)).b < rs[k].b)) := fun k hk => by
    have := listB_step h hk
    rw [roadStep_eq (getLt hk) (getLt (show k - 1 < rs.length by omega))] at this
    simp only [Bool.and_eq_true, Bool.or_eq_true, decide_eq_true_eq] at this
    exact ⟨this.1, or_assoc.1 this.2⟩
  refine ⟨fun r hr => ?_, List.pairwise_iff_getElem.2 fun i j hi hj hij => ?_⟩
  · obtain ⟨k, hk, rfl⟩ := List.getElem_of_mem hr
    exact (hget k hk).1
  · have key : ∀ d, ∀ (h2 : i + d + 1 < rs.length), rs[i].a < rs[i + d + 1].a ∨ (rs[i].a = rs[i + d + 1].a ∧ rs[i].b < rs[i + d + 1].b) := by
      intro d
      induction d with
      | zero =>
        intro h2
        have := (hget (i + 0 + 1) h2).2
        simp at this
        exact this
      | succ d ih =>
        intro h2
        have h3 := ih (by omega)
        have h4 := (hget (i + (d + 1) + 1) h2).2
        have e : (rs[i + (d + 1) + 1 - 1]'(by omega)) = rs[i + d + 1] := by congr 1
        rw [e] at h4
        omega
    have := key (j - i - 1) (by omega)
    have e : (rs[i + (j - i - 1) + 1]'(by omega)) = rs[j] := by congr 1; omega
    rw [e] at this
    omega
attribute [irreducible] bfE
end Go.Proofs.Ytgnnlgmeagipjaa
