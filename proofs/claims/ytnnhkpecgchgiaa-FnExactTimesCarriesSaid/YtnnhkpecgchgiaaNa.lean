/- Multiplying: digits, parts, how often it goes over: the plain functions. By an AI agent. -/
import Derived.Test.YtnnhkpecgchgiaaAa
set_option linter.unusedVariables false
namespace Go.Proofs.Ytnnhkpecgchgiaa
open Go Go.RowKit K

theorem p10_add (a b : Nat) : p10 (a + b) = p10 a * p10 b := by
  induction a with
  | zero => rw [Nat.zero_add]; show p10 b = 1 * p10 b; rw [Int.one_mul]
  | succ a ih => rw [show a + 1 + b = (a + b) + 1 from by omega, p10_succ, p10_succ, ih, Int.mul_assoc]
/-- The digits of a number. -/
def dgs : Nat → Int → List Int
  | 0, _ => []
  | k + 1, n => if n ≤ 0 then [] else dgs k (n / 10) ++ [n % 10]
theorem dgs_no (k : Nat) {n : Int} (h : n ≤ 0) : dgs k n = [] := by
  cases k with
  | zero => rfl
  | succ k => rw [dgs, if_pos h]
theorem dgs_yes {k : Nat} {n : Int} (h : 0 < n) : dgs (k + 1) n = dgs k (n / 10) ++ [n % 10] := by rw [dgs, if_neg (by omega)]
theorem dgs_len : ∀ (k : Nat) (n : Int), (dgs k n).length ≤ k
  | 0, _ => Nat.le_refl _
  | k + 1, n => by
    have := dgs_len k (n / 10)
    rw [dgs]
    split
    · simp
    · simp; exact this
theorem dgs_bd : ∀ (k : Nat) (n : Int), ∀ d ∈ dgs k n, 0 ≤ d ∧ d ≤ 9
  | 0, _, d, h => by cases h
  | k + 1, n, d, h => by
    rw [dgs] at h
    split at h
    · cases h
    · rcases List.mem_append.1 h with h | h
      · exact dgs_bd k _ d h
      · obtain rfl := List.mem_singleton.1 h; omega
def valF (l : List Int) : Int := l.foldl (fun a d => 10 * a + d) 0
theorem valF_snoc (l : List Int) (d : Int) : valF (l ++ [d]) = 10 * valF l + d := by simp [valF, List.foldl_append]
theorem dgs_val : ∀ (k : Nat) (n : Int), 0 ≤ n → n < p10 k → valF (dgs k n) = n
  | 0, n, h0, h1 => by
    have : n = 0 := by simp [p10] at h1; omega
    subst this; rfl
  | k + 1, n, h0, h1 => by
    rw [p10_succ] at h1
    rw [dgs]
    split
    · have : n = 0 := by omega
      subst this; rfl
    · rw [valF_snoc, dgs_val k (n / 10) (by omega) (by omega)]; omega
structure IntA3 where
  a : Int
  b : Int
  c : Int
def encIntA3 (x : IntA3) : List Value := [.int .i64 x.a, .int .i64 x.b, .int .i64 x.c]
theorem encIntA3_len (x : IntA3) : (encIntA3 x).length = 3 := rfl
theorem encIntA3_one (x : IntA3) : ∀ u ∈ encIntA3 x, u.oneCell' = true := list_one rfl
/-- What a part counts. -/
def cnt3 (p : IntA3) : Int := p.c * p10 (p.a + p.b).toNat
def rowP (x y : List Int) (i : Nat) : Nat → List IntA3
  | 0 => []
  | k + 1 => match x[i]?, y[k]? with
    | some d, some e => if 0 < d * e then rowP x y i k ++ [⟨(x.length : Int) - 1 - i, (y.length : Int) - 1 - k, d * e⟩] else rowP x y i k
    | _, _ => rowP x y i k
theorem rowP_yes {x y : List Int} {i k : Nat} {d e : Int} (hx : x[i]? = some d) (hy : y[k]? = some e) (h : 0 < d * e) : rowP x y i (k + 1) = rowP x y i k ++ [⟨(x.length : Int) - 1 - i, (y.length : Int) - 1 - k, d * e⟩] := by simp only [rowP, hx, hy, if_pos h]
theorem rowP_no {x y : List Int} {i k : Nat} {d e : Int} (hx : x[i]? = some d) (hy : y[k]? = some e) (h : ¬ 0 < d * e) : rowP x y i (k + 1) = rowP x y i k := by simp only [rowP, hx, hy, if_neg h]
def allP (x y : List Int) : Nat → List IntA3
  | 0 => []
  | i + 1 => allP x y i ++ rowP x y i y.length
theorem rowP_len (x y : List Int) (i : Nat) : ∀ k, (rowP x y i k).length ≤ k
  | 0 => Nat.le_refl _
  | k + 1 => by
    have ih := rowP_len x y i k
    simp only [rowP]
    split
    · split
      · simp; omega
      · omega
    · omega
theorem allP_len (x y : List Int) : ∀ i, (allP x y i).length ≤ i * y.length
  | 0 => by simp [allP]
  | i + 1 => by
    have ih := allP_len x y i
    have h := rowP_len x y i y.length
    rw [allP, List.length_append, Nat.add_mul]; omega
def sum3 : List IntA3 → Int
  | [] => 0
  | p :: r => cnt3 p + sum3 r
theorem sum3_app (l m : List IntA3) : sum3 (l ++ m) = sum3 l + sum3 m := by
  induction l with
  | nil => simp [sum3]
  | cons p r ih => rw [List.cons_append, sum3, sum3, ih]; omega
/-- A part within its bounds. -/
def okP (p : IntA3) : Prop := (0 ≤ p.a ∧ p.a ≤ 3) ∧ (0 ≤ p.b ∧ p.b ≤ 3) ∧ (0 ≤ p.c ∧ p.c ≤ 81)
theorem cnt3_nn {p : IntA3} (h : okP p) : 0 ≤ cnt3 p := Int.mul_nonneg h.2.2.1 (by have := p10_pos (p.a + p.b).toNat; omega)
theorem sum3_nn : ∀ {l : List IntA3}, (∀ p ∈ l, okP p) → 0 ≤ sum3 l
  | [], _ => Int.le_refl _
  | p :: r, h => by
    have h1 := cnt3_nn (h p (by simp))
    have h2 := sum3_nn (l := r) (fun q hq => h q (by simp [hq]))
    rw [sum3]; omega
theorem digs_at {l : List Int} (h : ∀ d ∈ l, 0 ≤ d ∧ d ≤ 9) {k : Nat} {d : Int} (hd : l[k]? = some d) : 0 ≤ d ∧ d ≤ 9 := h d (List.mem_iff_getElem?.2 ⟨k, hd⟩)
theorem mul_dig {d e : Int} (hd : 0 ≤ d ∧ d ≤ 9) (he : 0 ≤ e ∧ e ≤ 9) : 0 ≤ d * e ∧ d * e ≤ 81 :=
  ⟨Int.mul_nonneg hd.1 he.1, by have := Int.mul_le_mul hd.2 he.2 (by omega) (by omega); omega⟩
theorem rowP_ok {x y : List Int} (hx : ∀ d ∈ x, 0 ≤ d ∧ d ≤ 9) (hy : ∀ d ∈ y, 0 ≤ d ∧ d ≤ 9) (lx : x.length ≤ 4) (ly : y.length ≤ 4) {i : Nat} (hi : i < x.length) : ∀ k, k ≤ y.length → ∀ p ∈ rowP x y i k, okP p
  | 0, _, p, hp => by cases hp
  | k + 1, hk, p, hp => by
    have hxi := getLt hi
    have hyk := getLt (show k < y.length by omega)
    have ih := rowP_ok hx hy lx ly hi k (by omega)
    by_cases hde : 0 < x[i] * y[k]
    · rw [rowP_yes hxi hyk hde] at hp
      rcases List.mem_append.1 hp with hp | hp
      · exact ih p hp
      · obtain rfl := List.mem_singleton.1 hp
        have := mul_dig (digs_at hx hxi) (digs_at hy hyk)
        exact ⟨by dsimp only; omega, by dsimp only; omega, this⟩
    · rw [rowP_no hxi hyk hde] at hp; exact ih p hp
theorem allP_ok {x y : List Int} (hx : ∀ d ∈ x, 0 ≤ d ∧ d ≤ 9) (hy : ∀ d ∈ y, 0 ≤ d ∧ d ≤ 9) (lx : x.length ≤ 4) (ly : y.length ≤ 4) : ∀ i, i ≤ x.length → ∀ p ∈ allP x y i, okP p
  | 0, _, p, hp => by cases hp
  | i + 1, hi, p, hp => by
    rw [allP] at hp
    rcases List.mem_append.1 hp with hp | hp
    · exact allP_ok hx hy lx ly i (by omega) p hp
    · exact rowP_ok hx hy lx ly (by omega) _ (Nat.le_refl _) p hp
theorem row_sum {x y : List Int} (hx : ∀ d ∈ x, 0 ≤ d ∧ d ≤ 9) (hy : ∀ d ∈ y, 0 ≤ d ∧ d ≤ 9) {i : Nat} {d : Int} (hd : x[i]? = some d) : ∀ k, k ≤ y.length → sum3 (rowP x y i k) = d * p10 (x.length - 1 - i) * (valF (y.take k) * p10 (y.length - k))
  | 0, _ => by simp [rowP, sum3, valF]
  | k + 1, hk => by
    have ih := row_sum hx hy hd k (by omega)
    have hyk := getLt (show k < y.length by omega)
    have hi := (List.getElem?_eq_some_iff.1 hd).1
    have hP : p10 (y.length - k) = 10 * p10 (y.length - (k + 1)) := by rw [← p10_succ, show y.length - (k + 1) + 1 = y.length - k from by omega]
    have hc := mul_dig (digs_at hx hd) (digs_at hy hyk)
    have hv : valF (y.take (k + 1)) = 10 * valF (y.take k) + y[k] := by rw [take_snoc hyk, valF_snoc]
    have hsplit : d * p10 (x.length - 1 - i) * (valF (y.take (k + 1)) * p10 (y.length - (k + 1))) = sum3 (rowP x y i k) + d * y[k] * (p10 (x.length - 1 - i) * p10 (y.length - (k + 1))) := by
      rw [ih, hv, hP, Int.add_mul, Int.mul_add, Int.mul_assoc 10, Int.mul_comm 10 (valF _ * _), Int.mul_assoc (valF (y.take k)), Int.mul_comm (p10 (y.length - (k + 1))) 10]
      congr 1
      rw [Int.mul_assoc, Int.mul_assoc, ← Int.mul_assoc (p10 (x.length - 1 - i)), Int.mul_comm (p10 (x.length - 1 - i)) (y[k]), Int.mul_assoc]
    by_cases hde : 0 < d * y[k]
    · rw [rowP_yes hd hyk hde, sum3_app, hsplit]
      simp only [sum3, cnt3, Int.add_zero]
      rw [← p10_add, show ((x.length : Int) - 1 - i + ((y.length : Int) - 1 - k)).toNat = x.length - 1 - i + (y.length - (k + 1)) from by omega]
    · rw [rowP_no hd hyk hde, hsplit, show d * y[k] = 0 from by omega, Int.zero_mul, Int.add_zero]
theorem all_sum {x y : List Int} (hx : ∀ d ∈ x, 0 ≤ d ∧ d ≤ 9) (hy : ∀ d ∈ y, 0 ≤ d ∧ d ≤ 9) : ∀ i, i ≤ x.length → sum3 (allP x y i) = valF (x.take i) * p10 (x.length - i) * valF y
  | 0, _ => by simp [allP, sum3, valF]
  | i + 1, hi => by
    have ih := all_sum hx hy i (by omega)
    have hxi := getLt (show i < x.length by omega)
    have hP : p10 (x.length - i) = 10 * p10 (x.length - (i + 1)) := by rw [← p10_succ, show x.length - (i + 1) + 1 = x.length - i from by omega]
    have hr := row_sum hx hy hxi y.length (Nat.le_refl _)
    rw [List.take_length, Nat.sub_self, show p10 0 = 1 from rfl, Int.mul_one, show x.length - 1 - i = x.length - (i + 1) from by omega] at hr
    have hv : valF (x.take (i + 1)) = 10 * valF (x.take i) + x[i] := by rw [take_snoc hxi, valF_snoc]
    rw [allP, sum3_app, ih, hr, hv, hP, Int.add_mul, Int.add_mul]
    congr 2
    rw [Int.mul_comm 10 (valF _), Int.mul_assoc]
def parts (a b : Int) : List IntA3 := allP (dgs 4 a) (dgs 4 b) (dgs 4 a).length
theorem parts_len (a b : Int) : (parts a b).length ≤ 16 := by
  have h1 := allP_len (dgs 4 a) (dgs 4 b) (dgs 4 a).length
  have h2 := Nat.mul_le_mul (dgs_len 4 a) (dgs_len 4 b)
  unfold parts; omega
theorem parts_ok (a b : Int) : ∀ p ∈ parts a b, okP p := allP_ok (dgs_bd 4 a) (dgs_bd 4 b) (dgs_len 4 a) (dgs_len 4 b) _ (Nat.le_refl _)
theorem parts_sum {a b : Int} (ha : 0 ≤ a ∧ a ≤ 9999) (hb : 0 ≤ b ∧ b ≤ 9999) : sum3 (parts a b) = a * b := by
  have h := all_sum (dgs_bd 4 a) (dgs_bd 4 b) (dgs 4 a).length (Nat.le_refl _)
  have hp : p10 4 = 10000 := rfl
  rw [List.take_length, Nat.sub_self, show p10 0 = 1 from rfl, Int.mul_one, dgs_val 4 a ha.1 (by omega), dgs_val 4 b hb.1 (by omega)] at h
  exact h
theorem take_sum {l : List IntA3} (h : ∀ p ∈ l, okP p) (k : Nat) : 0 ≤ sum3 (l.take k) ∧ sum3 (l.take k) ≤ sum3 l := by
  have h1 := sum3_nn (l := l.take k) (fun p hp => h p (List.mem_of_mem_take hp))
  have h2 := sum3_nn (l := l.drop k) (fun p hp => h p (List.mem_of_mem_drop hp))
  have h3 := sum3_app (l.take k) (l.drop k)
  rw [List.take_append_drop] at h3
  omega
/-- One part after the other is added. -/
def timS (ps : List IntA3) : Nat → List IntA2 × Nat
  | 0 => (showL 0 8, 0)
  | k + 1 => match ps[k]? with
    | some p => ((addN (timS ps k).1 (cnt3 p) (timS ps k).1.length).1, (timS ps k).2 + (addN (timS ps k).1 (cnt3 p) (timS ps k).1.length).2)
    | none => timS ps k
theorem timS_succ {ps : List IntA3} {k : Nat} {p : IntA3} (h : ps[k]? = some p) : timS ps (k + 1) = ((addN (timS ps k).1 (cnt3 p) (timS ps k).1.length).1, (timS ps k).2 + (addN (timS ps k).1 (cnt3 p) (timS ps k).1.length).2) := by simp only [timS, h]
theorem zero8 : goodB 1 4 (showL 0 8) = true ∧ numF (showL 0 8) = 0 := by decide
theorem p10_8 : p10 8 = 100000000 := rfl
theorem timS_good {a b : Int} (ha : 0 ≤ a ∧ a ≤ 9999) (hb : 0 ≤ b ∧ b ≤ 9999) : ∀ k, k ≤ (parts a b).length → goodB 1 4 (timS (parts a b) k).1 = true ∧ (timS (parts a b) k).1.length = 8 ∧ numF (timS (parts a b) k).1 = sum3 ((parts a b).take k) ∧ (timS (parts a b) k).2 ≤ 100 * k
  | 0, _ => ⟨zero8.1, showL_len 0 8, by rw [timS, zero8.2]; rfl, Nat.le_refl _⟩
  | k + 1, hk => by
    obtain ⟨h1, h2, h3, h4⟩ := timS_good ha hb k (by omega)
    have hp := getLt (show k < (parts a b).length by omega)
    have hok := parts_ok a b _ (List.getElem_mem (show k < (parts a b).length by omega))
    have hc := cnt3_nn hok
    have hs : sum3 ((parts a b).take (k + 1)) = sum3 ((parts a b).take k) + cnt3 (parts a b)[k] := by rw [take_snoc hp, sum3_app]; simp [sum3]
    have ht := take_sum (parts_ok a b) (k + 1)
    rw [parts_sum ha hb] at ht
    have hab : a * b ≤ 9999 * 9999 := Int.mul_le_mul ha.2 hb.2 hb.1 (by decide)
    obtain ⟨q1, q2, q3, q4⟩ := addN_good h1 hc (by rw [h2, h3, p10_8]; omega) _ (Nat.le_refl _)
    rw [timS_succ hp]
    refine ⟨q1, by rw [q2, h2], ?_, ?_⟩
    · rw [q3, h3, hs, Nat.sub_self, show p10 0 = 1 from rfl, Int.ediv_one, Int.mul_one]
    · dsimp only; rw [h2] at q4; rw [h2]; omega
theorem timS_can {a b : Int} (ha : 0 ≤ a ∧ a ≤ 9999) (hb : 0 ≤ b ∧ b ≤ 9999) {k : Nat} {p : IntA3} (hp : (parts a b)[k]? = some p) : addNB 1 4 (timS (parts a b) k).1 (cnt3 p) = true ∧ 0 ≤ cnt3 p ∧ cnt3 p ≤ 99999999 := by
  have hk := (List.getElem?_eq_some_iff.1 hp).1
  obtain ⟨h1, h2, h3, h4⟩ := timS_good ha hb k (by omega)
  have hok := parts_ok a b p (List.mem_iff_getElem?.2 ⟨k, hp⟩)
  have hc := cnt3_nn hok
  have hs : sum3 ((parts a b).take (k + 1)) = sum3 ((parts a b).take k) + cnt3 p := by rw [take_snoc hp, sum3_app]; simp [sum3]
  have ht := take_sum (parts_ok a b) (k + 1)
  have ht0 := take_sum (parts_ok a b) k
  rw [parts_sum ha hb] at ht
  have hab : a * b ≤ 9999 * 9999 := Int.mul_le_mul ha.2 hb.2 hb.1 (by decide)
  refine ⟨?_, hc, by omega⟩
  unfold addNB inB
  rw [h1, h2, h3, p10_8]
  simp only [Bool.true_and, Bool.and_eq_true, decide_eq_true_eq]
  omega
theorem cnt3_bd {p : IntA3} (h : okP p) : 0 ≤ cnt3 p ∧ cnt3 p ≤ 81000000 := by
  refine ⟨cnt3_nn h, ?_⟩
  have h6 : p10 6 = 1000000 := rfl
  have h1 := p10_mono (show (p.a + p.b).toNat ≤ 6 by have := h.1; have := h.2.1; omega)
  have h2 := p10_pos (p.a + p.b).toNat
  have := Int.mul_le_mul h.2.2.2 (show p10 (p.a + p.b).toNat ≤ 1000000 by omega) (by omega) (by omega)
  unfold cnt3; omega
def timB (a b : Int) : Bool := inB a 0 9999 && inB b 0 9999
theorem timB_ok {a b : Int} (h : timB a b = true) : (0 ≤ a ∧ a ≤ 9999) ∧ (0 ≤ b ∧ b ≤ 9999) := by
  unfold timB inB at h
  simp only [Bool.and_eq_true, decide_eq_true_eq] at h
  exact h
def timR (a b : Int) : Int := if timB a b = true then ((timS (parts a b) (parts a b).length).2 : Nat) else 0
theorem timR_yes {a b : Int} (h : timB a b = true) : timR a b = ((timS (parts a b) (parts a b).length).2 : Nat) := by rw [timR, if_pos h]
theorem timR_no {a b : Int} (h : timB a b = false) : timR a b = 0 := by rw [timR, if_neg (by rw [h]; simp)]
theorem ff1480 : frameForR 1 4 8 0 = ⟨1, 4, showL 0 8, true⟩ := rfl
end Go.Proofs.Ytnnhkpecgchgiaa
