/- Frames and moves: the plain functions. By an AI agent. -/
import Derived.Test.YtjhlhkglpecdbaaKn
set_option linter.unusedVariables false
namespace Go.Proofs.Ytjhlhkglpecdbaa
open Go Go.RowKit K

theorem flatSetP {α : Type} {enc : α → List Value} {r : Nat} (he : ∀ x, (enc x).length = r) {xs : List α} {j : Nat} (x : α) (pad : List Value) (hj : j < xs.length) :
    (flat enc xs ++ pad).take (0 + j * r) ++ enc x ++ (flat enc xs ++ pad).drop (0 + j * r + r) = flat enc (xs.set j x) ++ pad := by
  have hl : (flat enc (xs.take j)).length = j * r := by rw [flat_length he, List.length_take, Nat.min_eq_left (Nat.le_of_lt hj)]
  have e1 : flat enc xs = flat enc (xs.take j) ++ (enc xs[j] ++ flat enc (xs.drop (j + 1))) := by
    conv => lhs; rw [show xs = xs.take j ++ xs[j] :: xs.drop (j + 1) from by simp]
    rw [flat_append]; rfl
  have e2 : flat enc (xs.set j x) = flat enc (xs.take j) ++ (enc x ++ flat enc (xs.drop (j + 1))) := by
    rw [List.set_eq_take_append_cons_drop, if_pos hj, flat_append]; rfl
  rw [e1, e2, Nat.zero_add]
  have h1 : (flat enc (xs.take j) ++ (enc xs[j] ++ flat enc (xs.drop (j + 1))) ++ pad).take (j * r) = flat enc (xs.take j) := by
    rw [List.append_assoc]; exact List.take_left' hl
  have h2 : (flat enc (xs.take j) ++ (enc xs[j] ++ flat enc (xs.drop (j + 1))) ++ pad).drop (j * r + r) = flat enc (xs.drop (j + 1)) ++ pad := by
    rw [← List.append_assoc (flat enc (xs.take j)), List.append_assoc]
    exact List.drop_left' (by rw [List.length_append, hl, he])
  rw [h1, h2]; simp only [List.append_assoc]

theorem Sl.same {α : Type} {enc : α → List Value} {k : Nat} (he : ∀ x, (enc x).length = k) {bo : Option Nat} {cap : Nat} {xs ys : List α} {pad : List Value} (h : Sl k bo xs.length cap (flat enc xs) pad) (hl : ys.length = xs.length) : Sl k bo xs.length cap (flat enc ys) pad :=
  ⟨by rw [flat_length he, hl], by have := h.lp; rw [List.length_append, flat_length he] at this ⊢; rw [hl]; exact this, h.le, h.max, h.nil⟩
theorem RetSl.ownL {T k len len0 cap : Nat} {V : Value → Value} {w w' : World} {μ : List Ent} (i : Nat) {bo : Option Nat} {L pad : List Value} (hp : Hp ⟨w, []⟩ μ w') (hm : μ[i]? = some (bo, T, L ++ pad)) (hs : Sl k bo len0 cap L pad) (hl : len0 = len) : RetSl T k L len V w (.returned (V (sv bo len0 cap))) w' :=
  hl ▸ RetSl.own i hp hm hs

/-! ### Powers of ten -/
def p10 : Nat → Int
  | 0 => 1
  | k + 1 => 10 * p10 k
theorem p10_succ (k : Nat) : p10 (k + 1) = 10 * p10 k := rfl
theorem p10_pos : ∀ k, 1 ≤ p10 k
  | 0 => by decide
  | k + 1 => by have := p10_pos k; rw [p10_succ]; omega
theorem p10_mono {k n : Nat} (h : k ≤ n) : p10 k ≤ p10 n := by
  induction n with
  | zero =>
    have hk0 : k = 0 := by omega
    subst hk0; exact Int.le_refl _
  | succ n ih =>
    by_cases hk : k = n + 1
    · subst hk; exact Int.le_refl _
    · have := ih (by omega); have := p10_pos n; rw [p10_succ]; omega
theorem p10_bd {k : Nat} (h : k ≤ 8) : 1 ≤ p10 k ∧ p10 k ≤ 100000000 := ⟨p10_pos k, p10_mono h⟩

/-! ### Rods -/
structure IntA2 where
  a : Int
  b : Int
def encIntA2 (x : IntA2) : List Value := [.int .i64 x.a, .int .i64 x.b]
theorem encIntA2_len (x : IntA2) : (encIntA2 x).length = 2 := rfl
theorem encIntA2_one (x : IntA2) : ∀ u ∈ encIntA2 x, u.oneCell' = true := list_one rfl
def GIntA2 (x : IntA2) : Prop := In64 x.a ∧ In64 x.b

theorem opArr2 {H : Type} {enc : TypeId × Value → H} {P : Program} {w : World} {base : Nat} {spare : Nat → Bool} {held : Bool} {t e fuel : Nat} {cs : List Value} {x : DataW H × List MemPlace} (ht : P.underlying t = some (.array 2 e)) (hi : P.underlying e = some (.int .i64)) (hz : P.cellsOf t = 2) (he : P.cellsOf e = 1)
    (h : DataW.trod enc P w base spare held fuel t cs = some x) : ∃ y : IntA2, GIntA2 y ∧ cs = encIntA2 y := by
  obtain ⟨hl, hf⟩ := opArr ht h
  rw [he] at hf
  obtain ⟨c0, c1, rfl⟩ := len2 (hl.trans hz)
  obtain ⟨_, _, g0⟩ := hf 0 (by decide)
  obtain ⟨n0, r0, e0⟩ := opInt hi g0
  obtain rfl : c0 = .int .i64 n0 := by simpa using e0
  obtain ⟨_, _, g1⟩ := hf 1 (by decide)
  obtain ⟨n1, r1, e1⟩ := opInt hi g1
  obtain rfl : c1 = .int .i64 n1 := by simpa using e1
  exact ⟨⟨n0, n1⟩, ⟨r0, r1⟩, rfl⟩

def rodB (u l : Int) (r : IntA2) : Bool := inB r.a 0 u && inB r.b 0 l
def frameB (u l : Int) (xs : List IntA2) : Bool := inB u 1 2 && inB l 4 5 && inB xs.length 1 8 && xs.all (rodB u l)
theorem frameB_rod {u l : Int} {xs : List IntA2} {k : Nat} {r : IntA2} (hx : xs[k]? = some r) (h : rodB u l r = false) : frameB u l xs = false := by
  unfold frameB
  rw [show xs.all (rodB u l) = false from by
    rw [List.all_eq_false]; exact ⟨r, List.mem_iff_getElem?.2 ⟨k, hx⟩, by rw [h]; simp⟩, Bool.and_false]
theorem frameB_end {u l : Int} {xs : List IntA2} (h : ∀ k r, k < xs.length → xs[k]? = some r → rodB u l r = true) : frameB u l xs = (inB u 1 2 && inB l 4 5 && inB xs.length 1 8) := by
  unfold frameB
  rw [show xs.all (rodB u l) = true from List.all_eq_true.2 fun r hr => by
    obtain ⟨k, hk⟩ := List.mem_iff_getElem?.1 hr
    exact h k r (List.getElem?_eq_some_iff.1 hk).1 hk, Bool.and_true]
theorem frameB_head {u l : Int} {xs : List IntA2} (h : (inB u 1 2 && inB l 4 5 && inB xs.length 1 8) = false) : frameB u l xs = false := by
  unfold frameB; rw [h, Bool.false_and]
theorem frameB_ul {u l : Int} {xs : List IntA2} (h : frameB u l xs = true) : (1 ≤ u ∧ u ≤ 2) ∧ (4 ≤ l ∧ l ≤ 5) ∧ (1 ≤ xs.length ∧ xs.length ≤ 8) := by
  unfold frameB inB at h
  simp only [Bool.and_eq_true, decide_eq_true_eq] at h
  omega
theorem frameB_at {u l : Int} {xs : List IntA2} (h : frameB u l xs = true) {k : Nat} {r : IntA2} (hx : xs[k]? = some r) : (0 ≤ r.a ∧ r.a ≤ 2) ∧ (0 ≤ r.b ∧ r.b ≤ 5) := by
  have hul := frameB_ul h
  unfold frameB at h
  rw [Bool.and_eq_true] at h
  have h2 := List.all_eq_true.1 h.2 r (List.mem_iff_getElem?.2 ⟨k, hx⟩)
  unfold rodB inB at h2
  simp only [Bool.and_eq_true, decide_eq_true_eq] at h2
  omega
theorem frameB_zero {u l : Int} {k : Nat} (h : 1 ≤ k ∧ k ≤ 8) : frameB u l (List.replicate k ⟨0, 0⟩) = (inB u 1 2 && inB l 4 5) := by
  by_cases hul : (inB u 1 2 && inB l 4 5) = true
  · have hul' := hul
    unfold inB at hul'
    simp only [Bool.and_eq_true, decide_eq_true_eq] at hul'
    rw [frameB_end (fun j r hj hr => by
      rw [List.getElem?_replicate] at hr
      split at hr
      · obtain rfl := Option.some.inj hr
        simp only [rodB, inB, Bool.and_eq_true, decide_eq_true_eq]; omega
      · cases hr), hul, Bool.true_and, List.length_replicate]
    simp only [inB, Bool.and_eq_true, decide_eq_true_eq]; omega
  · have hf : (inB u 1 2 && inB l 4 5) = false := by simpa using hul
    rw [frameB_head (by rw [hf, Bool.false_and]), hf]

def rv (r : IntA2) : Int := 5 * r.a + r.b
def numF (xs : List IntA2) : Int := xs.foldl (fun n r => 10 * n + rv r) 0
theorem numF_snoc {xs : List IntA2} {k : Nat} {r : IntA2} (h : xs[k]? = some r) : numF (xs.take (k + 1)) = 10 * numF (xs.take k) + (5 * r.a + r.b) := by
  rw [take_snoc h]; simp [numF, rv, List.foldl_append]
theorem numF_bd {u l : Int} {xs : List IntA2} (h : frameB u l xs = true) : ∀ k, k ≤ xs.length → 0 ≤ numF (xs.take k) ∧ 9 * numF (xs.take k) ≤ 15 * (p10 k - 1)
  | 0, _ => by simp [numF, p10]
  | k + 1, hk => by
    have ih := numF_bd h k (by omega)
    have hx := getLt (show k < xs.length by omega)
    have hb := frameB_at h hx
    rw [numF_snoc hx, p10_succ]
    omega
theorem numF_le {u l : Int} {xs : List IntA2} (h : frameB u l xs = true) {k : Nat} (hk : k ≤ xs.length) : 0 ≤ numF (xs.take k) ∧ numF (xs.take k) ≤ 170000000 := by
  have h1 := numF_bd h k hk
  have h2 := (frameB_ul h).2.2
  have h3 := p10_bd (k := k) (by omega)
  omega
theorem numF_all {u l : Int} {xs : List IntA2} (h : frameB u l xs = true) : 0 ≤ numF xs ∧ numF xs ≤ 170000000 := by
  have := numF_le h (Nat.le_refl _); rwa [List.take_length] at this

def stdB (xs : List IntA2) : Bool := xs.all fun r => decide (r.a ≤ 1) && decide (r.b ≤ 4)
theorem stdB_no {xs : List IntA2} {k : Nat} {r : IntA2} (hx : xs[k]? = some r) (h : 1 < r.a ∨ 4 < r.b) : stdB xs = false := by
  unfold stdB
  rw [List.all_eq_false]
  exact ⟨r, List.mem_iff_getElem?.2 ⟨k, hx⟩, by simp; omega⟩
theorem stdB_end {xs : List IntA2} (h : ∀ k r, k < xs.length → xs[k]? = some r → r.a ≤ 1 ∧ r.b ≤ 4) : stdB xs = true :=
  List.all_eq_true.2 fun r hr => by
    obtain ⟨k, hk⟩ := List.mem_iff_getElem?.1 hr
    have := h k r (List.getElem?_eq_some_iff.1 hk).1 hk
    simp; exact this
theorem stdB_at {xs : List IntA2} (h : stdB xs = true) {k : Nat} {r : IntA2} (hx : xs[k]? = some r) : r.a ≤ 1 ∧ r.b ≤ 4 := by
  have := List.all_eq_true.1 h r (List.mem_iff_getElem?.2 ⟨k, hx⟩)
  simpa using this
theorem numF_std {u l : Int} {xs : List IntA2} (h : frameB u l xs = true) (hs : stdB xs = true) : ∀ k, k ≤ xs.length → numF (xs.take k) ≤ p10 k - 1
  | 0, _ => by simp [numF, p10]
  | k + 1, hk => by
    have ih := numF_std h hs k (by omega)
    have hx := getLt (show k < xs.length by omega)
    have hb := stdB_at hs hx
    rw [numF_snoc hx, p10_succ]
    omega
/-- A valid frame that is standard. -/
def goodB (u l : Int) (xs : List IntA2) : Bool := stdB xs && frameB u l xs
theorem goodB_f {u l : Int} {xs : List IntA2} (h : goodB u l xs = true) : frameB u l xs = true := by unfold goodB at h; simp at h; exact h.2
theorem goodB_s {u l : Int} {xs : List IntA2} (h : goodB u l xs = true) : stdB xs = true := by unfold goodB at h; simp at h; exact h.1
theorem goodB_num {u l : Int} {xs : List IntA2} (h : goodB u l xs = true) : 0 ≤ numF xs ∧ numF xs ≤ p10 xs.length - 1 ∧ p10 xs.length ≤ 100000000 := by
  have h1 := numF_std (goodB_f h) (goodB_s h) _ (Nat.le_refl _)
  have h2 := numF_all (goodB_f h)
  have h3 := (frameB_ul (goodB_f h)).2.2
  have h4 := p10_bd (k := xs.length) (by omega)
  rw [List.take_length] at h1
  omega

/-! ### A frame that shows a number -/
def rodFor (d : Int) : IntA2 := ⟨d / 5, d % 5⟩
def showL (n : Int) (k : Nat) : List IntA2 := (List.range k).map fun i => rodFor (n / p10 (k - 1 - i) % 10)
theorem showL_len (n : Int) (k : Nat) : (showL n k).length = k := by simp [showL]
theorem showL_get {n : Int} {k i : Nat} (h : i < k) : (showL n k)[i]? = some (rodFor (n / p10 (k - 1 - i) % 10)) := by simp [showL, h]
theorem div_p10 (n : Int) (k : Nat) : n / p10 k / 10 = n / p10 (k + 1) := by
  rw [Int.ediv_ediv_of_nonneg (by have := p10_pos k; omega), p10_succ, Int.mul_comm]
theorem div_p10_bd {n : Int} (h : 0 ≤ n) (k : Nat) : 0 ≤ n / p10 k ∧ n / p10 k ≤ n := by
  have := p10_pos k
  exact ⟨Int.ediv_nonneg h (by omega), Int.ediv_le_self _ h⟩
/-- The first p of one list, then those of the other. -/
def downL {α : Type} (xs ys : List α) (p : Nat) : List α := xs.take p ++ ys.drop p
theorem downL_len {α : Type} {xs ys : List α} (h : ys.length = xs.length) (p : Nat) : (downL xs ys p).length = xs.length := by
  simp [downL]; omega
theorem downL_all {α : Type} {xs ys : List α} (h : ys.length = xs.length) : downL xs ys xs.length = xs := by
  simp [downL, h]
theorem downL_zero {α : Type} (xs ys : List α) : downL xs ys 0 = ys := by simp [downL]
theorem downL_set {α : Type} {xs ys : List α} (h : ys.length = xs.length) {p : Nat} {y : α} (hp : p < xs.length) (hy : ys[p]? = some y) : (downL xs ys (p + 1)).set p y = downL xs ys p := by
  apply List.ext_getElem?
  intro i
  have hl1 := downL_len h (p + 1)
  simp only [downL] at *
  rw [List.getElem?_set]
  by_cases hi : p = i
  · subst hi
    rw [if_pos rfl, if_pos (by omega), List.getElem?_append_right (by simp; omega)]
    simp only [List.length_take, List.getElem?_drop]
    rw [show p + (p - min p xs.length) = p from by omega]; exact hy.symm
  · rw [if_neg hi]
    rcases Nat.lt_or_ge i p with hlt | hge
    · rw [List.getElem?_append_left (by simp; omega), List.getElem?_append_left (by simp; omega), List.getElem?_take_of_lt (by omega), List.getElem?_take_of_lt hlt]
    · rw [List.getElem?_append_right (by simp; omega), List.getElem?_append_right (by simp; omega)]
      simp only [List.length_take, List.getElem?_drop]
      congr 1; omega

theorem show_step {xs : List IntA2} {n : Int} {q : Nat} (pad : List Value) (hq : q < xs.length) :
    (flat encIntA2 (downL xs (showL n xs.length) (q + 1)) ++ pad).take (0 + q * 2) ++ encIntA2 (rodFor (n / p10 (xs.length - (q + 1)) % 10)) ++ (flat encIntA2 (downL xs (showL n xs.length) (q + 1)) ++ pad).drop (0 + q * 2 + 2) = flat encIntA2 (downL xs (showL n xs.length) q) ++ pad := by
  have hl := downL_len (showL_len n xs.length) (q + 1)
  rw [flatSetP encIntA2_len (rodFor (n / p10 (xs.length - (q + 1)) % 10)) pad (by omega)]
  rw [downL_set (showL_len n xs.length) hq (by rw [showL_get hq, show xs.length - 1 - q = xs.length - (q + 1) from by omega])]
theorem Sl.some {k : Nat} {bo : Option Nat} {len cap : Nat} {xs pad : List Value} (h : Sl k bo len cap xs pad) (hl : 0 < len) : ∃ b, bo = .some b := by
  cases bo with
  | none => have := (h.nil rfl).1; omega
  | some b => exact ⟨b, rfl⟩

theorem rep_rods (R : Nat) : (List.replicate R [Value.int .i64 0, Value.int .i64 0]).flatten = flat encIntA2 (List.replicate R ⟨0, 0⟩) := by
  induction R with
  | zero => rfl
  | succ n ih => rw [List.replicate_succ, List.replicate_succ, List.flatten_cons, ih]; rfl
theorem rep_G (R : Nat) : ∀ y ∈ List.replicate R (⟨0, 0⟩ : IntA2), GIntA2 y := fun y hy => by
  obtain rfl := List.eq_of_mem_replicate hy
  exact ⟨⟨by decide, by decide⟩, ⟨by decide, by decide⟩⟩
/-- A new block of rods, read as a slice. -/
theorem Hp.rods {w0 : Base} {w : World} {μ : List Ent} (h : Hp w0 μ w) (i : Nat) {b : Nat} {T : TypeId} {R : Nat} (hm : μ[i]? = some (some b, T, (List.replicate R [Value.int .i64 0, Value.int .i64 0]).flatten)) (hR : R ≤ 8) :
    SR w 2 (.slice (some ⟨b, 0, none⟩) R R) (List.replicate R (⟨0, 0⟩ : IntA2)).length (flat encIntA2 (List.replicate R ⟨0, 0⟩)) :=
  SR.cast (h.sr1 i hm (by rw [flatten_rep_len]; rfl) (by unfold maxLen; omega)) (by simp) (rep_rods R)

structure FR where
  u : Int
  l : Int
  xs : List IntA2
  ok : Bool
def okR (c : Bool) (u l : Int) (xs : List IntA2) : FR := if c = true then ⟨u, l, xs, true⟩ else ⟨0, 0, [], false⟩
theorem okR_yes {c : Bool} {u l : Int} {xs : List IntA2} (h : c = true) : okR c u l xs = ⟨u, l, xs, true⟩ := by rw [okR, if_pos h]
theorem okR_no {c : Bool} {u l : Int} {xs : List IntA2} (h : c = false) : okR c u l xs = ⟨0, 0, [], false⟩ := by rw [okR, if_neg (by rw [h]; simp)]
theorem okR_len (c : Bool) (u l : Int) (xs : List IntA2) : (okR c u l xs).xs.length ≤ xs.length := by unfold okR; split <;> simp

def frameForR (u l rods n : Int) : FR := okR (inB rods 1 8 && inB u 1 2 && inB l 4 5 && inB n 0 (p10 rods.toNat - 1)) u l (showL n rods.toNat)
theorem frameForR_len (u l rods n : Int) : (frameForR u l rods n).xs.length ≤ 8 := by
  unfold frameForR okR
  split
  · rename_i h
    simp only [inB, Bool.and_eq_true, decide_eq_true_eq] at h
    simp only [showL_len]; omega
  · simp
def setRodR (u l : Int) (xs : List IntA2) (rod d : Int) : FR := okR (frameB u l xs && inB rod 0 ((xs.length : Int) - 1) && inB d 0 9) u l (xs.set rod.toNat (rodFor d))
def clearedR (u l : Int) (xs : List IntA2) : FR := okR (frameB u l xs) u l (showL 0 xs.length)
def madeR (u l : Int) (xs : List IntA2) : FR := okR (frameB u l xs && decide (numF xs < p10 xs.length)) u l (showL (numF xs) xs.length)
def belowR (u l : Int) (xs : List IntA2) (s : Int) : FR := okR (goodB u l xs && decide (1 ≤ s)) u l (showL (numF xs / s * s) xs.length)
def quotR (u l : Int) (xs : List IntA2) (s : Int) : FR := okR (goodB u l xs && inB s 1 9999) u l (showL (numF xs / s) xs.length)
def quotC (u l : Int) (xs : List IntA2) (s : Int) : Bool := goodB u l xs && inB s 1 9999
def quotM (u l : Int) (xs : List IntA2) (s : Int) : Int := if quotC u l xs s = true then numF xs % s else 0
theorem quotM_yes {u l : Int} {xs : List IntA2} {s : Int} (h : quotC u l xs s = true) : quotM u l xs s = numF xs % s ∧ quotR u l xs s = ⟨u, l, showL (numF xs / s) xs.length, true⟩ := by
  refine ⟨by rw [quotM, if_pos h], ?_⟩
  unfold quotR; exact okR_yes h
theorem quotM_no {u l : Int} {xs : List IntA2} {s : Int} (h : quotC u l xs s = false) : quotM u l xs s = 0 ∧ quotR u l xs s = ⟨0, 0, [], false⟩ := by
  refine ⟨by rw [quotM, if_neg (by rw [h]; simp)], ?_⟩
  unfold quotR; exact okR_no h
theorem okR_bd {c : Bool} {u l : Int} {xs ys : List IntA2} (h : c = true → ys.length = xs.length) : (okR c u l ys).xs.length ≤ xs.length := by
  unfold okR
  split
  · rename_i hc; simp [h hc]
  · simp

/-! ### Moves -/
structure BeadMove where
  rod : Int
  part : Int
  n : Int
def encBeadMove (x : BeadMove) : List Value := [.int .i64 x.rod, .int .i64 x.part, .int .i64 x.n]
theorem encBeadMove_len (x : BeadMove) : (encBeadMove x).length = 3 := rfl
theorem encBeadMove_one (x : BeadMove) : ∀ u ∈ encBeadMove x, u.oneCell' = true := list_one rfl
def GBeadMove (x : BeadMove) : Prop := In64 x.rod ∧ In64 x.part ∧ In64 x.n
def moveB (m : BeadMove) : Bool := inB m.rod 0 7 && inB m.part 0 1 && inB m.n (-5) 5 && (m.n != 0)
theorem moveB_at {m : BeadMove} (h : moveB m = true) : (0 ≤ m.rod ∧ m.rod ≤ 7) ∧ (m.part = 0 ∨ m.part = 1) ∧ (-5 ≤ m.n ∧ m.n ≤ 5) ∧ m.n ≠ 0 := by
  unfold moveB inB at h
  simp only [Bool.and_eq_true, decide_eq_true_eq, bne_iff_ne] at h
  omega
def movesB (n : Nat) (ms : List BeadMove) : Bool := decide (ms.length ≤ n) && ms.all moveB
theorem movesB_no {n : Nat} {ms : List BeadMove} {k : Nat} {m : BeadMove} (hx : ms[k]? = some m) (h : moveB m = false) : movesB n ms = false := by
  unfold movesB
  rw [show ms.all moveB = false from by rw [List.all_eq_false]; exact ⟨m, List.mem_iff_getElem?.2 ⟨k, hx⟩, by rw [h]; simp⟩, Bool.and_false]
theorem movesB_end {n : Nat} {ms : List BeadMove} (h : ∀ k m, k < ms.length → ms[k]? = some m → moveB m = true) : movesB n ms = decide (ms.length ≤ n) := by
  unfold movesB
  rw [show ms.all moveB = true from List.all_eq_true.2 fun m hm => by
    obtain ⟨k, hk⟩ := List.mem_iff_getElem?.1 hm
    exact h k m (List.getElem?_eq_some_iff.1 hk).1 hk, Bool.and_true]
theorem movesB_long {n : Nat} {ms : List BeadMove} (h : n < ms.length) : movesB n ms = false := by
  unfold movesB; rw [show decide (ms.length ≤ n) = false from by simp; omega, Bool.false_and]
theorem movesB_at {n : Nat} {ms : List BeadMove} (h : movesB n ms = true) {k : Nat} {m : BeadMove} (hx : ms[k]? = some m) : moveB m = true := by
  unfold movesB at h
  rw [Bool.and_eq_true] at h
  exact List.all_eq_true.1 h.2 m (List.mem_iff_getElem?.2 ⟨k, hx⟩)
theorem movesB_len {n : Nat} {ms : List BeadMove} (h : movesB n ms = true) : ms.length ≤ n := by
  unfold movesB at h
  rw [Bool.and_eq_true] at h
  simpa using h.1

def turned (r : IntA2) (m : BeadMove) : IntA2 := if m.part = 0 then ⟨r.a + m.n, r.b⟩ else ⟨r.a, r.b + m.n⟩
def moveL (xs : List IntA2) (m : BeadMove) : List IntA2 := match xs[m.rod.toNat]? with | some r => xs.set m.rod.toNat (turned r m) | none => xs
theorem moveL_eq {xs : List IntA2} {m : BeadMove} {r : IntA2} (h : xs[m.rod.toNat]? = some r) : moveL xs m = xs.set m.rod.toNat (turned r m) := by simp only [moveL, h]
theorem moveL_len (xs : List IntA2) (m : BeadMove) : (moveL xs m).length = xs.length := by unfold moveL; split <;> simp
def makeB (u l : Int) (xs : List IntA2) (m : BeadMove) : Bool := decide (m.rod < xs.length) && frameB u l (moveL xs m)
def makeR (u l : Int) (xs : List IntA2) (m : BeadMove) : FR := okR (makeB u l xs m) u l (moveL xs m)
def moveR (u l : Int) (xs : List IntA2) (m : BeadMove) : FR := okR (frameB u l xs && moveB m && makeB u l xs m) u l (moveL xs m)
/-- A cell of a rod written. -/
theorem flatCell {xs : List IntA2} {j p : Nat} {r : IntA2} (hx : xs[j]? = some r) (hp : p < 2) (v : Int) (pad : List Value) :
    (flat encIntA2 xs ++ pad).take (0 + j * 2 + p * 1) ++ [Value.int .i64 v] ++ (flat encIntA2 xs ++ pad).drop (0 + j * 2 + p * 1 + 1) = flat encIntA2 (xs.set j (if p = 0 then ⟨v, r.b⟩ else ⟨r.a, v⟩)) ++ pad := by
  have hj : j < xs.length := (List.getElem?_eq_some_iff.1 hx).1
  have hr : xs[j] = r := (List.getElem?_eq_some_iff.1 hx).2
  have hl : (flat encIntA2 (xs.take j)).length = j * 2 := by rw [flat_length encIntA2_len, List.length_take, Nat.min_eq_left (Nat.le_of_lt hj)]
  have e1 : flat encIntA2 xs = flat encIntA2 (xs.take j) ++ (encIntA2 r ++ flat encIntA2 (xs.drop (j + 1))) := by
    conv => lhs; rw [show xs = xs.take j ++ xs[j] :: xs.drop (j + 1) from by simp]
    rw [flat_append, hr]; rfl
  have e2 : ∀ x, flat encIntA2 (xs.set j x) = flat encIntA2 (xs.take j) ++ (encIntA2 x ++ flat encIntA2 (xs.drop (j + 1))) := fun x => by
    rw [List.set_eq_take_append_cons_drop, if_pos hj, flat_append]; rfl
  rw [e1, e2, Nat.zero_add]
  have h1 : ∀ q, (flat encIntA2 (xs.take j) ++ (encIntA2 r ++ flat encIntA2 (xs.drop (j + 1))) ++ pad).take (j * 2 + q) = flat encIntA2 (xs.take j) ++ (encIntA2 r ++ flat encIntA2 (xs.drop (j + 1)) ++ pad).take q := fun q => by
    rw [List.append_assoc, List.take_append, hl, List.take_of_length_le (by omega), Nat.add_sub_cancel_left]
  have h2 : ∀ q, (flat encIntA2 (xs.take j) ++ (encIntA2 r ++ flat encIntA2 (xs.drop (j + 1))) ++ pad).drop (j * 2 + q) = (encIntA2 r ++ flat encIntA2 (xs.drop (j + 1)) ++ pad).drop q := fun q => by
    rw [List.append_assoc, List.drop_append, hl, List.drop_eq_nil_of_le (by omega), Nat.add_sub_cancel_left, List.nil_append]
  rw [Nat.add_assoc (j * 2), h1, h2]
  rcases (show p = 0 ∨ p = 1 by omega) with rfl | rfl <;> simp [encIntA2]

theorem flatAt {α : Type} {enc : α → List Value} {k : Nat} (hk : ∀ x, (enc x).length = k) {xs : List α} {j f : Nat} {x : α} (hx : xs[j]? = some x) (hf : f < k) (pad : List Value) : (flat enc xs ++ pad)[0 + j * k + f]? = (enc x)[f]? := by
  have h := flat_get hk xs j f x hx hf
  have hlt : j * k + f < (flat enc xs).length := by
    rw [flat_length hk]
    have hj := (List.getElem?_eq_some_iff.1 hx).1
    have := Nat.mul_le_mul_right k (show j + 1 ≤ xs.length from hj)
    rw [Nat.add_mul, Nat.one_mul] at this
    omega
  rw [Nat.zero_add, List.getElem?_append_left hlt]; exact h
theorem flatAt2 {xs : List IntA2} {j : Nat} {r : IntA2} {q : Int} (hx : xs[j]? = some r) (hp : q = 0 ∨ q = 1) (pad : List Value) : (flat encIntA2 xs ++ pad)[0 + j * 2 + q.toNat * 1]? = some (.int .i64 (if q = 0 then r.a else r.b)) := by
  rcases hp with rfl | rfl
  · exact flatAt encIntA2_len hx (show 0 < 2 by decide) pad
  · exact flatAt encIntA2_len hx (show 1 < 2 by decide) pad
theorem moveCell {xs : List IntA2} {m : BeadMove} {r : IntA2} (hx : xs[m.rod.toNat]? = some r) (hp : m.part = 0 ∨ m.part = 1) (pad : List Value) :
    (flat encIntA2 xs ++ pad).take (0 + m.rod.toNat * 2 + m.part.toNat * 1) ++ [Value.int .i64 ((if m.part = 0 then r.a else r.b) + m.n)] ++ (flat encIntA2 xs ++ pad).drop (0 + m.rod.toNat * 2 + m.part.toNat * 1 + 1) = flat encIntA2 (moveL xs m) ++ pad := by
  rw [flatCell hx (show m.part.toNat < 2 by omega), moveL_eq hx]
  rcases hp with h | h
  · simp [turned, h]
  · simp [turned, h]
theorem moveRod0 {xs : List IntA2} {m : BeadMove} {r : IntA2} (hx : xs[m.rod.toNat]? = some r) (hp : m.part = 0) (pad : List Value) :
    (flat encIntA2 xs ++ pad).take (0 + m.rod.toNat * 2) ++ encIntA2 ⟨r.a + m.n, r.b⟩ ++ (flat encIntA2 xs ++ pad).drop (0 + m.rod.toNat * 2 + 2) = flat encIntA2 (moveL xs m) ++ pad := by
  rw [flatSetP encIntA2_len _ pad (List.getElem?_eq_some_iff.1 hx).1, moveL_eq hx]; simp [turned, hp]
theorem moveRod1 {xs : List IntA2} {m : BeadMove} {r : IntA2} (hx : xs[m.rod.toNat]? = some r) (hp : m.part ≠ 0) (pad : List Value) :
    (flat encIntA2 xs ++ pad).take (0 + m.rod.toNat * 2) ++ encIntA2 ⟨r.a, r.b + m.n⟩ ++ (flat encIntA2 xs ++ pad).drop (0 + m.rod.toNat * 2 + 2) = flat encIntA2 (moveL xs m) ++ pad := by
  rw [flatSetP encIntA2_len _ pad (List.getElem?_eq_some_iff.1 hx).1, moveL_eq hx]; simp [turned, hp]
theorem moveL_G {xs : List IntA2} {m : BeadMove} {r : IntA2} (hG : ∀ y ∈ xs, GIntA2 y) (hx : xs[m.rod.toNat]? = some r) (hr : (0 ≤ r.a ∧ r.a ≤ 2) ∧ (0 ≤ r.b ∧ r.b ≤ 5)) (hn : -5 ≤ m.n ∧ m.n ≤ 5) : ∀ y ∈ moveL xs m, GIntA2 y := fun y hy => by
  rw [moveL_eq hx] at hy
  rcases List.mem_or_eq_of_mem_set hy with h | h
  · exact hG y h
  · subst h
    unfold turned GIntA2 In64
    split <;> dsimp only <;> omega

def playK (u l : Int) (xs : List IntA2) (ms : List BeadMove) : Nat → Option (List IntA2)
  | 0 => some xs
  | k + 1 => match playK u l xs ms k, ms[k]? with
    | some ys, some m => if makeB u l ys m = true then some (moveL ys m) else none
    | _, _ => none
theorem playK_yes {u l : Int} {xs ys : List IntA2} {ms : List BeadMove} {k : Nat} {m : BeadMove} (h : playK u l xs ms k = some ys) (hm : ms[k]? = some m) (hb : makeB u l ys m = true) : playK u l xs ms (k + 1) = some (moveL ys m) := by
  simp only [playK, h, hm, hb, if_true]
theorem playK_no {u l : Int} {xs ys : List IntA2} {ms : List BeadMove} {k : Nat} {m : BeadMove} (h : playK u l xs ms k = some ys) (hm : ms[k]? = some m) (hb : makeB u l ys m = false) : playK u l xs ms (k + 1) = none := by
  simp only [playK, h, hm, hb]; simp
theorem playK_none {u l : Int} {xs : List IntA2} {ms : List BeadMove} {k : Nat} (h : playK u l xs ms k = none) : ∀ n, k ≤ n → playK u l xs ms n = none := by
  intro n
  induction n with
  | zero =>
    intro hn
    have hk0 : k = 0 := by omega
    subst hk0; exact h
  | succ n ih =>
    intro hn
    by_cases hk : k = n + 1
    · subst hk; exact h
    · simp only [playK, ih (by omega)]
theorem playK_len {u l : Int} {xs : List IntA2} {ms : List BeadMove} : ∀ {k : Nat} {ys : List IntA2}, playK u l xs ms k = some ys → ys.length = xs.length
  | 0, ys, h => by obtain rfl := Option.some.inj h; rfl
  | k + 1, ys, h => by
    simp only [playK] at h
    split at h
    · rename_i zs m hz hm
      split at h
      · obtain rfl := Option.some.inj h
        rw [moveL_len]; exact playK_len hz
      · cases h
    · cases h
def playF (u l : Int) (xs : List IntA2) (ms : List BeadMove) : FR := match playK u l xs ms ms.length with | some ys => ⟨u, l, ys, true⟩ | none => ⟨0, 0, [], false⟩
theorem playF_yes {u l : Int} {xs ys : List IntA2} {ms : List BeadMove} (h : playK u l xs ms ms.length = some ys) : playF u l xs ms = ⟨u, l, ys, true⟩ := by simp only [playF, h]
theorem playF_no {u l : Int} {xs ys : List IntA2} {ms : List BeadMove} {k : Nat} {m : BeadMove} (h : playK u l xs ms k = some ys) (hk : k < ms.length) (hm : ms[k]? = some m) (hb : makeB u l ys m = false) : playF u l xs ms = ⟨0, 0, [], false⟩ := by
  simp only [playF, playK_none (playK_no h hm hb) _ hk]
theorem playF_len (u l : Int) (xs : List IntA2) (ms : List BeadMove) : (playF u l xs ms).xs.length ≤ xs.length := by
  unfold playF
  split
  · rename_i ys h; simp [playK_len h]
  · simp
def playR (u l : Int) (xs : List IntA2) (ms : List BeadMove) : FR := if (frameB u l xs && movesB 60 ms) = true then playF u l xs ms else ⟨0, 0, [], false⟩
theorem playR_yes {u l : Int} {xs : List IntA2} {ms : List BeadMove} (h : (frameB u l xs && movesB 60 ms) = true) : playR u l xs ms = playF u l xs ms := by rw [playR, if_pos h]
theorem playR_no {u l : Int} {xs : List IntA2} {ms : List BeadMove} (h : (frameB u l xs && movesB 60 ms) = false) : playR u l xs ms = ⟨0, 0, [], false⟩ := by rw [playR, if_neg (by rw [h]; simp)]
theorem playR_len (u l : Int) (xs : List IntA2) (ms : List BeadMove) : (playR u l xs ms).xs.length ≤ xs.length := by
  unfold playR
  split
  · exact playF_len u l xs ms
  · simp
theorem makeB_len {u l : Int} {xs : List IntA2} {m : BeadMove} (h : makeB u l xs m = true) : xs.length ≤ 8 ∧ frameB u l (moveL xs m) = true := by
  unfold makeB at h
  rw [Bool.and_eq_true] at h
  have := (frameB_ul h.2).2.2
  rw [moveL_len] at this
  exact ⟨this.2, h.2⟩

theorem frameB_G {u l : Int} {xs : List IntA2} (h : frameB u l xs = true) : ∀ y ∈ xs, GIntA2 y := fun y hy => by
  obtain ⟨k, hk⟩ := List.mem_iff_getElem?.1 hy
  have := frameB_at h hk
  unfold GIntA2 In64; omega
theorem moveR_yes {u l : Int} {xs : List IntA2} {m : BeadMove} (h : (frameB u l xs && moveB m) = true) : moveR u l xs m = makeR u l xs m := by unfold moveR makeR; rw [h, Bool.true_and]
theorem moveR_no {u l : Int} {xs : List IntA2} {m : BeadMove} (h : (frameB u l xs && moveB m) = false) : moveR u l xs m = ⟨0, 0, [], false⟩ := by unfold moveR; rw [h, Bool.false_and]; exact okR_no rfl
theorem makeR_ok {u l : Int} {xs : List IntA2} {m : BeadMove} (h : (makeR u l xs m).ok = true) : makeB u l xs m = true ∧ makeR u l xs m = ⟨u, l, moveL xs m, true⟩ := by
  unfold makeR okR at *
  split at h
  · rename_i hc; exact ⟨hc, by rw [if_pos hc]⟩
  · cases h
theorem makeR_bad {u l : Int} {xs : List IntA2} {m : BeadMove} (h : (makeR u l xs m).ok = false) : makeB u l xs m = false := by
  unfold makeR okR at h
  split at h
  · cases h
  · rename_i hc; simpa using hc
/-- Two lists end in the same rods. -/
def sameL (xs ys : List IntA2) : Bool := (List.range xs.length).all fun (k : Nat) => match xs[k]?, ys[k]? with | some a, some b => a.a == b.a && a.b == b.b | _, _ => true
def sameR (u l : Int) (xs : List IntA2) (ms ns : List BeadMove) : Bool × Bool :=
  if frameB u l xs = true ∧ movesB 10 ms = true ∧ movesB 10 ns = true ∧ (playF u l xs ms).ok = true ∧ (playF u l xs ns).ok = true then (sameL (playF u l xs ms).xs (playF u l xs ns).xs, true) else (false, false)

/-! ### How often, counting down -/
def howR (u l : Int) (xs : List IntA2) (n : Int) : Int × Bool := if goodB u l xs = true ∧ 1 ≤ n ∧ numF xs / n ≤ 100000 then (numF xs / n, true) else (0, false)
theorem howR_yes {u l : Int} {xs : List IntA2} {n : Int} (h : goodB u l xs = true) (h1 : 1 ≤ n) (h2 : numF xs / n ≤ 100000) : howR u l xs n = (numF xs / n, true) := by rw [howR, if_pos ⟨h, h1, h2⟩]
theorem howR_no {u l : Int} {xs : List IntA2} {n : Int} (h : ¬ (goodB u l xs = true ∧ 1 ≤ n ∧ numF xs / n ≤ 100000)) : howR u l xs n = (0, false) := by rw [howR, if_neg h]
def cdL (N s : Int) (k : Nat) : List Int := (List.range k).map fun (i : Nat) => N - s * ((i : Int) + 1)
theorem cdL_snoc (N s : Int) (k : Nat) : cdL N s (k + 1) = cdL N s k ++ [N - s * ((k : Int) + 1)] := by simp [cdL, List.range_succ]
theorem cdL_len (N s : Int) (k : Nat) : (cdL N s k).length = k := by simp [cdL]
def cdR (u l : Int) (xs : List IntA2) (s : Int) : List Int := if goodB u l xs = true ∧ 1 ≤ s ∧ numF xs / s ≤ 50 then cdL (numF xs) s (numF xs / s).toNat else []
def cdB (u l : Int) (xs : List IntA2) (s : Int) : Bool := goodB u l xs && decide (1 ≤ s) && decide (numF xs / s ≤ 50)
theorem cdR_yes {u l : Int} {xs : List IntA2} {s : Int} (h : cdB u l xs s = true) : cdR u l xs s = cdL (numF xs) s (numF xs / s).toNat := by
  unfold cdB at h
  simp only [Bool.and_eq_true, decide_eq_true_eq] at h
  rw [cdR, if_pos ⟨h.1.1, h.1.2, h.2⟩]
theorem cdR_no {u l : Int} {xs : List IntA2} {s : Int} (h : cdB u l xs s = false) : cdR u l xs s = [] := by
  rw [cdR, if_neg]
  intro ⟨h1, h2, h3⟩
  unfold cdB at h
  simp [h1, h2, h3] at h
theorem cdR_len (u l : Int) (xs : List IntA2) (s : Int) : (cdR u l xs s).length ≤ 50 := by
  unfold cdR
  split
  · rename_i h; rw [cdL_len]; omega
  · simp
/-- One more round: the number left is so often as much. -/
theorem cd_next {N s : Int} {k : Nat} (hs : 1 ≤ s) (h : 0 ≤ N - s * ((k : Int) + 1)) : (k : Int) + 1 ≤ N / s := (Int.le_ediv_iff_mul_le (by omega)).2 (by rw [Int.mul_comm]; omega)
theorem cd_end {N s : Int} {k : Nat} (hs : 1 ≤ s) (hk : (k : Int) ≤ N / s) (h : ¬ 0 ≤ N - s * ((k : Int) + 1)) : k = (N / s).toNat := by
  have h1 : ¬ (k : Int) + 1 ≤ N / s := fun hc => by
    have := (Int.le_ediv_iff_mul_le (show (0 : Int) < s by omega)).1 hc
    rw [Int.mul_comm] at this; omega
  omega
theorem cd_step (N s : Int) (k : Nat) : N - s * (((k : Nat) : Int) + 1) - s = N - s * (((k + 1 : Nat) : Int) + 1) := by
  have : s * (((k + 1 : Nat) : Int) + 1) = s * (((k : Nat) : Int) + 1) + s := by
    rw [show (((k + 1 : Nat) : Int) + 1) = (((k : Nat) : Int) + 1) + 1 from by omega, Int.mul_add, Int.mul_one]
  omega
end Go.Proofs.Ytjhlhkglpecdbaa
