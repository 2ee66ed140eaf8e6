/- A statement whose order is open: one walk in the order of the text, over a class of memories, with a tail of effects. By an AI agent. -/
import Derived.Test.YtpkmoeenegnonaaKc
import Derived.Deep.Quiet
set_option linter.unusedVariables false
namespace Go.Proofs.Ytpkmoeenegnonaa.K
open Go Go.RowKit

def befB (B : Array Nat) (j i : Nat) : Bool := (B.getD j 0).testBit i
/-- The static check of a region's order: m operations whose order is free but for what they look at, then a tail in one order. -/
def drB (l : List Oper) (m : Nat) : Bool :=
  let ops := l.toArray
  let B := Region.before ops
  let n := ops.size
  decide (m ≤ n) && Region.noSelect ops &&
  (List.range n).all fun j => match ops[j]? with
    | none => true
    | some oj => (oj.after.all fun e => !Region.binds .any e || decide (e.on < j)) &&
      (List.range j).all fun i =>
        (!befB B j i || oj.after.any fun e => Region.binds .any e && (e.on == i || (decide (i < e.on) && befB B e.on i))) &&
        (match ops[i]? with
          | none => true
          | some oi => (oi.apart ops oj || befB B j i) && (decide (j < m) || befB B j i))

structure Dr (ops : Array Oper) (B : Array Nat) (m : Nat) : Prop where
  le : m ≤ ops.size
  sel : Region.noSelect ops = true
  low : ∀ j oj, ops[j]? = some oj → ∀ e ∈ oj.after, Region.binds .any e = true → e.on < j
  cert : ∀ j oj i, ops[j]? = some oj → i < j → befB B j i = true → ∃ e ∈ oj.after, Region.binds .any e = true ∧ (e.on = i ∨ (i < e.on ∧ befB B e.on i = true))
  ord : ∀ j oj i oi, ops[j]? = some oj → ops[i]? = some oi → i < j → oi.apart ops oj = true ∨ befB B j i = true
  tail : ∀ j oj i, ops[j]? = some oj → i < j → m ≤ j → befB B j i = true

theorem dr_of {l : List Oper} {m : Nat} (h : drB l m = true) : Dr l.toArray (Region.before l.toArray) m := by
  unfold drB at h
  simp only [Bool.and_eq_true, decide_eq_true_eq] at h
  obtain ⟨⟨h1, h2⟩, h3⟩ := h
  have key : ∀ j oj, l.toArray[j]? = some oj → (oj.after.all fun e => !Region.binds .any e || decide (e.on < j)) = true ∧ ∀ i, i < j →
      (!befB (Region.before l.toArray) j i || oj.after.any fun e => Region.binds .any e && (e.on == i || (decide (i < e.on) && befB (Region.before l.toArray) e.on i))) = true ∧
      (match l.toArray[i]? with | none => true | some oi => (oi.apart l.toArray oj || befB (Region.before l.toArray) j i) && (decide (j < m) || befB (Region.before l.toArray) j i)) = true := by
    intro j oj hj
    have hlt : j < l.toArray.size := (Array.getElem?_eq_some_iff.1 hj).1
    have := List.all_eq_true.1 h3 j (List.mem_range.2 hlt)
    simp only [hj, Bool.and_eq_true] at this
    refine ⟨this.1, fun i hi => ?_⟩
    have h5 := List.all_eq_true.1 this.2 i (List.mem_range.2 hi)
    simp only [Bool.and_eq_true] at h5
    exact h5
  refine ⟨h1, h2, fun j oj hj e he hb => ?_, fun j oj i hj hi hbf => ?_, fun j oj i oi hj hoi hi => ?_, fun j oj i hj hi hm => ?_⟩
  · have := Array.all_eq_true'.1 (key j oj hj).1 e he
    simpa [hb] using this
  · have := ((key j oj hj).2 i hi).1
    simp only [hbf, Bool.not_true, Bool.false_or] at this
    obtain ⟨e, he, hb⟩ := Array.any_eq_true'.1 this
    simp only [Bool.and_eq_true, Bool.or_eq_true, beq_iff_eq, decide_eq_true_eq] at hb
    exact ⟨e, he, hb.1, hb.2⟩
  · have := ((key j oj hj).2 i hi).2
    simp only [hoi, Bool.and_eq_true, Bool.or_eq_true] at this
    exact this.1
  · have := ((key j oj hj).2 i hi).2
    have hlt : j < l.toArray.size := (Array.getElem?_eq_some_iff.1 hj).1
    have hi' : l.toArray[i]? = some l.toArray[i] := Array.getElem?_eq_getElem (by omega)
    simp only [hi', Bool.and_eq_true, Bool.or_eq_true, decide_eq_true_eq] at this
    rcases this.2 with h | h
    · omega
    · exact h

section
variable {P : Program} {ops : Array Oper} {B : Array Nat} {m : Nat} {C : World → Prop} {Q : Exit → Act → World → Prop}

/-- What has come up, with all that it waits for. -/
def Closed (ops : Array Oper) (L : Array Bool) : Prop := ∀ j oj, ops[j]? = some oj → L.getD j false = true → ∀ e ∈ oj.after, Region.binds .any e = true → L.getD e.on false = true

theorem closed_bef (d : Dr ops B m) {L : Array Bool} (hc : Closed ops L) : ∀ j, ∀ oj, ops[j]? = some oj → (∀ e ∈ oj.after, Region.binds .any e = true → L.getD e.on false = true) → ∀ i, i < j → befB B j i = true → L.getD i false = true := by
  intro j
  induction j using Nat.strongRecOn with
  | _ j ih =>
    intro oj hj hall i hi hb
    obtain ⟨e, he, hbi, h⟩ := d.cert j oj i hj hi hb
    rcases h with h | h
    · rw [← h]; exact hall e he hbi
    · have hlt := d.low j oj hj e he hbi
      have hjs : j < ops.size := (Array.getElem?_eq_some_iff.1 hj).1
      have hoe : ops[e.on]? = some ops[e.on] := Array.getElem?_eq_getElem (by omega)
      exact ih e.on hlt _ hoe (fun e' he' hb' => hc _ _ hoe (hall e he hbi) e' he' hb') i h.1 h.2

/-- The act behind the first k operations, each with its value. -/
def lexA (ops : Array Oper) (V : Nat → Value) (a : Act) : Nat → Act
  | 0 => a
  | k + 1 => match ops[k]? with
    | some o => (lexA ops V a k).put o.dst (V k)
    | none => lexA ops V a k

/-- The last of the first k operations that has come up and writes the slot t. -/
def lst (ops : Array Oper) (L : Nat → Bool) (t : Nat) : Nat → Option Nat
  | 0 => none
  | k + 1 => if (ops[k]?).bind (·.dst) = some t ∧ L k = true then some k else lst ops L t k

theorem lst_congr {L L' : Nat → Bool} {t : Nat} : ∀ {k : Nat}, (∀ j, j < k → (ops[j]?).bind (·.dst) = some t → L j = L' j) → lst ops L t k = lst ops L' t k
  | 0, _ => rfl
  | k + 1, h => by
    have ih := lst_congr (k := k) (L := L) (L' := L') (t := t) (fun j hj => h j (by omega))
    unfold lst
    rw [ih]
    by_cases hd : (ops[k]?).bind (·.dst) = some t
    · rw [h k (by omega) hd]
    · rw [if_neg (fun hh => hd hh.1), if_neg (fun hh => hd hh.1)]

def slotv (ops : Array Oper) (V : Nat → Value) (a : Act) (L : Nat → Bool) (t : Nat) : Option Value :=
  match lst ops L t ops.size with
  | some j => if t < a.tmps.size then some (V j) else none
  | none => a.tmps[t]?

/-- What a frame must be when just these operations have come up. -/
structure At (ops : Array Oper) (V : Nat → Value) (a0 : Act) (L : Nat → Bool) (a : Act) : Prop where
  defers : a.defers = a0.defers
  size : a.tmps.size = a0.tmps.size
  slot : ∀ t, a.tmps[t]? = slotv ops V a0 L t

theorem lst_insert {L : Nat → Bool} {i : Nat} {t : Nat} {oi : Oper} (hoi : ops[i]? = some oi) (hno : ∀ j, i < j → (ops[j]?).bind (·.dst) = some t → oi.dst = some t → L j = false) :
    ∀ k, i < k → lst ops (fun j => L j || j == i) t k = if oi.dst = some t then (match lst ops L t k with | some j => if i < j then some j else some i | none => some i) else lst ops L t k
  | 0, h => by omega
  | k + 1, h => by
    unfold lst
    by_cases hki : i = k
    · subst hki
      simp only [hoi, Option.bind_some, beq_self_eq_true, Bool.or_true, and_true]
      by_cases hd : oi.dst = some t
      · simp only [hd, if_true, true_and]
        by_cases hL : L i = true
        · simp [hL]
        · have : lst ops L t i = none ∨ ∃ j, lst ops L t i = some j ∧ j < i := by
            have key : ∀ k, lst ops L t k = none ∨ ∃ j, lst ops L t k = some j ∧ j < k := by
              intro k
              induction k with
              | zero => exact .inl rfl
              | succ k ih =>
                unfold lst
                split
                · exact .inr ⟨k, rfl, by omega⟩
                · rcases ih with ih | ⟨j, h1, h2⟩
                  · exact .inl ih
                  · exact .inr ⟨j, h1, by omega⟩
            exact key i
          simp only [hL]
          rcases this with h1 | ⟨j, h1, h2⟩
          · simp [h1]
          · simp [h1, show ¬ i < j from by omega]
      · simp only [hd, if_false, false_and]
        exact lst_congr (fun j hj _ => by simp [show ¬ (j = i) from by omega])
    · have ih := lst_insert hoi hno k (by omega)
      have hbe : (k == i) = false := by simpa using (fun e => hki e.symm)
      simp only [hbe, Bool.or_false]
      by_cases hk : (ops[k]?).bind (·.dst) = some t ∧ L k = true
      · rw [if_pos hk, if_pos hk]
        by_cases hd : oi.dst = some t
        · have := hno k (by omega) hk.1 hd
          rw [hk.2] at this; cases this
        · simp [hd]
      · rw [if_neg hk, if_neg hk]; exact ih

theorem lst_none {L : Nat → Bool} {t : Nat} : ∀ {k : Nat}, (∀ j, j < k → (ops[j]?).bind (·.dst) = some t → L j = false) → lst ops L t k = none
  | 0, _ => rfl
  | k + 1, h => by
    unfold lst
    rw [if_neg (fun hh => by rw [h k (by omega) hh.1] at hh; cases hh.2)]
    exact lst_none (fun j hj => h j (by omega))

theorem lst_le {L : Nat → Bool} {t i : Nat} : ∀ {k : Nat} {j : Nat}, (∀ j, i < j → (ops[j]?).bind (·.dst) = some t → L j = false) → lst ops L t k = some j → j ≤ i
  | 0, _, _, h => by cases h
  | k + 1, j, hno, h => by
    unfold lst at h
    split at h
    · rename_i hh
      obtain rfl := Option.some.inj h
      rcases Nat.lt_or_ge i k with hlt | hge
      · have := hno k hlt hh.1
        rw [hh.2] at this; cases this.symm
      · exact hge
    · exact lst_le hno h

theorem At.put {V : Nat → Value} {a0 a : Act} {L : Nat → Bool} (h : At ops V a0 L a) {i : Nat} {oi : Oper} (hoi : ops[i]? = some oi) (hno : ∀ j t, i < j → (ops[j]?).bind (·.dst) = some t → oi.dst = some t → L j = false) :
    At ops V a0 (fun j => L j || j == i) (a.put oi.dst (V i)) := by
  have hi : i < ops.size := (Array.getElem?_eq_some_iff.1 hoi).1
  cases hd : oi.dst with
  | none =>
    refine ⟨h.defers, h.size, fun t => ?_⟩
    have := lst_insert (L := L) (t := t) hoi (fun j hj h1 h2 => hno j t hj h1 h2) ops.size hi
    rw [hd] at this
    simp only [Act.put, slotv, this]
    rw [h.slot t]; rfl
  | some d =>
    refine ⟨h.defers, by simp [Act.put, h.size], fun t => ?_⟩
    have := lst_insert (L := L) (t := t) hoi (fun j hj h1 h2 => hno j t hj h1 h2) ops.size hi
    rw [hd] at this
    simp only [slotv]
    rw [this]
    by_cases hdt : d = t
    · subst hdt
      simp only [if_true]
      have hle : ∀ j, lst ops L d ops.size = some j → j ≤ i := fun j hj => lst_le (fun j' hj' h1 => hno j' d hj' h1 hd) hj
      have hV : (match (match lst ops L d ops.size with | some j => if i < j then some j else some i | none => some i) with
          | some j => if d < a0.tmps.size then some (V j) else none | none => a0.tmps[d]?) = if d < a0.tmps.size then some (V i) else none := by
        cases hl : lst ops L d ops.size with
        | none => rfl
        | some j => have := hle j hl; simp [show ¬ i < j from by omega]
      rw [hV]
      simp only [Act.put]
      by_cases hlt : d < a0.tmps.size
      · simp [hlt, h.size]
      · rw [if_neg hlt]; simp [h.size, Nat.not_lt.1 hlt]
    · have : (some d = some t) = False := by simpa using hdt
      simp only [this, if_false]
      simp only [Act.put]
      rw [Array.getElem?_setIfInBounds_ne hdt, h.slot t]; rfl

theorem At.congr {V : Nat → Value} {a0 a : Act} {L L' : Nat → Bool} (h : At ops V a0 L a) (hc : ∀ j, j < ops.size → L j = L' j) : At ops V a0 L' a :=
  ⟨h.defers, h.size, fun t => by rw [h.slot t]; unfold slotv; rw [lst_congr (L' := L') (fun j hj _ => hc j hj)]⟩

theorem At.ext {V : Nat → Value} {a0 a b : Act} {L : Nat → Bool} (h : At ops V a0 L a) (k : At ops V a0 L b) : a = b := by
  obtain ⟨ta, da⟩ := a
  obtain ⟨tb, db⟩ := b
  have h1 : da = db := h.defers.trans k.defers.symm
  have h2 : ta = tb := Array.ext (h.size.trans k.size.symm) (fun i hi hj => by
    have := (h.slot i).trans (k.slot i).symm
    simp only [Array.getElem?_eq_getElem hi, Array.getElem?_eq_getElem hj] at this
    exact Option.some.inj this)
  rw [h1, h2]

theorem lexA_at (V : Nat → Value) (a0 : Act) : ∀ k, k ≤ ops.size → At ops V a0 (fun j => decide (j < k)) (lexA ops V a0 k)
  | 0, _ => ⟨rfl, rfl, fun t => by
      simp only [lexA, slotv]
      rw [lst_none (fun j _ _ => by simp)]⟩
  | k + 1, hk => by
    have ih := lexA_at V a0 k (by omega)
    have ho : ops[k]? = some ops[k] := Array.getElem?_eq_getElem (by omega)
    simp only [lexA, ho]
    refine (ih.put ho (fun j t hj _ _ => by simp; omega)).congr (fun j _ => ?_)
    by_cases hjk : j = k
    · subst hjk; simp
    · have hb : (j == k) = false := by simpa using hjk
      rw [hb, Bool.or_false]
      exact decide_eq_decide.2 (by omega)

/-- In state a, in every world of the class, the operation yields v (or is passed over, v being undef), and leaves a world of the class. -/
def Yl (P : Program) (ops : Array Oper) (C : World → Prop) (o : Oper) (v : Value) (a : Act) : Prop :=
  (Region.wanted o (yielded ops a.tmps) = true ∧ ∀ w, C w → o.quietAt P a C w v) ∨ (Region.wanted o (yielded ops a.tmps) = false ∧ v = undef)

def lq (P : Program) (ops : Array Oper) (C : World → Prop) (K : Act → Prop) : List Oper → Act → Prop
  | [], a => K a
  | o :: rest, a => ∃ v, Yl P ops C o v a ∧ lq P ops C K rest (a.put o.dst v)

theorem lq_vals {K : Act → Prop} : ∀ (r k : Nat) (l : List Oper) (a0 : Act) (V : Nat → Value), l.length = r → (∀ j, j < r → l[j]? = ops[k + j]?) → lq P ops C K l (lexA ops V a0 k) →
    ∃ V' : Nat → Value, (∀ j, j < k → V' j = V j) ∧ (∀ j o, k ≤ j → j < k + r → ops[j]? = some o → Yl P ops C o (V' j) (lexA ops V' a0 j)) ∧ K (lexA ops V' a0 (k + r))
  | 0, k, l, a0, V, hr, _, h => by
    have : l = [] := List.length_eq_zero_iff.1 hr
    subst this
    exact ⟨V, fun _ _ => rfl, fun j o h1 h2 => by omega, h⟩
  | r + 1, k, l, a0, V, hr, hl, h => by
    match l, hr with
    | o :: l', hr =>
      obtain ⟨v, hy, hrest⟩ := h
      have ho : ops[k]? = some o := by have := hl 0 (by omega); simpa using this.symm
      let V1 : Nat → Value := fun j => if j = k then v else V j
      have hpre : ∀ j, j ≤ k → lexA ops V1 a0 j = lexA ops V a0 j := by
        intro j
        induction j with
        | zero => intro _; rfl
        | succ j ih =>
          intro hj
          simp only [lexA]
          rw [ih (by omega), show V1 j = V j from if_neg (by omega)]
      have hstep : lexA ops V1 a0 (k + 1) = (lexA ops V a0 k).put o.dst v := by
        simp only [lexA, ho]
        rw [hpre k (Nat.le_refl _), show V1 k = v from if_pos rfl]
      rw [← hstep] at hrest
      obtain ⟨V', h1, h2, h3⟩ := lq_vals r (k + 1) l' a0 V1 (by simpa using hr) (fun j hj => by
        have := hl (j + 1) (by omega)
        rw [List.getElem?_cons_succ] at this
        rw [this]; congr 1; omega) hrest
      have hsame : ∀ j, j ≤ k → lexA ops V' a0 j = lexA ops V1 a0 j := by
        intro j
        induction j with
        | zero => intro _; rfl
        | succ j ih =>
          intro hj
          simp only [lexA]
          rw [ih (by omega), h1 j (by omega)]
      refine ⟨V', fun j hj => by rw [h1 j (by omega)]; exact if_neg (by omega), fun j o' hj1 hj2 ho' => ?_, by rw [show k + (r + 1) = k + 1 + r from by omega]; exact h3⟩
      by_cases hjk : j = k
      · subst hjk
        have : o' = o := Option.some.inj (ho'.symm.trans ho)
        subst this
        rw [h1 j (by omega), hsame j (Nat.le_refl _), hpre j (Nat.le_refl _), show V1 j = v from if_pos rfl]
        exact hy
      · exact h2 j o' (by omega) (by omega) ho'

/-- How many have not come up. -/
def unl (L : Array Bool) : Nat → Nat
  | 0 => 0
  | k + 1 => unl L k + if L.getD k true = true then 0 else 1

theorem unl_set {L : Array Bool} {i : Nat} (hi : L.getD i true = false) : ∀ k, unl (L.setIfInBounds i true) k + (if i < k then 1 else 0) = unl L k
  | 0 => by simp [unl]
  | k + 1 => by
    have ih := unl_set hi k
    simp only [unl]
    by_cases hik : i = k
    · subst hik
      have hlt : i < L.size := by
        rcases Nat.lt_or_ge i L.size with h | h
        · exact h
        · simp [Array.getElem?_eq_none h] at hi
      have h1 : (L.setIfInBounds i true).getD i true = true := by simp [hlt]
      rw [h1, hi]
      simp at ih
      simp
      omega
    · rw [getD_set_ne true hik]
      have he : (if i < k + 1 then 1 else 0) = (if i < k then 1 else 0) := by
        by_cases h : i < k
        · rw [if_pos h, if_pos (Nat.lt_succ_of_lt h)]
        · rw [if_neg h, if_neg (fun h' => h (by omega))]
      rw [he]; omega

theorem unl_zero {L : Array Bool} : ∀ {k : Nat}, unl L k = 0 → ∀ j, j < k → L.getD j true = true
  | 0, _, j, h => by omega
  | k + 1, h, j, hj => by
    simp only [unl] at h
    by_cases hjk : j = k
    · subst hjk
      split at h
      · assumption
      · omega
    · exact unl_zero (k := k) (by omega) j (by omega)

theorem getD_tf {L : Array Bool} {j : Nat} (h : L.getD j false = true) : L.getD j true = true := by
  rcases Nat.lt_or_ge j L.size with h' | h'
  · simp [h'] at h ⊢; exact h
  · simp [Array.getElem?_eq_none h']
theorem getD_ft {L : Array Bool} {j : Nat} (hj : j < L.size) (h : L.getD j true = true) : L.getD j false = true := by
  simp [hj] at h ⊢; exact h
theorem getD_ff {L : Array Bool} {j : Nat} (h : L.getD j true = false) : L.getD j false = false := by
  cases hh : L.getD j false with
  | false => rfl
  | true => rw [getD_tf hh] at h; cases h

/-- The least that has not come up may come up. -/
theorem least_ready (d : Dr ops B m) {L : Array Bool} (hs : L.size = ops.size) {j : Nat} (hj : j < ops.size) (hun : L.getD j true = false) (hall : ∀ i, i < j → L.getD i true = true) : j ∈ Region.ready .any ops L :=
  mem_ready.2 ⟨hun, ops[j], Array.getElem?_eq_getElem hj, fun e he hb => by
    have := d.low j _ (Array.getElem?_eq_getElem hj) e he hb
    exact getD_ft (by omega) (hall _ this)⟩

theorem least_exists {L : Array Bool} : ∀ (k : Nat), (∀ i, i < k → L.getD i true = true) ∨ ∃ j, j < k ∧ L.getD j true = false ∧ ∀ i, i < j → L.getD i true = true
  | 0 => .inl (fun i hi => by omega)
  | k + 1 => by
    rcases least_exists k with h | ⟨j, h1, h2, h3⟩
    · cases hk : L.getD k true with
      | true => exact .inl (fun i hi => by
          by_cases hik : i = k
          · subst hik; exact hk
          · exact h i (by omega))
      | false => exact .inr ⟨k, by omega, hk, h⟩
    · exact .inr ⟨j, by omega, h2, h3⟩

theorem closed_set {L : Array Bool} (hc : Closed ops L) {i : Nat} {oi : Oper} (hoi : ops[i]? = some oi) (hall : ∀ e ∈ oi.after, Region.binds .any e = true → L.getD e.on false = true) : Closed ops (L.setIfInBounds i true) := by
  intro j oj hj hl e he hb
  by_cases hij : i = j
  · subst hij
    have : oj = oi := Option.some.inj (hj.symm.trans hoi)
    subst this
    exact getD_set_true (hall e he hb)
  · rw [getD_set_ne false hij] at hl
    exact getD_set_true (hc j oj hj hl e he hb)

/-- The tail: one order. -/
theorem tail_any (d : Dr ops B m) : ∀ (fuel k : Nat) (L : Array Bool) (l : List Oper) (a : Act) (w : World), L.size = ops.size → m ≤ k → Closed ops L → (∀ j, L.getD j true = decide (j < k) ∨ ops.size ≤ j) → (∀ j, l[j]? = ops[k + j]?) →
    unl L ops.size = fuel → wpList P ops Q l a w → wpAny P .any ops Q fuel L a w := by
  intro fuel
  induction fuel with
  | zero =>
    intro k L l a w hs hmk hc hL hl hf h
    have hall := unl_zero hf
    have hnone : ops[k]? = none := by
      rcases Nat.lt_or_ge k ops.size with hk | hk
      · have := hall k hk
        rcases hL k with h1 | h1
        · rw [this] at h1; simp at h1
        · omega
      · exact Array.getElem?_eq_none hk
    have : l = [] := by
      have := hl 0
      rw [Nat.add_zero, hnone] at this
      cases l with
      | nil => rfl
      | cons x r => simp at this
    subst this
    refine ⟨?_, h⟩
    cases hr : Region.ready .any ops L with
    | nil => rfl
    | cons x r =>
      have hx : x ∈ Region.ready .any ops L := by rw [hr]; simp
      obtain ⟨h1, o, h2, _⟩ := mem_ready.1 hx
      rw [hall x (Array.getElem?_eq_some_iff.1 h2).1] at h1; cases h1
  | succ fuel ih =>
    intro k L l a w hs hmk hc hL hl hf h
    have hkn : k < ops.size := by
      rcases Nat.lt_or_ge k ops.size with hk | hk
      · exact hk
      · exfalso
        have hz : ∀ r, r ≤ ops.size → unl L r = 0 := by
          intro r
          induction r with
          | zero => intro _; rfl
          | succ r ihr =>
            intro hr
            simp only [unl]
            rw [ihr (by omega)]
            rcases hL r with h1 | h1
            · rw [h1]; simp; omega
            · omega
        rw [hz _ (Nat.le_refl _)] at hf; cases hf
    have hk : L.getD k true = false := by
      rcases hL k with h1 | h1
      · rw [h1]; simp
      · omega
    have hok : ops[k]? = some ops[k] := Array.getElem?_eq_getElem hkn
    match l, hl, h with
    | [], hl, h => have := hl 0; rw [Nat.add_zero, hok] at this; simp at this
    | o :: l', hl, h =>
      have ho : ops[k]? = some o := by have := hl 0; simpa using this.symm
      have hrdy : k ∈ Region.ready .any ops L := least_ready d hs hkn hk (fun i hi => by
        rcases hL i with h1 | h1
        · rw [h1]; simpa using hi
        · omega)
      refine ⟨fun h0 => (by rw [h0] at hrdy; cases hrdy), fun i hi => ?_⟩
      have hik : i = k := by
        obtain ⟨h1, oi, h2, h3⟩ := mem_ready.1 hi
        have hin := (Array.getElem?_eq_some_iff.1 h2).1
        rcases hL i with h4 | h4
        · rw [h4] at h1
          have hge : k ≤ i := by simpa using h1
          rcases Nat.lt_or_ge k i with hlt | hge'
          · have hb := d.tail i oi k h2 hlt (by omega)
            have := closed_bef d hc i oi h2 h3 k hlt hb
            rw [getD_ff hk] at this; cases this
          · omega
        · omega
      subst hik
      have hnext : ∀ a' w', wpList P ops Q l' a' w' → wpAny P .any ops Q fuel (L.setIfInBounds i true) a' w' := fun a' w' h' =>
        ih (i + 1) _ l' a' w' (by simp [hs]) (by omega) (closed_set hc ho (by obtain ⟨_, oi, h2, h3⟩ := mem_ready.1 hi; rw [ho] at h2; obtain rfl := Option.some.inj h2; exact h3))
          (fun j => by
            by_cases hij : i = j
            · subst hij; left; simp [hs, hkn]
            · rw [getD_set_ne true hij]
              rcases hL j with h1 | h1
              · left; rw [h1]; exact decide_eq_decide.2 (by omega)
              · exact .inr h1)
          (fun j => by
            have := hl (j + 1)
            rw [List.getElem?_cons_succ] at this
            rw [this]; congr 1; omega)
          (by have := unl_set hk ops.size; rw [if_pos hkn] at this; omega) h'
      unfold wpOp
      simp only [ho]
      simp only [wpList] at h
      split
      · rename_i hw
        rw [if_pos hw] at h
        exact h.imp (Oper.wp_mono hnext) id
      · rename_i hw
        rw [if_neg hw] at h
        exact hnext _ _ h

theorem looks_bound {o : Oper} {x : Operand} (hx : x ∈ o.op.operands) {t : Nat} (ht : x = .tmp t) : t ∈ o.looksAt ops := by
  subst ht
  exact List.mem_append_left _ (List.mem_filterMap.2 ⟨.tmp t, by simpa using hx, rfl⟩)

theorem exec_same {o : Oper} (hs : ∀ cs b, o.op ≠ .select cs b) {a b : Act} (h : ∀ t, t ∈ o.looksAt ops → a.tmps[t]? = b.tmps[t]?) : execOp a.eval o = execOp b.eval o :=
  execOp_congr o hs fun x hx => by
    cases x with
    | tmp t =>
      have := h t (looks_bound hx rfl)
      simp only [Act.eval, Array.getD_eq_getD_getElem?, this]
    | _ => rfl

theorem wanted_same {o : Oper} {a b : Act} (h : ∀ t, t ∈ o.looksAt ops → a.tmps[t]? = b.tmps[t]?) : Region.wanted o (yielded ops a.tmps) = Region.wanted o (yielded ops b.tmps) := by
  unfold Region.wanted
  cases hg : o.guard with
  | none => rfl
  | some gw =>
    obtain ⟨g, want⟩ := gw
    have hy : yielded ops a.tmps g = yielded ops b.tmps g := by
      unfold yielded
      cases ht : (ops[g]?).bind (·.dst) with
      | none => rfl
      | some t =>
        have := h t (by simp [Oper.looksAt, hg, ht])
        simp only [Option.bind_some, this]
    simp only [hy]

theorem head_any (d : Dr ops B m) {V : Nat → Value} {a0 : Act} (hy : ∀ j o, j < m → ops[j]? = some o → Yl P ops C o (V j) (lexA ops V a0 j))
    {lt : List Oper} (hlt : ∀ j, lt[j]? = ops[m + j]?) (hK : ∀ w, C w → wpList P ops Q lt (lexA ops V a0 m) w) :
    ∀ (fuel : Nat) (L : Array Bool) (a : Act) (w : World), L.size = ops.size → Closed ops L → (∀ j, m ≤ j → j < ops.size → L.getD j true = false) → At ops V a0 (fun j => L.getD j false) a → C w →
      unl L ops.size = fuel → wpAny P .any ops Q fuel L a w := by
  have done : ∀ (fuel : Nat) (L : Array Bool) (a : Act) (w : World), L.size = ops.size → Closed ops L → (∀ j, m ≤ j → j < ops.size → L.getD j true = false) → At ops V a0 (fun j => L.getD j false) a → C w →
      unl L ops.size = fuel → (∀ j, j < m → L.getD j true = true) → wpAny P .any ops Q fuel L a w := by
    intro fuel L a w hs hc htl hat hw hf hall
    have hL : ∀ j, j < ops.size → L.getD j false = decide (j < m) := fun j hj => by
      by_cases hjm : j < m
      · rw [getD_ft (by omega) (hall j hjm)]; simp [hjm]
      · rw [getD_ff (htl j (by omega) hj)]; simp [hjm]
    have he := (hat.congr hL).ext (lexA_at V a0 m d.le)
    refine tail_any d fuel m L lt a w hs (Nat.le_refl _) hc (fun j => ?_) hlt hf (by rw [he]; exact hK w hw)
    rcases Nat.lt_or_ge j ops.size with hj | hj
    · left
      by_cases hjm : j < m
      · rw [hall j hjm]; simp [hjm]
      · rw [htl j (by omega) hj]; simp [hjm]
    · exact .inr hj
  intro fuel
  induction fuel with
  | zero =>
    intro L a w hs hc htl hat hw hf
    have hall := unl_zero hf
    exact done 0 L a w hs hc htl hat hw hf (fun j hj => hall j (by have := d.le; omega))
  | succ fuel ih =>
    intro L a w hs hc htl hat hw hf
    rcases least_exists (L := L) m with hall | ⟨j0, hj0, hun0, hlow0⟩
    · exact done _ L a w hs hc htl hat hw hf hall
    · have hle := d.le
      have hr0 := least_ready d hs (by omega) hun0 hlow0
      refine ⟨fun h0 => (by rw [h0] at hr0; cases hr0), fun i hi => ?_⟩
      obtain ⟨hun, oi, hoi, hall⟩ := mem_ready.1 hi
      have hin := (Array.getElem?_eq_some_iff.1 hoi).1
      have him : i < m := by
        rcases Nat.lt_or_ge i m with h | h
        · exact h
        · have := closed_bef d hc i oi hoi hall j0 (by omega) (d.tail i oi j0 hoi (by omega) h)
          rw [getD_ff hun0] at this; cases this
      -- the slots that it looks at hold what they hold in the order of the text
      have hsame : ∀ t, t ∈ oi.looksAt ops → a.tmps[t]? = (lexA ops V a0 i).tmps[t]? := by
        intro t ht
        rw [hat.slot t, (lexA_at V a0 i (by omega)).slot t]
        unfold slotv
        rw [lst_congr (L' := fun j => decide (j < i))]
        intro j hj hdst
        have hoj : ops[j]? = some ops[j] := Array.getElem?_eq_getElem hj
        rw [hoj] at hdst
        simp only [Option.bind_some] at hdst
        rcases Nat.lt_trichotomy j i with hji | hji | hji
        · have hb : befB B i j = true := by
            rcases d.ord i oi j _ hoi hoj hji with h | h
            · exact absurd ht ((Oper.apart_spec h).1 t hdst)
            · exact h
          rw [closed_bef d hc i oi hoi hall j hji hb]; simp [hji]
        · subst hji; rw [getD_ff hun]; simp
        · have hb : befB B j i = true := by
            rcases d.ord j _ i oi hoj hoi hji with h | h
            · exact absurd ht ((Oper.apart_spec h).2.2 t hdst)
            · exact h
          cases hl : L.getD j false with
          | false => simp; omega
          | true =>
            have := closed_bef d hc j _ hoj (fun e he hbe => hc j _ hoj hl e he hbe) i hji hb
            rw [getD_ff hun] at this; cases this
      have hno : ∀ j t, i < j → (ops[j]?).bind (·.dst) = some t → oi.dst = some t → L.getD j false = false := by
        intro j t hij hdst hdi
        cases hoj : ops[j]? with
        | none => rw [hoj] at hdst; cases hdst
        | some oj =>
          rw [hoj] at hdst
          simp only [Option.bind_some] at hdst
          have hb : befB B j i = true := by
            rcases d.ord j oj i oi hoj hoi hij with h | h
            · exact absurd hdst ((Oper.apart_spec h).2.1 t hdi)
            · exact h
          cases hl : L.getD j false with
          | false => rfl
          | true =>
            have := closed_bef d hc j oj hoj (fun e he hbe => hc j oj hoj hl e he hbe) i hij hb
            rw [getD_ff hun] at this; cases this
      have hcs := closed_set hc hoi hall
      have hat' : At ops V a0 (fun j => (L.setIfInBounds i true).getD j false) (a.put oi.dst (V i)) := (hat.put hoi hno).congr (fun j hj => by
        by_cases hij : i = j
        · subst hij; simp [hs, hin]
        · rw [getD_set_ne false hij]
          have : (j == i) = false := by simpa using (fun e : j = i => hij e.symm)
          rw [this, Bool.or_false])
      have hnext : ∀ w', C w' → wpAny P .any ops Q fuel (L.setIfInBounds i true) (a.put oi.dst (V i)) w' := fun w' hw' =>
        ih _ _ w' (by simp [hs]) hcs (fun j hj1 hj2 => by rw [getD_set_ne true (by omega)]; exact htl j hj1 hj2) hat' hw' (by have := unl_set hun ops.size; rw [if_pos hin] at this; omega)
      have hsel := Region.noSelect_spec d.sel i oi
      have hex := exec_same (o := oi) (fun cs b => hsel cs b hoi) hsame
      have hwa := wanted_same (o := oi) hsame
      unfold wpOp
      simp only [hoi]
      rcases hy i oi him hoi with ⟨h1, h2⟩ | ⟨h1, h2⟩
      · rw [if_pos (by rw [hwa]; exact h1)]
        refine .inl ?_
        have h3 := h2 w hw
        unfold Oper.quietAt at h3
        unfold Oper.wp
        rw [hex]
        generalize (execOp (lexA ops V a0 i).eval oi).run P w = r at *
        cases r with
        | ok nx w' =>
          cases nx <;> simp only [Oper.quietUpon] at h3 <;> simp only [Oper.upon]
          case value u => obtain ⟨e1, e2⟩ := h3; rw [e1, e2]; exact hnext w hw
          case skip => obtain ⟨e1, e2⟩ := h3; rw [e1, ← e2]; exact hnext w hw
          case enter f args =>
            obtain ⟨e1, hcall⟩ := h3
            rw [e1]
            exact hcall.mono fun e w'' ⟨he, hw''⟩ => by subst he; exact hnext w'' hw''
        | halt x w' => simp only [Oper.quietUpon] at h3
      · rw [if_neg (by rw [hwa, h1]; exact Bool.false_ne_true), ← h2]
        exact hnext w hw

/-- One walk of the order of the text serves every order; a tail of effects behind it. -/
theorem wp_region_dr {id : Nat} {l : List Oper} {m : Nat} {a : Act} {w : World} (hm : P.follows .mixedOrders = true) (hB : drB l m = true) (hC : C { w with drawn := w.drawn + 1 })
    (h : lq P l.toArray C (fun a' => ∀ w', C w' → wpList P l.toArray Q (l.drop m) a' w') (l.take m) a) : (Code.region id l.toArray true).wp P Q a w := by
  have d := dr_of hB
  have hle := d.le
  simp only [List.size_toArray] at hle
  obtain ⟨V, _, h2, h3⟩ := lq_vals (ops := l.toArray) m 0 (l.take m) a (fun _ => undef) (by simp; omega) (fun j hj => by simp [hj]) h
  refine wp_region_any hm (head_any d (V := V) (a0 := a) (fun j o hj ho => h2 j o (Nat.zero_le _) (by omega) ho) (lt := l.drop m) (fun j => by simp) (by simpa using h3) _ _ _ _ (by simp) ?_ ?_ ?_ hC ?_)
  · intro j oj _ hl
    rcases Nat.lt_or_ge j l.length with h | h <;> simp [h] at hl
  · intro j _ hj
    simp only [List.size_toArray] at hj
    simp [hj]
  · refine ⟨rfl, rfl, fun t => ?_⟩
    unfold slotv
    rw [lst_none (fun j hj _ => by
      rcases Nat.lt_or_ge j l.length with h | h <;> simp [h])]
  · have : ∀ k, k ≤ l.length → unl (Array.replicate l.toArray.size false) k = k := by
      intro k
      induction k with
      | zero => intro _; rfl
      | succ k ih =>
        intro hk
        simp only [unl]
        rw [ih (by omega)]
        simp [show k < l.length from by omega]
    simpa using this _ (Nat.le_refl _)
end

section
variable {P : Program} {n : Nat} {Q : Exit → Act → World → Prop} {σ : List (Nat × Value)} {w0 : Base} {μ : List Ent} {ops : Array Oper} {rest : List Oper}
variable {ty : TypeId} {pos : String} {aft : Array Edge} {K : Act → Prop}

theorem Hp.drawn {w : World} (h : Hp w0 μ w) : Hp w0 μ { w with drawn := w.drawn + 1 } := ⟨h.os, h.tape, h.output, h.size, h.frame, h.ents, h.nodup⟩

def QL (P : Program) (n : Nat) (ops : Array Oper) (K : Act → Prop) (l : List Oper) (σ : List (Nat × Value)) (w0 : Base) (μ : List Ent) : Prop :=
  ∀ a, Kn σ n a → lq P ops (Hp w0 μ) K l a

theorem ct_dr {id : Nat} {l : List Oper} (m : Nat) (hm : P.follows .mixedOrders = true) (hB : drB l m = true)
    (h : QL P n l.toArray (fun a' => ∀ w', Hp w0 μ w' → wpList P l.toArray Q (l.drop m) a' w') (l.take m) σ w0 μ) : CT P n (.region id l.toArray true) Q σ w0 μ :=
  fun a w hk hp => wp_region_dr hm hB hp.drawn (h a hk)

theorem ql_nil {Qr : Exit → Act → World → Prop} {lt : List Oper} (h : RL P n ops Qr lt σ w0 μ) : QL P n ops (fun a' => ∀ w', Hp w0 μ w' → wpList P ops Qr lt a' w') [] σ w0 μ := fun a hk w' hp => h a w' hk hp
theorem ql_sub {l : List Oper} {σ' : List (Nat × Value)} (hs : Sub σ' σ) (h : QL P n ops K l σ' w0 μ) : QL P n ops K l σ w0 μ := fun a hk => h a (hk.sub hs)

theorem ql_split {t : Nat} {b : Bool} {l : List Oper} (hl : σ.lookup t = some (.bool b)) (h1 : b = true → QL P n ops K l σ w0 μ) (h0 : b = false → QL P n ops K l σ w0 μ) : QL P n ops K l σ w0 μ := by
  cases hb : b with
  | true => exact h1 hb
  | false => exact h0 hb
theorem ql_val {d : Nat} {op : Op} {g : Option (Nat × Bool)} {v : Value} (hg : GW ops n g true σ) (h : OV P n op ty v σ w0 μ) (hd : Nat.blt d n = true) (next : QL P n ops K rest ((d, v) :: σ) w0 μ) :
    QL P n ops K (⟨some d, op, ty, pos, aft, g⟩ :: rest) σ w0 μ := fun a hk =>
  ⟨v, .inl ⟨hg _ _ _ _ _ _ hk, fun w hp => by unfold Oper.quietAt; rw [h _ _ _ _ a w hk hp]; exact ⟨rfl, rfl⟩⟩, next _ (hk.put hd v)⟩
theorem ql_skip {d : Nat} {op : Op} {g : Option (Nat × Bool)} (hg : GW ops n g false σ) (hd : Nat.blt d n = true) (next : QL P n ops K rest ((d, undef) :: σ) w0 μ) :
    QL P n ops K (⟨some d, op, ty, pos, aft, g⟩ :: rest) σ w0 μ := fun a hk =>
  ⟨undef, .inr ⟨hg _ _ _ _ _ _ hk, rfl⟩, next _ (hk.put hd undef)⟩
theorem ql_callv {d : Nat} {f : FuncId} {xs : List Operand} {vs : List Value} {tys : Array TypeId} {g : Option (Nat × Bool)} {v : Value} (hg : GW ops n g true σ) (hf : Goes P f) (hx : EVs σ xs = some vs)
    (hc : ∀ w, Hp w0 μ w → Calls P f vs.toArray w (fun e w' => e = .returned v ∧ Ext w w')) (hd : Nat.blt d n = true)
    (next : QL P n ops K rest ((d, v) :: σ) w0 μ) :
    QL P n ops K (⟨some d, .call ⟨.value (.func f), xs.toArray, tys⟩, ty, pos, aft, g⟩ :: rest) σ w0 μ := fun a hk =>
  ⟨v, .inl ⟨hg _ _ _ _ _ _ hk, fun w hp => by
    unfold Oper.quietAt
    rw [run_call hf hx _ _ _ _ a w hk]
    exact ⟨rfl, (hc w hp).mono fun e w' ⟨he, hx'⟩ => ⟨he, hp.ext hx'⟩⟩⟩, next _ (hk.put hd v)⟩
end
end Go.Proofs.Ytpkmoeenegnonaa.K
