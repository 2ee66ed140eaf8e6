/- A statement whose order is open: one walk in the order of the text, over a class of memories, with a tail of effects. By an AI agent. -/
import Derived.Test.YtgnnlgmeagipjaaKc
import Derived.Deep.Quiet
set_option linter.unusedVariables false
namespace Go.Proofs.Ytgnnlgmeagipjaa.K
open Go Go.RowKit

def befB (B : Array Nat) (j i : Nat) : Bool := (B.getD j 0).testBit i
/-- The operations in the order π. -/
def perm (π : List Nat) (l : List Oper) : List Oper := π.filterMap (l[·]?)
/-- The static check of a region's order, walked in the order π: m operations whose order is free but for what they look at, then a tail in one order. -/
def drpB (l : List Oper) (m : Nat) (π : List Nat) : Bool :=
  let ops := l.toArray
  let B := Region.before ops
  let n := ops.size
  decide (m ≤ n) && Region.noSelect ops && decide (π.length = n) && (List.range n).all (fun i => π.contains i) && decide (π.Pairwise (· ≠ ·)) &&
  (List.range n).all fun p => match π[p]? with
    | none => false
    | some i => match ops[i]? with
      | none => false
      | some oi => (oi.after.all fun e => !Region.binds .any e || (π.take p).contains e.on) &&
        (List.range p).all fun q => match π[q]? with
          | none => false
          | some j => (!befB B i j || oi.after.any fun e => Region.binds .any e && (e.on == j || ((π.take (π.idxOf e.on)).contains j && befB B e.on j))) &&
            (match ops[j]? with
              | none => false
              | some oj => (oj.apart ops oi || befB B i j) && (decide (p < m) || befB B i j))

structure Dr (ops : Array Oper) (B : Array Nat) (m : Nat) (π : List Nat) : Prop where
  le : m ≤ ops.size
  sel : Region.noSelect ops = true
  len : π.length = ops.size
  all : ∀ i : Nat, i < ops.size → ∃ p : Nat, p < ops.size ∧ π[p]? = some i
  inj : ∀ p q i : Nat, π[p]? = some i → π[q]? = some i → p = q
  there : ∀ p i : Nat, π[p]? = some i → ∃ oi, ops[i]? = some oi
  low : ∀ (p i : Nat) (oi : Oper), π[p]? = some i → ops[i]? = some oi → ∀ e ∈ oi.after, Region.binds .any e = true → ∃ q : Nat, q < p ∧ π[q]? = some e.on
  cert : ∀ (p q i j : Nat) (oi : Oper), π[p]? = some i → π[q]? = some j → ops[i]? = some oi → q < p → befB B i j = true → ∃ e ∈ oi.after, Region.binds .any e = true ∧ (e.on = j ∨ ∃ r : Nat, r < p ∧ q < r ∧ π[r]? = some e.on ∧ befB B e.on j = true)
  ord : ∀ (p q i j : Nat) (oi oj : Oper), π[p]? = some i → π[q]? = some j → ops[i]? = some oi → ops[j]? = some oj → q < p → oj.apart ops oi = true ∨ befB B i j = true
  tail : ∀ (p q i j : Nat) (oi : Oper), π[p]? = some i → π[q]? = some j → ops[i]? = some oi → q < p → m ≤ p → befB B i j = true

theorem dr_of {l : List Oper} {m : Nat} {π : List Nat} (h : drpB l m π = true) : Dr l.toArray (Region.before l.toArray) m π := by
  unfold drpB at h
  simp only [Bool.and_eq_true, decide_eq_true_eq] at h
  obtain ⟨⟨⟨⟨⟨h1, h2⟩, h3⟩, h4⟩, hnd0⟩, h5⟩ := h
  have hall : ∀ i, i < l.toArray.size → i ∈ π := fun i hi => by
    have := List.all_eq_true.1 h4 i (List.mem_range.2 hi)
    simpa using this
  have hnd : π.Nodup := hnd0
  have hinj : ∀ p q i : Nat, π[p]? = some i → π[q]? = some i → p = q := fun p q i hp hq => by
    obtain ⟨hp1, hp2⟩ := List.getElem?_eq_some_iff.1 hp
    obtain ⟨hq1, hq2⟩ := List.getElem?_eq_some_iff.1 hq
    exact (List.getElem_inj hnd).1 (hp2.trans hq2.symm)
  have key : ∀ p i : Nat, π[p]? = some i → ∃ oi, l.toArray[i]? = some oi ∧ (oi.after.all fun e => !Region.binds .any e || (π.take p).contains e.on) = true ∧ ∀ q j : Nat, q < p → π[q]? = some j →
      (!befB (Region.before l.toArray) i j || oi.after.any fun e => Region.binds .any e && (e.on == j || ((π.take (π.idxOf e.on)).contains j && befB (Region.before l.toArray) e.on j))) = true ∧
      ∃ oj, l.toArray[j]? = some oj ∧ ((oj.apart l.toArray oi || befB (Region.before l.toArray) i j) && (decide (p < m) || befB (Region.before l.toArray) i j)) = true := by
    intro p i hp
    have hlt : p < l.toArray.size := by rw [← h3]; exact (List.getElem?_eq_some_iff.1 hp).1
    have h6 := List.all_eq_true.1 h5 p (List.mem_range.2 hlt)
    simp only [hp] at h6
    split at h6
    · cases h6
    · rename_i oi hoi
      simp only [Bool.and_eq_true] at h6
      refine ⟨oi, hoi, h6.1, fun q j hq hj => ?_⟩
      have h7 := List.all_eq_true.1 h6.2 q (List.mem_range.2 hq)
      simp only [hj, Bool.and_eq_true] at h7
      refine ⟨h7.1, ?_⟩
      have h8 := h7.2
      split at h8
      · cases h8
      · rename_i oj hoj; exact ⟨oj, hoj, h8⟩
  have mtake : ∀ p j : Nat, j ∈ π.take p → ∃ q : Nat, q < p ∧ π[q]? = some j := fun p j hj => by
    obtain ⟨q, hq⟩ := List.mem_iff_getElem?.1 hj
    rw [List.getElem?_take] at hq
    split at hq
    · rename_i hlt; exact ⟨q, hlt, hq⟩
    · cases hq
  refine ⟨h1, h2, h3, fun i hi => ?_, hinj, fun p i hp => ?_, fun p i oi hp hoi e he hb => ?_, fun p q i j oi hp hq hoi hqp hbf => ?_, fun p q i j oi oj hp hq hoi hoj hqp => ?_, fun p q i j oi hp hq hoi hqp hmp => ?_⟩
  · obtain ⟨p, hp⟩ := List.mem_iff_getElem?.1 (hall i hi)
    exact ⟨p, by rw [← h3]; exact (List.getElem?_eq_some_iff.1 hp).1, hp⟩
  · obtain ⟨oi, h, _⟩ := key p i hp; exact ⟨oi, h⟩
  · obtain ⟨oi', h6, h7, _⟩ := key p i hp
    obtain rfl : oi' = oi := Option.some.inj (h6.symm.trans hoi)
    have h8 := Array.all_eq_true'.1 h7 e he
    simp only [hb, Bool.not_true, Bool.false_or] at h8
    exact mtake p e.on (by simpa using h8)
  · obtain ⟨oi', h6, _, h7⟩ := key p i hp
    obtain rfl : oi' = oi := Option.some.inj (h6.symm.trans hoi)
    have h8 := (h7 q j hqp hq).1
    simp only [hbf, Bool.not_true, Bool.false_or] at h8
    obtain ⟨e, he, hb⟩ := Array.any_eq_true'.1 h8
    simp only [Bool.and_eq_true, Bool.or_eq_true, beq_iff_eq] at hb
    refine ⟨e, he, hb.1, hb.2.imp id fun hh => ?_⟩
    obtain ⟨oi'', h6', h7', _⟩ := key p i hp
    obtain rfl : oi'' = oi' := Option.some.inj (h6'.symm.trans hoi)
    have h9 := Array.all_eq_true'.1 h7' e he
    simp only [hb.1, Bool.not_true, Bool.false_or] at h9
    obtain ⟨r, hr, hre⟩ := mtake p e.on (by simpa using h9)
    have hri : π.idxOf e.on = r := by
      have hrl := (List.getElem?_eq_some_iff.1 hre).1
      have hv := (List.getElem?_eq_some_iff.1 hre).2
      rw [← hv]; exact hnd.idxOf_getElem r hrl
    obtain ⟨q', hq', hqj⟩ := mtake _ j (by simpa using hh.1)
    rw [hri] at hq'
    have : q' = q := hinj q' q j hqj hq
    subst this
    exact ⟨r, hr, hq', hre, hh.2⟩
  · obtain ⟨oi', h6, _, h7⟩ := key p i hp
    obtain rfl : oi' = oi := Option.some.inj (h6.symm.trans hoi)
    obtain ⟨_, oj', h8, h9⟩ := h7 q j hqp hq
    obtain rfl : oj' = oj := Option.some.inj (h8.symm.trans hoj)
    simp only [Bool.and_eq_true, Bool.or_eq_true] at h9
    exact h9.1
  · obtain ⟨oi', h6, _, h7⟩ := key p i hp
    obtain rfl : oi' = oi := Option.some.inj (h6.symm.trans hoi)
    obtain ⟨_, oj', h8, h9⟩ := h7 q j hqp hq
    simp only [Bool.and_eq_true, Bool.or_eq_true, decide_eq_true_eq] at h9
    rcases h9.2 with h | h
    · omega
    · exact h

section
variable {P : Program} {ops og : Array Oper} {B : Array Nat} {m : Nat} {π : List Nat} {C : World → Prop} {Q : Exit → Act → World → Prop}

/-- What has come up, with all that it waits for. -/
def Closed (ops : Array Oper) (L : Array Bool) : Prop := ∀ j oj, ops[j]? = some oj → L.getD j false = true → ∀ e ∈ oj.after, Region.binds .any e = true → L.getD e.on false = true

theorem closed_bef (d : Dr ops B m π) {L : Array Bool} (hc : Closed ops L) : ∀ p : Nat, ∀ (i : Nat) (oi : Oper), π[p]? = some i → ops[i]? = some oi → (∀ e ∈ oi.after, Region.binds .any e = true → L.getD e.on false = true) → ∀ q j : Nat, q < p → π[q]? = some j → befB B i j = true → L.getD j false = true := by
  intro p
  induction p using Nat.strongRecOn with
  | _ p ih =>
    intro i oi hp hoi hall q j hq hj hb
    obtain ⟨e, he, hbi, h⟩ := d.cert p q i j oi hp hj hoi hq hb
    rcases h with h | ⟨r, hr, hqr, hre, hbe⟩
    · rw [← h]; exact hall e he hbi
    · obtain ⟨oe, hoe⟩ := d.there r e.on hre
      exact ih r hr e.on oe hre hoe (fun e' he' hb' => hc _ _ hoe (hall e he hbi) e' he' hb') q j hqr hj hbe

/-- The act behind the first k operations, each with its value. -/
def lexA (ops : Array Oper) (V : Nat → Value) (a : Act) : Nat → Act
  | 0 => a
  | k + 1 => match ops[k]? with
    | some o => (lexA ops V a k).put o.dst (V k)
    | none => lexA ops V a k

/-- The last of the first k operations that has come up and writes the slot t. -/
def lst (ops : Array Oper) (L : Nat → Bool) (t : Nat) : Nat → Option Nat
  | 0 => none
  | k + 1 => if (ops[k]?).bind (·.dst) = some t ∧ L k = true then some k else lst ops L t k

theorem lst_congr {L L' : Nat → Bool} {t : Nat} : ∀ {k : Nat}, (∀ j, j < k → (ops[j]?).bind (·.dst) = some t → L j = L' j) → lst ops L t k = lst ops L' t k
  | 0, _ => rfl
  | k + 1, h => by
    have ih := lst_congr (k := k) (L := L) (L' := L') (t := t) (fun j hj => h j (by omega))
    unfold lst
    rw [ih]
    by_cases hd : (ops[k]?).bind (·.dst) = some t
    · rw [h k (by omega) hd]
    · rw [if_neg (fun hh => hd hh.1), if_neg (fun hh => hd hh.1)]

def slotv (ops : Array Oper) (V : Nat → Value) (a : Act) (L : Nat → Bool) (t : Nat) : Option Value :=
  match lst ops L t ops.size with
  | some j => if t < a.tmps.size then some (V j) else none
  | none => a.tmps[t]?

/-- What a frame must be when just these operations have come up. -/
structure At (ops : Array Oper) (V : Nat → Value) (a0 : Act) (L : Nat → Bool) (a : Act) : Prop where
  defers : a.defers = a0.defers
  size : a.tmps.size = a0.tmps.size
  slot : ∀ t, a.tmps[t]? = slotv ops V a0 L t

theorem lst_insert {L : Nat → Bool} {i : Nat} {t : Nat} {oi : Oper} (hoi : ops[i]? = some oi) (hno : ∀ j, i < j → (ops[j]?).bind (·.dst) = some t → oi.dst = some t → L j = false) :
    ∀ k, i < k → lst ops (fun j => L j || j == i) t k = if oi.dst = some t then (match lst ops L t k with | some j => if i < j then some j else some i | none => some i) else lst ops L t k
  | 0, h => by omega
  | k + 1, h => by
    unfold lst
    by_cases hki : i = k
    · subst hki
      simp only [hoi, Option.bind_some, beq_self_eq_true, Bool.or_true, and_true]
      by_cases hd : oi.dst = some t
      · simp only [hd, if_true, true_and]
        by_cases hL : L i = true
        · simp [hL]
        · have : lst ops L t i = none ∨ ∃ j, lst ops L t i = some j ∧ j < i := by
            have key : ∀ k, lst ops L t k = none ∨ ∃ j, lst ops L t k = some j ∧ j < k := by
              intro k
              induction k with
              | zero => exact .inl rfl
              | succ k ih =>
                unfold lst
                split
                · exact .inr ⟨k, rfl, by omega⟩
                · rcases ih with ih | ⟨j, h1, h2⟩
                  · exact .inl ih
                  · exact .inr ⟨j, h1, by omega⟩
            exact key i
          simp only [hL]
          rcases this with h1 | ⟨j, h1, h2⟩
          · simp [h1]
          · simp [h1, show ¬ i < j from by omega]
      · simp only [hd, if_false, false_and]
        exact lst_congr (fun j hj _ => by simp [show ¬ (j = i) from by omega])
    · have ih := lst_insert hoi hno k (by omega)
      have hbe : (k == i) = false := by simpa using (fun e => hki e.symm)
      simp only [hbe, Bool.or_false]
      by_cases hk : (ops[k]?).bind (·.dst) = some t ∧ L k = true
      · rw [if_pos hk, if_pos hk]
        by_cases hd : oi.dst = some t
        · have := hno k (by omega) hk.1 hd
          rw [hk.2] at this; cases this
        · simp [hd]
      · rw [if_neg hk, if_neg hk]; exact ih

theorem lst_none {L : Nat → Bool} {t : Nat} : ∀ {k : Nat}, (∀ j, j < k → (ops[j]?).bind (·.dst) = some t → L j = false) → lst ops L t k = none
  | 0, _ => rfl
  | k + 1, h => by
    unfold lst
    rw [if_neg (fun hh => by rw [h k (by omega) hh.1] at hh; cases hh.2)]
    exact lst_none (fun j hj => h j (by omega))

theorem lst_le {L : Nat → Bool} {t i : Nat} : ∀ {k : Nat} {j : Nat}, (∀ j, i < j → (ops[j]?).bind (·.dst) = some t → L j = false) → lst ops L t k = some j → j ≤ i
  | 0, _, _, h => by cases h
  | k + 1, j, hno, h => by
    unfold lst at h
    split at h
    · rename_i hh
      obtain rfl := Option.some.inj h
      rcases Nat.lt_or_ge i k with hlt | hge
      · have := hno k hlt hh.1
        rw [hh.2] at this; cases this.symm
      · exact hge
    · exact lst_le hno h

theorem At.put {V : Nat → Value} {a0 a : Act} {L : Nat → Bool} (h : At ops V a0 L a) {i : Nat} {oi : Oper} (hoi : ops[i]? = some oi) (hno : ∀ j t, i < j → (ops[j]?).bind (·.dst) = some t → oi.dst = some t → L j = false) :
    At ops V a0 (fun j => L j || j == i) (a.put oi.dst (V i)) := by
  have hi : i < ops.size := (Array.getElem?_eq_some_iff.1 hoi).1
  cases hd : oi.dst with
  | none =>
    refine ⟨h.defers, h.size, fun t => ?_⟩
    have := lst_insert (L := L) (t := t) hoi (fun j hj h1 h2 => hno j t hj h1 h2) ops.size hi
    rw [hd] at this
    simp only [Act.put, slotv, this]
    rw [h.slot t]; rfl
  | some d =>
    refine ⟨h.defers, by simp [Act.put, h.size], fun t => ?_⟩
    have := lst_insert (L := L) (t := t) hoi (fun j hj h1 h2 => hno j t hj h1 h2) ops.size hi
    rw [hd] at this
    simp only [slotv]
    rw [this]
    by_cases hdt : d = t
    · subst hdt
      simp only [if_true]
      have hle : ∀ j, lst ops L d ops.size = some j → j ≤ i := fun j hj => lst_le (fun j' hj' h1 => hno j' d hj' h1 hd) hj
      have hV : (match (match lst ops L d ops.size with | some j => if i < j then some j else some i | none => some i) with
          | some j => if d < a0.tmps.size then some (V j) else none | none => a0.tmps[d]?) = if d < a0.tmps.size then some (V i) else none := by
        cases hl : lst ops L d ops.size with
        | none => rfl
        | some j => have := hle j hl; simp [show ¬ i < j from by omega]
      rw [hV]
      simp only [Act.put]
      by_cases hlt : d < a0.tmps.size
      · simp [hlt, h.size]
      · rw [if_neg hlt]; simp [h.size, Nat.not_lt.1 hlt]
    · have : (some d = some t) = False := by simpa using hdt
      simp only [this, if_false]
      simp only [Act.put]
      rw [Array.getElem?_setIfInBounds_ne hdt, h.slot t]; rfl

theorem At.congr {V : Nat → Value} {a0 a : Act} {L L' : Nat → Bool} (h : At ops V a0 L a) (hc : ∀ j, j < ops.size → L j = L' j) : At ops V a0 L' a :=
  ⟨h.defers, h.size, fun t => by rw [h.slot t]; unfold slotv; rw [lst_congr (L' := L') (fun j hj _ => hc j hj)]⟩

theorem At.ext {V : Nat → Value} {a0 a b : Act} {L : Nat → Bool} (h : At ops V a0 L a) (k : At ops V a0 L b) : a = b := by
  obtain ⟨ta, da⟩ := a
  obtain ⟨tb, db⟩ := b
  have h1 : da = db := h.defers.trans k.defers.symm
  have h2 : ta = tb := Array.ext (h.size.trans k.size.symm) (fun i hi hj => by
    have := (h.slot i).trans (k.slot i).symm
    simp only [Array.getElem?_eq_getElem hi, Array.getElem?_eq_getElem hj] at this
    exact Option.some.inj this)
  rw [h1, h2]

theorem lexA_at (V : Nat → Value) (a0 : Act) : ∀ k, k ≤ ops.size → At ops V a0 (fun j => decide (j < k)) (lexA ops V a0 k)
  | 0, _ => ⟨rfl, rfl, fun t => by
      simp only [lexA, slotv]
      rw [lst_none (fun j _ _ => by simp)]⟩
  | k + 1, hk => by
    have ih := lexA_at V a0 k (by omega)
    have ho : ops[k]? = some ops[k] := Array.getElem?_eq_getElem (by omega)
    simp only [lexA, ho]
    refine (ih.put ho (fun j t hj _ _ => by simp; omega)).congr (fun j _ => ?_)
    by_cases hjk : j = k
    · subst hjk; simp
    · have hb : (j == k) = false := by simpa using hjk
      rw [hb, Bool.or_false]
      exact decide_eq_decide.2 (by omega)

/-- In state a, in every world of the class, the operation yields v (or is passed over, v being undef), and leaves a world of the class. -/
def Yl (P : Program) (ops : Array Oper) (C : World → Prop) (o : Oper) (v : Value) (a : Act) : Prop :=
  (Region.wanted o (yielded ops a.tmps) = true ∧ ∀ w, C w → o.quietAt P a C w v) ∨ (Region.wanted o (yielded ops a.tmps) = false ∧ v = undef)

def lq (P : Program) (ops : Array Oper) (C : World → Prop) (K : Act → Prop) : List Oper → Act → Prop
  | [], a => K a
  | o :: rest, a => ∃ v, Yl P ops C o v a ∧ lq P ops C K rest (a.put o.dst v)

theorem lq_vals {K : Act → Prop} : ∀ (r k : Nat) (l : List Oper) (a0 : Act) (V : Nat → Value), l.length = r → (∀ j, j < r → l[j]? = ops[k + j]?) → lq P og C K l (lexA ops V a0 k) →
    ∃ V' : Nat → Value, (∀ j, j < k → V' j = V j) ∧ (∀ j o, k ≤ j → j < k + r → ops[j]? = some o → Yl P og C o (V' j) (lexA ops V' a0 j)) ∧ K (lexA ops V' a0 (k + r))
  | 0, k, l, a0, V, hr, _, h => by
    have : l = [] := List.length_eq_zero_iff.1 hr
    subst this
    exact ⟨V, fun _ _ => rfl, fun j o h1 h2 => by omega, h⟩
  | r + 1, k, l, a0, V, hr, hl, h => by
    match l, hr with
    | o :: l', hr =>
      obtain ⟨v, hy, hrest⟩ := h
      have ho : ops[k]? = some o := by have := hl 0 (by omega); simpa using this.symm
      let V1 : Nat → Value := fun j => if j = k then v else V j
      have hpre : ∀ j, j ≤ k → lexA ops V1 a0 j = lexA ops V a0 j := by
        intro j
        induction j with
        | zero => intro _; rfl
        | succ j ih =>
          intro hj
          simp only [lexA]
          rw [ih (by omega), show V1 j = V j from if_neg (by omega)]
      have hstep : lexA ops V1 a0 (k + 1) = (lexA ops V a0 k).put o.dst v := by
        simp only [lexA, ho]
        rw [hpre k (Nat.le_refl _), show V1 k = v from if_pos rfl]
      rw [← hstep] at hrest
      obtain ⟨V', h1, h2, h3⟩ := lq_vals r (k + 1) l' a0 V1 (by simpa using hr) (fun j hj => by
        have := hl (j + 1) (by omega)
        rw [List.getElem?_cons_succ] at this
        rw [this]; congr 1; omega) hrest
      have hsame : ∀ j, j ≤ k → lexA ops V' a0 j = lexA ops V1 a0 j := by
        intro j
        induction j with
        | zero => intro _; rfl
        | succ j ih =>
          intro hj
          simp only [lexA]
          rw [ih (by omega), h1 j (by omega)]
      refine ⟨V', fun j hj => by rw [h1 j (by omega)]; exact if_neg (by omega), fun j o' hj1 hj2 ho' => ?_, by rw [show k + (r + 1) = k + 1 + r from by omega]; exact h3⟩
      by_cases hjk : j = k
      · subst hjk
        have : o' = o := Option.some.inj (ho'.symm.trans ho)
        subst this
        rw [h1 j (by omega), hsame j (Nat.le_refl _), hpre j (Nat.le_refl _), show V1 j = v from if_pos rfl]
        exact hy
      · exact h2 j o' (by omega) (by omega) ho'

/-- How many have not come up. -/
def unl (L : Array Bool) : Nat → Nat
  | 0 => 0
  | k + 1 => unl L k + if L.getD k true = true then 0 else 1

theorem unl_set {L : Array Bool} {i : Nat} (hi : L.getD i true = false) : ∀ k, unl (L.setIfInBounds i true) k + (if i < k then 1 else 0) = unl L k
  | 0 => by simp [unl]
  | k + 1 => by
    have ih := unl_set hi k
    simp only [unl]
    by_cases hik : i = k
    · subst hik
      have hlt : i < L.size := by
        rcases Nat.lt_or_ge i L.size with h | h
        · exact h
        · simp [Array.getElem?_eq_none h] at hi
      have h1 : (L.setIfInBounds i true).getD i true = true := by simp [hlt]
      rw [h1, hi]
      simp at ih
      simp
      omega
    · rw [getD_set_ne true hik]
      have he : (if i < k + 1 then 1 else 0) = (if i < k then 1 else 0) := by
        by_cases h : i < k
        · rw [if_pos h, if_pos (Nat.lt_succ_of_lt h)]
        · rw [if_neg h, if_neg (fun h' => h (by omega))]
      rw [he]; omega

theorem unl_zero {L : Array Bool} : ∀ {k : Nat}, unl L k = 0 → ∀ j, j < k → L.getD j true = true
  | 0, _, j, h => by omega
  | k + 1, h, j, hj => by
    simp only [unl] at h
    by_cases hjk : j = k
    · subst hjk
      split at h
      · assumption
      · omega
    · exact unl_zero (k := k) (by omega) j (by omega)

theorem getD_tf {L : Array Bool} {j : Nat} (h : L.getD j false = true) : L.getD j true = true := by
  rcases Nat.lt_or_ge j L.size with h' | h'
  · simp [h'] at h ⊢; exact h
  · simp [Array.getElem?_eq_none h']
theorem getD_ft {L : Array Bool} {j : Nat} (hj : j < L.size) (h : L.getD j true = true) : L.getD j false = true := by
  simp [hj] at h ⊢; exact h
theorem getD_ff {L : Array Bool} {j : Nat} (h : L.getD j true = false) : L.getD j false = false := by
  cases hh : L.getD j false with
  | false => rfl
  | true => rw [getD_tf hh] at h; cases h

/-- The least that has not come up may come up. -/
theorem least_ready (d : Dr ops B m π) {L : Array Bool} (hs : L.size = ops.size) {p i : Nat} (hp : π[p]? = some i) (hun : L.getD i true = false) (hall : ∀ q j, q < p → π[q]? = some j → L.getD j true = true) : i ∈ Region.ready .any ops L := by
  obtain ⟨oi, hoi⟩ := d.there p i hp
  refine mem_ready.2 ⟨hun, oi, hoi, fun e he hb => ?_⟩
  obtain ⟨q, hq, hqe⟩ := d.low p i oi hp hoi e he hb
  obtain ⟨oe, hoe⟩ := d.there q _ hqe
  have hlt : e.on < ops.size := (Array.getElem?_eq_some_iff.1 hoe).1
  exact getD_ft (by omega) (hall q _ hq hqe)

theorem least_exists {f : Nat → Bool} : ∀ (k : Nat), (∀ i, i < k → f i = true) ∨ ∃ j, j < k ∧ f j = false ∧ ∀ i, i < j → f i = true
  | 0 => .inl (fun i hi => by omega)
  | k + 1 => by
    rcases least_exists (f := f) k with h | ⟨j, h1, h2, h3⟩
    · cases hk : f k with
      | true => exact .inl (fun i hi => by
          by_cases hik : i = k
          · subst hik; exact hk
          · exact h i (by omega))
      | false => exact .inr ⟨k, by omega, hk, h⟩
    · exact .inr ⟨j, by omega, h2, h3⟩

theorem closed_set {L : Array Bool} (hc : Closed ops L) {i : Nat} {oi : Oper} (hoi : ops[i]? = some oi) (hall : ∀ e ∈ oi.after, Region.binds .any e = true → L.getD e.on false = true) : Closed ops (L.setIfInBounds i true) := by
  intro j oj hj hl e he hb
  by_cases hij : i = j
  · subst hij
    have : oj = oi := Option.some.inj (hj.symm.trans hoi)
    subst this
    exact getD_set_true (hall e he hb)
  · rw [getD_set_ne false hij] at hl
    exact getD_set_true (hc j oj hj hl e he hb)

/-- The tail: one order. -/
theorem tail_any (d : Dr ops B m π) : ∀ (fuel k : Nat) (L : Array Bool) (l : List Oper) (a : Act) (w : World), L.size = ops.size → m ≤ k → Closed ops L → (∀ p i, π[p]? = some i → L.getD i true = decide (p < k)) → (∀ j, l[j]? = (π[k + j]?).bind (ops[·]?)) →
    unl L ops.size = fuel → wpList P ops Q l a w → wpAny P .any ops Q fuel L a w := by
  intro fuel
  induction fuel with
  | zero =>
    intro k L l a w hs hmk hc hL hl hf h
    have hall := unl_zero hf
    have hnone : π[k]? = none := by
      cases hk : π[k]? with
      | none => rfl
      | some i =>
        obtain ⟨oi, hoi⟩ := d.there k i hk
        have h1 := hall i (Array.getElem?_eq_some_iff.1 hoi).1
        rw [hL k i hk] at h1; simp at h1
    have : l = [] := by
      have := hl 0
      rw [Nat.add_zero, hnone] at this
      cases l with
      | nil => rfl
      | cons x r => simp at this
    subst this
    refine ⟨?_, h⟩
    cases hr : Region.ready .any ops L with
    | nil => rfl
    | cons x r =>
      have hx : x ∈ Region.ready .any ops L := by rw [hr]; simp
      obtain ⟨h1, o, h2, _⟩ := mem_ready.1 hx
      rw [hall x (Array.getElem?_eq_some_iff.1 h2).1] at h1; cases h1
  | succ fuel ih =>
    intro k L l a w hs hmk hc hL hl hf h
    have hkn : ∃ i, π[k]? = some i := by
      cases hk : π[k]? with
      | some i => exact ⟨i, rfl⟩
      | none =>
        exfalso
        have hkl : π.length ≤ k := List.getElem?_eq_none_iff.1 hk
        have hz : ∀ r, r ≤ ops.size → unl L r = 0 := by
          intro r
          induction r with
          | zero => intro _; rfl
          | succ r ihr =>
            intro hr
            simp only [unl]
            rw [ihr (by omega)]
            obtain ⟨p, hp1, hp2⟩ := d.all r (by omega)
            rw [hL p r hp2, show decide (p < k) = true from by have := d.len; simp; omega]; rfl
        rw [hz _ (Nat.le_refl _)] at hf; cases hf
    obtain ⟨ik, hik⟩ := hkn
    obtain ⟨ok, hok⟩ := d.there k ik hik
    have hin := (Array.getElem?_eq_some_iff.1 hok).1
    have hk : L.getD ik true = false := by rw [hL k ik hik]; simp
    match l, hl, h with
    | [], hl, h => have := hl 0; rw [Nat.add_zero, hik, Option.bind_some, hok] at this; simp at this
    | o :: l', hl, h =>
      have ho : ok = o := by have := hl 0; rw [Nat.add_zero, hik, Option.bind_some, hok] at this; simpa using this.symm
      subst ho
      have hrdy : ik ∈ Region.ready .any ops L := least_ready d hs hik hk (fun q j hq hj => by rw [hL q j hj]; simpa using hq)
      refine ⟨fun h0 => (by rw [h0] at hrdy; cases hrdy), fun i hi => ?_⟩
      have hii : i = ik := by
        obtain ⟨h1, oi, h2, h3⟩ := mem_ready.1 hi
        obtain ⟨p, _, hp⟩ := d.all i (Array.getElem?_eq_some_iff.1 h2).1
        rw [hL p i hp] at h1
        have hge : k ≤ p := by simpa using h1
        rcases Nat.lt_or_ge k p with hlt | hge'
        · have hb := d.tail p k i ik oi hp hik h2 hlt (by omega)
          have := closed_bef d hc p i oi hp h2 h3 k ik hlt hik hb
          rw [getD_ff hk] at this; cases this
        · have : p = k := by omega
          subst this
          exact Option.some.inj (hp.symm.trans hik)
      subst hii
      have hnext : ∀ a' w', wpList P ops Q l' a' w' → wpAny P .any ops Q fuel (L.setIfInBounds i true) a' w' := fun a' w' h' =>
        ih (k + 1) _ l' a' w' (by simp [hs]) (by omega) (closed_set hc hok (by obtain ⟨_, oi, h2, h3⟩ := mem_ready.1 hi; rw [hok] at h2; obtain rfl := Option.some.inj h2; exact h3))
          (fun p j hp => by
            by_cases hij : i = j
            · subst hij
              have : p = k := d.inj p k i hp hik
              subst this
              simp [hs, hin]
            · rw [getD_set_ne true hij, hL p j hp]
              have : p ≠ k := fun e => hij (by subst e; exact (Option.some.inj (hp.symm.trans hik)).symm)
              exact decide_eq_decide.2 (by omega))
          (fun j => by
            have := hl (j + 1)
            rw [List.getElem?_cons_succ] at this
            rw [this]; congr 2; omega)
          (by have := unl_set hk ops.size; rw [if_pos hin] at this; omega) h'
      unfold wpOp
      simp only [hok]
      simp only [wpList] at h
      split
      · rename_i hw
        rw [if_pos hw] at h
        exact h.imp (Oper.wp_mono hnext) id
      · rename_i hw
        rw [if_neg hw] at h
        exact hnext _ _ h

theorem looks_bound {o : Oper} {x : Operand} (hx : x ∈ o.op.operands) {t : Nat} (ht : x = .tmp t) : t ∈ o.looksAt ops := by
  subst ht
  exact List.mem_append_left _ (List.mem_filterMap.2 ⟨.tmp t, by simpa using hx, rfl⟩)

theorem exec_same {o : Oper} (hs : ∀ cs b, o.op ≠ .select cs b) {a b : Act} (h : ∀ t, t ∈ o.looksAt ops → a.tmps[t]? = b.tmps[t]?) : execOp a.eval o = execOp b.eval o :=
  execOp_congr o hs fun x hx => by
    cases x with
    | tmp t =>
      have := h t (looks_bound hx rfl)
      simp only [Act.eval, Array.getD_eq_getD_getElem?, this]
    | _ => rfl

theorem wanted_same {o : Oper} {a b : Act} (h : ∀ t, t ∈ o.looksAt ops → a.tmps[t]? = b.tmps[t]?) : Region.wanted o (yielded ops a.tmps) = Region.wanted o (yielded ops b.tmps) := by
  unfold Region.wanted
  cases hg : o.guard with
  | none => rfl
  | some gw =>
    obtain ⟨g, want⟩ := gw
    have hy : yielded ops a.tmps g = yielded ops b.tmps g := by
      unfold yielded
      cases ht : (ops[g]?).bind (·.dst) with
      | none => rfl
      | some t =>
        have := h t (by simp [Oper.looksAt, hg, ht])
        simp only [Option.bind_some, this]
    simp only [hy]

theorem head_any (d : Dr ops B m π) {po : Array Oper} (hpo : ∀ p : Nat, po[p]? = (π[p]?).bind (ops[·]?)) (hps : po.size = ops.size) {V : Nat → Value} {a0 : Act} (hy : ∀ j o, j < m → po[j]? = some o → Yl P ops C o (V j) (lexA po V a0 j))
    {lt : List Oper} (hlt : ∀ j, lt[j]? = (π[m + j]?).bind (ops[·]?)) (hK : ∀ w, C w → wpList P ops Q lt (lexA po V a0 m) w) :
    ∀ (fuel : Nat) (L : Array Bool) (a : Act) (w : World), L.size = ops.size → Closed ops L → (∀ p i, m ≤ p → π[p]? = some i → L.getD i true = false) → At po V a0 (fun p => match π[p]? with | some i => L.getD i false | none => false) a → C w →
      unl L ops.size = fuel → wpAny P .any ops Q fuel L a w := by
  have hat_idx : ∀ p o, po[p]? = some o → ∃ i, π[p]? = some i ∧ ops[i]? = some o := fun p o h => by
    rw [hpo] at h
    cases hp : π[p]? with
    | none => rw [hp] at h; cases h
    | some i => rw [hp] at h; exact ⟨i, hp, h⟩
  have hpi : ∀ p i oi, π[p]? = some i → ops[i]? = some oi → po[p]? = some oi := fun p i oi hp hi => by rw [hpo, hp]; exact hi
  have done : ∀ (fuel : Nat) (L : Array Bool) (a : Act) (w : World), L.size = ops.size → Closed ops L → (∀ p i, m ≤ p → π[p]? = some i → L.getD i true = false) → At po V a0 (fun p => match π[p]? with | some i => L.getD i false | none => false) a → C w →
      unl L ops.size = fuel → (∀ p i, p < m → π[p]? = some i → L.getD i true = true) → wpAny P .any ops Q fuel L a w := by
    intro fuel L a w hs hc htl hat hw hf hall
    have hL : ∀ p, p < po.size → (match π[p]? with | some i => L.getD i false | none => false) = decide (p < m) := fun p hp => by
      obtain ⟨i, hi⟩ : ∃ i, π[p]? = some i := ⟨_, List.getElem?_eq_getElem (by have := d.len; omega)⟩
      obtain ⟨oi, hoi⟩ := d.there p i hi
      have hin := (Array.getElem?_eq_some_iff.1 hoi).1
      simp only [hi]
      by_cases hpm : p < m
      · rw [getD_ft (by omega) (hall p i hpm hi)]; simp [hpm]
      · rw [getD_ff (htl p i (by omega) hi)]; simp [hpm]
    have he := (hat.congr hL).ext (lexA_at V a0 m (by rw [hps]; exact d.le))
    refine tail_any d fuel m L lt a w hs (Nat.le_refl _) hc (fun p i hp => ?_) hlt hf (by rw [he]; exact hK w hw)
    by_cases hpm : p < m
    · rw [hall p i hpm hp]; simp [hpm]
    · rw [htl p i (by omega) hp]; simp [hpm]
  intro fuel
  induction fuel with
  | zero =>
    intro L a w hs hc htl hat hw hf
    have hall := unl_zero hf
    exact done 0 L a w hs hc htl hat hw hf (fun p i _ hp => by
      obtain ⟨oi, hoi⟩ := d.there p i hp
      exact hall i (Array.getElem?_eq_some_iff.1 hoi).1)
  | succ fuel ih =>
    intro L a w hs hc htl hat hw hf
    rcases least_exists (f := fun p => match π[p]? with | some i => L.getD i true | none => true) m with hall | ⟨p0, hp0, hun0, hlow0⟩
    · exact done _ L a w hs hc htl hat hw hf (fun p i hpm hp => by have := hall p hpm; simpa only [hp] using this)
    · have hle := d.le
      obtain ⟨i0, hi0⟩ : ∃ i, π[p0]? = some i := ⟨_, List.getElem?_eq_getElem (by have := d.len; omega)⟩
      simp only [hi0] at hun0
      have hr0 := least_ready d hs hi0 hun0 (fun q j hq hj => by have := hlow0 q hq; simpa only [hj] using this)
      refine ⟨fun h0 => (by rw [h0] at hr0; cases hr0), fun i hi => ?_⟩
      obtain ⟨hun, oi, hoi, hall⟩ := mem_ready.1 hi
      have hin := (Array.getElem?_eq_some_iff.1 hoi).1
      obtain ⟨p, hpn, hp⟩ := d.all i hin
      have hpm : p < m := by
        rcases Nat.lt_or_ge p m with h | h
        · exact h
        · have := closed_bef d hc p i oi hp hoi hall p0 i0 (by omega) hi0 (d.tail p p0 i i0 oi hp hi0 hoi (by omega) h)
          rw [getD_ff hun0] at this; cases this
      have hpo' := hpi p i oi hp hoi
      -- the slots that it looks at hold what they hold in the order of the walk
      have hsame : ∀ t, t ∈ oi.looksAt ops → a.tmps[t]? = (lexA po V a0 p).tmps[t]? := by
        intro t ht
        rw [hat.slot t, (lexA_at V a0 p (by omega)).slot t]
        unfold slotv
        rw [lst_congr (L' := fun j => decide (j < p))]
        intro q hq hdst
        have hoq : po[q]? = some po[q] := Array.getElem?_eq_getElem hq
        rw [hoq] at hdst
        simp only [Option.bind_some] at hdst
        obtain ⟨j, hj, hoj⟩ := hat_idx q _ hoq
        simp only [hj]
        rcases Nat.lt_trichotomy q p with hqp | hqp | hqp
        · have hb : befB B i j = true := by
            rcases d.ord p q i j oi _ hp hj hoi hoj hqp with h | h
            · exact absurd ht ((Oper.apart_spec h).1 t hdst)
            · exact h
          rw [closed_bef d hc p i oi hp hoi hall q j hqp hj hb]; simp [hqp]
        · subst hqp
          obtain rfl : i = j := Option.some.inj (hp.symm.trans hj)
          rw [getD_ff hun]; simp
        · have hb : befB B j i = true := by
            rcases d.ord q p j i _ oi hj hp hoj hoi hqp with h | h
            · exact absurd ht ((Oper.apart_spec h).2.2 t hdst)
            · exact h
          cases hl : L.getD j false with
          | false => simp; omega
          | true =>
            have := closed_bef d hc q j _ hj hoj (fun e he hbe => hc j _ hoj hl e he hbe) p i hqp hp hb
            rw [getD_ff hun] at this; cases this
      have hno : ∀ q t, p < q → (po[q]?).bind (·.dst) = some t → oi.dst = some t → (match π[q]? with | some i => L.getD i false | none => false) = false := by
        intro q t hpq hdst hdi
        cases hoq : po[q]? with
        | none => rw [hoq] at hdst; cases hdst
        | some oj =>
          rw [hoq] at hdst
          simp only [Option.bind_some] at hdst
          obtain ⟨j, hj, hoj⟩ := hat_idx q _ hoq
          simp only [hj]
          have hb : befB B j i = true := by
            rcases d.ord q p j i oj oi hj hp hoj hoi hpq with h | h
            · exact absurd hdst ((Oper.apart_spec h).2.1 t hdi)
            · exact h
          cases hl : L.getD j false with
          | false => rfl
          | true =>
            have := closed_bef d hc q j oj hj hoj (fun e he hbe => hc j oj hoj hl e he hbe) p i hpq hp hb
            rw [getD_ff hun] at this; cases this
      have hcs := closed_set hc hoi hall
      have hat' : At po V a0 (fun q => match π[q]? with | some j => (L.setIfInBounds i true).getD j false | none => false) (a.put oi.dst (V p)) := (hat.put hpo' hno).congr (fun q hq => by
        cases hj : π[q]? with
        | none => simp only [Bool.false_or, beq_eq_false_iff_ne]; intro e; subst e; rw [hp] at hj; cases hj
        | some j =>
          simp only
          by_cases hqp : q = p
          · subst hqp
            obtain rfl : i = j := Option.some.inj (hp.symm.trans hj)
            simp [hs, hin]
          · have hij : i ≠ j := fun e => hqp (d.inj q p i (by rw [e]; exact hj) hp)
            rw [getD_set_ne false hij]
            have : (q == p) = false := by simpa using hqp
            rw [this, Bool.or_false])
      have hnext : ∀ w', C w' → wpAny P .any ops Q fuel (L.setIfInBounds i true) (a.put oi.dst (V p)) w' := fun w' hw' =>
        ih _ _ w' (by simp [hs]) hcs (fun q j hq hj => by
          have hij : i ≠ j := fun e => by
            have := d.inj q p i (by rw [e]; exact hj) hp
            omega
          rw [getD_set_ne true hij]; exact htl q j hq hj) hat' hw' (by have := unl_set hun ops.size; rw [if_pos hin] at this; omega)
      have hsel := Region.noSelect_spec d.sel i oi
      have hex := exec_same (o := oi) (fun cs b => hsel cs b hoi) hsame
      have hwa := wanted_same (o := oi) hsame
      unfold wpOp
      simp only [hoi]
      rcases hy p oi hpm hpo' with ⟨h1, h2⟩ | ⟨h1, h2⟩
      · rw [if_pos (by rw [hwa]; exact h1)]
        refine .inl ?_
        have h3 := h2 w hw
        unfold Oper.quietAt at h3
        unfold Oper.wp
        rw [hex]
        generalize (execOp (lexA po V a0 p).eval oi).run P w = r at *
        cases r with
        | ok nx w' =>
          cases nx <;> simp only [Oper.quietUpon] at h3 <;> simp only [Oper.upon]
          case value u => obtain ⟨e1, e2⟩ := h3; rw [e1, e2]; exact hnext w hw
          case skip => obtain ⟨e1, e2⟩ := h3; rw [e1, ← e2]; exact hnext w hw
          case enter f args =>
            obtain ⟨e1, hcall⟩ := h3
            rw [e1]
            exact hcall.mono fun e w'' ⟨he, hw''⟩ => by subst he; exact hnext w'' hw''
        | halt x w' => simp only [Oper.quietUpon] at h3
      · rw [if_neg (by rw [hwa, h1]; exact Bool.false_ne_true), ← h2]
        exact hnext w hw

/-- One walk, in the order π, serves every order; a tail of effects behind it. -/
theorem wp_region_drp {id : Nat} {l : List Oper} {m : Nat} {π : List Nat} {a : Act} {w : World} (hm : P.follows .mixedOrders = true) (hB : drpB l m π = true) (hC : C { w with drawn := w.drawn + 1 })
    (h : lq P l.toArray C (fun a' => ∀ w', C w' → wpList P l.toArray Q ((perm π l).drop m) a' w') ((perm π l).take m) a) : (Code.region id l.toArray true).wp P Q a w := by
  have d := dr_of hB
  have hle := d.le
  have hlen := d.len
  simp only [List.size_toArray] at hle hlen
  have hperm : ∀ p : Nat, (perm π l)[p]? = (π[p]?).bind (l.toArray[·]?) := by
    have : ∀ (ρ : List Nat), (∀ i ∈ ρ, i < l.length) → ∀ p : Nat, (ρ.filterMap (l[·]?))[p]? = (ρ[p]?).bind (l.toArray[·]?) := by
      intro ρ
      induction ρ with
      | nil => intro _ p; simp
      | cons i ρ ih =>
        intro hρ p
        have hi : i < l.length := hρ i (by simp)
        rw [List.filterMap_cons_some (List.getElem?_eq_getElem hi)]
        cases p with
        | zero => simp [hi]
        | succ p => simpa using ih (fun j hj => hρ j (by simp [hj])) p
    exact this π (fun i hi => by
      obtain ⟨p, hp⟩ := List.mem_iff_getElem?.1 hi
      obtain ⟨oi, hoi⟩ := d.there p i hp
      simpa using (Array.getElem?_eq_some_iff.1 hoi).1)
  have hpl : (perm π l).length = l.length := by
    have h1 : ∀ p : Nat, p < l.length → ∃ o, (perm π l)[p]? = some o := fun p hp => by
      obtain ⟨i, hi⟩ : ∃ i, π[p]? = some i := ⟨_, List.getElem?_eq_getElem (by omega)⟩
      obtain ⟨oi, hoi⟩ := d.there p i hi
      exact ⟨oi, by rw [hperm, hi]; exact hoi⟩
    have h2 : (perm π l).length ≤ π.length := List.length_filterMap_le _ _
    rcases Nat.lt_or_ge (perm π l).length l.length with h3 | h3
    · obtain ⟨o, ho⟩ := h1 _ h3
      have := (List.getElem?_eq_some_iff.1 ho).1
      omega
    · omega
  obtain ⟨V, _, h2, h3⟩ := lq_vals (ops := (perm π l).toArray) m 0 ((perm π l).take m) a (fun _ => undef) (by simp; omega) (fun j hj => by simp [hj]) h
  refine wp_region_any hm (head_any d (po := (perm π l).toArray) (fun p => by simpa using hperm p) (by simp [hpl]) (V := V) (a0 := a) (fun j o hj ho => h2 j o (Nat.zero_le _) (by omega) ho) (lt := (perm π l).drop m) (fun j => by rw [List.getElem?_drop]; exact hperm _) (by simpa using h3) _ _ _ _ (by simp) ?_ ?_ ?_ hC ?_)
  · intro j oj _ hl
    rcases Nat.lt_or_ge j l.length with h | h <;> simp [h] at hl
  · intro p i _ hp
    obtain ⟨oi, hoi⟩ := d.there p i hp
    have hj := (Array.getElem?_eq_some_iff.1 hoi).1
    simp only [List.size_toArray] at hj
    simp [hj]
  · refine ⟨rfl, rfl, fun t => ?_⟩
    unfold slotv
    rw [lst_none (fun p hp _ => by
      cases hq : π[p]? with
      | none => rfl
      | some j => rcases Nat.lt_or_ge j l.length with h | h <;> simp [h])]
  · have : ∀ k, k ≤ l.length → unl (Array.replicate l.toArray.size false) k = k := by
      intro k
      induction k with
      | zero => intro _; rfl
      | succ k ih =>
        intro hk
        simp only [unl]
        rw [ih (by omega)]
        simp [show k < l.length from by omega]
    simpa using this _ (Nat.le_refl _)

def drB (l : List Oper) (m : Nat) : Bool := drpB l m (List.range l.length)
theorem perm_range (l : List Oper) : perm (List.range l.length) l = l := by
  unfold perm
  have : ∀ (l : List Oper) (k : Nat) (r : List Oper), (∀ j, l[j]? = r[k + j]?) → (List.range' k l.length).filterMap (r[·]?) = l := by
    intro l
    induction l with
    | nil => intro k r _; rfl
    | cons o l ih =>
      intro k r h
      have h0 : r[k]? = some o := by have := h 0; simpa using this.symm
      rw [List.length_cons, List.range'_succ, List.filterMap_cons_some h0, ih (k + 1) r (fun j => by
        have := h (j + 1)
        rw [List.getElem?_cons_succ] at this
        rw [this]; congr 1; omega)]
  rw [List.range_eq_range']
  exact this l 0 l (fun j => by simp)

/-- One walk of the order of the text serves every order; a tail of effects behind it. -/
theorem wp_region_dr {id : Nat} {l : List Oper} {m : Nat} {a : Act} {w : World} (hm : P.follows .mixedOrders = true) (hB : drB l m = true) (hC : C { w with drawn := w.drawn + 1 })
    (h : lq P l.toArray C (fun a' => ∀ w', C w' → wpList P l.toArray Q (l.drop m) a' w') (l.take m) a) : (Code.region id l.toArray true).wp P Q a w :=
  wp_region_drp hm hB hC (by rw [perm_range]; exact h)
end

section
variable {P : Program} {n : Nat} {Q : Exit → Act → World → Prop} {σ : List (Nat × Value)} {w0 : Base} {μ : List Ent} {ops : Array Oper} {rest : List Oper}
variable {ty : TypeId} {pos : String} {aft : Array Edge} {K : Act → Prop}

theorem Hp.drawn {w : World} (h : Hp w0 μ w) : Hp w0 μ { w with drawn := w.drawn + 1 } := ⟨h.os, h.tape, h.output, h.size, h.frame, h.ents, h.nodup⟩

def QL (P : Program) (n : Nat) (ops : Array Oper) (K : Act → Prop) (l : List Oper) (σ : List (Nat × Value)) (w0 : Base) (μ : List Ent) : Prop :=
  ∀ a, Kn σ n a → lq P ops (Hp w0 μ) K l a

theorem ct_dr {id : Nat} {l : List Oper} (m : Nat) (hm : P.follows .mixedOrders = true) (hB : drB l m = true)
    (h : QL P n l.toArray (fun a' => ∀ w', Hp w0 μ w' → wpList P l.toArray Q (l.drop m) a' w') (l.take m) σ w0 μ) : CT P n (.region id l.toArray true) Q σ w0 μ :=
  fun a w hk hp => wp_region_dr hm hB hp.drawn (h a hk)

/-- The walk in another order than the text's. -/
theorem ct_drp {id : Nat} {l : List Oper} (m : Nat) (π : List Nat) (hm : P.follows .mixedOrders = true) (hB : drpB l m π = true)
    (h : QL P n l.toArray (fun a' => ∀ w', Hp w0 μ w' → wpList P l.toArray Q ((perm π l).drop m) a' w') ((perm π l).take m) σ w0 μ) : CT P n (.region id l.toArray true) Q σ w0 μ :=
  fun a w hk hp => wp_region_drp hm hB hp.drawn (h a hk)
theorem ql_nil {Qr : Exit → Act → World → Prop} {lt : List Oper} (h : RL P n ops Qr lt σ w0 μ) : QL P n ops (fun a' => ∀ w', Hp w0 μ w' → wpList P ops Qr lt a' w') [] σ w0 μ := fun a hk w' hp => h a w' hk hp
theorem ql_sub {l : List Oper} {σ' : List (Nat × Value)} (hs : Sub σ' σ) (h : QL P n ops K l σ' w0 μ) : QL P n ops K l σ w0 μ := fun a hk => h a (hk.sub hs)

theorem ql_split {t : Nat} {b : Bool} {l : List Oper} (hl : σ.lookup t = some (.bool b)) (h1 : b = true → QL P n ops K l σ w0 μ) (h0 : b = false → QL P n ops K l σ w0 μ) : QL P n ops K l σ w0 μ := by
  cases hb : b with
  | true => exact h1 hb
  | false => exact h0 hb
theorem ql_val {d : Nat} {op : Op} {g : Option (Nat × Bool)} {v : Value} (hg : GW ops n g true σ) (h : OV P n op ty v σ w0 μ) (hd : Nat.blt d n = true) (next : QL P n ops K rest ((d, v) :: σ) w0 μ) :
    QL P n ops K (⟨some d, op, ty, pos, aft, g⟩ :: rest) σ w0 μ := fun a hk =>
  ⟨v, .inl ⟨hg _ _ _ _ _ _ hk, fun w hp => by unfold Oper.quietAt; rw [h _ _ _ _ a w hk hp]; exact ⟨rfl, rfl⟩⟩, next _ (hk.put hd v)⟩
theorem ql_skip {d : Nat} {op : Op} {g : Option (Nat × Bool)} (hg : GW ops n g false σ) (hd : Nat.blt d n = true) (next : QL P n ops K rest ((d, undef) :: σ) w0 μ) :
    QL P n ops K (⟨some d, op, ty, pos, aft, g⟩ :: rest) σ w0 μ := fun a hk =>
  ⟨undef, .inr ⟨hg _ _ _ _ _ _ hk, rfl⟩, next _ (hk.put hd undef)⟩
theorem ql_callv {d : Nat} {f : FuncId} {xs : List Operand} {vs : List Value} {tys : Array TypeId} {g : Option (Nat × Bool)} {v : Value} (hg : GW ops n g true σ) (hf : Goes P f) (hx : EVs σ xs = some vs)
    (hc : ∀ w, Hp w0 μ w → Calls P f vs.toArray w (fun e w' => e = .returned v ∧ Ext w w')) (hd : Nat.blt d n = true)
    (next : QL P n ops K rest ((d, v) :: σ) w0 μ) :
    QL P n ops K (⟨some d, .call ⟨.value (.func f), xs.toArray, tys⟩, ty, pos, aft, g⟩ :: rest) σ w0 μ := fun a hk =>
  ⟨v, .inl ⟨hg _ _ _ _ _ _ hk, fun w hp => by
    unfold Oper.quietAt
    rw [run_call hf hx _ _ _ _ a w hk]
    exact ⟨rfl, (hc w hp).mono fun e w' ⟨he, hx'⟩ => ⟨he, hp.ext hx'⟩⟩⟩, next _ (hk.put hd v)⟩
end
end Go.Proofs.Ytgnnlgmeagipjaa.K
