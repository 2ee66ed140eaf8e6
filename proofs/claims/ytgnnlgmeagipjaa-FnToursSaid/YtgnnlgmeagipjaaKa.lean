/- The walk's own words, over any program: what is known of a frame and of the memory, and how each form of code turns it. By an AI agent. -/
import Derived.WalkKit
import Derived.Deep.LoopGhost
namespace Go.Proofs.Ytgnnlgmeagipjaa.K
open Go Go.RowKit

/-- What is known of the frame: these slots hold these values. -/
def Kn (σ : List (Nat × Value)) (n : Nat) (a : Act) : Prop :=
  a.defers = [] ∧ a.tmps.size = n ∧ ∀ t v, σ.lookup t = some v → a.tmps[t]? = some v

theorem lookup_cons_self (d : Nat) (v : Value) (σ : List (Nat × Value)) : List.lookup d ((d, v) :: σ) = some v := by simp [List.lookup]
theorem lookup_cons_ne {t d : Nat} (v : Value) (σ : List (Nat × Value)) (h : t ≠ d) : List.lookup t ((d, v) :: σ) = σ.lookup t := by
  simp only [List.lookup]
  rw [show (t == d) = false from by simpa using h]

theorem Kn.put {σ : List (Nat × Value)} {n d : Nat} {a : Act} (h : Kn σ n a) (hd : Nat.blt d n = true) (v : Value) : Kn ((d, v) :: σ) n (a.put (some d) v) := by
  have hd' : d < n := by simpa using hd
  obtain ⟨h1, h2, h3⟩ := h
  refine ⟨h1, by simp [Act.put, h2], fun t u hu => ?_⟩
  by_cases htd : t = d
  · subst htd
    rw [lookup_cons_self] at hu
    obtain rfl := Option.some.inj hu
    simp [Act.put, h2, hd']
  · rw [lookup_cons_ne v σ htd] at hu
    have := h3 t u hu
    simp only [Act.put]
    rw [Array.getElem?_setIfInBounds_ne (Ne.symm htd)]
    exact this

theorem Kn.putNone {σ : List (Nat × Value)} {n : Nat} {a : Act} (h : Kn σ n a) (v : Value) : Kn σ n (a.put none v) := h

/-- Less is known. -/
def Sub : List (Nat × Value) → List (Nat × Value) → Prop
  | [], _ => True
  | (t, v) :: r, σ => σ.lookup t = some v ∧ Sub r σ

theorem Sub.nil {σ : List (Nat × Value)} : Sub [] σ := True.intro
theorem Sub.cons {σ r : List (Nat × Value)} {t : Nat} {v : Value} (h : σ.lookup t = some v) (hr : Sub r σ) : Sub ((t, v) :: r) σ := ⟨h, hr⟩
theorem Sub.lookup {σ' σ : List (Nat × Value)} (h : Sub σ' σ) {t : Nat} {v : Value} (hl : σ'.lookup t = some v) : σ.lookup t = some v := by
  induction σ' with
  | nil => cases hl
  | cons p r ih =>
    obtain ⟨u, x⟩ := p
    by_cases htu : t = u
    · subst htu
      rw [lookup_cons_self] at hl
      rw [← hl]; exact h.1
    · rw [lookup_cons_ne x r htu] at hl
      exact ih h.2 hl

theorem Kn.sub {σ σ' : List (Nat × Value)} {n : Nat} {a : Act} (h : Kn σ n a) (hs : Sub σ' σ) : Kn σ' n a :=
  ⟨h.1, h.2.1, fun _ _ hl => h.2.2 _ _ (hs.lookup hl)⟩

theorem lkInt {σ : List (Nat × Value)} {t : Nat} {k : IntKind} {x y : Int} (h : σ.lookup t = some (.int k x)) (e : x = y) : σ.lookup t = some (.int k y) := e ▸ h
theorem lkBool {σ : List (Nat × Value)} {t : Nat} {x y : Bool} (h : σ.lookup t = some (.bool x)) (e : x = y) : σ.lookup t = some (.bool y) := e ▸ h
theorem lkEq {σ : List (Nat × Value)} {t : Nat} {x y : Value} (h : σ.lookup t = some x) (e : x = y) : σ.lookup t = some y := e ▸ h

/-- The value of an operand. -/
def EV (σ : List (Nat × Value)) : Operand → Option Value
  | .tmp t => σ.lookup t
  | .const v => some v
  | .global g => some (.pointer (some ⟨g, 0, none⟩))
  | .func f => some (.func (.func f) #[] #[])

theorem Kn.eval {σ : List (Nat × Value)} {n : Nat} {a : Act} (h : Kn σ n a) {x : Operand} {v : Value} (hx : EV σ x = some v) : a.eval x = v := by
  cases x with
  | tmp t =>
    have := h.2.2 t v hx
    simp [Act.eval, this]
  | const u => exact Option.some.inj hx
  | global g => exact Option.some.inj hx
  | func f => exact Option.some.inj hx

/-- A block of the call's own, known whole: its number (none: a slice that is nil), its element type, its cells. -/
abbrev Ent := Option Nat × TypeId × List Value

/-- From where a call is told: the memory as it was, and those of its blocks that may be written. -/
structure Base where
  w : World
  dirty : List Nat

def Ent.ok (β : Base) (w : World) : Ent → Prop
  | (some b, T, L) => (β.w.heap.size ≤ b ∨ b ∈ β.dirty) ∧ w.heap[b]? = some (.cells L.toArray T (0, 0))
  | (none, _, L) => L = []

def keys (μ : List Ent) : List Nat := μ.filterMap (·.1)

/-- What is known of the memory: what was there when the call began is as it was; the blocks that may be written. -/
structure Hp (w0 : Base) (μ : List Ent) (w : World) : Prop where
  os : w.os = w0.w.os
  tape : w.tape = w0.w.tape
  output : w.output = w0.w.output
  size : w0.w.heap.size ≤ w.heap.size
  frame : ∀ k, k < w0.w.heap.size → k ∉ w0.dirty → w.heap[k]? = w0.w.heap[k]?
  ents : ∀ e ∈ μ, Ent.ok w0 w e
  nodup : (keys μ).Nodup

/-- All that was there is as it was. -/
def Ext (w w' : World) : Prop := Below w.heap.size w w'

theorem Ext.refl (w : World) : Ext w w := Below.refl _ _
theorem Ext.trans {a b c : World} (h : Ext a b) (k : Ext b c) : Ext a c := Below.trans h (Below.mono k h.size)
theorem Ext.of_eq {w w' : World} (h : w = w') : Ext w w' := h ▸ Ext.refl w

theorem Hp.refl (w : World) : Hp ⟨w, []⟩ [] w := ⟨rfl, rfl, rfl, Nat.le_refl _, fun _ _ _ => rfl, (fun _ h => (by cases h)), List.Pairwise.nil⟩
theorem Hp.ext0 {w0 w : World} {μ : List Ent} (h : Hp ⟨w0, []⟩ μ w) : Ext w0 w := ⟨h.os, h.tape, h.output, h.size, fun k hk => h.frame k hk (by simp)⟩

theorem Ent.ok_lt {β : Base} {w : World} {e : Ent} (h : Ent.ok β w e) {b : Nat} (hb : e.1 = some b) : b < w.heap.size := by
  obtain ⟨o, T, L⟩ := e
  simp only at hb
  subst hb
  have := h.2
  exact (Array.getElem?_eq_some_iff.1 this).1

theorem Ent.ok_ext {β : Base} {w w' : World} {e : Ent} (h : Ent.ok β w e) (hx : Ext w w') : Ent.ok β w' e := by
  obtain ⟨o, T, L⟩ := e
  cases o with
  | none => exact h
  | some b => exact ⟨h.1, by rw [hx.block b (Ent.ok_lt h rfl)]; exact h.2⟩

/-- A call that turns nothing that was there. -/
theorem Hp.ext {w0 : Base} {w w' : World} {μ : List Ent} (h : Hp w0 μ w) (hx : Ext w w') : Hp w0 μ w' :=
  ⟨hx.os.trans h.os, hx.tape.trans h.tape, hx.output.trans h.output, Nat.le_trans h.size hx.size, fun k hk hd => (hx.block k (Nat.lt_of_lt_of_le hk h.size)).trans (h.frame k hk hd), fun e he => Ent.ok_ext (h.ents e he) hx, h.nodup⟩

theorem Hp.sub {w0 : Base} {w : World} {μ ν : List Ent} (h : Hp w0 μ w) (hs : ν.Sublist μ) : Hp w0 ν w :=
  ⟨h.os, h.tape, h.output, h.size, h.frame, fun x hx => h.ents x (hs.subset hx), h.nodup.sublist (hs.filterMap _)⟩
theorem Hp.drop {w0 : Base} {w : World} {e : Ent} {μ : List Ent} (h : Hp w0 (e :: μ) w) : Hp w0 μ w := h.sub (List.sublist_cons_self _ _)
theorem Hp.drop2 {w0 : Base} {w : World} {e f : Ent} {μ : List Ent} (h : Hp w0 (e :: f :: μ) w) : Hp w0 (e :: μ) w := h.sub ((List.sublist_cons_self _ _).cons_cons e)
theorem Hp.drop3 {w0 : Base} {w : World} {e f g : Ent} {μ : List Ent} (h : Hp w0 (e :: f :: g :: μ) w) : Hp w0 (e :: f :: μ) w := h.sub (((List.sublist_cons_self _ _).cons_cons f).cons_cons e)

theorem Hp.cong {w0 : Base} {w : World} {μ ν : List Ent} (h : Hp w0 μ w) (e : μ = ν) : Hp w0 ν w := e ▸ h

theorem Hp.key_lt {w0 : Base} {w : World} {μ : List Ent} (h : Hp w0 μ w) {b : Nat} (hb : b ∈ keys μ) : b < w.heap.size := by
  obtain ⟨e, he, hb'⟩ := List.mem_filterMap.1 hb
  exact Ent.ok_lt (h.ents e he) hb'

/-- A new block that somebody made. -/
theorem Hp.new {w0 : Base} {w w' : World} {μ : List Ent} (h : Hp w0 μ w) (hx : Ext w w') {b : Nat} {T : TypeId} {L : List Value} (hb : w.heap.size ≤ b)
    (hc : w'.heap[b]? = some (.cells L.toArray T (0, 0))) : Hp w0 ((some b, T, L) :: μ) w' := by
  have h' := h.ext hx
  refine ⟨h'.os, h'.tape, h'.output, h'.size, h'.frame, fun e he => ?_, ?_⟩
  · rcases List.mem_cons.1 he with rfl | he
    · exact ⟨.inl (Nat.le_trans h.size hb), hc⟩
    · exact h'.ents e he
  · show (b :: keys μ).Nodup
    exact List.nodup_cons.2 ⟨fun hm => by have := h.key_lt hm; omega, h.nodup⟩

/-- A new block. -/
theorem Hp.alloc {w0 : Base} {w : World} {μ : List Ent} (h : Hp w0 μ w) (L : List Value) (T : TypeId) : Hp w0 ((some w.heap.size, T, L) :: μ) (w.alloc (.cells L.toArray T (0, 0))) :=
  h.new ((Below.refl _ _).alloc (Nat.le_refl _) _) (Nat.le_refl _) (by show (w.heap.push _)[w.heap.size]? = _; simp)

theorem Hp.nil {w0 : Base} {w : World} {μ : List Ent} (h : Hp w0 μ w) (T : TypeId) : Hp w0 ((none, T, []) :: μ) w :=
  ⟨h.os, h.tape, h.output, h.size, h.frame, fun e he => by
    rcases List.mem_cons.1 he with rfl | he
    · rfl
    · exact h.ents e he, h.nodup⟩

/-- One block turns; all others that were there stay. -/
structure Turn (w w' : World) (b : Nat) : Prop where
  os : w'.os = w.os
  tape : w'.tape = w.tape
  output : w'.output = w.output
  size : w.heap.size ≤ w'.heap.size
  block : ∀ k, k < w.heap.size → k ≠ b → w'.heap[k]? = w.heap[k]?

theorem Turn.of_ext {w w' : World} (h : Ext w w') (b : Nat) : Turn w w' b := ⟨h.os, h.tape, h.output, h.size, fun k hk _ => h.block k hk⟩
theorem Hp.turn0 {w0 w : World} {b : Nat} {μ : List Ent} (h : Hp ⟨w0, [b]⟩ μ w) : Turn w0 w b := ⟨h.os, h.tape, h.output, h.size, fun k hk hne => h.frame k hk (by simpa using hne)⟩

/-- The block's entry is forgotten. -/
theorem Hp.turnDrop {w0 : Base} {w w' : World} {pre post : List Ent} {b : Nat} {T : TypeId} {L : List Value} (h : Hp w0 (pre ++ (some b, T, L) :: post) w) (ht : Turn w w' b) : Hp w0 (pre ++ post) w' := by
  have hb := (h.ents (some b, T, L) (by simp)).1
  have hnd : (keys pre ++ b :: keys post).Nodup := by have := h.nodup; simpa [keys] using this
  have hne : ∀ e, (e ∈ pre ∨ e ∈ post) → e.1 ≠ some b := by
    intro e he heq
    have hmem : b ∈ keys pre ∨ b ∈ keys post := he.imp (fun h => List.mem_filterMap.2 ⟨e, h, heq⟩) (fun h => List.mem_filterMap.2 ⟨e, h, heq⟩)
    rw [List.nodup_append] at hnd
    obtain ⟨_, h2, h3⟩ := hnd
    rcases hmem with hm | hm
    · exact h3 b hm b (by simp) rfl
    · exact (List.nodup_cons.1 h2).1 hm
  have keep : ∀ e, (e ∈ pre ∨ e ∈ post) → Ent.ok w0 w' e := by
    intro e he
    have hok := h.ents e (by rcases he with h | h <;> simp [h])
    have hn := hne e he
    obtain ⟨o, T1, L1⟩ := e
    cases o with
    | none => exact hok
    | some c =>
      refine ⟨hok.1, ?_⟩
      rw [ht.block c (Ent.ok_lt hok rfl) (fun heq => hn (by rw [heq]))]
      exact hok.2
  refine ⟨ht.os.trans h.os, ht.tape.trans h.tape, ht.output.trans h.output, Nat.le_trans h.size ht.size, fun k hk' hd => ?_, fun e he => keep e (List.mem_append.1 he), ?_⟩
  · have hkb : k ≠ b := by
      intro e
      subst e
      rcases hb with hb | hb
      · omega
      · exact hd hb
    rw [ht.block k (Nat.lt_of_lt_of_le hk' h.size) hkb]
    exact h.frame k hk' hd
  · have : keys (pre ++ post) = keys pre ++ keys post := by simp [keys]
    rw [this]
    exact hnd.sublist (List.Sublist.append_left (List.sublist_cons_self _ _) _)

theorem Hp.turn {w0 : Base} {w w' : World} {pre post : List Ent} {b : Nat} {T : TypeId} {L L' : List Value} (h : Hp w0 (pre ++ (some b, T, L) :: post) w) (ht : Turn w w' b)
    (hc : w'.heap[b]? = some (.cells L'.toArray T (0, 0))) : Hp w0 (pre ++ (some b, T, L') :: post) w' := by
  have h1 := h.turnDrop ht
  have hk : keys (pre ++ (some b, T, L') :: post) = keys (pre ++ (some b, T, L) :: post) := by simp [keys]
  have hb := (h.ents (some b, T, L) (by simp)).1
  refine ⟨h1.os, h1.tape, h1.output, h1.size, h1.frame, fun e he => ?_, by rw [hk]; exact h.nodup⟩
  rcases List.mem_append.1 he with he | he
  · exact h1.ents e (by simp [he])
  · rcases List.mem_cons.1 he with rfl | he
    · exact ⟨hb, hc⟩
    · exact h1.ents e (by simp [he])

/-- Whatever frame and memory of which this is known: Q. -/
def AT (n : Nat) (Q : Act → World → Prop) (σ : List (Nat × Value)) (w0 : Base) (μ : List Ent) : Prop :=
  ∀ a w, Kn σ n a → Hp w0 μ w → Q a w

def CT (P : Program) (n : Nat) (c : Code) (Q : Exit → Act → World → Prop) (σ : List (Nat × Value)) (w0 : Base) (μ : List Ent) : Prop :=
  ∀ a w, Kn σ n a → Hp w0 μ w → c.wp P Q a w

section
variable {P : Program} {n : Nat} {Q : Exit → Act → World → Prop} {σ : List (Nat × Value)} {w0 : Base} {μ : List Ent}

theorem ct_seq {c d : Code} (h : CT P n c (Exit.then (d.wp P Q) Q) σ w0 μ) : CT P n (.seq c d) Q σ w0 μ := fun a w hk hp => wp_seq (h a w hk hp)
theorem ct_skip (h : AT n (Q .normal) σ w0 μ) : CT P n .skip Q σ w0 μ := fun a w hk hp => wp_skip (h a w hk hp)
theorem ct_ret (h : AT n (Q .ret) σ w0 μ) : CT P n .ret Q σ w0 μ := fun a w hk hp => wp_ret (h a w hk hp)
theorem ct_exit {id : Nat} (h : AT n (Q (.exit id)) σ w0 μ) : CT P n (.exit id) Q σ w0 μ := fun a w hk hp => wp_exit (h a w hk hp)
theorem ct_block {id : Nat} {c : Code} (h : CT P n c (Exit.inBlock id Q) σ w0 μ) : CT P n (.block id c) Q σ w0 μ := fun a w hk hp => wp_block (h a w hk hp)
theorem ct_cond {x : Operand} {c d : Code} {t : Bool} (hx : EV σ x = some (.bool t)) (h1 : t = true → CT P n c Q σ w0 μ) (h2 : t = false → CT P n d Q σ w0 μ) :
    CT P n (.cond x c d) Q σ w0 μ := fun a w hk hp => wp_cond_split (hk.eval hx) (fun ht => h1 ht a w hk hp) (fun ht => h2 ht a w hk hp)
/-- A test on a proposition. -/
theorem ct_dec {x : Operand} {c d : Code} {p : Prop} [Decidable p] (hx : EV σ x = some (.bool (decide p))) (h1 : p → CT P n c Q σ w0 μ) (h2 : ¬ p → CT P n d Q σ w0 μ) :
    CT P n (.cond x c d) Q σ w0 μ := ct_cond hx (fun h => h1 (of_decide_eq_true h)) (fun h => h2 (of_decide_eq_false h))
theorem ct_ndec {x : Operand} {c d : Code} {p : Prop} [Decidable p] (hx : EV σ x = some (.bool (!decide p))) (h1 : ¬ p → CT P n c Q σ w0 μ) (h2 : p → CT P n d Q σ w0 μ) :
    CT P n (.cond x c d) Q σ w0 μ := ct_cond hx (fun h => h1 (by simpa using h)) (fun h => h2 (by simpa using h))
theorem ct_eq {x : Operand} {c d : Code} {i j : Int} (hx : EV σ x = some (.bool (i == j))) (h1 : i = j → CT P n c Q σ w0 μ) (h2 : i ≠ j → CT P n d Q σ w0 μ) :
    CT P n (.cond x c d) Q σ w0 μ := ct_cond hx (fun h => h1 (by simpa using h)) (fun h => h2 (by simpa using h))
theorem ct_ne {x : Operand} {c d : Code} {i j : Int} (hx : EV σ x = some (.bool (i != j))) (h1 : i ≠ j → CT P n c Q σ w0 μ) (h2 : i = j → CT P n d Q σ w0 μ) :
    CT P n (.cond x c d) Q σ w0 μ := ct_cond hx (fun h => h1 (by simpa using h)) (fun h => h2 (by simpa using h))
theorem ct_not {x : Operand} {c d : Code} {b : Bool} (hx : EV σ x = some (.bool (!b))) (h1 : b = false → CT P n c Q σ w0 μ) (h2 : b = true → CT P n d Q σ w0 μ) :
    CT P n (.cond x c d) Q σ w0 μ := ct_cond hx (fun h => h1 (by simpa using h)) (fun h => h2 (by simpa using h))
theorem ct_true {x : Operand} {c d : Code} {t : Bool} (hx : EV σ x = some (.bool t)) (ht : t = true) (h : CT P n c Q σ w0 μ) : CT P n (.cond x c d) Q σ w0 μ :=
  ct_cond hx (fun _ => h) (fun hf => by rw [ht] at hf; cases hf)
theorem ct_false {x : Operand} {c d : Code} {t : Bool} (hx : EV σ x = some (.bool t)) (ht : t = false) (h : CT P n d Q σ w0 μ) : CT P n (.cond x c d) Q σ w0 μ :=
  ct_cond hx (fun hf => by rw [ht] at hf; cases hf) (fun _ => h)

/-- Cut: what is known behind the first code is said by hand. -/
theorem ct_cut {c d : Code} (J : Act → World → Prop) (h1 : CT P n c (Exit.then J Q) σ w0 μ) (h2 : ∀ a w, J a w → d.wp P Q a w) : CT P n (.seq c d) Q σ w0 μ :=
  fun a w hk hp => wp_seq (Code.wp_mono (fun e a' w' hq => by cases e <;> first | exact h2 _ _ hq | exact hq) (h1 a w hk hp))

/-- The cut in its common form: these slots, these blocks. -/
theorem ct_cutk {c d : Code} {ι : Type} (S : ι → List (Nat × Value)) (M : ι → List Ent) (G : ι → Prop) (h1 : CT P n c (Exit.then (fun a w => ∃ i, G i ∧ Kn (S i) n a ∧ Hp w0 (M i) w) Q) σ w0 μ)
    (h2 : ∀ i, G i → CT P n d Q (S i) w0 (M i)) : CT P n (.seq c d) Q σ w0 μ :=
  ct_cut _ h1 fun a w ⟨i, hg, hk, hp⟩ => h2 i hg a w hk hp

theorem ct_sub {c : Code} {σ' : List (Nat × Value)} {μ' : List Ent} (hs : Sub σ' σ) (hm : ∀ w, Hp w0 μ w → Hp w0 μ' w) (h : CT P n c Q σ' w0 μ') : CT P n c Q σ w0 μ :=
  fun a w hk hp => h a w (hk.sub hs) (hm w hp)
theorem at_sub {R : Act → World → Prop} {σ' : List (Nat × Value)} {μ' : List Ent} (hs : Sub σ' σ) (hm : ∀ w, Hp w0 μ w → Hp w0 μ' w) (h : AT n R σ' w0 μ') : AT n R σ w0 μ :=
  fun a w hk hp => h a w (hk.sub hs) (hm w hp)

/-! ### Exits -/
theorem at_then {d : Code} (h : CT P n d Q σ w0 μ) : AT n (Exit.then (d.wp P Q) Q .normal) σ w0 μ := fun a w hk hp => h a w hk hp
theorem at_thenJ {J : Act → World → Prop} (h : AT n J σ w0 μ) : AT n (Exit.then J Q .normal) σ w0 μ := fun a w hk hp => h a w hk hp
theorem at_then_exit {J : Act → World → Prop} {id : Nat} (h : AT n (Q (.exit id)) σ w0 μ) : AT n (Exit.then J Q (.exit id)) σ w0 μ := fun a w hk hp => h a w hk hp
theorem at_then_ret {J : Act → World → Prop} (h : AT n (Q .ret) σ w0 μ) : AT n (Exit.then J Q .ret) σ w0 μ := fun a w hk hp => h a w hk hp
theorem at_block {id : Nat} (h : AT n (Q .normal) σ w0 μ) : AT n (Exit.inBlock id Q .normal) σ w0 μ := fun a w hk hp => h a w hk hp
theorem at_block_ret {id : Nat} (h : AT n (Q .ret) σ w0 μ) : AT n (Exit.inBlock id Q .ret) σ w0 μ := fun a w hk hp => h a w hk hp
theorem at_block_hit {id : Nat} (h : AT n (Q .normal) σ w0 μ) : AT n (Exit.inBlock id Q (.exit id)) σ w0 μ := fun a w hk hp => by
  show if id = id then Q .normal a w else Q (.exit id) a w
  rw [if_pos rfl]; exact h a w hk hp
theorem at_block_miss {id id' : Nat} (hne : Nat.beq id' id = false) (h : AT n (Q (.exit id')) σ w0 μ) : AT n (Exit.inBlock id Q (.exit id')) σ w0 μ := fun a w hk hp => by
  show if id' = id then Q .normal a w else Q (.exit id') a w
  rw [if_neg (by intro e; subst e; simp at hne)]; exact h a w hk hp

/-! ### Loops -/
/-- What a round must hand on. -/
def Back {ι : Type} (S : ι → List (Nat × Value)) (w0 : Base) (M : ι → List Ent) (G : ι → Prop) (m : ι → Nat) (n : Nat) (i : ι) (a : Act) (w : World) : Prop :=
  ∃ j, G j ∧ m j < m i ∧ Kn (S j) n a ∧ Hp w0 (M j) w

theorem ct_loop {ι : Type} {c : Code} (S : ι → List (Nat × Value)) (M : ι → List Ent) (G : ι → Prop) (m : ι → Nat) (i0 : ι) (hG : G i0) (hs : Sub (S i0) σ) (hm : ∀ w, Hp w0 μ w → Hp w0 (M i0) w)
    (round : ∀ i, G i → CT P n c (Exit.then (Back S w0 M G m n i) Q) (S i) w0 (M i)) : CT P n (.loop c) Q σ w0 μ := by
  intro a w hk hp
  refine wp_loop_ghost (fun k a w => ∃ i, m i = k ∧ G i ∧ Kn (S i) n a ∧ Hp w0 (M i) w) (m i0) ⟨i0, rfl, hG, hk.sub hs, hm w hp⟩ ?_
  rintro k a w ⟨i, rfl, hg, hk, hp⟩
  refine Code.wp_mono (fun e a' w' hq => ?_) (round i hg a w hk hp)
  cases e with
  | normal =>
    obtain ⟨j, h1, h2, h3, h4⟩ := hq
    exact ⟨m j, h2, j, rfl, h1, h3, h4⟩
  | _ => exact hq

theorem at_back {ι : Type} {S : ι → List (Nat × Value)} {M : ι → List Ent} {G : ι → Prop} {m : ι → Nat} {i : ι} (j : ι) (hG : G j) (hlt : m j < m i) (hs : Sub (S j) σ) (hm : ∀ w, Hp w0 μ w → Hp w0 (M j) w) :
    AT n (Exit.then (Back S w0 M G m n i) Q .normal) σ w0 μ := fun _ w hk hp => ⟨j, hG, hlt, hk.sub hs, hm w hp⟩

theorem at_handk {ι : Type} {S : ι → List (Nat × Value)} {M : ι → List Ent} {G : ι → Prop} (i : ι) (hG : G i) (hs : Sub (S i) σ) (hm : ∀ w, Hp w0 μ w → Hp w0 (M i) w) :
    AT n (Exit.then (fun a w => ∃ i, G i ∧ Kn (S i) n a ∧ Hp w0 (M i) w) Q .normal) σ w0 μ := fun _ w hk hp => ⟨i, hG, hk.sub hs, hm w hp⟩

/-! ### Loops and cuts that keep by themselves what the code does not write -/
theorem Sub.app {A B σ : List (Nat × Value)} (ha : Sub A σ) (hb : Sub B σ) : Sub (A ++ B) σ := by
  induction A with
  | nil => exact hb
  | cons p r ih => obtain ⟨t, v⟩ := p; exact ⟨ha.1, ih ha.2⟩

def BackR {ι : Type} (V : ι → List (Nat × Value)) (ρ : List (Nat × Value)) (w0 : Base) (M : ι → List Ent) (G : ι → Prop) (m : ι → Nat) (n : Nat) (i : ι) (a : Act) (w : World) : Prop :=
  ∃ j, G j ∧ m j < m i ∧ Kn (V j ++ ρ) n a ∧ Hp w0 (M j) w

theorem ct_loopR {ι : Type} {c : Code} (V : ι → List (Nat × Value)) (ρ : List (Nat × Value)) (M : ι → List Ent) (G : ι → Prop) (m : ι → Nat) (i0 : ι) (hr : Sub ρ σ) (hm : ∀ w, Hp w0 μ w → Hp w0 (M i0) w) (hs : Sub (V i0) σ) (hG : G i0)
    (round : ∀ i, G i → CT P n c (Exit.then (BackR V ρ w0 M G m n i) Q) (V i ++ ρ) w0 (M i)) : CT P n (.loop c) Q σ w0 μ :=
  ct_loop (fun i => V i ++ ρ) M G m i0 hG (hs.app hr) hm round

theorem at_backR {ι : Type} {V : ι → List (Nat × Value)} {ρ : List (Nat × Value)} {M : ι → List Ent} {G : ι → Prop} {m : ι → Nat} {i : ι} (j : ι) (hG : G j) (hlt : m j < m i) (hs : Sub (V j) σ) (hr : Sub ρ σ) (hm : ∀ w, Hp w0 μ w → Hp w0 (M j) w) :
    AT n (Exit.then (BackR V ρ w0 M G m n i) Q .normal) σ w0 μ := fun _ w hk hp => ⟨j, hG, hlt, hk.sub (hs.app hr), hm w hp⟩

theorem ct_cutR {c d : Code} {ι : Type} (V : ι → List (Nat × Value)) (ρ : List (Nat × Value)) (M : ι → List Ent) (G : ι → Prop) (h1 : CT P n c (Exit.then (fun a w => ∃ i, G i ∧ Kn (V i ++ ρ) n a ∧ Hp w0 (M i) w) Q) σ w0 μ)
    (h2 : ∀ i, G i → CT P n d Q (V i ++ ρ) w0 (M i)) : CT P n (.seq c d) Q σ w0 μ := ct_cutk (fun i => V i ++ ρ) M G h1 h2

theorem at_handR {ι : Type} {V : ι → List (Nat × Value)} {ρ : List (Nat × Value)} {M : ι → List Ent} {G : ι → Prop} (i : ι) (hG : G i) (hs : Sub (V i) σ) (hr : Sub ρ σ) (hm : ∀ w, Hp w0 μ w → Hp w0 (M i) w) :
    AT n (Exit.then (fun a w => ∃ i, G i ∧ Kn (V i ++ ρ) n a ∧ Hp w0 (M i) w) Q .normal) σ w0 μ := fun _ w hk hp => ⟨i, hG, hk.sub (hs.app hr), hm w hp⟩

/-! ### The whole function -/
def args0 : Nat → List Value → List (Nat × Value)
  | _, [] => []
  | k, v :: r => (k, v) :: args0 (k + 1) r

theorem args0_lookup : ∀ (l : List Value) (k t : Nat) (v : Value), (args0 k l).lookup t = some v → k ≤ t ∧ l[t - k]? = some v
  | [], _, _, _, h => by cases h
  | x :: r, k, t, v, h => by
    by_cases htk : t = k
    · subst htk
      rw [args0, lookup_cons_self] at h
      simpa using h
    · rw [args0, lookup_cons_ne x _ htk] at h
      obtain ⟨h1, h2⟩ := args0_lookup r (k + 1) t v h
      refine ⟨by omega, ?_⟩
      rw [show t - k = (t - (k + 1)) + 1 from by omega, List.getElem?_cons_succ]
      exact h2

theorem calls_ct {f : FuncId} {fn : Func} {c : Code} {args : List Value} {w : World} {R : Ending → World → Prop} {n : Nat} (hf : P.funcs[f]? = some fn) (hnt : fn.ntmps = n) (hb : fn.body = some c)
    (hn : Nat.ble args.length n = true) (h : CT P n c (bodyPost P fn R) (args0 0 args) ⟨w, []⟩ []) : Calls P f args.toArray w R := by
  subst hnt
  have hn' : args.length ≤ fn.ntmps := by simpa using hn
  refine calls_of_wp hf hb (h _ _ ⟨rfl, by simp; omega, fun t v hl => ?_⟩ (Hp.refl w))
  obtain ⟨_, h2⟩ := args0_lookup _ _ _ _ hl
  rw [Nat.sub_zero] at h2
  have hlt : t < args.length := (List.getElem?_eq_some_iff.1 h2).1
  have h3 : args[t] = v := (List.getElem?_eq_some_iff.1 h2).2
  simp [Array.getElem?_append, hlt, h3]

/-- A function that writes into one block that came in. -/
theorem calls_ctd {f : FuncId} {fn : Func} {c : Code} {args : List Value} {w : World} {R : Ending → World → Prop} {n b : Nat} {T : TypeId} {L : List Value} (hb0 : w.heap[b]? = some (.cells L.toArray T (0, 0))) (hf : P.funcs[f]? = some fn) (hnt : fn.ntmps = n) (hb : fn.body = some c)
    (hn : Nat.ble args.length n = true) (h : CT P n c (bodyPost P fn R) (args0 0 args) ⟨w, [b]⟩ [(some b, T, L)]) : Calls P f args.toArray w R := by
  subst hnt
  have hn' : args.length ≤ fn.ntmps := by simpa using hn
  refine calls_of_wp hf hb (h _ _ ⟨rfl, by simp; omega, fun t v hl => ?_⟩ ⟨rfl, rfl, rfl, Nat.le_refl _, fun _ _ _ => rfl, fun e he => ?_, by simp [keys]⟩)
  · obtain ⟨_, h2⟩ := args0_lookup _ _ _ _ hl
    rw [Nat.sub_zero] at h2
    have hlt : t < args.length := (List.getElem?_eq_some_iff.1 h2).1
    have h3 : args[t] = v := (List.getElem?_eq_some_iff.1 h2).2
    simp [Array.getElem?_append, hlt, h3]
  · rcases List.mem_cons.1 he with rfl | he
    · exact ⟨.inr (by simp), hb0⟩
    · cases he

/-- What a result is. -/
def resOne (tmps : Array Value) : ResultVar → Sem Value
  | .tmp t => pure (tmps.getD t undef)
  | .cell a t => do loadVar t (← asAddr (tmps.getD a undef))
theorem results_one (fn : Func) (tmps : Array Value) : results fn tmps = (fn.results.mapM (resOne tmps)) >>= fun vs => pure (if h : vs.size = 1 then vs[0] else .tuple vs) := rfl
def RO (P : Program) (n : Nat) (r : ResultVar) (v : Value) (σ : List (Nat × Value)) (w0 : Base) (μ : List Ent) : Prop :=
  ∀ a w, Kn σ n a → Hp w0 μ w → (resOne a.tmps r).run P w = .ok v w

theorem ro_tmp {t : Nat} {v : Value} (h : σ.lookup t = some v) : RO P n (.tmp t) v σ w0 μ := fun a w hk hp => by
  have := hk.2.2 t v h
  simp [resOne, this]

theorem at_ret1 {fn : Func} {R : Ending → World → Prop} {r : ResultVar} {v : Value} (hr : fn.results = #[r]) (h : RO P n r v σ w0 μ) (hR : ∀ w, Hp w0 μ w → R (.returned v) w) :
    AT n (bodyPost P fn R .ret) σ w0 μ := fun a w hk hp => by
  refine ⟨hk.1, v, ?_, hR w hp⟩
  rw [results_one, hr]
  simp [h a w hk hp]
theorem at_ret2 {fn : Func} {R : Ending → World → Prop} {r1 r2 : ResultVar} {v1 v2 : Value} (hr : fn.results = #[r1, r2]) (h1 : RO P n r1 v1 σ w0 μ) (h2 : RO P n r2 v2 σ w0 μ) (hR : ∀ w, Hp w0 μ w → R (.returned (.tuple #[v1, v2])) w) :
    AT n (bodyPost P fn R .ret) σ w0 μ := fun a w hk hp => by
  refine ⟨hk.1, _, ?_, hR w hp⟩
  rw [results_one, hr]
  simp [h1 a w hk hp, h2 a w hk hp]
theorem at_ret3 {fn : Func} {R : Ending → World → Prop} {r1 r2 r3 : ResultVar} {v1 v2 v3 : Value} (hr : fn.results = #[r1, r2, r3]) (h1 : RO P n r1 v1 σ w0 μ) (h2 : RO P n r2 v2 σ w0 μ) (h3 : RO P n r3 v3 σ w0 μ) (hR : ∀ w, Hp w0 μ w → R (.returned (.tuple #[v1, v2, v3])) w) :
    AT n (bodyPost P fn R .ret) σ w0 μ := fun a w hk hp => by
  refine ⟨hk.1, _, ?_, hR w hp⟩
  rw [results_one, hr]
  simp [h1 a w hk hp, h2 a w hk hp, h3 a w hk hp]
theorem at_ret0 {fn : Func} {R : Ending → World → Prop} (hr : fn.results = #[]) (hR : ∀ w, Hp w0 μ w → R (.returned (.tuple #[])) w) :
    AT n (bodyPost P fn R .ret) σ w0 μ := fun a w hk hp => by
  refine ⟨hk.1, _, ?_, hR w hp⟩
  rw [results_one, hr]
  simp
/-- The function's end without a 'return'. -/
theorem at_end {fn : Func} {R : Ending → World → Prop} (h : AT n (bodyPost P fn R .ret) σ w0 μ) : AT n (bodyPost P fn R .normal) σ w0 μ := h

end
end Go.Proofs.Ytgnnlgmeagipjaa.K
