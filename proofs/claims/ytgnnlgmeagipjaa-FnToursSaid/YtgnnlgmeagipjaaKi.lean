/- Parts of slices, copy, struct and array values, min and max. By an AI agent. -/
import Derived.Test.YtgnnlgmeagipjaaKh
import Derived.Laws.Tables
import Derived.Laws.Small
import Derived.Deep.Upon
set_option linter.unusedVariables false
namespace Go.Proofs.Ytgnnlgmeagipjaa.K
open Go Go.RowKit

/-- The place of the first that is so, or -1. -/
def findP {α : Type} (p : α → Bool) (xs : List α) : Int := match xs.findIdx? p with | some i => (i : Int) | none => -1
theorem findP_hit {α : Type} {p : α → Bool} {xs : List α} {k : Nat} {x : α} (hx : xs[k]? = some x) (hp : p x = true) (hall : ∀ j, j < k → ∀ y, xs[j]? = some y → p y = false) : findP p xs = k := by
  have hk := (List.getElem?_eq_some_iff.1 hx)
  have : xs.findIdx? p = some k := by
    rw [List.findIdx?_eq_some_iff_getElem]
    exact ⟨hk.1, by rw [hk.2]; exact hp, fun j hj => by rw [hall j hj _ (List.getElem?_eq_getElem (by have := hk.1; omega))]; exact Bool.false_ne_true⟩
  unfold findP; rw [this]
theorem findP_miss {α : Type} {p : α → Bool} {xs : List α} (hall : ∀ j, j < xs.length → ∀ y, xs[j]? = some y → p y = false) : findP p xs = -1 := by
  have : xs.findIdx? p = none := by
    rw [List.findIdx?_eq_none_iff]
    intro x hx
    obtain ⟨i, hi⟩ := List.mem_iff_getElem?.1 hx
    exact hall i (List.getElem?_eq_some_iff.1 hi).1 x hi
  unfold findP; rw [this]
theorem findP_ge {α : Type} {p : α → Bool} {xs : List α} (h : 0 ≤ findP p xs) : (findP p xs).toNat < xs.length ∧ ∃ x, xs[(findP p xs).toNat]? = some x ∧ p x = true := by
  unfold findP at *
  cases hf : xs.findIdx? p with
  | none => rw [hf] at h; simp at h
  | some i =>
    rw [List.findIdx?_eq_some_iff_getElem] at hf
    obtain ⟨h1, h2, _⟩ := hf
    exact ⟨h1, _, List.getElem?_eq_getElem h1, h2⟩
/-- The same, if all is well. -/
def findG {α : Type} (ok : Bool) (p : α → Bool) (xs : List α) : Int := if ok = true then findP p xs else -1
theorem findG_no {α : Type} {p : α → Bool} {xs : List α} : findG false p xs = -1 := rfl
theorem findG_yes {α : Type} {ok : Bool} {p : α → Bool} {xs : List α} (h : ok = true) : findG ok p xs = findP p xs := by unfold findG; rw [if_pos h]
theorem findG_ge {α : Type} {ok : Bool} {p : α → Bool} {xs : List α} (h : ¬ findG ok p xs < 0) : ok = true ∧ ¬ findP p xs < 0 ∧ findG ok p xs = findP p xs := by
  unfold findG at *
  cases ok with
  | true => exact ⟨rfl, h, rfl⟩
  | false => exact absurd (show (-1 : Int) < 0 by decide) h
/-- What is told of it. -/
def resAt {α β : Type} (ok : Bool) (p : α → Bool) (xs : List α) (f : α → β) (z : β) : β × Bool := if ok = true ∧ 0 ≤ findP p xs then (match xs[(findP p xs).toNat]? with | some r => (f r, true) | none => (z, false)) else (z, false)
theorem resAt_yes {α β : Type} {ok : Bool} {p : α → Bool} {xs : List α} {f : α → β} {z : β} {r : α} (h : ok = true) (h0 : ¬ findP p xs < 0) (hr : xs[(findP p xs).toNat]? = some r) : resAt ok p xs f z = (f r, true) := by
  unfold resAt; rw [if_pos ⟨h, by omega⟩, hr]
theorem resAt_no {α β : Type} {ok : Bool} {p : α → Bool} {xs : List α} {f : α → β} {z : β} (h : ok = false) : resAt ok p xs f z = (z, false) := by
  unfold resAt; rw [if_neg (by rw [h]; simp)]
theorem resAt_miss {α β : Type} {ok : Bool} {p : α → Bool} {xs : List α} {f : α → β} {z : β} (h : findP p xs < 0) : resAt ok p xs f z = (z, false) := by
  unfold resAt; rw [if_neg (by omega)]
theorem resAt_missG {α β : Type} {ok : Bool} {p : α → Bool} {xs : List α} {f : α → β} {z : β} (h : findG ok p xs < 0) : resAt ok p xs f z = (z, false) := by
  cases ok with
  | false => exact resAt_no rfl
  | true => exact resAt_miss h

/-- Those of the first k that are so, each by one number. -/
def selL {α : Type} (p : α → Bool) (f : α → Int) (xs : List α) (k : Nat) : List Int := ((xs.take k).filter p).map f
theorem selL_zero {α : Type} (p : α → Bool) (f : α → Int) (xs : List α) : [] = selL p f xs 0 := by simp [selL]
theorem selL_yes {α : Type} {p : α → Bool} {f : α → Int} {xs : List α} {k : Nat} {x : α} {acc : List Int} (ha : acc = selL p f xs k) (hx : xs[k]? = some x) (hp : p x = true) : acc ++ [f x] = selL p f xs (k + 1) := by
  subst ha
  unfold selL
  rw [List.take_add_one, hx]
  simp [hp]
theorem selL_no {α : Type} {p : α → Bool} {f : α → Int} {xs : List α} {k : Nat} {x : α} {acc : List Int} (ha : acc = selL p f xs k) (hx : xs[k]? = some x) (hp : p x = false) : acc = selL p f xs (k + 1) := by
  subst ha
  unfold selL
  rw [List.take_add_one, hx]
  simp [hp]
theorem selL_len {α : Type} {p : α → Bool} {f : α → Int} {xs : List α} {k : Nat} {acc : List Int} (ha : acc = selL p f xs k) : acc.length ≤ k := by
  subst ha
  unfold selL
  rw [List.length_map]
  exact Nat.le_trans (List.length_filter_le _ _) (by simp; omega)
def selR {α : Type} (ok : Bool) (p : α → Bool) (f : α → Int) (xs : List α) : List Int := if ok = true then selL p f xs xs.length else []
theorem selR_yes {α : Type} {ok : Bool} {p : α → Bool} {f : α → Int} {xs : List α} (h : ok = true) : selR ok p f xs = selL p f xs xs.length := by unfold selR; rw [if_pos h]
theorem selR_no {α : Type} {ok : Bool} {p : α → Bool} {f : α → Int} {xs : List α} (h : ok = false) : selR ok p f xs = [] := by unfold selR; rw [h]; rfl
theorem selR_len {α : Type} (ok : Bool) (p : α → Bool) (f : α → Int) (xs : List α) : (selR ok p f xs).length ≤ xs.length := by
  unfold selR
  split
  · exact selL_len rfl
  · exact Nat.zero_le _

/-- The address of a part that begins at lo. -/
def subA (a : Option Addr) (cap lo k : Nat) : Option Addr := if cap = lo then a else a.map fun x => x.add (lo * k)
theorem addr_add0 (a : Addr) : a.add 0 = a := by simp [Addr.add]
theorem subA_some {b o cap lo k : Nat} (h : lo < cap) : subA (some ⟨b, o, none⟩) cap lo k = some ⟨b, o + lo * k, none⟩ := by
  unfold subA; rw [if_neg (by omega)]; simp [addr_add]

theorem SR.cast {w : World} {k : Nat} {v : Value} {len len' : Nat} {L L' : List Value} (h : SR w k v len L) (e : len = len') (eL : L = L') : SR w k v len' L' := by subst e; subst eL; exact h

/-- A part of a slice that is read. -/
theorem SR.sub {w : World} {k : Nat} {a : Option Addr} {len cap : Nat} {L : List Value} (h : SR w k (.slice a len cap) len L) {lo hi : Nat} (h1 : lo ≤ hi) (h2 : hi ≤ len) (hk : 0 < k) :
    SR w k (.slice (subA a cap lo k) (hi - lo) (cap - lo)) (hi - lo) ((L.drop (lo * k)).take ((hi - lo) * k)) := by
  obtain ⟨hl, a', cap', he, hc, hm, hr⟩ := h
  injection he with e1 _ e3
  subst e1; subst e3
  refine ⟨?_, _, _, rfl, by omega, by omega, fun j u hu => ?_⟩
  · rw [List.length_take, List.length_drop, hl, ← Nat.sub_mul, Nat.min_eq_left]
    exact Nat.mul_le_mul_right _ (by omega)
  · have hj : j < (hi - lo) * k := by
      have := (List.getElem?_eq_some_iff.1 hu).1
      rw [List.length_take] at this; omega
    rw [List.getElem?_take, if_pos hj, List.getElem?_drop] at hu
    obtain ⟨b, o, rfl, hcell⟩ := hr _ _ hu
    have hlo : lo < cap := by
      rcases Nat.lt_or_ge lo hi with h | h
      · omega
      · rw [show hi - lo = 0 from by omega, Nat.zero_mul] at hj; omega
    refine ⟨b, o + lo * k, subA_some hlo, ?_⟩
    rw [Nat.add_assoc]; exact hcell
theorem SR.take {w : World} {k : Nat} {a : Option Addr} {len cap : Nat} {L : List Value} (h : SR w k (.slice a len cap) len L) {hi : Nat} (h2 : hi ≤ len) (hk : 0 < k) : SR w k (.slice a hi cap) hi (L.take (hi * k)) := by
  have := h.sub (lo := 0) (Nat.zero_le _) h2 hk
  have e : subA a cap 0 k = a := by
    unfold subA
    split
    · rfl
    · cases a <;> simp [addr_add0]
  rw [e] at this
  simpa using this
theorem SR.drop {w : World} {k : Nat} {a : Option Addr} {len cap : Nat} {L : List Value} (h : SR w k (.slice a len cap) len L) {lo : Nat} (h2 : lo ≤ len) (hk : 0 < k) : SR w k (.slice (subA a cap lo k) (len - lo) (cap - lo)) (len - lo) (L.drop (lo * k)) := by
  have := h.sub h2 (Nat.le_refl _) hk
  rw [List.take_of_length_le (by rw [List.length_drop, h.1, Nat.sub_mul]; exact Nat.le_refl _)] at this
  exact this

theorem flat_take {α : Type} {enc : α → List Value} {k : Nat} (hk : ∀ x, (enc x).length = k) : ∀ (xs : List α) (i : Nat), flat enc (xs.take i) = (flat enc xs).take (i * k)
  | [], i => by simp [flat]
  | x :: r, 0 => by simp [flat]
  | x :: r, i + 1 => by
    have := flat_take hk r i
    simp only [flat, List.take_succ_cons, List.flatMap_cons] at *
    rw [this, Nat.add_mul, Nat.one_mul, Nat.add_comm, List.take_append, hk, Nat.add_sub_cancel_left, List.take_of_length_le (l := enc x) (by rw [hk]; omega)]
theorem flat_drop {α : Type} {enc : α → List Value} {k : Nat} (hk : ∀ x, (enc x).length = k) : ∀ (xs : List α) (i : Nat), flat enc (xs.drop i) = (flat enc xs).drop (i * k)
  | [], i => by simp [flat]
  | x :: r, 0 => by simp [flat]
  | x :: r, i + 1 => by
    have := flat_drop hk r i
    simp only [flat, List.drop_succ_cons, List.flatMap_cons] at *
    rw [this, Nat.add_mul, Nat.one_mul, Nat.add_comm, List.drop_append, hk, Nat.add_sub_cancel_left, List.drop_eq_nil_of_le (as := enc x) (by rw [hk]; omega), List.nil_append]
theorem ints_flat (xs : List Int) : ints xs = flat (fun i => [Value.int .i64 i]) xs := by
  induction xs with
  | nil => rfl
  | cons x r ih => simp only [ints, flat, List.map_cons, List.flatMap_cons] at *; rw [ih]; rfl
theorem ints_take (xs : List Int) (i : Nat) : ints (xs.take i) = (ints xs).take i := by simp [ints, List.map_take]
theorem ints_drop (xs : List Int) (i : Nat) : ints (xs.drop i) = (ints xs).drop i := by simp [ints, List.map_drop]
theorem ints_append (xs ys : List Int) : ints (xs ++ ys) = ints xs ++ ints ys := by simp [ints]
theorem SR.takeE {α : Type} {enc : α → List Value} {w : World} {k : Nat} {a : Option Addr} {cap : Nat} {xs : List α} (hk : ∀ x, (enc x).length = k) (h : SR w k (.slice a xs.length cap) xs.length (flat enc xs)) (hpos : 0 < k) {i : Nat} (hi : i ≤ xs.length) :
    SR w k (.slice a i cap) (xs.take i).length (flat enc (xs.take i)) := (h.take hi hpos).cast (by simp; omega) (flat_take hk xs i).symm
theorem SR.takeI {w : World} {a : Option Addr} {cap : Nat} {xs : List Int} (h : SR w 1 (.slice a xs.length cap) xs.length (ints xs)) {i : Nat} (hi : i ≤ xs.length) :
    SR w 1 (.slice a i cap) (xs.take i).length (ints (xs.take i)) := (h.take hi (by omega)).cast (by simp; omega) (by rw [Nat.mul_one, ints_take])

/-- An own slice as one that is read. -/
theorem Hp.slsr {w0 : Base} {w : World} {μ : List Ent} (h : Hp w0 μ w) (i : Nat) {bo : Option Nat} {T : TypeId} {xs pad : List Value} {k len cap : Nat} (hm : μ[i]? = some (bo, T, xs ++ pad)) (hs : Sl k bo len cap xs pad) : SR w k (sv bo len cap) len xs :=
  h.sr i hm hs.lx hs.le hs.max (fun j u hu => by rw [List.getElem?_append_left (List.getElem?_eq_some_iff.1 hu).1]; exact hu)

/-- What a function that hands back a slice of its own leaves: its cells L, and how its value stands among the results. -/
def RetSl (T k : Nat) (L : List Value) (len : Nat) (V : Value → Value) (w : World) (e : Ending) (w' : World) : Prop :=
  ∃ (i : Nat × List Value) (bo : Option Nat), Sl k bo len i.1 L i.2 ∧ e = .returned (V (sv bo len i.1)) ∧ NewO w w' bo T (L ++ i.2)

theorem RetSl.nil {T k : Nat} {V : Value → Value} {w w' : World} (hx : Ext w w') : RetSl T k [] 0 V w (.returned (V (.slice none 0 0))) w' := ⟨(0, []), none, Sl.nil0 k, rfl, rfl, hx⟩
theorem RetSl.own {T k len cap : Nat} {V : Value → Value} {w w' : World} {μ : List Ent} (i : Nat) {bo : Option Nat} {L pad : List Value} (hp : Hp ⟨w, []⟩ μ w') (hm : μ[i]? = some (bo, T, L ++ pad)) (hs : Sl k bo len cap L pad) :
    RetSl T k L len V w (.returned (V (sv bo len cap))) w' := ⟨(cap, pad), bo, hs, rfl, hp.toNewO hm⟩
theorem RetSl.lit {T k len b : Nat} {V : Value → Value} {w w' : World} {μ : List Ent} (i : Nat) {L : List Value} (hp : Hp ⟨w, []⟩ μ w') (hm : μ[i]? = some (some b, T, L)) (hl : L.length = len * k) (hmx : len ≤ maxLen) :
    RetSl T k L len V w (.returned (V (.slice (some ⟨b, 0, none⟩) len len))) w' :=
  ⟨(len, []), some b, ⟨hl, by rw [List.append_nil]; exact hl, Nat.le_refl _, hmx, fun h => by cases h⟩, rfl, hp.toNewO (i := i) (by rw [hm, List.append_nil])⟩
theorem rep_ints (n : Nat) : (List.replicate n [Value.int .i64 0]).flatten = ints (List.replicate n 0) := by
  induction n with
  | zero => rfl
  | succ n ih => simp only [List.replicate_succ, List.flatten_cons, ints, List.map_cons] at *; rw [ih]; rfl
theorem intsAt {xs : List Int} {j : Nat} {v : Int} (h : xs[j]? = some v) : (ints xs)[0 + j * 1]? = some (.int .i64 v) := by rw [Nat.mul_one, Nat.zero_add]; exact ints_get h
theorem intsSet {xs : List Int} {j : Nat} (v : Int) (h : j < xs.length) : (ints xs).take (0 + j * 1) ++ [Value.int .i64 v] ++ (ints xs).drop (0 + j * 1 + 1) = ints (xs.set j v) := by
  rw [Nat.mul_one, Nat.zero_add]
  unfold ints
  rw [List.map_set, List.set_eq_take_append_cons_drop, if_pos (by simpa using h)]
  simp
theorem Hp.pick1 {w0 : Base} {w : World} {μ : List Ent} (h : Hp w0 μ w) (i : Nat) {e : Ent} (hm : μ[i]? = some e) : Hp w0 [e] w := h.sub (List.singleton_sublist.2 (List.mem_of_getElem? hm))
theorem Hp.atO {w0 : Base} {w : World} {μ : List Ent} (h : Hp w0 μ w) (i : Nat) {bo : Option Nat} {T : TypeId} {L : List Value} (hm : μ[i]? = some (bo, T, L)) : ∀ b, bo = some b → w.heap[b]? = some (.cells L.toArray T (0, 0)) := fun b hb => by
  subst hb
  exact h.at hm
/-- An own slice, its cells written over with numbers in a row. -/
theorem Sl.marked {k : Nat} {bo : Option Nat} {len cap : Nat} {xs pad : List Value} (h : Sl k bo len cap xs pad) (k0 : Int) : Sl k bo len cap (ints (marks k0 (k * len))) ((xs ++ pad).drop (k * len)) := by
  refine ⟨by rw [ints_length, marks_len, Nat.mul_comm], ?_, h.le, h.max, h.nil⟩
  rw [List.length_append, ints_length, marks_len, List.length_drop, h.lp]
  have := Nat.mul_le_mul_right k h.le
  rw [Nat.mul_comm k len]; omega

section
variable {P : Program} {n : Nat} {Q : Exit → Act → World → Prop} {σ : List (Nat × Value)} {w0 : Base} {μ : List Ent} {ops : Array Oper} {rest : List Oper}
variable {ty : TypeId} {pos : String} {aft : Array Edge}

/-! ### Parts of slices -/
theorem ov_subs {t e k : Nat} {x lo hi : Operand} {a : Option Addr} {len cap : Nat} {k1 k2 : IntKind} {i j : Int} (ht : P.underlying t = some (.slice e)) (hs : sizeB P e = some k) (hx : EV σ x = some (.slice a len cap)) (hl : EV σ lo = some (.int k1 i)) (hh : EV σ hi = some (.int k2 j))
    (p q : Nat) (hp : i = p) (hq : j = q) (h1 : p ≤ q) (h2 : q ≤ cap) : OV P n (.slice t x (some lo) (some hi) none) ty (.slice (subA a cap p k) (q - p) (cap - p)) σ w0 μ := fun _ _ _ _ c w hk _ => by
  subst hp; subst hq
  have e1 : (p : Int) ≤ q := by omega
  have e2 : (q : Int) ≤ cap := by omega
  simp [execOp, hk.eval hx, hk.eval hl, hk.eval hh, Instr.sliceAt, Instr.slice, Instr.sliceBounds, Instr.sliceBound, asIntOf, run_underlying ht, run_size hs, h1, h2, subA]
theorem ov_subh {t e k : Nat} {x hi : Operand} {a : Option Addr} {len cap : Nat} {k2 : IntKind} {j : Int} (ht : P.underlying t = some (.slice e)) (hs : sizeB P e = some k) (hx : EV σ x = some (.slice a len cap)) (hh : EV σ hi = some (.int k2 j))
    (q : Nat) (hq : j = q) (h2 : q ≤ cap) : OV P n (.slice t x none (some hi) none) ty (.slice a q cap) σ w0 μ := fun _ _ _ _ c w hk _ => by
  subst hq
  have e2 : (q : Int) ≤ cap := by omega
  have e3 : (fun x => Addr.add x 0) = id := by funext x; exact addr_add0 x
  simp [execOp, hk.eval hx, hk.eval hh, Instr.sliceAt, Instr.slice, Instr.sliceBounds, Instr.sliceBound, asIntOf, run_underlying ht, run_size hs, h2, e3]
theorem ov_subl {t e k : Nat} {x lo : Operand} {a : Option Addr} {len cap : Nat} {k1 : IntKind} {i : Int} (ht : P.underlying t = some (.slice e)) (hs : sizeB P e = some k) (hx : EV σ x = some (.slice a len cap)) (hl : EV σ lo = some (.int k1 i))
    (p : Nat) (hp : i = p) (h1 : p ≤ len) : OV P n (.slice t x (some lo) none none) ty (.slice (subA a cap p k) (len - p) (cap - p)) σ w0 μ := fun _ _ _ _ c w hk _ => by
  subst hp
  have e1 : (p : Int) ≤ len := by omega
  simp [execOp, hk.eval hx, hk.eval hl, Instr.sliceAt, Instr.slice, Instr.sliceBounds, Instr.sliceBound, asIntOf, run_underlying ht, run_size hs, h1, subA]

/-! ### Struct and array values -/
def EVpp (σ : List (Nat × Value)) : List (Nat × Operand) → Option (List (Nat × Value))
  | [] => some []
  | (i, x) :: r => match EV σ x, EVpp σ r with
    | some v, some vs => some ((i, v) :: vs)
    | _, _ => none
theorem Kn.evpp {a : Act} (h : Kn σ n a) : ∀ {ps : List (Nat × Operand)} {vs : List (Nat × Value)}, EVpp σ ps = some vs → (ps.map fun p => (p.1, a.eval p.2)) = vs
  | [], _, he => by simp [EVpp] at he; simp [he]
  | (i, x) :: r, vs, he => by
    simp only [EVpp] at he
    split at he
    · rename_i v us h1 h2
      obtain rfl := Option.some.inj he
      simp [h.eval h1, h.evpp h2]
    · cases he
theorem ov_build {t : TypeId} {ps : List (Nat × Operand)} {vs : List (Nat × Value)} {cs : Array Value} (he : EVpp σ ps = some vs) (hb : P.built t vs = some cs) : OV P n (.build t ps.toArray) ty (.agg cs) σ w0 μ := fun _ _ _ _ c w hk _ => by
  have h1 : (ps.toArray.map fun p => (p.1, c.eval p.2)).toList = vs := by rw [← hk.evpp he]; simp
  have h2 := run_build (P := P) w t (ps.toArray.map fun p => (p.1, c.eval p.2)) cs (by rw [h1]; exact hb)
  simp only [execOp]
  rw [Sem.run_bind, h2]; rfl

theorem run_part_s {t : TypeId} (ht : Scal P t) {L : List Value} {off : Nat} {v : Value} (hv : L[off]? = some v) (w : World) : (part t L.toArray off).run P w = .ok v w := by
  unfold part
  rw [Sem.run_bind, run_isAgg_s ht]
  simp [hv]
theorem run_part_a {t k : Nat} (ht : Agg P t k) {L : List Value} {off : Nat} (w : World) : (part t L.toArray off).run P w = .ok (.agg ((L.drop off).take k).toArray) w := by
  unfold part
  rw [Sem.run_bind, run_isAgg_a ht]
  simp [run_size ht.sizeB]
theorem ov_fieldv {x : Operand} {s f : Nat} {off : Nat} {fs : Array Field} {fl : Field} {L : List Value} {v : Value} (hs : P.underlying s = some (.struct fs)) (hf : fs[f]? = some fl) (ho : fl.offset = off) (ht : Scal P fl.type) (hx : EV σ x = some (.agg L.toArray)) (hv : L[off]? = some v) :
    OV P n (.field s x f) ty v σ w0 μ := fun _ _ _ _ c w hk _ => by
  subst ho
  simp [execOp, hk.eval hx, Instr.field, run_underlying hs, hf, asAgg, run_part_s ht hv]
theorem ov_indexv {x y : Operand} {t e len : Nat} {kd : IntKind} {i : Int} {L : List Value} {v : Value} (ht : P.underlying t = some (.array len e)) (he : Scal P e) (hs : sizeB P e = some 1) (hx : EV σ x = some (.agg L.toArray)) (hy : EV σ y = some (.int kd i)) (j : Nat) (hj : i = j) (hlt : j < len) (hv : L[j]? = some v) :
    OV P n (.index t x y) ty v σ w0 μ := fun _ _ _ _ c w hk _ => by
  subst hj
  have h1 : (j : Int) < len := by omega
  simp [execOp, hk.eval hx, hk.eval hy, Instr.index, asIntOf, run_underlying ht, hlt, run_size hs, run_part_s he hv]
theorem ov_indexa {x y : Operand} {t e k len : Nat} {kd : IntKind} {i : Int} {L : List Value} (ht : P.underlying t = some (.array len e)) (he : Agg P e k) (hx : EV σ x = some (.agg L.toArray)) (hy : EV σ y = some (.int kd i)) (j : Nat) (hj : i = j) (hlt : j < len) :
    OV P n (.index t x y) ty (.agg ((L.drop (j * k)).take k).toArray) σ w0 μ := fun _ _ _ _ c w hk _ => by
  subst hj
  have h1 : (j : Int) < len := by omega
  simp [execOp, hk.eval hx, hk.eval hy, Instr.index, asIntOf, run_underlying ht, hlt, run_size he.sizeB, run_part_a he]

/-! ### min and max -/
theorem ov_min {x y : Operand} {tys : Array TypeId} {k : IntKind} {i j : Int} (hx : EV σ x = some (.int k i)) (hy : EV σ y = some (.int k j)) : OV P n (.call ⟨.builtin .min, #[x, y], tys⟩) ty (.int k (if j < i then j else i)) σ w0 μ := fun _ _ _ _ c w hk _ => by
  simp [execOp, resolve, invoke, builtin, hk.eval hx, hk.eval hy, Builtin.min_, Builtin.min2]
theorem ov_max {x y : Operand} {tys : Array TypeId} {k : IntKind} {i j : Int} (hx : EV σ x = some (.int k i)) (hy : EV σ y = some (.int k j)) : OV P n (.call ⟨.builtin .max, #[x, y], tys⟩) ty (.int k (if i < j then j else i)) σ w0 μ := fun _ _ _ _ c w hk _ => by
  simp [execOp, resolve, invoke, builtin, hk.eval hx, hk.eval hy, Builtin.max_, Builtin.max2]


/-! ### append and copy out of any slice -/
theorem ints_one (xs : List Int) : ∀ u ∈ ints xs, u.oneCell' = true := by
  intro u hu
  obtain ⟨i, _, rfl⟩ := List.mem_map.1 hu
  rfl
theorem flat_one {α : Type} {enc : α → List Value} (h : ∀ x, ∀ u ∈ enc x, u.oneCell' = true) (xs : List α) : ∀ u ∈ flat enc xs, u.oneCell' = true := by
  intro u hu
  obtain ⟨x, _, hx⟩ := List.mem_flatMap.1 hu
  exact h x u hx
theorem list_one {l : List Value} (h : l.all (·.oneCell') = true) : ∀ u ∈ l, u.oneCell' = true := fun u hu => List.all_eq_true.1 h u hu

theorem rl_app (pre : List Ent) {post : List Ent} {d t e by_ k len cap m c : Nat} {sa : Option Addr} {bo : Option Nat} {xs pad news zs : List Value} {x y : Operand} (ht : P.underlying t = some (.slice e)) (hz : zeroB P e = some zs) (hs : sizeB P e = some k) (hzk : zs.length = k) (hk0 : Nat.blt 0 k = true) (hby : bytesB P e = some by_)
    (hx : EV σ x = some (sv bo len cap)) (hy : EV σ y = some (.slice sa m c)) (hμ : μ = pre ++ (bo, e, xs ++ pad) :: post) (hsl : Sl k bo len cap xs pad)
    (hsr : ∀ w, Hp w0 μ w → SR w k (.slice sa m c) m news) (h1 : ∀ u ∈ news, u.oneCell' = true) (h63 : len + m ≤ maxLen) (hbytes : (len + m) * by_ ≤ 140737488355328) (hd : Nat.blt d n = true)
    (next : ∀ bo' cap' pad', Sl k bo' (len + m) cap' (xs ++ news) pad' → RL P n ops Q rest ((d, sv bo' (len + m) cap') :: σ) w0 (pre ++ (bo', e, xs ++ news ++ pad') :: post)) :
    RL P n ops Q (⟨some d, .call ⟨.builtin .append, #[x, y], #[t, t]⟩, ty, pos, aft, none⟩ :: rest) σ w0 μ := fun a w hk hp => by
  have hk0' : 0 < k := by simpa using hk0
  have h := hsr w hp
  rcases Nat.eq_zero_or_pos m with hm | hm
  · subst hm
    have hn : news = [] := List.length_eq_zero_iff.1 (by rw [h.1, Nat.zero_mul])
    subst hn
    have hi : ∃ i, P.info? e = some i := by
      unfold sizeB at hs
      cases h : P.info? e with
      | none => simp [h] at hs
      | some i => exact ⟨i, rfl⟩
    obtain ⟨i, hi⟩ := hi
    have hov : OV P n (.call ⟨.builtin .append, #[x, y], #[t, t]⟩) ty (sv bo len cap) σ w0 μ := fun _ _ _ _ c' w' hk' hp' => by
      have hr : (Builtin.append_ #[t, t] ty #[sv bo len cap, .slice sa 0 c]).run P w' = .ok (sv bo len cap) w' := by
        have hl0 : ∀ (x : Addr), (loadCells x 0).run P w' = .ok #[] w' := fun x => by simpa using run_loadCells_list (P := P) w' x [] (by simp)
        have hle := hsl.le
        cases bo <;> cases sa <;> simp [Builtin.append_, run_underlying ht, sizeOf, typeInfo, hi, Builtin.lenOf, Builtin.firstCells, hle, storeCells, hl0]
      simp [execOp, resolve, invoke, builtin, hk'.eval hx, hk'.eval hy, hr]
    have hnx := next bo cap pad (by simpa using hsl)
    rw [List.append_nil, ← hμ] at hnx
    exact rl_val gw_none hov hd hnx a w hk hp
  · obtain ⟨h2, a', cap', he, _, _, h3⟩ := h
    injection he with e1 _ e3
    subst e1; subst e3
    have hlt : 0 < news.length := by rw [h2]; exact Nat.mul_pos hm hk0'
    obtain ⟨sb, so, rfl, _⟩ := h3 0 _ (List.getElem?_eq_getElem hlt)
    refine rl_append pre ht hz hs hzk hk0 hby hx hy hμ hsl h2 (fun w' hp' j u hu => ?_) h1 h63 hbytes hd next a w hk hp
    obtain ⟨_, a2, c2, he2, _, _, h4⟩ := hsr w' hp'
    injection he2 with e1 _ e3
    subst e1; subst e3
    obtain ⟨b, o, hb, hc⟩ := h4 j u hu
    injection hb with hb
    injection hb with hb1 hb2
    subst hb1; subst hb2
    exact hc

theorem rl_copy (pre : List Ent) {post : List Ent} {d t t2 e k lo dl dc cap b : Nat} {T : TypeId} {L news : List Value} {sa : Option Addr} {sl sc : Nat} {x y : Operand} (ht : P.underlying t = some (.slice e)) (hs : sizeB P e = some k) (hk0 : Nat.blt 0 k = true)
    (hx : EV σ x = some (.slice (subA (some ⟨b, 0, none⟩) cap lo k) dl dc)) (hy : EV σ y = some (.slice sa sl sc)) (hμ : μ = pre ++ (some b, T, L) :: post)
    (hsr : ∀ w, Hp w0 μ w → SR w k (.slice sa sl sc) sl news) (m : Nat) (hm : m = Nat.min sl dl) (hdl : dl ≤ cap - lo) (hfit : lo * k + m * k ≤ L.length) (h1 : ∀ u ∈ news, u.oneCell' = true) (hd : Nat.blt d n = true)
    (next : RL P n ops Q rest ((d, .int .i64 m) :: σ) w0 (pre ++ (some b, T, L.take (lo * k) ++ news.take (m * k) ++ L.drop (lo * k + m * k)) :: post)) :
    RL P n ops Q (⟨some d, .call ⟨.builtin .copy, #[x, y], #[t, t2]⟩, ty, pos, aft, none⟩ :: rest) σ w0 μ := by
  subst hμ
  have hk0' : 0 < k := by simpa using hk0
  refine rl_eff (ι := Unit) (fun _ => .int .i64 m) (fun _ => pre ++ (some b, T, L.take (lo * k) ++ news.take (m * k) ++ L.drop (lo * k + m * k)) :: post) (fun _ _ _ _ c w hk hp => ?_) hd (fun _ => next)
  have hb : w.heap[b]? = some (.cells L.toArray T (0, 0)) := (hp.ents (some b, T, L) (by simp)).2
  have h := hsr w hp
  have hml : m ≤ sl := by rw [hm]; exact Nat.min_le_left _ _
  have hmd : m ≤ dl := by rw [hm]; exact Nat.min_le_right _ _
  have hcl : (news.take (m * k)).length = m * k := by rw [List.length_take, h.1, Nat.min_eq_left (Nat.mul_le_mul_right _ hml)]
  have hcells : (Builtin.firstCells k m (.slice sa sl sc)).run P w = .ok (news.take (m * k)).toArray w := by
    obtain ⟨h2, a', cap', he, _, _, h3⟩ := h
    injection he with e1 _ e3
    subst e1; subst e3
    cases sa with
    | none =>
      have : news = [] := by
        rcases Nat.eq_zero_or_pos news.length with h0 | h0
        · exact List.length_eq_zero_iff.1 h0
        · obtain ⟨_, _, hh, _⟩ := h3 0 _ (List.getElem?_eq_getElem h0); cases hh
      subst this
      simp [Builtin.firstCells]
    | some a =>
      have := run_loadCells_list (P := P) w a (news.take (m * k)) (fun j v hv => by
        have hj := (List.getElem?_eq_some_iff.1 hv).1
        rw [List.getElem?_take, if_pos (by omega)] at hv
        obtain ⟨b', o', hb', hc'⟩ := h3 j v hv
        injection hb' with hb'
        subst hb'
        rw [addr_add]; exact hc')
      rw [hcl] at this
      exact this
  rcases Nat.eq_zero_or_pos m with hm0 | hm0
  · have hL : L.take (lo * k) ++ news.take (m * k) ++ L.drop (lo * k + m * k) = L := by rw [hm0]; simp
    refine ⟨(), w, ?_, by rw [hL]; exact hp⟩
    have hc0 : (news.take (m * k)).toArray = #[] := by rw [hm0]; simp
    rw [hc0] at hcells
    have hmin : Nat.min sl dl = m := hm.symm
    have hr : (Builtin.copy_ #[t, t2] ty #[.slice (subA (some ⟨b, 0, none⟩) cap lo k) dl dc, .slice sa sl sc]).run P w = .ok (.int .i64 m) w := by
      cases subA (some ⟨b, 0, none⟩) cap lo k <;> simp [Builtin.copy_, run_underlying ht, Builtin.lenOf, run_size hs, hmin, hcells, storeCells, goInt]
    simp [execOp, resolve, invoke, builtin, hk.eval hx, hk.eval hy, hr]
  · have hlo : lo < cap := by omega
    rw [subA_some hlo, Nat.zero_add] at hx
    have hst := run_storeCells_at (P := P) b (lo * k) T (news.take (m * k)) 0 L.toArray w hb (by simp [hcl]; omega) (fun u hu => h1 u (List.mem_of_mem_take hu))
    obtain ⟨htn, hh⟩ := turn_row (cs := (L.toArray.toList.take (lo * k + 0) ++ news.take (m * k) ++ L.toArray.toList.drop (lo * k + 0 + (news.take (m * k)).length)).toArray) hb
    refine ⟨(), _, ?_, hp.turn htn (by rw [hh]; simp [hcl])⟩
    have hmin : Nat.min sl dl = m := hm.symm
    have hr : (Builtin.copy_ #[t, t2] ty #[.slice (some ⟨b, lo * k, none⟩) dl dc, .slice sa sl sc]).run P w = .ok (.int .i64 m) (w.setRow b (L.toArray.toList.take (lo * k + 0) ++ news.take (m * k) ++ L.toArray.toList.drop (lo * k + 0 + (news.take (m * k)).length)).toArray) := by
      simp only [Builtin.copy_, Sem.run_bind, run_underlying ht, Builtin.lenOf, run_size hs, hmin, hcells, Sem.run_pure, Result.andThen_ok, List.getElem?_toArray, List.getElem?_cons_zero, List.getElem?_cons_succ]
      first | (rw [hst]; rfl) | simp [hst, goInt]
    simp [execOp, resolve, invoke, builtin, hk.eval hx, hk.eval hy, hr]

theorem Sl.lit {k len b : Nat} {xs : List Value} (h : xs.length = len * k) (hm : len ≤ maxLen) : Sl k (some b) len len xs [] := ⟨h, by rw [List.append_nil]; exact h, Nat.le_refl _, hm, fun h => by cases h⟩
/-- A slice that is nil stands among the entries. -/
theorem rl_nilent (T : TypeId) (next : RL P n ops Q rest σ w0 ((none, T, []) :: μ)) : RL P n ops Q rest σ w0 μ := fun a w hk hp => next a w hk (hp.nil T)

/-- append, of elements that are listed. -/
theorem rl_appT {α : Type} (L : List α → List Value) (hL : ∀ a b, L (a ++ b) = L a ++ L b) (pre : List Ent) {post : List Ent} {d t e by_ k cap m c : Nat} {sa : Option Addr} {bo : Option Nat} {acc : List α} {pad zs : List Value} {x y : Operand} (ht : P.underlying t = some (.slice e)) (hz : zeroB P e = some zs) (hs : sizeB P e = some k) (hzk : zs.length = k) (hk0 : Nat.blt 0 k = true) (hby : bytesB P e = some by_)
    (hx : EV σ x = some (sv bo acc.length cap)) (hy : EV σ y = some (.slice sa m c)) (hμ : μ = pre ++ (bo, e, L acc ++ pad) :: post) (hsl : Sl k bo acc.length cap (L acc) pad) (ys : List α) (hys : ys.length = m)
    (hsr : ∀ w, Hp w0 μ w → SR w k (.slice sa m c) m (L ys)) (h1 : ∀ u ∈ L ys, u.oneCell' = true) (h63 : acc.length + m ≤ maxLen) (hbytes : (acc.length + m) * by_ ≤ 140737488355328) (hd : Nat.blt d n = true)
    (next : ∀ bo' cap' pad', Sl k bo' (acc ++ ys).length cap' (L (acc ++ ys)) pad' → RL P n ops Q rest ((d, sv bo' (acc ++ ys).length cap') :: σ) w0 (pre ++ (bo', e, L (acc ++ ys) ++ pad') :: post)) :
    RL P n ops Q (⟨some d, .call ⟨.builtin .append, #[x, y], #[t, t]⟩, ty, pos, aft, none⟩ :: rest) σ w0 μ := by
  subst hys
  refine rl_app pre ht hz hs hzk hk0 hby hx hy hμ hsl hsr h1 h63 hbytes hd (fun bo' cap' pad' h => ?_)
  have := next bo' cap' pad' (by rw [List.length_append, hL]; exact h)
  rw [List.length_append, hL] at this
  exact this

theorem ov_sslicel {t : TypeId} {x lo : Operand} {s : ByteArray} {k1 : IntKind} {i : Int} (ht : P.underlying t = some .string) (hx : EV σ x = some (.string s)) (hl : EV σ lo = some (.int k1 i)) (a : Nat) (ha : i = a) (hab : a ≤ s.size) :
    OV P n (.slice t x (some lo) none none) ty (.string (s.extract a s.size)) σ w0 μ := fun _ _ _ _ c w hk _ => by
  subst ha
  have h1 : (a : Int) ≤ s.size := by omega
  simp [execOp, hk.eval hx, hk.eval hl, Instr.sliceAt, Instr.slice, Instr.sliceBounds, Instr.sliceBound, asIntOf, run_underlying ht, hab]
theorem ov_ssliceh {t : TypeId} {x hi : Operand} {s : ByteArray} {k1 : IntKind} {i : Int} (ht : P.underlying t = some .string) (hx : EV σ x = some (.string s)) (hl : EV σ hi = some (.int k1 i)) (b : Nat) (hb : i = b) (hab : b ≤ s.size) :
    OV P n (.slice t x none (some hi) none) ty (.string (s.extract 0 b)) σ w0 μ := fun _ _ _ _ c w hk _ => by
  subst hb
  have h1 : (b : Int) ≤ s.size := by omega
  simp [execOp, hk.eval hx, hk.eval hl, Instr.sliceAt, Instr.slice, Instr.sliceBounds, Instr.sliceBound, asIntOf, run_underlying ht, hab]
/-- What a callee made, taken into what is known. -/
theorem Hp.lift {w w' : World} {μ E : List Ent} (h : Hp w0 μ w) (h2 : Hp ⟨w, []⟩ E w') : Hp w0 (E ++ μ) w' := by
  have h' := h.ext h2.ext0
  refine ⟨h'.os, h'.tape, h'.output, h'.size, h'.frame, fun e he => ?_, ?_⟩
  · rcases List.mem_append.1 he with he | he
    · have hok := h2.ents e he
      obtain ⟨o, T, L⟩ := e
      cases o with
      | none => exact hok
      | some b => exact ⟨.inl (Nat.le_trans h.size (hok.1.resolve_right (by simp))), hok.2⟩
    · exact h'.ents e he
  · have : keys (E ++ μ) = keys E ++ keys μ := by simp [keys]
    rw [this, List.nodup_append]
    refine ⟨h2.nodup, h.nodup, fun x hx y hy hxy => ?_⟩
    subst hxy
    have h3 := h.key_lt hy
    obtain ⟨e, he, hb⟩ := List.mem_filterMap.1 hx
    have hok := h2.ents e he
    obtain ⟨o, T, L⟩ := e
    simp only at hb
    subst hb
    have h4 : w.heap.size ≤ x := hok.1.resolve_right (by simp)
    omega
/-- A callee that makes blocks of its own. -/
theorem rl_calle {d : Nat} {f : FuncId} {xs : List Operand} {vs : List Value} {tys : Array TypeId} {ι : Type} (V : ι → Value) (E : ι → List Ent) (G : ι → Prop) (hf : Goes P f) (hx : EVs σ xs = some vs)
    (hc : ∀ w, Hp w0 μ w → Calls P f vs.toArray w (fun e w' => ∃ i, G i ∧ e = .returned (V i) ∧ Hp ⟨w, []⟩ (E i) w')) (hd : Nat.blt d n = true)
    (next : ∀ i, G i → RL P n ops Q rest ((d, V i) :: σ) w0 (E i ++ μ)) :
    RL P n ops Q (⟨some d, .call ⟨.value (.func f), xs.toArray, tys⟩, ty, pos, aft, none⟩ :: rest) σ w0 μ :=
  rl_call V (fun i => E i ++ μ) G gw_none hf hx (fun w hp => (hc w hp).mono fun _ _ ⟨i, hG, he, hx'⟩ => ⟨i, hG, he, hp.lift hx'⟩) hd next
/-- A callee that turns nothing that was there; of what it hands back a part is told. -/
theorem rl_callx {d : Nat} {f : FuncId} {xs : List Operand} {vs : List Value} {tys : Array TypeId} {g : Option (Nat × Bool)} {ι : Type} (V : ι → Value) (G : ι → Prop) (hg : GW ops n g true σ) (hf : Goes P f) (hx : EVs σ xs = some vs)
    (hc : ∀ w, Hp w0 μ w → Calls P f vs.toArray w (fun e w' => ∃ i, G i ∧ e = .returned (V i) ∧ Ext w w')) (hd : Nat.blt d n = true)
    (next : ∀ i, G i → RL P n ops Q rest ((d, V i) :: σ) w0 μ) :
    RL P n ops Q (⟨some d, .call ⟨.value (.func f), xs.toArray, tys⟩, ty, pos, aft, g⟩ :: rest) σ w0 μ :=
  rl_call V (fun _ => μ) G hg hf hx (fun w hp => (hc w hp).mono fun _ _ ⟨i, hG, he, hx'⟩ => ⟨i, hG, he, hp.ext hx'⟩) hd next
/-- The memory is said in other words. -/
theorem rl_mem {μ' : List Ent} (h : ∀ w, Hp w0 μ w → Hp w0 μ' w) (next : RL P n ops Q rest σ w0 μ') : RL P n ops Q rest σ w0 μ := fun a w hk hp => next a w hk (h w hp)
theorem over_at {k0 x : Int} {m p o : Nat} {L : List Value} (ho : o = p) (hx : x = k0 + (p : Int)) (hp : p < m) (hL : p < L.length) :
    (over (ints (marks k0 m)) L p).take o ++ [Value.int .i64 x] ++ (over (ints (marks k0 m)) L p).drop (o + 1) = over (ints (marks k0 m)) L (p + 1) := by
  subst ho; subst hx
  have := over_step (A := ints (marks k0 m)) (L := L) (imarks_get (k0 := k0) hp) hL
  rw [Nat.mul_one, Nat.zero_add] at this
  exact this
theorem ov_nilc {x : Operand} {a : Addr} (hx : EV σ x = some (.pointer (some a))) : OV P n (.nilCheck x) ty (.pointer (some a)) σ w0 μ := fun _ _ _ _ c w hk _ => by
  simp [execOp, hk.eval hx]
end
end Go.Proofs.Ytgnnlgmeagipjaa.K
