/- Slices that the call makes: make, append, literals; callees that hand back new memory. By an AI agent. -/
import Derived.Test.YtgnnlgmeagipjaaKf
set_option linter.unusedVariables false
namespace Go.Proofs.Ytgnnlgmeagipjaa.K
open Go Go.RowKit

def bytesB (P : Program) (t : TypeId) : Option Nat := (P.info? t).map (·.bytes)

/-- A new block, and nothing else turned. -/
def New (w w' : World) (b : Nat) (T : TypeId) (L : List Value) : Prop := w.heap.size ≤ b ∧ w'.heap[b]? = some (.cells L.toArray T (0, 0)) ∧ Ext w w'
/-- A new block, or none: a slice that may be nil. -/
def NewO (w w' : World) (bo : Option Nat) (T : TypeId) (L : List Value) : Prop := (match bo with | some b => w.heap.size ≤ b ∧ w'.heap[b]? = some (.cells L.toArray T (0, 0)) | none => L = []) ∧ Ext w w'

theorem Hp.newO {w0 : Base} {w w' : World} {μ : List Ent} (h : Hp w0 μ w) {bo : Option Nat} {T : TypeId} {L : List Value} (hn : NewO w w' bo T L) : Hp w0 ((bo, T, L) :: μ) w' := by
  cases bo with
  | none =>
    obtain ⟨h1, h2⟩ := hn
    have : L = [] := h1
    subst this
    exact (h.ext h2).nil T
  | some b => exact h.new hn.2 hn.1.1 hn.1.2

/-- What the call made, told to the caller. -/
theorem Hp.toNew {w0 w : World} {μ : List Ent} (h : Hp ⟨w0, []⟩ μ w) {i b : Nat} {T : TypeId} {L : List Value} (hm : μ[i]? = some (some b, T, L)) : New w0 w b T L := ⟨h.base hm, h.at hm, h.ext0⟩
theorem Hp.toNewO {w0 w : World} {μ : List Ent} (h : Hp ⟨w0, []⟩ μ w) {i : Nat} {bo : Option Nat} {T : TypeId} {L : List Value} (hm : μ[i]? = some (bo, T, L)) : NewO w0 w bo T L := by
  refine ⟨?_, h.ext0⟩
  have := h.ents _ (List.mem_of_getElem? hm)
  cases bo with
  | none => exact this
  | some b => exact ⟨this.1.resolve_right (by simp), this.2⟩

abbrev sv (bo : Option Nat) (len cap : Nat) : Value := .slice (bo.map fun b => ⟨b, 0, none⟩) len cap

/-- An own slice: its elements xs (k cells each, laid flat), what lies behind them. -/
structure Sl (k : Nat) (bo : Option Nat) (len cap : Nat) (xs pad : List Value) : Prop where
  lx : xs.length = len * k
  lp : (xs ++ pad).length = cap * k
  le : len ≤ cap
  max : cap ≤ maxLen
  nil : bo = none → len = 0 ∧ cap = 0

theorem Sl.nil0 (k : Nat) : Sl k none 0 0 [] [] := ⟨by simp, by simp, Nat.le_refl _, Nat.zero_le _, fun _ => ⟨rfl, rfl⟩⟩

/-! ### A slice that is filled from the front -/
def fill {α : Type} (enc : α → List Value) (zs : List Value) (xs : List α) (k : Nat) : List Value := flat enc (xs.take k) ++ (List.replicate (xs.length - k) zs).flatten
theorem fill_0 {α : Type} (enc : α → List Value) (zs : List Value) (xs : List α) : fill enc zs xs 0 = (List.replicate xs.length zs).flatten := by simp [fill, flat]
theorem fill_end {α : Type} (enc : α → List Value) (zs : List Value) (xs : List α) : fill enc zs xs xs.length = flat enc xs := by simp [fill]
theorem flatten_rep_len (m : Nat) (zs : List Value) : (List.replicate m zs).flatten.length = m * zs.length := by simp
theorem fill_ho {α : Type} {enc : α → List Value} {zs : List Value} {xs : List α} {k r : Nat} (he : ∀ x, (enc x).length = r) (hz : zs.length = r) (hk : k < xs.length) : 0 + k * r + r ≤ (fill enc zs xs k).length := by
  simp only [fill, List.length_append, flat_length he, flatten_rep_len, hz, List.length_take]
  rw [Nat.min_eq_left (by omega), ← Nat.add_mul, show k + (xs.length - k) = xs.length from by omega, Nat.zero_add]
  have := Nat.mul_le_mul_right r (show k + 1 ≤ xs.length from hk)
  rw [Nat.add_mul] at this; omega
theorem flat_append {α : Type} (enc : α → List Value) (xs ys : List α) : flat enc (xs ++ ys) = flat enc xs ++ flat enc ys := by simp [flat]
theorem take_snoc {α : Type} {xs : List α} {k : Nat} {x : α} (h : xs[k]? = some x) : xs.take (k + 1) = xs.take k ++ [x] := by
  have hk := (List.getElem?_eq_some_iff.1 h)
  rw [List.take_succ_eq_append_getElem hk.1, hk.2]
theorem fill_step {α : Type} {enc : α → List Value} {zs : List Value} {xs : List α} {k r : Nat} {x : α} (he : ∀ x, (enc x).length = r) (hz : zs.length = r) (hx : xs[k]? = some x) :
    (fill enc zs xs k).take (0 + k * r) ++ enc x ++ (fill enc zs xs k).drop (0 + k * r + r) = fill enc zs xs (k + 1) := by
  have hk : k < xs.length := (List.getElem?_eq_some_iff.1 hx).1
  have hl : (flat enc (xs.take k)).length = k * r := by rw [flat_length he, List.length_take, Nat.min_eq_left (by omega)]
  have hs : (List.replicate (xs.length - k) zs).flatten = zs ++ (List.replicate (xs.length - (k + 1)) zs).flatten := by
    rw [show xs.length - k = (xs.length - (k + 1)) + 1 from by omega, List.replicate_succ]; rfl
  unfold fill
  rw [Nat.zero_add, List.take_append_of_le_length (by omega), List.take_of_length_le (by omega), take_snoc hx, flat_append, hs]
  rw [List.drop_append, List.drop_eq_nil_of_le (by omega), List.nil_append, hl, Nat.add_sub_cancel_left, List.drop_append, List.drop_eq_nil_of_le (by omega), List.nil_append, hz, Nat.sub_self, List.drop_zero]
  simp [flat]

/-! ### A row that is written over from the front -/
def over (A L : List Value) (k : Nat) : List Value := A.take k ++ L.drop k
theorem over_0 (A L : List Value) : over A L 0 = L := by simp [over]
theorem over_len {A L : List Value} {k : Nat} (hA : k ≤ A.length) (hL : k ≤ L.length) : (over A L k).length = L.length := by
  simp [over]; omega
theorem over_step {A L : List Value} {k : Nat} {v : Value} (hA : A[k]? = some v) (hL : k < L.length) : (over A L k).take (0 + k * 1) ++ [v] ++ (over A L k).drop (0 + k * 1 + 1) = over A L (k + 1) := by
  have hk : k < A.length := (List.getElem?_eq_some_iff.1 hA).1
  have hl : (A.take k).length = k := by simp; omega
  rw [Nat.zero_add, Nat.mul_one]
  unfold over
  rw [List.take_append, hl, Nat.sub_self, List.take_zero, List.append_nil, List.take_of_length_le (by omega), List.drop_append, hl, List.drop_eq_nil_of_le (by omega), List.nil_append, Nat.add_sub_cancel_left, List.drop_drop, take_snoc hA]
def marks (k0 : Int) (n : Nat) : List Int := (List.range n).map fun (j : Nat) => k0 + (j : Int)
theorem marks_len (k0 : Int) (n : Nat) : (marks k0 n).length = n := by simp [marks]
theorem marks_get {k0 : Int} {n k : Nat} (h : k < n) : (marks k0 n)[k]? = some (k0 + (k : Int)) := by simp [marks, h]
theorem imarks_get {k0 : Int} {n k : Nat} (h : k < n) : (ints (marks k0 n))[k]? = some (.int .i64 (k0 + (k : Int))) := ints_get (marks_get h)
theorem over_marks (k0 : Int) (n : Nat) (L : List Value) : over (ints (marks k0 n)) L n = ints (marks k0 n) ++ L.drop n := by
  unfold over
  rw [List.take_of_length_le (by rw [ints_length, marks_len]; exact Nat.le_refl _)]

section
variable {P : Program} {n : Nat} {Q : Exit → Act → World → Prop} {σ : List (Nat × Value)} {w0 : Base} {μ : List Ent} {ops : Array Oper} {rest : List Oper}
variable {ty : TypeId} {pos : String} {aft : Array Edge}

theorem rl_callnew {d : Nat} {f : FuncId} {xs : List Operand} {vs : List Value} {tys : Array TypeId} {T : TypeId} {L : List Value} (V : Nat → Value) (hf : Goes P f) (hx : EVs σ xs = some vs)
    (hc : ∀ w, Hp w0 μ w → Calls P f vs.toArray w (fun e w' => ∃ b, e = .returned (V b) ∧ New w w' b T L)) (hd : Nat.blt d n = true)
    (next : ∀ b, RL P n ops Q rest ((d, V b) :: σ) w0 ((some b, T, L) :: μ)) :
    RL P n ops Q (⟨some d, .call ⟨.value (.func f), xs.toArray, tys⟩, ty, pos, aft, none⟩ :: rest) σ w0 μ :=
  rl_call V (fun b => (some b, T, L) :: μ) (fun _ => True) gw_none hf hx (fun w hp => (hc w hp).mono fun _ _ ⟨b, he, hn⟩ => ⟨b, trivial, he, hp.new hn.2.2 hn.1 hn.2.1⟩) hd (fun b _ => next b)

/-- A callee that hands back a slice of its own (or nil), among its results. -/
theorem rl_callsl {d : Nat} {f : FuncId} {xs : List Operand} {vs : List Value} {tys : Array TypeId} {T : TypeId} {ι : Type} (V : ι → Option Nat → Value) (L : ι → List Value) (G : ι → Option Nat → Prop) (hf : Goes P f) (hx : EVs σ xs = some vs)
    (hc : ∀ w, Hp w0 μ w → Calls P f vs.toArray w (fun e w' => ∃ i bo, G i bo ∧ e = .returned (V i bo) ∧ NewO w w' bo T (L i))) (hd : Nat.blt d n = true)
    (next : ∀ i bo, G i bo → RL P n ops Q rest ((d, V i bo) :: σ) w0 ((bo, T, L i) :: μ)) :
    RL P n ops Q (⟨some d, .call ⟨.value (.func f), xs.toArray, tys⟩, ty, pos, aft, none⟩ :: rest) σ w0 μ :=
  rl_call (ι := ι × Option Nat) (fun p => V p.1 p.2) (fun p => (p.2, T, L p.1) :: μ) (fun p => G p.1 p.2) gw_none hf hx (fun w hp => (hc w hp).mono fun _ _ ⟨i, bo, hg, he, hn⟩ => ⟨(i, bo), hg, he, hp.newO hn⟩) hd (fun p hg => next p.1 p.2 hg)

/-- A callee that writes into one own block (the i-th entry). -/
theorem rl_callw {d : Nat} {f : FuncId} {xs : List Operand} {vs : List Value} {tys : Array TypeId} {v : Value} (pre : List Ent) {post : List Ent} {b : Nat} {T : TypeId} {L L' : List Value} (hf : Goes P f) (hx : EVs σ xs = some vs) (hμ : μ = pre ++ (some b, T, L) :: post)
    (hc : ∀ w, Hp w0 μ w → Calls P f vs.toArray w (fun e w' => e = .returned v ∧ Turn w w' b ∧ w'.heap[b]? = some (.cells L'.toArray T (0, 0)))) (hd : Nat.blt d n = true)
    (next : RL P n ops Q rest ((d, v) :: σ) w0 (pre ++ (some b, T, L') :: post)) :
    RL P n ops Q (⟨some d, .call ⟨.value (.func f), xs.toArray, tys⟩, ty, pos, aft, none⟩ :: rest) σ w0 μ := by
  subst hμ
  exact rl_call (ι := Unit) (fun _ => v) (fun _ => pre ++ (some b, T, L') :: post) (fun _ => True) gw_none hf hx (fun w hp => (hc w hp).mono fun _ _ ⟨he, ht, hh⟩ => ⟨(), trivial, he, hp.turn ht hh⟩) hd (fun _ _ => next)

/-- A callee that writes into one own block, which is not looked at any more. -/
theorem rl_callm {d : Nat} {f : FuncId} {xs : List Operand} {vs : List Value} {tys : Array TypeId} {v : Value} (pre : List Ent) {post : List Ent} {b : Nat} {T : TypeId} {L : List Value} (hf : Goes P f) (hx : EVs σ xs = some vs) (hμ : μ = pre ++ (some b, T, L) :: post)
    (hc : ∀ w, Hp w0 μ w → Calls P f vs.toArray w (fun e w' => e = .returned v ∧ Turn w w' b)) (hd : Nat.blt d n = true)
    (next : RL P n ops Q rest ((d, v) :: σ) w0 (pre ++ post)) :
    RL P n ops Q (⟨some d, .call ⟨.value (.func f), xs.toArray, tys⟩, ty, pos, aft, none⟩ :: rest) σ w0 μ := by
  subst hμ
  exact rl_call (ι := Unit) (fun _ => v) (fun _ => pre ++ post) (fun _ => True) gw_none hf hx (fun w hp => (hc w hp).mono fun _ _ ⟨he, ht⟩ => ⟨(), trivial, he, hp.turnDrop ht⟩) hd (fun _ _ => next)

/-- What a callee wrote into a block, or into none. -/
def Wrote (bo : Option Nat) (T : TypeId) (L' : List Value) (w w' : World) : Prop := match bo with
  | some b => Turn w w' b ∧ w'.heap[b]? = some (.cells L'.toArray T (0, 0))
  | none => L' = [] ∧ Ext w w'
/-- The same where the slice may be nil: then nothing is written. -/
theorem rl_callwo {d : Nat} {f : FuncId} {xs : List Operand} {vs : List Value} {tys : Array TypeId} {v : Value} (pre : List Ent) {post : List Ent} {bo : Option Nat} {T : TypeId} {L L' : List Value} (hf : Goes P f) (hx : EVs σ xs = some vs) (hμ : μ = pre ++ (bo, T, L) :: post)
    (hc : ∀ w, Hp w0 μ w → Calls P f vs.toArray w (fun e w' => e = .returned v ∧ Wrote bo T L' w w')) (hd : Nat.blt d n = true)
    (next : RL P n ops Q rest ((d, v) :: σ) w0 (pre ++ (bo, T, L') :: post)) :
    RL P n ops Q (⟨some d, .call ⟨.value (.func f), xs.toArray, tys⟩, ty, pos, aft, none⟩ :: rest) σ w0 μ := by
  cases bo with
  | some b => exact rl_callw pre hf hx hμ hc hd next
  | none =>
    subst hμ
    refine rl_call (ι := Unit) (fun _ => v) (fun _ => pre ++ (none, T, L') :: post) (fun _ => True) gw_none hf hx (fun w hp => (hc w hp).mono fun _ w' ⟨he, hl, hxt⟩ => ⟨(), trivial, he, ?_⟩) hd (fun _ _ => next)
    have hp' := hp.ext hxt
    refine ⟨hp'.os, hp'.tape, hp'.output, hp'.size, hp'.frame, fun e he => ?_, by have := hp'.nodup; simpa [keys] using this⟩
    rcases List.mem_append.1 he with he | he
    · exact hp'.ents e (by simp [he])
    · rcases List.mem_cons.1 he with rfl | he
      · exact hl
      · exact hp'.ents e (by simp [he])

theorem made_list (z : Array Value) : ∀ m, (madeCells z (m * z.size)).toList = (List.replicate m z.toList).flatten := by
  intro m
  apply List.ext_getElem?
  intro i
  unfold madeCells
  by_cases h0 : z.size = 0
  · have : z = #[] := Array.eq_empty_of_size_eq_zero h0
    subst this; simp
  · have hfl : (List.replicate m z.toList).flatten = flat (fun _ : Unit => z.toList) (List.replicate m ()) := by
      simp [flat, List.flatMap, List.map_replicate]
    rw [hfl]
    rcases Nat.lt_or_ge i (m * z.size) with hi | hi
    · have h1 : i / z.size < m := (Nat.div_lt_iff_lt_mul (by omega)).2 hi
      have h2 := flat_get (enc := fun _ : Unit => z.toList) (k := z.size) (fun _ => by simp) (List.replicate m ()) (i / z.size) (i % z.size) () (by simp [h1]) (Nat.mod_lt _ (by omega))
      rw [show i / z.size * z.size + i % z.size = i from by rw [Nat.mul_comm]; exact Nat.div_add_mod i _] at h2
      rw [h2]
      have h3 : i % z.size < z.size := Nat.mod_lt _ (by omega)
      simp [hi, h3]
    · rw [List.getElem?_eq_none (by simpa using hi), List.getElem?_eq_none (by rw [flat_length (k := z.size) (fun _ => by simp)]; simpa using hi)]

theorem rl_make {d t e by_ m : Nat} {zs : List Value} {x y : Operand} (ht : P.underlying t = some (.slice e)) (hz : zeroB P e = some zs) (hs : sizeB P e = some zs.length) (hby : bytesB P e = some by_) (hx : EV σ x = some (.int .i64 (m : Int))) (hy : EV σ y = some (.int .i64 (m : Int)))
    (hb : by_ * m ≤ 281474976710656) (hm : m ≤ maxLen) (hd : Nat.blt d n = true) (next : ∀ N, RL P n ops Q rest ((d, .slice (some ⟨N, 0, none⟩) m m) :: σ) w0 ((some N, e, (List.replicate m zs).flatten) :: μ)) :
    RL P n ops Q (⟨some d, .makeSlice t x y, ty, pos, aft, none⟩ :: rest) σ w0 μ :=
  rl_eff (fun N : Nat => .slice (some ⟨N, 0, none⟩) m m) (fun N => (some N, e, (List.replicate m zs).flatten) :: μ) (fun _ _ _ _ c w hk hp => by
    unfold zeroB at hz
    unfold sizeB at hs
    unfold bytesB at hby
    cases hi : P.info? e with
    | none => simp [hi] at hz
    | some i =>
      simp only [hi, Option.bind_some, Option.map_some, Option.some.injEq] at hz hs hby
      cases hzz : i.zero with
      | none => simp [hzz] at hz
      | some z =>
        simp only [hzz, Option.map_some, Option.some.injEq] at hz
        subst hz
        have hsz : i.size = z.cells.size := by simpa using hs
        obtain ⟨w', h1, h2, h3⟩ := run_make_full (P := P) w w.heap.size t e i z z.cells.size ht hi hzz hsz .i64 .i64 m (by rw [hby]; exact hb) hm (Nat.le_refl _)
        refine ⟨w.heap.size, w', ?_, ?_⟩
        · simp only [execOp, hk.eval hx, hk.eval hy, Sem.run_bind, h1, Result.andThen_ok]; rfl
        · have hx' : Ext w w' := ⟨h3.os, h3.tape, h3.output, h3.size, fun k hk' => h3.block k hk' (by simp)⟩
          obtain ⟨_, h4⟩ := h2
          rcases h4 with ⟨h4, _⟩ | ⟨g, cap, cur, h4, _, h5, _, _, h6, h7⟩
          · injection h4 with h4; cases h4
          · injection h4 with h4 _ h8
            simp only [Option.some.injEq, Addr.mk.injEq] at h4
            obtain ⟨rfl, _⟩ := h4
            subst h8
            have h9 : cur = ((List.replicate m z.cells.toList).flatten).toArray := by
              apply Array.toList_inj.1
              show cur.toList = (List.replicate m z.cells.toList).flatten
              rw [← made_list, ← h7, List.take_of_length_le (by simp [h6])]
            exact hp.new hx' (Nat.le_refl _) (by rw [h5, h9])) hd next
end
end Go.Proofs.Ytgnnlgmeagipjaa.K
