/- Operations on memory, over any program. By an AI agent. -/
import Derived.Test.YtgnnlgmeagipjaaKb
set_option linter.unusedVariables false
namespace Go.Proofs.Ytgnnlgmeagipjaa.K
open Go Go.RowKit

/-! ### Closed facts on types -/
def aggD : TypeDesc → Bool
  | .struct _ => true
  | .array _ _ => true
  | _ => false
def Scal (P : Program) (t : TypeId) : Prop := ∃ d, P.underlying t = some d ∧ aggD d = false
def Agg (P : Program) (t : TypeId) (k : Nat) : Prop := ∃ d i, P.underlying t = some d ∧ aggD d = true ∧ P.info? t = some i ∧ i.size = k
def sizeB (P : Program) (t : TypeId) : Option Nat := (P.info? t).map (·.size)
def zeroB (P : Program) (t : TypeId) : Option (List Value) := (P.info? t).bind fun i => i.zero.map fun z => z.cells.toList
def fieldB (P : Program) (s : TypeId) (f : Nat) : Option Nat :=
  match P.underlying s with
  | some (.struct fs) => match fs[f]? with
    | some fl => match P.info? fl.type with
      | some i => if i.size = 0 then none else some fl.offset
      | none => none
    | none => none
  | _ => none
def scalB (P : Program) (t : TypeId) : Bool := match P.underlying t with | some d => !aggD d | none => false
def aggB (P : Program) (t : TypeId) (k : Nat) : Bool := match P.underlying t, P.info? t with | some d, some i => aggD d && i.size == k | _, _ => false
theorem scal_of {P : Program} {t : TypeId} (h : scalB P t = true) : Scal P t := by
  unfold scalB at h
  split at h
  · rename_i d hd; exact ⟨d, hd, by simpa using h⟩
  · cases h
theorem agg_of {P : Program} {t : TypeId} {k : Nat} (h : aggB P t k = true) : Agg P t k := by
  unfold aggB at h
  split at h
  · rename_i d i hd hi; simp only [Bool.and_eq_true, beq_iff_eq] at h; exact ⟨d, i, hd, h.1, hi, h.2⟩
  · cases h

theorem run_isAgg_s {P : Program} {t : TypeId} (h : Scal P t) (w : World) : (isAgg t).run P w = .ok false w := by
  obtain ⟨d, hd, ha⟩ := h
  unfold isAgg
  rw [Sem.run_bind, run_underlying hd]
  cases d <;> simp_all [aggD]
theorem run_isAgg_a {P : Program} {t : TypeId} {k : Nat} (h : Agg P t k) (w : World) : (isAgg t).run P w = .ok true w := by
  obtain ⟨d, _, hd, ha, _⟩ := h
  unfold isAgg
  rw [Sem.run_bind, run_underlying hd]
  cases d <;> simp_all [aggD]
theorem run_size {P : Program} {t : TypeId} {k : Nat} (h : sizeB P t = some k) (w : World) : (sizeOf t).run P w = .ok k w := by
  unfold sizeB at h
  cases hi : P.info? t with
  | none => simp [hi] at h
  | some i => simp [hi] at h; simp [sizeOf, typeInfo, hi, h]
theorem Agg.sizeB {P : Program} {t : TypeId} {k : Nat} (h : Agg P t k) : K.sizeB P t = some k := by
  obtain ⟨_, i, _, _, hi, hk⟩ := h
  simp [K.sizeB, hi, hk]
theorem run_zero {P : Program} {t : TypeId} {L : List Value} (h : zeroB P t = some L) (w : World) : ∃ z, (zeroValue t).run P w = .ok z w ∧ z.cells.toList = L := by
  unfold zeroB at h
  cases hi : P.info? t with
  | none => simp [hi] at h
  | some i =>
    simp only [hi, Option.bind_some] at h
    cases hz : i.zero with
    | none => simp [hz] at h
    | some z => exact ⟨z, by simp [zeroValue, typeInfo, hi, hz], by simpa [hz] using h⟩

/-! ### Cells -/
theorem addr_add (b o k : Nat) : (⟨b, o, none⟩ : Addr).add k = ⟨b, o + k, none⟩ := by unfold Addr.add; split <;> simp_all

theorem cell_of_heap {w : World} {b o : Nat} {L : List Value} {T : TypeId} {fz : Nat × Nat} (h : w.heap[b]? = some (.cells L.toArray T fz)) : w.cell? ⟨b, o, none⟩ = L[o]? := by
  simp [World.cell?, h]

theorem cell_lt {w : World} {a : Addr} {v : Value} (h : w.cell? a = some v) : a.block < w.heap.size := by
  unfold World.cell? at h
  split at h
  · rename_i hh; exact (Array.getElem?_eq_some_iff.1 hh).1
  · cases h

theorem Hp.old {w0 w : World} {μ : List Ent} (h : Hp ⟨w0, []⟩ μ w) {a : Addr} {v : Value} (hc : w0.cell? a = some v) : w.cell? a = some v := by
  rw [Below.cell h.ext0 (cell_lt hc)]; exact hc

theorem Ext.cell {w w' : World} (h : Ext w w') {a : Addr} {v : Value} (hc : w.cell? a = some v) : w'.cell? a = some v := by
  rw [Below.cell h (cell_lt hc)]; exact hc

theorem Hp.at {w0 : Base} {w : World} {μ : List Ent} (h : Hp w0 μ w) {i b : Nat} {T : TypeId} {L : List Value} (hm : μ[i]? = some (some b, T, L)) : w.heap[b]? = some (.cells L.toArray T (0, 0)) :=
  (h.ents _ (List.mem_of_getElem? hm)).2
theorem Hp.base {w0 w : World} {μ : List Ent} (h : Hp ⟨w0, []⟩ μ w) {i b : Nat} {T : TypeId} {L : List Value} (hm : μ[i]? = some (some b, T, L)) : w0.heap.size ≤ b :=
  (h.ents _ (List.mem_of_getElem? hm)).1.resolve_right (by simp)

theorem Hp.own {w0 : Base} {w : World} {μ : List Ent} (h : Hp w0 μ w) (i : Nat) {b o : Nat} {T : TypeId} {L : List Value} {v : Value} (hm : μ[i]? = some (some b, T, L)) (hv : L[o]? = some v) : w.cell? ⟨b, o, none⟩ = some v := by
  rw [cell_of_heap (h.at hm)]; exact hv

/-- These cells, from this place on. -/
def Cells (w : World) (b : Nat) : Nat → List Value → Prop
  | _, [] => True
  | o, v :: r => w.cell? ⟨b, o, none⟩ = some v ∧ Cells w b (o + 1) r
def CellsL (L : List Value) : Nat → List Value → Prop
  | _, [] => True
  | o, v :: r => L[o]? = some v ∧ CellsL L (o + 1) r

theorem Cells.get {w : World} {b : Nat} : ∀ {o : Nat} {vs : List Value}, Cells w b o vs → ∀ j v, vs[j]? = some v → w.cell? ⟨b, o + j, none⟩ = some v
  | _, [], _, j, v, hv => by simp at hv
  | o, x :: r, h, 0, v, hv => by simp at hv; subst hv; exact h.1
  | o, x :: r, h, j + 1, v, hv => by
    have := Cells.get h.2 j v (by simpa using hv)
    rw [show o + (j + 1) = o + 1 + j from by omega]; exact this
theorem Cells.ext {w w' : World} {b : Nat} (hx : ∀ o v, w.cell? ⟨b, o, none⟩ = some v → w'.cell? ⟨b, o, none⟩ = some v) : ∀ {o : Nat} {vs : List Value}, Cells w b o vs → Cells w' b o vs
  | _, [], _ => trivial
  | _, _ :: _, h => ⟨hx _ _ h.1, Cells.ext hx h.2⟩
theorem CellsL.cells {w : World} {b : Nat} {L : List Value} {T : TypeId} {fz : Nat × Nat} (h : w.heap[b]? = some (.cells L.toArray T fz)) : ∀ {o : Nat} {vs : List Value}, CellsL L o vs → Cells w b o vs
  | _, [], _ => trivial
  | _, _ :: _, hc => ⟨by rw [cell_of_heap h]; exact hc.1, CellsL.cells h hc.2⟩

theorem run_loadVar_s {P : Program} {t : TypeId} (ht : Scal P t) {w : World} {a : Addr} {v : Value} (hc : w.cell? a = some v) : (loadVar t a).run P w = .ok v w := by
  unfold loadVar
  rw [Sem.run_bind, run_isAgg_s ht]
  simp [hc]
theorem run_loadVar_a {P : Program} {t : TypeId} {k : Nat} (ht : Agg P t k) {w : World} {b o : Nat} {vs : List Value} (hk : vs.length = k) (hc : Cells w b o vs) : (loadVar t ⟨b, o, none⟩).run P w = .ok (.agg vs.toArray) w := by
  unfold loadVar
  rw [Sem.run_bind, run_isAgg_a ht]
  have h1 := run_loadCells_list (P := P) w ⟨b, o, none⟩ vs (fun j v hv => by rw [addr_add]; exact hc.get j v hv)
  rw [hk] at h1
  simp [Sem.run_bind, run_size ht.sizeB, h1]

section
variable {P : Program} {n : Nat} {Q : Exit → Act → World → Prop} {σ : List (Nat × Value)} {w0 : Base} {μ : List Ent} {ops : Array Oper} {rest : List Oper}
variable {ty : TypeId} {pos : String} {aft : Array Edge}

/-! ### Loads -/
theorem run_load_op {x : Operand} {t : TypeId} {a : Addr} {v : Value} {c : Act} {w : World} (hk : Kn σ n c) (hx : EV σ x = some (.pointer (some a))) (h : (loadVar t a).run P w = .ok v w) (dst : Option Tmp) (g : Option (Nat × Bool)) :
    (execOp c.eval ⟨dst, .load t x, ty, pos, aft, g⟩).run P w = .ok (.value v) w := by
  simp [execOp, hk.eval hx, Instr.loadAt, Instr.sureAddr, h]

theorem ov_load (i : Nat) {x : Operand} {t : TypeId} {b o : Nat} {T : TypeId} {L : List Value} {v : Value} (ht : Scal P t) (hx : EV σ x = some (.pointer (some ⟨b, o, none⟩))) (hm : μ[i]? = some (some b, T, L)) (hv : L[o]? = some v) :
    OV P n (.load t x) ty v σ w0 μ := fun _ _ _ _ c w hk hp => run_load_op hk hx (run_loadVar_s ht (hp.own i hm hv)) _ _
theorem ov_loadw {w0 : World} {x : Operand} {t : TypeId} {b o : Nat} {v : Value} (ht : Scal P t) (hx : EV σ x = some (.pointer (some ⟨b, o, none⟩))) (hc : w0.cell? ⟨b, o, none⟩ = some v) :
    OV P n (.load t x) ty v σ ⟨w0, []⟩ μ := fun _ _ _ _ c w hk hp => run_load_op hk hx (run_loadVar_s ht (hp.old hc)) _ _
theorem ov_loada (i : Nat) {x : Operand} {t : TypeId} {k b o : Nat} {T : TypeId} {L : List Value} {vs : List Value} (ht : Agg P t k) (hx : EV σ x = some (.pointer (some ⟨b, o, none⟩))) (hm : μ[i]? = some (some b, T, L)) (hk : vs.length = k) (hv : CellsL L o vs) :
    OV P n (.load t x) ty (.agg vs.toArray) σ w0 μ := fun _ _ _ _ c w hkn hp => run_load_op hkn hx (run_loadVar_a ht hk (CellsL.cells (hp.at hm) hv)) _ _
theorem ov_loadaw {w0 : World} {x : Operand} {t : TypeId} {k b o : Nat} {vs : List Value} (ht : Agg P t k) (hx : EV σ x = some (.pointer (some ⟨b, o, none⟩))) (hk : vs.length = k) (hc : Cells w0 b o vs) :
    OV P n (.load t x) ty (.agg vs.toArray) σ ⟨w0, []⟩ μ := fun _ _ _ _ c w hkn hp => run_load_op hkn hx (run_loadVar_a ht hk (Cells.ext (fun _ _ h => hp.old h) hc)) _ _
/-- The whole of an own block. -/
theorem ov_loadall (i : Nat) {x : Operand} {t : TypeId} {k b : Nat} {T : TypeId} {L : List Value} (ht : Agg P t k) (hx : EV σ x = some (.pointer (some ⟨b, 0, none⟩))) (hm : μ[i]? = some (some b, T, L)) (hk : L.length = k) :
    OV P n (.load t x) ty (.agg L.toArray) σ w0 μ := fun _ _ _ _ c w hkn hp => by
  refine run_load_op hkn hx ?_ _ _
  unfold loadVar
  rw [Sem.run_bind, run_isAgg_a ht]
  have h1 := run_loadCells_list (P := P) w ⟨b, 0, none⟩ L (fun j v hv => by rw [addr_add, Nat.zero_add]; exact hp.own i hm hv)
  rw [hk] at h1
  simp [Sem.run_bind, run_size ht.sizeB, h1]

theorem ro_cell (i : Nat) {x t : Nat} {k b : Nat} {T : TypeId} {L : List Value} (ht : Agg P t k) (hx : σ.lookup x = some (.pointer (some ⟨b, 0, none⟩))) (hm : μ[i]? = some (some b, T, L)) (hk : L.length = k) :
    RO P n (.cell x t) (.agg L.toArray) σ w0 μ := fun c w hkn hp => by
  have h1 := hkn.2.2 x _ hx
  have h2 := run_loadCells_list (P := P) w ⟨b, 0, none⟩ L (fun j v hv => by rw [addr_add, Nat.zero_add]; exact hp.own i hm hv)
  rw [hk] at h2
  have h3 : (loadVar t ⟨b, 0, none⟩).run P w = .ok (.agg L.toArray) w := by
    unfold loadVar
    rw [Sem.run_bind, run_isAgg_a ht]
    simp [Sem.run_bind, run_size ht.sizeB, h2]
  simp [resOne, h1, asAddr, h3]
theorem ro_cells (i : Nat) {x t : Nat} {b : Nat} {T : TypeId} {L : List Value} {v : Value} (ht : Scal P t) (hx : σ.lookup x = some (.pointer (some ⟨b, 0, none⟩))) (hm : μ[i]? = some (some b, T, L)) (hv : L[0]? = some v) :
    RO P n (.cell x t) v σ w0 μ := fun c w hkn hp => by
  have h1 := hkn.2.2 x _ hx
  have h3 := run_loadVar_s (P := P) ht (hp.own i hm hv)
  simp [resOne, h1, asAddr, h3]

/-! ### Addresses -/
theorem ov_field {x : Operand} {s f b o off : Nat} (hf : fieldB P s f = some off) (hx : EV σ x = some (.pointer (some ⟨b, o, none⟩))) : OV P n (.fieldAddr s x f) ty (.pointer (some ⟨b, o + off, none⟩)) σ w0 μ := fun _ _ _ _ c w hk _ => by
  unfold fieldB at hf
  split at hf
  · rename_i fs hu
    split at hf
    · rename_i fl hfl
      split at hf
      · rename_i i hi
        split at hf
        · cases hf
        · rename_i hne
          obtain rfl := Option.some.inj hf
          simp [execOp, hk.eval hx, Instr.fieldAt, run_underlying hu, hfl, Instr.sureAddr, fieldPlace, sizeOf, typeInfo, hi, hne, addr_add]
      · cases hf
    · cases hf
  · cases hf
theorem ov_ix {x y : Operand} {t e k b o len cap : Nat} {kd : IntKind} {i : Int} (ht : P.underlying t = some (.slice e)) (hs : sizeB P e = some k) (hx : EV σ x = some (.slice (some ⟨b, o, none⟩) len cap)) (hy : EV σ y = some (.int kd i)) (j : Nat) (hj : i = j) (hlt : j < len) :
    OV P n (.indexAddr t x y) ty (.pointer (some ⟨b, o + j * k, none⟩)) σ w0 μ := fun _ _ _ _ c w hk _ => by
  subst hj
  have hl : (j : Int) < len := by omega
  simp [execOp, hk.eval hx, hk.eval hy, Instr.indexAt, asIntOf, run_underlying ht, run_size hs, hlt, addr_add]
theorem ov_ixa {x y : Operand} {t e k b o len : Nat} {kd : IntKind} {i : Int} (ht : P.underlying t = some (.array len e)) (hs : sizeB P e = some k) (hx : EV σ x = some (.pointer (some ⟨b, o, none⟩))) (hy : EV σ y = some (.int kd i)) (j : Nat) (hj : i = j) (hlt : j < len) :
    OV P n (.indexAddr t x y) ty (.pointer (some ⟨b, o + j * k, none⟩)) σ w0 μ := fun _ _ _ _ c w hk _ => by
  subst hj
  have hl : (j : Int) < len := by omega
  simp [execOp, hk.eval hx, hk.eval hy, Instr.indexAt, Instr.sureAddr, asIntOf, run_underlying ht, run_size hs, hlt, addr_add]

/-! ### New blocks -/
theorem rl_alloc {d T : Nat} {L : List Value} (hz : zeroB P T = some L) (hd : Nat.blt d n = true) (next : ∀ N, RL P n ops Q rest ((d, .pointer (some ⟨N, 0, none⟩)) :: σ) w0 ((some N, T, L) :: μ)) :
    RL P n ops Q (⟨some d, .alloc T, ty, pos, aft, none⟩ :: rest) σ w0 μ :=
  rl_eff (fun N : Nat => .pointer (some ⟨N, 0, none⟩)) (fun N => (some N, T, L) :: μ) (fun _ _ _ _ c w hk hp => by
    obtain ⟨z, h1, h2⟩ := run_zero hz w
    subst h2
    refine ⟨w.heap.size, _, ?_, hp.alloc _ T⟩
    simp [execOp, Instr.alloc, h1, newVar, newRow]) hd next
theorem rl_box {d T : Nat} {x : Operand} {v : Value} (hx : EV σ x = some v) (hd : Nat.blt d n = true) (next : ∀ N, RL P n ops Q rest ((d, .pointer (some ⟨N, 0, none⟩)) :: σ) w0 ((some N, T, v.cells.toList) :: μ)) :
    RL P n ops Q (⟨some d, .box T x, ty, pos, aft, none⟩ :: rest) σ w0 μ :=
  rl_eff (fun N : Nat => .pointer (some ⟨N, 0, none⟩)) (fun N => (some N, T, v.cells.toList) :: μ) (fun _ _ _ _ c w hk hp => by
    refine ⟨w.heap.size, _, ?_, hp.alloc _ T⟩
    simp [execOp, hk.eval hx, Instr.box, newVar, newRow]) hd next

/-! ### Stores -/
theorem turn_row {w : World} {b : Nat} {old cs : Array Value} {T : TypeId} (h : w.heap[b]? = some (.cells old T (0, 0))) : Turn w (w.setRow b cs) b ∧ (w.setRow b cs).heap[b]? = some (.cells cs T (0, 0)) := by
  refine ⟨⟨rfl, rfl, rfl, by simp [World.setRow], fun k hk hne => ?_⟩, setRow_heap w b old cs T (0, 0) h⟩
  simp only [World.setRow, Array.getElem?_modify]
  rw [if_neg (Ne.symm hne)]

theorem run_store (pre : List Ent) {post : List Ent} {x y : Operand} {t b o k : Nat} {T : TypeId} {L : List Value} {v : Value} (hs : sizeB P t = some k) (hx : EV σ x = some (.pointer (some ⟨b, o, none⟩))) (hy : EV σ y = some v)
    (hk : v.cells.size = k) (h1 : v.cells.toList.all (·.oneCell') = true) (ho : o + k ≤ L.length) :
    ∀ dst pos aft g c w, Kn σ n c → Hp w0 (pre ++ (some b, T, L) :: post) w → ∃ w', (execOp c.eval ⟨dst, .store t x y, ty, pos, aft, g⟩).run P w = .ok .skip w' ∧ Hp w0 (pre ++ (some b, T, L.take o ++ v.cells.toList ++ L.drop (o + k)) :: post) w' := by
  intro _ _ _ _ c w hkn hp
  have hb : w.heap[b]? = some (.cells L.toArray T (0, 0)) := (hp.ents (some b, T, L) (by simp)).2
  have hst := run_storeCells_at (P := P) b o T v.cells.toList 0 L.toArray w hb (by simp [hk]; omega) (fun u hu => List.all_eq_true.1 h1 u hu)
  obtain ⟨ht, hh⟩ := turn_row (cs := (L.toArray.toList.take (o + 0) ++ v.cells.toList ++ L.toArray.toList.drop (o + 0 + v.cells.toList.length)).toArray) hb
  refine ⟨_, ?_, hp.turn ht ?_⟩
  · have h2 : (Instr.storeAt t (.pointer (some ⟨b, o, none⟩)) v).run P w = .ok () (w.setRow b (L.toArray.toList.take (o + 0) ++ v.cells.toList ++ L.toArray.toList.drop (o + 0 + v.cells.toList.length)).toArray) := by
      simp only [Instr.storeAt, Instr.sureAddr, storeVar, Sem.run_bind, Sem.run_pure, Result.andThen_ok, run_size hs]
      rw [if_neg (by simpa using hk)]
      exact hst
    simp only [execOp, hkn.eval hx, hkn.eval hy, Sem.run_bind, h2, Result.andThen_ok]
    rfl
  · rw [hh]
    simp [hk]
theorem rl_store (pre : List Ent) {post : List Ent} {x y : Operand} {t b o k : Nat} {T : TypeId} {L : List Value} {v : Value} (hs : sizeB P t = some k) (hx : EV σ x = some (.pointer (some ⟨b, o, none⟩))) (hy : EV σ y = some v)
    (hk : v.cells.size = k) (h1 : v.cells.toList.all (·.oneCell') = true) (hμ : μ = pre ++ (some b, T, L) :: post) (ho : o + k ≤ L.length)
    (next : RL P n ops Q rest σ w0 (pre ++ (some b, T, L.take o ++ v.cells.toList ++ L.drop (o + k)) :: post)) :
    RL P n ops Q (⟨none, .store t x y, ty, pos, aft, none⟩ :: rest) σ w0 μ := by
  subst hμ
  exact rl_sto (μ' := pre ++ (some b, T, L.take o ++ v.cells.toList ++ L.drop (o + k)) :: post) (fun _ _ _ _ c w hkn hp => run_store pre hs hx hy hk h1 ho _ _ _ _ c w hkn hp) next
end
end Go.Proofs.Ytgnnlgmeagipjaa.K
