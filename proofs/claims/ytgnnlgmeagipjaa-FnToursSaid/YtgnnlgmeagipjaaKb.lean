/- The operations, one by one, over any program. By an AI agent. -/
import Derived.Test.YtgnnlgmeagipjaaKa
import Derived.WalkLawsBesides
namespace Go.Proofs.Ytgnnlgmeagipjaa.K
open Go Go.RowKit

section
variable {P : Program} {n : Nat} {Q : Exit → Act → World → Prop} {σ : List (Nat × Value)} {w0 : Base} {μ : List Ent} {ops : Array Oper} {rest : List Oper}
variable {ty : TypeId} {pos : String} {aft : Array Edge}

def RL (P : Program) (n : Nat) (ops : Array Oper) (Q : Exit → Act → World → Prop) (l : List Oper) (σ : List (Nat × Value)) (w0 : Base) (μ : List Ent) : Prop :=
  ∀ a w, Kn σ n a → Hp w0 μ w → wpList P ops Q l a w

theorem ct_reg {id : Nat} {l : List Oper} (h : RL P n l.toArray Q l σ w0 μ) : CT P n (.region id l.toArray false) Q σ w0 μ := fun a w hk hp => wp_region_lit (h a w hk hp)
theorem rl_nil (h : AT n (Q .normal) σ w0 μ) : RL P n ops Q [] σ w0 μ := fun a w hk hp => wpList_nil (h a w hk hp)
theorem rl_sub {l : List Oper} {σ' : List (Nat × Value)} {μ' : List Ent} (hs : Sub σ' σ) (hm : ∀ w, Hp w0 μ w → Hp w0 μ' w) (h : RL P n ops Q l σ' w0 μ') : RL P n ops Q l σ w0 μ :=
  fun a w hk hp => h a w (hk.sub hs) (hm w hp)

theorem rl_split {t : Nat} {b : Bool} {l : List Oper} (_hl : σ.lookup t = some (.bool b)) (h1 : b = true → RL P n ops Q l σ w0 μ) (h0 : b = false → RL P n ops Q l σ w0 μ) : RL P n ops Q l σ w0 μ := by
  cases hb : b with
  | true => exact h1 hb
  | false => exact h0 hb

/-- An operation that yields a value and leaves the world alone. -/
def OV (P : Program) (n : Nat) (op : Op) (ty : TypeId) (v : Value) (σ : List (Nat × Value)) (w0 : Base) (μ : List Ent) : Prop :=
  ∀ dst pos aft g a w, Kn σ n a → Hp w0 μ w → (execOp a.eval ⟨dst, op, ty, pos, aft, g⟩).run P w = .ok (.value v) w

/-- Is the operation wanted. -/
def GW (ops : Array Oper) (n : Nat) (g : Option (Nat × Bool)) (b : Bool) (σ : List (Nat × Value)) : Prop :=
  ∀ dst op ty pos aft a, Kn σ n a → Region.wanted ⟨dst, op, ty, pos, aft, g⟩ (yielded ops a.tmps) = b

theorem gw_none : GW ops n none true σ := fun _ _ _ _ _ _ _ => rfl
theorem gw_some {g t : Nat} {want b : Bool} (ht : (ops[g]?).bind (·.dst) = some t) (hl : σ.lookup t = some (.bool b)) (hb : b = want) : GW ops n (some (g, want)) true σ := fun _ _ _ _ _ a hk => by
  have := hk.2.2 t _ hl
  simp [Region.wanted, yielded, ht, this, hb]
theorem gw_not {g t : Nat} {want b : Bool} (ht : (ops[g]?).bind (·.dst) = some t) (hl : σ.lookup t = some (.bool b)) (hb : b = !want) : GW ops n (some (g, want)) false σ := fun _ _ _ _ _ a hk => by
  have := hk.2.2 t _ hl
  subst hb
  cases want <;> simp [Region.wanted, yielded, ht, this]
theorem gw_undef {g t : Nat} {want : Bool} (ht : (ops[g]?).bind (·.dst) = some t) (hl : σ.lookup t = some undef) : GW ops n (some (g, want)) false σ := fun _ _ _ _ _ a hk => by
  have := hk.2.2 t _ hl
  simp [Region.wanted, yielded, ht, this, undef]

theorem rl_val {d : Nat} {op : Op} {g : Option (Nat × Bool)} {v : Value} (hg : GW ops n g true σ) (h : OV P n op ty v σ w0 μ) (hd : Nat.blt d n = true) (next : RL P n ops Q rest ((d, v) :: σ) w0 μ) :
    RL P n ops Q (⟨some d, op, ty, pos, aft, g⟩ :: rest) σ w0 μ := fun a w hk hp => by
  unfold wpList
  rw [if_pos (hg _ _ _ _ _ _ hk)]
  refine .inl ?_
  unfold Oper.wp
  rw [h _ _ _ _ a w hk hp]
  exact next _ _ (hk.put hd v) hp
theorem rl_skip {d : Nat} {op : Op} {g : Option (Nat × Bool)} (hg : GW ops n g false σ) (hd : Nat.blt d n = true) (next : RL P n ops Q rest ((d, undef) :: σ) w0 μ) :
    RL P n ops Q (⟨some d, op, ty, pos, aft, g⟩ :: rest) σ w0 μ := fun a w hk hp => by
  unfold wpList
  rw [hg _ _ _ _ _ _ hk]
  exact next _ _ (hk.put hd undef) hp

/-- An operation with an effect: what it leaves, whatever the index i. -/
theorem rl_eff {d : Nat} {op : Op} {ι : Type} (V : ι → Value) (M : ι → List Ent)
    (h : ∀ dst pos aft g a w, Kn σ n a → Hp w0 μ w → ∃ i w', (execOp a.eval ⟨dst, op, ty, pos, aft, g⟩).run P w = .ok (.value (V i)) w' ∧ Hp w0 (M i) w')
    (hd : Nat.blt d n = true) (next : ∀ i, RL P n ops Q rest ((d, V i) :: σ) w0 (M i)) :
    RL P n ops Q (⟨some d, op, ty, pos, aft, none⟩ :: rest) σ w0 μ := fun a w hk hp => by
  unfold wpList
  rw [if_pos (show Region.wanted _ _ = true from rfl)]
  refine .inl ?_
  unfold Oper.wp
  obtain ⟨i, w', h1, h2⟩ := h _ _ _ _ a w hk hp
  rw [h1]
  exact next i _ _ (hk.put hd _) h2
/-- A store. -/
theorem rl_sto {op : Op} {μ' : List Ent}
    (h : ∀ dst pos aft g a w, Kn σ n a → Hp w0 μ w → ∃ w', (execOp a.eval ⟨dst, op, ty, pos, aft, g⟩).run P w = .ok .skip w' ∧ Hp w0 μ' w')
    (next : RL P n ops Q rest σ w0 μ') :
    RL P n ops Q (⟨none, op, ty, pos, aft, none⟩ :: rest) σ w0 μ := fun a w hk hp => by
  unfold wpList
  rw [if_pos (show Region.wanted _ _ = true from rfl)]
  refine .inl ?_
  unfold Oper.wp
  obtain ⟨w', h1, h2⟩ := h _ _ _ _ a w hk hp
  rw [h1]
  exact next _ _ hk h2

/-! ### Calls -/
def EVs (σ : List (Nat × Value)) : List Operand → Option (List Value)
  | [] => some []
  | x :: r => match EV σ x, EVs σ r with
    | some v, some vs => some (v :: vs)
    | _, _ => none

theorem Kn.evals {a : Act} (h : Kn σ n a) : ∀ {xs : List Operand} {vs : List Value}, EVs σ xs = some vs → xs.map a.eval = vs
  | [], _, he => by simp [EVs] at he; simp [he]
  | x :: r, vs, he => by
    simp only [EVs] at he
    split at he
    · rename_i v us h1 h2
      obtain rfl := Option.some.inj he
      simp [h.eval h1, h.evals h2]
    · cases he

def Goes (P : Program) (f : FuncId) : Prop := ∃ fn, P.funcs[f]? = some fn ∧ (fn.name == "runtime.NumGoroutine") = false ∧ fn.body.isNone = false

theorem run_call {f : FuncId} {xs : List Operand} {vs : List Value} {tys : Array TypeId} (hf : Goes P f) (hx : EVs σ xs = some vs) (dst : Option Tmp) (pos : String) (aft : Array Edge) (g : Option (Nat × Bool)) (a : Act) (w : World) (hk : Kn σ n a) :
    (execOp a.eval ⟨dst, .call ⟨.value (.func f), xs.toArray, tys⟩, ty, pos, aft, g⟩).run P w = .ok (.enter f vs.toArray) w := by
  obtain ⟨fn, h1, h2, h3⟩ := hf
  have hev := hk.evals hx
  have h3' : fn.body.isNone ≠ true := by rw [h3]; exact Bool.false_ne_true
  have hcf : (callFunc f vs.toArray).run P w = .ok (.enter f vs.toArray) w := by
    unfold callFunc
    simp only [Sem.run_bind, run_program, Result.andThen_ok, h1, h2, Bool.false_eq_true, if_false]
    rw [if_neg h3']; rfl
  have harg : xs.toArray.map a.eval ++ #[] = vs.toArray := by rw [← hev]; simp
  have hr : (resolve a.eval ⟨.value (.func f), xs.toArray, tys⟩ ty).run P w = .ok ⟨.fn (.func f) #[], xs.toArray.map a.eval⟩ w := by
    simp [resolve, Deferred.ofValue, Act.eval]
  show ((resolve a.eval ⟨.value (.func f), xs.toArray, tys⟩ ty) >>= fun d => invoke d.target d.args).run P w = _
  rw [Sem.run_bind, hr]
  show (callFunc f (xs.toArray.map a.eval ++ #[])).run P w = _
  rw [harg]; exact hcf

theorem rl_call {d : Nat} {f : FuncId} {xs : List Operand} {vs : List Value} {tys : Array TypeId} {g : Option (Nat × Bool)} {ι : Type} (V : ι → Value) (M : ι → List Ent) (G : ι → Prop) (hg : GW ops n g true σ) (hf : Goes P f) (hx : EVs σ xs = some vs)
    (hc : ∀ w, Hp w0 μ w → Calls P f vs.toArray w (fun e w' => ∃ i, G i ∧ e = .returned (V i) ∧ Hp w0 (M i) w')) (hd : Nat.blt d n = true)
    (next : ∀ i, G i → RL P n ops Q rest ((d, V i) :: σ) w0 (M i)) :
    RL P n ops Q (⟨some d, .call ⟨.value (.func f), xs.toArray, tys⟩, ty, pos, aft, g⟩ :: rest) σ w0 μ := fun a w hk hp => by
  unfold wpList
  rw [if_pos (hg _ _ _ _ _ _ hk)]
  refine .inl ?_
  unfold Oper.wp
  rw [run_call hf hx _ _ _ _ a w hk]
  refine (hc w hp).mono fun e w' ⟨i, hGi, he, hp'⟩ => ?_
  subst he
  exact next i hGi _ _ (hk.put hd _) hp'

/-- A callee that hands back one value and turns nothing that was there. -/
theorem rl_callv {d : Nat} {f : FuncId} {xs : List Operand} {vs : List Value} {tys : Array TypeId} {g : Option (Nat × Bool)} {v : Value} (hg : GW ops n g true σ) (hf : Goes P f) (hx : EVs σ xs = some vs)
    (hc : ∀ w, Hp w0 μ w → Calls P f vs.toArray w (fun e w' => e = .returned v ∧ Ext w w')) (hd : Nat.blt d n = true)
    (next : RL P n ops Q rest ((d, v) :: σ) w0 μ) :
    RL P n ops Q (⟨some d, .call ⟨.value (.func f), xs.toArray, tys⟩, ty, pos, aft, g⟩ :: rest) σ w0 μ :=
  rl_call (ι := Unit) (fun _ => v) (fun _ => μ) (fun _ => True) hg hf hx (fun w hp => (hc w hp).mono fun _ _ ⟨he, hx'⟩ => ⟨(), trivial, he, hp.ext hx'⟩) hd (fun _ _ => next)

/-! ### Values -/
theorem ov_move {x : Operand} {v : Value} (h : EV σ x = some v) : OV P n (.move x) ty v σ w0 μ := fun _ _ _ _ a w hk _ => by simp [execOp, hk.eval h]
theorem ov_assign {x : Operand} {v : Value} (h : EV σ x = some v) : OV P n (.assign x) ty v σ w0 μ := fun _ _ _ _ a w hk _ => by simp [execOp, hk.eval h]
theorem ov_pick {c x y : Operand} {b : Bool} {u v : Value} (hc : EV σ c = some (.bool b)) (hx : EV σ x = some u) (hy : EV σ y = some v) : OV P n (.pick c x y) ty (if b then u else v) σ w0 μ := fun _ _ _ _ a w hk _ => by
  simp [execOp, hk.eval hc, hk.eval hx, hk.eval hy, asBool]
theorem ov_pick_t {c x y : Operand} {b : Bool} {u : Value} (hc : EV σ c = some (.bool b)) (hb : b = true) (hx : EV σ x = some u) : OV P n (.pick c x y) ty u σ w0 μ := fun _ _ _ _ a w hk _ => by
  simp [execOp, hk.eval hc, hk.eval hx, asBool, hb]
theorem ov_pick_f {c x y : Operand} {b : Bool} {v : Value} (hc : EV σ c = some (.bool b)) (hb : b = false) (hy : EV σ y = some v) : OV P n (.pick c x y) ty v σ w0 μ := fun _ _ _ _ a w hk _ => by
  simp [execOp, hk.eval hc, hk.eval hy, asBool, hb]
theorem ov_not {x : Operand} {b : Bool} {t : TypeId} (h : EV σ x = some (.bool b)) : OV P n (.unOp .not t x) ty (.bool (!b)) σ w0 μ := fun _ _ _ _ a w hk _ => by
  simp [execOp, hk.eval h, Op.unary]
theorem ov_neg {x : Operand} {i : Int} {t : TypeId} (h : EV σ x = some (.int .i64 i)) (hb : -9223372036854775807 ≤ i ∧ i ≤ 9223372036854775807) : OV P n (.unOp .neg t x) ty (.int .i64 (-i)) σ w0 μ := fun _ _ _ _ a w hk _ => by
  have e : IntKind.i64.wrap (0 - i) = -i := by rw [IntWalk.i64_in _ (by omega)]; omega
  simp only [execOp, hk.eval h, Op.unary, Op.intArith, e]; rfl
theorem ov_extract {x : Operand} {k : Nat} {vs : Array Value} {v : Value} (h : EV σ x = some (.tuple vs)) (hv : vs[k]? = some v) : OV P n (.extract x k) ty v σ w0 μ := fun _ _ _ _ a w hk _ => by
  simp [execOp, hk.eval h, Instr.extract, hv]

theorem run_bin (op : BinOp) (t u : TypeId) (x y : Operand) (k : IntKind) (i j : Int) (r : Value) (hx : EV σ x = some (.int k i)) (hy : EV σ y = some (.int k j))
    (h : ∀ w, (binOp op t (.int k i) (.int k j)).run P w = .ok r w) : OV P n (.binOp op t x y u) ty r σ w0 μ := fun _ _ _ _ a w hk _ => by
  have hq : (eqGuard op t x y (.int k i) (.int k j)).run P w = .ok () w := by cases op <;> rfl
  simp only [execOp, hk.eval hx, hk.eval hy]
  simp [Sem.run_bind, hq, h w]

section
variable {x y : Operand} {t u : TypeId} {k : IntKind} {i j : Int} (hx : EV σ x = some (.int k i)) (hy : EV σ y = some (.int k j))
include hx hy
theorem ov_lss : OV P n (.binOp .lss t x y u) ty (.bool (decide (i < j))) σ w0 μ := run_bin _ _ _ _ _ k i j _ hx hy fun w => by cases k <;> rfl
theorem ov_leq : OV P n (.binOp .leq t x y u) ty (.bool (decide (i ≤ j))) σ w0 μ := run_bin _ _ _ _ _ k i j _ hx hy fun w => by cases k <;> rfl
theorem ov_gtr : OV P n (.binOp .gtr t x y u) ty (.bool (decide (i > j))) σ w0 μ := run_bin _ _ _ _ _ k i j _ hx hy fun w => by cases k <;> rfl
theorem ov_geq : OV P n (.binOp .geq t x y u) ty (.bool (decide (i ≥ j))) σ w0 μ := run_bin _ _ _ _ _ k i j _ hx hy fun w => by cases k <;> rfl
theorem ov_eql : OV P n (.binOp .eql t x y u) ty (.bool (i == j)) σ w0 μ := run_bin _ _ _ _ _ k i j _ hx hy fun w => by cases k <;> rfl
theorem ov_neq : OV P n (.binOp .neq t x y u) ty (.bool (i != j)) σ w0 μ := run_bin _ _ _ _ _ k i j _ hx hy fun w => by cases k <;> rfl
theorem ov_addk : OV P n (.binOp .add t x y u) ty (.int k (k.wrap (i + j))) σ w0 μ := run_bin _ _ _ _ _ k i j _ hx hy fun w => by cases k <;> rfl
theorem ov_subk : OV P n (.binOp .sub t x y u) ty (.int k (k.wrap (i - j))) σ w0 μ := run_bin _ _ _ _ _ k i j _ hx hy fun w => by cases k <;> rfl
theorem ov_mulk : OV P n (.binOp .mul t x y u) ty (.int k (k.wrap (i * j))) σ w0 μ := run_bin _ _ _ _ _ k i j _ hx hy fun w => by cases k <;> rfl
theorem ov_quok (h0 : j ≠ 0) : OV P n (.binOp .quo t x y u) ty (.int k (k.wrap (i.tdiv j))) σ w0 μ := run_bin _ _ _ _ _ k i j _ hx hy fun w => by
  have e : (Op.intDiv BinOp.quo k i j).run P w = .ok (.int k (k.wrap (i.tdiv j))) w := by simp [Op.intDiv, h0]
  rw [← e]; cases k <;> rfl
theorem ov_remk (h0 : j ≠ 0) : OV P n (.binOp .rem t x y u) ty (.int k (i.tmod j)) σ w0 μ := run_bin _ _ _ _ _ k i j _ hx hy fun w => by
  have e : (Op.intDiv BinOp.rem k i j).run P w = .ok (.int k (i.tmod j)) w := by simp [Op.intDiv, h0]
  rw [← e]; cases k <;> rfl
end
section
variable {x y : Operand} {t u : TypeId} {i j : Int} (hx : EV σ x = some (.int .i64 i)) (hy : EV σ y = some (.int .i64 j))
include hx hy
theorem ov_add (h : -9223372036854775808 ≤ i + j ∧ i + j ≤ 9223372036854775807) : OV P n (.binOp .add t x y u) ty (.int .i64 (i + j)) σ w0 μ := by
  have := ov_addk (P := P) (n := n) (ty := ty) (t := t) (u := u) (w0 := w0) (μ := μ) hx hy
  rwa [IntWalk.i64_in _ h] at this
theorem ov_sub (h : -9223372036854775808 ≤ i - j ∧ i - j ≤ 9223372036854775807) : OV P n (.binOp .sub t x y u) ty (.int .i64 (i - j)) σ w0 μ := by
  have := ov_subk (P := P) (n := n) (ty := ty) (t := t) (u := u) (w0 := w0) (μ := μ) hx hy
  rwa [IntWalk.i64_in _ h] at this
theorem ov_mul (h : -9223372036854775808 ≤ i * j ∧ i * j ≤ 9223372036854775807) : OV P n (.binOp .mul t x y u) ty (.int .i64 (i * j)) σ w0 μ := by
  have := ov_mulk (P := P) (n := n) (ty := ty) (t := t) (u := u) (w0 := w0) (μ := μ) hx hy
  rwa [IntWalk.i64_in _ h] at this
theorem ov_quo (h0 : 0 ≤ i) (h1 : i ≤ 9223372036854775807) (h2 : 0 < j) : OV P n (.binOp .quo t x y u) ty (.int .i64 (i / j)) σ w0 μ := by
  have := ov_quok (P := P) (n := n) (ty := ty) (t := t) (u := u) (w0 := w0) (μ := μ) hx hy (by omega)
  have e : i.tdiv j = i / j := Int.tdiv_eq_ediv_of_nonneg h0
  have h3 : 0 ≤ i / j := Int.ediv_nonneg h0 (by omega)
  have h4 : i / j ≤ i := Int.ediv_le_self j h0
  rwa [e, IntWalk.i64_in _ (by omega)] at this
theorem ov_rem (h0 : 0 ≤ i) (h2 : 0 < j) : OV P n (.binOp .rem t x y u) ty (.int .i64 (i % j)) σ w0 μ := by
  have := ov_remk (P := P) (n := n) (ty := ty) (t := t) (u := u) (w0 := w0) (μ := μ) hx hy (by omega)
  rwa [Int.tmod_eq_emod_of_nonneg h0] at this
end

theorem ov_eqb {x y : Operand} {t u : TypeId} {a b : Bool} (ht : P.underlying t = some .bool) (hx : EV σ x = some (.bool a)) (hy : EV σ y = some (.bool b)) : OV P n (.binOp .eql t x y u) ty (.bool (a == b)) σ w0 μ := fun _ _ _ _ c w hk _ => by
  have e : (binOp .eql t (.bool a) (.bool b)).run P w = .ok (.bool (a == b)) w := by
    show ((Op.equal t (.bool a) (.bool b)) >>= fun r => pure (Value.bool r)).run P w = _
    rw [Sem.run_bind, run_equal_bool w t a b ht]; rfl
  have hq : (eqGuard .eql t x y (.bool a) (.bool b)).run P w = .ok () w := rfl
  simp only [execOp, hk.eval hx, hk.eval hy]
  simp [Sem.run_bind, hq, e]
theorem ov_neb {x y : Operand} {t u : TypeId} {a b : Bool} (ht : P.underlying t = some .bool) (hx : EV σ x = some (.bool a)) (hy : EV σ y = some (.bool b)) : OV P n (.binOp .neq t x y u) ty (.bool (a != b)) σ w0 μ := fun _ _ _ _ c w hk _ => by
  have e : (binOp .neq t (.bool a) (.bool b)).run P w = .ok (.bool (a != b)) w := by
    show ((Op.equal t (.bool a) (.bool b)) >>= fun r => pure (Value.bool (!r))).run P w = _
    rw [Sem.run_bind, run_equal_bool w t a b ht]; rfl
  have hq : (eqGuard .neq t x y (.bool a) (.bool b)).run P w = .ok () w := rfl
  simp only [execOp, hk.eval hx, hk.eval hy]
  simp [Sem.run_bind, hq, e]

/-! ### Lengths -/
theorem ov_len {x : Operand} {t e : TypeId} {a : Option Addr} {l c : Nat} (ht : P.underlying t = some (.slice e)) (h : EV σ x = some (.slice a l c)) :
    OV P n (.call ⟨.builtin .len, #[x], #[t]⟩) ty (.int .i64 l) σ w0 μ := fun _ _ _ _ b w hk _ => by
  simp [execOp, resolve, invoke, builtin, Builtin.len_, hk.eval h, Sem.run_bind, run_underlying ht, goInt]
theorem ov_lens {x : Operand} {t : TypeId} {s : ByteArray} (ht : P.underlying t = some .string) (h : EV σ x = some (.string s)) :
    OV P n (.call ⟨.builtin .len, #[x], #[t]⟩) ty (.int .i64 s.size) σ w0 μ := fun _ _ _ _ b w hk _ => by
  simp [execOp, resolve, invoke, builtin, Builtin.len_, hk.eval h, Sem.run_bind, run_underlying ht, goInt]
end
end Go.Proofs.Ytgnnlgmeagipjaa.K
