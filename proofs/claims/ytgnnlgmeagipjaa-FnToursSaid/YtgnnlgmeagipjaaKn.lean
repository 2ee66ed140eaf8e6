/- Callees that write into blocks of the caller; statements whose order is open, with literals that may come early and calls that write. By an AI agent. -/
import Derived.Test.YtgnnlgmeagipjaaKm
import Derived.LoopN
set_option linter.unusedVariables false
set_option linter.unusedSectionVars false
namespace Go.Proofs.Ytgnnlgmeagipjaa.K
open Go Go.RowKit

/-! ### Blocks that a callee may write -/
theorem Hp.self {w0 : Base} {w : World} {μ : List Ent} (h : Hp w0 μ w) : Hp ⟨w, keys μ⟩ μ w :=
  ⟨rfl, rfl, rfl, Nat.le_refl _, fun _ _ _ => rfl, fun e he => by
    have hok := h.ents _ he
    obtain ⟨o, T, L⟩ := e
    cases o with
    | none => exact hok
    | some b => exact ⟨.inr (List.mem_filterMap.2 ⟨_, he, rfl⟩), hok.2⟩, h.nodup⟩
theorem Hp.perm {w0 : Base} {w : World} {μ ν : List Ent} (h : Hp w0 μ w) (hp : μ.Perm ν) : Hp w0 ν w :=
  ⟨h.os, h.tape, h.output, h.size, h.frame, fun e he => h.ents e (hp.mem_iff.2 he), (hp.filterMap _).nodup_iff.1 h.nodup⟩
theorem hp_perm {w0 : Base} {μ ν : List Ent} (h : μ.Perm ν) : Hp w0 μ = Hp w0 ν := funext fun w => propext ⟨fun q => q.perm h, fun q => q.perm h.symm⟩
theorem perm_pull : ∀ (μ : List Ent) (i : Nat) (e : Ent), μ[i]? = some e → μ.Perm (e :: μ.eraseIdx i)
  | [], i, e, h => by simp at h
  | x :: r, 0, e, h => by simp at h; subst h; exact List.Perm.refl _
  | x :: r, i + 1, e, h => ((perm_pull r i e (by simpa using h)).cons x).trans (List.Perm.swap e x _)
/-- The i-th entry brought to the front. -/
theorem Hp.pull {w0 : Base} {w : World} {μ : List Ent} (h : Hp w0 μ w) (i : Nat) {e : Ent} (hm : μ[i]? = some e) : Hp w0 (e :: μ.eraseIdx i) w := h.perm (perm_pull μ i e hm)

theorem keys_app (μ ν : List Ent) : keys (μ ++ ν) = keys μ ++ keys ν := by simp [keys]

/-- What a callee did that may write into the blocks E0, taken into what is known. -/
theorem Hp.liftd {w0 : Base} {w w' : World} {E0 E rest : List Ent} (h : Hp w0 (E0 ++ rest) w) (h2 : Hp ⟨w, keys E0⟩ E w') : Hp w0 (E ++ rest) w' := by
  have hE0 : ∀ b ∈ keys E0, w0.w.heap.size ≤ b ∨ b ∈ w0.dirty := fun b hb => by
    obtain ⟨e, he, hb'⟩ := List.mem_filterMap.1 hb
    have hok := h.ents e (by simp [he])
    obtain ⟨o, T, L⟩ := e
    simp only at hb'
    subst hb'
    exact hok.1
  have hlt : ∀ b ∈ keys (E0 ++ rest), b < w.heap.size := fun b hb => h.key_lt hb
  have hnd := h.nodup
  rw [keys_app] at hnd hlt
  rw [List.nodup_append] at hnd
  obtain ⟨hn1, hn2, hn3⟩ := hnd
  have hE : ∀ b ∈ keys E, w.heap.size ≤ b ∨ b ∈ keys E0 := fun b hb => by
    obtain ⟨e, he, hb'⟩ := List.mem_filterMap.1 hb
    have hok := h2.ents e he
    obtain ⟨o, T, L⟩ := e
    simp only at hb'
    subst hb'
    exact hok.1
  refine ⟨h2.os.trans h.os, h2.tape.trans h.tape, h2.output.trans h.output, Nat.le_trans h.size h2.size, fun k hk hd => ?_, fun e he => ?_, ?_⟩
  · have hkn : k ∉ keys E0 := fun hm => by
      rcases hE0 k hm with h3 | h3
      · omega
      · exact hd h3
    rw [h2.frame k (Nat.lt_of_lt_of_le hk h.size) hkn]
    exact h.frame k hk hd
  · rcases List.mem_append.1 he with he | he
    · have hok := h2.ents e he
      obtain ⟨o, T, L⟩ := e
      cases o with
      | none => exact hok
      | some b =>
        refine ⟨?_, hok.2⟩
        rcases hok.1 with h3 | h3
        · exact .inl (Nat.le_trans h.size h3)
        · exact hE0 b h3
    · have hok := h.ents e (by simp [he])
      obtain ⟨o, T, L⟩ := e
      cases o with
      | none => exact hok
      | some b =>
        have hmem : b ∈ keys rest := List.mem_filterMap.2 ⟨_, he, rfl⟩
        refine ⟨hok.1, ?_⟩
        rw [h2.frame b (hlt b (by simp [hmem])) (fun hm => hn3 b hm b hmem rfl)]
        exact hok.2
  · rw [keys_app, List.nodup_append]
    refine ⟨h2.nodup, hn2, fun a ha b hb hab => ?_⟩
    subst hab
    rcases hE a ha with h3 | h3
    · have := hlt a (by simp [hb]); omega
    · exact hn3 a h3 a hb rfl

section
variable {P : Program} {n : Nat} {Q : Exit → Act → World → Prop} {σ : List (Nat × Value)} {w0 : Base} {μ : List Ent} {ops : Array Oper} {rest : List Oper}
variable {ty : TypeId} {pos : String} {aft : Array Edge}

/-- A function that may write into the blocks that it is told of. -/
theorem calls_ctds {f : FuncId} {fn : Func} {c : Code} {args : List Value} {w : World} {R : Ending → World → Prop} {n : Nat} {D : List Nat} {E0 : List Ent} (h0 : Hp ⟨w, D⟩ E0 w) (hf : P.funcs[f]? = some fn) (hnt : fn.ntmps = n) (hb : fn.body = some c)
    (hn : Nat.ble args.length n = true) (h : CT P n c (bodyPost P fn R) (args0 0 args) ⟨w, D⟩ E0) : Calls P f args.toArray w R := by
  subst hnt
  have hn' : args.length ≤ fn.ntmps := by simpa using hn
  refine calls_of_wp hf hb (h _ _ ⟨rfl, by simp; omega, fun t v hl => ?_⟩ h0)
  obtain ⟨_, h2⟩ := args0_lookup _ _ _ _ hl
  rw [Nat.sub_zero] at h2
  have hlt : t < args.length := (List.getElem?_eq_some_iff.1 h2).1
  have h3 : args[t] = v := (List.getElem?_eq_some_iff.1 h2).2
  simp [Array.getElem?_append, hlt, h3]

/-- A callee that may write into the blocks E0. -/
theorem rl_calld {d : Nat} {f : FuncId} {xs : List Operand} {vs : List Value} {tys : Array TypeId} {g : Option (Nat × Bool)} {ι : Type} (V : ι → Value) (E0 ν : List Ent) (E : ι → List Ent) (G : ι → Prop) (hg : GW ops n g true σ) (hf : Goes P f) (hx : EVs σ xs = some vs)
    (hμ : ∀ w, Hp w0 μ w → Hp w0 (E0 ++ ν) w) (hc : ∀ w, Hp w0 μ w → Hp ⟨w, keys E0⟩ E0 w → Calls P f vs.toArray w (fun e w' => ∃ i, G i ∧ e = .returned (V i) ∧ Hp ⟨w, keys E0⟩ (E i) w')) (hd : Nat.blt d n = true)
    (next : ∀ i, G i → RL P n ops Q rest ((d, V i) :: σ) w0 (E i ++ ν)) : RL P n ops Q (⟨some d, .call ⟨.value (.func f), xs.toArray, tys⟩, ty, pos, aft, g⟩ :: rest) σ w0 μ :=
  rl_call V (fun i => E i ++ ν) G hg hf hx (fun w hp => (hc w hp ((hμ w hp).sub (List.sublist_append_left _ _)).self).mono fun e w' ⟨i, hG, he, h2⟩ => ⟨i, hG, he, (hμ w hp).liftd h2⟩) hd next

/-- A part of an own block. -/
theorem cellsL_part : ∀ (k o : Nat) (L vs : List Value), (L.drop o).take k = vs → vs.length = k → CellsL L o vs
  | 0, o, L, vs, h, _ => by simp at h; subst h; trivial
  | k + 1, o, L, vs, h, hk => by
    cases hd : L.drop o with
    | nil => rw [hd] at h; simp at h; subst h; simp at hk
    | cons x r =>
      rw [hd, List.take_succ_cons] at h
      subst h
      have hx : L[o]? = some x := by
        have := congrArg (·[0]?) hd
        simpa using this
      have hr : L.drop (o + 1) = r := by
        have := congrArg (List.drop 1) hd
        simpa using this
      exact ⟨hx, cellsL_part k (o + 1) L _ (by rw [hr]) (by simpa using hk)⟩
theorem ov_loadp (i : Nat) {x : Operand} {t : TypeId} {k b o : Nat} {T : TypeId} {L : List Value} {vs : List Value} (ht : Agg P t k) (hx : EV σ x = some (.pointer (some ⟨b, o, none⟩))) (hm : μ[i]? = some (some b, T, L)) (hk : vs.length = k) (hv : (L.drop o).take k = vs) : OV P n (.load t x) ty (.agg vs.toArray) σ w0 μ :=
  ov_loada i ht hx hm hk (cellsL_part k o L vs hv hk)

/-! ### A loop of few rounds, one by one -/
def CTR (P : Program) (n : Nat) (c : Code) (Q : Exit → Act → World → Prop) (k : Nat) (σ : List (Nat × Value)) (w0 : Base) (μ : List Ent) : Prop :=
  ∀ a w, Kn σ n a → Hp w0 μ w → Code.rounds P c Q k a w
theorem ct_rounds {c : Code} (k : Nat) (h : CTR P n c Q k σ w0 μ) : CT P n (.loop c) Q σ w0 μ := fun a w hk hp => wp_loop_rounds k (h a w hk hp)
theorem ct_round {c : Code} {k : Nat} (h : CT P n c (Exit.then (Code.rounds P c Q k) Q) σ w0 μ) : CTR P n c Q (k + 1) σ w0 μ := fun a w hk hp => h a w hk hp
theorem at_round {c : Code} {k : Nat} (h : CTR P n c Q k σ w0 μ) : AT n (Exit.then (Code.rounds P c Q k) Q .normal) σ w0 μ := fun a w hk hp => h a w hk hp

/-- The same as rl_callsl, behind a guard. -/
theorem rl_callslg {d : Nat} {f : FuncId} {xs : List Operand} {vs : List Value} {tys : Array TypeId} {g : Option (Nat × Bool)} {T : TypeId} {ι : Type} (V : ι → Option Nat → Value) (L : ι → List Value) (G : ι → Option Nat → Prop) (hg : GW ops n g true σ) (hf : Goes P f) (hx : EVs σ xs = some vs)
    (hc : ∀ w, Hp w0 μ w → Calls P f vs.toArray w (fun e w' => ∃ i bo, G i bo ∧ e = .returned (V i bo) ∧ NewO w w' bo T (L i))) (hd : Nat.blt d n = true)
    (next : ∀ i bo, G i bo → RL P n ops Q rest ((d, V i bo) :: σ) w0 ((bo, T, L i) :: μ)) :
    RL P n ops Q (⟨some d, .call ⟨.value (.func f), xs.toArray, tys⟩, ty, pos, aft, g⟩ :: rest) σ w0 μ :=
  rl_call (ι := ι × Option Nat) (fun p => V p.1 p.2) (fun p => (p.2, T, L p.1) :: μ) (fun p => G p.1 p.2) hg hf hx (fun w hp => (hc w hp).mono fun _ _ ⟨i, bo, hG, he, hn⟩ => ⟨(i, bo), hG, he, hp.newO hn⟩) hd (fun p hG => next p.1 p.2 hG)

/-- A load out of the memory that was there and may not be written. -/
theorem ov_loadwd {D : List Nat} {w0 : World} {x : Operand} {t : TypeId} {b o : Nat} {v : Value} (ht : Scal P t) (hx : EV σ x = some (.pointer (some ⟨b, o, none⟩))) (hc : w0.cell? ⟨b, o, none⟩ = some v) (hd : b ∉ D) : OV P n (.load t x) ty v σ ⟨w0, D⟩ μ := fun dst pos aft g a w hk hp =>
  run_load_op hk hx (run_loadVar_s ht (by
    have hlt := cell_lt hc
    have hf := hp.frame b hlt hd
    unfold World.cell? at hc ⊢
    simp only at hc ⊢
    rw [hf]; exact hc)) dst g
end

/-! ### Literals that may come early -/
/-- A literal: its element type, its cells, its value over the new block. -/
structure Soft where
  T : TypeId
  L : List Value
  val : Nat → Value
/-- The plan of a walk: from where on effects stand; the effects; those that write; the literals; the quiet operations that look at memory; those that look at one block alone. -/
structure Fl where
  m0 : Nat
  effs : List Nat
  dirt : List Nat
  softs : List Nat
  mems : List Nat
  loose : List Nat

def flB (l : List Oper) (m : Nat) (π : List Nat) (F : Fl) : Bool :=
  let B := Region.before l.toArray
  let b := fun (p q : Nat) => match π[p]?, π[q]? with | some i, some j => befB B i j | _, _ => false
  drpB l m π && F.softs.all (fun q => decide (F.m0 ≤ q) && decide (q < m) && (List.range l.length).all fun p => !b q p || decide (p < F.m0)) &&
    (F.effs ++ F.softs).all (fun p => decide (F.m0 ≤ p) && (List.range l.length).all fun q => decide (q ≤ p) || F.softs.contains q || b q p) &&
    F.dirt.all (fun p => F.mems.all fun q => decide (p ≤ q) || b p q)

structure Df (ops : Array Oper) (B : Array Nat) (m : Nat) (π : List Nat) (F : Fl) : Prop where
  d : Dr ops B m π
  soft0 : ∀ q, q ∈ F.softs → F.m0 ≤ q ∧ q < m
  softb : ∀ q, q ∈ F.softs → ∀ p i j : Nat, π[q]? = some i → π[p]? = some j → befB B i j = true → p < F.m0
  eff0 : ∀ p, (p ∈ F.effs ∨ p ∈ F.softs) → F.m0 ≤ p
  eff : ∀ p, (p ∈ F.effs ∨ p ∈ F.softs) → ∀ q i j : Nat, p < q → q ∉ F.softs → π[q]? = some i → π[p]? = some j → befB B i j = true
  mem : ∀ p, p ∈ F.dirt → ∀ q, q ∈ F.mems → q < p → ∀ i j : Nat, π[p]? = some i → π[q]? = some j → befB B i j = true

theorem df_of {l : List Oper} {m : Nat} {π : List Nat} {F : Fl} (h : flB l m π F = true) : Df l.toArray (Region.before l.toArray) m π F := by
  unfold flB at h
  simp only [Bool.and_eq_true] at h
  obtain ⟨⟨⟨h1, h2⟩, h3⟩, h4⟩ := h
  have d := dr_of h1
  have hlen := d.len
  simp only [List.size_toArray] at hlen
  have hin : ∀ (p i : Nat), π[p]? = some i → p ∈ List.range l.length := fun p i hp => by
    have := (List.getElem?_eq_some_iff.1 hp).1
    exact List.mem_range.2 (by omega)
  have hs : ∀ q, q ∈ F.softs → (F.m0 ≤ q ∧ q < m) ∧ ∀ p i j : Nat, π[q]? = some i → π[p]? = some j → befB (Region.before l.toArray) i j = true → p < F.m0 := fun q hq => by
    have h5 := List.all_eq_true.1 h2 q hq
    simp only [Bool.and_eq_true, decide_eq_true_eq] at h5
    refine ⟨h5.1, fun p i j hqi hpj hb => ?_⟩
    have h6 := List.all_eq_true.1 h5.2 p (hin p j hpj)
    simp only [hqi, hpj, hb, Bool.not_true, Bool.false_or, decide_eq_true_eq] at h6
    exact h6
  have he : ∀ p, (p ∈ F.effs ∨ p ∈ F.softs) → F.m0 ≤ p ∧ ∀ q i j : Nat, p < q → q ∉ F.softs → π[q]? = some i → π[p]? = some j → befB (Region.before l.toArray) i j = true := fun p hp => by
    have h5 := List.all_eq_true.1 h3 p (List.mem_append.2 hp)
    simp only [Bool.and_eq_true, decide_eq_true_eq] at h5
    refine ⟨h5.1, fun q i j hpq hns hqi hpj => ?_⟩
    have h6 := List.all_eq_true.1 h5.2 q (hin q i hqi)
    simp only [hqi, hpj, Bool.or_eq_true, decide_eq_true_eq] at h6
    rcases h6 with (h6 | h6) | h6
    · omega
    · rw [List.contains_eq_mem] at h6; simp at h6; exact absurd h6 hns
    · exact h6
  refine ⟨d, fun q hq => (hs q hq).1, fun q hq => (hs q hq).2, fun p hp => (he p hp).1, fun p hp => (he p hp).2, fun p hp q hq hqp i j hpi hqj => ?_⟩
  have h5 := List.all_eq_true.1 (List.all_eq_true.1 h4 p hp) q hq
  simp only [hpi, hqj, Bool.or_eq_true, decide_eq_true_eq] at h5
  rcases h5 with h5 | h5
  · omega
  · exact h5

def ents (sf : Nat → Soft) (ea : List (Nat × Nat)) : List Ent := ea.map fun q => (some q.2, (sf q.1).T, (sf q.1).L)

def SoftOk (P : Program) (ops : Array Oper) (w0 : Base) (s : Soft) (o : Oper) (a : Act) : Prop :=
  Region.wanted o (yielded ops a.tmps) = true ∧ ∀ X w, Hp w0 X w → ∃ N w', (execOp a.eval o).run P w = .ok (.value (s.val N)) w' ∧ Hp w0 ((some N, s.T, s.L) :: X) w'

def NIn : List Ent → List Ent → Prop
  | [], _ => True
  | e :: N, M => (∃ j : Nat, M[j]? = some e) ∧ NIn N M
theorem NIn.mem : ∀ {N M : List Ent}, NIn N M → ∀ e ∈ N, e ∈ M
  | [], _, _, e, h => by cases h
  | x :: N, M, h, e, he => by
    rcases List.mem_cons.1 he with rfl | he
    · obtain ⟨j, hj⟩ := h.1; exact List.mem_iff_getElem?.2 ⟨j, hj⟩
    · exact h.2.mem e he
theorem Hp.one {w0 : Base} {w : World} {ν : List Ent} (h : Hp w0 ν w) {e : Ent} (he : e ∈ ν) : Hp w0 [e] w := h.sub (List.singleton_sublist.2 he)

/-- A quiet operation: what it looks at. -/
def Qt (P : Program) (ops : Array Oper) (F : Fl) (w0 : Base) (p : Nat) (μ N N' : List Ent) (o : Oper) (v : Value) (a : Act) : Prop :=
  (p ∉ F.mems → p ∉ F.loose → N' = N ∧ ∀ X, Yl P ops (Hp w0 X) o v a) ∧ (p ∈ F.mems → N' = N ∧ ∀ X, Yl P ops (Hp w0 (μ ++ X)) o v a) ∧ (p ∉ F.mems → p ∈ F.loose → ∃ e, N' = e :: N ∧ e ∈ μ ∧ ∀ ν, e ∈ ν → Yl P ops (Hp w0 ν) o v a)

def lwf (P : Program) (ops : Array Oper) (Q : Exit → Act → World → Prop) (w0 : Base) (F : Fl) (sf : Nat → Soft) : Nat → Nat → List Oper → List Ent → List Ent → Act → Prop
  | 0, _, l, μ, _, a => ∀ w, Hp w0 μ w → wpList P ops Q l a w
  | _ + 1, _, [], _, _, _ => False
  | r + 1, p, o :: l, μ, N, a => (p = F.m0 → ∀ q o', q ∈ F.softs → (o :: l)[q - p]? = some o' → SoftOk P ops w0 (sf q) o' a) ∧
      ((p ∈ F.softs ∧ ∀ b, lwf P ops Q w0 F sf r (p + 1) l ((some b, (sf p).T, (sf p).L) :: μ) N (a.put o.dst ((sf p).val b))) ∨
       (p ∉ F.softs ∧ p ∈ F.effs ∧ ∃ (ι : Type) (V1 : ι → Value) (M : ι → List Ent), Region.wanted o (yielded ops a.tmps) = true ∧ (p ∉ F.dirt → ∀ i, ∃ Y, (M i).Perm (μ ++ Y)) ∧ (p ∈ F.dirt → ∀ i, NIn N (M i)) ∧
          (∀ X w, Hp w0 (μ ++ X) w → effAt P V1 (fun i => Hp w0 (M i ++ X)) ((execOp a.eval o).run P w)) ∧ ∀ i, lwf P ops Q w0 F sf r (p + 1) l (M i) N (a.put o.dst (V1 i))) ∨
       (p ∉ F.softs ∧ p ∉ F.effs ∧ ∃ v N', Qt P ops F w0 p μ N N' o v a ∧ lwf P ops Q w0 F sf r (p + 1) l μ N' (a.put o.dst v)))

def HS (P : Program) (ops : Array Oper) (F : Fl) (w0 : Base) (sf : Nat → Soft) (po : Array Oper) (a0 : Act) (V : Nat → Value) : Prop :=
  ∀ q o, q ∈ F.softs → po[q]? = some o → SoftOk P ops w0 (sf q) o (lexA po V a0 F.m0)

/-- The state when the walk stands at p: ea are the literals that came early, each with its block. -/
structure Sf (P : Program) (ops : Array Oper) (π : List Nat) (F : Fl) (w0 : Base) (sf : Nat → Soft) (po : Array Oper) (a0 : Act) (p : Nat) (V : Nat → Value) (μ N : List Ent) (ea : List (Nat × Nat)) (L : Array Bool) (a : Act) (w : World) : Prop where
  size : L.size = ops.size
  closed : Closed ops L
  rest : ∀ q i : Nat, p ≤ q → π[q]? = some i → q ∉ ea.map Prod.fst → L.getD i true = false
  earl : ∀ q i : Nat, q ∈ ea.map Prod.fst → π[q]? = some i → L.getD i true = true
  eain : ∀ q, q ∈ ea.map Prod.fst → p ≤ q ∧ q ∈ F.softs
  nd : (ea.map Prod.fst).Nodup
  done : ∀ q, (q ∈ F.effs ∨ q ∈ F.softs) → q < p → ∀ i : Nat, π[q]? = some i → L.getD i true = true
  pend : ∀ (j : Nat) (o : Oper) (i : Nat), j < p → po[j]? = some o → π[j]? = some i → L.getD i true = false → (j ∉ F.mems → j ∉ F.loose → ∀ X, Yl P ops (Hp w0 X) o (V j) (lexA po V a0 j)) ∧ (j ∈ F.mems → ∀ X, Yl P ops (Hp w0 (μ ++ X)) o (V j) (lexA po V a0 j)) ∧ (j ∉ F.mems → j ∈ F.loose → ∃ e, e ∈ N ∧ e ∈ μ ∧ ∀ ν, e ∈ ν → Yl P ops (Hp w0 ν) o (V j) (lexA po V a0 j))
  at_ : At po V a0 (Lp π L) a
  cls : Hp w0 (μ ++ ents sf ea) w
  val : ∀ q N, (q, N) ∈ ea → V q = (sf q).val N
  hs : F.m0 < p → HS P ops F w0 sf po a0 V

theorem set_true {L : Array Bool} {i j : Nat} (h : L.getD j true = true) : (L.setIfInBounds i true).getD j true = true := by
  by_cases hij : i = j
  · subst hij
    rcases Nat.lt_or_ge i L.size with hlt | hge
    · simp [hlt]
    · simp [Nat.not_lt.2 hge]
  · rw [getD_set_ne true hij]; exact h
theorem set_false {L : Array Bool} {i j : Nat} (h : (L.setIfInBounds i true).getD j true = false) : L.getD j true = false := by
  cases hl : L.getD j true with
  | false => rfl
  | true => rw [set_true hl] at h; cases h

section
variable {P : Program} {ops : Array Oper} {B : Array Nat} {m : Nat} {π : List Nat} {F : Fl} {Q : Exit → Act → World → Prop} {w0 : Base} {sf : Nat → Soft} {po : Array Oper} {a0 : Act}
variable (df : Df ops B m π F) (hpo : ∀ p : Nat, po[p]? = (π[p]?).bind (ops[·]?)) (hps : po.size = ops.size)
include df hpo hps

theorem Sf.quiet {p : Nat} {V : Nat → Value} {μ N : List Ent} {ea : List (Nat × Nat)} {L : Array Bool} {a : Act} {w : World} (S : Sf P ops π F w0 sf po a0 p V μ N ea L a w) {q i : Nat} {oi : Oper} (hq : π[q]? = some i) (hoi : ops[i]? = some oi) (hqp : q < p)
    (hun : L.getD i true = false) (hall : ∀ e ∈ oi.after, Region.binds .any e = true → L.getD e.on false = true) {K : Act → World → Prop}
    (hK : ∀ w', Sf P ops π F w0 sf po a0 p V μ N ea (L.setIfInBounds i true) (a.put oi.dst (V q)) w' → K (a.put oi.dst (V q)) w') : wpOp P ops Q i K a w := by
  have d := df.d
  have hpq := po_at d hpo hps hq hoi
  have hin := (Array.getElem?_eq_some_iff.1 hoi).1
  have hy : Yl P ops (Hp w0 (μ ++ ents sf ea)) oi (V q) (lexA po V a0 q) := by
    obtain ⟨h1, h2, h3⟩ := S.pend q oi i hqp hpq hq hun
    by_cases hm : q ∈ F.mems
    · exact h2 hm _
    · by_cases hl : q ∈ F.loose
      · obtain ⟨e, _, he, h4⟩ := h3 hm hl
        exact h4 _ (List.mem_append_left _ he)
      · exact h1 hm hl _
  refine quiet_step d hpo hps S.closed S.at_ S.cls hq hoi hun hall hy (fun w' hw' => hK w' ?_)
  exact {
    size := by simp [S.size]
    closed := closed_set S.closed hoi hall
    rest := fun q' j hq' hj hne => by
      have hij : i ≠ j := fun e => by
        have := d.inj q' q i (by rw [e]; exact hj) hq
        omega
      rw [getD_set_ne true hij]; exact S.rest q' j hq' hj hne
    earl := fun q' j hq' hj => set_true (S.earl q' j hq' hj)
    eain := S.eain
    nd := S.nd
    done := fun q' h1 h2 j hj => set_true (S.done q' h1 h2 j hj)
    pend := fun j o i' hj ho hi hu => S.pend j o i' hj ho hi (set_false hu)
    at_ := at_step d hpo hps S.size S.closed S.at_ hq hoi hun
    cls := hw'
    val := S.val
    hs := S.hs }

theorem soft_looks {V : Nat → Value} {L : Array Bool} {a : Act} (hc : Closed ops L) (hat : At po V a0 (Lp π L) a) {q i : Nat} {oi : Oper} (hqs : q ∈ F.softs) (hq : π[q]? = some i) (hoi : ops[i]? = some oi) (hun : L.getD i true = false)
    (hall : ∀ e ∈ oi.after, Region.binds .any e = true → L.getD e.on false = true) : ∀ t, t ∈ oi.looksAt ops → a.tmps[t]? = (lexA po V a0 F.m0).tmps[t]? := by
  intro t ht
  have d := df.d
  have hle := d.le
  have hs0 := df.soft0 q hqs
  rw [hat.slot t, (lexA_at V a0 F.m0 (by omega)).slot t]
  unfold slotv
  rw [lst_congr (L' := fun j => decide (j < F.m0))]
  intro q' hq' hdst
  have hoq : po[q']? = some po[q'] := Array.getElem?_eq_getElem hq'
  rw [hoq] at hdst
  simp only [Option.bind_some] at hdst
  obtain ⟨j, hj, hoj⟩ := po_of d hpo hps hoq
  simp only [Lp, hj]
  rcases Nat.lt_trichotomy q' q with hqp | hqp | hqp
  · rcases d.ord q q' i j oi _ hq hj hoi hoj hqp with h | h
    · exact absurd ht ((Oper.apart_spec h).1 t hdst)
    · have hlt := df.softb q hqs q' i j hq hj h
      rw [closed_bef d hc q i oi hq hoi hall q' j hqp hj h]; simp [hlt]
  · subst hqp
    obtain rfl : i = j := Option.some.inj (hq.symm.trans hj)
    rw [getD_ff hun]; simp; omega
  · have hb : befB B j i = true := by
      rcases d.ord q' q j i _ oi hj hq hoj hoi hqp with h | h
      · exact absurd ht ((Oper.apart_spec h).2.2 t hdst)
      · exact h
    cases hl : L.getD j false with
    | false => simp; omega
    | true =>
      have := closed_bef d hc q' j _ hj hoj (fun e he hbe => hc j _ hoj hl e he hbe) q i hqp hq hb
      rw [getD_ff hun] at this; cases this

theorem Sf.soft {p : Nat} {V : Nat → Value} {μ N : List Ent} {ea : List (Nat × Nat)} {L : Array Bool} {a : Act} {w : World} (S : Sf P ops π F w0 sf po a0 p V μ N ea L a w) (hHS : HS P ops F w0 sf po a0 V) {q i : Nat} {oi : Oper} (hqs : q ∈ F.softs) (hpq : p ≤ q) (hne : q ∉ ea.map Prod.fst)
    (hq : π[q]? = some i) (hoi : ops[i]? = some oi) (hun : L.getD i true = false) (hall : ∀ e ∈ oi.after, Region.binds .any e = true → L.getD e.on false = true) {K : Act → World → Prop}
    (hK : ∀ b w', Sf P ops π F w0 sf po a0 p (fun k => if k = q then (sf q).val b else V k) μ N ((q, b) :: ea) (L.setIfInBounds i true) (a.put oi.dst ((sf q).val b)) w' → K (a.put oi.dst ((sf q).val b)) w') : wpOp P ops Q i K a w := by
  have d := df.d
  have hin := (Array.getElem?_eq_some_iff.1 hoi).1
  have hsame := soft_looks df hpo hps S.closed S.at_ hqs hq hoi hun hall
  have hsel := Region.noSelect_spec d.sel i oi
  have hex := exec_same (o := oi) (fun cs b => hsel cs b hoi) hsame
  have hwa := wanted_same (o := oi) hsame
  obtain ⟨hw1, hw2⟩ := hHS q oi hqs (po_at d hpo hps hq hoi)
  have hm0 := (df.soft0 q hqs).1
  unfold wpOp
  simp only [hoi]
  rw [if_pos (by rw [hwa]; exact hw1)]
  refine .inl ?_
  obtain ⟨b, w', he, hp'⟩ := hw2 _ w S.cls
  unfold Oper.wp
  rw [hex, he]
  simp only [Oper.upon]
  refine hK b w' ?_
  have hat2 : At po (fun k => if k = q then (sf q).val b else V k) a0 (Lp π L) a := at_congrV S.at_ (fun j hj => by
    have : j ≠ q := fun e => by
      subst e
      simp only [Lp, hq] at hj
      rw [getD_ff hun] at hj; cases hj
    simp only [if_neg this])
  have hat3 := at_step d hpo hps S.size S.closed hat2 hq hoi hun
  simp only [if_true] at hat3
  exact {
    size := by simp [S.size]
    closed := closed_set S.closed hoi hall
    rest := fun q' j hq' hj hne' => by
      have hne2 : q' ≠ q ∧ q' ∉ ea.map Prod.fst := by simpa using hne'
      have hij : i ≠ j := fun e => hne2.1 (d.inj q' q i (by rw [e]; exact hj) hq)
      rw [getD_set_ne true hij]; exact S.rest q' j hq' hj hne2.2
    earl := fun q' j hq' hj => by
      rcases List.mem_cons.1 hq' with rfl | h
      · obtain rfl : i = j := Option.some.inj (hq.symm.trans hj)
        simp [S.size, hin]
      · exact set_true (S.earl q' j h hj)
    eain := fun q' hq' => by
      rcases List.mem_cons.1 hq' with rfl | h
      · exact ⟨hpq, hqs⟩
      · exact S.eain q' h
    nd := List.nodup_cons.2 ⟨hne, S.nd⟩
    done := fun q' h1 h2 j hj => set_true (S.done q' h1 h2 j hj)
    pend := fun j o i' hj ho hi hu => by
      have := S.pend j o i' hj ho hi (set_false hu)
      rw [lexA_upd _ j (by omega)]
      simp only [if_neg (show j ≠ q by omega)]
      exact this
    at_ := hat3
    cls := hp'.perm List.perm_middle.symm
    val := fun q' N' h => by
      rcases List.mem_cons.1 h with h | h
      · obtain ⟨rfl, rfl⟩ := Prod.mk.inj h
        simp
      · have : q' ≠ q := fun e => hne (List.mem_map.2 ⟨(q', N'), h, e⟩)
        simp only [if_neg this]; exact S.val q' N' h
    hs := fun _ q' o hq' ho => by
      have := hHS q' o hq' ho
      rw [lexA_upd _ F.m0 (by omega)]
      exact this }

theorem Sf.advSoft {p : Nat} {V : Nat → Value} {μ N : List Ent} {ea : List (Nat × Nat)} {L : Array Bool} {a : Act} {w : World} (S : Sf P ops π F w0 sf po a0 p V μ N ea L a w) (hHS : HS P ops F w0 sf po a0 V) {b : Nat} (hN : (p, b) ∈ ea) {ip : Nat} (hip : π[p]? = some ip) :
    Sf P ops π F w0 sf po a0 (p + 1) V ((some b, (sf p).T, (sf p).L) :: μ) N (ea.erase (p, b)) L a w := by
  have hperm := List.perm_cons_erase hN
  have hpm := hperm.map Prod.fst
  have hnd := hpm.nodup_iff.1 S.nd
  rw [List.map_cons, List.nodup_cons] at hnd
  have hsub : ∀ q, q ∈ (ea.erase (p, b)).map Prod.fst → q ∈ ea.map Prod.fst := fun q hq => hpm.mem_iff.2 (by rw [List.map_cons]; exact List.mem_cons_of_mem _ hq)
  exact {
    size := S.size
    closed := S.closed
    rest := fun q i hq hi hne => S.rest q i (by omega) hi (fun hm => by
      have := hpm.mem_iff.1 hm
      rw [List.map_cons] at this
      rcases List.mem_cons.1 this with h | h
      · simp only at h; omega
      · exact hne h)
    earl := fun q i hq hi => S.earl q i (hsub q hq) hi
    eain := fun q hq => by
      have h1 := S.eain q (hsub q hq)
      have : q ≠ p := fun e => hnd.1 (by subst e; exact hq)
      exact ⟨by omega, h1.2⟩
    nd := hnd.2
    done := fun q h1 h2 i hi => by
      by_cases hqp : q = p
      · subst hqp; exact S.earl q i (List.mem_map.2 ⟨_, hN, rfl⟩) hi
      · exact S.done q h1 (by omega) i hi
    pend := fun j o i hj ho hi hu => by
      have hjp : j ≠ p := fun e => by
        subst e
        rw [S.earl j i (List.mem_map.2 ⟨_, hN, rfl⟩) hi] at hu; cases hu
      obtain ⟨h1, h2, h3⟩ := S.pend j o i (by omega) ho hi hu
      refine ⟨h1, fun hm X => ?_, fun hm hl => ?_⟩
      · have := h2 hm ((some b, (sf p).T, (sf p).L) :: X)
        rw [hp_perm List.perm_middle] at this
        exact this
      · obtain ⟨e, he1, he2, h4⟩ := h3 hm hl
        exact ⟨e, he1, List.mem_cons_of_mem _ he2, h4⟩
    at_ := S.at_
    cls := S.cls.perm (by
      have h1 : (ents sf ea).Perm ((some b, (sf p).T, (sf p).L) :: ents sf (ea.erase (p, b))) := by
        have := hperm.map (fun q : Nat × Nat => ((some q.2, (sf q.1).T, (sf q.1).L) : Ent))
        simpa [ents] using this
      exact (h1.append_left μ).trans List.perm_middle)
    val := fun q N' h => S.val q N' (List.mem_of_mem_erase h)
    hs := fun _ => hHS }

theorem Sf.eff {p : Nat} {V : Nat → Value} {μ N : List Ent} {ea : List (Nat × Nat)} {L : Array Bool} {a : Act} {w : World} (S : Sf P ops π F w0 sf po a0 p V μ N ea L a w) (hHS : HS P ops F w0 sf po a0 V) (hpe : p ∈ F.effs) (hpn : p ∉ F.softs) {ip : Nat} {o : Oper} (hip : π[p]? = some ip) (hop : ops[ip]? = some o)
    (hun : L.getD ip true = false) (hall : ∀ e ∈ o.after, Region.binds .any e = true → L.getD e.on false = true) {ι : Type} {V1 : ι → Value} {M : ι → List Ent} (hwt : Region.wanted o (yielded ops (lexA po V a0 p).tmps) = true)
    (hM : p ∉ F.dirt → ∀ i, ∃ Y, (M i).Perm (μ ++ Y)) (hN : p ∈ F.dirt → ∀ i, NIn N (M i)) (heff : ∀ X w, Hp w0 (μ ++ X) w → effAt P V1 (fun i => Hp w0 (M i ++ X)) ((execOp (lexA po V a0 p).eval o).run P w)) {K : Act → World → Prop}
    (hK : ∀ x w', Sf P ops π F w0 sf po a0 (p + 1) (fun k => if k = p then V1 x else V k) (M x) N ea (L.setIfInBounds ip true) (a.put o.dst (V1 x)) w' → K (a.put o.dst (V1 x)) w') : wpOp P ops Q ip K a w := by
  have d := df.d
  have hin := (Array.getElem?_eq_some_iff.1 hop).1
  have hm0 := df.eff0 p (.inl hpe)
  refine eff_step d hpo hps S.closed S.at_ S.cls hip hop hun hall hwt (heff (ents sf ea)) (fun x w' hw' => hK x w' ?_)
  have hat2 : At po (fun k => if k = p then V1 x else V k) a0 (Lp π L) a := at_congrV S.at_ (fun j hj => by
    have : j ≠ p := fun e => by
      subst e
      simp only [Lp, hip] at hj
      rw [getD_ff hun] at hj; cases hj
    simp only [if_neg this])
  have hat3 := at_step d hpo hps S.size S.closed hat2 hip hop hun
  simp only [if_true] at hat3
  exact {
    size := by simp [S.size]
    closed := closed_set S.closed hop hall
    rest := fun q j hq hj hne => by
      have hij : ip ≠ j := fun e => by
        have := d.inj q p ip (by rw [e]; exact hj) hip
        omega
      rw [getD_set_ne true hij]; exact S.rest q j (by omega) hj hne
    earl := fun q j hq hj => set_true (S.earl q j hq hj)
    eain := fun q hq => by
      have h1 := S.eain q hq
      have : q ≠ p := fun e => hpn (by subst e; exact h1.2)
      exact ⟨by omega, h1.2⟩
    nd := S.nd
    done := fun q h1 h2 j hj => by
      by_cases hqp : q = p
      · subst hqp
        obtain rfl : ip = j := Option.some.inj (hip.symm.trans hj)
        simp [S.size, hin]
      · exact set_true (S.done q h1 (by omega) j hj)
    pend := fun j o' i' hj ho hi hu => by
      have hjp : j ≠ p := fun e => by
        subst e
        obtain rfl : ip = i' := Option.some.inj (hip.symm.trans hi)
        simp [S.size, hin] at hu
      obtain ⟨h1, h2, h5⟩ := S.pend j o' i' (by omega) ho hi (set_false hu)
      rw [lexA_upd _ j (by omega)]
      simp only [if_neg hjp]
      refine ⟨h1, fun hm X => ?_, fun hm hl => ?_⟩
      rotate_left
      · obtain ⟨e, he1, he2, h6⟩ := h5 hm hl
        refine ⟨e, he1, ?_, h6⟩
        by_cases hdi : p ∈ F.dirt
        · exact (hN hdi x).mem e he1
        · obtain ⟨Y, hY⟩ := hM hdi x
          exact hY.mem_iff.2 (List.mem_append_left _ he2)
      by_cases hdi : p ∈ F.dirt
      · have hb := df.mem p hdi j hm (by omega) ip i' hip hi
        have := closed_bef d S.closed p ip o hip hop hall j i' (by omega) hi hb
        have h3 := set_false hu
        rw [getD_ff h3] at this; cases this
      · obtain ⟨Y, hY⟩ := hM hdi x
        have := h2 hm (Y ++ X)
        rw [← List.append_assoc, hp_perm (hY.symm.append_right X)] at this
        exact this
    at_ := hat3
    cls := hw'
    val := fun q b h => by
      have h1 := S.eain q (List.mem_map.2 ⟨_, h, rfl⟩)
      have : q ≠ p := fun e => hpn (by subst e; exact h1.2)
      simp only [if_neg this]; exact S.val q b h
    hs := fun _ q o' hq ho => by
      have := hHS q o' hq ho
      rw [lexA_upd _ F.m0 hm0]
      exact this }

theorem Sf.advQuiet {p : Nat} {V : Nat → Value} {μ N : List Ent} {ea : List (Nat × Nat)} {L : Array Bool} {a : Act} {w : World} (S : Sf P ops π F w0 sf po a0 p V μ N ea L a w) (hHS : F.m0 < p + 1 → HS P ops F w0 sf po a0 V) (hpe : p ∉ F.effs) (hpn : p ∉ F.softs) {ip : Nat} {o : Oper} (hip : π[p]? = some ip) (hpop : po[p]? = some o) {v : Value} {N' : List Ent}
    (hy : Qt P ops F w0 p μ N N' o v (lexA po V a0 p)) :
    Sf P ops π F w0 sf po a0 (p + 1) (fun k => if k = p then v else V k) μ N' ea L a w := by
  have d := df.d
  have hpea : p ∉ ea.map Prod.fst := fun h => hpn (S.eain p h).2
  have hun := S.rest p ip (Nat.le_refl _) hip hpea
  have hNN : ∀ e, e ∈ N → e ∈ N' := fun e he => by
    obtain ⟨h1, h2, h3⟩ := hy
    by_cases hm : p ∈ F.mems
    · rw [(h2 hm).1]; exact he
    · by_cases hl : p ∈ F.loose
      · obtain ⟨x, hx, _⟩ := h3 hm hl
        rw [hx]; exact List.mem_cons_of_mem _ he
      · rw [(h1 hm hl).1]; exact he
  exact {
    size := S.size
    closed := S.closed
    rest := fun q j hq hj hne => S.rest q j (by omega) hj hne
    earl := S.earl
    eain := fun q hq => by
      have h1 := S.eain q hq
      have : q ≠ p := fun e => hpn (by subst e; exact h1.2)
      exact ⟨by omega, h1.2⟩
    nd := S.nd
    done := fun q h1 h2 j hj => S.done q h1 (Nat.lt_of_le_of_ne (by omega) (fun e => by subst e; exact h1.elim hpe hpn)) j hj
    pend := fun j o' i' hj ho hi hu => by
      by_cases hjp : j = p
      · subst hjp
        obtain rfl : o' = o := Option.some.inj (ho.symm.trans hpop)
        rw [lexA_upd _ j (Nat.le_refl _)]
        simp only [if_true]
        obtain ⟨h1, h2, h3⟩ := hy
        refine ⟨fun hm hl => (h1 hm hl).2, fun hm => (h2 hm).2, fun hm hl => ?_⟩
        obtain ⟨e, hx, he, h4⟩ := h3 hm hl
        exact ⟨e, by rw [hx]; exact List.mem_cons_self, he, h4⟩
      · rw [lexA_upd _ j (by omega)]
        simp only [if_neg hjp]
        obtain ⟨h1, h2, h3⟩ := S.pend j o' i' (by omega) ho hi hu
        refine ⟨h1, h2, fun hm hl => ?_⟩
        obtain ⟨e, he1, he2, h4⟩ := h3 hm hl
        exact ⟨e, hNN e he1, he2, h4⟩
    at_ := at_congrV S.at_ (fun j hj => by
      have : j ≠ p := fun e => by
        subst e
        simp only [Lp, hip] at hj
        rw [getD_ff hun] at hj; cases hj
      simp only [if_neg this])
    cls := S.cls
    val := fun q b h => by
      have : q ≠ p := fun e => hpea (by subst e; exact List.mem_map.2 ⟨_, h, rfl⟩)
      simp only [if_neg this]; exact S.val q b h
    hs := fun hlt q o' hq ho => by
      have := hHS hlt q o' hq ho
      rw [lexA_upd _ F.m0 (by omega)]
      exact this }

theorem stagef : ∀ (r p : Nat), p + r = m → ∀ (V : Nat → Value) (μ N : List Ent) (l : List Oper), (∀ j, l[j]? = (π[p + j]?).bind (ops[·]?)) → lwf P ops Q w0 F sf r p l μ N (lexA po V a0 p) →
      ∀ (fuel : Nat) (ea : List (Nat × Nat)) (L : Array Bool) (a : Act) (w : World), Sf P ops π F w0 sf po a0 p V μ N ea L a w → unl L ops.size = fuel → wpAny P .any ops Q fuel L a w := by
  have d := df.d
  have hle := d.le
  have hlen := d.len
  intro r
  induction r with
  | zero =>
    intro p hpm V μ N l hl hlw
    obtain rfl : p = m := by omega
    have fin : ∀ (fuel : Nat) (L : Array Bool) (a : Act) (w : World), Sf P ops π F w0 sf po a0 p V μ N [] L a w → unl L ops.size = fuel → (∀ q i : Nat, q < p → π[q]? = some i → L.getD i true = true) → wpAny P .any ops Q fuel L a w := by
      intro fuel L a w st hf hall
      have hL : ∀ q, q < po.size → Lp π L q = decide (q < p) := fun q hq => by
        obtain ⟨i, hi⟩ : ∃ i, π[q]? = some i := ⟨_, List.getElem?_eq_getElem (by omega)⟩
        obtain ⟨oi, hoi⟩ := d.there q i hi
        have hin := (Array.getElem?_eq_some_iff.1 hoi).1
        simp only [Lp, hi]
        by_cases hqp : q < p
        · rw [getD_ft (by rw [st.size]; omega) (hall q i hqp hi)]; simp [hqp]
        · rw [getD_ff (st.rest q i (by omega) hi (by simp))]; simp [hqp]
      have he := (st.at_.congr hL).ext (lexA_at V a0 p (by omega))
      refine tail_any d fuel p L l a w st.size (Nat.le_refl _) st.closed (fun q i hq => ?_) hl hf (by rw [he]; exact hlw w (by have := st.cls; simpa [ents] using this))
      by_cases hqp : q < p
      · rw [hall q i hqp hq]; simp [hqp]
      · rw [st.rest q i (by omega) hq (by simp)]; simp [hqp]
    intro fuel ea
    have hea : ∀ L a w, Sf P ops π F w0 sf po a0 p V μ N ea L a w → ea = [] := fun L a w st => by
      cases ea with
      | nil => rfl
      | cons x r =>
        have h1 := st.eain x.1 (by simp)
        have := (df.soft0 _ h1.2).2
        omega
    induction fuel with
    | zero =>
      intro L a w st hf
      have hall := unl_zero hf
      obtain rfl := hea L a w st
      exact fin 0 L a w st hf (fun q i _ hq => by
        obtain ⟨oi, hoi⟩ := d.there q i hq
        exact hall i (Array.getElem?_eq_some_iff.1 hoi).1)
    | succ fuel ih =>
      intro L a w st hf
      obtain rfl := hea L a w st
      rcases least_exists (f := fun q => match π[q]? with | some i => L.getD i true | none => true) p with hall | ⟨p0, hp0, hun0, hlow0⟩
      · exact fin _ L a w st hf (fun q i hqp hq => by have := hall q hqp; simpa only [hq] using this)
      · obtain ⟨i0, hi0⟩ : ∃ i, π[p0]? = some i := ⟨_, List.getElem?_eq_getElem (by omega)⟩
        simp only [hi0] at hun0
        have hr0 := least_ready d st.size hi0 hun0 (fun q j hq hj => by have := hlow0 q hq; simpa only [hj] using this)
        refine ⟨fun h0 => (by rw [h0] at hr0; cases hr0), fun i hi => ?_⟩
        obtain ⟨hun, oi, hoi, hall⟩ := mem_ready.1 hi
        have hin := (Array.getElem?_eq_some_iff.1 hoi).1
        obtain ⟨q, hqn, hq⟩ := d.all i hin
        have hqp : q < p := by
          rcases Nat.lt_or_ge q p with h | h
          · exact h
          · have := closed_bef d st.closed q i oi hq hoi hall p0 i0 (by omega) hi0 (d.tail q p0 i i0 oi hq hi0 hoi (by omega) h)
            rw [getD_ff hun0] at this; cases this
        exact st.quiet df hpo hps hq hoi hqp hun hall (fun w' st' => ih _ _ w' st' (by have := unl_set hun ops.size; rw [if_pos hin] at this; omega))
  | succ r ihr =>
    intro p hpm V μ N l hl hlw
    obtain ⟨ip, hip⟩ : ∃ i, π[p]? = some i := ⟨_, List.getElem?_eq_getElem (by omega)⟩
    obtain ⟨op, hop⟩ := d.there p ip hip
    have hinp := (Array.getElem?_eq_some_iff.1 hop).1
    have hpop := po_at d hpo hps hip hop
    match l, hl, hlw with
    | [], _, hlw => exact hlw.elim
    | o :: l', hl, hlw =>
      have ho : o = op := by have := hl 0; rw [Nat.add_zero, hip, Option.bind_some, hop] at this; simpa using this
      subst ho
      have hl' : ∀ j, l'[j]? = (π[p + 1 + j]?).bind (ops[·]?) := fun j => by
        have := hl (j + 1)
        rw [List.getElem?_cons_succ] at this
        rw [this]; congr 2; omega
      obtain ⟨hmark, hcase⟩ := hlw
      have hHS : ∀ (V' : Nat → Value) ea L a w, lexA po V' a0 p = lexA po V a0 p → Sf P ops π F w0 sf po a0 p V' μ N ea L a w → F.m0 < p + 1 → HS P ops F w0 sf po a0 V' := fun V' ea L a w hV st hlt => by
        rcases Nat.lt_or_ge F.m0 p with h | h
        · exact st.hs h
        · obtain rfl : p = F.m0 := by omega
          intro q o' hq ho'
          rw [hV]
          refine hmark rfl q o' hq ?_
          rw [hl, show F.m0 + (q - F.m0) = q from by have := (df.soft0 q hq).1; omega, ← hpo]
          exact ho'
      have hready : ∀ (fuel : Nat) (V' : Nat → Value) (ea : List (Nat × Nat)) (L : Array Bool) (a : Act) (w : World), p ∉ ea.map Prod.fst → Sf P ops π F w0 sf po a0 p V' μ N ea L a w →
          ∃ p0 i0, p0 < p + 1 ∧ π[p0]? = some i0 ∧ L.getD i0 true = false ∧ i0 ∈ Region.ready .any ops L := fun fuel V' ea L a w hpea st => by
        rcases least_exists (f := fun q => match π[q]? with | some i => L.getD i true | none => true) (p + 1) with hall | ⟨p0, hp0, hun0, hlow0⟩
        · have := hall p (by omega)
          simp only [hip] at this
          rw [st.rest p ip (Nat.le_refl _) hip hpea] at this; cases this
        · obtain ⟨i0, hi0⟩ : ∃ i, π[p0]? = some i := ⟨_, List.getElem?_eq_getElem (by omega)⟩
          simp only [hi0] at hun0
          exact ⟨p0, i0, hp0, hi0, hun0, least_ready d st.size hi0 hun0 (fun q j hq hj => by have := hlow0 q hq; simpa only [hj] using this)⟩
      rcases hcase with ⟨hps', hnext⟩ | ⟨hpn, hpe, ι, V1, M, hwt, hM, hNI, heff, hnext⟩ | ⟨hpn, hpe, v, N', hyv, hnext⟩
      · -- a literal
        have hm0 := (df.soft0 p hps').1
        suffices H : ∀ (fuel : Nat) (V' : Nat → Value) (ea : List (Nat × Nat)) (L : Array Bool) (a : Act) (w : World), lexA po V' a0 p = lexA po V a0 p → Sf P ops π F w0 sf po a0 p V' μ N ea L a w → unl L ops.size = fuel → wpAny P .any ops Q fuel L a w from
          fun fuel ea L a w st hf => H fuel V ea L a w rfl st hf
        intro fuel
        induction fuel with
        | zero =>
          intro V' ea L a w hV st hf
          by_cases hpea : p ∈ ea.map Prod.fst
          · obtain ⟨⟨p', b⟩, hN, rfl⟩ := List.mem_map.1 hpea
            refine ihr (p' + 1) (by omega) V' _ N l' hl' ?_ 0 _ L a w (st.advSoft df hpo hps (hHS V' ea L a w hV st (by omega)) hN hip) hf
            simp only [lexA, hpop]
            rw [hV, st.val p' b hN]
            exact hnext b
          · have := unl_zero hf ip hinp
            rw [st.rest p ip (Nat.le_refl _) hip hpea] at this; cases this
        | succ fuel ih =>
          intro V' ea L a w hV st hf
          by_cases hpea : p ∈ ea.map Prod.fst
          · obtain ⟨⟨p', b⟩, hN, rfl⟩ := List.mem_map.1 hpea
            refine ihr (p' + 1) (by omega) V' _ N l' hl' ?_ _ _ L a w (st.advSoft df hpo hps (hHS V' ea L a w hV st (by omega)) hN hip) hf
            simp only [lexA, hpop]
            rw [hV, st.val p' b hN]
            exact hnext b
          · obtain ⟨p0, i0, _, _, _, hr0⟩ := hready (fuel + 1) V' ea L a w hpea st
            refine ⟨fun h0 => (by rw [h0] at hr0; cases hr0), fun i hi => ?_⟩
            obtain ⟨hun, oi, hoi, hall⟩ := mem_ready.1 hi
            have hin := (Array.getElem?_eq_some_iff.1 hoi).1
            obtain ⟨q, hqn, hq⟩ := d.all i hin
            have hfu : unl (L.setIfInBounds i true) ops.size = fuel := by have := unl_set hun ops.size; rw [if_pos hin] at this; omega
            rcases Nat.lt_or_ge q p with hqp | hqp
            · exact st.quiet df hpo hps hq hoi hqp hun hall (fun w' st' => ih V' ea _ _ w' hV st' hfu)
            · have hqea : q ∉ ea.map Prod.fst := fun h => by rw [st.earl q i h hq] at hun; cases hun
              by_cases hqs : q ∈ F.softs
              · exact st.soft df hpo hps (hHS V' ea L a w hV st (by omega)) hqs hqp hqea hq hoi hun hall (fun b w' st' => ih _ _ _ _ w' (by rw [lexA_upd _ p (by omega)]; exact hV) st' hfu)
              · have hqp' : p < q := Nat.lt_of_le_of_ne hqp (fun e => hqs (e ▸ hps'))
                have hb := df.eff p (.inr hps') q i ip hqp' hqs hq hip
                have := closed_bef d st.closed q i oi hq hoi hall p ip hqp' hip hb
                rw [getD_ff (st.rest p ip (Nat.le_refl _) hip hpea)] at this; cases this
      · -- an effect
        have hm0 := df.eff0 p (.inl hpe)
        suffices H : ∀ (fuel : Nat) (V' : Nat → Value) (ea : List (Nat × Nat)) (L : Array Bool) (a : Act) (w : World), lexA po V' a0 p = lexA po V a0 p → Sf P ops π F w0 sf po a0 p V' μ N ea L a w → unl L ops.size = fuel → wpAny P .any ops Q fuel L a w from
          fun fuel ea L a w st hf => H fuel V ea L a w rfl st hf
        intro fuel
        induction fuel with
        | zero =>
          intro V' ea L a w hV st hf
          have hpea : p ∉ ea.map Prod.fst := fun h => hpn (st.eain p h).2
          have := unl_zero hf ip hinp
          rw [st.rest p ip (Nat.le_refl _) hip hpea] at this; cases this
        | succ fuel ih =>
          intro V' ea L a w hV st hf
          have hpea : p ∉ ea.map Prod.fst := fun h => hpn (st.eain p h).2
          obtain ⟨p0, i0, _, _, _, hr0⟩ := hready (fuel + 1) V' ea L a w hpea st
          refine ⟨fun h0 => (by rw [h0] at hr0; cases hr0), fun i hi => ?_⟩
          obtain ⟨hun, oi, hoi, hall⟩ := mem_ready.1 hi
          have hin := (Array.getElem?_eq_some_iff.1 hoi).1
          obtain ⟨q, hqn, hq⟩ := d.all i hin
          have hfu : unl (L.setIfInBounds i true) ops.size = fuel := by have := unl_set hun ops.size; rw [if_pos hin] at this; omega
          rcases Nat.lt_trichotomy q p with hqp | hqp | hqp
          · exact st.quiet df hpo hps hq hoi hqp hun hall (fun w' st' => ih V' ea _ _ w' hV st' hfu)
          · subst hqp
            obtain rfl : ip = i := Option.some.inj (hip.symm.trans hq)
            obtain rfl : o = oi := Option.some.inj (hop.symm.trans hoi)
            refine st.eff df hpo hps (hHS V' ea L a w hV st (by omega)) hpe hpn hip hop hun hall (V1 := V1) (M := M) (by rw [hV]; exact hwt) hM hNI (by rw [hV]; exact heff) (fun x w' st' => ?_)
            refine ihr (q + 1) (by omega) _ _ N l' hl' ?_ fuel ea _ _ w' st' hfu
            rw [lexA_upd1 _ hpop, hV]
            exact hnext x
          · have hqea : q ∉ ea.map Prod.fst := fun h => by rw [st.earl q i h hq] at hun; cases hun
            by_cases hqs : q ∈ F.softs
            · exact st.soft df hpo hps (hHS V' ea L a w hV st (by omega)) hqs (by omega) hqea hq hoi hun hall (fun b w' st' => ih _ _ _ _ w' (by rw [lexA_upd _ p (by omega)]; exact hV) st' hfu)
            · have hb := df.eff p (.inl hpe) q i ip hqp hqs hq hip
              have := closed_bef d st.closed q i oi hq hoi hall p ip hqp hip hb
              rw [getD_ff (st.rest p ip (Nat.le_refl _) hip hpea)] at this; cases this
      · intro fuel ea L a w st hf
        refine ihr (p + 1) (by omega) _ μ N' l' hl' ?_ fuel ea L a w (st.advQuiet df hpo hps (hHS V ea L a w rfl st) hpe hpn hip hpop hyv) hf
        rw [lexA_upd1 _ hpop]
        exact hnext
end

theorem wp_region_fl {P : Program} {π : List Nat} {F : Fl} {Q : Exit → Act → World → Prop} {w0 : Base} {sf : Nat → Soft} {id : Nat} {l : List Oper} {m : Nat} {a : Act} {w : World} {μ : List Ent} (hm : P.follows .mixedOrders = true) (hB : flB l m π F = true) (hC : Hp w0 μ { w with drawn := w.drawn + 1 })
    (h : lwf P l.toArray Q w0 F sf m 0 (perm π l) μ [] a) : (Code.region id l.toArray true).wp P Q a w := by
  have df := df_of hB
  have d := df.d
  have hle := d.le
  have hlen := d.len
  simp only [List.size_toArray] at hle hlen
  have hperm : ∀ p : Nat, (perm π l)[p]? = (π[p]?).bind (l.toArray[·]?) := by
    have : ∀ (ρ : List Nat), (∀ i ∈ ρ, i < l.length) → ∀ p : Nat, (ρ.filterMap (l[·]?))[p]? = (ρ[p]?).bind (l.toArray[·]?) := by
      intro ρ
      induction ρ with
      | nil => intro _ p; simp
      | cons i ρ ih =>
        intro hρ p
        have hi : i < l.length := hρ i (by simp)
        rw [List.filterMap_cons_some (List.getElem?_eq_getElem hi)]
        cases p with
        | zero => simp [hi]
        | succ p => simpa using ih (fun j hj => hρ j (by simp [hj])) p
    exact this π (fun i hi => by
      obtain ⟨p, hp⟩ := List.mem_iff_getElem?.1 hi
      obtain ⟨oi, hoi⟩ := d.there p i hp
      simpa using (Array.getElem?_eq_some_iff.1 hoi).1)
  have hpl : (perm π l).length = l.length := by
    have h1 : ∀ p : Nat, p < l.length → ∃ o, (perm π l)[p]? = some o := fun p hp => by
      obtain ⟨i, hi⟩ : ∃ i, π[p]? = some i := ⟨_, List.getElem?_eq_getElem (by omega)⟩
      obtain ⟨oi, hoi⟩ := d.there p i hi
      exact ⟨oi, by rw [hperm, hi]; exact hoi⟩
    have h2 : (perm π l).length ≤ π.length := List.length_filterMap_le _ _
    rcases Nat.lt_or_ge (perm π l).length l.length with h3 | h3
    · obtain ⟨o, ho⟩ := h1 _ h3
      have := (List.getElem?_eq_some_iff.1 ho).1
      omega
    · omega
  refine wp_region_any hm (stagef df (po := (perm π l).toArray) (fun p => by simpa using hperm p) (by simp [hpl]) (a0 := a) m 0 (by omega) (fun _ => undef) μ [] (perm π l) (fun j => by rw [hperm, Nat.zero_add]) h _ [] _ _ _ ?_ ?_)
  · exact {
      size := by simp
      closed := by
        intro j oj _ hl
        rcases Nat.lt_or_ge j l.length with h | h <;> simp [h] at hl
      rest := by
        intro p i _ hp _
        obtain ⟨oi, hoi⟩ := d.there p i hp
        have hj := (Array.getElem?_eq_some_iff.1 hoi).1
        simp only [List.size_toArray] at hj
        simp [hj]
      earl := by intro q i h; simp at h
      eain := by intro q h; simp at h
      nd := by simp
      done := fun q _ hq => absurd hq (Nat.not_lt_zero q)
      pend := fun j o i hj => absurd hj (Nat.not_lt_zero j)
      at_ := by
        refine ⟨rfl, rfl, fun t => ?_⟩
        unfold slotv
        rw [lst_none (fun p hp _ => by
          unfold Lp
          cases hq : π[p]? with
          | none => rfl
          | some j => rcases Nat.lt_or_ge j l.length with h | h <;> simp [h])]
      cls := by simpa [ents] using hC
      val := by intro q N h; cases h
      hs := fun h => absurd h (Nat.not_lt_zero _) }
  · have : ∀ k, k ≤ l.length → unl (Array.replicate l.toArray.size false) k = k := by
      intro k
      induction k with
      | zero => intro _; rfl
      | succ k ih =>
        intro hk
        simp only [unl]
        rw [ih (by omega)]
        simp [show k < l.length from by omega]
    simpa using this _ (Nat.le_refl _)

section
variable {P : Program} {n : Nat} {Q : Exit → Act → World → Prop} {σ : List (Nat × Value)} {w0 : Base} {μ : List Ent} {ops : Array Oper} {rest : List Oper} {F : Fl} {sf : Nat → Soft} {r p : Nat}
variable {ty : TypeId} {pos : String} {aft : Array Edge} {N0 : List Ent}

def QF (P : Program) (n : Nat) (ops : Array Oper) (Q : Exit → Act → World → Prop) (F : Fl) (sf : Nat → Soft) (r p : Nat) (l : List Oper) (σ : List (Nat × Value)) (w0 : Base) (μ N : List Ent) : Prop :=
  ∀ a, Kn σ n a → lwf P ops Q w0 F sf r p l μ N a

theorem ct_fl {id : Nat} {l : List Oper} (m : Nat) (π : List Nat) (F : Fl) (sf : Nat → Soft) (hm : P.follows .mixedOrders = true) (hB : flB l m π F = true) (h : QF P n l.toArray Q F sf m 0 (perm π l) σ w0 μ []) : CT P n (.region id l.toArray true) Q σ w0 μ :=
  fun a w hk hp => wp_region_fl hm hB hp.drawn (h a hk)
theorem qf_nil {l : List Oper} (h : RL P n ops Q l σ w0 μ) : QF P n ops Q F sf 0 p l σ w0 μ N0 := fun a hk w hp => h a w hk hp
theorem qf_split {t : Nat} {b : Bool} {l : List Oper} (hl : σ.lookup t = some (.bool b)) (h1 : b = true → QF P n ops Q F sf r p l σ w0 μ N0) (h0 : b = false → QF P n ops Q F sf r p l σ w0 μ N0) : QF P n ops Q F sf r p l σ w0 μ N0 := by
  cases hb : b with
  | true => exact h1 hb
  | false => exact h0 hb
/-- The same without the mark at m0. -/
def lwg (P : Program) (ops : Array Oper) (Q : Exit → Act → World → Prop) (w0 : Base) (F : Fl) (sf : Nat → Soft) (r p : Nat) (o : Oper) (l : List Oper) (μ N : List Ent) (a : Act) : Prop :=
      ((p ∈ F.softs ∧ ∀ b, lwf P ops Q w0 F sf r (p + 1) l ((some b, (sf p).T, (sf p).L) :: μ) N (a.put o.dst ((sf p).val b))) ∨
       (p ∉ F.softs ∧ p ∈ F.effs ∧ ∃ (ι : Type) (V1 : ι → Value) (M : ι → List Ent), Region.wanted o (yielded ops a.tmps) = true ∧ (p ∉ F.dirt → ∀ i, ∃ Y, (M i).Perm (μ ++ Y)) ∧ (p ∈ F.dirt → ∀ i, NIn N (M i)) ∧
          (∀ X w, Hp w0 (μ ++ X) w → effAt P V1 (fun i => Hp w0 (M i ++ X)) ((execOp a.eval o).run P w)) ∧ ∀ i, lwf P ops Q w0 F sf r (p + 1) l (M i) N (a.put o.dst (V1 i))) ∨
       (p ∉ F.softs ∧ p ∉ F.effs ∧ ∃ v N', Qt P ops F w0 p μ N N' o v a ∧ lwf P ops Q w0 F sf r (p + 1) l μ N' (a.put o.dst v)))
def QG (P : Program) (n : Nat) (ops : Array Oper) (Q : Exit → Act → World → Prop) (F : Fl) (sf : Nat → Soft) (r p : Nat) (l : List Oper) (σ : List (Nat × Value)) (w0 : Base) (μ N : List Ent) : Prop :=
  ∀ a, Kn σ n a → match r, l with | r + 1, o :: l => lwg P ops Q w0 F sf r p o l μ N a | _, _ => False
/-- The literals are looked at here. -/
def SoftsAt (P : Program) (n : Nat) (ops : Array Oper) (w0 : Base) (σ : List (Nat × Value)) (sf : Nat → Soft) (l : List Oper) (p : Nat) : List Nat → Prop
  | [] => True
  | q :: r => (∃ i : Nat, i = q - p ∧ ∀ o', l[i]? = some o' → ∀ a, Kn σ n a → SoftOk P ops w0 (sf q) o' a) ∧ SoftsAt P n ops w0 σ sf l p r
theorem SoftsAt.all {l : List Oper} : ∀ {qs : List Nat}, SoftsAt P n ops w0 σ sf l p qs → ∀ q o', q ∈ qs → l[q - p]? = some o' → ∀ a, Kn σ n a → SoftOk P ops w0 (sf q) o' a
  | [], _, _, _, hq, _, _, _ => by cases hq
  | x :: r, h, q, o', hq, ho, a, hk => by
    rcases List.mem_cons.1 hq with rfl | hq
    · obtain ⟨i, hi, h1⟩ := h.1
      subst hi
      exact h1 o' ho a hk
    · exact h.2.all q o' hq ho a hk
theorem qf_mem {l : List Oper} {μ' : List Ent} (e : μ = μ') (h : QF P n ops Q F sf r p l σ w0 μ' N0) : QF P n ops Q F sf r p l σ w0 μ N0 := by rw [e]; exact h
theorem qf_mark {o : Oper} {l : List Oper} (hs : SoftsAt P n ops w0 σ sf (o :: l) p F.softs) (h : QG P n ops Q F sf (r + 1) p (o :: l) σ w0 μ N0) : QF P n ops Q F sf (r + 1) p (o :: l) σ w0 μ N0 := fun a hk =>
  ⟨fun _ q o' hq ho => hs.all q o' hq ho a hk, h a hk⟩
theorem qf_step {o : Oper} {l : List Oper} (hp : Nat.beq p F.m0 = false) (h : QG P n ops Q F sf (r + 1) p (o :: l) σ w0 μ N0) : QF P n ops Q F sf (r + 1) p (o :: l) σ w0 μ N0 := fun a hk =>
  ⟨fun he => by subst he; simp at hp, h a hk⟩

theorem qt_pure {N : List Ent} {o : Oper} {v : Value} {a : Act} (hm : p ∉ F.mems) (hl : p ∉ F.loose) (h : ∀ X, Yl P ops (Hp w0 X) o v a) : Qt P ops F w0 p μ N N o v a := ⟨fun _ _ => ⟨rfl, h⟩, fun h1 => absurd h1 hm, fun _ h1 => absurd h1 hl⟩
theorem qt_mem {N : List Ent} {o : Oper} {v : Value} {a : Act} (hm : p ∈ F.mems) (h : ∀ X, Yl P ops (Hp w0 (μ ++ X)) o v a) : Qt P ops F w0 p μ N N o v a := ⟨fun h1 => absurd hm h1, fun _ => ⟨rfl, h⟩, fun h1 => absurd hm h1⟩
theorem qg_val {d : Nat} {op : Op} {g : Option (Nat × Bool)} {v : Value} (hne : (F.softs ++ F.effs ++ F.mems ++ F.loose).contains p = false) (hg : GW ops n g true σ) (h : ∀ X, OV P n op ty v σ w0 X) (hd : Nat.blt d n = true) (next : QF P n ops Q F sf r (p + 1) rest ((d, v) :: σ) w0 μ N0) :
    QG P n ops Q F sf (r + 1) p (⟨some d, op, ty, pos, aft, g⟩ :: rest) σ w0 μ N0 := fun a hk => by
  have hne' : p ∉ F.softs ∧ p ∉ F.effs ∧ p ∉ F.mems ∧ p ∉ F.loose := by simpa [and_assoc] using hne
  exact .inr (.inr ⟨hne'.1, hne'.2.1, v, N0, qt_pure hne'.2.2.1 hne'.2.2.2 (fun X => .inl ⟨hg _ _ _ _ _ _ hk, fun w hw => by unfold Oper.quietAt; rw [h X _ _ _ _ a w hk hw]; exact ⟨rfl, rfl⟩⟩), next _ (hk.put hd v)⟩)
theorem qg_valm {d : Nat} {op : Op} {g : Option (Nat × Bool)} {v : Value} (hne : (F.softs ++ F.effs).contains p = false) (hm : F.mems.contains p = true) (hg : GW ops n g true σ) (h : OV P n op ty v σ w0 μ) (hd : Nat.blt d n = true) (next : QF P n ops Q F sf r (p + 1) rest ((d, v) :: σ) w0 μ N0) :
    QG P n ops Q F sf (r + 1) p (⟨some d, op, ty, pos, aft, g⟩ :: rest) σ w0 μ N0 := fun a hk => by
  have hne' : p ∉ F.softs ∧ p ∉ F.effs := by simpa using hne
  have hm' : p ∈ F.mems := by simpa using hm
  exact .inr (.inr ⟨hne'.1, hne'.2, v, N0, qt_mem hm' (fun X => .inl ⟨hg _ _ _ _ _ _ hk, fun w hw => by unfold Oper.quietAt; rw [h _ _ _ _ a w hk (hw.sub (List.sublist_append_left _ _))]; exact ⟨rfl, rfl⟩⟩), next _ (hk.put hd v)⟩)
/-- An operation that looks at one block alone. -/
theorem qg_vall {d : Nat} {op : Op} {g : Option (Nat × Bool)} {v : Value} (j : Nat) {e : Ent} (hm : μ[j]? = some e) (hne : (F.softs ++ F.effs ++ F.mems).contains p = false) (hl : F.loose.contains p = true) (hg : GW ops n g true σ) (h : OV P n op ty v σ w0 [e]) (hd : Nat.blt d n = true) (next : QF P n ops Q F sf r (p + 1) rest ((d, v) :: σ) w0 μ (e :: N0)) :
    QG P n ops Q F sf (r + 1) p (⟨some d, op, ty, pos, aft, g⟩ :: rest) σ w0 μ N0 := fun a hk => by
  have hne' : p ∉ F.softs ∧ p ∉ F.effs ∧ p ∉ F.mems := by simpa [and_assoc] using hne
  have hl' : p ∈ F.loose := by simpa using hl
  exact .inr (.inr ⟨hne'.1, hne'.2.1, v, e :: N0, ⟨fun _ h1 => absurd hl' h1, fun h1 => absurd h1 hne'.2.2, fun _ _ => ⟨e, rfl, List.mem_iff_getElem?.2 ⟨j, hm⟩, fun ν hν => .inl ⟨hg _ _ _ _ _ _ hk, fun w hw => by unfold Oper.quietAt; rw [h _ _ _ _ a w hk (hw.one hν)]; exact ⟨rfl, rfl⟩⟩⟩⟩, next _ (hk.put hd v)⟩)
theorem qg_skip {d : Nat} {op : Op} {g : Option (Nat × Bool)} (hne : (F.softs ++ F.effs ++ F.loose).contains p = false) (hg : GW ops n g false σ) (hd : Nat.blt d n = true) (next : QF P n ops Q F sf r (p + 1) rest ((d, undef) :: σ) w0 μ N0) :
    QG P n ops Q F sf (r + 1) p (⟨some d, op, ty, pos, aft, g⟩ :: rest) σ w0 μ N0 := fun a hk => by
  have hne' : p ∉ F.softs ∧ p ∉ F.effs ∧ p ∉ F.loose := by simpa [and_assoc] using hne
  have h : ∀ X, Yl P ops (Hp w0 X) ⟨some d, op, ty, pos, aft, g⟩ undef a := fun X => .inr ⟨hg _ _ _ _ _ _ hk, rfl⟩
  exact .inr (.inr ⟨hne'.1, hne'.2.1, undef, N0, ⟨fun _ _ => ⟨rfl, h⟩, fun _ => ⟨rfl, fun X => h _⟩, fun _ h1 => absurd h1 hne'.2.2⟩, next _ (hk.put hd undef)⟩)
theorem qg_skipl {d : Nat} {op : Op} {g : Option (Nat × Bool)} (j : Nat) {e : Ent} (hm : μ[j]? = some e) (hne : (F.softs ++ F.effs ++ F.mems).contains p = false) (hl : F.loose.contains p = true) (hg : GW ops n g false σ) (hd : Nat.blt d n = true) (next : QF P n ops Q F sf r (p + 1) rest ((d, undef) :: σ) w0 μ (e :: N0)) :
    QG P n ops Q F sf (r + 1) p (⟨some d, op, ty, pos, aft, g⟩ :: rest) σ w0 μ N0 := fun a hk => by
  have hne' : p ∉ F.softs ∧ p ∉ F.effs ∧ p ∉ F.mems := by simpa [and_assoc] using hne
  have hl' : p ∈ F.loose := by simpa using hl
  exact .inr (.inr ⟨hne'.1, hne'.2.1, undef, e :: N0, ⟨fun _ h1 => absurd hl' h1, fun h1 => absurd h1 hne'.2.2, fun _ _ => ⟨e, rfl, List.mem_iff_getElem?.2 ⟨j, hm⟩, fun ν hν => .inr ⟨hg _ _ _ _ _ _ hk, rfl⟩⟩⟩, next _ (hk.put hd undef)⟩)
/-- A callee that turns nothing that was there and looks at nothing that is written here. -/
theorem qg_callv {d : Nat} {f : FuncId} {xs : List Operand} {vs : List Value} {tys : Array TypeId} {g : Option (Nat × Bool)} {v : Value} (hne : (F.softs ++ F.effs).contains p = false) (hm : F.mems.contains p = true) (hg : GW ops n g true σ) (hf : Goes P f) (hx : EVs σ xs = some vs)
    (hc : ∀ w, Hp w0 μ w → Calls P f vs.toArray w (fun e w' => e = .returned v ∧ Ext w w')) (hd : Nat.blt d n = true) (next : QF P n ops Q F sf r (p + 1) rest ((d, v) :: σ) w0 μ N0) :
    QG P n ops Q F sf (r + 1) p (⟨some d, .call ⟨.value (.func f), xs.toArray, tys⟩, ty, pos, aft, g⟩ :: rest) σ w0 μ N0 := fun a hk => by
  have hne' : p ∉ F.softs ∧ p ∉ F.effs := by simpa using hne
  have hm' : p ∈ F.mems := by simpa using hm
  exact .inr (.inr ⟨hne'.1, hne'.2, v, N0, qt_mem hm' (fun X => .inl ⟨hg _ _ _ _ _ _ hk, fun w hw => by
    unfold Oper.quietAt
    rw [run_call hf hx _ _ _ _ a w hk]
    exact ⟨rfl, (hc w (hw.sub (List.sublist_append_left _ _))).mono fun e w' ⟨he, hx'⟩ => ⟨he, hw.ext hx'⟩⟩⟩), next _ (hk.put hd v)⟩)
theorem qg_callp {d : Nat} {f : FuncId} {xs : List Operand} {vs : List Value} {tys : Array TypeId} {g : Option (Nat × Bool)} {v : Value} (hne : (F.softs ++ F.effs ++ F.mems ++ F.loose).contains p = false) (hg : GW ops n g true σ) (hf : Goes P f) (hx : EVs σ xs = some vs)
    (hc : ∀ w X, Hp w0 X w → Calls P f vs.toArray w (fun e w' => e = .returned v ∧ Ext w w')) (hd : Nat.blt d n = true) (next : QF P n ops Q F sf r (p + 1) rest ((d, v) :: σ) w0 μ N0) :
    QG P n ops Q F sf (r + 1) p (⟨some d, .call ⟨.value (.func f), xs.toArray, tys⟩, ty, pos, aft, g⟩ :: rest) σ w0 μ N0 := fun a hk => by
  have hne' : p ∉ F.softs ∧ p ∉ F.effs ∧ p ∉ F.mems ∧ p ∉ F.loose := by simpa [and_assoc] using hne
  exact .inr (.inr ⟨hne'.1, hne'.2.1, v, N0, qt_pure hne'.2.2.1 hne'.2.2.2 (fun X => .inl ⟨hg _ _ _ _ _ _ hk, fun w hw => by
    unfold Oper.quietAt
    rw [run_call hf hx _ _ _ _ a w hk]
    exact ⟨rfl, (hc w X hw).mono fun e w' ⟨he, hx'⟩ => ⟨he, hw.ext hx'⟩⟩⟩), next _ (hk.put hd v)⟩)

theorem qg_eff {d : Nat} {op : Op} {ι : Type} (V : ι → Value) (M : ι → List Ent) (hns : F.softs.contains p = false) (hin : F.effs.contains p = true) (hM : F.dirt.contains p = true ∨ ∀ i, ∃ Y, (M i).Perm (μ ++ Y)) (hN : F.dirt.contains p = false ∨ ∀ i, NIn N0 (M i))
    (h : ∀ dst pos aft a, Kn σ n a → ∀ X w, Hp w0 (μ ++ X) w → effAt P V (fun i => Hp w0 (M i ++ X)) ((execOp a.eval ⟨dst, op, ty, pos, aft, none⟩).run P w)) (hd : Nat.blt d n = true) (next : ∀ i, QF P n ops Q F sf r (p + 1) rest ((d, V i) :: σ) w0 (M i) N0) :
    QG P n ops Q F sf (r + 1) p (⟨some d, op, ty, pos, aft, none⟩ :: rest) σ w0 μ N0 := fun a hk =>
  .inr (.inl ⟨by simpa using hns, by simpa using hin, ι, V, M, rfl, fun hnd => hM.resolve_left (by simpa using hnd), fun hd' => hN.resolve_left (by simpa using hd'), h _ _ _ a hk, fun i => next i _ (hk.put hd _)⟩)

theorem qg_calld {d : Nat} {f : FuncId} {xs : List Operand} {vs : List Value} {tys : Array TypeId} {ι : Type} (V : ι → Value) (E0 ν : List Ent) (E : ι → List Ent) (G : ι → Prop) (hns : F.softs.contains p = false) (hin : F.effs.contains p = true) (hdi : F.dirt.contains p = true) (hN : ∀ i, G i → NIn N0 (E i ++ ν)) (hf : Goes P f) (hx : EVs σ xs = some vs)
    (hμ : ∀ X w, Hp w0 (μ ++ X) w → Hp w0 ((E0 ++ ν) ++ X) w) (hc : ∀ w, Hp w0 μ w → Hp ⟨w, keys E0⟩ E0 w → Calls P f vs.toArray w (fun e w' => ∃ i, G i ∧ e = .returned (V i) ∧ Hp ⟨w, keys E0⟩ (E i) w')) (hd : Nat.blt d n = true)
    (next : ∀ i, G i → QF P n ops Q F sf r (p + 1) rest ((d, V i) :: σ) w0 (E i ++ ν) N0) :
    QG P n ops Q F sf (r + 1) p (⟨some d, .call ⟨.value (.func f), xs.toArray, tys⟩, ty, pos, aft, none⟩ :: rest) σ w0 μ N0 :=
  qg_eff (ι := {i // G i}) (fun i => V i.1) (fun i => E i.1 ++ ν) hns hin (.inl hdi) (.inr fun i => hN i.1 i.2) (fun dst pos aft a hk X w hp => by
    rw [run_call hf hx _ _ _ _ a w hk]
    have h1 := hμ X w hp
    rw [List.append_assoc] at h1
    refine (hc w (hp.sub (List.sublist_append_left _ _)) (h1.sub (List.sublist_append_left _ _)).self).mono fun e w' ⟨i, hG, he, h2⟩ => ⟨⟨i, hG⟩, he, ?_⟩
    show Hp w0 ((E i ++ ν) ++ X) w'
    rw [List.append_assoc]
    exact h1.liftd h2) hd (fun i => next i.1 i.2)
theorem qg_calle {d : Nat} {f : FuncId} {xs : List Operand} {vs : List Value} {tys : Array TypeId} {ι : Type} (V : ι → Value) (E : ι → List Ent) (G : ι → Prop) (hns : F.softs.contains p = false) (hin : F.effs.contains p = true) (hnd : F.dirt.contains p = false) (hf : Goes P f) (hx : EVs σ xs = some vs)
    (hc : ∀ w, Hp w0 μ w → Calls P f vs.toArray w (fun e w' => ∃ i, G i ∧ e = .returned (V i) ∧ Hp ⟨w, []⟩ (E i) w')) (hd : Nat.blt d n = true)
    (next : ∀ i, G i → QF P n ops Q F sf r (p + 1) rest ((d, V i) :: σ) w0 (E i ++ μ) N0) :
    QG P n ops Q F sf (r + 1) p (⟨some d, .call ⟨.value (.func f), xs.toArray, tys⟩, ty, pos, aft, none⟩ :: rest) σ w0 μ N0 :=
  qg_eff (ι := {i // G i}) (fun i => V i.1) (fun i => E i.1 ++ μ) hns hin (.inr fun i => ⟨E i.1, List.perm_append_comm⟩) (.inl hnd) (fun dst pos aft a hk X w hp => by
    rw [run_call hf hx _ _ _ _ a w hk]
    refine (hc w (hp.sub (List.sublist_append_left _ _))).mono fun e w' ⟨i, hG, he, h2⟩ => ⟨⟨i, hG⟩, he, ?_⟩
    show Hp w0 ((E i ++ μ) ++ X) w'
    rw [List.append_assoc]
    exact hp.lift h2) hd (fun i => next i.1 i.2)
theorem qg_callnew {d : Nat} {f : FuncId} {xs : List Operand} {vs : List Value} {tys : Array TypeId} {T : TypeId} {L : List Value} (V : Nat → Value) (hns : F.softs.contains p = false) (hin : F.effs.contains p = true) (hnd : F.dirt.contains p = false) (hf : Goes P f) (hx : EVs σ xs = some vs)
    (hc : ∀ w, Hp w0 μ w → Calls P f vs.toArray w (fun e w' => ∃ b, e = .returned (V b) ∧ New w w' b T L)) (hd : Nat.blt d n = true)
    (next : ∀ b, QF P n ops Q F sf r (p + 1) rest ((d, V b) :: σ) w0 ((some b, T, L) :: μ) N0) :
    QG P n ops Q F sf (r + 1) p (⟨some d, .call ⟨.value (.func f), xs.toArray, tys⟩, ty, pos, aft, none⟩ :: rest) σ w0 μ N0 :=
  qg_eff V (fun b => (some b, T, L) :: μ) hns hin (.inr fun b => ⟨[(some b, T, L)], (List.perm_append_comm (l₁ := [(some b, T, L)]))⟩) (.inl hnd) (fun dst pos aft a hk X w hp => by
    rw [run_call hf hx _ _ _ _ a w hk]
    exact (hc w (hp.sub (List.sublist_append_left _ _))).mono fun e w' ⟨b, he, hn⟩ => ⟨b, he, hp.new hn.2.2 hn.1 hn.2.1⟩) hd next
theorem qg_callsl {d : Nat} {f : FuncId} {xs : List Operand} {vs : List Value} {tys : Array TypeId} {T : TypeId} {ι : Type} (V : ι → Option Nat → Value) (L : ι → List Value) (G : ι → Option Nat → Prop) (hns : F.softs.contains p = false) (hin : F.effs.contains p = true) (hnd : F.dirt.contains p = false) (hf : Goes P f) (hx : EVs σ xs = some vs)
    (hc : ∀ w, Hp w0 μ w → Calls P f vs.toArray w (fun e w' => ∃ i bo, G i bo ∧ e = .returned (V i bo) ∧ NewO w w' bo T (L i))) (hd : Nat.blt d n = true)
    (next : ∀ i bo, G i bo → QF P n ops Q F sf r (p + 1) rest ((d, V i bo) :: σ) w0 ((bo, T, L i) :: μ) N0) :
    QG P n ops Q F sf (r + 1) p (⟨some d, .call ⟨.value (.func f), xs.toArray, tys⟩, ty, pos, aft, none⟩ :: rest) σ w0 μ N0 :=
  qg_eff (ι := {q : ι × Option Nat // G q.1 q.2}) (fun q => V q.1.1 q.1.2) (fun q => (q.1.2, T, L q.1.1) :: μ) hns hin (.inr fun q => ⟨[(q.1.2, T, L q.1.1)], (List.perm_append_comm (l₁ := [(q.1.2, T, L q.1.1)]))⟩) (.inl hnd) (fun dst pos aft a hk X w hp => by
    rw [run_call hf hx _ _ _ _ a w hk]
    exact (hc w (hp.sub (List.sublist_append_left _ _))).mono fun e w' ⟨i, bo, hg, he, hn⟩ => ⟨⟨(i, bo), hg⟩, he, hp.newO hn⟩) hd (fun q => next q.1.1 q.1.2 q.2)
theorem qg_callx {d : Nat} {f : FuncId} {xs : List Operand} {vs : List Value} {tys : Array TypeId} {ι : Type} (V : ι → Value) (G : ι → Prop) (hns : F.softs.contains p = false) (hin : F.effs.contains p = true) (hnd : F.dirt.contains p = false) (hf : Goes P f) (hx : EVs σ xs = some vs)
    (hc : ∀ w, Hp w0 μ w → Calls P f vs.toArray w (fun e w' => ∃ i, G i ∧ e = .returned (V i) ∧ Ext w w')) (hd : Nat.blt d n = true)
    (next : ∀ i, G i → QF P n ops Q F sf r (p + 1) rest ((d, V i) :: σ) w0 μ N0) :
    QG P n ops Q F sf (r + 1) p (⟨some d, .call ⟨.value (.func f), xs.toArray, tys⟩, ty, pos, aft, none⟩ :: rest) σ w0 μ N0 :=
  qg_eff (ι := {i // G i}) (fun i => V i.1) (fun _ => μ) hns hin (.inr fun _ => ⟨[], by simp⟩) (.inl hnd) (fun dst pos aft a hk X w hp => by
    rw [run_call hf hx _ _ _ _ a w hk]
    exact (hc w (hp.sub (List.sublist_append_left _ _))).mono fun e w' ⟨i, hG, he, hx'⟩ => ⟨⟨i, hG⟩, he, hp.ext hx'⟩) hd (fun i => next i.1 i.2)

/-- append: a part of it may be unknown. -/
theorem app_any (pre : List Ent) {post : List Ent} {t e by_ k len cap m c : Nat} {sa : Option Addr} {bo : Option Nat} {xs pad news zs : List Value} {x y : Operand} (ht : P.underlying t = some (.slice e)) (hz : zeroB P e = some zs) (hs : sizeB P e = some k) (hzk : zs.length = k) (hk0 : Nat.blt 0 k = true) (hby : bytesB P e = some by_)
    (hx : EV σ x = some (sv bo len cap)) (hy : EV σ y = some (.slice sa m c)) (hsl : Sl k bo len cap xs pad) (h1 : ∀ u ∈ news, u.oneCell' = true) (h63 : len + m ≤ maxLen) (hbytes : (len + m) * by_ ≤ 140737488355328) :
    ∀ dst pos aft g a w, Kn σ n a → Hp w0 (pre ++ (bo, e, xs ++ pad) :: post) w → SR w k (.slice sa m c) m news → ∃ i : {p : Option Nat × Nat × List Value // Sl k p.1 (len + m) p.2.1 (xs ++ news) p.2.2}, ∃ w', (execOp a.eval ⟨dst, .call ⟨.builtin .append, #[x, y], #[t, t]⟩, ty, pos, aft, g⟩).run P w = .ok (.value (sv i.1.1 (len + m) i.1.2.1)) w' ∧
      Hp w0 (pre ++ (i.1.1, e, xs ++ news ++ i.1.2.2) :: post) w' := by
  intro dst pos aft g a w hk hp h
  have hk0' : 0 < k := by simpa using hk0
  rcases Nat.eq_zero_or_pos m with hm | hm
  · subst hm
    have hn : news = [] := List.length_eq_zero_iff.1 (by rw [h.1, Nat.zero_mul])
    subst hn
    have hi : ∃ i, P.info? e = some i := by
      unfold sizeB at hs
      cases h : P.info? e with
      | none => simp [h] at hs
      | some i => exact ⟨i, rfl⟩
    obtain ⟨i, hi⟩ := hi
    have hr : (Builtin.append_ #[t, t] ty #[sv bo len cap, .slice sa 0 c]).run P w = .ok (sv bo len cap) w := by
      have hl0 : ∀ (x : Addr), (loadCells x 0).run P w = .ok #[] w := fun x => by simpa using run_loadCells_list (P := P) w x [] (by simp)
      have hle := hsl.le
      cases bo <;> cases sa <;> simp [Builtin.append_, run_underlying ht, sizeOf, typeInfo, hi, Builtin.lenOf, Builtin.firstCells, hle, storeCells, hl0]
    refine ⟨⟨(bo, cap, pad), by simpa using hsl⟩, w, ?_, by simpa using hp⟩
    simp [execOp, resolve, invoke, builtin, hk.eval hx, hk.eval hy, hr]
  · obtain ⟨h2, a', cap', he, _, _, h3⟩ := h
    injection he with e1 _ e3
    subst e1; subst e3
    have hlt : 0 < news.length := by rw [h2]; exact Nat.mul_pos hm hk0'
    obtain ⟨sb, so, rfl, _⟩ := h3 0 _ (List.getElem?_eq_getElem hlt)
    exact app_key pre ht hz hs hzk hk0 hby hx hy hsl h2 h1 h63 hbytes dst pos aft g a w hk hp (fun j u hu => by
      obtain ⟨b, o, hb, hc⟩ := h3 j u hu
      injection hb with hb
      injection hb with hb1 hb2 hb3
      subst hb1; subst hb2
      exact hc)
/-- append in a statement whose order is open. -/
theorem qg_appT {α : Type} (L : List α → List Value) (hL : ∀ a b, L (a ++ b) = L a ++ L b) (pre : List Ent) {post : List Ent} {d t e by_ k cap m c : Nat} {sa : Option Addr} {bo : Option Nat} {acc : List α} {pad zs : List Value} {x y : Operand} (hns : F.softs.contains p = false) (hin : F.effs.contains p = true) (hdi : F.dirt.contains p = true)
    (ht : P.underlying t = some (.slice e)) (hz : zeroB P e = some zs) (hs : sizeB P e = some k) (hzk : zs.length = k) (hk0 : Nat.blt 0 k = true) (hby : bytesB P e = some by_)
    (hx : EV σ x = some (sv bo acc.length cap)) (hy : EV σ y = some (.slice sa m c)) (hμ : μ = pre ++ (bo, e, L acc ++ pad) :: post) (hsl : Sl k bo acc.length cap (L acc) pad) (ys : List α) (hN : ∀ (bo' : Option Nat) (cap' : Nat) (pad' : List Value), NIn N0 (pre ++ (bo', e, L acc ++ L ys ++ pad') :: post)) (hys : ys.length = m)
    (hsr : ∀ w, Hp w0 μ w → SR w k (.slice sa m c) m (L ys)) (h1 : ∀ u ∈ L ys, u.oneCell' = true) (h63 : acc.length + m ≤ maxLen) (hbytes : (acc.length + m) * by_ ≤ 140737488355328) (hd : Nat.blt d n = true)
    (next : ∀ bo' cap' pad', Sl k bo' (acc ++ ys).length cap' (L (acc ++ ys)) pad' → QF P n ops Q F sf r (p + 1) rest ((d, sv bo' (acc ++ ys).length cap') :: σ) w0 (pre ++ (bo', e, L (acc ++ ys) ++ pad') :: post) N0) :
    QG P n ops Q F sf (r + 1) p (⟨some d, .call ⟨.builtin .append, #[x, y], #[t, t]⟩, ty, pos, aft, none⟩ :: rest) σ w0 μ N0 := by
  subst hys
  subst hμ
  refine qg_eff (ι := {p : Option Nat × Nat × List Value // Sl k p.1 (acc.length + ys.length) p.2.1 (L acc ++ L ys) p.2.2}) (fun i => sv i.1.1 (acc.length + ys.length) i.1.2.1) (fun i => pre ++ (i.1.1, e, L acc ++ L ys ++ i.1.2.2) :: post) hns hin (.inl hdi) (.inr fun i => hN i.1.1 i.1.2.1 i.1.2.2)
    (fun dst pos aft a hk X w hp => ?_) hd (fun i => ?_)
  · rw [List.append_assoc] at hp
    have hsw := hsr w (by rw [← List.append_assoc] at hp; exact hp.sub (List.sublist_append_left _ _))
    obtain ⟨i, w', hr, hp'⟩ := app_any pre ht hz hs hzk hk0 hby hx hy hsl h1 h63 hbytes dst pos aft none a w hk hp hsw
    rw [hr]
    refine ⟨i, rfl, ?_⟩
    show Hp w0 ((pre ++ (i.1.1, e, L acc ++ L ys ++ i.1.2.2) :: post) ++ X) w'
    rw [List.append_assoc]; exact hp'
  · have := next i.1.1 i.1.2.1 i.1.2.2 (by rw [List.length_append, hL]; exact i.2)
    rw [List.length_append, hL] at this
    exact this
/-- A store in a statement whose order is open. -/
theorem qg_store (pre : List Ent) {post : List Ent} {x y : Operand} {t b o k : Nat} {T : TypeId} {L : List Value} {v : Value} (hns : F.softs.contains p = false) (hin : F.effs.contains p = true) (hdi : F.dirt.contains p = true) (hN : NIn N0 (pre ++ (some b, T, L.take o ++ v.cells.toList ++ L.drop (o + k)) :: post))
    (hs : sizeB P t = some k) (hx : EV σ x = some (.pointer (some ⟨b, o, none⟩))) (hy : EV σ y = some v) (hk : v.cells.size = k) (h1 : v.cells.toList.all (·.oneCell') = true) (hμ : μ = pre ++ (some b, T, L) :: post) (ho : o + k ≤ L.length)
    (next : QF P n ops Q F sf r (p + 1) rest σ w0 (pre ++ (some b, T, L.take o ++ v.cells.toList ++ L.drop (o + k)) :: post) N0) :
    QG P n ops Q F sf (r + 1) p (⟨none, .store t x y, ty, pos, aft, none⟩ :: rest) σ w0 μ N0 := fun a hkn => by
  subst hμ
  refine .inr (.inl ⟨by simpa using hns, by simpa using hin, Unit, fun _ => undef, fun _ => pre ++ (some b, T, L.take o ++ v.cells.toList ++ L.drop (o + k)) :: post, rfl, fun hnd => absurd (by simpa using hdi) hnd, fun _ _ => hN, fun X w hp => ?_, fun _ => next _ (hkn.putNone undef)⟩)
  rw [List.append_assoc] at hp
  obtain ⟨w', h2, h3⟩ := run_store (P := P) (n := n) (ty := ty) pre hs hx hy hk h1 ho none pos aft none a w hkn hp
  rw [h2]
  refine ⟨(), rfl, ?_⟩
  show Hp w0 ((pre ++ (some b, T, L.take o ++ v.cells.toList ++ L.drop (o + k)) :: post) ++ X) w'
  rw [List.append_assoc]; exact h3
theorem qg_nilent {o : Oper} (T : TypeId) (next : QG P n ops Q F sf (r + 1) p (o :: rest) σ w0 ((none, T, []) :: μ) N0) (hns : (F.softs).contains p = false) (hin : F.effs.contains p = true) (hdi : F.dirt.contains p = true) : QG P n ops Q F sf (r + 1) p (o :: rest) σ w0 μ N0 := fun a hk => by
  rcases next a hk with h | h | h
  · exact absurd h.1 (by simpa using hns)
  · obtain ⟨h1, h2, ι, V1, M, h3, h4, h7, h5, h6⟩ := h
    exact .inr (.inl ⟨h1, h2, ι, V1, M, h3, fun hn => absurd (by simpa using hdi) hn, h7, fun X w hp => h5 X w (hp.nil T), h6⟩)
  · exact absurd h.2.1 (by simpa using hin)

theorem soft_bslice {l : List Oper} {i d t e len k : Nat} {sx : Soft} {ps : List (Nat × Operand)} {zs vs L : List Value} {V : Nat → Value} (hl : l[i]? = some ⟨some d, .buildSlice t len ps.toArray, ty, pos, aft, none⟩) (hsf : sx = ⟨e, L, V⟩)
    (ht : P.underlying t = some (.slice e)) (hz : zeroB P e = some zs) (hs : sizeB P e = some k) (hzk : zs.length = k) (hv : EVps σ ps 0 = some vs) (hlen : vs.length = len) (hc : vs.all (fun v => v.cells.size == k) = true) (hsm : Nat.ble (len * k) 16777216 = true)
    (hL : (vs.flatMap fun v => v.cells.toList) = L) (hV : (fun N => sv (some N) len len) = V) : ∀ o', l[i]? = some o' → ∀ a, Kn σ n a → SoftOk P ops w0 sx o' a := fun o' ho a hk => by
  obtain rfl := Option.some.inj (hl.symm.trans ho)
  refine ⟨rfl, fun X w hp => ⟨w.heap.size, w.alloc (.cells (vs.flatMap fun v => v.cells.toList).toArray e (0, 0)), ?_, ?_⟩⟩
  · rw [hsf, ← hV]
    exact run_bslice ht hz hs hzk hv hlen hc hsm _ _ _ _ a w hk
  · rw [hsf]
    show Hp w0 ((some w.heap.size, e, L) :: X) _
    rw [← hL]
    exact hp.alloc _ e
theorem soft_alloc {l : List Oper} {i d T : Nat} {sx : Soft} {L : List Value} (hl : l[i]? = some ⟨some d, .alloc T, ty, pos, aft, none⟩) (hsf : sx = ⟨T, L, fun N => .pointer (some ⟨N, 0, none⟩)⟩) (hz : zeroB P T = some L) : ∀ o', l[i]? = some o' → ∀ a, Kn σ n a → SoftOk P ops w0 sx o' a := fun o' ho a hk => by
  obtain rfl := Option.some.inj (hl.symm.trans ho)
  refine ⟨rfl, fun X w hp => ?_⟩
  obtain ⟨z, h1, h2⟩ := run_zero hz w
  subst h2
  rw [hsf]
  refine ⟨w.heap.size, _, ?_, hp.alloc _ T⟩
  simp [execOp, Instr.alloc, h1, newVar, newRow]
/-- A literal that is made of what calls handed back. -/
theorem qg_bslice {d t e len k : Nat} {ps : List (Nat × Operand)} {zs vs : List Value} (hns : F.softs.contains p = false) (hin : F.effs.contains p = true) (hnd : F.dirt.contains p = false) (ht : P.underlying t = some (.slice e)) (hz : zeroB P e = some zs) (hs : sizeB P e = some k) (hzk : zs.length = k) (hv : EVps σ ps 0 = some vs) (hlen : vs.length = len) (hc : vs.all (fun v => v.cells.size == k) = true) (hsm : Nat.ble (len * k) 16777216 = true)
    (hd : Nat.blt d n = true) (next : ∀ N, QF P n ops Q F sf r (p + 1) rest ((d, sv (some N) len len) :: σ) w0 ((some N, e, vs.flatMap fun v => v.cells.toList) :: μ) N0) :
    QG P n ops Q F sf (r + 1) p (⟨some d, .buildSlice t len ps.toArray, ty, pos, aft, none⟩ :: rest) σ w0 μ N0 :=
  qg_eff (fun N : Nat => sv (some N) len len) (fun N => (some N, e, vs.flatMap fun v => v.cells.toList) :: μ) hns hin (.inr fun N => ⟨[(some N, e, vs.flatMap fun v => v.cells.toList)], List.perm_append_comm (l₁ := [_])⟩) (.inl hnd) (fun dst pos aft a hk X w hp => by
    rw [run_bslice ht hz hs hzk hv hlen hc hsm dst pos aft none a w hk]
    exact ⟨w.heap.size, rfl, hp.alloc _ e⟩) hd next

/-- The literal stands here in the walk. -/
theorem qg_soft {d : Nat} {op : Op} {g : Option (Nat × Bool)} {T : TypeId} {L : List Value} {V : Nat → Value} (hin : F.softs.contains p = true) (hsf : sf p = ⟨T, L, V⟩) (hd : Nat.blt d n = true) (next : ∀ N, QF P n ops Q F sf r (p + 1) rest ((d, V N) :: σ) w0 ((some N, T, L) :: μ) N0) :
    QG P n ops Q F sf (r + 1) p (⟨some d, op, ty, pos, aft, g⟩ :: rest) σ w0 μ N0 := fun a hk =>
  .inl ⟨by simpa using hin, fun N => by rw [hsf]; exact next N _ (hk.put hd _)⟩
end
end Go.Proofs.Ytgnnlgmeagipjaa.K
