/- Statements whose order is open and that make new memory in their midst. By an AI agent. -/
import Derived.Test.YtgnnlgmeagipjaaKi
set_option linter.unusedVariables false
set_option linter.unusedSectionVars false
namespace Go.Proofs.Ytgnnlgmeagipjaa.K
open Go Go.RowKit

/-- Behind the operations at these places of the walk all that follows is ordered. -/
def drpeB (l : List Oper) (m : Nat) (π effs : List Nat) : Bool :=
  drpB l m π && (List.range l.length).all fun p => (List.range p).all fun q => !effs.contains q || (match π[p]?, π[q]? with | some i, some j => befB (Region.before l.toArray) i j | _, _ => false)

structure De (ops : Array Oper) (B : Array Nat) (m : Nat) (π effs : List Nat) : Prop where
  d : Dr ops B m π
  eff : ∀ (p q i j : Nat), π[p]? = some i → π[q]? = some j → q < p → q ∈ effs → befB B i j = true

theorem de_of {l : List Oper} {m : Nat} {π effs : List Nat} (h : drpeB l m π effs = true) : De l.toArray (Region.before l.toArray) m π effs := by
  unfold drpeB at h
  simp only [Bool.and_eq_true] at h
  have d := dr_of h.1
  refine ⟨d, fun p q i j hp hq hqp he => ?_⟩
  have hlt : p < l.length := by
    have h1 := (List.getElem?_eq_some_iff.1 hp).1
    have h2 := d.len
    simp only [List.size_toArray] at h2
    omega
  have h3 := List.all_eq_true.1 (List.all_eq_true.1 h.2 p (List.mem_range.2 hlt)) q (List.mem_range.2 hqp)
  simp only [hp, hq, Bool.or_eq_true, Bool.not_eq_true'] at h3
  rcases h3 with h3 | h3
  · rw [List.contains_eq_mem] at h3; simp at h3; exact absurd he h3
  · exact h3

/-- A narrower class of worlds, which a call that turns nothing keeps. -/
structure Good (C0 C : World → Prop) : Prop where
  sub : ∀ w, C w → C0 w
  ext : ∀ w w', C w → Ext w w' → C w'
theorem Good.trans {A B C : World → Prop} (h : Good A B) (k : Good B C) : Good A C := ⟨fun w hw => h.sub _ (k.sub _ hw), k.ext⟩

section
variable {P : Program} {ops og : Array Oper} {B : Array Nat} {m : Nat} {π effs : List Nat} {Q : Exit → Act → World → Prop}

def Ylg (P : Program) (ops : Array Oper) (C0 : World → Prop) (o : Oper) (v : Value) (a : Act) : Prop :=
  (Region.wanted o (yielded ops a.tmps) = true ∧ ∀ C, Good C0 C → ∀ w, C w → o.quietAt P a C w v) ∨ (Region.wanted o (yielded ops a.tmps) = false ∧ v = undef)
theorem Ylg.yl {C0 C : World → Prop} {o : Oper} {v : Value} {a : Act} (h : Ylg P ops C0 o v a) (g : Good C0 C) : Yl P ops C o v a :=
  h.imp (fun ⟨h1, h2⟩ => ⟨h1, h2 C g⟩) id
theorem Ylg.mono {C0 C1 : World → Prop} {o : Oper} {v : Value} {a : Act} (h : Ylg P ops C0 o v a) (g : Good C0 C1) : Ylg P ops C1 o v a :=
  h.imp (fun ⟨h1, h2⟩ => ⟨h1, fun C g' => h2 C (g.trans g')⟩) id

/-- What an operation that makes something leaves. -/
def effAt (P : Program) {ι : Type} (V1 : ι → Value) (C1 : ι → World → Prop) : Result Next → Prop
  | .ok (.value u) w' => ∃ i, u = V1 i ∧ C1 i w'
  | .ok .skip w' => ∃ i, undef = V1 i ∧ C1 i w'
  | .ok (.enter f args) w' => Calls P f args w' (fun e w'' => ∃ i, e = .returned (V1 i) ∧ C1 i w'')
  | _ => False

def lw (P : Program) (ops : Array Oper) (Q : Exit → Act → World → Prop) (effs : List Nat) : Nat → Nat → List Oper → (World → Prop) → Act → Prop
  | 0, _, l, C, a => ∀ w, C w → wpList P ops Q l a w
  | _ + 1, _, [], _, _ => False
  | r + 1, p, o :: l, C, a => (p ∈ effs ∧ ∃ (ι : Type) (V1 : ι → Value) (C1 : ι → World → Prop), Region.wanted o (yielded ops a.tmps) = true ∧ (∀ i, Good C (C1 i)) ∧ (∀ w, C w → effAt P V1 C1 ((execOp a.eval o).run P w)) ∧ ∀ i, lw P ops Q effs r (p + 1) l (C1 i) (a.put o.dst (V1 i))) ∨
      (p ∉ effs ∧ ∃ v, Ylg P ops C o v a ∧ lw P ops Q effs r (p + 1) l C (a.put o.dst v))

/-- What has come up, along the walk. -/
def Lp (π : List Nat) (L : Array Bool) (p : Nat) : Bool := match π[p]? with | some i => L.getD i false | none => false

theorem at_congrV {V V' : Nat → Value} {a0 a : Act} {L : Nat → Bool} (h : At og V a0 L a) (hv : ∀ j, L j = true → V j = V' j) : At og V' a0 L a := by
  refine ⟨h.defers, h.size, fun t => ?_⟩
  rw [h.slot t]
  unfold slotv
  have key : ∀ k j, lst og L t k = some j → L j = true := by
    intro k
    induction k with
    | zero => intro j h; cases h
    | succ k ih =>
      intro j h
      unfold lst at h
      split at h
      · rename_i hh; obtain rfl := Option.some.inj h; exact hh.2
      · exact ih j h
  cases hl : lst og L t og.size with
  | none => rfl
  | some j => simp only [hv j (key _ _ hl)]

section
variable {po : Array Oper} (d : Dr ops B m π) (hpo : ∀ p : Nat, po[p]? = (π[p]?).bind (ops[·]?)) (hps : po.size = ops.size) {V : Nat → Value} {a0 : Act}
include d hpo hps

theorem po_at {p i : Nat} {oi : Oper} (hp : π[p]? = some i) (hoi : ops[i]? = some oi) : po[p]? = some oi := by rw [hpo, hp]; exact hoi
theorem po_of {p : Nat} {o : Oper} (h : po[p]? = some o) : ∃ i, π[p]? = some i ∧ ops[i]? = some o := by
  rw [hpo] at h
  cases hp : π[p]? with
  | none => rw [hp] at h; cases h
  | some i => rw [hp] at h; exact ⟨i, rfl, h⟩

theorem same_looks {L : Array Bool} {a : Act} (hc : Closed ops L) (hat : At po V a0 (Lp π L) a) {p i : Nat} {oi : Oper} (hp : π[p]? = some i) (hoi : ops[i]? = some oi) (hun : L.getD i true = false)
    (hall : ∀ e ∈ oi.after, Region.binds .any e = true → L.getD e.on false = true) : ∀ t, t ∈ oi.looksAt ops → a.tmps[t]? = (lexA po V a0 p).tmps[t]? := by
  intro t ht
  have hplt : p < ops.size := by have := (List.getElem?_eq_some_iff.1 hp).1; have := d.len; omega
  rw [hat.slot t, (lexA_at V a0 p (by omega)).slot t]
  unfold slotv
  rw [lst_congr (L' := fun j => decide (j < p))]
  intro q hq hdst
  have hoq : po[q]? = some po[q] := Array.getElem?_eq_getElem hq
  rw [hoq] at hdst
  simp only [Option.bind_some] at hdst
  obtain ⟨j, hj, hoj⟩ := po_of d hpo hps hoq
  simp only [Lp, hj]
  rcases Nat.lt_trichotomy q p with hqp | hqp | hqp
  · have hb : befB B i j = true := by
      rcases d.ord p q i j oi _ hp hj hoi hoj hqp with h | h
      · exact absurd ht ((Oper.apart_spec h).1 t hdst)
      · exact h
    rw [closed_bef d hc p i oi hp hoi hall q j hqp hj hb]; simp [hqp]
  · subst hqp
    obtain rfl : i = j := Option.some.inj (hp.symm.trans hj)
    rw [getD_ff hun]; simp
  · have hb : befB B j i = true := by
      rcases d.ord q p j i _ oi hj hp hoj hoi hqp with h | h
      · exact absurd ht ((Oper.apart_spec h).2.2 t hdst)
      · exact h
    cases hl : L.getD j false with
    | false => simp; omega
    | true =>
      have := closed_bef d hc q j _ hj hoj (fun e he hbe => hc j _ hoj hl e he hbe) p i hqp hp hb
      rw [getD_ff hun] at this; cases this

theorem at_step {L : Array Bool} {a : Act} (hs : L.size = ops.size) (hc : Closed ops L) (hat : At po V a0 (Lp π L) a) {p i : Nat} {oi : Oper} (hp : π[p]? = some i) (hoi : ops[i]? = some oi) (hun : L.getD i true = false) :
    At po V a0 (Lp π (L.setIfInBounds i true)) (a.put oi.dst (V p)) := by
  have hin := (Array.getElem?_eq_some_iff.1 hoi).1
  have hno : ∀ q t, p < q → (po[q]?).bind (·.dst) = some t → oi.dst = some t → Lp π L q = false := by
    intro q t hpq hdst hdi
    cases hoq : po[q]? with
    | none => rw [hoq] at hdst; cases hdst
    | some oj =>
      rw [hoq] at hdst
      simp only [Option.bind_some] at hdst
      obtain ⟨j, hj, hoj⟩ := po_of d hpo hps hoq
      simp only [Lp, hj]
      have hb : befB B j i = true := by
        rcases d.ord q p j i oj oi hj hp hoj hoi hpq with h | h
        · exact absurd hdst ((Oper.apart_spec h).2.1 t hdi)
        · exact h
      cases hl : L.getD j false with
      | false => rfl
      | true =>
        have := closed_bef d hc q j oj hj hoj (fun e he hbe => hc j oj hoj hl e he hbe) p i hpq hp hb
        rw [getD_ff hun] at this; cases this
  refine (hat.put (po_at d hpo hps hp hoi) hno).congr (fun q hq => ?_)
  cases hj : π[q]? with
  | none => simp only [Lp, hj, Bool.false_or, beq_eq_false_iff_ne]; intro e; subst e; rw [hp] at hj; cases hj
  | some j =>
    simp only [Lp, hj]
    by_cases hqp : q = p
    · subst hqp
      obtain rfl : i = j := Option.some.inj (hp.symm.trans hj)
      simp [hs, hin]
    · have hij : i ≠ j := fun e => hqp (d.inj q p i (by rw [e]; exact hj) hp)
      rw [getD_set_ne false hij]
      have : (q == p) = false := by simpa using hqp
      rw [this, Bool.or_false]

theorem quiet_step {C : World → Prop} {L : Array Bool} {a : Act} {w : World} (hc : Closed ops L) (hat : At po V a0 (Lp π L) a) (hw : C w) {p i : Nat} {oi : Oper} (hp : π[p]? = some i) (hoi : ops[i]? = some oi) (hun : L.getD i true = false)
    (hall : ∀ e ∈ oi.after, Region.binds .any e = true → L.getD e.on false = true) (hy : Yl P ops C oi (V p) (lexA po V a0 p)) {K : Act → World → Prop} (hK : ∀ w', C w' → K (a.put oi.dst (V p)) w') : wpOp P ops Q i K a w := by
  have hsame := same_looks d hpo hps hc hat hp hoi hun hall
  have hsel := Region.noSelect_spec d.sel i oi
  have hex := exec_same (o := oi) (fun cs b => hsel cs b hoi) hsame
  have hwa := wanted_same (o := oi) hsame
  unfold wpOp
  simp only [hoi]
  rcases hy with ⟨h1, h2⟩ | ⟨h1, h2⟩
  · rw [if_pos (by rw [hwa]; exact h1)]
    refine .inl ?_
    have h3 := h2 w hw
    unfold Oper.quietAt at h3
    unfold Oper.wp
    rw [hex]
    generalize (execOp (lexA po V a0 p).eval oi).run P w = r at *
    cases r with
    | ok nx w' =>
      cases nx <;> simp only [Oper.quietUpon] at h3 <;> simp only [Oper.upon]
      case value u => obtain ⟨e1, e2⟩ := h3; rw [e1, e2]; exact hK w hw
      case skip => obtain ⟨e1, e2⟩ := h3; rw [e1, ← e2]; exact hK w hw
      case enter f args =>
        obtain ⟨e1, hcall⟩ := h3
        rw [e1]
        exact hcall.mono fun e w'' ⟨he, hw''⟩ => by subst he; exact hK w'' hw''
    | halt x w' => simp only [Oper.quietUpon] at h3
  · rw [if_neg (by rw [hwa, h1]; exact Bool.false_ne_true), ← h2]
    exact hK w hw

theorem eff_step {C : World → Prop} {L : Array Bool} {a : Act} {w : World} (hc : Closed ops L) (hat : At po V a0 (Lp π L) a) (hw : C w) {p i : Nat} {oi : Oper} (hp : π[p]? = some i) (hoi : ops[i]? = some oi) (hun : L.getD i true = false)
    (hall : ∀ e ∈ oi.after, Region.binds .any e = true → L.getD e.on false = true) {ι : Type} {V1 : ι → Value} {C1 : ι → World → Prop} (hwt : Region.wanted oi (yielded ops (lexA po V a0 p).tmps) = true) (he : ∀ w, C w → effAt P V1 C1 ((execOp (lexA po V a0 p).eval oi).run P w))
    {K : Act → World → Prop} (hK : ∀ x w', C1 x w' → K (a.put oi.dst (V1 x)) w') : wpOp P ops Q i K a w := by
  have hsame := same_looks d hpo hps hc hat hp hoi hun hall
  have hsel := Region.noSelect_spec d.sel i oi
  have hex := exec_same (o := oi) (fun cs b => hsel cs b hoi) hsame
  have hwa := wanted_same (o := oi) hsame
  unfold wpOp
  simp only [hoi]
  rw [if_pos (by rw [hwa]; exact hwt)]
  refine .inl ?_
  have h3 := he w hw
  unfold Oper.wp
  rw [hex]
  generalize (execOp (lexA po V a0 p).eval oi).run P w = r at *
  cases r with
  | ok nx w' =>
    cases nx <;> simp only [effAt] at h3 <;> simp only [Oper.upon]
    case value u => obtain ⟨x, e1, e2⟩ := h3; rw [e1]; exact hK x w' e2
    case skip => obtain ⟨x, e1, e2⟩ := h3; rw [e1]; exact hK x w' e2
    case enter f args => exact h3.mono fun e w'' ⟨x, he, hw''⟩ => by subst he; exact hK x w'' hw''
  | halt x w' => simp only [effAt] at h3
end

/-- The state behind the first p places of the walk. -/
structure St (ops : Array Oper) (π effs : List Nat) (p : Nat) (L : Array Bool) : Prop where
  size : L.size = ops.size
  closed : Closed ops L
  rest : ∀ q i, p ≤ q → π[q]? = some i → L.getD i true = false
  done : ∀ q, q ∈ effs → q < p → ∀ i, π[q]? = some i → L.getD i true = true

theorem lexA_upd {po : Array Oper} {V : Nat → Value} {a0 : Act} {p : Nat} (v : Value) : ∀ j, j ≤ p → lexA po (fun k => if k = p then v else V k) a0 j = lexA po V a0 j := by
  intro j
  induction j with
  | zero => intro _; rfl
  | succ j ih =>
    intro hj
    simp only [lexA]
    rw [ih (by omega), if_neg (by omega)]
theorem lexA_upd1 {po : Array Oper} {V : Nat → Value} {a0 : Act} {p : Nat} {o : Oper} (v : Value) (ho : po[p]? = some o) : lexA po (fun k => if k = p then v else V k) a0 (p + 1) = (lexA po V a0 p).put o.dst v := by
  simp only [lexA, ho]
  rw [lexA_upd v p (Nat.le_refl _)]; simp

theorem stage (de : De ops B m π effs) {po : Array Oper} (hpo : ∀ p : Nat, po[p]? = (π[p]?).bind (ops[·]?)) (hps : po.size = ops.size) {a0 : Act} :
    ∀ (r p : Nat), p + r = m → ∀ (V : Nat → Value) (C : World → Prop), Good C C → (∀ j o, j < p → j ∉ effs → po[j]? = some o → Ylg P ops C o (V j) (lexA po V a0 j)) →
      ∀ (l : List Oper), (∀ j, l[j]? = (π[p + j]?).bind (ops[·]?)) → lw P ops Q effs r p l C (lexA po V a0 p) →
      ∀ (fuel : Nat) (L : Array Bool) (a : Act) (w : World), St ops π effs p L → At po V a0 (Lp π L) a → C w → unl L ops.size = fuel → wpAny P .any ops Q fuel L a w := by
  have d := de.d
  have hle := d.le
  have hlen := d.len
  intro r
  induction r with
  | zero =>
    intro p hpm V C hg hy l hl hlw
    obtain rfl : p = m := by omega
    have fin : ∀ (fuel : Nat) (L : Array Bool) (a : Act) (w : World), St ops π effs p L → At po V a0 (Lp π L) a → C w → unl L ops.size = fuel → (∀ q i, q < p → π[q]? = some i → L.getD i true = true) → wpAny P .any ops Q fuel L a w := by
      intro fuel L a w st hat hw hf hall
      have hL : ∀ q, q < po.size → Lp π L q = decide (q < p) := fun q hq => by
        obtain ⟨i, hi⟩ : ∃ i, π[q]? = some i := ⟨_, List.getElem?_eq_getElem (by omega)⟩
        obtain ⟨oi, hoi⟩ := d.there q i hi
        have hin := (Array.getElem?_eq_some_iff.1 hoi).1
        simp only [Lp, hi]
        by_cases hqp : q < p
        · rw [getD_ft (by rw [st.size]; omega) (hall q i hqp hi)]; simp [hqp]
        · rw [getD_ff (st.rest q i (by omega) hi)]; simp [hqp]
      have he := (hat.congr hL).ext (lexA_at V a0 p (by omega))
      refine tail_any d fuel p L l a w st.size (Nat.le_refl _) st.closed (fun q i hq => ?_) hl hf (by rw [he]; exact hlw w hw)
      by_cases hqp : q < p
      · rw [hall q i hqp hq]; simp [hqp]
      · rw [st.rest q i (by omega) hq]; simp [hqp]
    intro fuel
    induction fuel with
    | zero =>
      intro L a w st hat hw hf
      have hall := unl_zero hf
      exact fin 0 L a w st hat hw hf (fun q i _ hq => by
        obtain ⟨oi, hoi⟩ := d.there q i hq
        exact hall i (Array.getElem?_eq_some_iff.1 hoi).1)
    | succ fuel ih =>
      intro L a w st hat hw hf
      rcases least_exists (f := fun q => match π[q]? with | some i => L.getD i true | none => true) p with hall | ⟨p0, hp0, hun0, hlow0⟩
      · exact fin _ L a w st hat hw hf (fun q i hqp hq => by have := hall q hqp; simpa only [hq] using this)
      · obtain ⟨i0, hi0⟩ : ∃ i, π[p0]? = some i := ⟨_, List.getElem?_eq_getElem (by omega)⟩
        simp only [hi0] at hun0
        have hr0 := least_ready d st.size hi0 hun0 (fun q j hq hj => by have := hlow0 q hq; simpa only [hj] using this)
        refine ⟨fun h0 => (by rw [h0] at hr0; cases hr0), fun i hi => ?_⟩
        obtain ⟨hun, oi, hoi, hall⟩ := mem_ready.1 hi
        have hin := (Array.getElem?_eq_some_iff.1 hoi).1
        obtain ⟨q, hqn, hq⟩ := d.all i hin
        have hqp : q < p := by
          rcases Nat.lt_or_ge q p with h | h
          · exact h
          · have := closed_bef d st.closed q i oi hq hoi hall p0 i0 (by omega) hi0 (d.tail q p0 i i0 oi hq hi0 hoi (by omega) h)
            rw [getD_ff hun0] at this; cases this
        have hqe : q ∉ effs := fun he => by have := st.done q he hqp i hq; rw [hun] at this; cases this
        refine quiet_step d hpo hps st.closed hat hw hq hoi hun hall ((hy q oi hqp hqe (po_at d hpo hps hq hoi)).yl hg) (fun w' hw' => ?_)
        refine ih _ _ w' ⟨by simp [st.size], closed_set st.closed hoi hall, fun q' j hq' hj => ?_, fun q' he' hq' j hj => ?_⟩ (at_step d hpo hps st.size st.closed hat hq hoi hun) hw' (by have := unl_set hun ops.size; rw [if_pos hin] at this; omega)
        · have hij : i ≠ j := fun e => by
            have := d.inj q' q i (by rw [e]; exact hj) hq
            omega
          rw [getD_set_ne true hij]; exact st.rest q' j hq' hj
        · by_cases hij : i = j
          · subst hij; simp [st.size, hin]
          · rw [getD_set_ne true hij]; exact st.done q' he' hq' j hj
  | succ r ihr =>
    intro p hpm V C hg hy l hl hlw
    obtain ⟨ip, hip⟩ : ∃ i, π[p]? = some i := ⟨_, List.getElem?_eq_getElem (by omega)⟩
    obtain ⟨op, hop⟩ := d.there p ip hip
    have hinp := (Array.getElem?_eq_some_iff.1 hop).1
    have hpop := po_at d hpo hps hip hop
    match l, hl, hlw with
    | [], _, hlw => exact hlw.elim
    | o :: l', hl, hlw =>
      have ho : o = op := by have := hl 0; rw [Nat.add_zero, hip, Option.bind_some, hop] at this; simpa using this
      subst ho
      have hl' : ∀ j, l'[j]? = (π[p + 1 + j]?).bind (ops[·]?) := fun j => by
        have := hl (j + 1)
        rw [List.getElem?_cons_succ] at this
        rw [this]; congr 2; omega
      rcases hlw with ⟨hpe, ι, V1, C1, hwt, hG, heff, hnext⟩ | ⟨hpe, v, hyv, hnext⟩
      · -- the operation makes something
        intro fuel
        induction fuel with
        | zero =>
          intro L a w st hat hw hf
          have := unl_zero hf ip hinp
          rw [st.rest p ip (Nat.le_refl _) hip] at this; cases this
        | succ fuel ih =>
          intro L a w st hat hw hf
          rcases least_exists (f := fun q => match π[q]? with | some i => L.getD i true | none => true) (p + 1) with hall | ⟨p0, hp0, hun0, hlow0⟩
          · have := hall p (by omega)
            simp only [hip] at this
            rw [st.rest p ip (Nat.le_refl _) hip] at this; cases this
          · obtain ⟨i0, hi0⟩ : ∃ i, π[p0]? = some i := ⟨_, List.getElem?_eq_getElem (by omega)⟩
            simp only [hi0] at hun0
            have hr0 := least_ready d st.size hi0 hun0 (fun q j hq hj => by have := hlow0 q hq; simpa only [hj] using this)
            refine ⟨fun h0 => (by rw [h0] at hr0; cases hr0), fun i hi => ?_⟩
            obtain ⟨hun, oi, hoi, hall⟩ := mem_ready.1 hi
            have hin := (Array.getElem?_eq_some_iff.1 hoi).1
            obtain ⟨q, hqn, hq⟩ := d.all i hin
            rcases Nat.lt_trichotomy q p with hqp | hqp | hqp
            · have hqe : q ∉ effs := fun he => by have := st.done q he hqp i hq; rw [hun] at this; cases this
              refine quiet_step d hpo hps st.closed hat hw hq hoi hun hall ((hy q oi hqp hqe (po_at d hpo hps hq hoi)).yl hg) (fun w' hw' => ?_)
              refine ih _ _ w' ⟨by simp [st.size], closed_set st.closed hoi hall, fun q' j hq' hj => ?_, fun q' he' hq' j hj => ?_⟩ (at_step d hpo hps st.size st.closed hat hq hoi hun) hw' (by have := unl_set hun ops.size; rw [if_pos hin] at this; omega)
              · have hij : i ≠ j := fun e => by
                  have := d.inj q' q i (by rw [e]; exact hj) hq
                  omega
                rw [getD_set_ne true hij]; exact st.rest q' j hq' hj
              · by_cases hij : i = j
                · subst hij; simp [st.size, hin]
                · rw [getD_set_ne true hij]; exact st.done q' he' hq' j hj
            · subst hqp
              obtain rfl : ip = i := Option.some.inj (hip.symm.trans hq)
              obtain rfl : o = oi := Option.some.inj (hop.symm.trans hoi)
              refine eff_step d hpo hps st.closed hat hw hq hoi hun hall hwt heff (fun x w' hw' => ?_)
              have hat2 : At po (fun k => if k = q then V1 x else V k) a0 (Lp π L) a := at_congrV hat (fun j hj => by
                have : j ≠ q := fun e => by
                  subst e
                  simp only [Lp, hq] at hj
                  rw [getD_ff hun] at hj; cases hj
                simp only [if_neg this])
              have hat3 := at_step d hpo hps st.size st.closed hat2 hq hoi hun
              simp only [if_true] at hat3
              refine ihr (q + 1) (by omega) (fun k => if k = q then V1 x else V k) (C1 x) ⟨fun _ h => h, (hG x).ext⟩ (fun j o' hj hje ho' => ?_) l' hl' (by rw [lexA_upd1 _ hpop]; exact hnext x) fuel _ _ w' ⟨by simp [st.size], closed_set st.closed hoi hall, fun q' j hq' hj => ?_, fun q' he' hq' j hj => ?_⟩ hat3 hw' (by have := unl_set hun ops.size; rw [if_pos hin] at this; omega)
              · have hjq : j ≠ q := fun e => hje (e ▸ hpe)
                rw [lexA_upd _ j (by omega)]
                simp only [if_neg hjq]
                exact (hy j o' (by omega) hje ho').mono (hG x)
              · have hij : ip ≠ j := fun e => by
                  have := d.inj q' q ip (by rw [e]; exact hj) hq
                  omega
                rw [getD_set_ne true hij]; exact st.rest q' j (by omega) hj
              · by_cases hij : ip = j
                · subst hij; simp [st.size, hin]
                · rw [getD_set_ne true hij]
                  refine st.done q' he' (Nat.lt_of_le_of_ne (by omega) (fun e => ?_)) j hj
                  subst e
                  exact hij (Option.some.inj (hq.symm.trans hj))
            · have hb := de.eff q p i ip hq hip hqp hpe
              have := closed_bef d st.closed q i oi hq hoi hall p ip hqp hip hb
              rw [getD_ff (st.rest p ip (Nat.le_refl _) hip)] at this; cases this
      · intro fuel L a w st hat hw hf
        have hat2 : At po (fun k => if k = p then v else V k) a0 (Lp π L) a := at_congrV hat (fun j hj => by
          have : j ≠ p := fun e => by
            subst e
            simp only [Lp, hip] at hj
            rw [getD_ff (st.rest j ip (Nat.le_refl _) hip)] at hj; cases hj
          simp only [if_neg this])
        refine ihr (p + 1) (by omega) (fun k => if k = p then v else V k) C hg (fun j o' hj hje ho' => ?_) l' hl' (by rw [lexA_upd1 _ hpop]; exact hnext) fuel L a w ⟨st.size, st.closed, fun q' j hq' hj => st.rest q' j (by omega) hj, fun q' he' hq' j hj => st.done q' he' (Nat.lt_of_le_of_ne (by omega) (fun e => hpe (e ▸ he'))) j hj⟩ hat2 hw hf
        rw [lexA_upd _ j (by omega)]
        by_cases hjp : j = p
        · subst hjp
          obtain rfl : o' = o := Option.some.inj (ho'.symm.trans hpop)
          simp only [if_true]
          exact hyv
        · simp only [if_neg hjp]
          exact hy j o' (by omega) hje ho'

theorem wp_region_dre {id : Nat} {l : List Oper} {m : Nat} {a : Act} {w : World} {C : World → Prop} (hm : P.follows .mixedOrders = true) (hB : drpeB l m π effs = true) (hg : Good C C) (hC : C { w with drawn := w.drawn + 1 })
    (h : lw P l.toArray Q effs m 0 (perm π l) C a) : (Code.region id l.toArray true).wp P Q a w := by
  have de := de_of hB
  have d := de.d
  have hle := d.le
  have hlen := d.len
  simp only [List.size_toArray] at hle hlen
  have hperm : ∀ p : Nat, (perm π l)[p]? = (π[p]?).bind (l.toArray[·]?) := by
    have : ∀ (ρ : List Nat), (∀ i ∈ ρ, i < l.length) → ∀ p : Nat, (ρ.filterMap (l[·]?))[p]? = (ρ[p]?).bind (l.toArray[·]?) := by
      intro ρ
      induction ρ with
      | nil => intro _ p; simp
      | cons i ρ ih =>
        intro hρ p
        have hi : i < l.length := hρ i (by simp)
        rw [List.filterMap_cons_some (List.getElem?_eq_getElem hi)]
        cases p with
        | zero => simp [hi]
        | succ p => simpa using ih (fun j hj => hρ j (by simp [hj])) p
    exact this π (fun i hi => by
      obtain ⟨p, hp⟩ := List.mem_iff_getElem?.1 hi
      obtain ⟨oi, hoi⟩ := d.there p i hp
      simpa using (Array.getElem?_eq_some_iff.1 hoi).1)
  have hpl : (perm π l).length = l.length := by
    have h1 : ∀ p : Nat, p < l.length → ∃ o, (perm π l)[p]? = some o := fun p hp => by
      obtain ⟨i, hi⟩ : ∃ i, π[p]? = some i := ⟨_, List.getElem?_eq_getElem (by omega)⟩
      obtain ⟨oi, hoi⟩ := d.there p i hi
      exact ⟨oi, by rw [hperm, hi]; exact hoi⟩
    have h2 : (perm π l).length ≤ π.length := List.length_filterMap_le _ _
    rcases Nat.lt_or_ge (perm π l).length l.length with h3 | h3
    · obtain ⟨o, ho⟩ := h1 _ h3
      have := (List.getElem?_eq_some_iff.1 ho).1
      omega
    · omega
  refine wp_region_any hm (stage de (po := (perm π l).toArray) (fun p => by simpa using hperm p) (by simp [hpl]) (a0 := a) m 0 (by omega) (fun _ => undef) C hg (fun j _ hj => absurd hj (Nat.not_lt_zero j)) (perm π l) (fun j => by rw [hperm, Nat.zero_add]) h _ _ _ _ ⟨by simp, ?_, ?_, fun q _ hq => absurd hq (Nat.not_lt_zero q)⟩ ?_ hC ?_)
  · intro j oj _ hl
    rcases Nat.lt_or_ge j l.length with h | h <;> simp [h] at hl
  · intro p i _ hp
    obtain ⟨oi, hoi⟩ := d.there p i hp
    have hj := (Array.getElem?_eq_some_iff.1 hoi).1
    simp only [List.size_toArray] at hj
    simp [hj]
  · refine ⟨rfl, rfl, fun t => ?_⟩
    unfold slotv
    rw [lst_none (fun p hp _ => by
      unfold Lp
      cases hq : π[p]? with
      | none => rfl
      | some j => rcases Nat.lt_or_ge j l.length with h | h <;> simp [h])]
  · have : ∀ k, k ≤ l.length → unl (Array.replicate l.toArray.size false) k = k := by
      intro k
      induction k with
      | zero => intro _; rfl
      | succ k ih =>
        intro hk
        simp only [unl]
        rw [ih (by omega)]
        simp [show k < l.length from by omega]
    simpa using this _ (Nat.le_refl _)
end

section
variable {P : Program} {n : Nat} {Q : Exit → Act → World → Prop} {σ : List (Nat × Value)} {w0 : Base} {μ : List Ent} {ops : Array Oper} {rest : List Oper} {effs : List Nat} {r p : Nat}
variable {ty : TypeId} {pos : String} {aft : Array Edge}

def QE (P : Program) (n : Nat) (ops : Array Oper) (Q : Exit → Act → World → Prop) (effs : List Nat) (r p : Nat) (l : List Oper) (σ : List (Nat × Value)) (w0 : Base) (μ : List Ent) : Prop :=
  ∀ a, Kn σ n a → lw P ops Q effs r p l (Hp w0 μ) a

theorem good_hp {μ' : List Ent} (h : ∀ w, Hp w0 μ' w → Hp w0 μ w) : Good (Hp w0 μ) (Hp w0 μ') := ⟨h, fun _ _ hw hx => hw.ext hx⟩
theorem ct_dre {id : Nat} {l : List Oper} (m : Nat) (π : List Nat) (effs : List Nat) (hm : P.follows .mixedOrders = true) (hB : drpeB l m π effs = true) (h : QE P n l.toArray Q effs m 0 (perm π l) σ w0 μ) : CT P n (.region id l.toArray true) Q σ w0 μ :=
  fun a w hk hp => wp_region_dre hm hB (good_hp (fun _ h => h)) hp.drawn (h a hk)
theorem qe_nil {l : List Oper} (h : RL P n ops Q l σ w0 μ) : QE P n ops Q effs 0 p l σ w0 μ := fun a hk w hp => h a w hk hp
theorem qe_split {t : Nat} {b : Bool} {l : List Oper} (hl : σ.lookup t = some (.bool b)) (h1 : b = true → QE P n ops Q effs r p l σ w0 μ) (h0 : b = false → QE P n ops Q effs r p l σ w0 μ) : QE P n ops Q effs r p l σ w0 μ := by
  cases hb : b with
  | true => exact h1 hb
  | false => exact h0 hb
theorem qe_val {d : Nat} {op : Op} {g : Option (Nat × Bool)} {v : Value} (hne : effs.contains p = false) (hg : GW ops n g true σ) (h : OV P n op ty v σ w0 μ) (hd : Nat.blt d n = true) (next : QE P n ops Q effs r (p + 1) rest ((d, v) :: σ) w0 μ) :
    QE P n ops Q effs (r + 1) p (⟨some d, op, ty, pos, aft, g⟩ :: rest) σ w0 μ := fun a hk =>
  .inr ⟨by simpa using hne, v, .inl ⟨hg _ _ _ _ _ _ hk, fun C gC w hw => by unfold Oper.quietAt; rw [h _ _ _ _ a w hk (gC.sub w hw)]; exact ⟨rfl, rfl⟩⟩, next _ (hk.put hd v)⟩
theorem qe_skip {d : Nat} {op : Op} {g : Option (Nat × Bool)} (hne : effs.contains p = false) (hg : GW ops n g false σ) (hd : Nat.blt d n = true) (next : QE P n ops Q effs r (p + 1) rest ((d, undef) :: σ) w0 μ) :
    QE P n ops Q effs (r + 1) p (⟨some d, op, ty, pos, aft, g⟩ :: rest) σ w0 μ := fun a hk =>
  .inr ⟨by simpa using hne, undef, .inr ⟨hg _ _ _ _ _ _ hk, rfl⟩, next _ (hk.put hd undef)⟩
theorem qe_callv {d : Nat} {f : FuncId} {xs : List Operand} {vs : List Value} {tys : Array TypeId} {g : Option (Nat × Bool)} {v : Value} (hne : effs.contains p = false) (hg : GW ops n g true σ) (hf : Goes P f) (hx : EVs σ xs = some vs)
    (hc : ∀ w, Hp w0 μ w → Calls P f vs.toArray w (fun e w' => e = .returned v ∧ Ext w w')) (hd : Nat.blt d n = true)
    (next : QE P n ops Q effs r (p + 1) rest ((d, v) :: σ) w0 μ) :
    QE P n ops Q effs (r + 1) p (⟨some d, .call ⟨.value (.func f), xs.toArray, tys⟩, ty, pos, aft, g⟩ :: rest) σ w0 μ := fun a hk =>
  .inr ⟨by simpa using hne, v, .inl ⟨hg _ _ _ _ _ _ hk, fun C gC w hw => by
    unfold Oper.quietAt
    rw [run_call hf hx _ _ _ _ a w hk]
    exact ⟨rfl, (hc w (gC.sub w hw)).mono fun e w' ⟨he, hx'⟩ => ⟨he, gC.ext _ _ hw hx'⟩⟩⟩, next _ (hk.put hd v)⟩
theorem qe_call {d : Nat} {f : FuncId} {xs : List Operand} {vs : List Value} {tys : Array TypeId} {ι : Type} (V : ι → Value) (M : ι → List Ent) (G : ι → Prop) (hin : effs.contains p = true) (hf : Goes P f) (hx : EVs σ xs = some vs)
    (hM : ∀ i w, Hp w0 (M i) w → Hp w0 μ w) (hc : ∀ w, Hp w0 μ w → Calls P f vs.toArray w (fun e w' => ∃ i, G i ∧ e = .returned (V i) ∧ Hp w0 (M i) w')) (hd : Nat.blt d n = true)
    (next : ∀ i, G i → QE P n ops Q effs r (p + 1) rest ((d, V i) :: σ) w0 (M i)) :
    QE P n ops Q effs (r + 1) p (⟨some d, .call ⟨.value (.func f), xs.toArray, tys⟩, ty, pos, aft, none⟩ :: rest) σ w0 μ := fun a hk =>
  .inl ⟨by simpa using hin, {i // G i}, fun i => V i.1, fun i => Hp w0 (M i.1), rfl, fun i => good_hp (hM i.1), fun w hp => by
    rw [run_call hf hx _ _ _ _ a w hk]
    exact (hc w hp).mono fun e w' ⟨i, hG, he, hp'⟩ => ⟨⟨i, hG⟩, he, hp'⟩, fun i => next i.1 i.2 _ (hk.put hd _)⟩
theorem qe_calle {d : Nat} {f : FuncId} {xs : List Operand} {vs : List Value} {tys : Array TypeId} {ι : Type} (V : ι → Value) (E : ι → List Ent) (G : ι → Prop) (hin : effs.contains p = true) (hf : Goes P f) (hx : EVs σ xs = some vs)
    (hc : ∀ w, Hp w0 μ w → Calls P f vs.toArray w (fun e w' => ∃ i, G i ∧ e = .returned (V i) ∧ Hp ⟨w, []⟩ (E i) w')) (hd : Nat.blt d n = true)
    (next : ∀ i, G i → QE P n ops Q effs r (p + 1) rest ((d, V i) :: σ) w0 (E i ++ μ)) :
    QE P n ops Q effs (r + 1) p (⟨some d, .call ⟨.value (.func f), xs.toArray, tys⟩, ty, pos, aft, none⟩ :: rest) σ w0 μ :=
  qe_call V (fun i => E i ++ μ) G hin hf hx (fun i w h => h.sub (List.sublist_append_right _ _)) (fun w hp => (hc w hp).mono fun _ _ ⟨i, hG, he, hx'⟩ => ⟨i, hG, he, hp.lift hx'⟩) hd next
theorem qe_callnew {d : Nat} {f : FuncId} {xs : List Operand} {vs : List Value} {tys : Array TypeId} {T : TypeId} {L : List Value} (V : Nat → Value) (hin : effs.contains p = true) (hf : Goes P f) (hx : EVs σ xs = some vs)
    (hc : ∀ w, Hp w0 μ w → Calls P f vs.toArray w (fun e w' => ∃ b, e = .returned (V b) ∧ New w w' b T L)) (hd : Nat.blt d n = true)
    (next : ∀ b, QE P n ops Q effs r (p + 1) rest ((d, V b) :: σ) w0 ((some b, T, L) :: μ)) :
    QE P n ops Q effs (r + 1) p (⟨some d, .call ⟨.value (.func f), xs.toArray, tys⟩, ty, pos, aft, none⟩ :: rest) σ w0 μ :=
  qe_call V (fun b => (some b, T, L) :: μ) (fun _ => True) hin hf hx (fun _ w h => h.drop) (fun w hp => (hc w hp).mono fun _ _ ⟨b, he, hn⟩ => ⟨b, trivial, he, hp.new hn.2.2 hn.1 hn.2.1⟩) hd (fun b _ => next b)
theorem qe_callsl {d : Nat} {f : FuncId} {xs : List Operand} {vs : List Value} {tys : Array TypeId} {T : TypeId} {ι : Type} (V : ι → Option Nat → Value) (L : ι → List Value) (G : ι → Option Nat → Prop) (hin : effs.contains p = true) (hf : Goes P f) (hx : EVs σ xs = some vs)
    (hc : ∀ w, Hp w0 μ w → Calls P f vs.toArray w (fun e w' => ∃ i bo, G i bo ∧ e = .returned (V i bo) ∧ NewO w w' bo T (L i))) (hd : Nat.blt d n = true)
    (next : ∀ i bo, G i bo → QE P n ops Q effs r (p + 1) rest ((d, V i bo) :: σ) w0 ((bo, T, L i) :: μ)) :
    QE P n ops Q effs (r + 1) p (⟨some d, .call ⟨.value (.func f), xs.toArray, tys⟩, ty, pos, aft, none⟩ :: rest) σ w0 μ :=
  qe_call (ι := ι × Option Nat) (fun p => V p.1 p.2) (fun p => (p.2, T, L p.1) :: μ) (fun p => G p.1 p.2) hin hf hx (fun _ w h => h.drop) (fun w hp => (hc w hp).mono fun _ _ ⟨i, bo, hg, he, hn⟩ => ⟨(i, bo), hg, he, hp.newO hn⟩) hd (fun p hg => next p.1 p.2 hg)
theorem qe_callx {d : Nat} {f : FuncId} {xs : List Operand} {vs : List Value} {tys : Array TypeId} {ι : Type} (V : ι → Value) (G : ι → Prop) (hin : effs.contains p = true) (hf : Goes P f) (hx : EVs σ xs = some vs)
    (hc : ∀ w, Hp w0 μ w → Calls P f vs.toArray w (fun e w' => ∃ i, G i ∧ e = .returned (V i) ∧ Ext w w')) (hd : Nat.blt d n = true)
    (next : ∀ i, G i → QE P n ops Q effs r (p + 1) rest ((d, V i) :: σ) w0 μ) :
    QE P n ops Q effs (r + 1) p (⟨some d, .call ⟨.value (.func f), xs.toArray, tys⟩, ty, pos, aft, none⟩ :: rest) σ w0 μ :=
  qe_call V (fun _ => μ) G hin hf hx (fun _ _ h => h) (fun w hp => (hc w hp).mono fun _ _ ⟨i, hG, he, hx'⟩ => ⟨i, hG, he, hp.ext hx'⟩) hd next
end
end Go.Proofs.Ytgnnlgmeagipjaa.K
