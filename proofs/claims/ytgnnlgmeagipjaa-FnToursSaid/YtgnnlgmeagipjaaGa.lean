/- Closures: made and called; a slice made in an open order; shifts and the last bit. By an AI agent. -/
import Derived.Test.YtgnnlgmeagipjaaDa
import Derived.Test.YtgnnlgmeagipjaaJg
import Derived.Test.YtgnnlgmeagipjaaJd
set_option linter.unusedVariables false
set_option linter.unusedSectionVars false
namespace Go.Proofs.Ytgnnlgmeagipjaa.K
open Go Go.RowKit

section
variable {P : Program} {n : Nat} {Q : Exit → Act → World → Prop} {σ : List (Nat × Value)} {w0 : Base} {μ : List Ent} {ops : Array Oper} {rest : List Oper}
variable {ty : TypeId} {pos : String} {aft : Array Edge}

theorem ov_mkfunc {f : FuncId} {xs : List Operand} {vs : List Value} (hx : EVs σ xs = some vs) : OV P n (.makeFunc (.func f) #[] xs.toArray) ty (.func (.func f) #[] vs.toArray) σ w0 μ := fun _ _ _ _ a w hk _ => by
  have hev := hk.evals hx
  have harg : xs.toArray.map a.eval = vs.toArray := by rw [← hev]; simp
  simp [execOp, Instr.makeFunc, harg]
/-- A call of a closure that is known. -/
theorem run_callc {f : FuncId} {x : Operand} {caps : List Value} {xs : List Operand} {vs : List Value} {tys : Array TypeId} (hf : Goes P f) (hv : EV σ x = some (.func (.func f) #[] caps.toArray)) (hx : EVs σ xs = some vs) (dst : Option Tmp) (pos : String) (aft : Array Edge) (g : Option (Nat × Bool)) (a : Act) (w : World) (hk : Kn σ n a) :
    (execOp a.eval ⟨dst, .call ⟨.value x, xs.toArray, tys⟩, ty, pos, aft, g⟩).run P w = .ok (.enter f (vs ++ caps).toArray) w := by
  obtain ⟨fn, h1, h2, h3⟩ := hf
  have hev := hk.evals hx
  have h3' : fn.body.isNone ≠ true := by rw [h3]; exact Bool.false_ne_true
  have hcf : (callFunc f (vs ++ caps).toArray).run P w = .ok (.enter f (vs ++ caps).toArray) w := by
    unfold callFunc
    simp only [Sem.run_bind, run_program, Result.andThen_ok, h1, h2, Bool.false_eq_true, if_false]
    rw [if_neg h3']; rfl
  have harg : xs.toArray.map a.eval ++ caps.toArray = (vs ++ caps).toArray := by rw [← hev]; simp
  have hr : (resolve a.eval ⟨.value x, xs.toArray, tys⟩ ty).run P w = .ok ⟨.fn (.func f) caps.toArray, #[] ++ xs.toArray.map a.eval⟩ w := by
    simp [resolve, Deferred.ofValue, hk.eval hv]
  show ((resolve a.eval ⟨.value x, xs.toArray, tys⟩ ty) >>= fun d => invoke d.target d.args).run P w = _
  rw [Sem.run_bind, hr]
  show (callFunc f ((#[] ++ xs.toArray.map a.eval) ++ caps.toArray)).run P w = _
  rw [Array.empty_append, harg]; exact hcf
theorem rl_callc {d : Nat} {f : FuncId} {x : Operand} {caps : List Value} {xs : List Operand} {vs : List Value} {tys : Array TypeId} {g : Option (Nat × Bool)} {ι : Type} (V : ι → Value) (M : ι → List Ent) (G : ι → Prop) (hg : GW ops n g true σ) (hf : Goes P f) (hv : EV σ x = some (.func (.func f) #[] caps.toArray)) (hx : EVs σ xs = some vs)
    (hc : ∀ w, Hp w0 μ w → Calls P f (vs ++ caps).toArray w (fun e w' => ∃ i, G i ∧ e = .returned (V i) ∧ Hp w0 (M i) w')) (hd : Nat.blt d n = true)
    (next : ∀ i, G i → RL P n ops Q rest ((d, V i) :: σ) w0 (M i)) :
    RL P n ops Q (⟨some d, .call ⟨.value x, xs.toArray, tys⟩, ty, pos, aft, g⟩ :: rest) σ w0 μ := fun a w hk hp => by
  unfold wpList
  rw [if_pos (hg _ _ _ _ _ _ hk)]
  refine .inl ?_
  unfold Oper.wp
  rw [run_callc hf hv hx _ _ _ _ a w hk]
  refine (hc w hp).mono fun e w' ⟨i, hGi, he, hp'⟩ => ?_
  subst he
  exact next i hGi _ _ (hk.put hd _) hp'
/-- A closure that may write into the blocks E0. -/
theorem rl_calldc {d : Nat} {f : FuncId} {x : Operand} {caps : List Value} {xs : List Operand} {vs : List Value} {tys : Array TypeId} {g : Option (Nat × Bool)} {ι : Type} (V : ι → Value) (E0 ν : List Ent) (E : ι → List Ent) (G : ι → Prop) (hg : GW ops n g true σ) (hf : Goes P f) (hv : EV σ x = some (.func (.func f) #[] caps.toArray)) (hx : EVs σ xs = some vs)
    (hμ : ∀ w, Hp w0 μ w → Hp w0 (E0 ++ ν) w) (hc : ∀ w, Hp w0 μ w → Hp ⟨w, keys E0⟩ E0 w → Calls P f (vs ++ caps).toArray w (fun e w' => ∃ i, G i ∧ e = .returned (V i) ∧ Hp ⟨w, keys E0⟩ (E i) w')) (hd : Nat.blt d n = true)
    (next : ∀ i, G i → RL P n ops Q rest ((d, V i) :: σ) w0 (E i ++ ν)) : RL P n ops Q (⟨some d, .call ⟨.value x, xs.toArray, tys⟩, ty, pos, aft, g⟩ :: rest) σ w0 μ :=
  rl_callc V (fun i => E i ++ ν) G hg hf hv hx (fun w hp => (hc w hp ((hμ w hp).sub (List.sublist_append_left _ _)).self).mono fun e w' ⟨i, hG, he, h2⟩ => ⟨i, hG, he, (hμ w hp).liftd h2⟩) hd next

theorem run_mk {t e by_ m : Nat} {zs : List Value} {x y : Operand} (ht : P.underlying t = some (.slice e)) (hz : zeroB P e = some zs) (hs : sizeB P e = some zs.length) (hby : bytesB P e = some by_) (hx : EV σ x = some (.int .i64 (m : Int))) (hy : EV σ y = some (.int .i64 (m : Int)))
    (hb : by_ * m ≤ 281474976710656) (hm : m ≤ maxLen) (dst : Option Tmp) (pos : String) (aft : Array Edge) (g : Option (Nat × Bool)) (c : Act) (w : World) (hk : Kn σ n c) (hp : Hp w0 μ w) :
    ∃ w', (execOp c.eval ⟨dst, .makeSlice t x y, ty, pos, aft, g⟩).run P w = .ok (.value (.slice (some ⟨w.heap.size, 0, none⟩) m m)) w' ∧ Hp w0 ((some w.heap.size, e, (List.replicate m zs).flatten) :: μ) w' := by
    unfold zeroB at hz
    unfold sizeB at hs
    unfold bytesB at hby
    cases hi : P.info? e with
    | none => simp [hi] at hz
    | some i =>
      simp only [hi, Option.bind_some, Option.map_some, Option.some.injEq] at hz hs hby
      cases hzz : i.zero with
      | none => simp [hzz] at hz
      | some z =>
        simp only [hzz, Option.map_some, Option.some.injEq] at hz
        subst hz
        have hsz : i.size = z.cells.size := by simpa using hs
        obtain ⟨w', h1, h2, h3⟩ := run_make_full (P := P) w w.heap.size t e i z z.cells.size ht hi hzz hsz .i64 .i64 m (by rw [hby]; exact hb) hm (Nat.le_refl _)
        refine ⟨w', ?_, ?_⟩
        · simp only [execOp, hk.eval hx, hk.eval hy, Sem.run_bind, h1, Result.andThen_ok]; rfl
        · have hx' : Ext w w' := ⟨h3.os, h3.tape, h3.output, h3.size, fun k hk' => h3.block k hk' (by simp)⟩
          obtain ⟨_, h4⟩ := h2
          rcases h4 with ⟨h4, _⟩ | ⟨g, cap, cur, h4, _, h5, _, _, h6, h7⟩
          · injection h4 with h4; cases h4
          · injection h4 with h4 _ h8
            simp only [Option.some.injEq, Addr.mk.injEq] at h4
            obtain ⟨rfl, _⟩ := h4
            subst h8
            have h9 : cur = ((List.replicate m z.cells.toList).flatten).toArray := by
              apply Array.toList_inj.1
              show cur.toList = (List.replicate m z.cells.toList).flatten
              rw [← made_list, ← h7, List.take_of_length_le (by simp [h6])]
            exact hp.new hx' (Nat.le_refl _) (by rw [h5, h9])
variable {F : Fl} {sf : Nat → Soft} {r p : Nat} {N0 : List Ent}
theorem qg_make {d t e by_ m : Nat} {zs : List Value} {x y : Operand} (hns : F.softs.contains p = false) (hin : F.effs.contains p = true) (hnd : F.dirt.contains p = false) (ht : P.underlying t = some (.slice e)) (hz : zeroB P e = some zs) (hs : sizeB P e = some zs.length) (hby : bytesB P e = some by_) (hx : EV σ x = some (.int .i64 (m : Int))) (hy : EV σ y = some (.int .i64 (m : Int)))
    (hb : by_ * m ≤ 281474976710656) (hm : m ≤ maxLen) (hd : Nat.blt d n = true) (next : ∀ N, QF P n ops Q F sf r (p + 1) rest ((d, .slice (some ⟨N, 0, none⟩) m m) :: σ) w0 ((some N, e, (List.replicate m zs).flatten) :: μ) N0) :
    QG P n ops Q F sf (r + 1) p (⟨some d, .makeSlice t x y, ty, pos, aft, none⟩ :: rest) σ w0 μ N0 :=
  qg_eff (fun N : Nat => .slice (some ⟨N, 0, none⟩) m m) (fun N => (some N, e, (List.replicate m zs).flatten) :: μ) hns hin (.inr fun N => ⟨[(some N, e, (List.replicate m zs).flatten)], List.perm_append_comm (l₁ := [_])⟩) (.inl hnd) (fun dst pos aft a hk X w hp => by
    obtain ⟨w', h1, h2⟩ := run_mk ht hz hs hby hx hy hb hm dst pos aft none a w hk hp
    rw [h1]
    exact ⟨w.heap.size, rfl, h2⟩) hd next
end

/-! ### Shifts and the last bit -/
section
variable {P : Program} {n : Nat} {σ : List (Nat × Value)} {w0 : Base} {μ : List Ent} {ty : TypeId} {x y : Operand} {t u : TypeId} {i j : Int}
theorem pow2_le {m k : Nat} (h : m ≤ k) : (2 : Int) ^ m ≤ 2 ^ k := by
  have : (2 : Nat) ^ m ≤ 2 ^ k := Nat.pow_le_pow_right (by decide) h
  exact_mod_cast this
theorem ov_shift (op : BinOp) (hop : op = .shl ∨ op = .shr) (hx : EV σ x = some (.int .i64 i)) (hy : EV σ y = some (.int .u64 j)) (m : Nat) (hj : j = m) (hm : m ≤ 20) (r : Int) (hr : r = match op with | .shl => IntKind.i64.wrap (i * 2 ^ m) | _ => i.fdiv (2 ^ m)) :
    OV P n (.binOp op t x y u) ty (.int .i64 r) σ w0 μ := fun _ _ _ _ a w hk _ => by
  subst hj
  have hmin : min ((m : Int).toNat) IntKind.i64.bits = m := by
    have : IntKind.i64.bits = 64 := rfl
    rw [this, Int.toNat_natCast]; omega
  have hn : ¬ ((m : Int) < 0) := by omega
  rcases hop with rfl | rfl
  · have hq : (eqGuard .shl t x y (.int .i64 i) (.int .u64 m)).run P w = .ok () w := rfl
    have hs : (binOp .shl t (.int .i64 i) (.int .u64 m)).run P w = .ok (.int .i64 r) w := by
      show (Op.shift .shl .i64 i .u64 m).run P w = _
      unfold Op.shift
      rw [if_neg hn, hmin, hr]; rfl
    simp only [execOp, hk.eval hx, hk.eval hy]
    simp [Sem.run_bind, hq, hs]
  · have hq : (eqGuard .shr t x y (.int .i64 i) (.int .u64 m)).run P w = .ok () w := rfl
    have hs : (binOp .shr t (.int .i64 i) (.int .u64 m)).run P w = .ok (.int .i64 r) w := by
      show (Op.shift .shr .i64 i .u64 m).run P w = _
      unfold Op.shift
      rw [if_neg hn, hmin, hr]; rfl
    simp only [execOp, hk.eval hx, hk.eval hy]
    simp [Sem.run_bind, hq, hs]
/-- 1 << m -/
theorem ov_shl1 (hx : EV σ x = some (.int .i64 1)) (hy : EV σ y = some (.int .u64 j)) (m : Nat) (hj : j = m) (hm : m ≤ 20) : OV P n (.binOp .shl t x y u) ty (.int .i64 ((2 ^ m : Nat) : Int)) σ w0 μ := by
  refine ov_shift .shl (.inl rfl) hx hy m hj hm _ ?_
  have hb := pow2_le hm
  have h0 : (0 : Int) < 2 ^ m := Int.pow_pos (by decide)
  have h3 : (2 : Int) ^ 20 = 1048576 := by decide
  show _ = IntKind.i64.wrap (1 * 2 ^ m)
  rw [IntWalk.i64_in _ (by rw [Int.one_mul]; omega), Int.one_mul]
  push_cast; rfl
/-- b >> m -/
theorem ov_shrN {b : Nat} (hx : EV σ x = some (.int .i64 b)) (hy : EV σ y = some (.int .u64 j)) (m : Nat) (hj : j = m) (hm : m ≤ 20) : OV P n (.binOp .shr t x y u) ty (.int .i64 ((b / 2 ^ m : Nat) : Int)) σ w0 μ := by
  refine ov_shift .shr (.inr rfl) hx hy m hj hm _ ?_
  show _ = Int.fdiv (b : Int) (2 ^ m)
  rw [Int.fdiv_eq_ediv_of_nonneg _ (by have h0 : (0 : Int) < 2 ^ m := Int.pow_pos (by decide)
                                       omega)]
  push_cast; rfl
/-- The last bit. -/
theorem ov_and1 {b : Nat} (hx : EV σ x = some (.int .i64 b)) (hy : EV σ y = some (.int .i64 1)) : OV P n (.binOp .and t x y u) ty (.int .i64 ((b % 2 : Nat) : Int)) σ w0 μ := run_bin _ _ _ _ _ .i64 b 1 _ hx hy fun w => by
  have h : (BitVec.ofInt 64 (b : Int) &&& BitVec.ofInt 64 1).toNat = b % 2 := by
    have h1 : BitVec.ofInt 64 1 = 1#64 := by decide
    have h2 : BitVec.ofInt 64 (b : Int) = BitVec.ofNat 64 b := BitVec.ofInt_natCast 64 b
    rw [h1, h2, BitVec.toNat_and, BitVec.toNat_ofNat, show (1#64).toNat = 1 from rfl, Nat.and_one_is_mod]
    omega
  show Result.ok (Value.int .i64 (IntKind.i64.wrap ((BitVec.ofInt 64 (b : Int) &&& BitVec.ofInt 64 1).toNat : Nat))) w = _
  rw [h, IntWalk.i64_in _ (by omega)]
/-- A number in 64 bits without a sign. -/
theorem u64_nat {m : Nat} (h : m ≤ 1000000) : IntKind.u64.wrap (m : Int) = m := by
  simp only [IntKind.wrap, IntKind.signed, IntKind.bits]
  simp
  omega
theorem u64_natE {i : Int} {m : Nat} (hi : i = m) (h : m ≤ 1000000) : IntKind.u64.wrap i = m := by rw [hi, u64_nat h]
end
end Go.Proofs.Ytgnnlgmeagipjaa.K
set_option linter.unusedVariables false
set_option linter.unusedSimpArgs false
namespace Go.Proofs.Ytgnnlgmeagipjaa.K
open Go Go.RowKit
theorem ov_loadawd {P : Program} {n : Nat} {σ : List (Nat × Value)} {μ : List Ent} {ty : TypeId} {D : List Nat} {w0 : World} {x : Operand} {t : TypeId} {k b o : Nat} {vs : List Value} (ht : Agg P t k) (hx : EV σ x = some (.pointer (some ⟨b, o, none⟩))) (hk : vs.length = k) (hc : Cells w0 b o vs) (hd : b ∉ D) :
    OV P n (.load t x) ty (.agg vs.toArray) σ ⟨w0, D⟩ μ := fun _ _ _ _ c w hkn hp => run_load_op hkn hx (run_loadVar_a ht hk (Cells.ext (fun _ _ h => hp.oldD h hd) hc)) _ _
theorem list_put {α : Type} (L : List α) (v : α) {o : Nat} (h : o < L.length) : L.take o ++ [v] ++ L.drop (o + 1) = L.set o v := by
  rw [List.set_eq_take_append_cons_drop, if_pos h]; simp
end Go.Proofs.Ytgnnlgmeagipjaa.K
namespace Go.Proofs.Ytgnnlgmeagipjaa
open Go Go.RowKit K

def fe (st : List Stay) (i : Int) : Int := match st[i.toNat]? with | some x => x.fee | none => 0
theorem fe_eq {st : List Stay} {i : Int} {x : Stay} (h : st[i.toNat]? = some x) : fe st i = x.fee := by simp only [fe, h]
theorem fe_bd {st : List Stay} (h : staysB st = true) (i : Int) : 0 ≤ fe st i ∧ fe st i ≤ 1000 := by
  unfold fe
  split
  · rename_i x hx; exact (stay_at h hx).2.2
  · omega
def feeL (st : List Stay) (l : List Int) : Int := l.foldl (fun s i => s + fe st i) 0
theorem feeL_app (st : List Stay) (l : List Int) (i : Int) : feeL st (l ++ [i]) = feeL st l + fe st i := by simp [feeL, List.foldl_append]
theorem daF_app (m : List Int) (st : List Stay) (l : List Int) (i : Int) : daF m st (l ++ [i]) = daS m st (daF m st l) i := by simp [daF, List.foldl_append]

/-- An order that has a way throughout. -/
structure OrdR (xs : List Road) (st : List Stay) (l : List Int) : Prop where
  nd : l.Nodup
  rng : ∀ i ∈ l, 0 ≤ i ∧ i < (st.length : Int)
  d0 : 0 ≤ (daF (ways (-1) xs) st l).1
  d1 : (daF (ways (-1) xs) st l).1 ≤ 240 * (l.length : Int)
  f0 : 0 ≤ feeL st l
  f1 : feeL st l ≤ 1000 * (l.length : Int)
theorem OrdR.nil (xs : List Road) (st : List Stay) : OrdR xs st [] := ⟨List.nodup_nil, (fun i hi => by cases hi), Int.le_refl 0, Int.le_refl 0, Int.le_refl 0, Int.le_refl 0⟩
theorem OrdR.snoc {xs : List Road} {st : List Stay} {l : List Int} (hR : OkR xs) (hs : staysB st = true) (h : OrdR xs st l) {k : Nat} (hk : k < st.length) (hn : hasL l (k : Int) = false) (hf : g8 (ways (-1) xs) (daF (ways (-1) xs) st l).2.toNat (tw st (k : Int)).toNat < 1000000) : OrdR xs st (l ++ [(k : Int)]) := by
  have ht := daF_town (m := ways (-1) xs) hs l
  have ht2 := tw_bd hs (k : Int)
  have hd := dy_bd hs (k : Int)
  have hfe := fe_bd hs (k : Int)
  have h1 : (daF (ways (-1) xs) st l).2.toNat < 8 := by omega
  have h2 : (tw st (k : Int)).toNat < 8 := by omega
  have hw := ways_small (wo := -1) hR h1 h2 hf
  have hb := ways_bd (wo := -1) hR h1 h2
  have hda : (daF (ways (-1) xs) st (l ++ [(k : Int)])).1 = (daF (ways (-1) xs) st l).1 + g8 (ways (-1) xs) (daF (ways (-1) xs) st l).2.toNat (tw st (k : Int)).toNat + dy st (k : Int) := by rw [daF_app]; rfl
  have hfa := feeL_app st l (k : Int)
  have hlen : ((l ++ [(k : Int)]).length : Int) = (l.length : Int) + 1 := by simp
  have := h.d0
  have := h.d1
  have := h.f0
  have := h.f1
  refine ⟨List.nodup_append.2 ⟨h.nd, by simp, fun a ha b hb => ?_⟩, fun i hi => ?_, by omega, by omega, by omega, by omega⟩
  · obtain rfl : b = (k : Int) := by simpa using hb
    exact fun e => (of_decide_eq_false hn) (e ▸ ha)
  · rcases List.mem_append.1 hi with hi | hi
    · exact h.rng i hi
    · obtain rfl : i = (k : Int) := by simpa using hi
      omega
theorem OrdR.len {xs : List Road} {st : List Stay} {l : List Int} (h : OrdR xs st l) : l.length ≤ st.length := pigeon st.length l h.nd h.rng

/-! ### What is held -/
def flg (n : Nat) (l : List Int) : List Bool := (List.range n).map fun (i : Nat) => hasL l (i : Int)
def bls (l : List Bool) : List Value := l.map Value.bool
theorem bls_flg_len (n : Nat) (l : List Int) : (bls (flg n l)).length = n := by simp [bls, flg]
theorem flg_get {n k : Nat} {l : List Int} (h : k < n) {o : Nat} (ho : o = k) : (bls (flg n l))[o]? = some (.bool (hasL l (k : Int))) := by
  subst ho; simp [bls, flg, h]
theorem flg_set {n k : Nat} {l l' : List Int} (h : k < n) (hs : ∀ j : Nat, j ≠ k → hasL l' (j : Int) = hasL l (j : Int)) : (bls (flg n l)).set k (.bool (hasL l' (k : Int))) = bls (flg n l') := by
  apply List.ext_getElem?
  intro j
  rw [List.getElem?_set]
  by_cases hj : k = j
  · subst hj
    rw [if_pos rfl, if_pos (by rw [bls_flg_len]; exact h), flg_get h rfl]
  · rw [if_neg hj]
    by_cases hn : j < n
    · rw [flg_get hn rfl, flg_get hn rfl, hs j (fun e => hj e.symm)]
    · rw [List.getElem?_eq_none (by rw [bls_flg_len]; omega), List.getElem?_eq_none (by rw [bls_flg_len]; omega)]
theorem hasL_app (l : List Int) (k j : Nat) : hasL (l ++ [(k : Int)]) (j : Int) = (hasL l (j : Int) || decide (j = k)) := by
  unfold hasL
  by_cases h1 : (j : Int) ∈ l <;> by_cases h2 : j = k <;> simp [h1, h2] <;> omega
theorem flg_put {n k o : Nat} {l : List Int} (h : k < n) (ho : o = k) : (bls (flg n l)).take o ++ [Value.bool true] ++ (bls (flg n l)).drop (o + 1) = bls (flg n (l ++ [(k : Int)])) := by
  subst ho
  rw [list_put _ _ (by rw [bls_flg_len]; exact h)]
  have := flg_set (l := l) (l' := l ++ [(o : Int)]) h (fun j hj => by rw [hasL_app, decide_eq_false hj, Bool.or_false])
  rw [hasL_app, decide_eq_true rfl, Bool.or_true] at this
  exact this
theorem flg_clr {n k o : Nat} {l : List Int} (h : k < n) (ho : o = k) (hn : hasL l (k : Int) = false) : (bls (flg n (l ++ [(k : Int)]))).take o ++ [Value.bool false] ++ (bls (flg n (l ++ [(k : Int)]))).drop (o + 1) = bls (flg n l) := by
  subst ho
  rw [list_put _ _ (by rw [bls_flg_len]; exact h)]
  have := flg_set (l := l ++ [(o : Int)]) (l' := l) h (fun j hj => by rw [hasL_app, decide_eq_false hj, Bool.or_false])
  rw [hn] at this
  exact this
theorem bls_none (n : Nat) : (List.replicate n [Value.bool false]).flatten = bls (flg n []) := by
  apply List.ext_getElem?
  intro j
  have h1 : (List.replicate n [Value.bool false]).flatten = List.replicate n (Value.bool false) := by
    induction n with
    | zero => rfl
    | succ n ih => rw [List.replicate_succ, List.flatten_cons, ih]; rfl
  rw [h1]
  by_cases hn : j < n
  · rw [flg_get hn rfl, List.getElem?_replicate, if_pos hn]; rfl
  · rw [List.getElem?_eq_none (by simp; omega), List.getElem?_eq_none (by rw [bls_flg_len]; omega)]

/-! ### What the program goes through -/
def trS (W : List Int) (st : List Stay) (R : List Int → Int → Int) (l : List Int) (v : Int) (i : Nat) : Int :=
  if hasL l (i : Int) || decide (1000000 ≤ g8 W (daF W st l).2.toNat (tw st (i : Int)).toNat) then v else R (l ++ [(i : Int)]) v
def trP (W : List Int) (st : List Stay) (tl : Int → Int → Int → Int → Int) (R : List Int → Int → Int) (l : List Int) (v : Int) (k : Nat) : Int :=
  (List.range k).foldl (trS W st R l) (tl v (daF W st l).1 (feeL st l) (l.length : Int))
theorem trP_skip {W : List Int} {st : List Stay} {tl : Int → Int → Int → Int → Int} {R : List Int → Int → Int} {l : List Int} {v : Int} {k : Nat} (h : hasL l (k : Int) = true ∨ 1000000 ≤ g8 W (daF W st l).2.toNat (tw st (k : Int)).toNat) : trP W st tl R l v (k + 1) = trP W st tl R l v k := by
  unfold trP
  rw [List.range_succ, List.foldl_append]
  show trS W st R l _ k = _
  unfold trS
  rw [if_pos (by rcases h with h | h <;> simp [h])]
theorem trP_go {W : List Int} {st : List Stay} {tl : Int → Int → Int → Int → Int} {R : List Int → Int → Int} {l : List Int} {v : Int} {k : Nat} (h : hasL l (k : Int) = false) (h2 : g8 W (daF W st l).2.toNat (tw st (k : Int)).toNat < 1000000) : trP W st tl R l v (k + 1) = R (l ++ [(k : Int)]) (trP W st tl R l v k) := by
  unfold trP
  rw [List.range_succ, List.foldl_append]
  show trS W st R l _ k = _
  unfold trS
  rw [if_neg (by rw [h, decide_eq_false (by omega)]; simp)]
def trF (W : List Int) (st : List Stay) (tl : Int → Int → Int → Int → Int) (R : List Int → Int → Int) (l : List Int) (v : Int) : Int := trP W st tl R l v st.length
def trO (W : List Int) (st : List Stay) (tl : Int → Int → Int → Int → Int) : Nat → List Int → Int → Int
  | 0 => trF W st tl (fun _ v => v)
  | m + 1 => trF W st tl (trO W st tl m)
end Go.Proofs.Ytgnnlgmeagipjaa
set_option linter.unusedVariables false
set_option linter.unusedSimpArgs false
namespace Go.Proofs.Ytgnnlgmeagipjaa
open Go Go.RowKit K

def tlF (n : Nat) (v d f c : Int) : Int := if c = n ∧ (v < 0 ∨ d < v) then d else v
def tlB (days v d f c : Int) : Int := if d ≤ days then (if v < f then f else v) else v
theorem tlF_yes {n : Nat} {v d f c : Int} (h : c = n) (h2 : v < 0 ∨ d < v) : tlF n v d f c = d := if_pos ⟨h, h2⟩
theorem tlF_no {n : Nat} {v d f c : Int} (h : c ≠ n ∨ (0 ≤ v ∧ v ≤ d)) : tlF n v d f c = v := if_neg (by omega)
theorem tlB_yes {days v d f c : Int} (h : d ≤ days) : tlB days v d f c = if v < f then f else v := if_pos h
theorem tlB_no {days v d f c : Int} (h : ¬ d ≤ days) : tlB days v d f c = v := if_neg h
def fdV (xs : List Road) (st : List Stay) : Int := trO (ways (-1) xs) st (tlF st.length) st.length [] (-1)
def fdB (xs : List Road) (st : List Stay) : Bool := roadsB xs && staysB st && decide (0 ≤ fdV xs st)
def fdR (xs : List Road) (st : List Stay) : Int := if fdB xs st then fdV xs st else 0
def btV (xs : List Road) (st : List Stay) (days : Int) : Int := trO (ways (-1) xs) st (tlB days) st.length [] 0
def btB (xs : List Road) (st : List Stay) (days : Int) : Bool := roadsB xs && staysB st && inB days 0 1000
def btR (xs : List Road) (st : List Stay) (days : Int) : Int := if btB xs st days then btV xs st days else 0
theorem fdR_yes {xs : List Road} {st : List Stay} (h : fdB xs st = true) : fdR xs st = fdV xs st := if_pos h
theorem fdR_no {xs : List Road} {st : List Stay} (h : fdB xs st = false) : fdR xs st = 0 := if_neg (by simp [h])
theorem btR_yes {xs : List Road} {st : List Stay} {days : Int} (h : btB xs st days = true) : btR xs st days = btV xs st days := if_pos h
theorem btR_no {xs : List Road} {st : List Stay} {days : Int} (h : btB xs st days = false) : btR xs st days = 0 := if_neg (by simp [h])
theorem fdB_no {xs : List Road} {st : List Stay} (h : roadsB xs = false ∨ staysB st = false ∨ fdV xs st < 0) : fdB xs st = false := by
  unfold fdB
  rcases h with h | h | h
  · rw [h]; rfl
  · rw [h]; simp
  · rw [decide_eq_false (by omega)]; simp
theorem fdB_yes {xs : List Road} {st : List Stay} (h1 : roadsB xs = true) (h2 : staysB st = true) (h3 : 0 ≤ fdV xs st) : fdB xs st = true := by
  unfold fdB; rw [h1, h2, decide_eq_true h3]; rfl
theorem btB_no {xs : List Road} {st : List Stay} {days : Int} (h : roadsB xs = false ∨ staysB st = false ∨ inB days 0 1000 = false) : btB xs st days = false := by
  unfold btB
  rcases h with h | h | h
  · rw [h]; rfl
  · rw [h]; simp
  · rw [h]; simp
theorem btB_yes {xs : List Road} {st : List Stay} {days : Int} (h1 : roadsB xs = true) (h2 : staysB st = true) (h3 : inB days 0 1000 = true) : btB xs st days = true := by
  unfold btB; rw [h1, h2, h3]; rfl
end Go.Proofs.Ytgnnlgmeagipjaa
set_option linter.unusedVariables false
set_option linter.unusedSectionVars false
set_option linter.unusedSimpArgs false
namespace Go.Proofs.Ytgnnlgmeagipjaa
open Go Go.RowKit K

theorem daF_step {m : List Int} {st : List Stay} {l : List Int} {i : Int} : (daF m st (l ++ [i])).1 = (daF m st l).1 + g8 m (daF m st l).2.toNat (tw st i).toNat + dy st i ∧ (daF m st (l ++ [i])).2 = tw st i := by rw [daF_app]; exact ⟨rfl, rfl⟩
theorem OrdR.of {xs : List Road} {st : List Stay} (hR : OkR xs) (hs : staysB st = true) : ∀ (n : Nat) (l : List Int), l.length = n → l.Nodup → (∀ i ∈ l, 0 ≤ i ∧ i < (st.length : Int)) → (daF (ways (-1) xs) st l).1 < 1000000 → OrdR xs st l := by
  intro n
  induction n with
  | zero =>
    intro l hn _ _ _
    obtain rfl := List.length_eq_zero_iff.1 hn
    exact OrdR.nil xs st
  | succ n ih =>
    intro l hn nd rng hd
    rcases List.eq_nil_or_concat l with rfl | ⟨l', i, rfl⟩
    · simp at hn
    · rw [List.concat_eq_append] at *
      rw [daF_step.1] at hd
      have hg : 0 ≤ g8 (ways (-1) xs) (daF (ways (-1) xs) st l').2.toNat (tw st i).toNat := ((bd_ways (wo := -1) (rs := xs) hR.1).getD _).1
      have hdy := dy_bd hs i
      obtain ⟨h1, _, h3⟩ := List.nodup_append.1 nd
      have hi := rng i (by simp)
      have hl' := ih l' (by simpa using hn) h1 (fun j hj => rng j (by simp [hj])) (by omega)
      have h0 := hl'.d0
      have hc : ((i.toNat : Nat) : Int) = i := by omega
      have := OrdR.snoc hR hs hl' (k := i.toNat) (by omega) (decide_eq_false (by rw [hc]; exact fun hm => h3 i hm i (by simp) rfl)) (by rw [hc]; omega)
      rwa [hc] at this
theorem OrdR.small {xs : List Road} {st : List Stay} {l : List Int} (h : OrdR xs st l) (h7 : st.length ≤ 7) : (daF (ways (-1) xs) st l).1 ≤ 1680 := by
  have := h.len
  have := h.d1
  omega
theorem daF_pre {xs : List Road} {st : List Stay} (hR : OkR xs) (hs : staysB st = true) (l s : List Int) : (daF (ways (-1) xs) st l).1 ≤ (daF (ways (-1) xs) st (l ++ s)).1 := by
  have := daF_ge (bd_ways (wo := -1) (rs := xs) hR.1) hs (l ++ s) l.length
  rwa [List.take_left] at this
theorem OrdR.pre {xs : List Road} {st : List Stay} {l s : List Int} (hR : OkR xs) (hs : staysB st = true) (h7 : st.length ≤ 7) (h : OrdR xs st (l ++ s)) : OrdR xs st l := by
  have := daF_pre hR hs l s
  have := h.small h7
  exact OrdR.of hR hs _ l rfl (List.nodup_append.1 h.nd).1 (fun i hi => h.rng i (by simp [hi])) (by omega)

section
variable {xs : List Road} {st : List Stay} {tl : Int → Int → Int → Int → Int} (hR : OkR xs) (hs : staysB st = true) (h7 : st.length ≤ 7)
include hR hs
theorem trP_inv {Inv : Int → Prop} {R : List Int → Int → Int} (hRI : ∀ l v, OrdR xs st l → Inv v → Inv (R l v)) {l : List Int} {v : Int} (hl : OrdR xs st l) {k : Nat} (h0 : Inv (trP (ways (-1) xs) st tl R l v k)) : ∀ j, k + j ≤ st.length → Inv (trP (ways (-1) xs) st tl R l v (k + j))
  | 0, _ => h0
  | j + 1, hj => by
    have ih := trP_inv hRI hl h0 j (by omega)
    by_cases h1 : hasL l ((k + j : Nat) : Int) = true
    · rw [show k + (j + 1) = k + j + 1 from rfl, trP_skip (.inl h1)]; exact ih
    · by_cases h2 : 1000000 ≤ g8 (ways (-1) xs) (daF (ways (-1) xs) st l).2.toNat (tw st ((k + j : Nat) : Int)).toNat
      · rw [show k + (j + 1) = k + j + 1 from rfl, trP_skip (.inr h2)]; exact ih
      · rw [show k + (j + 1) = k + j + 1 from rfl, trP_go (by simpa using h1) (by omega)]
        exact hRI _ _ (OrdR.snoc hR hs hl (by omega) (by simpa using h1) (by omega)) ih
theorem trF_inv {Inv : Int → Prop} (hstep : ∀ l v, OrdR xs st l → Inv v → Inv (tl v (daF (ways (-1) xs) st l).1 (feeL st l) (l.length : Int))) {R : List Int → Int → Int} (hRI : ∀ l v, OrdR xs st l → Inv v → Inv (R l v)) {l : List Int} {v : Int} (hl : OrdR xs st l) (hv : Inv v) : Inv (trF (ways (-1) xs) st tl R l v) := by
  have := trP_inv (tl := tl) (k := 0) hR hs hRI hl (v := v) (hstep l v hl hv) st.length (by omega)
  rwa [Nat.zero_add] at this
theorem trO_inv {Inv : Int → Prop} (hstep : ∀ l v, OrdR xs st l → Inv v → Inv (tl v (daF (ways (-1) xs) st l).1 (feeL st l) (l.length : Int))) : ∀ (m : Nat) (l : List Int) (v : Int), OrdR xs st l → Inv v → Inv (trO (ways (-1) xs) st tl m l v)
  | 0, l, v, hl, hv => trF_inv hR hs hstep (fun _ _ _ h => h) hl hv
  | m + 1, l, v, hl, hv => trF_inv hR hs hstep (fun l v hl hv => trO_inv hstep m l v hl hv) hl hv
include h7
theorem trO_hit {Pr : Int → Prop} (hstep : ∀ l v, OrdR xs st l → Pr v → Pr (tl v (daF (ways (-1) xs) st l).1 (feeL st l) (l.length : Int))) {l0 : List Int} (hit : ∀ v, Pr (tl v (daF (ways (-1) xs) st l0).1 (feeL st l0) (l0.length : Int))) (h0 : OrdR xs st l0) :
    ∀ (m : Nat) (l s : List Int) (v : Int), l ++ s = l0 → s.length ≤ m → Pr (trO (ways (-1) xs) st tl m l v) := by
  intro m
  induction m with
  | zero =>
    intro l s v hls hm
    obtain rfl := List.length_eq_zero_iff.1 (show s.length = 0 by omega)
    rw [List.append_nil] at hls
    subst hls
    have := trP_inv (tl := tl) (Inv := Pr) (R := fun _ v => v) (k := 0) hR hs (fun _ _ _ h => h) h0 (v := v) (hit v) st.length (by omega)
    rw [Nat.zero_add] at this
    exact this
  | succ m ih =>
    intro l s v hls hm
    have hl : OrdR xs st l := OrdR.pre (s := s) hR hs h7 (by rw [hls]; exact h0)
    have hRI : ∀ l v, OrdR xs st l → Pr v → Pr (trO (ways (-1) xs) st tl m l v) := fun l v hl hv => trO_inv hR hs hstep m l v hl hv
    cases s with
    | nil =>
      rw [List.append_nil] at hls
      subst hls
      have := trP_inv (tl := tl) (k := 0) hR hs hRI h0 (v := v) (hit v) st.length (by omega)
      rw [Nat.zero_add] at this
      exact this
    | cons i s =>
      have hls' : (l ++ [i]) ++ s = l0 := by simpa using hls
      have hl2 : OrdR xs st (l ++ [i]) := OrdR.pre (s := s) hR hs h7 (by rw [hls']; exact h0)
      have hi := hl2.rng i (by simp)
      have hc : ((i.toNat : Nat) : Int) = i := by omega
      obtain ⟨_, _, h3⟩ := List.nodup_append.1 hl2.nd
      have hno : hasL l ((i.toNat : Nat) : Int) = false := decide_eq_false (by rw [hc]; exact fun hm => h3 i hm i (by simp) rfl)
      have hsm := hl2.small h7
      rw [daF_step.1] at hsm
      have := hl.d0
      have := dy_bd hs i
      have hgo := trP_go (st := st) (tl := tl) (R := trO (ways (-1) xs) st tl m) (v := v) hno (W := ways (-1) xs) (by rw [hc]; omega)
      have hp := ih (l ++ [i]) s (trP (ways (-1) xs) st tl (trO (ways (-1) xs) st tl m) l v i.toNat) hls' (by simp at hm; omega)
      rw [hc] at hgo
      rw [← hgo] at hp
      have := trP_inv (tl := tl) hR hs hRI hl hp (st.length - (i.toNat + 1)) (by omega)
      rw [show i.toNat + 1 + (st.length - (i.toNat + 1)) = st.length by omega] at this
      exact this
theorem fdV_some : fdV xs st = -1 ∨ ∃ l, OrdR xs st l ∧ l.length = st.length ∧ (daF (ways (-1) xs) st l).1 = fdV xs st := by
  refine trO_inv (tl := tlF st.length) (Inv := fun v => v = -1 ∨ ∃ l, OrdR xs st l ∧ l.length = st.length ∧ (daF (ways (-1) xs) st l).1 = v) hR hs (fun l v hl hv => ?_) st.length [] (-1) (OrdR.nil xs st) (.inl rfl)
  by_cases hc : (l.length : Int) = st.length ∧ (v < 0 ∨ (daF (ways (-1) xs) st l).1 < v)
  · rw [tlF_yes hc.1 hc.2]
    exact .inr ⟨l, hl, by omega, rfl⟩
  · rw [tlF_no (by omega)]
    exact hv
theorem fdV_le {l : List Int} (hl : OrdR xs st l) (hn : l.length = st.length) : 0 ≤ fdV xs st ∧ fdV xs st ≤ (daF (ways (-1) xs) st l).1 := by
  refine trO_hit (tl := tlF st.length) (Pr := fun v => 0 ≤ v ∧ v ≤ (daF (ways (-1) xs) st l).1) hR hs h7 (fun l' v hl' hv => ?_) (l0 := l) (fun v => ?_) hl st.length [] l (-1) rfl (by omega)
  · have := hl'.d0
    unfold tlF
    split <;> omega
  · have := hl.d0
    unfold tlF
    split <;> omega
theorem btV_some {days : Int} : btV xs st days = 0 ∨ ∃ l, OrdR xs st l ∧ (daF (ways (-1) xs) st l).1 ≤ days ∧ feeL st l = btV xs st days := by
  refine trO_inv (tl := tlB days) (Inv := fun v => v = 0 ∨ ∃ l, OrdR xs st l ∧ (daF (ways (-1) xs) st l).1 ≤ days ∧ feeL st l = v) hR hs (fun l v hl hv => ?_) st.length [] 0 (OrdR.nil xs st) (.inl rfl)
  by_cases hc : (daF (ways (-1) xs) st l).1 ≤ days
  · rw [tlB_yes hc]
    split
    · exact .inr ⟨l, hl, hc, rfl⟩
    · exact hv
  · rw [tlB_no hc]; exact hv
theorem btV_ge {days : Int} {l : List Int} (hl : OrdR xs st l) (hd : (daF (ways (-1) xs) st l).1 ≤ days) : feeL st l ≤ btV xs st days := by
  refine trO_hit (tl := tlB days) (Pr := fun v => feeL st l ≤ v) hR hs h7 (fun l' v hl' hv => ?_) (l0 := l) (fun v => ?_) hl st.length [] l 0 rfl (by have := hl.len; omega)
  · unfold tlB
    split
    · split <;> omega
    · exact hv
  · rw [tlB_yes hd]
    split <;> omega
end
end Go.Proofs.Ytgnnlgmeagipjaa
set_option linter.unusedVariables false
set_option linter.unusedSectionVars false
set_option linter.unusedSimpArgs false
namespace Go.Proofs.Ytgnnlgmeagipjaa
open Go Go.RowKit K

/-! ### Bits -/
theorem add_bit : ∀ b < 128, ∀ i < 7, b / 2 ^ i % 2 = 0 → b + 2 ^ i < 128 ∧ ∀ j < 7, (b + 2 ^ i) / 2 ^ j % 2 = if j = i then 1 else b / 2 ^ j % 2 := by decide +kernel
theorem sub_bit : ∀ b < 128, ∀ i < 7, b / 2 ^ i % 2 ≠ 0 → 2 ^ i ≤ b ∧ (b - 2 ^ i) / 2 ^ i % 2 = 0 := by decide +kernel
theorem bit_lt : ∀ n < 8, ∀ b < 128, (∀ j < 7, n ≤ j → b / 2 ^ j % 2 = 0) → b < 2 ^ n := by decide +kernel
theorem bit_hi : ∀ n < 8, ∀ b < 128, b < 2 ^ n → ∀ j < 7, n ≤ j → b / 2 ^ j % 2 = 0 := by decide +kernel
theorem bit_full : ∀ n < 8, ∀ b < 128, b < 2 ^ n → (∀ j < n, b / 2 ^ j % 2 = 1) → b = 2 ^ n - 1 := by decide +kernel
theorem full_bit : ∀ n < 8, ∀ j < n, (2 ^ n - 1) / 2 ^ j % 2 = 1 := by decide +kernel
theorem pow_le128 : ∀ n < 8, 2 ^ n ≤ 128 ∧ 1 ≤ 2 ^ n := by decide
def bitsO (l : List Int) : Nat := l.foldl (fun s i => s + 2 ^ i.toNat) 0
theorem bitsO_app (l : List Int) (i : Int) : bitsO (l ++ [i]) = bitsO l + 2 ^ i.toNat := by simp [bitsO, List.foldl_append]
/-- An order, whether there is a way or not. -/
structure Ord (n : Nat) (l : List Int) : Prop where
  nd : l.Nodup
  rng : ∀ i ∈ l, 0 ≤ i ∧ i < (n : Int)
theorem Ord.init {n : Nat} {l : List Int} {i : Int} (h : Ord n (l ++ [i])) : Ord n l ∧ i ∉ l ∧ 0 ≤ i ∧ i < n := by
  obtain ⟨h1, _, h3⟩ := List.nodup_append.1 h.nd
  exact ⟨⟨h1, fun j hj => h.rng j (by simp [hj])⟩, fun hm => h3 i hm i (by simp) rfl, h.rng i (by simp)⟩
theorem Ord.snoc {n : Nat} {l : List Int} {i : Int} (h : Ord n l) (hn : i ∉ l) (h0 : 0 ≤ i) (h1 : i < n) : Ord n (l ++ [i]) := by
  refine ⟨List.nodup_append.2 ⟨h.nd, by simp, fun a ha b hb => ?_⟩, fun j hj => ?_⟩
  · obtain rfl : b = i := by simpa using hb
    exact fun e => hn (e ▸ ha)
  · rcases List.mem_append.1 hj with hj | hj
    · exact h.rng j hj
    · obtain rfl : j = i := by simpa using hj
      exact ⟨h0, h1⟩
theorem bits_bit {n : Nat} (hn : n ≤ 7) : ∀ (m : Nat) (l : List Int), l.length = m → Ord n l → bitsO l < 128 ∧ ∀ j : Nat, j < 7 → bitsO l / 2 ^ j % 2 = if (j : Int) ∈ l then 1 else 0 := by
  intro m
  induction m with
  | zero =>
    intro l hl _
    obtain rfl := List.length_eq_zero_iff.1 hl
    exact ⟨by decide, by decide⟩
  | succ m ih =>
    intro l hl ho
    rcases List.eq_nil_or_concat l with rfl | ⟨l', i, rfl⟩
    · simp at hl
    · rw [List.concat_eq_append] at *
      obtain ⟨h1, h2, h3, h4⟩ := ho.init
      obtain ⟨hb, hj⟩ := ih l' (by simpa using hl) h1
      have hc : ((i.toNat : Nat) : Int) = i := by omega
      have hz := hj i.toNat (by omega)
      rw [hc, if_neg h2] at hz
      obtain ⟨a1, a2⟩ := add_bit _ hb i.toNat (by omega) hz
      rw [bitsO_app]
      refine ⟨a1, fun j hj7 => ?_⟩
      rw [a2 j hj7, hj j hj7]
      by_cases e : j = i.toNat
      · subst e; simp [hc]
      · have : (j : Int) ≠ i := by omega
        simp [e, this]
theorem Ord.bits {n : Nat} {l : List Int} (hn : n ≤ 7) (h : Ord n l) : bitsO l < 2 ^ n ∧ ∀ j : Nat, j < 7 → bitsO l / 2 ^ j % 2 = if (j : Int) ∈ l then 1 else 0 := by
  obtain ⟨h1, h2⟩ := bits_bit hn _ l rfl h
  refine ⟨bit_lt n (by omega) _ h1 fun j hj hnj => ?_, h2⟩
  rw [h2 j hj, if_neg]
  intro hm
  have := h.rng _ hm
  omega
theorem len_ge : ∀ (n : Nat) (l : List Int), (∀ j < n, (j : Int) ∈ l) → n ≤ l.length
  | 0, _, _ => Nat.zero_le _
  | n + 1, l, h => by
    have hm := h n (by omega)
    have := len_ge n (l.erase (n : Int)) (fun j hj => (List.mem_erase_of_ne (by omega)).2 (h j (by omega)))
    rw [List.length_erase_of_mem hm] at this
    have := List.length_pos_of_mem hm
    omega
theorem Ord.full {n : Nat} {l : List Int} (hn : n ≤ 7) (h : Ord n l) : l.length = n ↔ bitsO l = 2 ^ n - 1 := by
  obtain ⟨h1, h2⟩ := h.bits hn
  have hp := pow_le128 n (by omega)
  constructor
  · intro hl
    refine bit_full n (by omega) _ (by omega) h1 fun j hj => ?_
    rw [h2 j (by omega)]
    by_cases hm : (j : Int) ∈ l
    · rw [if_pos hm]
    · exfalso
      have ho := h.snoc hm (by omega) (by omega)
      have := pigeon n _ ho.nd ho.rng
      rw [List.length_append, List.length_singleton] at this
      omega
  · intro hb
    have h3 := pigeon n l h.nd h.rng
    have h4 := len_ge n l fun j hj => by
      have := full_bit n (by omega) j hj
      rw [← hb, h2 j (by omega)] at this
      by_cases hm : (j : Int) ∈ l
      · exact hm
      · rw [if_neg hm] at this; omega
    omega

/-! ### The table -/
section
variable (W : List Int) (st : List Stay)
def twN (st : List Stay) (i : Nat) : Nat := (tw st (i : Int)).toNat
def legH (out : List (List Int)) (rest i k : Nat) : Int := (out.getD rest []).getD k 0 + g8 W (twN st k) (twN st i) + dy st (i : Int)
def legP (out : List (List Int)) (rest i k : Nat) : Int := (List.range k).foldl (fun r q => imin r (legH W st out rest i q)) 1000000
def cellH (out : List (List Int)) (b i : Nat) : Int :=
  if b / 2 ^ i % 2 = 0 then 1000000
  else if b - 2 ^ i = 0 then imin 1000000 (g8 W 0 (twN st i) + dy st (i : Int))
  else legP W st out (b - 2 ^ i) i st.length
def rowH (out : List (List Int)) (b : Nat) : List Int := (List.range st.length).map (cellH W st out b)
def rowsH : Nat → List (List Int)
  | 0 => []
  | b + 1 => rowsH b ++ [rowH W st (rowsH b) b]
def tabH (b i : Nat) : Int := cellH W st (rowsH W st b) b i
end
section
variable {W : List Int} {st : List Stay}
theorem getD_of {α : Type} {l : List α} {i : Nat} {d v : α} (h : l[i]? = some v) : l.getD i d = v := by rw [List.getD_eq_getElem?_getD, h]; rfl
theorem rowsH_len : ∀ b, (rowsH W st b).length = b
  | 0 => rfl
  | b + 1 => by rw [rowsH, List.length_append, rowsH_len b]; rfl
theorem rowsH_get : ∀ (m b : Nat), b < m → (rowsH W st m)[b]? = some (rowH W st (rowsH W st b) b)
  | 0, b, h => by omega
  | m + 1, b, h => by
    rw [rowsH]
    by_cases hb : b < m
    · rw [List.getElem?_append_left (by rw [rowsH_len]; exact hb)]
      exact rowsH_get m b hb
    · obtain rfl : b = m := by omega
      rw [List.getElem?_append_right (by rw [rowsH_len]; exact Nat.le_refl _), rowsH_len, Nat.sub_self]; rfl
theorem rowH_get {out : List (List Int)} {b i : Nat} (hi : i < st.length) : (rowH W st out b)[i]? = some (cellH W st out b i) := by simp [rowH, hi]
theorem rowH_len {out : List (List Int)} {b : Nat} : (rowH W st out b).length = st.length := by simp [rowH]
theorem rows_cell {m b i : Nat} (hb : b < m) (hi : i < st.length) : ((rowsH W st m).getD b []).getD i 0 = tabH W st b i := by
  rw [getD_of (rowsH_get m b hb), getD_of (rowH_get hi)]; rfl
theorem legP_le (out : List (List Int)) (rest i : Nat) : ∀ (n k : Nat), k < n → legP W st out rest i n ≤ legH W st out rest i k
  | 0, k, h => by omega
  | n + 1, k, h => by
    unfold legP
    rw [List.range_succ, List.foldl_append]
    show imin (legP W st out rest i n) (legH W st out rest i n) ≤ _
    by_cases hk : k < n
    · have := legP_le out rest i n k hk
      unfold imin; split <;> omega
    · obtain rfl : k = n := by omega
      unfold imin; split <;> omega
theorem legP_some (out : List (List Int)) (rest i : Nat) : ∀ n, legP W st out rest i n = 1000000 ∨ ∃ k, k < n ∧ legP W st out rest i n = legH W st out rest i k
  | 0 => .inl rfl
  | n + 1 => by
    have ih := legP_some out rest i n
    unfold legP
    rw [List.range_succ, List.foldl_append]
    show imin (legP W st out rest i n) (legH W st out rest i n) = 1000000 ∨ ∃ k, k < n + 1 ∧ imin (legP W st out rest i n) (legH W st out rest i n) = _
    unfold imin
    split
    · first
      | (rcases ih with ih | ⟨k, hk, ih⟩
         · exact .inl ih
         · exact .inr ⟨k, by omega, ih⟩)
      | exact .inr ⟨n, by omega, rfl⟩
    · first
      | (rcases ih with ih | ⟨k, hk, ih⟩
         · exact .inl ih
         · exact .inr ⟨k, by omega, ih⟩)
      | exact .inr ⟨n, by omega, rfl⟩
theorem legP_cap (out : List (List Int)) (rest i : Nat) : ∀ n, legP W st out rest i n ≤ 1000000
  | 0 => Int.le_refl _
  | n + 1 => by
    have ih := legP_cap out rest i n
    unfold legP
    rw [List.range_succ, List.foldl_append]
    show imin (legP W st out rest i n) (legH W st out rest i n) ≤ _
    unfold imin; split <;> omega
theorem legP_congr {out out' : List (List Int)} {rest i : Nat} (n : Nat) (h : ∀ k, k < n → legH W st out rest i k = legH W st out' rest i k) : legP W st out rest i n = legP W st out' rest i n := by
  induction n with
  | zero => rfl
  | succ n ih =>
    unfold legP
    rw [List.range_succ, List.foldl_append, List.foldl_append]
    show imin (legP W st out rest i n) (legH W st out rest i n) = imin (legP W st out' rest i n) (legH W st out' rest i n)
    rw [ih fun k hk => h k (by omega), h n (by omega)]
theorem tabH_cap (b i : Nat) : tabH W st b i ≤ 1000000 := by
  unfold tabH cellH
  split
  · exact Int.le_refl _
  · split
    · unfold imin; split <;> omega
    · exact legP_cap _ _ _ _
theorem legH_tab {b i k : Nat} (hp : 0 < 2 ^ i) (hb : b - 2 ^ i ≠ 0) (hk : k < st.length) : legH W st (rowsH W st b) (b - 2 ^ i) i k = tabH W st (b - 2 ^ i) k + g8 W (twN st k) (twN st i) + dy st (i : Int) := by
  unfold legH
  rw [rows_cell (by omega) hk]
/-- What the table tells is the days of an order. -/
theorem tab_some (hW : ∀ a b, 0 ≤ g8 W a b) (hs : staysB st = true) (h7 : st.length ≤ 7) : ∀ (b : Nat), b < 2 ^ st.length → ∀ i, i < st.length → tabH W st b i < 1000000 → ∃ l, Ord st.length (l ++ [(i : Int)]) ∧ bitsO (l ++ [(i : Int)]) = b ∧ (daF W st (l ++ [(i : Int)])).1 = tabH W st b i := by
  intro b
  induction b using Nat.strongRecOn with
  | ind b ih =>
    intro hb i hi hlt
    have hp := pow_le128 st.length (by omega)
    have hdy := dy_bd hs (i : Int)
    have h2 : 0 < 2 ^ i := Nat.pow_pos (by decide)
    have hb0 : b / 2 ^ i % 2 ≠ 0 := by
      intro h
      unfold tabH cellH at hlt
      rw [if_pos h] at hlt
      omega
    obtain ⟨hle, hz⟩ := sub_bit b (by omega) i (by omega) hb0
    by_cases hr : b - 2 ^ i = 0
    · have e : tabH W st b i = imin 1000000 (g8 W 0 (twN st i) + dy st (i : Int)) := by unfold tabH cellH; rw [if_neg hb0, if_pos hr]
      refine ⟨[], ⟨by simp, fun j hj => ?_⟩, ?_, ?_⟩
      · obtain rfl : j = (i : Int) := by simpa using hj
        omega
      · rw [bitsO_app, Int.toNat_natCast]; show 0 + 2 ^ i = b; omega
      · rw [e] at hlt ⊢
        have h3 : (daF W st ([] ++ [(i : Int)])).1 = g8 W 0 (twN st i) + dy st (i : Int) := by
          rw [daF_step.1]
          show 0 + g8 W 0 (twN st i) + dy st (i : Int) = _
          omega
        rw [h3]
        unfold imin at hlt ⊢
        split at hlt <;> first | omega | (split <;> omega)
    · have e : tabH W st b i = legP W st (rowsH W st b) (b - 2 ^ i) i st.length := by unfold tabH cellH; rw [if_neg hb0, if_neg hr]
      rcases legP_some (W := W) (st := st) (rowsH W st b) (b - 2 ^ i) i st.length with h | ⟨k, hk, h⟩
      · rw [e, h] at hlt; omega
      · rw [legH_tab h2 hr hk] at h
        rw [e, h] at hlt ⊢
        have hg := hW (twN st k) (twN st i)
        obtain ⟨l, ho, hbits, hd⟩ := ih (b - 2 ^ i) (by omega) (by omega) k hk (by omega)
        have hn : (i : Int) ∉ l ++ [(k : Int)] := by
          intro hm
          have := (ho.bits h7).2 i (by omega)
          rw [if_pos hm, hbits] at this
          omega
        refine ⟨l ++ [(k : Int)], ho.snoc hn (by omega) (by omega), ?_, ?_⟩
        · rw [bitsO_app, hbits, Int.toNat_natCast]; omega
        · rw [daF_step.1, hd, daF_step.2]; rfl
/-- Every order counts in the table. -/
theorem tab_le (h7 : st.length ≤ 7) : ∀ (m : Nat) (l : List Int) (i : Nat), l.length = m → Ord st.length (l ++ [(i : Int)]) → tabH W st (bitsO (l ++ [(i : Int)])) i ≤ (daF W st (l ++ [(i : Int)])).1 := by
  intro m
  induction m with
  | zero =>
    intro l i hl ho
    obtain rfl := List.length_eq_zero_iff.1 hl
    have hi := ho.rng (i : Int) (by simp)
    have hb := (ho.bits h7).2 i (by omega)
    rw [if_pos (by simp)] at hb
    have e0 : bitsO ([] ++ [(i : Int)]) = 2 ^ i := by rw [bitsO_app, Int.toNat_natCast]; show 0 + 2 ^ i = _; omega
    rw [e0] at hb ⊢
    have e : tabH W st (2 ^ i) i = imin 1000000 (g8 W 0 (twN st i) + dy st (i : Int)) := by unfold tabH cellH; rw [if_neg (by omega), if_pos (by omega)]
    rw [e, daF_step.1]
    show _ ≤ 0 + g8 W 0 (twN st i) + dy st (i : Int)
    unfold imin; split <;> omega
  | succ m ih =>
    intro l i hl ho
    rcases List.eq_nil_or_concat l with rfl | ⟨l', q, rfl⟩
    · simp at hl
    · rw [List.concat_eq_append] at *
      have hi := ho.rng (i : Int) (by simp)
      obtain ⟨ho', hni, _, _⟩ := ho.init
      have hq := ho'.rng q (by simp)
      obtain ⟨k, rfl⟩ : ∃ k : Nat, q = (k : Int) := ⟨q.toNat, by omega⟩
      have hb := (ho.bits h7).2 i (by omega)
      rw [if_pos (by simp)] at hb
      have hih := ih l' k (by simpa using hl) ho'
      have h2 : 0 < 2 ^ i := Nat.pow_pos (by decide)
      have h2k : 0 < 2 ^ k := Nat.pow_pos (by decide)
      have e0 : bitsO ((l' ++ [(k : Int)]) ++ [(i : Int)]) = bitsO (l' ++ [(k : Int)]) + 2 ^ i := by rw [bitsO_app, Int.toNat_natCast]
      have e1 : bitsO (l' ++ [(k : Int)]) = bitsO l' + 2 ^ k := by rw [bitsO_app, Int.toNat_natCast]
      rw [e0] at hb ⊢
      have hr : bitsO (l' ++ [(k : Int)]) + 2 ^ i - 2 ^ i = bitsO (l' ++ [(k : Int)]) := by omega
      have hr0 : bitsO (l' ++ [(k : Int)]) + 2 ^ i - 2 ^ i ≠ 0 := by omega
      have e : tabH W st (bitsO (l' ++ [(k : Int)]) + 2 ^ i) i = legP W st (rowsH W st (bitsO (l' ++ [(k : Int)]) + 2 ^ i)) (bitsO (l' ++ [(k : Int)]) + 2 ^ i - 2 ^ i) i st.length := by unfold tabH cellH; rw [if_neg (by omega), if_neg hr0]
      rw [e]
      have hle := legP_le (W := W) (st := st) (rowsH W st (bitsO (l' ++ [(k : Int)]) + 2 ^ i)) (bitsO (l' ++ [(k : Int)]) + 2 ^ i - 2 ^ i) i st.length k (by omega)
      rw [legH_tab h2 hr0 (by omega), hr] at hle
      rw [hr]
      refine Int.le_trans hle ?_
      rw [(daF_step (l := l' ++ [(k : Int)])).1, (daF_step (l := l')).2]
      show _ ≤ (daF W st (l' ++ [(k : Int)])).1 + g8 W (twN st k) (twN st i) + dy st (i : Int)
      omega
end
end Go.Proofs.Ytgnnlgmeagipjaa
set_option linter.unusedVariables false
set_option linter.unusedSectionVars false
set_option linter.unusedSimpArgs false
namespace Go.Proofs.Ytgnnlgmeagipjaa
open Go Go.RowKit K

def minP (F : Nat → Int) (k : Nat) : Int := (List.range k).foldl (fun r q => imin r (F q)) 1000000
theorem minP_succ {F : Nat → Int} {k : Nat} : minP F (k + 1) = imin (minP F k) (F k) := by unfold minP; rw [List.range_succ, List.foldl_append]; rfl
theorem imin_or (a b : Int) : (imin a b = a ∧ a ≤ b) ∨ (imin a b = b ∧ b ≤ a) := by unfold imin; split <;> omega
theorem minP_cap (F : Nat → Int) : ∀ k, minP F k ≤ 1000000
  | 0 => Int.le_refl _
  | k + 1 => by
    have ih := minP_cap F k
    have := imin_or (minP F k) (F k)
    rw [minP_succ]; omega
theorem minP_le (F : Nat → Int) : ∀ n k, k < n → minP F n ≤ F k
  | 0, k, h => by omega
  | n + 1, k, h => by
    have := imin_or (minP F n) (F n)
    rw [minP_succ]
    by_cases hk : k < n
    · have := minP_le F n k hk; omega
    · obtain rfl : k = n := by omega
      omega
theorem minP_some (F : Nat → Int) : ∀ n, minP F n = 1000000 ∨ ∃ k, k < n ∧ minP F n = F k
  | 0 => .inl rfl
  | n + 1 => by
    rw [minP_succ]
    rcases imin_or (minP F n) (F n) with ⟨h, _⟩ | ⟨h, _⟩
    · rw [h]
      rcases minP_some F n with ih | ⟨k, hk, ih⟩
      · exact .inl ih
      · exact .inr ⟨k, by omega, ih⟩
    · exact .inr ⟨n, by omega, h⟩
theorem legP_min {W : List Int} {st : List Stay} {out : List (List Int)} {rest i k : Nat} : legP W st out rest i k = minP (legH W st out rest i) k := rfl

section
variable {xs : List Road} {st : List Stay} (hR : OkR xs) (hs : staysB st = true) (h7 : st.length ≤ 7)
include hR
theorem ways_nn (a b : Nat) : 0 ≤ g8 (ways (-1) xs) a b := ((bd_ways (wo := -1) (rs := xs) hR.1).getD _).1
include hs h7
theorem tab_ord {b i : Nat} (hb : b < 2 ^ st.length) (hi : i < st.length) (hl : tabH (ways (-1) xs) st b i < 1000000) : ∃ l, OrdR xs st l ∧ bitsO l = b ∧ (daF (ways (-1) xs) st l).1 = tabH (ways (-1) xs) st b i := by
  obtain ⟨l, ho, hbits, hd⟩ := tab_some (W := ways (-1) xs) (ways_nn hR) hs h7 b hb i hi hl
  exact ⟨l ++ [(i : Int)], OrdR.of hR hs _ _ rfl ho.nd ho.rng (by rw [hd]; exact hl), hbits, hd⟩
theorem ord_tab {l : List Int} (h : OrdR xs st l) (hne : l ≠ []) : ∃ i, i < st.length ∧ bitsO l < 2 ^ st.length ∧ tabH (ways (-1) xs) st (bitsO l) i ≤ (daF (ways (-1) xs) st l).1 := by
  rcases List.eq_nil_or_concat l with rfl | ⟨l', q, rfl⟩
  · exact absurd rfl hne
  · rw [List.concat_eq_append] at *
    have ho : Ord st.length (l' ++ [q]) := ⟨h.nd, h.rng⟩
    have hq := ho.rng q (by simp)
    obtain ⟨k, rfl⟩ : ∃ k : Nat, q = (k : Int) := ⟨q.toNat, by omega⟩
    exact ⟨k, by omega, (ho.bits h7).1, tab_le h7 _ l' k rfl ho⟩
theorem fd_yes (h0 : 0 < st.length) (hl : minP (tabH (ways (-1) xs) st (2 ^ st.length - 1)) st.length < 1000000) : 0 ≤ fdV xs st ∧ minP (tabH (ways (-1) xs) st (2 ^ st.length - 1)) st.length = fdV xs st := by
  have hp := pow_le128 st.length (by omega)
  rcases minP_some (tabH (ways (-1) xs) st (2 ^ st.length - 1)) st.length with h | ⟨i, hi, h⟩
  · omega
  · obtain ⟨l, hlo, hb, hd⟩ := tab_ord hR hs h7 (b := 2 ^ st.length - 1) (by omega) hi (by omega)
    have hlen := (Ord.full h7 ⟨hlo.nd, hlo.rng⟩).2 hb
    have h1 := fdV_le hR hs h7 hlo hlen
    rcases fdV_some hR hs h7 with h2 | ⟨l2, hl2, hn2, hd2⟩
    · omega
    · obtain ⟨i2, hi2, _, ht2⟩ := ord_tab hR hs h7 hl2 (by intro e; subst e; simp at hn2; omega)
      rw [(Ord.full h7 ⟨hl2.nd, hl2.rng⟩).1 hn2] at ht2
      have := minP_le (tabH (ways (-1) xs) st (2 ^ st.length - 1)) st.length i2 hi2
      omega
theorem fd_none (h0 : 0 < st.length) (hl : 1000000 ≤ minP (tabH (ways (-1) xs) st (2 ^ st.length - 1)) st.length) : fdV xs st < 0 := by
  rcases fdV_some hR hs h7 with h2 | ⟨l2, hl2, hn2, hd2⟩
  · omega
  · obtain ⟨i2, hi2, _, ht2⟩ := ord_tab hR hs h7 hl2 (by intro e; subst e; simp at hn2; omega)
    rw [(Ord.full h7 ⟨hl2.nd, hl2.rng⟩).1 hn2] at ht2
    have := minP_le (tabH (ways (-1) xs) st (2 ^ st.length - 1)) st.length i2 hi2
    have := hl2.small h7
    omega
theorem fd_zero (h0 : st.length = 0) : fdV xs st = 0 := by
  have h1 := fdV_le hR hs h7 (OrdR.nil xs st) (by simp [h0])
  have : (daF (ways (-1) xs) st []).1 = 0 := rfl
  omega
end

/-! ### Fees -/
def feesP (st : List Stay) (b k : Nat) : Int := (List.range k).foldl (fun s (i : Nat) => if b / 2 ^ i % 2 = 1 then s + fe st (i : Int) else s) 0
theorem feesP_succ {st : List Stay} {b k : Nat} : feesP st b (k + 1) = if b / 2 ^ k % 2 = 1 then feesP st b k + fe st (k : Int) else feesP st b k := by unfold feesP; rw [List.range_succ, List.foldl_append]; rfl
theorem feesP_add (st : List Stay) {b i : Nat} (hb : b < 128) (hi : i < 7) (hz : b / 2 ^ i % 2 = 0) : ∀ k, k ≤ 7 → feesP st (b + 2 ^ i) k = feesP st b k + if i < k then fe st (i : Int) else 0
  | 0, _ => by rw [if_neg (by omega)]; rfl
  | k + 1, hk => by
    have ih := feesP_add st hb hi hz k (by omega)
    have ha := (add_bit b hb i hi hz).2 k (by omega)
    rw [feesP_succ, feesP_succ, ih, ha]
    by_cases e : k = i
    · subst e
      rw [if_pos rfl, if_pos rfl, if_neg (by omega), if_neg (by omega), if_pos (by omega)]; omega
    · rw [if_neg e] at ha
      clear ih
      have hik : (if i < k + 1 then fe st (i : Int) else 0) = if i < k then fe st (i : Int) else 0 := by
        by_cases h : i < k
        · rw [if_pos h, if_pos (by omega)]
        · rw [if_neg h, if_neg (by omega)]
      rw [if_neg e, hik]
      generalize (if i < k then fe st (i : Int) else 0) = z
      by_cases hbk : b / 2 ^ k % 2 = 1
      · rw [if_pos hbk, if_pos hbk]; omega
      · rw [if_neg hbk, if_neg hbk]
theorem feesP_zero (st : List Stay) : ∀ k, feesP st 0 k = 0
  | 0 => rfl
  | k + 1 => by rw [feesP_succ, feesP_zero st k, if_neg (by simp)]
theorem feeL_bits {st : List Stay} (h7 : st.length ≤ 7) : ∀ (m : Nat) (l : List Int), l.length = m → Ord st.length l → feeL st l = feesP st (bitsO l) st.length := by
  intro m
  induction m with
  | zero =>
    intro l hl _
    obtain rfl := List.length_eq_zero_iff.1 hl
    exact (feesP_zero st _).symm
  | succ m ih =>
    intro l hl ho
    rcases List.eq_nil_or_concat l with rfl | ⟨l', i, rfl⟩
    · simp at hl
    · rw [List.concat_eq_append] at *
      obtain ⟨h1, h2, h3, h4⟩ := ho.init
      obtain ⟨hb, hj⟩ := h1.bits h7
      have hp := pow_le128 st.length (by omega)
      have hc : ((i.toNat : Nat) : Int) = i := by omega
      have hz := hj i.toNat (by omega)
      rw [hc, if_neg h2] at hz
      rw [feeL_app, bitsO_app, feesP_add st (by omega) (by omega) hz st.length h7, if_pos (by omega), hc, ih l' (by simpa using hl) h1]
theorem feesP_bd {st : List Stay} (hs : staysB st = true) (b : Nat) : ∀ k, 0 ≤ feesP st b k ∧ feesP st b k ≤ 1000 * (k : Int)
  | 0 => ⟨Int.le_refl 0, Int.le_refl 0⟩
  | k + 1 => by
    have ih := feesP_bd hs b k
    have := fe_bd hs (k : Int)
    rw [feesP_succ]
    split <;> omega

def bestS (W : List Int) (st : List Stay) (days v : Int) (b : Nat) : Int := if minP (tabH W st b) st.length ≤ days then (if v < feesP st b st.length then feesP st b st.length else v) else v
def bestP (W : List Int) (st : List Stay) (days : Int) (k : Nat) : Int := (List.range k).foldl (bestS W st days) 0
theorem bestP_succ {W : List Int} {st : List Stay} {days : Int} {k : Nat} : bestP W st days (k + 1) = bestS W st days (bestP W st days k) k := by unfold bestP; rw [List.range_succ, List.foldl_append]; rfl
theorem bestP_yes {W : List Int} {st : List Stay} {days : Int} {k : Nat} (h : minP (tabH W st k) st.length ≤ days) : bestP W st days (k + 1) = if bestP W st days k < feesP st k st.length then feesP st k st.length else bestP W st days k := by rw [bestP_succ, bestS, if_pos h]
theorem bestP_no {W : List Int} {st : List Stay} {days : Int} {k : Nat} (h : ¬ minP (tabH W st k) st.length ≤ days) : bestP W st days (k + 1) = bestP W st days k := by rw [bestP_succ, bestS, if_neg h]
theorem bestP_ge (W : List Int) (st : List Stay) (days : Int) : ∀ n, 0 ≤ bestP W st days n ∧ ∀ b, b < n → minP (tabH W st b) st.length ≤ days → feesP st b st.length ≤ bestP W st days n
  | 0 => ⟨Int.le_refl 0, fun b hb => by omega⟩
  | n + 1 => by
    obtain ⟨h1, h2⟩ := bestP_ge W st days n
    rw [bestP_succ, bestS]
    refine ⟨by split <;> (try split) <;> omega, fun b hb hd => ?_⟩
    by_cases e : b < n
    · have := h2 b e hd
      split <;> (try split) <;> omega
    · obtain rfl : b = n := by omega
      rw [if_pos hd]; split <;> omega
theorem bestP_some (W : List Int) (st : List Stay) (days : Int) : ∀ n, bestP W st days n = 0 ∨ ∃ b, b < n ∧ minP (tabH W st b) st.length ≤ days ∧ bestP W st days n = feesP st b st.length
  | 0 => .inl rfl
  | n + 1 => by
    have ih : bestP W st days n = 0 ∨ ∃ b, b < n + 1 ∧ minP (tabH W st b) st.length ≤ days ∧ bestP W st days n = feesP st b st.length := by
      rcases bestP_some W st days n with ih | ⟨b, hb, h1, h2⟩
      · exact .inl ih
      · exact .inr ⟨b, by omega, h1, h2⟩
    by_cases hd : minP (tabH W st n) st.length ≤ days
    · rw [bestP_yes hd]
      split
      · exact .inr ⟨n, by omega, hd, rfl⟩
      · exact ih
    · rw [bestP_no hd]; exact ih
theorem bt_ref {xs : List Road} {st : List Stay} (hR : OkR xs) (hs : staysB st = true) (h7 : st.length ≤ 7) {days : Int} (h0 : 0 ≤ days) (h1 : days ≤ 1000) : bestP (ways (-1) xs) st days (2 ^ st.length) = btV xs st days := by
  have hnil := btV_ge hR hs h7 (days := days) (OrdR.nil xs st) (by show (0 : Int) ≤ days; exact h0)
  have hn0 : feeL st [] = 0 := rfl
  obtain ⟨hb0, hbg⟩ := bestP_ge (ways (-1) xs) st days (2 ^ st.length)
  have hle : bestP (ways (-1) xs) st days (2 ^ st.length) ≤ btV xs st days := by
    rcases bestP_some (ways (-1) xs) st days (2 ^ st.length) with h | ⟨b, hb, hd, h⟩
    · omega
    · rcases minP_some (tabH (ways (-1) xs) st b) st.length with hm | ⟨i, hi, hm⟩
      · omega
      · obtain ⟨l, hlo, hbits, hdl⟩ := tab_ord hR hs h7 hb hi (by omega)
        have := btV_ge hR hs h7 (days := days) hlo (by omega)
        rw [feeL_bits h7 _ l rfl ⟨hlo.nd, hlo.rng⟩, hbits] at this
        omega
  have hge : btV xs st days ≤ bestP (ways (-1) xs) st days (2 ^ st.length) := by
    rcases btV_some hR hs h7 (days := days) with h | ⟨l, hlo, hd, hf⟩
    · omega
    · by_cases hne : l = []
      · subst hne; omega
      · obtain ⟨i, hi, hb, ht⟩ := ord_tab hR hs h7 hlo hne
        have := minP_le (tabH (ways (-1) xs) st (bitsO l)) st.length i hi
        have := hbg (bitsO l) hb (by omega)
        rw [← feeL_bits h7 _ l rfl ⟨hlo.nd, hlo.rng⟩] at this
        omega
  omega
end Go.Proofs.Ytgnnlgmeagipjaa
set_option linter.unusedVariables false
set_option linter.unusedSectionVars false
set_option linter.unusedSimpArgs false
namespace Go.Proofs.Ytgnnlgmeagipjaa
open Go Go.RowKit K

abbrev vls (l : List Value) : List Value := l
theorem vls_append (a b : List Value) : vls (a ++ b) = vls a ++ vls b := rfl
theorem vls_get {l pad : List Value} {j o : Nat} {v : Value} (h : l[j]? = some v) (e : o = j) : (vls l ++ pad)[o]? = some v := by
  subst e
  rw [List.getElem?_append_left (List.getElem?_eq_some_iff.1 h).1]; exact h
theorem set_get {xs : List Int} {p o : Nat} {v : Int} (h : p < xs.length) (e : o = p) : (ints (xs.set p v))[o]? = some (.int .i64 v) := by
  subst e
  rw [intsGet (p := o) (by rw [List.length_set]; exact h) rfl, List.getD_eq_getElem?_getD, List.getElem?_set_self h]; rfl
theorem flat_zero (n : Nat) : (List.replicate n [Value.int .i64 0]).flatten = ints (List.replicate n 0) := by
  induction n with
  | zero => rfl
  | succ n ih => rw [List.replicate_succ, List.replicate_succ, List.flatten_cons, ih]; rfl

/-! ### The ways from each stay; the newest first -/
def wVals (r : List (Nat × Nat × List Value)) : List Value := (r.map fun p => Value.slice (some ⟨p.1, 0, none⟩) 8 p.2.1).reverse
theorem wVals_cons (p : Nat × Nat × List Value) (r : List (Nat × Nat × List Value)) : wVals (p :: r) = wVals r ++ [Value.slice (some ⟨p.1, 0, none⟩) 8 p.2.1] := by simp [wVals]
theorem wVals_len (r : List (Nat × Nat × List Value)) : (wVals r).length = r.length := by simp [wVals]
def wEnts (T : TypeId) (xs : List Road) (st : List Stay) : List (Nat × Nat × List Value) → List Ent
  | [] => []
  | p :: r => (some p.1, T, ints (bfE (-1) xs (twN st r.length)) ++ p.2.2) :: wEnts T xs st r
theorem wEnts_get {T : TypeId} {xs : List Road} {st : List Stay} : ∀ (r : List (Nat × Nat × List Value)) (i : Nat) (p : Nat × Nat × List Value), r[i]? = some p → (wEnts T xs st r)[i]? = some (some p.1, T, ints (bfE (-1) xs (twN st (r.length - 1 - i))) ++ p.2.2)
  | [], i, p, h => by simp at h
  | q :: r, 0, p, h => by
    obtain rfl : q = p := by simpa using h
    show some _ = _
    rw [show (q :: r).length - 1 - 0 = r.length by simp]
  | q :: r, i + 1, p, h => by
    have hr : r[i]? = some p := by simpa using h
    have hi := (List.getElem?_eq_some_iff.1 hr).1
    show (wEnts T xs st r)[i]? = _
    rw [wEnts_get r i p hr, show (q :: r).length - 1 - (i + 1) = r.length - 1 - i by simp; omega]
theorem wGet {T : TypeId} {xs : List Road} {st : List Stay} {r : List (Nat × Nat × List Value)} {j : Nat} (h : j < r.length) : ∃ p : Nat × Nat × List Value, (wVals r)[j]? = some (.slice (some ⟨p.1, 0, none⟩) 8 p.2.1) ∧ (wEnts T xs st r)[r.length - 1 - j]? = some (some p.1, T, ints (bfE (-1) xs (twN st j)) ++ p.2.2) := by
  have hx := getLt (show r.length - 1 - j < r.length by omega)
  refine ⟨r[r.length - 1 - j], ?_, ?_⟩
  · unfold wVals
    rw [List.getElem?_reverse (by simpa using h), List.length_map, List.getElem?_map, hx]; rfl
  · rw [wEnts_get r _ _ hx, show r.length - 1 - (r.length - 1 - j) = j by omega]

/-! ### The table's rows; the newest first -/
def oVals (n : Nat) (r : List Nat) : List Value := (r.map fun b => Value.slice (some ⟨b, 0, none⟩) n n).reverse
theorem oVals_cons (n b : Nat) (r : List Nat) : oVals n (b :: r) = oVals n r ++ [Value.slice (some ⟨b, 0, none⟩) n n] := by simp [oVals]
theorem oVals_len (n : Nat) (r : List Nat) : (oVals n r).length = r.length := by simp [oVals]
def oEnts (T : TypeId) (W : List Int) (st : List Stay) : List Nat → List Ent
  | [] => []
  | b :: r => (some b, T, ints (rowH W st (rowsH W st r.length) r.length)) :: oEnts T W st r
theorem oEnts_len {T : TypeId} {W : List Int} {st : List Stay} : ∀ r, (oEnts T W st r).length = r.length
  | [] => rfl
  | b :: r => by rw [oEnts, List.length_cons, oEnts_len r]; rfl
theorem oEnts_get {T : TypeId} {W : List Int} {st : List Stay} : ∀ (r : List Nat) (i b : Nat), r[i]? = some b → (oEnts T W st r)[i]? = some (some b, T, ints (rowH W st (rowsH W st (r.length - 1 - i)) (r.length - 1 - i)))
  | [], i, p, h => by simp at h
  | q :: r, 0, p, h => by
    obtain rfl : q = p := by simpa using h
    show some _ = _
    rw [show (q :: r).length - 1 - 0 = r.length by simp]
  | q :: r, i + 1, p, h => by
    have hr : r[i]? = some p := by simpa using h
    have hi := (List.getElem?_eq_some_iff.1 hr).1
    show (oEnts T W st r)[i]? = _
    rw [oEnts_get r i p hr, show (q :: r).length - 1 - (i + 1) = r.length - 1 - i by simp; omega]
theorem oGet {T : TypeId} {W : List Int} {st : List Stay} {r : List Nat} {j : Nat} (n : Nat) (h : j < r.length) : ∃ b : Nat, (oVals n r)[j]? = some (.slice (some ⟨b, 0, none⟩) n n) ∧ (oEnts T W st r)[r.length - 1 - j]? = some (some b, T, ints (rowH W st (rowsH W st j) j)) := by
  have hx := getLt (show r.length - 1 - j < r.length by omega)
  refine ⟨r[r.length - 1 - j], ?_, ?_⟩
  · unfold oVals
    rw [List.getElem?_reverse (by simpa using h), List.length_map, List.getElem?_map, hx]; rfl
  · rw [oEnts_get r _ _ hx, show r.length - 1 - (r.length - 1 - j) = j by omega]
theorem tailO {A B : List Ent} {q : Nat} {e : Ent} (h : A[q]? = some e) : (A ++ B)[q]? = some e := by
  rw [List.getElem?_append_left (List.getElem?_eq_some_iff.1 h).1]; exact h
theorem tailW {A B : List Ent} {q m : Nat} {e : Ent} (h : B[q]? = some e) (hm : A.length = m) : (A ++ B)[q + m]? = some e := by
  rw [List.getElem?_append_right (by omega), show q + m - A.length = q by omega]; exact h

/-! ### A row that is being filled -/
def rI (W : List Int) (st : List Stay) (b i : Nat) : List Int := (List.range i).map (cellH W st (rowsH W st b) b) ++ List.replicate (st.length - i) 0
section
variable {W : List Int} {st : List Stay} {b : Nat}
theorem rI_len {i : Nat} (h : i ≤ st.length) : (rI W st b i).length = st.length := by simp [rI]; omega
theorem rI_zero : rI W st b 0 = List.replicate st.length 0 := by simp [rI]
theorem rI_end : rI W st b st.length = rowH W st (rowsH W st b) b := by simp [rI, rowH]
theorem rI_set {i : Nat} (h : i < st.length) : (rI W st b i).set i (cellH W st (rowsH W st b) b i) = rI W st b (i + 1) := by
  unfold rI
  rw [List.set_append_right _ _ (by simp), List.length_map, List.length_range, Nat.sub_self, List.range_succ, List.map_append, List.append_assoc]
  congr 1
  rw [show st.length - i = (st.length - (i + 1)) + 1 by omega, List.replicate_succ]; rfl
theorem rI_no {i : Nat} {v : Int} (h : i < st.length) (hb : b / 2 ^ i % 2 = 0) (hv : v = 1000000) : (rI W st b i).set i v = rI W st b (i + 1) := by
  rw [← rI_set h, show cellH W st (rowsH W st b) b i = 1000000 from by unfold cellH; rw [if_pos hb], hv]
theorem rI_one {i : Nat} {u v : Int} (h : i < st.length) (hb : b / 2 ^ i % 2 ≠ 0) (hr : b - 2 ^ i = 0) (hv : v = imin 1000000 (g8 W 0 (twN st i) + dy st (i : Int))) : ((rI W st b i).set i u).set i v = rI W st b (i + 1) := by
  rw [List.set_set, ← rI_set h, show cellH W st (rowsH W st b) b i = _ from by unfold cellH; rw [if_neg hb, if_pos hr], hv]
theorem rI_leg {i : Nat} (h : i < st.length) (hb : b / 2 ^ i % 2 ≠ 0) (hr : b - 2 ^ i ≠ 0) : (rI W st b i).set i (legP W st (rowsH W st b) (b - 2 ^ i) i st.length) = rI W st b (i + 1) := by
  rw [← rI_set h, show cellH W st (rowsH W st b) b i = _ from by unfold cellH; rw [if_neg hb, if_neg hr]]
theorem leg_next {i k : Nat} (hr : b - 2 ^ i ≠ 0) (hk : k < st.length) : legP W st (rowsH W st b) (b - 2 ^ i) i (k + 1) = imin (legP W st (rowsH W st b) (b - 2 ^ i) i k) (tabH W st (b - 2 ^ i) k + g8 W (twN st k) (twN st i) + dy st (i : Int)) := by
  rw [← legH_tab (Nat.pow_pos (by decide)) hr hk]
  unfold legP
  rw [List.range_succ, List.foldl_append]; rfl
theorem row_cell {j k o : Nat} (hk : k < st.length) (ho : o = k) : (ints (rowH W st (rowsH W st j) j))[o]? = some (.int .i64 (tabH W st j k)) := by
  subst ho
  rw [ints_get (rowH_get hk)]; rfl
theorem minP_nn {F : Nat → Int} (h : ∀ k, 0 ≤ F k) : ∀ n, 0 ≤ minP F n
  | 0 => (by show (0 : Int) ≤ 1000000; decide)
  | n + 1 => by
    have := minP_nn h n
    have := h n
    have := imin_or (minP F n) (F n)
    rw [minP_succ]; omega
theorem leg_nn (hW : ∀ a b, 0 ≤ g8 W a b) (hs : staysB st = true) {out : List (List Int)} (ho : ∀ a k, 0 ≤ (out.getD a []).getD k 0) (rest i k : Nat) : 0 ≤ legP W st out rest i k := by
  rw [legP_min]
  refine minP_nn (fun q => ?_) k
  unfold legH
  have := ho rest q
  have := hW (twN st q) (twN st i)
  have := dy_bd hs (i : Int)
  omega
theorem cell_nn (hW : ∀ a b, 0 ≤ g8 W a b) (hs : staysB st = true) {out : List (List Int)} (ho : ∀ a k, 0 ≤ (out.getD a []).getD k 0) (b i : Nat) : 0 ≤ cellH W st out b i := by
  unfold cellH
  split
  · decide
  · split
    · have := hW 0 (twN st i)
      have := dy_bd hs (i : Int)
      have := imin_or 1000000 (g8 W 0 (twN st i) + dy st (i : Int))
      omega
    · exact leg_nn hW hs ho _ _ _
theorem rows_nn (hW : ∀ a b, 0 ≤ g8 W a b) (hs : staysB st = true) : ∀ (m a k : Nat), 0 ≤ ((rowsH W st m).getD a []).getD k 0
  | 0, a, k => by simp [rowsH]
  | m + 1, a, k => by
    rw [rowsH, List.getD_eq_getElem?_getD (l := rowsH W st m ++ _)]
    by_cases ha : a < m
    · rw [List.getElem?_append_left (by rw [rowsH_len]; exact ha), ← List.getD_eq_getElem?_getD]
      exact rows_nn hW hs m a k
    · by_cases hm : a = m
      · subst hm
        rw [List.getElem?_append_right (by rw [rowsH_len]; exact Nat.le_refl _), rowsH_len, Nat.sub_self]
        show 0 ≤ (rowH W st (rowsH W st a) a).getD k 0
        by_cases hk : k < st.length
        · rw [getD_of (rowH_get hk)]
          exact cell_nn hW hs (rows_nn hW hs a) _ _
        · rw [List.getD_eq_getElem?_getD, List.getElem?_eq_none (by rw [rowH_len]; omega)]; decide
      · rw [List.getElem?_eq_none (by rw [List.length_append, rowsH_len, List.length_singleton]; omega)]; simp
theorem tab_nn (hW : ∀ a b, 0 ≤ g8 W a b) (hs : staysB st = true) (b i : Nat) : 0 ≤ tabH W st b i := cell_nn hW hs (rows_nn hW hs b) _ _
end
end Go.Proofs.Ytgnnlgmeagipjaa
set_option linter.unusedVariables false
set_option linter.unusedSectionVars false
set_option linter.unusedSimpArgs false
namespace Go.Proofs.Ytgnnlgmeagipjaa
open Go Go.RowKit K

theorem daB_ord {xs : List Road} {st : List Stay} {l : List Int} (h : daB xs st l = true) : OkR xs ∧ staysB st = true ∧ st.length ≤ 7 ∧ OrdR xs st l := by
  unfold daB at h
  simp only [Bool.and_eq_true, decide_eq_true_eq] at h
  obtain ⟨⟨⟨h1, h2⟩, h3⟩, h4⟩ := h
  have hR := roads_ok h1
  obtain ⟨h5, h6⟩ := okI_nodup l.length (Nat.le_refl _) (fun j hj => List.all_eq_true.1 h3 j (List.mem_range.2 hj))
  rw [List.take_length] at h5 h6
  exact ⟨hR, h2, listB_len h2, OrdR.of hR h2 _ l rfl h5 h6 h4⟩
theorem fd_least {xs : List Road} {st : List Stay} {l : List Int} (h : daB xs st l = true) (hl : (l.length : Int) = st.length) : fdB xs st = true ∧ fdR xs st ≤ daR xs st l := by
  obtain ⟨hR, hs, h7, ho⟩ := daB_ord h
  have h1 := fdV_le hR hs h7 ho (by omega)
  have hrB : roadsB xs = true := by unfold daB at h; simp only [Bool.and_eq_true] at h; exact h.1.1.1
  have hb := fdB_yes hrB hs h1.1
  rw [fdR_yes hb, daR_yes h]
  exact ⟨hb, h1.2⟩
/-- All the fees of the first k stays. -/
def feeT (st : List Stay) (k : Nat) : Int := (List.range k).foldl (fun s (i : Nat) => s + fe st (i : Int)) 0
theorem feeT_succ {st : List Stay} {k : Nat} : feeT st (k + 1) = feeT st k + fe st (k : Int) := by unfold feeT; rw [List.range_succ, List.foldl_append]; rfl
theorem feeT_bd {st : List Stay} (hs : staysB st = true) : ∀ k : Nat, 0 ≤ feeT st k ∧ feeT st k ≤ 1000 * (k : Int)
  | 0 => ⟨Int.le_refl 0, Int.le_refl 0⟩
  | k + 1 => by
    have ih := feeT_bd hs k
    have := fe_bd hs (k : Int)
    rw [feeT_succ]; omega
theorem feesP_le {st : List Stay} (hs : staysB st = true) (b : Nat) : ∀ k, feesP st b k ≤ feeT st k
  | 0 => Int.le_refl 0
  | k + 1 => by
    have ih := feesP_le hs b k
    have := fe_bd hs (k : Int)
    rw [feesP_succ, feeT_succ]
    split <;> omega
theorem feesP_all {st : List Stay} {b : Nat} : ∀ k, (∀ j, j < k → b / 2 ^ j % 2 = 1) → feesP st b k = feeT st k
  | 0, _ => rfl
  | k + 1, h => by rw [feesP_succ, feeT_succ, if_pos (h k (by omega)), feesP_all k fun j hj => h j (by omega)]
theorem bt_all {xs : List Road} {st : List Stay} (hf : fdB xs st = true) (hb : btB xs st (fdR xs st) = true) : btR xs st (fdR xs st) = feeT st st.length := by
  rw [btR_yes hb]
  have hf' := hf
  unfold fdB at hf'
  simp only [Bool.and_eq_true, decide_eq_true_eq] at hf'
  obtain ⟨⟨h1, h2⟩, h3⟩ := hf'
  have hR := roads_ok h1
  have h7 : st.length ≤ 7 := listB_len h2
  have hT := feeT_bd h2 st.length
  have key : ∀ l, OrdR xs st l → feeL st l = feesP st (bitsO l) st.length := fun l hl => feeL_bits h7 _ l rfl ⟨hl.nd, hl.rng⟩
  rcases fdV_some hR h2 h7 with h | ⟨l, hl, hn, hd⟩
  · omega
  · have hge := btV_ge hR h2 h7 (days := fdR xs st) hl (by rw [fdR_yes hf, hd]; exact Int.le_refl _)
    have hfull : feeL st l = feeT st st.length := by
      rw [key l hl, (Ord.full h7 ⟨hl.nd, hl.rng⟩).1 hn]
      exact feesP_all _ fun j hj => full_bit st.length (by omega) j hj
    rcases btV_some hR h2 h7 (days := fdR xs st) with h | ⟨l2, hl2, _, hf2⟩
    · have := hl.f0; omega
    · have := feesP_le h2 (bitsO l2) st.length
      rw [← key l2 hl2] at this
      omega
theorem nsRun_ord {xs : List Road} {st : List Stay} (hR : OkR xs) (hs : staysB st = true) : ∀ k, OrdR xs st (nsRun (ways (-1) xs) st k).1 ∧ (nsRun (ways (-1) xs) st k).2 = (daF (ways (-1) xs) st (nsRun (ways (-1) xs) st k).1).2
  | 0 => ⟨OrdR.nil xs st, rfl⟩
  | k + 1 => by
    obtain ⟨h1, h2⟩ := nsRun_ord hR hs k
    rw [nsRun]
    split
    · exact ⟨h1, h2⟩
    · rename_i hb
      have hbd := nbest_bd (nbF (ways (-1) xs) st (nsRun (ways (-1) xs) st k).2) (nsRun (ways (-1) xs) st k).1 st.length
      have hok := nbest_ok (nbF (ways (-1) xs) st (nsRun (ways (-1) xs) st k).2) (nsRun (ways (-1) xs) st k).1 st.length (by unfold nsB at hb; omega)
      change -1 ≤ nsB (ways (-1) xs) st (nsRun (ways (-1) xs) st k) ∧ nsB (ways (-1) xs) st (nsRun (ways (-1) xs) st k) < st.length at hbd
      change hasL _ (nsB (ways (-1) xs) st (nsRun (ways (-1) xs) st k)) = false ∧ nbF _ _ _ (nsB (ways (-1) xs) st (nsRun (ways (-1) xs) st k)).toNat < 1000000 at hok
      generalize nsB (ways (-1) xs) st (nsRun (ways (-1) xs) st k) = b at *
      have hc : ((b.toNat : Nat) : Int) = b := by omega
      have hsn := OrdR.snoc hR hs h1 (k := b.toNat) (by omega) (by rw [hc]; exact hok.1) (by have := hok.2; unfold nbF at this; rw [h2] at this; exact this)
      rw [hc] at hsn
      exact ⟨hsn, daF_step.2.symm⟩
theorem ord_daB {xs : List Road} {st : List Stay} {l : List Int} (hr : roadsB xs = true) (hs : staysB st = true) (h : OrdR xs st l) : daB xs st l = true := by
  have h7 : st.length ≤ 7 := listB_len hs
  refine daB_yes hr hs (fun j hj => ?_) (by have := h.small h7; omega)
  have hx := getLt hj
  have hrg := h.rng _ (List.mem_of_getElem? hx)
  have hnd := h.nd
  rw [← List.take_append_drop j l] at hnd
  obtain ⟨_, _, hdis⟩ := List.nodup_append.1 hnd
  have hno : hasL (l.take j) l[j] = false := decide_eq_false fun hm => hdis _ hm l[j] (by rw [List.drop_eq_getElem_cons hj]; exact List.mem_cons_self) rfl
  rw [okI_eq hx, hno]
  simp only [inB, Bool.not_false, Bool.and_true, Bool.and_eq_true, decide_eq_true_eq]
  omega
theorem ns_held {xs : List Road} {st : List Stay} (h : nsOk xs st = true) : daB xs st (nsR xs st) = true := by
  rw [nsR_yes h]
  unfold nsOk at h
  simp only [Bool.and_eq_true] at h
  exact ord_daB h.1 h.2 (nsRun_ord (roads_ok h.1) h.2 8).1
theorem fdR_bd {xs : List Road} {st : List Stay} : In64 (fdR xs st) := by
  unfold fdR
  split
  · rename_i h
    unfold fdB at h
    simp only [Bool.and_eq_true, decide_eq_true_eq] at h
    obtain ⟨⟨h1, h2⟩, h3⟩ := h
    have hR := roads_ok h1
    have h7 : st.length ≤ 7 := listB_len h2
    rcases fdV_some hR h2 h7 with h | ⟨l, hl, hn, hd⟩
    · omega
    · have := hl.small h7
      unfold In64; omega
  · unfold In64; omega
end Go.Proofs.Ytgnnlgmeagipjaa
