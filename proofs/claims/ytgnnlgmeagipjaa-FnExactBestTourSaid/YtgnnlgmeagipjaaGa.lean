/- Closures: made and called; a slice made in an open order; shifts and the last bit. By an AI agent. -/
import Derived.Test.YtgnnlgmeagipjaaDa
set_option linter.unusedVariables false
set_option linter.unusedSectionVars false
namespace Go.Proofs.Ytgnnlgmeagipjaa.K
open Go Go.RowKit

section
variable {P : Program} {n : Nat} {Q : Exit → Act → World → Prop} {σ : List (Nat × Value)} {w0 : Base} {μ : List Ent} {ops : Array Oper} {rest : List Oper}
variable {ty : TypeId} {pos : String} {aft : Array Edge}

theorem ov_mkfunc {f : FuncId} {xs : List Operand} {vs : List Value} (hx : EVs σ xs = some vs) : OV P n (.makeFunc (.func f) #[] xs.toArray) ty (.func (.func f) #[] vs.toArray) σ w0 μ := fun _ _ _ _ a w hk _ => by
  have hev := hk.evals hx
  have harg : xs.toArray.map a.eval = vs.toArray := by rw [← hev]; simp
  simp [execOp, Instr.makeFunc, harg]
/-- A call of a closure that is known. -/
theorem run_callc {f : FuncId} {x : Operand} {caps : List Value} {xs : List Operand} {vs : List Value} {tys : Array TypeId} (hf : Goes P f) (hv : EV σ x = some (.func (.func f) #[] caps.toArray)) (hx : EVs σ xs = some vs) (dst : Option Tmp) (pos : String) (aft : Array Edge) (g : Option (Nat × Bool)) (a : Act) (w : World) (hk : Kn σ n a) :
    (execOp a.eval ⟨dst, .call ⟨.value x, xs.toArray, tys⟩, ty, pos, aft, g⟩).run P w = .ok (.enter f (vs ++ caps).toArray) w := by
  obtain ⟨fn, h1, h2, h3⟩ := hf
  have hev := hk.evals hx
  have h3' : fn.body.isNone ≠ true := by rw [h3]; exact Bool.false_ne_true
  have hcf : (callFunc f (vs ++ caps).toArray).run P w = .ok (.enter f (vs ++ caps).toArray) w := by
    unfold callFunc
    simp only [Sem.run_bind, run_program, Result.andThen_ok, h1, h2, Bool.false_eq_true, if_false]
    rw [if_neg h3']; rfl
  have harg : xs.toArray.map a.eval ++ caps.toArray = (vs ++ caps).toArray := by rw [← hev]; simp
  have hr : (resolve a.eval ⟨.value x, xs.toArray, tys⟩ ty).run P w = .ok ⟨.fn (.func f) caps.toArray, #[] ++ xs.toArray.map a.eval⟩ w := by
    simp [resolve, Deferred.ofValue, hk.eval hv]
  show ((resolve a.eval ⟨.value x, xs.toArray, tys⟩ ty) >>= fun d => invoke d.target d.args).run P w = _
  rw [Sem.run_bind, hr]
  show (callFunc f ((#[] ++ xs.toArray.map a.eval) ++ caps.toArray)).run P w = _
  rw [Array.empty_append, harg]; exact hcf
theorem rl_callc {d : Nat} {f : FuncId} {x : Operand} {caps : List Value} {xs : List Operand} {vs : List Value} {tys : Array TypeId} {g : Option (Nat × Bool)} {ι : Type} (V : ι → Value) (M : ι → List Ent) (G : ι → Prop) (hg : GW ops n g true σ) (hf : Goes P f) (hv : EV σ x = some (.func (.func f) #[] caps.toArray)) (hx : EVs σ xs = some vs)
    (hc : ∀ w, Hp w0 μ w → Calls P f (vs ++ caps).toArray w (fun e w' => ∃ i, G i ∧ e = .returned (V i) ∧ Hp w0 (M i) w')) (hd : Nat.blt d n = true)
    (next : ∀ i, G i → RL P n ops Q rest ((d, V i) :: σ) w0 (M i)) :
    RL P n ops Q (⟨some d, .call ⟨.value x, xs.toArray, tys⟩, ty, pos, aft, g⟩ :: rest) σ w0 μ := fun a w hk hp => by
  unfold wpList
  rw [if_pos (hg _ _ _ _ _ _ hk)]
  refine .inl ?_
  unfold Oper.wp
  rw [run_callc hf hv hx _ _ _ _ a w hk]
  refine (hc w hp).mono fun e w' ⟨i, hGi, he, hp'⟩ => ?_
  subst he
  exact next i hGi _ _ (hk.put hd _) hp'
/-- A closure that may write into the blocks E0. -/
theorem rl_calldc {d : Nat} {f : FuncId} {x : Operand} {caps : List Value} {xs : List Operand} {vs : List Value} {tys : Array TypeId} {g : Option (Nat × Bool)} {ι : Type} (V : ι → Value) (E0 ν : List Ent) (E : ι → List Ent) (G : ι → Prop) (hg : GW ops n g true σ) (hf : Goes P f) (hv : EV σ x = some (.func (.func f) #[] caps.toArray)) (hx : EVs σ xs = some vs)
    (hμ : ∀ w, Hp w0 μ w → Hp w0 (E0 ++ ν) w) (hc : ∀ w, Hp w0 μ w → Hp ⟨w, keys E0⟩ E0 w → Calls P f (vs ++ caps).toArray w (fun e w' => ∃ i, G i ∧ e = .returned (V i) ∧ Hp ⟨w, keys E0⟩ (E i) w')) (hd : Nat.blt d n = true)
    (next : ∀ i, G i → RL P n ops Q rest ((d, V i) :: σ) w0 (E i ++ ν)) : RL P n ops Q (⟨some d, .call ⟨.value x, xs.toArray, tys⟩, ty, pos, aft, g⟩ :: rest) σ w0 μ :=
  rl_callc V (fun i => E i ++ ν) G hg hf hv hx (fun w hp => (hc w hp ((hμ w hp).sub (List.sublist_append_left _ _)).self).mono fun e w' ⟨i, hG, he, h2⟩ => ⟨i, hG, he, (hμ w hp).liftd h2⟩) hd next

theorem run_mk {t e by_ m : Nat} {zs : List Value} {x y : Operand} (ht : P.underlying t = some (.slice e)) (hz : zeroB P e = some zs) (hs : sizeB P e = some zs.length) (hby : bytesB P e = some by_) (hx : EV σ x = some (.int .i64 (m : Int))) (hy : EV σ y = some (.int .i64 (m : Int)))
    (hb : by_ * m ≤ 281474976710656) (hm : m ≤ maxLen) (dst : Option Tmp) (pos : String) (aft : Array Edge) (g : Option (Nat × Bool)) (c : Act) (w : World) (hk : Kn σ n c) (hp : Hp w0 μ w) :
    ∃ w', (execOp c.eval ⟨dst, .makeSlice t x y, ty, pos, aft, g⟩).run P w = .ok (.value (.slice (some ⟨w.heap.size, 0, none⟩) m m)) w' ∧ Hp w0 ((some w.heap.size, e, (List.replicate m zs).flatten) :: μ) w' := by
    unfold zeroB at hz
    unfold sizeB at hs
    unfold bytesB at hby
    cases hi : P.info? e with
    | none => simp [hi] at hz
    | some i =>
      simp only [hi, Option.bind_some, Option.map_some, Option.some.injEq] at hz hs hby
      cases hzz : i.zero with
      | none => simp [hzz] at hz
      | some z =>
        simp only [hzz, Option.map_some, Option.some.injEq] at hz
        subst hz
        have hsz : i.size = z.cells.size := by simpa using hs
        obtain ⟨w', h1, h2, h3⟩ := run_make_full (P := P) w w.heap.size t e i z z.cells.size ht hi hzz hsz .i64 .i64 m (by rw [hby]; exact hb) hm (Nat.le_refl _)
        refine ⟨w', ?_, ?_⟩
        · simp only [execOp, hk.eval hx, hk.eval hy, Sem.run_bind, h1, Result.andThen_ok]; rfl
        · have hx' : Ext w w' := ⟨h3.os, h3.tape, h3.output, h3.size, fun k hk' => h3.block k hk' (by simp)⟩
          obtain ⟨_, h4⟩ := h2
          rcases h4 with ⟨h4, _⟩ | ⟨g, cap, cur, h4, _, h5, _, _, h6, h7⟩
          · injection h4 with h4; cases h4
          · injection h4 with h4 _ h8
            simp only [Option.some.injEq, Addr.mk.injEq] at h4
            obtain ⟨rfl, _⟩ := h4
            subst h8
            have h9 : cur = ((List.replicate m z.cells.toList).flatten).toArray := by
              apply Array.toList_inj.1
              show cur.toList = (List.replicate m z.cells.toList).flatten
              rw [← made_list, ← h7, List.take_of_length_le (by simp [h6])]
            exact hp.new hx' (Nat.le_refl _) (by rw [h5, h9])
variable {F : Fl} {sf : Nat → Soft} {r p : Nat} {N0 : List Ent}
theorem qg_make {d t e by_ m : Nat} {zs : List Value} {x y : Operand} (hns : F.softs.contains p = false) (hin : F.effs.contains p = true) (hnd : F.dirt.contains p = false) (ht : P.underlying t = some (.slice e)) (hz : zeroB P e = some zs) (hs : sizeB P e = some zs.length) (hby : bytesB P e = some by_) (hx : EV σ x = some (.int .i64 (m : Int))) (hy : EV σ y = some (.int .i64 (m : Int)))
    (hb : by_ * m ≤ 281474976710656) (hm : m ≤ maxLen) (hd : Nat.blt d n = true) (next : ∀ N, QF P n ops Q F sf r (p + 1) rest ((d, .slice (some ⟨N, 0, none⟩) m m) :: σ) w0 ((some N, e, (List.replicate m zs).flatten) :: μ) N0) :
    QG P n ops Q F sf (r + 1) p (⟨some d, .makeSlice t x y, ty, pos, aft, none⟩ :: rest) σ w0 μ N0 :=
  qg_eff (fun N : Nat => .slice (some ⟨N, 0, none⟩) m m) (fun N => (some N, e, (List.replicate m zs).flatten) :: μ) hns hin (.inr fun N => ⟨[(some N, e, (List.replicate m zs).flatten)], List.perm_append_comm (l₁ := [_])⟩) (.inl hnd) (fun dst pos aft a hk X w hp => by
    obtain ⟨w', h1, h2⟩ := run_mk ht hz hs hby hx hy hb hm dst pos aft none a w hk hp
    rw [h1]
    exact ⟨w.heap.size, rfl, h2⟩) hd next
end

/-! ### Shifts and the last bit -/
section
variable {P : Program} {n : Nat} {σ : List (Nat × Value)} {w0 : Base} {μ : List Ent} {ty : TypeId} {x y : Operand} {t u : TypeId} {i j : Int}
theorem pow2_le {m k : Nat} (h : m ≤ k) : (2 : Int) ^ m ≤ 2 ^ k := by
  have : (2 : Nat) ^ m ≤ 2 ^ k := Nat.pow_le_pow_right (by decide) h
  exact_mod_cast this
theorem ov_shift (op : BinOp) (hop : op = .shl ∨ op = .shr) (hx : EV σ x = some (.int .i64 i)) (hy : EV σ y = some (.int .u64 j)) (m : Nat) (hj : j = m) (hm : m ≤ 20) (r : Int) (hr : r = match op with | .shl => IntKind.i64.wrap (i * 2 ^ m) | _ => i.fdiv (2 ^ m)) :
    OV P n (.binOp op t x y u) ty (.int .i64 r) σ w0 μ := fun _ _ _ _ a w hk _ => by
  subst hj
  have hmin : min ((m : Int).toNat) IntKind.i64.bits = m := by
    have : IntKind.i64.bits = 64 := rfl
    rw [this, Int.toNat_natCast]; omega
  have hn : ¬ ((m : Int) < 0) := by omega
  rcases hop with rfl | rfl
  · have hq : (eqGuard .shl t x y (.int .i64 i) (.int .u64 m)).run P w = .ok () w := rfl
    have hs : (binOp .shl t (.int .i64 i) (.int .u64 m)).run P w = .ok (.int .i64 r) w := by
      show (Op.shift .shl .i64 i .u64 m).run P w = _
      unfold Op.shift
      rw [if_neg hn, hmin, hr]; rfl
    simp only [execOp, hk.eval hx, hk.eval hy]
    simp [Sem.run_bind, hq, hs]
  · have hq : (eqGuard .shr t x y (.int .i64 i) (.int .u64 m)).run P w = .ok () w := rfl
    have hs : (binOp .shr t (.int .i64 i) (.int .u64 m)).run P w = .ok (.int .i64 r) w := by
      show (Op.shift .shr .i64 i .u64 m).run P w = _
      unfold Op.shift
      rw [if_neg hn, hmin, hr]; rfl
    simp only [execOp, hk.eval hx, hk.eval hy]
    simp [Sem.run_bind, hq, hs]
/-- 1 << m -/
theorem ov_shl1 (hx : EV σ x = some (.int .i64 1)) (hy : EV σ y = some (.int .u64 j)) (m : Nat) (hj : j = m) (hm : m ≤ 20) : OV P n (.binOp .shl t x y u) ty (.int .i64 ((2 ^ m : Nat) : Int)) σ w0 μ := by
  refine ov_shift .shl (.inl rfl) hx hy m hj hm _ ?_
  have hb := pow2_le hm
  have h0 : (0 : Int) < 2 ^ m := Int.pow_pos (by decide)
  have h3 : (2 : Int) ^ 20 = 1048576 := by decide
  show _ = IntKind.i64.wrap (1 * 2 ^ m)
  rw [IntWalk.i64_in _ (by rw [Int.one_mul]; omega), Int.one_mul]
  push_cast; rfl
/-- b >> m -/
theorem ov_shrN {b : Nat} (hx : EV σ x = some (.int .i64 b)) (hy : EV σ y = some (.int .u64 j)) (m : Nat) (hj : j = m) (hm : m ≤ 20) : OV P n (.binOp .shr t x y u) ty (.int .i64 ((b / 2 ^ m : Nat) : Int)) σ w0 μ := by
  refine ov_shift .shr (.inr rfl) hx hy m hj hm _ ?_
  show _ = Int.fdiv (b : Int) (2 ^ m)
  rw [Int.fdiv_eq_ediv_of_nonneg _ (by have h0 : (0 : Int) < 2 ^ m := Int.pow_pos (by decide)
                                       omega)]
  push_cast; rfl
/-- The last bit. -/
theorem ov_and1 {b : Nat} (hx : EV σ x = some (.int .i64 b)) (hy : EV σ y = some (.int .i64 1)) : OV P n (.binOp .and t x y u) ty (.int .i64 ((b % 2 : Nat) : Int)) σ w0 μ := run_bin _ _ _ _ _ .i64 b 1 _ hx hy fun w => by
  have h : (BitVec.ofInt 64 (b : Int) &&& BitVec.ofInt 64 1).toNat = b % 2 := by
    have h1 : BitVec.ofInt 64 1 = 1#64 := by decide
    have h2 : BitVec.ofInt 64 (b : Int) = BitVec.ofNat 64 b := BitVec.ofInt_natCast 64 b
    rw [h1, h2, BitVec.toNat_and, BitVec.toNat_ofNat, show (1#64).toNat = 1 from rfl, Nat.and_one_is_mod]
    omega
  show Result.ok (Value.int .i64 (IntKind.i64.wrap ((BitVec.ofInt 64 (b : Int) &&& BitVec.ofInt 64 1).toNat : Nat))) w = _
  rw [h, IntWalk.i64_in _ (by omega)]
/-- A number in 64 bits without a sign. -/
theorem u64_nat {m : Nat} (h : m ≤ 1000000) : IntKind.u64.wrap (m : Int) = m := by
  simp only [IntKind.wrap, IntKind.signed, IntKind.bits]
  simp
  omega
theorem u64_natE {i : Int} {m : Nat} (hi : i = m) (h : m ≤ 1000000) : IntKind.u64.wrap i = m := by rw [hi, u64_nat h]
end
end Go.Proofs.Ytgnnlgmeagipjaa.K
