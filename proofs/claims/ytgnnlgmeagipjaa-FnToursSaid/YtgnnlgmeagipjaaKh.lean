/- Strings; slices written out; append. By an AI agent. -/
import Derived.Test.YtgnnlgmeagipjaaKg
set_option linter.unusedVariables false
namespace Go.Proofs.Ytgnnlgmeagipjaa.K
open Go Go.RowKit

/-! ### Strings as lists of bytes -/
def bs (l : List UInt8) : ByteArray := ⟨l.toArray⟩
theorem bs_size (l : List UInt8) : (bs l).size = l.length := by simp [bs, ByteArray.size]
theorem bs_append (a b : List UInt8) : bs a ++ bs b = bs (a ++ b) := by
  apply ByteArray.ext
  simp [bs, ByteArray.data_append]
theorem bs_inj {a b : List UInt8} (h : bs a = bs b) : a = b := by
  have := congrArg (fun s => s.data.toList) h
  simpa [bs] using this
theorem bs_toList (l : List UInt8) : (bs l).toList = l := by rw [ByteArray.toList_eq]; simp [bs]
theorem bs_of (s : ByteArray) : s = bs s.data.toList := by simp [bs]

section
variable {P : Program} {n : Nat} {Q : Exit → Act → World → Prop} {σ : List (Nat × Value)} {w0 : Base} {μ : List Ent} {ops : Array Oper} {rest : List Oper}
variable {ty : TypeId} {pos : String} {aft : Array Edge}

theorem run_sbin {op : BinOp} {t u : TypeId} {x y : Operand} {a b : ByteArray} {r : Value} (hx : EV σ x = some (.string a)) (hy : EV σ y = some (.string b))
    (h : ∀ w, (Op.stringOp op a b).run P w = .ok r w) (hb : ∀ w, (binOp op t (.string a) (.string b)).run P w = (Op.stringOp op a b).run P w) (hq : ∀ w, (eqGuard op t x y (.string a) (.string b)).run P w = .ok () w) : OV P n (.binOp op t x y u) ty r σ w0 μ := fun _ _ _ _ c w hk _ => by
  simp only [execOp, hk.eval hx, hk.eval hy]
  simp [Sem.run_bind, hq w, hb w, h w]
theorem ov_sadd {t u : TypeId} {x y : Operand} {a b : List UInt8} (hx : EV σ x = some (.string (bs a))) (hy : EV σ y = some (.string (bs b))) (h : a.length + b.length ≤ 9223372036854775807) : OV P n (.binOp .add t x y u) ty (.string (bs (a ++ b))) σ w0 μ :=
  run_sbin hx hy (fun w => by rw [← bs_append]; exact run_string_add_sum w (bs a) (bs b) (by rw [bs_size, bs_size]; exact h)) (fun w => rfl) (fun w => rfl)
theorem ov_seql {t u : TypeId} {x y : Operand} {a b : ByteArray} (hx : EV σ x = some (.string a)) (hy : EV σ y = some (.string b)) : OV P n (.binOp .eql t x y u) ty (.bool (a.toList == b.toList)) σ w0 μ :=
  run_sbin hx hy (fun w => rfl) (fun w => rfl) (fun w => rfl)
theorem ov_sneq {t u : TypeId} {x y : Operand} {a b : ByteArray} (hx : EV σ x = some (.string a)) (hy : EV σ y = some (.string b)) : OV P n (.binOp .neq t x y u) ty (.bool (!(a.toList == b.toList))) σ w0 μ :=
  run_sbin hx hy (fun w => rfl) (fun w => rfl) (fun w => rfl)
theorem ov_slss {t u : TypeId} {x y : Operand} {a b : ByteArray} (hx : EV σ x = some (.string a)) (hy : EV σ y = some (.string b)) : OV P n (.binOp .lss t x y u) ty (.bool (Op.bytesLess a.toList b.toList)) σ w0 μ :=
  run_sbin hx hy (fun w => rfl) (fun w => rfl) (fun w => rfl)

/-- s[lo:hi] -/
theorem ov_sslice {t : TypeId} {x lo hi : Operand} {s : ByteArray} {k1 k2 : IntKind} {i j : Int} (ht : P.underlying t = some .string) (hx : EV σ x = some (.string s)) (hl : EV σ lo = some (.int k1 i)) (hh : EV σ hi = some (.int k2 j))
    (a b : Nat) (ha : i = a) (hb : j = b) (hab : a ≤ b) (hbs : b ≤ s.size) : OV P n (.slice t x (some lo) (some hi) none) ty (.string (s.extract a b)) σ w0 μ := fun _ _ _ _ c w hk _ => by
  subst ha; subst hb
  have h1 : (a : Int) ≤ b := by omega
  have h2 : (b : Int) ≤ s.size := by omega
  simp [execOp, hk.eval hx, hk.eval hl, hk.eval hh, Instr.sliceAt, Instr.slice, Instr.sliceBounds, Instr.sliceBound, asIntOf, run_underlying ht, hab, hbs]
/-- s[i] -/
theorem ov_sindex {t : TypeId} {x y : Operand} {s : ByteArray} {k : IntKind} {i : Int} (ht : P.underlying t = some .string) (hx : EV σ x = some (.string s)) (hy : EV σ y = some (.int k i)) (j : Nat) (hj : i = j) {u : UInt8} (hu : s.data[j]? = some u) :
    OV P n (.index t x y) ty (.int .u8 u.toNat) σ w0 μ := fun _ _ _ _ c w hk _ => by
  subst hj
  have hjs : j < s.size := (Array.getElem?_eq_some_iff.1 hu).1
  have h1 : s[j]? = some u := by
    rw [getElem?_pos s j hjs]
    have := (Array.getElem?_eq_some_iff.1 hu).2
    rw [← this]; rfl
  simp [execOp, hk.eval hx, hk.eval hy, Instr.index, asIntOf, run_underlying ht, h1]

theorem ov_convint {s t : TypeId} {x : Operand} {k k2 : IntKind} {i : Int} (hs : P.underlying s = some (.int k)) (ht : P.underlying t = some (.int k2)) (hx : EV σ x = some (.int k i)) : OV P n (.convert s t x) ty (.int k2 (k2.wrap i)) σ w0 μ := fun _ _ _ _ c w hk _ => by
  simp [execOp, hk.eval hx, convert, run_underlying hs, run_underlying ht, Conv.intToInt]

/-- string([]byte{b}) over an own block. -/
theorem ov_convbytes (i : Nat) {s t e : TypeId} {x : Operand} {b len cap : Nat} {T : TypeId} {L : List Value} (ns : List Int) (hs : P.underlying s = some (.slice e)) (he : P.underlying e = some (.int .u8)) (ht : P.underlying t = some .string)
    (hx : EV σ x = some (.slice (some ⟨b, 0, none⟩) len cap)) (hm : μ[i]? = some (some b, T, L)) (hl : ns.length = len) (hL : ∀ (j : Nat) (u : Value), (ns.map (Value.int .u8))[j]? = some u → L[j]? = some u) :
    OV P n (.convert s t x) ty (.string (bs (ns.map fun k => UInt8.ofNat k.toNat))) σ w0 μ := fun _ _ _ _ c w hk hp => by
  have h1 : (loadCells ⟨b, 0, none⟩ len).run P w = .ok (ns.map (Value.int .u8)).toArray w := by
    have := run_loadCells_list (P := P) w ⟨b, 0, none⟩ (ns.map (Value.int .u8)) (fun j v hv => by rw [addr_add, Nat.zero_add]; exact hp.own i hm (hL j v hv))
    rw [List.length_map, hl] at this
    exact this
  have h2 := run_bytesToString (P := P) w ⟨b, 0, none⟩ len cap ns h1
  have h3 : ∀ (l : List Int) (r : List UInt8), l.foldl (fun r n => r.push (UInt8.ofNat n.toNat)) (bs r) = bs (r ++ l.map fun k => UInt8.ofNat k.toNat) := by
    intro l
    induction l with
    | nil => intro r; simp
    | cons k l ih =>
      intro r
      rw [List.foldl_cons, show (bs r).push (UInt8.ofNat k.toNat) = bs (r ++ [UInt8.ofNat k.toNat]) from by simp [bs, ByteArray.push], ih]
      simp
  have h4 : ns.foldl (fun r n => r.push (UInt8.ofNat n.toNat)) ByteArray.empty = bs (ns.map fun k => UInt8.ofNat k.toNat) := h3 ns []
  rw [h4] at h2
  simp [execOp, hk.eval hx, convert, run_underlying hs, run_underlying ht, run_underlying he, h2]

/-! ### A slice written out -/
theorem setRun (off : Nat) : ∀ (cs : List Value) (k : Nat) (arr : Array Value), off + k + cs.length ≤ arr.size →
    ((cs.zipIdx k).foldl (fun a (p : Value × Nat) => a.setIfInBounds (off + p.2) p.1) arr).toList = arr.toList.take (off + k) ++ cs ++ arr.toList.drop (off + k + cs.length)
  | [], k, arr, _ => by simp
  | c :: cs, k, arr, h => by
    simp only [List.zipIdx_cons, List.foldl_cons, List.length_cons] at *
    rw [setRun off cs (k + 1) _ (by simp; omega)]
    have hlt : off + k < arr.size := by omega
    simp only [Array.toList_setIfInBounds]
    rw [List.take_set, List.drop_set]
    rw [if_pos (by omega)]
    have h1 : (arr.toList.take (off + (k + 1))).set (off + k) c = arr.toList.take (off + k) ++ [c] := by
      rw [show off + (k + 1) = (off + k) + 1 from by omega, List.take_succ_eq_append_getElem (by simpa using hlt), List.set_append_right _ _ (by simp; omega)]
      simp [Nat.min_eq_left (Nat.le_of_lt hlt)]
    rw [h1]
    simp [Nat.add_assoc, Nat.add_comm 1]

theorem fill_all (k : Nat) : ∀ (vs : List Value) (i : Nat) (arr : Array Value), (∀ v ∈ vs, v.cells.size = k) → (i + vs.length) * k ≤ arr.size →
    ∃ out, Instr.fill (fun i => some (i * k, k)) arr (vs.zipIdx i |>.map fun p => (p.2, p.1)) = some out ∧ out.toList = arr.toList.take (i * k) ++ (vs.flatMap fun v => v.cells.toList) ++ arr.toList.drop ((i + vs.length) * k)
  | [], i, arr, _, _ => ⟨arr, rfl, by simp⟩
  | v :: vs, i, arr, hk, h => by
    have hv := hk v (by simp)
    have hle : i * k + k ≤ arr.size := by
      simp only [List.length_cons] at h
      have : (i + 1) * k ≤ (i + (vs.length + 1)) * k := Nat.mul_le_mul_right k (by omega)
      rw [Nat.add_mul, Nat.one_mul] at this; omega
    have hrun := setRun (i * k) v.cells.toList 0 arr (by simp [hv]; omega)
    obtain ⟨out, h1, h2⟩ := fill_all k vs (i + 1) (v.cells.zipIdx.foldl (fun cs (p : Value × Nat) => cs.setIfInBounds (i * k + p.2) p.1) arr) (fun u hu => hk u (by simp [hu])) (by
      have hsz : ∀ (l : List (Value × Nat)) (a : Array Value), (l.foldl (fun cs (p : Value × Nat) => cs.setIfInBounds (i * k + p.2) p.1) a).size = a.size := by
        intro l
        induction l with
        | nil => intro a; rfl
        | cons p l ih => intro a; rw [List.foldl_cons, ih]; simp
      rw [← Array.foldl_toList, hsz]
      simp only [List.length_cons] at h
      rw [show i + 1 + vs.length = i + (vs.length + 1) from by omega]; exact h)
    refine ⟨out, ?_, ?_⟩
    · simp only [List.zipIdx_cons, List.map_cons, Instr.fill]
      rw [if_neg (by simp [hv]; omega)]
      exact h1
    · rw [h2, ← Array.foldl_toList]
      have hz : v.cells.zipIdx.toList = v.cells.toList.zipIdx 0 := by simp
      rw [hz, hrun]
      simp only [Nat.add_zero, List.length_cons, List.flatMap_cons]
      have hl : (arr.toList.take (i * k)).length = i * k := by simp; omega
      have hvl : v.cells.toList.length = k := by simpa using hv
      have hA : ∀ (A B C D : List Value), A.length = i * k → B.length = k → (A ++ B ++ C).take ((i + 1) * k) ++ D ++ (A ++ B ++ C).drop ((i + 1 + vs.length) * k) = A ++ B ++ D ++ C.drop (vs.length * k) := by
        intro A B C D h1 h2
        have h3 : (A ++ B).length = (i + 1) * k := by rw [List.length_append, h1, h2, Nat.add_mul, Nat.one_mul]
        rw [List.take_append, h3, Nat.sub_self, List.take_zero, List.append_nil, List.take_of_length_le (by rw [h3]; exact Nat.le_refl _), List.drop_append, h3, List.drop_eq_nil_of_le (by rw [h3]; exact Nat.mul_le_mul_right _ (by omega)), List.nil_append, Nat.add_mul (i + 1), Nat.add_sub_cancel_left]
      rw [hA _ _ _ _ hl hvl, hvl, List.drop_drop]
      simp only [List.append_assoc]
      congr 4
      rw [Nat.add_mul, Nat.add_mul]; omega

def EVps (σ : List (Nat × Value)) : List (Nat × Operand) → Nat → Option (List Value)
  | [], _ => some []
  | (i, x) :: r, k => if i = k then match EV σ x, EVps σ r (k + 1) with
    | some v, some vs => some (v :: vs)
    | _, _ => none else none

theorem Kn.evps {a : Act} (h : Kn σ n a) : ∀ {ps : List (Nat × Operand)} {k : Nat} {vs : List Value}, EVps σ ps k = some vs → (ps.map fun p => (p.1, a.eval p.2)) = (vs.zipIdx k).map fun p => (p.2, p.1)
  | [], k, _, he => by simp [EVps] at he; simp [he]
  | (i, x) :: r, k, vs, he => by
    simp only [EVps] at he
    split at he
    · rename_i hik
      subst hik
      split at he
      · rename_i v us h1 h2
        obtain rfl := Option.some.inj he
        simp [h.eval h1, h.evps h2]
      · cases he
    · cases he

theorem run_bslice {t e len k : Nat} {ps : List (Nat × Operand)} {zs vs : List Value} (ht : P.underlying t = some (.slice e)) (hz : zeroB P e = some zs) (hs : sizeB P e = some k) (hzk : zs.length = k) (hv : EVps σ ps 0 = some vs) (hlen : vs.length = len) (hc : vs.all (fun v => v.cells.size == k) = true) (hsm : Nat.ble (len * k) 16777216 = true) :
    ∀ dst pos aft g c w, Kn σ n c → (execOp c.eval ⟨dst, .buildSlice t len ps.toArray, ty, pos, aft, g⟩).run P w = .ok (.value (sv (some w.heap.size) len len)) (w.alloc (.cells (vs.flatMap fun v => v.cells.toList).toArray e (0, 0))) := by
    intro dst pos aft g c w hk
    have hsm' : ¬ (len * k > 2 ^ 24) := by have := Nat.le_of_ble_eq_true hsm; omega
    obtain ⟨z, hz1, hz2⟩ := run_zero hz w
    have hall : ∀ v ∈ vs, v.cells.size = k := fun v hv' => by simpa using List.all_eq_true.1 hc v hv'
    have hps := hk.evps hv
    have hpa : (ps.toArray.map fun p => (p.1, c.eval p.2)).toList = (vs.zipIdx 0).map fun p => (p.2, p.1) := by rw [← hps]; simp
    have hfill : ∀ zc : Array Value, ∃ out, Instr.fill (fun i => some (i * k, k)) ((Array.range (len * k)).map (zc[· % zc.size]!)) (ps.toArray.map fun p => (p.1, c.eval p.2)).toList = some out ∧ out = (vs.flatMap fun v => v.cells.toList).toArray := by
      intro zc
      obtain ⟨out, h1, h2⟩ := fill_all k vs 0 ((Array.range (len * k)).map (zc[· % zc.size]!)) hall (by simp [hlen])
      refine ⟨out, by rw [hpa]; exact h1, ?_⟩
      apply Array.toList_inj.1
      rw [h2, Nat.zero_mul, List.take_zero, List.nil_append, Nat.zero_add, List.drop_eq_nil_of_le (by simp [hlen]), List.append_nil]
    by_cases h0 : len * k = 0
    · obtain ⟨out, h1, h2⟩ := hfill #[]
      simp only [execOp, Instr.buildSlice, Sem.run_bind, run_underlying ht, run_size hs, Result.andThen_ok, if_neg hsm', Sem.run_pure, if_pos h0]
      rw [h1]
      subst h2
      simp [newRow, sv]
    · obtain ⟨out, h1, h2⟩ := hfill z.cells
      simp only [execOp, Instr.buildSlice, Sem.run_bind, run_underlying ht, run_size hs, Result.andThen_ok, if_neg hsm', Sem.run_pure, if_neg h0, hz1]
      rw [h1]
      subst h2
      simp [newRow, sv]

theorem rl_bslice {d t e len k : Nat} {ps : List (Nat × Operand)} {zs vs : List Value} (ht : P.underlying t = some (.slice e)) (hz : zeroB P e = some zs) (hs : sizeB P e = some k) (hzk : zs.length = k) (hv : EVps σ ps 0 = some vs) (hlen : vs.length = len) (hc : vs.all (fun v => v.cells.size == k) = true) (hsm : Nat.ble (len * k) 16777216 = true)
    (hd : Nat.blt d n = true) (next : ∀ N, RL P n ops Q rest ((d, sv (some N) len len) :: σ) w0 ((some N, e, vs.flatMap fun v => v.cells.toList) :: μ)) :
    RL P n ops Q (⟨some d, .buildSlice t len ps.toArray, ty, pos, aft, none⟩ :: rest) σ w0 μ :=
  rl_eff (fun N : Nat => sv (some N) len len) (fun N => (some N, e, vs.flatMap fun v => v.cells.toList) :: μ) (fun _ _ _ _ c w hk hp => ⟨w.heap.size, _, run_bslice ht hz hs hzk hv hlen hc hsm _ _ _ _ c w hk, hp.alloc _ e⟩) hd next

/-! ### append -/
theorem Hp.grow {w w' : World} {pre post : List Ent} {bo : Option Nat} {T : TypeId} {L : List Value} (h : Hp w0 (pre ++ (bo, T, L) :: post) w) (hx : Ext w w') {b : Nat} {L' : List Value} (hb : w.heap.size ≤ b) (hc : w'.heap[b]? = some (.cells L'.toArray T (0, 0))) :
    Hp w0 (pre ++ (some b, T, L') :: post) w' := by
  have h' := h.ext hx
  have hnk : b ∉ keys (pre ++ (bo, T, L) :: post) := fun hm => by have := h.key_lt hm; omega
  have hk2 : keys (pre ++ (bo, T, L) :: post) = keys pre ++ (bo.toList ++ keys post) := by
    cases bo <;> simp [keys]
  have hk3 : keys (pre ++ (some b, T, L') :: post) = keys pre ++ (b :: keys post) := by simp [keys]
  refine ⟨h'.os, h'.tape, h'.output, h'.size, h'.frame, fun e he => ?_, ?_⟩
  · rcases List.mem_append.1 he with he | he
    · exact h'.ents e (by simp [he])
    · rcases List.mem_cons.1 he with rfl | he
      · exact ⟨.inl (Nat.le_trans h.size hb), hc⟩
      · exact h'.ents e (by simp [he])
  · rw [hk3]
    have hnd := h.nodup
    rw [hk2] at hnd hnk
    simp only [List.mem_append, not_or] at hnk
    rw [List.nodup_append] at hnd ⊢
    obtain ⟨n1, n2, n3⟩ := hnd
    refine ⟨n1, List.nodup_cons.2 ⟨hnk.2.2, (List.nodup_append.1 n2).2.1⟩, fun x hx y hy => ?_⟩
    rcases List.mem_cons.1 hy with rfl | hy
    · intro e; subst e; exact hnk.1 hx
    · exact n3 x hx y (by simp [hy])

theorem app_key (pre : List Ent) {post : List Ent} {t e by_ k len cap m c sb so : Nat} {bo : Option Nat} {xs pad news zs : List Value} {x y : Operand} (ht : P.underlying t = some (.slice e)) (hz : zeroB P e = some zs) (hs : sizeB P e = some k) (hzk : zs.length = k) (hk0 : Nat.blt 0 k = true) (hby : bytesB P e = some by_)
    (hx : EV σ x = some (sv bo len cap)) (hy : EV σ y = some (.slice (some ⟨sb, so, none⟩) m c)) (hsl : Sl k bo len cap xs pad) (hl : news.length = m * k) (h1 : ∀ u ∈ news, u.oneCell' = true) (h63 : len + m ≤ maxLen) (hbytes : (len + m) * by_ ≤ 140737488355328) :
    ∀ dst pos aft g a w, Kn σ n a → Hp w0 (pre ++ (bo, e, xs ++ pad) :: post) w → (∀ (j : Nat) u, news[j]? = some u → w.cell? ⟨sb, so + j, none⟩ = some u) → ∃ i : {p : Option Nat × Nat × List Value // Sl k p.1 (len + m) p.2.1 (xs ++ news) p.2.2}, ∃ w', (execOp a.eval ⟨dst, .call ⟨.builtin .append, #[x, y], #[t, t]⟩, ty, pos, aft, g⟩).run P w = .ok (.value (sv i.1.1 (len + m) i.1.2.1)) w' ∧
      Hp w0 (pre ++ (i.1.1, e, xs ++ news ++ i.1.2.2) :: post) w' := by
  intro dst pos aft g a w hk hp hnw
  have hk0' : 0 < k := by simpa using hk0
  unfold zeroB at hz
  unfold sizeB at hs
  unfold bytesB at hby
  cases hi : P.info? e with
  | none => simp [hi] at hz
  | some inf =>
    simp only [hi, Option.bind_some, Option.map_some, Option.some.injEq] at hz hs hby
    cases hzz : inf.zero with
    | none => simp [hzz] at hz
    | some z =>
      simp only [hzz, Option.map_some, Option.some.injEq] at hz
      have hzs : z.cells.size = k := by rw [← hz] at hzk; simpa using hzk
      have hnw' : ∀ (j : Nat) u, news[j]? = some u → w.cell? ((⟨sb, so, none⟩ : Addr).add j) = some u := fun j u hu => by rw [addr_add]; exact hnw j u hu
      have fin : ∀ v' w', (Builtin.append_ #[t, t] ty #[sv bo len cap, .slice (some ⟨sb, so, none⟩) m c]).run P w = .ok v' w' →
          (execOp a.eval ⟨dst, .call ⟨.builtin .append, #[x, y], #[t, t]⟩, ty, pos, aft, g⟩).run P w = .ok (.value v') w' := fun v' w' hr => by
        simp [execOp, resolve, invoke, builtin, hk.eval hx, hk.eval hy, hr]
      -- out of 'ownsRow' in a new block, or the old one
      have outNew : ∀ v' w', w'.ownsRow w.heap.size e k v' (len + m) (xs ++ news) → w.grownBy w' none → ∃ i : {p : Option Nat × Nat × List Value // Sl k p.1 (len + m) p.2.1 (xs ++ news) p.2.2}, v' = sv i.1.1 (len + m) i.1.2.1 ∧ ((∃ b L', i.1.1 = some b ∧ L' = xs ++ news ++ i.1.2.2 ∧ w.heap.size ≤ b ∧ w'.heap[b]? = some (.cells L'.toArray e (0, 0))) ∨ (i.1.1 = none ∧ len + m = 0 ∧ i.1.2.2 = [])) := by
        intro v' w' ho hg
        obtain ⟨o1, o2⟩ := ho
        rcases o2 with ⟨rfl, h0⟩ | ⟨gg, cap', cur, rfl, hge, hh, hle, hmx, hcs, htk⟩
        · refine ⟨⟨(none, 0, []), ⟨o1, by rw [List.append_nil, o1, h0], by omega, Nat.zero_le _, fun _ => ⟨h0, rfl⟩⟩⟩, by show Value.slice none 0 0 = Value.slice none (len + m) 0; rw [h0], .inr ⟨rfl, h0, rfl⟩⟩
        · refine ⟨⟨(some gg, cap', cur.toList.drop ((len + m) * k)), ⟨o1, ?_, hle, hmx, fun h => by cases h⟩⟩, rfl, .inl ⟨gg, cur.toList, rfl, ?_, hge, by rw [Array.toArray_toList]; exact hh⟩⟩
          · rw [← htk, List.take_append_drop]; simpa using hcs
          · show cur.toList = xs ++ news ++ cur.toList.drop ((len + m) * k)
            rw [← htk, List.take_append_drop]
      cases bo with
      | none =>
        obtain ⟨rfl, rfl⟩ := hsl.nil rfl
        have hx0 : xs = [] := List.length_eq_zero_iff.1 (by rw [hsl.lx, Nat.zero_mul])
        have hown : w.ownsRow w.heap.size e k (.slice none 0 0) 0 xs := ⟨by rw [hx0]; simp, .inl ⟨rfl, rfl⟩⟩
        obtain ⟨v', w', hr, ho, hg, _⟩ := run_append_own (P := P) w w.heap.size t ty e inf z k by_ ht hi hzz (by simpa using hs) (by simpa using hby) hzs hk0' _ 0 xs hown ⟨sb, so, none⟩ m c news hl hnw' h1 h63 hbytes (Nat.le_refl _)
        have hxt : Ext w w' := ⟨hg.os, hg.tape, hg.output, hg.size, fun q hq => hg.block q hq (by simp [Value.ownBlock])⟩
        obtain ⟨i, hv, hcase⟩ := outNew v' w' ho ⟨hg.os, hg.tape, hg.output, hg.size, fun q hq _ => hxt.block q hq⟩
        refine ⟨i, w', by rw [← hv]; exact fin _ _ hr, ?_⟩
        rcases hcase with ⟨b, L', hb, hL, hge, hh⟩ | ⟨hn, hlm, hpd⟩
        · rw [hb]
          have := hp.grow hxt hge hh
          rw [hL] at this; exact this
        · have hp' := hp.ext hxt
          have hnew0 : news = [] := List.length_eq_zero_iff.1 (by rw [hl, show m = 0 from by omega, Nat.zero_mul])
          have hpad0 : pad = [] := by
            have := hsl.lp
            rw [Nat.zero_mul] at this
            have := List.length_eq_zero_iff.1 this
            simp at this; exact this.2
          rw [hn, hpd, hx0, hnew0]
          rw [hx0, hpad0] at hp'
          exact hp'
      | some b =>
        have hbh : w.heap[b]? = some (.cells (xs ++ pad).toArray e (0, 0)) := (hp.ents (some b, e, xs ++ pad) (by simp)).2
        have hown : w.ownsRow w.heap.size e k (.slice (some ⟨b, 0, none⟩) len cap) len xs ∨ True := .inr trivial
        by_cases hroom : len + m ≤ cap
        · have hown : w.ownsRow 0 e k (.slice (some ⟨b, 0, none⟩) len cap) len xs := ⟨hsl.lx, .inr ⟨b, cap, _, rfl, Nat.zero_le _, hbh, hsl.le, hsl.max, by simpa using hsl.lp, by
            show (xs ++ pad).take (len * k) = xs
            rw [List.take_append, hsl.lx, Nat.sub_self, List.take_zero, List.append_nil, List.take_of_length_le (by rw [hsl.lx]; exact Nat.le_refl _)]⟩⟩
          obtain ⟨w', hr, ho, hg⟩ := run_append_fits (P := P) w 0 t ty e inf k ht hi (by simpa using hs) b len cap xs hown ⟨sb, so, none⟩ m c news hl hnw' h1 hroom
          obtain ⟨o1, o2⟩ := ho
          rcases o2 with ⟨h0, _⟩ | ⟨gg, cap', cur, hv, _, hh, hle, hmx, hcs, htk⟩
          · cases h0
          · simp only [Value.slice.injEq, Option.some.injEq, Addr.mk.injEq, and_true, true_and] at hv
            obtain ⟨rfl, rfl⟩ := hv
            have hcur : cur.toList = xs ++ news ++ cur.toList.drop ((len + m) * k) := by rw [← htk, List.take_append_drop]
            refine ⟨⟨(some b, cap, cur.toList.drop ((len + m) * k)), ⟨o1, by rw [← hcur]; simpa using hcs, hroom, hsl.max, fun h => by cases h⟩⟩, w', fin _ _ hr, ?_⟩
            refine hp.turn ⟨hg.os, hg.tape, hg.output, hg.size, fun q hq hne => hg.block q hq (by simpa using hne)⟩ ?_
            rw [hh]
            congr 2
            apply Array.toList_inj.1
            exact hcur
        · have holds : ∀ (j : Nat) u, xs[j]? = some u → w.cell? ((⟨b, 0, none⟩ : Addr).add j) = some u := fun j u hu => by
            rw [addr_add, Nat.zero_add, cell_of_heap hbh, List.getElem?_append_left (List.getElem?_eq_some_iff.1 hu).1]; exact hu
          obtain ⟨v', w', hr, ho, hg⟩ := run_append_arg_grows (P := P) w t ty e inf z k by_ ht hi hzz (by simpa using hs) (by simpa using hby) hzs hk0' ⟨b, 0, none⟩ len cap xs hsl.lx holds ⟨sb, so, none⟩ m c news hl hnw' (by omega) h63 hbytes
          have hxt : Ext w w' := ⟨hg.os, hg.tape, hg.output, hg.size, fun q hq => hg.block q hq (by simp)⟩
          obtain ⟨i, hv, hcase⟩ := outNew v' w' ho hg
          refine ⟨i, w', by rw [← hv]; exact fin _ _ hr, ?_⟩
          rcases hcase with ⟨b', L', hb, hL, hge, hh⟩ | ⟨hn, hlm, hpd⟩
          · rw [hb]
            have := hp.grow hxt hge hh
            rw [hL] at this; exact this
          · have := hsl.le; omega

theorem rl_append (pre : List Ent) {post : List Ent} {d t e by_ k len cap m c sb so : Nat} {bo : Option Nat} {xs pad news zs : List Value} {x y : Operand} (ht : P.underlying t = some (.slice e)) (hz : zeroB P e = some zs) (hs : sizeB P e = some k) (hzk : zs.length = k) (hk0 : Nat.blt 0 k = true) (hby : bytesB P e = some by_)
    (hx : EV σ x = some (sv bo len cap)) (hy : EV σ y = some (.slice (some ⟨sb, so, none⟩) m c)) (hμ : μ = pre ++ (bo, e, xs ++ pad) :: post) (hsl : Sl k bo len cap xs pad) (hl : news.length = m * k)
    (hnews : ∀ w, Hp w0 μ w → ∀ j u, news[j]? = some u → w.cell? ⟨sb, so + j, none⟩ = some u) (h1 : ∀ u ∈ news, u.oneCell' = true) (h63 : len + m ≤ maxLen) (hbytes : (len + m) * by_ ≤ 140737488355328) (hd : Nat.blt d n = true)
    (next : ∀ bo' cap' pad', Sl k bo' (len + m) cap' (xs ++ news) pad' → RL P n ops Q rest ((d, sv bo' (len + m) cap') :: σ) w0 (pre ++ (bo', e, xs ++ news ++ pad') :: post)) :
    RL P n ops Q (⟨some d, .call ⟨.builtin .append, #[x, y], #[t, t]⟩, ty, pos, aft, none⟩ :: rest) σ w0 μ := by
  subst hμ
  exact rl_eff (ι := {p : Option Nat × Nat × List Value // Sl k p.1 (len + m) p.2.1 (xs ++ news) p.2.2}) (fun i => sv i.1.1 (len + m) i.1.2.1) (fun i => pre ++ (i.1.1, e, xs ++ news ++ i.1.2.2) :: post)
    (fun dst pos aft g a w hk hp => app_key pre ht hz hs hzk hk0 hby hx hy hsl hl h1 h63 hbytes dst pos aft g a w hk hp (hnews w hp)) hd (fun i => next _ _ _ i.2)

/-- The source of an append: an own block. -/
theorem src_own {i b : Nat} {T : TypeId} {L : List Value} (hm : μ[i]? = some (some b, T, L)) : ∀ w, Hp w0 μ w → ∀ (j : Nat) u, L[j]? = some u → w.cell? ⟨b, 0 + j, none⟩ = some u := fun w hp j u hu => by
  rw [Nat.zero_add]; exact hp.own i hm hu
end
end Go.Proofs.Ytgnnlgmeagipjaa.K
