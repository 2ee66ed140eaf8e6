/- Equal structs and arrays. By an AI agent. -/
import Derived.Test.YtfelindekikaeaaKo
import Derived.Laws.StructEq
set_option linter.unusedVariables false
namespace Go.Proofs.Ytfelindekikaeaa.K
open Go Go.RowKit

theorem run_eqArr2 {P : Program} (w : World) {t e d : Nat} {a b : Int} (ht : P.underlying t = some (.array 2 e)) (he : P.underlying e = some (.int .i64)) (hs : Scal P e) (hz : sizeB P e = some 1) :
    (Op.equalIn (d + 2) t (.agg (List.toArray [.int .i64 a, .int .i64 b])) (.agg (List.toArray [.int .i64 a, .int .i64 b]))).run P w = .ok true w := by
  have h0 : (part e (List.toArray [Value.int .i64 a, Value.int .i64 b]) 0).run P w = .ok (.int .i64 a) w := run_part_s hs (L := [Value.int .i64 a, Value.int .i64 b]) rfl w
  have h1 : (part e (List.toArray [Value.int .i64 a, Value.int .i64 b]) 1).run P w = .ok (.int .i64 b) w := run_part_s hs (L := [Value.int .i64 a, Value.int .i64 b]) rfl w
  have q0 : (Op.equalIn (d + 1) e (.int .i64 a) (.int .i64 a)).run P w = .ok true w := by rw [run_equalIn_int w d e .i64 .i64 a a he]; simp
  have q1 : (Op.equalIn (d + 1) e (.int .i64 b) (.int .i64 b)).run P w = .ok true w := by rw [run_equalIn_int w d e .i64 .i64 b b he]; simp
  rw [Op.equalIn]
  simp only [Sem.run_bind, run_underlying ht, Result.andThen_ok, run_size hz]
  simp [Std.Legacy.Range.forIn_eq_forIn_range', Std.Legacy.Range.size, List.range', h0, h1, q0, q1]

section
variable {P : Program} {n : Nat} {σ : List (Nat × Value)} {w0 : Base} {μ : List Ent} {ty : TypeId} {x y : Operand} {t u : TypeId}
theorem ov_neqArr2 {e : Nat} {a b : Int} (hx : EV σ x = some (.agg (List.toArray [.int .i64 a, .int .i64 b]))) (hy : EV σ y = some (.agg (List.toArray [.int .i64 a, .int .i64 b]))) (ht : P.underlying t = some (.array 2 e)) (he : P.underlying e = some (.int .i64)) (hs : Scal P e) (hz : sizeB P e = some 1) (hg : P.eqGuardType P.depth t = false) :
    OV P n (.binOp .neq t x y u) ty (.bool false) σ w0 μ := fun _ _ _ _ c w hk _ => by
  have hq := run_eqGuard_agg w .neq t x y (List.toArray [Value.int .i64 a, Value.int .i64 b]) (List.toArray [Value.int .i64 a, Value.int .i64 b]) hg
  have hb : (binOp .neq t (.agg (List.toArray [Value.int .i64 a, Value.int .i64 b])) (.agg (List.toArray [Value.int .i64 a, Value.int .i64 b]))).run P w = .ok (.bool false) w := by
    rw [run_neq_struct, show (10000 : Nat) = 9998 + 2 from rfl, run_eqArr2 w ht he hs hz]; rfl
  simp only [execOp, hk.eval hx, hk.eval hy]
  simp only [Sem.run_bind, hq, hb, Result.andThen_ok]
  rfl

/-- A field and its value: one number, or one text. -/
def okF (P : Program) (f : Field) (v : Value) : Bool := match P.underlying f.type, v with
  | some (.int _), .int _ _ => true
  | some .string, .string _ => true
  | _, _ => false
theorem okF_scal {P : Program} {f : Field} {v : Value} (h : okF P f v = true) : Scal P f.type := by
  unfold okF at h
  split at h
  · rename_i k q m ht; exact ⟨_, ht, rfl⟩
  · rename_i s ht; exact ⟨_, ht, rfl⟩
  · cases h
def okFs (P : Program) (L : List Value) (fs : List Field) : Bool := fs.all fun f => match L[f.offset]? with | some v => okF P f v | none => false
theorem run_selfFields (w : World) (d : Nat) (L : List Value) : ∀ fs : List Field, okFs P L fs = true → (Op.eqFields (d + 1) L.toArray L.toArray fs).run P w = .ok true w
  | [], _ => by simp [Op.eqFields]
  | f :: fs, h => by
    unfold okFs at h
    rw [List.all_cons, Bool.and_eq_true] at h
    obtain ⟨h1, h2⟩ := h
    have ih := run_selfFields w d L fs h2
    split at h1
    · rename_i v hv
      have hp := run_part_s (okF_scal h1) hv w
      have hq : (Op.equalIn (d + 1) f.type v v).run P w = .ok true w := by
        unfold okF at h1
        split at h1
        · rename_i k q m ht; rw [run_equalIn_int w d f.type _ k _ _ ht]; simp
        · rename_i s ht; rw [run_equalIn_string w d f.type _ _ ht]; simp
        · cases h1
      simp only [Op.eqFields]
      split
      · simp [Sem.run_bind, hp, hq, ih]
      · exact ih
    · cases h1
theorem ov_neqStruct {L : List Value} (hx : EV σ x = some (.agg L.toArray)) (hy : EV σ y = some (.agg L.toArray)) (ht : P.underlying t = some (.struct (P.fieldsOf t))) (hp : P.stoodInHeld t = false) (hg : P.eqGuardType P.depth t = false) (hL : okFs P L (P.fieldsOf t).toList = true) :
    OV P n (.binOp .neq t x y u) ty (.bool false) σ w0 μ := fun _ _ _ _ c w hk _ => by
  have hq := run_eqGuard_agg w .neq t x y L.toArray L.toArray hg
  have hb : (binOp .neq t (.agg L.toArray) (.agg L.toArray)).run P w = .ok (.bool false) w := by
    rw [run_neq_struct, show (10000 : Nat) = 9998 + 1 + 1 from rfl, run_equalIn_struct w _ t _ _ ht hp, run_selfFields w 9998 L _ hL]; rfl
  simp only [execOp, hk.eval hx, hk.eval hy]
  simp only [Sem.run_bind, hq, hb, Result.andThen_ok]
  rfl
end
end Go.Proofs.Ytfelindekikaeaa.K
