import Derived.Test.YtjhlhkglpecdbaaRows
import Derived.Test.YtjhlhkglpecdbaaZn
import Derived.Test.YtjhlhkglpecdbaaOa
import Derived.KernelRfl
set_option linter.unusedVariables false
set_option linter.unusedSimpArgs false
namespace Go.Proofs.Ytjhlhkglpecdbaa
open Go Go.RowKit K
namespace fnExactReachedIn
open Go.ChangeShapes Go.WideShapes Go.ChangeAt
theorem own : ownKnob Try.prog.godebug = none := by kernel_rfl

set_option maxRecDepth 100000 in
theorem lifted (os : Os) (started : os.Started) (H : Type) (enc : TypeId × Value → H) :
    ReturnsInHanded {} Try.checked os 3 .any (Rows.fnExactReachedInSpec.pre6 enc Try.prog Try.f3 Rows.fnExactReachedInRow.domain false) (Rows.fnExactReachedInSpec.post enc Try.prog Try.f3 false true false false) := by
  refine returnsInHanded_of_change (C := Try.checked) own started (by kernel_rfl) Try.func3
    (ChangeSpec.witness6 (enc := enc) (C := Try.checked) false ⟨#[], #[.agg #[.int .i64 0, .int .i64 0, .slice none 0 0], .int .i64 0], []⟩ 8 (by kernel_rfl) (by kernel_rfl) (by kernel_rfl) (by kernel_rfl)) ?_
  intro W base args ds gs before hval0 hW hcnd _
  have hval : ∀ (j : Nat) t v, Try.f3.params[j]? = some t → args[j]? = some v → Value.okWide Try.prog W .any base t v := hval0
  have hW2 := hW
  obtain ⟨p, q, hA0, hV, _, hfz, hnd⟩ := hW
  obtain ⟨rfl, rfl⟩ := trodVars_none hV
  have hA : DataW.TrodAll enc Try.prog W 0 (fun _ => true) true Try.f3.params.toList args.toList ds p := hA0
  rw [Try.params3] at hA hval
  obtain ⟨v0, vs0, d0, ds0, p0, q0, hargs, rfl, _, h0, r0⟩ := trodAll_cons hA
  obtain ⟨v1, vs1, d1, ds1, p1, q1, rfl, rfl, _, h1, r1⟩ := trodAll_cons r0
  obtain ⟨rfl, rfl, _⟩ := trodAll_nil r1
  obtain rfl : args = #[v0, v1] := by cases args; simp_all
  obtain ⟨fu0, hf0⟩ := h0
  obtain ⟨cs0, rfl, hz0⟩ := okWide_struct Try.underlying24 (hval 0 24 v0 rfl rfl)
  have hz0 : cs0.toList.length = 3 := hz0.trans (by kernel_rfl)
  obtain ⟨cc0_0, cc0_1, cc0_2, hcs0⟩ := len3 hz0
  obtain rfl : cs0 = [cc0_0, cc0_1, cc0_2].toArray := by rw [← hcs0, Array.toArray_toList]
  have hf0 : DataW.trod enc Try.prog _ _ _ _ _ 24 [cc0_0, cc0_1, cc0_2] = some _ := hf0
  obtain ⟨_, hfl0_0⟩ := opStruct Try.underlying24 hf0
  obtain ⟨_, _, g0_0_0⟩ := hfl0_0 0 _ rfl
  have hcg0_0_0 : Try.prog.cellsOf 3 = 1 := by kernel_rfl
  have g0_0_0 : DataW.trod enc Try.prog _ _ _ _ _ 3 (([cc0_0, cc0_1, cc0_2].drop 0).take (Try.prog.cellsOf 3)) = some _ := g0_0_0
  rw [hcg0_0_0] at g0_0_0
  obtain ⟨ng0_0_0, rg0_0_0, eg0_0_0⟩ := opInt Try.underlying3 g0_0_0
  obtain rfl : cc0_0 = .int .i64 ng0_0_0 := by simpa using eg0_0_0
  obtain ⟨_, _, g0_0_1⟩ := hfl0_0 1 _ rfl
  have hcg0_0_1 : Try.prog.cellsOf 3 = 1 := by kernel_rfl
  have g0_0_1 : DataW.trod enc Try.prog _ _ _ _ _ 3 (([_, cc0_1, cc0_2].drop 1).take (Try.prog.cellsOf 3)) = some _ := g0_0_1
  rw [hcg0_0_1] at g0_0_1
  obtain ⟨ng0_0_1, rg0_0_1, eg0_0_1⟩ := opInt Try.underlying3 g0_0_1
  obtain rfl : cc0_1 = .int .i64 ng0_0_1 := by simpa using eg0_0_1
  obtain ⟨_, _, g0_0_2⟩ := hfl0_0 2 _ rfl
  have hcg0_0_2 : Try.prog.cellsOf 22 = 1 := by kernel_rfl
  have g0_0_2 : DataW.trod enc Try.prog _ _ _ _ _ 22 (([_, _, cc0_2].drop 2).take (Try.prog.cellsOf 22)) = some _ := g0_0_2
  rw [hcg0_0_2] at g0_0_2
  obtain ⟨xg0_0_2, ug0_0_2, Gg0_0_2, eg0_0_2, sg0_0_2⟩ := opSlice (en := encIntA2) (G := GIntA2) (k := 2) Try.underlying22 (by kernel_rfl) (by decide) encIntA2_len opIntA2 g0_0_2
  obtain rfl : ug0_0_2 = cc0_2 := by simpa using eg0_0_2.symm
  obtain ⟨a1, rfl, rfl, _, z1⟩ := open_int Try.underlying3 (hval 1 3 v1 rfl rfl) h1
  have z1 : In64 a1 := by simpa [Lit.wf, IntKind.min, IntKind.max, IntKind.signed, IntKind.bits, In64] using z1
  clear hA0 hval0 hA
  refine (law_ReachedIn ng0_0_0 ng0_0_1 xg0_0_2 a1 ug0_0_2 W rg0_0_0 rg0_0_1 Gg0_0_2 sg0_0_2 z1).mono fun e W2 ⟨he, hx⟩ => ?_
  subst he
  exact ⟨_, rfl, law_post Try.underlying4 rfl rfl (by kernel_rfl) (by kernel_rfl) hW2 hx rfl rfl rfl⟩

theorem over : Rows.fnExactReachedInRow.holds Try.pinned (OpenSpec.ofChange Rows.fnExactReachedInSpec) :=
  OpenClaim.holds_of_wide 3 Try.f3 rfl rfl rfl rfl rfl rfl rfl ⟨rfl, rfl, rfl, rfl, rfl⟩ rfl rfl rfl rfl rfl (by kernel_rfl) Try.func3 (by kernel_rfl)
    (of_decide_eq_true (by kernel_rfl)) (by unfold Func.isWrapper; first | (rw [if_pos (by decide +kernel)]; kernel_rfl) | (rw [if_neg (by decide +kernel)]; exact ⟨rfl, rfl⟩))
    (fun os started H enc _ => lifted os started H enc)
end fnExactReachedIn
theorem fnExactReachedIn_holds : Rows.FnExactReachedInSaid := fnExactReachedIn.over

end Go.Proofs.Ytjhlhkglpecdbaa
