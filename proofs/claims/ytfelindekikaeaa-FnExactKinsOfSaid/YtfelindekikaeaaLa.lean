import Derived.Test.YtfelindekikaeaaRows
import Derived.Test.YtfelindekikaeaaTi
import Derived.Test.YtfelindekikaeaaOa
import Derived.KernelRfl
set_option linter.unusedVariables false
set_option linter.unusedSimpArgs false
namespace Go.Proofs.Ytfelindekikaeaa
open Go Go.RowKit K
namespace fnExactKinsOf
open Go.ChangeShapes Go.WideShapes Go.ChangeAt
theorem own : ownKnob Try.prog.godebug = none := by kernel_rfl

set_option maxRecDepth 100000 in
theorem lifted (os : Os) (started : os.Started) (H : Type) (enc : TypeId × Value → H) :
    ReturnsInHanded {} Try.checked os 3 .any (Rows.fnExactKinsOfSpec.pre6 enc Try.prog Try.f3 Rows.fnExactKinsOfRow.domain false) (Rows.fnExactKinsOfSpec.post enc Try.prog Try.f3 false true false false) := by
  refine returnsInHanded_of_change (C := Try.checked) own started (by kernel_rfl) Try.func3
    (ChangeSpec.witness6 (enc := enc) (C := Try.checked) false ⟨#[], #[.slice none 0 0, .int .i64 0], []⟩ 8 (by kernel_rfl) (by kernel_rfl) (by kernel_rfl) (by kernel_rfl)) ?_
  intro W base args ds gs before hval0 hW hcnd _
  have hval : ∀ (j : Nat) t v, Try.f3.params[j]? = some t → args[j]? = some v → Value.okWide Try.prog W .any base t v := hval0
  have hW2 := hW
  obtain ⟨p, q, hA0, hV, _, hfz, hnd⟩ := hW
  obtain ⟨rfl, rfl⟩ := trodVars_none hV
  have hA : DataW.TrodAll enc Try.prog W 0 (fun _ => true) true Try.f3.params.toList args.toList ds p := hA0
  rw [Try.params3] at hA hval
  obtain ⟨v0, vs0, d0, ds0, p0, q0, hargs, rfl, _, h0, r0⟩ := trodAll_cons hA
  obtain ⟨v1, vs1, d1, ds1, p1, q1, rfl, rfl, _, h1, r1⟩ := trodAll_cons r0
  obtain ⟨rfl, rfl, _⟩ := trodAll_nil r1
  obtain rfl : args = #[v0, v1] := by cases args; simp_all
  obtain ⟨fu0, hf0⟩ := h0
  obtain ⟨a0, len0, cap0, hv0⟩ := okWide_slice Try.underlying22 (hval 0 22 v0 rfl rfl)
  obtain ⟨xs0, u0, hG0, hcs0, hsr0⟩ := opSlice (en := encExhibit) (G := GExhibit) (k := 7) Try.underlying22 (by kernel_rfl) (by decide) encExhibit_len opExhibit hf0
  obtain rfl : v0 = u0 := by subst hv0; simpa [Value.cells] using hcs0
  obtain ⟨a1, rfl, rfl, _, z1⟩ := open_int Try.underlying3 (hval 1 3 v1 rfl rfl) h1
  have z1 : In64 a1 := by simpa [Lit.wf, IntKind.min, IntKind.max, IntKind.signed, IntKind.bits, In64] using z1
  clear hA0 hval0 hA
  refine (law_KinsOf xs0 a1 v0 W hG0 hsr0 z1).mono fun e W2 ⟨he, hx⟩ => ?_
  subst he
  exact ⟨_, rfl, law_post Try.underlying4 rfl rfl (by kernel_rfl) (by kernel_rfl) hW2 hx rfl rfl rfl⟩

theorem over : Rows.fnExactKinsOfRow.holds Try.pinned (OpenSpec.ofChange Rows.fnExactKinsOfSpec) :=
  OpenClaim.holds_of_wide 3 Try.f3 rfl rfl rfl rfl rfl rfl rfl ⟨rfl, rfl, rfl, rfl, rfl⟩ rfl rfl rfl rfl rfl (by kernel_rfl) Try.func3 (by kernel_rfl)
    (of_decide_eq_true (by kernel_rfl)) (by unfold Func.isWrapper; first | (rw [if_pos (by decide +kernel)]; kernel_rfl) | (rw [if_neg (by decide +kernel)]; exact ⟨rfl, rfl⟩))
    (fun os started H enc _ => lifted os started H enc)
end fnExactKinsOf
theorem fnExactKinsOf_holds : Rows.FnExactKinsOfSaid := fnExactKinsOf.over

end Go.Proofs.Ytfelindekikaeaa
