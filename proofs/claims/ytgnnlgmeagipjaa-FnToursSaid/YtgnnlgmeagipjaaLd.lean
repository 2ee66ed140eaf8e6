import Derived.Test.YtgnnlgmeagipjaaRows
import Derived.Test.YtgnnlgmeagipjaaUg
import Derived.Test.YtgnnlgmeagipjaaOa
import Derived.KernelRfl
set_option linter.unusedVariables false
set_option linter.unusedSimpArgs false
namespace Go.Proofs.Ytgnnlgmeagipjaa
open Go Go.RowKit K
namespace fnTours
open Go.ChangeShapes Go.WideShapes Go.ChangeAt
theorem own : ownKnob Try.prog.godebug = none := by kernel_rfl

set_option maxRecDepth 100000 in
theorem lifted (os : Os) (started : os.Started) (H : Type) (enc : TypeId × Value → H) :
    ReturnsInHanded {} Try.checked os 5 .any (Rows.fnToursSpec.pre6 enc Try.prog Try.f5 Rows.fnToursRow.domain false) (Rows.fnToursSpec.post enc Try.prog Try.f5 false true false false) := by
  refine returnsInHanded_of_change (C := Try.checked) own started (by kernel_rfl) Try.func5
    (ChangeSpec.witness6 (enc := enc) (C := Try.checked) false ⟨#[], #[.slice none 0 0], []⟩ 8 (by kernel_rfl) (by kernel_rfl) (by kernel_rfl) (by kernel_rfl)) ?_
  intro W base args ds gs before hval0 hW hcnd _
  have hval : ∀ (j : Nat) t v, Try.f5.params[j]? = some t → args[j]? = some v → Value.okWide Try.prog W .any base t v := hval0
  have hW2 := hW
  obtain ⟨p, q, hA0, hV, _, hfz, hnd⟩ := hW
  obtain ⟨rfl, rfl⟩ := trodVars_none hV
  have hA : DataW.TrodAll enc Try.prog W 0 (fun _ => true) true Try.f5.params.toList args.toList ds p := hA0
  rw [Try.params5] at hA hval
  obtain ⟨v0, vs0, d0, ds0, p0, q0, hargs, rfl, _, h0, r0⟩ := trodAll_cons hA
  obtain ⟨rfl, rfl, _⟩ := trodAll_nil r0
  obtain rfl : args = #[v0] := by cases args; simp_all
  obtain ⟨fu0, hf0⟩ := h0
  obtain ⟨a0, len0, cap0, hv0⟩ := okWide_slice Try.underlying37 (hval 0 37 v0 rfl rfl)
  obtain ⟨xs0, u0, hG0, hcs0, hsr0⟩ := opSlice (en := fun i => [Value.int .u8 i]) (G := fun n => 0 ≤ n ∧ n ≤ 255) (k := 1) Try.underlying37 (by kernel_rfl) (by decide) (fun _ => rfl) (fun fu cs x hh => opU8 Try.underlying5 hh) hf0
  obtain rfl : v0 = u0 := by subst hv0; simpa [Value.cells] using hcs0
  clear hA0 hval0 hA
  refine (law_FnTours xs0 v0 W hG0 hsr0).mono fun e W2 ⟨he, hx⟩ => ?_
  subst he
  exact ⟨_, rfl, law_post Try.underlying4 rfl rfl (by kernel_rfl) (by kernel_rfl) hW2 hx rfl rfl rfl⟩

theorem over : Rows.fnToursRow.holds Try.pinned (OpenSpec.ofChange Rows.fnToursSpec) :=
  OpenClaim.holds_of_wide 5 Try.f5 rfl rfl rfl rfl rfl rfl rfl ⟨rfl, rfl, rfl, rfl, rfl⟩ rfl rfl rfl rfl rfl (by kernel_rfl) Try.func5 (by kernel_rfl)
    (of_decide_eq_true (by kernel_rfl)) (by unfold Func.isWrapper; first | (rw [if_pos (by decide +kernel)]; kernel_rfl) | (rw [if_neg (by decide +kernel)]; exact ⟨rfl, rfl⟩))
    (fun os started H enc _ => lifted os started H enc)
end fnTours
theorem fnTours_holds : Rows.FnToursSaid := fnTours.over

end Go.Proofs.Ytgnnlgmeagipjaa
