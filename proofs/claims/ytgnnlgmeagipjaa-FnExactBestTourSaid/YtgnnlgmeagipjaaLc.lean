import Derived.Test.YtgnnlgmeagipjaaRows
import Derived.Test.YtgnnlgmeagipjaaVe
import Derived.Test.YtgnnlgmeagipjaaOa
import Derived.KernelRfl
set_option linter.unusedVariables false
set_option linter.unusedSimpArgs false
namespace Go.Proofs.Ytgnnlgmeagipjaa
open Go Go.RowKit K
namespace fnExactBestTour
open Go.ChangeShapes Go.WideShapes Go.ChangeAt
theorem own : ownKnob Try.prog.godebug = none := by kernel_rfl

set_option maxRecDepth 100000 in
theorem lifted (os : Os) (started : os.Started) (H : Type) (enc : TypeId × Value → H) :
    ReturnsInHanded {} Try.checked os 4 .any (Rows.fnExactBestTourSpec.pre6 enc Try.prog Try.f4 Rows.fnExactBestTourRow.domain false) (Rows.fnExactBestTourSpec.post enc Try.prog Try.f4 false true false false) := by
  refine returnsInHanded_of_change (C := Try.checked) own started (by kernel_rfl) Try.func4
    (ChangeSpec.witness6 (enc := enc) (C := Try.checked) false ⟨#[], #[.slice none 0 0, .slice none 0 0, .int .i64 0], []⟩ 8 (by kernel_rfl) (by kernel_rfl) (by kernel_rfl) (by kernel_rfl)) ?_
  intro W base args ds gs before hval0 hW hcnd _
  have hval : ∀ (j : Nat) t v, Try.f4.params[j]? = some t → args[j]? = some v → Value.okWide Try.prog W .any base t v := hval0
  have hW2 := hW
  obtain ⟨p, q, hA0, hV, _, hfz, hnd⟩ := hW
  obtain ⟨rfl, rfl⟩ := trodVars_none hV
  have hA : DataW.TrodAll enc Try.prog W 0 (fun _ => true) true Try.f4.params.toList args.toList ds p := hA0
  rw [Try.params4] at hA hval
  obtain ⟨v0, vs0, d0, ds0, p0, q0, hargs, rfl, _, h0, r0⟩ := trodAll_cons hA
  obtain ⟨v1, vs1, d1, ds1, p1, q1, rfl, rfl, _, h1, r1⟩ := trodAll_cons r0
  obtain ⟨v2, vs2, d2, ds2, p2, q2, rfl, rfl, _, h2, r2⟩ := trodAll_cons r1
  obtain ⟨rfl, rfl, _⟩ := trodAll_nil r2
  obtain rfl : args = #[v0, v1, v2] := by cases args; simp_all
  obtain ⟨fu0, hf0⟩ := h0
  obtain ⟨a0, len0, cap0, hv0⟩ := okWide_slice Try.underlying22 (hval 0 22 v0 rfl rfl)
  obtain ⟨xs0, u0, hG0, hcs0, hsr0⟩ := opSlice (en := encRoad) (G := GRoad) (k := 3) Try.underlying22 (by kernel_rfl) (by decide) encRoad_len opRoad hf0
  obtain rfl : v0 = u0 := by subst hv0; simpa [Value.cells] using hcs0
  obtain ⟨fu1, hf1⟩ := h1
  obtain ⟨a1, len1, cap1, hv1⟩ := okWide_slice Try.underlying23 (hval 1 23 v1 rfl rfl)
  obtain ⟨xs1, u1, hG1, hcs1, hsr1⟩ := opSlice (en := encStay) (G := GStay) (k := 3) Try.underlying23 (by kernel_rfl) (by decide) encStay_len opStay hf1
  obtain rfl : v1 = u1 := by subst hv1; simpa [Value.cells] using hcs1
  obtain ⟨a2, rfl, rfl, _, z2⟩ := open_int Try.underlying3 (hval 2 3 v2 rfl rfl) h2
  have z2 : In64 a2 := by simpa [Lit.wf, IntKind.min, IntKind.max, IntKind.signed, IntKind.bits, In64] using z2
  clear hA0 hval0 hA
  refine (law_BestTour xs0 xs1 a2 v0 v1 W hG0 hsr0 hG1 hsr1 z2).mono fun e W2 ⟨he, hx⟩ => ?_
  subst he
  exact ⟨_, rfl, law_post Try.underlying4 rfl rfl (by kernel_rfl) (by kernel_rfl) hW2 hx rfl rfl rfl⟩

theorem over : Rows.fnExactBestTourRow.holds Try.pinned (OpenSpec.ofChange Rows.fnExactBestTourSpec) :=
  OpenClaim.holds_of_wide 4 Try.f4 rfl rfl rfl rfl rfl rfl rfl ⟨rfl, rfl, rfl, rfl, rfl⟩ rfl rfl rfl rfl rfl (by kernel_rfl) Try.func4 (by kernel_rfl)
    (of_decide_eq_true (by kernel_rfl)) (by unfold Func.isWrapper; first | (rw [if_pos (by decide +kernel)]; kernel_rfl) | (rw [if_neg (by decide +kernel)]; exact ⟨rfl, rfl⟩))
    (fun os started H enc _ => lifted os started H enc)
end fnExactBestTour
theorem fnExactBestTour_holds : Rows.FnExactBestTourSaid := fnExactBestTour.over

end Go.Proofs.Ytgnnlgmeagipjaa
