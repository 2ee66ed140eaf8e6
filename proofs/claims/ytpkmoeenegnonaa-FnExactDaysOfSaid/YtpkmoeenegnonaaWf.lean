import Derived.Test.YtpkmoeenegnonaaRows
import Derived.Test.YtpkmoeenegnonaaTp
import Derived.Test.YtpkmoeenegnonaaOa
import Derived.KernelRfl
set_option linter.unusedVariables false
set_option linter.unusedSimpArgs false
namespace Go.Proofs.Ytpkmoeenegnonaa
open Go Go.RowKit K
namespace fnExactDaysOf
open Go.ChangeShapes Go.WideShapes Go.ChangeAt
theorem own : ownKnob Try.prog.godebug = none := by kernel_rfl

set_option maxRecDepth 100000 in
theorem lifted (os : Os) (started : os.Started) (H : Type) (enc : TypeId × Value → H) :
    ReturnsInHanded {} Try.checked os 10 .any (Rows.fnExactDaysOfSpec.pre6 enc Try.prog Try.f10 Rows.fnExactDaysOfRow.domain false) (Rows.fnExactDaysOfSpec.post enc Try.prog Try.f10 false true false false) := by
  refine returnsInHanded_of_change (C := Try.checked) own started (by kernel_rfl) Try.func10
    (ChangeSpec.witness6 (enc := enc) (C := Try.checked) false ⟨#[], #[.slice none 0 0, .slice none 0 0, .slice none 0 0], []⟩ 8 (by kernel_rfl) (by kernel_rfl) (by kernel_rfl) (by kernel_rfl)) ?_
  intro W base args ds gs before hval0 hW hcnd _
  have hval : ∀ (j : Nat) t v, Try.f10.params[j]? = some t → args[j]? = some v → Value.okWide Try.prog W .any base t v := hval0
  have hW2 := hW
  obtain ⟨p, q, hA0, hV, _, hfz, hnd⟩ := hW
  obtain ⟨rfl, rfl⟩ := trodVars_none hV
  have hA : DataW.TrodAll enc Try.prog W 0 (fun _ => true) true Try.f10.params.toList args.toList ds p := hA0
  rw [Try.params10] at hA hval
  obtain ⟨v0, vs0, d0, ds0, p0, q0, hargs, rfl, _, h0, r0⟩ := trodAll_cons hA
  obtain ⟨v1, vs1, d1, ds1, p1, q1, rfl, rfl, _, h1, r1⟩ := trodAll_cons r0
  obtain ⟨v2, vs2, d2, ds2, p2, q2, rfl, rfl, _, h2, r2⟩ := trodAll_cons r1
  obtain ⟨rfl, rfl, _⟩ := trodAll_nil r2
  obtain rfl : args = #[v0, v1, v2] := by cases args; simp_all
  obtain ⟨fu0, hf0⟩ := h0
  obtain ⟨a0, len0, cap0, hv0⟩ := okWide_slice Try.underlying29 (hval 0 29 v0 rfl rfl)
  obtain ⟨xs0, u0, hG0, hcs0, hsr0⟩ := opSlice (en := encRoad) (G := GRoad) (k := 3) Try.underlying29 (by kernel_rfl) (by decide) encRoad_len opRoad hf0
  obtain rfl : v0 = u0 := by subst hv0; simpa [Value.cells] using hcs0
  obtain ⟨fu1, hf1⟩ := h1
  obtain ⟨a1, len1, cap1, hv1⟩ := okWide_slice Try.underlying22 (hval 1 22 v1 rfl rfl)
  obtain ⟨xs1, u1, hG1, hcs1, hsr1⟩ := opSlice (en := encStay) (G := GStay) (k := 3) Try.underlying22 (by kernel_rfl) (by decide) encStay_len opStay hf1
  obtain rfl : v1 = u1 := by subst hv1; simpa [Value.cells] using hcs1
  obtain ⟨fu2, hf2⟩ := h2
  obtain ⟨a2, len2, cap2, hv2⟩ := okWide_slice Try.underlying41 (hval 2 41 v2 rfl rfl)
  obtain ⟨xs2, u2, hG2, hcs2, hsr2⟩ := opSlice (en := fun i => [Value.int .i64 i]) (G := In64) (k := 1) Try.underlying41 (by kernel_rfl) (by decide) (fun _ => rfl) (fun fu cs x hh => opInt Try.underlying3 hh) hf2
  obtain rfl : v2 = u2 := by subst hv2; simpa [Value.cells] using hcs2
  rw [← ints_flat] at hsr2
  clear hA0 hval0 hA
  refine (law_DaysOf xs0 xs1 xs2 v0 v1 v2 W hG0 hsr0 hG1 hsr1 hsr2).mono fun e W2 ⟨he, hx⟩ => ?_
  subst he
  exact ⟨_, rfl, law_post Try.underlying4 rfl rfl (by kernel_rfl) (by kernel_rfl) hW2 hx rfl rfl rfl⟩

theorem over : Rows.fnExactDaysOfRow.holds Try.pinned (OpenSpec.ofChange Rows.fnExactDaysOfSpec) :=
  OpenClaim.holds_of_wide 10 Try.f10 rfl rfl rfl rfl rfl rfl rfl ⟨rfl, rfl, rfl, rfl, rfl⟩ rfl rfl rfl rfl rfl (by kernel_rfl) Try.func10 (by kernel_rfl)
    (of_decide_eq_true (by kernel_rfl)) (by unfold Func.isWrapper; first | (rw [if_pos (by decide +kernel)]; kernel_rfl) | (rw [if_neg (by decide +kernel)]; exact ⟨rfl, rfl⟩))
    (fun os started H enc _ => lifted os started H enc)
end fnExactDaysOf
theorem fnExactDaysOf_holds : Rows.FnExactDaysOfSaid := fnExactDaysOf.over

end Go.Proofs.Ytpkmoeenegnonaa
