import Derived.Test.YtaajkamfeaafpaaTl
import Derived.KernelRfl
set_option linter.unusedVariables false
set_option linter.unusedSimpArgs false
namespace Go.Proofs.Ytaajkamfeaafpaa
open Go Go.RowKit K
theorem law_CostOf (ws : List Wood) (xs : List Repair) (fr : Int) (vws : Value) (vxs : Value) (w : World) (hGws : ∀ y ∈ ws, GWood y) (hsws : SR w 3 vws ws.length (flat encWood ws)) (hGxs : ∀ y ∈ xs, GRepair y) (hsxs : SR w 5 vxs xs.length (flat encRepair xs)) (zfr : In64 fr) : Calls Try.prog 8 ([vws, vxs, .int .i64 fr]).toArray w (fun e w' => e = .returned (.bool true) ∧ Ext w w') := by
  have hlenws := hsws.len_le
  have hlenxs := hsxs.len_le
  refine calls_ct Try.func8 Try.ntmps8 rfl rfl ?_
  refine ct_seq ?_
  refine ct_reg ?_
  refine rl_val gw_none (ov_assign rfl) rfl ?_
  refine rl_nil ?_
  refine at_then ?_
  refine ct_seq ?_
  refine ct_reg ?_
  refine rl_val gw_none (ov_assign rfl) rfl ?_
  refine rl_nil ?_
  refine at_then ?_
  refine ct_seq ?_
  refine ct_reg ?_
  refine rl_val gw_none (ov_move rfl) rfl ?_
  refine rl_val gw_none (ov_move rfl) rfl ?_
  refine rl_callx (ι := Int) (fun r => .int .i64 r) (fun r => r < 0 ∨ (0 ≤ r ∧ r ≤ 1048576 - ws.length)) gw_none goes15 rfl (fun w1 hp => szWoodS_c ws 1048576 _ _ hGws (hsws.ext hp.ext0) (by omega)) rfl (fun rws hrws => ?_)
  refine rl_val gw_none (ov_assign rfl) rfl ?_
  refine rl_nil ?_
  refine at_then ?_
  refine ct_seq ?_
  refine ct_seq ?_
  refine ct_reg ?_
  refine rl_val gw_none (ov_move rfl) rfl ?_
  refine rl_val gw_none (ov_lss rfl rfl) rfl ?_
  refine rl_nil ?_
  refine at_then ?_
  first | refine ct_dec rfl (fun h1 => ?_) (fun h1 => ?_) | refine ct_ndec rfl (fun h1 => ?_) (fun h1 => ?_) | refine ct_eq rfl (fun h1 => ?_) (fun h1 => ?_) | refine ct_ne rfl (fun h1 => ?_) (fun h1 => ?_) | refine ct_not rfl (fun h1 => ?_) (fun h1 => ?_) | refine ct_cond rfl (fun h1 => ?_) (fun h1 => ?_)
  ·
    refine ct_seq ?_
    refine ct_reg ?_
    refine rl_val gw_none (ov_assign rfl) rfl ?_
    refine rl_nil ?_
    refine at_then ?_
    refine ct_ret ?_
    refine at_then_ret ?_
    refine at_ret1 Try.results8 (ro_tmp rfl) (fun w1 hp => ?_)
    exact ⟨rfl, hp.ext0⟩
  ·
    have hbws : ws.length ≤ 1048576 := by omega
    have hmws : ws.length ≤ maxLen := by unfold maxLen; omega
    refine ct_skip ?_
    refine at_then ?_
    refine ct_seq ?_
    refine ct_reg ?_
    refine rl_val gw_none (ov_move rfl) rfl ?_
    refine rl_val gw_none (ov_move rfl) rfl ?_
    refine rl_callx (ι := Int) (fun r => .int .i64 r) (fun r => r < 0 ∨ (0 ≤ r ∧ r ≤ rws - xs.length)) gw_none goes22 rfl (fun w1 hp => szRepairS_c xs.length rws _ _ _ (hsxs.ext hp.ext0) (by omega)) rfl (fun rxs hrxs => ?_)
    refine rl_val gw_none (ov_assign rfl) rfl ?_
    refine rl_nil ?_
    refine at_then ?_
    refine ct_seq ?_
    refine ct_seq ?_
    refine ct_reg ?_
    refine rl_val gw_none (ov_move rfl) rfl ?_
    refine rl_val gw_none (ov_lss rfl rfl) rfl ?_
    refine rl_nil ?_
    refine at_then ?_
    first | refine ct_dec rfl (fun h2 => ?_) (fun h2 => ?_) | refine ct_ndec rfl (fun h2 => ?_) (fun h2 => ?_) | refine ct_eq rfl (fun h2 => ?_) (fun h2 => ?_) | refine ct_ne rfl (fun h2 => ?_) (fun h2 => ?_) | refine ct_not rfl (fun h2 => ?_) (fun h2 => ?_) | refine ct_cond rfl (fun h2 => ?_) (fun h2 => ?_)
    ·
      refine ct_seq ?_
      refine ct_reg ?_
      refine rl_val gw_none (ov_assign rfl) rfl ?_
      refine rl_nil ?_
      refine at_then ?_
      refine ct_ret ?_
      refine at_then_ret ?_
      refine at_ret1 Try.results8 (ro_tmp rfl) (fun w1 hp => ?_)
      exact ⟨rfl, hp.ext0⟩
    ·
      have hbxs : xs.length ≤ 1048576 := by omega
      have hmxs : xs.length ≤ maxLen := by unfold maxLen; omega
      refine ct_skip ?_
      refine at_then ?_
      refine ct_seq ?_
      refine ct_reg ?_
      refine rl_val gw_none (ov_move rfl) rfl ?_
      refine rl_callnew (fun b => .slice (some ⟨b, 0, none⟩) ws.length ws.length) goes17 rfl (fun w1 hp => toWoodS_c ws _ _ (hsws.ext hp.ext0) hbws) rfl (fun b1 => ?_)
      refine rl_val gw_none (ov_move rfl) rfl ?_
      refine rl_callnew (fun b => .slice (some ⟨b, 0, none⟩) xs.length xs.length) goes24 rfl (fun w1 hp => toRepairS_c xs _ _ (hsxs.ext hp.ext0) hbxs) rfl (fun b2 => ?_)
      refine rl_val gw_none (ov_move rfl) rfl ?_
      refine rl_callv gw_none goes45 rfl (fun w1 hp => sCostOf_c ws xs fr _ _ _ hGws (hp.sr1 1 rfl (flat_length encWood_len _) hmws) hGxs (hp.sr1 0 rfl (flat_length encRepair_len _) hmxs) zfr) rfl ?_
      refine rl_val gw_none (ov_move rfl) rfl ?_
      refine rl_val gw_none (ov_extract rfl rfl) rfl ?_
      refine rl_val gw_none (ov_extract rfl rfl) rfl ?_
      refine rl_val gw_none (ov_assign rfl) rfl ?_
      refine rl_val gw_none (ov_assign rfl) rfl ?_
      refine rl_nil ?_
      refine at_then ?_
      refine ct_seq ?_
      refine ct_reg ?_
      refine rl_val gw_none (ov_move rfl) rfl ?_
      refine rl_callnew (fun b => .slice (some ⟨b, 0, none⟩) ws.length ws.length) goes17 rfl (fun w1 hp => toWoodS_c ws _ _ (hsws.ext hp.ext0) hbws) rfl (fun b3 => ?_)
      refine rl_val gw_none (ov_assign rfl) rfl ?_
      refine rl_nil ?_
      refine at_then ?_
      refine ct_seq ?_
      refine ct_reg ?_
      refine rl_val gw_none (ov_move rfl) rfl ?_
      refine rl_callnew (fun b => .slice (some ⟨b, 0, none⟩) xs.length xs.length) goes24 rfl (fun w1 hp => toRepairS_c xs _ _ (hsxs.ext hp.ext0) hbxs) rfl (fun b4 => ?_)
      refine rl_val gw_none (ov_assign rfl) rfl ?_
      refine rl_nil ?_
      refine at_then ?_
      refine ct_seq ?_
      refine ct_reg ?_
      refine rl_val gw_none (ov_move rfl) rfl ?_
      refine rl_val gw_none (ov_move rfl) rfl ?_
      refine rl_val gw_none (ov_move rfl) rfl ?_
      refine rl_callv gw_none goes46 rfl (fun w1 hp => iCostOf_c ws xs fr _ _ _ hGws (hp.sr1 1 rfl (flat_length encWood_len _) hmws) hGxs (hp.sr1 0 rfl (flat_length encRepair_len _) hmxs) zfr) rfl ?_
      refine rl_val gw_none (ov_move rfl) rfl ?_
      refine rl_val gw_none (ov_extract rfl rfl) rfl ?_
      refine rl_val gw_none (ov_extract rfl rfl) rfl ?_
      refine rl_val gw_none (ov_assign rfl) rfl ?_
      refine rl_val gw_none (ov_assign rfl) rfl ?_
      refine rl_nil ?_
      refine at_then ?_
      refine ct_seq ?_
      refine ct_seq ?_
      refine ct_reg ?_
      refine rl_val gw_none (ov_move rfl) rfl ?_
      refine rl_val gw_none (ov_move rfl) rfl ?_
      refine rl_val gw_none (ov_neq rfl rfl) rfl ?_
      refine rl_val gw_none (ov_move rfl) rfl ?_
      refine rl_split (t := 47) rfl (fun g1 => ?_) (fun g1 => ?_)
      ·
        exfalso; first | (simp at g1; omega) | (simp at g1; done) | (simp_all; done)
      ·
        have g1' := g1
        try simp only [Bool.not_eq_true', Bool.not_eq_false', Bool.not_not, decide_eq_true_eq, decide_eq_false_iff_not, beq_iff_eq, beq_eq_false_iff_ne, bne_iff_ne, bne_eq_false_iff_eq, Bool.and_eq_true, Bool.or_eq_true, Bool.and_eq_false_iff, Bool.or_eq_false_iff, inB] at g1'
        refine rl_val (gw_some rfl rfl g1) (ov_move rfl) rfl ?_
        refine rl_val (gw_some rfl rfl g1) (ov_move rfl) rfl ?_
        refine rl_val (gw_some rfl rfl g1) (ov_neb Try.underlying4 rfl rfl) rfl ?_
        refine rl_val gw_none (ov_pick_f rfl g1 rfl) rfl ?_
        refine rl_nil ?_
        refine at_then ?_
        first | refine ct_dec rfl (fun h3 => ?_) (fun h3 => ?_) | refine ct_ndec rfl (fun h3 => ?_) (fun h3 => ?_) | refine ct_eq rfl (fun h3 => ?_) (fun h3 => ?_) | refine ct_ne rfl (fun h3 => ?_) (fun h3 => ?_) | refine ct_not rfl (fun h3 => ?_) (fun h3 => ?_) | refine ct_cond rfl (fun h3 => ?_) (fun h3 => ?_)
        ·
          exfalso; first | omega | exact absurd rfl h3 | (simp at h3; done) | (simp_all; done)
        ·
          refine ct_skip ?_
          refine at_then ?_
          refine ct_seq ?_
          refine ct_seq ?_
          refine ct_reg ?_
          refine rl_val gw_none (ov_move rfl) rfl ?_
          refine rl_val gw_none (ov_move rfl) rfl ?_
          refine rl_callnew (fun b => .slice (some ⟨b, 0, none⟩) ws.length ws.length) goes17 rfl (fun w1 hp => toWoodS_c ws _ _ (hsws.ext hp.ext0) hbws) rfl (fun b5 => ?_)
          refine rl_callv gw_none goes19 rfl (fun w1 hp => eqWoodS_c ws _ _ _ (hp.sr1 2 rfl (flat_length encWood_len _) hmws) (hp.sr1 0 rfl (flat_length encWood_len _) hmws)) rfl ?_
          refine rl_val gw_none (ov_not rfl) rfl ?_
          refine rl_nil ?_
          refine at_then ?_
          refine ct_false rfl rfl ?_
          refine ct_skip ?_
          refine at_then ?_
          refine ct_seq ?_
          refine ct_seq ?_
          refine ct_reg ?_
          refine rl_val gw_none (ov_move rfl) rfl ?_
          refine rl_val gw_none (ov_move rfl) rfl ?_
          refine rl_callnew (fun b => .slice (some ⟨b, 0, none⟩) xs.length xs.length) goes24 rfl (fun w1 hp => toRepairS_c xs _ _ (hsxs.ext hp.ext0) hbxs) rfl (fun b6 => ?_)
          refine rl_callv gw_none goes27 rfl (fun w1 hp => eqRepairS_c xs _ _ _ (hp.sr1 2 rfl (flat_length encRepair_len _) hmxs) (hp.sr1 0 rfl (flat_length encRepair_len _) hmxs)) rfl ?_
          refine rl_val gw_none (ov_not rfl) rfl ?_
          refine rl_nil ?_
          refine at_then ?_
          refine ct_false rfl rfl ?_
          refine ct_skip ?_
          refine at_then ?_
          refine ct_seq ?_
          refine ct_reg ?_
          refine rl_val gw_none (ov_assign rfl) rfl ?_
          refine rl_nil ?_
          refine at_then ?_
          refine ct_ret ?_
          refine at_ret1 Try.results8 (ro_tmp rfl) (fun w1 hp => ?_)
          exact ⟨rfl, hp.ext0⟩

theorem law_MinutesFor (ws : List Wood) (xs : List Repair) (fr : Int) (vws : Value) (vxs : Value) (w : World) (hGws : ∀ y ∈ ws, GWood y) (hsws : SR w 3 vws ws.length (flat encWood ws)) (hGxs : ∀ y ∈ xs, GRepair y) (hsxs : SR w 5 vxs xs.length (flat encRepair xs)) (zfr : In64 fr) : Calls Try.prog 9 ([vws, vxs, .int .i64 fr]).toArray w (fun e w' => e = .returned (.bool true) ∧ Ext w w') := by
  have hlenws := hsws.len_le
  have hlenxs := hsxs.len_le
  refine calls_ct Try.func9 Try.ntmps9 rfl rfl ?_
  refine ct_seq ?_
  refine ct_reg ?_
  refine rl_val gw_none (ov_assign rfl) rfl ?_
  refine rl_nil ?_
  refine at_then ?_
  refine ct_seq ?_
  refine ct_reg ?_
  refine rl_val gw_none (ov_assign rfl) rfl ?_
  refine rl_nil ?_
  refine at_then ?_
  refine ct_seq ?_
  refine ct_reg ?_
  refine rl_val gw_none (ov_move rfl) rfl ?_
  refine rl_val gw_none (ov_move rfl) rfl ?_
  refine rl_callx (ι := Int) (fun r => .int .i64 r) (fun r => r < 0 ∨ (0 ≤ r ∧ r ≤ 1048576 - ws.length)) gw_none goes15 rfl (fun w1 hp => szWoodS_c ws 1048576 _ _ hGws (hsws.ext hp.ext0) (by omega)) rfl (fun rws hrws => ?_)
  refine rl_val gw_none (ov_assign rfl) rfl ?_
  refine rl_nil ?_
  refine at_then ?_
  refine ct_seq ?_
  refine ct_seq ?_
  refine ct_reg ?_
  refine rl_val gw_none (ov_move rfl) rfl ?_
  refine rl_val gw_none (ov_lss rfl rfl) rfl ?_
  refine rl_nil ?_
  refine at_then ?_
  first | refine ct_dec rfl (fun h1 => ?_) (fun h1 => ?_) | refine ct_ndec rfl (fun h1 => ?_) (fun h1 => ?_) | refine ct_eq rfl (fun h1 => ?_) (fun h1 => ?_) | refine ct_ne rfl (fun h1 => ?_) (fun h1 => ?_) | refine ct_not rfl (fun h1 => ?_) (fun h1 => ?_) | refine ct_cond rfl (fun h1 => ?_) (fun h1 => ?_)
  ·
    refine ct_seq ?_
    refine ct_reg ?_
    refine rl_val gw_none (ov_assign rfl) rfl ?_
    refine rl_nil ?_
    refine at_then ?_
    refine ct_ret ?_
    refine at_then_ret ?_
    refine at_ret1 Try.results9 (ro_tmp rfl) (fun w1 hp => ?_)
    exact ⟨rfl, hp.ext0⟩
  ·
    have hbws : ws.length ≤ 1048576 := by omega
    have hmws : ws.length ≤ maxLen := by unfold maxLen; omega
    refine ct_skip ?_
    refine at_then ?_
    refine ct_seq ?_
    refine ct_reg ?_
    refine rl_val gw_none (ov_move rfl) rfl ?_
    refine rl_val gw_none (ov_move rfl) rfl ?_
    refine rl_callx (ι := Int) (fun r => .int .i64 r) (fun r => r < 0 ∨ (0 ≤ r ∧ r ≤ rws - xs.length)) gw_none goes22 rfl (fun w1 hp => szRepairS_c xs.length rws _ _ _ (hsxs.ext hp.ext0) (by omega)) rfl (fun rxs hrxs => ?_)
    refine rl_val gw_none (ov_assign rfl) rfl ?_
    refine rl_nil ?_
    refine at_then ?_
    refine ct_seq ?_
    refine ct_seq ?_
    refine ct_reg ?_
    refine rl_val gw_none (ov_move rfl) rfl ?_
    refine rl_val gw_none (ov_lss rfl rfl) rfl ?_
    refine rl_nil ?_
    refine at_then ?_
    first | refine ct_dec rfl (fun h2 => ?_) (fun h2 => ?_) | refine ct_ndec rfl (fun h2 => ?_) (fun h2 => ?_) | refine ct_eq rfl (fun h2 => ?_) (fun h2 => ?_) | refine ct_ne rfl (fun h2 => ?_) (fun h2 => ?_) | refine ct_not rfl (fun h2 => ?_) (fun h2 => ?_) | refine ct_cond rfl (fun h2 => ?_) (fun h2 => ?_)
    ·
      refine ct_seq ?_
      refine ct_reg ?_
      refine rl_val gw_none (ov_assign rfl) rfl ?_
      refine rl_nil ?_
      refine at_then ?_
      refine ct_ret ?_
      refine at_then_ret ?_
      refine at_ret1 Try.results9 (ro_tmp rfl) (fun w1 hp => ?_)
      exact ⟨rfl, hp.ext0⟩
    ·
      have hbxs : xs.length ≤ 1048576 := by omega
      have hmxs : xs.length ≤ maxLen := by unfold maxLen; omega
      refine ct_skip ?_
      refine at_then ?_
      refine ct_seq ?_
      refine ct_reg ?_
      refine rl_val gw_none (ov_move rfl) rfl ?_
      refine rl_callnew (fun b => .slice (some ⟨b, 0, none⟩) ws.length ws.length) goes17 rfl (fun w1 hp => toWoodS_c ws _ _ (hsws.ext hp.ext0) hbws) rfl (fun b1 => ?_)
      refine rl_val gw_none (ov_move rfl) rfl ?_
      refine rl_callnew (fun b => .slice (some ⟨b, 0, none⟩) xs.length xs.length) goes24 rfl (fun w1 hp => toRepairS_c xs _ _ (hsxs.ext hp.ext0) hbxs) rfl (fun b2 => ?_)
      refine rl_val gw_none (ov_move rfl) rfl ?_
      refine rl_callv gw_none goes43 rfl (fun w1 hp => sMinutesFor_c ws xs fr _ _ _ hGws (hp.sr1 1 rfl (flat_length encWood_len _) hmws) hGxs (hp.sr1 0 rfl (flat_length encRepair_len _) hmxs) zfr) rfl ?_
      refine rl_val gw_none (ov_move rfl) rfl ?_
      refine rl_val gw_none (ov_extract rfl rfl) rfl ?_
      refine rl_val gw_none (ov_extract rfl rfl) rfl ?_
      refine rl_val gw_none (ov_assign rfl) rfl ?_
      refine rl_val gw_none (ov_assign rfl) rfl ?_
      refine rl_nil ?_
      refine at_then ?_
      refine ct_seq ?_
      refine ct_reg ?_
      refine rl_val gw_none (ov_move rfl) rfl ?_
      refine rl_callnew (fun b => .slice (some ⟨b, 0, none⟩) ws.length ws.length) goes17 rfl (fun w1 hp => toWoodS_c ws _ _ (hsws.ext hp.ext0) hbws) rfl (fun b3 => ?_)
      refine rl_val gw_none (ov_assign rfl) rfl ?_
      refine rl_nil ?_
      refine at_then ?_
      refine ct_seq ?_
      refine ct_reg ?_
      refine rl_val gw_none (ov_move rfl) rfl ?_
      refine rl_callnew (fun b => .slice (some ⟨b, 0, none⟩) xs.length xs.length) goes24 rfl (fun w1 hp => toRepairS_c xs _ _ (hsxs.ext hp.ext0) hbxs) rfl (fun b4 => ?_)
      refine rl_val gw_none (ov_assign rfl) rfl ?_
      refine rl_nil ?_
      refine at_then ?_
      refine ct_seq ?_
      refine ct_reg ?_
      refine rl_val gw_none (ov_move rfl) rfl ?_
      refine rl_val gw_none (ov_move rfl) rfl ?_
      refine rl_val gw_none (ov_move rfl) rfl ?_
      refine rl_callv gw_none goes40 rfl (fun w1 hp => iMinutesFor_c ws xs fr _ _ _ hGws (hp.sr1 1 rfl (flat_length encWood_len _) hmws) hGxs (hp.sr1 0 rfl (flat_length encRepair_len _) hmxs) zfr) rfl ?_
      refine rl_val gw_none (ov_move rfl) rfl ?_
      refine rl_val gw_none (ov_extract rfl rfl) rfl ?_
      refine rl_val gw_none (ov_extract rfl rfl) rfl ?_
      refine rl_val gw_none (ov_assign rfl) rfl ?_
      refine rl_val gw_none (ov_assign rfl) rfl ?_
      refine rl_nil ?_
      refine at_then ?_
      refine ct_seq ?_
      refine ct_seq ?_
      refine ct_reg ?_
      refine rl_val gw_none (ov_move rfl) rfl ?_
      refine rl_val gw_none (ov_move rfl) rfl ?_
      refine rl_val gw_none (ov_neq rfl rfl) rfl ?_
      refine rl_val gw_none (ov_move rfl) rfl ?_
      refine rl_split (t := 47) rfl (fun g1 => ?_) (fun g1 => ?_)
      ·
        exfalso; first | (simp at g1; omega) | (simp at g1; done) | (simp_all; done)
      ·
        have g1' := g1
        try simp only [Bool.not_eq_true', Bool.not_eq_false', Bool.not_not, decide_eq_true_eq, decide_eq_false_iff_not, beq_iff_eq, beq_eq_false_iff_ne, bne_iff_ne, bne_eq_false_iff_eq, Bool.and_eq_true, Bool.or_eq_true, Bool.and_eq_false_iff, Bool.or_eq_false_iff, inB] at g1'
        refine rl_val (gw_some rfl rfl g1) (ov_move rfl) rfl ?_
        refine rl_val (gw_some rfl rfl g1) (ov_move rfl) rfl ?_
        refine rl_val (gw_some rfl rfl g1) (ov_neb Try.underlying4 rfl rfl) rfl ?_
        refine rl_val gw_none (ov_pick_f rfl g1 rfl) rfl ?_
        refine rl_nil ?_
        refine at_then ?_
        first | refine ct_dec rfl (fun h3 => ?_) (fun h3 => ?_) | refine ct_ndec rfl (fun h3 => ?_) (fun h3 => ?_) | refine ct_eq rfl (fun h3 => ?_) (fun h3 => ?_) | refine ct_ne rfl (fun h3 => ?_) (fun h3 => ?_) | refine ct_not rfl (fun h3 => ?_) (fun h3 => ?_) | refine ct_cond rfl (fun h3 => ?_) (fun h3 => ?_)
        ·
          exfalso; first | omega | exact absurd rfl h3 | (simp at h3; done) | (simp_all; done)
        ·
          refine ct_skip ?_
          refine at_then ?_
          refine ct_seq ?_
          refine ct_seq ?_
          refine ct_reg ?_
          refine rl_val gw_none (ov_move rfl) rfl ?_
          refine rl_val gw_none (ov_move rfl) rfl ?_
          refine rl_callnew (fun b => .slice (some ⟨b, 0, none⟩) ws.length ws.length) goes17 rfl (fun w1 hp => toWoodS_c ws _ _ (hsws.ext hp.ext0) hbws) rfl (fun b5 => ?_)
          refine rl_callv gw_none goes19 rfl (fun w1 hp => eqWoodS_c ws _ _ _ (hp.sr1 2 rfl (flat_length encWood_len _) hmws) (hp.sr1 0 rfl (flat_length encWood_len _) hmws)) rfl ?_
          refine rl_val gw_none (ov_not rfl) rfl ?_
          refine rl_nil ?_
          refine at_then ?_
          refine ct_false rfl rfl ?_
          refine ct_skip ?_
          refine at_then ?_
          refine ct_seq ?_
          refine ct_seq ?_
          refine ct_reg ?_
          refine rl_val gw_none (ov_move rfl) rfl ?_
          refine rl_val gw_none (ov_move rfl) rfl ?_
          refine rl_callnew (fun b => .slice (some ⟨b, 0, none⟩) xs.length xs.length) goes24 rfl (fun w1 hp => toRepairS_c xs _ _ (hsxs.ext hp.ext0) hbxs) rfl (fun b6 => ?_)
          refine rl_callv gw_none goes27 rfl (fun w1 hp => eqRepairS_c xs _ _ _ (hp.sr1 2 rfl (flat_length encRepair_len _) hmxs) (hp.sr1 0 rfl (flat_length encRepair_len _) hmxs)) rfl ?_
          refine rl_val gw_none (ov_not rfl) rfl ?_
          refine rl_nil ?_
          refine at_then ?_
          refine ct_false rfl rfl ?_
          refine ct_skip ?_
          refine at_then ?_
          refine ct_seq ?_
          refine ct_reg ?_
          refine rl_val gw_none (ov_assign rfl) rfl ?_
          refine rl_nil ?_
          refine at_then ?_
          refine ct_ret ?_
          refine at_ret1 Try.results9 (ro_tmp rfl) (fun w1 hp => ?_)
          exact ⟨rfl, hp.ext0⟩
end Go.Proofs.Ytaajkamfeaafpaa
