import Derived.Test.YtpkmoeenegnonaaTn
import Derived.Test.YtpkmoeenegnonaaTo
import Derived.KernelRfl
set_option linter.unusedVariables false
set_option linter.unusedSimpArgs false
namespace Go.Proofs.Ytpkmoeenegnonaa
open Go Go.RowKit K
theorem law_DaysOf (xs : List Road) (st : List Stay) (ord : List Int) (vxs : Value) (vst : Value) (vord : Value) (w : World) (hGxs : ∀ y ∈ xs, GRoad y) (hsxs : SR w 3 vxs xs.length (flat encRoad xs)) (hGst : ∀ y ∈ st, GStay y) (hsst : SR w 3 vst st.length (flat encStay st)) (hsord : SR w 1 vord ord.length (ints ord)) : Calls Try.prog 10 ([vxs, vst, vord]).toArray w (fun e w' => e = .returned (.bool true) ∧ Ext w w') := by
  have hlenxs := hsxs.len_le
  have hlenst := hsst.len_le
  have hlenord := hsord.len_le
  obtain ⟨aord, capord, rfl, _, _⟩ := hsord.slice
  refine calls_ct Try.func10 Try.ntmps10 rfl rfl ?_
  refine ct_seq ?_
  refine ct_reg ?_
  refine rl_val gw_none (ov_assign rfl) rfl ?_
  refine rl_nil ?_
  refine at_then ?_
  refine ct_seq ?_
  refine ct_seq ?_
  refine ct_reg ?_
  refine rl_val gw_none (ov_move rfl) rfl ?_
  refine rl_val gw_none (ov_len Try.underlying41 rfl) rfl ?_
  refine rl_val gw_none (ov_gtr rfl rfl) rfl ?_
  refine rl_nil ?_
  refine at_then ?_
  first | refine ct_dec rfl (fun h1 => ?_) (fun h1 => ?_) | refine ct_ndec rfl (fun h1 => ?_) (fun h1 => ?_) | refine ct_eq rfl (fun h1 => ?_) (fun h1 => ?_) | refine ct_ne rfl (fun h1 => ?_) (fun h1 => ?_) | refine ct_not rfl (fun h1 => ?_) (fun h1 => ?_) | refine ct_cond rfl (fun h1 => ?_) (fun h1 => ?_)
  ·
    refine ct_seq ?_
    refine ct_reg ?_
    refine rl_val gw_none (ov_assign rfl) rfl ?_
    refine rl_nil ?_
    refine at_then ?_
    refine ct_ret ?_
    refine at_then_ret ?_
    refine at_ret1 Try.results10 (ro_tmp rfl) (fun w1 hp => ?_)
    exact ⟨rfl, hp.ext0⟩
  ·
    have hbord : ord.length ≤ 1048576 := by omega
    have hmord : ord.length ≤ maxLen := by unfold maxLen; omega
    refine ct_skip ?_
    refine at_then ?_
    refine ct_seq ?_
    refine ct_reg ?_
    refine rl_val gw_none (ov_assign rfl) rfl ?_
    refine rl_nil ?_
    refine at_then ?_
    refine ct_seq ?_
    refine ct_reg ?_
    refine rl_val gw_none (ov_move rfl) rfl ?_
    refine rl_val gw_none (ov_move rfl) rfl ?_
    refine rl_callx (ι := Int) (fun r => .int .i64 r) (fun r => r < 0 ∨ (0 ≤ r ∧ r ≤ 1048576 - xs.length)) gw_none goes20 rfl (fun w1 hp => szRoadS_x xs.length 1048576 _ _ _ (hsxs.ext hp.ext0) (by omega)) rfl (fun rxs hrxs => ?_)
    refine rl_val gw_none (ov_assign rfl) rfl ?_
    refine rl_nil ?_
    refine at_then ?_
    refine ct_seq ?_
    refine ct_seq ?_
    refine ct_reg ?_
    refine rl_val gw_none (ov_move rfl) rfl ?_
    refine rl_val gw_none (ov_lss rfl rfl) rfl ?_
    refine rl_nil ?_
    refine at_then ?_
    first | refine ct_dec rfl (fun h2 => ?_) (fun h2 => ?_) | refine ct_ndec rfl (fun h2 => ?_) (fun h2 => ?_) | refine ct_eq rfl (fun h2 => ?_) (fun h2 => ?_) | refine ct_ne rfl (fun h2 => ?_) (fun h2 => ?_) | refine ct_not rfl (fun h2 => ?_) (fun h2 => ?_) | refine ct_cond rfl (fun h2 => ?_) (fun h2 => ?_)
    ·
      refine ct_seq ?_
      refine ct_reg ?_
      refine rl_val gw_none (ov_assign rfl) rfl ?_
      refine rl_nil ?_
      refine at_then ?_
      refine ct_ret ?_
      refine at_then_ret ?_
      refine at_ret1 Try.results10 (ro_tmp rfl) (fun w1 hp => ?_)
      exact ⟨rfl, hp.ext0⟩
    ·
      have hbxs : xs.length ≤ 1048576 := by omega
      have hmxs : xs.length ≤ maxLen := by unfold maxLen; omega
      refine ct_skip ?_
      refine at_then ?_
      refine ct_seq ?_
      refine ct_reg ?_
      refine rl_val gw_none (ov_move rfl) rfl ?_
      refine rl_val gw_none (ov_move rfl) rfl ?_
      refine rl_callx (ι := Int) (fun r => .int .i64 r) (fun r => r < 0 ∨ (0 ≤ r ∧ r ≤ rxs - st.length)) gw_none goes15 rfl (fun w1 hp => szStayS_x st.length rxs _ _ _ (hsst.ext hp.ext0) (by omega)) rfl (fun rst hrst => ?_)
      refine rl_val gw_none (ov_assign rfl) rfl ?_
      refine rl_nil ?_
      refine at_then ?_
      refine ct_seq ?_
      refine ct_seq ?_
      refine ct_reg ?_
      refine rl_val gw_none (ov_move rfl) rfl ?_
      refine rl_val gw_none (ov_lss rfl rfl) rfl ?_
      refine rl_nil ?_
      refine at_then ?_
      first | refine ct_dec rfl (fun h3 => ?_) (fun h3 => ?_) | refine ct_ndec rfl (fun h3 => ?_) (fun h3 => ?_) | refine ct_eq rfl (fun h3 => ?_) (fun h3 => ?_) | refine ct_ne rfl (fun h3 => ?_) (fun h3 => ?_) | refine ct_not rfl (fun h3 => ?_) (fun h3 => ?_) | refine ct_cond rfl (fun h3 => ?_) (fun h3 => ?_)
      ·
        refine ct_seq ?_
        refine ct_reg ?_
        refine rl_val gw_none (ov_assign rfl) rfl ?_
        refine rl_nil ?_
        refine at_then ?_
        refine ct_ret ?_
        refine at_then_ret ?_
        refine at_ret1 Try.results10 (ro_tmp rfl) (fun w1 hp => ?_)
        exact ⟨rfl, hp.ext0⟩
      ·
        have hbst : st.length ≤ 1048576 := by omega
        have hmst : st.length ≤ maxLen := by unfold maxLen; omega
        refine ct_skip ?_
        refine at_then ?_
        refine ct_seq ?_
        refine ct_reg ?_
        refine rl_val gw_none (ov_move rfl) rfl ?_
        refine rl_callnew (fun b => .slice (some ⟨b, 0, none⟩) xs.length xs.length) goes22 rfl (fun w1 hp => toRoadS_c xs _ _ (hsxs.ext hp.ext0) hbxs) rfl (fun b1 => ?_)
        refine rl_val gw_none (ov_move rfl) rfl ?_
        refine rl_callnew (fun b => .slice (some ⟨b, 0, none⟩) st.length st.length) goes17 rfl (fun w1 hp => toStayS_c st _ _ (hsst.ext hp.ext0) hbst) rfl (fun b2 => ?_)
        refine rl_val gw_none (ov_move rfl) rfl ?_
        refine rl_callnew (fun b => .slice (some ⟨b, 0, none⟩) ord.length ord.length) goes49 rfl (fun w1 hp => toIntS_c ord _ _ (hsord.ext hp.ext0) hbord) rfl (fun b3 => ?_)
        refine rl_callv gw_none goes38 rfl (fun w1 hp => sDaysOf_c xs st ord _ _ _ _ hGxs (hp.sr1 2 rfl (flat_length encRoad_len _) hmxs) hGst (hp.sr1 1 rfl (flat_length encStay_len _) hmst) (hp.sr1 0 rfl (by rw [ints_length, Nat.mul_one]) hmord)) rfl ?_
        refine rl_val gw_none (ov_move rfl) rfl ?_
        refine rl_val gw_none (ov_extract rfl rfl) rfl ?_
        refine rl_val gw_none (ov_extract rfl rfl) rfl ?_
        refine rl_val gw_none (ov_assign rfl) rfl ?_
        refine rl_val gw_none (ov_assign rfl) rfl ?_
        refine rl_nil ?_
        refine at_then ?_
        refine ct_seq ?_
        refine ct_reg ?_
        refine rl_val gw_none (ov_move rfl) rfl ?_
        refine rl_callnew (fun b => .slice (some ⟨b, 0, none⟩) xs.length xs.length) goes22 rfl (fun w1 hp => toRoadS_c xs _ _ (hsxs.ext hp.ext0) hbxs) rfl (fun b4 => ?_)
        refine rl_val gw_none (ov_assign rfl) rfl ?_
        refine rl_nil ?_
        refine at_then ?_
        refine ct_seq ?_
        refine ct_reg ?_
        refine rl_val gw_none (ov_move rfl) rfl ?_
        refine rl_callnew (fun b => .slice (some ⟨b, 0, none⟩) st.length st.length) goes17 rfl (fun w1 hp => toStayS_c st _ _ (hsst.ext hp.ext0) hbst) rfl (fun b5 => ?_)
        refine rl_val gw_none (ov_assign rfl) rfl ?_
        refine rl_nil ?_
        refine at_then ?_
        refine ct_seq ?_
        refine ct_reg ?_
        refine rl_val gw_none (ov_move rfl) rfl ?_
        refine rl_callnew (fun b => .slice (some ⟨b, 0, none⟩) ord.length ord.length) goes49 rfl (fun w1 hp => toIntS_c ord _ _ (hsord.ext hp.ext0) hbord) rfl (fun b6 => ?_)
        refine rl_val gw_none (ov_assign rfl) rfl ?_
        refine rl_nil ?_
        refine at_then ?_
        refine ct_seq ?_
        refine ct_reg ?_
        refine rl_val gw_none (ov_move rfl) rfl ?_
        refine rl_val gw_none (ov_move rfl) rfl ?_
        refine rl_val gw_none (ov_move rfl) rfl ?_
        refine rl_callv gw_none goes37 rfl (fun w1 hp => iDaysOf_c xs st ord _ _ _ _ hGxs (hp.sr1 2 rfl (flat_length encRoad_len _) hmxs) hGst (hp.sr1 1 rfl (flat_length encStay_len _) hmst) (hp.sr1 0 rfl (by rw [ints_length, Nat.mul_one]) hmord)) rfl ?_
        refine rl_val gw_none (ov_move rfl) rfl ?_
        refine rl_val gw_none (ov_extract rfl rfl) rfl ?_
        refine rl_val gw_none (ov_extract rfl rfl) rfl ?_
        refine rl_val gw_none (ov_assign rfl) rfl ?_
        refine rl_val gw_none (ov_assign rfl) rfl ?_
        refine rl_nil ?_
        refine at_then ?_
        refine ct_seq ?_
        refine ct_seq ?_
        refine ct_reg ?_
        refine rl_val gw_none (ov_move rfl) rfl ?_
        refine rl_val gw_none (ov_move rfl) rfl ?_
        refine rl_val gw_none (ov_neq rfl rfl) rfl ?_
        refine rl_val gw_none (ov_move rfl) rfl ?_
        refine rl_split (t := 54) rfl (fun g1 => ?_) (fun g1 => ?_)
        ·
          exfalso; first | (simp at g1; omega) | (simp at g1; done) | (simp_all; done)
        ·
          have g1' := g1
          try simp only [Bool.not_eq_true', Bool.not_eq_false', Bool.not_not, decide_eq_true_eq, decide_eq_false_iff_not, beq_iff_eq, beq_eq_false_iff_ne, bne_iff_ne, bne_eq_false_iff_eq, Bool.and_eq_true, Bool.or_eq_true, Bool.and_eq_false_iff, Bool.or_eq_false_iff, inB] at g1'
          refine rl_val (gw_some rfl rfl g1) (ov_move rfl) rfl ?_
          refine rl_val (gw_some rfl rfl g1) (ov_move rfl) rfl ?_
          refine rl_val (gw_some rfl rfl g1) (ov_neb Try.underlying4 rfl rfl) rfl ?_
          refine rl_val gw_none (ov_pick_f rfl g1 rfl) rfl ?_
          refine rl_nil ?_
          refine at_then ?_
          first | refine ct_dec rfl (fun h4 => ?_) (fun h4 => ?_) | refine ct_ndec rfl (fun h4 => ?_) (fun h4 => ?_) | refine ct_eq rfl (fun h4 => ?_) (fun h4 => ?_) | refine ct_ne rfl (fun h4 => ?_) (fun h4 => ?_) | refine ct_not rfl (fun h4 => ?_) (fun h4 => ?_) | refine ct_cond rfl (fun h4 => ?_) (fun h4 => ?_)
          ·
            exfalso; first | omega | exact absurd rfl h4 | (simp at h4; done) | (simp_all; done)
          ·
            refine ct_skip ?_
            refine at_then ?_
            refine ct_seq ?_
            refine ct_seq ?_
            refine ct_reg ?_
            refine rl_val gw_none (ov_move rfl) rfl ?_
            refine rl_val gw_none (ov_move rfl) rfl ?_
            refine rl_callnew (fun b => .slice (some ⟨b, 0, none⟩) xs.length xs.length) goes22 rfl (fun w1 hp => toRoadS_c xs _ _ (hsxs.ext hp.ext0) hbxs) rfl (fun b7 => ?_)
            refine rl_callv gw_none goes24 rfl (fun w1 hp => eqRoadS_c xs _ _ _  (hp.sr1 3 rfl (flat_length encRoad_len _) hmxs) (hp.sr1 0 rfl (flat_length encRoad_len _) hmxs)) rfl ?_
            refine rl_val gw_none (ov_not rfl) rfl ?_
            refine rl_nil ?_
            refine at_then ?_
            refine ct_false rfl rfl ?_
            refine ct_skip ?_
            refine at_then ?_
            refine ct_seq ?_
            refine ct_seq ?_
            refine ct_reg ?_
            refine rl_val gw_none (ov_move rfl) rfl ?_
            refine rl_val gw_none (ov_move rfl) rfl ?_
            refine rl_callnew (fun b => .slice (some ⟨b, 0, none⟩) st.length st.length) goes17 rfl (fun w1 hp => toStayS_c st _ _ (hsst.ext hp.ext0) hbst) rfl (fun b8 => ?_)
            refine rl_callv gw_none goes19 rfl (fun w1 hp => eqStayS_c st _ _ _  (hp.sr1 3 rfl (flat_length encStay_len _) hmst) (hp.sr1 0 rfl (flat_length encStay_len _) hmst)) rfl ?_
            refine rl_val gw_none (ov_not rfl) rfl ?_
            refine rl_nil ?_
            refine at_then ?_
            refine ct_false rfl rfl ?_
            refine ct_skip ?_
            refine at_then ?_
            refine ct_seq ?_
            refine ct_seq ?_
            refine ct_reg ?_
            refine rl_val gw_none (ov_move rfl) rfl ?_
            refine rl_val gw_none (ov_move rfl) rfl ?_
            refine rl_callnew (fun b => .slice (some ⟨b, 0, none⟩) ord.length ord.length) goes49 rfl (fun w1 hp => toIntS_c ord _ _ (hsord.ext hp.ext0) hbord) rfl (fun b9 => ?_)
            refine rl_callv gw_none goes31 rfl (fun w1 hp => eqIntS_c ord _ _ _  (hp.sr1 3 rfl (by rw [ints_length, Nat.mul_one]) hmord) (hp.sr1 0 rfl (by rw [ints_length, Nat.mul_one]) hmord)) rfl ?_
            refine rl_val gw_none (ov_not rfl) rfl ?_
            refine rl_nil ?_
            refine at_then ?_
            refine ct_false rfl rfl ?_
            refine ct_skip ?_
            refine at_then ?_
            refine ct_seq ?_
            refine ct_reg ?_
            refine rl_val gw_none (ov_assign rfl) rfl ?_
            refine rl_nil ?_
            refine at_then ?_
            refine ct_ret ?_
            refine at_ret1 Try.results10 (ro_tmp rfl) (fun w1 hp => ?_)
            exact ⟨rfl, hp.ext0⟩
end Go.Proofs.Ytpkmoeenegnonaa
