import Derived.Test.YtpkmoeenegnonaaTb
import Derived.Test.YtpkmoeenegnonaaTd
import Derived.KernelRfl
set_option linter.unusedVariables false
set_option linter.unusedSimpArgs false
namespace Go.Proofs.Ytpkmoeenegnonaa
open Go Go.RowKit K
theorem law_AreStays (xs : List Stay) (v : Value) (w : World) (hsr : SR w 3 v xs.length (flat encStay xs)) : Calls Try.prog 3 ([v]).toArray w (fun e w' => e = .returned (.bool true) ∧ Ext w w') := by
  have hlen := hsr.len_le
  refine calls_ct Try.func3 Try.ntmps3 rfl rfl ?_
  refine ct_seq ?_
  refine ct_reg ?_
  refine rl_val gw_none (ov_assign rfl) rfl ?_
  refine rl_nil ?_
  refine at_then ?_
  refine ct_seq ?_
  refine ct_reg ?_
  refine rl_val gw_none (ov_assign rfl) rfl ?_
  refine rl_nil ?_
  refine at_then ?_
  refine ct_seq ?_
  refine ct_reg ?_
  refine rl_val gw_none (ov_move rfl) rfl ?_
  refine rl_val gw_none (ov_move rfl) rfl ?_
  refine rl_callv gw_none goes15 rfl (fun w1 hp => szStayS_c (xs.length : Int) _ _ _ _ rfl _ (hsr.ext hp.ext0) (by omega)) rfl ?_
  refine rl_val gw_none (ov_assign rfl) rfl ?_
  refine rl_nil ?_
  refine at_then ?_
  refine ct_seq ?_
  refine ct_seq ?_
  refine ct_reg ?_
  refine rl_val gw_none (ov_move rfl) rfl ?_
  refine rl_val gw_none (ov_lss rfl rfl) rfl ?_
  refine rl_nil ?_
  refine at_then ?_
  first | refine ct_dec rfl (fun h1 => ?_) (fun h1 => ?_) | refine ct_ndec rfl (fun h1 => ?_) (fun h1 => ?_) | refine ct_eq rfl (fun h1 => ?_) (fun h1 => ?_) | refine ct_ne rfl (fun h1 => ?_) (fun h1 => ?_) | refine ct_not rfl (fun h1 => ?_) (fun h1 => ?_) | refine ct_cond rfl (fun h1 => ?_) (fun h1 => ?_)
  ·
    refine ct_seq ?_
    refine ct_reg ?_
    refine rl_val gw_none (ov_assign rfl) rfl ?_
    refine rl_nil ?_
    refine at_then ?_
    refine ct_ret ?_
    refine at_then_ret ?_
    refine at_ret1 Try.results3 (ro_tmp rfl) (fun w1 hp => ?_)
    exact ⟨rfl, hp.ext0⟩
  ·
    have hbd : xs.length ≤ 1048576 := by split at h1 <;> omega
    have hmx : xs.length ≤ maxLen := by unfold maxLen; omega
    refine ct_skip ?_
    refine at_then ?_
    refine ct_seq ?_
    refine ct_reg ?_
    refine rl_val gw_none (ov_move rfl) rfl ?_
    refine rl_callnew (fun b => .slice (some ⟨b, 0, none⟩) xs.length xs.length) goes17 rfl (fun w1 hp => toStayS_c xs _ _ (hsr.ext hp.ext0) hbd) rfl (fun b1 => ?_)
    refine rl_callv gw_none goes16 rfl (fun w1 hp => sAreStays_c xs _ _ (hp.sr1 0 rfl (flat_length encStay_len _) hmx)) rfl ?_
    refine rl_val gw_none (ov_assign rfl) rfl ?_
    refine rl_nil ?_
    refine at_then ?_
    refine ct_seq ?_
    refine ct_reg ?_
    refine rl_val gw_none (ov_move rfl) rfl ?_
    refine rl_callnew (fun b => .slice (some ⟨b, 0, none⟩) xs.length xs.length) goes17 rfl (fun w1 hp => toStayS_c xs _ _ (hsr.ext hp.ext0) hbd) rfl (fun b2 => ?_)
    refine rl_val gw_none (ov_assign rfl) rfl ?_
    refine rl_nil ?_
    refine at_then ?_
    refine ct_seq ?_
    refine ct_reg ?_
    refine rl_val gw_none (ov_move rfl) rfl ?_
    refine rl_callv gw_none goes18 rfl (fun w1 hp => iAreStays_c xs _ _ (hp.sr1 0 rfl (flat_length encStay_len _) hmx)) rfl ?_
    refine rl_val gw_none (ov_assign rfl) rfl ?_
    refine rl_nil ?_
    refine at_then ?_
    refine ct_seq ?_
    refine ct_seq ?_
    refine ct_reg ?_
    refine rl_val gw_none (ov_move rfl) rfl ?_
    refine rl_val gw_none (ov_move rfl) rfl ?_
    refine rl_val gw_none (ov_neb Try.underlying4 rfl rfl) rfl ?_
    refine rl_nil ?_
    refine at_then ?_
    first | refine ct_dec rfl (fun h2 => ?_) (fun h2 => ?_) | refine ct_ndec rfl (fun h2 => ?_) (fun h2 => ?_) | refine ct_eq rfl (fun h2 => ?_) (fun h2 => ?_) | refine ct_ne rfl (fun h2 => ?_) (fun h2 => ?_) | refine ct_not rfl (fun h2 => ?_) (fun h2 => ?_) | refine ct_cond rfl (fun h2 => ?_) (fun h2 => ?_)
    ·
      exact absurd rfl h2
    ·
      refine ct_skip ?_
      refine at_then ?_
      refine ct_seq ?_
      refine ct_seq ?_
      refine ct_reg ?_
      refine rl_val gw_none (ov_move rfl) rfl ?_
      refine rl_val gw_none (ov_move rfl) rfl ?_
      refine rl_callnew (fun b => .slice (some ⟨b, 0, none⟩) xs.length xs.length) goes17 rfl (fun w1 hp => toStayS_c xs _ _ (hsr.ext hp.ext0) hbd) rfl (fun b3 => ?_)
      refine rl_callv gw_none goes19 rfl (fun w1 hp => eqStayS_c xs _ _ _ (hp.sr1 1 rfl (flat_length encStay_len _) hmx) (hp.sr1 0 rfl (flat_length encStay_len _) hmx)) rfl ?_
      refine rl_val gw_none (ov_not rfl) rfl ?_
      refine rl_nil ?_
      refine at_then ?_
      refine ct_false rfl rfl ?_
      refine ct_skip ?_
      refine at_then ?_
      refine ct_seq ?_
      refine ct_reg ?_
      refine rl_val gw_none (ov_assign rfl) rfl ?_
      refine rl_nil ?_
      refine at_then ?_
      refine ct_ret ?_
      refine at_ret1 Try.results3 (ro_tmp rfl) (fun w1 hp => ?_)
      exact ⟨rfl, hp.ext0⟩

theorem law_AreRoads (xs : List Road) (v : Value) (w : World) (hsr : SR w 3 v xs.length (flat encRoad xs)) : Calls Try.prog 4 ([v]).toArray w (fun e w' => e = .returned (.bool true) ∧ Ext w w') := by
  have hlen := hsr.len_le
  refine calls_ct Try.func4 Try.ntmps4 rfl rfl ?_
  refine ct_seq ?_
  refine ct_reg ?_
  refine rl_val gw_none (ov_assign rfl) rfl ?_
  refine rl_nil ?_
  refine at_then ?_
  refine ct_seq ?_
  refine ct_reg ?_
  refine rl_val gw_none (ov_assign rfl) rfl ?_
  refine rl_nil ?_
  refine at_then ?_
  refine ct_seq ?_
  refine ct_reg ?_
  refine rl_val gw_none (ov_move rfl) rfl ?_
  refine rl_val gw_none (ov_move rfl) rfl ?_
  refine rl_callv gw_none goes20 rfl (fun w1 hp => szRoadS_c (xs.length : Int) _ _ _ _ rfl _ (hsr.ext hp.ext0) (by omega)) rfl ?_
  refine rl_val gw_none (ov_assign rfl) rfl ?_
  refine rl_nil ?_
  refine at_then ?_
  refine ct_seq ?_
  refine ct_seq ?_
  refine ct_reg ?_
  refine rl_val gw_none (ov_move rfl) rfl ?_
  refine rl_val gw_none (ov_lss rfl rfl) rfl ?_
  refine rl_nil ?_
  refine at_then ?_
  first | refine ct_dec rfl (fun h1 => ?_) (fun h1 => ?_) | refine ct_ndec rfl (fun h1 => ?_) (fun h1 => ?_) | refine ct_eq rfl (fun h1 => ?_) (fun h1 => ?_) | refine ct_ne rfl (fun h1 => ?_) (fun h1 => ?_) | refine ct_not rfl (fun h1 => ?_) (fun h1 => ?_) | refine ct_cond rfl (fun h1 => ?_) (fun h1 => ?_)
  ·
    refine ct_seq ?_
    refine ct_reg ?_
    refine rl_val gw_none (ov_assign rfl) rfl ?_
    refine rl_nil ?_
    refine at_then ?_
    refine ct_ret ?_
    refine at_then_ret ?_
    refine at_ret1 Try.results4 (ro_tmp rfl) (fun w1 hp => ?_)
    exact ⟨rfl, hp.ext0⟩
  ·
    have hbd : xs.length ≤ 1048576 := by split at h1 <;> omega
    have hmx : xs.length ≤ maxLen := by unfold maxLen; omega
    refine ct_skip ?_
    refine at_then ?_
    refine ct_seq ?_
    refine ct_reg ?_
    refine rl_val gw_none (ov_move rfl) rfl ?_
    refine rl_callnew (fun b => .slice (some ⟨b, 0, none⟩) xs.length xs.length) goes22 rfl (fun w1 hp => toRoadS_c xs _ _ (hsr.ext hp.ext0) hbd) rfl (fun b1 => ?_)
    refine rl_callv gw_none goes21 rfl (fun w1 hp => sAreRoads_c xs _ _ (hp.sr1 0 rfl (flat_length encRoad_len _) hmx)) rfl ?_
    refine rl_val gw_none (ov_assign rfl) rfl ?_
    refine rl_nil ?_
    refine at_then ?_
    refine ct_seq ?_
    refine ct_reg ?_
    refine rl_val gw_none (ov_move rfl) rfl ?_
    refine rl_callnew (fun b => .slice (some ⟨b, 0, none⟩) xs.length xs.length) goes22 rfl (fun w1 hp => toRoadS_c xs _ _ (hsr.ext hp.ext0) hbd) rfl (fun b2 => ?_)
    refine rl_val gw_none (ov_assign rfl) rfl ?_
    refine rl_nil ?_
    refine at_then ?_
    refine ct_seq ?_
    refine ct_reg ?_
    refine rl_val gw_none (ov_move rfl) rfl ?_
    refine rl_callv gw_none goes23 rfl (fun w1 hp => iAreRoads_c xs _ _ (hp.sr1 0 rfl (flat_length encRoad_len _) hmx)) rfl ?_
    refine rl_val gw_none (ov_assign rfl) rfl ?_
    refine rl_nil ?_
    refine at_then ?_
    refine ct_seq ?_
    refine ct_seq ?_
    refine ct_reg ?_
    refine rl_val gw_none (ov_move rfl) rfl ?_
    refine rl_val gw_none (ov_move rfl) rfl ?_
    refine rl_val gw_none (ov_neb Try.underlying4 rfl rfl) rfl ?_
    refine rl_nil ?_
    refine at_then ?_
    first | refine ct_dec rfl (fun h2 => ?_) (fun h2 => ?_) | refine ct_ndec rfl (fun h2 => ?_) (fun h2 => ?_) | refine ct_eq rfl (fun h2 => ?_) (fun h2 => ?_) | refine ct_ne rfl (fun h2 => ?_) (fun h2 => ?_) | refine ct_not rfl (fun h2 => ?_) (fun h2 => ?_) | refine ct_cond rfl (fun h2 => ?_) (fun h2 => ?_)
    ·
      exact absurd rfl h2
    ·
      refine ct_skip ?_
      refine at_then ?_
      refine ct_seq ?_
      refine ct_seq ?_
      refine ct_reg ?_
      refine rl_val gw_none (ov_move rfl) rfl ?_
      refine rl_val gw_none (ov_move rfl) rfl ?_
      refine rl_callnew (fun b => .slice (some ⟨b, 0, none⟩) xs.length xs.length) goes22 rfl (fun w1 hp => toRoadS_c xs _ _ (hsr.ext hp.ext0) hbd) rfl (fun b3 => ?_)
      refine rl_callv gw_none goes24 rfl (fun w1 hp => eqRoadS_c xs _ _ _ (hp.sr1 1 rfl (flat_length encRoad_len _) hmx) (hp.sr1 0 rfl (flat_length encRoad_len _) hmx)) rfl ?_
      refine rl_val gw_none (ov_not rfl) rfl ?_
      refine rl_nil ?_
      refine at_then ?_
      refine ct_false rfl rfl ?_
      refine ct_skip ?_
      refine at_then ?_
      refine ct_seq ?_
      refine ct_reg ?_
      refine rl_val gw_none (ov_assign rfl) rfl ?_
      refine rl_nil ?_
      refine at_then ?_
      refine ct_ret ?_
      refine at_ret1 Try.results4 (ro_tmp rfl) (fun w1 hp => ?_)
      exact ⟨rfl, hp.ext0⟩
end Go.Proofs.Ytpkmoeenegnonaa
