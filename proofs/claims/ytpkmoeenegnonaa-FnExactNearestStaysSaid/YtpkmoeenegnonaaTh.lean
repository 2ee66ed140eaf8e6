import Derived.Test.YtpkmoeenegnonaaTd
import Derived.Test.YtpkmoeenegnonaaTf
import Derived.Test.YtpkmoeenegnonaaTg
import Derived.Test.YtpkmoeenegnonaaJd
import Derived.KernelRfl
set_option linter.unusedVariables false
set_option linter.unusedSimpArgs false
namespace Go.Proofs.Ytpkmoeenegnonaa
open Go Go.RowKit K
theorem szRoadS_x (len : Nat) (left : Int) (v : Value) (w : World) (L : List Value) (hsr : SR w 3 v len L) (hl : 0 ≤ left ∧ left ≤ 1048576) : Calls Try.prog 20 ([v, .int .i64 left]).toArray w (fun e w' => ∃ r : Int, (r < 0 ∨ (0 ≤ r ∧ r ≤ left - len)) ∧ e = .returned (.int .i64 r) ∧ Ext w w') := by
  obtain ⟨a, cap, rfl, hcap, hmax⟩ := hsr.slice
  have hlen := hsr.len_le
  refine calls_ct Try.func20 Try.ntmps20 rfl rfl ?_
  refine ct_seq ?_
  refine ct_reg ?_
  refine rl_val gw_none (ov_assign rfl) rfl ?_
  refine rl_nil ?_
  refine at_then ?_
  refine ct_seq ?_
  refine ct_reg ?_
  refine rl_val gw_none (ov_move rfl) rfl ?_
  refine rl_val gw_none (ov_move rfl) rfl ?_
  refine rl_val gw_none (ov_len Try.underlying29 rfl) rfl ?_
  refine rl_val gw_none (ov_sub rfl rfl (by omega)) rfl ?_
  refine rl_val gw_none (ov_assign rfl) rfl ?_
  refine rl_nil ?_
  refine at_then ?_
  refine ct_seq ?_
  refine ct_seq ?_
  refine ct_reg ?_
  refine rl_val gw_none (ov_move rfl) rfl ?_
  refine rl_val gw_none (ov_lss rfl rfl) rfl ?_
  refine rl_nil ?_
  refine at_then ?_
  first | refine ct_dec rfl (fun h1 => ?_) (fun h1 => ?_) | refine ct_ndec rfl (fun h1 => ?_) (fun h1 => ?_) | refine ct_eq rfl (fun h1 => ?_) (fun h1 => ?_) | refine ct_ne rfl (fun h1 => ?_) (fun h1 => ?_) | refine ct_not rfl (fun h1 => ?_) (fun h1 => ?_) | refine ct_cond rfl (fun h1 => ?_) (fun h1 => ?_)
  ·
    refine ct_seq ?_
    refine ct_reg ?_
    refine rl_val gw_none (ov_assign rfl) rfl ?_
    refine rl_nil ?_
    refine at_then ?_
    refine ct_ret ?_
    refine at_then_ret ?_
    refine at_ret1 Try.results20 (ro_tmp rfl) (fun w1 hp => ?_)
    exact ⟨_, by omega, rfl, hp.ext0⟩
  ·
    refine ct_skip ?_
    refine at_then ?_
    refine ct_seq ?_
    refine ct_reg ?_
    refine rl_val gw_none (ov_move rfl) rfl ?_
    refine rl_val gw_none (ov_assign rfl) rfl ?_
    refine rl_nil ?_
    refine at_then ?_
    refine ct_ret ?_
    refine at_ret1 Try.results20 (ro_tmp rfl) (fun w1 hp => ?_)
    exact ⟨_, by omega, rfl, hp.ext0⟩

theorem szStayS_x (len : Nat) (left : Int) (v : Value) (w : World) (L : List Value) (hsr : SR w 3 v len L) (hl : 0 ≤ left ∧ left ≤ 1048576) : Calls Try.prog 15 ([v, .int .i64 left]).toArray w (fun e w' => ∃ r : Int, (r < 0 ∨ (0 ≤ r ∧ r ≤ left - len)) ∧ e = .returned (.int .i64 r) ∧ Ext w w') := by
  obtain ⟨a, cap, rfl, hcap, hmax⟩ := hsr.slice
  have hlen := hsr.len_le
  refine calls_ct Try.func15 Try.ntmps15 rfl rfl ?_
  refine ct_seq ?_
  refine ct_reg ?_
  refine rl_val gw_none (ov_assign rfl) rfl ?_
  refine rl_nil ?_
  refine at_then ?_
  refine ct_seq ?_
  refine ct_reg ?_
  refine rl_val gw_none (ov_move rfl) rfl ?_
  refine rl_val gw_none (ov_move rfl) rfl ?_
  refine rl_val gw_none (ov_len Try.underlying22 rfl) rfl ?_
  refine rl_val gw_none (ov_sub rfl rfl (by omega)) rfl ?_
  refine rl_val gw_none (ov_assign rfl) rfl ?_
  refine rl_nil ?_
  refine at_then ?_
  refine ct_seq ?_
  refine ct_seq ?_
  refine ct_reg ?_
  refine rl_val gw_none (ov_move rfl) rfl ?_
  refine rl_val gw_none (ov_lss rfl rfl) rfl ?_
  refine rl_nil ?_
  refine at_then ?_
  first | refine ct_dec rfl (fun h1 => ?_) (fun h1 => ?_) | refine ct_ndec rfl (fun h1 => ?_) (fun h1 => ?_) | refine ct_eq rfl (fun h1 => ?_) (fun h1 => ?_) | refine ct_ne rfl (fun h1 => ?_) (fun h1 => ?_) | refine ct_not rfl (fun h1 => ?_) (fun h1 => ?_) | refine ct_cond rfl (fun h1 => ?_) (fun h1 => ?_)
  ·
    refine ct_seq ?_
    refine ct_reg ?_
    refine rl_val gw_none (ov_assign rfl) rfl ?_
    refine rl_nil ?_
    refine at_then ?_
    refine ct_ret ?_
    refine at_then_ret ?_
    refine at_ret1 Try.results15 (ro_tmp rfl) (fun w1 hp => ?_)
    exact ⟨_, by omega, rfl, hp.ext0⟩
  ·
    refine ct_skip ?_
    refine at_then ?_
    refine ct_seq ?_
    refine ct_reg ?_
    refine rl_val gw_none (ov_move rfl) rfl ?_
    refine rl_val gw_none (ov_assign rfl) rfl ?_
    refine rl_nil ?_
    refine at_then ?_
    refine ct_ret ?_
    refine at_ret1 Try.results15 (ro_tmp rfl) (fun w1 hp => ?_)
    exact ⟨_, by omega, rfl, hp.ext0⟩

theorem iShortestWay_c (xs : List Road) (f : Int) (t : Int) (vxs : Value) (w : World) (hGxs : ∀ y ∈ xs, GRoad y) (hsxs : SR w 3 vxs xs.length (flat encRoad xs)) (zf : In64 f) (zt : In64 t) : Calls Try.prog 28 ([vxs, .int .i64 f, .int .i64 t]).toArray w (fun e w' => e = .returned (.tuple #[.int .i64 (swR xs f t), .bool (swB xs f t)]) ∧ Ext w w') := by
  obtain ⟨axs, capxs, rfl, hcapxs, hmaxxs⟩ := hsxs.slice
  have hlenxs := hsxs.len_le
  refine calls_ct Try.func28 Try.ntmps28 rfl rfl ?_
  refine ct_seq ?_
  refine ct_reg ?_
  refine rl_val gw_none (ov_assign rfl) rfl ?_
  refine rl_val gw_none (ov_assign rfl) rfl ?_
  refine rl_nil ?_
  refine at_then ?_
  refine ct_seq ?_
  refine ct_seq ?_
  refine ct_reg ?_
  refine rl_val gw_none (ov_move rfl) rfl ?_
  refine rl_callv gw_none goes23 rfl (fun w1 hp => iAreRoads_c xs _ _ (hsxs.ext hp.ext0)) rfl ?_
  refine rl_val gw_none (ov_not rfl) rfl ?_
  refine rl_val gw_none (ov_move rfl) rfl ?_
  refine rl_split (t := 12) rfl (fun g1 => ?_) (fun g1 => ?_)
  ·
    have g1' := g1
    try simp only [Bool.not_eq_true', Bool.not_eq_false', Bool.not_not, decide_eq_true_eq, decide_eq_false_iff_not, beq_iff_eq, beq_eq_false_iff_ne, bne_iff_ne, bne_eq_false_iff_eq, Bool.and_eq_true, Bool.or_eq_true, Bool.and_eq_false_iff, Bool.or_eq_false_iff, inB] at g1'
    refine rl_skip (gw_not rfl rfl g1) rfl ?_
    refine rl_skip (gw_not rfl rfl g1) rfl ?_
    refine rl_skip (gw_not rfl rfl g1) rfl ?_
    refine rl_val gw_none (ov_pick_t rfl g1 rfl) rfl ?_
    refine rl_val gw_none (ov_move rfl) rfl ?_
    refine rl_skip (gw_not rfl rfl rfl) rfl ?_
    refine rl_skip (gw_not rfl rfl rfl) rfl ?_
    refine rl_skip (gw_not rfl rfl rfl) rfl ?_
    refine rl_val gw_none (ov_pick_t rfl rfl rfl) rfl ?_
    refine rl_nil ?_
    refine at_then ?_
    refine ct_true rfl rfl ?_
    refine ct_seq ?_
    refine ct_reg ?_
    refine rl_val gw_none (ov_assign rfl) rfl ?_
    refine rl_val gw_none (ov_assign rfl) rfl ?_
    refine rl_nil ?_
    refine at_then ?_
    refine ct_ret ?_
    refine at_then_ret ?_
    refine at_ret2 Try.results28 (ro_tmp rfl) (ro_tmp rfl) (fun w1 hp => ?_)
    refine ⟨?_, hp.ext0⟩
    first | (have hb : swB xs f t = false := swB_no (.inl (by simpa [roadsB] using g1)); rw [swR_no hb, hb]; done) | (have hb : swB xs f t = false := swB_no (.inr (.inl (by simpa using g2))); rw [swR_no hb, hb]; done) | (have hb : swB xs f t = false := swB_no (.inr (.inr (.inl (by simpa using h1)))); rw [swR_no hb, hb]; done) | (have hb : swB xs f t = false := swB_no (.inr (.inr (.inr h2))); rw [swR_no hb, hb]; done) | (have hb := swB_yes hrB hin1 hin2 (by omega); rw [swR_yes hb, hb]; done)
  ·
    have g1' := g1
    try simp only [Bool.not_eq_true', Bool.not_eq_false', Bool.not_not, decide_eq_true_eq, decide_eq_false_iff_not, beq_iff_eq, beq_eq_false_iff_ne, bne_iff_ne, bne_eq_false_iff_eq, Bool.and_eq_true, Bool.or_eq_true, Bool.and_eq_false_iff, Bool.or_eq_false_iff, inB] at g1'
    refine rl_val (gw_some rfl rfl g1) (ov_move rfl) rfl ?_
    refine rl_callv (gw_some rfl rfl g1) goes57 rfl (fun w1 hp => isTown_c _ _) rfl ?_
    refine rl_val (gw_some rfl rfl g1) (ov_not rfl) rfl ?_
    refine rl_val gw_none (ov_pick_f rfl g1 rfl) rfl ?_
    refine rl_val gw_none (ov_move rfl) rfl ?_
    refine rl_split (t := 17) rfl (fun g2 => ?_) (fun g2 => ?_)
    ·
      have g2' := g2
      try simp only [Bool.not_eq_true', Bool.not_eq_false', Bool.not_not, decide_eq_true_eq, decide_eq_false_iff_not, beq_iff_eq, beq_eq_false_iff_ne, bne_iff_ne, bne_eq_false_iff_eq, Bool.and_eq_true, Bool.or_eq_true, Bool.and_eq_false_iff, Bool.or_eq_false_iff, inB] at g2'
      refine rl_skip (gw_not rfl rfl g2) rfl ?_
      refine rl_skip (gw_not rfl rfl g2) rfl ?_
      refine rl_skip (gw_not rfl rfl g2) rfl ?_
      refine rl_val gw_none (ov_pick_t rfl g2 rfl) rfl ?_
      refine rl_nil ?_
      refine at_then ?_
      refine ct_true rfl rfl ?_
      refine ct_seq ?_
      refine ct_reg ?_
      refine rl_val gw_none (ov_assign rfl) rfl ?_
      refine rl_val gw_none (ov_assign rfl) rfl ?_
      refine rl_nil ?_
      refine at_then ?_
      refine ct_ret ?_
      refine at_then_ret ?_
      refine at_ret2 Try.results28 (ro_tmp rfl) (ro_tmp rfl) (fun w1 hp => ?_)
      refine ⟨?_, hp.ext0⟩
      first | (have hb : swB xs f t = false := swB_no (.inl (by simpa [roadsB] using g1)); rw [swR_no hb, hb]; done) | (have hb : swB xs f t = false := swB_no (.inr (.inl (by simpa using g2))); rw [swR_no hb, hb]; done) | (have hb : swB xs f t = false := swB_no (.inr (.inr (.inl (by simpa using h1)))); rw [swR_no hb, hb]; done) | (have hb : swB xs f t = false := swB_no (.inr (.inr (.inr h2))); rw [swR_no hb, hb]; done) | (have hb := swB_yes hrB hin1 hin2 (by omega); rw [swR_yes hb, hb]; done)
    ·
      have g2' := g2
      try simp only [Bool.not_eq_true', Bool.not_eq_false', Bool.not_not, decide_eq_true_eq, decide_eq_false_iff_not, beq_iff_eq, beq_eq_false_iff_ne, bne_iff_ne, bne_eq_false_iff_eq, Bool.and_eq_true, Bool.or_eq_true, Bool.and_eq_false_iff, Bool.or_eq_false_iff, inB] at g2'
      refine rl_val (gw_some rfl rfl g2) (ov_move rfl) rfl ?_
      refine rl_callv (gw_some rfl rfl g2) goes57 rfl (fun w1 hp => isTown_c _ _) rfl ?_
      refine rl_val (gw_some rfl rfl g2) (ov_not rfl) rfl ?_
      refine rl_val gw_none (ov_pick_f rfl g2 rfl) rfl ?_
      refine rl_nil ?_
      refine at_then ?_
      first | refine ct_dec rfl (fun h1 => ?_) (fun h1 => ?_) | refine ct_ndec rfl (fun h1 => ?_) (fun h1 => ?_) | refine ct_eq rfl (fun h1 => ?_) (fun h1 => ?_) | refine ct_ne rfl (fun h1 => ?_) (fun h1 => ?_) | refine ct_not rfl (fun h1 => ?_) (fun h1 => ?_) | refine ct_cond rfl (fun h1 => ?_) (fun h1 => ?_)
      ·
        refine ct_seq ?_
        refine ct_reg ?_
        refine rl_val gw_none (ov_assign rfl) rfl ?_
        refine rl_val gw_none (ov_assign rfl) rfl ?_
        refine rl_nil ?_
        refine at_then ?_
        refine ct_ret ?_
        refine at_then_ret ?_
        refine at_ret2 Try.results28 (ro_tmp rfl) (ro_tmp rfl) (fun w1 hp => ?_)
        refine ⟨?_, hp.ext0⟩
        first | (have hb : swB xs f t = false := swB_no (.inl (by simpa [roadsB] using g1)); rw [swR_no hb, hb]; done) | (have hb : swB xs f t = false := swB_no (.inr (.inl (by simpa using g2))); rw [swR_no hb, hb]; done) | (have hb : swB xs f t = false := swB_no (.inr (.inr (.inl (by simpa using h1)))); rw [swR_no hb, hb]; done) | (have hb : swB xs f t = false := swB_no (.inr (.inr (.inr h2))); rw [swR_no hb, hb]; done) | (have hb := swB_yes hrB hin1 hin2 (by omega); rw [swR_yes hb, hb]; done)
      ·
        have hrB : roadsB xs = true := by simpa [roadsB] using g1
        have hR := roads_ok hrB
        have hok := hR.1
        have hwl := ways_len (-1) xs
        obtain ⟨⟨hfe, hf8⟩, hf7⟩ := town_lt (show inB f 0 7 = true by simpa using g2)
        obtain ⟨⟨hte, ht8⟩, ht7⟩ := town_lt (show inB t 0 7 = true by simpa using h1)
        have hgb := ways_bd (wo := -1) hR hf8 ht8
        have hin1 : inB f 0 7 = true := by simpa using g2
        have hin2 : inB t 0 7 = true := by simpa using h1
        refine ct_skip ?_
        refine at_then ?_
        refine ct_seq ?_
        refine ct_reg ?_
        refine rl_val gw_none (ov_move rfl) rfl ?_
        refine rl_callv gw_none goes68 rfl (fun w1 hp => waysOf_c xs (-1) _ _ (by unfold In64; omega) hok (hsxs.ext hp.ext0)) rfl ?_
        refine rl_val gw_none (ov_move rfl) rfl ?_
        first | refine rl_val gw_none (ov_indexa Try.underlying84 ag83 rfl rfl (_) rfl (by omega)) rfl ?_ | refine rl_val gw_none (ov_indexa Try.underlying84 ag83 rfl rfl (f.toNat) (by omega) (by omega)) rfl ?_ | refine rl_val gw_none (ov_indexa Try.underlying84 ag83 rfl rfl (t.toNat) (by omega) (by omega)) rfl ?_
        refine rl_val gw_none (ov_move rfl) rfl ?_
        refine rl_val gw_none (ov_indexv Try.underlying83 sc3 sz3 rfl rfl (t.toNat) (by omega) (by omega) (rowAt hwl hf8 ht8)) rfl ?_
        refine rl_val gw_none (ov_assign rfl) rfl ?_
        refine rl_nil ?_
        refine at_then ?_
        refine ct_seq ?_
        refine ct_seq ?_
        refine ct_reg ?_
        refine rl_val gw_none (ov_move rfl) rfl ?_
        refine rl_val gw_none (ov_geq rfl rfl) rfl ?_
        refine rl_nil ?_
        refine at_then ?_
        first | refine ct_dec rfl (fun h2 => ?_) (fun h2 => ?_) | refine ct_ndec rfl (fun h2 => ?_) (fun h2 => ?_) | refine ct_eq rfl (fun h2 => ?_) (fun h2 => ?_) | refine ct_ne rfl (fun h2 => ?_) (fun h2 => ?_) | refine ct_not rfl (fun h2 => ?_) (fun h2 => ?_) | refine ct_cond rfl (fun h2 => ?_) (fun h2 => ?_)
        ·
          refine ct_seq ?_
          refine ct_reg ?_
          refine rl_val gw_none (ov_assign rfl) rfl ?_
          refine rl_val gw_none (ov_assign rfl) rfl ?_
          refine rl_nil ?_
          refine at_then ?_
          refine ct_ret ?_
          refine at_then_ret ?_
          refine at_ret2 Try.results28 (ro_tmp rfl) (ro_tmp rfl) (fun w1 hp => ?_)
          refine ⟨?_, hp.ext0⟩
          first | (have hb : swB xs f t = false := swB_no (.inl (by simpa [roadsB] using g1)); rw [swR_no hb, hb]; done) | (have hb : swB xs f t = false := swB_no (.inr (.inl (by simpa using g2))); rw [swR_no hb, hb]; done) | (have hb : swB xs f t = false := swB_no (.inr (.inr (.inl (by simpa using h1)))); rw [swR_no hb, hb]; done) | (have hb : swB xs f t = false := swB_no (.inr (.inr (.inr h2))); rw [swR_no hb, hb]; done) | (have hb := swB_yes hrB hin1 hin2 (by omega); rw [swR_yes hb, hb]; done)
        ·
          refine ct_skip ?_
          refine at_then ?_
          refine ct_seq ?_
          refine ct_reg ?_
          refine rl_val gw_none (ov_move rfl) rfl ?_
          refine rl_val gw_none (ov_assign rfl) rfl ?_
          refine rl_val gw_none (ov_assign rfl) rfl ?_
          refine rl_nil ?_
          refine at_then ?_
          refine ct_ret ?_
          refine at_ret2 Try.results28 (ro_tmp rfl) (ro_tmp rfl) (fun w1 hp => ?_)
          refine ⟨?_, hp.ext0⟩
          first | (have hb : swB xs f t = false := swB_no (.inl (by simpa [roadsB] using g1)); rw [swR_no hb, hb]; done) | (have hb : swB xs f t = false := swB_no (.inr (.inl (by simpa using g2))); rw [swR_no hb, hb]; done) | (have hb : swB xs f t = false := swB_no (.inr (.inr (.inl (by simpa using h1)))); rw [swR_no hb, hb]; done) | (have hb : swB xs f t = false := swB_no (.inr (.inr (.inr h2))); rw [swR_no hb, hb]; done) | (have hb := swB_yes hrB hin1 hin2 (by omega); rw [swR_yes hb, hb]; done)

theorem sShortestWay_c (xs : List Road) (f : Int) (t : Int) (vxs : Value) (w : World) (hGxs : ∀ y ∈ xs, GRoad y) (hsxs : SR w 3 vxs xs.length (flat encRoad xs)) (zf : In64 f) (zt : In64 t) : Calls Try.prog 27 ([vxs, .int .i64 f, .int .i64 t]).toArray w (fun e w' => e = .returned (.tuple #[.int .i64 (swR xs f t), .bool (swB xs f t)]) ∧ Ext w w') := by
  obtain ⟨axs, capxs, rfl, hcapxs, hmaxxs⟩ := hsxs.slice
  have hlenxs := hsxs.len_le
  refine calls_ct Try.func27 Try.ntmps27 rfl rfl ?_
  refine ct_seq ?_
  refine ct_reg ?_
  refine rl_val gw_none (ov_assign rfl) rfl ?_
  refine rl_val gw_none (ov_assign rfl) rfl ?_
  refine rl_nil ?_
  refine at_then ?_
  refine ct_seq ?_
  refine ct_seq ?_
  refine ct_reg ?_
  refine rl_val gw_none (ov_move rfl) rfl ?_
  refine rl_callv gw_none goes60 rfl (fun w1 hp => l24Roads_c xs _ _ (hsxs.ext hp.ext0)) rfl ?_
  refine rl_val gw_none (ov_not rfl) rfl ?_
  refine rl_val gw_none (ov_move rfl) rfl ?_
  refine rl_split (t := 12) rfl (fun g1 => ?_) (fun g1 => ?_)
  ·
    have g1' := g1
    try simp only [Bool.not_eq_true', Bool.not_eq_false', Bool.not_not, decide_eq_true_eq, decide_eq_false_iff_not, beq_iff_eq, beq_eq_false_iff_ne, bne_iff_ne, bne_eq_false_iff_eq, Bool.and_eq_true, Bool.or_eq_true, Bool.and_eq_false_iff, Bool.or_eq_false_iff, inB] at g1'
    refine rl_skip (gw_not rfl rfl g1) rfl ?_
    refine rl_skip (gw_not rfl rfl g1) rfl ?_
    refine rl_skip (gw_not rfl rfl g1) rfl ?_
    refine rl_val gw_none (ov_pick_t rfl g1 rfl) rfl ?_
    refine rl_val gw_none (ov_move rfl) rfl ?_
    refine rl_skip (gw_not rfl rfl rfl) rfl ?_
    refine rl_skip (gw_not rfl rfl rfl) rfl ?_
    refine rl_skip (gw_not rfl rfl rfl) rfl ?_
    refine rl_val gw_none (ov_pick_t rfl rfl rfl) rfl ?_
    refine rl_nil ?_
    refine at_then ?_
    refine ct_true rfl rfl ?_
    refine ct_seq ?_
    refine ct_reg ?_
    refine rl_val gw_none (ov_assign rfl) rfl ?_
    refine rl_val gw_none (ov_assign rfl) rfl ?_
    refine rl_nil ?_
    refine at_then ?_
    refine ct_ret ?_
    refine at_then_ret ?_
    refine at_ret2 Try.results27 (ro_tmp rfl) (ro_tmp rfl) (fun w1 hp => ?_)
    refine ⟨?_, hp.ext0⟩
    first | (have hb : swB xs f t = false := swB_no (.inl (by simpa [roadsB] using g1)); rw [swR_no hb, hb]; done) | (have hb : swB xs f t = false := swB_no (.inr (.inl (by simpa using g2))); rw [swR_no hb, hb]; done) | (have hb : swB xs f t = false := swB_no (.inr (.inr (.inl (by simpa using h1)))); rw [swR_no hb, hb]; done) | (have hb : swB xs f t = false := swB_no (.inr (.inr (.inr h2))); rw [swR_no hb, hb]; done) | (have hb := swB_yes hrB hin1 hin2 (by omega); rw [swR_yes hb, hb]; done)
  ·
    have g1' := g1
    try simp only [Bool.not_eq_true', Bool.not_eq_false', Bool.not_not, decide_eq_true_eq, decide_eq_false_iff_not, beq_iff_eq, beq_eq_false_iff_ne, bne_iff_ne, bne_eq_false_iff_eq, Bool.and_eq_true, Bool.or_eq_true, Bool.and_eq_false_iff, Bool.or_eq_false_iff, inB] at g1'
    refine rl_val (gw_some rfl rfl g1) (ov_move rfl) rfl ?_
    refine rl_callv (gw_some rfl rfl g1) goes66 rfl (fun w1 hp => l24Town_c _ _) rfl ?_
    refine rl_val (gw_some rfl rfl g1) (ov_not rfl) rfl ?_
    refine rl_val gw_none (ov_pick_f rfl g1 rfl) rfl ?_
    refine rl_val gw_none (ov_move rfl) rfl ?_
    refine rl_split (t := 17) rfl (fun g2 => ?_) (fun g2 => ?_)
    ·
      have g2' := g2
      try simp only [Bool.not_eq_true', Bool.not_eq_false', Bool.not_not, decide_eq_true_eq, decide_eq_false_iff_not, beq_iff_eq, beq_eq_false_iff_ne, bne_iff_ne, bne_eq_false_iff_eq, Bool.and_eq_true, Bool.or_eq_true, Bool.and_eq_false_iff, Bool.or_eq_false_iff, inB] at g2'
      refine rl_skip (gw_not rfl rfl g2) rfl ?_
      refine rl_skip (gw_not rfl rfl g2) rfl ?_
      refine rl_skip (gw_not rfl rfl g2) rfl ?_
      refine rl_val gw_none (ov_pick_t rfl g2 rfl) rfl ?_
      refine rl_nil ?_
      refine at_then ?_
      refine ct_true rfl rfl ?_
      refine ct_seq ?_
      refine ct_reg ?_
      refine rl_val gw_none (ov_assign rfl) rfl ?_
      refine rl_val gw_none (ov_assign rfl) rfl ?_
      refine rl_nil ?_
      refine at_then ?_
      refine ct_ret ?_
      refine at_then_ret ?_
      refine at_ret2 Try.results27 (ro_tmp rfl) (ro_tmp rfl) (fun w1 hp => ?_)
      refine ⟨?_, hp.ext0⟩
      first | (have hb : swB xs f t = false := swB_no (.inl (by simpa [roadsB] using g1)); rw [swR_no hb, hb]; done) | (have hb : swB xs f t = false := swB_no (.inr (.inl (by simpa using g2))); rw [swR_no hb, hb]; done) | (have hb : swB xs f t = false := swB_no (.inr (.inr (.inl (by simpa using h1)))); rw [swR_no hb, hb]; done) | (have hb : swB xs f t = false := swB_no (.inr (.inr (.inr h2))); rw [swR_no hb, hb]; done) | (have hb := swB_yes hrB hin1 hin2 (by omega); rw [swR_yes hb, hb]; done)
    ·
      have g2' := g2
      try simp only [Bool.not_eq_true', Bool.not_eq_false', Bool.not_not, decide_eq_true_eq, decide_eq_false_iff_not, beq_iff_eq, beq_eq_false_iff_ne, bne_iff_ne, bne_eq_false_iff_eq, Bool.and_eq_true, Bool.or_eq_true, Bool.and_eq_false_iff, Bool.or_eq_false_iff, inB] at g2'
      refine rl_val (gw_some rfl rfl g2) (ov_move rfl) rfl ?_
      refine rl_callv (gw_some rfl rfl g2) goes66 rfl (fun w1 hp => l24Town_c _ _) rfl ?_
      refine rl_val (gw_some rfl rfl g2) (ov_not rfl) rfl ?_
      refine rl_val gw_none (ov_pick_f rfl g2 rfl) rfl ?_
      refine rl_nil ?_
      refine at_then ?_
      first | refine ct_dec rfl (fun h1 => ?_) (fun h1 => ?_) | refine ct_ndec rfl (fun h1 => ?_) (fun h1 => ?_) | refine ct_eq rfl (fun h1 => ?_) (fun h1 => ?_) | refine ct_ne rfl (fun h1 => ?_) (fun h1 => ?_) | refine ct_not rfl (fun h1 => ?_) (fun h1 => ?_) | refine ct_cond rfl (fun h1 => ?_) (fun h1 => ?_)
      ·
        refine ct_seq ?_
        refine ct_reg ?_
        refine rl_val gw_none (ov_assign rfl) rfl ?_
        refine rl_val gw_none (ov_assign rfl) rfl ?_
        refine rl_nil ?_
        refine at_then ?_
        refine ct_ret ?_
        refine at_then_ret ?_
        refine at_ret2 Try.results27 (ro_tmp rfl) (ro_tmp rfl) (fun w1 hp => ?_)
        refine ⟨?_, hp.ext0⟩
        first | (have hb : swB xs f t = false := swB_no (.inl (by simpa [roadsB] using g1)); rw [swR_no hb, hb]; done) | (have hb : swB xs f t = false := swB_no (.inr (.inl (by simpa using g2))); rw [swR_no hb, hb]; done) | (have hb : swB xs f t = false := swB_no (.inr (.inr (.inl (by simpa using h1)))); rw [swR_no hb, hb]; done) | (have hb : swB xs f t = false := swB_no (.inr (.inr (.inr h2))); rw [swR_no hb, hb]; done) | (have hb := swB_yes hrB hin1 hin2 (by omega); rw [swR_yes hb, hb]; done)
      ·
        have hrB : roadsB xs = true := by simpa [roadsB] using g1
        have hR := roads_ok hrB
        have hok := hR.1
        have hwl := ways_len (-1) xs
        obtain ⟨⟨hfe, hf8⟩, hf7⟩ := town_lt (show inB f 0 7 = true by simpa using g2)
        obtain ⟨⟨hte, ht8⟩, ht7⟩ := town_lt (show inB t 0 7 = true by simpa using h1)
        have hgb := ways_bd (wo := -1) hR hf8 ht8
        have hin1 : inB f 0 7 = true := by simpa using g2
        have hin2 : inB t 0 7 = true := by simpa using h1
        refine ct_skip ?_
        refine at_then ?_
        refine ct_seq ?_
        refine ct_reg ?_
        refine rl_val gw_none (ov_move rfl) rfl ?_
        refine rl_val gw_none (ov_move rfl) rfl ?_
        refine rl_callsl (ι := Nat × List Value) (fun i bo => sv bo 8 i.1) (fun i => ints (bfE (-1) xs f.toNat) ++ i.2) (fun i bo => Sl 1 bo 8 i.1 (ints (bfE (-1) xs f.toNat)) i.2) goes67 rfl (fun w1 hp => l24Ways_c xs f (-1) f.toNat _ _ (by unfold In64; omega) hfe hf8 hok (hsxs.ext hp.ext0)) rfl (fun iwy bowy hswy => ?_)
        obtain ⟨bwy, rfl⟩ := slSome hswy (by omega)
        refine rl_val gw_none (ov_move rfl) rfl ?_
        first | refine rl_val gw_none (ov_ix Try.underlying41 sz3 rfl rfl _ rfl (by omega)) rfl ?_ | refine rl_val gw_none (ov_ix Try.underlying41 sz3 rfl rfl (t.toNat) (by omega) (by omega)) rfl ?_
        refine rl_val gw_none (ov_load 0 sc3 rfl rfl (bfAt hR hf8 ht8 _)) rfl ?_
        refine rl_val gw_none (ov_assign rfl) rfl ?_
        refine rl_nil ?_
        refine at_then ?_
        refine ct_seq ?_
        refine ct_seq ?_
        refine ct_reg ?_
        refine rl_val gw_none (ov_move rfl) rfl ?_
        refine rl_val gw_none (ov_geq rfl rfl) rfl ?_
        refine rl_nil ?_
        refine at_then ?_
        first | refine ct_dec rfl (fun h2 => ?_) (fun h2 => ?_) | refine ct_ndec rfl (fun h2 => ?_) (fun h2 => ?_) | refine ct_eq rfl (fun h2 => ?_) (fun h2 => ?_) | refine ct_ne rfl (fun h2 => ?_) (fun h2 => ?_) | refine ct_not rfl (fun h2 => ?_) (fun h2 => ?_) | refine ct_cond rfl (fun h2 => ?_) (fun h2 => ?_)
        ·
          refine ct_seq ?_
          refine ct_reg ?_
          refine rl_val gw_none (ov_assign rfl) rfl ?_
          refine rl_val gw_none (ov_assign rfl) rfl ?_
          refine rl_nil ?_
          refine at_then ?_
          refine ct_ret ?_
          refine at_then_ret ?_
          refine at_ret2 Try.results27 (ro_tmp rfl) (ro_tmp rfl) (fun w1 hp => ?_)
          refine ⟨?_, hp.ext0⟩
          first | (have hb : swB xs f t = false := swB_no (.inl (by simpa [roadsB] using g1)); rw [swR_no hb, hb]; done) | (have hb : swB xs f t = false := swB_no (.inr (.inl (by simpa using g2))); rw [swR_no hb, hb]; done) | (have hb : swB xs f t = false := swB_no (.inr (.inr (.inl (by simpa using h1)))); rw [swR_no hb, hb]; done) | (have hb : swB xs f t = false := swB_no (.inr (.inr (.inr h2))); rw [swR_no hb, hb]; done) | (have hb := swB_yes hrB hin1 hin2 (by omega); rw [swR_yes hb, hb]; done)
        ·
          refine ct_skip ?_
          refine at_then ?_
          refine ct_seq ?_
          refine ct_reg ?_
          refine rl_val gw_none (ov_move rfl) rfl ?_
          refine rl_val gw_none (ov_assign rfl) rfl ?_
          refine rl_val gw_none (ov_assign rfl) rfl ?_
          refine rl_nil ?_
          refine at_then ?_
          refine ct_ret ?_
          refine at_ret2 Try.results27 (ro_tmp rfl) (ro_tmp rfl) (fun w1 hp => ?_)
          refine ⟨?_, hp.ext0⟩
          first | (have hb : swB xs f t = false := swB_no (.inl (by simpa [roadsB] using g1)); rw [swR_no hb, hb]; done) | (have hb : swB xs f t = false := swB_no (.inr (.inl (by simpa using g2))); rw [swR_no hb, hb]; done) | (have hb : swB xs f t = false := swB_no (.inr (.inr (.inl (by simpa using h1)))); rw [swR_no hb, hb]; done) | (have hb : swB xs f t = false := swB_no (.inr (.inr (.inr h2))); rw [swR_no hb, hb]; done) | (have hb := swB_yes hrB hin1 hin2 (by omega); rw [swR_yes hb, hb]; done)

theorem law_ShortestWay (xs : List Road) (f : Int) (t : Int) (vxs : Value) (w : World) (hGxs : ∀ y ∈ xs, GRoad y) (hsxs : SR w 3 vxs xs.length (flat encRoad xs)) (zf : In64 f) (zt : In64 t) : Calls Try.prog 6 ([vxs, .int .i64 f, .int .i64 t]).toArray w (fun e w' => e = .returned (.bool true) ∧ Ext w w') := by
  have hlenxs := hsxs.len_le
  refine calls_ct Try.func6 Try.ntmps6 rfl rfl ?_
  refine ct_seq ?_
  refine ct_reg ?_
  refine rl_val gw_none (ov_assign rfl) rfl ?_
  refine rl_nil ?_
  refine at_then ?_
  refine ct_seq ?_
  refine ct_reg ?_
  refine rl_val gw_none (ov_assign rfl) rfl ?_
  refine rl_nil ?_
  refine at_then ?_
  refine ct_seq ?_
  refine ct_reg ?_
  refine rl_val gw_none (ov_move rfl) rfl ?_
  refine rl_val gw_none (ov_move rfl) rfl ?_
  refine rl_callx (ι := Int) (fun r => .int .i64 r) (fun r => r < 0 ∨ (0 ≤ r ∧ r ≤ 1048576 - xs.length)) gw_none goes20 rfl (fun w1 hp => szRoadS_x xs.length 1048576 _ _ _ (hsxs.ext hp.ext0) (by omega)) rfl (fun rxs hrxs => ?_)
  refine rl_val gw_none (ov_assign rfl) rfl ?_
  refine rl_nil ?_
  refine at_then ?_
  refine ct_seq ?_
  refine ct_seq ?_
  refine ct_reg ?_
  refine rl_val gw_none (ov_move rfl) rfl ?_
  refine rl_val gw_none (ov_lss rfl rfl) rfl ?_
  refine rl_nil ?_
  refine at_then ?_
  first | refine ct_dec rfl (fun h1 => ?_) (fun h1 => ?_) | refine ct_ndec rfl (fun h1 => ?_) (fun h1 => ?_) | refine ct_eq rfl (fun h1 => ?_) (fun h1 => ?_) | refine ct_ne rfl (fun h1 => ?_) (fun h1 => ?_) | refine ct_not rfl (fun h1 => ?_) (fun h1 => ?_) | refine ct_cond rfl (fun h1 => ?_) (fun h1 => ?_)
  ·
    refine ct_seq ?_
    refine ct_reg ?_
    refine rl_val gw_none (ov_assign rfl) rfl ?_
    refine rl_nil ?_
    refine at_then ?_
    refine ct_ret ?_
    refine at_then_ret ?_
    refine at_ret1 Try.results6 (ro_tmp rfl) (fun w1 hp => ?_)
    exact ⟨rfl, hp.ext0⟩
  ·
    have hbxs : xs.length ≤ 1048576 := by omega
    have hmxs : xs.length ≤ maxLen := by unfold maxLen; omega
    refine ct_skip ?_
    refine at_then ?_
    refine ct_seq ?_
    refine ct_reg ?_
    refine rl_val gw_none (ov_move rfl) rfl ?_
    refine rl_callnew (fun b => .slice (some ⟨b, 0, none⟩) xs.length xs.length) goes22 rfl (fun w1 hp => toRoadS_c xs _ _ (hsxs.ext hp.ext0) hbxs) rfl (fun b1 => ?_)
    refine rl_val gw_none (ov_move rfl) rfl ?_
    refine rl_val gw_none (ov_move rfl) rfl ?_
    refine rl_callv gw_none goes27 rfl (fun w1 hp => sShortestWay_c xs f t _ _ hGxs (hp.sr1 0 rfl (flat_length encRoad_len _) hmxs) zf zt) rfl ?_
    refine rl_val gw_none (ov_move rfl) rfl ?_
    refine rl_val gw_none (ov_extract rfl rfl) rfl ?_
    refine rl_val gw_none (ov_extract rfl rfl) rfl ?_
    refine rl_val gw_none (ov_assign rfl) rfl ?_
    refine rl_val gw_none (ov_assign rfl) rfl ?_
    refine rl_nil ?_
    refine at_then ?_
    refine ct_seq ?_
    refine ct_reg ?_
    refine rl_val gw_none (ov_move rfl) rfl ?_
    refine rl_callnew (fun b => .slice (some ⟨b, 0, none⟩) xs.length xs.length) goes22 rfl (fun w1 hp => toRoadS_c xs _ _ (hsxs.ext hp.ext0) hbxs) rfl (fun b2 => ?_)
    refine rl_val gw_none (ov_assign rfl) rfl ?_
    refine rl_nil ?_
    refine at_then ?_
    refine ct_seq ?_
    refine ct_reg ?_
    refine rl_val gw_none (ov_move rfl) rfl ?_
    refine rl_val gw_none (ov_move rfl) rfl ?_
    refine rl_val gw_none (ov_move rfl) rfl ?_
    refine rl_callv gw_none goes28 rfl (fun w1 hp => iShortestWay_c xs f t _ _ hGxs (hp.sr1 0 rfl (flat_length encRoad_len _) hmxs) zf zt) rfl ?_
    refine rl_val gw_none (ov_move rfl) rfl ?_
    refine rl_val gw_none (ov_extract rfl rfl) rfl ?_
    refine rl_val gw_none (ov_extract rfl rfl) rfl ?_
    refine rl_val gw_none (ov_assign rfl) rfl ?_
    refine rl_val gw_none (ov_assign rfl) rfl ?_
    refine rl_nil ?_
    refine at_then ?_
    refine ct_seq ?_
    refine ct_seq ?_
    refine ct_reg ?_
    refine rl_val gw_none (ov_move rfl) rfl ?_
    refine rl_val gw_none (ov_move rfl) rfl ?_
    refine rl_val gw_none (ov_neq rfl rfl) rfl ?_
    refine rl_val gw_none (ov_move rfl) rfl ?_
    refine rl_split (t := 38) rfl (fun g1 => ?_) (fun g1 => ?_)
    ·
      exfalso; first | (simp at g1; omega) | (simp at g1; done) | (simp_all; done)
    ·
      have g1' := g1
      try simp only [Bool.not_eq_true', Bool.not_eq_false', Bool.not_not, decide_eq_true_eq, decide_eq_false_iff_not, beq_iff_eq, beq_eq_false_iff_ne, bne_iff_ne, bne_eq_false_iff_eq, Bool.and_eq_true, Bool.or_eq_true, Bool.and_eq_false_iff, Bool.or_eq_false_iff, inB] at g1'
      refine rl_val (gw_some rfl rfl g1) (ov_move rfl) rfl ?_
      refine rl_val (gw_some rfl rfl g1) (ov_move rfl) rfl ?_
      refine rl_val (gw_some rfl rfl g1) (ov_neb Try.underlying4 rfl rfl) rfl ?_
      refine rl_val gw_none (ov_pick_f rfl g1 rfl) rfl ?_
      refine rl_nil ?_
      refine at_then ?_
      first | refine ct_dec rfl (fun h2 => ?_) (fun h2 => ?_) | refine ct_ndec rfl (fun h2 => ?_) (fun h2 => ?_) | refine ct_eq rfl (fun h2 => ?_) (fun h2 => ?_) | refine ct_ne rfl (fun h2 => ?_) (fun h2 => ?_) | refine ct_not rfl (fun h2 => ?_) (fun h2 => ?_) | refine ct_cond rfl (fun h2 => ?_) (fun h2 => ?_)
      ·
        exfalso; first | omega | exact absurd rfl h2 | (simp at h2; done) | (simp_all; done)
      ·
        refine ct_skip ?_
        refine at_then ?_
        refine ct_seq ?_
        refine ct_seq ?_
        refine ct_reg ?_
        refine rl_val gw_none (ov_move rfl) rfl ?_
        refine rl_val gw_none (ov_move rfl) rfl ?_
        refine rl_callnew (fun b => .slice (some ⟨b, 0, none⟩) xs.length xs.length) goes22 rfl (fun w1 hp => toRoadS_c xs _ _ (hsxs.ext hp.ext0) hbxs) rfl (fun b3 => ?_)
        refine rl_callv gw_none goes24 rfl (fun w1 hp => eqRoadS_c xs _ _ _  (hp.sr1 1 rfl (flat_length encRoad_len _) hmxs) (hp.sr1 0 rfl (flat_length encRoad_len _) hmxs)) rfl ?_
        refine rl_val gw_none (ov_not rfl) rfl ?_
        refine rl_nil ?_
        refine at_then ?_
        refine ct_false rfl rfl ?_
        refine ct_skip ?_
        refine at_then ?_
        refine ct_seq ?_
        refine ct_reg ?_
        refine rl_val gw_none (ov_assign rfl) rfl ?_
        refine rl_nil ?_
        refine at_then ?_
        refine ct_ret ?_
        refine at_ret1 Try.results6 (ro_tmp rfl) (fun w1 hp => ?_)
        exact ⟨rfl, hp.ext0⟩
end Go.Proofs.Ytpkmoeenegnonaa
