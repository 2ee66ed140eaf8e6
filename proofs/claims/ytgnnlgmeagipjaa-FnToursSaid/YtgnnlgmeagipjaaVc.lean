import Derived.Test.YtgnnlgmeagipjaaVa
import Derived.Test.YtgnnlgmeagipjaaTn
import Derived.KernelRfl
set_option linter.unusedVariables false
set_option linter.unusedSimpArgs false
namespace Go.Proofs.Ytgnnlgmeagipjaa
open Go Go.RowKit K
theorem iFewestDays_c (xs : List Road) (st : List Stay) (vxs : Value) (vst : Value) (w : World) (hGxs : ∀ y ∈ xs, GRoad y) (hsxs : SR w 3 vxs xs.length (flat encRoad xs)) (hGst : ∀ y ∈ st, GStay y) (hsst : SR w 3 vst st.length (flat encStay st)) : Calls Try.prog 12 ([vxs, vst]).toArray w (fun e w' => e = .returned (.tuple #[.int .i64 (fdR xs st), .bool (fdB xs st)]) ∧ Ext w w') := by
  obtain ⟨axs, capxs, rfl, hcapxs, hmaxxs⟩ := hsxs.slice
  have hlenxs := hsxs.len_le
  obtain ⟨ast, capst, rfl, hcapst, hmaxst⟩ := hsst.slice
  have hlenst := hsst.len_le
  refine calls_ct Try.func12 Try.ntmps12 rfl rfl ?_
  refine ct_seq ?_
  refine ct_reg ?_
  refine rl_box rfl rfl (fun N1 => ?_)
  refine rl_val gw_none (ov_assign rfl) rfl ?_
  refine rl_val gw_none (ov_assign rfl) rfl ?_
  refine rl_nil ?_
  refine at_then ?_
  refine ct_seq ?_
  refine ct_seq ?_
  refine ct_reg ?_
  refine rl_val gw_none (ov_move rfl) rfl ?_
  refine rl_callv gw_none goes37 rfl (fun w1 hp => iAreRoads_c xs _ _ (hsxs.ext hp.ext0)) rfl ?_
  refine rl_val gw_none (ov_not rfl) rfl ?_
  refine rl_val gw_none (ov_move rfl) rfl ?_
  refine rl_split (t := 10) rfl (fun g1 => ?_) (fun g1 => ?_)
  ·
    have g1' := g1
    try simp only [Bool.not_eq_true', Bool.not_eq_false', Bool.not_not, decide_eq_true_eq, decide_eq_false_iff_not, beq_iff_eq, beq_eq_false_iff_ne, bne_iff_ne, bne_eq_false_iff_eq, Bool.and_eq_true, Bool.or_eq_true, Bool.and_eq_false_iff, Bool.or_eq_false_iff, inB] at g1'
    refine rl_skip (gw_not rfl rfl g1) rfl ?_
    refine rl_skip (gw_not rfl rfl g1) rfl ?_
    refine rl_skip (gw_not rfl rfl g1) rfl ?_
    refine rl_val gw_none (ov_pick_t rfl g1 rfl) rfl ?_
    refine rl_nil ?_
    refine at_then ?_
    refine ct_true rfl rfl ?_
    refine ct_seq ?_
    refine ct_reg ?_
    refine rl_val gw_none (ov_assign rfl) rfl ?_
    refine rl_val gw_none (ov_assign rfl) rfl ?_
    refine rl_nil ?_
    refine at_then ?_
    refine ct_ret ?_
    refine at_then_ret ?_
    refine at_ret2 Try.results12 (ro_tmp rfl) (ro_tmp rfl) (fun w1 hp => ?_)
    refine ⟨?_, hp.ext0⟩
    first | (have hb : fdB xs st = false := fdB_no (.inl (by simpa [roadsB] using g1)); rw [fdR_no hb, hb]; done) | (have hb : fdB xs st = false := fdB_no (.inr (.inl (by simpa [staysB] using h1))); rw [fdR_no hb, hb]; done) | (have hb : fdB xs st = false := fdB_no (.inr (.inr (by unfold fdV; omega))); rw [fdR_no hb, hb]; done) | (have hb : fdB xs st = true := fdB_yes hrB hsB (by unfold fdV; omega); rw [fdR_yes hb, hb]; rfl)
  ·
    have g1' := g1
    try simp only [Bool.not_eq_true', Bool.not_eq_false', Bool.not_not, decide_eq_true_eq, decide_eq_false_iff_not, beq_iff_eq, beq_eq_false_iff_ne, bne_iff_ne, bne_eq_false_iff_eq, Bool.and_eq_true, Bool.or_eq_true, Bool.and_eq_false_iff, Bool.or_eq_false_iff, inB] at g1'
    first | refine rl_val (gw_some rfl rfl g1) (ov_load 0 sc30 rfl rfl rfl) rfl ?_ | refine rl_val (gw_some rfl rfl g1) (ov_load 0 sc30 rfl rfl (by assumption)) rfl ?_
    refine rl_callv (gw_some rfl rfl g1) goes25 rfl (fun w1 hp => iAreStays_c st _ _ (hsst.ext hp.ext0)) rfl ?_
    refine rl_val (gw_some rfl rfl g1) (ov_not rfl) rfl ?_
    refine rl_val gw_none (ov_pick_f rfl g1 rfl) rfl ?_
    refine rl_nil ?_
    refine at_then ?_
    first | refine ct_dec rfl (fun h1 => ?_) (fun h1 => ?_) | refine ct_ndec rfl (fun h1 => ?_) (fun h1 => ?_) | refine ct_eq rfl (fun h1 => ?_) (fun h1 => ?_) | refine ct_ne rfl (fun h1 => ?_) (fun h1 => ?_) | refine ct_not rfl (fun h1 => ?_) (fun h1 => ?_) | refine ct_cond rfl (fun h1 => ?_) (fun h1 => ?_)
    ·
      refine ct_seq ?_
      refine ct_reg ?_
      refine rl_val gw_none (ov_assign rfl) rfl ?_
      refine rl_val gw_none (ov_assign rfl) rfl ?_
      refine rl_nil ?_
      refine at_then ?_
      refine ct_ret ?_
      refine at_then_ret ?_
      refine at_ret2 Try.results12 (ro_tmp rfl) (ro_tmp rfl) (fun w1 hp => ?_)
      refine ⟨?_, hp.ext0⟩
      first | (have hb : fdB xs st = false := fdB_no (.inl (by simpa [roadsB] using g1)); rw [fdR_no hb, hb]; done) | (have hb : fdB xs st = false := fdB_no (.inr (.inl (by simpa [staysB] using h1))); rw [fdR_no hb, hb]; done) | (have hb : fdB xs st = false := fdB_no (.inr (.inr (by unfold fdV; omega))); rw [fdR_no hb, hb]; done) | (have hb : fdB xs st = true := fdB_yes hrB hsB (by unfold fdV; omega); rw [fdR_yes hb, hb]; rfl)
    ·
      have hrB : roadsB xs = true := by simpa [roadsB] using g1
      have hR := roads_ok hrB
      have hok := hR.1
      have hwl := ways_len (-1) xs
      have hsB : staysB st = true := by simpa [staysB] using h1
      have hst7 : st.length ≤ 7 := listB_len hsB
      refine ct_skip ?_
      refine at_then ?_
      refine ct_seq ?_
      refine ct_reg ?_
      refine rl_alloc ze3 rfl (fun N2 => ?_)
      refine rl_store [] sz3 rfl rfl rfl rfl rfl (Nat.le_of_ble_eq_true rfl) ?_
      refine rl_nil ?_
      refine at_then ?_
      refine ct_seq ?_
      refine ct_fl 7 [0, 1, 2, 3, 4, 6, 5, 7] ⟨0, [6], [], [], [1, 2, 3], []⟩ (fun q => ⟨0, [], fun _ => undef⟩) (by kernel_rfl) (by kernel_rfl) ?_
      refine qf_mark True.intro ?_
      refine qg_val rfl gw_none (fun _ => (ov_move rfl)) rfl ?_
      refine qf_step rfl ?_
      refine qg_callv rfl rfl gw_none goes47 rfl (fun w1 hp => waysOf_c xs (-1) _ _ (by unfold In64; omega) hok (hsxs.ext hp.ext0)) rfl ?_
      refine qf_step rfl ?_
      first | refine qg_valm rfl rfl gw_none (ov_load 1 sc30 rfl rfl rfl) rfl ?_ | refine qg_valm rfl rfl gw_none (ov_load 1 sc30 rfl rfl (by assumption)) rfl ?_
      refine qf_step rfl ?_
      first | refine qg_valm rfl rfl gw_none (ov_load 1 sc30 rfl rfl rfl) rfl ?_ | refine qg_valm rfl rfl gw_none (ov_load 1 sc30 rfl rfl (by assumption)) rfl ?_
      refine qf_step rfl ?_
      refine qg_val rfl gw_none (fun _ => (ov_len Try.underlying30 rfl)) rfl ?_
      refine qf_step rfl ?_
      refine qg_val rfl gw_none (fun _ => (ov_mkfunc rfl)) rfl ?_
      refine qf_step rfl ?_
      refine qg_make rfl rfl rfl Try.underlying74 ze4 sz4 by4 rfl rfl (by omega) (by unfold maxLen; omega) rfl (fun N3 => ?_)
      refine qf_nil ?_
      refine rl_calld (ι := Unit) (fun _ => .tuple #[]) [_, _] [_] (fun _ => [(some N2, 3, [.int .i64 (trO (ways (-1) xs) st (tlF st.length) st.length [] (-1))]), (some N3, 4, bls (flg st.length []))]) (fun _ => True) gw_none goes46 rfl (fun _ hq => ((hq).pull 0 rfl).pull 1 rfl) (fun w1 hp h0 => toursO_all xs st (tlF st.length) 48 _ goes48 hR hsB st.length [] _ _ _ _ _ N3 N2 _ _ _ (h0.cong (by rw [bls_none]; rfl)) (OrdR.nil xs st) (by simp) rfl rfl rfl rfl ((SRD.of hsst).call hp (by simp)) (tellF_ok st.length _ _ N1 N2 N3 _ w1 (hp.own 2 rfl rfl) (by have hnd := hp.nodup; simp [keys] at hnd ⊢; omega) (by have hnd := hp.nodup; simp [keys] at hnd ⊢; omega))) rfl (fun _ _ => ?_)
      refine rl_nil ?_
      refine at_then ?_
      refine ct_seq ?_
      refine ct_seq ?_
      refine ct_reg ?_
      first | refine rl_val gw_none (ov_load 0 sc3 rfl rfl rfl) rfl ?_ | refine rl_val gw_none (ov_load 0 sc3 rfl rfl (by assumption)) rfl ?_
      refine rl_val gw_none (ov_lss rfl rfl) rfl ?_
      refine rl_nil ?_
      refine at_then ?_
      first | refine ct_dec rfl (fun h2 => ?_) (fun h2 => ?_) | refine ct_ndec rfl (fun h2 => ?_) (fun h2 => ?_) | refine ct_eq rfl (fun h2 => ?_) (fun h2 => ?_) | refine ct_ne rfl (fun h2 => ?_) (fun h2 => ?_) | refine ct_not rfl (fun h2 => ?_) (fun h2 => ?_) | refine ct_cond rfl (fun h2 => ?_) (fun h2 => ?_)
      ·
        refine ct_seq ?_
        refine ct_reg ?_
        refine rl_val gw_none (ov_assign rfl) rfl ?_
        refine rl_val gw_none (ov_assign rfl) rfl ?_
        refine rl_nil ?_
        refine at_then ?_
        refine ct_ret ?_
        refine at_then_ret ?_
        refine at_ret2 Try.results12 (ro_tmp rfl) (ro_tmp rfl) (fun w1 hp => ?_)
        refine ⟨?_, hp.ext0⟩
        first | (have hb : fdB xs st = false := fdB_no (.inl (by simpa [roadsB] using g1)); rw [fdR_no hb, hb]; done) | (have hb : fdB xs st = false := fdB_no (.inr (.inl (by simpa [staysB] using h1))); rw [fdR_no hb, hb]; done) | (have hb : fdB xs st = false := fdB_no (.inr (.inr (by unfold fdV; omega))); rw [fdR_no hb, hb]; done) | (have hb : fdB xs st = true := fdB_yes hrB hsB (by unfold fdV; omega); rw [fdR_yes hb, hb]; rfl)
      ·
        refine ct_skip ?_
        refine at_then ?_
        refine ct_seq ?_
        refine ct_reg ?_
        first | refine rl_val gw_none (ov_load 0 sc3 rfl rfl rfl) rfl ?_ | refine rl_val gw_none (ov_load 0 sc3 rfl rfl (by assumption)) rfl ?_
        refine rl_val gw_none (ov_assign rfl) rfl ?_
        refine rl_val gw_none (ov_assign rfl) rfl ?_
        refine rl_nil ?_
        refine at_then ?_
        refine ct_ret ?_
        refine at_ret2 Try.results12 (ro_tmp rfl) (ro_tmp rfl) (fun w1 hp => ?_)
        refine ⟨?_, hp.ext0⟩
        first | (have hb : fdB xs st = false := fdB_no (.inl (by simpa [roadsB] using g1)); rw [fdR_no hb, hb]; done) | (have hb : fdB xs st = false := fdB_no (.inr (.inl (by simpa [staysB] using h1))); rw [fdR_no hb, hb]; done) | (have hb : fdB xs st = false := fdB_no (.inr (.inr (by unfold fdV; omega))); rw [fdR_no hb, hb]; done) | (have hb : fdB xs st = true := fdB_yes hrB hsB (by unfold fdV; omega); rw [fdR_yes hb, hb]; rfl)

theorem iBestTour_c (xs : List Road) (st : List Stay) (dd : Int) (vxs : Value) (vst : Value) (w : World) (hGxs : ∀ y ∈ xs, GRoad y) (hsxs : SR w 3 vxs xs.length (flat encRoad xs)) (hGst : ∀ y ∈ st, GStay y) (hsst : SR w 3 vst st.length (flat encStay st)) (zdd : In64 dd) : Calls Try.prog 16 ([vxs, vst, .int .i64 dd]).toArray w (fun e w' => e = .returned (.tuple #[.int .i64 (btR xs st dd), .bool (btB xs st dd)]) ∧ Ext w w') := by
  obtain ⟨axs, capxs, rfl, hcapxs, hmaxxs⟩ := hsxs.slice
  have hlenxs := hsxs.len_le
  obtain ⟨ast, capst, rfl, hcapst, hmaxst⟩ := hsst.slice
  have hlenst := hsst.len_le
  refine calls_ct Try.func16 Try.ntmps16 rfl rfl ?_
  refine ct_seq ?_
  refine ct_reg ?_
  refine rl_box rfl rfl (fun N1 => ?_)
  refine rl_val gw_none (ov_assign rfl) rfl ?_
  refine rl_val gw_none (ov_assign rfl) rfl ?_
  refine rl_nil ?_
  refine at_then ?_
  refine ct_seq ?_
  refine ct_seq ?_
  refine ct_reg ?_
  refine rl_val gw_none (ov_move rfl) rfl ?_
  refine rl_callv gw_none goes37 rfl (fun w1 hp => iAreRoads_c xs _ _ (hsxs.ext hp.ext0)) rfl ?_
  refine rl_val gw_none (ov_not rfl) rfl ?_
  refine rl_val gw_none (ov_move rfl) rfl ?_
  refine rl_split (t := 12) rfl (fun g1 => ?_) (fun g1 => ?_)
  ·
    have g1' := g1
    try simp only [Bool.not_eq_true', Bool.not_eq_false', Bool.not_not, decide_eq_true_eq, decide_eq_false_iff_not, beq_iff_eq, beq_eq_false_iff_ne, bne_iff_ne, bne_eq_false_iff_eq, Bool.and_eq_true, Bool.or_eq_true, Bool.and_eq_false_iff, Bool.or_eq_false_iff, inB] at g1'
    refine rl_skip (gw_not rfl rfl g1) rfl ?_
    refine rl_skip (gw_not rfl rfl g1) rfl ?_
    refine rl_skip (gw_not rfl rfl g1) rfl ?_
    refine rl_val gw_none (ov_pick_t rfl g1 rfl) rfl ?_
    refine rl_val gw_none (ov_move rfl) rfl ?_
    refine rl_skip (gw_not rfl rfl rfl) rfl ?_
    refine rl_skip (gw_not rfl rfl rfl) rfl ?_
    refine rl_skip (gw_not rfl rfl rfl) rfl ?_
    refine rl_val gw_none (ov_pick_t rfl rfl rfl) rfl ?_
    refine rl_nil ?_
    refine at_then ?_
    refine ct_true rfl rfl ?_
    refine ct_seq ?_
    refine ct_reg ?_
    refine rl_val gw_none (ov_assign rfl) rfl ?_
    refine rl_val gw_none (ov_assign rfl) rfl ?_
    refine rl_nil ?_
    refine at_then ?_
    refine ct_ret ?_
    refine at_then_ret ?_
    refine at_ret2 Try.results16 (ro_tmp rfl) (ro_tmp rfl) (fun w1 hp => ?_)
    refine ⟨?_, hp.ext0⟩
    first | (have hb : btB xs st dd = false := btB_no (.inl (by simpa [roadsB] using g1)); rw [btR_no hb, hb]; done) | (have hb : btB xs st dd = false := btB_no (.inr (.inl (by simpa [staysB] using g2))); rw [btR_no hb, hb]; done) | (have hb : btB xs st dd = false := btB_no (.inr (.inr (by simpa using h1))); rw [btR_no hb, hb]; done) | (have hb : btB xs st dd = true := btB_yes hrB hsB hdd; rw [btR_yes hb, hb]; rfl)
  ·
    have g1' := g1
    try simp only [Bool.not_eq_true', Bool.not_eq_false', Bool.not_not, decide_eq_true_eq, decide_eq_false_iff_not, beq_iff_eq, beq_eq_false_iff_ne, bne_iff_ne, bne_eq_false_iff_eq, Bool.and_eq_true, Bool.or_eq_true, Bool.and_eq_false_iff, Bool.or_eq_false_iff, inB] at g1'
    refine rl_val (gw_some rfl rfl g1) (ov_move rfl) rfl ?_
    refine rl_callv (gw_some rfl rfl g1) goes25 rfl (fun w1 hp => iAreStays_c st _ _ (hsst.ext hp.ext0)) rfl ?_
    refine rl_val (gw_some rfl rfl g1) (ov_not rfl) rfl ?_
    refine rl_val gw_none (ov_pick_f rfl g1 rfl) rfl ?_
    refine rl_val gw_none (ov_move rfl) rfl ?_
    refine rl_split (t := 17) rfl (fun g2 => ?_) (fun g2 => ?_)
    ·
      have g2' := g2
      try simp only [Bool.not_eq_true', Bool.not_eq_false', Bool.not_not, decide_eq_true_eq, decide_eq_false_iff_not, beq_iff_eq, beq_eq_false_iff_ne, bne_iff_ne, bne_eq_false_iff_eq, Bool.and_eq_true, Bool.or_eq_true, Bool.and_eq_false_iff, Bool.or_eq_false_iff, inB] at g2'
      refine rl_skip (gw_not rfl rfl g2) rfl ?_
      refine rl_skip (gw_not rfl rfl g2) rfl ?_
      refine rl_skip (gw_not rfl rfl g2) rfl ?_
      refine rl_val gw_none (ov_pick_t rfl g2 rfl) rfl ?_
      refine rl_nil ?_
      refine at_then ?_
      refine ct_true rfl rfl ?_
      refine ct_seq ?_
      refine ct_reg ?_
      refine rl_val gw_none (ov_assign rfl) rfl ?_
      refine rl_val gw_none (ov_assign rfl) rfl ?_
      refine rl_nil ?_
      refine at_then ?_
      refine ct_ret ?_
      refine at_then_ret ?_
      refine at_ret2 Try.results16 (ro_tmp rfl) (ro_tmp rfl) (fun w1 hp => ?_)
      refine ⟨?_, hp.ext0⟩
      first | (have hb : btB xs st dd = false := btB_no (.inl (by simpa [roadsB] using g1)); rw [btR_no hb, hb]; done) | (have hb : btB xs st dd = false := btB_no (.inr (.inl (by simpa [staysB] using g2))); rw [btR_no hb, hb]; done) | (have hb : btB xs st dd = false := btB_no (.inr (.inr (by simpa using h1))); rw [btR_no hb, hb]; done) | (have hb : btB xs st dd = true := btB_yes hrB hsB hdd; rw [btR_yes hb, hb]; rfl)
    ·
      have g2' := g2
      try simp only [Bool.not_eq_true', Bool.not_eq_false', Bool.not_not, decide_eq_true_eq, decide_eq_false_iff_not, beq_iff_eq, beq_eq_false_iff_ne, bne_iff_ne, bne_eq_false_iff_eq, Bool.and_eq_true, Bool.or_eq_true, Bool.and_eq_false_iff, Bool.or_eq_false_iff, inB] at g2'
      first | refine rl_val (gw_some rfl rfl g2) (ov_load 0 sc3 rfl rfl rfl) rfl ?_ | refine rl_val (gw_some rfl rfl g2) (ov_load 0 sc3 rfl rfl (by assumption)) rfl ?_
      refine rl_callv (gw_some rfl rfl g2) goes53 rfl (fun w1 hp => within_c _ _ _ _) rfl ?_
      refine rl_val (gw_some rfl rfl g2) (ov_not rfl) rfl ?_
      refine rl_val gw_none (ov_pick_f rfl g2 rfl) rfl ?_
      refine rl_nil ?_
      refine at_then ?_
      first | refine ct_dec rfl (fun h1 => ?_) (fun h1 => ?_) | refine ct_ndec rfl (fun h1 => ?_) (fun h1 => ?_) | refine ct_eq rfl (fun h1 => ?_) (fun h1 => ?_) | refine ct_ne rfl (fun h1 => ?_) (fun h1 => ?_) | refine ct_not rfl (fun h1 => ?_) (fun h1 => ?_) | refine ct_cond rfl (fun h1 => ?_) (fun h1 => ?_)
      ·
        refine ct_seq ?_
        refine ct_reg ?_
        refine rl_val gw_none (ov_assign rfl) rfl ?_
        refine rl_val gw_none (ov_assign rfl) rfl ?_
        refine rl_nil ?_
        refine at_then ?_
        refine ct_ret ?_
        refine at_then_ret ?_
        refine at_ret2 Try.results16 (ro_tmp rfl) (ro_tmp rfl) (fun w1 hp => ?_)
        refine ⟨?_, hp.ext0⟩
        first | (have hb : btB xs st dd = false := btB_no (.inl (by simpa [roadsB] using g1)); rw [btR_no hb, hb]; done) | (have hb : btB xs st dd = false := btB_no (.inr (.inl (by simpa [staysB] using g2))); rw [btR_no hb, hb]; done) | (have hb : btB xs st dd = false := btB_no (.inr (.inr (by simpa using h1))); rw [btR_no hb, hb]; done) | (have hb : btB xs st dd = true := btB_yes hrB hsB hdd; rw [btR_yes hb, hb]; rfl)
      ·
        have hrB : roadsB xs = true := by simpa [roadsB] using g1
        have hR := roads_ok hrB
        have hok := hR.1
        have hwl := ways_len (-1) xs
        have hsB : staysB st = true := by simpa [staysB] using g2
        have hst7 : st.length ≤ 7 := listB_len hsB
        have hdd : inB dd 0 1000 = true := by simpa using h1
        refine ct_skip ?_
        refine at_then ?_
        refine ct_seq ?_
        refine ct_reg ?_
        refine rl_alloc ze3 rfl (fun N2 => ?_)
        refine rl_store [] sz3 rfl rfl rfl rfl rfl (Nat.le_of_ble_eq_true rfl) ?_
        refine rl_nil ?_
        refine at_then ?_
        refine ct_seq ?_
        refine ct_fl 7 [0, 1, 2, 3, 4, 6, 5, 7] ⟨0, [6], [], [], [1], []⟩ (fun q => ⟨0, [], fun _ => undef⟩) (by kernel_rfl) (by kernel_rfl) ?_
        refine qf_mark True.intro ?_
        refine qg_val rfl gw_none (fun _ => (ov_move rfl)) rfl ?_
        refine qf_step rfl ?_
        refine qg_callv rfl rfl gw_none goes47 rfl (fun w1 hp => waysOf_c xs (-1) _ _ (by unfold In64; omega) hok (hsxs.ext hp.ext0)) rfl ?_
        refine qf_step rfl ?_
        refine qg_val rfl gw_none (fun _ => (ov_move rfl)) rfl ?_
        refine qf_step rfl ?_
        refine qg_val rfl gw_none (fun _ => (ov_move rfl)) rfl ?_
        refine qf_step rfl ?_
        refine qg_val rfl gw_none (fun _ => (ov_len Try.underlying30 rfl)) rfl ?_
        refine qf_step rfl ?_
        refine qg_val rfl gw_none (fun _ => (ov_mkfunc rfl)) rfl ?_
        refine qf_step rfl ?_
        refine qg_make rfl rfl rfl Try.underlying74 ze4 sz4 by4 rfl rfl (by omega) (by unfold maxLen; omega) rfl (fun N3 => ?_)
        refine qf_nil ?_
        refine rl_calld (ι := Unit) (fun _ => .tuple #[]) [_, _] [_] (fun _ => [(some N2, 3, [.int .i64 (trO (ways (-1) xs) st (tlB dd) st.length [] 0)]), (some N3, 4, bls (flg st.length []))]) (fun _ => True) gw_none goes46 rfl (fun _ hq => ((hq).pull 0 rfl).pull 1 rfl) (fun w1 hp h0 => toursO_all xs st (tlB dd) 54 _ goes54 hR hsB st.length [] _ _ _ _ _ N3 N2 _ _ _ (h0.cong (by rw [bls_none]; rfl)) (OrdR.nil xs st) (by simp) rfl rfl rfl rfl ((SRD.of hsst).call hp (by simp)) (tellB_ok dd N1 N2 N3 _ w1 (hp.own 2 rfl rfl) (by have hnd := hp.nodup; simp [keys] at hnd ⊢; omega) (by have hnd := hp.nodup; simp [keys] at hnd ⊢; omega))) rfl (fun _ _ => ?_)
        refine rl_nil ?_
        refine at_then ?_
        refine ct_seq ?_
        refine ct_reg ?_
        first | refine rl_val gw_none (ov_load 0 sc3 rfl rfl rfl) rfl ?_ | refine rl_val gw_none (ov_load 0 sc3 rfl rfl (by assumption)) rfl ?_
        refine rl_val gw_none (ov_assign rfl) rfl ?_
        refine rl_val gw_none (ov_assign rfl) rfl ?_
        refine rl_nil ?_
        refine at_then ?_
        refine ct_ret ?_
        refine at_ret2 Try.results16 (ro_tmp rfl) (ro_tmp rfl) (fun w1 hp => ?_)
        refine ⟨?_, hp.ext0⟩
        first | (have hb : btB xs st dd = false := btB_no (.inl (by simpa [roadsB] using g1)); rw [btR_no hb, hb]; done) | (have hb : btB xs st dd = false := btB_no (.inr (.inl (by simpa [staysB] using g2))); rw [btR_no hb, hb]; done) | (have hb : btB xs st dd = false := btB_no (.inr (.inr (by simpa using h1))); rw [btR_no hb, hb]; done) | (have hb : btB xs st dd = true := btB_yes hrB hsB hdd; rw [btR_yes hb, hb]; rfl)
end Go.Proofs.Ytgnnlgmeagipjaa
