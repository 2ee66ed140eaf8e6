import Derived.Test.YtgnnlgmeagipjaaVd
import Derived.Test.YtgnnlgmeagipjaaTo
import Derived.KernelRfl
set_option linter.unusedVariables false
set_option linter.unusedSimpArgs false
namespace Go.Proofs.Ytgnnlgmeagipjaa
open Go Go.RowKit K
theorem sFewestDays_c (xs : List Road) (st : List Stay) (vxs : Value) (vst : Value) (w : World) (hGxs : ∀ y ∈ xs, GRoad y) (hsxs : SR w 3 vxs xs.length (flat encRoad xs)) (hGst : ∀ y ∈ st, GStay y) (hsst : SR w 3 vst st.length (flat encStay st)) : Calls Try.prog 9 ([vxs, vst]).toArray w (fun e w' => e = .returned (.tuple #[.int .i64 (fdR xs st), .bool (fdB xs st)]) ∧ Ext w w') := by
  obtain ⟨axs, capxs, rfl, hcapxs, hmaxxs⟩ := hsxs.slice
  have hlenxs := hsxs.len_le
  obtain ⟨ast, capst, rfl, hcapst, hmaxst⟩ := hsst.slice
  have hlenst := hsst.len_le
  refine calls_ct Try.func9 Try.ntmps9 rfl rfl ?_
  refine ct_seq ?_
  refine ct_reg ?_
  refine rl_val gw_none (ov_assign rfl) rfl ?_
  refine rl_val gw_none (ov_assign rfl) rfl ?_
  refine rl_nil ?_
  refine at_then ?_
  refine ct_seq ?_
  refine ct_seq ?_
  refine ct_reg ?_
  refine rl_val gw_none (ov_move rfl) rfl ?_
  refine rl_callv gw_none goes40 rfl (fun w1 hp => l24Roads_c xs _ _ (hsxs.ext hp.ext0)) rfl ?_
  refine rl_val gw_none (ov_not rfl) rfl ?_
  refine rl_val gw_none (ov_move rfl) rfl ?_
  refine rl_split (t := 13) rfl (fun g1 => ?_) (fun g1 => ?_)
  ·
    have g1' := g1
    try simp only [Bool.not_eq_true', Bool.not_eq_false', Bool.not_not, decide_eq_true_eq, decide_eq_false_iff_not, beq_iff_eq, beq_eq_false_iff_ne, bne_iff_ne, bne_eq_false_iff_eq, Bool.and_eq_true, Bool.or_eq_true, Bool.and_eq_false_iff, Bool.or_eq_false_iff, inB] at g1'
    refine rl_skip (gw_not rfl rfl g1) rfl ?_
    refine rl_skip (gw_not rfl rfl g1) rfl ?_
    refine rl_skip (gw_not rfl rfl g1) rfl ?_
    refine rl_val gw_none (ov_pick_t rfl g1 rfl) rfl ?_
    refine rl_nil ?_
    refine at_then ?_
    refine ct_true rfl rfl ?_
    refine ct_seq ?_
    refine ct_reg ?_
    refine rl_val gw_none (ov_assign rfl) rfl ?_
    refine rl_val gw_none (ov_assign rfl) rfl ?_
    refine rl_nil ?_
    refine at_then ?_
    refine ct_ret ?_
    refine at_then_ret ?_
    refine at_ret2 Try.results9 (ro_tmp rfl) (ro_tmp rfl) (fun w1 hp => ?_)
    refine ⟨?_, hp.ext0⟩
    first | (have hb : fdB xs st = false := fdB_no (.inl (by simpa [roadsB] using g1)); rw [fdR_no hb, hb]; done) | (have hb : fdB xs st = false := fdB_no (.inr (.inl (by simpa [staysB] using h1))); rw [fdR_no hb, hb]; done) | (have hb : fdB xs st = false := fdB_no (.inr (.inr (fd_none hR hsB hst7 hn0 (by omega)))); rw [fdR_no hb, hb]; done) | (have hz := fd_zero hR hsB hst7 hn0; have hb := fdB_yes hrB hsB (by omega); rw [fdR_yes hb, hb, hz]; done) | (have hz := fd_yes hR hsB hst7 hn0 (by omega); have hb := fdB_yes hrB hsB hz.1; rw [fdR_yes hb, hb, hz.2]; done)
  ·
    have g1' := g1
    try simp only [Bool.not_eq_true', Bool.not_eq_false', Bool.not_not, decide_eq_true_eq, decide_eq_false_iff_not, beq_iff_eq, beq_eq_false_iff_ne, bne_iff_ne, bne_eq_false_iff_eq, Bool.and_eq_true, Bool.or_eq_true, Bool.and_eq_false_iff, Bool.or_eq_false_iff, inB] at g1'
    refine rl_val (gw_some rfl rfl g1) (ov_move rfl) rfl ?_
    refine rl_callv (gw_some rfl rfl g1) goes41 rfl (fun w1 hp => l24Stays_c st _ _ (hsst.ext hp.ext0)) rfl ?_
    refine rl_val (gw_some rfl rfl g1) (ov_not rfl) rfl ?_
    refine rl_val gw_none (ov_pick_f rfl g1 rfl) rfl ?_
    refine rl_nil ?_
    refine at_then ?_
    first | refine ct_dec rfl (fun h1 => ?_) (fun h1 => ?_) | refine ct_ndec rfl (fun h1 => ?_) (fun h1 => ?_) | refine ct_eq rfl (fun h1 => ?_) (fun h1 => ?_) | refine ct_ne rfl (fun h1 => ?_) (fun h1 => ?_) | refine ct_not rfl (fun h1 => ?_) (fun h1 => ?_) | refine ct_cond rfl (fun h1 => ?_) (fun h1 => ?_)
    ·
      refine ct_seq ?_
      refine ct_reg ?_
      refine rl_val gw_none (ov_assign rfl) rfl ?_
      refine rl_val gw_none (ov_assign rfl) rfl ?_
      refine rl_nil ?_
      refine at_then ?_
      refine ct_ret ?_
      refine at_then_ret ?_
      refine at_ret2 Try.results9 (ro_tmp rfl) (ro_tmp rfl) (fun w1 hp => ?_)
      refine ⟨?_, hp.ext0⟩
      first | (have hb : fdB xs st = false := fdB_no (.inl (by simpa [roadsB] using g1)); rw [fdR_no hb, hb]; done) | (have hb : fdB xs st = false := fdB_no (.inr (.inl (by simpa [staysB] using h1))); rw [fdR_no hb, hb]; done) | (have hb : fdB xs st = false := fdB_no (.inr (.inr (fd_none hR hsB hst7 hn0 (by omega)))); rw [fdR_no hb, hb]; done) | (have hz := fd_zero hR hsB hst7 hn0; have hb := fdB_yes hrB hsB (by omega); rw [fdR_yes hb, hb, hz]; done) | (have hz := fd_yes hR hsB hst7 hn0 (by omega); have hb := fdB_yes hrB hsB hz.1; rw [fdR_yes hb, hb, hz.2]; done)
    ·
      have hrB : roadsB xs = true := by simpa [roadsB] using g1
      have hR := roads_ok hrB
      have hok := hR.1
      have hwl := ways_len (-1) xs
      have hsB : staysB st = true := by simpa [staysB] using h1
      have hst7 : st.length ≤ 7 := listB_len hsB
      refine ct_skip ?_
      refine at_then ?_
      refine ct_seq ?_
      refine ct_seq ?_
      refine ct_reg ?_
      refine rl_val gw_none (ov_move rfl) rfl ?_
      refine rl_val gw_none (ov_len Try.underlying30 rfl) rfl ?_
      refine rl_val gw_none (ov_eql rfl rfl) rfl ?_
      refine rl_nil ?_
      refine at_then ?_
      first | refine ct_dec rfl (fun h2 => ?_) (fun h2 => ?_) | refine ct_ndec rfl (fun h2 => ?_) (fun h2 => ?_) | refine ct_eq rfl (fun h2 => ?_) (fun h2 => ?_) | refine ct_ne rfl (fun h2 => ?_) (fun h2 => ?_) | refine ct_not rfl (fun h2 => ?_) (fun h2 => ?_) | refine ct_cond rfl (fun h2 => ?_) (fun h2 => ?_)
      ·
        have hn0 : st.length = 0 := by omega
        refine ct_seq ?_
        refine ct_reg ?_
        refine rl_val gw_none (ov_assign rfl) rfl ?_
        refine rl_val gw_none (ov_assign rfl) rfl ?_
        refine rl_nil ?_
        refine at_then ?_
        refine ct_ret ?_
        refine at_then_ret ?_
        refine at_ret2 Try.results9 (ro_tmp rfl) (ro_tmp rfl) (fun w1 hp => ?_)
        refine ⟨?_, hp.ext0⟩
        first | (have hb : fdB xs st = false := fdB_no (.inl (by simpa [roadsB] using g1)); rw [fdR_no hb, hb]; done) | (have hb : fdB xs st = false := fdB_no (.inr (.inl (by simpa [staysB] using h1))); rw [fdR_no hb, hb]; done) | (have hb : fdB xs st = false := fdB_no (.inr (.inr (fd_none hR hsB hst7 hn0 (by omega)))); rw [fdR_no hb, hb]; done) | (have hz := fd_zero hR hsB hst7 hn0; have hb := fdB_yes hrB hsB (by omega); rw [fdR_yes hb, hb, hz]; done) | (have hz := fd_yes hR hsB hst7 hn0 (by omega); have hb := fdB_yes hrB hsB hz.1; rw [fdR_yes hb, hb, hz.2]; done)
      ·
        have hn0 : 0 < st.length := by omega
        refine ct_skip ?_
        refine at_then ?_
        refine ct_seq ?_
        refine ct_reg ?_
        refine rl_val gw_none (ov_assign rfl) rfl ?_
        refine rl_nil ?_
        refine at_then ?_
        refine ct_seq ?_
        refine ct_reg ?_
        refine rl_val gw_none (ov_move rfl) rfl ?_
        refine rl_val gw_none (ov_move rfl) rfl ?_
        refine rl_calle (ι := Option Nat × Nat × List Value × List Nat) (fun q => sv q.1 (oVals st.length q.2.2.2).length q.2.1) (fun q => (q.1, 39, vls (oVals st.length q.2.2.2) ++ q.2.2.1) :: oEnts 3 (ways (-1) xs) st q.2.2.2) (fun q => q.2.2.2.length = 2 ^ st.length ∧ Sl 1 q.1 (oVals st.length q.2.2.2).length q.2.1 (vls (oVals st.length q.2.2.2)) q.2.2.1) goes42 rfl (fun w1 hp => l24Held_c xs st _ _ _ hGxs (hsxs.ext hp.ext0) hGst (hsst.ext hp.ext0) hR hsB) rfl (fun qh hqh => ?_)
        obtain ⟨bo2, cap2, pad2, os⟩ := qh
        obtain ⟨hbe, hsl2⟩ := hqh
        dsimp only at hbe hsl2
        try dsimp only
        have hovl := oVals_len st.length os
        have hpw := pow_le128 st.length (by omega)
        obtain ⟨bou, rfl⟩ := slSome hsl2 (by omega)
        obtain ⟨b5, hov, hoe⟩ := oGet (T := 3) (W := ways (-1) xs) (st := st) (r := os) st.length (show (2 ^ st.length - 1) < os.length by omega)
        have hoe2 := tailO (B := []) hoe
        refine rl_val gw_none (ov_assign rfl) rfl ?_
        refine rl_nil ?_
        refine at_then ?_
        refine ct_seq ?_
        refine ct_reg ?_
        refine rl_val gw_none (ov_move rfl) rfl ?_
        refine rl_val gw_none (ov_move rfl) rfl ?_
        refine rl_val gw_none (ov_len Try.underlying61 rfl) rfl ?_
        refine rl_val gw_none (ov_sub rfl rfl (by omega)) rfl ?_
        first | refine rl_val gw_none (ov_ix Try.underlying61 sz39 rfl rfl _ rfl (by omega)) rfl ?_ | refine rl_val gw_none (ov_ix Try.underlying61 sz39 rfl rfl (k) (by omega) (by omega)) rfl ?_ | refine rl_val gw_none (ov_ix Try.underlying61 sz39 rfl rfl ((2 ^ st.length - 1)) (by omega) (by omega)) rfl ?_
        refine rl_val gw_none (ov_load 0 sc39 rfl rfl (vls_get hov (by omega))) rfl ?_
        refine rl_val gw_none (ov_assign rfl) rfl ?_
        refine rl_nil ?_
        refine at_then ?_
        refine ct_seq ?_
        refine ct_seq ?_
        refine ct_reg ?_
        refine rl_val gw_none (ov_assign rfl) rfl ?_
        refine rl_nil ?_
        refine at_then ?_
        refine ct_block ?_
        refine ct_loopR (ι := Nat) (fun k => [(6, .int .i64 (minP (tabH (ways (-1) xs) st (2 ^ st.length - 1)) k)), (9, .int .i64 k)]) [(1, _), (4, _), (5, _), (8, _)] (fun _ => _) (fun k => k ≤ st.length) (fun k => st.length - k) (0) (Sub.cons rfl (Sub.cons rfl (Sub.cons rfl (Sub.cons rfl Sub.nil)))) (fun _ hq => hq) (by (repeat' (first | exact Sub.nil | refine Sub.cons ?_ ?_)); all_goals (first | rfl | exact lkInt rfl (by omega))) (by first | exact True.intro | omega | (dsimp only; omega) | (dsimp only at *; omega)) (fun k hk => ?_)
        refine ct_seq ?_
        refine ct_seq ?_
        refine ct_reg ?_
        refine rl_val gw_none (ov_move rfl) rfl ?_
        refine rl_val gw_none (ov_move rfl) rfl ?_
        refine rl_val gw_none (ov_len Try.underlying30 rfl) rfl ?_
        refine rl_val gw_none (ov_lss rfl rfl) rfl ?_
        refine rl_nil ?_
        refine at_then ?_
        first | refine ct_dec rfl (fun h3 => ?_) (fun h3 => ?_) | refine ct_ndec rfl (fun h3 => ?_) (fun h3 => ?_) | refine ct_eq rfl (fun h3 => ?_) (fun h3 => ?_) | refine ct_ne rfl (fun h3 => ?_) (fun h3 => ?_) | refine ct_not rfl (fun h3 => ?_) (fun h3 => ?_) | refine ct_cond rfl (fun h3 => ?_) (fun h3 => ?_)
        ·
          have hk2 : k < st.length := by omega
          refine ct_skip ?_
          refine at_then ?_
          refine ct_seq ?_
          refine ct_block ?_
          refine ct_reg ?_
          refine rl_val gw_none (ov_move rfl) rfl ?_
          refine rl_val gw_none (ov_move rfl) rfl ?_
          refine rl_val gw_none (ov_move rfl) rfl ?_
          first | refine rl_val gw_none (ov_ix Try.underlying39 sz3 rfl rfl _ rfl (by omega)) rfl ?_ | refine rl_val gw_none (ov_ix Try.underlying39 sz3 rfl rfl (k) (by omega) (by omega)) rfl ?_ | refine rl_val gw_none (ov_ix Try.underlying39 sz3 rfl rfl ((2 ^ st.length - 1)) (by omega) (by omega)) rfl ?_
          refine rl_val gw_none (ov_load (os.length - 1 - (2 ^ st.length - 1) + 1) sc3 rfl hoe2 (row_cell hk2 (by omega))) rfl ?_
          refine rl_callv gw_none goes43 rfl (fun w1 hp => l1Least_c _ _ _) rfl ?_
          refine rl_val gw_none (ov_assign rfl) rfl ?_
          refine rl_nil ?_
          refine at_block ?_
          refine at_then ?_
          refine ct_reg ?_
          refine rl_val gw_none (ov_move rfl) rfl ?_
          refine rl_val gw_none (ov_add rfl rfl (by omega)) rfl ?_
          refine rl_val gw_none (ov_assign rfl) rfl ?_
          refine rl_nil ?_
          exact at_backR (k + 1) (by first | exact True.intro | omega | (dsimp only; omega) | (dsimp only at *; omega)) (by first | exact True.intro | omega | (dsimp only; omega) | (dsimp only at *; omega)) (by rw [minP_succ]; (repeat' (first | exact Sub.nil | refine Sub.cons ?_ ?_)); all_goals (first | rfl | exact lkInt rfl (by omega) | exact lkInt rfl (by rw [hfe]))) (Sub.cons rfl (Sub.cons rfl (Sub.cons rfl (Sub.cons rfl Sub.nil)))) (fun _ hq => hq)
        ·
          have hke : k = st.length := by omega
          subst hke
          refine ct_exit ?_
          refine at_then_exit ?_
          refine at_then_exit ?_
          refine at_block_hit ?_
          refine at_then ?_
          refine ct_seq ?_
          refine ct_seq ?_
          refine ct_reg ?_
          refine rl_val gw_none (ov_move rfl) rfl ?_
          refine rl_val gw_none (ov_geq rfl rfl) rfl ?_
          refine rl_nil ?_
          refine at_then ?_
          first | refine ct_dec rfl (fun h4 => ?_) (fun h4 => ?_) | refine ct_ndec rfl (fun h4 => ?_) (fun h4 => ?_) | refine ct_eq rfl (fun h4 => ?_) (fun h4 => ?_) | refine ct_ne rfl (fun h4 => ?_) (fun h4 => ?_) | refine ct_not rfl (fun h4 => ?_) (fun h4 => ?_) | refine ct_cond rfl (fun h4 => ?_) (fun h4 => ?_)
          ·
            refine ct_seq ?_
            refine ct_reg ?_
            refine rl_val gw_none (ov_assign rfl) rfl ?_
            refine rl_val gw_none (ov_assign rfl) rfl ?_
            refine rl_nil ?_
            refine at_then ?_
            refine ct_ret ?_
            refine at_then_ret ?_
            refine at_ret2 Try.results9 (ro_tmp rfl) (ro_tmp rfl) (fun w1 hp => ?_)
            refine ⟨?_, hp.ext0⟩
            first | (have hb : fdB xs st = false := fdB_no (.inl (by simpa [roadsB] using g1)); rw [fdR_no hb, hb]; done) | (have hb : fdB xs st = false := fdB_no (.inr (.inl (by simpa [staysB] using h1))); rw [fdR_no hb, hb]; done) | (have hb : fdB xs st = false := fdB_no (.inr (.inr (fd_none hR hsB hst7 hn0 (by omega)))); rw [fdR_no hb, hb]; done) | (have hz := fd_zero hR hsB hst7 hn0; have hb := fdB_yes hrB hsB (by omega); rw [fdR_yes hb, hb, hz]; done) | (have hz := fd_yes hR hsB hst7 hn0 (by omega); have hb := fdB_yes hrB hsB hz.1; rw [fdR_yes hb, hb, hz.2]; done)
          ·
            refine ct_skip ?_
            refine at_then ?_
            refine ct_seq ?_
            refine ct_reg ?_
            refine rl_val gw_none (ov_move rfl) rfl ?_
            refine rl_val gw_none (ov_assign rfl) rfl ?_
            refine rl_val gw_none (ov_assign rfl) rfl ?_
            refine rl_nil ?_
            refine at_then ?_
            refine ct_ret ?_
            refine at_ret2 Try.results9 (ro_tmp rfl) (ro_tmp rfl) (fun w1 hp => ?_)
            refine ⟨?_, hp.ext0⟩
            first | (have hb : fdB xs st = false := fdB_no (.inl (by simpa [roadsB] using g1)); rw [fdR_no hb, hb]; done) | (have hb : fdB xs st = false := fdB_no (.inr (.inl (by simpa [staysB] using h1))); rw [fdR_no hb, hb]; done) | (have hb : fdB xs st = false := fdB_no (.inr (.inr (fd_none hR hsB hst7 hn0 (by omega)))); rw [fdR_no hb, hb]; done) | (have hz := fd_zero hR hsB hst7 hn0; have hb := fdB_yes hrB hsB (by omega); rw [fdR_yes hb, hb, hz]; done) | (have hz := fd_yes hR hsB hst7 hn0 (by omega); have hb := fdB_yes hrB hsB hz.1; rw [fdR_yes hb, hb, hz.2]; done)

theorem l1Most_x (x y : Int) (w : World) : Calls Try.prog 52 ([.int .i64 x, .int .i64 y]).toArray w (fun e w' => e = .returned (.int .i64 (if x < y then y else x)) ∧ Ext w w') := by
  refine calls_ct Try.func52 Try.ntmps52 rfl rfl ?_
  refine ct_seq ?_
  refine ct_reg ?_
  refine rl_val gw_none (ov_assign rfl) rfl ?_
  refine rl_nil ?_
  refine at_then ?_
  refine ct_seq ?_
  refine ct_seq ?_
  refine ct_reg ?_
  refine rl_val gw_none (ov_move rfl) rfl ?_
  refine rl_val gw_none (ov_move rfl) rfl ?_
  refine rl_val gw_none (ov_gtr rfl rfl) rfl ?_
  refine rl_nil ?_
  refine at_then ?_
  first | refine ct_dec rfl (fun h1 => ?_) (fun h1 => ?_) | refine ct_ndec rfl (fun h1 => ?_) (fun h1 => ?_) | refine ct_eq rfl (fun h1 => ?_) (fun h1 => ?_) | refine ct_ne rfl (fun h1 => ?_) (fun h1 => ?_) | refine ct_not rfl (fun h1 => ?_) (fun h1 => ?_) | refine ct_cond rfl (fun h1 => ?_) (fun h1 => ?_)
  ·
    refine ct_seq ?_
    refine ct_reg ?_
    refine rl_val gw_none (ov_move rfl) rfl ?_
    refine rl_val gw_none (ov_assign rfl) rfl ?_
    refine rl_nil ?_
    refine at_then ?_
    refine ct_ret ?_
    refine at_then_ret ?_
    refine at_ret1 Try.results52 (ro_tmp rfl) (fun w1 hp => ?_)
    refine ⟨?_, hp.ext0⟩
    first | (rw [show (if x < y then y else x) = x from by split <;> omega]; done) | (rw [show (if x < y then y else x) = y from by split <;> omega]; done)
  ·
    refine ct_skip ?_
    refine at_then ?_
    refine ct_seq ?_
    refine ct_reg ?_
    refine rl_val gw_none (ov_move rfl) rfl ?_
    refine rl_val gw_none (ov_assign rfl) rfl ?_
    refine rl_nil ?_
    refine at_then ?_
    refine ct_ret ?_
    refine at_ret1 Try.results52 (ro_tmp rfl) (fun w1 hp => ?_)
    refine ⟨?_, hp.ext0⟩
    first | (rw [show (if x < y then y else x) = x from by split <;> omega]; done) | (rw [show (if x < y then y else x) = y from by split <;> omega]; done)

theorem sBestTour_c (xs : List Road) (st : List Stay) (dd : Int) (vxs : Value) (vst : Value) (w : World) (hGxs : ∀ y ∈ xs, GRoad y) (hsxs : SR w 3 vxs xs.length (flat encRoad xs)) (hGst : ∀ y ∈ st, GStay y) (hsst : SR w 3 vst st.length (flat encStay st)) (zdd : In64 dd) : Calls Try.prog 15 ([vxs, vst, .int .i64 dd]).toArray w (fun e w' => e = .returned (.tuple #[.int .i64 (btR xs st dd), .bool (btB xs st dd)]) ∧ Ext w w') := by
  obtain ⟨axs, capxs, rfl, hcapxs, hmaxxs⟩ := hsxs.slice
  have hlenxs := hsxs.len_le
  obtain ⟨ast, capst, rfl, hcapst, hmaxst⟩ := hsst.slice
  have hlenst := hsst.len_le
  refine calls_ct Try.func15 Try.ntmps15 rfl rfl ?_
  refine ct_seq ?_
  refine ct_reg ?_
  refine rl_val gw_none (ov_assign rfl) rfl ?_
  refine rl_val gw_none (ov_assign rfl) rfl ?_
  refine rl_nil ?_
  refine at_then ?_
  refine ct_seq ?_
  refine ct_seq ?_
  refine ct_reg ?_
  refine rl_val gw_none (ov_move rfl) rfl ?_
  refine rl_callv gw_none goes40 rfl (fun w1 hp => l24Roads_c xs _ _ (hsxs.ext hp.ext0)) rfl ?_
  refine rl_val gw_none (ov_not rfl) rfl ?_
  refine rl_val gw_none (ov_move rfl) rfl ?_
  refine rl_split (t := 17) rfl (fun g1 => ?_) (fun g1 => ?_)
  ·
    have g1' := g1
    try simp only [Bool.not_eq_true', Bool.not_eq_false', Bool.not_not, decide_eq_true_eq, decide_eq_false_iff_not, beq_iff_eq, beq_eq_false_iff_ne, bne_iff_ne, bne_eq_false_iff_eq, Bool.and_eq_true, Bool.or_eq_true, Bool.and_eq_false_iff, Bool.or_eq_false_iff, inB] at g1'
    refine rl_skip (gw_not rfl rfl g1) rfl ?_
    refine rl_skip (gw_not rfl rfl g1) rfl ?_
    refine rl_skip (gw_not rfl rfl g1) rfl ?_
    refine rl_val gw_none (ov_pick_t rfl g1 rfl) rfl ?_
    refine rl_val gw_none (ov_move rfl) rfl ?_
    refine rl_skip (gw_not rfl rfl rfl) rfl ?_
    refine rl_skip (gw_not rfl rfl rfl) rfl ?_
    refine rl_skip (gw_not rfl rfl rfl) rfl ?_
    refine rl_val gw_none (ov_pick_t rfl rfl rfl) rfl ?_
    refine rl_nil ?_
    refine at_then ?_
    refine ct_true rfl rfl ?_
    refine ct_seq ?_
    refine ct_reg ?_
    refine rl_val gw_none (ov_assign rfl) rfl ?_
    refine rl_val gw_none (ov_assign rfl) rfl ?_
    refine rl_nil ?_
    refine at_then ?_
    refine ct_ret ?_
    refine at_then_ret ?_
    refine at_ret2 Try.results15 (ro_tmp rfl) (ro_tmp rfl) (fun w1 hp => ?_)
    refine ⟨?_, hp.ext0⟩
    first | (have hb : btB xs st dd = false := btB_no (.inl (by simpa [roadsB] using g1)); rw [btR_no hb, hb]; done) | (have hb : btB xs st dd = false := btB_no (.inr (.inl (by simpa [staysB] using g2))); rw [btR_no hb, hb]; done) | (have hb : btB xs st dd = false := btB_no (.inr (.inr (by simpa using h1))); rw [btR_no hb, hb]; done) | (have hb : btB xs st dd = true := btB_yes hrB hsB hdd; rw [btR_yes hb, hb, ← hbt]; done)
  ·
    have g1' := g1
    try simp only [Bool.not_eq_true', Bool.not_eq_false', Bool.not_not, decide_eq_true_eq, decide_eq_false_iff_not, beq_iff_eq, beq_eq_false_iff_ne, bne_iff_ne, bne_eq_false_iff_eq, Bool.and_eq_true, Bool.or_eq_true, Bool.and_eq_false_iff, Bool.or_eq_false_iff, inB] at g1'
    refine rl_val (gw_some rfl rfl g1) (ov_move rfl) rfl ?_
    refine rl_callv (gw_some rfl rfl g1) goes41 rfl (fun w1 hp => l24Stays_c st _ _ (hsst.ext hp.ext0)) rfl ?_
    refine rl_val (gw_some rfl rfl g1) (ov_not rfl) rfl ?_
    refine rl_val gw_none (ov_pick_f rfl g1 rfl) rfl ?_
    refine rl_val gw_none (ov_move rfl) rfl ?_
    refine rl_split (t := 22) rfl (fun g2 => ?_) (fun g2 => ?_)
    ·
      have g2' := g2
      try simp only [Bool.not_eq_true', Bool.not_eq_false', Bool.not_not, decide_eq_true_eq, decide_eq_false_iff_not, beq_iff_eq, beq_eq_false_iff_ne, bne_iff_ne, bne_eq_false_iff_eq, Bool.and_eq_true, Bool.or_eq_true, Bool.and_eq_false_iff, Bool.or_eq_false_iff, inB] at g2'
      refine rl_skip (gw_not rfl rfl g2) rfl ?_
      refine rl_skip (gw_not rfl rfl g2) rfl ?_
      refine rl_skip (gw_not rfl rfl g2) rfl ?_
      refine rl_val gw_none (ov_pick_t rfl g2 rfl) rfl ?_
      refine rl_nil ?_
      refine at_then ?_
      refine ct_true rfl rfl ?_
      refine ct_seq ?_
      refine ct_reg ?_
      refine rl_val gw_none (ov_assign rfl) rfl ?_
      refine rl_val gw_none (ov_assign rfl) rfl ?_
      refine rl_nil ?_
      refine at_then ?_
      refine ct_ret ?_
      refine at_then_ret ?_
      refine at_ret2 Try.results15 (ro_tmp rfl) (ro_tmp rfl) (fun w1 hp => ?_)
      refine ⟨?_, hp.ext0⟩
      first | (have hb : btB xs st dd = false := btB_no (.inl (by simpa [roadsB] using g1)); rw [btR_no hb, hb]; done) | (have hb : btB xs st dd = false := btB_no (.inr (.inl (by simpa [staysB] using g2))); rw [btR_no hb, hb]; done) | (have hb : btB xs st dd = false := btB_no (.inr (.inr (by simpa using h1))); rw [btR_no hb, hb]; done) | (have hb : btB xs st dd = true := btB_yes hrB hsB hdd; rw [btR_yes hb, hb, ← hbt]; done)
    ·
      have g2' := g2
      try simp only [Bool.not_eq_true', Bool.not_eq_false', Bool.not_not, decide_eq_true_eq, decide_eq_false_iff_not, beq_iff_eq, beq_eq_false_iff_ne, bne_iff_ne, bne_eq_false_iff_eq, Bool.and_eq_true, Bool.or_eq_true, Bool.and_eq_false_iff, Bool.or_eq_false_iff, inB] at g2'
      refine rl_val (gw_some rfl rfl g2) (ov_move rfl) rfl ?_
      refine rl_callv (gw_some rfl rfl g2) goes51 rfl (fun w1 hp => l1In_c _ _ _ _) rfl ?_
      refine rl_val (gw_some rfl rfl g2) (ov_not rfl) rfl ?_
      refine rl_val gw_none (ov_pick_f rfl g2 rfl) rfl ?_
      refine rl_nil ?_
      refine at_then ?_
      first | refine ct_dec rfl (fun h1 => ?_) (fun h1 => ?_) | refine ct_ndec rfl (fun h1 => ?_) (fun h1 => ?_) | refine ct_eq rfl (fun h1 => ?_) (fun h1 => ?_) | refine ct_ne rfl (fun h1 => ?_) (fun h1 => ?_) | refine ct_not rfl (fun h1 => ?_) (fun h1 => ?_) | refine ct_cond rfl (fun h1 => ?_) (fun h1 => ?_)
      ·
        refine ct_seq ?_
        refine ct_reg ?_
        refine rl_val gw_none (ov_assign rfl) rfl ?_
        refine rl_val gw_none (ov_assign rfl) rfl ?_
        refine rl_nil ?_
        refine at_then ?_
        refine ct_ret ?_
        refine at_then_ret ?_
        refine at_ret2 Try.results15 (ro_tmp rfl) (ro_tmp rfl) (fun w1 hp => ?_)
        refine ⟨?_, hp.ext0⟩
        first | (have hb : btB xs st dd = false := btB_no (.inl (by simpa [roadsB] using g1)); rw [btR_no hb, hb]; done) | (have hb : btB xs st dd = false := btB_no (.inr (.inl (by simpa [staysB] using g2))); rw [btR_no hb, hb]; done) | (have hb : btB xs st dd = false := btB_no (.inr (.inr (by simpa using h1))); rw [btR_no hb, hb]; done) | (have hb : btB xs st dd = true := btB_yes hrB hsB hdd; rw [btR_yes hb, hb, ← hbt]; done)
      ·
        have hrB : roadsB xs = true := by simpa [roadsB] using g1
        have hR := roads_ok hrB
        have hok := hR.1
        have hwl := ways_len (-1) xs
        have hsB : staysB st = true := by simpa [staysB] using g2
        have hst7 : st.length ≤ 7 := listB_len hsB
        have hdd : inB dd 0 1000 = true := by simpa using h1
        refine ct_skip ?_
        refine at_then ?_
        refine ct_seq ?_
        refine ct_reg ?_
        refine rl_val gw_none (ov_assign rfl) rfl ?_
        refine rl_nil ?_
        refine at_then ?_
        refine ct_seq ?_
        refine ct_reg ?_
        refine rl_val gw_none (ov_move rfl) rfl ?_
        refine rl_val gw_none (ov_move rfl) rfl ?_
        refine rl_calle (ι := Option Nat × Nat × List Value × List Nat) (fun q => sv q.1 (oVals st.length q.2.2.2).length q.2.1) (fun q => (q.1, 39, vls (oVals st.length q.2.2.2) ++ q.2.2.1) :: oEnts 3 (ways (-1) xs) st q.2.2.2) (fun q => q.2.2.2.length = 2 ^ st.length ∧ Sl 1 q.1 (oVals st.length q.2.2.2).length q.2.1 (vls (oVals st.length q.2.2.2)) q.2.2.1) goes42 rfl (fun w1 hp => l24Held_c xs st _ _ _ hGxs (hsxs.ext hp.ext0) hGst (hsst.ext hp.ext0) hR hsB) rfl (fun qh hqh => ?_)
        obtain ⟨bo2, cap2, pad2, os⟩ := qh
        obtain ⟨hbe, hsl2⟩ := hqh
        dsimp only at hbe hsl2
        try dsimp only
        have hovl := oVals_len st.length os
        have hpw := pow_le128 st.length (by omega)
        obtain ⟨bou, rfl⟩ := slSome hsl2 (by omega)
        refine rl_val gw_none (ov_assign rfl) rfl ?_
        refine rl_nil ?_
        refine at_then ?_
        refine ct_seq ?_
        refine ct_seq ?_
        refine ct_reg ?_
        refine rl_val gw_none (ov_assign rfl) rfl ?_
        refine rl_nil ?_
        refine at_then ?_
        refine ct_block ?_
        refine ct_loopR (ι := Nat) (fun k => [(8, .int .i64 (bestP (ways (-1) xs) st dd k)), (10, .int .i64 k)]) [(1, _), (2, _), (6, _), (7, _), (9, _)] (fun _ => _) (fun k => k ≤ 2 ^ st.length) (fun k => 2 ^ st.length - k) (0) (Sub.cons rfl (Sub.cons rfl (Sub.cons rfl (Sub.cons rfl (Sub.cons rfl Sub.nil))))) (fun _ hq => hq) (by (repeat' (first | exact Sub.nil | refine Sub.cons ?_ ?_)); all_goals (first | rfl | exact lkInt rfl (by omega))) (by first | exact True.intro | omega | (dsimp only; omega) | (dsimp only at *; omega)) (fun k hk => ?_)
        refine ct_seq ?_
        refine ct_seq ?_
        refine ct_reg ?_
        refine rl_val gw_none (ov_move rfl) rfl ?_
        refine rl_val gw_none (ov_move rfl) rfl ?_
        refine rl_val gw_none (ov_len Try.underlying61 rfl) rfl ?_
        refine rl_val gw_none (ov_lss rfl rfl) rfl ?_
        refine rl_nil ?_
        refine at_then ?_
        first | refine ct_dec rfl (fun h2 => ?_) (fun h2 => ?_) | refine ct_ndec rfl (fun h2 => ?_) (fun h2 => ?_) | refine ct_eq rfl (fun h2 => ?_) (fun h2 => ?_) | refine ct_ne rfl (fun h2 => ?_) (fun h2 => ?_) | refine ct_not rfl (fun h2 => ?_) (fun h2 => ?_) | refine ct_cond rfl (fun h2 => ?_) (fun h2 => ?_)
        ·
          have hk2 : k < os.length := by omega
          obtain ⟨b5, hov, hoe⟩ := oGet (T := 3) (W := ways (-1) xs) (st := st) (r := os) st.length (show k < os.length by omega)
          have hoe2 := tailO (B := []) hoe
          refine ct_skip ?_
          refine at_then ?_
          refine ct_seq ?_
          refine ct_block ?_
          refine ct_seq ?_
          refine ct_reg ?_
          refine rl_val gw_none (ov_assign rfl) rfl ?_
          refine rl_val gw_none (ov_assign rfl) rfl ?_
          refine rl_nil ?_
          refine at_then ?_
          refine ct_seq ?_
          refine ct_seq ?_
          refine ct_reg ?_
          refine rl_val gw_none (ov_assign rfl) rfl ?_
          refine rl_nil ?_
          refine at_then ?_
          refine ct_block ?_
          refine ct_loopR (ι := Nat) (fun j => [(11, .int .i64 (feesP st k j)), (12, .int .i64 (minP (tabH (ways (-1) xs) st k) j)), (13, .int .i64 j)]) [(1, _), (2, _), (6, _), (7, _), (8, _), (9, _), (10, _)] (fun _ => _) (fun j => j ≤ st.length) (fun j => st.length - j) (0) (Sub.cons rfl (Sub.cons rfl (Sub.cons rfl (Sub.cons rfl (Sub.cons rfl (Sub.cons rfl (Sub.cons rfl Sub.nil))))))) (fun _ hq => hq) (by (repeat' (first | exact Sub.nil | refine Sub.cons ?_ ?_)); all_goals (first | rfl | exact lkInt rfl (by omega))) (by first | exact True.intro | omega | (dsimp only; omega) | (dsimp only at *; omega)) (fun j hj => ?_)
          refine ct_seq ?_
          refine ct_seq ?_
          refine ct_reg ?_
          refine rl_val gw_none (ov_move rfl) rfl ?_
          refine rl_val gw_none (ov_move rfl) rfl ?_
          refine rl_val gw_none (ov_len Try.underlying30 rfl) rfl ?_
          refine rl_val gw_none (ov_lss rfl rfl) rfl ?_
          refine rl_nil ?_
          refine at_then ?_
          first | refine ct_dec rfl (fun h3 => ?_) (fun h3 => ?_) | refine ct_ndec rfl (fun h3 => ?_) (fun h3 => ?_) | refine ct_eq rfl (fun h3 => ?_) (fun h3 => ?_) | refine ct_ne rfl (fun h3 => ?_) (fun h3 => ?_) | refine ct_not rfl (fun h3 => ?_) (fun h3 => ?_) | refine ct_cond rfl (fun h3 => ?_) (fun h3 => ?_)
          ·
            have hj2 : j < st.length := by omega
            obtain ⟨b2, o2, rfl, hel2⟩ := hsst.elem encStay_len (by omega) hj2
            have hx := getLt hj2
            generalize st[j] = x at *
            obtain ⟨c0, c1, c2, _⟩ := hel2 _ x hx
            have hxb := stay_at hsB hx
            have hxi : st[((j : Nat) : Int).toNat]? = some x := by rw [Int.toNat_natCast]; exact hx
            have htn : twN st (j) = x.town.toNat := by unfold twN; rw [tw_eq hxi]
            have hdy := dy_eq hxi
            have hfe := fe_eq hxi
            have hxt8 : x.town.toNat < 8 := by omega
            have hfb := feesP_bd hsB k j
            refine ct_skip ?_
            refine at_then ?_
            refine ct_seq ?_
            refine ct_block ?_
            refine ct_seq ?_
            refine ct_reg ?_
            refine rl_val gw_none (ov_move rfl) rfl ?_
            refine rl_val gw_none (ov_move rfl) rfl ?_
            refine rl_val gw_none (ov_move rfl) rfl ?_
            first | refine rl_val gw_none (ov_ix Try.underlying61 sz39 rfl rfl _ rfl (by omega)) rfl ?_ | refine rl_val gw_none (ov_ix Try.underlying61 sz39 rfl rfl (k) (by omega) (by omega)) rfl ?_ | refine rl_val gw_none (ov_ix Try.underlying61 sz39 rfl rfl (j) (by omega) (by omega)) rfl ?_
            refine rl_val gw_none (ov_load 0 sc39 rfl rfl (vls_get hov (by omega))) rfl ?_
            refine rl_val gw_none (ov_move rfl) rfl ?_
            first | refine rl_val gw_none (ov_ix Try.underlying39 sz3 rfl rfl _ rfl (by omega)) rfl ?_ | refine rl_val gw_none (ov_ix Try.underlying39 sz3 rfl rfl (k) (by omega) (by omega)) rfl ?_ | refine rl_val gw_none (ov_ix Try.underlying39 sz3 rfl rfl (j) (by omega) (by omega)) rfl ?_
            refine rl_val gw_none (ov_load (os.length - 1 - k + 1) sc3 rfl hoe2 (row_cell hj2 (by omega))) rfl ?_
            refine rl_callv gw_none goes43 rfl (fun w1 hp => l1Least_c _ _ _) rfl ?_
            refine rl_val gw_none (ov_assign rfl) rfl ?_
            refine rl_nil ?_
            refine at_then ?_
            refine ct_seq ?_
            refine ct_reg ?_
            refine rl_val gw_none (ov_move rfl) rfl ?_
            refine rl_val gw_none (ov_move rfl) rfl ?_
            refine rl_val gw_none (ov_convint Try.underlying3 Try.underlying79 rfl) rfl ?_
            refine rl_val gw_none (ov_shrN (b := k) rfl rfl j (u64_natE rfl (by omega)) (by omega)) rfl ?_
            refine rl_val gw_none (ov_and1 (b := k / 2 ^ j) rfl rfl) rfl ?_
            refine rl_val gw_none (ov_eql rfl rfl) rfl ?_
            refine rl_nil ?_
            refine at_then ?_
            first | refine ct_dec rfl (fun h4 => ?_) (fun h4 => ?_) | refine ct_ndec rfl (fun h4 => ?_) (fun h4 => ?_) | refine ct_eq rfl (fun h4 => ?_) (fun h4 => ?_) | refine ct_ne rfl (fun h4 => ?_) (fun h4 => ?_) | refine ct_not rfl (fun h4 => ?_) (fun h4 => ?_) | refine ct_cond rfl (fun h4 => ?_) (fun h4 => ?_)
            ·
              refine ct_reg ?_
              refine rl_val gw_none (ov_move rfl) rfl ?_
              refine rl_val gw_none (ov_move rfl) rfl ?_
              refine rl_val gw_none (ov_move rfl) rfl ?_
              first | refine rl_val gw_none (ov_ix Try.underlying30 sz44 rfl rfl _ rfl (by omega)) rfl ?_ | refine rl_val gw_none (ov_ix Try.underlying30 sz44 rfl rfl (k) (by omega) (by omega)) rfl ?_ | refine rl_val gw_none (ov_ix Try.underlying30 sz44 rfl rfl (j) (by omega) (by omega)) rfl ?_
              refine rl_val gw_none (ov_field fo44_2 rfl) rfl ?_
              first | refine rl_val gw_none (ov_load 0 sc3 rfl rfl rfl) rfl ?_ | refine rl_val gw_none (ov_load 1 sc3 rfl rfl rfl) rfl ?_ | refine rl_val gw_none (ov_load 2 sc3 rfl rfl rfl) rfl ?_ | refine rl_val gw_none (ov_load 3 sc3 rfl rfl rfl) rfl ?_ | refine rl_val gw_none (ov_loadw sc3 rfl (by assumption)) rfl ?_ | refine rl_val gw_none (ov_load 0 sc3 rfl rfl (by assumption)) rfl ?_ | refine rl_val gw_none (ov_load 1 sc3 rfl rfl (by assumption)) rfl ?_ | refine rl_val gw_none (ov_load 2 sc3 rfl rfl (by assumption)) rfl ?_ | refine rl_val gw_none (ov_load 3 sc3 rfl rfl (by assumption)) rfl ?_
              refine rl_val gw_none (ov_add rfl rfl (by omega)) rfl ?_
              refine rl_val gw_none (ov_assign rfl) rfl ?_
              refine rl_nil ?_
              refine at_block ?_
              refine at_then ?_
              refine ct_reg ?_
              refine rl_val gw_none (ov_move rfl) rfl ?_
              refine rl_val gw_none (ov_add rfl rfl (by omega)) rfl ?_
              refine rl_val gw_none (ov_assign rfl) rfl ?_
              refine rl_nil ?_
              exact at_backR (j + 1) (by first | exact True.intro | omega | (dsimp only; omega) | (dsimp only at *; omega)) (by first | exact True.intro | omega | (dsimp only; omega) | (dsimp only at *; omega)) (by (rw [minP_succ, feesP_succ]; first | rw [if_pos (by omega)] | rw [if_neg (by omega)]); (repeat' (first | exact Sub.nil | refine Sub.cons ?_ ?_)); all_goals (first | rfl | exact lkInt rfl (by omega) | exact lkInt rfl (by rw [hfe]))) (Sub.cons rfl (Sub.cons rfl (Sub.cons rfl (Sub.cons rfl (Sub.cons rfl (Sub.cons rfl (Sub.cons rfl Sub.nil))))))) (fun _ hq => hq)
            ·
              refine ct_skip ?_
              refine at_block ?_
              refine at_then ?_
              refine ct_reg ?_
              refine rl_val gw_none (ov_move rfl) rfl ?_
              refine rl_val gw_none (ov_add rfl rfl (by omega)) rfl ?_
              refine rl_val gw_none (ov_assign rfl) rfl ?_
              refine rl_nil ?_
              exact at_backR (j + 1) (by first | exact True.intro | omega | (dsimp only; omega) | (dsimp only at *; omega)) (by first | exact True.intro | omega | (dsimp only; omega) | (dsimp only at *; omega)) (by (rw [minP_succ, feesP_succ]; first | rw [if_pos (by omega)] | rw [if_neg (by omega)]); (repeat' (first | exact Sub.nil | refine Sub.cons ?_ ?_)); all_goals (first | rfl | exact lkInt rfl (by omega) | exact lkInt rfl (by rw [hfe]))) (Sub.cons rfl (Sub.cons rfl (Sub.cons rfl (Sub.cons rfl (Sub.cons rfl (Sub.cons rfl (Sub.cons rfl Sub.nil))))))) (fun _ hq => hq)
          ·
            have hje : j = st.length := by omega
            subst hje
            refine ct_exit ?_
            refine at_then_exit ?_
            refine at_then_exit ?_
            refine at_block_hit ?_
            refine at_then ?_
            refine ct_seq ?_
            refine ct_reg ?_
            refine rl_val gw_none (ov_move rfl) rfl ?_
            refine rl_val gw_none (ov_move rfl) rfl ?_
            refine rl_val gw_none (ov_leq rfl rfl) rfl ?_
            refine rl_nil ?_
            refine at_then ?_
            first | refine ct_dec rfl (fun h5 => ?_) (fun h5 => ?_) | refine ct_ndec rfl (fun h5 => ?_) (fun h5 => ?_) | refine ct_eq rfl (fun h5 => ?_) (fun h5 => ?_) | refine ct_ne rfl (fun h5 => ?_) (fun h5 => ?_) | refine ct_not rfl (fun h5 => ?_) (fun h5 => ?_) | refine ct_cond rfl (fun h5 => ?_) (fun h5 => ?_)
            ·
              refine ct_reg ?_
              refine rl_val gw_none (ov_move rfl) rfl ?_
              refine rl_val gw_none (ov_move rfl) rfl ?_
              refine rl_callv gw_none goes52 rfl (fun w1 hp => l1Most_x _ _ _) rfl ?_
              refine rl_val gw_none (ov_assign rfl) rfl ?_
              refine rl_nil ?_
              refine at_block ?_
              refine at_then ?_
              refine ct_reg ?_
              refine rl_val gw_none (ov_move rfl) rfl ?_
              refine rl_val gw_none (ov_add rfl rfl (by omega)) rfl ?_
              refine rl_val gw_none (ov_assign rfl) rfl ?_
              refine rl_nil ?_
              exact at_backR (k + 1) (by first | exact True.intro | omega | (dsimp only; omega) | (dsimp only at *; omega)) (by first | exact True.intro | omega | (dsimp only; omega) | (dsimp only at *; omega)) (by (first | rw [bestP_yes (by omega)] | rw [bestP_no (by omega)]); (repeat' (first | exact Sub.nil | refine Sub.cons ?_ ?_)); all_goals (first | rfl | exact lkInt rfl (by omega) | exact lkInt rfl (by rw [hfe]))) (Sub.cons rfl (Sub.cons rfl (Sub.cons rfl (Sub.cons rfl (Sub.cons rfl Sub.nil))))) (fun _ hq => hq)
            ·
              refine ct_skip ?_
              refine at_block ?_
              refine at_then ?_
              refine ct_reg ?_
              refine rl_val gw_none (ov_move rfl) rfl ?_
              refine rl_val gw_none (ov_add rfl rfl (by omega)) rfl ?_
              refine rl_val gw_none (ov_assign rfl) rfl ?_
              refine rl_nil ?_
              exact at_backR (k + 1) (by first | exact True.intro | omega | (dsimp only; omega) | (dsimp only at *; omega)) (by first | exact True.intro | omega | (dsimp only; omega) | (dsimp only at *; omega)) (by (first | rw [bestP_yes (by omega)] | rw [bestP_no (by omega)]); (repeat' (first | exact Sub.nil | refine Sub.cons ?_ ?_)); all_goals (first | rfl | exact lkInt rfl (by omega) | exact lkInt rfl (by rw [hfe]))) (Sub.cons rfl (Sub.cons rfl (Sub.cons rfl (Sub.cons rfl (Sub.cons rfl Sub.nil))))) (fun _ hq => hq)
        ·
          have hke : k = 2 ^ st.length := by omega
          subst hke
          have hdb : 0 ≤ dd ∧ dd ≤ 1000 := by simpa [inB] using hdd
          have hbt := bt_ref hR hsB hst7 hdb.1 hdb.2
          refine ct_exit ?_
          refine at_then_exit ?_
          refine at_then_exit ?_
          refine at_block_hit ?_
          refine at_then ?_
          refine ct_seq ?_
          refine ct_reg ?_
          refine rl_val gw_none (ov_move rfl) rfl ?_
          refine rl_val gw_none (ov_assign rfl) rfl ?_
          refine rl_val gw_none (ov_assign rfl) rfl ?_
          refine rl_nil ?_
          refine at_then ?_
          refine ct_ret ?_
          refine at_ret2 Try.results15 (ro_tmp rfl) (ro_tmp rfl) (fun w1 hp => ?_)
          refine ⟨?_, hp.ext0⟩
          first | (have hb : btB xs st dd = false := btB_no (.inl (by simpa [roadsB] using g1)); rw [btR_no hb, hb]; done) | (have hb : btB xs st dd = false := btB_no (.inr (.inl (by simpa [staysB] using g2))); rw [btR_no hb, hb]; done) | (have hb : btB xs st dd = false := btB_no (.inr (.inr (by simpa using h1))); rw [btR_no hb, hb]; done) | (have hb : btB xs st dd = true := btB_yes hrB hsB hdd; rw [btR_yes hb, hb, ← hbt]; done)

theorem law_FewestDays (xs : List Road) (st : List Stay) (vxs : Value) (vst : Value) (w : World) (hGxs : ∀ y ∈ xs, GRoad y) (hsxs : SR w 3 vxs xs.length (flat encRoad xs)) (hGst : ∀ y ∈ st, GStay y) (hsst : SR w 3 vst st.length (flat encStay st)) : Calls Try.prog 3 ([vxs, vst]).toArray w (fun e w' => e = .returned (.bool true) ∧ Ext w w') := by
  have hlenxs := hsxs.len_le
  have hlenst := hsst.len_le
  refine calls_ct Try.func3 Try.ntmps3 rfl rfl ?_
  refine ct_seq ?_
  refine ct_reg ?_
  refine rl_val gw_none (ov_assign rfl) rfl ?_
  refine rl_nil ?_
  refine at_then ?_
  refine ct_seq ?_
  refine ct_reg ?_
  refine rl_val gw_none (ov_assign rfl) rfl ?_
  refine rl_nil ?_
  refine at_then ?_
  refine ct_seq ?_
  refine ct_reg ?_
  refine rl_val gw_none (ov_move rfl) rfl ?_
  refine rl_val gw_none (ov_move rfl) rfl ?_
  refine rl_callx (ι := Int) (fun r => .int .i64 r) (fun r => r < 0 ∨ (0 ≤ r ∧ r ≤ 1048576 - xs.length)) gw_none goes7 rfl (fun w1 hp => szRoadS_x xs.length 1048576 _ _ _ (hsxs.ext hp.ext0) (by omega)) rfl (fun rxs hrxs => ?_)
  refine rl_val gw_none (ov_assign rfl) rfl ?_
  refine rl_nil ?_
  refine at_then ?_
  refine ct_seq ?_
  refine ct_seq ?_
  refine ct_reg ?_
  refine rl_val gw_none (ov_move rfl) rfl ?_
  refine rl_val gw_none (ov_lss rfl rfl) rfl ?_
  refine rl_nil ?_
  refine at_then ?_
  first | refine ct_dec rfl (fun h1 => ?_) (fun h1 => ?_) | refine ct_ndec rfl (fun h1 => ?_) (fun h1 => ?_) | refine ct_eq rfl (fun h1 => ?_) (fun h1 => ?_) | refine ct_ne rfl (fun h1 => ?_) (fun h1 => ?_) | refine ct_not rfl (fun h1 => ?_) (fun h1 => ?_) | refine ct_cond rfl (fun h1 => ?_) (fun h1 => ?_)
  ·
    refine ct_seq ?_
    refine ct_reg ?_
    refine rl_val gw_none (ov_assign rfl) rfl ?_
    refine rl_nil ?_
    refine at_then ?_
    refine ct_ret ?_
    refine at_then_ret ?_
    refine at_ret1 Try.results3 (ro_tmp rfl) (fun w1 hp => ?_)
    exact ⟨rfl, hp.ext0⟩
  ·
    have hbxs : xs.length ≤ 1048576 := by omega
    have hmxs : xs.length ≤ maxLen := by unfold maxLen; omega
    refine ct_skip ?_
    refine at_then ?_
    refine ct_seq ?_
    refine ct_reg ?_
    refine rl_val gw_none (ov_move rfl) rfl ?_
    refine rl_val gw_none (ov_move rfl) rfl ?_
    refine rl_callx (ι := Int) (fun r => .int .i64 r) (fun r => r < 0 ∨ (0 ≤ r ∧ r ≤ rxs - st.length)) gw_none goes8 rfl (fun w1 hp => szStayS_x st.length rxs _ _ _ (hsst.ext hp.ext0) (by omega)) rfl (fun rst hrst => ?_)
    refine rl_val gw_none (ov_assign rfl) rfl ?_
    refine rl_nil ?_
    refine at_then ?_
    refine ct_seq ?_
    refine ct_seq ?_
    refine ct_reg ?_
    refine rl_val gw_none (ov_move rfl) rfl ?_
    refine rl_val gw_none (ov_lss rfl rfl) rfl ?_
    refine rl_nil ?_
    refine at_then ?_
    first | refine ct_dec rfl (fun h2 => ?_) (fun h2 => ?_) | refine ct_ndec rfl (fun h2 => ?_) (fun h2 => ?_) | refine ct_eq rfl (fun h2 => ?_) (fun h2 => ?_) | refine ct_ne rfl (fun h2 => ?_) (fun h2 => ?_) | refine ct_not rfl (fun h2 => ?_) (fun h2 => ?_) | refine ct_cond rfl (fun h2 => ?_) (fun h2 => ?_)
    ·
      refine ct_seq ?_
      refine ct_reg ?_
      refine rl_val gw_none (ov_assign rfl) rfl ?_
      refine rl_nil ?_
      refine at_then ?_
      refine ct_ret ?_
      refine at_then_ret ?_
      refine at_ret1 Try.results3 (ro_tmp rfl) (fun w1 hp => ?_)
      exact ⟨rfl, hp.ext0⟩
    ·
      have hbst : st.length ≤ 1048576 := by omega
      have hmst : st.length ≤ maxLen := by unfold maxLen; omega
      refine ct_skip ?_
      refine at_then ?_
      refine ct_seq ?_
      refine ct_reg ?_
      refine rl_val gw_none (ov_move rfl) rfl ?_
      refine rl_callnew (fun b => .slice (some ⟨b, 0, none⟩) xs.length xs.length) goes10 rfl (fun w1 hp => toRoadS_c xs _ _ (hsxs.ext hp.ext0) hbxs) rfl (fun b1 => ?_)
      refine rl_val gw_none (ov_move rfl) rfl ?_
      refine rl_callnew (fun b => .slice (some ⟨b, 0, none⟩) st.length st.length) goes11 rfl (fun w1 hp => toStayS_c st _ _ (hsst.ext hp.ext0) hbst) rfl (fun b2 => ?_)
      refine rl_callv gw_none goes9 rfl (fun w1 hp => sFewestDays_c xs st _ _ _ hGxs (hp.sr1 1 rfl (flat_length encRoad_len _) hmxs) hGst (hp.sr1 0 rfl (flat_length encStay_len _) hmst)) rfl ?_
      refine rl_val gw_none (ov_move rfl) rfl ?_
      refine rl_val gw_none (ov_extract rfl rfl) rfl ?_
      refine rl_val gw_none (ov_extract rfl rfl) rfl ?_
      refine rl_val gw_none (ov_assign rfl) rfl ?_
      refine rl_val gw_none (ov_assign rfl) rfl ?_
      refine rl_nil ?_
      refine at_then ?_
      refine ct_seq ?_
      refine ct_reg ?_
      refine rl_val gw_none (ov_move rfl) rfl ?_
      refine rl_callnew (fun b => .slice (some ⟨b, 0, none⟩) xs.length xs.length) goes10 rfl (fun w1 hp => toRoadS_c xs _ _ (hsxs.ext hp.ext0) hbxs) rfl (fun b3 => ?_)
      refine rl_val gw_none (ov_assign rfl) rfl ?_
      refine rl_nil ?_
      refine at_then ?_
      refine ct_seq ?_
      refine ct_reg ?_
      refine rl_val gw_none (ov_move rfl) rfl ?_
      refine rl_callnew (fun b => .slice (some ⟨b, 0, none⟩) st.length st.length) goes11 rfl (fun w1 hp => toStayS_c st _ _ (hsst.ext hp.ext0) hbst) rfl (fun b4 => ?_)
      refine rl_val gw_none (ov_assign rfl) rfl ?_
      refine rl_nil ?_
      refine at_then ?_
      refine ct_seq ?_
      refine ct_reg ?_
      refine rl_val gw_none (ov_move rfl) rfl ?_
      refine rl_val gw_none (ov_move rfl) rfl ?_
      refine rl_callv gw_none goes12 rfl (fun w1 hp => iFewestDays_c xs st _ _ _ hGxs (hp.sr1 1 rfl (flat_length encRoad_len _) hmxs) hGst (hp.sr1 0 rfl (flat_length encStay_len _) hmst)) rfl ?_
      refine rl_val gw_none (ov_move rfl) rfl ?_
      refine rl_val gw_none (ov_extract rfl rfl) rfl ?_
      refine rl_val gw_none (ov_extract rfl rfl) rfl ?_
      refine rl_val gw_none (ov_assign rfl) rfl ?_
      refine rl_val gw_none (ov_assign rfl) rfl ?_
      refine rl_nil ?_
      refine at_then ?_
      refine ct_seq ?_
      refine ct_seq ?_
      refine ct_reg ?_
      refine rl_val gw_none (ov_move rfl) rfl ?_
      refine rl_val gw_none (ov_move rfl) rfl ?_
      refine rl_val gw_none (ov_neq rfl rfl) rfl ?_
      refine rl_val gw_none (ov_move rfl) rfl ?_
      refine rl_split (t := 43) rfl (fun g1 => ?_) (fun g1 => ?_)
      ·
        exfalso; first | (simp at g1; omega) | (simp at g1; done) | (simp_all; done)
      ·
        have g1' := g1
        try simp only [Bool.not_eq_true', Bool.not_eq_false', Bool.not_not, decide_eq_true_eq, decide_eq_false_iff_not, beq_iff_eq, beq_eq_false_iff_ne, bne_iff_ne, bne_eq_false_iff_eq, Bool.and_eq_true, Bool.or_eq_true, Bool.and_eq_false_iff, Bool.or_eq_false_iff, inB] at g1'
        refine rl_val (gw_some rfl rfl g1) (ov_move rfl) rfl ?_
        refine rl_val (gw_some rfl rfl g1) (ov_move rfl) rfl ?_
        refine rl_val (gw_some rfl rfl g1) (ov_neb Try.underlying4 rfl rfl) rfl ?_
        refine rl_val gw_none (ov_pick_f rfl g1 rfl) rfl ?_
        refine rl_nil ?_
        refine at_then ?_
        first | refine ct_dec rfl (fun h3 => ?_) (fun h3 => ?_) | refine ct_ndec rfl (fun h3 => ?_) (fun h3 => ?_) | refine ct_eq rfl (fun h3 => ?_) (fun h3 => ?_) | refine ct_ne rfl (fun h3 => ?_) (fun h3 => ?_) | refine ct_not rfl (fun h3 => ?_) (fun h3 => ?_) | refine ct_cond rfl (fun h3 => ?_) (fun h3 => ?_)
        ·
          exfalso; first | omega | exact absurd rfl h3 | (simp at h3; done) | (simp_all; done)
        ·
          refine ct_skip ?_
          refine at_then ?_
          refine ct_seq ?_
          refine ct_seq ?_
          refine ct_reg ?_
          refine rl_val gw_none (ov_move rfl) rfl ?_
          refine rl_val gw_none (ov_move rfl) rfl ?_
          refine rl_callnew (fun b => .slice (some ⟨b, 0, none⟩) xs.length xs.length) goes10 rfl (fun w1 hp => toRoadS_c xs _ _ (hsxs.ext hp.ext0) hbxs) rfl (fun b5 => ?_)
          refine rl_callv gw_none goes13 rfl (fun w1 hp => eqRoadS_c xs _ _ _  (hp.sr1 2 rfl (flat_length encRoad_len _) hmxs) (hp.sr1 0 rfl (flat_length encRoad_len _) hmxs)) rfl ?_
          refine rl_val gw_none (ov_not rfl) rfl ?_
          refine rl_nil ?_
          refine at_then ?_
          refine ct_false rfl rfl ?_
          refine ct_skip ?_
          refine at_then ?_
          refine ct_seq ?_
          refine ct_seq ?_
          refine ct_reg ?_
          refine rl_val gw_none (ov_move rfl) rfl ?_
          refine rl_val gw_none (ov_move rfl) rfl ?_
          refine rl_callnew (fun b => .slice (some ⟨b, 0, none⟩) st.length st.length) goes11 rfl (fun w1 hp => toStayS_c st _ _ (hsst.ext hp.ext0) hbst) rfl (fun b6 => ?_)
          refine rl_callv gw_none goes14 rfl (fun w1 hp => eqStayS_c st _ _ _  (hp.sr1 2 rfl (flat_length encStay_len _) hmst) (hp.sr1 0 rfl (flat_length encStay_len _) hmst)) rfl ?_
          refine rl_val gw_none (ov_not rfl) rfl ?_
          refine rl_nil ?_
          refine at_then ?_
          refine ct_false rfl rfl ?_
          refine ct_skip ?_
          refine at_then ?_
          refine ct_seq ?_
          refine ct_reg ?_
          refine rl_val gw_none (ov_assign rfl) rfl ?_
          refine rl_nil ?_
          refine at_then ?_
          refine ct_ret ?_
          refine at_ret1 Try.results3 (ro_tmp rfl) (fun w1 hp => ?_)
          exact ⟨rfl, hp.ext0⟩

theorem law_BestTour (xs : List Road) (st : List Stay) (dd : Int) (vxs : Value) (vst : Value) (w : World) (hGxs : ∀ y ∈ xs, GRoad y) (hsxs : SR w 3 vxs xs.length (flat encRoad xs)) (hGst : ∀ y ∈ st, GStay y) (hsst : SR w 3 vst st.length (flat encStay st)) (zdd : In64 dd) : Calls Try.prog 4 ([vxs, vst, .int .i64 dd]).toArray w (fun e w' => e = .returned (.bool true) ∧ Ext w w') := by
  have hlenxs := hsxs.len_le
  have hlenst := hsst.len_le
  refine calls_ct Try.func4 Try.ntmps4 rfl rfl ?_
  refine ct_seq ?_
  refine ct_reg ?_
  refine rl_val gw_none (ov_assign rfl) rfl ?_
  refine rl_nil ?_
  refine at_then ?_
  refine ct_seq ?_
  refine ct_reg ?_
  refine rl_val gw_none (ov_assign rfl) rfl ?_
  refine rl_nil ?_
  refine at_then ?_
  refine ct_seq ?_
  refine ct_reg ?_
  refine rl_val gw_none (ov_move rfl) rfl ?_
  refine rl_val gw_none (ov_move rfl) rfl ?_
  refine rl_callx (ι := Int) (fun r => .int .i64 r) (fun r => r < 0 ∨ (0 ≤ r ∧ r ≤ 1048576 - xs.length)) gw_none goes7 rfl (fun w1 hp => szRoadS_x xs.length 1048576 _ _ _ (hsxs.ext hp.ext0) (by omega)) rfl (fun rxs hrxs => ?_)
  refine rl_val gw_none (ov_assign rfl) rfl ?_
  refine rl_nil ?_
  refine at_then ?_
  refine ct_seq ?_
  refine ct_seq ?_
  refine ct_reg ?_
  refine rl_val gw_none (ov_move rfl) rfl ?_
  refine rl_val gw_none (ov_lss rfl rfl) rfl ?_
  refine rl_nil ?_
  refine at_then ?_
  first | refine ct_dec rfl (fun h1 => ?_) (fun h1 => ?_) | refine ct_ndec rfl (fun h1 => ?_) (fun h1 => ?_) | refine ct_eq rfl (fun h1 => ?_) (fun h1 => ?_) | refine ct_ne rfl (fun h1 => ?_) (fun h1 => ?_) | refine ct_not rfl (fun h1 => ?_) (fun h1 => ?_) | refine ct_cond rfl (fun h1 => ?_) (fun h1 => ?_)
  ·
    refine ct_seq ?_
    refine ct_reg ?_
    refine rl_val gw_none (ov_assign rfl) rfl ?_
    refine rl_nil ?_
    refine at_then ?_
    refine ct_ret ?_
    refine at_then_ret ?_
    refine at_ret1 Try.results4 (ro_tmp rfl) (fun w1 hp => ?_)
    exact ⟨rfl, hp.ext0⟩
  ·
    have hbxs : xs.length ≤ 1048576 := by omega
    have hmxs : xs.length ≤ maxLen := by unfold maxLen; omega
    refine ct_skip ?_
    refine at_then ?_
    refine ct_seq ?_
    refine ct_reg ?_
    refine rl_val gw_none (ov_move rfl) rfl ?_
    refine rl_val gw_none (ov_move rfl) rfl ?_
    refine rl_callx (ι := Int) (fun r => .int .i64 r) (fun r => r < 0 ∨ (0 ≤ r ∧ r ≤ rxs - st.length)) gw_none goes8 rfl (fun w1 hp => szStayS_x st.length rxs _ _ _ (hsst.ext hp.ext0) (by omega)) rfl (fun rst hrst => ?_)
    refine rl_val gw_none (ov_assign rfl) rfl ?_
    refine rl_nil ?_
    refine at_then ?_
    refine ct_seq ?_
    refine ct_seq ?_
    refine ct_reg ?_
    refine rl_val gw_none (ov_move rfl) rfl ?_
    refine rl_val gw_none (ov_lss rfl rfl) rfl ?_
    refine rl_nil ?_
    refine at_then ?_
    first | refine ct_dec rfl (fun h2 => ?_) (fun h2 => ?_) | refine ct_ndec rfl (fun h2 => ?_) (fun h2 => ?_) | refine ct_eq rfl (fun h2 => ?_) (fun h2 => ?_) | refine ct_ne rfl (fun h2 => ?_) (fun h2 => ?_) | refine ct_not rfl (fun h2 => ?_) (fun h2 => ?_) | refine ct_cond rfl (fun h2 => ?_) (fun h2 => ?_)
    ·
      refine ct_seq ?_
      refine ct_reg ?_
      refine rl_val gw_none (ov_assign rfl) rfl ?_
      refine rl_nil ?_
      refine at_then ?_
      refine ct_ret ?_
      refine at_then_ret ?_
      refine at_ret1 Try.results4 (ro_tmp rfl) (fun w1 hp => ?_)
      exact ⟨rfl, hp.ext0⟩
    ·
      have hbst : st.length ≤ 1048576 := by omega
      have hmst : st.length ≤ maxLen := by unfold maxLen; omega
      refine ct_skip ?_
      refine at_then ?_
      refine ct_seq ?_
      refine ct_reg ?_
      refine rl_val gw_none (ov_move rfl) rfl ?_
      refine rl_callnew (fun b => .slice (some ⟨b, 0, none⟩) xs.length xs.length) goes10 rfl (fun w1 hp => toRoadS_c xs _ _ (hsxs.ext hp.ext0) hbxs) rfl (fun b1 => ?_)
      refine rl_val gw_none (ov_move rfl) rfl ?_
      refine rl_callnew (fun b => .slice (some ⟨b, 0, none⟩) st.length st.length) goes11 rfl (fun w1 hp => toStayS_c st _ _ (hsst.ext hp.ext0) hbst) rfl (fun b2 => ?_)
      refine rl_val gw_none (ov_move rfl) rfl ?_
      refine rl_callv gw_none goes15 rfl (fun w1 hp => sBestTour_c xs st dd _ _ _ hGxs (hp.sr1 1 rfl (flat_length encRoad_len _) hmxs) hGst (hp.sr1 0 rfl (flat_length encStay_len _) hmst) zdd) rfl ?_
      refine rl_val gw_none (ov_move rfl) rfl ?_
      refine rl_val gw_none (ov_extract rfl rfl) rfl ?_
      refine rl_val gw_none (ov_extract rfl rfl) rfl ?_
      refine rl_val gw_none (ov_assign rfl) rfl ?_
      refine rl_val gw_none (ov_assign rfl) rfl ?_
      refine rl_nil ?_
      refine at_then ?_
      refine ct_seq ?_
      refine ct_reg ?_
      refine rl_val gw_none (ov_move rfl) rfl ?_
      refine rl_callnew (fun b => .slice (some ⟨b, 0, none⟩) xs.length xs.length) goes10 rfl (fun w1 hp => toRoadS_c xs _ _ (hsxs.ext hp.ext0) hbxs) rfl (fun b3 => ?_)
      refine rl_val gw_none (ov_assign rfl) rfl ?_
      refine rl_nil ?_
      refine at_then ?_
      refine ct_seq ?_
      refine ct_reg ?_
      refine rl_val gw_none (ov_move rfl) rfl ?_
      refine rl_callnew (fun b => .slice (some ⟨b, 0, none⟩) st.length st.length) goes11 rfl (fun w1 hp => toStayS_c st _ _ (hsst.ext hp.ext0) hbst) rfl (fun b4 => ?_)
      refine rl_val gw_none (ov_assign rfl) rfl ?_
      refine rl_nil ?_
      refine at_then ?_
      refine ct_seq ?_
      refine ct_reg ?_
      refine rl_val gw_none (ov_move rfl) rfl ?_
      refine rl_val gw_none (ov_move rfl) rfl ?_
      refine rl_val gw_none (ov_move rfl) rfl ?_
      refine rl_callv gw_none goes16 rfl (fun w1 hp => iBestTour_c xs st dd _ _ _ hGxs (hp.sr1 1 rfl (flat_length encRoad_len _) hmxs) hGst (hp.sr1 0 rfl (flat_length encStay_len _) hmst) zdd) rfl ?_
      refine rl_val gw_none (ov_move rfl) rfl ?_
      refine rl_val gw_none (ov_extract rfl rfl) rfl ?_
      refine rl_val gw_none (ov_extract rfl rfl) rfl ?_
      refine rl_val gw_none (ov_assign rfl) rfl ?_
      refine rl_val gw_none (ov_assign rfl) rfl ?_
      refine rl_nil ?_
      refine at_then ?_
      refine ct_seq ?_
      refine ct_seq ?_
      refine ct_reg ?_
      refine rl_val gw_none (ov_move rfl) rfl ?_
      refine rl_val gw_none (ov_move rfl) rfl ?_
      refine rl_val gw_none (ov_neq rfl rfl) rfl ?_
      refine rl_val gw_none (ov_move rfl) rfl ?_
      refine rl_split (t := 47) rfl (fun g1 => ?_) (fun g1 => ?_)
      ·
        exfalso; first | (simp at g1; omega) | (simp at g1; done) | (simp_all; done)
      ·
        have g1' := g1
        try simp only [Bool.not_eq_true', Bool.not_eq_false', Bool.not_not, decide_eq_true_eq, decide_eq_false_iff_not, beq_iff_eq, beq_eq_false_iff_ne, bne_iff_ne, bne_eq_false_iff_eq, Bool.and_eq_true, Bool.or_eq_true, Bool.and_eq_false_iff, Bool.or_eq_false_iff, inB] at g1'
        refine rl_val (gw_some rfl rfl g1) (ov_move rfl) rfl ?_
        refine rl_val (gw_some rfl rfl g1) (ov_move rfl) rfl ?_
        refine rl_val (gw_some rfl rfl g1) (ov_neb Try.underlying4 rfl rfl) rfl ?_
        refine rl_val gw_none (ov_pick_f rfl g1 rfl) rfl ?_
        refine rl_nil ?_
        refine at_then ?_
        first | refine ct_dec rfl (fun h3 => ?_) (fun h3 => ?_) | refine ct_ndec rfl (fun h3 => ?_) (fun h3 => ?_) | refine ct_eq rfl (fun h3 => ?_) (fun h3 => ?_) | refine ct_ne rfl (fun h3 => ?_) (fun h3 => ?_) | refine ct_not rfl (fun h3 => ?_) (fun h3 => ?_) | refine ct_cond rfl (fun h3 => ?_) (fun h3 => ?_)
        ·
          exfalso; first | omega | exact absurd rfl h3 | (simp at h3; done) | (simp_all; done)
        ·
          refine ct_skip ?_
          refine at_then ?_
          refine ct_seq ?_
          refine ct_seq ?_
          refine ct_reg ?_
          refine rl_val gw_none (ov_move rfl) rfl ?_
          refine rl_val gw_none (ov_move rfl) rfl ?_
          refine rl_callnew (fun b => .slice (some ⟨b, 0, none⟩) xs.length xs.length) goes10 rfl (fun w1 hp => toRoadS_c xs _ _ (hsxs.ext hp.ext0) hbxs) rfl (fun b5 => ?_)
          refine rl_callv gw_none goes13 rfl (fun w1 hp => eqRoadS_c xs _ _ _  (hp.sr1 2 rfl (flat_length encRoad_len _) hmxs) (hp.sr1 0 rfl (flat_length encRoad_len _) hmxs)) rfl ?_
          refine rl_val gw_none (ov_not rfl) rfl ?_
          refine rl_nil ?_
          refine at_then ?_
          refine ct_false rfl rfl ?_
          refine ct_skip ?_
          refine at_then ?_
          refine ct_seq ?_
          refine ct_seq ?_
          refine ct_reg ?_
          refine rl_val gw_none (ov_move rfl) rfl ?_
          refine rl_val gw_none (ov_move rfl) rfl ?_
          refine rl_callnew (fun b => .slice (some ⟨b, 0, none⟩) st.length st.length) goes11 rfl (fun w1 hp => toStayS_c st _ _ (hsst.ext hp.ext0) hbst) rfl (fun b6 => ?_)
          refine rl_callv gw_none goes14 rfl (fun w1 hp => eqStayS_c st _ _ _  (hp.sr1 2 rfl (flat_length encStay_len _) hmst) (hp.sr1 0 rfl (flat_length encStay_len _) hmst)) rfl ?_
          refine rl_val gw_none (ov_not rfl) rfl ?_
          refine rl_nil ?_
          refine at_then ?_
          refine ct_false rfl rfl ?_
          refine ct_skip ?_
          refine at_then ?_
          refine ct_seq ?_
          refine ct_reg ?_
          refine rl_val gw_none (ov_assign rfl) rfl ?_
          refine rl_nil ?_
          refine at_then ?_
          refine ct_ret ?_
          refine at_ret1 Try.results4 (ro_tmp rfl) (fun w1 hp => ?_)
          exact ⟨rfl, hp.ext0⟩
end Go.Proofs.Ytgnnlgmeagipjaa
