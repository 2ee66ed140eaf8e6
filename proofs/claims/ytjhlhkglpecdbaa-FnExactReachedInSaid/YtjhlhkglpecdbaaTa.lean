import Derived.Test.YtjhlhkglpecdbaaFa
import Derived.Test.YtjhlhkglpecdbaaPa
import Derived.KernelRfl
set_option linter.unusedVariables false
set_option linter.unusedSimpArgs false
namespace Go.Proofs.Ytjhlhkglpecdbaa
open Go Go.RowKit K
theorem within_c (n lo hi : Int) (w : World) : Calls Try.prog 19 ([.int .i64 n, .int .i64 lo, .int .i64 hi]).toArray w (fun e w' => e = .returned (.bool (inB n lo hi)) ∧ Ext w w') := by
  refine calls_ct Try.func19 Try.ntmps19 rfl rfl ?_
  refine ct_seq ?_
  refine ct_reg ?_
  refine rl_val gw_none (ov_assign rfl) rfl ?_
  refine rl_nil ?_
  refine at_then ?_
  refine ct_seq ?_
  refine ct_reg ?_
  refine rl_val gw_none (ov_move rfl) rfl ?_
  refine rl_val gw_none (ov_move rfl) rfl ?_
  refine rl_val gw_none (ov_leq rfl rfl) rfl ?_
  refine rl_val gw_none (ov_move rfl) rfl ?_
  refine rl_split (t := 10) rfl (fun g1 => ?_) (fun g1 => ?_)
  ·
    have g1' := g1
    try simp only [Bool.not_eq_true', Bool.not_eq_false', Bool.not_not, decide_eq_true_eq, decide_eq_false_iff_not, beq_iff_eq, beq_eq_false_iff_ne, bne_iff_ne, bne_eq_false_iff_eq, Bool.and_eq_true, Bool.or_eq_true, Bool.and_eq_false_iff, Bool.or_eq_false_iff, inB] at g1'
    refine rl_val (gw_some rfl rfl g1) (ov_move rfl) rfl ?_
    refine rl_val (gw_some rfl rfl g1) (ov_move rfl) rfl ?_
    refine rl_val (gw_some rfl rfl g1) (ov_leq rfl rfl) rfl ?_
    refine rl_val gw_none (ov_pick_t rfl g1 rfl) rfl ?_
    refine rl_val gw_none (ov_assign rfl) rfl ?_
    refine rl_nil ?_
    refine at_then ?_
    refine ct_ret ?_
    refine at_ret1 Try.results19 (ro_tmp rfl) (fun w1 hp => ?_)
    refine ⟨?_, hp.ext0⟩
    first | rfl | (simp_all [inB]; done) | (simp_all [inB]; omega)
  ·
    have g1' := g1
    try simp only [Bool.not_eq_true', Bool.not_eq_false', Bool.not_not, decide_eq_true_eq, decide_eq_false_iff_not, beq_iff_eq, beq_eq_false_iff_ne, bne_iff_ne, bne_eq_false_iff_eq, Bool.and_eq_true, Bool.or_eq_true, Bool.and_eq_false_iff, Bool.or_eq_false_iff, inB] at g1'
    refine rl_skip (gw_not rfl rfl g1) rfl ?_
    refine rl_skip (gw_not rfl rfl g1) rfl ?_
    refine rl_skip (gw_not rfl rfl g1) rfl ?_
    refine rl_val gw_none (ov_pick_f rfl g1 rfl) rfl ?_
    refine rl_val gw_none (ov_assign rfl) rfl ?_
    refine rl_nil ?_
    refine at_then ?_
    refine ct_ret ?_
    refine at_ret1 Try.results19 (ro_tmp rfl) (fun w1 hp => ?_)
    refine ⟨?_, hp.ext0⟩
    first | rfl | (simp_all [inB]; done) | (simp_all [inB]; omega)

theorem l1In_c (n lo hi : Int) (w : World) : Calls Try.prog 15 ([.int .i64 n, .int .i64 lo, .int .i64 hi]).toArray w (fun e w' => e = .returned (.bool (inB n lo hi)) ∧ Ext w w') := by
  refine calls_ct Try.func15 Try.ntmps15 rfl rfl ?_
  refine ct_seq ?_
  refine ct_reg ?_
  refine rl_val gw_none (ov_assign rfl) rfl ?_
  refine rl_nil ?_
  refine at_then ?_
  refine ct_seq ?_
  refine ct_reg ?_
  refine rl_val gw_none (ov_move rfl) rfl ?_
  refine rl_val gw_none (ov_move rfl) rfl ?_
  refine rl_val gw_none (ov_geq rfl rfl) rfl ?_
  refine rl_val gw_none (ov_move rfl) rfl ?_
  refine rl_split (t := 10) rfl (fun g1 => ?_) (fun g1 => ?_)
  ·
    have g1' := g1
    try simp only [Bool.not_eq_true', Bool.not_eq_false', Bool.not_not, decide_eq_true_eq, decide_eq_false_iff_not, beq_iff_eq, beq_eq_false_iff_ne, bne_iff_ne, bne_eq_false_iff_eq, Bool.and_eq_true, Bool.or_eq_true, Bool.and_eq_false_iff, Bool.or_eq_false_iff, inB] at g1'
    refine rl_val (gw_some rfl rfl g1) (ov_move rfl) rfl ?_
    refine rl_val (gw_some rfl rfl g1) (ov_move rfl) rfl ?_
    refine rl_val (gw_some rfl rfl g1) (ov_leq rfl rfl) rfl ?_
    refine rl_val gw_none (ov_pick_t rfl g1 rfl) rfl ?_
    refine rl_val gw_none (ov_assign rfl) rfl ?_
    refine rl_nil ?_
    refine at_then ?_
    refine ct_ret ?_
    refine at_ret1 Try.results15 (ro_tmp rfl) (fun w1 hp => ?_)
    refine ⟨?_, hp.ext0⟩
    first | rfl | (simp_all [inB]; done) | (simp_all [inB]; omega)
  ·
    have g1' := g1
    try simp only [Bool.not_eq_true', Bool.not_eq_false', Bool.not_not, decide_eq_true_eq, decide_eq_false_iff_not, beq_iff_eq, beq_eq_false_iff_ne, bne_iff_ne, bne_eq_false_iff_eq, Bool.and_eq_true, Bool.or_eq_true, Bool.and_eq_false_iff, Bool.or_eq_false_iff, inB] at g1'
    refine rl_skip (gw_not rfl rfl g1) rfl ?_
    refine rl_skip (gw_not rfl rfl g1) rfl ?_
    refine rl_skip (gw_not rfl rfl g1) rfl ?_
    refine rl_val gw_none (ov_pick_f rfl g1 rfl) rfl ?_
    refine rl_val gw_none (ov_assign rfl) rfl ?_
    refine rl_nil ?_
    refine at_then ?_
    refine ct_ret ?_
    refine at_ret1 Try.results15 (ro_tmp rfl) (fun w1 hp => ?_)
    refine ⟨?_, hp.ext0⟩
    first | rfl | (simp_all [inB]; done) | (simp_all [inB]; omega)

theorem toIntA2_c (x : IntA2) (w : World) : Calls Try.prog 27 ([.agg (encIntA2 x).toArray]).toArray w (fun e w' => e = .returned (.agg (encIntA2 x).toArray) ∧ Ext w w') := by
  refine calls_ct Try.func27 Try.ntmps27 rfl rfl ?_
  refine ct_seq ?_
  refine ct_reg ?_
  refine rl_box rfl rfl (fun N1 => ?_)
  refine rl_alloc ze43 rfl (fun N2 => ?_)
  refine rl_nil ?_
  refine at_then ?_
  refine ct_seq ?_
  refine ct_reg ?_
  refine rl_alloc ze43 rfl (fun N3 => ?_)
  refine rl_nil ?_
  refine at_then ?_
  refine ct_seq ?_
  refine ct_seq ?_
  refine ct_reg ?_
  refine rl_val gw_none (ov_assign rfl) rfl ?_
  refine rl_nil ?_
  refine at_then ?_
  refine ct_block ?_
  refine ct_rounds 3 ?_
  refine ct_round ?_
  refine ct_seq ?_
  refine ct_seq ?_
  refine ct_reg ?_
  refine rl_val gw_none (ov_move rfl) rfl ?_
  refine rl_val gw_none (ov_lss rfl rfl) rfl ?_
  refine rl_nil ?_
  refine at_then ?_
  refine ct_true rfl (by decide) ?_
  refine ct_skip ?_
  refine at_then ?_
  refine ct_seq ?_
  refine ct_block ?_
  refine ct_reg ?_
  refine rl_val gw_none (ov_move rfl) rfl ?_
  refine rl_val gw_none (ov_move rfl) rfl ?_
  first | refine rl_val gw_none (ov_ixa Try.underlying43 sz3 rfl rfl _ rfl (by omega)) rfl ?_ | refine rl_val gw_none (ov_ixa Try.underlying43 sz3 rfl rfl (0) (by omega) (by omega)) rfl ?_ | refine rl_val gw_none (ov_ixa Try.underlying43 sz3 rfl rfl (1) (by omega) (by omega)) rfl ?_
  first | refine rl_val gw_none (ov_load 2 sc3 rfl rfl rfl) rfl ?_ | refine rl_val gw_none (ov_load 2 sc3 rfl rfl (by assumption)) rfl ?_
  first | refine rl_val gw_none (ov_ixa Try.underlying43 sz3 rfl rfl _ rfl (by omega)) rfl ?_ | refine rl_val gw_none (ov_ixa Try.underlying43 sz3 rfl rfl (0) (by omega) (by omega)) rfl ?_ | refine rl_val gw_none (ov_ixa Try.underlying43 sz3 rfl rfl (1) (by omega) (by omega)) rfl ?_
  refine rl_store [] sz3 rfl rfl rfl rfl rfl (Nat.le_of_ble_eq_true rfl) ?_
  refine rl_nil ?_
  refine at_block ?_
  refine at_then ?_
  refine ct_reg ?_
  refine rl_val gw_none (ov_move rfl) rfl ?_
  refine rl_val gw_none (ov_add rfl rfl (by omega)) rfl ?_
  refine rl_val gw_none (ov_assign rfl) rfl ?_
  refine rl_nil ?_
  refine at_round ?_
  refine ct_round ?_
  refine ct_seq ?_
  refine ct_seq ?_
  refine ct_reg ?_
  refine rl_val gw_none (ov_move rfl) rfl ?_
  refine rl_val gw_none (ov_lss rfl rfl) rfl ?_
  refine rl_nil ?_
  refine at_then ?_
  refine ct_true rfl (by decide) ?_
  refine ct_skip ?_
  refine at_then ?_
  refine ct_seq ?_
  refine ct_block ?_
  refine ct_reg ?_
  refine rl_val gw_none (ov_move rfl) rfl ?_
  refine rl_val gw_none (ov_move rfl) rfl ?_
  first | refine rl_val gw_none (ov_ixa Try.underlying43 sz3 rfl rfl _ rfl (by omega)) rfl ?_ | refine rl_val gw_none (ov_ixa Try.underlying43 sz3 rfl rfl (0) (by omega) (by omega)) rfl ?_ | refine rl_val gw_none (ov_ixa Try.underlying43 sz3 rfl rfl (1) (by omega) (by omega)) rfl ?_
  first | refine rl_val gw_none (ov_load 2 sc3 rfl rfl rfl) rfl ?_ | refine rl_val gw_none (ov_load 2 sc3 rfl rfl (by assumption)) rfl ?_
  first | refine rl_val gw_none (ov_ixa Try.underlying43 sz3 rfl rfl _ rfl (by omega)) rfl ?_ | refine rl_val gw_none (ov_ixa Try.underlying43 sz3 rfl rfl (0) (by omega) (by omega)) rfl ?_ | refine rl_val gw_none (ov_ixa Try.underlying43 sz3 rfl rfl (1) (by omega) (by omega)) rfl ?_
  refine rl_store [] sz3 rfl rfl rfl rfl rfl (Nat.le_of_ble_eq_true rfl) ?_
  refine rl_nil ?_
  refine at_block ?_
  refine at_then ?_
  refine ct_reg ?_
  refine rl_val gw_none (ov_move rfl) rfl ?_
  refine rl_val gw_none (ov_add rfl rfl (by omega)) rfl ?_
  refine rl_val gw_none (ov_assign rfl) rfl ?_
  refine rl_nil ?_
  refine at_round ?_
  refine ct_round ?_
  refine ct_seq ?_
  refine ct_seq ?_
  refine ct_reg ?_
  refine rl_val gw_none (ov_move rfl) rfl ?_
  refine rl_val gw_none (ov_lss rfl rfl) rfl ?_
  refine rl_nil ?_
  refine at_then ?_
  refine ct_false rfl (by decide) ?_
  refine ct_exit ?_
  refine at_then_exit ?_
  refine at_then_exit ?_
  refine at_block_hit ?_
  refine at_then ?_
  refine ct_seq ?_
  refine ct_reg ?_
  first | refine rl_val gw_none (ov_loadall 0 ag43 rfl rfl rfl) rfl ?_ | refine rl_val gw_none (ov_loadp 0 ag43 rfl rfl (vs := [_, _]) rfl rfl) rfl ?_ | refine rl_val gw_none (ov_loada 0 ag43 rfl rfl rfl (by assumption)) rfl ?_
  refine rl_store [_] sz43 rfl rfl rfl rfl rfl (Nat.le_of_ble_eq_true rfl) ?_
  refine rl_nil ?_
  refine at_then ?_
  refine ct_ret ?_
  refine at_ret1 Try.results27 (ro_cell 1 ag43 rfl rfl rfl) (fun w1 hp => ?_)
  exact ⟨rfl, hp.ext0⟩

theorem eqIntA2_c (x : IntA2) (w : World) : Calls Try.prog 31 ([.agg (encIntA2 x).toArray, .agg (encIntA2 x).toArray]).toArray w (fun e w' => e = .returned (.bool true) ∧ Ext w w') := by
  refine calls_ct Try.func31 Try.ntmps31 rfl rfl ?_
  refine ct_seq ?_
  refine ct_reg ?_
  refine rl_box rfl rfl (fun N1 => ?_)
  refine rl_box rfl rfl (fun N2 => ?_)
  refine rl_val gw_none (ov_assign rfl) rfl ?_
  refine rl_nil ?_
  refine at_then ?_
  refine ct_seq ?_
  refine ct_seq ?_
  refine ct_reg ?_
  refine rl_val gw_none (ov_assign rfl) rfl ?_
  refine rl_nil ?_
  refine at_then ?_
  refine ct_block ?_
  refine ct_rounds 3 ?_
  refine ct_round ?_
  refine ct_seq ?_
  refine ct_seq ?_
  refine ct_reg ?_
  refine rl_val gw_none (ov_move rfl) rfl ?_
  refine rl_val gw_none (ov_lss rfl rfl) rfl ?_
  refine rl_nil ?_
  refine at_then ?_
  refine ct_true rfl (by decide) ?_
  refine ct_skip ?_
  refine at_then ?_
  refine ct_seq ?_
  refine ct_block ?_
  refine ct_seq ?_
  refine ct_dr 7 (by kernel_rfl) (by kernel_rfl) ?_
  refine ql_val gw_none (ov_move rfl) rfl ?_
  first | refine ql_val gw_none (ov_ixa Try.underlying43 sz3 rfl rfl _ rfl (by omega)) rfl ?_ | refine ql_val gw_none (ov_ixa Try.underlying43 sz3 rfl rfl (0) (by omega) (by omega)) rfl ?_ | refine ql_val gw_none (ov_ixa Try.underlying43 sz3 rfl rfl (1) (by omega) (by omega)) rfl ?_
  first | refine ql_val gw_none (ov_load 1 sc3 rfl rfl rfl) rfl ?_ | refine ql_val gw_none (ov_load 1 sc3 rfl rfl (by assumption)) rfl ?_
  refine ql_val gw_none (ov_move rfl) rfl ?_
  first | refine ql_val gw_none (ov_ixa Try.underlying43 sz3 rfl rfl _ rfl (by omega)) rfl ?_ | refine ql_val gw_none (ov_ixa Try.underlying43 sz3 rfl rfl (0) (by omega) (by omega)) rfl ?_ | refine ql_val gw_none (ov_ixa Try.underlying43 sz3 rfl rfl (1) (by omega) (by omega)) rfl ?_
  first | refine ql_val gw_none (ov_load 0 sc3 rfl rfl rfl) rfl ?_ | refine ql_val gw_none (ov_load 0 sc3 rfl rfl (by assumption)) rfl ?_
  refine ql_val gw_none (ov_neq rfl rfl) rfl ?_
  refine ql_nil ?_
  refine rl_nil ?_
  refine at_then ?_
  first | refine ct_dec rfl (fun h1 => ?_) (fun h1 => ?_) | refine ct_ndec rfl (fun h1 => ?_) (fun h1 => ?_) | refine ct_eq rfl (fun h1 => ?_) (fun h1 => ?_) | refine ct_ne rfl (fun h1 => ?_) (fun h1 => ?_) | refine ct_not rfl (fun h1 => ?_) (fun h1 => ?_) | refine ct_cond rfl (fun h1 => ?_) (fun h1 => ?_)
  ·
    exact absurd rfl h1
  ·
    refine ct_skip ?_
    refine at_block ?_
    refine at_then ?_
    refine ct_reg ?_
    refine rl_val gw_none (ov_move rfl) rfl ?_
    refine rl_val gw_none (ov_add rfl rfl (by omega)) rfl ?_
    refine rl_val gw_none (ov_assign rfl) rfl ?_
    refine rl_nil ?_
    refine at_round ?_
    refine ct_round ?_
    refine ct_seq ?_
    refine ct_seq ?_
    refine ct_reg ?_
    refine rl_val gw_none (ov_move rfl) rfl ?_
    refine rl_val gw_none (ov_lss rfl rfl) rfl ?_
    refine rl_nil ?_
    refine at_then ?_
    refine ct_true rfl (by decide) ?_
    refine ct_skip ?_
    refine at_then ?_
    refine ct_seq ?_
    refine ct_block ?_
    refine ct_seq ?_
    refine ct_dr 7 (by kernel_rfl) (by kernel_rfl) ?_
    refine ql_val gw_none (ov_move rfl) rfl ?_
    first | refine ql_val gw_none (ov_ixa Try.underlying43 sz3 rfl rfl _ rfl (by omega)) rfl ?_ | refine ql_val gw_none (ov_ixa Try.underlying43 sz3 rfl rfl (0) (by omega) (by omega)) rfl ?_ | refine ql_val gw_none (ov_ixa Try.underlying43 sz3 rfl rfl (1) (by omega) (by omega)) rfl ?_
    first | refine ql_val gw_none (ov_load 1 sc3 rfl rfl rfl) rfl ?_ | refine ql_val gw_none (ov_load 1 sc3 rfl rfl (by assumption)) rfl ?_
    refine ql_val gw_none (ov_move rfl) rfl ?_
    first | refine ql_val gw_none (ov_ixa Try.underlying43 sz3 rfl rfl _ rfl (by omega)) rfl ?_ | refine ql_val gw_none (ov_ixa Try.underlying43 sz3 rfl rfl (0) (by omega) (by omega)) rfl ?_ | refine ql_val gw_none (ov_ixa Try.underlying43 sz3 rfl rfl (1) (by omega) (by omega)) rfl ?_
    first | refine ql_val gw_none (ov_load 0 sc3 rfl rfl rfl) rfl ?_ | refine ql_val gw_none (ov_load 0 sc3 rfl rfl (by assumption)) rfl ?_
    refine ql_val gw_none (ov_neq rfl rfl) rfl ?_
    refine ql_nil ?_
    refine rl_nil ?_
    refine at_then ?_
    first | refine ct_dec rfl (fun h2 => ?_) (fun h2 => ?_) | refine ct_ndec rfl (fun h2 => ?_) (fun h2 => ?_) | refine ct_eq rfl (fun h2 => ?_) (fun h2 => ?_) | refine ct_ne rfl (fun h2 => ?_) (fun h2 => ?_) | refine ct_not rfl (fun h2 => ?_) (fun h2 => ?_) | refine ct_cond rfl (fun h2 => ?_) (fun h2 => ?_)
    ·
      exact absurd rfl h2
    ·
      refine ct_skip ?_
      refine at_block ?_
      refine at_then ?_
      refine ct_reg ?_
      refine rl_val gw_none (ov_move rfl) rfl ?_
      refine rl_val gw_none (ov_add rfl rfl (by omega)) rfl ?_
      refine rl_val gw_none (ov_assign rfl) rfl ?_
      refine rl_nil ?_
      refine at_round ?_
      refine ct_round ?_
      refine ct_seq ?_
      refine ct_seq ?_
      refine ct_reg ?_
      refine rl_val gw_none (ov_move rfl) rfl ?_
      refine rl_val gw_none (ov_lss rfl rfl) rfl ?_
      refine rl_nil ?_
      refine at_then ?_
      refine ct_false rfl (by decide) ?_
      refine ct_exit ?_
      refine at_then_exit ?_
      refine at_then_exit ?_
      refine at_block_hit ?_
      refine at_then ?_
      refine ct_seq ?_
      refine ct_reg ?_
      refine rl_val gw_none (ov_assign rfl) rfl ?_
      refine rl_nil ?_
      refine at_then ?_
      refine ct_ret ?_
      refine at_ret1 Try.results31 (ro_tmp rfl) (fun w1 hp => ?_)
      exact ⟨rfl, hp.ext0⟩

theorem toIntA2S_c (xs : List IntA2) (v : Value) (w : World) (hsr : SR w 2 v xs.length (flat encIntA2 xs)) (hn : xs.length ≤ 1048576) : Calls Try.prog 17 ([v]).toArray w (fun e w' => ∃ b, e = .returned (.slice (some ⟨b, 0, none⟩) xs.length xs.length) ∧ New w w' b 43 (flat encIntA2 xs)) := by
  obtain ⟨a, cap, rfl, hcap, hmax⟩ := hsr.slice
  refine calls_ct Try.func17 Try.ntmps17 rfl rfl ?_
  refine ct_seq ?_
  refine ct_reg ?_
  refine rl_val gw_none (ov_assign rfl) rfl ?_
  refine rl_nil ?_
  refine at_then ?_
  refine ct_seq ?_
  refine ct_reg ?_
  refine rl_val gw_none (ov_move rfl) rfl ?_
  refine rl_val gw_none (ov_len Try.underlying22 rfl) rfl ?_
  refine rl_make Try.underlying22 ze43 sz43 by43 rfl rfl (by omega) (by unfold maxLen; omega) rfl (fun N1 => ?_)
  refine rl_val gw_none (ov_assign rfl) rfl ?_
  refine rl_nil ?_
  refine at_then ?_
  refine ct_seq ?_
  refine ct_seq ?_
  refine ct_reg ?_
  refine rl_val gw_none (ov_assign rfl) rfl ?_
  refine rl_nil ?_
  refine at_then ?_
  refine ct_block ?_
  refine ct_loopR (ι := Nat) (fun k => [(4, .int .i64 k)]) [(0, _), (2, _), (3, _)] (fun k => [(some N1, 43, fill encIntA2 [.int .i64 0, .int .i64 0] xs k)]) (fun k => k ≤ xs.length) (fun k => xs.length - k) (0) (Sub.cons rfl (Sub.cons rfl (Sub.cons rfl Sub.nil))) (fun w1 hq => hq.cong (by rw [fill_0])) (by (repeat' (first | exact Sub.nil | refine Sub.cons ?_ ?_)); all_goals (first | rfl | exact lkInt rfl (by omega))) (by first | exact True.intro | omega | (dsimp only; omega) | (dsimp only at *; omega)) (fun k hk => ?_)
  refine ct_seq ?_
  refine ct_seq ?_
  refine ct_reg ?_
  refine rl_val gw_none (ov_move rfl) rfl ?_
  refine rl_val gw_none (ov_move rfl) rfl ?_
  refine rl_val gw_none (ov_len Try.underlying22 rfl) rfl ?_
  refine rl_val gw_none (ov_lss rfl rfl) rfl ?_
  refine rl_nil ?_
  refine at_then ?_
  first | refine ct_dec rfl (fun h1 => ?_) (fun h1 => ?_) | refine ct_ndec rfl (fun h1 => ?_) (fun h1 => ?_) | refine ct_eq rfl (fun h1 => ?_) (fun h1 => ?_) | refine ct_ne rfl (fun h1 => ?_) (fun h1 => ?_) | refine ct_not rfl (fun h1 => ?_) (fun h1 => ?_) | refine ct_cond rfl (fun h1 => ?_) (fun h1 => ?_)
  ·
    have hk2 : k < xs.length := by omega
    obtain ⟨b, o, rfl, hel⟩ := hsr.elem encIntA2_len (by omega) hk2
    have hx := getLt hk2
    have hk3 : k + 1 ≤ xs.length := hk2
    generalize xs[k] = x at *
    have hcx := hel k x hx
    refine ct_skip ?_
    refine at_then ?_
    refine ct_seq ?_
    refine ct_block ?_
    refine ct_reg ?_
    refine rl_val gw_none (ov_move rfl) rfl ?_
    refine rl_val gw_none (ov_move rfl) rfl ?_
    refine rl_val gw_none (ov_move rfl) rfl ?_
    refine rl_val gw_none (ov_move rfl) rfl ?_
    refine rl_val gw_none (ov_ix Try.underlying22 sz43 rfl rfl _ rfl (by omega)) rfl ?_
    first | refine rl_val gw_none (ov_loadaw ag43 rfl rfl (by assumption)) rfl ?_ | refine rl_val gw_none (ov_loadall 0 ag43 rfl rfl rfl) rfl ?_ | refine rl_val gw_none (ov_loadall 1 ag43 rfl rfl rfl) rfl ?_ | refine rl_val gw_none (ov_loadall 2 ag43 rfl rfl rfl) rfl ?_ | refine rl_val gw_none (ov_loadall 3 ag43 rfl rfl rfl) rfl ?_
    refine rl_callv gw_none goes27 rfl (fun w1 hp => toIntA2_c _ _) rfl ?_
    refine rl_val gw_none (ov_ix Try.underlying22 sz43 rfl rfl _ rfl (by omega)) rfl ?_
    refine rl_store ([]) sz43 rfl rfl rfl rfl rfl (fill_ho (r := 2) encIntA2_len rfl hk2) ?_
    refine rl_nil ?_
    refine at_block ?_
    refine at_then ?_
    refine ct_reg ?_
    refine rl_val gw_none (ov_move rfl) rfl ?_
    refine rl_val gw_none (ov_add rfl rfl (by omega)) rfl ?_
    refine rl_val gw_none (ov_assign rfl) rfl ?_
    refine rl_nil ?_
    exact at_backR (k + 1) (by first | exact True.intro | omega | (dsimp only; omega) | (dsimp only at *; omega)) (by first | exact True.intro | omega | (dsimp only; omega) | (dsimp only at *; omega)) (by (repeat' (first | exact Sub.nil | refine Sub.cons ?_ ?_)); all_goals (first | rfl | exact lkInt rfl (by omega))) (Sub.cons rfl (Sub.cons rfl (Sub.cons rfl Sub.nil))) (fun w1 hq => hq.cong (by rw [← fill_step (enc := encIntA2) (zs := [.int .i64 0, .int .i64 0]) (r := 2) encIntA2_len rfl hx]; rfl))
  ·
    have hke : k = xs.length := by omega
    subst hke
    refine ct_exit ?_
    refine at_then_exit ?_
    refine at_then_exit ?_
    refine at_block_hit ?_
    refine at_then ?_
    refine ct_seq ?_
    refine ct_reg ?_
    refine rl_val gw_none (ov_move rfl) rfl ?_
    refine rl_val gw_none (ov_assign rfl) rfl ?_
    refine rl_nil ?_
    refine at_then ?_
    refine ct_ret ?_
    refine at_ret1 Try.results17 (ro_tmp rfl) (fun w1 hp => ?_)
    exact ⟨N1, rfl, by have := hp.toNew (i := 0) rfl; rw [fill_end] at this; exact this⟩

theorem eqIntA2S_c (xs : List IntA2) (v u : Value) (w : World) (hsr : SR w 2 v xs.length (flat encIntA2 xs)) (hsu : SR w 2 u xs.length (flat encIntA2 xs)) : Calls Try.prog 21 ([v, u]).toArray w (fun e w' => e = .returned (.bool true) ∧ Ext w w') := by
  obtain ⟨a, cap, rfl, hcap, hmax⟩ := hsr.slice
  obtain ⟨a2, cap2, rfl, hcap2, hmax2⟩ := hsu.slice
  have hlen := hsr.len_le
  refine calls_ct Try.func21 Try.ntmps21 rfl rfl ?_
  refine ct_seq ?_
  refine ct_reg ?_
  refine rl_val gw_none (ov_assign rfl) rfl ?_
  refine rl_nil ?_
  refine at_then ?_
  refine ct_seq ?_
  refine ct_seq ?_
  refine ct_reg ?_
  refine rl_val gw_none (ov_move rfl) rfl ?_
  refine rl_val gw_none (ov_len Try.underlying22 rfl) rfl ?_
  refine rl_val gw_none (ov_move rfl) rfl ?_
  refine rl_val gw_none (ov_len Try.underlying22 rfl) rfl ?_
  refine rl_val gw_none (ov_neq rfl rfl) rfl ?_
  refine rl_nil ?_
  refine at_then ?_
  first | refine ct_dec rfl (fun h1 => ?_) (fun h1 => ?_) | refine ct_ndec rfl (fun h1 => ?_) (fun h1 => ?_) | refine ct_eq rfl (fun h1 => ?_) (fun h1 => ?_) | refine ct_ne rfl (fun h1 => ?_) (fun h1 => ?_) | refine ct_not rfl (fun h1 => ?_) (fun h1 => ?_) | refine ct_cond rfl (fun h1 => ?_) (fun h1 => ?_)
  ·
    exact absurd rfl h1
  ·
    refine ct_skip ?_
    refine at_then ?_
    refine ct_seq ?_
    refine ct_seq ?_
    refine ct_reg ?_
    refine rl_val gw_none (ov_assign rfl) rfl ?_
    refine rl_nil ?_
    refine at_then ?_
    refine ct_block ?_
    refine ct_loopR (ι := Nat) (fun k => [(5, .int .i64 k)]) [(0, _), (1, _)] (fun _ => _) (fun k => k ≤ xs.length) (fun k => xs.length - k) (0) (Sub.cons rfl (Sub.cons rfl Sub.nil)) (fun _ hq => hq) (by (repeat' (first | exact Sub.nil | refine Sub.cons ?_ ?_)); all_goals (first | rfl | exact lkInt rfl (by omega))) (by first | exact True.intro | omega | (dsimp only; omega) | (dsimp only at *; omega)) (fun k hk => ?_)
    refine ct_seq ?_
    refine ct_seq ?_
    refine ct_reg ?_
    refine rl_val gw_none (ov_move rfl) rfl ?_
    refine rl_val gw_none (ov_move rfl) rfl ?_
    refine rl_val gw_none (ov_len Try.underlying22 rfl) rfl ?_
    refine rl_val gw_none (ov_lss rfl rfl) rfl ?_
    refine rl_nil ?_
    refine at_then ?_
    first | refine ct_dec rfl (fun h2 => ?_) (fun h2 => ?_) | refine ct_ndec rfl (fun h2 => ?_) (fun h2 => ?_) | refine ct_eq rfl (fun h2 => ?_) (fun h2 => ?_) | refine ct_ne rfl (fun h2 => ?_) (fun h2 => ?_) | refine ct_not rfl (fun h2 => ?_) (fun h2 => ?_) | refine ct_cond rfl (fun h2 => ?_) (fun h2 => ?_)
    ·
      have hk2 : k < xs.length := by omega
      obtain ⟨b, o, rfl, hel⟩ := hsr.elem encIntA2_len (by omega) hk2
      have hx := getLt hk2
      have hk3 : k + 1 ≤ xs.length := hk2
      generalize xs[k] = x at *
      have hcx := hel k x hx
      obtain ⟨b2, o2, rfl, hel2⟩ := hsu.elem encIntA2_len (by omega) hk2
      have hcy := hel2 k x hx
      refine ct_skip ?_
      refine at_then ?_
      refine ct_seq ?_
      refine ct_block ?_
      refine ct_seq ?_
      refine ct_dr 10 (by kernel_rfl) (by kernel_rfl) ?_
      refine ql_val gw_none (ov_move rfl) rfl ?_
      refine ql_val gw_none (ov_move rfl) rfl ?_
      refine ql_val gw_none (ov_ix Try.underlying22 sz43 rfl rfl _ rfl (by omega)) rfl ?_
      first | refine ql_val gw_none (ov_loadaw ag43 rfl rfl (by assumption)) rfl ?_ | refine ql_val gw_none (ov_loadall 0 ag43 rfl rfl rfl) rfl ?_ | refine ql_val gw_none (ov_loadall 1 ag43 rfl rfl rfl) rfl ?_ | refine ql_val gw_none (ov_loadall 2 ag43 rfl rfl rfl) rfl ?_ | refine ql_val gw_none (ov_loadall 3 ag43 rfl rfl rfl) rfl ?_
      refine ql_val gw_none (ov_move rfl) rfl ?_
      refine ql_val gw_none (ov_move rfl) rfl ?_
      refine ql_val gw_none (ov_ix Try.underlying22 sz43 rfl rfl _ rfl (by omega)) rfl ?_
      first | refine ql_val gw_none (ov_loadaw ag43 rfl rfl (by assumption)) rfl ?_ | refine ql_val gw_none (ov_loadall 0 ag43 rfl rfl rfl) rfl ?_ | refine ql_val gw_none (ov_loadall 1 ag43 rfl rfl rfl) rfl ?_ | refine ql_val gw_none (ov_loadall 2 ag43 rfl rfl rfl) rfl ?_ | refine ql_val gw_none (ov_loadall 3 ag43 rfl rfl rfl) rfl ?_
      refine ql_callv gw_none goes31 rfl (fun w1 hp => eqIntA2_c _ _) rfl ?_
      refine ql_val gw_none (ov_not rfl) rfl ?_
      refine ql_nil ?_
      refine rl_nil ?_
      refine at_then ?_
      refine ct_false rfl rfl ?_
      refine ct_skip ?_
      refine at_block ?_
      refine at_then ?_
      refine ct_reg ?_
      refine rl_val gw_none (ov_move rfl) rfl ?_
      refine rl_val gw_none (ov_add rfl rfl (by omega)) rfl ?_
      refine rl_val gw_none (ov_assign rfl) rfl ?_
      refine rl_nil ?_
      exact at_backR (k + 1) (by first | exact True.intro | omega | (dsimp only; omega) | (dsimp only at *; omega)) (by first | exact True.intro | omega | (dsimp only; omega) | (dsimp only at *; omega)) (by (repeat' (first | exact Sub.nil | refine Sub.cons ?_ ?_)); all_goals (first | rfl | exact lkInt rfl (by omega))) (Sub.cons rfl (Sub.cons rfl Sub.nil)) (fun _ hq => hq)
    ·
      refine ct_exit ?_
      refine at_then_exit ?_
      refine at_then_exit ?_
      refine at_block_hit ?_
      refine at_then ?_
      refine ct_seq ?_
      refine ct_reg ?_
      refine rl_val gw_none (ov_assign rfl) rfl ?_
      refine rl_nil ?_
      refine at_then ?_
      refine ct_ret ?_
      refine at_ret1 Try.results21 (ro_tmp rfl) (fun w1 hp => ?_)
      exact ⟨rfl, hp.ext0⟩

theorem szIntA2S_c (len : Nat) (left : Int) (v : Value) (w : World) (L : List Value) (hsr : SR w 2 v len L) (hl : 0 ≤ left ∧ left ≤ 1048576) : Calls Try.prog 13 ([v, .int .i64 left]).toArray w (fun e w' => ∃ r : Int, (r < 0 ∨ (0 ≤ r ∧ r ≤ left - len)) ∧ e = .returned (.int .i64 r) ∧ Ext w w') := by
  obtain ⟨a, cap, rfl, hcap, hmax⟩ := hsr.slice
  have hlen := hsr.len_le
  refine calls_ct Try.func13 Try.ntmps13 rfl rfl ?_
  refine ct_seq ?_
  refine ct_reg ?_
  refine rl_val gw_none (ov_assign rfl) rfl ?_
  refine rl_nil ?_
  refine at_then ?_
  refine ct_seq ?_
  refine ct_reg ?_
  refine rl_val gw_none (ov_move rfl) rfl ?_
  refine rl_val gw_none (ov_move rfl) rfl ?_
  refine rl_val gw_none (ov_len Try.underlying22 rfl) rfl ?_
  refine rl_val gw_none (ov_sub rfl rfl (by omega)) rfl ?_
  refine rl_val gw_none (ov_assign rfl) rfl ?_
  refine rl_nil ?_
  refine at_then ?_
  refine ct_seq ?_
  refine ct_seq ?_
  refine ct_reg ?_
  refine rl_val gw_none (ov_move rfl) rfl ?_
  refine rl_val gw_none (ov_lss rfl rfl) rfl ?_
  refine rl_nil ?_
  refine at_then ?_
  first | refine ct_dec rfl (fun h1 => ?_) (fun h1 => ?_) | refine ct_ndec rfl (fun h1 => ?_) (fun h1 => ?_) | refine ct_eq rfl (fun h1 => ?_) (fun h1 => ?_) | refine ct_ne rfl (fun h1 => ?_) (fun h1 => ?_) | refine ct_not rfl (fun h1 => ?_) (fun h1 => ?_) | refine ct_cond rfl (fun h1 => ?_) (fun h1 => ?_)
  ·
    refine ct_seq ?_
    refine ct_reg ?_
    refine rl_val gw_none (ov_assign rfl) rfl ?_
    refine rl_nil ?_
    refine at_then ?_
    refine ct_ret ?_
    refine at_then_ret ?_
    refine at_ret1 Try.results13 (ro_tmp rfl) (fun w1 hp => ?_)
    exact ⟨_, by omega, rfl, hp.ext0⟩
  ·
    refine ct_skip ?_
    refine at_then ?_
    refine ct_seq ?_
    refine ct_reg ?_
    refine rl_val gw_none (ov_move rfl) rfl ?_
    refine rl_val gw_none (ov_assign rfl) rfl ?_
    refine rl_nil ?_
    refine at_then ?_
    refine ct_ret ?_
    refine at_ret1 Try.results13 (ro_tmp rfl) (fun w1 hp => ?_)
    exact ⟨_, by omega, rfl, hp.ext0⟩

theorem markIntA2S_s (k0 : Int) (b len cap : Nat) (L : List Value) (w : World) (hh : w.heap[b]? = some (.cells L.toArray 43 (0, 0))) (hL : 2 * len ≤ L.length) (hk0 : 0 ≤ k0 ∧ k0 ≤ 1000000000000 ∧ len ≤ 1000000000000) : Calls Try.prog 22 ([.slice (some ⟨b, 0, none⟩) len cap, .int .i64 k0]).toArray w (fun e w' => e = .returned (.int .i64 (k0 + 2 * (len : Nat))) ∧ Turn w w' b ∧ w'.heap[b]? = some (.cells (ints (marks k0 (2 * len)) ++ L.drop (2 * len)).toArray 43 (0, 0))) := by
  refine calls_ctd hh Try.func22 Try.ntmps22 rfl rfl ?_
  refine ct_seq ?_
  refine ct_reg ?_
  refine rl_val gw_none (ov_assign rfl) rfl ?_
  refine rl_nil ?_
  refine at_then ?_
  refine ct_seq ?_
  refine ct_seq ?_
  refine ct_reg ?_
  refine rl_val gw_none (ov_assign rfl) rfl ?_
  refine rl_nil ?_
  refine at_then ?_
  refine ct_block ?_
  refine ct_loopR (ι := Nat) (fun k => [(1, .int .i64 (k0 + 2 * (k : Nat))), (5, .int .i64 k)]) [(0, _), (4, _)] (fun k => [(some b, 43, over (ints (marks k0 (2 * len))) L (2 * k))]) (fun k => k ≤ len) (fun k => len - k) (0) (Sub.cons rfl (Sub.cons rfl Sub.nil)) (fun w1 hq => hq.cong (by rw [Nat.mul_zero, over_0])) (by (repeat' (first | exact Sub.nil | refine Sub.cons ?_ ?_)); all_goals (first | rfl | exact lkInt rfl (by omega))) (by first | exact True.intro | omega | (dsimp only; omega) | (dsimp only at *; omega)) (fun k hk => ?_)
  refine ct_seq ?_
  refine ct_seq ?_
  refine ct_reg ?_
  refine rl_val gw_none (ov_move rfl) rfl ?_
  refine rl_val gw_none (ov_move rfl) rfl ?_
  refine rl_val gw_none (ov_len Try.underlying22 rfl) rfl ?_
  refine rl_val gw_none (ov_lss rfl rfl) rfl ?_
  refine rl_nil ?_
  refine at_then ?_
  first | refine ct_dec rfl (fun h1 => ?_) (fun h1 => ?_) | refine ct_ndec rfl (fun h1 => ?_) (fun h1 => ?_) | refine ct_eq rfl (fun h1 => ?_) (fun h1 => ?_) | refine ct_ne rfl (fun h1 => ?_) (fun h1 => ?_) | refine ct_not rfl (fun h1 => ?_) (fun h1 => ?_) | refine ct_cond rfl (fun h1 => ?_) (fun h1 => ?_)
  ·
    have hk2 : k < len := by omega
    have hk3 : 2 * k + 2 ≤ 2 * len := by omega
    refine ct_skip ?_
    refine at_then ?_
    refine ct_seq ?_
    refine ct_block ?_
    refine ct_seq ?_
    refine ct_reg ?_
    refine rl_val gw_none (ov_assign rfl) rfl ?_
    refine rl_nil ?_
    refine at_then ?_
    refine ct_block ?_
    refine ct_rounds 3 ?_
    refine ct_round ?_
    refine ct_seq ?_
    refine ct_seq ?_
    refine ct_reg ?_
    refine rl_val gw_none (ov_move rfl) rfl ?_
    refine rl_val gw_none (ov_lss rfl rfl) rfl ?_
    refine rl_nil ?_
    refine at_then ?_
    refine ct_true rfl (by decide) ?_
    refine ct_skip ?_
    refine at_then ?_
    refine ct_seq ?_
    refine ct_block ?_
    refine ct_seq ?_
    refine ct_reg ?_
    refine rl_val gw_none (ov_move rfl) rfl ?_
    refine rl_val gw_none (ov_move rfl) rfl ?_
    refine rl_val gw_none (ov_move rfl) rfl ?_
    refine rl_val gw_none (ov_move rfl) rfl ?_
    first | refine rl_val gw_none (ov_ix Try.underlying22 sz43 rfl rfl _ rfl (by omega)) rfl ?_ | refine rl_val gw_none (ov_ix Try.underlying22 sz43 rfl rfl (0) (by omega) (by omega)) rfl ?_ | refine rl_val gw_none (ov_ix Try.underlying22 sz43 rfl rfl (1) (by omega) (by omega)) rfl ?_
    first | refine rl_val gw_none (ov_ixa Try.underlying43 sz3 rfl rfl _ rfl (by omega)) rfl ?_ | refine rl_val gw_none (ov_ixa Try.underlying43 sz3 rfl rfl (0) (by omega) (by omega)) rfl ?_ | refine rl_val gw_none (ov_ixa Try.underlying43 sz3 rfl rfl (1) (by omega) (by omega)) rfl ?_
    refine rl_store ([]) sz3 rfl rfl rfl rfl rfl (by rw [over_len (by rw [ints_length, marks_len]; omega) (by omega)]; omega) ?_
    refine rl_mem (fun _ hq => hq.cong (congrArg (fun x => [(some b, 43, x)]) (over_at (k0 := k0) (p := 2 * k) (by omega) (by omega) (by omega) (by omega)))) ?_
    refine rl_nil ?_
    refine at_then ?_
    refine ct_reg ?_
    refine rl_val gw_none (ov_move rfl) rfl ?_
    refine rl_val gw_none (ov_add rfl rfl (by omega)) rfl ?_
    refine rl_val gw_none (ov_assign rfl) rfl ?_
    refine rl_nil ?_
    refine at_block ?_
    refine at_then ?_
    refine ct_reg ?_
    refine rl_val gw_none (ov_move rfl) rfl ?_
    refine rl_val gw_none (ov_add rfl rfl (by omega)) rfl ?_
    refine rl_val gw_none (ov_assign rfl) rfl ?_
    refine rl_nil ?_
    refine at_round ?_
    refine ct_round ?_
    refine ct_seq ?_
    refine ct_seq ?_
    refine ct_reg ?_
    refine rl_val gw_none (ov_move rfl) rfl ?_
    refine rl_val gw_none (ov_lss rfl rfl) rfl ?_
    refine rl_nil ?_
    refine at_then ?_
    refine ct_true rfl (by decide) ?_
    refine ct_skip ?_
    refine at_then ?_
    refine ct_seq ?_
    refine ct_block ?_
    refine ct_seq ?_
    refine ct_reg ?_
    refine rl_val gw_none (ov_move rfl) rfl ?_
    refine rl_val gw_none (ov_move rfl) rfl ?_
    refine rl_val gw_none (ov_move rfl) rfl ?_
    refine rl_val gw_none (ov_move rfl) rfl ?_
    first | refine rl_val gw_none (ov_ix Try.underlying22 sz43 rfl rfl _ rfl (by omega)) rfl ?_ | refine rl_val gw_none (ov_ix Try.underlying22 sz43 rfl rfl (0) (by omega) (by omega)) rfl ?_ | refine rl_val gw_none (ov_ix Try.underlying22 sz43 rfl rfl (1) (by omega) (by omega)) rfl ?_
    first | refine rl_val gw_none (ov_ixa Try.underlying43 sz3 rfl rfl _ rfl (by omega)) rfl ?_ | refine rl_val gw_none (ov_ixa Try.underlying43 sz3 rfl rfl (0) (by omega) (by omega)) rfl ?_ | refine rl_val gw_none (ov_ixa Try.underlying43 sz3 rfl rfl (1) (by omega) (by omega)) rfl ?_
    refine rl_store ([]) sz3 rfl rfl rfl rfl rfl (by rw [over_len (by rw [ints_length, marks_len]; omega) (by omega)]; omega) ?_
    refine rl_mem (fun _ hq => hq.cong (congrArg (fun x => [(some b, 43, x)]) (over_at (k0 := k0) (p := 2 * k + 1) (by omega) (by omega) (by omega) (by omega)))) ?_
    refine rl_nil ?_
    refine at_then ?_
    refine ct_reg ?_
    refine rl_val gw_none (ov_move rfl) rfl ?_
    refine rl_val gw_none (ov_add rfl rfl (by omega)) rfl ?_
    refine rl_val gw_none (ov_assign rfl) rfl ?_
    refine rl_nil ?_
    refine at_block ?_
    refine at_then ?_
    refine ct_reg ?_
    refine rl_val gw_none (ov_move rfl) rfl ?_
    refine rl_val gw_none (ov_add rfl rfl (by omega)) rfl ?_
    refine rl_val gw_none (ov_assign rfl) rfl ?_
    refine rl_nil ?_
    refine at_round ?_
    refine ct_round ?_
    refine ct_seq ?_
    refine ct_seq ?_
    refine ct_reg ?_
    refine rl_val gw_none (ov_move rfl) rfl ?_
    refine rl_val gw_none (ov_lss rfl rfl) rfl ?_
    refine rl_nil ?_
    refine at_then ?_
    refine ct_false rfl (by decide) ?_
    refine ct_exit ?_
    refine at_then_exit ?_
    refine at_then_exit ?_
    refine at_block_hit ?_
    refine at_block ?_
    refine at_then ?_
    refine ct_reg ?_
    refine rl_val gw_none (ov_move rfl) rfl ?_
    refine rl_val gw_none (ov_add rfl rfl (by omega)) rfl ?_
    refine rl_val gw_none (ov_assign rfl) rfl ?_
    refine rl_nil ?_
    exact at_backR (k + 1) (by first | exact True.intro | omega | (dsimp only; omega) | (dsimp only at *; omega)) (by first | exact True.intro | omega | (dsimp only; omega) | (dsimp only at *; omega)) (by (repeat' (first | exact Sub.nil | refine Sub.cons ?_ ?_)); all_goals (first | rfl | exact lkInt rfl (by omega))) (Sub.cons rfl (Sub.cons rfl Sub.nil)) (fun _ hq => hq.cong (congrArg (fun x => [(some b, 43, over (ints (marks k0 (2 * len))) L x)]) (by omega)))
  ·
    have hke : k = len := by omega
    subst hke
    refine ct_exit ?_
    refine at_then_exit ?_
    refine at_then_exit ?_
    refine at_block_hit ?_
    refine at_then ?_
    refine ct_seq ?_
    refine ct_reg ?_
    refine rl_val gw_none (ov_move rfl) rfl ?_
    refine rl_val gw_none (ov_assign rfl) rfl ?_
    refine rl_nil ?_
    refine at_then ?_
    refine ct_ret ?_
    refine at_ret1 Try.results22 (ro_tmp rfl) (fun w1 hp => ?_)
    refine ⟨rfl, hp.turn0, ?_⟩
    rw [← over_marks]; exact hp.at (i := 0) rfl

theorem markIntA2S_n (k0 : Int) (w : World) : Calls Try.prog 22 ([.slice none 0 0, .int .i64 k0]).toArray w (fun e w' => e = .returned (.int .i64 k0) ∧ Ext w w') := by
  refine calls_ct Try.func22 Try.ntmps22 rfl rfl ?_
  refine ct_seq ?_
  refine ct_reg ?_
  refine rl_val gw_none (ov_assign rfl) rfl ?_
  refine rl_nil ?_
  refine at_then ?_
  refine ct_seq ?_
  refine ct_seq ?_
  refine ct_reg ?_
  refine rl_val gw_none (ov_assign rfl) rfl ?_
  refine rl_nil ?_
  refine at_then ?_
  refine ct_block ?_
  refine ct_loopR (ι := Nat) (fun k => [(1, .int .i64 k0), (5, .int .i64 0)]) [(0, _), (4, _)] (fun _ => _) (fun k => True) (fun k => 0) (0) (Sub.cons rfl (Sub.cons rfl Sub.nil)) (fun _ hq => hq) (by (repeat' (first | exact Sub.nil | refine Sub.cons ?_ ?_)); all_goals (first | rfl | exact lkInt rfl (by omega))) (by first | exact True.intro | omega | (dsimp only; omega) | (dsimp only at *; omega)) (fun k hk => ?_)
  refine ct_seq ?_
  refine ct_seq ?_
  refine ct_reg ?_
  refine rl_val gw_none (ov_move rfl) rfl ?_
  refine rl_val gw_none (ov_move rfl) rfl ?_
  refine rl_val gw_none (ov_len Try.underlying22 rfl) rfl ?_
  refine rl_val gw_none (ov_lss rfl rfl) rfl ?_
  refine rl_nil ?_
  refine at_then ?_
  first | refine ct_dec rfl (fun h1 => ?_) (fun h1 => ?_) | refine ct_ndec rfl (fun h1 => ?_) (fun h1 => ?_) | refine ct_eq rfl (fun h1 => ?_) (fun h1 => ?_) | refine ct_ne rfl (fun h1 => ?_) (fun h1 => ?_) | refine ct_not rfl (fun h1 => ?_) (fun h1 => ?_) | refine ct_cond rfl (fun h1 => ?_) (fun h1 => ?_)
  ·
    exact absurd h1 (by omega)
  ·
    refine ct_exit ?_
    refine at_then_exit ?_
    refine at_then_exit ?_
    refine at_block_hit ?_
    refine at_then ?_
    refine ct_seq ?_
    refine ct_reg ?_
    refine rl_val gw_none (ov_move rfl) rfl ?_
    refine rl_val gw_none (ov_assign rfl) rfl ?_
    refine rl_nil ?_
    refine at_then ?_
    refine ct_ret ?_
    refine at_ret1 Try.results22 (ro_tmp rfl) (fun w1 hp => ?_)
    exact ⟨rfl, hp.ext0⟩

theorem markIntA2S_m (k0 : Int) (b len cap : Nat) (L : List Value) (w : World) (hh : w.heap[b]? = some (.cells L.toArray 43 (0, 0))) (hL : L.length = len * 2) (hk0 : 0 ≤ k0 ∧ k0 ≤ 1000000000000 ∧ len ≤ 1000000000000) :
    Calls Try.prog 22 [.slice (some ⟨b, 0, none⟩) len cap, .int .i64 k0].toArray w (fun e w' => e = .returned (.int .i64 (k0 + 2 * (len : Nat))) ∧ Turn w w' b) :=
  (markIntA2S_s k0 b len cap L w hh (by rw [hL, Nat.mul_comm]; exact Nat.le_refl _) hk0).mono fun e w' ⟨he, ht, _⟩ => ⟨he, ht⟩

theorem markIntA2S_o (k0 : Int) {bo : Option Nat} {len cap : Nat} {xs pad : List Value} (hsl : Sl 2 bo len cap xs pad) (w : World) (hh : ∀ b, bo = some b → w.heap[b]? = some (.cells (xs ++ pad).toArray 43 (0, 0))) (hk0 : 0 ≤ k0 ∧ k0 ≤ 1000000000000 ∧ len ≤ 1000000000000) :
    Calls Try.prog 22 [sv bo len cap, .int .i64 k0].toArray w (fun e w' => e = .returned (.int .i64 (k0 + 2 * (len : Nat))) ∧ Wrote bo 43 (ints (marks k0 (2 * len)) ++ (xs ++ pad).drop (2 * len)) w w') := by
  cases bo with
  | none =>
    obtain ⟨rfl, rfl⟩ := hsl.nil rfl
    have hnil : xs ++ pad = [] := List.length_eq_zero_iff.1 (by rw [hsl.lp, Nat.zero_mul])
    refine (markIntA2S_n k0 w).mono fun e w' ⟨he, hx⟩ => ⟨by rw [he]; simp, ?_, hx⟩
    rw [hnil]; simp [marks, ints]
  | some b =>
    have hle := hsl.le
    have := Nat.mul_le_mul_right 2 hle
    exact (markIntA2S_s k0 b len cap (xs ++ pad) w (hh b rfl) (by rw [hsl.lp]; omega) hk0).mono fun e w' ⟨he, ht, hc⟩ => ⟨he, ht, hc⟩

theorem iIsFrame_c (u : Int) (l : Int) (xs : List IntA2) (vxs : Value) (w : World) (zu : In64 u) (zl : In64 l) (hGxs : ∀ y ∈ xs, GIntA2 y) (hsxs : SR w 2 vxs xs.length (flat encIntA2 xs)) : Calls Try.prog 18 ([.agg (List.toArray (α := Value) [.int .i64 u, .int .i64 l, vxs])]).toArray w (fun e w' => e = .returned (.bool (frameB u l xs)) ∧ Ext w w') := by
  obtain ⟨axs, capxs, rfl, hcapxs, hmaxxs⟩ := hsxs.slice
  have hlenxs := hsxs.len_le
  refine calls_ct Try.func18 Try.ntmps18 rfl rfl ?_
  refine ct_seq ?_
  refine ct_reg ?_
  refine rl_box rfl rfl (fun N1 => ?_)
  refine rl_val gw_none (ov_assign rfl) rfl ?_
  refine rl_nil ?_
  refine at_then ?_
  refine ct_seq ?_
  refine ct_seq ?_
  refine ct_reg ?_
  refine rl_val gw_none (ov_field fo29_0 rfl) rfl ?_
  first | refine rl_val gw_none (ov_load 0 sc3 rfl rfl rfl) rfl ?_ | refine rl_val gw_none (ov_load 0 sc3 rfl rfl (by assumption)) rfl ?_
  refine rl_callv gw_none goes19 rfl (fun w1 hp => within_c _ _ _ _) rfl ?_
  refine rl_val gw_none (ov_not rfl) rfl ?_
  refine rl_val gw_none (ov_move rfl) rfl ?_
  refine rl_split (t := 9) rfl (fun g1 => ?_) (fun g1 => ?_)
  ·
    have g1' := g1
    try simp only [Bool.not_eq_true', Bool.not_eq_false', Bool.not_not, decide_eq_true_eq, decide_eq_false_iff_not, beq_iff_eq, beq_eq_false_iff_ne, bne_iff_ne, bne_eq_false_iff_eq, Bool.and_eq_true, Bool.or_eq_true, Bool.and_eq_false_iff, Bool.or_eq_false_iff, inB] at g1'
    refine rl_skip (gw_not rfl rfl g1) rfl ?_
    refine rl_skip (gw_not rfl rfl g1) rfl ?_
    refine rl_skip (gw_not rfl rfl g1) rfl ?_
    refine rl_skip (gw_not rfl rfl g1) rfl ?_
    refine rl_val gw_none (ov_pick_t rfl g1 rfl) rfl ?_
    refine rl_val gw_none (ov_move rfl) rfl ?_
    refine rl_skip (gw_not rfl rfl rfl) rfl ?_
    refine rl_skip (gw_not rfl rfl rfl) rfl ?_
    refine rl_skip (gw_not rfl rfl rfl) rfl ?_
    refine rl_skip (gw_not rfl rfl rfl) rfl ?_
    refine rl_skip (gw_not rfl rfl rfl) rfl ?_
    refine rl_val gw_none (ov_pick_t rfl rfl rfl) rfl ?_
    refine rl_nil ?_
    refine at_then ?_
    refine ct_true rfl rfl ?_
    refine ct_seq ?_
    refine ct_reg ?_
    refine rl_val gw_none (ov_assign rfl) rfl ?_
    refine rl_nil ?_
    refine at_then ?_
    refine ct_ret ?_
    refine at_then_ret ?_
    refine at_ret1 Try.results18 (ro_tmp rfl) (fun w1 hp => ?_)
    refine ⟨?_, hp.ext0⟩
    first | (rw [frameB_rod hx (by simp_all [rodB])]; done) | (rw [frameB_end (fun j r hj hx => hall j r hj hx)]; first | done | (simp_all; done)) | (rw [frameB_head (by simp_all)]; done)
  ·
    have g1' := g1
    try simp only [Bool.not_eq_true', Bool.not_eq_false', Bool.not_not, decide_eq_true_eq, decide_eq_false_iff_not, beq_iff_eq, beq_eq_false_iff_ne, bne_iff_ne, bne_eq_false_iff_eq, Bool.and_eq_true, Bool.or_eq_true, Bool.and_eq_false_iff, Bool.or_eq_false_iff, inB] at g1'
    refine rl_val (gw_some rfl rfl g1) (ov_field fo29_1 rfl) rfl ?_
    first | refine rl_val (gw_some rfl rfl g1) (ov_load 0 sc3 rfl rfl rfl) rfl ?_ | refine rl_val (gw_some rfl rfl g1) (ov_load 0 sc3 rfl rfl (by assumption)) rfl ?_
    refine rl_callv (gw_some rfl rfl g1) goes19 rfl (fun w1 hp => within_c _ _ _ _) rfl ?_
    refine rl_val (gw_some rfl rfl g1) (ov_not rfl) rfl ?_
    refine rl_val gw_none (ov_pick_f rfl g1 rfl) rfl ?_
    refine rl_val gw_none (ov_move rfl) rfl ?_
    refine rl_split (t := 15) rfl (fun g2 => ?_) (fun g2 => ?_)
    ·
      have g2' := g2
      try simp only [Bool.not_eq_true', Bool.not_eq_false', Bool.not_not, decide_eq_true_eq, decide_eq_false_iff_not, beq_iff_eq, beq_eq_false_iff_ne, bne_iff_ne, bne_eq_false_iff_eq, Bool.and_eq_true, Bool.or_eq_true, Bool.and_eq_false_iff, Bool.or_eq_false_iff, inB] at g2'
      refine rl_skip (gw_not rfl rfl g2) rfl ?_
      refine rl_skip (gw_not rfl rfl g2) rfl ?_
      refine rl_skip (gw_not rfl rfl g2) rfl ?_
      refine rl_skip (gw_not rfl rfl g2) rfl ?_
      refine rl_skip (gw_not rfl rfl g2) rfl ?_
      refine rl_val gw_none (ov_pick_t rfl g2 rfl) rfl ?_
      refine rl_nil ?_
      refine at_then ?_
      refine ct_true rfl rfl ?_
      refine ct_seq ?_
      refine ct_reg ?_
      refine rl_val gw_none (ov_assign rfl) rfl ?_
      refine rl_nil ?_
      refine at_then ?_
      refine ct_ret ?_
      refine at_then_ret ?_
      refine at_ret1 Try.results18 (ro_tmp rfl) (fun w1 hp => ?_)
      refine ⟨?_, hp.ext0⟩
      first | (rw [frameB_rod hx (by simp_all [rodB])]; done) | (rw [frameB_end (fun j r hj hx => hall j r hj hx)]; first | done | (simp_all; done)) | (rw [frameB_head (by simp_all)]; done)
    ·
      have g2' := g2
      try simp only [Bool.not_eq_true', Bool.not_eq_false', Bool.not_not, decide_eq_true_eq, decide_eq_false_iff_not, beq_iff_eq, beq_eq_false_iff_ne, bne_iff_ne, bne_eq_false_iff_eq, Bool.and_eq_true, Bool.or_eq_true, Bool.and_eq_false_iff, Bool.or_eq_false_iff, inB] at g2'
      refine rl_val (gw_some rfl rfl g2) (ov_field fo29_2 rfl) rfl ?_
      first | refine rl_val (gw_some rfl rfl g2) (ov_load 0 sc22 rfl rfl rfl) rfl ?_ | refine rl_val (gw_some rfl rfl g2) (ov_load 0 sc22 rfl rfl (by assumption)) rfl ?_
      refine rl_val (gw_some rfl rfl g2) (ov_len Try.underlying22 rfl) rfl ?_
      refine rl_callv (gw_some rfl rfl g2) goes19 rfl (fun w1 hp => within_c _ _ _ _) rfl ?_
      refine rl_val (gw_some rfl rfl g2) (ov_not rfl) rfl ?_
      refine rl_val gw_none (ov_pick_f rfl g2 rfl) rfl ?_
      refine rl_nil ?_
      refine at_then ?_
      first | refine ct_dec rfl (fun h1 => ?_) (fun h1 => ?_) | refine ct_ndec rfl (fun h1 => ?_) (fun h1 => ?_) | refine ct_eq rfl (fun h1 => ?_) (fun h1 => ?_) | refine ct_ne rfl (fun h1 => ?_) (fun h1 => ?_) | refine ct_not rfl (fun h1 => ?_) (fun h1 => ?_) | refine ct_cond rfl (fun h1 => ?_) (fun h1 => ?_)
      ·
        refine ct_seq ?_
        refine ct_reg ?_
        refine rl_val gw_none (ov_assign rfl) rfl ?_
        refine rl_nil ?_
        refine at_then ?_
        refine ct_ret ?_
        refine at_then_ret ?_
        refine at_ret1 Try.results18 (ro_tmp rfl) (fun w1 hp => ?_)
        refine ⟨?_, hp.ext0⟩
        first | (rw [frameB_rod hx (by simp_all [rodB])]; done) | (rw [frameB_end (fun j r hj hx => hall j r hj hx)]; first | done | (simp_all; done)) | (rw [frameB_head (by simp_all)]; done)
      ·
        refine ct_skip ?_
        refine at_then ?_
        refine ct_seq ?_
        refine ct_seq ?_
        refine ct_reg ?_
        refine rl_val gw_none (ov_field fo29_2 rfl) rfl ?_
        first | refine rl_val gw_none (ov_load 0 sc22 rfl rfl rfl) rfl ?_ | refine rl_val gw_none (ov_load 0 sc22 rfl rfl (by assumption)) rfl ?_
        refine rl_val gw_none (ov_len Try.underlying22 rfl) rfl ?_
        refine rl_val gw_none (ov_move rfl) rfl ?_
        refine rl_nil ?_
        refine at_then ?_
        refine ct_block ?_
        refine ct_loopR (ι := Nat) (fun k => [(25, .int .i64 k)]) [(1, _), (23, _), (24, _)] (fun _ => _) (fun k => k ≤ xs.length ∧ ∀ j r, j < k → xs[j]? = some r → rodB u l r = true) (fun k => xs.length - k) (0) (Sub.cons rfl (Sub.cons rfl (Sub.cons rfl Sub.nil))) (fun _ hq => hq) (by (repeat' (first | exact Sub.nil | refine Sub.cons ?_ ?_)); all_goals (first | rfl | exact lkInt rfl (by omega))) ⟨Nat.zero_le _, fun j r hj => absurd hj (Nat.not_lt_zero j)⟩ (fun k hi => ?_)
        obtain ⟨hk, hall⟩ := hi
        refine ct_seq ?_
        refine ct_reg ?_
        refine rl_val gw_none (ov_lss rfl rfl) rfl ?_
        refine rl_nil ?_
        refine at_then ?_
        refine ct_seq ?_
        first | refine ct_dec rfl (fun h2 => ?_) (fun h2 => ?_) | refine ct_ndec rfl (fun h2 => ?_) (fun h2 => ?_) | refine ct_eq rfl (fun h2 => ?_) (fun h2 => ?_) | refine ct_ne rfl (fun h2 => ?_) (fun h2 => ?_) | refine ct_not rfl (fun h2 => ?_) (fun h2 => ?_) | refine ct_cond rfl (fun h2 => ?_) (fun h2 => ?_)
        ·
          have hk2 : k < xs.length := by omega
          obtain ⟨b, o, rfl, hel⟩ := hsxs.elem encIntA2_len (by omega) hk2
          have hx := getLt hk2
          generalize xs[k] = r at *
          have hcx := hel k r hx
          obtain ⟨c0, c1, _⟩ := hel k r hx
          refine ct_skip ?_
          refine at_then ?_
          refine ct_seq ?_
          refine ct_block ?_
          refine ct_seq ?_
          refine ct_reg ?_
          first | refine rl_val gw_none (ov_ix Try.underlying22 sz43 rfl rfl _ rfl (by omega)) rfl ?_ | refine rl_val gw_none (ov_ix Try.underlying22 sz43 rfl rfl (0) (by omega) (by omega)) rfl ?_ | refine rl_val gw_none (ov_ix Try.underlying22 sz43 rfl rfl (1) (by omega) (by omega)) rfl ?_
          first | refine rl_val gw_none (ov_loadaw ag43 rfl rfl (by assumption)) rfl ?_ | refine rl_val gw_none (ov_loadall 0 ag43 rfl rfl rfl) rfl ?_ | refine rl_val gw_none (ov_loadall 1 ag43 rfl rfl rfl) rfl ?_ | refine rl_val gw_none (ov_loadall 2 ag43 rfl rfl rfl) rfl ?_ | refine rl_val gw_none (ov_loadall 3 ag43 rfl rfl rfl) rfl ?_
          refine rl_alloc ze43 rfl (fun N2 => ?_)
          refine rl_store [] sz43 rfl rfl rfl rfl rfl (Nat.le_of_ble_eq_true rfl) ?_
          refine rl_nil ?_
          refine at_then ?_
          refine ct_seq ?_
          refine ct_reg ?_
          first | refine rl_val gw_none (ov_ixa Try.underlying43 sz3 rfl rfl _ rfl (by omega)) rfl ?_ | refine rl_val gw_none (ov_ixa Try.underlying43 sz3 rfl rfl (0) (by omega) (by omega)) rfl ?_ | refine rl_val gw_none (ov_ixa Try.underlying43 sz3 rfl rfl (1) (by omega) (by omega)) rfl ?_
          first | refine rl_val gw_none (ov_load 0 sc3 rfl rfl rfl) rfl ?_ | refine rl_val gw_none (ov_load 0 sc3 rfl rfl (by assumption)) rfl ?_
          refine rl_val gw_none (ov_field fo29_0 rfl) rfl ?_
          first | refine rl_val gw_none (ov_load 1 sc3 rfl rfl rfl) rfl ?_ | refine rl_val gw_none (ov_load 1 sc3 rfl rfl (by assumption)) rfl ?_
          refine rl_callv gw_none goes19 rfl (fun w1 hp => within_c _ _ _ _) rfl ?_
          refine rl_val gw_none (ov_not rfl) rfl ?_
          refine rl_val gw_none (ov_move rfl) rfl ?_
          refine rl_split (t := 35) rfl (fun g3 => ?_) (fun g3 => ?_)
          ·
            have g3' := g3
            try simp only [Bool.not_eq_true', Bool.not_eq_false', Bool.not_not, decide_eq_true_eq, decide_eq_false_iff_not, beq_iff_eq, beq_eq_false_iff_ne, bne_iff_ne, bne_eq_false_iff_eq, Bool.and_eq_true, Bool.or_eq_true, Bool.and_eq_false_iff, Bool.or_eq_false_iff, inB] at g3'
            refine rl_skip (gw_not rfl rfl g3) rfl ?_
            refine rl_skip (gw_not rfl rfl g3) rfl ?_
            refine rl_skip (gw_not rfl rfl g3) rfl ?_
            refine rl_skip (gw_not rfl rfl g3) rfl ?_
            refine rl_skip (gw_not rfl rfl g3) rfl ?_
            refine rl_skip (gw_not rfl rfl g3) rfl ?_
            refine rl_val gw_none (ov_pick_t rfl g3 rfl) rfl ?_
            refine rl_nil ?_
            refine at_then ?_
            refine ct_true rfl rfl ?_
            refine ct_seq ?_
            refine ct_reg ?_
            refine rl_val gw_none (ov_assign rfl) rfl ?_
            refine rl_nil ?_
            refine at_then ?_
            refine ct_ret ?_
            refine at_block_ret ?_
            refine at_then_ret ?_
            refine at_then_ret ?_
            refine at_block_ret ?_
            refine at_then_ret ?_
            refine at_ret1 Try.results18 (ro_tmp rfl) (fun w1 hp => ?_)
            refine ⟨?_, hp.ext0⟩
            first | (rw [frameB_rod hx (by simp_all [rodB])]; done) | (rw [frameB_end (fun j r hj hx => hall j r hj hx)]; first | done | (simp_all; done)) | (rw [frameB_head (by simp_all)]; done)
          ·
            have g3' := g3
            try simp only [Bool.not_eq_true', Bool.not_eq_false', Bool.not_not, decide_eq_true_eq, decide_eq_false_iff_not, beq_iff_eq, beq_eq_false_iff_ne, bne_iff_ne, bne_eq_false_iff_eq, Bool.and_eq_true, Bool.or_eq_true, Bool.and_eq_false_iff, Bool.or_eq_false_iff, inB] at g3'
            first | refine rl_val (gw_some rfl rfl g3) (ov_ixa Try.underlying43 sz3 rfl rfl _ rfl (by omega)) rfl ?_ | refine rl_val (gw_some rfl rfl g3) (ov_ixa Try.underlying43 sz3 rfl rfl (0) (by omega) (by omega)) rfl ?_ | refine rl_val (gw_some rfl rfl g3) (ov_ixa Try.underlying43 sz3 rfl rfl (1) (by omega) (by omega)) rfl ?_
            first | refine rl_val (gw_some rfl rfl g3) (ov_load 0 sc3 rfl rfl rfl) rfl ?_ | refine rl_val (gw_some rfl rfl g3) (ov_load 0 sc3 rfl rfl (by assumption)) rfl ?_
            refine rl_val (gw_some rfl rfl g3) (ov_field fo29_1 rfl) rfl ?_
            first | refine rl_val (gw_some rfl rfl g3) (ov_load 1 sc3 rfl rfl rfl) rfl ?_ | refine rl_val (gw_some rfl rfl g3) (ov_load 1 sc3 rfl rfl (by assumption)) rfl ?_
            refine rl_callv (gw_some rfl rfl g3) goes19 rfl (fun w1 hp => within_c _ _ _ _) rfl ?_
            refine rl_val (gw_some rfl rfl g3) (ov_not rfl) rfl ?_
            refine rl_val gw_none (ov_pick_f rfl g3 rfl) rfl ?_
            refine rl_nil ?_
            refine at_then ?_
            first | refine ct_dec rfl (fun h3 => ?_) (fun h3 => ?_) | refine ct_ndec rfl (fun h3 => ?_) (fun h3 => ?_) | refine ct_eq rfl (fun h3 => ?_) (fun h3 => ?_) | refine ct_ne rfl (fun h3 => ?_) (fun h3 => ?_) | refine ct_not rfl (fun h3 => ?_) (fun h3 => ?_) | refine ct_cond rfl (fun h3 => ?_) (fun h3 => ?_)
            ·
              refine ct_seq ?_
              refine ct_reg ?_
              refine rl_val gw_none (ov_assign rfl) rfl ?_
              refine rl_nil ?_
              refine at_then ?_
              refine ct_ret ?_
              refine at_block_ret ?_
              refine at_then_ret ?_
              refine at_then_ret ?_
              refine at_block_ret ?_
              refine at_then_ret ?_
              refine at_ret1 Try.results18 (ro_tmp rfl) (fun w1 hp => ?_)
              refine ⟨?_, hp.ext0⟩
              first | (rw [frameB_rod hx (by simp_all [rodB])]; done) | (rw [frameB_end (fun j r hj hx => hall j r hj hx)]; first | done | (simp_all; done)) | (rw [frameB_head (by simp_all)]; done)
            ·
              refine ct_skip ?_
              refine at_block ?_
              refine at_then ?_
              refine ct_reg ?_
              refine rl_val gw_none (ov_add rfl rfl (by omega)) rfl ?_
              refine rl_val gw_none (ov_move rfl) rfl ?_
              refine rl_nil ?_
              have hrd : rodB u l r = true := by simp_all [rodB]
              exact at_backR (k + 1) ⟨hk2, fun j r2 hj hj2 => by by_cases hjk : j = k; exact (by subst hjk; rw [hx] at hj2; obtain rfl := Option.some.inj hj2; exact hrd); exact hall j r2 (by omega) hj2⟩ (by first | exact True.intro | omega | (dsimp only; omega) | (dsimp only at *; omega)) (by (repeat' (first | exact Sub.nil | refine Sub.cons ?_ ?_)); all_goals (first | rfl | exact lkInt rfl (by omega))) (Sub.cons rfl (Sub.cons rfl (Sub.cons rfl Sub.nil))) (fun _ hq => hq.drop)
        ·
          have hke : k = xs.length := by omega
          subst hke
          refine ct_exit ?_
          refine at_then_exit ?_
          refine at_then_exit ?_
          refine at_block_hit ?_
          refine at_then ?_
          refine ct_seq ?_
          refine ct_reg ?_
          refine rl_val gw_none (ov_assign rfl) rfl ?_
          refine rl_nil ?_
          refine at_then ?_
          refine ct_ret ?_
          refine at_ret1 Try.results18 (ro_tmp rfl) (fun w1 hp => ?_)
          refine ⟨?_, hp.ext0⟩
          first | (rw [frameB_rod hx (by simp_all [rodB])]; done) | (rw [frameB_end (fun j r hj hx => hall j r hj hx)]; first | done | (simp_all; done)) | (rw [frameB_head (by simp_all)]; done)

theorem l2Good_c (u : Int) (l : Int) (xs : List IntA2) (vxs : Value) (w : World) (zu : In64 u) (zl : In64 l) (hGxs : ∀ y ∈ xs, GIntA2 y) (hsxs : SR w 2 vxs xs.length (flat encIntA2 xs)) : Calls Try.prog 14 ([.agg (List.toArray (α := Value) [.int .i64 u, .int .i64 l, vxs])]).toArray w (fun e w' => e = .returned (.bool (frameB u l xs)) ∧ Ext w w') := by
  obtain ⟨axs, capxs, rfl, hcapxs, hmaxxs⟩ := hsxs.slice
  have hlenxs := hsxs.len_le
  refine calls_ct Try.func14 Try.ntmps14 rfl rfl ?_
  refine ct_seq ?_
  refine ct_reg ?_
  refine rl_box rfl rfl (fun N1 => ?_)
  refine rl_val gw_none (ov_assign rfl) rfl ?_
  refine rl_nil ?_
  refine at_then ?_
  refine ct_seq ?_
  refine ct_seq ?_
  refine ct_reg ?_
  refine rl_val gw_none (ov_assign rfl) rfl ?_
  refine rl_nil ?_
  refine at_then ?_
  refine ct_block ?_
  refine ct_loopR (ι := Nat) (fun k => [(3, .int .i64 k)]) [(1, _)] (fun _ => _) (fun k => k ≤ xs.length ∧ ∀ j r, j < k → xs[j]? = some r → rodB u l r = true) (fun k => xs.length - k) (0) (Sub.cons rfl Sub.nil) (fun _ hq => hq) (by (repeat' (first | exact Sub.nil | refine Sub.cons ?_ ?_)); all_goals (first | rfl | exact lkInt rfl (by omega))) ⟨Nat.zero_le _, fun j r hj => absurd hj (Nat.not_lt_zero j)⟩ (fun k hi => ?_)
  obtain ⟨hk, hall⟩ := hi
  refine ct_seq ?_
  refine ct_seq ?_
  refine ct_reg ?_
  refine rl_val gw_none (ov_move rfl) rfl ?_
  refine rl_val gw_none (ov_field fo29_2 rfl) rfl ?_
  first | refine rl_val gw_none (ov_load 0 sc22 rfl rfl rfl) rfl ?_ | refine rl_val gw_none (ov_load 0 sc22 rfl rfl (by assumption)) rfl ?_
  refine rl_val gw_none (ov_len Try.underlying22 rfl) rfl ?_
  refine rl_val gw_none (ov_lss rfl rfl) rfl ?_
  refine rl_nil ?_
  refine at_then ?_
  first | refine ct_dec rfl (fun h1 => ?_) (fun h1 => ?_) | refine ct_ndec rfl (fun h1 => ?_) (fun h1 => ?_) | refine ct_eq rfl (fun h1 => ?_) (fun h1 => ?_) | refine ct_ne rfl (fun h1 => ?_) (fun h1 => ?_) | refine ct_not rfl (fun h1 => ?_) (fun h1 => ?_) | refine ct_cond rfl (fun h1 => ?_) (fun h1 => ?_)
  ·
    have hk2 : k < xs.length := by omega
    obtain ⟨b, o, rfl, hel⟩ := hsxs.elem encIntA2_len (by omega) hk2
    have hx := getLt hk2
    generalize xs[k] = r at *
    have hcx := hel k r hx
    obtain ⟨c0, c1, _⟩ := hel k r hx
    refine ct_skip ?_
    refine at_then ?_
    refine ct_seq ?_
    refine ct_block ?_
    refine ct_seq ?_
    refine ct_dr 22 (by kernel_rfl) (by kernel_rfl) ?_
    refine ql_val gw_none (ov_field fo29_2 rfl) rfl ?_
    first | refine ql_val gw_none (ov_load 0 sc22 rfl rfl rfl) rfl ?_ | refine ql_val gw_none (ov_load 0 sc22 rfl rfl (by assumption)) rfl ?_
    refine ql_val gw_none (ov_move rfl) rfl ?_
    first | refine ql_val gw_none (ov_ix Try.underlying22 sz43 rfl rfl _ rfl (by omega)) rfl ?_ | refine ql_val gw_none (ov_ix Try.underlying22 sz43 rfl rfl (0) (by omega) (by omega)) rfl ?_ | refine ql_val gw_none (ov_ix Try.underlying22 sz43 rfl rfl (1) (by omega) (by omega)) rfl ?_
    first | refine ql_val gw_none (ov_ixa Try.underlying43 sz3 rfl rfl _ rfl (by omega)) rfl ?_ | refine ql_val gw_none (ov_ixa Try.underlying43 sz3 rfl rfl (0) (by omega) (by omega)) rfl ?_ | refine ql_val gw_none (ov_ixa Try.underlying43 sz3 rfl rfl (1) (by omega) (by omega)) rfl ?_
    first | refine ql_val gw_none (ov_load 0 sc3 rfl rfl rfl) rfl ?_ | refine ql_val gw_none (ov_load 1 sc3 rfl rfl rfl) rfl ?_ | refine ql_val gw_none (ov_load 2 sc3 rfl rfl rfl) rfl ?_ | refine ql_val gw_none (ov_load 3 sc3 rfl rfl rfl) rfl ?_ | refine ql_val gw_none (ov_loadw sc3 rfl (by assumption)) rfl ?_ | refine ql_val gw_none (ov_load 0 sc3 rfl rfl (by assumption)) rfl ?_ | refine ql_val gw_none (ov_load 1 sc3 rfl rfl (by assumption)) rfl ?_ | refine ql_val gw_none (ov_load 2 sc3 rfl rfl (by assumption)) rfl ?_ | refine ql_val gw_none (ov_load 3 sc3 rfl rfl (by assumption)) rfl ?_
    refine ql_val gw_none (ov_field fo29_0 rfl) rfl ?_
    first | refine ql_val gw_none (ov_load 0 sc3 rfl rfl rfl) rfl ?_ | refine ql_val gw_none (ov_load 0 sc3 rfl rfl (by assumption)) rfl ?_
    refine ql_callv gw_none goes15 rfl (fun w1 hp => l1In_c _ _ _ _) rfl ?_
    refine ql_val gw_none (ov_not rfl) rfl ?_
    refine ql_val gw_none (ov_move rfl) rfl ?_
    refine ql_split (t := 21) rfl (fun g1 => ?_) (fun g1 => ?_)
    ·
      have g1' := g1
      try simp only [Bool.not_eq_true', Bool.not_eq_false', Bool.not_not, decide_eq_true_eq, decide_eq_false_iff_not, beq_iff_eq, beq_eq_false_iff_ne, bne_iff_ne, bne_eq_false_iff_eq, Bool.and_eq_true, Bool.or_eq_true, Bool.and_eq_false_iff, Bool.or_eq_false_iff, inB] at g1'
      refine ql_skip (gw_not rfl rfl g1) rfl ?_
      refine ql_skip (gw_not rfl rfl g1) rfl ?_
      refine ql_skip (gw_not rfl rfl g1) rfl ?_
      refine ql_skip (gw_not rfl rfl g1) rfl ?_
      refine ql_skip (gw_not rfl rfl g1) rfl ?_
      refine ql_skip (gw_not rfl rfl g1) rfl ?_
      refine ql_skip (gw_not rfl rfl g1) rfl ?_
      refine ql_skip (gw_not rfl rfl g1) rfl ?_
      refine ql_skip (gw_not rfl rfl g1) rfl ?_
      refine ql_skip (gw_not rfl rfl g1) rfl ?_
      refine ql_val gw_none (ov_pick_t rfl g1 rfl) rfl ?_
      refine ql_nil ?_
      refine rl_nil ?_
      refine at_then ?_
      refine ct_true rfl rfl ?_
      refine ct_seq ?_
      refine ct_reg ?_
      refine rl_val gw_none (ov_assign rfl) rfl ?_
      refine rl_nil ?_
      refine at_then ?_
      refine ct_ret ?_
      refine at_block_ret ?_
      refine at_then_ret ?_
      refine at_then_ret ?_
      refine at_block_ret ?_
      refine at_then_ret ?_
      refine at_ret1 Try.results14 (ro_tmp rfl) (fun w1 hp => ?_)
      refine ⟨?_, hp.ext0⟩
      first | (rw [frameB_rod hx (by simp_all [rodB])]; done) | (rw [frameB_end (fun j r hj hx => hall j r hj hx)]; first | done | (simp_all; done)) | (rw [frameB_head (by simp_all)]; done)
    ·
      have g1' := g1
      try simp only [Bool.not_eq_true', Bool.not_eq_false', Bool.not_not, decide_eq_true_eq, decide_eq_false_iff_not, beq_iff_eq, beq_eq_false_iff_ne, bne_iff_ne, bne_eq_false_iff_eq, Bool.and_eq_true, Bool.or_eq_true, Bool.and_eq_false_iff, Bool.or_eq_false_iff, inB] at g1'
      refine ql_val (gw_some rfl rfl g1) (ov_field fo29_2 rfl) rfl ?_
      first | refine ql_val (gw_some rfl rfl g1) (ov_load 0 sc22 rfl rfl rfl) rfl ?_ | refine ql_val (gw_some rfl rfl g1) (ov_load 0 sc22 rfl rfl (by assumption)) rfl ?_
      refine ql_val (gw_some rfl rfl g1) (ov_move rfl) rfl ?_
      first | refine ql_val (gw_some rfl rfl g1) (ov_ix Try.underlying22 sz43 rfl rfl _ rfl (by omega)) rfl ?_ | refine ql_val (gw_some rfl rfl g1) (ov_ix Try.underlying22 sz43 rfl rfl (0) (by omega) (by omega)) rfl ?_ | refine ql_val (gw_some rfl rfl g1) (ov_ix Try.underlying22 sz43 rfl rfl (1) (by omega) (by omega)) rfl ?_
      first | refine ql_val (gw_some rfl rfl g1) (ov_ixa Try.underlying43 sz3 rfl rfl _ rfl (by omega)) rfl ?_ | refine ql_val (gw_some rfl rfl g1) (ov_ixa Try.underlying43 sz3 rfl rfl (0) (by omega) (by omega)) rfl ?_ | refine ql_val (gw_some rfl rfl g1) (ov_ixa Try.underlying43 sz3 rfl rfl (1) (by omega) (by omega)) rfl ?_
      first | refine ql_val (gw_some rfl rfl g1) (ov_load 0 sc3 rfl rfl rfl) rfl ?_ | refine ql_val (gw_some rfl rfl g1) (ov_load 1 sc3 rfl rfl rfl) rfl ?_ | refine ql_val (gw_some rfl rfl g1) (ov_load 2 sc3 rfl rfl rfl) rfl ?_ | refine ql_val (gw_some rfl rfl g1) (ov_load 3 sc3 rfl rfl rfl) rfl ?_ | refine ql_val (gw_some rfl rfl g1) (ov_loadw sc3 rfl (by assumption)) rfl ?_ | refine ql_val (gw_some rfl rfl g1) (ov_load 0 sc3 rfl rfl (by assumption)) rfl ?_ | refine ql_val (gw_some rfl rfl g1) (ov_load 1 sc3 rfl rfl (by assumption)) rfl ?_ | refine ql_val (gw_some rfl rfl g1) (ov_load 2 sc3 rfl rfl (by assumption)) rfl ?_ | refine ql_val (gw_some rfl rfl g1) (ov_load 3 sc3 rfl rfl (by assumption)) rfl ?_
      refine ql_val (gw_some rfl rfl g1) (ov_field fo29_1 rfl) rfl ?_
      first | refine ql_val (gw_some rfl rfl g1) (ov_load 0 sc3 rfl rfl rfl) rfl ?_ | refine ql_val (gw_some rfl rfl g1) (ov_load 0 sc3 rfl rfl (by assumption)) rfl ?_
      refine ql_callv (gw_some rfl rfl g1) goes15 rfl (fun w1 hp => l1In_c _ _ _ _) rfl ?_
      refine ql_val (gw_some rfl rfl g1) (ov_not rfl) rfl ?_
      refine ql_val gw_none (ov_pick_f rfl g1 rfl) rfl ?_
      refine ql_nil ?_
      refine rl_nil ?_
      refine at_then ?_
      first | refine ct_dec rfl (fun h2 => ?_) (fun h2 => ?_) | refine ct_ndec rfl (fun h2 => ?_) (fun h2 => ?_) | refine ct_eq rfl (fun h2 => ?_) (fun h2 => ?_) | refine ct_ne rfl (fun h2 => ?_) (fun h2 => ?_) | refine ct_not rfl (fun h2 => ?_) (fun h2 => ?_) | refine ct_cond rfl (fun h2 => ?_) (fun h2 => ?_)
      ·
        refine ct_seq ?_
        refine ct_reg ?_
        refine rl_val gw_none (ov_assign rfl) rfl ?_
        refine rl_nil ?_
        refine at_then ?_
        refine ct_ret ?_
        refine at_block_ret ?_
        refine at_then_ret ?_
        refine at_then_ret ?_
        refine at_block_ret ?_
        refine at_then_ret ?_
        refine at_ret1 Try.results14 (ro_tmp rfl) (fun w1 hp => ?_)
        refine ⟨?_, hp.ext0⟩
        first | (rw [frameB_rod hx (by simp_all [rodB])]; done) | (rw [frameB_end (fun j r hj hx => hall j r hj hx)]; first | done | (simp_all; done)) | (rw [frameB_head (by simp_all)]; done)
      ·
        refine ct_skip ?_
        refine at_block ?_
        refine at_then ?_
        refine ct_reg ?_
        refine rl_val gw_none (ov_move rfl) rfl ?_
        refine rl_val gw_none (ov_add rfl rfl (by omega)) rfl ?_
        refine rl_val gw_none (ov_assign rfl) rfl ?_
        refine rl_nil ?_
        have hrd : rodB u l r = true := by simp_all [rodB]
        exact at_backR (k + 1) ⟨hk2, fun j r2 hj hj2 => by by_cases hjk : j = k; exact (by subst hjk; rw [hx] at hj2; obtain rfl := Option.some.inj hj2; exact hrd); exact hall j r2 (by omega) hj2⟩ (by first | exact True.intro | omega | (dsimp only; omega) | (dsimp only at *; omega)) (by (repeat' (first | exact Sub.nil | refine Sub.cons ?_ ?_)); all_goals (first | rfl | exact lkInt rfl (by omega))) (Sub.cons rfl Sub.nil) (fun _ hq => hq)
  ·
    have hke : k = xs.length := by omega
    subst hke
    refine ct_exit ?_
    refine at_then_exit ?_
    refine at_then_exit ?_
    refine at_block_hit ?_
    refine at_then ?_
    refine ct_seq ?_
    refine ct_reg ?_
    refine rl_val gw_none (ov_field fo29_0 rfl) rfl ?_
    first | refine rl_val gw_none (ov_load 0 sc3 rfl rfl rfl) rfl ?_ | refine rl_val gw_none (ov_load 0 sc3 rfl rfl (by assumption)) rfl ?_
    refine rl_callv gw_none goes15 rfl (fun w1 hp => l1In_c _ _ _ _) rfl ?_
    refine rl_val gw_none (ov_move rfl) rfl ?_
    refine rl_split (t := 36) rfl (fun g2 => ?_) (fun g2 => ?_)
    ·
      have g2' := g2
      try simp only [Bool.not_eq_true', Bool.not_eq_false', Bool.not_not, decide_eq_true_eq, decide_eq_false_iff_not, beq_iff_eq, beq_eq_false_iff_ne, bne_iff_ne, bne_eq_false_iff_eq, Bool.and_eq_true, Bool.or_eq_true, Bool.and_eq_false_iff, Bool.or_eq_false_iff, inB] at g2'
      refine rl_val (gw_some rfl rfl g2) (ov_field fo29_1 rfl) rfl ?_
      first | refine rl_val (gw_some rfl rfl g2) (ov_load 0 sc3 rfl rfl rfl) rfl ?_ | refine rl_val (gw_some rfl rfl g2) (ov_load 0 sc3 rfl rfl (by assumption)) rfl ?_
      refine rl_callv (gw_some rfl rfl g2) goes15 rfl (fun w1 hp => l1In_c _ _ _ _) rfl ?_
      refine rl_val gw_none (ov_pick_t rfl g2 rfl) rfl ?_
      refine rl_val gw_none (ov_move rfl) rfl ?_
      refine rl_split (t := 41) rfl (fun g3 => ?_) (fun g3 => ?_)
      ·
        have g3' := g3
        try simp only [Bool.not_eq_true', Bool.not_eq_false', Bool.not_not, decide_eq_true_eq, decide_eq_false_iff_not, beq_iff_eq, beq_eq_false_iff_ne, bne_iff_ne, bne_eq_false_iff_eq, Bool.and_eq_true, Bool.or_eq_true, Bool.and_eq_false_iff, Bool.or_eq_false_iff, inB] at g3'
        refine rl_val (gw_some rfl rfl g3) (ov_field fo29_2 rfl) rfl ?_
        first | refine rl_val (gw_some rfl rfl g3) (ov_load 0 sc22 rfl rfl rfl) rfl ?_ | refine rl_val (gw_some rfl rfl g3) (ov_load 0 sc22 rfl rfl (by assumption)) rfl ?_
        refine rl_val (gw_some rfl rfl g3) (ov_len Try.underlying22 rfl) rfl ?_
        refine rl_callv (gw_some rfl rfl g3) goes15 rfl (fun w1 hp => l1In_c _ _ _ _) rfl ?_
        refine rl_val gw_none (ov_pick_t rfl g3 rfl) rfl ?_
        refine rl_val gw_none (ov_assign rfl) rfl ?_
        refine rl_nil ?_
        refine at_then ?_
        refine ct_ret ?_
        refine at_ret1 Try.results14 (ro_tmp rfl) (fun w1 hp => ?_)
        refine ⟨?_, hp.ext0⟩
        first | (rw [frameB_rod hx (by simp_all [rodB])]; done) | (rw [frameB_end (fun j r hj hx => hall j r hj hx)]; first | done | (simp_all; done)) | (rw [frameB_head (by simp_all)]; done)
      ·
        have g3' := g3
        try simp only [Bool.not_eq_true', Bool.not_eq_false', Bool.not_not, decide_eq_true_eq, decide_eq_false_iff_not, beq_iff_eq, beq_eq_false_iff_ne, bne_iff_ne, bne_eq_false_iff_eq, Bool.and_eq_true, Bool.or_eq_true, Bool.and_eq_false_iff, Bool.or_eq_false_iff, inB] at g3'
        refine rl_skip (gw_not rfl rfl g3) rfl ?_
        refine rl_skip (gw_not rfl rfl g3) rfl ?_
        refine rl_skip (gw_not rfl rfl g3) rfl ?_
        refine rl_skip (gw_not rfl rfl g3) rfl ?_
        refine rl_val gw_none (ov_pick_f rfl g3 rfl) rfl ?_
        refine rl_val gw_none (ov_assign rfl) rfl ?_
        refine rl_nil ?_
        refine at_then ?_
        refine ct_ret ?_
        refine at_ret1 Try.results14 (ro_tmp rfl) (fun w1 hp => ?_)
        refine ⟨?_, hp.ext0⟩
        first | (rw [frameB_rod hx (by simp_all [rodB])]; done) | (rw [frameB_end (fun j r hj hx => hall j r hj hx)]; first | done | (simp_all; done)) | (rw [frameB_head (by simp_all)]; done)
    ·
      have g2' := g2
      try simp only [Bool.not_eq_true', Bool.not_eq_false', Bool.not_not, decide_eq_true_eq, decide_eq_false_iff_not, beq_iff_eq, beq_eq_false_iff_ne, bne_iff_ne, bne_eq_false_iff_eq, Bool.and_eq_true, Bool.or_eq_true, Bool.and_eq_false_iff, Bool.or_eq_false_iff, inB] at g2'
      refine rl_skip (gw_not rfl rfl g2) rfl ?_
      refine rl_skip (gw_not rfl rfl g2) rfl ?_
      refine rl_skip (gw_not rfl rfl g2) rfl ?_
      refine rl_val gw_none (ov_pick_f rfl g2 rfl) rfl ?_
      refine rl_val gw_none (ov_move rfl) rfl ?_
      refine rl_skip (gw_not rfl rfl rfl) rfl ?_
      refine rl_skip (gw_not rfl rfl rfl) rfl ?_
      refine rl_skip (gw_not rfl rfl rfl) rfl ?_
      refine rl_skip (gw_not rfl rfl rfl) rfl ?_
      refine rl_val gw_none (ov_pick_f rfl rfl rfl) rfl ?_
      refine rl_val gw_none (ov_assign rfl) rfl ?_
      refine rl_nil ?_
      refine at_then ?_
      refine ct_ret ?_
      refine at_ret1 Try.results14 (ro_tmp rfl) (fun w1 hp => ?_)
      refine ⟨?_, hp.ext0⟩
      first | (rw [frameB_rod hx (by simp_all [rodB])]; done) | (rw [frameB_end (fun j r hj hx => hall j r hj hx)]; first | done | (simp_all; done)) | (rw [frameB_head (by simp_all)]; done)

theorem number_c (u : Int) (l : Int) (xs : List IntA2) (vxs : Value) (w : World) (zu : In64 u) (zl : In64 l) (hGxs : ∀ y ∈ xs, GIntA2 y) (hsxs : SR w 2 vxs xs.length (flat encIntA2 xs)) (hf : frameB u l xs = true) : Calls Try.prog 29 ([.agg (List.toArray (α := Value) [.int .i64 u, .int .i64 l, vxs])]).toArray w (fun e w' => e = .returned (.int .i64 (numF xs)) ∧ Ext w w') := by
  obtain ⟨axs, capxs, rfl, hcapxs, hmaxxs⟩ := hsxs.slice
  have hlenxs := hsxs.len_le
  refine calls_ct Try.func29 Try.ntmps29 rfl rfl ?_
  refine ct_seq ?_
  refine ct_reg ?_
  refine rl_box rfl rfl (fun N1 => ?_)
  refine rl_val gw_none (ov_assign rfl) rfl ?_
  refine rl_nil ?_
  refine at_then ?_
  refine ct_seq ?_
  refine ct_reg ?_
  refine rl_val gw_none (ov_assign rfl) rfl ?_
  refine rl_nil ?_
  refine at_then ?_
  refine ct_seq ?_
  refine ct_seq ?_
  refine ct_reg ?_
  refine rl_val gw_none (ov_field fo29_2 rfl) rfl ?_
  first | refine rl_val gw_none (ov_load 0 sc22 rfl rfl rfl) rfl ?_ | refine rl_val gw_none (ov_load 0 sc22 rfl rfl (by assumption)) rfl ?_
  refine rl_val gw_none (ov_len Try.underlying22 rfl) rfl ?_
  refine rl_val gw_none (ov_move rfl) rfl ?_
  refine rl_nil ?_
  refine at_then ?_
  refine ct_block ?_
  refine ct_loopR (ι := Nat) (fun k => [(3, .int .i64 (numF (xs.take k))), (9, .int .i64 k)]) [(2, _), (7, _), (8, _)] (fun _ => _) (fun k => k ≤ xs.length) (fun k => xs.length - k) (0) (Sub.cons rfl (Sub.cons rfl (Sub.cons rfl Sub.nil))) (fun _ hq => hq) (by (repeat' (first | exact Sub.nil | refine Sub.cons ?_ ?_)); all_goals (first | rfl | exact lkInt rfl (by omega))) (by first | exact True.intro | omega | (dsimp only; omega) | (dsimp only at *; omega)) (fun k hk => ?_)
  have hnb := numF_le hf hk
  refine ct_seq ?_
  refine ct_reg ?_
  refine rl_val gw_none (ov_lss rfl rfl) rfl ?_
  refine rl_nil ?_
  refine at_then ?_
  refine ct_seq ?_
  first | refine ct_dec rfl (fun h1 => ?_) (fun h1 => ?_) | refine ct_ndec rfl (fun h1 => ?_) (fun h1 => ?_) | refine ct_eq rfl (fun h1 => ?_) (fun h1 => ?_) | refine ct_ne rfl (fun h1 => ?_) (fun h1 => ?_) | refine ct_not rfl (fun h1 => ?_) (fun h1 => ?_) | refine ct_cond rfl (fun h1 => ?_) (fun h1 => ?_)
  ·
    have hk2 : k < xs.length := by omega
    obtain ⟨b, o, rfl, hel⟩ := hsxs.elem encIntA2_len (by omega) hk2
    have hx := getLt hk2
    generalize xs[k] = r at *
    have hcx := hel k r hx
    obtain ⟨c0, c1, _⟩ := hel k r hx
    have hrb := frameB_at hf hx
    have hns := numF_snoc hx
    refine ct_skip ?_
    refine at_then ?_
    refine ct_seq ?_
    refine ct_block ?_
    refine ct_seq ?_
    refine ct_reg ?_
    first | refine rl_val gw_none (ov_ix Try.underlying22 sz43 rfl rfl _ rfl (by omega)) rfl ?_ | refine rl_val gw_none (ov_ix Try.underlying22 sz43 rfl rfl (0) (by omega) (by omega)) rfl ?_ | refine rl_val gw_none (ov_ix Try.underlying22 sz43 rfl rfl (1) (by omega) (by omega)) rfl ?_
    first | refine rl_val gw_none (ov_loadaw ag43 rfl rfl (by assumption)) rfl ?_ | refine rl_val gw_none (ov_loadall 0 ag43 rfl rfl rfl) rfl ?_ | refine rl_val gw_none (ov_loadall 1 ag43 rfl rfl rfl) rfl ?_ | refine rl_val gw_none (ov_loadall 2 ag43 rfl rfl rfl) rfl ?_ | refine rl_val gw_none (ov_loadall 3 ag43 rfl rfl rfl) rfl ?_
    refine rl_alloc ze43 rfl (fun N2 => ?_)
    refine rl_store [] sz43 rfl rfl rfl rfl rfl (Nat.le_of_ble_eq_true rfl) ?_
    refine rl_nil ?_
    refine at_then ?_
    refine ct_reg ?_
    refine rl_val gw_none (ov_move rfl) rfl ?_
    refine rl_val gw_none (ov_mul rfl rfl (by omega)) rfl ?_
    first | refine rl_val gw_none (ov_ixa Try.underlying43 sz3 rfl rfl _ rfl (by omega)) rfl ?_ | refine rl_val gw_none (ov_ixa Try.underlying43 sz3 rfl rfl (0) (by omega) (by omega)) rfl ?_ | refine rl_val gw_none (ov_ixa Try.underlying43 sz3 rfl rfl (1) (by omega) (by omega)) rfl ?_
    first | refine rl_val gw_none (ov_load 0 sc3 rfl rfl rfl) rfl ?_ | refine rl_val gw_none (ov_load 0 sc3 rfl rfl (by assumption)) rfl ?_
    refine rl_val gw_none (ov_mul rfl rfl (by omega)) rfl ?_
    refine rl_val gw_none (ov_add rfl rfl (by omega)) rfl ?_
    first | refine rl_val gw_none (ov_ixa Try.underlying43 sz3 rfl rfl _ rfl (by omega)) rfl ?_ | refine rl_val gw_none (ov_ixa Try.underlying43 sz3 rfl rfl (0) (by omega) (by omega)) rfl ?_ | refine rl_val gw_none (ov_ixa Try.underlying43 sz3 rfl rfl (1) (by omega) (by omega)) rfl ?_
    first | refine rl_val gw_none (ov_load 0 sc3 rfl rfl rfl) rfl ?_ | refine rl_val gw_none (ov_load 0 sc3 rfl rfl (by assumption)) rfl ?_
    refine rl_val gw_none (ov_add rfl rfl (by omega)) rfl ?_
    refine rl_val gw_none (ov_assign rfl) rfl ?_
    refine rl_nil ?_
    refine at_block ?_
    refine at_then ?_
    refine ct_reg ?_
    refine rl_val gw_none (ov_add rfl rfl (by omega)) rfl ?_
    refine rl_val gw_none (ov_move rfl) rfl ?_
    refine rl_nil ?_
    exact at_backR (k + 1) (by first | exact True.intro | omega | (dsimp only; omega) | (dsimp only at *; omega)) (by first | exact True.intro | omega | (dsimp only; omega) | (dsimp only at *; omega)) (by (repeat' (first | exact Sub.nil | refine Sub.cons ?_ ?_)); all_goals (first | rfl | exact lkInt rfl (by omega))) (Sub.cons rfl (Sub.cons rfl (Sub.cons rfl Sub.nil))) (fun _ hq => hq.drop)
  ·
    have hke : k = xs.length := by omega
    subst hke
    refine ct_exit ?_
    refine at_then_exit ?_
    refine at_then_exit ?_
    refine at_block_hit ?_
    refine at_then ?_
    refine ct_seq ?_
    refine ct_reg ?_
    refine rl_val gw_none (ov_move rfl) rfl ?_
    refine rl_val gw_none (ov_assign rfl) rfl ?_
    refine rl_nil ?_
    refine at_then ?_
    refine ct_ret ?_
    refine at_ret1 Try.results29 (ro_tmp rfl) (fun w1 hp => ?_)
    refine ⟨?_, hp.ext0⟩
    rw [List.take_length]

theorem szFrame_c (left : Int) (u : Int) (l : Int) (xs : List IntA2) (vxs : Value) (w : World) (zu : In64 u) (zl : In64 l) (hGxs : ∀ y ∈ xs, GIntA2 y) (hsxs : SR w 2 vxs xs.length (flat encIntA2 xs)) (hl : 0 ≤ left ∧ left ≤ 1048576) : Calls Try.prog 4 ([.agg (List.toArray (α := Value) [.int .i64 u, .int .i64 l, vxs]), .int .i64 left]).toArray w (fun e w' => ∃ r : Int, (r < 0 ∨ (0 ≤ r ∧ r ≤ left - xs.length)) ∧ e = .returned (.int .i64 r) ∧ Ext w w') := by
  obtain ⟨axs, capxs, rfl, hcapxs, hmaxxs⟩ := hsxs.slice
  have hlenxs := hsxs.len_le
  refine calls_ct Try.func4 Try.ntmps4 rfl rfl ?_
  refine ct_seq ?_
  refine ct_reg ?_
  refine rl_box rfl rfl (fun N1 => ?_)
  refine rl_val gw_none (ov_assign rfl) rfl ?_
  refine rl_nil ?_
  refine at_then ?_
  refine ct_seq ?_
  refine ct_reg ?_
  refine rl_val gw_none (ov_field fo24_2 rfl) rfl ?_
  first | refine rl_val gw_none (ov_load 0 sc22 rfl rfl rfl) rfl ?_ | refine rl_val gw_none (ov_load 0 sc22 rfl rfl (by assumption)) rfl ?_
  refine rl_val gw_none (ov_move rfl) rfl ?_
  refine rl_callx (ι := Int) (fun r => .int .i64 r) (fun r => r < 0 ∨ (0 ≤ r ∧ r ≤ left - xs.length)) gw_none goes13 rfl (fun w1 hp => szIntA2S_c xs.length left _ _ _ (hsxs.ext hp.ext0) (by omega)) rfl (fun r0 hr0 => ?_)
  refine rl_val gw_none (ov_assign rfl) rfl ?_
  refine rl_nil ?_
  refine at_then ?_
  refine ct_seq ?_
  refine ct_seq ?_
  refine ct_reg ?_
  refine rl_val gw_none (ov_move rfl) rfl ?_
  refine rl_val gw_none (ov_lss rfl rfl) rfl ?_
  refine rl_nil ?_
  refine at_then ?_
  first | refine ct_dec rfl (fun h1 => ?_) (fun h1 => ?_) | refine ct_ndec rfl (fun h1 => ?_) (fun h1 => ?_) | refine ct_eq rfl (fun h1 => ?_) (fun h1 => ?_) | refine ct_ne rfl (fun h1 => ?_) (fun h1 => ?_) | refine ct_not rfl (fun h1 => ?_) (fun h1 => ?_) | refine ct_cond rfl (fun h1 => ?_) (fun h1 => ?_)
  ·
    refine ct_seq ?_
    refine ct_reg ?_
    refine rl_val gw_none (ov_assign rfl) rfl ?_
    refine rl_nil ?_
    refine at_then ?_
    refine ct_ret ?_
    refine at_then_ret ?_
    refine at_ret1 Try.results4 (ro_tmp rfl) (fun w1 hp => ?_)
    exact ⟨_, by omega, rfl, hp.ext0⟩
  ·
    refine ct_skip ?_
    refine at_then ?_
    refine ct_seq ?_
    refine ct_reg ?_
    refine rl_val gw_none (ov_move rfl) rfl ?_
    refine rl_val gw_none (ov_assign rfl) rfl ?_
    refine rl_nil ?_
    refine at_then ?_
    refine ct_ret ?_
    refine at_ret1 Try.results4 (ro_tmp rfl) (fun w1 hp => ?_)
    exact ⟨_, by omega, rfl, hp.ext0⟩

theorem toFrame_c (u : Int) (l : Int) (xs : List IntA2) (vxs : Value) (w : World) (zu : In64 u) (zl : In64 l) (hGxs : ∀ y ∈ xs, GIntA2 y) (hsxs : SR w 2 vxs xs.length (flat encIntA2 xs)) (hbxs : xs.length ≤ 1048576) : Calls Try.prog 6 ([.agg (List.toArray (α := Value) [.int .i64 u, .int .i64 l, vxs])]).toArray w (fun e w' => ∃ q : Nat, True ∧ e = .returned (.agg (List.toArray (α := Value) [.int .i64 u, .int .i64 l, .slice (some ⟨q, 0, none⟩) xs.length xs.length])) ∧ Hp ⟨w, []⟩ [(some q, 43, flat encIntA2 xs)] w') := by
  obtain ⟨axs, capxs, rfl, hcapxs, hmaxxs⟩ := hsxs.slice
  have hlenxs := hsxs.len_le
  refine calls_ct Try.func6 Try.ntmps6 rfl rfl ?_
  refine ct_seq ?_
  refine ct_reg ?_
  refine rl_box rfl rfl (fun N1 => ?_)
  refine rl_alloc ze29 rfl (fun N2 => ?_)
  refine rl_nil ?_
  refine at_then ?_
  refine ct_seq ?_
  refine ct_reg ?_
  refine rl_alloc ze29 rfl (fun N3 => ?_)
  refine rl_nil ?_
  refine at_then ?_
  refine ct_seq ?_
  refine ct_reg ?_
  refine rl_val gw_none (ov_field fo24_0 rfl) rfl ?_
  first | refine rl_val gw_none (ov_load 2 sc3 rfl rfl rfl) rfl ?_ | refine rl_val gw_none (ov_load 2 sc3 rfl rfl (by assumption)) rfl ?_
  refine rl_val gw_none (ov_field fo29_0 rfl) rfl ?_
  refine rl_store [] sz3 rfl rfl rfl rfl rfl (Nat.le_of_ble_eq_true rfl) ?_
  refine rl_nil ?_
  refine at_then ?_
  refine ct_seq ?_
  refine ct_reg ?_
  refine rl_val gw_none (ov_field fo24_1 rfl) rfl ?_
  first | refine rl_val gw_none (ov_load 2 sc3 rfl rfl rfl) rfl ?_ | refine rl_val gw_none (ov_load 2 sc3 rfl rfl (by assumption)) rfl ?_
  refine rl_val gw_none (ov_field fo29_1 rfl) rfl ?_
  refine rl_store [] sz3 rfl rfl rfl rfl rfl (Nat.le_of_ble_eq_true rfl) ?_
  refine rl_nil ?_
  refine at_then ?_
  refine ct_seq ?_
  refine ct_reg ?_
  refine rl_val gw_none (ov_field fo24_2 rfl) rfl ?_
  first | refine rl_val gw_none (ov_load 2 sc22 rfl rfl rfl) rfl ?_ | refine rl_val gw_none (ov_load 2 sc22 rfl rfl (by assumption)) rfl ?_
  refine rl_callnew (fun b => .slice (some ⟨b, 0, none⟩) xs.length xs.length) goes17 rfl (fun w1 hp => toIntA2S_c xs _ _ (hsxs.ext hp.ext0) hbxs) rfl (fun b1 => ?_)
  refine rl_val gw_none (ov_field fo29_2 rfl) rfl ?_
  refine rl_store [_] sz22 rfl rfl rfl rfl rfl (Nat.le_of_ble_eq_true rfl) ?_
  refine rl_nil ?_
  refine at_then ?_
  refine ct_seq ?_
  refine ct_reg ?_
  first | refine rl_val gw_none (ov_loadall 1 ag29 rfl rfl rfl) rfl ?_ | refine rl_val gw_none (ov_loadp 1 ag29 rfl rfl (vs := [_, _, _]) rfl rfl) rfl ?_ | refine rl_val gw_none (ov_loada 1 ag29 rfl rfl rfl (by assumption)) rfl ?_
  refine rl_store [_, _] sz29 rfl rfl rfl rfl rfl (Nat.le_of_ble_eq_true rfl) ?_
  refine rl_nil ?_
  refine at_then ?_
  refine ct_ret ?_
  refine at_ret1 Try.results6 (ro_cell 2 ag29 rfl rfl rfl) (fun w1 hp => ?_)
  exact ⟨b1, trivial, rfl, hp.pick1 0 rfl⟩

theorem eqFrame_c (u : Int) (l : Int) (xs : List IntA2) (vxs : Value) (uxs : Value) (w : World) (hsxs : SR w 2 vxs xs.length (flat encIntA2 xs)) (htxs : SR w 2 uxs xs.length (flat encIntA2 xs)) : Calls Try.prog 9 ([.agg (List.toArray (α := Value) [.int .i64 u, .int .i64 l, vxs]), .agg (List.toArray (α := Value) [.int .i64 u, .int .i64 l, uxs])]).toArray w (fun e w' => e = .returned (.bool true) ∧ Ext w w') := by
  obtain ⟨axs, capxs, rfl, hcapxs, hmaxxs⟩ := hsxs.slice
  obtain ⟨a2xs, cap2xs, rfl, _, _⟩ := htxs.slice
  refine calls_ct Try.func9 Try.ntmps9 rfl rfl ?_
  refine ct_seq ?_
  refine ct_reg ?_
  refine rl_box rfl rfl (fun N1 => ?_)
  refine rl_box rfl rfl (fun N2 => ?_)
  refine rl_val gw_none (ov_assign rfl) rfl ?_
  refine rl_nil ?_
  refine at_then ?_
  refine ct_seq ?_
  refine ct_seq ?_
  refine ct_reg ?_
  refine rl_val gw_none (ov_field fo29_0 rfl) rfl ?_
  first | refine rl_val gw_none (ov_load 1 sc3 rfl rfl rfl) rfl ?_ | refine rl_val gw_none (ov_load 1 sc3 rfl rfl (by assumption)) rfl ?_
  refine rl_val gw_none (ov_field fo29_0 rfl) rfl ?_
  first | refine rl_val gw_none (ov_load 0 sc3 rfl rfl rfl) rfl ?_ | refine rl_val gw_none (ov_load 0 sc3 rfl rfl (by assumption)) rfl ?_
  refine rl_val gw_none (ov_neq rfl rfl) rfl ?_
  refine rl_nil ?_
  refine at_then ?_
  first | refine ct_dec rfl (fun h1 => ?_) (fun h1 => ?_) | refine ct_ndec rfl (fun h1 => ?_) (fun h1 => ?_) | refine ct_eq rfl (fun h1 => ?_) (fun h1 => ?_) | refine ct_ne rfl (fun h1 => ?_) (fun h1 => ?_) | refine ct_not rfl (fun h1 => ?_) (fun h1 => ?_) | refine ct_cond rfl (fun h1 => ?_) (fun h1 => ?_)
  ·
    exfalso; first | omega | exact absurd rfl h1 | (simp at h1; done) | (simp_all; done)
  ·
    refine ct_skip ?_
    refine at_then ?_
    refine ct_seq ?_
    refine ct_seq ?_
    refine ct_reg ?_
    refine rl_val gw_none (ov_field fo29_1 rfl) rfl ?_
    first | refine rl_val gw_none (ov_load 1 sc3 rfl rfl rfl) rfl ?_ | refine rl_val gw_none (ov_load 1 sc3 rfl rfl (by assumption)) rfl ?_
    refine rl_val gw_none (ov_field fo29_1 rfl) rfl ?_
    first | refine rl_val gw_none (ov_load 0 sc3 rfl rfl rfl) rfl ?_ | refine rl_val gw_none (ov_load 0 sc3 rfl rfl (by assumption)) rfl ?_
    refine rl_val gw_none (ov_neq rfl rfl) rfl ?_
    refine rl_nil ?_
    refine at_then ?_
    first | refine ct_dec rfl (fun h2 => ?_) (fun h2 => ?_) | refine ct_ndec rfl (fun h2 => ?_) (fun h2 => ?_) | refine ct_eq rfl (fun h2 => ?_) (fun h2 => ?_) | refine ct_ne rfl (fun h2 => ?_) (fun h2 => ?_) | refine ct_not rfl (fun h2 => ?_) (fun h2 => ?_) | refine ct_cond rfl (fun h2 => ?_) (fun h2 => ?_)
    ·
      exfalso; first | omega | exact absurd rfl h2 | (simp at h2; done) | (simp_all; done)
    ·
      refine ct_skip ?_
      refine at_then ?_
      refine ct_seq ?_
      refine ct_seq ?_
      refine ct_reg ?_
      refine rl_val gw_none (ov_field fo29_2 rfl) rfl ?_
      first | refine rl_val gw_none (ov_load 1 sc22 rfl rfl rfl) rfl ?_ | refine rl_val gw_none (ov_load 1 sc22 rfl rfl (by assumption)) rfl ?_
      refine rl_val gw_none (ov_field fo29_2 rfl) rfl ?_
      first | refine rl_val gw_none (ov_load 0 sc22 rfl rfl rfl) rfl ?_ | refine rl_val gw_none (ov_load 0 sc22 rfl rfl (by assumption)) rfl ?_
      refine rl_callv gw_none goes21 rfl (fun w1 hp => eqIntA2S_c xs _ _ _ (hsxs.ext hp.ext0) (htxs.ext hp.ext0)) rfl ?_
      refine rl_val gw_none (ov_not rfl) rfl ?_
      refine rl_nil ?_
      refine at_then ?_
      refine ct_false rfl rfl ?_
      refine ct_skip ?_
      refine at_then ?_
      refine ct_seq ?_
      refine ct_reg ?_
      refine rl_val gw_none (ov_assign rfl) rfl ?_
      refine rl_nil ?_
      refine at_then ?_
      refine ct_ret ?_
      refine at_ret1 Try.results9 (ro_tmp rfl) (fun w1 hp => ?_)
      exact ⟨rfl, hp.ext0⟩

theorem markFrame_s (u : Int) (l : Int) (k0 : Int) (b len cap : Nat) (L : List Value) (w : World) (hh : w.heap[b]? = some (.cells L.toArray 43 (0, 0))) (hL : 2 * len ≤ L.length) (hk0 : 0 ≤ k0 ∧ k0 ≤ 1000000000000 ∧ len ≤ 1000000000000) : Calls Try.prog 10 ([.agg (List.toArray (α := Value) [.int .i64 u, .int .i64 l, .slice (some ⟨b, 0, none⟩) len cap]), .int .i64 k0]).toArray w (fun e w' => e = .returned (.int .i64 (k0 + 2 * (len : Nat))) ∧ Turn w w' b ∧ w'.heap[b]? = some (.cells (ints (marks k0 (2 * len)) ++ L.drop (2 * len)).toArray 43 (0, 0))) := by
  refine calls_ctd hh Try.func10 Try.ntmps10 rfl rfl ?_
  refine ct_seq ?_
  refine ct_reg ?_
  refine rl_box rfl rfl (fun N1 => ?_)
  refine rl_val gw_none (ov_assign rfl) rfl ?_
  refine rl_nil ?_
  refine at_then ?_
  refine ct_seq ?_
  refine ct_reg ?_
  refine rl_val gw_none (ov_field fo29_2 rfl) rfl ?_
  first | refine rl_val gw_none (ov_load 0 sc22 rfl rfl rfl) rfl ?_ | refine rl_val gw_none (ov_load 0 sc22 rfl rfl (by assumption)) rfl ?_
  refine rl_val gw_none (ov_move rfl) rfl ?_
  refine rl_callw [_] goes22 rfl rfl (fun w1 hp => markIntA2S_s _ _ _ _ _ _ (hp.at (i := 1) rfl) hL hk0) rfl ?_
  refine rl_val gw_none (ov_assign rfl) rfl ?_
  refine rl_nil ?_
  refine at_then ?_
  refine ct_seq ?_
  refine ct_reg ?_
  refine rl_val gw_none (ov_move rfl) rfl ?_
  refine rl_val gw_none (ov_assign rfl) rfl ?_
  refine rl_nil ?_
  refine at_then ?_
  refine ct_ret ?_
  refine at_ret1 Try.results10 (ro_tmp rfl) (fun w1 hp => ?_)
  exact ⟨rfl, hp.turn0, hp.at (i := 1) rfl⟩

theorem markFrame_n (u : Int) (l : Int) (k0 : Int) (w : World) : Calls Try.prog 10 ([.agg (List.toArray (α := Value) [.int .i64 u, .int .i64 l, .slice none 0 0]), .int .i64 k0]).toArray w (fun e w' => e = .returned (.int .i64 k0) ∧ Ext w w') := by
  refine calls_ct Try.func10 Try.ntmps10 rfl rfl ?_
  refine ct_seq ?_
  refine ct_reg ?_
  refine rl_box rfl rfl (fun N1 => ?_)
  refine rl_val gw_none (ov_assign rfl) rfl ?_
  refine rl_nil ?_
  refine at_then ?_
  refine ct_seq ?_
  refine ct_reg ?_
  refine rl_val gw_none (ov_field fo29_2 rfl) rfl ?_
  first | refine rl_val gw_none (ov_load 0 sc22 rfl rfl rfl) rfl ?_ | refine rl_val gw_none (ov_load 0 sc22 rfl rfl (by assumption)) rfl ?_
  refine rl_val gw_none (ov_move rfl) rfl ?_
  refine rl_callv gw_none goes22 rfl (fun w1 hp => markIntA2S_n _ _) rfl ?_
  refine rl_val gw_none (ov_assign rfl) rfl ?_
  refine rl_nil ?_
  refine at_then ?_
  refine ct_seq ?_
  refine ct_reg ?_
  refine rl_val gw_none (ov_move rfl) rfl ?_
  refine rl_val gw_none (ov_assign rfl) rfl ?_
  refine rl_nil ?_
  refine at_then ?_
  refine ct_ret ?_
  refine at_ret1 Try.results10 (ro_tmp rfl) (fun w1 hp => ?_)
  exact ⟨rfl, hp.ext0⟩

theorem markFrame_m (u : Int) (l : Int) (k0 : Int) (b len cap : Nat) (L : List Value) (w : World) (hh : w.heap[b]? = some (.cells L.toArray 43 (0, 0))) (hL : L.length = len * 2) (hk0 : 0 ≤ k0 ∧ k0 ≤ 1000000000000 ∧ len ≤ 1000000000000) :
    Calls Try.prog 10 [.agg (List.toArray (α := Value) [.int .i64 u, .int .i64 l, .slice (some ⟨b, 0, none⟩) len cap]), .int .i64 k0].toArray w (fun e w' => e = .returned (.int .i64 (k0 + 2 * (len : Nat))) ∧ Turn w w' b) :=
  (markFrame_s u l k0 b len cap L w hh (by rw [hL, Nat.mul_comm]; exact Nat.le_refl _) hk0).mono fun e w' ⟨he, ht, _⟩ => ⟨he, ht⟩

theorem markFrame_o (u : Int) (l : Int) (k0 : Int) {bo : Option Nat} {len cap : Nat} {xs pad : List Value} (hsl : Sl 2 bo len cap xs pad) (w : World) (hh : ∀ b, bo = some b → w.heap[b]? = some (.cells (xs ++ pad).toArray 43 (0, 0))) (hk0 : 0 ≤ k0 ∧ k0 ≤ 1000000000000 ∧ len ≤ 1000000000000) :
    Calls Try.prog 10 [.agg (List.toArray (α := Value) [.int .i64 u, .int .i64 l, sv bo len cap]), .int .i64 k0].toArray w (fun e w' => e = .returned (.int .i64 (k0 + 2 * (len : Nat))) ∧ Wrote bo 43 (ints (marks k0 (2 * len)) ++ (xs ++ pad).drop (2 * len)) w w') := by
  cases bo with
  | none =>
    obtain ⟨rfl, rfl⟩ := hsl.nil rfl
    have hnil : xs ++ pad = [] := List.length_eq_zero_iff.1 (by rw [hsl.lp, Nat.zero_mul])
    refine (markFrame_n u l k0 w).mono fun e w' ⟨he, hx⟩ => ⟨by rw [he]; simp, ?_, hx⟩
    rw [hnil]; simp [marks, ints]
  | some b =>
    have hle := hsl.le
    have := Nat.mul_le_mul_right 2 hle
    exact (markFrame_s u l k0 b len cap (xs ++ pad) w (hh b rfl) (by rw [hsl.lp]; omega) hk0).mono fun e w' ⟨he, ht, hc⟩ => ⟨he, ht, hc⟩
end Go.Proofs.Ytjhlhkglpecdbaa
