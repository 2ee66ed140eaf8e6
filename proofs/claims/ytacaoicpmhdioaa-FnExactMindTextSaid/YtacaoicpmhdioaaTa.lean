import Derived.Test.YtacaoicpmhdioaaFa
import Derived.Test.YtacaoicpmhdioaaSa
import Derived.KernelRfl
set_option linter.unusedVariables false
set_option linter.unusedSimpArgs false
namespace Go.Proofs.Ytacaoicpmhdioaa
open Go Go.RowKit K
theorem within_c (n lo hi : Int) (w : World) : Calls Try.prog 60 ([.int .i64 n, .int .i64 lo, .int .i64 hi]).toArray w (fun e w' => e = .returned (.bool (inB n lo hi)) ∧ Ext w w') := by
  refine calls_ct Try.func60 Try.ntmps60 rfl rfl ?_
  refine ct_seq ?_
  refine ct_reg ?_
  refine rl_val gw_none (ov_assign rfl) rfl ?_
  refine rl_nil ?_
  refine at_then ?_
  refine ct_seq ?_
  refine ct_reg ?_
  refine rl_val gw_none (ov_move rfl) rfl ?_
  refine rl_val gw_none (ov_move rfl) rfl ?_
  refine rl_val gw_none (ov_leq rfl rfl) rfl ?_
  refine rl_val gw_none (ov_move rfl) rfl ?_
  refine rl_split (t := 10) rfl (fun g1 => ?_) (fun g1 => ?_)
  ·
    have g1' := g1
    try simp only [Bool.not_eq_true', Bool.not_eq_false', Bool.not_not, decide_eq_true_eq, decide_eq_false_iff_not, beq_iff_eq, beq_eq_false_iff_ne, bne_iff_ne, bne_eq_false_iff_eq, Bool.and_eq_true, Bool.or_eq_true, Bool.and_eq_false_iff, Bool.or_eq_false_iff, inB] at g1'
    refine rl_val (gw_some rfl rfl g1) (ov_move rfl) rfl ?_
    refine rl_val (gw_some rfl rfl g1) (ov_move rfl) rfl ?_
    refine rl_val (gw_some rfl rfl g1) (ov_leq rfl rfl) rfl ?_
    refine rl_val gw_none (ov_pick_t rfl g1 rfl) rfl ?_
    refine rl_val gw_none (ov_assign rfl) rfl ?_
    refine rl_nil ?_
    refine at_then ?_
    refine ct_ret ?_
    refine at_ret1 Try.results60 (ro_tmp rfl) (fun w1 hp => ?_)
    refine ⟨?_, hp.ext0⟩
    first | rfl | (simp_all [inB]; done) | (simp_all [inB]; omega)
  ·
    have g1' := g1
    try simp only [Bool.not_eq_true', Bool.not_eq_false', Bool.not_not, decide_eq_true_eq, decide_eq_false_iff_not, beq_iff_eq, beq_eq_false_iff_ne, bne_iff_ne, bne_eq_false_iff_eq, Bool.and_eq_true, Bool.or_eq_true, Bool.and_eq_false_iff, Bool.or_eq_false_iff, inB] at g1'
    refine rl_skip (gw_not rfl rfl g1) rfl ?_
    refine rl_skip (gw_not rfl rfl g1) rfl ?_
    refine rl_skip (gw_not rfl rfl g1) rfl ?_
    refine rl_val gw_none (ov_pick_f rfl g1 rfl) rfl ?_
    refine rl_val gw_none (ov_assign rfl) rfl ?_
    refine rl_nil ?_
    refine at_then ?_
    refine ct_ret ?_
    refine at_ret1 Try.results60 (ro_tmp rfl) (fun w1 hp => ?_)
    refine ⟨?_, hp.ext0⟩
    first | rfl | (simp_all [inB]; done) | (simp_all [inB]; omega)

theorem l1In_c (n lo hi : Int) (w : World) : Calls Try.prog 81 ([.int .i64 n, .int .i64 lo, .int .i64 hi]).toArray w (fun e w' => e = .returned (.bool (inB n lo hi)) ∧ Ext w w') := by
  refine calls_ct Try.func81 Try.ntmps81 rfl rfl ?_
  refine ct_seq ?_
  refine ct_reg ?_
  refine rl_val gw_none (ov_assign rfl) rfl ?_
  refine rl_nil ?_
  refine at_then ?_
  refine ct_seq ?_
  refine ct_reg ?_
  refine rl_val gw_none (ov_move rfl) rfl ?_
  refine rl_val gw_none (ov_move rfl) rfl ?_
  refine rl_val gw_none (ov_geq rfl rfl) rfl ?_
  refine rl_val gw_none (ov_move rfl) rfl ?_
  refine rl_split (t := 10) rfl (fun g1 => ?_) (fun g1 => ?_)
  ·
    have g1' := g1
    try simp only [Bool.not_eq_true', Bool.not_eq_false', Bool.not_not, decide_eq_true_eq, decide_eq_false_iff_not, beq_iff_eq, beq_eq_false_iff_ne, bne_iff_ne, bne_eq_false_iff_eq, Bool.and_eq_true, Bool.or_eq_true, Bool.and_eq_false_iff, Bool.or_eq_false_iff, inB] at g1'
    refine rl_val (gw_some rfl rfl g1) (ov_move rfl) rfl ?_
    refine rl_val (gw_some rfl rfl g1) (ov_move rfl) rfl ?_
    refine rl_val (gw_some rfl rfl g1) (ov_leq rfl rfl) rfl ?_
    refine rl_val gw_none (ov_pick_t rfl g1 rfl) rfl ?_
    refine rl_val gw_none (ov_assign rfl) rfl ?_
    refine rl_nil ?_
    refine at_then ?_
    refine ct_ret ?_
    refine at_ret1 Try.results81 (ro_tmp rfl) (fun w1 hp => ?_)
    refine ⟨?_, hp.ext0⟩
    first | rfl | (simp_all [inB]; done) | (simp_all [inB]; omega)
  ·
    have g1' := g1
    try simp only [Bool.not_eq_true', Bool.not_eq_false', Bool.not_not, decide_eq_true_eq, decide_eq_false_iff_not, beq_iff_eq, beq_eq_false_iff_ne, bne_iff_ne, bne_eq_false_iff_eq, Bool.and_eq_true, Bool.or_eq_true, Bool.and_eq_false_iff, Bool.or_eq_false_iff, inB] at g1'
    refine rl_skip (gw_not rfl rfl g1) rfl ?_
    refine rl_skip (gw_not rfl rfl g1) rfl ?_
    refine rl_skip (gw_not rfl rfl g1) rfl ?_
    refine rl_val gw_none (ov_pick_f rfl g1 rfl) rfl ?_
    refine rl_val gw_none (ov_assign rfl) rfl ?_
    refine rl_nil ?_
    refine at_then ?_
    refine ct_ret ?_
    refine at_ret1 Try.results81 (ro_tmp rfl) (fun w1 hp => ?_)
    refine ⟨?_, hp.ext0⟩
    first | rfl | (simp_all [inB]; done) | (simp_all [inB]; omega)

theorem isDay_c (n : Int) (w : World) : Calls Try.prog 52 ([.int .i64 n]).toArray w (fun e w' => e = .returned (.bool (inB n 0 4000)) ∧ Ext w w') := by
  refine calls_ct Try.func52 Try.ntmps52 rfl rfl ?_
  refine ct_seq ?_
  refine ct_reg ?_
  refine rl_val gw_none (ov_assign rfl) rfl ?_
  refine rl_nil ?_
  refine at_then ?_
  refine ct_seq ?_
  refine ct_reg ?_
  refine rl_val gw_none (ov_move rfl) rfl ?_
  refine rl_callv gw_none goes60 rfl (fun w1 hp => within_c _ _ _ _) rfl ?_
  refine rl_val gw_none (ov_assign rfl) rfl ?_
  refine rl_nil ?_
  refine at_then ?_
  refine ct_ret ?_
  refine at_ret1 Try.results52 (ro_tmp rfl) (fun w1 hp => ?_)
  exact ⟨rfl, hp.ext0⟩

theorem l2Day_c (n : Int) (w : World) : Calls Try.prog 51 ([.int .i64 n]).toArray w (fun e w' => e = .returned (.bool (inB n 0 4000)) ∧ Ext w w') := by
  refine calls_ct Try.func51 Try.ntmps51 rfl rfl ?_
  refine ct_seq ?_
  refine ct_reg ?_
  refine rl_val gw_none (ov_assign rfl) rfl ?_
  refine rl_nil ?_
  refine at_then ?_
  refine ct_seq ?_
  refine ct_reg ?_
  refine rl_val gw_none (ov_move rfl) rfl ?_
  refine rl_callv gw_none goes81 rfl (fun w1 hp => l1In_c _ _ _ _) rfl ?_
  refine rl_val gw_none (ov_assign rfl) rfl ?_
  refine rl_nil ?_
  refine at_then ?_
  refine ct_ret ?_
  refine at_ret1 Try.results51 (ro_tmp rfl) (fun w1 hp => ?_)
  exact ⟨rfl, hp.ext0⟩

theorem isCount_c (n : Int) (w : World) : Calls Try.prog 59 ([.int .i64 n]).toArray w (fun e w' => e = .returned (.bool (inB n 0 9999)) ∧ Ext w w') := by
  refine calls_ct Try.func59 Try.ntmps59 rfl rfl ?_
  refine ct_seq ?_
  refine ct_reg ?_
  refine rl_val gw_none (ov_assign rfl) rfl ?_
  refine rl_nil ?_
  refine at_then ?_
  refine ct_seq ?_
  refine ct_reg ?_
  refine rl_val gw_none (ov_move rfl) rfl ?_
  refine rl_callv gw_none goes60 rfl (fun w1 hp => within_c _ _ _ _) rfl ?_
  refine rl_val gw_none (ov_assign rfl) rfl ?_
  refine rl_nil ?_
  refine at_then ?_
  refine ct_ret ?_
  refine at_ret1 Try.results59 (ro_tmp rfl) (fun w1 hp => ?_)
  exact ⟨rfl, hp.ext0⟩

theorem toStudent_c (x : Student) (w : World) : Calls Try.prog 83 ([.agg (encStudent x).toArray]).toArray w (fun e w' => e = .returned (.agg (encStudent x).toArray) ∧ Ext w w') := by
  refine calls_ct Try.func83 Try.ntmps83 rfl rfl ?_
  refine ct_seq ?_
  refine ct_reg ?_
  refine rl_box rfl rfl (fun N1 => ?_)
  refine rl_alloc ze69 rfl (fun N2 => ?_)
  refine rl_nil ?_
  refine at_then ?_
  refine ct_seq ?_
  refine ct_reg ?_
  refine rl_alloc ze69 rfl (fun N3 => ?_)
  refine rl_nil ?_
  refine at_then ?_
  refine ct_seq ?_
  refine ct_reg ?_
  refine rl_val gw_none (ov_field fo89_0 rfl) rfl ?_
  first | refine rl_val gw_none (ov_load 2 sc3 rfl rfl rfl) rfl ?_ | refine rl_val gw_none (ov_load 2 sc3 rfl rfl (by assumption)) rfl ?_
  refine rl_val gw_none (ov_field fo69_0 rfl) rfl ?_
  refine rl_store [] sz3 rfl rfl rfl rfl rfl (Nat.le_of_ble_eq_true rfl) ?_
  refine rl_nil ?_
  refine at_then ?_
  refine ct_seq ?_
  refine ct_reg ?_
  refine rl_val gw_none (ov_field fo89_1 rfl) rfl ?_
  first | refine rl_val gw_none (ov_load 2 sc3 rfl rfl rfl) rfl ?_ | refine rl_val gw_none (ov_load 2 sc3 rfl rfl (by assumption)) rfl ?_
  refine rl_val gw_none (ov_field fo69_1 rfl) rfl ?_
  refine rl_store [] sz3 rfl rfl rfl rfl rfl (Nat.le_of_ble_eq_true rfl) ?_
  refine rl_nil ?_
  refine at_then ?_
  refine ct_seq ?_
  refine ct_reg ?_
  refine rl_val gw_none (ov_field fo89_2 rfl) rfl ?_
  first | refine rl_val gw_none (ov_load 2 sc3 rfl rfl rfl) rfl ?_ | refine rl_val gw_none (ov_load 2 sc3 rfl rfl (by assumption)) rfl ?_
  refine rl_val gw_none (ov_field fo69_2 rfl) rfl ?_
  refine rl_store [] sz3 rfl rfl rfl rfl rfl (Nat.le_of_ble_eq_true rfl) ?_
  refine rl_nil ?_
  refine at_then ?_
  refine ct_seq ?_
  refine ct_reg ?_
  refine rl_val gw_none (ov_field fo89_3 rfl) rfl ?_
  first | refine rl_val gw_none (ov_load 2 sc3 rfl rfl rfl) rfl ?_ | refine rl_val gw_none (ov_load 2 sc3 rfl rfl (by assumption)) rfl ?_
  refine rl_val gw_none (ov_field fo69_3 rfl) rfl ?_
  refine rl_store [] sz3 rfl rfl rfl rfl rfl (Nat.le_of_ble_eq_true rfl) ?_
  refine rl_nil ?_
  refine at_then ?_
  refine ct_seq ?_
  refine ct_reg ?_
  refine rl_val gw_none (ov_field fo89_4 rfl) rfl ?_
  first | refine rl_val gw_none (ov_load 2 sc3 rfl rfl rfl) rfl ?_ | refine rl_val gw_none (ov_load 2 sc3 rfl rfl (by assumption)) rfl ?_
  refine rl_val gw_none (ov_field fo69_4 rfl) rfl ?_
  refine rl_store [] sz3 rfl rfl rfl rfl rfl (Nat.le_of_ble_eq_true rfl) ?_
  refine rl_nil ?_
  refine at_then ?_
  refine ct_seq ?_
  refine ct_reg ?_
  first | refine rl_val gw_none (ov_loadall 0 ag69 rfl rfl rfl) rfl ?_ | refine rl_val gw_none (ov_loadp 0 ag69 rfl rfl (vs := [_, _, _, _, _]) rfl rfl) rfl ?_ | refine rl_val gw_none (ov_loada 0 ag69 rfl rfl rfl (by assumption)) rfl ?_
  refine rl_store [_] sz69 rfl rfl rfl rfl rfl (Nat.le_of_ble_eq_true rfl) ?_
  refine rl_nil ?_
  refine at_then ?_
  refine ct_ret ?_
  refine at_ret1 Try.results83 (ro_cell 1 ag69 rfl rfl rfl) (fun w1 hp => ?_)
  exact ⟨rfl, hp.ext0⟩

theorem eqStudent_c (x : Student) (w : World) : Calls Try.prog 82 ([.agg (encStudent x).toArray, .agg (encStudent x).toArray]).toArray w (fun e w' => e = .returned (.bool true) ∧ Ext w w') := by
  refine calls_ct Try.func82 Try.ntmps82 rfl rfl ?_
  refine ct_seq ?_
  refine ct_reg ?_
  refine rl_box rfl rfl (fun N1 => ?_)
  refine rl_box rfl rfl (fun N2 => ?_)
  refine rl_val gw_none (ov_assign rfl) rfl ?_
  refine rl_nil ?_
  refine at_then ?_
  refine ct_seq ?_
  refine ct_seq ?_
  refine ct_reg ?_
  refine rl_val gw_none (ov_field fo69_0 rfl) rfl ?_
  first | refine rl_val gw_none (ov_load 1 sc3 rfl rfl rfl) rfl ?_ | refine rl_val gw_none (ov_load 1 sc3 rfl rfl (by assumption)) rfl ?_
  refine rl_val gw_none (ov_field fo69_0 rfl) rfl ?_
  first | refine rl_val gw_none (ov_load 0 sc3 rfl rfl rfl) rfl ?_ | refine rl_val gw_none (ov_load 0 sc3 rfl rfl (by assumption)) rfl ?_
  refine rl_val gw_none (ov_neq rfl rfl) rfl ?_
  refine rl_nil ?_
  refine at_then ?_
  first | refine ct_dec rfl (fun h1 => ?_) (fun h1 => ?_) | refine ct_ndec rfl (fun h1 => ?_) (fun h1 => ?_) | refine ct_eq rfl (fun h1 => ?_) (fun h1 => ?_) | refine ct_ne rfl (fun h1 => ?_) (fun h1 => ?_) | refine ct_not rfl (fun h1 => ?_) (fun h1 => ?_) | refine ct_cond rfl (fun h1 => ?_) (fun h1 => ?_)
  ·
    first | exact absurd rfl h1 | (simp at h1; done)
  ·
    refine ct_skip ?_
    refine at_then ?_
    refine ct_seq ?_
    refine ct_seq ?_
    refine ct_reg ?_
    refine rl_val gw_none (ov_field fo69_1 rfl) rfl ?_
    first | refine rl_val gw_none (ov_load 1 sc3 rfl rfl rfl) rfl ?_ | refine rl_val gw_none (ov_load 1 sc3 rfl rfl (by assumption)) rfl ?_
    refine rl_val gw_none (ov_field fo69_1 rfl) rfl ?_
    first | refine rl_val gw_none (ov_load 0 sc3 rfl rfl rfl) rfl ?_ | refine rl_val gw_none (ov_load 0 sc3 rfl rfl (by assumption)) rfl ?_
    refine rl_val gw_none (ov_neq rfl rfl) rfl ?_
    refine rl_nil ?_
    refine at_then ?_
    first | refine ct_dec rfl (fun h2 => ?_) (fun h2 => ?_) | refine ct_ndec rfl (fun h2 => ?_) (fun h2 => ?_) | refine ct_eq rfl (fun h2 => ?_) (fun h2 => ?_) | refine ct_ne rfl (fun h2 => ?_) (fun h2 => ?_) | refine ct_not rfl (fun h2 => ?_) (fun h2 => ?_) | refine ct_cond rfl (fun h2 => ?_) (fun h2 => ?_)
    ·
      first | exact absurd rfl h2 | (simp at h2; done)
    ·
      refine ct_skip ?_
      refine at_then ?_
      refine ct_seq ?_
      refine ct_seq ?_
      refine ct_reg ?_
      refine rl_val gw_none (ov_field fo69_2 rfl) rfl ?_
      first | refine rl_val gw_none (ov_load 1 sc3 rfl rfl rfl) rfl ?_ | refine rl_val gw_none (ov_load 1 sc3 rfl rfl (by assumption)) rfl ?_
      refine rl_val gw_none (ov_field fo69_2 rfl) rfl ?_
      first | refine rl_val gw_none (ov_load 0 sc3 rfl rfl rfl) rfl ?_ | refine rl_val gw_none (ov_load 0 sc3 rfl rfl (by assumption)) rfl ?_
      refine rl_val gw_none (ov_neq rfl rfl) rfl ?_
      refine rl_nil ?_
      refine at_then ?_
      first | refine ct_dec rfl (fun h3 => ?_) (fun h3 => ?_) | refine ct_ndec rfl (fun h3 => ?_) (fun h3 => ?_) | refine ct_eq rfl (fun h3 => ?_) (fun h3 => ?_) | refine ct_ne rfl (fun h3 => ?_) (fun h3 => ?_) | refine ct_not rfl (fun h3 => ?_) (fun h3 => ?_) | refine ct_cond rfl (fun h3 => ?_) (fun h3 => ?_)
      ·
        first | exact absurd rfl h3 | (simp at h3; done)
      ·
        refine ct_skip ?_
        refine at_then ?_
        refine ct_seq ?_
        refine ct_seq ?_
        refine ct_reg ?_
        refine rl_val gw_none (ov_field fo69_3 rfl) rfl ?_
        first | refine rl_val gw_none (ov_load 1 sc3 rfl rfl rfl) rfl ?_ | refine rl_val gw_none (ov_load 1 sc3 rfl rfl (by assumption)) rfl ?_
        refine rl_val gw_none (ov_field fo69_3 rfl) rfl ?_
        first | refine rl_val gw_none (ov_load 0 sc3 rfl rfl rfl) rfl ?_ | refine rl_val gw_none (ov_load 0 sc3 rfl rfl (by assumption)) rfl ?_
        refine rl_val gw_none (ov_neq rfl rfl) rfl ?_
        refine rl_nil ?_
        refine at_then ?_
        first | refine ct_dec rfl (fun h4 => ?_) (fun h4 => ?_) | refine ct_ndec rfl (fun h4 => ?_) (fun h4 => ?_) | refine ct_eq rfl (fun h4 => ?_) (fun h4 => ?_) | refine ct_ne rfl (fun h4 => ?_) (fun h4 => ?_) | refine ct_not rfl (fun h4 => ?_) (fun h4 => ?_) | refine ct_cond rfl (fun h4 => ?_) (fun h4 => ?_)
        ·
          first | exact absurd rfl h4 | (simp at h4; done)
        ·
          refine ct_skip ?_
          refine at_then ?_
          refine ct_seq ?_
          refine ct_seq ?_
          refine ct_reg ?_
          refine rl_val gw_none (ov_field fo69_4 rfl) rfl ?_
          first | refine rl_val gw_none (ov_load 1 sc3 rfl rfl rfl) rfl ?_ | refine rl_val gw_none (ov_load 1 sc3 rfl rfl (by assumption)) rfl ?_
          refine rl_val gw_none (ov_field fo69_4 rfl) rfl ?_
          first | refine rl_val gw_none (ov_load 0 sc3 rfl rfl rfl) rfl ?_ | refine rl_val gw_none (ov_load 0 sc3 rfl rfl (by assumption)) rfl ?_
          refine rl_val gw_none (ov_neq rfl rfl) rfl ?_
          refine rl_nil ?_
          refine at_then ?_
          first | refine ct_dec rfl (fun h5 => ?_) (fun h5 => ?_) | refine ct_ndec rfl (fun h5 => ?_) (fun h5 => ?_) | refine ct_eq rfl (fun h5 => ?_) (fun h5 => ?_) | refine ct_ne rfl (fun h5 => ?_) (fun h5 => ?_) | refine ct_not rfl (fun h5 => ?_) (fun h5 => ?_) | refine ct_cond rfl (fun h5 => ?_) (fun h5 => ?_)
          ·
            first | exact absurd rfl h5 | (simp at h5; done)
          ·
            refine ct_skip ?_
            refine at_then ?_
            refine ct_seq ?_
            refine ct_reg ?_
            refine rl_val gw_none (ov_assign rfl) rfl ?_
            refine rl_nil ?_
            refine at_then ?_
            refine ct_ret ?_
            refine at_ret1 Try.results82 (ro_tmp rfl) (fun w1 hp => ?_)
            exact ⟨rfl, hp.ext0⟩

theorem toStudentS_c (xs : List Student) (v : Value) (w : World) (hsr : SR w 5 v xs.length (flat encStudent xs)) (hn : xs.length ≤ 1048576) : Calls Try.prog 58 ([v]).toArray w (fun e w' => ∃ b, e = .returned (.slice (some ⟨b, 0, none⟩) xs.length xs.length) ∧ New w w' b 69 (flat encStudent xs)) := by
  obtain ⟨a, cap, rfl, hcap, hmax⟩ := hsr.slice
  refine calls_ct Try.func58 Try.ntmps58 rfl rfl ?_
  refine ct_seq ?_
  refine ct_reg ?_
  refine rl_val gw_none (ov_assign rfl) rfl ?_
  refine rl_nil ?_
  refine at_then ?_
  refine ct_seq ?_
  refine ct_reg ?_
  refine rl_val gw_none (ov_move rfl) rfl ?_
  refine rl_val gw_none (ov_len Try.underlying30 rfl) rfl ?_
  refine rl_make Try.underlying22 ze69 sz69 by69 rfl rfl (by omega) (by unfold maxLen; omega) rfl (fun N1 => ?_)
  refine rl_val gw_none (ov_assign rfl) rfl ?_
  refine rl_nil ?_
  refine at_then ?_
  refine ct_seq ?_
  refine ct_seq ?_
  refine ct_reg ?_
  refine rl_val gw_none (ov_assign rfl) rfl ?_
  refine rl_nil ?_
  refine at_then ?_
  refine ct_block ?_
  refine ct_loopR (ι := Nat) (fun k => [(4, .int .i64 k)]) [(0, _), (2, _), (3, _)] (fun k => [(some N1, 69, fill encStudent [.int .i64 0, .int .i64 0, .int .i64 0, .int .i64 0, .int .i64 0] xs k)]) (fun k => k ≤ xs.length) (fun k => xs.length - k) (0) (Sub.cons rfl (Sub.cons rfl (Sub.cons rfl Sub.nil))) (fun w1 hq => hq.cong (by rw [fill_0])) (by (repeat' (first | exact Sub.nil | refine Sub.cons ?_ ?_)); all_goals (first | rfl | exact lkInt rfl (by omega))) (by first | exact True.intro | omega | (dsimp only; omega) | (dsimp only at *; omega)) (fun k hk => ?_)
  refine ct_seq ?_
  refine ct_seq ?_
  refine ct_reg ?_
  refine rl_val gw_none (ov_move rfl) rfl ?_
  refine rl_val gw_none (ov_move rfl) rfl ?_
  refine rl_val gw_none (ov_len Try.underlying30 rfl) rfl ?_
  refine rl_val gw_none (ov_lss rfl rfl) rfl ?_
  refine rl_nil ?_
  refine at_then ?_
  first | refine ct_dec rfl (fun h1 => ?_) (fun h1 => ?_) | refine ct_ndec rfl (fun h1 => ?_) (fun h1 => ?_) | refine ct_eq rfl (fun h1 => ?_) (fun h1 => ?_) | refine ct_ne rfl (fun h1 => ?_) (fun h1 => ?_) | refine ct_not rfl (fun h1 => ?_) (fun h1 => ?_) | refine ct_cond rfl (fun h1 => ?_) (fun h1 => ?_)
  ·
    have hk2 : k < xs.length := by omega
    obtain ⟨b, o, rfl, hel⟩ := hsr.elem encStudent_len (by omega) hk2
    have hx := getLt hk2
    have hk3 : k + 1 ≤ xs.length := hk2
    generalize xs[k] = x at *
    have hcx := hel k x hx
    refine ct_skip ?_
    refine at_then ?_
    refine ct_seq ?_
    refine ct_block ?_
    refine ct_reg ?_
    refine rl_val gw_none (ov_move rfl) rfl ?_
    refine rl_val gw_none (ov_move rfl) rfl ?_
    refine rl_val gw_none (ov_move rfl) rfl ?_
    refine rl_val gw_none (ov_move rfl) rfl ?_
    refine rl_val gw_none (ov_ix Try.underlying30 sz89 rfl rfl _ rfl (by omega)) rfl ?_
    first | refine rl_val gw_none (ov_loadaw ag89 rfl rfl (by assumption)) rfl ?_ | refine rl_val gw_none (ov_loadall 0 ag89 rfl rfl rfl) rfl ?_ | refine rl_val gw_none (ov_loadall 1 ag89 rfl rfl rfl) rfl ?_ | refine rl_val gw_none (ov_loadall 2 ag89 rfl rfl rfl) rfl ?_ | refine rl_val gw_none (ov_loadall 3 ag89 rfl rfl rfl) rfl ?_
    refine rl_callv gw_none goes83 rfl (fun w1 hp => toStudent_c _ _) rfl ?_
    refine rl_val gw_none (ov_ix Try.underlying22 sz69 rfl rfl _ rfl (by omega)) rfl ?_
    refine rl_store ([]) sz69 rfl rfl rfl rfl rfl (fill_ho (r := 5) encStudent_len rfl hk2) ?_
    refine rl_nil ?_
    refine at_block ?_
    refine at_then ?_
    refine ct_reg ?_
    refine rl_val gw_none (ov_move rfl) rfl ?_
    refine rl_val gw_none (ov_add rfl rfl (by omega)) rfl ?_
    refine rl_val gw_none (ov_assign rfl) rfl ?_
    refine rl_nil ?_
    exact at_backR (k + 1) (by first | exact True.intro | omega | (dsimp only; omega) | (dsimp only at *; omega)) (by first | exact True.intro | omega | (dsimp only; omega) | (dsimp only at *; omega)) (by (repeat' (first | exact Sub.nil | refine Sub.cons ?_ ?_)); all_goals (first | rfl | exact lkInt rfl (by omega))) (Sub.cons rfl (Sub.cons rfl (Sub.cons rfl Sub.nil))) (fun w1 hq => hq.cong (by rw [← fill_step (enc := encStudent) (zs := [.int .i64 0, .int .i64 0, .int .i64 0, .int .i64 0, .int .i64 0]) (r := 5) encStudent_len rfl hx]; rfl))
  ·
    have hke : k = xs.length := by omega
    subst hke
    refine ct_exit ?_
    refine at_then_exit ?_
    refine at_then_exit ?_
    refine at_block_hit ?_
    refine at_then ?_
    refine ct_seq ?_
    refine ct_reg ?_
    refine rl_val gw_none (ov_move rfl) rfl ?_
    refine rl_val gw_none (ov_assign rfl) rfl ?_
    refine rl_nil ?_
    refine at_then ?_
    refine ct_ret ?_
    refine at_ret1 Try.results58 (ro_tmp rfl) (fun w1 hp => ?_)
    exact ⟨N1, rfl, by have := hp.toNew (i := 0) rfl; rw [fill_end] at this; exact this⟩

theorem eqStudentS_c (xs : List Student) (v u : Value) (w : World) (hsr : SR w 5 v xs.length (flat encStudent xs)) (hsu : SR w 5 u xs.length (flat encStudent xs)) : Calls Try.prog 53 ([v, u]).toArray w (fun e w' => e = .returned (.bool true) ∧ Ext w w') := by
  obtain ⟨a, cap, rfl, hcap, hmax⟩ := hsr.slice
  obtain ⟨a2, cap2, rfl, hcap2, hmax2⟩ := hsu.slice
  have hlen := hsr.len_le
  refine calls_ct Try.func53 Try.ntmps53 rfl rfl ?_
  refine ct_seq ?_
  refine ct_reg ?_
  refine rl_val gw_none (ov_assign rfl) rfl ?_
  refine rl_nil ?_
  refine at_then ?_
  refine ct_seq ?_
  refine ct_seq ?_
  refine ct_reg ?_
  refine rl_val gw_none (ov_move rfl) rfl ?_
  refine rl_val gw_none (ov_len Try.underlying22 rfl) rfl ?_
  refine rl_val gw_none (ov_move rfl) rfl ?_
  refine rl_val gw_none (ov_len Try.underlying22 rfl) rfl ?_
  refine rl_val gw_none (ov_neq rfl rfl) rfl ?_
  refine rl_nil ?_
  refine at_then ?_
  first | refine ct_dec rfl (fun h1 => ?_) (fun h1 => ?_) | refine ct_ndec rfl (fun h1 => ?_) (fun h1 => ?_) | refine ct_eq rfl (fun h1 => ?_) (fun h1 => ?_) | refine ct_ne rfl (fun h1 => ?_) (fun h1 => ?_) | refine ct_not rfl (fun h1 => ?_) (fun h1 => ?_) | refine ct_cond rfl (fun h1 => ?_) (fun h1 => ?_)
  ·
    exact absurd rfl h1
  ·
    refine ct_skip ?_
    refine at_then ?_
    refine ct_seq ?_
    refine ct_seq ?_
    refine ct_reg ?_
    refine rl_val gw_none (ov_assign rfl) rfl ?_
    refine rl_nil ?_
    refine at_then ?_
    refine ct_block ?_
    refine ct_loopR (ι := Nat) (fun k => [(5, .int .i64 k)]) [(0, _), (1, _)] (fun _ => _) (fun k => k ≤ xs.length) (fun k => xs.length - k) (0) (Sub.cons rfl (Sub.cons rfl Sub.nil)) (fun _ hq => hq) (by (repeat' (first | exact Sub.nil | refine Sub.cons ?_ ?_)); all_goals (first | rfl | exact lkInt rfl (by omega))) (by first | exact True.intro | omega | (dsimp only; omega) | (dsimp only at *; omega)) (fun k hk => ?_)
    refine ct_seq ?_
    refine ct_seq ?_
    refine ct_reg ?_
    refine rl_val gw_none (ov_move rfl) rfl ?_
    refine rl_val gw_none (ov_move rfl) rfl ?_
    refine rl_val gw_none (ov_len Try.underlying22 rfl) rfl ?_
    refine rl_val gw_none (ov_lss rfl rfl) rfl ?_
    refine rl_nil ?_
    refine at_then ?_
    first | refine ct_dec rfl (fun h2 => ?_) (fun h2 => ?_) | refine ct_ndec rfl (fun h2 => ?_) (fun h2 => ?_) | refine ct_eq rfl (fun h2 => ?_) (fun h2 => ?_) | refine ct_ne rfl (fun h2 => ?_) (fun h2 => ?_) | refine ct_not rfl (fun h2 => ?_) (fun h2 => ?_) | refine ct_cond rfl (fun h2 => ?_) (fun h2 => ?_)
    ·
      have hk2 : k < xs.length := by omega
      obtain ⟨b, o, rfl, hel⟩ := hsr.elem encStudent_len (by omega) hk2
      have hx := getLt hk2
      have hk3 : k + 1 ≤ xs.length := hk2
      generalize xs[k] = x at *
      have hcx := hel k x hx
      obtain ⟨b2, o2, rfl, hel2⟩ := hsu.elem encStudent_len (by omega) hk2
      have hcy := hel2 k x hx
      refine ct_skip ?_
      refine at_then ?_
      refine ct_seq ?_
      refine ct_block ?_
      refine ct_seq ?_
      refine ct_dr 10 (by kernel_rfl) (by kernel_rfl) ?_
      refine ql_val gw_none (ov_move rfl) rfl ?_
      refine ql_val gw_none (ov_move rfl) rfl ?_
      refine ql_val gw_none (ov_ix Try.underlying22 sz69 rfl rfl _ rfl (by omega)) rfl ?_
      first | refine ql_val gw_none (ov_loadaw ag69 rfl rfl (by assumption)) rfl ?_ | refine ql_val gw_none (ov_loadall 0 ag69 rfl rfl rfl) rfl ?_ | refine ql_val gw_none (ov_loadall 1 ag69 rfl rfl rfl) rfl ?_ | refine ql_val gw_none (ov_loadall 2 ag69 rfl rfl rfl) rfl ?_ | refine ql_val gw_none (ov_loadall 3 ag69 rfl rfl rfl) rfl ?_
      refine ql_val gw_none (ov_move rfl) rfl ?_
      refine ql_val gw_none (ov_move rfl) rfl ?_
      refine ql_val gw_none (ov_ix Try.underlying22 sz69 rfl rfl _ rfl (by omega)) rfl ?_
      first | refine ql_val gw_none (ov_loadaw ag69 rfl rfl (by assumption)) rfl ?_ | refine ql_val gw_none (ov_loadall 0 ag69 rfl rfl rfl) rfl ?_ | refine ql_val gw_none (ov_loadall 1 ag69 rfl rfl rfl) rfl ?_ | refine ql_val gw_none (ov_loadall 2 ag69 rfl rfl rfl) rfl ?_ | refine ql_val gw_none (ov_loadall 3 ag69 rfl rfl rfl) rfl ?_
      refine ql_callv gw_none goes82 rfl (fun w1 hp => eqStudent_c _ _) rfl ?_
      refine ql_val gw_none (ov_not rfl) rfl ?_
      refine ql_nil ?_
      refine rl_nil ?_
      refine at_then ?_
      refine ct_false rfl rfl ?_
      refine ct_skip ?_
      refine at_block ?_
      refine at_then ?_
      refine ct_reg ?_
      refine rl_val gw_none (ov_move rfl) rfl ?_
      refine rl_val gw_none (ov_add rfl rfl (by omega)) rfl ?_
      refine rl_val gw_none (ov_assign rfl) rfl ?_
      refine rl_nil ?_
      exact at_backR (k + 1) (by first | exact True.intro | omega | (dsimp only; omega) | (dsimp only at *; omega)) (by first | exact True.intro | omega | (dsimp only; omega) | (dsimp only at *; omega)) (by (repeat' (first | exact Sub.nil | refine Sub.cons ?_ ?_)); all_goals (first | rfl | exact lkInt rfl (by omega))) (Sub.cons rfl (Sub.cons rfl Sub.nil)) (fun _ hq => hq)
    ·
      refine ct_exit ?_
      refine at_then_exit ?_
      refine at_then_exit ?_
      refine at_block_hit ?_
      refine at_then ?_
      refine ct_seq ?_
      refine ct_reg ?_
      refine rl_val gw_none (ov_assign rfl) rfl ?_
      refine rl_nil ?_
      refine at_then ?_
      refine ct_ret ?_
      refine at_ret1 Try.results53 (ro_tmp rfl) (fun w1 hp => ?_)
      exact ⟨rfl, hp.ext0⟩

theorem szStudentS_c (len : Nat) (left : Int) (v : Value) (w : World) (L : List Value) (hsr : SR w 5 v len L) (hl : 0 ≤ left ∧ left ≤ 1048576) : Calls Try.prog 56 ([v, .int .i64 left]).toArray w (fun e w' => ∃ r : Int, (r < 0 ∨ (0 ≤ r ∧ r ≤ left - len)) ∧ e = .returned (.int .i64 r) ∧ Ext w w') := by
  obtain ⟨a, cap, rfl, hcap, hmax⟩ := hsr.slice
  have hlen := hsr.len_le
  refine calls_ct Try.func56 Try.ntmps56 rfl rfl ?_
  refine ct_seq ?_
  refine ct_reg ?_
  refine rl_val gw_none (ov_assign rfl) rfl ?_
  refine rl_nil ?_
  refine at_then ?_
  refine ct_seq ?_
  refine ct_reg ?_
  refine rl_val gw_none (ov_move rfl) rfl ?_
  refine rl_val gw_none (ov_move rfl) rfl ?_
  refine rl_val gw_none (ov_len Try.underlying30 rfl) rfl ?_
  refine rl_val gw_none (ov_sub rfl rfl (by omega)) rfl ?_
  refine rl_val gw_none (ov_assign rfl) rfl ?_
  refine rl_nil ?_
  refine at_then ?_
  refine ct_seq ?_
  refine ct_seq ?_
  refine ct_reg ?_
  refine rl_val gw_none (ov_move rfl) rfl ?_
  refine rl_val gw_none (ov_lss rfl rfl) rfl ?_
  refine rl_nil ?_
  refine at_then ?_
  first | refine ct_dec rfl (fun h1 => ?_) (fun h1 => ?_) | refine ct_ndec rfl (fun h1 => ?_) (fun h1 => ?_) | refine ct_eq rfl (fun h1 => ?_) (fun h1 => ?_) | refine ct_ne rfl (fun h1 => ?_) (fun h1 => ?_) | refine ct_not rfl (fun h1 => ?_) (fun h1 => ?_) | refine ct_cond rfl (fun h1 => ?_) (fun h1 => ?_)
  ·
    refine ct_seq ?_
    refine ct_reg ?_
    refine rl_val gw_none (ov_assign rfl) rfl ?_
    refine rl_nil ?_
    refine at_then ?_
    refine ct_ret ?_
    refine at_then_ret ?_
    refine at_ret1 Try.results56 (ro_tmp rfl) (fun w1 hp => ?_)
    exact ⟨_, by omega, rfl, hp.ext0⟩
  ·
    refine ct_skip ?_
    refine at_then ?_
    refine ct_seq ?_
    refine ct_reg ?_
    refine rl_val gw_none (ov_move rfl) rfl ?_
    refine rl_val gw_none (ov_assign rfl) rfl ?_
    refine rl_nil ?_
    refine at_then ?_
    refine ct_ret ?_
    refine at_ret1 Try.results56 (ro_tmp rfl) (fun w1 hp => ?_)
    exact ⟨_, by omega, rfl, hp.ext0⟩

theorem markStudentS_s (k0 : Int) (b len cap : Nat) (L : List Value) (w : World) (hh : w.heap[b]? = some (.cells L.toArray 69 (0, 0))) (hL : 5 * len ≤ L.length) (hk0 : 0 ≤ k0 ∧ k0 ≤ 1000000000000 ∧ len ≤ 1000000000000) : Calls Try.prog 54 ([.slice (some ⟨b, 0, none⟩) len cap, .int .i64 k0]).toArray w (fun e w' => e = .returned (.int .i64 (k0 + 5 * (len : Nat))) ∧ Turn w w' b ∧ w'.heap[b]? = some (.cells (ints (marks k0 (5 * len)) ++ L.drop (5 * len)).toArray 69 (0, 0))) := by
  refine calls_ctd hh Try.func54 Try.ntmps54 rfl rfl ?_
  refine ct_seq ?_
  refine ct_reg ?_
  refine rl_val gw_none (ov_assign rfl) rfl ?_
  refine rl_nil ?_
  refine at_then ?_
  refine ct_seq ?_
  refine ct_seq ?_
  refine ct_reg ?_
  refine rl_val gw_none (ov_assign rfl) rfl ?_
  refine rl_nil ?_
  refine at_then ?_
  refine ct_block ?_
  refine ct_loopR (ι := Nat) (fun k => [(1, .int .i64 (k0 + 5 * (k : Nat))), (5, .int .i64 k)]) [(0, _), (4, _)] (fun k => [(some b, 69, over (ints (marks k0 (5 * len))) L (5 * k))]) (fun k => k ≤ len) (fun k => len - k) (0) (Sub.cons rfl (Sub.cons rfl Sub.nil)) (fun w1 hq => hq.cong (by rw [Nat.mul_zero, over_0])) (by (repeat' (first | exact Sub.nil | refine Sub.cons ?_ ?_)); all_goals (first | rfl | exact lkInt rfl (by omega))) (by first | exact True.intro | omega | (dsimp only; omega) | (dsimp only at *; omega)) (fun k hk => ?_)
  refine ct_seq ?_
  refine ct_seq ?_
  refine ct_reg ?_
  refine rl_val gw_none (ov_move rfl) rfl ?_
  refine rl_val gw_none (ov_move rfl) rfl ?_
  refine rl_val gw_none (ov_len Try.underlying22 rfl) rfl ?_
  refine rl_val gw_none (ov_lss rfl rfl) rfl ?_
  refine rl_nil ?_
  refine at_then ?_
  first | refine ct_dec rfl (fun h1 => ?_) (fun h1 => ?_) | refine ct_ndec rfl (fun h1 => ?_) (fun h1 => ?_) | refine ct_eq rfl (fun h1 => ?_) (fun h1 => ?_) | refine ct_ne rfl (fun h1 => ?_) (fun h1 => ?_) | refine ct_not rfl (fun h1 => ?_) (fun h1 => ?_) | refine ct_cond rfl (fun h1 => ?_) (fun h1 => ?_)
  ·
    have hk2 : k < len := by omega
    have hk3 : 5 * k + 5 ≤ 5 * len := by omega
    refine ct_skip ?_
    refine at_then ?_
    refine ct_seq ?_
    refine ct_block ?_
    refine ct_seq ?_
    refine ct_reg ?_
    refine rl_val gw_none (ov_move rfl) rfl ?_
    refine rl_val gw_none (ov_move rfl) rfl ?_
    refine rl_val gw_none (ov_move rfl) rfl ?_
    refine rl_val gw_none (ov_ix Try.underlying22 sz69 rfl rfl _ rfl (by omega)) rfl ?_
    refine rl_val gw_none (ov_field fo69_0 rfl) rfl ?_
    refine rl_store ([]) sz3 rfl rfl rfl rfl rfl (by rw [over_len (by rw [ints_length, marks_len]; omega) (by omega)]; omega) ?_
    refine rl_mem (fun _ hq => hq.cong (congrArg (fun x => [(some b, 69, x)]) (over_at (k0 := k0) (p := 5 * k) (by omega) (by omega) (by omega) (by omega)))) ?_
    refine rl_nil ?_
    refine at_then ?_
    refine ct_seq ?_
    refine ct_reg ?_
    refine rl_val gw_none (ov_move rfl) rfl ?_
    refine rl_val gw_none (ov_add rfl rfl (by omega)) rfl ?_
    refine rl_val gw_none (ov_assign rfl) rfl ?_
    refine rl_nil ?_
    refine at_then ?_
    refine ct_seq ?_
    refine ct_reg ?_
    refine rl_val gw_none (ov_move rfl) rfl ?_
    refine rl_val gw_none (ov_move rfl) rfl ?_
    refine rl_val gw_none (ov_move rfl) rfl ?_
    refine rl_val gw_none (ov_ix Try.underlying22 sz69 rfl rfl _ rfl (by omega)) rfl ?_
    refine rl_val gw_none (ov_field fo69_1 rfl) rfl ?_
    refine rl_store ([]) sz3 rfl rfl rfl rfl rfl (by rw [over_len (by rw [ints_length, marks_len]; omega) (by omega)]; omega) ?_
    refine rl_mem (fun _ hq => hq.cong (congrArg (fun x => [(some b, 69, x)]) (over_at (k0 := k0) (p := 5 * k + 1) (by omega) (by omega) (by omega) (by omega)))) ?_
    refine rl_nil ?_
    refine at_then ?_
    refine ct_seq ?_
    refine ct_reg ?_
    refine rl_val gw_none (ov_move rfl) rfl ?_
    refine rl_val gw_none (ov_add rfl rfl (by omega)) rfl ?_
    refine rl_val gw_none (ov_assign rfl) rfl ?_
    refine rl_nil ?_
    refine at_then ?_
    refine ct_seq ?_
    refine ct_reg ?_
    refine rl_val gw_none (ov_move rfl) rfl ?_
    refine rl_val gw_none (ov_move rfl) rfl ?_
    refine rl_val gw_none (ov_move rfl) rfl ?_
    refine rl_val gw_none (ov_ix Try.underlying22 sz69 rfl rfl _ rfl (by omega)) rfl ?_
    refine rl_val gw_none (ov_field fo69_2 rfl) rfl ?_
    refine rl_store ([]) sz3 rfl rfl rfl rfl rfl (by rw [over_len (by rw [ints_length, marks_len]; omega) (by omega)]; omega) ?_
    refine rl_mem (fun _ hq => hq.cong (congrArg (fun x => [(some b, 69, x)]) (over_at (k0 := k0) (p := 5 * k + 1 + 1) (by omega) (by omega) (by omega) (by omega)))) ?_
    refine rl_nil ?_
    refine at_then ?_
    refine ct_seq ?_
    refine ct_reg ?_
    refine rl_val gw_none (ov_move rfl) rfl ?_
    refine rl_val gw_none (ov_add rfl rfl (by omega)) rfl ?_
    refine rl_val gw_none (ov_assign rfl) rfl ?_
    refine rl_nil ?_
    refine at_then ?_
    refine ct_seq ?_
    refine ct_reg ?_
    refine rl_val gw_none (ov_move rfl) rfl ?_
    refine rl_val gw_none (ov_move rfl) rfl ?_
    refine rl_val gw_none (ov_move rfl) rfl ?_
    refine rl_val gw_none (ov_ix Try.underlying22 sz69 rfl rfl _ rfl (by omega)) rfl ?_
    refine rl_val gw_none (ov_field fo69_3 rfl) rfl ?_
    refine rl_store ([]) sz3 rfl rfl rfl rfl rfl (by rw [over_len (by rw [ints_length, marks_len]; omega) (by omega)]; omega) ?_
    refine rl_mem (fun _ hq => hq.cong (congrArg (fun x => [(some b, 69, x)]) (over_at (k0 := k0) (p := 5 * k + 1 + 1 + 1) (by omega) (by omega) (by omega) (by omega)))) ?_
    refine rl_nil ?_
    refine at_then ?_
    refine ct_seq ?_
    refine ct_reg ?_
    refine rl_val gw_none (ov_move rfl) rfl ?_
    refine rl_val gw_none (ov_add rfl rfl (by omega)) rfl ?_
    refine rl_val gw_none (ov_assign rfl) rfl ?_
    refine rl_nil ?_
    refine at_then ?_
    refine ct_seq ?_
    refine ct_reg ?_
    refine rl_val gw_none (ov_move rfl) rfl ?_
    refine rl_val gw_none (ov_move rfl) rfl ?_
    refine rl_val gw_none (ov_move rfl) rfl ?_
    refine rl_val gw_none (ov_ix Try.underlying22 sz69 rfl rfl _ rfl (by omega)) rfl ?_
    refine rl_val gw_none (ov_field fo69_4 rfl) rfl ?_
    refine rl_store ([]) sz3 rfl rfl rfl rfl rfl (by rw [over_len (by rw [ints_length, marks_len]; omega) (by omega)]; omega) ?_
    refine rl_mem (fun _ hq => hq.cong (congrArg (fun x => [(some b, 69, x)]) (over_at (k0 := k0) (p := 5 * k + 1 + 1 + 1 + 1) (by omega) (by omega) (by omega) (by omega)))) ?_
    refine rl_nil ?_
    refine at_then ?_
    refine ct_reg ?_
    refine rl_val gw_none (ov_move rfl) rfl ?_
    refine rl_val gw_none (ov_add rfl rfl (by omega)) rfl ?_
    refine rl_val gw_none (ov_assign rfl) rfl ?_
    refine rl_nil ?_
    refine at_block ?_
    refine at_then ?_
    refine ct_reg ?_
    refine rl_val gw_none (ov_move rfl) rfl ?_
    refine rl_val gw_none (ov_add rfl rfl (by omega)) rfl ?_
    refine rl_val gw_none (ov_assign rfl) rfl ?_
    refine rl_nil ?_
    exact at_backR (k + 1) (by first | exact True.intro | omega | (dsimp only; omega) | (dsimp only at *; omega)) (by first | exact True.intro | omega | (dsimp only; omega) | (dsimp only at *; omega)) (by (repeat' (first | exact Sub.nil | refine Sub.cons ?_ ?_)); all_goals (first | rfl | exact lkInt rfl (by omega))) (Sub.cons rfl (Sub.cons rfl Sub.nil)) (fun _ hq => hq.cong (congrArg (fun x => [(some b, 69, over (ints (marks k0 (5 * len))) L x)]) (by omega)))
  ·
    have hke : k = len := by omega
    subst hke
    refine ct_exit ?_
    refine at_then_exit ?_
    refine at_then_exit ?_
    refine at_block_hit ?_
    refine at_then ?_
    refine ct_seq ?_
    refine ct_reg ?_
    refine rl_val gw_none (ov_move rfl) rfl ?_
    refine rl_val gw_none (ov_assign rfl) rfl ?_
    refine rl_nil ?_
    refine at_then ?_
    refine ct_ret ?_
    refine at_ret1 Try.results54 (ro_tmp rfl) (fun w1 hp => ?_)
    refine ⟨rfl, hp.turn0, ?_⟩
    rw [← over_marks]; exact hp.at (i := 0) rfl

theorem markStudentS_n (k0 : Int) (w : World) : Calls Try.prog 54 ([.slice none 0 0, .int .i64 k0]).toArray w (fun e w' => e = .returned (.int .i64 k0) ∧ Ext w w') := by
  refine calls_ct Try.func54 Try.ntmps54 rfl rfl ?_
  refine ct_seq ?_
  refine ct_reg ?_
  refine rl_val gw_none (ov_assign rfl) rfl ?_
  refine rl_nil ?_
  refine at_then ?_
  refine ct_seq ?_
  refine ct_seq ?_
  refine ct_reg ?_
  refine rl_val gw_none (ov_assign rfl) rfl ?_
  refine rl_nil ?_
  refine at_then ?_
  refine ct_block ?_
  refine ct_loopR (ι := Nat) (fun k => [(1, .int .i64 k0), (5, .int .i64 0)]) [(0, _), (4, _)] (fun _ => _) (fun k => True) (fun k => 0) (0) (Sub.cons rfl (Sub.cons rfl Sub.nil)) (fun _ hq => hq) (by (repeat' (first | exact Sub.nil | refine Sub.cons ?_ ?_)); all_goals (first | rfl | exact lkInt rfl (by omega))) (by first | exact True.intro | omega | (dsimp only; omega) | (dsimp only at *; omega)) (fun k hk => ?_)
  refine ct_seq ?_
  refine ct_seq ?_
  refine ct_reg ?_
  refine rl_val gw_none (ov_move rfl) rfl ?_
  refine rl_val gw_none (ov_move rfl) rfl ?_
  refine rl_val gw_none (ov_len Try.underlying22 rfl) rfl ?_
  refine rl_val gw_none (ov_lss rfl rfl) rfl ?_
  refine rl_nil ?_
  refine at_then ?_
  first | refine ct_dec rfl (fun h1 => ?_) (fun h1 => ?_) | refine ct_ndec rfl (fun h1 => ?_) (fun h1 => ?_) | refine ct_eq rfl (fun h1 => ?_) (fun h1 => ?_) | refine ct_ne rfl (fun h1 => ?_) (fun h1 => ?_) | refine ct_not rfl (fun h1 => ?_) (fun h1 => ?_) | refine ct_cond rfl (fun h1 => ?_) (fun h1 => ?_)
  ·
    exact absurd h1 (by omega)
  ·
    refine ct_exit ?_
    refine at_then_exit ?_
    refine at_then_exit ?_
    refine at_block_hit ?_
    refine at_then ?_
    refine ct_seq ?_
    refine ct_reg ?_
    refine rl_val gw_none (ov_move rfl) rfl ?_
    refine rl_val gw_none (ov_assign rfl) rfl ?_
    refine rl_nil ?_
    refine at_then ?_
    refine ct_ret ?_
    refine at_ret1 Try.results54 (ro_tmp rfl) (fun w1 hp => ?_)
    exact ⟨rfl, hp.ext0⟩

theorem markStudentS_m (k0 : Int) (b len cap : Nat) (L : List Value) (w : World) (hh : w.heap[b]? = some (.cells L.toArray 69 (0, 0))) (hL : L.length = len * 5) (hk0 : 0 ≤ k0 ∧ k0 ≤ 1000000000000 ∧ len ≤ 1000000000000) :
    Calls Try.prog 54 [.slice (some ⟨b, 0, none⟩) len cap, .int .i64 k0].toArray w (fun e w' => e = .returned (.int .i64 (k0 + 5 * (len : Nat))) ∧ Turn w w' b) :=
  (markStudentS_s k0 b len cap L w hh (by rw [hL, Nat.mul_comm]; exact Nat.le_refl _) hk0).mono fun e w' ⟨he, ht, _⟩ => ⟨he, ht⟩

theorem markStudentS_o (k0 : Int) {bo : Option Nat} {len cap : Nat} {xs pad : List Value} (hsl : Sl 5 bo len cap xs pad) (w : World) (hh : ∀ b, bo = some b → w.heap[b]? = some (.cells (xs ++ pad).toArray 69 (0, 0))) (hk0 : 0 ≤ k0 ∧ k0 ≤ 1000000000000 ∧ len ≤ 1000000000000) :
    Calls Try.prog 54 [sv bo len cap, .int .i64 k0].toArray w (fun e w' => e = .returned (.int .i64 (k0 + 5 * (len : Nat))) ∧ Wrote bo 69 (ints (marks k0 (5 * len)) ++ (xs ++ pad).drop (5 * len)) w w') := by
  cases bo with
  | none =>
    obtain ⟨rfl, rfl⟩ := hsl.nil rfl
    have hnil : xs ++ pad = [] := List.length_eq_zero_iff.1 (by rw [hsl.lp, Nat.zero_mul])
    refine (markStudentS_n k0 w).mono fun e w' ⟨he, hx⟩ => ⟨by rw [he]; simp, ?_, hx⟩
    rw [hnil]; simp [marks, ints]
  | some b =>
    have hle := hsl.le
    have := Nat.mul_le_mul_right 5 hle
    exact (markStudentS_s k0 b len cap (xs ++ pad) w (hh b rfl) (by rw [hsl.lp]; omega) hk0).mono fun e w' ⟨he, ht, hc⟩ => ⟨he, ht, hc⟩

theorem heldStudentS_c (k0 : Int) (len : Nat) (v : Value) (w : World) (hsr : SR w 5 v len (ints (marks k0 (5 * len)))) (hk0 : 0 ≤ k0 ∧ k0 ≤ 1000000000000 ∧ len ≤ 1000000000000) : Calls Try.prog 55 ([v, .int .i64 k0]).toArray w (fun e w' => e = .returned (.int .i64 (k0 + 5 * (len : Nat))) ∧ Ext w w') := by
  obtain ⟨a, cap, rfl, hcap, hmax⟩ := hsr.slice
  have hlen := hsr.len_le
  refine calls_ct Try.func55 Try.ntmps55 rfl rfl ?_
  refine ct_seq ?_
  refine ct_reg ?_
  refine rl_val gw_none (ov_assign rfl) rfl ?_
  refine rl_nil ?_
  refine at_then ?_
  refine ct_seq ?_
  refine ct_seq ?_
  refine ct_reg ?_
  refine rl_val gw_none (ov_assign rfl) rfl ?_
  refine rl_nil ?_
  refine at_then ?_
  refine ct_block ?_
  refine ct_loopR (ι := Nat) (fun k => [(1, .int .i64 (k0 + 5 * (k : Nat))), (5, .int .i64 k)]) [(0, _)] (fun _ => _) (fun k => k ≤ len) (fun k => len - k) (0) (Sub.cons rfl Sub.nil) (fun _ hq => hq) (by (repeat' (first | exact Sub.nil | refine Sub.cons ?_ ?_)); all_goals (first | rfl | exact lkInt rfl (by omega))) (by first | exact True.intro | omega | (dsimp only; omega) | (dsimp only at *; omega)) (fun k hk => ?_)
  refine ct_seq ?_
  refine ct_seq ?_
  refine ct_reg ?_
  refine rl_val gw_none (ov_move rfl) rfl ?_
  refine rl_val gw_none (ov_move rfl) rfl ?_
  refine rl_val gw_none (ov_len Try.underlying22 rfl) rfl ?_
  refine rl_val gw_none (ov_lss rfl rfl) rfl ?_
  refine rl_nil ?_
  refine at_then ?_
  first | refine ct_dec rfl (fun h1 => ?_) (fun h1 => ?_) | refine ct_ndec rfl (fun h1 => ?_) (fun h1 => ?_) | refine ct_eq rfl (fun h1 => ?_) (fun h1 => ?_) | refine ct_ne rfl (fun h1 => ?_) (fun h1 => ?_) | refine ct_not rfl (fun h1 => ?_) (fun h1 => ?_) | refine ct_cond rfl (fun h1 => ?_) (fun h1 => ?_)
  ·
    have hk2 : k < len := by omega
    obtain ⟨b, o, rfl, hcl⟩ := hsr.at hk2 (by omega)
    have c0 := hcl 0 _ (by omega) (imarks_get (k0 := k0) (k := k * 5 + 0) (by omega))
    have c1 := hcl 1 _ (by omega) (imarks_get (k0 := k0) (k := k * 5 + 1) (by omega))
    have c2 := hcl 2 _ (by omega) (imarks_get (k0 := k0) (k := k * 5 + 2) (by omega))
    have c3 := hcl 3 _ (by omega) (imarks_get (k0 := k0) (k := k * 5 + 3) (by omega))
    have c4 := hcl 4 _ (by omega) (imarks_get (k0 := k0) (k := k * 5 + 4) (by omega))
    refine ct_skip ?_
    refine at_then ?_
    refine ct_seq ?_
    refine ct_block ?_
    refine ct_seq ?_
    refine ct_seq ?_
    refine ct_reg ?_
    refine rl_val gw_none (ov_move rfl) rfl ?_
    refine rl_val gw_none (ov_move rfl) rfl ?_
    refine rl_val gw_none (ov_ix Try.underlying22 sz69 rfl rfl _ rfl (by omega)) rfl ?_
    refine rl_val gw_none (ov_field fo69_0 rfl) rfl ?_
    first | refine rl_val gw_none (ov_load 0 sc3 rfl rfl rfl) rfl ?_ | refine rl_val gw_none (ov_load 1 sc3 rfl rfl rfl) rfl ?_ | refine rl_val gw_none (ov_load 2 sc3 rfl rfl rfl) rfl ?_ | refine rl_val gw_none (ov_load 3 sc3 rfl rfl rfl) rfl ?_ | refine rl_val gw_none (ov_loadw sc3 rfl (by assumption)) rfl ?_ | refine rl_val gw_none (ov_load 0 sc3 rfl rfl (by assumption)) rfl ?_ | refine rl_val gw_none (ov_load 1 sc3 rfl rfl (by assumption)) rfl ?_ | refine rl_val gw_none (ov_load 2 sc3 rfl rfl (by assumption)) rfl ?_ | refine rl_val gw_none (ov_load 3 sc3 rfl rfl (by assumption)) rfl ?_
    refine rl_val gw_none (ov_move rfl) rfl ?_
    refine rl_val gw_none (ov_neq rfl rfl) rfl ?_
    refine rl_nil ?_
    refine at_then ?_
    first | refine ct_dec rfl (fun h2 => ?_) (fun h2 => ?_) | refine ct_ndec rfl (fun h2 => ?_) (fun h2 => ?_) | refine ct_eq rfl (fun h2 => ?_) (fun h2 => ?_) | refine ct_ne rfl (fun h2 => ?_) (fun h2 => ?_) | refine ct_not rfl (fun h2 => ?_) (fun h2 => ?_) | refine ct_cond rfl (fun h2 => ?_) (fun h2 => ?_)
    ·
      exact absurd (by omega) h2
    ·
      refine ct_skip ?_
      refine at_then ?_
      refine ct_seq ?_
      refine ct_reg ?_
      refine rl_val gw_none (ov_move rfl) rfl ?_
      refine rl_val gw_none (ov_add rfl rfl (by omega)) rfl ?_
      refine rl_val gw_none (ov_assign rfl) rfl ?_
      refine rl_nil ?_
      refine at_then ?_
      refine ct_seq ?_
      refine ct_seq ?_
      refine ct_reg ?_
      refine rl_val gw_none (ov_move rfl) rfl ?_
      refine rl_val gw_none (ov_move rfl) rfl ?_
      refine rl_val gw_none (ov_ix Try.underlying22 sz69 rfl rfl _ rfl (by omega)) rfl ?_
      refine rl_val gw_none (ov_field fo69_1 rfl) rfl ?_
      first | refine rl_val gw_none (ov_load 0 sc3 rfl rfl rfl) rfl ?_ | refine rl_val gw_none (ov_load 1 sc3 rfl rfl rfl) rfl ?_ | refine rl_val gw_none (ov_load 2 sc3 rfl rfl rfl) rfl ?_ | refine rl_val gw_none (ov_load 3 sc3 rfl rfl rfl) rfl ?_ | refine rl_val gw_none (ov_loadw sc3 rfl (by assumption)) rfl ?_ | refine rl_val gw_none (ov_load 0 sc3 rfl rfl (by assumption)) rfl ?_ | refine rl_val gw_none (ov_load 1 sc3 rfl rfl (by assumption)) rfl ?_ | refine rl_val gw_none (ov_load 2 sc3 rfl rfl (by assumption)) rfl ?_ | refine rl_val gw_none (ov_load 3 sc3 rfl rfl (by assumption)) rfl ?_
      refine rl_val gw_none (ov_move rfl) rfl ?_
      refine rl_val gw_none (ov_neq rfl rfl) rfl ?_
      refine rl_nil ?_
      refine at_then ?_
      first | refine ct_dec rfl (fun h3 => ?_) (fun h3 => ?_) | refine ct_ndec rfl (fun h3 => ?_) (fun h3 => ?_) | refine ct_eq rfl (fun h3 => ?_) (fun h3 => ?_) | refine ct_ne rfl (fun h3 => ?_) (fun h3 => ?_) | refine ct_not rfl (fun h3 => ?_) (fun h3 => ?_) | refine ct_cond rfl (fun h3 => ?_) (fun h3 => ?_)
      ·
        exact absurd (by omega) h3
      ·
        refine ct_skip ?_
        refine at_then ?_
        refine ct_seq ?_
        refine ct_reg ?_
        refine rl_val gw_none (ov_move rfl) rfl ?_
        refine rl_val gw_none (ov_add rfl rfl (by omega)) rfl ?_
        refine rl_val gw_none (ov_assign rfl) rfl ?_
        refine rl_nil ?_
        refine at_then ?_
        refine ct_seq ?_
        refine ct_seq ?_
        refine ct_reg ?_
        refine rl_val gw_none (ov_move rfl) rfl ?_
        refine rl_val gw_none (ov_move rfl) rfl ?_
        refine rl_val gw_none (ov_ix Try.underlying22 sz69 rfl rfl _ rfl (by omega)) rfl ?_
        refine rl_val gw_none (ov_field fo69_2 rfl) rfl ?_
        first | refine rl_val gw_none (ov_load 0 sc3 rfl rfl rfl) rfl ?_ | refine rl_val gw_none (ov_load 1 sc3 rfl rfl rfl) rfl ?_ | refine rl_val gw_none (ov_load 2 sc3 rfl rfl rfl) rfl ?_ | refine rl_val gw_none (ov_load 3 sc3 rfl rfl rfl) rfl ?_ | refine rl_val gw_none (ov_loadw sc3 rfl (by assumption)) rfl ?_ | refine rl_val gw_none (ov_load 0 sc3 rfl rfl (by assumption)) rfl ?_ | refine rl_val gw_none (ov_load 1 sc3 rfl rfl (by assumption)) rfl ?_ | refine rl_val gw_none (ov_load 2 sc3 rfl rfl (by assumption)) rfl ?_ | refine rl_val gw_none (ov_load 3 sc3 rfl rfl (by assumption)) rfl ?_
        refine rl_val gw_none (ov_move rfl) rfl ?_
        refine rl_val gw_none (ov_neq rfl rfl) rfl ?_
        refine rl_nil ?_
        refine at_then ?_
        first | refine ct_dec rfl (fun h4 => ?_) (fun h4 => ?_) | refine ct_ndec rfl (fun h4 => ?_) (fun h4 => ?_) | refine ct_eq rfl (fun h4 => ?_) (fun h4 => ?_) | refine ct_ne rfl (fun h4 => ?_) (fun h4 => ?_) | refine ct_not rfl (fun h4 => ?_) (fun h4 => ?_) | refine ct_cond rfl (fun h4 => ?_) (fun h4 => ?_)
        ·
          exact absurd (by omega) h4
        ·
          refine ct_skip ?_
          refine at_then ?_
          refine ct_seq ?_
          refine ct_reg ?_
          refine rl_val gw_none (ov_move rfl) rfl ?_
          refine rl_val gw_none (ov_add rfl rfl (by omega)) rfl ?_
          refine rl_val gw_none (ov_assign rfl) rfl ?_
          refine rl_nil ?_
          refine at_then ?_
          refine ct_seq ?_
          refine ct_seq ?_
          refine ct_reg ?_
          refine rl_val gw_none (ov_move rfl) rfl ?_
          refine rl_val gw_none (ov_move rfl) rfl ?_
          refine rl_val gw_none (ov_ix Try.underlying22 sz69 rfl rfl _ rfl (by omega)) rfl ?_
          refine rl_val gw_none (ov_field fo69_3 rfl) rfl ?_
          first | refine rl_val gw_none (ov_load 0 sc3 rfl rfl rfl) rfl ?_ | refine rl_val gw_none (ov_load 1 sc3 rfl rfl rfl) rfl ?_ | refine rl_val gw_none (ov_load 2 sc3 rfl rfl rfl) rfl ?_ | refine rl_val gw_none (ov_load 3 sc3 rfl rfl rfl) rfl ?_ | refine rl_val gw_none (ov_loadw sc3 rfl (by assumption)) rfl ?_ | refine rl_val gw_none (ov_load 0 sc3 rfl rfl (by assumption)) rfl ?_ | refine rl_val gw_none (ov_load 1 sc3 rfl rfl (by assumption)) rfl ?_ | refine rl_val gw_none (ov_load 2 sc3 rfl rfl (by assumption)) rfl ?_ | refine rl_val gw_none (ov_load 3 sc3 rfl rfl (by assumption)) rfl ?_
          refine rl_val gw_none (ov_move rfl) rfl ?_
          refine rl_val gw_none (ov_neq rfl rfl) rfl ?_
          refine rl_nil ?_
          refine at_then ?_
          first | refine ct_dec rfl (fun h5 => ?_) (fun h5 => ?_) | refine ct_ndec rfl (fun h5 => ?_) (fun h5 => ?_) | refine ct_eq rfl (fun h5 => ?_) (fun h5 => ?_) | refine ct_ne rfl (fun h5 => ?_) (fun h5 => ?_) | refine ct_not rfl (fun h5 => ?_) (fun h5 => ?_) | refine ct_cond rfl (fun h5 => ?_) (fun h5 => ?_)
          ·
            exact absurd (by omega) h5
          ·
            refine ct_skip ?_
            refine at_then ?_
            refine ct_seq ?_
            refine ct_reg ?_
            refine rl_val gw_none (ov_move rfl) rfl ?_
            refine rl_val gw_none (ov_add rfl rfl (by omega)) rfl ?_
            refine rl_val gw_none (ov_assign rfl) rfl ?_
            refine rl_nil ?_
            refine at_then ?_
            refine ct_seq ?_
            refine ct_seq ?_
            refine ct_reg ?_
            refine rl_val gw_none (ov_move rfl) rfl ?_
            refine rl_val gw_none (ov_move rfl) rfl ?_
            refine rl_val gw_none (ov_ix Try.underlying22 sz69 rfl rfl _ rfl (by omega)) rfl ?_
            refine rl_val gw_none (ov_field fo69_4 rfl) rfl ?_
            first | refine rl_val gw_none (ov_load 0 sc3 rfl rfl rfl) rfl ?_ | refine rl_val gw_none (ov_load 1 sc3 rfl rfl rfl) rfl ?_ | refine rl_val gw_none (ov_load 2 sc3 rfl rfl rfl) rfl ?_ | refine rl_val gw_none (ov_load 3 sc3 rfl rfl rfl) rfl ?_ | refine rl_val gw_none (ov_loadw sc3 rfl (by assumption)) rfl ?_ | refine rl_val gw_none (ov_load 0 sc3 rfl rfl (by assumption)) rfl ?_ | refine rl_val gw_none (ov_load 1 sc3 rfl rfl (by assumption)) rfl ?_ | refine rl_val gw_none (ov_load 2 sc3 rfl rfl (by assumption)) rfl ?_ | refine rl_val gw_none (ov_load 3 sc3 rfl rfl (by assumption)) rfl ?_
            refine rl_val gw_none (ov_move rfl) rfl ?_
            refine rl_val gw_none (ov_neq rfl rfl) rfl ?_
            refine rl_nil ?_
            refine at_then ?_
            first | refine ct_dec rfl (fun h6 => ?_) (fun h6 => ?_) | refine ct_ndec rfl (fun h6 => ?_) (fun h6 => ?_) | refine ct_eq rfl (fun h6 => ?_) (fun h6 => ?_) | refine ct_ne rfl (fun h6 => ?_) (fun h6 => ?_) | refine ct_not rfl (fun h6 => ?_) (fun h6 => ?_) | refine ct_cond rfl (fun h6 => ?_) (fun h6 => ?_)
            ·
              exact absurd (by omega) h6
            ·
              refine ct_skip ?_
              refine at_then ?_
              refine ct_reg ?_
              refine rl_val gw_none (ov_move rfl) rfl ?_
              refine rl_val gw_none (ov_add rfl rfl (by omega)) rfl ?_
              refine rl_val gw_none (ov_assign rfl) rfl ?_
              refine rl_nil ?_
              refine at_block ?_
              refine at_then ?_
              refine ct_reg ?_
              refine rl_val gw_none (ov_move rfl) rfl ?_
              refine rl_val gw_none (ov_add rfl rfl (by omega)) rfl ?_
              refine rl_val gw_none (ov_assign rfl) rfl ?_
              refine rl_nil ?_
              exact at_backR (k + 1) (by first | exact True.intro | omega | (dsimp only; omega) | (dsimp only at *; omega)) (by first | exact True.intro | omega | (dsimp only; omega) | (dsimp only at *; omega)) (by (repeat' (first | exact Sub.nil | refine Sub.cons ?_ ?_)); all_goals (first | rfl | exact lkInt rfl (by omega))) (Sub.cons rfl Sub.nil) (fun _ hq => hq)
  ·
    have hke : k = len := by omega
    subst hke
    refine ct_exit ?_
    refine at_then_exit ?_
    refine at_then_exit ?_
    refine at_block_hit ?_
    refine at_then ?_
    refine ct_seq ?_
    refine ct_reg ?_
    refine rl_val gw_none (ov_move rfl) rfl ?_
    refine rl_val gw_none (ov_assign rfl) rfl ?_
    refine rl_nil ?_
    refine at_then ?_
    refine ct_ret ?_
    refine at_ret1 Try.results55 (ro_tmp rfl) (fun w1 hp => ?_)
    exact ⟨rfl, hp.ext0⟩

theorem szSchool_c (left : Int) (d : Int) (xs : List Student) (pa : Int) (le : Int) (vxs : Value) (w : World) (zd : In64 d) (hGxs : ∀ y ∈ xs, GStudent y) (hsxs : SR w 5 vxs xs.length (flat encStudent xs)) (zpa : In64 pa) (zle : In64 le) (hl : 0 ≤ left ∧ left ≤ 1048576) : Calls Try.prog 20 ([.agg (List.toArray (α := Value) [.int .i64 d, vxs, .int .i64 pa, .int .i64 le]), .int .i64 left]).toArray w (fun e w' => ∃ r : Int, (r < 0 ∨ (0 ≤ r ∧ r ≤ left - xs.length)) ∧ e = .returned (.int .i64 r) ∧ Ext w w') := by
  obtain ⟨axs, capxs, rfl, hcapxs, hmaxxs⟩ := hsxs.slice
  have hlenxs := hsxs.len_le
  refine calls_ct Try.func20 Try.ntmps20 rfl rfl ?_
  refine ct_seq ?_
  refine ct_reg ?_
  refine rl_box rfl rfl (fun N1 => ?_)
  refine rl_val gw_none (ov_assign rfl) rfl ?_
  refine rl_nil ?_
  refine at_then ?_
  refine ct_seq ?_
  refine ct_reg ?_
  refine rl_val gw_none (ov_field fo32_1 rfl) rfl ?_
  first | refine rl_val gw_none (ov_load 0 sc30 rfl rfl rfl) rfl ?_ | refine rl_val gw_none (ov_load 0 sc30 rfl rfl (by assumption)) rfl ?_
  refine rl_val gw_none (ov_move rfl) rfl ?_
  refine rl_callx (ι := Int) (fun r => .int .i64 r) (fun r => r < 0 ∨ (0 ≤ r ∧ r ≤ left - xs.length)) gw_none goes56 rfl (fun w1 hp => szStudentS_c xs.length left _ _ _ (hsxs.ext hp.ext0) (by omega)) rfl (fun r0 hr0 => ?_)
  refine rl_val gw_none (ov_assign rfl) rfl ?_
  refine rl_nil ?_
  refine at_then ?_
  refine ct_seq ?_
  refine ct_seq ?_
  refine ct_reg ?_
  refine rl_val gw_none (ov_move rfl) rfl ?_
  refine rl_val gw_none (ov_lss rfl rfl) rfl ?_
  refine rl_nil ?_
  refine at_then ?_
  first | refine ct_dec rfl (fun h1 => ?_) (fun h1 => ?_) | refine ct_ndec rfl (fun h1 => ?_) (fun h1 => ?_) | refine ct_eq rfl (fun h1 => ?_) (fun h1 => ?_) | refine ct_ne rfl (fun h1 => ?_) (fun h1 => ?_) | refine ct_not rfl (fun h1 => ?_) (fun h1 => ?_) | refine ct_cond rfl (fun h1 => ?_) (fun h1 => ?_)
  ·
    refine ct_seq ?_
    refine ct_reg ?_
    refine rl_val gw_none (ov_assign rfl) rfl ?_
    refine rl_nil ?_
    refine at_then ?_
    refine ct_ret ?_
    refine at_then_ret ?_
    refine at_ret1 Try.results20 (ro_tmp rfl) (fun w1 hp => ?_)
    exact ⟨_, by omega, rfl, hp.ext0⟩
  ·
    refine ct_skip ?_
    refine at_then ?_
    refine ct_seq ?_
    refine ct_reg ?_
    refine rl_val gw_none (ov_move rfl) rfl ?_
    refine rl_val gw_none (ov_assign rfl) rfl ?_
    refine rl_nil ?_
    refine at_then ?_
    refine ct_ret ?_
    refine at_ret1 Try.results20 (ro_tmp rfl) (fun w1 hp => ?_)
    exact ⟨_, by omega, rfl, hp.ext0⟩

theorem toSchool_c (d : Int) (xs : List Student) (pa : Int) (le : Int) (vxs : Value) (w : World) (zd : In64 d) (hGxs : ∀ y ∈ xs, GStudent y) (hsxs : SR w 5 vxs xs.length (flat encStudent xs)) (zpa : In64 pa) (zle : In64 le) (hbxs : xs.length ≤ 1048576) : Calls Try.prog 22 ([.agg (List.toArray (α := Value) [.int .i64 d, vxs, .int .i64 pa, .int .i64 le])]).toArray w (fun e w' => ∃ q : Nat, True ∧ e = .returned (.agg (List.toArray (α := Value) [.int .i64 d, .slice (some ⟨q, 0, none⟩) xs.length xs.length, .int .i64 pa, .int .i64 le])) ∧ Hp ⟨w, []⟩ [(some q, 69, flat encStudent xs)] w') := by
  obtain ⟨axs, capxs, rfl, hcapxs, hmaxxs⟩ := hsxs.slice
  have hlenxs := hsxs.len_le
  refine calls_ct Try.func22 Try.ntmps22 rfl rfl ?_
  refine ct_seq ?_
  refine ct_reg ?_
  refine rl_box rfl rfl (fun N1 => ?_)
  refine rl_alloc ze24 rfl (fun N2 => ?_)
  refine rl_nil ?_
  refine at_then ?_
  refine ct_seq ?_
  refine ct_reg ?_
  refine rl_alloc ze24 rfl (fun N3 => ?_)
  refine rl_nil ?_
  refine at_then ?_
  refine ct_seq ?_
  refine ct_reg ?_
  refine rl_val gw_none (ov_field fo32_0 rfl) rfl ?_
  first | refine rl_val gw_none (ov_load 2 sc3 rfl rfl rfl) rfl ?_ | refine rl_val gw_none (ov_load 2 sc3 rfl rfl (by assumption)) rfl ?_
  refine rl_val gw_none (ov_field fo24_0 rfl) rfl ?_
  refine rl_store [] sz3 rfl rfl rfl rfl rfl (Nat.le_of_ble_eq_true rfl) ?_
  refine rl_nil ?_
  refine at_then ?_
  refine ct_seq ?_
  refine ct_reg ?_
  refine rl_val gw_none (ov_field fo32_1 rfl) rfl ?_
  first | refine rl_val gw_none (ov_load 2 sc30 rfl rfl rfl) rfl ?_ | refine rl_val gw_none (ov_load 2 sc30 rfl rfl (by assumption)) rfl ?_
  refine rl_callnew (fun b => .slice (some ⟨b, 0, none⟩) xs.length xs.length) goes58 rfl (fun w1 hp => toStudentS_c xs _ _ (hsxs.ext hp.ext0) hbxs) rfl (fun b1 => ?_)
  refine rl_val gw_none (ov_field fo24_1 rfl) rfl ?_
  refine rl_store [_] sz22 rfl rfl rfl rfl rfl (Nat.le_of_ble_eq_true rfl) ?_
  refine rl_nil ?_
  refine at_then ?_
  refine ct_seq ?_
  refine ct_reg ?_
  refine rl_val gw_none (ov_field fo32_2 rfl) rfl ?_
  first | refine rl_val gw_none (ov_load 3 sc3 rfl rfl rfl) rfl ?_ | refine rl_val gw_none (ov_load 3 sc3 rfl rfl (by assumption)) rfl ?_
  refine rl_val gw_none (ov_field fo24_2 rfl) rfl ?_
  refine rl_store [_] sz3 rfl rfl rfl rfl rfl (Nat.le_of_ble_eq_true rfl) ?_
  refine rl_nil ?_
  refine at_then ?_
  refine ct_seq ?_
  refine ct_reg ?_
  refine rl_val gw_none (ov_field fo32_3 rfl) rfl ?_
  first | refine rl_val gw_none (ov_load 3 sc3 rfl rfl rfl) rfl ?_ | refine rl_val gw_none (ov_load 3 sc3 rfl rfl (by assumption)) rfl ?_
  refine rl_val gw_none (ov_field fo24_3 rfl) rfl ?_
  refine rl_store [_] sz3 rfl rfl rfl rfl rfl (Nat.le_of_ble_eq_true rfl) ?_
  refine rl_nil ?_
  refine at_then ?_
  refine ct_seq ?_
  refine ct_reg ?_
  first | refine rl_val gw_none (ov_loadall 1 ag24 rfl rfl rfl) rfl ?_ | refine rl_val gw_none (ov_loadp 1 ag24 rfl rfl (vs := [_, _, _, _]) rfl rfl) rfl ?_ | refine rl_val gw_none (ov_loada 1 ag24 rfl rfl rfl (by assumption)) rfl ?_
  refine rl_store [_, _] sz24 rfl rfl rfl rfl rfl (Nat.le_of_ble_eq_true rfl) ?_
  refine rl_nil ?_
  refine at_then ?_
  refine ct_ret ?_
  refine at_ret1 Try.results22 (ro_cell 2 ag24 rfl rfl rfl) (fun w1 hp => ?_)
  exact ⟨b1, trivial, rfl, hp.pick1 0 rfl⟩

theorem eqSchool_c (d : Int) (xs : List Student) (pa : Int) (le : Int) (vxs : Value) (uxs : Value) (w : World) (hsxs : SR w 5 vxs xs.length (flat encStudent xs)) (htxs : SR w 5 uxs xs.length (flat encStudent xs)) : Calls Try.prog 17 ([.agg (List.toArray (α := Value) [.int .i64 d, vxs, .int .i64 pa, .int .i64 le]), .agg (List.toArray (α := Value) [.int .i64 d, uxs, .int .i64 pa, .int .i64 le])]).toArray w (fun e w' => e = .returned (.bool true) ∧ Ext w w') := by
  obtain ⟨axs, capxs, rfl, hcapxs, hmaxxs⟩ := hsxs.slice
  obtain ⟨a2xs, cap2xs, rfl, _, _⟩ := htxs.slice
  refine calls_ct Try.func17 Try.ntmps17 rfl rfl ?_
  refine ct_seq ?_
  refine ct_reg ?_
  refine rl_box rfl rfl (fun N1 => ?_)
  refine rl_box rfl rfl (fun N2 => ?_)
  refine rl_val gw_none (ov_assign rfl) rfl ?_
  refine rl_nil ?_
  refine at_then ?_
  refine ct_seq ?_
  refine ct_seq ?_
  refine ct_reg ?_
  refine rl_val gw_none (ov_field fo24_0 rfl) rfl ?_
  first | refine rl_val gw_none (ov_load 1 sc3 rfl rfl rfl) rfl ?_ | refine rl_val gw_none (ov_load 1 sc3 rfl rfl (by assumption)) rfl ?_
  refine rl_val gw_none (ov_field fo24_0 rfl) rfl ?_
  first | refine rl_val gw_none (ov_load 0 sc3 rfl rfl rfl) rfl ?_ | refine rl_val gw_none (ov_load 0 sc3 rfl rfl (by assumption)) rfl ?_
  refine rl_val gw_none (ov_neq rfl rfl) rfl ?_
  refine rl_nil ?_
  refine at_then ?_
  first | refine ct_dec rfl (fun h1 => ?_) (fun h1 => ?_) | refine ct_ndec rfl (fun h1 => ?_) (fun h1 => ?_) | refine ct_eq rfl (fun h1 => ?_) (fun h1 => ?_) | refine ct_ne rfl (fun h1 => ?_) (fun h1 => ?_) | refine ct_not rfl (fun h1 => ?_) (fun h1 => ?_) | refine ct_cond rfl (fun h1 => ?_) (fun h1 => ?_)
  ·
    exfalso; first | omega | exact absurd rfl h1 | (simp at h1; done) | (simp_all; done)
  ·
    refine ct_skip ?_
    refine at_then ?_
    refine ct_seq ?_
    refine ct_seq ?_
    refine ct_reg ?_
    refine rl_val gw_none (ov_field fo24_1 rfl) rfl ?_
    first | refine rl_val gw_none (ov_load 1 sc22 rfl rfl rfl) rfl ?_ | refine rl_val gw_none (ov_load 1 sc22 rfl rfl (by assumption)) rfl ?_
    refine rl_val gw_none (ov_field fo24_1 rfl) rfl ?_
    first | refine rl_val gw_none (ov_load 0 sc22 rfl rfl rfl) rfl ?_ | refine rl_val gw_none (ov_load 0 sc22 rfl rfl (by assumption)) rfl ?_
    refine rl_callv gw_none goes53 rfl (fun w1 hp => eqStudentS_c xs _ _ _ (hsxs.ext hp.ext0) (htxs.ext hp.ext0)) rfl ?_
    refine rl_val gw_none (ov_not rfl) rfl ?_
    refine rl_nil ?_
    refine at_then ?_
    refine ct_false rfl rfl ?_
    refine ct_skip ?_
    refine at_then ?_
    refine ct_seq ?_
    refine ct_seq ?_
    refine ct_reg ?_
    refine rl_val gw_none (ov_field fo24_2 rfl) rfl ?_
    first | refine rl_val gw_none (ov_load 1 sc3 rfl rfl rfl) rfl ?_ | refine rl_val gw_none (ov_load 1 sc3 rfl rfl (by assumption)) rfl ?_
    refine rl_val gw_none (ov_field fo24_2 rfl) rfl ?_
    first | refine rl_val gw_none (ov_load 0 sc3 rfl rfl rfl) rfl ?_ | refine rl_val gw_none (ov_load 0 sc3 rfl rfl (by assumption)) rfl ?_
    refine rl_val gw_none (ov_neq rfl rfl) rfl ?_
    refine rl_nil ?_
    refine at_then ?_
    first | refine ct_dec rfl (fun h2 => ?_) (fun h2 => ?_) | refine ct_ndec rfl (fun h2 => ?_) (fun h2 => ?_) | refine ct_eq rfl (fun h2 => ?_) (fun h2 => ?_) | refine ct_ne rfl (fun h2 => ?_) (fun h2 => ?_) | refine ct_not rfl (fun h2 => ?_) (fun h2 => ?_) | refine ct_cond rfl (fun h2 => ?_) (fun h2 => ?_)
    ·
      exfalso; first | omega | exact absurd rfl h2 | (simp at h2; done) | (simp_all; done)
    ·
      refine ct_skip ?_
      refine at_then ?_
      refine ct_seq ?_
      refine ct_seq ?_
      refine ct_reg ?_
      refine rl_val gw_none (ov_field fo24_3 rfl) rfl ?_
      first | refine rl_val gw_none (ov_load 1 sc3 rfl rfl rfl) rfl ?_ | refine rl_val gw_none (ov_load 1 sc3 rfl rfl (by assumption)) rfl ?_
      refine rl_val gw_none (ov_field fo24_3 rfl) rfl ?_
      first | refine rl_val gw_none (ov_load 0 sc3 rfl rfl rfl) rfl ?_ | refine rl_val gw_none (ov_load 0 sc3 rfl rfl (by assumption)) rfl ?_
      refine rl_val gw_none (ov_neq rfl rfl) rfl ?_
      refine rl_nil ?_
      refine at_then ?_
      first | refine ct_dec rfl (fun h3 => ?_) (fun h3 => ?_) | refine ct_ndec rfl (fun h3 => ?_) (fun h3 => ?_) | refine ct_eq rfl (fun h3 => ?_) (fun h3 => ?_) | refine ct_ne rfl (fun h3 => ?_) (fun h3 => ?_) | refine ct_not rfl (fun h3 => ?_) (fun h3 => ?_) | refine ct_cond rfl (fun h3 => ?_) (fun h3 => ?_)
      ·
        exfalso; first | omega | exact absurd rfl h3 | (simp at h3; done) | (simp_all; done)
      ·
        refine ct_skip ?_
        refine at_then ?_
        refine ct_seq ?_
        refine ct_reg ?_
        refine rl_val gw_none (ov_assign rfl) rfl ?_
        refine rl_nil ?_
        refine at_then ?_
        refine ct_ret ?_
        refine at_ret1 Try.results17 (ro_tmp rfl) (fun w1 hp => ?_)
        exact ⟨rfl, hp.ext0⟩

theorem markSchool_s (d : Int) (pa : Int) (le : Int) (k0 : Int) (b len cap : Nat) (L : List Value) (w : World) (hh : w.heap[b]? = some (.cells L.toArray 69 (0, 0))) (hL : 5 * len ≤ L.length) (hk0 : 0 ≤ k0 ∧ k0 ≤ 1000000000000 ∧ len ≤ 1000000000000) : Calls Try.prog 18 ([.agg (List.toArray (α := Value) [.int .i64 d, .slice (some ⟨b, 0, none⟩) len cap, .int .i64 pa, .int .i64 le]), .int .i64 k0]).toArray w (fun e w' => e = .returned (.int .i64 (k0 + 5 * (len : Nat))) ∧ Turn w w' b ∧ w'.heap[b]? = some (.cells (ints (marks k0 (5 * len)) ++ L.drop (5 * len)).toArray 69 (0, 0))) := by
  refine calls_ctd hh Try.func18 Try.ntmps18 rfl rfl ?_
  refine ct_seq ?_
  refine ct_reg ?_
  refine rl_box rfl rfl (fun N1 => ?_)
  refine rl_val gw_none (ov_assign rfl) rfl ?_
  refine rl_nil ?_
  refine at_then ?_
  refine ct_seq ?_
  refine ct_reg ?_
  refine rl_val gw_none (ov_field fo24_1 rfl) rfl ?_
  first | refine rl_val gw_none (ov_load 0 sc22 rfl rfl rfl) rfl ?_ | refine rl_val gw_none (ov_load 0 sc22 rfl rfl (by assumption)) rfl ?_
  refine rl_val gw_none (ov_move rfl) rfl ?_
  refine rl_callw [_] goes54 rfl rfl (fun w1 hp => markStudentS_s _ _ _ _ _ _ (hp.at (i := 1) rfl) hL hk0) rfl ?_
  refine rl_val gw_none (ov_assign rfl) rfl ?_
  refine rl_nil ?_
  refine at_then ?_
  refine ct_seq ?_
  refine ct_reg ?_
  refine rl_val gw_none (ov_move rfl) rfl ?_
  refine rl_val gw_none (ov_assign rfl) rfl ?_
  refine rl_nil ?_
  refine at_then ?_
  refine ct_ret ?_
  refine at_ret1 Try.results18 (ro_tmp rfl) (fun w1 hp => ?_)
  exact ⟨rfl, hp.turn0, hp.at (i := 1) rfl⟩

theorem markSchool_n (d : Int) (pa : Int) (le : Int) (k0 : Int) (w : World) : Calls Try.prog 18 ([.agg (List.toArray (α := Value) [.int .i64 d, .slice none 0 0, .int .i64 pa, .int .i64 le]), .int .i64 k0]).toArray w (fun e w' => e = .returned (.int .i64 k0) ∧ Ext w w') := by
  refine calls_ct Try.func18 Try.ntmps18 rfl rfl ?_
  refine ct_seq ?_
  refine ct_reg ?_
  refine rl_box rfl rfl (fun N1 => ?_)
  refine rl_val gw_none (ov_assign rfl) rfl ?_
  refine rl_nil ?_
  refine at_then ?_
  refine ct_seq ?_
  refine ct_reg ?_
  refine rl_val gw_none (ov_field fo24_1 rfl) rfl ?_
  first | refine rl_val gw_none (ov_load 0 sc22 rfl rfl rfl) rfl ?_ | refine rl_val gw_none (ov_load 0 sc22 rfl rfl (by assumption)) rfl ?_
  refine rl_val gw_none (ov_move rfl) rfl ?_
  refine rl_callv gw_none goes54 rfl (fun w1 hp => markStudentS_n _ _) rfl ?_
  refine rl_val gw_none (ov_assign rfl) rfl ?_
  refine rl_nil ?_
  refine at_then ?_
  refine ct_seq ?_
  refine ct_reg ?_
  refine rl_val gw_none (ov_move rfl) rfl ?_
  refine rl_val gw_none (ov_assign rfl) rfl ?_
  refine rl_nil ?_
  refine at_then ?_
  refine ct_ret ?_
  refine at_ret1 Try.results18 (ro_tmp rfl) (fun w1 hp => ?_)
  exact ⟨rfl, hp.ext0⟩

theorem markSchool_m (d : Int) (pa : Int) (le : Int) (k0 : Int) (b len cap : Nat) (L : List Value) (w : World) (hh : w.heap[b]? = some (.cells L.toArray 69 (0, 0))) (hL : L.length = len * 5) (hk0 : 0 ≤ k0 ∧ k0 ≤ 1000000000000 ∧ len ≤ 1000000000000) :
    Calls Try.prog 18 [.agg (List.toArray (α := Value) [.int .i64 d, .slice (some ⟨b, 0, none⟩) len cap, .int .i64 pa, .int .i64 le]), .int .i64 k0].toArray w (fun e w' => e = .returned (.int .i64 (k0 + 5 * (len : Nat))) ∧ Turn w w' b) :=
  (markSchool_s d pa le k0 b len cap L w hh (by rw [hL, Nat.mul_comm]; exact Nat.le_refl _) hk0).mono fun e w' ⟨he, ht, _⟩ => ⟨he, ht⟩

theorem markSchool_o (d : Int) (pa : Int) (le : Int) (k0 : Int) {bo : Option Nat} {len cap : Nat} {xs pad : List Value} (hsl : Sl 5 bo len cap xs pad) (w : World) (hh : ∀ b, bo = some b → w.heap[b]? = some (.cells (xs ++ pad).toArray 69 (0, 0))) (hk0 : 0 ≤ k0 ∧ k0 ≤ 1000000000000 ∧ len ≤ 1000000000000) :
    Calls Try.prog 18 [.agg (List.toArray (α := Value) [.int .i64 d, sv bo len cap, .int .i64 pa, .int .i64 le]), .int .i64 k0].toArray w (fun e w' => e = .returned (.int .i64 (k0 + 5 * (len : Nat))) ∧ Wrote bo 69 (ints (marks k0 (5 * len)) ++ (xs ++ pad).drop (5 * len)) w w') := by
  cases bo with
  | none =>
    obtain ⟨rfl, rfl⟩ := hsl.nil rfl
    have hnil : xs ++ pad = [] := List.length_eq_zero_iff.1 (by rw [hsl.lp, Nat.zero_mul])
    refine (markSchool_n d pa le k0 w).mono fun e w' ⟨he, hx⟩ => ⟨by rw [he]; simp, ?_, hx⟩
    rw [hnil]; simp [marks, ints]
  | some b =>
    have hle := hsl.le
    have := Nat.mul_le_mul_right 5 hle
    exact (markSchool_s d pa le k0 b len cap (xs ++ pad) w (hh b rfl) (by rw [hsl.lp]; omega) hk0).mono fun e w' ⟨he, ht, hc⟩ => ⟨he, ht, hc⟩

theorem heldSchool_c (d : Int) (pa : Int) (le : Int) (k0 : Int) (len : Nat) (v : Value) (w : World) (hsr : SR w 5 v len (ints (marks k0 (5 * len)))) (hk0 : 0 ≤ k0 ∧ k0 ≤ 1000000000000 ∧ len ≤ 1000000000000) : Calls Try.prog 19 ([.agg (List.toArray (α := Value) [.int .i64 d, v, .int .i64 pa, .int .i64 le]), .int .i64 k0]).toArray w (fun e w' => e = .returned (.int .i64 (k0 + 5 * (len : Nat))) ∧ Ext w w') := by
  obtain ⟨a, cap, rfl, hcap, hmax⟩ := hsr.slice
  refine calls_ct Try.func19 Try.ntmps19 rfl rfl ?_
  refine ct_seq ?_
  refine ct_reg ?_
  refine rl_box rfl rfl (fun N1 => ?_)
  refine rl_val gw_none (ov_assign rfl) rfl ?_
  refine rl_nil ?_
  refine at_then ?_
  refine ct_seq ?_
  refine ct_reg ?_
  refine rl_val gw_none (ov_field fo24_1 rfl) rfl ?_
  first | refine rl_val gw_none (ov_load 0 sc22 rfl rfl rfl) rfl ?_ | refine rl_val gw_none (ov_load 0 sc22 rfl rfl (by assumption)) rfl ?_
  refine rl_val gw_none (ov_move rfl) rfl ?_
  refine rl_callv gw_none goes55 rfl (fun w1 hp => heldStudentS_c _ _ _ _ (hsr.ext hp.ext0) hk0) rfl ?_
  refine rl_val gw_none (ov_assign rfl) rfl ?_
  refine rl_nil ?_
  refine at_then ?_
  refine ct_seq ?_
  refine ct_seq ?_
  refine ct_reg ?_
  refine rl_val gw_none (ov_move rfl) rfl ?_
  refine rl_val gw_none (ov_lss rfl rfl) rfl ?_
  refine rl_nil ?_
  refine at_then ?_
  first | refine ct_dec rfl (fun h1 => ?_) (fun h1 => ?_) | refine ct_ndec rfl (fun h1 => ?_) (fun h1 => ?_) | refine ct_eq rfl (fun h1 => ?_) (fun h1 => ?_) | refine ct_ne rfl (fun h1 => ?_) (fun h1 => ?_) | refine ct_not rfl (fun h1 => ?_) (fun h1 => ?_) | refine ct_cond rfl (fun h1 => ?_) (fun h1 => ?_)
  ·
    exfalso; first | omega | exact absurd rfl h1 | (simp at h1; done) | (simp_all; done)
  ·
    refine ct_skip ?_
    refine at_then ?_
    refine ct_seq ?_
    refine ct_reg ?_
    refine rl_val gw_none (ov_move rfl) rfl ?_
    refine rl_val gw_none (ov_assign rfl) rfl ?_
    refine rl_nil ?_
    refine at_then ?_
    refine ct_ret ?_
    refine at_ret1 Try.results19 (ro_tmp rfl) (fun w1 hp => ?_)
    exact ⟨rfl, hp.ext0⟩
end Go.Proofs.Ytacaoicpmhdioaa
