import Derived.Test.YtacaoicpmhdioaaTa
import Derived.KernelRfl
set_option linter.unusedVariables false
set_option linter.unusedSimpArgs false
namespace Go.Proofs.Ytacaoicpmhdioaa
open Go Go.RowKit K
theorem sNewSchool_c (n : Int) (w : World) (zn : In64 n) : Calls Try.prog 15 ([.int .i64 n]).toArray w (fun e w' => RetSl 69 5 ([]) (0) (fun s => .tuple #[.agg [.int .i64 (newD n), s, .int .i64 0, .int .i64 0].toArray, .bool (inB n 0 4000)]) w e w') := by
  refine calls_ct Try.func15 Try.ntmps15 rfl rfl ?_
  refine ct_seq ?_
  refine ct_reg ?_
  refine rl_alloc ze24 rfl (fun N1 => ?_)
  refine rl_val gw_none (ov_assign rfl) rfl ?_
  refine rl_nil ?_
  refine at_then ?_
  refine ct_seq ?_
  refine ct_seq ?_
  refine ct_reg ?_
  refine rl_val gw_none (ov_move rfl) rfl ?_
  refine rl_callv gw_none goes51 rfl (fun w1 hp => l2Day_c _ _) rfl ?_
  refine rl_val gw_none (ov_not rfl) rfl ?_
  refine rl_nil ?_
  refine at_then ?_
  first | refine ct_dec rfl (fun h1 => ?_) (fun h1 => ?_) | refine ct_ndec rfl (fun h1 => ?_) (fun h1 => ?_) | refine ct_eq rfl (fun h1 => ?_) (fun h1 => ?_) | refine ct_ne rfl (fun h1 => ?_) (fun h1 => ?_) | refine ct_not rfl (fun h1 => ?_) (fun h1 => ?_) | refine ct_cond rfl (fun h1 => ?_) (fun h1 => ?_)
  ·
    refine ct_seq ?_
    refine ct_reg ?_
    refine rl_val gw_none (ov_build rfl (bu24_)) rfl ?_
    refine rl_store [] sz24 rfl rfl rfl rfl rfl (Nat.le_of_ble_eq_true rfl) ?_
    refine rl_val gw_none (ov_assign rfl) rfl ?_
    refine rl_nil ?_
    refine at_then ?_
    refine ct_ret ?_
    refine at_then_ret ?_
    first | refine at_ret2 Try.results15 (ro_cell 0 ag24 rfl rfl rfl) (ro_tmp rfl) (fun w1 hp => ?_) | refine at_ret2 Try.results15 (ro_cell 1 ag24 rfl rfl rfl) (ro_tmp rfl) (fun w1 hp => ?_) | refine at_ret2 Try.results15 (ro_cell 2 ag24 rfl rfl rfl) (ro_tmp rfl) (fun w1 hp => ?_) | refine at_ret2 Try.results15 (ro_cell 3 ag24 rfl rfl rfl) (ro_tmp rfl) (fun w1 hp => ?_)
    first | (rw [show newD n = 0 by unfold newD; rw [if_neg (by simpa using h1)], show inB n 0 4000 = false by simpa using h1]; exact RetSl.nil hp.ext0) | (rw [show newD n = n by unfold newD; rw [if_pos (by simpa using h1)], show inB n 0 4000 = true by simpa using h1]; first | exact RetSl.nil hp.ext0 | exact RetSl.lit 0 hp rfl rfl (by decide))
  ·
    refine ct_skip ?_
    refine at_then ?_
    refine ct_seq ?_
    refine ct_reg ?_
    refine rl_val gw_none (ov_move rfl) rfl ?_
    refine rl_bslice Try.underlying22 ze69 sz69 rfl rfl rfl rfl rfl rfl (fun N2 => ?_)
    refine rl_val gw_none (ov_build rfl (bu24_0_1 _ _ _ _)) rfl ?_
    refine rl_store [_] sz24 rfl rfl rfl rfl rfl (Nat.le_of_ble_eq_true rfl) ?_
    refine rl_val gw_none (ov_assign rfl) rfl ?_
    refine rl_nil ?_
    refine at_then ?_
    refine ct_ret ?_
    first | refine at_ret2 Try.results15 (ro_cell 0 ag24 rfl rfl rfl) (ro_tmp rfl) (fun w1 hp => ?_) | refine at_ret2 Try.results15 (ro_cell 1 ag24 rfl rfl rfl) (ro_tmp rfl) (fun w1 hp => ?_) | refine at_ret2 Try.results15 (ro_cell 2 ag24 rfl rfl rfl) (ro_tmp rfl) (fun w1 hp => ?_) | refine at_ret2 Try.results15 (ro_cell 3 ag24 rfl rfl rfl) (ro_tmp rfl) (fun w1 hp => ?_)
    first | (rw [show newD n = 0 by unfold newD; rw [if_neg (by simpa using h1)], show inB n 0 4000 = false by simpa using h1]; exact RetSl.nil hp.ext0) | (rw [show newD n = n by unfold newD; rw [if_pos (by simpa using h1)], show inB n 0 4000 = true by simpa using h1]; first | exact RetSl.nil hp.ext0 | exact RetSl.lit 0 hp rfl rfl (by decide))

theorem iNewSchool_c (n : Int) (w : World) (zn : In64 n) : Calls Try.prog 16 ([.int .i64 n]).toArray w (fun e w' => RetSl 69 5 ([]) (0) (fun s => .tuple #[.agg [.int .i64 (newD n), s, .int .i64 0, .int .i64 0].toArray, .bool (inB n 0 4000)]) w e w') := by
  refine calls_ct Try.func16 Try.ntmps16 rfl rfl ?_
  refine ct_seq ?_
  refine ct_reg ?_
  refine rl_alloc ze24 rfl (fun N1 => ?_)
  refine rl_val gw_none (ov_assign rfl) rfl ?_
  refine rl_nil ?_
  refine at_then ?_
  refine ct_seq ?_
  refine ct_seq ?_
  refine ct_reg ?_
  refine rl_val gw_none (ov_move rfl) rfl ?_
  refine rl_callv gw_none goes52 rfl (fun w1 hp => isDay_c _ _) rfl ?_
  refine rl_val gw_none (ov_not rfl) rfl ?_
  refine rl_nil ?_
  refine at_then ?_
  first | refine ct_dec rfl (fun h1 => ?_) (fun h1 => ?_) | refine ct_ndec rfl (fun h1 => ?_) (fun h1 => ?_) | refine ct_eq rfl (fun h1 => ?_) (fun h1 => ?_) | refine ct_ne rfl (fun h1 => ?_) (fun h1 => ?_) | refine ct_not rfl (fun h1 => ?_) (fun h1 => ?_) | refine ct_cond rfl (fun h1 => ?_) (fun h1 => ?_)
  ·
    refine ct_seq ?_
    refine ct_reg ?_
    refine rl_val gw_none (ov_build rfl (bu24_)) rfl ?_
    refine rl_store [] sz24 rfl rfl rfl rfl rfl (Nat.le_of_ble_eq_true rfl) ?_
    refine rl_val gw_none (ov_assign rfl) rfl ?_
    refine rl_nil ?_
    refine at_then ?_
    refine ct_ret ?_
    refine at_then_ret ?_
    first | refine at_ret2 Try.results16 (ro_cell 0 ag24 rfl rfl rfl) (ro_tmp rfl) (fun w1 hp => ?_) | refine at_ret2 Try.results16 (ro_cell 1 ag24 rfl rfl rfl) (ro_tmp rfl) (fun w1 hp => ?_) | refine at_ret2 Try.results16 (ro_cell 2 ag24 rfl rfl rfl) (ro_tmp rfl) (fun w1 hp => ?_) | refine at_ret2 Try.results16 (ro_cell 3 ag24 rfl rfl rfl) (ro_tmp rfl) (fun w1 hp => ?_)
    first | (rw [show newD n = 0 by unfold newD; rw [if_neg (by simpa using h1)], show inB n 0 4000 = false by simpa using h1]; exact RetSl.nil hp.ext0) | (rw [show newD n = n by unfold newD; rw [if_pos (by simpa using h1)], show inB n 0 4000 = true by simpa using h1]; first | exact RetSl.nil hp.ext0 | exact RetSl.lit 0 hp rfl rfl (by decide))
  ·
    refine ct_skip ?_
    refine at_then ?_
    refine ct_seq ?_
    refine ct_reg ?_
    refine rl_val gw_none (ov_move rfl) rfl ?_
    refine rl_val gw_none (ov_build rfl (bu24_0 _)) rfl ?_
    refine rl_store [] sz24 rfl rfl rfl rfl rfl (Nat.le_of_ble_eq_true rfl) ?_
    refine rl_val gw_none (ov_assign rfl) rfl ?_
    refine rl_nil ?_
    refine at_then ?_
    refine ct_ret ?_
    first | refine at_ret2 Try.results16 (ro_cell 0 ag24 rfl rfl rfl) (ro_tmp rfl) (fun w1 hp => ?_) | refine at_ret2 Try.results16 (ro_cell 1 ag24 rfl rfl rfl) (ro_tmp rfl) (fun w1 hp => ?_) | refine at_ret2 Try.results16 (ro_cell 2 ag24 rfl rfl rfl) (ro_tmp rfl) (fun w1 hp => ?_) | refine at_ret2 Try.results16 (ro_cell 3 ag24 rfl rfl rfl) (ro_tmp rfl) (fun w1 hp => ?_)
    first | (rw [show newD n = 0 by unfold newD; rw [if_neg (by simpa using h1)], show inB n 0 4000 = false by simpa using h1]; exact RetSl.nil hp.ext0) | (rw [show newD n = n by unfold newD; rw [if_pos (by simpa using h1)], show inB n 0 4000 = true by simpa using h1]; first | exact RetSl.nil hp.ext0 | exact RetSl.lit 0 hp rfl rfl (by decide))
end Go.Proofs.Ytacaoicpmhdioaa
