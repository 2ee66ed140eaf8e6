import Derived.Test.YtaajkamfeaafpaaTf
import Derived.KernelRfl
set_option linter.unusedVariables false
set_option linter.unusedSimpArgs false
namespace Go.Proofs.Ytaajkamfeaafpaa
open Go Go.RowKit K
theorem repairAt_c (xs : List Repair) (fr : Int) (v : Value) (w : World) (hsxs : SR w 5 v xs.length (flat encRepair xs)) : Calls Try.prog 82 ([v, .int .i64 fr]).toArray w (fun e w' => e = .returned (.int .i64 (findP (byFrame fr) xs)) ∧ Ext w w') := by
  obtain ⟨a, cap, rfl, hcap, hmax⟩ := hsxs.slice
  have hlen := hsxs.len_le
  refine calls_ct Try.func82 Try.ntmps82 rfl rfl ?_
  refine ct_seq ?_
  refine ct_reg ?_
  refine rl_val gw_none (ov_assign rfl) rfl ?_
  refine rl_nil ?_
  refine at_then ?_
  refine ct_seq ?_
  refine ct_seq ?_
  refine ct_reg ?_
  refine rl_val gw_none (ov_move rfl) rfl ?_
  refine rl_val gw_none (ov_len Try.underlying37 rfl) rfl ?_
  refine rl_val gw_none (ov_move rfl) rfl ?_
  refine rl_nil ?_
  refine at_then ?_
  refine ct_block ?_
  refine ct_loopR (ι := Nat) (fun k => [(9, .int .i64 k)]) [(1, _), (7, _), (8, _)] (fun _ => _) (fun k => k ≤ xs.length ∧ ∀ j, j < k → ∀ y, xs[j]? = some y → byFrame fr y = false) (fun k => xs.length - k) (0) (Sub.cons rfl (Sub.cons rfl (Sub.cons rfl Sub.nil))) (fun _ hq => hq) (by (repeat' (first | exact Sub.nil | refine Sub.cons ?_ ?_)); all_goals (first | rfl | exact lkInt rfl (by omega))) ⟨Nat.zero_le _, fun j hj => absurd hj (Nat.not_lt_zero j)⟩ (fun k hi => ?_)
  obtain ⟨hk, hall⟩ := hi
  refine ct_seq ?_
  refine ct_reg ?_
  refine rl_val gw_none (ov_lss rfl rfl) rfl ?_
  refine rl_nil ?_
  refine at_then ?_
  refine ct_seq ?_
  first | refine ct_dec rfl (fun h1 => ?_) (fun h1 => ?_) | refine ct_ndec rfl (fun h1 => ?_) (fun h1 => ?_) | refine ct_eq rfl (fun h1 => ?_) (fun h1 => ?_) | refine ct_ne rfl (fun h1 => ?_) (fun h1 => ?_) | refine ct_not rfl (fun h1 => ?_) (fun h1 => ?_) | refine ct_cond rfl (fun h1 => ?_) (fun h1 => ?_)
  ·
    have hk2 : k < xs.length := by first | omega | simpa using h1
    obtain ⟨b, o, rfl, hel⟩ := hsxs.elem encRepair_len (by omega) hk2
    have hx := getLt hk2
    generalize xs[k] = x at *
    have hcx := hel k x hx
    obtain ⟨c0, c1, c2, c3, c4, _⟩ := hel k x hx
    refine ct_skip ?_
    refine at_then ?_
    refine ct_seq ?_
    refine ct_block ?_
    refine ct_seq ?_
    refine ct_reg ?_
    refine rl_val gw_none (ov_move rfl) rfl ?_
    refine rl_val gw_none (ov_ix Try.underlying37 sz53 rfl rfl _ rfl (by omega)) rfl ?_
    first | refine rl_val gw_none (ov_loadaw ag53 rfl rfl (by assumption)) rfl ?_ | refine rl_val gw_none (ov_loadall 0 ag53 rfl rfl rfl) rfl ?_ | refine rl_val gw_none (ov_loadall 1 ag53 rfl rfl rfl) rfl ?_ | refine rl_val gw_none (ov_loadall 2 ag53 rfl rfl rfl) rfl ?_ | refine rl_val gw_none (ov_loadall 3 ag53 rfl rfl rfl) rfl ?_
    refine rl_alloc ze53 rfl (fun N1 => ?_)
    refine rl_val gw_none (ov_assign rfl) rfl ?_
    refine rl_store [] sz53 rfl rfl rfl rfl rfl (Nat.le_of_ble_eq_true rfl) ?_
    refine rl_nil ?_
    refine at_then ?_
    refine ct_seq ?_
    refine ct_reg ?_
    refine rl_val gw_none (ov_field fo53_0 rfl) rfl ?_
    first | refine rl_val gw_none (ov_load 0 sc3 rfl rfl rfl) rfl ?_ | refine rl_val gw_none (ov_load 0 sc3 rfl rfl (by assumption)) rfl ?_
    refine rl_val gw_none (ov_move rfl) rfl ?_
    refine rl_val gw_none (ov_eql rfl rfl) rfl ?_
    refine rl_nil ?_
    refine at_then ?_
    first | refine ct_dec rfl (fun h2 => ?_) (fun h2 => ?_) | refine ct_ndec rfl (fun h2 => ?_) (fun h2 => ?_) | refine ct_eq rfl (fun h2 => ?_) (fun h2 => ?_) | refine ct_ne rfl (fun h2 => ?_) (fun h2 => ?_) | refine ct_not rfl (fun h2 => ?_) (fun h2 => ?_) | refine ct_cond rfl (fun h2 => ?_) (fun h2 => ?_)
    ·
      refine ct_seq ?_
      refine ct_reg ?_
      refine rl_val gw_none (ov_move rfl) rfl ?_
      refine rl_val gw_none (ov_assign rfl) rfl ?_
      refine rl_nil ?_
      refine at_then ?_
      refine ct_ret ?_
      refine at_block_ret ?_
      refine at_then_ret ?_
      refine at_then_ret ?_
      refine at_block_ret ?_
      refine at_then_ret ?_
      refine at_ret1 Try.results82 (ro_tmp rfl) (fun w1 hp => ?_)
      refine ⟨?_, hp.ext0⟩
      first | (rw [findP_miss hall]; done) | (rw [findP_hit hx (by simpa using h2) hall]; done)
    ·
      refine ct_skip ?_
      refine at_block ?_
      refine at_then ?_
      refine ct_reg ?_
      refine rl_val gw_none (ov_add rfl rfl (by omega)) rfl ?_
      refine rl_val gw_none (ov_move rfl) rfl ?_
      refine rl_nil ?_
      exact at_backR (k + 1) ⟨hk2, fun j hj y hy => by by_cases hjk : j = k; exact (by subst hjk; rw [hx] at hy; obtain rfl := Option.some.inj hy; simpa using h2); exact hall j (by omega) y hy⟩ (by first | exact True.intro | omega | (dsimp only; omega) | (dsimp only at *; omega)) (by (repeat' (first | exact Sub.nil | refine Sub.cons ?_ ?_)); all_goals (first | rfl | exact lkInt rfl (by omega))) (Sub.cons rfl (Sub.cons rfl (Sub.cons rfl Sub.nil))) (fun _ hq => hq.drop)
  ·
    have hke : k = xs.length := by first | omega | (have := of_decide_eq_false h1; omega)
    subst hke
    refine ct_exit ?_
    refine at_then_exit ?_
    refine at_then_exit ?_
    refine at_block_hit ?_
    refine at_then ?_
    refine ct_seq ?_
    refine ct_reg ?_
    refine rl_val gw_none (ov_assign rfl) rfl ?_
    refine rl_nil ?_
    refine at_then ?_
    refine ct_ret ?_
    refine at_ret1 Try.results82 (ro_tmp rfl) (fun w1 hp => ?_)
    refine ⟨?_, hp.ext0⟩
    first | (rw [findP_miss hall]; done) | (rw [findP_hit hx (by simpa using h2) hall]; done)

theorem costOf_c (ws : List Wood) (r : Repair) (vws : Value) (w : World) (hsws : SR w 3 vws ws.length (flat encWood ws)) (hw : woodsB ws = true) (hr : repairB ws.length r = true) : Calls Try.prog 86 ([vws, .agg (encRepair r).toArray]).toArray w (fun e w' => e = .returned (.int .i64 (costR ws r)) ∧ Ext w w') := by
  obtain ⟨aw, capw, rfl, hcapw, hmaxw⟩ := hsws.slice
  have hlenw := hsws.len_le
  obtain ⟨x, hx, hw0, hlt, hbe, hro, hdu, hha, hco, hmul⟩ := repair_ok hw hr
  obtain ⟨b, o, rfl, hel⟩ := hsws.elem encWood_len (by omega) hlt
  obtain ⟨c0, c1, c2, _⟩ := hel _ x hx
  refine calls_ct Try.func86 Try.ntmps86 rfl rfl ?_
  refine ct_seq ?_
  refine ct_reg ?_
  refine rl_box rfl rfl (fun N1 => ?_)
  refine rl_val gw_none (ov_assign rfl) rfl ?_
  refine rl_nil ?_
  refine at_then ?_
  refine ct_seq ?_
  refine ct_dr 14 (by kernel_rfl) (by kernel_rfl) ?_
  refine ql_val gw_none (ov_field fo53_2 rfl) rfl ?_
  first | refine ql_val gw_none (ov_load 0 sc3 rfl rfl rfl) rfl ?_ | refine ql_val gw_none (ov_load 0 sc3 rfl rfl (by assumption)) rfl ?_
  refine ql_val gw_none (ov_move rfl) rfl ?_
  refine ql_val gw_none (ov_field fo53_1 rfl) rfl ?_
  first | refine ql_val gw_none (ov_load 0 sc3 rfl rfl rfl) rfl ?_ | refine ql_val gw_none (ov_load 0 sc3 rfl rfl (by assumption)) rfl ?_
  first | refine ql_val gw_none (ov_ix Try.underlying25 sz67 rfl rfl _ rfl (by omega)) rfl ?_ | refine ql_val gw_none (ov_ix Try.underlying25 sz67 rfl rfl (r.wood.toNat) (by omega) (by omega)) rfl ?_
  refine ql_val gw_none (ov_field fo67_2 rfl) rfl ?_
  first | refine ql_val gw_none (ov_load 0 sc3 rfl rfl rfl) rfl ?_ | refine ql_val gw_none (ov_load 1 sc3 rfl rfl rfl) rfl ?_ | refine ql_val gw_none (ov_load 2 sc3 rfl rfl rfl) rfl ?_ | refine ql_val gw_none (ov_load 3 sc3 rfl rfl rfl) rfl ?_ | refine ql_val gw_none (ov_loadw sc3 rfl (by assumption)) rfl ?_ | refine ql_val gw_none (ov_load 0 sc3 rfl rfl (by assumption)) rfl ?_ | refine ql_val gw_none (ov_load 1 sc3 rfl rfl (by assumption)) rfl ?_ | refine ql_val gw_none (ov_load 2 sc3 rfl rfl (by assumption)) rfl ?_ | refine ql_val gw_none (ov_load 3 sc3 rfl rfl (by assumption)) rfl ?_
  refine ql_val gw_none (ov_mul rfl rfl (by omega)) rfl ?_
  refine ql_val gw_none (ov_field fo53_3 rfl) rfl ?_
  first | refine ql_val gw_none (ov_load 0 sc3 rfl rfl rfl) rfl ?_ | refine ql_val gw_none (ov_load 0 sc3 rfl rfl (by assumption)) rfl ?_
  refine ql_val gw_none (ov_mul rfl rfl (by omega)) rfl ?_
  refine ql_val gw_none (ov_add rfl rfl (by omega)) rfl ?_
  refine ql_val gw_none (ov_assign rfl) rfl ?_
  refine ql_nil ?_
  refine rl_nil ?_
  refine at_then ?_
  refine ct_ret ?_
  refine at_ret1 Try.results86 (ro_tmp rfl) (fun w1 hp => ?_)
  refine ⟨?_, hp.ext0⟩
  rw [costR_eq hx]; first | done | rfl | (rw [if_pos (by omega)]; done) | (rw [if_neg (by omega)]; done)

theorem l23Cost_c (ws : List Wood) (r : Repair) (vws : Value) (w : World) (hsws : SR w 3 vws ws.length (flat encWood ws)) (hw : woodsB ws = true) (hr : repairB ws.length r = true) : Calls Try.prog 85 ([vws, .agg (encRepair r).toArray]).toArray w (fun e w' => e = .returned (.int .i64 (costR ws r)) ∧ Ext w w') := by
  obtain ⟨aw, capw, rfl, hcapw, hmaxw⟩ := hsws.slice
  have hlenw := hsws.len_le
  obtain ⟨x, hx, hw0, hlt, hbe, hro, hdu, hha, hco, hmul⟩ := repair_ok hw hr
  obtain ⟨b, o, rfl, hel⟩ := hsws.elem encWood_len (by omega) hlt
  obtain ⟨c0, c1, c2, _⟩ := hel _ x hx
  refine calls_ct Try.func85 Try.ntmps85 rfl rfl ?_
  refine ct_seq ?_
  refine ct_reg ?_
  refine rl_box rfl rfl (fun N1 => ?_)
  refine rl_val gw_none (ov_assign rfl) rfl ?_
  refine rl_nil ?_
  refine at_then ?_
  refine ct_seq ?_
  refine ct_dr 14 (by kernel_rfl) (by kernel_rfl) ?_
  refine ql_val gw_none (ov_field fo53_2 rfl) rfl ?_
  first | refine ql_val gw_none (ov_load 0 sc3 rfl rfl rfl) rfl ?_ | refine ql_val gw_none (ov_load 0 sc3 rfl rfl (by assumption)) rfl ?_
  refine ql_val gw_none (ov_move rfl) rfl ?_
  refine ql_val gw_none (ov_field fo53_1 rfl) rfl ?_
  first | refine ql_val gw_none (ov_load 0 sc3 rfl rfl rfl) rfl ?_ | refine ql_val gw_none (ov_load 0 sc3 rfl rfl (by assumption)) rfl ?_
  first | refine ql_val gw_none (ov_ix Try.underlying25 sz67 rfl rfl _ rfl (by omega)) rfl ?_ | refine ql_val gw_none (ov_ix Try.underlying25 sz67 rfl rfl (r.wood.toNat) (by omega) (by omega)) rfl ?_
  refine ql_val gw_none (ov_field fo67_2 rfl) rfl ?_
  first | refine ql_val gw_none (ov_load 0 sc3 rfl rfl rfl) rfl ?_ | refine ql_val gw_none (ov_load 1 sc3 rfl rfl rfl) rfl ?_ | refine ql_val gw_none (ov_load 2 sc3 rfl rfl rfl) rfl ?_ | refine ql_val gw_none (ov_load 3 sc3 rfl rfl rfl) rfl ?_ | refine ql_val gw_none (ov_loadw sc3 rfl (by assumption)) rfl ?_ | refine ql_val gw_none (ov_load 0 sc3 rfl rfl (by assumption)) rfl ?_ | refine ql_val gw_none (ov_load 1 sc3 rfl rfl (by assumption)) rfl ?_ | refine ql_val gw_none (ov_load 2 sc3 rfl rfl (by assumption)) rfl ?_ | refine ql_val gw_none (ov_load 3 sc3 rfl rfl (by assumption)) rfl ?_
  refine ql_val gw_none (ov_mul rfl rfl (by omega)) rfl ?_
  refine ql_val gw_none (ov_field fo53_3 rfl) rfl ?_
  first | refine ql_val gw_none (ov_load 0 sc3 rfl rfl rfl) rfl ?_ | refine ql_val gw_none (ov_load 0 sc3 rfl rfl (by assumption)) rfl ?_
  refine ql_val gw_none (ov_mul rfl rfl (by omega)) rfl ?_
  refine ql_val gw_none (ov_add rfl rfl (by omega)) rfl ?_
  refine ql_val gw_none (ov_assign rfl) rfl ?_
  refine ql_nil ?_
  refine rl_nil ?_
  refine at_then ?_
  refine ct_ret ?_
  refine at_ret1 Try.results85 (ro_tmp rfl) (fun w1 hp => ?_)
  refine ⟨?_, hp.ext0⟩
  rw [costR_eq hx]; first | done | rfl | (rw [if_pos (by omega)]; done) | (rw [if_neg (by omega)]; done)

theorem minutesFor_c (ws : List Wood) (r : Repair) (vws : Value) (w : World) (hsws : SR w 3 vws ws.length (flat encWood ws)) (hw : woodsB ws = true) (hr : repairB ws.length r = true) : Calls Try.prog 78 ([vws, .agg (encRepair r).toArray]).toArray w (fun e w' => e = .returned (.int .i64 (minR ws r)) ∧ Ext w w') := by
  obtain ⟨aw, capw, rfl, hcapw, hmaxw⟩ := hsws.slice
  have hlenw := hsws.len_le
  obtain ⟨x, hx, hw0, hlt, hbe, hro, hdu, hha, hco, hmul⟩ := repair_ok hw hr
  obtain ⟨b, o, rfl, hel⟩ := hsws.elem encWood_len (by omega) hlt
  obtain ⟨c0, c1, c2, _⟩ := hel _ x hx
  refine calls_ct Try.func78 Try.ntmps78 rfl rfl ?_
  refine ct_seq ?_
  refine ct_reg ?_
  refine rl_box rfl rfl (fun N1 => ?_)
  refine rl_val gw_none (ov_assign rfl) rfl ?_
  refine rl_nil ?_
  refine at_then ?_
  refine ct_seq ?_
  refine ct_seq ?_
  refine ct_reg ?_
  refine rl_val gw_none (ov_move rfl) rfl ?_
  refine rl_val gw_none (ov_field fo53_1 rfl) rfl ?_
  first | refine rl_val gw_none (ov_load 0 sc3 rfl rfl rfl) rfl ?_ | refine rl_val gw_none (ov_load 0 sc3 rfl rfl (by assumption)) rfl ?_
  first | refine rl_val gw_none (ov_ix Try.underlying25 sz67 rfl rfl _ rfl (by omega)) rfl ?_ | refine rl_val gw_none (ov_ix Try.underlying25 sz67 rfl rfl (r.wood.toNat) (by omega) (by omega)) rfl ?_
  refine rl_val gw_none (ov_field fo67_1 rfl) rfl ?_
  first | refine rl_val gw_none (ov_load 0 sc3 rfl rfl rfl) rfl ?_ | refine rl_val gw_none (ov_load 1 sc3 rfl rfl rfl) rfl ?_ | refine rl_val gw_none (ov_load 2 sc3 rfl rfl rfl) rfl ?_ | refine rl_val gw_none (ov_load 3 sc3 rfl rfl rfl) rfl ?_ | refine rl_val gw_none (ov_loadw sc3 rfl (by assumption)) rfl ?_ | refine rl_val gw_none (ov_load 0 sc3 rfl rfl (by assumption)) rfl ?_ | refine rl_val gw_none (ov_load 1 sc3 rfl rfl (by assumption)) rfl ?_ | refine rl_val gw_none (ov_load 2 sc3 rfl rfl (by assumption)) rfl ?_ | refine rl_val gw_none (ov_load 3 sc3 rfl rfl (by assumption)) rfl ?_
  refine rl_val gw_none (ov_geq rfl rfl) rfl ?_
  refine rl_nil ?_
  refine at_then ?_
  first | refine ct_dec rfl (fun h1 => ?_) (fun h1 => ?_) | refine ct_ndec rfl (fun h1 => ?_) (fun h1 => ?_) | refine ct_eq rfl (fun h1 => ?_) (fun h1 => ?_) | refine ct_ne rfl (fun h1 => ?_) (fun h1 => ?_) | refine ct_not rfl (fun h1 => ?_) (fun h1 => ?_) | refine ct_cond rfl (fun h1 => ?_) (fun h1 => ?_)
  ·
    refine ct_seq ?_
    refine ct_reg ?_
    refine rl_val gw_none (ov_field fo53_2 rfl) rfl ?_
    first | refine rl_val gw_none (ov_load 0 sc3 rfl rfl rfl) rfl ?_ | refine rl_val gw_none (ov_load 0 sc3 rfl rfl (by assumption)) rfl ?_
    refine rl_val gw_none (ov_mul rfl rfl (by omega)) rfl ?_
    refine rl_val gw_none (ov_field fo53_3 rfl) rfl ?_
    first | refine rl_val gw_none (ov_load 0 sc3 rfl rfl rfl) rfl ?_ | refine rl_val gw_none (ov_load 0 sc3 rfl rfl (by assumption)) rfl ?_
    refine rl_val gw_none (ov_mul rfl rfl (by omega)) rfl ?_
    refine rl_val gw_none (ov_add rfl rfl (by omega)) rfl ?_
    refine rl_val gw_none (ov_assign rfl) rfl ?_
    refine rl_nil ?_
    refine at_then ?_
    refine ct_ret ?_
    refine at_then_ret ?_
    refine at_ret1 Try.results78 (ro_tmp rfl) (fun w1 hp => ?_)
    refine ⟨?_, hp.ext0⟩
    rw [minR_eq hx]; first | done | rfl | (rw [if_pos (by omega)]; done) | (rw [if_neg (by omega)]; done)
  ·
    refine ct_skip ?_
    refine at_then ?_
    refine ct_seq ?_
    refine ct_reg ?_
    refine rl_val gw_none (ov_field fo53_2 rfl) rfl ?_
    first | refine rl_val gw_none (ov_load 0 sc3 rfl rfl rfl) rfl ?_ | refine rl_val gw_none (ov_load 0 sc3 rfl rfl (by assumption)) rfl ?_
    refine rl_val gw_none (ov_mul rfl rfl (by omega)) rfl ?_
    refine rl_val gw_none (ov_field fo53_3 rfl) rfl ?_
    first | refine rl_val gw_none (ov_load 0 sc3 rfl rfl rfl) rfl ?_ | refine rl_val gw_none (ov_load 0 sc3 rfl rfl (by assumption)) rfl ?_
    refine rl_val gw_none (ov_mul rfl rfl (by omega)) rfl ?_
    refine rl_val gw_none (ov_add rfl rfl (by omega)) rfl ?_
    refine rl_val gw_none (ov_assign rfl) rfl ?_
    refine rl_nil ?_
    refine at_then ?_
    refine ct_ret ?_
    refine at_ret1 Try.results78 (ro_tmp rfl) (fun w1 hp => ?_)
    refine ⟨?_, hp.ext0⟩
    rw [minR_eq hx]; first | done | rfl | (rw [if_pos (by omega)]; done) | (rw [if_neg (by omega)]; done)

theorem l23Minutes_c (ws : List Wood) (r : Repair) (vws : Value) (w : World) (hsws : SR w 3 vws ws.length (flat encWood ws)) (hw : woodsB ws = true) (hr : repairB ws.length r = true) : Calls Try.prog 84 ([vws, .agg (encRepair r).toArray]).toArray w (fun e w' => e = .returned (.int .i64 (minR ws r)) ∧ Ext w w') := by
  obtain ⟨aw, capw, rfl, hcapw, hmaxw⟩ := hsws.slice
  have hlenw := hsws.len_le
  obtain ⟨x, hx, hw0, hlt, hbe, hro, hdu, hha, hco, hmul⟩ := repair_ok hw hr
  obtain ⟨b, o, rfl, hel⟩ := hsws.elem encWood_len (by omega) hlt
  obtain ⟨c0, c1, c2, _⟩ := hel _ x hx
  refine calls_ct Try.func84 Try.ntmps84 rfl rfl ?_
  refine ct_seq ?_
  refine ct_reg ?_
  refine rl_box rfl rfl (fun N1 => ?_)
  refine rl_val gw_none (ov_assign rfl) rfl ?_
  refine rl_nil ?_
  refine at_then ?_
  refine ct_seq ?_
  refine ct_reg ?_
  refine rl_val gw_none (ov_field fo53_2 rfl) rfl ?_
  first | refine rl_val gw_none (ov_load 0 sc3 rfl rfl rfl) rfl ?_ | refine rl_val gw_none (ov_load 0 sc3 rfl rfl (by assumption)) rfl ?_
  refine rl_val gw_none (ov_mul rfl rfl (by omega)) rfl ?_
  refine rl_val gw_none (ov_assign rfl) rfl ?_
  refine rl_nil ?_
  refine at_then ?_
  refine ct_seq ?_
  refine ct_seq ?_
  refine ct_reg ?_
  refine rl_val gw_none (ov_move rfl) rfl ?_
  refine rl_val gw_none (ov_field fo53_1 rfl) rfl ?_
  first | refine rl_val gw_none (ov_load 0 sc3 rfl rfl rfl) rfl ?_ | refine rl_val gw_none (ov_load 0 sc3 rfl rfl (by assumption)) rfl ?_
  first | refine rl_val gw_none (ov_ix Try.underlying25 sz67 rfl rfl _ rfl (by omega)) rfl ?_ | refine rl_val gw_none (ov_ix Try.underlying25 sz67 rfl rfl (r.wood.toNat) (by omega) (by omega)) rfl ?_
  refine rl_val gw_none (ov_field fo67_1 rfl) rfl ?_
  first | refine rl_val gw_none (ov_load 0 sc3 rfl rfl rfl) rfl ?_ | refine rl_val gw_none (ov_load 1 sc3 rfl rfl rfl) rfl ?_ | refine rl_val gw_none (ov_load 2 sc3 rfl rfl rfl) rfl ?_ | refine rl_val gw_none (ov_load 3 sc3 rfl rfl rfl) rfl ?_ | refine rl_val gw_none (ov_loadw sc3 rfl (by assumption)) rfl ?_ | refine rl_val gw_none (ov_load 0 sc3 rfl rfl (by assumption)) rfl ?_ | refine rl_val gw_none (ov_load 1 sc3 rfl rfl (by assumption)) rfl ?_ | refine rl_val gw_none (ov_load 2 sc3 rfl rfl (by assumption)) rfl ?_ | refine rl_val gw_none (ov_load 3 sc3 rfl rfl (by assumption)) rfl ?_
  refine rl_val gw_none (ov_geq rfl rfl) rfl ?_
  refine rl_nil ?_
  refine at_then ?_
  first | refine ct_dec rfl (fun h1 => ?_) (fun h1 => ?_) | refine ct_ndec rfl (fun h1 => ?_) (fun h1 => ?_) | refine ct_eq rfl (fun h1 => ?_) (fun h1 => ?_) | refine ct_ne rfl (fun h1 => ?_) (fun h1 => ?_) | refine ct_not rfl (fun h1 => ?_) (fun h1 => ?_) | refine ct_cond rfl (fun h1 => ?_) (fun h1 => ?_)
  ·
    refine ct_reg ?_
    refine rl_val gw_none (ov_field fo53_2 rfl) rfl ?_
    first | refine rl_val gw_none (ov_load 0 sc3 rfl rfl rfl) rfl ?_ | refine rl_val gw_none (ov_load 0 sc3 rfl rfl (by assumption)) rfl ?_
    refine rl_val gw_none (ov_mul rfl rfl (by omega)) rfl ?_
    refine rl_val gw_none (ov_assign rfl) rfl ?_
    refine rl_nil ?_
    refine at_then ?_
    refine ct_seq ?_
    refine ct_reg ?_
    refine rl_val gw_none (ov_move rfl) rfl ?_
    refine rl_val gw_none (ov_field fo53_3 rfl) rfl ?_
    first | refine rl_val gw_none (ov_load 0 sc3 rfl rfl rfl) rfl ?_ | refine rl_val gw_none (ov_load 0 sc3 rfl rfl (by assumption)) rfl ?_
    refine rl_val gw_none (ov_mul rfl rfl (by omega)) rfl ?_
    refine rl_val gw_none (ov_add rfl rfl (by omega)) rfl ?_
    refine rl_val gw_none (ov_assign rfl) rfl ?_
    refine rl_nil ?_
    refine at_then ?_
    refine ct_ret ?_
    refine at_ret1 Try.results84 (ro_tmp rfl) (fun w1 hp => ?_)
    refine ⟨?_, hp.ext0⟩
    rw [minR_eq hx]; first | done | rfl | (rw [if_pos (by omega)]; done) | (rw [if_neg (by omega)]; done)
  ·
    refine ct_skip ?_
    refine at_then ?_
    refine ct_seq ?_
    refine ct_reg ?_
    refine rl_val gw_none (ov_move rfl) rfl ?_
    refine rl_val gw_none (ov_field fo53_3 rfl) rfl ?_
    first | refine rl_val gw_none (ov_load 0 sc3 rfl rfl rfl) rfl ?_ | refine rl_val gw_none (ov_load 0 sc3 rfl rfl (by assumption)) rfl ?_
    refine rl_val gw_none (ov_mul rfl rfl (by omega)) rfl ?_
    refine rl_val gw_none (ov_add rfl rfl (by omega)) rfl ?_
    refine rl_val gw_none (ov_assign rfl) rfl ?_
    refine rl_nil ?_
    refine at_then ?_
    refine ct_ret ?_
    refine at_ret1 Try.results84 (ro_tmp rfl) (fun w1 hp => ?_)
    refine ⟨?_, hp.ext0⟩
    rw [minR_eq hx]; first | done | rfl | (rw [if_pos (by omega)]; done) | (rw [if_neg (by omega)]; done)
end Go.Proofs.Ytaajkamfeaafpaa
