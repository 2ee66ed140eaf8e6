import Derived.Test.YtnnhkpecgchgiaaTa
import Derived.KernelRfl
set_option linter.unusedVariables false
set_option linter.unusedSimpArgs false
namespace Go.Proofs.Ytnnhkpecgchgiaa
open Go Go.RowKit K
theorem power_c (i : Int) (n : Nat) (w : World) (hi : i = n) (hn : n ≤ 8) : Calls Try.prog 145 ([.int .i64 i]).toArray w (fun e w' => e = .returned (.int .i64 (p10 n)) ∧ Ext w w') := by
  subst hi
  refine calls_ct Try.func145 Try.ntmps145 rfl rfl ?_
  refine ct_seq ?_
  refine ct_reg ?_
  refine rl_val gw_none (ov_assign rfl) rfl ?_
  refine rl_nil ?_
  refine at_then ?_
  refine ct_seq ?_
  refine ct_reg ?_
  refine rl_val gw_none (ov_assign rfl) rfl ?_
  refine rl_nil ?_
  refine at_then ?_
  refine ct_seq ?_
  refine ct_block ?_
  refine ct_loopR (ι := Nat) (fun k => [(0, .int .i64 ((n : Int) - k)), (3, .int .i64 (p10 k))]) [(2, _)] (fun _ => _) (fun k => k ≤ n) (fun k => n - k) (0) (Sub.cons rfl Sub.nil) (fun _ hq => hq) (by (repeat' (first | exact Sub.nil | refine Sub.cons ?_ ?_)); all_goals (first | rfl | exact lkInt rfl (by omega))) (by first | exact True.intro | omega | (dsimp only; omega) | (dsimp only at *; omega)) (fun k hk => ?_)
  have hpb := p10_bd (k := k) (by omega)
  have hps := p10_succ k
  refine ct_seq ?_
  refine ct_seq ?_
  refine ct_reg ?_
  refine rl_val gw_none (ov_move rfl) rfl ?_
  refine rl_val gw_none (ov_gtr rfl rfl) rfl ?_
  refine rl_nil ?_
  refine at_then ?_
  first | refine ct_dec rfl (fun h1 => ?_) (fun h1 => ?_) | refine ct_ndec rfl (fun h1 => ?_) (fun h1 => ?_) | refine ct_eq rfl (fun h1 => ?_) (fun h1 => ?_) | refine ct_ne rfl (fun h1 => ?_) (fun h1 => ?_) | refine ct_not rfl (fun h1 => ?_) (fun h1 => ?_) | refine ct_cond rfl (fun h1 => ?_) (fun h1 => ?_)
  ·
    refine ct_skip ?_
    refine at_then ?_
    refine ct_seq ?_
    refine ct_block ?_
    refine ct_reg ?_
    refine rl_val gw_none (ov_move rfl) rfl ?_
    refine rl_val gw_none (ov_mul rfl rfl (by omega)) rfl ?_
    refine rl_val gw_none (ov_assign rfl) rfl ?_
    refine rl_nil ?_
    refine at_block ?_
    refine at_then ?_
    refine ct_reg ?_
    refine rl_val gw_none (ov_move rfl) rfl ?_
    refine rl_val gw_none (ov_sub rfl rfl (by omega)) rfl ?_
    refine rl_val gw_none (ov_assign rfl) rfl ?_
    refine rl_nil ?_
    exact at_backR (k + 1) (by first | exact True.intro | omega | (dsimp only; omega) | (dsimp only at *; omega)) (by first | exact True.intro | omega | (dsimp only; omega) | (dsimp only at *; omega)) (by (repeat' (first | exact Sub.nil | refine Sub.cons ?_ ?_)); all_goals (first | rfl | exact lkInt rfl (by omega))) (Sub.cons rfl Sub.nil) (fun _ hq => hq)
  ·
    have hke : k = n := by omega
    subst hke
    refine ct_exit ?_
    refine at_then_exit ?_
    refine at_then_exit ?_
    refine at_block_hit ?_
    refine at_then ?_
    refine ct_seq ?_
    refine ct_reg ?_
    refine rl_val gw_none (ov_move rfl) rfl ?_
    refine rl_val gw_none (ov_assign rfl) rfl ?_
    refine rl_nil ?_
    refine at_then ?_
    refine ct_ret ?_
    refine at_ret1 Try.results145 (ro_tmp rfl) (fun w1 hp => ?_)
    exact ⟨rfl, hp.ext0⟩

theorem l2Power_c (i : Int) (n : Nat) (w : World) (hi : i = n) (hn : n ≤ 8) : Calls Try.prog 107 ([.int .i64 i]).toArray w (fun e w' => e = .returned (.int .i64 (p10 n)) ∧ Ext w w') := by
  subst hi
  refine calls_ct Try.func107 Try.ntmps107 rfl rfl ?_
  refine ct_seq ?_
  refine ct_reg ?_
  refine rl_val gw_none (ov_assign rfl) rfl ?_
  refine rl_nil ?_
  refine at_then ?_
  refine ct_seq ?_
  refine ct_reg ?_
  refine rl_val gw_none (ov_assign rfl) rfl ?_
  refine rl_nil ?_
  refine at_then ?_
  refine ct_seq ?_
  refine ct_seq ?_
  refine ct_reg ?_
  refine rl_val gw_none (ov_assign rfl) rfl ?_
  refine rl_nil ?_
  refine at_then ?_
  refine ct_block ?_
  refine ct_loopR (ι := Nat) (fun k => [(3, .int .i64 (p10 k)), (4, .int .i64 k)]) [(0, _), (2, _)] (fun _ => _) (fun k => k ≤ n) (fun k => n - k) (0) (Sub.cons rfl (Sub.cons rfl Sub.nil)) (fun _ hq => hq) (by (repeat' (first | exact Sub.nil | refine Sub.cons ?_ ?_)); all_goals (first | rfl | exact lkInt rfl (by omega))) (by first | exact True.intro | omega | (dsimp only; omega) | (dsimp only at *; omega)) (fun k hk => ?_)
  have hpb := p10_bd (k := k) (by omega)
  have hps := p10_succ k
  refine ct_seq ?_
  refine ct_seq ?_
  refine ct_reg ?_
  refine rl_val gw_none (ov_move rfl) rfl ?_
  refine rl_val gw_none (ov_move rfl) rfl ?_
  refine rl_val gw_none (ov_lss rfl rfl) rfl ?_
  refine rl_nil ?_
  refine at_then ?_
  first | refine ct_dec rfl (fun h1 => ?_) (fun h1 => ?_) | refine ct_ndec rfl (fun h1 => ?_) (fun h1 => ?_) | refine ct_eq rfl (fun h1 => ?_) (fun h1 => ?_) | refine ct_ne rfl (fun h1 => ?_) (fun h1 => ?_) | refine ct_not rfl (fun h1 => ?_) (fun h1 => ?_) | refine ct_cond rfl (fun h1 => ?_) (fun h1 => ?_)
  ·
    refine ct_skip ?_
    refine at_then ?_
    refine ct_seq ?_
    refine ct_block ?_
    refine ct_reg ?_
    refine rl_val gw_none (ov_move rfl) rfl ?_
    refine rl_val gw_none (ov_mul rfl rfl (by omega)) rfl ?_
    refine rl_val gw_none (ov_assign rfl) rfl ?_
    refine rl_nil ?_
    refine at_block ?_
    refine at_then ?_
    refine ct_reg ?_
    refine rl_val gw_none (ov_move rfl) rfl ?_
    refine rl_val gw_none (ov_add rfl rfl (by omega)) rfl ?_
    refine rl_val gw_none (ov_assign rfl) rfl ?_
    refine rl_nil ?_
    exact at_backR (k + 1) (by first | exact True.intro | omega | (dsimp only; omega) | (dsimp only at *; omega)) (by first | exact True.intro | omega | (dsimp only; omega) | (dsimp only at *; omega)) (by (repeat' (first | exact Sub.nil | refine Sub.cons ?_ ?_)); all_goals (first | rfl | exact lkInt rfl (by omega))) (Sub.cons rfl (Sub.cons rfl Sub.nil)) (fun _ hq => hq)
  ·
    have hke : k = n := by omega
    subst hke
    refine ct_exit ?_
    refine at_then_exit ?_
    refine at_then_exit ?_
    refine at_block_hit ?_
    refine at_then ?_
    refine ct_seq ?_
    refine ct_reg ?_
    refine rl_val gw_none (ov_move rfl) rfl ?_
    refine rl_val gw_none (ov_assign rfl) rfl ?_
    refine rl_nil ?_
    refine at_then ?_
    refine ct_ret ?_
    refine at_ret1 Try.results107 (ro_tmp rfl) (fun w1 hp => ?_)
    exact ⟨rfl, hp.ext0⟩

theorem rodOf_c (d : Int) (w : World) (hd : 0 ≤ d ∧ d ≤ 100) : Calls Try.prog 122 ([.int .i64 d]).toArray w (fun e w' => e = .returned (.agg (encIntA2 (rodFor d)).toArray) ∧ Ext w w') := by
  refine calls_ct Try.func122 Try.ntmps122 rfl rfl ?_
  refine ct_seq ?_
  refine ct_reg ?_
  refine rl_alloc ze81 rfl (fun N1 => ?_)
  refine rl_nil ?_
  refine at_then ?_
  refine ct_seq ?_
  refine ct_reg ?_
  refine rl_val gw_none (ov_move rfl) rfl ?_
  refine rl_val gw_none (ov_quo rfl rfl (by omega) (by omega) (by omega)) rfl ?_
  refine rl_val gw_none (ov_move rfl) rfl ?_
  refine rl_val gw_none (ov_rem rfl rfl (by omega) (by omega)) rfl ?_
  refine rl_val gw_none (ov_build rfl (bu81_0_1 _ _)) rfl ?_
  refine rl_store [] sz81 rfl rfl rfl rfl rfl (Nat.le_of_ble_eq_true rfl) ?_
  refine rl_nil ?_
  refine at_then ?_
  refine ct_ret ?_
  refine at_ret1 Try.results122 (ro_cell 0 ag81 rfl rfl rfl) (fun w1 hp => ?_)
  exact ⟨rfl, hp.ext0⟩

theorem l2Digit_c (d : Int) (w : World) (hd : 0 ≤ d ∧ d ≤ 100) : Calls Try.prog 124 ([.int .i64 d]).toArray w (fun e w' => e = .returned (.agg (encIntA2 (rodFor d)).toArray) ∧ Ext w w') := by
  refine calls_ct Try.func124 Try.ntmps124 rfl rfl ?_
  refine ct_seq ?_
  refine ct_reg ?_
  refine rl_alloc ze81 rfl (fun N1 => ?_)
  refine rl_nil ?_
  refine at_then ?_
  refine ct_seq ?_
  refine ct_reg ?_
  refine rl_val gw_none (ov_move rfl) rfl ?_
  refine rl_val gw_none (ov_quo rfl rfl (by omega) (by omega) (by omega)) rfl ?_
  refine rl_val gw_none (ov_move rfl) rfl ?_
  refine rl_val gw_none (ov_rem rfl rfl (by omega) (by omega)) rfl ?_
  refine rl_val gw_none (ov_build rfl (bu81_0_1 _ _)) rfl ?_
  refine rl_store [] sz81 rfl rfl rfl rfl rfl (Nat.le_of_ble_eq_true rfl) ?_
  refine rl_nil ?_
  refine at_then ?_
  refine ct_ret ?_
  refine at_ret1 Try.results124 (ro_cell 0 ag81 rfl rfl rfl) (fun w1 hp => ?_)
  exact ⟨rfl, hp.ext0⟩

theorem hasRod_c (u : Int) (l : Int) (xs : List IntA2) (vxs : Value) (i : Int) (w : World) (zu : In64 u) (zl : In64 l) (hGxs : ∀ y ∈ xs, GIntA2 y) (hsxs : SR w 2 vxs xs.length (flat encIntA2 xs)) : Calls Try.prog 121 ([.agg (List.toArray (α := Value) [.int .i64 u, .int .i64 l, vxs]), .int .i64 i]).toArray w (fun e w' => e = .returned (.bool (inB i 0 ((xs.length : Int) - 1))) ∧ Ext w w') := by
  obtain ⟨axs, capxs, rfl, hcapxs, hmaxxs⟩ := hsxs.slice
  have hlenxs := hsxs.len_le
  refine calls_ct Try.func121 Try.ntmps121 rfl rfl ?_
  refine ct_seq ?_
  refine ct_reg ?_
  refine rl_box rfl rfl (fun N1 => ?_)
  refine rl_val gw_none (ov_assign rfl) rfl ?_
  refine rl_nil ?_
  refine at_then ?_
  refine ct_seq ?_
  refine ct_reg ?_
  refine rl_val gw_none (ov_move rfl) rfl ?_
  refine rl_val gw_none (ov_field fo26_2 rfl) rfl ?_
  first | refine rl_val gw_none (ov_load 0 sc22 rfl rfl rfl) rfl ?_ | refine rl_val gw_none (ov_load 0 sc22 rfl rfl (by assumption)) rfl ?_
  refine rl_val gw_none (ov_len Try.underlying22 rfl) rfl ?_
  refine rl_val gw_none (ov_sub rfl rfl (by omega)) rfl ?_
  refine rl_callv gw_none goes112 rfl (fun w1 hp => within_c _ _ _ _) rfl ?_
  refine rl_val gw_none (ov_assign rfl) rfl ?_
  refine rl_nil ?_
  refine at_then ?_
  refine ct_ret ?_
  refine at_ret1 Try.results121 (ro_tmp rfl) (fun w1 hp => ?_)
  exact ⟨rfl, hp.ext0⟩

theorem fitsOn_c (u : Int) (l : Int) (xs : List IntA2) (vxs : Value) (i : Int) (w : World) (zu : In64 u) (zl : In64 l) (hGxs : ∀ y ∈ xs, GIntA2 y) (hsxs : SR w 2 vxs xs.length (flat encIntA2 xs)) (h8 : xs.length ≤ 8) : Calls Try.prog 114 ([.agg (List.toArray (α := Value) [.int .i64 u, .int .i64 l, vxs]), .int .i64 i]).toArray w (fun e w' => e = .returned (.bool (inB i 0 (p10 xs.length - 1))) ∧ Ext w w') := by
  obtain ⟨axs, capxs, rfl, hcapxs, hmaxxs⟩ := hsxs.slice
  have hlenxs := hsxs.len_le
  have hpb := p10_bd h8
  refine calls_ct Try.func114 Try.ntmps114 rfl rfl ?_
  refine ct_seq ?_
  refine ct_reg ?_
  refine rl_box rfl rfl (fun N1 => ?_)
  refine rl_val gw_none (ov_assign rfl) rfl ?_
  refine rl_nil ?_
  refine at_then ?_
  refine ct_seq ?_
  refine ct_reg ?_
  refine rl_val gw_none (ov_move rfl) rfl ?_
  refine rl_val gw_none (ov_field fo26_2 rfl) rfl ?_
  first | refine rl_val gw_none (ov_load 0 sc22 rfl rfl rfl) rfl ?_ | refine rl_val gw_none (ov_load 0 sc22 rfl rfl (by assumption)) rfl ?_
  refine rl_val gw_none (ov_len Try.underlying22 rfl) rfl ?_
  refine rl_callv gw_none goes145 rfl (fun w1 hp => power_c _ xs.length _ rfl (by omega)) rfl ?_
  refine rl_val gw_none (ov_sub rfl rfl (by omega)) rfl ?_
  refine rl_callv gw_none goes112 rfl (fun w1 hp => within_c _ _ _ _) rfl ?_
  refine rl_val gw_none (ov_assign rfl) rfl ?_
  refine rl_nil ?_
  refine at_then ?_
  refine ct_ret ?_
  refine at_ret1 Try.results114 (ro_tmp rfl) (fun w1 hp => ?_)
  exact ⟨rfl, hp.ext0⟩

theorem l2Rod_c (u : Int) (l : Int) (xs : List IntA2) (vxs : Value) (i : Int) (w : World) (zu : In64 u) (zl : In64 l) (hGxs : ∀ y ∈ xs, GIntA2 y) (hsxs : SR w 2 vxs xs.length (flat encIntA2 xs)) : Calls Try.prog 123 ([.agg (List.toArray (α := Value) [.int .i64 u, .int .i64 l, vxs]), .int .i64 i]).toArray w (fun e w' => e = .returned (.bool (frameB u l xs && inB i 0 ((xs.length : Int) - 1))) ∧ Ext w w') := by
  obtain ⟨axs, capxs, rfl, hcapxs, hmaxxs⟩ := hsxs.slice
  have hlenxs := hsxs.len_le
  refine calls_ct Try.func123 Try.ntmps123 rfl rfl ?_
  refine ct_seq ?_
  refine ct_reg ?_
  refine rl_box rfl rfl (fun N1 => ?_)
  refine rl_val gw_none (ov_assign rfl) rfl ?_
  refine rl_nil ?_
  refine at_then ?_
  refine ct_seq ?_
  refine ct_reg ?_
  first | refine rl_val gw_none (ov_loadall 0 ag26 rfl rfl rfl) rfl ?_ | refine rl_val gw_none (ov_loadp 0 ag26 rfl rfl (vs := [_, _, _]) rfl rfl) rfl ?_ | refine rl_val gw_none (ov_loada 0 ag26 rfl rfl rfl (by assumption)) rfl ?_
  refine rl_callv gw_none goes126 rfl (fun w1 hp => l2Good_c u l xs _ _ zu zl hGxs (hsxs.ext hp.ext0)) rfl ?_
  refine rl_val gw_none (ov_move rfl) rfl ?_
  refine rl_split (t := 7) rfl (fun g1 => ?_) (fun g1 => ?_)
  ·
    have g1' := g1
    try simp only [Bool.not_eq_true', Bool.not_eq_false', Bool.not_not, decide_eq_true_eq, decide_eq_false_iff_not, beq_iff_eq, beq_eq_false_iff_ne, bne_iff_ne, bne_eq_false_iff_eq, Bool.and_eq_true, Bool.or_eq_true, Bool.and_eq_false_iff, Bool.or_eq_false_iff, inB] at g1'
    refine rl_val (gw_some rfl rfl g1) (ov_move rfl) rfl ?_
    refine rl_val (gw_some rfl rfl g1) (ov_field fo26_2 rfl) rfl ?_
    first | refine rl_val (gw_some rfl rfl g1) (ov_load 0 sc22 rfl rfl rfl) rfl ?_ | refine rl_val (gw_some rfl rfl g1) (ov_load 0 sc22 rfl rfl (by assumption)) rfl ?_
    refine rl_val (gw_some rfl rfl g1) (ov_len Try.underlying22 rfl) rfl ?_
    refine rl_val (gw_some rfl rfl g1) (ov_sub rfl rfl (by omega)) rfl ?_
    refine rl_callv (gw_some rfl rfl g1) goes116 rfl (fun w1 hp => l1In_c _ _ _ _) rfl ?_
    refine rl_val gw_none (ov_pick_t rfl g1 rfl) rfl ?_
    refine rl_val gw_none (ov_assign rfl) rfl ?_
    refine rl_nil ?_
    refine at_then ?_
    refine ct_ret ?_
    refine at_ret1 Try.results123 (ro_tmp rfl) (fun w1 hp => ?_)
    refine ⟨?_, hp.ext0⟩
    first | rfl | (simp_all; done)
  ·
    have g1' := g1
    try simp only [Bool.not_eq_true', Bool.not_eq_false', Bool.not_not, decide_eq_true_eq, decide_eq_false_iff_not, beq_iff_eq, beq_eq_false_iff_ne, bne_iff_ne, bne_eq_false_iff_eq, Bool.and_eq_true, Bool.or_eq_true, Bool.and_eq_false_iff, Bool.or_eq_false_iff, inB] at g1'
    refine rl_skip (gw_not rfl rfl g1) rfl ?_
    refine rl_skip (gw_not rfl rfl g1) rfl ?_
    refine rl_skip (gw_not rfl rfl g1) rfl ?_
    refine rl_skip (gw_not rfl rfl g1) rfl ?_
    refine rl_skip (gw_not rfl rfl g1) rfl ?_
    refine rl_skip (gw_not rfl rfl g1) rfl ?_
    refine rl_val gw_none (ov_pick_f rfl g1 rfl) rfl ?_
    refine rl_val gw_none (ov_assign rfl) rfl ?_
    refine rl_nil ?_
    refine at_then ?_
    refine ct_ret ?_
    refine at_ret1 Try.results123 (ro_tmp rfl) (fun w1 hp => ?_)
    refine ⟨?_, hp.ext0⟩
    first | rfl | (simp_all; done)

theorem own_c (u : Int) (l : Int) (xs : List IntA2) (vxs : Value) (w : World) (zu : In64 u) (zl : In64 l) (hGxs : ∀ y ∈ xs, GIntA2 y) (hsxs : SR w 2 vxs xs.length (flat encIntA2 xs)) (h8 : xs.length ≤ 8) : Calls Try.prog 78 ([.agg (List.toArray (α := Value) [.int .i64 u, .int .i64 l, vxs])]).toArray w (fun e w' => RetSl 81 2 (flat encIntA2 (xs)) (xs.length) (fun s => .agg [.int .i64 u, .int .i64 l, s].toArray) w e w') := by
  obtain ⟨axs, capxs, rfl, hcapxs, hmaxxs⟩ := hsxs.slice
  have hlenxs := hsxs.len_le
  refine calls_ct Try.func78 Try.ntmps78 rfl rfl ?_
  refine ct_seq ?_
  refine ct_reg ?_
  refine rl_box rfl rfl (fun N1 => ?_)
  refine rl_alloc ze26 rfl (fun N2 => ?_)
  refine rl_nil ?_
  refine at_then ?_
  refine ct_seq ?_
  refine ct_reg ?_
  refine rl_bslice Try.underlying22 ze81 sz81 rfl rfl rfl rfl rfl rfl (fun N3 => ?_)
  refine rl_val gw_none (ov_field fo26_2 rfl) rfl ?_
  first | refine rl_val gw_none (ov_load 2 sc22 rfl rfl rfl) rfl ?_ | refine rl_val gw_none (ov_load 2 sc22 rfl rfl (by assumption)) rfl ?_
  refine rl_appT (flat encIntA2) ((flat_append _)) [] (bo := some N3) (acc := []) Try.underlying22 ze81 sz81 rfl rfl by81 rfl rfl rfl (Sl.lit rfl (by first | decide | (unfold maxLen; simp; done) | (unfold maxLen; simp; omega))) (xs) rfl (fun w1 hp => hsxs.ext hp.ext0) (flat_one encIntA2_one _) (by unfold maxLen; simp; omega) (by simp; omega) rfl (fun boq1 capq1 padq1 hsq1 => ?_)
  refine rl_val gw_none (ov_field fo26_2 rfl) rfl ?_
  refine rl_store [_, _] sz22 rfl rfl rfl rfl rfl (Nat.le_of_ble_eq_true rfl) ?_
  refine rl_nil ?_
  refine at_then ?_
  refine ct_seq ?_
  refine ct_reg ?_
  first | refine rl_val gw_none (ov_loadall 2 ag26 rfl rfl rfl) rfl ?_ | refine rl_val gw_none (ov_loadp 2 ag26 rfl rfl (vs := [_, _, _]) rfl rfl) rfl ?_ | refine rl_val gw_none (ov_loada 2 ag26 rfl rfl rfl (by assumption)) rfl ?_
  refine rl_store [_] sz26 rfl rfl rfl rfl rfl (Nat.le_of_ble_eq_true rfl) ?_
  refine rl_nil ?_
  refine at_then ?_
  refine ct_ret ?_
  refine at_ret1 Try.results78 (ro_cell 1 ag26 rfl rfl rfl) (fun w1 hp => ?_)
  exact RetSl.own 0 hp rfl hsq1

theorem l2Own_c (u : Int) (l : Int) (xs : List IntA2) (vxs : Value) (w : World) (zu : In64 u) (zl : In64 l) (hGxs : ∀ y ∈ xs, GIntA2 y) (hsxs : SR w 2 vxs xs.length (flat encIntA2 xs)) (h8 : xs.length ≤ 8) : Calls Try.prog 93 ([.agg (List.toArray (α := Value) [.int .i64 u, .int .i64 l, vxs])]).toArray w (fun e w' => RetSl 81 2 (flat encIntA2 (xs)) (xs.length) (fun s => .agg [.int .i64 u, .int .i64 l, s].toArray) w e w') := by
  obtain ⟨axs, capxs, rfl, hcapxs, hmaxxs⟩ := hsxs.slice
  have hlenxs := hsxs.len_le
  refine calls_ct Try.func93 Try.ntmps93 rfl rfl ?_
  refine ct_seq ?_
  refine ct_reg ?_
  refine rl_box rfl rfl (fun N1 => ?_)
  refine rl_alloc ze26 rfl (fun N2 => ?_)
  refine rl_nil ?_
  refine at_then ?_
  refine ct_seq ?_
  refine ct_fl 8 [0, 1, 2, 3, 5, 6, 4, 7, 8, 9] ⟨6, [7], [7], [6], [5], [1, 3]⟩ (fun q => if q = 6 then (⟨81, [], fun N => sv (some N) 0 0⟩ : Soft) else ⟨0, [], fun _ => undef⟩) (by kernel_rfl) (by kernel_rfl) ?_
  refine qf_step rfl ?_
  refine qg_val rfl gw_none (fun _ => (ov_field fo26_0 rfl)) rfl ?_
  refine qf_step rfl ?_
  first | refine qg_vall 1 rfl rfl rfl gw_none (ov_load 0 sc3 rfl rfl rfl) rfl ?_ | refine qg_vall 1 rfl rfl rfl gw_none (ov_load 0 sc3 rfl rfl (by assumption)) rfl ?_
  refine qf_step rfl ?_
  refine qg_val rfl gw_none (fun _ => (ov_field fo26_1 rfl)) rfl ?_
  refine qf_step rfl ?_
  first | refine qg_vall 1 rfl rfl rfl gw_none (ov_load 0 sc3 rfl rfl rfl) rfl ?_ | refine qg_vall 1 rfl rfl rfl gw_none (ov_load 0 sc3 rfl rfl (by assumption)) rfl ?_
  refine qf_step rfl ?_
  refine qg_val rfl gw_none (fun _ => (ov_field fo26_2 rfl)) rfl ?_
  refine qf_step rfl ?_
  first | refine qg_valm rfl rfl gw_none (ov_load 1 sc22 rfl rfl rfl) rfl ?_ | refine qg_valm rfl rfl gw_none (ov_load 1 sc22 rfl rfl (by assumption)) rfl ?_
  refine qf_mark ⟨⟨0, rfl, soft_bslice rfl rfl Try.underlying22 ze81 sz81 rfl rfl rfl rfl rfl rfl rfl⟩, True.intro⟩ ?_
  refine qg_soft rfl rfl rfl (fun N3 => ?_)
  refine qf_step rfl ?_
  refine qg_appT (flat encIntA2) ((flat_append _)) [] (bo := some N3) (acc := []) rfl rfl rfl Try.underlying22 ze81 sz81 rfl rfl by81 rfl rfl rfl (Sl.lit rfl (by first | decide | (unfold maxLen; simp; done) | (unfold maxLen; simp; omega))) (xs) (fun _ _ _ => ⟨⟨2, rfl⟩, ⟨⟨2, rfl⟩, True.intro⟩⟩) rfl (fun w1 hp => hsxs.ext hp.ext0) (flat_one encIntA2_one _) (by unfold maxLen; simp; omega) (by simp; omega) rfl (fun boq1 capq1 padq1 hsq1 => ?_)
  refine qf_nil ?_
  refine rl_val gw_none (ov_build rfl (bu26_0_1_2 _ _ _ _ _)) rfl ?_
  refine rl_store [_] sz26 rfl rfl rfl rfl rfl (Nat.le_of_ble_eq_true rfl) ?_
  refine rl_nil ?_
  refine at_then ?_
  refine ct_ret ?_
  refine at_ret1 Try.results93 (ro_cell 1 ag26 rfl rfl rfl) (fun w1 hp => ?_)
  exact RetSl.own 0 hp rfl hsq1
end Go.Proofs.Ytnnhkpecgchgiaa
