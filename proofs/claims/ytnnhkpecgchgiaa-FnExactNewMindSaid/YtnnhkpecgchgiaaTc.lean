import Derived.Test.YtnnhkpecgchgiaaTb
import Derived.KernelRfl
set_option linter.unusedVariables false
set_option linter.unusedSimpArgs false
namespace Go.Proofs.Ytnnhkpecgchgiaa
open Go Go.RowKit K
theorem showing_c (u l : Int) (xs : List IntA2) (n : Int) (vxs : Value) (w : World) (zu : In64 u) (zl : In64 l) (hGxs : ∀ y ∈ xs, GIntA2 y) (hsxs : SR w 2 vxs xs.length (flat encIntA2 xs)) (h8 : xs.length ≤ 8) (h1 : 1 ≤ xs.length) (hn : 0 ≤ n ∧ n ≤ 1000000000) : Calls Try.prog 115 ([.agg (List.toArray (α := Value) [.int .i64 u, .int .i64 l, vxs]), .int .i64 n]).toArray w (fun e w' => RetSl 81 2 (flat encIntA2 (showL n xs.length)) (xs.length) (fun s => .agg [.int .i64 u, .int .i64 l, s].toArray) w e w') := by
  obtain ⟨axs, capxs, rfl, hcapxs, hmaxxs⟩ := hsxs.slice
  have hlenxs := hsxs.len_le
  have hdiv0 : n / p10 (xs.length - xs.length) = n := by rw [Nat.sub_self]; exact Int.ediv_one n
  refine calls_ct Try.func115 Try.ntmps115 rfl rfl ?_
  refine ct_seq ?_
  refine ct_reg ?_
  refine rl_box rfl rfl (fun N1 => ?_)
  refine rl_alloc ze26 rfl (fun N2 => ?_)
  refine rl_nil ?_
  refine at_then ?_
  refine ct_seq ?_
  refine ct_reg ?_
  first | refine rl_val gw_none (ov_loadall 1 ag26 rfl rfl rfl) rfl ?_ | refine rl_val gw_none (ov_loadp 1 ag26 rfl rfl (vs := [_, _, _]) rfl rfl) rfl ?_ | refine rl_val gw_none (ov_loada 1 ag26 rfl rfl rfl (by assumption)) rfl ?_
  refine rl_callsl (ι := Nat × List Value) (fun i bo => .agg [.int .i64 u, .int .i64 l, sv bo (xs).length i.1].toArray) (fun i => flat encIntA2 (xs) ++ i.2) (fun i bo => Sl 2 bo (xs).length i.1 (flat encIntA2 (xs)) i.2) goes78 rfl (fun w1 hp => own_c u l xs _ _ zu zl hGxs (hsxs.ext hp.ext0) h8) rfl (fun iow boow hsow => ?_)
  obtain ⟨bow, rfl⟩ := Sl.some hsow (by omega)
  refine rl_alloc ze26 rfl (fun N3 => ?_)
  refine rl_store [] sz26 rfl rfl rfl rfl rfl (Nat.le_of_ble_eq_true rfl) ?_
  refine rl_nil ?_
  refine at_then ?_
  refine ct_seq ?_
  refine ct_seq ?_
  refine ct_reg ?_
  refine rl_val gw_none (ov_field fo26_2 rfl) rfl ?_
  first | refine rl_val gw_none (ov_load 0 sc22 rfl rfl rfl) rfl ?_ | refine rl_val gw_none (ov_load 0 sc22 rfl rfl (by assumption)) rfl ?_
  refine rl_val gw_none (ov_len Try.underlying22 rfl) rfl ?_
  refine rl_val gw_none (ov_sub rfl rfl (by omega)) rfl ?_
  refine rl_val gw_none (ov_assign rfl) rfl ?_
  refine rl_nil ?_
  refine at_then ?_
  refine ct_block ?_
  refine ct_loopR (ι := Nat) (fun p => [(1, .int .i64 (n / p10 (xs.length - p))), (6, .int .i64 ((p : Int) - 1))]) [(4, _), (5, _)] (fun p => _ :: (some bow, 81, flat encIntA2 (downL xs (showL n xs.length) p) ++ iow.2) :: _) (fun p => p ≤ xs.length) (fun p => p) (xs.length) (Sub.cons rfl (Sub.cons rfl Sub.nil)) (fun _ hq => hq.cong (congrArg (fun x => _ :: (some bow, 81, flat encIntA2 x ++ iow.2) :: _) (downL_all (showL_len n xs.length)).symm)) (by (repeat' (first | exact Sub.nil | refine Sub.cons ?_ ?_)); all_goals (first | rfl | exact lkInt rfl (by omega))) (by first | exact True.intro | omega | (dsimp only; omega) | (dsimp only at *; omega)) (fun p hp0 => ?_)
  have hdb := div_p10_bd hn.1 (xs.length - p)
  refine ct_seq ?_
  refine ct_seq ?_
  refine ct_reg ?_
  refine rl_val gw_none (ov_move rfl) rfl ?_
  refine rl_val gw_none (ov_geq rfl rfl) rfl ?_
  refine rl_nil ?_
  refine at_then ?_
  first | refine ct_dec rfl (fun h1 => ?_) (fun h1 => ?_) | refine ct_ndec rfl (fun h1 => ?_) (fun h1 => ?_) | refine ct_eq rfl (fun h1 => ?_) (fun h1 => ?_) | refine ct_ne rfl (fun h1 => ?_) (fun h1 => ?_) | refine ct_not rfl (fun h1 => ?_) (fun h1 => ?_) | refine ct_cond rfl (fun h1 => ?_) (fun h1 => ?_)
  ·
    obtain ⟨q, rfl⟩ : ∃ q, p = q + 1 := ⟨p - 1, by omega⟩
    have hdv : n / p10 (xs.length - (q + 1)) / 10 = n / p10 (xs.length - q) := (div_p10 n _).trans (by rw [show xs.length - (q + 1) + 1 = xs.length - q from by omega])
    refine ct_skip ?_
    refine at_then ?_
    refine ct_seq ?_
    refine ct_block ?_
    refine ct_seq ?_
    refine ct_dr 7 (by kernel_rfl) (by kernel_rfl) ?_
    refine ql_val gw_none (ov_field fo26_2 rfl) rfl ?_
    first | refine ql_val gw_none (ov_load 0 sc22 rfl rfl rfl) rfl ?_ | refine ql_val gw_none (ov_load 0 sc22 rfl rfl (by assumption)) rfl ?_
    refine ql_val gw_none (ov_move rfl) rfl ?_
    refine ql_val gw_none (ov_move rfl) rfl ?_
    refine ql_val gw_none (ov_rem rfl rfl (by omega) (by omega)) rfl ?_
    refine ql_callv gw_none goes122 rfl (fun w1 hp => rodOf_c _ _ (by omega)) rfl ?_
    first | refine ql_val gw_none (ov_ix Try.underlying22 sz81 rfl rfl _ rfl (by omega)) rfl ?_ | refine ql_val gw_none (ov_ix Try.underlying22 sz81 rfl rfl (q) (by omega) (by omega)) rfl ?_
    refine ql_nil ?_
    refine rl_store [_] sz81 rfl rfl rfl rfl rfl (by rw [List.length_append, flat_length encIntA2_len, downL_len (showL_len n xs.length)]; omega) ?_
    refine rl_nil ?_
    refine at_then ?_
    refine ct_reg ?_
    refine rl_val gw_none (ov_move rfl) rfl ?_
    refine rl_val gw_none (ov_quo rfl rfl (by omega) (by omega) (by omega)) rfl ?_
    refine rl_val gw_none (ov_assign rfl) rfl ?_
    refine rl_nil ?_
    refine at_block ?_
    refine at_then ?_
    refine ct_reg ?_
    refine rl_val gw_none (ov_move rfl) rfl ?_
    refine rl_val gw_none (ov_sub rfl rfl (by omega)) rfl ?_
    refine rl_val gw_none (ov_assign rfl) rfl ?_
    refine rl_nil ?_
    exact at_backR q (by first | exact True.intro | omega | (dsimp only; omega) | (dsimp only at *; omega)) (by first | exact True.intro | omega | (dsimp only; omega) | (dsimp only at *; omega)) (by (repeat' (first | exact Sub.nil | refine Sub.cons ?_ ?_)); all_goals (first | rfl | exact lkInt rfl (by omega))) (Sub.cons rfl (Sub.cons rfl Sub.nil)) (fun _ hq => hq.cong (congrArg (fun x => _ :: (some bow, 81, x) :: _) (show_step iow.2 (by omega))))
  ·
    obtain rfl : p = 0 := by omega
    refine ct_exit ?_
    refine at_then_exit ?_
    refine at_then_exit ?_
    refine at_block_hit ?_
    refine at_then ?_
    refine ct_seq ?_
    refine ct_reg ?_
    first | refine rl_val gw_none (ov_loadall 0 ag26 rfl rfl rfl) rfl ?_ | refine rl_val gw_none (ov_loadp 0 ag26 rfl rfl (vs := [_, _, _]) rfl rfl) rfl ?_ | refine rl_val gw_none (ov_loada 0 ag26 rfl rfl rfl (by assumption)) rfl ?_
    first | refine rl_store [] sz26 rfl rfl rfl rfl rfl (Nat.le_of_ble_eq_true rfl) ?_ | refine rl_store [_] sz26 rfl rfl rfl rfl rfl (Nat.le_of_ble_eq_true rfl) ?_ | refine rl_store [_, _] sz26 rfl rfl rfl rfl rfl (Nat.le_of_ble_eq_true rfl) ?_ | refine rl_store [_, _, _] sz26 rfl rfl rfl rfl rfl (Nat.le_of_ble_eq_true rfl) ?_
    refine rl_nil ?_
    refine at_then ?_
    refine ct_ret ?_
    first | refine at_ret1 Try.results115 (ro_cell 0 ag26 rfl rfl rfl) (fun w1 hp => ?_) | refine at_ret1 Try.results115 (ro_cell 1 ag26 rfl rfl rfl) (fun w1 hp => ?_) | refine at_ret1 Try.results115 (ro_cell 2 ag26 rfl rfl rfl) (fun w1 hp => ?_) | refine at_ret1 Try.results115 (ro_cell 3 ag26 rfl rfl rfl) (fun w1 hp => ?_)
    simp only [downL_zero] at hp
    exact RetSl.own 1 hp rfl (Sl.same encIntA2_len hsow (showL_len n xs.length))

theorem l2For_c (u l i n : Int) (R : Nat) (w : World) (hi : i = R) (hR : 1 ≤ R ∧ R ≤ 8) (hn : 0 ≤ n ∧ n ≤ 1000000000) : Calls Try.prog 106 ([.int .i64 u, .int .i64 l, .int .i64 i, .int .i64 n]).toArray w (fun e w' => RetSl 81 2 (flat encIntA2 (showL n R)) (R) (fun s => .agg [.int .i64 u, .int .i64 l, s].toArray) w e w') := by
  subst hi
  have hsl := showL_len n R
  refine calls_ct Try.func106 Try.ntmps106 rfl rfl ?_
  refine ct_seq ?_
  refine ct_reg ?_
  refine rl_alloc ze26 rfl (fun N1 => ?_)
  refine rl_nil ?_
  refine at_then ?_
  refine ct_seq ?_
  refine ct_reg ?_
  refine rl_val gw_none (ov_move rfl) rfl ?_
  refine rl_val gw_none (ov_move rfl) rfl ?_
  refine rl_bslice Try.underlying22 ze81 sz81 rfl rfl rfl rfl rfl rfl (fun N2 => ?_)
  refine rl_val gw_none (ov_build rfl (bu26_0_1_2 _ _ _ _ _)) rfl ?_
  refine rl_alloc ze26 rfl (fun N3 => ?_)
  refine rl_store [] sz26 rfl rfl rfl rfl rfl (Nat.le_of_ble_eq_true rfl) ?_
  refine rl_nil ?_
  refine at_then ?_
  refine ct_seq ?_
  refine ct_seq ?_
  refine ct_reg ?_
  refine rl_val gw_none (ov_move rfl) rfl ?_
  refine rl_val gw_none (ov_sub rfl rfl (by omega)) rfl ?_
  refine rl_val gw_none (ov_assign rfl) rfl ?_
  refine rl_nil ?_
  refine at_then ?_
  refine ct_block ?_
  refine ct_loopR (ι := Nat × Option Nat × Nat × List Value) (fun p0 => [(10, .int .i64 ((R : Int) - 1 - p0.1))]) [(3, _), (8, _), (9, _)] (fun p0 => (some N3, 26, [.int .i64 u, .int .i64 l, sv p0.2.1 ((showL n R).take p0.1).length p0.2.2.1]) :: (p0.2.1, 81, flat encIntA2 ((showL n R).take p0.1) ++ p0.2.2.2) :: _) (fun p0 => p0.1 ≤ R ∧ Sl 2 p0.2.1 ((showL n R).take p0.1).length p0.2.2.1 (flat encIntA2 ((showL n R).take p0.1)) p0.2.2.2) (fun p0 => R - p0.1) ((0, some N2, 0, [])) (Sub.cons rfl (Sub.cons rfl (Sub.cons rfl Sub.nil))) (fun _ hq => hq) (by (repeat' (first | exact Sub.nil | refine Sub.cons ?_ ?_)); all_goals (first | rfl | exact lkInt rfl (by omega))) ⟨Nat.zero_le _, Sl.lit rfl (Nat.zero_le _)⟩ (fun p0 hp0 => ?_)
  obtain ⟨k, bo, cap, pad⟩ := p0
  obtain ⟨hk, hsl2⟩ := hp0
  dsimp only at hk hsl2
  refine ct_seq ?_
  refine ct_seq ?_
  refine ct_reg ?_
  refine rl_val gw_none (ov_move rfl) rfl ?_
  refine rl_val gw_none (ov_geq rfl rfl) rfl ?_
  refine rl_nil ?_
  refine at_then ?_
  first | refine ct_dec rfl (fun h1 => ?_) (fun h1 => ?_) | refine ct_ndec rfl (fun h1 => ?_) (fun h1 => ?_) | refine ct_eq rfl (fun h1 => ?_) (fun h1 => ?_) | refine ct_ne rfl (fun h1 => ?_) (fun h1 => ?_) | refine ct_not rfl (fun h1 => ?_) (fun h1 => ?_) | refine ct_cond rfl (fun h1 => ?_) (fun h1 => ?_)
  ·
    have hk2 : k < R := by omega
    have hpb := p10_bd (k := R - 1 - k) (by omega)
    have hdb := div_p10_bd hn.1 (R - 1 - k)
    refine ct_skip ?_
    refine at_then ?_
    refine ct_seq ?_
    refine ct_block ?_
    refine ct_fl 9 [0, 1, 2, 3, 4, 5, 6, 7, 8, 9, 10, 11] ⟨8, [], [], [8], [1, 4, 7], []⟩ (fun q => if q = 8 then (⟨81, (encIntA2 (rodFor (n / p10 (R - 1 - k) % 10))), fun N => sv (some N) 1 1⟩ : Soft) else ⟨0, [], fun _ => undef⟩) (by kernel_rfl) (by kernel_rfl) ?_
    refine qf_step rfl ?_
    refine qg_val rfl gw_none (fun _ => (ov_field fo26_2 rfl)) rfl ?_
    refine qf_step rfl ?_
    first | refine qg_valm rfl rfl gw_none (ov_load 0 sc22 rfl rfl rfl) rfl ?_ | refine qg_valm rfl rfl gw_none (ov_load 0 sc22 rfl rfl (by assumption)) rfl ?_
    refine qf_step rfl ?_
    refine qg_val rfl gw_none (fun _ => (ov_move rfl)) rfl ?_
    refine qf_step rfl ?_
    refine qg_val rfl gw_none (fun _ => (ov_move rfl)) rfl ?_
    refine qf_step rfl ?_
    refine qg_callv rfl rfl gw_none goes107 rfl (fun w1 hp => l2Power_c _ (R - 1 - k) _ (by omega) (by omega)) rfl ?_
    refine qf_step rfl ?_
    refine qg_val rfl gw_none (fun _ => (ov_quo rfl rfl (by omega) (by omega) (by omega))) rfl ?_
    refine qf_step rfl ?_
    refine qg_val rfl gw_none (fun _ => (ov_rem rfl rfl (by omega) (by omega))) rfl ?_
    refine qf_step rfl ?_
    refine qg_callv rfl rfl gw_none goes124 rfl (fun w1 hp => l2Digit_c _ _ (by omega)) rfl ?_
    refine qf_mark ⟨⟨0, rfl, soft_bslice rfl rfl Try.underlying22 ze81 sz81 rfl rfl rfl rfl rfl rfl rfl⟩, True.intro⟩ ?_
    refine qg_soft rfl rfl rfl (fun N4 => ?_)
    refine qf_nil ?_
    refine rl_appT (flat encIntA2) ((flat_append _)) [_, _] (acc := (showL n R).take k) Try.underlying22 ze81 sz81 rfl rfl by81 rfl rfl rfl hsl2 ([rodFor (n / p10 (R - 1 - k) % 10)]) rfl (fun w1 hp => hp.sr1 0 rfl rfl (by decide)) (flat_one encIntA2_one _) (by unfold maxLen; simp; omega) (by simp; omega) rfl (fun boq1 capq1 padq1 hsq1 => ?_)
    refine rl_val gw_none (ov_field fo26_2 rfl) rfl ?_
    refine rl_store [_] sz22 rfl rfl rfl rfl rfl (Nat.le_of_ble_eq_true rfl) ?_
    refine rl_nil ?_
    refine at_block ?_
    refine at_then ?_
    refine ct_reg ?_
    refine rl_val gw_none (ov_move rfl) rfl ?_
    refine rl_val gw_none (ov_sub rfl rfl (by omega)) rfl ?_
    refine rl_val gw_none (ov_assign rfl) rfl ?_
    refine rl_nil ?_
    have hts := take_snoc (showL_get (n := n) hk2)
    exact at_backR (k + 1, boq1, capq1, padq1) ⟨hk2, by dsimp only; rw [hts]; exact hsq1⟩ (by dsimp only; omega) (by (repeat' (first | exact Sub.nil | refine Sub.cons ?_ ?_)); all_goals (first | rfl | exact lkInt rfl (by omega))) (Sub.cons rfl (Sub.cons rfl (Sub.cons rfl Sub.nil))) (fun _ hq => (hq.drop).cong (by dsimp only; rw [hts]; try rfl))
  ·
    obtain rfl : k = R := by omega
    refine ct_exit ?_
    refine at_then_exit ?_
    refine at_then_exit ?_
    refine at_block_hit ?_
    refine at_then ?_
    refine ct_seq ?_
    refine ct_reg ?_
    first | refine rl_val gw_none (ov_loadall 0 ag26 rfl rfl rfl) rfl ?_ | refine rl_val gw_none (ov_loadp 0 ag26 rfl rfl (vs := [_, _, _]) rfl rfl) rfl ?_ | refine rl_val gw_none (ov_loada 0 ag26 rfl rfl rfl (by assumption)) rfl ?_
    first | refine rl_store [] sz26 rfl rfl rfl rfl rfl (Nat.le_of_ble_eq_true rfl) ?_ | refine rl_store [_] sz26 rfl rfl rfl rfl rfl (Nat.le_of_ble_eq_true rfl) ?_ | refine rl_store [_, _] sz26 rfl rfl rfl rfl rfl (Nat.le_of_ble_eq_true rfl) ?_ | refine rl_store [_, _, _] sz26 rfl rfl rfl rfl rfl (Nat.le_of_ble_eq_true rfl) ?_
    refine rl_nil ?_
    refine at_then ?_
    refine ct_ret ?_
    first | refine at_ret1 Try.results106 (ro_cell 0 ag26 rfl rfl rfl) (fun w1 hp => ?_) | refine at_ret1 Try.results106 (ro_cell 1 ag26 rfl rfl rfl) (fun w1 hp => ?_) | refine at_ret1 Try.results106 (ro_cell 2 ag26 rfl rfl rfl) (fun w1 hp => ?_) | refine at_ret1 Try.results106 (ro_cell 3 ag26 rfl rfl rfl) (fun w1 hp => ?_)
    dsimp only at hp ⊢
    simp only [List.take_of_length_le (Nat.le_of_eq hsl)] at hp hsl2 ⊢
    exact RetSl.ownL 1 hp rfl hsl2 hsl
end Go.Proofs.Ytnnhkpecgchgiaa
