import Derived.Test.YtnnhkpecgchgiaaTd
import Derived.Test.YtnnhkpecgchgiaaMa
import Derived.Test.YtnnhkpecgchgiaaAa
import Derived.Test.YtnnhkpecgchgiaaKo
import Derived.KernelRfl
set_option linter.unusedVariables false
set_option linter.unusedSimpArgs false
namespace Go.Proofs.Ytnnhkpecgchgiaa
open Go Go.RowKit K
theorem eqIntS_c (xs : List Int) (v u : Value) (w : World) (hsr : SR w 1 v xs.length (ints xs)) (hsu : SR w 1 u xs.length (ints xs)) : Calls Try.prog 28 ([v, u]).toArray w (fun e w' => e = .returned (.bool true) ∧ Ext w w') := by
  obtain ⟨a, cap, rfl, hcap, hmax⟩ := hsr.slice
  have hlen := hsr.len_le
  obtain ⟨a2, cap2, rfl, hcap2, hmax2⟩ := hsu.slice
  refine calls_ct Try.func28 Try.ntmps28 rfl rfl ?_
  refine ct_seq ?_
  refine ct_reg ?_
  refine rl_val gw_none (ov_assign rfl) rfl ?_
  refine rl_nil ?_
  refine at_then ?_
  refine ct_seq ?_
  refine ct_seq ?_
  refine ct_reg ?_
  refine rl_val gw_none (ov_move rfl) rfl ?_
  refine rl_val gw_none (ov_len Try.underlying27 rfl) rfl ?_
  refine rl_val gw_none (ov_move rfl) rfl ?_
  refine rl_val gw_none (ov_len Try.underlying27 rfl) rfl ?_
  refine rl_val gw_none (ov_neq rfl rfl) rfl ?_
  refine rl_nil ?_
  refine at_then ?_
  first | refine ct_dec rfl (fun h1 => ?_) (fun h1 => ?_) | refine ct_ndec rfl (fun h1 => ?_) (fun h1 => ?_) | refine ct_eq rfl (fun h1 => ?_) (fun h1 => ?_) | refine ct_ne rfl (fun h1 => ?_) (fun h1 => ?_) | refine ct_not rfl (fun h1 => ?_) (fun h1 => ?_) | refine ct_cond rfl (fun h1 => ?_) (fun h1 => ?_)
  ·
    exact absurd rfl h1
  ·
    refine ct_skip ?_
    refine at_then ?_
    refine ct_seq ?_
    refine ct_seq ?_
    refine ct_reg ?_
    refine rl_val gw_none (ov_assign rfl) rfl ?_
    refine rl_nil ?_
    refine at_then ?_
    refine ct_block ?_
    refine ct_loopR (ι := Nat) (fun k => [(5, .int .i64 k)]) [(0, _), (1, _)] (fun _ => _) (fun k => k ≤ xs.length) (fun k => xs.length - k) (0) (Sub.cons rfl (Sub.cons rfl Sub.nil)) (fun _ hq => hq) (by (repeat' (first | exact Sub.nil | refine Sub.cons ?_ ?_)); all_goals (first | rfl | exact lkInt rfl (by omega))) (by first | exact True.intro | omega | (dsimp only; omega) | (dsimp only at *; omega)) (fun k hk => ?_)
    refine ct_seq ?_
    refine ct_seq ?_
    refine ct_reg ?_
    refine rl_val gw_none (ov_move rfl) rfl ?_
    refine rl_val gw_none (ov_move rfl) rfl ?_
    refine rl_val gw_none (ov_len Try.underlying27 rfl) rfl ?_
    refine rl_val gw_none (ov_lss rfl rfl) rfl ?_
    refine rl_nil ?_
    refine at_then ?_
    first | refine ct_dec rfl (fun h2 => ?_) (fun h2 => ?_) | refine ct_ndec rfl (fun h2 => ?_) (fun h2 => ?_) | refine ct_eq rfl (fun h2 => ?_) (fun h2 => ?_) | refine ct_ne rfl (fun h2 => ?_) (fun h2 => ?_) | refine ct_not rfl (fun h2 => ?_) (fun h2 => ?_) | refine ct_cond rfl (fun h2 => ?_) (fun h2 => ?_)
    ·
      have hk2 : k < xs.length := by omega
      obtain ⟨b, o, rfl, hel⟩ := hsr.int hk2
      have hx := getLt hk2
      generalize xs[k] = x at *
      have hcx := hel k x hx
      obtain ⟨b2, o2, rfl, hel2⟩ := hsu.int (show k < xs.length from hk2)
      have hcy := hel2 k x hx
      refine ct_skip ?_
      refine at_then ?_
      refine ct_seq ?_
      refine ct_block ?_
      refine ct_seq ?_
      refine ct_dr 9 (by kernel_rfl) (by kernel_rfl) ?_
      refine ql_val gw_none (ov_move rfl) rfl ?_
      refine ql_val gw_none (ov_move rfl) rfl ?_
      refine ql_val gw_none (ov_ix Try.underlying27 sz3 rfl rfl _ rfl (by omega)) rfl ?_
      first | refine ql_val gw_none (ov_load 0 sc3 rfl rfl rfl) rfl ?_ | refine ql_val gw_none (ov_load 1 sc3 rfl rfl rfl) rfl ?_ | refine ql_val gw_none (ov_load 2 sc3 rfl rfl rfl) rfl ?_ | refine ql_val gw_none (ov_load 3 sc3 rfl rfl rfl) rfl ?_ | refine ql_val gw_none (ov_loadw sc3 rfl (by assumption)) rfl ?_ | refine ql_val gw_none (ov_load 0 sc3 rfl rfl (by assumption)) rfl ?_ | refine ql_val gw_none (ov_load 1 sc3 rfl rfl (by assumption)) rfl ?_ | refine ql_val gw_none (ov_load 2 sc3 rfl rfl (by assumption)) rfl ?_ | refine ql_val gw_none (ov_load 3 sc3 rfl rfl (by assumption)) rfl ?_
      refine ql_val gw_none (ov_move rfl) rfl ?_
      refine ql_val gw_none (ov_move rfl) rfl ?_
      refine ql_val gw_none (ov_ix Try.underlying27 sz3 rfl rfl _ rfl (by omega)) rfl ?_
      first | refine ql_val gw_none (ov_load 0 sc3 rfl rfl rfl) rfl ?_ | refine ql_val gw_none (ov_load 1 sc3 rfl rfl rfl) rfl ?_ | refine ql_val gw_none (ov_load 2 sc3 rfl rfl rfl) rfl ?_ | refine ql_val gw_none (ov_load 3 sc3 rfl rfl rfl) rfl ?_ | refine ql_val gw_none (ov_loadw sc3 rfl (by assumption)) rfl ?_ | refine ql_val gw_none (ov_load 0 sc3 rfl rfl (by assumption)) rfl ?_ | refine ql_val gw_none (ov_load 1 sc3 rfl rfl (by assumption)) rfl ?_ | refine ql_val gw_none (ov_load 2 sc3 rfl rfl (by assumption)) rfl ?_ | refine ql_val gw_none (ov_load 3 sc3 rfl rfl (by assumption)) rfl ?_
      refine ql_val gw_none (ov_neq rfl rfl) rfl ?_
      refine ql_nil ?_
      refine rl_nil ?_
      refine at_then ?_
      first | refine ct_dec rfl (fun h3 => ?_) (fun h3 => ?_) | refine ct_ndec rfl (fun h3 => ?_) (fun h3 => ?_) | refine ct_eq rfl (fun h3 => ?_) (fun h3 => ?_) | refine ct_ne rfl (fun h3 => ?_) (fun h3 => ?_) | refine ct_not rfl (fun h3 => ?_) (fun h3 => ?_) | refine ct_cond rfl (fun h3 => ?_) (fun h3 => ?_)
      ·
        exact absurd rfl h3
      ·
        refine ct_skip ?_
        refine at_block ?_
        refine at_then ?_
        refine ct_reg ?_
        refine rl_val gw_none (ov_move rfl) rfl ?_
        refine rl_val gw_none (ov_add rfl rfl (by omega)) rfl ?_
        refine rl_val gw_none (ov_assign rfl) rfl ?_
        refine rl_nil ?_
        exact at_backR (k + 1) (by first | exact True.intro | omega | (dsimp only; omega) | (dsimp only at *; omega)) (by first | exact True.intro | omega | (dsimp only; omega) | (dsimp only at *; omega)) (by (repeat' (first | exact Sub.nil | refine Sub.cons ?_ ?_)); all_goals (first | rfl | exact lkInt rfl (by omega))) (Sub.cons rfl (Sub.cons rfl Sub.nil)) (fun _ hq => hq)
    ·
      refine ct_exit ?_
      refine at_then_exit ?_
      refine at_then_exit ?_
      refine at_block_hit ?_
      refine at_then ?_
      refine ct_seq ?_
      refine ct_reg ?_
      refine rl_val gw_none (ov_assign rfl) rfl ?_
      refine rl_nil ?_
      refine at_then ?_
      refine ct_ret ?_
      refine at_ret1 Try.results28 (ro_tmp rfl) (fun w1 hp => ?_)
      exact ⟨rfl, hp.ext0⟩

theorem vInts_c (xs : List Int) (v u : Value) (w : World) (hsr : SR w 1 v xs.length (ints xs)) (hsu : SR w 1 u xs.length (ints xs)) : Calls Try.prog 65 ([v, u]).toArray w (fun e w' => e = .returned (.bool true) ∧ Ext w w') := by
  obtain ⟨a, cap, rfl, hcap, hmax⟩ := hsr.slice
  have hlen := hsr.len_le
  obtain ⟨a2, cap2, rfl, hcap2, hmax2⟩ := hsu.slice
  refine calls_ct Try.func65 Try.ntmps65 rfl rfl ?_
  refine ct_seq ?_
  refine ct_reg ?_
  refine rl_val gw_none (ov_assign rfl) rfl ?_
  refine rl_nil ?_
  refine at_then ?_
  refine ct_seq ?_
  refine ct_seq ?_
  refine ct_reg ?_
  refine rl_val gw_none (ov_move rfl) rfl ?_
  refine rl_val gw_none (ov_len Try.underlying27 rfl) rfl ?_
  refine rl_val gw_none (ov_move rfl) rfl ?_
  refine rl_val gw_none (ov_len Try.underlying27 rfl) rfl ?_
  refine rl_val gw_none (ov_neq rfl rfl) rfl ?_
  refine rl_nil ?_
  refine at_then ?_
  first | refine ct_dec rfl (fun h1 => ?_) (fun h1 => ?_) | refine ct_ndec rfl (fun h1 => ?_) (fun h1 => ?_) | refine ct_eq rfl (fun h1 => ?_) (fun h1 => ?_) | refine ct_ne rfl (fun h1 => ?_) (fun h1 => ?_) | refine ct_not rfl (fun h1 => ?_) (fun h1 => ?_) | refine ct_cond rfl (fun h1 => ?_) (fun h1 => ?_)
  ·
    exact absurd rfl h1
  ·
    refine ct_skip ?_
    refine at_then ?_
    refine ct_seq ?_
    refine ct_seq ?_
    refine ct_reg ?_
    refine rl_val gw_none (ov_assign rfl) rfl ?_
    refine rl_nil ?_
    refine at_then ?_
    refine ct_block ?_
    refine ct_loopR (ι := Nat) (fun k => [(5, .int .i64 k)]) [(0, _), (1, _)] (fun _ => _) (fun k => k ≤ xs.length) (fun k => xs.length - k) (0) (Sub.cons rfl (Sub.cons rfl Sub.nil)) (fun _ hq => hq) (by (repeat' (first | exact Sub.nil | refine Sub.cons ?_ ?_)); all_goals (first | rfl | exact lkInt rfl (by omega))) (by first | exact True.intro | omega | (dsimp only; omega) | (dsimp only at *; omega)) (fun k hk => ?_)
    refine ct_seq ?_
    refine ct_seq ?_
    refine ct_reg ?_
    refine rl_val gw_none (ov_move rfl) rfl ?_
    refine rl_val gw_none (ov_move rfl) rfl ?_
    refine rl_val gw_none (ov_len Try.underlying27 rfl) rfl ?_
    refine rl_val gw_none (ov_lss rfl rfl) rfl ?_
    refine rl_nil ?_
    refine at_then ?_
    first | refine ct_dec rfl (fun h2 => ?_) (fun h2 => ?_) | refine ct_ndec rfl (fun h2 => ?_) (fun h2 => ?_) | refine ct_eq rfl (fun h2 => ?_) (fun h2 => ?_) | refine ct_ne rfl (fun h2 => ?_) (fun h2 => ?_) | refine ct_not rfl (fun h2 => ?_) (fun h2 => ?_) | refine ct_cond rfl (fun h2 => ?_) (fun h2 => ?_)
    ·
      have hk2 : k < xs.length := by omega
      obtain ⟨b, o, rfl, hel⟩ := hsr.int hk2
      have hx := getLt hk2
      generalize xs[k] = x at *
      have hcx := hel k x hx
      obtain ⟨b2, o2, rfl, hel2⟩ := hsu.int (show k < xs.length from hk2)
      have hcy := hel2 k x hx
      refine ct_skip ?_
      refine at_then ?_
      refine ct_seq ?_
      refine ct_block ?_
      refine ct_seq ?_
      refine ct_dr 9 (by kernel_rfl) (by kernel_rfl) ?_
      refine ql_val gw_none (ov_move rfl) rfl ?_
      refine ql_val gw_none (ov_move rfl) rfl ?_
      refine ql_val gw_none (ov_ix Try.underlying27 sz3 rfl rfl _ rfl (by omega)) rfl ?_
      first | refine ql_val gw_none (ov_load 0 sc3 rfl rfl rfl) rfl ?_ | refine ql_val gw_none (ov_load 1 sc3 rfl rfl rfl) rfl ?_ | refine ql_val gw_none (ov_load 2 sc3 rfl rfl rfl) rfl ?_ | refine ql_val gw_none (ov_load 3 sc3 rfl rfl rfl) rfl ?_ | refine ql_val gw_none (ov_loadw sc3 rfl (by assumption)) rfl ?_ | refine ql_val gw_none (ov_load 0 sc3 rfl rfl (by assumption)) rfl ?_ | refine ql_val gw_none (ov_load 1 sc3 rfl rfl (by assumption)) rfl ?_ | refine ql_val gw_none (ov_load 2 sc3 rfl rfl (by assumption)) rfl ?_ | refine ql_val gw_none (ov_load 3 sc3 rfl rfl (by assumption)) rfl ?_
      refine ql_val gw_none (ov_move rfl) rfl ?_
      refine ql_val gw_none (ov_move rfl) rfl ?_
      refine ql_val gw_none (ov_ix Try.underlying27 sz3 rfl rfl _ rfl (by omega)) rfl ?_
      first | refine ql_val gw_none (ov_load 0 sc3 rfl rfl rfl) rfl ?_ | refine ql_val gw_none (ov_load 1 sc3 rfl rfl rfl) rfl ?_ | refine ql_val gw_none (ov_load 2 sc3 rfl rfl rfl) rfl ?_ | refine ql_val gw_none (ov_load 3 sc3 rfl rfl rfl) rfl ?_ | refine ql_val gw_none (ov_loadw sc3 rfl (by assumption)) rfl ?_ | refine ql_val gw_none (ov_load 0 sc3 rfl rfl (by assumption)) rfl ?_ | refine ql_val gw_none (ov_load 1 sc3 rfl rfl (by assumption)) rfl ?_ | refine ql_val gw_none (ov_load 2 sc3 rfl rfl (by assumption)) rfl ?_ | refine ql_val gw_none (ov_load 3 sc3 rfl rfl (by assumption)) rfl ?_
      refine ql_val gw_none (ov_neq rfl rfl) rfl ?_
      refine ql_nil ?_
      refine rl_nil ?_
      refine at_then ?_
      first | refine ct_dec rfl (fun h3 => ?_) (fun h3 => ?_) | refine ct_ndec rfl (fun h3 => ?_) (fun h3 => ?_) | refine ct_eq rfl (fun h3 => ?_) (fun h3 => ?_) | refine ct_ne rfl (fun h3 => ?_) (fun h3 => ?_) | refine ct_not rfl (fun h3 => ?_) (fun h3 => ?_) | refine ct_cond rfl (fun h3 => ?_) (fun h3 => ?_)
      ·
        exact absurd rfl h3
      ·
        refine ct_skip ?_
        refine at_block ?_
        refine at_then ?_
        refine ct_reg ?_
        refine rl_val gw_none (ov_move rfl) rfl ?_
        refine rl_val gw_none (ov_add rfl rfl (by omega)) rfl ?_
        refine rl_val gw_none (ov_assign rfl) rfl ?_
        refine rl_nil ?_
        exact at_backR (k + 1) (by first | exact True.intro | omega | (dsimp only; omega) | (dsimp only at *; omega)) (by first | exact True.intro | omega | (dsimp only; omega) | (dsimp only at *; omega)) (by (repeat' (first | exact Sub.nil | refine Sub.cons ?_ ?_)); all_goals (first | rfl | exact lkInt rfl (by omega))) (Sub.cons rfl (Sub.cons rfl Sub.nil)) (fun _ hq => hq)
    ·
      refine ct_exit ?_
      refine at_then_exit ?_
      refine at_then_exit ?_
      refine at_block_hit ?_
      refine at_then ?_
      refine ct_seq ?_
      refine ct_reg ?_
      refine rl_val gw_none (ov_assign rfl) rfl ?_
      refine rl_nil ?_
      refine at_then ?_
      refine ct_ret ?_
      refine at_ret1 Try.results65 (ro_tmp rfl) (fun w1 hp => ?_)
      exact ⟨rfl, hp.ext0⟩

theorem toIntS_c (xs : List Int) (v : Value) (w : World) (hsr : SR w 1 v xs.length (ints xs)) (hn : xs.length ≤ 1048576) : Calls Try.prog 85 ([v]).toArray w (fun e w' => ∃ b, e = .returned (.slice (some ⟨b, 0, none⟩) xs.length xs.length) ∧ New w w' b 3 (ints xs)) := by
  obtain ⟨a, cap, rfl, hcap, hmax⟩ := hsr.slice
  have hlen := hsr.len_le
  refine calls_ct Try.func85 Try.ntmps85 rfl rfl ?_
  refine ct_seq ?_
  refine ct_reg ?_
  refine rl_val gw_none (ov_assign rfl) rfl ?_
  refine rl_nil ?_
  refine at_then ?_
  refine ct_seq ?_
  refine ct_reg ?_
  refine rl_val gw_none (ov_move rfl) rfl ?_
  refine rl_val gw_none (ov_len Try.underlying27 rfl) rfl ?_
  refine rl_make Try.underlying27 ze3 sz3 by3 rfl rfl (by omega) (by unfold maxLen; omega) rfl (fun N1 => ?_)
  refine rl_val gw_none (ov_assign rfl) rfl ?_
  refine rl_nil ?_
  refine at_then ?_
  refine ct_seq ?_
  refine ct_seq ?_
  refine ct_reg ?_
  refine rl_val gw_none (ov_assign rfl) rfl ?_
  refine rl_nil ?_
  refine at_then ?_
  refine ct_block ?_
  refine ct_loopR (ι := Nat) (fun k => [(4, .int .i64 k)]) [(0, _), (2, _), (3, _)] (fun k => [(some N1, 3, over (ints xs) (List.replicate xs.length [.int .i64 0]).flatten k)]) (fun k => k ≤ xs.length) (fun k => xs.length - k) (0) (Sub.cons rfl (Sub.cons rfl (Sub.cons rfl Sub.nil))) (fun w1 hq => hq.cong (by rw [over_0])) (by (repeat' (first | exact Sub.nil | refine Sub.cons ?_ ?_)); all_goals (first | rfl | exact lkInt rfl (by omega))) (by first | exact True.intro | omega | (dsimp only; omega) | (dsimp only at *; omega)) (fun k hk => ?_)
  refine ct_seq ?_
  refine ct_seq ?_
  refine ct_reg ?_
  refine rl_val gw_none (ov_move rfl) rfl ?_
  refine rl_val gw_none (ov_move rfl) rfl ?_
  refine rl_val gw_none (ov_len Try.underlying27 rfl) rfl ?_
  refine rl_val gw_none (ov_lss rfl rfl) rfl ?_
  refine rl_nil ?_
  refine at_then ?_
  first | refine ct_dec rfl (fun h1 => ?_) (fun h1 => ?_) | refine ct_ndec rfl (fun h1 => ?_) (fun h1 => ?_) | refine ct_eq rfl (fun h1 => ?_) (fun h1 => ?_) | refine ct_ne rfl (fun h1 => ?_) (fun h1 => ?_) | refine ct_not rfl (fun h1 => ?_) (fun h1 => ?_) | refine ct_cond rfl (fun h1 => ?_) (fun h1 => ?_)
  ·
    have hk2 : k < xs.length := by omega
    obtain ⟨b, o, rfl, hel⟩ := hsr.int hk2
    have hx := getLt hk2
    generalize xs[k] = x at *
    have hcx := hel k x hx
    refine ct_skip ?_
    refine at_then ?_
    refine ct_seq ?_
    refine ct_block ?_
    refine ct_reg ?_
    refine rl_val gw_none (ov_move rfl) rfl ?_
    refine rl_val gw_none (ov_move rfl) rfl ?_
    refine rl_val gw_none (ov_move rfl) rfl ?_
    refine rl_val gw_none (ov_move rfl) rfl ?_
    refine rl_val gw_none (ov_ix Try.underlying27 sz3 rfl rfl _ rfl (by omega)) rfl ?_
    first | refine rl_val gw_none (ov_load 0 sc3 rfl rfl rfl) rfl ?_ | refine rl_val gw_none (ov_load 1 sc3 rfl rfl rfl) rfl ?_ | refine rl_val gw_none (ov_load 2 sc3 rfl rfl rfl) rfl ?_ | refine rl_val gw_none (ov_load 3 sc3 rfl rfl rfl) rfl ?_ | refine rl_val gw_none (ov_loadw sc3 rfl (by assumption)) rfl ?_ | refine rl_val gw_none (ov_load 0 sc3 rfl rfl (by assumption)) rfl ?_ | refine rl_val gw_none (ov_load 1 sc3 rfl rfl (by assumption)) rfl ?_ | refine rl_val gw_none (ov_load 2 sc3 rfl rfl (by assumption)) rfl ?_ | refine rl_val gw_none (ov_load 3 sc3 rfl rfl (by assumption)) rfl ?_
    refine rl_val gw_none (ov_ix Try.underlying27 sz3 rfl rfl _ rfl (by omega)) rfl ?_
    refine rl_store ([]) sz3 rfl rfl rfl rfl rfl (by rw [over_len (by rw [ints_length]; omega) (by simp; omega)]; simp; omega) ?_
    refine rl_nil ?_
    refine at_block ?_
    refine at_then ?_
    refine ct_reg ?_
    refine rl_val gw_none (ov_move rfl) rfl ?_
    refine rl_val gw_none (ov_add rfl rfl (by omega)) rfl ?_
    refine rl_val gw_none (ov_assign rfl) rfl ?_
    refine rl_nil ?_
    exact at_backR (k + 1) (by first | exact True.intro | omega | (dsimp only; omega) | (dsimp only at *; omega)) (by first | exact True.intro | omega | (dsimp only; omega) | (dsimp only at *; omega)) (by (repeat' (first | exact Sub.nil | refine Sub.cons ?_ ?_)); all_goals (first | rfl | exact lkInt rfl (by omega))) (Sub.cons rfl (Sub.cons rfl (Sub.cons rfl Sub.nil))) (fun w1 hq => hq.cong (by rw [← over_step (ints_get hx) (by simp; omega)]; rfl))
  ·
    have hke : k = xs.length := by omega
    subst hke
    refine ct_exit ?_
    refine at_then_exit ?_
    refine at_then_exit ?_
    refine at_block_hit ?_
    refine at_then ?_
    refine ct_seq ?_
    refine ct_reg ?_
    refine rl_val gw_none (ov_move rfl) rfl ?_
    refine rl_val gw_none (ov_assign rfl) rfl ?_
    refine rl_nil ?_
    refine at_then ?_
    refine ct_ret ?_
    refine at_ret1 Try.results85 (ro_tmp rfl) (fun w1 hp => ?_)
    exact ⟨N1, rfl, by have := hp.toNew (i := 0) rfl; rw [show over (ints xs) (List.replicate xs.length [Value.int .i64 0]).flatten xs.length = ints xs from by unfold over; rw [List.take_of_length_le (by rw [ints_length]; exact Nat.le_refl _), List.drop_eq_nil_of_le (by simp), List.append_nil]] at this; exact this⟩

theorem markIntS_s (k0 : Int) (b len cap : Nat) (L : List Value) (w : World) (hh : w.heap[b]? = some (.cells L.toArray 3 (0, 0))) (hL : 1 * len ≤ L.length) (hk0 : 0 ≤ k0 ∧ k0 ≤ 1000000000000 ∧ len ≤ 1000000000000) : Calls Try.prog 29 ([.slice (some ⟨b, 0, none⟩) len cap, .int .i64 k0]).toArray w (fun e w' => e = .returned (.int .i64 (k0 + 1 * (len : Nat))) ∧ Turn w w' b ∧ w'.heap[b]? = some (.cells (ints (marks k0 (1 * len)) ++ L.drop (1 * len)).toArray 3 (0, 0))) := by
  refine calls_ctd hh Try.func29 Try.ntmps29 rfl rfl ?_
  refine ct_seq ?_
  refine ct_reg ?_
  refine rl_val gw_none (ov_assign rfl) rfl ?_
  refine rl_nil ?_
  refine at_then ?_
  refine ct_seq ?_
  refine ct_seq ?_
  refine ct_reg ?_
  refine rl_val gw_none (ov_assign rfl) rfl ?_
  refine rl_nil ?_
  refine at_then ?_
  refine ct_block ?_
  refine ct_loopR (ι := Nat) (fun k => [(1, .int .i64 (k0 + 1 * (k : Nat))), (5, .int .i64 k)]) [(0, _), (4, _)] (fun k => [(some b, 3, over (ints (marks k0 (1 * len))) L k)]) (fun k => k ≤ len) (fun k => len - k) (0) (Sub.cons rfl (Sub.cons rfl Sub.nil)) (fun w1 hq => hq.cong (by rw [over_0])) (by (repeat' (first | exact Sub.nil | refine Sub.cons ?_ ?_)); all_goals (first | rfl | exact lkInt rfl (by omega))) (by first | exact True.intro | omega | (dsimp only; omega) | (dsimp only at *; omega)) (fun k hk => ?_)
  refine ct_seq ?_
  refine ct_seq ?_
  refine ct_reg ?_
  refine rl_val gw_none (ov_move rfl) rfl ?_
  refine rl_val gw_none (ov_move rfl) rfl ?_
  refine rl_val gw_none (ov_len Try.underlying27 rfl) rfl ?_
  refine rl_val gw_none (ov_lss rfl rfl) rfl ?_
  refine rl_nil ?_
  refine at_then ?_
  first | refine ct_dec rfl (fun h1 => ?_) (fun h1 => ?_) | refine ct_ndec rfl (fun h1 => ?_) (fun h1 => ?_) | refine ct_eq rfl (fun h1 => ?_) (fun h1 => ?_) | refine ct_ne rfl (fun h1 => ?_) (fun h1 => ?_) | refine ct_not rfl (fun h1 => ?_) (fun h1 => ?_) | refine ct_cond rfl (fun h1 => ?_) (fun h1 => ?_)
  ·
    have hk2 : k < len := by omega
    refine ct_skip ?_
    refine at_then ?_
    refine ct_seq ?_
    refine ct_block ?_
    refine ct_seq ?_
    refine ct_reg ?_
    refine rl_val gw_none (ov_move rfl) rfl ?_
    refine rl_val gw_none (ov_move rfl) rfl ?_
    refine rl_val gw_none (ov_move rfl) rfl ?_
    refine rl_val gw_none (ov_ix Try.underlying27 sz3 rfl rfl _ rfl (by omega)) rfl ?_
    refine rl_store ([]) sz3 rfl rfl rfl rfl rfl (by rw [over_len (by rw [ints_length, marks_len]; omega) (by omega)]; omega) ?_
    refine rl_mem (fun _ hq => hq.cong (congrArg (fun x => [(some b, 3, x)]) (over_at (k0 := k0) (p := k) (by omega) (by omega) (by omega) (by omega)))) ?_
    refine rl_nil ?_
    refine at_then ?_
    refine ct_reg ?_
    refine rl_val gw_none (ov_move rfl) rfl ?_
    refine rl_val gw_none (ov_add rfl rfl (by omega)) rfl ?_
    refine rl_val gw_none (ov_assign rfl) rfl ?_
    refine rl_nil ?_
    refine at_block ?_
    refine at_then ?_
    refine ct_reg ?_
    refine rl_val gw_none (ov_move rfl) rfl ?_
    refine rl_val gw_none (ov_add rfl rfl (by omega)) rfl ?_
    refine rl_val gw_none (ov_assign rfl) rfl ?_
    refine rl_nil ?_
    exact at_backR (k + 1) (by first | exact True.intro | omega | (dsimp only; omega) | (dsimp only at *; omega)) (by first | exact True.intro | omega | (dsimp only; omega) | (dsimp only at *; omega)) (by (repeat' (first | exact Sub.nil | refine Sub.cons ?_ ?_)); all_goals (first | rfl | exact lkInt rfl (by omega))) (Sub.cons rfl (Sub.cons rfl Sub.nil)) (fun _ hq => hq)
  ·
    have hke : k = len := by omega
    subst hke
    refine ct_exit ?_
    refine at_then_exit ?_
    refine at_then_exit ?_
    refine at_block_hit ?_
    refine at_then ?_
    refine ct_seq ?_
    refine ct_reg ?_
    refine rl_val gw_none (ov_move rfl) rfl ?_
    refine rl_val gw_none (ov_assign rfl) rfl ?_
    refine rl_nil ?_
    refine at_then ?_
    refine ct_ret ?_
    refine at_ret1 Try.results29 (ro_tmp rfl) (fun w1 hp => ?_)
    refine ⟨rfl, hp.turn0, ?_⟩
    rw [← over_marks, Nat.one_mul]
    have := hp.at (i := 0) rfl
    rw [Nat.one_mul] at this
    exact this

theorem markIntS_n (k0 : Int) (w : World) : Calls Try.prog 29 ([.slice none 0 0, .int .i64 k0]).toArray w (fun e w' => e = .returned (.int .i64 k0) ∧ Ext w w') := by
  refine calls_ct Try.func29 Try.ntmps29 rfl rfl ?_
  refine ct_seq ?_
  refine ct_reg ?_
  refine rl_val gw_none (ov_assign rfl) rfl ?_
  refine rl_nil ?_
  refine at_then ?_
  refine ct_seq ?_
  refine ct_seq ?_
  refine ct_reg ?_
  refine rl_val gw_none (ov_assign rfl) rfl ?_
  refine rl_nil ?_
  refine at_then ?_
  refine ct_block ?_
  refine ct_loopR (ι := Nat) (fun k => [(1, .int .i64 k0), (5, .int .i64 0)]) [(0, _), (4, _)] (fun _ => _) (fun k => True) (fun k => 0) (0) (Sub.cons rfl (Sub.cons rfl Sub.nil)) (fun _ hq => hq) (by (repeat' (first | exact Sub.nil | refine Sub.cons ?_ ?_)); all_goals (first | rfl | exact lkInt rfl (by omega))) (by first | exact True.intro | omega | (dsimp only; omega) | (dsimp only at *; omega)) (fun k hk => ?_)
  refine ct_seq ?_
  refine ct_seq ?_
  refine ct_reg ?_
  refine rl_val gw_none (ov_move rfl) rfl ?_
  refine rl_val gw_none (ov_move rfl) rfl ?_
  refine rl_val gw_none (ov_len Try.underlying27 rfl) rfl ?_
  refine rl_val gw_none (ov_lss rfl rfl) rfl ?_
  refine rl_nil ?_
  refine at_then ?_
  first | refine ct_dec rfl (fun h1 => ?_) (fun h1 => ?_) | refine ct_ndec rfl (fun h1 => ?_) (fun h1 => ?_) | refine ct_eq rfl (fun h1 => ?_) (fun h1 => ?_) | refine ct_ne rfl (fun h1 => ?_) (fun h1 => ?_) | refine ct_not rfl (fun h1 => ?_) (fun h1 => ?_) | refine ct_cond rfl (fun h1 => ?_) (fun h1 => ?_)
  ·
    exact absurd h1 (by omega)
  ·
    refine ct_exit ?_
    refine at_then_exit ?_
    refine at_then_exit ?_
    refine at_block_hit ?_
    refine at_then ?_
    refine ct_seq ?_
    refine ct_reg ?_
    refine rl_val gw_none (ov_move rfl) rfl ?_
    refine rl_val gw_none (ov_assign rfl) rfl ?_
    refine rl_nil ?_
    refine at_then ?_
    refine ct_ret ?_
    refine at_ret1 Try.results29 (ro_tmp rfl) (fun w1 hp => ?_)
    exact ⟨rfl, hp.ext0⟩

theorem heldIntS_c (k0 : Int) (len : Nat) (v : Value) (w : World) (hsr : SR w 1 v len (ints (marks k0 (1 * len)))) (hk0 : 0 ≤ k0 ∧ k0 ≤ 1000000000000 ∧ len ≤ 1000000000000) : Calls Try.prog 30 ([v, .int .i64 k0]).toArray w (fun e w' => e = .returned (.int .i64 (k0 + 1 * (len : Nat))) ∧ Ext w w') := by
  obtain ⟨a, cap, rfl, hcap, hmax⟩ := hsr.slice
  have hlen := hsr.len_le
  refine calls_ct Try.func30 Try.ntmps30 rfl rfl ?_
  refine ct_seq ?_
  refine ct_reg ?_
  refine rl_val gw_none (ov_assign rfl) rfl ?_
  refine rl_nil ?_
  refine at_then ?_
  refine ct_seq ?_
  refine ct_seq ?_
  refine ct_reg ?_
  refine rl_val gw_none (ov_assign rfl) rfl ?_
  refine rl_nil ?_
  refine at_then ?_
  refine ct_block ?_
  refine ct_loopR (ι := Nat) (fun k => [(1, .int .i64 (k0 + 1 * (k : Nat))), (5, .int .i64 k)]) [(0, _)] (fun _ => _) (fun k => k ≤ len) (fun k => len - k) (0) (Sub.cons rfl Sub.nil) (fun _ hq => hq) (by (repeat' (first | exact Sub.nil | refine Sub.cons ?_ ?_)); all_goals (first | rfl | exact lkInt rfl (by omega))) (by first | exact True.intro | omega | (dsimp only; omega) | (dsimp only at *; omega)) (fun k hk => ?_)
  refine ct_seq ?_
  refine ct_seq ?_
  refine ct_reg ?_
  refine rl_val gw_none (ov_move rfl) rfl ?_
  refine rl_val gw_none (ov_move rfl) rfl ?_
  refine rl_val gw_none (ov_len Try.underlying27 rfl) rfl ?_
  refine rl_val gw_none (ov_lss rfl rfl) rfl ?_
  refine rl_nil ?_
  refine at_then ?_
  first | refine ct_dec rfl (fun h1 => ?_) (fun h1 => ?_) | refine ct_ndec rfl (fun h1 => ?_) (fun h1 => ?_) | refine ct_eq rfl (fun h1 => ?_) (fun h1 => ?_) | refine ct_ne rfl (fun h1 => ?_) (fun h1 => ?_) | refine ct_not rfl (fun h1 => ?_) (fun h1 => ?_) | refine ct_cond rfl (fun h1 => ?_) (fun h1 => ?_)
  ·
    have hk2 : k < len := by omega
    obtain ⟨b, o, rfl, hcl⟩ := hsr.at hk2 (by omega)
    have c0 : w.cell? ⟨b, o + k * 1, none⟩ = some _ := hcl 0 _ (by omega) (imarks_get (k0 := k0) (k := k * 1 + 0) (by omega))
    refine ct_skip ?_
    refine at_then ?_
    refine ct_seq ?_
    refine ct_block ?_
    refine ct_seq ?_
    refine ct_seq ?_
    refine ct_reg ?_
    refine rl_val gw_none (ov_move rfl) rfl ?_
    refine rl_val gw_none (ov_move rfl) rfl ?_
    refine rl_val gw_none (ov_ix Try.underlying27 sz3 rfl rfl _ rfl (by omega)) rfl ?_
    first | refine rl_val gw_none (ov_load 0 sc3 rfl rfl rfl) rfl ?_ | refine rl_val gw_none (ov_load 1 sc3 rfl rfl rfl) rfl ?_ | refine rl_val gw_none (ov_load 2 sc3 rfl rfl rfl) rfl ?_ | refine rl_val gw_none (ov_load 3 sc3 rfl rfl rfl) rfl ?_ | refine rl_val gw_none (ov_loadw sc3 rfl (by assumption)) rfl ?_ | refine rl_val gw_none (ov_load 0 sc3 rfl rfl (by assumption)) rfl ?_ | refine rl_val gw_none (ov_load 1 sc3 rfl rfl (by assumption)) rfl ?_ | refine rl_val gw_none (ov_load 2 sc3 rfl rfl (by assumption)) rfl ?_ | refine rl_val gw_none (ov_load 3 sc3 rfl rfl (by assumption)) rfl ?_
    refine rl_val gw_none (ov_move rfl) rfl ?_
    refine rl_val gw_none (ov_neq rfl rfl) rfl ?_
    refine rl_nil ?_
    refine at_then ?_
    first | refine ct_dec rfl (fun h2 => ?_) (fun h2 => ?_) | refine ct_ndec rfl (fun h2 => ?_) (fun h2 => ?_) | refine ct_eq rfl (fun h2 => ?_) (fun h2 => ?_) | refine ct_ne rfl (fun h2 => ?_) (fun h2 => ?_) | refine ct_not rfl (fun h2 => ?_) (fun h2 => ?_) | refine ct_cond rfl (fun h2 => ?_) (fun h2 => ?_)
    ·
      exact absurd (by omega) h2
    ·
      refine ct_skip ?_
      refine at_then ?_
      refine ct_reg ?_
      refine rl_val gw_none (ov_move rfl) rfl ?_
      refine rl_val gw_none (ov_add rfl rfl (by omega)) rfl ?_
      refine rl_val gw_none (ov_assign rfl) rfl ?_
      refine rl_nil ?_
      refine at_block ?_
      refine at_then ?_
      refine ct_reg ?_
      refine rl_val gw_none (ov_move rfl) rfl ?_
      refine rl_val gw_none (ov_add rfl rfl (by omega)) rfl ?_
      refine rl_val gw_none (ov_assign rfl) rfl ?_
      refine rl_nil ?_
      exact at_backR (k + 1) (by first | exact True.intro | omega | (dsimp only; omega) | (dsimp only at *; omega)) (by first | exact True.intro | omega | (dsimp only; omega) | (dsimp only at *; omega)) (by (repeat' (first | exact Sub.nil | refine Sub.cons ?_ ?_)); all_goals (first | rfl | exact lkInt rfl (by omega))) (Sub.cons rfl Sub.nil) (fun _ hq => hq)
  ·
    have hke : k = len := by omega
    subst hke
    refine ct_exit ?_
    refine at_then_exit ?_
    refine at_then_exit ?_
    refine at_block_hit ?_
    refine at_then ?_
    refine ct_seq ?_
    refine ct_reg ?_
    refine rl_val gw_none (ov_move rfl) rfl ?_
    refine rl_val gw_none (ov_assign rfl) rfl ?_
    refine rl_nil ?_
    refine at_then ?_
    refine ct_ret ?_
    refine at_ret1 Try.results30 (ro_tmp rfl) (fun w1 hp => ?_)
    exact ⟨rfl, hp.ext0⟩

theorem markIntS_o (k0 : Int) {bo : Option Nat} {len cap : Nat} {xs pad : List Value} (hsl : Sl 1 bo len cap xs pad) (w : World) (hh : ∀ b, bo = some b → w.heap[b]? = some (.cells (xs ++ pad).toArray 3 (0, 0))) (hk0 : 0 ≤ k0 ∧ k0 ≤ 1000000000000 ∧ len ≤ 1000000000000) :
    Calls Try.prog 29 [sv bo len cap, .int .i64 k0].toArray w (fun e w' => e = .returned (.int .i64 (k0 + 1 * (len : Nat))) ∧ Wrote bo 3 (ints (marks k0 (1 * len)) ++ (xs ++ pad).drop (1 * len)) w w') := by
  cases bo with
  | none =>
    obtain ⟨rfl, rfl⟩ := hsl.nil rfl
    have hnil : xs ++ pad = [] := List.length_eq_zero_iff.1 (by rw [hsl.lp, Nat.zero_mul])
    refine (markIntS_n k0 w).mono fun e w' ⟨he, hx⟩ => ⟨by rw [he]; simp, ?_, hx⟩
    rw [hnil]; simp [marks, ints]
  | some b =>
    have hle := hsl.le
    have := Nat.mul_le_mul_right 1 hle
    exact (markIntS_s k0 b len cap (xs ++ pad) w (hh b rfl) (by rw [hsl.lp]; omega) hk0).mono fun e w' ⟨he, ht, hc⟩ => ⟨he, ht, hc⟩

theorem szIntS_c (len : Nat) (left : Int) (v : Value) (w : World) (L : List Value) (hsr : SR w 1 v len L) (hl : 0 ≤ left ∧ left ≤ 1048576) : Calls Try.prog 82 ([v, .int .i64 left]).toArray w (fun e w' => ∃ r : Int, (r < 0 ∨ (0 ≤ r ∧ r ≤ left - len)) ∧ e = .returned (.int .i64 r) ∧ Ext w w') := by
  obtain ⟨a, cap, rfl, hcap, hmax⟩ := hsr.slice
  have hlen := hsr.len_le
  refine calls_ct Try.func82 Try.ntmps82 rfl rfl ?_
  refine ct_seq ?_
  refine ct_reg ?_
  refine rl_val gw_none (ov_assign rfl) rfl ?_
  refine rl_nil ?_
  refine at_then ?_
  refine ct_seq ?_
  refine ct_reg ?_
  refine rl_val gw_none (ov_move rfl) rfl ?_
  refine rl_val gw_none (ov_move rfl) rfl ?_
  refine rl_val gw_none (ov_len Try.underlying27 rfl) rfl ?_
  refine rl_val gw_none (ov_sub rfl rfl (by omega)) rfl ?_
  refine rl_val gw_none (ov_assign rfl) rfl ?_
  refine rl_nil ?_
  refine at_then ?_
  refine ct_seq ?_
  refine ct_seq ?_
  refine ct_reg ?_
  refine rl_val gw_none (ov_move rfl) rfl ?_
  refine rl_val gw_none (ov_lss rfl rfl) rfl ?_
  refine rl_nil ?_
  refine at_then ?_
  first | refine ct_dec rfl (fun h1 => ?_) (fun h1 => ?_) | refine ct_ndec rfl (fun h1 => ?_) (fun h1 => ?_) | refine ct_eq rfl (fun h1 => ?_) (fun h1 => ?_) | refine ct_ne rfl (fun h1 => ?_) (fun h1 => ?_) | refine ct_not rfl (fun h1 => ?_) (fun h1 => ?_) | refine ct_cond rfl (fun h1 => ?_) (fun h1 => ?_)
  ·
    refine ct_seq ?_
    refine ct_reg ?_
    refine rl_val gw_none (ov_assign rfl) rfl ?_
    refine rl_nil ?_
    refine at_then ?_
    refine ct_ret ?_
    refine at_then_ret ?_
    refine at_ret1 Try.results82 (ro_tmp rfl) (fun w1 hp => ?_)
    exact ⟨_, by omega, rfl, hp.ext0⟩
  ·
    refine ct_skip ?_
    refine at_then ?_
    refine ct_seq ?_
    refine ct_reg ?_
    refine rl_val gw_none (ov_move rfl) rfl ?_
    refine rl_val gw_none (ov_assign rfl) rfl ?_
    refine rl_nil ?_
    refine at_then ?_
    refine ct_ret ?_
    refine at_ret1 Try.results82 (ro_tmp rfl) (fun w1 hp => ?_)
    exact ⟨_, by omega, rfl, hp.ext0⟩

theorem markIntS_m (k0 : Int) (b len cap : Nat) (L : List Value) (w : World) (hh : w.heap[b]? = some (.cells L.toArray 3 (0, 0))) (hL : L.length = len * 1) (hk0 : 0 ≤ k0 ∧ k0 ≤ 1000000000000 ∧ len ≤ 1000000000000) :
    Calls Try.prog 29 [.slice (some ⟨b, 0, none⟩) len cap, .int .i64 k0].toArray w (fun e w' => e = .returned (.int .i64 (k0 + 1 * (len : Nat))) ∧ Turn w w' b) :=
  (markIntS_s k0 b len cap L w hh (by rw [hL, Nat.mul_comm]; exact Nat.le_refl _) hk0).mono fun e w' ⟨he, ht, _⟩ => ⟨he, ht⟩

theorem szMind_c (left : Int) (u : Int) (l : Int) (xs : List IntA2) (cl : List Int) (im : List Int) (be : Int) (gu : Int) (vxs : Value) (vcl : Value) (vim : Value) (w : World) (zu : In64 u) (zl : In64 l) (hGxs : ∀ y ∈ xs, GIntA2 y) (hsxs : SR w 2 vxs xs.length (flat encIntA2 xs)) (hscl : SR w 1 vcl cl.length (ints cl)) (hsim : SR w 1 vim im.length (ints im)) (zbe : In64 be) (zgu : In64 gu) (hl : 0 ≤ left ∧ left ≤ 1048576) : Calls Try.prog 24 ([.agg (List.toArray (α := Value) [.int .i64 u, .int .i64 l, vxs, vcl, vim, .int .i64 be, .int .i64 gu]), .int .i64 left]).toArray w (fun e w' => ∃ r : Int, (r < 0 ∨ (0 ≤ r ∧ r ≤ left - xs.length - cl.length - im.length)) ∧ e = .returned (.int .i64 r) ∧ Ext w w') := by
  obtain ⟨axs, capxs, rfl, hcapxs, hmaxxs⟩ := hsxs.slice
  have hlenxs := hsxs.len_le
  obtain ⟨acl, capcl, rfl, hcapcl, hmaxcl⟩ := hscl.slice
  have hlencl := hscl.len_le
  obtain ⟨aim, capim, rfl, hcapim, hmaxim⟩ := hsim.slice
  have hlenim := hsim.len_le
  refine calls_ct Try.func24 Try.ntmps24 rfl rfl ?_
  refine ct_seq ?_
  refine ct_reg ?_
  refine rl_box rfl rfl (fun N1 => ?_)
  refine rl_val gw_none (ov_assign rfl) rfl ?_
  refine rl_nil ?_
  refine at_then ?_
  refine ct_seq ?_
  refine ct_reg ?_
  refine rl_val gw_none (ov_field fo39_0 rfl) rfl ?_
  first | refine rl_val gw_none (ov_loadall 0 ag24 rfl rfl rfl) rfl ?_ | refine rl_val gw_none (ov_loadp 0 ag24 rfl rfl (vs := [_, _, _]) rfl rfl) rfl ?_ | refine rl_val gw_none (ov_loada 0 ag24 rfl rfl rfl (by assumption)) rfl ?_
  refine rl_val gw_none (ov_move rfl) rfl ?_
  refine rl_callx (ι := Int) (fun r => .int .i64 r) (fun r => r < 0 ∨ (0 ≤ r ∧ r ≤ left - xs.length)) gw_none goes15 rfl (fun w1 hp => szFrame_c left u l xs _ _ zu zl hGxs (hsxs.ext hp.ext0) (by omega)) rfl (fun r0 hr0 => ?_)
  refine rl_val gw_none (ov_assign rfl) rfl ?_
  refine rl_nil ?_
  refine at_then ?_
  refine ct_seq ?_
  refine ct_seq ?_
  refine ct_reg ?_
  refine rl_val gw_none (ov_move rfl) rfl ?_
  refine rl_val gw_none (ov_lss rfl rfl) rfl ?_
  refine rl_nil ?_
  refine at_then ?_
  first | refine ct_dec rfl (fun h1 => ?_) (fun h1 => ?_) | refine ct_ndec rfl (fun h1 => ?_) (fun h1 => ?_) | refine ct_eq rfl (fun h1 => ?_) (fun h1 => ?_) | refine ct_ne rfl (fun h1 => ?_) (fun h1 => ?_) | refine ct_not rfl (fun h1 => ?_) (fun h1 => ?_) | refine ct_cond rfl (fun h1 => ?_) (fun h1 => ?_)
  ·
    refine ct_seq ?_
    refine ct_reg ?_
    refine rl_val gw_none (ov_assign rfl) rfl ?_
    refine rl_nil ?_
    refine at_then ?_
    refine ct_ret ?_
    refine at_then_ret ?_
    refine at_ret1 Try.results24 (ro_tmp rfl) (fun w1 hp => ?_)
    exact ⟨_, by omega, rfl, hp.ext0⟩
  ·
    refine ct_skip ?_
    refine at_then ?_
    refine ct_seq ?_
    refine ct_reg ?_
    refine rl_val gw_none (ov_field fo39_1 rfl) rfl ?_
    first | refine rl_val gw_none (ov_load 0 sc27 rfl rfl rfl) rfl ?_ | refine rl_val gw_none (ov_load 0 sc27 rfl rfl (by assumption)) rfl ?_
    refine rl_val gw_none (ov_move rfl) rfl ?_
    refine rl_callx (ι := Int) (fun r => .int .i64 r) (fun r => r < 0 ∨ (0 ≤ r ∧ r ≤ r0 - cl.length)) gw_none goes82 rfl (fun w1 hp => szIntS_c cl.length r0 _ _ _ (hscl.ext hp.ext0) (by omega)) rfl (fun r1 hr1 => ?_)
    refine rl_val gw_none (ov_assign rfl) rfl ?_
    refine rl_nil ?_
    refine at_then ?_
    refine ct_seq ?_
    refine ct_seq ?_
    refine ct_reg ?_
    refine rl_val gw_none (ov_move rfl) rfl ?_
    refine rl_val gw_none (ov_lss rfl rfl) rfl ?_
    refine rl_nil ?_
    refine at_then ?_
    first | refine ct_dec rfl (fun h2 => ?_) (fun h2 => ?_) | refine ct_ndec rfl (fun h2 => ?_) (fun h2 => ?_) | refine ct_eq rfl (fun h2 => ?_) (fun h2 => ?_) | refine ct_ne rfl (fun h2 => ?_) (fun h2 => ?_) | refine ct_not rfl (fun h2 => ?_) (fun h2 => ?_) | refine ct_cond rfl (fun h2 => ?_) (fun h2 => ?_)
    ·
      refine ct_seq ?_
      refine ct_reg ?_
      refine rl_val gw_none (ov_assign rfl) rfl ?_
      refine rl_nil ?_
      refine at_then ?_
      refine ct_ret ?_
      refine at_then_ret ?_
      refine at_ret1 Try.results24 (ro_tmp rfl) (fun w1 hp => ?_)
      exact ⟨_, by omega, rfl, hp.ext0⟩
    ·
      refine ct_skip ?_
      refine at_then ?_
      refine ct_seq ?_
      refine ct_reg ?_
      refine rl_val gw_none (ov_field fo39_2 rfl) rfl ?_
      first | refine rl_val gw_none (ov_load 0 sc27 rfl rfl rfl) rfl ?_ | refine rl_val gw_none (ov_load 0 sc27 rfl rfl (by assumption)) rfl ?_
      refine rl_val gw_none (ov_move rfl) rfl ?_
      refine rl_callx (ι := Int) (fun r => .int .i64 r) (fun r => r < 0 ∨ (0 ≤ r ∧ r ≤ r1 - im.length)) gw_none goes82 rfl (fun w1 hp => szIntS_c im.length r1 _ _ _ (hsim.ext hp.ext0) (by omega)) rfl (fun r2 hr2 => ?_)
      refine rl_val gw_none (ov_assign rfl) rfl ?_
      refine rl_nil ?_
      refine at_then ?_
      refine ct_seq ?_
      refine ct_seq ?_
      refine ct_reg ?_
      refine rl_val gw_none (ov_move rfl) rfl ?_
      refine rl_val gw_none (ov_lss rfl rfl) rfl ?_
      refine rl_nil ?_
      refine at_then ?_
      first | refine ct_dec rfl (fun h3 => ?_) (fun h3 => ?_) | refine ct_ndec rfl (fun h3 => ?_) (fun h3 => ?_) | refine ct_eq rfl (fun h3 => ?_) (fun h3 => ?_) | refine ct_ne rfl (fun h3 => ?_) (fun h3 => ?_) | refine ct_not rfl (fun h3 => ?_) (fun h3 => ?_) | refine ct_cond rfl (fun h3 => ?_) (fun h3 => ?_)
      ·
        refine ct_seq ?_
        refine ct_reg ?_
        refine rl_val gw_none (ov_assign rfl) rfl ?_
        refine rl_nil ?_
        refine at_then ?_
        refine ct_ret ?_
        refine at_then_ret ?_
        refine at_ret1 Try.results24 (ro_tmp rfl) (fun w1 hp => ?_)
        exact ⟨_, by omega, rfl, hp.ext0⟩
      ·
        refine ct_skip ?_
        refine at_then ?_
        refine ct_seq ?_
        refine ct_reg ?_
        refine rl_val gw_none (ov_move rfl) rfl ?_
        refine rl_val gw_none (ov_assign rfl) rfl ?_
        refine rl_nil ?_
        refine at_then ?_
        refine ct_ret ?_
        refine at_ret1 Try.results24 (ro_tmp rfl) (fun w1 hp => ?_)
        exact ⟨_, by omega, rfl, hp.ext0⟩

theorem toMind_c (u : Int) (l : Int) (xs : List IntA2) (cl : List Int) (im : List Int) (be : Int) (gu : Int) (vxs : Value) (vcl : Value) (vim : Value) (w : World) (zu : In64 u) (zl : In64 l) (hGxs : ∀ y ∈ xs, GIntA2 y) (hsxs : SR w 2 vxs xs.length (flat encIntA2 xs)) (hscl : SR w 1 vcl cl.length (ints cl)) (hsim : SR w 1 vim im.length (ints im)) (zbe : In64 be) (zgu : In64 gu) (hbxs : xs.length ≤ 1048576) (hbcl : cl.length ≤ 1048576) (hbim : im.length ≤ 1048576) : Calls Try.prog 26 ([.agg (List.toArray (α := Value) [.int .i64 u, .int .i64 l, vxs, vcl, vim, .int .i64 be, .int .i64 gu])]).toArray w (fun e w' => ∃ q : Nat × Nat × Nat, True ∧ e = .returned (.agg (List.toArray (α := Value) [.int .i64 u, .int .i64 l, .slice (some ⟨q.1, 0, none⟩) xs.length xs.length, .slice (some ⟨q.2.1, 0, none⟩) cl.length cl.length, .slice (some ⟨q.2.2, 0, none⟩) im.length im.length, .int .i64 be, .int .i64 gu])) ∧ Hp ⟨w, []⟩ [(some q.1, 81, flat encIntA2 xs), (some q.2.1, 3, ints cl), (some q.2.2, 3, ints im)] w') := by
  obtain ⟨axs, capxs, rfl, hcapxs, hmaxxs⟩ := hsxs.slice
  have hlenxs := hsxs.len_le
  obtain ⟨acl, capcl, rfl, hcapcl, hmaxcl⟩ := hscl.slice
  have hlencl := hscl.len_le
  obtain ⟨aim, capim, rfl, hcapim, hmaxim⟩ := hsim.slice
  have hlenim := hsim.len_le
  refine calls_ct Try.func26 Try.ntmps26 rfl rfl ?_
  refine ct_seq ?_
  refine ct_reg ?_
  refine rl_box rfl rfl (fun N1 => ?_)
  refine rl_alloc ze29 rfl (fun N2 => ?_)
  refine rl_nil ?_
  refine at_then ?_
  refine ct_seq ?_
  refine ct_reg ?_
  refine rl_alloc ze29 rfl (fun N3 => ?_)
  refine rl_nil ?_
  refine at_then ?_
  refine ct_seq ?_
  refine ct_reg ?_
  refine rl_val gw_none (ov_field fo39_0 rfl) rfl ?_
  first | refine rl_val gw_none (ov_loadall 2 ag24 rfl rfl rfl) rfl ?_ | refine rl_val gw_none (ov_loadp 2 ag24 rfl rfl (vs := [_, _, _]) rfl rfl) rfl ?_ | refine rl_val gw_none (ov_loada 2 ag24 rfl rfl rfl (by assumption)) rfl ?_
  refine rl_calle (ι := Nat) (fun q => .agg [.int .i64 u, .int .i64 l, .slice (some ⟨q, 0, none⟩) xs.length xs.length].toArray) (fun q => [(some q, 81, flat encIntA2 xs)]) (fun _ => True) goes17 rfl (fun w1 hp => toFrame_c u l xs _ _ zu zl hGxs (hsxs.ext hp.ext0) hbxs) rfl (fun q1 _ => ?_)
  refine rl_val gw_none (ov_field fo29_0 rfl) rfl ?_
  refine rl_store [_] sz26 rfl rfl rfl rfl rfl (Nat.le_of_ble_eq_true rfl) ?_
  refine rl_nil ?_
  refine at_then ?_
  refine ct_seq ?_
  refine ct_reg ?_
  refine rl_val gw_none (ov_field fo39_1 rfl) rfl ?_
  first | refine rl_val gw_none (ov_load 3 sc27 rfl rfl rfl) rfl ?_ | refine rl_val gw_none (ov_load 3 sc27 rfl rfl (by assumption)) rfl ?_
  refine rl_callnew (fun b => .slice (some ⟨b, 0, none⟩) cl.length cl.length) goes85 rfl (fun w1 hp => toIntS_c cl _ _ (hscl.ext hp.ext0) hbcl) rfl (fun b1 => ?_)
  refine rl_val gw_none (ov_field fo29_1 rfl) rfl ?_
  refine rl_store [_, _] sz27 rfl rfl rfl rfl rfl (Nat.le_of_ble_eq_true rfl) ?_
  refine rl_nil ?_
  refine at_then ?_
  refine ct_seq ?_
  refine ct_reg ?_
  refine rl_val gw_none (ov_field fo39_2 rfl) rfl ?_
  first | refine rl_val gw_none (ov_load 4 sc27 rfl rfl rfl) rfl ?_ | refine rl_val gw_none (ov_load 4 sc27 rfl rfl (by assumption)) rfl ?_
  refine rl_callnew (fun b => .slice (some ⟨b, 0, none⟩) im.length im.length) goes85 rfl (fun w1 hp => toIntS_c im _ _ (hsim.ext hp.ext0) hbim) rfl (fun b2 => ?_)
  refine rl_val gw_none (ov_field fo29_2 rfl) rfl ?_
  refine rl_store [_, _, _] sz27 rfl rfl rfl rfl rfl (Nat.le_of_ble_eq_true rfl) ?_
  refine rl_nil ?_
  refine at_then ?_
  refine ct_seq ?_
  refine ct_reg ?_
  refine rl_val gw_none (ov_field fo39_3 rfl) rfl ?_
  first | refine rl_val gw_none (ov_load 5 sc3 rfl rfl rfl) rfl ?_ | refine rl_val gw_none (ov_load 5 sc3 rfl rfl (by assumption)) rfl ?_
  refine rl_val gw_none (ov_field fo29_3 rfl) rfl ?_
  refine rl_store [_, _, _] sz3 rfl rfl rfl rfl rfl (Nat.le_of_ble_eq_true rfl) ?_
  refine rl_nil ?_
  refine at_then ?_
  refine ct_seq ?_
  refine ct_reg ?_
  refine rl_val gw_none (ov_field fo39_4 rfl) rfl ?_
  first | refine rl_val gw_none (ov_load 5 sc3 rfl rfl rfl) rfl ?_ | refine rl_val gw_none (ov_load 5 sc3 rfl rfl (by assumption)) rfl ?_
  refine rl_val gw_none (ov_field fo29_4 rfl) rfl ?_
  refine rl_store [_, _, _] sz3 rfl rfl rfl rfl rfl (Nat.le_of_ble_eq_true rfl) ?_
  refine rl_nil ?_
  refine at_then ?_
  refine ct_seq ?_
  refine ct_reg ?_
  first | refine rl_val gw_none (ov_loadall 3 ag29 rfl rfl rfl) rfl ?_ | refine rl_val gw_none (ov_loadp 3 ag29 rfl rfl (vs := [_, _, _, _, _, _, _]) rfl rfl) rfl ?_ | refine rl_val gw_none (ov_loada 3 ag29 rfl rfl rfl (by assumption)) rfl ?_
  refine rl_store [_, _, _, _] sz29 rfl rfl rfl rfl rfl (Nat.le_of_ble_eq_true rfl) ?_
  refine rl_nil ?_
  refine at_then ?_
  refine ct_ret ?_
  refine at_ret1 Try.results26 (ro_cell 4 ag29 rfl rfl rfl) (fun w1 hp => ?_)
  exact ⟨(q1, b1, b2), trivial, rfl, (Hp.sub (Hp.pull (Hp.pull (Hp.pull hp 0 rfl) 1 rfl) 2 rfl) (List.sublist_append_left [_, _, _] _))⟩

theorem eqMind_c (u : Int) (l : Int) (xs : List IntA2) (cl : List Int) (im : List Int) (be : Int) (gu : Int) (vxs : Value) (vcl : Value) (vim : Value) (uxs : Value) (ucl : Value) (uim : Value) (w : World) (hsxs : SR w 2 vxs xs.length (flat encIntA2 xs)) (hscl : SR w 1 vcl cl.length (ints cl)) (hsim : SR w 1 vim im.length (ints im)) (htxs : SR w 2 uxs xs.length (flat encIntA2 xs)) (htcl : SR w 1 ucl cl.length (ints cl)) (htim : SR w 1 uim im.length (ints im)) : Calls Try.prog 19 ([.agg (List.toArray (α := Value) [.int .i64 u, .int .i64 l, vxs, vcl, vim, .int .i64 be, .int .i64 gu]), .agg (List.toArray (α := Value) [.int .i64 u, .int .i64 l, uxs, ucl, uim, .int .i64 be, .int .i64 gu])]).toArray w (fun e w' => e = .returned (.bool true) ∧ Ext w w') := by
  obtain ⟨axs, capxs, rfl, hcapxs, hmaxxs⟩ := hsxs.slice
  obtain ⟨a2xs, cap2xs, rfl, _, _⟩ := htxs.slice
  obtain ⟨acl, capcl, rfl, hcapcl, hmaxcl⟩ := hscl.slice
  obtain ⟨a2cl, cap2cl, rfl, _, _⟩ := htcl.slice
  obtain ⟨aim, capim, rfl, hcapim, hmaxim⟩ := hsim.slice
  obtain ⟨a2im, cap2im, rfl, _, _⟩ := htim.slice
  refine calls_ct Try.func19 Try.ntmps19 rfl rfl ?_
  refine ct_seq ?_
  refine ct_reg ?_
  refine rl_box rfl rfl (fun N1 => ?_)
  refine rl_box rfl rfl (fun N2 => ?_)
  refine rl_val gw_none (ov_assign rfl) rfl ?_
  refine rl_nil ?_
  refine at_then ?_
  refine ct_seq ?_
  refine ct_seq ?_
  refine ct_reg ?_
  refine rl_val gw_none (ov_field fo29_0 rfl) rfl ?_
  first | refine rl_val gw_none (ov_loadall 1 ag26 rfl rfl rfl) rfl ?_ | refine rl_val gw_none (ov_loadp 1 ag26 rfl rfl (vs := [_, _, _]) rfl rfl) rfl ?_ | refine rl_val gw_none (ov_loada 1 ag26 rfl rfl rfl (by assumption)) rfl ?_
  refine rl_val gw_none (ov_field fo29_0 rfl) rfl ?_
  first | refine rl_val gw_none (ov_loadall 0 ag26 rfl rfl rfl) rfl ?_ | refine rl_val gw_none (ov_loadp 0 ag26 rfl rfl (vs := [_, _, _]) rfl rfl) rfl ?_ | refine rl_val gw_none (ov_loada 0 ag26 rfl rfl rfl (by assumption)) rfl ?_
  refine rl_callv gw_none goes20 rfl (fun w1 hp => eqFrame_c u l xs _ _ _ (hsxs.ext hp.ext0) (htxs.ext hp.ext0)) rfl ?_
  refine rl_val gw_none (ov_not rfl) rfl ?_
  refine rl_nil ?_
  refine at_then ?_
  refine ct_false rfl rfl ?_
  refine ct_skip ?_
  refine at_then ?_
  refine ct_seq ?_
  refine ct_seq ?_
  refine ct_reg ?_
  refine rl_val gw_none (ov_field fo29_1 rfl) rfl ?_
  first | refine rl_val gw_none (ov_load 1 sc27 rfl rfl rfl) rfl ?_ | refine rl_val gw_none (ov_load 1 sc27 rfl rfl (by assumption)) rfl ?_
  refine rl_val gw_none (ov_field fo29_1 rfl) rfl ?_
  first | refine rl_val gw_none (ov_load 0 sc27 rfl rfl rfl) rfl ?_ | refine rl_val gw_none (ov_load 0 sc27 rfl rfl (by assumption)) rfl ?_
  refine rl_callv gw_none goes28 rfl (fun w1 hp => eqIntS_c cl _ _ _ (hscl.ext hp.ext0) (htcl.ext hp.ext0)) rfl ?_
  refine rl_val gw_none (ov_not rfl) rfl ?_
  refine rl_nil ?_
  refine at_then ?_
  refine ct_false rfl rfl ?_
  refine ct_skip ?_
  refine at_then ?_
  refine ct_seq ?_
  refine ct_seq ?_
  refine ct_reg ?_
  refine rl_val gw_none (ov_field fo29_2 rfl) rfl ?_
  first | refine rl_val gw_none (ov_load 1 sc27 rfl rfl rfl) rfl ?_ | refine rl_val gw_none (ov_load 1 sc27 rfl rfl (by assumption)) rfl ?_
  refine rl_val gw_none (ov_field fo29_2 rfl) rfl ?_
  first | refine rl_val gw_none (ov_load 0 sc27 rfl rfl rfl) rfl ?_ | refine rl_val gw_none (ov_load 0 sc27 rfl rfl (by assumption)) rfl ?_
  refine rl_callv gw_none goes28 rfl (fun w1 hp => eqIntS_c im _ _ _ (hsim.ext hp.ext0) (htim.ext hp.ext0)) rfl ?_
  refine rl_val gw_none (ov_not rfl) rfl ?_
  refine rl_nil ?_
  refine at_then ?_
  refine ct_false rfl rfl ?_
  refine ct_skip ?_
  refine at_then ?_
  refine ct_seq ?_
  refine ct_seq ?_
  refine ct_reg ?_
  refine rl_val gw_none (ov_field fo29_3 rfl) rfl ?_
  first | refine rl_val gw_none (ov_load 1 sc3 rfl rfl rfl) rfl ?_ | refine rl_val gw_none (ov_load 1 sc3 rfl rfl (by assumption)) rfl ?_
  refine rl_val gw_none (ov_field fo29_3 rfl) rfl ?_
  first | refine rl_val gw_none (ov_load 0 sc3 rfl rfl rfl) rfl ?_ | refine rl_val gw_none (ov_load 0 sc3 rfl rfl (by assumption)) rfl ?_
  refine rl_val gw_none (ov_neq rfl rfl) rfl ?_
  refine rl_nil ?_
  refine at_then ?_
  first | refine ct_dec rfl (fun h1 => ?_) (fun h1 => ?_) | refine ct_ndec rfl (fun h1 => ?_) (fun h1 => ?_) | refine ct_eq rfl (fun h1 => ?_) (fun h1 => ?_) | refine ct_ne rfl (fun h1 => ?_) (fun h1 => ?_) | refine ct_not rfl (fun h1 => ?_) (fun h1 => ?_) | refine ct_cond rfl (fun h1 => ?_) (fun h1 => ?_)
  ·
    exfalso; first | omega | exact absurd rfl h1 | (simp at h1; done) | (simp_all; done)
  ·
    refine ct_skip ?_
    refine at_then ?_
    refine ct_seq ?_
    refine ct_seq ?_
    refine ct_reg ?_
    refine rl_val gw_none (ov_field fo29_4 rfl) rfl ?_
    first | refine rl_val gw_none (ov_load 1 sc3 rfl rfl rfl) rfl ?_ | refine rl_val gw_none (ov_load 1 sc3 rfl rfl (by assumption)) rfl ?_
    refine rl_val gw_none (ov_field fo29_4 rfl) rfl ?_
    first | refine rl_val gw_none (ov_load 0 sc3 rfl rfl rfl) rfl ?_ | refine rl_val gw_none (ov_load 0 sc3 rfl rfl (by assumption)) rfl ?_
    refine rl_val gw_none (ov_neq rfl rfl) rfl ?_
    refine rl_nil ?_
    refine at_then ?_
    first | refine ct_dec rfl (fun h2 => ?_) (fun h2 => ?_) | refine ct_ndec rfl (fun h2 => ?_) (fun h2 => ?_) | refine ct_eq rfl (fun h2 => ?_) (fun h2 => ?_) | refine ct_ne rfl (fun h2 => ?_) (fun h2 => ?_) | refine ct_not rfl (fun h2 => ?_) (fun h2 => ?_) | refine ct_cond rfl (fun h2 => ?_) (fun h2 => ?_)
    ·
      exfalso; first | omega | exact absurd rfl h2 | (simp at h2; done) | (simp_all; done)
    ·
      refine ct_skip ?_
      refine at_then ?_
      refine ct_seq ?_
      refine ct_reg ?_
      refine rl_val gw_none (ov_assign rfl) rfl ?_
      refine rl_nil ?_
      refine at_then ?_
      refine ct_ret ?_
      refine at_ret1 Try.results19 (ro_tmp rfl) (fun w1 hp => ?_)
      exact ⟨rfl, hp.ext0⟩

theorem markMind_m (u l be gu k0 : Int) (b1 b2 b3 n1 n2 n3 c1 c2 c3 : Nat) (L1 L2 L3 : List Value) (D : List Nat) (w : World) (h0 : Hp ⟨w, D⟩ [(some b1, 81, L1), (some b2, 3, L2), (some b3, 3, L3)] w) (hL1 : L1.length = n1 * 2) (hL2 : L2.length = n2 * 1) (hL3 : L3.length = n3 * 1) (hk0 : 0 ≤ k0 ∧ k0 ≤ 1000000 ∧ n1 ≤ 10000000 ∧ n2 ≤ 10000000 ∧ n3 ≤ 10000000) : Calls Try.prog 22 ([.agg [.int .i64 u, .int .i64 l, .slice (some ⟨b1, 0, none⟩) n1 c1, .slice (some ⟨b2, 0, none⟩) n2 c2, .slice (some ⟨b3, 0, none⟩) n3 c3, .int .i64 be, .int .i64 gu].toArray, .int .i64 k0]).toArray w (fun e w' => ∃ _ : Unit, True ∧ e = .returned (.int .i64 (k0 + 2 * (n1 : Nat) + 1 * (n2 : Nat) + 1 * (n3 : Nat))) ∧ Hp ⟨w, D⟩ [] w') := by
  refine calls_ctds h0 Try.func22 Try.ntmps22 rfl rfl ?_
  refine ct_seq ?_
  refine ct_reg ?_
  refine rl_box rfl rfl (fun N1 => ?_)
  refine rl_val gw_none (ov_assign rfl) rfl ?_
  refine rl_nil ?_
  refine at_then ?_
  refine ct_seq ?_
  refine ct_reg ?_
  refine rl_val gw_none (ov_field fo29_0 rfl) rfl ?_
  first | refine rl_val gw_none (ov_loadall 0 ag26 rfl rfl rfl) rfl ?_ | refine rl_val gw_none (ov_loadp 0 ag26 rfl rfl (vs := [_, _, _]) rfl rfl) rfl ?_ | refine rl_val gw_none (ov_loada 0 ag26 rfl rfl rfl (by assumption)) rfl ?_
  refine rl_val gw_none (ov_move rfl) rfl ?_
  refine rl_callm [_] goes21 rfl rfl (fun w1 hp => markFrame_m _ _ _ _ _ _ _ _ (hp.at (i := 1) rfl) hL1 (by omega)) rfl ?_
  refine rl_val gw_none (ov_assign rfl) rfl ?_
  refine rl_nil ?_
  refine at_then ?_
  refine ct_seq ?_
  refine ct_reg ?_
  refine rl_val gw_none (ov_field fo29_1 rfl) rfl ?_
  first | refine rl_val gw_none (ov_load 0 sc27 rfl rfl rfl) rfl ?_ | refine rl_val gw_none (ov_load 0 sc27 rfl rfl (by assumption)) rfl ?_
  refine rl_val gw_none (ov_move rfl) rfl ?_
  refine rl_callm [_] goes29 rfl rfl (fun w1 hp => markIntS_m _ _ _ _ _ _ (hp.at (i := 1) rfl) hL2 (by omega)) rfl ?_
  refine rl_val gw_none (ov_assign rfl) rfl ?_
  refine rl_nil ?_
  refine at_then ?_
  refine ct_seq ?_
  refine ct_reg ?_
  refine rl_val gw_none (ov_field fo29_2 rfl) rfl ?_
  first | refine rl_val gw_none (ov_load 0 sc27 rfl rfl rfl) rfl ?_ | refine rl_val gw_none (ov_load 0 sc27 rfl rfl (by assumption)) rfl ?_
  refine rl_val gw_none (ov_move rfl) rfl ?_
  refine rl_callm [_] goes29 rfl rfl (fun w1 hp => markIntS_m _ _ _ _ _ _ (hp.at (i := 1) rfl) hL3 (by omega)) rfl ?_
  refine rl_val gw_none (ov_assign rfl) rfl ?_
  refine rl_nil ?_
  refine at_then ?_
  refine ct_seq ?_
  refine ct_reg ?_
  refine rl_val gw_none (ov_move rfl) rfl ?_
  refine rl_val gw_none (ov_assign rfl) rfl ?_
  refine rl_nil ?_
  refine at_then ?_
  refine ct_ret ?_
  refine at_ret1 Try.results22 (ro_tmp rfl) (fun w1 hp => ?_)
  exact ⟨(), trivial, rfl, hp.sub (List.nil_sublist _)⟩
end Go.Proofs.Ytnnhkpecgchgiaa
