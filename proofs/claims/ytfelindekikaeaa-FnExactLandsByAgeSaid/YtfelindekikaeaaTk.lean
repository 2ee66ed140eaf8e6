import Derived.Test.YtfelindekikaeaaTj
import Derived.KernelRfl
set_option linter.unusedVariables false
set_option linter.unusedSimpArgs false
namespace Go.Proofs.Ytfelindekikaeaa
open Go Go.RowKit K
theorem markStringS_s (k0 : Int) (b len cap : Nat) (L : List Value) (w : World) (hh : w.heap[b]? = some (.cells L.toArray 9 (0, 0))) (hL : len ≤ L.length) (hk0 : 0 ≤ k0 ∧ k0 ≤ 1000000000000 ∧ len ≤ 1000000000000) : Calls Try.prog 19 ([.slice (some ⟨b, 0, none⟩) len cap, .int .i64 k0]).toArray w (fun e w' => e = .returned (.int .i64 (k0 + (len : Nat))) ∧ Turn w w' b ∧ w'.heap[b]? = some (.cells (flat encS (smarks k0 len) ++ L.drop len).toArray 9 (0, 0))) := by
  refine calls_ctd hh Try.func19 Try.ntmps19 rfl rfl ?_
  refine ct_seq ?_
  refine ct_reg ?_
  refine rl_val gw_none (ov_assign rfl) rfl ?_
  refine rl_nil ?_
  refine at_then ?_
  refine ct_seq ?_
  refine ct_seq ?_
  refine ct_reg ?_
  refine rl_val gw_none (ov_assign rfl) rfl ?_
  refine rl_nil ?_
  refine at_then ?_
  refine ct_block ?_
  refine ct_loopR (ι := Nat) (fun k => [(1, .int .i64 (k0 + (k : Nat))), (5, .int .i64 k)]) [(0, _), (4, _)] (fun k => [(some b, 9, over (flat encS (smarks k0 len)) L k)]) (fun k => k ≤ len) (fun k => len - k) (0) (Sub.cons rfl (Sub.cons rfl Sub.nil)) (fun w1 hq => hq.cong (by rw [over_0])) (by (repeat' (first | exact Sub.nil | refine Sub.cons ?_ ?_)); all_goals (first | rfl | exact lkInt rfl (by omega))) (by first | exact True.intro | omega | (dsimp only; omega) | (dsimp only at *; omega)) (fun k hk => ?_)
  refine ct_seq ?_
  refine ct_seq ?_
  refine ct_reg ?_
  refine rl_val gw_none (ov_move rfl) rfl ?_
  refine rl_val gw_none (ov_move rfl) rfl ?_
  refine rl_val gw_none (ov_len Try.underlying34 rfl) rfl ?_
  refine rl_val gw_none (ov_lss rfl rfl) rfl ?_
  refine rl_nil ?_
  refine at_then ?_
  first | refine ct_dec rfl (fun h1 => ?_) (fun h1 => ?_) | refine ct_ndec rfl (fun h1 => ?_) (fun h1 => ?_) | refine ct_eq rfl (fun h1 => ?_) (fun h1 => ?_) | refine ct_ne rfl (fun h1 => ?_) (fun h1 => ?_) | refine ct_not rfl (fun h1 => ?_) (fun h1 => ?_) | refine ct_cond rfl (fun h1 => ?_) (fun h1 => ?_)
  ·
    have hk2 : k < len := by omega
    refine ct_skip ?_
    refine at_then ?_
    refine ct_seq ?_
    refine ct_block ?_
    refine ct_seq ?_
    refine ct_reg ?_
    refine rl_val gw_none (ov_move rfl) rfl ?_
    refine rl_val gw_none (ov_move rfl) rfl ?_
    refine rl_val gw_none (ov_move rfl) rfl ?_
    refine rl_callv gw_none goes59 rfl (fun w1 hp => markText_v _ _ (by omega)) rfl ?_
    first | refine rl_val gw_none (ov_ix Try.underlying34 sz9 rfl rfl _ rfl (by omega)) rfl ?_ | refine rl_val gw_none (ov_ix Try.underlying34 sz9 rfl rfl (k) (by omega) (by omega)) rfl ?_
    refine rl_store ([]) sz9 rfl rfl rfl rfl rfl (by rw [over_len (by rw [smarks_flen]; omega) (by omega)]; omega) ?_
    refine rl_mem (fun _ hq => hq.cong (congrArg (fun x => [(some b, 9, x)]) (over_step (k := k) (smarks_at (by omega)) (by omega)))) ?_
    refine rl_nil ?_
    refine at_then ?_
    refine ct_reg ?_
    refine rl_val gw_none (ov_move rfl) rfl ?_
    refine rl_val gw_none (ov_add rfl rfl (by omega)) rfl ?_
    refine rl_val gw_none (ov_assign rfl) rfl ?_
    refine rl_nil ?_
    refine at_block ?_
    refine at_then ?_
    refine ct_reg ?_
    refine rl_val gw_none (ov_move rfl) rfl ?_
    refine rl_val gw_none (ov_add rfl rfl (by omega)) rfl ?_
    refine rl_val gw_none (ov_assign rfl) rfl ?_
    refine rl_nil ?_
    exact at_backR (k + 1) (by first | exact True.intro | omega | (dsimp only; omega) | (dsimp only at *; omega)) (by first | exact True.intro | omega | (dsimp only; omega) | (dsimp only at *; omega)) (by (repeat' (first | exact Sub.nil | refine Sub.cons ?_ ?_)); all_goals (first | rfl | exact lkInt rfl (by omega))) (Sub.cons rfl (Sub.cons rfl Sub.nil)) (fun _ hq => hq)
  ·
    have hke : k = len := by omega
    subst hke
    refine ct_exit ?_
    refine at_then_exit ?_
    refine at_then_exit ?_
    refine at_block_hit ?_
    refine at_then ?_
    refine ct_seq ?_
    refine ct_reg ?_
    refine rl_val gw_none (ov_move rfl) rfl ?_
    refine rl_val gw_none (ov_assign rfl) rfl ?_
    refine rl_nil ?_
    refine at_then ?_
    refine ct_ret ?_
    refine at_ret1 Try.results19 (ro_tmp rfl) (fun w1 hp => ?_)
    refine ⟨rfl, hp.turn0, ?_⟩
    rw [← over_smarks]; exact hp.at (i := 0) rfl

theorem markStringS_n (k0 : Int) (w : World) : Calls Try.prog 19 ([.slice none 0 0, .int .i64 k0]).toArray w (fun e w' => e = .returned (.int .i64 k0) ∧ Ext w w') := by
  refine calls_ct Try.func19 Try.ntmps19 rfl rfl ?_
  refine ct_seq ?_
  refine ct_reg ?_
  refine rl_val gw_none (ov_assign rfl) rfl ?_
  refine rl_nil ?_
  refine at_then ?_
  refine ct_seq ?_
  refine ct_seq ?_
  refine ct_reg ?_
  refine rl_val gw_none (ov_assign rfl) rfl ?_
  refine rl_nil ?_
  refine at_then ?_
  refine ct_block ?_
  refine ct_loopR (ι := Nat) (fun k => [(1, .int .i64 k0), (5, .int .i64 0)]) [(0, _), (4, _)] (fun _ => _) (fun k => True) (fun k => 0) (0) (Sub.cons rfl (Sub.cons rfl Sub.nil)) (fun _ hq => hq) (by (repeat' (first | exact Sub.nil | refine Sub.cons ?_ ?_)); all_goals (first | rfl | exact lkInt rfl (by omega))) (by first | exact True.intro | omega | (dsimp only; omega) | (dsimp only at *; omega)) (fun k hk => ?_)
  refine ct_seq ?_
  refine ct_seq ?_
  refine ct_reg ?_
  refine rl_val gw_none (ov_move rfl) rfl ?_
  refine rl_val gw_none (ov_move rfl) rfl ?_
  refine rl_val gw_none (ov_len Try.underlying34 rfl) rfl ?_
  refine rl_val gw_none (ov_lss rfl rfl) rfl ?_
  refine rl_nil ?_
  refine at_then ?_
  first | refine ct_dec rfl (fun h1 => ?_) (fun h1 => ?_) | refine ct_ndec rfl (fun h1 => ?_) (fun h1 => ?_) | refine ct_eq rfl (fun h1 => ?_) (fun h1 => ?_) | refine ct_ne rfl (fun h1 => ?_) (fun h1 => ?_) | refine ct_not rfl (fun h1 => ?_) (fun h1 => ?_) | refine ct_cond rfl (fun h1 => ?_) (fun h1 => ?_)
  ·
    exact absurd h1 (by omega)
  ·
    refine ct_exit ?_
    refine at_then_exit ?_
    refine at_then_exit ?_
    refine at_block_hit ?_
    refine at_then ?_
    refine ct_seq ?_
    refine ct_reg ?_
    refine rl_val gw_none (ov_move rfl) rfl ?_
    refine rl_val gw_none (ov_assign rfl) rfl ?_
    refine rl_nil ?_
    refine at_then ?_
    refine ct_ret ?_
    refine at_ret1 Try.results19 (ro_tmp rfl) (fun w1 hp => ?_)
    exact ⟨rfl, hp.ext0⟩

theorem markStringS_o (k0 : Int) {bo : Option Nat} {len cap : Nat} {xs pad : List Value} (hsl : Sl 1 bo len cap xs pad) (w : World) (hh : ∀ b, bo = some b → w.heap[b]? = some (.cells (xs ++ pad).toArray 9 (0, 0))) (hk0 : 0 ≤ k0 ∧ k0 ≤ 1000000000000 ∧ len ≤ 1000000000000) :
    Calls Try.prog 19 [sv bo len cap, .int .i64 k0].toArray w (fun e w' => e = .returned (.int .i64 (k0 + (len : Nat))) ∧ Wrote bo 9 (flat encS (smarks k0 len) ++ (xs ++ pad).drop len) w w') := by
  cases bo with
  | none =>
    obtain ⟨rfl, rfl⟩ := hsl.nil rfl
    have hnil : xs ++ pad = [] := List.length_eq_zero_iff.1 (by rw [hsl.lp, Nat.zero_mul])
    refine (markStringS_n k0 w).mono fun e w' ⟨he, hx⟩ => ⟨by rw [he]; simp, ?_, hx⟩
    rw [hnil]; simp [smarks, flat]
  | some b =>
    have hle := hsl.le
    exact (markStringS_s k0 b len cap (xs ++ pad) w (hh b rfl) (by rw [hsl.lp]; omega) hk0).mono fun e w' ⟨he, ht, hc⟩ => ⟨he, ht, hc⟩

theorem heldStringS_c (k0 : Int) (len : Nat) (v : Value) (w : World) (hsr : SR w 1 v len (flat encS (smarks k0 len))) (hk0 : 0 ≤ k0 ∧ k0 ≤ 1000000000000 ∧ len ≤ 1000000000000) : Calls Try.prog 20 ([v, .int .i64 k0]).toArray w (fun e w' => e = .returned (.int .i64 (k0 + (len : Nat))) ∧ Ext w w') := by
  obtain ⟨a, cap, rfl, hcap, hmax⟩ := hsr.slice
  have hlen := hsr.len_le
  refine calls_ct Try.func20 Try.ntmps20 rfl rfl ?_
  refine ct_seq ?_
  refine ct_reg ?_
  refine rl_val gw_none (ov_assign rfl) rfl ?_
  refine rl_nil ?_
  refine at_then ?_
  refine ct_seq ?_
  refine ct_seq ?_
  refine ct_reg ?_
  refine rl_val gw_none (ov_assign rfl) rfl ?_
  refine rl_nil ?_
  refine at_then ?_
  refine ct_block ?_
  refine ct_loopR (ι := Nat) (fun k => [(1, .int .i64 (k0 + (k : Nat))), (5, .int .i64 k)]) [(0, _)] (fun _ => _) (fun k => k ≤ len) (fun k => len - k) (0) (Sub.cons rfl Sub.nil) (fun _ hq => hq) (by (repeat' (first | exact Sub.nil | refine Sub.cons ?_ ?_)); all_goals (first | rfl | exact lkInt rfl (by omega))) (by first | exact True.intro | omega | (dsimp only; omega) | (dsimp only at *; omega)) (fun k hk => ?_)
  refine ct_seq ?_
  refine ct_seq ?_
  refine ct_reg ?_
  refine rl_val gw_none (ov_move rfl) rfl ?_
  refine rl_val gw_none (ov_move rfl) rfl ?_
  refine rl_val gw_none (ov_len Try.underlying34 rfl) rfl ?_
  refine rl_val gw_none (ov_lss rfl rfl) rfl ?_
  refine rl_nil ?_
  refine at_then ?_
  first | refine ct_dec rfl (fun h1 => ?_) (fun h1 => ?_) | refine ct_ndec rfl (fun h1 => ?_) (fun h1 => ?_) | refine ct_eq rfl (fun h1 => ?_) (fun h1 => ?_) | refine ct_ne rfl (fun h1 => ?_) (fun h1 => ?_) | refine ct_not rfl (fun h1 => ?_) (fun h1 => ?_) | refine ct_cond rfl (fun h1 => ?_) (fun h1 => ?_)
  ·
    have hk2 : k < len := by omega
    obtain ⟨b, o, rfl, hcl⟩ := hsr.at hk2 (by omega)
    have c0 := hcl 0 _ (by omega) (show (flat encS (smarks k0 len))[k * 1 + 0]? = some (.string (mtx (k0 + (k : Int)))) by rw [Nat.mul_one, Nat.add_zero]; exact smarks_at hk2)
    refine ct_skip ?_
    refine at_then ?_
    refine ct_seq ?_
    refine ct_block ?_
    refine ct_seq ?_
    refine ct_seq ?_
    refine ct_dr 7 (by kernel_rfl) (by kernel_rfl) ?_
    refine ql_val gw_none (ov_move rfl) rfl ?_
    refine ql_val gw_none (ov_move rfl) rfl ?_
    first | refine ql_val gw_none (ov_ix Try.underlying34 sz9 rfl rfl _ rfl (by omega)) rfl ?_ | refine ql_val gw_none (ov_ix Try.underlying34 sz9 rfl rfl (k) (by omega) (by omega)) rfl ?_
    first | refine ql_val gw_none (ov_load 0 sc9 rfl rfl rfl) rfl ?_ | refine ql_val gw_none (ov_load 1 sc9 rfl rfl rfl) rfl ?_ | refine ql_val gw_none (ov_load 2 sc9 rfl rfl rfl) rfl ?_ | refine ql_val gw_none (ov_load 3 sc9 rfl rfl rfl) rfl ?_ | refine ql_val gw_none (ov_loadw sc9 rfl (by assumption)) rfl ?_ | refine ql_val gw_none (ov_load 0 sc9 rfl rfl (by assumption)) rfl ?_ | refine ql_val gw_none (ov_load 1 sc9 rfl rfl (by assumption)) rfl ?_ | refine ql_val gw_none (ov_load 2 sc9 rfl rfl (by assumption)) rfl ?_ | refine ql_val gw_none (ov_load 3 sc9 rfl rfl (by assumption)) rfl ?_
    refine ql_val gw_none (ov_move rfl) rfl ?_
    refine ql_callv gw_none goes59 rfl (fun w1 hp => markText_v _ _ (by omega)) rfl ?_
    refine ql_val gw_none (ov_sneq rfl rfl) rfl ?_
    refine ql_nil ?_
    refine rl_nil ?_
    refine at_then ?_
    first | refine ct_dec rfl (fun h2 => ?_) (fun h2 => ?_) | refine ct_ndec rfl (fun h2 => ?_) (fun h2 => ?_) | refine ct_eq rfl (fun h2 => ?_) (fun h2 => ?_) | refine ct_ne rfl (fun h2 => ?_) (fun h2 => ?_) | refine ct_not rfl (fun h2 => ?_) (fun h2 => ?_) | refine ct_cond rfl (fun h2 => ?_) (fun h2 => ?_)
    ·
      exact absurd h2 (by simp)
    ·
      refine ct_skip ?_
      refine at_then ?_
      refine ct_reg ?_
      refine rl_val gw_none (ov_move rfl) rfl ?_
      refine rl_val gw_none (ov_add rfl rfl (by omega)) rfl ?_
      refine rl_val gw_none (ov_assign rfl) rfl ?_
      refine rl_nil ?_
      refine at_block ?_
      refine at_then ?_
      refine ct_reg ?_
      refine rl_val gw_none (ov_move rfl) rfl ?_
      refine rl_val gw_none (ov_add rfl rfl (by omega)) rfl ?_
      refine rl_val gw_none (ov_assign rfl) rfl ?_
      refine rl_nil ?_
      exact at_backR (k + 1) (by first | exact True.intro | omega | (dsimp only; omega) | (dsimp only at *; omega)) (by first | exact True.intro | omega | (dsimp only; omega) | (dsimp only at *; omega)) (by (repeat' (first | exact Sub.nil | refine Sub.cons ?_ ?_)); all_goals (first | rfl | exact lkInt rfl (by omega))) (Sub.cons rfl Sub.nil) (fun _ hq => hq)
  ·
    have hke : k = len := by omega
    subst hke
    refine ct_exit ?_
    refine at_then_exit ?_
    refine at_then_exit ?_
    refine at_block_hit ?_
    refine at_then ?_
    refine ct_seq ?_
    refine ct_reg ?_
    refine rl_val gw_none (ov_move rfl) rfl ?_
    refine rl_val gw_none (ov_assign rfl) rfl ?_
    refine rl_nil ?_
    refine at_then ?_
    refine ct_ret ?_
    refine at_ret1 Try.results20 (ro_tmp rfl) (fun w1 hp => ?_)
    exact ⟨rfl, hp.ext0⟩
end Go.Proofs.Ytfelindekikaeaa
