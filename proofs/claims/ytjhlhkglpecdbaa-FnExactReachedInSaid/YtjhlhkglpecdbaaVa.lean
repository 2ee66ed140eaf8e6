import Derived.Test.YtjhlhkglpecdbaaTa
import Derived.Test.YtjhlhkglpecdbaaKo
import Derived.KernelRfl
set_option linter.unusedVariables false
set_option linter.unusedSimpArgs false
namespace Go.Proofs.Ytjhlhkglpecdbaa
open Go Go.RowKit K
theorem eqIntS_c (xs : List Int) (v u : Value) (w : World) (hsr : SR w 1 v xs.length (ints xs)) (hsu : SR w 1 u xs.length (ints xs)) : Calls Try.prog 8 ([v, u]).toArray w (fun e w' => e = .returned (.bool true) ∧ Ext w w') := by
  obtain ⟨a, cap, rfl, hcap, hmax⟩ := hsr.slice
  have hlen := hsr.len_le
  obtain ⟨a2, cap2, rfl, hcap2, hmax2⟩ := hsu.slice
  refine calls_ct Try.func8 Try.ntmps8 rfl rfl ?_
  refine ct_seq ?_
  refine ct_reg ?_
  refine rl_val gw_none (ov_assign rfl) rfl ?_
  refine rl_nil ?_
  refine at_then ?_
  refine ct_seq ?_
  refine ct_seq ?_
  refine ct_reg ?_
  refine rl_val gw_none (ov_move rfl) rfl ?_
  refine rl_val gw_none (ov_len Try.underlying26 rfl) rfl ?_
  refine rl_val gw_none (ov_move rfl) rfl ?_
  refine rl_val gw_none (ov_len Try.underlying26 rfl) rfl ?_
  refine rl_val gw_none (ov_neq rfl rfl) rfl ?_
  refine rl_nil ?_
  refine at_then ?_
  first | refine ct_dec rfl (fun h1 => ?_) (fun h1 => ?_) | refine ct_ndec rfl (fun h1 => ?_) (fun h1 => ?_) | refine ct_eq rfl (fun h1 => ?_) (fun h1 => ?_) | refine ct_ne rfl (fun h1 => ?_) (fun h1 => ?_) | refine ct_not rfl (fun h1 => ?_) (fun h1 => ?_) | refine ct_cond rfl (fun h1 => ?_) (fun h1 => ?_)
  ·
    exact absurd rfl h1
  ·
    refine ct_skip ?_
    refine at_then ?_
    refine ct_seq ?_
    refine ct_seq ?_
    refine ct_reg ?_
    refine rl_val gw_none (ov_assign rfl) rfl ?_
    refine rl_nil ?_
    refine at_then ?_
    refine ct_block ?_
    refine ct_loopR (ι := Nat) (fun k => [(5, .int .i64 k)]) [(0, _), (1, _)] (fun _ => _) (fun k => k ≤ xs.length) (fun k => xs.length - k) (0) (Sub.cons rfl (Sub.cons rfl Sub.nil)) (fun _ hq => hq) (by (repeat' (first | exact Sub.nil | refine Sub.cons ?_ ?_)); all_goals (first | rfl | exact lkInt rfl (by omega))) (by first | exact True.intro | omega | (dsimp only; omega) | (dsimp only at *; omega)) (fun k hk => ?_)
    refine ct_seq ?_
    refine ct_seq ?_
    refine ct_reg ?_
    refine rl_val gw_none (ov_move rfl) rfl ?_
    refine rl_val gw_none (ov_move rfl) rfl ?_
    refine rl_val gw_none (ov_len Try.underlying26 rfl) rfl ?_
    refine rl_val gw_none (ov_lss rfl rfl) rfl ?_
    refine rl_nil ?_
    refine at_then ?_
    first | refine ct_dec rfl (fun h2 => ?_) (fun h2 => ?_) | refine ct_ndec rfl (fun h2 => ?_) (fun h2 => ?_) | refine ct_eq rfl (fun h2 => ?_) (fun h2 => ?_) | refine ct_ne rfl (fun h2 => ?_) (fun h2 => ?_) | refine ct_not rfl (fun h2 => ?_) (fun h2 => ?_) | refine ct_cond rfl (fun h2 => ?_) (fun h2 => ?_)
    ·
      have hk2 : k < xs.length := by omega
      obtain ⟨b, o, rfl, hel⟩ := hsr.int hk2
      have hx := getLt hk2
      generalize xs[k] = x at *
      have hcx := hel k x hx
      obtain ⟨b2, o2, rfl, hel2⟩ := hsu.int (show k < xs.length from hk2)
      have hcy := hel2 k x hx
      refine ct_skip ?_
      refine at_then ?_
      refine ct_seq ?_
      refine ct_block ?_
      refine ct_seq ?_
      refine ct_dr 9 (by kernel_rfl) (by kernel_rfl) ?_
      refine ql_val gw_none (ov_move rfl) rfl ?_
      refine ql_val gw_none (ov_move rfl) rfl ?_
      refine ql_val gw_none (ov_ix Try.underlying26 sz3 rfl rfl _ rfl (by omega)) rfl ?_
      first | refine ql_val gw_none (ov_load 0 sc3 rfl rfl rfl) rfl ?_ | refine ql_val gw_none (ov_load 1 sc3 rfl rfl rfl) rfl ?_ | refine ql_val gw_none (ov_load 2 sc3 rfl rfl rfl) rfl ?_ | refine ql_val gw_none (ov_load 3 sc3 rfl rfl rfl) rfl ?_ | refine ql_val gw_none (ov_loadw sc3 rfl (by assumption)) rfl ?_ | refine ql_val gw_none (ov_load 0 sc3 rfl rfl (by assumption)) rfl ?_ | refine ql_val gw_none (ov_load 1 sc3 rfl rfl (by assumption)) rfl ?_ | refine ql_val gw_none (ov_load 2 sc3 rfl rfl (by assumption)) rfl ?_ | refine ql_val gw_none (ov_load 3 sc3 rfl rfl (by assumption)) rfl ?_
      refine ql_val gw_none (ov_move rfl) rfl ?_
      refine ql_val gw_none (ov_move rfl) rfl ?_
      refine ql_val gw_none (ov_ix Try.underlying26 sz3 rfl rfl _ rfl (by omega)) rfl ?_
      first | refine ql_val gw_none (ov_load 0 sc3 rfl rfl rfl) rfl ?_ | refine ql_val gw_none (ov_load 1 sc3 rfl rfl rfl) rfl ?_ | refine ql_val gw_none (ov_load 2 sc3 rfl rfl rfl) rfl ?_ | refine ql_val gw_none (ov_load 3 sc3 rfl rfl rfl) rfl ?_ | refine ql_val gw_none (ov_loadw sc3 rfl (by assumption)) rfl ?_ | refine ql_val gw_none (ov_load 0 sc3 rfl rfl (by assumption)) rfl ?_ | refine ql_val gw_none (ov_load 1 sc3 rfl rfl (by assumption)) rfl ?_ | refine ql_val gw_none (ov_load 2 sc3 rfl rfl (by assumption)) rfl ?_ | refine ql_val gw_none (ov_load 3 sc3 rfl rfl (by assumption)) rfl ?_
      refine ql_val gw_none (ov_neq rfl rfl) rfl ?_
      refine ql_nil ?_
      refine rl_nil ?_
      refine at_then ?_
      first | refine ct_dec rfl (fun h3 => ?_) (fun h3 => ?_) | refine ct_ndec rfl (fun h3 => ?_) (fun h3 => ?_) | refine ct_eq rfl (fun h3 => ?_) (fun h3 => ?_) | refine ct_ne rfl (fun h3 => ?_) (fun h3 => ?_) | refine ct_not rfl (fun h3 => ?_) (fun h3 => ?_) | refine ct_cond rfl (fun h3 => ?_) (fun h3 => ?_)
      ·
        exact absurd rfl h3
      ·
        refine ct_skip ?_
        refine at_block ?_
        refine at_then ?_
        refine ct_reg ?_
        refine rl_val gw_none (ov_move rfl) rfl ?_
        refine rl_val gw_none (ov_add rfl rfl (by omega)) rfl ?_
        refine rl_val gw_none (ov_assign rfl) rfl ?_
        refine rl_nil ?_
        exact at_backR (k + 1) (by first | exact True.intro | omega | (dsimp only; omega) | (dsimp only at *; omega)) (by first | exact True.intro | omega | (dsimp only; omega) | (dsimp only at *; omega)) (by (repeat' (first | exact Sub.nil | refine Sub.cons ?_ ?_)); all_goals (first | rfl | exact lkInt rfl (by omega))) (Sub.cons rfl (Sub.cons rfl Sub.nil)) (fun _ hq => hq)
    ·
      refine ct_exit ?_
      refine at_then_exit ?_
      refine at_then_exit ?_
      refine at_block_hit ?_
      refine at_then ?_
      refine ct_seq ?_
      refine ct_reg ?_
      refine rl_val gw_none (ov_assign rfl) rfl ?_
      refine rl_nil ?_
      refine at_then ?_
      refine ct_ret ?_
      refine at_ret1 Try.results8 (ro_tmp rfl) (fun w1 hp => ?_)
      exact ⟨rfl, hp.ext0⟩

theorem markIntS_s (k0 : Int) (b len cap : Nat) (L : List Value) (w : World) (hh : w.heap[b]? = some (.cells L.toArray 3 (0, 0))) (hL : 1 * len ≤ L.length) (hk0 : 0 ≤ k0 ∧ k0 ≤ 1000000000000 ∧ len ≤ 1000000000000) : Calls Try.prog 11 ([.slice (some ⟨b, 0, none⟩) len cap, .int .i64 k0]).toArray w (fun e w' => e = .returned (.int .i64 (k0 + 1 * (len : Nat))) ∧ Turn w w' b ∧ w'.heap[b]? = some (.cells (ints (marks k0 (1 * len)) ++ L.drop (1 * len)).toArray 3 (0, 0))) := by
  refine calls_ctd hh Try.func11 Try.ntmps11 rfl rfl ?_
  refine ct_seq ?_
  refine ct_reg ?_
  refine rl_val gw_none (ov_assign rfl) rfl ?_
  refine rl_nil ?_
  refine at_then ?_
  refine ct_seq ?_
  refine ct_seq ?_
  refine ct_reg ?_
  refine rl_val gw_none (ov_assign rfl) rfl ?_
  refine rl_nil ?_
  refine at_then ?_
  refine ct_block ?_
  refine ct_loopR (ι := Nat) (fun k => [(1, .int .i64 (k0 + 1 * (k : Nat))), (5, .int .i64 k)]) [(0, _), (4, _)] (fun k => [(some b, 3, over (ints (marks k0 (1 * len))) L k)]) (fun k => k ≤ len) (fun k => len - k) (0) (Sub.cons rfl (Sub.cons rfl Sub.nil)) (fun w1 hq => hq.cong (by rw [over_0])) (by (repeat' (first | exact Sub.nil | refine Sub.cons ?_ ?_)); all_goals (first | rfl | exact lkInt rfl (by omega))) (by first | exact True.intro | omega | (dsimp only; omega) | (dsimp only at *; omega)) (fun k hk => ?_)
  refine ct_seq ?_
  refine ct_seq ?_
  refine ct_reg ?_
  refine rl_val gw_none (ov_move rfl) rfl ?_
  refine rl_val gw_none (ov_move rfl) rfl ?_
  refine rl_val gw_none (ov_len Try.underlying26 rfl) rfl ?_
  refine rl_val gw_none (ov_lss rfl rfl) rfl ?_
  refine rl_nil ?_
  refine at_then ?_
  first | refine ct_dec rfl (fun h1 => ?_) (fun h1 => ?_) | refine ct_ndec rfl (fun h1 => ?_) (fun h1 => ?_) | refine ct_eq rfl (fun h1 => ?_) (fun h1 => ?_) | refine ct_ne rfl (fun h1 => ?_) (fun h1 => ?_) | refine ct_not rfl (fun h1 => ?_) (fun h1 => ?_) | refine ct_cond rfl (fun h1 => ?_) (fun h1 => ?_)
  ·
    have hk2 : k < len := by omega
    refine ct_skip ?_
    refine at_then ?_
    refine ct_seq ?_
    refine ct_block ?_
    refine ct_seq ?_
    refine ct_reg ?_
    refine rl_val gw_none (ov_move rfl) rfl ?_
    refine rl_val gw_none (ov_move rfl) rfl ?_
    refine rl_val gw_none (ov_move rfl) rfl ?_
    refine rl_val gw_none (ov_ix Try.underlying26 sz3 rfl rfl _ rfl (by omega)) rfl ?_
    refine rl_store ([]) sz3 rfl rfl rfl rfl rfl (by rw [over_len (by rw [ints_length, marks_len]; omega) (by omega)]; omega) ?_
    refine rl_mem (fun _ hq => hq.cong (congrArg (fun x => [(some b, 3, x)]) (over_at (k0 := k0) (p := k) (by omega) (by omega) (by omega) (by omega)))) ?_
    refine rl_nil ?_
    refine at_then ?_
    refine ct_reg ?_
    refine rl_val gw_none (ov_move rfl) rfl ?_
    refine rl_val gw_none (ov_add rfl rfl (by omega)) rfl ?_
    refine rl_val gw_none (ov_assign rfl) rfl ?_
    refine rl_nil ?_
    refine at_block ?_
    refine at_then ?_
    refine ct_reg ?_
    refine rl_val gw_none (ov_move rfl) rfl ?_
    refine rl_val gw_none (ov_add rfl rfl (by omega)) rfl ?_
    refine rl_val gw_none (ov_assign rfl) rfl ?_
    refine rl_nil ?_
    exact at_backR (k + 1) (by first | exact True.intro | omega | (dsimp only; omega) | (dsimp only at *; omega)) (by first | exact True.intro | omega | (dsimp only; omega) | (dsimp only at *; omega)) (by (repeat' (first | exact Sub.nil | refine Sub.cons ?_ ?_)); all_goals (first | rfl | exact lkInt rfl (by omega))) (Sub.cons rfl (Sub.cons rfl Sub.nil)) (fun _ hq => hq)
  ·
    have hke : k = len := by omega
    subst hke
    refine ct_exit ?_
    refine at_then_exit ?_
    refine at_then_exit ?_
    refine at_block_hit ?_
    refine at_then ?_
    refine ct_seq ?_
    refine ct_reg ?_
    refine rl_val gw_none (ov_move rfl) rfl ?_
    refine rl_val gw_none (ov_assign rfl) rfl ?_
    refine rl_nil ?_
    refine at_then ?_
    refine ct_ret ?_
    refine at_ret1 Try.results11 (ro_tmp rfl) (fun w1 hp => ?_)
    refine ⟨rfl, hp.turn0, ?_⟩
    rw [← over_marks, Nat.one_mul]
    have := hp.at (i := 0) rfl
    rw [Nat.one_mul] at this
    exact this

theorem markIntS_n (k0 : Int) (w : World) : Calls Try.prog 11 ([.slice none 0 0, .int .i64 k0]).toArray w (fun e w' => e = .returned (.int .i64 k0) ∧ Ext w w') := by
  refine calls_ct Try.func11 Try.ntmps11 rfl rfl ?_
  refine ct_seq ?_
  refine ct_reg ?_
  refine rl_val gw_none (ov_assign rfl) rfl ?_
  refine rl_nil ?_
  refine at_then ?_
  refine ct_seq ?_
  refine ct_seq ?_
  refine ct_reg ?_
  refine rl_val gw_none (ov_assign rfl) rfl ?_
  refine rl_nil ?_
  refine at_then ?_
  refine ct_block ?_
  refine ct_loopR (ι := Nat) (fun k => [(1, .int .i64 k0), (5, .int .i64 0)]) [(0, _), (4, _)] (fun _ => _) (fun k => True) (fun k => 0) (0) (Sub.cons rfl (Sub.cons rfl Sub.nil)) (fun _ hq => hq) (by (repeat' (first | exact Sub.nil | refine Sub.cons ?_ ?_)); all_goals (first | rfl | exact lkInt rfl (by omega))) (by first | exact True.intro | omega | (dsimp only; omega) | (dsimp only at *; omega)) (fun k hk => ?_)
  refine ct_seq ?_
  refine ct_seq ?_
  refine ct_reg ?_
  refine rl_val gw_none (ov_move rfl) rfl ?_
  refine rl_val gw_none (ov_move rfl) rfl ?_
  refine rl_val gw_none (ov_len Try.underlying26 rfl) rfl ?_
  refine rl_val gw_none (ov_lss rfl rfl) rfl ?_
  refine rl_nil ?_
  refine at_then ?_
  first | refine ct_dec rfl (fun h1 => ?_) (fun h1 => ?_) | refine ct_ndec rfl (fun h1 => ?_) (fun h1 => ?_) | refine ct_eq rfl (fun h1 => ?_) (fun h1 => ?_) | refine ct_ne rfl (fun h1 => ?_) (fun h1 => ?_) | refine ct_not rfl (fun h1 => ?_) (fun h1 => ?_) | refine ct_cond rfl (fun h1 => ?_) (fun h1 => ?_)
  ·
    exact absurd h1 (by omega)
  ·
    refine ct_exit ?_
    refine at_then_exit ?_
    refine at_then_exit ?_
    refine at_block_hit ?_
    refine at_then ?_
    refine ct_seq ?_
    refine ct_reg ?_
    refine rl_val gw_none (ov_move rfl) rfl ?_
    refine rl_val gw_none (ov_assign rfl) rfl ?_
    refine rl_nil ?_
    refine at_then ?_
    refine ct_ret ?_
    refine at_ret1 Try.results11 (ro_tmp rfl) (fun w1 hp => ?_)
    exact ⟨rfl, hp.ext0⟩

theorem heldIntS_c (k0 : Int) (len : Nat) (v : Value) (w : World) (hsr : SR w 1 v len (ints (marks k0 (1 * len)))) (hk0 : 0 ≤ k0 ∧ k0 ≤ 1000000000000 ∧ len ≤ 1000000000000) : Calls Try.prog 12 ([v, .int .i64 k0]).toArray w (fun e w' => e = .returned (.int .i64 (k0 + 1 * (len : Nat))) ∧ Ext w w') := by
  obtain ⟨a, cap, rfl, hcap, hmax⟩ := hsr.slice
  have hlen := hsr.len_le
  refine calls_ct Try.func12 Try.ntmps12 rfl rfl ?_
  refine ct_seq ?_
  refine ct_reg ?_
  refine rl_val gw_none (ov_assign rfl) rfl ?_
  refine rl_nil ?_
  refine at_then ?_
  refine ct_seq ?_
  refine ct_seq ?_
  refine ct_reg ?_
  refine rl_val gw_none (ov_assign rfl) rfl ?_
  refine rl_nil ?_
  refine at_then ?_
  refine ct_block ?_
  refine ct_loopR (ι := Nat) (fun k => [(1, .int .i64 (k0 + 1 * (k : Nat))), (5, .int .i64 k)]) [(0, _)] (fun _ => _) (fun k => k ≤ len) (fun k => len - k) (0) (Sub.cons rfl Sub.nil) (fun _ hq => hq) (by (repeat' (first | exact Sub.nil | refine Sub.cons ?_ ?_)); all_goals (first | rfl | exact lkInt rfl (by omega))) (by first | exact True.intro | omega | (dsimp only; omega) | (dsimp only at *; omega)) (fun k hk => ?_)
  refine ct_seq ?_
  refine ct_seq ?_
  refine ct_reg ?_
  refine rl_val gw_none (ov_move rfl) rfl ?_
  refine rl_val gw_none (ov_move rfl) rfl ?_
  refine rl_val gw_none (ov_len Try.underlying26 rfl) rfl ?_
  refine rl_val gw_none (ov_lss rfl rfl) rfl ?_
  refine rl_nil ?_
  refine at_then ?_
  first | refine ct_dec rfl (fun h1 => ?_) (fun h1 => ?_) | refine ct_ndec rfl (fun h1 => ?_) (fun h1 => ?_) | refine ct_eq rfl (fun h1 => ?_) (fun h1 => ?_) | refine ct_ne rfl (fun h1 => ?_) (fun h1 => ?_) | refine ct_not rfl (fun h1 => ?_) (fun h1 => ?_) | refine ct_cond rfl (fun h1 => ?_) (fun h1 => ?_)
  ·
    have hk2 : k < len := by omega
    obtain ⟨b, o, rfl, hcl⟩ := hsr.at hk2 (by omega)
    have c0 : w.cell? ⟨b, o + k * 1, none⟩ = some _ := hcl 0 _ (by omega) (imarks_get (k0 := k0) (k := k * 1 + 0) (by omega))
    refine ct_skip ?_
    refine at_then ?_
    refine ct_seq ?_
    refine ct_block ?_
    refine ct_seq ?_
    refine ct_seq ?_
    refine ct_reg ?_
    refine rl_val gw_none (ov_move rfl) rfl ?_
    refine rl_val gw_none (ov_move rfl) rfl ?_
    refine rl_val gw_none (ov_ix Try.underlying26 sz3 rfl rfl _ rfl (by omega)) rfl ?_
    first | refine rl_val gw_none (ov_load 0 sc3 rfl rfl rfl) rfl ?_ | refine rl_val gw_none (ov_load 1 sc3 rfl rfl rfl) rfl ?_ | refine rl_val gw_none (ov_load 2 sc3 rfl rfl rfl) rfl ?_ | refine rl_val gw_none (ov_load 3 sc3 rfl rfl rfl) rfl ?_ | refine rl_val gw_none (ov_loadw sc3 rfl (by assumption)) rfl ?_ | refine rl_val gw_none (ov_load 0 sc3 rfl rfl (by assumption)) rfl ?_ | refine rl_val gw_none (ov_load 1 sc3 rfl rfl (by assumption)) rfl ?_ | refine rl_val gw_none (ov_load 2 sc3 rfl rfl (by assumption)) rfl ?_ | refine rl_val gw_none (ov_load 3 sc3 rfl rfl (by assumption)) rfl ?_
    refine rl_val gw_none (ov_move rfl) rfl ?_
    refine rl_val gw_none (ov_neq rfl rfl) rfl ?_
    refine rl_nil ?_
    refine at_then ?_
    first | refine ct_dec rfl (fun h2 => ?_) (fun h2 => ?_) | refine ct_ndec rfl (fun h2 => ?_) (fun h2 => ?_) | refine ct_eq rfl (fun h2 => ?_) (fun h2 => ?_) | refine ct_ne rfl (fun h2 => ?_) (fun h2 => ?_) | refine ct_not rfl (fun h2 => ?_) (fun h2 => ?_) | refine ct_cond rfl (fun h2 => ?_) (fun h2 => ?_)
    ·
      exact absurd (by omega) h2
    ·
      refine ct_skip ?_
      refine at_then ?_
      refine ct_reg ?_
      refine rl_val gw_none (ov_move rfl) rfl ?_
      refine rl_val gw_none (ov_add rfl rfl (by omega)) rfl ?_
      refine rl_val gw_none (ov_assign rfl) rfl ?_
      refine rl_nil ?_
      refine at_block ?_
      refine at_then ?_
      refine ct_reg ?_
      refine rl_val gw_none (ov_move rfl) rfl ?_
      refine rl_val gw_none (ov_add rfl rfl (by omega)) rfl ?_
      refine rl_val gw_none (ov_assign rfl) rfl ?_
      refine rl_nil ?_
      exact at_backR (k + 1) (by first | exact True.intro | omega | (dsimp only; omega) | (dsimp only at *; omega)) (by first | exact True.intro | omega | (dsimp only; omega) | (dsimp only at *; omega)) (by (repeat' (first | exact Sub.nil | refine Sub.cons ?_ ?_)); all_goals (first | rfl | exact lkInt rfl (by omega))) (Sub.cons rfl Sub.nil) (fun _ hq => hq)
  ·
    have hke : k = len := by omega
    subst hke
    refine ct_exit ?_
    refine at_then_exit ?_
    refine at_then_exit ?_
    refine at_block_hit ?_
    refine at_then ?_
    refine ct_seq ?_
    refine ct_reg ?_
    refine rl_val gw_none (ov_move rfl) rfl ?_
    refine rl_val gw_none (ov_assign rfl) rfl ?_
    refine rl_nil ?_
    refine at_then ?_
    refine ct_ret ?_
    refine at_ret1 Try.results12 (ro_tmp rfl) (fun w1 hp => ?_)
    exact ⟨rfl, hp.ext0⟩

theorem markIntS_o (k0 : Int) {bo : Option Nat} {len cap : Nat} {xs pad : List Value} (hsl : Sl 1 bo len cap xs pad) (w : World) (hh : ∀ b, bo = some b → w.heap[b]? = some (.cells (xs ++ pad).toArray 3 (0, 0))) (hk0 : 0 ≤ k0 ∧ k0 ≤ 1000000000000 ∧ len ≤ 1000000000000) :
    Calls Try.prog 11 [sv bo len cap, .int .i64 k0].toArray w (fun e w' => e = .returned (.int .i64 (k0 + 1 * (len : Nat))) ∧ Wrote bo 3 (ints (marks k0 (1 * len)) ++ (xs ++ pad).drop (1 * len)) w w') := by
  cases bo with
  | none =>
    obtain ⟨rfl, rfl⟩ := hsl.nil rfl
    have hnil : xs ++ pad = [] := List.length_eq_zero_iff.1 (by rw [hsl.lp, Nat.zero_mul])
    refine (markIntS_n k0 w).mono fun e w' ⟨he, hx⟩ => ⟨by rw [he]; simp, ?_, hx⟩
    rw [hnil]; simp [marks, ints]
  | some b =>
    have hle := hsl.le
    have := Nat.mul_le_mul_right 1 hle
    exact (markIntS_s k0 b len cap (xs ++ pad) w (hh b rfl) (by rw [hsl.lp]; omega) hk0).mono fun e w' ⟨he, ht, hc⟩ => ⟨he, ht, hc⟩
end Go.Proofs.Ytjhlhkglpecdbaa
