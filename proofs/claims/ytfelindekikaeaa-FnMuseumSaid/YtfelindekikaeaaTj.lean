import Derived.Test.YtfelindekikaeaaTa
import Derived.KernelRfl
set_option linter.unusedVariables false
set_option linter.unusedSimpArgs false
namespace Go.Proofs.Ytfelindekikaeaa
open Go Go.RowKit K
theorem elemS {w : World} {a : Option Addr} {cap : Nat} {xs : List ByteArray} (h : SR w 1 (.slice a xs.length cap) xs.length (flat encS xs)) {i : Nat} (hi : i < xs.length) : ∃ b o, a = some ⟨b, o, none⟩ ∧ ∀ j x, xs[j]? = some x → w.cell? ⟨b, o + j * 1, none⟩ = some (.string x) := by
  obtain ⟨b, o, rfl, he⟩ := h.elem encS_len (by decide) hi
  exact ⟨b, o, rfl, fun j x hx => (he j x hx).1⟩

theorem eqStringS_c (xs : List ByteArray) (v u : Value) (w : World) (hsr : SR w 1 v xs.length (flat encS xs)) (hsu : SR w 1 u xs.length (flat encS xs)) : Calls Try.prog 18 ([v, u]).toArray w (fun e w' => e = .returned (.bool true) ∧ Ext w w') := by
  obtain ⟨a, cap, rfl, hcap, hmax⟩ := hsr.slice
  obtain ⟨a2, cap2, rfl, hcap2, hmax2⟩ := hsu.slice
  have hlen := hsr.len_le
  refine calls_ct Try.func18 Try.ntmps18 rfl rfl ?_
  refine ct_seq ?_
  refine ct_reg ?_
  refine rl_val gw_none (ov_assign rfl) rfl ?_
  refine rl_nil ?_
  refine at_then ?_
  refine ct_seq ?_
  refine ct_seq ?_
  refine ct_reg ?_
  refine rl_val gw_none (ov_move rfl) rfl ?_
  refine rl_val gw_none (ov_len Try.underlying34 rfl) rfl ?_
  refine rl_val gw_none (ov_move rfl) rfl ?_
  refine rl_val gw_none (ov_len Try.underlying34 rfl) rfl ?_
  refine rl_val gw_none (ov_neq rfl rfl) rfl ?_
  refine rl_nil ?_
  refine at_then ?_
  first | refine ct_dec rfl (fun h1 => ?_) (fun h1 => ?_) | refine ct_ndec rfl (fun h1 => ?_) (fun h1 => ?_) | refine ct_eq rfl (fun h1 => ?_) (fun h1 => ?_) | refine ct_ne rfl (fun h1 => ?_) (fun h1 => ?_) | refine ct_not rfl (fun h1 => ?_) (fun h1 => ?_) | refine ct_cond rfl (fun h1 => ?_) (fun h1 => ?_)
  ·
    exact absurd rfl h1
  ·
    refine ct_skip ?_
    refine at_then ?_
    refine ct_seq ?_
    refine ct_seq ?_
    refine ct_reg ?_
    refine rl_val gw_none (ov_assign rfl) rfl ?_
    refine rl_nil ?_
    refine at_then ?_
    refine ct_block ?_
    refine ct_loopR (ι := Nat) (fun k => [(5, .int .i64 k)]) [(0, _), (1, _)] (fun _ => _) (fun k => k ≤ xs.length) (fun k => xs.length - k) (0) (Sub.cons rfl (Sub.cons rfl Sub.nil)) (fun _ hq => hq) (by (repeat' (first | exact Sub.nil | refine Sub.cons ?_ ?_)); all_goals (first | rfl | exact lkInt rfl (by omega))) (by first | exact True.intro | omega | (dsimp only; omega) | (dsimp only at *; omega)) (fun k hk => ?_)
    refine ct_seq ?_
    refine ct_seq ?_
    refine ct_reg ?_
    refine rl_val gw_none (ov_move rfl) rfl ?_
    refine rl_val gw_none (ov_move rfl) rfl ?_
    refine rl_val gw_none (ov_len Try.underlying34 rfl) rfl ?_
    refine rl_val gw_none (ov_lss rfl rfl) rfl ?_
    refine rl_nil ?_
    refine at_then ?_
    first | refine ct_dec rfl (fun h2 => ?_) (fun h2 => ?_) | refine ct_ndec rfl (fun h2 => ?_) (fun h2 => ?_) | refine ct_eq rfl (fun h2 => ?_) (fun h2 => ?_) | refine ct_ne rfl (fun h2 => ?_) (fun h2 => ?_) | refine ct_not rfl (fun h2 => ?_) (fun h2 => ?_) | refine ct_cond rfl (fun h2 => ?_) (fun h2 => ?_)
    ·
      have hk2 : k < xs.length := by omega
      obtain ⟨b, o, rfl, hel⟩ := elemS hsr hk2
      have hx := getLt hk2
      generalize xs[k] = x at *
      have hcx := hel k x hx
      obtain ⟨b2, o2, rfl, hel2⟩ := elemS hsu hk2
      have hcy := hel2 k x hx
      refine ct_skip ?_
      refine at_then ?_
      refine ct_seq ?_
      refine ct_block ?_
      refine ct_seq ?_
      refine ct_dr 9 (by kernel_rfl) (by kernel_rfl) ?_
      refine ql_val gw_none (ov_move rfl) rfl ?_
      refine ql_val gw_none (ov_move rfl) rfl ?_
      first | refine ql_val gw_none (ov_ix Try.underlying34 sz9 rfl rfl _ rfl (by omega)) rfl ?_ | refine ql_val gw_none (ov_ix Try.underlying34 sz9 rfl rfl (k) (by omega) (by omega)) rfl ?_
      first | refine ql_val gw_none (ov_load 0 sc9 rfl rfl rfl) rfl ?_ | refine ql_val gw_none (ov_load 1 sc9 rfl rfl rfl) rfl ?_ | refine ql_val gw_none (ov_load 2 sc9 rfl rfl rfl) rfl ?_ | refine ql_val gw_none (ov_load 3 sc9 rfl rfl rfl) rfl ?_ | refine ql_val gw_none (ov_loadw sc9 rfl (by assumption)) rfl ?_ | refine ql_val gw_none (ov_load 0 sc9 rfl rfl (by assumption)) rfl ?_ | refine ql_val gw_none (ov_load 1 sc9 rfl rfl (by assumption)) rfl ?_ | refine ql_val gw_none (ov_load 2 sc9 rfl rfl (by assumption)) rfl ?_ | refine ql_val gw_none (ov_load 3 sc9 rfl rfl (by assumption)) rfl ?_
      refine ql_val gw_none (ov_move rfl) rfl ?_
      refine ql_val gw_none (ov_move rfl) rfl ?_
      first | refine ql_val gw_none (ov_ix Try.underlying34 sz9 rfl rfl _ rfl (by omega)) rfl ?_ | refine ql_val gw_none (ov_ix Try.underlying34 sz9 rfl rfl (k) (by omega) (by omega)) rfl ?_
      first | refine ql_val gw_none (ov_load 0 sc9 rfl rfl rfl) rfl ?_ | refine ql_val gw_none (ov_load 1 sc9 rfl rfl rfl) rfl ?_ | refine ql_val gw_none (ov_load 2 sc9 rfl rfl rfl) rfl ?_ | refine ql_val gw_none (ov_load 3 sc9 rfl rfl rfl) rfl ?_ | refine ql_val gw_none (ov_loadw sc9 rfl (by assumption)) rfl ?_ | refine ql_val gw_none (ov_load 0 sc9 rfl rfl (by assumption)) rfl ?_ | refine ql_val gw_none (ov_load 1 sc9 rfl rfl (by assumption)) rfl ?_ | refine ql_val gw_none (ov_load 2 sc9 rfl rfl (by assumption)) rfl ?_ | refine ql_val gw_none (ov_load 3 sc9 rfl rfl (by assumption)) rfl ?_
      refine ql_val gw_none (ov_sneq rfl rfl) rfl ?_
      refine ql_nil ?_
      refine rl_nil ?_
      refine at_then ?_
      first | refine ct_dec rfl (fun h3 => ?_) (fun h3 => ?_) | refine ct_ndec rfl (fun h3 => ?_) (fun h3 => ?_) | refine ct_eq rfl (fun h3 => ?_) (fun h3 => ?_) | refine ct_ne rfl (fun h3 => ?_) (fun h3 => ?_) | refine ct_not rfl (fun h3 => ?_) (fun h3 => ?_) | refine ct_cond rfl (fun h3 => ?_) (fun h3 => ?_)
      ·
        exact absurd h3 (by simp)
      ·
        refine ct_skip ?_
        refine at_block ?_
        refine at_then ?_
        refine ct_reg ?_
        refine rl_val gw_none (ov_move rfl) rfl ?_
        refine rl_val gw_none (ov_add rfl rfl (by omega)) rfl ?_
        refine rl_val gw_none (ov_assign rfl) rfl ?_
        refine rl_nil ?_
        exact at_backR (k + 1) (by first | exact True.intro | omega | (dsimp only; omega) | (dsimp only at *; omega)) (by first | exact True.intro | omega | (dsimp only; omega) | (dsimp only at *; omega)) (by (repeat' (first | exact Sub.nil | refine Sub.cons ?_ ?_)); all_goals (first | rfl | exact lkInt rfl (by omega))) (Sub.cons rfl (Sub.cons rfl Sub.nil)) (fun _ hq => hq)
    ·
      refine ct_exit ?_
      refine at_then_exit ?_
      refine at_then_exit ?_
      refine at_block_hit ?_
      refine at_then ?_
      refine ct_seq ?_
      refine ct_reg ?_
      refine rl_val gw_none (ov_assign rfl) rfl ?_
      refine rl_nil ?_
      refine at_then ?_
      refine ct_ret ?_
      refine at_ret1 Try.results18 (ro_tmp rfl) (fun w1 hp => ?_)
      exact ⟨rfl, hp.ext0⟩

theorem rTexts_c (xs : List ByteArray) (v u : Value) (w : World) (hsr : SR w 1 v xs.length (flat encS xs)) (hsu : SR w 1 u xs.length (flat encS xs)) : Calls Try.prog 23 ([v, u]).toArray w (fun e w' => e = .returned (.bool true) ∧ Ext w w') := by
  obtain ⟨a, cap, rfl, hcap, hmax⟩ := hsr.slice
  obtain ⟨a2, cap2, rfl, hcap2, hmax2⟩ := hsu.slice
  have hlen := hsr.len_le
  refine calls_ct Try.func23 Try.ntmps23 rfl rfl ?_
  refine ct_seq ?_
  refine ct_reg ?_
  refine rl_val gw_none (ov_assign rfl) rfl ?_
  refine rl_nil ?_
  refine at_then ?_
  refine ct_seq ?_
  refine ct_seq ?_
  refine ct_reg ?_
  refine rl_val gw_none (ov_move rfl) rfl ?_
  refine rl_val gw_none (ov_len Try.underlying34 rfl) rfl ?_
  refine rl_val gw_none (ov_move rfl) rfl ?_
  refine rl_val gw_none (ov_len Try.underlying34 rfl) rfl ?_
  refine rl_val gw_none (ov_neq rfl rfl) rfl ?_
  refine rl_nil ?_
  refine at_then ?_
  first | refine ct_dec rfl (fun h1 => ?_) (fun h1 => ?_) | refine ct_ndec rfl (fun h1 => ?_) (fun h1 => ?_) | refine ct_eq rfl (fun h1 => ?_) (fun h1 => ?_) | refine ct_ne rfl (fun h1 => ?_) (fun h1 => ?_) | refine ct_not rfl (fun h1 => ?_) (fun h1 => ?_) | refine ct_cond rfl (fun h1 => ?_) (fun h1 => ?_)
  ·
    exact absurd rfl h1
  ·
    refine ct_skip ?_
    refine at_then ?_
    refine ct_seq ?_
    refine ct_seq ?_
    refine ct_reg ?_
    refine rl_val gw_none (ov_assign rfl) rfl ?_
    refine rl_nil ?_
    refine at_then ?_
    refine ct_block ?_
    refine ct_loopR (ι := Nat) (fun k => [(5, .int .i64 k)]) [(0, _), (1, _)] (fun _ => _) (fun k => k ≤ xs.length) (fun k => xs.length - k) (0) (Sub.cons rfl (Sub.cons rfl Sub.nil)) (fun _ hq => hq) (by (repeat' (first | exact Sub.nil | refine Sub.cons ?_ ?_)); all_goals (first | rfl | exact lkInt rfl (by omega))) (by first | exact True.intro | omega | (dsimp only; omega) | (dsimp only at *; omega)) (fun k hk => ?_)
    refine ct_seq ?_
    refine ct_seq ?_
    refine ct_reg ?_
    refine rl_val gw_none (ov_move rfl) rfl ?_
    refine rl_val gw_none (ov_move rfl) rfl ?_
    refine rl_val gw_none (ov_len Try.underlying34 rfl) rfl ?_
    refine rl_val gw_none (ov_lss rfl rfl) rfl ?_
    refine rl_nil ?_
    refine at_then ?_
    first | refine ct_dec rfl (fun h2 => ?_) (fun h2 => ?_) | refine ct_ndec rfl (fun h2 => ?_) (fun h2 => ?_) | refine ct_eq rfl (fun h2 => ?_) (fun h2 => ?_) | refine ct_ne rfl (fun h2 => ?_) (fun h2 => ?_) | refine ct_not rfl (fun h2 => ?_) (fun h2 => ?_) | refine ct_cond rfl (fun h2 => ?_) (fun h2 => ?_)
    ·
      have hk2 : k < xs.length := by omega
      obtain ⟨b, o, rfl, hel⟩ := elemS hsr hk2
      have hx := getLt hk2
      generalize xs[k] = x at *
      have hcx := hel k x hx
      obtain ⟨b2, o2, rfl, hel2⟩ := elemS hsu hk2
      have hcy := hel2 k x hx
      refine ct_skip ?_
      refine at_then ?_
      refine ct_seq ?_
      refine ct_block ?_
      refine ct_seq ?_
      refine ct_dr 9 (by kernel_rfl) (by kernel_rfl) ?_
      refine ql_val gw_none (ov_move rfl) rfl ?_
      refine ql_val gw_none (ov_move rfl) rfl ?_
      first | refine ql_val gw_none (ov_ix Try.underlying34 sz9 rfl rfl _ rfl (by omega)) rfl ?_ | refine ql_val gw_none (ov_ix Try.underlying34 sz9 rfl rfl (k) (by omega) (by omega)) rfl ?_
      first | refine ql_val gw_none (ov_load 0 sc9 rfl rfl rfl) rfl ?_ | refine ql_val gw_none (ov_load 1 sc9 rfl rfl rfl) rfl ?_ | refine ql_val gw_none (ov_load 2 sc9 rfl rfl rfl) rfl ?_ | refine ql_val gw_none (ov_load 3 sc9 rfl rfl rfl) rfl ?_ | refine ql_val gw_none (ov_loadw sc9 rfl (by assumption)) rfl ?_ | refine ql_val gw_none (ov_load 0 sc9 rfl rfl (by assumption)) rfl ?_ | refine ql_val gw_none (ov_load 1 sc9 rfl rfl (by assumption)) rfl ?_ | refine ql_val gw_none (ov_load 2 sc9 rfl rfl (by assumption)) rfl ?_ | refine ql_val gw_none (ov_load 3 sc9 rfl rfl (by assumption)) rfl ?_
      refine ql_val gw_none (ov_move rfl) rfl ?_
      refine ql_val gw_none (ov_move rfl) rfl ?_
      first | refine ql_val gw_none (ov_ix Try.underlying34 sz9 rfl rfl _ rfl (by omega)) rfl ?_ | refine ql_val gw_none (ov_ix Try.underlying34 sz9 rfl rfl (k) (by omega) (by omega)) rfl ?_
      first | refine ql_val gw_none (ov_load 0 sc9 rfl rfl rfl) rfl ?_ | refine ql_val gw_none (ov_load 1 sc9 rfl rfl rfl) rfl ?_ | refine ql_val gw_none (ov_load 2 sc9 rfl rfl rfl) rfl ?_ | refine ql_val gw_none (ov_load 3 sc9 rfl rfl rfl) rfl ?_ | refine ql_val gw_none (ov_loadw sc9 rfl (by assumption)) rfl ?_ | refine ql_val gw_none (ov_load 0 sc9 rfl rfl (by assumption)) rfl ?_ | refine ql_val gw_none (ov_load 1 sc9 rfl rfl (by assumption)) rfl ?_ | refine ql_val gw_none (ov_load 2 sc9 rfl rfl (by assumption)) rfl ?_ | refine ql_val gw_none (ov_load 3 sc9 rfl rfl (by assumption)) rfl ?_
      refine ql_val gw_none (ov_sneq rfl rfl) rfl ?_
      refine ql_nil ?_
      refine rl_nil ?_
      refine at_then ?_
      first | refine ct_dec rfl (fun h3 => ?_) (fun h3 => ?_) | refine ct_ndec rfl (fun h3 => ?_) (fun h3 => ?_) | refine ct_eq rfl (fun h3 => ?_) (fun h3 => ?_) | refine ct_ne rfl (fun h3 => ?_) (fun h3 => ?_) | refine ct_not rfl (fun h3 => ?_) (fun h3 => ?_) | refine ct_cond rfl (fun h3 => ?_) (fun h3 => ?_)
      ·
        exact absurd h3 (by simp)
      ·
        refine ct_skip ?_
        refine at_block ?_
        refine at_then ?_
        refine ct_reg ?_
        refine rl_val gw_none (ov_move rfl) rfl ?_
        refine rl_val gw_none (ov_add rfl rfl (by omega)) rfl ?_
        refine rl_val gw_none (ov_assign rfl) rfl ?_
        refine rl_nil ?_
        exact at_backR (k + 1) (by first | exact True.intro | omega | (dsimp only; omega) | (dsimp only at *; omega)) (by first | exact True.intro | omega | (dsimp only; omega) | (dsimp only at *; omega)) (by (repeat' (first | exact Sub.nil | refine Sub.cons ?_ ?_)); all_goals (first | rfl | exact lkInt rfl (by omega))) (Sub.cons rfl (Sub.cons rfl Sub.nil)) (fun _ hq => hq)
    ·
      refine ct_exit ?_
      refine at_then_exit ?_
      refine at_then_exit ?_
      refine at_block_hit ?_
      refine at_then ?_
      refine ct_seq ?_
      refine ct_reg ?_
      refine rl_val gw_none (ov_assign rfl) rfl ?_
      refine rl_nil ?_
      refine at_then ?_
      refine ct_ret ?_
      refine at_ret1 Try.results23 (ro_tmp rfl) (fun w1 hp => ?_)
      exact ⟨rfl, hp.ext0⟩

theorem markText_v (n : Int) (w : World) (hn : n ≤ 1000000000000000) : Calls Try.prog 59 ([.int .i64 n]).toArray w (fun e w' => e = .returned (.string (mtx n)) ∧ Ext w w') := by
  refine calls_ct Try.func59 Try.ntmps59 rfl rfl ?_
  refine ct_seq ?_
  refine ct_reg ?_
  refine rl_val gw_none (ov_assign rfl) rfl ?_
  refine rl_nil ?_
  refine at_then ?_
  refine ct_seq ?_
  refine ct_seq ?_
  refine ct_reg ?_
  refine rl_val gw_none (ov_move rfl) rfl ?_
  refine rl_val gw_none (ov_leq rfl rfl) rfl ?_
  refine rl_nil ?_
  refine at_then ?_
  first | refine ct_dec rfl (fun h1 => ?_) (fun h1 => ?_) | refine ct_ndec rfl (fun h1 => ?_) (fun h1 => ?_) | refine ct_eq rfl (fun h1 => ?_) (fun h1 => ?_) | refine ct_ne rfl (fun h1 => ?_) (fun h1 => ?_) | refine ct_not rfl (fun h1 => ?_) (fun h1 => ?_) | refine ct_cond rfl (fun h1 => ?_) (fun h1 => ?_)
  ·
    refine ct_seq ?_
    refine ct_reg ?_
    refine rl_val gw_none (ov_assign rfl) rfl ?_
    refine rl_nil ?_
    refine at_then ?_
    refine ct_ret ?_
    refine at_then_ret ?_
    refine at_ret1 Try.results59 (ro_tmp rfl) (fun w1 hp => ?_)
    refine ⟨?_, hp.ext0⟩
    first | (rw [mtx_no (by assumption)]; done) | (rw [mtx_yes (by omega), hml, mtL_end _ _ (by omega)])
  ·
    refine ct_skip ?_
    refine at_then ?_
    refine ct_seq ?_
    refine ct_reg ?_
    refine rl_val gw_none (ov_assign rfl) rfl ?_
    refine rl_nil ?_
    refine at_then ?_
    refine ct_seq ?_
    refine ct_block ?_
    refine ct_loopR (ι := Nat × Int × List UInt8) (fun p => [(0, .int .i64 p.2.1), (3, .string (bs p.2.2))]) [(2, _)] (fun _ => _) (fun p => mtL 16 n [] = mtL p.1 p.2.1 p.2.2 ∧ (0 ≤ p.2.1 ∧ p.2.1 < (10 : Int) ^ p.1) ∧ p.2.1 ≤ 1000000000000000 ∧ p.2.2.length + p.1 ≤ 16) (fun p => p.1) ((16, n, [])) (Sub.cons rfl Sub.nil) (fun _ hq => hq) (by (repeat' (first | exact Sub.nil | refine Sub.cons ?_ ?_)); all_goals (first | rfl | exact lkInt rfl (by omega))) ⟨rfl, ⟨by dsimp only; omega, by dsimp only; omega⟩, hn, by simp⟩ (fun p hp0 => ?_)
    obtain ⟨f, q, l⟩ := p
    obtain ⟨hml, hq, hqn, hl⟩ := hp0
    dsimp only at hml hq hqn hl
    try dsimp only
    refine ct_seq ?_
    refine ct_seq ?_
    refine ct_reg ?_
    refine rl_val gw_none (ov_move rfl) rfl ?_
    refine rl_val gw_none (ov_gtr rfl rfl) rfl ?_
    refine rl_nil ?_
    refine at_then ?_
    first | refine ct_dec rfl (fun h2 => ?_) (fun h2 => ?_) | refine ct_ndec rfl (fun h2 => ?_) (fun h2 => ?_) | refine ct_eq rfl (fun h2 => ?_) (fun h2 => ?_) | refine ct_ne rfl (fun h2 => ?_) (fun h2 => ?_) | refine ct_not rfl (fun h2 => ?_) (fun h2 => ?_) | refine ct_cond rfl (fun h2 => ?_) (fun h2 => ?_)
    ·
      obtain ⟨f, rfl⟩ : ∃ g, f = g + 1 := ⟨f - 1, by rcases Nat.eq_zero_or_pos f with rfl | hf; (have : q < 1 := hq.2); omega; omega⟩
      refine ct_skip ?_
      refine at_then ?_
      refine ct_block ?_
      refine ct_seq ?_
      refine ct_reg ?_
      refine rl_val gw_none (ov_move rfl) rfl ?_
      refine rl_val gw_none (ov_rem rfl rfl (by omega) (by omega)) rfl ?_
      refine rl_val gw_none (ov_add rfl rfl (by omega)) rfl ?_
      refine rl_val gw_none (ov_convint Try.underlying3 Try.underlying5 rfl) rfl ?_
      refine rl_bslice Try.underlying40 ze5 sz5 rfl rfl rfl rfl rfl rfl (fun N1 => ?_)
      refine rl_val gw_none (ov_convbytes 0 [_] Try.underlying40 Try.underlying5 Try.underlying9  rfl rfl rfl (fun _ _ h => h)) rfl ?_
      refine rl_val gw_none (ov_move rfl) rfl ?_
      refine rl_val gw_none (ov_sadd rfl rfl (by first | omega | (simp; omega))) rfl ?_
      refine rl_val gw_none (ov_assign rfl) rfl ?_
      refine rl_nil ?_
      refine at_then ?_
      refine ct_reg ?_
      refine rl_val gw_none (ov_move rfl) rfl ?_
      refine rl_val gw_none (ov_quo rfl rfl (by omega) (by omega) (by omega)) rfl ?_
      refine rl_val gw_none (ov_assign rfl) rfl ?_
      refine rl_nil ?_
      refine at_block ?_
      exact at_backR (f, q / 10, UInt8.ofNat (IntKind.u8.wrap (48 + q % 10)).toNat :: l) ⟨by dsimp only; rw [hml, mtL_step _ _ (by omega)], ⟨by dsimp only; omega, by dsimp only; rw [Int.pow_succ] at hq; omega⟩, by dsimp only; omega, by simp only [List.length_cons]; omega⟩ (by dsimp only; omega) (by (repeat' (first | exact Sub.nil | refine Sub.cons ?_ ?_)); all_goals (first | rfl | exact lkInt rfl (by omega))) (Sub.cons rfl Sub.nil) (fun _ hq => hq.drop)
    ·
      refine ct_exit ?_
      refine at_then_exit ?_
      refine at_then_exit ?_
      refine at_block_hit ?_
      refine at_then ?_
      refine ct_seq ?_
      refine ct_reg ?_
      refine rl_val gw_none (ov_move rfl) rfl ?_
      refine rl_val gw_none (ov_sadd rfl rfl (by first | omega | (simp; omega))) rfl ?_
      refine rl_val gw_none (ov_assign rfl) rfl ?_
      refine rl_nil ?_
      refine at_then ?_
      refine ct_ret ?_
      refine at_ret1 Try.results59 (ro_tmp rfl) (fun w1 hp => ?_)
      refine ⟨?_, hp.ext0⟩
      first | (rw [mtx_no (by assumption)]; done) | (rw [mtx_yes (by omega), hml, mtL_end _ _ (by omega)])
end Go.Proofs.Ytfelindekikaeaa
