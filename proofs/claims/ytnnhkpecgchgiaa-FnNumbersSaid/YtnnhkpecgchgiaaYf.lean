import Derived.Test.YtnnhkpecgchgiaaYe
import Derived.Test.YtnnhkpecgchgiaaEa
import Derived.Test.YtnnhkpecgchgiaaAa
import Derived.KernelRfl
set_option linter.unusedVariables false
set_option linter.unusedSimpArgs false
namespace Go.Proofs.Ytnnhkpecgchgiaa
open Go Go.RowKit K
theorem vPairs_c (xs : List IntA2) (v u : Value) (w : World) (hsr : SR w 2 v xs.length (flat encIntA2 xs)) (hsu : SR w 2 u xs.length (flat encIntA2 xs)) : Calls Try.prog 117 ([v, u]).toArray w (fun e w' => e = .returned (.bool true) ∧ Ext w w') := by
  obtain ⟨a, cap, rfl, hcap, hmax⟩ := hsr.slice
  obtain ⟨a2, cap2, rfl, hcap2, hmax2⟩ := hsu.slice
  have hlen := hsr.len_le
  refine calls_ct Try.func117 Try.ntmps117 rfl rfl ?_
  refine ct_seq ?_
  refine ct_reg ?_
  refine rl_val gw_none (ov_assign rfl) rfl ?_
  refine rl_nil ?_
  refine at_then ?_
  refine ct_seq ?_
  refine ct_seq ?_
  refine ct_reg ?_
  refine rl_val gw_none (ov_move rfl) rfl ?_
  refine rl_val gw_none (ov_len Try.underlying22 rfl) rfl ?_
  refine rl_val gw_none (ov_move rfl) rfl ?_
  refine rl_val gw_none (ov_len Try.underlying22 rfl) rfl ?_
  refine rl_val gw_none (ov_neq rfl rfl) rfl ?_
  refine rl_nil ?_
  refine at_then ?_
  first | refine ct_dec rfl (fun h1 => ?_) (fun h1 => ?_) | refine ct_ndec rfl (fun h1 => ?_) (fun h1 => ?_) | refine ct_eq rfl (fun h1 => ?_) (fun h1 => ?_) | refine ct_ne rfl (fun h1 => ?_) (fun h1 => ?_) | refine ct_not rfl (fun h1 => ?_) (fun h1 => ?_) | refine ct_cond rfl (fun h1 => ?_) (fun h1 => ?_)
  ·
    exact absurd rfl h1
  ·
    refine ct_skip ?_
    refine at_then ?_
    refine ct_seq ?_
    refine ct_seq ?_
    refine ct_reg ?_
    refine rl_val gw_none (ov_assign rfl) rfl ?_
    refine rl_nil ?_
    refine at_then ?_
    refine ct_block ?_
    refine ct_loopR (ι := Nat) (fun k => [(5, .int .i64 k)]) [(0, _), (1, _)] (fun _ => _) (fun k => k ≤ xs.length) (fun k => xs.length - k) (0) (Sub.cons rfl (Sub.cons rfl Sub.nil)) (fun _ hq => hq) (by (repeat' (first | exact Sub.nil | refine Sub.cons ?_ ?_)); all_goals (first | rfl | exact lkInt rfl (by omega))) (by first | exact True.intro | omega | (dsimp only; omega) | (dsimp only at *; omega)) (fun k hk => ?_)
    refine ct_seq ?_
    refine ct_seq ?_
    refine ct_reg ?_
    refine rl_val gw_none (ov_move rfl) rfl ?_
    refine rl_val gw_none (ov_move rfl) rfl ?_
    refine rl_val gw_none (ov_len Try.underlying22 rfl) rfl ?_
    refine rl_val gw_none (ov_lss rfl rfl) rfl ?_
    refine rl_nil ?_
    refine at_then ?_
    first | refine ct_dec rfl (fun h2 => ?_) (fun h2 => ?_) | refine ct_ndec rfl (fun h2 => ?_) (fun h2 => ?_) | refine ct_eq rfl (fun h2 => ?_) (fun h2 => ?_) | refine ct_ne rfl (fun h2 => ?_) (fun h2 => ?_) | refine ct_not rfl (fun h2 => ?_) (fun h2 => ?_) | refine ct_cond rfl (fun h2 => ?_) (fun h2 => ?_)
    ·
      have hk2 : k < xs.length := by omega
      obtain ⟨b, o, rfl, hel⟩ := hsr.elem encIntA2_len (by omega) hk2
      have hx := getLt hk2
      generalize xs[k] = x at *
      have hcx := hel k x hx
      obtain ⟨b2, o2, rfl, hel2⟩ := hsu.elem encIntA2_len (by omega) hk2
      have hcy := hel2 k x hx
      refine ct_skip ?_
      refine at_then ?_
      refine ct_seq ?_
      refine ct_block ?_
      refine ct_seq ?_
      refine ct_dr 9 (by kernel_rfl) (by kernel_rfl) ?_
      refine ql_val gw_none (ov_move rfl) rfl ?_
      refine ql_val gw_none (ov_move rfl) rfl ?_
      first | refine ql_val gw_none (ov_ix Try.underlying22 sz81 rfl rfl _ rfl (by omega)) rfl ?_ | refine ql_val gw_none (ov_ix Try.underlying22 sz81 rfl rfl (k) (by omega) (by omega)) rfl ?_
      first | refine ql_val gw_none (ov_loadaw ag81 rfl rfl (by assumption)) rfl ?_ | refine ql_val gw_none (ov_loadall 0 ag81 rfl rfl rfl) rfl ?_ | refine ql_val gw_none (ov_loadall 1 ag81 rfl rfl rfl) rfl ?_ | refine ql_val gw_none (ov_loadall 2 ag81 rfl rfl rfl) rfl ?_ | refine ql_val gw_none (ov_loadall 3 ag81 rfl rfl rfl) rfl ?_
      refine ql_val gw_none (ov_move rfl) rfl ?_
      refine ql_val gw_none (ov_move rfl) rfl ?_
      first | refine ql_val gw_none (ov_ix Try.underlying22 sz81 rfl rfl _ rfl (by omega)) rfl ?_ | refine ql_val gw_none (ov_ix Try.underlying22 sz81 rfl rfl (k) (by omega) (by omega)) rfl ?_
      first | refine ql_val gw_none (ov_loadaw ag81 rfl rfl (by assumption)) rfl ?_ | refine ql_val gw_none (ov_loadall 0 ag81 rfl rfl rfl) rfl ?_ | refine ql_val gw_none (ov_loadall 1 ag81 rfl rfl rfl) rfl ?_ | refine ql_val gw_none (ov_loadall 2 ag81 rfl rfl rfl) rfl ?_ | refine ql_val gw_none (ov_loadall 3 ag81 rfl rfl rfl) rfl ?_
      refine ql_val gw_none (ov_neqArr2 rfl rfl Try.underlying81 Try.underlying3 sc3 sz3 (by kernel_rfl)) rfl ?_
      refine ql_nil ?_
      refine rl_nil ?_
      refine at_then ?_
      first | refine ct_dec rfl (fun h3 => ?_) (fun h3 => ?_) | refine ct_ndec rfl (fun h3 => ?_) (fun h3 => ?_) | refine ct_eq rfl (fun h3 => ?_) (fun h3 => ?_) | refine ct_ne rfl (fun h3 => ?_) (fun h3 => ?_) | refine ct_not rfl (fun h3 => ?_) (fun h3 => ?_) | refine ct_cond rfl (fun h3 => ?_) (fun h3 => ?_)
      ·
        cases h3
      ·
        refine ct_skip ?_
        refine at_block ?_
        refine at_then ?_
        refine ct_reg ?_
        refine rl_val gw_none (ov_move rfl) rfl ?_
        refine rl_val gw_none (ov_add rfl rfl (by omega)) rfl ?_
        refine rl_val gw_none (ov_assign rfl) rfl ?_
        refine rl_nil ?_
        exact at_backR (k + 1) (by first | exact True.intro | omega | (dsimp only; omega) | (dsimp only at *; omega)) (by first | exact True.intro | omega | (dsimp only; omega) | (dsimp only at *; omega)) (by (repeat' (first | exact Sub.nil | refine Sub.cons ?_ ?_)); all_goals (first | rfl | exact lkInt rfl (by omega))) (Sub.cons rfl (Sub.cons rfl Sub.nil)) (fun _ hq => hq)
    ·
      refine ct_exit ?_
      refine at_then_exit ?_
      refine at_then_exit ?_
      refine at_block_hit ?_
      refine at_then ?_
      refine ct_seq ?_
      refine ct_reg ?_
      refine rl_val gw_none (ov_assign rfl) rfl ?_
      refine rl_nil ?_
      refine at_then ?_
      refine ct_ret ?_
      refine at_ret1 Try.results117 (ro_tmp rfl) (fun w1 hp => ?_)
      exact ⟨rfl, hp.ext0⟩

theorem vFrame_c (u l : Int) (xs : List IntA2) (v1 v2 : Value) (w : World) (hsr : SR w 2 v1 xs.length (flat encIntA2 xs)) (hsu : SR w 2 v2 xs.length (flat encIntA2 xs)) : Calls Try.prog 50 ([.agg (List.toArray (α := Value) [.int .i64 u, .int .i64 l, v1]), .agg (List.toArray (α := Value) [.int .i64 u, .int .i64 l, v2])]).toArray w (fun e w' => e = .returned (.bool true) ∧ Ext w w') := by
  obtain ⟨a, cap, rfl, hcap, hmax⟩ := hsr.slice
  obtain ⟨a2, cap2, rfl, hcap2, hmax2⟩ := hsu.slice
  refine calls_ct Try.func50 Try.ntmps50 rfl rfl ?_
  refine ct_seq ?_
  refine ct_reg ?_
  refine rl_box rfl rfl (fun N1 => ?_)
  refine rl_box rfl rfl (fun N2 => ?_)
  refine rl_val gw_none (ov_assign rfl) rfl ?_
  refine rl_nil ?_
  refine at_then ?_
  refine ct_seq ?_
  refine ct_reg ?_
  refine rl_val gw_none (ov_field fo26_0 rfl) rfl ?_
  first | refine rl_val gw_none (ov_load 1 sc3 rfl rfl rfl) rfl ?_ | refine rl_val gw_none (ov_load 1 sc3 rfl rfl (by assumption)) rfl ?_
  refine rl_val gw_none (ov_field fo26_0 rfl) rfl ?_
  first | refine rl_val gw_none (ov_load 0 sc3 rfl rfl rfl) rfl ?_ | refine rl_val gw_none (ov_load 0 sc3 rfl rfl (by assumption)) rfl ?_
  refine rl_val gw_none (ov_eql rfl rfl) rfl ?_
  refine rl_val gw_none (ov_move rfl) rfl ?_
  refine rl_split (t := 10) rfl (fun g1 => ?_) (fun g1 => ?_)
  ·
    refine rl_val (gw_some rfl rfl g1) (ov_field fo26_1 rfl) rfl ?_
    first | refine rl_val (gw_some rfl rfl g1) (ov_load 1 sc3 rfl rfl rfl) rfl ?_ | refine rl_val (gw_some rfl rfl g1) (ov_load 1 sc3 rfl rfl (by assumption)) rfl ?_
    refine rl_val (gw_some rfl rfl g1) (ov_field fo26_1 rfl) rfl ?_
    first | refine rl_val (gw_some rfl rfl g1) (ov_load 0 sc3 rfl rfl rfl) rfl ?_ | refine rl_val (gw_some rfl rfl g1) (ov_load 0 sc3 rfl rfl (by assumption)) rfl ?_
    refine rl_val (gw_some rfl rfl g1) (ov_eql rfl rfl) rfl ?_
    refine rl_val gw_none (ov_pick_t rfl g1 rfl) rfl ?_
    refine rl_val gw_none (ov_move rfl) rfl ?_
    refine rl_split (t := 17) rfl (fun g2 => ?_) (fun g2 => ?_)
    ·
      refine rl_val (gw_some rfl rfl g2) (ov_field fo26_2 rfl) rfl ?_
      first | refine rl_val (gw_some rfl rfl g2) (ov_load 1 sc22 rfl rfl rfl) rfl ?_ | refine rl_val (gw_some rfl rfl g2) (ov_load 1 sc22 rfl rfl (by assumption)) rfl ?_
      refine rl_val (gw_some rfl rfl g2) (ov_field fo26_2 rfl) rfl ?_
      first | refine rl_val (gw_some rfl rfl g2) (ov_load 0 sc22 rfl rfl rfl) rfl ?_ | refine rl_val (gw_some rfl rfl g2) (ov_load 0 sc22 rfl rfl (by assumption)) rfl ?_
      refine rl_callv (gw_some rfl rfl g2) goes117 rfl (fun w1 hp => vPairs_c xs _ _ _ (hsr.ext hp.ext0) (hsu.ext hp.ext0)) rfl ?_
      refine rl_val gw_none (ov_pick_t rfl g2 rfl) rfl ?_
      refine rl_val gw_none (ov_assign rfl) rfl ?_
      refine rl_nil ?_
      refine at_then ?_
      refine ct_ret ?_
      refine at_ret1 Try.results50 (ro_tmp rfl) (fun w1 hp => ?_)
      exact ⟨rfl, hp.ext0⟩
    ·
      exfalso; simp at g2
  ·
    exfalso; simp at g1

theorem iNumberOn_y (u : Int) (l : Int) (xs : List IntA2) (vxs : Value) (w : World) (zu : In64 u) (zl : In64 l) (hGxs : ∀ y ∈ xs, GIntA2 y) (hsxs : SR w 2 vxs xs.length (flat encIntA2 xs)) (hf : frameB u l xs = true) : Calls Try.prog 51 ([.agg (List.toArray (α := Value) [.int .i64 u, .int .i64 l, vxs])]).toArray w (fun e w' => e = .returned (.tuple #[.int .i64 (numF xs), .bool true]) ∧ Ext w w') := by
  obtain ⟨axs, capxs, rfl, hcapxs, hmaxxs⟩ := hsxs.slice
  have hlenxs := hsxs.len_le
  refine calls_ct Try.func51 Try.ntmps51 rfl rfl ?_
  refine ct_seq ?_
  refine ct_reg ?_
  refine rl_box rfl rfl (fun N1 => ?_)
  refine rl_val gw_none (ov_assign rfl) rfl ?_
  refine rl_val gw_none (ov_assign rfl) rfl ?_
  refine rl_nil ?_
  refine at_then ?_
  refine ct_seq ?_
  refine ct_seq ?_
  refine ct_reg ?_
  first | refine rl_val gw_none (ov_loadall 0 ag26 rfl rfl rfl) rfl ?_ | refine rl_val gw_none (ov_loadp 0 ag26 rfl rfl (vs := [_, _, _]) rfl rfl) rfl ?_ | refine rl_val gw_none (ov_loada 0 ag26 rfl rfl rfl (by assumption)) rfl ?_
  refine rl_callv gw_none goes113 rfl (fun w1 hp => iIsFrame_c u l xs _ _ zu zl hGxs (hsxs.ext hp.ext0)) rfl ?_
  refine rl_val gw_none (ov_not rfl) rfl ?_
  refine rl_nil ?_
  refine at_then ?_
  first | refine ct_dec rfl (fun h1 => ?_) (fun h1 => ?_) | refine ct_ndec rfl (fun h1 => ?_) (fun h1 => ?_) | refine ct_eq rfl (fun h1 => ?_) (fun h1 => ?_) | refine ct_ne rfl (fun h1 => ?_) (fun h1 => ?_) | refine ct_not rfl (fun h1 => ?_) (fun h1 => ?_) | refine ct_cond rfl (fun h1 => ?_) (fun h1 => ?_)
  ·
    rw [hf] at h1; cases h1
  ·
    refine ct_skip ?_
    refine at_then ?_
    refine ct_seq ?_
    refine ct_reg ?_
    first | refine rl_val gw_none (ov_loadall 0 ag26 rfl rfl rfl) rfl ?_ | refine rl_val gw_none (ov_loadp 0 ag26 rfl rfl (vs := [_, _, _]) rfl rfl) rfl ?_ | refine rl_val gw_none (ov_loada 0 ag26 rfl rfl rfl (by assumption)) rfl ?_
    refine rl_callv gw_none goes88 rfl (fun w1 hp => number_c u l xs _ _ zu zl hGxs (hsxs.ext hp.ext0) hf) rfl ?_
    refine rl_val gw_none (ov_assign rfl) rfl ?_
    refine rl_val gw_none (ov_assign rfl) rfl ?_
    refine rl_nil ?_
    refine at_then ?_
    refine ct_ret ?_
    refine at_ret2 Try.results51 (ro_tmp rfl) (ro_tmp rfl) (fun w1 hp => ?_)
    exact ⟨rfl, hp.ext0⟩

theorem vBig_c (a : Option Addr) (lc capc : Nat) (w : World) (hl : lc ≤ 9223372036854775807) : Calls Try.prog 46 ([.slice a lc capc]).toArray w (fun e w' => e = .returned (.bool (decide ((lc : Int) > 65536))) ∧ Ext w w') := by
  refine calls_ct Try.func46 Try.ntmps46 rfl rfl ?_
  refine ct_seq ?_
  refine ct_reg ?_
  refine rl_val gw_none (ov_assign rfl) rfl ?_
  refine rl_nil ?_
  refine at_then ?_
  refine ct_seq ?_
  refine ct_reg ?_
  refine rl_val gw_none (ov_move rfl) rfl ?_
  refine rl_val gw_none (ov_len Try.underlying56 rfl) rfl ?_
  refine rl_val gw_none (ov_gtr rfl rfl) rfl ?_
  refine rl_val gw_none (ov_assign rfl) rfl ?_
  refine rl_nil ?_
  refine at_then ?_
  refine ct_ret ?_
  refine at_ret1 Try.results46 (ro_tmp rfl) (fun w1 hp => ?_)
  exact ⟨rfl, hp.ext0⟩

theorem how_y (u l : Int) (xs : List IntA2) (n : Int) (vxs : Value) (w : World) (zu : In64 u) (zl : In64 l) (hGxs : ∀ y ∈ xs, GIntA2 y) (hsxs : SR w 2 vxs xs.length (flat encIntA2 xs)) (zn : In64 n) (hg : goodB u l xs = true) (h1 : 1 ≤ n) (h2 : numF xs / n ≤ 100000) :
    Calls Try.prog 66 [.agg (List.toArray (α := Value) [.int .i64 u, .int .i64 l, vxs]), .int .i64 n].toArray w (fun e w' => e = .returned (.tuple #[.int .i64 (numF xs / n), .bool true]) ∧ Ext w w') := by
  have h := iHowOften_c u l xs n vxs w zu zl hGxs hsxs zn
  rw [howR_yes hg h1 h2] at h
  exact h
end Go.Proofs.Ytnnhkpecgchgiaa
