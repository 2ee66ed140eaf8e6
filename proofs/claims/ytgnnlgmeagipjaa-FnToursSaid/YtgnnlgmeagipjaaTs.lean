import Derived.Test.YtgnnlgmeagipjaaTq
import Derived.KernelRfl
set_option linter.unusedVariables false
set_option linter.unusedSimpArgs false
namespace Go.Proofs.Ytgnnlgmeagipjaa
open Go Go.RowKit K
theorem sRoadsText_c (xs : List Road) (vxs : Value) (w : World) (hGxs : ∀ y ∈ xs, GRoad y) (hsxs : SR w 3 vxs xs.length (flat encRoad xs)) : Calls Try.prog 39 ([vxs]).toArray w (fun e w' => e = .returned (.tuple #[.string (bs (rtR xs)), .bool (roadsB xs)]) ∧ Ext w w') := by
  obtain ⟨axs, capxs, rfl, hcapxs, hmaxxs⟩ := hsxs.slice
  have hlenxs := hsxs.len_le
  refine calls_ct Try.func39 Try.ntmps39 rfl rfl ?_
  refine ct_seq ?_
  refine ct_reg ?_
  refine rl_val gw_none (ov_assign rfl) rfl ?_
  refine rl_val gw_none (ov_assign rfl) rfl ?_
  refine rl_nil ?_
  refine at_then ?_
  refine ct_seq ?_
  refine ct_seq ?_
  refine ct_reg ?_
  refine rl_val gw_none (ov_move rfl) rfl ?_
  refine rl_callv gw_none goes40 rfl (fun w1 hp => l24Roads_c xs _ _ (hsxs.ext hp.ext0)) rfl ?_
  refine rl_val gw_none (ov_not rfl) rfl ?_
  refine rl_nil ?_
  refine at_then ?_
  first | refine ct_dec rfl (fun h1 => ?_) (fun h1 => ?_) | refine ct_ndec rfl (fun h1 => ?_) (fun h1 => ?_) | refine ct_eq rfl (fun h1 => ?_) (fun h1 => ?_) | refine ct_ne rfl (fun h1 => ?_) (fun h1 => ?_) | refine ct_not rfl (fun h1 => ?_) (fun h1 => ?_) | refine ct_cond rfl (fun h1 => ?_) (fun h1 => ?_)
  ·
    refine ct_seq ?_
    refine ct_reg ?_
    refine rl_val gw_none (ov_assign rfl) rfl ?_
    refine rl_val gw_none (ov_assign rfl) rfl ?_
    refine rl_nil ?_
    refine at_then ?_
    refine ct_ret ?_
    refine at_then_ret ?_
    refine at_ret2 Try.results39 (ro_tmp rfl) (ro_tmp rfl) (fun w1 hp => ?_)
    refine ⟨?_, hp.ext0⟩
    first | (rw [rtR_no (show roadsB xs = false by simpa [roadsB] using h1), show roadsB xs = false by simpa [roadsB] using h1]; first | done | rfl) | (rw [rtR_yes hrB, hrB]; done)
  ·
    have hrB : roadsB xs = true := by simpa [roadsB] using h1
    have hR := roads_ok hrB
    have hok := hR.1
    have hwl := ways_len (-1) xs
    have hx20 : xs.length ≤ 20 := listB_len hrB
    have htl := roadTs_len hok
    refine ct_skip ?_
    refine at_then ?_
    refine ct_seq ?_
    refine ct_reg ?_
    refine rl_val gw_none (ov_assign rfl) rfl ?_
    refine rl_nil ?_
    refine at_then ?_
    refine ct_seq ?_
    refine ct_seq ?_
    refine ct_reg ?_
    refine rl_val gw_none (ov_assign rfl) rfl ?_
    refine rl_nil ?_
    refine at_then ?_
    refine ct_block ?_
    refine ct_loopR (ι := Nat) (fun k => [(4, .string (bs (joinT [59, 32] (roadTs xs) k))), (5, .int .i64 k)]) [(0, _), (2, _), (3, _)] (fun _ => _) (fun k => k ≤ xs.length) (fun k => xs.length - k) (0) (Sub.cons rfl (Sub.cons rfl (Sub.cons rfl Sub.nil))) (fun _ hq => hq) (by (repeat' (first | exact Sub.nil | refine Sub.cons ?_ ?_)); all_goals (first | rfl | exact lkInt rfl (by omega))) (by first | exact True.intro | omega | (dsimp only; omega) | (dsimp only at *; omega)) (fun k hk => ?_)
    have hjl := joinT_len (sep := [59, 32]) (B := 0) (by decide) htl k
    refine ct_seq ?_
    refine ct_seq ?_
    refine ct_reg ?_
    refine rl_val gw_none (ov_move rfl) rfl ?_
    refine rl_val gw_none (ov_move rfl) rfl ?_
    refine rl_val gw_none (ov_len Try.underlying28 rfl) rfl ?_
    refine rl_val gw_none (ov_lss rfl rfl) rfl ?_
    refine rl_nil ?_
    refine at_then ?_
    first | refine ct_dec rfl (fun h2 => ?_) (fun h2 => ?_) | refine ct_ndec rfl (fun h2 => ?_) (fun h2 => ?_) | refine ct_eq rfl (fun h2 => ?_) (fun h2 => ?_) | refine ct_ne rfl (fun h2 => ?_) (fun h2 => ?_) | refine ct_not rfl (fun h2 => ?_) (fun h2 => ?_) | refine ct_cond rfl (fun h2 => ?_) (fun h2 => ?_)
    ·
      have hk2 : k < xs.length := by omega
      obtain ⟨b, o, rfl, hel⟩ := hsxs.elem encRoad_len (by omega) hk2
      have hx := getLt hk2
      have hrb := hok _ (List.mem_of_getElem? hx)
      generalize xs[k] = r at *
      have hcx := hel k r hx
      have hrl := road_lt hrb
      obtain ⟨ra0, ra1, ra2, ra3, ra4, ra5, ra6⟩ := hrl
      have hn1 := numL_len (n := r.a.toNat) (by omega)
      have hn2 := numL_len (n := r.b.toNat) (by omega)
      have hn3 := numL_len (n := r.days.toNat) (by omega)
      obtain ⟨c0, c1, c2, _⟩ := hel k r hx
      refine ct_skip ?_
      refine at_then ?_
      refine ct_seq ?_
      refine ct_block ?_
      refine ct_seq ?_
      refine ct_seq ?_
      refine ct_reg ?_
      refine rl_val gw_none (ov_move rfl) rfl ?_
      refine rl_val gw_none (ov_gtr rfl rfl) rfl ?_
      refine rl_nil ?_
      refine at_then ?_
      first | refine ct_dec rfl (fun h3 => ?_) (fun h3 => ?_) | refine ct_ndec rfl (fun h3 => ?_) (fun h3 => ?_) | refine ct_eq rfl (fun h3 => ?_) (fun h3 => ?_) | refine ct_ne rfl (fun h3 => ?_) (fun h3 => ?_) | refine ct_not rfl (fun h3 => ?_) (fun h3 => ?_) | refine ct_cond rfl (fun h3 => ?_) (fun h3 => ?_)
      ·
        refine ct_reg ?_
        refine rl_val gw_none (ov_move rfl) rfl ?_
        refine rl_val gw_none (ov_sadd rfl rfl (by first | omega | (simp; omega))) rfl ?_
        refine rl_val gw_none (ov_assign rfl) rfl ?_
        refine rl_nil ?_
        refine at_then ?_
        refine ct_dr 26 (by kernel_rfl) (by kernel_rfl) ?_
        refine ql_val gw_none (ov_move rfl) rfl ?_
        refine ql_val gw_none (ov_move rfl) rfl ?_
        refine ql_val gw_none (ov_move rfl) rfl ?_
        refine ql_val gw_none (ov_ix Try.underlying28 sz65 rfl rfl _ rfl (by omega)) rfl ?_
        refine ql_val gw_none (ov_field fo65_0 rfl) rfl ?_
        first | refine ql_val gw_none (ov_load 0 sc3 rfl rfl rfl) rfl ?_ | refine ql_val gw_none (ov_load 1 sc3 rfl rfl rfl) rfl ?_ | refine ql_val gw_none (ov_load 2 sc3 rfl rfl rfl) rfl ?_ | refine ql_val gw_none (ov_load 3 sc3 rfl rfl rfl) rfl ?_ | refine ql_val gw_none (ov_loadw sc3 rfl (by assumption)) rfl ?_ | refine ql_val gw_none (ov_load 0 sc3 rfl rfl (by assumption)) rfl ?_ | refine ql_val gw_none (ov_load 1 sc3 rfl rfl (by assumption)) rfl ?_ | refine ql_val gw_none (ov_load 2 sc3 rfl rfl (by assumption)) rfl ?_ | refine ql_val gw_none (ov_load 3 sc3 rfl rfl (by assumption)) rfl ?_
        refine ql_callv gw_none goes69 rfl (fun w1 hp => l1Num_c r.a.toNat _ _ (by omega) (by omega)) rfl ?_
        refine ql_val gw_none (ov_sadd rfl rfl (by first | omega | (simp; omega))) rfl ?_
        refine ql_val gw_none (ov_sadd rfl rfl (by first | omega | (simp; omega))) rfl ?_
        refine ql_val gw_none (ov_move rfl) rfl ?_
        refine ql_val gw_none (ov_move rfl) rfl ?_
        refine ql_val gw_none (ov_ix Try.underlying28 sz65 rfl rfl _ rfl (by omega)) rfl ?_
        refine ql_val gw_none (ov_field fo65_1 rfl) rfl ?_
        first | refine ql_val gw_none (ov_load 0 sc3 rfl rfl rfl) rfl ?_ | refine ql_val gw_none (ov_load 1 sc3 rfl rfl rfl) rfl ?_ | refine ql_val gw_none (ov_load 2 sc3 rfl rfl rfl) rfl ?_ | refine ql_val gw_none (ov_load 3 sc3 rfl rfl rfl) rfl ?_ | refine ql_val gw_none (ov_loadw sc3 rfl (by assumption)) rfl ?_ | refine ql_val gw_none (ov_load 0 sc3 rfl rfl (by assumption)) rfl ?_ | refine ql_val gw_none (ov_load 1 sc3 rfl rfl (by assumption)) rfl ?_ | refine ql_val gw_none (ov_load 2 sc3 rfl rfl (by assumption)) rfl ?_ | refine ql_val gw_none (ov_load 3 sc3 rfl rfl (by assumption)) rfl ?_
        refine ql_callv gw_none goes69 rfl (fun w1 hp => l1Num_c r.b.toNat _ _ (by omega) (by omega)) rfl ?_
        refine ql_val gw_none (ov_sadd rfl rfl (by first | omega | (simp; omega))) rfl ?_
        refine ql_val gw_none (ov_sadd rfl rfl (by first | omega | (simp; omega))) rfl ?_
        refine ql_val gw_none (ov_move rfl) rfl ?_
        refine ql_val gw_none (ov_move rfl) rfl ?_
        refine ql_val gw_none (ov_ix Try.underlying28 sz65 rfl rfl _ rfl (by omega)) rfl ?_
        refine ql_val gw_none (ov_field fo65_2 rfl) rfl ?_
        first | refine ql_val gw_none (ov_load 0 sc3 rfl rfl rfl) rfl ?_ | refine ql_val gw_none (ov_load 1 sc3 rfl rfl rfl) rfl ?_ | refine ql_val gw_none (ov_load 2 sc3 rfl rfl rfl) rfl ?_ | refine ql_val gw_none (ov_load 3 sc3 rfl rfl rfl) rfl ?_ | refine ql_val gw_none (ov_loadw sc3 rfl (by assumption)) rfl ?_ | refine ql_val gw_none (ov_load 0 sc3 rfl rfl (by assumption)) rfl ?_ | refine ql_val gw_none (ov_load 1 sc3 rfl rfl (by assumption)) rfl ?_ | refine ql_val gw_none (ov_load 2 sc3 rfl rfl (by assumption)) rfl ?_ | refine ql_val gw_none (ov_load 3 sc3 rfl rfl (by assumption)) rfl ?_
        refine ql_callv gw_none goes69 rfl (fun w1 hp => l1Num_c r.days.toNat _ _ (by omega) (by omega)) rfl ?_
        refine ql_val gw_none (ov_sadd rfl rfl (by first | omega | (simp; omega))) rfl ?_
        refine ql_val gw_none (ov_sadd rfl rfl (by first | omega | (simp; omega))) rfl ?_
        refine ql_val gw_none (ov_assign rfl) rfl ?_
        refine ql_nil ?_
        refine rl_nil ?_
        refine at_block ?_
        refine at_then ?_
        refine ct_reg ?_
        refine rl_val gw_none (ov_move rfl) rfl ?_
        refine rl_val gw_none (ov_add rfl rfl (by omega)) rfl ?_
        refine rl_val gw_none (ov_assign rfl) rfl ?_
        refine rl_nil ?_
        exact at_backR (k + 1) (by first | exact True.intro | omega | (dsimp only; omega) | (dsimp only at *; omega)) (by first | exact True.intro | omega | (dsimp only; omega) | (dsimp only at *; omega)) (by first | (rw [joinT_big (roadTs_at hx) (by omega)]; (repeat' (first | exact Sub.nil | refine Sub.cons ?_ ?_)); all_goals (first | rfl | exact lkInt rfl (by omega) | (unfold roadT; simp only [← List.append_assoc]; rfl)); done) | (rw [joinT_0 (roadTs_at hx) (by omega)]; (repeat' (first | exact Sub.nil | refine Sub.cons ?_ ?_)); all_goals (first | rfl | exact lkInt rfl (by omega) | (unfold roadT; simp only [← List.append_assoc]; rfl)))) (Sub.cons rfl (Sub.cons rfl (Sub.cons rfl Sub.nil))) (fun _ hq => hq)
      ·
        refine ct_skip ?_
        refine at_then ?_
        refine ct_dr 26 (by kernel_rfl) (by kernel_rfl) ?_
        refine ql_val gw_none (ov_move rfl) rfl ?_
        refine ql_val gw_none (ov_move rfl) rfl ?_
        refine ql_val gw_none (ov_move rfl) rfl ?_
        refine ql_val gw_none (ov_ix Try.underlying28 sz65 rfl rfl _ rfl (by omega)) rfl ?_
        refine ql_val gw_none (ov_field fo65_0 rfl) rfl ?_
        first | refine ql_val gw_none (ov_load 0 sc3 rfl rfl rfl) rfl ?_ | refine ql_val gw_none (ov_load 1 sc3 rfl rfl rfl) rfl ?_ | refine ql_val gw_none (ov_load 2 sc3 rfl rfl rfl) rfl ?_ | refine ql_val gw_none (ov_load 3 sc3 rfl rfl rfl) rfl ?_ | refine ql_val gw_none (ov_loadw sc3 rfl (by assumption)) rfl ?_ | refine ql_val gw_none (ov_load 0 sc3 rfl rfl (by assumption)) rfl ?_ | refine ql_val gw_none (ov_load 1 sc3 rfl rfl (by assumption)) rfl ?_ | refine ql_val gw_none (ov_load 2 sc3 rfl rfl (by assumption)) rfl ?_ | refine ql_val gw_none (ov_load 3 sc3 rfl rfl (by assumption)) rfl ?_
        refine ql_callv gw_none goes69 rfl (fun w1 hp => l1Num_c r.a.toNat _ _ (by omega) (by omega)) rfl ?_
        refine ql_val gw_none (ov_sadd rfl rfl (by first | omega | (simp; omega))) rfl ?_
        refine ql_val gw_none (ov_sadd rfl rfl (by first | omega | (simp; omega))) rfl ?_
        refine ql_val gw_none (ov_move rfl) rfl ?_
        refine ql_val gw_none (ov_move rfl) rfl ?_
        refine ql_val gw_none (ov_ix Try.underlying28 sz65 rfl rfl _ rfl (by omega)) rfl ?_
        refine ql_val gw_none (ov_field fo65_1 rfl) rfl ?_
        first | refine ql_val gw_none (ov_load 0 sc3 rfl rfl rfl) rfl ?_ | refine ql_val gw_none (ov_load 1 sc3 rfl rfl rfl) rfl ?_ | refine ql_val gw_none (ov_load 2 sc3 rfl rfl rfl) rfl ?_ | refine ql_val gw_none (ov_load 3 sc3 rfl rfl rfl) rfl ?_ | refine ql_val gw_none (ov_loadw sc3 rfl (by assumption)) rfl ?_ | refine ql_val gw_none (ov_load 0 sc3 rfl rfl (by assumption)) rfl ?_ | refine ql_val gw_none (ov_load 1 sc3 rfl rfl (by assumption)) rfl ?_ | refine ql_val gw_none (ov_load 2 sc3 rfl rfl (by assumption)) rfl ?_ | refine ql_val gw_none (ov_load 3 sc3 rfl rfl (by assumption)) rfl ?_
        refine ql_callv gw_none goes69 rfl (fun w1 hp => l1Num_c r.b.toNat _ _ (by omega) (by omega)) rfl ?_
        refine ql_val gw_none (ov_sadd rfl rfl (by first | omega | (simp; omega))) rfl ?_
        refine ql_val gw_none (ov_sadd rfl rfl (by first | omega | (simp; omega))) rfl ?_
        refine ql_val gw_none (ov_move rfl) rfl ?_
        refine ql_val gw_none (ov_move rfl) rfl ?_
        refine ql_val gw_none (ov_ix Try.underlying28 sz65 rfl rfl _ rfl (by omega)) rfl ?_
        refine ql_val gw_none (ov_field fo65_2 rfl) rfl ?_
        first | refine ql_val gw_none (ov_load 0 sc3 rfl rfl rfl) rfl ?_ | refine ql_val gw_none (ov_load 1 sc3 rfl rfl rfl) rfl ?_ | refine ql_val gw_none (ov_load 2 sc3 rfl rfl rfl) rfl ?_ | refine ql_val gw_none (ov_load 3 sc3 rfl rfl rfl) rfl ?_ | refine ql_val gw_none (ov_loadw sc3 rfl (by assumption)) rfl ?_ | refine ql_val gw_none (ov_load 0 sc3 rfl rfl (by assumption)) rfl ?_ | refine ql_val gw_none (ov_load 1 sc3 rfl rfl (by assumption)) rfl ?_ | refine ql_val gw_none (ov_load 2 sc3 rfl rfl (by assumption)) rfl ?_ | refine ql_val gw_none (ov_load 3 sc3 rfl rfl (by assumption)) rfl ?_
        refine ql_callv gw_none goes69 rfl (fun w1 hp => l1Num_c r.days.toNat _ _ (by omega) (by omega)) rfl ?_
        refine ql_val gw_none (ov_sadd rfl rfl (by first | omega | (simp; omega))) rfl ?_
        refine ql_val gw_none (ov_sadd rfl rfl (by first | omega | (simp; omega))) rfl ?_
        refine ql_val gw_none (ov_assign rfl) rfl ?_
        refine ql_nil ?_
        refine rl_nil ?_
        refine at_block ?_
        refine at_then ?_
        refine ct_reg ?_
        refine rl_val gw_none (ov_move rfl) rfl ?_
        refine rl_val gw_none (ov_add rfl rfl (by omega)) rfl ?_
        refine rl_val gw_none (ov_assign rfl) rfl ?_
        refine rl_nil ?_
        exact at_backR (k + 1) (by first | exact True.intro | omega | (dsimp only; omega) | (dsimp only at *; omega)) (by first | exact True.intro | omega | (dsimp only; omega) | (dsimp only at *; omega)) (by first | (rw [joinT_big (roadTs_at hx) (by omega)]; (repeat' (first | exact Sub.nil | refine Sub.cons ?_ ?_)); all_goals (first | rfl | exact lkInt rfl (by omega) | (unfold roadT; simp only [← List.append_assoc]; rfl)); done) | (rw [joinT_0 (roadTs_at hx) (by omega)]; (repeat' (first | exact Sub.nil | refine Sub.cons ?_ ?_)); all_goals (first | rfl | exact lkInt rfl (by omega) | (unfold roadT; simp only [← List.append_assoc]; rfl)))) (Sub.cons rfl (Sub.cons rfl (Sub.cons rfl Sub.nil))) (fun _ hq => hq)
    ·
      have hke : k = xs.length := by omega
      subst hke
      refine ct_exit ?_
      refine at_then_exit ?_
      refine at_then_exit ?_
      refine at_block_hit ?_
      refine at_then ?_
      refine ct_seq ?_
      refine ct_reg ?_
      refine rl_val gw_none (ov_move rfl) rfl ?_
      refine rl_val gw_none (ov_assign rfl) rfl ?_
      refine rl_val gw_none (ov_assign rfl) rfl ?_
      refine rl_nil ?_
      refine at_then ?_
      refine ct_ret ?_
      refine at_ret2 Try.results39 (ro_tmp rfl) (ro_tmp rfl) (fun w1 hp => ?_)
      refine ⟨?_, hp.ext0⟩
      first | (rw [rtR_no (show roadsB xs = false by simpa [roadsB] using h1), show roadsB xs = false by simpa [roadsB] using h1]; first | done | rfl) | (rw [rtR_yes hrB, hrB]; done)
end Go.Proofs.Ytgnnlgmeagipjaa
