import Derived.Test.YtgnnlgmeagipjaaTq
import Derived.KernelRfl
set_option linter.unusedVariables false
set_option linter.unusedSimpArgs false
namespace Go.Proofs.Ytgnnlgmeagipjaa
open Go Go.RowKit K
theorem iRoadsText_c (xs : List Road) (vxs : Value) (w : World) (hGxs : ∀ y ∈ xs, GRoad y) (hsxs : SR w 3 vxs xs.length (flat encRoad xs)) : Calls Try.prog 38 ([vxs]).toArray w (fun e w' => e = .returned (.tuple #[.string (bs (rtR xs)), .bool (roadsB xs)]) ∧ Ext w w') := by
  obtain ⟨axs, capxs, rfl, hcapxs, hmaxxs⟩ := hsxs.slice
  have hlenxs := hsxs.len_le
  refine calls_ct Try.func38 Try.ntmps38 rfl rfl ?_
  refine ct_seq ?_
  refine ct_reg ?_
  refine rl_val gw_none (ov_assign rfl) rfl ?_
  refine rl_val gw_none (ov_assign rfl) rfl ?_
  refine rl_nil ?_
  refine at_then ?_
  refine ct_seq ?_
  refine ct_seq ?_
  refine ct_reg ?_
  refine rl_val gw_none (ov_move rfl) rfl ?_
  refine rl_callv gw_none goes37 rfl (fun w1 hp => iAreRoads_c xs _ _ (hsxs.ext hp.ext0)) rfl ?_
  refine rl_val gw_none (ov_not rfl) rfl ?_
  refine rl_nil ?_
  refine at_then ?_
  first | refine ct_dec rfl (fun h1 => ?_) (fun h1 => ?_) | refine ct_ndec rfl (fun h1 => ?_) (fun h1 => ?_) | refine ct_eq rfl (fun h1 => ?_) (fun h1 => ?_) | refine ct_ne rfl (fun h1 => ?_) (fun h1 => ?_) | refine ct_not rfl (fun h1 => ?_) (fun h1 => ?_) | refine ct_cond rfl (fun h1 => ?_) (fun h1 => ?_)
  ·
    refine ct_seq ?_
    refine ct_reg ?_
    refine rl_val gw_none (ov_assign rfl) rfl ?_
    refine rl_val gw_none (ov_assign rfl) rfl ?_
    refine rl_nil ?_
    refine at_then ?_
    refine ct_ret ?_
    refine at_then_ret ?_
    refine at_ret2 Try.results38 (ro_tmp rfl) (ro_tmp rfl) (fun w1 hp => ?_)
    refine ⟨?_, hp.ext0⟩
    first | (rw [rtR_no (show roadsB xs = false by simpa [roadsB] using h1), show roadsB xs = false by simpa [roadsB] using h1]; first | done | rfl) | (rw [rtR_yes hrB, hrB]; simp [roadTs]; done)
  ·
    have hrB : roadsB xs = true := by simpa [roadsB] using h1
    have hR := roads_ok hrB
    have hok := hR.1
    have hwl := ways_len (-1) xs
    have hx20 : xs.length ≤ 20 := listB_len hrB
    have htl := roadTs_len hok
    refine ct_skip ?_
    refine at_then ?_
    refine ct_seq ?_
    refine ct_reg ?_
    refine rl_val gw_none (ov_assign rfl) rfl ?_
    refine rl_nil ?_
    refine at_then ?_
    refine ct_seq ?_
    refine ct_seq ?_
    refine ct_reg ?_
    refine rl_val gw_none (ov_move rfl) rfl ?_
    refine rl_val gw_none (ov_len Try.underlying28 rfl) rfl ?_
    refine rl_val gw_none (ov_move rfl) rfl ?_
    refine rl_nil ?_
    refine at_then ?_
    refine ct_block ?_
    refine ct_loopR (ι := Nat × Option Nat × Nat × List Value) (fun p0 => [(4, sv p0.2.1 ((roadTs xs).take p0.1).length p0.2.2.1), (12, .int .i64 p0.1)]) [(2, _), (3, _), (10, _), (11, _)] (fun p0 => (p0.2.1, 9, strs ((roadTs xs).take p0.1) ++ p0.2.2.2) :: _) (fun p0 => p0.1 ≤ xs.length ∧ Sl 1 p0.2.1 ((roadTs xs).take p0.1).length p0.2.2.1 (strs ((roadTs xs).take p0.1)) p0.2.2.2) (fun p0 => xs.length - p0.1) ((0, none, 0, [])) (Sub.cons rfl (Sub.cons rfl (Sub.cons rfl (Sub.cons rfl Sub.nil)))) (fun _ hq => hq.nil 9) (by (repeat' (first | exact Sub.nil | refine Sub.cons ?_ ?_)); all_goals (first | rfl | exact lkInt rfl (by omega))) ⟨Nat.zero_le _, Sl.nil0 _⟩ (fun p0 hp0 => ?_)
    obtain ⟨k, bo, cap, pad⟩ := p0
    obtain ⟨hk, hsl⟩ := hp0
    dsimp only at hk hsl
    try dsimp only
    have htk : ((roadTs xs).take k).length ≤ 20 := by simp [roadTs]; omega
    refine ct_seq ?_
    refine ct_reg ?_
    refine rl_val gw_none (ov_lss rfl rfl) rfl ?_
    refine rl_nil ?_
    refine at_then ?_
    refine ct_seq ?_
    first | refine ct_dec rfl (fun h2 => ?_) (fun h2 => ?_) | refine ct_ndec rfl (fun h2 => ?_) (fun h2 => ?_) | refine ct_eq rfl (fun h2 => ?_) (fun h2 => ?_) | refine ct_ne rfl (fun h2 => ?_) (fun h2 => ?_) | refine ct_not rfl (fun h2 => ?_) (fun h2 => ?_) | refine ct_cond rfl (fun h2 => ?_) (fun h2 => ?_)
    ·
      have hk2 : k < xs.length := by omega
      obtain ⟨b, o, rfl, hel⟩ := hsxs.elem encRoad_len (by omega) hk2
      have hx := getLt hk2
      have hrb := hok _ (List.mem_of_getElem? hx)
      generalize xs[k] = r at *
      have hcx := hel k r hx
      have hrl := road_lt hrb
      obtain ⟨ra0, ra1, ra2, ra3, ra4, ra5, ra6⟩ := hrl
      have hn1 := numL_len (n := r.a.toNat) (by omega)
      have hn2 := numL_len (n := r.b.toNat) (by omega)
      have hn3 := numL_len (n := r.days.toNat) (by omega)
      obtain ⟨c0, c1, c2, _⟩ := hel k r hx
      refine ct_skip ?_
      refine at_then ?_
      refine ct_seq ?_
      refine ct_block ?_
      refine ct_seq ?_
      refine ct_reg ?_
      refine rl_val gw_none (ov_ix Try.underlying28 sz65 rfl rfl _ rfl (by omega)) rfl ?_
      first | refine rl_val gw_none (ov_loadaw ag65 rfl rfl (by assumption)) rfl ?_ | refine rl_val gw_none (ov_loadall 0 ag65 rfl rfl rfl) rfl ?_ | refine rl_val gw_none (ov_loadall 1 ag65 rfl rfl rfl) rfl ?_ | refine rl_val gw_none (ov_loadall 2 ag65 rfl rfl rfl) rfl ?_ | refine rl_val gw_none (ov_loadall 3 ag65 rfl rfl rfl) rfl ?_
      refine rl_alloc ze65 rfl (fun N1 => ?_)
      refine rl_store [] sz65 rfl rfl rfl rfl rfl (Nat.le_of_ble_eq_true rfl) ?_
      refine rl_nil ?_
      refine at_then ?_
      refine ct_fl 16 [0, 1, 2, 3, 4, 5, 6, 7, 8, 9, 10, 11, 12, 13, 14, 15, 16, 17] ⟨15, [], [], [15], [2, 3, 6, 7, 11, 12], []⟩ (fun q => if q = 15 then (⟨9, [Value.string (bs (roadT r))], fun N => sv (some N) 1 1⟩ : Soft) else ⟨0, [], fun _ => undef⟩) (by kernel_rfl) (by kernel_rfl) ?_
      refine qf_step rfl ?_
      refine qg_val rfl gw_none (fun _ => (ov_move rfl)) rfl ?_
      refine qf_step rfl ?_
      refine qg_val rfl gw_none (fun _ => (ov_field fo65_0 rfl)) rfl ?_
      refine qf_step rfl ?_
      first | refine qg_valm rfl rfl gw_none (ov_load 0 sc3 rfl rfl rfl) rfl ?_ | refine qg_valm rfl rfl gw_none (ov_load 0 sc3 rfl rfl (by assumption)) rfl ?_
      refine qf_step rfl ?_
      refine qg_callv rfl rfl gw_none goes67 rfl (fun w1 hp => text_c r.a.toNat _ _ (by omega) (by omega)) rfl ?_
      refine qf_step rfl ?_
      refine qg_val rfl gw_none (fun _ => (ov_sadd rfl rfl (by first | omega | (simp; omega)))) rfl ?_
      refine qf_step rfl ?_
      refine qg_val rfl gw_none (fun _ => (ov_field fo65_1 rfl)) rfl ?_
      refine qf_step rfl ?_
      first | refine qg_valm rfl rfl gw_none (ov_load 0 sc3 rfl rfl rfl) rfl ?_ | refine qg_valm rfl rfl gw_none (ov_load 0 sc3 rfl rfl (by assumption)) rfl ?_
      refine qf_step rfl ?_
      refine qg_callv rfl rfl gw_none goes67 rfl (fun w1 hp => text_c r.b.toNat _ _ (by omega) (by omega)) rfl ?_
      refine qf_step rfl ?_
      refine qg_val rfl gw_none (fun _ => (ov_sadd rfl rfl (by first | omega | (simp; omega)))) rfl ?_
      refine qf_step rfl ?_
      refine qg_val rfl gw_none (fun _ => (ov_sadd rfl rfl (by first | omega | (simp; omega)))) rfl ?_
      refine qf_step rfl ?_
      refine qg_val rfl gw_none (fun _ => (ov_field fo65_2 rfl)) rfl ?_
      refine qf_step rfl ?_
      first | refine qg_valm rfl rfl gw_none (ov_load 0 sc3 rfl rfl rfl) rfl ?_ | refine qg_valm rfl rfl gw_none (ov_load 0 sc3 rfl rfl (by assumption)) rfl ?_
      refine qf_step rfl ?_
      refine qg_callv rfl rfl gw_none goes67 rfl (fun w1 hp => text_c r.days.toNat _ _ (by omega) (by omega)) rfl ?_
      refine qf_step rfl ?_
      refine qg_val rfl gw_none (fun _ => (ov_sadd rfl rfl (by first | omega | (simp; omega)))) rfl ?_
      refine qf_step rfl ?_
      refine qg_val rfl gw_none (fun _ => (ov_sadd rfl rfl (by first | omega | (simp; omega)))) rfl ?_
      refine qf_mark ⟨⟨0, rfl, soft_bslice rfl rfl Try.underlying91 ze9 sz9 rfl rfl rfl rfl rfl rfl rfl⟩, True.intro⟩ ?_
      refine qg_soft rfl rfl rfl (fun N2 => ?_)
      refine qf_nil ?_
      refine rl_appT (strs) (strs_append) [_, _] (acc := (roadTs xs).take k) Try.underlying91 ze9 sz9 rfl rfl by9 rfl rfl rfl hsl ([roadT r]) rfl (fun w1 hp => hp.sr1 0 rfl rfl (by decide)) (strs_one _) (by unfold maxLen; omega) (by omega) rfl (fun boq1 capq1 padq1 hsq1 => ?_)
      refine rl_val gw_none (ov_assign rfl) rfl ?_
      refine rl_nil ?_
      refine at_block ?_
      refine at_then ?_
      refine ct_reg ?_
      refine rl_val gw_none (ov_add rfl rfl (by omega)) rfl ?_
      refine rl_val gw_none (ov_move rfl) rfl ?_
      refine rl_nil ?_
      have hts := roadTs_take hx
      exact at_backR (k + 1, boq1, capq1, padq1) ⟨hk2, by dsimp only; rw [hts]; exact hsq1⟩ (by dsimp only; omega) (by dsimp only; rw [hts]; (repeat' (first | exact Sub.nil | refine Sub.cons ?_ ?_)); all_goals (first | rfl | exact lkInt rfl (by omega))) (Sub.cons rfl (Sub.cons rfl (Sub.cons rfl (Sub.cons rfl Sub.nil)))) (fun _ hq => (hq.drop.drop).cong (by dsimp only; rw [hts]; try rfl))
    ·
      have hke : k = xs.length := by omega
      subst hke
      refine ct_exit ?_
      refine at_then_exit ?_
      refine at_then_exit ?_
      refine at_block_hit ?_
      refine at_then ?_
      refine ct_seq ?_
      refine ct_reg ?_
      refine rl_val gw_none (ov_move rfl) rfl ?_
      refine rl_callv gw_none goes68 rfl (fun w1 hp => join_c (roadTs xs) [59, 32] _ _ (by decide) htl (by simp [roadTs]; omega) (SR.cast (hp.slsr 0 rfl hsl) (by simp [roadTs]) (by rw [List.take_of_length_le (by simp [roadTs])]))) rfl ?_
      refine rl_val gw_none (ov_assign rfl) rfl ?_
      refine rl_val gw_none (ov_assign rfl) rfl ?_
      refine rl_nil ?_
      refine at_then ?_
      refine ct_ret ?_
      refine at_ret2 Try.results38 (ro_tmp rfl) (ro_tmp rfl) (fun w1 hp => ?_)
      refine ⟨?_, hp.ext0⟩
      first | (rw [rtR_no (show roadsB xs = false by simpa [roadsB] using h1), show roadsB xs = false by simpa [roadsB] using h1]; first | done | rfl) | (rw [rtR_yes hrB, hrB]; simp [roadTs]; done)
end Go.Proofs.Ytgnnlgmeagipjaa
