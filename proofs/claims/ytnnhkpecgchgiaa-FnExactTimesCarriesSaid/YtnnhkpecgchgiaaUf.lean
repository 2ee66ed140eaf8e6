import Derived.Test.YtnnhkpecgchgiaaUe
import Derived.KernelRfl
set_option linter.unusedVariables false
set_option linter.unusedSimpArgs false
namespace Go.Proofs.Ytnnhkpecgchgiaa
open Go Go.RowKit K
theorem l6Number_c (u : Int) (l : Int) (xs : List IntA2) (vxs : Value) (n : Int) (w : World) (zu : In64 u) (zl : In64 l) (hGxs : ∀ y ∈ xs, GIntA2 y) (hsxs : SR w 2 vxs xs.length (flat encIntA2 xs)) (zn : In64 n) (hc : addNB u l xs n = true) : Calls Try.prog 103 ([.agg (List.toArray (α := Value) [.int .i64 u, .int .i64 l, vxs]), .int .i64 n]).toArray w (fun e w' => ∃ q : (Option Nat × Nat × List Value × List BeadMove) × Nat × Nat × List Value, (Sl 3 q.1.1 q.1.2.2.2.length q.1.2.1 (flat encBeadMove q.1.2.2.2) q.1.2.2.1 ∧ q.1.2.2.2.length ≤ 200 ∧ Sl 2 (some q.2.1) ((addN xs n xs.length).1).length q.2.2.1 (flat encIntA2 ((addN xs n xs.length).1)) q.2.2.2) ∧ e = .returned (.tuple #[sv q.1.1 q.1.2.2.2.length q.1.2.1, .agg [.int .i64 u, .int .i64 l, sv (some q.2.1) ((addN xs n xs.length).1).length q.2.2.1].toArray]) ∧ Hp ⟨w, []⟩ [(q.1.1, 128, flat encBeadMove q.1.2.2.2 ++ q.1.2.2.1), (some q.2.1, 81, flat encIntA2 ((addN xs n xs.length).1) ++ q.2.2.2)] w') := by
  obtain ⟨axs, capxs, rfl, hcapxs, hmaxxs⟩ := hsxs.slice
  have hlenxs := hsxs.len_le
  obtain ⟨hg, hnn, hlt⟩ := addNB_ok hc
  have hf := goodB_f hg
  have h8 := (frameB_ul hf).2.2.2
  have hl1 := (frameB_ul hf).2.2.1
  have hnm := goodB_num hg
  refine calls_ct Try.func103 Try.ntmps103 rfl rfl ?_
  refine ct_seq ?_
  refine ct_reg ?_
  refine rl_box rfl rfl (fun N1 => ?_)
  refine rl_val gw_none (ov_assign rfl) rfl ?_
  refine rl_alloc ze26 rfl (fun N2 => ?_)
  refine rl_nil ?_
  refine at_then ?_
  refine ct_seq ?_
  refine ct_reg ?_
  refine rl_bslice Try.underlying86 ze128 sz128 rfl rfl rfl rfl rfl rfl (fun N3 => ?_)
  first | refine rl_val gw_none (ov_loadall 2 ag26 rfl rfl rfl) rfl ?_ | refine rl_val gw_none (ov_loadp 2 ag26 rfl rfl (vs := [_, _, _]) rfl rfl) rfl ?_ | refine rl_val gw_none (ov_loada 2 ag26 rfl rfl rfl (by assumption)) rfl ?_
  refine rl_callsl (ι := Nat × List Value) (fun i bo => .agg [.int .i64 u, .int .i64 l, sv bo (xs).length i.1].toArray) (fun i => flat encIntA2 (xs) ++ i.2) (fun i bo => Sl 2 bo (xs).length i.1 (flat encIntA2 (xs)) i.2) goes93 rfl (fun w1 hp => l2Own_c u l xs _ _ zu zl hGxs (hsxs.ext hp.ext0) h8) rfl (fun iow boow hsow => ?_)
  obtain ⟨bow, rfl⟩ := Sl.some hsow (by omega)
  refine rl_alloc ze26 rfl (fun N4 => ?_)
  refine rl_val gw_none (ov_assign rfl) rfl ?_
  refine rl_store [] sz26 rfl rfl rfl rfl rfl (Nat.le_of_ble_eq_true rfl) ?_
  refine rl_nil ?_
  refine at_then ?_
  refine ct_seq ?_
  refine ct_seq ?_
  refine ct_reg ?_
  refine rl_val gw_none (ov_assign rfl) rfl ?_
  refine rl_nil ?_
  refine at_then ?_
  refine ct_block ?_
  refine ct_loopR (ι := Nat × (Option Nat × Nat × List Value × List BeadMove) × Nat × Nat × List Value) (fun p0 => [(6, sv p0.2.1.1 p0.2.1.2.2.2.length p0.2.1.2.1), (8, .int .i64 p0.1)]) [(1, _), (2, _), (4, _), (5, _), (7, _)] (fun p0 => [(p0.2.1.1, 128, flat encBeadMove p0.2.1.2.2.2 ++ p0.2.1.2.2.1), (some N4, 26, [.int .i64 u, .int .i64 l, sv (some p0.2.2.1) (addN xs n p0.1).1.length p0.2.2.2.1]), (some p0.2.2.1, 81, flat encIntA2 (addN xs n p0.1).1 ++ p0.2.2.2.2), _, _]) (fun p0 => p0.1 ≤ xs.length ∧ Sl 3 p0.2.1.1 p0.2.1.2.2.2.length p0.2.1.2.1 (flat encBeadMove p0.2.1.2.2.2) p0.2.1.2.2.1 ∧ p0.2.1.2.2.2.length ≤ 20 * p0.1 ∧ Sl 2 (some p0.2.2.1) (addN xs n p0.1).1.length p0.2.2.2.1 (flat encIntA2 (addN xs n p0.1).1) p0.2.2.2.2) (fun p0 => xs.length - p0.1) ((0, (some N3, 0, [], []), bow, iow.1, iow.2)) (Sub.cons rfl (Sub.cons rfl (Sub.cons rfl (Sub.cons rfl (Sub.cons rfl Sub.nil))))) (fun _ hp => (Hp.sub (Hp.pull (Hp.pull (Hp.pull (Hp.pull (Hp.pull hp 4 rfl) 4 rfl) 3 rfl) 3 rfl) 4 rfl) (List.sublist_append_left [_, _, _, _, _] _))) (by (repeat' (first | exact Sub.nil | refine Sub.cons ?_ ?_)); all_goals (first | rfl | exact lkInt rfl (by omega))) ⟨Nat.zero_le _, Sl.lit rfl (Nat.zero_le _), Nat.zero_le _, hsow⟩ (fun p0 hp0 => ?_)
  obtain ⟨k, ⟨bm, mc, mp, ms⟩, br, rc, rp⟩ := p0
  obtain ⟨hk, hsm2, hml, hsr2⟩ := hp0
  dsimp only at hk hsm2 hml hsr2 ⊢
  have hgk := addN_good hg hnn.1 hlt k hk
  refine ct_seq ?_
  refine ct_seq ?_
  refine ct_reg ?_
  refine rl_val gw_none (ov_move rfl) rfl ?_
  refine rl_val gw_none (ov_field fo26_2 rfl) rfl ?_
  first | refine rl_val gw_none (ov_load 4 sc22 rfl rfl rfl) rfl ?_ | refine rl_val gw_none (ov_load 4 sc22 rfl rfl (by assumption)) rfl ?_
  refine rl_val gw_none (ov_len Try.underlying22 rfl) rfl ?_
  refine rl_val gw_none (ov_lss rfl rfl) rfl ?_
  refine rl_nil ?_
  refine at_then ?_
  first | refine ct_dec rfl (fun h1 => ?_) (fun h1 => ?_) | refine ct_ndec rfl (fun h1 => ?_) (fun h1 => ?_) | refine ct_eq rfl (fun h1 => ?_) (fun h1 => ?_) | refine ct_ne rfl (fun h1 => ?_) (fun h1 => ?_) | refine ct_not rfl (fun h1 => ?_) (fun h1 => ?_) | refine ct_cond rfl (fun h1 => ?_) (fun h1 => ?_)
  ·
    have hk2 : k < xs.length := by omega
    have hCk := addN_C hg hnn.1 hlt hk2
    have hTb := (addS_good hgk.1 hCk).2.2.2
    refine ct_skip ?_
    refine at_then ?_
    refine ct_seq ?_
    refine ct_block ?_
    refine ct_seq ?_
    refine ct_fl 12 [0, 1, 2, 3, 4, 5, 6, 7, 8, 9, 10, 11, 12] ⟨6, [6], [], [10], [0, 2, 5], []⟩ (fun q => if q = 10 then (⟨26, [.int .i64 0, .int .i64 0, .slice none 0 0], fun N => .pointer (some ⟨N, 0, none⟩)⟩ : Soft) else ⟨0, [], fun _ => undef⟩) (by kernel_rfl) (by kernel_rfl) ?_
    refine qf_step rfl ?_
    first | refine qg_valm rfl rfl gw_none (ov_loadall 1 ag26 rfl rfl rfl) rfl ?_ | refine qg_valm rfl rfl gw_none (ov_loadp 1 ag26 rfl rfl (vs := [_, _, _]) rfl rfl) rfl ?_ | refine qg_valm rfl rfl gw_none (ov_loada 1 ag26 rfl rfl rfl (by assumption)) rfl ?_
    refine qf_step rfl ?_
    refine qg_val rfl gw_none (fun _ => (ov_move rfl)) rfl ?_
    refine qf_step rfl ?_
    first | refine qg_valm rfl rfl gw_none (ov_loadall 4 ag26 rfl rfl rfl) rfl ?_ | refine qg_valm rfl rfl gw_none (ov_loadp 4 ag26 rfl rfl (vs := [_, _, _]) rfl rfl) rfl ?_ | refine qg_valm rfl rfl gw_none (ov_loada 4 ag26 rfl rfl rfl (by assumption)) rfl ?_
    refine qf_step rfl ?_
    refine qg_val rfl gw_none (fun _ => (ov_move rfl)) rfl ?_
    refine qf_step rfl ?_
    refine qg_val rfl gw_none (fun _ => (ov_move rfl)) rfl ?_
    refine qf_step rfl ?_
    refine qg_callv rfl rfl gw_none goes94 rfl (fun w1 hp => l6At_c u l xs _ n k _ _ zu zl hGxs (hsxs.ext hp.ext0) rfl hk2 h8 (by omega)) rfl ?_
    refine qf_mark ⟨⟨4, rfl, soft_alloc rfl rfl ze26⟩, True.intro⟩ ?_
    refine qg_calle (ι := (Option Nat × Nat × List Value × List BeadMove) × Nat × Nat × List Value) (fun q => .tuple #[sv q.1.1 q.1.2.2.2.length q.1.2.1, .agg [.int .i64 u, .int .i64 l, sv (some q.2.1) ((addS (k + 1) (addN xs n k).1 (dg n xs.length k)).1).length q.2.2.1].toArray]) (fun q => [(q.1.1, 128, flat encBeadMove q.1.2.2.2 ++ q.1.2.2.1), (some q.2.1, 81, flat encIntA2 ((addS (k + 1) (addN xs n k).1 (dg n xs.length k)).1) ++ q.2.2.2)]) (fun q => Sl 3 q.1.1 q.1.2.2.2.length q.1.2.1 (flat encBeadMove q.1.2.2.2) q.1.2.2.1 ∧ q.1.2.2.2.length ≤ 2 * (k + 1) + 2 ∧ Sl 2 (some q.2.1) ((addS (k + 1) (addN xs n k).1 (dg n xs.length k)).1).length q.2.2.1 (flat encIntA2 ((addS (k + 1) (addN xs n k).1 (dg n xs.length k)).1)) q.2.2.2) rfl rfl rfl goes95 rfl (fun w1 hp => l6Digit_c u l _ _ k _ _ _ zu zl (frameB_G (goodB_f hgk.1)) (hp.slsr 2 rfl hsr2) rfl hgk.1 hCk) rfl (fun qd hqd => ?_)
    refine qf_step rfl ?_
    refine qg_val rfl gw_none (fun _ => (ov_move rfl)) rfl ?_
    refine qf_step rfl ?_
    refine qg_val rfl gw_none (fun _ => (ov_extract rfl rfl)) rfl ?_
    refine qf_step rfl ?_
    refine qg_val rfl gw_none (fun _ => (ov_extract rfl rfl)) rfl ?_
    refine qf_step rfl ?_
    refine qg_soft rfl rfl rfl (fun N5 => ?_)
    refine qf_step rfl ?_
    refine qg_val rfl gw_none (fun _ => (ov_assign rfl)) rfl ?_
    refine qf_nil ?_
    refine rl_store [] sz26 rfl rfl rfl rfl rfl (Nat.le_of_ble_eq_true rfl) ?_
    refine rl_nil ?_
    refine at_then ?_
    refine ct_seq ?_
    refine ct_reg ?_
    refine rl_val gw_none (ov_move rfl) rfl ?_
    refine rl_val gw_none (ov_move rfl) rfl ?_
    refine rl_appT (flat encBeadMove) ((flat_append _)) [_, _, _] (acc := ms) Try.underlying86 ze128 sz128 rfl rfl by128 rfl rfl rfl hsm2 (qd.1.2.2.2) rfl (fun w1 hp => hp.slsr 1 rfl hqd.1) (flat_one encBeadMove_one _) (by unfold maxLen; first | omega | (simp; done) | (simp; omega)) (by first | omega | (simp; done) | (simp; omega)) rfl (fun boq1 capq1 padq1 hsq1 => ?_)
    refine rl_val gw_none (ov_assign rfl) rfl ?_
    refine rl_nil ?_
    refine at_then ?_
    refine ct_reg ?_
    first | refine rl_val gw_none (ov_loadall 0 ag26 rfl rfl rfl) rfl ?_ | refine rl_val gw_none (ov_loadp 0 ag26 rfl rfl (vs := [_, _, _]) rfl rfl) rfl ?_ | refine rl_val gw_none (ov_loada 0 ag26 rfl rfl rfl (by assumption)) rfl ?_
    refine rl_store [_, _, _, _] sz26 rfl rfl rfl rfl rfl (Nat.le_of_ble_eq_true rfl) ?_
    refine rl_nil ?_
    refine at_block ?_
    refine at_then ?_
    refine ct_reg ?_
    refine rl_val gw_none (ov_move rfl) rfl ?_
    refine rl_val gw_none (ov_add rfl rfl (by omega)) rfl ?_
    refine rl_val gw_none (ov_assign rfl) rfl ?_
    refine rl_nil ?_
    exact at_backR (k + 1, (boq1, capq1, padq1, ms ++ qd.1.2.2.2), qd.2.1, qd.2.2.1, qd.2.2.2) ⟨hk2, hsq1, by have := hqd.2.1; simp only [List.length_append]; omega, hqd.2.2⟩ (by dsimp only; omega) (by (repeat' (first | exact Sub.nil | refine Sub.cons ?_ ?_)); all_goals (first | rfl | exact lkInt rfl (by omega))) (Sub.cons rfl (Sub.cons rfl (Sub.cons rfl (Sub.cons rfl (Sub.cons rfl Sub.nil))))) (fun _ hp => ((Hp.sub (Hp.pull (Hp.pull (Hp.pull (Hp.pull (Hp.pull hp 7 rfl) 7 rfl) 4 rfl) 6 rfl) 6 rfl) (List.sublist_append_left [_, _, _, _, _] _))).cong rfl)
  ·
    have hke : k = xs.length := by omega
    subst hke
    refine ct_exit ?_
    refine at_then_exit ?_
    refine at_then_exit ?_
    refine at_block_hit ?_
    refine at_then ?_
    refine ct_seq ?_
    refine ct_dr 3 (by kernel_rfl) (by kernel_rfl) ?_
    refine ql_val gw_none (ov_move rfl) rfl ?_
    first | refine ql_val gw_none (ov_loadall 1 ag26 rfl rfl rfl) rfl ?_ | refine ql_val gw_none (ov_loadp 1 ag26 rfl rfl (vs := [_, _, _]) rfl rfl) rfl ?_ | refine ql_val gw_none (ov_loada 1 ag26 rfl rfl rfl (by assumption)) rfl ?_
    refine ql_val gw_none (ov_assign rfl) rfl ?_
    refine ql_nil ?_
    refine rl_store [_, _, _] sz26 rfl rfl rfl rfl rfl (Nat.le_of_ble_eq_true rfl) ?_
    refine rl_nil ?_
    refine at_then ?_
    refine ct_ret ?_
    refine at_ret2 Try.results103 (ro_tmp rfl) (ro_cell 3 ag26 rfl rfl rfl) (fun w1 hp => ?_)
    exact ⟨((bm, mc, mp, ms), br, rc, rp), ⟨hsm2, by dsimp only; omega, hsr2⟩, rfl, (Hp.sub (Hp.pull (Hp.pull hp 2 rfl) 1 rfl) (List.sublist_append_left [_, _] _))⟩

theorem l8Number_c (u : Int) (l : Int) (xs : List IntA2) (vxs : Value) (n : Int) (w : World) (zu : In64 u) (zl : In64 l) (hGxs : ∀ y ∈ xs, GIntA2 y) (hsxs : SR w 2 vxs xs.length (flat encIntA2 xs)) (zn : In64 n) (hc : takeNB u l xs n = true) : Calls Try.prog 90 ([.agg (List.toArray (α := Value) [.int .i64 u, .int .i64 l, vxs]), .int .i64 n]).toArray w (fun e w' => ∃ q : (Option Nat × Nat × List Value × List BeadMove) × Nat × Nat × List Value, (Sl 3 q.1.1 q.1.2.2.2.length q.1.2.1 (flat encBeadMove q.1.2.2.2) q.1.2.2.1 ∧ q.1.2.2.2.length ≤ 200 ∧ Sl 2 (some q.2.1) ((takeN xs n xs.length).1).length q.2.2.1 (flat encIntA2 ((takeN xs n xs.length).1)) q.2.2.2) ∧ e = .returned (.tuple #[sv q.1.1 q.1.2.2.2.length q.1.2.1, .agg [.int .i64 u, .int .i64 l, sv (some q.2.1) ((takeN xs n xs.length).1).length q.2.2.1].toArray, .int .i64 ((takeN xs n xs.length).2 : Nat)]) ∧ Hp ⟨w, []⟩ [(q.1.1, 128, flat encBeadMove q.1.2.2.2 ++ q.1.2.2.1), (some q.2.1, 81, flat encIntA2 ((takeN xs n xs.length).1) ++ q.2.2.2)] w') := by
  obtain ⟨axs, capxs, rfl, hcapxs, hmaxxs⟩ := hsxs.slice
  have hlenxs := hsxs.len_le
  obtain ⟨hg, hnn⟩ := takeNB_ok hc
  have hf := goodB_f hg
  have h8 := (frameB_ul hf).2.2.2
  have hl1 := (frameB_ul hf).2.2.1
  have hnm := goodB_num hg
  refine calls_ct Try.func90 Try.ntmps90 rfl rfl ?_
  refine ct_seq ?_
  refine ct_reg ?_
  refine rl_box rfl rfl (fun N1 => ?_)
  refine rl_val gw_none (ov_assign rfl) rfl ?_
  refine rl_alloc ze26 rfl (fun N2 => ?_)
  refine rl_val gw_none (ov_assign rfl) rfl ?_
  refine rl_nil ?_
  refine at_then ?_
  refine ct_seq ?_
  refine ct_reg ?_
  refine rl_bslice Try.underlying86 ze128 sz128 rfl rfl rfl rfl rfl rfl (fun N3 => ?_)
  first | refine rl_val gw_none (ov_loadall 2 ag26 rfl rfl rfl) rfl ?_ | refine rl_val gw_none (ov_loadp 2 ag26 rfl rfl (vs := [_, _, _]) rfl rfl) rfl ?_ | refine rl_val gw_none (ov_loada 2 ag26 rfl rfl rfl (by assumption)) rfl ?_
  refine rl_callsl (ι := Nat × List Value) (fun i bo => .agg [.int .i64 u, .int .i64 l, sv bo (xs).length i.1].toArray) (fun i => flat encIntA2 (xs) ++ i.2) (fun i bo => Sl 2 bo (xs).length i.1 (flat encIntA2 (xs)) i.2) goes93 rfl (fun w1 hp => l2Own_c u l xs _ _ zu zl hGxs (hsxs.ext hp.ext0) h8) rfl (fun iow boow hsow => ?_)
  obtain ⟨bow, rfl⟩ := Sl.some hsow (by omega)
  refine rl_alloc ze26 rfl (fun N4 => ?_)
  refine rl_val gw_none (ov_assign rfl) rfl ?_
  refine rl_store [] sz26 rfl rfl rfl rfl rfl (Nat.le_of_ble_eq_true rfl) ?_
  refine rl_val gw_none (ov_assign rfl) rfl ?_
  refine rl_nil ?_
  refine at_then ?_
  refine ct_seq ?_
  refine ct_seq ?_
  refine ct_reg ?_
  refine rl_val gw_none (ov_assign rfl) rfl ?_
  refine rl_nil ?_
  refine at_then ?_
  refine ct_block ?_
  refine ct_loopR (ι := Nat × (Option Nat × Nat × List Value × List BeadMove) × Nat × Nat × List Value) (fun p0 => [(7, sv p0.2.1.1 p0.2.1.2.2.2.length p0.2.1.2.1), (9, .int .i64 ((takeN xs n p0.1).2 : Nat)), (10, .int .i64 p0.1)]) [(1, _), (2, _), (4, _), (5, _), (6, _), (8, _)] (fun p0 => [(p0.2.1.1, 128, flat encBeadMove p0.2.1.2.2.2 ++ p0.2.1.2.2.1), (some N4, 26, [.int .i64 u, .int .i64 l, sv (some p0.2.2.1) (takeN xs n p0.1).1.length p0.2.2.2.1]), (some p0.2.2.1, 81, flat encIntA2 (takeN xs n p0.1).1 ++ p0.2.2.2.2), _, _]) (fun p0 => p0.1 ≤ xs.length ∧ Sl 3 p0.2.1.1 p0.2.1.2.2.2.length p0.2.1.2.1 (flat encBeadMove p0.2.1.2.2.2) p0.2.1.2.2.1 ∧ p0.2.1.2.2.2.length ≤ 20 * p0.1 ∧ Sl 2 (some p0.2.2.1) (takeN xs n p0.1).1.length p0.2.2.2.1 (flat encIntA2 (takeN xs n p0.1).1) p0.2.2.2.2) (fun p0 => xs.length - p0.1) ((0, (some N3, 0, [], []), bow, iow.1, iow.2)) (Sub.cons rfl (Sub.cons rfl (Sub.cons rfl (Sub.cons rfl (Sub.cons rfl (Sub.cons rfl Sub.nil)))))) (fun _ hp => (Hp.sub (Hp.pull (Hp.pull (Hp.pull (Hp.pull (Hp.pull hp 4 rfl) 4 rfl) 3 rfl) 3 rfl) 4 rfl) (List.sublist_append_left [_, _, _, _, _] _))) (by (repeat' (first | exact Sub.nil | refine Sub.cons ?_ ?_)); all_goals (first | rfl | exact lkInt rfl (by omega))) ⟨Nat.zero_le _, Sl.lit rfl (Nat.zero_le _), Nat.zero_le _, hsow⟩ (fun p0 hp0 => ?_)
  obtain ⟨k, ⟨bm, mc, mp, ms⟩, br, rc, rp⟩ := p0
  obtain ⟨hk, hsm2, hml, hsr2⟩ := hp0
  dsimp only at hk hsm2 hml hsr2 ⊢
  have hgk := takeN_good hg hnn.1 hnn.2 k hk
  refine ct_seq ?_
  refine ct_seq ?_
  refine ct_reg ?_
  refine rl_val gw_none (ov_move rfl) rfl ?_
  refine rl_val gw_none (ov_field fo26_2 rfl) rfl ?_
  first | refine rl_val gw_none (ov_load 4 sc22 rfl rfl rfl) rfl ?_ | refine rl_val gw_none (ov_load 4 sc22 rfl rfl (by assumption)) rfl ?_
  refine rl_val gw_none (ov_len Try.underlying22 rfl) rfl ?_
  refine rl_val gw_none (ov_lss rfl rfl) rfl ?_
  refine rl_nil ?_
  refine at_then ?_
  first | refine ct_dec rfl (fun h1 => ?_) (fun h1 => ?_) | refine ct_ndec rfl (fun h1 => ?_) (fun h1 => ?_) | refine ct_eq rfl (fun h1 => ?_) (fun h1 => ?_) | refine ct_ne rfl (fun h1 => ?_) (fun h1 => ?_) | refine ct_not rfl (fun h1 => ?_) (fun h1 => ?_) | refine ct_cond rfl (fun h1 => ?_) (fun h1 => ?_)
  ·
    have hk2 : k < xs.length := by omega
    have hCk := takeN_C hg hnn.1 hnn.2 hk2
    have hTb := (takeS_good hgk.1 hCk).2.2.2
    refine ct_skip ?_
    refine at_then ?_
    refine ct_seq ?_
    refine ct_block ?_
    refine ct_seq ?_
    refine ct_fl 14 [0, 1, 2, 3, 4, 5, 6, 7, 8, 9, 10, 11, 12, 13, 14] ⟨6, [6, 13], [13], [11], [0, 2, 5], []⟩ (fun q => if q = 11 then (⟨26, [.int .i64 0, .int .i64 0, .slice none 0 0], fun N => .pointer (some ⟨N, 0, none⟩)⟩ : Soft) else ⟨0, [], fun _ => undef⟩) (by kernel_rfl) (by kernel_rfl) ?_
    refine qf_step rfl ?_
    first | refine qg_valm rfl rfl gw_none (ov_loadall 1 ag26 rfl rfl rfl) rfl ?_ | refine qg_valm rfl rfl gw_none (ov_loadp 1 ag26 rfl rfl (vs := [_, _, _]) rfl rfl) rfl ?_ | refine qg_valm rfl rfl gw_none (ov_loada 1 ag26 rfl rfl rfl (by assumption)) rfl ?_
    refine qf_step rfl ?_
    refine qg_val rfl gw_none (fun _ => (ov_move rfl)) rfl ?_
    refine qf_step rfl ?_
    first | refine qg_valm rfl rfl gw_none (ov_loadall 4 ag26 rfl rfl rfl) rfl ?_ | refine qg_valm rfl rfl gw_none (ov_loadp 4 ag26 rfl rfl (vs := [_, _, _]) rfl rfl) rfl ?_ | refine qg_valm rfl rfl gw_none (ov_loada 4 ag26 rfl rfl rfl (by assumption)) rfl ?_
    refine qf_step rfl ?_
    refine qg_val rfl gw_none (fun _ => (ov_move rfl)) rfl ?_
    refine qf_step rfl ?_
    refine qg_val rfl gw_none (fun _ => (ov_move rfl)) rfl ?_
    refine qf_step rfl ?_
    refine qg_callv rfl rfl gw_none goes94 rfl (fun w1 hp => l6At_c u l xs _ n k _ _ zu zl hGxs (hsxs.ext hp.ext0) rfl hk2 h8 (by omega)) rfl ?_
    refine qf_mark ⟨⟨5, rfl, soft_alloc rfl rfl ze26⟩, True.intro⟩ ?_
    refine qg_calle (ι := (Option Nat × Nat × List Value × List BeadMove) × Nat × Nat × List Value) (fun q => .tuple #[sv q.1.1 q.1.2.2.2.length q.1.2.1, .agg [.int .i64 u, .int .i64 l, sv (some q.2.1) ((takeS (k + 1) (takeN xs n k).1 (dg n xs.length k)).1).length q.2.2.1].toArray, .int .i64 ((takeS (k + 1) (takeN xs n k).1 (dg n xs.length k)).2 : Nat)]) (fun q => [(q.1.1, 128, flat encBeadMove q.1.2.2.2 ++ q.1.2.2.1), (some q.2.1, 81, flat encIntA2 ((takeS (k + 1) (takeN xs n k).1 (dg n xs.length k)).1) ++ q.2.2.2)]) (fun q => Sl 3 q.1.1 q.1.2.2.2.length q.1.2.1 (flat encBeadMove q.1.2.2.2) q.1.2.2.1 ∧ q.1.2.2.2.length ≤ 2 * (k + 1) + 2 ∧ Sl 2 (some q.2.1) ((takeS (k + 1) (takeN xs n k).1 (dg n xs.length k)).1).length q.2.2.1 (flat encIntA2 ((takeS (k + 1) (takeN xs n k).1 (dg n xs.length k)).1)) q.2.2.2) rfl rfl rfl goes101 rfl (fun w1 hp => l8Digit_c u l _ _ k _ _ _ zu zl (frameB_G (goodB_f hgk.1)) (hp.slsr 2 rfl hsr2) rfl hgk.1 hCk) rfl (fun qd hqd => ?_)
    refine qf_step rfl ?_
    refine qg_val rfl gw_none (fun _ => (ov_move rfl)) rfl ?_
    refine qf_step rfl ?_
    refine qg_val rfl gw_none (fun _ => (ov_extract rfl rfl)) rfl ?_
    refine qf_step rfl ?_
    refine qg_val rfl gw_none (fun _ => (ov_extract rfl rfl)) rfl ?_
    refine qf_step rfl ?_
    refine qg_val rfl gw_none (fun _ => (ov_extract rfl rfl)) rfl ?_
    refine qf_step rfl ?_
    refine qg_soft rfl rfl rfl (fun N5 => ?_)
    refine qf_step rfl ?_
    refine qg_val rfl gw_none (fun _ => (ov_assign rfl)) rfl ?_
    refine qf_step rfl ?_
    refine qg_store [] rfl rfl rfl True.intro sz26 rfl rfl rfl rfl rfl (Nat.le_of_ble_eq_true rfl) ?_
    refine qf_nil ?_
    refine rl_val gw_none (ov_assign rfl) rfl ?_
    refine rl_nil ?_
    refine at_then ?_
    refine ct_seq ?_
    refine ct_reg ?_
    refine rl_val gw_none (ov_move rfl) rfl ?_
    refine rl_val gw_none (ov_move rfl) rfl ?_
    refine rl_appT (flat encBeadMove) ((flat_append _)) [_, _, _] (acc := ms) Try.underlying86 ze128 sz128 rfl rfl by128 rfl rfl rfl hsm2 (qd.1.2.2.2) rfl (fun w1 hp => hp.slsr 1 rfl hqd.1) (flat_one encBeadMove_one _) (by unfold maxLen; first | omega | (simp; done) | (simp; omega)) (by first | omega | (simp; done) | (simp; omega)) rfl (fun boq1 capq1 padq1 hsq1 => ?_)
    refine rl_val gw_none (ov_assign rfl) rfl ?_
    refine rl_nil ?_
    refine at_then ?_
    refine ct_seq ?_
    refine ct_reg ?_
    first | refine rl_val gw_none (ov_loadall 0 ag26 rfl rfl rfl) rfl ?_ | refine rl_val gw_none (ov_loadp 0 ag26 rfl rfl (vs := [_, _, _]) rfl rfl) rfl ?_ | refine rl_val gw_none (ov_loada 0 ag26 rfl rfl rfl (by assumption)) rfl ?_
    refine rl_store [_, _, _, _] sz26 rfl rfl rfl rfl rfl (Nat.le_of_ble_eq_true rfl) ?_
    refine rl_nil ?_
    refine at_then ?_
    refine ct_reg ?_
    refine rl_val gw_none (ov_move rfl) rfl ?_
    refine rl_val gw_none (ov_move rfl) rfl ?_
    refine rl_val gw_none (ov_add rfl rfl (by omega)) rfl ?_
    refine rl_val gw_none (ov_assign rfl) rfl ?_
    refine rl_nil ?_
    refine at_block ?_
    refine at_then ?_
    refine ct_reg ?_
    refine rl_val gw_none (ov_move rfl) rfl ?_
    refine rl_val gw_none (ov_add rfl rfl (by omega)) rfl ?_
    refine rl_val gw_none (ov_assign rfl) rfl ?_
    refine rl_nil ?_
    exact at_backR (k + 1, (boq1, capq1, padq1, ms ++ qd.1.2.2.2), qd.2.1, qd.2.2.1, qd.2.2.2) ⟨hk2, hsq1, by have := hqd.2.1; simp only [List.length_append]; omega, hqd.2.2⟩ (by dsimp only; omega) (by (repeat' (first | exact Sub.nil | refine Sub.cons ?_ ?_)); all_goals (first | rfl | exact lkInt rfl (by dsimp only; rw [takeN]; omega) | exact lkInt rfl (by omega))) (Sub.cons rfl (Sub.cons rfl (Sub.cons rfl (Sub.cons rfl (Sub.cons rfl (Sub.cons rfl Sub.nil)))))) (fun _ hp => ((Hp.sub (Hp.pull (Hp.pull (Hp.pull (Hp.pull (Hp.pull hp 7 rfl) 7 rfl) 4 rfl) 6 rfl) 6 rfl) (List.sublist_append_left [_, _, _, _, _] _))).cong rfl)
  ·
    have hke : k = xs.length := by omega
    subst hke
    refine ct_exit ?_
    refine at_then_exit ?_
    refine at_then_exit ?_
    refine at_block_hit ?_
    refine at_then ?_
    refine ct_seq ?_
    refine ct_fl 5 [0, 1, 2, 3, 4, 5] ⟨0, [4], [4], [], [1], []⟩ (fun q => ⟨0, [], fun _ => undef⟩) (by kernel_rfl) (by kernel_rfl) ?_
    refine qf_mark True.intro ?_
    refine qg_val rfl gw_none (fun _ => (ov_move rfl)) rfl ?_
    refine qf_step rfl ?_
    first | refine qg_valm rfl rfl gw_none (ov_loadall 1 ag26 rfl rfl rfl) rfl ?_ | refine qg_valm rfl rfl gw_none (ov_loadp 1 ag26 rfl rfl (vs := [_, _, _]) rfl rfl) rfl ?_ | refine qg_valm rfl rfl gw_none (ov_loada 1 ag26 rfl rfl rfl (by assumption)) rfl ?_
    refine qf_step rfl ?_
    refine qg_val rfl gw_none (fun _ => (ov_move rfl)) rfl ?_
    refine qf_step rfl ?_
    refine qg_val rfl gw_none (fun _ => (ov_assign rfl)) rfl ?_
    refine qf_step rfl ?_
    refine qg_store [_, _, _] rfl rfl rfl True.intro sz26 rfl rfl rfl rfl rfl (Nat.le_of_ble_eq_true rfl) ?_
    refine qf_nil ?_
    refine rl_val gw_none (ov_assign rfl) rfl ?_
    refine rl_nil ?_
    refine at_then ?_
    refine ct_ret ?_
    refine at_ret3 Try.results90 (ro_tmp rfl) (ro_cell 3 ag26 rfl rfl rfl) (ro_tmp rfl) (fun w1 hp => ?_)
    exact ⟨((bm, mc, mp, ms), br, rc, rp), ⟨hsm2, by dsimp only; omega, hsr2⟩, rfl, (Hp.sub (Hp.pull (Hp.pull hp 2 rfl) 1 rfl) (List.sublist_append_left [_, _] _))⟩

theorem sAddNumber_c (u : Int) (l : Int) (xs : List IntA2) (n : Int) (vxs : Value) (w : World) (zu : In64 u) (zl : In64 l) (hGxs : ∀ y ∈ xs, GIntA2 y) (hsxs : SR w 2 vxs xs.length (flat encIntA2 xs)) (zn : In64 n) : Calls Try.prog 42 ([.agg (List.toArray (α := Value) [.int .i64 u, .int .i64 l, vxs]), .int .i64 n]).toArray w (fun e w' => RetSl 81 2 (flat encIntA2 (okR (addNB u l xs n) u l (addN xs n xs.length).1).xs) (okR (addNB u l xs n) u l (addN xs n xs.length).1).xs.length (fun s => .tuple #[.agg [.int .i64 (okR (addNB u l xs n) u l (addN xs n xs.length).1).u, .int .i64 (okR (addNB u l xs n) u l (addN xs n xs.length).1).l, s].toArray, .bool (okR (addNB u l xs n) u l (addN xs n xs.length).1).ok]) w e w') := by
  obtain ⟨axs, capxs, rfl, hcapxs, hmaxxs⟩ := hsxs.slice
  have hlenxs := hsxs.len_le
  refine calls_ct Try.func42 Try.ntmps42 rfl rfl ?_
  refine ct_seq ?_
  refine ct_reg ?_
  refine rl_box rfl rfl (fun N1 => ?_)
  refine rl_alloc ze26 rfl (fun N2 => ?_)
  refine rl_val gw_none (ov_assign rfl) rfl ?_
  refine rl_nil ?_
  refine at_then ?_
  refine ct_seq ?_
  refine ct_seq ?_
  refine ct_reg ?_
  first | refine rl_val gw_none (ov_loadall 1 ag26 rfl rfl rfl) rfl ?_ | refine rl_val gw_none (ov_loadp 1 ag26 rfl rfl (vs := [_, _, _]) rfl rfl) rfl ?_ | refine rl_val gw_none (ov_loada 1 ag26 rfl rfl rfl (by assumption)) rfl ?_
  refine rl_val gw_none (ov_move rfl) rfl ?_
  refine rl_callv gw_none goes92 rfl (fun w1 hp => l6Can_c u l xs _ n _ zu zl hGxs (hsxs.ext hp.ext0) zn) rfl ?_
  refine rl_val gw_none (ov_not rfl) rfl ?_
  refine rl_nil ?_
  refine at_then ?_
  first | refine ct_dec rfl (fun h1 => ?_) (fun h1 => ?_) | refine ct_ndec rfl (fun h1 => ?_) (fun h1 => ?_) | refine ct_eq rfl (fun h1 => ?_) (fun h1 => ?_) | refine ct_ne rfl (fun h1 => ?_) (fun h1 => ?_) | refine ct_not rfl (fun h1 => ?_) (fun h1 => ?_) | refine ct_cond rfl (fun h1 => ?_) (fun h1 => ?_)
  ·
    refine ct_seq ?_
    refine ct_reg ?_
    refine rl_val gw_none (ov_build rfl (bu26_)) rfl ?_
    refine rl_store [] sz26 rfl rfl rfl rfl rfl (Nat.le_of_ble_eq_true rfl) ?_
    refine rl_val gw_none (ov_assign rfl) rfl ?_
    refine rl_nil ?_
    refine at_then ?_
    refine ct_ret ?_
    refine at_then_ret ?_
    refine at_ret2 Try.results42 (ro_cell 0 ag26 rfl rfl rfl) (ro_tmp rfl) (fun w1 hp => ?_)
    first | (rw [okR_no (by simpa using h1)]; exact RetSl.nil hp.ext0) | (rw [okR_yes hc]; exact RetSl.own 999 hp rfl hqd.2.2)
  ·
    have hc : addNB u l xs n = true := by simpa using h1
    refine ct_skip ?_
    refine at_then ?_
    refine ct_seq ?_
    refine ct_reg ?_
    first | refine rl_val gw_none (ov_loadall 1 ag26 rfl rfl rfl) rfl ?_ | refine rl_val gw_none (ov_loadp 1 ag26 rfl rfl (vs := [_, _, _]) rfl rfl) rfl ?_ | refine rl_val gw_none (ov_loada 1 ag26 rfl rfl rfl (by assumption)) rfl ?_
    refine rl_val gw_none (ov_move rfl) rfl ?_
    refine rl_calle (ι := (Option Nat × Nat × List Value × List BeadMove) × Nat × Nat × List Value) (fun q => .tuple #[sv q.1.1 q.1.2.2.2.length q.1.2.1, .agg [.int .i64 u, .int .i64 l, sv (some q.2.1) ((addN xs n xs.length).1).length q.2.2.1].toArray]) (fun q => [(q.1.1, 128, flat encBeadMove q.1.2.2.2 ++ q.1.2.2.1), (some q.2.1, 81, flat encIntA2 ((addN xs n xs.length).1) ++ q.2.2.2)]) (fun q => Sl 3 q.1.1 q.1.2.2.2.length q.1.2.1 (flat encBeadMove q.1.2.2.2) q.1.2.2.1 ∧ q.1.2.2.2.length ≤ 200 ∧ Sl 2 (some q.2.1) ((addN xs n xs.length).1).length q.2.2.1 (flat encIntA2 ((addN xs n xs.length).1)) q.2.2.2) goes103 rfl (fun w1 hp => l6Number_c u l xs _ n _ zu zl hGxs (hsxs.ext hp.ext0) zn hc) rfl (fun qd hqd => ?_)
    refine rl_val gw_none (ov_move rfl) rfl ?_
    refine rl_val gw_none (ov_extract rfl rfl) rfl ?_
    refine rl_val gw_none (ov_extract rfl rfl) rfl ?_
    refine rl_alloc ze26 rfl (fun N3 => ?_)
    refine rl_val gw_none (ov_assign rfl) rfl ?_
    refine rl_store [] sz26 rfl rfl rfl rfl rfl (Nat.le_of_ble_eq_true rfl) ?_
    refine rl_nil ?_
    refine at_then ?_
    refine ct_seq ?_
    refine ct_reg ?_
    first | refine rl_val gw_none (ov_loadall 0 ag26 rfl rfl rfl) rfl ?_ | refine rl_val gw_none (ov_loadp 0 ag26 rfl rfl (vs := [_, _, _]) rfl rfl) rfl ?_ | refine rl_val gw_none (ov_loada 0 ag26 rfl rfl rfl (by assumption)) rfl ?_
    refine rl_store [_, _, _] sz26 rfl rfl rfl rfl rfl (Nat.le_of_ble_eq_true rfl) ?_
    refine rl_val gw_none (ov_assign rfl) rfl ?_
    refine rl_nil ?_
    refine at_then ?_
    refine ct_ret ?_
    refine at_ret2 Try.results42 (ro_cell 3 ag26 rfl rfl rfl) (ro_tmp rfl) (fun w1 hp => ?_)
    first | (rw [okR_no (by simpa using h1)]; exact RetSl.nil hp.ext0) | (rw [okR_yes hc]; exact RetSl.own 2 hp rfl hqd.2.2)

theorem sAddDigit_c (u : Int) (l : Int) (xs : List IntA2) (rod : Int) (d : Int) (vxs : Value) (w : World) (zu : In64 u) (zl : In64 l) (hGxs : ∀ y ∈ xs, GIntA2 y) (hsxs : SR w 2 vxs xs.length (flat encIntA2 xs)) (zrod : In64 rod) (zd : In64 d) : Calls Try.prog 35 ([.agg (List.toArray (α := Value) [.int .i64 u, .int .i64 l, vxs]), .int .i64 rod, .int .i64 d]).toArray w (fun e w' => RetSl 81 2 (flat encIntA2 (okR (addDB u l xs rod d) u l (addS (rod.toNat + 1) xs d).1).xs) (okR (addDB u l xs rod d) u l (addS (rod.toNat + 1) xs d).1).xs.length (fun s => .tuple #[.agg [.int .i64 (okR (addDB u l xs rod d) u l (addS (rod.toNat + 1) xs d).1).u, .int .i64 (okR (addDB u l xs rod d) u l (addS (rod.toNat + 1) xs d).1).l, s].toArray, .bool (okR (addDB u l xs rod d) u l (addS (rod.toNat + 1) xs d).1).ok]) w e w') := by
  obtain ⟨axs, capxs, rfl, hcapxs, hmaxxs⟩ := hsxs.slice
  have hlenxs := hsxs.len_le
  refine calls_ct Try.func35 Try.ntmps35 rfl rfl ?_
  refine ct_seq ?_
  refine ct_reg ?_
  refine rl_box rfl rfl (fun N1 => ?_)
  refine rl_alloc ze26 rfl (fun N2 => ?_)
  refine rl_val gw_none (ov_assign rfl) rfl ?_
  refine rl_nil ?_
  refine at_then ?_
  refine ct_seq ?_
  refine ct_seq ?_
  refine ct_reg ?_
  first | refine rl_val gw_none (ov_loadall 1 ag26 rfl rfl rfl) rfl ?_ | refine rl_val gw_none (ov_loadp 1 ag26 rfl rfl (vs := [_, _, _]) rfl rfl) rfl ?_ | refine rl_val gw_none (ov_loada 1 ag26 rfl rfl rfl (by assumption)) rfl ?_
  refine rl_val gw_none (ov_move rfl) rfl ?_
  refine rl_val gw_none (ov_move rfl) rfl ?_
  refine rl_callv gw_none goes97 rfl (fun w1 hp => l6CanDigit_c u l xs _ rod d _ zu zl hGxs (hsxs.ext hp.ext0) zrod zd) rfl ?_
  refine rl_val gw_none (ov_not rfl) rfl ?_
  refine rl_nil ?_
  refine at_then ?_
  first | refine ct_dec rfl (fun h1 => ?_) (fun h1 => ?_) | refine ct_ndec rfl (fun h1 => ?_) (fun h1 => ?_) | refine ct_eq rfl (fun h1 => ?_) (fun h1 => ?_) | refine ct_ne rfl (fun h1 => ?_) (fun h1 => ?_) | refine ct_not rfl (fun h1 => ?_) (fun h1 => ?_) | refine ct_cond rfl (fun h1 => ?_) (fun h1 => ?_)
  ·
    refine ct_seq ?_
    refine ct_reg ?_
    refine rl_val gw_none (ov_build rfl (bu26_)) rfl ?_
    refine rl_store [] sz26 rfl rfl rfl rfl rfl (Nat.le_of_ble_eq_true rfl) ?_
    refine rl_val gw_none (ov_assign rfl) rfl ?_
    refine rl_nil ?_
    refine at_then ?_
    refine ct_ret ?_
    refine at_then_ret ?_
    refine at_ret2 Try.results35 (ro_cell 0 ag26 rfl rfl rfl) (ro_tmp rfl) (fun w1 hp => ?_)
    first | (rw [okR_no (by simpa using h1)]; exact RetSl.nil hp.ext0) | (rw [okR_yes hc]; exact RetSl.own 999 hp rfl hqd.2.2)
  ·
    have hc : addDB u l xs rod d = true := by simpa using h1
    obtain ⟨hg, hr, hd, hC⟩ := addDB_ok hc
    refine ct_skip ?_
    refine at_then ?_
    refine ct_seq ?_
    refine ct_reg ?_
    first | refine rl_val gw_none (ov_loadall 1 ag26 rfl rfl rfl) rfl ?_ | refine rl_val gw_none (ov_loadp 1 ag26 rfl rfl (vs := [_, _, _]) rfl rfl) rfl ?_ | refine rl_val gw_none (ov_loada 1 ag26 rfl rfl rfl (by assumption)) rfl ?_
    refine rl_val gw_none (ov_move rfl) rfl ?_
    refine rl_val gw_none (ov_move rfl) rfl ?_
    refine rl_calle (ι := (Option Nat × Nat × List Value × List BeadMove) × Nat × Nat × List Value) (fun q => .tuple #[sv q.1.1 q.1.2.2.2.length q.1.2.1, .agg [.int .i64 u, .int .i64 l, sv (some q.2.1) ((addS (rod.toNat + 1) xs d).1).length q.2.2.1].toArray]) (fun q => [(q.1.1, 128, flat encBeadMove q.1.2.2.2 ++ q.1.2.2.1), (some q.2.1, 81, flat encIntA2 ((addS (rod.toNat + 1) xs d).1) ++ q.2.2.2)]) (fun q => Sl 3 q.1.1 q.1.2.2.2.length q.1.2.1 (flat encBeadMove q.1.2.2.2) q.1.2.2.1 ∧ q.1.2.2.2.length ≤ 2 * (rod.toNat + 1) + 2 ∧ Sl 2 (some q.2.1) ((addS (rod.toNat + 1) xs d).1).length q.2.2.1 (flat encIntA2 ((addS (rod.toNat + 1) xs d).1)) q.2.2.2) goes95 rfl (fun w1 hp => l6Digit_c u l xs _ rod.toNat _ d _ zu zl hGxs (hsxs.ext hp.ext0) (by omega) hg hC) rfl (fun qd hqd => ?_)
    refine rl_val gw_none (ov_move rfl) rfl ?_
    refine rl_val gw_none (ov_extract rfl rfl) rfl ?_
    refine rl_val gw_none (ov_extract rfl rfl) rfl ?_
    refine rl_alloc ze26 rfl (fun N3 => ?_)
    refine rl_val gw_none (ov_assign rfl) rfl ?_
    refine rl_store [] sz26 rfl rfl rfl rfl rfl (Nat.le_of_ble_eq_true rfl) ?_
    refine rl_nil ?_
    refine at_then ?_
    refine ct_seq ?_
    refine ct_reg ?_
    first | refine rl_val gw_none (ov_loadall 0 ag26 rfl rfl rfl) rfl ?_ | refine rl_val gw_none (ov_loadp 0 ag26 rfl rfl (vs := [_, _, _]) rfl rfl) rfl ?_ | refine rl_val gw_none (ov_loada 0 ag26 rfl rfl rfl (by assumption)) rfl ?_
    refine rl_store [_, _, _] sz26 rfl rfl rfl rfl rfl (Nat.le_of_ble_eq_true rfl) ?_
    refine rl_val gw_none (ov_assign rfl) rfl ?_
    refine rl_nil ?_
    refine at_then ?_
    refine ct_ret ?_
    refine at_ret2 Try.results35 (ro_cell 3 ag26 rfl rfl rfl) (ro_tmp rfl) (fun w1 hp => ?_)
    first | (rw [okR_no (by simpa using h1)]; exact RetSl.nil hp.ext0) | (rw [okR_yes hc]; exact RetSl.own 2 hp rfl hqd.2.2)

theorem sTakeNumber_c (u : Int) (l : Int) (xs : List IntA2) (n : Int) (vxs : Value) (w : World) (zu : In64 u) (zl : In64 l) (hGxs : ∀ y ∈ xs, GIntA2 y) (hsxs : SR w 2 vxs xs.length (flat encIntA2 xs)) (zn : In64 n) : Calls Try.prog 40 ([.agg (List.toArray (α := Value) [.int .i64 u, .int .i64 l, vxs]), .int .i64 n]).toArray w (fun e w' => RetSl 81 2 (flat encIntA2 (okR (takeNB u l xs n) u l (takeN xs n xs.length).1).xs) (okR (takeNB u l xs n) u l (takeN xs n xs.length).1).xs.length (fun s => .tuple #[.agg [.int .i64 (okR (takeNB u l xs n) u l (takeN xs n xs.length).1).u, .int .i64 (okR (takeNB u l xs n) u l (takeN xs n xs.length).1).l, s].toArray, .bool (okR (takeNB u l xs n) u l (takeN xs n xs.length).1).ok]) w e w') := by
  obtain ⟨axs, capxs, rfl, hcapxs, hmaxxs⟩ := hsxs.slice
  have hlenxs := hsxs.len_le
  refine calls_ct Try.func40 Try.ntmps40 rfl rfl ?_
  refine ct_seq ?_
  refine ct_reg ?_
  refine rl_box rfl rfl (fun N1 => ?_)
  refine rl_alloc ze26 rfl (fun N2 => ?_)
  refine rl_val gw_none (ov_assign rfl) rfl ?_
  refine rl_nil ?_
  refine at_then ?_
  refine ct_seq ?_
  refine ct_seq ?_
  refine ct_reg ?_
  first | refine rl_val gw_none (ov_loadall 1 ag26 rfl rfl rfl) rfl ?_ | refine rl_val gw_none (ov_loadp 1 ag26 rfl rfl (vs := [_, _, _]) rfl rfl) rfl ?_ | refine rl_val gw_none (ov_loada 1 ag26 rfl rfl rfl (by assumption)) rfl ?_
  refine rl_val gw_none (ov_move rfl) rfl ?_
  refine rl_callv gw_none goes89 rfl (fun w1 hp => l8Can_c u l xs _ n _ zu zl hGxs (hsxs.ext hp.ext0) zn) rfl ?_
  refine rl_val gw_none (ov_not rfl) rfl ?_
  refine rl_nil ?_
  refine at_then ?_
  first | refine ct_dec rfl (fun h1 => ?_) (fun h1 => ?_) | refine ct_ndec rfl (fun h1 => ?_) (fun h1 => ?_) | refine ct_eq rfl (fun h1 => ?_) (fun h1 => ?_) | refine ct_ne rfl (fun h1 => ?_) (fun h1 => ?_) | refine ct_not rfl (fun h1 => ?_) (fun h1 => ?_) | refine ct_cond rfl (fun h1 => ?_) (fun h1 => ?_)
  ·
    refine ct_seq ?_
    refine ct_reg ?_
    refine rl_val gw_none (ov_build rfl (bu26_)) rfl ?_
    refine rl_store [] sz26 rfl rfl rfl rfl rfl (Nat.le_of_ble_eq_true rfl) ?_
    refine rl_val gw_none (ov_assign rfl) rfl ?_
    refine rl_nil ?_
    refine at_then ?_
    refine ct_ret ?_
    refine at_then_ret ?_
    refine at_ret2 Try.results40 (ro_cell 0 ag26 rfl rfl rfl) (ro_tmp rfl) (fun w1 hp => ?_)
    first | (rw [okR_no (by simpa using h1)]; exact RetSl.nil hp.ext0) | (rw [okR_yes hc]; exact RetSl.own 999 hp rfl hqd.2.2)
  ·
    have hc : takeNB u l xs n = true := by simpa using h1
    refine ct_skip ?_
    refine at_then ?_
    refine ct_seq ?_
    refine ct_reg ?_
    first | refine rl_val gw_none (ov_loadall 1 ag26 rfl rfl rfl) rfl ?_ | refine rl_val gw_none (ov_loadp 1 ag26 rfl rfl (vs := [_, _, _]) rfl rfl) rfl ?_ | refine rl_val gw_none (ov_loada 1 ag26 rfl rfl rfl (by assumption)) rfl ?_
    refine rl_val gw_none (ov_move rfl) rfl ?_
    refine rl_calle (ι := (Option Nat × Nat × List Value × List BeadMove) × Nat × Nat × List Value) (fun q => .tuple #[sv q.1.1 q.1.2.2.2.length q.1.2.1, .agg [.int .i64 u, .int .i64 l, sv (some q.2.1) ((takeN xs n xs.length).1).length q.2.2.1].toArray, .int .i64 ((takeN xs n xs.length).2 : Nat)]) (fun q => [(q.1.1, 128, flat encBeadMove q.1.2.2.2 ++ q.1.2.2.1), (some q.2.1, 81, flat encIntA2 ((takeN xs n xs.length).1) ++ q.2.2.2)]) (fun q => Sl 3 q.1.1 q.1.2.2.2.length q.1.2.1 (flat encBeadMove q.1.2.2.2) q.1.2.2.1 ∧ q.1.2.2.2.length ≤ 200 ∧ Sl 2 (some q.2.1) ((takeN xs n xs.length).1).length q.2.2.1 (flat encIntA2 ((takeN xs n xs.length).1)) q.2.2.2) goes90 rfl (fun w1 hp => l8Number_c u l xs _ n _ zu zl hGxs (hsxs.ext hp.ext0) zn hc) rfl (fun qd hqd => ?_)
    refine rl_val gw_none (ov_move rfl) rfl ?_
    refine rl_val gw_none (ov_extract rfl rfl) rfl ?_
    refine rl_val gw_none (ov_extract rfl rfl) rfl ?_
    refine rl_val gw_none (ov_extract rfl rfl) rfl ?_
    refine rl_alloc ze26 rfl (fun N3 => ?_)
    refine rl_val gw_none (ov_assign rfl) rfl ?_
    refine rl_store [] sz26 rfl rfl rfl rfl rfl (Nat.le_of_ble_eq_true rfl) ?_
    refine rl_val gw_none (ov_assign rfl) rfl ?_
    refine rl_nil ?_
    refine at_then ?_
    refine ct_seq ?_
    refine ct_reg ?_
    first | refine rl_val gw_none (ov_loadall 0 ag26 rfl rfl rfl) rfl ?_ | refine rl_val gw_none (ov_loadp 0 ag26 rfl rfl (vs := [_, _, _]) rfl rfl) rfl ?_ | refine rl_val gw_none (ov_loada 0 ag26 rfl rfl rfl (by assumption)) rfl ?_
    refine rl_store [_, _, _] sz26 rfl rfl rfl rfl rfl (Nat.le_of_ble_eq_true rfl) ?_
    refine rl_val gw_none (ov_assign rfl) rfl ?_
    refine rl_nil ?_
    refine at_then ?_
    refine ct_ret ?_
    refine at_ret2 Try.results40 (ro_cell 3 ag26 rfl rfl rfl) (ro_tmp rfl) (fun w1 hp => ?_)
    first | (rw [okR_no (by simpa using h1)]; exact RetSl.nil hp.ext0) | (rw [okR_yes hc]; exact RetSl.own 2 hp rfl hqd.2.2)

theorem sTakeDigit_c (u : Int) (l : Int) (xs : List IntA2) (rod : Int) (d : Int) (vxs : Value) (w : World) (zu : In64 u) (zl : In64 l) (hGxs : ∀ y ∈ xs, GIntA2 y) (hsxs : SR w 2 vxs xs.length (flat encIntA2 xs)) (zrod : In64 rod) (zd : In64 d) : Calls Try.prog 38 ([.agg (List.toArray (α := Value) [.int .i64 u, .int .i64 l, vxs]), .int .i64 rod, .int .i64 d]).toArray w (fun e w' => RetSl 81 2 (flat encIntA2 (okR (takeDB u l xs rod d) u l (takeS (rod.toNat + 1) xs d).1).xs) (okR (takeDB u l xs rod d) u l (takeS (rod.toNat + 1) xs d).1).xs.length (fun s => .tuple #[.agg [.int .i64 (okR (takeDB u l xs rod d) u l (takeS (rod.toNat + 1) xs d).1).u, .int .i64 (okR (takeDB u l xs rod d) u l (takeS (rod.toNat + 1) xs d).1).l, s].toArray, .bool (okR (takeDB u l xs rod d) u l (takeS (rod.toNat + 1) xs d).1).ok]) w e w') := by
  obtain ⟨axs, capxs, rfl, hcapxs, hmaxxs⟩ := hsxs.slice
  have hlenxs := hsxs.len_le
  refine calls_ct Try.func38 Try.ntmps38 rfl rfl ?_
  refine ct_seq ?_
  refine ct_reg ?_
  refine rl_box rfl rfl (fun N1 => ?_)
  refine rl_alloc ze26 rfl (fun N2 => ?_)
  refine rl_val gw_none (ov_assign rfl) rfl ?_
  refine rl_nil ?_
  refine at_then ?_
  refine ct_seq ?_
  refine ct_seq ?_
  refine ct_reg ?_
  first | refine rl_val gw_none (ov_loadall 1 ag26 rfl rfl rfl) rfl ?_ | refine rl_val gw_none (ov_loadp 1 ag26 rfl rfl (vs := [_, _, _]) rfl rfl) rfl ?_ | refine rl_val gw_none (ov_loada 1 ag26 rfl rfl rfl (by assumption)) rfl ?_
  refine rl_val gw_none (ov_move rfl) rfl ?_
  refine rl_val gw_none (ov_move rfl) rfl ?_
  refine rl_callv gw_none goes100 rfl (fun w1 hp => l8CanDigit_c u l xs _ rod d _ zu zl hGxs (hsxs.ext hp.ext0) zrod zd) rfl ?_
  refine rl_val gw_none (ov_not rfl) rfl ?_
  refine rl_nil ?_
  refine at_then ?_
  first | refine ct_dec rfl (fun h1 => ?_) (fun h1 => ?_) | refine ct_ndec rfl (fun h1 => ?_) (fun h1 => ?_) | refine ct_eq rfl (fun h1 => ?_) (fun h1 => ?_) | refine ct_ne rfl (fun h1 => ?_) (fun h1 => ?_) | refine ct_not rfl (fun h1 => ?_) (fun h1 => ?_) | refine ct_cond rfl (fun h1 => ?_) (fun h1 => ?_)
  ·
    refine ct_seq ?_
    refine ct_reg ?_
    refine rl_val gw_none (ov_build rfl (bu26_)) rfl ?_
    refine rl_store [] sz26 rfl rfl rfl rfl rfl (Nat.le_of_ble_eq_true rfl) ?_
    refine rl_val gw_none (ov_assign rfl) rfl ?_
    refine rl_nil ?_
    refine at_then ?_
    refine ct_ret ?_
    refine at_then_ret ?_
    refine at_ret2 Try.results38 (ro_cell 0 ag26 rfl rfl rfl) (ro_tmp rfl) (fun w1 hp => ?_)
    first | (rw [okR_no (by simpa using h1)]; exact RetSl.nil hp.ext0) | (rw [okR_yes hc]; exact RetSl.own 999 hp rfl hqd.2.2)
  ·
    have hc : takeDB u l xs rod d = true := by simpa using h1
    obtain ⟨hg, hr, hd, hC⟩ := takeDB_ok hc
    refine ct_skip ?_
    refine at_then ?_
    refine ct_seq ?_
    refine ct_reg ?_
    first | refine rl_val gw_none (ov_loadall 1 ag26 rfl rfl rfl) rfl ?_ | refine rl_val gw_none (ov_loadp 1 ag26 rfl rfl (vs := [_, _, _]) rfl rfl) rfl ?_ | refine rl_val gw_none (ov_loada 1 ag26 rfl rfl rfl (by assumption)) rfl ?_
    refine rl_val gw_none (ov_move rfl) rfl ?_
    refine rl_val gw_none (ov_move rfl) rfl ?_
    refine rl_calle (ι := (Option Nat × Nat × List Value × List BeadMove) × Nat × Nat × List Value) (fun q => .tuple #[sv q.1.1 q.1.2.2.2.length q.1.2.1, .agg [.int .i64 u, .int .i64 l, sv (some q.2.1) ((takeS (rod.toNat + 1) xs d).1).length q.2.2.1].toArray, .int .i64 ((takeS (rod.toNat + 1) xs d).2 : Nat)]) (fun q => [(q.1.1, 128, flat encBeadMove q.1.2.2.2 ++ q.1.2.2.1), (some q.2.1, 81, flat encIntA2 ((takeS (rod.toNat + 1) xs d).1) ++ q.2.2.2)]) (fun q => Sl 3 q.1.1 q.1.2.2.2.length q.1.2.1 (flat encBeadMove q.1.2.2.2) q.1.2.2.1 ∧ q.1.2.2.2.length ≤ 2 * (rod.toNat + 1) + 2 ∧ Sl 2 (some q.2.1) ((takeS (rod.toNat + 1) xs d).1).length q.2.2.1 (flat encIntA2 ((takeS (rod.toNat + 1) xs d).1)) q.2.2.2) goes101 rfl (fun w1 hp => l8Digit_c u l xs _ rod.toNat _ d _ zu zl hGxs (hsxs.ext hp.ext0) (by omega) hg hC) rfl (fun qd hqd => ?_)
    refine rl_val gw_none (ov_move rfl) rfl ?_
    refine rl_val gw_none (ov_extract rfl rfl) rfl ?_
    refine rl_val gw_none (ov_extract rfl rfl) rfl ?_
    refine rl_val gw_none (ov_extract rfl rfl) rfl ?_
    refine rl_alloc ze26 rfl (fun N3 => ?_)
    refine rl_val gw_none (ov_assign rfl) rfl ?_
    refine rl_store [] sz26 rfl rfl rfl rfl rfl (Nat.le_of_ble_eq_true rfl) ?_
    refine rl_val gw_none (ov_assign rfl) rfl ?_
    refine rl_nil ?_
    refine at_then ?_
    refine ct_seq ?_
    refine ct_reg ?_
    first | refine rl_val gw_none (ov_loadall 0 ag26 rfl rfl rfl) rfl ?_ | refine rl_val gw_none (ov_loadp 0 ag26 rfl rfl (vs := [_, _, _]) rfl rfl) rfl ?_ | refine rl_val gw_none (ov_loada 0 ag26 rfl rfl rfl (by assumption)) rfl ?_
    refine rl_store [_, _, _] sz26 rfl rfl rfl rfl rfl (Nat.le_of_ble_eq_true rfl) ?_
    refine rl_val gw_none (ov_assign rfl) rfl ?_
    refine rl_nil ?_
    refine at_then ?_
    refine ct_ret ?_
    refine at_ret2 Try.results38 (ro_cell 3 ag26 rfl rfl rfl) (ro_tmp rfl) (fun w1 hp => ?_)
    first | (rw [okR_no (by simpa using h1)]; exact RetSl.nil hp.ext0) | (rw [okR_yes hc]; exact RetSl.own 2 hp rfl hqd.2.2)

theorem sBorrowsOf_c (u : Int) (l : Int) (xs : List IntA2) (n : Int) (vxs : Value) (w : World) (zu : In64 u) (zl : In64 l) (hGxs : ∀ y ∈ xs, GIntA2 y) (hsxs : SR w 2 vxs xs.length (flat encIntA2 xs)) (zn : In64 n) : Calls Try.prog 31 ([.agg (List.toArray (α := Value) [.int .i64 u, .int .i64 l, vxs]), .int .i64 n]).toArray w (fun e w' => e = .returned (.tuple #[.int .i64 (if takeNB u l xs n = true then ((takeN xs n xs.length).2 : Nat) else 0), .bool (takeNB u l xs n)]) ∧ Ext w w') := by
  obtain ⟨axs, capxs, rfl, hcapxs, hmaxxs⟩ := hsxs.slice
  have hlenxs := hsxs.len_le
  refine calls_ct Try.func31 Try.ntmps31 rfl rfl ?_
  refine ct_seq ?_
  refine ct_reg ?_
  refine rl_box rfl rfl (fun N1 => ?_)
  refine rl_val gw_none (ov_assign rfl) rfl ?_
  refine rl_val gw_none (ov_assign rfl) rfl ?_
  refine rl_nil ?_
  refine at_then ?_
  refine ct_seq ?_
  refine ct_seq ?_
  refine ct_reg ?_
  first | refine rl_val gw_none (ov_loadall 0 ag26 rfl rfl rfl) rfl ?_ | refine rl_val gw_none (ov_loadp 0 ag26 rfl rfl (vs := [_, _, _]) rfl rfl) rfl ?_ | refine rl_val gw_none (ov_loada 0 ag26 rfl rfl rfl (by assumption)) rfl ?_
  refine rl_val gw_none (ov_move rfl) rfl ?_
  refine rl_callv gw_none goes89 rfl (fun w1 hp => l8Can_c u l xs _ n _ zu zl hGxs (hsxs.ext hp.ext0) zn) rfl ?_
  refine rl_val gw_none (ov_not rfl) rfl ?_
  refine rl_nil ?_
  refine at_then ?_
  first | refine ct_dec rfl (fun h1 => ?_) (fun h1 => ?_) | refine ct_ndec rfl (fun h1 => ?_) (fun h1 => ?_) | refine ct_eq rfl (fun h1 => ?_) (fun h1 => ?_) | refine ct_ne rfl (fun h1 => ?_) (fun h1 => ?_) | refine ct_not rfl (fun h1 => ?_) (fun h1 => ?_) | refine ct_cond rfl (fun h1 => ?_) (fun h1 => ?_)
  ·
    refine ct_seq ?_
    refine ct_reg ?_
    refine rl_val gw_none (ov_assign rfl) rfl ?_
    refine rl_val gw_none (ov_assign rfl) rfl ?_
    refine rl_nil ?_
    refine at_then ?_
    refine ct_ret ?_
    refine at_then_ret ?_
    refine at_ret2 Try.results31 (ro_tmp rfl) (ro_tmp rfl) (fun w1 hp => ?_)
    refine ⟨?_, hp.ext0⟩
    first | (rw [hc, if_pos rfl]; first | done | rfl) | (rw [show takeNB u l xs n = false by simpa using h1]; rfl)
  ·
    have hc : takeNB u l xs n = true := by simpa using h1
    refine ct_skip ?_
    refine at_then ?_
    refine ct_seq ?_
    refine ct_reg ?_
    first | refine rl_val gw_none (ov_loadall 0 ag26 rfl rfl rfl) rfl ?_ | refine rl_val gw_none (ov_loadp 0 ag26 rfl rfl (vs := [_, _, _]) rfl rfl) rfl ?_ | refine rl_val gw_none (ov_loada 0 ag26 rfl rfl rfl (by assumption)) rfl ?_
    refine rl_val gw_none (ov_move rfl) rfl ?_
    refine rl_calle (ι := (Option Nat × Nat × List Value × List BeadMove) × Nat × Nat × List Value) (fun q => .tuple #[sv q.1.1 q.1.2.2.2.length q.1.2.1, .agg [.int .i64 u, .int .i64 l, sv (some q.2.1) ((takeN xs n xs.length).1).length q.2.2.1].toArray, .int .i64 ((takeN xs n xs.length).2 : Nat)]) (fun q => [(q.1.1, 128, flat encBeadMove q.1.2.2.2 ++ q.1.2.2.1), (some q.2.1, 81, flat encIntA2 ((takeN xs n xs.length).1) ++ q.2.2.2)]) (fun q => Sl 3 q.1.1 q.1.2.2.2.length q.1.2.1 (flat encBeadMove q.1.2.2.2) q.1.2.2.1 ∧ q.1.2.2.2.length ≤ 200 ∧ Sl 2 (some q.2.1) ((takeN xs n xs.length).1).length q.2.2.1 (flat encIntA2 ((takeN xs n xs.length).1)) q.2.2.2) goes90 rfl (fun w1 hp => l8Number_c u l xs _ n _ zu zl hGxs (hsxs.ext hp.ext0) zn hc) rfl (fun qd hqd => ?_)
    refine rl_val gw_none (ov_move rfl) rfl ?_
    refine rl_val gw_none (ov_extract rfl rfl) rfl ?_
    refine rl_val gw_none (ov_extract rfl rfl) rfl ?_
    refine rl_val gw_none (ov_extract rfl rfl) rfl ?_
    refine rl_alloc ze26 rfl (fun N2 => ?_)
    refine rl_val gw_none (ov_assign rfl) rfl ?_
    refine rl_store [] sz26 rfl rfl rfl rfl rfl (Nat.le_of_ble_eq_true rfl) ?_
    refine rl_val gw_none (ov_assign rfl) rfl ?_
    refine rl_nil ?_
    refine at_then ?_
    refine ct_seq ?_
    refine ct_reg ?_
    refine rl_val gw_none (ov_move rfl) rfl ?_
    refine rl_val gw_none (ov_assign rfl) rfl ?_
    refine rl_val gw_none (ov_assign rfl) rfl ?_
    refine rl_nil ?_
    refine at_then ?_
    refine ct_ret ?_
    refine at_ret2 Try.results31 (ro_tmp rfl) (ro_tmp rfl) (fun w1 hp => ?_)
    refine ⟨?_, hp.ext0⟩
    first | (rw [hc, if_pos rfl]; first | done | rfl) | (rw [show takeNB u l xs n = false by simpa using h1]; rfl)
end Go.Proofs.Ytnnhkpecgchgiaa
