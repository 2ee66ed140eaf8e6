import Derived.Test.YtnnhkpecgchgiaaZa
import Derived.KernelRfl
set_option linter.unusedVariables false
set_option linter.unusedSimpArgs false
namespace Go.Proofs.Ytnnhkpecgchgiaa
open Go Go.RowKit K
theorem l21Look_c (u : Int) (l : Int) (xs : List IntA2) (vxs : Value) (w : World) (zu : In64 u) (zl : In64 l) (hGxs : ∀ y ∈ xs, GIntA2 y) (hsxs : SR w 2 vxs xs.length (flat encIntA2 xs)) (hg : goodB u l xs = true) : Calls Try.prog 75 ([.agg (List.toArray (α := Value) [.int .i64 u, .int .i64 l, vxs, .slice none 0 0, .slice none 0 0, .int .i64 0, .int .i64 0])]).toArray w (fun e w' => ∃ q : (Nat × Nat × List Value) × (Option Nat × Nat × List Value) × (Option Nat × Nat × List Value), (Sl 2 (some q.1.1) xs.length q.1.2.1 (flat encIntA2 xs) q.1.2.2 ∧ Sl 1 q.2.1.1 xs.length q.2.1.2.1 (ints (List.replicate xs.length (5 : Int))) q.2.1.2.2 ∧ Sl 1 q.2.2.1 xs.length q.2.2.2.1 (ints (digL (numF xs) xs.length)) q.2.2.2.2) ∧ e = .returned (.agg (List.toArray (α := Value) [.int .i64 u, .int .i64 l, sv (some q.1.1) xs.length q.1.2.1, sv q.2.1.1 xs.length q.2.1.2.1, sv q.2.2.1 xs.length q.2.2.2.1, .int .i64 0, .int .i64 0])) ∧ Hp ⟨w, []⟩ [(some q.1.1, 81, flat encIntA2 xs ++ q.1.2.2), (q.2.1.1, 3, ints (List.replicate xs.length (5 : Int)) ++ q.2.1.2.2), (q.2.2.1, 3, ints (digL (numF xs) xs.length) ++ q.2.2.2.2)] w') := by
  obtain ⟨axs, capxs, rfl, hcapxs, hmaxxs⟩ := hsxs.slice
  have hlenxs := hsxs.len_le
  have hf := goodB_f hg
  have h8 := (frameB_ul hf).2.2.2
  have hl1 := (frameB_ul hf).2.2.1
  have hnm := goodB_num hg
  refine calls_ct Try.func75 Try.ntmps75 rfl rfl ?_
  refine ct_seq ?_
  refine ct_reg ?_
  refine rl_box rfl rfl (fun N1 => ?_)
  refine rl_alloc ze29 rfl (fun N2 => ?_)
  refine rl_nil ?_
  refine at_then ?_
  refine ct_seq ?_
  refine ct_fl 11 [0, 1, 5, 6, 7, 8, 2, 3, 4, 9, 10, 11] ⟨6, [6], [], [7, 8, 10], [1, 3, 5], []⟩ (fun q => if q = 7 then (⟨3, [], fun N => sv (some N) 0 0⟩ : Soft) else if q = 8 then (⟨3, [], fun N => sv (some N) 0 0⟩ : Soft) else if q = 10 then (⟨29, [.int .i64 0, .int .i64 0, .slice none 0 0, .slice none 0 0, .slice none 0 0, .int .i64 0, .int .i64 0], fun N => .pointer (some ⟨N, 0, none⟩)⟩ : Soft) else ⟨0, [], fun _ => undef⟩) (by kernel_rfl) (by kernel_rfl) ?_
  refine qf_step rfl ?_
  refine qg_val rfl gw_none (fun _ => (ov_field fo29_0 rfl)) rfl ?_
  refine qf_step rfl ?_
  first | refine qg_valm rfl rfl gw_none (ov_loadall 1 ag26 rfl rfl rfl) rfl ?_ | refine qg_valm rfl rfl gw_none (ov_loadp 1 ag26 rfl rfl (vs := [_, _, _]) rfl rfl) rfl ?_ | refine qg_valm rfl rfl gw_none (ov_loada 1 ag26 rfl rfl rfl (by assumption)) rfl ?_
  refine qf_step rfl ?_
  refine qg_val rfl gw_none (fun _ => (ov_field fo29_3 rfl)) rfl ?_
  refine qf_step rfl ?_
  first | refine qg_valm rfl rfl gw_none (ov_load 1 sc3 rfl rfl rfl) rfl ?_ | refine qg_valm rfl rfl gw_none (ov_load 1 sc3 rfl rfl (by assumption)) rfl ?_
  refine qf_step rfl ?_
  refine qg_val rfl gw_none (fun _ => (ov_field fo29_4 rfl)) rfl ?_
  refine qf_step rfl ?_
  first | refine qg_valm rfl rfl gw_none (ov_load 1 sc3 rfl rfl rfl) rfl ?_ | refine qg_valm rfl rfl gw_none (ov_load 1 sc3 rfl rfl (by assumption)) rfl ?_
  refine qf_mark ⟨⟨1, rfl, soft_bslice rfl rfl Try.underlying27 ze3 sz3 rfl rfl rfl rfl rfl rfl rfl⟩, ⟨⟨2, rfl, soft_bslice rfl rfl Try.underlying27 ze3 sz3 rfl rfl rfl rfl rfl rfl rfl⟩, ⟨⟨4, rfl, soft_alloc rfl rfl ze29⟩, True.intro⟩⟩⟩ ?_
  refine qg_callsl (ι := Nat × List Value) (fun i bo => .agg [.int .i64 u, .int .i64 l, sv bo (xs).length i.1].toArray) (fun i => flat encIntA2 (xs) ++ i.2) (fun i bo => Sl 2 bo (xs).length i.1 (flat encIntA2 (xs)) i.2) rfl rfl rfl goes93 rfl (fun w1 hp => l2Own_c u l xs _ _ zu zl hGxs (hsxs.ext hp.ext0) h8) rfl (fun iow boow hsow => ?_)
  obtain ⟨bow, rfl⟩ := Sl.some hsow (by omega)
  refine qf_step rfl ?_
  refine qg_soft rfl rfl rfl (fun N3 => ?_)
  refine qf_step rfl ?_
  refine qg_soft rfl rfl rfl (fun N4 => ?_)
  refine qf_step rfl ?_
  refine qg_val rfl gw_none (fun _ => (ov_build rfl (bu29_0_1_2_3_4 _ _ _ _ _ _ _ _ _ _ _ _ _))) rfl ?_
  refine qf_step rfl ?_
  refine qg_soft rfl rfl rfl (fun N5 => ?_)
  refine qf_nil ?_
  refine rl_store [] sz29 rfl rfl rfl rfl rfl (Nat.le_of_ble_eq_true rfl) ?_
  refine rl_nil ?_
  refine at_then ?_
  refine ct_seq ?_
  refine ct_seq ?_
  refine ct_reg ?_
  refine rl_val gw_none (ov_assign rfl) rfl ?_
  refine rl_nil ?_
  refine at_then ?_
  refine ct_block ?_
  refine ct_loopR (ι := Nat × (Option Nat × Nat × List Value) × (Option Nat × Nat × List Value)) (fun p0 => [(4, .int .i64 p0.1)]) [(1, _), (2, _), (3, _)] (fun p0 => [(p0.2.1.1, 3, ints (List.replicate p0.1 (5 : Int)) ++ p0.2.1.2.2), (p0.2.2.1, 3, ints ((digL (numF xs) xs.length).take p0.1) ++ p0.2.2.2.2), (some N5, 29, [.int .i64 u, .int .i64 l, sv (some bow) xs.length iow.1, sv p0.2.1.1 (List.replicate p0.1 (5 : Int)).length p0.2.1.2.1, sv p0.2.2.1 ((digL (numF xs) xs.length).take p0.1).length p0.2.2.2.1, .int .i64 0, .int .i64 0]), _, _, _]) (fun p0 => p0.1 ≤ xs.length ∧ Sl 1 p0.2.1.1 (List.replicate p0.1 (5 : Int)).length p0.2.1.2.1 (ints (List.replicate p0.1 (5 : Int))) p0.2.1.2.2 ∧ Sl 1 p0.2.2.1 ((digL (numF xs) xs.length).take p0.1).length p0.2.2.2.1 (ints ((digL (numF xs) xs.length).take p0.1)) p0.2.2.2.2) (fun p0 => xs.length - p0.1) ((0, (some N3, 0, []), (some N4, 0, []))) (Sub.cons rfl (Sub.cons rfl (Sub.cons rfl Sub.nil))) (fun _ hp => ((Hp.sub (Hp.pull (Hp.pull (Hp.pull (Hp.pull (Hp.pull (Hp.pull hp 4 rfl) 5 rfl) 5 rfl) 3 rfl) 4 rfl) 5 rfl) (List.sublist_append_left [_, _, _, _, _, _] _))).cong rfl) (by (repeat' (first | exact Sub.nil | refine Sub.cons ?_ ?_)); all_goals (first | rfl | exact lkInt rfl (by omega))) ⟨Nat.zero_le _, Sl.lit rfl (Nat.zero_le _), Sl.lit rfl (Nat.zero_le _)⟩ (fun p0 hp0 => ?_)
  obtain ⟨k, ⟨bc, cc, pc⟩, bi, ci, pi⟩ := p0
  obtain ⟨hk, hsc, hsi⟩ := hp0
  dsimp only at hk hsc hsi ⊢
  have hil : (digL (numF xs) xs.length).length = xs.length := digL_len _ _
  refine ct_seq ?_
  refine ct_seq ?_
  refine ct_reg ?_
  refine rl_val gw_none (ov_move rfl) rfl ?_
  refine rl_val gw_none (ov_field fo29_0 rfl) rfl ?_
  refine rl_val gw_none (ov_field fo26_2 rfl) rfl ?_
  first | refine rl_val gw_none (ov_load 4 sc22 rfl rfl rfl) rfl ?_ | refine rl_val gw_none (ov_load 4 sc22 rfl rfl (by assumption)) rfl ?_
  refine rl_val gw_none (ov_len Try.underlying22 rfl) rfl ?_
  refine rl_val gw_none (ov_lss rfl rfl) rfl ?_
  refine rl_nil ?_
  refine at_then ?_
  first | refine ct_dec rfl (fun h1 => ?_) (fun h1 => ?_) | refine ct_ndec rfl (fun h1 => ?_) (fun h1 => ?_) | refine ct_eq rfl (fun h1 => ?_) (fun h1 => ?_) | refine ct_ne rfl (fun h1 => ?_) (fun h1 => ?_) | refine ct_not rfl (fun h1 => ?_) (fun h1 => ?_) | refine ct_cond rfl (fun h1 => ?_) (fun h1 => ?_)
  ·
    have hk2 : k < xs.length := by omega
    obtain ⟨b, o, rfl, hel⟩ := hsxs.elem encIntA2_len (by omega) hk2
    have hx := getLt hk2
    generalize xs[k] = r at *
    have hcx := hel k r hx
    obtain ⟨c0, c1, _⟩ := hel k r hx
    have hrg := good_at hg hx
    have hrv := rvAt_eq hx
    refine ct_skip ?_
    refine at_then ?_
    refine ct_seq ?_
    refine ct_block ?_
    refine ct_seq ?_
    refine ct_reg ?_
    refine rl_val gw_none (ov_field fo29_1 rfl) rfl ?_
    first | refine rl_val gw_none (ov_load 2 sc27 rfl rfl rfl) rfl ?_ | refine rl_val gw_none (ov_load 2 sc27 rfl rfl (by assumption)) rfl ?_
    refine rl_bslice Try.underlying27 ze3 sz3 rfl rfl rfl rfl rfl rfl (fun N6 => ?_)
    refine rl_appT (ints) (ints_append) [_] (acc := (List.replicate k (5 : Int))) Try.underlying27 ze3 sz3 rfl rfl by3 rfl rfl rfl hsc ([(5 : Int)]) rfl (fun w1 hp => hp.sr1 0 rfl rfl (by decide)) (ints_one _) (by unfold maxLen; simp; omega) (by simp; omega) rfl (fun boq1 capq1 padq1 hsq1 => ?_)
    refine rl_val gw_none (ov_field fo29_1 rfl) rfl ?_
    refine rl_store [_, _, _] sz27 rfl rfl rfl rfl rfl (Nat.le_of_ble_eq_true rfl) ?_
    refine rl_nil ?_
    refine at_then ?_
    refine ct_fl 10 [0, 1, 2, 3, 4, 5, 6, 7, 8, 9, 10, 11, 12] ⟨9, [], [], [9], [1, 4, 7, 8], []⟩ (fun q => if q = 9 then (⟨3, [Value.int .i64 (5 * r.a + r.b)], fun N => sv (some N) 1 1⟩ : Soft) else ⟨0, [], fun _ => undef⟩) (by kernel_rfl) (by kernel_rfl) ?_
    refine qf_step rfl ?_
    refine qg_val rfl gw_none (fun _ => (ov_field fo29_2 rfl)) rfl ?_
    refine qf_step rfl ?_
    first | refine qg_valm rfl rfl gw_none (ov_load 3 sc27 rfl rfl rfl) rfl ?_ | refine qg_valm rfl rfl gw_none (ov_load 3 sc27 rfl rfl (by assumption)) rfl ?_
    refine qf_step rfl ?_
    refine qg_val rfl gw_none (fun _ => (ov_field fo29_0 rfl)) rfl ?_
    refine qf_step rfl ?_
    refine qg_val rfl gw_none (fun _ => (ov_field fo26_2 rfl)) rfl ?_
    refine qf_step rfl ?_
    first | refine qg_valm rfl rfl gw_none (ov_load 5 sc22 rfl rfl rfl) rfl ?_ | refine qg_valm rfl rfl gw_none (ov_load 5 sc22 rfl rfl (by assumption)) rfl ?_
    refine qf_step rfl ?_
    refine qg_val rfl gw_none (fun _ => (ov_move rfl)) rfl ?_
    refine qf_step rfl ?_
    first | refine qg_val rfl gw_none (fun _ => (ov_ix Try.underlying22 sz81 rfl rfl _ rfl (by omega))) rfl ?_ | refine qg_val rfl gw_none (fun _ => (ov_ix Try.underlying22 sz81 rfl rfl (k) (by omega) (by omega))) rfl ?_
    refine qf_step rfl ?_
    first | refine qg_valm rfl rfl gw_none (ov_loadaw ag81 rfl rfl (by assumption)) rfl ?_ | refine qg_valm rfl rfl gw_none (ov_loadall 0 ag81 rfl rfl rfl) rfl ?_ | refine qg_valm rfl rfl gw_none (ov_loadall 1 ag81 rfl rfl rfl) rfl ?_ | refine qg_valm rfl rfl gw_none (ov_loadall 2 ag81 rfl rfl rfl) rfl ?_ | refine qg_valm rfl rfl gw_none (ov_loadall 3 ag81 rfl rfl rfl) rfl ?_
    refine qf_step rfl ?_
    refine qg_callv rfl rfl gw_none goes84 rfl (fun w1 hp => l2Value_c r _ (by omega)) rfl ?_
    refine qf_mark ⟨⟨0, rfl, soft_bslice rfl rfl Try.underlying27 ze3 sz3 rfl rfl rfl rfl rfl rfl rfl⟩, True.intro⟩ ?_
    refine qg_soft rfl rfl rfl (fun N7 => ?_)
    refine qf_nil ?_
    refine rl_appT (ints) (ints_append) [_, _, _] (acc := ((digL (numF xs) xs.length).take k)) Try.underlying27 ze3 sz3 rfl rfl by3 rfl rfl rfl hsi ([5 * r.a + r.b]) rfl (fun w1 hp => hp.sr1 0 rfl rfl (by decide)) (ints_one _) (by unfold maxLen; simp; omega) (by simp; omega) rfl (fun boq2 capq2 padq2 hsq2 => ?_)
    refine rl_val gw_none (ov_field fo29_2 rfl) rfl ?_
    refine rl_store [_, _, _, _] sz27 rfl rfl rfl rfl rfl (Nat.le_of_ble_eq_true rfl) ?_
    refine rl_nil ?_
    refine at_block ?_
    refine at_then ?_
    refine ct_reg ?_
    refine rl_val gw_none (ov_move rfl) rfl ?_
    refine rl_val gw_none (ov_add rfl rfl (by omega)) rfl ?_
    refine rl_val gw_none (ov_assign rfl) rfl ?_
    refine rl_nil ?_
    have hc1 : List.replicate (k + 1) (5 : Int) = List.replicate k 5 ++ [5] := List.replicate_succ'
    have hi1 := take_snoc (digL_num hg hk2)
    rw [hrv] at hi1
    exact at_backR (k + 1, (boq1, capq1, padq1), (boq2, capq2, padq2)) ⟨hk2, by dsimp only; rw [hc1]; exact hsq1, by dsimp only; rw [hi1]; exact hsq2⟩ (by dsimp only; omega) (by (repeat' (first | exact Sub.nil | refine Sub.cons ?_ ?_)); all_goals (first | rfl | exact lkInt rfl (by omega))) (Sub.cons rfl (Sub.cons rfl (Sub.cons rfl Sub.nil))) (fun _ hp => ((Hp.sub (Hp.pull (Hp.pull (Hp.pull (Hp.pull (Hp.pull (Hp.pull hp 7 rfl) 7 rfl) 7 rfl) 7 rfl) 7 rfl) 7 rfl) (List.sublist_append_left [_, _, _, _, _, _] _))).cong (by dsimp only; rw [hc1, hi1]; try rfl))
  ·
    have hke : k = xs.length := by omega
    subst hke
    refine ct_exit ?_
    refine at_then_exit ?_
    refine at_then_exit ?_
    refine at_block_hit ?_
    refine at_then ?_
    refine ct_seq ?_
    refine ct_reg ?_
    first | refine rl_val gw_none (ov_loadall 2 ag29 rfl rfl rfl) rfl ?_ | refine rl_val gw_none (ov_loadp 2 ag29 rfl rfl (vs := [_, _, _, _, _, _, _]) rfl rfl) rfl ?_ | refine rl_val gw_none (ov_loada 2 ag29 rfl rfl rfl (by assumption)) rfl ?_
    refine rl_store [_, _, _, _, _] sz29 rfl rfl rfl rfl rfl (Nat.le_of_ble_eq_true rfl) ?_
    refine rl_nil ?_
    refine at_then ?_
    refine ct_ret ?_
    refine at_ret1 Try.results75 (ro_cell 5 ag29 rfl rfl rfl) (fun w1 hp => ?_)
    have ht : (digL (numF xs) xs.length).take xs.length = digL (numF xs) xs.length := List.take_of_length_le (by omega)
    rw [ht, hil] at hsi
    rw [List.length_replicate] at hsc
    exact ⟨((bow, iow.1, iow.2), (bc, cc, pc), (bi, ci, pi)), ⟨hsow, hsc, hsi⟩, (by rw [ht, List.length_replicate, hil]; try rfl), ((Hp.sub (Hp.pull (Hp.pull (Hp.pull hp 1 rfl) 1 rfl) 3 rfl) (List.sublist_append_left [_, _, _] _))).cong (by rw [ht])⟩
end Go.Proofs.Ytnnhkpecgchgiaa
