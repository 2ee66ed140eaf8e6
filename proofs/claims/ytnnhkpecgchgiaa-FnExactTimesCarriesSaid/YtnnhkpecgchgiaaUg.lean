import Derived.Test.YtnnhkpecgchgiaaUf
import Derived.KernelRfl
set_option linter.unusedVariables false
set_option linter.unusedSimpArgs false
namespace Go.Proofs.Ytnnhkpecgchgiaa
open Go Go.RowKit K
theorem sCarriesOf_c (u : Int) (l : Int) (xs : List IntA2) (n : Int) (vxs : Value) (w : World) (zu : In64 u) (zl : In64 l) (hGxs : ∀ y ∈ xs, GIntA2 y) (hsxs : SR w 2 vxs xs.length (flat encIntA2 xs)) (zn : In64 n) : Calls Try.prog 33 ([.agg (List.toArray (α := Value) [.int .i64 u, .int .i64 l, vxs]), .int .i64 n]).toArray w (fun e w' => e = .returned (.tuple #[.int .i64 (if addNB u l xs n = true then ((addN xs n xs.length).2 : Nat) else 0), .bool (addNB u l xs n)]) ∧ Ext w w') := by
  obtain ⟨axs, capxs, rfl, hcapxs, hmaxxs⟩ := hsxs.slice
  have hlenxs := hsxs.len_le
  refine calls_ct Try.func33 Try.ntmps33 rfl rfl ?_
  refine ct_seq ?_
  refine ct_reg ?_
  refine rl_box rfl rfl (fun N1 => ?_)
  refine rl_val gw_none (ov_assign rfl) rfl ?_
  refine rl_val gw_none (ov_assign rfl) rfl ?_
  refine rl_nil ?_
  refine at_then ?_
  refine ct_seq ?_
  refine ct_seq ?_
  refine ct_reg ?_
  first | refine rl_val gw_none (ov_loadall 0 ag26 rfl rfl rfl) rfl ?_ | refine rl_val gw_none (ov_loadp 0 ag26 rfl rfl (vs := [_, _, _]) rfl rfl) rfl ?_ | refine rl_val gw_none (ov_loada 0 ag26 rfl rfl rfl (by assumption)) rfl ?_
  refine rl_val gw_none (ov_move rfl) rfl ?_
  refine rl_callv gw_none goes92 rfl (fun w1 hp => l6Can_c u l xs _ n _ zu zl hGxs (hsxs.ext hp.ext0) zn) rfl ?_
  refine rl_val gw_none (ov_not rfl) rfl ?_
  refine rl_nil ?_
  refine at_then ?_
  first | refine ct_dec rfl (fun h1 => ?_) (fun h1 => ?_) | refine ct_ndec rfl (fun h1 => ?_) (fun h1 => ?_) | refine ct_eq rfl (fun h1 => ?_) (fun h1 => ?_) | refine ct_ne rfl (fun h1 => ?_) (fun h1 => ?_) | refine ct_not rfl (fun h1 => ?_) (fun h1 => ?_) | refine ct_cond rfl (fun h1 => ?_) (fun h1 => ?_)
  ·
    refine ct_seq ?_
    refine ct_reg ?_
    refine rl_val gw_none (ov_assign rfl) rfl ?_
    refine rl_val gw_none (ov_assign rfl) rfl ?_
    refine rl_nil ?_
    refine at_then ?_
    refine ct_ret ?_
    refine at_then_ret ?_
    refine at_ret2 Try.results33 (ro_tmp rfl) (ro_tmp rfl) (fun w1 hp => ?_)
    refine ⟨?_, hp.ext0⟩
    first | (rw [hc, if_pos rfl]; first | done | rfl) | (rw [show addNB u l xs n = false by simpa using h1]; rfl)
  ·
    have hc : addNB u l xs n = true := by simpa using h1
    obtain ⟨hg, hnn, hlt⟩ := addNB_ok hc
    have hf := goodB_f hg
    have h8 := (frameB_ul hf).2.2.2
    have hl1 := (frameB_ul hf).2.2.1
    have hnm := goodB_num hg
    refine ct_skip ?_
    refine at_then ?_
    refine ct_seq ?_
    refine ct_reg ?_
    first | refine rl_val gw_none (ov_loadall 0 ag26 rfl rfl rfl) rfl ?_ | refine rl_val gw_none (ov_loadp 0 ag26 rfl rfl (vs := [_, _, _]) rfl rfl) rfl ?_ | refine rl_val gw_none (ov_loada 0 ag26 rfl rfl rfl (by assumption)) rfl ?_
    refine rl_callsl (ι := Nat × List Value) (fun i bo => .agg [.int .i64 u, .int .i64 l, sv bo (xs).length i.1].toArray) (fun i => flat encIntA2 (xs) ++ i.2) (fun i bo => Sl 2 bo (xs).length i.1 (flat encIntA2 (xs)) i.2) goes93 rfl (fun w1 hp => l2Own_c u l xs _ _ zu zl hGxs (hsxs.ext hp.ext0) h8) rfl (fun iow boow hsow => ?_)
    obtain ⟨bow, rfl⟩ := Sl.some hsow (by omega)
    refine rl_alloc ze26 rfl (fun N2 => ?_)
    refine rl_val gw_none (ov_assign rfl) rfl ?_
    refine rl_store [] sz26 rfl rfl rfl rfl rfl (Nat.le_of_ble_eq_true rfl) ?_
    refine rl_nil ?_
    refine at_then ?_
    refine ct_seq ?_
    refine ct_seq ?_
    refine ct_reg ?_
    refine rl_val gw_none (ov_assign rfl) rfl ?_
    refine rl_nil ?_
    refine at_then ?_
    refine ct_block ?_
    refine ct_loopR (ι := Nat × Nat × Nat × List Value) (fun p0 => [(6, .int .i64 ((addN xs n p0.1).2 : Nat)), (8, .int .i64 p0.1)]) [(1, _), (2, _), (4, _), (5, _), (7, _)] (fun p0 => [(some N2, 26, [.int .i64 u, .int .i64 l, sv (some p0.2.1) (addN xs n p0.1).1.length p0.2.2.1]), (some p0.2.1, 81, flat encIntA2 (addN xs n p0.1).1 ++ p0.2.2.2), _]) (fun p0 => p0.1 ≤ xs.length ∧ Sl 2 (some p0.2.1) (addN xs n p0.1).1.length p0.2.2.1 (flat encIntA2 (addN xs n p0.1).1) p0.2.2.2) (fun p0 => xs.length - p0.1) ((0, bow, iow.1, iow.2)) (Sub.cons rfl (Sub.cons rfl (Sub.cons rfl (Sub.cons rfl (Sub.cons rfl Sub.nil))))) (fun _ hp => (Hp.sub (Hp.pull (Hp.pull (Hp.pull hp 2 rfl) 2 rfl) 2 rfl) (List.sublist_append_left [_, _, _] _))) (by (repeat' (first | exact Sub.nil | refine Sub.cons ?_ ?_)); all_goals (first | rfl | exact lkInt rfl (by omega))) ⟨Nat.zero_le _, hsow⟩ (fun p0 hp0 => ?_)
    obtain ⟨k, br, rc, rp⟩ := p0
    obtain ⟨hk, hsr2⟩ := hp0
    dsimp only at hk hsr2 ⊢
    have hgk := addN_good hg hnn.1 hlt k hk
    have hgA := hgk.1
    have hlA := hgk.2.1
    refine ct_seq ?_
    refine ct_seq ?_
    refine ct_reg ?_
    refine rl_val gw_none (ov_move rfl) rfl ?_
    refine rl_val gw_none (ov_field fo26_2 rfl) rfl ?_
    first | refine rl_val gw_none (ov_load 2 sc22 rfl rfl rfl) rfl ?_ | refine rl_val gw_none (ov_load 2 sc22 rfl rfl (by assumption)) rfl ?_
    refine rl_val gw_none (ov_len Try.underlying22 rfl) rfl ?_
    refine rl_val gw_none (ov_lss rfl rfl) rfl ?_
    refine rl_nil ?_
    refine at_then ?_
    first | refine ct_dec rfl (fun h2 => ?_) (fun h2 => ?_) | refine ct_ndec rfl (fun h2 => ?_) (fun h2 => ?_) | refine ct_eq rfl (fun h2 => ?_) (fun h2 => ?_) | refine ct_ne rfl (fun h2 => ?_) (fun h2 => ?_) | refine ct_not rfl (fun h2 => ?_) (fun h2 => ?_) | refine ct_cond rfl (fun h2 => ?_) (fun h2 => ?_)
    ·
      have hk2 : k < xs.length := by omega
      have hCk := addN_C hg hnn.1 hlt hk2
      have hck := cntK_add hgA hCk
      have hA8 := hgk.2.2.2
      refine ct_skip ?_
      refine at_then ?_
      refine ct_seq ?_
      refine ct_block ?_
      refine ct_seq ?_
      refine ct_reg ?_
      first | refine rl_val gw_none (ov_loadall 2 ag26 rfl rfl rfl) rfl ?_ | refine rl_val gw_none (ov_loadp 2 ag26 rfl rfl (vs := [_, _, _]) rfl rfl) rfl ?_ | refine rl_val gw_none (ov_loada 2 ag26 rfl rfl rfl (by assumption)) rfl ?_
      refine rl_val gw_none (ov_move rfl) rfl ?_
      refine rl_val gw_none (ov_move rfl) rfl ?_
      refine rl_callv gw_none goes94 rfl (fun w1 hp => l6At_c u l xs _ n k _ _ zu zl hGxs (hsxs.ext hp.ext0) rfl hk2 h8 (by omega)) rfl ?_
      refine rl_val gw_none (ov_assign rfl) rfl ?_
      refine rl_nil ?_
      refine at_then ?_
      refine ct_seq ?_
      refine ct_seq ?_
      refine ct_reg ?_
      refine rl_val gw_none (ov_move rfl) rfl ?_
      refine rl_val gw_none (ov_assign rfl) rfl ?_
      refine rl_nil ?_
      refine at_then ?_
      refine ct_block ?_
      refine ct_loopR (ι := Nat × Int × Int) (fun p1 => [(6, .int .i64 p1.2.2), (9, .int .i64 p1.2.1), (10, .int .i64 p1.1)]) [(1, _), (2, _), (4, _), (5, _), (7, _), (8, _)] (fun _ => _) (fun p1 => p1.1 ≤ k ∧ 0 ≤ p1.2.2 ∧ p1.2.2 ≤ 200 - p1.1 ∧ (0 ≤ p1.2.1 ∧ p1.2.1 ≤ 9) ∧ p1.2.2 + (cntK (addN xs n k).1 p1.1 p1.2.1 : Nat) = ((addN xs n k).2 : Nat) + (cntK (addN xs n k).1 k (dg n xs.length k) : Nat)) (fun p1 => p1.1) ((k, (dg n xs.length k), ((addN xs n k).2 : Nat))) (Sub.cons rfl (Sub.cons rfl (Sub.cons rfl (Sub.cons rfl (Sub.cons rfl (Sub.cons rfl Sub.nil)))))) (fun _ hq => hq) (by (repeat' (first | exact Sub.nil | refine Sub.cons ?_ ?_)); all_goals (first | rfl | exact lkInt rfl (by omega))) ⟨Nat.le_refl _, by dsimp only; omega, by dsimp only; omega, dg_bd _ _ _, rfl⟩ (fun p1 hp1 => ?_)
      obtain ⟨j, e, c⟩ := p1
      obtain ⟨hj, hc0, hc2, he, hcn⟩ := hp1
      dsimp only at hj hc0 hc2 he hcn ⊢
      refine ct_seq ?_
      refine ct_seq ?_
      refine ct_reg ?_
      refine rl_val gw_none (ov_move rfl) rfl ?_
      refine rl_val gw_none (ov_gtr rfl rfl) rfl ?_
      refine rl_val gw_none (ov_move rfl) rfl ?_
      refine rl_split (t := 33) rfl (fun g1 => ?_) (fun g1 => ?_)
      ·
        have hj0 : 0 < j := by simpa using g1
        obtain ⟨p, rfl⟩ : ∃ p, j = p + 1 := ⟨j - 1, by omega⟩
        have hx := getLt (show p + 1 < (addN xs n k).1.length by omega)
        have hrg := good_at hgA hx
        have hrv := rvAt_eq hx
        generalize (addN xs n k).1[p + 1] = r at *
        refine rl_val (gw_some rfl rfl g1) (ov_field fo26_2 rfl) rfl ?_
        first | refine rl_val (gw_some rfl rfl g1) (ov_load 0 sc22 rfl rfl rfl) rfl ?_ | refine rl_val (gw_some rfl rfl g1) (ov_load 0 sc22 rfl rfl (by assumption)) rfl ?_
        refine rl_val (gw_some rfl rfl g1) (ov_move rfl) rfl ?_
        first | refine rl_val (gw_some rfl rfl g1) (ov_ix Try.underlying22 sz81 rfl rfl _ rfl (by omega)) rfl ?_ | refine rl_val (gw_some rfl rfl g1) (ov_ix Try.underlying22 sz81 rfl rfl (p + 1) (by omega) (by omega)) rfl ?_
        refine rl_val (gw_some rfl rfl g1) (ov_loada 1 ag81 rfl rfl (vs := encIntA2 r) rfl (flatCells encIntA2_len hx _)) rfl ?_
        refine rl_callv (gw_some rfl rfl g1) goes84 rfl (fun w1 hp => l2Value_c r _ (by omega)) rfl ?_
        refine rl_val (gw_some rfl rfl g1) (ov_move rfl) rfl ?_
        refine rl_val (gw_some rfl rfl g1) (ov_add rfl rfl (by omega)) rfl ?_
        refine rl_val (gw_some rfl rfl g1) (ov_gtr rfl rfl) rfl ?_
        refine rl_val gw_none (ov_pick_t rfl g1 rfl) rfl ?_
        refine rl_nil ?_
        refine at_then ?_
        first | refine ct_dec rfl (fun h3 => ?_) (fun h3 => ?_) | refine ct_ndec rfl (fun h3 => ?_) (fun h3 => ?_) | refine ct_eq rfl (fun h3 => ?_) (fun h3 => ?_) | refine ct_ne rfl (fun h3 => ?_) (fun h3 => ?_) | refine ct_not rfl (fun h3 => ?_) (fun h3 => ?_) | refine ct_cond rfl (fun h3 => ?_) (fun h3 => ?_)
        ·
          refine ct_skip ?_
          refine at_then ?_
          refine ct_seq ?_
          refine ct_block ?_
          refine ct_seq ?_
          refine ct_reg ?_
          refine rl_val gw_none (ov_move rfl) rfl ?_
          refine rl_val gw_none (ov_add rfl rfl (by omega)) rfl ?_
          refine rl_val gw_none (ov_assign rfl) rfl ?_
          refine rl_nil ?_
          refine at_then ?_
          refine ct_reg ?_
          refine rl_val gw_none (ov_assign rfl) rfl ?_
          refine rl_nil ?_
          refine at_block ?_
          refine at_then ?_
          refine ct_reg ?_
          refine rl_val gw_none (ov_move rfl) rfl ?_
          refine rl_val gw_none (ov_sub rfl rfl (by omega)) rfl ?_
          refine rl_val gw_none (ov_assign rfl) rfl ?_
          refine rl_nil ?_
          have hcy := cntK_yes (xs := (addN xs n k).1) (k := p) (d := e) (by omega)
          exact at_backR (p, 1, c + 1) ⟨by dsimp only; omega, by dsimp only; omega, by dsimp only; omega, by dsimp only; omega, by dsimp only; omega⟩ (by dsimp only; omega) (by (repeat' (first | exact Sub.nil | refine Sub.cons ?_ ?_)); all_goals (first | rfl | exact lkInt rfl (by omega))) (Sub.cons rfl (Sub.cons rfl (Sub.cons rfl (Sub.cons rfl (Sub.cons rfl (Sub.cons rfl Sub.nil)))))) (fun _ hq => hq)
        ·
          have hcz := cntK_no (xs := (addN xs n k).1) (k := p) (d := e) (by omega)
          refine ct_exit ?_
          refine at_then_exit ?_
          refine at_then_exit ?_
          refine at_block_hit ?_
          refine at_then ?_
          refine ct_seq ?_
          refine ct_fl 12 [0, 1, 2, 3, 4, 5, 6, 7, 8, 9, 10, 11, 12] ⟨6, [6], [], [10], [0, 2, 5], []⟩ (fun q => if q = 10 then (⟨26, [.int .i64 0, .int .i64 0, .slice none 0 0], fun N => .pointer (some ⟨N, 0, none⟩)⟩ : Soft) else ⟨0, [], fun _ => undef⟩) (by kernel_rfl) (by kernel_rfl) ?_
          refine qf_step rfl ?_
          first | refine qg_valm rfl rfl gw_none (ov_loadall 0 ag26 rfl rfl rfl) rfl ?_ | refine qg_valm rfl rfl gw_none (ov_loadp 0 ag26 rfl rfl (vs := [_, _, _]) rfl rfl) rfl ?_ | refine qg_valm rfl rfl gw_none (ov_loada 0 ag26 rfl rfl rfl (by assumption)) rfl ?_
          refine qf_step rfl ?_
          refine qg_val rfl gw_none (fun _ => (ov_move rfl)) rfl ?_
          refine qf_step rfl ?_
          first | refine qg_valm rfl rfl gw_none (ov_loadall 2 ag26 rfl rfl rfl) rfl ?_ | refine qg_valm rfl rfl gw_none (ov_loadp 2 ag26 rfl rfl (vs := [_, _, _]) rfl rfl) rfl ?_ | refine qg_valm rfl rfl gw_none (ov_loada 2 ag26 rfl rfl rfl (by assumption)) rfl ?_
          refine qf_step rfl ?_
          refine qg_val rfl gw_none (fun _ => (ov_move rfl)) rfl ?_
          refine qf_step rfl ?_
          refine qg_val rfl gw_none (fun _ => (ov_move rfl)) rfl ?_
          refine qf_step rfl ?_
          refine qg_callv rfl rfl gw_none goes94 rfl (fun w1 hp => l6At_c u l xs _ n k _ _ zu zl hGxs (hsxs.ext hp.ext0) rfl hk2 h8 (by omega)) rfl ?_
          refine qf_mark ⟨⟨4, rfl, soft_alloc rfl rfl ze26⟩, True.intro⟩ ?_
          refine qg_calle (ι := (Option Nat × Nat × List Value × List BeadMove) × Nat × Nat × List Value) (fun q => .tuple #[sv q.1.1 q.1.2.2.2.length q.1.2.1, .agg [.int .i64 u, .int .i64 l, sv (some q.2.1) ((addS (k + 1) (addN xs n k).1 (dg n xs.length k)).1).length q.2.2.1].toArray]) (fun q => [(q.1.1, 128, flat encBeadMove q.1.2.2.2 ++ q.1.2.2.1), (some q.2.1, 81, flat encIntA2 ((addS (k + 1) (addN xs n k).1 (dg n xs.length k)).1) ++ q.2.2.2)]) (fun q => Sl 3 q.1.1 q.1.2.2.2.length q.1.2.1 (flat encBeadMove q.1.2.2.2) q.1.2.2.1 ∧ q.1.2.2.2.length ≤ 2 * (k + 1) + 2 ∧ Sl 2 (some q.2.1) ((addS (k + 1) (addN xs n k).1 (dg n xs.length k)).1).length q.2.2.1 (flat encIntA2 ((addS (k + 1) (addN xs n k).1 (dg n xs.length k)).1)) q.2.2.2) rfl rfl rfl goes95 rfl (fun w1 hp => l6Digit_c u l _ _ k _ _ _ zu zl (frameB_G (goodB_f hgA)) (hp.slsr 1 rfl hsr2) rfl hgA hCk) rfl (fun qd hqd => ?_)
          refine qf_step rfl ?_
          refine qg_val rfl gw_none (fun _ => (ov_move rfl)) rfl ?_
          refine qf_step rfl ?_
          refine qg_val rfl gw_none (fun _ => (ov_extract rfl rfl)) rfl ?_
          refine qf_step rfl ?_
          refine qg_val rfl gw_none (fun _ => (ov_extract rfl rfl)) rfl ?_
          refine qf_step rfl ?_
          refine qg_soft rfl rfl rfl (fun N3 => ?_)
          refine qf_step rfl ?_
          refine qg_val rfl gw_none (fun _ => (ov_assign rfl)) rfl ?_
          refine qf_nil ?_
          refine rl_store [] sz26 rfl rfl rfl rfl rfl (Nat.le_of_ble_eq_true rfl) ?_
          refine rl_nil ?_
          refine at_then ?_
          refine ct_reg ?_
          first | refine rl_val gw_none (ov_loadall 0 ag26 rfl rfl rfl) rfl ?_ | refine rl_val gw_none (ov_loadp 0 ag26 rfl rfl (vs := [_, _, _]) rfl rfl) rfl ?_ | refine rl_val gw_none (ov_loada 0 ag26 rfl rfl rfl (by assumption)) rfl ?_
          refine rl_store [_, _, _] sz26 rfl rfl rfl rfl rfl (Nat.le_of_ble_eq_true rfl) ?_
          refine rl_nil ?_
          refine at_block ?_
          refine at_then ?_
          refine ct_reg ?_
          refine rl_val gw_none (ov_move rfl) rfl ?_
          refine rl_val gw_none (ov_add rfl rfl (by omega)) rfl ?_
          refine rl_val gw_none (ov_assign rfl) rfl ?_
          refine rl_nil ?_
          have hcs : c = ((addN xs n (k + 1)).2 : Nat) := by rw [addN]; omega
          exact at_backR (k + 1, qd.2.1, qd.2.2.1, qd.2.2.2) ⟨hk2, hqd.2.2⟩ (by dsimp only; omega) (by (repeat' (first | exact Sub.nil | refine Sub.cons ?_ ?_)); all_goals (first | rfl | exact lkInt rfl (by omega))) (Sub.cons rfl (Sub.cons rfl (Sub.cons rfl (Sub.cons rfl (Sub.cons rfl Sub.nil))))) (fun _ hp => ((Hp.sub (Hp.pull (Hp.pull (Hp.pull hp 5 rfl) 3 rfl) 4 rfl) (List.sublist_append_left [_, _, _] _))).cong rfl)
      ·
        have hj0 : j = 0 := by simp at g1; omega
        subst hj0
        have hcz : cntK (addN xs n k).1 0 e = 0 := rfl
        refine rl_skip (gw_not rfl rfl g1) rfl ?_
        refine rl_skip (gw_not rfl rfl g1) rfl ?_
        refine rl_skip (gw_not rfl rfl g1) rfl ?_
        refine rl_skip (gw_not rfl rfl g1) rfl ?_
        refine rl_skip (gw_not rfl rfl g1) rfl ?_
        refine rl_skip (gw_not rfl rfl g1) rfl ?_
        refine rl_skip (gw_not rfl rfl g1) rfl ?_
        refine rl_skip (gw_not rfl rfl g1) rfl ?_
        refine rl_skip (gw_not rfl rfl g1) rfl ?_
        refine rl_val gw_none (ov_pick_f rfl g1 rfl) rfl ?_
        refine rl_nil ?_
        refine at_then ?_
        refine ct_false rfl rfl ?_
        refine ct_exit ?_
        refine at_then_exit ?_
        refine at_then_exit ?_
        refine at_block_hit ?_
        refine at_then ?_
        refine ct_seq ?_
        refine ct_fl 12 [0, 1, 2, 3, 4, 5, 6, 7, 8, 9, 10, 11, 12] ⟨6, [6], [], [10], [0, 2, 5], []⟩ (fun q => if q = 10 then (⟨26, [.int .i64 0, .int .i64 0, .slice none 0 0], fun N => .pointer (some ⟨N, 0, none⟩)⟩ : Soft) else ⟨0, [], fun _ => undef⟩) (by kernel_rfl) (by kernel_rfl) ?_
        refine qf_step rfl ?_
        first | refine qg_valm rfl rfl gw_none (ov_loadall 0 ag26 rfl rfl rfl) rfl ?_ | refine qg_valm rfl rfl gw_none (ov_loadp 0 ag26 rfl rfl (vs := [_, _, _]) rfl rfl) rfl ?_ | refine qg_valm rfl rfl gw_none (ov_loada 0 ag26 rfl rfl rfl (by assumption)) rfl ?_
        refine qf_step rfl ?_
        refine qg_val rfl gw_none (fun _ => (ov_move rfl)) rfl ?_
        refine qf_step rfl ?_
        first | refine qg_valm rfl rfl gw_none (ov_loadall 2 ag26 rfl rfl rfl) rfl ?_ | refine qg_valm rfl rfl gw_none (ov_loadp 2 ag26 rfl rfl (vs := [_, _, _]) rfl rfl) rfl ?_ | refine qg_valm rfl rfl gw_none (ov_loada 2 ag26 rfl rfl rfl (by assumption)) rfl ?_
        refine qf_step rfl ?_
        refine qg_val rfl gw_none (fun _ => (ov_move rfl)) rfl ?_
        refine qf_step rfl ?_
        refine qg_val rfl gw_none (fun _ => (ov_move rfl)) rfl ?_
        refine qf_step rfl ?_
        refine qg_callv rfl rfl gw_none goes94 rfl (fun w1 hp => l6At_c u l xs _ n k _ _ zu zl hGxs (hsxs.ext hp.ext0) rfl hk2 h8 (by omega)) rfl ?_
        refine qf_mark ⟨⟨4, rfl, soft_alloc rfl rfl ze26⟩, True.intro⟩ ?_
        refine qg_calle (ι := (Option Nat × Nat × List Value × List BeadMove) × Nat × Nat × List Value) (fun q => .tuple #[sv q.1.1 q.1.2.2.2.length q.1.2.1, .agg [.int .i64 u, .int .i64 l, sv (some q.2.1) ((addS (k + 1) (addN xs n k).1 (dg n xs.length k)).1).length q.2.2.1].toArray]) (fun q => [(q.1.1, 128, flat encBeadMove q.1.2.2.2 ++ q.1.2.2.1), (some q.2.1, 81, flat encIntA2 ((addS (k + 1) (addN xs n k).1 (dg n xs.length k)).1) ++ q.2.2.2)]) (fun q => Sl 3 q.1.1 q.1.2.2.2.length q.1.2.1 (flat encBeadMove q.1.2.2.2) q.1.2.2.1 ∧ q.1.2.2.2.length ≤ 2 * (k + 1) + 2 ∧ Sl 2 (some q.2.1) ((addS (k + 1) (addN xs n k).1 (dg n xs.length k)).1).length q.2.2.1 (flat encIntA2 ((addS (k + 1) (addN xs n k).1 (dg n xs.length k)).1)) q.2.2.2) rfl rfl rfl goes95 rfl (fun w1 hp => l6Digit_c u l _ _ k _ _ _ zu zl (frameB_G (goodB_f hgA)) (hp.slsr 1 rfl hsr2) rfl hgA hCk) rfl (fun qd hqd => ?_)
        refine qf_step rfl ?_
        refine qg_val rfl gw_none (fun _ => (ov_move rfl)) rfl ?_
        refine qf_step rfl ?_
        refine qg_val rfl gw_none (fun _ => (ov_extract rfl rfl)) rfl ?_
        refine qf_step rfl ?_
        refine qg_val rfl gw_none (fun _ => (ov_extract rfl rfl)) rfl ?_
        refine qf_step rfl ?_
        refine qg_soft rfl rfl rfl (fun N4 => ?_)
        refine qf_step rfl ?_
        refine qg_val rfl gw_none (fun _ => (ov_assign rfl)) rfl ?_
        refine qf_nil ?_
        refine rl_store [] sz26 rfl rfl rfl rfl rfl (Nat.le_of_ble_eq_true rfl) ?_
        refine rl_nil ?_
        refine at_then ?_
        refine ct_reg ?_
        first | refine rl_val gw_none (ov_loadall 0 ag26 rfl rfl rfl) rfl ?_ | refine rl_val gw_none (ov_loadp 0 ag26 rfl rfl (vs := [_, _, _]) rfl rfl) rfl ?_ | refine rl_val gw_none (ov_loada 0 ag26 rfl rfl rfl (by assumption)) rfl ?_
        refine rl_store [_, _, _] sz26 rfl rfl rfl rfl rfl (Nat.le_of_ble_eq_true rfl) ?_
        refine rl_nil ?_
        refine at_block ?_
        refine at_then ?_
        refine ct_reg ?_
        refine rl_val gw_none (ov_move rfl) rfl ?_
        refine rl_val gw_none (ov_add rfl rfl (by omega)) rfl ?_
        refine rl_val gw_none (ov_assign rfl) rfl ?_
        refine rl_nil ?_
        have hcs : c = ((addN xs n (k + 1)).2 : Nat) := by rw [addN]; omega
        exact at_backR (k + 1, qd.2.1, qd.2.2.1, qd.2.2.2) ⟨hk2, hqd.2.2⟩ (by dsimp only; omega) (by (repeat' (first | exact Sub.nil | refine Sub.cons ?_ ?_)); all_goals (first | rfl | exact lkInt rfl (by omega))) (Sub.cons rfl (Sub.cons rfl (Sub.cons rfl (Sub.cons rfl (Sub.cons rfl Sub.nil))))) (fun _ hp => ((Hp.sub (Hp.pull (Hp.pull (Hp.pull hp 5 rfl) 3 rfl) 4 rfl) (List.sublist_append_left [_, _, _] _))).cong rfl)
    ·
      have hke : k = xs.length := by omega
      subst hke
      refine ct_exit ?_
      refine at_then_exit ?_
      refine at_then_exit ?_
      refine at_block_hit ?_
      refine at_then ?_
      refine ct_seq ?_
      refine ct_reg ?_
      refine rl_val gw_none (ov_move rfl) rfl ?_
      refine rl_val gw_none (ov_assign rfl) rfl ?_
      refine rl_val gw_none (ov_assign rfl) rfl ?_
      refine rl_nil ?_
      refine at_then ?_
      refine ct_ret ?_
      refine at_ret2 Try.results33 (ro_tmp rfl) (ro_tmp rfl) (fun w1 hp => ?_)
      refine ⟨?_, hp.ext0⟩
      first | (rw [hc, if_pos rfl]; first | done | rfl) | (rw [show addNB u l xs n = false by simpa using h1]; rfl)
end Go.Proofs.Ytnnhkpecgchgiaa
