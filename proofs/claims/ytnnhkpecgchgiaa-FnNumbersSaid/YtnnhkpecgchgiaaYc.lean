import Derived.Test.YtnnhkpecgchgiaaYb
import Derived.KernelRfl
set_option linter.unusedVariables false
set_option linter.unusedSimpArgs false
namespace Go.Proofs.Ytnnhkpecgchgiaa
open Go Go.RowKit K
theorem standard_d (bc : Nat) (a : Option Addr) (lc capc : Nat) (at_ s : Int) (D : List Nat) (w : World) (h0 : Hp ⟨w, D⟩ [(some bc, 109, [.slice a lc capc, .int .i64 at_, .int .u64 s])] w) (hcd : CodeOk w D a lc) (hat : 0 ≤ at_ ∧ at_ ≤ 1000000000) : Calls Try.prog 128 ([.pointer (some ⟨bc, 0, none⟩)]).toArray w (fun e w' => ∃ j : (Int × Int × Option Nat × Nat × List Value × List IntA2) × Int × Int, (((-10 ≤ j.1.1 ∧ j.1.1 ≤ 10) ∧ (-10 ≤ j.1.2.1 ∧ j.1.2.1 ≤ 10) ∧ Sl 2 j.1.2.2.1 j.1.2.2.2.2.2.length j.1.2.2.2.1 (flat encIntA2 j.1.2.2.2.2.2) j.1.2.2.2.2.1 ∧ (1 ≤ j.1.2.2.2.2.2.length ∧ j.1.2.2.2.2.2.length ≤ 10) ∧ (∀ y ∈ j.1.2.2.2.2.2, GIntA2 y)) ∧ at_ ≤ j.2.1 ∧ j.2.1 ≤ at_ + 200) ∧ e = .returned (.agg [.int .i64 j.1.1, .int .i64 j.1.2.1, sv j.1.2.2.1 j.1.2.2.2.2.2.length j.1.2.2.2.1].toArray) ∧ Hp ⟨w, D⟩ [(some bc, 109, [.slice a lc capc, .int .i64 j.2.1, .int .u64 j.2.2]), (j.1.2.2.1, 81, flat encIntA2 j.1.2.2.2.2.2 ++ j.1.2.2.2.2.1)] w') := by
  refine calls_ctds h0 Try.func128 Try.ntmps128 rfl rfl ?_
  refine ct_seq ?_
  refine ct_reg ?_
  refine rl_alloc ze26 rfl (fun N1 => ?_)
  refine rl_nil ?_
  refine at_then ?_
  refine ct_seq ?_
  refine ct_reg ?_
  refine rl_val gw_none (ov_move rfl) rfl ?_
  refine rl_calld (ι := (Int × Int × Option Nat × Nat × List Value × List IntA2) × Int × Int) (fun j => .agg [.int .i64 j.1.1, .int .i64 j.1.2.1, sv j.1.2.2.1 j.1.2.2.2.2.2.length j.1.2.2.2.1].toArray) [_] [_] (fun j => [(_, 109, [_, .int .i64 j.2.1, .int .u64 j.2.2]), (j.1.2.2.1, 81, flat encIntA2 j.1.2.2.2.2.2 ++ j.1.2.2.2.2.1)]) (fun j => ((-10 ≤ j.1.1 ∧ j.1.1 ≤ 10) ∧ (-10 ≤ j.1.2.1 ∧ j.1.2.1 ≤ 10) ∧ Sl 2 j.1.2.2.1 j.1.2.2.2.2.2.length j.1.2.2.2.1 (flat encIntA2 j.1.2.2.2.2.2) j.1.2.2.2.2.1 ∧ (1 ≤ j.1.2.2.2.2.2.length ∧ j.1.2.2.2.2.2.length ≤ 10) ∧ (∀ y ∈ j.1.2.2.2.2.2, GIntA2 y)) ∧ _ ≤ j.2.1 ∧ j.2.1 ≤ _ + 120) gw_none goes118 rfl (fun _ hq => (hq).pull 1 rfl) (fun w1 hp h0 => frame_c _ _ _ _ _ _ _ _ h0 (hcd.call hp (by simp)) (by omega)) rfl (fun jf hjf => ?_)
  obtain ⟨⟨u, l, bo, cap, pad, xs⟩, tjf, sjf⟩ := jf
  obtain ⟨⟨hu, hl, hsl, hxl, hG⟩, ht⟩ := hjf
  dsimp only at hu hl hsl hxl hG ht
  try dsimp only
  obtain ⟨b0, rfl⟩ := slSomeG hsl (by omega)
  have zu : In64 u := by unfold In64; omega
  have zl : In64 l := by unfold In64; omega
  refine rl_alloc ze26 rfl (fun N2 => ?_)
  refine rl_store [] sz26 rfl rfl rfl rfl rfl (Nat.le_of_ble_eq_true rfl) ?_
  refine rl_nil ?_
  refine at_then ?_
  refine ct_seq ?_
  refine ct_seq ?_
  refine ct_reg ?_
  refine rl_val gw_none (ov_move rfl) rfl ?_
  refine rl_calld (ι := (Bool) × Int × Int) (fun j => .bool j.1) [_] [_, _, _] (fun j => [(_, 109, [_, .int .i64 j.2.1, .int .u64 j.2.2])]) (fun j => True ∧ _ ≤ j.2.1 ∧ j.2.1 ≤ _ + 2) gw_none goes129 rfl (fun _ hq => (hq).pull 1 rfl) (fun w1 hp h0 => one_c _ _ _ _ _ _ _ _ _ h0 (hcd.call hp (by simp)) (by omega) (by omega)) rfl (fun j25 hj25 => ?_)
  obtain ⟨v25, t25, s25⟩ := j25
  dsimp only at hj25
  try dsimp only
  refine rl_nil ?_
  refine at_then ?_
  first | refine ct_dec rfl (fun h1 => ?_) (fun h1 => ?_) | refine ct_ndec rfl (fun h1 => ?_) (fun h1 => ?_) | refine ct_eq rfl (fun h1 => ?_) (fun h1 => ?_) | refine ct_ne rfl (fun h1 => ?_) (fun h1 => ?_) | refine ct_not rfl (fun h1 => ?_) (fun h1 => ?_) | refine ct_cond rfl (fun h1 => ?_) (fun h1 => ?_)
  ·
    refine ct_seq ?_
    refine ct_reg ?_
    first | refine rl_val gw_none (ov_loadall 1 ag26 rfl rfl rfl) rfl ?_ | refine rl_val gw_none (ov_loadp 1 ag26 rfl rfl (vs := [_, _, _]) rfl rfl) rfl ?_ | refine rl_val gw_none (ov_loada 1 ag26 rfl rfl rfl (by assumption)) rfl ?_
    refine rl_store [_, _, _] sz26 rfl rfl rfl rfl rfl (Nat.le_of_ble_eq_true rfl) ?_
    refine rl_nil ?_
    refine at_then ?_
    refine ct_ret ?_
    refine at_then_ret ?_
    refine at_ret1 Try.results128 (ro_cell 3 ag26 rfl rfl rfl) (fun w1 hp => ?_)
    exact ⟨((u, l, some b0, cap, pad, xs), _, _), ⟨⟨hu, hl, hsl, hxl, hG⟩, by dsimp only; omega, by dsimp only; omega⟩, rfl, (Hp.sub (Hp.pull (Hp.pull hp 2 rfl) 1 rfl) (List.sublist_append_left [_, _] _))⟩
  ·
    refine ct_skip ?_
    refine at_then ?_
    refine ct_seq ?_
    refine ct_seq ?_
    refine ct_reg ?_
    refine rl_val gw_none (ov_assign rfl) rfl ?_
    refine rl_nil ?_
    refine at_then ?_
    refine ct_block ?_
    refine ct_loopR (ι := Nat × List IntA2 × Int × Int) (fun p0 => [(4, .int .i64 p0.1)]) [(0, _), (2, _), (3, _)] (fun p0 => [(some bc, 109, [.slice a lc capc, .int .i64 p0.2.2.1, .int .u64 p0.2.2.2]), _, (some b0, 81, flat encIntA2 p0.2.1 ++ pad), _]) (fun p0 => p0.1 ≤ xs.length ∧ p0.2.1.length = xs.length ∧ (∀ y ∈ p0.2.1, GIntA2 y) ∧ at_ ≤ p0.2.2.1 ∧ p0.2.2.1 ≤ at_ + 130 + 4 * p0.1) (fun p0 => xs.length - p0.1) ((0, xs, _, _)) (Sub.cons rfl (Sub.cons rfl (Sub.cons rfl Sub.nil))) (fun _ hp => (Hp.sub (Hp.pull (Hp.pull (Hp.pull (Hp.pull hp 3 rfl) 3 rfl) 3 rfl) 3 rfl) (List.sublist_append_left [_, _, _, _] _))) (by (repeat' (first | exact Sub.nil | refine Sub.cons ?_ ?_)); all_goals (first | rfl | exact lkInt rfl (by omega))) ⟨Nat.zero_le _, rfl, hG, by dsimp only; omega, by dsimp only; omega⟩ (fun p0 hp0 => ?_)
    obtain ⟨k, ys, at2, s2⟩ := p0
    obtain ⟨hk, hyl, hG2, hat1, hat2⟩ := hp0
    dsimp only at hk hyl hG2 hat1 hat2 ⊢
    refine ct_seq ?_
    refine ct_seq ?_
    refine ct_reg ?_
    refine rl_val gw_none (ov_move rfl) rfl ?_
    refine rl_val gw_none (ov_field fo26_2 rfl) rfl ?_
    first | refine rl_val gw_none (ov_load 1 sc22 rfl rfl rfl) rfl ?_ | refine rl_val gw_none (ov_load 1 sc22 rfl rfl (by assumption)) rfl ?_
    refine rl_val gw_none (ov_len Try.underlying22 rfl) rfl ?_
    refine rl_val gw_none (ov_lss rfl rfl) rfl ?_
    refine rl_nil ?_
    refine at_then ?_
    first | refine ct_dec rfl (fun h2 => ?_) (fun h2 => ?_) | refine ct_ndec rfl (fun h2 => ?_) (fun h2 => ?_) | refine ct_eq rfl (fun h2 => ?_) (fun h2 => ?_) | refine ct_ne rfl (fun h2 => ?_) (fun h2 => ?_) | refine ct_not rfl (fun h2 => ?_) (fun h2 => ?_) | refine ct_cond rfl (fun h2 => ?_) (fun h2 => ?_)
    ·
      have hk2 : k < xs.length := by omega
      refine ct_skip ?_
      refine at_then ?_
      refine ct_seq ?_
      refine ct_block ?_
      refine ct_fl 7 [0, 1, 2, 3, 4, 5, 6, 7, 8] ⟨4, [5], [5], [4], [6], [1]⟩ (fun q => if q = 4 then (⟨3, [.int .i64 0, .int .i64 1, .int .i64 3, .int .i64 4, .int .i64 5, .int .i64 8, .int .i64 9, .int .i64 9], fun N => sv (some N) 8 8⟩ : Soft) else ⟨0, [], fun _ => undef⟩) (by kernel_rfl) (by kernel_rfl) ?_
      refine qf_step rfl ?_
      refine qg_val rfl gw_none (fun _ => (ov_field fo26_2 rfl)) rfl ?_
      refine qf_step rfl ?_
      first | refine qg_vall 1 rfl rfl rfl gw_none (ov_load 0 sc22 rfl rfl rfl) rfl ?_ | refine qg_vall 1 rfl rfl rfl gw_none (ov_load 0 sc22 rfl rfl (by assumption)) rfl ?_
      refine qf_step rfl ?_
      refine qg_val rfl gw_none (fun _ => (ov_move rfl)) rfl ?_
      refine qf_step rfl ?_
      refine qg_val rfl gw_none (fun _ => (ov_move rfl)) rfl ?_
      refine qf_mark ⟨⟨0, rfl, soft_bslice rfl rfl Try.underlying27 ze3 sz3 rfl rfl rfl rfl rfl rfl rfl⟩, True.intro⟩ ?_
      refine qg_soft rfl rfl rfl (fun N3 => ?_)
      refine qf_step rfl ?_
      refine qg_calld (ι := (Int) × Int × Int) (fun j => .int .i64 j.1) [_, _] [_, _, _] (fun j => [(_, 109, [_, .int .i64 j.2.1, .int .u64 j.2.2])]) (fun j => (0 ≤ j.1 ∧ j.1 ≤ 9) ∧ _ ≤ j.2.1 ∧ j.2.1 ≤ _ + 2) rfl rfl rfl (fun _ _ => ⟨⟨1, rfl⟩, True.intro⟩) goes111 rfl (fun _ _ hq => ((hq).pull 0 rfl).pull 1 rfl) (fun w1 hp h0 => among_c 0 9 _ _ _ _ _ _ _ _ _ _ _ _ h0 (hcd.call hp (by simp)) (by omega) (by first | rfl | decide | (simp [okIntsR]; done) | (simp [okIntsR]; omega) | (simp [okIntsR, Value.cells]; omega)) (by first | decide | (simp; done) | (simp; omega) | omega | (simp [Value.cells]; done) | (simp [Value.cells]; omega))) rfl (fun ja hja => ?_)
      obtain ⟨va, ta, sa⟩ := ja
      dsimp only at hja
      try dsimp only
      refine qf_step rfl ?_
      refine qg_callv rfl rfl gw_none goes124 rfl (fun w1 hp => l2Digit_c _ _ (by omega)) rfl ?_
      refine qf_nil ?_
      first | refine rl_val gw_none (ov_ix Try.underlying22 sz81 rfl rfl _ rfl (by omega)) rfl ?_ | refine rl_val gw_none (ov_ix Try.underlying22 sz81 rfl rfl (k) (by omega) (by omega)) rfl ?_
      refine rl_store [_, _] sz81 rfl rfl rfl rfl rfl (by rw [List.length_append, flat_length encIntA2_len]; omega) ?_
      refine rl_mem (fun _ hq => hq.cong (congrArg (fun x => _ :: _ :: (_, _, x) :: _) (flatPutG encIntA2_len (x := rodFor va) _ (by omega)))) ?_
      refine rl_nil ?_
      refine at_block ?_
      refine at_then ?_
      refine ct_reg ?_
      refine rl_val gw_none (ov_move rfl) rfl ?_
      refine rl_val gw_none (ov_add rfl rfl (by omega)) rfl ?_
      refine rl_val gw_none (ov_assign rfl) rfl ?_
      refine rl_nil ?_
      exact at_backR (k + 1, ys.set k (rodFor va), _, _) ⟨by dsimp only; omega, by dsimp only; rw [List.length_set]; exact hyl, gI2_set hG2 (show GIntA2 (rodFor va) by unfold GIntA2 In64 rodFor; dsimp only; omega) k, by dsimp only; omega, by dsimp only; omega⟩ (by dsimp only; omega) (by (repeat' (first | exact Sub.nil | refine Sub.cons ?_ ?_)); all_goals (first | rfl | exact lkInt rfl (by omega))) (Sub.cons rfl (Sub.cons rfl (Sub.cons rfl Sub.nil))) (fun _ hp => (Hp.sub (Hp.pull (Hp.pull (Hp.pull (Hp.pull hp 3 rfl) 3 rfl) 3 rfl) 3 rfl) (List.sublist_append_left [_, _, _, _] _)))
    ·
      have hke : k = xs.length := by omega
      refine ct_exit ?_
      refine at_then_exit ?_
      refine at_then_exit ?_
      refine at_block_hit ?_
      refine at_then ?_
      refine ct_seq ?_
      refine ct_reg ?_
      first | refine rl_val gw_none (ov_loadall 1 ag26 rfl rfl rfl) rfl ?_ | refine rl_val gw_none (ov_loadp 1 ag26 rfl rfl (vs := [_, _, _]) rfl rfl) rfl ?_ | refine rl_val gw_none (ov_loada 1 ag26 rfl rfl rfl (by assumption)) rfl ?_
      refine rl_store [_, _, _] sz26 rfl rfl rfl rfl rfl (Nat.le_of_ble_eq_true rfl) ?_
      refine rl_nil ?_
      refine at_then ?_
      refine ct_ret ?_
      refine at_ret1 Try.results128 (ro_cell 3 ag26 rfl rfl rfl) (fun w1 hp => ?_)
      exact ⟨((u, l, some b0, cap, pad, ys), _, _), ⟨⟨hu, hl, slSameG encIntA2_len hsl hyl, by dsimp only; omega, hG2⟩, by dsimp only; omega, by dsimp only; omega⟩, by dsimp only; rw [hyl]; rfl, (Hp.sub (Hp.pull (Hp.pull hp 2 rfl) 1 rfl) (List.sublist_append_left [_, _] _))⟩

theorem rodOf_d (u l : Int) (a3 : Option Addr) (n3 c3 : Nat) (bc : Nat) (a : Option Addr) (lc capc : Nat) (at_ s : Int) (D : List Nat) (w : World) (h0 : Hp ⟨w, D⟩ [(some bc, 109, [.slice a lc capc, .int .i64 at_, .int .u64 s])] w) (hcd : CodeOk w D a lc) (hat : 0 ≤ at_ ∧ at_ ≤ 1000000000) (hn3 : n3 ≤ 50) : Calls Try.prog 119 ([.pointer (some ⟨bc, 0, none⟩), .agg (List.toArray (α := Value) [.int .i64 u, .int .i64 l, .slice a3 n3 c3])]).toArray w (fun e w' => ∃ j : (Int) × Int × Int, ((-2 ≤ j.1 ∧ j.1 ≤ 100) ∧ at_ ≤ j.2.1 ∧ j.2.1 ≤ at_ + 10) ∧ e = .returned (.int .i64 j.1) ∧ Hp ⟨w, D⟩ [(some bc, 109, [.slice a lc capc, .int .i64 j.2.1, .int .u64 j.2.2])] w') := by
  refine calls_ctds h0 Try.func119 Try.ntmps119 rfl rfl ?_
  refine ct_seq ?_
  refine ct_reg ?_
  refine rl_box rfl rfl (fun N1 => ?_)
  refine rl_val gw_none (ov_assign rfl) rfl ?_
  refine rl_nil ?_
  refine at_then ?_
  refine ct_seq ?_
  refine ct_reg ?_
  refine rl_val gw_none (ov_move rfl) rfl ?_
  refine rl_val gw_none (ov_field fo26_2 rfl) rfl ?_
  first | refine rl_val gw_none (ov_load 0 sc22 rfl rfl rfl) rfl ?_ | refine rl_val gw_none (ov_load 0 sc22 rfl rfl (by assumption)) rfl ?_
  refine rl_val gw_none (ov_len Try.underlying22 rfl) rfl ?_
  refine rl_val gw_none (ov_add rfl rfl (by omega)) rfl ?_
  refine rl_calld (ι := (Int) × Int × Int) (fun j => .int .i64 j.1) [_] [_] (fun j => [(_, 109, [_, .int .i64 j.2.1, .int .u64 j.2.2])]) (fun j => (0 ≤ j.1 ∧ (j.1 < _ ∨ j.1 = 0)) ∧ _ ≤ j.2.1 ∧ j.2.1 ≤ _ + 2) gw_none goes120 rfl (fun _ hq => (hq).pull 1 rfl) (fun w1 hp h0 => pick_c _ _ _ _ _ _ _ _ _ h0 (hcd.call hp (by simp)) (by omega) (by omega)) rfl (fun ja hja => ?_)
  obtain ⟨va, ta, sa⟩ := ja
  dsimp only at hja
  try dsimp only
  refine rl_val gw_none (ov_move rfl) rfl ?_
  refine rl_calld (ι := (Int) × Int × Int) (fun j => .int .i64 j.1) [_] [_] (fun j => [(_, 109, [_, .int .i64 j.2.1, .int .u64 j.2.2])]) (fun j => (0 ≤ j.1 ∧ (j.1 < _ ∨ j.1 = 0)) ∧ _ ≤ j.2.1 ∧ j.2.1 ≤ _ + 2) gw_none goes120 rfl (fun _ hq => (hq).pull 0 rfl) (fun w1 hp h0 => pick_c _ _ _ _ _ _ _ _ _ h0 (hcd.call hp (by simp)) (by omega) (by omega)) rfl (fun jb hjb => ?_)
  obtain ⟨vb, tb, sb⟩ := jb
  dsimp only at hjb
  try dsimp only
  refine rl_val gw_none (ov_quo rfl rfl (by omega) (by omega) (by omega)) rfl ?_
  refine rl_val gw_none (ov_sub rfl rfl (by omega)) rfl ?_
  refine rl_val gw_none (ov_assign rfl) rfl ?_
  refine rl_nil ?_
  refine at_then ?_
  refine ct_ret ?_
  refine at_ret1 Try.results119 (ro_tmp rfl) (fun w1 hp => ?_)
  refine ⟨(_, _, _), ⟨?_, ?_, ?_⟩, rfl, (Hp.sub (Hp.pull hp 0 rfl) (List.sublist_append_left [_] _))⟩ <;> (dsimp only; omega)
end Go.Proofs.Ytnnhkpecgchgiaa
