import Derived.Test.YtnnhkpecgchgiaaXa
import Derived.KernelRfl
set_option linter.unusedVariables false
set_option linter.unusedSimpArgs false
namespace Go.Proofs.Ytnnhkpecgchgiaa
open Go Go.RowKit K
theorem partsOf_c (a b : Int) (w : World) (ha : 0 ≤ a ∧ a ≤ 9999) (hb : 0 ≤ b ∧ b ≤ 9999) : Calls Try.prog 109 ([.int .i64 a, .int .i64 b]).toArray w (fun e w' => RetSl 103 3 (flat encIntA3 (parts a b)) (parts a b).length (fun s => s) w e w') := by
  have hl4 := dgs_len 4 a
  have hm4 := dgs_len 4 b
  refine calls_ct Try.func109 Try.ntmps109 rfl rfl ?_
  refine ct_seq ?_
  refine ct_reg ?_
  refine rl_val gw_none (ov_assign rfl) rfl ?_
  refine rl_nil ?_
  refine at_then ?_
  refine ct_seq ?_
  refine ct_reg ?_
  refine rl_val gw_none (ov_move rfl) rfl ?_
  refine rl_callsl (ι := Nat × List Value) (fun i bo => sv bo (dgs 4 a).length i.1) (fun i => ints (dgs 4 a) ++ i.2) (fun i bo => Sl 1 bo (dgs 4 a).length i.1 (ints (dgs 4 a)) i.2) goes144 rfl (fun w1 hp => digitsOf_c a _ (by omega)) rfl (fun idx bodx hsdx => ?_)
  refine rl_val gw_none (ov_move rfl) rfl ?_
  refine rl_callsl (ι := Nat × List Value) (fun i bo => sv bo (dgs 4 b).length i.1) (fun i => ints (dgs 4 b) ++ i.2) (fun i bo => Sl 1 bo (dgs 4 b).length i.1 (ints (dgs 4 b)) i.2) goes144 rfl (fun w1 hp => digitsOf_c b _ (by omega)) rfl (fun idy body hsdy => ?_)
  refine rl_val gw_none (ov_assign rfl) rfl ?_
  refine rl_val gw_none (ov_assign rfl) rfl ?_
  refine rl_nil ?_
  refine at_then ?_
  refine ct_seq ?_
  refine ct_reg ?_
  refine rl_val gw_none (ov_assign rfl) rfl ?_
  refine rl_nil ?_
  refine at_then ?_
  refine ct_seq ?_
  refine ct_seq ?_
  refine ct_reg ?_
  refine rl_val gw_none (ov_move rfl) rfl ?_
  refine rl_val gw_none (ov_len Try.underlying27 rfl) rfl ?_
  refine rl_val gw_none (ov_move rfl) rfl ?_
  refine rl_nil ?_
  refine at_then ?_
  refine ct_block ?_
  refine ct_loopR (ι := Nat × Option Nat × Nat × List Value) (fun p0 => [(7, sv p0.2.1 (allP (dgs 4 a) (dgs 4 b) p0.1).length p0.2.2.1), (18, .int .i64 p0.1)]) [(4, _), (5, _), (6, _), (16, _), (17, _)] (fun p0 => [(p0.2.1, 103, flat encIntA3 (allP (dgs 4 a) (dgs 4 b) p0.1) ++ p0.2.2.2), _, _]) (fun p0 => p0.1 ≤ (dgs 4 a).length ∧ Sl 3 p0.2.1 (allP (dgs 4 a) (dgs 4 b) p0.1).length p0.2.2.1 (flat encIntA3 (allP (dgs 4 a) (dgs 4 b) p0.1)) p0.2.2.2) (fun p0 => (dgs 4 a).length - p0.1) ((0, none, 0, [])) (Sub.cons rfl (Sub.cons rfl (Sub.cons rfl (Sub.cons rfl (Sub.cons rfl Sub.nil))))) (fun _ hp => ((Hp.sub (Hp.pull (Hp.pull hp 0 rfl) 1 rfl) (List.sublist_append_left [_, _] _))).nil 103) (by (repeat' (first | exact Sub.nil | refine Sub.cons ?_ ?_)); all_goals (first | rfl | exact lkInt rfl (by omega))) ⟨Nat.zero_le _, Sl.nil0 _⟩ (fun p0 hp0 => ?_)
  obtain ⟨k, bo, cap, pad⟩ := p0
  obtain ⟨hk, hsl⟩ := hp0
  dsimp only at hk hsl ⊢
  have hal := allP_len (dgs 4 a) (dgs 4 b) k
  refine ct_seq ?_
  refine ct_reg ?_
  refine rl_val gw_none (ov_lss rfl rfl) rfl ?_
  refine rl_nil ?_
  refine at_then ?_
  refine ct_seq ?_
  first | refine ct_dec rfl (fun h1 => ?_) (fun h1 => ?_) | refine ct_ndec rfl (fun h1 => ?_) (fun h1 => ?_) | refine ct_eq rfl (fun h1 => ?_) (fun h1 => ?_) | refine ct_ne rfl (fun h1 => ?_) (fun h1 => ?_) | refine ct_not rfl (fun h1 => ?_) (fun h1 => ?_) | refine ct_cond rfl (fun h1 => ?_) (fun h1 => ?_)
  ·
    have hk2 : k < (dgs 4 a).length := by omega
    obtain ⟨bx0, rfl⟩ := slSomeG hsdx (by omega)
    have hx := getLt hk2
    have hdb := digs_at (dgs_bd 4 a) hx
    generalize (dgs 4 a)[k] = d at *
    refine ct_skip ?_
    refine at_then ?_
    refine ct_seq ?_
    refine ct_block ?_
    refine ct_seq ?_
    refine ct_reg ?_
    refine rl_val gw_none (ov_move rfl) rfl ?_
    first | refine rl_val gw_none (ov_ix Try.underlying27 sz3 rfl rfl _ rfl (by omega)) rfl ?_ | refine rl_val gw_none (ov_ix Try.underlying27 sz3 rfl rfl (k) (by omega) (by omega)) rfl ?_ | refine rl_val gw_none (ov_ix Try.underlying27 sz3 rfl rfl (j) (by omega) (by omega)) rfl ?_
    refine rl_val gw_none (ov_load 1 sc3 rfl rfl (intsAtP hx _)) rfl ?_
    refine rl_val gw_none (ov_assign rfl) rfl ?_
    refine rl_val gw_none (ov_assign rfl) rfl ?_
    refine rl_nil ?_
    refine at_then ?_
    refine ct_seq ?_
    refine ct_reg ?_
    refine rl_val gw_none (ov_move rfl) rfl ?_
    refine rl_val gw_none (ov_len Try.underlying27 rfl) rfl ?_
    refine rl_val gw_none (ov_move rfl) rfl ?_
    refine rl_nil ?_
    refine at_then ?_
    refine ct_block ?_
    refine ct_loopR (ι := Nat × Option Nat × Nat × List Value) (fun p1 => [(7, sv p1.2.1 (allP (dgs 4 a) (dgs 4 b) k ++ rowP (dgs 4 a) (dgs 4 b) k p1.1).length p1.2.2.1), (25, .int .i64 p1.1)]) [(4, _), (5, _), (6, _), (8, _), (9, _), (16, _), (17, _), (18, _), (23, _), (24, _)] (fun p1 => [(p1.2.1, 103, flat encIntA3 (allP (dgs 4 a) (dgs 4 b) k ++ rowP (dgs 4 a) (dgs 4 b) k p1.1) ++ p1.2.2.2), _, _]) (fun p1 => p1.1 ≤ (dgs 4 b).length ∧ Sl 3 p1.2.1 (allP (dgs 4 a) (dgs 4 b) k ++ rowP (dgs 4 a) (dgs 4 b) k p1.1).length p1.2.2.1 (flat encIntA3 (allP (dgs 4 a) (dgs 4 b) k ++ rowP (dgs 4 a) (dgs 4 b) k p1.1)) p1.2.2.2) (fun p1 => (dgs 4 b).length - p1.1) ((0, bo, cap, pad)) (Sub.cons rfl (Sub.cons rfl (Sub.cons rfl (Sub.cons rfl (Sub.cons rfl (Sub.cons rfl (Sub.cons rfl (Sub.cons rfl (Sub.cons rfl (Sub.cons rfl Sub.nil)))))))))) (fun _ hp => ((Hp.sub (Hp.pull (Hp.pull (Hp.pull hp 2 rfl) 2 rfl) 2 rfl) (List.sublist_append_left [_, _, _] _))).cong (by dsimp only; rw [rowP, List.append_nil]; try rfl)) (by dsimp only; rw [rowP, List.append_nil]; (repeat' (first | exact Sub.nil | refine Sub.cons ?_ ?_)); all_goals (first | rfl | exact lkInt rfl (by omega))) ⟨Nat.zero_le _, by dsimp only; rw [rowP, List.append_nil]; exact hsl⟩ (fun p1 hp1 => ?_)
    obtain ⟨j, bo2, cap2, pad2⟩ := p1
    obtain ⟨hj, hsl2⟩ := hp1
    dsimp only at hj hsl2 ⊢
    have hrl := rowP_len (dgs 4 a) (dgs 4 b) k j
    have hl4 := dgs_len 4 a
    have hm4 := dgs_len 4 b
    have hal2 : (allP (dgs 4 a) (dgs 4 b) k ++ rowP (dgs 4 a) (dgs 4 b) k j).length ≤ 16 := by rw [List.length_append]; have h3 : k * (dgs 4 b).length ≤ 3 * 4 := Nat.mul_le_mul (by omega) hm4; omega
    refine ct_seq ?_
    refine ct_reg ?_
    refine rl_val gw_none (ov_lss rfl rfl) rfl ?_
    refine rl_nil ?_
    refine at_then ?_
    refine ct_seq ?_
    first | refine ct_dec rfl (fun h2 => ?_) (fun h2 => ?_) | refine ct_ndec rfl (fun h2 => ?_) (fun h2 => ?_) | refine ct_eq rfl (fun h2 => ?_) (fun h2 => ?_) | refine ct_ne rfl (fun h2 => ?_) (fun h2 => ?_) | refine ct_not rfl (fun h2 => ?_) (fun h2 => ?_) | refine ct_cond rfl (fun h2 => ?_) (fun h2 => ?_)
    ·
      have hj2 : j < (dgs 4 b).length := by omega
      obtain ⟨by0, rfl⟩ := slSomeG hsdy (by omega)
      have hy := getLt hj2
      have heb := digs_at (dgs_bd 4 b) hy
      generalize (dgs 4 b)[j] = e at *
      have hde := mul_dig hdb heb
      refine ct_skip ?_
      refine at_then ?_
      refine ct_seq ?_
      refine ct_block ?_
      refine ct_seq ?_
      refine ct_reg ?_
      refine rl_val gw_none (ov_move rfl) rfl ?_
      first | refine rl_val gw_none (ov_ix Try.underlying27 sz3 rfl rfl _ rfl (by omega)) rfl ?_ | refine rl_val gw_none (ov_ix Try.underlying27 sz3 rfl rfl (k) (by omega) (by omega)) rfl ?_ | refine rl_val gw_none (ov_ix Try.underlying27 sz3 rfl rfl (j) (by omega) (by omega)) rfl ?_
      refine rl_val gw_none (ov_load 2 sc3 rfl rfl (intsAtP hy _)) rfl ?_
      refine rl_val gw_none (ov_assign rfl) rfl ?_
      refine rl_val gw_none (ov_assign rfl) rfl ?_
      refine rl_nil ?_
      refine at_then ?_
      refine ct_seq ?_
      refine ct_reg ?_
      refine rl_val gw_none (ov_move rfl) rfl ?_
      refine rl_val gw_none (ov_move rfl) rfl ?_
      refine rl_val gw_none (ov_mul rfl rfl (by omega)) rfl ?_
      refine rl_val gw_none (ov_gtr rfl rfl) rfl ?_
      refine rl_nil ?_
      refine at_then ?_
      first | refine ct_dec rfl (fun h3 => ?_) (fun h3 => ?_) | refine ct_ndec rfl (fun h3 => ?_) (fun h3 => ?_) | refine ct_eq rfl (fun h3 => ?_) (fun h3 => ?_) | refine ct_ne rfl (fun h3 => ?_) (fun h3 => ?_) | refine ct_not rfl (fun h3 => ?_) (fun h3 => ?_) | refine ct_cond rfl (fun h3 => ?_) (fun h3 => ?_)
      ·
        refine ct_reg ?_
        refine rl_val gw_none (ov_move rfl) rfl ?_
        refine rl_val gw_none (ov_move rfl) rfl ?_
        refine rl_val gw_none (ov_len Try.underlying27 rfl) rfl ?_
        refine rl_val gw_none (ov_sub rfl rfl (by omega)) rfl ?_
        refine rl_val gw_none (ov_move rfl) rfl ?_
        refine rl_val gw_none (ov_sub rfl rfl (by omega)) rfl ?_
        refine rl_val gw_none (ov_move rfl) rfl ?_
        refine rl_val gw_none (ov_len Try.underlying27 rfl) rfl ?_
        refine rl_val gw_none (ov_sub rfl rfl (by omega)) rfl ?_
        refine rl_val gw_none (ov_move rfl) rfl ?_
        refine rl_val gw_none (ov_sub rfl rfl (by omega)) rfl ?_
        refine rl_val gw_none (ov_move rfl) rfl ?_
        refine rl_val gw_none (ov_move rfl) rfl ?_
        refine rl_val gw_none (ov_mul rfl rfl (by omega)) rfl ?_
        refine rl_val gw_none (ov_build rfl (bu103_0_1_2 _ _ _)) rfl ?_
        refine rl_bslice Try.underlying100 ze103 sz103 rfl rfl rfl rfl rfl rfl (fun N1 => ?_)
        refine rl_appT (flat encIntA3) ((flat_append _)) [_] (acc := allP (dgs 4 a) (dgs 4 b) k ++ rowP (dgs 4 a) (dgs 4 b) k j) Try.underlying100 ze103 sz103 rfl rfl by103 rfl rfl rfl hsl2 ([(⟨((dgs 4 a).length : Int) - 1 - k, ((dgs 4 b).length : Int) - 1 - j, d * e⟩ : IntA3)]) rfl (fun w1 hp => hp.sr1 0 rfl rfl (by decide)) (flat_one encIntA3_one _) (by unfold maxLen; omega) (by omega) rfl (fun boq1 capq1 padq1 hsq1 => ?_)
        refine rl_val gw_none (ov_assign rfl) rfl ?_
        refine rl_nil ?_
        refine at_block ?_
        refine at_then ?_
        refine ct_reg ?_
        refine rl_val gw_none (ov_add rfl rfl (by omega)) rfl ?_
        refine rl_val gw_none (ov_move rfl) rfl ?_
        refine rl_nil ?_
        have hts : allP (dgs 4 a) (dgs 4 b) k ++ rowP (dgs 4 a) (dgs 4 b) k (j + 1) = allP (dgs 4 a) (dgs 4 b) k ++ rowP (dgs 4 a) (dgs 4 b) k j ++ [⟨((dgs 4 a).length : Int) - 1 - k, ((dgs 4 b).length : Int) - 1 - j, d * e⟩] := by rw [rowP_yes hx hy (by omega), List.append_assoc]
        exact at_backR (j + 1, boq1, capq1, padq1) ⟨hj2, by dsimp only; rw [hts]; exact hsq1⟩ (by dsimp only; omega) (by dsimp only; rw [hts]; (repeat' (first | exact Sub.nil | refine Sub.cons ?_ ?_)); all_goals (first | rfl | exact lkInt rfl (by omega))) (Sub.cons rfl (Sub.cons rfl (Sub.cons rfl (Sub.cons rfl (Sub.cons rfl (Sub.cons rfl (Sub.cons rfl (Sub.cons rfl (Sub.cons rfl (Sub.cons rfl Sub.nil)))))))))) (fun _ hp => ((Hp.sub (Hp.pull (Hp.pull (Hp.pull hp 3 rfl) 3 rfl) 3 rfl) (List.sublist_append_left [_, _, _] _))).cong (by dsimp only; rw [hts]; try rfl))
      ·
        refine ct_skip ?_
        refine at_block ?_
        refine at_then ?_
        refine ct_reg ?_
        refine rl_val gw_none (ov_add rfl rfl (by omega)) rfl ?_
        refine rl_val gw_none (ov_move rfl) rfl ?_
        refine rl_nil ?_
        have hts : allP (dgs 4 a) (dgs 4 b) k ++ rowP (dgs 4 a) (dgs 4 b) k (j + 1) = allP (dgs 4 a) (dgs 4 b) k ++ rowP (dgs 4 a) (dgs 4 b) k j := by rw [rowP_no hx hy (by omega)]
        exact at_backR (j + 1, bo2, cap2, pad2) ⟨hj2, by dsimp only; rw [hts]; exact hsl2⟩ (by dsimp only; omega) (by dsimp only; rw [hts]; (repeat' (first | exact Sub.nil | refine Sub.cons ?_ ?_)); all_goals (first | rfl | exact lkInt rfl (by omega))) (Sub.cons rfl (Sub.cons rfl (Sub.cons rfl (Sub.cons rfl (Sub.cons rfl (Sub.cons rfl (Sub.cons rfl (Sub.cons rfl (Sub.cons rfl (Sub.cons rfl Sub.nil)))))))))) (fun _ hp => ((Hp.sub (Hp.pull (Hp.pull (Hp.pull hp 2 rfl) 2 rfl) 2 rfl) (List.sublist_append_left [_, _, _] _))).cong (by dsimp only; rw [hts]; try rfl))
    ·
      have hje : j = (dgs 4 b).length := by omega
      refine ct_exit ?_
      refine at_then_exit ?_
      refine at_then_exit ?_
      refine at_block_hit ?_
      refine at_block ?_
      refine at_then ?_
      refine ct_reg ?_
      refine rl_val gw_none (ov_add rfl rfl (by omega)) rfl ?_
      refine rl_val gw_none (ov_move rfl) rfl ?_
      refine rl_nil ?_
      exact at_backR (k + 1, bo2, cap2, pad2) ⟨hk2, by dsimp only; rw [allP, ← hje]; exact hsl2⟩ (by dsimp only; omega) (by dsimp only; rw [allP, ← hje]; (repeat' (first | exact Sub.nil | refine Sub.cons ?_ ?_)); all_goals (first | rfl | exact lkInt rfl (by omega))) (Sub.cons rfl (Sub.cons rfl (Sub.cons rfl (Sub.cons rfl (Sub.cons rfl Sub.nil))))) (fun _ hp => ((Hp.sub (Hp.pull (Hp.pull (Hp.pull hp 2 rfl) 2 rfl) 2 rfl) (List.sublist_append_left [_, _, _] _))).cong (by dsimp only; rw [allP, ← hje]; try rfl))
  ·
    have hke : k = (dgs 4 a).length := by omega
    subst hke
    refine ct_exit ?_
    refine at_then_exit ?_
    refine at_then_exit ?_
    refine at_block_hit ?_
    refine at_then ?_
    refine ct_seq ?_
    refine ct_reg ?_
    refine rl_val gw_none (ov_move rfl) rfl ?_
    refine rl_val gw_none (ov_assign rfl) rfl ?_
    refine rl_nil ?_
    refine at_then ?_
    refine ct_ret ?_
    refine at_ret1 Try.results109 (ro_tmp rfl) (fun w1 hp => ?_)
    exact RetSl.own 0 hp rfl hsl

theorem l9Parts_c (a b : Int) (w : World) (ha : 0 ≤ a ∧ a ≤ 9999) (hb : 0 ≤ b ∧ b ≤ 9999) : Calls Try.prog 105 ([.int .i64 a, .int .i64 b]).toArray w (fun e w' => RetSl 103 3 (flat encIntA3 (parts a b)) (parts a b).length (fun s => s) w e w') := by
  have hl4 := dgs_len 4 a
  have hm4 := dgs_len 4 b
  refine calls_ct Try.func105 Try.ntmps105 rfl rfl ?_
  refine ct_seq ?_
  refine ct_reg ?_
  refine rl_val gw_none (ov_assign rfl) rfl ?_
  refine rl_nil ?_
  refine at_then ?_
  refine ct_seq ?_
  refine ct_reg ?_
  refine rl_val gw_none (ov_move rfl) rfl ?_
  refine rl_callsl (ι := Nat × List Value) (fun i bo => sv bo (dgs 4 a).length i.1) (fun i => ints (dgs 4 a) ++ i.2) (fun i bo => Sl 1 bo (dgs 4 a).length i.1 (ints (dgs 4 a)) i.2) goes142 rfl (fun w1 hp => l9Digits_c a _ (by omega)) rfl (fun idx bodx hsdx => ?_)
  refine rl_val gw_none (ov_move rfl) rfl ?_
  refine rl_callsl (ι := Nat × List Value) (fun i bo => sv bo (dgs 4 b).length i.1) (fun i => ints (dgs 4 b) ++ i.2) (fun i bo => Sl 1 bo (dgs 4 b).length i.1 (ints (dgs 4 b)) i.2) goes142 rfl (fun w1 hp => l9Digits_c b _ (by omega)) rfl (fun idy body hsdy => ?_)
  refine rl_bslice Try.underlying100 ze103 sz103 rfl rfl rfl rfl rfl rfl (fun N1 => ?_)
  refine rl_val gw_none (ov_assign rfl) rfl ?_
  refine rl_val gw_none (ov_assign rfl) rfl ?_
  refine rl_val gw_none (ov_assign rfl) rfl ?_
  refine rl_nil ?_
  refine at_then ?_
  refine ct_seq ?_
  refine ct_seq ?_
  refine ct_reg ?_
  refine rl_val gw_none (ov_assign rfl) rfl ?_
  refine rl_nil ?_
  refine at_then ?_
  refine ct_block ?_
  refine ct_loopR (ι := Nat × Option Nat × Nat × List Value) (fun p0 => [(7, sv p0.2.1 (allP (dgs 4 a) (dgs 4 b) p0.1).length p0.2.2.1), (8, .int .i64 p0.1)]) [(4, _), (5, _), (6, _)] (fun p0 => [(p0.2.1, 103, flat encIntA3 (allP (dgs 4 a) (dgs 4 b) p0.1) ++ p0.2.2.2), _, _]) (fun p0 => p0.1 ≤ (dgs 4 a).length ∧ Sl 3 p0.2.1 (allP (dgs 4 a) (dgs 4 b) p0.1).length p0.2.2.1 (flat encIntA3 (allP (dgs 4 a) (dgs 4 b) p0.1)) p0.2.2.2) (fun p0 => (dgs 4 a).length - p0.1) ((0, some N1, 0, [])) (Sub.cons rfl (Sub.cons rfl (Sub.cons rfl Sub.nil))) (fun _ hp => (Hp.sub (Hp.pull (Hp.pull (Hp.pull hp 1 rfl) 2 rfl) 2 rfl) (List.sublist_append_left [_, _, _] _))) (by (repeat' (first | exact Sub.nil | refine Sub.cons ?_ ?_)); all_goals (first | rfl | exact lkInt rfl (by omega))) ⟨Nat.zero_le _, Sl.lit rfl (Nat.zero_le _)⟩ (fun p0 hp0 => ?_)
  obtain ⟨k, bo, cap, pad⟩ := p0
  obtain ⟨hk, hsl⟩ := hp0
  dsimp only at hk hsl ⊢
  have hal := allP_len (dgs 4 a) (dgs 4 b) k
  refine ct_seq ?_
  refine ct_seq ?_
  refine ct_reg ?_
  refine rl_val gw_none (ov_move rfl) rfl ?_
  refine rl_val gw_none (ov_move rfl) rfl ?_
  refine rl_val gw_none (ov_len Try.underlying27 rfl) rfl ?_
  refine rl_val gw_none (ov_lss rfl rfl) rfl ?_
  refine rl_nil ?_
  refine at_then ?_
  first | refine ct_dec rfl (fun h1 => ?_) (fun h1 => ?_) | refine ct_ndec rfl (fun h1 => ?_) (fun h1 => ?_) | refine ct_eq rfl (fun h1 => ?_) (fun h1 => ?_) | refine ct_ne rfl (fun h1 => ?_) (fun h1 => ?_) | refine ct_not rfl (fun h1 => ?_) (fun h1 => ?_) | refine ct_cond rfl (fun h1 => ?_) (fun h1 => ?_)
  ·
    have hk2 : k < (dgs 4 a).length := by omega
    obtain ⟨bx0, rfl⟩ := slSomeG hsdx (by omega)
    have hx := getLt hk2
    have hdb := digs_at (dgs_bd 4 a) hx
    generalize (dgs 4 a)[k] = d at *
    refine ct_skip ?_
    refine at_then ?_
    refine ct_seq ?_
    refine ct_block ?_
    refine ct_seq ?_
    refine ct_reg ?_
    refine rl_val gw_none (ov_assign rfl) rfl ?_
    refine rl_nil ?_
    refine at_then ?_
    refine ct_block ?_
    refine ct_loopR (ι := Nat × Option Nat × Nat × List Value) (fun p1 => [(7, sv p1.2.1 (allP (dgs 4 a) (dgs 4 b) k ++ rowP (dgs 4 a) (dgs 4 b) k p1.1).length p1.2.2.1), (9, .int .i64 p1.1)]) [(4, _), (5, _), (6, _), (8, _)] (fun p1 => [(p1.2.1, 103, flat encIntA3 (allP (dgs 4 a) (dgs 4 b) k ++ rowP (dgs 4 a) (dgs 4 b) k p1.1) ++ p1.2.2.2), _, _]) (fun p1 => p1.1 ≤ (dgs 4 b).length ∧ Sl 3 p1.2.1 (allP (dgs 4 a) (dgs 4 b) k ++ rowP (dgs 4 a) (dgs 4 b) k p1.1).length p1.2.2.1 (flat encIntA3 (allP (dgs 4 a) (dgs 4 b) k ++ rowP (dgs 4 a) (dgs 4 b) k p1.1)) p1.2.2.2) (fun p1 => (dgs 4 b).length - p1.1) ((0, bo, cap, pad)) (Sub.cons rfl (Sub.cons rfl (Sub.cons rfl (Sub.cons rfl Sub.nil)))) (fun _ hp => ((Hp.sub (Hp.pull (Hp.pull (Hp.pull hp 2 rfl) 2 rfl) 2 rfl) (List.sublist_append_left [_, _, _] _))).cong (by dsimp only; rw [rowP, List.append_nil]; try rfl)) (by dsimp only; rw [rowP, List.append_nil]; (repeat' (first | exact Sub.nil | refine Sub.cons ?_ ?_)); all_goals (first | rfl | exact lkInt rfl (by omega))) ⟨Nat.zero_le _, by dsimp only; rw [rowP, List.append_nil]; exact hsl⟩ (fun p1 hp1 => ?_)
    obtain ⟨j, bo2, cap2, pad2⟩ := p1
    obtain ⟨hj, hsl2⟩ := hp1
    dsimp only at hj hsl2 ⊢
    have hrl := rowP_len (dgs 4 a) (dgs 4 b) k j
    have hl4 := dgs_len 4 a
    have hm4 := dgs_len 4 b
    have hal2 : (allP (dgs 4 a) (dgs 4 b) k ++ rowP (dgs 4 a) (dgs 4 b) k j).length ≤ 16 := by rw [List.length_append]; have h3 : k * (dgs 4 b).length ≤ 3 * 4 := Nat.mul_le_mul (by omega) hm4; omega
    refine ct_seq ?_
    refine ct_seq ?_
    refine ct_reg ?_
    refine rl_val gw_none (ov_move rfl) rfl ?_
    refine rl_val gw_none (ov_move rfl) rfl ?_
    refine rl_val gw_none (ov_len Try.underlying27 rfl) rfl ?_
    refine rl_val gw_none (ov_lss rfl rfl) rfl ?_
    refine rl_nil ?_
    refine at_then ?_
    first | refine ct_dec rfl (fun h2 => ?_) (fun h2 => ?_) | refine ct_ndec rfl (fun h2 => ?_) (fun h2 => ?_) | refine ct_eq rfl (fun h2 => ?_) (fun h2 => ?_) | refine ct_ne rfl (fun h2 => ?_) (fun h2 => ?_) | refine ct_not rfl (fun h2 => ?_) (fun h2 => ?_) | refine ct_cond rfl (fun h2 => ?_) (fun h2 => ?_)
    ·
      have hj2 : j < (dgs 4 b).length := by omega
      obtain ⟨by0, rfl⟩ := slSomeG hsdy (by omega)
      have hy := getLt hj2
      have heb := digs_at (dgs_bd 4 b) hy
      generalize (dgs 4 b)[j] = e at *
      have hde := mul_dig hdb heb
      refine ct_skip ?_
      refine at_then ?_
      refine ct_seq ?_
      refine ct_block ?_
      refine ct_seq ?_
      refine ct_dr 10 (by kernel_rfl) (by kernel_rfl) ?_
      refine ql_val gw_none (ov_move rfl) rfl ?_
      refine ql_val gw_none (ov_move rfl) rfl ?_
      first | refine ql_val gw_none (ov_ix Try.underlying27 sz3 rfl rfl _ rfl (by omega)) rfl ?_ | refine ql_val gw_none (ov_ix Try.underlying27 sz3 rfl rfl (k) (by omega) (by omega)) rfl ?_ | refine ql_val gw_none (ov_ix Try.underlying27 sz3 rfl rfl (j) (by omega) (by omega)) rfl ?_
      refine ql_val gw_none (ov_load 1 sc3 rfl rfl (intsAtP hx _)) rfl ?_
      refine ql_val gw_none (ov_move rfl) rfl ?_
      refine ql_val gw_none (ov_move rfl) rfl ?_
      first | refine ql_val gw_none (ov_ix Try.underlying27 sz3 rfl rfl _ rfl (by omega)) rfl ?_ | refine ql_val gw_none (ov_ix Try.underlying27 sz3 rfl rfl (k) (by omega) (by omega)) rfl ?_ | refine ql_val gw_none (ov_ix Try.underlying27 sz3 rfl rfl (j) (by omega) (by omega)) rfl ?_
      refine ql_val gw_none (ov_load 2 sc3 rfl rfl (intsAtP hy _)) rfl ?_
      refine ql_val gw_none (ov_mul rfl rfl (by omega)) rfl ?_
      refine ql_val gw_none (ov_gtr rfl rfl) rfl ?_
      refine ql_nil ?_
      refine rl_nil ?_
      refine at_then ?_
      first | refine ct_dec rfl (fun h3 => ?_) (fun h3 => ?_) | refine ct_ndec rfl (fun h3 => ?_) (fun h3 => ?_) | refine ct_eq rfl (fun h3 => ?_) (fun h3 => ?_) | refine ct_ne rfl (fun h3 => ?_) (fun h3 => ?_) | refine ct_not rfl (fun h3 => ?_) (fun h3 => ?_) | refine ct_cond rfl (fun h3 => ?_) (fun h3 => ?_)
      ·
        refine ct_fl 22 [0, 1, 2, 3, 4, 5, 6, 7, 8, 9, 10, 11, 12, 13, 14, 15, 16, 17, 18, 19, 20, 21, 22, 23] ⟨21, [], [], [21], [14, 18], []⟩ (fun q => if q = 21 then (⟨103, [.int .i64 (((dgs 4 a).length : Int) - 1 - k), .int .i64 (((dgs 4 b).length : Int) - 1 - j), .int .i64 (d * e)], fun N => sv (some N) 1 1⟩ : Soft) else ⟨0, [], fun _ => undef⟩) (by kernel_rfl) (by kernel_rfl) ?_
        refine qf_step rfl ?_
        refine qg_val rfl gw_none (fun _ => (ov_move rfl)) rfl ?_
        refine qf_step rfl ?_
        refine qg_val rfl gw_none (fun _ => (ov_move rfl)) rfl ?_
        refine qf_step rfl ?_
        refine qg_val rfl gw_none (fun _ => (ov_len Try.underlying27 rfl)) rfl ?_
        refine qf_step rfl ?_
        refine qg_val rfl gw_none (fun _ => (ov_sub rfl rfl (by omega))) rfl ?_
        refine qf_step rfl ?_
        refine qg_val rfl gw_none (fun _ => (ov_move rfl)) rfl ?_
        refine qf_step rfl ?_
        refine qg_val rfl gw_none (fun _ => (ov_sub rfl rfl (by omega))) rfl ?_
        refine qf_step rfl ?_
        refine qg_val rfl gw_none (fun _ => (ov_move rfl)) rfl ?_
        refine qf_step rfl ?_
        refine qg_val rfl gw_none (fun _ => (ov_len Try.underlying27 rfl)) rfl ?_
        refine qf_step rfl ?_
        refine qg_val rfl gw_none (fun _ => (ov_sub rfl rfl (by omega))) rfl ?_
        refine qf_step rfl ?_
        refine qg_val rfl gw_none (fun _ => (ov_move rfl)) rfl ?_
        refine qf_step rfl ?_
        refine qg_val rfl gw_none (fun _ => (ov_sub rfl rfl (by omega))) rfl ?_
        refine qf_step rfl ?_
        refine qg_val rfl gw_none (fun _ => (ov_move rfl)) rfl ?_
        refine qf_step rfl ?_
        refine qg_val rfl gw_none (fun _ => (ov_move rfl)) rfl ?_
        refine qf_step rfl ?_
        first | refine qg_val rfl gw_none (fun _ => (ov_ix Try.underlying27 sz3 rfl rfl _ rfl (by omega))) rfl ?_ | refine qg_val rfl gw_none (fun _ => (ov_ix Try.underlying27 sz3 rfl rfl (k) (by omega) (by omega))) rfl ?_ | refine qg_val rfl gw_none (fun _ => (ov_ix Try.underlying27 sz3 rfl rfl (j) (by omega) (by omega))) rfl ?_
        refine qf_step rfl ?_
        refine qg_valm rfl rfl gw_none (ov_load 1 sc3 rfl rfl (intsAtP hx _)) rfl ?_
        refine qf_step rfl ?_
        refine qg_val rfl gw_none (fun _ => (ov_move rfl)) rfl ?_
        refine qf_step rfl ?_
        refine qg_val rfl gw_none (fun _ => (ov_move rfl)) rfl ?_
        refine qf_step rfl ?_
        first | refine qg_val rfl gw_none (fun _ => (ov_ix Try.underlying27 sz3 rfl rfl _ rfl (by omega))) rfl ?_ | refine qg_val rfl gw_none (fun _ => (ov_ix Try.underlying27 sz3 rfl rfl (k) (by omega) (by omega))) rfl ?_ | refine qg_val rfl gw_none (fun _ => (ov_ix Try.underlying27 sz3 rfl rfl (j) (by omega) (by omega))) rfl ?_
        refine qf_step rfl ?_
        refine qg_valm rfl rfl gw_none (ov_load 2 sc3 rfl rfl (intsAtP hy _)) rfl ?_
        refine qf_step rfl ?_
        refine qg_val rfl gw_none (fun _ => (ov_mul rfl rfl (by omega))) rfl ?_
        refine qf_step rfl ?_
        refine qg_val rfl gw_none (fun _ => (ov_build rfl (bu103_0_1_2 _ _ _))) rfl ?_
        refine qf_mark ⟨⟨0, rfl, soft_bslice rfl rfl Try.underlying100 ze103 sz103 rfl rfl rfl rfl rfl rfl rfl⟩, True.intro⟩ ?_
        refine qg_soft rfl rfl rfl (fun N2 => ?_)
        refine qf_nil ?_
        refine rl_appT (flat encIntA3) ((flat_append _)) [_] (acc := allP (dgs 4 a) (dgs 4 b) k ++ rowP (dgs 4 a) (dgs 4 b) k j) Try.underlying100 ze103 sz103 rfl rfl by103 rfl rfl rfl hsl2 ([(⟨((dgs 4 a).length : Int) - 1 - k, ((dgs 4 b).length : Int) - 1 - j, d * e⟩ : IntA3)]) rfl (fun w1 hp => hp.sr1 0 rfl rfl (by decide)) (flat_one encIntA3_one _) (by unfold maxLen; omega) (by omega) rfl (fun boq1 capq1 padq1 hsq1 => ?_)
        refine rl_val gw_none (ov_assign rfl) rfl ?_
        refine rl_nil ?_
        refine at_block ?_
        refine at_then ?_
        refine ct_reg ?_
        refine rl_val gw_none (ov_move rfl) rfl ?_
        refine rl_val gw_none (ov_add rfl rfl (by omega)) rfl ?_
        refine rl_val gw_none (ov_assign rfl) rfl ?_
        refine rl_nil ?_
        have hts : allP (dgs 4 a) (dgs 4 b) k ++ rowP (dgs 4 a) (dgs 4 b) k (j + 1) = allP (dgs 4 a) (dgs 4 b) k ++ rowP (dgs 4 a) (dgs 4 b) k j ++ [⟨((dgs 4 a).length : Int) - 1 - k, ((dgs 4 b).length : Int) - 1 - j, d * e⟩] := by rw [rowP_yes hx hy (by omega), List.append_assoc]
        exact at_backR (j + 1, boq1, capq1, padq1) ⟨hj2, by dsimp only; rw [hts]; exact hsq1⟩ (by dsimp only; omega) (by dsimp only; rw [hts]; (repeat' (first | exact Sub.nil | refine Sub.cons ?_ ?_)); all_goals (first | rfl | exact lkInt rfl (by omega))) (Sub.cons rfl (Sub.cons rfl (Sub.cons rfl (Sub.cons rfl Sub.nil)))) (fun _ hp => ((Hp.sub (Hp.pull (Hp.pull (Hp.pull hp 3 rfl) 3 rfl) 3 rfl) (List.sublist_append_left [_, _, _] _))).cong (by dsimp only; rw [hts]; try rfl))
      ·
        refine ct_skip ?_
        refine at_block ?_
        refine at_then ?_
        refine ct_reg ?_
        refine rl_val gw_none (ov_move rfl) rfl ?_
        refine rl_val gw_none (ov_add rfl rfl (by omega)) rfl ?_
        refine rl_val gw_none (ov_assign rfl) rfl ?_
        refine rl_nil ?_
        have hts : allP (dgs 4 a) (dgs 4 b) k ++ rowP (dgs 4 a) (dgs 4 b) k (j + 1) = allP (dgs 4 a) (dgs 4 b) k ++ rowP (dgs 4 a) (dgs 4 b) k j := by rw [rowP_no hx hy (by omega)]
        exact at_backR (j + 1, bo2, cap2, pad2) ⟨hj2, by dsimp only; rw [hts]; exact hsl2⟩ (by dsimp only; omega) (by dsimp only; rw [hts]; (repeat' (first | exact Sub.nil | refine Sub.cons ?_ ?_)); all_goals (first | rfl | exact lkInt rfl (by omega))) (Sub.cons rfl (Sub.cons rfl (Sub.cons rfl (Sub.cons rfl Sub.nil)))) (fun _ hp => ((Hp.sub (Hp.pull (Hp.pull (Hp.pull hp 2 rfl) 2 rfl) 2 rfl) (List.sublist_append_left [_, _, _] _))).cong (by dsimp only; rw [hts]; try rfl))
    ·
      have hje : j = (dgs 4 b).length := by omega
      refine ct_exit ?_
      refine at_then_exit ?_
      refine at_then_exit ?_
      refine at_block_hit ?_
      refine at_block ?_
      refine at_then ?_
      refine ct_reg ?_
      refine rl_val gw_none (ov_move rfl) rfl ?_
      refine rl_val gw_none (ov_add rfl rfl (by omega)) rfl ?_
      refine rl_val gw_none (ov_assign rfl) rfl ?_
      refine rl_nil ?_
      exact at_backR (k + 1, bo2, cap2, pad2) ⟨hk2, by dsimp only; rw [allP, ← hje]; exact hsl2⟩ (by dsimp only; omega) (by dsimp only; rw [allP, ← hje]; (repeat' (first | exact Sub.nil | refine Sub.cons ?_ ?_)); all_goals (first | rfl | exact lkInt rfl (by omega))) (Sub.cons rfl (Sub.cons rfl (Sub.cons rfl Sub.nil))) (fun _ hp => ((Hp.sub (Hp.pull (Hp.pull (Hp.pull hp 2 rfl) 2 rfl) 2 rfl) (List.sublist_append_left [_, _, _] _))).cong (by dsimp only; rw [allP, ← hje]; try rfl))
  ·
    have hke : k = (dgs 4 a).length := by omega
    subst hke
    refine ct_exit ?_
    refine at_then_exit ?_
    refine at_then_exit ?_
    refine at_block_hit ?_
    refine at_then ?_
    refine ct_seq ?_
    refine ct_reg ?_
    refine rl_val gw_none (ov_move rfl) rfl ?_
    refine rl_val gw_none (ov_assign rfl) rfl ?_
    refine rl_nil ?_
    refine at_then ?_
    refine ct_ret ?_
    refine at_ret1 Try.results105 (ro_tmp rfl) (fun w1 hp => ?_)
    exact RetSl.own 0 hp rfl hsl

theorem counts_c (p : IntA3) (w : World) (hok : okP p) : Calls Try.prog 110 ([.agg (encIntA3 p).toArray]).toArray w (fun e w' => e = .returned (.int .i64 (cnt3 p)) ∧ Ext w w') := by
  have hob := hok
  unfold okP at hob
  have hcb := cnt3_bd hok
  unfold cnt3 at hcb
  refine calls_ct Try.func110 Try.ntmps110 rfl rfl ?_
  refine ct_seq ?_
  refine ct_reg ?_
  refine rl_box rfl rfl (fun N1 => ?_)
  refine rl_val gw_none (ov_assign rfl) rfl ?_
  refine rl_nil ?_
  refine at_then ?_
  refine ct_seq ?_
  refine ct_dr 10 (by kernel_rfl) (by kernel_rfl) ?_
  first | refine ql_val gw_none (ov_ixa Try.underlying103 sz3 rfl rfl _ rfl (by omega)) rfl ?_ | refine ql_val gw_none (ov_ixa Try.underlying103 sz3 rfl rfl (2) (by omega) (by omega)) rfl ?_ | refine ql_val gw_none (ov_ixa Try.underlying103 sz3 rfl rfl (0) (by omega) (by omega)) rfl ?_ | refine ql_val gw_none (ov_ixa Try.underlying103 sz3 rfl rfl (1) (by omega) (by omega)) rfl ?_
  first | refine ql_val gw_none (ov_load 0 sc3 rfl rfl rfl) rfl ?_ | refine ql_val gw_none (ov_load 0 sc3 rfl rfl (by assumption)) rfl ?_
  first | refine ql_val gw_none (ov_ixa Try.underlying103 sz3 rfl rfl _ rfl (by omega)) rfl ?_ | refine ql_val gw_none (ov_ixa Try.underlying103 sz3 rfl rfl (2) (by omega) (by omega)) rfl ?_ | refine ql_val gw_none (ov_ixa Try.underlying103 sz3 rfl rfl (0) (by omega) (by omega)) rfl ?_ | refine ql_val gw_none (ov_ixa Try.underlying103 sz3 rfl rfl (1) (by omega) (by omega)) rfl ?_
  first | refine ql_val gw_none (ov_load 0 sc3 rfl rfl rfl) rfl ?_ | refine ql_val gw_none (ov_load 0 sc3 rfl rfl (by assumption)) rfl ?_
  first | refine ql_val gw_none (ov_ixa Try.underlying103 sz3 rfl rfl _ rfl (by omega)) rfl ?_ | refine ql_val gw_none (ov_ixa Try.underlying103 sz3 rfl rfl (2) (by omega) (by omega)) rfl ?_ | refine ql_val gw_none (ov_ixa Try.underlying103 sz3 rfl rfl (0) (by omega) (by omega)) rfl ?_ | refine ql_val gw_none (ov_ixa Try.underlying103 sz3 rfl rfl (1) (by omega) (by omega)) rfl ?_
  first | refine ql_val gw_none (ov_load 0 sc3 rfl rfl rfl) rfl ?_ | refine ql_val gw_none (ov_load 0 sc3 rfl rfl (by assumption)) rfl ?_
  refine ql_val gw_none (ov_add rfl rfl (by omega)) rfl ?_
  refine ql_callv gw_none goes145 rfl (fun w1 hp => power_c _ (p.a + p.b).toNat _ (by omega) (by omega)) rfl ?_
  refine ql_val gw_none (ov_mul rfl rfl (by omega)) rfl ?_
  refine ql_val gw_none (ov_assign rfl) rfl ?_
  refine ql_nil ?_
  refine rl_nil ?_
  refine at_then ?_
  refine ct_ret ?_
  refine at_ret1 Try.results110 (ro_tmp rfl) (fun w1 hp => ?_)
  exact ⟨rfl, hp.ext0⟩
end Go.Proofs.Ytnnhkpecgchgiaa
