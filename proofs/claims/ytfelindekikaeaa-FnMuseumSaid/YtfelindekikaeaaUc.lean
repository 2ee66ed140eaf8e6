import Derived.Test.YtfelindekikaeaaUb
import Derived.Test.YtfelindekikaeaaTd
import Derived.KernelRfl
set_option linter.unusedVariables false
set_option linter.unusedSimpArgs false
namespace Go.Proofs.Ytfelindekikaeaa
open Go Go.RowKit K
theorem exhibits_c (bc : Nat) (a : Option Addr) (lc capc : Nat) (at_ s : Int) (D : List Nat) (w : World) (h0 : Hp ⟨w, D⟩ [(some bc, 74, [.slice a lc capc, .int .i64 at_, .int .u64 s])] w) (hcd : CodeOk w D a lc) (hat : 0 ≤ at_ ∧ at_ ≤ 1000000000) : Calls Try.prog 62 ([.pointer (some ⟨bc, 0, none⟩)]).toArray w (fun e w' => ∃ j : (Option Nat × Nat × List Value × List Exhibit) × Int × Int, ((Sl 7 j.1.1 j.1.2.2.2.length j.1.2.1 (flat encExhibit j.1.2.2.2) j.1.2.2.1 ∧ j.1.2.2.2.length ≤ 12 ∧ (∀ y ∈ j.1.2.2.2, boundE y)) ∧ at_ ≤ j.2.1 ∧ j.2.1 ≤ at_ + 3000) ∧ e = .returned (sv j.1.1 j.1.2.2.2.length j.1.2.1) ∧ Hp ⟨w, D⟩ [(some bc, 74, [.slice a lc capc, .int .i64 j.2.1, .int .u64 j.2.2]), (j.1.1, 46, flat encExhibit j.1.2.2.2 ++ j.1.2.2.1)] w') := by
  refine calls_ctds h0 Try.func62 Try.ntmps62 rfl rfl ?_
  refine ct_seq ?_
  refine ct_reg ?_
  refine rl_val gw_none (ov_assign rfl) rfl ?_
  refine rl_nil ?_
  refine at_then ?_
  refine ct_seq ?_
  refine ct_reg ?_
  refine rl_bslice Try.underlying27 ze46 sz46 rfl rfl rfl rfl rfl rfl (fun N1 => ?_)
  refine rl_val gw_none (ov_assign rfl) rfl ?_
  refine rl_nil ?_
  refine at_then ?_
  refine ct_seq ?_
  refine ct_reg ?_
  refine rl_val gw_none (ov_assign rfl) rfl ?_
  refine rl_nil ?_
  refine at_then ?_
  refine ct_seq ?_
  refine ct_seq ?_
  refine ct_reg ?_
  refine rl_val gw_none (ov_move rfl) rfl ?_
  refine rl_calld (ι := (Int) × Int × Int) (fun j => .int .i64 j.1) [_] [_] (fun j => [(_, 74, [_, .int .i64 j.2.1, .int .u64 j.2.2])]) (fun j => (0 ≤ j.1 ∧ (j.1 < _ ∨ j.1 = 0)) ∧ _ ≤ j.2.1 ∧ j.2.1 ≤ _ + 2) gw_none goes74 rfl (fun _ hq => (hq).pull 1 rfl) (fun w1 hp h0 => pick_c _ _ _ _ _ _ _ _ _ h0 (hcd.call hp (by simp)) (by omega) (by omega)) rfl (fun jn hjn => ?_)
  obtain ⟨vn, tn, sn⟩ := jn
  dsimp only at hjn
  try dsimp only
  refine rl_val gw_none (ov_assign rfl) rfl ?_
  refine rl_nil ?_
  refine at_then ?_
  refine ct_block ?_
  refine ct_loopR (ι := Nat × (Option Nat × Nat × List Value × List Exhibit) × Int × Int × Int) (fun p1 => [(3, sv p1.2.1.1 p1.2.1.2.2.2.length p1.2.1.2.1), (4, .int .i64 p1.2.2.2.2), (5, .int .i64 (p1.1 : Int))]) [(0, _), (2, _)] (fun p1 => [(some bc, 74, [.slice a lc capc, .int .i64 p1.2.2.1, .int .u64 p1.2.2.2.1]), (p1.2.1.1, 46, flat encExhibit p1.2.1.2.2.2 ++ p1.2.1.2.2.1)]) (fun p1 => (Sl 7 p1.2.1.1 p1.2.1.2.2.2.length p1.2.1.2.1 (flat encExhibit p1.2.1.2.2.2) p1.2.1.2.2.1 ∧ p1.2.1.2.2.2.length ≤ 9 ∧ (∀ y ∈ p1.2.1.2.2.2, boundE y)) ∧ p1.2.1.2.2.2.length + p1.1 ≤ 9 ∧ (0 ≤ p1.2.2.2.2 ∧ p1.2.2.2.2 + 4 * p1.1 ≤ 40) ∧ at_ ≤ p1.2.2.1 ∧ p1.2.2.1 + 200 * p1.1 ≤ at_ + 2000) (fun p1 => p1.1) ((vn.toNat, (some N1, 0, [], []), tn, sn, 0)) (Sub.cons rfl (Sub.cons rfl Sub.nil)) (fun _ hp => (Hp.sub (Hp.pull (Hp.pull hp 1 rfl) 1 rfl) (List.sublist_append_left [_, _] _))) (by (repeat' (first | exact Sub.nil | refine Sub.cons ?_ ?_)); all_goals (first | rfl | exact lkInt rfl (by dsimp only; omega))) ⟨⟨Sl.lit rfl (Nat.zero_le _), by simp, fun y hy => by cases hy⟩, by simp; omega, by dsimp only; omega, by dsimp only; omega, by dsimp only; omega⟩ (fun p1 hp1 => ?_)
  obtain ⟨k, ⟨bo, cap, pad, xs⟩, at2, s2, id⟩ := p1
  obtain ⟨⟨hsl, hx9, hG⟩, hxk, hid, hat1, hat2⟩ := hp1
  dsimp only at hsl hx9 hG hxk hid hat1 hat2 ⊢
  refine ct_seq ?_
  refine ct_seq ?_
  refine ct_reg ?_
  refine rl_val gw_none (ov_move rfl) rfl ?_
  refine rl_val gw_none (ov_gtr rfl rfl) rfl ?_
  refine rl_nil ?_
  refine at_then ?_
  first | refine ct_dec rfl (fun h1 => ?_) (fun h1 => ?_) | refine ct_ndec rfl (fun h1 => ?_) (fun h1 => ?_) | refine ct_eq rfl (fun h1 => ?_) (fun h1 => ?_) | refine ct_ne rfl (fun h1 => ?_) (fun h1 => ?_) | refine ct_not rfl (fun h1 => ?_) (fun h1 => ?_) | refine ct_cond rfl (fun h1 => ?_) (fun h1 => ?_)
  ·
    refine ct_skip ?_
    refine at_then ?_
    refine ct_seq ?_
    refine ct_block ?_
    refine ct_seq ?_
    refine ct_reg ?_
    refine rl_val gw_none (ov_move rfl) rfl ?_
    refine rl_val gw_none (ov_add rfl rfl (by omega)) rfl ?_
    refine rl_val gw_none (ov_move rfl) rfl ?_
    refine rl_calld (ι := (Int) × Int × Int) (fun j => .int .i64 j.1) [_] [_] (fun j => [(_, 74, [_, .int .i64 j.2.1, .int .u64 j.2.2])]) (fun j => (0 ≤ j.1 ∧ (j.1 < _ ∨ j.1 = 0)) ∧ _ ≤ j.2.1 ∧ j.2.1 ≤ _ + 2) gw_none goes74 rfl (fun _ hq => (hq).pull 0 rfl) (fun w1 hp h0 => pick_c _ _ _ _ _ _ _ _ _ h0 (hcd.call hp (by simp)) (by omega) (by omega)) rfl (fun jd hjd => ?_)
    obtain ⟨vd, td, sd⟩ := jd
    dsimp only at hjd
    try dsimp only
    refine rl_val gw_none (ov_add rfl rfl (by omega)) rfl ?_
    refine rl_val gw_none (ov_assign rfl) rfl ?_
    refine rl_nil ?_
    refine at_then ?_
    refine ct_seq ?_
    refine ct_reg ?_
    refine rl_bslice Try.underlying27 ze46 sz46 rfl rfl rfl rfl rfl rfl (fun N2 => ?_)
    refine rl_val gw_none (ov_move rfl) rfl ?_
    refine rl_appT (flat encExhibit) ((flat_append _)) [] (bo := some N2) (acc := []) Try.underlying27 ze46 sz46 rfl rfl by46 rfl rfl rfl (Sl.lit rfl (by first | decide | (unfold maxLen; simp; done) | (unfold maxLen; simp; omega))) (xs) rfl (fun w1 hp => hp.slsr 2 rfl hsl) (flat_one encExhibit_one _) (by unfold maxLen; first | omega | (simp; omega)) (by first | omega | (simp; omega)) rfl (fun boq1 capq1 padq1 hsq1 => ?_)
    refine rl_val gw_none (ov_move rfl) rfl ?_
    refine rl_val gw_none (ov_move rfl) rfl ?_
    refine rl_calld (ι := (Exhibit) × Int × Int) (fun j => .agg (encExhibit j.1).toArray) [_] [_, _] (fun j => [(_, 74, [_, .int .i64 j.2.1, .int .u64 j.2.2])]) (fun j => (boundE j.1) ∧ _ ≤ j.2.1 ∧ j.2.1 ≤ _ + 100) gw_none goes79 rfl (fun _ hq => (hq).pull 1 rfl) (fun w1 hp h0 => exhibit_c _ _ _ _ _ _ _ _ _ h0 (hcd.call hp (by simp)) (by omega) (by omega)) rfl (fun jE hjE => ?_)
    obtain ⟨vE, tE, sE⟩ := jE
    dsimp only at hjE
    try dsimp only
    refine rl_bslice Try.underlying27 ze46 sz46 rfl rfl rfl rfl rfl rfl (fun N3 => ?_)
    refine rl_appT (flat encExhibit) ((flat_append _)) [_, _] (acc := [] ++ xs) Try.underlying27 ze46 sz46 rfl rfl by46 rfl rfl rfl hsq1 ([vE]) rfl (fun w1 hp => hp.sr1 0 rfl rfl (by decide)) (flat_one encExhibit_one _) (by unfold maxLen; first | omega | (simp; omega)) (by first | omega | (simp; omega)) rfl (fun boq2 capq2 padq2 hsq2 => ?_)
    refine rl_val gw_none (ov_assign rfl) rfl ?_
    refine rl_nil ?_
    refine at_then ?_
    refine ct_seq ?_
    refine ct_reg ?_
    refine rl_val gw_none (ov_move rfl) rfl ?_
    refine rl_callv gw_none goes60 rfl (fun w1 hp => l22Good_c ([] ++ xs ++ [vE]) _ _ (boundE_all (boundE_snoc hG hjE.1)) (hp.slsr 2 rfl hsq2)) rfl ?_
    refine rl_val gw_none (ov_move rfl) rfl ?_
    refine rl_split (t := 30) rfl (fun g1 => ?_) (fun g1 => ?_)
    ·
      have g1' := g1
      try simp only [Bool.not_eq_true', Bool.not_eq_false', Bool.not_not, decide_eq_true_eq, decide_eq_false_iff_not, beq_iff_eq, beq_eq_false_iff_ne, bne_iff_ne, bne_eq_false_iff_eq, Bool.and_eq_true, Bool.or_eq_true, Bool.and_eq_false_iff, Bool.or_eq_false_iff, inB] at g1'
      refine rl_skip (gw_not rfl rfl g1) rfl ?_
      refine rl_skip (gw_not rfl rfl g1) rfl ?_
      refine rl_val gw_none (ov_pick_t rfl g1 rfl) rfl ?_
      refine rl_nil ?_
      refine at_then ?_
      refine ct_true rfl rfl ?_
      refine ct_reg ?_
      refine rl_val gw_none (ov_move rfl) rfl ?_
      refine rl_val gw_none (ov_assign rfl) rfl ?_
      refine rl_nil ?_
      refine at_block ?_
      refine at_then ?_
      refine ct_reg ?_
      refine rl_val gw_none (ov_move rfl) rfl ?_
      refine rl_val gw_none (ov_sub rfl rfl (by omega)) rfl ?_
      refine rl_val gw_none (ov_assign rfl) rfl ?_
      refine rl_nil ?_
      exact at_backR (k - 1, (boq2, capq2, padq2, [] ++ xs ++ [vE]), _, _, id + 1 + vd) ⟨⟨hsq2, by simp; omega, boundE_snoc hG hjE.1⟩, by simp; omega, by dsimp only; omega, by dsimp only; omega, by dsimp only; omega⟩ (by dsimp only; omega) (by (repeat' (first | exact Sub.nil | refine Sub.cons ?_ ?_)); all_goals (first | rfl | exact lkInt rfl (by dsimp only; omega))) (Sub.cons rfl (Sub.cons rfl Sub.nil)) (fun _ hp => (Hp.sub (Hp.pull (Hp.pull hp 2 rfl) 2 rfl) (List.sublist_append_left [_, _] _)))
    ·
      have g1' := g1
      try simp only [Bool.not_eq_true', Bool.not_eq_false', Bool.not_not, decide_eq_true_eq, decide_eq_false_iff_not, beq_iff_eq, beq_eq_false_iff_ne, bne_iff_ne, bne_eq_false_iff_eq, Bool.and_eq_true, Bool.or_eq_true, Bool.and_eq_false_iff, Bool.or_eq_false_iff, inB] at g1'
      refine rl_val (gw_some rfl rfl g1) (ov_move rfl) rfl ?_
      refine rl_calld (ι := (Bool) × Int × Int) (fun j => .bool j.1) [_] [_, _, _] (fun j => [(_, 74, [_, .int .i64 j.2.1, .int .u64 j.2.2])]) (fun j => True ∧ _ ≤ j.2.1 ∧ j.2.1 ≤ _ + 2) (gw_some rfl rfl g1) goes80 rfl (fun _ hq => (hq).pull 1 rfl) (fun w1 hp h0 => one_c _ _ _ _ _ _ _ _ _ h0 (hcd.call hp (by simp)) (by omega) (by omega)) rfl (fun jo hjo => ?_)
      obtain ⟨vo, to, so⟩ := jo
      dsimp only at hjo
      try dsimp only
      refine rl_val gw_none (ov_pick_f rfl g1 rfl) rfl ?_
      refine rl_nil ?_
      refine at_then ?_
      first | refine ct_dec rfl (fun h2 => ?_) (fun h2 => ?_) | refine ct_ndec rfl (fun h2 => ?_) (fun h2 => ?_) | refine ct_eq rfl (fun h2 => ?_) (fun h2 => ?_) | refine ct_ne rfl (fun h2 => ?_) (fun h2 => ?_) | refine ct_not rfl (fun h2 => ?_) (fun h2 => ?_) | refine ct_cond rfl (fun h2 => ?_) (fun h2 => ?_)
      ·
        refine ct_reg ?_
        refine rl_val gw_none (ov_move rfl) rfl ?_
        refine rl_val gw_none (ov_assign rfl) rfl ?_
        refine rl_nil ?_
        refine at_block ?_
        refine at_then ?_
        refine ct_reg ?_
        refine rl_val gw_none (ov_move rfl) rfl ?_
        refine rl_val gw_none (ov_sub rfl rfl (by omega)) rfl ?_
        refine rl_val gw_none (ov_assign rfl) rfl ?_
        refine rl_nil ?_
        exact at_backR (k - 1, (boq2, capq2, padq2, [] ++ xs ++ [vE]), _, _, id + 1 + vd) ⟨⟨hsq2, by simp; omega, boundE_snoc hG hjE.1⟩, by simp; omega, by dsimp only; omega, by dsimp only; omega, by dsimp only; omega⟩ (by dsimp only; omega) (by (repeat' (first | exact Sub.nil | refine Sub.cons ?_ ?_)); all_goals (first | rfl | exact lkInt rfl (by dsimp only; omega))) (Sub.cons rfl (Sub.cons rfl Sub.nil)) (fun _ hp => (Hp.sub (Hp.pull (Hp.pull hp 2 rfl) 1 rfl) (List.sublist_append_left [_, _] _)))
      ·
        refine ct_skip ?_
        refine at_block ?_
        refine at_then ?_
        refine ct_reg ?_
        refine rl_val gw_none (ov_move rfl) rfl ?_
        refine rl_val gw_none (ov_sub rfl rfl (by omega)) rfl ?_
        refine rl_val gw_none (ov_assign rfl) rfl ?_
        refine rl_nil ?_
        exact at_backR (k - 1, (bo, cap, pad, xs), _, _, id + 1 + vd) ⟨⟨hsl, by dsimp only; omega, hG⟩, by dsimp only; omega, by dsimp only; omega, by dsimp only; omega, by dsimp only; omega⟩ (by dsimp only; omega) (by (repeat' (first | exact Sub.nil | refine Sub.cons ?_ ?_)); all_goals (first | rfl | exact lkInt rfl (by dsimp only; omega))) (Sub.cons rfl (Sub.cons rfl Sub.nil)) (fun _ hp => (Hp.sub (Hp.pull (Hp.pull hp 3 rfl) 1 rfl) (List.sublist_append_left [_, _] _)))
  ·
    refine ct_exit ?_
    refine at_then_exit ?_
    refine at_then_exit ?_
    refine at_block_hit ?_
    refine at_then ?_
    refine ct_seq ?_
    refine ct_seq ?_
    refine ct_reg ?_
    refine rl_val gw_none (ov_move rfl) rfl ?_
    refine rl_calld (ι := (Bool) × Int × Int) (fun j => .bool j.1) [_] [_] (fun j => [(_, 74, [_, .int .i64 j.2.1, .int .u64 j.2.2])]) (fun j => True ∧ _ ≤ j.2.1 ∧ j.2.1 ≤ _ + 2) gw_none goes80 rfl (fun _ hq => (hq).pull 0 rfl) (fun w1 hp h0 => one_c _ _ _ _ _ _ _ _ _ h0 (hcd.call hp (by simp)) (by omega) (by omega)) rfl (fun jw hjw => ?_)
    obtain ⟨vw, tw, sw⟩ := jw
    dsimp only at hjw
    try dsimp only
    refine rl_nil ?_
    refine at_then ?_
    first | refine ct_dec rfl (fun h3 => ?_) (fun h3 => ?_) | refine ct_ndec rfl (fun h3 => ?_) (fun h3 => ?_) | refine ct_eq rfl (fun h3 => ?_) (fun h3 => ?_) | refine ct_ne rfl (fun h3 => ?_) (fun h3 => ?_) | refine ct_not rfl (fun h3 => ?_) (fun h3 => ?_) | refine ct_cond rfl (fun h3 => ?_) (fun h3 => ?_)
    ·
      refine ct_seq ?_
      refine ct_reg ?_
      refine rl_bslice Try.underlying27 ze46 sz46 rfl rfl rfl rfl rfl rfl (fun N4 => ?_)
      refine rl_val gw_none (ov_assign rfl) rfl ?_
      refine rl_nil ?_
      refine at_then ?_
      refine ct_seq ?_
      refine ct_reg ?_
      refine rl_val gw_none (ov_assign rfl) rfl ?_
      refine rl_nil ?_
      refine at_then ?_
      refine ct_block ?_
      refine ct_loopR (ι := Nat × (Option Nat × Nat × List Value × List Exhibit) × Int × Int) (fun p2 => [(3, sv p2.2.1.1 p2.2.1.2.2.2.length p2.2.1.2.1), (7, .int .i64 p2.1)]) [(0, _), (2, _)] (fun p2 => [(some bc, 74, [.slice a lc capc, .int .i64 p2.2.2.1, .int .u64 p2.2.2.2]), (p2.2.1.1, 46, flat encExhibit p2.2.1.2.2.2 ++ p2.2.1.2.2.1)]) (fun p2 => (Sl 7 p2.2.1.1 p2.2.1.2.2.2.length p2.2.1.2.1 (flat encExhibit p2.2.1.2.2.2) p2.2.1.2.2.1 ∧ p2.2.1.2.2.2.length ≤ 11 ∧ (∀ y ∈ p2.2.1.2.2.2, boundE y)) ∧ p2.2.1.2.2.2.length = p2.1 ∧ at_ ≤ p2.2.2.1 ∧ p2.2.2.1 ≤ at_ + 2100 + 2 * p2.1) (fun p2 => 20 - p2.1) ((0, (some N4, 0, [], []), _, _)) (Sub.cons rfl (Sub.cons rfl Sub.nil)) (fun _ hp => (Hp.sub (Hp.pull (Hp.pull hp 0 rfl) 1 rfl) (List.sublist_append_left [_, _] _))) (by (repeat' (first | exact Sub.nil | refine Sub.cons ?_ ?_)); all_goals (first | rfl | exact lkInt rfl (by omega))) ⟨⟨Sl.lit rfl (Nat.zero_le _), by simp, fun y hy => by cases hy⟩, rfl, by dsimp only; omega, by dsimp only; omega⟩ (fun p2 hp2 => ?_)
      obtain ⟨q, ⟨bo2, cap2, pad2, ys⟩, at3, s3⟩ := p2
      obtain ⟨⟨hsl2, hy9, hG2⟩, hyq, hat3, hat4⟩ := hp2
      dsimp only at hsl2 hy9 hG2 hyq hat3 hat4 ⊢
      refine ct_seq ?_
      refine ct_seq ?_
      refine ct_reg ?_
      refine rl_val gw_none (ov_move rfl) rfl ?_
      refine rl_val gw_none (ov_move rfl) rfl ?_
      refine rl_calld (ι := (Int) × Int × Int) (fun j => .int .i64 j.1) [_] [_] (fun j => [(_, 74, [_, .int .i64 j.2.1, .int .u64 j.2.2])]) (fun j => (0 ≤ j.1 ∧ (j.1 < _ ∨ j.1 = 0)) ∧ _ ≤ j.2.1 ∧ j.2.1 ≤ _ + 2) gw_none goes74 rfl (fun _ hq => (hq).pull 0 rfl) (fun w1 hp h0 => pick_c _ _ _ _ _ _ _ _ _ h0 (hcd.call hp (by simp)) (by omega) (by omega)) rfl (fun jp hjp => ?_)
      obtain ⟨vp, tp, sp⟩ := jp
      dsimp only at hjp
      try dsimp only
      refine rl_val gw_none (ov_add rfl rfl (by omega)) rfl ?_
      refine rl_val gw_none (ov_lss rfl rfl) rfl ?_
      refine rl_nil ?_
      refine at_then ?_
      first | refine ct_dec rfl (fun h4 => ?_) (fun h4 => ?_) | refine ct_ndec rfl (fun h4 => ?_) (fun h4 => ?_) | refine ct_eq rfl (fun h4 => ?_) (fun h4 => ?_) | refine ct_ne rfl (fun h4 => ?_) (fun h4 => ?_) | refine ct_not rfl (fun h4 => ?_) (fun h4 => ?_) | refine ct_cond rfl (fun h4 => ?_) (fun h4 => ?_)
      ·
        refine ct_skip ?_
        refine at_then ?_
        refine ct_seq ?_
        refine ct_block ?_
        refine ct_reg ?_
        refine rl_val gw_none (ov_move rfl) rfl ?_
        refine rl_val gw_none (ov_move rfl) rfl ?_
        refine rl_val gw_none (ov_add rfl rfl (by omega)) rfl ?_
        refine rl_val gw_none (ov_build rfl (bu46_0_1_2_3_4_5 _ _ _ _ _ _)) rfl ?_
        refine rl_bslice Try.underlying27 ze46 sz46 rfl rfl rfl rfl rfl rfl (fun N5 => ?_)
        refine rl_appT (flat encExhibit) ((flat_append _)) [_, _] (acc := ys) Try.underlying27 ze46 sz46 rfl rfl by46 rfl rfl rfl hsl2 ([(⟨(q : Int) + 1, ⟨#[120]⟩, 1900, 1, 4, 13, 0⟩ : Exhibit)]) rfl (fun w1 hp => hp.sr1 0 rfl rfl (by decide)) (flat_one encExhibit_one _) (by unfold maxLen; first | omega | (simp; omega)) (by first | omega | (simp; omega)) rfl (fun boq3 capq3 padq3 hsq3 => ?_)
        refine rl_val gw_none (ov_assign rfl) rfl ?_
        refine rl_nil ?_
        refine at_block ?_
        refine at_then ?_
        refine ct_reg ?_
        refine rl_val gw_none (ov_move rfl) rfl ?_
        refine rl_val gw_none (ov_add rfl rfl (by omega)) rfl ?_
        refine rl_val gw_none (ov_assign rfl) rfl ?_
        refine rl_nil ?_
        exact at_backR (q + 1, (boq3, capq3, padq3, ys ++ [⟨(q : Int) + 1, ⟨#[120]⟩, 1900, 1, 4, 13, 0⟩]), _, _) ⟨⟨hsq3, by simp; omega, boundE_snoc hG2 (show boundE ⟨(q : Int) + 1, ⟨#[120]⟩, 1900, 1, 4, 13, 0⟩ by refine ⟨by dsimp only; omega, by show 1 ≤ 1000; decide, by dsimp only; omega, by dsimp only; omega, by dsimp only; omega, by dsimp only; omega, by dsimp only; omega⟩)⟩, by simp; omega, by dsimp only; omega, by dsimp only; omega⟩ (by dsimp only; omega) (by (repeat' (first | exact Sub.nil | refine Sub.cons ?_ ?_)); all_goals (first | rfl | exact lkInt rfl (by omega))) (Sub.cons rfl (Sub.cons rfl Sub.nil)) (fun _ hp => (Hp.sub (Hp.pull (Hp.pull hp 2 rfl) 2 rfl) (List.sublist_append_left [_, _] _)))
      ·
        refine ct_exit ?_
        refine at_then_exit ?_
        refine at_then_exit ?_
        refine at_block_hit ?_
        refine at_then ?_
        refine ct_seq ?_
        refine ct_reg ?_
        refine rl_val gw_none (ov_move rfl) rfl ?_
        refine rl_val gw_none (ov_assign rfl) rfl ?_
        refine rl_nil ?_
        refine at_then ?_
        refine ct_ret ?_
        refine at_ret1 Try.results62 (ro_tmp rfl) (fun w1 hp => ?_)
        exact ⟨((bo2, cap2, pad2, ys), _, _), ⟨⟨hsl2, by dsimp only; omega, hG2⟩, by dsimp only; omega, by dsimp only; omega⟩, rfl, (Hp.sub (Hp.pull (Hp.pull hp 1 rfl) 1 rfl) (List.sublist_append_left [_, _] _))⟩
    ·
      refine ct_skip ?_
      refine at_then ?_
      refine ct_seq ?_
      refine ct_reg ?_
      refine rl_val gw_none (ov_move rfl) rfl ?_
      refine rl_val gw_none (ov_assign rfl) rfl ?_
      refine rl_nil ?_
      refine at_then ?_
      refine ct_ret ?_
      refine at_ret1 Try.results62 (ro_tmp rfl) (fun w1 hp => ?_)
      exact ⟨((bo, cap, pad, xs), _, _), ⟨⟨hsl, by dsimp only; omega, hG⟩, by dsimp only; omega, by dsimp only; omega⟩, rfl, (Hp.sub (Hp.pull (Hp.pull hp 1 rfl) 1 rfl) (List.sublist_append_left [_, _] _))⟩
end Go.Proofs.Ytfelindekikaeaa
