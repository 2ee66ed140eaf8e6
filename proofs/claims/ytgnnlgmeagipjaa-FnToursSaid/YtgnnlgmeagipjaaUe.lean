import Derived.Test.YtgnnlgmeagipjaaUb
import Derived.KernelRfl
import Derived.Test.YtgnnlgmeagipjaaUc
import Derived.Test.YtgnnlgmeagipjaaTm
set_option linter.unusedVariables false
set_option linter.unusedSimpArgs false
namespace Go.Proofs.Ytgnnlgmeagipjaa
open Go Go.RowKit K
theorem stays24_c (bc : Nat) (a : Option Addr) (lc capc : Nat) (at_ s : Int) (D : List Nat) (w : World) (h0 : Hp ⟨w, D⟩ [(some bc, 83, [.slice a lc capc, .int .i64 at_, .int .u64 s])] w) (hcd : CodeOk w D a lc) (hat : 0 ≤ at_ ∧ at_ ≤ 1000000000) : Calls Try.prog 56 ([.pointer (some ⟨bc, 0, none⟩)]).toArray w (fun e w' => ∃ j : (Option Nat × Nat × List Value × List Stay) × Int × Int, ((Sl 3 j.1.1 j.1.2.2.2.length j.1.2.1 (flat encStay j.1.2.2.2) j.1.2.2.1 ∧ j.1.2.2.2.length ≤ 10 ∧ (∀ y ∈ j.1.2.2.2, GStay y)) ∧ at_ ≤ j.2.1 ∧ j.2.1 ≤ at_ + 700) ∧ e = .returned (sv j.1.1 j.1.2.2.2.length j.1.2.1) ∧ Hp ⟨w, D⟩ [(some bc, 83, [.slice a lc capc, .int .i64 j.2.1, .int .u64 j.2.2]), (j.1.1, 44, flat encStay j.1.2.2.2 ++ j.1.2.2.1)] w') := by
  refine calls_ctds h0 Try.func56 Try.ntmps56 rfl rfl ?_
  refine ct_seq ?_
  refine ct_reg ?_
  refine rl_val gw_none (ov_assign rfl) rfl ?_
  refine rl_nil ?_
  refine at_then ?_
  refine ct_seq ?_
  refine ct_reg ?_
  refine rl_bslice Try.underlying30 ze44 sz44 rfl rfl rfl rfl rfl rfl (fun N1 => ?_)
  refine rl_val gw_none (ov_assign rfl) rfl ?_
  refine rl_nil ?_
  refine at_then ?_
  refine ct_seq ?_
  refine ct_seq ?_
  refine ct_reg ?_
  refine rl_val gw_none (ov_assign rfl) rfl ?_
  refine rl_nil ?_
  refine at_then ?_
  refine ct_block ?_
  refine ct_loopR (ι := Nat × (Option Nat × Nat × List Value × List Stay) × Int × Int) (fun p1 => [(3, sv p1.2.1.1 p1.2.1.2.2.2.length p1.2.1.2.1), (4, .int .i64 (p1.1 : Int))]) [(0, _), (2, _)] (fun p1 => [(some bc, 83, [.slice a lc capc, .int .i64 p1.2.2.1, .int .u64 p1.2.2.2]), (p1.2.1.1, 44, flat encStay p1.2.1.2.2.2 ++ p1.2.1.2.2.1)]) (fun p1 => p1.1 ≤ 6 ∧ (Sl 3 p1.2.1.1 p1.2.1.2.2.2.length p1.2.1.2.1 (flat encStay p1.2.1.2.2.2) p1.2.1.2.2.1 ∧ p1.2.1.2.2.2.length ≤ p1.1 ∧ (∀ y ∈ p1.2.1.2.2.2, GStay y)) ∧ at_ ≤ p1.2.2.1 ∧ p1.2.2.1 ≤ at_ + 10 * p1.1) (fun p1 => 6 - p1.1) ((0, (some N1, 0, [], []), _, _)) (Sub.cons rfl (Sub.cons rfl Sub.nil)) (fun _ hp => (Hp.sub (Hp.pull (Hp.pull hp 0 rfl) 1 rfl) (List.sublist_append_left [_, _] _))) (by (repeat' (first | exact Sub.nil | refine Sub.cons ?_ ?_)); all_goals (first | rfl | exact lkInt rfl (by dsimp only; omega))) ⟨by dsimp only; omega, ⟨Sl.lit rfl (Nat.zero_le _), by simp, fun y hy => by cases hy⟩, by dsimp only; omega, by dsimp only; omega⟩ (fun p1 hp1 => ?_)
  obtain ⟨k1, ⟨bo1, cap1, pad1, xs1⟩, at1, s1⟩ := p1
  obtain ⟨hk1, ⟨hsl1, hx1, hG1⟩, hat1, hau1⟩ := hp1
  dsimp only at hk1 hsl1 hx1 hG1 hat1 hau1 ⊢
  refine ct_seq ?_
  refine ct_seq ?_
  refine ct_reg ?_
  refine rl_val gw_none (ov_move rfl) rfl ?_
  refine rl_val gw_none (ov_lss rfl rfl) rfl ?_
  refine rl_nil ?_
  refine at_then ?_
  first | refine ct_dec rfl (fun h1 => ?_) (fun h1 => ?_) | refine ct_ndec rfl (fun h1 => ?_) (fun h1 => ?_) | refine ct_eq rfl (fun h1 => ?_) (fun h1 => ?_) | refine ct_ne rfl (fun h1 => ?_) (fun h1 => ?_) | refine ct_not rfl (fun h1 => ?_) (fun h1 => ?_) | refine ct_cond rfl (fun h1 => ?_) (fun h1 => ?_)
  ·
    refine ct_skip ?_
    refine at_then ?_
    refine ct_seq ?_
    refine ct_block ?_
    refine ct_seq ?_
    refine ct_reg ?_
    refine rl_val gw_none (ov_move rfl) rfl ?_
    refine rl_calld (ι := (Bool) × Int × Int) (fun j => .bool j.1) [_] [_] (fun j => [(_, 83, [_, .int .i64 j.2.1, .int .u64 j.2.2])]) (fun j => True ∧ _ ≤ j.2.1 ∧ j.2.1 ≤ _ + 2) gw_none goes59 rfl (fun _ hq => (hq).pull 0 rfl) (fun w1 hp h0 => one_c _ _ _ _ _ _ _ _ _ h0 (hcd.call hp (by simp)) (by omega) (by omega)) rfl (fun jo hjo => ?_)
    obtain ⟨vo, to, so⟩ := jo
    dsimp only at hjo
    try dsimp only
    refine rl_nil ?_
    refine at_then ?_
    first | refine ct_dec rfl (fun h2 => ?_) (fun h2 => ?_) | refine ct_ndec rfl (fun h2 => ?_) (fun h2 => ?_) | refine ct_eq rfl (fun h2 => ?_) (fun h2 => ?_) | refine ct_ne rfl (fun h2 => ?_) (fun h2 => ?_) | refine ct_not rfl (fun h2 => ?_) (fun h2 => ?_) | refine ct_cond rfl (fun h2 => ?_) (fun h2 => ?_)
    ·
      refine ct_reg ?_
      refine rl_val gw_none (ov_move rfl) rfl ?_
      refine rl_val gw_none (ov_move rfl) rfl ?_
      refine rl_val gw_none (ov_move rfl) rfl ?_
      refine rl_bslice Try.underlying39 ze3 sz3 rfl rfl rfl rfl rfl rfl (fun N2 => ?_)
      refine rl_calld (ι := (Int) × Int × Int) (fun j => .int .i64 j.1) [_, _] [_] (fun j => [(_, 83, [_, .int .i64 j.2.1, .int .u64 j.2.2])]) (fun j => ((-1000000) ≤ j.1 ∧ j.1 ≤ 1000000) ∧ _ ≤ j.2.1 ∧ j.2.1 ≤ _ + 2) gw_none goes60 rfl (fun _ hq => ((hq).pull 0 rfl).pull 1 rfl) (fun w1 hp h0 => among_c (-1000000) 1000000 _ _ _ _ _ _ _ _ _ _ _ _ h0 (hcd.call hp (by simp)) (by omega) (by first | rfl | decide | (simp [okIntsR]; done) | (simp [okIntsR]; omega) | (simp [okIntsR, Value.cells]; omega)) (by first | decide | (simp; done) | (simp; omega) | omega | (simp [Value.cells]; done) | (simp [Value.cells]; omega))) rfl (fun ja hja => ?_)
      obtain ⟨va, ta, sa⟩ := ja
      dsimp only at hja
      try dsimp only
      refine rl_val gw_none (ov_move rfl) rfl ?_
      refine rl_bslice Try.underlying39 ze3 sz3 rfl rfl rfl rfl rfl rfl (fun N3 => ?_)
      refine rl_calld (ι := (Int) × Int × Int) (fun j => .int .i64 j.1) [_, _] [_] (fun j => [(_, 83, [_, .int .i64 j.2.1, .int .u64 j.2.2])]) (fun j => ((-1000000) ≤ j.1 ∧ j.1 ≤ 1000000) ∧ _ ≤ j.2.1 ∧ j.2.1 ≤ _ + 2) gw_none goes60 rfl (fun _ hq => ((hq).pull 0 rfl).pull 1 rfl) (fun w1 hp h0 => among_c (-1000000) 1000000 _ _ _ _ _ _ _ _ _ _ _ _ h0 (hcd.call hp (by simp)) (by omega) (by first | rfl | decide | (simp [okIntsR]; done) | (simp [okIntsR]; omega) | (simp [okIntsR, Value.cells]; omega)) (by first | decide | (simp; done) | (simp; omega) | omega | (simp [Value.cells]; done) | (simp [Value.cells]; omega))) rfl (fun jb hjb => ?_)
      obtain ⟨vb, tb, sb⟩ := jb
      dsimp only at hjb
      try dsimp only
      refine rl_val gw_none (ov_build rfl (bu44_0_1_2 _ _ _)) rfl ?_
      refine rl_bslice Try.underlying30 ze44 sz44 rfl rfl rfl rfl rfl rfl (fun N4 => ?_)
      refine rl_appT (flat encStay) ((flat_append _)) [_, _] (acc := xs1) Try.underlying30 ze44 sz44 rfl rfl by44 rfl rfl rfl hsl1 ([(⟨(k1 : Int), va, vb⟩ : Stay)]) rfl (fun w1 hp => hp.sr1 0 rfl rfl (by decide)) (flat_one encStay_one _) (by unfold maxLen; omega) (by omega) rfl (fun boq1 capq1 padq1 hsq1 => ?_)
      refine rl_val gw_none (ov_assign rfl) rfl ?_
      refine rl_nil ?_
      refine at_block ?_
      refine at_then ?_
      refine ct_reg ?_
      refine rl_val gw_none (ov_move rfl) rfl ?_
      refine rl_val gw_none (ov_add rfl rfl (by omega)) rfl ?_
      refine rl_val gw_none (ov_assign rfl) rfl ?_
      refine rl_nil ?_
      exact at_backR (k1 + 1, (boq1, capq1, padq1, xs1 ++ [⟨(k1 : Int), va, vb⟩]), _, _) ⟨by dsimp only; omega, ⟨hsq1, by simp; omega, gStay_snoc hG1 (gStay_of (by first | omega | (dsimp only; omega)) (by first | omega | (dsimp only; omega)) (by first | omega | (dsimp only; omega)))⟩, by dsimp only; omega, by dsimp only; omega⟩ (by dsimp only; omega) (by (repeat' (first | exact Sub.nil | refine Sub.cons ?_ ?_)); all_goals (first | rfl | exact lkInt rfl (by dsimp only; omega))) (Sub.cons rfl (Sub.cons rfl Sub.nil)) (fun _ hp => (Hp.sub (Hp.pull (Hp.pull hp 2 rfl) 2 rfl) (List.sublist_append_left [_, _] _)))
    ·
      refine ct_skip ?_
      refine at_block ?_
      refine at_then ?_
      refine ct_reg ?_
      refine rl_val gw_none (ov_move rfl) rfl ?_
      refine rl_val gw_none (ov_add rfl rfl (by omega)) rfl ?_
      refine rl_val gw_none (ov_assign rfl) rfl ?_
      refine rl_nil ?_
      exact at_backR (k1 + 1, (bo1, cap1, pad1, xs1), _, _) ⟨by dsimp only; omega, ⟨hsl1, by simp; omega, hG1⟩, by dsimp only; omega, by dsimp only; omega⟩ (by dsimp only; omega) (by (repeat' (first | exact Sub.nil | refine Sub.cons ?_ ?_)); all_goals (first | rfl | exact lkInt rfl (by dsimp only; omega))) (Sub.cons rfl (Sub.cons rfl Sub.nil)) (fun _ hp => (Hp.sub (Hp.pull (Hp.pull hp 1 rfl) 1 rfl) (List.sublist_append_left [_, _] _)))
  ·
    refine ct_exit ?_
    refine at_then_exit ?_
    refine at_then_exit ?_
    refine at_block_hit ?_
    refine at_then ?_
    refine ct_seq ?_
    refine ct_seq ?_
    refine ct_reg ?_
    refine rl_val gw_none (ov_move rfl) rfl ?_
    refine rl_calld (ι := (Int) × Int × Int) (fun j => .int .i64 j.1) [_] [_] (fun j => [(_, 83, [_, .int .i64 j.2.1, .int .u64 j.2.2])]) (fun j => (0 ≤ j.1 ∧ (j.1 < _ ∨ j.1 = 0)) ∧ _ ≤ j.2.1 ∧ j.2.1 ≤ _ + 2) gw_none goes57 rfl (fun _ hq => (hq).pull 0 rfl) (fun w1 hp h0 => pick_c _ _ _ _ _ _ _ _ _ h0 (hcd.call hp (by simp)) (by omega) (by omega)) rfl (fun jp hjp => ?_)
    obtain ⟨vp, tp, sp⟩ := jp
    dsimp only at hjp
    try dsimp only
    refine rl_nil ?_
    refine at_then ?_
    refine ct_block ?_
    refine ct_seq ?_
    refine ct_reg ?_
    refine rl_val gw_none (ov_eql rfl rfl) rfl ?_
    refine rl_val gw_none (ov_assign rfl) rfl ?_
    refine rl_nil ?_
    refine at_then ?_
    first | refine ct_dec rfl (fun h3 => ?_) (fun h3 => ?_) | refine ct_ndec rfl (fun h3 => ?_) (fun h3 => ?_) | refine ct_eq rfl (fun h3 => ?_) (fun h3 => ?_) | refine ct_ne rfl (fun h3 => ?_) (fun h3 => ?_) | refine ct_not rfl (fun h3 => ?_) (fun h3 => ?_) | refine ct_cond rfl (fun h3 => ?_) (fun h3 => ?_)
    ·
      refine ct_reg ?_
      refine rl_val gw_none (ov_move rfl) rfl ?_
      refine rl_val gw_none (ov_move rfl) rfl ?_
      refine rl_bslice Try.underlying39 ze3 sz3 rfl rfl rfl rfl rfl rfl (fun N5 => ?_)
      refine rl_calld (ι := (Int) × Int × Int) (fun j => .int .i64 j.1) [_, _] [_] (fun j => [(_, 83, [_, .int .i64 j.2.1, .int .u64 j.2.2])]) (fun j => ((-1000000) ≤ j.1 ∧ j.1 ≤ 1000000) ∧ _ ≤ j.2.1 ∧ j.2.1 ≤ _ + 2) gw_none goes60 rfl (fun _ hq => ((hq).pull 0 rfl).pull 1 rfl) (fun w1 hp h0 => among_c (-1000000) 1000000 _ _ _ _ _ _ _ _ _ _ _ _ h0 (hcd.call hp (by simp)) (by omega) (by first | rfl | decide | (simp [okIntsR]; done) | (simp [okIntsR]; omega) | (simp [okIntsR, Value.cells]; omega)) (by first | decide | (simp; done) | (simp; omega) | omega | (simp [Value.cells]; done) | (simp [Value.cells]; omega))) rfl (fun jx hjx => ?_)
      obtain ⟨vx, tx, sx⟩ := jx
      dsimp only at hjx
      try dsimp only
      refine rl_val gw_none (ov_move rfl) rfl ?_
      refine rl_bslice Try.underlying39 ze3 sz3 rfl rfl rfl rfl rfl rfl (fun N6 => ?_)
      refine rl_calld (ι := (Int) × Int × Int) (fun j => .int .i64 j.1) [_, _] [_] (fun j => [(_, 83, [_, .int .i64 j.2.1, .int .u64 j.2.2])]) (fun j => ((-1000000) ≤ j.1 ∧ j.1 ≤ 1000000) ∧ _ ≤ j.2.1 ∧ j.2.1 ≤ _ + 2) gw_none goes60 rfl (fun _ hq => ((hq).pull 0 rfl).pull 1 rfl) (fun w1 hp h0 => among_c (-1000000) 1000000 _ _ _ _ _ _ _ _ _ _ _ _ h0 (hcd.call hp (by simp)) (by omega) (by first | rfl | decide | (simp [okIntsR]; done) | (simp [okIntsR]; omega) | (simp [okIntsR, Value.cells]; omega)) (by first | decide | (simp; done) | (simp; omega) | omega | (simp [Value.cells]; done) | (simp [Value.cells]; omega))) rfl (fun jy hjy => ?_)
      obtain ⟨vy, ty, sy⟩ := jy
      dsimp only at hjy
      try dsimp only
      refine rl_val gw_none (ov_move rfl) rfl ?_
      refine rl_bslice Try.underlying39 ze3 sz3 rfl rfl rfl rfl rfl rfl (fun N7 => ?_)
      refine rl_calld (ι := (Int) × Int × Int) (fun j => .int .i64 j.1) [_, _] [_] (fun j => [(_, 83, [_, .int .i64 j.2.1, .int .u64 j.2.2])]) (fun j => ((-1000000) ≤ j.1 ∧ j.1 ≤ 1000000) ∧ _ ≤ j.2.1 ∧ j.2.1 ≤ _ + 2) gw_none goes60 rfl (fun _ hq => ((hq).pull 0 rfl).pull 1 rfl) (fun w1 hp h0 => among_c (-1000000) 1000000 _ _ _ _ _ _ _ _ _ _ _ _ h0 (hcd.call hp (by simp)) (by omega) (by first | rfl | decide | (simp [okIntsR]; done) | (simp [okIntsR]; omega) | (simp [okIntsR, Value.cells]; omega)) (by first | decide | (simp; done) | (simp; omega) | omega | (simp [Value.cells]; done) | (simp [Value.cells]; omega))) rfl (fun jz hjz => ?_)
      obtain ⟨vz, tz, sz⟩ := jz
      dsimp only at hjz
      try dsimp only
      refine rl_val gw_none (ov_build rfl (bu44_0_1_2 _ _ _)) rfl ?_
      refine rl_bslice Try.underlying30 ze44 sz44 rfl rfl rfl rfl rfl rfl (fun N8 => ?_)
      refine rl_appT (flat encStay) ((flat_append _)) [_, _] (acc := xs1) Try.underlying30 ze44 sz44 rfl rfl by44 rfl rfl rfl hsl1 ([(⟨vx, vy, vz⟩ : Stay)]) rfl (fun w1 hp => hp.sr1 0 rfl rfl (by decide)) (flat_one encStay_one _) (by unfold maxLen; omega) (by omega) rfl (fun boq2 capq2 padq2 hsq2 => ?_)
      refine rl_val gw_none (ov_assign rfl) rfl ?_
      refine rl_nil ?_
      refine at_block ?_
      refine at_then ?_
      refine ct_seq ?_
      refine ct_reg ?_
      refine rl_val gw_none (ov_move rfl) rfl ?_
      refine rl_val gw_none (ov_assign rfl) rfl ?_
      refine rl_nil ?_
      refine at_then ?_
      refine ct_ret ?_
      refine at_ret1 Try.results56 (ro_tmp rfl) (fun w1 hp => ?_)
      exact ⟨((boq2, capq2, padq2, xs1 ++ [⟨vx, vy, vz⟩]), _, _), ⟨⟨hsq2, by simp; omega, gStay_snoc hG1 (gStay_of (by first | omega | (dsimp only; omega)) (by first | omega | (dsimp only; omega)) (by first | omega | (dsimp only; omega)))⟩, by dsimp only; omega, by dsimp only; omega⟩, rfl, (Hp.sub (Hp.pull (Hp.pull hp 2 rfl) 2 rfl) (List.sublist_append_left [_, _] _))⟩
    ·
      refine ct_seq ?_
      refine ct_reg ?_
      refine rl_val gw_none (ov_eql rfl rfl) rfl ?_
      refine rl_val gw_none (ov_assign rfl) rfl ?_
      refine rl_nil ?_
      refine at_then ?_
      first | refine ct_dec rfl (fun h4 => ?_) (fun h4 => ?_) | refine ct_ndec rfl (fun h4 => ?_) (fun h4 => ?_) | refine ct_eq rfl (fun h4 => ?_) (fun h4 => ?_) | refine ct_ne rfl (fun h4 => ?_) (fun h4 => ?_) | refine ct_not rfl (fun h4 => ?_) (fun h4 => ?_) | refine ct_cond rfl (fun h4 => ?_) (fun h4 => ?_)
      ·
        refine ct_seq ?_
        refine ct_reg ?_
        refine rl_bslice Try.underlying30 ze44 sz44 rfl rfl rfl rfl rfl rfl (fun N9 => ?_)
        refine rl_val gw_none (ov_assign rfl) rfl ?_
        refine rl_nil ?_
        refine at_then ?_
        refine ct_seq ?_
        refine ct_reg ?_
        refine rl_val gw_none (ov_assign rfl) rfl ?_
        refine rl_nil ?_
        refine at_then ?_
        refine ct_block ?_
        refine ct_loopR (ι := Nat × (Option Nat × Nat × List Value × List Stay) × Int × Int) (fun p2 => [(3, sv p2.2.1.1 p2.2.1.2.2.2.length p2.2.1.2.1), (5, .int .i64 (p2.1 : Int))]) [(0, _), (2, _)] (fun p2 => [(some bc, 83, [.slice a lc capc, .int .i64 p2.2.2.1, .int .u64 p2.2.2.2]), (p2.2.1.1, 44, flat encStay p2.2.1.2.2.2 ++ p2.2.1.2.2.1)]) (fun p2 => p2.1 ≤ 8 ∧ (Sl 3 p2.2.1.1 p2.2.1.2.2.2.length p2.2.1.2.1 (flat encStay p2.2.1.2.2.2) p2.2.1.2.2.1 ∧ p2.2.1.2.2.2.length ≤ p2.1 ∧ (∀ y ∈ p2.2.1.2.2.2, GStay y)) ∧ at_ ≤ p2.2.2.1 ∧ p2.2.2.1 ≤ at_ + 100 + 4 * p2.1) (fun p2 => 8 - p2.1) ((0, (some N9, 0, [], []), _, _)) (Sub.cons rfl (Sub.cons rfl Sub.nil)) (fun _ hp => (Hp.sub (Hp.pull (Hp.pull hp 0 rfl) 1 rfl) (List.sublist_append_left [_, _] _))) (by (repeat' (first | exact Sub.nil | refine Sub.cons ?_ ?_)); all_goals (first | rfl | exact lkInt rfl (by dsimp only; omega))) ⟨by dsimp only; omega, ⟨Sl.lit rfl (Nat.zero_le _), by simp, fun y hy => by cases hy⟩, by dsimp only; omega, by dsimp only; omega⟩ (fun p2 hp2 => ?_)
        obtain ⟨k2, ⟨bo2, cap2, pad2, xs2⟩, at2, s2⟩ := p2
        obtain ⟨hk2, ⟨hsl2, hx2, hG2⟩, hat2, hau2⟩ := hp2
        dsimp only at hk2 hsl2 hx2 hG2 hat2 hau2 ⊢
        refine ct_seq ?_
        refine ct_seq ?_
        refine ct_reg ?_
        refine rl_val gw_none (ov_move rfl) rfl ?_
        refine rl_val gw_none (ov_move rfl) rfl ?_
        refine rl_calld (ι := (Int) × Int × Int) (fun j => .int .i64 j.1) [_] [_] (fun j => [(_, 83, [_, .int .i64 j.2.1, .int .u64 j.2.2])]) (fun j => (0 ≤ j.1 ∧ (j.1 < _ ∨ j.1 = 0)) ∧ _ ≤ j.2.1 ∧ j.2.1 ≤ _ + 2) gw_none goes57 rfl (fun _ hq => (hq).pull 0 rfl) (fun w1 hp h0 => pick_c _ _ _ _ _ _ _ _ _ h0 (hcd.call hp (by simp)) (by omega) (by omega)) rfl (fun jq hjq => ?_)
        obtain ⟨vq, tq, sq⟩ := jq
        dsimp only at hjq
        try dsimp only
        refine rl_val gw_none (ov_add rfl rfl (by omega)) rfl ?_
        refine rl_val gw_none (ov_lss rfl rfl) rfl ?_
        refine rl_nil ?_
        refine at_then ?_
        first | refine ct_dec rfl (fun h5 => ?_) (fun h5 => ?_) | refine ct_ndec rfl (fun h5 => ?_) (fun h5 => ?_) | refine ct_eq rfl (fun h5 => ?_) (fun h5 => ?_) | refine ct_ne rfl (fun h5 => ?_) (fun h5 => ?_) | refine ct_not rfl (fun h5 => ?_) (fun h5 => ?_) | refine ct_cond rfl (fun h5 => ?_) (fun h5 => ?_)
        ·
          refine ct_skip ?_
          refine at_then ?_
          refine ct_seq ?_
          refine ct_block ?_
          refine ct_reg ?_
          refine rl_val gw_none (ov_move rfl) rfl ?_
          refine rl_val gw_none (ov_move rfl) rfl ?_
          refine rl_val gw_none (ov_build rfl (bu44_0_1_2 _ _ _)) rfl ?_
          refine rl_bslice Try.underlying30 ze44 sz44 rfl rfl rfl rfl rfl rfl (fun N10 => ?_)
          refine rl_appT (flat encStay) ((flat_append _)) [_, _] (acc := xs2) Try.underlying30 ze44 sz44 rfl rfl by44 rfl rfl rfl hsl2 ([(⟨(k2 : Int), 1, 3⟩ : Stay)]) rfl (fun w1 hp => hp.sr1 0 rfl rfl (by decide)) (flat_one encStay_one _) (by unfold maxLen; omega) (by omega) rfl (fun boq3 capq3 padq3 hsq3 => ?_)
          refine rl_val gw_none (ov_assign rfl) rfl ?_
          refine rl_nil ?_
          refine at_block ?_
          refine at_then ?_
          refine ct_reg ?_
          refine rl_val gw_none (ov_move rfl) rfl ?_
          refine rl_val gw_none (ov_add rfl rfl (by omega)) rfl ?_
          refine rl_val gw_none (ov_assign rfl) rfl ?_
          refine rl_nil ?_
          exact at_backR (k2 + 1, (boq3, capq3, padq3, xs2 ++ [⟨(k2 : Int), 1, 3⟩]), _, _) ⟨by dsimp only; omega, ⟨hsq3, by simp; omega, gStay_snoc hG2 (gStay_of (by first | omega | (dsimp only; omega)) (by first | omega | (dsimp only; omega)) (by first | omega | (dsimp only; omega)))⟩, by dsimp only; omega, by dsimp only; omega⟩ (by dsimp only; omega) (by (repeat' (first | exact Sub.nil | refine Sub.cons ?_ ?_)); all_goals (first | rfl | exact lkInt rfl (by dsimp only; omega))) (Sub.cons rfl (Sub.cons rfl Sub.nil)) (fun _ hp => (Hp.sub (Hp.pull (Hp.pull hp 2 rfl) 2 rfl) (List.sublist_append_left [_, _] _)))
        ·
          refine ct_exit ?_
          refine at_then_exit ?_
          refine at_then_exit ?_
          refine at_block_hit ?_
          refine at_block ?_
          refine at_then ?_
          refine ct_seq ?_
          refine ct_reg ?_
          refine rl_val gw_none (ov_move rfl) rfl ?_
          refine rl_val gw_none (ov_assign rfl) rfl ?_
          refine rl_nil ?_
          refine at_then ?_
          refine ct_ret ?_
          refine at_ret1 Try.results56 (ro_tmp rfl) (fun w1 hp => ?_)
          exact ⟨((bo2, cap2, pad2, xs2), _, _), ⟨⟨hsl2, by dsimp only; omega, hG2⟩, by dsimp only; omega, by dsimp only; omega⟩, rfl, (Hp.sub (Hp.pull (Hp.pull hp 1 rfl) 1 rfl) (List.sublist_append_left [_, _] _))⟩
      ·
        refine ct_skip ?_
        refine at_block ?_
        refine at_then ?_
        refine ct_seq ?_
        refine ct_reg ?_
        refine rl_val gw_none (ov_move rfl) rfl ?_
        refine rl_val gw_none (ov_assign rfl) rfl ?_
        refine rl_nil ?_
        refine at_then ?_
        refine ct_ret ?_
        refine at_ret1 Try.results56 (ro_tmp rfl) (fun w1 hp => ?_)
        exact ⟨((bo1, cap1, pad1, xs1), _, _), ⟨⟨hsl1, by dsimp only; omega, hG1⟩, by dsimp only; omega, by dsimp only; omega⟩, rfl, (Hp.sub (Hp.pull (Hp.pull hp 1 rfl) 1 rfl) (List.sublist_append_left [_, _] _))⟩
end Go.Proofs.Ytgnnlgmeagipjaa
set_option linter.unusedVariables false
set_option linter.unusedSimpArgs false
namespace Go.Proofs.Ytgnnlgmeagipjaa
open Go Go.RowKit K
theorem DrawDaysOf_c (a : Option Addr) (lc capc : Nat) (w : World) (hcd : CodeOk w [] a lc) : Calls Try.prog 18 ([.slice a lc capc]).toArray w (fun e w' => ∃ q : (Option Nat × Nat × List Value × List Road) × (Option Nat × Nat × List Value × List Stay) × (Option Nat × Nat × List Value × List Int), ((Sl 3 q.1.1 q.1.2.2.2.length q.1.2.1 (flat encRoad q.1.2.2.2) q.1.2.2.1 ∧ q.1.2.2.2.length ≤ 70 ∧ (∀ y ∈ q.1.2.2.2, GRoad y)) ∧ (Sl 3 q.2.1.1 q.2.1.2.2.2.length q.2.1.2.1 (flat encStay q.2.1.2.2.2) q.2.1.2.2.1 ∧ q.2.1.2.2.2.length ≤ 10 ∧ (∀ y ∈ q.2.1.2.2.2, GStay y)) ∧ (Sl 1 q.2.2.1 q.2.2.2.2.2.length q.2.2.2.1 (ints q.2.2.2.2.2) q.2.2.2.2.1 ∧ q.2.2.2.2.2.length ≤ 20)) ∧ e = .returned (.tuple #[sv q.1.1 q.1.2.2.2.length q.1.2.1, sv q.2.1.1 q.2.1.2.2.2.length q.2.1.2.1, sv q.2.2.1 q.2.2.2.2.2.length q.2.2.2.1]) ∧ Hp ⟨w, []⟩ [(q.1.1, 65, flat encRoad q.1.2.2.2 ++ q.1.2.2.1), (q.2.1.1, 44, flat encStay q.2.1.2.2.2 ++ q.2.1.2.2.1), (q.2.2.1, 3, ints q.2.2.2.2.2 ++ q.2.2.2.2.1)] w') := by
  refine calls_ct Try.func18 Try.ntmps18 rfl rfl ?_
  refine ct_seq ?_
  refine ct_reg ?_
  refine rl_val gw_none (ov_assign rfl) rfl ?_
  refine rl_val gw_none (ov_assign rfl) rfl ?_
  refine rl_val gw_none (ov_assign rfl) rfl ?_
  refine rl_nil ?_
  refine at_then ?_
  refine ct_seq ?_
  refine ct_reg ?_
  refine rl_val gw_none (ov_move rfl) rfl ?_
  refine rl_val gw_none (ov_build rfl (bu83_0 _ _ _)) rfl ?_
  refine rl_box rfl rfl (fun N1 => ?_)
  refine rl_val gw_none (ov_assign rfl) rfl ?_
  refine rl_nil ?_
  refine at_then ?_
  refine ct_seq ?_
  refine ct_reg ?_
  refine rl_val gw_none (ov_move rfl) rfl ?_
  refine rl_calld (ι := (Option Nat × Nat × List Value × List Road) × Int × Int) (fun j => sv j.1.1 j.1.2.2.2.length j.1.2.1) [_] [] (fun j => [(_, 83, [_, .int .i64 j.2.1, .int .u64 j.2.2]), (j.1.1, 65, flat encRoad j.1.2.2.2 ++ j.1.2.2.1)]) (fun j => (Sl 3 j.1.1 j.1.2.2.2.length j.1.2.1 (flat encRoad j.1.2.2.2) j.1.2.2.1 ∧ j.1.2.2.2.length ≤ 70 ∧ (∀ y ∈ j.1.2.2.2, GRoad y)) ∧ _ ≤ j.2.1 ∧ j.2.1 ≤ _ + 700) gw_none goes55 rfl (fun _ hq => (hq).pull 0 rfl) (fun w1 hp h0 => roads24_c _ _ _ _ _ _ _ _ h0 (hcd.call hp (by simp)) (by omega)) rfl (fun jr hjr => ?_)
  obtain ⟨⟨br, cr, pr, xs⟩, tr, sr⟩ := jr
  obtain ⟨⟨hslr, hr, hGr⟩, htr⟩ := hjr
  dsimp only at hslr hr hGr htr
  try dsimp only
  refine rl_val gw_none (ov_assign rfl) rfl ?_
  refine rl_nil ?_
  refine at_then ?_
  refine ct_seq ?_
  refine ct_reg ?_
  refine rl_val gw_none (ov_move rfl) rfl ?_
  refine rl_calld (ι := (Option Nat × Nat × List Value × List Stay) × Int × Int) (fun j => sv j.1.1 j.1.2.2.2.length j.1.2.1) [_] [_] (fun j => [(_, 83, [_, .int .i64 j.2.1, .int .u64 j.2.2]), (j.1.1, 44, flat encStay j.1.2.2.2 ++ j.1.2.2.1)]) (fun j => (Sl 3 j.1.1 j.1.2.2.2.length j.1.2.1 (flat encStay j.1.2.2.2) j.1.2.2.1 ∧ j.1.2.2.2.length ≤ 10 ∧ (∀ y ∈ j.1.2.2.2, GStay y)) ∧ _ ≤ j.2.1 ∧ j.2.1 ≤ _ + 700) gw_none goes56 rfl (fun _ hq => (hq).pull 0 rfl) (fun w1 hp h0 => stays24_c _ _ _ _ _ _ _ _ h0 (hcd.call hp (by simp)) (by omega)) rfl (fun jy hjy => ?_)
  obtain ⟨⟨bst, cst, pst, st⟩, tst, sst⟩ := jy
  obtain ⟨⟨hsly, hy, hGy⟩, hty⟩ := hjy
  dsimp only at hsly hy hGy hty
  try dsimp only
  refine rl_val gw_none (ov_assign rfl) rfl ?_
  refine rl_nil ?_
  refine at_then ?_
  refine ct_seq ?_
  refine ct_reg ?_
  refine rl_bslice Try.underlying39 ze3 sz3 rfl rfl rfl rfl rfl rfl (fun N2 => ?_)
  refine rl_val gw_none (ov_assign rfl) rfl ?_
  refine rl_nil ?_
  refine at_then ?_
  refine ct_seq ?_
  refine ct_seq ?_
  refine ct_reg ?_
  refine rl_val gw_none (ov_move rfl) rfl ?_
  refine rl_val gw_none (ov_move rfl) rfl ?_
  refine rl_val gw_none (ov_len Try.underlying30 rfl) rfl ?_
  refine rl_val gw_none (ov_add rfl rfl (by omega)) rfl ?_
  refine rl_calld (ι := (Int) × Int × Int) (fun j => .int .i64 j.1) [_] [_, _, _] (fun j => [(_, 83, [_, .int .i64 j.2.1, .int .u64 j.2.2])]) (fun j => (0 ≤ j.1 ∧ (j.1 < _ ∨ j.1 = 0)) ∧ _ ≤ j.2.1 ∧ j.2.1 ≤ _ + 2) gw_none goes57 rfl (fun _ hq => (hq).pull 1 rfl) (fun w1 hp h0 => pick_c _ _ _ _ _ _ _ _ _ h0 (hcd.call hp (by simp)) (by omega) (by omega)) rfl (fun jn hjn => ?_)
  obtain ⟨vn, tn, sn⟩ := jn
  dsimp only at hjn
  try dsimp only
  refine rl_val gw_none (ov_assign rfl) rfl ?_
  refine rl_nil ?_
  refine at_then ?_
  refine ct_block ?_
  refine ct_loopR (ι := Nat × (Option Nat × Nat × List Value × List Int) × Int × Int) (fun p1 => [(8, sv p1.2.1.1 p1.2.1.2.2.2.length p1.2.1.2.1), (9, .int .i64 (p1.1 : Int))]) [(2, _), (3, _), (4, _), (5, _), (6, _), (7, _)] (fun p1 => [(some N1, 83, [.slice a lc capc, .int .i64 p1.2.2.1, .int .u64 p1.2.2.2]), (p1.2.1.1, 3, ints p1.2.1.2.2.2 ++ p1.2.1.2.2.1), _, _]) (fun p1 => (Sl 1 p1.2.1.1 p1.2.1.2.2.2.length p1.2.1.2.1 (ints p1.2.1.2.2.2) p1.2.1.2.2.1 ∧ p1.2.1.2.2.2.length ≤ 12) ∧ 0 ≤ p1.2.2.1 ∧ p1.2.2.1 + 10 * p1.1 ≤ 3000 ∧ p1.2.1.2.2.2.length + p1.1 ≤ 12) (fun p1 => p1.1) ((vn.toNat, (some N2, 0, [], []), _, _)) (Sub.cons rfl (Sub.cons rfl (Sub.cons rfl (Sub.cons rfl (Sub.cons rfl (Sub.cons rfl Sub.nil)))))) (fun _ hp => (Hp.sub (Hp.pull (Hp.pull (Hp.pull (Hp.pull hp 3 rfl) 3 rfl) 3 rfl) 3 rfl) (List.sublist_append_left [_, _, _, _] _))) (by (repeat' (first | exact Sub.nil | refine Sub.cons ?_ ?_)); all_goals (first | rfl | exact lkInt rfl (by dsimp only; omega))) ⟨⟨Sl.lit rfl (Nat.zero_le _), by simp⟩, by dsimp only; omega, by dsimp only; omega, by simp; omega⟩ (fun p1 hp1 => ?_)
  obtain ⟨k1, ⟨bo1, cap1, pad1, xs1⟩, at1, s1⟩ := p1
  obtain ⟨⟨hsl1, hx1⟩, hat1, hau1, hxk1⟩ := hp1
  dsimp only at hsl1 hx1 hat1 hau1 hxk1 ⊢
  refine ct_seq ?_
  refine ct_seq ?_
  refine ct_reg ?_
  refine rl_val gw_none (ov_move rfl) rfl ?_
  refine rl_val gw_none (ov_gtr rfl rfl) rfl ?_
  refine rl_nil ?_
  refine at_then ?_
  first | refine ct_dec rfl (fun h1 => ?_) (fun h1 => ?_) | refine ct_ndec rfl (fun h1 => ?_) (fun h1 => ?_) | refine ct_eq rfl (fun h1 => ?_) (fun h1 => ?_) | refine ct_ne rfl (fun h1 => ?_) (fun h1 => ?_) | refine ct_not rfl (fun h1 => ?_) (fun h1 => ?_) | refine ct_cond rfl (fun h1 => ?_) (fun h1 => ?_)
  ·
    refine ct_skip ?_
    refine at_then ?_
    refine ct_seq ?_
    refine ct_block ?_
    refine ct_seq ?_
    refine ct_reg ?_
    refine rl_val gw_none (ov_move rfl) rfl ?_
    refine rl_val gw_none (ov_move rfl) rfl ?_
    refine rl_val gw_none (ov_len Try.underlying30 rfl) rfl ?_
    refine rl_calld (ι := (Int) × Int × Int) (fun j => .int .i64 j.1) [_] [_, _, _] (fun j => [(_, 83, [_, .int .i64 j.2.1, .int .u64 j.2.2])]) (fun j => (0 ≤ j.1 ∧ (j.1 < _ ∨ j.1 = 0)) ∧ _ ≤ j.2.1 ∧ j.2.1 ≤ _ + 2) gw_none goes57 rfl (fun _ hq => (hq).pull 0 rfl) (fun w1 hp h0 => pick_c _ _ _ _ _ _ _ _ _ h0 (hcd.call hp (by simp)) (by omega) (by omega)) rfl (fun ji hji => ?_)
    obtain ⟨vi, ti, si⟩ := ji
    dsimp only at hji
    try dsimp only
    refine rl_val gw_none (ov_assign rfl) rfl ?_
    refine rl_nil ?_
    refine at_then ?_
    refine ct_seq ?_
    refine ct_reg ?_
    refine rl_val gw_none (ov_move rfl) rfl ?_
    refine rl_val gw_none (ov_move rfl) rfl ?_
    refine rl_callv gw_none goes58 rfl (fun w1 hp => l1Has_c xs1 vi _ _ (hp.slsr 1 rfl hsl1)) rfl ?_
    refine rl_val gw_none (ov_not rfl) rfl ?_
    refine rl_val gw_none (ov_move rfl) rfl ?_
    refine rl_split (t := 36) rfl (fun g1 => ?_) (fun g1 => ?_)
    ·
      have g1' := g1
      try simp only [Bool.not_eq_true', Bool.not_eq_false', Bool.not_not, decide_eq_true_eq, decide_eq_false_iff_not, beq_iff_eq, beq_eq_false_iff_ne, bne_iff_ne, bne_eq_false_iff_eq, Bool.and_eq_true, Bool.or_eq_true, Bool.and_eq_false_iff, Bool.or_eq_false_iff, inB] at g1'
      refine rl_skip (gw_not rfl rfl g1) rfl ?_
      refine rl_skip (gw_not rfl rfl g1) rfl ?_
      refine rl_val gw_none (ov_pick_t rfl g1 rfl) rfl ?_
      refine rl_nil ?_
      refine at_then ?_
      refine ct_true rfl rfl ?_
      refine ct_reg ?_
      refine rl_val gw_none (ov_move rfl) rfl ?_
      refine rl_val gw_none (ov_move rfl) rfl ?_
      refine rl_bslice Try.underlying39 ze3 sz3 rfl rfl rfl rfl rfl rfl (fun N3 => ?_)
      refine rl_appT (ints) (ints_append) [_, _] (acc := xs1) Try.underlying39 ze3 sz3 rfl rfl by3 rfl rfl rfl hsl1 ([vi]) rfl (fun w1 hp => hp.sr1 0 rfl rfl (by decide)) (ints_one _) (by unfold maxLen; omega) (by omega) rfl (fun boq1 capq1 padq1 hsq1 => ?_)
      refine rl_val gw_none (ov_assign rfl) rfl ?_
      refine rl_nil ?_
      refine at_block ?_
      refine at_then ?_
      refine ct_reg ?_
      refine rl_val gw_none (ov_move rfl) rfl ?_
      refine rl_val gw_none (ov_sub rfl rfl (by omega)) rfl ?_
      refine rl_val gw_none (ov_assign rfl) rfl ?_
      refine rl_nil ?_
      exact at_backR (k1 - 1, (boq1, capq1, padq1, xs1 ++ [vi]), _, _) ⟨⟨hsq1, by simp; omega⟩, by dsimp only; omega, by dsimp only; omega, by simp; omega⟩ (by dsimp only; omega) (by (repeat' (first | exact Sub.nil | refine Sub.cons ?_ ?_)); all_goals (first | rfl | exact lkInt rfl (by dsimp only; omega))) (Sub.cons rfl (Sub.cons rfl (Sub.cons rfl (Sub.cons rfl (Sub.cons rfl (Sub.cons rfl Sub.nil)))))) (fun _ hp => (Hp.sub (Hp.pull (Hp.pull (Hp.pull (Hp.pull hp 4 rfl) 4 rfl) 4 rfl) 4 rfl) (List.sublist_append_left [_, _, _, _] _)))
    ·
      have g1' := g1
      try simp only [Bool.not_eq_true', Bool.not_eq_false', Bool.not_not, decide_eq_true_eq, decide_eq_false_iff_not, beq_iff_eq, beq_eq_false_iff_ne, bne_iff_ne, bne_eq_false_iff_eq, Bool.and_eq_true, Bool.or_eq_true, Bool.and_eq_false_iff, Bool.or_eq_false_iff, inB] at g1'
      refine rl_val (gw_some rfl rfl g1) (ov_move rfl) rfl ?_
      refine rl_calld (ι := (Bool) × Int × Int) (fun j => .bool j.1) [_] [_, _, _] (fun j => [(_, 83, [_, .int .i64 j.2.1, .int .u64 j.2.2])]) (fun j => True ∧ _ ≤ j.2.1 ∧ j.2.1 ≤ _ + 2) (gw_some rfl rfl g1) goes59 rfl (fun _ hq => (hq).pull 0 rfl) (fun w1 hp h0 => one_c _ _ _ _ _ _ _ _ _ h0 (hcd.call hp (by simp)) (by omega) (by omega)) rfl (fun jo hjo => ?_)
      obtain ⟨vo, to, so⟩ := jo
      dsimp only at hjo
      try dsimp only
      refine rl_val gw_none (ov_pick_f rfl g1 rfl) rfl ?_
      refine rl_nil ?_
      refine at_then ?_
      first | refine ct_dec rfl (fun h2 => ?_) (fun h2 => ?_) | refine ct_ndec rfl (fun h2 => ?_) (fun h2 => ?_) | refine ct_eq rfl (fun h2 => ?_) (fun h2 => ?_) | refine ct_ne rfl (fun h2 => ?_) (fun h2 => ?_) | refine ct_not rfl (fun h2 => ?_) (fun h2 => ?_) | refine ct_cond rfl (fun h2 => ?_) (fun h2 => ?_)
      ·
        refine ct_reg ?_
        refine rl_val gw_none (ov_move rfl) rfl ?_
        refine rl_val gw_none (ov_move rfl) rfl ?_
        refine rl_bslice Try.underlying39 ze3 sz3 rfl rfl rfl rfl rfl rfl (fun N4 => ?_)
        refine rl_appT (ints) (ints_append) [_, _] (acc := xs1) Try.underlying39 ze3 sz3 rfl rfl by3 rfl rfl rfl hsl1 ([vi]) rfl (fun w1 hp => hp.sr1 0 rfl rfl (by decide)) (ints_one _) (by unfold maxLen; omega) (by omega) rfl (fun boq2 capq2 padq2 hsq2 => ?_)
        refine rl_val gw_none (ov_assign rfl) rfl ?_
        refine rl_nil ?_
        refine at_block ?_
        refine at_then ?_
        refine ct_reg ?_
        refine rl_val gw_none (ov_move rfl) rfl ?_
        refine rl_val gw_none (ov_sub rfl rfl (by omega)) rfl ?_
        refine rl_val gw_none (ov_assign rfl) rfl ?_
        refine rl_nil ?_
        exact at_backR (k1 - 1, (boq2, capq2, padq2, xs1 ++ [vi]), _, _) ⟨⟨hsq2, by simp; omega⟩, by dsimp only; omega, by dsimp only; omega, by simp; omega⟩ (by dsimp only; omega) (by (repeat' (first | exact Sub.nil | refine Sub.cons ?_ ?_)); all_goals (first | rfl | exact lkInt rfl (by dsimp only; omega))) (Sub.cons rfl (Sub.cons rfl (Sub.cons rfl (Sub.cons rfl (Sub.cons rfl (Sub.cons rfl Sub.nil)))))) (fun _ hp => (Hp.sub (Hp.pull (Hp.pull (Hp.pull (Hp.pull hp 4 rfl) 4 rfl) 4 rfl) 4 rfl) (List.sublist_append_left [_, _, _, _] _)))
      ·
        refine ct_skip ?_
        refine at_block ?_
        refine at_then ?_
        refine ct_reg ?_
        refine rl_val gw_none (ov_move rfl) rfl ?_
        refine rl_val gw_none (ov_sub rfl rfl (by omega)) rfl ?_
        refine rl_val gw_none (ov_assign rfl) rfl ?_
        refine rl_nil ?_
        exact at_backR (k1 - 1, (bo1, cap1, pad1, xs1), _, _) ⟨⟨hsl1, by dsimp only; omega⟩, by dsimp only; omega, by dsimp only; omega, by dsimp only; omega⟩ (by dsimp only; omega) (by (repeat' (first | exact Sub.nil | refine Sub.cons ?_ ?_)); all_goals (first | rfl | exact lkInt rfl (by dsimp only; omega))) (Sub.cons rfl (Sub.cons rfl (Sub.cons rfl (Sub.cons rfl (Sub.cons rfl (Sub.cons rfl Sub.nil)))))) (fun _ hp => (Hp.sub (Hp.pull (Hp.pull (Hp.pull (Hp.pull hp 3 rfl) 3 rfl) 3 rfl) 3 rfl) (List.sublist_append_left [_, _, _, _] _)))
  ·
    refine ct_exit ?_
    refine at_then_exit ?_
    refine at_then_exit ?_
    refine at_block_hit ?_
    refine at_then ?_
    refine ct_seq ?_
    refine ct_seq ?_
    refine ct_reg ?_
    refine rl_val gw_none (ov_move rfl) rfl ?_
    refine rl_calld (ι := (Bool) × Int × Int) (fun j => .bool j.1) [_] [_, _, _] (fun j => [(_, 83, [_, .int .i64 j.2.1, .int .u64 j.2.2])]) (fun j => True ∧ _ ≤ j.2.1 ∧ j.2.1 ≤ _ + 2) gw_none goes59 rfl (fun _ hq => (hq).pull 0 rfl) (fun w1 hp h0 => one_c _ _ _ _ _ _ _ _ _ h0 (hcd.call hp (by simp)) (by omega) (by omega)) rfl (fun jw hjw => ?_)
    obtain ⟨vw, tw, sw⟩ := jw
    dsimp only at hjw
    try dsimp only
    refine rl_nil ?_
    refine at_then ?_
    first | refine ct_dec rfl (fun h3 => ?_) (fun h3 => ?_) | refine ct_ndec rfl (fun h3 => ?_) (fun h3 => ?_) | refine ct_eq rfl (fun h3 => ?_) (fun h3 => ?_) | refine ct_ne rfl (fun h3 => ?_) (fun h3 => ?_) | refine ct_not rfl (fun h3 => ?_) (fun h3 => ?_) | refine ct_cond rfl (fun h3 => ?_) (fun h3 => ?_)
    ·
      refine ct_reg ?_
      refine rl_val gw_none (ov_move rfl) rfl ?_
      refine rl_val gw_none (ov_move rfl) rfl ?_
      refine rl_val gw_none (ov_move rfl) rfl ?_
      refine rl_val gw_none (ov_len Try.underlying30 rfl) rfl ?_
      refine rl_bslice Try.underlying39 ze3 sz3 rfl rfl rfl rfl rfl rfl (fun N5 => ?_)
      refine rl_calld (ι := (Int) × Int × Int) (fun j => .int .i64 j.1) [_, _] [_, _, _] (fun j => [(_, 83, [_, .int .i64 j.2.1, .int .u64 j.2.2])]) (fun j => ((-1000000) ≤ j.1 ∧ j.1 ≤ 1000000) ∧ _ ≤ j.2.1 ∧ j.2.1 ≤ _ + 2) gw_none goes60 rfl (fun _ hq => ((hq).pull 0 rfl).pull 1 rfl) (fun w1 hp h0 => among_c (-1000000) 1000000 _ _ _ _ _ _ _ _ _ _ _ _ h0 (hcd.call hp (by simp)) (by omega) (by first | rfl | decide | (simp [okIntsR]; done) | (simp [okIntsR]; omega) | (simp [okIntsR, Value.cells]; omega)) (by first | decide | (simp; done) | (simp; omega) | omega | (simp [Value.cells]; done) | (simp [Value.cells]; omega))) rfl (fun ja hja => ?_)
      obtain ⟨va, ta, sa⟩ := ja
      dsimp only at hja
      try dsimp only
      refine rl_bslice Try.underlying39 ze3 sz3 rfl rfl rfl rfl rfl rfl (fun N6 => ?_)
      refine rl_appT (ints) (ints_append) [_, _] (acc := xs1) Try.underlying39 ze3 sz3 rfl rfl by3 rfl rfl rfl hsl1 ([va]) rfl (fun w1 hp => hp.sr1 0 rfl rfl (by decide)) (ints_one _) (by unfold maxLen; omega) (by omega) rfl (fun boq3 capq3 padq3 hsq3 => ?_)
      refine rl_val gw_none (ov_assign rfl) rfl ?_
      refine rl_nil ?_
      refine at_then ?_
      refine ct_seq ?_
      refine ct_reg ?_
      refine rl_val gw_none (ov_move rfl) rfl ?_
      refine rl_val gw_none (ov_move rfl) rfl ?_
      refine rl_val gw_none (ov_move rfl) rfl ?_
      refine rl_val gw_none (ov_assign rfl) rfl ?_
      refine rl_val gw_none (ov_assign rfl) rfl ?_
      refine rl_val gw_none (ov_assign rfl) rfl ?_
      refine rl_nil ?_
      refine at_then ?_
      refine ct_ret ?_
      refine at_ret3 Try.results18 (ro_tmp rfl) (ro_tmp rfl) (ro_tmp rfl) (fun w1 hp => ?_)
      exact ⟨((br, cr, pr, xs), (bst, cst, pst, st), (boq3, capq3, padq3, xs1 ++ [va])), ⟨⟨hslr, hr, hGr⟩, ⟨hsly, hy, hGy⟩, ⟨hsq3, by simp; omega⟩⟩, rfl, (Hp.sub (Hp.pull (Hp.pull (Hp.pull hp 2 rfl) 3 rfl) 4 rfl) (List.sublist_append_left [_, _, _] _))⟩
    ·
      refine ct_skip ?_
      refine at_then ?_
      refine ct_seq ?_
      refine ct_reg ?_
      refine rl_val gw_none (ov_move rfl) rfl ?_
      refine rl_val gw_none (ov_move rfl) rfl ?_
      refine rl_val gw_none (ov_move rfl) rfl ?_
      refine rl_val gw_none (ov_assign rfl) rfl ?_
      refine rl_val gw_none (ov_assign rfl) rfl ?_
      refine rl_val gw_none (ov_assign rfl) rfl ?_
      refine rl_nil ?_
      refine at_then ?_
      refine ct_ret ?_
      refine at_ret3 Try.results18 (ro_tmp rfl) (ro_tmp rfl) (ro_tmp rfl) (fun w1 hp => ?_)
      exact ⟨((br, cr, pr, xs), (bst, cst, pst, st), (bo1, cap1, pad1, xs1)), ⟨⟨hslr, hr, hGr⟩, ⟨hsly, hy, hGy⟩, ⟨hsl1, by dsimp only; omega⟩⟩, rfl, (Hp.sub (Hp.pull (Hp.pull (Hp.pull hp 1 rfl) 2 rfl) 3 rfl) (List.sublist_append_left [_, _, _] _))⟩

theorem DrawBestTour_c (a : Option Addr) (lc capc : Nat) (w : World) (hcd : CodeOk w [] a lc) : Calls Try.prog 24 ([.slice a lc capc]).toArray w (fun e w' => ∃ q : (Option Nat × Nat × List Value × List Road) × (Option Nat × Nat × List Value × List Stay) × Int, ((Sl 3 q.1.1 q.1.2.2.2.length q.1.2.1 (flat encRoad q.1.2.2.2) q.1.2.2.1 ∧ q.1.2.2.2.length ≤ 70 ∧ (∀ y ∈ q.1.2.2.2, GRoad y)) ∧ (Sl 3 q.2.1.1 q.2.1.2.2.2.length q.2.1.2.1 (flat encStay q.2.1.2.2.2) q.2.1.2.2.1 ∧ q.2.1.2.2.2.length ≤ 10 ∧ (∀ y ∈ q.2.1.2.2.2, GStay y)) ∧ In64 q.2.2) ∧ e = .returned (.tuple #[sv q.1.1 q.1.2.2.2.length q.1.2.1, sv q.2.1.1 q.2.1.2.2.2.length q.2.1.2.1, .int .i64 q.2.2]) ∧ Hp ⟨w, []⟩ [(q.1.1, 65, flat encRoad q.1.2.2.2 ++ q.1.2.2.1), (q.2.1.1, 44, flat encStay q.2.1.2.2.2 ++ q.2.1.2.2.1)] w') := by
  refine calls_ct Try.func24 Try.ntmps24 rfl rfl ?_
  refine ct_seq ?_
  refine ct_reg ?_
  refine rl_val gw_none (ov_assign rfl) rfl ?_
  refine rl_val gw_none (ov_assign rfl) rfl ?_
  refine rl_val gw_none (ov_assign rfl) rfl ?_
  refine rl_nil ?_
  refine at_then ?_
  refine ct_seq ?_
  refine ct_reg ?_
  refine rl_val gw_none (ov_move rfl) rfl ?_
  refine rl_val gw_none (ov_build rfl (bu83_0 _ _ _)) rfl ?_
  refine rl_box rfl rfl (fun N1 => ?_)
  refine rl_val gw_none (ov_assign rfl) rfl ?_
  refine rl_nil ?_
  refine at_then ?_
  refine ct_seq ?_
  refine ct_reg ?_
  refine rl_val gw_none (ov_move rfl) rfl ?_
  refine rl_calld (ι := (Option Nat × Nat × List Value × List Road) × Int × Int) (fun j => sv j.1.1 j.1.2.2.2.length j.1.2.1) [_] [] (fun j => [(_, 83, [_, .int .i64 j.2.1, .int .u64 j.2.2]), (j.1.1, 65, flat encRoad j.1.2.2.2 ++ j.1.2.2.1)]) (fun j => (Sl 3 j.1.1 j.1.2.2.2.length j.1.2.1 (flat encRoad j.1.2.2.2) j.1.2.2.1 ∧ j.1.2.2.2.length ≤ 70 ∧ (∀ y ∈ j.1.2.2.2, GRoad y)) ∧ _ ≤ j.2.1 ∧ j.2.1 ≤ _ + 700) gw_none goes55 rfl (fun _ hq => (hq).pull 0 rfl) (fun w1 hp h0 => roads24_c _ _ _ _ _ _ _ _ h0 (hcd.call hp (by simp)) (by omega)) rfl (fun jr hjr => ?_)
  obtain ⟨⟨br, cr, pr, xs⟩, tr, sr⟩ := jr
  obtain ⟨⟨hslr, hr, hGr⟩, htr⟩ := hjr
  dsimp only at hslr hr hGr htr
  try dsimp only
  refine rl_val gw_none (ov_assign rfl) rfl ?_
  refine rl_nil ?_
  refine at_then ?_
  refine ct_seq ?_
  refine ct_reg ?_
  refine rl_val gw_none (ov_move rfl) rfl ?_
  refine rl_calld (ι := (Option Nat × Nat × List Value × List Stay) × Int × Int) (fun j => sv j.1.1 j.1.2.2.2.length j.1.2.1) [_] [_] (fun j => [(_, 83, [_, .int .i64 j.2.1, .int .u64 j.2.2]), (j.1.1, 44, flat encStay j.1.2.2.2 ++ j.1.2.2.1)]) (fun j => (Sl 3 j.1.1 j.1.2.2.2.length j.1.2.1 (flat encStay j.1.2.2.2) j.1.2.2.1 ∧ j.1.2.2.2.length ≤ 10 ∧ (∀ y ∈ j.1.2.2.2, GStay y)) ∧ _ ≤ j.2.1 ∧ j.2.1 ≤ _ + 700) gw_none goes56 rfl (fun _ hq => (hq).pull 0 rfl) (fun w1 hp h0 => stays24_c _ _ _ _ _ _ _ _ h0 (hcd.call hp (by simp)) (by omega)) rfl (fun jy hjy => ?_)
  obtain ⟨⟨bst, cst, pst, st⟩, tst, sst⟩ := jy
  obtain ⟨⟨hsly, hy, hGy⟩, hty⟩ := hjy
  dsimp only at hsly hy hGy hty
  try dsimp only
  refine rl_val gw_none (ov_assign rfl) rfl ?_
  refine rl_nil ?_
  refine at_then ?_
  refine ct_seq ?_
  refine ct_reg ?_
  refine rl_val gw_none (ov_move rfl) rfl ?_
  refine rl_val gw_none (ov_move rfl) rfl ?_
  refine rl_val gw_none (ov_move rfl) rfl ?_
  refine rl_bslice Try.underlying39 ze3 sz3 rfl rfl rfl rfl rfl rfl (fun N2 => ?_)
  refine rl_val gw_none (ov_move rfl) rfl ?_
  refine rl_calld (ι := (Int) × Int × Int) (fun j => .int .i64 j.1) [_] [_, _, _] (fun j => [(_, 83, [_, .int .i64 j.2.1, .int .u64 j.2.2])]) (fun j => (0 ≤ j.1 ∧ (j.1 < _ ∨ j.1 = 0)) ∧ _ ≤ j.2.1 ∧ j.2.1 ≤ _ + 2) gw_none goes57 rfl (fun _ hq => (hq).pull 1 rfl) (fun w1 hp h0 => pick_c _ _ _ _ _ _ _ _ _ h0 (hcd.call hp (by simp)) (by omega) (by omega)) rfl (fun jp hjp => ?_)
  obtain ⟨vp, tp, sp⟩ := jp
  dsimp only at hjp
  try dsimp only
  refine rl_val gw_none (ov_quo rfl rfl (by omega) (by omega) (by omega)) rfl ?_
  refine rl_val gw_none (ov_add rfl rfl (by omega)) rfl ?_
  refine rl_val gw_none (ov_subh Try.underlying39 sz3 rfl rfl ((6 + vp / 11).toNat) (by omega) (by show _ ≤ 8; omega)) rfl ?_
  refine rl_calld (ι := (Int) × Int × Int) (fun j => .int .i64 j.1) [_, _] [_, _] (fun j => [(_, 83, [_, .int .i64 j.2.1, .int .u64 j.2.2])]) (fun j => ((-1000000) ≤ j.1 ∧ j.1 ≤ 1000000) ∧ _ ≤ j.2.1 ∧ j.2.1 ≤ _ + 2) gw_none goes60 rfl (fun _ hq => ((hq).pull 1 rfl).pull 1 rfl) (fun w1 hp h0 => among_c (-1000000) 1000000 _ _ _ _ _ _ _ _ _ _ _ _ h0 (hcd.call hp (by simp)) (by omega) (by first | rfl | decide | (simp [okIntsR]; done) | (simp [okIntsR]; omega) | (simp [okIntsR, Value.cells]; omega)) (by first | decide | (simp; done) | (simp; omega) | omega | (simp [Value.cells]; done) | (simp [Value.cells]; omega))) rfl (fun ja hja => ?_)
  obtain ⟨va, ta, sa⟩ := ja
  dsimp only at hja
  try dsimp only
  refine rl_val gw_none (ov_assign rfl) rfl ?_
  refine rl_val gw_none (ov_assign rfl) rfl ?_
  refine rl_val gw_none (ov_assign rfl) rfl ?_
  refine rl_nil ?_
  refine at_then ?_
  refine ct_ret ?_
  refine at_ret3 Try.results24 (ro_tmp rfl) (ro_tmp rfl) (ro_tmp rfl) (fun w1 hp => ?_)
  exact ⟨((br, cr, pr, xs), (bst, cst, pst, st), va), ⟨⟨hslr, hr, hGr⟩, ⟨hsly, hy, hGy⟩, by unfold In64; dsimp only; omega⟩, rfl, (Hp.sub (Hp.pull (Hp.pull hp 1 rfl) 2 rfl) (List.sublist_append_left [_, _] _))⟩
end Go.Proofs.Ytgnnlgmeagipjaa
