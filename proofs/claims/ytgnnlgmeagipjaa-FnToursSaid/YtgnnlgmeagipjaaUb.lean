import Derived.Test.YtgnnlgmeagipjaaUa
import Derived.Test.YtgnnlgmeagipjaaTa
import Derived.KernelRfl
set_option linter.unusedVariables false
set_option linter.unusedSimpArgs false
namespace Go.Proofs.Ytgnnlgmeagipjaa
open Go Go.RowKit K
theorem encRoad_one (x : Road) : ∀ u ∈ encRoad x, u.oneCell' = true := list_one rfl
theorem gRoad_snoc {xs : List Road} {z : Road} (h : ∀ y ∈ xs, GRoad y) (hz : GRoad z) : ∀ y ∈ xs ++ [z], GRoad y := fun y hy => by
  rcases List.mem_append.1 hy with hy | hy
  · exact h y hy
  · obtain rfl := List.mem_singleton.1 hy; exact hz
theorem gRoad_of {a b c : Int} (ha : -1000000 ≤ a ∧ a ≤ 1000000) (hb : -1000000 ≤ b ∧ b ≤ 1000000) (hc : -1000000 ≤ c ∧ c ≤ 1000000) : GRoad ⟨a, b, c⟩ := by unfold GRoad In64; dsimp only; omega

theorem encStay_one (x : Stay) : ∀ u ∈ encStay x, u.oneCell' = true := list_one rfl
theorem gStay_snoc {xs : List Stay} {z : Stay} (h : ∀ y ∈ xs, GStay y) (hz : GStay z) : ∀ y ∈ xs ++ [z], GStay y := fun y hy => by
  rcases List.mem_append.1 hy with hy | hy
  · exact h y hy
  · obtain rfl := List.mem_singleton.1 hy; exact hz
theorem gStay_of {a b c : Int} (ha : -1000000 ≤ a ∧ a ≤ 1000000) (hb : -1000000 ≤ b ∧ b ≤ 1000000) (hc : -1000000 ≤ c ∧ c ≤ 1000000) : GStay ⟨a, b, c⟩ := by unfold GStay In64; dsimp only; omega

theorem roads24_c (bc : Nat) (a : Option Addr) (lc capc : Nat) (at_ s : Int) (D : List Nat) (w : World) (h0 : Hp ⟨w, D⟩ [(some bc, 83, [.slice a lc capc, .int .i64 at_, .int .u64 s])] w) (hcd : CodeOk w D a lc) (hat : 0 ≤ at_ ∧ at_ ≤ 1000000000) : Calls Try.prog 55 ([.pointer (some ⟨bc, 0, none⟩)]).toArray w (fun e w' => ∃ j : (Option Nat × Nat × List Value × List Road) × Int × Int, ((Sl 3 j.1.1 j.1.2.2.2.length j.1.2.1 (flat encRoad j.1.2.2.2) j.1.2.2.1 ∧ j.1.2.2.2.length ≤ 70 ∧ (∀ y ∈ j.1.2.2.2, GRoad y)) ∧ at_ ≤ j.2.1 ∧ j.2.1 ≤ at_ + 700) ∧ e = .returned (sv j.1.1 j.1.2.2.2.length j.1.2.1) ∧ Hp ⟨w, D⟩ [(some bc, 83, [.slice a lc capc, .int .i64 j.2.1, .int .u64 j.2.2]), (j.1.1, 65, flat encRoad j.1.2.2.2 ++ j.1.2.2.1)] w') := by
  refine calls_ctds h0 Try.func55 Try.ntmps55 rfl rfl ?_
  refine ct_seq ?_
  refine ct_reg ?_
  refine rl_val gw_none (ov_assign rfl) rfl ?_
  refine rl_nil ?_
  refine at_then ?_
  refine ct_seq ?_
  refine ct_reg ?_
  refine rl_bslice Try.underlying28 ze65 sz65 rfl rfl rfl rfl rfl rfl (fun N1 => ?_)
  refine rl_val gw_none (ov_assign rfl) rfl ?_
  refine rl_nil ?_
  refine at_then ?_
  refine ct_seq ?_
  refine ct_reg ?_
  refine rl_val gw_none (ov_move rfl) rfl ?_
  refine rl_calld (ι := (Int) × Int × Int) (fun j => .int .i64 j.1) [_] [_] (fun j => [(_, 83, [_, .int .i64 j.2.1, .int .u64 j.2.2])]) (fun j => (0 ≤ j.1 ∧ (j.1 < _ ∨ j.1 = 0)) ∧ _ ≤ j.2.1 ∧ j.2.1 ≤ _ + 2) gw_none goes57 rfl (fun _ hq => (hq).pull 1 rfl) (fun w1 hp h0 => pick_c _ _ _ _ _ _ _ _ _ h0 (hcd.call hp (by simp)) (by omega) (by omega)) rfl (fun jm hjm => ?_)
  obtain ⟨vm, tm, sm⟩ := jm
  dsimp only at hjm
  try dsimp only
  refine rl_val gw_none (ov_add rfl rfl (by omega)) rfl ?_
  refine rl_val gw_none (ov_assign rfl) rfl ?_
  refine rl_nil ?_
  refine at_then ?_
  refine ct_seq ?_
  refine ct_seq ?_
  refine ct_reg ?_
  refine rl_val gw_none (ov_assign rfl) rfl ?_
  refine rl_nil ?_
  refine at_then ?_
  refine ct_block ?_
  refine ct_loopR (ι := Nat × (Option Nat × Nat × List Value × List Road) × Int × Int) (fun p1 => [(3, sv p1.2.1.1 p1.2.1.2.2.2.length p1.2.1.2.1), (5, .int .i64 (p1.1 : Int))]) [(0, _), (2, _), (4, _)] (fun p1 => [(some bc, 83, [.slice a lc capc, .int .i64 p1.2.2.1, .int .u64 p1.2.2.2]), (p1.2.1.1, 65, flat encRoad p1.2.1.2.2.2 ++ p1.2.1.2.2.1)]) (fun p1 => (p1.1 : Int) ≤ 2 + vm ∧ (Sl 3 p1.2.1.1 p1.2.1.2.2.2.length p1.2.1.2.1 (flat encRoad p1.2.1.2.2.2) p1.2.1.2.2.1 ∧ p1.2.1.2.2.2.length ≤ 8 * p1.1 ∧ (∀ y ∈ p1.2.1.2.2.2, GRoad y)) ∧ at_ ≤ p1.2.2.1 ∧ p1.2.2.1 ≤ at_ + 10 + 40 * p1.1) (fun p1 => (2 + vm).toNat - p1.1) ((0, (some N1, 0, [], []), _, _)) (Sub.cons rfl (Sub.cons rfl (Sub.cons rfl Sub.nil))) (fun _ hp => (Hp.sub (Hp.pull (Hp.pull hp 1 rfl) 1 rfl) (List.sublist_append_left [_, _] _))) (by (repeat' (first | exact Sub.nil | refine Sub.cons ?_ ?_)); all_goals (first | rfl | exact lkInt rfl (by dsimp only; omega))) ⟨by dsimp only; omega, ⟨Sl.lit rfl (Nat.zero_le _), by simp, fun y hy => by cases hy⟩, by dsimp only; omega, by dsimp only; omega⟩ (fun p1 hp1 => ?_)
  obtain ⟨k1, ⟨bo1, cap1, pad1, xs1⟩, at1, s1⟩ := p1
  obtain ⟨hk1, ⟨hsl1, hx1, hG1⟩, hat1, hau1⟩ := hp1
  dsimp only at hk1 hsl1 hx1 hG1 hat1 hau1 ⊢
  refine ct_seq ?_
  refine ct_seq ?_
  refine ct_reg ?_
  refine rl_val gw_none (ov_move rfl) rfl ?_
  refine rl_val gw_none (ov_move rfl) rfl ?_
  refine rl_val gw_none (ov_lss rfl rfl) rfl ?_
  refine rl_nil ?_
  refine at_then ?_
  first | refine ct_dec rfl (fun h1 => ?_) (fun h1 => ?_) | refine ct_ndec rfl (fun h1 => ?_) (fun h1 => ?_) | refine ct_eq rfl (fun h1 => ?_) (fun h1 => ?_) | refine ct_ne rfl (fun h1 => ?_) (fun h1 => ?_) | refine ct_not rfl (fun h1 => ?_) (fun h1 => ?_) | refine ct_cond rfl (fun h1 => ?_) (fun h1 => ?_)
  ·
    refine ct_skip ?_
    refine at_then ?_
    refine ct_seq ?_
    refine ct_block ?_
    refine ct_seq ?_
    refine ct_reg ?_
    refine rl_val gw_none (ov_move rfl) rfl ?_
    refine rl_val gw_none (ov_add rfl rfl (by omega)) rfl ?_
    refine rl_val gw_none (ov_assign rfl) rfl ?_
    refine rl_nil ?_
    refine at_then ?_
    refine ct_block ?_
    refine ct_loopR (ι := Nat × (Option Nat × Nat × List Value × List Road) × Int × Int) (fun p2 => [(3, sv p2.2.1.1 p2.2.1.2.2.2.length p2.2.1.2.1), (6, .int .i64 (p2.1 : Int))]) [(0, _), (2, _), (4, _), (5, _)] (fun p2 => [(some bc, 83, [.slice a lc capc, .int .i64 p2.2.2.1, .int .u64 p2.2.2.2]), (p2.2.1.1, 65, flat encRoad p2.2.1.2.2.2 ++ p2.2.1.2.2.1)]) (fun p2 => ((k1 : Int) + 1 ≤ p2.1 ∧ (p2.1 : Int) ≤ 2 + vm) ∧ (Sl 3 p2.2.1.1 p2.2.1.2.2.2.length p2.2.1.2.1 (flat encRoad p2.2.1.2.2.2) p2.2.1.2.2.1 ∧ p2.2.1.2.2.2.length ≤ 8 * k1 + (p2.1 - (k1 + 1)) ∧ (∀ y ∈ p2.2.1.2.2.2, GRoad y)) ∧ at_ ≤ p2.2.2.1 ∧ p2.2.2.1 ≤ at_ + 10 + 40 * k1 + 5 * (p2.1 - (k1 + 1))) (fun p2 => (2 + vm).toNat - p2.1) (((k1 + 1), (bo1, cap1, pad1, xs1), _, _)) (Sub.cons rfl (Sub.cons rfl (Sub.cons rfl (Sub.cons rfl Sub.nil)))) (fun _ hp => (Hp.sub (Hp.pull (Hp.pull hp 1 rfl) 1 rfl) (List.sublist_append_left [_, _] _))) (by (repeat' (first | exact Sub.nil | refine Sub.cons ?_ ?_)); all_goals (first | rfl | exact lkInt rfl (by dsimp only; omega))) ⟨by dsimp only; omega, ⟨hsl1, by dsimp only; omega, hG1⟩, by dsimp only; omega, by dsimp only; omega⟩ (fun p2 hp2 => ?_)
    obtain ⟨k2, ⟨bo2, cap2, pad2, xs2⟩, at2, s2⟩ := p2
    obtain ⟨hk2, ⟨hsl2, hx2, hG2⟩, hat2, hau2⟩ := hp2
    dsimp only at hk2 hsl2 hx2 hG2 hat2 hau2 ⊢
    refine ct_seq ?_
    refine ct_seq ?_
    refine ct_reg ?_
    refine rl_val gw_none (ov_move rfl) rfl ?_
    refine rl_val gw_none (ov_move rfl) rfl ?_
    refine rl_val gw_none (ov_lss rfl rfl) rfl ?_
    refine rl_nil ?_
    refine at_then ?_
    first | refine ct_dec rfl (fun h2 => ?_) (fun h2 => ?_) | refine ct_ndec rfl (fun h2 => ?_) (fun h2 => ?_) | refine ct_eq rfl (fun h2 => ?_) (fun h2 => ?_) | refine ct_ne rfl (fun h2 => ?_) (fun h2 => ?_) | refine ct_not rfl (fun h2 => ?_) (fun h2 => ?_) | refine ct_cond rfl (fun h2 => ?_) (fun h2 => ?_)
    ·
      refine ct_skip ?_
      refine at_then ?_
      refine ct_seq ?_
      refine ct_block ?_
      refine ct_seq ?_
      refine ct_reg ?_
      refine rl_val gw_none (ov_move rfl) rfl ?_
      refine rl_calld (ι := (Bool) × Int × Int) (fun j => .bool j.1) [_] [_] (fun j => [(_, 83, [_, .int .i64 j.2.1, .int .u64 j.2.2])]) (fun j => True ∧ _ ≤ j.2.1 ∧ j.2.1 ≤ _ + 2) gw_none goes59 rfl (fun _ hq => (hq).pull 0 rfl) (fun w1 hp h0 => one_c _ _ _ _ _ _ _ _ _ h0 (hcd.call hp (by simp)) (by omega) (by omega)) rfl (fun jo hjo => ?_)
      obtain ⟨vo, to, so⟩ := jo
      dsimp only at hjo
      try dsimp only
      refine rl_nil ?_
      refine at_then ?_
      first | refine ct_dec rfl (fun h3 => ?_) (fun h3 => ?_) | refine ct_ndec rfl (fun h3 => ?_) (fun h3 => ?_) | refine ct_eq rfl (fun h3 => ?_) (fun h3 => ?_) | refine ct_ne rfl (fun h3 => ?_) (fun h3 => ?_) | refine ct_not rfl (fun h3 => ?_) (fun h3 => ?_) | refine ct_cond rfl (fun h3 => ?_) (fun h3 => ?_)
      ·
        refine ct_reg ?_
        refine rl_val gw_none (ov_move rfl) rfl ?_
        refine rl_val gw_none (ov_move rfl) rfl ?_
        refine rl_val gw_none (ov_move rfl) rfl ?_
        refine rl_val gw_none (ov_move rfl) rfl ?_
        refine rl_bslice Try.underlying39 ze3 sz3 rfl rfl rfl rfl rfl rfl (fun N2 => ?_)
        refine rl_calld (ι := (Int) × Int × Int) (fun j => .int .i64 j.1) [_, _] [_] (fun j => [(_, 83, [_, .int .i64 j.2.1, .int .u64 j.2.2])]) (fun j => ((-1000000) ≤ j.1 ∧ j.1 ≤ 1000000) ∧ _ ≤ j.2.1 ∧ j.2.1 ≤ _ + 2) gw_none goes60 rfl (fun _ hq => ((hq).pull 0 rfl).pull 1 rfl) (fun w1 hp h0 => among_c (-1000000) 1000000 _ _ _ _ _ _ _ _ _ _ _ _ h0 (hcd.call hp (by simp)) (by omega) (by first | rfl | decide | (simp [okIntsR]; done) | (simp [okIntsR]; omega) | (simp [okIntsR, Value.cells]; omega)) (by first | decide | (simp; done) | (simp; omega) | omega | (simp [Value.cells]; done) | (simp [Value.cells]; omega))) rfl (fun jd hjd => ?_)
        obtain ⟨vd, td, sd⟩ := jd
        dsimp only at hjd
        try dsimp only
        refine rl_val gw_none (ov_build rfl (bu65_0_1_2 _ _ _)) rfl ?_
        refine rl_bslice Try.underlying28 ze65 sz65 rfl rfl rfl rfl rfl rfl (fun N3 => ?_)
        refine rl_appT (flat encRoad) ((flat_append _)) [_, _] (acc := xs2) Try.underlying28 ze65 sz65 rfl rfl by65 rfl rfl rfl hsl2 ([(⟨(k1 : Int), (k2 : Int), vd⟩ : Road)]) rfl (fun w1 hp => hp.sr1 0 rfl rfl (by decide)) (flat_one encRoad_one _) (by unfold maxLen; omega) (by omega) rfl (fun boq1 capq1 padq1 hsq1 => ?_)
        refine rl_val gw_none (ov_assign rfl) rfl ?_
        refine rl_nil ?_
        refine at_block ?_
        refine at_then ?_
        refine ct_reg ?_
        refine rl_val gw_none (ov_move rfl) rfl ?_
        refine rl_val gw_none (ov_add rfl rfl (by omega)) rfl ?_
        refine rl_val gw_none (ov_assign rfl) rfl ?_
        refine rl_nil ?_
        exact at_backR (k2 + 1, (boq1, capq1, padq1, xs2 ++ [⟨(k1 : Int), (k2 : Int), vd⟩]), _, _) ⟨by dsimp only; omega, ⟨hsq1, by simp; omega, gRoad_snoc hG2 (gRoad_of (by first | omega | (dsimp only; omega)) (by first | omega | (dsimp only; omega)) (by first | omega | (dsimp only; omega)))⟩, by dsimp only; omega, by dsimp only; omega⟩ (by dsimp only; omega) (by (repeat' (first | exact Sub.nil | refine Sub.cons ?_ ?_)); all_goals (first | rfl | exact lkInt rfl (by dsimp only; omega))) (Sub.cons rfl (Sub.cons rfl (Sub.cons rfl (Sub.cons rfl Sub.nil)))) (fun _ hp => (Hp.sub (Hp.pull (Hp.pull hp 2 rfl) 2 rfl) (List.sublist_append_left [_, _] _)))
      ·
        refine ct_skip ?_
        refine at_block ?_
        refine at_then ?_
        refine ct_reg ?_
        refine rl_val gw_none (ov_move rfl) rfl ?_
        refine rl_val gw_none (ov_add rfl rfl (by omega)) rfl ?_
        refine rl_val gw_none (ov_assign rfl) rfl ?_
        refine rl_nil ?_
        exact at_backR (k2 + 1, (bo2, cap2, pad2, xs2), _, _) ⟨by dsimp only; omega, ⟨hsl2, by simp; omega, hG2⟩, by dsimp only; omega, by dsimp only; omega⟩ (by dsimp only; omega) (by (repeat' (first | exact Sub.nil | refine Sub.cons ?_ ?_)); all_goals (first | rfl | exact lkInt rfl (by dsimp only; omega))) (Sub.cons rfl (Sub.cons rfl (Sub.cons rfl (Sub.cons rfl Sub.nil)))) (fun _ hp => (Hp.sub (Hp.pull (Hp.pull hp 1 rfl) 1 rfl) (List.sublist_append_left [_, _] _)))
    ·
      refine ct_exit ?_
      refine at_then_exit ?_
      refine at_then_exit ?_
      refine at_block_hit ?_
      refine at_block ?_
      refine at_then ?_
      refine ct_reg ?_
      refine rl_val gw_none (ov_move rfl) rfl ?_
      refine rl_val gw_none (ov_add rfl rfl (by omega)) rfl ?_
      refine rl_val gw_none (ov_assign rfl) rfl ?_
      refine rl_nil ?_
      exact at_backR (k1 + 1, (bo2, cap2, pad2, xs2), _, _) ⟨by dsimp only; omega, ⟨hsl2, by dsimp only; omega, hG2⟩, by dsimp only; omega, by dsimp only; omega⟩ (by dsimp only; omega) (by (repeat' (first | exact Sub.nil | refine Sub.cons ?_ ?_)); all_goals (first | rfl | exact lkInt rfl (by dsimp only; omega))) (Sub.cons rfl (Sub.cons rfl (Sub.cons rfl Sub.nil))) (fun _ hp => (Hp.sub (Hp.pull (Hp.pull hp 1 rfl) 1 rfl) (List.sublist_append_left [_, _] _)))
  ·
    refine ct_exit ?_
    refine at_then_exit ?_
    refine at_then_exit ?_
    refine at_block_hit ?_
    refine at_then ?_
    refine ct_seq ?_
    refine ct_seq ?_
    refine ct_reg ?_
    refine rl_val gw_none (ov_move rfl) rfl ?_
    refine rl_calld (ι := (Int) × Int × Int) (fun j => .int .i64 j.1) [_] [_] (fun j => [(_, 83, [_, .int .i64 j.2.1, .int .u64 j.2.2])]) (fun j => (0 ≤ j.1 ∧ (j.1 < _ ∨ j.1 = 0)) ∧ _ ≤ j.2.1 ∧ j.2.1 ≤ _ + 2) gw_none goes57 rfl (fun _ hq => (hq).pull 0 rfl) (fun w1 hp h0 => pick_c _ _ _ _ _ _ _ _ _ h0 (hcd.call hp (by simp)) (by omega) (by omega)) rfl (fun jsw hjsw => ?_)
    obtain ⟨vsw, tsw, ssw⟩ := jsw
    dsimp only at hjsw
    try dsimp only
    refine rl_nil ?_
    refine at_then ?_
    refine ct_block ?_
    refine ct_seq ?_
    refine ct_reg ?_
    refine rl_val gw_none (ov_eql rfl rfl) rfl ?_
    refine rl_val gw_none (ov_assign rfl) rfl ?_
    refine rl_nil ?_
    refine at_then ?_
    first | refine ct_dec rfl (fun h4 => ?_) (fun h4 => ?_) | refine ct_ndec rfl (fun h4 => ?_) (fun h4 => ?_) | refine ct_eq rfl (fun h4 => ?_) (fun h4 => ?_) | refine ct_ne rfl (fun h4 => ?_) (fun h4 => ?_) | refine ct_not rfl (fun h4 => ?_) (fun h4 => ?_) | refine ct_cond rfl (fun h4 => ?_) (fun h4 => ?_)
    ·
      refine ct_reg ?_
      refine rl_val gw_none (ov_move rfl) rfl ?_
      refine rl_val gw_none (ov_move rfl) rfl ?_
      refine rl_bslice Try.underlying39 ze3 sz3 rfl rfl rfl rfl rfl rfl (fun N4 => ?_)
      refine rl_calld (ι := (Int) × Int × Int) (fun j => .int .i64 j.1) [_, _] [_] (fun j => [(_, 83, [_, .int .i64 j.2.1, .int .u64 j.2.2])]) (fun j => ((-1000000) ≤ j.1 ∧ j.1 ≤ 1000000) ∧ _ ≤ j.2.1 ∧ j.2.1 ≤ _ + 2) gw_none goes60 rfl (fun _ hq => ((hq).pull 0 rfl).pull 1 rfl) (fun w1 hp h0 => among_c (-1000000) 1000000 _ _ _ _ _ _ _ _ _ _ _ _ h0 (hcd.call hp (by simp)) (by omega) (by first | rfl | decide | (simp [okIntsR]; done) | (simp [okIntsR]; omega) | (simp [okIntsR, Value.cells]; omega)) (by first | decide | (simp; done) | (simp; omega) | omega | (simp [Value.cells]; done) | (simp [Value.cells]; omega))) rfl (fun jx hjx => ?_)
      obtain ⟨vx, tx, sx⟩ := jx
      dsimp only at hjx
      try dsimp only
      refine rl_val gw_none (ov_move rfl) rfl ?_
      refine rl_bslice Try.underlying39 ze3 sz3 rfl rfl rfl rfl rfl rfl (fun N5 => ?_)
      refine rl_calld (ι := (Int) × Int × Int) (fun j => .int .i64 j.1) [_, _] [_] (fun j => [(_, 83, [_, .int .i64 j.2.1, .int .u64 j.2.2])]) (fun j => ((-1000000) ≤ j.1 ∧ j.1 ≤ 1000000) ∧ _ ≤ j.2.1 ∧ j.2.1 ≤ _ + 2) gw_none goes60 rfl (fun _ hq => ((hq).pull 0 rfl).pull 1 rfl) (fun w1 hp h0 => among_c (-1000000) 1000000 _ _ _ _ _ _ _ _ _ _ _ _ h0 (hcd.call hp (by simp)) (by omega) (by first | rfl | decide | (simp [okIntsR]; done) | (simp [okIntsR]; omega) | (simp [okIntsR, Value.cells]; omega)) (by first | decide | (simp; done) | (simp; omega) | omega | (simp [Value.cells]; done) | (simp [Value.cells]; omega))) rfl (fun jy hjy => ?_)
      obtain ⟨vy, ty, sy⟩ := jy
      dsimp only at hjy
      try dsimp only
      refine rl_val gw_none (ov_move rfl) rfl ?_
      refine rl_bslice Try.underlying39 ze3 sz3 rfl rfl rfl rfl rfl rfl (fun N6 => ?_)
      refine rl_calld (ι := (Int) × Int × Int) (fun j => .int .i64 j.1) [_, _] [_] (fun j => [(_, 83, [_, .int .i64 j.2.1, .int .u64 j.2.2])]) (fun j => ((-1000000) ≤ j.1 ∧ j.1 ≤ 1000000) ∧ _ ≤ j.2.1 ∧ j.2.1 ≤ _ + 2) gw_none goes60 rfl (fun _ hq => ((hq).pull 0 rfl).pull 1 rfl) (fun w1 hp h0 => among_c (-1000000) 1000000 _ _ _ _ _ _ _ _ _ _ _ _ h0 (hcd.call hp (by simp)) (by omega) (by first | rfl | decide | (simp [okIntsR]; done) | (simp [okIntsR]; omega) | (simp [okIntsR, Value.cells]; omega)) (by first | decide | (simp; done) | (simp; omega) | omega | (simp [Value.cells]; done) | (simp [Value.cells]; omega))) rfl (fun jz hjz => ?_)
      obtain ⟨vz, tz, sz⟩ := jz
      dsimp only at hjz
      try dsimp only
      refine rl_val gw_none (ov_build rfl (bu65_0_1_2 _ _ _)) rfl ?_
      refine rl_bslice Try.underlying28 ze65 sz65 rfl rfl rfl rfl rfl rfl (fun N7 => ?_)
      refine rl_appT (flat encRoad) ((flat_append _)) [_, _] (acc := xs1) Try.underlying28 ze65 sz65 rfl rfl by65 rfl rfl rfl hsl1 ([(⟨vx, vy, vz⟩ : Road)]) rfl (fun w1 hp => hp.sr1 0 rfl rfl (by decide)) (flat_one encRoad_one _) (by unfold maxLen; omega) (by omega) rfl (fun boq2 capq2 padq2 hsq2 => ?_)
      refine rl_val gw_none (ov_assign rfl) rfl ?_
      refine rl_nil ?_
      refine at_block ?_
      refine at_then ?_
      refine ct_seq ?_
      refine ct_reg ?_
      refine rl_val gw_none (ov_move rfl) rfl ?_
      refine rl_val gw_none (ov_assign rfl) rfl ?_
      refine rl_nil ?_
      refine at_then ?_
      refine ct_ret ?_
      refine at_ret1 Try.results55 (ro_tmp rfl) (fun w1 hp => ?_)
      exact ⟨((boq2, capq2, padq2, xs1 ++ [⟨vx, vy, vz⟩]), _, _), ⟨⟨hsq2, by simp; omega, gRoad_snoc hG1 (gRoad_of (by first | omega | (dsimp only; omega)) (by first | omega | (dsimp only; omega)) (by first | omega | (dsimp only; omega)))⟩, by dsimp only; omega, by dsimp only; omega⟩, rfl, (Hp.sub (Hp.pull (Hp.pull hp 2 rfl) 2 rfl) (List.sublist_append_left [_, _] _))⟩
    ·
      refine ct_seq ?_
      refine ct_reg ?_
      refine rl_val gw_none (ov_eql rfl rfl) rfl ?_
      refine rl_val gw_none (ov_assign rfl) rfl ?_
      refine rl_nil ?_
      refine at_then ?_
      first | refine ct_dec rfl (fun h5 => ?_) (fun h5 => ?_) | refine ct_ndec rfl (fun h5 => ?_) (fun h5 => ?_) | refine ct_eq rfl (fun h5 => ?_) (fun h5 => ?_) | refine ct_ne rfl (fun h5 => ?_) (fun h5 => ?_) | refine ct_not rfl (fun h5 => ?_) (fun h5 => ?_) | refine ct_cond rfl (fun h5 => ?_) (fun h5 => ?_)
      ·
        refine ct_seq ?_
        refine ct_reg ?_
        refine rl_bslice Try.underlying28 ze65 sz65 rfl rfl rfl rfl rfl rfl (fun N8 => ?_)
        refine rl_val gw_none (ov_assign rfl) rfl ?_
        refine rl_nil ?_
        refine at_then ?_
        refine ct_seq ?_
        refine ct_reg ?_
        refine rl_val gw_none (ov_assign rfl) rfl ?_
        refine rl_nil ?_
        refine at_then ?_
        refine ct_block ?_
        refine ct_loopR (ι := Nat × (Option Nat × Nat × List Value × List Road) × Int × Int) (fun p3 => [(3, sv p3.2.1.1 p3.2.1.2.2.2.length p3.2.1.2.1), (7, .int .i64 (p3.1 : Int))]) [(0, _), (2, _)] (fun p3 => [(some bc, 83, [.slice a lc capc, .int .i64 p3.2.2.1, .int .u64 p3.2.2.2]), (p3.2.1.1, 65, flat encRoad p3.2.1.2.2.2 ++ p3.2.1.2.2.1)]) (fun p3 => p3.1 ≤ 8 ∧ (Sl 3 p3.2.1.1 p3.2.1.2.2.2.length p3.2.1.2.1 (flat encRoad p3.2.1.2.2.2) p3.2.1.2.2.1 ∧ p3.2.1.2.2.2.length ≤ 21 ∧ (∀ y ∈ p3.2.1.2.2.2, GRoad y)) ∧ at_ ≤ p3.2.2.1 ∧ p3.2.2.1 ≤ at_ + 400 + 20 * p3.1) (fun p3 => 8 - p3.1) ((0, (some N8, 0, [], []), _, _)) (Sub.cons rfl (Sub.cons rfl Sub.nil)) (fun _ hp => (Hp.sub (Hp.pull (Hp.pull hp 0 rfl) 1 rfl) (List.sublist_append_left [_, _] _))) (by (repeat' (first | exact Sub.nil | refine Sub.cons ?_ ?_)); all_goals (first | rfl | exact lkInt rfl (by dsimp only; omega))) ⟨by dsimp only; omega, ⟨Sl.lit rfl (Nat.zero_le _), by simp, fun y hy => by cases hy⟩, by dsimp only; omega, by dsimp only; omega⟩ (fun p3 hp3 => ?_)
        obtain ⟨k3, ⟨bo3, cap3, pad3, xs3⟩, at3, s3⟩ := p3
        obtain ⟨hk3, ⟨hsl3, hx3, hG3⟩, hat3, hau3⟩ := hp3
        dsimp only at hk3 hsl3 hx3 hG3 hat3 hau3 ⊢
        refine ct_seq ?_
        refine ct_seq ?_
        refine ct_reg ?_
        refine rl_val gw_none (ov_move rfl) rfl ?_
        refine rl_val gw_none (ov_lss rfl rfl) rfl ?_
        refine rl_nil ?_
        refine at_then ?_
        first | refine ct_dec rfl (fun h6 => ?_) (fun h6 => ?_) | refine ct_ndec rfl (fun h6 => ?_) (fun h6 => ?_) | refine ct_eq rfl (fun h6 => ?_) (fun h6 => ?_) | refine ct_ne rfl (fun h6 => ?_) (fun h6 => ?_) | refine ct_not rfl (fun h6 => ?_) (fun h6 => ?_) | refine ct_cond rfl (fun h6 => ?_) (fun h6 => ?_)
        ·
          refine ct_skip ?_
          refine at_then ?_
          refine ct_seq ?_
          refine ct_block ?_
          refine ct_seq ?_
          refine ct_reg ?_
          refine rl_val gw_none (ov_move rfl) rfl ?_
          refine rl_val gw_none (ov_add rfl rfl (by omega)) rfl ?_
          refine rl_val gw_none (ov_assign rfl) rfl ?_
          refine rl_nil ?_
          refine at_then ?_
          refine ct_block ?_
          refine ct_loopR (ι := Nat × (Option Nat × Nat × List Value × List Road) × Int × Int) (fun p4 => [(3, sv p4.2.1.1 p4.2.1.2.2.2.length p4.2.1.2.1), (8, .int .i64 (p4.1 : Int))]) [(0, _), (2, _), (7, _)] (fun p4 => [(some bc, 83, [.slice a lc capc, .int .i64 p4.2.2.1, .int .u64 p4.2.2.2]), (p4.2.1.1, 65, flat encRoad p4.2.1.2.2.2 ++ p4.2.1.2.2.1)]) (fun p4 => (k3 + 1 ≤ p4.1 ∧ p4.1 ≤ 8) ∧ (Sl 3 p4.2.1.1 p4.2.1.2.2.2.length p4.2.1.2.1 (flat encRoad p4.2.1.2.2.2) p4.2.1.2.2.1 ∧ p4.2.1.2.2.2.length ≤ 21 ∧ (∀ y ∈ p4.2.1.2.2.2, GRoad y)) ∧ at_ ≤ p4.2.2.1 ∧ p4.2.2.1 ≤ at_ + 400 + 20 * k3 + 2 * (p4.1 - (k3 + 1))) (fun p4 => 8 - p4.1) (((k3 + 1), (bo3, cap3, pad3, xs3), _, _)) (Sub.cons rfl (Sub.cons rfl (Sub.cons rfl Sub.nil))) (fun _ hp => (Hp.sub (Hp.pull (Hp.pull hp 1 rfl) 1 rfl) (List.sublist_append_left [_, _] _))) (by (repeat' (first | exact Sub.nil | refine Sub.cons ?_ ?_)); all_goals (first | rfl | exact lkInt rfl (by dsimp only; omega))) ⟨by dsimp only; omega, ⟨hsl3, by dsimp only; omega, hG3⟩, by dsimp only; omega, by dsimp only; omega⟩ (fun p4 hp4 => ?_)
          obtain ⟨k4, ⟨bo4, cap4, pad4, xs4⟩, at4, s4⟩ := p4
          obtain ⟨hk4, ⟨hsl4, hx4, hG4⟩, hat4, hau4⟩ := hp4
          dsimp only at hk4 hsl4 hx4 hG4 hat4 hau4 ⊢
          refine ct_seq ?_
          refine ct_seq ?_
          refine ct_reg ?_
          refine rl_val gw_none (ov_move rfl) rfl ?_
          refine rl_val gw_none (ov_lss rfl rfl) rfl ?_
          refine rl_val gw_none (ov_move rfl) rfl ?_
          refine rl_split (t := 64) rfl (fun g1 => ?_) (fun g1 => ?_)
          ·
            have g1' := g1
            try simp only [Bool.not_eq_true', Bool.not_eq_false', Bool.not_not, decide_eq_true_eq, decide_eq_false_iff_not, beq_iff_eq, beq_eq_false_iff_ne, bne_iff_ne, bne_eq_false_iff_eq, Bool.and_eq_true, Bool.or_eq_true, Bool.and_eq_false_iff, Bool.or_eq_false_iff, inB] at g1'
            refine rl_val (gw_some rfl rfl g1) (ov_move rfl) rfl ?_
            refine rl_val (gw_some rfl rfl g1) (ov_len Try.underlying28 rfl) rfl ?_
            refine rl_val (gw_some rfl rfl g1) (ov_move rfl) rfl ?_
            refine rl_calld (ι := (Int) × Int × Int) (fun j => .int .i64 j.1) [_] [_] (fun j => [(_, 83, [_, .int .i64 j.2.1, .int .u64 j.2.2])]) (fun j => (0 ≤ j.1 ∧ (j.1 < _ ∨ j.1 = 0)) ∧ _ ≤ j.2.1 ∧ j.2.1 ≤ _ + 2) (gw_some rfl rfl g1) goes57 rfl (fun _ hq => (hq).pull 0 rfl) (fun w1 hp h0 => pick_c _ _ _ _ _ _ _ _ _ h0 (hcd.call hp (by simp)) (by omega) (by omega)) rfl (fun jp hjp => ?_)
            obtain ⟨vp, tp, sp⟩ := jp
            dsimp only at hjp
            try dsimp only
            refine rl_val (gw_some rfl rfl g1) (ov_add rfl rfl (by omega)) rfl ?_
            refine rl_val (gw_some rfl rfl g1) (ov_lss rfl rfl) rfl ?_
            refine rl_val gw_none (ov_pick_t rfl g1 rfl) rfl ?_
            refine rl_nil ?_
            refine at_then ?_
            first | refine ct_dec rfl (fun h7 => ?_) (fun h7 => ?_) | refine ct_ndec rfl (fun h7 => ?_) (fun h7 => ?_) | refine ct_eq rfl (fun h7 => ?_) (fun h7 => ?_) | refine ct_ne rfl (fun h7 => ?_) (fun h7 => ?_) | refine ct_not rfl (fun h7 => ?_) (fun h7 => ?_) | refine ct_cond rfl (fun h7 => ?_) (fun h7 => ?_)
            ·
              refine ct_skip ?_
              refine at_then ?_
              refine ct_seq ?_
              refine ct_block ?_
              refine ct_reg ?_
              refine rl_val gw_none (ov_move rfl) rfl ?_
              refine rl_val gw_none (ov_move rfl) rfl ?_
              refine rl_val gw_none (ov_move rfl) rfl ?_
              refine rl_val gw_none (ov_build rfl (bu65_0_1_2 _ _ _)) rfl ?_
              refine rl_bslice Try.underlying28 ze65 sz65 rfl rfl rfl rfl rfl rfl (fun N9 => ?_)
              refine rl_appT (flat encRoad) ((flat_append _)) [_, _] (acc := xs4) Try.underlying28 ze65 sz65 rfl rfl by65 rfl rfl rfl hsl4 ([(⟨(k3 : Int), (k4 : Int), 2⟩ : Road)]) rfl (fun w1 hp => hp.sr1 0 rfl rfl (by decide)) (flat_one encRoad_one _) (by unfold maxLen; omega) (by omega) rfl (fun boq3 capq3 padq3 hsq3 => ?_)
              refine rl_val gw_none (ov_assign rfl) rfl ?_
              refine rl_nil ?_
              refine at_block ?_
              refine at_then ?_
              refine ct_reg ?_
              refine rl_val gw_none (ov_move rfl) rfl ?_
              refine rl_val gw_none (ov_add rfl rfl (by omega)) rfl ?_
              refine rl_val gw_none (ov_assign rfl) rfl ?_
              refine rl_nil ?_
              exact at_backR (k4 + 1, (boq3, capq3, padq3, xs4 ++ [⟨(k3 : Int), (k4 : Int), 2⟩]), _, _) ⟨by dsimp only; omega, ⟨hsq3, by simp; omega, gRoad_snoc hG4 (gRoad_of (by first | omega | (dsimp only; omega)) (by first | omega | (dsimp only; omega)) (by first | omega | (dsimp only; omega)))⟩, by dsimp only; omega, by dsimp only; omega⟩ (by dsimp only; omega) (by (repeat' (first | exact Sub.nil | refine Sub.cons ?_ ?_)); all_goals (first | rfl | exact lkInt rfl (by dsimp only; omega))) (Sub.cons rfl (Sub.cons rfl (Sub.cons rfl Sub.nil))) (fun _ hp => (Hp.sub (Hp.pull (Hp.pull hp 2 rfl) 2 rfl) (List.sublist_append_left [_, _] _)))
            ·
              refine ct_exit ?_
              refine at_then_exit ?_
              refine at_then_exit ?_
              refine at_block_hit ?_
              refine at_block ?_
              refine at_then ?_
              refine ct_reg ?_
              refine rl_val gw_none (ov_move rfl) rfl ?_
              refine rl_val gw_none (ov_add rfl rfl (by omega)) rfl ?_
              refine rl_val gw_none (ov_assign rfl) rfl ?_
              refine rl_nil ?_
              exact at_backR (k3 + 1, (bo4, cap4, pad4, xs4), _, _) ⟨by dsimp only; omega, ⟨hsl4, by dsimp only; omega, hG4⟩, by dsimp only; omega, by dsimp only; omega⟩ (by dsimp only; omega) (by (repeat' (first | exact Sub.nil | refine Sub.cons ?_ ?_)); all_goals (first | rfl | exact lkInt rfl (by dsimp only; omega))) (Sub.cons rfl (Sub.cons rfl Sub.nil)) (fun _ hp => (Hp.sub (Hp.pull (Hp.pull hp 1 rfl) 1 rfl) (List.sublist_append_left [_, _] _)))
          ·
            have g1' := g1
            try simp only [Bool.not_eq_true', Bool.not_eq_false', Bool.not_not, decide_eq_true_eq, decide_eq_false_iff_not, beq_iff_eq, beq_eq_false_iff_ne, bne_iff_ne, bne_eq_false_iff_eq, Bool.and_eq_true, Bool.or_eq_true, Bool.and_eq_false_iff, Bool.or_eq_false_iff, inB] at g1'
            refine rl_skip (gw_not rfl rfl g1) rfl ?_
            refine rl_skip (gw_not rfl rfl g1) rfl ?_
            refine rl_skip (gw_not rfl rfl g1) rfl ?_
            refine rl_skip (gw_not rfl rfl g1) rfl ?_
            refine rl_skip (gw_not rfl rfl g1) rfl ?_
            refine rl_skip (gw_not rfl rfl g1) rfl ?_
            refine rl_val gw_none (ov_pick_f rfl g1 rfl) rfl ?_
            refine rl_nil ?_
            refine at_then ?_
            refine ct_false rfl rfl ?_
            refine ct_exit ?_
            refine at_then_exit ?_
            refine at_then_exit ?_
            refine at_block_hit ?_
            refine at_block ?_
            refine at_then ?_
            refine ct_reg ?_
            refine rl_val gw_none (ov_move rfl) rfl ?_
            refine rl_val gw_none (ov_add rfl rfl (by omega)) rfl ?_
            refine rl_val gw_none (ov_assign rfl) rfl ?_
            refine rl_nil ?_
            exact at_backR (k3 + 1, (bo4, cap4, pad4, xs4), _, _) ⟨by dsimp only; omega, ⟨hsl4, by dsimp only; omega, hG4⟩, by dsimp only; omega, by dsimp only; omega⟩ (by dsimp only; omega) (by (repeat' (first | exact Sub.nil | refine Sub.cons ?_ ?_)); all_goals (first | rfl | exact lkInt rfl (by dsimp only; omega))) (Sub.cons rfl (Sub.cons rfl Sub.nil)) (fun _ hp => (Hp.sub (Hp.pull (Hp.pull hp 1 rfl) 1 rfl) (List.sublist_append_left [_, _] _)))
        ·
          refine ct_exit ?_
          refine at_then_exit ?_
          refine at_then_exit ?_
          refine at_block_hit ?_
          refine at_block ?_
          refine at_then ?_
          refine ct_seq ?_
          refine ct_reg ?_
          refine rl_val gw_none (ov_move rfl) rfl ?_
          refine rl_val gw_none (ov_assign rfl) rfl ?_
          refine rl_nil ?_
          refine at_then ?_
          refine ct_ret ?_
          refine at_ret1 Try.results55 (ro_tmp rfl) (fun w1 hp => ?_)
          exact ⟨((bo3, cap3, pad3, xs3), _, _), ⟨⟨hsl3, by dsimp only; omega, hG3⟩, by dsimp only; omega, by dsimp only; omega⟩, rfl, (Hp.sub (Hp.pull (Hp.pull hp 1 rfl) 1 rfl) (List.sublist_append_left [_, _] _))⟩
      ·
        refine ct_skip ?_
        refine at_block ?_
        refine at_then ?_
        refine ct_seq ?_
        refine ct_reg ?_
        refine rl_val gw_none (ov_move rfl) rfl ?_
        refine rl_val gw_none (ov_assign rfl) rfl ?_
        refine rl_nil ?_
        refine at_then ?_
        refine ct_ret ?_
        refine at_ret1 Try.results55 (ro_tmp rfl) (fun w1 hp => ?_)
        exact ⟨((bo1, cap1, pad1, xs1), _, _), ⟨⟨hsl1, by dsimp only; omega, hG1⟩, by dsimp only; omega, by dsimp only; omega⟩, rfl, (Hp.sub (Hp.pull (Hp.pull hp 1 rfl) 1 rfl) (List.sublist_append_left [_, _] _))⟩

theorem town24_c (bc : Nat) (a : Option Addr) (lc capc : Nat) (at_ s : Int) (D : List Nat) (w : World) (h0 : Hp ⟨w, D⟩ [(some bc, 83, [.slice a lc capc, .int .i64 at_, .int .u64 s])] w) (hcd : CodeOk w D a lc) (hat : 0 ≤ at_ ∧ at_ ≤ 1000000000) : Calls Try.prog 64 ([.pointer (some ⟨bc, 0, none⟩)]).toArray w (fun e w' => ∃ j : (Int) × Int × Int, ((-1 ≤ j.1 ∧ j.1 ≤ 8) ∧ at_ ≤ j.2.1 ∧ j.2.1 ≤ at_ + 10) ∧ e = .returned (.int .i64 j.1) ∧ Hp ⟨w, D⟩ [(some bc, 83, [.slice a lc capc, .int .i64 j.2.1, .int .u64 j.2.2])] w') := by
  refine calls_ctds h0 Try.func64 Try.ntmps64 rfl rfl ?_
  refine ct_seq ?_
  refine ct_reg ?_
  refine rl_val gw_none (ov_assign rfl) rfl ?_
  refine rl_nil ?_
  refine at_then ?_
  refine ct_seq ?_
  refine ct_reg ?_
  refine rl_val gw_none (ov_move rfl) rfl ?_
  refine rl_bslice Try.underlying39 ze3 sz3 rfl rfl rfl rfl rfl rfl (fun N1 => ?_)
  refine rl_val gw_none (ov_move rfl) rfl ?_
  refine rl_calld (ι := (Int) × Int × Int) (fun j => .int .i64 j.1) [_] [_] (fun j => [(_, 83, [_, .int .i64 j.2.1, .int .u64 j.2.2])]) (fun j => (0 ≤ j.1 ∧ (j.1 < _ ∨ j.1 = 0)) ∧ _ ≤ j.2.1 ∧ j.2.1 ≤ _ + 2) gw_none goes57 rfl (fun _ hq => (hq).pull 1 rfl) (fun w1 hp h0 => pick_c _ _ _ _ _ _ _ _ _ h0 (hcd.call hp (by simp)) (by omega) (by omega)) rfl (fun jp hjp => ?_)
  obtain ⟨vp, tp, sp⟩ := jp
  dsimp only at hjp
  try dsimp only
  refine rl_val gw_none (ov_quo rfl rfl (by omega) (by omega) (by omega)) rfl ?_
  refine rl_val gw_none (ov_add rfl rfl (by omega)) rfl ?_
  refine rl_val gw_none (ov_subh Try.underlying39 sz3 rfl rfl ((5 + vp / 11).toNat) (by omega) (by show _ ≤ 7; omega)) rfl ?_
  refine rl_calld (ι := (Int) × Int × Int) (fun j => .int .i64 j.1) [_, _] [] (fun j => [(_, 83, [_, .int .i64 j.2.1, .int .u64 j.2.2])]) (fun j => ((-1) ≤ j.1 ∧ j.1 ≤ 8) ∧ _ ≤ j.2.1 ∧ j.2.1 ≤ _ + 2) gw_none goes60 rfl (fun _ hq => ((hq).pull 1 rfl).pull 1 rfl) (fun w1 hp h0 => among_c (-1) 8 _ _ _ _ _ _ _ _ _ _ _ _ h0 (hcd.call hp (by simp)) (by omega) (by first | rfl | decide | (simp [okIntsR]; done) | (simp [okIntsR]; omega) | (simp [okIntsR, Value.cells]; omega)) (by first | decide | (simp; done) | (simp; omega) | omega | (simp [Value.cells]; done) | (simp [Value.cells]; omega))) rfl (fun ja hja => ?_)
  obtain ⟨va, ta, sa⟩ := ja
  dsimp only at hja
  try dsimp only
  refine rl_val gw_none (ov_assign rfl) rfl ?_
  refine rl_nil ?_
  refine at_then ?_
  refine ct_ret ?_
  refine at_ret1 Try.results64 (ro_tmp rfl) (fun w1 hp => ?_)
  exact ⟨(va, _, _), ⟨by dsimp only; omega, by dsimp only; omega, by dsimp only; omega⟩, rfl, (Hp.sub (Hp.pull hp 0 rfl) (List.sublist_append_left [_] _))⟩
end Go.Proofs.Ytgnnlgmeagipjaa
