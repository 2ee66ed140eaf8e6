import Derived.Test.YtaajkamfeaafpaaVb
import Derived.Test.YtaajkamfeaafpaaRb
import Derived.KernelRfl
set_option linter.unusedVariables false
set_option linter.unusedSimpArgs false
namespace Go.Proofs.Ytaajkamfeaafpaa
open Go Go.RowKit K
theorem gRep_snoc {xs : List Repair} {z : Repair} (h : ∀ y ∈ xs, GRepair y) (hz : GRepair z) : ∀ y ∈ xs ++ [z], GRepair y := fun y hy => by
  rcases List.mem_append.1 hy with hy | hy
  · exact h y hy
  · obtain rfl := List.mem_singleton.1 hy; exact hz

theorem repairs23_c (aw : Option Addr) (nw cw : Nat) (bc : Nat) (a : Option Addr) (lc capc : Nat) (at_ s : Int) (D : List Nat) (w : World) (h0 : Hp ⟨w, D⟩ [(some bc, 84, [.slice a lc capc, .int .i64 at_, .int .u64 s])] w) (hcd : CodeOk w D a lc) (hat : 0 ≤ at_ ∧ at_ ≤ 1000000000) (hnw : nw ≤ 1000) : Calls Try.prog 75 ([.pointer (some ⟨bc, 0, none⟩), .slice aw nw cw]).toArray w (fun e w' => ∃ j : (Option Nat × Nat × List Value × List Repair) × Int × Int, ((Sl 5 j.1.1 j.1.2.2.2.length j.1.2.1 (flat encRepair j.1.2.2.2) j.1.2.2.1 ∧ j.1.2.2.2.length ≤ 12 ∧ (∀ y ∈ j.1.2.2.2, GRepair y)) ∧ at_ ≤ j.2.1 ∧ j.2.1 ≤ at_ + 500) ∧ e = .returned (sv j.1.1 j.1.2.2.2.length j.1.2.1) ∧ Hp ⟨w, D⟩ [(some bc, 84, [.slice a lc capc, .int .i64 j.2.1, .int .u64 j.2.2]), (j.1.1, 53, flat encRepair j.1.2.2.2 ++ j.1.2.2.1)] w') := by
  refine calls_ctds h0 Try.func75 Try.ntmps75 rfl rfl ?_
  refine ct_seq ?_
  refine ct_reg ?_
  refine rl_val gw_none (ov_assign rfl) rfl ?_
  refine rl_nil ?_
  refine at_then ?_
  refine ct_seq ?_
  refine ct_reg ?_
  refine rl_bslice Try.underlying37 ze53 sz53 rfl rfl rfl rfl rfl rfl (fun N1 => ?_)
  refine rl_val gw_none (ov_assign rfl) rfl ?_
  refine rl_nil ?_
  refine at_then ?_
  refine ct_seq ?_
  refine ct_reg ?_
  refine rl_val gw_none (ov_assign rfl) rfl ?_
  refine rl_nil ?_
  refine at_then ?_
  refine ct_seq ?_
  refine ct_seq ?_
  refine ct_reg ?_
  refine rl_val gw_none (ov_move rfl) rfl ?_
  refine rl_calld (ι := (Int) × Int × Int) (fun j => .int .i64 j.1) [_] [_] (fun j => [(_, 84, [_, .int .i64 j.2.1, .int .u64 j.2.2])]) (fun j => (0 ≤ j.1 ∧ (j.1 < _ ∨ j.1 = 0)) ∧ _ ≤ j.2.1 ∧ j.2.1 ≤ _ + 2) gw_none goes77 rfl (fun _ hq => (hq).pull 1 rfl) (fun w1 hp h0 => pick_c _ _ _ _ _ _ _ _ _ h0 (hcd.call hp (by simp)) (by omega) (by omega)) rfl (fun jn0 hjn0 => ?_)
  obtain ⟨vn0, tn0, sn0⟩ := jn0
  dsimp only at hjn0
  try dsimp only
  refine rl_val gw_none (ov_assign rfl) rfl ?_
  refine rl_nil ?_
  refine at_then ?_
  refine ct_block ?_
  refine ct_loopR (ι := Nat × (Option Nat × Nat × List Value × List Repair) × Int × Int × Int) (fun p0 => [(5, sv p0.2.1.1 p0.2.1.2.2.2.length p0.2.1.2.1), (6, .int .i64 p0.2.2.2.2), (7, .int .i64 p0.1)]) [(0, _), (1, _), (4, _)] (fun p0 => [(some bc, 84, [.slice a lc capc, .int .i64 p0.2.2.1, .int .u64 p0.2.2.2.1]), (p0.2.1.1, 53, flat encRepair p0.2.1.2.2.2 ++ p0.2.1.2.2.1)]) (fun p0 => (Sl 5 p0.2.1.1 p0.2.1.2.2.2.length p0.2.1.2.1 (flat encRepair p0.2.1.2.2.2) p0.2.1.2.2.1 ∧ p0.2.1.2.2.2.length ≤ 8 ∧ (∀ y ∈ p0.2.1.2.2.2, GRepair y)) ∧ p0.2.1.2.2.2.length + p0.1 ≤ 8 ∧ (0 ≤ p0.2.2.2.2 ∧ p0.2.2.2.2 + 4 * p0.1 ≤ 40) ∧ at_ ≤ p0.2.2.1 ∧ p0.2.2.1 + 40 * p0.1 ≤ at_ + 330) (fun p0 => p0.1) ((vn0.toNat, (some N1, 0, [], []), tn0, sn0, 0)) (Sub.cons rfl (Sub.cons rfl (Sub.cons rfl Sub.nil))) (fun _ hp => (Hp.sub (Hp.pull (Hp.pull hp 1 rfl) 1 rfl) (List.sublist_append_left [_, _] _))) (by (repeat' (first | exact Sub.nil | refine Sub.cons ?_ ?_)); all_goals (first | rfl | exact lkInt rfl (by dsimp only; omega))) ⟨⟨Sl.lit rfl (Nat.zero_le _), by simp, fun y hy => by cases hy⟩, by simp; omega, by dsimp only; omega, by dsimp only; omega, by dsimp only; omega⟩ (fun p0 hp0 => ?_)
  obtain ⟨k, ⟨bo, cap, pad, xs⟩, at2, s2, frame⟩ := p0
  obtain ⟨⟨hsl, hx8, hG⟩, hxk, hfr, hat1, hat2⟩ := hp0
  dsimp only at hsl hx8 hG hxk hfr hat1 hat2 ⊢
  refine ct_seq ?_
  refine ct_seq ?_
  refine ct_reg ?_
  refine rl_val gw_none (ov_move rfl) rfl ?_
  refine rl_val gw_none (ov_gtr rfl rfl) rfl ?_
  refine rl_nil ?_
  refine at_then ?_
  first | refine ct_dec rfl (fun h1 => ?_) (fun h1 => ?_) | refine ct_ndec rfl (fun h1 => ?_) (fun h1 => ?_) | refine ct_eq rfl (fun h1 => ?_) (fun h1 => ?_) | refine ct_ne rfl (fun h1 => ?_) (fun h1 => ?_) | refine ct_not rfl (fun h1 => ?_) (fun h1 => ?_) | refine ct_cond rfl (fun h1 => ?_) (fun h1 => ?_)
  ·
    refine ct_skip ?_
    refine at_then ?_
    refine ct_seq ?_
    refine ct_block ?_
    refine ct_seq ?_
    refine ct_reg ?_
    refine rl_val gw_none (ov_move rfl) rfl ?_
    refine rl_val gw_none (ov_add rfl rfl (by omega)) rfl ?_
    refine rl_val gw_none (ov_move rfl) rfl ?_
    refine rl_calld (ι := (Int) × Int × Int) (fun j => .int .i64 j.1) [_] [_] (fun j => [(_, 84, [_, .int .i64 j.2.1, .int .u64 j.2.2])]) (fun j => (0 ≤ j.1 ∧ (j.1 < _ ∨ j.1 = 0)) ∧ _ ≤ j.2.1 ∧ j.2.1 ≤ _ + 2) gw_none goes77 rfl (fun _ hq => (hq).pull 0 rfl) (fun w1 hp h0 => pick_c _ _ _ _ _ _ _ _ _ h0 (hcd.call hp (by simp)) (by omega) (by omega)) rfl (fun jf1 hjf1 => ?_)
    obtain ⟨vf1, tf1, sf1⟩ := jf1
    dsimp only at hjf1
    try dsimp only
    refine rl_val gw_none (ov_add rfl rfl (by omega)) rfl ?_
    refine rl_val gw_none (ov_move rfl) rfl ?_
    refine rl_calld (ι := (Int) × Int × Int) (fun j => .int .i64 j.1) [_] [_] (fun j => [(_, 84, [_, .int .i64 j.2.1, .int .u64 j.2.2])]) (fun j => (0 ≤ j.1 ∧ (j.1 < _ ∨ j.1 = 0)) ∧ _ ≤ j.2.1 ∧ j.2.1 ≤ _ + 2) gw_none goes77 rfl (fun _ hq => (hq).pull 0 rfl) (fun w1 hp h0 => pick_c _ _ _ _ _ _ _ _ _ h0 (hcd.call hp (by simp)) (by omega) (by omega)) rfl (fun jf2 hjf2 => ?_)
    obtain ⟨vf2, tf2, sf2⟩ := jf2
    dsimp only at hjf2
    try dsimp only
    refine rl_val gw_none (ov_quo rfl rfl (by omega) (by omega) (by omega)) rfl ?_
    refine rl_val gw_none (ov_sub rfl rfl (by omega)) rfl ?_
    refine rl_val gw_none (ov_assign rfl) rfl ?_
    refine rl_nil ?_
    refine at_then ?_
    refine ct_seq ?_
    refine ct_reg ?_
    refine rl_val gw_none (ov_move rfl) rfl ?_
    refine rl_val gw_none (ov_move rfl) rfl ?_
    refine rl_val gw_none (ov_move rfl) rfl ?_
    refine rl_val gw_none (ov_len Try.underlying25 rfl) rfl ?_
    refine rl_val gw_none (ov_add rfl rfl (by omega)) rfl ?_
    refine rl_val gw_none (ov_move rfl) rfl ?_
    refine rl_val gw_none (ov_len Try.underlying25 rfl) rfl ?_
    refine rl_callv gw_none goes94 rfl (fun w1 hp => l1Least_c _ _ _) rfl ?_
    refine rl_val gw_none (ov_sub rfl rfl (by omega)) rfl ?_
    refine rl_calld (ι := (Int) × Int × Int) (fun j => .int .i64 j.1) [_] [_] (fun j => [(_, 84, [_, .int .i64 j.2.1, .int .u64 j.2.2])]) (fun j => (0 ≤ j.1 ∧ (j.1 < _ ∨ j.1 = 0)) ∧ _ ≤ j.2.1 ∧ j.2.1 ≤ _ + 2) gw_none goes77 rfl (fun _ hq => (hq).pull 0 rfl) (fun w1 hp h0 => pick_c _ _ _ _ _ _ _ _ _ h0 (hcd.call hp (by simp)) (by omega) (by omega)) rfl (fun jw hjw => ?_)
    obtain ⟨vw, tw, sw⟩ := jw
    dsimp only at hjw
    try dsimp only
    refine rl_val gw_none (ov_move rfl) rfl ?_
    refine rl_bslice Try.underlying34 ze3 sz3 rfl rfl rfl rfl rfl rfl (fun N2 => ?_)
    refine rl_calld (ι := (Int) × Int × Int) (fun j => .int .i64 j.1) [_, _] [_] (fun j => [(_, 84, [_, .int .i64 j.2.1, .int .u64 j.2.2])]) (fun j => ((-1000000) ≤ j.1 ∧ j.1 ≤ 1000000) ∧ _ ≤ j.2.1 ∧ j.2.1 ≤ _ + 2) gw_none goes76 rfl (fun _ hq => ((hq).pull 0 rfl).pull 1 rfl) (fun w1 hp h0 => among_c (-1000000) 1000000 _ _ _ _ _ _ _ _ _ _ _ _ h0 (hcd.call hp (by simp)) (by omega) (by first | rfl | decide | (simp [okIntsR]; done) | (simp [okIntsR]; omega) | (simp [okIntsR, Value.cells]; omega)) (by first | decide | (simp; done) | (simp; omega) | omega | (simp [Value.cells]; done) | (simp [Value.cells]; omega))) rfl (fun jbe hjbe => ?_)
    obtain ⟨vbe, tbe, sbe⟩ := jbe
    dsimp only at hjbe
    try dsimp only
    refine rl_val gw_none (ov_move rfl) rfl ?_
    refine rl_bslice Try.underlying34 ze3 sz3 rfl rfl rfl rfl rfl rfl (fun N3 => ?_)
    refine rl_calld (ι := (Int) × Int × Int) (fun j => .int .i64 j.1) [_, _] [_] (fun j => [(_, 84, [_, .int .i64 j.2.1, .int .u64 j.2.2])]) (fun j => ((-1000000) ≤ j.1 ∧ j.1 ≤ 1000000) ∧ _ ≤ j.2.1 ∧ j.2.1 ≤ _ + 2) gw_none goes76 rfl (fun _ hq => ((hq).pull 0 rfl).pull 1 rfl) (fun w1 hp h0 => among_c (-1000000) 1000000 _ _ _ _ _ _ _ _ _ _ _ _ h0 (hcd.call hp (by simp)) (by omega) (by first | rfl | decide | (simp [okIntsR]; done) | (simp [okIntsR]; omega) | (simp [okIntsR, Value.cells]; omega)) (by first | decide | (simp; done) | (simp; omega) | omega | (simp [Value.cells]; done) | (simp [Value.cells]; omega))) rfl (fun jro hjro => ?_)
    obtain ⟨vro, tro, sro⟩ := jro
    dsimp only at hjro
    try dsimp only
    refine rl_val gw_none (ov_move rfl) rfl ?_
    refine rl_bslice Try.underlying34 ze3 sz3 rfl rfl rfl rfl rfl rfl (fun N4 => ?_)
    refine rl_calld (ι := (Int) × Int × Int) (fun j => .int .i64 j.1) [_, _] [_] (fun j => [(_, 84, [_, .int .i64 j.2.1, .int .u64 j.2.2])]) (fun j => ((-1000000) ≤ j.1 ∧ j.1 ≤ 1000000) ∧ _ ≤ j.2.1 ∧ j.2.1 ≤ _ + 2) gw_none goes76 rfl (fun _ hq => ((hq).pull 0 rfl).pull 1 rfl) (fun w1 hp h0 => among_c (-1000000) 1000000 _ _ _ _ _ _ _ _ _ _ _ _ h0 (hcd.call hp (by simp)) (by omega) (by first | rfl | decide | (simp [okIntsR]; done) | (simp [okIntsR]; omega) | (simp [okIntsR, Value.cells]; omega)) (by first | decide | (simp; done) | (simp; omega) | omega | (simp [Value.cells]; done) | (simp [Value.cells]; omega))) rfl (fun jdu hjdu => ?_)
    obtain ⟨vdu, tdu, sdu⟩ := jdu
    dsimp only at hjdu
    try dsimp only
    refine rl_val gw_none (ov_build rfl (bu53_0_1_2_3_4 _ _ _ _ _)) rfl ?_
    refine rl_alloc ze53 rfl (fun N5 => ?_)
    refine rl_store [] sz53 rfl rfl rfl rfl rfl (Nat.le_of_ble_eq_true rfl) ?_
    refine rl_nil ?_
    refine at_then ?_
    refine ct_seq ?_
    refine ct_seq ?_
    refine ct_reg ?_
    refine rl_val gw_none (ov_move rfl) rfl ?_
    refine rl_calld (ι := (Int) × Int × Int) (fun j => .int .i64 j.1) [_] [_, _] (fun j => [(_, 84, [_, .int .i64 j.2.1, .int .u64 j.2.2])]) (fun j => (0 ≤ j.1 ∧ (j.1 < _ ∨ j.1 = 0)) ∧ _ ≤ j.2.1 ∧ j.2.1 ≤ _ + 2) gw_none goes77 rfl (fun _ hq => (hq).pull 1 rfl) (fun w1 hp h0 => pick_c _ _ _ _ _ _ _ _ _ h0 (hcd.call hp (by simp)) (by omega) (by omega)) rfl (fun jsw hjsw => ?_)
    obtain ⟨vsw, tsw, ssw⟩ := jsw
    dsimp only at hjsw
    try dsimp only
    refine rl_nil ?_
    refine at_then ?_
    refine ct_block ?_
    refine ct_seq ?_
    refine ct_reg ?_
    refine rl_val gw_none (ov_eql rfl rfl) rfl ?_
    refine rl_val gw_none (ov_assign rfl) rfl ?_
    refine rl_nil ?_
    refine at_then ?_
    first | refine ct_dec rfl (fun h2 => ?_) (fun h2 => ?_) | refine ct_ndec rfl (fun h2 => ?_) (fun h2 => ?_) | refine ct_eq rfl (fun h2 => ?_) (fun h2 => ?_) | refine ct_ne rfl (fun h2 => ?_) (fun h2 => ?_) | refine ct_not rfl (fun h2 => ?_) (fun h2 => ?_) | refine ct_cond rfl (fun h2 => ?_) (fun h2 => ?_)
    ·
      refine ct_reg ?_
      refine rl_val gw_none (ov_move rfl) rfl ?_
      refine rl_bslice Try.underlying34 ze3 sz3 rfl rfl rfl rfl rfl rfl (fun N6 => ?_)
      refine rl_calld (ι := (Int) × Int × Int) (fun j => .int .i64 j.1) [_, _] [_, _] (fun j => [(_, 84, [_, .int .i64 j.2.1, .int .u64 j.2.2])]) (fun j => ((-1000000) ≤ j.1 ∧ j.1 ≤ 1000000) ∧ _ ≤ j.2.1 ∧ j.2.1 ≤ _ + 2) gw_none goes76 rfl (fun _ hq => ((hq).pull 0 rfl).pull 1 rfl) (fun w1 hp h0 => among_c (-1000000) 1000000 _ _ _ _ _ _ _ _ _ _ _ _ h0 (hcd.call hp (by simp)) (by omega) (by first | rfl | decide | (simp [okIntsR]; done) | (simp [okIntsR]; omega) | (simp [okIntsR, Value.cells]; omega)) (by first | decide | (simp; done) | (simp; omega) | omega | (simp [Value.cells]; done) | (simp [Value.cells]; omega))) rfl (fun jx hjx => ?_)
      obtain ⟨vx, tx, sx⟩ := jx
      dsimp only at hjx
      try dsimp only
      refine rl_val gw_none (ov_field fo53_0 rfl) rfl ?_
      refine rl_store [_] sz3 rfl rfl rfl rfl rfl (Nat.le_of_ble_eq_true rfl) ?_
      refine rl_nil ?_
      refine at_block ?_
      refine at_then ?_
      refine ct_reg ?_
      refine rl_val gw_none (ov_move rfl) rfl ?_
      refine rl_val gw_none (ov_loadp 1 ag53 rfl rfl (vs := encRepair ⟨vx, vw, vbe, vro, vdu⟩) rfl rfl) rfl ?_
      refine rl_bslice Try.underlying37 ze53 sz53 rfl rfl rfl rfl rfl rfl (fun N7 => ?_)
      refine rl_appT (flat encRepair) ((flat_append _)) [_, _, _] (acc := xs) Try.underlying37 ze53 sz53 rfl rfl by53 rfl rfl rfl hsl ([(⟨vx, vw, vbe, vro, vdu⟩ : Repair)]) rfl (fun w1 hp => hp.sr1 0 rfl rfl (by decide)) (flat_one encRepair_one _) (by unfold maxLen; omega) (by omega) rfl (fun boq1 capq1 padq1 hsq1 => ?_)
      refine rl_val gw_none (ov_assign rfl) rfl ?_
      refine rl_nil ?_
      refine at_block ?_
      refine at_then ?_
      refine ct_reg ?_
      refine rl_val gw_none (ov_move rfl) rfl ?_
      refine rl_val gw_none (ov_sub rfl rfl (by omega)) rfl ?_
      refine rl_val gw_none (ov_assign rfl) rfl ?_
      refine rl_nil ?_
      exact at_backR (k - 1, (boq1, capq1, padq1, xs ++ [⟨vx, vw, vbe, vro, vdu⟩]), _, _, frame + 1 + vf1 - vf2 / 89) ⟨⟨hsq1, by simp; omega, gRep_snoc hG (show GRepair ⟨vx, vw, vbe, vro, vdu⟩ by unfold GRepair In64; dsimp only; omega)⟩, by simp; omega, by dsimp only; omega, by dsimp only; omega, by dsimp only; omega⟩ (by dsimp only; omega) (by (repeat' (first | exact Sub.nil | refine Sub.cons ?_ ?_)); all_goals (first | rfl | exact lkInt rfl (by dsimp only; omega))) (Sub.cons rfl (Sub.cons rfl (Sub.cons rfl Sub.nil))) (fun _ hp => (Hp.sub (Hp.pull (Hp.pull hp 3 rfl) 2 rfl) (List.sublist_append_left [_, _] _)))
    ·
      refine ct_seq ?_
      refine ct_reg ?_
      refine rl_val gw_none (ov_eql rfl rfl) rfl ?_
      refine rl_val gw_none (ov_assign rfl) rfl ?_
      refine rl_nil ?_
      refine at_then ?_
      first | refine ct_dec rfl (fun h3 => ?_) (fun h3 => ?_) | refine ct_ndec rfl (fun h3 => ?_) (fun h3 => ?_) | refine ct_eq rfl (fun h3 => ?_) (fun h3 => ?_) | refine ct_ne rfl (fun h3 => ?_) (fun h3 => ?_) | refine ct_not rfl (fun h3 => ?_) (fun h3 => ?_) | refine ct_cond rfl (fun h3 => ?_) (fun h3 => ?_)
      ·
        refine ct_reg ?_
        refine rl_val gw_none (ov_move rfl) rfl ?_
        refine rl_val gw_none (ov_move rfl) rfl ?_
        refine rl_val gw_none (ov_len Try.underlying25 rfl) rfl ?_
        refine rl_bslice Try.underlying34 ze3 sz3 rfl rfl rfl rfl rfl rfl (fun N8 => ?_)
        refine rl_calld (ι := (Int) × Int × Int) (fun j => .int .i64 j.1) [_, _] [_, _] (fun j => [(_, 84, [_, .int .i64 j.2.1, .int .u64 j.2.2])]) (fun j => ((-1000000) ≤ j.1 ∧ j.1 ≤ 1000000) ∧ _ ≤ j.2.1 ∧ j.2.1 ≤ _ + 2) gw_none goes76 rfl (fun _ hq => ((hq).pull 0 rfl).pull 1 rfl) (fun w1 hp h0 => among_c (-1000000) 1000000 _ _ _ _ _ _ _ _ _ _ _ _ h0 (hcd.call hp (by simp)) (by omega) (by first | rfl | decide | (simp [okIntsR]; done) | (simp [okIntsR]; omega) | (simp [okIntsR, Value.cells]; omega)) (by first | decide | (simp; done) | (simp; omega) | omega | (simp [Value.cells]; done) | (simp [Value.cells]; omega))) rfl (fun jx hjx => ?_)
        obtain ⟨vx, tx, sx⟩ := jx
        dsimp only at hjx
        try dsimp only
        refine rl_val gw_none (ov_field fo53_1 rfl) rfl ?_
        refine rl_store [_] sz3 rfl rfl rfl rfl rfl (Nat.le_of_ble_eq_true rfl) ?_
        refine rl_nil ?_
        refine at_block ?_
        refine at_then ?_
        refine ct_reg ?_
        refine rl_val gw_none (ov_move rfl) rfl ?_
        refine rl_val gw_none (ov_loadp 1 ag53 rfl rfl (vs := encRepair ⟨frame + 1 + vf1 - vf2 / 89, vx, vbe, vro, vdu⟩) rfl rfl) rfl ?_
        refine rl_bslice Try.underlying37 ze53 sz53 rfl rfl rfl rfl rfl rfl (fun N9 => ?_)
        refine rl_appT (flat encRepair) ((flat_append _)) [_, _, _] (acc := xs) Try.underlying37 ze53 sz53 rfl rfl by53 rfl rfl rfl hsl ([(⟨frame + 1 + vf1 - vf2 / 89, vx, vbe, vro, vdu⟩ : Repair)]) rfl (fun w1 hp => hp.sr1 0 rfl rfl (by decide)) (flat_one encRepair_one _) (by unfold maxLen; omega) (by omega) rfl (fun boq2 capq2 padq2 hsq2 => ?_)
        refine rl_val gw_none (ov_assign rfl) rfl ?_
        refine rl_nil ?_
        refine at_block ?_
        refine at_then ?_
        refine ct_reg ?_
        refine rl_val gw_none (ov_move rfl) rfl ?_
        refine rl_val gw_none (ov_sub rfl rfl (by omega)) rfl ?_
        refine rl_val gw_none (ov_assign rfl) rfl ?_
        refine rl_nil ?_
        exact at_backR (k - 1, (boq2, capq2, padq2, xs ++ [⟨frame + 1 + vf1 - vf2 / 89, vx, vbe, vro, vdu⟩]), _, _, frame + 1 + vf1 - vf2 / 89) ⟨⟨hsq2, by simp; omega, gRep_snoc hG (show GRepair ⟨frame + 1 + vf1 - vf2 / 89, vx, vbe, vro, vdu⟩ by unfold GRepair In64; dsimp only; omega)⟩, by simp; omega, by dsimp only; omega, by dsimp only; omega, by dsimp only; omega⟩ (by dsimp only; omega) (by (repeat' (first | exact Sub.nil | refine Sub.cons ?_ ?_)); all_goals (first | rfl | exact lkInt rfl (by dsimp only; omega))) (Sub.cons rfl (Sub.cons rfl (Sub.cons rfl Sub.nil))) (fun _ hp => (Hp.sub (Hp.pull (Hp.pull hp 3 rfl) 2 rfl) (List.sublist_append_left [_, _] _)))
      ·
        refine ct_seq ?_
        refine ct_reg ?_
        refine rl_val gw_none (ov_eql rfl rfl) rfl ?_
        refine rl_val gw_none (ov_assign rfl) rfl ?_
        refine rl_nil ?_
        refine at_then ?_
        first | refine ct_dec rfl (fun h4 => ?_) (fun h4 => ?_) | refine ct_ndec rfl (fun h4 => ?_) (fun h4 => ?_) | refine ct_eq rfl (fun h4 => ?_) (fun h4 => ?_) | refine ct_ne rfl (fun h4 => ?_) (fun h4 => ?_) | refine ct_not rfl (fun h4 => ?_) (fun h4 => ?_) | refine ct_cond rfl (fun h4 => ?_) (fun h4 => ?_)
        ·
          refine ct_reg ?_
          refine rl_val gw_none (ov_move rfl) rfl ?_
          refine rl_bslice Try.underlying34 ze3 sz3 rfl rfl rfl rfl rfl rfl (fun N10 => ?_)
          refine rl_calld (ι := (Int) × Int × Int) (fun j => .int .i64 j.1) [_, _] [_, _] (fun j => [(_, 84, [_, .int .i64 j.2.1, .int .u64 j.2.2])]) (fun j => ((-1000000) ≤ j.1 ∧ j.1 ≤ 1000000) ∧ _ ≤ j.2.1 ∧ j.2.1 ≤ _ + 2) gw_none goes76 rfl (fun _ hq => ((hq).pull 0 rfl).pull 1 rfl) (fun w1 hp h0 => among_c (-1000000) 1000000 _ _ _ _ _ _ _ _ _ _ _ _ h0 (hcd.call hp (by simp)) (by omega) (by first | rfl | decide | (simp [okIntsR]; done) | (simp [okIntsR]; omega) | (simp [okIntsR, Value.cells]; omega)) (by first | decide | (simp; done) | (simp; omega) | omega | (simp [Value.cells]; done) | (simp [Value.cells]; omega))) rfl (fun jx hjx => ?_)
          obtain ⟨vx, tx, sx⟩ := jx
          dsimp only at hjx
          try dsimp only
          refine rl_val gw_none (ov_field fo53_2 rfl) rfl ?_
          refine rl_store [_] sz3 rfl rfl rfl rfl rfl (Nat.le_of_ble_eq_true rfl) ?_
          refine rl_nil ?_
          refine at_block ?_
          refine at_then ?_
          refine ct_reg ?_
          refine rl_val gw_none (ov_move rfl) rfl ?_
          refine rl_val gw_none (ov_loadp 1 ag53 rfl rfl (vs := encRepair ⟨frame + 1 + vf1 - vf2 / 89, vw, vx, vro, vdu⟩) rfl rfl) rfl ?_
          refine rl_bslice Try.underlying37 ze53 sz53 rfl rfl rfl rfl rfl rfl (fun N11 => ?_)
          refine rl_appT (flat encRepair) ((flat_append _)) [_, _, _] (acc := xs) Try.underlying37 ze53 sz53 rfl rfl by53 rfl rfl rfl hsl ([(⟨frame + 1 + vf1 - vf2 / 89, vw, vx, vro, vdu⟩ : Repair)]) rfl (fun w1 hp => hp.sr1 0 rfl rfl (by decide)) (flat_one encRepair_one _) (by unfold maxLen; omega) (by omega) rfl (fun boq3 capq3 padq3 hsq3 => ?_)
          refine rl_val gw_none (ov_assign rfl) rfl ?_
          refine rl_nil ?_
          refine at_block ?_
          refine at_then ?_
          refine ct_reg ?_
          refine rl_val gw_none (ov_move rfl) rfl ?_
          refine rl_val gw_none (ov_sub rfl rfl (by omega)) rfl ?_
          refine rl_val gw_none (ov_assign rfl) rfl ?_
          refine rl_nil ?_
          exact at_backR (k - 1, (boq3, capq3, padq3, xs ++ [⟨frame + 1 + vf1 - vf2 / 89, vw, vx, vro, vdu⟩]), _, _, frame + 1 + vf1 - vf2 / 89) ⟨⟨hsq3, by simp; omega, gRep_snoc hG (show GRepair ⟨frame + 1 + vf1 - vf2 / 89, vw, vx, vro, vdu⟩ by unfold GRepair In64; dsimp only; omega)⟩, by simp; omega, by dsimp only; omega, by dsimp only; omega, by dsimp only; omega⟩ (by dsimp only; omega) (by (repeat' (first | exact Sub.nil | refine Sub.cons ?_ ?_)); all_goals (first | rfl | exact lkInt rfl (by dsimp only; omega))) (Sub.cons rfl (Sub.cons rfl (Sub.cons rfl Sub.nil))) (fun _ hp => (Hp.sub (Hp.pull (Hp.pull hp 3 rfl) 2 rfl) (List.sublist_append_left [_, _] _)))
        ·
          refine ct_seq ?_
          refine ct_reg ?_
          refine rl_val gw_none (ov_eql rfl rfl) rfl ?_
          refine rl_val gw_none (ov_assign rfl) rfl ?_
          refine rl_nil ?_
          refine at_then ?_
          first | refine ct_dec rfl (fun h5 => ?_) (fun h5 => ?_) | refine ct_ndec rfl (fun h5 => ?_) (fun h5 => ?_) | refine ct_eq rfl (fun h5 => ?_) (fun h5 => ?_) | refine ct_ne rfl (fun h5 => ?_) (fun h5 => ?_) | refine ct_not rfl (fun h5 => ?_) (fun h5 => ?_) | refine ct_cond rfl (fun h5 => ?_) (fun h5 => ?_)
          ·
            refine ct_reg ?_
            refine rl_val gw_none (ov_move rfl) rfl ?_
            refine rl_bslice Try.underlying34 ze3 sz3 rfl rfl rfl rfl rfl rfl (fun N12 => ?_)
            refine rl_calld (ι := (Int) × Int × Int) (fun j => .int .i64 j.1) [_, _] [_, _] (fun j => [(_, 84, [_, .int .i64 j.2.1, .int .u64 j.2.2])]) (fun j => ((-1000000) ≤ j.1 ∧ j.1 ≤ 1000000) ∧ _ ≤ j.2.1 ∧ j.2.1 ≤ _ + 2) gw_none goes76 rfl (fun _ hq => ((hq).pull 0 rfl).pull 1 rfl) (fun w1 hp h0 => among_c (-1000000) 1000000 _ _ _ _ _ _ _ _ _ _ _ _ h0 (hcd.call hp (by simp)) (by omega) (by first | rfl | decide | (simp [okIntsR]; done) | (simp [okIntsR]; omega) | (simp [okIntsR, Value.cells]; omega)) (by first | decide | (simp; done) | (simp; omega) | omega | (simp [Value.cells]; done) | (simp [Value.cells]; omega))) rfl (fun jx hjx => ?_)
            obtain ⟨vx, tx, sx⟩ := jx
            dsimp only at hjx
            try dsimp only
            refine rl_val gw_none (ov_field fo53_3 rfl) rfl ?_
            refine rl_store [_] sz3 rfl rfl rfl rfl rfl (Nat.le_of_ble_eq_true rfl) ?_
            refine rl_nil ?_
            refine at_block ?_
            refine at_then ?_
            refine ct_reg ?_
            refine rl_val gw_none (ov_move rfl) rfl ?_
            refine rl_val gw_none (ov_loadp 1 ag53 rfl rfl (vs := encRepair ⟨frame + 1 + vf1 - vf2 / 89, vw, vbe, vx, vdu⟩) rfl rfl) rfl ?_
            refine rl_bslice Try.underlying37 ze53 sz53 rfl rfl rfl rfl rfl rfl (fun N13 => ?_)
            refine rl_appT (flat encRepair) ((flat_append _)) [_, _, _] (acc := xs) Try.underlying37 ze53 sz53 rfl rfl by53 rfl rfl rfl hsl ([(⟨frame + 1 + vf1 - vf2 / 89, vw, vbe, vx, vdu⟩ : Repair)]) rfl (fun w1 hp => hp.sr1 0 rfl rfl (by decide)) (flat_one encRepair_one _) (by unfold maxLen; omega) (by omega) rfl (fun boq4 capq4 padq4 hsq4 => ?_)
            refine rl_val gw_none (ov_assign rfl) rfl ?_
            refine rl_nil ?_
            refine at_block ?_
            refine at_then ?_
            refine ct_reg ?_
            refine rl_val gw_none (ov_move rfl) rfl ?_
            refine rl_val gw_none (ov_sub rfl rfl (by omega)) rfl ?_
            refine rl_val gw_none (ov_assign rfl) rfl ?_
            refine rl_nil ?_
            exact at_backR (k - 1, (boq4, capq4, padq4, xs ++ [⟨frame + 1 + vf1 - vf2 / 89, vw, vbe, vx, vdu⟩]), _, _, frame + 1 + vf1 - vf2 / 89) ⟨⟨hsq4, by simp; omega, gRep_snoc hG (show GRepair ⟨frame + 1 + vf1 - vf2 / 89, vw, vbe, vx, vdu⟩ by unfold GRepair In64; dsimp only; omega)⟩, by simp; omega, by dsimp only; omega, by dsimp only; omega, by dsimp only; omega⟩ (by dsimp only; omega) (by (repeat' (first | exact Sub.nil | refine Sub.cons ?_ ?_)); all_goals (first | rfl | exact lkInt rfl (by dsimp only; omega))) (Sub.cons rfl (Sub.cons rfl (Sub.cons rfl Sub.nil))) (fun _ hp => (Hp.sub (Hp.pull (Hp.pull hp 3 rfl) 2 rfl) (List.sublist_append_left [_, _] _)))
          ·
            refine ct_seq ?_
            refine ct_reg ?_
            refine rl_val gw_none (ov_eql rfl rfl) rfl ?_
            refine rl_val gw_none (ov_assign rfl) rfl ?_
            refine rl_nil ?_
            refine at_then ?_
            first | refine ct_dec rfl (fun h6 => ?_) (fun h6 => ?_) | refine ct_ndec rfl (fun h6 => ?_) (fun h6 => ?_) | refine ct_eq rfl (fun h6 => ?_) (fun h6 => ?_) | refine ct_ne rfl (fun h6 => ?_) (fun h6 => ?_) | refine ct_not rfl (fun h6 => ?_) (fun h6 => ?_) | refine ct_cond rfl (fun h6 => ?_) (fun h6 => ?_)
            ·
              refine ct_reg ?_
              refine rl_val gw_none (ov_move rfl) rfl ?_
              refine rl_bslice Try.underlying34 ze3 sz3 rfl rfl rfl rfl rfl rfl (fun N14 => ?_)
              refine rl_calld (ι := (Int) × Int × Int) (fun j => .int .i64 j.1) [_, _] [_, _] (fun j => [(_, 84, [_, .int .i64 j.2.1, .int .u64 j.2.2])]) (fun j => ((-1000000) ≤ j.1 ∧ j.1 ≤ 1000000) ∧ _ ≤ j.2.1 ∧ j.2.1 ≤ _ + 2) gw_none goes76 rfl (fun _ hq => ((hq).pull 0 rfl).pull 1 rfl) (fun w1 hp h0 => among_c (-1000000) 1000000 _ _ _ _ _ _ _ _ _ _ _ _ h0 (hcd.call hp (by simp)) (by omega) (by first | rfl | decide | (simp [okIntsR]; done) | (simp [okIntsR]; omega) | (simp [okIntsR, Value.cells]; omega)) (by first | decide | (simp; done) | (simp; omega) | omega | (simp [Value.cells]; done) | (simp [Value.cells]; omega))) rfl (fun jx hjx => ?_)
              obtain ⟨vx, tx, sx⟩ := jx
              dsimp only at hjx
              try dsimp only
              refine rl_val gw_none (ov_field fo53_4 rfl) rfl ?_
              refine rl_store [_] sz3 rfl rfl rfl rfl rfl (Nat.le_of_ble_eq_true rfl) ?_
              refine rl_nil ?_
              refine at_block ?_
              refine at_then ?_
              refine ct_reg ?_
              refine rl_val gw_none (ov_move rfl) rfl ?_
              refine rl_val gw_none (ov_loadp 1 ag53 rfl rfl (vs := encRepair ⟨frame + 1 + vf1 - vf2 / 89, vw, vbe, vro, vx⟩) rfl rfl) rfl ?_
              refine rl_bslice Try.underlying37 ze53 sz53 rfl rfl rfl rfl rfl rfl (fun N15 => ?_)
              refine rl_appT (flat encRepair) ((flat_append _)) [_, _, _] (acc := xs) Try.underlying37 ze53 sz53 rfl rfl by53 rfl rfl rfl hsl ([(⟨frame + 1 + vf1 - vf2 / 89, vw, vbe, vro, vx⟩ : Repair)]) rfl (fun w1 hp => hp.sr1 0 rfl rfl (by decide)) (flat_one encRepair_one _) (by unfold maxLen; omega) (by omega) rfl (fun boq5 capq5 padq5 hsq5 => ?_)
              refine rl_val gw_none (ov_assign rfl) rfl ?_
              refine rl_nil ?_
              refine at_block ?_
              refine at_then ?_
              refine ct_reg ?_
              refine rl_val gw_none (ov_move rfl) rfl ?_
              refine rl_val gw_none (ov_sub rfl rfl (by omega)) rfl ?_
              refine rl_val gw_none (ov_assign rfl) rfl ?_
              refine rl_nil ?_
              exact at_backR (k - 1, (boq5, capq5, padq5, xs ++ [⟨frame + 1 + vf1 - vf2 / 89, vw, vbe, vro, vx⟩]), _, _, frame + 1 + vf1 - vf2 / 89) ⟨⟨hsq5, by simp; omega, gRep_snoc hG (show GRepair ⟨frame + 1 + vf1 - vf2 / 89, vw, vbe, vro, vx⟩ by unfold GRepair In64; dsimp only; omega)⟩, by simp; omega, by dsimp only; omega, by dsimp only; omega, by dsimp only; omega⟩ (by dsimp only; omega) (by (repeat' (first | exact Sub.nil | refine Sub.cons ?_ ?_)); all_goals (first | rfl | exact lkInt rfl (by dsimp only; omega))) (Sub.cons rfl (Sub.cons rfl (Sub.cons rfl Sub.nil))) (fun _ hp => (Hp.sub (Hp.pull (Hp.pull hp 3 rfl) 2 rfl) (List.sublist_append_left [_, _] _)))
            ·
              refine ct_skip ?_
              refine at_block ?_
              refine at_then ?_
              refine ct_reg ?_
              refine rl_val gw_none (ov_move rfl) rfl ?_
              refine rl_val gw_none (ov_loadp 1 ag53 rfl rfl (vs := encRepair ⟨frame + 1 + vf1 - vf2 / 89, vw, vbe, vro, vdu⟩) rfl rfl) rfl ?_
              refine rl_bslice Try.underlying37 ze53 sz53 rfl rfl rfl rfl rfl rfl (fun N16 => ?_)
              refine rl_appT (flat encRepair) ((flat_append _)) [_, _, _] (acc := xs) Try.underlying37 ze53 sz53 rfl rfl by53 rfl rfl rfl hsl ([(⟨frame + 1 + vf1 - vf2 / 89, vw, vbe, vro, vdu⟩ : Repair)]) rfl (fun w1 hp => hp.sr1 0 rfl rfl (by decide)) (flat_one encRepair_one _) (by unfold maxLen; omega) (by omega) rfl (fun boq6 capq6 padq6 hsq6 => ?_)
              refine rl_val gw_none (ov_assign rfl) rfl ?_
              refine rl_nil ?_
              refine at_block ?_
              refine at_then ?_
              refine ct_reg ?_
              refine rl_val gw_none (ov_move rfl) rfl ?_
              refine rl_val gw_none (ov_sub rfl rfl (by omega)) rfl ?_
              refine rl_val gw_none (ov_assign rfl) rfl ?_
              refine rl_nil ?_
              exact at_backR (k - 1, (boq6, capq6, padq6, xs ++ [⟨frame + 1 + vf1 - vf2 / 89, vw, vbe, vro, vdu⟩]), _, _, frame + 1 + vf1 - vf2 / 89) ⟨⟨hsq6, by simp; omega, gRep_snoc hG (show GRepair ⟨frame + 1 + vf1 - vf2 / 89, vw, vbe, vro, vdu⟩ by unfold GRepair In64; dsimp only; omega)⟩, by simp; omega, by dsimp only; omega, by dsimp only; omega, by dsimp only; omega⟩ (by dsimp only; omega) (by (repeat' (first | exact Sub.nil | refine Sub.cons ?_ ?_)); all_goals (first | rfl | exact lkInt rfl (by dsimp only; omega))) (Sub.cons rfl (Sub.cons rfl (Sub.cons rfl Sub.nil))) (fun _ hp => (Hp.sub (Hp.pull (Hp.pull hp 3 rfl) 2 rfl) (List.sublist_append_left [_, _] _)))
  ·
    refine ct_exit ?_
    refine at_then_exit ?_
    refine at_then_exit ?_
    refine at_block_hit ?_
    refine at_then ?_
    refine ct_seq ?_
    refine ct_seq ?_
    refine ct_reg ?_
    refine rl_val gw_none (ov_move rfl) rfl ?_
    refine rl_calld (ι := (Bool) × Int × Int) (fun j => .bool j.1) [_] [_] (fun j => [(_, 84, [_, .int .i64 j.2.1, .int .u64 j.2.2])]) (fun j => True ∧ _ ≤ j.2.1 ∧ j.2.1 ≤ _ + 2) gw_none goes92 rfl (fun _ hq => (hq).pull 0 rfl) (fun w1 hp h0 => one_c _ _ _ _ _ _ _ _ _ h0 (hcd.call hp (by simp)) (by omega) (by omega)) rfl (fun j36 hj36 => ?_)
    obtain ⟨v36, t36, s36⟩ := j36
    dsimp only at hj36
    try dsimp only
    refine rl_nil ?_
    refine at_then ?_
    first | refine ct_dec rfl (fun h7 => ?_) (fun h7 => ?_) | refine ct_ndec rfl (fun h7 => ?_) (fun h7 => ?_) | refine ct_eq rfl (fun h7 => ?_) (fun h7 => ?_) | refine ct_ne rfl (fun h7 => ?_) (fun h7 => ?_) | refine ct_not rfl (fun h7 => ?_) (fun h7 => ?_) | refine ct_cond rfl (fun h7 => ?_) (fun h7 => ?_)
    ·
      refine ct_seq ?_
      refine ct_reg ?_
      refine rl_bslice Try.underlying37 ze53 sz53 rfl rfl rfl rfl rfl rfl (fun N17 => ?_)
      refine rl_val gw_none (ov_assign rfl) rfl ?_
      refine rl_nil ?_
      refine at_then ?_
      refine ct_seq ?_
      refine ct_reg ?_
      refine rl_val gw_none (ov_assign rfl) rfl ?_
      refine rl_nil ?_
      refine at_then ?_
      refine ct_block ?_
      refine ct_loopR (ι := Nat × (Option Nat × Nat × List Value × List Repair) × Int × Int) (fun p1 => [(5, sv p1.2.1.1 p1.2.1.2.2.2.length p1.2.1.2.1), (9, .int .i64 p1.1)]) [(0, _), (4, _)] (fun p1 => [(some bc, 84, [.slice a lc capc, .int .i64 p1.2.2.1, .int .u64 p1.2.2.2]), (p1.2.1.1, 53, flat encRepair p1.2.1.2.2.2 ++ p1.2.1.2.2.1)]) (fun p1 => (Sl 5 p1.2.1.1 p1.2.1.2.2.2.length p1.2.1.2.1 (flat encRepair p1.2.1.2.2.2) p1.2.1.2.2.1 ∧ p1.2.1.2.2.2.length ≤ 11 ∧ (∀ y ∈ p1.2.1.2.2.2, GRepair y)) ∧ p1.2.1.2.2.2.length = p1.1 ∧ at_ ≤ p1.2.2.1 ∧ p1.2.2.1 ≤ at_ + 340 + 2 * p1.1) (fun p1 => 20 - p1.1) ((0, (some N17, 0, [], []), _, _)) (Sub.cons rfl (Sub.cons rfl Sub.nil)) (fun _ hp => (Hp.sub (Hp.pull (Hp.pull hp 0 rfl) 1 rfl) (List.sublist_append_left [_, _] _))) (by (repeat' (first | exact Sub.nil | refine Sub.cons ?_ ?_)); all_goals (first | rfl | exact lkInt rfl (by omega))) ⟨⟨Sl.lit rfl (Nat.zero_le _), by simp, fun y hy => by cases hy⟩, rfl, by dsimp only; omega, by dsimp only; omega⟩ (fun p1 hp1 => ?_)
      obtain ⟨q, ⟨bo2, cap2, pad2, ys⟩, at3, s3⟩ := p1
      obtain ⟨⟨hsl2, hy9, hG2⟩, hyq, hat3, hat4⟩ := hp1
      dsimp only at hsl2 hy9 hG2 hyq hat3 hat4 ⊢
      refine ct_seq ?_
      refine ct_seq ?_
      refine ct_reg ?_
      refine rl_val gw_none (ov_move rfl) rfl ?_
      refine rl_val gw_none (ov_move rfl) rfl ?_
      refine rl_calld (ι := (Int) × Int × Int) (fun j => .int .i64 j.1) [_] [_] (fun j => [(_, 84, [_, .int .i64 j.2.1, .int .u64 j.2.2])]) (fun j => (0 ≤ j.1 ∧ (j.1 < _ ∨ j.1 = 0)) ∧ _ ≤ j.2.1 ∧ j.2.1 ≤ _ + 2) gw_none goes77 rfl (fun _ hq => (hq).pull 0 rfl) (fun w1 hp h0 => pick_c _ _ _ _ _ _ _ _ _ h0 (hcd.call hp (by simp)) (by omega) (by omega)) rfl (fun j37 hj37 => ?_)
      obtain ⟨v37, t37, s37⟩ := j37
      dsimp only at hj37
      try dsimp only
      refine rl_val gw_none (ov_add rfl rfl (by omega)) rfl ?_
      refine rl_val gw_none (ov_lss rfl rfl) rfl ?_
      refine rl_nil ?_
      refine at_then ?_
      first | refine ct_dec rfl (fun h8 => ?_) (fun h8 => ?_) | refine ct_ndec rfl (fun h8 => ?_) (fun h8 => ?_) | refine ct_eq rfl (fun h8 => ?_) (fun h8 => ?_) | refine ct_ne rfl (fun h8 => ?_) (fun h8 => ?_) | refine ct_not rfl (fun h8 => ?_) (fun h8 => ?_) | refine ct_cond rfl (fun h8 => ?_) (fun h8 => ?_)
      ·
        refine ct_skip ?_
        refine at_then ?_
        refine ct_seq ?_
        refine ct_block ?_
        refine ct_reg ?_
        refine rl_val gw_none (ov_move rfl) rfl ?_
        refine rl_val gw_none (ov_move rfl) rfl ?_
        refine rl_val gw_none (ov_add rfl rfl (by omega)) rfl ?_
        refine rl_val gw_none (ov_build rfl (bu53_0_3_4 _ _ _)) rfl ?_
        refine rl_bslice Try.underlying37 ze53 sz53 rfl rfl rfl rfl rfl rfl (fun N18 => ?_)
        refine rl_appT (flat encRepair) ((flat_append _)) [_, _] (acc := ys) Try.underlying37 ze53 sz53 rfl rfl by53 rfl rfl rfl hsl2 ([(⟨(q : Int) + 1, 0, 0, 1, 5⟩ : Repair)]) rfl (fun w1 hp => hp.sr1 0 rfl rfl (by decide)) (flat_one encRepair_one _) (by unfold maxLen; omega) (by omega) rfl (fun boq7 capq7 padq7 hsq7 => ?_)
        refine rl_val gw_none (ov_assign rfl) rfl ?_
        refine rl_nil ?_
        refine at_block ?_
        refine at_then ?_
        refine ct_reg ?_
        refine rl_val gw_none (ov_move rfl) rfl ?_
        refine rl_val gw_none (ov_add rfl rfl (by omega)) rfl ?_
        refine rl_val gw_none (ov_assign rfl) rfl ?_
        refine rl_nil ?_
        exact at_backR (q + 1, (boq7, capq7, padq7, ys ++ [⟨(q : Int) + 1, 0, 0, 1, 5⟩]), _, _) ⟨⟨hsq7, by simp; omega, gRep_snoc hG2 (show GRepair ⟨(q : Int) + 1, 0, 0, 1, 5⟩ by unfold GRepair In64; dsimp only; omega)⟩, by simp; omega, by dsimp only; omega, by dsimp only; omega⟩ (by dsimp only; omega) (by (repeat' (first | exact Sub.nil | refine Sub.cons ?_ ?_)); all_goals (first | rfl | exact lkInt rfl (by omega))) (Sub.cons rfl (Sub.cons rfl Sub.nil)) (fun _ hp => (Hp.sub (Hp.pull (Hp.pull hp 2 rfl) 2 rfl) (List.sublist_append_left [_, _] _)))
      ·
        refine ct_exit ?_
        refine at_then_exit ?_
        refine at_then_exit ?_
        refine at_block_hit ?_
        refine at_then ?_
        refine ct_seq ?_
        refine ct_reg ?_
        refine rl_val gw_none (ov_move rfl) rfl ?_
        refine rl_val gw_none (ov_assign rfl) rfl ?_
        refine rl_nil ?_
        refine at_then ?_
        refine ct_ret ?_
        refine at_ret1 Try.results75 (ro_tmp rfl) (fun w1 hp => ?_)
        exact ⟨((bo2, cap2, pad2, ys), _, _), ⟨⟨hsl2, by dsimp only; omega, hG2⟩, by dsimp only; omega, by dsimp only; omega⟩, rfl, (Hp.sub (Hp.pull (Hp.pull hp 1 rfl) 1 rfl) (List.sublist_append_left [_, _] _))⟩
    ·
      refine ct_skip ?_
      refine at_then ?_
      refine ct_seq ?_
      refine ct_reg ?_
      refine rl_val gw_none (ov_move rfl) rfl ?_
      refine rl_val gw_none (ov_assign rfl) rfl ?_
      refine rl_nil ?_
      refine at_then ?_
      refine ct_ret ?_
      refine at_ret1 Try.results75 (ro_tmp rfl) (fun w1 hp => ?_)
      exact ⟨((bo, cap, pad, xs), _, _), ⟨⟨hsl, by dsimp only; omega, hG⟩, by dsimp only; omega, by dsimp only; omega⟩, rfl, (Hp.sub (Hp.pull (Hp.pull hp 1 rfl) 1 rfl) (List.sublist_append_left [_, _] _))⟩
end Go.Proofs.Ytaajkamfeaafpaa
