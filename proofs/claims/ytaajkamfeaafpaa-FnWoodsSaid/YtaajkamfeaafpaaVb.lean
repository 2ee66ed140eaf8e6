import Derived.Test.YtaajkamfeaafpaaVa
import Derived.Test.YtaajkamfeaafpaaTa
import Derived.Test.YtaajkamfeaafpaaTj
import Derived.KernelRfl
set_option linter.unusedVariables false
set_option linter.unusedSimpArgs false
namespace Go.Proofs.Ytaajkamfeaafpaa
open Go Go.RowKit K
theorem encWood_one (x : Wood) : ∀ u ∈ encWood x, u.oneCell' = true := list_one rfl

theorem gWood_snoc {xs : List Wood} {z : Wood} (h : ∀ y ∈ xs, GWood y) (hz : GWood z) : ∀ y ∈ xs ++ [z], GWood y := fun y hy => by
  rcases List.mem_append.1 hy with hy | hy
  · exact h y hy
  · obtain rfl := List.mem_singleton.1 hy; exact hz
theorem gWood_set {xs : List Wood} {z : Wood} (h : ∀ y ∈ xs, GWood y) (hz : GWood z) (k : Nat) : ∀ y ∈ xs.set k z, GWood y := fun y hy => by
  rcases List.mem_or_eq_of_mem_set hy with hy | rfl
  · exact h y hy
  · exact hz
theorem gWood_of {n : ByteArray} {h c : Int} (hn : n.size ≤ 1000) (hh : -1000000 ≤ h ∧ h ≤ 1000000) (hc : -1000000 ≤ c ∧ c ≤ 1000000) : GWood ⟨n, h, c⟩ := by unfold GWood maxLen In64; dsimp only; omega

theorem woods23_c (bc : Nat) (a : Option Addr) (lc capc : Nat) (at_ s : Int) (D : List Nat) (w : World) (h0 : Hp ⟨w, D⟩ [(some bc, 84, [.slice a lc capc, .int .i64 at_, .int .u64 s])] w) (hcd : CodeOk w D a lc) (hat : 0 ≤ at_ ∧ at_ ≤ 1000000000) : Calls Try.prog 74 ([.pointer (some ⟨bc, 0, none⟩)]).toArray w (fun e w' => ∃ j : (Option Nat × Nat × List Value × List Wood) × Int × Int, ((Sl 3 j.1.1 j.1.2.2.2.length j.1.2.1 (flat encWood j.1.2.2.2) j.1.2.2.1 ∧ j.1.2.2.2.length ≤ 10 ∧ (∀ y ∈ j.1.2.2.2, GWood y)) ∧ at_ ≤ j.2.1 ∧ j.2.1 ≤ at_ + 100) ∧ e = .returned (sv j.1.1 j.1.2.2.2.length j.1.2.1) ∧ Hp ⟨w, D⟩ [(some bc, 84, [.slice a lc capc, .int .i64 j.2.1, .int .u64 j.2.2]), (j.1.1, 67, flat encWood j.1.2.2.2 ++ j.1.2.2.1)] w') := by
  refine calls_ctds h0 Try.func74 Try.ntmps74 rfl rfl ?_
  refine ct_seq ?_
  refine ct_reg ?_
  refine rl_val gw_none (ov_assign rfl) rfl ?_
  refine rl_nil ?_
  refine at_then ?_
  refine ct_seq ?_
  refine ct_reg ?_
  refine rl_bslice Try.underlying25 ze67 sz67 rfl rfl rfl rfl rfl rfl (fun N1 => ?_)
  refine rl_val gw_none (ov_assign rfl) rfl ?_
  refine rl_nil ?_
  refine at_then ?_
  refine ct_seq ?_
  refine ct_reg ?_
  refine rl_bslice Try.underlying94 ze9 sz9 rfl rfl rfl rfl rfl rfl (fun N2 => ?_)
  refine rl_val gw_none (ov_assign rfl) rfl ?_
  refine rl_nil ?_
  refine at_then ?_
  refine ct_seq ?_
  refine ct_seq ?_
  refine ct_reg ?_
  refine rl_val gw_none (ov_assign rfl) rfl ?_
  refine rl_nil ?_
  refine at_then ?_
  refine ct_cutT (ι := (Option Nat × Nat × List Value × List Wood) × Int × Int) (fun q0 => [(3, sv q0.1.1 q0.1.2.2.2.length q0.1.2.1)]) [(0, _), (2, _)] (fun q0 => [(some bc, 84, [.slice a lc capc, .int .i64 q0.2.1, .int .u64 q0.2.2]), (q0.1.1, 67, flat encWood q0.1.2.2.2 ++ q0.1.2.2.1)]) (fun q0 => (Sl 3 q0.1.1 q0.1.2.2.2.length q0.1.2.1 (flat encWood q0.1.2.2.2) q0.1.2.2.1 ∧ q0.1.2.2.2.length ≤ 4 ∧ (∀ y ∈ q0.1.2.2.2, GWood y)) ∧ 1 ≤ q0.1.2.2.2.length ∧ at_ ≤ q0.2.1 ∧ q0.2.1 ≤ at_ + 42) (Sub.cons rfl (Sub.cons rfl Sub.nil)) ?_ (fun q0 hq0 => ?_)
  ·
    refine ct_block ?_
    refine ct_loopR (ι := Nat × (Option Nat × Nat × List Value × List Wood) × Int × Int) (fun p0 => [(3, sv p0.2.1.1 p0.2.1.2.2.2.length p0.2.1.2.1), (5, .int .i64 p0.1)]) [(0, _), (2, _), (4, _)] (fun p0 => [(some bc, 84, [.slice a lc capc, .int .i64 p0.2.2.1, .int .u64 p0.2.2.2]), (p0.2.1.1, 67, flat encWood p0.2.1.2.2.2 ++ p0.2.1.2.2.1), _]) (fun p0 => p0.1 ≤ 4 ∧ (Sl 3 p0.2.1.1 p0.2.1.2.2.2.length p0.2.1.2.1 (flat encWood p0.2.1.2.2.2) p0.2.1.2.2.1 ∧ p0.2.1.2.2.2.length ≤ 4 ∧ (∀ y ∈ p0.2.1.2.2.2, GWood y)) ∧ p0.2.1.2.2.2.length = p0.1 ∧ at_ ≤ p0.2.2.1 ∧ p0.2.2.1 ≤ at_ + 10 * p0.1) (fun p0 => 4 - p0.1) ((0, (some N1, 0, [], []), at_, s)) (Sub.cons rfl (Sub.cons rfl (Sub.cons rfl Sub.nil))) (fun _ hp => (Hp.sub (Hp.pull (Hp.pull (Hp.pull hp 0 rfl) 1 rfl) 2 rfl) (List.sublist_append_left [_, _, _] _))) (by (repeat' (first | exact Sub.nil | refine Sub.cons ?_ ?_)); all_goals (first | rfl | exact lkInt rfl (by omega))) ⟨Nat.zero_le _, ⟨Sl.lit rfl (Nat.zero_le _), by simp, fun y hy => by cases hy⟩, rfl, Int.le_refl _, by dsimp only; omega⟩ (fun p0 hp0 => ?_)
    obtain ⟨k, ⟨bo, cap, pad, xs⟩, at2, s2⟩ := p0
    obtain ⟨hk, ⟨hsl, hx4, hG⟩, hxl, hat1, hat2⟩ := hp0
    dsimp only at hk hsl hx4 hG hxl hat1 hat2 ⊢
    refine ct_seq ?_
    refine ct_seq ?_
    refine ct_reg ?_
    refine rl_val gw_none (ov_move rfl) rfl ?_
    refine rl_val gw_none (ov_move rfl) rfl ?_
    refine rl_val gw_none (ov_len Try.underlying94 rfl) rfl ?_
    refine rl_val gw_none (ov_lss rfl rfl) rfl ?_
    refine rl_val gw_none (ov_move rfl) rfl ?_
    refine rl_split (t := 14) rfl (fun g1 => ?_) (fun g1 => ?_)
    ·
      have hk4 : k < 4 := Int.ofNat_lt.1 (of_decide_eq_true g1)
      obtain ⟨sn, hsn, hsz⟩ := okStrs_at (L := [Value.string ⟨#[98, 105, 114, 99, 104]⟩, Value.string ⟨#[98, 111, 120]⟩, Value.string ⟨#[112, 108, 117, 109]⟩, Value.string ⟨#[114, 111, 115, 101, 119, 111, 111, 100]⟩]) rfl (show k < 4 from hk4)
      refine rl_val (gw_some rfl rfl g1) (ov_move rfl) rfl ?_
      refine rl_val (gw_some rfl rfl g1) (ov_eql rfl rfl) rfl ?_
      refine rl_val (gw_some rfl rfl g1) (ov_move rfl) rfl ?_
      refine rl_split (t := 17) rfl (fun g2 => ?_) (fun g2 => ?_)
      ·
        have hk0 : k = 0 := by simp at g2; omega
        refine rl_skip (gw_not rfl rfl g2) rfl ?_
        refine rl_skip (gw_not rfl rfl g2) rfl ?_
        refine rl_skip (gw_not rfl rfl g2) rfl ?_
        refine rl_val (gw_some rfl rfl g1) (ov_pick_t rfl g2 rfl) rfl ?_
        refine rl_val gw_none (ov_pick_t rfl g1 rfl) rfl ?_
        refine rl_nil ?_
        refine at_then ?_
        refine ct_true rfl rfl ?_
        refine ct_skip ?_
        refine at_then ?_
        refine ct_seq ?_
        refine ct_block ?_
        refine ct_fl 13 [0, 1, 2, 3, 4, 5, 8, 6, 7, 9, 10, 11, 12, 13, 14] ⟨7, [8, 10, 12], [8, 10], [7, 9], [], [4]⟩ (fun q => if q = 7 then (⟨3, [.int .i64 1, .int .i64 40, .int .i64 59, .int .i64 60, .int .i64 100], fun N => sv (some N) 5 5⟩ : Soft) else if q = 9 then (⟨3, [.int .i64 1, .int .i64 3, .int .i64 3, .int .i64 12, .int .i64 50], fun N => sv (some N) 5 5⟩ : Soft) else ⟨0, [], fun _ => undef⟩) (by kernel_rfl) (by kernel_rfl) ?_
        refine qf_step rfl ?_
        refine qg_val rfl gw_none (fun _ => (ov_move rfl)) rfl ?_
        refine qf_step rfl ?_
        refine qg_val rfl gw_none (fun _ => (ov_move rfl)) rfl ?_
        refine qf_step rfl ?_
        refine qg_val rfl gw_none (fun _ => (ov_move rfl)) rfl ?_
        refine qf_step rfl ?_
        first | refine qg_val rfl gw_none (fun _ => (ov_ix Try.underlying94 sz9 rfl rfl _ rfl (by omega))) rfl ?_ | refine qg_val rfl gw_none (fun _ => (ov_ix Try.underlying94 sz9 rfl rfl (k) (by omega) (by omega))) rfl ?_ | refine qg_val rfl gw_none (fun _ => (ov_ix Try.underlying94 sz9 rfl rfl (ki.toNat) (by omega) (by omega))) rfl ?_ | refine qg_val rfl gw_none (fun _ => (ov_ix Try.underlying94 sz9 rfl rfl (0) (by omega) (by omega))) rfl ?_
        refine qf_step rfl ?_
        first | refine qg_vall 2 rfl rfl rfl gw_none (ov_load 0 sc9 rfl rfl (atMul hsn)) rfl ?_
        refine qf_step rfl ?_
        refine qg_val rfl gw_none (fun _ => (ov_move rfl)) rfl ?_
        refine qf_step rfl ?_
        refine qg_val rfl gw_none (fun _ => (ov_move rfl)) rfl ?_
        refine qf_mark ⟨⟨0, rfl, soft_bslice rfl rfl Try.underlying34 ze3 sz3 rfl rfl rfl rfl rfl rfl rfl⟩, ⟨⟨2, rfl, soft_bslice rfl rfl Try.underlying34 ze3 sz3 rfl rfl rfl rfl rfl rfl rfl⟩, True.intro⟩⟩ ?_
        refine qg_soft rfl rfl rfl (fun N3 => ?_)
        refine qf_step rfl ?_
        refine qg_calld (ι := (Int) × Int × Int) (fun j => .int .i64 j.1) [_, _] [_, _] (fun j => [(_, 84, [_, .int .i64 j.2.1, .int .u64 j.2.2])]) (fun j => ((-1000000) ≤ j.1 ∧ j.1 ≤ 1000000) ∧ _ ≤ j.2.1 ∧ j.2.1 ≤ _ + 2) rfl rfl rfl (fun _ _ => ⟨⟨2, rfl⟩, True.intro⟩) goes76 rfl (fun _ _ hq => ((hq).pull 0 rfl).pull 1 rfl) (fun w1 hp h0 => among_c (-1000000) 1000000 _ _ _ _ _ _ _ _ _ _ _ _ h0 (hcd.call hp (by simp)) (by omega) (by first | rfl | decide | (simp [okIntsR]; done) | (simp [okIntsR]; omega) | (simp [okIntsR, Value.cells]; omega)) (by first | decide | (simp; done) | (simp; omega) | omega | (simp [Value.cells]; done) | (simp [Value.cells]; omega))) rfl (fun j8 hj8 => ?_)
        obtain ⟨v8, t8, s8⟩ := j8
        dsimp only at hj8
        try dsimp only
        refine qf_step rfl ?_
        refine qg_soft rfl rfl rfl (fun N4 => ?_)
        refine qf_step rfl ?_
        refine qg_calld (ι := (Int) × Int × Int) (fun j => .int .i64 j.1) [_, _] [_, _] (fun j => [(_, 84, [_, .int .i64 j.2.1, .int .u64 j.2.2])]) (fun j => ((-1000000) ≤ j.1 ∧ j.1 ≤ 1000000) ∧ _ ≤ j.2.1 ∧ j.2.1 ≤ _ + 2) rfl rfl rfl (fun _ _ => ⟨⟨2, rfl⟩, True.intro⟩) goes76 rfl (fun _ _ hq => ((hq).pull 0 rfl).pull 1 rfl) (fun w1 hp h0 => among_c (-1000000) 1000000 _ _ _ _ _ _ _ _ _ _ _ _ h0 (hcd.call hp (by simp)) (by omega) (by first | rfl | decide | (simp [okIntsR]; done) | (simp [okIntsR]; omega) | (simp [okIntsR, Value.cells]; omega)) (by first | decide | (simp; done) | (simp; omega) | omega | (simp [Value.cells]; done) | (simp [Value.cells]; omega))) rfl (fun j9 hj9 => ?_)
        obtain ⟨v9, t9, s9⟩ := j9
        dsimp only at hj9
        try dsimp only
        refine qf_step rfl ?_
        refine qg_val rfl gw_none (fun _ => (ov_build rfl (bu67_0_1_2 _ _ _))) rfl ?_
        refine qf_step rfl ?_
        refine qg_bslice rfl rfl rfl Try.underlying25 ze67 sz67 rfl rfl rfl rfl rfl rfl (fun N5 => ?_)
        refine qf_nil ?_
        refine rl_appT (flat encWood) ((flat_append _)) [_, _] (acc := xs) Try.underlying25 ze67 sz67 rfl rfl by67 rfl rfl rfl hsl ([(⟨sn, v8, v9⟩ : Wood)]) rfl (fun w1 hp => hp.sr1 0 rfl rfl (by decide)) (flat_one encWood_one _) (by unfold maxLen; omega) (by omega) rfl (fun boq1 capq1 padq1 hsq1 => ?_)
        refine rl_val gw_none (ov_assign rfl) rfl ?_
        refine rl_nil ?_
        refine at_block ?_
        refine at_then ?_
        refine ct_reg ?_
        refine rl_val gw_none (ov_move rfl) rfl ?_
        refine rl_val gw_none (ov_add rfl rfl (by omega)) rfl ?_
        refine rl_val gw_none (ov_assign rfl) rfl ?_
        refine rl_nil ?_
        exact at_backR (k + 1, (boq1, capq1, padq1, xs ++ [⟨sn, v8, v9⟩]), _, _) ⟨by dsimp only; omega, ⟨hsq1, by simp; omega, gWood_snoc hG (gWood_of (n := sn) (h := v8) (c := v9) hsz (by omega) (by omega))⟩, by simp; omega, by dsimp only; omega, by dsimp only; omega⟩ (by dsimp only; omega) (by (repeat' (first | exact Sub.nil | refine Sub.cons ?_ ?_)); all_goals (first | rfl | exact lkInt rfl (by omega))) (Sub.cons rfl (Sub.cons rfl (Sub.cons rfl Sub.nil))) (fun _ hp => (Hp.sub (Hp.pull (Hp.pull (Hp.pull hp 3 rfl) 3 rfl) 3 rfl) (List.sublist_append_left [_, _, _] _)))
      ·
        have hk0 : k ≠ 0 := by simp at g2; omega
        refine rl_val (gw_some rfl rfl g2) (ov_move rfl) rfl ?_
        refine rl_calld (ι := (Bool) × Int × Int) (fun j => .bool j.1) [_] [_, _] (fun j => [(_, 84, [_, .int .i64 j.2.1, .int .u64 j.2.2])]) (fun j => True ∧ _ ≤ j.2.1 ∧ j.2.1 ≤ _ + 2) (gw_some rfl rfl g2) goes92 rfl (fun _ hq => (hq).pull 0 rfl) (fun w1 hp h0 => one_c _ _ _ _ _ _ _ _ _ h0 (hcd.call hp (by simp)) (by omega) (by omega)) rfl (fun j10 hj10 => ?_)
        obtain ⟨v10, t10, s10⟩ := j10
        dsimp only at hj10
        try dsimp only
        refine rl_val (gw_some rfl rfl g2) (ov_not rfl) rfl ?_
        refine rl_val (gw_some rfl rfl g1) (ov_pick_f rfl g2 rfl) rfl ?_
        refine rl_val gw_none (ov_pick_t rfl g1 rfl) rfl ?_
        refine rl_nil ?_
        refine at_then ?_
        first | refine ct_dec rfl (fun h1 => ?_) (fun h1 => ?_) | refine ct_ndec rfl (fun h1 => ?_) (fun h1 => ?_) | refine ct_eq rfl (fun h1 => ?_) (fun h1 => ?_) | refine ct_ne rfl (fun h1 => ?_) (fun h1 => ?_) | refine ct_not rfl (fun h1 => ?_) (fun h1 => ?_) | refine ct_cond rfl (fun h1 => ?_) (fun h1 => ?_)
        ·
          refine ct_skip ?_
          refine at_then ?_
          refine ct_seq ?_
          refine ct_block ?_
          refine ct_fl 13 [0, 1, 2, 3, 4, 5, 8, 6, 7, 9, 10, 11, 12, 13, 14] ⟨7, [8, 10, 12], [8, 10], [7, 9], [], [4]⟩ (fun q => if q = 7 then (⟨3, [.int .i64 1, .int .i64 40, .int .i64 59, .int .i64 60, .int .i64 100], fun N => sv (some N) 5 5⟩ : Soft) else if q = 9 then (⟨3, [.int .i64 1, .int .i64 3, .int .i64 3, .int .i64 12, .int .i64 50], fun N => sv (some N) 5 5⟩ : Soft) else ⟨0, [], fun _ => undef⟩) (by kernel_rfl) (by kernel_rfl) ?_
          refine qf_step rfl ?_
          refine qg_val rfl gw_none (fun _ => (ov_move rfl)) rfl ?_
          refine qf_step rfl ?_
          refine qg_val rfl gw_none (fun _ => (ov_move rfl)) rfl ?_
          refine qf_step rfl ?_
          refine qg_val rfl gw_none (fun _ => (ov_move rfl)) rfl ?_
          refine qf_step rfl ?_
          first | refine qg_val rfl gw_none (fun _ => (ov_ix Try.underlying94 sz9 rfl rfl _ rfl (by omega))) rfl ?_ | refine qg_val rfl gw_none (fun _ => (ov_ix Try.underlying94 sz9 rfl rfl (k) (by omega) (by omega))) rfl ?_ | refine qg_val rfl gw_none (fun _ => (ov_ix Try.underlying94 sz9 rfl rfl (ki.toNat) (by omega) (by omega))) rfl ?_ | refine qg_val rfl gw_none (fun _ => (ov_ix Try.underlying94 sz9 rfl rfl (0) (by omega) (by omega))) rfl ?_
          refine qf_step rfl ?_
          first | refine qg_vall 2 rfl rfl rfl gw_none (ov_load 0 sc9 rfl rfl (atMul hsn)) rfl ?_
          refine qf_step rfl ?_
          refine qg_val rfl gw_none (fun _ => (ov_move rfl)) rfl ?_
          refine qf_step rfl ?_
          refine qg_val rfl gw_none (fun _ => (ov_move rfl)) rfl ?_
          refine qf_mark ⟨⟨0, rfl, soft_bslice rfl rfl Try.underlying34 ze3 sz3 rfl rfl rfl rfl rfl rfl rfl⟩, ⟨⟨2, rfl, soft_bslice rfl rfl Try.underlying34 ze3 sz3 rfl rfl rfl rfl rfl rfl rfl⟩, True.intro⟩⟩ ?_
          refine qg_soft rfl rfl rfl (fun N6 => ?_)
          refine qf_step rfl ?_
          refine qg_calld (ι := (Int) × Int × Int) (fun j => .int .i64 j.1) [_, _] [_, _] (fun j => [(_, 84, [_, .int .i64 j.2.1, .int .u64 j.2.2])]) (fun j => ((-1000000) ≤ j.1 ∧ j.1 ≤ 1000000) ∧ _ ≤ j.2.1 ∧ j.2.1 ≤ _ + 2) rfl rfl rfl (fun _ _ => ⟨⟨2, rfl⟩, True.intro⟩) goes76 rfl (fun _ _ hq => ((hq).pull 0 rfl).pull 1 rfl) (fun w1 hp h0 => among_c (-1000000) 1000000 _ _ _ _ _ _ _ _ _ _ _ _ h0 (hcd.call hp (by simp)) (by omega) (by first | rfl | decide | (simp [okIntsR]; done) | (simp [okIntsR]; omega) | (simp [okIntsR, Value.cells]; omega)) (by first | decide | (simp; done) | (simp; omega) | omega | (simp [Value.cells]; done) | (simp [Value.cells]; omega))) rfl (fun j15 hj15 => ?_)
          obtain ⟨v15, t15, s15⟩ := j15
          dsimp only at hj15
          try dsimp only
          refine qf_step rfl ?_
          refine qg_soft rfl rfl rfl (fun N7 => ?_)
          refine qf_step rfl ?_
          refine qg_calld (ι := (Int) × Int × Int) (fun j => .int .i64 j.1) [_, _] [_, _] (fun j => [(_, 84, [_, .int .i64 j.2.1, .int .u64 j.2.2])]) (fun j => ((-1000000) ≤ j.1 ∧ j.1 ≤ 1000000) ∧ _ ≤ j.2.1 ∧ j.2.1 ≤ _ + 2) rfl rfl rfl (fun _ _ => ⟨⟨2, rfl⟩, True.intro⟩) goes76 rfl (fun _ _ hq => ((hq).pull 0 rfl).pull 1 rfl) (fun w1 hp h0 => among_c (-1000000) 1000000 _ _ _ _ _ _ _ _ _ _ _ _ h0 (hcd.call hp (by simp)) (by omega) (by first | rfl | decide | (simp [okIntsR]; done) | (simp [okIntsR]; omega) | (simp [okIntsR, Value.cells]; omega)) (by first | decide | (simp; done) | (simp; omega) | omega | (simp [Value.cells]; done) | (simp [Value.cells]; omega))) rfl (fun j16 hj16 => ?_)
          obtain ⟨v16, t16, s16⟩ := j16
          dsimp only at hj16
          try dsimp only
          refine qf_step rfl ?_
          refine qg_val rfl gw_none (fun _ => (ov_build rfl (bu67_0_1_2 _ _ _))) rfl ?_
          refine qf_step rfl ?_
          refine qg_bslice rfl rfl rfl Try.underlying25 ze67 sz67 rfl rfl rfl rfl rfl rfl (fun N8 => ?_)
          refine qf_nil ?_
          refine rl_appT (flat encWood) ((flat_append _)) [_, _] (acc := xs) Try.underlying25 ze67 sz67 rfl rfl by67 rfl rfl rfl hsl ([(⟨sn, v15, v16⟩ : Wood)]) rfl (fun w1 hp => hp.sr1 0 rfl rfl (by decide)) (flat_one encWood_one _) (by unfold maxLen; omega) (by omega) rfl (fun boq2 capq2 padq2 hsq2 => ?_)
          refine rl_val gw_none (ov_assign rfl) rfl ?_
          refine rl_nil ?_
          refine at_block ?_
          refine at_then ?_
          refine ct_reg ?_
          refine rl_val gw_none (ov_move rfl) rfl ?_
          refine rl_val gw_none (ov_add rfl rfl (by omega)) rfl ?_
          refine rl_val gw_none (ov_assign rfl) rfl ?_
          refine rl_nil ?_
          exact at_backR (k + 1, (boq2, capq2, padq2, xs ++ [⟨sn, v15, v16⟩]), _, _) ⟨by dsimp only; omega, ⟨hsq2, by simp; omega, gWood_snoc hG (gWood_of (n := sn) (h := v15) (c := v16) hsz (by omega) (by omega))⟩, by simp; omega, by dsimp only; omega, by dsimp only; omega⟩ (by dsimp only; omega) (by (repeat' (first | exact Sub.nil | refine Sub.cons ?_ ?_)); all_goals (first | rfl | exact lkInt rfl (by omega))) (Sub.cons rfl (Sub.cons rfl (Sub.cons rfl Sub.nil))) (fun _ hp => (Hp.sub (Hp.pull (Hp.pull (Hp.pull hp 3 rfl) 3 rfl) 3 rfl) (List.sublist_append_left [_, _, _] _)))
        ·
          refine ct_exit ?_
          refine at_then_exit ?_
          refine at_then_exit ?_
          refine at_block_hit ?_
          exact at_handR ((bo, cap, pad, xs), _, _) ⟨⟨hsl, hx4, hG⟩, by dsimp only; omega, by dsimp only; omega, by dsimp only; omega⟩ (by (repeat' (first | exact Sub.nil | refine Sub.cons ?_ ?_)); all_goals (first | rfl | exact lkInt rfl (by omega))) (Sub.cons rfl (Sub.cons rfl Sub.nil)) (fun _ hp => (Hp.sub (Hp.pull (Hp.pull hp 1 rfl) 1 rfl) (List.sublist_append_left [_, _] _)))
    ·
      have hk4 : k = 4 := by have h6 := of_decide_eq_false g1; have h5 : ¬ k < 4 := fun h => h6 (Int.ofNat_lt.2 h); omega
      refine rl_skip (gw_not rfl rfl g1) rfl ?_
      refine rl_skip (gw_not rfl rfl g1) rfl ?_
      refine rl_skip (gw_not rfl rfl g1) rfl ?_
      refine rl_skip (gw_undef rfl rfl) rfl ?_
      refine rl_skip (gw_undef rfl rfl) rfl ?_
      refine rl_skip (gw_undef rfl rfl) rfl ?_
      refine rl_skip (gw_not rfl rfl g1) rfl ?_
      refine rl_val gw_none (ov_pick_f rfl g1 rfl) rfl ?_
      refine rl_nil ?_
      refine at_then ?_
      refine ct_false rfl rfl ?_
      refine ct_exit ?_
      refine at_then_exit ?_
      refine at_then_exit ?_
      refine at_block_hit ?_
      exact at_handR ((bo, cap, pad, xs), _, _) ⟨⟨hsl, hx4, hG⟩, by dsimp only; omega, by dsimp only; omega, by dsimp only; omega⟩ (by (repeat' (first | exact Sub.nil | refine Sub.cons ?_ ?_)); all_goals (first | rfl | exact lkInt rfl (by omega))) (Sub.cons rfl (Sub.cons rfl Sub.nil)) (fun _ hp => (Hp.sub (Hp.pull (Hp.pull hp 1 rfl) 1 rfl) (List.sublist_append_left [_, _] _)))
  ·
    obtain ⟨⟨bo, cap, pad, xs⟩, at2, s2⟩ := q0
    obtain ⟨⟨hsl, hx4, hG⟩, hx1, hat1, hat2⟩ := hq0
    dsimp only at hsl hx4 hG hx1 hat1 hat2 ⊢
    refine ct_seq ?_
    refine ct_reg ?_
    refine rl_val gw_none (ov_move rfl) rfl ?_
    refine rl_val gw_none (ov_move rfl) rfl ?_
    refine rl_val gw_none (ov_len Try.underlying25 rfl) rfl ?_
    refine rl_calld (ι := (Int) × Int × Int) (fun j => .int .i64 j.1) [_] [_] (fun j => [(_, 84, [_, .int .i64 j.2.1, .int .u64 j.2.2])]) (fun j => (0 ≤ j.1 ∧ (j.1 < _ ∨ j.1 = 0)) ∧ _ ≤ j.2.1 ∧ j.2.1 ≤ _ + 2) gw_none goes77 rfl (fun _ hq => (hq).pull 0 rfl) (fun w1 hp h0 => pick_c _ _ _ _ _ _ _ _ _ h0 (hcd.call hp (by simp)) (by omega) (by omega)) rfl (fun j0 hj0 => ?_)
    obtain ⟨ki, t0, s0⟩ := j0
    dsimp only at hj0
    try dsimp only
    have hki : ki.toNat < xs.length := by omega
    obtain ⟨b0, rfl⟩ := slSomeG hsl (by omega)
    have hr := getLt hki
    have hGr := hG _ (List.getElem_mem hki)
    generalize xs[ki.toNat] = r at *
    refine rl_val gw_none (ov_assign rfl) rfl ?_
    refine rl_nil ?_
    refine at_then ?_
    refine ct_seq ?_
    refine ct_reg ?_
    refine rl_val gw_none (ov_move rfl) rfl ?_
    refine rl_val gw_none (ov_move rfl) rfl ?_
    first | refine rl_val gw_none (ov_ix Try.underlying25 sz67 rfl rfl _ rfl (by omega)) rfl ?_ | refine rl_val gw_none (ov_ix Try.underlying25 sz67 rfl rfl (k) (by omega) (by omega)) rfl ?_ | refine rl_val gw_none (ov_ix Try.underlying25 sz67 rfl rfl (ki.toNat) (by omega) (by omega)) rfl ?_ | refine rl_val gw_none (ov_ix Try.underlying25 sz67 rfl rfl (0) (by omega) (by omega)) rfl ?_
    refine rl_val gw_none (ov_loada 1 ag67 rfl rfl (vs := encWood r) rfl (flatCells encWood_len hr _)) rfl ?_
    refine rl_alloc ze67 rfl (fun N9 => ?_)
    refine rl_store [] sz67 rfl rfl rfl rfl rfl (Nat.le_of_ble_eq_true rfl) ?_
    refine rl_nil ?_
    refine at_then ?_
    refine ct_seq ?_
    refine ct_seq ?_
    refine ct_reg ?_
    refine rl_val gw_none (ov_move rfl) rfl ?_
    refine rl_calld (ι := (Int) × Int × Int) (fun j => .int .i64 j.1) [_] [_, _] (fun j => [(_, 84, [_, .int .i64 j.2.1, .int .u64 j.2.2])]) (fun j => (0 ≤ j.1 ∧ (j.1 < _ ∨ j.1 = 0)) ∧ _ ≤ j.2.1 ∧ j.2.1 ≤ _ + 2) gw_none goes77 rfl (fun _ hq => (hq).pull 1 rfl) (fun w1 hp h0 => pick_c _ _ _ _ _ _ _ _ _ h0 (hcd.call hp (by simp)) (by omega) (by omega)) rfl (fun j18 hj18 => ?_)
    obtain ⟨v18, t18, s18⟩ := j18
    dsimp only at hj18
    try dsimp only
    refine rl_nil ?_
    refine at_then ?_
    refine ct_block ?_
    refine ct_seq ?_
    refine ct_reg ?_
    refine rl_val gw_none (ov_eql rfl rfl) rfl ?_
    refine rl_val gw_none (ov_assign rfl) rfl ?_
    refine rl_nil ?_
    refine at_then ?_
    first | refine ct_dec rfl (fun h2 => ?_) (fun h2 => ?_) | refine ct_ndec rfl (fun h2 => ?_) (fun h2 => ?_) | refine ct_eq rfl (fun h2 => ?_) (fun h2 => ?_) | refine ct_ne rfl (fun h2 => ?_) (fun h2 => ?_) | refine ct_not rfl (fun h2 => ?_) (fun h2 => ?_) | refine ct_cond rfl (fun h2 => ?_) (fun h2 => ?_)
    ·
      refine ct_reg ?_
      refine rl_val gw_none (ov_move rfl) rfl ?_
      refine rl_bslice Try.underlying94 ze9 sz9 rfl rfl rfl rfl rfl rfl (fun N10 => ?_)
      refine rl_calld (ι := (ByteArray) × Int × Int) (fun j => .string j.1) [_, _] [_, _] (fun j => [(_, 84, [_, .int .i64 j.2.1, .int .u64 j.2.2])]) (fun j => (j.1.size ≤ 1000) ∧ _ ≤ j.2.1 ∧ j.2.1 ≤ _ + 2) gw_none goes93 rfl (fun _ hq => ((hq).pull 0 rfl).pull 1 rfl) (fun w1 hp h0 => of_c _ _ _ _ _ _ _ _ _ _ _ _ h0 (hcd.call hp (by simp)) (by omega) (by first | rfl | decide) (by first | decide | omega)) rfl (fun j19 hj19 => ?_)
      obtain ⟨v19, t19, s19⟩ := j19
      dsimp only at hj19
      try dsimp only
      refine rl_val gw_none (ov_field fo67_0 rfl) rfl ?_
      refine rl_store [_] sz9 rfl rfl rfl rfl rfl (Nat.le_of_ble_eq_true rfl) ?_
      refine rl_nil ?_
      refine at_block ?_
      refine at_then ?_
      refine ct_seq ?_
      refine ct_reg ?_
      refine rl_val gw_none (ov_move rfl) rfl ?_
      refine rl_val gw_none (ov_move rfl) rfl ?_
      refine rl_val gw_none (ov_loadp 1 ag67 rfl rfl (vs := encWood ⟨v19, r.hard, r.cost⟩) rfl rfl) rfl ?_
      first | refine rl_val gw_none (ov_ix Try.underlying25 sz67 rfl rfl _ rfl (by omega)) rfl ?_ | refine rl_val gw_none (ov_ix Try.underlying25 sz67 rfl rfl (k) (by omega) (by omega)) rfl ?_ | refine rl_val gw_none (ov_ix Try.underlying25 sz67 rfl rfl (ki.toNat) (by omega) (by omega)) rfl ?_ | refine rl_val gw_none (ov_ix Try.underlying25 sz67 rfl rfl (0) (by omega) (by omega)) rfl ?_
      refine rl_store [_, _] sz67 rfl rfl rfl rfl rfl (by rw [List.length_append, flat_length encWood_len]; omega) ?_
      refine rl_mem (fun _ hq => hq.cong (congrArg (fun x => _ :: _ :: (_, _, x) :: _) (flatPutG encWood_len (x := ⟨v19, r.hard, r.cost⟩) _ hki))) ?_
      refine rl_nil ?_
      refine at_then ?_
      refine ct_seq ?_
      refine ct_reg ?_
      refine rl_val gw_none (ov_move rfl) rfl ?_
      refine rl_val gw_none (ov_assign rfl) rfl ?_
      refine rl_nil ?_
      refine at_then ?_
      refine ct_ret ?_
      refine at_ret1 Try.results74 (ro_tmp rfl) (fun w1 hp => ?_)
      exact ⟨((some b0, cap, pad, xs.set ki.toNat ⟨v19, r.hard, r.cost⟩), _, _), ⟨⟨slSameG encWood_len hsl (by simp), by simp; omega, gWood_set hG (show GWood ⟨v19, r.hard, r.cost⟩ by have hq := hGr; unfold GWood maxLen In64 at hq ⊢; dsimp only; omega) _⟩, by dsimp only; omega, by dsimp only; omega⟩, by dsimp only; rw [List.length_set], (Hp.sub (Hp.pull (Hp.pull hp 2 rfl) 1 rfl) (List.sublist_append_left [_, _] _))⟩
    ·
      refine ct_seq ?_
      refine ct_reg ?_
      refine rl_val gw_none (ov_eql rfl rfl) rfl ?_
      refine rl_val gw_none (ov_assign rfl) rfl ?_
      refine rl_nil ?_
      refine at_then ?_
      first | refine ct_dec rfl (fun h3 => ?_) (fun h3 => ?_) | refine ct_ndec rfl (fun h3 => ?_) (fun h3 => ?_) | refine ct_eq rfl (fun h3 => ?_) (fun h3 => ?_) | refine ct_ne rfl (fun h3 => ?_) (fun h3 => ?_) | refine ct_not rfl (fun h3 => ?_) (fun h3 => ?_) | refine ct_cond rfl (fun h3 => ?_) (fun h3 => ?_)
      ·
        refine ct_reg ?_
        refine rl_val gw_none (ov_move rfl) rfl ?_
        refine rl_bslice Try.underlying34 ze3 sz3 rfl rfl rfl rfl rfl rfl (fun N11 => ?_)
        refine rl_calld (ι := (Int) × Int × Int) (fun j => .int .i64 j.1) [_, _] [_, _] (fun j => [(_, 84, [_, .int .i64 j.2.1, .int .u64 j.2.2])]) (fun j => ((-1000000) ≤ j.1 ∧ j.1 ≤ 1000000) ∧ _ ≤ j.2.1 ∧ j.2.1 ≤ _ + 2) gw_none goes76 rfl (fun _ hq => ((hq).pull 0 rfl).pull 1 rfl) (fun w1 hp h0 => among_c (-1000000) 1000000 _ _ _ _ _ _ _ _ _ _ _ _ h0 (hcd.call hp (by simp)) (by omega) (by first | rfl | decide | (simp [okIntsR]; done) | (simp [okIntsR]; omega) | (simp [okIntsR, Value.cells]; omega)) (by first | decide | (simp; done) | (simp; omega) | omega | (simp [Value.cells]; done) | (simp [Value.cells]; omega))) rfl (fun j20 hj20 => ?_)
        obtain ⟨v20, t20, s20⟩ := j20
        dsimp only at hj20
        try dsimp only
        refine rl_val gw_none (ov_field fo67_1 rfl) rfl ?_
        refine rl_store [_] sz3 rfl rfl rfl rfl rfl (Nat.le_of_ble_eq_true rfl) ?_
        refine rl_nil ?_
        refine at_block ?_
        refine at_then ?_
        refine ct_seq ?_
        refine ct_reg ?_
        refine rl_val gw_none (ov_move rfl) rfl ?_
        refine rl_val gw_none (ov_move rfl) rfl ?_
        refine rl_val gw_none (ov_loadp 1 ag67 rfl rfl (vs := encWood ⟨r.name, v20, r.cost⟩) rfl rfl) rfl ?_
        first | refine rl_val gw_none (ov_ix Try.underlying25 sz67 rfl rfl _ rfl (by omega)) rfl ?_ | refine rl_val gw_none (ov_ix Try.underlying25 sz67 rfl rfl (k) (by omega) (by omega)) rfl ?_ | refine rl_val gw_none (ov_ix Try.underlying25 sz67 rfl rfl (ki.toNat) (by omega) (by omega)) rfl ?_ | refine rl_val gw_none (ov_ix Try.underlying25 sz67 rfl rfl (0) (by omega) (by omega)) rfl ?_
        refine rl_store [_, _] sz67 rfl rfl rfl rfl rfl (by rw [List.length_append, flat_length encWood_len]; omega) ?_
        refine rl_mem (fun _ hq => hq.cong (congrArg (fun x => _ :: _ :: (_, _, x) :: _) (flatPutG encWood_len (x := ⟨r.name, v20, r.cost⟩) _ hki))) ?_
        refine rl_nil ?_
        refine at_then ?_
        refine ct_seq ?_
        refine ct_reg ?_
        refine rl_val gw_none (ov_move rfl) rfl ?_
        refine rl_val gw_none (ov_assign rfl) rfl ?_
        refine rl_nil ?_
        refine at_then ?_
        refine ct_ret ?_
        refine at_ret1 Try.results74 (ro_tmp rfl) (fun w1 hp => ?_)
        exact ⟨((some b0, cap, pad, xs.set ki.toNat ⟨r.name, v20, r.cost⟩), _, _), ⟨⟨slSameG encWood_len hsl (by simp), by simp; omega, gWood_set hG (show GWood ⟨r.name, v20, r.cost⟩ by have hq := hGr; unfold GWood maxLen In64 at hq ⊢; dsimp only; omega) _⟩, by dsimp only; omega, by dsimp only; omega⟩, by dsimp only; rw [List.length_set], (Hp.sub (Hp.pull (Hp.pull hp 2 rfl) 1 rfl) (List.sublist_append_left [_, _] _))⟩
      ·
        refine ct_seq ?_
        refine ct_reg ?_
        refine rl_val gw_none (ov_eql rfl rfl) rfl ?_
        refine rl_val gw_none (ov_assign rfl) rfl ?_
        refine rl_nil ?_
        refine at_then ?_
        first | refine ct_dec rfl (fun h4 => ?_) (fun h4 => ?_) | refine ct_ndec rfl (fun h4 => ?_) (fun h4 => ?_) | refine ct_eq rfl (fun h4 => ?_) (fun h4 => ?_) | refine ct_ne rfl (fun h4 => ?_) (fun h4 => ?_) | refine ct_not rfl (fun h4 => ?_) (fun h4 => ?_) | refine ct_cond rfl (fun h4 => ?_) (fun h4 => ?_)
        ·
          refine ct_reg ?_
          refine rl_val gw_none (ov_move rfl) rfl ?_
          refine rl_bslice Try.underlying34 ze3 sz3 rfl rfl rfl rfl rfl rfl (fun N12 => ?_)
          refine rl_calld (ι := (Int) × Int × Int) (fun j => .int .i64 j.1) [_, _] [_, _] (fun j => [(_, 84, [_, .int .i64 j.2.1, .int .u64 j.2.2])]) (fun j => ((-1000000) ≤ j.1 ∧ j.1 ≤ 1000000) ∧ _ ≤ j.2.1 ∧ j.2.1 ≤ _ + 2) gw_none goes76 rfl (fun _ hq => ((hq).pull 0 rfl).pull 1 rfl) (fun w1 hp h0 => among_c (-1000000) 1000000 _ _ _ _ _ _ _ _ _ _ _ _ h0 (hcd.call hp (by simp)) (by omega) (by first | rfl | decide | (simp [okIntsR]; done) | (simp [okIntsR]; omega) | (simp [okIntsR, Value.cells]; omega)) (by first | decide | (simp; done) | (simp; omega) | omega | (simp [Value.cells]; done) | (simp [Value.cells]; omega))) rfl (fun j21 hj21 => ?_)
          obtain ⟨v21, t21, s21⟩ := j21
          dsimp only at hj21
          try dsimp only
          refine rl_val gw_none (ov_field fo67_2 rfl) rfl ?_
          refine rl_store [_] sz3 rfl rfl rfl rfl rfl (Nat.le_of_ble_eq_true rfl) ?_
          refine rl_nil ?_
          refine at_block ?_
          refine at_then ?_
          refine ct_seq ?_
          refine ct_reg ?_
          refine rl_val gw_none (ov_move rfl) rfl ?_
          refine rl_val gw_none (ov_move rfl) rfl ?_
          refine rl_val gw_none (ov_loadp 1 ag67 rfl rfl (vs := encWood ⟨r.name, r.hard, v21⟩) rfl rfl) rfl ?_
          first | refine rl_val gw_none (ov_ix Try.underlying25 sz67 rfl rfl _ rfl (by omega)) rfl ?_ | refine rl_val gw_none (ov_ix Try.underlying25 sz67 rfl rfl (k) (by omega) (by omega)) rfl ?_ | refine rl_val gw_none (ov_ix Try.underlying25 sz67 rfl rfl (ki.toNat) (by omega) (by omega)) rfl ?_ | refine rl_val gw_none (ov_ix Try.underlying25 sz67 rfl rfl (0) (by omega) (by omega)) rfl ?_
          refine rl_store [_, _] sz67 rfl rfl rfl rfl rfl (by rw [List.length_append, flat_length encWood_len]; omega) ?_
          refine rl_mem (fun _ hq => hq.cong (congrArg (fun x => _ :: _ :: (_, _, x) :: _) (flatPutG encWood_len (x := ⟨r.name, r.hard, v21⟩) _ hki))) ?_
          refine rl_nil ?_
          refine at_then ?_
          refine ct_seq ?_
          refine ct_reg ?_
          refine rl_val gw_none (ov_move rfl) rfl ?_
          refine rl_val gw_none (ov_assign rfl) rfl ?_
          refine rl_nil ?_
          refine at_then ?_
          refine ct_ret ?_
          refine at_ret1 Try.results74 (ro_tmp rfl) (fun w1 hp => ?_)
          exact ⟨((some b0, cap, pad, xs.set ki.toNat ⟨r.name, r.hard, v21⟩), _, _), ⟨⟨slSameG encWood_len hsl (by simp), by simp; omega, gWood_set hG (show GWood ⟨r.name, r.hard, v21⟩ by have hq := hGr; unfold GWood maxLen In64 at hq ⊢; dsimp only; omega) _⟩, by dsimp only; omega, by dsimp only; omega⟩, by dsimp only; rw [List.length_set], (Hp.sub (Hp.pull (Hp.pull hp 2 rfl) 1 rfl) (List.sublist_append_left [_, _] _))⟩
        ·
          refine ct_seq ?_
          refine ct_reg ?_
          refine rl_val gw_none (ov_eql rfl rfl) rfl ?_
          refine rl_val gw_none (ov_assign rfl) rfl ?_
          refine rl_nil ?_
          refine at_then ?_
          first | refine ct_dec rfl (fun h5 => ?_) (fun h5 => ?_) | refine ct_ndec rfl (fun h5 => ?_) (fun h5 => ?_) | refine ct_eq rfl (fun h5 => ?_) (fun h5 => ?_) | refine ct_ne rfl (fun h5 => ?_) (fun h5 => ?_) | refine ct_not rfl (fun h5 => ?_) (fun h5 => ?_) | refine ct_cond rfl (fun h5 => ?_) (fun h5 => ?_)
          ·
            refine ct_block ?_
            refine ct_loopR (ι := (Option Nat × Nat × List Value × List Wood) × Int × Int) (fun p1 => [(3, sv p1.1.1 p1.1.2.2.2.length p1.1.2.1)]) [(0, _), (2, _), (6, _), (7, _)] (fun p1 => [(some bc, 84, [.slice a lc capc, .int .i64 p1.2.1, .int .u64 p1.2.2]), (p1.1.1, 67, flat encWood p1.1.2.2.2 ++ p1.1.2.2.1), _]) (fun p1 => (Sl 3 p1.1.1 p1.1.2.2.2.length p1.1.2.1 (flat encWood p1.1.2.2.2) p1.1.2.2.1 ∧ p1.1.2.2.2.length ≤ 9 ∧ (∀ y ∈ p1.1.2.2.2, GWood y)) ∧ ki.toNat < p1.1.2.2.2.length ∧ at_ ≤ p1.2.1 ∧ p1.2.1 ≤ at_ + 50 + 2 * p1.1.2.2.2.length) (fun p1 => 20 - p1.1.2.2.2.length) (((some b0, cap, pad, xs), _, _)) (Sub.cons rfl (Sub.cons rfl (Sub.cons rfl (Sub.cons rfl Sub.nil)))) (fun _ hp => (Hp.sub (Hp.pull (Hp.pull (Hp.pull hp 1 rfl) 2 rfl) 2 rfl) (List.sublist_append_left [_, _, _] _))) (by (repeat' (first | exact Sub.nil | refine Sub.cons ?_ ?_)); all_goals (first | rfl | exact lkInt rfl (by omega))) ⟨⟨hsl, by dsimp only; omega, hG⟩, hki, by dsimp only; omega, by dsimp only; omega⟩ (fun p1 hp1 => ?_)
            obtain ⟨⟨bo2, cap2, pad2, ys⟩, at3, s3⟩ := p1
            obtain ⟨⟨hsl2, hy9, hG2⟩, hki2, hat3, hat4⟩ := hp1
            dsimp only at hsl2 hy9 hG2 hki2 hat3 hat4 ⊢
            obtain ⟨b2, rfl⟩ := slSomeG hsl2 (by omega)
            refine ct_seq ?_
            refine ct_seq ?_
            refine ct_reg ?_
            refine rl_val gw_none (ov_move rfl) rfl ?_
            refine rl_val gw_none (ov_len Try.underlying25 rfl) rfl ?_
            refine rl_val gw_none (ov_move rfl) rfl ?_
            refine rl_calld (ι := (Int) × Int × Int) (fun j => .int .i64 j.1) [_] [_, _] (fun j => [(_, 84, [_, .int .i64 j.2.1, .int .u64 j.2.2])]) (fun j => (0 ≤ j.1 ∧ (j.1 < _ ∨ j.1 = 0)) ∧ _ ≤ j.2.1 ∧ j.2.1 ≤ _ + 2) gw_none goes77 rfl (fun _ hq => (hq).pull 0 rfl) (fun w1 hp h0 => pick_c _ _ _ _ _ _ _ _ _ h0 (hcd.call hp (by simp)) (by omega) (by omega)) rfl (fun j22 hj22 => ?_)
            obtain ⟨v22, t22, s22⟩ := j22
            dsimp only at hj22
            try dsimp only
            refine rl_val gw_none (ov_add rfl rfl (by omega)) rfl ?_
            refine rl_val gw_none (ov_lss rfl rfl) rfl ?_
            refine rl_nil ?_
            refine at_then ?_
            first | refine ct_dec rfl (fun h6 => ?_) (fun h6 => ?_) | refine ct_ndec rfl (fun h6 => ?_) (fun h6 => ?_) | refine ct_eq rfl (fun h6 => ?_) (fun h6 => ?_) | refine ct_ne rfl (fun h6 => ?_) (fun h6 => ?_) | refine ct_not rfl (fun h6 => ?_) (fun h6 => ?_) | refine ct_cond rfl (fun h6 => ?_) (fun h6 => ?_)
            ·
              refine ct_skip ?_
              refine at_then ?_
              refine ct_block ?_
              refine ct_reg ?_
              refine rl_val gw_none (ov_move rfl) rfl ?_
              refine rl_val gw_none (ov_move rfl) rfl ?_
              refine rl_val gw_none (ov_len Try.underlying25 rfl) rfl ?_
              refine rl_val gw_none (ov_add rfl rfl (by omega)) rfl ?_
              refine rl_val gw_none (ov_convint Try.underlying3 Try.underlying5 rfl) rfl ?_
              refine rl_bslice Try.underlying45 ze5 sz5 rfl rfl rfl rfl rfl rfl (fun N13 => ?_)
              refine rl_val gw_none (ov_convbytes 0 [_] Try.underlying45 Try.underlying5 Try.underlying9  rfl rfl rfl (fun _ _ h => h)) rfl ?_
              refine rl_val gw_none (ov_build rfl (bu67_0_1_2 _ _ _)) rfl ?_
              refine rl_bslice Try.underlying25 ze67 sz67 rfl rfl rfl rfl rfl rfl (fun N14 => ?_)
              refine rl_appT (flat encWood) ((flat_append _)) [_, _, _] (acc := ys) Try.underlying25 ze67 sz67 rfl rfl by67 rfl rfl rfl hsl2 ([(⟨bs [UInt8.ofNat (IntKind.u8.wrap (97 + (ys.length : Int))).toNat], 50, 5⟩ : Wood)]) rfl (fun w1 hp => hp.sr1 0 rfl rfl (by decide)) (flat_one encWood_one _) (by unfold maxLen; omega) (by omega) rfl (fun boq3 capq3 padq3 hsq3 => ?_)
              refine rl_val gw_none (ov_assign rfl) rfl ?_
              refine rl_nil ?_
              refine at_block ?_
              exact at_backR ((boq3, capq3, padq3, ys ++ [⟨bs [UInt8.ofNat (IntKind.u8.wrap (97 + (ys.length : Int))).toNat], 50, 5⟩]), _, _) ⟨⟨hsq3, by simp; omega, gWood_snoc hG2 (gWood_of (n := bs [UInt8.ofNat (IntKind.u8.wrap (97 + (ys.length : Int))).toNat]) (h := 50) (c := 5) (by show 1 ≤ 1000; decide) (by omega) (by omega))⟩, by simp; omega, by dsimp only; omega, by simp; omega⟩ (by simp; omega) (by (repeat' (first | exact Sub.nil | refine Sub.cons ?_ ?_)); all_goals (first | rfl | exact lkInt rfl (by omega))) (Sub.cons rfl (Sub.cons rfl (Sub.cons rfl (Sub.cons rfl Sub.nil)))) (fun _ hp => (Hp.sub (Hp.pull (Hp.pull (Hp.pull hp 4 rfl) 4 rfl) 4 rfl) (List.sublist_append_left [_, _, _] _)))
            ·
              refine ct_exit ?_
              refine at_then_exit ?_
              refine at_then_exit ?_
              refine at_block_hit ?_
              refine at_block ?_
              refine at_then ?_
              refine ct_seq ?_
              refine ct_reg ?_
              refine rl_val gw_none (ov_move rfl) rfl ?_
              refine rl_val gw_none (ov_move rfl) rfl ?_
              refine rl_val gw_none (ov_loadp 2 ag67 rfl rfl (vs := encWood r) rfl rfl) rfl ?_
              first | refine rl_val gw_none (ov_ix Try.underlying25 sz67 rfl rfl _ rfl (by omega)) rfl ?_ | refine rl_val gw_none (ov_ix Try.underlying25 sz67 rfl rfl (k) (by omega) (by omega)) rfl ?_ | refine rl_val gw_none (ov_ix Try.underlying25 sz67 rfl rfl (ki.toNat) (by omega) (by omega)) rfl ?_ | refine rl_val gw_none (ov_ix Try.underlying25 sz67 rfl rfl (0) (by omega) (by omega)) rfl ?_
              refine rl_store [_] sz67 rfl rfl rfl rfl rfl (by rw [List.length_append, flat_length encWood_len]; omega) ?_
              refine rl_mem (fun _ hq => hq.cong (congrArg (fun x => _ :: (_, _, x) :: _) (flatPutG encWood_len (x := r) _ hki2))) ?_
              refine rl_nil ?_
              refine at_then ?_
              refine ct_seq ?_
              refine ct_reg ?_
              refine rl_val gw_none (ov_move rfl) rfl ?_
              refine rl_val gw_none (ov_assign rfl) rfl ?_
              refine rl_nil ?_
              refine at_then ?_
              refine ct_ret ?_
              refine at_ret1 Try.results74 (ro_tmp rfl) (fun w1 hp => ?_)
              exact ⟨((some b2, cap2, pad2, ys.set ki.toNat r), _, _), ⟨⟨slSameG encWood_len hsl2 (by simp), by simp; omega, gWood_set hG2 hGr _⟩, by dsimp only; omega, by dsimp only; omega⟩, by dsimp only; rw [List.length_set], (Hp.sub (Hp.pull (Hp.pull hp 1 rfl) 1 rfl) (List.sublist_append_left [_, _] _))⟩
          ·
            refine ct_seq ?_
            refine ct_reg ?_
            refine rl_val gw_none (ov_eql rfl rfl) rfl ?_
            refine rl_val gw_none (ov_assign rfl) rfl ?_
            refine rl_nil ?_
            refine at_then ?_
            first | refine ct_dec rfl (fun h7 => ?_) (fun h7 => ?_) | refine ct_ndec rfl (fun h7 => ?_) (fun h7 => ?_) | refine ct_eq rfl (fun h7 => ?_) (fun h7 => ?_) | refine ct_ne rfl (fun h7 => ?_) (fun h7 => ?_) | refine ct_not rfl (fun h7 => ?_) (fun h7 => ?_) | refine ct_cond rfl (fun h7 => ?_) (fun h7 => ?_)
            ·
              refine ct_seq ?_
              refine ct_reg ?_
              refine rl_val gw_none (ov_move rfl) rfl ?_
              refine rl_val gw_none (ov_subh Try.underlying25 sz67 rfl rfl (0) (by omega) (by omega)) rfl ?_
              refine rl_val gw_none (ov_assign rfl) rfl ?_
              refine rl_nil ?_
              refine at_then ?_
              refine ct_ret ?_
              refine at_block_ret ?_
              refine at_then_ret ?_
              refine at_ret1 Try.results74 (ro_tmp rfl) (fun w1 hp => ?_)
              exact ⟨((some b0, cap, flat encWood xs ++ pad, []), _, _), ⟨⟨slZero hsl, Nat.zero_le _, fun y hy => by cases hy⟩, by dsimp only; omega, by dsimp only; omega⟩, rfl, (Hp.sub (Hp.pull (Hp.pull hp 2 rfl) 1 rfl) (List.sublist_append_left [_, _] _))⟩
            ·
              refine ct_skip ?_
              refine at_block ?_
              refine at_then ?_
              refine ct_seq ?_
              refine ct_reg ?_
              refine rl_val gw_none (ov_move rfl) rfl ?_
              refine rl_val gw_none (ov_move rfl) rfl ?_
              refine rl_val gw_none (ov_loadp 1 ag67 rfl rfl (vs := encWood r) rfl rfl) rfl ?_
              first | refine rl_val gw_none (ov_ix Try.underlying25 sz67 rfl rfl _ rfl (by omega)) rfl ?_ | refine rl_val gw_none (ov_ix Try.underlying25 sz67 rfl rfl (k) (by omega) (by omega)) rfl ?_ | refine rl_val gw_none (ov_ix Try.underlying25 sz67 rfl rfl (ki.toNat) (by omega) (by omega)) rfl ?_ | refine rl_val gw_none (ov_ix Try.underlying25 sz67 rfl rfl (0) (by omega) (by omega)) rfl ?_
              refine rl_store [_, _] sz67 rfl rfl rfl rfl rfl (by rw [List.length_append, flat_length encWood_len]; omega) ?_
              refine rl_mem (fun _ hq => hq.cong (congrArg (fun x => _ :: _ :: (_, _, x) :: _) (flatPutG encWood_len (x := r) _ hki))) ?_
              refine rl_nil ?_
              refine at_then ?_
              refine ct_seq ?_
              refine ct_reg ?_
              refine rl_val gw_none (ov_move rfl) rfl ?_
              refine rl_val gw_none (ov_assign rfl) rfl ?_
              refine rl_nil ?_
              refine at_then ?_
              refine ct_ret ?_
              refine at_ret1 Try.results74 (ro_tmp rfl) (fun w1 hp => ?_)
              exact ⟨((some b0, cap, pad, xs.set ki.toNat r), _, _), ⟨⟨slSameG encWood_len hsl (by simp), by simp; omega, gWood_set hG hGr _⟩, by dsimp only; omega, by dsimp only; omega⟩, by dsimp only; rw [List.length_set], (Hp.sub (Hp.pull (Hp.pull hp 2 rfl) 1 rfl) (List.sublist_append_left [_, _] _))⟩
end Go.Proofs.Ytaajkamfeaafpaa
