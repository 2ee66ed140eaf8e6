import Derived.Test.YtnnhkpecgchgiaaYc
import Derived.Test.YtnnhkpecgchgiaaTa
import Derived.KernelRfl
set_option linter.unusedVariables false
set_option linter.unusedSimpArgs false
namespace Go.Proofs.Ytnnhkpecgchgiaa
open Go Go.RowKit K
theorem DrawCountDown_c (a : Option Addr) (lc capc : Nat) (w : World) (hcd : CodeOk w [] a lc) : Calls Try.prog 62 ([.slice a lc capc]).toArray w (fun e w' => ∃ q : (Int × Int × Option Nat × Nat × List Value × List IntA2) × Int, (((-10 ≤ q.1.1 ∧ q.1.1 ≤ 10) ∧ (-10 ≤ q.1.2.1 ∧ q.1.2.1 ≤ 10) ∧ Sl 2 q.1.2.2.1 q.1.2.2.2.2.2.length q.1.2.2.2.1 (flat encIntA2 q.1.2.2.2.2.2) q.1.2.2.2.2.1 ∧ (1 ≤ q.1.2.2.2.2.2.length ∧ q.1.2.2.2.2.2.length ≤ 10) ∧ (∀ y ∈ q.1.2.2.2.2.2, GIntA2 y)) ∧ In64 q.2) ∧ e = .returned (.tuple #[.agg [.int .i64 q.1.1, .int .i64 q.1.2.1, sv q.1.2.2.1 q.1.2.2.2.2.2.length q.1.2.2.2.1].toArray, .int .i64 q.2]) ∧ Hp ⟨w, []⟩ [(q.1.2.2.1, 81, flat encIntA2 q.1.2.2.2.2.2 ++ q.1.2.2.2.2.1)] w') := by
  refine calls_ct Try.func62 Try.ntmps62 rfl rfl ?_
  refine ct_seq ?_
  refine ct_reg ?_
  refine rl_alloc ze26 rfl (fun N1 => ?_)
  refine rl_val gw_none (ov_assign rfl) rfl ?_
  refine rl_nil ?_
  refine at_then ?_
  refine ct_seq ?_
  refine ct_reg ?_
  refine rl_val gw_none (ov_move rfl) rfl ?_
  refine rl_val gw_none (ov_build rfl (bu109_0 _ _ _)) rfl ?_
  refine rl_box rfl rfl (fun N2 => ?_)
  refine rl_val gw_none (ov_assign rfl) rfl ?_
  refine rl_nil ?_
  refine at_then ?_
  refine ct_seq ?_
  refine ct_reg ?_
  refine rl_val gw_none (ov_move rfl) rfl ?_
  refine rl_calld (ι := (Int × Int × Option Nat × Nat × List Value × List IntA2) × Int × Int) (fun j => .agg [.int .i64 j.1.1, .int .i64 j.1.2.1, sv j.1.2.2.1 j.1.2.2.2.2.2.length j.1.2.2.2.1].toArray) [_] [_] (fun j => [(_, 109, [_, .int .i64 j.2.1, .int .u64 j.2.2]), (j.1.2.2.1, 81, flat encIntA2 j.1.2.2.2.2.2 ++ j.1.2.2.2.2.1)]) (fun j => ((-10 ≤ j.1.1 ∧ j.1.1 ≤ 10) ∧ (-10 ≤ j.1.2.1 ∧ j.1.2.1 ≤ 10) ∧ Sl 2 j.1.2.2.1 j.1.2.2.2.2.2.length j.1.2.2.2.1 (flat encIntA2 j.1.2.2.2.2.2) j.1.2.2.2.2.1 ∧ (1 ≤ j.1.2.2.2.2.2.length ∧ j.1.2.2.2.2.2.length ≤ 10) ∧ (∀ y ∈ j.1.2.2.2.2.2, GIntA2 y)) ∧ _ ≤ j.2.1 ∧ j.2.1 ≤ _ + 200) gw_none goes128 rfl (fun _ hq => (hq).pull 0 rfl) (fun w1 hp h0 => standard_d _ _ _ _ _ _ _ _ h0 (hcd.call hp (by simp)) (by omega)) rfl (fun jf hjf => ?_)
  obtain ⟨⟨u, l, bo, cap, pad, xs⟩, tjf, sjf⟩ := jf
  obtain ⟨⟨hu, hl, hsl, hxl, hG⟩, ht⟩ := hjf
  dsimp only at hu hl hsl hxl hG ht
  try dsimp only
  obtain ⟨b0, rfl⟩ := slSomeG hsl (by omega)
  have zu : In64 u := by unfold In64; omega
  have zl : In64 l := by unfold In64; omega
  refine rl_alloc ze26 rfl (fun N3 => ?_)
  refine rl_store [] sz26 rfl rfl rfl rfl rfl (Nat.le_of_ble_eq_true rfl) ?_
  refine rl_nil ?_
  refine at_then ?_
  refine ct_seq ?_
  refine ct_seq ?_
  refine ct_reg ?_
  first | refine rl_val gw_none (ov_loadall 0 ag26 rfl rfl rfl) rfl ?_ | refine rl_val gw_none (ov_loadp 0 ag26 rfl rfl (vs := [_, _, _]) rfl rfl) rfl ?_ | refine rl_val gw_none (ov_loada 0 ag26 rfl rfl rfl (by assumption)) rfl ?_
  refine rl_callv gw_none goes74 rfl (fun w1 hp => l2Standard_c u l xs _ _ zu zl hG (hp.slsr 2 rfl hsl)) rfl ?_
  refine rl_val gw_none (ov_move rfl) rfl ?_
  refine rl_split (t := 13) rfl (fun g1 => ?_) (fun g1 => ?_)
  ·
    have hnb := numF_all (goodB_f g1)
    refine rl_val (gw_some rfl rfl g1) (ov_move rfl) rfl ?_
    refine rl_calld (ι := (Bool) × Int × Int) (fun j => .bool j.1) [_] [_, _, _] (fun j => [(_, 109, [_, .int .i64 j.2.1, .int .u64 j.2.2])]) (fun j => True ∧ _ ≤ j.2.1 ∧ j.2.1 ≤ _ + 2) (gw_some rfl rfl g1) goes129 rfl (fun _ hq => (hq).pull 1 rfl) (fun w1 hp h0 => one_c _ _ _ _ _ _ _ _ _ h0 (hcd.call hp (by simp)) (by omega) (by omega)) rfl (fun j31 hj31 => ?_)
    obtain ⟨v31, t31, s31⟩ := j31
    dsimp only at hj31
    try dsimp only
    refine rl_val (gw_some rfl rfl g1) (ov_not rfl) rfl ?_
    refine rl_val gw_none (ov_pick_t rfl g1 rfl) rfl ?_
    refine rl_nil ?_
    refine at_then ?_
    first | refine ct_dec rfl (fun h1 => ?_) (fun h1 => ?_) | refine ct_ndec rfl (fun h1 => ?_) (fun h1 => ?_) | refine ct_eq rfl (fun h1 => ?_) (fun h1 => ?_) | refine ct_ne rfl (fun h1 => ?_) (fun h1 => ?_) | refine ct_not rfl (fun h1 => ?_) (fun h1 => ?_) | refine ct_cond rfl (fun h1 => ?_) (fun h1 => ?_)
    ·
      refine ct_seq ?_
      refine ct_fl 9 [0, 1, 2, 3, 4, 5, 6, 7, 8, 9] ⟨4, [5, 8], [5, 8], [4], [1, 2], [0]⟩ (fun q => if q = 4 then (⟨3, [.int .i64 1, .int .i64 2, .int .i64 5, .int .i64 12, .int .i64 50, .int .i64 51], fun N => sv (some N) 6 6⟩ : Soft) else ⟨0, [], fun _ => undef⟩) (by kernel_rfl) (by kernel_rfl) ?_
      refine qf_step rfl ?_
      first | refine qg_vall 1 rfl rfl rfl gw_none (ov_loadall 0 ag26 rfl rfl rfl) rfl ?_ | refine qg_vall 1 rfl rfl rfl gw_none (ov_loada 0 ag26 rfl rfl rfl (by assumption)) rfl ?_
      refine qf_step rfl ?_
      first | refine qg_valm rfl rfl gw_none (ov_loadall 1 ag26 rfl rfl rfl) rfl ?_ | refine qg_valm rfl rfl gw_none (ov_loadp 1 ag26 rfl rfl (vs := [_, _, _]) rfl rfl) rfl ?_ | refine qg_valm rfl rfl gw_none (ov_loada 1 ag26 rfl rfl rfl (by assumption)) rfl ?_
      refine qf_step rfl ?_
      refine qg_callv rfl rfl gw_none goes127 rfl (fun w1 hp => l2Number_c u l xs _ _ zu zl hG (hp.slsr 2 rfl hsl) (goodB_f g1)) rfl ?_
      refine qf_step rfl ?_
      refine qg_val rfl gw_none (fun _ => (ov_move rfl)) rfl ?_
      refine qf_mark ⟨⟨0, rfl, soft_bslice rfl rfl Try.underlying27 ze3 sz3 rfl rfl rfl rfl rfl rfl rfl⟩, True.intro⟩ ?_
      refine qg_soft rfl rfl rfl (fun N4 => ?_)
      refine qf_step rfl ?_
      refine qg_calld (ι := (Int) × Int × Int) (fun j => .int .i64 j.1) [_, _] [_, _, _] (fun j => [(_, 109, [_, .int .i64 j.2.1, .int .u64 j.2.2])]) (fun j => (1 ≤ j.1 ∧ j.1 ≤ 51) ∧ _ ≤ j.2.1 ∧ j.2.1 ≤ _ + 2) rfl rfl rfl (fun _ _ => ⟨⟨1, rfl⟩, True.intro⟩) goes111 rfl (fun _ _ hq => ((hq).pull 0 rfl).pull 1 rfl) (fun w1 hp h0 => among_c 1 51 _ _ _ _ _ _ _ _ _ _ _ _ h0 (hcd.call hp (by simp)) (by omega) (by first | rfl | decide | (simp [okIntsR]; done) | (simp [okIntsR]; omega) | (simp [okIntsR, Value.cells]; omega)) (by first | decide | (simp; done) | (simp; omega) | omega | (simp [Value.cells]; done) | (simp [Value.cells]; omega))) rfl (fun ja hja => ?_)
      obtain ⟨va, ta, sa⟩ := ja
      dsimp only at hja
      try dsimp only
      have hnb := numF_all (goodB_f g1)
      have hdv : 0 ≤ numF xs / va ∧ numF xs / va ≤ numF xs := ⟨Int.ediv_nonneg (by omega) (by omega), Int.ediv_le_self _ (by omega)⟩
      refine qf_step rfl ?_
      refine qg_val rfl gw_none (fun _ => (ov_quo rfl rfl (by omega) (by omega) (by omega))) rfl ?_
      refine qf_step rfl ?_
      refine qg_val rfl gw_none (fun _ => (ov_add rfl rfl (by omega))) rfl ?_
      refine qf_step rfl ?_
      refine qg_store [_, _, _] rfl rfl rfl ⟨⟨1, rfl⟩, True.intro⟩ sz26 rfl rfl rfl rfl rfl (Nat.le_of_ble_eq_true rfl) ?_
      refine qf_nil ?_
      refine rl_val gw_none (ov_assign rfl) rfl ?_
      refine rl_nil ?_
      refine at_then ?_
      refine ct_ret ?_
      refine at_then_ret ?_
      refine at_ret2 Try.results62 (ro_cell 3 ag26 rfl rfl rfl) (ro_tmp rfl) (fun w1 hp => ?_)
      exact ⟨((u, l, some b0, cap, pad, xs), 1 + numF xs / va), ⟨⟨hu, hl, hsl, hxl, hG⟩, by unfold In64; dsimp only; omega⟩, rfl, (Hp.sub (Hp.pull hp 2 rfl) (List.sublist_append_left [_] _))⟩
    ·
      refine ct_skip ?_
      refine at_then ?_
      refine ct_seq ?_
      refine ct_fl 4 [0, 1, 2, 3, 4, 5] ⟨2, [3], [3], [2], [], [0]⟩ (fun q => if q = 2 then (⟨3, [.int .i64 1, .int .i64 3, .int .i64 10, .int .i64 100, .int .i64 0, .int .i64 (-1)], fun N => sv (some N) 6 6⟩ : Soft) else ⟨0, [], fun _ => undef⟩) (by kernel_rfl) (by kernel_rfl) ?_
      refine qf_step rfl ?_
      first | refine qg_vall 1 rfl rfl rfl gw_none (ov_loadall 0 ag26 rfl rfl rfl) rfl ?_ | refine qg_vall 1 rfl rfl rfl gw_none (ov_loada 0 ag26 rfl rfl rfl (by assumption)) rfl ?_
      refine qf_step rfl ?_
      refine qg_val rfl gw_none (fun _ => (ov_move rfl)) rfl ?_
      refine qf_mark ⟨⟨0, rfl, soft_bslice rfl rfl Try.underlying27 ze3 sz3 rfl rfl rfl rfl rfl rfl rfl⟩, True.intro⟩ ?_
      refine qg_soft rfl rfl rfl (fun N5 => ?_)
      refine qf_step rfl ?_
      refine qg_calld (ι := (Int) × Int × Int) (fun j => .int .i64 j.1) [_, _] [_, _, _] (fun j => [(_, 109, [_, .int .i64 j.2.1, .int .u64 j.2.2])]) (fun j => ((-10000000000) ≤ j.1 ∧ j.1 ≤ 10000000000) ∧ _ ≤ j.2.1 ∧ j.2.1 ≤ _ + 2) rfl rfl rfl (fun _ _ => ⟨⟨1, rfl⟩, True.intro⟩) goes111 rfl (fun _ _ hq => ((hq).pull 0 rfl).pull 1 rfl) (fun w1 hp h0 => among_c (-10000000000) 10000000000 _ _ _ _ _ _ _ _ _ _ _ _ h0 (hcd.call hp (by simp)) (by omega) (by first | rfl | decide | (simp [okIntsR]; done) | (simp [okIntsR]; omega) | (simp [okIntsR, Value.cells]; omega)) (by first | decide | (simp; done) | (simp; omega) | omega | (simp [Value.cells]; done) | (simp [Value.cells]; omega))) rfl (fun ja hja => ?_)
      obtain ⟨va, ta, sa⟩ := ja
      dsimp only at hja
      try dsimp only
      refine qf_nil ?_
      refine rl_store [_, _, _] sz26 rfl rfl rfl rfl rfl (Nat.le_of_ble_eq_true rfl) ?_
      refine rl_val gw_none (ov_assign rfl) rfl ?_
      refine rl_nil ?_
      refine at_then ?_
      refine ct_ret ?_
      refine at_ret2 Try.results62 (ro_cell 3 ag26 rfl rfl rfl) (ro_tmp rfl) (fun w1 hp => ?_)
      exact ⟨((u, l, some b0, cap, pad, xs), va), ⟨⟨hu, hl, hsl, hxl, hG⟩, by unfold In64; dsimp only; omega⟩, rfl, (Hp.sub (Hp.pull hp 2 rfl) (List.sublist_append_left [_] _))⟩
  ·
    have g1' := g1
    try simp only [Bool.not_eq_true', Bool.not_eq_false', Bool.not_not, decide_eq_true_eq, decide_eq_false_iff_not, beq_iff_eq, beq_eq_false_iff_ne, bne_iff_ne, bne_eq_false_iff_eq, Bool.and_eq_true, Bool.or_eq_true, Bool.and_eq_false_iff, Bool.or_eq_false_iff, inB] at g1'
    refine rl_skip (gw_not rfl rfl g1) rfl ?_
    refine rl_skip (gw_not rfl rfl g1) rfl ?_
    refine rl_skip (gw_not rfl rfl g1) rfl ?_
    refine rl_val gw_none (ov_pick_f rfl g1 rfl) rfl ?_
    refine rl_nil ?_
    refine at_then ?_
    refine ct_false rfl rfl ?_
    refine ct_skip ?_
    refine at_then ?_
    refine ct_seq ?_
    refine ct_fl 4 [0, 1, 2, 3, 4, 5] ⟨2, [3], [3], [2], [], [0]⟩ (fun q => if q = 2 then (⟨3, [.int .i64 1, .int .i64 3, .int .i64 10, .int .i64 100, .int .i64 0, .int .i64 (-1)], fun N => sv (some N) 6 6⟩ : Soft) else ⟨0, [], fun _ => undef⟩) (by kernel_rfl) (by kernel_rfl) ?_
    refine qf_step rfl ?_
    first | refine qg_vall 0 rfl rfl rfl gw_none (ov_loadall 0 ag26 rfl rfl rfl) rfl ?_ | refine qg_vall 0 rfl rfl rfl gw_none (ov_loada 0 ag26 rfl rfl rfl (by assumption)) rfl ?_
    refine qf_step rfl ?_
    refine qg_val rfl gw_none (fun _ => (ov_move rfl)) rfl ?_
    refine qf_mark ⟨⟨0, rfl, soft_bslice rfl rfl Try.underlying27 ze3 sz3 rfl rfl rfl rfl rfl rfl rfl⟩, True.intro⟩ ?_
    refine qg_soft rfl rfl rfl (fun N6 => ?_)
    refine qf_step rfl ?_
    refine qg_calld (ι := (Int) × Int × Int) (fun j => .int .i64 j.1) [_, _] [_, _, _] (fun j => [(_, 109, [_, .int .i64 j.2.1, .int .u64 j.2.2])]) (fun j => ((-10000000000) ≤ j.1 ∧ j.1 ≤ 10000000000) ∧ _ ≤ j.2.1 ∧ j.2.1 ≤ _ + 2) rfl rfl rfl (fun _ _ => ⟨⟨1, rfl⟩, True.intro⟩) goes111 rfl (fun _ _ hq => ((hq).pull 0 rfl).pull 2 rfl) (fun w1 hp h0 => among_c (-10000000000) 10000000000 _ _ _ _ _ _ _ _ _ _ _ _ h0 (hcd.call hp (by simp)) (by omega) (by first | rfl | decide | (simp [okIntsR]; done) | (simp [okIntsR]; omega) | (simp [okIntsR, Value.cells]; omega)) (by first | decide | (simp; done) | (simp; omega) | omega | (simp [Value.cells]; done) | (simp [Value.cells]; omega))) rfl (fun ja hja => ?_)
    obtain ⟨va, ta, sa⟩ := ja
    dsimp only at hja
    try dsimp only
    refine qf_nil ?_
    refine rl_store [_, _, _] sz26 rfl rfl rfl rfl rfl (Nat.le_of_ble_eq_true rfl) ?_
    refine rl_val gw_none (ov_assign rfl) rfl ?_
    refine rl_nil ?_
    refine at_then ?_
    refine ct_ret ?_
    refine at_ret2 Try.results62 (ro_cell 3 ag26 rfl rfl rfl) (ro_tmp rfl) (fun w1 hp => ?_)
    exact ⟨((u, l, some b0, cap, pad, xs), va), ⟨⟨hu, hl, hsl, hxl, hG⟩, by unfold In64; dsimp only; omega⟩, rfl, (Hp.sub (Hp.pull hp 2 rfl) (List.sublist_append_left [_] _))⟩

theorem DrawHowOften_c (a : Option Addr) (lc capc : Nat) (w : World) (hcd : CodeOk w [] a lc) : Calls Try.prog 67 ([.slice a lc capc]).toArray w (fun e w' => ∃ q : (Int × Int × Option Nat × Nat × List Value × List IntA2) × Int, (((-10 ≤ q.1.1 ∧ q.1.1 ≤ 10) ∧ (-10 ≤ q.1.2.1 ∧ q.1.2.1 ≤ 10) ∧ Sl 2 q.1.2.2.1 q.1.2.2.2.2.2.length q.1.2.2.2.1 (flat encIntA2 q.1.2.2.2.2.2) q.1.2.2.2.2.1 ∧ (1 ≤ q.1.2.2.2.2.2.length ∧ q.1.2.2.2.2.2.length ≤ 10) ∧ (∀ y ∈ q.1.2.2.2.2.2, GIntA2 y)) ∧ In64 q.2) ∧ e = .returned (.tuple #[.agg [.int .i64 q.1.1, .int .i64 q.1.2.1, sv q.1.2.2.1 q.1.2.2.2.2.2.length q.1.2.2.2.1].toArray, .int .i64 q.2]) ∧ Hp ⟨w, []⟩ [(q.1.2.2.1, 81, flat encIntA2 q.1.2.2.2.2.2 ++ q.1.2.2.2.2.1)] w') := by
  refine calls_ct Try.func67 Try.ntmps67 rfl rfl ?_
  refine ct_seq ?_
  refine ct_reg ?_
  refine rl_alloc ze26 rfl (fun N1 => ?_)
  refine rl_val gw_none (ov_assign rfl) rfl ?_
  refine rl_nil ?_
  refine at_then ?_
  refine ct_seq ?_
  refine ct_reg ?_
  refine rl_val gw_none (ov_move rfl) rfl ?_
  refine rl_val gw_none (ov_build rfl (bu109_0 _ _ _)) rfl ?_
  refine rl_box rfl rfl (fun N2 => ?_)
  refine rl_val gw_none (ov_assign rfl) rfl ?_
  refine rl_nil ?_
  refine at_then ?_
  refine ct_seq ?_
  refine ct_reg ?_
  refine rl_val gw_none (ov_move rfl) rfl ?_
  refine rl_calld (ι := (Int × Int × Option Nat × Nat × List Value × List IntA2) × Int × Int) (fun j => .agg [.int .i64 j.1.1, .int .i64 j.1.2.1, sv j.1.2.2.1 j.1.2.2.2.2.2.length j.1.2.2.2.1].toArray) [_] [_] (fun j => [(_, 109, [_, .int .i64 j.2.1, .int .u64 j.2.2]), (j.1.2.2.1, 81, flat encIntA2 j.1.2.2.2.2.2 ++ j.1.2.2.2.2.1)]) (fun j => ((-10 ≤ j.1.1 ∧ j.1.1 ≤ 10) ∧ (-10 ≤ j.1.2.1 ∧ j.1.2.1 ≤ 10) ∧ Sl 2 j.1.2.2.1 j.1.2.2.2.2.2.length j.1.2.2.2.1 (flat encIntA2 j.1.2.2.2.2.2) j.1.2.2.2.2.1 ∧ (1 ≤ j.1.2.2.2.2.2.length ∧ j.1.2.2.2.2.2.length ≤ 10) ∧ (∀ y ∈ j.1.2.2.2.2.2, GIntA2 y)) ∧ _ ≤ j.2.1 ∧ j.2.1 ≤ _ + 200) gw_none goes128 rfl (fun _ hq => (hq).pull 0 rfl) (fun w1 hp h0 => standard_d _ _ _ _ _ _ _ _ h0 (hcd.call hp (by simp)) (by omega)) rfl (fun jf hjf => ?_)
  obtain ⟨⟨u, l, bo, cap, pad, xs⟩, tjf, sjf⟩ := jf
  obtain ⟨⟨hu, hl, hsl, hxl, hG⟩, ht⟩ := hjf
  dsimp only at hu hl hsl hxl hG ht
  try dsimp only
  obtain ⟨b0, rfl⟩ := slSomeG hsl (by omega)
  have zu : In64 u := by unfold In64; omega
  have zl : In64 l := by unfold In64; omega
  refine rl_val gw_none (ov_move rfl) rfl ?_
  refine rl_bslice Try.underlying27 ze3 sz3 rfl rfl rfl rfl rfl rfl (fun N3 => ?_)
  refine rl_calld (ι := (Int) × Int × Int) (fun j => .int .i64 j.1) [_, _] [_, _] (fun j => [(_, 109, [_, .int .i64 j.2.1, .int .u64 j.2.2])]) (fun j => ((-10000000000) ≤ j.1 ∧ j.1 ≤ 10000000000) ∧ _ ≤ j.2.1 ∧ j.2.1 ≤ _ + 2) gw_none goes111 rfl (fun _ hq => ((hq).pull 0 rfl).pull 1 rfl) (fun w1 hp h0 => among_c (-10000000000) 10000000000 _ _ _ _ _ _ _ _ _ _ _ _ h0 (hcd.call hp (by simp)) (by omega) (by first | rfl | decide | (simp [okIntsR]; done) | (simp [okIntsR]; omega) | (simp [okIntsR, Value.cells]; omega)) (by first | decide | (simp; done) | (simp; omega) | omega | (simp [Value.cells]; done) | (simp [Value.cells]; omega))) rfl (fun ja hja => ?_)
  obtain ⟨va, ta, sa⟩ := ja
  dsimp only at hja
  try dsimp only
  refine rl_store [_, _] sz26 rfl rfl rfl rfl rfl (Nat.le_of_ble_eq_true rfl) ?_
  refine rl_val gw_none (ov_assign rfl) rfl ?_
  refine rl_nil ?_
  refine at_then ?_
  refine ct_ret ?_
  refine at_ret2 Try.results67 (ro_cell 2 ag26 rfl rfl rfl) (ro_tmp rfl) (fun w1 hp => ?_)
  exact ⟨((u, l, some b0, cap, pad, xs), va), ⟨⟨hu, hl, hsl, hxl, hG⟩, by unfold In64; dsimp only; omega⟩, rfl, (Hp.sub (Hp.pull hp 1 rfl) (List.sublist_append_left [_] _))⟩
end Go.Proofs.Ytnnhkpecgchgiaa
